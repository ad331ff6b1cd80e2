import JvmDerived
import JvmDerived.Pilot.@@N@@Statement
import JvmDerived.Pilot.@@N@@Code
set_option linter.unusedVariables false
set_option linter.unusedSimpArgs false
namespace Jvm.RoadKit
open Sem ClassFile Op Lib Jvm.Stand Jvm.Free Jvm.LawKit
section New
variable {p : Program} {l : Launch} {e : Env} {R : Room} {s : State} {m : MethodId} {args : Array Value} {below : List Frame} {meth : Method} {c : Code} {T : State} {locs : List Loc} {cells slots : Nat}
theorem retI (X : Stand p l e R s m args below meth c T locs cells slots) (hx : p.tables.exec = Jvm.exec) {pc : Nat} {Ls : Array Slot} {z : Int32} {rest : List Value} (hret : meth.sig.returnType = some .int) (hd : decode c.code pc = .ok (.ireturn, 1)) {fs : List Frame}
    (hl : ∀ (f : JFrame) (acts : List Action), f.method = m → f.locked = none → f.entered = [] → (doReturn e (T.setTop f) acts (some (.int z))).1 = T.setFrames fs) : Steps p.tables e below (T.setTop (mkF m pc Ls (.int z :: rest))) (T.setFrames fs) := by
  have hm' : T.vm.method? m = some meth := X.method'
  have hn : narrow .int (.int z) = .int z := rfl
  show Steps p.tables e below (T.setTop { method := m, pc := pc, locals := Ls, stack := _ :: rest, locked := none }) _
  jvm_step X.here [X.here.top, hx, hd, hm', hret, hn]
  first | (intro acts; rw [hl _ acts rfl rfl rfl]) | rw [hl _ _ rfl rfl rfl]
  exact Steps.refl _
end New
end Jvm.RoadKit
namespace Jvm.Pilot.@@N@@
open Jvm Jvm.ClassFile Sem Op Lib Jvm.Free Jvm.Stand Jvm.LawKit Jvm.RoadKit Bundle Jvm.Pilot.@@N@@.Jvm.D
/-! TABLES of this claim: printed by claim.py -/
def k0 : Nat := 0
def cName : String := "WindowFuncEngine"
def cN : Nat := 27
def nF : Nat := 27
def kName (k : Nat) : String := bif Nat.beq k 0 then "WindowFuncEngineL3" else "WindowFuncEngine"
def fNm (k : Nat) : String := (bif Nat.ble 13 k then (bif Nat.ble 20 k then (bif Nat.ble 23 k then (bif Nat.ble 25 k then (bif Nat.ble 26 k then "aggMax" else "aggMin") else (bif Nat.ble 24 k then "aggRows" else "aggCount")) else (bif Nat.ble 21 k then (bif Nat.ble 22 k then "aggSum" else "curPos") else "sortedLen")) else (bif Nat.ble 16 k then (bif Nat.ble 18 k then (bif Nat.ble 19 k then "computed" else "fnArg") else (bif Nat.ble 17 k then "fn" else "endOff")) else (bif Nat.ble 14 k then (bif Nat.ble 15 k then "endKind" else "startOff") else "startKind"))) else (bif Nat.ble 6 k then (bif Nat.ble 9 k then (bif Nat.ble 11 k then (bif Nat.ble 12 k then "mode" else "nulls") else (bif Nat.ble 10 k then "direction" else "rows")) else (bif Nat.ble 7 k then (bif Nat.ble 8 k then "cap" else "sorted") else "frameCnt")) else (bif Nat.ble 3 k then (bif Nat.ble 4 k then (bif Nat.ble 5 k then "resNull" else "res") else "flg") else (bif Nat.ble 1 k then (bif Nat.ble 2 k then "vals" else "keys") else "part"))))
def fDs (k : Nat) : String := (bif Nat.ble 13 k then (bif Nat.ble 20 k then (bif Nat.ble 23 k then (bif Nat.ble 25 k then (bif Nat.ble 26 k then "I" else "I") else (bif Nat.ble 24 k then "I" else "I")) else (bif Nat.ble 21 k then (bif Nat.ble 22 k then "J" else "I") else "I")) else (bif Nat.ble 16 k then (bif Nat.ble 18 k then (bif Nat.ble 19 k then "Z" else "I") else (bif Nat.ble 17 k then "I" else "I")) else (bif Nat.ble 14 k then (bif Nat.ble 15 k then "I" else "I") else "I"))) else (bif Nat.ble 6 k then (bif Nat.ble 9 k then (bif Nat.ble 11 k then (bif Nat.ble 12 k then "I" else "I") else (bif Nat.ble 10 k then "I" else "I")) else (bif Nat.ble 7 k then (bif Nat.ble 8 k then "I" else "[I") else "[I")) else (bif Nat.ble 3 k then (bif Nat.ble 4 k then (bif Nat.ble 5 k then "[Z" else "[J") else "[I") else (bif Nat.ble 1 k then (bif Nat.ble 2 k then "[I" else "[I") else "[I"))))
def fTy (k : Nat) : FieldType := (bif Nat.ble 13 k then (bif Nat.ble 20 k then (bif Nat.ble 23 k then (bif Nat.ble 25 k then (bif Nat.ble 26 k then .int else .int) else (bif Nat.ble 24 k then .int else .int)) else (bif Nat.ble 21 k then (bif Nat.ble 22 k then .long else .int) else .int)) else (bif Nat.ble 16 k then (bif Nat.ble 18 k then (bif Nat.ble 19 k then .boolean else .int) else (bif Nat.ble 17 k then .int else .int)) else (bif Nat.ble 14 k then (bif Nat.ble 15 k then .int else .int) else .int))) else (bif Nat.ble 6 k then (bif Nat.ble 9 k then (bif Nat.ble 11 k then (bif Nat.ble 12 k then .int else .int) else (bif Nat.ble 10 k then .int else .int)) else (bif Nat.ble 7 k then (bif Nat.ble 8 k then .int else (.array .int)) else (.array .int))) else (bif Nat.ble 3 k then (bif Nat.ble 4 k then (bif Nat.ble 5 k then (.array .boolean) else (.array .long)) else (.array .int)) else (bif Nat.ble 1 k then (bif Nat.ble 2 k then (.array .int) else (.array .int)) else (.array .int)))))
def fFin (k : Nat) : Bool := (bif Nat.ble 13 k then (bif Nat.ble 20 k then (bif Nat.ble 23 k then (bif Nat.ble 25 k then (bif Nat.ble 26 k then false else false) else (bif Nat.ble 24 k then false else false)) else (bif Nat.ble 21 k then (bif Nat.ble 22 k then false else false) else false)) else (bif Nat.ble 16 k then (bif Nat.ble 18 k then (bif Nat.ble 19 k then false else false) else (bif Nat.ble 17 k then false else false)) else (bif Nat.ble 14 k then (bif Nat.ble 15 k then false else false) else false))) else (bif Nat.ble 6 k then (bif Nat.ble 9 k then (bif Nat.ble 11 k then (bif Nat.ble 12 k then false else false) else (bif Nat.ble 10 k then false else false)) else (bif Nat.ble 7 k then (bif Nat.ble 8 k then false else false) else false)) else (bif Nat.ble 3 k then (bif Nat.ble 4 k then (bif Nat.ble 5 k then false else false) else false) else (bif Nat.ble 1 k then (bif Nat.ble 2 k then false else false) else false))))
def cDef : List Value := [.null, .null, .null, .null, .null, .null, .null, .null, .int 0, .int 0, .int 0, .int 0, .int 0, .int 0, .int 0, .int 0, .int 0, .int 0, .int 0, .int 0, .int 0, .int 0, .long 0, .int 0, .int 0, .int 0, .int 0]
def cK : List Value := []
def pN : Nat := 27
def pTop (m : Nat) : Nat := (bif Nat.ble 13 m then (bif Nat.ble 20 m then (bif Nat.ble 23 m then (bif Nat.ble 25 m then (bif Nat.ble 26 m then 30 else 47) else (bif Nat.ble 24 m then 65 else 28)) else (bif Nat.ble 21 m then (bif Nat.ble 22 m then 28 else 39) else 46)) else (bif Nat.ble 16 m then (bif Nat.ble 18 m then (bif Nat.ble 19 m then 30 else 45) else (bif Nat.ble 17 m then 25 else 240)) else (bif Nat.ble 14 m then (bif Nat.ble 15 m then 17 else 65) else 131))) else (bif Nat.ble 6 m then (bif Nat.ble 9 m then (bif Nat.ble 11 m then (bif Nat.ble 12 m then 132 else 63) else (bif Nat.ble 10 m then 173 else 17)) else (bif Nat.ble 7 m then (bif Nat.ble 8 m then 163 else 144) else 26)) else (bif Nat.ble 3 m then (bif Nat.ble 4 m then (bif Nat.ble 5 m then 75 else 37) else 103) else (bif Nat.ble 1 m then (bif Nat.ble 2 m then 46 else 108) else 294))))
def pK (m : Nat) : Nat := (bif Nat.ble 13 m then (bif Nat.ble 20 m then (bif Nat.ble 23 m then (bif Nat.ble 25 m then (bif Nat.ble 26 m then 0 else 1) else (bif Nat.ble 24 m then 1 else 1)) else (bif Nat.ble 21 m then (bif Nat.ble 22 m then 1 else 1) else 0)) else (bif Nat.ble 16 m then (bif Nat.ble 18 m then (bif Nat.ble 19 m then 0 else 0) else (bif Nat.ble 17 m then 1 else 1)) else (bif Nat.ble 14 m then (bif Nat.ble 15 m then 1 else 1) else 1))) else (bif Nat.ble 6 m then (bif Nat.ble 9 m then (bif Nat.ble 11 m then (bif Nat.ble 12 m then 1 else 1) else (bif Nat.ble 10 m then 1 else 1)) else (bif Nat.ble 7 m then (bif Nat.ble 8 m then 1 else 1) else 1)) else (bif Nat.ble 3 m then (bif Nat.ble 4 m then (bif Nat.ble 5 m then 1 else 1) else 1) else (bif Nat.ble 1 m then (bif Nat.ble 2 m then 1 else 1) else 0))))
def pNm (m : Nat) : String := (bif Nat.ble 13 m then (bif Nat.ble 20 m then (bif Nat.ble 23 m then (bif Nat.ble 25 m then (bif Nat.ble 26 m then "countBelow" else "rankOf") else (bif Nat.ble 24 m then "setFunction" else "getFrameCount")) else (bif Nat.ble 21 m then (bif Nat.ble 22 m then "isResultNull" else "getResult") else "row")) else (bif Nat.ble 16 m then (bif Nat.ble 18 m then (bif Nat.ble 19 m then "countUpTo" else "sumUpTo") else (bif Nat.ble 17 m then "setRes" else "applyFunction")) else (bif Nat.ble 14 m then (bif Nat.ble 15 m then "valNull" else "peer") else "rangeEndHolds"))) else (bif Nat.ble 6 m then (bif Nat.ble 9 m then (bif Nat.ble 11 m then (bif Nat.ble 12 m then "rangeStartHolds" else "inFrame") else (bif Nat.ble 10 m then "aggregateFrame" else "keyNull")) else (bif Nat.ble 7 m then (bif Nat.ble 8 m then "before" else "buildPartition") else "computeRow")) else (bif Nat.ble 3 m then (bif Nat.ble 4 m then (bif Nat.ble 5 m then "needsOrder" else "compute") else "addRow") else (bif Nat.ble 1 m then (bif Nat.ble 2 m then "resetSpec" else "<init>") else "law"))))
def pDs (m : Nat) : String := (bif Nat.ble 13 m then (bif Nat.ble 20 m then (bif Nat.ble 23 m then (bif Nat.ble 25 m then (bif Nat.ble 26 m then "(IIII)I" else "(II)J") else (bif Nat.ble 24 m then "(II)Z" else "(I)I")) else (bif Nat.ble 21 m then (bif Nat.ble 22 m then "(I)Z" else "(I)J") else "(LWindowFuncEngine;IJI)Z")) else (bif Nat.ble 16 m then (bif Nat.ble 18 m then (bif Nat.ble 19 m then "(IIII)I" else "(IIIIIII)J") else (bif Nat.ble 17 m then "(IJZ)V" else "(I)V")) else (bif Nat.ble 14 m then (bif Nat.ble 15 m then "(I)Z" else "(II)Z") else "(IIII)Z"))) else (bif Nat.ble 6 m then (bif Nat.ble 9 m then (bif Nat.ble 11 m then (bif Nat.ble 12 m then "(IIII)Z" else "(IIII)Z") else (bif Nat.ble 10 m then "(I)V" else "(I)Z")) else (bif Nat.ble 7 m then (bif Nat.ble 8 m then "(II)Z" else "(I)V") else "(I)V")) else (bif Nat.ble 3 m then (bif Nat.ble 4 m then (bif Nat.ble 5 m then "()Z" else "()I") else "(IIII)I") else (bif Nat.ble 1 m then (bif Nat.ble 2 m then "()V" else "(I)V") else "(IIIIII)Z"))))
def pName (m : Nat) : MethodName := ⟨kName (pK m), pNm m, pDs m⟩
def pBytes (m : Nat) : ByteArray := (bif Nat.ble 13 m then (bif Nat.ble 20 m then (bif Nat.ble 23 m then (bif Nat.ble 25 m then (bif Nat.ble 26 m then method_4_code else prog_1_method_34_code) else (bif Nat.ble 24 m then prog_1_method_10_code else prog_1_method_16_code)) else (bif Nat.ble 21 m then (bif Nat.ble 22 m then prog_1_method_15_code else prog_1_method_14_code) else method_5_code)) else (bif Nat.ble 16 m then (bif Nat.ble 18 m then (bif Nat.ble 19 m then method_3_code else method_2_code) else (bif Nat.ble 17 m then prog_1_method_32_code else prog_1_method_33_code)) else (bif Nat.ble 14 m then (bif Nat.ble 15 m then prog_1_method_20_code else prog_1_method_22_code) else prog_1_method_29_code))) else (bif Nat.ble 6 m then (bif Nat.ble 9 m then (bif Nat.ble 11 m then (bif Nat.ble 12 m then prog_1_method_28_code else prog_1_method_24_code) else (bif Nat.ble 10 m then prog_1_method_31_code else prog_1_method_19_code)) else (bif Nat.ble 7 m then (bif Nat.ble 8 m then prog_1_method_21_code else prog_1_method_23_code) else prog_1_method_30_code)) else (bif Nat.ble 3 m then (bif Nat.ble 4 m then (bif Nat.ble 5 m then prog_1_method_12_code else prog_1_method_11_code) else prog_1_method_3_code) else (bif Nat.ble 1 m then (bif Nat.ble 2 m then prog_1_method_2_code else prog_1_method_1_code) else code))))
def pMaxL (m : Nat) : Nat := (bif Nat.ble 13 m then (bif Nat.ble 20 m then (bif Nat.ble 23 m then (bif Nat.ble 25 m then (bif Nat.ble 26 m then 5 else 6) else (bif Nat.ble 24 m then 4 else 2)) else (bif Nat.ble 21 m then (bif Nat.ble 22 m then 2 else 2) else 9)) else (bif Nat.ble 16 m then (bif Nat.ble 18 m then (bif Nat.ble 19 m then 5 else 9) else (bif Nat.ble 17 m then 5 else 5)) else (bif Nat.ble 14 m then (bif Nat.ble 15 m then 2 else 5) else 10))) else (bif Nat.ble 6 m then (bif Nat.ble 9 m then (bif Nat.ble 11 m then (bif Nat.ble 12 m then 10 else 5) else (bif Nat.ble 10 m then 7 else 2)) else (bif Nat.ble 7 m then (bif Nat.ble 8 m then 5 else 6) else 2)) else (bif Nat.ble 3 m then (bif Nat.ble 4 m then (bif Nat.ble 5 m then 3 else 2) else 6) else (bif Nat.ble 1 m then (bif Nat.ble 2 m then 1 else 3) else 25))))
def pRet (m : Nat) : Option FieldType := (bif Nat.ble 13 m then (bif Nat.ble 20 m then (bif Nat.ble 23 m then (bif Nat.ble 25 m then (bif Nat.ble 26 m then (some .int) else (some .long)) else (bif Nat.ble 24 m then (some .boolean) else (some .int))) else (bif Nat.ble 21 m then (bif Nat.ble 22 m then (some .boolean) else (some .long)) else (some .boolean))) else (bif Nat.ble 16 m then (bif Nat.ble 18 m then (bif Nat.ble 19 m then (some .int) else (some .long)) else (bif Nat.ble 17 m then none else none)) else (bif Nat.ble 14 m then (bif Nat.ble 15 m then (some .boolean) else (some .boolean)) else (some .boolean)))) else (bif Nat.ble 6 m then (bif Nat.ble 9 m then (bif Nat.ble 11 m then (bif Nat.ble 12 m then (some .boolean) else (some .boolean)) else (bif Nat.ble 10 m then none else (some .boolean))) else (bif Nat.ble 7 m then (bif Nat.ble 8 m then (some .boolean) else none) else none)) else (bif Nat.ble 3 m then (bif Nat.ble 4 m then (bif Nat.ble 5 m then (some .boolean) else (some .int)) else (some .int)) else (bif Nat.ble 1 m then (bif Nat.ble 2 m then none else none) else (some .boolean)))))
def pNA (m : Nat) : Nat := (bif Nat.ble 13 m then (bif Nat.ble 20 m then (bif Nat.ble 23 m then (bif Nat.ble 25 m then (bif Nat.ble 26 m then 4 else 2) else (bif Nat.ble 24 m then 2 else 1)) else (bif Nat.ble 21 m then (bif Nat.ble 22 m then 1 else 1) else 4)) else (bif Nat.ble 16 m then (bif Nat.ble 18 m then (bif Nat.ble 19 m then 4 else 7) else (bif Nat.ble 17 m then 3 else 1)) else (bif Nat.ble 14 m then (bif Nat.ble 15 m then 1 else 2) else 4))) else (bif Nat.ble 6 m then (bif Nat.ble 9 m then (bif Nat.ble 11 m then (bif Nat.ble 12 m then 4 else 4) else (bif Nat.ble 10 m then 1 else 1)) else (bif Nat.ble 7 m then (bif Nat.ble 8 m then 2 else 1) else 1)) else (bif Nat.ble 3 m then (bif Nat.ble 4 m then (bif Nat.ble 5 m then 0 else 0) else 4) else (bif Nat.ble 1 m then (bif Nat.ble 2 m then 0 else 1) else 6))))
def pFr (m : Nat) : Nat := (bif Nat.ble 13 m then (bif Nat.ble 20 m then (bif Nat.ble 23 m then (bif Nat.ble 25 m then (bif Nat.ble 26 m then 0 else 2) else (bif Nat.ble 24 m then 0 else 0)) else (bif Nat.ble 21 m then (bif Nat.ble 22 m then 0 else 0) else 1)) else (bif Nat.ble 16 m then (bif Nat.ble 18 m then (bif Nat.ble 19 m then 0 else 0) else (bif Nat.ble 17 m then 0 else 3)) else (bif Nat.ble 14 m then (bif Nat.ble 15 m then 0 else 1) else 2))) else (bif Nat.ble 6 m then (bif Nat.ble 9 m then (bif Nat.ble 11 m then (bif Nat.ble 12 m then 2 else 3) else (bif Nat.ble 10 m then 4 else 0)) else (bif Nat.ble 7 m then (bif Nat.ble 8 m then 1 else 2) else 5)) else (bif Nat.ble 3 m then (bif Nat.ble 4 m then (bif Nat.ble 5 m then 0 else 6) else 0) else (bif Nat.ble 1 m then (bif Nat.ble 2 m then 0 else 1) else 7))))
def pLo (m : Nat) : Nat := (bif Nat.ble 13 m then (bif Nat.ble 20 m then (bif Nat.ble 23 m then (bif Nat.ble 25 m then (bif Nat.ble 26 m then 0 else 29) else (bif Nat.ble 24 m then 0 else 0)) else (bif Nat.ble 21 m then (bif Nat.ble 22 m then 0 else 0) else 13)) else (bif Nat.ble 16 m then (bif Nat.ble 18 m then (bif Nat.ble 19 m then 0 else 0) else (bif Nat.ble 17 m then 0 else 46)) else (bif Nat.ble 14 m then (bif Nat.ble 15 m then 0 else 13) else 29))) else (bif Nat.ble 6 m then (bif Nat.ble 9 m then (bif Nat.ble 11 m then (bif Nat.ble 12 m then 29 else 50) else (bif Nat.ble 10 m then 66 else 0)) else (bif Nat.ble 7 m then (bif Nat.ble 8 m then 13 else 29) else 84)) else (bif Nat.ble 3 m then (bif Nat.ble 4 m then (bif Nat.ble 5 m then 0 else 97) else 0) else (bif Nat.ble 1 m then (bif Nat.ble 2 m then 0 else 12) else 110))))
def tB (k p : Nat) (a b : Option (Instr × Nat)) : Option (Instr × Nat) := bif Nat.ble k p then a else b
def tL (k p : Nat) (i : Instr) (x : Nat) : Option (Instr × Nat) := bif Nat.beq p k then some (i, x) else none
set_option maxHeartbeats 4000000 in
def cd0 (p : Nat) : Option (Instr × Nat) := (tB 141 p (tB 226 p (tB 255 p (tB 275 p (tB 284 p (tB 289 p (tB 292 p (tB 293 p (tL 293 p .ireturn 0) (tL 292 p (.iconst 0) 0)) (tL 289 p (.goto 4) 293)) (tB 285 p (tB 288 p (tL 288 p (.iconst 1) 0) (tL 285 p (.ifCond .ne 7) 292)) (tL 284 p .lcmp 0))) (tB 279 p (tB 281 p (tB 283 p (tL 283 p .i2l 0) (tL 281 p (.iload 24) 0)) (tL 279 p (.lload 20) 0)) (tB 276 p (tL 276 p (.ifCond .ne 16) 292) (tL 275 p .lcmp 0)))) (tB 265 p (tB 270 p (tB 272 p (tB 274 p (tL 274 p .i2l 0) (tL 272 p (.iload 23) 0)) (tL 270 p (.lload 18) 0)) (tB 266 p (tB 267 p (tL 267 p (.ifCond .ne 25) 292) (tL 266 p .lcmp 0)) (tL 265 p .i2l 0))) (tB 259 p (tB 261 p (tB 263 p (tL 263 p (.iload 22) 0) (tL 261 p (.lload 16) 0)) (tL 259 p (.istore 24) 0)) (tB 258 p (tL 258 p .iadd 0) (tL 255 p (.invokestatic 49) 26))))) (tB 241 p (tB 248 p (tB 252 p (tB 253 p (tB 254 p (tL 254 p (.iload_n 2) 0) (tL 253 p (.iload_n 1) 0)) (tL 252 p (.iload_n 0) 0)) (tB 250 p (tB 251 p (tL 251 p (.iload_n 2) 0) (tL 250 p (.iconst 1) 0)) (tL 248 p (.istore 23) 0))) (tB 243 p (tB 244 p (tB 247 p (tL 247 p .iadd 0) (tL 244 p (.invokestatic 49) 26)) (tL 243 p (.iload_n 2) 0)) (tB 242 p (tL 242 p (.iload_n 1) 0) (tL 241 p (.iload_n 0) 0)))) (tB 232 p (tB 237 p (tB 239 p (tB 240 p (tL 240 p (.iload_n 1) 0) (tL 239 p (.iconst 1) 0)) (tL 237 p (.istore 22) 0)) (tB 233 p (tB 236 p (tL 236 p .iadd 0) (tL 233 p (.invokestatic 49) 26)) (tL 232 p (.iload_n 2) 0))) (tB 229 p (tB 230 p (tB 231 p (tL 231 p (.iload_n 1) 0) (tL 230 p (.iload_n 0) 0)) (tL 229 p (.iload_n 0) 0)) (tB 228 p (tL 228 p (.iconst 1) 0) (tL 226 p (.lstore 20) 0)))))) (tB 183 p (tB 204 p (tB 214 p (tB 220 p (tB 222 p (tB 223 p (tL 223 p (.invokevirtual 7) 21) (tL 222 p (.iconst 2) 0)) (tL 220 p (.aload 6) 0)) (tB 215 p (tB 218 p (tL 218 p (.lstore 18) 0) (tL 215 p (.invokevirtual 7) 21)) (tL 214 p (.iconst 1) 0))) (tB 207 p (tB 210 p (tB 212 p (tL 212 p (.aload 6) 0) (tL 210 p (.lstore 16) 0)) (tL 207 p (.invokevirtual 7) 21)) (tB 206 p (tL 206 p (.iconst 0) 0) (tL 204 p (.aload 6) 0)))) (tB 193 p (tB 199 p (tB 202 p (tB 203 p (tL 203 p .ireturn 0) (tL 202 p (.iconst 0) 0)) (tL 199 p (.ifCond .eq 5) 204)) (tB 194 p (tB 196 p (tL 196 p (.invokevirtual 28) 4) (tL 194 p (.aload 6) 0)) (tL 193 p .ireturn 0))) (tB 186 p (tB 189 p (tB 192 p (tL 192 p (.iconst 0) 0) (tL 189 p (.ifCond .ne 5) 194)) (tL 186 p (.invokevirtual 45) 24)) (tB 185 p (tL 185 p (.iconst 0) 0) (tL 183 p (.bipush 6) 0))))) (tB 164 p (tB 171 p (tB 179 p (tB 180 p (tB 181 p (tL 181 p (.aload 6) 0) (tL 180 p .ireturn 0)) (tL 179 p (.iconst 0) 0)) (tB 173 p (tB 176 p (tL 176 p (.ifCond .ne 5) 181) (tL 173 p (.invokestatic 41) 20)) (tL 171 p (.iload 15) 0))) (tB 166 p (tB 168 p (tB 169 p (tL 169 p (.lload 11) 0) (tL 168 p (.iconst 2) 0)) (tL 166 p (.aload 6) 0)) (tB 165 p (tL 165 p .ireturn 0) (tL 164 p (.iconst 0) 0)))) (tB 151 p (tB 156 p (tB 158 p (tB 161 p (tL 161 p (.ifCond .ne 5) 166) (tL 158 p (.invokestatic 41) 20)) (tL 156 p (.iload 14) 0)) (tB 153 p (tB 154 p (tL 154 p (.lload 9) 0) (tL 153 p (.iconst 1) 0)) (tL 151 p (.aload 6) 0))) (tB 146 p (tB 149 p (tB 150 p (tL 150 p .ireturn 0) (tL 149 p (.iconst 0) 0)) (tL 146 p (.ifCond .ne 5) 151)) (tB 143 p (tL 143 p (.invokestatic 41) 20) (tL 141 p (.iload 13) 0))))))) (tB 71 p (tB 107 p (tB 122 p (tB 130 p (tB 136 p (tB 138 p (tB 139 p (tL 139 p (.lload 7) 0) (tL 138 p (.iconst 0) 0)) (tL 136 p (.aload 6) 0)) (tB 131 p (tB 134 p (tL 134 p (.istore 15) 0) (tL 131 p (.invokestatic 38) 19)) (tL 130 p (.iload_n 2) 0))) (tB 127 p (tB 128 p (tB 129 p (tL 129 p (.iload_n 1) 0) (tL 128 p (.iload_n 0) 0)) (tL 127 p (.iload_n 2) 0)) (tB 125 p (tL 125 p (.istore 14) 0) (tL 122 p (.invokestatic 38) 19)))) (tB 113 p (tB 119 p (tB 120 p (tB 121 p (tL 121 p (.iload_n 2) 0) (tL 120 p (.iload_n 1) 0)) (tL 119 p (.iload_n 0) 0)) (tB 116 p (tB 118 p (tL 118 p (.iload_n 1) 0) (tL 116 p (.istore 13) 0)) (tL 113 p (.invokestatic 38) 19))) (tB 110 p (tB 111 p (tB 112 p (tL 112 p (.iload_n 2) 0) (tL 111 p (.iload_n 1) 0)) (tL 110 p (.iload_n 0) 0)) (tB 109 p (tL 109 p (.iload_n 0) 0) (tL 107 p (.lstore 11) 0))))) (tB 88 p (tB 97 p (tB 100 p (tB 102 p (tB 104 p (tL 104 p (.invokestatic 32) 18) (tL 102 p (.iload 5) 0)) (tL 100 p (.iload 4) 0)) (tB 98 p (tB 99 p (tL 99 p (.iload_n 3) 0) (tL 98 p (.iload_n 2) 0)) (tL 97 p (.iload_n 1) 0))) (tB 93 p (tB 95 p (tB 96 p (tL 96 p (.iload_n 0) 0) (tL 95 p (.iload_n 2) 0)) (tL 93 p (.lstore 9) 0)) (tB 90 p (tL 90 p (.invokestatic 32) 18) (tL 88 p (.iload 5) 0)))) (tB 81 p (tB 84 p (tB 85 p (tB 86 p (tL 86 p (.iload 4) 0) (tL 85 p (.iload_n 3) 0)) (tL 84 p (.iload_n 2) 0)) (tB 82 p (tB 83 p (tL 83 p (.iload_n 1) 0) (tL 82 p (.iload_n 0) 0)) (tL 81 p (.iload_n 1) 0))) (tB 74 p (tB 76 p (tB 79 p (tL 79 p (.lstore 7) 0) (tL 76 p (.invokestatic 32) 18)) (tL 74 p (.iload 5) 0)) (tB 72 p (tL 72 p (.iload 4) 0) (tL 71 p (.iload_n 3) 0)))))) (tB 36 p (tB 55 p (tB 65 p (tB 68 p (tB 69 p (tB 70 p (tL 70 p (.iload_n 2) 0) (tL 69 p (.iload_n 1) 0)) (tL 68 p (.iload_n 0) 0)) (tB 66 p (tB 67 p (tL 67 p (.iload_n 0) 0) (tL 66 p .ireturn 0)) (tL 65 p (.iconst 0) 0))) (tB 57 p (tB 59 p (tB 62 p (tL 62 p (.ifCond .eq 5) 67) (tL 59 p (.invokevirtual 28) 4)) (tL 57 p (.aload 6) 0)) (tB 56 p (tL 56 p .ireturn 0) (tL 55 p (.iconst 0) 0)))) (tB 44 p (tB 48 p (tB 51 p (tB 52 p (tL 52 p (.if_icmp .eq 5) 57) (tL 51 p (.iconst 2) 0)) (tL 48 p (.invokevirtual 24) 3)) (tB 45 p (tB 47 p (tL 47 p (.iconst 0) 0) (tL 45 p (.iload 5) 0)) (tL 44 p (.iload_n 2) 0))) (tB 40 p (tB 41 p (tB 43 p (tL 43 p (.iconst 0) 0) (tL 41 p (.aload 6) 0)) (tL 40 p .ireturn 0)) (tB 39 p (tL 39 p (.iconst 0) 0) (tL 36 p (.if_icmp .eq 5) 41))))) (tB 17 p (tB 27 p (tB 31 p (tB 32 p (tB 35 p (tL 35 p (.iconst 1) 0) (tL 32 p (.invokevirtual 24) 3)) (tL 31 p (.iconst 0) 0)) (tB 28 p (tB 29 p (tL 29 p (.iload 4) 0) (tL 28 p (.iload_n 1) 0)) (tL 27 p (.iconst 0) 0))) (tB 23 p (tB 24 p (tB 25 p (tL 25 p (.aload 6) 0) (tL 24 p .ireturn 0)) (tL 23 p (.iconst 0) 0)) (tB 20 p (tL 20 p (.ifCond .eq 5) 25) (tL 17 p (.invokevirtual 24) 3)))) (tB 11 p (tB 14 p (tB 15 p (tB 16 p (tL 16 p (.iconst 0) 0) (tL 15 p (.iload_n 3) 0)) (tL 14 p (.iload_n 0) 0)) (tB 13 p (tL 13 p (.iconst 0) 0) (tL 11 p (.aload 6) 0))) (tB 4 p (tB 6 p (tB 9 p (tL 9 p (.astore 6) 0) (tL 6 p (.invokespecial 21) 1)) (tL 4 p (.bipush 8) 0)) (tB 3 p (tL 3 p .dup 0) (tL 0 p (.new 8) 0))))))))
set_option maxHeartbeats 4000000 in
def cd1 (p : Nat) : Option (Instr × Nat) := (tB 57 p (tB 82 p (tB 94 p (tB 102 p (tB 104 p (tB 107 p (tL 107 p .return_ 0) (tL 104 p (.putfield 46) 19)) (tB 103 p (tL 103 p (.iconst 0) 0) (tL 102 p (.aload_n 0) 0))) (tB 98 p (tB 99 p (tL 99 p (.invokevirtual 43) 2) (tL 98 p (.aload_n 0) 0)) (tB 95 p (tL 95 p (.putfield 40) 9) (tL 94 p (.iconst 0) 0)))) (tB 88 p (tB 90 p (tB 93 p (tL 93 p (.aload_n 0) 0) (tL 90 p (.putfield 36) 8)) (tB 89 p (tL 89 p (.iload_n 2) 0) (tL 88 p (.aload_n 0) 0))) (tB 85 p (tB 87 p (tL 87 p (.istore_n 2) 0) (tL 85 p (.bipush 32) 0)) (tL 82 p (.if_icmp .le 6) 88)))) (tB 70 p (tB 76 p (tB 79 p (tB 80 p (tL 80 p (.bipush 32) 0) (tL 79 p (.iload_n 2) 0)) (tB 78 p (tL 78 p (.istore_n 2) 0) (tL 76 p (.bipush 8) 0))) (tB 71 p (tB 73 p (tL 73 p (.if_icmp .ge 6) 79) (tL 71 p (.bipush 8) 0)) (tL 70 p (.iload_n 2) 0))) (tB 63 p (tB 68 p (tB 69 p (tL 69 p (.istore_n 2) 0) (tL 68 p (.iload_n 1) 0)) (tB 65 p (tL 65 p (.putfield 33) 7) (tL 63 p (.newarray .int) 0))) (tB 60 p (tB 61 p (tL 61 p (.bipush 32) 0) (tL 60 p (.aload_n 0) 0)) (tL 57 p (.putfield 30) 6))))) (tB 28 p (tB 41 p (tB 49 p (tB 53 p (tB 55 p (tL 55 p (.newarray .int) 0) (tL 53 p (.bipush 32) 0)) (tB 52 p (tL 52 p (.aload_n 0) 0) (tL 49 p (.putfield 26) 5))) (tB 45 p (tB 47 p (tL 47 p (.newarray .boolean) 0) (tL 45 p (.bipush 32) 0)) (tB 44 p (tL 44 p (.aload_n 0) 0) (tL 41 p (.putfield 22) 4)))) (tB 33 p (tB 37 p (tB 39 p (tL 39 p (.newarray .long) 0) (tL 37 p (.bipush 32) 0)) (tB 36 p (tL 36 p (.aload_n 0) 0) (tL 33 p (.putfield 19) 3))) (tB 29 p (tB 31 p (tL 31 p (.newarray .int) 0) (tL 29 p (.bipush 32) 0)) (tL 28 p (.aload_n 0) 0)))) (tB 13 p (tB 20 p (tB 23 p (tB 25 p (tL 25 p (.putfield 16) 2) (tL 23 p (.newarray .int) 0)) (tB 21 p (tL 21 p (.bipush 32) 0) (tL 20 p (.aload_n 0) 0))) (tB 15 p (tB 17 p (tL 17 p (.putfield 13) 1) (tL 15 p (.newarray .int) 0)) (tL 13 p (.bipush 32) 0))) (tB 5 p (tB 9 p (tB 12 p (tL 12 p (.aload_n 0) 0) (tL 9 p (.putfield 7) 0)) (tB 7 p (tL 7 p (.newarray .int) 0) (tL 5 p (.bipush 32) 0))) (tB 1 p (tB 4 p (tL 4 p (.aload_n 0) 0) (tL 1 p (.invokespecial 1) 0)) (tL 0 p (.aload_n 0) 0))))))
set_option maxHeartbeats 4000000 in
def cd2 (p : Nat) : Option (Instr × Nat) := (tB 22 p (tB 35 p (tB 40 p (tB 42 p (tB 45 p (tL 45 p .return_ 0) (tL 42 p (.putfield 74) 18)) (tB 41 p (tL 41 p (.iconst 0) 0) (tL 40 p (.aload_n 0) 0))) (tB 36 p (tB 37 p (tL 37 p (.putfield 71) 17) (tL 36 p (.iconst 0) 0)) (tL 35 p (.aload_n 0) 0))) (tB 27 p (tB 31 p (tB 32 p (tL 32 p (.putfield 68) 16) (tL 31 p (.iconst 0) 0)) (tB 30 p (tL 30 p (.aload_n 0) 0) (tL 27 p (.putfield 65) 15))) (tB 25 p (tB 26 p (tL 26 p (.iconst 2) 0) (tL 25 p (.aload_n 0) 0)) (tL 22 p (.putfield 62) 14)))) (tB 11 p (tB 16 p (tB 20 p (tB 21 p (tL 21 p (.iconst 0) 0) (tL 20 p (.aload_n 0) 0)) (tB 17 p (tL 17 p (.putfield 59) 13) (tL 16 p (.iconst 0) 0))) (tB 12 p (tB 15 p (tL 15 p (.aload_n 0) 0) (tL 12 p (.putfield 56) 12)) (tL 11 p (.iconst 1) 0))) (tB 5 p (tB 7 p (tB 10 p (tL 10 p (.aload_n 0) 0) (tL 7 p (.putfield 53) 11)) (tB 6 p (tL 6 p (.iconst 1) 0) (tL 5 p (.aload_n 0) 0))) (tB 1 p (tB 2 p (tL 2 p (.putfield 50) 10) (tL 1 p (.iconst 1) 0)) (tL 0 p (.aload_n 0) 0)))))
set_option maxHeartbeats 4000000 in
def cd3 (p : Nat) : Option (Instr × Nat) := (tB 53 p (tB 78 p (tB 90 p (tB 96 p (tB 100 p (tB 102 p (tL 102 p .ireturn 0) (tL 100 p (.iload 5) 0)) (tB 97 p (tL 97 p (.putfield 46) 19) (tL 96 p (.iconst 0) 0))) (tB 92 p (tB 95 p (tL 95 p (.aload_n 0) 0) (tL 92 p (.putfield 40) 9)) (tB 91 p (tL 91 p .iadd 0) (tL 90 p (.iconst 1) 0)))) (tB 84 p (tB 87 p (tB 88 p (tL 88 p (.iload 5) 0) (tL 87 p (.aload_n 0) 0)) (tB 86 p (tL 86 p .iastore 0) (tL 84 p (.iload 4) 0))) (tB 79 p (tB 82 p (tL 82 p (.iload 5) 0) (tL 79 p (.getfield 19) 3)) (tL 78 p (.aload_n 0) 0)))) (tB 65 p (tB 72 p (tB 76 p (tB 77 p (tL 77 p .iastore 0) (tL 76 p (.iload_n 3) 0)) (tB 73 p (tL 73 p (.goto 4) 77) (tL 72 p (.iconst 0) 0))) (tB 68 p (tB 69 p (tL 69 p (.ifCond .eq 7) 76) (tL 68 p .iand 0)) (tB 67 p (tL 67 p (.iconst 2) 0) (tL 65 p (.iload 4) 0)))) (tB 58 p (tB 60 p (tB 63 p (tL 63 p (.iload 5) 0) (tL 60 p (.getfield 16) 2)) (tB 59 p (tL 59 p (.aload_n 0) 0) (tL 58 p .iastore 0))) (tB 54 p (tB 57 p (tL 57 p (.iload_n 2) 0) (tL 54 p (.goto 4) 58)) (tL 53 p (.iconst 0) 0))))) (tB 26 p (tB 39 p (tB 46 p (tB 49 p (tB 50 p (tL 50 p (.ifCond .eq 7) 57) (tL 49 p .iand 0)) (tB 48 p (tL 48 p (.iconst 1) 0) (tL 46 p (.iload 4) 0))) (tB 41 p (tB 44 p (tL 44 p (.iload 5) 0) (tL 41 p (.getfield 13) 1)) (tB 40 p (tL 40 p (.aload_n 0) 0) (tL 39 p .iastore 0)))) (tB 32 p (tB 36 p (tB 38 p (tL 38 p (.iload_n 1) 0) (tL 36 p (.iload 5) 0)) (tB 33 p (tL 33 p (.getfield 7) 0) (tL 32 p (.aload_n 0) 0))) (tB 27 p (tB 30 p (tL 30 p (.istore 5) 0) (tL 27 p (.getfield 40) 9)) (tL 26 p (.aload_n 0) 0)))) (tB 13 p (tB 18 p (tB 24 p (tB 25 p (tL 25 p .ireturn 0) (tL 24 p (.iconst (-1)) 0)) (tB 21 p (tL 21 p (.if_icmp .lt 5) 26) (tL 18 p (.getfield 36) 8))) (tB 14 p (tB 17 p (tL 17 p (.aload_n 0) 0) (tL 14 p (.getfield 40) 9)) (tL 13 p (.aload_n 0) 0))) (tB 7 p (tB 11 p (tB 12 p (tL 12 p .ireturn 0) (tL 11 p (.iconst (-1)) 0)) (tB 8 p (tL 8 p (.if_icmp .le 5) 13) (tL 7 p (.iconst 3) 0))) (tB 2 p (tB 5 p (tL 5 p (.iload 4) 0) (tL 2 p (.ifCond .lt 9) 11)) (tL 0 p (.iload 4) 0))))))
set_option maxHeartbeats 4000000 in
def cd4 (p : Nat) : Option (Instr × Nat) := (tB 16 p (tB 27 p (tB 32 p (tB 35 p (tB 36 p (tL 36 p .ireturn 0) (tL 35 p (.iconst 0) 0)) (tL 32 p (.putfield 46) 19)) (tB 30 p (tB 31 p (tL 31 p (.iconst 1) 0) (tL 30 p (.aload_n 0) 0)) (tL 27 p (.goto (-16)) 11))) (tB 20 p (tB 21 p (tB 24 p (tL 24 p (.iinc 1 1) 0) (tL 21 p (.invokevirtual 81) 6)) (tL 20 p (.iload_n 1) 0)) (tB 19 p (tL 19 p (.aload_n 0) 0) (tL 16 p (.if_icmp .ge 14) 30)))) (tB 9 p (tB 11 p (tB 12 p (tB 13 p (tL 13 p (.getfield 40) 9) (tL 12 p (.aload_n 0) 0)) (tL 11 p (.iload_n 1) 0)) (tB 10 p (tL 10 p (.istore_n 1) 0) (tL 9 p (.iconst 0) 0))) (tB 4 p (tB 7 p (tB 8 p (tL 8 p .ireturn 0) (tL 7 p (.iconst (-1)) 0)) (tL 4 p (.ifCond .eq 5) 9)) (tB 1 p (tL 1 p (.invokevirtual 77) 5) (tL 0 p (.aload_n 0) 0)))))
set_option maxHeartbeats 4000000 in
def cd5 (p : Nat) : Option (Instr × Nat) := (tB 38 p (tB 56 p (tB 65 p (tB 70 p (tB 73 p (tB 74 p (tL 74 p .ireturn 0) (tL 73 p (.iconst 0) 0)) (tL 70 p (.goto 4) 74)) (tB 66 p (tB 69 p (tL 69 p (.iconst 1) 0) (tL 66 p (.ifCond .eq 7) 73)) (tL 65 p (.iload_n 2) 0))) (tB 60 p (tB 61 p (tB 62 p (tL 62 p (.ifCond .ne 7) 69) (tL 61 p (.iload_n 1) 0)) (tL 60 p (.istore_n 2) 0)) (tB 59 p (tL 59 p (.iconst 0) 0) (tL 56 p (.goto 4) 60)))) (tB 47 p (tB 51 p (tB 52 p (tB 55 p (tL 55 p (.iconst 1) 0) (tL 52 p (.if_icmp .ne 7) 59)) (tL 51 p (.iconst 3) 0)) (tB 48 p (tL 48 p (.getfield 65) 15) (tL 47 p (.aload_n 0) 0))) (tB 40 p (tB 43 p (tB 44 p (tL 44 p (.if_icmp .eq 11) 55) (tL 43 p (.iconst 1) 0)) (tL 40 p (.getfield 65) 15)) (tB 39 p (tL 39 p (.aload_n 0) 0) (tL 38 p (.istore_n 1) 0))))) (tB 18 p (tB 29 p (tB 33 p (tB 34 p (tB 37 p (tL 37 p (.iconst 0) 0) (tL 34 p (.goto 4) 38)) (tL 33 p (.iconst 1) 0)) (tB 30 p (tL 30 p (.if_icmp .ne 7) 37) (tL 29 p (.iconst 3) 0))) (tB 22 p (tB 25 p (tB 26 p (tL 26 p (.getfield 59) 13) (tL 25 p (.aload_n 0) 0)) (tL 22 p (.if_icmp .eq 11) 33)) (tB 21 p (tL 21 p (.iconst 1) 0) (tL 18 p (.getfield 59) 13)))) (tB 9 p (tB 15 p (tB 16 p (tB 17 p (tL 17 p (.aload_n 0) 0) (tL 16 p .ireturn 0)) (tL 15 p (.iconst 0) 0)) (tB 12 p (tL 12 p (.ifCond .eq 5) 17) (tL 9 p (.getfield 50) 10))) (tB 4 p (tB 5 p (tB 8 p (tL 8 p (.aload_n 0) 0) (tL 5 p (.if_icmp .ne 10) 15)) (tL 4 p (.iconst 1) 0)) (tB 1 p (tL 1 p (.getfield 56) 12) (tL 0 p (.aload_n 0) 0))))))
set_option maxHeartbeats 4000000 in
def cd6 (p : Nat) : Option (Instr × Nat) := (tB 14 p (tB 20 p (tB 22 p (tB 25 p (tL 25 p .return_ 0) (tL 22 p (.invokevirtual 128) 16)) (tB 21 p (tL 21 p (.iload_n 1) 0) (tL 20 p (.aload_n 0) 0))) (tB 16 p (tB 19 p (tL 19 p .iastore 0) (tL 16 p (.getfield 125) 24)) (tB 15 p (tL 15 p (.aload_n 0) 0) (tL 14 p (.iload_n 1) 0)))) (tB 6 p (tB 10 p (tB 11 p (tL 11 p (.getfield 30) 6) (tL 10 p (.aload_n 0) 0)) (tB 7 p (tL 7 p (.invokevirtual 122) 10) (tL 6 p (.iload_n 1) 0))) (tB 2 p (tB 5 p (tL 5 p (.aload_n 0) 0) (tL 2 p (.invokevirtual 119) 7)) (tB 1 p (tL 1 p (.iload_n 1) 0) (tL 0 p (.aload_n 0) 0)))))
set_option maxHeartbeats 4000000 in
def cd7 (p : Nat) : Option (Instr × Nat) := (tB 68 p (tB 106 p (tB 124 p (tB 132 p (tB 137 p (tB 140 p (tB 143 p (tL 143 p .return_ 0) (tL 140 p (.goto (-26)) 114)) (tL 137 p (.iinc 4 1) 0)) (tB 134 p (tL 134 p (.putfield 96) 21) (tL 132 p (.iload 4) 0))) (tB 127 p (tB 128 p (tB 131 p (tL 131 p (.aload_n 0) 0) (tL 128 p (.if_icmp .ne 9) 137)) (tL 127 p (.iload_n 1) 0)) (tB 126 p (tL 126 p .iaload 0) (tL 124 p (.iload 4) 0)))) (tB 114 p (tB 117 p (tB 120 p (tB 121 p (tL 121 p (.getfield 33) 7) (tL 120 p (.aload_n 0) 0)) (tL 117 p (.if_icmp .ge 26) 143)) (tB 116 p (tL 116 p (.iload_n 2) 0) (tL 114 p (.iload 4) 0))) (tB 108 p (tB 111 p (tB 112 p (tL 112 p (.istore 4) 0) (tL 111 p (.iconst 0) 0)) (tL 108 p (.putfield 96) 21)) (tB 107 p (tL 107 p (.iconst 0) 0) (tL 106 p (.aload_n 0) 0))))) (tB 84 p (tB 95 p (tB 101 p (tB 102 p (tB 103 p (tL 103 p (.putfield 93) 20) (tL 102 p (.iload_n 2) 0)) (tL 101 p (.aload_n 0) 0)) (tB 98 p (tL 98 p (.goto (-86)) 12) (tL 95 p (.iinc 4 1) 0))) (tB 89 p (tB 91 p (tB 92 p (tL 92 p (.iinc 2 1) 0) (tL 91 p .iastore 0)) (tL 89 p (.iload 4) 0)) (tB 87 p (tL 87 p (.iload 5) 0) (tL 84 p (.getfield 33) 7)))) (tB 75 p (tB 77 p (tB 80 p (tB 83 p (tL 83 p (.aload_n 0) 0) (tL 80 p (.goto (-42)) 38)) (tL 77 p (.iinc 5 (-1)) 0)) (tB 76 p (tL 76 p .iastore 0) (tL 75 p .iaload 0))) (tB 73 p (tB 74 p (tL 74 p .isub 0) (tL 73 p (.iconst 1) 0)) (tB 71 p (tL 71 p (.iload 5) 0) (tL 68 p (.getfield 33) 7)))))) (tB 32 p (tB 50 p (tB 58 p (tB 62 p (tB 65 p (tB 67 p (tL 67 p (.aload_n 0) 0) (tL 65 p (.iload 5) 0)) (tL 62 p (.getfield 33) 7)) (tB 61 p (tL 61 p (.aload_n 0) 0) (tL 58 p (.ifCond .eq 25) 83))) (tB 53 p (tB 54 p (tB 55 p (tL 55 p (.invokevirtual 89) 8) (tL 54 p .iaload 0)) (tL 53 p .isub 0)) (tB 52 p (tL 52 p (.iconst 1) 0) (tL 50 p (.iload 5) 0)))) (tB 40 p (tB 44 p (tB 46 p (tB 47 p (tL 47 p (.getfield 33) 7) (tL 46 p (.aload_n 0) 0)) (tL 44 p (.iload 4) 0)) (tB 43 p (tL 43 p (.aload_n 0) 0) (tL 40 p (.ifCond .le 43) 83))) (tB 36 p (tB 38 p (tL 38 p (.iload 5) 0) (tL 36 p (.istore 5) 0)) (tB 35 p (tL 35 p (.iload_n 2) 0) (tL 32 p (.goto 63) 95))))) (tB 12 p (tB 22 p (tB 27 p (tB 28 p (tB 29 p (tL 29 p (.if_icmp .eq 6) 35) (tL 28 p (.iload_n 3) 0)) (tL 27 p .iaload 0)) (tB 25 p (tL 25 p (.iload 4) 0) (tL 22 p (.getfield 7) 0))) (tB 15 p (tB 18 p (tB 21 p (tL 21 p (.aload_n 0) 0) (tL 18 p (.if_icmp .ge 83) 101)) (tL 15 p (.getfield 40) 9)) (tB 14 p (tL 14 p (.aload_n 0) 0) (tL 12 p (.iload 4) 0)))) (tB 6 p (tB 8 p (tB 9 p (tB 10 p (tL 10 p (.istore 4) 0) (tL 9 p (.iconst 0) 0)) (tL 8 p (.istore_n 3) 0)) (tB 7 p (tL 7 p .iaload 0) (tL 6 p (.iload_n 1) 0))) (tB 2 p (tB 3 p (tL 3 p (.getfield 7) 0) (tL 2 p (.aload_n 0) 0)) (tB 1 p (tL 1 p (.istore_n 2) 0) (tL 0 p (.iconst 0) 0)))))))
set_option maxHeartbeats 4000000 in
def cd8 (p : Nat) : Option (Instr × Nat) := (tB 86 p (tB 125 p (tB 143 p (tB 153 p (tB 158 p (tB 161 p (tB 162 p (tL 162 p .ireturn 0) (tL 161 p (.iconst 0) 0)) (tL 158 p (.goto 4) 162)) (tB 154 p (tB 157 p (tL 157 p (.iconst 1) 0) (tL 154 p (.if_icmp .le 7) 161)) (tL 153 p .iaload 0))) (tB 148 p (tB 149 p (tB 152 p (tL 152 p (.iload_n 2) 0) (tL 149 p (.getfield 13) 1)) (tL 148 p (.aload_n 0) 0)) (tB 146 p (tB 147 p (tL 147 p .iaload 0) (tL 146 p (.iload_n 1) 0)) (tL 143 p (.getfield 13) 1)))) (tB 133 p (tB 140 p (tB 141 p (tB 142 p (tL 142 p (.aload_n 0) 0) (tL 141 p .ireturn 0)) (tL 140 p (.iconst 0) 0)) (tB 136 p (tB 137 p (tL 137 p (.goto 4) 141) (tL 136 p (.iconst 1) 0)) (tL 133 p (.if_icmp .ge 7) 140))) (tB 128 p (tB 131 p (tB 132 p (tL 132 p .iaload 0) (tL 131 p (.iload_n 2) 0)) (tL 128 p (.getfield 13) 1)) (tB 126 p (tB 127 p (tL 127 p (.aload_n 0) 0) (tL 126 p .iaload 0)) (tL 125 p (.iload_n 1) 0))))) (tB 103 p (tB 113 p (tB 118 p (tB 121 p (tB 122 p (tL 122 p (.getfield 13) 1) (tL 121 p (.aload_n 0) 0)) (tL 118 p (.if_icmp .ne 24) 142)) (tB 114 p (tB 117 p (tL 117 p (.iconst 1) 0) (tL 114 p (.getfield 50) 10)) (tL 113 p (.aload_n 0) 0))) (tB 108 p (tB 111 p (tB 112 p (tL 112 p .ireturn 0) (tL 111 p (.iconst 0) 0)) (tL 108 p (.goto 4) 112)) (tB 104 p (tB 107 p (tL 107 p (.iconst 1) 0) (tL 104 p (.if_icmp .ge 7) 111)) (tL 103 p (.iload_n 2) 0)))) (tB 93 p (tB 98 p (tB 99 p (tB 102 p (tL 102 p (.iload_n 1) 0) (tL 99 p (.if_icmp .ne 14) 113)) (tL 98 p .iaload 0)) (tB 94 p (tB 97 p (tL 97 p (.iload_n 2) 0) (tL 94 p (.getfield 13) 1)) (tL 93 p (.aload_n 0) 0))) (tB 88 p (tB 91 p (tB 92 p (tL 92 p .iaload 0) (tL 91 p (.iload_n 1) 0)) (tL 88 p (.getfield 13) 1)) (tB 87 p (tL 87 p (.aload_n 0) 0) (tL 86 p .ireturn 0)))))) (tB 41 p (tB 63 p (tB 74 p (tB 81 p (tB 82 p (tB 85 p (tL 85 p (.iconst 0) 0) (tL 82 p (.goto 4) 86)) (tL 81 p (.iconst 1) 0)) (tB 77 p (tB 78 p (tL 78 p (.if_icmp .ne 7) 85) (tL 77 p (.iconst 1) 0)) (tL 74 p (.getfield 53) 11))) (tB 68 p (tB 70 p (tB 73 p (tL 73 p (.aload_n 0) 0) (tL 70 p (.ifCond .eq 17) 87)) (tL 68 p (.iload 4) 0)) (tB 66 p (tB 67 p (tL 67 p .ireturn 0) (tL 66 p (.iconst 0) 0)) (tL 63 p (.goto 4) 67)))) (tB 51 p (tB 56 p (tB 59 p (tB 62 p (tL 62 p (.iconst 1) 0) (tL 59 p (.ifCond .ne 7) 66)) (tL 56 p (.getfield 53) 11)) (tB 52 p (tB 55 p (tL 55 p (.aload_n 0) 0) (tL 52 p (.ifCond .eq 16) 68)) (tL 51 p (.iload_n 3) 0))) (tB 46 p (tB 49 p (tB 50 p (tL 50 p .ireturn 0) (tL 49 p (.iconst 0) 0)) (tL 46 p (.goto 4) 50)) (tB 42 p (tB 45 p (tL 45 p (.iconst 1) 0) (tL 42 p (.if_icmp .ge 7) 49)) (tL 41 p (.iload_n 2) 0))))) (tB 19 p (tB 29 p (tB 35 p (tB 37 p (tB 40 p (tL 40 p (.iload_n 1) 0) (tL 37 p (.ifCond .eq 14) 51)) (tL 35 p (.iload 4) 0)) (tB 31 p (tB 32 p (tL 32 p (.ifCond .eq 19) 51) (tL 31 p (.iload_n 3) 0)) (tL 29 p (.istore 4) 0))) (tB 24 p (tB 25 p (tB 26 p (tL 26 p (.invokevirtual 85) 9) (tL 25 p (.iload_n 2) 0)) (tL 24 p (.aload_n 0) 0)) (tB 20 p (tB 23 p (tL 23 p (.istore_n 3) 0) (tL 20 p (.invokevirtual 85) 9)) (tL 19 p (.iload_n 1) 0)))) (tB 9 p (tB 16 p (tB 17 p (tB 18 p (tL 18 p (.aload_n 0) 0) (tL 17 p .ireturn 0)) (tL 16 p (.iconst 0) 0)) (tB 12 p (tB 13 p (tL 13 p (.goto 4) 17) (tL 12 p (.iconst 1) 0)) (tL 9 p (.if_icmp .ge 7) 16))) (tB 4 p (tB 7 p (tB 8 p (tL 8 p (.iload_n 2) 0) (tL 7 p (.iload_n 1) 0)) (tL 4 p (.ifCond .ne 14) 18)) (tB 1 p (tL 1 p (.getfield 50) 10) (tL 0 p (.aload_n 0) 0)))))))
set_option maxHeartbeats 4000000 in
def cd9 (p : Nat) : Option (Instr × Nat) := (tB 7 p (tB 12 p (tB 15 p (tB 16 p (tL 16 p .ireturn 0) (tL 15 p (.iconst 0) 0)) (tL 12 p (.goto 4) 16)) (tB 8 p (tB 11 p (tL 11 p (.iconst 1) 0) (tL 8 p (.ifCond .eq 7) 15)) (tL 7 p .iand 0))) (tB 4 p (tB 5 p (tB 6 p (tL 6 p (.iconst 1) 0) (tL 5 p .iaload 0)) (tL 4 p (.iload_n 1) 0)) (tB 1 p (tL 1 p (.getfield 19) 3) (tL 0 p (.aload_n 0) 0))))
set_option maxHeartbeats 4000000 in
def cd10 (p : Nat) : Option (Instr × Nat) := (tB 79 p (tB 129 p (tB 150 p (tB 161 p (tB 166 p (tB 169 p (tB 172 p (tL 172 p .return_ 0) (tL 169 p (.goto (-131)) 38)) (tL 166 p (.iinc 4 1) 0)) (tB 162 p (tB 163 p (tL 163 p (.putfield 131) 22) (tL 162 p .ladd 0)) (tL 161 p .i2l 0))) (tB 155 p (tB 156 p (tB 159 p (tL 159 p (.iload 6) 0) (tL 156 p (.getfield 131) 22)) (tL 155 p .dup 0)) (tB 151 p (tB 154 p (tL 154 p (.aload_n 0) 0) (tL 151 p (.putfield 135) 23)) (tL 150 p .iadd 0)))) (tB 139 p (tB 145 p (tB 146 p (tB 149 p (tL 149 p (.iconst 1) 0) (tL 146 p (.getfield 135) 23)) (tL 145 p .dup 0)) (tB 141 p (tB 144 p (tL 144 p (.aload_n 0) 0) (tL 141 p (.putfield 141) 26)) (tL 139 p (.iload 6) 0))) (tB 132 p (tB 135 p (tB 138 p (tL 138 p (.aload_n 0) 0) (tL 135 p (.if_icmp .le 9) 144)) (tL 132 p (.getfield 141) 26)) (tB 131 p (tL 131 p (.aload_n 0) 0) (tL 129 p (.iload 6) 0))))) (tB 101 p (tB 116 p (tB 122 p (tB 123 p (tB 126 p (tL 126 p (.ifCond .eq 12) 138) (tL 123 p (.getfield 135) 23)) (tL 122 p (.aload_n 0) 0)) (tB 117 p (tB 119 p (tL 119 p (.putfield 138) 25) (tL 117 p (.iload 6) 0)) (tL 116 p (.aload_n 0) 0))) (tB 109 p (tB 110 p (tB 113 p (tL 113 p (.if_icmp .ge 9) 122) (tL 110 p (.getfield 138) 25)) (tL 109 p (.aload_n 0) 0)) (tB 104 p (tB 107 p (tL 107 p (.iload 6) 0) (tL 104 p (.ifCond .eq 12) 116)) (tL 101 p (.getfield 135) 23)))) (tB 91 p (tB 97 p (tB 98 p (tB 100 p (tL 100 p (.aload_n 0) 0) (tL 98 p (.istore 6) 0)) (tL 97 p .iaload 0)) (tB 92 p (tB 95 p (tL 95 p (.iload 5) 0) (tL 92 p (.getfield 16) 2)) (tL 91 p (.aload_n 0) 0))) (tB 82 p (tB 85 p (tB 88 p (tL 88 p (.goto 78) 166) (tL 85 p (.ifCond .eq 6) 91)) (tL 82 p (.invokevirtual 147) 15)) (tB 80 p (tL 80 p (.iload 5) 0) (tL 79 p (.aload_n 0) 0)))))) (tB 36 p (tB 55 p (tB 69 p (tB 74 p (tB 75 p (tB 76 p (tL 76 p (.putfield 125) 24) (tL 75 p .iadd 0)) (tL 74 p (.iconst 1) 0)) (tB 70 p (tB 71 p (tL 71 p (.getfield 125) 24) (tL 70 p .dup 0)) (tL 69 p (.aload_n 0) 0))) (tB 60 p (tB 63 p (tB 66 p (tL 66 p (.goto 100) 166) (tL 63 p (.ifCond .ne 6) 69)) (tL 60 p (.invokevirtual 144) 11)) (tB 57 p (tB 58 p (tL 58 p (.iload 4) 0) (tL 57 p (.iload_n 3) 0)) (tL 55 p (.iload 5) 0)))) (tB 45 p (tB 51 p (tB 53 p (tB 54 p (tL 54 p (.iload_n 1) 0) (tL 53 p (.aload_n 0) 0)) (tL 51 p (.istore 5) 0)) (tB 48 p (tB 50 p (tL 50 p .iaload 0) (tL 48 p (.iload 4) 0)) (tL 45 p (.getfield 33) 7))) (tB 40 p (tB 41 p (tB 44 p (tL 44 p (.aload_n 0) 0) (tL 41 p (.if_icmp .ge 131) 172)) (tL 40 p (.iload_n 2) 0)) (tB 38 p (tL 38 p (.iload 4) 0) (tL 36 p (.istore 4) 0))))) (tB 17 p (tB 26 p (tB 31 p (tB 32 p (tB 35 p (tL 35 p (.iconst 0) 0) (tL 32 p (.putfield 141) 26)) (tL 31 p (.iconst 0) 0)) (tB 27 p (tB 30 p (tL 30 p (.aload_n 0) 0) (tL 27 p (.putfield 138) 25)) (tL 26 p (.iconst 0) 0))) (tB 21 p (tB 22 p (tB 25 p (tL 25 p (.aload_n 0) 0) (tL 22 p (.putfield 125) 24)) (tL 21 p (.iconst 0) 0)) (tB 20 p (tL 20 p (.aload_n 0) 0) (tL 17 p (.putfield 135) 23)))) (tB 9 p (tB 12 p (tB 15 p (tB 16 p (tL 16 p (.iconst 0) 0) (tL 15 p (.aload_n 0) 0)) (tL 12 p (.putfield 131) 22)) (tB 10 p (tB 11 p (tL 11 p (.lconst 0) 0) (tL 10 p (.aload_n 0) 0)) (tL 9 p (.istore_n 3) 0))) (tB 4 p (tB 5 p (tB 6 p (tL 6 p (.getfield 96) 21) (tL 5 p (.aload_n 0) 0)) (tL 4 p (.istore_n 2) 0)) (tB 1 p (tL 1 p (.getfield 93) 20) (tL 0 p (.aload_n 0) 0)))))))
set_option maxHeartbeats 4000000 in
def cd11 (p : Nat) : Option (Instr × Nat) := (tB 34 p (tB 47 p (tB 54 p (tB 58 p (tB 61 p (tB 62 p (tL 62 p .ireturn 0) (tL 61 p (.iconst 0) 0)) (tL 58 p (.goto 4) 62)) (tB 57 p (tL 57 p (.iconst 1) 0) (tL 54 p (.ifCond .eq 7) 61))) (tB 49 p (tB 51 p (tL 51 p (.invokevirtual 109) 13) (tL 49 p (.iload 4) 0)) (tB 48 p (tL 48 p (.iload_n 3) 0) (tL 47 p (.iload_n 2) 0)))) (tB 39 p (tB 45 p (tB 46 p (tL 46 p (.iload_n 1) 0) (tL 45 p (.aload_n 0) 0)) (tB 42 p (tL 42 p (.ifCond .eq 19) 61) (tL 39 p (.invokevirtual 105) 12))) (tB 36 p (tB 37 p (tL 37 p (.iload 4) 0) (tL 36 p (.iload_n 3) 0)) (tB 35 p (tL 35 p (.iload_n 2) 0) (tL 34 p (.iload_n 1) 0))))) (tB 18 p (tB 28 p (tB 32 p (tB 33 p (tL 33 p (.aload_n 0) 0) (tL 32 p .ireturn 0)) (tB 31 p (tL 31 p (.iconst 0) 0) (tL 28 p (.goto 4) 32))) (tB 24 p (tB 27 p (tL 27 p (.iconst 1) 0) (tL 24 p (.ifCond .eq 7) 31)) (tB 19 p (tL 19 p (.iload 4) 0) (tL 18 p (.iload_n 3) 0)))) (tB 8 p (tB 14 p (tB 17 p (tL 17 p (.aload_n 0) 0) (tL 14 p (.ifCond .eq 17) 31)) (tB 9 p (tL 9 p (.iload 4) 0) (tL 8 p (.iload_n 3) 0))) (tB 4 p (tB 7 p (tL 7 p (.aload_n 0) 0) (tL 4 p (.ifCond .ne 29) 33)) (tB 1 p (tL 1 p (.getfield 56) 12) (tL 0 p (.aload_n 0) 0))))))
set_option maxHeartbeats 4000000 in
def cd12 (p : Nat) : Option (Instr × Nat) := (tB 67 p (tB 100 p (tB 117 p (tB 123 p (tB 127 p (tB 130 p (tB 131 p (tL 131 p .ireturn 0) (tL 130 p (.iconst 0) 0)) (tL 127 p (.goto 4) 131)) (tB 126 p (tL 126 p (.iconst 1) 0) (tL 123 p (.ifCond .lt 7) 130))) (tB 120 p (tB 122 p (tL 122 p .lcmp 0) (tL 120 p (.lload 8) 0)) (tB 118 p (tL 118 p (.lload 6) 0) (tL 117 p .ireturn 0)))) (tB 108 p (tB 112 p (tB 113 p (tB 116 p (tL 116 p (.iconst 0) 0) (tL 113 p (.goto 4) 117)) (tL 112 p (.iconst 1) 0)) (tB 109 p (tL 109 p (.ifCond .lt 7) 116) (tL 108 p .lcmp 0))) (tB 105 p (tB 107 p (tL 107 p .lneg 0) (tL 105 p (.lload 8) 0)) (tB 103 p (tL 103 p (.lload 6) 0) (tL 100 p (.if_icmp .ne 18) 118))))) (tB 82 p (tB 92 p (tB 95 p (tB 96 p (tB 99 p (tL 99 p (.iconst 1) 0) (tL 96 p (.getfield 59) 13)) (tL 95 p (.aload_n 0) 0)) (tB 93 p (tL 93 p (.lstore 8) 0) (tL 92 p .i2l 0))) (tB 88 p (tB 89 p (tL 89 p (.getfield 62) 14) (tL 88 p (.aload_n 0) 0)) (tB 86 p (tL 86 p (.lstore 6) 0) (tL 82 p (.iload_n 2) 0)))) (tB 75 p (tB 79 p (tB 80 p (tB 81 p (tL 81 p (.iload_n 1) 0) (tL 80 p (.aload_n 0) 0)) (tL 79 p .ireturn 0)) (tB 78 p (tL 78 p (.iconst 0) 0) (tL 75 p (.goto 4) 79))) (tB 71 p (tB 74 p (tL 74 p (.iconst 1) 0) (tL 71 p (.if_icmp .ne 7) 78)) (tB 70 p (tL 70 p (.iconst 1) 0) (tL 67 p (.getfield 53) 11)))))) (tB 33 p (tB 49 p (tB 58 p (tB 60 p (tB 63 p (tB 66 p (tL 66 p (.aload_n 0) 0) (tL 63 p (.ifCond .eq 17) 80)) (tL 60 p (.invokevirtual 85) 9)) (tB 59 p (tL 59 p (.iload_n 2) 0) (tL 58 p (.aload_n 0) 0))) (tB 55 p (tB 57 p (tL 57 p .ireturn 0) (tL 55 p (.iload 5) 0)) (tB 52 p (tL 52 p (.ifCond .eq 6) 58) (tL 49 p (.invokevirtual 85) 9)))) (tB 40 p (tB 44 p (tB 47 p (tB 48 p (tL 48 p (.iload_n 1) 0) (tL 47 p (.aload_n 0) 0)) (tL 44 p (.if_icmp .eq 11) 55)) (tB 43 p (tL 43 p (.iconst 2) 0) (tL 40 p (.getfield 59) 13))) (tB 37 p (tB 39 p (tL 39 p (.aload_n 0) 0) (tL 37 p (.istore 5) 0)) (tB 36 p (tL 36 p (.iconst 0) 0) (tL 33 p (.goto 4) 37))))) (tB 17 p (tB 23 p (tB 28 p (tB 29 p (tB 32 p (tL 32 p (.iconst 1) 0) (tL 29 p (.if_icmp .le 7) 36)) (tL 28 p (.iload_n 3) 0)) (tB 26 p (tL 26 p (.iload 4) 0) (tL 23 p (.ifCond .ne 9) 32))) (tB 19 p (tB 20 p (tL 20 p (.invokevirtual 112) 14) (tL 19 p (.iload_n 2) 0)) (tB 18 p (tL 18 p (.iload_n 1) 0) (tL 17 p (.aload_n 0) 0)))) (tB 8 p (tB 12 p (tB 15 p (tB 16 p (tL 16 p .ireturn 0) (tL 15 p (.iconst 1) 0)) (tL 12 p (.if_icmp .ne 5) 17)) (tB 11 p (tL 11 p (.iconst 4) 0) (tL 8 p (.getfield 59) 13))) (tB 4 p (tB 7 p (tL 7 p (.aload_n 0) 0) (tL 4 p (.ifCond .eq 11) 15)) (tB 1 p (tL 1 p (.getfield 59) 13) (tL 0 p (.aload_n 0) 0)))))))
set_option maxHeartbeats 4000000 in
def cd13 (p : Nat) : Option (Instr × Nat) := (tB 66 p (tB 99 p (tB 116 p (tB 122 p (tB 126 p (tB 129 p (tB 130 p (tL 130 p .ireturn 0) (tL 129 p (.iconst 0) 0)) (tL 126 p (.goto 4) 130)) (tB 125 p (tL 125 p (.iconst 1) 0) (tL 122 p (.ifCond .gt 7) 129))) (tB 119 p (tB 121 p (tL 121 p .lcmp 0) (tL 119 p (.lload 8) 0)) (tB 117 p (tL 117 p (.lload 6) 0) (tL 116 p .ireturn 0)))) (tB 107 p (tB 111 p (tB 112 p (tB 115 p (tL 115 p (.iconst 0) 0) (tL 112 p (.goto 4) 116)) (tL 111 p (.iconst 1) 0)) (tB 108 p (tL 108 p (.ifCond .gt 7) 115) (tL 107 p .lcmp 0))) (tB 104 p (tB 106 p (tL 106 p .lneg 0) (tL 104 p (.lload 8) 0)) (tB 102 p (tL 102 p (.lload 6) 0) (tL 99 p (.if_icmp .ne 18) 117))))) (tB 81 p (tB 91 p (tB 94 p (tB 95 p (tB 98 p (tL 98 p (.iconst 1) 0) (tL 95 p (.getfield 65) 15)) (tL 94 p (.aload_n 0) 0)) (tB 92 p (tL 92 p (.lstore 8) 0) (tL 91 p .i2l 0))) (tB 87 p (tB 88 p (tL 88 p (.getfield 68) 16) (tL 87 p (.aload_n 0) 0)) (tB 85 p (tL 85 p (.lstore 6) 0) (tL 81 p (.iload_n 2) 0)))) (tB 74 p (tB 78 p (tB 79 p (tB 80 p (tL 80 p (.iload_n 1) 0) (tL 79 p (.aload_n 0) 0)) (tL 78 p .ireturn 0)) (tB 77 p (tL 77 p (.iconst 0) 0) (tL 74 p (.goto 4) 78))) (tB 70 p (tB 73 p (tL 73 p (.iconst 1) 0) (tL 70 p (.ifCond .ne 7) 77)) (tB 67 p (tL 67 p (.getfield 53) 11) (tL 66 p (.aload_n 0) 0)))))) (tB 32 p (tB 48 p (tB 57 p (tB 59 p (tB 60 p (tB 63 p (tL 63 p (.ifCond .eq 16) 79) (tL 60 p (.invokevirtual 85) 9)) (tL 59 p (.iload_n 2) 0)) (tB 58 p (tL 58 p (.aload_n 0) 0) (tL 57 p .ireturn 0))) (tB 52 p (tB 55 p (tL 55 p (.iload 5) 0) (tL 52 p (.ifCond .eq 6) 58)) (tB 49 p (tL 49 p (.invokevirtual 85) 9) (tL 48 p (.iload_n 1) 0)))) (tB 39 p (tB 43 p (tB 44 p (tB 47 p (tL 47 p (.aload_n 0) 0) (tL 44 p (.if_icmp .eq 11) 55)) (tL 43 p (.iconst 2) 0)) (tB 40 p (tL 40 p (.getfield 65) 15) (tL 39 p (.aload_n 0) 0))) (tB 36 p (tB 37 p (tL 37 p (.istore 5) 0) (tL 36 p (.iconst 0) 0)) (tB 33 p (tL 33 p (.goto 4) 37) (tL 32 p (.iconst 1) 0))))) (tB 16 p (tB 20 p (tB 26 p (tB 28 p (tB 29 p (tL 29 p (.if_icmp .ge 7) 36) (tL 28 p (.iload_n 3) 0)) (tL 26 p (.iload 4) 0)) (tB 23 p (tL 23 p (.ifCond .ne 9) 32) (tL 20 p (.invokevirtual 112) 14))) (tB 18 p (tB 19 p (tL 19 p (.iload_n 2) 0) (tL 18 p (.iload_n 1) 0)) (tB 17 p (tL 17 p (.aload_n 0) 0) (tL 16 p .ireturn 0)))) (tB 8 p (tB 12 p (tB 15 p (tL 15 p (.iconst 1) 0) (tL 12 p (.ifCond .ne 5) 17)) (tB 9 p (tL 9 p (.getfield 65) 15) (tL 8 p (.aload_n 0) 0))) (tB 4 p (tB 5 p (tL 5 p (.if_icmp .eq 10) 15) (tL 4 p (.iconst 4) 0)) (tB 1 p (tL 1 p (.getfield 65) 15) (tL 0 p (.aload_n 0) 0)))))))
set_option maxHeartbeats 4000000 in
def cd14 (p : Nat) : Option (Instr × Nat) := (tB 33 p (tB 49 p (tB 56 p (tB 60 p (tB 63 p (tB 64 p (tL 64 p .ireturn 0) (tL 63 p (.iconst 0) 0)) (tL 60 p (.goto 4) 64)) (tB 59 p (tL 59 p (.iconst 1) 0) (tL 56 p (.if_icmp .ne 7) 63))) (tB 51 p (tB 54 p (tB 55 p (tL 55 p .iaload 0) (tL 54 p (.iload_n 2) 0)) (tL 51 p (.getfield 13) 1)) (tB 50 p (tL 50 p (.aload_n 0) 0) (tL 49 p .iaload 0)))) (tB 42 p (tB 44 p (tB 45 p (tB 48 p (tL 48 p (.iload_n 1) 0) (tL 45 p (.getfield 13) 1)) (tL 44 p (.aload_n 0) 0)) (tB 43 p (tL 43 p .ireturn 0) (tL 42 p (.iconst 0) 0))) (tB 37 p (tB 39 p (tL 39 p (.ifCond .eq 5) 44) (tL 37 p (.iload 4) 0)) (tB 34 p (tL 34 p (.ifCond .ne 8) 42) (tL 33 p (.iload_n 3) 0))))) (tB 15 p (tB 23 p (tB 28 p (tB 31 p (tB 32 p (tL 32 p .ireturn 0) (tL 31 p (.iconst 1) 0)) (tL 28 p (.ifCond .eq 5) 33)) (tB 26 p (tL 26 p (.iload 4) 0) (tL 23 p (.ifCond .eq 10) 33))) (tB 17 p (tB 20 p (tB 22 p (tL 22 p (.iload_n 3) 0) (tL 20 p (.istore 4) 0)) (tL 17 p (.invokevirtual 85) 9)) (tB 16 p (tL 16 p (.iload_n 2) 0) (tL 15 p (.aload_n 0) 0)))) (tB 8 p (tB 10 p (tB 11 p (tB 14 p (tL 14 p (.istore_n 3) 0) (tL 11 p (.invokevirtual 85) 9)) (tL 10 p (.iload_n 1) 0)) (tB 9 p (tL 9 p (.aload_n 0) 0) (tL 8 p .ireturn 0))) (tB 4 p (tB 7 p (tL 7 p (.iconst 1) 0) (tL 4 p (.ifCond .ne 5) 9)) (tB 1 p (tL 1 p (.getfield 50) 10) (tL 0 p (.aload_n 0) 0))))))
set_option maxHeartbeats 4000000 in
def cd15 (p : Nat) : Option (Instr × Nat) := (tB 7 p (tB 12 p (tB 15 p (tB 16 p (tL 16 p .ireturn 0) (tL 15 p (.iconst 0) 0)) (tL 12 p (.goto 4) 16)) (tB 8 p (tB 11 p (tL 11 p (.iconst 1) 0) (tL 8 p (.ifCond .eq 7) 15)) (tL 7 p .iand 0))) (tB 4 p (tB 5 p (tB 6 p (tL 6 p (.iconst 2) 0) (tL 5 p .iaload 0)) (tL 4 p (.iload_n 1) 0)) (tB 1 p (tL 1 p (.getfield 19) 3) (tL 0 p (.aload_n 0) 0))))
set_option maxHeartbeats 4000000 in
def cd16 (p : Nat) : Option (Instr × Nat) := (tB 122 p (tB 179 p (tB 209 p (tB 221 p (tB 228 p (tB 232 p (tB 235 p (tB 239 p (tL 239 p .return_ 0) (tL 235 p (.iconst 0) 0)) (tL 232 p (.goto 4) 236)) (tB 231 p (tL 231 p (.iconst 1) 0) (tL 228 p (.if_icmp .ne 7) 235))) (tB 223 p (tB 226 p (tL 226 p (.bipush 8) 0) (tL 223 p (.getfield 71) 17)) (tB 222 p (tL 222 p (.aload_n 0) 0) (tL 221 p (.iload_n 2) 0)))) (tB 213 p (tB 219 p (tB 220 p (tL 220 p (.iload_n 1) 0) (tL 219 p (.aload_n 0) 0)) (tB 216 p (tL 216 p (.goto 23) 239) (tL 213 p (.invokevirtual 150) 17))) (tB 211 p (tB 212 p (tL 212 p (.iconst 0) 0) (tL 211 p (.lload_n 3) 0)) (tB 210 p (tL 210 p (.iload_n 1) 0) (tL 209 p (.aload_n 0) 0))))) (tB 193 p (tB 202 p (tB 204 p (tB 208 p (tL 208 p (.lstore_n 3) 0) (tL 204 p (.iload_n 2) 0)) (tB 203 p (tL 203 p (.iload_n 1) 0) (tL 202 p (.aload_n 0) 0))) (tB 197 p (tB 199 p (tL 199 p (.if_icmp .ne 20) 219) (tL 197 p (.bipush 7) 0)) (tB 194 p (tL 194 p (.getfield 71) 17) (tL 193 p (.aload_n 0) 0)))) (tB 185 p (tB 187 p (tB 190 p (tL 190 p (.goto 49) 239) (tL 187 p (.invokevirtual 150) 17)) (tB 186 p (tL 186 p (.iconst 0) 0) (tL 185 p (.lload_n 3) 0))) (tB 183 p (tB 184 p (tL 184 p (.iload_n 1) 0) (tL 183 p (.aload_n 0) 0)) (tB 182 p (tL 182 p (.lstore_n 3) 0) (tL 179 p (.invokevirtual 154) 25)))))) (tB 154 p (tB 164 p (tB 173 p (tB 177 p (tB 178 p (tL 178 p (.iload_n 2) 0) (tL 177 p (.iload_n 1) 0)) (tB 176 p (tL 176 p (.aload_n 0) 0) (tL 173 p (.if_icmp .ne 20) 193))) (tB 168 p (tB 171 p (tL 171 p (.bipush 6) 0) (tL 168 p (.getfield 71) 17)) (tB 167 p (tL 167 p (.aload_n 0) 0) (tL 164 p (.goto 75) 239)))) (tB 158 p (tB 160 p (tB 161 p (tL 161 p (.invokevirtual 150) 17) (tL 160 p (.iconst 0) 0)) (tB 159 p (tL 159 p .ladd 0) (tL 158 p (.lconst 1) 0))) (tB 156 p (tB 157 p (tL 157 p .i2l 0) (tL 156 p (.iload_n 2) 0)) (tB 155 p (tL 155 p (.iload_n 1) 0) (tL 154 p (.aload_n 0) 0))))) (tB 136 p (tB 146 p (tB 150 p (tB 151 p (tL 151 p (.if_icmp .ne 16) 167) (tL 150 p (.iconst 5) 0)) (tB 147 p (tL 147 p (.getfield 71) 17) (tL 146 p (.aload_n 0) 0))) (tB 140 p (tB 143 p (tL 143 p (.goto 96) 239) (tL 140 p (.invokevirtual 150) 17)) (tB 139 p (tL 139 p (.iconst 0) 0) (tL 136 p (.goto 4) 140)))) (tB 128 p (tB 132 p (tB 135 p (tL 135 p (.iconst 1) 0) (tL 132 p (.ifCond .ne 7) 139)) (tB 129 p (tL 129 p (.getfield 135) 23) (tL 128 p (.aload_n 0) 0))) (tB 124 p (tB 127 p (tL 127 p .i2l 0) (tL 124 p (.getfield 141) 26)) (tB 123 p (tL 123 p (.aload_n 0) 0) (tL 122 p (.iload_n 1) 0))))))) (tB 62 p (tB 90 p (tB 106 p (tB 114 p (tB 118 p (tB 121 p (tL 121 p (.aload_n 0) 0) (tL 118 p (.if_icmp .ne 28) 146)) (tB 117 p (tL 117 p (.iconst 4) 0) (tL 114 p (.getfield 71) 17))) (tB 110 p (tB 113 p (tL 113 p (.aload_n 0) 0) (tL 110 p (.goto 129) 239)) (tB 107 p (tL 107 p (.invokevirtual 150) 17) (tL 106 p (.iconst 0) 0)))) (tB 96 p (tB 102 p (tB 103 p (tL 103 p (.goto 4) 107) (tL 102 p (.iconst 1) 0)) (tB 99 p (tL 99 p (.ifCond .ne 7) 106) (tL 96 p (.getfield 135) 23))) (tB 94 p (tB 95 p (tL 95 p (.aload_n 0) 0) (tL 94 p .i2l 0)) (tB 91 p (tL 91 p (.getfield 138) 25) (tL 90 p (.aload_n 0) 0))))) (tB 74 p (tB 84 p (tB 88 p (tB 89 p (tL 89 p (.iload_n 1) 0) (tL 88 p (.aload_n 0) 0)) (tB 85 p (tL 85 p (.if_icmp .ne 28) 113) (tL 84 p (.iconst 3) 0))) (tB 80 p (tB 81 p (tL 81 p (.getfield 71) 17) (tL 80 p (.aload_n 0) 0)) (tB 77 p (tL 77 p (.goto 162) 239) (tL 74 p (.invokevirtual 150) 17)))) (tB 68 p (tB 72 p (tB 73 p (tL 73 p (.iconst 0) 0) (tL 72 p .i2l 0)) (tB 69 p (tL 69 p (.getfield 125) 24) (tL 68 p (.aload_n 0) 0))) (tB 66 p (tB 67 p (tL 67 p (.iload_n 1) 0) (tL 66 p (.aload_n 0) 0)) (tB 63 p (tL 63 p (.if_icmp .ne 17) 80) (tL 62 p (.iconst 2) 0)))))) (tB 30 p (tB 46 p (tB 52 p (tB 58 p (tB 59 p (tL 59 p (.getfield 71) 17) (tL 58 p (.aload_n 0) 0)) (tB 55 p (tL 55 p (.goto 184) 239) (tL 52 p (.invokevirtual 150) 17))) (tB 50 p (tB 51 p (tL 51 p (.iconst 0) 0) (tL 50 p .i2l 0)) (tB 47 p (tL 47 p (.getfield 135) 23) (tL 46 p (.aload_n 0) 0)))) (tB 40 p (tB 44 p (tB 45 p (tL 45 p (.iload_n 1) 0) (tL 44 p (.aload_n 0) 0)) (tB 41 p (tL 41 p (.if_icmp .ne 17) 58) (tL 40 p (.iconst 1) 0))) (tB 36 p (tB 37 p (tL 37 p (.getfield 71) 17) (tL 36 p (.aload_n 0) 0)) (tB 33 p (tL 33 p (.goto 206) 239) (tL 30 p (.invokevirtual 150) 17))))) (tB 14 p (tB 22 p (tB 26 p (tB 29 p (tL 29 p (.iconst 0) 0) (tL 26 p (.goto 4) 30)) (tB 25 p (tL 25 p (.iconst 1) 0) (tL 22 p (.ifCond .ne 7) 29))) (tB 18 p (tB 19 p (tL 19 p (.getfield 135) 23) (tL 18 p (.aload_n 0) 0)) (tB 15 p (tL 15 p (.getfield 131) 22) (tL 14 p (.aload_n 0) 0)))) (tB 6 p (tB 12 p (tB 13 p (tL 13 p (.iload_n 1) 0) (tL 12 p (.aload_n 0) 0)) (tB 9 p (tL 9 p (.ifCond .ne 27) 36) (tL 6 p (.getfield 71) 17))) (tB 4 p (tB 5 p (tL 5 p (.aload_n 0) 0) (tL 4 p (.istore_n 2) 0)) (tB 1 p (tL 1 p (.getfield 96) 21) (tL 0 p (.aload_n 0) 0))))))))
set_option maxHeartbeats 4000000 in
def cd17 (p : Nat) : Option (Instr × Nat) := (tB 12 p (tB 19 p (tB 23 p (tB 24 p (tL 24 p .return_ 0) (tL 23 p .lastore 0)) (tB 22 p (tL 22 p (.lload_n 2) 0) (tL 19 p (.goto 4) 23))) (tB 15 p (tB 18 p (tL 18 p (.lconst 0) 0) (tL 15 p (.ifCond .eq 7) 22)) (tB 13 p (tL 13 p (.iload 4) 0) (tL 12 p (.iload_n 1) 0)))) (tB 5 p (tB 8 p (tB 9 p (tL 9 p (.getfield 22) 4) (tL 8 p (.aload_n 0) 0)) (tB 7 p (tL 7 p .bastore 0) (tL 5 p (.iload 4) 0))) (tB 1 p (tB 4 p (tL 4 p (.iload_n 1) 0) (tL 1 p (.getfield 26) 5)) (tL 0 p (.aload_n 0) 0))))
set_option maxHeartbeats 4000000 in
def cd18 (p : Nat) : Option (Instr × Nat) := (tB 23 p (tB 34 p (tB 39 p (tB 42 p (tB 44 p (tL 44 p .lreturn 0) (tL 42 p (.lload 7) 0)) (tB 40 p (tL 40 p (.lstore 7) 0) (tL 39 p .ladd 0))) (tB 36 p (tB 38 p (tL 38 p .i2l 0) (tL 36 p (.iload 6) 0)) (tL 34 p (.lload 7) 0))) (tB 27 p (tB 30 p (tB 31 p (tL 31 p (.if_icmp .gt 11) 42) (tL 30 p (.iload_n 0) 0)) (tB 29 p (tL 29 p (.iload_n 3) 0) (tL 27 p (.lstore 7) 0))) (tB 25 p (tB 26 p (tL 26 p .ladd 0) (tL 25 p .i2l 0)) (tL 23 p (.iload 5) 0)))) (tB 12 p (tB 16 p (tB 18 p (tB 21 p (tL 21 p (.lload 7) 0) (tL 18 p (.if_icmp .gt 11) 29)) (tB 17 p (tL 17 p (.iload_n 0) 0) (tL 16 p (.iload_n 2) 0))) (tB 13 p (tB 14 p (tL 14 p (.lstore 7) 0) (tL 13 p .ladd 0)) (tL 12 p .i2l 0))) (tB 4 p (tB 8 p (tB 10 p (tL 10 p (.iload 4) 0) (tL 8 p (.lload 7) 0)) (tB 5 p (tL 5 p (.if_icmp .gt 11) 16) (tL 4 p (.iload_n 0) 0))) (tB 1 p (tB 3 p (tL 3 p (.iload_n 1) 0) (tL 1 p (.lstore 7) 0)) (tL 0 p (.lconst 0) 0)))))
set_option maxHeartbeats 4000000 in
def cd19 (p : Nat) : Option (Instr × Nat) := (tB 13 p (tB 21 p (tB 27 p (tB 29 p (tL 29 p .ireturn 0) (tL 27 p (.iload 4) 0)) (tB 24 p (tL 24 p (.iinc 4 1) 0) (tL 21 p (.if_icmp .gt 6) 27))) (tB 19 p (tB 20 p (tL 20 p (.iload_n 0) 0) (tL 19 p (.iload_n 3) 0)) (tB 16 p (tL 16 p (.iinc 4 1) 0) (tL 13 p (.if_icmp .gt 6) 19)))) (tB 5 p (tB 11 p (tB 12 p (tL 12 p (.iload_n 0) 0) (tL 11 p (.iload_n 2) 0)) (tB 8 p (tL 8 p (.iinc 4 1) 0) (tL 5 p (.if_icmp .gt 6) 11))) (tB 3 p (tB 4 p (tL 4 p (.iload_n 0) 0) (tL 3 p (.iload_n 1) 0)) (tB 1 p (tL 1 p (.istore 4) 0) (tL 0 p (.iconst 0) 0)))))
set_option maxHeartbeats 4000000 in
def cd20 (p : Nat) : Option (Instr × Nat) := (tB 21 p (tB 33 p (tB 40 p (tB 44 p (tB 45 p (tL 45 p .ireturn 0) (tL 44 p (.iconst 0) 0)) (tB 41 p (tL 41 p (.goto 4) 45) (tL 40 p (.iconst 1) 0))) (tB 35 p (tB 37 p (tL 37 p (.if_icmp .ne 7) 44) (tL 35 p (.iload 4) 0)) (tL 33 p (.iload 8) 0))) (tB 25 p (tB 28 p (tB 30 p (tL 30 p (.ifCond .ne 14) 44) (tL 28 p (.iload 7) 0)) (tL 25 p (.ifCond .ne 19) 44)) (tB 23 p (tB 24 p (tL 24 p .lcmp 0) (tL 23 p (.lload_n 2) 0)) (tL 21 p (.lload 5) 0)))) (tB 9 p (tB 15 p (tB 16 p (tB 19 p (tL 19 p (.istore 8) 0) (tL 16 p (.invokevirtual 17) 23)) (tL 15 p (.iload_n 1) 0)) (tB 12 p (tB 14 p (tL 14 p (.aload_n 0) 0) (tL 12 p (.istore 7) 0)) (tL 9 p (.invokevirtual 13) 22))) (tB 5 p (tB 7 p (tB 8 p (tL 8 p (.iload_n 1) 0) (tL 7 p (.aload_n 0) 0)) (tL 5 p (.lstore 5) 0)) (tB 1 p (tB 2 p (tL 2 p (.invokevirtual 7) 21) (tL 1 p (.iload_n 1) 0)) (tL 0 p (.aload_n 0) 0)))))
set_option maxHeartbeats 4000000 in
def cd21 (p : Nat) : Option (Instr × Nat) := (tB 21 p (tB 31 p (tB 36 p (tB 37 p (tB 38 p (tL 38 p .lreturn 0) (tL 37 p .laload 0)) (tL 36 p (.iload_n 1) 0)) (tB 32 p (tB 33 p (tL 33 p (.getfield 22) 4) (tL 32 p (.aload_n 0) 0)) (tL 31 p .lreturn 0))) (tB 26 p (tB 27 p (tB 30 p (tL 30 p (.lconst 0) 0) (tL 27 p (.ifCond .eq 5) 32)) (tL 26 p .baload 0)) (tB 22 p (tB 25 p (tL 25 p (.iload_n 1) 0) (tL 22 p (.getfield 26) 5)) (tL 21 p (.aload_n 0) 0)))) (tB 11 p (tB 16 p (tB 19 p (tB 20 p (tL 20 p .lreturn 0) (tL 19 p (.lconst 0) 0)) (tL 16 p (.if_icmp .lt 5) 21)) (tB 12 p (tB 13 p (tL 13 p (.getfield 40) 9) (tL 12 p (.aload_n 0) 0)) (tL 11 p (.iload_n 1) 0))) (tB 4 p (tB 7 p (tB 8 p (tL 8 p (.ifCond .lt 11) 19) (tL 7 p (.iload_n 1) 0)) (tL 4 p (.ifCond .eq 15) 19)) (tB 1 p (tL 1 p (.getfield 46) 19) (tL 0 p (.aload_n 0) 0)))))
set_option maxHeartbeats 4000000 in
def cd22 (p : Nat) : Option (Instr × Nat) := (tB 16 p (tB 22 p (tB 26 p (tB 27 p (tL 27 p .ireturn 0) (tL 26 p .baload 0)) (tB 25 p (tL 25 p (.iload_n 1) 0) (tL 22 p (.getfield 26) 5))) (tB 20 p (tB 21 p (tL 21 p (.aload_n 0) 0) (tL 20 p .ireturn 0)) (tB 19 p (tL 19 p (.iconst 0) 0) (tL 16 p (.if_icmp .lt 5) 21)))) (tB 8 p (tB 12 p (tB 13 p (tL 13 p (.getfield 40) 9) (tL 12 p (.aload_n 0) 0)) (tB 11 p (tL 11 p (.iload_n 1) 0) (tL 8 p (.ifCond .lt 11) 19))) (tB 4 p (tB 7 p (tL 7 p (.iload_n 1) 0) (tL 4 p (.ifCond .eq 15) 19)) (tB 1 p (tL 1 p (.getfield 46) 19) (tL 0 p (.aload_n 0) 0)))))
set_option maxHeartbeats 4000000 in
def cd23 (p : Nat) : Option (Instr × Nat) := (tB 16 p (tB 22 p (tB 26 p (tB 27 p (tL 27 p .ireturn 0) (tL 26 p .iaload 0)) (tB 25 p (tL 25 p (.iload_n 1) 0) (tL 22 p (.getfield 30) 6))) (tB 20 p (tB 21 p (tL 21 p (.aload_n 0) 0) (tL 20 p .ireturn 0)) (tB 19 p (tL 19 p (.iconst (-1)) 0) (tL 16 p (.if_icmp .lt 5) 21)))) (tB 8 p (tB 12 p (tB 13 p (tL 13 p (.getfield 40) 9) (tL 12 p (.aload_n 0) 0)) (tB 11 p (tL 11 p (.iload_n 1) 0) (tL 8 p (.ifCond .lt 11) 19))) (tB 4 p (tB 7 p (tL 7 p (.iload_n 1) 0) (tL 4 p (.ifCond .eq 15) 19)) (tB 1 p (tL 1 p (.getfield 46) 19) (tL 0 p (.aload_n 0) 0)))))
set_option maxHeartbeats 4000000 in
def cd24 (p : Nat) : Option (Instr × Nat) := (tB 34 p (tB 47 p (tB 58 p (tB 60 p (tB 63 p (tB 64 p (tL 64 p .ireturn 0) (tL 63 p (.iconst 1) 0)) (tL 60 p (.putfield 46) 19)) (tB 59 p (tL 59 p (.iconst 0) 0) (tL 58 p (.aload_n 0) 0))) (tB 51 p (tB 54 p (tB 55 p (tL 55 p (.putfield 74) 18) (tL 54 p (.iconst 0) 0)) (tL 51 p (.goto 4) 55)) (tB 50 p (tL 50 p (.iload_n 2) 0) (tL 47 p (.ifCond .eq 7) 54)))) (tB 40 p (tB 42 p (tB 45 p (tB 46 p (tL 46 p (.iload_n 3) 0) (tL 45 p (.aload_n 0) 0)) (tL 42 p (.putfield 71) 17)) (tB 41 p (tL 41 p (.iload_n 1) 0) (tL 40 p (.aload_n 0) 0))) (tB 38 p (tB 39 p (tL 39 p .ireturn 0) (tL 38 p (.iconst 0) 0)) (tB 35 p (tL 35 p (.ifCond .ge 5) 40) (tL 34 p (.iload_n 2) 0))))) (tB 15 p (tB 25 p (tB 29 p (tB 30 p (tB 31 p (tL 31 p (.ifCond .eq 9) 40) (tL 30 p (.iload_n 3) 0)) (tL 29 p (.istore_n 3) 0)) (tB 28 p (tL 28 p (.iconst 0) 0) (tL 25 p (.goto 4) 29))) (tB 19 p (tB 21 p (tB 24 p (tL 24 p (.iconst 1) 0) (tL 21 p (.if_icmp .ne 7) 28)) (tL 19 p (.bipush 9) 0)) (tB 18 p (tL 18 p (.iload_n 1) 0) (tL 15 p (.if_icmp .eq 9) 24)))) (tB 7 p (tB 11 p (tB 12 p (tB 13 p (tL 13 p (.bipush 8) 0) (tL 12 p (.iload_n 1) 0)) (tL 11 p .ireturn 0)) (tB 10 p (tL 10 p (.iconst 0) 0) (tL 7 p (.if_icmp .le 5) 12))) (tB 4 p (tB 5 p (tL 5 p (.bipush 9) 0) (tL 4 p (.iload_n 1) 0)) (tB 1 p (tL 1 p (.ifCond .lt 9) 10) (tL 0 p (.iload_n 1) 0))))))
set_option maxHeartbeats 4000000 in
def cd25 (p : Nat) : Option (Instr × Nat) := (tB 22 p (tB 36 p (tB 39 p (tB 45 p (tB 46 p (tL 46 p .lreturn 0) (tL 45 p (.lload_n 3) 0)) (tB 42 p (tL 42 p (.goto (-37)) 5) (tL 39 p (.iinc 5 1) 0))) (tB 37 p (tB 38 p (tL 38 p (.lstore_n 3) 0) (tL 37 p .ladd 0)) (tL 36 p (.lconst 1) 0))) (tB 28 p (tB 32 p (tB 35 p (tL 35 p (.lload_n 3) 0) (tL 32 p (.ifCond .ne 7) 39)) (tB 29 p (tL 29 p (.invokevirtual 112) 14) (tL 28 p (.iload_n 1) 0))) (tB 25 p (tB 27 p (tL 27 p .iaload 0) (tL 25 p (.iload 5) 0)) (tL 22 p (.getfield 33) 7)))) (tB 8 p (tB 14 p (tB 20 p (tB 21 p (tL 21 p (.aload_n 0) 0) (tL 20 p (.aload_n 0) 0)) (tB 17 p (tL 17 p (.if_icmp .ge 28) 45) (tL 14 p (.getfield 93) 20))) (tB 11 p (tB 13 p (tL 13 p (.aload_n 0) 0) (tL 11 p (.iload 5) 0)) (tL 8 p (.if_icmp .ge 37) 45))) (tB 3 p (tB 5 p (tB 7 p (tL 7 p (.iload_n 2) 0) (tL 5 p (.iload 5) 0)) (tL 3 p (.istore 5) 0)) (tB 1 p (tB 2 p (tL 2 p (.iconst 0) 0) (tL 1 p (.lstore_n 3) 0)) (tL 0 p (.lconst 1) 0)))))
set_option maxHeartbeats 4000000 in
def cd26 (p : Nat) : Option (Instr × Nat) := (tB 13 p (tB 21 p (tB 27 p (tB 29 p (tL 29 p .ireturn 0) (tL 27 p (.iload 4) 0)) (tB 24 p (tL 24 p (.iinc 4 1) 0) (tL 21 p (.if_icmp .ge 6) 27))) (tB 19 p (tB 20 p (tL 20 p (.iload_n 0) 0) (tL 19 p (.iload_n 3) 0)) (tB 16 p (tL 16 p (.iinc 4 1) 0) (tL 13 p (.if_icmp .ge 6) 19)))) (tB 5 p (tB 11 p (tB 12 p (tL 12 p (.iload_n 0) 0) (tL 11 p (.iload_n 2) 0)) (tB 8 p (tL 8 p (.iinc 4 1) 0) (tL 5 p (.if_icmp .ge 6) 11))) (tB 3 p (tB 4 p (tL 4 p (.iload_n 0) 0) (tL 3 p (.iload_n 1) 0)) (tB 1 p (tL 1 p (.istore 4) 0) (tL 0 p (.iconst 0) 0)))))
def pCode (m pc : Nat) : Option (Instr × Nat) := bif Nat.ble pN m then none else bif Nat.ble (pTop m) pc then none else (bif Nat.ble 13 m then (bif Nat.ble 20 m then (bif Nat.ble 23 m then (bif Nat.ble 25 m then (bif Nat.ble 26 m then cd26 pc else cd25 pc) else (bif Nat.ble 24 m then cd24 pc else cd23 pc)) else (bif Nat.ble 21 m then (bif Nat.ble 22 m then cd22 pc else cd21 pc) else cd20 pc)) else (bif Nat.ble 16 m then (bif Nat.ble 18 m then (bif Nat.ble 19 m then cd19 pc else cd18 pc) else (bif Nat.ble 17 m then cd17 pc else cd16 pc)) else (bif Nat.ble 14 m then (bif Nat.ble 15 m then cd15 pc else cd14 pc) else cd13 pc))) else (bif Nat.ble 6 m then (bif Nat.ble 9 m then (bif Nat.ble 11 m then (bif Nat.ble 12 m then cd12 pc else cd11 pc) else (bif Nat.ble 10 m then cd10 pc else cd9 pc)) else (bif Nat.ble 7 m then (bif Nat.ble 8 m then cd8 pc else cd7 pc) else cd6 pc)) else (bif Nat.ble 3 m then (bif Nat.ble 4 m then (bif Nat.ble 5 m then cd5 pc else cd4 pc) else cd3 pc) else (bif Nat.ble 1 m then (bif Nat.ble 2 m then cd2 pc else cd1 pc) else cd0 pc))))
def lkF : List (Nat × Nat × Nat) := [(1, 7, 0), (1, 13, 1), (1, 16, 2), (1, 19, 3), (1, 22, 4), (1, 26, 5), (1, 30, 6), (1, 33, 7), (1, 36, 8), (1, 40, 9), (1, 50, 10), (1, 53, 11), (1, 56, 12), (1, 59, 13), (1, 62, 14), (1, 65, 15), (1, 68, 16), (1, 71, 17), (1, 74, 18), (1, 46, 19), (1, 93, 20), (1, 96, 21), (1, 131, 22), (1, 135, 23), (1, 125, 24), (1, 138, 25), (1, 141, 26)]
def lkN : List (Nat × Nat) := [(0, 8)]
def lkC : List (Nat × Nat × Nat) := []
def lkD : List (Nat × Nat × Nat) := []
def lkV : List (Nat × Nat × Nat) := [(0, 21, 1), (1, 43, 2), (0, 24, 3), (0, 28, 4), (1, 77, 5), (1, 81, 6), (1, 119, 7), (1, 89, 8), (1, 85, 9), (1, 122, 10), (1, 144, 11), (1, 105, 12), (1, 109, 13), (1, 112, 14), (1, 147, 15), (1, 128, 16), (1, 150, 17), (0, 32, 18), (0, 38, 19), (0, 41, 20), (0, 7, 21), (0, 13, 22), (0, 17, 23), (0, 45, 24), (1, 154, 25), (0, 49, 26)]
def lkO : List (Nat × Nat) := [(1, 1)]
def mV : List Nat := [3, 4, 21, 22, 23, 24]
def mP : List Nat := [2, 5, 6, 7, 8, 9, 10, 11, 12, 13, 14, 15, 16, 17, 25]
def mS : List Nat := [18, 19, 20, 26]
def mI : List Nat := [1]
def mA : List Nat := [1, 2, 3, 4, 5, 6, 7, 8, 9, 10, 11, 12, 13, 14, 15, 16, 17, 18, 19, 20, 21, 22, 23, 24, 25, 26]
def aTys : List FieldType := [.int, .long, .boolean]
abbrev QCell := List Value ⊕ ((FieldType × List Int32) ⊕ List Int64)
abbrev QHeap := List QCell
abbrev QLoc := List (Option Value)
abbrev vI (x : Int32) : Option Value := some (.int x)
abbrev vR (a : Addr) : Option Value := some (.ref a)
abbrev vL (x : Int64) : Option Value := some (.long x)
abbrev QSt := Nat × QLoc × List Value × QHeap
def qv (ad : Nat → Addr) : Value → Value
 | .ref k => .ref (ad k)
 | v => v
def qsz : QCell → Nat
 | .inl _ => cN
 | .inr (.inl x) => x.2.length
 | .inr (.inr x) => x.length
def qhs : QHeap → Nat
 | [] => 0
 | c :: t => qsz c + qhs t
def aget {α : Type} (xs : List α) (j : Int32) : Option α := if j < 0 then none else xs[j.toNatClampNeg]?
def aset {α : Type} (xs : List α) (j : Int32) (v : α) : Option (List α) := if j < 0 then none else if j.toNatClampNeg < xs.length then some (xs.set j.toNatClampNeg v) else none
def qnew (n : Int32) : Option Nat := if n < 0 then none else if n.toNatClampNeg ≤ 67108864 then some n.toNatClampNeg else none
def qdiv (x y : Int32) : Option Int32 := if y = 0 then none else some (x / y)
def qrem (x y : Int32) : Option Int32 := if y = 0 then none else some (x % y)
def qboo (x : Int32) : Option Int32 := if x = 0 then some x else if x = 1 then some x else none
def lget : QLoc → Nat → Option Value
 | [], _ => none
 | v :: _, 0 => v
 | _ :: t, k + 1 => lget t k
def hget : QHeap → Nat → Option QCell
 | [], _ => none
 | v :: _, 0 => some v
 | _ :: t, k + 1 => hget t k
def vget : List Value → Nat → Option Value
 | [], _ => none
 | v :: _, 0 => some v
 | _ :: t, k + 1 => vget t k
def lkill (L : QLoc) : Nat → QLoc
 | 0 => L
 | k + 1 => match lget L k with
  | some (.long _) => L.set k none
  | some (.double _) => L.set k none
  | _ => L
def lput (L : QLoc) (k : Nat) (v : Value) : Option QLoc :=
 match v with
 | .long x => bif Nat.ble (k + 2) L.length then some (((lkill L k).set k (some (.long x))).set (k + 1) none) else none
 | .double _ => none
 | v => bif Nat.ble (k + 1) L.length then some ((lkill L k).set k (some v)) else none
def qload (pc : Nat) (L : QLoc) (S : List Value) (σ : QHeap) (k : Nat) (ok : Value → Bool) : Option QSt :=
 match lget L k with
 | some v => bif ok v then some (pc, L, v :: S, σ) else none
 | none => none
def isI : Value → Bool | .int _ => true | _ => false
def isJ : Value → Bool | .long _ => true | _ => false
def isR : Value → Bool | .ref _ => true | _ => false
def qstore (pc : Nat) (L : QLoc) (S : List Value) (σ : QHeap) (k : Nat) (ok : Value → Bool) : Option QSt :=
 match S with
 | v :: S' => bif ok v then (match lput L k v with | some L' => some (pc, L', S', σ) | none => none) else none
 | [] => none
def qbin (pc : Nat) (L : QLoc) (S : List Value) (σ : QHeap) (f : Int32 → Int32 → Int32) : Option QSt :=
 match S with
 | .int y :: .int x :: S' => some (pc, L, .int (f x y) :: S', σ)
 | _ => none
def qbino (pc : Nat) (L : QLoc) (S : List Value) (σ : QHeap) (f : Int32 → Int32 → Option Int32) : Option QSt :=
 match S with
 | .int y :: .int x :: S' => (f x y).bind fun z => some (pc, L, .int z :: S', σ)
 | _ => none
def qbinJ (pc : Nat) (L : QLoc) (S : List Value) (σ : QHeap) (f : Int64 → Int64 → Int64) : Option QSt :=
 match S with
 | .long y :: .long x :: S' => some (pc, L, .long (f x y) :: S', σ)
 | _ => none
def qshJ (pc : Nat) (L : QLoc) (S : List Value) (σ : QHeap) (f : Int64 → Int32 → Int64) : Option QSt :=
 match S with
 | .int y :: .long x :: S' => some (pc, L, .long (f x y) :: S', σ)
 | _ => none
def quni (pc : Nat) (L : QLoc) (S : List Value) (σ : QHeap) (f : Int32 → Value) : Option QSt :=
 match S with
 | .int x :: S' => some (pc, L, f x :: S', σ)
 | _ => none
def quniJ (pc : Nat) (L : QLoc) (S : List Value) (σ : QHeap) (f : Int64 → Value) : Option QSt :=
 match S with
 | .long x :: S' => some (pc, L, f x :: S', σ)
 | _ => none
def qald (pc : Nat) (L : QLoc) (S : List Value) (σ : QHeap) (ok : FieldType → Bool) : Option QSt :=
 match S with
 | .int j :: .ref a :: S' => (match hget σ a with
  | some (.inr (.inl x)) => bif ok x.1 then (aget x.2 j).bind fun v => some (pc, L, .int v :: S', σ) else none
  | _ => none)
 | _ => none
def qaldJ (pc : Nat) (L : QLoc) (S : List Value) (σ : QHeap) : Option QSt :=
 match S with
 | .int j :: .ref a :: S' => (match hget σ a with
  | some (.inr (.inr x)) => (aget x j).bind fun v => some (pc, L, .long v :: S', σ)
  | _ => none)
 | _ => none
def qnar : FieldType → Int32 → Int32
 | .boolean, x => x &&& 1
 | .byte, x => x.toInt8.toInt32
 | _, x => x
def qast (pc : Nat) (L : QLoc) (S : List Value) (σ : QHeap) (ok : FieldType → Bool) : Option QSt :=
 match S with
 | .int v :: .int j :: .ref a :: S' => (match hget σ a with
  | some (.inr (.inl x)) => bif ok x.1 && Nat.ble k0 a then (aset x.2 j (qnar x.1 v)).bind fun y => some (pc, L, S', σ.set a (.inr (.inl (x.1, y)))) else none
  | _ => none)
 | _ => none
def qastJ (pc : Nat) (L : QLoc) (S : List Value) (σ : QHeap) : Option QSt :=
 match S with
 | .long v :: .int j :: .ref a :: S' => (match hget σ a with
  | some (.inr (.inr x)) => bif Nat.ble k0 a then (aset x j v).bind fun y => some (pc, L, S', σ.set a (.inr (.inr y))) else none
  | _ => none)
 | _ => none
def tyI : FieldType → Bool | .int => true | _ => false
def tyB : FieldType → Bool | .boolean => true | .byte => true | _ => false
def qfit : FieldType → Value → Option Value
 | .int, .int x => some (.int x)
 | .boolean, .int x => (qboo x).bind fun y => some (.int y)
 | .long, .long x => some (.long x)
 | .array t, .ref a => some (.ref a)
 | _, _ => none
def qget (pc : Nat) (L : QLoc) (S : List Value) (σ : QHeap) (k : Nat) : Option QSt :=
 match S with
 | .ref a :: S' => (match hget σ a with
  | some (.inl vs) => (match vget vs k with | some v => some (pc, L, v :: S', σ) | none => none)
  | _ => none)
 | _ => none
def qput (pc : Nat) (L : QLoc) (S : List Value) (σ : QHeap) (k : Nat) : Option QSt :=
 match S with
 | v :: .ref a :: S' => (match hget σ a with
  | some (.inl vs) => bif Nat.ble k0 a && Nat.ble (k + 1) vs.length then (qfit (fTy k) v).bind fun w => some (pc, L, S', σ.set a (.inl (vs.set k w))) else none
  | _ => none)
 | _ => none
def qnewA (pc : Nat) (L : QLoc) (S : List Value) (σ : QHeap) (t : ArrayType) : Option QSt :=
 match S with
 | .int n :: S' => (match t with
  | .int => (qnew n).bind fun k => some (pc, L, .ref σ.length :: S', σ ++ [.inr (.inl (.int, List.replicate k 0))])
  | .boolean => (qnew n).bind fun k => some (pc, L, .ref σ.length :: S', σ ++ [.inr (.inl (.boolean, List.replicate k 0))])
  | .byte => (qnew n).bind fun k => some (pc, L, .ref σ.length :: S', σ ++ [.inr (.inl (.byte, List.replicate k 0))])
  | .long => (qnew n).bind fun k => some (pc, L, .ref σ.length :: S', σ ++ [.inr (.inr (List.replicate k 0))])
  | _ => none)
 | _ => none
def qlen (pc : Nat) (L : QLoc) (S : List Value) (σ : QHeap) : Option QSt :=
 match S with
 | .ref a :: S' => (match hget σ a with
  | some (.inr (.inl x)) => some (pc, L, .int x.2.length.toInt32 :: S', σ)
  | some (.inr (.inr x)) => some (pc, L, .int x.length.toInt32 :: S', σ)
  | _ => none)
 | _ => none
def qdup (pc : Nat) (L : QLoc) (S : List Value) (σ : QHeap) : Option QSt :=
 match S with
 | .int x :: S' => some (pc, L, .int x :: .int x :: S', σ)
 | .ref x :: S' => some (pc, L, .ref x :: .ref x :: S', σ)
 | _ => none
def qdup2 (pc : Nat) (L : QLoc) (S : List Value) (σ : QHeap) : Option QSt :=
 match S with
 | .int x :: .ref y :: S' => some (pc, L, .int x :: .ref y :: .int x :: .ref y :: S', σ)
 | .int x :: .int y :: S' => some (pc, L, .int x :: .int y :: .int x :: .int y :: S', σ)
 | .long x :: S' => some (pc, L, .long x :: .long x :: S', σ)
 | _ => none
def qpop (pc : Nat) (L : QLoc) (S : List Value) (σ : QHeap) : Option QSt :=
 match S with
 | .int _ :: S' => some (pc, L, S', σ)
 | .ref _ :: S' => some (pc, L, S', σ)
 | _ => none
def qif (pc : Nat) (L : QLoc) (S : List Value) (σ : QHeap) (cd : ClassFile.Cond) (tgt : Nat) : Option QSt :=
 match S with
 | .int x :: S' => some (bif ifCond.holds cd x then tgt else pc, L, S', σ)
 | _ => none
def qicmp (pc : Nat) (L : QLoc) (S : List Value) (σ : QHeap) (cd : ClassFile.Cond) (tgt : Nat) : Option QSt :=
 match S with
 | .int y :: .int x :: S' => some (bif if_icmp.holds cd x y then tgt else pc, L, S', σ)
 | _ => none
def qinc (pc : Nat) (L : QLoc) (S : List Value) (σ : QHeap) (k : Nat) (i : Int) : Option QSt :=
 match lget L k with
 | some (.int x) => (match lput L k (.int (x + Int32.ofInt i)) with | some L' => some (pc, L', S, σ) | none => none)
 | _ => none
def qldc (pc : Nat) (L : QLoc) (S : List Value) (σ : QHeap) (k : Nat) : Option QSt :=
 match vget cK k with
 | some v => some (pc, L, v :: S, σ)
 | none => none
def qexec (pc : Nat) (L : QLoc) (S : List Value) (σ : QHeap) (aux : Nat) : Instr → Option QSt
 | .aload_n k => qload (pc + 1) L S σ k.val isR
 | .aload k => qload (pc + 2) L S σ k isR
 | .iload_n k => qload (pc + 1) L S σ k.val isI
 | .iload k => qload (pc + 2) L S σ k isI
 | .lload_n k => qload (pc + 1) L S σ k.val isJ
 | .lload k => qload (pc + 2) L S σ k isJ
 | .iconst i => some (pc + 1, L, .int (Int32.ofInt i) :: S, σ)
 | .bipush i => some (pc + 2, L, .int (Int8.ofInt i).toInt32 :: S, σ)
 | .sipush i => some (pc + 3, L, .int (Int16.ofInt i).toInt32 :: S, σ)
 | .lconst k => some (pc + 1, L, .long (Int64.ofNat k.val) :: S, σ)
 | .ldc _ => qldc (pc + 2) L S σ aux
 | .ldc2_w _ => qldc (pc + 3) L S σ aux
 | .istore_n k => qstore (pc + 1) L S σ k.val isI
 | .istore k => qstore (pc + 2) L S σ k isI
 | .lstore_n k => qstore (pc + 1) L S σ k.val isJ
 | .lstore k => qstore (pc + 2) L S σ k isJ
 | .astore_n k => qstore (pc + 1) L S σ k.val isR
 | .astore k => qstore (pc + 2) L S σ k isR
 | .iinc k i => qinc (pc + 3) L S σ k i
 | .iadd => qbin (pc + 1) L S σ fun x y => x + y
 | .isub => qbin (pc + 1) L S σ fun x y => x - y
 | .imul => qbin (pc + 1) L S σ fun x y => x * y
 | .iand => qbin (pc + 1) L S σ fun x y => x &&& y
 | .ior => qbin (pc + 1) L S σ fun x y => x ||| y
 | .ixor => qbin (pc + 1) L S σ fun x y => x ^^^ y
 | .ishl => qbin (pc + 1) L S σ fun x y => x <<< (y &&& 31)
 | .ishr => qbin (pc + 1) L S σ fun x y => x >>> (y &&& 31)
 | .iushr => qbin (pc + 1) L S σ fun x y => XT.ushr x y
 | .idiv => qbino (pc + 1) L S σ qdiv
 | .irem => qbino (pc + 1) L S σ qrem
 | .ineg => quni (pc + 1) L S σ fun x => .int (-x)
 | .i2l => quni (pc + 1) L S σ fun x => .long x.toInt64
 | .i2b => quni (pc + 1) L S σ fun x => .int x.toInt8.toInt32
 | .l2i => quniJ (pc + 1) L S σ fun x => .int x.toInt32
 | .lneg => quniJ (pc + 1) L S σ fun x => .long (-x)
 | .ladd => qbinJ (pc + 1) L S σ fun x y => x + y
 | .lsub => qbinJ (pc + 1) L S σ fun x y => x - y
 | .lmul => qbinJ (pc + 1) L S σ fun x y => x * y
 | .land => qbinJ (pc + 1) L S σ fun x y => x &&& y
 | .lor => qbinJ (pc + 1) L S σ fun x y => x ||| y
 | .lxor => qbinJ (pc + 1) L S σ fun x y => x ^^^ y
 | .lshl => qshJ (pc + 1) L S σ fun x y => x <<< (y.toInt64 &&& 63)
 | .lshr => qshJ (pc + 1) L S σ fun x y => x >>> (y.toInt64 &&& 63)
 | .lushr => qshJ (pc + 1) L S σ fun x y => XT.ushrL x y
 | .lcmp => (match S with
  | .long y :: .long x :: S' => some (pc + 1, L, .int (XT.cmpL x y) :: S', σ)
  | _ => none)
 | .goto _ => some (aux, L, S, σ)
 | .ifCond cd _ => qif (pc + 3) L S σ cd aux
 | .if_icmp cd _ => qicmp (pc + 3) L S σ cd aux
 | .dup => qdup (pc + 1) L S σ
 | .dup2 => qdup2 (pc + 1) L S σ
 | .pop => qpop (pc + 1) L S σ
 | .getfield _ => qget (pc + 3) L S σ aux
 | .putfield _ => qput (pc + 3) L S σ aux
 | .iaload => qald (pc + 1) L S σ tyI
 | .baload => qald (pc + 1) L S σ tyB
 | .laload => qaldJ (pc + 1) L S σ
 | .iastore => qast (pc + 1) L S σ tyI
 | .bastore => qast (pc + 1) L S σ tyB
 | .lastore => qastJ (pc + 1) L S σ
 | .arraylength => qlen (pc + 1) L S σ
 | .newarray t => qnewA (pc + 2) L S σ t
 | .new _ => some (pc + 3, L, .ref σ.length :: S, σ ++ [.inl cDef])
 | _ => none
def qstep (m : Nat) (st : QSt) : Option QSt :=
 match pCode m st.1 with
 | some (i, aux) => qexec st.1 st.2.1 st.2.2.1 st.2.2.2 aux i
 | none => none
def qsteps (m : Nat) : Nat → QSt → Option QSt
 | 0, st => some st
 | n + 1, st => match qstep m st with | some st' => qsteps m n st' | none => none
def qentry (args : List Value) (mx : Nat) : QLoc := (args.flatMap fun v => match v with | .long x => [some (.long x), none] | .double x => [some (.double x), none] | v => [some v]) ++ List.replicate (mx - (args.map fun v => v.category).sum) none
def ilen : Instr → Nat
 | .aload _ | .iload _ | .lload _ | .istore _ | .lstore _ | .astore _ | .bipush _ | .ldc _ | .newarray _ => 2
 | .sipush _ | .ldc2_w _ | .iinc _ _ | .goto _ | .ifCond _ _ | .if_icmp _ _ | .getfield _ | .putfield _ | .new _ | .invokevirtual _ | .invokespecial _ | .invokestatic _ => 3
 | _ => 1
def qtgt (pc : Nat) (o : Int) (aux : Nat) : Bool := decide (0 ≤ (pc : Int) + o) && decide (((pc : Int) + o).toNat = aux)
def qlk (m pc : Nat) (i : Instr) (aux : Nat) : Bool :=
 match i with
 | .goto o => qtgt pc o aux
 | .ifCond _ o => qtgt pc o aux
 | .if_icmp _ o => qtgt pc o aux
 | .getfield idx => lkF.contains (pK m, idx, aux)
 | .putfield idx => lkF.contains (pK m, idx, aux) && (!fFin aux || (pK m == 1 && pNm m == "<init>"))
 | .new idx => lkN.contains (pK m, idx)
 | .newarray t => aTys.contains (newarray.typeOf t)
 | .ldc idx => lkC.contains (pK m, idx, aux)
 | .ldc2_w idx => lkD.contains (pK m, idx, aux)
 | _ => true
def qchk (m pc : Nat) (i : Instr) (aux : Nat) : Bool := decide (decode (pBytes m) pc = .ok (i, ilen i)) && qlk m pc i aux
def QCellOk (Z : State) (ad : Nat → Addr) (h : Heap) (a : Addr) : QCell → Prop
 | .inl vs => Exa Z h a cName ∧ vs.length = nF ∧ ∀ (k : Nat) (v : Value), k < nF → vget vs k = some v → Fld Z h a cName (fNm k) (fDs k) (qv ad v)
 | .inr (.inl x) => ∃ c : Cell, Arr Z h a c x.1 ∧ c.slots = (x.2.map Value.int).toArray
 | .inr (.inr x) => ∃ c : Cell, Arr Z h a c .long ∧ c.slots = (x.map Value.long).toArray
def QAd (n0 : Nat) (ad : Nat → Addr) : Prop := (∀ k, k0 ≤ k → ad k = n0 + (k - k0)) ∧ ∀ i j, ad i = ad j → i = j
def QRep (Z : State) (n0 : Nat) (ad : Nat → Addr) (h : Heap) (σ : QHeap) : Prop := k0 ≤ σ.length ∧ h.size = n0 + (σ.length - k0) ∧ ∀ k c, hget σ k = some c → QCellOk Z ad h (ad k) c
def QLocOk (ad : Nat → Addr) (L : QLoc) (C : Array Slot) : Prop :=
 L.length = C.size ∧ (∀ k v, lget L k = some v → C[k]? = some (.val (qv ad v))) ∧ (∀ k w, C[k]? = some (.val w) → w.category = 2 → C[k + 1]? = some .second) ∧ ∀ k, C[k]? = some .second → ∃ j w, k = j + 1 ∧ C[j]? = some (.val w) ∧ w.category = 2
def QW (Z : State) (a0 : Array Value) : Prop :=
 (∀ t ∈ lkF, (Cond.fieldLink (kName t.1) t.2.1 cName (fNm t.2.2) (fDs t.2.2)).before a0 Z = true) ∧
 (∀ t ∈ lkN, (Cond.classLink (kName t.1) t.2 cName).before a0 Z = true) ∧
 (∀ t ∈ lkC, ∃ v, vget cK t.2.2 = some (.int v) ∧ (Cond.constant (kName t.1) t.2.1 v).before a0 Z = true) ∧
 (∀ t ∈ lkD, ∃ v, vget cK t.2.2 = some (.long v) ∧ (Cond.constantLong (kName t.1) t.2.1 v).before a0 Z = true) ∧
 (∀ t ∈ lkV, (Cond.methodLink (kName t.1) t.2.1 (pName t.2.2)).before a0 Z = true) ∧
 (∀ t ∈ lkO, (Cond.methodLink (kName t.1) t.2 Lib.objectInit).before a0 Z = true) ∧
 (∀ m ∈ mV, (Cond.declares (pName m)).before a0 Z = true ∧ (Cond.selects cName (pName m) (pName m)).before a0 Z = true ∧ (Cond.instanceMethod (pName m)).before a0 Z = true) ∧
 (∀ m ∈ mP, (Cond.instanceMethod (pName m)).before a0 Z = true ∧ (Cond.privateMethod (pName m)).before a0 Z = true) ∧
 (∀ m ∈ mS, (Cond.static (pName m)).before a0 Z = true) ∧
 (∀ m ∈ mI, (Cond.instanceMethod (pName m)).before a0 Z = true) ∧
 (∀ m ∈ mA, (Cond.code (pName m) (pBytes m) (pMaxL m) (pRet m)).before a0 Z = true ∧ (Cond.initialized (kName (pK m))).before a0 Z = true) ∧
 (Cond.instanceMethod Lib.objectInit).before a0 Z = true ∧ (Cond.code Lib.objectInit ⟨#[0xb1]⟩ 1 none).before a0 Z = true ∧
 (∀ k, k < nF → bif fFin k then (Cond.laysFinal cName cName (fNm k) (fDs k)).before a0 Z = true else (Cond.lays cName cName (fNm k) (fDs k)).before a0 Z = true) ∧
 (Cond.instantiable cName cN).before a0 Z = true ∧ (Cond.initialized cName).before a0 Z = true ∧
 ∀ ty ∈ aTys, (Cond.arrayClass ty).before a0 Z = true
section Words
variable {Z : State} {a0 : Array Value}
theorem qw_fl (W : QW Z a0) : ∀ t ∈ lkF, (Cond.fieldLink (kName t.1) t.2.1 cName (fNm t.2.2) (fDs t.2.2)).before a0 Z = true := W.1
theorem qw_nw (W : QW Z a0) : ∀ t ∈ lkN, (Cond.classLink (kName t.1) t.2 cName).before a0 Z = true := W.2.1
theorem qw_cI (W : QW Z a0) : ∀ t ∈ lkC, ∃ v, vget cK t.2.2 = some (.int v) ∧ (Cond.constant (kName t.1) t.2.1 v).before a0 Z = true := W.2.2.1
theorem qw_cJ (W : QW Z a0) : ∀ t ∈ lkD, ∃ v, vget cK t.2.2 = some (.long v) ∧ (Cond.constantLong (kName t.1) t.2.1 v).before a0 Z = true := W.2.2.2.1
theorem qw_ml (W : QW Z a0) : ∀ t ∈ lkV, (Cond.methodLink (kName t.1) t.2.1 (pName t.2.2)).before a0 Z = true := W.2.2.2.2.1
theorem qw_mo (W : QW Z a0) : ∀ t ∈ lkO, (Cond.methodLink (kName t.1) t.2 Lib.objectInit).before a0 Z = true := W.2.2.2.2.2.1
theorem qw_vi (W : QW Z a0) : ∀ m ∈ mV, (Cond.declares (pName m)).before a0 Z = true ∧ (Cond.selects cName (pName m) (pName m)).before a0 Z = true ∧ (Cond.instanceMethod (pName m)).before a0 Z = true := W.2.2.2.2.2.2.1
theorem qw_pr (W : QW Z a0) : ∀ m ∈ mP, (Cond.instanceMethod (pName m)).before a0 Z = true ∧ (Cond.privateMethod (pName m)).before a0 Z = true := W.2.2.2.2.2.2.2.1
theorem qw_st (W : QW Z a0) : ∀ m ∈ mS, (Cond.static (pName m)).before a0 Z = true := W.2.2.2.2.2.2.2.2.1
theorem qw_ini (W : QW Z a0) : ∀ m ∈ mI, (Cond.instanceMethod (pName m)).before a0 Z = true := W.2.2.2.2.2.2.2.2.2.1
theorem qw_cod (W : QW Z a0) : ∀ m ∈ mA, (Cond.code (pName m) (pBytes m) (pMaxL m) (pRet m)).before a0 Z = true ∧ (Cond.initialized (kName (pK m))).before a0 Z = true := W.2.2.2.2.2.2.2.2.2.2.1
theorem qw_oi (W : QW Z a0) : (Cond.instanceMethod Lib.objectInit).before a0 Z = true := W.2.2.2.2.2.2.2.2.2.2.2.1
theorem qw_oc (W : QW Z a0) : (Cond.code Lib.objectInit ⟨#[0xb1]⟩ 1 none).before a0 Z = true := W.2.2.2.2.2.2.2.2.2.2.2.2.1
theorem qw_lay (W : QW Z a0) : ∀ k, k < nF → bif fFin k then (Cond.laysFinal cName cName (fNm k) (fDs k)).before a0 Z = true else (Cond.lays cName cName (fNm k) (fDs k)).before a0 Z = true := W.2.2.2.2.2.2.2.2.2.2.2.2.2.1
theorem qw_inst (W : QW Z a0) : (Cond.instantiable cName cN).before a0 Z = true := W.2.2.2.2.2.2.2.2.2.2.2.2.2.2.1
theorem qw_init (W : QW Z a0) : (Cond.initialized cName).before a0 Z = true := W.2.2.2.2.2.2.2.2.2.2.2.2.2.2.2.1
theorem qw_arr (W : QW Z a0) : ∀ ty ∈ aTys, (Cond.arrayClass ty).before a0 Z = true := W.2.2.2.2.2.2.2.2.2.2.2.2.2.2.2.2
end Words
theorem hget_eq : ∀ (σ : QHeap) k, hget σ k = σ[k]?
 | [], _ => by simp [hget]
 | _ :: _, 0 => by simp [hget]
 | _ :: t, k + 1 => by simp [hget, hget_eq t k]
theorem vget_eq : ∀ (σ : List Value) k, vget σ k = σ[k]?
 | [], _ => by simp [vget]
 | _ :: _, 0 => by simp [vget]
 | _ :: t, k + 1 => by simp [vget, vget_eq t k]
theorem lget_eq : ∀ (L : QLoc) k, lget L k = (L[k]?).getD none
 | [], _ => by simp [lget]
 | _ :: _, 0 => by simp [lget]
 | _ :: t, k + 1 => by simp [lget, lget_eq t k]
theorem lget_lt {L : QLoc} {k : Nat} {v : Value} (h : lget L k = some v) : k < L.length := by
 rw [lget_eq] at h
 rcases Nat.lt_or_ge k L.length with q | q
 ·exact q
 ·simp [List.getElem?_eq_none q] at h
theorem lget_set {L : QLoc} {k j : Nat} {o : Option Value} (hk : k < L.length) : lget (L.set k o) j = if j = k then o else lget L j := by
 simp only [lget_eq, List.getElem?_set]
 by_cases e : k = j
 ·subst e; simp [hk]
 ·simp [e, Ne.symm e]
theorem qhs_app (σ τ : QHeap) : qhs (σ ++ τ) = qhs σ + qhs τ := by
 induction σ with
 | nil => simp [qhs]
 | cons c t ih => simp [qhs, ih, Nat.add_assoc]
theorem qhs_set {σ : QHeap} {k : Nat} {c d : QCell} (h : hget σ k = some c) (hs : qsz d = qsz c) : qhs (σ.set k d) = qhs σ := by
 induction σ generalizing k with
 | nil => simp [hget] at h
 | cons x t ih =>
  cases k with
  | zero => simp only [hget, Option.some.injEq] at h; subst h; simp [qhs, hs]
  | succ k => simp only [hget] at h; simp [qhs, ih h]
theorem hget_set {σ : QHeap} {k j : Nat} {c d : QCell} (h : hget σ k = some c) : hget (σ.set k d) j = if j = k then some d else hget σ j := by
 rw [hget_eq] at h
 have hk := (List.getElem?_eq_some_iff.mp h).1
 simp only [hget_eq, List.getElem?_set]
 by_cases e : k = j
 ·subst e; simp [hk]
 ·simp [e, Ne.symm e]
theorem lkill_len (L : QLoc) (k : Nat) : (lkill L k).length = L.length := by
 cases k with
 | zero => rfl
 | succ k => simp only [lkill]; split <;> simp
theorem lget_kill {L : QLoc} {k j : Nat} {v : Value} (h : lget (lkill L k) j = some v) : lget L j = some v ∧ (k = j + 1 → v.category ≠ 2) := by
 cases k with
 | zero => exact ⟨h, fun e => by omega⟩
 | succ k =>
  simp only [lkill] at h
  split at h
  ·rename_i x q
   rw [lget_set (lget_lt q)] at h
   split at h
   ·cases h
   ·rename_i ne; exact ⟨h, fun e => absurd (by omega) ne⟩
  ·rename_i x q
   rw [lget_set (lget_lt q)] at h
   split at h
   ·cases h
   ·rename_i ne; exact ⟨h, fun e => absurd (by omega) ne⟩
  ·rename_i q1 q2
   refine ⟨h, fun e hc => ?_⟩
   obtain rfl : j = k := by omega
   cases v with
   | long x => exact q1 _ h
   | double x => exact q2 _ h
   | _ => simp [Value.category] at hc
theorem qv_cat (ad : Nat → Addr) (v : Value) : (qv ad v).category = v.category := by cases v <;> rfl
def kA (C : Array Slot) (k j : Nat) : Prop := k = j + 1 ∧ C[k]? = some .second
def kB (C : Array Slot) (k j : Nat) : Prop := j = k + 1 ∧ ∃ u, C[k]? = some (.val u) ∧ u.category = 2
def kD (C : Array Slot) (k j : Nat) : Prop := j = k + 2 ∧ ∃ u, C[k + 1]? = some (.val u) ∧ u.category = 2
theorem set1_at {C D : Array Slot} {k : Nat} {w : Value} (hk : k < C.size) (hw : w.category = 1) (h : storeLocals C k w = some D) :
  D.size = C.size ∧ D[k]? = some (.val w) ∧ ∀ j, j ≠ k → (D[j]? = C[j]? ∧ ¬ kA C k j ∧ ¬ kB C k j) ∨ D[j]? = some .unset ∧ (kA C k j ∨ kB C k j) := by
 have hck : C[k]? = some C[k] := Array.getElem?_eq_getElem hk
 unfold storeLocals at h
 simp only [hck, Option.bind_eq_bind, Option.bind_some] at h
 have self : ∀ {E : Array Slot}, k < E.size → storeSelf E k w = some D → D = E.setIfInBounds k (.val w) := by
  intro E hE q
  simp only [storeSelf, setAt, hE, if_true, Option.bind_eq_bind, Option.bind_some, hw] at q
  simpa using q.symm
 split at h
 ·rename_i q
  have hk1 : k - 1 < C.size := by omega
  simp only [setAt, hk1, if_true, Option.bind_some] at h
  have e := self (by simpa using hk) h
  subst e
  refine ⟨by simp, by simp [hk], fun j hj => ?_⟩
  by_cases ej : k = j + 1
  ·refine Or.inr ⟨?_, Or.inl ⟨ej, by rw [hck, q]⟩⟩
   rw [Array.getElem?_setIfInBounds_ne (Ne.symm hj), show j = k - 1 by omega]
   simp [hk1]
  ·refine Or.inl ⟨?_, fun x => ej x.1, fun x => ?_⟩
   ·rw [Array.getElem?_setIfInBounds_ne (Ne.symm hj), Array.getElem?_setIfInBounds_ne (by omega)]
   ·obtain ⟨-, u, x1, -⟩ := x
    rw [hck, q] at x1; cases x1
 ·rename_i u q
  split at h
  ·rename_i hu
   by_cases hk1 : k + 1 < C.size
   ·simp only [setAt, hk1, if_true, Option.bind_some] at h
    have e := self (by simpa using hk) h
    subst e
    refine ⟨by simp, by simp [hk], fun j hj => ?_⟩
    by_cases ej : j = k + 1
    ·refine Or.inr ⟨?_, Or.inr ⟨ej, u, by rw [hck, q], hu⟩⟩
     rw [Array.getElem?_setIfInBounds_ne (Ne.symm hj), ej]
     simp [hk1]
    ·refine Or.inl ⟨?_, fun x => ?_, fun x => ej x.1⟩
     ·rw [Array.getElem?_setIfInBounds_ne (Ne.symm hj), Array.getElem?_setIfInBounds_ne (by omega)]
     ·obtain ⟨-, x1⟩ := x
      rw [hck, q] at x1; cases x1
   ·simp [setAt, hk1] at h
  ·rename_i hu
   have e := self hk h
   subst e
   refine ⟨by simp, by simp [hk], fun j hj => Or.inl ⟨Array.getElem?_setIfInBounds_ne (Ne.symm hj), fun x => ?_, fun x => ?_⟩⟩
   ·obtain ⟨-, x1⟩ := x
    rw [hck, q] at x1; cases x1
   ·obtain ⟨-, u', x1, x2⟩ := x
    rw [hck, q] at x1; cases x1; exact hu x2
 ·rename_i q
  have e := self hk h
  subst e
  refine ⟨by simp, by simp [hk], fun j hj => Or.inl ⟨Array.getElem?_setIfInBounds_ne (Ne.symm hj), fun x => ?_, fun x => ?_⟩⟩
  ·obtain ⟨-, x1⟩ := x
   rw [hck, q] at x1; cases x1
  ·obtain ⟨-, u', x1, x2⟩ := x
   rw [hck, q] at x1; cases x1
theorem set2_at {C D : Array Slot} {k : Nat} {w : Value} (hk : k + 1 < C.size) (hw : w.category = 2) (wf : ∀ k w, C[k]? = some (.val w) → w.category = 2 → C[k + 1]? = some .second) (h : storeLocals C k w = some D) :
  D.size = C.size ∧ D[k]? = some (.val w) ∧ D[k + 1]? = some .second ∧ ∀ j, j ≠ k → j ≠ k + 1 → (D[j]? = C[j]? ∧ ¬ kA C k j ∧ ¬ kD C k j) ∨ D[j]? = some .unset ∧ (kA C k j ∨ kD C k j) := by
 have hk0 : k < C.size := by omega
 have hck : C[k]? = some C[k] := Array.getElem?_eq_getElem hk0
 unfold storeLocals at h
 simp only [hck, Option.bind_eq_bind, Option.bind_some] at h
 have self : ∀ {E : Array Slot}, E.size = C.size → storeSelf E k w = some D → D.size = C.size ∧ D[k]? = some (.val w) ∧ D[k + 1]? = some .second ∧ ∀ j, j ≠ k → j ≠ k + 1 → (D[j]? = E[j]? ∧ ¬ kD E k j) ∨ D[j]? = some .unset ∧ kD E k j := by
  intro E hs q
  have h1 : k < E.size := by omega
  have h2 : k + 1 < E.size := by omega
  have h3 : (E.setIfInBounds k (.val w))[k + 1]? = some E[k + 1] := by rw [Array.getElem?_setIfInBounds_ne (by omega)]; exact Array.getElem?_eq_getElem h2
  simp only [storeSelf, setAt, h1, if_true, Option.bind_eq_bind, Option.bind_some, hw, h3] at q
  have plain : (¬ ∃ u, E[k + 1]? = some (.val u) ∧ u.category = 2) → some ((E.setIfInBounds k (.val w)).setIfInBounds (k + 1) .second) = some D → D.size = C.size ∧ D[k]? = some (.val w) ∧ D[k + 1]? = some .second ∧ ∀ j, j ≠ k → j ≠ k + 1 → (D[j]? = E[j]? ∧ ¬ kD E k j) ∨ D[j]? = some .unset ∧ kD E k j := by
   intro no q
   cases q
   refine ⟨by simp [hs], ?_, ?_, fun j hj hj1 => Or.inl ⟨?_, fun x => no x.2⟩⟩
   ·rw [Array.getElem?_setIfInBounds_ne (by omega)]; simp [h1]
   ·simp [h2]
   ·rw [Array.getElem?_setIfInBounds_ne (by omega), Array.getElem?_setIfInBounds_ne (by omega)]
  split at q
  ·rename_i u hu
   split at q
   ·rename_i hu2
    by_cases h5 : k + 2 < E.size
    ·simp [h5, h2] at q
     cases q
     refine ⟨by simp [hs], ?_, ?_, fun j hj hj1 => ?_⟩
     ·rw [Array.getElem?_setIfInBounds_ne (by omega), Array.getElem?_setIfInBounds_ne (by omega)]; simp [h1]
     ·simp [h2]
     ·by_cases e : j = k + 2
      ·refine Or.inr ⟨?_, e, u, by rw [Array.getElem?_eq_getElem h2, hu], hu2⟩
       rw [Array.getElem?_setIfInBounds_ne (by omega), e]
       simp [h5]
      ·refine Or.inl ⟨?_, fun x => e x.1⟩
       rw [Array.getElem?_setIfInBounds_ne (by omega), Array.getElem?_setIfInBounds_ne (by omega), Array.getElem?_setIfInBounds_ne (by omega)]
    ·simp [h5] at q
   ·rename_i hu2
    refine plain ?_ (by simpa [h2] using q)
    rintro ⟨u', x1, x2⟩
    rw [Array.getElem?_eq_getElem h2, hu] at x1; cases x1; exact hu2 x2
  ·rename_i hu
   refine plain ?_ (by simpa [h2] using q)
   rintro ⟨u', x1, x2⟩
   rw [Array.getElem?_eq_getElem h2] at x1; exact hu _ (Option.some.inj x1)
 split at h
 ·rename_i q
  have hk1 : k - 1 < C.size := by omega
  simp only [setAt, hk1, if_true, Option.bind_some] at h
  obtain ⟨e1, e2, e3, e4⟩ := self (by simp) h
  refine ⟨e1, e2, e3, fun j hj hj1 => ?_⟩
  have h6 : ∀ i, i + 1 ≠ k ∨ k = 0 → i ≠ k ∨ k ≠ 0 → (C.setIfInBounds (k - 1) Slot.unset)[i]? = C[i]? := fun i hi hi2 => Array.getElem?_setIfInBounds_ne (by omega)
  have h7 : (C.setIfInBounds (k - 1) Slot.unset)[k + 1]? = C[k + 1]? := Array.getElem?_setIfInBounds_ne (by omega)
  rcases e4 j hj hj1 with ⟨r, r'⟩ | ⟨r, r1, u, r2, r3⟩
  ·by_cases ej : k = j + 1
   ·refine Or.inr ⟨?_, Or.inl ⟨ej, by rw [hck, q]⟩⟩
    rw [r, show j = k - 1 by omega]; simp [hk1]
   ·refine Or.inl ⟨by rw [r]; exact h6 _ (by omega) (by omega), fun x => ej x.1, fun x => r' ⟨x.1, ?_⟩⟩
    rw [h7]; exact x.2
  ·exact Or.inr ⟨r, Or.inr ⟨r1, u, by rw [← h7]; exact r2, r3⟩⟩
 ·rename_i u q
  split at h
  ·rename_i hu
   simp only [setAt, hk, if_true, Option.bind_some] at h
   obtain ⟨e1, e2, e3, e4⟩ := self (by simp) h
   have hsec := wf k u (by rw [hck, q]) hu
   refine ⟨e1, e2, e3, fun j hj hj1 => ?_⟩
   rcases e4 j hj hj1 with ⟨r, r'⟩ | ⟨r, r1, u', r2, r3⟩
   ·refine Or.inl ⟨by rw [r]; exact Array.getElem?_setIfInBounds_ne (by omega), fun x => ?_, fun x => ?_⟩
    ·obtain ⟨-, x1⟩ := x
     rw [hck, q] at x1; cases x1
    ·obtain ⟨-, u', x1, x2⟩ := x
     rw [hsec] at x1; cases x1
   ·simp [hk] at r2
  ·rename_i hu
   obtain ⟨e1, e2, e3, e4⟩ := self rfl h
   refine ⟨e1, e2, e3, fun j hj hj1 => ?_⟩
   rcases e4 j hj hj1 with ⟨r, r'⟩ | ⟨r, r'⟩
   ·refine Or.inl ⟨r, fun x => ?_, r'⟩
    obtain ⟨-, x1⟩ := x
    rw [hck, q] at x1; cases x1
   ·exact Or.inr ⟨r, Or.inr r'⟩
 ·rename_i q
  obtain ⟨e1, e2, e3, e4⟩ := self rfl h
  refine ⟨e1, e2, e3, fun j hj hj1 => ?_⟩
  rcases e4 j hj hj1 with ⟨r, r'⟩ | ⟨r, r'⟩
  ·refine Or.inl ⟨r, fun x => ?_, r'⟩
   obtain ⟨-, x1⟩ := x
   rw [hck, q] at x1; cases x1
  ·exact Or.inr ⟨r, Or.inr r'⟩
theorem store_some {C : Array Slot} {k : Nat} {w : Value} (hk : k + (w.category - 1) < C.size) (hc : w.category = 1 ∨ w.category = 2) (wf : ∀ k w, C[k]? = some (.val w) → w.category = 2 → C[k + 1]? = some .second) :
  ∃ D, storeLocals C k w = some D := by
 have hk0 : k < C.size := by omega
 have hck : C[k]? = some C[k] := Array.getElem?_eq_getElem hk0
 have self : ∀ {E : Array Slot}, E.size = C.size → (∀ u, E[k + 1]? = some (.val u) → u.category = 2 → k + 2 < E.size) → ∃ D, storeSelf E k w = some D := by
  intro E hs hn
  have h1 : k < E.size := by omega
  simp only [storeSelf, setAt, h1, if_true, Option.bind_eq_bind, Option.bind_some]
  rcases hc with hc | hc
  ·exact ⟨E.setIfInBounds k (.val w), by simp [hc]⟩
  ·have h2 : k + 1 < E.size := by omega
   have h3 : (E.setIfInBounds k (.val w))[k + 1]? = some E[k + 1] := by rw [Array.getElem?_setIfInBounds_ne (by omega)]; exact Array.getElem?_eq_getElem h2
   simp only [hc, if_true, h3, Option.bind_some]
   split
   ·rename_i u hu
    split
    ·rename_i hu2
     have h5 := hn u (by rw [Array.getElem?_eq_getElem h2, hu]) hu2
     exact ⟨_, by simp [h5, h2]; rfl⟩
    ·exact ⟨_, by simp [h2]; rfl⟩
   ·exact ⟨_, by simp [h2]; rfl⟩
 have next : ∀ u, C[k + 1]? = some (.val u) → u.category = 2 → k + 2 < C.size := fun u h1 h2 => (Array.getElem?_eq_some_iff.mp (wf _ _ h1 h2)).1
 unfold storeLocals
 simp only [hck, Option.bind_eq_bind, Option.bind_some]
 split
 ·have hk1 : k - 1 < C.size := by omega
  simp only [setAt, hk1, if_true, Option.bind_some]
  refine self (by simp) fun u h1 h2 => ?_
  rw [Array.getElem?_setIfInBounds_ne (by omega)] at h1
  simpa using next u h1 h2
 ·rename_i u q
  split
  ·rename_i hu
   have h5 := (Array.getElem?_eq_some_iff.mp (wf k u (by rw [hck, q]) hu)).1
   simp only [setAt, h5, if_true, Option.bind_some]
   refine self (by simp) fun u h1 h2 => ?_
   simp [h5] at h1
  ·exact self rfl next
 ·exact self rfl next
theorem store_ok1 {ad : Nat → Addr} {L : QLoc} {C : Array Slot} {k : Nat} {v : Value} (H : QLocOk ad L C) (hv : v.category = 1) (hk : k < L.length) :
  ∃ D, storeLocals C k (qv ad v) = some D ∧ QLocOk ad ((lkill L k).set k (some v)) D ∧ D.size = C.size := by
 obtain ⟨H1, H2, H3, H4⟩ := H
 have hc : (qv ad v).category = 1 := by rw [qv_cat, hv]
 obtain ⟨D, hD⟩ := store_some (C := C) (k := k) (w := qv ad v) (by rw [hc]; omega) (Or.inl hc) H3
 obtain ⟨d1, d2, d3⟩ := set1_at (by omega) hc hD
 refine ⟨D, hD, ⟨by simp [lkill_len, H1, d1], fun j u hj => ?_, fun j w hj hw => ?_, fun j hj => ?_⟩, d1⟩
 ·rw [lget_set (by rw [lkill_len]; exact hk)] at hj
  split at hj
  ·rename_i e; cases hj; rw [e]; exact d2
  ·rename_i ne
   obtain ⟨g1, g2⟩ := lget_kill hj
   have g3 := H2 j u g1
   rcases d3 j ne with ⟨r, -, -⟩ | ⟨-, ⟨r1, r2⟩ | ⟨r1, w, r2, r3⟩⟩
   ·rw [r]; exact g3
   ·obtain ⟨i, w, z1, z2, z3⟩ := H4 k r2
    obtain rfl : i = j := by omega
    rw [g3] at z2
    cases z2
    rw [qv_cat] at z3
    exact absurd z3 (g2 r1)
   ·have := H3 k w r2 r3
    rw [← r1, g3] at this
    cases this
 ·by_cases e : j = k
  ·subst e; rw [d2] at hj; cases hj; rw [hc] at hw; cases hw
  ·rcases d3 j e with ⟨r, nA, nB⟩ | ⟨r, -⟩
   ·rw [r] at hj
    have g := H3 j w hj hw
    have e2 : j + 1 ≠ k := fun q => nA ⟨q.symm, by rw [← q]; exact g⟩
    rcases d3 (j + 1) e2 with ⟨z, -, -⟩ | ⟨-, ⟨z1, z2⟩ | ⟨z1, -⟩⟩
    ·rw [z]; exact g
    ·obtain ⟨i, u, y1, y2, y3⟩ := H4 k z2
     obtain rfl : i = j + 1 := by omega
     rw [g] at y2; cases y2
    ·omega
   ·rw [r] at hj; cases hj
 ·by_cases e : j = k
  ·subst e; rw [d2] at hj; cases hj
  ·rcases d3 j e with ⟨r, nA, nB⟩ | ⟨r, -⟩
   ·rw [r] at hj
    obtain ⟨i, w, y1, y2, y3⟩ := H4 j hj
    refine ⟨i, w, y1, ?_, y3⟩
    have ei : i ≠ k := fun q => nB ⟨by omega, w, by rw [← q]; exact y2, y3⟩
    rcases d3 i ei with ⟨z, -, -⟩ | ⟨-, ⟨z1, z2⟩ | ⟨z1, u, z2, z3⟩⟩
    ·rw [z]; exact y2
    ·omega
    ·have := H3 k u z2 z3
     rw [← z1, y2] at this; cases this
   ·rw [r] at hj; cases hj
theorem store_ok2 {ad : Nat → Addr} {L : QLoc} {C : Array Slot} {k : Nat} {x : Int64} (H : QLocOk ad L C) (hk : k + 1 < L.length) :
  ∃ D, storeLocals C k (.long x) = some D ∧ QLocOk ad (((lkill L k).set k (some (.long x))).set (k + 1) none) D ∧ D.size = C.size := by
 obtain ⟨H1, H2, H3, H4⟩ := H
 have hc : (Value.long x).category = 2 := rfl
 obtain ⟨D, hD⟩ := store_some (C := C) (k := k) (w := .long x) (by rw [hc]; omega) (Or.inr hc) H3
 obtain ⟨d1, d2, d2', d3⟩ := set2_at (by omega) hc H3 hD
 refine ⟨D, hD, ⟨by simp [lkill_len, H1, d1], fun j u hj => ?_, fun j w hj hw => ?_, fun j hj => ?_⟩, d1⟩
 ·rw [lget_set (by simp [lkill_len]; exact hk)] at hj
  split at hj
  ·cases hj
  ·rename_i ne1
   rw [lget_set (by rw [lkill_len]; omega)] at hj
   split at hj
   ·rename_i e; cases hj; rw [e]; exact d2
   ·rename_i ne
    obtain ⟨g1, g2⟩ := lget_kill hj
    have g3 := H2 j u g1
    rcases d3 j ne ne1 with ⟨r, -, -⟩ | ⟨-, ⟨r1, r2⟩ | ⟨r1, w, r2, r3⟩⟩
    ·rw [r]; exact g3
    ·obtain ⟨i, w, z1, z2, z3⟩ := H4 k r2
     obtain rfl : i = j := by omega
     rw [g3] at z2
     cases z2
     rw [qv_cat] at z3
     exact absurd z3 (g2 r1)
    ·have := H3 (k + 1) w r2 r3
     rw [show k + 1 + 1 = j by omega, g3] at this
     cases this
 ·by_cases e : j = k
  ·rw [e]; exact d2'
  ·by_cases e1 : j = k + 1
   ·rw [e1, d2'] at hj; cases hj
   ·rcases d3 j e e1 with ⟨r, nA, nB⟩ | ⟨r, -⟩
    ·rw [r] at hj
     have g := H3 j w hj hw
     have e2 : j + 1 ≠ k := fun q => nA ⟨q.symm, by rw [← q]; exact g⟩
     rcases d3 (j + 1) e2 (by omega) with ⟨z, -, -⟩ | ⟨-, ⟨z1, z2⟩ | ⟨z1, -⟩⟩
     ·rw [z]; exact g
     ·obtain ⟨i, u, y1, y2, y3⟩ := H4 k z2
      obtain rfl : i = j + 1 := by omega
      rw [g] at y2; cases y2
     ·omega
    ·rw [r] at hj; cases hj
 ·by_cases e : j = k
  ·rw [e, d2] at hj; cases hj
  ·by_cases e1 : j = k + 1
   ·exact ⟨k, _, e1, d2, hc⟩
   ·rcases d3 j e e1 with ⟨r, nA, nB⟩ | ⟨r, -⟩
    ·rw [r] at hj
     obtain ⟨i, w, y1, y2, y3⟩ := H4 j hj
     refine ⟨i, w, y1, ?_, y3⟩
     have ei : i ≠ k := fun q => e1 (by omega)
     have ei1 : i ≠ k + 1 := fun q => nB ⟨by omega, w, by rw [← q]; exact y2, y3⟩
     rcases d3 i ei ei1 with ⟨z, -, -⟩ | ⟨-, ⟨z1, z2⟩ | ⟨z1, u, z2, z3⟩⟩
     ·rw [z]; exact y2
     ·omega
     ·have := H3 (k + 1) u z2 z3
      rw [show k + 1 + 1 = i by omega, y2] at this; cases this
    ·rw [r] at hj; cases hj
theorem store_ok {ad : Nat → Addr} {L L' : QLoc} {C : Array Slot} {k : Nat} {v : Value} (H : QLocOk ad L C) (h : lput L k v = some L') :
  ∃ D, storeLocals C k (qv ad v) = some D ∧ QLocOk ad L' D ∧ D.size = C.size := by
 have one : v.category = 1 → (bif Nat.ble (k + 1) L.length then some ((lkill L k).set k (some v)) else none) = some L' → ∃ D, storeLocals C k (qv ad v) = some D ∧ QLocOk ad L' D ∧ D.size = C.size := by
  intro hv h
  cases hb : Nat.ble (k + 1) L.length with
  | false => rw [hb] at h; cases h
  | true => rw [hb] at h; cases h; exact store_ok1 H hv (Nat.le_of_ble_eq_true hb)
 cases v with
 | long x =>
  simp only [lput] at h
  cases hb : Nat.ble (k + 2) L.length with
  | false => rw [hb] at h; cases h
  | true => rw [hb] at h; cases h; exact store_ok2 H (Nat.le_of_ble_eq_true hb)
 | double x => simp [lput] at h
 | int x => exact one rfl h
 | float x => exact one rfl h
 | null => exact one rfl h
 | ref x => exact one rfl h
 | retAddr x => exact one rfl h
theorem fInj : ∀ i, i < nF → ∀ j, j < nF → fNm i = fNm j → i = j := by decide +kernel
theorem fPrs : ∀ i, i < nF → parseFieldDescriptor (fDs i) = some (fTy i) := by decide +kernel
theorem cDefs : ∀ i, i < nF → vget cDef i = some (defaultValue (fTy i)) := by decide +kernel
theorem cDefL : cDef.length = nF := by decide +kernel
theorem fDef : ∀ i, i < nF → ∀ a, defaultValue (fTy i) ≠ .ref a := by
 intro i _ a
 cases fTy i <;> simp [defaultValue]
theorem kPlain : ∀ k, k < 2 → plainName (kName k) = true := by
 intro k hk
 rcases k with _ | _ | k
 ·first | decide +kernel | (simp [kName, plainName, overriddenIn]; done)
 ·first | decide +kernel | (simp [kName, plainName, overriddenIn]; done)
 ·omega
theorem pKlt : ∀ m, m < pN → pK m < 2 := by decide +kernel
theorem pSig : ∀ m, m < pN → (parseMethodDescriptor (pDs m)).map (fun sg => sg.parameters.length) = some (pNA m) := by decide +kernel
theorem pOwn : ∀ k, k < 2 → kName k ≠ "java/lang/invoke/MethodHandle" ∧ kName k ≠ "java/lang/invoke/VarHandle" := by decide +kernel
theorem mAlt : ∀ m ∈ mA, m < pN := by decide +kernel
theorem mVlt : ∀ m ∈ mV, m ∈ mA ∧ pK m = 1 := by decide +kernel
theorem mPlt : ∀ m ∈ mP, m ∈ mA ∧ pK m = 1 := by decide +kernel
theorem mSlt : ∀ m ∈ mS, m ∈ mA := by decide +kernel
theorem mIlt : ∀ m ∈ mI, m ∈ mA ∧ pK m = 1 ∧ pNm m = "<init>" ∧ pRet m = none := by decide +kernel
theorem kOne : kName 1 = cName := rfl
def pX (m pc : Nat) : Bool := match pCode m pc with | some t => qchk m pc t.1 t.2 | none => true
set_option maxRecDepth 100000 in
set_option maxHeartbeats 4000000 in
theorem pC0_0 : ∀ q, q < 128 → pX 0 (0 + q) = true := by decide +kernel
set_option maxRecDepth 100000 in
set_option maxHeartbeats 4000000 in
theorem pC0_128 : ∀ q, q < 128 → pX 0 (128 + q) = true := by decide +kernel
set_option maxRecDepth 100000 in
set_option maxHeartbeats 4000000 in
theorem pC0_256 : ∀ q, q < 38 → pX 0 (256 + q) = true := by decide +kernel
theorem pCm0 (pc : Nat) (h : pc < pTop 0) : pX 0 pc = true := by
 replace h : pc < 294 := h
 by_cases h0 : pc < 128
 ·have q := pC0_0 (pc - 0) (by omega)
  rwa [show 0 + (pc - 0) = pc from by omega] at q
 by_cases h128 : pc < 256
 ·have q := pC0_128 (pc - 128) (by omega)
  rwa [show 128 + (pc - 128) = pc from by omega] at q
 have q := pC0_256 (pc - 256) (by omega)
 rwa [show 256 + (pc - 256) = pc from by omega] at q
set_option maxRecDepth 100000 in
set_option maxHeartbeats 4000000 in
theorem pC1_0 : ∀ q, q < 108 → pX 1 (0 + q) = true := by decide +kernel
theorem pCm1 (pc : Nat) (h : pc < pTop 1) : pX 1 pc = true := by
 replace h : pc < 108 := h
 have q := pC1_0 (pc - 0) (by omega)
 rwa [show 0 + (pc - 0) = pc from by omega] at q
set_option maxRecDepth 100000 in
set_option maxHeartbeats 4000000 in
theorem pC2_0 : ∀ q, q < 46 → pX 2 (0 + q) = true := by decide +kernel
theorem pCm2 (pc : Nat) (h : pc < pTop 2) : pX 2 pc = true := by
 replace h : pc < 46 := h
 have q := pC2_0 (pc - 0) (by omega)
 rwa [show 0 + (pc - 0) = pc from by omega] at q
set_option maxRecDepth 100000 in
set_option maxHeartbeats 4000000 in
theorem pC3_0 : ∀ q, q < 103 → pX 3 (0 + q) = true := by decide +kernel
theorem pCm3 (pc : Nat) (h : pc < pTop 3) : pX 3 pc = true := by
 replace h : pc < 103 := h
 have q := pC3_0 (pc - 0) (by omega)
 rwa [show 0 + (pc - 0) = pc from by omega] at q
set_option maxRecDepth 100000 in
set_option maxHeartbeats 4000000 in
theorem pC4_0 : ∀ q, q < 37 → pX 4 (0 + q) = true := by decide +kernel
theorem pCm4 (pc : Nat) (h : pc < pTop 4) : pX 4 pc = true := by
 replace h : pc < 37 := h
 have q := pC4_0 (pc - 0) (by omega)
 rwa [show 0 + (pc - 0) = pc from by omega] at q
set_option maxRecDepth 100000 in
set_option maxHeartbeats 4000000 in
theorem pC5_0 : ∀ q, q < 75 → pX 5 (0 + q) = true := by decide +kernel
theorem pCm5 (pc : Nat) (h : pc < pTop 5) : pX 5 pc = true := by
 replace h : pc < 75 := h
 have q := pC5_0 (pc - 0) (by omega)
 rwa [show 0 + (pc - 0) = pc from by omega] at q
set_option maxRecDepth 100000 in
set_option maxHeartbeats 4000000 in
theorem pC6_0 : ∀ q, q < 26 → pX 6 (0 + q) = true := by decide +kernel
theorem pCm6 (pc : Nat) (h : pc < pTop 6) : pX 6 pc = true := by
 replace h : pc < 26 := h
 have q := pC6_0 (pc - 0) (by omega)
 rwa [show 0 + (pc - 0) = pc from by omega] at q
set_option maxRecDepth 100000 in
set_option maxHeartbeats 4000000 in
theorem pC7_0 : ∀ q, q < 128 → pX 7 (0 + q) = true := by decide +kernel
set_option maxRecDepth 100000 in
set_option maxHeartbeats 4000000 in
theorem pC7_128 : ∀ q, q < 16 → pX 7 (128 + q) = true := by decide +kernel
theorem pCm7 (pc : Nat) (h : pc < pTop 7) : pX 7 pc = true := by
 replace h : pc < 144 := h
 by_cases h0 : pc < 128
 ·have q := pC7_0 (pc - 0) (by omega)
  rwa [show 0 + (pc - 0) = pc from by omega] at q
 have q := pC7_128 (pc - 128) (by omega)
 rwa [show 128 + (pc - 128) = pc from by omega] at q
set_option maxRecDepth 100000 in
set_option maxHeartbeats 4000000 in
theorem pC8_0 : ∀ q, q < 128 → pX 8 (0 + q) = true := by decide +kernel
set_option maxRecDepth 100000 in
set_option maxHeartbeats 4000000 in
theorem pC8_128 : ∀ q, q < 35 → pX 8 (128 + q) = true := by decide +kernel
theorem pCm8 (pc : Nat) (h : pc < pTop 8) : pX 8 pc = true := by
 replace h : pc < 163 := h
 by_cases h0 : pc < 128
 ·have q := pC8_0 (pc - 0) (by omega)
  rwa [show 0 + (pc - 0) = pc from by omega] at q
 have q := pC8_128 (pc - 128) (by omega)
 rwa [show 128 + (pc - 128) = pc from by omega] at q
set_option maxRecDepth 100000 in
set_option maxHeartbeats 4000000 in
theorem pC9_0 : ∀ q, q < 17 → pX 9 (0 + q) = true := by decide +kernel
theorem pCm9 (pc : Nat) (h : pc < pTop 9) : pX 9 pc = true := by
 replace h : pc < 17 := h
 have q := pC9_0 (pc - 0) (by omega)
 rwa [show 0 + (pc - 0) = pc from by omega] at q
set_option maxRecDepth 100000 in
set_option maxHeartbeats 4000000 in
theorem pC10_0 : ∀ q, q < 128 → pX 10 (0 + q) = true := by decide +kernel
set_option maxRecDepth 100000 in
set_option maxHeartbeats 4000000 in
theorem pC10_128 : ∀ q, q < 45 → pX 10 (128 + q) = true := by decide +kernel
theorem pCm10 (pc : Nat) (h : pc < pTop 10) : pX 10 pc = true := by
 replace h : pc < 173 := h
 by_cases h0 : pc < 128
 ·have q := pC10_0 (pc - 0) (by omega)
  rwa [show 0 + (pc - 0) = pc from by omega] at q
 have q := pC10_128 (pc - 128) (by omega)
 rwa [show 128 + (pc - 128) = pc from by omega] at q
set_option maxRecDepth 100000 in
set_option maxHeartbeats 4000000 in
theorem pC11_0 : ∀ q, q < 63 → pX 11 (0 + q) = true := by decide +kernel
theorem pCm11 (pc : Nat) (h : pc < pTop 11) : pX 11 pc = true := by
 replace h : pc < 63 := h
 have q := pC11_0 (pc - 0) (by omega)
 rwa [show 0 + (pc - 0) = pc from by omega] at q
set_option maxRecDepth 100000 in
set_option maxHeartbeats 4000000 in
theorem pC12_0 : ∀ q, q < 128 → pX 12 (0 + q) = true := by decide +kernel
set_option maxRecDepth 100000 in
set_option maxHeartbeats 4000000 in
theorem pC12_128 : ∀ q, q < 4 → pX 12 (128 + q) = true := by decide +kernel
theorem pCm12 (pc : Nat) (h : pc < pTop 12) : pX 12 pc = true := by
 replace h : pc < 132 := h
 by_cases h0 : pc < 128
 ·have q := pC12_0 (pc - 0) (by omega)
  rwa [show 0 + (pc - 0) = pc from by omega] at q
 have q := pC12_128 (pc - 128) (by omega)
 rwa [show 128 + (pc - 128) = pc from by omega] at q
set_option maxRecDepth 100000 in
set_option maxHeartbeats 4000000 in
theorem pC13_0 : ∀ q, q < 128 → pX 13 (0 + q) = true := by decide +kernel
set_option maxRecDepth 100000 in
set_option maxHeartbeats 4000000 in
theorem pC13_128 : ∀ q, q < 3 → pX 13 (128 + q) = true := by decide +kernel
theorem pCm13 (pc : Nat) (h : pc < pTop 13) : pX 13 pc = true := by
 replace h : pc < 131 := h
 by_cases h0 : pc < 128
 ·have q := pC13_0 (pc - 0) (by omega)
  rwa [show 0 + (pc - 0) = pc from by omega] at q
 have q := pC13_128 (pc - 128) (by omega)
 rwa [show 128 + (pc - 128) = pc from by omega] at q
set_option maxRecDepth 100000 in
set_option maxHeartbeats 4000000 in
theorem pC14_0 : ∀ q, q < 65 → pX 14 (0 + q) = true := by decide +kernel
theorem pCm14 (pc : Nat) (h : pc < pTop 14) : pX 14 pc = true := by
 replace h : pc < 65 := h
 have q := pC14_0 (pc - 0) (by omega)
 rwa [show 0 + (pc - 0) = pc from by omega] at q
set_option maxRecDepth 100000 in
set_option maxHeartbeats 4000000 in
theorem pC15_0 : ∀ q, q < 17 → pX 15 (0 + q) = true := by decide +kernel
theorem pCm15 (pc : Nat) (h : pc < pTop 15) : pX 15 pc = true := by
 replace h : pc < 17 := h
 have q := pC15_0 (pc - 0) (by omega)
 rwa [show 0 + (pc - 0) = pc from by omega] at q
set_option maxRecDepth 100000 in
set_option maxHeartbeats 4000000 in
theorem pC16_0 : ∀ q, q < 128 → pX 16 (0 + q) = true := by decide +kernel
set_option maxRecDepth 100000 in
set_option maxHeartbeats 4000000 in
theorem pC16_128 : ∀ q, q < 112 → pX 16 (128 + q) = true := by decide +kernel
theorem pCm16 (pc : Nat) (h : pc < pTop 16) : pX 16 pc = true := by
 replace h : pc < 240 := h
 by_cases h0 : pc < 128
 ·have q := pC16_0 (pc - 0) (by omega)
  rwa [show 0 + (pc - 0) = pc from by omega] at q
 have q := pC16_128 (pc - 128) (by omega)
 rwa [show 128 + (pc - 128) = pc from by omega] at q
set_option maxRecDepth 100000 in
set_option maxHeartbeats 4000000 in
theorem pC17_0 : ∀ q, q < 25 → pX 17 (0 + q) = true := by decide +kernel
theorem pCm17 (pc : Nat) (h : pc < pTop 17) : pX 17 pc = true := by
 replace h : pc < 25 := h
 have q := pC17_0 (pc - 0) (by omega)
 rwa [show 0 + (pc - 0) = pc from by omega] at q
set_option maxRecDepth 100000 in
set_option maxHeartbeats 4000000 in
theorem pC18_0 : ∀ q, q < 45 → pX 18 (0 + q) = true := by decide +kernel
theorem pCm18 (pc : Nat) (h : pc < pTop 18) : pX 18 pc = true := by
 replace h : pc < 45 := h
 have q := pC18_0 (pc - 0) (by omega)
 rwa [show 0 + (pc - 0) = pc from by omega] at q
set_option maxRecDepth 100000 in
set_option maxHeartbeats 4000000 in
theorem pC19_0 : ∀ q, q < 30 → pX 19 (0 + q) = true := by decide +kernel
theorem pCm19 (pc : Nat) (h : pc < pTop 19) : pX 19 pc = true := by
 replace h : pc < 30 := h
 have q := pC19_0 (pc - 0) (by omega)
 rwa [show 0 + (pc - 0) = pc from by omega] at q
set_option maxRecDepth 100000 in
set_option maxHeartbeats 4000000 in
theorem pC20_0 : ∀ q, q < 46 → pX 20 (0 + q) = true := by decide +kernel
theorem pCm20 (pc : Nat) (h : pc < pTop 20) : pX 20 pc = true := by
 replace h : pc < 46 := h
 have q := pC20_0 (pc - 0) (by omega)
 rwa [show 0 + (pc - 0) = pc from by omega] at q
set_option maxRecDepth 100000 in
set_option maxHeartbeats 4000000 in
theorem pC21_0 : ∀ q, q < 39 → pX 21 (0 + q) = true := by decide +kernel
theorem pCm21 (pc : Nat) (h : pc < pTop 21) : pX 21 pc = true := by
 replace h : pc < 39 := h
 have q := pC21_0 (pc - 0) (by omega)
 rwa [show 0 + (pc - 0) = pc from by omega] at q
set_option maxRecDepth 100000 in
set_option maxHeartbeats 4000000 in
theorem pC22_0 : ∀ q, q < 28 → pX 22 (0 + q) = true := by decide +kernel
theorem pCm22 (pc : Nat) (h : pc < pTop 22) : pX 22 pc = true := by
 replace h : pc < 28 := h
 have q := pC22_0 (pc - 0) (by omega)
 rwa [show 0 + (pc - 0) = pc from by omega] at q
set_option maxRecDepth 100000 in
set_option maxHeartbeats 4000000 in
theorem pC23_0 : ∀ q, q < 28 → pX 23 (0 + q) = true := by decide +kernel
theorem pCm23 (pc : Nat) (h : pc < pTop 23) : pX 23 pc = true := by
 replace h : pc < 28 := h
 have q := pC23_0 (pc - 0) (by omega)
 rwa [show 0 + (pc - 0) = pc from by omega] at q
set_option maxRecDepth 100000 in
set_option maxHeartbeats 4000000 in
theorem pC24_0 : ∀ q, q < 65 → pX 24 (0 + q) = true := by decide +kernel
theorem pCm24 (pc : Nat) (h : pc < pTop 24) : pX 24 pc = true := by
 replace h : pc < 65 := h
 have q := pC24_0 (pc - 0) (by omega)
 rwa [show 0 + (pc - 0) = pc from by omega] at q
set_option maxRecDepth 100000 in
set_option maxHeartbeats 4000000 in
theorem pC25_0 : ∀ q, q < 47 → pX 25 (0 + q) = true := by decide +kernel
theorem pCm25 (pc : Nat) (h : pc < pTop 25) : pX 25 pc = true := by
 replace h : pc < 47 := h
 have q := pC25_0 (pc - 0) (by omega)
 rwa [show 0 + (pc - 0) = pc from by omega] at q
set_option maxRecDepth 100000 in
set_option maxHeartbeats 4000000 in
theorem pC26_0 : ∀ q, q < 30 → pX 26 (0 + q) = true := by decide +kernel
theorem pCm26 (pc : Nat) (h : pc < pTop 26) : pX 26 pc = true := by
 replace h : pc < 30 := h
 have q := pC26_0 (pc - 0) (by omega)
 rwa [show 0 + (pc - 0) = pc from by omega] at q
theorem pChk0 : ∀ m, m < pN → ∀ pc, pc < pTop m → (match pCode m pc with | some t => qchk m pc t.1 t.2 | none => true) = true := by
 intro m hm pc hp
 change pX m pc = true
 match m, hm, hp with
 | 0, _, hp => exact pCm0 pc hp
 | 1, _, hp => exact pCm1 pc hp
 | 2, _, hp => exact pCm2 pc hp
 | 3, _, hp => exact pCm3 pc hp
 | 4, _, hp => exact pCm4 pc hp
 | 5, _, hp => exact pCm5 pc hp
 | 6, _, hp => exact pCm6 pc hp
 | 7, _, hp => exact pCm7 pc hp
 | 8, _, hp => exact pCm8 pc hp
 | 9, _, hp => exact pCm9 pc hp
 | 10, _, hp => exact pCm10 pc hp
 | 11, _, hp => exact pCm11 pc hp
 | 12, _, hp => exact pCm12 pc hp
 | 13, _, hp => exact pCm13 pc hp
 | 14, _, hp => exact pCm14 pc hp
 | 15, _, hp => exact pCm15 pc hp
 | 16, _, hp => exact pCm16 pc hp
 | 17, _, hp => exact pCm17 pc hp
 | 18, _, hp => exact pCm18 pc hp
 | 19, _, hp => exact pCm19 pc hp
 | 20, _, hp => exact pCm20 pc hp
 | 21, _, hp => exact pCm21 pc hp
 | 22, _, hp => exact pCm22 pc hp
 | 23, _, hp => exact pCm23 pc hp
 | 24, _, hp => exact pCm24 pc hp
 | 25, _, hp => exact pCm25 pc hp
 | 26, _, hp => exact pCm26 pc hp
 | m + 27, hm, _ => exact absurd hm (by unfold pN; omega)
theorem pIn {m pc : Nat} {t : Instr × Nat} (h : pCode m pc = some t) : m < pN ∧ pc < pTop m := by
 unfold pCode at h
 cases h1 : Nat.ble pN m with
 | true => rw [h1] at h; cases h
 | false =>
  cases h2 : Nat.ble (pTop m) pc with
  | true => rw [h1, h2] at h; cases h
  | false => exact ⟨Nat.lt_of_not_le (fun q => by rw [Nat.ble_eq_true_of_le q] at h1; cases h1), Nat.lt_of_not_le (fun q => by rw [Nat.ble_eq_true_of_le q] at h2; cases h2)⟩
theorem pChk {m pc : Nat} {i : Instr} {aux : Nat} (h : pCode m pc = some (i, aux)) : qchk m pc i aux = true := by
 have q := pChk0 m (pIn h).1 pc (pIn h).2
 rw [h] at q
 exact q
theorem pDec {m pc : Nat} {i : Instr} {aux : Nat} (h : pCode m pc = some (i, aux)) : decode (pBytes m) pc = .ok (i, ilen i) := by
 have q := pChk h
 unfold qchk at q
 exact of_decide_eq_true (Bool.and_eq_true_iff.mp q).1
theorem pDecN {m pc n : Nat} {i : Instr} {aux : Nat} (h : pCode m pc = some (i, aux)) (hn : ilen i = n) : decode (pBytes m) pc = .ok (i, n) := by
 rw [← hn]; exact pDec h
theorem pRest {m pc : Nat} {i : Instr} {aux : Nat} (h : pCode m pc = some (i, aux)) : qlk m pc i aux = true := by
 have q := pChk h
 unfold qchk at q
 exact (Bool.and_eq_true_iff.mp q).2
theorem qtgt_spec {pc : Nat} {o : Int} {aux : Nat} (h : qtgt pc o aux = true) : 0 ≤ (pc : Int) + o ∧ ((pc : Int) + o).toNat = aux := by
 unfold qtgt at h
 have h2 := Bool.and_eq_true_iff.mp h
 exact ⟨of_decide_eq_true h2.1, of_decide_eq_true h2.2⟩
def QCx (Z : State) (p : Program) (R : Room) (s : State) (mid : MethodId) (meth : Method) (c : Code) (m : Nat) : Prop :=
 p.tables.exec = Jvm.exec ∧ Z.Warmed39 s.vm ∧ c.code = pBytes m ∧ c.maxLocals = pMaxL m ∧ meth.sig.returnType = pRet m ∧ s.vm.findClass (kName (pK m)) = some mid.cls ∧ meth.name = pNm m ∧ pFr m ≤ R.frames ∧ pLo m ≤ R.locals
def QTri (l : Launch) (Z : State) (n0 : Nat) (ad : Nat → Addr) (m : Nat) (st : QSt) (v : Option Value) (σ' : QHeap) : Prop :=
 st.2.2.2.length ≤ σ'.length ∧ qhs st.2.2.2 ≤ qhs σ' ∧
 ∀ (p : Program) (e : Env) (R : Room) (s : State) (mid : MethodId) (args : Array Value) (below : List Frame) (meth : Method) (c : Code) (T : State) (locs : List Loc) (cells slots : Nat) (C : Array Slot),
  QCx Z p R s mid meth c m → Stand p l e R s mid args below meth c T locs cells slots → QRep Z n0 ad T.heap st.2.2.2 → Fr n0 locs → QLocOk ad st.2.1 C → C.size = c.maxLocals →
  n0 + (st.2.2.2.length - k0) = s.heap.size + cells → cells + (σ'.length - st.2.2.2.length) ≤ R.cells → slots + (qhs σ' - qhs st.2.2.2) ≤ R.slots →
  ∃ T' locs', Stand p l e R s mid args below meth c T' locs' (cells + (σ'.length - st.2.2.2.length)) (slots + (qhs σ' - qhs st.2.2.2)) ∧ QRep Z n0 ad T'.heap σ' ∧ Fr n0 locs' ∧
   ∀ fs, (∀ (f : JFrame) (acts : List Action), f.method = mid → f.locked = none → f.entered = [] → (doReturn e (T'.setTop f) acts (v.map (qv ad))).1 = T'.setFrames fs) →
    Steps p.tables e below (T.setTop (mkF mid st.1 C (st.2.2.1.map (qv ad)))) (T'.setFrames fs)
section Triples
variable {l : Launch} {Z : State} {n0 : Nat} {ad : Nat → Addr} {a0 : Array Value} {m : Nat} {v : Option Value} {σ' : QHeap}
theorem QTri.gen {st st' : QSt} (h : QTri l Z n0 ad m st' v σ') (g1 : st.2.2.2.length ≤ st'.2.2.2.length) (g2 : qhs st.2.2.2 ≤ qhs st'.2.2.2)
  (hs : ∀ (p : Program) (e : Env) (R : Room) (s : State) (mid : MethodId) (args : Array Value) (below : List Frame) (meth : Method) (c : Code) (T : State) (locs : List Loc) (cells slots : Nat) (C : Array Slot),
   QCx Z p R s mid meth c m → Stand p l e R s mid args below meth c T locs cells slots → QRep Z n0 ad T.heap st.2.2.2 → Fr n0 locs → QLocOk ad st.2.1 C → C.size = c.maxLocals →
   n0 + (st.2.2.2.length - k0) = s.heap.size + cells → cells + (st'.2.2.2.length - st.2.2.2.length) ≤ R.cells → slots + (qhs st'.2.2.2 - qhs st.2.2.2) ≤ R.slots →
   ∃ T₁ locs₁ C₁, Stand p l e R s mid args below meth c T₁ locs₁ (cells + (st'.2.2.2.length - st.2.2.2.length)) (slots + (qhs st'.2.2.2 - qhs st.2.2.2)) ∧ QRep Z n0 ad T₁.heap st'.2.2.2 ∧ Fr n0 locs₁ ∧ QLocOk ad st'.2.1 C₁ ∧ C₁.size = c.maxLocals ∧
    ∀ target, Steps p.tables e below (T₁.setTop (mkF mid st'.1 C₁ (st'.2.2.1.map (qv ad)))) target → Steps p.tables e below (T.setTop (mkF mid st.1 C (st.2.2.1.map (qv ad)))) target) :
  QTri l Z n0 ad m st v σ' := by
 obtain ⟨h1, h2, h3⟩ := h
 refine ⟨Nat.le_trans g1 h1, Nat.le_trans g2 h2, fun p e R s mid args below meth c T locs cells slots C hcx X hR hF hL hC hn hc hsl => ?_⟩
 obtain ⟨T₁, locs₁, C₁, X₁, R₁, F₁, L₁, C1, S₁⟩ := hs p e R s mid args below meth c T locs cells slots C hcx X hR hF hL hC hn (by omega) (by omega)
 have hk := hR.1
 obtain ⟨T', locs', X', R', F', S'⟩ := h3 p e R s mid args below meth c T₁ locs₁ _ _ C₁ hcx X₁ R₁ F₁ L₁ C1 (by omega) (by omega) (by omega)
 have e1 : cells + (st'.2.2.2.length - st.2.2.2.length) + (σ'.length - st'.2.2.2.length) = cells + (σ'.length - st.2.2.2.length) := by omega
 have e2 : slots + (qhs st'.2.2.2 - qhs st.2.2.2) + (qhs σ' - qhs st'.2.2.2) = slots + (qhs σ' - qhs st.2.2.2) := by omega
 rw [e1, e2] at X'
 exact ⟨T', locs', X', R', F', fun fs hf => S₁ _ (S' fs hf)⟩
theorem QTri.pure {st st' : QSt} (h : QTri l Z n0 ad m st' v σ') (hσ : st'.2.2.2 = st.2.2.2)
  (hs : ∀ (p : Program) (e : Env) (R : Room) (s : State) (mid : MethodId) (args : Array Value) (below : List Frame) (meth : Method) (c : Code) (T : State) (locs : List Loc) (cells slots : Nat) (C : Array Slot),
   QCx Z p R s mid meth c m → Stand p l e R s mid args below meth c T locs cells slots → QRep Z n0 ad T.heap st.2.2.2 → QLocOk ad st.2.1 C → C.size = c.maxLocals →
   ∃ T₁ C₁, Stand p l e R s mid args below meth c T₁ locs cells slots ∧ T₁.heap = T.heap ∧ QLocOk ad st'.2.1 C₁ ∧ C₁.size = c.maxLocals ∧
    ∀ target, Steps p.tables e below (T₁.setTop (mkF mid st'.1 C₁ (st'.2.2.1.map (qv ad)))) target → Steps p.tables e below (T.setTop (mkF mid st.1 C (st.2.2.1.map (qv ad)))) target) :
  QTri l Z n0 ad m st v σ' := by
 refine QTri.gen h (by rw [hσ]; exact Nat.le_refl _) (by rw [hσ]; exact Nat.le_refl _) fun p e R s mid args below meth c T locs cells slots C hcx X hR hF hL hC hn hc hsl => ?_
 obtain ⟨T₁, C₁, X₁, hh, L₁, C1, S₁⟩ := hs p e R s mid args below meth c T locs cells slots C hcx X hR hL hC
 refine ⟨T₁, locs, C₁, ?_, by rw [hσ, hh]; exact hR, hF, L₁, C1, S₁⟩
 rw [hσ, Nat.sub_self, Nat.sub_self]
 exact X₁
theorem QTri.frame {pc pc' : Nat} {L L' : QLoc} {S S' : List Value} {σ : QHeap} (h : QTri l Z n0 ad m (pc', L', S', σ) v σ')
  (hs : ∀ (p : Program) (e : Env) (R : Room) (s : State) (mid : MethodId) (args : Array Value) (below : List Frame) (meth : Method) (c : Code) (T : State) (locs : List Loc) (cells slots : Nat) (C : Array Slot),
   QCx Z p R s mid meth c m → Stand p l e R s mid args below meth c T locs cells slots → QRep Z n0 ad T.heap σ → QLocOk ad L C → C.size = c.maxLocals →
   ∃ C₁, QLocOk ad L' C₁ ∧ C₁.size = c.maxLocals ∧ ∀ target, Steps p.tables e below (T.setTop (mkF mid pc' C₁ (S'.map (qv ad)))) target → Steps p.tables e below (T.setTop (mkF mid pc C (S.map (qv ad)))) target) :
  QTri l Z n0 ad m (pc, L, S, σ) v σ' :=
 QTri.pure h rfl fun p e R s mid args below meth c T locs cells slots C hcx X hR hL hC => by
  obtain ⟨C₁, h1, h2, h3⟩ := hs p e R s mid args below meth c T locs cells slots C hcx X hR hL hC
  exact ⟨T, C₁, X, rfl, h1, h2, h3⟩
theorem QTri.stack {pc pc' : Nat} {L : QLoc} {S S' : List Value} {σ : QHeap} (h : QTri l Z n0 ad m (pc', L, S', σ) v σ')
  (hs : ∀ (p : Program) (e : Env) (R : Room) (s : State) (mid : MethodId) (args : Array Value) (below : List Frame) (meth : Method) (c : Code) (T : State) (locs : List Loc) (cells slots : Nat) (C : Array Slot) (target : State),
   p.tables.exec = Jvm.exec → Z.Warmed39 s.vm → c.code = pBytes m → s.vm.findClass (kName (pK m)) = some mid.cls → Stand p l e R s mid args below meth c T locs cells slots → QRep Z n0 ad T.heap σ → QLocOk ad L C →
   Steps p.tables e below (T.setTop (mkF mid pc' C (S'.map (qv ad)))) target → Steps p.tables e below (T.setTop (mkF mid pc C (S.map (qv ad)))) target) :
  QTri l Z n0 ad m (pc, L, S, σ) v σ' :=
 QTri.frame h fun p e R s mid args below meth c T locs cells slots C hcx X hR hL hC => ⟨C, hL, hC, fun target k => hs p e R s mid args below meth c T locs cells slots C target hcx.1 hcx.2.1 hcx.2.2.1 hcx.2.2.2.2.2.1 X hR hL k⟩
theorem qload_inv {pc : Nat} {L : QLoc} {S : List Value} {σ : QHeap} {k : Nat} {ok : Value → Bool} {st' : QSt} (h : qload pc L S σ k ok = some st') : ∃ v, lget L k = some v ∧ ok v = true ∧ st' = (pc, L, v :: S, σ) := by
 unfold qload at h
 split at h
 ·rename_i v hv
  cases ho : ok v with
  | true => rw [ho] at h; cases h; exact ⟨v, hv, ho, rfl⟩
  | false => rw [ho] at h; cases h
 ·cases h
theorem qstore_inv {pc : Nat} {L : QLoc} {S : List Value} {σ : QHeap} {k : Nat} {ok : Value → Bool} {st' : QSt} (h : qstore pc L S σ k ok = some st') : ∃ v S' L', S = v :: S' ∧ ok v = true ∧ lput L k v = some L' ∧ st' = (pc, L', S', σ) := by
 unfold qstore at h
 split at h
 ·rename_i v S'
  cases ho : ok v with
  | true =>
   rw [ho] at h
   simp only [cond_true] at h
   split at h
   ·rename_i L' hL'
    cases h; exact ⟨v, S', L', rfl, ho, hL', rfl⟩
   ·cases h
  | false => rw [ho] at h; cases h
 ·cases h
theorem qbin_inv {pc : Nat} {L : QLoc} {S : List Value} {σ : QHeap} {f : Int32 → Int32 → Int32} {st' : QSt} (h : qbin pc L S σ f = some st') : ∃ x y S', S = .int y :: .int x :: S' ∧ st' = (pc, L, .int (f x y) :: S', σ) := by
 unfold qbin at h
 split at h
 ·cases h; exact ⟨_, _, _, rfl, rfl⟩
 ·cases h
theorem qbino_inv {pc : Nat} {L : QLoc} {S : List Value} {σ : QHeap} {f : Int32 → Int32 → Option Int32} {st' : QSt} (h : qbino pc L S σ f = some st') : ∃ x y z S', S = .int y :: .int x :: S' ∧ f x y = some z ∧ st' = (pc, L, .int z :: S', σ) := by
 unfold qbino at h
 split at h
 ·obtain ⟨z, hz, h⟩ := Option.bind_eq_some_iff.mp h
  cases h; exact ⟨_, _, _, _, rfl, hz, rfl⟩
 ·cases h
theorem qbinJ_inv {pc : Nat} {L : QLoc} {S : List Value} {σ : QHeap} {f : Int64 → Int64 → Int64} {st' : QSt} (h : qbinJ pc L S σ f = some st') : ∃ x y S', S = .long y :: .long x :: S' ∧ st' = (pc, L, .long (f x y) :: S', σ) := by
 unfold qbinJ at h
 split at h
 ·cases h; exact ⟨_, _, _, rfl, rfl⟩
 ·cases h
theorem qshJ_inv {pc : Nat} {L : QLoc} {S : List Value} {σ : QHeap} {f : Int64 → Int32 → Int64} {st' : QSt} (h : qshJ pc L S σ f = some st') : ∃ x y S', S = .int y :: .long x :: S' ∧ st' = (pc, L, .long (f x y) :: S', σ) := by
 unfold qshJ at h
 split at h
 ·cases h; exact ⟨_, _, _, rfl, rfl⟩
 ·cases h
theorem quni_inv {pc : Nat} {L : QLoc} {S : List Value} {σ : QHeap} {f : Int32 → Value} {st' : QSt} (h : quni pc L S σ f = some st') : ∃ x S', S = .int x :: S' ∧ st' = (pc, L, f x :: S', σ) := by
 unfold quni at h
 split at h
 ·cases h; exact ⟨_, _, rfl, rfl⟩
 ·cases h
theorem quniJ_inv {pc : Nat} {L : QLoc} {S : List Value} {σ : QHeap} {f : Int64 → Value} {st' : QSt} (h : quniJ pc L S σ f = some st') : ∃ x S', S = .long x :: S' ∧ st' = (pc, L, f x :: S', σ) := by
 unfold quniJ at h
 split at h
 ·cases h; exact ⟨_, _, rfl, rfl⟩
 ·cases h
theorem qif_inv {pc : Nat} {L : QLoc} {S : List Value} {σ : QHeap} {cd : ClassFile.Cond} {t : Nat} {st' : QSt} (h : qif pc L S σ cd t = some st') : ∃ x S', S = .int x :: S' ∧ st' = (bif ifCond.holds cd x then t else pc, L, S', σ) := by
 unfold qif at h
 split at h
 ·cases h; exact ⟨_, _, rfl, rfl⟩
 ·cases h
theorem qicmp_inv {pc : Nat} {L : QLoc} {S : List Value} {σ : QHeap} {cd : ClassFile.Cond} {t : Nat} {st' : QSt} (h : qicmp pc L S σ cd t = some st') : ∃ x y S', S = .int y :: .int x :: S' ∧ st' = (bif if_icmp.holds cd x y then t else pc, L, S', σ) := by
 unfold qicmp at h
 split at h
 ·cases h; exact ⟨_, _, _, rfl, rfl⟩
 ·cases h
theorem qget_inv {pc : Nat} {L : QLoc} {S : List Value} {σ : QHeap} {k : Nat} {st' : QSt} (h : qget pc L S σ k = some st') : ∃ a S' vs v, S = .ref a :: S' ∧ hget σ a = some (.inl vs) ∧ vget vs k = some v ∧ st' = (pc, L, v :: S', σ) := by
 unfold qget at h
 split at h
 ·split at h
  ·split at h
   ·cases h; exact ⟨_, _, _, _, rfl, by assumption, by assumption, rfl⟩
   ·cases h
  ·cases h
 ·cases h
theorem qput_inv {pc : Nat} {L : QLoc} {S : List Value} {σ : QHeap} {k : Nat} {st' : QSt} (h : qput pc L S σ k = some st') : ∃ v a S' vs w, S = v :: .ref a :: S' ∧ hget σ a = some (.inl vs) ∧ k0 ≤ a ∧ k < vs.length ∧ qfit (fTy k) v = some w ∧ st' = (pc, L, S', σ.set a (.inl (vs.set k w))) := by
 unfold qput at h
 split at h
 ·rename_i v a S'
  split at h
  ·rename_i vs hvs
   cases hbb : (Nat.ble k0 a && Nat.ble (k + 1) vs.length) with
   | false => rw [hbb] at h; cases h
   | true =>
    rw [hbb] at h
    simp only [cond_true] at h
    obtain ⟨u, hu, h⟩ := Option.bind_eq_some_iff.mp h
    cases h
    obtain ⟨b1, b2⟩ := Bool.and_eq_true_iff.mp hbb
    exact ⟨v, a, S', vs, u, rfl, hvs, Nat.le_of_ble_eq_true b1, Nat.le_of_ble_eq_true b2, hu, rfl⟩
  ·cases h
 ·cases h
theorem qald_inv {pc : Nat} {L : QLoc} {S : List Value} {σ : QHeap} {ok : FieldType → Bool} {st' : QSt} (h : qald pc L S σ ok = some st') : ∃ j a S' ty xs v, S = .int j :: .ref a :: S' ∧ hget σ a = some (.inr (.inl (ty, xs))) ∧ ok ty = true ∧ aget xs j = some v ∧ st' = (pc, L, .int v :: S', σ) := by
 unfold qald at h
 split at h
 ·rename_i j a S'
  split at h
  ·rename_i x hx
   cases ht : ok x.1 with
   | false => rw [ht] at h; cases h
   | true =>
    rw [ht] at h
    simp only [cond_true] at h
    obtain ⟨u, hu, h⟩ := Option.bind_eq_some_iff.mp h
    cases h
    exact ⟨j, a, S', x.1, x.2, u, rfl, hx, ht, hu, rfl⟩
  ·cases h
 ·cases h
theorem qaldJ_inv {pc : Nat} {L : QLoc} {S : List Value} {σ : QHeap} {st' : QSt} (h : qaldJ pc L S σ = some st') : ∃ j a S' xs v, S = .int j :: .ref a :: S' ∧ hget σ a = some (.inr (.inr xs)) ∧ aget xs j = some v ∧ st' = (pc, L, .long v :: S', σ) := by
 unfold qaldJ at h
 split at h
 ·rename_i j a S'
  split at h
  ·rename_i x hx
   obtain ⟨u, hu, h⟩ := Option.bind_eq_some_iff.mp h
   cases h
   exact ⟨j, a, S', x, u, rfl, hx, hu, rfl⟩
  ·cases h
 ·cases h
theorem qast_inv {pc : Nat} {L : QLoc} {S : List Value} {σ : QHeap} {ok : FieldType → Bool} {st' : QSt} (h : qast pc L S σ ok = some st') : ∃ v j a S' ty xs ys, S = .int v :: .int j :: .ref a :: S' ∧ hget σ a = some (.inr (.inl (ty, xs))) ∧ ok ty = true ∧ k0 ≤ a ∧ aset xs j (qnar ty v) = some ys ∧ st' = (pc, L, S', σ.set a (.inr (.inl (ty, ys)))) := by
 unfold qast at h
 split at h
 ·rename_i v j a S'
  split at h
  ·rename_i x hx
   cases ht : (ok x.1 && Nat.ble k0 a) with
   | false => rw [ht] at h; cases h
   | true =>
    rw [ht] at h
    simp only [cond_true] at h
    obtain ⟨u, hu, h⟩ := Option.bind_eq_some_iff.mp h
    cases h
    obtain ⟨b1, b2⟩ := Bool.and_eq_true_iff.mp ht
    exact ⟨v, j, a, S', x.1, x.2, u, rfl, hx, b1, Nat.le_of_ble_eq_true b2, hu, rfl⟩
  ·cases h
 ·cases h
theorem qastJ_inv {pc : Nat} {L : QLoc} {S : List Value} {σ : QHeap} {st' : QSt} (h : qastJ pc L S σ = some st') : ∃ v j a S' xs ys, S = .long v :: .int j :: .ref a :: S' ∧ hget σ a = some (.inr (.inr xs)) ∧ k0 ≤ a ∧ aset xs j v = some ys ∧ st' = (pc, L, S', σ.set a (.inr (.inr ys))) := by
 unfold qastJ at h
 split at h
 ·rename_i v j a S'
  split at h
  ·rename_i x hx
   cases ht : (Nat.ble k0 a) with
   | false => rw [ht] at h; cases h
   | true =>
    rw [ht] at h
    simp only [cond_true] at h
    obtain ⟨u, hu, h⟩ := Option.bind_eq_some_iff.mp h
    cases h
    exact ⟨v, j, a, S', x, u, rfl, hx, Nat.le_of_ble_eq_true ht, hu, rfl⟩
  ·cases h
 ·cases h
theorem qlen_inv {pc : Nat} {L : QLoc} {S : List Value} {σ : QHeap} {st' : QSt} (h : qlen pc L S σ = some st') : ∃ a S' n, S = .ref a :: S' ∧ ((∃ ty xs, hget σ a = some (.inr (.inl (ty, xs))) ∧ n = xs.length) ∨ ∃ xs, hget σ a = some (.inr (.inr xs)) ∧ n = xs.length) ∧ st' = (pc, L, .int n.toInt32 :: S', σ) := by
 unfold qlen at h
 split at h
 ·rename_i a S'
  split at h
  ·rename_i x hx
   cases h; exact ⟨a, S', _, rfl, Or.inl ⟨x.1, x.2, hx, rfl⟩, rfl⟩
  ·rename_i x hx
   cases h; exact ⟨a, S', _, rfl, Or.inr ⟨x, hx, rfl⟩, rfl⟩
  ·cases h
 ·cases h
theorem isI_inv {v : Value} (h : isI v = true) : ∃ x, v = .int x := by cases v <;> simp [isI] at h; exact ⟨_, rfl⟩
theorem isJ_inv {v : Value} (h : isJ v = true) : ∃ x, v = .long x := by cases v <;> simp [isJ] at h; exact ⟨_, rfl⟩
theorem isR_inv {v : Value} (h : isR v = true) : ∃ x, v = .ref x := by cases v <;> simp [isR] at h; exact ⟨_, rfl⟩
theorem aget_inv {α : Type} {xs : List α} {j : Int32} {x : α} (h : aget xs j = some x) : ¬ j < 0 ∧ xs[j.toNatClampNeg]? = some x := by
 unfold aget at h
 split at h
 ·cases h
 ·rename_i q; exact ⟨q, h⟩
theorem aset_inv {α : Type} {xs ys : List α} {j : Int32} {x : α} (h : aset xs j x = some ys) : ¬ j < 0 ∧ j.toNatClampNeg < xs.length ∧ ys = xs.set j.toNatClampNeg x := by
 unfold aset at h
 split at h
 ·cases h
 ·rename_i q
  split at h
  ·rename_i q2; cases h; exact ⟨q, q2, rfl⟩
  ·cases h
theorem qnew_inv {n : Int32} {k : Nat} (h : qnew n = some k) : ¬ n < 0 ∧ n.toNatClampNeg = k ∧ k ≤ 67108864 := by
 unfold qnew at h
 split at h
 ·cases h
 ·rename_i q
  split at h
  ·rename_i q2; cases h; exact ⟨q, rfl, q2⟩
  ·cases h
theorem QCellOk.other {h h' : Heap} {a b : Addr} {sl : Nat} {w : Value} {c : QCell} (H : QCellOk Z ad h b c) (W : Wr h h' a sl w) (ne : b ≠ a) : QCellOk Z ad h' b c := by
 rcases c with vs | ⟨ty, xs⟩ | xs
 ·obtain ⟨h1, h2, h3⟩ := H
  exact ⟨h1.wr W, h2, fun k u hk hu => (h3 k u hk hu).other W (Or.inl ne)⟩
 ·obtain ⟨c, h1, h2⟩ := H
  exact ⟨c, h1.other W ne, h2⟩
 ·obtain ⟨c, h1, h2⟩ := H
  exact ⟨c, h1.other W ne, h2⟩
theorem QCellOk.ext {h h' : Heap} {b : Addr} {c : QCell} (H : QCellOk Z ad h b c) (E : Ext h h') : QCellOk Z ad h' b c := by
 rcases c with vs | ⟨ty, xs⟩ | xs
 ·obtain ⟨h1, h2, h3⟩ := H
  exact ⟨h1.ext E, h2, fun k u hk hu => (h3 k u hk hu).ext E⟩
 ·obtain ⟨c, h1, h2⟩ := H
  exact ⟨c, h1.ext E, h2⟩
 ·obtain ⟨c, h1, h2⟩ := H
  exact ⟨c, h1.ext E, h2⟩
theorem QRep.set {h h' : Heap} {σ : QHeap} {a : Nat} {sl : Nat} {w : Value} {c d : QCell} (H : QRep Z n0 ad h σ) (Ad : QAd n0 ad) (W : Wr h h' (ad a) sl w) (hc : hget σ a = some c) (hd : QCellOk Z ad h' (ad a) d) : QRep Z n0 ad h' (σ.set a d) := by
 obtain ⟨h1, h2, h3⟩ := H
 refine ⟨by simpa using h1, by rw [W.size, h2]; simp, fun k e he => ?_⟩
 rw [hget_set hc] at he
 split at he
 ·rename_i q; cases he; rw [q]; exact hd
 ·rename_i q; exact (h3 k e he).other W fun z => q (Ad.2 _ _ z)
theorem QRep.push {h h' : Heap} {σ : QHeap} {c : QCell} (H : QRep Z n0 ad h σ) (Ad : QAd n0 ad) (E : Ext h h') (hs : h'.size = h.size + 1) (hc : QCellOk Z ad h' h.size c) : QRep Z n0 ad h' (σ ++ [c]) := by
 obtain ⟨h1, h2, h3⟩ := H
 refine ⟨by simp; omega, by rw [hs, h2]; simp; omega, fun k e he => ?_⟩
 rw [hget_eq] at he
 rcases Nat.lt_or_ge k σ.length with q | q
 ·rw [List.getElem?_append_left q, ← hget_eq] at he
  exact (h3 k e he).ext E
 ·rw [List.getElem?_append_right q] at he
  obtain rfl : k = σ.length := by
   rcases Nat.lt_or_ge (k - σ.length) 1 with z | z
   ·omega
   ·rw [List.getElem?_eq_none (by simpa using z)] at he; cases he
  simp at he
  rw [← he, Ad.1 _ h1, ← h2]
  exact hc
theorem mem_of_contains {α : Type} [BEq α] [LawfulBEq α] {L : List α} {a : α} (h : L.contains a = true) : a ∈ L := by simpa using h
theorem lkF_lt : ∀ t ∈ lkF, t.2.2 < nF := by decide +kernel
theorem laid_of (W : QW Z a0) {k : Nat} (hk : k < nF) : Laid Z a0 cName cName (fNm k) (fDs k) := by
 have q := (qw_lay W) k hk
 cases hf : fFin k with
 | true => rw [hf] at q; exact Or.inr q
 | false => rw [hf] at q; exact Or.inl q
theorem qfit_inv {ty : FieldType} {v w : Value} (h : qfit ty v = some w) : v = w ∧ narrow ty (qv ad w) = qv ad w ∧ fits ty (qv ad w) = true := by
 unfold qfit at h
 split at h
 ·cases h; exact ⟨rfl, rfl, rfl⟩
 ·rename_i x
  obtain ⟨y, hy, h⟩ := Option.bind_eq_some_iff.mp h
  cases h
  unfold qboo at hy
  split at hy
  ·rename_i e; cases hy; subst e; exact ⟨rfl, rfl, rfl⟩
  ·split at hy
   ·rename_i e; cases hy; subst e; exact ⟨rfl, rfl, rfl⟩
   ·cases hy
 ·cases h; exact ⟨rfl, rfl, rfl⟩
 ·cases h; exact ⟨rfl, rfl, rfl⟩
 ·cases h
theorem vget_set {vs : List Value} {k j : Nat} {w : Value} (hk : k < vs.length) : vget (vs.set k w) j = if j = k then some w else vget vs j := by
 simp only [vget_eq, List.getElem?_set]
 by_cases e : k = j
 ·subst e; simp [hk]
 ·simp [e, Ne.symm e]
theorem ald_in {α : Type} {f : α → Value} {xs : List α} {c : Cell} {j : Int32} {x : α} (hc : c.slots = (xs.map f).toArray) (h : aget xs j = some x) : ¬ (j < 0 ∨ c.slots.size ≤ j.toNatClampNeg) ∧ c.slots[j.toNatClampNeg]? = some (f x) := by
 obtain ⟨h1, h2⟩ := aget_inv h
 have h3 := (List.getElem?_eq_some_iff.mp h2).1
 refine ⟨fun q => ?_, by rw [hc]; simp [h2]⟩
 rcases q with q | q
 ·exact h1 q
 ·rw [hc] at q; simp at q; omega
theorem ast_in {α : Type} {f : α → Value} {xs ys : List α} {c : Cell} {j : Int32} {x : α} (hc : c.slots = (xs.map f).toArray) (h : aset xs j x = some ys) : ¬ (j < 0 ∨ c.slots.size ≤ j.toNatClampNeg) ∧ (c.setSlot j.toNatClampNeg (f x)).slots = (ys.map f).toArray := by
 obtain ⟨h1, h2, rfl⟩ := aset_inv h
 refine ⟨fun q => ?_, by simp [Cell.setSlot, hc, List.map_set]⟩
 rcases q with q | q
 ·exact h1 q
 ·rw [hc] at q; simp at q; omega
theorem qgrow {σ : QHeap} {c : QCell} : qhs (σ ++ [c]) - qhs σ = qsz c := by rw [qhs_app]; simp [qhs]
set_option maxHeartbeats 4000000 in
theorem QTri.newArr (Ad : QAd n0 ad) (W : QW Z a0) {pc aux : Nat} {L : QLoc} {S : List Value} {σ : QHeap} {aty : ArrayType} {n : Int32} {k : Nat} {c : QCell} (hk : qnew n = some k) (hc : pCode m pc = some (.newarray aty, aux)) (hz : qsz c = k)
  (hq : ∀ (h' : Heap) (a : Addr) (cA : ClassId), Arr Z h' a (newA cA (newarray.typeOf aty) n) (newarray.typeOf aty) → QCellOk Z ad h' a c)
  (h : QTri l Z n0 ad m (pc + 2, L, .ref σ.length :: S, σ ++ [c]) v σ') : QTri l Z n0 ad m (pc, L, .int n :: S, σ) v σ' := by
 have hd : decode (pBytes m) pc = .ok (.newarray aty, 2) := pDecN hc rfl
 obtain ⟨n1, n2, n3⟩ := qnew_inv hk
 refine QTri.gen h (by simp) (by simp [qhs_app]) fun p e R s mid args below meth c' T locs cells slots C hcx X hR hF hL hC hn hc1 hsl => ?_
 obtain ⟨hx, hZ, hby, hml, hret, hown, hnm, hfr, hlo⟩ := hcx
 have hd2 : decode c'.code pc = .ok (.newarray aty, 2) := by rw [hby]; exact hd
 simp only [List.length_append, List.length_singleton, Nat.add_sub_cancel_left, qgrow, hz] at hc1 hsl ⊢
 obtain ⟨T₁, h₁, cA, X₁, e₁, E₁, A₁, st⟩ := newP X hx hZ (aty := aty) (qw_arr W (newarray.typeOf aty) (mem_of_contains (show aTys.contains (newarray.typeOf aty) = true from pRest hc))) rfl (g := mkF mid pc C (.int n :: S.map (qv ad))) rfl hd2 rfl n1 (cap := k) (by omega) (by omega) hc1 hsl
 have hsz : h₁.size = T.heap.size + 1 := by
  have q1 := X₁.heapSize
  have q2 : T.heap.size < h₁.size := A₁.lt
  have q3 := hR.2.1
  rw [e₁] at q1
  have : n0 + (σ.length - k0) = s.heap.size + cells := hn
  have q3' : T.heap.size = n0 + (σ.length - k0) := q3
  omega
 refine ⟨T₁, locs, C, X₁, ?_, hF, hL, hC, fun target q => ?_⟩
 ·rw [e₁]; exact QRep.push hR Ad E₁ hsz (hq _ _ _ A₁)
 ·refine st _ ?_
  have e2 : ad σ.length = T.heap.size := by rw [Ad.1 _ hR.1]; exact hR.2.1.symm
  simp only [List.map_cons, qv, e2] at q
  exact q
set_option maxHeartbeats 4000000 in
theorem QTri.getfield (W : QW Z a0) {pc idx aux : Nat} {L : QLoc} {S : List Value} {σ : QHeap} {st' : QSt} (h : QTri l Z n0 ad m st' v σ') (hc : pCode m pc = some (.getfield idx, aux)) (hs : qget (pc + 3) L S σ aux = some st') : QTri l Z n0 ad m (pc, L, S, σ) v σ' := by
 have hd : decode (pBytes m) pc = .ok (.getfield idx, 3) := pDecN hc rfl
 obtain ⟨a, S', vs, w, rfl, hvs, hw, rfl⟩ := qget_inv hs
 have hm := mem_of_contains (show lkF.contains (pK m, idx, aux) = true from pRest hc)
 have hlt := lkF_lt _ hm
 refine QTri.pure h rfl fun p e R s mid args below meth c T locs cells slots C hcx X hR hL hC => ?_
 obtain ⟨hx, hZ, hby, hml, hret, hown, hnm, hfr, hlo⟩ := hcx
 have hd2 : decode c.code pc = .ok (.getfield idx, 3) := by rw [hby]; exact hd
 have F := (hR.2.2 _ _ hvs).2.2 aux w hlt hw
 obtain ⟨T₁, X₁, e₁, st⟩ := getF X hx hZ hown (host := "") (index := idx) (Or.inl (qw_fl W (pK m, idx, aux) hm)) Via.refl rfl F (g := mkF mid pc C (List.map (qv ad) (.ref a :: S'))) rfl rfl hd2
 exact ⟨T₁, C, X₁, e₁, hL, hC, st⟩
set_option maxHeartbeats 4000000 in
theorem QTri.putfield (Ad : QAd n0 ad) (W : QW Z a0) {pc idx aux : Nat} {L : QLoc} {S : List Value} {σ : QHeap} {st' : QSt} (h : QTri l Z n0 ad m st' v σ') (hc : pCode m pc = some (.putfield idx, aux)) (hs : qput (pc + 3) L S σ aux = some st') : QTri l Z n0 ad m (pc, L, S, σ) v σ' := by
 have hd : decode (pBytes m) pc = .ok (.putfield idx, 3) := pDecN hc rfl
 obtain ⟨w, a, S', vs, u, rfl, hvs, b1, b2, hu, rfl⟩ := qput_inv hs
 obtain ⟨r1, r2⟩ := Bool.and_eq_true_iff.mp (show (lkF.contains (pK m, idx, aux) && (!fFin aux || (pK m == 1 && pNm m == "<init>"))) = true from pRest hc)
 have hm := mem_of_contains r1
 have hlt := lkF_lt _ hm
 obtain ⟨rfl, q2, q3⟩ := qfit_inv (ad := ad) hu
 have hsz : qhs (σ.set a (Sum.inl (vs.set aux w))) = qhs σ := qhs_set hvs rfl
 refine QTri.gen h (by simp) (by show qhs σ ≤ qhs (σ.set a (Sum.inl (vs.set aux w))); rw [hsz]; exact Nat.le_refl _) fun p e R s mid args below meth c T locs cells slots C hcx X hR hF hL hC hn hc1 hsl => ?_
 obtain ⟨hx, hZ, hby, hml, hret, hown, hnm, hfr, hlo⟩ := hcx
 have hd2 : decode c.code pc = .ok (.putfield idx, 3) := by rw [hby]; exact hd
 obtain ⟨E, l1, Fs⟩ := hR.2.2 _ _ hvs
 obtain ⟨old, hold⟩ : ∃ old, vget vs aux = some old := by rw [vget_eq]; exact ⟨_, List.getElem?_eq_getElem b2⟩
 have lay : (Cond.lays cName cName (fNm aux) (fDs aux)).before a0 Z = true ∨ ((Cond.laysFinal cName cName (fNm aux) (fDs aux)).before a0 Z = true ∧ kName (pK m) = cName ∧ meth.name = "<init>") := by
  have q := (qw_lay W) aux hlt
  cases hf : fFin aux with
  | false => rw [hf] at q; exact Or.inl q
  | true =>
   rw [hf] at q r2
   simp at r2
   exact Or.inr ⟨q, by rw [r2.1]; exact kOne, by rw [hnm]; exact r2.2⟩
 obtain ⟨T₁, h₁, X₁, e₁, W₁, st⟩ := putF X hx hZ hown (host := "") (index := idx) (Or.inl (qw_fl W (pK m, idx, aux) hm)) Via.refl rfl (Fs aux old hlt hold) E lay ((qw_inst W)) (fPrs aux hlt) q2 q3 (g := mkF mid pc C (List.map (qv ad) (w :: .ref a :: S'))) rfl rfl hd2
 refine ⟨T₁, _, C, ?_, ?_, Fr.snoc X₁ hF (by rw [Ad.1 a b1]; exact Nat.le_add_right _ _), hL, hC, st⟩
 ·show Stand _ _ _ _ _ _ _ _ _ _ _ _ (cells + ((σ.set a (Sum.inl (vs.set aux w))).length - σ.length)) (slots + (qhs (σ.set a (Sum.inl (vs.set aux w))) - qhs σ))
  rw [hsz, Nat.sub_self, List.length_set, Nat.sub_self]
  exact X₁
 ·rw [e₁]
  refine QRep.set hR Ad W₁ hvs ⟨E.wr W₁, by simpa using l1, fun k u hk hu => ?_⟩
  rw [vget_set b2] at hu
  split at hu
  ·rename_i e; cases hu; rw [e]; exact (Fs aux old hlt hold).same W₁
  ·rename_i ne
   exact (Fs k u hk hu).other W₁ (Or.inr (slot_ne (laid_of W hk) (laid_of W hlt) (fun z => ne (fInj _ hk _ hlt z)) (fPrs _ hk) (fPrs _ hlt)))
theorem tyI_inv {ty : FieldType} (h : tyI ty = true) : ty = .int := by cases ty <;> simp [tyI] at h; rfl
theorem tyB_inv {ty : FieldType} (h : tyB ty = true) : ty = .boolean ∨ ty = .byte := by cases ty <;> simp [tyB] at h <;> simp
set_option maxHeartbeats 4000000 in
theorem QTri.iaload {pc aux : Nat} {L : QLoc} {S : List Value} {σ : QHeap} {st' : QSt} (h : QTri l Z n0 ad m st' v σ') (hc : pCode m pc = some (.iaload, aux)) (hs : qald (pc + 1) L S σ tyI = some st') : QTri l Z n0 ad m (pc, L, S, σ) v σ' := by
 have hd : decode (pBytes m) pc = .ok (.iaload, 1) := pDecN hc rfl
 obtain ⟨j, a, S', ty, xs, w, rfl, hx1, ht, hw, rfl⟩ := qald_inv hs
 obtain rfl := tyI_inv ht
 refine QTri.stack h fun p e R s mid args below meth c T locs cells slots C target hx hZ hby hown X hR hL k => ?_
 have hd2 : decode c.code pc = .ok (.iaload, 1) := by rw [hby]; exact hd
 obtain ⟨cl, A, hsl⟩ := hR.2.2 _ _ hx1
 obtain ⟨i1, i2⟩ := ald_in hsl hw
 exact X.iaload hx A.1 (State.isArrayOf_alike hZ.alike A.2.1) A.2.2 i1 i2 (g := mkF mid pc C (List.map (qv ad) (.int j :: .ref a :: S'))) rfl rfl hd2 _ k
set_option maxHeartbeats 4000000 in
theorem QTri.baload {pc aux : Nat} {L : QLoc} {S : List Value} {σ : QHeap} {st' : QSt} (h : QTri l Z n0 ad m st' v σ') (hc : pCode m pc = some (.baload, aux)) (hs : qald (pc + 1) L S σ tyB = some st') : QTri l Z n0 ad m (pc, L, S, σ) v σ' := by
 have hd : decode (pBytes m) pc = .ok (.baload, 1) := pDecN hc rfl
 obtain ⟨j, a, S', ty, xs, w, rfl, hx1, ht, hw, rfl⟩ := qald_inv hs
 refine QTri.stack h fun p e R s mid args below meth c T locs cells slots C target hx hZ hby hown X hR hL k => ?_
 have hd2 : decode c.code pc = .ok (.baload, 1) := by rw [hby]; exact hd
 obtain ⟨cl, A, hsl⟩ := hR.2.2 _ _ hx1
 obtain ⟨i1, i2⟩ := ald_in hsl hw
 rcases tyB_inv ht with rfl | rfl
 ·exact X.baloadBooleans hx A.1 (State.isArrayOf_alike hZ.alike A.2.1) A.2.2 i1 i2 (g := mkF mid pc C (List.map (qv ad) (.int j :: .ref a :: S'))) rfl rfl hd2 _ k
 ·exact X.baloadBytes hx A.1 (State.isArrayOf_alike hZ.alike A.2.1) A.2.2 i1 i2 (g := mkF mid pc C (List.map (qv ad) (.int j :: .ref a :: S'))) rfl rfl hd2 _ k
set_option maxHeartbeats 4000000 in
theorem QTri.laload {pc aux : Nat} {L : QLoc} {S : List Value} {σ : QHeap} {st' : QSt} (h : QTri l Z n0 ad m st' v σ') (hc : pCode m pc = some (.laload, aux)) (hs : qaldJ (pc + 1) L S σ = some st') : QTri l Z n0 ad m (pc, L, S, σ) v σ' := by
 have hd : decode (pBytes m) pc = .ok (.laload, 1) := pDecN hc rfl
 obtain ⟨j, a, S', xs, w, rfl, hx1, hw, rfl⟩ := qaldJ_inv hs
 refine QTri.stack h fun p e R s mid args below meth c T locs cells slots C target hx hZ hby hown X hR hL k => ?_
 have hd2 : decode c.code pc = .ok (.laload, 1) := by rw [hby]; exact hd
 obtain ⟨cl, A, hsl⟩ := hR.2.2 _ _ hx1
 obtain ⟨i1, i2⟩ := ald_in hsl hw
 exact X.laload hx A.1 (State.isArrayOf_alike hZ.alike A.2.1) A.2.2 i1 i2 (g := mkF mid pc C (List.map (qv ad) (.int j :: .ref a :: S'))) rfl rfl hd2 _ k
theorem QTri.stored (Ad : QAd n0 ad) {pc : Nat} {L : QLoc} {S S' : List Value} {σ : QHeap} {a j : Nat} {w : Value} {c d : QCell} (hx1 : hget σ a = some c) (b1 : k0 ≤ a) (hz : qsz d = qsz c) (h : QTri l Z n0 ad m (pc + 1, L, S', σ.set a d) v σ')
  (hs : ∀ (p : Program) (e : Env) (R : Room) (s : State) (mid : MethodId) (args : Array Value) (below : List Frame) (meth : Method) (c : Code) (T : State) (locs : List Loc) (cells slots : Nat) (C : Array Slot),
   QCx Z p R s mid meth c m → Stand p l e R s mid args below meth c T locs cells slots → QRep Z n0 ad T.heap σ →
   ∃ T' h', Stand p l e R s mid args below meth c T' (locs ++ [⟨ad a, j⟩]) cells slots ∧ T'.heap = h' ∧ Wr T.heap h' (ad a) j w ∧ QCellOk Z ad h' (ad a) d ∧ ∀ target, Steps p.tables e below (T'.setTop (mkF mid (pc + 1) C (S'.map (qv ad)))) target → Steps p.tables e below (T.setTop (mkF mid pc C (S.map (qv ad)))) target) :
  QTri l Z n0 ad m (pc, L, S, σ) v σ' := by
 have hsz : qhs (σ.set a d) = qhs σ := qhs_set hx1 hz
 refine QTri.gen h (by simp) (by show qhs σ ≤ qhs (σ.set a d); rw [hsz]; exact Nat.le_refl _) fun p e R s mid args below meth c T locs cells slots C hcx X hR hF hL hC hn hc1 hsl => ?_
 obtain ⟨T₁, h₁, X₁, e₁, W₁, Q₁, st⟩ := hs p e R s mid args below meth c T locs cells slots C hcx X hR
 refine ⟨T₁, _, C, ?_, ?_, Fr.snoc X₁ hF (by rw [Ad.1 a b1]; exact Nat.le_add_right _ _), hL, hC, st⟩
 ·show Stand _ _ _ _ _ _ _ _ _ _ _ _ (cells + ((σ.set a d).length - σ.length)) (slots + (qhs (σ.set a d) - qhs σ))
  rw [hsz, Nat.sub_self, List.length_set, Nat.sub_self]
  exact X₁
 ·rw [e₁]
  exact QRep.set hR Ad W₁ hx1 Q₁
set_option maxHeartbeats 4000000 in
theorem QTri.iastore (Ad : QAd n0 ad) {pc aux : Nat} {L : QLoc} {S : List Value} {σ : QHeap} {st' : QSt} (h : QTri l Z n0 ad m st' v σ') (hc : pCode m pc = some (.iastore, aux)) (hs : qast (pc + 1) L S σ tyI = some st') : QTri l Z n0 ad m (pc, L, S, σ) v σ' := by
 have hd : decode (pBytes m) pc = .ok (.iastore, 1) := pDecN hc rfl
 obtain ⟨w, j, a, S', ty, xs, ys, rfl, hx1, ht, b1, hw, rfl⟩ := qast_inv hs
 obtain rfl := tyI_inv ht
 refine QTri.stored Ad (j := j.toNatClampNeg) (w := .int w) hx1 b1 (by rw [(aset_inv hw).2.2]; simp [qsz]) h fun p e R s mid args below meth c T locs cells slots C hcx X hR => ?_
 have hd2 : decode c.code pc = .ok (.iastore, 1) := by rw [hcx.2.2.1]; exact hd
 obtain ⟨cl, A, hsl⟩ := hR.2.2 _ _ hx1
 obtain ⟨i1, i2⟩ := ast_in hsl hw
 obtain ⟨T₁, h₁, X₁, e₁, W₁, st⟩ := stI X hcx.1 hcx.2.1 rfl A i1 (g := mkF mid pc C (List.map (qv ad) (.int w :: .int j :: .ref a :: S'))) rfl rfl hd2
 exact ⟨T₁, h₁, X₁, e₁, W₁, ⟨_, A.same W₁, i2⟩, st⟩
set_option maxHeartbeats 4000000 in
theorem QTri.bastore (Ad : QAd n0 ad) {pc aux : Nat} {L : QLoc} {S : List Value} {σ : QHeap} {st' : QSt} (h : QTri l Z n0 ad m st' v σ') (hc : pCode m pc = some (.bastore, aux)) (hs : qast (pc + 1) L S σ tyB = some st') : QTri l Z n0 ad m (pc, L, S, σ) v σ' := by
 have hd : decode (pBytes m) pc = .ok (.bastore, 1) := pDecN hc rfl
 obtain ⟨w, j, a, S', ty, xs, ys, rfl, hx1, ht, b1, hw, rfl⟩ := qast_inv hs
 refine QTri.stored Ad (j := j.toNatClampNeg) (w := .int (qnar ty w)) hx1 b1 (by rw [(aset_inv hw).2.2]; simp [qsz]) h fun p e R s mid args below meth c T locs cells slots C hcx X hR => ?_
 have hd2 : decode c.code pc = .ok (.bastore, 1) := by rw [hcx.2.2.1]; exact hd
 obtain ⟨cl, A, hsl⟩ := hR.2.2 _ _ hx1
 obtain ⟨i1, i2⟩ := ast_in hsl hw
 rcases tyB_inv ht with rfl | rfl
 ·obtain ⟨T₁, h₁, X₁, e₁, W₁, st⟩ := stZ X hcx.1 hcx.2.1 rfl A i1 (g := mkF mid pc C (List.map (qv ad) (.int w :: .int j :: .ref a :: S'))) rfl rfl hd2
  exact ⟨T₁, h₁, X₁, e₁, W₁, ⟨_, A.same W₁, i2⟩, st⟩
 ·obtain ⟨T₁, h₁, X₁, e₁, W₁, st⟩ := stB X hcx.1 hcx.2.1 rfl A i1 (g := mkF mid pc C (List.map (qv ad) (.int w :: .int j :: .ref a :: S'))) rfl rfl hd2
  exact ⟨T₁, h₁, X₁, e₁, W₁, ⟨_, A.same W₁, i2⟩, st⟩
set_option maxHeartbeats 4000000 in
theorem QTri.lastore (Ad : QAd n0 ad) {pc aux : Nat} {L : QLoc} {S : List Value} {σ : QHeap} {st' : QSt} (h : QTri l Z n0 ad m st' v σ') (hc : pCode m pc = some (.lastore, aux)) (hs : qastJ (pc + 1) L S σ = some st') : QTri l Z n0 ad m (pc, L, S, σ) v σ' := by
 have hd : decode (pBytes m) pc = .ok (.lastore, 1) := pDecN hc rfl
 obtain ⟨w, j, a, S', xs, ys, rfl, hx1, b1, hw, rfl⟩ := qastJ_inv hs
 refine QTri.stored Ad (j := j.toNatClampNeg) (w := .long w) hx1 b1 (by rw [(aset_inv hw).2.2]; simp [qsz]) h fun p e R s mid args below meth c T locs cells slots C hcx X hR => ?_
 have hd2 : decode c.code pc = .ok (.lastore, 1) := by rw [hcx.2.2.1]; exact hd
 obtain ⟨cl, A, hsl⟩ := hR.2.2 _ _ hx1
 obtain ⟨i1, i2⟩ := ast_in hsl hw
 obtain ⟨T₁, h₁, X₁, e₁, W₁, st⟩ := stJ X hcx.1 hcx.2.1 rfl A i1 (g := mkF mid pc C (List.map (qv ad) (.long w :: .int j :: .ref a :: S'))) rfl rfl hd2
 exact ⟨T₁, h₁, X₁, e₁, W₁, ⟨_, A.same W₁, i2⟩, st⟩
set_option maxHeartbeats 4000000 in
theorem QTri.alen {pc aux : Nat} {L : QLoc} {S : List Value} {σ : QHeap} {st' : QSt} (h : QTri l Z n0 ad m st' v σ') (hc : pCode m pc = some (.arraylength, aux)) (hs : qlen (pc + 1) L S σ = some st') : QTri l Z n0 ad m (pc, L, S, σ) v σ' := by
 have hd : decode (pBytes m) pc = .ok (.arraylength, 1) := pDecN hc rfl
 obtain ⟨a, S', n, rfl, hx1, rfl⟩ := qlen_inv hs
 refine QTri.stack h fun p e R s mid args below meth c T locs cells slots C target hx hZ hby hown X hR hL k => ?_
 have hd2 : decode c.code pc = .ok (.arraylength, 1) := by rw [hby]; exact hd
 rcases hx1 with ⟨ty, xs, hx1, rfl⟩ | ⟨xs, hx1, rfl⟩
 ·obtain ⟨cl, A, hsl⟩ := hR.2.2 _ _ hx1
  have e1 : cl.slots.size = xs.length := by rw [hsl]; simp
  rw [← e1] at k
  exact X.arraylength hx A.1 (State.isArrayOf_alike hZ.alike A.2.1) (g := mkF mid pc C (List.map (qv ad) (.ref a :: S'))) rfl rfl hd2 _ k
 ·obtain ⟨cl, A, hsl⟩ := hR.2.2 _ _ hx1
  have e1 : cl.slots.size = xs.length := by rw [hsl]; simp
  rw [← e1] at k
  exact X.arraylength hx A.1 (State.isArrayOf_alike hZ.alike A.2.1) (g := mkF mid pc C (List.map (qv ad) (.ref a :: S'))) rfl rfl hd2 _ k
set_option maxHeartbeats 4000000 in
theorem QTri.newObj (Ad : QAd n0 ad) (W : QW Z a0) {pc idx aux : Nat} {L : QLoc} {S : List Value} {σ : QHeap} (h : QTri l Z n0 ad m (pc + 3, L, .ref σ.length :: S, σ ++ [.inl cDef]) v σ') (hc : pCode m pc = some (.new idx, aux)) : QTri l Z n0 ad m (pc, L, S, σ) v σ' := by
 have hd : decode (pBytes m) pc = .ok (.new idx, 3) := pDecN hc rfl
 have hm := mem_of_contains (show lkN.contains (pK m, idx) = true from pRest hc)
 refine QTri.gen h (by simp) (by simp [qhs_app]) fun p e R s mid args below meth c T locs cells slots C hcx X hR hF hL hC hn hc1 hsl => ?_
 obtain ⟨hx, hZ, hby, hml, hret, hown, hnm, hfr, hlo⟩ := hcx
 have hd2 : decode c.code pc = .ok (.new idx, 3) := by rw [hby]; exact hd
 simp only [List.length_append, List.length_singleton, Nat.add_sub_cancel_left, qgrow, qsz] at hc1 hsl ⊢
 obtain ⟨T₁, h₁, X₁, e₁, E₁, A₁, D₁, -, st⟩ := newO X hx hZ hown (index := idx) (qw_nw W (pK m, idx) hm) ((qw_inst W)) ((qw_init W)) rfl (g := mkF mid pc C (S.map (qv ad))) rfl hd2 hc1 hsl
 have hsz : h₁.size = T.heap.size + 1 := by
  have q1 := X₁.heapSize
  have q2 : T.heap.size < h₁.size := A₁.lt
  have q3 : T.heap.size = n0 + (σ.length - k0) := hR.2.1
  rw [e₁] at q1
  have : n0 + (σ.length - k0) = s.heap.size + cells := hn
  omega
 refine ⟨T₁, locs, C, X₁, ?_, hF, hL, hC, fun target q => ?_⟩
 ·rw [e₁]
  refine QRep.push hR Ad E₁ hsz ⟨A₁, cDefL, fun k u hk hu => ?_⟩
  rw [cDefs k hk] at hu
  cases hu
  have e3 : qv ad (defaultValue (fTy k)) = defaultValue (fTy k) := by
   cases hq : defaultValue (fTy k) with
   | ref a => exact absurd hq (fDef k hk a)
   | _ => rfl
  rw [e3]
  exact D₁ (laid_of W hk) (fPrs k hk)
 ·refine st _ ?_
  have e2 : ad σ.length = T.heap.size := by rw [Ad.1 _ hR.1]; exact hR.2.1.symm
  simp only [List.map_cons, qv, e2] at q
  exact q
set_option maxHeartbeats 8000000 in
theorem QTri.step (Ad : QAd n0 ad) (W : QW Z a0) {st st' : QSt} (h : QTri l Z n0 ad m st' v σ') (hs : qstep m st = some st') : QTri l Z n0 ad m st v σ' := by
 obtain ⟨pc, L, S, σ⟩ := st
 unfold qstep at hs
 dsimp only at hs
 split at hs
 rotate_left
 ·cases hs
 rename_i i aux hc
 have hd := pDecN hc rfl
 have hr := pRest hc
 unfold qexec at hs
 split at hs
 ·-- aload_n
  obtain ⟨w, h1, h2, rfl⟩ := qload_inv hs
  obtain ⟨a, rfl⟩ := isR_inv h2
  exact QTri.stack h fun p e R s mid args below meth c T locs cells slots C target hx hZ hby hown X hR hL k => XS.aloadN X.here hx rfl (hb hby hd) (hL.2.1 _ _ h1) rfl k
 ·obtain ⟨w, h1, h2, rfl⟩ := qload_inv hs
  obtain ⟨a, rfl⟩ := isR_inv h2
  exact QTri.stack h fun p e R s mid args below meth c T locs cells slots C target hx hZ hby hown X hR hL k => XS.aload X.here hx rfl (hb hby hd) (hL.2.1 _ _ h1) rfl k
 ·obtain ⟨w, h1, h2, rfl⟩ := qload_inv hs
  obtain ⟨a, rfl⟩ := isI_inv h2
  exact QTri.stack h fun p e R s mid args below meth c T locs cells slots C target hx hZ hby hown X hR hL k => XS.iloadN X.here hx rfl (hb hby hd) (hL.2.1 _ _ h1) k
 ·obtain ⟨w, h1, h2, rfl⟩ := qload_inv hs
  obtain ⟨a, rfl⟩ := isI_inv h2
  exact QTri.stack h fun p e R s mid args below meth c T locs cells slots C target hx hZ hby hown X hR hL k => XS.iload X.here hx rfl (hb hby hd) (hL.2.1 _ _ h1) k
 ·obtain ⟨w, h1, h2, rfl⟩ := qload_inv hs
  obtain ⟨a, rfl⟩ := isJ_inv h2
  exact QTri.stack h fun p e R s mid args below meth c T locs cells slots C target hx hZ hby hown X hR hL k => XT.lloadN X.here hx rfl (hb hby hd) (hL.2.1 _ _ h1) k
 ·obtain ⟨w, h1, h2, rfl⟩ := qload_inv hs
  obtain ⟨a, rfl⟩ := isJ_inv h2
  exact QTri.stack h fun p e R s mid args below meth c T locs cells slots C target hx hZ hby hown X hR hL k => XT.lload X.here hx rfl (hb hby hd) (hL.2.1 _ _ h1) k
 ·cases hs -- iconst
  exact QTri.stack h fun p e R s mid args below meth c T locs cells slots C target hx hZ hby hown X hR hL k => XS.iconst X.here hx rfl (hb hby hd) k
 ·cases hs
  exact QTri.stack h fun p e R s mid args below meth c T locs cells slots C target hx hZ hby hown X hR hL k => XS.bipush X.here hx rfl (hb hby hd) k
 ·cases hs
  exact QTri.stack h fun p e R s mid args below meth c T locs cells slots C target hx hZ hby hown X hR hL k => XS.sipush X.here hx rfl (hb hby hd) k
 ·cases hs
  exact QTri.stack h fun p e R s mid args below meth c T locs cells slots C target hx hZ hby hown X hR hL k => XT.lconst X.here hx rfl (hb hby hd) k
 ·-- ldc
  unfold qldc at hs
  split at hs
  ·rename_i w hw
   cases hs
   obtain ⟨x, hx1, hx2⟩ := qw_cI W (pK m, _, aux) (mem_of_contains (show lkC.contains (pK m, _, aux) = true from hr))
   rw [show vget cK aux = some w from hw] at hx1
   cases hx1
   exact QTri.stack h fun p e R s mid args below meth c T locs cells slots C target hx hZ hby hown X hR hL k => X.ldcI hx hown (mv hZ hx2) rfl (hb hby hd) k
  ·cases hs
 ·unfold qldc at hs
  split at hs
  ·rename_i w hw
   cases hs
   obtain ⟨x, hx1, hx2⟩ := qw_cJ W (pK m, _, aux) (mem_of_contains (show lkD.contains (pK m, _, aux) = true from hr))
   rw [show vget cK aux = some w from hw] at hx1
   cases hx1
   exact QTri.stack h fun p e R s mid args below meth c T locs cells slots C target hx hZ hby hown X hR hL k => X.ldc2J hx hown (mv hZ hx2) rfl (hb hby hd) k
  ·cases hs
 ·-- istore_n
  obtain ⟨w, S', L', rfl, h2, h3, rfl⟩ := qstore_inv hs
  obtain ⟨a, rfl⟩ := isI_inv h2
  exact QTri.frame h fun p e R s mid args below meth c T locs cells slots C hcx X hR hL hC => by
   obtain ⟨D, d1, d2, d3⟩ := store_ok hL h3
   exact ⟨D, d2, d3.trans hC, fun target k => XS.istoreN X.here hcx.1 rfl (hb hcx.2.2.1 hd) rfl d1 k⟩
 ·obtain ⟨w, S', L', rfl, h2, h3, rfl⟩ := qstore_inv hs
  obtain ⟨a, rfl⟩ := isI_inv h2
  exact QTri.frame h fun p e R s mid args below meth c T locs cells slots C hcx X hR hL hC => by
   obtain ⟨D, d1, d2, d3⟩ := store_ok hL h3
   exact ⟨D, d2, d3.trans hC, fun target k => XS.istore X.here hcx.1 rfl (hb hcx.2.2.1 hd) rfl d1 k⟩
 ·obtain ⟨w, S', L', rfl, h2, h3, rfl⟩ := qstore_inv hs
  obtain ⟨a, rfl⟩ := isJ_inv h2
  exact QTri.frame h fun p e R s mid args below meth c T locs cells slots C hcx X hR hL hC => by
   obtain ⟨D, d1, d2, d3⟩ := store_ok hL h3
   exact ⟨D, d2, d3.trans hC, fun target k => XT.lstoreN X.here hcx.1 rfl (hb hcx.2.2.1 hd) rfl d1 k⟩
 ·obtain ⟨w, S', L', rfl, h2, h3, rfl⟩ := qstore_inv hs
  obtain ⟨a, rfl⟩ := isJ_inv h2
  exact QTri.frame h fun p e R s mid args below meth c T locs cells slots C hcx X hR hL hC => by
   obtain ⟨D, d1, d2, d3⟩ := store_ok hL h3
   exact ⟨D, d2, d3.trans hC, fun target k => XT.lstore X.here hcx.1 rfl (hb hcx.2.2.1 hd) rfl d1 k⟩
 ·obtain ⟨w, S', L', rfl, h2, h3, rfl⟩ := qstore_inv hs
  obtain ⟨a, rfl⟩ := isR_inv h2
  exact QTri.frame h fun p e R s mid args below meth c T locs cells slots C hcx X hR hL hC => by
   obtain ⟨D, d1, d2, d3⟩ := store_ok hL h3
   exact ⟨D, d2, d3.trans hC, fun target k => XS.astoreN X.here hcx.1 rfl (hb hcx.2.2.1 hd) rfl rfl d1 k⟩
 ·obtain ⟨w, S', L', rfl, h2, h3, rfl⟩ := qstore_inv hs
  obtain ⟨a, rfl⟩ := isR_inv h2
  exact QTri.frame h fun p e R s mid args below meth c T locs cells slots C hcx X hR hL hC => by
   obtain ⟨D, d1, d2, d3⟩ := store_ok hL h3
   exact ⟨D, d2, d3.trans hC, fun target k => XS.astore X.here hcx.1 rfl (hb hcx.2.2.1 hd) rfl rfl d1 k⟩
 ·-- iinc
  unfold qinc at hs
  split at hs
  ·rename_i x hx1
   split at hs
   ·rename_i L' hL'
    cases hs
    exact QTri.frame h fun p e R s mid args below meth c T locs cells slots C hcx X hR hL hC => by
     obtain ⟨D, d1, d2, d3⟩ := store_ok hL hL'
     exact ⟨D, d2, d3.trans hC, fun target k => XS.iinc X.here hcx.1 rfl (hb hcx.2.2.1 hd) (hL.2.1 _ _ hx1) d1 k⟩
   ·cases hs
  ·cases hs
 ·obtain ⟨x, y, S', rfl, rfl⟩ := qbin_inv hs -- iadd
  exact QTri.stack h fun p e R s mid args below meth c T locs cells slots C target hx hZ hby hown X hR hL k => XS.iadd X.here hx rfl (hb hby hd) rfl k
 ·obtain ⟨x, y, S', rfl, rfl⟩ := qbin_inv hs
  exact QTri.stack h fun p e R s mid args below meth c T locs cells slots C target hx hZ hby hown X hR hL k => XS.isub X.here hx rfl (hb hby hd) rfl k
 ·obtain ⟨x, y, S', rfl, rfl⟩ := qbin_inv hs
  exact QTri.stack h fun p e R s mid args below meth c T locs cells slots C target hx hZ hby hown X hR hL k => XS.imul X.here hx rfl (hb hby hd) rfl k
 ·obtain ⟨x, y, S', rfl, rfl⟩ := qbin_inv hs
  exact QTri.stack h fun p e R s mid args below meth c T locs cells slots C target hx hZ hby hown X hR hL k => XS.iand X.here hx rfl (hb hby hd) rfl k
 ·obtain ⟨x, y, S', rfl, rfl⟩ := qbin_inv hs
  exact QTri.stack h fun p e R s mid args below meth c T locs cells slots C target hx hZ hby hown X hR hL k => XT.ior X.here hx rfl (hb hby hd) rfl k
 ·obtain ⟨x, y, S', rfl, rfl⟩ := qbin_inv hs
  exact QTri.stack h fun p e R s mid args below meth c T locs cells slots C target hx hZ hby hown X hR hL k => XT.ixor X.here hx rfl (hb hby hd) rfl k
 ·obtain ⟨x, y, S', rfl, rfl⟩ := qbin_inv hs
  exact QTri.stack h fun p e R s mid args below meth c T locs cells slots C target hx hZ hby hown X hR hL k => XT.ishl X.here hx rfl (hb hby hd) rfl k
 ·obtain ⟨x, y, S', rfl, rfl⟩ := qbin_inv hs
  exact QTri.stack h fun p e R s mid args below meth c T locs cells slots C target hx hZ hby hown X hR hL k => XT.ishr X.here hx rfl (hb hby hd) rfl k
 ·obtain ⟨x, y, S', rfl, rfl⟩ := qbin_inv hs
  exact QTri.stack h fun p e R s mid args below meth c T locs cells slots C target hx hZ hby hown X hR hL k => XT.iushr X.here hx rfl (hb hby hd) rfl k
 ·obtain ⟨x, y, z, S', rfl, hz, rfl⟩ := qbino_inv hs -- idiv
  unfold qdiv at hz
  split at hz
  ·cases hz
  ·rename_i hy
   cases hz
   exact QTri.stack h fun p e R s mid args below meth c T locs cells slots C target hx hZ hby hown X hR hL k => XS.idiv X.here hx rfl (hb hby hd) rfl hy k
 ·obtain ⟨x, y, z, S', rfl, hz, rfl⟩ := qbino_inv hs
  unfold qrem at hz
  split at hz
  ·cases hz
  ·rename_i hy
   cases hz
   exact QTri.stack h fun p e R s mid args below meth c T locs cells slots C target hx hZ hby hown X hR hL k => iremM X hx rfl (hb hby hd) rfl hy k
 ·obtain ⟨x, S', rfl, rfl⟩ := quni_inv hs -- ineg
  exact QTri.stack h fun p e R s mid args below meth c T locs cells slots C target hx hZ hby hown X hR hL k => XS.ineg X.here hx rfl (hb hby hd) rfl k
 ·obtain ⟨x, S', rfl, rfl⟩ := quni_inv hs
  exact QTri.stack h fun p e R s mid args below meth c T locs cells slots C target hx hZ hby hown X hR hL k => XT.i2l X.here hx rfl (hb hby hd) rfl k
 ·obtain ⟨x, S', rfl, rfl⟩ := quni_inv hs
  exact QTri.stack h fun p e R s mid args below meth c T locs cells slots C target hx hZ hby hown X hR hL k => XT.i2b X.here hx rfl (hb hby hd) rfl k
 ·obtain ⟨x, S', rfl, rfl⟩ := quniJ_inv hs
  exact QTri.stack h fun p e R s mid args below meth c T locs cells slots C target hx hZ hby hown X hR hL k => XT.l2i X.here hx rfl (hb hby hd) rfl k
 ·obtain ⟨x, S', rfl, rfl⟩ := quniJ_inv hs
  exact QTri.stack h fun p e R s mid args below meth c T locs cells slots C target hx hZ hby hown X hR hL k => XT.lneg X.here hx rfl (hb hby hd) rfl k
 ·obtain ⟨x, y, S', rfl, rfl⟩ := qbinJ_inv hs
  exact QTri.stack h fun p e R s mid args below meth c T locs cells slots C target hx hZ hby hown X hR hL k => XT.ladd X.here hx rfl (hb hby hd) rfl k
 ·obtain ⟨x, y, S', rfl, rfl⟩ := qbinJ_inv hs
  exact QTri.stack h fun p e R s mid args below meth c T locs cells slots C target hx hZ hby hown X hR hL k => XT.lsub X.here hx rfl (hb hby hd) rfl k
 ·obtain ⟨x, y, S', rfl, rfl⟩ := qbinJ_inv hs
  exact QTri.stack h fun p e R s mid args below meth c T locs cells slots C target hx hZ hby hown X hR hL k => XT.lmul X.here hx rfl (hb hby hd) rfl k
 ·obtain ⟨x, y, S', rfl, rfl⟩ := qbinJ_inv hs
  exact QTri.stack h fun p e R s mid args below meth c T locs cells slots C target hx hZ hby hown X hR hL k => XT.land X.here hx rfl (hb hby hd) rfl k
 ·obtain ⟨x, y, S', rfl, rfl⟩ := qbinJ_inv hs
  exact QTri.stack h fun p e R s mid args below meth c T locs cells slots C target hx hZ hby hown X hR hL k => XT.lor X.here hx rfl (hb hby hd) rfl k
 ·obtain ⟨x, y, S', rfl, rfl⟩ := qbinJ_inv hs
  exact QTri.stack h fun p e R s mid args below meth c T locs cells slots C target hx hZ hby hown X hR hL k => XT.lxor X.here hx rfl (hb hby hd) rfl k
 ·obtain ⟨x, y, S', rfl, rfl⟩ := qshJ_inv hs
  exact QTri.stack h fun p e R s mid args below meth c T locs cells slots C target hx hZ hby hown X hR hL k => XT.lshl X.here hx rfl (hb hby hd) rfl k
 ·obtain ⟨x, y, S', rfl, rfl⟩ := qshJ_inv hs
  exact QTri.stack h fun p e R s mid args below meth c T locs cells slots C target hx hZ hby hown X hR hL k => XT.lshr X.here hx rfl (hb hby hd) rfl k
 ·obtain ⟨x, y, S', rfl, rfl⟩ := qshJ_inv hs
  exact QTri.stack h fun p e R s mid args below meth c T locs cells slots C target hx hZ hby hown X hR hL k => XT.lushr X.here hx rfl (hb hby hd) rfl k
 ·split at hs -- lcmp
  ·cases hs
   exact QTri.stack h fun p e R s mid args below meth c T locs cells slots C target hx hZ hby hown X hR hL k => XT.lcmp X.here hx rfl (hb hby hd) rfl k
  ·cases hs
 ·cases hs -- goto
  obtain ⟨t1, t2⟩ := qtgt_spec hr
  exact QTri.stack h fun p e R s mid args below meth c T locs cells slots C target hx hZ hby hown X hR hL k => XS.goto X.here hx rfl rfl (hb hby hd) t1 t2 k
 ·obtain ⟨x, S', rfl, rfl⟩ := qif_inv hs
  obtain ⟨t1, t2⟩ := qtgt_spec hr
  cases hh : ifCond.holds _ x with
  | true => rw [hh] at h; exact QTri.stack h fun p e R s mid args below meth c T locs cells slots C target hx hZ hby hown X hR hL k => XS.ifYes X.here hx rfl rfl (hb hby hd) rfl hh t1 t2 k
  | false => rw [hh] at h; exact QTri.stack h fun p e R s mid args below meth c T locs cells slots C target hx hZ hby hown X hR hL k => XS.ifNo X.here hx rfl (hb hby hd) rfl hh k
 ·obtain ⟨x, y, S', rfl, rfl⟩ := qicmp_inv hs
  obtain ⟨t1, t2⟩ := qtgt_spec hr
  cases hh : if_icmp.holds _ x y with
  | true => rw [hh] at h; exact QTri.stack h fun p e R s mid args below meth c T locs cells slots C target hx hZ hby hown X hR hL k => XS.icmpYes X.here hx rfl rfl (hb hby hd) rfl hh t1 t2 k
  | false => rw [hh] at h; exact QTri.stack h fun p e R s mid args below meth c T locs cells slots C target hx hZ hby hown X hR hL k => XS.icmpNo X.here hx rfl (hb hby hd) rfl hh k
 ·unfold qdup at hs
  split at hs
  ·cases hs
   exact QTri.stack h fun p e R s mid args below meth c T locs cells slots C target hx hZ hby hown X hR hL k => XS.dup X.here hx rfl (hb hby hd) rfl rfl k
  ·cases hs
   exact QTri.stack h fun p e R s mid args below meth c T locs cells slots C target hx hZ hby hown X hR hL k => XS.dup X.here hx rfl (hb hby hd) rfl rfl k
  ·cases hs
 ·unfold qdup2 at hs
  split at hs
  ·cases hs
   exact QTri.stack h fun p e R s mid args below meth c T locs cells slots C target hx hZ hby hown X hR hL k => XT.dup2 X.here hx rfl (hb hby hd) rfl rfl rfl k
  ·cases hs
   exact QTri.stack h fun p e R s mid args below meth c T locs cells slots C target hx hZ hby hown X hR hL k => XT.dup2 X.here hx rfl (hb hby hd) rfl rfl rfl k
  ·cases hs
   exact QTri.stack h fun p e R s mid args below meth c T locs cells slots C target hx hZ hby hown X hR hL k => XT.dup2L X.here hx rfl (hb hby hd) rfl k
  ·cases hs
 ·unfold qpop at hs
  split at hs
  ·cases hs
   exact QTri.stack h fun p e R s mid args below meth c T locs cells slots C target hx hZ hby hown X hR hL k => XT.pop X.here hx rfl (hb hby hd) rfl rfl k
  ·cases hs
   exact QTri.stack h fun p e R s mid args below meth c T locs cells slots C target hx hZ hby hown X hR hL k => XT.pop X.here hx rfl (hb hby hd) rfl rfl k
  ·cases hs
 ·exact QTri.getfield W h hc hs
 ·exact QTri.putfield Ad W h hc hs
 ·exact QTri.iaload h hc hs
 ·exact QTri.baload h hc hs
 ·exact QTri.laload h hc hs
 ·exact QTri.iastore Ad h hc hs
 ·exact QTri.bastore Ad h hc hs
 ·exact QTri.lastore Ad h hc hs
 ·exact QTri.alen h hc hs
 ·-- newarray
  unfold qnewA at hs
  split at hs
  ·split at hs
   ·obtain ⟨k, hk, hs⟩ := Option.bind_eq_some_iff.mp hs
    cases hs
    exact QTri.newArr (c := .inr (.inl (.int, List.replicate k 0))) Ad W hk hc (by simp [qsz]) (fun h' a cA A => ⟨_, A, by simp [newA, (qnew_inv hk).2.1]; exact Or.inr rfl⟩) h
   ·obtain ⟨k, hk, hs⟩ := Option.bind_eq_some_iff.mp hs
    cases hs
    exact QTri.newArr (c := .inr (.inl (.boolean, List.replicate k 0))) Ad W hk hc (by simp [qsz]) (fun h' a cA A => ⟨_, A, by simp [newA, (qnew_inv hk).2.1]; exact Or.inr rfl⟩) h
   ·obtain ⟨k, hk, hs⟩ := Option.bind_eq_some_iff.mp hs
    cases hs
    exact QTri.newArr (c := .inr (.inl (.byte, List.replicate k 0))) Ad W hk hc (by simp [qsz]) (fun h' a cA A => ⟨_, A, by simp [newA, (qnew_inv hk).2.1]; exact Or.inr rfl⟩) h
   ·obtain ⟨k, hk, hs⟩ := Option.bind_eq_some_iff.mp hs
    cases hs
    exact QTri.newArr (c := .inr (.inr (List.replicate k 0))) Ad W hk hc (by simp [qsz]) (fun h' a cA A => ⟨_, A, by simp [newA, (qnew_inv hk).2.1]; exact Or.inr rfl⟩) h
   ·cases hs
  ·cases hs
 ·cases hs; exact QTri.newObj Ad W h hc
 ·cases hs
theorem QTri.steps (Ad : QAd n0 ad) (W : QW Z a0) : ∀ (n : Nat) {st st' : QSt}, qsteps m n st = some st' → QTri l Z n0 ad m st' v σ' → QTri l Z n0 ad m st v σ'
 | 0, st, st', h, k => by cases h; exact k
 | n + 1, st, st', h, k => by
  simp only [qsteps] at h
  split at h
  ·rename_i st₁ h1
   exact QTri.step Ad W (QTri.steps Ad W n h k) h1
  ·cases h
def lmask : List Bool → QLoc → QLoc
 | b :: t, x :: u => (bif b then x else none) :: lmask t u
 | _, L => L.map fun _ => none
theorem lmask_len : ∀ (b : List Bool) (L : QLoc), (lmask b L).length = L.length
 | [], L => by simp [lmask]
 | _ :: _, [] => by simp [lmask]
 | _ :: t, _ :: u => by simp [lmask, lmask_len t u]
theorem lmask_get : ∀ (b : List Bool) (L : QLoc) (k : Nat) (v : Value), lget (lmask b L) k = some v → lget L k = some v
 | [], L, k, v, h => by
  simp only [lmask, lget_eq, List.getElem?_map] at h
  cases hq : L[k]? <;> simp [hq] at h
 | _ :: _, [], k, v, h => by simp [lmask, lget] at h
 | b :: t, x :: u, 0, v, h => by
  simp only [lmask, lget] at h ⊢
  cases b
  ·cases h
  ·exact h
 | b :: t, x :: u, k + 1, v, h => by
  simp only [lmask, lget] at h ⊢
  exact lmask_get t u k v h
theorem QTri.mask {pc : Nat} {L : QLoc} {S : List Value} {σ : QHeap} (b : List Bool) (h : QTri l Z n0 ad m (pc, lmask b L, S, σ) v σ') : QTri l Z n0 ad m (pc, L, S, σ) v σ' :=
 QTri.frame h fun p e R s mid args below meth c T locs cells slots C hcx X hR hL hC => ⟨C, ⟨by rw [lmask_len]; exact hL.1, fun k u hk => hL.2.1 k u (lmask_get b L k u hk), hL.2.2⟩, hC, fun target k => k⟩
theorem QTri.ret0 {pc aux : Nat} {L : QLoc} {σ : QHeap} (hc : pCode m pc = some (.return_, aux)) (hr : pRet m = none) : QTri l Z n0 ad m (pc, L, [], σ) none σ :=
 have hd : decode (pBytes m) pc = .ok (.return_, 1) := pDecN hc rfl
 ⟨Nat.le_refl _, Nat.le_refl _, fun p e R s mid args below meth c T locs cells slots C hcx X hR hF hL hC hn hc1 hsl => ⟨T, locs, by simpa using X, hR, hF, fun fs hf => X.returnOut hcx.1 (hcx.2.2.2.2.1.trans hr) (hb hcx.2.2.1 hd) hf⟩⟩
theorem QTri.retI {pc aux : Nat} {L : QLoc} {S : List Value} {σ : QHeap} {x : Int32} (hc : pCode m pc = some (.ireturn, aux)) (hr : pRet m = some .int) : QTri l Z n0 ad m (pc, L, .int x :: S, σ) (some (.int x)) σ :=
 have hd : decode (pBytes m) pc = .ok (.ireturn, 1) := pDecN hc rfl
 ⟨Nat.le_refl _, Nat.le_refl _, fun p e R s mid args below meth c T locs cells slots C hcx X hR hF hL hC hn hc1 hsl => ⟨T, locs, by simpa using X, hR, hF, fun fs hf => Jvm.RoadKit.retI X hcx.1 (hcx.2.2.2.2.1.trans hr) (hb hcx.2.2.1 hd) hf⟩⟩
theorem QTri.retZ {pc aux : Nat} {L : QLoc} {S : List Value} {σ : QHeap} {x : Int32} (hc : pCode m pc = some (.ireturn, aux)) (hr : pRet m = some .boolean) : QTri l Z n0 ad m (pc, L, .int x :: S, σ) (some (.int (x &&& 1))) σ :=
 have hd : decode (pBytes m) pc = .ok (.ireturn, 1) := pDecN hc rfl
 ⟨Nat.le_refl _, Nat.le_refl _, fun p e R s mid args below meth c T locs cells slots C hcx X hR hF hL hC hn hc1 hsl => ⟨T, locs, by simpa using X, hR, hF, fun fs hf => retN X hcx.1 (t := .boolean) (hcx.2.2.2.2.1.trans hr) (by simp) (hb hcx.2.2.1 hd) hf⟩⟩
theorem QTri.retJ {pc aux : Nat} {L : QLoc} {S : List Value} {σ : QHeap} {x : Int64} (hc : pCode m pc = some (.lreturn, aux)) (hr : pRet m = some .long) : QTri l Z n0 ad m (pc, L, .long x :: S, σ) (some (.long x)) σ :=
 have hd : decode (pBytes m) pc = .ok (.lreturn, 1) := pDecN hc rfl
 ⟨Nat.le_refl _, Nat.le_refl _, fun p e R s mid args below meth c T locs cells slots C hcx X hR hF hL hC hn hc1 hsl => ⟨T, locs, by simpa using X, hR, hF, fun fs hf => retOut X hcx.1 (t := .long) (hcx.2.2.2.2.1.trans hr) rfl (Or.inr (Or.inl ⟨rfl, rfl, _, rfl⟩)) (hb hcx.2.2.1 hd) hf⟩⟩
def LOk (ad : Nat → Addr) (L : QLoc) (C : List Slot) : Prop :=
 L.length = C.length ∧ (∀ k v, lget L k = some v → C[k]? = some (.val (qv ad v))) ∧ (∀ k w, C[k]? = some (.val w) → w.category = 2 → C[k + 1]? = some .second) ∧ ∀ k, C[k]? = some .second → ∃ j w, k = j + 1 ∧ C[j]? = some (.val w) ∧ w.category = 2
theorem LOk.base (ad : Nat → Addr) (n : Nat) : LOk ad (List.replicate n none) (List.replicate n .unset) := by
 refine ⟨by simp, fun k u h => ?_, fun k w h => ?_, fun k h => ?_⟩
 ·rw [lget_eq] at h
  rcases Nat.lt_or_ge k n with q | q
  ·simp [List.getElem?_replicate, q] at h
  ·simp [List.getElem?_eq_none, q] at h
 ·rcases Nat.lt_or_ge k n with q | q
  ·simp [List.getElem?_replicate, q] at h
  ·simp [List.getElem?_eq_none, q] at h
 ·rcases Nat.lt_or_ge k n with q | q
  ·simp [List.getElem?_replicate, q] at h
  ·simp [List.getElem?_eq_none, q] at h
theorem LOk.one {L : QLoc} {C : List Slot} (H : LOk ad L C) {u : Value} (hu : u.category = 1) : LOk ad (some u :: L) (.val (qv ad u) :: C) := by
 obtain ⟨h1, h2, h3, h4⟩ := H
 refine ⟨by simp [h1], fun k w h => ?_, fun k w h hw => ?_, fun k h => ?_⟩
 ·cases k with
  | zero => simp only [lget] at h; cases h; simp
  | succ k => simp only [lget] at h; simpa using h2 k w h
 ·cases k with
  | zero => simp at h; rw [← h, qv_cat, hu] at hw; cases hw
  | succ k => simpa using h3 k w (by simpa using h) hw
 ·cases k with
  | zero => simp at h
  | succ k =>
   obtain ⟨j, w, z1, z2, z3⟩ := h4 k (by simpa using h)
   exact ⟨j + 1, w, by omega, by simpa using z2, z3⟩
theorem LOk.two {L : QLoc} {C : List Slot} (H : LOk ad L C) {u : Value} (hu : u.category = 2) : LOk ad (some u :: none :: L) (.val (qv ad u) :: .second :: C) := by
 obtain ⟨h1, h2, h3, h4⟩ := H
 refine ⟨by simp [h1], fun k w h => ?_, fun k w h hw => ?_, fun k h => ?_⟩
 ·rcases k with _ | _ | k
  ·simp only [lget] at h; cases h; simp
  ·simp [lget] at h
  ·simp only [lget] at h; simpa using h2 k w h
 ·rcases k with _ | _ | k
  ·simp
  ·simp at h
  ·simpa using h3 k w (by simpa using h) hw
 ·rcases k with _ | _ | k
  ·simp at h
  ·exact ⟨0, qv ad u, rfl, by simp, by rw [qv_cat]; exact hu⟩
  ·obtain ⟨j, w, z1, z2, z3⟩ := h4 k (by simpa using h)
   exact ⟨j + 2, w, by omega, by simpa using z2, z3⟩
def slotsOf (u : Value) : List Slot := if u.category = 2 then [.val u, .second] else [.val u]
theorem fold_slots : ∀ (as : List Value) (acc : Array Slot), (as.foldl (fun acc v => if v.category = 2 then (acc.push (.val v)).push .second else acc.push (.val v)) acc).toList = acc.toList ++ as.flatMap slotsOf
 | [], acc => by simp
 | u :: t, acc => by
  rw [List.foldl_cons, fold_slots t]
  by_cases hc : u.category = 2 <;> simp [slotsOf, hc]
theorem slots_len : ∀ (as : List Value), (as.flatMap slotsOf).length = (as.map fun v => v.category).sum
 | [] => rfl
 | u :: t => by
  rw [List.flatMap_cons, List.length_append, slots_len t, List.map_cons, List.sum_cons]
  cases u <;> simp [slotsOf, Value.category]
theorem cats_qv (as : List Value) : ((as.map (qv ad)).map fun v => v.category).sum = (as.map fun v => v.category).sum := by
 rw [List.map_map]
 congr 1
 exact List.map_congr_left fun x _ => qv_cat ad x
theorem entry_list : ∀ (as : List Value) (n : Nat), LOk ad ((as.flatMap fun v => match v with | .long x => [some (.long x), none] | .double x => [some (.double x), none] | v => [some v]) ++ List.replicate n none) ((as.map (qv ad)).flatMap slotsOf ++ List.replicate n .unset)
 | [], n => by simpa using LOk.base ad n
 | u :: t, n => by
  have ih := entry_list t n
  cases u with
  | long x => exact LOk.two ih rfl
  | double x => exact LOk.two ih rfl
  | int x => exact LOk.one ih rfl
  | float x => exact LOk.one ih rfl
  | null => exact LOk.one ih rfl
  | ref x => exact LOk.one ih rfl
  | retAddr x => exact LOk.one ih rfl
theorem qentry_ok (as : List Value) (mx : Nat) (h : (as.map fun v => v.category).sum ≤ mx) : QLocOk ad (qentry as mx) (argsToLocals (as.map (qv ad)).toArray mx) ∧ (argsToLocals (as.map (qv ad)).toArray mx).size = mx := by
 have e : (argsToLocals (as.map (qv ad)).toArray mx).toList = (as.map (qv ad)).flatMap slotsOf ++ List.replicate (mx - (as.map fun v => v.category).sum) .unset := by
  unfold argsToLocals
  have q := fold_slots (as.map (qv ad)) #[]
  simp only [List.foldl_toArray', Array.toList_append, Array.toList_replicate]
  have q2 : ((as.map (qv ad)).foldl (fun (acc : Array Slot) (v : Value) => if v.category = 2 then (acc.push (.val v)).push .second else acc.push (.val v)) #[]).size = (as.map fun v => v.category).sum := by
   rw [← Array.length_toList, q]
   simp only [List.nil_append]
   rw [slots_len, cats_qv]
  rw [q, q2]
  simp
 have H := entry_list (ad := ad) as (mx - (as.map fun v => v.category).sum)
 rw [← e] at H
 obtain ⟨h1, h2, h3, h4⟩ := H
 have hs : (argsToLocals (as.map (qv ad)).toArray mx).size = mx := by
  rw [← Array.length_toList, e, List.length_append, slots_len, cats_qv, List.length_replicate]
  omega
 refine ⟨⟨h1.trans Array.length_toList, fun k u hk => ?_, fun k w hk hw => ?_, fun k hk => ?_⟩, hs⟩
 ·have := h2 k u hk; rwa [Array.getElem?_toList] at this
 ·have := h3 k w (by rw [Array.getElem?_toList]; exact hk) hw; rwa [Array.getElem?_toList] at this
 ·obtain ⟨j, w, z1, z2, z3⟩ := h4 k (by rw [Array.getElem?_toList]; exact hk)
  exact ⟨j, w, z1, by rwa [Array.getElem?_toList] at z2, z3⟩
set_option maxHeartbeats 4000000 in
theorem QTri.met {k : Nat} {as : List Value} {σ σ₁ : QHeap} {w : Option Value} {h0 : Heap} (hk : k < pN) (h : QTri l Z n0 ad k (0, qentry as (pMaxL k), [], σ) w σ₁) (hR : QRep Z n0 ad h0 σ) (hlen : (as.map fun v => v.category).sum ≤ pMaxL k) (hret : pRet k = none → w = none) (ws : List Jvm.Cond) {rm : Room}
  (r1 : pFr k ≤ rm.frames) (r2 : pLo k ≤ rm.locals) (r3 : σ₁.length - σ.length ≤ rm.cells) (r4 : qhs σ₁ - qhs σ ≤ rm.slots) :
  MetFree l (pName k) (head1 (Jvm.Cond.code (pName k) (pBytes k) (pMaxL k) (pRet k) :: ws) rm) (fun a U => a = (as.map (qv ad)).toArray ∧ Z.Warmed39 U.vm ∧ U.heap = h0) (fun _ _ _ _ _ => True)
   (fun _ U o U' => ∃ v L, o = .returned v ∧ (v = w.map (qv ad) ∧ QRep Z n0 ad U'.heap σ₁ ∧ Fr n0 L) ∧ FrameEnd U o U' L (σ₁.length - σ.length) (qhs σ₁ - qhs σ)) := by
 refine MetFree.of_bodySF (plainFor_of_name (kPlain _ (pKlt k hk))) hisR ?_
 intro p e s mid args below meth c s₁ Bd hml0 hP hK
 obtain ⟨rfl, hZ, hh⟩ := hP
 have e0 : s₁.heap = h0 := by rw [← hh, Bd.state]; rfl
 obtain ⟨hl1, hl2⟩ := qentry_ok (ad := ad) as (pMaxL k) hlen
 have hX : Stand p l e rm s mid (as.map (qv ad)).toArray below meth c s₁ [] 0 0 := Stand.of_body Bd
 obtain ⟨T', locs', X', R', F', S'⟩ := h.2.2 p e rm s mid _ below meth c s₁ [] 0 0 _ ⟨Bd.exec, hZ, Bd.bytes, hml0, Bd.returns, findClass_of_methodNamed Bd.named, (name_of_methodNamed Bd.named Bd.method).1, r1, r2⟩ hX (by rw [e0]; exact hR) (Fr.nil _) hl1 (hl2.trans hml0.symm) (by rw [hh, Nat.add_zero]; exact hR.2.1.symm) (by rw [Nat.zero_add]; exact r3) (by rw [Nat.zero_add]; exact r4)
 obtain ⟨fs, hr, hrun, hended, hW, hsame⟩ := X'.leave (v := w.map (qv ad)) (fun q => by rw [hret (Bd.returns.symm.trans q)]; rfl)
 refine ⟨_, _, S' fs hr, hrun, hended, _, _, rfl, ⟨rfl, R', F'⟩, ⟨_, rfl⟩, hW, ?_⟩
 simp only [Nat.zero_add] at hsame
 exact hsame
theorem QTri.room {k : Nat} {σ σ₁ : QHeap} {rest : List Value} {R : Room} (hroom : (Nat.ble (pFr k + 1) (pFr m) && Nat.ble ((rest.map fun v => v.category).sum + (pMaxL k + 11) + pLo k) (pLo m)) = true) (hfr : pFr m ≤ R.frames) (hlo : pLo m ≤ R.locals) :
  pFr k + 1 ≤ R.frames ∧ (rest.map fun v => v.category).sum + (pMaxL k + 11) + pLo k ≤ R.locals := by
 obtain ⟨q1, q2⟩ := Bool.and_eq_true_iff.mp hroom
 exact ⟨Nat.le_trans (Nat.le_of_ble_eq_true q1) hfr, Nat.le_trans (Nat.le_of_ble_eq_true q2) hlo⟩
theorem sig_len {k : Nat} (hk : k < pN) {as : List Value} (hna : as.length = pNA k) : ∀ sig, parseMethodDescriptor (pName k).desc = some sig → (as.map (qv ad)).length = sig.parameters.length := fun sig hs => by
 have q := pSig k hk
 rw [show parseMethodDescriptor (pDs k) = some sig from hs] at q
 simp at q
 simp [hna, q]
theorem ret_map (w : Option Value) (rest : List Value) : (w.toList ++ rest).map (qv ad) = (w.map (qv ad)).toList ++ rest.map (qv ad) := by cases w <;> simp
theorem QTri.after {as0 : List Value} {pc : Nat} {L : QLoc} {S rest : List Value} {σ σ₁ : QHeap} {w : Option Value} {k : Nat} (hcal : QTri l Z n0 ad k (0, qentry as0 (pMaxL k), [], σ) w σ₁) (h : QTri l Z n0 ad m (pc + 3, L, w.toList ++ rest, σ₁) v σ')
  (hs : ∀ (p : Program) (e : Env) (R : Room) (s : State) (mid : MethodId) (args : Array Value) (below : List Frame) (meth : Method) (c : Code) (T : State) (locs : List Loc) (cells slots : Nat) (C : Array Slot),
   QCx Z p R s mid meth c m → Stand p l e R s mid args below meth c T locs cells slots → QRep Z n0 ad T.heap σ → C.size = c.maxLocals → cells + (σ₁.length - σ.length) ≤ R.cells → slots + (qhs σ₁ - qhs σ) ≤ R.slots →
   ∃ T₁ Lc, Stand p l e R s mid args below meth c T₁ (locs ++ Lc) (cells + (σ₁.length - σ.length)) (slots + (qhs σ₁ - qhs σ)) ∧ QRep Z n0 ad T₁.heap σ₁ ∧ Fr n0 Lc ∧
    ∀ target, Steps p.tables e below (T₁.setTop (mkF mid (pc + 3) C ((w.map (qv ad)).toList ++ rest.map (qv ad)))) target → Steps p.tables e below (T.setTop (mkF mid pc C (S.map (qv ad)))) target) :
  QTri l Z n0 ad m (pc, L, S, σ) v σ' := by
 refine QTri.gen h hcal.1 hcal.2.1 fun p e R s mid args below meth c T locs cells slots C hcx X hR hF hL hC hn hc1 hsl => ?_
 obtain ⟨T₁, Lc, X₁, R₁, F₁, st⟩ := hs p e R s mid args below meth c T locs cells slots C hcx X hR hC hc1 hsl
 refine ⟨T₁, locs ++ Lc, C, X₁, R₁, hF.app F₁, hL, hC, fun target q => st target ?_⟩
 rw [← ret_map]
 exact q
set_option maxHeartbeats 4000000 in
theorem QTri.callV (W : QW Z a0) {pc idx k a : Nat} {L : QLoc} {S as rest vs : List Value} {σ σ₁ : QHeap} {w : Option Value} (hc : pCode m pc = some (.invokevirtual idx, k)) (hm : (lkV.contains (pK m, idx, k) && mV.contains k) = true) (hcell : hget σ a = some (.inl vs)) (hS : S = as.reverse ++ .ref a :: rest)
  (hna : as.length = pNA k) (hlen : Nat.ble (((Value.ref a :: as).map fun v => v.category).sum) (pMaxL k) = true) (hroom : (Nat.ble (pFr k + 1) (pFr m) && Nat.ble ((rest.map fun v => v.category).sum + (pMaxL k + 11) + pLo k) (pLo m)) = true) (hrb : (w.isNone || (pRet k).isSome) = true)
  (hcal : QTri l Z n0 ad k (0, qentry (.ref a :: as) (pMaxL k), [], σ) w σ₁) (h : QTri l Z n0 ad m (pc + 3, L, w.toList ++ rest, σ₁) v σ') : QTri l Z n0 ad m (pc, L, S, σ) v σ' := by
 have hd : decode (pBytes m) pc = .ok (.invokevirtual idx, 3) := pDecN hc rfl
 subst hS
 obtain ⟨m1, m2⟩ := Bool.and_eq_true_iff.mp hm
 have m1 := mem_of_contains m1
 have m2 := mem_of_contains m2
 have hkA := (mVlt k m2).1
 have hkN := mAlt k hkA
 have hret : pRet k = none → w = none := fun q => by
  rw [q] at hrb
  cases w with
  | none => rfl
  | some w => simp at hrb
 refine QTri.after hcal h fun p e R s mid args below meth c T locs cells slots C hcx X hR hC hc1 hsl => ?_
 obtain ⟨hx, hZ, hby, hml, hret', hown, hnm, hfr, hlo⟩ := hcx
 have hd2 : decode c.code pc = .ok (.invokevirtual idx, 3) := by rw [hby]; exact hd
 obtain ⟨f1, f2⟩ := QTri.room (σ := σ) (σ₁ := σ₁) hroom hfr hlo
 obtain ⟨cq, kq, q1, q2, q3⟩ := isOf hZ rfl (hR.2.2 _ _ hcell).1
 obtain ⟨w1, w2, w3⟩ := (qw_vi W) k m2
 obtain ⟨c1, c2⟩ := (qw_cod W) k hkA
 obtain ⟨_, _, ⟨T₁, L₁, k₁, n₁⟩, -, X₁, ⟨Lc, ⟨rfl, hR1, hF1⟩, l₁, y₁, z₁⟩, st⟩ := X.virtualBack hx (own := kName (pK m)) (index := idx) (y := pName k) (z := pName k) hown (mvT hZ (qw_ml W (pK m, idx, k) m1)) (mvT hZ w1) (notFace_of_selects (args := #[]) (mvT hZ w2)) (mvT hZ w2) (mvT hZ w3) (pOwn _ (pKlt k hkN))
  (backOf (W := (rest.map fun v => v.category).sum) (rm := ⟨pFr k, σ₁.length - σ.length, qhs σ₁ - qhs σ, pLo k⟩) (Q := fun v h L => v = Option.map (qv ad) w ∧ QRep Z n0 ad h σ₁ ∧ Fr n0 L) (QTri.met hkN hcal hR (Nat.le_of_ble_eq_true hlen) hret [] (Nat.le_refl _) (Nat.le_refl _) (Nat.le_refl _) (Nat.le_refl _)) hZ c1 c2 f1 f2) q1 q3 (g := mkF mid pc C (List.map (qv ad) (as.reverse ++ .ref a :: rest))) rfl hC (Steps.refl _) (argsL := as.map (qv ad)) (rest := rest.map (qv ad)) (sig_len hkN hna) (by simp [qv]) (by show 2 * 0 + _ ≤ _; rw [cats_qv]; omega) hd2 (fun _ _ => ⟨rfl, rfl, hc1, hsl⟩)
 dsimp only [Pt.U, Pt.locs, Pt.cells, Pt.slots] at X₁ l₁ y₁ z₁ st hR1
 subst l₁ y₁ z₁
 exact ⟨T₁, Lc, X₁, hR1, hF1, fun target q => st.trans q⟩
set_option maxHeartbeats 4000000 in
theorem QTri.callI (W : QW Z a0) {pc idx k a : Nat} {L : QLoc} {S as rest : List Value} {σ σ₁ : QHeap} (hc : pCode m pc = some (.invokespecial idx, k)) (hm : (lkV.contains (pK m, idx, k) && mI.contains k) = true) (hS : S = as.reverse ++ .ref a :: rest)
  (hna : as.length = pNA k) (hlen : Nat.ble (((Value.ref a :: as).map fun v => v.category).sum) (pMaxL k) = true) (hroom : (Nat.ble (pFr k + 1) (pFr m) && Nat.ble ((rest.map fun v => v.category).sum + (pMaxL k + 11) + pLo k) (pLo m)) = true)
  (hcal : QTri l Z n0 ad k (0, qentry (.ref a :: as) (pMaxL k), [], σ) none σ₁) (h : QTri l Z n0 ad m (pc + 3, L, rest, σ₁) v σ') : QTri l Z n0 ad m (pc, L, S, σ) v σ' := by
 have hd : decode (pBytes m) pc = .ok (.invokespecial idx, 3) := pDecN hc rfl
 subst hS
 obtain ⟨m1, m2⟩ := Bool.and_eq_true_iff.mp hm
 have m1 := mem_of_contains m1
 have m2 := mem_of_contains m2
 obtain ⟨hkA, -, hin, hrt⟩ := mIlt k m2
 have hkN := mAlt k hkA
 refine QTri.after (w := none) hcal h fun p e R s mid args below meth c T locs cells slots C hcx X hR hC hc1 hsl => ?_
 obtain ⟨hx, hZ, hby, hml, hret', hown, hnm, hfr, hlo⟩ := hcx
 have hd2 : decode c.code pc = .ok (.invokespecial idx, 3) := by rw [hby]; exact hd
 obtain ⟨f1, f2⟩ := QTri.room (σ := σ) (σ₁ := σ₁) hroom hfr hlo
 obtain ⟨c1, c2⟩ := (qw_cod W) k hkA
 have c1' := c1
 rw [hrt] at c1'
 obtain ⟨_, _, ⟨T₁, L₁, k₁, n₁⟩, -, X₁, ⟨Lc, ⟨rfl, hR1, hF1⟩, l₁, y₁, z₁⟩, st⟩ := X.specialBack hx (own := kName (pK m)) (index := idx) (y := pName k) hin hown (mvT hZ (qw_ml W (pK m, idx, k) m1)) (mvT hZ ((qw_ini W) k m2)) (mvT hZ c1') (pOwn _ (pKlt k hkN))
  (backOf (W := (rest.map fun v => v.category).sum) (rm := ⟨pFr k, σ₁.length - σ.length, qhs σ₁ - qhs σ, pLo k⟩) (Q := fun v h L => v = Option.map (qv ad) none ∧ QRep Z n0 ad h σ₁ ∧ Fr n0 L) (QTri.met hkN hcal hR (Nat.le_of_ble_eq_true hlen) (fun _ => rfl) [] (Nat.le_refl _) (Nat.le_refl _) (Nat.le_refl _) (Nat.le_refl _)) hZ c1 c2 f1 f2) (g := mkF mid pc C (List.map (qv ad) (as.reverse ++ .ref a :: rest))) rfl hC (Steps.refl _) (a := ad a) (argsL := as.map (qv ad)) (rest := rest.map (qv ad)) (sig_len hkN hna) (by simp [qv]) (by show 2 * 0 + _ ≤ _; rw [cats_qv]; omega) hd2 (fun _ _ => ⟨rfl, rfl, hc1, hsl⟩)
 dsimp only [Pt.U, Pt.locs, Pt.cells, Pt.slots] at X₁ l₁ y₁ z₁ st hR1
 subst l₁ y₁ z₁
 exact ⟨T₁, Lc, X₁, hR1, hF1, fun target q => st.trans q⟩
set_option maxHeartbeats 4000000 in
theorem QTri.callP (W : QW Z a0) {pc idx k a : Nat} {L : QLoc} {S as rest vs : List Value} {σ σ₁ : QHeap} {w : Option Value} (hc : pCode m pc = some (.invokevirtual idx, k)) (hm : (lkV.contains (pK m, idx, k) && mP.contains k) = true) (hcell : hget σ a = some (.inl vs)) (hS : S = as.reverse ++ .ref a :: rest)
  (hna : as.length = pNA k) (hlen : Nat.ble (((Value.ref a :: as).map fun v => v.category).sum) (pMaxL k) = true) (hroom : (Nat.ble (pFr k + 1) (pFr m) && Nat.ble ((rest.map fun v => v.category).sum + (pMaxL k + 11) + pLo k) (pLo m)) = true) (hrb : (w.isNone || (pRet k).isSome) = true)
  (hcal : QTri l Z n0 ad k (0, qentry (.ref a :: as) (pMaxL k), [], σ) w σ₁) (h : QTri l Z n0 ad m (pc + 3, L, w.toList ++ rest, σ₁) v σ') : QTri l Z n0 ad m (pc, L, S, σ) v σ' := by
 have hd : decode (pBytes m) pc = .ok (.invokevirtual idx, 3) := pDecN hc rfl
 subst hS
 obtain ⟨m1, m2⟩ := Bool.and_eq_true_iff.mp hm
 have m1 := mem_of_contains m1
 have m2 := mem_of_contains m2
 obtain ⟨hkA, hk1⟩ := mPlt k m2
 have hkN := mAlt k hkA
 have hret : pRet k = none → w = none := fun q => by
  rw [q] at hrb
  cases w with
  | none => rfl
  | some w => simp at hrb
 refine QTri.after hcal h fun p e R s mid args below meth c T locs cells slots C hcx X hR hC hc1 hsl => ?_
 obtain ⟨hx, hZ, hby, hml, hret', hown, hnm, hfr, hlo⟩ := hcx
 have hd2 : decode c.code pc = .ok (.invokevirtual idx, 3) := by rw [hby]; exact hd
 obtain ⟨f1, f2⟩ := QTri.room (σ := σ) (σ₁ := σ₁) hroom hfr hlo
 obtain ⟨cell, h1, h2⟩ := (hR.2.2 _ _ hcell).1.cell
 obtain ⟨w1, w2⟩ := (qw_pr W) k m2
 obtain ⟨c1, c2⟩ := (qw_cod W) k hkA
 have hpr : s.PrivateAt (pName k) := Cond.privateMethod_at (mvP hZ w2 (args := #[]))
 obtain ⟨cC, kC, i1, i2, i3, i4⟩ := Cond.instantiable_spec (args := #[]) (mvT hZ (qw_inst W))
 have hsel : (Cond.selects (pName k).cls (pName k) (pName k)).before args s = true := selects_self_of_private (c := cC) (k := kC) (by show s.vm.findClass (kName (pK k)) = _; rw [hk1]; exact i1) i2 (by have q := i4.1; cases hq : kC.isInterface with | false => rfl | true => rw [hq] at q; simp at q) hpr (mvT hZ w1) (pOwn _ (pKlt k hkN))
 obtain ⟨_, _, ⟨T₁, L₁, k₁, n₁⟩, -, X₁, ⟨Lc, ⟨rfl, hR1, hF1⟩, l₁, y₁, z₁⟩, st⟩ := X.privateBack hx (own := kName (pK m)) (index := idx) (y := pName k) hown (mvT hZ (qw_ml W (pK m, idx, k) m1)) (mvT hZ w1) hsel hpr (mvT hZ c1) (pOwn _ (pKlt k hkN))
  (backOf (W := (rest.map fun v => v.category).sum) (rm := ⟨pFr k, σ₁.length - σ.length, qhs σ₁ - qhs σ, pLo k⟩) (Q := fun v h L => v = Option.map (qv ad) w ∧ QRep Z n0 ad h σ₁ ∧ Fr n0 L) (QTri.met hkN hcal hR (Nat.le_of_ble_eq_true hlen) hret [] (Nat.le_refl _) (Nat.le_refl _) (Nat.le_refl _) (Nat.le_refl _)) hZ c1 c2 f1 f2) (g := mkF mid pc C (List.map (qv ad) (as.reverse ++ .ref a :: rest))) rfl hC (Steps.refl _) (a := ad a) h1 h2 (argsL := as.map (qv ad)) (rest := rest.map (qv ad)) (sig_len hkN hna) (by simp [qv]) (by show 2 * 0 + _ ≤ _; rw [cats_qv]; omega) hd2 (fun _ _ => ⟨rfl, rfl, hc1, hsl⟩)
 dsimp only [Pt.U, Pt.locs, Pt.cells, Pt.slots] at X₁ l₁ y₁ z₁ st hR1
 subst l₁ y₁ z₁
 exact ⟨T₁, Lc, X₁, hR1, hF1, fun target q => st.trans q⟩
set_option maxHeartbeats 4000000 in
theorem QTri.callS (W : QW Z a0) {pc idx k : Nat} {L : QLoc} {S as rest : List Value} {σ σ₁ : QHeap} {w : Option Value} (hc : pCode m pc = some (.invokestatic idx, k)) (hm : (lkV.contains (pK m, idx, k) && mS.contains k) = true) (hS : S = as.reverse ++ rest)
  (hna : as.length = pNA k) (hlen : Nat.ble ((as.map fun v => v.category).sum) (pMaxL k) = true) (hroom : (Nat.ble (pFr k + 1) (pFr m) && Nat.ble ((rest.map fun v => v.category).sum + (pMaxL k + 11) + pLo k) (pLo m)) = true) (hrb : (w.isNone || (pRet k).isSome) = true)
  (hcal : QTri l Z n0 ad k (0, qentry as (pMaxL k), [], σ) w σ₁) (h : QTri l Z n0 ad m (pc + 3, L, w.toList ++ rest, σ₁) v σ') : QTri l Z n0 ad m (pc, L, S, σ) v σ' := by
 have hd : decode (pBytes m) pc = .ok (.invokestatic idx, 3) := pDecN hc rfl
 subst hS
 obtain ⟨m1, m2⟩ := Bool.and_eq_true_iff.mp hm
 have m1 := mem_of_contains m1
 have m2 := mem_of_contains m2
 have hkA := mSlt k m2
 have hkN := mAlt k hkA
 have hret : pRet k = none → w = none := fun q => by
  rw [q] at hrb
  cases w with
  | none => rfl
  | some w => simp at hrb
 refine QTri.after hcal h fun p e R s mid args below meth c T locs cells slots C hcx X hR hC hc1 hsl => ?_
 obtain ⟨hx, hZ, hby, hml, hret', hown, hnm, hfr, hlo⟩ := hcx
 have hd2 : decode c.code pc = .ok (.invokestatic idx, 3) := by rw [hby]; exact hd
 obtain ⟨f1, f2⟩ := QTri.room (σ := σ) (σ₁ := σ₁) hroom hfr hlo
 obtain ⟨c1, c2⟩ := (qw_cod W) k hkA
 obtain ⟨_, _, ⟨T₁, L₁, k₁, n₁⟩, -, X₁, ⟨Lc, ⟨rfl, hR1, hF1⟩, l₁, y₁, z₁⟩, st⟩ := Jvm.LawKit.callS X hx (own := kName (pK m)) (index := idx) (y := pName k) hown (mvT hZ (qw_ml W (pK m, idx, k) m1)) (mvT hZ ((qw_st W) k m2)) (mvT hZ c2) (mvT hZ c1) (pOwn _ (pKlt k hkN))
  (backOf (W := (rest.map fun v => v.category).sum) (rm := ⟨pFr k, σ₁.length - σ.length, qhs σ₁ - qhs σ, pLo k⟩) (Q := fun v h L => v = Option.map (qv ad) w ∧ QRep Z n0 ad h σ₁ ∧ Fr n0 L) (QTri.met hkN hcal hR (Nat.le_of_ble_eq_true hlen) hret [] (Nat.le_refl _) (Nat.le_refl _) (Nat.le_refl _) (Nat.le_refl _)) hZ c1 c2 f1 f2) (g := mkF mid pc C (List.map (qv ad) (as.reverse ++ rest))) rfl hC (argsL := as.map (qv ad)) (rest := rest.map (qv ad)) (sig_len hkN hna) (by simp) (by show 2 * 0 + _ ≤ _; rw [cats_qv]; omega) hd2 (fun _ _ => ⟨rfl, rfl, hc1, hsl⟩)
 dsimp only [Pt.U, Pt.locs, Pt.cells, Pt.slots] at X₁ l₁ y₁ z₁ st hR1
 subst l₁ y₁ z₁
 exact ⟨T₁, Lc, X₁, hR1, hF1, fun target q => st target q⟩
set_option maxHeartbeats 4000000 in
theorem QTri.callO (W : QW Z a0) {pc idx k a : Nat} {L : QLoc} {rest : List Value} {σ : QHeap} (hc : pCode m pc = some (.invokespecial idx, k)) (hm : lkO.contains (pK m, idx) = true) (hroom : (Nat.ble 1 (pFr m) && Nat.ble ((rest.map fun v => v.category).sum + 12) (pLo m)) = true)
  (h : QTri l Z n0 ad m (pc + 3, L, rest, σ) v σ') : QTri l Z n0 ad m (pc, L, .ref a :: rest, σ) v σ' :=
 have hd : decode (pBytes m) pc = .ok (.invokespecial idx, 3) := pDecN hc rfl
 QTri.pure h rfl fun p e R s mid args below meth c T locs cells slots C hcx X hR hL hC => by
  obtain ⟨hx, hZ, hby, hml, hret', hown, hnm, hfr, hlo⟩ := hcx
  have hd2 : decode c.code pc = .ok (.invokespecial idx, 3) := by rw [hby]; exact hd
  obtain ⟨q1, q2⟩ := Bool.and_eq_true_iff.mp hroom
  obtain ⟨T₁, X₁, e₁, st⟩ := initO X hx hZ hown (idx := idx) (qw_mo W (pK m, idx) (mem_of_contains hm)) ((qw_oi W)) ((qw_oc W)) rfl (g := mkF mid pc C (List.map (qv ad) (.ref a :: rest))) rfl hC rfl hd2 (Nat.le_trans (Nat.le_of_ble_eq_true q1) hfr) (W := (rest.map fun v => v.category).sum) (by show 2 * 0 + _ ≤ _; rw [cats_qv]; omega) (Nat.le_trans (Nat.le_of_ble_eq_true q2) hlo)
  exact ⟨T₁, C, X₁, e₁, hL, hC, st⟩
theorem QTri.brT (Ad : QAd n0 ad) (W : QW Z a0) {st : QSt} {t f : Nat} {L : QLoc} {S : List Value} {σ : QHeap} {b : Bool} (hs : qstep m st = some (bif b then t else f, L, S, σ)) (hb : b = true) (h : QTri l Z n0 ad m (t, L, S, σ) v σ') : QTri l Z n0 ad m st v σ' := by
 subst hb; exact QTri.step Ad W h hs
theorem QTri.brF (Ad : QAd n0 ad) (W : QW Z a0) {st : QSt} {t f : Nat} {L : QLoc} {S : List Value} {σ : QHeap} {b : Bool} (hs : qstep m st = some (bif b then t else f, L, S, σ)) (hb : b = false) (h : QTri l Z n0 ad m (f, L, S, σ) v σ') : QTri l Z n0 ad m st v σ' := by
 subst hb; exact QTri.step Ad W h hs
theorem QTri.bnd {α : Type} (Ad : QAd n0 ad) (W : QW Z a0) {st : QSt} {x : Option α} {f : α → QSt} {a : α} (hs : qstep m st = x.bind fun v => some (f v)) (hx : x = some a) (h : QTri l Z n0 ad m (f a) v σ') : QTri l Z n0 ad m st v σ' :=
 QTri.step Ad W h (by rw [hs, hx]; rfl)
theorem QTri.bndB (Ad : QAd n0 ad) (W : QW Z a0) {st : QSt} {x y : Int32} {g : Value → QSt} (hs : qstep m st = ((qboo x).bind fun y => some (Value.int y)).bind fun w => some (g w)) (hx : qboo x = some y) (h : QTri l Z n0 ad m (g (.int y)) v σ') : QTri l Z n0 ad m st v σ' :=
 QTri.step Ad W h (by rw [hs, hx]; rfl)
end Triples
theorem qite {α : Type} {c : Prop} [Decidable c] {a b : Option α} {r : α} (h : (if c then a else b) = some r) : (c ∧ a = some r) ∨ (¬ c ∧ b = some r) := by
 by_cases hc : c
 ·exact Or.inl ⟨hc, by rwa [if_pos hc] at h⟩
 ·exact Or.inr ⟨hc, by rwa [if_neg hc] at h⟩
def qN : Nat := 4000
def loopN {V E : Type} (B : V → Option (E ⊕ V)) : Nat → V → Option E
 | 0, _ => none
 | n + 1, v => match B v with
  | none => none
  | some (.inl e) => some e
  | some (.inr v') => loopN B n v'
theorem loopN_tri {V E : Type} {B : V → Option (E ⊕ V)} {T : V → Prop} {KE : E → Prop} (hB : ∀ v r, B v = some r → (∀ e, r = .inl e → KE e) → (∀ v', r = .inr v' → T v') → T v) : ∀ (n : Nat) (v : V) (e : E), loopN B n v = some e → KE e → T v
 | 0, _, _, h, _ => by cases h
 | n + 1, v, e, h, k => by
  simp only [loopN] at h
  split at h
  ·cases h
  ·rename_i e' he
   cases h
   exact hB v _ he (fun e q => by cases q; exact k) (fun v' q => by cases q)
  ·rename_i v' he
   exact hB v _ he (fun e q => by cases q) (fun v'' q => by cases q; exact loopN_tri hB n v' e h k)
theorem loopN_inv {V E : Type} {B : V → Option (E ⊕ V)} (I : V → Prop) (P : E → Prop) (μ : V → Nat) (hB : ∀ v, I v → (∃ e, B v = some (.inl e) ∧ P e) ∨ ∃ v', B v = some (.inr v') ∧ I v' ∧ μ v' < μ v) : ∀ (n : Nat) (v : V), I v → μ v < n → ∃ e, loopN B n v = some e ∧ P e
 | 0, _, _, h => absurd h (Nat.not_lt_zero _)
 | n + 1, v, hv, hm => by
  rcases hB v hv with ⟨e, h1, h2⟩ | ⟨v', h1, h2, h3⟩
  ·exact ⟨e, by simp only [loopN, h1], h2⟩
  ·obtain ⟨e, g1, g2⟩ := loopN_inv I P μ hB n v' h2 (by omega)
   exact ⟨e, by simp only [loopN, h1]; exact g1, g2⟩
theorem qfn {α : Type} {P : α → Prop} : ∀ t ∈ ([] : List α), P t := fun _ h => nomatch h
theorem qfc {α : Type} {P : α → Prop} {a : α} {t : List α} (h : P a) (ht : ∀ x ∈ t, P x) : ∀ x ∈ a :: t, P x := fun x hx => by rcases List.mem_cons.mp hx with rfl | q; exact h; exact ht x q
theorem QW_ok {Z : State} {a0 : Array Value} (hw : ∀ d ∈ tables_1, d.before a0 Z = true) : QW Z a0 := by
  have w0 : ∀ k ∈ List.range nF, bif fFin k then (Jvm.Cond.laysFinal cName cName (fNm k) (fDs k)).before a0 Z = true else (Jvm.Cond.lays cName cName (fNm k) (fDs k)).before a0 Z = true :=
    show ∀ k ∈ [0, 1, 2, 3, 4, 5, 6, 7, 8, 9, 10, 11, 12, 13, 14, 15, 16, 17, 18, 19, 20, 21, 22, 23, 24, 25, 26], bif fFin k then (Jvm.Cond.laysFinal cName cName (fNm k) (fDs k)).before a0 Z = true else (Jvm.Cond.lays cName cName (fNm k) (fDs k)).before a0 Z = true from
    (qfc (hw _ (List.mem_of_getElem? (i := 11) rfl)) (qfc (hw _ (List.mem_of_getElem? (i := 13) rfl)) (qfc (hw _ (List.mem_of_getElem? (i := 15) rfl)) (qfc (hw _ (List.mem_of_getElem? (i := 17) rfl)) (qfc (hw _ (List.mem_of_getElem? (i := 20) rfl)) (qfc (hw _ (List.mem_of_getElem? (i := 23) rfl)) (qfc (hw _ (List.mem_of_getElem? (i := 25) rfl)) (qfc (hw _ (List.mem_of_getElem? (i := 27) rfl)) (qfc (hw _ (List.mem_of_getElem? (i := 29) rfl)) (qfc (hw _ (List.mem_of_getElem? (i := 31) rfl)) (qfc (hw _ (List.mem_of_getElem? (i := 37) rfl)) (qfc (hw _ (List.mem_of_getElem? (i := 39) rfl)) (qfc (hw _ (List.mem_of_getElem? (i := 41) rfl)) (qfc (hw _ (List.mem_of_getElem? (i := 43) rfl)) (qfc (hw _ (List.mem_of_getElem? (i := 45) rfl)) (qfc (hw _ (List.mem_of_getElem? (i := 47) rfl)) (qfc (hw _ (List.mem_of_getElem? (i := 49) rfl)) (qfc (hw _ (List.mem_of_getElem? (i := 51) rfl)) (qfc (hw _ (List.mem_of_getElem? (i := 53) rfl)) (qfc (hw _ (List.mem_of_getElem? (i := 55) rfl)) (qfc (hw _ (List.mem_of_getElem? (i := 87) rfl)) (qfc (hw _ (List.mem_of_getElem? (i := 89) rfl)) (qfc (hw _ (List.mem_of_getElem? (i := 95) rfl)) (qfc (hw _ (List.mem_of_getElem? (i := 97) rfl)) (qfc (hw _ (List.mem_of_getElem? (i := 99) rfl)) (qfc (hw _ (List.mem_of_getElem? (i := 101) rfl)) (qfc (hw _ (List.mem_of_getElem? (i := 103) rfl)) qfn)))))))))))))))))))))))))))
  refine ⟨?_, ?_, ?_, ?_, ?_, ?_, ?_, ?_, ?_, ?_, ?_, ?_, ?_, (fun k hk => w0 k (List.mem_range.mpr hk)), ?_, ?_, ?_⟩
  · exact (qfc (hw _ (List.mem_of_getElem? (i := 10) rfl)) (qfc (hw _ (List.mem_of_getElem? (i := 12) rfl)) (qfc (hw _ (List.mem_of_getElem? (i := 14) rfl)) (qfc (hw _ (List.mem_of_getElem? (i := 16) rfl)) (qfc (hw _ (List.mem_of_getElem? (i := 19) rfl)) (qfc (hw _ (List.mem_of_getElem? (i := 22) rfl)) (qfc (hw _ (List.mem_of_getElem? (i := 24) rfl)) (qfc (hw _ (List.mem_of_getElem? (i := 26) rfl)) (qfc (hw _ (List.mem_of_getElem? (i := 28) rfl)) (qfc (hw _ (List.mem_of_getElem? (i := 30) rfl)) (qfc (hw _ (List.mem_of_getElem? (i := 36) rfl)) (qfc (hw _ (List.mem_of_getElem? (i := 38) rfl)) (qfc (hw _ (List.mem_of_getElem? (i := 40) rfl)) (qfc (hw _ (List.mem_of_getElem? (i := 42) rfl)) (qfc (hw _ (List.mem_of_getElem? (i := 44) rfl)) (qfc (hw _ (List.mem_of_getElem? (i := 46) rfl)) (qfc (hw _ (List.mem_of_getElem? (i := 48) rfl)) (qfc (hw _ (List.mem_of_getElem? (i := 50) rfl)) (qfc (hw _ (List.mem_of_getElem? (i := 52) rfl)) (qfc (hw _ (List.mem_of_getElem? (i := 54) rfl)) (qfc (hw _ (List.mem_of_getElem? (i := 86) rfl)) (qfc (hw _ (List.mem_of_getElem? (i := 88) rfl)) (qfc (hw _ (List.mem_of_getElem? (i := 94) rfl)) (qfc (hw _ (List.mem_of_getElem? (i := 96) rfl)) (qfc (hw _ (List.mem_of_getElem? (i := 98) rfl)) (qfc (hw _ (List.mem_of_getElem? (i := 100) rfl)) (qfc (hw _ (List.mem_of_getElem? (i := 102) rfl)) qfn)))))))))))))))))))))))))))
  · exact (qfc (hw _ (List.mem_of_getElem? (i := 0) rfl)) qfn)
  · exact qfn
  · exact qfn
  · exact (qfc (hw _ (List.mem_of_getElem? (i := 3) rfl)) (qfc (hw _ (List.mem_of_getElem? (i := 32) rfl)) (qfc (hw _ (List.mem_of_getElem? (i := 56) rfl)) (qfc (hw _ (List.mem_of_getElem? (i := 61) rfl)) (qfc (hw _ (List.mem_of_getElem? (i := 66) rfl)) (qfc (hw _ (List.mem_of_getElem? (i := 70) rfl)) (qfc (hw _ (List.mem_of_getElem? (i := 74) rfl)) (qfc (hw _ (List.mem_of_getElem? (i := 78) rfl)) (qfc (hw _ (List.mem_of_getElem? (i := 82) rfl)) (qfc (hw _ (List.mem_of_getElem? (i := 90) rfl)) (qfc (hw _ (List.mem_of_getElem? (i := 104) rfl)) (qfc (hw _ (List.mem_of_getElem? (i := 108) rfl)) (qfc (hw _ (List.mem_of_getElem? (i := 112) rfl)) (qfc (hw _ (List.mem_of_getElem? (i := 116) rfl)) (qfc (hw _ (List.mem_of_getElem? (i := 120) rfl)) (qfc (hw _ (List.mem_of_getElem? (i := 124) rfl)) (qfc (hw _ (List.mem_of_getElem? (i := 128) rfl)) (qfc (hw _ (List.mem_of_getElem? (i := 132) rfl)) (qfc (hw _ (List.mem_of_getElem? (i := 136) rfl)) (qfc (hw _ (List.mem_of_getElem? (i := 139) rfl)) (qfc (hw _ (List.mem_of_getElem? (i := 142) rfl)) (qfc (hw _ (List.mem_of_getElem? (i := 147) rfl)) (qfc (hw _ (List.mem_of_getElem? (i := 152) rfl)) (qfc (hw _ (List.mem_of_getElem? (i := 157) rfl)) (qfc (hw _ (List.mem_of_getElem? (i := 162) rfl)) (qfc (hw _ (List.mem_of_getElem? (i := 166) rfl)) qfn))))))))))))))))))))))))))
  · exact (qfc (hw _ (List.mem_of_getElem? (i := 6) rfl)) qfn)
  · exact (qfc ⟨(hw _ (List.mem_of_getElem? (i := 57) rfl)), (hw _ (List.mem_of_getElem? (i := 59) rfl)), (hw _ (List.mem_of_getElem? (i := 58) rfl))⟩ (qfc ⟨(hw _ (List.mem_of_getElem? (i := 62) rfl)), (hw _ (List.mem_of_getElem? (i := 64) rfl)), (hw _ (List.mem_of_getElem? (i := 63) rfl))⟩ (qfc ⟨(hw _ (List.mem_of_getElem? (i := 143) rfl)), (hw _ (List.mem_of_getElem? (i := 145) rfl)), (hw _ (List.mem_of_getElem? (i := 144) rfl))⟩ (qfc ⟨(hw _ (List.mem_of_getElem? (i := 148) rfl)), (hw _ (List.mem_of_getElem? (i := 150) rfl)), (hw _ (List.mem_of_getElem? (i := 149) rfl))⟩ (qfc ⟨(hw _ (List.mem_of_getElem? (i := 153) rfl)), (hw _ (List.mem_of_getElem? (i := 155) rfl)), (hw _ (List.mem_of_getElem? (i := 154) rfl))⟩ (qfc ⟨(hw _ (List.mem_of_getElem? (i := 158) rfl)), (hw _ (List.mem_of_getElem? (i := 160) rfl)), (hw _ (List.mem_of_getElem? (i := 159) rfl))⟩ qfn))))))
  · exact (qfc ⟨(hw _ (List.mem_of_getElem? (i := 33) rfl)), (hw _ (List.mem_of_getElem? (i := 34) rfl))⟩ (qfc ⟨(hw _ (List.mem_of_getElem? (i := 67) rfl)), (hw _ (List.mem_of_getElem? (i := 68) rfl))⟩ (qfc ⟨(hw _ (List.mem_of_getElem? (i := 71) rfl)), (hw _ (List.mem_of_getElem? (i := 72) rfl))⟩ (qfc ⟨(hw _ (List.mem_of_getElem? (i := 75) rfl)), (hw _ (List.mem_of_getElem? (i := 76) rfl))⟩ (qfc ⟨(hw _ (List.mem_of_getElem? (i := 79) rfl)), (hw _ (List.mem_of_getElem? (i := 80) rfl))⟩ (qfc ⟨(hw _ (List.mem_of_getElem? (i := 83) rfl)), (hw _ (List.mem_of_getElem? (i := 84) rfl))⟩ (qfc ⟨(hw _ (List.mem_of_getElem? (i := 91) rfl)), (hw _ (List.mem_of_getElem? (i := 92) rfl))⟩ (qfc ⟨(hw _ (List.mem_of_getElem? (i := 105) rfl)), (hw _ (List.mem_of_getElem? (i := 106) rfl))⟩ (qfc ⟨(hw _ (List.mem_of_getElem? (i := 109) rfl)), (hw _ (List.mem_of_getElem? (i := 110) rfl))⟩ (qfc ⟨(hw _ (List.mem_of_getElem? (i := 113) rfl)), (hw _ (List.mem_of_getElem? (i := 114) rfl))⟩ (qfc ⟨(hw _ (List.mem_of_getElem? (i := 117) rfl)), (hw _ (List.mem_of_getElem? (i := 118) rfl))⟩ (qfc ⟨(hw _ (List.mem_of_getElem? (i := 121) rfl)), (hw _ (List.mem_of_getElem? (i := 122) rfl))⟩ (qfc ⟨(hw _ (List.mem_of_getElem? (i := 125) rfl)), (hw _ (List.mem_of_getElem? (i := 126) rfl))⟩ (qfc ⟨(hw _ (List.mem_of_getElem? (i := 129) rfl)), (hw _ (List.mem_of_getElem? (i := 130) rfl))⟩ (qfc ⟨(hw _ (List.mem_of_getElem? (i := 163) rfl)), (hw _ (List.mem_of_getElem? (i := 164) rfl))⟩ qfn)))))))))))))))
  · exact (qfc (hw _ (List.mem_of_getElem? (i := 133) rfl)) (qfc (hw _ (List.mem_of_getElem? (i := 137) rfl)) (qfc (hw _ (List.mem_of_getElem? (i := 140) rfl)) (qfc (hw _ (List.mem_of_getElem? (i := 167) rfl)) qfn))))
  · exact (qfc (hw _ (List.mem_of_getElem? (i := 4) rfl)) qfn)
  · exact (qfc ⟨(hw _ (List.mem_of_getElem? (i := 5) rfl)), (hw _ (List.mem_of_getElem? (i := 2) rfl))⟩ (qfc ⟨(hw _ (List.mem_of_getElem? (i := 35) rfl)), (hw _ (List.mem_of_getElem? (i := 2) rfl))⟩ (qfc ⟨(hw _ (List.mem_of_getElem? (i := 60) rfl)), (hw _ (List.mem_of_getElem? (i := 2) rfl))⟩ (qfc ⟨(hw _ (List.mem_of_getElem? (i := 65) rfl)), (hw _ (List.mem_of_getElem? (i := 2) rfl))⟩ (qfc ⟨(hw _ (List.mem_of_getElem? (i := 69) rfl)), (hw _ (List.mem_of_getElem? (i := 2) rfl))⟩ (qfc ⟨(hw _ (List.mem_of_getElem? (i := 73) rfl)), (hw _ (List.mem_of_getElem? (i := 2) rfl))⟩ (qfc ⟨(hw _ (List.mem_of_getElem? (i := 77) rfl)), (hw _ (List.mem_of_getElem? (i := 2) rfl))⟩ (qfc ⟨(hw _ (List.mem_of_getElem? (i := 81) rfl)), (hw _ (List.mem_of_getElem? (i := 2) rfl))⟩ (qfc ⟨(hw _ (List.mem_of_getElem? (i := 85) rfl)), (hw _ (List.mem_of_getElem? (i := 2) rfl))⟩ (qfc ⟨(hw _ (List.mem_of_getElem? (i := 93) rfl)), (hw _ (List.mem_of_getElem? (i := 2) rfl))⟩ (qfc ⟨(hw _ (List.mem_of_getElem? (i := 107) rfl)), (hw _ (List.mem_of_getElem? (i := 2) rfl))⟩ (qfc ⟨(hw _ (List.mem_of_getElem? (i := 111) rfl)), (hw _ (List.mem_of_getElem? (i := 2) rfl))⟩ (qfc ⟨(hw _ (List.mem_of_getElem? (i := 115) rfl)), (hw _ (List.mem_of_getElem? (i := 2) rfl))⟩ (qfc ⟨(hw _ (List.mem_of_getElem? (i := 119) rfl)), (hw _ (List.mem_of_getElem? (i := 2) rfl))⟩ (qfc ⟨(hw _ (List.mem_of_getElem? (i := 123) rfl)), (hw _ (List.mem_of_getElem? (i := 2) rfl))⟩ (qfc ⟨(hw _ (List.mem_of_getElem? (i := 127) rfl)), (hw _ (List.mem_of_getElem? (i := 2) rfl))⟩ (qfc ⟨(hw _ (List.mem_of_getElem? (i := 131) rfl)), (hw _ (List.mem_of_getElem? (i := 2) rfl))⟩ (qfc ⟨(hw _ (List.mem_of_getElem? (i := 135) rfl)), (hw _ (List.mem_of_getElem? (i := 134) rfl))⟩ (qfc ⟨(hw _ (List.mem_of_getElem? (i := 138) rfl)), (hw _ (List.mem_of_getElem? (i := 134) rfl))⟩ (qfc ⟨(hw _ (List.mem_of_getElem? (i := 141) rfl)), (hw _ (List.mem_of_getElem? (i := 134) rfl))⟩ (qfc ⟨(hw _ (List.mem_of_getElem? (i := 146) rfl)), (hw _ (List.mem_of_getElem? (i := 2) rfl))⟩ (qfc ⟨(hw _ (List.mem_of_getElem? (i := 151) rfl)), (hw _ (List.mem_of_getElem? (i := 2) rfl))⟩ (qfc ⟨(hw _ (List.mem_of_getElem? (i := 156) rfl)), (hw _ (List.mem_of_getElem? (i := 2) rfl))⟩ (qfc ⟨(hw _ (List.mem_of_getElem? (i := 161) rfl)), (hw _ (List.mem_of_getElem? (i := 2) rfl))⟩ (qfc ⟨(hw _ (List.mem_of_getElem? (i := 165) rfl)), (hw _ (List.mem_of_getElem? (i := 2) rfl))⟩ (qfc ⟨(hw _ (List.mem_of_getElem? (i := 168) rfl)), (hw _ (List.mem_of_getElem? (i := 134) rfl))⟩ qfn))))))))))))))))))))))))))
  · exact (hw _ (List.mem_of_getElem? (i := 7) rfl))
  · exact (hw _ (List.mem_of_getElem? (i := 8) rfl))
  · exact (hw _ (List.mem_of_getElem? (i := 1) rfl))
  · exact (hw _ (List.mem_of_getElem? (i := 2) rfl))
  · exact (qfc (hw _ (List.mem_of_getElem? (i := 9) rfl)) (qfc (hw _ (List.mem_of_getElem? (i := 18) rfl)) (qfc (hw _ (List.mem_of_getElem? (i := 21) rfl)) qfn)))
abbrev Ob := List Int32 × List Int32 × List Int32 × List Int32 × List Int64 × List Int32 × List Int32 × List Int32 × Int32 × Int32 × Int32 × Int32 × Int32 × Int32 × Int32 × Int32 × Int32 × Int32 × Int32 × Int32 × Int32 × Int32 × Int64 × Int32 × Int32 × Int32 × Int32
def f_part (o : Ob) : List Int32 := o.1
def f_keys (o : Ob) : List Int32 := o.2.1
def f_vals (o : Ob) : List Int32 := o.2.2.1
def f_flg (o : Ob) : List Int32 := o.2.2.2.1
def f_res (o : Ob) : List Int64 := o.2.2.2.2.1
def f_resNull (o : Ob) : List Int32 := o.2.2.2.2.2.1
def f_frameCnt (o : Ob) : List Int32 := o.2.2.2.2.2.2.1
def f_sorted (o : Ob) : List Int32 := o.2.2.2.2.2.2.2.1
def f_cap (o : Ob) : Int32 := o.2.2.2.2.2.2.2.2.1
def f_rows (o : Ob) : Int32 := o.2.2.2.2.2.2.2.2.2.1
def f_direction (o : Ob) : Int32 := o.2.2.2.2.2.2.2.2.2.2.1
def f_nulls (o : Ob) : Int32 := o.2.2.2.2.2.2.2.2.2.2.2.1
def f_mode (o : Ob) : Int32 := o.2.2.2.2.2.2.2.2.2.2.2.2.1
def f_startKind (o : Ob) : Int32 := o.2.2.2.2.2.2.2.2.2.2.2.2.2.1
def f_startOff (o : Ob) : Int32 := o.2.2.2.2.2.2.2.2.2.2.2.2.2.2.1
def f_endKind (o : Ob) : Int32 := o.2.2.2.2.2.2.2.2.2.2.2.2.2.2.2.1
def f_endOff (o : Ob) : Int32 := o.2.2.2.2.2.2.2.2.2.2.2.2.2.2.2.2.1
def f_fn (o : Ob) : Int32 := o.2.2.2.2.2.2.2.2.2.2.2.2.2.2.2.2.2.1
def f_fnArg (o : Ob) : Int32 := o.2.2.2.2.2.2.2.2.2.2.2.2.2.2.2.2.2.2.1
def f_computed (o : Ob) : Int32 := o.2.2.2.2.2.2.2.2.2.2.2.2.2.2.2.2.2.2.2.1
def f_sortedLen (o : Ob) : Int32 := o.2.2.2.2.2.2.2.2.2.2.2.2.2.2.2.2.2.2.2.2.1
def f_curPos (o : Ob) : Int32 := o.2.2.2.2.2.2.2.2.2.2.2.2.2.2.2.2.2.2.2.2.2.1
def f_aggSum (o : Ob) : Int64 := o.2.2.2.2.2.2.2.2.2.2.2.2.2.2.2.2.2.2.2.2.2.2.1
def f_aggCount (o : Ob) : Int32 := o.2.2.2.2.2.2.2.2.2.2.2.2.2.2.2.2.2.2.2.2.2.2.2.1
def f_aggRows (o : Ob) : Int32 := o.2.2.2.2.2.2.2.2.2.2.2.2.2.2.2.2.2.2.2.2.2.2.2.2.1
def f_aggMin (o : Ob) : Int32 := o.2.2.2.2.2.2.2.2.2.2.2.2.2.2.2.2.2.2.2.2.2.2.2.2.2.1
def f_aggMax (o : Ob) : Int32 := o.2.2.2.2.2.2.2.2.2.2.2.2.2.2.2.2.2.2.2.2.2.2.2.2.2.2
def s_part (o : Ob) (v : List Int32) : Ob := (v, o.2.1, o.2.2.1, o.2.2.2.1, o.2.2.2.2.1, o.2.2.2.2.2.1, o.2.2.2.2.2.2.1, o.2.2.2.2.2.2.2.1, o.2.2.2.2.2.2.2.2.1, o.2.2.2.2.2.2.2.2.2.1, o.2.2.2.2.2.2.2.2.2.2.1, o.2.2.2.2.2.2.2.2.2.2.2.1, o.2.2.2.2.2.2.2.2.2.2.2.2.1, o.2.2.2.2.2.2.2.2.2.2.2.2.2.1, o.2.2.2.2.2.2.2.2.2.2.2.2.2.2.1, o.2.2.2.2.2.2.2.2.2.2.2.2.2.2.2.1, o.2.2.2.2.2.2.2.2.2.2.2.2.2.2.2.2.1, o.2.2.2.2.2.2.2.2.2.2.2.2.2.2.2.2.2.1, o.2.2.2.2.2.2.2.2.2.2.2.2.2.2.2.2.2.2.1, o.2.2.2.2.2.2.2.2.2.2.2.2.2.2.2.2.2.2.2.1, o.2.2.2.2.2.2.2.2.2.2.2.2.2.2.2.2.2.2.2.2.1, o.2.2.2.2.2.2.2.2.2.2.2.2.2.2.2.2.2.2.2.2.2.1, o.2.2.2.2.2.2.2.2.2.2.2.2.2.2.2.2.2.2.2.2.2.2.1, o.2.2.2.2.2.2.2.2.2.2.2.2.2.2.2.2.2.2.2.2.2.2.2.1, o.2.2.2.2.2.2.2.2.2.2.2.2.2.2.2.2.2.2.2.2.2.2.2.2.1, o.2.2.2.2.2.2.2.2.2.2.2.2.2.2.2.2.2.2.2.2.2.2.2.2.2.1, o.2.2.2.2.2.2.2.2.2.2.2.2.2.2.2.2.2.2.2.2.2.2.2.2.2.2)
def s_keys (o : Ob) (v : List Int32) : Ob := (o.1, v, o.2.2.1, o.2.2.2.1, o.2.2.2.2.1, o.2.2.2.2.2.1, o.2.2.2.2.2.2.1, o.2.2.2.2.2.2.2.1, o.2.2.2.2.2.2.2.2.1, o.2.2.2.2.2.2.2.2.2.1, o.2.2.2.2.2.2.2.2.2.2.1, o.2.2.2.2.2.2.2.2.2.2.2.1, o.2.2.2.2.2.2.2.2.2.2.2.2.1, o.2.2.2.2.2.2.2.2.2.2.2.2.2.1, o.2.2.2.2.2.2.2.2.2.2.2.2.2.2.1, o.2.2.2.2.2.2.2.2.2.2.2.2.2.2.2.1, o.2.2.2.2.2.2.2.2.2.2.2.2.2.2.2.2.1, o.2.2.2.2.2.2.2.2.2.2.2.2.2.2.2.2.2.1, o.2.2.2.2.2.2.2.2.2.2.2.2.2.2.2.2.2.2.1, o.2.2.2.2.2.2.2.2.2.2.2.2.2.2.2.2.2.2.2.1, o.2.2.2.2.2.2.2.2.2.2.2.2.2.2.2.2.2.2.2.2.1, o.2.2.2.2.2.2.2.2.2.2.2.2.2.2.2.2.2.2.2.2.2.1, o.2.2.2.2.2.2.2.2.2.2.2.2.2.2.2.2.2.2.2.2.2.2.1, o.2.2.2.2.2.2.2.2.2.2.2.2.2.2.2.2.2.2.2.2.2.2.2.1, o.2.2.2.2.2.2.2.2.2.2.2.2.2.2.2.2.2.2.2.2.2.2.2.2.1, o.2.2.2.2.2.2.2.2.2.2.2.2.2.2.2.2.2.2.2.2.2.2.2.2.2.1, o.2.2.2.2.2.2.2.2.2.2.2.2.2.2.2.2.2.2.2.2.2.2.2.2.2.2)
def s_vals (o : Ob) (v : List Int32) : Ob := (o.1, o.2.1, v, o.2.2.2.1, o.2.2.2.2.1, o.2.2.2.2.2.1, o.2.2.2.2.2.2.1, o.2.2.2.2.2.2.2.1, o.2.2.2.2.2.2.2.2.1, o.2.2.2.2.2.2.2.2.2.1, o.2.2.2.2.2.2.2.2.2.2.1, o.2.2.2.2.2.2.2.2.2.2.2.1, o.2.2.2.2.2.2.2.2.2.2.2.2.1, o.2.2.2.2.2.2.2.2.2.2.2.2.2.1, o.2.2.2.2.2.2.2.2.2.2.2.2.2.2.1, o.2.2.2.2.2.2.2.2.2.2.2.2.2.2.2.1, o.2.2.2.2.2.2.2.2.2.2.2.2.2.2.2.2.1, o.2.2.2.2.2.2.2.2.2.2.2.2.2.2.2.2.2.1, o.2.2.2.2.2.2.2.2.2.2.2.2.2.2.2.2.2.2.1, o.2.2.2.2.2.2.2.2.2.2.2.2.2.2.2.2.2.2.2.1, o.2.2.2.2.2.2.2.2.2.2.2.2.2.2.2.2.2.2.2.2.1, o.2.2.2.2.2.2.2.2.2.2.2.2.2.2.2.2.2.2.2.2.2.1, o.2.2.2.2.2.2.2.2.2.2.2.2.2.2.2.2.2.2.2.2.2.2.1, o.2.2.2.2.2.2.2.2.2.2.2.2.2.2.2.2.2.2.2.2.2.2.2.1, o.2.2.2.2.2.2.2.2.2.2.2.2.2.2.2.2.2.2.2.2.2.2.2.2.1, o.2.2.2.2.2.2.2.2.2.2.2.2.2.2.2.2.2.2.2.2.2.2.2.2.2.1, o.2.2.2.2.2.2.2.2.2.2.2.2.2.2.2.2.2.2.2.2.2.2.2.2.2.2)
def s_flg (o : Ob) (v : List Int32) : Ob := (o.1, o.2.1, o.2.2.1, v, o.2.2.2.2.1, o.2.2.2.2.2.1, o.2.2.2.2.2.2.1, o.2.2.2.2.2.2.2.1, o.2.2.2.2.2.2.2.2.1, o.2.2.2.2.2.2.2.2.2.1, o.2.2.2.2.2.2.2.2.2.2.1, o.2.2.2.2.2.2.2.2.2.2.2.1, o.2.2.2.2.2.2.2.2.2.2.2.2.1, o.2.2.2.2.2.2.2.2.2.2.2.2.2.1, o.2.2.2.2.2.2.2.2.2.2.2.2.2.2.1, o.2.2.2.2.2.2.2.2.2.2.2.2.2.2.2.1, o.2.2.2.2.2.2.2.2.2.2.2.2.2.2.2.2.1, o.2.2.2.2.2.2.2.2.2.2.2.2.2.2.2.2.2.1, o.2.2.2.2.2.2.2.2.2.2.2.2.2.2.2.2.2.2.1, o.2.2.2.2.2.2.2.2.2.2.2.2.2.2.2.2.2.2.2.1, o.2.2.2.2.2.2.2.2.2.2.2.2.2.2.2.2.2.2.2.2.1, o.2.2.2.2.2.2.2.2.2.2.2.2.2.2.2.2.2.2.2.2.2.1, o.2.2.2.2.2.2.2.2.2.2.2.2.2.2.2.2.2.2.2.2.2.2.1, o.2.2.2.2.2.2.2.2.2.2.2.2.2.2.2.2.2.2.2.2.2.2.2.1, o.2.2.2.2.2.2.2.2.2.2.2.2.2.2.2.2.2.2.2.2.2.2.2.2.1, o.2.2.2.2.2.2.2.2.2.2.2.2.2.2.2.2.2.2.2.2.2.2.2.2.2.1, o.2.2.2.2.2.2.2.2.2.2.2.2.2.2.2.2.2.2.2.2.2.2.2.2.2.2)
def s_res (o : Ob) (v : List Int64) : Ob := (o.1, o.2.1, o.2.2.1, o.2.2.2.1, v, o.2.2.2.2.2.1, o.2.2.2.2.2.2.1, o.2.2.2.2.2.2.2.1, o.2.2.2.2.2.2.2.2.1, o.2.2.2.2.2.2.2.2.2.1, o.2.2.2.2.2.2.2.2.2.2.1, o.2.2.2.2.2.2.2.2.2.2.2.1, o.2.2.2.2.2.2.2.2.2.2.2.2.1, o.2.2.2.2.2.2.2.2.2.2.2.2.2.1, o.2.2.2.2.2.2.2.2.2.2.2.2.2.2.1, o.2.2.2.2.2.2.2.2.2.2.2.2.2.2.2.1, o.2.2.2.2.2.2.2.2.2.2.2.2.2.2.2.2.1, o.2.2.2.2.2.2.2.2.2.2.2.2.2.2.2.2.2.1, o.2.2.2.2.2.2.2.2.2.2.2.2.2.2.2.2.2.2.1, o.2.2.2.2.2.2.2.2.2.2.2.2.2.2.2.2.2.2.2.1, o.2.2.2.2.2.2.2.2.2.2.2.2.2.2.2.2.2.2.2.2.1, o.2.2.2.2.2.2.2.2.2.2.2.2.2.2.2.2.2.2.2.2.2.1, o.2.2.2.2.2.2.2.2.2.2.2.2.2.2.2.2.2.2.2.2.2.2.1, o.2.2.2.2.2.2.2.2.2.2.2.2.2.2.2.2.2.2.2.2.2.2.2.1, o.2.2.2.2.2.2.2.2.2.2.2.2.2.2.2.2.2.2.2.2.2.2.2.2.1, o.2.2.2.2.2.2.2.2.2.2.2.2.2.2.2.2.2.2.2.2.2.2.2.2.2.1, o.2.2.2.2.2.2.2.2.2.2.2.2.2.2.2.2.2.2.2.2.2.2.2.2.2.2)
def s_resNull (o : Ob) (v : List Int32) : Ob := (o.1, o.2.1, o.2.2.1, o.2.2.2.1, o.2.2.2.2.1, v, o.2.2.2.2.2.2.1, o.2.2.2.2.2.2.2.1, o.2.2.2.2.2.2.2.2.1, o.2.2.2.2.2.2.2.2.2.1, o.2.2.2.2.2.2.2.2.2.2.1, o.2.2.2.2.2.2.2.2.2.2.2.1, o.2.2.2.2.2.2.2.2.2.2.2.2.1, o.2.2.2.2.2.2.2.2.2.2.2.2.2.1, o.2.2.2.2.2.2.2.2.2.2.2.2.2.2.1, o.2.2.2.2.2.2.2.2.2.2.2.2.2.2.2.1, o.2.2.2.2.2.2.2.2.2.2.2.2.2.2.2.2.1, o.2.2.2.2.2.2.2.2.2.2.2.2.2.2.2.2.2.1, o.2.2.2.2.2.2.2.2.2.2.2.2.2.2.2.2.2.2.1, o.2.2.2.2.2.2.2.2.2.2.2.2.2.2.2.2.2.2.2.1, o.2.2.2.2.2.2.2.2.2.2.2.2.2.2.2.2.2.2.2.2.1, o.2.2.2.2.2.2.2.2.2.2.2.2.2.2.2.2.2.2.2.2.2.1, o.2.2.2.2.2.2.2.2.2.2.2.2.2.2.2.2.2.2.2.2.2.2.1, o.2.2.2.2.2.2.2.2.2.2.2.2.2.2.2.2.2.2.2.2.2.2.2.1, o.2.2.2.2.2.2.2.2.2.2.2.2.2.2.2.2.2.2.2.2.2.2.2.2.1, o.2.2.2.2.2.2.2.2.2.2.2.2.2.2.2.2.2.2.2.2.2.2.2.2.2.1, o.2.2.2.2.2.2.2.2.2.2.2.2.2.2.2.2.2.2.2.2.2.2.2.2.2.2)
def s_frameCnt (o : Ob) (v : List Int32) : Ob := (o.1, o.2.1, o.2.2.1, o.2.2.2.1, o.2.2.2.2.1, o.2.2.2.2.2.1, v, o.2.2.2.2.2.2.2.1, o.2.2.2.2.2.2.2.2.1, o.2.2.2.2.2.2.2.2.2.1, o.2.2.2.2.2.2.2.2.2.2.1, o.2.2.2.2.2.2.2.2.2.2.2.1, o.2.2.2.2.2.2.2.2.2.2.2.2.1, o.2.2.2.2.2.2.2.2.2.2.2.2.2.1, o.2.2.2.2.2.2.2.2.2.2.2.2.2.2.1, o.2.2.2.2.2.2.2.2.2.2.2.2.2.2.2.1, o.2.2.2.2.2.2.2.2.2.2.2.2.2.2.2.2.1, o.2.2.2.2.2.2.2.2.2.2.2.2.2.2.2.2.2.1, o.2.2.2.2.2.2.2.2.2.2.2.2.2.2.2.2.2.2.1, o.2.2.2.2.2.2.2.2.2.2.2.2.2.2.2.2.2.2.2.1, o.2.2.2.2.2.2.2.2.2.2.2.2.2.2.2.2.2.2.2.2.1, o.2.2.2.2.2.2.2.2.2.2.2.2.2.2.2.2.2.2.2.2.2.1, o.2.2.2.2.2.2.2.2.2.2.2.2.2.2.2.2.2.2.2.2.2.2.1, o.2.2.2.2.2.2.2.2.2.2.2.2.2.2.2.2.2.2.2.2.2.2.2.1, o.2.2.2.2.2.2.2.2.2.2.2.2.2.2.2.2.2.2.2.2.2.2.2.2.1, o.2.2.2.2.2.2.2.2.2.2.2.2.2.2.2.2.2.2.2.2.2.2.2.2.2.1, o.2.2.2.2.2.2.2.2.2.2.2.2.2.2.2.2.2.2.2.2.2.2.2.2.2.2)
def s_sorted (o : Ob) (v : List Int32) : Ob := (o.1, o.2.1, o.2.2.1, o.2.2.2.1, o.2.2.2.2.1, o.2.2.2.2.2.1, o.2.2.2.2.2.2.1, v, o.2.2.2.2.2.2.2.2.1, o.2.2.2.2.2.2.2.2.2.1, o.2.2.2.2.2.2.2.2.2.2.1, o.2.2.2.2.2.2.2.2.2.2.2.1, o.2.2.2.2.2.2.2.2.2.2.2.2.1, o.2.2.2.2.2.2.2.2.2.2.2.2.2.1, o.2.2.2.2.2.2.2.2.2.2.2.2.2.2.1, o.2.2.2.2.2.2.2.2.2.2.2.2.2.2.2.1, o.2.2.2.2.2.2.2.2.2.2.2.2.2.2.2.2.1, o.2.2.2.2.2.2.2.2.2.2.2.2.2.2.2.2.2.1, o.2.2.2.2.2.2.2.2.2.2.2.2.2.2.2.2.2.2.1, o.2.2.2.2.2.2.2.2.2.2.2.2.2.2.2.2.2.2.2.1, o.2.2.2.2.2.2.2.2.2.2.2.2.2.2.2.2.2.2.2.2.1, o.2.2.2.2.2.2.2.2.2.2.2.2.2.2.2.2.2.2.2.2.2.1, o.2.2.2.2.2.2.2.2.2.2.2.2.2.2.2.2.2.2.2.2.2.2.1, o.2.2.2.2.2.2.2.2.2.2.2.2.2.2.2.2.2.2.2.2.2.2.2.1, o.2.2.2.2.2.2.2.2.2.2.2.2.2.2.2.2.2.2.2.2.2.2.2.2.1, o.2.2.2.2.2.2.2.2.2.2.2.2.2.2.2.2.2.2.2.2.2.2.2.2.2.1, o.2.2.2.2.2.2.2.2.2.2.2.2.2.2.2.2.2.2.2.2.2.2.2.2.2.2)
def s_cap (o : Ob) (v : Int32) : Ob := (o.1, o.2.1, o.2.2.1, o.2.2.2.1, o.2.2.2.2.1, o.2.2.2.2.2.1, o.2.2.2.2.2.2.1, o.2.2.2.2.2.2.2.1, v, o.2.2.2.2.2.2.2.2.2.1, o.2.2.2.2.2.2.2.2.2.2.1, o.2.2.2.2.2.2.2.2.2.2.2.1, o.2.2.2.2.2.2.2.2.2.2.2.2.1, o.2.2.2.2.2.2.2.2.2.2.2.2.2.1, o.2.2.2.2.2.2.2.2.2.2.2.2.2.2.1, o.2.2.2.2.2.2.2.2.2.2.2.2.2.2.2.1, o.2.2.2.2.2.2.2.2.2.2.2.2.2.2.2.2.1, o.2.2.2.2.2.2.2.2.2.2.2.2.2.2.2.2.2.1, o.2.2.2.2.2.2.2.2.2.2.2.2.2.2.2.2.2.2.1, o.2.2.2.2.2.2.2.2.2.2.2.2.2.2.2.2.2.2.2.1, o.2.2.2.2.2.2.2.2.2.2.2.2.2.2.2.2.2.2.2.2.1, o.2.2.2.2.2.2.2.2.2.2.2.2.2.2.2.2.2.2.2.2.2.1, o.2.2.2.2.2.2.2.2.2.2.2.2.2.2.2.2.2.2.2.2.2.2.1, o.2.2.2.2.2.2.2.2.2.2.2.2.2.2.2.2.2.2.2.2.2.2.2.1, o.2.2.2.2.2.2.2.2.2.2.2.2.2.2.2.2.2.2.2.2.2.2.2.2.1, o.2.2.2.2.2.2.2.2.2.2.2.2.2.2.2.2.2.2.2.2.2.2.2.2.2.1, o.2.2.2.2.2.2.2.2.2.2.2.2.2.2.2.2.2.2.2.2.2.2.2.2.2.2)
def s_rows (o : Ob) (v : Int32) : Ob := (o.1, o.2.1, o.2.2.1, o.2.2.2.1, o.2.2.2.2.1, o.2.2.2.2.2.1, o.2.2.2.2.2.2.1, o.2.2.2.2.2.2.2.1, o.2.2.2.2.2.2.2.2.1, v, o.2.2.2.2.2.2.2.2.2.2.1, o.2.2.2.2.2.2.2.2.2.2.2.1, o.2.2.2.2.2.2.2.2.2.2.2.2.1, o.2.2.2.2.2.2.2.2.2.2.2.2.2.1, o.2.2.2.2.2.2.2.2.2.2.2.2.2.2.1, o.2.2.2.2.2.2.2.2.2.2.2.2.2.2.2.1, o.2.2.2.2.2.2.2.2.2.2.2.2.2.2.2.2.1, o.2.2.2.2.2.2.2.2.2.2.2.2.2.2.2.2.2.1, o.2.2.2.2.2.2.2.2.2.2.2.2.2.2.2.2.2.2.1, o.2.2.2.2.2.2.2.2.2.2.2.2.2.2.2.2.2.2.2.1, o.2.2.2.2.2.2.2.2.2.2.2.2.2.2.2.2.2.2.2.2.1, o.2.2.2.2.2.2.2.2.2.2.2.2.2.2.2.2.2.2.2.2.2.1, o.2.2.2.2.2.2.2.2.2.2.2.2.2.2.2.2.2.2.2.2.2.2.1, o.2.2.2.2.2.2.2.2.2.2.2.2.2.2.2.2.2.2.2.2.2.2.2.1, o.2.2.2.2.2.2.2.2.2.2.2.2.2.2.2.2.2.2.2.2.2.2.2.2.1, o.2.2.2.2.2.2.2.2.2.2.2.2.2.2.2.2.2.2.2.2.2.2.2.2.2.1, o.2.2.2.2.2.2.2.2.2.2.2.2.2.2.2.2.2.2.2.2.2.2.2.2.2.2)
def s_direction (o : Ob) (v : Int32) : Ob := (o.1, o.2.1, o.2.2.1, o.2.2.2.1, o.2.2.2.2.1, o.2.2.2.2.2.1, o.2.2.2.2.2.2.1, o.2.2.2.2.2.2.2.1, o.2.2.2.2.2.2.2.2.1, o.2.2.2.2.2.2.2.2.2.1, v, o.2.2.2.2.2.2.2.2.2.2.2.1, o.2.2.2.2.2.2.2.2.2.2.2.2.1, o.2.2.2.2.2.2.2.2.2.2.2.2.2.1, o.2.2.2.2.2.2.2.2.2.2.2.2.2.2.1, o.2.2.2.2.2.2.2.2.2.2.2.2.2.2.2.1, o.2.2.2.2.2.2.2.2.2.2.2.2.2.2.2.2.1, o.2.2.2.2.2.2.2.2.2.2.2.2.2.2.2.2.2.1, o.2.2.2.2.2.2.2.2.2.2.2.2.2.2.2.2.2.2.1, o.2.2.2.2.2.2.2.2.2.2.2.2.2.2.2.2.2.2.2.1, o.2.2.2.2.2.2.2.2.2.2.2.2.2.2.2.2.2.2.2.2.1, o.2.2.2.2.2.2.2.2.2.2.2.2.2.2.2.2.2.2.2.2.2.1, o.2.2.2.2.2.2.2.2.2.2.2.2.2.2.2.2.2.2.2.2.2.2.1, o.2.2.2.2.2.2.2.2.2.2.2.2.2.2.2.2.2.2.2.2.2.2.2.1, o.2.2.2.2.2.2.2.2.2.2.2.2.2.2.2.2.2.2.2.2.2.2.2.2.1, o.2.2.2.2.2.2.2.2.2.2.2.2.2.2.2.2.2.2.2.2.2.2.2.2.2.1, o.2.2.2.2.2.2.2.2.2.2.2.2.2.2.2.2.2.2.2.2.2.2.2.2.2.2)
def s_nulls (o : Ob) (v : Int32) : Ob := (o.1, o.2.1, o.2.2.1, o.2.2.2.1, o.2.2.2.2.1, o.2.2.2.2.2.1, o.2.2.2.2.2.2.1, o.2.2.2.2.2.2.2.1, o.2.2.2.2.2.2.2.2.1, o.2.2.2.2.2.2.2.2.2.1, o.2.2.2.2.2.2.2.2.2.2.1, v, o.2.2.2.2.2.2.2.2.2.2.2.2.1, o.2.2.2.2.2.2.2.2.2.2.2.2.2.1, o.2.2.2.2.2.2.2.2.2.2.2.2.2.2.1, o.2.2.2.2.2.2.2.2.2.2.2.2.2.2.2.1, o.2.2.2.2.2.2.2.2.2.2.2.2.2.2.2.2.1, o.2.2.2.2.2.2.2.2.2.2.2.2.2.2.2.2.2.1, o.2.2.2.2.2.2.2.2.2.2.2.2.2.2.2.2.2.2.1, o.2.2.2.2.2.2.2.2.2.2.2.2.2.2.2.2.2.2.2.1, o.2.2.2.2.2.2.2.2.2.2.2.2.2.2.2.2.2.2.2.2.1, o.2.2.2.2.2.2.2.2.2.2.2.2.2.2.2.2.2.2.2.2.2.1, o.2.2.2.2.2.2.2.2.2.2.2.2.2.2.2.2.2.2.2.2.2.2.1, o.2.2.2.2.2.2.2.2.2.2.2.2.2.2.2.2.2.2.2.2.2.2.2.1, o.2.2.2.2.2.2.2.2.2.2.2.2.2.2.2.2.2.2.2.2.2.2.2.2.1, o.2.2.2.2.2.2.2.2.2.2.2.2.2.2.2.2.2.2.2.2.2.2.2.2.2.1, o.2.2.2.2.2.2.2.2.2.2.2.2.2.2.2.2.2.2.2.2.2.2.2.2.2.2)
def s_mode (o : Ob) (v : Int32) : Ob := (o.1, o.2.1, o.2.2.1, o.2.2.2.1, o.2.2.2.2.1, o.2.2.2.2.2.1, o.2.2.2.2.2.2.1, o.2.2.2.2.2.2.2.1, o.2.2.2.2.2.2.2.2.1, o.2.2.2.2.2.2.2.2.2.1, o.2.2.2.2.2.2.2.2.2.2.1, o.2.2.2.2.2.2.2.2.2.2.2.1, v, o.2.2.2.2.2.2.2.2.2.2.2.2.2.1, o.2.2.2.2.2.2.2.2.2.2.2.2.2.2.1, o.2.2.2.2.2.2.2.2.2.2.2.2.2.2.2.1, o.2.2.2.2.2.2.2.2.2.2.2.2.2.2.2.2.1, o.2.2.2.2.2.2.2.2.2.2.2.2.2.2.2.2.2.1, o.2.2.2.2.2.2.2.2.2.2.2.2.2.2.2.2.2.2.1, o.2.2.2.2.2.2.2.2.2.2.2.2.2.2.2.2.2.2.2.1, o.2.2.2.2.2.2.2.2.2.2.2.2.2.2.2.2.2.2.2.2.1, o.2.2.2.2.2.2.2.2.2.2.2.2.2.2.2.2.2.2.2.2.2.1, o.2.2.2.2.2.2.2.2.2.2.2.2.2.2.2.2.2.2.2.2.2.2.1, o.2.2.2.2.2.2.2.2.2.2.2.2.2.2.2.2.2.2.2.2.2.2.2.1, o.2.2.2.2.2.2.2.2.2.2.2.2.2.2.2.2.2.2.2.2.2.2.2.2.1, o.2.2.2.2.2.2.2.2.2.2.2.2.2.2.2.2.2.2.2.2.2.2.2.2.2.1, o.2.2.2.2.2.2.2.2.2.2.2.2.2.2.2.2.2.2.2.2.2.2.2.2.2.2)
def s_startKind (o : Ob) (v : Int32) : Ob := (o.1, o.2.1, o.2.2.1, o.2.2.2.1, o.2.2.2.2.1, o.2.2.2.2.2.1, o.2.2.2.2.2.2.1, o.2.2.2.2.2.2.2.1, o.2.2.2.2.2.2.2.2.1, o.2.2.2.2.2.2.2.2.2.1, o.2.2.2.2.2.2.2.2.2.2.1, o.2.2.2.2.2.2.2.2.2.2.2.1, o.2.2.2.2.2.2.2.2.2.2.2.2.1, v, o.2.2.2.2.2.2.2.2.2.2.2.2.2.2.1, o.2.2.2.2.2.2.2.2.2.2.2.2.2.2.2.1, o.2.2.2.2.2.2.2.2.2.2.2.2.2.2.2.2.1, o.2.2.2.2.2.2.2.2.2.2.2.2.2.2.2.2.2.1, o.2.2.2.2.2.2.2.2.2.2.2.2.2.2.2.2.2.2.1, o.2.2.2.2.2.2.2.2.2.2.2.2.2.2.2.2.2.2.2.1, o.2.2.2.2.2.2.2.2.2.2.2.2.2.2.2.2.2.2.2.2.1, o.2.2.2.2.2.2.2.2.2.2.2.2.2.2.2.2.2.2.2.2.2.1, o.2.2.2.2.2.2.2.2.2.2.2.2.2.2.2.2.2.2.2.2.2.2.1, o.2.2.2.2.2.2.2.2.2.2.2.2.2.2.2.2.2.2.2.2.2.2.2.1, o.2.2.2.2.2.2.2.2.2.2.2.2.2.2.2.2.2.2.2.2.2.2.2.2.1, o.2.2.2.2.2.2.2.2.2.2.2.2.2.2.2.2.2.2.2.2.2.2.2.2.2.1, o.2.2.2.2.2.2.2.2.2.2.2.2.2.2.2.2.2.2.2.2.2.2.2.2.2.2)
def s_startOff (o : Ob) (v : Int32) : Ob := (o.1, o.2.1, o.2.2.1, o.2.2.2.1, o.2.2.2.2.1, o.2.2.2.2.2.1, o.2.2.2.2.2.2.1, o.2.2.2.2.2.2.2.1, o.2.2.2.2.2.2.2.2.1, o.2.2.2.2.2.2.2.2.2.1, o.2.2.2.2.2.2.2.2.2.2.1, o.2.2.2.2.2.2.2.2.2.2.2.1, o.2.2.2.2.2.2.2.2.2.2.2.2.1, o.2.2.2.2.2.2.2.2.2.2.2.2.2.1, v, o.2.2.2.2.2.2.2.2.2.2.2.2.2.2.2.1, o.2.2.2.2.2.2.2.2.2.2.2.2.2.2.2.2.1, o.2.2.2.2.2.2.2.2.2.2.2.2.2.2.2.2.2.1, o.2.2.2.2.2.2.2.2.2.2.2.2.2.2.2.2.2.2.1, o.2.2.2.2.2.2.2.2.2.2.2.2.2.2.2.2.2.2.2.1, o.2.2.2.2.2.2.2.2.2.2.2.2.2.2.2.2.2.2.2.2.1, o.2.2.2.2.2.2.2.2.2.2.2.2.2.2.2.2.2.2.2.2.2.1, o.2.2.2.2.2.2.2.2.2.2.2.2.2.2.2.2.2.2.2.2.2.2.1, o.2.2.2.2.2.2.2.2.2.2.2.2.2.2.2.2.2.2.2.2.2.2.2.1, o.2.2.2.2.2.2.2.2.2.2.2.2.2.2.2.2.2.2.2.2.2.2.2.2.1, o.2.2.2.2.2.2.2.2.2.2.2.2.2.2.2.2.2.2.2.2.2.2.2.2.2.1, o.2.2.2.2.2.2.2.2.2.2.2.2.2.2.2.2.2.2.2.2.2.2.2.2.2.2)
def s_endKind (o : Ob) (v : Int32) : Ob := (o.1, o.2.1, o.2.2.1, o.2.2.2.1, o.2.2.2.2.1, o.2.2.2.2.2.1, o.2.2.2.2.2.2.1, o.2.2.2.2.2.2.2.1, o.2.2.2.2.2.2.2.2.1, o.2.2.2.2.2.2.2.2.2.1, o.2.2.2.2.2.2.2.2.2.2.1, o.2.2.2.2.2.2.2.2.2.2.2.1, o.2.2.2.2.2.2.2.2.2.2.2.2.1, o.2.2.2.2.2.2.2.2.2.2.2.2.2.1, o.2.2.2.2.2.2.2.2.2.2.2.2.2.2.1, v, o.2.2.2.2.2.2.2.2.2.2.2.2.2.2.2.2.1, o.2.2.2.2.2.2.2.2.2.2.2.2.2.2.2.2.2.1, o.2.2.2.2.2.2.2.2.2.2.2.2.2.2.2.2.2.2.1, o.2.2.2.2.2.2.2.2.2.2.2.2.2.2.2.2.2.2.2.1, o.2.2.2.2.2.2.2.2.2.2.2.2.2.2.2.2.2.2.2.2.1, o.2.2.2.2.2.2.2.2.2.2.2.2.2.2.2.2.2.2.2.2.2.1, o.2.2.2.2.2.2.2.2.2.2.2.2.2.2.2.2.2.2.2.2.2.2.1, o.2.2.2.2.2.2.2.2.2.2.2.2.2.2.2.2.2.2.2.2.2.2.2.1, o.2.2.2.2.2.2.2.2.2.2.2.2.2.2.2.2.2.2.2.2.2.2.2.2.1, o.2.2.2.2.2.2.2.2.2.2.2.2.2.2.2.2.2.2.2.2.2.2.2.2.2.1, o.2.2.2.2.2.2.2.2.2.2.2.2.2.2.2.2.2.2.2.2.2.2.2.2.2.2)
def s_endOff (o : Ob) (v : Int32) : Ob := (o.1, o.2.1, o.2.2.1, o.2.2.2.1, o.2.2.2.2.1, o.2.2.2.2.2.1, o.2.2.2.2.2.2.1, o.2.2.2.2.2.2.2.1, o.2.2.2.2.2.2.2.2.1, o.2.2.2.2.2.2.2.2.2.1, o.2.2.2.2.2.2.2.2.2.2.1, o.2.2.2.2.2.2.2.2.2.2.2.1, o.2.2.2.2.2.2.2.2.2.2.2.2.1, o.2.2.2.2.2.2.2.2.2.2.2.2.2.1, o.2.2.2.2.2.2.2.2.2.2.2.2.2.2.1, o.2.2.2.2.2.2.2.2.2.2.2.2.2.2.2.1, v, o.2.2.2.2.2.2.2.2.2.2.2.2.2.2.2.2.2.1, o.2.2.2.2.2.2.2.2.2.2.2.2.2.2.2.2.2.2.1, o.2.2.2.2.2.2.2.2.2.2.2.2.2.2.2.2.2.2.2.1, o.2.2.2.2.2.2.2.2.2.2.2.2.2.2.2.2.2.2.2.2.1, o.2.2.2.2.2.2.2.2.2.2.2.2.2.2.2.2.2.2.2.2.2.1, o.2.2.2.2.2.2.2.2.2.2.2.2.2.2.2.2.2.2.2.2.2.2.1, o.2.2.2.2.2.2.2.2.2.2.2.2.2.2.2.2.2.2.2.2.2.2.2.1, o.2.2.2.2.2.2.2.2.2.2.2.2.2.2.2.2.2.2.2.2.2.2.2.2.1, o.2.2.2.2.2.2.2.2.2.2.2.2.2.2.2.2.2.2.2.2.2.2.2.2.2.1, o.2.2.2.2.2.2.2.2.2.2.2.2.2.2.2.2.2.2.2.2.2.2.2.2.2.2)
def s_fn (o : Ob) (v : Int32) : Ob := (o.1, o.2.1, o.2.2.1, o.2.2.2.1, o.2.2.2.2.1, o.2.2.2.2.2.1, o.2.2.2.2.2.2.1, o.2.2.2.2.2.2.2.1, o.2.2.2.2.2.2.2.2.1, o.2.2.2.2.2.2.2.2.2.1, o.2.2.2.2.2.2.2.2.2.2.1, o.2.2.2.2.2.2.2.2.2.2.2.1, o.2.2.2.2.2.2.2.2.2.2.2.2.1, o.2.2.2.2.2.2.2.2.2.2.2.2.2.1, o.2.2.2.2.2.2.2.2.2.2.2.2.2.2.1, o.2.2.2.2.2.2.2.2.2.2.2.2.2.2.2.1, o.2.2.2.2.2.2.2.2.2.2.2.2.2.2.2.2.1, v, o.2.2.2.2.2.2.2.2.2.2.2.2.2.2.2.2.2.2.1, o.2.2.2.2.2.2.2.2.2.2.2.2.2.2.2.2.2.2.2.1, o.2.2.2.2.2.2.2.2.2.2.2.2.2.2.2.2.2.2.2.2.1, o.2.2.2.2.2.2.2.2.2.2.2.2.2.2.2.2.2.2.2.2.2.1, o.2.2.2.2.2.2.2.2.2.2.2.2.2.2.2.2.2.2.2.2.2.2.1, o.2.2.2.2.2.2.2.2.2.2.2.2.2.2.2.2.2.2.2.2.2.2.2.1, o.2.2.2.2.2.2.2.2.2.2.2.2.2.2.2.2.2.2.2.2.2.2.2.2.1, o.2.2.2.2.2.2.2.2.2.2.2.2.2.2.2.2.2.2.2.2.2.2.2.2.2.1, o.2.2.2.2.2.2.2.2.2.2.2.2.2.2.2.2.2.2.2.2.2.2.2.2.2.2)
def s_fnArg (o : Ob) (v : Int32) : Ob := (o.1, o.2.1, o.2.2.1, o.2.2.2.1, o.2.2.2.2.1, o.2.2.2.2.2.1, o.2.2.2.2.2.2.1, o.2.2.2.2.2.2.2.1, o.2.2.2.2.2.2.2.2.1, o.2.2.2.2.2.2.2.2.2.1, o.2.2.2.2.2.2.2.2.2.2.1, o.2.2.2.2.2.2.2.2.2.2.2.1, o.2.2.2.2.2.2.2.2.2.2.2.2.1, o.2.2.2.2.2.2.2.2.2.2.2.2.2.1, o.2.2.2.2.2.2.2.2.2.2.2.2.2.2.1, o.2.2.2.2.2.2.2.2.2.2.2.2.2.2.2.1, o.2.2.2.2.2.2.2.2.2.2.2.2.2.2.2.2.1, o.2.2.2.2.2.2.2.2.2.2.2.2.2.2.2.2.2.1, v, o.2.2.2.2.2.2.2.2.2.2.2.2.2.2.2.2.2.2.2.1, o.2.2.2.2.2.2.2.2.2.2.2.2.2.2.2.2.2.2.2.2.1, o.2.2.2.2.2.2.2.2.2.2.2.2.2.2.2.2.2.2.2.2.2.1, o.2.2.2.2.2.2.2.2.2.2.2.2.2.2.2.2.2.2.2.2.2.2.1, o.2.2.2.2.2.2.2.2.2.2.2.2.2.2.2.2.2.2.2.2.2.2.2.1, o.2.2.2.2.2.2.2.2.2.2.2.2.2.2.2.2.2.2.2.2.2.2.2.2.1, o.2.2.2.2.2.2.2.2.2.2.2.2.2.2.2.2.2.2.2.2.2.2.2.2.2.1, o.2.2.2.2.2.2.2.2.2.2.2.2.2.2.2.2.2.2.2.2.2.2.2.2.2.2)
def s_computed (o : Ob) (v : Int32) : Ob := (o.1, o.2.1, o.2.2.1, o.2.2.2.1, o.2.2.2.2.1, o.2.2.2.2.2.1, o.2.2.2.2.2.2.1, o.2.2.2.2.2.2.2.1, o.2.2.2.2.2.2.2.2.1, o.2.2.2.2.2.2.2.2.2.1, o.2.2.2.2.2.2.2.2.2.2.1, o.2.2.2.2.2.2.2.2.2.2.2.1, o.2.2.2.2.2.2.2.2.2.2.2.2.1, o.2.2.2.2.2.2.2.2.2.2.2.2.2.1, o.2.2.2.2.2.2.2.2.2.2.2.2.2.2.1, o.2.2.2.2.2.2.2.2.2.2.2.2.2.2.2.1, o.2.2.2.2.2.2.2.2.2.2.2.2.2.2.2.2.1, o.2.2.2.2.2.2.2.2.2.2.2.2.2.2.2.2.2.1, o.2.2.2.2.2.2.2.2.2.2.2.2.2.2.2.2.2.2.1, v, o.2.2.2.2.2.2.2.2.2.2.2.2.2.2.2.2.2.2.2.2.1, o.2.2.2.2.2.2.2.2.2.2.2.2.2.2.2.2.2.2.2.2.2.1, o.2.2.2.2.2.2.2.2.2.2.2.2.2.2.2.2.2.2.2.2.2.2.1, o.2.2.2.2.2.2.2.2.2.2.2.2.2.2.2.2.2.2.2.2.2.2.2.1, o.2.2.2.2.2.2.2.2.2.2.2.2.2.2.2.2.2.2.2.2.2.2.2.2.1, o.2.2.2.2.2.2.2.2.2.2.2.2.2.2.2.2.2.2.2.2.2.2.2.2.2.1, o.2.2.2.2.2.2.2.2.2.2.2.2.2.2.2.2.2.2.2.2.2.2.2.2.2.2)
def s_sortedLen (o : Ob) (v : Int32) : Ob := (o.1, o.2.1, o.2.2.1, o.2.2.2.1, o.2.2.2.2.1, o.2.2.2.2.2.1, o.2.2.2.2.2.2.1, o.2.2.2.2.2.2.2.1, o.2.2.2.2.2.2.2.2.1, o.2.2.2.2.2.2.2.2.2.1, o.2.2.2.2.2.2.2.2.2.2.1, o.2.2.2.2.2.2.2.2.2.2.2.1, o.2.2.2.2.2.2.2.2.2.2.2.2.1, o.2.2.2.2.2.2.2.2.2.2.2.2.2.1, o.2.2.2.2.2.2.2.2.2.2.2.2.2.2.1, o.2.2.2.2.2.2.2.2.2.2.2.2.2.2.2.1, o.2.2.2.2.2.2.2.2.2.2.2.2.2.2.2.2.1, o.2.2.2.2.2.2.2.2.2.2.2.2.2.2.2.2.2.1, o.2.2.2.2.2.2.2.2.2.2.2.2.2.2.2.2.2.2.1, o.2.2.2.2.2.2.2.2.2.2.2.2.2.2.2.2.2.2.2.1, v, o.2.2.2.2.2.2.2.2.2.2.2.2.2.2.2.2.2.2.2.2.2.1, o.2.2.2.2.2.2.2.2.2.2.2.2.2.2.2.2.2.2.2.2.2.2.1, o.2.2.2.2.2.2.2.2.2.2.2.2.2.2.2.2.2.2.2.2.2.2.2.1, o.2.2.2.2.2.2.2.2.2.2.2.2.2.2.2.2.2.2.2.2.2.2.2.2.1, o.2.2.2.2.2.2.2.2.2.2.2.2.2.2.2.2.2.2.2.2.2.2.2.2.2.1, o.2.2.2.2.2.2.2.2.2.2.2.2.2.2.2.2.2.2.2.2.2.2.2.2.2.2)
def s_curPos (o : Ob) (v : Int32) : Ob := (o.1, o.2.1, o.2.2.1, o.2.2.2.1, o.2.2.2.2.1, o.2.2.2.2.2.1, o.2.2.2.2.2.2.1, o.2.2.2.2.2.2.2.1, o.2.2.2.2.2.2.2.2.1, o.2.2.2.2.2.2.2.2.2.1, o.2.2.2.2.2.2.2.2.2.2.1, o.2.2.2.2.2.2.2.2.2.2.2.1, o.2.2.2.2.2.2.2.2.2.2.2.2.1, o.2.2.2.2.2.2.2.2.2.2.2.2.2.1, o.2.2.2.2.2.2.2.2.2.2.2.2.2.2.1, o.2.2.2.2.2.2.2.2.2.2.2.2.2.2.2.1, o.2.2.2.2.2.2.2.2.2.2.2.2.2.2.2.2.1, o.2.2.2.2.2.2.2.2.2.2.2.2.2.2.2.2.2.1, o.2.2.2.2.2.2.2.2.2.2.2.2.2.2.2.2.2.2.1, o.2.2.2.2.2.2.2.2.2.2.2.2.2.2.2.2.2.2.2.1, o.2.2.2.2.2.2.2.2.2.2.2.2.2.2.2.2.2.2.2.2.1, v, o.2.2.2.2.2.2.2.2.2.2.2.2.2.2.2.2.2.2.2.2.2.2.1, o.2.2.2.2.2.2.2.2.2.2.2.2.2.2.2.2.2.2.2.2.2.2.2.1, o.2.2.2.2.2.2.2.2.2.2.2.2.2.2.2.2.2.2.2.2.2.2.2.2.1, o.2.2.2.2.2.2.2.2.2.2.2.2.2.2.2.2.2.2.2.2.2.2.2.2.2.1, o.2.2.2.2.2.2.2.2.2.2.2.2.2.2.2.2.2.2.2.2.2.2.2.2.2.2)
def s_aggSum (o : Ob) (v : Int64) : Ob := (o.1, o.2.1, o.2.2.1, o.2.2.2.1, o.2.2.2.2.1, o.2.2.2.2.2.1, o.2.2.2.2.2.2.1, o.2.2.2.2.2.2.2.1, o.2.2.2.2.2.2.2.2.1, o.2.2.2.2.2.2.2.2.2.1, o.2.2.2.2.2.2.2.2.2.2.1, o.2.2.2.2.2.2.2.2.2.2.2.1, o.2.2.2.2.2.2.2.2.2.2.2.2.1, o.2.2.2.2.2.2.2.2.2.2.2.2.2.1, o.2.2.2.2.2.2.2.2.2.2.2.2.2.2.1, o.2.2.2.2.2.2.2.2.2.2.2.2.2.2.2.1, o.2.2.2.2.2.2.2.2.2.2.2.2.2.2.2.2.1, o.2.2.2.2.2.2.2.2.2.2.2.2.2.2.2.2.2.1, o.2.2.2.2.2.2.2.2.2.2.2.2.2.2.2.2.2.2.1, o.2.2.2.2.2.2.2.2.2.2.2.2.2.2.2.2.2.2.2.1, o.2.2.2.2.2.2.2.2.2.2.2.2.2.2.2.2.2.2.2.2.1, o.2.2.2.2.2.2.2.2.2.2.2.2.2.2.2.2.2.2.2.2.2.1, v, o.2.2.2.2.2.2.2.2.2.2.2.2.2.2.2.2.2.2.2.2.2.2.2.1, o.2.2.2.2.2.2.2.2.2.2.2.2.2.2.2.2.2.2.2.2.2.2.2.2.1, o.2.2.2.2.2.2.2.2.2.2.2.2.2.2.2.2.2.2.2.2.2.2.2.2.2.1, o.2.2.2.2.2.2.2.2.2.2.2.2.2.2.2.2.2.2.2.2.2.2.2.2.2.2)
def s_aggCount (o : Ob) (v : Int32) : Ob := (o.1, o.2.1, o.2.2.1, o.2.2.2.1, o.2.2.2.2.1, o.2.2.2.2.2.1, o.2.2.2.2.2.2.1, o.2.2.2.2.2.2.2.1, o.2.2.2.2.2.2.2.2.1, o.2.2.2.2.2.2.2.2.2.1, o.2.2.2.2.2.2.2.2.2.2.1, o.2.2.2.2.2.2.2.2.2.2.2.1, o.2.2.2.2.2.2.2.2.2.2.2.2.1, o.2.2.2.2.2.2.2.2.2.2.2.2.2.1, o.2.2.2.2.2.2.2.2.2.2.2.2.2.2.1, o.2.2.2.2.2.2.2.2.2.2.2.2.2.2.2.1, o.2.2.2.2.2.2.2.2.2.2.2.2.2.2.2.2.1, o.2.2.2.2.2.2.2.2.2.2.2.2.2.2.2.2.2.1, o.2.2.2.2.2.2.2.2.2.2.2.2.2.2.2.2.2.2.1, o.2.2.2.2.2.2.2.2.2.2.2.2.2.2.2.2.2.2.2.1, o.2.2.2.2.2.2.2.2.2.2.2.2.2.2.2.2.2.2.2.2.1, o.2.2.2.2.2.2.2.2.2.2.2.2.2.2.2.2.2.2.2.2.2.1, o.2.2.2.2.2.2.2.2.2.2.2.2.2.2.2.2.2.2.2.2.2.2.1, v, o.2.2.2.2.2.2.2.2.2.2.2.2.2.2.2.2.2.2.2.2.2.2.2.2.1, o.2.2.2.2.2.2.2.2.2.2.2.2.2.2.2.2.2.2.2.2.2.2.2.2.2.1, o.2.2.2.2.2.2.2.2.2.2.2.2.2.2.2.2.2.2.2.2.2.2.2.2.2.2)
def s_aggRows (o : Ob) (v : Int32) : Ob := (o.1, o.2.1, o.2.2.1, o.2.2.2.1, o.2.2.2.2.1, o.2.2.2.2.2.1, o.2.2.2.2.2.2.1, o.2.2.2.2.2.2.2.1, o.2.2.2.2.2.2.2.2.1, o.2.2.2.2.2.2.2.2.2.1, o.2.2.2.2.2.2.2.2.2.2.1, o.2.2.2.2.2.2.2.2.2.2.2.1, o.2.2.2.2.2.2.2.2.2.2.2.2.1, o.2.2.2.2.2.2.2.2.2.2.2.2.2.1, o.2.2.2.2.2.2.2.2.2.2.2.2.2.2.1, o.2.2.2.2.2.2.2.2.2.2.2.2.2.2.2.1, o.2.2.2.2.2.2.2.2.2.2.2.2.2.2.2.2.1, o.2.2.2.2.2.2.2.2.2.2.2.2.2.2.2.2.2.1, o.2.2.2.2.2.2.2.2.2.2.2.2.2.2.2.2.2.2.1, o.2.2.2.2.2.2.2.2.2.2.2.2.2.2.2.2.2.2.2.1, o.2.2.2.2.2.2.2.2.2.2.2.2.2.2.2.2.2.2.2.2.1, o.2.2.2.2.2.2.2.2.2.2.2.2.2.2.2.2.2.2.2.2.2.1, o.2.2.2.2.2.2.2.2.2.2.2.2.2.2.2.2.2.2.2.2.2.2.1, o.2.2.2.2.2.2.2.2.2.2.2.2.2.2.2.2.2.2.2.2.2.2.2.1, v, o.2.2.2.2.2.2.2.2.2.2.2.2.2.2.2.2.2.2.2.2.2.2.2.2.2.1, o.2.2.2.2.2.2.2.2.2.2.2.2.2.2.2.2.2.2.2.2.2.2.2.2.2.2)
def s_aggMin (o : Ob) (v : Int32) : Ob := (o.1, o.2.1, o.2.2.1, o.2.2.2.1, o.2.2.2.2.1, o.2.2.2.2.2.1, o.2.2.2.2.2.2.1, o.2.2.2.2.2.2.2.1, o.2.2.2.2.2.2.2.2.1, o.2.2.2.2.2.2.2.2.2.1, o.2.2.2.2.2.2.2.2.2.2.1, o.2.2.2.2.2.2.2.2.2.2.2.1, o.2.2.2.2.2.2.2.2.2.2.2.2.1, o.2.2.2.2.2.2.2.2.2.2.2.2.2.1, o.2.2.2.2.2.2.2.2.2.2.2.2.2.2.1, o.2.2.2.2.2.2.2.2.2.2.2.2.2.2.2.1, o.2.2.2.2.2.2.2.2.2.2.2.2.2.2.2.2.1, o.2.2.2.2.2.2.2.2.2.2.2.2.2.2.2.2.2.1, o.2.2.2.2.2.2.2.2.2.2.2.2.2.2.2.2.2.2.1, o.2.2.2.2.2.2.2.2.2.2.2.2.2.2.2.2.2.2.2.1, o.2.2.2.2.2.2.2.2.2.2.2.2.2.2.2.2.2.2.2.2.1, o.2.2.2.2.2.2.2.2.2.2.2.2.2.2.2.2.2.2.2.2.2.1, o.2.2.2.2.2.2.2.2.2.2.2.2.2.2.2.2.2.2.2.2.2.2.1, o.2.2.2.2.2.2.2.2.2.2.2.2.2.2.2.2.2.2.2.2.2.2.2.1, o.2.2.2.2.2.2.2.2.2.2.2.2.2.2.2.2.2.2.2.2.2.2.2.2.1, v, o.2.2.2.2.2.2.2.2.2.2.2.2.2.2.2.2.2.2.2.2.2.2.2.2.2.2)
def s_aggMax (o : Ob) (v : Int32) : Ob := (o.1, o.2.1, o.2.2.1, o.2.2.2.1, o.2.2.2.2.1, o.2.2.2.2.2.1, o.2.2.2.2.2.2.1, o.2.2.2.2.2.2.2.1, o.2.2.2.2.2.2.2.2.1, o.2.2.2.2.2.2.2.2.2.1, o.2.2.2.2.2.2.2.2.2.2.1, o.2.2.2.2.2.2.2.2.2.2.2.1, o.2.2.2.2.2.2.2.2.2.2.2.2.1, o.2.2.2.2.2.2.2.2.2.2.2.2.2.1, o.2.2.2.2.2.2.2.2.2.2.2.2.2.2.1, o.2.2.2.2.2.2.2.2.2.2.2.2.2.2.2.1, o.2.2.2.2.2.2.2.2.2.2.2.2.2.2.2.2.1, o.2.2.2.2.2.2.2.2.2.2.2.2.2.2.2.2.2.1, o.2.2.2.2.2.2.2.2.2.2.2.2.2.2.2.2.2.2.1, o.2.2.2.2.2.2.2.2.2.2.2.2.2.2.2.2.2.2.2.1, o.2.2.2.2.2.2.2.2.2.2.2.2.2.2.2.2.2.2.2.2.1, o.2.2.2.2.2.2.2.2.2.2.2.2.2.2.2.2.2.2.2.2.2.1, o.2.2.2.2.2.2.2.2.2.2.2.2.2.2.2.2.2.2.2.2.2.2.1, o.2.2.2.2.2.2.2.2.2.2.2.2.2.2.2.2.2.2.2.2.2.2.2.1, o.2.2.2.2.2.2.2.2.2.2.2.2.2.2.2.2.2.2.2.2.2.2.2.2.1, o.2.2.2.2.2.2.2.2.2.2.2.2.2.2.2.2.2.2.2.2.2.2.2.2.2.1, v)
theorem fs (o : Ob) : f_part o = o.1 ∧ f_keys o = o.2.1 ∧ f_vals o = o.2.2.1 ∧ f_flg o = o.2.2.2.1 ∧ f_res o = o.2.2.2.2.1 ∧ f_resNull o = o.2.2.2.2.2.1 ∧ f_frameCnt o = o.2.2.2.2.2.2.1 ∧ f_sorted o = o.2.2.2.2.2.2.2.1 ∧ f_cap o = o.2.2.2.2.2.2.2.2.1 ∧ f_rows o = o.2.2.2.2.2.2.2.2.2.1 ∧ f_direction o = o.2.2.2.2.2.2.2.2.2.2.1 ∧ f_nulls o = o.2.2.2.2.2.2.2.2.2.2.2.1 ∧ f_mode o = o.2.2.2.2.2.2.2.2.2.2.2.2.1 ∧ f_startKind o = o.2.2.2.2.2.2.2.2.2.2.2.2.2.1 ∧ f_startOff o = o.2.2.2.2.2.2.2.2.2.2.2.2.2.2.1 ∧ f_endKind o = o.2.2.2.2.2.2.2.2.2.2.2.2.2.2.2.1 ∧ f_endOff o = o.2.2.2.2.2.2.2.2.2.2.2.2.2.2.2.2.1 ∧ f_fn o = o.2.2.2.2.2.2.2.2.2.2.2.2.2.2.2.2.2.1 ∧ f_fnArg o = o.2.2.2.2.2.2.2.2.2.2.2.2.2.2.2.2.2.2.1 ∧ f_computed o = o.2.2.2.2.2.2.2.2.2.2.2.2.2.2.2.2.2.2.2.1 ∧ f_sortedLen o = o.2.2.2.2.2.2.2.2.2.2.2.2.2.2.2.2.2.2.2.2.1 ∧ f_curPos o = o.2.2.2.2.2.2.2.2.2.2.2.2.2.2.2.2.2.2.2.2.2.1 ∧ f_aggSum o = o.2.2.2.2.2.2.2.2.2.2.2.2.2.2.2.2.2.2.2.2.2.2.1 ∧ f_aggCount o = o.2.2.2.2.2.2.2.2.2.2.2.2.2.2.2.2.2.2.2.2.2.2.2.1 ∧ f_aggRows o = o.2.2.2.2.2.2.2.2.2.2.2.2.2.2.2.2.2.2.2.2.2.2.2.2.1 ∧ f_aggMin o = o.2.2.2.2.2.2.2.2.2.2.2.2.2.2.2.2.2.2.2.2.2.2.2.2.2.1 ∧ f_aggMax o = o.2.2.2.2.2.2.2.2.2.2.2.2.2.2.2.2.2.2.2.2.2.2.2.2.2.2 := by simp only [f_part, f_keys, f_vals, f_flg, f_res, f_resNull, f_frameCnt, f_sorted, f_cap, f_rows, f_direction, f_nulls, f_mode, f_startKind, f_startOff, f_endKind, f_endOff, f_fn, f_fnArg, f_computed, f_sortedLen, f_curPos, f_aggSum, f_aggCount, f_aggRows, f_aggMin, f_aggMax, and_self]
def ob0 : Ob := ([], [], [], [], [], [], [], [], 0, 0, 0, 0, 0, 0, 0, 0, 0, 0, 0, 0, 0, 0, 0, 0, 0, 0, 0)
section Walks
variable {l : Launch} {Z : State} {n0 : Nat} {ad : Nat → Addr} {a0 : Array Value}
set_option maxRecDepth 20000
set_option maxHeartbeats 2000000
abbrev tt : Bool := true
abbrev ff : Bool := false
open QTri renaming steps → zS, brT → zT, brF → zF, bnd → zB, mask → zM
open Option (bind_eq_some_iff)
open Classical (em)
def H0 (o0 : Ob) : QHeap := [.inl [.ref 1, .ref 2, .ref 3, .ref 4, .ref 5, .ref 6, .ref 7, .ref 8, .int (f_cap o0), .int (f_rows o0), .int (f_direction o0), .int (f_nulls o0), .int (f_mode o0), .int (f_startKind o0), .int (f_startOff o0), .int (f_endKind o0), .int (f_endOff o0), .int (f_fn o0), .int (f_fnArg o0), .int (f_computed o0), .int (f_sortedLen o0), .int (f_curPos o0), .long (f_aggSum o0), .int (f_aggCount o0), .int (f_aggRows o0), .int (f_aggMin o0), .int (f_aggMax o0)], .inr (.inl (.int, (f_part o0))), .inr (.inl (.int, (f_keys o0))), .inr (.inl (.int, (f_vals o0))), .inr (.inl (.int, (f_flg o0))), .inr (.inr (f_res o0)), .inr (.inl (.boolean, (f_resNull o0))), .inr (.inl (.int, (f_frameCnt o0))), .inr (.inl (.int, (f_sorted o0)))]
def H0v (a0_0 : List Int32) (a0_1 : List Int32) (a0_2 : List Int32) (a0_3 : List Int32) (a0_4 : List Int64) (a0_5 : List Int32) (a0_6 : List Int32) (a0_7 : List Int32) (a0_8 : Int32) (a0_9 : Int32) (a0_10 : Int32) (a0_11 : Int32) (a0_12 : Int32) (a0_13 : Int32) (a0_14 : Int32) (a0_15 : Int32) (a0_16 : Int32) (a0_17 : Int32) (a0_18 : Int32) (a0_19 : Int32) (a0_20 : Int32) (a0_21 : Int32) (a0_22 : Int64) (a0_23 : Int32) (a0_24 : Int32) (a0_25 : Int32) (a0_26 : Int32) : QHeap := [.inl [.ref 1, .ref 2, .ref 3, .ref 4, .ref 5, .ref 6, .ref 7, .ref 8, .int a0_8, .int a0_9, .int a0_10, .int a0_11, .int a0_12, .int a0_13, .int a0_14, .int a0_15, .int a0_16, .int a0_17, .int a0_18, .int a0_19, .int a0_20, .int a0_21, .long a0_22, .int a0_23, .int a0_24, .int a0_25, .int a0_26], .inr (.inl (.int, a0_0)), .inr (.inl (.int, a0_1)), .inr (.inl (.int, a0_2)), .inr (.inl (.int, a0_3)), .inr (.inr a0_4), .inr (.inl (.boolean, a0_5)), .inr (.inl (.int, a0_6)), .inr (.inl (.int, a0_7))]
def H0x0 (o0 : Ob) (a0_0 : List Int32) (a0_1 : List Int32) (a0_2 : List Int32) (a0_3 : List Int32) (a0_4 : List Int64) (a0_5 : List Int32) (a0_6 : List Int32) (a0_7 : List Int32) : QHeap := H0v a0_0 a0_1 a0_2 a0_3 a0_4 a0_5 a0_6 a0_7 (f_cap o0) (f_rows o0) (f_direction o0) (f_nulls o0) (f_mode o0) (f_startKind o0) (f_startOff o0) (f_endKind o0) (f_endOff o0) (f_fn o0) (f_fnArg o0) (f_computed o0) (f_sortedLen o0) (f_curPos o0) (f_aggSum o0) (f_aggCount o0) (f_aggRows o0) (f_aggMin o0) (f_aggMax o0)
def H0x1 (o0 : Ob) (a0_0 : List Int32) (a0_1 : List Int32) (a0_2 : List Int32) (a0_3 : List Int32) (a0_4 : List Int64) (a0_5 : List Int32) (a0_6 : List Int32) (a0_7 : List Int32) (a0_8 : Int32) : QHeap := H0v a0_0 a0_1 a0_2 a0_3 a0_4 a0_5 a0_6 a0_7 a0_8 (f_rows o0) (f_direction o0) (f_nulls o0) (f_mode o0) (f_startKind o0) (f_startOff o0) (f_endKind o0) (f_endOff o0) (f_fn o0) (f_fnArg o0) (f_computed o0) (f_sortedLen o0) (f_curPos o0) (f_aggSum o0) (f_aggCount o0) (f_aggRows o0) (f_aggMin o0) (f_aggMax o0)
def H0x2 (o0 : Ob) (a0_0 : List Int32) (a0_1 : List Int32) (a0_2 : List Int32) (a0_3 : List Int32) (a0_4 : List Int64) (a0_5 : List Int32) (a0_6 : List Int32) (a0_7 : List Int32) (a0_8 : Int32) (a0_9 : Int32) : QHeap := H0v a0_0 a0_1 a0_2 a0_3 a0_4 a0_5 a0_6 a0_7 a0_8 a0_9 (f_direction o0) (f_nulls o0) (f_mode o0) (f_startKind o0) (f_startOff o0) (f_endKind o0) (f_endOff o0) (f_fn o0) (f_fnArg o0) (f_computed o0) (f_sortedLen o0) (f_curPos o0) (f_aggSum o0) (f_aggCount o0) (f_aggRows o0) (f_aggMin o0) (f_aggMax o0)
def H0x3 (o0 : Ob) (a0_10 : Int32) : QHeap := H0v (f_part o0) (f_keys o0) (f_vals o0) (f_flg o0) (f_res o0) (f_resNull o0) (f_frameCnt o0) (f_sorted o0) (f_cap o0) (f_rows o0) a0_10 (f_nulls o0) (f_mode o0) (f_startKind o0) (f_startOff o0) (f_endKind o0) (f_endOff o0) (f_fn o0) (f_fnArg o0) (f_computed o0) (f_sortedLen o0) (f_curPos o0) (f_aggSum o0) (f_aggCount o0) (f_aggRows o0) (f_aggMin o0) (f_aggMax o0)
def H0x4 (o0 : Ob) (a0_10 : Int32) (a0_11 : Int32) : QHeap := H0v (f_part o0) (f_keys o0) (f_vals o0) (f_flg o0) (f_res o0) (f_resNull o0) (f_frameCnt o0) (f_sorted o0) (f_cap o0) (f_rows o0) a0_10 a0_11 (f_mode o0) (f_startKind o0) (f_startOff o0) (f_endKind o0) (f_endOff o0) (f_fn o0) (f_fnArg o0) (f_computed o0) (f_sortedLen o0) (f_curPos o0) (f_aggSum o0) (f_aggCount o0) (f_aggRows o0) (f_aggMin o0) (f_aggMax o0)
def H0x5 (o0 : Ob) (a0_10 : Int32) (a0_11 : Int32) (a0_12 : Int32) : QHeap := H0v (f_part o0) (f_keys o0) (f_vals o0) (f_flg o0) (f_res o0) (f_resNull o0) (f_frameCnt o0) (f_sorted o0) (f_cap o0) (f_rows o0) a0_10 a0_11 a0_12 (f_startKind o0) (f_startOff o0) (f_endKind o0) (f_endOff o0) (f_fn o0) (f_fnArg o0) (f_computed o0) (f_sortedLen o0) (f_curPos o0) (f_aggSum o0) (f_aggCount o0) (f_aggRows o0) (f_aggMin o0) (f_aggMax o0)
def H0x6 (o0 : Ob) (a0_10 : Int32) (a0_11 : Int32) (a0_12 : Int32) (a0_13 : Int32) : QHeap := H0v (f_part o0) (f_keys o0) (f_vals o0) (f_flg o0) (f_res o0) (f_resNull o0) (f_frameCnt o0) (f_sorted o0) (f_cap o0) (f_rows o0) a0_10 a0_11 a0_12 a0_13 (f_startOff o0) (f_endKind o0) (f_endOff o0) (f_fn o0) (f_fnArg o0) (f_computed o0) (f_sortedLen o0) (f_curPos o0) (f_aggSum o0) (f_aggCount o0) (f_aggRows o0) (f_aggMin o0) (f_aggMax o0)
def H0x7 (o0 : Ob) (a0_10 : Int32) (a0_11 : Int32) (a0_12 : Int32) (a0_13 : Int32) (a0_14 : Int32) : QHeap := H0v (f_part o0) (f_keys o0) (f_vals o0) (f_flg o0) (f_res o0) (f_resNull o0) (f_frameCnt o0) (f_sorted o0) (f_cap o0) (f_rows o0) a0_10 a0_11 a0_12 a0_13 a0_14 (f_endKind o0) (f_endOff o0) (f_fn o0) (f_fnArg o0) (f_computed o0) (f_sortedLen o0) (f_curPos o0) (f_aggSum o0) (f_aggCount o0) (f_aggRows o0) (f_aggMin o0) (f_aggMax o0)
def H0x8 (o0 : Ob) (a0_10 : Int32) (a0_11 : Int32) (a0_12 : Int32) (a0_13 : Int32) (a0_14 : Int32) (a0_15 : Int32) : QHeap := H0v (f_part o0) (f_keys o0) (f_vals o0) (f_flg o0) (f_res o0) (f_resNull o0) (f_frameCnt o0) (f_sorted o0) (f_cap o0) (f_rows o0) a0_10 a0_11 a0_12 a0_13 a0_14 a0_15 (f_endOff o0) (f_fn o0) (f_fnArg o0) (f_computed o0) (f_sortedLen o0) (f_curPos o0) (f_aggSum o0) (f_aggCount o0) (f_aggRows o0) (f_aggMin o0) (f_aggMax o0)
def H0x9 (o0 : Ob) (a0_10 : Int32) (a0_11 : Int32) (a0_12 : Int32) (a0_13 : Int32) (a0_14 : Int32) (a0_15 : Int32) (a0_16 : Int32) : QHeap := H0v (f_part o0) (f_keys o0) (f_vals o0) (f_flg o0) (f_res o0) (f_resNull o0) (f_frameCnt o0) (f_sorted o0) (f_cap o0) (f_rows o0) a0_10 a0_11 a0_12 a0_13 a0_14 a0_15 a0_16 (f_fn o0) (f_fnArg o0) (f_computed o0) (f_sortedLen o0) (f_curPos o0) (f_aggSum o0) (f_aggCount o0) (f_aggRows o0) (f_aggMin o0) (f_aggMax o0)
def H0x10 (o0 : Ob) (a0_10 : Int32) (a0_11 : Int32) (a0_12 : Int32) (a0_13 : Int32) (a0_14 : Int32) (a0_15 : Int32) (a0_16 : Int32) (a0_17 : Int32) : QHeap := H0v (f_part o0) (f_keys o0) (f_vals o0) (f_flg o0) (f_res o0) (f_resNull o0) (f_frameCnt o0) (f_sorted o0) (f_cap o0) (f_rows o0) a0_10 a0_11 a0_12 a0_13 a0_14 a0_15 a0_16 a0_17 (f_fnArg o0) (f_computed o0) (f_sortedLen o0) (f_curPos o0) (f_aggSum o0) (f_aggCount o0) (f_aggRows o0) (f_aggMin o0) (f_aggMax o0)
def H0x11 (o0 : Ob) (a0_10 : Int32) (a0_11 : Int32) (a0_12 : Int32) (a0_13 : Int32) (a0_14 : Int32) (a0_15 : Int32) (a0_16 : Int32) (a0_17 : Int32) (a0_18 : Int32) : QHeap := H0v (f_part o0) (f_keys o0) (f_vals o0) (f_flg o0) (f_res o0) (f_resNull o0) (f_frameCnt o0) (f_sorted o0) (f_cap o0) (f_rows o0) a0_10 a0_11 a0_12 a0_13 a0_14 a0_15 a0_16 a0_17 a0_18 (f_computed o0) (f_sortedLen o0) (f_curPos o0) (f_aggSum o0) (f_aggCount o0) (f_aggRows o0) (f_aggMin o0) (f_aggMax o0)
/-- resetSpec()V -/
def F2 (o : Ob) : Option (Ob) :=
 some (s_fnArg (s_fn (s_endOff (s_endKind (s_startOff (s_startKind (s_mode (s_nulls (s_direction o (1:Int32)) (1:Int32)) (1:Int32)) (0:Int32)) (0:Int32)) (2:Int32)) (0:Int32)) (0:Int32)) (0:Int32))
theorem tF2 (Ad : QAd n0 ad) (W : QW Z a0) (o : Ob) {r : Ob} (h : F2 o = some r) : QTri l Z n0 ad 2 (0, qentry [.ref 0] (pMaxL 2), [], (H0 o)) (none : Option Value) (H0 r) := by
 unfold F2 at h
 refine zS Ad W 3 (st' := (5, [vR 0], [], (H0x3 o (1:Int32)))) rfl ?_
 refine zS Ad W 3 (st' := (10, [vR 0], [], (H0x4 o (1:Int32) (1:Int32)))) rfl ?_
 refine zS Ad W 3 (st' := (15, [vR 0], [], (H0x5 o (1:Int32) (1:Int32) (1:Int32)))) rfl ?_
 refine zS Ad W 3 (st' := (20, [vR 0], [], (H0x6 o (1:Int32) (1:Int32) (1:Int32) (0:Int32)))) rfl ?_
 refine zS Ad W 3 (st' := (25, [vR 0], [], (H0x7 o (1:Int32) (1:Int32) (1:Int32) (0:Int32) (0:Int32)))) rfl ?_
 refine zS Ad W 3 (st' := (30, [vR 0], [], (H0x8 o (1:Int32) (1:Int32) (1:Int32) (0:Int32) (0:Int32) (2:Int32)))) rfl ?_
 refine zS Ad W 3 (st' := (35, [vR 0], [], (H0x9 o (1:Int32) (1:Int32) (1:Int32) (0:Int32) (0:Int32) (2:Int32) (0:Int32)))) rfl ?_
 refine zS Ad W 3 (st' := (40, [vR 0], [], (H0x10 o (1:Int32) (1:Int32) (1:Int32) (0:Int32) (0:Int32) (2:Int32) (0:Int32) (0:Int32)))) rfl ?_
 refine zS Ad W 3 (st' := (45, [vR 0], [], (H0x11 o (1:Int32) (1:Int32) (1:Int32) (0:Int32) (0:Int32) (2:Int32) (0:Int32) (0:Int32) (0:Int32)))) rfl ?_
 have E8 : ((H0x11 o (1:Int32) (1:Int32) (1:Int32) (0:Int32) (0:Int32) (2:Int32) (0:Int32) (0:Int32) (0:Int32)) : QHeap) = (H0 (s_fnArg (s_fn (s_endOff (s_endKind (s_startOff (s_startKind (s_mode (s_nulls (s_direction o (1:Int32)) (1:Int32)) (1:Int32)) (0:Int32)) (0:Int32)) (2:Int32)) (0:Int32)) (0:Int32)) (0:Int32))) := by simp only [fs, H0, H0v, H0x11, s_direction, s_nulls, s_mode, s_startKind, s_startOff, s_endKind, s_endOff, s_fn, s_fnArg]
 rw [E8]
 obtain rfl := Option.some.inj h
 exact QTri.ret0 rfl rfl
def H0x12 (o0 : Ob) (a0_19 : Int32) : QHeap := H0v (f_part o0) (f_keys o0) (f_vals o0) (f_flg o0) (f_res o0) (f_resNull o0) (f_frameCnt o0) (f_sorted o0) (f_cap o0) (f_rows o0) (f_direction o0) (f_nulls o0) (f_mode o0) (f_startKind o0) (f_startOff o0) (f_endKind o0) (f_endOff o0) (f_fn o0) (f_fnArg o0) a0_19 (f_sortedLen o0) (f_curPos o0) (f_aggSum o0) (f_aggCount o0) (f_aggRows o0) (f_aggMin o0) (f_aggMax o0)
/-- init(I)V -/
def F1 (x1 : Int32) : Option (Ob) :=
 (F2 (s_rows (s_cap (s_sorted (s_frameCnt (s_resNull (s_res (s_flg (s_vals (s_keys (s_part ob0 (List.replicate 32 0)) (List.replicate 32 0)) (List.replicate 32 0)) (List.replicate 32 0)) (List.replicate 32 0)) (List.replicate 32 0)) (List.replicate 32 0)) (List.replicate 32 0)) (if (32:Int32) < (if x1 < (8:Int32) then (8:Int32) else x1) then (32:Int32) else (if x1 < (8:Int32) then (8:Int32) else x1))) (0:Int32))).bind fun r9 => some (s_computed r9 (0:Int32))
theorem tF1 (Ad : QAd n0 ad) (W : QW Z a0) (x1 : Int32) {r : Ob} (h : F1 x1 = some r) : QTri l Z n0 ad 1 (0, qentry [.ref 0, .int x1] (pMaxL 1), [], [.inl [.null, .null, .null, .null, .null, .null, .null, .null, .int (f_cap ob0), .int (f_rows ob0), .int (f_direction ob0), .int (f_nulls ob0), .int (f_mode ob0), .int (f_startKind ob0), .int (f_startOff ob0), .int (f_endKind ob0), .int (f_endOff ob0), .int (f_fn ob0), .int (f_fnArg ob0), .int (f_computed ob0), .int (f_sortedLen ob0), .int (f_curPos ob0), .long (f_aggSum ob0), .int (f_aggCount ob0), .int (f_aggRows ob0), .int (f_aggMin ob0), .int (f_aggMax ob0)]]) (none : Option Value) (H0 r) := by
 unfold F1 at h
 refine zS Ad W 1 (st' := (1, [vR 0, vI x1, none], [.ref 0], [.inl [.null, .null, .null, .null, .null, .null, .null, .null, .int (f_cap ob0), .int (f_rows ob0), .int (f_direction ob0), .int (f_nulls ob0), .int (f_mode ob0), .int (f_startKind ob0), .int (f_startOff ob0), .int (f_endKind ob0), .int (f_endOff ob0), .int (f_fn ob0), .int (f_fnArg ob0), .int (f_computed ob0), .int (f_sortedLen ob0), .int (f_curPos ob0), .long (f_aggSum ob0), .int (f_aggCount ob0), .int (f_aggRows ob0), .int (f_aggMin ob0), .int (f_aggMax ob0)]])) rfl ?_
 refine QTri.callO W rfl rfl rfl ?_
 refine zS Ad W 3 (st' := (9, [vR 0, vI x1, none], [.ref 1, .ref 0], [.inl [.null, .null, .null, .null, .null, .null, .null, .null, .int (f_cap ob0), .int (f_rows ob0), .int (f_direction ob0), .int (f_nulls ob0), .int (f_mode ob0), .int (f_startKind ob0), .int (f_startOff ob0), .int (f_endKind ob0), .int (f_endOff ob0), .int (f_fn ob0), .int (f_fnArg ob0), .int (f_computed ob0), .int (f_sortedLen ob0), .int (f_curPos ob0), .long (f_aggSum ob0), .int (f_aggCount ob0), .int (f_aggRows ob0), .int (f_aggMin ob0), .int (f_aggMax ob0)], .inr (.inl (.int, (List.replicate 32 0)))])) rfl ?_
 refine zS Ad W 1 (st' := (12, [vR 0, vI x1, none], [], [.inl [.ref 1, .null, .null, .null, .null, .null, .null, .null, .int (f_cap ob0), .int (f_rows ob0), .int (f_direction ob0), .int (f_nulls ob0), .int (f_mode ob0), .int (f_startKind ob0), .int (f_startOff ob0), .int (f_endKind ob0), .int (f_endOff ob0), .int (f_fn ob0), .int (f_fnArg ob0), .int (f_computed ob0), .int (f_sortedLen ob0), .int (f_curPos ob0), .long (f_aggSum ob0), .int (f_aggCount ob0), .int (f_aggRows ob0), .int (f_aggMin ob0), .int (f_aggMax ob0)], .inr (.inl (.int, (List.replicate 32 0)))])) rfl ?_
 refine zS Ad W 3 (st' := (17, [vR 0, vI x1, none], [.ref 2, .ref 0], [.inl [.ref 1, .null, .null, .null, .null, .null, .null, .null, .int (f_cap ob0), .int (f_rows ob0), .int (f_direction ob0), .int (f_nulls ob0), .int (f_mode ob0), .int (f_startKind ob0), .int (f_startOff ob0), .int (f_endKind ob0), .int (f_endOff ob0), .int (f_fn ob0), .int (f_fnArg ob0), .int (f_computed ob0), .int (f_sortedLen ob0), .int (f_curPos ob0), .long (f_aggSum ob0), .int (f_aggCount ob0), .int (f_aggRows ob0), .int (f_aggMin ob0), .int (f_aggMax ob0)], .inr (.inl (.int, (List.replicate 32 0))), .inr (.inl (.int, (List.replicate 32 0)))])) rfl ?_
 refine zS Ad W 1 (st' := (20, [vR 0, vI x1, none], [], [.inl [.ref 1, .ref 2, .null, .null, .null, .null, .null, .null, .int (f_cap ob0), .int (f_rows ob0), .int (f_direction ob0), .int (f_nulls ob0), .int (f_mode ob0), .int (f_startKind ob0), .int (f_startOff ob0), .int (f_endKind ob0), .int (f_endOff ob0), .int (f_fn ob0), .int (f_fnArg ob0), .int (f_computed ob0), .int (f_sortedLen ob0), .int (f_curPos ob0), .long (f_aggSum ob0), .int (f_aggCount ob0), .int (f_aggRows ob0), .int (f_aggMin ob0), .int (f_aggMax ob0)], .inr (.inl (.int, (List.replicate 32 0))), .inr (.inl (.int, (List.replicate 32 0)))])) rfl ?_
 refine zS Ad W 3 (st' := (25, [vR 0, vI x1, none], [.ref 3, .ref 0], [.inl [.ref 1, .ref 2, .null, .null, .null, .null, .null, .null, .int (f_cap ob0), .int (f_rows ob0), .int (f_direction ob0), .int (f_nulls ob0), .int (f_mode ob0), .int (f_startKind ob0), .int (f_startOff ob0), .int (f_endKind ob0), .int (f_endOff ob0), .int (f_fn ob0), .int (f_fnArg ob0), .int (f_computed ob0), .int (f_sortedLen ob0), .int (f_curPos ob0), .long (f_aggSum ob0), .int (f_aggCount ob0), .int (f_aggRows ob0), .int (f_aggMin ob0), .int (f_aggMax ob0)], .inr (.inl (.int, (List.replicate 32 0))), .inr (.inl (.int, (List.replicate 32 0))), .inr (.inl (.int, (List.replicate 32 0)))])) rfl ?_
 refine zS Ad W 1 (st' := (28, [vR 0, vI x1, none], [], [.inl [.ref 1, .ref 2, .ref 3, .null, .null, .null, .null, .null, .int (f_cap ob0), .int (f_rows ob0), .int (f_direction ob0), .int (f_nulls ob0), .int (f_mode ob0), .int (f_startKind ob0), .int (f_startOff ob0), .int (f_endKind ob0), .int (f_endOff ob0), .int (f_fn ob0), .int (f_fnArg ob0), .int (f_computed ob0), .int (f_sortedLen ob0), .int (f_curPos ob0), .long (f_aggSum ob0), .int (f_aggCount ob0), .int (f_aggRows ob0), .int (f_aggMin ob0), .int (f_aggMax ob0)], .inr (.inl (.int, (List.replicate 32 0))), .inr (.inl (.int, (List.replicate 32 0))), .inr (.inl (.int, (List.replicate 32 0)))])) rfl ?_
 refine zS Ad W 3 (st' := (33, [vR 0, vI x1, none], [.ref 4, .ref 0], [.inl [.ref 1, .ref 2, .ref 3, .null, .null, .null, .null, .null, .int (f_cap ob0), .int (f_rows ob0), .int (f_direction ob0), .int (f_nulls ob0), .int (f_mode ob0), .int (f_startKind ob0), .int (f_startOff ob0), .int (f_endKind ob0), .int (f_endOff ob0), .int (f_fn ob0), .int (f_fnArg ob0), .int (f_computed ob0), .int (f_sortedLen ob0), .int (f_curPos ob0), .long (f_aggSum ob0), .int (f_aggCount ob0), .int (f_aggRows ob0), .int (f_aggMin ob0), .int (f_aggMax ob0)], .inr (.inl (.int, (List.replicate 32 0))), .inr (.inl (.int, (List.replicate 32 0))), .inr (.inl (.int, (List.replicate 32 0))), .inr (.inl (.int, (List.replicate 32 0)))])) rfl ?_
 refine zS Ad W 1 (st' := (36, [vR 0, vI x1, none], [], [.inl [.ref 1, .ref 2, .ref 3, .ref 4, .null, .null, .null, .null, .int (f_cap ob0), .int (f_rows ob0), .int (f_direction ob0), .int (f_nulls ob0), .int (f_mode ob0), .int (f_startKind ob0), .int (f_startOff ob0), .int (f_endKind ob0), .int (f_endOff ob0), .int (f_fn ob0), .int (f_fnArg ob0), .int (f_computed ob0), .int (f_sortedLen ob0), .int (f_curPos ob0), .long (f_aggSum ob0), .int (f_aggCount ob0), .int (f_aggRows ob0), .int (f_aggMin ob0), .int (f_aggMax ob0)], .inr (.inl (.int, (List.replicate 32 0))), .inr (.inl (.int, (List.replicate 32 0))), .inr (.inl (.int, (List.replicate 32 0))), .inr (.inl (.int, (List.replicate 32 0)))])) rfl ?_
 refine zS Ad W 3 (st' := (41, [vR 0, vI x1, none], [.ref 5, .ref 0], [.inl [.ref 1, .ref 2, .ref 3, .ref 4, .null, .null, .null, .null, .int (f_cap ob0), .int (f_rows ob0), .int (f_direction ob0), .int (f_nulls ob0), .int (f_mode ob0), .int (f_startKind ob0), .int (f_startOff ob0), .int (f_endKind ob0), .int (f_endOff ob0), .int (f_fn ob0), .int (f_fnArg ob0), .int (f_computed ob0), .int (f_sortedLen ob0), .int (f_curPos ob0), .long (f_aggSum ob0), .int (f_aggCount ob0), .int (f_aggRows ob0), .int (f_aggMin ob0), .int (f_aggMax ob0)], .inr (.inl (.int, (List.replicate 32 0))), .inr (.inl (.int, (List.replicate 32 0))), .inr (.inl (.int, (List.replicate 32 0))), .inr (.inl (.int, (List.replicate 32 0))), .inr (.inr (List.replicate 32 0))])) rfl ?_
 refine zS Ad W 1 (st' := (44, [vR 0, vI x1, none], [], [.inl [.ref 1, .ref 2, .ref 3, .ref 4, .ref 5, .null, .null, .null, .int (f_cap ob0), .int (f_rows ob0), .int (f_direction ob0), .int (f_nulls ob0), .int (f_mode ob0), .int (f_startKind ob0), .int (f_startOff ob0), .int (f_endKind ob0), .int (f_endOff ob0), .int (f_fn ob0), .int (f_fnArg ob0), .int (f_computed ob0), .int (f_sortedLen ob0), .int (f_curPos ob0), .long (f_aggSum ob0), .int (f_aggCount ob0), .int (f_aggRows ob0), .int (f_aggMin ob0), .int (f_aggMax ob0)], .inr (.inl (.int, (List.replicate 32 0))), .inr (.inl (.int, (List.replicate 32 0))), .inr (.inl (.int, (List.replicate 32 0))), .inr (.inl (.int, (List.replicate 32 0))), .inr (.inr (List.replicate 32 0))])) rfl ?_
 refine zS Ad W 3 (st' := (49, [vR 0, vI x1, none], [.ref 6, .ref 0], [.inl [.ref 1, .ref 2, .ref 3, .ref 4, .ref 5, .null, .null, .null, .int (f_cap ob0), .int (f_rows ob0), .int (f_direction ob0), .int (f_nulls ob0), .int (f_mode ob0), .int (f_startKind ob0), .int (f_startOff ob0), .int (f_endKind ob0), .int (f_endOff ob0), .int (f_fn ob0), .int (f_fnArg ob0), .int (f_computed ob0), .int (f_sortedLen ob0), .int (f_curPos ob0), .long (f_aggSum ob0), .int (f_aggCount ob0), .int (f_aggRows ob0), .int (f_aggMin ob0), .int (f_aggMax ob0)], .inr (.inl (.int, (List.replicate 32 0))), .inr (.inl (.int, (List.replicate 32 0))), .inr (.inl (.int, (List.replicate 32 0))), .inr (.inl (.int, (List.replicate 32 0))), .inr (.inr (List.replicate 32 0)), .inr (.inl (.boolean, (List.replicate 32 0)))])) rfl ?_
 refine zS Ad W 1 (st' := (52, [vR 0, vI x1, none], [], [.inl [.ref 1, .ref 2, .ref 3, .ref 4, .ref 5, .ref 6, .null, .null, .int (f_cap ob0), .int (f_rows ob0), .int (f_direction ob0), .int (f_nulls ob0), .int (f_mode ob0), .int (f_startKind ob0), .int (f_startOff ob0), .int (f_endKind ob0), .int (f_endOff ob0), .int (f_fn ob0), .int (f_fnArg ob0), .int (f_computed ob0), .int (f_sortedLen ob0), .int (f_curPos ob0), .long (f_aggSum ob0), .int (f_aggCount ob0), .int (f_aggRows ob0), .int (f_aggMin ob0), .int (f_aggMax ob0)], .inr (.inl (.int, (List.replicate 32 0))), .inr (.inl (.int, (List.replicate 32 0))), .inr (.inl (.int, (List.replicate 32 0))), .inr (.inl (.int, (List.replicate 32 0))), .inr (.inr (List.replicate 32 0)), .inr (.inl (.boolean, (List.replicate 32 0)))])) rfl ?_
 refine zS Ad W 3 (st' := (57, [vR 0, vI x1, none], [.ref 7, .ref 0], [.inl [.ref 1, .ref 2, .ref 3, .ref 4, .ref 5, .ref 6, .null, .null, .int (f_cap ob0), .int (f_rows ob0), .int (f_direction ob0), .int (f_nulls ob0), .int (f_mode ob0), .int (f_startKind ob0), .int (f_startOff ob0), .int (f_endKind ob0), .int (f_endOff ob0), .int (f_fn ob0), .int (f_fnArg ob0), .int (f_computed ob0), .int (f_sortedLen ob0), .int (f_curPos ob0), .long (f_aggSum ob0), .int (f_aggCount ob0), .int (f_aggRows ob0), .int (f_aggMin ob0), .int (f_aggMax ob0)], .inr (.inl (.int, (List.replicate 32 0))), .inr (.inl (.int, (List.replicate 32 0))), .inr (.inl (.int, (List.replicate 32 0))), .inr (.inl (.int, (List.replicate 32 0))), .inr (.inr (List.replicate 32 0)), .inr (.inl (.boolean, (List.replicate 32 0))), .inr (.inl (.int, (List.replicate 32 0)))])) rfl ?_
 refine zS Ad W 1 (st' := (60, [vR 0, vI x1, none], [], [.inl [.ref 1, .ref 2, .ref 3, .ref 4, .ref 5, .ref 6, .ref 7, .null, .int (f_cap ob0), .int (f_rows ob0), .int (f_direction ob0), .int (f_nulls ob0), .int (f_mode ob0), .int (f_startKind ob0), .int (f_startOff ob0), .int (f_endKind ob0), .int (f_endOff ob0), .int (f_fn ob0), .int (f_fnArg ob0), .int (f_computed ob0), .int (f_sortedLen ob0), .int (f_curPos ob0), .long (f_aggSum ob0), .int (f_aggCount ob0), .int (f_aggRows ob0), .int (f_aggMin ob0), .int (f_aggMax ob0)], .inr (.inl (.int, (List.replicate 32 0))), .inr (.inl (.int, (List.replicate 32 0))), .inr (.inl (.int, (List.replicate 32 0))), .inr (.inl (.int, (List.replicate 32 0))), .inr (.inr (List.replicate 32 0)), .inr (.inl (.boolean, (List.replicate 32 0))), .inr (.inl (.int, (List.replicate 32 0)))])) rfl ?_
 refine zS Ad W 3 (st' := (65, [vR 0, vI x1, none], [.ref 8, .ref 0], [.inl [.ref 1, .ref 2, .ref 3, .ref 4, .ref 5, .ref 6, .ref 7, .null, .int (f_cap ob0), .int (f_rows ob0), .int (f_direction ob0), .int (f_nulls ob0), .int (f_mode ob0), .int (f_startKind ob0), .int (f_startOff ob0), .int (f_endKind ob0), .int (f_endOff ob0), .int (f_fn ob0), .int (f_fnArg ob0), .int (f_computed ob0), .int (f_sortedLen ob0), .int (f_curPos ob0), .long (f_aggSum ob0), .int (f_aggCount ob0), .int (f_aggRows ob0), .int (f_aggMin ob0), .int (f_aggMax ob0)], .inr (.inl (.int, (List.replicate 32 0))), .inr (.inl (.int, (List.replicate 32 0))), .inr (.inl (.int, (List.replicate 32 0))), .inr (.inl (.int, (List.replicate 32 0))), .inr (.inr (List.replicate 32 0)), .inr (.inl (.boolean, (List.replicate 32 0))), .inr (.inl (.int, (List.replicate 32 0))), .inr (.inl (.int, (List.replicate 32 0)))])) rfl ?_
 refine zS Ad W 1 (st' := (68, [vR 0, vI x1, none], [], (H0x0 ob0 (List.replicate 32 0) (List.replicate 32 0) (List.replicate 32 0) (List.replicate 32 0) (List.replicate 32 0) (List.replicate 32 0) (List.replicate 32 0) (List.replicate 32 0)))) rfl ?_
 refine zS Ad W 4 (st' := (73, [vR 0, vI x1, vI x1], [.int (8:Int32), .int x1], (H0x0 ob0 (List.replicate 32 0) (List.replicate 32 0) (List.replicate 32 0) (List.replicate 32 0) (List.replicate 32 0) (List.replicate 32 0) (List.replicate 32 0) (List.replicate 32 0)))) rfl ?_
 have K2 : ∀ z1 : Int32, z1 = (if x1 < (8:Int32) then (8:Int32) else x1) → QTri l Z n0 ad 1 (79, [vR 0, none, vI z1], [], (H0x0 ob0 (List.replicate 32 0) (List.replicate 32 0) (List.replicate 32 0) (List.replicate 32 0) (List.replicate 32 0) (List.replicate 32 0) (List.replicate 32 0) (List.replicate 32 0))) (none : Option Value) (H0 r) := by
  intro z1 ez1
  subst ez1
  refine zS Ad W 2 (st' := (82, [vR 0, none, vI (if x1 < (8:Int32) then (8:Int32) else x1)], [.int (32:Int32), .int (if x1 < (8:Int32) then (8:Int32) else x1)], (H0x0 ob0 (List.replicate 32 0) (List.replicate 32 0) (List.replicate 32 0) (List.replicate 32 0) (List.replicate 32 0) (List.replicate 32 0) (List.replicate 32 0) (List.replicate 32 0)))) rfl ?_
  have K5 : ∀ z4 : Int32, z4 = (if (32:Int32) < (if x1 < (8:Int32) then (8:Int32) else x1) then (32:Int32) else (if x1 < (8:Int32) then (8:Int32) else x1)) → QTri l Z n0 ad 1 (88, [vR 0, none, vI z4], [], (H0x0 ob0 (List.replicate 32 0) (List.replicate 32 0) (List.replicate 32 0) (List.replicate 32 0) (List.replicate 32 0) (List.replicate 32 0) (List.replicate 32 0) (List.replicate 32 0))) (none : Option Value) (H0 r) := by
   intro z4 ez4
   subst ez4
   refine zS Ad W 3 (st' := (93, [vR 0, none, vI (if (32:Int32) < (if x1 < (8:Int32) then (8:Int32) else x1) then (32:Int32) else (if x1 < (8:Int32) then (8:Int32) else x1))], [], (H0x1 ob0 (List.replicate 32 0) (List.replicate 32 0) (List.replicate 32 0) (List.replicate 32 0) (List.replicate 32 0) (List.replicate 32 0) (List.replicate 32 0) (List.replicate 32 0) (if (32:Int32) < (if x1 < (8:Int32) then (8:Int32) else x1) then (32:Int32) else (if x1 < (8:Int32) then (8:Int32) else x1))))) rfl ?_
   refine zS Ad W 3 (st' := (98, [vR 0, none, vI (if (32:Int32) < (if x1 < (8:Int32) then (8:Int32) else x1) then (32:Int32) else (if x1 < (8:Int32) then (8:Int32) else x1))], [], (H0x2 ob0 (List.replicate 32 0) (List.replicate 32 0) (List.replicate 32 0) (List.replicate 32 0) (List.replicate 32 0) (List.replicate 32 0) (List.replicate 32 0) (List.replicate 32 0) (if (32:Int32) < (if x1 < (8:Int32) then (8:Int32) else x1) then (32:Int32) else (if x1 < (8:Int32) then (8:Int32) else x1)) (0:Int32)))) rfl ?_
   refine zS Ad W 1 (st' := (99, [vR 0, none, vI (if (32:Int32) < (if x1 < (8:Int32) then (8:Int32) else x1) then (32:Int32) else (if x1 < (8:Int32) then (8:Int32) else x1))], [.ref 0], (H0x2 ob0 (List.replicate 32 0) (List.replicate 32 0) (List.replicate 32 0) (List.replicate 32 0) (List.replicate 32 0) (List.replicate 32 0) (List.replicate 32 0) (List.replicate 32 0) (if (32:Int32) < (if x1 < (8:Int32) then (8:Int32) else x1) then (32:Int32) else (if x1 < (8:Int32) then (8:Int32) else x1)) (0:Int32)))) rfl ?_
   have E7 : ((H0x2 ob0 (List.replicate 32 0) (List.replicate 32 0) (List.replicate 32 0) (List.replicate 32 0) (List.replicate 32 0) (List.replicate 32 0) (List.replicate 32 0) (List.replicate 32 0) (if (32:Int32) < (if x1 < (8:Int32) then (8:Int32) else x1) then (32:Int32) else (if x1 < (8:Int32) then (8:Int32) else x1)) (0:Int32)) : QHeap) = (H0 (s_rows (s_cap (s_sorted (s_frameCnt (s_resNull (s_res (s_flg (s_vals (s_keys (s_part ob0 (List.replicate 32 0)) (List.replicate 32 0)) (List.replicate 32 0)) (List.replicate 32 0)) (List.replicate 32 0)) (List.replicate 32 0)) (List.replicate 32 0)) (List.replicate 32 0)) (if (32:Int32) < (if x1 < (8:Int32) then (8:Int32) else x1) then (32:Int32) else (if x1 < (8:Int32) then (8:Int32) else x1))) (0:Int32))) := by simp only [fs, H0, H0v, H0x2, s_part, s_keys, s_vals, s_flg, s_res, s_resNull, s_frameCnt, s_sorted, s_cap, s_rows, ob0]
   rw [E7]
   obtain ⟨r9, hr9, h⟩ := bind_eq_some_iff.mp h
   refine QTri.callP W (a := 0) (as := []) (rest := []) (w := none) (σ₁ := (H0 r9)) rfl rfl rfl rfl rfl rfl rfl rfl (tF2 Ad W (s_rows (s_cap (s_sorted (s_frameCnt (s_resNull (s_res (s_flg (s_vals (s_keys (s_part ob0 (List.replicate 32 0)) (List.replicate 32 0)) (List.replicate 32 0)) (List.replicate 32 0)) (List.replicate 32 0)) (List.replicate 32 0)) (List.replicate 32 0)) (List.replicate 32 0)) (if (32:Int32) < (if x1 < (8:Int32) then (8:Int32) else x1) then (32:Int32) else (if x1 < (8:Int32) then (8:Int32) else x1))) (0:Int32)) hr9) ?_
   refine zS Ad W 3 (st' := (107, [vR 0, none, vI (if (32:Int32) < (if x1 < (8:Int32) then (8:Int32) else x1) then (32:Int32) else (if x1 < (8:Int32) then (8:Int32) else x1))], [], (H0x12 r9 (0:Int32)))) rfl ?_
   have E10 : ((H0x12 r9 (0:Int32)) : QHeap) = (H0 (s_computed r9 (0:Int32))) := by simp only [fs, H0, H0v, H0x12, s_computed]
   rw [E10]
   obtain rfl := Option.some.inj h
   exact QTri.ret0 rfl rfl
  rcases em ((32:Int32) < (if x1 < (8:Int32) then (8:Int32) else x1)) with hc6 | hc6
  ·refine zF Ad W (t := 88) (f := 85) rfl (XT.ii_le_f hc6) ?_
   refine zS Ad W 2 (st' := (88, [vR 0, none, vI (32:Int32)], [], (H0x0 ob0 (List.replicate 32 0) (List.replicate 32 0) (List.replicate 32 0) (List.replicate 32 0) (List.replicate 32 0) (List.replicate 32 0) (List.replicate 32 0) (List.replicate 32 0)))) rfl ?_
   exact zM [tt,ff,tt] (K5 _ (if_pos hc6).symm)
  ·refine zT Ad W (t := 88) (f := 85) rfl (XT.ii_le_t hc6) ?_
   exact zM [tt,ff,tt] (K5 _ (if_neg hc6).symm)
 rcases em (x1 < (8:Int32)) with hc3 | hc3
 ·refine zF Ad W (t := 79) (f := 76) rfl (XT.ii_ge_f hc3) ?_
  refine zS Ad W 2 (st' := (79, [vR 0, vI x1, vI (8:Int32)], [], (H0x0 ob0 (List.replicate 32 0) (List.replicate 32 0) (List.replicate 32 0) (List.replicate 32 0) (List.replicate 32 0) (List.replicate 32 0) (List.replicate 32 0) (List.replicate 32 0)))) rfl ?_
  exact zM [tt,ff,tt] (K2 _ (if_pos hc3).symm)
 ·refine zT Ad W (t := 79) (f := 76) rfl (XT.ii_ge_t hc3) ?_
  exact zM [tt,ff,tt] (K2 _ (if_neg hc3).symm)
def H0x13 (o0 : Ob) (a0_0 : List Int32) : QHeap := H0v a0_0 (f_keys o0) (f_vals o0) (f_flg o0) (f_res o0) (f_resNull o0) (f_frameCnt o0) (f_sorted o0) (f_cap o0) (f_rows o0) (f_direction o0) (f_nulls o0) (f_mode o0) (f_startKind o0) (f_startOff o0) (f_endKind o0) (f_endOff o0) (f_fn o0) (f_fnArg o0) (f_computed o0) (f_sortedLen o0) (f_curPos o0) (f_aggSum o0) (f_aggCount o0) (f_aggRows o0) (f_aggMin o0) (f_aggMax o0)
def H0x14 (o0 : Ob) (a0_0 : List Int32) (a0_1 : List Int32) : QHeap := H0v a0_0 a0_1 (f_vals o0) (f_flg o0) (f_res o0) (f_resNull o0) (f_frameCnt o0) (f_sorted o0) (f_cap o0) (f_rows o0) (f_direction o0) (f_nulls o0) (f_mode o0) (f_startKind o0) (f_startOff o0) (f_endKind o0) (f_endOff o0) (f_fn o0) (f_fnArg o0) (f_computed o0) (f_sortedLen o0) (f_curPos o0) (f_aggSum o0) (f_aggCount o0) (f_aggRows o0) (f_aggMin o0) (f_aggMax o0)
def H0x15 (o0 : Ob) (a0_0 : List Int32) (a0_1 : List Int32) (a0_2 : List Int32) : QHeap := H0v a0_0 a0_1 a0_2 (f_flg o0) (f_res o0) (f_resNull o0) (f_frameCnt o0) (f_sorted o0) (f_cap o0) (f_rows o0) (f_direction o0) (f_nulls o0) (f_mode o0) (f_startKind o0) (f_startOff o0) (f_endKind o0) (f_endOff o0) (f_fn o0) (f_fnArg o0) (f_computed o0) (f_sortedLen o0) (f_curPos o0) (f_aggSum o0) (f_aggCount o0) (f_aggRows o0) (f_aggMin o0) (f_aggMax o0)
def H0x16 (o0 : Ob) (a0_0 : List Int32) (a0_1 : List Int32) (a0_2 : List Int32) (a0_3 : List Int32) : QHeap := H0v a0_0 a0_1 a0_2 a0_3 (f_res o0) (f_resNull o0) (f_frameCnt o0) (f_sorted o0) (f_cap o0) (f_rows o0) (f_direction o0) (f_nulls o0) (f_mode o0) (f_startKind o0) (f_startOff o0) (f_endKind o0) (f_endOff o0) (f_fn o0) (f_fnArg o0) (f_computed o0) (f_sortedLen o0) (f_curPos o0) (f_aggSum o0) (f_aggCount o0) (f_aggRows o0) (f_aggMin o0) (f_aggMax o0)
def H0x17 (o0 : Ob) (a0_0 : List Int32) (a0_1 : List Int32) (a0_2 : List Int32) (a0_3 : List Int32) (a0_9 : Int32) : QHeap := H0v a0_0 a0_1 a0_2 a0_3 (f_res o0) (f_resNull o0) (f_frameCnt o0) (f_sorted o0) (f_cap o0) a0_9 (f_direction o0) (f_nulls o0) (f_mode o0) (f_startKind o0) (f_startOff o0) (f_endKind o0) (f_endOff o0) (f_fn o0) (f_fnArg o0) (f_computed o0) (f_sortedLen o0) (f_curPos o0) (f_aggSum o0) (f_aggCount o0) (f_aggRows o0) (f_aggMin o0) (f_aggMax o0)
def H0x18 (o0 : Ob) (a0_0 : List Int32) (a0_1 : List Int32) (a0_2 : List Int32) (a0_3 : List Int32) (a0_9 : Int32) (a0_19 : Int32) : QHeap := H0v a0_0 a0_1 a0_2 a0_3 (f_res o0) (f_resNull o0) (f_frameCnt o0) (f_sorted o0) (f_cap o0) a0_9 (f_direction o0) (f_nulls o0) (f_mode o0) (f_startKind o0) (f_startOff o0) (f_endKind o0) (f_endOff o0) (f_fn o0) (f_fnArg o0) a0_19 (f_sortedLen o0) (f_curPos o0) (f_aggSum o0) (f_aggCount o0) (f_aggRows o0) (f_aggMin o0) (f_aggMax o0)
/-- addRow(IIII)I -/
def F3 (o : Ob) (x1 : Int32) (x2 : Int32) (x3 : Int32) (x4 : Int32) : Option (Int32 × Ob) :=
 (if x4 < (0:Int32) then some ((-1:Int32), o) else (if (3:Int32) < x4 then some ((-1:Int32), o) else (if (f_rows o) < (f_cap o) then (aset (f_part o) (f_rows o) x1).bind fun y15 => (aset (f_keys o) (f_rows o) (if (x4 &&& (1:Int32)) = (0:Int32) then x2 else (0:Int32))).bind fun y19 => (aset (f_vals o) (f_rows o) (if (x4 &&& (2:Int32)) = (0:Int32) then x3 else (0:Int32))).bind fun y23 => (aset (f_flg o) (f_rows o) x4).bind fun y24 => some ((f_rows o), (s_computed (s_rows (s_flg (s_vals (s_keys (s_part o y15) y19) y23) y24) ((f_rows o) + (1:Int32))) (0:Int32))) else some ((-1:Int32), o))))
theorem tF3 (Ad : QAd n0 ad) (W : QW Z a0) (o : Ob) (x1 : Int32) (x2 : Int32) (x3 : Int32) (x4 : Int32) {r : Int32 × Ob} (h : F3 o x1 x2 x3 x4 = some r) : QTri l Z n0 ad 3 (0, qentry [.ref 0, .int x1, .int x2, .int x3, .int x4] (pMaxL 3), [], (H0 o)) (some (Value.int r.1)) (H0 r.2) := by
 unfold F3 at h
 refine zS Ad W 1 (st' := (2, [vR 0, vI x1, vI x2, vI x3, vI x4, none], [.int x4], (H0 o))) rfl ?_
 rcases qite h with ⟨hc12, h⟩ | ⟨hc12, h⟩
 ·refine zT Ad W (t := 11) (f := 5) rfl (XT.i0_lt_t hc12) ?_
  refine zS Ad W 1 (st' := (12, [vR 0, vI x1, vI x2, vI x3, vI x4, none], [.int (-1:Int32)], (H0 o))) rfl ?_
  obtain rfl := Option.some.inj h
  exact QTri.retI rfl rfl
 ·refine zF Ad W (t := 11) (f := 5) rfl (XT.i0_lt_f hc12) ?_
  refine zS Ad W 2 (st' := (8, [vR 0, vI x1, vI x2, vI x3, vI x4, none], [.int (3:Int32), .int x4], (H0 o))) rfl ?_
  rcases qite h with ⟨hc13, h⟩ | ⟨hc13, h⟩
  ·refine zF Ad W (t := 13) (f := 11) rfl (XT.ii_le_f hc13) ?_
   refine zS Ad W 1 (st' := (12, [vR 0, vI x1, vI x2, vI x3, vI x4, none], [.int (-1:Int32)], (H0 o))) rfl ?_
   obtain rfl := Option.some.inj h
   exact QTri.retI rfl rfl
  ·refine zT Ad W (t := 13) (f := 11) rfl (XT.ii_le_t hc13) ?_
   refine zS Ad W 4 (st' := (21, [vR 0, vI x1, vI x2, vI x3, vI x4, none], [.int (f_cap o), .int (f_rows o)], (H0 o))) rfl ?_
   rcases qite h with ⟨hc14, h⟩ | ⟨hc14, h⟩
   ·refine zT Ad W (t := 26) (f := 24) rfl (XT.ii_lt_t hc14) ?_
    refine zS Ad W 7 (st' := (39, [vR 0, vI x1, vI x2, vI x3, vI x4, vI (f_rows o)], [.int x1, .int (f_rows o), .ref 1], (H0 o))) rfl ?_
    obtain ⟨y15, hy15, h⟩ := bind_eq_some_iff.mp h
    refine zB Ad W (f := fun y15 => (40, [vR 0, vI x1, vI x2, vI x3, vI x4, vI (f_rows o)], [], (H0x13 o y15))) rfl hy15 ?_
    refine zS Ad W 6 (st' := (50, [vR 0, vI x1, vI x2, vI x3, vI x4, vI (f_rows o)], [.int (x4 &&& (1:Int32)), .int (f_rows o), .ref 2], (H0x13 o y15))) rfl ?_
    have K17 : ∀ z16 : Int32, z16 = (if (x4 &&& (1:Int32)) = (0:Int32) then x2 else (0:Int32)) → QTri l Z n0 ad 3 (58, [vR 0, none, none, vI x3, vI x4, vI (f_rows o)], [.int z16, .int (f_rows o), .ref 2], (H0x13 o y15)) (some (Value.int r.1)) (H0 r.2) := by
     intro z16 ez16
     subst ez16
     obtain ⟨y19, hy19, h⟩ := bind_eq_some_iff.mp h
     refine zB Ad W (f := fun y19 => (59, [vR 0, none, none, vI x3, vI x4, vI (f_rows o)], [], (H0x14 o y15 y19))) rfl hy19 ?_
     refine zS Ad W 6 (st' := (69, [vR 0, none, none, vI x3, vI x4, vI (f_rows o)], [.int (x4 &&& (2:Int32)), .int (f_rows o), .ref 3], (H0x14 o y15 y19))) rfl ?_
     have K21 : ∀ z20 : Int32, z20 = (if (x4 &&& (2:Int32)) = (0:Int32) then x3 else (0:Int32)) → QTri l Z n0 ad 3 (77, [vR 0, none, none, none, vI x4, vI (f_rows o)], [.int z20, .int (f_rows o), .ref 3], (H0x14 o y15 y19)) (some (Value.int r.1)) (H0 r.2) := by
      intro z20 ez20
      subst ez20
      obtain ⟨y23, hy23, h⟩ := bind_eq_some_iff.mp h
      refine zB Ad W (f := fun y23 => (78, [vR 0, none, none, none, vI x4, vI (f_rows o)], [], (H0x15 o y15 y19 y23))) rfl hy23 ?_
      refine zS Ad W 4 (st' := (86, [vR 0, none, none, none, vI x4, vI (f_rows o)], [.int x4, .int (f_rows o), .ref 4], (H0x15 o y15 y19 y23))) rfl ?_
      obtain ⟨y24, hy24, h⟩ := bind_eq_some_iff.mp h
      refine zB Ad W (f := fun y24 => (87, [vR 0, none, none, none, vI x4, vI (f_rows o)], [], (H0x16 o y15 y19 y23 y24))) rfl hy24 ?_
      refine zS Ad W 5 (st' := (95, [vR 0, none, none, none, vI x4, vI (f_rows o)], [], (H0x17 o y15 y19 y23 y24 ((f_rows o) + (1:Int32))))) rfl ?_
      refine zS Ad W 3 (st' := (100, [vR 0, none, none, none, vI x4, vI (f_rows o)], [], (H0x18 o y15 y19 y23 y24 ((f_rows o) + (1:Int32)) (0:Int32)))) rfl ?_
      refine zS Ad W 1 (st' := (102, [vR 0, none, none, none, vI x4, vI (f_rows o)], [.int (f_rows o)], (H0x18 o y15 y19 y23 y24 ((f_rows o) + (1:Int32)) (0:Int32)))) rfl ?_
      have E25 : ((H0x18 o y15 y19 y23 y24 ((f_rows o) + (1:Int32)) (0:Int32)) : QHeap) = (H0 (s_computed (s_rows (s_flg (s_vals (s_keys (s_part o y15) y19) y23) y24) ((f_rows o) + (1:Int32))) (0:Int32))) := by simp only [fs, H0, H0v, H0x18, s_part, s_keys, s_vals, s_flg, s_rows, s_computed]
      rw [E25]
      obtain rfl := Option.some.inj h
      exact QTri.retI rfl rfl
     rcases em ((x4 &&& (2:Int32)) = (0:Int32)) with hc22 | hc22
     ·refine zT Ad W (t := 76) (f := 72) rfl (XT.i0_eq_t hc22) ?_
      refine zS Ad W 1 (st' := (77, [vR 0, none, none, vI x3, vI x4, vI (f_rows o)], [.int x3, .int (f_rows o), .ref 3], (H0x14 o y15 y19))) rfl ?_
      exact zM [tt,ff,ff,ff,tt,tt] (K21 _ (if_pos hc22).symm)
     ·refine zF Ad W (t := 76) (f := 72) rfl (XT.i0_eq_f hc22) ?_
      refine zS Ad W 2 (st' := (77, [vR 0, none, none, vI x3, vI x4, vI (f_rows o)], [.int (0:Int32), .int (f_rows o), .ref 3], (H0x14 o y15 y19))) rfl ?_
      exact zM [tt,ff,ff,ff,tt,tt] (K21 _ (if_neg hc22).symm)
    rcases em ((x4 &&& (1:Int32)) = (0:Int32)) with hc18 | hc18
    ·refine zT Ad W (t := 57) (f := 53) rfl (XT.i0_eq_t hc18) ?_
     refine zS Ad W 1 (st' := (58, [vR 0, vI x1, vI x2, vI x3, vI x4, vI (f_rows o)], [.int x2, .int (f_rows o), .ref 2], (H0x13 o y15))) rfl ?_
     exact zM [tt,ff,ff,tt,tt,tt] (K17 _ (if_pos hc18).symm)
    ·refine zF Ad W (t := 57) (f := 53) rfl (XT.i0_eq_f hc18) ?_
     refine zS Ad W 2 (st' := (58, [vR 0, vI x1, vI x2, vI x3, vI x4, vI (f_rows o)], [.int (0:Int32), .int (f_rows o), .ref 2], (H0x13 o y15))) rfl ?_
     exact zM [tt,ff,ff,tt,tt,tt] (K17 _ (if_neg hc18).symm)
   ·refine zF Ad W (t := 26) (f := 24) rfl (XT.ii_lt_f hc14) ?_
    refine zS Ad W 1 (st' := (25, [vR 0, vI x1, vI x2, vI x3, vI x4, none], [.int (-1:Int32)], (H0 o))) rfl ?_
    obtain rfl := Option.some.inj h
    exact QTri.retI rfl rfl
/-- needsOrder()Z -/
def F5 (o : Ob) : Option (Int32) :=
 (if (f_mode o) = (1:Int32) then (if (f_direction o) = (0:Int32) then (if (if (f_startKind o) = (1:Int32) then (1:Int32) else (if (f_startKind o) = (3:Int32) then (1:Int32) else (0:Int32))) = (0:Int32) then (if (if (f_endKind o) = (1:Int32) then (1:Int32) else (if (f_endKind o) = (3:Int32) then (1:Int32) else (0:Int32))) = (0:Int32) then some (0:Int32) else some (1:Int32)) else some (1:Int32)) else some (0:Int32)) else some (0:Int32))
theorem tF5 (Ad : QAd n0 ad) (W : QW Z a0) (o : Ob) {r : Int32} (h : F5 o = some r) : QTri l Z n0 ad 5 (0, qentry [.ref 0] (pMaxL 5), [], (H0 o)) (some (Value.int r)) (H0 o) := by
 unfold F5 at h
 refine zS Ad W 3 (st' := (5, [vR 0, none, none], [.int (1:Int32), .int (f_mode o)], (H0 o))) rfl ?_
 rcases qite h with ⟨hc32, h⟩ | ⟨hc32, h⟩
 ·refine zF Ad W (t := 15) (f := 8) rfl (XT.ii_ne_f hc32) ?_
  refine zS Ad W 2 (st' := (12, [vR 0, none, none], [.int (f_direction o)], (H0 o))) rfl ?_
  rcases qite h with ⟨hc33, h⟩ | ⟨hc33, h⟩
  ·refine zT Ad W (t := 17) (f := 15) rfl (XT.i0_eq_t hc33) ?_
   refine zS Ad W 3 (st' := (22, [vR 0, none, none], [.int (1:Int32), .int (f_startKind o)], (H0 o))) rfl ?_
   have K35 : ∀ z34 : Int32, z34 = (if (f_startKind o) = (1:Int32) then (1:Int32) else (if (f_startKind o) = (3:Int32) then (1:Int32) else (0:Int32))) → QTri l Z n0 ad 5 (38, [vR 0, none, none], [.int z34], (H0 o)) (some (Value.int r)) (H0 o) := by
    intro z34 ez34
    subst ez34
    refine zS Ad W 4 (st' := (44, [vR 0, vI (if (f_startKind o) = (1:Int32) then (1:Int32) else (if (f_startKind o) = (3:Int32) then (1:Int32) else (0:Int32))), none], [.int (1:Int32), .int (f_endKind o)], (H0 o))) rfl ?_
    have K39 : ∀ z38 : Int32, z38 = (if (f_endKind o) = (1:Int32) then (1:Int32) else (if (f_endKind o) = (3:Int32) then (1:Int32) else (0:Int32))) → QTri l Z n0 ad 5 (60, [none, vI (if (f_startKind o) = (1:Int32) then (1:Int32) else (if (f_startKind o) = (3:Int32) then (1:Int32) else (0:Int32))), none], [.int z38], (H0 o)) (some (Value.int r)) (H0 o) := by
     intro z38 ez38
     subst ez38
     refine zS Ad W 2 (st' := (62, [none, vI (if (f_startKind o) = (1:Int32) then (1:Int32) else (if (f_startKind o) = (3:Int32) then (1:Int32) else (0:Int32))), vI (if (f_endKind o) = (1:Int32) then (1:Int32) else (if (f_endKind o) = (3:Int32) then (1:Int32) else (0:Int32)))], [.int (if (f_startKind o) = (1:Int32) then (1:Int32) else (if (f_startKind o) = (3:Int32) then (1:Int32) else (0:Int32)))], (H0 o))) rfl ?_
     rcases qite h with ⟨hc42, h⟩ | ⟨hc42, h⟩
     ·refine zF Ad W (t := 69) (f := 65) rfl (XT.i0_ne_f hc42) ?_
      refine zS Ad W 1 (st' := (66, [none, vI (if (f_startKind o) = (1:Int32) then (1:Int32) else (if (f_startKind o) = (3:Int32) then (1:Int32) else (0:Int32))), vI (if (f_endKind o) = (1:Int32) then (1:Int32) else (if (f_endKind o) = (3:Int32) then (1:Int32) else (0:Int32)))], [.int (if (f_endKind o) = (1:Int32) then (1:Int32) else (if (f_endKind o) = (3:Int32) then (1:Int32) else (0:Int32)))], (H0 o))) rfl ?_
      rcases qite h with ⟨hc43, h⟩ | ⟨hc43, h⟩
      ·refine zT Ad W (t := 73) (f := 69) rfl (XT.i0_eq_t hc43) ?_
       refine zS Ad W 1 (st' := (74, [none, vI (if (f_startKind o) = (1:Int32) then (1:Int32) else (if (f_startKind o) = (3:Int32) then (1:Int32) else (0:Int32))), vI (if (f_endKind o) = (1:Int32) then (1:Int32) else (if (f_endKind o) = (3:Int32) then (1:Int32) else (0:Int32)))], [.int (0:Int32)], (H0 o))) rfl ?_
       obtain rfl := Option.some.inj h
       exact QTri.retZ rfl rfl
      ·refine zF Ad W (t := 73) (f := 69) rfl (XT.i0_eq_f hc43) ?_
       refine zS Ad W 2 (st' := (74, [none, vI (if (f_startKind o) = (1:Int32) then (1:Int32) else (if (f_startKind o) = (3:Int32) then (1:Int32) else (0:Int32))), vI (if (f_endKind o) = (1:Int32) then (1:Int32) else (if (f_endKind o) = (3:Int32) then (1:Int32) else (0:Int32)))], [.int (1:Int32)], (H0 o))) rfl ?_
       obtain rfl := Option.some.inj h
       exact QTri.retZ rfl rfl
     ·refine zT Ad W (t := 69) (f := 65) rfl (XT.i0_ne_t hc42) ?_
      refine zS Ad W 2 (st' := (74, [none, vI (if (f_startKind o) = (1:Int32) then (1:Int32) else (if (f_startKind o) = (3:Int32) then (1:Int32) else (0:Int32))), vI (if (f_endKind o) = (1:Int32) then (1:Int32) else (if (f_endKind o) = (3:Int32) then (1:Int32) else (0:Int32)))], [.int (1:Int32)], (H0 o))) rfl ?_
      obtain rfl := Option.some.inj h
      exact QTri.retZ rfl rfl
    rcases em ((f_endKind o) = (1:Int32)) with hc40 | hc40
    ·refine zT Ad W (t := 55) (f := 47) rfl (XT.ii_eq_t hc40) ?_
     refine zS Ad W 2 (st' := (60, [vR 0, vI (if (f_startKind o) = (1:Int32) then (1:Int32) else (if (f_startKind o) = (3:Int32) then (1:Int32) else (0:Int32))), none], [.int (1:Int32)], (H0 o))) rfl ?_
     exact zM [ff,tt,ff] (K39 _ (if_pos hc40).symm)
    ·refine zF Ad W (t := 55) (f := 47) rfl (XT.ii_eq_f hc40) ?_
     refine zS Ad W 3 (st' := (52, [vR 0, vI (if (f_startKind o) = (1:Int32) then (1:Int32) else (if (f_startKind o) = (3:Int32) then (1:Int32) else (0:Int32))), none], [.int (3:Int32), .int (f_endKind o)], (H0 o))) rfl ?_
     rcases em ((f_endKind o) = (3:Int32)) with hc41 | hc41
     ·refine zF Ad W (t := 59) (f := 55) rfl (XT.ii_ne_f hc41) ?_
      refine zS Ad W 2 (st' := (60, [vR 0, vI (if (f_startKind o) = (1:Int32) then (1:Int32) else (if (f_startKind o) = (3:Int32) then (1:Int32) else (0:Int32))), none], [.int (1:Int32)], (H0 o))) rfl ?_
      exact zM [ff,tt,ff] (K39 _ ((if_neg hc40).trans (if_pos hc41)).symm)
     ·refine zT Ad W (t := 59) (f := 55) rfl (XT.ii_ne_t hc41) ?_
      refine zS Ad W 1 (st' := (60, [vR 0, vI (if (f_startKind o) = (1:Int32) then (1:Int32) else (if (f_startKind o) = (3:Int32) then (1:Int32) else (0:Int32))), none], [.int (0:Int32)], (H0 o))) rfl ?_
      exact zM [ff,tt,ff] (K39 _ ((if_neg hc40).trans (if_neg hc41)).symm)
   rcases em ((f_startKind o) = (1:Int32)) with hc36 | hc36
   ·refine zT Ad W (t := 33) (f := 25) rfl (XT.ii_eq_t hc36) ?_
    refine zS Ad W 2 (st' := (38, [vR 0, none, none], [.int (1:Int32)], (H0 o))) rfl ?_
    exact zM [tt,ff,ff] (K35 _ (if_pos hc36).symm)
   ·refine zF Ad W (t := 33) (f := 25) rfl (XT.ii_eq_f hc36) ?_
    refine zS Ad W 3 (st' := (30, [vR 0, none, none], [.int (3:Int32), .int (f_startKind o)], (H0 o))) rfl ?_
    rcases em ((f_startKind o) = (3:Int32)) with hc37 | hc37
    ·refine zF Ad W (t := 37) (f := 33) rfl (XT.ii_ne_f hc37) ?_
     refine zS Ad W 2 (st' := (38, [vR 0, none, none], [.int (1:Int32)], (H0 o))) rfl ?_
     exact zM [tt,ff,ff] (K35 _ ((if_neg hc36).trans (if_pos hc37)).symm)
    ·refine zT Ad W (t := 37) (f := 33) rfl (XT.ii_ne_t hc37) ?_
     refine zS Ad W 1 (st' := (38, [vR 0, none, none], [.int (0:Int32)], (H0 o))) rfl ?_
     exact zM [tt,ff,ff] (K35 _ ((if_neg hc36).trans (if_neg hc37)).symm)
  ·refine zF Ad W (t := 17) (f := 15) rfl (XT.i0_eq_f hc33) ?_
   refine zS Ad W 1 (st' := (16, [vR 0, none, none], [.int (0:Int32)], (H0 o))) rfl ?_
   obtain rfl := Option.some.inj h
   exact QTri.retZ rfl rfl
 ·refine zT Ad W (t := 15) (f := 8) rfl (XT.ii_ne_t hc32) ?_
  refine zS Ad W 1 (st' := (16, [vR 0, none, none], [.int (0:Int32)], (H0 o))) rfl ?_
  obtain rfl := Option.some.inj h
  exact QTri.retZ rfl rfl
/-- keyNull(I)Z -/
def F9 (o : Ob) (x1 : Int32) : Option (Int32) :=
 (aget (f_flg o) x1).bind fun y55 => (if (y55 &&& (1:Int32)) = (0:Int32) then some (0:Int32) else some (1:Int32))
theorem tF9 (Ad : QAd n0 ad) (W : QW Z a0) (o : Ob) (x1 : Int32) {r : Int32} (h : F9 o x1 = some r) : QTri l Z n0 ad 9 (0, qentry [.ref 0, .int x1] (pMaxL 9), [], (H0 o)) (some (Value.int r)) (H0 o) := by
 unfold F9 at h
 refine zS Ad W 3 (st' := (5, [vR 0, vI x1], [.int x1, .ref 4], (H0 o))) rfl ?_
 obtain ⟨y55, hy55, h⟩ := bind_eq_some_iff.mp h
 refine zB Ad W (f := fun y55 => (6, [vR 0, vI x1], [.int y55], (H0 o))) rfl hy55 ?_
 refine zS Ad W 2 (st' := (8, [vR 0, vI x1], [.int (y55 &&& (1:Int32))], (H0 o))) rfl ?_
 rcases qite h with ⟨hc56, h⟩ | ⟨hc56, h⟩
 ·refine zT Ad W (t := 15) (f := 11) rfl (XT.i0_eq_t hc56) ?_
  refine zS Ad W 1 (st' := (16, [vR 0, vI x1], [.int (0:Int32)], (H0 o))) rfl ?_
  obtain rfl := Option.some.inj h
  exact QTri.retZ rfl rfl
 ·refine zF Ad W (t := 15) (f := 11) rfl (XT.i0_eq_f hc56) ?_
  refine zS Ad W 2 (st' := (16, [vR 0, vI x1], [.int (1:Int32)], (H0 o))) rfl ?_
  obtain rfl := Option.some.inj h
  exact QTri.retZ rfl rfl
def J8_51 (o : Ob) (x1 : Int32) (x2 : Int32) (x3 : Int32) (x4 : Int32) : Option (Int32) :=
  (if x3 = (0 : Int32) then (if x4 = (0 : Int32) then (aget (f_keys o) x1).bind fun y62 => (aget (f_keys o) x2).bind fun y63 => (if y62 = y63 then (if x1 < x2 then some (1 : Int32) else some (0 : Int32)) else (if (f_direction o) = (1 : Int32) then (aget (f_keys o) x1).bind fun y67 => (aget (f_keys o) x2).bind fun y68 => (if y67 < y68 then some (1 : Int32) else some (0 : Int32)) else (aget (f_keys o) x1).bind fun y70 => (aget (f_keys o) x2).bind fun y71 => (if y71 < y70 then some (1 : Int32) else some (0 : Int32)))) else (if (f_nulls o) = (1 : Int32) then some (1 : Int32) else some (0 : Int32))) else (if (f_nulls o) = (0 : Int32) then some (1 : Int32) else some (0 : Int32)))
theorem tJ8_51 (Ad : QAd n0 ad) (W : QW Z a0) (o : Ob) (x1 : Int32) (x2 : Int32) (x3 : Int32) (x4 : Int32) {r : Int32} (h : J8_51 o x1 x2 x3 x4 = some r) : QTri l Z n0 ad 8 (51, [vR 0, vI x1, vI x2, vI x3, vI x4], [], (H0 o)) (some (Value.int r)) (H0 o) := by
 unfold J8_51 at h
 refine zS Ad W 1 (st' := (52, [vR 0, vI x1, vI x2, vI x3, vI x4], [.int x3], (H0 o))) rfl ?_
 rcases qite h with ⟨hc60, h⟩ | ⟨hc60, h⟩
 ·refine zT Ad W (t := 68) (f := 55) rfl (XT.i0_eq_t hc60) ?_
  refine zS Ad W 1 (st' := (70, [vR 0, vI x1, vI x2, vI x3, vI x4], [.int x4], (H0 o))) rfl ?_
  rcases qite h with ⟨hc61, h⟩ | ⟨hc61, h⟩
  ·refine zT Ad W (t := 87) (f := 73) rfl (XT.i0_eq_t hc61) ?_
   refine zS Ad W 3 (st' := (92, [vR 0, vI x1, vI x2, vI x3, vI x4], [.int x1, .ref 2], (H0 o))) rfl ?_
   obtain ⟨y62, hy62, h⟩ := bind_eq_some_iff.mp h
   refine zB Ad W (f := fun y62 => (93, [vR 0, vI x1, vI x2, vI x3, vI x4], [.int y62], (H0 o))) rfl hy62 ?_
   refine zS Ad W 3 (st' := (98, [vR 0, vI x1, vI x2, vI x3, vI x4], [.int x2, .ref 2, .int y62], (H0 o))) rfl ?_
   obtain ⟨y63, hy63, h⟩ := bind_eq_some_iff.mp h
   refine zB Ad W (f := fun y63 => (99, [vR 0, vI x1, vI x2, vI x3, vI x4], [.int y63, .int y62], (H0 o))) rfl hy63 ?_
   rcases qite h with ⟨hc64, h⟩ | ⟨hc64, h⟩
   ·refine zF Ad W (t := 113) (f := 102) rfl (XT.ii_ne_f hc64) ?_
    refine zS Ad W 2 (st' := (104, [vR 0, vI x1, vI x2, vI x3, vI x4], [.int x2, .int x1], (H0 o))) rfl ?_
    rcases qite h with ⟨hc65, h⟩ | ⟨hc65, h⟩
    ·refine zF Ad W (t := 111) (f := 107) rfl (XT.ii_ge_f hc65) ?_
     refine zS Ad W 2 (st' := (112, [vR 0, vI x1, vI x2, vI x3, vI x4], [.int (1:Int32)], (H0 o))) rfl ?_
     obtain rfl := Option.some.inj h
     exact QTri.retZ rfl rfl
    ·refine zT Ad W (t := 111) (f := 107) rfl (XT.ii_ge_t hc65) ?_
     refine zS Ad W 1 (st' := (112, [vR 0, vI x1, vI x2, vI x3, vI x4], [.int (0:Int32)], (H0 o))) rfl ?_
     obtain rfl := Option.some.inj h
     exact QTri.retZ rfl rfl
   ·refine zT Ad W (t := 113) (f := 102) rfl (XT.ii_ne_t hc64) ?_
    refine zS Ad W 3 (st' := (118, [vR 0, vI x1, vI x2, vI x3, vI x4], [.int (1:Int32), .int (f_direction o)], (H0 o))) rfl ?_
    rcases qite h with ⟨hc66, h⟩ | ⟨hc66, h⟩
    ·refine zF Ad W (t := 142) (f := 121) rfl (XT.ii_ne_f hc66) ?_
     refine zS Ad W 3 (st' := (126, [vR 0, vI x1, vI x2, vI x3, vI x4], [.int x1, .ref 2], (H0 o))) rfl ?_
     obtain ⟨y67, hy67, h⟩ := bind_eq_some_iff.mp h
     refine zB Ad W (f := fun y67 => (127, [vR 0, vI x1, vI x2, vI x3, vI x4], [.int y67], (H0 o))) rfl hy67 ?_
     refine zS Ad W 3 (st' := (132, [vR 0, vI x1, vI x2, vI x3, vI x4], [.int x2, .ref 2, .int y67], (H0 o))) rfl ?_
     obtain ⟨y68, hy68, h⟩ := bind_eq_some_iff.mp h
     refine zB Ad W (f := fun y68 => (133, [vR 0, vI x1, vI x2, vI x3, vI x4], [.int y68, .int y67], (H0 o))) rfl hy68 ?_
     rcases qite h with ⟨hc69, h⟩ | ⟨hc69, h⟩
     ·refine zF Ad W (t := 140) (f := 136) rfl (XT.ii_ge_f hc69) ?_
      refine zS Ad W 2 (st' := (141, [vR 0, vI x1, vI x2, vI x3, vI x4], [.int (1:Int32)], (H0 o))) rfl ?_
      obtain rfl := Option.some.inj h
      exact QTri.retZ rfl rfl
     ·refine zT Ad W (t := 140) (f := 136) rfl (XT.ii_ge_t hc69) ?_
      refine zS Ad W 1 (st' := (141, [vR 0, vI x1, vI x2, vI x3, vI x4], [.int (0:Int32)], (H0 o))) rfl ?_
      obtain rfl := Option.some.inj h
      exact QTri.retZ rfl rfl
    ·refine zT Ad W (t := 142) (f := 121) rfl (XT.ii_ne_t hc66) ?_
     refine zS Ad W 3 (st' := (147, [vR 0, vI x1, vI x2, vI x3, vI x4], [.int x1, .ref 2], (H0 o))) rfl ?_
     obtain ⟨y70, hy70, h⟩ := bind_eq_some_iff.mp h
     refine zB Ad W (f := fun y70 => (148, [vR 0, vI x1, vI x2, vI x3, vI x4], [.int y70], (H0 o))) rfl hy70 ?_
     refine zS Ad W 3 (st' := (153, [vR 0, vI x1, vI x2, vI x3, vI x4], [.int x2, .ref 2, .int y70], (H0 o))) rfl ?_
     obtain ⟨y71, hy71, h⟩ := bind_eq_some_iff.mp h
     refine zB Ad W (f := fun y71 => (154, [vR 0, vI x1, vI x2, vI x3, vI x4], [.int y71, .int y70], (H0 o))) rfl hy71 ?_
     rcases qite h with ⟨hc72, h⟩ | ⟨hc72, h⟩
     ·refine zF Ad W (t := 161) (f := 157) rfl (XT.ii_le_f hc72) ?_
      refine zS Ad W 2 (st' := (162, [vR 0, vI x1, vI x2, vI x3, vI x4], [.int (1:Int32)], (H0 o))) rfl ?_
      obtain rfl := Option.some.inj h
      exact QTri.retZ rfl rfl
     ·refine zT Ad W (t := 161) (f := 157) rfl (XT.ii_le_t hc72) ?_
      refine zS Ad W 1 (st' := (162, [vR 0, vI x1, vI x2, vI x3, vI x4], [.int (0:Int32)], (H0 o))) rfl ?_
      obtain rfl := Option.some.inj h
      exact QTri.retZ rfl rfl
  ·refine zF Ad W (t := 87) (f := 73) rfl (XT.i0_eq_f hc61) ?_
   refine zS Ad W 3 (st' := (78, [vR 0, vI x1, vI x2, vI x3, vI x4], [.int (1:Int32), .int (f_nulls o)], (H0 o))) rfl ?_
   rcases qite h with ⟨hc73, h⟩ | ⟨hc73, h⟩
   ·refine zF Ad W (t := 85) (f := 81) rfl (XT.ii_ne_f hc73) ?_
    refine zS Ad W 2 (st' := (86, [vR 0, vI x1, vI x2, vI x3, vI x4], [.int (1:Int32)], (H0 o))) rfl ?_
    obtain rfl := Option.some.inj h
    exact QTri.retZ rfl rfl
   ·refine zT Ad W (t := 85) (f := 81) rfl (XT.ii_ne_t hc73) ?_
    refine zS Ad W 1 (st' := (86, [vR 0, vI x1, vI x2, vI x3, vI x4], [.int (0:Int32)], (H0 o))) rfl ?_
    obtain rfl := Option.some.inj h
    exact QTri.retZ rfl rfl
 ·refine zF Ad W (t := 68) (f := 55) rfl (XT.i0_eq_f hc60) ?_
  refine zS Ad W 2 (st' := (59, [vR 0, vI x1, vI x2, vI x3, vI x4], [.int (f_nulls o)], (H0 o))) rfl ?_
  rcases qite h with ⟨hc74, h⟩ | ⟨hc74, h⟩
  ·refine zF Ad W (t := 66) (f := 62) rfl (XT.i0_ne_f hc74) ?_
   refine zS Ad W 2 (st' := (67, [vR 0, vI x1, vI x2, vI x3, vI x4], [.int (1:Int32)], (H0 o))) rfl ?_
   obtain rfl := Option.some.inj h
   exact QTri.retZ rfl rfl
  ·refine zT Ad W (t := 66) (f := 62) rfl (XT.i0_ne_t hc74) ?_
   refine zS Ad W 1 (st' := (67, [vR 0, vI x1, vI x2, vI x3, vI x4], [.int (0:Int32)], (H0 o))) rfl ?_
   obtain rfl := Option.some.inj h
   exact QTri.retZ rfl rfl
/-- before(II)Z -/
def F8 (o : Ob) (x1 : Int32) (x2 : Int32) : Option (Int32) :=
 (if (f_direction o) = (0:Int32) then (if x1 < x2 then some (1:Int32) else some (0:Int32)) else (F9 o x1).bind fun r57 => (F9 o x2).bind fun r58 => (if r57 = (0:Int32) then (J8_51 o x1 x2 r57 r58) else (if r58 = (0:Int32) then (J8_51 o x1 x2 r57 r58) else (if x1 < x2 then some (1:Int32) else some (0:Int32)))))
theorem tF8 (Ad : QAd n0 ad) (W : QW Z a0) (o : Ob) (x1 : Int32) (x2 : Int32) {r : Int32} (h : F8 o x1 x2 = some r) : QTri l Z n0 ad 8 (0, qentry [.ref 0, .int x1, .int x2] (pMaxL 8), [], (H0 o)) (some (Value.int r)) (H0 o) := by
 unfold F8 at h
 refine zS Ad W 2 (st' := (4, [vR 0, vI x1, vI x2, none, none], [.int (f_direction o)], (H0 o))) rfl ?_
 rcases qite h with ⟨hc53, h⟩ | ⟨hc53, h⟩
 ·refine zF Ad W (t := 18) (f := 7) rfl (XT.i0_ne_f hc53) ?_
  refine zS Ad W 2 (st' := (9, [vR 0, vI x1, vI x2, none, none], [.int x2, .int x1], (H0 o))) rfl ?_
  rcases qite h with ⟨hc54, h⟩ | ⟨hc54, h⟩
  ·refine zF Ad W (t := 16) (f := 12) rfl (XT.ii_ge_f hc54) ?_
   refine zS Ad W 2 (st' := (17, [vR 0, vI x1, vI x2, none, none], [.int (1:Int32)], (H0 o))) rfl ?_
   obtain rfl := Option.some.inj h
   exact QTri.retZ rfl rfl
  ·refine zT Ad W (t := 16) (f := 12) rfl (XT.ii_ge_t hc54) ?_
   refine zS Ad W 1 (st' := (17, [vR 0, vI x1, vI x2, none, none], [.int (0:Int32)], (H0 o))) rfl ?_
   obtain rfl := Option.some.inj h
   exact QTri.retZ rfl rfl
 ·refine zT Ad W (t := 18) (f := 7) rfl (XT.i0_ne_t hc53) ?_
  refine zS Ad W 2 (st' := (20, [vR 0, vI x1, vI x2, none, none], [.int x1, .ref 0], (H0 o))) rfl ?_
  obtain ⟨r57, hr57, h⟩ := bind_eq_some_iff.mp h
  refine QTri.callP W (a := 0) (as := [.int x1]) (rest := []) (w := (some (.int r57))) (σ₁ := (H0 o)) rfl rfl rfl rfl rfl rfl rfl rfl (tF9 Ad W o x1 hr57) ?_
  refine zS Ad W 3 (st' := (26, [vR 0, vI x1, vI x2, vI r57, none], [.int x2, .ref 0], (H0 o))) rfl ?_
  obtain ⟨r58, hr58, h⟩ := bind_eq_some_iff.mp h
  refine QTri.callP W (a := 0) (as := [.int x2]) (rest := []) (w := (some (.int r58))) (σ₁ := (H0 o)) rfl rfl rfl rfl rfl rfl rfl rfl (tF9 Ad W o x2 hr58) ?_
  refine zS Ad W 2 (st' := (32, [vR 0, vI x1, vI x2, vI r57, vI r58], [.int r57], (H0 o))) rfl ?_
  rcases qite h with ⟨hc59, h⟩ | ⟨hc59, h⟩
  ·refine zT Ad W (t := 51) (f := 35) rfl (XT.i0_eq_t hc59) ?_
   exact zM [tt,tt,tt,tt,tt] (tJ8_51 Ad W o x1 x2 r57 r58 h)
  ·refine zF Ad W (t := 51) (f := 35) rfl (XT.i0_eq_f hc59) ?_
   refine zS Ad W 1 (st' := (37, [vR 0, vI x1, vI x2, vI r57, vI r58], [.int r58], (H0 o))) rfl ?_
   rcases qite h with ⟨hc75, h⟩ | ⟨hc75, h⟩
   ·refine zT Ad W (t := 51) (f := 40) rfl (XT.i0_eq_t hc75) ?_
    exact zM [tt,tt,tt,tt,tt] (tJ8_51 Ad W o x1 x2 r57 r58 h)
   ·refine zF Ad W (t := 51) (f := 40) rfl (XT.i0_eq_f hc75) ?_
    refine zS Ad W 2 (st' := (42, [vR 0, vI x1, vI x2, vI r57, vI r58], [.int x2, .int x1], (H0 o))) rfl ?_
    rcases qite h with ⟨hc76, h⟩ | ⟨hc76, h⟩
    ·refine zF Ad W (t := 49) (f := 45) rfl (XT.ii_ge_f hc76) ?_
     refine zS Ad W 2 (st' := (50, [vR 0, vI x1, vI x2, vI r57, vI r58], [.int (1:Int32)], (H0 o))) rfl ?_
     obtain rfl := Option.some.inj h
     exact QTri.retZ rfl rfl
    ·refine zT Ad W (t := 49) (f := 45) rfl (XT.ii_ge_t hc76) ?_
     refine zS Ad W 1 (st' := (50, [vR 0, vI x1, vI x2, vI r57, vI r58], [.int (0:Int32)], (H0 o))) rfl ?_
     obtain rfl := Option.some.inj h
     exact QTri.retZ rfl rfl
def H0x19 (o0 : Ob) (a0_7 : List Int32) : QHeap := H0v (f_part o0) (f_keys o0) (f_vals o0) (f_flg o0) (f_res o0) (f_resNull o0) (f_frameCnt o0) a0_7 (f_cap o0) (f_rows o0) (f_direction o0) (f_nulls o0) (f_mode o0) (f_startKind o0) (f_startOff o0) (f_endKind o0) (f_endOff o0) (f_fn o0) (f_fnArg o0) (f_computed o0) (f_sortedLen o0) (f_curPos o0) (f_aggSum o0) (f_aggCount o0) (f_aggRows o0) (f_aggMin o0) (f_aggMax o0)
def B7_38 (x1 : Int32) (x2 : Int32) (x3 : Int32) (x4 : Int32) (v : Int32 × Ob) : Option (((Int32 × Ob)) ⊕ (Int32 × Ob)) :=
  (if (0 : Int32) < v.1 then (aget (f_sorted v.2) (v.1 - (1 : Int32))).bind fun y52 => (F8 v.2 x4 y52).bind fun r77 => (if r77 = (0 : Int32) then some (.inl (v.1, v.2)) else (aget (f_sorted v.2) (v.1 - (1 : Int32))).bind fun y79 => (aset (f_sorted v.2) v.1 y79).bind fun y80 => some (.inr ((v.1 + (-1 : Int32)), (s_sorted v.2 y80)))) else some (.inl (v.1, v.2)))
theorem tB7_38 (Ad : QAd n0 ad) (W : QW Z a0) (x1 : Int32) (x2 : Int32) (x3 : Int32) (x4 : Int32) (v : Int32 × Ob) {r : ((Int32 × Ob)) ⊕ (Int32 × Ob)} {u : Option Value} {τ : QHeap} (h : B7_38 x1 x2 x3 x4 v = some r) (hx0 : ∀ x : Int32 × Ob, r = .inl x → QTri l Z n0 ad 7 (83, [vR 0, vI x1, vI x2, vI x3, vI x4, vI x.1], [], (H0 x.2)) u τ) (hc : ∀ x : Int32 × Ob, r = .inr x → QTri l Z n0 ad 7 (38, [vR 0, vI x1, vI x2, vI x3, vI x4, vI x.1], [], (H0 x.2)) u τ) : QTri l Z n0 ad 7 (38, [vR 0, vI x1, vI x2, vI x3, vI x4, vI v.1], [], (H0 v.2)) u τ := by
 unfold B7_38 at h
 refine zS Ad W 1 (st' := (40, [vR 0, vI x1, vI x2, vI x3, vI x4, vI v.1], [.int v.1], (H0 v.2))) rfl ?_
 rcases qite h with ⟨hc51, h⟩ | ⟨hc51, h⟩
 ·refine zF Ad W (t := 83) (f := 43) rfl (XT.i0_le_f hc51) ?_
  refine zS Ad W 7 (st' := (54, [vR 0, vI x1, vI x2, vI x3, vI x4, vI v.1], [.int (v.1 - (1:Int32)), .ref 8, .int x4, .ref 0], (H0 v.2))) rfl ?_
  obtain ⟨y52, hy52, h⟩ := bind_eq_some_iff.mp h
  refine zB Ad W (f := fun y52 => (55, [vR 0, vI x1, vI x2, vI x3, vI x4, vI v.1], [.int y52, .int x4, .ref 0], (H0 v.2))) rfl hy52 ?_
  obtain ⟨r77, hr77, h⟩ := bind_eq_some_iff.mp h
  refine QTri.callP W (a := 0) (as := [.int x4, .int y52]) (rest := []) (w := (some (.int r77))) (σ₁ := (H0 v.2)) rfl rfl rfl rfl rfl rfl rfl rfl (tF8 Ad W v.2 x4 y52 hr77) ?_
  rcases qite h with ⟨hc78, h⟩ | ⟨hc78, h⟩
  ·refine zT Ad W (t := 83) (f := 61) rfl (XT.i0_eq_t hc78) ?_
   obtain rfl := Option.some.inj h
   exact zM [tt,tt,tt,tt,tt,tt] (hx0 (v.1, v.2) rfl)
  ·refine zF Ad W (t := 83) (f := 61) rfl (XT.i0_eq_f hc78) ?_
   refine zS Ad W 8 (st' := (75, [vR 0, vI x1, vI x2, vI x3, vI x4, vI v.1], [.int (v.1 - (1:Int32)), .ref 8, .int v.1, .ref 8], (H0 v.2))) rfl ?_
   obtain ⟨y79, hy79, h⟩ := bind_eq_some_iff.mp h
   refine zB Ad W (f := fun y79 => (76, [vR 0, vI x1, vI x2, vI x3, vI x4, vI v.1], [.int y79, .int v.1, .ref 8], (H0 v.2))) rfl hy79 ?_
   obtain ⟨y80, hy80, h⟩ := bind_eq_some_iff.mp h
   refine zB Ad W (f := fun y80 => (77, [vR 0, vI x1, vI x2, vI x3, vI x4, vI v.1], [], (H0x19 v.2 y80))) rfl hy80 ?_
   refine zS Ad W 2 (st' := (38, [vR 0, vI x1, vI x2, vI x3, vI x4, vI (v.1 + (-1:Int32))], [], (H0x19 v.2 y80))) rfl ?_
   have E81 : ((H0x19 v.2 y80) : QHeap) = (H0 (s_sorted v.2 y80)) := by simp only [fs, H0, H0v, H0x19, s_sorted]
   rw [E81]
   obtain rfl := Option.some.inj h
   exact zM [tt,tt,tt,tt,tt,tt] (hc ((v.1 + (-1:Int32)), (s_sorted v.2 y80)) rfl)
 ·refine zT Ad W (t := 83) (f := 43) rfl (XT.i0_le_t hc51) ?_
  obtain rfl := Option.some.inj h
  exact zM [tt,tt,tt,tt,tt,tt] (hx0 (v.1, v.2) rfl)
def J7_95 (o : Ob) (x1 : Int32) (x2 : Int32) (x3 : Int32) (x4 : Int32) : Option (((Int32 × Ob)) ⊕ (Int32 × Int32 × Ob)) :=
  some (.inr (x2, (x4 + (1 : Int32)), o))
theorem tJ7_95 (Ad : QAd n0 ad) (W : QW Z a0) (o : Ob) (x1 : Int32) (x2 : Int32) (x3 : Int32) (x4 : Int32) {r : ((Int32 × Ob)) ⊕ (Int32 × Int32 × Ob)} {u : Option Value} {τ : QHeap} (h : J7_95 o x1 x2 x3 x4 = some r) (hx0 : ∀ x : Int32 × Ob, r = .inl x → QTri l Z n0 ad 7 (101, [vR 0, vI x1, vI x.1, none, none, none], [], (H0 x.2)) u τ) (hc : ∀ x : Int32 × Int32 × Ob, r = .inr x → QTri l Z n0 ad 7 (12, [vR 0, vI x1, vI x.1, vI x3, vI x.2.1, none], [], (H0 x.2.2)) u τ) : QTri l Z n0 ad 7 (95, [vR 0, vI x1, vI x2, vI x3, vI x4, none], [], (H0 o)) u τ := by
 unfold J7_95 at h
 refine zS Ad W 2 (st' := (12, [vR 0, vI x1, vI x2, vI x3, vI (x4 + (1:Int32)), none], [], (H0 o))) rfl ?_
 obtain rfl := Option.some.inj h
 exact zM [tt,tt,tt,tt,tt,ff] (hc (x2, (x4 + (1:Int32)), o) rfl)
def J7_83 (o : Ob) (x1 : Int32) (x2 : Int32) (x3 : Int32) (x4 : Int32) (x5 : Int32) : Option (((Int32 × Ob)) ⊕ (Int32 × Int32 × Ob)) :=
  (aset (f_sorted o) x5 x4).bind fun y84 => (J7_95 (s_sorted o y84) x1 (x2 + (1 : Int32)) x3 x4)
theorem tJ7_83 (Ad : QAd n0 ad) (W : QW Z a0) (o : Ob) (x1 : Int32) (x2 : Int32) (x3 : Int32) (x4 : Int32) (x5 : Int32) {r : ((Int32 × Ob)) ⊕ (Int32 × Int32 × Ob)} {u : Option Value} {τ : QHeap} (h : J7_83 o x1 x2 x3 x4 x5 = some r) (hx0 : ∀ x : Int32 × Ob, r = .inl x → QTri l Z n0 ad 7 (101, [vR 0, vI x1, vI x.1, none, none, none], [], (H0 x.2)) u τ) (hc : ∀ x : Int32 × Int32 × Ob, r = .inr x → QTri l Z n0 ad 7 (12, [vR 0, vI x1, vI x.1, vI x3, vI x.2.1, none], [], (H0 x.2.2)) u τ) : QTri l Z n0 ad 7 (83, [vR 0, vI x1, vI x2, vI x3, vI x4, vI x5], [], (H0 o)) u τ := by
 unfold J7_83 at h
 refine zS Ad W 4 (st' := (91, [vR 0, vI x1, vI x2, vI x3, vI x4, vI x5], [.int x4, .int x5, .ref 8], (H0 o))) rfl ?_
 obtain ⟨y84, hy84, h⟩ := bind_eq_some_iff.mp h
 refine zB Ad W (f := fun y84 => (92, [vR 0, vI x1, vI x2, vI x3, vI x4, vI x5], [], (H0x19 o y84))) rfl hy84 ?_
 refine zS Ad W 1 (st' := (95, [vR 0, vI x1, vI (x2 + (1:Int32)), vI x3, vI x4, vI x5], [], (H0x19 o y84))) rfl ?_
 have E85 : ((H0x19 o y84) : QHeap) = (H0 (s_sorted o y84)) := by simp only [fs, H0, H0v, H0x19, s_sorted]
 rw [E85]
 exact zM [tt,tt,tt,tt,tt,ff] (tJ7_95 Ad W (s_sorted o y84) x1 (x2 + (1:Int32)) x3 x4 h hx0 hc)
def B7_12 (x1 : Int32) (x3 : Int32) (v : Int32 × Int32 × Ob) : Option (((Int32 × Ob)) ⊕ (Int32 × Int32 × Ob)) :=
  (if v.2.1 < (f_rows v.2.2) then (aget (f_part v.2.2) v.2.1).bind fun y49 => (if y49 = x3 then (loopN (B7_38 x1 v.1 x3 v.2.1) qN (v.1, v.2.2)).bind fun e82 => (J7_83 e82.2 x1 v.1 x3 v.2.1 e82.1) else (J7_95 v.2.2 x1 v.1 x3 v.2.1)) else some (.inl (v.1, v.2.2)))
theorem tB7_12 (Ad : QAd n0 ad) (W : QW Z a0) (x1 : Int32) (x3 : Int32) (v : Int32 × Int32 × Ob) {r : ((Int32 × Ob)) ⊕ (Int32 × Int32 × Ob)} {u : Option Value} {τ : QHeap} (h : B7_12 x1 x3 v = some r) (hx0 : ∀ x : Int32 × Ob, r = .inl x → QTri l Z n0 ad 7 (101, [vR 0, vI x1, vI x.1, none, none, none], [], (H0 x.2)) u τ) (hc : ∀ x : Int32 × Int32 × Ob, r = .inr x → QTri l Z n0 ad 7 (12, [vR 0, vI x1, vI x.1, vI x3, vI x.2.1, none], [], (H0 x.2.2)) u τ) : QTri l Z n0 ad 7 (12, [vR 0, vI x1, vI v.1, vI x3, vI v.2.1, none], [], (H0 v.2.2)) u τ := by
 unfold B7_12 at h
 refine zS Ad W 3 (st' := (18, [vR 0, vI x1, vI v.1, vI x3, vI v.2.1, none], [.int (f_rows v.2.2), .int v.2.1], (H0 v.2.2))) rfl ?_
 rcases qite h with ⟨hc48, h⟩ | ⟨hc48, h⟩
 ·refine zF Ad W (t := 101) (f := 21) rfl (XT.ii_ge_f hc48) ?_
  refine zS Ad W 3 (st' := (27, [vR 0, vI x1, vI v.1, vI x3, vI v.2.1, none], [.int v.2.1, .ref 1], (H0 v.2.2))) rfl ?_
  obtain ⟨y49, hy49, h⟩ := bind_eq_some_iff.mp h
  refine zB Ad W (f := fun y49 => (28, [vR 0, vI x1, vI v.1, vI x3, vI v.2.1, none], [.int y49], (H0 v.2.2))) rfl hy49 ?_
  refine zS Ad W 1 (st' := (29, [vR 0, vI x1, vI v.1, vI x3, vI v.2.1, none], [.int x3, .int y49], (H0 v.2.2))) rfl ?_
  rcases qite h with ⟨hc50, h⟩ | ⟨hc50, h⟩
  ·refine zT Ad W (t := 35) (f := 32) rfl (XT.ii_eq_t hc50) ?_
   refine zS Ad W 2 (st' := (38, [vR 0, vI x1, vI v.1, vI x3, vI v.2.1, vI v.1], [], (H0 v.2.2))) rfl ?_
   obtain ⟨e82, he82, h⟩ := bind_eq_some_iff.mp h
   refine zM [tt,tt,tt,tt,tt,tt] (loopN_tri (B := B7_38 x1 v.1 x3 v.2.1) (T := fun lv83 => QTri l Z n0 ad 7 (38, [vR 0, vI x1, vI v.1, vI x3, vI v.2.1, vI lv83.1], [], (H0 lv83.2)) u τ) (KE := fun e82a => QTri l Z n0 ad 7 (83, [vR 0, vI x1, vI v.1, vI x3, vI v.2.1, vI e82a.1], [], (H0 e82a.2)) u τ) (fun lv83 r hB hE hC => tB7_38 Ad W x1 v.1 x3 v.2.1 lv83 hB (fun x q => hE _ q) (fun x q => hC x q)) qN (v.1, v.2.2) e82 he82 ?_)
   exact zM [tt,tt,tt,tt,tt,tt] (tJ7_83 Ad W e82.2 x1 v.1 x3 v.2.1 e82.1 h hx0 hc)
  ·refine zF Ad W (t := 35) (f := 32) rfl (XT.ii_eq_f hc50) ?_
   refine zS Ad W 1 (st' := (95, [vR 0, vI x1, vI v.1, vI x3, vI v.2.1, none], [], (H0 v.2.2))) rfl ?_
   exact zM [tt,tt,tt,tt,tt,ff] (tJ7_95 Ad W v.2.2 x1 v.1 x3 v.2.1 h hx0 hc)
 ·refine zT Ad W (t := 101) (f := 21) rfl (XT.ii_ge_t hc48) ?_
  obtain rfl := Option.some.inj h
  exact zM [tt,tt,tt,ff,ff,ff] (hx0 (v.1, v.2.2) rfl)
def H0x20 (o0 : Ob) (a0_20 : Int32) : QHeap := H0v (f_part o0) (f_keys o0) (f_vals o0) (f_flg o0) (f_res o0) (f_resNull o0) (f_frameCnt o0) (f_sorted o0) (f_cap o0) (f_rows o0) (f_direction o0) (f_nulls o0) (f_mode o0) (f_startKind o0) (f_startOff o0) (f_endKind o0) (f_endOff o0) (f_fn o0) (f_fnArg o0) (f_computed o0) a0_20 (f_curPos o0) (f_aggSum o0) (f_aggCount o0) (f_aggRows o0) (f_aggMin o0) (f_aggMax o0)
def H0x21 (o0 : Ob) (a0_20 : Int32) (a0_21 : Int32) : QHeap := H0v (f_part o0) (f_keys o0) (f_vals o0) (f_flg o0) (f_res o0) (f_resNull o0) (f_frameCnt o0) (f_sorted o0) (f_cap o0) (f_rows o0) (f_direction o0) (f_nulls o0) (f_mode o0) (f_startKind o0) (f_startOff o0) (f_endKind o0) (f_endOff o0) (f_fn o0) (f_fnArg o0) (f_computed o0) a0_20 a0_21 (f_aggSum o0) (f_aggCount o0) (f_aggRows o0) (f_aggMin o0) (f_aggMax o0)
def H0x22 (o0 : Ob) (a0_21 : Int32) : QHeap := H0v (f_part o0) (f_keys o0) (f_vals o0) (f_flg o0) (f_res o0) (f_resNull o0) (f_frameCnt o0) (f_sorted o0) (f_cap o0) (f_rows o0) (f_direction o0) (f_nulls o0) (f_mode o0) (f_startKind o0) (f_startOff o0) (f_endKind o0) (f_endOff o0) (f_fn o0) (f_fnArg o0) (f_computed o0) (f_sortedLen o0) a0_21 (f_aggSum o0) (f_aggCount o0) (f_aggRows o0) (f_aggMin o0) (f_aggMax o0)
def J7_137 (o : Ob) (x1 : Int32) (x2 : Int32) (x4 : Int32) : Option (((Ob)) ⊕ (Int32 × Ob)) :=
  some (.inr ((x4 + (1 : Int32)), o))
theorem tJ7_137 (Ad : QAd n0 ad) (W : QW Z a0) (o : Ob) (x1 : Int32) (x2 : Int32) (x4 : Int32) {r : ((Ob)) ⊕ (Int32 × Ob)} {u : Option Value} {τ : QHeap} (h : J7_137 o x1 x2 x4 = some r) (hx0 : ∀ x : Ob, r = .inl x → u = (none : Option Value) ∧ τ = (H0 x)) (hc : ∀ x : Int32 × Ob, r = .inr x → QTri l Z n0 ad 7 (114, [vR 0, vI x1, vI x2, none, vI x.1, none], [], (H0 x.2)) u τ) : QTri l Z n0 ad 7 (137, [vR 0, vI x1, vI x2, none, vI x4, none], [], (H0 o)) u τ := by
 unfold J7_137 at h
 refine zS Ad W 2 (st' := (114, [vR 0, vI x1, vI x2, none, vI (x4 + (1:Int32)), none], [], (H0 o))) rfl ?_
 obtain rfl := Option.some.inj h
 exact zM [tt,tt,tt,ff,tt,ff] (hc ((x4 + (1:Int32)), o) rfl)
def B7_114 (x1 : Int32) (x2 : Int32) (v : Int32 × Ob) : Option (((Ob)) ⊕ (Int32 × Ob)) :=
  (if v.1 < x2 then (aget (f_sorted v.2) v.1).bind fun y90 => (if y90 = x1 then (J7_137 (s_curPos v.2 v.1) x1 x2 v.1) else (J7_137 v.2 x1 x2 v.1)) else some (.inl v.2))
theorem tB7_114 (Ad : QAd n0 ad) (W : QW Z a0) (x1 : Int32) (x2 : Int32) (v : Int32 × Ob) {r : ((Ob)) ⊕ (Int32 × Ob)} {u : Option Value} {τ : QHeap} (h : B7_114 x1 x2 v = some r) (hx0 : ∀ x : Ob, r = .inl x → u = (none : Option Value) ∧ τ = (H0 x)) (hc : ∀ x : Int32 × Ob, r = .inr x → QTri l Z n0 ad 7 (114, [vR 0, vI x1, vI x2, none, vI x.1, none], [], (H0 x.2)) u τ) : QTri l Z n0 ad 7 (114, [vR 0, vI x1, vI x2, none, vI v.1, none], [], (H0 v.2)) u τ := by
 unfold B7_114 at h
 refine zS Ad W 2 (st' := (117, [vR 0, vI x1, vI x2, none, vI v.1, none], [.int x2, .int v.1], (H0 v.2))) rfl ?_
 rcases qite h with ⟨hc89, h⟩ | ⟨hc89, h⟩
 ·refine zF Ad W (t := 143) (f := 120) rfl (XT.ii_ge_f hc89) ?_
  refine zS Ad W 3 (st' := (126, [vR 0, vI x1, vI x2, none, vI v.1, none], [.int v.1, .ref 8], (H0 v.2))) rfl ?_
  obtain ⟨y90, hy90, h⟩ := bind_eq_some_iff.mp h
  refine zB Ad W (f := fun y90 => (127, [vR 0, vI x1, vI x2, none, vI v.1, none], [.int y90], (H0 v.2))) rfl hy90 ?_
  refine zS Ad W 1 (st' := (128, [vR 0, vI x1, vI x2, none, vI v.1, none], [.int x1, .int y90], (H0 v.2))) rfl ?_
  rcases qite h with ⟨hc91, h⟩ | ⟨hc91, h⟩
  ·refine zF Ad W (t := 137) (f := 131) rfl (XT.ii_ne_f hc91) ?_
   refine zS Ad W 3 (st' := (137, [vR 0, vI x1, vI x2, none, vI v.1, none], [], (H0x22 v.2 v.1))) rfl ?_
   have E92 : ((H0x22 v.2 v.1) : QHeap) = (H0 (s_curPos v.2 v.1)) := by simp only [fs, H0, H0v, H0x22, s_curPos]
   rw [E92]
   exact zM [tt,tt,tt,ff,tt,ff] (tJ7_137 Ad W (s_curPos v.2 v.1) x1 x2 v.1 h hx0 hc)
  ·refine zT Ad W (t := 137) (f := 131) rfl (XT.ii_ne_t hc91) ?_
   exact zM [tt,tt,tt,ff,tt,ff] (tJ7_137 Ad W v.2 x1 x2 v.1 h hx0 hc)
 ·refine zT Ad W (t := 143) (f := 120) rfl (XT.ii_ge_t hc89) ?_
  obtain rfl := Option.some.inj h
  obtain ⟨rfl, rfl⟩ := hx0 v.2 rfl
  exact QTri.ret0 rfl rfl
/-- buildPartition(I)V -/
def F7 (o : Ob) (x1 : Int32) : Option (Ob) :=
 (aget (f_part o) x1).bind fun y47 => (loopN (B7_12 x1 y47) qN ((0:Int32), (0:Int32), o)).bind fun e86 => (loopN (B7_114 x1 e86.1) qN ((0:Int32), (s_curPos (s_sortedLen e86.2 e86.1) (0:Int32)))).bind fun e93 => some e93
theorem tF7 (Ad : QAd n0 ad) (W : QW Z a0) (o : Ob) (x1 : Int32) {r : Ob} (h : F7 o x1 = some r) : QTri l Z n0 ad 7 (0, qentry [.ref 0, .int x1] (pMaxL 7), [], (H0 o)) (none : Option Value) (H0 r) := by
 unfold F7 at h
 refine zS Ad W 5 (st' := (7, [vR 0, vI x1, vI (0:Int32), none, none, none], [.int x1, .ref 1], (H0 o))) rfl ?_
 obtain ⟨y47, hy47, h⟩ := bind_eq_some_iff.mp h
 refine zB Ad W (f := fun y47 => (8, [vR 0, vI x1, vI (0:Int32), none, none, none], [.int y47], (H0 o))) rfl hy47 ?_
 refine zS Ad W 3 (st' := (12, [vR 0, vI x1, vI (0:Int32), vI y47, vI (0:Int32), none], [], (H0 o))) rfl ?_
 obtain ⟨e86, he86, h⟩ := bind_eq_some_iff.mp h
 refine zM [tt,tt,tt,tt,tt,ff] (loopN_tri (B := B7_12 x1 y47) (T := fun lv87 => QTri l Z n0 ad 7 (12, [vR 0, vI x1, vI lv87.1, vI y47, vI lv87.2.1, none], [], (H0 lv87.2.2)) (none : Option Value) (H0 r)) (KE := fun e86a => QTri l Z n0 ad 7 (101, [vR 0, vI x1, vI e86a.1, none, none, none], [], (H0 e86a.2)) (none : Option Value) (H0 r)) (fun lv87 r hB hE hC => tB7_12 Ad W x1 y47 lv87 hB (fun x q => hE _ q) (fun x q => hC x q)) qN ((0:Int32), (0:Int32), o) e86 he86 ?_)
 refine zS Ad W 3 (st' := (106, [vR 0, vI x1, vI e86.1, none, none, none], [], (H0x20 e86.2 e86.1))) rfl ?_
 refine zS Ad W 3 (st' := (111, [vR 0, vI x1, vI e86.1, none, none, none], [], (H0x21 e86.2 e86.1 (0:Int32)))) rfl ?_
 refine zS Ad W 2 (st' := (114, [vR 0, vI x1, vI e86.1, none, vI (0:Int32), none], [], (H0x21 e86.2 e86.1 (0:Int32)))) rfl ?_
 have E88 : ((H0x21 e86.2 e86.1 (0:Int32)) : QHeap) = (H0 (s_curPos (s_sortedLen e86.2 e86.1) (0:Int32))) := by simp only [fs, H0, H0v, H0x21, s_sortedLen, s_curPos]
 rw [E88]
 obtain ⟨e93, he93, h⟩ := bind_eq_some_iff.mp h
 refine zM [tt,tt,tt,ff,tt,ff] (loopN_tri (B := B7_114 x1 e86.1) (T := fun lv94 => QTri l Z n0 ad 7 (114, [vR 0, vI x1, vI e86.1, none, vI lv94.1, none], [], (H0 lv94.2)) (none : Option Value) (H0 r)) (KE := fun e93a => (none : Option Value) = (none : Option Value) ∧ (H0 r) = (H0 e93a)) (fun lv94 r hB hE hC => tB7_114 Ad W x1 e86.1 lv94 hB (fun x q => hE _ q) (fun x q => hC x q)) qN ((0:Int32), (s_curPos (s_sortedLen e86.2 e86.1) (0:Int32))) e93 he93 ?_)
 obtain rfl := Option.some.inj h
 exact ⟨rfl, rfl⟩
def H0x23 (o0 : Ob) (a0_22 : Int64) : QHeap := H0v (f_part o0) (f_keys o0) (f_vals o0) (f_flg o0) (f_res o0) (f_resNull o0) (f_frameCnt o0) (f_sorted o0) (f_cap o0) (f_rows o0) (f_direction o0) (f_nulls o0) (f_mode o0) (f_startKind o0) (f_startOff o0) (f_endKind o0) (f_endOff o0) (f_fn o0) (f_fnArg o0) (f_computed o0) (f_sortedLen o0) (f_curPos o0) a0_22 (f_aggCount o0) (f_aggRows o0) (f_aggMin o0) (f_aggMax o0)
def H0x24 (o0 : Ob) (a0_22 : Int64) (a0_23 : Int32) : QHeap := H0v (f_part o0) (f_keys o0) (f_vals o0) (f_flg o0) (f_res o0) (f_resNull o0) (f_frameCnt o0) (f_sorted o0) (f_cap o0) (f_rows o0) (f_direction o0) (f_nulls o0) (f_mode o0) (f_startKind o0) (f_startOff o0) (f_endKind o0) (f_endOff o0) (f_fn o0) (f_fnArg o0) (f_computed o0) (f_sortedLen o0) (f_curPos o0) a0_22 a0_23 (f_aggRows o0) (f_aggMin o0) (f_aggMax o0)
def H0x25 (o0 : Ob) (a0_22 : Int64) (a0_23 : Int32) (a0_24 : Int32) : QHeap := H0v (f_part o0) (f_keys o0) (f_vals o0) (f_flg o0) (f_res o0) (f_resNull o0) (f_frameCnt o0) (f_sorted o0) (f_cap o0) (f_rows o0) (f_direction o0) (f_nulls o0) (f_mode o0) (f_startKind o0) (f_startOff o0) (f_endKind o0) (f_endOff o0) (f_fn o0) (f_fnArg o0) (f_computed o0) (f_sortedLen o0) (f_curPos o0) a0_22 a0_23 a0_24 (f_aggMin o0) (f_aggMax o0)
def H0x26 (o0 : Ob) (a0_22 : Int64) (a0_23 : Int32) (a0_24 : Int32) (a0_25 : Int32) : QHeap := H0v (f_part o0) (f_keys o0) (f_vals o0) (f_flg o0) (f_res o0) (f_resNull o0) (f_frameCnt o0) (f_sorted o0) (f_cap o0) (f_rows o0) (f_direction o0) (f_nulls o0) (f_mode o0) (f_startKind o0) (f_startOff o0) (f_endKind o0) (f_endOff o0) (f_fn o0) (f_fnArg o0) (f_computed o0) (f_sortedLen o0) (f_curPos o0) a0_22 a0_23 a0_24 a0_25 (f_aggMax o0)
def H0x27 (o0 : Ob) (a0_22 : Int64) (a0_23 : Int32) (a0_24 : Int32) (a0_25 : Int32) (a0_26 : Int32) : QHeap := H0v (f_part o0) (f_keys o0) (f_vals o0) (f_flg o0) (f_res o0) (f_resNull o0) (f_frameCnt o0) (f_sorted o0) (f_cap o0) (f_rows o0) (f_direction o0) (f_nulls o0) (f_mode o0) (f_startKind o0) (f_startOff o0) (f_endKind o0) (f_endOff o0) (f_fn o0) (f_fnArg o0) (f_computed o0) (f_sortedLen o0) (f_curPos o0) a0_22 a0_23 a0_24 a0_25 a0_26
def J14_33 (o : Ob) (x1 : Int32) (x2 : Int32) (x3 : Int32) (x4 : Int32) : Option (Int32) :=
  (if x3 = (0 : Int32) then (if x4 = (0 : Int32) then (aget (f_keys o) x1).bind fun y108 => (aget (f_keys o) x2).bind fun y109 => (if y108 = y109 then some (1 : Int32) else some (0 : Int32)) else some (0 : Int32)) else some (0 : Int32))
theorem tJ14_33 (Ad : QAd n0 ad) (W : QW Z a0) (o : Ob) (x1 : Int32) (x2 : Int32) (x3 : Int32) (x4 : Int32) {r : Int32} (h : J14_33 o x1 x2 x3 x4 = some r) : QTri l Z n0 ad 14 (33, [vR 0, vI x1, vI x2, vI x3, vI x4], [], (H0 o)) (some (Value.int r)) (H0 o) := by
 unfold J14_33 at h
 refine zS Ad W 1 (st' := (34, [vR 0, vI x1, vI x2, vI x3, vI x4], [.int x3], (H0 o))) rfl ?_
 rcases qite h with ⟨hc106, h⟩ | ⟨hc106, h⟩
 ·refine zF Ad W (t := 42) (f := 37) rfl (XT.i0_ne_f hc106) ?_
  refine zS Ad W 1 (st' := (39, [vR 0, vI x1, vI x2, vI x3, vI x4], [.int x4], (H0 o))) rfl ?_
  rcases qite h with ⟨hc107, h⟩ | ⟨hc107, h⟩
  ·refine zT Ad W (t := 44) (f := 42) rfl (XT.i0_eq_t hc107) ?_
   refine zS Ad W 3 (st' := (49, [vR 0, vI x1, vI x2, vI x3, vI x4], [.int x1, .ref 2], (H0 o))) rfl ?_
   obtain ⟨y108, hy108, h⟩ := bind_eq_some_iff.mp h
   refine zB Ad W (f := fun y108 => (50, [vR 0, vI x1, vI x2, vI x3, vI x4], [.int y108], (H0 o))) rfl hy108 ?_
   refine zS Ad W 3 (st' := (55, [vR 0, vI x1, vI x2, vI x3, vI x4], [.int x2, .ref 2, .int y108], (H0 o))) rfl ?_
   obtain ⟨y109, hy109, h⟩ := bind_eq_some_iff.mp h
   refine zB Ad W (f := fun y109 => (56, [vR 0, vI x1, vI x2, vI x3, vI x4], [.int y109, .int y108], (H0 o))) rfl hy109 ?_
   rcases qite h with ⟨hc110, h⟩ | ⟨hc110, h⟩
   ·refine zF Ad W (t := 63) (f := 59) rfl (XT.ii_ne_f hc110) ?_
    refine zS Ad W 2 (st' := (64, [vR 0, vI x1, vI x2, vI x3, vI x4], [.int (1:Int32)], (H0 o))) rfl ?_
    obtain rfl := Option.some.inj h
    exact QTri.retZ rfl rfl
   ·refine zT Ad W (t := 63) (f := 59) rfl (XT.ii_ne_t hc110) ?_
    refine zS Ad W 1 (st' := (64, [vR 0, vI x1, vI x2, vI x3, vI x4], [.int (0:Int32)], (H0 o))) rfl ?_
    obtain rfl := Option.some.inj h
    exact QTri.retZ rfl rfl
  ·refine zF Ad W (t := 44) (f := 42) rfl (XT.i0_eq_f hc107) ?_
   refine zS Ad W 1 (st' := (43, [vR 0, vI x1, vI x2, vI x3, vI x4], [.int (0:Int32)], (H0 o))) rfl ?_
   obtain rfl := Option.some.inj h
   exact QTri.retZ rfl rfl
 ·refine zT Ad W (t := 42) (f := 37) rfl (XT.i0_ne_t hc106) ?_
  refine zS Ad W 1 (st' := (43, [vR 0, vI x1, vI x2, vI x3, vI x4], [.int (0:Int32)], (H0 o))) rfl ?_
  obtain rfl := Option.some.inj h
  exact QTri.retZ rfl rfl
/-- peer(II)Z -/
def F14 (o : Ob) (x1 : Int32) (x2 : Int32) : Option (Int32) :=
 (if (f_direction o) = (0:Int32) then some (1:Int32) else (F9 o x1).bind fun r103 => (F9 o x2).bind fun r104 => (if r103 = (0:Int32) then (J14_33 o x1 x2 r103 r104) else (if r104 = (0:Int32) then (J14_33 o x1 x2 r103 r104) else some (1:Int32))))
theorem tF14 (Ad : QAd n0 ad) (W : QW Z a0) (o : Ob) (x1 : Int32) (x2 : Int32) {r : Int32} (h : F14 o x1 x2 = some r) : QTri l Z n0 ad 14 (0, qentry [.ref 0, .int x1, .int x2] (pMaxL 14), [], (H0 o)) (some (Value.int r)) (H0 o) := by
 unfold F14 at h
 refine zS Ad W 2 (st' := (4, [vR 0, vI x1, vI x2, none, none], [.int (f_direction o)], (H0 o))) rfl ?_
 rcases qite h with ⟨hc102, h⟩ | ⟨hc102, h⟩
 ·refine zF Ad W (t := 9) (f := 7) rfl (XT.i0_ne_f hc102) ?_
  refine zS Ad W 1 (st' := (8, [vR 0, vI x1, vI x2, none, none], [.int (1:Int32)], (H0 o))) rfl ?_
  obtain rfl := Option.some.inj h
  exact QTri.retZ rfl rfl
 ·refine zT Ad W (t := 9) (f := 7) rfl (XT.i0_ne_t hc102) ?_
  refine zS Ad W 2 (st' := (11, [vR 0, vI x1, vI x2, none, none], [.int x1, .ref 0], (H0 o))) rfl ?_
  obtain ⟨r103, hr103, h⟩ := bind_eq_some_iff.mp h
  refine QTri.callP W (a := 0) (as := [.int x1]) (rest := []) (w := (some (.int r103))) (σ₁ := (H0 o)) rfl rfl rfl rfl rfl rfl rfl rfl (tF9 Ad W o x1 hr103) ?_
  refine zS Ad W 3 (st' := (17, [vR 0, vI x1, vI x2, vI r103, none], [.int x2, .ref 0], (H0 o))) rfl ?_
  obtain ⟨r104, hr104, h⟩ := bind_eq_some_iff.mp h
  refine QTri.callP W (a := 0) (as := [.int x2]) (rest := []) (w := (some (.int r104))) (σ₁ := (H0 o)) rfl rfl rfl rfl rfl rfl rfl rfl (tF9 Ad W o x2 hr104) ?_
  refine zS Ad W 2 (st' := (23, [vR 0, vI x1, vI x2, vI r103, vI r104], [.int r103], (H0 o))) rfl ?_
  rcases qite h with ⟨hc105, h⟩ | ⟨hc105, h⟩
  ·refine zT Ad W (t := 33) (f := 26) rfl (XT.i0_eq_t hc105) ?_
   exact zM [tt,tt,tt,tt,tt] (tJ14_33 Ad W o x1 x2 r103 r104 h)
  ·refine zF Ad W (t := 33) (f := 26) rfl (XT.i0_eq_f hc105) ?_
   refine zS Ad W 1 (st' := (28, [vR 0, vI x1, vI x2, vI r103, vI r104], [.int r104], (H0 o))) rfl ?_
   rcases qite h with ⟨hc111, h⟩ | ⟨hc111, h⟩
   ·refine zT Ad W (t := 33) (f := 31) rfl (XT.i0_eq_t hc111) ?_
    exact zM [tt,tt,tt,tt,tt] (tJ14_33 Ad W o x1 x2 r103 r104 h)
   ·refine zF Ad W (t := 33) (f := 31) rfl (XT.i0_eq_f hc111) ?_
    refine zS Ad W 1 (st' := (32, [vR 0, vI x1, vI x2, vI r103, vI r104], [.int (1:Int32)], (H0 o))) rfl ?_
    obtain rfl := Option.some.inj h
    exact QTri.retZ rfl rfl
/-- rangeStartHolds(IIII)Z -/
def F12 (o : Ob) (x1 : Int32) (x2 : Int32) (x3 : Int32) (x4 : Int32) : Option (Int32) :=
 (if (f_startKind o) = (0:Int32) then some (1:Int32) else (if (f_startKind o) = (4:Int32) then some (1:Int32) else (F14 o x1 x2).bind fun r112 => (if (f_startKind o) = (2:Int32) then some ((if r112 = (0:Int32) then (if x3 < x4 then (1:Int32) else (0:Int32)) else (1:Int32)) &&& 1) else (F9 o x1).bind fun r118 => (if r118 = (0:Int32) then (F9 o x2).bind fun r120 => (if r120 = (0:Int32) then none else (if (f_nulls o) = (1:Int32) then some (1:Int32) else some (0:Int32))) else some ((if r112 = (0:Int32) then (if x3 < x4 then (1:Int32) else (0:Int32)) else (1:Int32)) &&& 1)))))
theorem tF12 (Ad : QAd n0 ad) (W : QW Z a0) (o : Ob) (x1 : Int32) (x2 : Int32) (x3 : Int32) (x4 : Int32) {r : Int32} (h : F12 o x1 x2 x3 x4 = some r) : QTri l Z n0 ad 12 (0, qentry [.ref 0, .int x1, .int x2, .int x3, .int x4] (pMaxL 12), [], (H0 o)) (some (Value.int r)) (H0 o) := by
 unfold F12 at h
 refine zS Ad W 2 (st' := (4, [vR 0, vI x1, vI x2, vI x3, vI x4, none, none, none, none, none], [.int (f_startKind o)], (H0 o))) rfl ?_
 rcases qite h with ⟨hc100, h⟩ | ⟨hc100, h⟩
 ·refine zT Ad W (t := 15) (f := 7) rfl (XT.i0_eq_t hc100) ?_
  refine zS Ad W 1 (st' := (16, [vR 0, vI x1, vI x2, vI x3, vI x4, none, none, none, none, none], [.int (1:Int32)], (H0 o))) rfl ?_
  obtain rfl := Option.some.inj h
  exact QTri.retZ rfl rfl
 ·refine zF Ad W (t := 15) (f := 7) rfl (XT.i0_eq_f hc100) ?_
  refine zS Ad W 3 (st' := (12, [vR 0, vI x1, vI x2, vI x3, vI x4, none, none, none, none, none], [.int (4:Int32), .int (f_startKind o)], (H0 o))) rfl ?_
  rcases qite h with ⟨hc101, h⟩ | ⟨hc101, h⟩
  ·refine zF Ad W (t := 17) (f := 15) rfl (XT.ii_ne_f hc101) ?_
   refine zS Ad W 1 (st' := (16, [vR 0, vI x1, vI x2, vI x3, vI x4, none, none, none, none, none], [.int (1:Int32)], (H0 o))) rfl ?_
   obtain rfl := Option.some.inj h
   exact QTri.retZ rfl rfl
  ·refine zT Ad W (t := 17) (f := 15) rfl (XT.ii_ne_t hc101) ?_
   refine zS Ad W 3 (st' := (20, [vR 0, vI x1, vI x2, vI x3, vI x4, none, none, none, none, none], [.int x2, .int x1, .ref 0], (H0 o))) rfl ?_
   obtain ⟨r112, hr112, h⟩ := bind_eq_some_iff.mp h
   refine QTri.callP W (a := 0) (as := [.int x1, .int x2]) (rest := []) (w := (some (.int r112))) (σ₁ := (H0 o)) rfl rfl rfl rfl rfl rfl rfl rfl (tF14 Ad W o x1 x2 hr112) ?_
   have K114 : ∀ z113 : Int32, z113 = (if r112 = (0:Int32) then (if x3 < x4 then (1:Int32) else (0:Int32)) else (1:Int32)) → QTri l Z n0 ad 12 (37, [vR 0, vI x1, vI x2, none, none, none, none, none, none, none], [.int z113], (H0 o)) (some (Value.int r)) (H0 o) := by
    intro z113 ez113
    subst ez113
    refine zS Ad W 4 (st' := (44, [vR 0, vI x1, vI x2, none, none, vI (if r112 = (0:Int32) then (if x3 < x4 then (1:Int32) else (0:Int32)) else (1:Int32)), none, none, none, none], [.int (2:Int32), .int (f_startKind o)], (H0 o))) rfl ?_
    rcases qite h with ⟨hc117, h⟩ | ⟨hc117, h⟩
    ·refine zT Ad W (t := 55) (f := 47) rfl (XT.ii_eq_t hc117) ?_
     refine zS Ad W 1 (st' := (57, [vR 0, vI x1, vI x2, none, none, vI (if r112 = (0:Int32) then (if x3 < x4 then (1:Int32) else (0:Int32)) else (1:Int32)), none, none, none, none], [.int (if r112 = (0:Int32) then (if x3 < x4 then (1:Int32) else (0:Int32)) else (1:Int32))], (H0 o))) rfl ?_
     obtain rfl := Option.some.inj h
     exact QTri.retZ rfl rfl
    ·refine zF Ad W (t := 55) (f := 47) rfl (XT.ii_eq_f hc117) ?_
     refine zS Ad W 2 (st' := (49, [vR 0, vI x1, vI x2, none, none, vI (if r112 = (0:Int32) then (if x3 < x4 then (1:Int32) else (0:Int32)) else (1:Int32)), none, none, none, none], [.int x1, .ref 0], (H0 o))) rfl ?_
     obtain ⟨r118, hr118, h⟩ := bind_eq_some_iff.mp h
     refine QTri.callP W (a := 0) (as := [.int x1]) (rest := []) (w := (some (.int r118))) (σ₁ := (H0 o)) rfl rfl rfl rfl rfl rfl rfl rfl (tF9 Ad W o x1 hr118) ?_
     rcases qite h with ⟨hc119, h⟩ | ⟨hc119, h⟩
     ·refine zT Ad W (t := 58) (f := 55) rfl (XT.i0_eq_t hc119) ?_
      refine zS Ad W 2 (st' := (60, [vR 0, vI x1, vI x2, none, none, vI (if r112 = (0:Int32) then (if x3 < x4 then (1:Int32) else (0:Int32)) else (1:Int32)), none, none, none, none], [.int x2, .ref 0], (H0 o))) rfl ?_
      obtain ⟨r120, hr120, h⟩ := bind_eq_some_iff.mp h
      refine QTri.callP W (a := 0) (as := [.int x2]) (rest := []) (w := (some (.int r120))) (σ₁ := (H0 o)) rfl rfl rfl rfl rfl rfl rfl rfl (tF9 Ad W o x2 hr120) ?_
      rcases qite h with ⟨hc121, h⟩ | ⟨hc121, h⟩
      ·refine zT Ad W (t := 80) (f := 66) rfl (XT.i0_eq_t hc121) ?_
       cases h
      ·refine zF Ad W (t := 80) (f := 66) rfl (XT.i0_eq_f hc121) ?_
       refine zS Ad W 3 (st' := (71, [vR 0, vI x1, vI x2, none, none, vI (if r112 = (0:Int32) then (if x3 < x4 then (1:Int32) else (0:Int32)) else (1:Int32)), none, none, none, none], [.int (1:Int32), .int (f_nulls o)], (H0 o))) rfl ?_
       rcases qite h with ⟨hc122, h⟩ | ⟨hc122, h⟩
       ·refine zF Ad W (t := 78) (f := 74) rfl (XT.ii_ne_f hc122) ?_
        refine zS Ad W 2 (st' := (79, [vR 0, vI x1, vI x2, none, none, vI (if r112 = (0:Int32) then (if x3 < x4 then (1:Int32) else (0:Int32)) else (1:Int32)), none, none, none, none], [.int (1:Int32)], (H0 o))) rfl ?_
        obtain rfl := Option.some.inj h
        exact QTri.retZ rfl rfl
       ·refine zT Ad W (t := 78) (f := 74) rfl (XT.ii_ne_t hc122) ?_
        refine zS Ad W 1 (st' := (79, [vR 0, vI x1, vI x2, none, none, vI (if r112 = (0:Int32) then (if x3 < x4 then (1:Int32) else (0:Int32)) else (1:Int32)), none, none, none, none], [.int (0:Int32)], (H0 o))) rfl ?_
        obtain rfl := Option.some.inj h
        exact QTri.retZ rfl rfl
     ·refine zF Ad W (t := 58) (f := 55) rfl (XT.i0_eq_f hc119) ?_
      refine zS Ad W 1 (st' := (57, [vR 0, vI x1, vI x2, none, none, vI (if r112 = (0:Int32) then (if x3 < x4 then (1:Int32) else (0:Int32)) else (1:Int32)), none, none, none, none], [.int (if r112 = (0:Int32) then (if x3 < x4 then (1:Int32) else (0:Int32)) else (1:Int32))], (H0 o))) rfl ?_
      obtain rfl := Option.some.inj h
      exact QTri.retZ rfl rfl
   rcases em (r112 = (0:Int32)) with hc115 | hc115
   ·refine zF Ad W (t := 32) (f := 26) rfl (XT.i0_ne_f hc115) ?_
    refine zS Ad W 2 (st' := (29, [vR 0, vI x1, vI x2, vI x3, vI x4, none, none, none, none, none], [.int x3, .int x4], (H0 o))) rfl ?_
    rcases em (x3 < x4) with hc116 | hc116
    ·refine zF Ad W (t := 36) (f := 32) rfl (XT.ii_le_f hc116) ?_
     refine zS Ad W 2 (st' := (37, [vR 0, vI x1, vI x2, vI x3, vI x4, none, none, none, none, none], [.int (1:Int32)], (H0 o))) rfl ?_
     exact zM [tt,tt,tt,ff,ff,ff,ff,ff,ff,ff] (K114 _ ((if_pos hc115).trans (if_pos hc116)).symm)
    ·refine zT Ad W (t := 36) (f := 32) rfl (XT.ii_le_t hc116) ?_
     refine zS Ad W 1 (st' := (37, [vR 0, vI x1, vI x2, vI x3, vI x4, none, none, none, none, none], [.int (0:Int32)], (H0 o))) rfl ?_
     exact zM [tt,tt,tt,ff,ff,ff,ff,ff,ff,ff] (K114 _ ((if_pos hc115).trans (if_neg hc116)).symm)
   ·refine zT Ad W (t := 32) (f := 26) rfl (XT.i0_ne_t hc115) ?_
    refine zS Ad W 2 (st' := (37, [vR 0, vI x1, vI x2, vI x3, vI x4, none, none, none, none, none], [.int (1:Int32)], (H0 o))) rfl ?_
    exact zM [tt,tt,tt,ff,ff,ff,ff,ff,ff,ff] (K114 _ (if_neg hc115).symm)
/-- rangeEndHolds(IIII)Z -/
def F13 (o : Ob) (x1 : Int32) (x2 : Int32) (x3 : Int32) (x4 : Int32) : Option (Int32) :=
 (if (f_endKind o) = (4:Int32) then some (1:Int32) else (if (f_endKind o) = (0:Int32) then some (1:Int32) else (F14 o x1 x2).bind fun r127 => (if (f_endKind o) = (2:Int32) then some ((if r127 = (0:Int32) then (if x4 < x3 then (1:Int32) else (0:Int32)) else (1:Int32)) &&& 1) else (F9 o x1).bind fun r133 => (if r133 = (0:Int32) then (F9 o x2).bind fun r135 => (if r135 = (0:Int32) then none else (if (f_nulls o) = (0:Int32) then some (1:Int32) else some (0:Int32))) else some ((if r127 = (0:Int32) then (if x4 < x3 then (1:Int32) else (0:Int32)) else (1:Int32)) &&& 1)))))
theorem tF13 (Ad : QAd n0 ad) (W : QW Z a0) (o : Ob) (x1 : Int32) (x2 : Int32) (x3 : Int32) (x4 : Int32) {r : Int32} (h : F13 o x1 x2 x3 x4 = some r) : QTri l Z n0 ad 13 (0, qentry [.ref 0, .int x1, .int x2, .int x3, .int x4] (pMaxL 13), [], (H0 o)) (some (Value.int r)) (H0 o) := by
 unfold F13 at h
 refine zS Ad W 3 (st' := (5, [vR 0, vI x1, vI x2, vI x3, vI x4, none, none, none, none, none], [.int (4:Int32), .int (f_endKind o)], (H0 o))) rfl ?_
 rcases qite h with ⟨hc125, h⟩ | ⟨hc125, h⟩
 ·refine zT Ad W (t := 15) (f := 8) rfl (XT.ii_eq_t hc125) ?_
  refine zS Ad W 1 (st' := (16, [vR 0, vI x1, vI x2, vI x3, vI x4, none, none, none, none, none], [.int (1:Int32)], (H0 o))) rfl ?_
  obtain rfl := Option.some.inj h
  exact QTri.retZ rfl rfl
 ·refine zF Ad W (t := 15) (f := 8) rfl (XT.ii_eq_f hc125) ?_
  refine zS Ad W 2 (st' := (12, [vR 0, vI x1, vI x2, vI x3, vI x4, none, none, none, none, none], [.int (f_endKind o)], (H0 o))) rfl ?_
  rcases qite h with ⟨hc126, h⟩ | ⟨hc126, h⟩
  ·refine zF Ad W (t := 17) (f := 15) rfl (XT.i0_ne_f hc126) ?_
   refine zS Ad W 1 (st' := (16, [vR 0, vI x1, vI x2, vI x3, vI x4, none, none, none, none, none], [.int (1:Int32)], (H0 o))) rfl ?_
   obtain rfl := Option.some.inj h
   exact QTri.retZ rfl rfl
  ·refine zT Ad W (t := 17) (f := 15) rfl (XT.i0_ne_t hc126) ?_
   refine zS Ad W 3 (st' := (20, [vR 0, vI x1, vI x2, vI x3, vI x4, none, none, none, none, none], [.int x2, .int x1, .ref 0], (H0 o))) rfl ?_
   obtain ⟨r127, hr127, h⟩ := bind_eq_some_iff.mp h
   refine QTri.callP W (a := 0) (as := [.int x1, .int x2]) (rest := []) (w := (some (.int r127))) (σ₁ := (H0 o)) rfl rfl rfl rfl rfl rfl rfl rfl (tF14 Ad W o x1 x2 hr127) ?_
   have K129 : ∀ z128 : Int32, z128 = (if r127 = (0:Int32) then (if x4 < x3 then (1:Int32) else (0:Int32)) else (1:Int32)) → QTri l Z n0 ad 13 (37, [vR 0, vI x1, vI x2, none, none, none, none, none, none, none], [.int z128], (H0 o)) (some (Value.int r)) (H0 o) := by
    intro z128 ez128
    subst ez128
    refine zS Ad W 4 (st' := (44, [vR 0, vI x1, vI x2, none, none, vI (if r127 = (0:Int32) then (if x4 < x3 then (1:Int32) else (0:Int32)) else (1:Int32)), none, none, none, none], [.int (2:Int32), .int (f_endKind o)], (H0 o))) rfl ?_
    rcases qite h with ⟨hc132, h⟩ | ⟨hc132, h⟩
    ·refine zT Ad W (t := 55) (f := 47) rfl (XT.ii_eq_t hc132) ?_
     refine zS Ad W 1 (st' := (57, [vR 0, vI x1, vI x2, none, none, vI (if r127 = (0:Int32) then (if x4 < x3 then (1:Int32) else (0:Int32)) else (1:Int32)), none, none, none, none], [.int (if r127 = (0:Int32) then (if x4 < x3 then (1:Int32) else (0:Int32)) else (1:Int32))], (H0 o))) rfl ?_
     obtain rfl := Option.some.inj h
     exact QTri.retZ rfl rfl
    ·refine zF Ad W (t := 55) (f := 47) rfl (XT.ii_eq_f hc132) ?_
     refine zS Ad W 2 (st' := (49, [vR 0, vI x1, vI x2, none, none, vI (if r127 = (0:Int32) then (if x4 < x3 then (1:Int32) else (0:Int32)) else (1:Int32)), none, none, none, none], [.int x1, .ref 0], (H0 o))) rfl ?_
     obtain ⟨r133, hr133, h⟩ := bind_eq_some_iff.mp h
     refine QTri.callP W (a := 0) (as := [.int x1]) (rest := []) (w := (some (.int r133))) (σ₁ := (H0 o)) rfl rfl rfl rfl rfl rfl rfl rfl (tF9 Ad W o x1 hr133) ?_
     rcases qite h with ⟨hc134, h⟩ | ⟨hc134, h⟩
     ·refine zT Ad W (t := 58) (f := 55) rfl (XT.i0_eq_t hc134) ?_
      refine zS Ad W 2 (st' := (60, [vR 0, vI x1, vI x2, none, none, vI (if r127 = (0:Int32) then (if x4 < x3 then (1:Int32) else (0:Int32)) else (1:Int32)), none, none, none, none], [.int x2, .ref 0], (H0 o))) rfl ?_
      obtain ⟨r135, hr135, h⟩ := bind_eq_some_iff.mp h
      refine QTri.callP W (a := 0) (as := [.int x2]) (rest := []) (w := (some (.int r135))) (σ₁ := (H0 o)) rfl rfl rfl rfl rfl rfl rfl rfl (tF9 Ad W o x2 hr135) ?_
      rcases qite h with ⟨hc136, h⟩ | ⟨hc136, h⟩
      ·refine zT Ad W (t := 79) (f := 66) rfl (XT.i0_eq_t hc136) ?_
       cases h
      ·refine zF Ad W (t := 79) (f := 66) rfl (XT.i0_eq_f hc136) ?_
       refine zS Ad W 2 (st' := (70, [vR 0, vI x1, vI x2, none, none, vI (if r127 = (0:Int32) then (if x4 < x3 then (1:Int32) else (0:Int32)) else (1:Int32)), none, none, none, none], [.int (f_nulls o)], (H0 o))) rfl ?_
       rcases qite h with ⟨hc137, h⟩ | ⟨hc137, h⟩
       ·refine zF Ad W (t := 77) (f := 73) rfl (XT.i0_ne_f hc137) ?_
        refine zS Ad W 2 (st' := (78, [vR 0, vI x1, vI x2, none, none, vI (if r127 = (0:Int32) then (if x4 < x3 then (1:Int32) else (0:Int32)) else (1:Int32)), none, none, none, none], [.int (1:Int32)], (H0 o))) rfl ?_
        obtain rfl := Option.some.inj h
        exact QTri.retZ rfl rfl
       ·refine zT Ad W (t := 77) (f := 73) rfl (XT.i0_ne_t hc137) ?_
        refine zS Ad W 1 (st' := (78, [vR 0, vI x1, vI x2, none, none, vI (if r127 = (0:Int32) then (if x4 < x3 then (1:Int32) else (0:Int32)) else (1:Int32)), none, none, none, none], [.int (0:Int32)], (H0 o))) rfl ?_
        obtain rfl := Option.some.inj h
        exact QTri.retZ rfl rfl
     ·refine zF Ad W (t := 58) (f := 55) rfl (XT.i0_eq_f hc134) ?_
      refine zS Ad W 1 (st' := (57, [vR 0, vI x1, vI x2, none, none, vI (if r127 = (0:Int32) then (if x4 < x3 then (1:Int32) else (0:Int32)) else (1:Int32)), none, none, none, none], [.int (if r127 = (0:Int32) then (if x4 < x3 then (1:Int32) else (0:Int32)) else (1:Int32))], (H0 o))) rfl ?_
      obtain rfl := Option.some.inj h
      exact QTri.retZ rfl rfl
   rcases em (r127 = (0:Int32)) with hc130 | hc130
   ·refine zF Ad W (t := 32) (f := 26) rfl (XT.i0_ne_f hc130) ?_
    refine zS Ad W 2 (st' := (29, [vR 0, vI x1, vI x2, vI x3, vI x4, none, none, none, none, none], [.int x3, .int x4], (H0 o))) rfl ?_
    rcases em (x4 < x3) with hc131 | hc131
    ·refine zF Ad W (t := 36) (f := 32) rfl (XT.ii_ge_f hc131) ?_
     refine zS Ad W 2 (st' := (37, [vR 0, vI x1, vI x2, vI x3, vI x4, none, none, none, none, none], [.int (1:Int32)], (H0 o))) rfl ?_
     exact zM [tt,tt,tt,ff,ff,ff,ff,ff,ff,ff] (K129 _ ((if_pos hc130).trans (if_pos hc131)).symm)
    ·refine zT Ad W (t := 36) (f := 32) rfl (XT.ii_ge_t hc131) ?_
     refine zS Ad W 1 (st' := (37, [vR 0, vI x1, vI x2, vI x3, vI x4, none, none, none, none, none], [.int (0:Int32)], (H0 o))) rfl ?_
     exact zM [tt,tt,tt,ff,ff,ff,ff,ff,ff,ff] (K129 _ ((if_pos hc130).trans (if_neg hc131)).symm)
   ·refine zT Ad W (t := 32) (f := 26) rfl (XT.i0_ne_t hc130) ?_
    refine zS Ad W 2 (st' := (37, [vR 0, vI x1, vI x2, vI x3, vI x4, none, none, none, none, none], [.int (1:Int32)], (H0 o))) rfl ?_
    exact zM [tt,tt,tt,ff,ff,ff,ff,ff,ff,ff] (K129 _ (if_neg hc130).symm)
/-- inFrame(IIII)Z -/
def F11 (o : Ob) (x1 : Int32) (x2 : Int32) (x3 : Int32) (x4 : Int32) : Option (Int32) :=
 (if (f_mode o) = (0:Int32) then none else (F12 o x1 x2 x3 x4).bind fun r123 => (if r123 = (0:Int32) then some (0:Int32) else (F13 o x1 x2 x3 x4).bind fun r138 => (if r138 = (0:Int32) then some (0:Int32) else some (1:Int32))))
theorem tF11 (Ad : QAd n0 ad) (W : QW Z a0) (o : Ob) (x1 : Int32) (x2 : Int32) (x3 : Int32) (x4 : Int32) {r : Int32} (h : F11 o x1 x2 x3 x4 = some r) : QTri l Z n0 ad 11 (0, qentry [.ref 0, .int x1, .int x2, .int x3, .int x4] (pMaxL 11), [], (H0 o)) (some (Value.int r)) (H0 o) := by
 unfold F11 at h
 refine zS Ad W 2 (st' := (4, [vR 0, vI x1, vI x2, vI x3, vI x4], [.int (f_mode o)], (H0 o))) rfl ?_
 rcases qite h with ⟨hc99, h⟩ | ⟨hc99, h⟩
 ·refine zF Ad W (t := 33) (f := 7) rfl (XT.i0_ne_f hc99) ?_
  cases h
 ·refine zT Ad W (t := 33) (f := 7) rfl (XT.i0_ne_t hc99) ?_
  refine zS Ad W 5 (st' := (39, [vR 0, vI x1, vI x2, vI x3, vI x4], [.int x4, .int x3, .int x2, .int x1, .ref 0], (H0 o))) rfl ?_
  obtain ⟨r123, hr123, h⟩ := bind_eq_some_iff.mp h
  refine QTri.callP W (a := 0) (as := [.int x1, .int x2, .int x3, .int x4]) (rest := []) (w := (some (.int r123))) (σ₁ := (H0 o)) rfl rfl rfl rfl rfl rfl rfl rfl (tF12 Ad W o x1 x2 x3 x4 hr123) ?_
  rcases qite h with ⟨hc124, h⟩ | ⟨hc124, h⟩
  ·refine zT Ad W (t := 61) (f := 45) rfl (XT.i0_eq_t hc124) ?_
   refine zS Ad W 1 (st' := (62, [vR 0, vI x1, vI x2, vI x3, vI x4], [.int (0:Int32)], (H0 o))) rfl ?_
   obtain rfl := Option.some.inj h
   exact QTri.retZ rfl rfl
  ·refine zF Ad W (t := 61) (f := 45) rfl (XT.i0_eq_f hc124) ?_
   refine zS Ad W 5 (st' := (51, [vR 0, vI x1, vI x2, vI x3, vI x4], [.int x4, .int x3, .int x2, .int x1, .ref 0], (H0 o))) rfl ?_
   obtain ⟨r138, hr138, h⟩ := bind_eq_some_iff.mp h
   refine QTri.callP W (a := 0) (as := [.int x1, .int x2, .int x3, .int x4]) (rest := []) (w := (some (.int r138))) (σ₁ := (H0 o)) rfl rfl rfl rfl rfl rfl rfl rfl (tF13 Ad W o x1 x2 x3 x4 hr138) ?_
   rcases qite h with ⟨hc139, h⟩ | ⟨hc139, h⟩
   ·refine zT Ad W (t := 61) (f := 57) rfl (XT.i0_eq_t hc139) ?_
    refine zS Ad W 1 (st' := (62, [vR 0, vI x1, vI x2, vI x3, vI x4], [.int (0:Int32)], (H0 o))) rfl ?_
    obtain rfl := Option.some.inj h
    exact QTri.retZ rfl rfl
   ·refine zF Ad W (t := 61) (f := 57) rfl (XT.i0_eq_f hc139) ?_
    refine zS Ad W 2 (st' := (62, [vR 0, vI x1, vI x2, vI x3, vI x4], [.int (1:Int32)], (H0 o))) rfl ?_
    obtain rfl := Option.some.inj h
    exact QTri.retZ rfl rfl
def J10_166 (o : Ob) (x1 : Int32) (x2 : Int32) (x3 : Int32) (x4 : Int32) : Option (((Ob)) ⊕ (Int32 × Ob)) :=
  some (.inr ((x4 + (1 : Int32)), o))
theorem tJ10_166 (Ad : QAd n0 ad) (W : QW Z a0) (o : Ob) (x1 : Int32) (x2 : Int32) (x3 : Int32) (x4 : Int32) {r : ((Ob)) ⊕ (Int32 × Ob)} {u : Option Value} {τ : QHeap} (h : J10_166 o x1 x2 x3 x4 = some r) (hx0 : ∀ x : Ob, r = .inl x → u = (none : Option Value) ∧ τ = (H0 x)) (hc : ∀ x : Int32 × Ob, r = .inr x → QTri l Z n0 ad 10 (38, [vR 0, vI x1, vI x2, vI x3, vI x.1, none, none], [], (H0 x.2)) u τ) : QTri l Z n0 ad 10 (166, [vR 0, vI x1, vI x2, vI x3, vI x4, none, none], [], (H0 o)) u τ := by
 unfold J10_166 at h
 refine zS Ad W 2 (st' := (38, [vR 0, vI x1, vI x2, vI x3, vI (x4 + (1:Int32)), none, none], [], (H0 o))) rfl ?_
 obtain rfl := Option.some.inj h
 exact zM [tt,tt,tt,tt,tt,ff,ff] (hc ((x4 + (1:Int32)), o) rfl)
def H0x28 (o0 : Ob) (a0_24 : Int32) : QHeap := H0v (f_part o0) (f_keys o0) (f_vals o0) (f_flg o0) (f_res o0) (f_resNull o0) (f_frameCnt o0) (f_sorted o0) (f_cap o0) (f_rows o0) (f_direction o0) (f_nulls o0) (f_mode o0) (f_startKind o0) (f_startOff o0) (f_endKind o0) (f_endOff o0) (f_fn o0) (f_fnArg o0) (f_computed o0) (f_sortedLen o0) (f_curPos o0) (f_aggSum o0) (f_aggCount o0) a0_24 (f_aggMin o0) (f_aggMax o0)
/-- valNull(I)Z -/
def F15 (o : Ob) (x1 : Int32) : Option (Int32) :=
 (aget (f_flg o) x1).bind fun y143 => (if (y143 &&& (2:Int32)) = (0:Int32) then some (0:Int32) else some (1:Int32))
theorem tF15 (Ad : QAd n0 ad) (W : QW Z a0) (o : Ob) (x1 : Int32) {r : Int32} (h : F15 o x1 = some r) : QTri l Z n0 ad 15 (0, qentry [.ref 0, .int x1] (pMaxL 15), [], (H0 o)) (some (Value.int r)) (H0 o) := by
 unfold F15 at h
 refine zS Ad W 3 (st' := (5, [vR 0, vI x1], [.int x1, .ref 4], (H0 o))) rfl ?_
 obtain ⟨y143, hy143, h⟩ := bind_eq_some_iff.mp h
 refine zB Ad W (f := fun y143 => (6, [vR 0, vI x1], [.int y143], (H0 o))) rfl hy143 ?_
 refine zS Ad W 2 (st' := (8, [vR 0, vI x1], [.int (y143 &&& (2:Int32))], (H0 o))) rfl ?_
 rcases qite h with ⟨hc144, h⟩ | ⟨hc144, h⟩
 ·refine zT Ad W (t := 15) (f := 11) rfl (XT.i0_eq_t hc144) ?_
  refine zS Ad W 1 (st' := (16, [vR 0, vI x1], [.int (0:Int32)], (H0 o))) rfl ?_
  obtain rfl := Option.some.inj h
  exact QTri.retZ rfl rfl
 ·refine zF Ad W (t := 15) (f := 11) rfl (XT.i0_eq_f hc144) ?_
  refine zS Ad W 2 (st' := (16, [vR 0, vI x1], [.int (1:Int32)], (H0 o))) rfl ?_
  obtain rfl := Option.some.inj h
  exact QTri.retZ rfl rfl
def H0x29 (o0 : Ob) (a0_25 : Int32) : QHeap := H0v (f_part o0) (f_keys o0) (f_vals o0) (f_flg o0) (f_res o0) (f_resNull o0) (f_frameCnt o0) (f_sorted o0) (f_cap o0) (f_rows o0) (f_direction o0) (f_nulls o0) (f_mode o0) (f_startKind o0) (f_startOff o0) (f_endKind o0) (f_endOff o0) (f_fn o0) (f_fnArg o0) (f_computed o0) (f_sortedLen o0) (f_curPos o0) (f_aggSum o0) (f_aggCount o0) (f_aggRows o0) a0_25 (f_aggMax o0)
def H0x30 (o0 : Ob) (a0_26 : Int32) : QHeap := H0v (f_part o0) (f_keys o0) (f_vals o0) (f_flg o0) (f_res o0) (f_resNull o0) (f_frameCnt o0) (f_sorted o0) (f_cap o0) (f_rows o0) (f_direction o0) (f_nulls o0) (f_mode o0) (f_startKind o0) (f_startOff o0) (f_endKind o0) (f_endOff o0) (f_fn o0) (f_fnArg o0) (f_computed o0) (f_sortedLen o0) (f_curPos o0) (f_aggSum o0) (f_aggCount o0) (f_aggRows o0) (f_aggMin o0) a0_26
def H0x31 (o0 : Ob) (a0_23 : Int32) : QHeap := H0v (f_part o0) (f_keys o0) (f_vals o0) (f_flg o0) (f_res o0) (f_resNull o0) (f_frameCnt o0) (f_sorted o0) (f_cap o0) (f_rows o0) (f_direction o0) (f_nulls o0) (f_mode o0) (f_startKind o0) (f_startOff o0) (f_endKind o0) (f_endOff o0) (f_fn o0) (f_fnArg o0) (f_computed o0) (f_sortedLen o0) (f_curPos o0) (f_aggSum o0) a0_23 (f_aggRows o0) (f_aggMin o0) (f_aggMax o0)
def J10_144 (o : Ob) (x1 : Int32) (x2 : Int32) (x3 : Int32) (x4 : Int32) (x6 : Int32) : Option (((Ob)) ⊕ (Int32 × Ob)) :=
  (J10_166 (s_aggSum (s_aggCount o ((f_aggCount o) + (1 : Int32))) ((f_aggSum o) + (x6.toInt64))) x1 x2 x3 x4)
theorem tJ10_144 (Ad : QAd n0 ad) (W : QW Z a0) (o : Ob) (x1 : Int32) (x2 : Int32) (x3 : Int32) (x4 : Int32) (x6 : Int32) {r : ((Ob)) ⊕ (Int32 × Ob)} {u : Option Value} {τ : QHeap} (h : J10_144 o x1 x2 x3 x4 x6 = some r) (hx0 : ∀ x : Ob, r = .inl x → u = (none : Option Value) ∧ τ = (H0 x)) (hc : ∀ x : Int32 × Ob, r = .inr x → QTri l Z n0 ad 10 (38, [vR 0, vI x1, vI x2, vI x3, vI x.1, none, none], [], (H0 x.2)) u τ) : QTri l Z n0 ad 10 (144, [vR 0, vI x1, vI x2, vI x3, vI x4, none, vI x6], [], (H0 o)) u τ := by
 unfold J10_144 at h
 refine zS Ad W 6 (st' := (154, [vR 0, vI x1, vI x2, vI x3, vI x4, none, vI x6], [], (H0x31 o ((f_aggCount o) + (1:Int32))))) rfl ?_
 refine zS Ad W 7 (st' := (166, [vR 0, vI x1, vI x2, vI x3, vI x4, none, vI x6], [], (H0x24 o ((f_aggSum o) + (x6.toInt64)) ((f_aggCount o) + (1:Int32))))) rfl ?_
 have E152 : ((H0x24 o ((f_aggSum o) + (x6.toInt64)) ((f_aggCount o) + (1:Int32))) : QHeap) = (H0 (s_aggSum (s_aggCount o ((f_aggCount o) + (1:Int32))) ((f_aggSum o) + (x6.toInt64)))) := by simp only [fs, H0, H0v, H0x24, s_aggSum, s_aggCount]
 rw [E152]
 exact zM [tt,tt,tt,tt,tt,ff,ff] (tJ10_166 Ad W (s_aggSum (s_aggCount o ((f_aggCount o) + (1:Int32))) ((f_aggSum o) + (x6.toInt64))) x1 x2 x3 x4 h hx0 hc)
def J10_138 (o : Ob) (x1 : Int32) (x2 : Int32) (x3 : Int32) (x4 : Int32) (x6 : Int32) : Option (((Ob)) ⊕ (Int32 × Ob)) :=
  (J10_144 (s_aggMax o x6) x1 x2 x3 x4 x6)
theorem tJ10_138 (Ad : QAd n0 ad) (W : QW Z a0) (o : Ob) (x1 : Int32) (x2 : Int32) (x3 : Int32) (x4 : Int32) (x6 : Int32) {r : ((Ob)) ⊕ (Int32 × Ob)} {u : Option Value} {τ : QHeap} (h : J10_138 o x1 x2 x3 x4 x6 = some r) (hx0 : ∀ x : Ob, r = .inl x → u = (none : Option Value) ∧ τ = (H0 x)) (hc : ∀ x : Int32 × Ob, r = .inr x → QTri l Z n0 ad 10 (38, [vR 0, vI x1, vI x2, vI x3, vI x.1, none, none], [], (H0 x.2)) u τ) : QTri l Z n0 ad 10 (138, [vR 0, vI x1, vI x2, vI x3, vI x4, none, vI x6], [], (H0 o)) u τ := by
 unfold J10_138 at h
 refine zS Ad W 3 (st' := (144, [vR 0, vI x1, vI x2, vI x3, vI x4, none, vI x6], [], (H0x30 o x6))) rfl ?_
 have E151 : ((H0x30 o x6) : QHeap) = (H0 (s_aggMax o x6)) := by simp only [fs, H0, H0v, H0x30, s_aggMax]
 rw [E151]
 exact zM [tt,tt,tt,tt,tt,ff,tt] (tJ10_144 Ad W (s_aggMax o x6) x1 x2 x3 x4 x6 h hx0 hc)
def J10_122 (o : Ob) (x1 : Int32) (x2 : Int32) (x3 : Int32) (x4 : Int32) (x6 : Int32) : Option (((Ob)) ⊕ (Int32 × Ob)) :=
  (if (f_aggCount o) = (0 : Int32) then (J10_138 o x1 x2 x3 x4 x6) else (if (f_aggMax o) < x6 then (J10_138 o x1 x2 x3 x4 x6) else (J10_144 o x1 x2 x3 x4 x6)))
theorem tJ10_122 (Ad : QAd n0 ad) (W : QW Z a0) (o : Ob) (x1 : Int32) (x2 : Int32) (x3 : Int32) (x4 : Int32) (x6 : Int32) {r : ((Ob)) ⊕ (Int32 × Ob)} {u : Option Value} {τ : QHeap} (h : J10_122 o x1 x2 x3 x4 x6 = some r) (hx0 : ∀ x : Ob, r = .inl x → u = (none : Option Value) ∧ τ = (H0 x)) (hc : ∀ x : Int32 × Ob, r = .inr x → QTri l Z n0 ad 10 (38, [vR 0, vI x1, vI x2, vI x3, vI x.1, none, none], [], (H0 x.2)) u τ) : QTri l Z n0 ad 10 (122, [vR 0, vI x1, vI x2, vI x3, vI x4, none, vI x6], [], (H0 o)) u τ := by
 unfold J10_122 at h
 refine zS Ad W 2 (st' := (126, [vR 0, vI x1, vI x2, vI x3, vI x4, none, vI x6], [.int (f_aggCount o)], (H0 o))) rfl ?_
 rcases qite h with ⟨hc150, h⟩ | ⟨hc150, h⟩
 ·refine zT Ad W (t := 138) (f := 129) rfl (XT.i0_eq_t hc150) ?_
  exact zM [tt,tt,tt,tt,tt,ff,tt] (tJ10_138 Ad W o x1 x2 x3 x4 x6 h hx0 hc)
 ·refine zF Ad W (t := 138) (f := 129) rfl (XT.i0_eq_f hc150) ?_
  refine zS Ad W 3 (st' := (135, [vR 0, vI x1, vI x2, vI x3, vI x4, none, vI x6], [.int (f_aggMax o), .int x6], (H0 o))) rfl ?_
  rcases qite h with ⟨hc153, h⟩ | ⟨hc153, h⟩
  ·refine zF Ad W (t := 144) (f := 138) rfl (XT.ii_le_f hc153) ?_
   exact zM [tt,tt,tt,tt,tt,ff,tt] (tJ10_138 Ad W o x1 x2 x3 x4 x6 h hx0 hc)
  ·refine zT Ad W (t := 144) (f := 138) rfl (XT.ii_le_t hc153) ?_
   exact zM [tt,tt,tt,tt,tt,ff,tt] (tJ10_144 Ad W o x1 x2 x3 x4 x6 h hx0 hc)
def J10_116 (o : Ob) (x1 : Int32) (x2 : Int32) (x3 : Int32) (x4 : Int32) (x6 : Int32) : Option (((Ob)) ⊕ (Int32 × Ob)) :=
  (J10_122 (s_aggMin o x6) x1 x2 x3 x4 x6)
theorem tJ10_116 (Ad : QAd n0 ad) (W : QW Z a0) (o : Ob) (x1 : Int32) (x2 : Int32) (x3 : Int32) (x4 : Int32) (x6 : Int32) {r : ((Ob)) ⊕ (Int32 × Ob)} {u : Option Value} {τ : QHeap} (h : J10_116 o x1 x2 x3 x4 x6 = some r) (hx0 : ∀ x : Ob, r = .inl x → u = (none : Option Value) ∧ τ = (H0 x)) (hc : ∀ x : Int32 × Ob, r = .inr x → QTri l Z n0 ad 10 (38, [vR 0, vI x1, vI x2, vI x3, vI x.1, none, none], [], (H0 x.2)) u τ) : QTri l Z n0 ad 10 (116, [vR 0, vI x1, vI x2, vI x3, vI x4, none, vI x6], [], (H0 o)) u τ := by
 unfold J10_116 at h
 refine zS Ad W 3 (st' := (122, [vR 0, vI x1, vI x2, vI x3, vI x4, none, vI x6], [], (H0x29 o x6))) rfl ?_
 have E149 : ((H0x29 o x6) : QHeap) = (H0 (s_aggMin o x6)) := by simp only [fs, H0, H0v, H0x29, s_aggMin]
 rw [E149]
 exact zM [tt,tt,tt,tt,tt,ff,tt] (tJ10_122 Ad W (s_aggMin o x6) x1 x2 x3 x4 x6 h hx0 hc)
def B10_38 (x1 : Int32) (x2 : Int32) (x3 : Int32) (v : Int32 × Ob) : Option (((Ob)) ⊕ (Int32 × Ob)) :=
  (if v.1 < x2 then (aget (f_sorted v.2) v.1).bind fun y98 => (F11 v.2 x1 y98 x3 v.1).bind fun r140 => (if r140 = (0 : Int32) then (J10_166 v.2 x1 x2 x3 v.1) else (F15 (s_aggRows v.2 ((f_aggRows v.2) + (1 : Int32))) y98).bind fun r145 => (if r145 = (0 : Int32) then (aget (f_vals (s_aggRows v.2 ((f_aggRows v.2) + (1 : Int32)))) y98).bind fun y147 => (if (f_aggCount (s_aggRows v.2 ((f_aggRows v.2) + (1 : Int32)))) = (0 : Int32) then (J10_116 (s_aggRows v.2 ((f_aggRows v.2) + (1 : Int32))) x1 x2 x3 v.1 y147) else (if y147 < (f_aggMin (s_aggRows v.2 ((f_aggRows v.2) + (1 : Int32)))) then (J10_116 (s_aggRows v.2 ((f_aggRows v.2) + (1 : Int32))) x1 x2 x3 v.1 y147) else (J10_122 (s_aggRows v.2 ((f_aggRows v.2) + (1 : Int32))) x1 x2 x3 v.1 y147))) else (J10_166 (s_aggRows v.2 ((f_aggRows v.2) + (1 : Int32))) x1 x2 x3 v.1))) else some (.inl v.2))
theorem tB10_38 (Ad : QAd n0 ad) (W : QW Z a0) (x1 : Int32) (x2 : Int32) (x3 : Int32) (v : Int32 × Ob) {r : ((Ob)) ⊕ (Int32 × Ob)} {u : Option Value} {τ : QHeap} (h : B10_38 x1 x2 x3 v = some r) (hx0 : ∀ x : Ob, r = .inl x → u = (none : Option Value) ∧ τ = (H0 x)) (hc : ∀ x : Int32 × Ob, r = .inr x → QTri l Z n0 ad 10 (38, [vR 0, vI x1, vI x2, vI x3, vI x.1, none, none], [], (H0 x.2)) u τ) : QTri l Z n0 ad 10 (38, [vR 0, vI x1, vI x2, vI x3, vI v.1, none, none], [], (H0 v.2)) u τ := by
 unfold B10_38 at h
 refine zS Ad W 2 (st' := (41, [vR 0, vI x1, vI x2, vI x3, vI v.1, none, none], [.int x2, .int v.1], (H0 v.2))) rfl ?_
 rcases qite h with ⟨hc97, h⟩ | ⟨hc97, h⟩
 ·refine zF Ad W (t := 172) (f := 44) rfl (XT.ii_ge_f hc97) ?_
  refine zS Ad W 3 (st' := (50, [vR 0, vI x1, vI x2, vI x3, vI v.1, none, none], [.int v.1, .ref 8], (H0 v.2))) rfl ?_
  obtain ⟨y98, hy98, h⟩ := bind_eq_some_iff.mp h
  refine zB Ad W (f := fun y98 => (51, [vR 0, vI x1, vI x2, vI x3, vI v.1, none, none], [.int y98], (H0 v.2))) rfl hy98 ?_
  refine zS Ad W 6 (st' := (60, [vR 0, vI x1, vI x2, vI x3, vI v.1, vI y98, none], [.int v.1, .int x3, .int y98, .int x1, .ref 0], (H0 v.2))) rfl ?_
  obtain ⟨r140, hr140, h⟩ := bind_eq_some_iff.mp h
  refine QTri.callP W (a := 0) (as := [.int x1, .int y98, .int x3, .int v.1]) (rest := []) (w := (some (.int r140))) (σ₁ := (H0 v.2)) rfl rfl rfl rfl rfl rfl rfl rfl (tF11 Ad W v.2 x1 y98 x3 v.1 hr140) ?_
  rcases qite h with ⟨hc141, h⟩ | ⟨hc141, h⟩
  ·refine zF Ad W (t := 69) (f := 66) rfl (XT.i0_ne_f hc141) ?_
   refine zS Ad W 1 (st' := (166, [vR 0, vI x1, vI x2, vI x3, vI v.1, vI y98, none], [], (H0 v.2))) rfl ?_
   exact zM [tt,tt,tt,tt,tt,ff,ff] (tJ10_166 Ad W v.2 x1 x2 x3 v.1 h hx0 hc)
  ·refine zT Ad W (t := 69) (f := 66) rfl (XT.i0_ne_t hc141) ?_
   refine zS Ad W 6 (st' := (79, [vR 0, vI x1, vI x2, vI x3, vI v.1, vI y98, none], [], (H0x28 v.2 ((f_aggRows v.2) + (1:Int32))))) rfl ?_
   refine zS Ad W 2 (st' := (82, [vR 0, vI x1, vI x2, vI x3, vI v.1, vI y98, none], [.int y98, .ref 0], (H0x28 v.2 ((f_aggRows v.2) + (1:Int32))))) rfl ?_
   have E142 : ((H0x28 v.2 ((f_aggRows v.2) + (1:Int32))) : QHeap) = (H0 (s_aggRows v.2 ((f_aggRows v.2) + (1:Int32)))) := by simp only [fs, H0, H0v, H0x28, s_aggRows]
   rw [E142]
   obtain ⟨r145, hr145, h⟩ := bind_eq_some_iff.mp h
   refine QTri.callP W (a := 0) (as := [.int y98]) (rest := []) (w := (some (.int r145))) (σ₁ := (H0 (s_aggRows v.2 ((f_aggRows v.2) + (1:Int32))))) rfl rfl rfl rfl rfl rfl rfl rfl (tF15 Ad W (s_aggRows v.2 ((f_aggRows v.2) + (1:Int32))) y98 hr145) ?_
   rcases qite h with ⟨hc146, h⟩ | ⟨hc146, h⟩
   ·refine zT Ad W (t := 91) (f := 88) rfl (XT.i0_eq_t hc146) ?_
    refine zS Ad W 3 (st' := (97, [vR 0, vI x1, vI x2, vI x3, vI v.1, vI y98, none], [.int y98, .ref 3], (H0 (s_aggRows v.2 ((f_aggRows v.2) + (1:Int32)))))) rfl ?_
    obtain ⟨y147, hy147, h⟩ := bind_eq_some_iff.mp h
    refine zB Ad W (f := fun y147 => (98, [vR 0, vI x1, vI x2, vI x3, vI v.1, vI y98, none], [.int y147], (H0 (s_aggRows v.2 ((f_aggRows v.2) + (1:Int32)))))) rfl hy147 ?_
    refine zS Ad W 3 (st' := (104, [vR 0, vI x1, vI x2, vI x3, vI v.1, vI y98, vI y147], [.int (f_aggCount (s_aggRows v.2 ((f_aggRows v.2) + (1:Int32))))], (H0 (s_aggRows v.2 ((f_aggRows v.2) + (1:Int32)))))) rfl ?_
    rcases qite h with ⟨hc148, h⟩ | ⟨hc148, h⟩
    ·refine zT Ad W (t := 116) (f := 107) rfl (XT.i0_eq_t hc148) ?_
     exact zM [tt,tt,tt,tt,tt,ff,tt] (tJ10_116 Ad W (s_aggRows v.2 ((f_aggRows v.2) + (1:Int32))) x1 x2 x3 v.1 y147 h hx0 hc)
    ·refine zF Ad W (t := 116) (f := 107) rfl (XT.i0_eq_f hc148) ?_
     refine zS Ad W 3 (st' := (113, [vR 0, vI x1, vI x2, vI x3, vI v.1, vI y98, vI y147], [.int (f_aggMin (s_aggRows v.2 ((f_aggRows v.2) + (1:Int32)))), .int y147], (H0 (s_aggRows v.2 ((f_aggRows v.2) + (1:Int32)))))) rfl ?_
     rcases qite h with ⟨hc154, h⟩ | ⟨hc154, h⟩
     ·refine zF Ad W (t := 122) (f := 116) rfl (XT.ii_ge_f hc154) ?_
      exact zM [tt,tt,tt,tt,tt,ff,tt] (tJ10_116 Ad W (s_aggRows v.2 ((f_aggRows v.2) + (1:Int32))) x1 x2 x3 v.1 y147 h hx0 hc)
     ·refine zT Ad W (t := 122) (f := 116) rfl (XT.ii_ge_t hc154) ?_
      exact zM [tt,tt,tt,tt,tt,ff,tt] (tJ10_122 Ad W (s_aggRows v.2 ((f_aggRows v.2) + (1:Int32))) x1 x2 x3 v.1 y147 h hx0 hc)
   ·refine zF Ad W (t := 91) (f := 88) rfl (XT.i0_eq_f hc146) ?_
    refine zS Ad W 1 (st' := (166, [vR 0, vI x1, vI x2, vI x3, vI v.1, vI y98, none], [], (H0 (s_aggRows v.2 ((f_aggRows v.2) + (1:Int32)))))) rfl ?_
    exact zM [tt,tt,tt,tt,tt,ff,ff] (tJ10_166 Ad W (s_aggRows v.2 ((f_aggRows v.2) + (1:Int32))) x1 x2 x3 v.1 h hx0 hc)
 ·refine zT Ad W (t := 172) (f := 44) rfl (XT.ii_ge_t hc97) ?_
  obtain rfl := Option.some.inj h
  obtain ⟨rfl, rfl⟩ := hx0 v.2 rfl
  exact QTri.ret0 rfl rfl
/-- aggregateFrame(I)V -/
def F10 (o : Ob) (x1 : Int32) : Option (Ob) :=
 (loopN (B10_38 x1 (f_sortedLen o) (f_curPos o)) qN ((0:Int32), (s_aggMax (s_aggMin (s_aggRows (s_aggCount (s_aggSum o (0 : Int64)) (0:Int32)) (0:Int32)) (0:Int32)) (0:Int32)))).bind fun e155 => some e155
theorem tF10 (Ad : QAd n0 ad) (W : QW Z a0) (o : Ob) (x1 : Int32) {r : Ob} (h : F10 o x1 = some r) : QTri l Z n0 ad 10 (0, qentry [.ref 0, .int x1] (pMaxL 10), [], (H0 o)) (none : Option Value) (H0 r) := by
 unfold F10 at h
 refine zS Ad W 6 (st' := (10, [vR 0, vI x1, vI (f_sortedLen o), vI (f_curPos o), none, none, none], [], (H0 o))) rfl ?_
 refine zS Ad W 3 (st' := (15, [vR 0, vI x1, vI (f_sortedLen o), vI (f_curPos o), none, none, none], [], (H0x23 o (0 : Int64)))) rfl ?_
 refine zS Ad W 3 (st' := (20, [vR 0, vI x1, vI (f_sortedLen o), vI (f_curPos o), none, none, none], [], (H0x24 o (0 : Int64) (0:Int32)))) rfl ?_
 refine zS Ad W 3 (st' := (25, [vR 0, vI x1, vI (f_sortedLen o), vI (f_curPos o), none, none, none], [], (H0x25 o (0 : Int64) (0:Int32) (0:Int32)))) rfl ?_
 refine zS Ad W 3 (st' := (30, [vR 0, vI x1, vI (f_sortedLen o), vI (f_curPos o), none, none, none], [], (H0x26 o (0 : Int64) (0:Int32) (0:Int32) (0:Int32)))) rfl ?_
 refine zS Ad W 3 (st' := (35, [vR 0, vI x1, vI (f_sortedLen o), vI (f_curPos o), none, none, none], [], (H0x27 o (0 : Int64) (0:Int32) (0:Int32) (0:Int32) (0:Int32)))) rfl ?_
 refine zS Ad W 2 (st' := (38, [vR 0, vI x1, vI (f_sortedLen o), vI (f_curPos o), vI (0:Int32), none, none], [], (H0x27 o (0 : Int64) (0:Int32) (0:Int32) (0:Int32) (0:Int32)))) rfl ?_
 have E96 : ((H0x27 o (0 : Int64) (0:Int32) (0:Int32) (0:Int32) (0:Int32)) : QHeap) = (H0 (s_aggMax (s_aggMin (s_aggRows (s_aggCount (s_aggSum o (0 : Int64)) (0:Int32)) (0:Int32)) (0:Int32)) (0:Int32))) := by simp only [fs, H0, H0v, H0x27, s_aggSum, s_aggCount, s_aggRows, s_aggMin, s_aggMax]
 rw [E96]
 obtain ⟨e155, he155, h⟩ := bind_eq_some_iff.mp h
 refine zM [tt,tt,tt,tt,tt,ff,ff] (loopN_tri (B := B10_38 x1 (f_sortedLen o) (f_curPos o)) (T := fun lv156 => QTri l Z n0 ad 10 (38, [vR 0, vI x1, vI (f_sortedLen o), vI (f_curPos o), vI lv156.1, none, none], [], (H0 lv156.2)) (none : Option Value) (H0 r)) (KE := fun e155a => (none : Option Value) = (none : Option Value) ∧ (H0 r) = (H0 e155a)) (fun lv156 r hB hE hC => tB10_38 Ad W x1 (f_sortedLen o) (f_curPos o) lv156 hB (fun x q => hE _ q) (fun x q => hC x q)) qN ((0:Int32), (s_aggMax (s_aggMin (s_aggRows (s_aggCount (s_aggSum o (0 : Int64)) (0:Int32)) (0:Int32)) (0:Int32)) (0:Int32))) e155 he155 ?_)
 obtain rfl := Option.some.inj h
 exact ⟨rfl, rfl⟩
def H0x32 (o0 : Ob) (a0_6 : List Int32) : QHeap := H0v (f_part o0) (f_keys o0) (f_vals o0) (f_flg o0) (f_res o0) (f_resNull o0) a0_6 (f_sorted o0) (f_cap o0) (f_rows o0) (f_direction o0) (f_nulls o0) (f_mode o0) (f_startKind o0) (f_startOff o0) (f_endKind o0) (f_endOff o0) (f_fn o0) (f_fnArg o0) (f_computed o0) (f_sortedLen o0) (f_curPos o0) (f_aggSum o0) (f_aggCount o0) (f_aggRows o0) (f_aggMin o0) (f_aggMax o0)
def H0x33 (o0 : Ob) (a0_5 : List Int32) : QHeap := H0v (f_part o0) (f_keys o0) (f_vals o0) (f_flg o0) (f_res o0) a0_5 (f_frameCnt o0) (f_sorted o0) (f_cap o0) (f_rows o0) (f_direction o0) (f_nulls o0) (f_mode o0) (f_startKind o0) (f_startOff o0) (f_endKind o0) (f_endOff o0) (f_fn o0) (f_fnArg o0) (f_computed o0) (f_sortedLen o0) (f_curPos o0) (f_aggSum o0) (f_aggCount o0) (f_aggRows o0) (f_aggMin o0) (f_aggMax o0)
def H0x34 (o0 : Ob) (a0_4 : List Int64) (a0_5 : List Int32) : QHeap := H0v (f_part o0) (f_keys o0) (f_vals o0) (f_flg o0) a0_4 a0_5 (f_frameCnt o0) (f_sorted o0) (f_cap o0) (f_rows o0) (f_direction o0) (f_nulls o0) (f_mode o0) (f_startKind o0) (f_startOff o0) (f_endKind o0) (f_endOff o0) (f_fn o0) (f_fnArg o0) (f_computed o0) (f_sortedLen o0) (f_curPos o0) (f_aggSum o0) (f_aggCount o0) (f_aggRows o0) (f_aggMin o0) (f_aggMax o0)
/-- setRes(IJZ)V -/
def F17 (o : Ob) (x1 : Int32) (x2 : Int64) (x4 : Int32) : Option (Ob) :=
 (aset (f_resNull o) x1 (x4 &&& 1)).bind fun y164 => (aset (f_res o) x1 (if x4 = (0:Int32) then x2 else (0 : Int64))).bind fun y168 => some (s_res (s_resNull o y164) y168)
theorem tF17 (Ad : QAd n0 ad) (W : QW Z a0) (o : Ob) (x1 : Int32) (x2 : Int64) (x4 : Int32) {r : Ob} (h : F17 o x1 x2 x4 = some r) : QTri l Z n0 ad 17 (0, qentry [.ref 0, .int x1, .long x2, .int x4] (pMaxL 17), [], (H0 o)) (none : Option Value) (H0 r) := by
 unfold F17 at h
 refine zS Ad W 4 (st' := (7, [vR 0, vI x1, vL x2, none, vI x4], [.int x4, .int x1, .ref 6], (H0 o))) rfl ?_
 obtain ⟨y164, hy164, h⟩ := bind_eq_some_iff.mp h
 refine zB Ad W (f := fun y164 => (8, [vR 0, vI x1, vL x2, none, vI x4], [], (H0x33 o y164))) rfl hy164 ?_
 refine zS Ad W 4 (st' := (15, [vR 0, vI x1, vL x2, none, vI x4], [.int x4, .int x1, .ref 5], (H0x33 o y164))) rfl ?_
 have K166 : ∀ z165 : Int64, z165 = (if x4 = (0:Int32) then x2 else (0 : Int64)) → QTri l Z n0 ad 17 (23, [none, none, none, none, none], [.long z165, .int x1, .ref 5], (H0x33 o y164)) (none : Option Value) (H0 r) := by
  intro z165 ez165
  subst ez165
  obtain ⟨y168, hy168, h⟩ := bind_eq_some_iff.mp h
  refine zB Ad W (f := fun y168 => (24, [none, none, none, none, none], [], (H0x34 o y168 y164))) rfl hy168 ?_
  have E169 : ((H0x34 o y168 y164) : QHeap) = (H0 (s_res (s_resNull o y164) y168)) := by simp only [fs, H0, H0v, H0x34, s_res, s_resNull]
  rw [E169]
  obtain rfl := Option.some.inj h
  exact QTri.ret0 rfl rfl
 rcases em (x4 = (0:Int32)) with hc167 | hc167
 ·refine zT Ad W (t := 22) (f := 18) rfl (XT.i0_eq_t hc167) ?_
  refine zS Ad W 1 (st' := (23, [vR 0, vI x1, vL x2, none, vI x4], [.long x2, .int x1, .ref 5], (H0x33 o y164))) rfl ?_
  exact zM [ff,ff,ff,ff,ff] (K166 _ (if_pos hc167).symm)
 ·refine zF Ad W (t := 22) (f := 18) rfl (XT.i0_eq_f hc167) ?_
  refine zS Ad W 2 (st' := (23, [vR 0, vI x1, vL x2, none, vI x4], [.long (0 : Int64), .int x1, .ref 5], (H0x33 o y164))) rfl ?_
  exact zM [ff,ff,ff,ff,ff] (K166 _ (if_neg hc167).symm)
def B25_5 (o : Ob) (x1 : Int32) (x2 : Int32) (v : Int64 × Int32) : Option (((Int64)) ⊕ (Int64 × Int32)) :=
  (if v.2 < x2 then (if v.2 < (f_sortedLen o) then (aget (f_sorted o) v.2).bind fun y190 => (F14 o y190 x1).bind fun r191 => some (.inr ((if r191 = (0 : Int32) then (v.1 + (1 : Int64)) else v.1), (v.2 + (1 : Int32)))) else some (.inl v.1)) else some (.inl v.1))
theorem tB25_5 (Ad : QAd n0 ad) (W : QW Z a0) (o : Ob) (x1 : Int32) (x2 : Int32) (v : Int64 × Int32) {r : ((Int64)) ⊕ (Int64 × Int32)} {u : Option Value} {τ : QHeap} (h : B25_5 o x1 x2 v = some r) (hx0 : ∀ x : Int64, r = .inl x → u = (some (Value.long x)) ∧ τ = (H0 o)) (hc : ∀ x : Int64 × Int32, r = .inr x → QTri l Z n0 ad 25 (5, [vR 0, vI x1, vI x2, vL x.1, none, vI x.2], [], (H0 o)) u τ) : QTri l Z n0 ad 25 (5, [vR 0, vI x1, vI x2, vL v.1, none, vI v.2], [], (H0 o)) u τ := by
 unfold B25_5 at h
 refine zS Ad W 2 (st' := (8, [vR 0, vI x1, vI x2, vL v.1, none, vI v.2], [.int x2, .int v.2], (H0 o))) rfl ?_
 rcases qite h with ⟨hc188, h⟩ | ⟨hc188, h⟩
 ·refine zF Ad W (t := 45) (f := 11) rfl (XT.ii_ge_f hc188) ?_
  refine zS Ad W 3 (st' := (17, [vR 0, vI x1, vI x2, vL v.1, none, vI v.2], [.int (f_sortedLen o), .int v.2], (H0 o))) rfl ?_
  rcases qite h with ⟨hc189, h⟩ | ⟨hc189, h⟩
  ·refine zF Ad W (t := 45) (f := 20) rfl (XT.ii_ge_f hc189) ?_
   refine zS Ad W 4 (st' := (27, [vR 0, vI x1, vI x2, vL v.1, none, vI v.2], [.int v.2, .ref 8, .ref 0], (H0 o))) rfl ?_
   obtain ⟨y190, hy190, h⟩ := bind_eq_some_iff.mp h
   refine zB Ad W (f := fun y190 => (28, [vR 0, vI x1, vI x2, vL v.1, none, vI v.2], [.int y190, .ref 0], (H0 o))) rfl hy190 ?_
   refine zS Ad W 1 (st' := (29, [vR 0, vI x1, vI x2, vL v.1, none, vI v.2], [.int x1, .int y190, .ref 0], (H0 o))) rfl ?_
   obtain ⟨r191, hr191, h⟩ := bind_eq_some_iff.mp h
   refine QTri.callP W (a := 0) (as := [.int y190, .int x1]) (rest := []) (w := (some (.int r191))) (σ₁ := (H0 o)) rfl rfl rfl rfl rfl rfl rfl rfl (tF14 Ad W o y190 x1 hr191) ?_
   have K193 : ∀ z192 : Int64, z192 = (if r191 = (0:Int32) then (v.1 + (1 : Int64)) else v.1) → QTri l Z n0 ad 25 (39, [vR 0, vI x1, vI x2, vL z192, none, vI v.2], [], (H0 o)) u τ := by
    intro z192 ez192
    subst ez192
    refine zS Ad W 2 (st' := (5, [vR 0, vI x1, vI x2, vL (if r191 = (0:Int32) then (v.1 + (1 : Int64)) else v.1), none, vI (v.2 + (1:Int32))], [], (H0 o))) rfl ?_
    obtain rfl := Option.some.inj h
    exact zM [tt,tt,tt,tt,ff,tt] (hc ((if r191 = (0:Int32) then (v.1 + (1 : Int64)) else v.1), (v.2 + (1:Int32))) rfl)
   rcases em (r191 = (0:Int32)) with hc194 | hc194
   ·refine zF Ad W (t := 39) (f := 35) rfl (XT.i0_ne_f hc194) ?_
    refine zS Ad W 4 (st' := (39, [vR 0, vI x1, vI x2, vL (v.1 + (1 : Int64)), none, vI v.2], [], (H0 o))) rfl ?_
    exact zM [tt,tt,tt,tt,ff,tt] (K193 _ (if_pos hc194).symm)
   ·refine zT Ad W (t := 39) (f := 35) rfl (XT.i0_ne_t hc194) ?_
    exact zM [tt,tt,tt,tt,ff,tt] (K193 _ (if_neg hc194).symm)
  ·refine zT Ad W (t := 45) (f := 20) rfl (XT.ii_ge_t hc189) ?_
   refine zS Ad W 1 (st' := (46, [vR 0, vI x1, vI x2, vL v.1, none, vI v.2], [.long v.1], (H0 o))) rfl ?_
   obtain rfl := Option.some.inj h
   obtain ⟨rfl, rfl⟩ := hx0 v.1 rfl
   exact QTri.retJ rfl rfl
 ·refine zT Ad W (t := 45) (f := 11) rfl (XT.ii_ge_t hc188) ?_
  refine zS Ad W 1 (st' := (46, [vR 0, vI x1, vI x2, vL v.1, none, vI v.2], [.long v.1], (H0 o))) rfl ?_
  obtain rfl := Option.some.inj h
  obtain ⟨rfl, rfl⟩ := hx0 v.1 rfl
  exact QTri.retJ rfl rfl
/-- rankOf(II)J -/
def F25 (o : Ob) (x1 : Int32) (x2 : Int32) : Option (Int64) :=
 (loopN (B25_5 o x1 x2) qN ((1 : Int64), (0:Int32))).bind fun e195 => some e195
theorem tF25 (Ad : QAd n0 ad) (W : QW Z a0) (o : Ob) (x1 : Int32) (x2 : Int32) {r : Int64} (h : F25 o x1 x2 = some r) : QTri l Z n0 ad 25 (0, qentry [.ref 0, .int x1, .int x2] (pMaxL 25), [], (H0 o)) (some (Value.long r)) (H0 o) := by
 unfold F25 at h
 refine zS Ad W 4 (st' := (5, [vR 0, vI x1, vI x2, vL (1 : Int64), none, vI (0:Int32)], [], (H0 o))) rfl ?_
 obtain ⟨e195, he195, h⟩ := bind_eq_some_iff.mp h
 refine zM [tt,tt,tt,tt,ff,tt] (loopN_tri (B := B25_5 o x1 x2) (T := fun lv196 => QTri l Z n0 ad 25 (5, [vR 0, vI x1, vI x2, vL lv196.1, none, vI lv196.2], [], (H0 o)) (some (Value.long r)) (H0 o)) (KE := fun e195a => (some (Value.long r)) = (some (Value.long e195a)) ∧ (H0 o) = (H0 o)) (fun lv196 r hB hE hC => tB25_5 Ad W o x1 x2 lv196 hB (fun x q => hE _ q) (fun x q => hC x q)) qN ((1 : Int64), (0:Int32)) e195 he195 ?_)
 obtain rfl := Option.some.inj h
 exact ⟨rfl, rfl⟩
/-- applyFunction(I)V -/
def F16 (o : Ob) (x1 : Int32) : Option (Ob) :=
 (if (f_fn o) = (0:Int32) then (F17 o x1 (f_aggSum o) (if (f_aggCount o) = (0:Int32) then (1:Int32) else (0:Int32))).bind fun r170 => some r170 else (if (f_fn o) = (1:Int32) then (F17 o x1 ((f_aggCount o).toInt64) (0:Int32)).bind fun r172 => some r172 else (if (f_fn o) = (2:Int32) then (F17 o x1 ((f_aggRows o).toInt64) (0:Int32)).bind fun r174 => some r174 else (if (f_fn o) = (3:Int32) then (F17 o x1 ((f_aggMin o).toInt64) (if (f_aggCount o) = (0:Int32) then (1:Int32) else (0:Int32))).bind fun r179 => some r179 else (if (f_fn o) = (4:Int32) then (F17 o x1 ((f_aggMax o).toInt64) (if (f_aggCount o) = (0:Int32) then (1:Int32) else (0:Int32))).bind fun r184 => some r184 else (if (f_fn o) = (5:Int32) then (F17 o x1 (((f_curPos o).toInt64) + (1 : Int64)) (0:Int32)).bind fun r186 => some r186 else (if (f_fn o) = (6:Int32) then (F25 o x1 (f_curPos o)).bind fun r197 => (F17 o x1 r197 (0:Int32)).bind fun r198 => some r198 else (if (f_fn o) = (7:Int32) then none else (if (f_fn o) = (8:Int32) then none else none)))))))))
theorem tF16 (Ad : QAd n0 ad) (W : QW Z a0) (o : Ob) (x1 : Int32) {r : Ob} (h : F16 o x1 = some r) : QTri l Z n0 ad 16 (0, qentry [.ref 0, .int x1] (pMaxL 16), [], (H0 o)) (none : Option Value) (H0 r) := by
 unfold F16 at h
 refine zS Ad W 5 (st' := (9, [vR 0, vI x1, vI (f_curPos o), none, none], [.int (f_fn o)], (H0 o))) rfl ?_
 rcases qite h with ⟨hc160, h⟩ | ⟨hc160, h⟩
 ·refine zF Ad W (t := 36) (f := 12) rfl (XT.i0_ne_f hc160) ?_
  refine zS Ad W 6 (st' := (22, [vR 0, vI x1, vI (f_curPos o), none, none], [.int (f_aggCount o), .long (f_aggSum o), .int x1, .ref 0], (H0 o))) rfl ?_
  have K162 : ∀ z161 : Int32, z161 = (if (f_aggCount o) = (0:Int32) then (1:Int32) else (0:Int32)) → QTri l Z n0 ad 16 (30, [none, none, none, none, none], [.int z161, .long (f_aggSum o), .int x1, .ref 0], (H0 o)) (none : Option Value) (H0 r) := by
   intro z161 ez161
   subst ez161
   obtain ⟨r170, hr170, h⟩ := bind_eq_some_iff.mp h
   refine QTri.callP W (a := 0) (as := [.int x1, .long (f_aggSum o), .int (if (f_aggCount o) = (0:Int32) then (1:Int32) else (0:Int32))]) (rest := []) (w := none) (σ₁ := (H0 r170)) rfl rfl rfl rfl rfl rfl rfl rfl (tF17 Ad W o x1 (f_aggSum o) (if (f_aggCount o) = (0:Int32) then (1:Int32) else (0:Int32)) hr170) ?_
   refine zS Ad W 1 (st' := (239, [none, none, none, none, none], [], (H0 r170))) rfl ?_
   obtain rfl := Option.some.inj h
   exact QTri.ret0 rfl rfl
  rcases em ((f_aggCount o) = (0:Int32)) with hc163 | hc163
  ·refine zF Ad W (t := 29) (f := 25) rfl (XT.i0_ne_f hc163) ?_
   refine zS Ad W 2 (st' := (30, [vR 0, vI x1, vI (f_curPos o), none, none], [.int (1:Int32), .long (f_aggSum o), .int x1, .ref 0], (H0 o))) rfl ?_
   exact zM [ff,ff,ff,ff,ff] (K162 _ (if_pos hc163).symm)
  ·refine zT Ad W (t := 29) (f := 25) rfl (XT.i0_ne_t hc163) ?_
   refine zS Ad W 1 (st' := (30, [vR 0, vI x1, vI (f_curPos o), none, none], [.int (0:Int32), .long (f_aggSum o), .int x1, .ref 0], (H0 o))) rfl ?_
   exact zM [ff,ff,ff,ff,ff] (K162 _ (if_neg hc163).symm)
 ·refine zT Ad W (t := 36) (f := 12) rfl (XT.i0_ne_t hc160) ?_
  refine zS Ad W 3 (st' := (41, [vR 0, vI x1, vI (f_curPos o), none, none], [.int (1:Int32), .int (f_fn o)], (H0 o))) rfl ?_
  rcases qite h with ⟨hc171, h⟩ | ⟨hc171, h⟩
  ·refine zF Ad W (t := 58) (f := 44) rfl (XT.ii_ne_f hc171) ?_
   refine zS Ad W 6 (st' := (52, [vR 0, vI x1, vI (f_curPos o), none, none], [.int (0:Int32), .long ((f_aggCount o).toInt64), .int x1, .ref 0], (H0 o))) rfl ?_
   obtain ⟨r172, hr172, h⟩ := bind_eq_some_iff.mp h
   refine QTri.callP W (a := 0) (as := [.int x1, .long ((f_aggCount o).toInt64), .int (0:Int32)]) (rest := []) (w := none) (σ₁ := (H0 r172)) rfl rfl rfl rfl rfl rfl rfl rfl (tF17 Ad W o x1 ((f_aggCount o).toInt64) (0:Int32) hr172) ?_
   refine zS Ad W 1 (st' := (239, [vR 0, vI x1, vI (f_curPos o), none, none], [], (H0 r172))) rfl ?_
   obtain rfl := Option.some.inj h
   exact QTri.ret0 rfl rfl
  ·refine zT Ad W (t := 58) (f := 44) rfl (XT.ii_ne_t hc171) ?_
   refine zS Ad W 3 (st' := (63, [vR 0, vI x1, vI (f_curPos o), none, none], [.int (2:Int32), .int (f_fn o)], (H0 o))) rfl ?_
   rcases qite h with ⟨hc173, h⟩ | ⟨hc173, h⟩
   ·refine zF Ad W (t := 80) (f := 66) rfl (XT.ii_ne_f hc173) ?_
    refine zS Ad W 6 (st' := (74, [vR 0, vI x1, vI (f_curPos o), none, none], [.int (0:Int32), .long ((f_aggRows o).toInt64), .int x1, .ref 0], (H0 o))) rfl ?_
    obtain ⟨r174, hr174, h⟩ := bind_eq_some_iff.mp h
    refine QTri.callP W (a := 0) (as := [.int x1, .long ((f_aggRows o).toInt64), .int (0:Int32)]) (rest := []) (w := none) (σ₁ := (H0 r174)) rfl rfl rfl rfl rfl rfl rfl rfl (tF17 Ad W o x1 ((f_aggRows o).toInt64) (0:Int32) hr174) ?_
    refine zS Ad W 1 (st' := (239, [vR 0, vI x1, vI (f_curPos o), none, none], [], (H0 r174))) rfl ?_
    obtain rfl := Option.some.inj h
    exact QTri.ret0 rfl rfl
   ·refine zT Ad W (t := 80) (f := 66) rfl (XT.ii_ne_t hc173) ?_
    refine zS Ad W 3 (st' := (85, [vR 0, vI x1, vI (f_curPos o), none, none], [.int (3:Int32), .int (f_fn o)], (H0 o))) rfl ?_
    rcases qite h with ⟨hc175, h⟩ | ⟨hc175, h⟩
    ·refine zF Ad W (t := 113) (f := 88) rfl (XT.ii_ne_f hc175) ?_
     refine zS Ad W 7 (st' := (99, [vR 0, vI x1, vI (f_curPos o), none, none], [.int (f_aggCount o), .long ((f_aggMin o).toInt64), .int x1, .ref 0], (H0 o))) rfl ?_
     have K177 : ∀ z176 : Int32, z176 = (if (f_aggCount o) = (0:Int32) then (1:Int32) else (0:Int32)) → QTri l Z n0 ad 16 (107, [none, none, none, none, none], [.int z176, .long ((f_aggMin o).toInt64), .int x1, .ref 0], (H0 o)) (none : Option Value) (H0 r) := by
      intro z176 ez176
      subst ez176
      obtain ⟨r179, hr179, h⟩ := bind_eq_some_iff.mp h
      refine QTri.callP W (a := 0) (as := [.int x1, .long ((f_aggMin o).toInt64), .int (if (f_aggCount o) = (0:Int32) then (1:Int32) else (0:Int32))]) (rest := []) (w := none) (σ₁ := (H0 r179)) rfl rfl rfl rfl rfl rfl rfl rfl (tF17 Ad W o x1 ((f_aggMin o).toInt64) (if (f_aggCount o) = (0:Int32) then (1:Int32) else (0:Int32)) hr179) ?_
      refine zS Ad W 1 (st' := (239, [none, none, none, none, none], [], (H0 r179))) rfl ?_
      obtain rfl := Option.some.inj h
      exact QTri.ret0 rfl rfl
     rcases em ((f_aggCount o) = (0:Int32)) with hc178 | hc178
     ·refine zF Ad W (t := 106) (f := 102) rfl (XT.i0_ne_f hc178) ?_
      refine zS Ad W 2 (st' := (107, [vR 0, vI x1, vI (f_curPos o), none, none], [.int (1:Int32), .long ((f_aggMin o).toInt64), .int x1, .ref 0], (H0 o))) rfl ?_
      exact zM [ff,ff,ff,ff,ff] (K177 _ (if_pos hc178).symm)
     ·refine zT Ad W (t := 106) (f := 102) rfl (XT.i0_ne_t hc178) ?_
      refine zS Ad W 1 (st' := (107, [vR 0, vI x1, vI (f_curPos o), none, none], [.int (0:Int32), .long ((f_aggMin o).toInt64), .int x1, .ref 0], (H0 o))) rfl ?_
      exact zM [ff,ff,ff,ff,ff] (K177 _ (if_neg hc178).symm)
    ·refine zT Ad W (t := 113) (f := 88) rfl (XT.ii_ne_t hc175) ?_
     refine zS Ad W 3 (st' := (118, [vR 0, vI x1, vI (f_curPos o), none, none], [.int (4:Int32), .int (f_fn o)], (H0 o))) rfl ?_
     rcases qite h with ⟨hc180, h⟩ | ⟨hc180, h⟩
     ·refine zF Ad W (t := 146) (f := 121) rfl (XT.ii_ne_f hc180) ?_
      refine zS Ad W 7 (st' := (132, [vR 0, vI x1, vI (f_curPos o), none, none], [.int (f_aggCount o), .long ((f_aggMax o).toInt64), .int x1, .ref 0], (H0 o))) rfl ?_
      have K182 : ∀ z181 : Int32, z181 = (if (f_aggCount o) = (0:Int32) then (1:Int32) else (0:Int32)) → QTri l Z n0 ad 16 (140, [none, none, none, none, none], [.int z181, .long ((f_aggMax o).toInt64), .int x1, .ref 0], (H0 o)) (none : Option Value) (H0 r) := by
       intro z181 ez181
       subst ez181
       obtain ⟨r184, hr184, h⟩ := bind_eq_some_iff.mp h
       refine QTri.callP W (a := 0) (as := [.int x1, .long ((f_aggMax o).toInt64), .int (if (f_aggCount o) = (0:Int32) then (1:Int32) else (0:Int32))]) (rest := []) (w := none) (σ₁ := (H0 r184)) rfl rfl rfl rfl rfl rfl rfl rfl (tF17 Ad W o x1 ((f_aggMax o).toInt64) (if (f_aggCount o) = (0:Int32) then (1:Int32) else (0:Int32)) hr184) ?_
       refine zS Ad W 1 (st' := (239, [none, none, none, none, none], [], (H0 r184))) rfl ?_
       obtain rfl := Option.some.inj h
       exact QTri.ret0 rfl rfl
      rcases em ((f_aggCount o) = (0:Int32)) with hc183 | hc183
      ·refine zF Ad W (t := 139) (f := 135) rfl (XT.i0_ne_f hc183) ?_
       refine zS Ad W 2 (st' := (140, [vR 0, vI x1, vI (f_curPos o), none, none], [.int (1:Int32), .long ((f_aggMax o).toInt64), .int x1, .ref 0], (H0 o))) rfl ?_
       exact zM [ff,ff,ff,ff,ff] (K182 _ (if_pos hc183).symm)
      ·refine zT Ad W (t := 139) (f := 135) rfl (XT.i0_ne_t hc183) ?_
       refine zS Ad W 1 (st' := (140, [vR 0, vI x1, vI (f_curPos o), none, none], [.int (0:Int32), .long ((f_aggMax o).toInt64), .int x1, .ref 0], (H0 o))) rfl ?_
       exact zM [ff,ff,ff,ff,ff] (K182 _ (if_neg hc183).symm)
     ·refine zT Ad W (t := 146) (f := 121) rfl (XT.ii_ne_t hc180) ?_
      refine zS Ad W 3 (st' := (151, [vR 0, vI x1, vI (f_curPos o), none, none], [.int (5:Int32), .int (f_fn o)], (H0 o))) rfl ?_
      rcases qite h with ⟨hc185, h⟩ | ⟨hc185, h⟩
      ·refine zF Ad W (t := 167) (f := 154) rfl (XT.ii_ne_f hc185) ?_
       refine zS Ad W 7 (st' := (161, [vR 0, vI x1, vI (f_curPos o), none, none], [.int (0:Int32), .long (((f_curPos o).toInt64) + (1 : Int64)), .int x1, .ref 0], (H0 o))) rfl ?_
       obtain ⟨r186, hr186, h⟩ := bind_eq_some_iff.mp h
       refine QTri.callP W (a := 0) (as := [.int x1, .long (((f_curPos o).toInt64) + (1 : Int64)), .int (0:Int32)]) (rest := []) (w := none) (σ₁ := (H0 r186)) rfl rfl rfl rfl rfl rfl rfl rfl (tF17 Ad W o x1 (((f_curPos o).toInt64) + (1 : Int64)) (0:Int32) hr186) ?_
       refine zS Ad W 1 (st' := (239, [vR 0, vI x1, vI (f_curPos o), none, none], [], (H0 r186))) rfl ?_
       obtain rfl := Option.some.inj h
       exact QTri.ret0 rfl rfl
      ·refine zT Ad W (t := 167) (f := 154) rfl (XT.ii_ne_t hc185) ?_
       refine zS Ad W 3 (st' := (173, [vR 0, vI x1, vI (f_curPos o), none, none], [.int (6:Int32), .int (f_fn o)], (H0 o))) rfl ?_
       rcases qite h with ⟨hc187, h⟩ | ⟨hc187, h⟩
       ·refine zF Ad W (t := 193) (f := 176) rfl (XT.ii_ne_f hc187) ?_
        refine zS Ad W 3 (st' := (179, [vR 0, vI x1, vI (f_curPos o), none, none], [.int (f_curPos o), .int x1, .ref 0], (H0 o))) rfl ?_
        obtain ⟨r197, hr197, h⟩ := bind_eq_some_iff.mp h
        refine QTri.callP W (a := 0) (as := [.int x1, .int (f_curPos o)]) (rest := []) (w := (some (.long r197))) (σ₁ := (H0 o)) rfl rfl rfl rfl rfl rfl rfl rfl (tF25 Ad W o x1 (f_curPos o) hr197) ?_
        refine zS Ad W 5 (st' := (187, [vR 0, vI x1, vI (f_curPos o), vL r197, none], [.int (0:Int32), .long r197, .int x1, .ref 0], (H0 o))) rfl ?_
        obtain ⟨r198, hr198, h⟩ := bind_eq_some_iff.mp h
        refine QTri.callP W (a := 0) (as := [.int x1, .long r197, .int (0:Int32)]) (rest := []) (w := none) (σ₁ := (H0 r198)) rfl rfl rfl rfl rfl rfl rfl rfl (tF17 Ad W o x1 r197 (0:Int32) hr198) ?_
        refine zS Ad W 1 (st' := (239, [vR 0, vI x1, vI (f_curPos o), vL r197, none], [], (H0 r198))) rfl ?_
        obtain rfl := Option.some.inj h
        exact QTri.ret0 rfl rfl
       ·refine zT Ad W (t := 193) (f := 176) rfl (XT.ii_ne_t hc187) ?_
        refine zS Ad W 3 (st' := (199, [vR 0, vI x1, vI (f_curPos o), none, none], [.int (7:Int32), .int (f_fn o)], (H0 o))) rfl ?_
        rcases qite h with ⟨hc199, h⟩ | ⟨hc199, h⟩
        ·refine zF Ad W (t := 219) (f := 202) rfl (XT.ii_ne_f hc199) ?_
         cases h
        ·refine zT Ad W (t := 219) (f := 202) rfl (XT.ii_ne_t hc199) ?_
         refine zS Ad W 6 (st' := (228, [vR 0, vI x1, vI (f_curPos o), none, none], [.int (8:Int32), .int (f_fn o), .int (f_curPos o), .int x1, .ref 0], (H0 o))) rfl ?_
         rcases qite h with ⟨hc200, h⟩ | ⟨hc200, h⟩
         ·refine zF Ad W (t := 235) (f := 231) rfl (XT.ii_ne_f hc200) ?_
          cases h
         ·refine zT Ad W (t := 235) (f := 231) rfl (XT.ii_ne_t hc200) ?_
          cases h
/-- computeRow(I)V -/
def F6 (o : Ob) (x1 : Int32) : Option (Ob) :=
 (F7 o x1).bind fun r95 => (F10 r95 x1).bind fun r157 => (aset (f_frameCnt r157) x1 (f_aggRows r157)).bind fun y158 => (F16 (s_frameCnt r157 y158) x1).bind fun r201 => some r201
theorem tF6 (Ad : QAd n0 ad) (W : QW Z a0) (o : Ob) (x1 : Int32) {r : Ob} (h : F6 o x1 = some r) : QTri l Z n0 ad 6 (0, qentry [.ref 0, .int x1] (pMaxL 6), [], (H0 o)) (none : Option Value) (H0 r) := by
 unfold F6 at h
 refine zS Ad W 2 (st' := (2, [vR 0, vI x1], [.int x1, .ref 0], (H0 o))) rfl ?_
 obtain ⟨r95, hr95, h⟩ := bind_eq_some_iff.mp h
 refine QTri.callP W (a := 0) (as := [.int x1]) (rest := []) (w := none) (σ₁ := (H0 r95)) rfl rfl rfl rfl rfl rfl rfl rfl (tF7 Ad W o x1 hr95) ?_
 refine zS Ad W 2 (st' := (7, [vR 0, vI x1], [.int x1, .ref 0], (H0 r95))) rfl ?_
 obtain ⟨r157, hr157, h⟩ := bind_eq_some_iff.mp h
 refine QTri.callP W (a := 0) (as := [.int x1]) (rest := []) (w := none) (σ₁ := (H0 r157)) rfl rfl rfl rfl rfl rfl rfl rfl (tF10 Ad W r95 x1 hr157) ?_
 refine zS Ad W 5 (st' := (19, [vR 0, vI x1], [.int (f_aggRows r157), .int x1, .ref 7], (H0 r157))) rfl ?_
 obtain ⟨y158, hy158, h⟩ := bind_eq_some_iff.mp h
 refine zB Ad W (f := fun y158 => (20, [vR 0, vI x1], [], (H0x32 r157 y158))) rfl hy158 ?_
 refine zS Ad W 2 (st' := (22, [vR 0, vI x1], [.int x1, .ref 0], (H0x32 r157 y158))) rfl ?_
 have E159 : ((H0x32 r157 y158) : QHeap) = (H0 (s_frameCnt r157 y158)) := by simp only [fs, H0, H0v, H0x32, s_frameCnt]
 rw [E159]
 obtain ⟨r201, hr201, h⟩ := bind_eq_some_iff.mp h
 refine QTri.callP W (a := 0) (as := [.int x1]) (rest := []) (w := none) (σ₁ := (H0 r201)) rfl rfl rfl rfl rfl rfl rfl rfl (tF16 Ad W (s_frameCnt r157 y158) x1 hr201) ?_
 obtain rfl := Option.some.inj h
 exact QTri.ret0 rfl rfl
def B4_11 (v : Int32 × Ob) : Option (((Int32 × Ob)) ⊕ (Int32 × Ob)) :=
  (if v.1 < (f_rows v.2) then (F6 v.2 v.1).bind fun r202 => some (.inr ((v.1 + (1 : Int32)), r202)) else some (.inl ((0 : Int32), (s_computed v.2 (1 : Int32)))))
theorem tB4_11 (Ad : QAd n0 ad) (W : QW Z a0) (v : Int32 × Ob) {r : ((Int32 × Ob)) ⊕ (Int32 × Ob)} {u : Option Value} {τ : QHeap} (h : B4_11 v = some r) (hx0 : ∀ x : Int32 × Ob, r = .inl x → u = (some (Value.int x.1)) ∧ τ = (H0 x.2)) (hc : ∀ x : Int32 × Ob, r = .inr x → QTri l Z n0 ad 4 (11, [vR 0, vI x.1], [], (H0 x.2)) u τ) : QTri l Z n0 ad 4 (11, [vR 0, vI v.1], [], (H0 v.2)) u τ := by
 unfold B4_11 at h
 refine zS Ad W 3 (st' := (16, [vR 0, vI v.1], [.int (f_rows v.2), .int v.1], (H0 v.2))) rfl ?_
 rcases qite h with ⟨hc46, h⟩ | ⟨hc46, h⟩
 ·refine zF Ad W (t := 30) (f := 19) rfl (XT.ii_ge_f hc46) ?_
  refine zS Ad W 2 (st' := (21, [vR 0, vI v.1], [.int v.1, .ref 0], (H0 v.2))) rfl ?_
  obtain ⟨r202, hr202, h⟩ := bind_eq_some_iff.mp h
  refine QTri.callP W (a := 0) (as := [.int v.1]) (rest := []) (w := none) (σ₁ := (H0 r202)) rfl rfl rfl rfl rfl rfl rfl rfl (tF6 Ad W v.2 v.1 hr202) ?_
  refine zS Ad W 2 (st' := (11, [vR 0, vI (v.1 + (1:Int32))], [], (H0 r202))) rfl ?_
  obtain rfl := Option.some.inj h
  exact zM [tt,tt] (hc ((v.1 + (1:Int32)), r202) rfl)
 ·refine zT Ad W (t := 30) (f := 19) rfl (XT.ii_ge_t hc46) ?_
  refine zS Ad W 3 (st' := (35, [vR 0, vI v.1], [], (H0x12 v.2 (1:Int32)))) rfl ?_
  refine zS Ad W 1 (st' := (36, [vR 0, vI v.1], [.int (0:Int32)], (H0x12 v.2 (1:Int32)))) rfl ?_
  have E203 : ((H0x12 v.2 (1:Int32)) : QHeap) = (H0 (s_computed v.2 (1:Int32))) := by simp only [fs, H0, H0v, H0x12, s_computed]
  rw [E203]
  obtain rfl := Option.some.inj h
  obtain ⟨rfl, rfl⟩ := hx0 ((0:Int32), (s_computed v.2 (1:Int32))) rfl
  exact QTri.retI rfl rfl
/-- compute()I -/
def F4 (o : Ob) : Option (Int32 × Ob) :=
 (F5 o).bind fun r44 => (if r44 = (0:Int32) then (loopN (B4_11) qN ((0:Int32), o)).bind fun e204 => some e204 else some ((-1:Int32), o))
theorem tF4 (Ad : QAd n0 ad) (W : QW Z a0) (o : Ob) {r : Int32 × Ob} (h : F4 o = some r) : QTri l Z n0 ad 4 (0, qentry [.ref 0] (pMaxL 4), [], (H0 o)) (some (Value.int r.1)) (H0 r.2) := by
 unfold F4 at h
 refine zS Ad W 1 (st' := (1, [vR 0, none], [.ref 0], (H0 o))) rfl ?_
 obtain ⟨r44, hr44, h⟩ := bind_eq_some_iff.mp h
 refine QTri.callP W (a := 0) (as := []) (rest := []) (w := (some (.int r44))) (σ₁ := (H0 o)) rfl rfl rfl rfl rfl rfl rfl rfl (tF5 Ad W o hr44) ?_
 rcases qite h with ⟨hc45, h⟩ | ⟨hc45, h⟩
 ·refine zT Ad W (t := 9) (f := 7) rfl (XT.i0_eq_t hc45) ?_
  refine zS Ad W 2 (st' := (11, [vR 0, vI (0:Int32)], [], (H0 o))) rfl ?_
  obtain ⟨e204, he204, h⟩ := bind_eq_some_iff.mp h
  refine zM [tt,tt] (loopN_tri (B := B4_11) (T := fun lv205 => QTri l Z n0 ad 4 (11, [vR 0, vI lv205.1], [], (H0 lv205.2)) (some (Value.int r.1)) (H0 r.2)) (KE := fun e204a => (some (Value.int r.1)) = (some (Value.int e204a.1)) ∧ (H0 r.2) = (H0 e204a.2)) (fun lv205 r hB hE hC => tB4_11 Ad W  lv205 hB (fun x q => hE _ q) (fun x q => hC x q)) qN ((0:Int32), o) e204 he204 ?_)
  obtain rfl := Option.some.inj h
  exact ⟨rfl, rfl⟩
 ·refine zF Ad W (t := 9) (f := 7) rfl (XT.i0_eq_f hc45) ?_
  refine zS Ad W 1 (st' := (8, [vR 0, none], [.int (-1:Int32)], (H0 o))) rfl ?_
  obtain rfl := Option.some.inj h
  exact QTri.retI rfl rfl
/-- sumUpTo(IIIIIII)J -/
def F18 (x0 : Int32) (x1 : Int32) (x2 : Int32) (x3 : Int32) (x4 : Int32) (x5 : Int32) (x6 : Int32) : Option (Int64) :=
 some (if x0 < x3 then (if x0 < x2 then (if x0 < x1 then (0 : Int64) else ((0 : Int64) + (x4.toInt64))) else ((if x0 < x1 then (0 : Int64) else ((0 : Int64) + (x4.toInt64))) + (x5.toInt64))) else ((if x0 < x2 then (if x0 < x1 then (0 : Int64) else ((0 : Int64) + (x4.toInt64))) else ((if x0 < x1 then (0 : Int64) else ((0 : Int64) + (x4.toInt64))) + (x5.toInt64))) + (x6.toInt64)))
theorem tF18 (Ad : QAd n0 ad) (W : QW Z a0) {σ : QHeap} (x0 : Int32) (x1 : Int32) (x2 : Int32) (x3 : Int32) (x4 : Int32) (x5 : Int32) (x6 : Int32) {r : Int64} (h : F18 x0 x1 x2 x3 x4 x5 x6 = some r) : QTri l Z n0 ad 18 (0, qentry [.int x0, .int x1, .int x2, .int x3, .int x4, .int x5, .int x6] (pMaxL 18), [], σ) (some (Value.long r)) σ := by
 unfold F18 at h
 refine zS Ad W 4 (st' := (5, [vI x0, vI x1, vI x2, vI x3, vI x4, vI x5, vI x6, vL (0 : Int64), none], [.int x0, .int x1], σ)) rfl ?_
 have K209 : ∀ z208 : Int64, z208 = (if x0 < x1 then (0 : Int64) else ((0 : Int64) + (x4.toInt64))) → QTri l Z n0 ad 18 (16, [vI x0, none, vI x2, vI x3, none, vI x5, vI x6, vL z208, none], [], σ) (some (Value.long r)) σ := by
  intro z208 ez208
  subst ez208
  refine zS Ad W 2 (st' := (18, [vI x0, none, vI x2, vI x3, none, vI x5, vI x6, vL (if x0 < x1 then (0 : Int64) else ((0 : Int64) + (x4.toInt64))), none], [.int x0, .int x2], σ)) rfl ?_
  have K212 : ∀ z211 : Int64, z211 = (if x0 < x2 then (if x0 < x1 then (0 : Int64) else ((0 : Int64) + (x4.toInt64))) else ((if x0 < x1 then (0 : Int64) else ((0 : Int64) + (x4.toInt64))) + (x5.toInt64))) → QTri l Z n0 ad 18 (29, [vI x0, none, none, vI x3, none, none, vI x6, vL z211, none], [], σ) (some (Value.long r)) σ := by
   intro z211 ez211
   subst ez211
   refine zS Ad W 2 (st' := (31, [vI x0, none, none, vI x3, none, none, vI x6, vL (if x0 < x2 then (if x0 < x1 then (0 : Int64) else ((0 : Int64) + (x4.toInt64))) else ((if x0 < x1 then (0 : Int64) else ((0 : Int64) + (x4.toInt64))) + (x5.toInt64))), none], [.int x0, .int x3], σ)) rfl ?_
   have K215 : ∀ z214 : Int64, z214 = (if x0 < x3 then (if x0 < x2 then (if x0 < x1 then (0 : Int64) else ((0 : Int64) + (x4.toInt64))) else ((if x0 < x1 then (0 : Int64) else ((0 : Int64) + (x4.toInt64))) + (x5.toInt64))) else ((if x0 < x2 then (if x0 < x1 then (0 : Int64) else ((0 : Int64) + (x4.toInt64))) else ((if x0 < x1 then (0 : Int64) else ((0 : Int64) + (x4.toInt64))) + (x5.toInt64))) + (x6.toInt64))) → QTri l Z n0 ad 18 (42, [none, none, none, none, none, none, none, vL z214, none], [], σ) (some (Value.long r)) σ := by
    intro z214 ez214
    subst ez214
    refine zS Ad W 1 (st' := (44, [none, none, none, none, none, none, none, vL (if x0 < x3 then (if x0 < x2 then (if x0 < x1 then (0 : Int64) else ((0 : Int64) + (x4.toInt64))) else ((if x0 < x1 then (0 : Int64) else ((0 : Int64) + (x4.toInt64))) + (x5.toInt64))) else ((if x0 < x2 then (if x0 < x1 then (0 : Int64) else ((0 : Int64) + (x4.toInt64))) else ((if x0 < x1 then (0 : Int64) else ((0 : Int64) + (x4.toInt64))) + (x5.toInt64))) + (x6.toInt64))), none], [.long (if x0 < x3 then (if x0 < x2 then (if x0 < x1 then (0 : Int64) else ((0 : Int64) + (x4.toInt64))) else ((if x0 < x1 then (0 : Int64) else ((0 : Int64) + (x4.toInt64))) + (x5.toInt64))) else ((if x0 < x2 then (if x0 < x1 then (0 : Int64) else ((0 : Int64) + (x4.toInt64))) else ((if x0 < x1 then (0 : Int64) else ((0 : Int64) + (x4.toInt64))) + (x5.toInt64))) + (x6.toInt64)))], σ)) rfl ?_
    obtain rfl := Option.some.inj h
    exact QTri.retJ rfl rfl
   rcases em (x0 < x3) with hc216 | hc216
   ·refine zT Ad W (t := 42) (f := 34) rfl (XT.ii_gt_t hc216) ?_
    exact zM [ff,ff,ff,ff,ff,ff,ff,tt,ff] (K215 _ (if_pos hc216).symm)
   ·refine zF Ad W (t := 42) (f := 34) rfl (XT.ii_gt_f hc216) ?_
    refine zS Ad W 5 (st' := (42, [vI x0, none, none, vI x3, none, none, vI x6, vL ((if x0 < x2 then (if x0 < x1 then (0 : Int64) else ((0 : Int64) + (x4.toInt64))) else ((if x0 < x1 then (0 : Int64) else ((0 : Int64) + (x4.toInt64))) + (x5.toInt64))) + (x6.toInt64)), none], [], σ)) rfl ?_
    exact zM [ff,ff,ff,ff,ff,ff,ff,tt,ff] (K215 _ (if_neg hc216).symm)
  rcases em (x0 < x2) with hc213 | hc213
  ·refine zT Ad W (t := 29) (f := 21) rfl (XT.ii_gt_t hc213) ?_
   exact zM [tt,ff,ff,tt,ff,ff,tt,tt,ff] (K212 _ (if_pos hc213).symm)
  ·refine zF Ad W (t := 29) (f := 21) rfl (XT.ii_gt_f hc213) ?_
   refine zS Ad W 5 (st' := (29, [vI x0, none, vI x2, vI x3, none, vI x5, vI x6, vL ((if x0 < x1 then (0 : Int64) else ((0 : Int64) + (x4.toInt64))) + (x5.toInt64)), none], [], σ)) rfl ?_
   exact zM [tt,ff,ff,tt,ff,ff,tt,tt,ff] (K212 _ (if_neg hc213).symm)
 rcases em (x0 < x1) with hc210 | hc210
 ·refine zT Ad W (t := 16) (f := 8) rfl (XT.ii_gt_t hc210) ?_
  exact zM [tt,ff,tt,tt,ff,tt,tt,tt,ff] (K209 _ (if_pos hc210).symm)
 ·refine zF Ad W (t := 16) (f := 8) rfl (XT.ii_gt_f hc210) ?_
  refine zS Ad W 5 (st' := (16, [vI x0, vI x1, vI x2, vI x3, vI x4, vI x5, vI x6, vL ((0 : Int64) + (x4.toInt64)), none], [], σ)) rfl ?_
  exact zM [tt,ff,tt,tt,ff,tt,tt,tt,ff] (K209 _ (if_neg hc210).symm)
/-- countUpTo(IIII)I -/
def F19 (x0 : Int32) (x1 : Int32) (x2 : Int32) (x3 : Int32) : Option (Int32) :=
 some (if x0 < x3 then (if x0 < x2 then (if x0 < x1 then (0:Int32) else ((0:Int32) + (1:Int32))) else ((if x0 < x1 then (0:Int32) else ((0:Int32) + (1:Int32))) + (1:Int32))) else ((if x0 < x2 then (if x0 < x1 then (0:Int32) else ((0:Int32) + (1:Int32))) else ((if x0 < x1 then (0:Int32) else ((0:Int32) + (1:Int32))) + (1:Int32))) + (1:Int32)))
theorem tF19 (Ad : QAd n0 ad) (W : QW Z a0) {σ : QHeap} (x0 : Int32) (x1 : Int32) (x2 : Int32) (x3 : Int32) {r : Int32} (h : F19 x0 x1 x2 x3 = some r) : QTri l Z n0 ad 19 (0, qentry [.int x0, .int x1, .int x2, .int x3] (pMaxL 19), [], σ) (some (Value.int r)) σ := by
 unfold F19 at h
 refine zS Ad W 4 (st' := (5, [vI x0, vI x1, vI x2, vI x3, vI (0:Int32)], [.int x0, .int x1], σ)) rfl ?_
 have K221 : ∀ z220 : Int32, z220 = (if x0 < x1 then (0:Int32) else ((0:Int32) + (1:Int32))) → QTri l Z n0 ad 19 (11, [vI x0, none, vI x2, vI x3, vI z220], [], σ) (some (Value.int r)) σ := by
  intro z220 ez220
  subst ez220
  refine zS Ad W 2 (st' := (13, [vI x0, none, vI x2, vI x3, vI (if x0 < x1 then (0:Int32) else ((0:Int32) + (1:Int32)))], [.int x0, .int x2], σ)) rfl ?_
  have K224 : ∀ z223 : Int32, z223 = (if x0 < x2 then (if x0 < x1 then (0:Int32) else ((0:Int32) + (1:Int32))) else ((if x0 < x1 then (0:Int32) else ((0:Int32) + (1:Int32))) + (1:Int32))) → QTri l Z n0 ad 19 (19, [vI x0, none, none, vI x3, vI z223], [], σ) (some (Value.int r)) σ := by
   intro z223 ez223
   subst ez223
   refine zS Ad W 2 (st' := (21, [vI x0, none, none, vI x3, vI (if x0 < x2 then (if x0 < x1 then (0:Int32) else ((0:Int32) + (1:Int32))) else ((if x0 < x1 then (0:Int32) else ((0:Int32) + (1:Int32))) + (1:Int32)))], [.int x0, .int x3], σ)) rfl ?_
   have K227 : ∀ z226 : Int32, z226 = (if x0 < x3 then (if x0 < x2 then (if x0 < x1 then (0:Int32) else ((0:Int32) + (1:Int32))) else ((if x0 < x1 then (0:Int32) else ((0:Int32) + (1:Int32))) + (1:Int32))) else ((if x0 < x2 then (if x0 < x1 then (0:Int32) else ((0:Int32) + (1:Int32))) else ((if x0 < x1 then (0:Int32) else ((0:Int32) + (1:Int32))) + (1:Int32))) + (1:Int32))) → QTri l Z n0 ad 19 (27, [none, none, none, none, vI z226], [], σ) (some (Value.int r)) σ := by
    intro z226 ez226
    subst ez226
    refine zS Ad W 1 (st' := (29, [none, none, none, none, vI (if x0 < x3 then (if x0 < x2 then (if x0 < x1 then (0:Int32) else ((0:Int32) + (1:Int32))) else ((if x0 < x1 then (0:Int32) else ((0:Int32) + (1:Int32))) + (1:Int32))) else ((if x0 < x2 then (if x0 < x1 then (0:Int32) else ((0:Int32) + (1:Int32))) else ((if x0 < x1 then (0:Int32) else ((0:Int32) + (1:Int32))) + (1:Int32))) + (1:Int32)))], [.int (if x0 < x3 then (if x0 < x2 then (if x0 < x1 then (0:Int32) else ((0:Int32) + (1:Int32))) else ((if x0 < x1 then (0:Int32) else ((0:Int32) + (1:Int32))) + (1:Int32))) else ((if x0 < x2 then (if x0 < x1 then (0:Int32) else ((0:Int32) + (1:Int32))) else ((if x0 < x1 then (0:Int32) else ((0:Int32) + (1:Int32))) + (1:Int32))) + (1:Int32)))], σ)) rfl ?_
    obtain rfl := Option.some.inj h
    exact QTri.retI rfl rfl
   rcases em (x0 < x3) with hc228 | hc228
   ·refine zT Ad W (t := 27) (f := 24) rfl (XT.ii_gt_t hc228) ?_
    exact zM [ff,ff,ff,ff,tt] (K227 _ (if_pos hc228).symm)
   ·refine zF Ad W (t := 27) (f := 24) rfl (XT.ii_gt_f hc228) ?_
    refine zS Ad W 1 (st' := (27, [vI x0, none, none, vI x3, vI ((if x0 < x2 then (if x0 < x1 then (0:Int32) else ((0:Int32) + (1:Int32))) else ((if x0 < x1 then (0:Int32) else ((0:Int32) + (1:Int32))) + (1:Int32))) + (1:Int32))], [], σ)) rfl ?_
    exact zM [ff,ff,ff,ff,tt] (K227 _ (if_neg hc228).symm)
  rcases em (x0 < x2) with hc225 | hc225
  ·refine zT Ad W (t := 19) (f := 16) rfl (XT.ii_gt_t hc225) ?_
   exact zM [tt,ff,ff,tt,tt] (K224 _ (if_pos hc225).symm)
  ·refine zF Ad W (t := 19) (f := 16) rfl (XT.ii_gt_f hc225) ?_
   refine zS Ad W 1 (st' := (19, [vI x0, none, vI x2, vI x3, vI ((if x0 < x1 then (0:Int32) else ((0:Int32) + (1:Int32))) + (1:Int32))], [], σ)) rfl ?_
   exact zM [tt,ff,ff,tt,tt] (K224 _ (if_neg hc225).symm)
 rcases em (x0 < x1) with hc222 | hc222
 ·refine zT Ad W (t := 11) (f := 8) rfl (XT.ii_gt_t hc222) ?_
  exact zM [tt,ff,tt,tt,tt] (K221 _ (if_pos hc222).symm)
 ·refine zF Ad W (t := 11) (f := 8) rfl (XT.ii_gt_f hc222) ?_
  refine zS Ad W 1 (st' := (11, [vI x0, vI x1, vI x2, vI x3, vI ((0:Int32) + (1:Int32))], [], σ)) rfl ?_
  exact zM [tt,ff,tt,tt,tt] (K221 _ (if_neg hc222).symm)
/-- getResult(I)J -/
def F21 (o : Ob) (x1 : Int32) : Option (Int64) :=
 (if (f_computed o) = (0:Int32) then some (0 : Int64) else (if x1 < (0:Int32) then some (0 : Int64) else (if x1 < (f_rows o) then (aget (f_resNull o) x1).bind fun y235 => (if y235 = (0:Int32) then (aget (f_res o) x1).bind fun y237 => some y237 else some (0 : Int64)) else some (0 : Int64))))
theorem tF21 (Ad : QAd n0 ad) (W : QW Z a0) (o : Ob) (x1 : Int32) {r : Int64} (h : F21 o x1 = some r) : QTri l Z n0 ad 21 (0, qentry [.ref 0, .int x1] (pMaxL 21), [], (H0 o)) (some (Value.long r)) (H0 o) := by
 unfold F21 at h
 refine zS Ad W 2 (st' := (4, [vR 0, vI x1], [.int (f_computed o)], (H0 o))) rfl ?_
 rcases qite h with ⟨hc232, h⟩ | ⟨hc232, h⟩
 ·refine zT Ad W (t := 19) (f := 7) rfl (XT.i0_eq_t hc232) ?_
  refine zS Ad W 1 (st' := (20, [vR 0, vI x1], [.long (0 : Int64)], (H0 o))) rfl ?_
  obtain rfl := Option.some.inj h
  exact QTri.retJ rfl rfl
 ·refine zF Ad W (t := 19) (f := 7) rfl (XT.i0_eq_f hc232) ?_
  refine zS Ad W 1 (st' := (8, [vR 0, vI x1], [.int x1], (H0 o))) rfl ?_
  rcases qite h with ⟨hc233, h⟩ | ⟨hc233, h⟩
  ·refine zT Ad W (t := 19) (f := 11) rfl (XT.i0_lt_t hc233) ?_
   refine zS Ad W 1 (st' := (20, [vR 0, vI x1], [.long (0 : Int64)], (H0 o))) rfl ?_
   obtain rfl := Option.some.inj h
   exact QTri.retJ rfl rfl
  ·refine zF Ad W (t := 19) (f := 11) rfl (XT.i0_lt_f hc233) ?_
   refine zS Ad W 3 (st' := (16, [vR 0, vI x1], [.int (f_rows o), .int x1], (H0 o))) rfl ?_
   rcases qite h with ⟨hc234, h⟩ | ⟨hc234, h⟩
   ·refine zT Ad W (t := 21) (f := 19) rfl (XT.ii_lt_t hc234) ?_
    refine zS Ad W 3 (st' := (26, [vR 0, vI x1], [.int x1, .ref 6], (H0 o))) rfl ?_
    obtain ⟨y235, hy235, h⟩ := bind_eq_some_iff.mp h
    refine zB Ad W (f := fun y235 => (27, [vR 0, vI x1], [.int y235], (H0 o))) rfl hy235 ?_
    rcases qite h with ⟨hc236, h⟩ | ⟨hc236, h⟩
    ·refine zT Ad W (t := 32) (f := 30) rfl (XT.i0_eq_t hc236) ?_
     refine zS Ad W 3 (st' := (37, [vR 0, vI x1], [.int x1, .ref 5], (H0 o))) rfl ?_
     obtain ⟨y237, hy237, h⟩ := bind_eq_some_iff.mp h
     refine zB Ad W (f := fun y237 => (38, [vR 0, vI x1], [.long y237], (H0 o))) rfl hy237 ?_
     obtain rfl := Option.some.inj h
     exact QTri.retJ rfl rfl
    ·refine zF Ad W (t := 32) (f := 30) rfl (XT.i0_eq_f hc236) ?_
     refine zS Ad W 1 (st' := (31, [vR 0, vI x1], [.long (0 : Int64)], (H0 o))) rfl ?_
     obtain rfl := Option.some.inj h
     exact QTri.retJ rfl rfl
   ·refine zF Ad W (t := 21) (f := 19) rfl (XT.ii_lt_f hc234) ?_
    refine zS Ad W 1 (st' := (20, [vR 0, vI x1], [.long (0 : Int64)], (H0 o))) rfl ?_
    obtain rfl := Option.some.inj h
    exact QTri.retJ rfl rfl
/-- isResultNull(I)Z -/
def F22 (o : Ob) (x1 : Int32) : Option (Int32) :=
 (if (f_computed o) = (0:Int32) then some (0:Int32) else (if x1 < (0:Int32) then some (0:Int32) else (if x1 < (f_rows o) then (aget (f_resNull o) x1).bind fun y242 => some (y242 &&& 1) else some (0:Int32))))
theorem tF22 (Ad : QAd n0 ad) (W : QW Z a0) (o : Ob) (x1 : Int32) {r : Int32} (h : F22 o x1 = some r) : QTri l Z n0 ad 22 (0, qentry [.ref 0, .int x1] (pMaxL 22), [], (H0 o)) (some (Value.int r)) (H0 o) := by
 unfold F22 at h
 refine zS Ad W 2 (st' := (4, [vR 0, vI x1], [.int (f_computed o)], (H0 o))) rfl ?_
 rcases qite h with ⟨hc239, h⟩ | ⟨hc239, h⟩
 ·refine zT Ad W (t := 19) (f := 7) rfl (XT.i0_eq_t hc239) ?_
  refine zS Ad W 1 (st' := (20, [vR 0, vI x1], [.int (0:Int32)], (H0 o))) rfl ?_
  obtain rfl := Option.some.inj h
  exact QTri.retZ rfl rfl
 ·refine zF Ad W (t := 19) (f := 7) rfl (XT.i0_eq_f hc239) ?_
  refine zS Ad W 1 (st' := (8, [vR 0, vI x1], [.int x1], (H0 o))) rfl ?_
  rcases qite h with ⟨hc240, h⟩ | ⟨hc240, h⟩
  ·refine zT Ad W (t := 19) (f := 11) rfl (XT.i0_lt_t hc240) ?_
   refine zS Ad W 1 (st' := (20, [vR 0, vI x1], [.int (0:Int32)], (H0 o))) rfl ?_
   obtain rfl := Option.some.inj h
   exact QTri.retZ rfl rfl
  ·refine zF Ad W (t := 19) (f := 11) rfl (XT.i0_lt_f hc240) ?_
   refine zS Ad W 3 (st' := (16, [vR 0, vI x1], [.int (f_rows o), .int x1], (H0 o))) rfl ?_
   rcases qite h with ⟨hc241, h⟩ | ⟨hc241, h⟩
   ·refine zT Ad W (t := 21) (f := 19) rfl (XT.ii_lt_t hc241) ?_
    refine zS Ad W 3 (st' := (26, [vR 0, vI x1], [.int x1, .ref 6], (H0 o))) rfl ?_
    obtain ⟨y242, hy242, h⟩ := bind_eq_some_iff.mp h
    refine zB Ad W (f := fun y242 => (27, [vR 0, vI x1], [.int y242], (H0 o))) rfl hy242 ?_
    obtain rfl := Option.some.inj h
    exact QTri.retZ rfl rfl
   ·refine zF Ad W (t := 21) (f := 19) rfl (XT.ii_lt_f hc241) ?_
    refine zS Ad W 1 (st' := (20, [vR 0, vI x1], [.int (0:Int32)], (H0 o))) rfl ?_
    obtain rfl := Option.some.inj h
    exact QTri.retZ rfl rfl
/-- getFrameCount(I)I -/
def F23 (o : Ob) (x1 : Int32) : Option (Int32) :=
 (if (f_computed o) = (0:Int32) then some (-1:Int32) else (if x1 < (0:Int32) then some (-1:Int32) else (if x1 < (f_rows o) then (aget (f_frameCnt o) x1).bind fun y247 => some y247 else some (-1:Int32))))
theorem tF23 (Ad : QAd n0 ad) (W : QW Z a0) (o : Ob) (x1 : Int32) {r : Int32} (h : F23 o x1 = some r) : QTri l Z n0 ad 23 (0, qentry [.ref 0, .int x1] (pMaxL 23), [], (H0 o)) (some (Value.int r)) (H0 o) := by
 unfold F23 at h
 refine zS Ad W 2 (st' := (4, [vR 0, vI x1], [.int (f_computed o)], (H0 o))) rfl ?_
 rcases qite h with ⟨hc244, h⟩ | ⟨hc244, h⟩
 ·refine zT Ad W (t := 19) (f := 7) rfl (XT.i0_eq_t hc244) ?_
  refine zS Ad W 1 (st' := (20, [vR 0, vI x1], [.int (-1:Int32)], (H0 o))) rfl ?_
  obtain rfl := Option.some.inj h
  exact QTri.retI rfl rfl
 ·refine zF Ad W (t := 19) (f := 7) rfl (XT.i0_eq_f hc244) ?_
  refine zS Ad W 1 (st' := (8, [vR 0, vI x1], [.int x1], (H0 o))) rfl ?_
  rcases qite h with ⟨hc245, h⟩ | ⟨hc245, h⟩
  ·refine zT Ad W (t := 19) (f := 11) rfl (XT.i0_lt_t hc245) ?_
   refine zS Ad W 1 (st' := (20, [vR 0, vI x1], [.int (-1:Int32)], (H0 o))) rfl ?_
   obtain rfl := Option.some.inj h
   exact QTri.retI rfl rfl
  ·refine zF Ad W (t := 19) (f := 11) rfl (XT.i0_lt_f hc245) ?_
   refine zS Ad W 3 (st' := (16, [vR 0, vI x1], [.int (f_rows o), .int x1], (H0 o))) rfl ?_
   rcases qite h with ⟨hc246, h⟩ | ⟨hc246, h⟩
   ·refine zT Ad W (t := 21) (f := 19) rfl (XT.ii_lt_t hc246) ?_
    refine zS Ad W 3 (st' := (26, [vR 0, vI x1], [.int x1, .ref 7], (H0 o))) rfl ?_
    obtain ⟨y247, hy247, h⟩ := bind_eq_some_iff.mp h
    refine zB Ad W (f := fun y247 => (27, [vR 0, vI x1], [.int y247], (H0 o))) rfl hy247 ?_
    obtain rfl := Option.some.inj h
    exact QTri.retI rfl rfl
   ·refine zF Ad W (t := 21) (f := 19) rfl (XT.ii_lt_f hc246) ?_
    refine zS Ad W 1 (st' := (20, [vR 0, vI x1], [.int (-1:Int32)], (H0 o))) rfl ?_
    obtain rfl := Option.some.inj h
    exact QTri.retI rfl rfl
/-- row(LWindowFuncEngine;IJI)Z -/
def F20 (o : Ob) (x1 : Int32) (x2 : Int64) (x4 : Int32) : Option (Int32) :=
 (F21 o x1).bind fun r238 => (F22 o x1).bind fun r243 => (F23 o x1).bind fun r248 => (if r238 = x2 then (if r243 = (0:Int32) then (if r248 = x4 then some (1:Int32) else some (0:Int32)) else some (0:Int32)) else some (0:Int32))
theorem tF20 (Ad : QAd n0 ad) (W : QW Z a0) (o : Ob) (x1 : Int32) (x2 : Int64) (x4 : Int32) {r : Int32} (h : F20 o x1 x2 x4 = some r) : QTri l Z n0 ad 20 (0, qentry [.ref 0, .int x1, .long x2, .int x4] (pMaxL 20), [], (H0 o)) (some (Value.int r)) (H0 o) := by
 unfold F20 at h
 refine zS Ad W 2 (st' := (2, [vR 0, vI x1, vL x2, none, vI x4, none, none, none, none], [.int x1, .ref 0], (H0 o))) rfl ?_
 obtain ⟨r238, hr238, h⟩ := bind_eq_some_iff.mp h
 refine QTri.callV W (a := 0) (as := [.int x1]) (rest := []) (w := (some (.long r238))) (σ₁ := (H0 o)) rfl rfl rfl rfl rfl rfl rfl rfl (tF21 Ad W o x1 hr238) ?_
 refine zS Ad W 3 (st' := (9, [vR 0, vI x1, vL x2, none, vI x4, vL r238, none, none, none], [.int x1, .ref 0], (H0 o))) rfl ?_
 obtain ⟨r243, hr243, h⟩ := bind_eq_some_iff.mp h
 refine QTri.callV W (a := 0) (as := [.int x1]) (rest := []) (w := (some (.int r243))) (σ₁ := (H0 o)) rfl rfl rfl rfl rfl rfl rfl rfl (tF22 Ad W o x1 hr243) ?_
 refine zS Ad W 3 (st' := (16, [vR 0, vI x1, vL x2, none, vI x4, vL r238, none, vI r243, none], [.int x1, .ref 0], (H0 o))) rfl ?_
 obtain ⟨r248, hr248, h⟩ := bind_eq_some_iff.mp h
 refine QTri.callV W (a := 0) (as := [.int x1]) (rest := []) (w := (some (.int r248))) (σ₁ := (H0 o)) rfl rfl rfl rfl rfl rfl rfl rfl (tF23 Ad W o x1 hr248) ?_
 refine zS Ad W 4 (st' := (25, [vR 0, vI x1, vL x2, none, vI x4, vL r238, none, vI r243, vI r248], [.int (XT.cmpL r238 x2)], (H0 o))) rfl ?_
 rcases qite h with ⟨hc249, h⟩ | ⟨hc249, h⟩
 ·refine zF Ad W (t := 44) (f := 28) rfl (XT.ll_ne_f hc249) ?_
  refine zS Ad W 1 (st' := (30, [vR 0, vI x1, vL x2, none, vI x4, vL r238, none, vI r243, vI r248], [.int r243], (H0 o))) rfl ?_
  rcases qite h with ⟨hc250, h⟩ | ⟨hc250, h⟩
  ·refine zF Ad W (t := 44) (f := 33) rfl (XT.i0_ne_f hc250) ?_
   refine zS Ad W 2 (st' := (37, [vR 0, vI x1, vL x2, none, vI x4, vL r238, none, vI r243, vI r248], [.int x4, .int r248], (H0 o))) rfl ?_
   rcases qite h with ⟨hc251, h⟩ | ⟨hc251, h⟩
   ·refine zF Ad W (t := 44) (f := 40) rfl (XT.ii_ne_f hc251) ?_
    refine zS Ad W 2 (st' := (45, [vR 0, vI x1, vL x2, none, vI x4, vL r238, none, vI r243, vI r248], [.int (1:Int32)], (H0 o))) rfl ?_
    obtain rfl := Option.some.inj h
    exact QTri.retZ rfl rfl
   ·refine zT Ad W (t := 44) (f := 40) rfl (XT.ii_ne_t hc251) ?_
    refine zS Ad W 1 (st' := (45, [vR 0, vI x1, vL x2, none, vI x4, vL r238, none, vI r243, vI r248], [.int (0:Int32)], (H0 o))) rfl ?_
    obtain rfl := Option.some.inj h
    exact QTri.retZ rfl rfl
  ·refine zT Ad W (t := 44) (f := 33) rfl (XT.i0_ne_t hc250) ?_
   refine zS Ad W 1 (st' := (45, [vR 0, vI x1, vL x2, none, vI x4, vL r238, none, vI r243, vI r248], [.int (0:Int32)], (H0 o))) rfl ?_
   obtain rfl := Option.some.inj h
   exact QTri.retZ rfl rfl
 ·refine zT Ad W (t := 44) (f := 28) rfl (XT.ll_ne_t hc249) ?_
  refine zS Ad W 1 (st' := (45, [vR 0, vI x1, vL x2, none, vI x4, vL r238, none, vI r243, vI r248], [.int (0:Int32)], (H0 o))) rfl ?_
  obtain rfl := Option.some.inj h
  exact QTri.retZ rfl rfl
def H0x35 (o0 : Ob) (a0_17 : Int32) : QHeap := H0v (f_part o0) (f_keys o0) (f_vals o0) (f_flg o0) (f_res o0) (f_resNull o0) (f_frameCnt o0) (f_sorted o0) (f_cap o0) (f_rows o0) (f_direction o0) (f_nulls o0) (f_mode o0) (f_startKind o0) (f_startOff o0) (f_endKind o0) (f_endOff o0) a0_17 (f_fnArg o0) (f_computed o0) (f_sortedLen o0) (f_curPos o0) (f_aggSum o0) (f_aggCount o0) (f_aggRows o0) (f_aggMin o0) (f_aggMax o0)
def H0x36 (o0 : Ob) (a0_17 : Int32) (a0_18 : Int32) : QHeap := H0v (f_part o0) (f_keys o0) (f_vals o0) (f_flg o0) (f_res o0) (f_resNull o0) (f_frameCnt o0) (f_sorted o0) (f_cap o0) (f_rows o0) (f_direction o0) (f_nulls o0) (f_mode o0) (f_startKind o0) (f_startOff o0) (f_endKind o0) (f_endOff o0) a0_17 a0_18 (f_computed o0) (f_sortedLen o0) (f_curPos o0) (f_aggSum o0) (f_aggCount o0) (f_aggRows o0) (f_aggMin o0) (f_aggMax o0)
def H0x37 (o0 : Ob) (a0_17 : Int32) (a0_18 : Int32) (a0_19 : Int32) : QHeap := H0v (f_part o0) (f_keys o0) (f_vals o0) (f_flg o0) (f_res o0) (f_resNull o0) (f_frameCnt o0) (f_sorted o0) (f_cap o0) (f_rows o0) (f_direction o0) (f_nulls o0) (f_mode o0) (f_startKind o0) (f_startOff o0) (f_endKind o0) (f_endOff o0) a0_17 a0_18 a0_19 (f_sortedLen o0) (f_curPos o0) (f_aggSum o0) (f_aggCount o0) (f_aggRows o0) (f_aggMin o0) (f_aggMax o0)
def J24_40 (o : Ob) (x1 : Int32) (x2 : Int32) (x3 : Int32) : Option (Int32 × Ob) :=
  some ((1 : Int32), (s_computed (s_fnArg (s_fn o x1) (if x3 = (0 : Int32) then (0 : Int32) else x2)) (0 : Int32)))
theorem tJ24_40 (Ad : QAd n0 ad) (W : QW Z a0) (o : Ob) (x1 : Int32) (x2 : Int32) (x3 : Int32) {r : Int32 × Ob} (h : J24_40 o x1 x2 x3 = some r) : QTri l Z n0 ad 24 (40, [vR 0, vI x1, vI x2, vI x3], [], (H0 o)) (some (Value.int r.1)) (H0 r.2) := by
 unfold J24_40 at h
 refine zS Ad W 3 (st' := (45, [vR 0, vI x1, vI x2, vI x3], [], (H0x35 o x1))) rfl ?_
 refine zS Ad W 2 (st' := (47, [vR 0, vI x1, vI x2, vI x3], [.int x3, .ref 0], (H0x35 o x1))) rfl ?_
 have K266 : ∀ z265 : Int32, z265 = (if x3 = (0:Int32) then (0:Int32) else x2) → QTri l Z n0 ad 24 (55, [vR 0, none, none, none], [.int z265, .ref 0], (H0x35 o x1)) (some (Value.int r.1)) (H0 r.2) := by
  intro z265 ez265
  subst ez265
  refine zS Ad W 1 (st' := (58, [vR 0, none, none, none], [], (H0x36 o x1 (if x3 = (0:Int32) then (0:Int32) else x2)))) rfl ?_
  refine zS Ad W 3 (st' := (63, [vR 0, none, none, none], [], (H0x37 o x1 (if x3 = (0:Int32) then (0:Int32) else x2) (0:Int32)))) rfl ?_
  refine zS Ad W 1 (st' := (64, [vR 0, none, none, none], [.int (1:Int32)], (H0x37 o x1 (if x3 = (0:Int32) then (0:Int32) else x2) (0:Int32)))) rfl ?_
  have E268 : ((H0x37 o x1 (if x3 = (0:Int32) then (0:Int32) else x2) (0:Int32)) : QHeap) = (H0 (s_computed (s_fnArg (s_fn o x1) (if x3 = (0:Int32) then (0:Int32) else x2)) (0:Int32))) := by simp only [fs, H0, H0v, H0x37, s_fn, s_fnArg, s_computed]
  rw [E268]
  obtain rfl := Option.some.inj h
  exact QTri.retZ rfl rfl
 rcases em (x3 = (0:Int32)) with hc267 | hc267
 ·refine zT Ad W (t := 54) (f := 50) rfl (XT.i0_eq_t hc267) ?_
  refine zS Ad W 1 (st' := (55, [vR 0, vI x1, vI x2, vI x3], [.int (0:Int32), .ref 0], (H0x35 o x1))) rfl ?_
  exact zM [tt,ff,ff,ff] (K266 _ (if_pos hc267).symm)
 ·refine zF Ad W (t := 54) (f := 50) rfl (XT.i0_eq_f hc267) ?_
  refine zS Ad W 2 (st' := (55, [vR 0, vI x1, vI x2, vI x3], [.int x2, .ref 0], (H0x35 o x1))) rfl ?_
  exact zM [tt,ff,ff,ff] (K266 _ (if_neg hc267).symm)
/-- setFunction(II)Z -/
def F24 (o : Ob) (x1 : Int32) (x2 : Int32) : Option (Int32 × Ob) :=
 (if x1 < (0:Int32) then some ((0:Int32), o) else (if (9:Int32) < x1 then some ((0:Int32), o) else (if (if x1 = (8:Int32) then (1:Int32) else (if x1 = (9:Int32) then (1:Int32) else (0:Int32))) = (0:Int32) then (J24_40 o x1 x2 (if x1 = (8:Int32) then (1:Int32) else (if x1 = (9:Int32) then (1:Int32) else (0:Int32)))) else (if x2 < (0:Int32) then some ((0:Int32), o) else (J24_40 o x1 x2 (if x1 = (8:Int32) then (1:Int32) else (if x1 = (9:Int32) then (1:Int32) else (0:Int32))))))))
theorem tF24 (Ad : QAd n0 ad) (W : QW Z a0) (o : Ob) (x1 : Int32) (x2 : Int32) {r : Int32 × Ob} (h : F24 o x1 x2 = some r) : QTri l Z n0 ad 24 (0, qentry [.ref 0, .int x1, .int x2] (pMaxL 24), [], (H0 o)) (some (Value.int r.1)) (H0 r.2) := by
 unfold F24 at h
 refine zS Ad W 1 (st' := (1, [vR 0, vI x1, vI x2, none], [.int x1], (H0 o))) rfl ?_
 rcases qite h with ⟨hc258, h⟩ | ⟨hc258, h⟩
 ·refine zT Ad W (t := 10) (f := 4) rfl (XT.i0_lt_t hc258) ?_
  refine zS Ad W 1 (st' := (11, [vR 0, vI x1, vI x2, none], [.int (0:Int32)], (H0 o))) rfl ?_
  obtain rfl := Option.some.inj h
  exact QTri.retZ rfl rfl
 ·refine zF Ad W (t := 10) (f := 4) rfl (XT.i0_lt_f hc258) ?_
  refine zS Ad W 2 (st' := (7, [vR 0, vI x1, vI x2, none], [.int (9:Int32), .int x1], (H0 o))) rfl ?_
  rcases qite h with ⟨hc259, h⟩ | ⟨hc259, h⟩
  ·refine zF Ad W (t := 12) (f := 10) rfl (XT.ii_le_f hc259) ?_
   refine zS Ad W 1 (st' := (11, [vR 0, vI x1, vI x2, none], [.int (0:Int32)], (H0 o))) rfl ?_
   obtain rfl := Option.some.inj h
   exact QTri.retZ rfl rfl
  ·refine zT Ad W (t := 12) (f := 10) rfl (XT.ii_le_t hc259) ?_
   refine zS Ad W 2 (st' := (15, [vR 0, vI x1, vI x2, none], [.int (8:Int32), .int x1], (H0 o))) rfl ?_
   have K261 : ∀ z260 : Int32, z260 = (if x1 = (8:Int32) then (1:Int32) else (if x1 = (9:Int32) then (1:Int32) else (0:Int32))) → QTri l Z n0 ad 24 (29, [vR 0, vI x1, vI x2, none], [.int z260], (H0 o)) (some (Value.int r.1)) (H0 r.2) := by
    intro z260 ez260
    subst ez260
    refine zS Ad W 2 (st' := (31, [vR 0, vI x1, vI x2, vI (if x1 = (8:Int32) then (1:Int32) else (if x1 = (9:Int32) then (1:Int32) else (0:Int32)))], [.int (if x1 = (8:Int32) then (1:Int32) else (if x1 = (9:Int32) then (1:Int32) else (0:Int32)))], (H0 o))) rfl ?_
    rcases qite h with ⟨hc264, h⟩ | ⟨hc264, h⟩
    ·refine zT Ad W (t := 40) (f := 34) rfl (XT.i0_eq_t hc264) ?_
     exact zM [tt,tt,tt,tt] (tJ24_40 Ad W o x1 x2 (if x1 = (8:Int32) then (1:Int32) else (if x1 = (9:Int32) then (1:Int32) else (0:Int32))) h)
    ·refine zF Ad W (t := 40) (f := 34) rfl (XT.i0_eq_f hc264) ?_
     refine zS Ad W 1 (st' := (35, [vR 0, vI x1, vI x2, vI (if x1 = (8:Int32) then (1:Int32) else (if x1 = (9:Int32) then (1:Int32) else (0:Int32)))], [.int x2], (H0 o))) rfl ?_
     rcases qite h with ⟨hc269, h⟩ | ⟨hc269, h⟩
     ·refine zF Ad W (t := 40) (f := 38) rfl (XT.i0_ge_f hc269) ?_
      refine zS Ad W 1 (st' := (39, [vR 0, vI x1, vI x2, vI (if x1 = (8:Int32) then (1:Int32) else (if x1 = (9:Int32) then (1:Int32) else (0:Int32)))], [.int (0:Int32)], (H0 o))) rfl ?_
      obtain rfl := Option.some.inj h
      exact QTri.retZ rfl rfl
     ·refine zT Ad W (t := 40) (f := 38) rfl (XT.i0_ge_t hc269) ?_
      exact zM [tt,tt,tt,tt] (tJ24_40 Ad W o x1 x2 (if x1 = (8:Int32) then (1:Int32) else (if x1 = (9:Int32) then (1:Int32) else (0:Int32))) h)
   rcases em (x1 = (8:Int32)) with hc262 | hc262
   ·refine zT Ad W (t := 24) (f := 18) rfl (XT.ii_eq_t hc262) ?_
    refine zS Ad W 2 (st' := (29, [vR 0, vI x1, vI x2, none], [.int (1:Int32)], (H0 o))) rfl ?_
    exact zM [tt,tt,tt,ff] (K261 _ (if_pos hc262).symm)
   ·refine zF Ad W (t := 24) (f := 18) rfl (XT.ii_eq_f hc262) ?_
    refine zS Ad W 2 (st' := (21, [vR 0, vI x1, vI x2, none], [.int (9:Int32), .int x1], (H0 o))) rfl ?_
    rcases em (x1 = (9:Int32)) with hc263 | hc263
    ·refine zF Ad W (t := 28) (f := 24) rfl (XT.ii_ne_f hc263) ?_
     refine zS Ad W 2 (st' := (29, [vR 0, vI x1, vI x2, none], [.int (1:Int32)], (H0 o))) rfl ?_
     exact zM [tt,tt,tt,ff] (K261 _ ((if_neg hc262).trans (if_pos hc263)).symm)
    ·refine zT Ad W (t := 28) (f := 24) rfl (XT.ii_ne_t hc263) ?_
     refine zS Ad W 1 (st' := (29, [vR 0, vI x1, vI x2, none], [.int (0:Int32)], (H0 o))) rfl ?_
     exact zM [tt,tt,tt,ff] (K261 _ ((if_neg hc262).trans (if_neg hc263)).symm)
/-- countBelow(IIII)I -/
def F26 (x0 : Int32) (x1 : Int32) (x2 : Int32) (x3 : Int32) : Option (Int32) :=
 some (if x3 < x0 then ((if x2 < x0 then ((if x1 < x0 then ((0:Int32) + (1:Int32)) else (0:Int32)) + (1:Int32)) else (if x1 < x0 then ((0:Int32) + (1:Int32)) else (0:Int32))) + (1:Int32)) else (if x2 < x0 then ((if x1 < x0 then ((0:Int32) + (1:Int32)) else (0:Int32)) + (1:Int32)) else (if x1 < x0 then ((0:Int32) + (1:Int32)) else (0:Int32))))
theorem tF26 (Ad : QAd n0 ad) (W : QW Z a0) {σ : QHeap} (x0 : Int32) (x1 : Int32) (x2 : Int32) (x3 : Int32) {r : Int32} (h : F26 x0 x1 x2 x3 = some r) : QTri l Z n0 ad 26 (0, qentry [.int x0, .int x1, .int x2, .int x3] (pMaxL 26), [], σ) (some (Value.int r)) σ := by
 unfold F26 at h
 refine zS Ad W 4 (st' := (5, [vI x0, vI x1, vI x2, vI x3, vI (0:Int32)], [.int x0, .int x1], σ)) rfl ?_
 have K278 : ∀ z277 : Int32, z277 = (if x1 < x0 then ((0:Int32) + (1:Int32)) else (0:Int32)) → QTri l Z n0 ad 26 (11, [vI x0, none, vI x2, vI x3, vI z277], [], σ) (some (Value.int r)) σ := by
  intro z277 ez277
  subst ez277
  refine zS Ad W 2 (st' := (13, [vI x0, none, vI x2, vI x3, vI (if x1 < x0 then ((0:Int32) + (1:Int32)) else (0:Int32))], [.int x0, .int x2], σ)) rfl ?_
  have K281 : ∀ z280 : Int32, z280 = (if x2 < x0 then ((if x1 < x0 then ((0:Int32) + (1:Int32)) else (0:Int32)) + (1:Int32)) else (if x1 < x0 then ((0:Int32) + (1:Int32)) else (0:Int32))) → QTri l Z n0 ad 26 (19, [vI x0, none, none, vI x3, vI z280], [], σ) (some (Value.int r)) σ := by
   intro z280 ez280
   subst ez280
   refine zS Ad W 2 (st' := (21, [vI x0, none, none, vI x3, vI (if x2 < x0 then ((if x1 < x0 then ((0:Int32) + (1:Int32)) else (0:Int32)) + (1:Int32)) else (if x1 < x0 then ((0:Int32) + (1:Int32)) else (0:Int32)))], [.int x0, .int x3], σ)) rfl ?_
   have K284 : ∀ z283 : Int32, z283 = (if x3 < x0 then ((if x2 < x0 then ((if x1 < x0 then ((0:Int32) + (1:Int32)) else (0:Int32)) + (1:Int32)) else (if x1 < x0 then ((0:Int32) + (1:Int32)) else (0:Int32))) + (1:Int32)) else (if x2 < x0 then ((if x1 < x0 then ((0:Int32) + (1:Int32)) else (0:Int32)) + (1:Int32)) else (if x1 < x0 then ((0:Int32) + (1:Int32)) else (0:Int32)))) → QTri l Z n0 ad 26 (27, [none, none, none, none, vI z283], [], σ) (some (Value.int r)) σ := by
    intro z283 ez283
    subst ez283
    refine zS Ad W 1 (st' := (29, [none, none, none, none, vI (if x3 < x0 then ((if x2 < x0 then ((if x1 < x0 then ((0:Int32) + (1:Int32)) else (0:Int32)) + (1:Int32)) else (if x1 < x0 then ((0:Int32) + (1:Int32)) else (0:Int32))) + (1:Int32)) else (if x2 < x0 then ((if x1 < x0 then ((0:Int32) + (1:Int32)) else (0:Int32)) + (1:Int32)) else (if x1 < x0 then ((0:Int32) + (1:Int32)) else (0:Int32))))], [.int (if x3 < x0 then ((if x2 < x0 then ((if x1 < x0 then ((0:Int32) + (1:Int32)) else (0:Int32)) + (1:Int32)) else (if x1 < x0 then ((0:Int32) + (1:Int32)) else (0:Int32))) + (1:Int32)) else (if x2 < x0 then ((if x1 < x0 then ((0:Int32) + (1:Int32)) else (0:Int32)) + (1:Int32)) else (if x1 < x0 then ((0:Int32) + (1:Int32)) else (0:Int32))))], σ)) rfl ?_
    obtain rfl := Option.some.inj h
    exact QTri.retI rfl rfl
   rcases em (x3 < x0) with hc285 | hc285
   ·refine zF Ad W (t := 27) (f := 24) rfl (XT.ii_ge_f hc285) ?_
    refine zS Ad W 1 (st' := (27, [vI x0, none, none, vI x3, vI ((if x2 < x0 then ((if x1 < x0 then ((0:Int32) + (1:Int32)) else (0:Int32)) + (1:Int32)) else (if x1 < x0 then ((0:Int32) + (1:Int32)) else (0:Int32))) + (1:Int32))], [], σ)) rfl ?_
    exact zM [ff,ff,ff,ff,tt] (K284 _ (if_pos hc285).symm)
   ·refine zT Ad W (t := 27) (f := 24) rfl (XT.ii_ge_t hc285) ?_
    exact zM [ff,ff,ff,ff,tt] (K284 _ (if_neg hc285).symm)
  rcases em (x2 < x0) with hc282 | hc282
  ·refine zF Ad W (t := 19) (f := 16) rfl (XT.ii_ge_f hc282) ?_
   refine zS Ad W 1 (st' := (19, [vI x0, none, vI x2, vI x3, vI ((if x1 < x0 then ((0:Int32) + (1:Int32)) else (0:Int32)) + (1:Int32))], [], σ)) rfl ?_
   exact zM [tt,ff,ff,tt,tt] (K281 _ (if_pos hc282).symm)
  ·refine zT Ad W (t := 19) (f := 16) rfl (XT.ii_ge_t hc282) ?_
   exact zM [tt,ff,ff,tt,tt] (K281 _ (if_neg hc282).symm)
 rcases em (x1 < x0) with hc279 | hc279
 ·refine zF Ad W (t := 11) (f := 8) rfl (XT.ii_ge_f hc279) ?_
  refine zS Ad W 1 (st' := (11, [vI x0, vI x1, vI x2, vI x3, vI ((0:Int32) + (1:Int32))], [], σ)) rfl ?_
  exact zM [tt,ff,tt,tt,tt] (K278 _ (if_pos hc279).symm)
 ·refine zT Ad W (t := 11) (f := 8) rfl (XT.ii_ge_t hc279) ?_
  exact zM [tt,ff,tt,tt,tt] (K278 _ (if_neg hc279).symm)
/-- the law -/
def F0 (x0 : Int32) (x1 : Int32) (x2 : Int32) (x3 : Int32) (x4 : Int32) (x5 : Int32) : Option (Int32 × QHeap) :=
 (F1 (8:Int32)).bind fun r11 => (F3 r11 (0:Int32) x0 x3 (0:Int32)).bind fun r26 => (if r26.1 = (0:Int32) then (F3 r26.2 (0:Int32) x1 x4 (0:Int32)).bind fun r28 => (if r28.1 = (1:Int32) then (F3 r28.2 (0:Int32) x2 x5 (0:Int32)).bind fun r30 => (if r30.1 = (2:Int32) then (F4 r30.2).bind fun r206 => (if r206.1 = (0:Int32) then (F18 x0 x0 x1 x2 x3 x4 x5).bind fun r217 => (F18 x1 x0 x1 x2 x3 x4 x5).bind fun r218 => (F18 x2 x0 x1 x2 x3 x4 x5).bind fun r219 => (F19 x0 x0 x1 x2).bind fun r229 => (F19 x1 x0 x1 x2).bind fun r230 => (F19 x2 x0 x1 x2).bind fun r231 => (F20 r206.2 (0:Int32) r217 r229).bind fun r252 => (if r252 = (0:Int32) then some ((0:Int32), (H0 r206.2)) else (F20 r206.2 (1:Int32) r218 r230).bind fun r254 => (if r254 = (0:Int32) then some ((0:Int32), (H0 r206.2)) else (F20 r206.2 (2:Int32) r219 r231).bind fun r256 => (if r256 = (0:Int32) then some ((0:Int32), (H0 r206.2)) else (F24 r206.2 (6:Int32) (0:Int32)).bind fun r270 => (if r270.1 = (0:Int32) then some ((0:Int32), (H0 r270.2)) else (F4 r270.2).bind fun r272 => (if r272.1 = (0:Int32) then (F21 r272.2 (0:Int32)).bind fun r274 => (F21 r272.2 (1:Int32)).bind fun r275 => (F21 r272.2 (2:Int32)).bind fun r276 => (F26 x0 x0 x1 x2).bind fun r286 => (F26 x1 x0 x1 x2).bind fun r287 => (F26 x2 x0 x1 x2).bind fun r288 => (if r274 = (((1:Int32) + r286).toInt64) then (if r275 = (((1:Int32) + r287).toInt64) then (if r276 = (((1:Int32) + r288).toInt64) then some ((1:Int32), (H0 r272.2)) else some ((0:Int32), (H0 r272.2))) else some ((0:Int32), (H0 r272.2))) else some ((0:Int32), (H0 r272.2))) else some ((0:Int32), (H0 r272.2))))))) else some ((0:Int32), (H0 r206.2))) else some ((0:Int32), (H0 r30.2))) else some ((0:Int32), (H0 r28.2))) else some ((0:Int32), (H0 r26.2)))
theorem tF0 (Ad : QAd n0 ad) (W : QW Z a0) (x0 : Int32) (x1 : Int32) (x2 : Int32) (x3 : Int32) (x4 : Int32) (x5 : Int32) {r : Int32 × QHeap} (h : F0 x0 x1 x2 x3 x4 x5 = some r) : QTri l Z n0 ad 0 (0, qentry [.int x0, .int x1, .int x2, .int x3, .int x4, .int x5] (pMaxL 0), [], []) (some (Value.int r.1)) r.2 := by
 unfold F0 at h
 refine zS Ad W 1 (st' := (3, [vI x0, vI x1, vI x2, vI x3, vI x4, vI x5, none, none, none, none, none, none, none, none, none, none, none, none, none, none, none, none, none, none, none], [.ref 0], [.inl [.null, .null, .null, .null, .null, .null, .null, .null, .int (f_cap ob0), .int (f_rows ob0), .int (f_direction ob0), .int (f_nulls ob0), .int (f_mode ob0), .int (f_startKind ob0), .int (f_startOff ob0), .int (f_endKind ob0), .int (f_endOff ob0), .int (f_fn ob0), .int (f_fnArg ob0), .int (f_computed ob0), .int (f_sortedLen ob0), .int (f_curPos ob0), .long (f_aggSum ob0), .int (f_aggCount ob0), .int (f_aggRows ob0), .int (f_aggMin ob0), .int (f_aggMax ob0)]])) rfl ?_
 refine zS Ad W 2 (st' := (6, [vI x0, vI x1, vI x2, vI x3, vI x4, vI x5, none, none, none, none, none, none, none, none, none, none, none, none, none, none, none, none, none, none, none], [.int (8:Int32), .ref 0, .ref 0], [.inl [.null, .null, .null, .null, .null, .null, .null, .null, .int (f_cap ob0), .int (f_rows ob0), .int (f_direction ob0), .int (f_nulls ob0), .int (f_mode ob0), .int (f_startKind ob0), .int (f_startOff ob0), .int (f_endKind ob0), .int (f_endOff ob0), .int (f_fn ob0), .int (f_fnArg ob0), .int (f_computed ob0), .int (f_sortedLen ob0), .int (f_curPos ob0), .long (f_aggSum ob0), .int (f_aggCount ob0), .int (f_aggRows ob0), .int (f_aggMin ob0), .int (f_aggMax ob0)]])) rfl ?_
 obtain ⟨r11, hr11, h⟩ := bind_eq_some_iff.mp h
 refine QTri.callI W (a := 0) (as := [.int (8:Int32)]) (rest := [.ref 0]) (σ₁ := (H0 r11)) rfl rfl rfl rfl rfl rfl (tF1 Ad W (8:Int32) hr11) ?_
 refine zS Ad W 6 (st' := (17, [vI x0, vI x1, vI x2, vI x3, vI x4, vI x5, vR 0, none, none, none, none, none, none, none, none, none, none, none, none, none, none, none, none, none, none], [.int (0:Int32), .int x3, .int x0, .int (0:Int32), .ref 0], (H0 r11))) rfl ?_
 obtain ⟨r26, hr26, h⟩ := bind_eq_some_iff.mp h
 refine QTri.callV W (a := 0) (as := [.int (0:Int32), .int x0, .int x3, .int (0:Int32)]) (rest := []) (w := (some (.int r26.1))) (σ₁ := (H0 r26.2)) rfl rfl rfl rfl rfl rfl rfl rfl (tF3 Ad W r11 (0:Int32) x0 x3 (0:Int32) hr26) ?_
 rcases qite h with ⟨hc27, h⟩ | ⟨hc27, h⟩
 ·refine zT Ad W (t := 25) (f := 23) rfl (XT.i0_eq_t hc27) ?_
  refine zS Ad W 5 (st' := (32, [vI x0, vI x1, vI x2, vI x3, vI x4, vI x5, vR 0, none, none, none, none, none, none, none, none, none, none, none, none, none, none, none, none, none, none], [.int (0:Int32), .int x4, .int x1, .int (0:Int32), .ref 0], (H0 r26.2))) rfl ?_
  obtain ⟨r28, hr28, h⟩ := bind_eq_some_iff.mp h
  refine QTri.callV W (a := 0) (as := [.int (0:Int32), .int x1, .int x4, .int (0:Int32)]) (rest := []) (w := (some (.int r28.1))) (σ₁ := (H0 r28.2)) rfl rfl rfl rfl rfl rfl rfl rfl (tF3 Ad W r26.2 (0:Int32) x1 x4 (0:Int32) hr28) ?_
  refine zS Ad W 1 (st' := (36, [vI x0, vI x1, vI x2, vI x3, vI x4, vI x5, vR 0, none, none, none, none, none, none, none, none, none, none, none, none, none, none, none, none, none, none], [.int (1:Int32), .int r28.1], (H0 r28.2))) rfl ?_
  rcases qite h with ⟨hc29, h⟩ | ⟨hc29, h⟩
  ·refine zT Ad W (t := 41) (f := 39) rfl (XT.ii_eq_t hc29) ?_
   refine zS Ad W 5 (st' := (48, [vI x0, vI x1, vI x2, vI x3, vI x4, vI x5, vR 0, none, none, none, none, none, none, none, none, none, none, none, none, none, none, none, none, none, none], [.int (0:Int32), .int x5, .int x2, .int (0:Int32), .ref 0], (H0 r28.2))) rfl ?_
   obtain ⟨r30, hr30, h⟩ := bind_eq_some_iff.mp h
   refine QTri.callV W (a := 0) (as := [.int (0:Int32), .int x2, .int x5, .int (0:Int32)]) (rest := []) (w := (some (.int r30.1))) (σ₁ := (H0 r30.2)) rfl rfl rfl rfl rfl rfl rfl rfl (tF3 Ad W r28.2 (0:Int32) x2 x5 (0:Int32) hr30) ?_
   refine zS Ad W 1 (st' := (52, [vI x0, vI x1, vI x2, vI x3, vI x4, vI x5, vR 0, none, none, none, none, none, none, none, none, none, none, none, none, none, none, none, none, none, none], [.int (2:Int32), .int r30.1], (H0 r30.2))) rfl ?_
   rcases qite h with ⟨hc31, h⟩ | ⟨hc31, h⟩
   ·refine zT Ad W (t := 57) (f := 55) rfl (XT.ii_eq_t hc31) ?_
    refine zS Ad W 1 (st' := (59, [vI x0, vI x1, vI x2, vI x3, vI x4, vI x5, vR 0, none, none, none, none, none, none, none, none, none, none, none, none, none, none, none, none, none, none], [.ref 0], (H0 r30.2))) rfl ?_
    obtain ⟨r206, hr206, h⟩ := bind_eq_some_iff.mp h
    refine QTri.callV W (a := 0) (as := []) (rest := []) (w := (some (.int r206.1))) (σ₁ := (H0 r206.2)) rfl rfl rfl rfl rfl rfl rfl rfl (tF4 Ad W r30.2 hr206) ?_
    rcases qite h with ⟨hc207, h⟩ | ⟨hc207, h⟩
    ·refine zT Ad W (t := 67) (f := 65) rfl (XT.i0_eq_t hc207) ?_
     refine zS Ad W 7 (st' := (76, [vI x0, vI x1, vI x2, vI x3, vI x4, vI x5, vR 0, none, none, none, none, none, none, none, none, none, none, none, none, none, none, none, none, none, none], [.int x5, .int x4, .int x3, .int x2, .int x1, .int x0, .int x0], (H0 r206.2))) rfl ?_
     obtain ⟨r217, hr217, h⟩ := bind_eq_some_iff.mp h
     refine QTri.callS W (as := [.int x0, .int x0, .int x1, .int x2, .int x3, .int x4, .int x5]) (rest := []) (w := (some (.long r217))) (σ₁ := (H0 r206.2)) rfl rfl rfl rfl rfl rfl rfl (tF18 Ad W x0 x0 x1 x2 x3 x4 x5 hr217) ?_
     refine zS Ad W 8 (st' := (90, [vI x0, vI x1, vI x2, vI x3, vI x4, vI x5, vR 0, vL r217, none, none, none, none, none, none, none, none, none, none, none, none, none, none, none, none, none], [.int x5, .int x4, .int x3, .int x2, .int x1, .int x0, .int x1], (H0 r206.2))) rfl ?_
     obtain ⟨r218, hr218, h⟩ := bind_eq_some_iff.mp h
     refine QTri.callS W (as := [.int x1, .int x0, .int x1, .int x2, .int x3, .int x4, .int x5]) (rest := []) (w := (some (.long r218))) (σ₁ := (H0 r206.2)) rfl rfl rfl rfl rfl rfl rfl (tF18 Ad W x1 x0 x1 x2 x3 x4 x5 hr218) ?_
     refine zS Ad W 8 (st' := (104, [vI x0, vI x1, vI x2, vI x3, vI x4, vI x5, vR 0, vL r217, none, vL r218, none, none, none, none, none, none, none, none, none, none, none, none, none, none, none], [.int x5, .int x4, .int x3, .int x2, .int x1, .int x0, .int x2], (H0 r206.2))) rfl ?_
     obtain ⟨r219, hr219, h⟩ := bind_eq_some_iff.mp h
     refine QTri.callS W (as := [.int x2, .int x0, .int x1, .int x2, .int x3, .int x4, .int x5]) (rest := []) (w := (some (.long r219))) (σ₁ := (H0 r206.2)) rfl rfl rfl rfl rfl rfl rfl (tF18 Ad W x2 x0 x1 x2 x3 x4 x5 hr219) ?_
     refine zS Ad W 5 (st' := (113, [vI x0, vI x1, vI x2, vI x3, vI x4, vI x5, vR 0, vL r217, none, vL r218, none, vL r219, none, none, none, none, none, none, none, none, none, none, none, none, none], [.int x2, .int x1, .int x0, .int x0], (H0 r206.2))) rfl ?_
     obtain ⟨r229, hr229, h⟩ := bind_eq_some_iff.mp h
     refine QTri.callS W (as := [.int x0, .int x0, .int x1, .int x2]) (rest := []) (w := (some (.int r229))) (σ₁ := (H0 r206.2)) rfl rfl rfl rfl rfl rfl rfl (tF19 Ad W x0 x0 x1 x2 hr229) ?_
     refine zS Ad W 5 (st' := (122, [vI x0, vI x1, vI x2, vI x3, vI x4, vI x5, vR 0, vL r217, none, vL r218, none, vL r219, none, vI r229, none, none, none, none, none, none, none, none, none, none, none], [.int x2, .int x1, .int x0, .int x1], (H0 r206.2))) rfl ?_
     obtain ⟨r230, hr230, h⟩ := bind_eq_some_iff.mp h
     refine QTri.callS W (as := [.int x1, .int x0, .int x1, .int x2]) (rest := []) (w := (some (.int r230))) (σ₁ := (H0 r206.2)) rfl rfl rfl rfl rfl rfl rfl (tF19 Ad W x1 x0 x1 x2 hr230) ?_
     refine zS Ad W 5 (st' := (131, [vI x0, vI x1, vI x2, vI x3, vI x4, vI x5, vR 0, vL r217, none, vL r218, none, vL r219, none, vI r229, vI r230, none, none, none, none, none, none, none, none, none, none], [.int x2, .int x1, .int x0, .int x2], (H0 r206.2))) rfl ?_
     obtain ⟨r231, hr231, h⟩ := bind_eq_some_iff.mp h
     refine QTri.callS W (as := [.int x2, .int x0, .int x1, .int x2]) (rest := []) (w := (some (.int r231))) (σ₁ := (H0 r206.2)) rfl rfl rfl rfl rfl rfl rfl (tF19 Ad W x2 x0 x1 x2 hr231) ?_
     refine zS Ad W 5 (st' := (143, [vI x0, vI x1, vI x2, vI x3, vI x4, vI x5, vR 0, vL r217, none, vL r218, none, vL r219, none, vI r229, vI r230, vI r231, none, none, none, none, none, none, none, none, none], [.int r229, .long r217, .int (0:Int32), .ref 0], (H0 r206.2))) rfl ?_
     obtain ⟨r252, hr252, h⟩ := bind_eq_some_iff.mp h
     refine QTri.callS W (as := [.ref 0, .int (0:Int32), .long r217, .int r229]) (rest := []) (w := (some (.int r252))) (σ₁ := (H0 r206.2)) rfl rfl rfl rfl rfl rfl rfl (tF20 Ad W r206.2 (0:Int32) r217 r229 hr252) ?_
     rcases qite h with ⟨hc253, h⟩ | ⟨hc253, h⟩
     ·refine zF Ad W (t := 151) (f := 149) rfl (XT.i0_ne_f hc253) ?_
      refine zS Ad W 1 (st' := (150, [vI x0, vI x1, vI x2, vI x3, vI x4, vI x5, vR 0, vL r217, none, vL r218, none, vL r219, none, vI r229, vI r230, vI r231, none, none, none, none, none, none, none, none, none], [.int (0:Int32)], (H0 r206.2))) rfl ?_
      obtain rfl := Option.some.inj h
      exact QTri.retZ rfl rfl
     ·refine zT Ad W (t := 151) (f := 149) rfl (XT.i0_ne_t hc253) ?_
      refine zS Ad W 4 (st' := (158, [vI x0, vI x1, vI x2, vI x3, vI x4, vI x5, vR 0, vL r217, none, vL r218, none, vL r219, none, vI r229, vI r230, vI r231, none, none, none, none, none, none, none, none, none], [.int r230, .long r218, .int (1:Int32), .ref 0], (H0 r206.2))) rfl ?_
      obtain ⟨r254, hr254, h⟩ := bind_eq_some_iff.mp h
      refine QTri.callS W (as := [.ref 0, .int (1:Int32), .long r218, .int r230]) (rest := []) (w := (some (.int r254))) (σ₁ := (H0 r206.2)) rfl rfl rfl rfl rfl rfl rfl (tF20 Ad W r206.2 (1:Int32) r218 r230 hr254) ?_
      rcases qite h with ⟨hc255, h⟩ | ⟨hc255, h⟩
      ·refine zF Ad W (t := 166) (f := 164) rfl (XT.i0_ne_f hc255) ?_
       refine zS Ad W 1 (st' := (165, [vI x0, vI x1, vI x2, vI x3, vI x4, vI x5, vR 0, vL r217, none, vL r218, none, vL r219, none, vI r229, vI r230, vI r231, none, none, none, none, none, none, none, none, none], [.int (0:Int32)], (H0 r206.2))) rfl ?_
       obtain rfl := Option.some.inj h
       exact QTri.retZ rfl rfl
      ·refine zT Ad W (t := 166) (f := 164) rfl (XT.i0_ne_t hc255) ?_
       refine zS Ad W 4 (st' := (173, [vI x0, vI x1, vI x2, vI x3, vI x4, vI x5, vR 0, vL r217, none, vL r218, none, vL r219, none, vI r229, vI r230, vI r231, none, none, none, none, none, none, none, none, none], [.int r231, .long r219, .int (2:Int32), .ref 0], (H0 r206.2))) rfl ?_
       obtain ⟨r256, hr256, h⟩ := bind_eq_some_iff.mp h
       refine QTri.callS W (as := [.ref 0, .int (2:Int32), .long r219, .int r231]) (rest := []) (w := (some (.int r256))) (σ₁ := (H0 r206.2)) rfl rfl rfl rfl rfl rfl rfl (tF20 Ad W r206.2 (2:Int32) r219 r231 hr256) ?_
       rcases qite h with ⟨hc257, h⟩ | ⟨hc257, h⟩
       ·refine zF Ad W (t := 181) (f := 179) rfl (XT.i0_ne_f hc257) ?_
        refine zS Ad W 1 (st' := (180, [vI x0, vI x1, vI x2, vI x3, vI x4, vI x5, vR 0, vL r217, none, vL r218, none, vL r219, none, vI r229, vI r230, vI r231, none, none, none, none, none, none, none, none, none], [.int (0:Int32)], (H0 r206.2))) rfl ?_
        obtain rfl := Option.some.inj h
        exact QTri.retZ rfl rfl
       ·refine zT Ad W (t := 181) (f := 179) rfl (XT.i0_ne_t hc257) ?_
        refine zS Ad W 3 (st' := (186, [vI x0, vI x1, vI x2, vI x3, vI x4, vI x5, vR 0, vL r217, none, vL r218, none, vL r219, none, vI r229, vI r230, vI r231, none, none, none, none, none, none, none, none, none], [.int (0:Int32), .int (6:Int32), .ref 0], (H0 r206.2))) rfl ?_
        obtain ⟨r270, hr270, h⟩ := bind_eq_some_iff.mp h
        refine QTri.callV W (a := 0) (as := [.int (6:Int32), .int (0:Int32)]) (rest := []) (w := (some (.int r270.1))) (σ₁ := (H0 r270.2)) rfl rfl rfl rfl rfl rfl rfl rfl (tF24 Ad W r206.2 (6:Int32) (0:Int32) hr270) ?_
        rcases qite h with ⟨hc271, h⟩ | ⟨hc271, h⟩
        ·refine zF Ad W (t := 194) (f := 192) rfl (XT.i0_ne_f hc271) ?_
         refine zS Ad W 1 (st' := (193, [vI x0, vI x1, vI x2, vI x3, vI x4, vI x5, vR 0, vL r217, none, vL r218, none, vL r219, none, vI r229, vI r230, vI r231, none, none, none, none, none, none, none, none, none], [.int (0:Int32)], (H0 r270.2))) rfl ?_
         obtain rfl := Option.some.inj h
         exact QTri.retZ rfl rfl
        ·refine zT Ad W (t := 194) (f := 192) rfl (XT.i0_ne_t hc271) ?_
         refine zS Ad W 1 (st' := (196, [vI x0, vI x1, vI x2, vI x3, vI x4, vI x5, vR 0, vL r217, none, vL r218, none, vL r219, none, vI r229, vI r230, vI r231, none, none, none, none, none, none, none, none, none], [.ref 0], (H0 r270.2))) rfl ?_
         obtain ⟨r272, hr272, h⟩ := bind_eq_some_iff.mp h
         refine QTri.callV W (a := 0) (as := []) (rest := []) (w := (some (.int r272.1))) (σ₁ := (H0 r272.2)) rfl rfl rfl rfl rfl rfl rfl rfl (tF4 Ad W r270.2 hr272) ?_
         rcases qite h with ⟨hc273, h⟩ | ⟨hc273, h⟩
         ·refine zT Ad W (t := 204) (f := 202) rfl (XT.i0_eq_t hc273) ?_
          refine zS Ad W 2 (st' := (207, [vI x0, vI x1, vI x2, vI x3, vI x4, vI x5, vR 0, vL r217, none, vL r218, none, vL r219, none, vI r229, vI r230, vI r231, none, none, none, none, none, none, none, none, none], [.int (0:Int32), .ref 0], (H0 r272.2))) rfl ?_
          obtain ⟨r274, hr274, h⟩ := bind_eq_some_iff.mp h
          refine QTri.callV W (a := 0) (as := [.int (0:Int32)]) (rest := []) (w := (some (.long r274))) (σ₁ := (H0 r272.2)) rfl rfl rfl rfl rfl rfl rfl rfl (tF21 Ad W r272.2 (0:Int32) hr274) ?_
          refine zS Ad W 3 (st' := (215, [vI x0, vI x1, vI x2, vI x3, vI x4, vI x5, vR 0, vL r217, none, vL r218, none, vL r219, none, vI r229, vI r230, vI r231, vL r274, none, none, none, none, none, none, none, none], [.int (1:Int32), .ref 0], (H0 r272.2))) rfl ?_
          obtain ⟨r275, hr275, h⟩ := bind_eq_some_iff.mp h
          refine QTri.callV W (a := 0) (as := [.int (1:Int32)]) (rest := []) (w := (some (.long r275))) (σ₁ := (H0 r272.2)) rfl rfl rfl rfl rfl rfl rfl rfl (tF21 Ad W r272.2 (1:Int32) hr275) ?_
          refine zS Ad W 3 (st' := (223, [vI x0, vI x1, vI x2, vI x3, vI x4, vI x5, vR 0, vL r217, none, vL r218, none, vL r219, none, vI r229, vI r230, vI r231, vL r274, none, vL r275, none, none, none, none, none, none], [.int (2:Int32), .ref 0], (H0 r272.2))) rfl ?_
          obtain ⟨r276, hr276, h⟩ := bind_eq_some_iff.mp h
          refine QTri.callV W (a := 0) (as := [.int (2:Int32)]) (rest := []) (w := (some (.long r276))) (σ₁ := (H0 r272.2)) rfl rfl rfl rfl rfl rfl rfl rfl (tF21 Ad W r272.2 (2:Int32) hr276) ?_
          refine zS Ad W 6 (st' := (233, [vI x0, vI x1, vI x2, vI x3, vI x4, vI x5, vR 0, vL r217, none, vL r218, none, vL r219, none, vI r229, vI r230, vI r231, vL r274, none, vL r275, none, vL r276, none, none, none, none], [.int x2, .int x1, .int x0, .int x0, .int (1:Int32)], (H0 r272.2))) rfl ?_
          obtain ⟨r286, hr286, h⟩ := bind_eq_some_iff.mp h
          refine QTri.callS W (as := [.int x0, .int x0, .int x1, .int x2]) (rest := [.int (1:Int32)]) (w := (some (.int r286))) (σ₁ := (H0 r272.2)) rfl rfl rfl rfl rfl rfl rfl (tF26 Ad W x0 x0 x1 x2 hr286) ?_
          refine zS Ad W 7 (st' := (244, [vI x0, vI x1, vI x2, vI x3, vI x4, vI x5, vR 0, vL r217, none, vL r218, none, vL r219, none, vI r229, vI r230, vI r231, vL r274, none, vL r275, none, vL r276, none, vI ((1:Int32) + r286), none, none], [.int x2, .int x1, .int x0, .int x1, .int (1:Int32)], (H0 r272.2))) rfl ?_
          obtain ⟨r287, hr287, h⟩ := bind_eq_some_iff.mp h
          refine QTri.callS W (as := [.int x1, .int x0, .int x1, .int x2]) (rest := [.int (1:Int32)]) (w := (some (.int r287))) (σ₁ := (H0 r272.2)) rfl rfl rfl rfl rfl rfl rfl (tF26 Ad W x1 x0 x1 x2 hr287) ?_
          refine zS Ad W 7 (st' := (255, [vI x0, vI x1, vI x2, vI x3, vI x4, vI x5, vR 0, vL r217, none, vL r218, none, vL r219, none, vI r229, vI r230, vI r231, vL r274, none, vL r275, none, vL r276, none, vI ((1:Int32) + r286), vI ((1:Int32) + r287), none], [.int x2, .int x1, .int x0, .int x2, .int (1:Int32)], (H0 r272.2))) rfl ?_
          obtain ⟨r288, hr288, h⟩ := bind_eq_some_iff.mp h
          refine QTri.callS W (as := [.int x2, .int x0, .int x1, .int x2]) (rest := [.int (1:Int32)]) (w := (some (.int r288))) (σ₁ := (H0 r272.2)) rfl rfl rfl rfl rfl rfl rfl (tF26 Ad W x2 x0 x1 x2 hr288) ?_
          refine zS Ad W 6 (st' := (267, [vI x0, vI x1, vI x2, vI x3, vI x4, vI x5, vR 0, vL r217, none, vL r218, none, vL r219, none, vI r229, vI r230, vI r231, vL r274, none, vL r275, none, vL r276, none, vI ((1:Int32) + r286), vI ((1:Int32) + r287), vI ((1:Int32) + r288)], [.int (XT.cmpL r274 (((1:Int32) + r286).toInt64))], (H0 r272.2))) rfl ?_
          rcases qite h with ⟨hc289, h⟩ | ⟨hc289, h⟩
          ·refine zF Ad W (t := 292) (f := 270) rfl (XT.ll_ne_f hc289) ?_
           refine zS Ad W 4 (st' := (276, [vI x0, vI x1, vI x2, vI x3, vI x4, vI x5, vR 0, vL r217, none, vL r218, none, vL r219, none, vI r229, vI r230, vI r231, vL r274, none, vL r275, none, vL r276, none, vI ((1:Int32) + r286), vI ((1:Int32) + r287), vI ((1:Int32) + r288)], [.int (XT.cmpL r275 (((1:Int32) + r287).toInt64))], (H0 r272.2))) rfl ?_
           rcases qite h with ⟨hc290, h⟩ | ⟨hc290, h⟩
           ·refine zF Ad W (t := 292) (f := 279) rfl (XT.ll_ne_f hc290) ?_
            refine zS Ad W 4 (st' := (285, [vI x0, vI x1, vI x2, vI x3, vI x4, vI x5, vR 0, vL r217, none, vL r218, none, vL r219, none, vI r229, vI r230, vI r231, vL r274, none, vL r275, none, vL r276, none, vI ((1:Int32) + r286), vI ((1:Int32) + r287), vI ((1:Int32) + r288)], [.int (XT.cmpL r276 (((1:Int32) + r288).toInt64))], (H0 r272.2))) rfl ?_
            rcases qite h with ⟨hc291, h⟩ | ⟨hc291, h⟩
            ·refine zF Ad W (t := 292) (f := 288) rfl (XT.ll_ne_f hc291) ?_
             refine zS Ad W 2 (st' := (293, [vI x0, vI x1, vI x2, vI x3, vI x4, vI x5, vR 0, vL r217, none, vL r218, none, vL r219, none, vI r229, vI r230, vI r231, vL r274, none, vL r275, none, vL r276, none, vI ((1:Int32) + r286), vI ((1:Int32) + r287), vI ((1:Int32) + r288)], [.int (1:Int32)], (H0 r272.2))) rfl ?_
             obtain rfl := Option.some.inj h
             exact QTri.retZ rfl rfl
            ·refine zT Ad W (t := 292) (f := 288) rfl (XT.ll_ne_t hc291) ?_
             refine zS Ad W 1 (st' := (293, [vI x0, vI x1, vI x2, vI x3, vI x4, vI x5, vR 0, vL r217, none, vL r218, none, vL r219, none, vI r229, vI r230, vI r231, vL r274, none, vL r275, none, vL r276, none, vI ((1:Int32) + r286), vI ((1:Int32) + r287), vI ((1:Int32) + r288)], [.int (0:Int32)], (H0 r272.2))) rfl ?_
             obtain rfl := Option.some.inj h
             exact QTri.retZ rfl rfl
           ·refine zT Ad W (t := 292) (f := 279) rfl (XT.ll_ne_t hc290) ?_
            refine zS Ad W 1 (st' := (293, [vI x0, vI x1, vI x2, vI x3, vI x4, vI x5, vR 0, vL r217, none, vL r218, none, vL r219, none, vI r229, vI r230, vI r231, vL r274, none, vL r275, none, vL r276, none, vI ((1:Int32) + r286), vI ((1:Int32) + r287), vI ((1:Int32) + r288)], [.int (0:Int32)], (H0 r272.2))) rfl ?_
            obtain rfl := Option.some.inj h
            exact QTri.retZ rfl rfl
          ·refine zT Ad W (t := 292) (f := 270) rfl (XT.ll_ne_t hc289) ?_
           refine zS Ad W 1 (st' := (293, [vI x0, vI x1, vI x2, vI x3, vI x4, vI x5, vR 0, vL r217, none, vL r218, none, vL r219, none, vI r229, vI r230, vI r231, vL r274, none, vL r275, none, vL r276, none, vI ((1:Int32) + r286), vI ((1:Int32) + r287), vI ((1:Int32) + r288)], [.int (0:Int32)], (H0 r272.2))) rfl ?_
           obtain rfl := Option.some.inj h
           exact QTri.retZ rfl rfl
         ·refine zF Ad W (t := 204) (f := 202) rfl (XT.i0_eq_f hc273) ?_
          refine zS Ad W 1 (st' := (203, [vI x0, vI x1, vI x2, vI x3, vI x4, vI x5, vR 0, vL r217, none, vL r218, none, vL r219, none, vI r229, vI r230, vI r231, none, none, none, none, none, none, none, none, none], [.int (0:Int32)], (H0 r272.2))) rfl ?_
          obtain rfl := Option.some.inj h
          exact QTri.retZ rfl rfl
    ·refine zF Ad W (t := 67) (f := 65) rfl (XT.i0_eq_f hc207) ?_
     refine zS Ad W 1 (st' := (66, [vI x0, vI x1, vI x2, vI x3, vI x4, vI x5, vR 0, none, none, none, none, none, none, none, none, none, none, none, none, none, none, none, none, none, none], [.int (0:Int32)], (H0 r206.2))) rfl ?_
     obtain rfl := Option.some.inj h
     exact QTri.retZ rfl rfl
   ·refine zF Ad W (t := 57) (f := 55) rfl (XT.ii_eq_f hc31) ?_
    refine zS Ad W 1 (st' := (56, [vI x0, vI x1, vI x2, vI x3, vI x4, vI x5, vR 0, none, none, none, none, none, none, none, none, none, none, none, none, none, none, none, none, none, none], [.int (0:Int32)], (H0 r30.2))) rfl ?_
    obtain rfl := Option.some.inj h
    exact QTri.retZ rfl rfl
  ·refine zF Ad W (t := 41) (f := 39) rfl (XT.ii_eq_f hc29) ?_
   refine zS Ad W 1 (st' := (40, [vI x0, vI x1, vI x2, vI x3, vI x4, vI x5, vR 0, none, none, none, none, none, none, none, none, none, none, none, none, none, none, none, none, none, none], [.int (0:Int32)], (H0 r28.2))) rfl ?_
   obtain rfl := Option.some.inj h
   exact QTri.retZ rfl rfl
 ·refine zF Ad W (t := 25) (f := 23) rfl (XT.i0_eq_f hc27) ?_
  refine zS Ad W 1 (st' := (24, [vI x0, vI x1, vI x2, vI x3, vI x4, vI x5, vR 0, none, none, none, none, none, none, none, none, none, none, none, none, none, none, none, none, none, none], [.int (0:Int32)], (H0 r26.2))) rfl ?_
  obtain rfl := Option.some.inj h
  exact QTri.retZ rfl rfl
end Walks
set_option maxHeartbeats 4000000
theorem i_lt {x y : Int32} : x < y ↔ x.toInt < y.toInt := Int32.lt_iff_toInt_lt
theorem i_eq {x y : Int32} : x = y ↔ x.toInt = y.toInt := Int32.toInt_inj.symm
theorem i_lo (x : Int32) : -2147483648 ≤ x.toInt := Int32.le_toInt x
theorem i_hi (x : Int32) : x.toInt < 2147483648 := Int32.toInt_lt x
theorem i_add {x y : Int32} (h1 : -2147483648 ≤ x.toInt + y.toInt) (h2 : x.toInt + y.toInt < 2147483648) : (x + y).toInt = x.toInt + y.toInt := XT.add32 ⟨h1, by omega⟩
theorem i_sub {x y : Int32} (h1 : -2147483648 ≤ x.toInt - y.toInt) (h2 : x.toInt - y.toInt < 2147483648) : (x - y).toInt = x.toInt - y.toInt := XT.sub32 ⟨h1, by omega⟩
theorem i_mul {x y : Int32} (h1 : -2147483648 ≤ x.toInt * y.toInt) (h2 : x.toInt * y.toInt < 2147483648) : (x * y).toInt = x.toInt * y.toInt := XT.mul32 ⟨h1, by omega⟩
theorem i_nat (x : Int32) : x.toNatClampNeg = x.toInt.toNat := rfl
theorem aget_at {α : Type} {xs : List α} {j : Int32} {n : Nat} (hj : j.toInt = n) (hn : n < xs.length) : aget xs j = some xs[n] := by
 have h0 : ¬ j < 0 := by rw [i_lt]; show ¬ j.toInt < 0; omega
 unfold aget
 rw [if_neg h0, i_nat, hj]
 simp [hn]
theorem aget_rep {α : Type} {m : Nat} {a : α} {j : Int32} (h0 : 0 ≤ j.toInt) (h1 : j.toInt < m) : aget (List.replicate m a) j = some a := by
 rw [aget_at (n := j.toInt.toNat) (by omega) (by rw [List.length_replicate]; omega)]
 simp
theorem aset_at {α : Type} {xs : List α} {j : Int32} {n : Nat} {v : α} (hj : j.toInt = n) (hn : n < xs.length) : aset xs j v = some (xs.set n v) := by
 have h0 : ¬ j < 0 := by rw [i_lt]; show ¬ j.toInt < 0; omega
 unfold aset
 have e : j.toNatClampNeg = n := by rw [i_nat, hj]; simp
 rw [if_neg h0, e, if_pos hn]
theorem rep_set {α : Type} (m k : Nat) (a : α) : (List.replicate m a).set k a = List.replicate m a := by
 apply List.ext_getElem (by simp)
 intro i h1 h2
 rw [List.getElem_set]
 split <;> simp
theorem small_cases {x : Int32} (h0 : 0 ≤ x.toInt) {n : Nat} (h1 : x.toInt < n) {P : Int32 → Prop} (h : ∀ m : Nat, m < n → P (Int32.ofInt m)) : P x := by
 have e : Int32.ofInt (x.toInt.toNat : Nat) = x := by
  rw [Int.toNat_of_nonneg h0, Int32.ofInt_toInt]
 rw [← e]
 exact h _ (by omega)
theorem bit_ne {x : Int32} (h0 : 0 ≤ x.toInt) (h1 : x.toInt < 32) : ¬ (((1 : Int32) <<< (x &&& 31)) &&& ((1 : Int32) <<< (x &&& 31))) = 0 :=
 small_cases (P := fun x => ¬ (((1 : Int32) <<< (x &&& 31)) &&& ((1 : Int32) <<< (x &&& 31))) = 0) h0 (n := 32) h1 (by decide)
def okP {α : Type} (m : Option α) (P : α → Prop) : Prop := ∃ a, m = some a ∧ P a
theorem okP.some {α : Type} {a : α} {P : α → Prop} (h : P a) : okP (some a) P := ⟨a, rfl, h⟩
theorem okP.bind {α β : Type} {m : Option α} {f : α → Option β} {P : β → Prop} (h : okP m fun a => okP (f a) P) : okP (m.bind f) P := by
 obtain ⟨a, e, b, e2, h2⟩ := h
 exact ⟨b, by rw [e]; exact e2, h2⟩
theorem okP.ite {α : Type} {c : Prop} [Decidable c] {a b : Option α} {P : α → Prop} (h1 : c → okP a P) (h2 : ¬ c → okP b P) : okP (if c then a else b) P := by
 by_cases h : c
 ·rw [if_pos h]; exact h1 h
 ·rw [if_neg h]; exact h2 h
theorem okP.mono {α : Type} {m : Option α} {P Q : α → Prop} (h : okP m P) (k : ∀ a, P a → Q a) : okP m Q := by
 obtain ⟨a, e, h⟩ := h
 exact ⟨a, e, k a h⟩
theorem okP.of {α : Type} {m : Option α} {a : α} {P : α → Prop} (e : m = Option.some a) (h : P a) : okP m P := ⟨a, e, h⟩
theorem okP.aget {α : Type} {xs : List α} {j : Int32} {P : α → Prop} (h0 : 0 ≤ j.toInt) (h1 : j.toInt < xs.length) (k : ∀ v, xs[j.toInt.toNat]? = Option.some v → P v) : okP (aget xs j) P :=
 ⟨_, aget_at (n := j.toInt.toNat) (by omega) (by omega), k _ (List.getElem?_eq_getElem _)⟩
theorem okP.aset {α : Type} {xs : List α} {j : Int32} {v : α} {P : List α → Prop} (h0 : 0 ≤ j.toInt) (h1 : j.toInt < xs.length) (k : P (xs.set j.toInt.toNat v)) : okP (aset xs j v) P :=
 ⟨_, aset_at (n := j.toInt.toNat) (by omega) (by omega), k⟩
theorem okP.loop {V E : Type} {B : V → Option (E ⊕ V)} {P : E → Prop} {n : Nat} {v : V} (I : V → Prop) (μ : V → Nat) (hv : I v) (hm : μ v < n) (hB : ∀ v, I v → okP (B v) (fun r => Sum.elim P (fun v' => I v' ∧ μ v' < μ v) r)) : okP (loopN B n v) P := by
 refine loopN_inv I P μ ?_ n v hv hm
 intro v hv
 obtain ⟨r, e, h⟩ := hB v hv
 cases r with
 | inl x => exact Or.inl ⟨x, e, h⟩
 | inr x => exact Or.inr ⟨x, e, h⟩
theorem len_i {n : Nat} (h : n ≤ 1000) : (n.toInt32).toInt = n := by
 have e : n.toInt32 = Int32.ofInt n := rfl
 rw [e, Int32.toInt_ofInt_of_le (by show _ ≤ (n : Int); omega) (by show (n : Int) < _; omega)]
theorem and1 (x : Int32) : x &&& 1 = 0 ∨ x &&& 1 = 1 := by
 have e : (x &&& 1).toBitVec = x.toBitVec &&& 1#32 := rfl
 have h := BitVec.and_one_eq_setWidth_ofBool_getLsbD (x := x.toBitVec)
 cases g : x.toBitVec.getLsbD 0
 ·left; apply Int32.toBitVec_inj.1; rw [e, h, g]; rfl
 ·right; apply Int32.toBitVec_inj.1; rw [e, h, g]; rfl
theorem okP.not {α : Type} {m : Option α} {a : α} {P : α → Prop} (h : okP m P) (e : m = Option.some a) : P a := by
 obtain ⟨b, e2, h⟩ := h
 rw [e] at e2
 exact (Option.some.inj e2) ▸ h
theorem and_rng {x m : Int32} (hm : 0 ≤ m.toInt) : 0 ≤ (x &&& m).toInt ∧ (x &&& m).toInt ≤ m.toInt := by
 have e : (x &&& m).toBitVec.toNat = x.toBitVec.toNat &&& m.toBitVec.toNat := BitVec.toNat_and ..
 have l : (x &&& m).toBitVec.toNat ≤ m.toBitVec.toNat := by rw [e]; exact Nat.and_le_right
 have c1 : m.toInt = if 2 * m.toBitVec.toNat < 2 ^ 32 then (m.toBitVec.toNat : Int) else m.toBitVec.toNat - (2 ^ 32 : Nat) := BitVec.toInt_eq_toNat_cond m.toBitVec
 have c2 : (x &&& m).toInt = if 2 * (x &&& m).toBitVec.toNat < 2 ^ 32 then ((x &&& m).toBitVec.toNat : Int) else (x &&& m).toBitVec.toNat - (2 ^ 32 : Nat) := BitVec.toInt_eq_toNat_cond (x &&& m).toBitVec
 have b : m.toBitVec.toNat < 2 ^ 32 := m.toBitVec.isLt
 by_cases h : 2 * m.toBitVec.toNat < 2 ^ 32
 ·rw [if_pos h] at c1
  rw [if_pos (by omega)] at c2
  omega
 ·rw [if_neg h] at c1
  omega
theorem mod_rng {x m : Int32} (hx : 0 ≤ x.toInt) (hm : 0 < m.toInt) : 0 ≤ (x % m).toInt ∧ (x % m).toInt < m.toInt := by
 rw [Int32.toInt_mod, Int.tmod_eq_emod_of_nonneg hx]
 exact ⟨Int.emod_nonneg _ (by omega), Int.emod_lt_of_pos _ hm⟩
def sFit (s : List Int32) (τ : QHeap) : Prop := τ.length - List.length ([Sum.inr (Sum.inl (FieldType.int, s))] : QHeap) ≤ room_1.cells ∧ qhs τ - qhs [Sum.inr (Sum.inl (FieldType.int, s))] ≤ room_1.slots
def Sh (c : List Int32 × List Int32 × List Int32 × List Int32 × Int32 × Int32 × Int32 × Int32 × Int32 × Int32 × Int32 × Int32 × Int32 × Int32 × Int32) (d : List Int64 × List Int32 × List Int32) (e : List Int32 × Int32 × Int32) (o : Ob) : Prop := (f_part o, f_keys o, f_vals o, f_flg o, f_rows o, f_cap o, f_direction o, f_nulls o, f_mode o, f_startKind o, f_startOff o, f_endKind o, f_endOff o, f_fn o, f_fnArg o) = c ∧ (f_res o, f_resNull o, f_frameCnt o) = d ∧ (f_sorted o, f_sortedLen o, f_curPos o) = e
theorem Sh_computed {c : List Int32 × List Int32 × List Int32 × List Int32 × Int32 × Int32 × Int32 × Int32 × Int32 × Int32 × Int32 × Int32 × Int32 × Int32 × Int32} {d : List Int64 × List Int32 × List Int32} {e : List Int32 × Int32 × Int32} {o : Ob} {x : Int32} (h : Sh c d e o) : Sh c d e (s_computed o x) := by
 dsimp only [Sh, f_part, f_keys, f_vals, f_flg, f_res, f_resNull, f_frameCnt, f_sorted, f_cap, f_rows, f_direction, f_nulls, f_mode, f_startKind, f_startOff, f_endKind, f_endOff, f_fn, f_fnArg, f_sortedLen, f_curPos, s_computed] at h ⊢
 exact h
theorem Sh_aggSum {c : List Int32 × List Int32 × List Int32 × List Int32 × Int32 × Int32 × Int32 × Int32 × Int32 × Int32 × Int32 × Int32 × Int32 × Int32 × Int32} {d : List Int64 × List Int32 × List Int32} {e : List Int32 × Int32 × Int32} {o : Ob} {x : Int64} (h : Sh c d e o) : Sh c d e (s_aggSum o x) := by
 dsimp only [Sh, f_part, f_keys, f_vals, f_flg, f_res, f_resNull, f_frameCnt, f_sorted, f_cap, f_rows, f_direction, f_nulls, f_mode, f_startKind, f_startOff, f_endKind, f_endOff, f_fn, f_fnArg, f_sortedLen, f_curPos, s_aggSum] at h ⊢
 exact h
theorem Sh_aggCount {c : List Int32 × List Int32 × List Int32 × List Int32 × Int32 × Int32 × Int32 × Int32 × Int32 × Int32 × Int32 × Int32 × Int32 × Int32 × Int32} {d : List Int64 × List Int32 × List Int32} {e : List Int32 × Int32 × Int32} {o : Ob} {x : Int32} (h : Sh c d e o) : Sh c d e (s_aggCount o x) := by
 dsimp only [Sh, f_part, f_keys, f_vals, f_flg, f_res, f_resNull, f_frameCnt, f_sorted, f_cap, f_rows, f_direction, f_nulls, f_mode, f_startKind, f_startOff, f_endKind, f_endOff, f_fn, f_fnArg, f_sortedLen, f_curPos, s_aggCount] at h ⊢
 exact h
theorem Sh_aggRows {c : List Int32 × List Int32 × List Int32 × List Int32 × Int32 × Int32 × Int32 × Int32 × Int32 × Int32 × Int32 × Int32 × Int32 × Int32 × Int32} {d : List Int64 × List Int32 × List Int32} {e : List Int32 × Int32 × Int32} {o : Ob} {x : Int32} (h : Sh c d e o) : Sh c d e (s_aggRows o x) := by
 dsimp only [Sh, f_part, f_keys, f_vals, f_flg, f_res, f_resNull, f_frameCnt, f_sorted, f_cap, f_rows, f_direction, f_nulls, f_mode, f_startKind, f_startOff, f_endKind, f_endOff, f_fn, f_fnArg, f_sortedLen, f_curPos, s_aggRows] at h ⊢
 exact h
theorem Sh_aggMin {c : List Int32 × List Int32 × List Int32 × List Int32 × Int32 × Int32 × Int32 × Int32 × Int32 × Int32 × Int32 × Int32 × Int32 × Int32 × Int32} {d : List Int64 × List Int32 × List Int32} {e : List Int32 × Int32 × Int32} {o : Ob} {x : Int32} (h : Sh c d e o) : Sh c d e (s_aggMin o x) := by
 dsimp only [Sh, f_part, f_keys, f_vals, f_flg, f_res, f_resNull, f_frameCnt, f_sorted, f_cap, f_rows, f_direction, f_nulls, f_mode, f_startKind, f_startOff, f_endKind, f_endOff, f_fn, f_fnArg, f_sortedLen, f_curPos, s_aggMin] at h ⊢
 exact h
theorem Sh_aggMax {c : List Int32 × List Int32 × List Int32 × List Int32 × Int32 × Int32 × Int32 × Int32 × Int32 × Int32 × Int32 × Int32 × Int32 × Int32 × Int32} {d : List Int64 × List Int32 × List Int32} {e : List Int32 × Int32 × Int32} {o : Ob} {x : Int32} (h : Sh c d e o) : Sh c d e (s_aggMax o x) := by
 dsimp only [Sh, f_part, f_keys, f_vals, f_flg, f_res, f_resNull, f_frameCnt, f_sorted, f_cap, f_rows, f_direction, f_nulls, f_mode, f_startKind, f_startOff, f_endKind, f_endOff, f_fn, f_fnArg, f_sortedLen, f_curPos, s_aggMax] at h ⊢
 exact h
abbrev CC := List Int32 × List Int32 × List Int32 × List Int32 × Int32 × Int32 × Int32 × Int32 × Int32 × Int32 × Int32 × Int32 × Int32 × Int32 × Int32
abbrev DD := List Int64 × List Int32 × List Int32
abbrev EE := List Int32 × Int32 × Int32
theorem gs_aggSum (o : Ob) (v : Int64) : f_part (s_aggSum o v) = f_part o ∧ f_keys (s_aggSum o v) = f_keys o ∧ f_vals (s_aggSum o v) = f_vals o ∧ f_flg (s_aggSum o v) = f_flg o ∧ f_res (s_aggSum o v) = f_res o ∧ f_resNull (s_aggSum o v) = f_resNull o ∧ f_frameCnt (s_aggSum o v) = f_frameCnt o ∧ f_sorted (s_aggSum o v) = f_sorted o ∧ f_cap (s_aggSum o v) = f_cap o ∧ f_rows (s_aggSum o v) = f_rows o ∧ f_direction (s_aggSum o v) = f_direction o ∧ f_nulls (s_aggSum o v) = f_nulls o ∧ f_mode (s_aggSum o v) = f_mode o ∧ f_startKind (s_aggSum o v) = f_startKind o ∧ f_startOff (s_aggSum o v) = f_startOff o ∧ f_endKind (s_aggSum o v) = f_endKind o ∧ f_endOff (s_aggSum o v) = f_endOff o ∧ f_fn (s_aggSum o v) = f_fn o ∧ f_fnArg (s_aggSum o v) = f_fnArg o ∧ f_computed (s_aggSum o v) = f_computed o ∧ f_sortedLen (s_aggSum o v) = f_sortedLen o ∧ f_curPos (s_aggSum o v) = f_curPos o ∧ f_aggSum (s_aggSum o v) = v ∧ f_aggCount (s_aggSum o v) = f_aggCount o ∧ f_aggRows (s_aggSum o v) = f_aggRows o ∧ f_aggMin (s_aggSum o v) = f_aggMin o ∧ f_aggMax (s_aggSum o v) = f_aggMax o := by
 simp only [f_part, f_keys, f_vals, f_flg, f_res, f_resNull, f_frameCnt, f_sorted, f_cap, f_rows, f_direction, f_nulls, f_mode, f_startKind, f_startOff, f_endKind, f_endOff, f_fn, f_fnArg, f_computed, f_sortedLen, f_curPos, f_aggSum, f_aggCount, f_aggRows, f_aggMin, f_aggMax, s_aggSum, and_self]
theorem gs_aggCount (o : Ob) (v : Int32) : f_part (s_aggCount o v) = f_part o ∧ f_keys (s_aggCount o v) = f_keys o ∧ f_vals (s_aggCount o v) = f_vals o ∧ f_flg (s_aggCount o v) = f_flg o ∧ f_res (s_aggCount o v) = f_res o ∧ f_resNull (s_aggCount o v) = f_resNull o ∧ f_frameCnt (s_aggCount o v) = f_frameCnt o ∧ f_sorted (s_aggCount o v) = f_sorted o ∧ f_cap (s_aggCount o v) = f_cap o ∧ f_rows (s_aggCount o v) = f_rows o ∧ f_direction (s_aggCount o v) = f_direction o ∧ f_nulls (s_aggCount o v) = f_nulls o ∧ f_mode (s_aggCount o v) = f_mode o ∧ f_startKind (s_aggCount o v) = f_startKind o ∧ f_startOff (s_aggCount o v) = f_startOff o ∧ f_endKind (s_aggCount o v) = f_endKind o ∧ f_endOff (s_aggCount o v) = f_endOff o ∧ f_fn (s_aggCount o v) = f_fn o ∧ f_fnArg (s_aggCount o v) = f_fnArg o ∧ f_computed (s_aggCount o v) = f_computed o ∧ f_sortedLen (s_aggCount o v) = f_sortedLen o ∧ f_curPos (s_aggCount o v) = f_curPos o ∧ f_aggSum (s_aggCount o v) = f_aggSum o ∧ f_aggCount (s_aggCount o v) = v ∧ f_aggRows (s_aggCount o v) = f_aggRows o ∧ f_aggMin (s_aggCount o v) = f_aggMin o ∧ f_aggMax (s_aggCount o v) = f_aggMax o := by
 simp only [f_part, f_keys, f_vals, f_flg, f_res, f_resNull, f_frameCnt, f_sorted, f_cap, f_rows, f_direction, f_nulls, f_mode, f_startKind, f_startOff, f_endKind, f_endOff, f_fn, f_fnArg, f_computed, f_sortedLen, f_curPos, f_aggSum, f_aggCount, f_aggRows, f_aggMin, f_aggMax, s_aggCount, and_self]
theorem gs_aggRows (o : Ob) (v : Int32) : f_part (s_aggRows o v) = f_part o ∧ f_keys (s_aggRows o v) = f_keys o ∧ f_vals (s_aggRows o v) = f_vals o ∧ f_flg (s_aggRows o v) = f_flg o ∧ f_res (s_aggRows o v) = f_res o ∧ f_resNull (s_aggRows o v) = f_resNull o ∧ f_frameCnt (s_aggRows o v) = f_frameCnt o ∧ f_sorted (s_aggRows o v) = f_sorted o ∧ f_cap (s_aggRows o v) = f_cap o ∧ f_rows (s_aggRows o v) = f_rows o ∧ f_direction (s_aggRows o v) = f_direction o ∧ f_nulls (s_aggRows o v) = f_nulls o ∧ f_mode (s_aggRows o v) = f_mode o ∧ f_startKind (s_aggRows o v) = f_startKind o ∧ f_startOff (s_aggRows o v) = f_startOff o ∧ f_endKind (s_aggRows o v) = f_endKind o ∧ f_endOff (s_aggRows o v) = f_endOff o ∧ f_fn (s_aggRows o v) = f_fn o ∧ f_fnArg (s_aggRows o v) = f_fnArg o ∧ f_computed (s_aggRows o v) = f_computed o ∧ f_sortedLen (s_aggRows o v) = f_sortedLen o ∧ f_curPos (s_aggRows o v) = f_curPos o ∧ f_aggSum (s_aggRows o v) = f_aggSum o ∧ f_aggCount (s_aggRows o v) = f_aggCount o ∧ f_aggRows (s_aggRows o v) = v ∧ f_aggMin (s_aggRows o v) = f_aggMin o ∧ f_aggMax (s_aggRows o v) = f_aggMax o := by
 simp only [f_part, f_keys, f_vals, f_flg, f_res, f_resNull, f_frameCnt, f_sorted, f_cap, f_rows, f_direction, f_nulls, f_mode, f_startKind, f_startOff, f_endKind, f_endOff, f_fn, f_fnArg, f_computed, f_sortedLen, f_curPos, f_aggSum, f_aggCount, f_aggRows, f_aggMin, f_aggMax, s_aggRows, and_self]
theorem gs_aggMin (o : Ob) (v : Int32) : f_part (s_aggMin o v) = f_part o ∧ f_keys (s_aggMin o v) = f_keys o ∧ f_vals (s_aggMin o v) = f_vals o ∧ f_flg (s_aggMin o v) = f_flg o ∧ f_res (s_aggMin o v) = f_res o ∧ f_resNull (s_aggMin o v) = f_resNull o ∧ f_frameCnt (s_aggMin o v) = f_frameCnt o ∧ f_sorted (s_aggMin o v) = f_sorted o ∧ f_cap (s_aggMin o v) = f_cap o ∧ f_rows (s_aggMin o v) = f_rows o ∧ f_direction (s_aggMin o v) = f_direction o ∧ f_nulls (s_aggMin o v) = f_nulls o ∧ f_mode (s_aggMin o v) = f_mode o ∧ f_startKind (s_aggMin o v) = f_startKind o ∧ f_startOff (s_aggMin o v) = f_startOff o ∧ f_endKind (s_aggMin o v) = f_endKind o ∧ f_endOff (s_aggMin o v) = f_endOff o ∧ f_fn (s_aggMin o v) = f_fn o ∧ f_fnArg (s_aggMin o v) = f_fnArg o ∧ f_computed (s_aggMin o v) = f_computed o ∧ f_sortedLen (s_aggMin o v) = f_sortedLen o ∧ f_curPos (s_aggMin o v) = f_curPos o ∧ f_aggSum (s_aggMin o v) = f_aggSum o ∧ f_aggCount (s_aggMin o v) = f_aggCount o ∧ f_aggRows (s_aggMin o v) = f_aggRows o ∧ f_aggMin (s_aggMin o v) = v ∧ f_aggMax (s_aggMin o v) = f_aggMax o := by
 simp only [f_part, f_keys, f_vals, f_flg, f_res, f_resNull, f_frameCnt, f_sorted, f_cap, f_rows, f_direction, f_nulls, f_mode, f_startKind, f_startOff, f_endKind, f_endOff, f_fn, f_fnArg, f_computed, f_sortedLen, f_curPos, f_aggSum, f_aggCount, f_aggRows, f_aggMin, f_aggMax, s_aggMin, and_self]
theorem gs_aggMax (o : Ob) (v : Int32) : f_part (s_aggMax o v) = f_part o ∧ f_keys (s_aggMax o v) = f_keys o ∧ f_vals (s_aggMax o v) = f_vals o ∧ f_flg (s_aggMax o v) = f_flg o ∧ f_res (s_aggMax o v) = f_res o ∧ f_resNull (s_aggMax o v) = f_resNull o ∧ f_frameCnt (s_aggMax o v) = f_frameCnt o ∧ f_sorted (s_aggMax o v) = f_sorted o ∧ f_cap (s_aggMax o v) = f_cap o ∧ f_rows (s_aggMax o v) = f_rows o ∧ f_direction (s_aggMax o v) = f_direction o ∧ f_nulls (s_aggMax o v) = f_nulls o ∧ f_mode (s_aggMax o v) = f_mode o ∧ f_startKind (s_aggMax o v) = f_startKind o ∧ f_startOff (s_aggMax o v) = f_startOff o ∧ f_endKind (s_aggMax o v) = f_endKind o ∧ f_endOff (s_aggMax o v) = f_endOff o ∧ f_fn (s_aggMax o v) = f_fn o ∧ f_fnArg (s_aggMax o v) = f_fnArg o ∧ f_computed (s_aggMax o v) = f_computed o ∧ f_sortedLen (s_aggMax o v) = f_sortedLen o ∧ f_curPos (s_aggMax o v) = f_curPos o ∧ f_aggSum (s_aggMax o v) = f_aggSum o ∧ f_aggCount (s_aggMax o v) = f_aggCount o ∧ f_aggRows (s_aggMax o v) = f_aggRows o ∧ f_aggMin (s_aggMax o v) = f_aggMin o ∧ f_aggMax (s_aggMax o v) = v := by
 simp only [f_part, f_keys, f_vals, f_flg, f_res, f_resNull, f_frameCnt, f_sorted, f_cap, f_rows, f_direction, f_nulls, f_mode, f_startKind, f_startOff, f_endKind, f_endOff, f_fn, f_fnArg, f_computed, f_sortedLen, f_curPos, f_aggSum, f_aggCount, f_aggRows, f_aggMin, f_aggMax, s_aggMax, and_self]
theorem inc1 {x : Int32} (h : x.toInt < 2147483647) : (x + 1).toInt = x.toInt + 1 := by
 have := i_lo x
 have e1 : (1 : Int32).toInt = 1 := rfl
 rw [i_add (by omega) (by omega), e1]
theorem j_add {x y : Int64} (h1 : -9223372036854775808 ≤ x.toInt + y.toInt) (h2 : x.toInt + y.toInt < 9223372036854775808) : (x + y).toInt = x.toInt + y.toInt := by
 rw [Int64.toInt_add, Int.bmod_eq_of_le (by omega) (by omega)]
theorem j_sub {x y : Int64} (h1 : -9223372036854775808 ≤ x.toInt - y.toInt) (h2 : x.toInt - y.toInt < 9223372036854775808) : (x - y).toInt = x.toInt - y.toInt := by
 rw [Int64.toInt_sub, Int.bmod_eq_of_le (by omega) (by omega)]
def gd (l : List Int32) (k : Nat) : Int := (l.getD k 0).toInt
theorem gd_set {l : List Int32} {i k : Nat} {v : Int32} (hi : i < l.length) : gd (l.set i v) k = if i = k then v.toInt else gd l k := by
 unfold gd
 rw [List.getD_eq_getElem?_getD, List.getD_eq_getElem?_getD, List.getElem?_set]
 by_cases h : i = k
 ·rw [if_pos h, if_pos h, if_pos hi]; rfl
 ·rw [if_neg h, if_neg h]
theorem okP_agd {l : List Int32} {j : Int32} {P : Int32 → Prop} (h0 : 0 ≤ j.toInt) (h1 : j.toInt < l.length) (k : ∀ w : Int32, w.toInt = gd l j.toInt.toNat → P w) : okP (aget l j) P := by
 refine okP.aget h0 h1 (fun w hw => k w ?_)
 unfold gd
 rw [List.getD_eq_getElem?_getD, hw]; rfl
def GC (c : CC) : Prop := c.1.length = 32 ∧ c.2.1.length = 32 ∧ c.2.2.1.length = 32 ∧ c.2.2.2.1.length = 32 ∧ 0 ≤ c.2.2.2.2.1.toInt ∧ c.2.2.2.2.1.toInt ≤ 32
def GD (d : DD) : Prop := d.1.length = 32 ∧ d.2.1.length = 32 ∧ d.2.2.length = 32
def GE (c : CC) (e : EE) : Prop := e.1.length = 32 ∧ 0 ≤ e.2.1.toInt ∧ e.2.1.toInt ≤ c.2.2.2.2.1.toInt ∧ 0 ≤ e.2.2.toInt ∧ e.2.2.toInt < c.2.2.2.2.1.toInt ∧ ∀ k, k < e.2.1.toInt.toNat → 0 ≤ gd e.1 k ∧ gd e.1 k < c.2.2.2.2.1.toInt
theorem g_part {c : CC} {d : DD} {e : EE} {o : Ob} (h : Sh c d e o) : f_part o = c.1 := congrArg (fun x : CC => x.1) h.1
theorem g_keys {c : CC} {d : DD} {e : EE} {o : Ob} (h : Sh c d e o) : f_keys o = c.2.1 := congrArg (fun x : CC => x.2.1) h.1
theorem g_vals {c : CC} {d : DD} {e : EE} {o : Ob} (h : Sh c d e o) : f_vals o = c.2.2.1 := congrArg (fun x : CC => x.2.2.1) h.1
theorem g_flg {c : CC} {d : DD} {e : EE} {o : Ob} (h : Sh c d e o) : f_flg o = c.2.2.2.1 := congrArg (fun x : CC => x.2.2.2.1) h.1
theorem g_rows {c : CC} {d : DD} {e : EE} {o : Ob} (h : Sh c d e o) : f_rows o = c.2.2.2.2.1 := congrArg (fun x : CC => x.2.2.2.2.1) h.1
theorem g_fn {c : CC} {d : DD} {e : EE} {o : Ob} (h : Sh c d e o) : f_fn o = c.2.2.2.2.2.2.2.2.2.2.2.2.2.1 := congrArg (fun x : CC => x.2.2.2.2.2.2.2.2.2.2.2.2.2.1) h.1
theorem g_res {c : CC} {d : DD} {e : EE} {o : Ob} (h : Sh c d e o) : f_res o = d.1 := congrArg (fun x : DD => x.1) h.2.1
theorem g_nul {c : CC} {d : DD} {e : EE} {o : Ob} (h : Sh c d e o) : f_resNull o = d.2.1 := congrArg (fun x : DD => x.2.1) h.2.1
theorem g_fc {c : CC} {d : DD} {e : EE} {o : Ob} (h : Sh c d e o) : f_frameCnt o = d.2.2 := congrArg (fun x : DD => x.2.2) h.2.1
theorem g_so {c : CC} {d : DD} {e : EE} {o : Ob} (h : Sh c d e o) : f_sorted o = e.1 := congrArg (fun x : EE => x.1) h.2.2
theorem g_sl {c : CC} {d : DD} {e : EE} {o : Ob} (h : Sh c d e o) : f_sortedLen o = e.2.1 := congrArg (fun x : EE => x.2.1) h.2.2
theorem g_cp {c : CC} {d : DD} {e : EE} {o : Ob} (h : Sh c d e o) : f_curPos o = e.2.2 := congrArg (fun x : EE => x.2.2) h.2.2
theorem w_so {c : CC} {d : DD} {e : EE} {o : Ob} (h : Sh c d e o) (x : List Int32) : Sh c d (x, e.2) (s_sorted o x) := by
 obtain ⟨a, b, r⟩ := h
 subst r
 dsimp only [Sh, f_part, f_keys, f_vals, f_flg, f_res, f_resNull, f_frameCnt, f_sorted, f_cap, f_rows, f_direction, f_nulls, f_mode, f_startKind, f_startOff, f_endKind, f_endOff, f_fn, f_fnArg, f_computed, f_sortedLen, f_curPos, f_aggSum, f_aggCount, f_aggRows, f_aggMin, f_aggMax, s_sorted] at a b ⊢
 exact ⟨a, b, rfl⟩
theorem w_sl {c : CC} {d : DD} {e : EE} {o : Ob} (h : Sh c d e o) (x : Int32) : Sh c d (e.1, x, e.2.2) (s_sortedLen o x) := by
 obtain ⟨a, b, r⟩ := h
 subst r
 dsimp only [Sh, f_part, f_keys, f_vals, f_flg, f_res, f_resNull, f_frameCnt, f_sorted, f_cap, f_rows, f_direction, f_nulls, f_mode, f_startKind, f_startOff, f_endKind, f_endOff, f_fn, f_fnArg, f_computed, f_sortedLen, f_curPos, f_aggSum, f_aggCount, f_aggRows, f_aggMin, f_aggMax, s_sortedLen] at a b ⊢
 exact ⟨a, b, rfl⟩
theorem w_cp {c : CC} {d : DD} {e : EE} {o : Ob} (h : Sh c d e o) (x : Int32) : Sh c d (e.1, e.2.1, x) (s_curPos o x) := by
 obtain ⟨a, b, r⟩ := h
 subst r
 dsimp only [Sh, f_part, f_keys, f_vals, f_flg, f_res, f_resNull, f_frameCnt, f_sorted, f_cap, f_rows, f_direction, f_nulls, f_mode, f_startKind, f_startOff, f_endKind, f_endOff, f_fn, f_fnArg, f_computed, f_sortedLen, f_curPos, f_aggSum, f_aggCount, f_aggRows, f_aggMin, f_aggMax, s_curPos] at a b ⊢
 exact ⟨a, b, rfl⟩
theorem w_fc {c : CC} {d : DD} {e : EE} {o : Ob} (h : Sh c d e o) (x : List Int32) : Sh c (d.1, d.2.1, x) e (s_frameCnt o x) := by
 obtain ⟨a, b, r⟩ := h
 subst b
 dsimp only [Sh, f_part, f_keys, f_vals, f_flg, f_res, f_resNull, f_frameCnt, f_sorted, f_cap, f_rows, f_direction, f_nulls, f_mode, f_startKind, f_startOff, f_endKind, f_endOff, f_fn, f_fnArg, f_computed, f_sortedLen, f_curPos, f_aggSum, f_aggCount, f_aggRows, f_aggMin, f_aggMax, s_frameCnt] at a r ⊢
 exact ⟨a, rfl, r⟩
theorem w_rn {c : CC} {d : DD} {e : EE} {o : Ob} (h : Sh c d e o) (x : List Int64) (y : List Int32) : Sh c (x, y, d.2.2) e (s_res (s_resNull o y) x) := by
 obtain ⟨a, b, r⟩ := h
 subst b
 dsimp only [Sh, f_part, f_keys, f_vals, f_flg, f_res, f_resNull, f_frameCnt, f_sorted, f_cap, f_rows, f_direction, f_nulls, f_mode, f_startKind, f_startOff, f_endKind, f_endOff, f_fn, f_fnArg, f_computed, f_sortedLen, f_curPos, f_aggSum, f_aggCount, f_aggRows, f_aggMin, f_aggMax, s_res, s_resNull] at a r ⊢
 exact ⟨a, rfl, r⟩

def pt (c : CC) (r : Nat) : Int32 := c.1.getD r 0
def ky (c : CC) (r : Nat) : Int32 := c.2.1.getD r 0
def vl (c : CC) (r : Nat) : Int32 := c.2.2.1.getD r 0
def fg (c : CC) (r : Nat) : Int32 := c.2.2.2.1.getD r 0
def nR (c : CC) : Int32 := c.2.2.2.2.1
def dr (c : CC) : Int32 := c.2.2.2.2.2.2.1
def nl (c : CC) : Int32 := c.2.2.2.2.2.2.2.1
def md (c : CC) : Int32 := c.2.2.2.2.2.2.2.2.1
def sk (c : CC) : Int32 := c.2.2.2.2.2.2.2.2.2.1
def so (c : CC) : Int32 := c.2.2.2.2.2.2.2.2.2.2.1
def ek (c : CC) : Int32 := c.2.2.2.2.2.2.2.2.2.2.2.1
def eo (c : CC) : Int32 := c.2.2.2.2.2.2.2.2.2.2.2.2.1
def fn' (c : CC) : Int32 := c.2.2.2.2.2.2.2.2.2.2.2.2.2.1
def kN (c : CC) (r : Nat) : Bool := !decide (fg c r &&& 1 = 0)
def vN (c : CC) (r : Nat) : Bool := !decide (fg c r &&& 2 = 0)
def cl (c : CC) (r : Nat) : Int := if dr c = 0 then 0 else if kN c r then (if nl c = 0 then -5000000000 else 5000000000) else if dr c = 1 then (ky c r).toInt else -(ky c r).toInt
def bef (c : CC) (a b : Nat) : Bool := decide (cl c a < cl c b ∨ (cl c a = cl c b ∧ a < b))
def per (c : CC) (a b : Nat) : Bool := decide (cl c a = cl c b)
def bI (b : Bool) : Int32 := if b then 1 else 0
theorem bI_0 (b : Bool) : bI b = 0 ↔ b = false := by cases b <;> simp [bI]
theorem bI_d {p : Prop} [Decidable p] : (if p then some (1 : Int32) else some 0) = some (bI (decide p)) := by
 by_cases h : p <;> simp [bI, h]
theorem bI_n {p : Prop} [Decidable p] : (if p then some (0 : Int32) else some 1) = some (bI (!decide p)) := by
 by_cases h : p <;> simp [bI, h]
theorem ofI' {x : Int32} {n : Nat} (h : x.toInt = n) : x = Int32.ofInt (n : Nat) := by rw [← h, Int32.ofInt_toInt]
def GX (c : CC) : Prop := GC c ∧ (nl c = 0 ∨ nl c = 1)
theorem ga {l : List Int32} (hl : l.length = 32) {x : Int32} {a : Nat} (hx : x.toInt = a) (ha : a < 32) : aget l x = some (l.getD a 0) := by
 rw [aget_at hx (by omega), List.getD_eq_getElem?_getD, List.getElem?_eq_getElem (by omega)]; rfl
theorem kn_m {c : CC} {d : DD} {e : EE} {o : Ob} (h : Sh c d e o) (G : GX c) {x : Int32} {a : Nat} (hx : x.toInt = a) (ha : a < 32) : F9 o x = some (bI (kN c a)) := by
 unfold F9
 rw [g_flg h, ga G.1.2.2.2.1 hx ha, Option.bind_some, bI_n]; rfl
theorem vn_m {c : CC} {d : DD} {e : EE} {o : Ob} (h : Sh c d e o) (G : GX c) {x : Int32} {a : Nat} (hx : x.toInt = a) (ha : a < 32) : F15 o x = some (bI (vN c a)) := by
 unfold F15
 rw [g_flg h, ga G.1.2.2.2.1 hx ha, Option.bind_some, bI_n]; rfl
theorem g_dr {c : CC} {d : DD} {e : EE} {o : Ob} (h : Sh c d e o) : f_direction o = dr c := congrArg (fun x : CC => x.2.2.2.2.2.2.1) h.1
theorem g_nl {c : CC} {d : DD} {e : EE} {o : Ob} (h : Sh c d e o) : f_nulls o = nl c := congrArg (fun x : CC => x.2.2.2.2.2.2.2.1) h.1
theorem g_md {c : CC} {d : DD} {e : EE} {o : Ob} (h : Sh c d e o) : f_mode o = md c := congrArg (fun x : CC => x.2.2.2.2.2.2.2.2.1) h.1
theorem g_sk {c : CC} {d : DD} {e : EE} {o : Ob} (h : Sh c d e o) : f_startKind o = sk c := congrArg (fun x : CC => x.2.2.2.2.2.2.2.2.2.1) h.1
theorem g_sf {c : CC} {d : DD} {e : EE} {o : Ob} (h : Sh c d e o) : f_startOff o = so c := congrArg (fun x : CC => x.2.2.2.2.2.2.2.2.2.2.1) h.1
theorem g_ek {c : CC} {d : DD} {e : EE} {o : Ob} (h : Sh c d e o) : f_endKind o = ek c := congrArg (fun x : CC => x.2.2.2.2.2.2.2.2.2.2.2.1) h.1
theorem g_ef {c : CC} {d : DD} {e : EE} {o : Ob} (h : Sh c d e o) : f_endOff o = eo c := congrArg (fun x : CC => x.2.2.2.2.2.2.2.2.2.2.2.2.1) h.1
theorem bef_m {c : CC} {d : DD} {e : EE} {o : Ob} (h : Sh c d e o) (G : GX c) {x : Int32} {a : Nat} (hx : x.toInt = a) (ha : a < 32) {y : Int32} {b : Nat} (hy : y.toInt = b) (hb : b < 32) : F8 o x y = some (bI (bef c a b)) := by
 have xy : (x < y) ↔ a < b := by rw [i_lt]; omega
 have G2 := G.1.2.1
 have kx := i_lo (ky c a)
 have kx' := i_hi (ky c a)
 have ky' := i_lo (ky c b)
 have ky'' := i_hi (ky c b)
 unfold F8 J8_51 bef cl
 rw [g_dr h, g_nl h, g_keys h, kn_m h G hx ha, kn_m h G hy hb, ga G2 hx ha, ga G2 hy hb]
 simp only [Option.bind_some]
 by_cases d0 : dr c = 0
 ·simp only [if_pos d0]
  rw [bI_d]
  congr 2
  rw [decide_eq_decide, xy]; simp
 ·simp only [if_neg d0]
  cases ka : kN c a <;> cases kb : kN c b
  ·rw [if_pos (by decide), if_pos (by decide), if_pos (by decide)]
   simp only [Bool.false_eq_true, if_false]
   show (if ky c a = ky c b then _ else (if dr c = 1 then (if ky c a < ky c b then _ else _) else (if ky c b < ky c a then _ else _))) = _
   by_cases ke : ky c a = ky c b
   ·rw [if_pos ke, bI_d]
    congr 2
    rw [decide_eq_decide, xy, ke]
    split <;> omega
   ·rw [if_neg ke]
    have ke' : ¬ (ky c a).toInt = (ky c b).toInt := fun w => ke (i_eq.2 w)
    by_cases d1 : dr c = 1
    ·simp only [if_pos d1]
     rw [bI_d]
     congr 2
     rw [decide_eq_decide, i_lt]; omega
    ·simp only [if_neg d1]
     rw [bI_d]
     congr 2
     rw [decide_eq_decide, i_lt]; omega
  ·rw [if_pos (by decide), if_pos (by decide), if_neg (by decide)]
   simp only [Bool.false_eq_true, if_false, if_true]
   rw [bI_d]
   congr 2
   rw [decide_eq_decide]
   rcases G.2 with n | n
   ·simp only [n, if_true]
    constructor
    ·intro w; exact absurd w (by decide)
    ·split <;> omega
   ·simp only [n, if_neg (show ¬ (1 : Int32) = 0 by decide)]
    constructor
    ·intro _; split <;> omega
    ·intro _; first | trivial | rfl
  ·rw [if_neg (by decide), if_pos (by decide), if_neg (by decide)]
   simp only [Bool.false_eq_true, if_false, if_true]
   rw [bI_d]
   congr 2
   rw [decide_eq_decide]
   rcases G.2 with n | n
   ·simp only [n, if_true]
    constructor
    ·intro _; split <;> omega
    ·intro _; first | trivial | rfl
   ·simp only [n, if_neg (show ¬ (1 : Int32) = 0 by decide)]
    constructor
    ·intro w; exact absurd w (by decide)
    ·split <;> omega
  ·rw [if_neg (by decide), if_neg (by decide)]
   simp only [if_true]
   rw [bI_d]
   congr 2
   rw [decide_eq_decide, xy]; simp
theorem per_m {c : CC} {d : DD} {e : EE} {o : Ob} (h : Sh c d e o) (G : GX c) {x : Int32} {a : Nat} (hx : x.toInt = a) (ha : a < 32) {y : Int32} {b : Nat} (hy : y.toInt = b) (hb : b < 32) : F14 o x y = some (bI (per c a b)) := by
 have G2 := G.1.2.1
 have kx := i_lo (ky c a)
 have kx' := i_hi (ky c a)
 have ky' := i_lo (ky c b)
 have ky'' := i_hi (ky c b)
 unfold F14 J14_33 per cl
 rw [g_dr h, g_keys h, kn_m h G hx ha, kn_m h G hy hb, ga G2 hx ha, ga G2 hy hb]
 simp only [Option.bind_some]
 by_cases d0 : dr c = 0
 ·simp only [if_pos d0]
  rfl
 ·simp only [if_neg d0]
  cases ka : kN c a <;> cases kb : kN c b
  ·rw [if_pos (by decide), if_pos (by decide), if_pos (by decide)]
   simp only [Bool.false_eq_true, if_false]
   show (if ky c a = ky c b then _ else _) = _
   rw [bI_d]
   congr 2
   rw [decide_eq_decide, i_eq]
   split <;> omega
  ·rw [if_pos (by decide), if_pos (by decide), if_neg (by decide)]
   simp only [Bool.false_eq_true, if_false, if_true]
   have : decide ((if dr c = 1 then (ky c a).toInt else -(ky c a).toInt) = (if nl c = 0 then -5000000000 else 5000000000)) = false := by
    apply decide_eq_false
    split <;> split <;> omega
   rw [this]; rfl
  ·rw [if_neg (by decide), if_pos (by decide), if_neg (by decide)]
   simp only [Bool.false_eq_true, if_false, if_true]
   have : decide ((if nl c = 0 then -5000000000 else 5000000000) = (if dr c = 1 then (ky c b).toInt else -(ky c b).toInt)) = false := by
    apply decide_eq_false
    split <;> split <;> omega
   rw [this]; rfl
  ·rw [if_neg (by decide), if_neg (by decide)]
   simp only [if_true]
   rfl
def insL (f : Nat → Bool) (r : Nat) : List Nat → List Nat
 | [] => [r]
 | a :: l => if f a then r :: a :: l else a :: insL f r l
theorem insL_split (f : Nat → Bool) (r : Nat) : ∀ (A B : List Nat), (∀ a, a ∈ A → f a = false) → (∀ b, B.head? = some b → f b = true) → insL f r (A ++ B) = A ++ r :: B
 | [], [], _, _ => rfl
 | [], b :: B, _, h => by
  show (if f b then r :: b :: B else b :: insL f r B) = r :: b :: B
  rw [h b rfl]; rfl
 | a :: A, B, h1, h2 => by
  show (if f a then r :: a :: (A ++ B) else a :: insL f r (A ++ B)) = _
  rw [h1 a (List.mem_cons_self ..), if_neg (by decide), insL_split f r A B (fun x hx => h1 x (List.mem_cons_of_mem _ hx)) h2]
  rfl
theorem insL_perm (f : Nat → Bool) (r : Nat) : ∀ L : List Nat, (insL f r L).Perm (r :: L)
 | [] => List.Perm.refl _
 | a :: l => by
  show (if f a then r :: a :: l else a :: insL f r l).Perm _
  split
  ·exact List.Perm.refl _
  ·exact ((insL_perm f r l).cons a).trans (List.Perm.swap r a l)
theorem insL_len (f : Nat → Bool) (r : Nat) (L : List Nat) : (insL f r L).length = L.length + 1 := (insL_perm f r L).length_eq
def srt (c : CC) (pk : Int32) : Nat → List Nat
 | 0 => []
 | n + 1 => if pt c n = pk then insL (bef c n) n (srt c pk n) else srt c pk n
theorem srt_mem (c : CC) (pk : Int32) : ∀ (n r : Nat), r ∈ srt c pk n ↔ r < n ∧ pt c r = pk
 | 0, r => by simp [srt]
 | n + 1, r => by
  show r ∈ (if pt c n = pk then insL (bef c n) n (srt c pk n) else srt c pk n) ↔ _
  have ih := srt_mem c pk n r
  by_cases h : pt c n = pk
  ·rw [if_pos h, (insL_perm _ _ _).mem_iff, List.mem_cons, ih]
   constructor
   ·rintro (e | e)
    ·subst e; exact ⟨by omega, h⟩
    ·exact ⟨by omega, e.2⟩
   ·rintro ⟨a, b⟩
    by_cases e : r = n
    ·exact Or.inl e
    ·exact Or.inr ⟨by omega, b⟩
  ·rw [if_neg h, ih]
   constructor
   ·rintro ⟨a, b⟩; exact ⟨by omega, b⟩
   ·rintro ⟨a, b⟩
    by_cases e : r = n
    ·subst e; exact absurd b h
    ·exact ⟨by omega, b⟩
theorem srt_len (c : CC) (pk : Int32) : ∀ n : Nat, (srt c pk n).length ≤ n
 | 0 => Nat.le_refl _
 | n + 1 => by
  show (if pt c n = pk then insL (bef c n) n (srt c pk n) else srt c pk n).length ≤ n + 1
  have := srt_len c pk n
  split
  ·rw [insL_len]; omega
  ·omega
theorem srt_nodup (c : CC) (pk : Int32) : ∀ n : Nat, (srt c pk n).Nodup
 | 0 => List.nodup_nil
 | n + 1 => by
  show (if pt c n = pk then insL (bef c n) n (srt c pk n) else srt c pk n).Nodup
  split
  ·rw [(insL_perm _ _ _).nodup_iff, List.nodup_cons]
   exact ⟨fun w => by have := ((srt_mem c pk n n).1 w).1; omega, srt_nodup c pk n⟩
  ·exact srt_nodup c pk n
theorem insL_sorted (c : CC) (r : Nat) : ∀ L : List Nat, (∀ a, a ∈ L → a ≠ r) → L.Pairwise (fun a b => bef c a b = true) → (insL (bef c r) r L).Pairwise (fun a b => bef c a b = true)
 | [], _, _ => List.pairwise_singleton _ _
 | a :: l, h, p => by
  show (if bef c r a then r :: a :: l else a :: insL (bef c r) r l).Pairwise _
  rw [List.pairwise_cons] at p
  by_cases q : bef c r a = true
  ·rw [if_pos q, List.pairwise_cons]
   refine ⟨fun b hb => ?_, List.pairwise_cons.2 p⟩
   rw [List.mem_cons] at hb
   rcases hb with e | e
   ·rw [e]; exact q
   ·have := p.1 b e
    unfold bef at q this ⊢
    rw [decide_eq_true_eq] at q this ⊢
    omega
  ·rw [if_neg q, List.pairwise_cons]
   refine ⟨fun b hb => ?_, insL_sorted c r l (fun x hx => h x (List.mem_cons_of_mem _ hx)) p.2⟩
   rw [(insL_perm _ _ _).mem_iff, List.mem_cons] at hb
   rcases hb with e | e
   ·have ne := h a (List.mem_cons_self ..)
    subst e
    unfold bef at q ⊢
    rw [decide_eq_true_eq] at q ⊢
    omega
   ·exact p.1 b e
theorem srt_sorted (c : CC) (pk : Int32) : ∀ n : Nat, (srt c pk n).Pairwise (fun a b => bef c a b = true)
 | 0 => List.Pairwise.nil
 | n + 1 => by
  show (if pt c n = pk then insL (bef c n) n (srt c pk n) else srt c pk n).Pairwise _
  split
  ·exact insL_sorted c n _ (fun a ha => by have := ((srt_mem c pk n a).1 ha).1; omega) (srt_sorted c pk n)
  ·exact srt_sorted c pk n
def Rep (s : List Int32) (L : List Nat) : Prop := ∀ i q : Nat, L[i]? = some q → s[i]? = some (Int32.ofInt (q : Nat))
theorem ofi {n : Nat} (h : n < 2147483648) : (Int32.ofInt (n : Nat)).toInt = n := Int32.toInt_ofInt_of_le (by show _ ≤ (n : Int); omega) (by show (n : Int) < _; omega)
theorem build_m {c : CC} {d : DD} {e : EE} {o : Ob} (h : Sh c d e o) (G : GX c) (hs : e.1.length = 32) {x : Int32} {a : Nat} (hx : x.toInt = a) (ha : (a : Int) < (nR c).toInt) : okP (F7 o x) (fun p => ∃ s' n' u', Sh c d (s', n', u') p ∧ s'.length = 32 ∧ Rep s' (srt c (pt c a) (nR c).toInt.toNat) ∧ n'.toInt = (srt c (pt c a) (nR c).toInt.toNat).length ∧ ∃ k : Nat, u'.toInt = k ∧ (srt c (pt c a) (nR c).toInt.toNat)[k]? = some a) := by
 obtain ⟨⟨G1, G2, G3, G4, r0, r1⟩, _⟩ := id G
 have r0' : 0 ≤ (nR c).toInt := r0
 have r1' : (nR c).toInt ≤ 32 := r1
 have z0 : (0 : Int32).toInt = 0 := rfl
 have zm : (-1 : Int32).toInt = -1 := rfl
 have z1 : (1 : Int32).toInt = 1 := rfl
 unfold F7
 rw [g_part h, ga G1 hx (by omega), Option.bind_some]
 show okP ((loopN (B7_12 x (pt c a)) qN (0, 0, o)).bind _) _
 generalize hpk : pt c a = pk
 apply okP.bind
 refine okP.mono (P := fun w : Int32 × Ob => ∃ s', Sh c d (s', e.2) w.2 ∧ s'.length = 32 ∧ Rep s' (srt c pk (nR c).toInt.toNat) ∧ w.1.toInt = (srt c pk (nR c).toInt.toNat).length) ?_ ?_
 ·refine okP.loop (fun w : Int32 × Int32 × Ob => ∃ i : Nat, w.2.1.toInt = i ∧ (i : Int) ≤ (nR c).toInt ∧ ∃ s', Sh c d (s', e.2) w.2.2 ∧ s'.length = 32 ∧ Rep s' (srt c pk i) ∧ w.1.toInt = (srt c pk i).length) (fun w => (32 - w.2.1.toInt).toNat) ⟨0, rfl, r0', e.1, h, hs, fun i q hi => absurd hi (by simp [srt]), rfl⟩ (by show (32 - (0 : Int)).toNat < 4000; decide) ?_
  rintro ⟨n, r, p⟩ ⟨i, hr, hi, s', hp, ls, rep, hn⟩
  simp only at hr hp hn
  have sl := srt_len c pk i
  unfold B7_12
  simp only
  rw [g_rows hp, g_part hp]
  refine okP.ite (fun cc => ?_) (fun cc => ?_)
  ·rw [i_lt] at cc
   have cc' : r.toInt < (nR c).toInt := cc
   have e1 : (r + 1).toInt = r.toInt + 1 := inc1 (by omega)
   rw [ga G1 hr (by omega), Option.bind_some]
   show okP (if pt c i = pk then _ else _) _
   refine okP.ite (fun q => ?_) (fun q => ?_)
   ·-- the row goes in
    have L' : srt c pk (i + 1) = insL (bef c i) i (srt c pk i) := if_pos q
    generalize hL : srt c pk i = L at *
    have inner : okP (loopN (B7_38 x n pk r) qN (n, p)) (fun w : Int32 × Ob => ∃ j : Nat, w.1.toInt = (j : Int) ∧ j ≤ L.length ∧ (∃ t, Sh c d (t, e.2) w.2 ∧ t.length = 32 ∧ (∀ k v : Nat, k < j → L[k]? = some v → t[k]? = some (Int32.ofInt (v : Nat))) ∧ ∀ k v : Nat, j ≤ k → L[k]? = some v → t[k + 1]? = some (Int32.ofInt (v : Nat))) ∧ (∀ k v : Nat, j ≤ k → L[k]? = some v → bef c i v = true) ∧ (j = 0 ∨ ∃ v, L[j - 1]? = some v ∧ bef c i v = false)) := by
     refine okP.loop (fun w : Int32 × Ob => ∃ j : Nat, w.1.toInt = (j : Int) ∧ j ≤ L.length ∧ (∃ t, Sh c d (t, e.2) w.2 ∧ t.length = 32 ∧ (∀ k v : Nat, k < j → L[k]? = some v → t[k]? = some (Int32.ofInt (v : Nat))) ∧ ∀ k v : Nat, j ≤ k → L[k]? = some v → t[k + 1]? = some (Int32.ofInt (v : Nat))) ∧ ∀ k v : Nat, j ≤ k → L[k]? = some v → bef c i v = true) (fun w => w.1.toInt.toNat) ⟨L.length, hn, Nat.le_refl _, ⟨s', hp, ls, fun k v _ hk => rep k v hk, fun k v h1 hk => absurd (List.getElem?_eq_some_iff.1 hk).1 (by omega)⟩, fun k v h1 hk => absurd (List.getElem?_eq_some_iff.1 hk).1 (by omega)⟩ (by show n.toInt.toNat < 4000; omega) ?_
     rintro ⟨y, p⟩ ⟨j, hj, jL, ⟨t, hp, lt, t1, t2⟩, hb⟩
     simp only at hj hp
     unfold B7_38
     simp only
     refine okP.ite (fun jc => ?_) (fun jc => ?_)
     ·rw [i_lt, z0] at jc
      obtain ⟨y', hy'⟩ : ∃ m, m = y + -1 := ⟨_, rfl⟩
      rw [← hy']
      have jm : y'.toInt = y.toInt - 1 := by rw [hy', i_add (by omega) (by omega), zm]; omega
      have j1 : (y - 1).toInt = (j - 1 : Nat) := by rw [i_sub (by omega) (by omega), z1]; omega
      have lv := List.getElem?_eq_getElem (l := L) (i := j - 1) (by omega)
      generalize L[j - 1] = v at lv
      have tv := t1 (j - 1) v (by omega) lv
      have v32 : v < i := by
       have : v ∈ L := List.mem_of_getElem? lv
       rw [← hL] at this
       exact ((srt_mem c pk i v).1 this).1
      have ag : aget (f_sorted p) (y - 1) = some (Int32.ofInt (v : Nat)) := by
       rw [show f_sorted p = t from g_so hp, aget_at j1 (by omega)]
       obtain ⟨w1, w2⟩ := List.getElem?_eq_some_iff.1 tv
       rw [w2]
      rw [ag, Option.bind_some, bef_m hp G hr (by omega) (ofi (by omega)) (by omega), Option.bind_some]
      refine okP.ite (fun b0 => ?_) (fun b1 => ?_)
      ·rw [bI_0] at b0
       exact okP.some ⟨j, hj, jL, ⟨t, hp, lt, t1, t2⟩, hb, Or.inr ⟨v, lv, b0⟩⟩
      ·rw [bI_0] at b1
       rw [Option.bind_some, show f_sorted p = t from g_so hp, aset_at hj (by omega), Option.bind_some]
       refine okP.some ⟨⟨j - 1, by simp only; omega, by omega, ⟨t.set j (Int32.ofInt (v : Nat)), w_so hp _, by rw [List.length_set]; exact lt, fun k u hk hu => ?_, fun k u hk hu => ?_⟩, fun k u hk hu => ?_⟩, by simp only; omega⟩
       ·rw [List.getElem?_set_ne (by omega)]; exact t1 k u (by omega) hu
       ·by_cases ek : k = j - 1
        ·subst ek
         rw [lv] at hu
         rw [show j - 1 + 1 = j by omega, List.getElem?_set_self (by omega), Option.some.inj hu]
        ·rw [List.getElem?_set_ne (by omega)]; exact t2 k u (by omega) hu
       ·by_cases ek : k = j - 1
        ·subst ek
         rw [lv] at hu
         rw [← Option.some.inj hu]
         exact Bool.not_eq_false _ ▸ b1
        ·exact hb k u (by omega) hu
     ·rw [i_lt, z0] at jc
      exact okP.some ⟨j, hj, jL, ⟨t, hp, lt, t1, t2⟩, hb, Or.inl (by omega)⟩
    apply okP.bind
    refine okP.mono inner ?_
    rintro ⟨y, p⟩ ⟨j, hj, jL, ⟨t, hp, lt, t1, t2⟩, hb, hj0⟩
    simp only at hj hp
    unfold J7_83 J7_95
    simp only
    rw [show f_sorted p = t from g_so hp, aset_at hj (by omega), Option.bind_some]
    have n2 : (n + 1).toInt = n.toInt + 1 := inc1 (by omega)
    have new : srt c pk (i + 1) = L.take j ++ i :: L.drop j := by
     have srtd := srt_sorted c pk i
     rw [hL] at srtd
     rw [L', ← insL_split (bef c i) i (L.take j) (L.drop j) (fun b hbm => ?_) (fun b hbm => ?_), List.take_append_drop]
     ·rcases hj0 with e | ⟨v, lv, bv⟩
      ·subst e; simp at hbm
      ·obtain ⟨k, hk, ek⟩ := List.mem_iff_getElem.1 hbm
       rw [List.getElem_take] at ek
       have hk' : k < j := by
        rw [List.length_take] at hk; omega
       by_cases kj : k = j - 1
       ·subst kj
        have := List.getElem?_eq_getElem (l := L) (i := j - 1) (by omega)
        rw [lv, ek] at this
        rw [← Option.some.inj this]; exact bv
       ·obtain ⟨w1, w2⟩ := List.getElem?_eq_some_iff.1 lv
        have lt' := List.pairwise_iff_getElem.1 srtd k (j - 1) (by omega) w1 (by omega)
        rw [ek, w2] at lt'
        unfold bef at lt' bv ⊢
        rw [decide_eq_true_eq] at lt'
        rw [decide_eq_false_iff_not] at bv ⊢
        omega
     ·rw [List.head?_drop] at hbm
      exact hb j b (Nat.le_refl _) hbm
    refine okP.some ⟨⟨i + 1, by simp only; omega, by omega, t.set j r, w_so hp _, by rw [List.length_set]; exact lt, fun k v hk => ?_, ?_⟩, by simp only; omega⟩
    ·rw [new] at hk
     have tl : (L.take j).length = j := by rw [List.length_take]; omega
     by_cases k1 : k < j
     ·rw [List.getElem?_append_left (by omega), List.getElem?_take_of_lt k1] at hk
      rw [List.getElem?_set_ne (by omega)]; exact t1 k v k1 hk
     ·rw [List.getElem?_append_right (by omega), tl] at hk
      by_cases k2 : k = j
      ·subst k2
       rw [Nat.sub_self] at hk
       have : i = v := Option.some.inj hk
       rw [List.getElem?_set_self (by omega), ← this, ← ofI' hr]
      ·have : k - j = (k - 1 - j) + 1 := by omega
       rw [this, List.getElem?_cons_succ, List.getElem?_drop] at hk
       rw [List.getElem?_set_ne (by omega)]
       have := t2 (k - 1) v (by omega) (by rw [show j + (k - 1 - j) = k - 1 by omega] at hk; exact hk)
       rw [show k - 1 + 1 = k by omega] at this
       exact this
    ·simp only
     rw [n2, L', insL_len, hn]; rfl
   ·unfold J7_95
    have L' : srt c pk (i + 1) = srt c pk i := if_neg q
    refine okP.some ⟨⟨i + 1, by simp only; omega, by omega, s', hp, ls, by rw [L']; exact rep, by simp only; rw [L']; exact hn⟩, by simp only; omega⟩
  ·rw [i_lt] at cc
   have cc' : ¬ r.toInt < (nR c).toInt := cc
   have : i = (nR c).toInt.toNat := by omega
   subst this
   exact okP.some ⟨s', hp, ls, rep, hn⟩
 ·rintro ⟨n, p⟩ ⟨s', hp, ls, rep, hn⟩
  simp only at hp hn ⊢
  have sl := srt_len c pk (nR c).toInt.toNat
  have nd := srt_nodup c pk (nR c).toInt.toNat
  have am : a ∈ srt c pk (nR c).toInt.toNat := (srt_mem c pk _ a).2 ⟨by omega, hpk⟩
  have hm : ∀ v, v ∈ srt c pk (nR c).toInt.toNat → v < 32 := fun v hv => by have := ((srt_mem c pk _ v).1 hv).1; omega
  generalize srt c pk (nR c).toInt.toNat = L at *
  apply okP.bind
  have hp2 := w_cp (w_sl hp n) 0
  refine okP.mono (P := fun p => ∃ u' k : Nat, Sh c d (s', n, Int32.ofInt (u' : Nat)) p ∧ u' = k ∧ L[k]? = some a) ?_ ?_
  ·refine okP.loop (fun w : Int32 × Ob => ∃ i : Nat, w.1.toInt = (i : Int) ∧ i ≤ L.length ∧ ∃ u : Nat, Sh c d (s', n, Int32.ofInt (u : Nat)) w.2 ∧ (L[u]? = some a ∨ ∀ k, k < i → L[k]? ≠ some a)) (fun w => (40 - w.1.toInt).toNat) ⟨0, rfl, Nat.zero_le _, 0, hp2, Or.inr (fun k hk => absurd hk (Nat.not_lt_zero _))⟩ (by show (40 - (0 : Int)).toNat < 4000; decide) ?_
   rintro ⟨w, q⟩ ⟨i, hw, iL, u, hq, hu⟩
   simp only at hw hq
   unfold B7_114 J7_137
   simp only
   refine okP.ite (fun wc => ?_) (fun wc => ?_)
   ·rw [i_lt] at wc
    have e2 : (w + 1).toInt = w.toInt + 1 := inc1 (by omega)
    have lv := List.getElem?_eq_getElem (l := L) (i := i) (by omega)
    generalize L[i] = v at lv
    have v32 := hm v (List.mem_of_getElem? lv)
    have ag : aget (f_sorted q) w = some (Int32.ofInt (v : Nat)) := by
     rw [show f_sorted q = s' from g_so hq, aget_at hw (by omega)]
     obtain ⟨w1, w2⟩ := List.getElem?_eq_some_iff.1 (rep i v lv)
     rw [w2]
    rw [ag, Option.bind_some]
    refine okP.ite (fun ve => ?_) (fun ve => ?_)
    ·rw [i_eq, ofi (by omega), hx] at ve
     have va : v = a := by omega
     refine okP.some ⟨⟨i + 1, by simp only; omega, by omega, i, ?_, Or.inl (by rw [lv, va])⟩, by simp only; omega⟩
     show Sh c d (s', n, Int32.ofInt (i : Nat)) (s_curPos q w)
     rw [← ofI' hw]
     exact w_cp hq w
    ·rw [i_eq, ofi (by omega), hx] at ve
     refine okP.some ⟨⟨i + 1, by simp only; omega, by omega, u, hq, ?_⟩, by simp only; omega⟩
     rcases hu with hu | hu
     ·exact Or.inl hu
     ·right
      intro k hk
      by_cases ek : k = i
      ·subst ek
       rw [lv]
       intro w'
       have := Option.some.inj w'
       omega
      ·exact hu k (by omega)
   ·rw [i_lt] at wc
    refine okP.some ⟨u, u, hq, rfl, ?_⟩
    rcases hu with hu | hu
    ·exact hu
    ·obtain ⟨k, hk, ek⟩ := List.mem_iff_getElem.1 am
     exact absurd (by rw [List.getElem?_eq_getElem hk, ek]) (hu k (by omega))
  ·rintro q ⟨u, k, hq, rfl, hk⟩
   obtain ⟨ku, _⟩ := List.getElem?_eq_some_iff.1 hk
   exact okP.some ⟨s', n, _, hq, ls, rep, hn, u, ofi (by omega), hk⟩
def dI (c : CC) (a b : Nat) : Int := if dr c = 1 then (ky c b).toInt - (ky c a).toInt else if dr c = 2 then (ky c a).toInt - (ky c b).toInt else 0
def rS (c : CC) (a b pp pq : Nat) : Bool := if sk c = 0 then true else if sk c = 4 then true else if sk c = 2 then (per c a b || decide (pp < pq)) else if kN c a then (per c a b || decide (pp < pq)) else if kN c b then decide (nl c = 1) else if sk c = 1 then decide (-(so c).toInt ≤ dI c a b) else decide ((so c).toInt ≤ dI c a b)
def rE (c : CC) (a b pp pq : Nat) : Bool := if ek c = 4 then true else if ek c = 0 then true else if ek c = 2 then (per c a b || decide (pq < pp)) else if kN c a then (per c a b || decide (pq < pp)) else if kN c b then decide (nl c = 0) else if ek c = 1 then decide (dI c a b ≤ -(eo c).toInt) else decide (dI c a b ≤ (eo c).toInt)
def wS (c : CC) (pp pq : Nat) : Bool := if sk c = 1 then decide ((pp : Int) - (so c).toInt ≤ pq) else if sk c = 2 then decide (pp ≤ pq) else if sk c = 3 then decide ((pp : Int) + (so c).toInt ≤ pq) else true
def wE (c : CC) (pp pq : Nat) : Bool := if ek c = 1 then decide ((pq : Int) ≤ pp - (eo c).toInt) else if ek c = 2 then decide (pq ≤ pp) else if ek c = 3 then decide ((pq : Int) ≤ pp + (eo c).toInt) else true
def inF (c : CC) (a b pp pq : Nat) : Bool := if md c = 0 then wS c pp pq && wE c pp pq else rS c a b pp pq && rE c a b pp pq
theorem J_lt {x y : Int64} : x < y ↔ x.toInt < y.toInt := Int64.lt_iff_toInt_lt
theorem J_e (x : Int32) : x.toInt64.toInt = x.toInt := Int32.toInt_toInt64 x
theorem bI_m (b : Bool) : bI b &&& 1 = bI b := by cases b <;> decide
theorem cur_m {p q : Bool} {X : Prop} [Decidable X] (hq : q = decide X) : ((if bI p = 0 then (if X then (1 : Int32) else 0) else 1) &&& 1) = bI (p || q) := by
 subst hq
 cases p <;> by_cases h : X <;> simp [bI, h]
def HK (c : CC) : Prop := sk c = 0 ∧ ek c = 2
theorem rs_m {c : CC} {d : DD} {e : EE} {o : Ob} (h : Sh c d e o) (G : GX c) (K : HK c) {x : Int32} {a : Nat} (hx : x.toInt = a) (ha : a < 32) {y : Int32} {b : Nat} (hy : y.toInt = b) (hb : b < 32) {u v : Int32} {pp pq : Nat} (hu : u.toInt = pp) (hv : v.toInt = pq) : F12 o x y u v = some (bI (rS c a b pp pq)) := by
 unfold F12 rS
 rw [g_sk h, if_pos K.1, if_pos K.1]; rfl
theorem re_m {c : CC} {d : DD} {e : EE} {o : Ob} (h : Sh c d e o) (G : GX c) (K : HK c) {x : Int32} {a : Nat} (hx : x.toInt = a) (ha : a < 32) {y : Int32} {b : Nat} (hy : y.toInt = b) (hb : b < 32) {u v : Int32} {pp pq : Nat} (hu : u.toInt = pp) (hv : v.toInt = pq) : F13 o x y u v = some (bI (rE c a b pp pq)) := by
 have uv : decide (pq < pp) = decide (v < u) := by rw [decide_eq_decide, i_lt]; omega
 unfold F13 rE
 rw [g_ek h, K.2, per_m h G hx ha hy hb]
 simp only [Option.bind_some]
 simp only [if_neg (show ¬ (2 : Int32) = 4 by decide), if_neg (show ¬ (2 : Int32) = 0 by decide), if_true]
 rw [cur_m uv]
def HM (c : CC) : Prop := md c ≠ 0
theorem and_m {p q : Bool} {X : Option Int32} (hX : X = some (bI q)) : (if bI p = 0 then some (0 : Int32) else X.bind fun r => if r = 0 then some 0 else some 1) = some (bI (p && q)) := by
 subst hX
 cases p <;> cases q <;> rfl
theorem inf_m {c : CC} {d : DD} {e : EE} {o : Ob} (h : Sh c d e o) (G : GX c) (K : HK c) (M : HM c) {x : Int32} {a : Nat} (hx : x.toInt = a) (ha : a < 32) {y : Int32} {b : Nat} (hy : y.toInt = b) (hb : b < 32) {u v : Int32} {pp pq : Nat} (hu : u.toInt = pp) (hv : v.toInt = pq) : F11 o x y u v = some (bI (inF c a b pp pq)) := by
 unfold F11 inF
 rw [g_md h]
 by_cases m0 : md c = 0
 ·rw [if_pos m0, if_pos m0]
  exact absurd m0 M
 ·rw [if_neg m0, if_neg m0, rs_m h G K hx ha hy hb hu hv, Option.bind_some]
  exact and_m (re_m h G K hx ha hy hb hu hv)
abbrev Ag := Int32 × Int32 × Int64 × Int32 × Int32
def stp (c : CC) (q : Nat) (s : Ag) : Ag := if vN c q then (s.1 + 1, s.2.1, s.2.2.1, s.2.2.2.1, s.2.2.2.2) else (s.1 + 1, s.2.1 + 1, s.2.2.1 + (vl c q).toInt64, (if s.2.1 = 0 then vl c q else if vl c q < s.2.2.2.1 then vl c q else s.2.2.2.1), (if s.2.1 = 0 then vl c q else if s.2.2.2.2 < vl c q then vl c q else s.2.2.2.2))
def acc (c : CC) (g : Nat → Bool) (L : List Nat) : Nat → Ag
 | 0 => (0, 0, 0, 0, 0)
 | n + 1 => if g n then stp c (L.getD n 0) (acc c g L n) else acc c g L n
def agv (o : Ob) : Ag := (f_aggRows o, f_aggCount o, f_aggSum o, f_aggMin o, f_aggMax o)
theorem gL {L : List Nat} {i q : Nat} (h : L[i]? = some q) : L.getD i 0 = q := by rw [List.getD_eq_getElem?_getD, h]; rfl
theorem agg_m {c : CC} {d : DD} {e : EE} {o : Ob} (h : Sh c d e o) (G : GX c) (K : HK c) (M : HM c) {x : Int32} {a : Nat} (hx : x.toInt = a) (ha : a < 32) {L : List Nat} (hs : e.1.length = 32) (rep : Rep e.1 L) (hL : e.2.1.toInt = L.length) (L32 : L.length ≤ 32) (hm : ∀ q, q ∈ L → q < 32) {k : Nat} (hk : e.2.2.toInt = k) : okP (F10 o x) (fun p => Sh c d e p ∧ agv p = acc c (fun i => inF c a (L.getD i 0) k i) L L.length) := by
 obtain ⟨⟨G1, G2, G3, G4, r0, r1⟩, _⟩ := id G
 unfold F10
 rw [g_sl h, g_cp h]
 apply okP.bind
 have h' : Sh c d e (s_aggMax (s_aggMin (s_aggRows (s_aggCount (s_aggSum o 0) 0) 0) 0) 0) := Sh_aggMax (Sh_aggMin (Sh_aggRows (Sh_aggCount (Sh_aggSum h))))
 have v' : agv (s_aggMax (s_aggMin (s_aggRows (s_aggCount (s_aggSum o 0) 0) 0) 0) 0) = (0, 0, 0, 0, 0) := by dsimp only [agv, f_part, f_keys, f_vals, f_flg, f_res, f_resNull, f_frameCnt, f_sorted, f_cap, f_rows, f_direction, f_nulls, f_mode, f_startKind, f_startOff, f_endKind, f_endOff, f_fn, f_fnArg, f_computed, f_sortedLen, f_curPos, f_aggSum, f_aggCount, f_aggRows, f_aggMin, f_aggMax, s_part, s_keys, s_vals, s_flg, s_res, s_resNull, s_frameCnt, s_sorted, s_cap, s_rows, s_direction, s_nulls, s_mode, s_startKind, s_startOff, s_endKind, s_endOff, s_fn, s_fnArg, s_computed, s_sortedLen, s_curPos, s_aggSum, s_aggCount, s_aggRows, s_aggMin, s_aggMax]
 refine okP.mono (P := fun p => Sh c d e p ∧ agv p = acc c (fun i => inF c a (L.getD i 0) k i) L L.length) ?_ (fun p hp => okP.some hp)
 refine okP.loop (fun w : Int32 × Ob => ∃ i : Nat, w.1.toInt = (i : Int) ∧ i ≤ L.length ∧ Sh c d e w.2 ∧ agv w.2 = acc c (fun i => inF c a (L.getD i 0) k i) L i) (fun w => (40 - w.1.toInt).toNat) ⟨0, rfl, Nat.zero_le _, h', v'⟩ (by show (40 - (0 : Int)).toNat < 4000; decide) ?_
 rintro ⟨w, p⟩ ⟨i, hw, iL, hp, av⟩
 simp only at hw hp av
 unfold B10_38
 simp only
 refine okP.ite (fun wc => ?_) (fun wc => ?_)
 ·rw [i_lt] at wc
  have e2 : (w + 1).toInt = w.toInt + 1 := inc1 (by omega)
  have lv := List.getElem?_eq_getElem (l := L) (i := i) (by omega)
  generalize L[i] = q at lv
  have q32 := hm q (List.mem_of_getElem? lv)
  have eq := gL lv
  have ag : aget (f_sorted p) w = some (Int32.ofInt (q : Nat)) := by
   rw [g_so hp, aget_at hw (by omega)]
   obtain ⟨w1, w2⟩ := List.getElem?_eq_some_iff.1 (rep i q lv)
   rw [w2]
  have ac : acc c (fun i => inF c a (L.getD i 0) k i) L (i + 1) = if inF c a q k i then stp c q (agv p) else agv p := by
   rw [av]
   show (if inF c a (L.getD i 0) k i then stp c (L.getD i 0) _ else _) = _
   rw [eq]
  rw [ag, Option.bind_some, inf_m hp G K M hx ha (ofi (by omega)) q32 hk hw, Option.bind_some]
  have j166 : ∀ t : Ob, Sh c d e t → agv t = acc c (fun i => inF c a (L.getD i 0) k i) L (i + 1) → okP (J10_166 t x e.2.1 e.2.2 w) (fun r => Sum.elim (fun p => Sh c d e p ∧ agv p = acc c (fun i => inF c a (L.getD i 0) k i) L L.length) (fun v' : Int32 × Ob => (∃ i : Nat, v'.1.toInt = (i : Int) ∧ i ≤ L.length ∧ Sh c d e v'.2 ∧ agv v'.2 = acc c (fun i => inF c a (L.getD i 0) k i) L i) ∧ (40 - v'.1.toInt).toNat < (40 - w.toInt).toNat) r) := by
   intro t t1 t2
   exact okP.some ⟨⟨i + 1, by simp only; omega, by omega, t1, t2⟩, by simp only; omega⟩
  refine okP.ite (fun b0 => ?_) (fun b1 => ?_)
  ·rw [bI_0] at b0
   refine j166 p hp ?_
   rw [ac, b0]; rfl
  have b1 : inF c a q k i = true := by
   cases z : inF c a q k i
   ·rw [z] at b1; exact absurd rfl b1
   ·rfl
  rw [b1, if_pos rfl] at ac
  obtain ⟨q', hq'⟩ : ∃ q', q' = s_aggRows p (f_aggRows p + 1) := ⟨_, rfl⟩
  rw [← hq']
  have hqS : Sh c d e q' := by rw [hq']; exact Sh_aggRows hp
  have va : (f_aggRows q', f_aggCount q', f_aggSum q', f_aggMin q', f_aggMax q') = (f_aggRows p + 1, f_aggCount p, f_aggSum p, f_aggMin p, f_aggMax p) := by rw [hq']; dsimp only [f_part, f_keys, f_vals, f_flg, f_res, f_resNull, f_frameCnt, f_sorted, f_cap, f_rows, f_direction, f_nulls, f_mode, f_startKind, f_startOff, f_endKind, f_endOff, f_fn, f_fnArg, f_computed, f_sortedLen, f_curPos, f_aggSum, f_aggCount, f_aggRows, f_aggMin, f_aggMax, s_part, s_keys, s_vals, s_flg, s_res, s_resNull, s_frameCnt, s_sorted, s_cap, s_rows, s_direction, s_nulls, s_mode, s_startKind, s_startOff, s_endKind, s_endOff, s_fn, s_fnArg, s_computed, s_sortedLen, s_curPos, s_aggSum, s_aggCount, s_aggRows, s_aggMin, s_aggMax]
  clear hq'
  rw [vn_m hqS G (ofi (by omega)) q32, Option.bind_some]
  cases vn : vN c q
  ·rw [if_pos (by decide), g_vals hqS, ga G3 (ofi (by omega)) q32, Option.bind_some]
   show okP (if f_aggCount q' = 0 then (J10_116 q' x e.2.1 e.2.2 w (vl c q)) else (if vl c q < f_aggMin q' then (J10_116 q' x e.2.1 e.2.2 w (vl c q)) else (J10_122 q' x e.2.1 e.2.2 w (vl c q)))) _
   simp only [Prod.mk.injEq] at va
   obtain ⟨v1, v2, v3, v4, v5⟩ := va
   have sp : stp c q (agv p) = (f_aggRows p + 1, f_aggCount p + 1, f_aggSum p + (vl c q).toInt64, (if f_aggCount p = 0 then vl c q else if vl c q < f_aggMin p then vl c q else f_aggMin p), (if f_aggCount p = 0 then vl c q else if f_aggMax p < vl c q then vl c q else f_aggMax p)) := by
    unfold stp
    rw [vn]; rfl
   have j144 : ∀ t : Ob, Sh c d e t → (f_aggRows t, f_aggCount t, f_aggSum t, f_aggMin t, f_aggMax t) = (f_aggRows p + 1, f_aggCount p, f_aggSum p, (if f_aggCount p = 0 then vl c q else if vl c q < f_aggMin p then vl c q else f_aggMin p), (if f_aggCount p = 0 then vl c q else if f_aggMax p < vl c q then vl c q else f_aggMax p)) → okP (J10_144 t x e.2.1 e.2.2 w (vl c q)) (fun r => Sum.elim (fun p => Sh c d e p ∧ agv p = acc c (fun i => inF c a (L.getD i 0) k i) L L.length) (fun v' : Int32 × Ob => (∃ i : Nat, v'.1.toInt = (i : Int) ∧ i ≤ L.length ∧ Sh c d e v'.2 ∧ agv v'.2 = acc c (fun i => inF c a (L.getD i 0) k i) L i) ∧ (40 - v'.1.toInt).toNat < (40 - w.toInt).toNat) r) := by
    intro t t1 t2
    unfold J10_144
    refine j166 _ (Sh_aggSum (Sh_aggCount t1)) ?_
    rw [ac, sp]
    simp only [Prod.mk.injEq] at t2
    obtain ⟨u1, u2, u3, u4, u5⟩ := t2
    have : agv (s_aggSum (s_aggCount t (f_aggCount t + 1)) (f_aggSum t + (vl c q).toInt64)) = (f_aggRows t, f_aggCount t + 1, f_aggSum t + (vl c q).toInt64, f_aggMin t, f_aggMax t) := by dsimp only [agv, f_part, f_keys, f_vals, f_flg, f_res, f_resNull, f_frameCnt, f_sorted, f_cap, f_rows, f_direction, f_nulls, f_mode, f_startKind, f_startOff, f_endKind, f_endOff, f_fn, f_fnArg, f_computed, f_sortedLen, f_curPos, f_aggSum, f_aggCount, f_aggRows, f_aggMin, f_aggMax, s_part, s_keys, s_vals, s_flg, s_res, s_resNull, s_frameCnt, s_sorted, s_cap, s_rows, s_direction, s_nulls, s_mode, s_startKind, s_startOff, s_endKind, s_endOff, s_fn, s_fnArg, s_computed, s_sortedLen, s_curPos, s_aggSum, s_aggCount, s_aggRows, s_aggMin, s_aggMax]
    rw [this, u1, u2, u3, u4, u5]
   have j122 : ∀ t : Ob, Sh c d e t → (f_aggRows t, f_aggCount t, f_aggSum t, f_aggMin t, f_aggMax t) = (f_aggRows p + 1, f_aggCount p, f_aggSum p, (if f_aggCount p = 0 then vl c q else if vl c q < f_aggMin p then vl c q else f_aggMin p), f_aggMax p) → okP (J10_122 t x e.2.1 e.2.2 w (vl c q)) (fun r => Sum.elim (fun p => Sh c d e p ∧ agv p = acc c (fun i => inF c a (L.getD i 0) k i) L L.length) (fun v' : Int32 × Ob => (∃ i : Nat, v'.1.toInt = (i : Int) ∧ i ≤ L.length ∧ Sh c d e v'.2 ∧ agv v'.2 = acc c (fun i => inF c a (L.getD i 0) k i) L i) ∧ (40 - v'.1.toInt).toNat < (40 - w.toInt).toNat) r) := by
    intro t t1 t2
    simp only [Prod.mk.injEq] at t2
    obtain ⟨u1, u2, u3, u4, u5⟩ := t2
    have mx : ∀ y, (f_aggRows (s_aggMax t y), f_aggCount (s_aggMax t y), f_aggSum (s_aggMax t y), f_aggMin (s_aggMax t y), f_aggMax (s_aggMax t y)) = (f_aggRows t, f_aggCount t, f_aggSum t, f_aggMin t, y) := fun y => by dsimp only [f_part, f_keys, f_vals, f_flg, f_res, f_resNull, f_frameCnt, f_sorted, f_cap, f_rows, f_direction, f_nulls, f_mode, f_startKind, f_startOff, f_endKind, f_endOff, f_fn, f_fnArg, f_computed, f_sortedLen, f_curPos, f_aggSum, f_aggCount, f_aggRows, f_aggMin, f_aggMax, s_part, s_keys, s_vals, s_flg, s_res, s_resNull, s_frameCnt, s_sorted, s_cap, s_rows, s_direction, s_nulls, s_mode, s_startKind, s_startOff, s_endKind, s_endOff, s_fn, s_fnArg, s_computed, s_sortedLen, s_curPos, s_aggSum, s_aggCount, s_aggRows, s_aggMin, s_aggMax]
    unfold J10_122 J10_138
    rw [u2, u5]
    refine okP.ite (fun z => ?_) (fun z => ?_)
    ·refine j144 _ (Sh_aggMax t1) ?_
     rw [mx, u1, u2, u3, u4, if_pos z, if_pos z]
    refine okP.ite (fun z' => ?_) (fun z' => ?_)
    ·refine j144 _ (Sh_aggMax t1) ?_
     rw [mx, u1, u2, u3, u4, if_neg z, if_neg z, if_pos z']
    ·refine j144 _ t1 ?_
     rw [u1, u2, u3, u4, u5, if_neg z, if_neg z, if_neg z']
   have j116 : (f_aggCount p = 0 ∨ vl c q < f_aggMin p) → okP (J10_116 q' x e.2.1 e.2.2 w (vl c q)) (fun r => Sum.elim (fun p => Sh c d e p ∧ agv p = acc c (fun i => inF c a (L.getD i 0) k i) L L.length) (fun v' : Int32 × Ob => (∃ i : Nat, v'.1.toInt = (i : Int) ∧ i ≤ L.length ∧ Sh c d e v'.2 ∧ agv v'.2 = acc c (fun i => inF c a (L.getD i 0) k i) L i) ∧ (40 - v'.1.toInt).toNat < (40 - w.toInt).toNat) r) := by
    intro z
    unfold J10_116
    refine j122 _ (Sh_aggMin hqS) ?_
    have mn : (f_aggRows (s_aggMin q' (vl c q)), f_aggCount (s_aggMin q' (vl c q)), f_aggSum (s_aggMin q' (vl c q)), f_aggMin (s_aggMin q' (vl c q)), f_aggMax (s_aggMin q' (vl c q))) = (f_aggRows q', f_aggCount q', f_aggSum q', vl c q, f_aggMax q') := by dsimp only [f_part, f_keys, f_vals, f_flg, f_res, f_resNull, f_frameCnt, f_sorted, f_cap, f_rows, f_direction, f_nulls, f_mode, f_startKind, f_startOff, f_endKind, f_endOff, f_fn, f_fnArg, f_computed, f_sortedLen, f_curPos, f_aggSum, f_aggCount, f_aggRows, f_aggMin, f_aggMax, s_part, s_keys, s_vals, s_flg, s_res, s_resNull, s_frameCnt, s_sorted, s_cap, s_rows, s_direction, s_nulls, s_mode, s_startKind, s_startOff, s_endKind, s_endOff, s_fn, s_fnArg, s_computed, s_sortedLen, s_curPos, s_aggSum, s_aggCount, s_aggRows, s_aggMin, s_aggMax]
    rw [mn, v1, v2, v3, v5]
    have : (if f_aggCount p = 0 then vl c q else if vl c q < f_aggMin p then vl c q else f_aggMin p) = vl c q := by
     rcases z with z | z
     ·rw [if_pos z]
     ·by_cases z' : f_aggCount p = 0
      ·rw [if_pos z']
      ·rw [if_neg z', if_pos z]
    rw [this]
   rw [v2, v4]
   refine okP.ite (fun z => j116 (Or.inl z)) (fun z => ?_)
   refine okP.ite (fun z' => j116 (Or.inr z')) (fun z' => ?_)
   refine j122 q' hqS ?_
   rw [v1, v2, v3, v4, v5, if_neg z, if_neg z']
  ·rw [if_neg (by decide)]
   refine j166 q' hqS ?_
   rw [ac]
   unfold stp
   rw [vn]
   exact va
 ·rw [i_lt] at wc
  have : i = L.length := by omega
  rw [this] at av
  exact okP.some ⟨hp, av⟩
theorem sr_m {c : CC} {d : DD} {e : EE} {o : Ob} (h : Sh c d e o) (D : GD d) {x : Int32} {a : Nat} (hx : x.toInt = a) (ha : a < 32) (v : Int64) (b : Bool) : okP (F17 o x v (bI b)) (fun p => Sh c (d.1.set a (if b then 0 else v), d.2.1.set a (bI b), d.2.2) e p) := by
 unfold F17
 rw [g_nul h, g_res h, aset_at hx (by rw [D.2.1]; omega), Option.bind_some, aset_at hx (by rw [D.1]; omega), Option.bind_some, bI_m]
 have := w_rn h (d.1.set a (if bI b = 0 then v else 0)) (d.2.1.set a (bI b))
 have e1 : (if bI b = 0 then v else 0) = (if b then 0 else v) := by cases b <;> rfl
 rw [e1] at this ⊢
 exact okP.some this
def rkv (c : CC) (L : List Nat) (a : Nat) : Nat → Int64
 | 0 => 1
 | n + 1 => if per c (L.getD n 0) a then rkv c L a n else rkv c L a n + 1
theorem rank_m {c : CC} {d : DD} {e : EE} {o : Ob} (h : Sh c d e o) (G : GX c) {x : Int32} {a : Nat} (hx : x.toInt = a) (ha : a < 32) {L : List Nat} (hs : e.1.length = 32) (rep : Rep e.1 L) (hL : e.2.1.toInt = L.length) (L32 : L.length ≤ 32) (hm : ∀ q, q ∈ L → q < 32) {u : Int32} {k : Nat} (hk : u.toInt = k) (kL : k < L.length) : F25 o x u = some (rkv c L a k) := by
 have : okP (F25 o x u) (fun r => r = rkv c L a k) := by
  unfold F25
  apply okP.bind
  refine okP.mono (P := fun r => r = rkv c L a k) ?_ (fun r hr => okP.some hr)
  refine okP.loop (fun w : Int64 × Int32 => ∃ i : Nat, w.2.toInt = (i : Int) ∧ i ≤ k ∧ w.1 = rkv c L a i) (fun w => (40 - w.2.toInt).toNat) ⟨0, rfl, Nat.zero_le _, rfl⟩ (by show (40 - (0 : Int)).toNat < 4000; decide) ?_
  rintro ⟨t, w⟩ ⟨i, hw, ik, ht⟩
  simp only at hw ht
  unfold B25_5
  simp only
  refine okP.ite (fun wc => ?_) (fun wc => ?_)
  ·rw [i_lt] at wc
   have e2 : (w + 1).toInt = w.toInt + 1 := inc1 (by omega)
   rw [if_pos (by rw [i_lt, g_sl h]; omega)]
   have lv := List.getElem?_eq_getElem (l := L) (i := i) (by omega)
   generalize L[i] = q at lv
   have q32 := hm q (List.mem_of_getElem? lv)
   have ag : aget (f_sorted o) w = some (Int32.ofInt (q : Nat)) := by
    rw [g_so h, aget_at hw (by omega)]
    obtain ⟨w1, w2⟩ := List.getElem?_eq_some_iff.1 (rep i q lv)
    rw [w2]
   rw [ag, Option.bind_some, per_m h G (ofi (by omega)) q32 hx ha, Option.bind_some]
   refine okP.some ⟨⟨i + 1, by simp only; omega, by omega, ?_⟩, by simp only; omega⟩
   show (if bI (per c q a) = 0 then t + 1 else t) = (if per c (L.getD i 0) a then rkv c L a i else rkv c L a i + 1)
   rw [gL lv, ht]
   cases per c q a <;> rfl
  ·rw [i_lt] at wc
   have : i = k := by omega
   rw [this] at ht
   exact okP.some ht
 obtain ⟨r, h1, h2⟩ := this
 rw [h1, h2]
def RV (c : CC) (L : List Nat) (a k : Nat) (s : Ag) : Int64 × Bool :=
 if fn' c = 0 then (s.2.2.1, decide (s.2.1 = 0)) else if fn' c = 1 then (s.2.1.toInt64, false) else if fn' c = 2 then (s.1.toInt64, false) else if fn' c = 3 then (s.2.2.2.1.toInt64, decide (s.2.1 = 0)) else if fn' c = 4 then (s.2.2.2.2.toInt64, decide (s.2.1 = 0)) else
 if fn' c = 6 then (rkv c L a k, false) else
 (0, false)
def HF (c : CC) : Prop := fn' c = 0 ∨ fn' c = 1 ∨ fn' c = 2 ∨ fn' c = 3 ∨ fn' c = 4
 ∨ fn' c = 6
theorem app_m {c : CC} {d : DD} {e : EE} {o : Ob} (h : Sh c d e o) (G : GX c) (D : GD d) (F : HF c) {x : Int32} {a : Nat} (hx : x.toInt = a) (ha : a < 32) {L : List Nat} (hs : e.1.length = 32) (rep : Rep e.1 L) (hL : e.2.1.toInt = L.length) (L32 : L.length ≤ 32) (hm : ∀ q, q ∈ L → q < 32) {k : Nat} (hk : e.2.2.toInt = k) (kL : k < L.length) : okP (F16 o x) (fun p => Sh c (d.1.set a (if (RV c L a k (agv o)).2 then 0 else (RV c L a k (agv o)).1), d.2.1.set a (bI (RV c L a k (agv o)).2), d.2.2) e p) := by
 have fin : ∀ (v : Int64) (b : Bool), RV c L a k (agv o) = (v, b) → okP ((F17 o x v (bI b)).bind fun r => some r) (fun p => Sh c (d.1.set a (if (RV c L a k (agv o)).2 then 0 else (RV c L a k (agv o)).1), d.2.1.set a (bI (RV c L a k (agv o)).2), d.2.2) e p) := by
  intro v b hv
  rw [hv]
  apply okP.bind
  exact okP.mono (sr_m h D hx ha v b) (fun p hp => okP.some hp)
 have dd : ∀ z : Int32, (if z = 0 then (1 : Int32) else 0) = bI (decide (z = 0)) := fun z => by by_cases q : z = 0 <;> simp [q, bI]
 have gf : f_fn o = fn' c := g_fn h
 unfold F16
 rw [gf, dd]
 rcases F with f | f | f | f | f | F
 ·rw [f, if_pos rfl]
  exact fin _ _ (by unfold RV; rw [f]; rfl)
 ·rw [f, if_neg (by decide), if_pos rfl]
  exact fin _ false (by unfold RV; rw [f]; rfl)
 ·rw [f, if_neg (by decide), if_neg (by decide), if_pos rfl]
  exact fin _ false (by unfold RV; rw [f]; rfl)
 ·rw [f, if_neg (by decide), if_neg (by decide), if_neg (by decide), if_pos rfl]
  exact fin _ _ (by unfold RV; rw [f]; rfl)
 ·rw [f, if_neg (by decide), if_neg (by decide), if_neg (by decide), if_neg (by decide), if_pos rfl]
  exact fin _ _ (by unfold RV; rw [f]; rfl)
 have f := F
 ·rw [f, if_neg (by decide), if_neg (by decide), if_neg (by decide), if_neg (by decide), if_neg (by decide), if_neg (by decide), if_pos rfl, g_cp h, rank_m h G hx ha hs rep hL L32 hm hk kL, Option.bind_some]
  exact fin _ false (by unfold RV; rw [f]; rfl)
def LL (c : CC) (a : Nat) : List Nat := srt c (pt c a) (nR c).toInt.toNat
def AG (c : CC) (a k : Nat) : Ag := acc c (fun i => inF c a ((LL c a).getD i 0) k i) (LL c a) (LL c a).length
def Row (c : CC) (d : DD) (a : Nat) : Prop := ∃ k, (LL c a)[k]? = some a ∧ d.2.2[a]? = some (AG c a k).1 ∧ d.2.1[a]? = some (bI (RV c (LL c a) a k (AG c a k)).2) ∧ d.1[a]? = some (if (RV c (LL c a) a k (AG c a k)).2 then 0 else (RV c (LL c a) a k (AG c a k)).1)
def Rows (c : CC) (d : DD) (n : Nat) : Prop := GD d ∧ ∀ a, a < n → Row c d a
theorem row_m {c : CC} {d : DD} {e : EE} {o : Ob} (h : Sh c d e o) (G : GX c) (K : HK c) (M : HM c) (F : HF c) (hs : e.1.length = 32) {x : Int32} {a : Nat} (hx : x.toInt = a) (ha : (a : Int) < (nR c).toInt) (D : Rows c d a) : okP (F6 o x) (fun p => ∃ d' e', Rows c d' (a + 1) ∧ e'.1.length = 32 ∧ Sh c d' e' p) := by
 obtain ⟨⟨D1, D2, D3⟩, Dr⟩ := D
 have r1 : (nR c).toInt ≤ 32 := G.1.2.2.2.2.2
 have a32 : a < 32 := by omega
 unfold F6
 apply okP.bind
 refine okP.mono (build_m h G hs hx ha) ?_
 rintro p ⟨s', n', u', hp, ls, rep, hn, k, hk, kk⟩
 have L32 : (LL c a).length ≤ 32 := Nat.le_trans (srt_len _ _ _) (by omega)
 have hm : ∀ q, q ∈ LL c a → q < 32 := fun q hq => by have := ((srt_mem c _ _ q).1 hq).1; omega
 obtain ⟨kL, _⟩ := List.getElem?_eq_some_iff.1 kk
 apply okP.bind
 refine okP.mono (agg_m hp G K M hx a32 (L := LL c a) ls rep hn L32 hm hk) ?_
 rintro q ⟨hq, av⟩
 rw [g_fc hq, aset_at hx (by omega), Option.bind_some]
 have hq2 := w_fc hq (d.2.2.set a (f_aggRows q))
 have av2 : agv (s_frameCnt q (d.2.2.set a (f_aggRows q))) = agv q := by dsimp only [agv, f_part, f_keys, f_vals, f_flg, f_res, f_resNull, f_frameCnt, f_sorted, f_cap, f_rows, f_direction, f_nulls, f_mode, f_startKind, f_startOff, f_endKind, f_endOff, f_fn, f_fnArg, f_computed, f_sortedLen, f_curPos, f_aggSum, f_aggCount, f_aggRows, f_aggMin, f_aggMax, s_part, s_keys, s_vals, s_flg, s_res, s_resNull, s_frameCnt, s_sorted, s_cap, s_rows, s_direction, s_nulls, s_mode, s_startKind, s_startOff, s_endKind, s_endOff, s_fn, s_fnArg, s_computed, s_sortedLen, s_curPos, s_aggSum, s_aggCount, s_aggRows, s_aggMin, s_aggMax]
 have er : f_aggRows q = (AG c a k).1 := congrArg (fun s : Ag => s.1) av
 obtain ⟨t, ht⟩ : ∃ t, t = s_frameCnt q (d.2.2.set a (f_aggRows q)) := ⟨_, rfl⟩
 rw [← ht] at hq2 av2 ⊢
 clear ht
 rw [er] at hq2
 apply okP.bind
 refine okP.mono (app_m hq2 G ⟨D1, D2, by simp only [List.length_set]; exact D3⟩ F hx a32 (L := LL c a) ls rep hn L32 hm hk kL) ?_
 intro w hw
 rw [av2, av] at hw
 refine okP.some ⟨_, _, ⟨⟨by simp only [List.length_set]; exact D1, by simp only [List.length_set]; exact D2, by simp only [List.length_set]; exact D3⟩, fun b hb => ?_⟩, ls, hw⟩
 by_cases eb : a = b
 ·subst eb
  refine ⟨k, kk, ?_, ?_, ?_⟩
  ·simp only; rw [List.getElem?_set_self (by omega)]
  ·simp only; rw [List.getElem?_set_self (by omega)]; rfl
  ·simp only; rw [List.getElem?_set_self (by omega)]; rfl
 ·obtain ⟨k', k1, k2, k3, k4⟩ := Dr b (by omega)
  refine ⟨k', k1, ?_, ?_, ?_⟩
  ·simp only; rw [List.getElem?_set_ne eb]; exact k2
  ·simp only; rw [List.getElem?_set_ne eb]; exact k3
  ·simp only; rw [List.getElem?_set_ne eb]; exact k4
def NO (c : CC) : Prop := md c = 1 ∧ dr c = 0 ∧ (sk c = 1 ∨ sk c = 3 ∨ ek c = 1 ∨ ek c = 3)
theorem need_m {c : CC} {d : DD} {e : EE} {o : Ob} (h : Sh c d e o) : (F5 o = some 1 ∧ NO c) ∨ (F5 o = some 0 ∧ ¬ NO c) := by
 unfold F5 NO
 rw [g_md h, g_dr h, g_sk h, g_ek h]
 by_cases a1 : md c = 1
 ·by_cases a2 : dr c = 0
  ·by_cases b1 : sk c = 1
   ·left; simp [a1, a2, b1]
   ·by_cases b3 : sk c = 3
    ·left; simp [a1, a2, b3]
    ·by_cases e1 : ek c = 1
     ·left; simp [a1, a2, b1, b3, e1]
     ·by_cases e3 : ek c = 3
      ·left; simp [a1, a2, b1, b3, e3]
      ·right; simp [a1, a2, b1, b3, e1, e3]
  ·right; simp [a1, a2]
 ·right; simp [a1]
theorem comp_m {c : CC} {d : DD} {e : EE} {o : Ob} (h : Sh c d e o) (G : GX c) (K : HK c) (M : HM c) (F : HF c) (D : GD d) (hs : e.1.length = 32) : okP (F4 o) (fun r => (r = (-1, o) ∧ NO c) ∨ (¬ NO c ∧ r.1 = 0 ∧ f_computed r.2 = 1 ∧ ∃ d' e', Rows c d' (nR c).toInt.toNat ∧ e'.1.length = 32 ∧ Sh c d' e' r.2)) := by
 have r0 : 0 ≤ (nR c).toInt := G.1.2.2.2.2.1
 have r1 : (nR c).toInt ≤ 32 := G.1.2.2.2.2.2
 unfold F4
 rcases need_m h with ⟨q, n⟩ | ⟨q, n⟩
 ·rw [q, Option.bind_some, if_neg (by decide)]
  exact okP.some (Or.inl ⟨rfl, n⟩)
 rw [q, Option.bind_some, if_pos rfl]
 apply okP.bind
 refine okP.mono (P := fun r => r.1 = 0 ∧ f_computed r.2 = 1 ∧ ∃ d' e', Rows c d' (nR c).toInt.toNat ∧ e'.1.length = 32 ∧ Sh c d' e' r.2) ?_ (fun r hr => okP.some (Or.inr ⟨n, hr⟩))
 refine okP.loop (fun w : Int32 × Ob => ∃ i : Nat, w.1.toInt = (i : Int) ∧ (i : Int) ≤ (nR c).toInt ∧ ∃ d' e', Rows c d' i ∧ e'.1.length = 32 ∧ Sh c d' e' w.2) (fun w => (40 - w.1.toInt).toNat) ⟨0, rfl, r0, d, e, ⟨D, fun a ha => absurd ha (Nat.not_lt_zero _)⟩, hs, h⟩ (by show (40 - (0 : Int)).toNat < 4000; decide) ?_
 rintro ⟨w, p⟩ ⟨i, hw, iL, d', e', R, hs', hp⟩
 simp only at hw hp
 unfold B4_11
 simp only
 have gr : f_rows p = nR c := g_rows hp
 rw [gr]
 refine okP.ite (fun wc => ?_) (fun wc => ?_)
 ·rw [i_lt] at wc
  have e2 : (w + 1).toInt = w.toInt + 1 := inc1 (by omega)
  apply okP.bind
  refine okP.mono (row_m hp G K M F hs' hw (by omega) R) ?_
  rintro q ⟨d2, e2', R2, hs2, hq⟩
  exact okP.some ⟨⟨i + 1, by simp only; omega, by omega, d2, e2', R2, hs2, hq⟩, by simp only; omega⟩
 ·rw [i_lt] at wc
  have : i = (nR c).toInt.toNat := by omega
  subst this
  refine okP.some ⟨rfl, by dsimp only [f_computed, s_computed], d', e', R, hs', ?_⟩
  obtain ⟨t1, t2, t3⟩ := hp
  dsimp only [Sh, f_part, f_keys, f_vals, f_flg, f_res, f_resNull, f_frameCnt, f_sorted, f_cap, f_rows, f_direction, f_nulls, f_mode, f_startKind, f_startOff, f_endKind, f_endOff, f_fn, f_fnArg, f_computed, f_sortedLen, f_curPos, f_aggSum, f_aggCount, f_aggRows, f_aggMin, f_aggMax, s_computed] at t1 t2 t3 ⊢
  exact ⟨t1, t2, t3⟩
theorem per_lt {c : CC} {L : List Nat} (S : L.Pairwise (fun a b => bef c a b = true)) {k i a q : Nat} (hk : L[k]? = some a) (hi : L[i]? = some q) : (per c a q || decide (k < i)) = decide (cl c a ≤ cl c q) := by
 obtain ⟨k1, k2⟩ := List.getElem?_eq_some_iff.1 hk
 obtain ⟨i1, i2⟩ := List.getElem?_eq_some_iff.1 hi
 have P := List.pairwise_iff_getElem.1 S
 rcases Nat.lt_trichotomy k i with h | h | h
 ·have := P k i k1 i1 h
  rw [k2, i2] at this
  unfold bef at this
  rw [decide_eq_true_eq] at this
  rw [decide_eq_true h, Bool.or_true, decide_eq_true (by omega)]
 ·subst h
  have : a = q := by rw [← k2, i2]
  subst this
  rw [decide_eq_true (Int.le_refl _)]
  unfold per
  rw [decide_eq_true rfl]; rfl
 ·have := P i k i1 k1 h
  rw [k2, i2] at this
  unfold bef at this
  rw [decide_eq_true_eq] at this
  rw [decide_eq_false (show ¬ k < i by omega), Bool.or_false]
  unfold per
  rw [decide_eq_decide]; omega
theorem per_gt {c : CC} {L : List Nat} (S : L.Pairwise (fun a b => bef c a b = true)) {k i a q : Nat} (hk : L[k]? = some a) (hi : L[i]? = some q) : (per c a q || decide (i < k)) = decide (cl c q ≤ cl c a) := by
 obtain ⟨k1, k2⟩ := List.getElem?_eq_some_iff.1 hk
 obtain ⟨i1, i2⟩ := List.getElem?_eq_some_iff.1 hi
 have P := List.pairwise_iff_getElem.1 S
 rcases Nat.lt_trichotomy k i with h | h | h
 ·have := P k i k1 i1 h
  rw [k2, i2] at this
  unfold bef at this
  rw [decide_eq_true_eq] at this
  rw [decide_eq_false (show ¬ i < k by omega), Bool.or_false]
  unfold per
  rw [decide_eq_decide]; omega
 ·subst h
  have : a = q := by rw [← k2, i2]
  subst this
  rw [decide_eq_true (Int.le_refl _)]
  unfold per
  rw [decide_eq_true rfl]; rfl
 ·have := P i k i1 k1 h
  rw [k2, i2] at this
  unfold bef at this
  rw [decide_eq_true_eq] at this
  rw [decide_eq_true h, Bool.or_true, decide_eq_true (by omega)]
theorem acc_congr {c : CC} {L : List Nat} {g g' : Nat → Bool} : ∀ {n : Nat}, (∀ i, i < n → g i = g' i) → acc c g L n = acc c g' L n
 | 0, _ => rfl
 | n + 1, h => by
  show (if g n then _ else _) = (if g' n then _ else _)
  rw [h n (by omega), acc_congr (n := n) (fun i hi => h i (by omega))]
def tq (o : Ob) : CC := (f_part o, f_keys o, f_vals o, f_flg o, f_rows o, f_cap o, f_direction o, f_nulls o, f_mode o, f_startKind o, f_startOff o, f_endKind o, f_endOff o, f_fn o, f_fnArg o)
def dq (o : Ob) : DD := (f_res o, f_resNull o, f_frameCnt o)
def eq' (o : Ob) : EE := (f_sorted o, f_sortedLen o, f_curPos o)
theorem Sh_q (o : Ob) : Sh (tq o) (dq o) (eq' o) o := ⟨rfl, rfl, rfl⟩
def St (o : Ob) (K : Int32) : Prop := GX (tq o) ∧ GD (dq o) ∧ (f_sorted o).length = 32 ∧ f_cap o = K
theorem Sh_c {c : CC} {d : DD} {e : EE} {o : Ob} (h : Sh c d e o) : tq o = c ∧ dq o = d ∧ eq' o = e := h

def lsum (f : Nat → Int64) : List Nat → Int64
 | [] => 0
 | a :: l => f a + lsum f l
theorem lsum_ap (f : Nat → Int64) (a : Nat) : ∀ l, lsum f (l ++ [a]) = lsum f l + f a
 | [] => by show f a + 0 = 0 + f a; rw [Int64.add_zero, Int64.zero_add]
 | b :: l => by show f b + lsum f (l ++ [a]) = f b + lsum f l + f a; rw [lsum_ap f a l, Int64.add_assoc]
theorem lsum_ins (f : Nat → Int64) (g : Nat → Bool) (r : Nat) : ∀ l, lsum f (insL g r l) = lsum f l + f r
 | [] => by show f r + 0 = 0 + f r; rw [Int64.add_zero, Int64.zero_add]
 | b :: l => by
  show lsum f (if g b then r :: b :: l else b :: insL g r l) = f b + lsum f l + f r
  split
  ·show f r + (f b + lsum f l) = _
   rw [Int64.add_comm]
  ·show f b + lsum f (insL g r l) = _
   rw [lsum_ins f g r l, Int64.add_assoc]
def csum (f : Nat → Int32) : List Nat → Int32
 | [] => 0
 | a :: l => f a + csum f l
theorem csum_ap (f : Nat → Int32) (a : Nat) : ∀ l, csum f (l ++ [a]) = csum f l + f a
 | [] => by show f a + 0 = 0 + f a; rw [Int32.add_zero, Int32.zero_add]
 | b :: l => by show f b + csum f (l ++ [a]) = f b + csum f l + f a; rw [csum_ap f a l, Int32.add_assoc]
theorem csum_ins (f : Nat → Int32) (g : Nat → Bool) (r : Nat) : ∀ l, csum f (insL g r l) = csum f l + f r
 | [] => by show f r + 0 = 0 + f r; rw [Int32.add_zero, Int32.zero_add]
 | b :: l => by
  show csum f (if g b then r :: b :: l else b :: insL g r l) = f b + csum f l + f r
  split
  ·show f r + (f b + csum f l) = _
   rw [Int32.add_comm]
  ·show f b + csum f (insL g r l) = _
   rw [csum_ins f g r l, Int32.add_assoc]
def Hc (c : CC) : Prop := GX c ∧ (∀ r, r < 3 → pt c r = 0 ∧ fg c r = 0) ∧ nR c = 3 ∧ dr c = 1 ∧ md c = 1 ∧ sk c = 0 ∧ ek c = 2
def f1 (c : CC) (u : Int32) (q : Nat) : Int32 := if u < ky c q then 0 else 1
def f2 (c : CC) (u : Int32) (q : Nat) : Int64 := if u < ky c q then 0 else (vl c q).toInt64
def f3 (c : CC) (u : Int32) (q : Nat) : Int64 := if ky c q < u then 1 else 0
theorem Hc.eL {c : CC} (H : Hc c) {r : Nat} (hr : r < 3) : LL c r = srt c 0 3 := by
 obtain ⟨_, h1, h2, _⟩ := H
 unfold LL
 rw [(h1 r hr).1, h2]; rfl
theorem Hc.ecl {c : CC} (H : Hc c) {q : Nat} (hq : q < 3) : cl c q = (ky c q).toInt ∧ vN c q = false := by
 obtain ⟨_, h1, h2, h3, _⟩ := H
 unfold cl vN kN
 rw [(h1 q hq).2, h3, if_neg (by decide)]
 exact ⟨rfl, rfl⟩
theorem Hc.mem {c : CC} {q : Nat} (hq : q ∈ srt c 0 3) : q < 3 := ((srt_mem c 0 3 q).1 hq).1
theorem Hc.sum {c : CC} (H : Hc c) (f : Nat → Int64) : lsum f (srt c 0 3) = 0 + f 0 + f 1 + f 2 := by
 obtain ⟨_, h1, _⟩ := H
 have e : ∀ n, n < 3 → srt c 0 (n + 1) = insL (bef c n) n (srt c 0 n) := fun n hn => if_pos (h1 n hn).1
 rw [e 2 (by omega), lsum_ins, e 1 (by omega), lsum_ins, e 0 (by omega), lsum_ins]
 rfl
theorem Hc.cnt {c : CC} (H : Hc c) (f : Nat → Int32) : csum f (srt c 0 3) = 0 + f 0 + f 1 + f 2 := by
 obtain ⟨_, h1, _⟩ := H
 have e : ∀ n, n < 3 → srt c 0 (n + 1) = insL (bef c n) n (srt c 0 n) := fun n hn => if_pos (h1 n hn).1
 rw [e 2 (by omega), csum_ins, e 1 (by omega), csum_ins, e 0 (by omega), csum_ins]
 rfl
theorem acc_sum {c : CC} {u : Int32} {L : List Nat} (hv : ∀ q, q ∈ L → vN c q = false) : ∀ n, n ≤ L.length → (acc c (fun i => decide (¬ u < ky c (L.getD i 0))) L n).1 = csum (f1 c u) (L.take n) ∧ (acc c (fun i => decide (¬ u < ky c (L.getD i 0))) L n).2.1 = csum (f1 c u) (L.take n) ∧ (acc c (fun i => decide (¬ u < ky c (L.getD i 0))) L n).2.2.1 = lsum (f2 c u) (L.take n)
 | 0, _ => by rw [List.take_zero]; exact ⟨rfl, rfl, rfl⟩
 | n + 1, h => by
  obtain ⟨i1, i2, i3⟩ := acc_sum (u := u) hv n (by omega)
  have lv := List.getElem?_eq_getElem (l := L) (i := n) (by omega)
  have e : acc c (fun i => decide (¬ u < ky c (L.getD i 0))) L (n + 1) = if decide (¬ u < ky c (L.getD n 0)) = true then stp c (L.getD n 0) (acc c (fun i => decide (¬ u < ky c (L.getD i 0))) L n) else acc c (fun i => decide (¬ u < ky c (L.getD i 0))) L n := rfl
  rw [e, ← List.take_append_getElem (show n < L.length by omega), csum_ap, lsum_ap, ← i1, ← i3, gL lv]
  have i12 : (acc c (fun i => decide (¬ u < ky c (L.getD i 0))) L n).2.1 = (acc c (fun i => decide (¬ u < ky c (L.getD i 0))) L n).1 := i2.trans i1.symm
  generalize acc c (fun i => decide (¬ u < ky c (L.getD i 0))) L n = s at *
  have v := hv L[n] (List.getElem_mem _)
  generalize L[n] = q at *
  unfold f1 f2
  by_cases w : u < ky c q
  ·rw [if_neg (by simp [w]), if_pos w, if_pos w, Int32.add_zero, Int64.add_zero]
   exact ⟨rfl, i12, rfl⟩
  ·rw [if_pos (by simp [w]), if_neg w, if_neg w]
   unfold stp
   rw [v]
   simp only [Bool.false_eq_true, if_false]
   rw [i12]
   refine ⟨?_, ?_, ?_⟩ <;> first | trivial | rfl
theorem Hc.ag {c : CC} (H : Hc c) {r k : Nat} (hr : r < 3) (hk : (LL c r)[k]? = some r) : (AG c r k).1 = 0 + f1 c (ky c r) 0 + f1 c (ky c r) 1 + f1 c (ky c r) 2 ∧ (AG c r k).2.1 = 0 + f1 c (ky c r) 0 + f1 c (ky c r) 1 + f1 c (ky c r) 2 ∧ (AG c r k).2.2.1 = 0 + f2 c (ky c r) 0 + f2 c (ky c r) 1 + f2 c (ky c r) 2 := by
 have eL := H.eL hr
 have S : (srt c 0 3).Pairwise (fun a b => bef c a b = true) := srt_sorted _ _ _
 unfold AG
 rw [eL] at hk ⊢
 have e : acc c (fun i => inF c r ((srt c 0 3).getD i 0) k i) (srt c 0 3) (srt c 0 3).length = acc c (fun i => decide (¬ ky c r < ky c ((srt c 0 3).getD i 0))) (srt c 0 3) (srt c 0 3).length := by
  refine acc_congr (fun i hi => ?_)
  have lv := List.getElem?_eq_getElem (l := srt c 0 3) (i := i) hi
  have hq := Hc.mem (List.getElem_mem hi)
  rw [gL lv]
  generalize (srt c 0 3)[i] = q at *
  obtain ⟨_, _, _, d1, m1, s0, e2⟩ := id H
  unfold inF rS rE
  rw [m1, s0, e2, if_neg (by decide), if_pos rfl, if_neg (by decide), if_neg (by decide), if_pos rfl, per_gt S hk lv, (H.ecl hr).1, (H.ecl hq).1, Bool.true_and, decide_eq_decide, i_lt]
  omega
 have hv : ∀ q, q ∈ srt c 0 3 → vN c q = false := fun q hq => (H.ecl (Hc.mem hq)).2
 rw [e]
 have := acc_sum (u := ky c r) hv (srt c 0 3).length (Nat.le_refl _)
 rw [List.take_length, H.cnt, H.sum] at this
 exact this
theorem rk_take {c : CC} {L : List Nat} {r : Nat} : ∀ n, n ≤ L.length → (∀ i q, i < n → L[i]? = some q → per c q r = !decide (ky c q < ky c r)) → rkv c L r n = 1 + lsum (f3 c (ky c r)) (L.take n)
 | 0, _, _ => by rw [List.take_zero]; rfl
 | n + 1, h, k => by
  have ih := rk_take (c := c) (L := L) (r := r) n (by omega) (fun i q hi hq => k i q (by omega) hq)
  have lv := List.getElem?_eq_getElem (l := L) (i := n) (by omega)
  have e : rkv c L r (n + 1) = if per c (L.getD n 0) r then rkv c L r n else rkv c L r n + 1 := rfl
  rw [e, ← List.take_append_getElem (show n < L.length by omega), lsum_ap, gL lv, k n _ (by omega) lv, ih]
  unfold f3
  by_cases w : ky c L[n] < ky c r
  ·rw [decide_eq_true w, if_pos w, if_neg (by decide), Int64.add_assoc]
  ·rw [decide_eq_false w, if_neg w, if_pos (by decide), Int64.add_zero]
theorem ls_stop {f : Nat → Int64} {L : List Nat} {k : Nat} : ∀ n, k + n ≤ L.length → (∀ i q, k ≤ i → i < k + n → L[i]? = some q → f q = 0) → lsum f (L.take (k + n)) = lsum f (L.take k)
 | 0, _, _ => rfl
 | n + 1, h, z => by
  have ih := ls_stop (f := f) (L := L) (k := k) n (by omega) (fun i q h1 h2 hq => z i q h1 (by omega) hq)
  have lv := List.getElem?_eq_getElem (l := L) (i := k + n) (by omega)
  rw [show k + (n + 1) = (k + n) + 1 from rfl, ← List.take_append_getElem (show k + n < L.length by omega), lsum_ap, ih, z (k + n) _ (by omega) (by omega) lv, Int64.add_zero]
theorem Hc.rk {c : CC} (H : Hc c) {r k : Nat} (hr : r < 3) (hk : (LL c r)[k]? = some r) : rkv c (LL c r) r k = 1 + (0 + f3 c (ky c r) 0 + f3 c (ky c r) 1 + f3 c (ky c r) 2) := by
 have eL := H.eL hr
 have S : (srt c 0 3).Pairwise (fun a b => bef c a b = true) := srt_sorted _ _ _
 rw [eL] at hk ⊢
 obtain ⟨kL, _⟩ := List.getElem?_eq_some_iff.1 hk
 rw [rk_take k (by omega) ?_, ← H.sum]
 ·obtain ⟨n, hn⟩ : ∃ n, (srt c 0 3).length = k + n := ⟨(srt c 0 3).length - k, by omega⟩
  rw [← ls_stop (f := f3 c (ky c r)) (L := srt c 0 3) (k := k) n (by omega) ?_, ← hn, List.take_length]
  intro i q h1 h2 hq
  have q3 := Hc.mem (List.mem_of_getElem? hq)
  unfold f3
  refine if_neg ?_
  rw [i_lt]
  have := per_lt S hk hq
  rw [(H.ecl hr).1, (H.ecl q3).1] at this
  by_cases e : k = i
  ·subst e
   rw [hk] at hq
   rw [Option.some.inj hq]; omega
  ·rw [decide_eq_true (show k < i by omega), Bool.or_true] at this
   have := of_decide_eq_true this.symm
   omega
 ·intro i q h1 hq
  have q3 := Hc.mem (List.mem_of_getElem? hq)
  have := per_gt S hk hq
  rw [decide_eq_true h1, Bool.or_true, (H.ecl hr).1, (H.ecl q3).1] at this
  have := of_decide_eq_true this.symm
  unfold per
  rw [(H.ecl hr).1, (H.ecl q3).1, ← decide_not, decide_eq_decide, i_lt]
  omega
theorem res_m {c : CC} {d : DD} {e : EE} {o : Ob} (h : Sh c d e o) (hc : f_computed o = 1) {x : Int32} {a : Nat} (hx : x.toInt = a) (ha : (a : Int) < (nR c).toInt) (R : Row c d a) : ∃ k, (LL c a)[k]? = some a ∧ F21 o x = some (if (RV c (LL c a) a k (AG c a k)).2 then 0 else (RV c (LL c a) a k (AG c a k)).1) ∧ F22 o x = some (bI (RV c (LL c a) a k (AG c a k)).2) ∧ F23 o x = some (AG c a k).1 := by
 have z0 : (0 : Int32).toInt = 0 := rfl
 have gr : f_rows o = nR c := g_rows h
 obtain ⟨k, k1, k2, k3, k4⟩ := R
 have ag : ∀ {α : Type} {l : List α} {v : α}, l[a]? = some v → aget l x = some v := by
  intro α l v hv
  obtain ⟨w1, w2⟩ := List.getElem?_eq_some_iff.1 hv
  rw [aget_at hx w1, w2]
 refine ⟨k, k1, ?_, ?_, ?_⟩
 ·unfold F21
  rw [hc, if_neg (by decide), if_neg (by rw [i_lt, z0]; omega), if_pos (by rw [i_lt, gr]; omega), g_nul h, g_res h, ag k3, ag k4]
  simp only [Option.bind_some]
  cases (RV c (LL c a) a k (AG c a k)).2 <;> rfl
 ·unfold F22
  rw [hc, if_neg (by decide), if_neg (by rw [i_lt, z0]; omega), if_pos (by rw [i_lt, gr]; omega), g_nul h, ag k3, Option.bind_some, bI_m]
 ·unfold F23
  rw [hc, if_neg (by decide), if_neg (by rw [i_lt, z0]; omega), if_pos (by rw [i_lt, gr]; omega), g_fc h, ag k2]; rfl
theorem f1_pos (c : CC) {r : Nat} (hr : r < 3) : ¬ 0 + f1 c (ky c r) 0 + f1 c (ky c r) 1 + f1 c (ky c r) 2 = 0 := by
 have own : f1 c (ky c r) r = 1 := by
  unfold f1
  exact if_neg (by rw [i_lt]; omega)
 have two : ∀ q, f1 c (ky c r) q = 0 ∨ f1 c (ky c r) q = 1 := by
  intro q
  unfold f1
  split
  ·exact Or.inl rfl
  ·exact Or.inr rfl
 rcases (show r = 0 ∨ r = 1 ∨ r = 2 by omega) with e | e | e <;> subst e <;> rw [own]
 ·rcases two 1 with w | w <;> rcases two 2 with w' | w' <;> rw [w, w'] <;> decide
 ·rcases two 0 with w | w <;> rcases two 2 with w' | w' <;> rw [w, w'] <;> decide
 ·rcases two 0 with w | w <;> rcases two 1 with w' | w' <;> rw [w, w'] <;> decide
theorem row_s {c : CC} {d : DD} {e : EE} {o : Ob} (h : Sh c d e o) (H : Hc c) (F : fn' c = 0) (hc : f_computed o = 1) {x : Int32} {a : Nat} (hx : x.toInt = a) (ha : a < 3) (R : Row c d a) {p : Int64} {q : Int32} (hp : p = 0 + f2 c (ky c a) 0 + f2 c (ky c a) 1 + f2 c (ky c a) 2) (hq : q = 0 + f1 c (ky c a) 0 + f1 c (ky c a) 1 + f1 c (ky c a) 2) : F20 o x p q = some 1 := by
 obtain ⟨k, k0, k1, k2, k3⟩ := res_m h hc hx (by rw [H.2.2.1]; show (a : Int) < 3; omega) R
 obtain ⟨a1, a2, a3⟩ := H.ag ha k0
 have rv : RV c (LL c a) a k (AG c a k) = ((AG c a k).2.2.1, false) := by
  unfold RV
  rw [F, if_pos rfl, a2, decide_eq_false (f1_pos c ha)]
 rw [rv] at k1 k2
 unfold F20
 rw [k1, Option.bind_some, k2, Option.bind_some, k3, Option.bind_some, hp, hq, a1]
 simp only [Bool.false_eq_true, if_false]
 rw [a3, if_pos rfl, if_pos (by decide), if_pos trivial]
theorem row_r {c : CC} {d : DD} {e : EE} {o : Ob} (h : Sh c d e o) (H : Hc c) (F : fn' c = 6) (hc : f_computed o = 1) {x : Int32} {a : Nat} (hx : x.toInt = a) (ha : a < 3) (R : Row c d a) : F21 o x = some (1 + (0 + f3 c (ky c a) 0 + f3 c (ky c a) 1 + f3 c (ky c a) 2)) := by
 obtain ⟨k, k0, k1, k2, k3⟩ := res_m h hc hx (by rw [H.2.2.1]; show (a : Int) < 3; omega) R
 have rv : RV c (LL c a) a k (AG c a k) = (rkv c (LL c a) a k, false) := by
  unfold RV
  rw [F]; rfl
 rw [rv] at k1
 rw [k1, H.rk ha k0]; rfl
theorem sum_m (c : CC) (u : Int32) : F18 u (ky c 0) (ky c 1) (ky c 2) (vl c 0) (vl c 1) (vl c 2) = some (0 + f2 c u 0 + f2 c u 1 + f2 c u 2) := by
 unfold F18 f2
 by_cases h0 : u < ky c 0 <;> by_cases h1 : u < ky c 1 <;> by_cases h2 : u < ky c 2 <;> simp only [h0, h1, h2, if_true, if_false, Int64.add_zero]
theorem cnt_m (c : CC) (u : Int32) : F19 u (ky c 0) (ky c 1) (ky c 2) = some (0 + f1 c u 0 + f1 c u 1 + f1 c u 2) := by
 unfold F19 f1
 by_cases h0 : u < ky c 0 <;> by_cases h1 : u < ky c 1 <;> by_cases h2 : u < ky c 2 <;> simp only [h0, h1, h2, if_true, if_false, Int32.add_zero]
theorem bel_m (c : CC) (u : Int32) : ∃ n, F26 u (ky c 0) (ky c 1) (ky c 2) = some n ∧ ((1 : Int32) + n).toInt64 = 1 + (0 + f3 c u 0 + f3 c u 1 + f3 c u 2) := by
 unfold F26 f3
 by_cases h0 : ky c 0 < u <;> by_cases h1 : ky c 1 < u <;> by_cases h2 : ky c 2 < u <;> simp only [h0, h1, h2, if_true, if_false] <;> exact ⟨_, rfl, by decide⟩
def Ad (o : Ob) (P K V Fl : List Int32) (m f : Int32) : Prop := tq o = (P, K, V, Fl, m, 8, 1, 1, 1, 0, 0, 2, 0, f, 0) ∧ GD (dq o) ∧ (f_sorted o).length = 32
theorem add_m {o : Ob} {P K V Fl : List Int32} {m m' : Int32} {j : Nat} (h : Ad o P K V Fl m 0) (l1 : P.length = 32) (l2 : K.length = 32) (l3 : V.length = 32) (l4 : Fl.length = 32) (hj : m.toInt = j) (j8 : j < 8) (hm : m + 1 = m') (k v : Int32) : ∃ o', F3 o 0 k v 0 = some (m, o') ∧ Ad o' (P.set j 0) (K.set j k) (V.set j v) (Fl.set j 0) m' 0 := by
 obtain ⟨t, D, so⟩ := h
 have z8 : (8 : Int32).toInt = 8 := rfl
 have e1 : f_part o = P := congrArg (fun x : CC => x.1) t
 have e2 : f_keys o = K := congrArg (fun x : CC => x.2.1) t
 have e3 : f_vals o = V := congrArg (fun x : CC => x.2.2.1) t
 have e4 : f_flg o = Fl := congrArg (fun x : CC => x.2.2.2.1) t
 have e5 : f_rows o = m := congrArg (fun x : CC => x.2.2.2.2.1) t
 have e6 : f_cap o = 8 := congrArg (fun x : CC => x.2.2.2.2.2.1) t
 have e7 : (f_direction o, f_nulls o, f_mode o, f_startKind o, f_startOff o, f_endKind o, f_endOff o, f_fn o, f_fnArg o) = (1, 1, 1, 0, 0, 2, 0, 0, 0) := congrArg (fun x : CC => x.2.2.2.2.2.2) t
 unfold F3
 rw [if_neg (by decide), if_neg (by decide), e5, e6, if_pos (by rw [i_lt, z8]; omega), e1, e2, e3, e4, if_pos (by decide), if_pos (by decide), aset_at hj (by omega), Option.bind_some, aset_at hj (by omega), Option.bind_some, aset_at hj (by omega), Option.bind_some, aset_at hj (by omega), Option.bind_some, hm]
 refine ⟨_, rfl, ?_⟩
 unfold Ad tq dq GD at *
 dsimp only [f_part, f_keys, f_vals, f_flg, f_res, f_resNull, f_frameCnt, f_sorted, f_cap, f_rows, f_direction, f_nulls, f_mode, f_startKind, f_startOff, f_endKind, f_endOff, f_fn, f_fnArg, f_computed, f_sortedLen, f_curPos, f_aggSum, f_aggCount, f_aggRows, f_aggMin, f_aggMax, s_part, s_keys, s_vals, s_flg, s_res, s_resNull, s_frameCnt, s_sorted, s_cap, s_rows, s_direction, s_nulls, s_mode, s_startKind, s_startOff, s_endKind, s_endOff, s_fn, s_fnArg, s_computed, s_sortedLen, s_curPos, s_aggSum, s_aggCount, s_aggRows, s_aggMin, s_aggMax] at e6 e7 D so ⊢
 refine ⟨?_, D, so⟩
 simp only [Prod.mk.injEq] at e7 ⊢
 exact ⟨trivial, trivial, trivial, trivial, trivial, e6, e7⟩
theorem law_ok (x0 x1 x2 x3 x4 x5 : Int32) : ∃ τ, F0 x0 x1 x2 x3 x4 x5 = some (1, τ) ∧ τ.length - List.length ([] : QHeap) ≤ room_1.cells ∧ qhs τ - qhs [] ≤ room_1.slots := by
 have i0 : ∃ o, F1 8 = some o ∧ Ad o (List.replicate 32 0) (List.replicate 32 0) (List.replicate 32 0) (List.replicate 32 0) 0 0 := by
  unfold F1 F2
  rw [Option.bind_some]
  refine ⟨_, rfl, ?_⟩
  unfold Ad tq dq GD
  dsimp only [f_part, f_keys, f_vals, f_flg, f_res, f_resNull, f_frameCnt, f_sorted, f_cap, f_rows, f_direction, f_nulls, f_mode, f_startKind, f_startOff, f_endKind, f_endOff, f_fn, f_fnArg, f_computed, f_sortedLen, f_curPos, f_aggSum, f_aggCount, f_aggRows, f_aggMin, f_aggMax, s_part, s_keys, s_vals, s_flg, s_res, s_resNull, s_frameCnt, s_sorted, s_cap, s_rows, s_direction, s_nulls, s_mode, s_startKind, s_startOff, s_endKind, s_endOff, s_fn, s_fnArg, s_computed, s_sortedLen, s_curPos, s_aggSum, s_aggCount, s_aggRows, s_aggMin, s_aggMax]
  exact ⟨rfl, ⟨List.length_replicate, List.length_replicate, List.length_replicate⟩, List.length_replicate⟩
 obtain ⟨o0, s0, h0⟩ := i0
 have lr : (List.replicate 32 (0 : Int32)).length = 32 := List.length_replicate
 generalize hR : List.replicate 32 (0 : Int32) = R at h0 lr
 obtain ⟨o1, s1, h1⟩ := add_m (m' := 1) h0 lr lr lr lr (j := 0) rfl (by decide) rfl x0 x3
 obtain ⟨o2, s2, h2⟩ := add_m (m' := 2) h1 (by simp only [List.length_set]; exact lr) (by simp only [List.length_set]; exact lr) (by simp only [List.length_set]; exact lr) (by simp only [List.length_set]; exact lr) (j := 1) rfl (by decide) rfl x1 x4
 obtain ⟨o3, s3, h3⟩ := add_m (m' := 3) h2 (by simp only [List.length_set]; exact lr) (by simp only [List.length_set]; exact lr) (by simp only [List.length_set]; exact lr) (by simp only [List.length_set]; exact lr) (j := 2) rfl (by decide) rfl x2 x5
 have hH : ∀ (f : Int32) (c : CC), c = (((R.set 0 0).set 1 0).set 2 0, ((R.set 0 x0).set 1 x1).set 2 x2, ((R.set 0 x3).set 1 x4).set 2 x5, ((R.set 0 0).set 1 0).set 2 0, 3, 8, 1, 1, 1, 0, 0, 2, 0, f, 0) → Hc c ∧ fn' c = f ∧ ky c 0 = x0 ∧ ky c 1 = x1 ∧ ky c 2 = x2 ∧ vl c 0 = x3 ∧ vl c 1 = x4 ∧ vl c 2 = x5 := by
  intro f c hc
  subst hc
  refine ⟨⟨⟨⟨by simp only [List.length_set]; exact lr, by simp only [List.length_set]; exact lr, by simp only [List.length_set]; exact lr, by simp only [List.length_set]; exact lr, by show (0 : Int) ≤ 3; decide, by show (3 : Int) ≤ 32; decide⟩, Or.inr rfl⟩, ?_, rfl, rfl, rfl, rfl, rfl⟩, rfl, ?_⟩
  ·intro r hr
   subst hR
   rcases (show r = 0 ∨ r = 1 ∨ r = 2 by omega) with e | e | e <;> subst e <;> exact ⟨rfl, rfl⟩
  ·subst hR
   exact ⟨rfl, rfl, rfl, rfl, rfl, rfl⟩
 obtain ⟨H, F, k0, k1, k2, v0, v1, v2⟩ := hH 0 _ h3.1
 have noN : ∀ {c : CC}, Hc c → ¬ NO c := by
  rintro c ⟨_, _, _, _, _, s, e⟩ ⟨_, _, w⟩
  rw [s, e] at w
  rcases w with w | w | w | w <;> exact absurd w (by decide)
 obtain ⟨⟨r4, o4⟩, s4, c4⟩ := comp_m (Sh_q o3) H.1 ⟨H.2.2.2.2.2.1, H.2.2.2.2.2.2⟩ (by show md (tq o3) ≠ 0; rw [H.2.2.2.2.1]; decide) (Or.inl F) h3.2.1 h3.2.2
 rcases c4 with ⟨_, w⟩ | ⟨_, r0, hc, d', e', Rw, hs, hz⟩
 ·exact absurd w (noN H)
 simp only at r0 hc hz
 subst r0
 have n3 : (nR (tq o3)).toInt.toNat = 3 := by rw [H.2.2.1]; rfl
 rw [n3] at Rw
 have t0 := row_s hz H F hc (x := 0) (a := 0) rfl (by decide) (Rw.2 0 (by decide)) rfl rfl
 have t1 := row_s hz H F hc (x := 1) (a := 1) rfl (by decide) (Rw.2 1 (by decide)) rfl rfl
 have t2 := row_s hz H F hc (x := 2) (a := 2) rfl (by decide) (Rw.2 2 (by decide)) rfl rfl
 have m0 := sum_m (tq o3)
 have n0 := cnt_m (tq o3)
 rw [k0, k1, k2, v0, v1, v2] at m0
 rw [k0, k1, k2] at n0
 rw [k0] at t0
 rw [k1] at t1
 rw [k2] at t2
 obtain ⟨q1, q2, q3⟩ := Sh_c hz
 have s5 : F24 o4 6 0 = some (1, s_computed (s_fnArg (s_fn o4 6) 0) 0) := rfl
 obtain ⟨o5, h5⟩ : ∃ o5, o5 = s_computed (s_fnArg (s_fn o4 6) 0) 0 := ⟨_, rfl⟩
 rw [← h5] at s5
 have h6 : tq o5 = (((R.set 0 0).set 1 0).set 2 0, ((R.set 0 x0).set 1 x1).set 2 x2, ((R.set 0 x3).set 1 x4).set 2 x5, ((R.set 0 0).set 1 0).set 2 0, 3, 8, 1, 1, 1, 0, 0, 2, 0, 6, 0) ∧ GD (dq o5) ∧ (f_sorted o5).length = 32 := by
  have p1 := q1.trans h3.1
  have p2 : GD (dq o4) := by rw [q2]; exact Rw.1
  have p3 : (f_sorted o4).length = 32 := by
   show (eq' o4).1.length = 32
   rw [q3]; exact hs
  rw [h5]
  clear h5 s5 q1 q2 q3 hz t0 t1 t2
  unfold tq dq GD at *
  dsimp only [f_part, f_keys, f_vals, f_flg, f_res, f_resNull, f_frameCnt, f_sorted, f_cap, f_rows, f_direction, f_nulls, f_mode, f_startKind, f_startOff, f_endKind, f_endOff, f_fn, f_fnArg, f_computed, f_sortedLen, f_curPos, f_aggSum, f_aggCount, f_aggRows, f_aggMin, f_aggMax, s_part, s_keys, s_vals, s_flg, s_res, s_resNull, s_frameCnt, s_sorted, s_cap, s_rows, s_direction, s_nulls, s_mode, s_startKind, s_startOff, s_endKind, s_endOff, s_fn, s_fnArg, s_computed, s_sortedLen, s_curPos, s_aggSum, s_aggCount, s_aggRows, s_aggMin, s_aggMax] at p1 p2 p3 ⊢
  refine ⟨?_, p2, p3⟩
  simp only [Prod.mk.injEq] at p1 ⊢
  obtain ⟨a1, a2, a3, a4, a5, a6, a7, a8, a9, a10, a11, a12, a13, a14, a15⟩ := p1
  exact ⟨a1, a2, a3, a4, a5, a6, a7, a8, a9, a10, a11, a12, a13, trivial⟩
 obtain ⟨H', F', k0', k1', k2', _⟩ := hH 6 _ h6.1
 obtain ⟨⟨r6, o6⟩, s6, c6⟩ := comp_m (Sh_q o5) H'.1 ⟨H'.2.2.2.2.2.1, H'.2.2.2.2.2.2⟩ (by show md (tq o5) ≠ 0; rw [H'.2.2.2.2.1]; decide) (Or.inr (Or.inr (Or.inr (Or.inr (Or.inr F'))))) h6.2.1 h6.2.2
 rcases c6 with ⟨_, w⟩ | ⟨_, r0, hc', d2, e2, Rw', hs', hz'⟩
 ·exact absurd w (noN H')
 simp only at r0 hc' hz'
 subst r0
 have n3' : (nR (tq o5)).toInt.toNat = 3 := by rw [H'.2.2.1]; rfl
 rw [n3'] at Rw'
 have u0 := row_r hz' H' F' hc' (x := 0) (a := 0) rfl (by decide) (Rw'.2 0 (by decide))
 have u1 := row_r hz' H' F' hc' (x := 1) (a := 1) rfl (by decide) (Rw'.2 1 (by decide))
 have u2 := row_r hz' H' F' hc' (x := 2) (a := 2) rfl (by decide) (Rw'.2 2 (by decide))
 have b0 := bel_m (tq o5)
 rw [k0', k1', k2'] at b0
 rw [k0'] at u0
 rw [k1'] at u1
 rw [k2'] at u2
 obtain ⟨w0, y0, z0⟩ := b0 x0
 obtain ⟨w1, y1, z1⟩ := b0 x1
 obtain ⟨w2, y2, z2⟩ := b0 x2
 refine ⟨H0 o6, ?_, ?_⟩
 ·unfold F0
  rw [s0, Option.bind_some, s1, Option.bind_some, if_pos rfl, s2, Option.bind_some, if_pos rfl, s3, Option.bind_some, if_pos rfl, s4, Option.bind_some, if_pos rfl, m0, Option.bind_some, m0, Option.bind_some, m0, Option.bind_some, n0, Option.bind_some, n0, Option.bind_some, n0, Option.bind_some]
  show Option.bind (F20 o4 0 _ _) _ = _
  rw [t0, Option.bind_some, if_neg (by decide), t1, Option.bind_some, if_neg (by decide), t2, Option.bind_some, if_neg (by decide), s5, Option.bind_some, if_neg (by simp), s6, Option.bind_some, if_pos rfl, u0, Option.bind_some, u1, Option.bind_some, u2, Option.bind_some, y0, Option.bind_some, y1, Option.bind_some, y2, Option.bind_some, if_pos z0.symm, if_pos z1.symm, if_pos z2.symm]
 ·obtain ⟨p1, p2, p3⟩ := Sh_c hz'
  have p1 := p1.trans h6.1
  have L1 : (f_part o6).length = 32 := by rw [show f_part o6 = _ from congrArg (fun x : CC => x.1) p1]; simp only [List.length_set]; exact lr
  have L2 : (f_keys o6).length = 32 := by rw [show f_keys o6 = _ from congrArg (fun x : CC => x.2.1) p1]; simp only [List.length_set]; exact lr
  have L3 : (f_vals o6).length = 32 := by rw [show f_vals o6 = _ from congrArg (fun x : CC => x.2.2.1) p1]; simp only [List.length_set]; exact lr
  have L4 : (f_flg o6).length = 32 := by rw [show f_flg o6 = _ from congrArg (fun x : CC => x.2.2.2.1) p1]; simp only [List.length_set]; exact lr
  obtain ⟨D1, D2, D3⟩ : GD (dq o6) := by rw [p2]; exact Rw'.1
  have D1' : (f_res o6).length = 32 := D1
  have D2' : (f_resNull o6).length = 32 := D2
  have D3' : (f_frameCnt o6).length = 32 := D3
  have so : (f_sorted o6).length = 32 := by
   show (eq' o6).1.length = 32
   rw [p3]; exact hs'
  refine ⟨by show 9 - 0 ≤ _; decide, ?_⟩
  simp only [H0, H0v, qhs, qsz, L1, L2, L3, L4, D1', D2', D3', so]
  simp only [cN, room_1]
  omega
set_option maxRecDepth 65536 in
theorem comes_1 {Post : Tables → Env → Array Value → State → Outcome → State → Prop} (hpost : ∀ tb e args s v u, (limb_1_1.after args s (.returned v) u = true ∧ limb_1_2.after args s (.returned v) u = true ∧ True) → FrameEnd s (.returned v) u (Jvm.fieldLocs frame_1_writes args s ++ Jvm.arrayLocs frame_1_arrays args s ++ Jvm.staticLocs frame_1_statics s) 32 640 → Post tb e args s (.returned v) u) :
    ArmFor flags0 classFile x code maxLocals ret World_1 tables_1 room_1 Calls_1 rest_1 Pre_1 Post := by
  intro l hfl _ _ p e ha hc hk s m args below hf hA hF happ hP
  obtain ⟨hcalls, hrest, hpre⟩ := hP
  obtain ⟨-, -, -, hnamed, -, -, -, hat⟩ := (Spec.applies_iff hf).mp happ
  obtain ⟨hg, hn⟩ := and_e (Cond.before_iff.mp (show (Jvm.Cond.and given_1 narrow_1).before args s = true from hpre))
  obtain ⟨g0, g1⟩ := and_e hg
  obtain ⟨w0, w1, w2, w3, w4, w5, rfl⟩ : ∃ w0 w1 w2 w3 w4 w5 : Value, args = #[w0, w1, w2, w3, w4, w5] := by
    have hs : args.size = 6 := by simpa [Cond.value, given_1] using g0
    obtain ⟨L⟩ := args
    match L, hs with
    | [w0, w1, w2, w3, w4, w5], _ => exact ⟨w0, w1, w2, w3, w4, w5, rfl⟩
  have hw := fun d (hd : d ∈ tables_1) => atoms_spec (ws := Jvm.Cond.code x code maxLocals ret :: tables_1) hat d (List.mem_cons_of_mem _ hd)
  obtain ⟨a0, g2⟩ := and_e g1
  obtain ⟨i0, ei0⟩ := is_v a0
  obtain rfl : w0 = (.int i0) := Option.some.inj ei0
  obtain ⟨a1, g3⟩ := and_e g2
  obtain ⟨i1, ei1⟩ := is_v a1
  obtain rfl : w1 = (.int i1) := Option.some.inj ei1
  obtain ⟨a2, g4⟩ := and_e g3
  obtain ⟨i2, ei2⟩ := is_v a2
  obtain rfl : w2 = (.int i2) := Option.some.inj ei2
  obtain ⟨a3, g5⟩ := and_e g4
  obtain ⟨i3, ei3⟩ := is_v a3
  obtain rfl : w3 = (.int i3) := Option.some.inj ei3
  obtain ⟨a4, g6⟩ := and_e g5
  obtain ⟨i4, ei4⟩ := is_v a4
  obtain rfl : w4 = (.int i4) := Option.some.inj ei4
  obtain ⟨i5, ei5⟩ := is_v g6
  obtain rfl : w5 = (.int i5) := Option.some.inj ei5
  obtain ⟨τ, hF0, hc1, hs1⟩ := law_ok i0 i1 i2 i3 i4 i5
  have Ad : QAd s.heap.size (fun k => s.heap.size + k) := ⟨fun k _ => rfl, fun i j h => Nat.add_left_cancel h⟩
  have hR : QRep s s.heap.size (fun k => s.heap.size + k) s.heap [] := ⟨Nat.le_refl _, rfl, fun k c h => by cases h⟩
  have T := tF0 (l := l) (Z := s) Ad (QW_ok hw) i0 i1 i2 i3 i4 i5 hF0
  have M := QTri.met (k := 0) (as := [.int i0, .int i1, .int i2, .int i3, .int i4, .int i5]) (by decide) T hR (Nat.le_of_ble_eq_true rfl) (fun q => by cases q) tables_1 (rm := room_1) (by decide) (by decide) hc1 hs1
  obtain ⟨n, o, h1, h2, h3, _, L, rfl, ⟨rfl, R', N⟩, hq⟩ := M p e ha hc hk s m _ below hf ((Spec.applies_iff_loose hf).mp happ).1 ⟨rfl, State.Warmed39.refl s, rfl⟩ trivial
  refine ⟨n, _, h1, h2, h3, hpost _ _ _ _ _ _ ⟨Cond.after_iff.mpr rfl, Cond.after_iff.mpr (eq_i res_at (Term.int_eval (1)) rfl), trivial⟩ ⟨hq.1, hq.2.1, (hq.2.2.sift fun y hy => Or.inr (N y hy)).mono hc1 hs1⟩⟩
theorem main_1_1 : Claimed_1_1 := comes_1 fun _ _ _ _ _ _ h hF => ⟨h.1, hF⟩
theorem main_1_2 : Claimed_1_2 := comes_1 fun _ _ _ _ _ _ h hF => ⟨h.2.1, hF⟩
end Jvm.Pilot.@@N@@
namespace Jvm.Pilot.@@N@@
open Jvm Jvm.ClassFile Sem Op Lib Jvm.Free Jvm.Stand Jvm.Pilot.@@N@@.Jvm.D
/-! MADE BY PROGRAM (witnessworld.py) out of the Statement's table words and the real class files: 13 classes; the members and pool entries that the words name. The judged class is class 1, her method 5. -/
namespace start1
open Jvm.ClassFile
def u (s : String) : CpInfo := .utf8 (stringToUtf16 s)
/-- a pool by its gaps: so many unusable entries, then the entry; so many at the end -/
def gap : Nat → List CpInfo → List CpInfo
  | 0, r => r
  | n + 1, r => .unusable :: gap n r
def poolList (es : List (Nat × CpInfo)) (last : Nat) : List CpInfo := es.foldr (fun e r => gap e.1 (e.2 :: r)) (gap last [])
def pool (es : List (Nat × CpInfo)) (last : Nat) : Array CpInfo := ⟨poolList es last⟩
def fileOf (pool : Array CpInfo) (this : Nat) (attrs : Array Attribute := #[]) (ms : Array MethodInfo := #[]) (fl : Nat := 33) (sup : Nat := 0) (ifs : Array Nat := #[]) (fds : Array FieldInfo := #[]) : ClassFile where
  minorVersion := 0
  majorVersion := 65
  constantPool := pool
  accessFlags := fl
  thisClass := this
  superClass := sup
  interfaces := ifs
  fields := fds
  methods := ms
  attributes := attrs
def plain (name : String) (sup : Option ClassId) : Class where
  name := name
  kind := .ordinary
  loader := none
  accessFlags := 33
  super := sup
  interfaces := #[]
  cf := none
  fields := #[]
  methods := #[]
  instanceTypes := #[]
  staticTypes := #[]
  resolved := #[]
  callSites := []
  init := .initialized
  statics := none
  mirror := none

def pool0 : Array CpInfo := pool [(5, u "<init>"), (0, u "()V"), (1, .class_ 10), (1, u "java/lang/Object")] 113

def k0c0 : Code := { maxStack := 0, maxLocals := 1, code := object_method_1_code, exceptionTable := #[], attributes := #[] }
def k0m0 : Method := { name := "<init>", desc := "()V", sig := { parameters := [], returnType := none }, accessFlags := 1, code := some k0c0 }
/-- java/lang/Object -/
def k0 : Class := { plain "java/lang/Object" none with
  accessFlags := 33
  interfaces := #[]
  cf := some (fileOf pool0 8 #[] #[{ accessFlags := 1, nameIndex := 5, descriptorIndex := 6, attributes := #[] }] 33 0 #[] #[])
  fields := #[]
  methods := #[k0m0]
  instanceTypes := #[]
  staticTypes := #[]
  resolved := Array.replicate 124 none
  statics := none }

def pool1 : Array CpInfo := pool [(2, .class_ 4), (1, u "java/lang/Object"), (0, u "<init>"), (0, u "()V"), (0, .methodref 8 9), (0, .class_ 10), (0, .nameAndType 11 12), (0, u "WindowFuncEngine"), (0, u "getResult"), (0, u "(I)J"), (0, .methodref 8 14), (0, .nameAndType 15 16), (0, u "isResultNull"), (0, u "(I)Z"), (0, .methodref 8 18), (0, .nameAndType 19 20), (0, u "getFrameCount"), (0, u "(I)I"), (0, .methodref 8 22), (0, .nameAndType 5 23), (0, u "(I)V"), (0, .methodref 8 25), (0, .nameAndType 26 27), (0, u "addRow"), (0, u "(IIII)I"), (0, .methodref 8 29), (0, .nameAndType 30 31), (0, u "compute"), (0, u "()I"), (0, .methodref 33 34), (0, .class_ 35), (0, .nameAndType 36 37), (0, u "WindowFuncEngineL3"), (0, u "sumUpTo"), (0, u "(IIIIIII)J"), (0, .methodref 33 39), (0, .nameAndType 40 27), (0, u "countUpTo"), (0, .methodref 33 42), (0, .nameAndType 43 44), (0, u "row"), (0, u "(LWindowFuncEngine;IJI)Z"), (0, .methodref 8 46), (0, .nameAndType 47 48), (0, u "setFunction"), (0, u "(II)Z"), (0, .methodref 33 50), (0, .nameAndType 51 27), (0, u "countBelow"), (3, u "law"), (0, u "(IIIIII)Z")] 2

def k1m0 : Method := { name := "<init>", desc := "()V", sig := { parameters := [], returnType := none }, accessFlags := 1, code := none }
def k1c1 : Code := { maxStack := 4, maxLocals := 9, code := method_2_code, exceptionTable := #[], attributes := #[] }
def k1m1 : Method := { name := "sumUpTo", desc := "(IIIIIII)J", sig := { parameters := [.int, .int, .int, .int, .int, .int, .int], returnType := some .long }, accessFlags := 10, code := some k1c1 }
def k1c2 : Code := { maxStack := 2, maxLocals := 5, code := method_3_code, exceptionTable := #[], attributes := #[] }
def k1m2 : Method := { name := "countUpTo", desc := "(IIII)I", sig := { parameters := [.int, .int, .int, .int], returnType := some .int }, accessFlags := 10, code := some k1c2 }
def k1c3 : Code := { maxStack := 2, maxLocals := 5, code := method_4_code, exceptionTable := #[], attributes := #[] }
def k1m3 : Method := { name := "countBelow", desc := "(IIII)I", sig := { parameters := [.int, .int, .int, .int], returnType := some .int }, accessFlags := 10, code := some k1c3 }
def k1c4 : Code := { maxStack := 4, maxLocals := 9, code := method_5_code, exceptionTable := #[], attributes := #[] }
def k1m4 : Method := { name := "row", desc := "(LWindowFuncEngine;IJI)Z", sig := { parameters := [(.object "WindowFuncEngine"), .int, .long, .int], returnType := some .boolean }, accessFlags := 10, code := some k1c4 }
def k1c5 : Code := { maxStack := 7, maxLocals := 25, code := code, exceptionTable := #[], attributes := #[] }
def k1m5 : Method := { name := "law", desc := "(IIIIII)Z", sig := { parameters := [.int, .int, .int, .int, .int, .int], returnType := some .boolean }, accessFlags := 9, code := some k1c5 }
/-- WindowFuncEngineL3 -/
def k1 : Class := { plain "WindowFuncEngineL3" (some 0) with
  accessFlags := 33
  interfaces := #[]
  cf := some (fileOf pool1 33 #[] #[{ accessFlags := 1, nameIndex := 5, descriptorIndex := 6, attributes := #[] }, { accessFlags := 10, nameIndex := 36, descriptorIndex := 37, attributes := #[] }, { accessFlags := 10, nameIndex := 40, descriptorIndex := 27, attributes := #[] }, { accessFlags := 10, nameIndex := 51, descriptorIndex := 27, attributes := #[] }, { accessFlags := 10, nameIndex := 43, descriptorIndex := 44, attributes := #[] }, { accessFlags := 9, nameIndex := 55, descriptorIndex := 56, attributes := #[] }] 33 2 #[] #[])
  fields := #[]
  methods := #[k1m0, k1m1, k1m2, k1m3, k1m4, k1m5]
  instanceTypes := #[]
  staticTypes := #[]
  resolved := Array.replicate 59 none
  statics := none }

def pool2 : Array CpInfo := pool [(1, .methodref 2 3), (0, .class_ 4), (0, .nameAndType 5 6), (0, u "java/lang/Object"), (0, u "<init>"), (0, u "()V"), (0, .fieldref 8 9), (0, .class_ 10), (0, .nameAndType 11 12), (0, u "WindowFuncEngine"), (0, u "part"), (0, u "[I"), (0, .fieldref 8 14), (0, .nameAndType 15 12), (0, u "keys"), (0, .fieldref 8 17), (0, .nameAndType 18 12), (0, u "vals"), (0, .fieldref 8 20), (0, .nameAndType 21 12), (0, u "flg"), (0, .fieldref 8 23), (0, .nameAndType 24 25), (0, u "res"), (0, u "[J"), (0, .fieldref 8 27), (0, .nameAndType 28 29), (0, u "resNull"), (0, u "[Z"), (0, .fieldref 8 31), (0, .nameAndType 32 12), (0, u "frameCnt"), (0, .fieldref 8 34), (0, .nameAndType 35 12), (0, u "sorted"), (0, .fieldref 8 37), (0, .nameAndType 38 39), (0, u "cap"), (0, u "I"), (0, .fieldref 8 41), (0, .nameAndType 42 39), (0, u "rows"), (0, .methodref 8 44), (0, .nameAndType 45 6), (0, u "resetSpec"), (0, .fieldref 8 47), (0, .nameAndType 48 49), (0, u "computed"), (0, u "Z"), (0, .fieldref 8 51), (0, .nameAndType 52 39), (0, u "direction"), (0, .fieldref 8 54), (0, .nameAndType 55 39), (0, u "nulls"), (0, .fieldref 8 57), (0, .nameAndType 58 39), (0, u "mode"), (0, .fieldref 8 60), (0, .nameAndType 61 39), (0, u "startKind"), (0, .fieldref 8 63), (0, .nameAndType 64 39), (0, u "startOff"), (0, .fieldref 8 66), (0, .nameAndType 67 39), (0, u "endKind"), (0, .fieldref 8 69), (0, .nameAndType 70 39), (0, u "endOff"), (0, .fieldref 8 72), (0, .nameAndType 73 39), (0, u "fn"), (0, .fieldref 8 75), (0, .nameAndType 76 39), (0, u "fnArg"), (0, .methodref 8 78), (0, .nameAndType 79 80), (0, u "needsOrder"), (0, u "()Z"), (0, .methodref 8 82), (0, .nameAndType 83 84), (0, u "computeRow"), (0, u "(I)V"), (0, .methodref 8 86), (0, .nameAndType 87 88), (0, u "keyNull"), (0, u "(I)Z"), (0, .methodref 8 90), (0, .nameAndType 91 92), (0, u "before"), (0, u "(II)Z"), (0, .fieldref 8 94), (0, .nameAndType 95 39), (0, u "sortedLen"), (0, .fieldref 8 97), (0, .nameAndType 98 39), (0, u "curPos"), (6, .methodref 8 106), (0, .nameAndType 107 108), (0, u "rangeStartHolds"), (0, u "(IIII)Z"), (0, .methodref 8 110), (0, .nameAndType 111 108), (0, u "rangeEndHolds"), (0, .methodref 8 113), (0, .nameAndType 114 92), (0, u "peer"), (3, u "(II)J"), (0, .methodref 8 120), (0, .nameAndType 121 84), (0, u "buildPartition"), (0, .methodref 8 123), (0, .nameAndType 124 84), (0, u "aggregateFrame"), (0, .fieldref 8 126), (0, .nameAndType 127 39), (0, u "aggRows"), (0, .methodref 8 129), (0, .nameAndType 130 84), (0, u "applyFunction"), (0, .fieldref 8 132), (0, .nameAndType 133 134), (0, u "aggSum"), (0, u "J"), (0, .fieldref 8 136), (0, .nameAndType 137 39), (0, u "aggCount"), (0, .fieldref 8 139), (0, .nameAndType 140 39), (0, u "aggMin"), (0, .fieldref 8 142), (0, .nameAndType 143 39), (0, u "aggMax"), (0, .methodref 8 145), (0, .nameAndType 146 108), (0, u "inFrame"), (0, .methodref 8 148), (0, .nameAndType 149 88), (0, u "valNull"), (0, .methodref 8 151), (0, .nameAndType 152 153), (0, u "setRes"), (0, u "(IJZ)V"), (0, .methodref 8 155), (0, .nameAndType 156 118), (0, u "rankOf"), (7, u "ERR"), (2, u "ORDER_NONE"), (1, u "ORDER_ASC"), (1, u "ORDER_DESC"), (1, u "NULLS_FIRST"), (0, u "NULLS_LAST"), (0, u "MODE_ROWS"), (0, u "MODE_RANGE"), (0, u "BOUND_UNBOUNDED_PRECEDING"), (0, u "BOUND_PRECEDING"), (0, u "BOUND_CURRENT_ROW"), (0, u "BOUND_FOLLOWING"), (1, u "BOUND_UNBOUNDED_FOLLOWING"), (1, u "FN_SUM"), (0, u "FN_COUNT"), (0, u "FN_COUNT_ROWS"), (0, u "FN_MIN"), (0, u "FN_MAX"), (0, u "FN_ROW_NUMBER"), (1, u "FN_RANK"), (1, u "FN_DENSE_RANK"), (1, u "FN_LAG"), (1, u "FN_LEAD"), (1, u "FLAG_KEY_NULL"), (0, u "FLAG_VALUE_NULL"), (0, u "STATUS_OK"), (0, u "STATUS_NEEDS_ORDER"), (0, u "FIELD_PARTITION"), (0, u "FIELD_KEY"), (0, u "FIELD_VALUE"), (0, u "FIELD_FLAGS"), (0, u "SPEC_DIRECTION"), (0, u "SPEC_NULLS"), (0, u "SPEC_MODE"), (0, u "SPEC_START_KIND"), (0, u "SPEC_START_OFFSET"), (0, u "SPEC_END_KIND"), (0, u "SPEC_END_OFFSET"), (0, u "SPEC_FUNCTION"), (0, u "SPEC_FUNCTION_ARG"), (0, u "SPEC_CAPACITY"), (3, u "addRow"), (0, u "(IIII)I"), (3, u "()I"), (4, u "setFunction"), (0, u "compute"), (1, u "getResult"), (0, u "(I)J"), (0, u "isResultNull"), (0, u "getFrameCount"), (0, u "(I)I")] 6

def k2c0 : Code := { maxStack := 2, maxLocals := 3, code := prog_1_method_1_code, exceptionTable := #[], attributes := #[] }
def k2m0 : Method := { name := "<init>", desc := "(I)V", sig := { parameters := [.int], returnType := none }, accessFlags := 1, code := some k2c0 }
def k2c1 : Code := { maxStack := 2, maxLocals := 1, code := prog_1_method_2_code, exceptionTable := #[], attributes := #[] }
def k2m1 : Method := { name := "resetSpec", desc := "()V", sig := { parameters := [], returnType := none }, accessFlags := 2, code := some k2c1 }
def k2c2 : Code := { maxStack := 4, maxLocals := 6, code := prog_1_method_3_code, exceptionTable := #[], attributes := #[] }
def k2m2 : Method := { name := "addRow", desc := "(IIII)I", sig := { parameters := [.int, .int, .int, .int], returnType := some .int }, accessFlags := 1, code := some k2c2 }
def k2c3 : Code := { maxStack := 2, maxLocals := 4, code := prog_1_method_10_code, exceptionTable := #[], attributes := #[] }
def k2m3 : Method := { name := "setFunction", desc := "(II)Z", sig := { parameters := [.int, .int], returnType := some .boolean }, accessFlags := 1, code := some k2c3 }
def k2c4 : Code := { maxStack := 2, maxLocals := 2, code := prog_1_method_11_code, exceptionTable := #[], attributes := #[] }
def k2m4 : Method := { name := "compute", desc := "()I", sig := { parameters := [], returnType := some .int }, accessFlags := 1, code := some k2c4 }
def k2c5 : Code := { maxStack := 2, maxLocals := 3, code := prog_1_method_12_code, exceptionTable := #[], attributes := #[] }
def k2m5 : Method := { name := "needsOrder", desc := "()Z", sig := { parameters := [], returnType := some .boolean }, accessFlags := 2, code := some k2c5 }
def k2c6 : Code := { maxStack := 2, maxLocals := 2, code := prog_1_method_14_code, exceptionTable := #[], attributes := #[] }
def k2m6 : Method := { name := "getResult", desc := "(I)J", sig := { parameters := [.int], returnType := some .long }, accessFlags := 1, code := some k2c6 }
def k2c7 : Code := { maxStack := 2, maxLocals := 2, code := prog_1_method_15_code, exceptionTable := #[], attributes := #[] }
def k2m7 : Method := { name := "isResultNull", desc := "(I)Z", sig := { parameters := [.int], returnType := some .boolean }, accessFlags := 1, code := some k2c7 }
def k2c8 : Code := { maxStack := 2, maxLocals := 2, code := prog_1_method_16_code, exceptionTable := #[], attributes := #[] }
def k2m8 : Method := { name := "getFrameCount", desc := "(I)I", sig := { parameters := [.int], returnType := some .int }, accessFlags := 1, code := some k2c8 }
def k2c9 : Code := { maxStack := 2, maxLocals := 2, code := prog_1_method_19_code, exceptionTable := #[], attributes := #[] }
def k2m9 : Method := { name := "keyNull", desc := "(I)Z", sig := { parameters := [.int], returnType := some .boolean }, accessFlags := 2, code := some k2c9 }
def k2c10 : Code := { maxStack := 2, maxLocals := 2, code := prog_1_method_20_code, exceptionTable := #[], attributes := #[] }
def k2m10 : Method := { name := "valNull", desc := "(I)Z", sig := { parameters := [.int], returnType := some .boolean }, accessFlags := 2, code := some k2c10 }
def k2c11 : Code := { maxStack := 3, maxLocals := 5, code := prog_1_method_21_code, exceptionTable := #[], attributes := #[] }
def k2m11 : Method := { name := "before", desc := "(II)Z", sig := { parameters := [.int, .int], returnType := some .boolean }, accessFlags := 2, code := some k2c11 }
def k2c12 : Code := { maxStack := 3, maxLocals := 5, code := prog_1_method_22_code, exceptionTable := #[], attributes := #[] }
def k2m12 : Method := { name := "peer", desc := "(II)Z", sig := { parameters := [.int, .int], returnType := some .boolean }, accessFlags := 2, code := some k2c12 }
def k2c13 : Code := { maxStack := 5, maxLocals := 6, code := prog_1_method_23_code, exceptionTable := #[], attributes := #[] }
def k2m13 : Method := { name := "buildPartition", desc := "(I)V", sig := { parameters := [.int], returnType := none }, accessFlags := 2, code := some k2c13 }
def k2c14 : Code := { maxStack := 5, maxLocals := 5, code := prog_1_method_24_code, exceptionTable := #[], attributes := #[] }
def k2m14 : Method := { name := "inFrame", desc := "(IIII)Z", sig := { parameters := [.int, .int, .int, .int], returnType := some .boolean }, accessFlags := 2, code := some k2c14 }
def k2c15 : Code := { maxStack := 4, maxLocals := 10, code := prog_1_method_28_code, exceptionTable := #[], attributes := #[] }
def k2m15 : Method := { name := "rangeStartHolds", desc := "(IIII)Z", sig := { parameters := [.int, .int, .int, .int], returnType := some .boolean }, accessFlags := 2, code := some k2c15 }
def k2c16 : Code := { maxStack := 4, maxLocals := 10, code := prog_1_method_29_code, exceptionTable := #[], attributes := #[] }
def k2m16 : Method := { name := "rangeEndHolds", desc := "(IIII)Z", sig := { parameters := [.int, .int, .int, .int], returnType := some .boolean }, accessFlags := 2, code := some k2c16 }
def k2c17 : Code := { maxStack := 3, maxLocals := 2, code := prog_1_method_30_code, exceptionTable := #[], attributes := #[] }
def k2m17 : Method := { name := "computeRow", desc := "(I)V", sig := { parameters := [.int], returnType := none }, accessFlags := 2, code := some k2c17 }
def k2c18 : Code := { maxStack := 5, maxLocals := 7, code := prog_1_method_31_code, exceptionTable := #[], attributes := #[] }
def k2m18 : Method := { name := "aggregateFrame", desc := "(I)V", sig := { parameters := [.int], returnType := none }, accessFlags := 2, code := some k2c18 }
def k2c19 : Code := { maxStack := 4, maxLocals := 5, code := prog_1_method_32_code, exceptionTable := #[], attributes := #[] }
def k2m19 : Method := { name := "setRes", desc := "(IJZ)V", sig := { parameters := [.int, .long, .boolean], returnType := none }, accessFlags := 2, code := some k2c19 }
def k2c20 : Code := { maxStack := 6, maxLocals := 5, code := prog_1_method_33_code, exceptionTable := #[], attributes := #[] }
def k2m20 : Method := { name := "applyFunction", desc := "(I)V", sig := { parameters := [.int], returnType := none }, accessFlags := 2, code := some k2c20 }
def k2c21 : Code := { maxStack := 4, maxLocals := 6, code := prog_1_method_34_code, exceptionTable := #[], attributes := #[] }
def k2m21 : Method := { name := "rankOf", desc := "(II)J", sig := { parameters := [.int, .int], returnType := some .long }, accessFlags := 2, code := some k2c21 }
/-- WindowFuncEngine -/
def k2 : Class := { plain "WindowFuncEngine" (some 0) with
  accessFlags := 49
  interfaces := #[]
  cf := some (fileOf pool2 8 #[] #[{ accessFlags := 1, nameIndex := 5, descriptorIndex := 84, attributes := #[] }, { accessFlags := 2, nameIndex := 45, descriptorIndex := 6, attributes := #[] }, { accessFlags := 1, nameIndex := 220, descriptorIndex := 221, attributes := #[] }, { accessFlags := 1, nameIndex := 230, descriptorIndex := 92, attributes := #[] }, { accessFlags := 1, nameIndex := 231, descriptorIndex := 225, attributes := #[] }, { accessFlags := 2, nameIndex := 79, descriptorIndex := 80, attributes := #[] }, { accessFlags := 1, nameIndex := 233, descriptorIndex := 234, attributes := #[] }, { accessFlags := 1, nameIndex := 235, descriptorIndex := 88, attributes := #[] }, { accessFlags := 1, nameIndex := 236, descriptorIndex := 237, attributes := #[] }, { accessFlags := 2, nameIndex := 87, descriptorIndex := 88, attributes := #[] }, { accessFlags := 2, nameIndex := 149, descriptorIndex := 88, attributes := #[] }, { accessFlags := 2, nameIndex := 91, descriptorIndex := 92, attributes := #[] }, { accessFlags := 2, nameIndex := 114, descriptorIndex := 92, attributes := #[] }, { accessFlags := 2, nameIndex := 121, descriptorIndex := 84, attributes := #[] }, { accessFlags := 2, nameIndex := 146, descriptorIndex := 108, attributes := #[] }, { accessFlags := 2, nameIndex := 107, descriptorIndex := 108, attributes := #[] }, { accessFlags := 2, nameIndex := 111, descriptorIndex := 108, attributes := #[] }, { accessFlags := 2, nameIndex := 83, descriptorIndex := 84, attributes := #[] }, { accessFlags := 2, nameIndex := 124, descriptorIndex := 84, attributes := #[] }, { accessFlags := 2, nameIndex := 152, descriptorIndex := 153, attributes := #[] }, { accessFlags := 2, nameIndex := 130, descriptorIndex := 84, attributes := #[] }, { accessFlags := 2, nameIndex := 156, descriptorIndex := 118, attributes := #[] }] 49 2 #[] #[{ accessFlags := 25, nameIndex := 164, descriptorIndex := 39, attributes := #[] }, { accessFlags := 25, nameIndex := 167, descriptorIndex := 39, attributes := #[] }, { accessFlags := 25, nameIndex := 169, descriptorIndex := 39, attributes := #[] }, { accessFlags := 25, nameIndex := 171, descriptorIndex := 39, attributes := #[] }, { accessFlags := 25, nameIndex := 173, descriptorIndex := 39, attributes := #[] }, { accessFlags := 25, nameIndex := 174, descriptorIndex := 39, attributes := #[] }, { accessFlags := 25, nameIndex := 175, descriptorIndex := 39, attributes := #[] }, { accessFlags := 25, nameIndex := 176, descriptorIndex := 39, attributes := #[] }, { accessFlags := 25, nameIndex := 177, descriptorIndex := 39, attributes := #[] }, { accessFlags := 25, nameIndex := 178, descriptorIndex := 39, attributes := #[] }, { accessFlags := 25, nameIndex := 179, descriptorIndex := 39, attributes := #[] }, { accessFlags := 25, nameIndex := 180, descriptorIndex := 39, attributes := #[] }, { accessFlags := 25, nameIndex := 182, descriptorIndex := 39, attributes := #[] }, { accessFlags := 25, nameIndex := 184, descriptorIndex := 39, attributes := #[] }, { accessFlags := 25, nameIndex := 185, descriptorIndex := 39, attributes := #[] }, { accessFlags := 25, nameIndex := 186, descriptorIndex := 39, attributes := #[] }, { accessFlags := 25, nameIndex := 187, descriptorIndex := 39, attributes := #[] }, { accessFlags := 25, nameIndex := 188, descriptorIndex := 39, attributes := #[] }, { accessFlags := 25, nameIndex := 189, descriptorIndex := 39, attributes := #[] }, { accessFlags := 25, nameIndex := 191, descriptorIndex := 39, attributes := #[] }, { accessFlags := 25, nameIndex := 193, descriptorIndex := 39, attributes := #[] }, { accessFlags := 25, nameIndex := 195, descriptorIndex := 39, attributes := #[] }, { accessFlags := 25, nameIndex := 197, descriptorIndex := 39, attributes := #[] }, { accessFlags := 25, nameIndex := 199, descriptorIndex := 39, attributes := #[] }, { accessFlags := 25, nameIndex := 200, descriptorIndex := 39, attributes := #[] }, { accessFlags := 25, nameIndex := 201, descriptorIndex := 39, attributes := #[] }, { accessFlags := 25, nameIndex := 202, descriptorIndex := 39, attributes := #[] }, { accessFlags := 25, nameIndex := 203, descriptorIndex := 39, attributes := #[] }, { accessFlags := 25, nameIndex := 204, descriptorIndex := 39, attributes := #[] }, { accessFlags := 25, nameIndex := 205, descriptorIndex := 39, attributes := #[] }, { accessFlags := 25, nameIndex := 206, descriptorIndex := 39, attributes := #[] }, { accessFlags := 25, nameIndex := 207, descriptorIndex := 39, attributes := #[] }, { accessFlags := 25, nameIndex := 208, descriptorIndex := 39, attributes := #[] }, { accessFlags := 25, nameIndex := 209, descriptorIndex := 39, attributes := #[] }, { accessFlags := 25, nameIndex := 210, descriptorIndex := 39, attributes := #[] }, { accessFlags := 25, nameIndex := 211, descriptorIndex := 39, attributes := #[] }, { accessFlags := 25, nameIndex := 212, descriptorIndex := 39, attributes := #[] }, { accessFlags := 25, nameIndex := 213, descriptorIndex := 39, attributes := #[] }, { accessFlags := 25, nameIndex := 214, descriptorIndex := 39, attributes := #[] }, { accessFlags := 25, nameIndex := 215, descriptorIndex := 39, attributes := #[] }, { accessFlags := 25, nameIndex := 216, descriptorIndex := 39, attributes := #[] }, { accessFlags := 2, nameIndex := 38, descriptorIndex := 39, attributes := #[] }, { accessFlags := 2, nameIndex := 42, descriptorIndex := 39, attributes := #[] }, { accessFlags := 2, nameIndex := 11, descriptorIndex := 12, attributes := #[] }, { accessFlags := 2, nameIndex := 15, descriptorIndex := 12, attributes := #[] }, { accessFlags := 2, nameIndex := 18, descriptorIndex := 12, attributes := #[] }, { accessFlags := 2, nameIndex := 21, descriptorIndex := 12, attributes := #[] }, { accessFlags := 2, nameIndex := 52, descriptorIndex := 39, attributes := #[] }, { accessFlags := 2, nameIndex := 55, descriptorIndex := 39, attributes := #[] }, { accessFlags := 2, nameIndex := 58, descriptorIndex := 39, attributes := #[] }, { accessFlags := 2, nameIndex := 61, descriptorIndex := 39, attributes := #[] }, { accessFlags := 2, nameIndex := 64, descriptorIndex := 39, attributes := #[] }, { accessFlags := 2, nameIndex := 67, descriptorIndex := 39, attributes := #[] }, { accessFlags := 2, nameIndex := 70, descriptorIndex := 39, attributes := #[] }, { accessFlags := 2, nameIndex := 73, descriptorIndex := 39, attributes := #[] }, { accessFlags := 2, nameIndex := 76, descriptorIndex := 39, attributes := #[] }, { accessFlags := 2, nameIndex := 48, descriptorIndex := 49, attributes := #[] }, { accessFlags := 2, nameIndex := 24, descriptorIndex := 25, attributes := #[] }, { accessFlags := 2, nameIndex := 28, descriptorIndex := 29, attributes := #[] }, { accessFlags := 2, nameIndex := 32, descriptorIndex := 12, attributes := #[] }, { accessFlags := 2, nameIndex := 35, descriptorIndex := 12, attributes := #[] }, { accessFlags := 2, nameIndex := 95, descriptorIndex := 39, attributes := #[] }, { accessFlags := 2, nameIndex := 98, descriptorIndex := 39, attributes := #[] }, { accessFlags := 2, nameIndex := 133, descriptorIndex := 134, attributes := #[] }, { accessFlags := 2, nameIndex := 137, descriptorIndex := 39, attributes := #[] }, { accessFlags := 2, nameIndex := 127, descriptorIndex := 39, attributes := #[] }, { accessFlags := 2, nameIndex := 140, descriptorIndex := 39, attributes := #[] }, { accessFlags := 2, nameIndex := 143, descriptorIndex := 39, attributes := #[] }])
  fields := #[{ name := "ERR", type := .int, accessFlags := 25, slot := 0, constantValue := 0 }, { name := "ORDER_NONE", type := .int, accessFlags := 25, slot := 1, constantValue := 0 }, { name := "ORDER_ASC", type := .int, accessFlags := 25, slot := 2, constantValue := 0 }, { name := "ORDER_DESC", type := .int, accessFlags := 25, slot := 3, constantValue := 0 }, { name := "NULLS_FIRST", type := .int, accessFlags := 25, slot := 4, constantValue := 0 }, { name := "NULLS_LAST", type := .int, accessFlags := 25, slot := 5, constantValue := 0 }, { name := "MODE_ROWS", type := .int, accessFlags := 25, slot := 6, constantValue := 0 }, { name := "MODE_RANGE", type := .int, accessFlags := 25, slot := 7, constantValue := 0 }, { name := "BOUND_UNBOUNDED_PRECEDING", type := .int, accessFlags := 25, slot := 8, constantValue := 0 }, { name := "BOUND_PRECEDING", type := .int, accessFlags := 25, slot := 9, constantValue := 0 }, { name := "BOUND_CURRENT_ROW", type := .int, accessFlags := 25, slot := 10, constantValue := 0 }, { name := "BOUND_FOLLOWING", type := .int, accessFlags := 25, slot := 11, constantValue := 0 }, { name := "BOUND_UNBOUNDED_FOLLOWING", type := .int, accessFlags := 25, slot := 12, constantValue := 0 }, { name := "FN_SUM", type := .int, accessFlags := 25, slot := 13, constantValue := 0 }, { name := "FN_COUNT", type := .int, accessFlags := 25, slot := 14, constantValue := 0 }, { name := "FN_COUNT_ROWS", type := .int, accessFlags := 25, slot := 15, constantValue := 0 }, { name := "FN_MIN", type := .int, accessFlags := 25, slot := 16, constantValue := 0 }, { name := "FN_MAX", type := .int, accessFlags := 25, slot := 17, constantValue := 0 }, { name := "FN_ROW_NUMBER", type := .int, accessFlags := 25, slot := 18, constantValue := 0 }, { name := "FN_RANK", type := .int, accessFlags := 25, slot := 19, constantValue := 0 }, { name := "FN_DENSE_RANK", type := .int, accessFlags := 25, slot := 20, constantValue := 0 }, { name := "FN_LAG", type := .int, accessFlags := 25, slot := 21, constantValue := 0 }, { name := "FN_LEAD", type := .int, accessFlags := 25, slot := 22, constantValue := 0 }, { name := "FLAG_KEY_NULL", type := .int, accessFlags := 25, slot := 23, constantValue := 0 }, { name := "FLAG_VALUE_NULL", type := .int, accessFlags := 25, slot := 24, constantValue := 0 }, { name := "STATUS_OK", type := .int, accessFlags := 25, slot := 25, constantValue := 0 }, { name := "STATUS_NEEDS_ORDER", type := .int, accessFlags := 25, slot := 26, constantValue := 0 }, { name := "FIELD_PARTITION", type := .int, accessFlags := 25, slot := 27, constantValue := 0 }, { name := "FIELD_KEY", type := .int, accessFlags := 25, slot := 28, constantValue := 0 }, { name := "FIELD_VALUE", type := .int, accessFlags := 25, slot := 29, constantValue := 0 }, { name := "FIELD_FLAGS", type := .int, accessFlags := 25, slot := 30, constantValue := 0 }, { name := "SPEC_DIRECTION", type := .int, accessFlags := 25, slot := 31, constantValue := 0 }, { name := "SPEC_NULLS", type := .int, accessFlags := 25, slot := 32, constantValue := 0 }, { name := "SPEC_MODE", type := .int, accessFlags := 25, slot := 33, constantValue := 0 }, { name := "SPEC_START_KIND", type := .int, accessFlags := 25, slot := 34, constantValue := 0 }, { name := "SPEC_START_OFFSET", type := .int, accessFlags := 25, slot := 35, constantValue := 0 }, { name := "SPEC_END_KIND", type := .int, accessFlags := 25, slot := 36, constantValue := 0 }, { name := "SPEC_END_OFFSET", type := .int, accessFlags := 25, slot := 37, constantValue := 0 }, { name := "SPEC_FUNCTION", type := .int, accessFlags := 25, slot := 38, constantValue := 0 }, { name := "SPEC_FUNCTION_ARG", type := .int, accessFlags := 25, slot := 39, constantValue := 0 }, { name := "SPEC_CAPACITY", type := .int, accessFlags := 25, slot := 40, constantValue := 0 }, { name := "cap", type := .int, accessFlags := 2, slot := 0, constantValue := 0 }, { name := "rows", type := .int, accessFlags := 2, slot := 1, constantValue := 0 }, { name := "part", type := (.array .int), accessFlags := 2, slot := 2, constantValue := 0 }, { name := "keys", type := (.array .int), accessFlags := 2, slot := 3, constantValue := 0 }, { name := "vals", type := (.array .int), accessFlags := 2, slot := 4, constantValue := 0 }, { name := "flg", type := (.array .int), accessFlags := 2, slot := 5, constantValue := 0 }, { name := "direction", type := .int, accessFlags := 2, slot := 6, constantValue := 0 }, { name := "nulls", type := .int, accessFlags := 2, slot := 7, constantValue := 0 }, { name := "mode", type := .int, accessFlags := 2, slot := 8, constantValue := 0 }, { name := "startKind", type := .int, accessFlags := 2, slot := 9, constantValue := 0 }, { name := "startOff", type := .int, accessFlags := 2, slot := 10, constantValue := 0 }, { name := "endKind", type := .int, accessFlags := 2, slot := 11, constantValue := 0 }, { name := "endOff", type := .int, accessFlags := 2, slot := 12, constantValue := 0 }, { name := "fn", type := .int, accessFlags := 2, slot := 13, constantValue := 0 }, { name := "fnArg", type := .int, accessFlags := 2, slot := 14, constantValue := 0 }, { name := "computed", type := .boolean, accessFlags := 2, slot := 15, constantValue := 0 }, { name := "res", type := (.array .long), accessFlags := 2, slot := 16, constantValue := 0 }, { name := "resNull", type := (.array .boolean), accessFlags := 2, slot := 17, constantValue := 0 }, { name := "frameCnt", type := (.array .int), accessFlags := 2, slot := 18, constantValue := 0 }, { name := "sorted", type := (.array .int), accessFlags := 2, slot := 19, constantValue := 0 }, { name := "sortedLen", type := .int, accessFlags := 2, slot := 20, constantValue := 0 }, { name := "curPos", type := .int, accessFlags := 2, slot := 21, constantValue := 0 }, { name := "aggSum", type := .long, accessFlags := 2, slot := 22, constantValue := 0 }, { name := "aggCount", type := .int, accessFlags := 2, slot := 23, constantValue := 0 }, { name := "aggRows", type := .int, accessFlags := 2, slot := 24, constantValue := 0 }, { name := "aggMin", type := .int, accessFlags := 2, slot := 25, constantValue := 0 }, { name := "aggMax", type := .int, accessFlags := 2, slot := 26, constantValue := 0 }]
  methods := #[k2m0, k2m1, k2m2, k2m3, k2m4, k2m5, k2m6, k2m7, k2m8, k2m9, k2m10, k2m11, k2m12, k2m13, k2m14, k2m15, k2m16, k2m17, k2m18, k2m19, k2m20, k2m21]
  instanceTypes := #[.int, .int, (.array .int), (.array .int), (.array .int), (.array .int), .int, .int, .int, .int, .int, .int, .int, .int, .int, .boolean, (.array .long), (.array .boolean), (.array .int), (.array .int), .int, .int, .long, .int, .int, .int, .int]
  staticTypes := #[.int, .int, .int, .int, .int, .int, .int, .int, .int, .int, .int, .int, .int, .int, .int, .int, .int, .int, .int, .int, .int, .int, .int, .int, .int, .int, .int, .int, .int, .int, .int, .int, .int, .int, .int, .int, .int, .int, .int, .int, .int]
  resolved := Array.replicate 244 none
  statics := none }

def pool3 : Array CpInfo := pool [(1, u "java/lang/Cloneable"), (0, .class_ 1), (0, u "java/lang/Object"), (0, .class_ 3)] 3

/-- java/lang/Cloneable -/
def k3 : Class := { plain "java/lang/Cloneable" (some 0) with
  accessFlags := 1537
  interfaces := #[]
  cf := some (fileOf pool3 2 #[] #[] 1537 4 #[] #[])
  fields := #[]
  methods := #[]
  instanceTypes := #[]
  staticTypes := #[]
  resolved := Array.replicate 8 none
  statics := none }

def pool4 : Array CpInfo := pool [(1, u "java/io/Serializable"), (0, .class_ 1), (0, u "java/lang/Object"), (0, .class_ 3)] 3

/-- java/io/Serializable -/
def k4 : Class := { plain "java/io/Serializable" (some 0) with
  accessFlags := 1537
  interfaces := #[]
  cf := some (fileOf pool4 2 #[] #[] 1537 4 #[] #[])
  fields := #[]
  methods := #[]
  instanceTypes := #[]
  staticTypes := #[]
  resolved := Array.replicate 8 none
  statics := none }

/-- the primitive boolean -/
def k5 : Class := { plain "boolean" none with kind := .primitive 'Z', accessFlags := 0x411 }
/-- [Z -/
def k6 : Class := { plain "[Z" (some 0) with kind := .array 5 .boolean, interfaces := #[3, 4], accessFlags := 1041 }

/-- the primitive byte -/
def k7 : Class := { plain "byte" none with kind := .primitive 'B', accessFlags := 0x411 }
/-- [B -/
def k8 : Class := { plain "[B" (some 0) with kind := .array 7 .byte, interfaces := #[3, 4], accessFlags := 1041 }

/-- the primitive int -/
def k9 : Class := { plain "int" none with kind := .primitive 'I', accessFlags := 0x411 }
/-- [I -/
def k10 : Class := { plain "[I" (some 0) with kind := .array 9 .int, interfaces := #[3, 4], accessFlags := 1041 }

/-- the primitive long -/
def k11 : Class := { plain "long" none with kind := .primitive 'J', accessFlags := 0x411 }
/-- [J -/
def k12 : Class := { plain "[J" (some 0) with kind := .array 11 .long, interfaces := #[3, 4], accessFlags := 1041 }

def heap : Heap := #[]
def classes : Array Class := #[k0, k1, k2, k3, k4, k5, k6, k7, k8, k9, k10, k11, k12]
def interned : List (Array UInt16 × Addr) := []
def slotsUsed : Nat := 0
def theMethod : MethodId := ⟨1, 5⟩
def args0 : Array Value := #[.int 5, .int 5, .int 5, .int 5, .int 5, .int 5]
def aboutOver (below : List Frame) : State where
  vm := { classes := classes, interned := interned.toArray }
  heap := heap
  slotsUsed := slotsUsed
  threads := #[{ frames := .invoking theMethod args0 :: below }]
def below0 : List Frame := [.native { method := ⟨0, 0⟩, args := #[] }]
def about1 : State := aboutOver below0
def p0 : Program := .bare "" "" ""
def e0 : Env := launch0.env 0 0 0
theorem w_frames : about1.frames = Frame.invoking theMethod args0 :: below0 := rfl
set_option maxRecDepth 65536 in
theorem w_args : argsFit about1.vm theMethod args0 = true := by decide +kernel
set_option maxRecDepth 65536 in
theorem w_heap : heapFits about1 = true := by decide +kernel
set_option maxRecDepth 65536 in
theorem w_runnable : about1.curStatus? = some .runnable := by decide +kernel
set_option maxRecDepth 65536 in
theorem w_alone : about1.alone = true := by decide +kernel
set_option maxRecDepth 65536 in
theorem w_named : about1.methodNamed? x = some theMethod := by decide +kernel
set_option maxRecDepth 65536 in
theorem w_hears : about1.hears theMethod below0 = true := by decide +kernel
set_option maxRecDepth 65536 in
theorem w_ripe : about1.ripe theMethod args0 below0 = true := by decide +kernel
theorem w_running : about1.status = .running := rfl
set_option maxRecDepth 65536 in
theorem w_room : about1.hasRoom e0.platform room_1 = true :=
  launch0.hasRoom_least _ room_1 (by decide +kernel) (by decide +kernel) (by decide +kernel) (by decide +kernel) (by decide +kernel) (by decide +kernel)
theorem allAtoms_all (ts : List Jvm.Cond) (a : Array Jvm.Value) (st : Jvm.State) : (allAtoms ts).before a st = ts.all (fun c => c.before a st) := by
  induction ts with
  | nil => rfl
  | cons c t ih =>
    show (Jvm.Cond.and c (allAtoms t)).before a st = _
    rw [Jvm.Cond.before_and, ih, List.all_cons]
def words1 : List Jvm.Cond := Jvm.Cond.code x code maxLocals ret :: tables_1
/-- a 'code' word, met by the world's own term for the bytes: nothing is compared byte by byte -/
theorem code_word {y : MethodName} {bytes : ByteArray} {mx : Nat} {rt : Option FieldType} {a : Array Value} {s : State} {m : MethodId} {meth : Method} {c : Code} (h1 : s.methodNamed? y = some m) (h2 : s.vm.method? m = some meth) (h3 : meth.code = some c) (h4 : c.code = bytes)
    (h5 : (c.maxLocals == mx && c.exceptionTable.isEmpty && decide (c.maxStack ≤ mostOperands) && decide (meth.sig.returnType = rt) && !meth.locks && decide (parseMethodDescriptor y.desc = some meth.sig)) = true) : (Jvm.Cond.code y bytes mx rt).before a s = true := by
  simp only [Bool.and_eq_true, beq_iff_eq, Bool.not_eq_true', decide_eq_true_eq] at h5
  obtain ⟨⟨⟨⟨⟨g1, g2⟩, g3⟩, g4⟩, g5⟩, g6⟩ := h5
  simp [Cond.before, Cond.holds, Cond.value, h1, h2, h3, h4, g1, g2, g3, g4, g5, g6]
def isCode : Jvm.Cond → Bool
  | .code _ _ _ _ => true
  | _ => false
theorem all_split {L : List Jvm.Cond} {P : Jvm.Cond → Bool} (h1 : L.all (fun c => isCode c || P c) = true) (h2 : ∀ c ∈ L.filter isCode, P c = true) : L.all P = true := by
  refine List.all_eq_true.mpr fun c hc => ?_
  have h := List.all_eq_true.mp h1 c hc
  rcases Bool.eq_false_or_eq_true (isCode c) with hi | hi
  · exact h2 c (List.mem_filter.mpr ⟨hc, hi⟩)
  · simpa [hi] using h
set_option maxRecDepth 65536 in
theorem w_c0 : (Jvm.Cond.code x code maxLocals ret).before args0 about1 = true := code_word (m := ⟨1, 5⟩) (meth := k1m5) (c := k1c5) (by decide +kernel) rfl rfl rfl (by decide +kernel)
set_option maxRecDepth 65536 in
theorem w_c1 : (Jvm.Cond.code ({ cls := "WindowFuncEngine", name := "<init>", desc := "(I)V" } : Jvm.MethodName) prog_1_method_1_code (3 : Nat) (Option.none : Option Jvm.ClassFile.FieldType)).before args0 about1 = true := code_word (m := ⟨2, 0⟩) (meth := k2m0) (c := k2c0) (by decide +kernel) rfl rfl rfl (by decide +kernel)
set_option maxRecDepth 65536 in
theorem w_c2 : (Jvm.Cond.code ({ cls := "java/lang/Object", name := "<init>", desc := "()V" } : Jvm.MethodName) object_method_1_code (1 : Nat) (Option.none : Option Jvm.ClassFile.FieldType)).before args0 about1 = true := code_word (m := ⟨0, 0⟩) (meth := k0m0) (c := k0c0) (by decide +kernel) rfl rfl rfl (by decide +kernel)
set_option maxRecDepth 65536 in
theorem w_c3 : (Jvm.Cond.code ({ cls := "WindowFuncEngine", name := "resetSpec", desc := "()V" } : Jvm.MethodName) prog_1_method_2_code (1 : Nat) (Option.none : Option Jvm.ClassFile.FieldType)).before args0 about1 = true := code_word (m := ⟨2, 1⟩) (meth := k2m1) (c := k2c1) (by decide +kernel) rfl rfl rfl (by decide +kernel)
set_option maxRecDepth 65536 in
theorem w_c4 : (Jvm.Cond.code ({ cls := "WindowFuncEngine", name := "addRow", desc := "(IIII)I" } : Jvm.MethodName) prog_1_method_3_code (6 : Nat) (Option.some Jvm.ClassFile.FieldType.int)).before args0 about1 = true := code_word (m := ⟨2, 2⟩) (meth := k2m2) (c := k2c2) (by decide +kernel) rfl rfl rfl (by decide +kernel)
set_option maxRecDepth 65536 in
theorem w_c5 : (Jvm.Cond.code ({ cls := "WindowFuncEngine", name := "compute", desc := "()I" } : Jvm.MethodName) prog_1_method_11_code (2 : Nat) (Option.some Jvm.ClassFile.FieldType.int)).before args0 about1 = true := code_word (m := ⟨2, 4⟩) (meth := k2m4) (c := k2c4) (by decide +kernel) rfl rfl rfl (by decide +kernel)
set_option maxRecDepth 65536 in
theorem w_c6 : (Jvm.Cond.code ({ cls := "WindowFuncEngine", name := "needsOrder", desc := "()Z" } : Jvm.MethodName) prog_1_method_12_code (3 : Nat) (Option.some Jvm.ClassFile.FieldType.boolean)).before args0 about1 = true := code_word (m := ⟨2, 5⟩) (meth := k2m5) (c := k2c5) (by decide +kernel) rfl rfl rfl (by decide +kernel)
set_option maxRecDepth 65536 in
theorem w_c7 : (Jvm.Cond.code ({ cls := "WindowFuncEngine", name := "computeRow", desc := "(I)V" } : Jvm.MethodName) prog_1_method_30_code (2 : Nat) (Option.none : Option Jvm.ClassFile.FieldType)).before args0 about1 = true := code_word (m := ⟨2, 17⟩) (meth := k2m17) (c := k2c17) (by decide +kernel) rfl rfl rfl (by decide +kernel)
set_option maxRecDepth 65536 in
theorem w_c8 : (Jvm.Cond.code ({ cls := "WindowFuncEngine", name := "buildPartition", desc := "(I)V" } : Jvm.MethodName) prog_1_method_23_code (6 : Nat) (Option.none : Option Jvm.ClassFile.FieldType)).before args0 about1 = true := code_word (m := ⟨2, 13⟩) (meth := k2m13) (c := k2c13) (by decide +kernel) rfl rfl rfl (by decide +kernel)
set_option maxRecDepth 65536 in
theorem w_c9 : (Jvm.Cond.code ({ cls := "WindowFuncEngine", name := "before", desc := "(II)Z" } : Jvm.MethodName) prog_1_method_21_code (5 : Nat) (Option.some Jvm.ClassFile.FieldType.boolean)).before args0 about1 = true := code_word (m := ⟨2, 11⟩) (meth := k2m11) (c := k2c11) (by decide +kernel) rfl rfl rfl (by decide +kernel)
set_option maxRecDepth 65536 in
theorem w_c10 : (Jvm.Cond.code ({ cls := "WindowFuncEngine", name := "keyNull", desc := "(I)Z" } : Jvm.MethodName) prog_1_method_19_code (2 : Nat) (Option.some Jvm.ClassFile.FieldType.boolean)).before args0 about1 = true := code_word (m := ⟨2, 9⟩) (meth := k2m9) (c := k2c9) (by decide +kernel) rfl rfl rfl (by decide +kernel)
set_option maxRecDepth 65536 in
theorem w_c11 : (Jvm.Cond.code ({ cls := "WindowFuncEngine", name := "aggregateFrame", desc := "(I)V" } : Jvm.MethodName) prog_1_method_31_code (7 : Nat) (Option.none : Option Jvm.ClassFile.FieldType)).before args0 about1 = true := code_word (m := ⟨2, 18⟩) (meth := k2m18) (c := k2c18) (by decide +kernel) rfl rfl rfl (by decide +kernel)
set_option maxRecDepth 65536 in
theorem w_c12 : (Jvm.Cond.code ({ cls := "WindowFuncEngine", name := "inFrame", desc := "(IIII)Z" } : Jvm.MethodName) prog_1_method_24_code (5 : Nat) (Option.some Jvm.ClassFile.FieldType.boolean)).before args0 about1 = true := code_word (m := ⟨2, 14⟩) (meth := k2m14) (c := k2c14) (by decide +kernel) rfl rfl rfl (by decide +kernel)
set_option maxRecDepth 65536 in
theorem w_c13 : (Jvm.Cond.code ({ cls := "WindowFuncEngine", name := "rangeStartHolds", desc := "(IIII)Z" } : Jvm.MethodName) prog_1_method_28_code (10 : Nat) (Option.some Jvm.ClassFile.FieldType.boolean)).before args0 about1 = true := code_word (m := ⟨2, 15⟩) (meth := k2m15) (c := k2c15) (by decide +kernel) rfl rfl rfl (by decide +kernel)
set_option maxRecDepth 65536 in
theorem w_c14 : (Jvm.Cond.code ({ cls := "WindowFuncEngine", name := "rangeEndHolds", desc := "(IIII)Z" } : Jvm.MethodName) prog_1_method_29_code (10 : Nat) (Option.some Jvm.ClassFile.FieldType.boolean)).before args0 about1 = true := code_word (m := ⟨2, 16⟩) (meth := k2m16) (c := k2c16) (by decide +kernel) rfl rfl rfl (by decide +kernel)
set_option maxRecDepth 65536 in
theorem w_c15 : (Jvm.Cond.code ({ cls := "WindowFuncEngine", name := "peer", desc := "(II)Z" } : Jvm.MethodName) prog_1_method_22_code (5 : Nat) (Option.some Jvm.ClassFile.FieldType.boolean)).before args0 about1 = true := code_word (m := ⟨2, 12⟩) (meth := k2m12) (c := k2c12) (by decide +kernel) rfl rfl rfl (by decide +kernel)
set_option maxRecDepth 65536 in
theorem w_c16 : (Jvm.Cond.code ({ cls := "WindowFuncEngine", name := "valNull", desc := "(I)Z" } : Jvm.MethodName) prog_1_method_20_code (2 : Nat) (Option.some Jvm.ClassFile.FieldType.boolean)).before args0 about1 = true := code_word (m := ⟨2, 10⟩) (meth := k2m10) (c := k2c10) (by decide +kernel) rfl rfl rfl (by decide +kernel)
set_option maxRecDepth 65536 in
theorem w_c17 : (Jvm.Cond.code ({ cls := "WindowFuncEngine", name := "applyFunction", desc := "(I)V" } : Jvm.MethodName) prog_1_method_33_code (5 : Nat) (Option.none : Option Jvm.ClassFile.FieldType)).before args0 about1 = true := code_word (m := ⟨2, 20⟩) (meth := k2m20) (c := k2c20) (by decide +kernel) rfl rfl rfl (by decide +kernel)
set_option maxRecDepth 65536 in
theorem w_c18 : (Jvm.Cond.code ({ cls := "WindowFuncEngine", name := "setRes", desc := "(IJZ)V" } : Jvm.MethodName) prog_1_method_32_code (5 : Nat) (Option.none : Option Jvm.ClassFile.FieldType)).before args0 about1 = true := code_word (m := ⟨2, 19⟩) (meth := k2m19) (c := k2c19) (by decide +kernel) rfl rfl rfl (by decide +kernel)
set_option maxRecDepth 65536 in
theorem w_c19 : (Jvm.Cond.code ({ cls := "WindowFuncEngineL3", name := "sumUpTo", desc := "(IIIIIII)J" } : Jvm.MethodName) method_2_code (9 : Nat) (Option.some Jvm.ClassFile.FieldType.long)).before args0 about1 = true := code_word (m := ⟨1, 1⟩) (meth := k1m1) (c := k1c1) (by decide +kernel) rfl rfl rfl (by decide +kernel)
set_option maxRecDepth 65536 in
theorem w_c20 : (Jvm.Cond.code ({ cls := "WindowFuncEngineL3", name := "countUpTo", desc := "(IIII)I" } : Jvm.MethodName) method_3_code (5 : Nat) (Option.some Jvm.ClassFile.FieldType.int)).before args0 about1 = true := code_word (m := ⟨1, 2⟩) (meth := k1m2) (c := k1c2) (by decide +kernel) rfl rfl rfl (by decide +kernel)
set_option maxRecDepth 65536 in
theorem w_c21 : (Jvm.Cond.code ({ cls := "WindowFuncEngineL3", name := "row", desc := "(LWindowFuncEngine;IJI)Z" } : Jvm.MethodName) method_5_code (9 : Nat) (Option.some Jvm.ClassFile.FieldType.boolean)).before args0 about1 = true := code_word (m := ⟨1, 4⟩) (meth := k1m4) (c := k1c4) (by decide +kernel) rfl rfl rfl (by decide +kernel)
set_option maxRecDepth 65536 in
theorem w_c22 : (Jvm.Cond.code ({ cls := "WindowFuncEngine", name := "getResult", desc := "(I)J" } : Jvm.MethodName) prog_1_method_14_code (2 : Nat) (Option.some Jvm.ClassFile.FieldType.long)).before args0 about1 = true := code_word (m := ⟨2, 6⟩) (meth := k2m6) (c := k2c6) (by decide +kernel) rfl rfl rfl (by decide +kernel)
set_option maxRecDepth 65536 in
theorem w_c23 : (Jvm.Cond.code ({ cls := "WindowFuncEngine", name := "isResultNull", desc := "(I)Z" } : Jvm.MethodName) prog_1_method_15_code (2 : Nat) (Option.some Jvm.ClassFile.FieldType.boolean)).before args0 about1 = true := code_word (m := ⟨2, 7⟩) (meth := k2m7) (c := k2c7) (by decide +kernel) rfl rfl rfl (by decide +kernel)
set_option maxRecDepth 65536 in
theorem w_c24 : (Jvm.Cond.code ({ cls := "WindowFuncEngine", name := "getFrameCount", desc := "(I)I" } : Jvm.MethodName) prog_1_method_16_code (2 : Nat) (Option.some Jvm.ClassFile.FieldType.int)).before args0 about1 = true := code_word (m := ⟨2, 8⟩) (meth := k2m8) (c := k2c8) (by decide +kernel) rfl rfl rfl (by decide +kernel)
set_option maxRecDepth 65536 in
theorem w_c25 : (Jvm.Cond.code ({ cls := "WindowFuncEngine", name := "setFunction", desc := "(II)Z" } : Jvm.MethodName) prog_1_method_10_code (4 : Nat) (Option.some Jvm.ClassFile.FieldType.boolean)).before args0 about1 = true := code_word (m := ⟨2, 3⟩) (meth := k2m3) (c := k2c3) (by decide +kernel) rfl rfl rfl (by decide +kernel)
set_option maxRecDepth 65536 in
theorem w_c26 : (Jvm.Cond.code ({ cls := "WindowFuncEngine", name := "rankOf", desc := "(II)J" } : Jvm.MethodName) prog_1_method_34_code (6 : Nat) (Option.some Jvm.ClassFile.FieldType.long)).before args0 about1 = true := code_word (m := ⟨2, 21⟩) (meth := k2m21) (c := k2c21) (by decide +kernel) rfl rfl rfl (by decide +kernel)
set_option maxRecDepth 65536 in
theorem w_c27 : (Jvm.Cond.code ({ cls := "WindowFuncEngineL3", name := "countBelow", desc := "(IIII)I" } : Jvm.MethodName) method_4_code (5 : Nat) (Option.some Jvm.ClassFile.FieldType.int)).before args0 about1 = true := code_word (m := ⟨1, 3⟩) (meth := k1m3) (c := k1c3) (by decide +kernel) rfl rfl rfl (by decide +kernel)
def codes1 : List Jvm.Cond := [Jvm.Cond.code x code maxLocals ret, Jvm.Cond.code ({ cls := "WindowFuncEngine", name := "<init>", desc := "(I)V" } : Jvm.MethodName) prog_1_method_1_code (3 : Nat) (Option.none : Option Jvm.ClassFile.FieldType), Jvm.Cond.code ({ cls := "java/lang/Object", name := "<init>", desc := "()V" } : Jvm.MethodName) object_method_1_code (1 : Nat) (Option.none : Option Jvm.ClassFile.FieldType), Jvm.Cond.code ({ cls := "WindowFuncEngine", name := "resetSpec", desc := "()V" } : Jvm.MethodName) prog_1_method_2_code (1 : Nat) (Option.none : Option Jvm.ClassFile.FieldType), Jvm.Cond.code ({ cls := "WindowFuncEngine", name := "addRow", desc := "(IIII)I" } : Jvm.MethodName) prog_1_method_3_code (6 : Nat) (Option.some Jvm.ClassFile.FieldType.int), Jvm.Cond.code ({ cls := "WindowFuncEngine", name := "compute", desc := "()I" } : Jvm.MethodName) prog_1_method_11_code (2 : Nat) (Option.some Jvm.ClassFile.FieldType.int), Jvm.Cond.code ({ cls := "WindowFuncEngine", name := "needsOrder", desc := "()Z" } : Jvm.MethodName) prog_1_method_12_code (3 : Nat) (Option.some Jvm.ClassFile.FieldType.boolean), Jvm.Cond.code ({ cls := "WindowFuncEngine", name := "computeRow", desc := "(I)V" } : Jvm.MethodName) prog_1_method_30_code (2 : Nat) (Option.none : Option Jvm.ClassFile.FieldType), Jvm.Cond.code ({ cls := "WindowFuncEngine", name := "buildPartition", desc := "(I)V" } : Jvm.MethodName) prog_1_method_23_code (6 : Nat) (Option.none : Option Jvm.ClassFile.FieldType), Jvm.Cond.code ({ cls := "WindowFuncEngine", name := "before", desc := "(II)Z" } : Jvm.MethodName) prog_1_method_21_code (5 : Nat) (Option.some Jvm.ClassFile.FieldType.boolean), Jvm.Cond.code ({ cls := "WindowFuncEngine", name := "keyNull", desc := "(I)Z" } : Jvm.MethodName) prog_1_method_19_code (2 : Nat) (Option.some Jvm.ClassFile.FieldType.boolean), Jvm.Cond.code ({ cls := "WindowFuncEngine", name := "aggregateFrame", desc := "(I)V" } : Jvm.MethodName) prog_1_method_31_code (7 : Nat) (Option.none : Option Jvm.ClassFile.FieldType), Jvm.Cond.code ({ cls := "WindowFuncEngine", name := "inFrame", desc := "(IIII)Z" } : Jvm.MethodName) prog_1_method_24_code (5 : Nat) (Option.some Jvm.ClassFile.FieldType.boolean), Jvm.Cond.code ({ cls := "WindowFuncEngine", name := "rangeStartHolds", desc := "(IIII)Z" } : Jvm.MethodName) prog_1_method_28_code (10 : Nat) (Option.some Jvm.ClassFile.FieldType.boolean), Jvm.Cond.code ({ cls := "WindowFuncEngine", name := "rangeEndHolds", desc := "(IIII)Z" } : Jvm.MethodName) prog_1_method_29_code (10 : Nat) (Option.some Jvm.ClassFile.FieldType.boolean), Jvm.Cond.code ({ cls := "WindowFuncEngine", name := "peer", desc := "(II)Z" } : Jvm.MethodName) prog_1_method_22_code (5 : Nat) (Option.some Jvm.ClassFile.FieldType.boolean), Jvm.Cond.code ({ cls := "WindowFuncEngine", name := "valNull", desc := "(I)Z" } : Jvm.MethodName) prog_1_method_20_code (2 : Nat) (Option.some Jvm.ClassFile.FieldType.boolean), Jvm.Cond.code ({ cls := "WindowFuncEngine", name := "applyFunction", desc := "(I)V" } : Jvm.MethodName) prog_1_method_33_code (5 : Nat) (Option.none : Option Jvm.ClassFile.FieldType), Jvm.Cond.code ({ cls := "WindowFuncEngine", name := "setRes", desc := "(IJZ)V" } : Jvm.MethodName) prog_1_method_32_code (5 : Nat) (Option.none : Option Jvm.ClassFile.FieldType), Jvm.Cond.code ({ cls := "WindowFuncEngineL3", name := "sumUpTo", desc := "(IIIIIII)J" } : Jvm.MethodName) method_2_code (9 : Nat) (Option.some Jvm.ClassFile.FieldType.long), Jvm.Cond.code ({ cls := "WindowFuncEngineL3", name := "countUpTo", desc := "(IIII)I" } : Jvm.MethodName) method_3_code (5 : Nat) (Option.some Jvm.ClassFile.FieldType.int), Jvm.Cond.code ({ cls := "WindowFuncEngineL3", name := "row", desc := "(LWindowFuncEngine;IJI)Z" } : Jvm.MethodName) method_5_code (9 : Nat) (Option.some Jvm.ClassFile.FieldType.boolean), Jvm.Cond.code ({ cls := "WindowFuncEngine", name := "getResult", desc := "(I)J" } : Jvm.MethodName) prog_1_method_14_code (2 : Nat) (Option.some Jvm.ClassFile.FieldType.long), Jvm.Cond.code ({ cls := "WindowFuncEngine", name := "isResultNull", desc := "(I)Z" } : Jvm.MethodName) prog_1_method_15_code (2 : Nat) (Option.some Jvm.ClassFile.FieldType.boolean), Jvm.Cond.code ({ cls := "WindowFuncEngine", name := "getFrameCount", desc := "(I)I" } : Jvm.MethodName) prog_1_method_16_code (2 : Nat) (Option.some Jvm.ClassFile.FieldType.int), Jvm.Cond.code ({ cls := "WindowFuncEngine", name := "setFunction", desc := "(II)Z" } : Jvm.MethodName) prog_1_method_10_code (4 : Nat) (Option.some Jvm.ClassFile.FieldType.boolean), Jvm.Cond.code ({ cls := "WindowFuncEngine", name := "rankOf", desc := "(II)J" } : Jvm.MethodName) prog_1_method_34_code (6 : Nat) (Option.some Jvm.ClassFile.FieldType.long), Jvm.Cond.code ({ cls := "WindowFuncEngineL3", name := "countBelow", desc := "(IIII)I" } : Jvm.MethodName) method_4_code (5 : Nat) (Option.some Jvm.ClassFile.FieldType.int)]
set_option maxRecDepth 65536 in
theorem codes_eq : words1.filter isCode = codes1 := rfl
theorem w_codes : ∀ c ∈ words1.filter isCode, c.before args0 about1 = true := by
  rw [codes_eq]
  intro c hc
  simp only [codes1, List.mem_cons, List.not_mem_nil, or_false] at hc
  rcases hc with rfl | rfl | rfl | rfl | rfl | rfl | rfl | rfl | rfl | rfl | rfl | rfl | rfl | rfl | rfl | rfl | rfl | rfl | rfl | rfl | rfl | rfl | rfl | rfl | rfl | rfl | rfl | rfl
  · exact w_c0
  · exact w_c1
  · exact w_c2
  · exact w_c3
  · exact w_c4
  · exact w_c5
  · exact w_c6
  · exact w_c7
  · exact w_c8
  · exact w_c9
  · exact w_c10
  · exact w_c11
  · exact w_c12
  · exact w_c13
  · exact w_c14
  · exact w_c15
  · exact w_c16
  · exact w_c17
  · exact w_c18
  · exact w_c19
  · exact w_c20
  · exact w_c21
  · exact w_c22
  · exact w_c23
  · exact w_c24
  · exact w_c25
  · exact w_c26
  · exact w_c27
set_option maxRecDepth 65536 in
theorem w_t1 : (words1.take 24).all (fun c => isCode c || c.before args0 about1) = true := by decide +kernel
set_option maxRecDepth 65536 in
theorem w_t2 : ((words1.drop 24).take 24).all (fun c => isCode c || c.before args0 about1) = true := by decide +kernel
set_option maxRecDepth 65536 in
theorem w_t3 : (((words1.drop 24).drop 24).take 24).all (fun c => isCode c || c.before args0 about1) = true := by decide +kernel
set_option maxRecDepth 65536 in
theorem w_t4 : ((((words1.drop 24).drop 24).drop 24).take 24).all (fun c => isCode c || c.before args0 about1) = true := by decide +kernel
set_option maxRecDepth 65536 in
theorem w_t5 : (((((words1.drop 24).drop 24).drop 24).drop 24).take 24).all (fun c => isCode c || c.before args0 about1) = true := by decide +kernel
set_option maxRecDepth 65536 in
theorem w_t6 : ((((((words1.drop 24).drop 24).drop 24).drop 24).drop 24).take 24).all (fun c => isCode c || c.before args0 about1) = true := by decide +kernel
set_option maxRecDepth 65536 in
theorem w_t7 : (((((((words1.drop 24).drop 24).drop 24).drop 24).drop 24).drop 24).take 24).all (fun c => isCode c || c.before args0 about1) = true := by decide +kernel
set_option maxRecDepth 65536 in
theorem w_t8 : (((((((words1.drop 24).drop 24).drop 24).drop 24).drop 24).drop 24).drop 24).all (fun c => isCode c || c.before args0 about1) = true := by decide +kernel
theorem w_tables : (allAtoms (Jvm.Cond.code x code maxLocals ret :: tables_1)).before args0 about1 = true := by
  rw [allAtoms_all]
  show words1.all (fun c => c.before args0 about1) = true
  refine all_split ?_ w_codes
  rw [← List.take_append_drop 24 words1, List.all_append, w_t1, ← List.take_append_drop 24 (words1.drop 24), List.all_append, w_t2, ← List.take_append_drop 24 ((words1.drop 24).drop 24), List.all_append, w_t3, ← List.take_append_drop 24 (((words1.drop 24).drop 24).drop 24), List.all_append, w_t4, ← List.take_append_drop 24 ((((words1.drop 24).drop 24).drop 24).drop 24), List.all_append, w_t5, ← List.take_append_drop 24 (((((words1.drop 24).drop 24).drop 24).drop 24).drop 24), List.all_append, w_t6, ← List.take_append_drop 24 ((((((words1.drop 24).drop 24).drop 24).drop 24).drop 24).drop 24), List.all_append, w_t7, w_t8]
  rfl
set_option maxRecDepth 65536 in
theorem w_case : (Jvm.Cond.and given_1 narrow_1).before args0 about1 = true := by decide +kernel
theorem w_applies : (headSpec (Jvm.Cond.code x code maxLocals ret :: tables_1) room_1).applies x e0.platform about1 = true :=
  (Spec.applies_iff w_frames).mpr ⟨w_running, w_runnable, w_alone, w_named, w_hears, w_ripe, w_room, w_tables⟩
theorem atStart : AtStart classFile x code maxLocals ret World_1 tables_1 room_1 Calls_1 rest_1 Pre_1 launch0 p0 e0 about1 theMethod args0 below0 :=
  ⟨lists_1, trivial, launch0.admits_env _ _ _, launch0.least_env, fairChoices_fair.cas, fairChoices_fair.clock, w_frames, w_args, w_heap, w_applies, trivial, trivial, w_case⟩
end start1
theorem witness_1 : WitnessClaimed_1 := ⟨start1.p0, start1.e0, start1.about1, start1.theMethod, start1.args0, start1.below0, start1.atStart⟩
end Jvm.Pilot.@@N@@
