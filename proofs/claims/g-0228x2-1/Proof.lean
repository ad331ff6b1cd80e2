import JvmDerived
import JvmDerived.Pilot.@@N@@Statement
import JvmDerived.Pilot.@@N@@Code
set_option linter.unusedVariables false
set_option linter.unusedSimpArgs false
namespace Jvm.RoadKit
open Sem ClassFile Op Lib Jvm.Stand Jvm.Free Jvm.LawKit
section New
variable {p : Program} {l : Launch} {e : Env} {R : Room} {s : State} {m : MethodId} {args : Array Value} {below : List Frame} {meth : Method} {c : Code} {T : State} {locs : List Loc} {cells slots : Nat}
theorem retI (X : Stand p l e R s m args below meth c T locs cells slots) (hx : p.tables.exec = Jvm.exec) {pc : Nat} {Ls : Array Slot} {z : Int32} {rest : List Value} (hret : meth.sig.returnType = some .int) (hd : decode c.code pc = .ok (.ireturn, 1)) {fs : List Frame}
    (hl : ∀ (f : JFrame) (acts : List Action), f.method = m → f.locked = none → f.entered = [] → (doReturn e (T.setTop f) acts (some (.int z))).1 = T.setFrames fs) : Steps p.tables e below (T.setTop (mkF m pc Ls (.int z :: rest))) (T.setFrames fs) := by
  have hm' : T.vm.method? m = some meth := X.method'
  have hn : narrow .int (.int z) = .int z := rfl
  show Steps p.tables e below (T.setTop { method := m, pc := pc, locals := Ls, stack := _ :: rest, locked := none }) _
  jvm_step X.here [X.here.top, hx, hd, hm', hret, hn]
  first | (intro acts; rw [hl _ acts rfl rfl rfl]) | rw [hl _ _ rfl rfl rfl]
  exact Steps.refl _
end New
end Jvm.RoadKit
namespace Jvm.Pilot.@@N@@
open Jvm Jvm.ClassFile Sem Op Lib Jvm.Free Jvm.Stand Jvm.LawKit Jvm.RoadKit Bundle Jvm.Pilot.@@N@@.Jvm.D
/-! TABLES of this claim: printed by claim.py -/
def k0 : Nat := 1
def cName : String := "PivotSheet"
def cN : Nat := 21
def nF : Nat := 21
def kName (k : Nat) : String := bif Nat.beq k 0 then "PivotSheetOwnLaw" else "PivotSheet"
def fNm (k : Nat) : String := (bif Nat.ble 10 k then (bif Nat.ble 15 k then (bif Nat.ble 18 k then (bif Nat.ble 19 k then (bif Nat.ble 20 k then "gVal" else "gCount") else "selCk") else (bif Nat.ble 16 k then (bif Nat.ble 17 k then "selUseC" else "selRk") else "selUseR")) else (bif Nat.ble 12 k then (bif Nat.ble 13 k then (bif Nat.ble 14 k then "last" else "nForms") else "nRows") else (bif Nat.ble 11 k then "keys" else "prevFound"))) else (bif Nat.ble 5 k then (bif Nat.ble 7 k then (bif Nat.ble 8 k then (bif Nat.ble 9 k then "prevVal" else "fCk") else "fRk") else (bif Nat.ble 6 k then "fMode" else "ag")) else (bif Nat.ble 2 k then (bif Nat.ble 3 k then (bif Nat.ble 4 k then "vf" else "cf") else "rf") else (bif Nat.ble 1 k then "filled" else "data"))))
def fDs (k : Nat) : String := (bif Nat.ble 10 k then (bif Nat.ble 15 k then (bif Nat.ble 18 k then (bif Nat.ble 19 k then (bif Nat.ble 20 k then "I" else "I") else "I") else (bif Nat.ble 16 k then (bif Nat.ble 17 k then "Z" else "I") else "Z")) else (bif Nat.ble 12 k then (bif Nat.ble 13 k then (bif Nat.ble 14 k then "I" else "I") else "I") else (bif Nat.ble 11 k then "[I" else "[Z"))) else (bif Nat.ble 5 k then (bif Nat.ble 7 k then (bif Nat.ble 8 k then (bif Nat.ble 9 k then "[I" else "[I") else "[I") else (bif Nat.ble 6 k then "[I" else "I")) else (bif Nat.ble 2 k then (bif Nat.ble 3 k then (bif Nat.ble 4 k then "I" else "I") else "I") else (bif Nat.ble 1 k then "[Z" else "[I"))))
def fTy (k : Nat) : FieldType := (bif Nat.ble 10 k then (bif Nat.ble 15 k then (bif Nat.ble 18 k then (bif Nat.ble 19 k then (bif Nat.ble 20 k then .int else .int) else .int) else (bif Nat.ble 16 k then (bif Nat.ble 17 k then .boolean else .int) else .boolean)) else (bif Nat.ble 12 k then (bif Nat.ble 13 k then (bif Nat.ble 14 k then .int else .int) else .int) else (bif Nat.ble 11 k then (.array .int) else (.array .boolean)))) else (bif Nat.ble 5 k then (bif Nat.ble 7 k then (bif Nat.ble 8 k then (bif Nat.ble 9 k then (.array .int) else (.array .int)) else (.array .int)) else (bif Nat.ble 6 k then (.array .int) else .int)) else (bif Nat.ble 2 k then (bif Nat.ble 3 k then (bif Nat.ble 4 k then .int else .int) else .int) else (bif Nat.ble 1 k then (.array .boolean) else (.array .int)))))
def fFin (k : Nat) : Bool := (bif Nat.ble 10 k then (bif Nat.ble 15 k then (bif Nat.ble 18 k then (bif Nat.ble 19 k then (bif Nat.ble 20 k then false else false) else false) else (bif Nat.ble 16 k then (bif Nat.ble 17 k then false else false) else false)) else (bif Nat.ble 12 k then (bif Nat.ble 13 k then (bif Nat.ble 14 k then false else false) else false) else (bif Nat.ble 11 k then false else false))) else (bif Nat.ble 5 k then (bif Nat.ble 7 k then (bif Nat.ble 8 k then (bif Nat.ble 9 k then false else false) else false) else (bif Nat.ble 6 k then false else false)) else (bif Nat.ble 2 k then (bif Nat.ble 3 k then (bif Nat.ble 4 k then false else false) else false) else (bif Nat.ble 1 k then false else false))))
def cDef : List Value := [.null, .null, .int 0, .int 0, .int 0, .int 0, .null, .null, .null, .null, .null, .null, .int 0, .int 0, .int 0, .int 0, .int 0, .int 0, .int 0, .int 0, .int 0]
def cK : List Value := [.long (511), .long (-1)]
def pN : Nat := 30
def pTop (m : Nat) : Nat := (bif Nat.ble 15 m then (bif Nat.ble 22 m then (bif Nat.ble 26 m then (bif Nat.ble 28 m then (bif Nat.ble 29 m then 20 else 28) else (bif Nat.ble 27 m then 18 else 45)) else (bif Nat.ble 24 m then (bif Nat.ble 25 m then 15 else 74) else (bif Nat.ble 23 m then 66 else 32))) else (bif Nat.ble 18 m then (bif Nat.ble 20 m then (bif Nat.ble 21 m then 36 else 28) else (bif Nat.ble 19 m then 111 else 64)) else (bif Nat.ble 16 m then (bif Nat.ble 17 m then 75 else 50) else 53))) else (bif Nat.ble 7 m then (bif Nat.ble 11 m then (bif Nat.ble 13 m then (bif Nat.ble 14 m then 7 else 18) else (bif Nat.ble 12 m then 17 else 36)) else (bif Nat.ble 9 m then (bif Nat.ble 10 m then 39 else 181) else (bif Nat.ble 8 m then 130 else 36))) else (bif Nat.ble 3 m then (bif Nat.ble 5 m then (bif Nat.ble 6 m then 11 else 50) else (bif Nat.ble 4 m then 10 else 738)) else (bif Nat.ble 1 m then (bif Nat.ble 2 m then 147 else 14) else 343))))
def pK (m : Nat) : Nat := (bif Nat.ble 15 m then (bif Nat.ble 22 m then (bif Nat.ble 26 m then (bif Nat.ble 28 m then (bif Nat.ble 29 m then 1 else 1) else (bif Nat.ble 27 m then 1 else 1)) else (bif Nat.ble 24 m then (bif Nat.ble 25 m then 1 else 1) else (bif Nat.ble 23 m then 1 else 1))) else (bif Nat.ble 18 m then (bif Nat.ble 20 m then (bif Nat.ble 21 m then 0 else 1) else (bif Nat.ble 19 m then 1 else 1)) else (bif Nat.ble 16 m then (bif Nat.ble 17 m then 1 else 1) else 1))) else (bif Nat.ble 7 m then (bif Nat.ble 11 m then (bif Nat.ble 13 m then (bif Nat.ble 14 m then 0 else 1) else (bif Nat.ble 12 m then 1 else 1)) else (bif Nat.ble 9 m then (bif Nat.ble 10 m then 1 else 1) else (bif Nat.ble 8 m then 1 else 1))) else (bif Nat.ble 3 m then (bif Nat.ble 5 m then (bif Nat.ble 6 m then 1 else 1) else (bif Nat.ble 4 m then 1 else 0)) else (bif Nat.ble 1 m then (bif Nat.ble 2 m then 1 else 0) else 0))))
def pNm (m : Nat) : String := (bif Nat.ble 15 m then (bif Nat.ble 22 m then (bif Nat.ble 26 m then (bif Nat.ble 28 m then (bif Nat.ble 29 m then "formulaValue" else "formulaFound") else (bif Nat.ble 27 m then "validSlot" else "setFormula")) else (bif Nat.ble 24 m then (bif Nat.ble 25 m then "validField" else "setPivot") else (bif Nat.ble 23 m then "clearRow" else "colKey"))) else (bif Nat.ble 18 m then (bif Nat.ble 20 m then (bif Nat.ble 21 m then "comb" else "rowKey") else (bif Nat.ble 19 m then "insertKey" else "countChanged")) else (bif Nat.ble 16 m then (bif Nat.ble 17 m then "evalFormula" else "snapshot") else "setCell"))) else (bif Nat.ble 7 m then (bif Nat.ble 11 m then (bif Nat.ble 13 m then (bif Nat.ble 14 m then "val" else "validRow") else (bif Nat.ble 12 m then "isFilled" else "value")) else (bif Nat.ble 9 m then (bif Nat.ble 10 m then "pickAgg" else "evalGroup") else (bif Nat.ble 8 m then "resolve" else "groupCount"))) else (bif Nat.ble 3 m then (bif Nat.ble 5 m then (bif Nat.ble 6 m then "colKeyCount" else "buildKeys") else (bif Nat.ble 4 m then "rowKeyCount" else "check")) else (bif Nat.ble 1 m then (bif Nat.ble 2 m then "<init>" else "cell") else "law"))))
def pDs (m : Nat) : String := (bif Nat.ble 15 m then (bif Nat.ble 22 m then (bif Nat.ble 26 m then (bif Nat.ble 28 m then (bif Nat.ble 29 m then "(I)I" else "(I)Z") else (bif Nat.ble 27 m then "(I)Z" else "(IIII)Z")) else (bif Nat.ble 24 m then (bif Nat.ble 25 m then "(I)Z" else "(IIII)Z") else (bif Nat.ble 23 m then "(I)Z" else "(I)I"))) else (bif Nat.ble 18 m then (bif Nat.ble 20 m then (bif Nat.ble 21 m then "(III)I" else "(I)I") else (bif Nat.ble 19 m then "(III)I" else "()I")) else (bif Nat.ble 16 m then (bif Nat.ble 17 m then "(I)V" else "()V") else "(III)Z"))) else (bif Nat.ble 7 m then (bif Nat.ble 11 m then (bif Nat.ble 13 m then (bif Nat.ble 14 m then "(I)I" else "(I)Z") else (bif Nat.ble 12 m then "(I)Z" else "(II)I")) else (bif Nat.ble 9 m then (bif Nat.ble 10 m then "(IIII)I" else "(ZIZI)V") else (bif Nat.ble 8 m then "(II)Z" else "(II)I"))) else (bif Nat.ble 3 m then (bif Nat.ble 5 m then (bif Nat.ble 6 m then "()I" else "(II)I") else (bif Nat.ble 4 m then "()I" else "(LPivotSheet;IJ)Z")) else (bif Nat.ble 1 m then (bif Nat.ble 2 m then "(II)V" else "([II)I") else "([I)Z"))))
def pName (m : Nat) : MethodName := ⟨kName (pK m), pNm m, pDs m⟩
def pBytes (m : Nat) : ByteArray := (bif Nat.ble 15 m then (bif Nat.ble 22 m then (bif Nat.ble 26 m then (bif Nat.ble 28 m then (bif Nat.ble 29 m then prog_1_method_14_code else prog_1_method_15_code) else (bif Nat.ble 27 m then prog_1_method_19_code else prog_1_method_13_code)) else (bif Nat.ble 24 m then (bif Nat.ble 25 m then prog_1_method_18_code else prog_1_method_6_code) else (bif Nat.ble 23 m then prog_1_method_3_code else prog_1_method_10_code))) else (bif Nat.ble 18 m then (bif Nat.ble 20 m then (bif Nat.ble 21 m then method_4_code else prog_1_method_9_code) else (bif Nat.ble 19 m then prog_1_method_21_code else prog_1_method_27_code)) else (bif Nat.ble 16 m then (bif Nat.ble 17 m then prog_1_method_25_code else prog_1_method_26_code) else prog_1_method_2_code))) else (bif Nat.ble 7 m then (bif Nat.ble 11 m then (bif Nat.ble 13 m then (bif Nat.ble 14 m then method_3_code else prog_1_method_17_code) else (bif Nat.ble 12 m then prog_1_method_5_code else prog_1_method_11_code)) else (bif Nat.ble 9 m then (bif Nat.ble 10 m then prog_1_method_24_code else prog_1_method_23_code) else (bif Nat.ble 8 m then prog_1_method_22_code else prog_1_method_12_code))) else (bif Nat.ble 3 m then (bif Nat.ble 5 m then (bif Nat.ble 6 m then prog_1_method_8_code else prog_1_method_20_code) else (bif Nat.ble 4 m then prog_1_method_7_code else method_6_code)) else (bif Nat.ble 1 m then (bif Nat.ble 2 m then prog_1_method_1_code else method_2_code) else code))))
def pMaxL (m : Nat) : Nat := (bif Nat.ble 15 m then (bif Nat.ble 22 m then (bif Nat.ble 26 m then (bif Nat.ble 28 m then (bif Nat.ble 29 m then 2 else 2) else (bif Nat.ble 27 m then 2 else 5)) else (bif Nat.ble 24 m then (bif Nat.ble 25 m then 2 else 5) else (bif Nat.ble 23 m then 3 else 3))) else (bif Nat.ble 18 m then (bif Nat.ble 20 m then (bif Nat.ble 21 m then 3 else 3) else (bif Nat.ble 19 m then 6 else 4)) else (bif Nat.ble 16 m then (bif Nat.ble 17 m then 5 else 2) else 4))) else (bif Nat.ble 7 m then (bif Nat.ble 11 m then (bif Nat.ble 13 m then (bif Nat.ble 14 m then 1 else 2) else (bif Nat.ble 12 m then 2 else 3)) else (bif Nat.ble 9 m then (bif Nat.ble 10 m then 5 else 12) else (bif Nat.ble 8 m then 5 else 3))) else (bif Nat.ble 3 m then (bif Nat.ble 5 m then (bif Nat.ble 6 m then 1 else 5) else (bif Nat.ble 4 m then 1 else 17)) else (bif Nat.ble 1 m then (bif Nat.ble 2 m then 5 else 2) else 16))))
def pRet (m : Nat) : Option FieldType := (bif Nat.ble 15 m then (bif Nat.ble 22 m then (bif Nat.ble 26 m then (bif Nat.ble 28 m then (bif Nat.ble 29 m then (some .int) else (some .boolean)) else (bif Nat.ble 27 m then (some .boolean) else (some .boolean))) else (bif Nat.ble 24 m then (bif Nat.ble 25 m then (some .boolean) else (some .boolean)) else (bif Nat.ble 23 m then (some .boolean) else (some .int)))) else (bif Nat.ble 18 m then (bif Nat.ble 20 m then (bif Nat.ble 21 m then (some .int) else (some .int)) else (bif Nat.ble 19 m then (some .int) else (some .int))) else (bif Nat.ble 16 m then (bif Nat.ble 17 m then none else none) else (some .boolean)))) else (bif Nat.ble 7 m then (bif Nat.ble 11 m then (bif Nat.ble 13 m then (bif Nat.ble 14 m then (some .int) else (some .boolean)) else (bif Nat.ble 12 m then (some .boolean) else (some .int))) else (bif Nat.ble 9 m then (bif Nat.ble 10 m then (some .int) else none) else (bif Nat.ble 8 m then (some .boolean) else (some .int)))) else (bif Nat.ble 3 m then (bif Nat.ble 5 m then (bif Nat.ble 6 m then (some .int) else (some .int)) else (bif Nat.ble 4 m then (some .int) else (some .boolean))) else (bif Nat.ble 1 m then (bif Nat.ble 2 m then none else (some .int)) else (some .boolean)))))
def pNA (m : Nat) : Nat := (bif Nat.ble 15 m then (bif Nat.ble 22 m then (bif Nat.ble 26 m then (bif Nat.ble 28 m then (bif Nat.ble 29 m then 1 else 1) else (bif Nat.ble 27 m then 1 else 4)) else (bif Nat.ble 24 m then (bif Nat.ble 25 m then 1 else 4) else (bif Nat.ble 23 m then 1 else 1))) else (bif Nat.ble 18 m then (bif Nat.ble 20 m then (bif Nat.ble 21 m then 3 else 1) else (bif Nat.ble 19 m then 3 else 0)) else (bif Nat.ble 16 m then (bif Nat.ble 17 m then 1 else 0) else 3))) else (bif Nat.ble 7 m then (bif Nat.ble 11 m then (bif Nat.ble 13 m then (bif Nat.ble 14 m then 1 else 1) else (bif Nat.ble 12 m then 1 else 2)) else (bif Nat.ble 9 m then (bif Nat.ble 10 m then 4 else 4) else (bif Nat.ble 8 m then 2 else 2))) else (bif Nat.ble 3 m then (bif Nat.ble 5 m then (bif Nat.ble 6 m then 0 else 2) else (bif Nat.ble 4 m then 0 else 3)) else (bif Nat.ble 1 m then (bif Nat.ble 2 m then 2 else 2) else 1))))
def pFr (m : Nat) : Nat := (bif Nat.ble 15 m then (bif Nat.ble 22 m then (bif Nat.ble 26 m then (bif Nat.ble 28 m then (bif Nat.ble 29 m then 3 else 3) else (bif Nat.ble 27 m then 0 else 1)) else (bif Nat.ble 24 m then (bif Nat.ble 25 m then 0 else 4) else (bif Nat.ble 23 m then 4 else 2))) else (bif Nat.ble 18 m then (bif Nat.ble 20 m then (bif Nat.ble 21 m then 0 else 2) else (bif Nat.ble 19 m then 0 else 3)) else (bif Nat.ble 16 m then (bif Nat.ble 17 m then 2 else 3) else 4))) else (bif Nat.ble 7 m then (bif Nat.ble 11 m then (bif Nat.ble 13 m then (bif Nat.ble 14 m then 0 else 0) else (bif Nat.ble 12 m then 1 else 3)) else (bif Nat.ble 9 m then (bif Nat.ble 10 m then 0 else 1) else (bif Nat.ble 8 m then 2 else 3))) else (bif Nat.ble 3 m then (bif Nat.ble 5 m then (bif Nat.ble 6 m then 2 else 1) else (bif Nat.ble 4 m then 2 else 4)) else (bif Nat.ble 1 m then (bif Nat.ble 2 m then 1 else 0) else 5))))
def pLo (m : Nat) : Nat := (bif Nat.ble 15 m then (bif Nat.ble 22 m then (bif Nat.ble 26 m then (bif Nat.ble 28 m then (bif Nat.ble 29 m then 56 else 56) else (bif Nat.ble 27 m then 0 else 13)) else (bif Nat.ble 24 m then (bif Nat.ble 25 m then 0 else 72) else (bif Nat.ble 23 m then 72 else 33))) else (bif Nat.ble 18 m then (bif Nat.ble 20 m then (bif Nat.ble 21 m then 0 else 33) else (bif Nat.ble 19 m then 0 else 56)) else (bif Nat.ble 16 m then (bif Nat.ble 17 m then 40 else 56) else 72))) else (bif Nat.ble 7 m then (bif Nat.ble 11 m then (bif Nat.ble 13 m then (bif Nat.ble 14 m then 0 else 0) else (bif Nat.ble 12 m then 13 else 49)) else (bif Nat.ble 9 m then (bif Nat.ble 10 m then 0 else 17) else (bif Nat.ble 8 m then 33 else 49))) else (bif Nat.ble 3 m then (bif Nat.ble 5 m then (bif Nat.ble 6 m then 33 else 17) else (bif Nat.ble 4 m then 33 else 69)) else (bif Nat.ble 1 m then (bif Nat.ble 2 m then 12 else 0) else 97))))
def tB (k p : Nat) (a b : Option (Instr × Nat)) : Option (Instr × Nat) := bif Nat.ble k p then a else b
def tL (k p : Nat) (i : Instr) (x : Nat) : Option (Instr × Nat) := bif Nat.beq p k then some (i, x) else none
set_option maxHeartbeats 4000000 in
def cd0 (p : Nat) : Option (Instr × Nat) := (tB 171 p (tB 263 p (tB 303 p (tB 322 p (tB 330 p (tB 335 p (tB 341 p (tB 342 p (tL 342 p .ireturn 0) (tL 341 p (.iconst 1) 0)) (tB 338 p (tL 338 p (.goto (-302)) 36) (tL 335 p (.iinc 5 4) 0))) (tB 333 p (tB 334 p (tL 334 p .ireturn 0) (tL 333 p (.iconst 0) 0)) (tL 330 p (.ifCond .ne 5) 335))) (tB 325 p (tB 326 p (tB 327 p (tL 327 p (.invokestatic 18) 3) (tL 326 p (.lload_n 3) 0)) (tL 325 p (.iload_n 2) 0)) (tB 323 p (tB 324 p (tL 324 p (.aload_n 1) 0) (tL 323 p (.lstore_n 3) 0)) (tL 322 p .lor 0)))) (tB 313 p (tB 318 p (tB 320 p (tB 321 p (tL 321 p .lshl 0) (tL 320 p .imul 0)) (tL 318 p (.iload 10) 0)) (tB 314 p (tB 316 p (tL 316 p (.bipush 9) 0) (tL 314 p (.lload 14) 0)) (tL 313 p .land 0))) (tB 308 p (tB 309 p (tB 312 p (tL 312 p .lxor 0) (tL 309 p (.ldc2_w 43) 1)) (tL 308 p .lshl 0)) (tB 305 p (tB 307 p (tL 307 p .imul 0) (tL 305 p (.iload 10) 0)) (tL 303 p (.bipush 9) 0))))) (tB 285 p (tB 292 p (tB 296 p (tB 299 p (tB 300 p (tL 300 p (.ldc2_w 41) 0) (tL 299 p (.lload_n 3) 0)) (tB 297 p (tL 297 p (.lstore 14) 0) (tL 296 p .lor 0))) (tB 293 p (tB 295 p (tL 295 p .lshl 0) (tL 293 p (.bipush 6) 0)) (tL 292 p .i2l 0))) (tB 288 p (tB 290 p (tB 291 p (tL 291 p .iadd 0) (tL 290 p (.iconst 4) 0)) (tL 288 p (.iload 13) 0)) (tB 286 p (tB 287 p (tL 287 p .lor 0) (tL 286 p .lshl 0)) (tL 285 p (.iconst 3) 0)))) (tB 277 p (tB 282 p (tB 283 p (tB 284 p (tL 284 p .i2l 0) (tL 283 p .iadd 0)) (tL 282 p (.iconst 4) 0)) (tB 279 p (tB 280 p (tL 280 p (.iload 12) 0) (tL 279 p .i2l 0)) (tL 277 p (.iload 11) 0))) (tB 271 p (tB 273 p (tB 274 p (tL 274 p (.if_icmp .gt 50) 324) (tL 273 p (.iconst 4) 0)) (tL 271 p (.iload 11) 0)) (tB 266 p (tB 268 p (tL 268 p (.ifCond .lt 56) 324) (tL 266 p (.iload 11) 0)) (tL 263 p (.if_icmp .ge 61) 324)))))) (tB 216 p (tB 237 p (tB 247 p (tB 253 p (tB 259 p (tB 261 p (tL 261 p (.bipush 6) 0) (tL 259 p (.iload 10) 0)) (tB 256 p (tL 256 p (.ifCond .eq 68) 324) (tL 253 p (.invokevirtual 38) 26))) (tB 249 p (tB 251 p (tL 251 p (.iload 13) 0) (tL 249 p (.iload 12) 0)) (tL 247 p (.iload 11) 0))) (tB 242 p (tB 244 p (tB 245 p (tL 245 p (.iload 10) 0) (tL 244 p (.aload_n 1) 0)) (tL 242 p (.istore 13) 0)) (tB 238 p (tB 239 p (tL 239 p (.invokestatic 22) 14) (tL 238 p .iushr 0)) (tL 237 p (.iconst 3) 0)))) (tB 225 p (tB 230 p (tB 233 p (tB 235 p (tL 235 p (.iload 9) 0) (tL 233 p (.istore 12) 0)) (tL 230 p (.invokestatic 22) 14)) (tB 226 p (tB 228 p (tL 228 p (.iload 9) 0) (tL 226 p (.istore 11) 0)) (tL 225 p .isub 0))) (tB 221 p (tB 223 p (tB 224 p (tL 224 p (.iconst 1) 0) (tL 223 p .iand 0)) (tL 221 p (.bipush 7) 0)) (tB 217 p (tB 219 p (tL 219 p (.iload 8) 0) (tL 217 p (.istore 10) 0)) (tL 216 p .iand 0))))) (tB 187 p (tB 202 p (tB 208 p (tB 212 p (tB 214 p (tL 214 p (.bipush 7) 0) (tL 212 p (.iload 7) 0)) (tB 209 p (tL 209 p (.goto 115) 324) (tL 208 p (.istore_n 2) 0))) (tB 203 p (tB 206 p (tL 206 p (.iload 10) 0) (tL 203 p (.if_icmp .gt 6) 209)) (tL 202 p (.iconst 3) 0))) (tB 195 p (tB 197 p (tB 200 p (tL 200 p (.iload 10) 0) (tL 197 p (.ifCond .lt 12) 209)) (tL 195 p (.iload 10) 0)) (tB 189 p (tB 192 p (tL 192 p (.ifCond .eq 17) 209) (tL 189 p (.invokevirtual 34) 24)) (tL 187 p (.iload 10) 0)))) (tB 179 p (tB 183 p (tB 185 p (tB 186 p (tL 186 p .iand 0) (tL 185 p (.iconst 3) 0)) (tL 183 p (.iload 9) 0)) (tB 181 p (tB 182 p (tL 182 p .iand 0) (tL 181 p (.iconst 3) 0)) (tL 179 p (.iload 8) 0))) (tB 175 p (tB 177 p (tB 178 p (tL 178 p .iand 0) (tL 177 p (.iconst 3) 0)) (tL 175 p (.iload 7) 0)) (tB 172 p (tB 174 p (tL 174 p (.aload_n 1) 0) (tL 172 p (.istore 10) 0)) (tL 171 p .isub 0))))))) (tB 79 p (tB 127 p (tB 149 p (tB 160 p (tB 166 p (tB 169 p (tB 170 p (tL 170 p (.iconst 2) 0) (tL 169 p .iand 0)) (tB 167 p (tL 167 p (.bipush 7) 0) (tL 166 p .iushr 0))) (tB 163 p (tB 165 p (tL 165 p (.iconst 2) 0) (tL 163 p (.iload 7) 0)) (tL 160 p (.if_icmp .ne 52) 212))) (tB 154 p (tB 157 p (tB 159 p (tL 159 p (.iconst 5) 0) (tL 157 p (.iload 6) 0)) (tL 154 p (.goto 170) 324)) (tB 150 p (tB 153 p (tL 153 p .pop 0) (tL 150 p (.invokevirtual 30) 23)) (tL 149 p .iand 0)))) (tB 138 p (tB 144 p (tB 145 p (tB 147 p (tL 147 p (.bipush 15) 0) (tL 145 p (.iload 7) 0)) (tL 144 p (.aload_n 1) 0)) (tB 140 p (tB 141 p (tL 141 p (.if_icmp .ne 16) 157) (tL 140 p (.iconst 4) 0)) (tL 138 p (.iload 6) 0))) (tB 131 p (tB 134 p (tB 135 p (tL 135 p (.goto 189) 324) (tL 134 p .pop 0)) (tL 131 p (.invokevirtual 26) 15)) (tB 128 p (tB 129 p (tL 129 p (.iload 9) 0) (tL 128 p .iand 0)) (tL 127 p (.iconst 3) 0))))) (tB 100 p (tB 114 p (tB 120 p (tB 124 p (tB 125 p (tL 125 p (.iload 8) 0) (tL 124 p .iand 0)) (tB 122 p (tL 122 p (.bipush 15) 0) (tL 120 p (.iload 7) 0))) (tB 116 p (tB 119 p (tL 119 p (.aload_n 1) 0) (tL 116 p (.if_icmp .ne 22) 138)) (tL 114 p (.bipush 7) 0))) (tB 108 p (tB 109 p (tB 112 p (tL 112 p (.iload 6) 0) (tL 109 p (.goto 215) 324)) (tL 108 p .pop 0)) (tB 102 p (tB 105 p (tL 105 p (.invokevirtual 26) 15) (tL 102 p (.invokestatic 22) 14)) (tL 100 p (.iload 9) 0)))) (tB 91 p (tB 96 p (tB 98 p (tB 99 p (tL 99 p .iand 0) (tL 98 p (.iconst 3) 0)) (tL 96 p (.iload 8) 0)) (tB 93 p (tB 95 p (tL 95 p .iand 0) (tL 93 p (.bipush 15) 0)) (tL 91 p (.iload 7) 0))) (tB 86 p (tB 87 p (tB 90 p (tL 90 p (.aload_n 1) 0) (tL 87 p (.if_icmp .gt 25) 112)) (tL 86 p (.iconst 3) 0)) (tB 82 p (tB 84 p (tL 84 p (.iload 6) 0) (tL 82 p (.istore 9) 0)) (tL 79 p (.invokestatic 9) 1)))))) (tB 38 p (tB 58 p (tB 68 p (tB 74 p (tB 77 p (tB 78 p (tL 78 p .iadd 0) (tL 77 p (.iconst 3) 0)) (tB 75 p (tL 75 p (.iload 5) 0) (tL 74 p (.aload_n 0) 0))) (tB 69 p (tB 72 p (tL 72 p (.istore 8) 0) (tL 69 p (.invokestatic 9) 1)) (tL 68 p .iadd 0))) (tB 64 p (tB 65 p (tB 67 p (tL 67 p (.iconst 2) 0) (tL 65 p (.iload 5) 0)) (tL 64 p (.aload_n 0) 0)) (tB 59 p (tB 62 p (tL 62 p (.istore 7) 0) (tL 59 p (.invokestatic 9) 1)) (tL 58 p .iadd 0)))) (tB 49 p (tB 54 p (tB 55 p (tB 57 p (tL 57 p (.iconst 1) 0) (tL 55 p (.iload 5) 0)) (tL 54 p (.aload_n 0) 0)) (tB 51 p (tB 52 p (tL 52 p (.istore 6) 0) (tL 51 p .iand 0)) (tL 49 p (.bipush 7) 0))) (tB 43 p (tB 44 p (tB 46 p (tL 46 p (.invokestatic 9) 1) (tL 44 p (.iload 5) 0)) (tL 43 p (.aload_n 0) 0)) (tB 39 p (tB 40 p (tL 40 p (.if_icmp .ge 301) 341) (tL 39 p .arraylength 0)) (tL 38 p (.aload_n 0) 0))))) (tB 20 p (tB 28 p (tB 33 p (tB 34 p (tB 36 p (tL 36 p (.iload 5) 0) (tL 34 p (.istore 5) 0)) (tL 33 p (.iconst 1) 0)) (tB 31 p (tB 32 p (tL 32 p .ireturn 0) (tL 31 p (.iconst 0) 0)) (tL 28 p (.ifCond .ne 5) 33))) (tB 23 p (tB 24 p (tB 25 p (tL 25 p (.invokestatic 18) 3) (tL 24 p (.lload_n 3) 0)) (tL 23 p (.iload_n 2) 0)) (tB 21 p (tB 22 p (tL 22 p (.aload_n 1) 0) (tL 21 p (.lstore_n 3) 0)) (tL 20 p (.lconst 0) 0)))) (tB 11 p (tB 17 p (tB 18 p (tB 19 p (tL 19 p (.istore_n 2) 0) (tL 18 p (.iconst 0) 0)) (tL 17 p (.astore_n 1) 0)) (tB 12 p (tB 14 p (tL 14 p (.invokespecial 15) 2) (tL 12 p (.bipush 6) 0)) (tL 11 p .iand 0))) (tB 5 p (tB 6 p (tB 9 p (tL 9 p (.bipush 15) 0) (tL 6 p (.invokestatic 9) 1)) (tL 5 p (.iconst 0) 0)) (tB 3 p (tB 4 p (tL 4 p (.aload_n 0) 0) (tL 3 p .dup 0)) (tL 0 p (.new 7) 0))))))))
set_option maxHeartbeats 4000000 in
def cd1 (p : Nat) : Option (Instr × Nat) := (tB 7 p (tB 9 p (tB 12 p (tB 13 p (tL 13 p .ireturn 0) (tL 12 p (.iconst 0) 0)) (tL 9 p (.goto 4) 13)) (tB 8 p (tL 8 p .iaload 0) (tL 7 p (.iload_n 1) 0))) (tB 2 p (tB 3 p (tB 6 p (tL 6 p (.aload_n 0) 0) (tL 3 p (.if_icmp .ge 9) 12)) (tL 2 p .arraylength 0)) (tB 1 p (tL 1 p (.aload_n 0) 0) (tL 0 p (.iload_n 1) 0))))
set_option maxHeartbeats 4000000 in
def cd2 (p : Nat) : Option (Instr × Nat) := (tB 76 p (tB 110 p (tB 130 p (tB 138 p (tB 142 p (tB 143 p (tB 146 p (tL 146 p .return_ 0) (tL 143 p (.putfield 54) 14)) (tL 142 p (.iconst 0) 0)) (tB 141 p (tL 141 p (.aload_n 0) 0) (tL 138 p (.putfield 51) 13))) (tB 132 p (tB 135 p (tB 136 p (tL 136 p (.iload 4) 0) (tL 135 p (.aload_n 0) 0)) (tL 132 p (.putfield 48) 12)) (tB 131 p (tL 131 p (.iload_n 3) 0) (tL 130 p (.aload_n 0) 0)))) (tB 119 p (tB 123 p (tB 126 p (tB 128 p (tL 128 p (.istore 4) 0) (tL 126 p (.bipush 16) 0)) (tL 123 p (.if_icmp .le 7) 130)) (tB 121 p (tL 121 p (.bipush 16) 0) (tL 119 p (.iload 4) 0))) (tB 113 p (tB 116 p (tB 117 p (tL 117 p (.istore 4) 0) (tL 116 p (.iconst 1) 0)) (tL 113 p (.if_icmp .ge 6) 119)) (tB 112 p (tL 112 p (.iconst 1) 0) (tL 110 p (.iload 4) 0))))) (tB 93 p (tB 101 p (tB 106 p (tB 107 p (tB 108 p (tL 108 p (.istore 4) 0) (tL 107 p (.iload_n 2) 0)) (tL 106 p (.istore_n 3) 0)) (tB 104 p (tL 104 p (.bipush 32) 0) (tL 101 p (.if_icmp .le 6) 107))) (tB 97 p (tB 98 p (tB 99 p (tL 99 p (.bipush 32) 0) (tL 98 p (.iload_n 3) 0)) (tL 97 p (.istore_n 3) 0)) (tB 96 p (tL 96 p (.iconst 4) 0) (tL 93 p (.if_icmp .ge 5) 98)))) (tB 86 p (tB 90 p (tB 91 p (tB 92 p (tL 92 p (.iconst 4) 0) (tL 91 p (.iload_n 3) 0)) (tL 90 p (.istore_n 3) 0)) (tB 89 p (tL 89 p (.iload_n 1) 0) (tL 86 p (.putfield 45) 11))) (tB 81 p (tB 82 p (tB 84 p (tL 84 p (.newarray .int) 0) (tL 82 p (.bipush 64) 0)) (tL 81 p (.aload_n 0) 0)) (tB 78 p (tL 78 p (.putfield 42) 10) (tL 76 p (.newarray .boolean) 0)))))) (tB 37 p (tB 57 p (tB 66 p (tB 70 p (tB 73 p (tB 74 p (tL 74 p (.bipush 16) 0) (tL 73 p (.aload_n 0) 0)) (tL 70 p (.putfield 39) 9)) (tB 68 p (tL 68 p (.newarray .int) 0) (tL 66 p (.bipush 16) 0))) (tB 60 p (tB 62 p (tB 65 p (tL 65 p (.aload_n 0) 0) (tL 62 p (.putfield 36) 8)) (tL 60 p (.newarray .int) 0)) (tB 58 p (tL 58 p (.bipush 16) 0) (tL 57 p (.aload_n 0) 0)))) (tB 46 p (tB 50 p (tB 52 p (tB 54 p (tL 54 p (.putfield 33) 7) (tL 52 p (.newarray .int) 0)) (tL 50 p (.bipush 16) 0)) (tB 49 p (tL 49 p (.aload_n 0) 0) (tL 46 p (.putfield 30) 6))) (tB 41 p (tB 42 p (tB 44 p (tL 44 p (.newarray .int) 0) (tL 42 p (.bipush 16) 0)) (tL 41 p (.aload_n 0) 0)) (tB 38 p (tL 38 p (.putfield 27) 5) (tL 37 p (.iconst 0) 0))))) (tB 21 p (tB 28 p (tB 32 p (tB 33 p (tB 36 p (tL 36 p (.aload_n 0) 0) (tL 33 p (.putfield 24) 4)) (tL 32 p (.iconst 2) 0)) (tB 31 p (tL 31 p (.aload_n 0) 0) (tL 28 p (.putfield 21) 3))) (tB 23 p (tB 26 p (tB 27 p (tL 27 p (.iconst 1) 0) (tL 26 p (.aload_n 0) 0)) (tL 23 p (.putfield 17) 2)) (tB 22 p (tL 22 p (.iconst 0) 0) (tL 21 p (.aload_n 0) 0)))) (tB 10 p (tB 14 p (tB 16 p (tB 18 p (tL 18 p (.putfield 13) 1) (tL 16 p (.newarray .boolean) 0)) (tL 14 p (.bipush 32) 0)) (tB 13 p (tL 13 p (.aload_n 0) 0) (tL 10 p (.putfield 7) 0))) (tB 4 p (tB 5 p (tB 8 p (tL 8 p (.newarray .int) 0) (tL 5 p (.sipush 128) 0)) (tL 4 p (.aload_n 0) 0)) (tB 1 p (tL 1 p (.invokespecial 1) 0) (tL 0 p (.aload_n 0) 0)))))))
set_option maxHeartbeats 4000000 in
def cd3 (p : Nat) : Option (Instr × Nat) := (tB 368 p (tB 546 p (tB 644 p (tB 692 p (tB 714 p (tB 728 p (tB 733 p (tB 736 p (tB 737 p (tL 737 p .ireturn 0) (tL 736 p (.iconst 1) 0)) (tL 733 p (.goto (-308)) 425)) (tB 729 p (tB 730 p (tL 730 p (.iinc 8 1) 0) (tL 729 p .ireturn 0)) (tL 728 p (.iconst 0) 0))) (tB 720 p (tB 723 p (tB 725 p (tL 725 p (.if_icmp .eq 5) 730) (tL 723 p (.iload 16) 0)) (tL 720 p (.invokevirtual 75) 29)) (tB 717 p (tB 718 p (tL 718 p (.iload 8) 0) (tL 717 p (.aload_n 0) 0)) (tL 714 p (.if_icmp .ne 14) 728)))) (tB 701 p (tB 707 p (tB 709 p (tB 712 p (tL 712 p (.iload 15) 0) (tL 709 p (.invokevirtual 72) 28)) (tL 707 p (.iload 8) 0)) (tB 704 p (tB 706 p (tL 706 p (.aload_n 0) 0) (tL 704 p (.istore 16) 0)) (tL 701 p (.invokevirtual 62) 11))) (tB 698 p (tB 699 p (tB 700 p (tL 700 p (.iconst (-1)) 0) (tL 699 p (.iconst (-1)) 0)) (tL 698 p (.aload_n 0) 0)) (tB 695 p (tB 696 p (tL 696 p (.istore 15) 0) (tL 695 p (.iconst 0) 0)) (tL 692 p (.goto 4) 696))))) (tB 667 p (tB 680 p (tB 686 p (tB 688 p (tB 691 p (tL 691 p (.iconst 1) 0) (tL 688 p (.ifCond .le 7) 695)) (tL 686 p (.iload 7) 0)) (tB 681 p (tB 683 p (tL 683 p (.goto 23) 706) (tL 681 p (.istore 16) 0)) (tL 680 p (.iconst 0) 0))) (tB 672 p (tB 674 p (tB 677 p (tL 677 p (.goto 4) 681) (tL 674 p (.invokevirtual 62) 11)) (tL 672 p (.iload 14) 0)) (tB 670 p (tB 671 p (tL 671 p (.iconst (-1)) 0) (tL 670 p (.aload_n 0) 0)) (tL 667 p (.ifCond .eq 13) 680)))) (tB 655 p (tB 662 p (tB 663 p (tB 665 p (tL 665 p (.iload 15) 0) (tL 663 p (.istore 15) 0)) (tL 662 p (.iconst 0) 0)) (tB 658 p (tB 659 p (tL 659 p (.goto 4) 663) (tL 658 p (.iconst 1) 0)) (tL 655 p (.ifCond .lt 7) 662))) (tB 649 p (tB 650 p (tB 653 p (tL 653 p (.iload 14) 0) (tL 650 p (.if_icmp .ne 36) 686)) (tL 649 p (.iconst 3) 0)) (tB 647 p (tL 647 p (.iload 10) 0) (tL 644 p (.goto 62) 706)))))) (tB 596 p (tB 620 p (tB 632 p (tB 638 p (tB 641 p (tB 642 p (tL 642 p (.istore 16) 0) (tL 641 p (.iconst 0) 0)) (tL 638 p (.goto 4) 642)) (tB 634 p (tB 635 p (tL 635 p (.invokevirtual 62) 11) (tL 634 p (.iconst (-1)) 0)) (tL 632 p (.iload 13) 0))) (tB 626 p (tB 628 p (tB 631 p (tL 631 p (.aload_n 0) 0) (tL 628 p (.ifCond .eq 13) 641)) (tL 626 p (.iload 15) 0)) (tB 623 p (tB 624 p (tL 624 p (.istore 15) 0) (tL 623 p (.iconst 0) 0)) (tL 620 p (.goto 4) 624)))) (tB 608 p (tB 614 p (tB 616 p (tB 619 p (tL 619 p (.iconst 1) 0) (tL 616 p (.ifCond .lt 7) 623)) (tL 614 p (.iload 13) 0)) (tB 610 p (tB 611 p (tL 611 p (.if_icmp .ne 36) 647) (tL 610 p (.iconst 2) 0)) (tL 608 p (.iload 10) 0))) (tB 602 p (tB 603 p (tB 605 p (tL 605 p (.goto 101) 706) (tL 603 p (.istore 16) 0)) (tL 602 p (.iconst 0) 0)) (tB 599 p (tL 599 p (.goto 4) 603) (tL 596 p (.invokevirtual 62) 11))))) (tB 571 p (tB 584 p (tB 591 p (tB 592 p (tB 594 p (tL 594 p (.iload 14) 0) (tL 592 p (.iload 13) 0)) (tL 591 p (.aload_n 0) 0)) (tB 586 p (tB 588 p (tL 588 p (.ifCond .eq 14) 602) (tL 586 p (.iload 15) 0)) (tL 584 p (.istore 15) 0))) (tB 579 p (tB 580 p (tB 583 p (tL 583 p (.iconst 0) 0) (tL 580 p (.goto 4) 584)) (tL 579 p (.iconst 1) 0)) (tB 573 p (tB 576 p (tL 576 p (.ifCond .le 7) 583) (tL 573 p (.invokevirtual 58) 7)) (tL 571 p (.iload 14) 0)))) (tB 558 p (tB 565 p (tB 568 p (tB 569 p (tL 569 p (.iload 13) 0) (tL 568 p (.aload_n 0) 0)) (tL 565 p (.ifCond .lt 18) 583)) (tB 560 p (tB 563 p (tL 563 p (.iload 14) 0) (tL 560 p (.ifCond .lt 23) 583)) (tL 558 p (.iload 13) 0))) (tB 552 p (tB 554 p (tB 555 p (tL 555 p (.if_icmp .ne 53) 608) (tL 554 p (.iconst 1) 0)) (tL 552 p (.iload 10) 0)) (tB 549 p (tL 549 p (.goto (-25)) 524) (tL 546 p (.iinc 15 1) 0))))))) (tB 456 p (tB 493 p (tB 521 p (tB 532 p (tB 539 p (tB 542 p (tB 544 p (tL 544 p (.istore 14) 0) (tL 542 p (.iload 15) 0)) (tL 539 p (.if_icmp .ne 7) 546)) (tB 534 p (tB 537 p (tL 537 p (.iload 12) 0) (tL 534 p (.invokevirtual 55) 22)) (tL 532 p (.iload 15) 0))) (tB 526 p (tB 528 p (tB 531 p (tL 531 p (.aload_n 0) 0) (tL 528 p (.if_icmp .ge 24) 552)) (tL 526 p (.iload 5) 0)) (tB 522 p (tB 524 p (tL 524 p (.iload 15) 0) (tL 522 p (.istore 15) 0)) (tL 521 p (.iconst 0) 0)))) (tB 506 p (tB 513 p (tB 515 p (tB 518 p (tL 518 p (.goto (-25)) 493) (tL 515 p (.iinc 15 1) 0)) (tL 513 p (.istore 13) 0)) (tB 508 p (tB 511 p (tL 511 p (.iload 15) 0) (tL 508 p (.if_icmp .ne 7) 515)) (tL 506 p (.iload 11) 0))) (tB 500 p (tB 501 p (tB 503 p (tL 503 p (.invokevirtual 52) 20) (tL 501 p (.iload 15) 0)) (tL 500 p (.aload_n 0) 0)) (tB 495 p (tB 497 p (tL 497 p (.if_icmp .ge 24) 521) (tL 495 p (.iload 4) 0)) (tL 493 p (.iload 15) 0))))) (tB 472 p (tB 484 p (tB 488 p (tB 490 p (tB 491 p (tL 491 p (.istore 15) 0) (tL 490 p (.iconst 0) 0)) (tL 488 p (.istore 14) 0)) (tB 485 p (tB 487 p (tL 487 p (.iconst (-1)) 0) (tL 485 p (.istore 13) 0)) (tL 484 p (.iconst (-1)) 0))) (tB 476 p (tB 478 p (tB 481 p (tL 481 p (.goto 249) 730) (tL 478 p (.ifCond .ne 6) 484)) (tL 476 p (.iload 10) 0)) (tB 473 p (tB 474 p (tL 474 p (.istore 12) 0) (tL 473 p .isub 0)) (tL 472 p (.iconst 4) 0)))) (tB 462 p (tB 468 p (tB 469 p (tB 471 p (tL 471 p .iand 0) (tL 469 p (.bipush 7) 0)) (tL 468 p .iushr 0)) (tB 464 p (tB 466 p (tL 466 p (.bipush 6) 0) (tL 464 p (.iload 9) 0)) (tL 462 p (.istore 11) 0))) (tB 459 p (tB 460 p (tB 461 p (tL 461 p .isub 0) (tL 460 p (.iconst 4) 0)) (tL 459 p .iand 0)) (tB 457 p (tL 457 p (.bipush 7) 0) (tL 456 p .iushr 0)))))) (tB 417 p (tB 437 p (tB 446 p (tB 451 p (tB 453 p (tB 455 p (tL 455 p (.iconst 3) 0) (tL 453 p (.iload 9) 0)) (tL 451 p (.istore 10) 0)) (tB 448 p (tB 450 p (tL 450 p .iand 0) (tL 448 p (.bipush 7) 0)) (tL 446 p (.iload 9) 0))) (tB 442 p (tB 443 p (tB 444 p (tL 444 p (.istore 9) 0) (tL 443 p .l2i 0)) (tL 442 p .land 0)) (tB 438 p (tB 439 p (tL 439 p (.ldc2_w 41) 0) (tL 438 p .lushr 0)) (tL 437 p .imul 0)))) (tB 425 p (tB 432 p (tB 433 p (tB 435 p (tL 435 p (.iload 8) 0) (tL 433 p (.bipush 9) 0)) (tL 432 p (.lload_n 2) 0)) (tB 427 p (tB 429 p (tL 429 p (.if_icmp .ge 307) 736) (tL 427 p (.bipush 6) 0)) (tL 425 p (.iload 8) 0))) (tB 421 p (tB 422 p (tB 423 p (tL 423 p (.istore 8) 0) (tL 422 p (.iconst 0) 0)) (tL 421 p .ireturn 0)) (tB 420 p (tL 420 p (.iconst 0) 0) (tL 417 p (.if_icmp .eq 5) 422))))) (tB 390 p (tB 406 p (tB 411 p (tB 413 p (tB 415 p (tL 415 p (.iload 6) 0) (tL 413 p (.iload 7) 0)) (tL 411 p (.istore 7) 0)) (tB 407 p (tB 408 p (tL 408 p (.invokevirtual 58) 7) (tL 407 p (.iconst (-1)) 0)) (tL 406 p (.iconst (-1)) 0))) (tB 399 p (tB 402 p (tB 405 p (tL 405 p (.aload_n 0) 0) (tL 402 p (.goto (-22)) 380)) (tL 399 p (.iinc 7 1) 0)) (tB 393 p (tB 396 p (tL 396 p (.iinc 6 1) 0) (tL 393 p (.ifCond .eq 6) 399)) (tL 390 p (.invokevirtual 69) 12)))) (tB 378 p (tB 384 p (tB 387 p (tB 388 p (tL 388 p (.iload 7) 0) (tL 387 p (.aload_n 0) 0)) (tL 384 p (.if_icmp .ge 21) 405)) (tB 380 p (tB 382 p (tL 382 p (.bipush 40) 0) (tL 380 p (.iload 7) 0)) (tL 378 p (.istore 7) 0))) (tB 374 p (tB 375 p (tB 377 p (tL 377 p (.iconst 0) 0) (tL 375 p (.istore 6) 0)) (tL 374 p (.iconst 0) 0)) (tB 371 p (tL 371 p (.goto (-140)) 231) (tL 368 p (.iinc 6 1) 0)))))))) (tB 185 p (tB 273 p (tB 322 p (tB 345 p (tB 357 p (tB 363 p (tB 366 p (tB 367 p (tL 367 p .ireturn 0) (tL 366 p (.iconst 0) 0)) (tL 363 p (.if_icmp .eq 5) 368)) (tB 359 p (tB 362 p (tL 362 p (.iconst 0) 0) (tL 359 p (.goto 4) 363)) (tL 357 p (.iload 9) 0))) (tB 349 p (tB 352 p (tB 354 p (tL 354 p (.ifCond .eq 8) 362) (tL 352 p (.iload 10) 0)) (tL 349 p (.invokevirtual 62) 11)) (tB 346 p (tB 347 p (tL 347 p (.iload 7) 0) (tL 346 p (.iconst (-1)) 0)) (tL 345 p (.aload_n 0) 0)))) (tB 333 p (tB 340 p (tB 343 p (tB 344 p (tL 344 p .ireturn 0) (tL 343 p (.iconst 0) 0)) (tL 340 p (.if_icmp .eq 5) 345)) (tB 335 p (tB 338 p (tL 338 p (.iload 8) 0) (tL 335 p (.invokevirtual 58) 7)) (tL 333 p (.iload 7) 0))) (tB 328 p (tB 331 p (tB 332 p (tL 332 p (.iconst (-1)) 0) (tL 331 p (.aload_n 0) 0)) (tL 328 p (.goto (-65)) 263)) (tB 323 p (tB 325 p (tL 325 p (.iinc 11 1) 0) (tL 323 p (.istore 10) 0)) (tL 322 p (.iconst 1) 0))))) (tB 295 p (tB 308 p (tB 315 p (tB 318 p (tB 320 p (tL 320 p (.istore 9) 0) (tL 318 p (.iload 13) 0)) (tL 315 p (.goto 5) 320)) (tB 310 p (tB 312 p (tL 312 p (.invokestatic 65) 21) (tL 310 p (.iload 13) 0)) (tL 308 p (.iload 9) 0))) (tB 302 p (tB 304 p (tB 307 p (tL 307 p (.iload_n 1) 0) (tL 304 p (.ifCond .eq 14) 318)) (tL 302 p (.iload 10) 0)) (tB 297 p (tB 300 p (tL 300 p (.istore 13) 0) (tL 297 p (.invokevirtual 62) 11)) (tL 295 p (.iload 7) 0)))) (tB 284 p (tB 289 p (tB 292 p (tB 293 p (tL 293 p (.iload 11) 0) (tL 292 p (.aload_n 0) 0)) (tL 289 p (.ifCond .le 36) 325)) (tB 285 p (tB 287 p (tL 287 p (.iload 12) 0) (tL 285 p (.istore 8) 0)) (tL 284 p .iadd 0))) (tB 278 p (tB 280 p (tB 282 p (tL 282 p (.iload 12) 0) (tL 280 p (.iload 8) 0)) (tL 278 p (.istore 12) 0)) (tB 275 p (tL 275 p (.invokevirtual 58) 7) (tL 273 p (.iload 7) 0)))))) (tB 229 p (tB 252 p (tB 261 p (tB 267 p (tB 270 p (tB 271 p (tL 271 p (.iload 11) 0) (tL 270 p (.aload_n 0) 0)) (tL 267 p (.if_icmp .ge 64) 331)) (tB 263 p (tB 265 p (tL 265 p (.iload 4) 0) (tL 263 p (.iload 11) 0)) (tL 261 p (.istore 11) 0))) (tB 257 p (tB 258 p (tB 260 p (tL 260 p (.iconst 0) 0) (tL 258 p (.istore 10) 0)) (tL 257 p (.iconst 0) 0)) (tB 254 p (tB 255 p (tL 255 p (.istore 9) 0) (tL 254 p (.iconst 0) 0)) (tL 252 p (.istore 8) 0)))) (tB 240 p (tB 247 p (tB 249 p (tB 251 p (tL 251 p (.iconst 0) 0) (tL 249 p (.istore 7) 0)) (tL 247 p (.iload 6) 0)) (tB 243 p (tB 244 p (tL 244 p (.goto 5) 249) (tL 243 p (.iconst (-1)) 0)) (tL 240 p (.ifCond .ge 7) 247))) (tB 233 p (tB 235 p (tB 238 p (tL 238 p (.iload 6) 0) (tL 235 p (.if_icmp .ge 139) 374)) (tL 233 p (.iload 5) 0)) (tB 231 p (tL 231 p (.iload 6) 0) (tL 229 p (.istore 6) 0))))) (tB 203 p (tB 217 p (tB 222 p (tB 225 p (tB 228 p (tL 228 p (.iconst (-1)) 0) (tL 225 p (.goto (-140)) 85)) (tL 222 p (.iinc 6 1) 0)) (tB 220 p (tB 221 p (tL 221 p .ireturn 0) (tL 220 p (.iconst 0) 0)) (tL 217 p (.if_icmp .eq 5) 222))) (tB 211 p (tB 213 p (tB 216 p (tL 216 p (.iconst 0) 0) (tL 213 p (.goto 4) 217)) (tL 211 p (.iload 9) 0)) (tB 206 p (tB 208 p (tL 208 p (.ifCond .eq 8) 216) (tL 206 p (.iload 10) 0)) (tL 203 p (.invokevirtual 62) 11)))) (tB 194 p (tB 199 p (tB 200 p (tB 202 p (tL 202 p (.iconst (-1)) 0) (tL 200 p (.iload 7) 0)) (tL 199 p (.aload_n 0) 0)) (tB 197 p (tB 198 p (tL 198 p .ireturn 0) (tL 197 p (.iconst 0) 0)) (tL 194 p (.if_icmp .eq 5) 199))) (tB 188 p (tB 189 p (tB 192 p (tL 192 p (.iload 8) 0) (tL 189 p (.invokevirtual 58) 7)) (tL 188 p (.iconst (-1)) 0)) (tB 186 p (tL 186 p (.iload 7) 0) (tL 185 p (.aload_n 0) 0))))))) (tB 89 p (tB 134 p (tB 158 p (tB 172 p (tB 177 p (tB 179 p (tB 182 p (tL 182 p (.goto (-65)) 117) (tL 179 p (.iinc 11 1) 0)) (tL 177 p (.istore 10) 0)) (tB 174 p (tB 176 p (tL 176 p (.iconst 1) 0) (tL 174 p (.istore 9) 0)) (tL 172 p (.iload 13) 0))) (tB 164 p (tB 166 p (tB 169 p (tL 169 p (.goto 5) 174) (tL 166 p (.invokestatic 65) 21)) (tL 164 p (.iload 13) 0)) (tB 161 p (tB 162 p (tL 162 p (.iload 9) 0) (tL 161 p (.iload_n 1) 0)) (tL 158 p (.ifCond .eq 14) 172)))) (tB 146 p (tB 151 p (tB 154 p (tB 156 p (tL 156 p (.iload 10) 0) (tL 154 p (.istore 13) 0)) (tL 151 p (.invokevirtual 62) 11)) (tB 147 p (tB 149 p (tL 149 p (.iload 11) 0) (tL 147 p (.iload 7) 0)) (tL 146 p (.aload_n 0) 0))) (tB 139 p (tB 141 p (tB 143 p (tL 143 p (.ifCond .le 36) 179) (tL 141 p (.iload 12) 0)) (tL 139 p (.istore 8) 0)) (tB 136 p (tB 138 p (tL 138 p .iadd 0) (tL 136 p (.iload 12) 0)) (tL 134 p (.iload 8) 0))))) (tB 111 p (tB 121 p (tB 127 p (tB 129 p (tB 132 p (tL 132 p (.istore 12) 0) (tL 129 p (.invokevirtual 58) 7)) (tL 127 p (.iload 11) 0)) (tB 124 p (tB 125 p (tL 125 p (.iload 7) 0) (tL 124 p (.aload_n 0) 0)) (tL 121 p (.if_icmp .ge 64) 185))) (tB 115 p (tB 117 p (tB 119 p (tL 119 p (.iload 5) 0) (tL 117 p (.iload 11) 0)) (tL 115 p (.istore 11) 0)) (tB 112 p (tB 114 p (tL 114 p (.iconst 0) 0) (tL 112 p (.istore 10) 0)) (tL 111 p (.iconst 0) 0)))) (tB 101 p (tB 106 p (tB 108 p (tB 109 p (tL 109 p (.istore 9) 0) (tL 108 p (.iconst 0) 0)) (tL 106 p (.istore 8) 0)) (tB 103 p (tB 105 p (tL 105 p (.iconst 0) 0) (tL 103 p (.istore 7) 0)) (tL 101 p (.iload 6) 0))) (tB 94 p (tB 97 p (tB 98 p (tL 98 p (.goto 5) 103) (tL 97 p (.iconst (-1)) 0)) (tL 94 p (.ifCond .ge 7) 101)) (tB 92 p (tL 92 p (.iload 6) 0) (tL 89 p (.if_icmp .ge 139) 228)))))) (tB 44 p (tB 65 p (tB 76 p (tB 83 p (tB 85 p (tB 87 p (tL 87 p (.iload 4) 0) (tL 85 p (.iload 6) 0)) (tL 83 p (.istore 6) 0)) (tB 79 p (tB 82 p (tL 82 p (.iconst (-1)) 0) (tL 79 p (.goto (-29)) 50)) (tL 76 p (.iinc 6 1) 0))) (tB 71 p (tB 74 p (tB 75 p (tL 75 p .ireturn 0) (tL 74 p (.iconst 0) 0)) (tL 71 p (.if_icmp .lt 5) 76)) (tB 66 p (tB 68 p (tL 68 p (.invokevirtual 55) 22) (tL 66 p (.iload 6) 0)) (tL 65 p (.aload_n 0) 0)))) (tB 54 p (tB 60 p (tB 61 p (tB 62 p (tL 62 p (.invokevirtual 55) 22) (tL 61 p .isub 0)) (tL 60 p (.iconst 1) 0)) (tB 57 p (tB 58 p (tL 58 p (.iload 6) 0) (tL 57 p (.aload_n 0) 0)) (tL 54 p (.if_icmp .ge 28) 82))) (tB 48 p (tB 50 p (tB 52 p (tL 52 p (.iload 5) 0) (tL 50 p (.iload 6) 0)) (tL 48 p (.istore 6) 0)) (tB 47 p (tL 47 p (.iconst 1) 0) (tL 44 p (.goto (-29)) 15))))) (tB 22 p (tB 31 p (tB 39 p (tB 40 p (tB 41 p (tL 41 p (.iinc 6 1) 0) (tL 40 p .ireturn 0)) (tL 39 p (.iconst 0) 0)) (tB 33 p (tB 36 p (tL 36 p (.if_icmp .lt 5) 41) (tL 33 p (.invokevirtual 52) 20)) (tL 31 p (.iload 6) 0))) (tB 26 p (tB 27 p (tB 30 p (tL 30 p (.aload_n 0) 0) (tL 27 p (.invokevirtual 52) 20)) (tL 26 p .isub 0)) (tB 23 p (tB 25 p (tL 25 p (.iconst 1) 0) (tL 23 p (.iload 6) 0)) (tL 22 p (.aload_n 0) 0)))) (tB 10 p (tB 15 p (tB 17 p (tB 19 p (tL 19 p (.if_icmp .ge 28) 47) (tL 17 p (.iload 4) 0)) (tL 15 p (.iload 6) 0)) (tB 12 p (tB 13 p (tL 13 p (.istore 6) 0) (tL 12 p (.iconst 1) 0)) (tL 10 p (.istore 5) 0))) (tB 4 p (tB 6 p (tB 7 p (tL 7 p (.invokevirtual 49) 6) (tL 6 p (.aload_n 0) 0)) (tL 4 p (.istore 4) 0)) (tB 1 p (tL 1 p (.invokevirtual 45) 4) (tL 0 p (.aload_n 0) 0)))))))))
set_option maxHeartbeats 4000000 in
def cd4 (p : Nat) : Option (Instr × Nat) := (tB 5 p (tB 6 p (tB 9 p (tL 9 p .ireturn 0) (tL 6 p (.invokevirtual 71) 5)) (tL 5 p (.iconst 0) 0)) (tB 1 p (tB 2 p (tL 2 p (.getfield 17) 2) (tL 1 p (.aload_n 0) 0)) (tL 0 p (.aload_n 0) 0)))
set_option maxHeartbeats 4000000 in
def cd5 (p : Nat) : Option (Instr × Nat) := (tB 26 p (tB 36 p (tB 42 p (tB 48 p (tB 49 p (tL 49 p .ireturn 0) (tL 48 p (.iload_n 3) 0)) (tB 45 p (tL 45 p (.goto (-40)) 5) (tL 42 p (.iinc 4 1) 0))) (tB 38 p (tB 41 p (tL 41 p (.istore_n 3) 0) (tL 38 p (.invokevirtual 109) 19)) (tB 37 p (tL 37 p .iaload 0) (tL 36 p .iadd 0)))) (tB 31 p (tB 34 p (tB 35 p (tL 35 p (.iload_n 1) 0) (tL 34 p .imul 0)) (tB 33 p (tL 33 p (.iconst 4) 0) (tL 31 p (.iload 4) 0))) (tB 27 p (tB 28 p (tL 28 p (.getfield 7) 0) (tL 27 p (.aload_n 0) 0)) (tL 26 p (.iload_n 3) 0)))) (tB 11 p (tB 20 p (tB 24 p (tB 25 p (tL 25 p (.iload_n 2) 0) (tL 24 p (.aload_n 0) 0)) (tB 21 p (tL 21 p (.ifCond .eq 21) 42) (tL 20 p .baload 0))) (tB 15 p (tB 18 p (tL 18 p (.iload 4) 0) (tL 15 p (.getfield 13) 1)) (tB 14 p (tL 14 p (.aload_n 0) 0) (tL 11 p (.if_icmp .ge 37) 48)))) (tB 3 p (tB 7 p (tB 8 p (tL 8 p (.getfield 48) 12) (tL 7 p (.aload_n 0) 0)) (tB 5 p (tL 5 p (.iload 4) 0) (tL 3 p (.istore 4) 0))) (tB 1 p (tB 2 p (tL 2 p (.iconst 0) 0) (tL 1 p (.istore_n 3) 0)) (tL 0 p (.iconst 0) 0)))))
set_option maxHeartbeats 4000000 in
def cd6 (p : Nat) : Option (Instr × Nat) := (tB 5 p (tB 7 p (tB 10 p (tL 10 p .ireturn 0) (tL 7 p (.invokevirtual 71) 5)) (tL 5 p (.bipush 32) 0)) (tB 1 p (tB 2 p (tL 2 p (.getfield 21) 3) (tL 1 p (.aload_n 0) 0)) (tL 0 p (.aload_n 0) 0)))
set_option maxHeartbeats 4000000 in
def cd7 (p : Nat) : Option (Instr × Nat) := (tB 16 p (tB 25 p (tB 31 p (tB 32 p (tB 35 p (tL 35 p .ireturn 0) (tL 32 p (.getfield 99) 19)) (tL 31 p (.aload_n 0) 0)) (tB 28 p (tL 28 p (.invokevirtual 92) 9) (tL 25 p (.getfield 89) 18))) (tB 20 p (tB 21 p (tB 24 p (tL 24 p (.aload_n 0) 0) (tL 21 p (.getfield 86) 17)) (tL 20 p (.aload_n 0) 0)) (tB 17 p (tL 17 p (.getfield 83) 16) (tL 16 p (.aload_n 0) 0)))) (tB 9 p (tB 11 p (tB 12 p (tB 13 p (tL 13 p (.getfield 79) 15) (tL 12 p (.aload_n 0) 0)) (tL 11 p (.aload_n 0) 0)) (tB 10 p (tL 10 p .ireturn 0) (tL 9 p (.iconst 0) 0))) (tB 2 p (tB 3 p (tB 6 p (tL 6 p (.ifCond .ne 5) 11) (tL 3 p (.invokevirtual 75) 8)) (tL 2 p (.iload_n 2) 0)) (tB 1 p (tL 1 p (.iload_n 1) 0) (tL 0 p (.aload_n 0) 0)))))
set_option maxHeartbeats 4000000 in
def cd8 (p : Nat) : Option (Instr × Nat) := (tB 62 p (tB 96 p (tB 113 p (tB 121 p (tB 125 p (tB 128 p (tB 129 p (tL 129 p .ireturn 0) (tL 128 p (.iconst 1) 0)) (tL 125 p (.putfield 89) 18)) (tB 124 p (tL 124 p (.iconst 0) 0) (tL 121 p (.goto 4) 125))) (tB 118 p (tB 119 p (tB 120 p (tL 120 p .iaload 0) (tL 119 p .iadd 0)) (tL 118 p (.iload_n 2) 0)) (tB 116 p (tL 116 p (.bipush 32) 0) (tL 113 p (.getfield 45) 11)))) (tB 104 p (tB 106 p (tB 109 p (tB 112 p (tL 112 p (.aload_n 0) 0) (tL 109 p (.ifCond .eq 15) 124)) (tL 106 p (.getfield 86) 17)) (tB 105 p (tL 105 p (.aload_n 0) 0) (tL 104 p (.aload_n 0) 0))) (tB 100 p (tB 101 p (tL 101 p (.putfield 86) 17) (tL 100 p (.iconst 0) 0)) (tB 97 p (tL 97 p (.goto 4) 101) (tL 96 p (.iconst 1) 0))))) (tB 81 p (tB 87 p (tB 91 p (tB 92 p (tB 93 p (tL 93 p (.if_icmp .eq 7) 100) (tL 92 p (.iconst (-1)) 0)) (tL 91 p (.iload_n 2) 0)) (tB 90 p (tL 90 p (.aload_n 0) 0) (tL 87 p (.putfield 83) 16))) (tB 83 p (tB 86 p (tL 86 p (.iconst 0) 0) (tL 83 p (.goto 4) 87)) (tB 82 p (tL 82 p .iaload 0) (tL 81 p (.iload_n 1) 0)))) (tB 70 p (tB 74 p (tB 77 p (tB 78 p (tL 78 p (.getfield 45) 11) (tL 77 p (.aload_n 0) 0)) (tL 74 p (.ifCond .eq 12) 86)) (tB 71 p (tL 71 p (.getfield 79) 15) (tL 70 p (.aload_n 0) 0))) (tB 66 p (tB 69 p (tL 69 p (.aload_n 0) 0) (tL 66 p (.putfield 79) 15)) (tB 65 p (tL 65 p (.iconst 0) 0) (tL 62 p (.goto 4) 66)))))) (tB 32 p (tB 47 p (tB 55 p (tB 57 p (tB 58 p (tB 61 p (tL 61 p (.iconst 1) 0) (tL 58 p (.if_icmp .eq 7) 65)) (tL 57 p (.iconst (-1)) 0)) (tB 56 p (tL 56 p (.iload_n 1) 0) (tL 55 p (.aload_n 0) 0))) (tB 50 p (tB 53 p (tB 54 p (tL 54 p .ireturn 0) (tL 53 p (.iconst 0) 0)) (tL 50 p (.if_icmp .lt 5) 55)) (tB 48 p (tL 48 p (.iload 4) 0) (tL 47 p (.iload_n 2) 0)))) (tB 38 p (tB 40 p (tB 43 p (tB 44 p (tL 44 p (.ifCond .lt 9) 53) (tL 43 p (.iload_n 2) 0)) (tL 40 p (.if_icmp .eq 15) 55)) (tB 39 p (tL 39 p (.iconst (-1)) 0) (tL 38 p (.iload_n 2) 0))) (tB 36 p (tB 37 p (tL 37 p .ireturn 0) (tL 36 p (.iconst 0) 0)) (tB 33 p (tL 33 p (.if_icmp .lt 5) 38) (tL 32 p (.iload_n 3) 0))))) (tB 15 p (tB 23 p (tB 27 p (tB 28 p (tB 31 p (tL 31 p (.iload_n 1) 0) (tL 28 p (.ifCond .lt 8) 36)) (tL 27 p (.iload_n 1) 0)) (tB 24 p (tL 24 p (.if_icmp .eq 14) 38) (tL 23 p (.iconst (-1)) 0))) (tB 20 p (tB 22 p (tL 22 p (.iload_n 1) 0) (tL 20 p (.istore 4) 0)) (tB 17 p (tL 17 p (.invokevirtual 71) 5) (tL 15 p (.bipush 32) 0)))) (tB 6 p (tB 10 p (tB 11 p (tB 12 p (tL 12 p (.getfield 21) 3) (tL 11 p (.aload_n 0) 0)) (tL 10 p (.aload_n 0) 0)) (tB 9 p (tL 9 p (.istore_n 3) 0) (tL 6 p (.invokevirtual 71) 5))) (tB 2 p (tB 5 p (tL 5 p (.iconst 0) 0) (tL 2 p (.getfield 17) 2)) (tB 1 p (tL 1 p (.aload_n 0) 0) (tL 0 p (.aload_n 0) 0)))))))
set_option maxHeartbeats 4000000 in
def cd9 (p : Nat) : Option (Instr × Nat) := (tB 84 p (tB 133 p (tB 158 p (tB 168 p (tB 174 p (tB 177 p (tB 180 p (tL 180 p .return_ 0) (tL 177 p (.putfield 96) 20)) (tL 174 p (.invokevirtual 113) 10)) (tB 170 p (tB 172 p (tL 172 p (.iload 8) 0) (tL 170 p (.iload 7) 0)) (tL 168 p (.iload 5) 0))) (tB 164 p (tB 165 p (tB 166 p (tL 166 p (.iload 6) 0) (tL 165 p (.aload_n 0) 0)) (tL 164 p (.aload_n 0) 0)) (tB 159 p (tB 161 p (tL 161 p (.putfield 99) 19) (tL 159 p (.iload 6) 0)) (tL 158 p (.aload_n 0) 0)))) (tB 144 p (tB 149 p (tB 152 p (tB 155 p (tL 155 p (.goto (-140)) 15) (tL 152 p (.iinc 9 1) 0)) (tL 149 p (.iinc 6 1) 0)) (tB 146 p (tB 147 p (tL 147 p (.istore 5) 0) (tL 146 p .iadd 0)) (tL 144 p (.iload 11) 0))) (tB 138 p (tB 140 p (tB 142 p (tL 142 p (.iload 5) 0) (tL 140 p (.istore 8) 0)) (tL 138 p (.iload 11) 0)) (tB 135 p (tL 135 p (.if_icmp .le 7) 142) (tL 133 p (.iload 8) 0))))) (tB 106 p (tB 120 p (tB 127 p (tB 129 p (tB 131 p (tL 131 p (.iload 11) 0) (tL 129 p (.istore 7) 0)) (tL 127 p (.iload 11) 0)) (tB 122 p (tB 124 p (tL 124 p (.if_icmp .ge 7) 131) (tL 122 p (.iload 7) 0)) (tL 120 p (.iload 11) 0))) (tB 113 p (tB 115 p (tB 117 p (tL 117 p (.goto 25) 142) (tL 115 p (.istore 8) 0)) (tL 113 p (.iload 11) 0)) (tB 109 p (tB 111 p (tL 111 p (.istore 7) 0) (tL 109 p (.iload 11) 0)) (tL 106 p (.ifCond .ne 14) 120)))) (tB 96 p (tB 101 p (tB 102 p (tB 104 p (tL 104 p (.iload 6) 0) (tL 102 p (.istore 11) 0)) (tL 101 p .iaload 0)) (tB 97 p (tB 100 p (tL 100 p .iadd 0) (tL 97 p (.getfield 24) 4)) (tL 96 p (.aload_n 0) 0))) (tB 90 p (tB 91 p (tB 94 p (tL 94 p (.iload 10) 0) (tL 91 p (.getfield 7) 0)) (tL 90 p (.aload_n 0) 0)) (tB 87 p (tL 87 p (.goto 65) 152) (tL 84 p (.if_icmp .eq 6) 90)))))) (tB 41 p (tB 60 p (tB 74 p (tB 80 p (tB 81 p (tB 82 p (tL 82 p (.iload 4) 0) (tL 81 p .iaload 0)) (tL 80 p .iadd 0)) (tB 76 p (tB 77 p (tL 77 p (.getfield 21) 3) (tL 76 p (.aload_n 0) 0)) (tL 74 p (.iload 10) 0))) (tB 67 p (tB 70 p (tB 71 p (tL 71 p (.getfield 7) 0) (tL 70 p (.aload_n 0) 0)) (tL 67 p (.ifCond .eq 23) 90)) (tB 63 p (tB 66 p (tL 66 p (.iload_n 3) 0) (tL 63 p (.goto 89) 152)) (tL 60 p (.if_icmp .eq 6) 66)))) (tB 51 p (tB 57 p (tB 58 p (tB 59 p (tL 59 p (.iload_n 2) 0) (tL 58 p .iaload 0)) (tL 57 p .iadd 0)) (tB 53 p (tB 54 p (tL 54 p (.getfield 17) 2) (tL 53 p (.aload_n 0) 0)) (tL 51 p (.iload 10) 0))) (tB 44 p (tB 47 p (tB 48 p (tL 48 p (.getfield 7) 0) (tL 47 p (.aload_n 0) 0)) (tL 44 p (.ifCond .eq 22) 66)) (tB 43 p (tL 43 p (.iload_n 1) 0) (tL 41 p (.istore 10) 0))))) (tB 17 p (tB 30 p (tB 37 p (tB 39 p (tB 40 p (tL 40 p .imul 0) (tL 39 p (.iconst 4) 0)) (tL 37 p (.iload 9) 0)) (tB 31 p (tB 34 p (tL 34 p (.goto 118) 152) (tL 31 p (.ifCond .ne 6) 37)) (tL 30 p .baload 0))) (tB 24 p (tB 25 p (tB 28 p (tL 28 p (.iload 9) 0) (tL 25 p (.getfield 13) 1)) (tL 24 p (.aload_n 0) 0)) (tB 18 p (tB 21 p (tL 21 p (.if_icmp .ge 137) 158) (tL 18 p (.getfield 48) 12)) (tL 17 p (.aload_n 0) 0)))) (tB 7 p (tB 12 p (tB 13 p (tB 15 p (tL 15 p (.iload 9) 0) (tL 13 p (.istore 9) 0)) (tL 12 p (.iconst 0) 0)) (tB 9 p (tB 10 p (tL 10 p (.istore 8) 0) (tL 9 p (.iconst 0) 0)) (tL 7 p (.istore 7) 0))) (tB 3 p (tB 4 p (tB 6 p (tL 6 p (.iconst 0) 0) (tL 4 p (.istore 6) 0)) (tL 3 p (.iconst 0) 0)) (tB 1 p (tL 1 p (.istore 5) 0) (tL 0 p (.iconst 0) 0)))))))
set_option maxHeartbeats 4000000 in
def cd10 (p : Nat) : Option (Instr × Nat) := (tB 20 p (tB 30 p (tB 36 p (tB 37 p (tB 38 p (tL 38 p .ireturn 0) (tL 37 p (.iload_n 2) 0)) (tL 36 p .ireturn 0)) (tB 31 p (tB 34 p (tL 34 p (.iload 4) 0) (tL 31 p (.if_icmp .ne 6) 37)) (tL 30 p (.iconst 3) 0))) (tB 25 p (tB 26 p (tB 27 p (tL 27 p (.getfield 27) 5) (tL 26 p (.aload_n 0) 0)) (tL 25 p .ireturn 0)) (tB 21 p (tB 24 p (tL 24 p (.iload_n 3) 0) (tL 21 p (.if_icmp .ne 5) 26)) (tL 20 p (.iconst 2) 0)))) (tB 10 p (tB 15 p (tB 16 p (tB 17 p (tL 17 p (.getfield 27) 5) (tL 16 p (.aload_n 0) 0)) (tL 15 p .ireturn 0)) (tB 11 p (tB 14 p (tL 14 p (.iload_n 1) 0) (tL 11 p (.if_icmp .ne 5) 16)) (tL 10 p (.iconst 1) 0))) (tB 5 p (tB 6 p (tB 7 p (tL 7 p (.getfield 27) 5) (tL 6 p (.aload_n 0) 0)) (tL 5 p .ireturn 0)) (tB 1 p (tB 4 p (tL 4 p (.iconst 0) 0) (tL 1 p (.ifCond .ne 5) 6)) (tL 0 p (.iload_n 1) 0)))))
set_option maxHeartbeats 4000000 in
def cd11 (p : Nat) : Option (Instr × Nat) := (tB 16 p (tB 25 p (tB 31 p (tB 32 p (tB 35 p (tL 35 p .ireturn 0) (tL 32 p (.getfield 96) 20)) (tL 31 p (.aload_n 0) 0)) (tB 28 p (tL 28 p (.invokevirtual 92) 9) (tL 25 p (.getfield 89) 18))) (tB 20 p (tB 21 p (tB 24 p (tL 24 p (.aload_n 0) 0) (tL 21 p (.getfield 86) 17)) (tL 20 p (.aload_n 0) 0)) (tB 17 p (tL 17 p (.getfield 83) 16) (tL 16 p (.aload_n 0) 0)))) (tB 9 p (tB 11 p (tB 12 p (tB 13 p (tL 13 p (.getfield 79) 15) (tL 12 p (.aload_n 0) 0)) (tL 11 p (.aload_n 0) 0)) (tB 10 p (tL 10 p .ireturn 0) (tL 9 p (.iconst 0) 0))) (tB 2 p (tB 3 p (tB 6 p (tL 6 p (.ifCond .ne 5) 11) (tL 3 p (.invokevirtual 75) 8)) (tL 2 p (.iload_n 2) 0)) (tB 1 p (tL 1 p (.iload_n 1) 0) (tL 0 p (.aload_n 0) 0)))))
set_option maxHeartbeats 4000000 in
def cd12 (p : Nat) : Option (Instr × Nat) := (tB 9 p (tB 14 p (tB 15 p (tB 16 p (tL 16 p .ireturn 0) (tL 15 p .baload 0)) (tL 14 p (.iload_n 1) 0)) (tB 10 p (tB 11 p (tL 11 p (.getfield 13) 1) (tL 10 p (.aload_n 0) 0)) (tL 9 p .ireturn 0))) (tB 2 p (tB 5 p (tB 8 p (tL 8 p (.iconst 0) 0) (tL 5 p (.ifCond .ne 5) 10)) (tL 2 p (.invokevirtual 57) 13)) (tB 1 p (tL 1 p (.iload_n 1) 0) (tL 0 p (.aload_n 0) 0))))
set_option maxHeartbeats 4000000 in
def cd13 (p : Nat) : Option (Instr × Nat) := (tB 9 p (tB 13 p (tB 16 p (tB 17 p (tL 17 p .ireturn 0) (tL 16 p (.iconst 0) 0)) (tL 13 p (.goto 4) 17)) (tB 12 p (tL 12 p (.iconst 1) 0) (tL 9 p (.if_icmp .ge 7) 16))) (tB 4 p (tB 5 p (tB 6 p (tL 6 p (.getfield 48) 12) (tL 5 p (.aload_n 0) 0)) (tL 4 p (.iload_n 1) 0)) (tB 1 p (tL 1 p (.ifCond .lt 15) 16) (tL 0 p (.iload_n 1) 0))))
set_option maxHeartbeats 4000000 in
def cd14 (p : Nat) : Option (Instr × Nat) := (tB 4 p (tB 5 p (tB 6 p (tL 6 p .ireturn 0) (tL 5 p .isub 0)) (tL 4 p (.iconst 4) 0)) (tB 1 p (tB 3 p (tL 3 p .iand 0) (tL 1 p (.bipush 7) 0)) (tL 0 p (.iload_n 0) 0)))
set_option maxHeartbeats 4000000 in
def cd15 (p : Nat) : Option (Instr × Nat) := (tB 29 p (tB 40 p (tB 44 p (tB 48 p (tB 51 p (tB 52 p (tL 52 p .ireturn 0) (tL 51 p (.iconst 1) 0)) (tL 48 p (.putfield 54) 14)) (tB 45 p (tL 45 p (.invokevirtual 64) 18) (tL 44 p (.aload_n 0) 0))) (tB 42 p (tB 43 p (tL 43 p (.aload_n 0) 0) (tL 42 p .bastore 0)) (tB 41 p (tL 41 p (.iconst 1) 0) (tL 40 p (.iload_n 1) 0)))) (tB 33 p (tB 35 p (tB 36 p (tB 37 p (tL 37 p (.getfield 13) 1) (tL 36 p (.aload_n 0) 0)) (tL 35 p .iastore 0)) (tB 34 p (tL 34 p (.iload_n 3) 0) (tL 33 p .iadd 0))) (tB 31 p (tB 32 p (tL 32 p (.iload_n 2) 0) (tL 31 p .imul 0)) (tB 30 p (tL 30 p (.iconst 4) 0) (tL 29 p (.iload_n 1) 0))))) (tB 14 p (tB 20 p (tB 22 p (tB 25 p (tB 26 p (tL 26 p (.getfield 7) 0) (tL 25 p (.aload_n 0) 0)) (tL 22 p (.invokevirtual 61) 16)) (tB 21 p (tL 21 p (.aload_n 0) 0) (tL 20 p .ireturn 0))) (tB 16 p (tB 19 p (tL 19 p (.iconst 0) 0) (tL 16 p (.if_icmp .lt 5) 21)) (tB 15 p (tL 15 p (.iconst 4) 0) (tL 14 p (.iload_n 2) 0)))) (tB 8 p (tB 10 p (tB 11 p (tL 11 p (.ifCond .lt 8) 19) (tL 10 p (.iload_n 2) 0)) (tB 9 p (tL 9 p .ireturn 0) (tL 8 p (.iconst 0) 0))) (tB 2 p (tB 5 p (tL 5 p (.ifCond .ne 5) 10) (tL 2 p (.invokevirtual 57) 13)) (tB 1 p (tL 1 p (.iload_n 1) 0) (tL 0 p (.aload_n 0) 0))))))
set_option maxHeartbeats 4000000 in
def cd16 (p : Nat) : Option (Instr × Nat) := (tB 24 p (tB 37 p (tB 42 p (tB 46 p (tB 49 p (tL 49 p .return_ 0) (tL 46 p (.goto (-44)) 2)) (tB 43 p (tL 43 p (.iinc 1 1) 0) (tL 42 p .bastore 0))) (tB 38 p (tB 41 p (tL 41 p (.iconst 0) 0) (tL 38 p (.goto 4) 42)) (tL 37 p (.iconst 1) 0))) (tB 29 p (tB 31 p (tB 34 p (tL 34 p (.ifCond .le 7) 41) (tL 31 p (.getfield 99) 19)) (tB 30 p (tL 30 p (.aload_n 0) 0) (tL 29 p (.iload_n 1) 0))) (tB 25 p (tB 26 p (tL 26 p (.getfield 42) 10) (tL 25 p (.aload_n 0) 0)) (tL 24 p .iastore 0)))) (tB 11 p (tB 16 p (tB 20 p (tB 21 p (tL 21 p (.getfield 96) 20) (tL 20 p (.aload_n 0) 0)) (tB 19 p (tL 19 p (.iload_n 1) 0) (tL 16 p (.getfield 39) 9))) (tB 12 p (tB 15 p (tL 15 p (.aload_n 0) 0) (tL 12 p (.invokevirtual 105) 17)) (tL 11 p (.iload_n 1) 0))) (tB 3 p (tB 7 p (tB 10 p (tL 10 p (.aload_n 0) 0) (tL 7 p (.if_icmp .ge 42) 49)) (tB 4 p (tL 4 p (.getfield 51) 13) (tL 3 p (.aload_n 0) 0))) (tB 1 p (tB 2 p (tL 2 p (.iload_n 1) 0) (tL 1 p (.istore_n 1) 0)) (tL 0 p (.iconst 0) 0)))))
set_option maxHeartbeats 4000000 in
def cd17 (p : Nat) : Option (Instr × Nat) := (tB 37 p (tB 56 p (tB 65 p (tB 70 p (tB 71 p (tB 74 p (tL 74 p .return_ 0) (tL 71 p (.invokevirtual 92) 9)) (tL 70 p .iaload 0)) (tB 66 p (tB 69 p (tL 69 p (.iload_n 1) 0) (tL 66 p (.getfield 36) 8)) (tL 65 p (.aload_n 0) 0))) (tB 61 p (tB 62 p (tB 63 p (tL 63 p (.iload 4) 0) (tL 62 p .iaload 0)) (tL 61 p (.iload_n 1) 0)) (tB 57 p (tB 58 p (tL 58 p (.getfield 33) 7) (tL 57 p (.aload_n 0) 0)) (tL 56 p (.iload_n 3) 0)))) (tB 45 p (tB 52 p (tB 53 p (tB 55 p (tL 55 p (.aload_n 0) 0) (tL 53 p (.istore 4) 0)) (tL 52 p (.iconst 0) 0)) (tB 48 p (tB 49 p (tL 49 p (.goto 4) 53) (tL 48 p (.iconst 1) 0)) (tL 45 p (.if_icmp .ne 7) 52))) (tB 40 p (tB 43 p (tB 44 p (tL 44 p (.iconst 3) 0) (tL 43 p (.iload_n 2) 0)) (tL 40 p (.if_icmp .eq 8) 48)) (tB 38 p (tB 39 p (tL 39 p (.iconst 1) 0) (tL 38 p (.iload_n 2) 0)) (tL 37 p (.istore_n 3) 0))))) (tB 17 p (tB 27 p (tB 32 p (tB 33 p (tB 36 p (tL 36 p (.iconst 0) 0) (tL 33 p (.goto 4) 37)) (tL 32 p (.iconst 1) 0)) (tB 28 p (tB 29 p (tL 29 p (.if_icmp .ne 7) 36) (tL 28 p (.iconst 2) 0)) (tL 27 p (.iload_n 2) 0))) (tB 22 p (tB 23 p (tB 24 p (tL 24 p (.if_icmp .eq 8) 32) (tL 23 p (.iconst 1) 0)) (tL 22 p (.iload_n 2) 0)) (tB 18 p (tB 21 p (tL 21 p .return_ 0) (tL 18 p (.putfield 99) 19)) (tL 17 p (.iconst 0) 0)))) (tB 7 p (tB 12 p (tB 13 p (tB 16 p (tL 16 p (.aload_n 0) 0) (tL 13 p (.putfield 96) 20)) (tL 12 p (.iconst 0) 0)) (tB 8 p (tB 11 p (tL 11 p (.aload_n 0) 0) (tL 8 p (.ifCond .ne 14) 22)) (tL 7 p (.iload_n 2) 0))) (tB 4 p (tB 5 p (tB 6 p (tL 6 p (.istore_n 2) 0) (tL 5 p .iaload 0)) (tL 4 p (.iload_n 1) 0)) (tB 1 p (tL 1 p (.getfield 30) 6) (tL 0 p (.aload_n 0) 0))))))
set_option maxHeartbeats 4000000 in
def cd18 (p : Nat) : Option (Instr × Nat) := (tB 30 p (tB 45 p (tB 53 p (tB 59 p (tB 62 p (tB 63 p (tL 63 p .ireturn 0) (tL 62 p (.iload_n 1) 0)) (tL 59 p (.goto (-55)) 4)) (tB 56 p (tL 56 p (.iinc 2 1) 0) (tL 53 p (.iinc 1 1) 0))) (tB 49 p (tB 50 p (tL 50 p (.if_icmp .eq 6) 56) (tL 49 p .baload 0)) (tB 48 p (tL 48 p (.iload_n 2) 0) (tL 45 p (.getfield 42) 10)))) (tB 38 p (tB 40 p (tB 43 p (tB 44 p (tL 44 p (.aload_n 0) 0) (tL 43 p (.iload_n 3) 0)) (tL 40 p (.if_icmp .ne 13) 53)) (tB 39 p (tL 39 p .iaload 0) (tL 38 p (.iload_n 2) 0))) (tB 34 p (tB 35 p (tL 35 p (.getfield 39) 9) (tL 34 p (.aload_n 0) 0)) (tB 31 p (tL 31 p (.getfield 96) 20) (tL 30 p (.aload_n 0) 0))))) (tB 13 p (tB 21 p (tB 25 p (tB 28 p (tB 29 p (tL 29 p (.istore_n 3) 0) (tL 28 p (.iconst 0) 0)) (tL 25 p (.goto 4) 29)) (tB 24 p (tL 24 p (.iconst 1) 0) (tL 21 p (.ifCond .le 7) 28))) (tB 17 p (tB 18 p (tL 18 p (.getfield 99) 19) (tL 17 p (.aload_n 0) 0)) (tB 14 p (tL 14 p (.invokevirtual 105) 17) (tL 13 p (.iload_n 2) 0)))) (tB 4 p (tB 6 p (tB 9 p (tB 12 p (tL 12 p (.aload_n 0) 0) (tL 9 p (.if_icmp .ge 53) 62)) (tL 6 p (.getfield 51) 13)) (tB 5 p (tL 5 p (.aload_n 0) 0) (tL 4 p (.iload_n 2) 0))) (tB 2 p (tB 3 p (tL 3 p (.istore_n 2) 0) (tL 2 p (.iconst 0) 0)) (tB 1 p (tL 1 p (.istore_n 1) 0) (tL 0 p (.iconst 0) 0))))))
set_option maxHeartbeats 4000000 in
def cd19 (p : Nat) : Option (Instr × Nat) := (tB 59 p (tB 87 p (tB 101 p (tB 106 p (tB 108 p (tB 109 p (tB 110 p (tL 110 p .ireturn 0) (tL 109 p .iadd 0)) (tL 108 p (.iconst 1) 0)) (tB 107 p (tL 107 p (.iload_n 2) 0) (tL 106 p .iastore 0))) (tB 104 p (tB 105 p (tL 105 p (.iload_n 3) 0) (tL 104 p .iadd 0)) (tB 102 p (tL 102 p (.iload 4) 0) (tL 101 p (.iload_n 1) 0)))) (tB 91 p (tB 97 p (tB 98 p (tL 98 p (.getfield 45) 11) (tL 97 p (.aload_n 0) 0)) (tB 94 p (tL 94 p (.goto (-30)) 64) (tL 91 p (.iinc 5 (-1)) 0))) (tB 89 p (tB 90 p (tL 90 p .iastore 0) (tL 89 p .iaload 0)) (tB 88 p (tL 88 p .isub 0) (tL 87 p (.iconst 1) 0))))) (tB 72 p (tB 79 p (tB 83 p (tB 84 p (tB 86 p (tL 86 p .iadd 0) (tL 84 p (.iload 5) 0)) (tL 83 p (.iload_n 1) 0)) (tB 80 p (tL 80 p (.getfield 45) 11) (tL 79 p (.aload_n 0) 0))) (tB 76 p (tB 78 p (tL 78 p .iadd 0) (tL 76 p (.iload 5) 0)) (tB 75 p (tL 75 p (.iload_n 1) 0) (tL 72 p (.getfield 45) 11)))) (tB 64 p (tB 68 p (tB 71 p (tL 71 p (.aload_n 0) 0) (tL 68 p (.if_icmp .le 29) 97)) (tB 66 p (tL 66 p (.iload 4) 0) (tL 64 p (.iload 5) 0))) (tB 61 p (tB 62 p (tL 62 p (.istore 5) 0) (tL 61 p (.iload_n 2) 0)) (tB 60 p (tL 60 p .ireturn 0) (tL 59 p (.iload_n 2) 0)))))) (tB 28 p (tB 43 p (tB 51 p (tB 54 p (tB 55 p (tB 56 p (tL 56 p (.if_icmp .ne 5) 61) (tL 55 p (.iload_n 3) 0)) (tL 54 p .iaload 0)) (tB 53 p (tL 53 p .iadd 0) (tL 51 p (.iload 4) 0))) (tB 47 p (tB 50 p (tL 50 p (.iload_n 1) 0) (tL 47 p (.getfield 45) 11)) (tB 46 p (tL 46 p (.aload_n 0) 0) (tL 43 p (.if_icmp .ge 18) 61)))) (tB 34 p (tB 40 p (tB 42 p (tL 42 p (.iload_n 2) 0) (tL 40 p (.iload 4) 0)) (tB 37 p (tL 37 p (.goto (-22)) 15) (tL 34 p (.iinc 4 1) 0))) (tB 30 p (tB 31 p (tL 31 p (.if_icmp .ge 9) 40) (tL 30 p (.iload_n 3) 0)) (tB 29 p (tL 29 p .iaload 0) (tL 28 p .iadd 0))))) (tB 13 p (tB 21 p (tB 25 p (tB 26 p (tL 26 p (.iload 4) 0) (tL 25 p (.iload_n 1) 0)) (tB 22 p (tL 22 p (.getfield 45) 11) (tL 21 p (.aload_n 0) 0))) (tB 17 p (tB 18 p (tL 18 p (.if_icmp .ge 22) 40) (tL 17 p (.iload_n 2) 0)) (tB 15 p (tL 15 p (.iload 4) 0) (tL 13 p (.istore 4) 0)))) (tB 7 p (tB 11 p (tB 12 p (tL 12 p (.iconst 0) 0) (tL 11 p .ireturn 0)) (tB 10 p (tL 10 p (.iload_n 2) 0) (tL 7 p (.if_icmp .lt 5) 12))) (tB 4 p (tB 5 p (tL 5 p (.bipush 32) 0) (tL 4 p (.iload_n 2) 0)) (tB 1 p (tL 1 p (.ifCond .lt 9) 10) (tL 0 p (.iload_n 2) 0)))))))
set_option maxHeartbeats 4000000 in
def cd20 (p : Nat) : Option (Instr × Nat) := (tB 15 p (tB 21 p (tB 25 p (tB 26 p (tB 27 p (tL 27 p .ireturn 0) (tL 26 p .iaload 0)) (tL 25 p (.iload_n 1) 0)) (tB 22 p (tL 22 p (.getfield 45) 11) (tL 21 p (.aload_n 0) 0))) (tB 19 p (tB 20 p (tL 20 p .ireturn 0) (tL 19 p (.iconst 0) 0)) (tB 16 p (tL 16 p (.if_icmp .lt 5) 21) (tL 15 p (.iload_n 2) 0)))) (tB 6 p (tB 10 p (tB 11 p (tB 14 p (tL 14 p (.iload_n 1) 0) (tL 11 p (.ifCond .lt 8) 19)) (tL 10 p (.iload_n 1) 0)) (tB 9 p (tL 9 p (.istore_n 2) 0) (tL 6 p (.invokevirtual 71) 5))) (tB 2 p (tB 5 p (tL 5 p (.iconst 0) 0) (tL 2 p (.getfield 17) 2)) (tB 1 p (tL 1 p (.aload_n 0) 0) (tL 0 p (.aload_n 0) 0)))))
set_option maxHeartbeats 4000000 in
def cd21 (p : Nat) : Option (Instr × Nat) := (tB 18 p (tB 30 p (tB 33 p (tB 34 p (tB 35 p (tL 35 p .ireturn 0) (tL 34 p .iadd 0)) (tL 33 p (.iload_n 2) 0)) (tB 31 p (tB 32 p (tL 32 p (.iload_n 1) 0) (tL 31 p .ireturn 0)) (tL 30 p (.iload_n 2) 0))) (tB 23 p (tB 26 p (tB 27 p (tL 27 p (.goto 4) 31) (tL 26 p (.iload_n 1) 0)) (tL 23 p (.if_icmp .le 7) 30)) (tB 21 p (tB 22 p (tL 22 p (.iload_n 2) 0) (tL 21 p (.iload_n 1) 0)) (tL 18 p (.if_icmp .ne 14) 32)))) (tB 10 p (tB 15 p (tB 16 p (tB 17 p (tL 17 p (.iconst 3) 0) (tL 16 p (.iload_n 0) 0)) (tL 15 p .ireturn 0)) (tB 11 p (tB 14 p (tL 14 p (.iload_n 2) 0) (tL 11 p (.goto 4) 15)) (tL 10 p (.iload_n 1) 0))) (tB 5 p (tB 6 p (tB 7 p (tL 7 p (.if_icmp .ge 7) 14) (tL 6 p (.iload_n 2) 0)) (tL 5 p (.iload_n 1) 0)) (tB 1 p (tB 2 p (tL 2 p (.if_icmp .ne 14) 16) (tL 1 p (.iconst 2) 0)) (tL 0 p (.iload_n 0) 0)))))
set_option maxHeartbeats 4000000 in
def cd22 (p : Nat) : Option (Instr × Nat) := (tB 17 p (tB 26 p (tB 29 p (tB 30 p (tB 31 p (tL 31 p .ireturn 0) (tL 30 p .iaload 0)) (tL 29 p .iadd 0)) (tB 28 p (tL 28 p (.iload_n 1) 0) (tL 26 p (.bipush 32) 0))) (tB 21 p (tB 22 p (tB 23 p (tL 23 p (.getfield 45) 11) (tL 22 p (.aload_n 0) 0)) (tL 21 p .ireturn 0)) (tB 20 p (tL 20 p (.iconst 0) 0) (tL 17 p (.if_icmp .lt 5) 22)))) (tB 10 p (tB 12 p (tB 15 p (tB 16 p (tL 16 p (.iload_n 2) 0) (tL 15 p (.iload_n 1) 0)) (tL 12 p (.ifCond .lt 8) 20)) (tB 11 p (tL 11 p (.iload_n 1) 0) (tL 10 p (.istore_n 2) 0))) (tB 2 p (tB 5 p (tB 7 p (tL 7 p (.invokevirtual 71) 5) (tL 5 p (.bipush 32) 0)) (tL 2 p (.getfield 21) 3)) (tB 1 p (tL 1 p (.aload_n 0) 0) (tL 0 p (.aload_n 0) 0)))))
set_option maxHeartbeats 4000000 in
def cd23 (p : Nat) : Option (Instr × Nat) := (tB 33 p (tB 49 p (tB 56 p (tB 61 p (tB 64 p (tB 65 p (tL 65 p .ireturn 0) (tL 64 p (.iconst 1) 0)) (tL 61 p (.putfield 54) 14)) (tB 57 p (tB 58 p (tL 58 p (.invokevirtual 64) 18) (tL 57 p (.aload_n 0) 0)) (tL 56 p (.aload_n 0) 0))) (tB 53 p (tB 54 p (tB 55 p (tL 55 p .bastore 0) (tL 54 p (.iconst 0) 0)) (tL 53 p (.iload_n 1) 0)) (tB 50 p (tL 50 p (.getfield 13) 1) (tL 49 p (.aload_n 0) 0)))) (tB 40 p (tB 42 p (tB 43 p (tB 46 p (tL 46 p (.goto (-19)) 27) (tL 43 p (.iinc 2 1) 0)) (tL 42 p .iastore 0)) (tB 41 p (tL 41 p (.iconst 0) 0) (tL 40 p .iadd 0))) (tB 37 p (tB 38 p (tB 39 p (tL 39 p (.iload_n 2) 0) (tL 38 p .imul 0)) (tL 37 p (.iconst 4) 0)) (tB 36 p (tL 36 p (.iload_n 1) 0) (tL 33 p (.getfield 7) 0))))) (tB 16 p (tB 25 p (tB 28 p (tB 29 p (tB 32 p (tL 32 p (.aload_n 0) 0) (tL 29 p (.if_icmp .ge 20) 49)) (tL 28 p (.iconst 4) 0)) (tB 26 p (tB 27 p (tL 27 p (.iload_n 2) 0) (tL 26 p (.istore_n 2) 0)) (tL 25 p (.iconst 0) 0))) (tB 20 p (tB 21 p (tB 22 p (tL 22 p (.invokevirtual 61) 16) (tL 21 p (.aload_n 0) 0)) (tL 20 p .ireturn 0)) (tB 19 p (tL 19 p (.iconst 0) 0) (tL 16 p (.ifCond .ne 5) 21)))) (tB 9 p (tB 11 p (tB 14 p (tB 15 p (tL 15 p .baload 0) (tL 14 p (.iload_n 1) 0)) (tL 11 p (.getfield 13) 1)) (tB 10 p (tL 10 p (.aload_n 0) 0) (tL 9 p .ireturn 0))) (tB 2 p (tB 5 p (tB 8 p (tL 8 p (.iconst 0) 0) (tL 5 p (.ifCond .ne 5) 10)) (tL 2 p (.invokevirtual 57) 13)) (tB 1 p (tL 1 p (.iload_n 1) 0) (tL 0 p (.aload_n 0) 0))))))
set_option maxHeartbeats 4000000 in
def cd24 (p : Nat) : Option (Instr × Nat) := (tB 38 p (tB 54 p (tB 64 p (tB 69 p (tB 72 p (tB 73 p (tL 73 p .ireturn 0) (tL 72 p (.iconst 1) 0)) (tL 69 p (.putfield 54) 14)) (tB 65 p (tB 66 p (tL 66 p (.invokevirtual 64) 18) (tL 65 p (.aload_n 0) 0)) (tL 64 p (.aload_n 0) 0))) (tB 58 p (tB 59 p (tB 61 p (tL 61 p (.putfield 27) 5) (tL 59 p (.iload 4) 0)) (tL 58 p (.aload_n 0) 0)) (tB 55 p (tL 55 p (.putfield 24) 4) (tL 54 p (.iload_n 3) 0)))) (tB 45 p (tB 49 p (tB 50 p (tB 53 p (tL 53 p (.aload_n 0) 0) (tL 50 p (.putfield 21) 3)) (tL 49 p (.iload_n 2) 0)) (tB 48 p (tL 48 p (.aload_n 0) 0) (tL 45 p (.putfield 17) 2))) (tB 40 p (tB 43 p (tB 44 p (tL 44 p (.iload_n 1) 0) (tL 43 p (.aload_n 0) 0)) (tL 40 p (.invokevirtual 61) 16)) (tB 39 p (tL 39 p (.aload_n 0) 0) (tL 38 p .ireturn 0))))) (tB 18 p (tB 28 p (tB 33 p (tB 34 p (tB 37 p (tL 37 p (.iconst 0) 0) (tL 34 p (.if_icmp .le 5) 39)) (tL 33 p (.iconst 3) 0)) (tB 31 p (tL 31 p (.iload 4) 0) (tL 28 p (.ifCond .lt 9) 37))) (tB 24 p (tB 25 p (tB 26 p (tL 26 p (.iload 4) 0) (tL 25 p .ireturn 0)) (tL 24 p (.iconst 0) 0)) (tB 21 p (tL 21 p (.ifCond .ne 5) 26) (tL 18 p (.invokevirtual 68) 25)))) (tB 9 p (tB 13 p (tB 16 p (tB 17 p (tL 17 p (.iload_n 3) 0) (tL 16 p (.aload_n 0) 0)) (tL 13 p (.ifCond .eq 11) 24)) (tB 10 p (tL 10 p (.invokevirtual 68) 25) (tL 9 p (.iload_n 2) 0))) (tB 2 p (tB 5 p (tB 8 p (tL 8 p (.aload_n 0) 0) (tL 5 p (.ifCond .eq 19) 24)) (tL 2 p (.invokevirtual 68) 25)) (tB 1 p (tL 1 p (.iload_n 1) 0) (tL 0 p (.aload_n 0) 0))))))
set_option maxHeartbeats 4000000 in
def cd25 (p : Nat) : Option (Instr × Nat) := (tB 6 p (tB 10 p (tB 13 p (tB 14 p (tL 14 p .ireturn 0) (tL 13 p (.iconst 0) 0)) (tL 10 p (.goto 4) 14)) (tB 9 p (tL 9 p (.iconst 1) 0) (tL 6 p (.if_icmp .ge 7) 13))) (tB 4 p (tB 5 p (tL 5 p (.iconst 4) 0) (tL 4 p (.iload_n 1) 0)) (tB 1 p (tL 1 p (.ifCond .lt 12) 13) (tL 0 p (.iload_n 1) 0))))
set_option maxHeartbeats 4000000 in
def cd26 (p : Nat) : Option (Instr × Nat) := (tB 25 p (tB 34 p (tB 40 p (tB 43 p (tB 44 p (tL 44 p .ireturn 0) (tL 43 p (.iconst 1) 0)) (tB 42 p (tL 42 p .iastore 0) (tL 40 p (.iload 4) 0))) (tB 36 p (tB 39 p (tL 39 p (.iload_n 1) 0) (tL 36 p (.getfield 36) 8)) (tB 35 p (tL 35 p (.aload_n 0) 0) (tL 34 p .iastore 0)))) (tB 28 p (tB 32 p (tB 33 p (tL 33 p (.iload_n 3) 0) (tL 32 p (.iload_n 1) 0)) (tB 29 p (tL 29 p (.getfield 33) 7) (tL 28 p (.aload_n 0) 0))) (tB 26 p (tB 27 p (tL 27 p .iastore 0) (tL 26 p (.iload_n 2) 0)) (tL 25 p (.iload_n 1) 0)))) (tB 11 p (tB 19 p (tB 21 p (tB 22 p (tL 22 p (.getfield 30) 6) (tL 21 p (.aload_n 0) 0)) (tB 20 p (tL 20 p .ireturn 0) (tL 19 p (.iconst 0) 0))) (tB 15 p (tB 16 p (tL 16 p (.if_icmp .le 5) 21) (tL 15 p (.iconst 4) 0)) (tB 14 p (tL 14 p (.iload_n 2) 0) (tL 11 p (.ifCond .lt 8) 19)))) (tB 5 p (tB 9 p (tB 10 p (tL 10 p (.iload_n 2) 0) (tL 9 p .ireturn 0)) (tB 8 p (tL 8 p (.iconst 0) 0) (tL 5 p (.ifCond .ne 5) 10))) (tB 1 p (tB 2 p (tL 2 p (.invokevirtual 102) 27) (tL 1 p (.iload_n 1) 0)) (tL 0 p (.aload_n 0) 0)))))
set_option maxHeartbeats 4000000 in
def cd27 (p : Nat) : Option (Instr × Nat) := (tB 9 p (tB 13 p (tB 16 p (tB 17 p (tL 17 p .ireturn 0) (tL 16 p (.iconst 0) 0)) (tL 13 p (.goto 4) 17)) (tB 12 p (tL 12 p (.iconst 1) 0) (tL 9 p (.if_icmp .ge 7) 16))) (tB 4 p (tB 5 p (tB 6 p (tL 6 p (.getfield 51) 13) (tL 5 p (.aload_n 0) 0)) (tL 4 p (.iload_n 1) 0)) (tB 1 p (tL 1 p (.ifCond .lt 15) 16) (tL 0 p (.iload_n 1) 0))))
set_option maxHeartbeats 4000000 in
def cd28 (p : Nat) : Option (Instr × Nat) := (tB 12 p (tB 22 p (tB 26 p (tB 27 p (tL 27 p .ireturn 0) (tL 26 p (.iconst 0) 0)) (tB 23 p (tL 23 p (.goto 4) 27) (tL 22 p (.iconst 1) 0))) (tB 16 p (tB 19 p (tL 19 p (.ifCond .le 7) 26) (tL 16 p (.getfield 99) 19)) (tB 15 p (tL 15 p (.aload_n 0) 0) (tL 12 p (.invokevirtual 105) 17)))) (tB 8 p (tB 10 p (tB 11 p (tL 11 p (.iload_n 1) 0) (tL 10 p (.aload_n 0) 0)) (tB 9 p (tL 9 p .ireturn 0) (tL 8 p (.iconst 0) 0))) (tB 2 p (tB 5 p (tL 5 p (.ifCond .ne 5) 10) (tL 2 p (.invokevirtual 102) 27)) (tB 1 p (tL 1 p (.iload_n 1) 0) (tL 0 p (.aload_n 0) 0)))))
set_option maxHeartbeats 4000000 in
def cd29 (p : Nat) : Option (Instr × Nat) := (tB 10 p (tB 15 p (tB 16 p (tB 19 p (tL 19 p .ireturn 0) (tL 16 p (.getfield 96) 20)) (tL 15 p (.aload_n 0) 0)) (tB 11 p (tB 12 p (tL 12 p (.invokevirtual 105) 17) (tL 11 p (.iload_n 1) 0)) (tL 10 p (.aload_n 0) 0))) (tB 5 p (tB 8 p (tB 9 p (tL 9 p .ireturn 0) (tL 8 p (.iconst 0) 0)) (tL 5 p (.ifCond .ne 5) 10)) (tB 1 p (tB 2 p (tL 2 p (.invokevirtual 102) 27) (tL 1 p (.iload_n 1) 0)) (tL 0 p (.aload_n 0) 0))))
def pCode (m pc : Nat) : Option (Instr × Nat) := bif Nat.ble pN m then none else bif Nat.ble (pTop m) pc then none else (bif Nat.ble 15 m then (bif Nat.ble 22 m then (bif Nat.ble 26 m then (bif Nat.ble 28 m then (bif Nat.ble 29 m then cd29 pc else cd28 pc) else (bif Nat.ble 27 m then cd27 pc else cd26 pc)) else (bif Nat.ble 24 m then (bif Nat.ble 25 m then cd25 pc else cd24 pc) else (bif Nat.ble 23 m then cd23 pc else cd22 pc))) else (bif Nat.ble 18 m then (bif Nat.ble 20 m then (bif Nat.ble 21 m then cd21 pc else cd20 pc) else (bif Nat.ble 19 m then cd19 pc else cd18 pc)) else (bif Nat.ble 16 m then (bif Nat.ble 17 m then cd17 pc else cd16 pc) else cd15 pc))) else (bif Nat.ble 7 m then (bif Nat.ble 11 m then (bif Nat.ble 13 m then (bif Nat.ble 14 m then cd14 pc else cd13 pc) else (bif Nat.ble 12 m then cd12 pc else cd11 pc)) else (bif Nat.ble 9 m then (bif Nat.ble 10 m then cd10 pc else cd9 pc) else (bif Nat.ble 8 m then cd8 pc else cd7 pc))) else (bif Nat.ble 3 m then (bif Nat.ble 5 m then (bif Nat.ble 6 m then cd6 pc else cd5 pc) else (bif Nat.ble 4 m then cd4 pc else cd3 pc)) else (bif Nat.ble 1 m then (bif Nat.ble 2 m then cd2 pc else cd1 pc) else cd0 pc))))
def lkF : List (Nat × Nat × Nat) := [(1, 7, 0), (1, 13, 1), (1, 17, 2), (1, 21, 3), (1, 24, 4), (1, 27, 5), (1, 30, 6), (1, 33, 7), (1, 36, 8), (1, 39, 9), (1, 42, 10), (1, 45, 11), (1, 48, 12), (1, 51, 13), (1, 54, 14), (1, 79, 15), (1, 83, 16), (1, 86, 17), (1, 89, 18), (1, 99, 19), (1, 96, 20)]
def lkN : List (Nat × Nat) := [(0, 7)]
def lkC : List (Nat × Nat × Nat) := []
def lkD : List (Nat × Nat × Nat) := [(0, 41, 0), (0, 43, 1)]
def lkV : List (Nat × Nat × Nat) := [(0, 9, 1), (0, 15, 2), (0, 18, 3), (0, 45, 4), (1, 71, 5), (0, 49, 6), (0, 58, 7), (1, 75, 8), (1, 92, 9), (1, 113, 10), (0, 62, 11), (0, 69, 12), (1, 57, 13), (0, 22, 14), (0, 26, 15), (1, 61, 16), (1, 105, 17), (1, 64, 18), (1, 109, 19), (0, 52, 20), (0, 65, 21), (0, 55, 22), (0, 30, 23), (0, 34, 24), (1, 68, 25), (0, 38, 26), (1, 102, 27), (0, 72, 28), (0, 75, 29)]
def lkO : List (Nat × Nat) := [(1, 1)]
def mV : List Nat := [4, 6, 7, 11, 12, 15, 20, 22, 23, 24, 26, 28, 29]
def mP : List Nat := [5, 8, 9, 10, 13, 16, 17, 18, 19, 25, 27]
def mS : List Nat := [1, 3, 14, 21]
def mI : List Nat := [2]
def mA : List Nat := [1, 2, 3, 4, 5, 6, 7, 8, 9, 10, 11, 12, 13, 14, 15, 16, 17, 18, 19, 20, 21, 22, 23, 24, 25, 26, 27, 28, 29]
def aTys : List FieldType := [.int, .boolean]
abbrev QCell := List Value ⊕ ((FieldType × List Int32) ⊕ List Int64)
abbrev QHeap := List QCell
abbrev QLoc := List (Option Value)
abbrev vI (x : Int32) : Option Value := some (.int x)
abbrev vR (a : Addr) : Option Value := some (.ref a)
abbrev vL (x : Int64) : Option Value := some (.long x)
abbrev QSt := Nat × QLoc × List Value × QHeap
def qv (ad : Nat → Addr) : Value → Value
 | .ref k => .ref (ad k)
 | v => v
def qsz : QCell → Nat
 | .inl _ => cN
 | .inr (.inl x) => x.2.length
 | .inr (.inr x) => x.length
def qhs : QHeap → Nat
 | [] => 0
 | c :: t => qsz c + qhs t
def aget {α : Type} (xs : List α) (j : Int32) : Option α := if j < 0 then none else xs[j.toNatClampNeg]?
def aset {α : Type} (xs : List α) (j : Int32) (v : α) : Option (List α) := if j < 0 then none else if j.toNatClampNeg < xs.length then some (xs.set j.toNatClampNeg v) else none
def qnew (n : Int32) : Option Nat := if n < 0 then none else if n.toNatClampNeg ≤ 67108864 then some n.toNatClampNeg else none
def qdiv (x y : Int32) : Option Int32 := if y = 0 then none else some (x / y)
def qrem (x y : Int32) : Option Int32 := if y = 0 then none else some (x % y)
def qboo (x : Int32) : Option Int32 := if x = 0 then some x else if x = 1 then some x else none
def lget : QLoc → Nat → Option Value
 | [], _ => none
 | v :: _, 0 => v
 | _ :: t, k + 1 => lget t k
def hget : QHeap → Nat → Option QCell
 | [], _ => none
 | v :: _, 0 => some v
 | _ :: t, k + 1 => hget t k
def vget : List Value → Nat → Option Value
 | [], _ => none
 | v :: _, 0 => some v
 | _ :: t, k + 1 => vget t k
def lkill (L : QLoc) : Nat → QLoc
 | 0 => L
 | k + 1 => match lget L k with
  | some (.long _) => L.set k none
  | some (.double _) => L.set k none
  | _ => L
def lput (L : QLoc) (k : Nat) (v : Value) : Option QLoc :=
 match v with
 | .long x => bif Nat.ble (k + 2) L.length then some (((lkill L k).set k (some (.long x))).set (k + 1) none) else none
 | .double _ => none
 | v => bif Nat.ble (k + 1) L.length then some ((lkill L k).set k (some v)) else none
def qload (pc : Nat) (L : QLoc) (S : List Value) (σ : QHeap) (k : Nat) (ok : Value → Bool) : Option QSt :=
 match lget L k with
 | some v => bif ok v then some (pc, L, v :: S, σ) else none
 | none => none
def isI : Value → Bool | .int _ => true | _ => false
def isJ : Value → Bool | .long _ => true | _ => false
def isR : Value → Bool | .ref _ => true | _ => false
def qstore (pc : Nat) (L : QLoc) (S : List Value) (σ : QHeap) (k : Nat) (ok : Value → Bool) : Option QSt :=
 match S with
 | v :: S' => bif ok v then (match lput L k v with | some L' => some (pc, L', S', σ) | none => none) else none
 | [] => none
def qbin (pc : Nat) (L : QLoc) (S : List Value) (σ : QHeap) (f : Int32 → Int32 → Int32) : Option QSt :=
 match S with
 | .int y :: .int x :: S' => some (pc, L, .int (f x y) :: S', σ)
 | _ => none
def qbino (pc : Nat) (L : QLoc) (S : List Value) (σ : QHeap) (f : Int32 → Int32 → Option Int32) : Option QSt :=
 match S with
 | .int y :: .int x :: S' => (f x y).bind fun z => some (pc, L, .int z :: S', σ)
 | _ => none
def qbinJ (pc : Nat) (L : QLoc) (S : List Value) (σ : QHeap) (f : Int64 → Int64 → Int64) : Option QSt :=
 match S with
 | .long y :: .long x :: S' => some (pc, L, .long (f x y) :: S', σ)
 | _ => none
def qshJ (pc : Nat) (L : QLoc) (S : List Value) (σ : QHeap) (f : Int64 → Int32 → Int64) : Option QSt :=
 match S with
 | .int y :: .long x :: S' => some (pc, L, .long (f x y) :: S', σ)
 | _ => none
def quni (pc : Nat) (L : QLoc) (S : List Value) (σ : QHeap) (f : Int32 → Value) : Option QSt :=
 match S with
 | .int x :: S' => some (pc, L, f x :: S', σ)
 | _ => none
def quniJ (pc : Nat) (L : QLoc) (S : List Value) (σ : QHeap) (f : Int64 → Value) : Option QSt :=
 match S with
 | .long x :: S' => some (pc, L, f x :: S', σ)
 | _ => none
def qald (pc : Nat) (L : QLoc) (S : List Value) (σ : QHeap) (ok : FieldType → Bool) : Option QSt :=
 match S with
 | .int j :: .ref a :: S' => (match hget σ a with
  | some (.inr (.inl x)) => bif ok x.1 then (aget x.2 j).bind fun v => some (pc, L, .int v :: S', σ) else none
  | _ => none)
 | _ => none
def qaldJ (pc : Nat) (L : QLoc) (S : List Value) (σ : QHeap) : Option QSt :=
 match S with
 | .int j :: .ref a :: S' => (match hget σ a with
  | some (.inr (.inr x)) => (aget x j).bind fun v => some (pc, L, .long v :: S', σ)
  | _ => none)
 | _ => none
def qnar : FieldType → Int32 → Int32
 | .boolean, x => x &&& 1
 | .byte, x => x.toInt8.toInt32
 | _, x => x
def qast (pc : Nat) (L : QLoc) (S : List Value) (σ : QHeap) (ok : FieldType → Bool) : Option QSt :=
 match S with
 | .int v :: .int j :: .ref a :: S' => (match hget σ a with
  | some (.inr (.inl x)) => bif ok x.1 && Nat.ble k0 a then (aset x.2 j (qnar x.1 v)).bind fun y => some (pc, L, S', σ.set a (.inr (.inl (x.1, y)))) else none
  | _ => none)
 | _ => none
def qastJ (pc : Nat) (L : QLoc) (S : List Value) (σ : QHeap) : Option QSt :=
 match S with
 | .long v :: .int j :: .ref a :: S' => (match hget σ a with
  | some (.inr (.inr x)) => bif Nat.ble k0 a then (aset x j v).bind fun y => some (pc, L, S', σ.set a (.inr (.inr y))) else none
  | _ => none)
 | _ => none
def tyI : FieldType → Bool | .int => true | _ => false
def tyB : FieldType → Bool | .boolean => true | .byte => true | _ => false
def qfit : FieldType → Value → Option Value
 | .int, .int x => some (.int x)
 | .boolean, .int x => (qboo x).bind fun y => some (.int y)
 | .long, .long x => some (.long x)
 | .array t, .ref a => some (.ref a)
 | _, _ => none
def qget (pc : Nat) (L : QLoc) (S : List Value) (σ : QHeap) (k : Nat) : Option QSt :=
 match S with
 | .ref a :: S' => (match hget σ a with
  | some (.inl vs) => (match vget vs k with | some v => some (pc, L, v :: S', σ) | none => none)
  | _ => none)
 | _ => none
def qput (pc : Nat) (L : QLoc) (S : List Value) (σ : QHeap) (k : Nat) : Option QSt :=
 match S with
 | v :: .ref a :: S' => (match hget σ a with
  | some (.inl vs) => bif Nat.ble k0 a && Nat.ble (k + 1) vs.length then (qfit (fTy k) v).bind fun w => some (pc, L, S', σ.set a (.inl (vs.set k w))) else none
  | _ => none)
 | _ => none
def qnewA (pc : Nat) (L : QLoc) (S : List Value) (σ : QHeap) (t : ArrayType) : Option QSt :=
 match S with
 | .int n :: S' => (match t with
  | .int => (qnew n).bind fun k => some (pc, L, .ref σ.length :: S', σ ++ [.inr (.inl (.int, List.replicate k 0))])
  | .boolean => (qnew n).bind fun k => some (pc, L, .ref σ.length :: S', σ ++ [.inr (.inl (.boolean, List.replicate k 0))])
  | .byte => (qnew n).bind fun k => some (pc, L, .ref σ.length :: S', σ ++ [.inr (.inl (.byte, List.replicate k 0))])
  | .long => (qnew n).bind fun k => some (pc, L, .ref σ.length :: S', σ ++ [.inr (.inr (List.replicate k 0))])
  | _ => none)
 | _ => none
def qlen (pc : Nat) (L : QLoc) (S : List Value) (σ : QHeap) : Option QSt :=
 match S with
 | .ref a :: S' => (match hget σ a with
  | some (.inr (.inl x)) => some (pc, L, .int x.2.length.toInt32 :: S', σ)
  | some (.inr (.inr x)) => some (pc, L, .int x.length.toInt32 :: S', σ)
  | _ => none)
 | _ => none
def qdup (pc : Nat) (L : QLoc) (S : List Value) (σ : QHeap) : Option QSt :=
 match S with
 | .int x :: S' => some (pc, L, .int x :: .int x :: S', σ)
 | .ref x :: S' => some (pc, L, .ref x :: .ref x :: S', σ)
 | _ => none
def qdup2 (pc : Nat) (L : QLoc) (S : List Value) (σ : QHeap) : Option QSt :=
 match S with
 | .int x :: .ref y :: S' => some (pc, L, .int x :: .ref y :: .int x :: .ref y :: S', σ)
 | .int x :: .int y :: S' => some (pc, L, .int x :: .int y :: .int x :: .int y :: S', σ)
 | .long x :: S' => some (pc, L, .long x :: .long x :: S', σ)
 | _ => none
def qpop (pc : Nat) (L : QLoc) (S : List Value) (σ : QHeap) : Option QSt :=
 match S with
 | .int _ :: S' => some (pc, L, S', σ)
 | .ref _ :: S' => some (pc, L, S', σ)
 | _ => none
def qif (pc : Nat) (L : QLoc) (S : List Value) (σ : QHeap) (cd : ClassFile.Cond) (tgt : Nat) : Option QSt :=
 match S with
 | .int x :: S' => some (bif ifCond.holds cd x then tgt else pc, L, S', σ)
 | _ => none
def qicmp (pc : Nat) (L : QLoc) (S : List Value) (σ : QHeap) (cd : ClassFile.Cond) (tgt : Nat) : Option QSt :=
 match S with
 | .int y :: .int x :: S' => some (bif if_icmp.holds cd x y then tgt else pc, L, S', σ)
 | _ => none
def qinc (pc : Nat) (L : QLoc) (S : List Value) (σ : QHeap) (k : Nat) (i : Int) : Option QSt :=
 match lget L k with
 | some (.int x) => (match lput L k (.int (x + Int32.ofInt i)) with | some L' => some (pc, L', S, σ) | none => none)
 | _ => none
def qldc (pc : Nat) (L : QLoc) (S : List Value) (σ : QHeap) (k : Nat) : Option QSt :=
 match vget cK k with
 | some v => some (pc, L, v :: S, σ)
 | none => none
def qexec (pc : Nat) (L : QLoc) (S : List Value) (σ : QHeap) (aux : Nat) : Instr → Option QSt
 | .aload_n k => qload (pc + 1) L S σ k.val isR
 | .aload k => qload (pc + 2) L S σ k isR
 | .iload_n k => qload (pc + 1) L S σ k.val isI
 | .iload k => qload (pc + 2) L S σ k isI
 | .lload_n k => qload (pc + 1) L S σ k.val isJ
 | .lload k => qload (pc + 2) L S σ k isJ
 | .iconst i => some (pc + 1, L, .int (Int32.ofInt i) :: S, σ)
 | .bipush i => some (pc + 2, L, .int (Int8.ofInt i).toInt32 :: S, σ)
 | .sipush i => some (pc + 3, L, .int (Int16.ofInt i).toInt32 :: S, σ)
 | .lconst k => some (pc + 1, L, .long (Int64.ofNat k.val) :: S, σ)
 | .ldc _ => qldc (pc + 2) L S σ aux
 | .ldc2_w _ => qldc (pc + 3) L S σ aux
 | .istore_n k => qstore (pc + 1) L S σ k.val isI
 | .istore k => qstore (pc + 2) L S σ k isI
 | .lstore_n k => qstore (pc + 1) L S σ k.val isJ
 | .lstore k => qstore (pc + 2) L S σ k isJ
 | .astore_n k => qstore (pc + 1) L S σ k.val isR
 | .astore k => qstore (pc + 2) L S σ k isR
 | .iinc k i => qinc (pc + 3) L S σ k i
 | .iadd => qbin (pc + 1) L S σ fun x y => x + y
 | .isub => qbin (pc + 1) L S σ fun x y => x - y
 | .imul => qbin (pc + 1) L S σ fun x y => x * y
 | .iand => qbin (pc + 1) L S σ fun x y => x &&& y
 | .ior => qbin (pc + 1) L S σ fun x y => x ||| y
 | .ixor => qbin (pc + 1) L S σ fun x y => x ^^^ y
 | .ishl => qbin (pc + 1) L S σ fun x y => x <<< (y &&& 31)
 | .ishr => qbin (pc + 1) L S σ fun x y => x >>> (y &&& 31)
 | .iushr => qbin (pc + 1) L S σ fun x y => XT.ushr x y
 | .idiv => qbino (pc + 1) L S σ qdiv
 | .irem => qbino (pc + 1) L S σ qrem
 | .ineg => quni (pc + 1) L S σ fun x => .int (-x)
 | .i2l => quni (pc + 1) L S σ fun x => .long x.toInt64
 | .i2b => quni (pc + 1) L S σ fun x => .int x.toInt8.toInt32
 | .l2i => quniJ (pc + 1) L S σ fun x => .int x.toInt32
 | .lneg => quniJ (pc + 1) L S σ fun x => .long (-x)
 | .ladd => qbinJ (pc + 1) L S σ fun x y => x + y
 | .lsub => qbinJ (pc + 1) L S σ fun x y => x - y
 | .lmul => qbinJ (pc + 1) L S σ fun x y => x * y
 | .land => qbinJ (pc + 1) L S σ fun x y => x &&& y
 | .lor => qbinJ (pc + 1) L S σ fun x y => x ||| y
 | .lxor => qbinJ (pc + 1) L S σ fun x y => x ^^^ y
 | .lshl => qshJ (pc + 1) L S σ fun x y => x <<< (y.toInt64 &&& 63)
 | .lshr => qshJ (pc + 1) L S σ fun x y => x >>> (y.toInt64 &&& 63)
 | .lushr => qshJ (pc + 1) L S σ fun x y => XT.ushrL x y
 | .lcmp => (match S with
  | .long y :: .long x :: S' => some (pc + 1, L, .int (XT.cmpL x y) :: S', σ)
  | _ => none)
 | .goto _ => some (aux, L, S, σ)
 | .ifCond cd _ => qif (pc + 3) L S σ cd aux
 | .if_icmp cd _ => qicmp (pc + 3) L S σ cd aux
 | .dup => qdup (pc + 1) L S σ
 | .dup2 => qdup2 (pc + 1) L S σ
 | .pop => qpop (pc + 1) L S σ
 | .getfield _ => qget (pc + 3) L S σ aux
 | .putfield _ => qput (pc + 3) L S σ aux
 | .iaload => qald (pc + 1) L S σ tyI
 | .baload => qald (pc + 1) L S σ tyB
 | .laload => qaldJ (pc + 1) L S σ
 | .iastore => qast (pc + 1) L S σ tyI
 | .bastore => qast (pc + 1) L S σ tyB
 | .lastore => qastJ (pc + 1) L S σ
 | .arraylength => qlen (pc + 1) L S σ
 | .newarray t => qnewA (pc + 2) L S σ t
 | .new _ => some (pc + 3, L, .ref σ.length :: S, σ ++ [.inl cDef])
 | _ => none
def qstep (m : Nat) (st : QSt) : Option QSt :=
 match pCode m st.1 with
 | some (i, aux) => qexec st.1 st.2.1 st.2.2.1 st.2.2.2 aux i
 | none => none
def qsteps (m : Nat) : Nat → QSt → Option QSt
 | 0, st => some st
 | n + 1, st => match qstep m st with | some st' => qsteps m n st' | none => none
def qentry (args : List Value) (mx : Nat) : QLoc := (args.flatMap fun v => match v with | .long x => [some (.long x), none] | .double x => [some (.double x), none] | v => [some v]) ++ List.replicate (mx - (args.map fun v => v.category).sum) none
def ilen : Instr → Nat
 | .aload _ | .iload _ | .lload _ | .istore _ | .lstore _ | .astore _ | .bipush _ | .ldc _ | .newarray _ => 2
 | .sipush _ | .ldc2_w _ | .iinc _ _ | .goto _ | .ifCond _ _ | .if_icmp _ _ | .getfield _ | .putfield _ | .new _ | .invokevirtual _ | .invokespecial _ | .invokestatic _ => 3
 | _ => 1
def qtgt (pc : Nat) (o : Int) (aux : Nat) : Bool := decide (0 ≤ (pc : Int) + o) && decide (((pc : Int) + o).toNat = aux)
def qlk (m pc : Nat) (i : Instr) (aux : Nat) : Bool :=
 match i with
 | .goto o => qtgt pc o aux
 | .ifCond _ o => qtgt pc o aux
 | .if_icmp _ o => qtgt pc o aux
 | .getfield idx => lkF.contains (pK m, idx, aux)
 | .putfield idx => lkF.contains (pK m, idx, aux) && (!fFin aux || (pK m == 1 && pNm m == "<init>"))
 | .new idx => lkN.contains (pK m, idx)
 | .newarray t => aTys.contains (newarray.typeOf t)
 | .ldc idx => lkC.contains (pK m, idx, aux)
 | .ldc2_w idx => lkD.contains (pK m, idx, aux)
 | _ => true
def qchk (m pc : Nat) (i : Instr) (aux : Nat) : Bool := decide (decode (pBytes m) pc = .ok (i, ilen i)) && qlk m pc i aux
def QCellOk (Z : State) (ad : Nat → Addr) (h : Heap) (a : Addr) : QCell → Prop
 | .inl vs => Exa Z h a cName ∧ vs.length = nF ∧ ∀ (k : Nat) (v : Value), k < nF → vget vs k = some v → Fld Z h a cName (fNm k) (fDs k) (qv ad v)
 | .inr (.inl x) => ∃ c : Cell, Arr Z h a c x.1 ∧ c.slots = (x.2.map Value.int).toArray
 | .inr (.inr x) => ∃ c : Cell, Arr Z h a c .long ∧ c.slots = (x.map Value.long).toArray
def QAd (n0 : Nat) (ad : Nat → Addr) : Prop := (∀ k, k0 ≤ k → ad k = n0 + (k - k0)) ∧ ∀ i j, ad i = ad j → i = j
def QRep (Z : State) (n0 : Nat) (ad : Nat → Addr) (h : Heap) (σ : QHeap) : Prop := k0 ≤ σ.length ∧ h.size = n0 + (σ.length - k0) ∧ ∀ k c, hget σ k = some c → QCellOk Z ad h (ad k) c
def QLocOk (ad : Nat → Addr) (L : QLoc) (C : Array Slot) : Prop :=
 L.length = C.size ∧ (∀ k v, lget L k = some v → C[k]? = some (.val (qv ad v))) ∧ (∀ k w, C[k]? = some (.val w) → w.category = 2 → C[k + 1]? = some .second) ∧ ∀ k, C[k]? = some .second → ∃ j w, k = j + 1 ∧ C[j]? = some (.val w) ∧ w.category = 2
def QW (Z : State) (a0 : Array Value) : Prop :=
 (∀ t ∈ lkF, (Cond.fieldLink (kName t.1) t.2.1 cName (fNm t.2.2) (fDs t.2.2)).before a0 Z = true) ∧
 (∀ t ∈ lkN, (Cond.classLink (kName t.1) t.2 cName).before a0 Z = true) ∧
 (∀ t ∈ lkC, ∃ v, vget cK t.2.2 = some (.int v) ∧ (Cond.constant (kName t.1) t.2.1 v).before a0 Z = true) ∧
 (∀ t ∈ lkD, ∃ v, vget cK t.2.2 = some (.long v) ∧ (Cond.constantLong (kName t.1) t.2.1 v).before a0 Z = true) ∧
 (∀ t ∈ lkV, (Cond.methodLink (kName t.1) t.2.1 (pName t.2.2)).before a0 Z = true) ∧
 (∀ t ∈ lkO, (Cond.methodLink (kName t.1) t.2 Lib.objectInit).before a0 Z = true) ∧
 (∀ m ∈ mV, (Cond.declares (pName m)).before a0 Z = true ∧ (Cond.selects cName (pName m) (pName m)).before a0 Z = true ∧ (Cond.instanceMethod (pName m)).before a0 Z = true) ∧
 (∀ m ∈ mP, (Cond.instanceMethod (pName m)).before a0 Z = true ∧ (Cond.privateMethod (pName m)).before a0 Z = true) ∧
 (∀ m ∈ mS, (Cond.static (pName m)).before a0 Z = true) ∧
 (∀ m ∈ mI, (Cond.instanceMethod (pName m)).before a0 Z = true) ∧
 (∀ m ∈ mA, (Cond.code (pName m) (pBytes m) (pMaxL m) (pRet m)).before a0 Z = true ∧ (Cond.initialized (kName (pK m))).before a0 Z = true) ∧
 (Cond.instanceMethod Lib.objectInit).before a0 Z = true ∧ (Cond.code Lib.objectInit ⟨#[0xb1]⟩ 1 none).before a0 Z = true ∧
 (∀ k, k < nF → bif fFin k then (Cond.laysFinal cName cName (fNm k) (fDs k)).before a0 Z = true else (Cond.lays cName cName (fNm k) (fDs k)).before a0 Z = true) ∧
 (Cond.instantiable cName cN).before a0 Z = true ∧ (Cond.initialized cName).before a0 Z = true ∧
 ∀ ty ∈ aTys, (Cond.arrayClass ty).before a0 Z = true
section Words
variable {Z : State} {a0 : Array Value}
theorem qw_fl (W : QW Z a0) : ∀ t ∈ lkF, (Cond.fieldLink (kName t.1) t.2.1 cName (fNm t.2.2) (fDs t.2.2)).before a0 Z = true := W.1
theorem qw_nw (W : QW Z a0) : ∀ t ∈ lkN, (Cond.classLink (kName t.1) t.2 cName).before a0 Z = true := W.2.1
theorem qw_cI (W : QW Z a0) : ∀ t ∈ lkC, ∃ v, vget cK t.2.2 = some (.int v) ∧ (Cond.constant (kName t.1) t.2.1 v).before a0 Z = true := W.2.2.1
theorem qw_cJ (W : QW Z a0) : ∀ t ∈ lkD, ∃ v, vget cK t.2.2 = some (.long v) ∧ (Cond.constantLong (kName t.1) t.2.1 v).before a0 Z = true := W.2.2.2.1
theorem qw_ml (W : QW Z a0) : ∀ t ∈ lkV, (Cond.methodLink (kName t.1) t.2.1 (pName t.2.2)).before a0 Z = true := W.2.2.2.2.1
theorem qw_mo (W : QW Z a0) : ∀ t ∈ lkO, (Cond.methodLink (kName t.1) t.2 Lib.objectInit).before a0 Z = true := W.2.2.2.2.2.1
theorem qw_vi (W : QW Z a0) : ∀ m ∈ mV, (Cond.declares (pName m)).before a0 Z = true ∧ (Cond.selects cName (pName m) (pName m)).before a0 Z = true ∧ (Cond.instanceMethod (pName m)).before a0 Z = true := W.2.2.2.2.2.2.1
theorem qw_pr (W : QW Z a0) : ∀ m ∈ mP, (Cond.instanceMethod (pName m)).before a0 Z = true ∧ (Cond.privateMethod (pName m)).before a0 Z = true := W.2.2.2.2.2.2.2.1
theorem qw_st (W : QW Z a0) : ∀ m ∈ mS, (Cond.static (pName m)).before a0 Z = true := W.2.2.2.2.2.2.2.2.1
theorem qw_ini (W : QW Z a0) : ∀ m ∈ mI, (Cond.instanceMethod (pName m)).before a0 Z = true := W.2.2.2.2.2.2.2.2.2.1
theorem qw_cod (W : QW Z a0) : ∀ m ∈ mA, (Cond.code (pName m) (pBytes m) (pMaxL m) (pRet m)).before a0 Z = true ∧ (Cond.initialized (kName (pK m))).before a0 Z = true := W.2.2.2.2.2.2.2.2.2.2.1
theorem qw_oi (W : QW Z a0) : (Cond.instanceMethod Lib.objectInit).before a0 Z = true := W.2.2.2.2.2.2.2.2.2.2.2.1
theorem qw_oc (W : QW Z a0) : (Cond.code Lib.objectInit ⟨#[0xb1]⟩ 1 none).before a0 Z = true := W.2.2.2.2.2.2.2.2.2.2.2.2.1
theorem qw_lay (W : QW Z a0) : ∀ k, k < nF → bif fFin k then (Cond.laysFinal cName cName (fNm k) (fDs k)).before a0 Z = true else (Cond.lays cName cName (fNm k) (fDs k)).before a0 Z = true := W.2.2.2.2.2.2.2.2.2.2.2.2.2.1
theorem qw_inst (W : QW Z a0) : (Cond.instantiable cName cN).before a0 Z = true := W.2.2.2.2.2.2.2.2.2.2.2.2.2.2.1
theorem qw_init (W : QW Z a0) : (Cond.initialized cName).before a0 Z = true := W.2.2.2.2.2.2.2.2.2.2.2.2.2.2.2.1
theorem qw_arr (W : QW Z a0) : ∀ ty ∈ aTys, (Cond.arrayClass ty).before a0 Z = true := W.2.2.2.2.2.2.2.2.2.2.2.2.2.2.2.2
end Words
theorem hget_eq : ∀ (σ : QHeap) k, hget σ k = σ[k]?
 | [], _ => by simp [hget]
 | _ :: _, 0 => by simp [hget]
 | _ :: t, k + 1 => by simp [hget, hget_eq t k]
theorem vget_eq : ∀ (σ : List Value) k, vget σ k = σ[k]?
 | [], _ => by simp [vget]
 | _ :: _, 0 => by simp [vget]
 | _ :: t, k + 1 => by simp [vget, vget_eq t k]
theorem lget_eq : ∀ (L : QLoc) k, lget L k = (L[k]?).getD none
 | [], _ => by simp [lget]
 | _ :: _, 0 => by simp [lget]
 | _ :: t, k + 1 => by simp [lget, lget_eq t k]
theorem lget_lt {L : QLoc} {k : Nat} {v : Value} (h : lget L k = some v) : k < L.length := by
 rw [lget_eq] at h
 rcases Nat.lt_or_ge k L.length with q | q
 ·exact q
 ·simp [List.getElem?_eq_none q] at h
theorem lget_set {L : QLoc} {k j : Nat} {o : Option Value} (hk : k < L.length) : lget (L.set k o) j = if j = k then o else lget L j := by
 simp only [lget_eq, List.getElem?_set]
 by_cases e : k = j
 ·subst e; simp [hk]
 ·simp [e, Ne.symm e]
theorem qhs_app (σ τ : QHeap) : qhs (σ ++ τ) = qhs σ + qhs τ := by
 induction σ with
 | nil => simp [qhs]
 | cons c t ih => simp [qhs, ih, Nat.add_assoc]
theorem qhs_set {σ : QHeap} {k : Nat} {c d : QCell} (h : hget σ k = some c) (hs : qsz d = qsz c) : qhs (σ.set k d) = qhs σ := by
 induction σ generalizing k with
 | nil => simp [hget] at h
 | cons x t ih =>
  cases k with
  | zero => simp only [hget, Option.some.injEq] at h; subst h; simp [qhs, hs]
  | succ k => simp only [hget] at h; simp [qhs, ih h]
theorem hget_set {σ : QHeap} {k j : Nat} {c d : QCell} (h : hget σ k = some c) : hget (σ.set k d) j = if j = k then some d else hget σ j := by
 rw [hget_eq] at h
 have hk := (List.getElem?_eq_some_iff.mp h).1
 simp only [hget_eq, List.getElem?_set]
 by_cases e : k = j
 ·subst e; simp [hk]
 ·simp [e, Ne.symm e]
theorem lkill_len (L : QLoc) (k : Nat) : (lkill L k).length = L.length := by
 cases k with
 | zero => rfl
 | succ k => simp only [lkill]; split <;> simp
theorem lget_kill {L : QLoc} {k j : Nat} {v : Value} (h : lget (lkill L k) j = some v) : lget L j = some v ∧ (k = j + 1 → v.category ≠ 2) := by
 cases k with
 | zero => exact ⟨h, fun e => by omega⟩
 | succ k =>
  simp only [lkill] at h
  split at h
  ·rename_i x q
   rw [lget_set (lget_lt q)] at h
   split at h
   ·cases h
   ·rename_i ne; exact ⟨h, fun e => absurd (by omega) ne⟩
  ·rename_i x q
   rw [lget_set (lget_lt q)] at h
   split at h
   ·cases h
   ·rename_i ne; exact ⟨h, fun e => absurd (by omega) ne⟩
  ·rename_i q1 q2
   refine ⟨h, fun e hc => ?_⟩
   obtain rfl : j = k := by omega
   cases v with
   | long x => exact q1 _ h
   | double x => exact q2 _ h
   | _ => simp [Value.category] at hc
theorem qv_cat (ad : Nat → Addr) (v : Value) : (qv ad v).category = v.category := by cases v <;> rfl
def kA (C : Array Slot) (k j : Nat) : Prop := k = j + 1 ∧ C[k]? = some .second
def kB (C : Array Slot) (k j : Nat) : Prop := j = k + 1 ∧ ∃ u, C[k]? = some (.val u) ∧ u.category = 2
def kD (C : Array Slot) (k j : Nat) : Prop := j = k + 2 ∧ ∃ u, C[k + 1]? = some (.val u) ∧ u.category = 2
theorem set1_at {C D : Array Slot} {k : Nat} {w : Value} (hk : k < C.size) (hw : w.category = 1) (h : storeLocals C k w = some D) :
  D.size = C.size ∧ D[k]? = some (.val w) ∧ ∀ j, j ≠ k → (D[j]? = C[j]? ∧ ¬ kA C k j ∧ ¬ kB C k j) ∨ D[j]? = some .unset ∧ (kA C k j ∨ kB C k j) := by
 have hck : C[k]? = some C[k] := Array.getElem?_eq_getElem hk
 unfold storeLocals at h
 simp only [hck, Option.bind_eq_bind, Option.bind_some] at h
 have self : ∀ {E : Array Slot}, k < E.size → storeSelf E k w = some D → D = E.setIfInBounds k (.val w) := by
  intro E hE q
  simp only [storeSelf, setAt, hE, if_true, Option.bind_eq_bind, Option.bind_some, hw] at q
  simpa using q.symm
 split at h
 ·rename_i q
  have hk1 : k - 1 < C.size := by omega
  simp only [setAt, hk1, if_true, Option.bind_some] at h
  have e := self (by simpa using hk) h
  subst e
  refine ⟨by simp, by simp [hk], fun j hj => ?_⟩
  by_cases ej : k = j + 1
  ·refine Or.inr ⟨?_, Or.inl ⟨ej, by rw [hck, q]⟩⟩
   rw [Array.getElem?_setIfInBounds_ne (Ne.symm hj), show j = k - 1 by omega]
   simp [hk1]
  ·refine Or.inl ⟨?_, fun x => ej x.1, fun x => ?_⟩
   ·rw [Array.getElem?_setIfInBounds_ne (Ne.symm hj), Array.getElem?_setIfInBounds_ne (by omega)]
   ·obtain ⟨-, u, x1, -⟩ := x
    rw [hck, q] at x1; cases x1
 ·rename_i u q
  split at h
  ·rename_i hu
   by_cases hk1 : k + 1 < C.size
   ·simp only [setAt, hk1, if_true, Option.bind_some] at h
    have e := self (by simpa using hk) h
    subst e
    refine ⟨by simp, by simp [hk], fun j hj => ?_⟩
    by_cases ej : j = k + 1
    ·refine Or.inr ⟨?_, Or.inr ⟨ej, u, by rw [hck, q], hu⟩⟩
     rw [Array.getElem?_setIfInBounds_ne (Ne.symm hj), ej]
     simp [hk1]
    ·refine Or.inl ⟨?_, fun x => ?_, fun x => ej x.1⟩
     ·rw [Array.getElem?_setIfInBounds_ne (Ne.symm hj), Array.getElem?_setIfInBounds_ne (by omega)]
     ·obtain ⟨-, x1⟩ := x
      rw [hck, q] at x1; cases x1
   ·simp [setAt, hk1] at h
  ·rename_i hu
   have e := self hk h
   subst e
   refine ⟨by simp, by simp [hk], fun j hj => Or.inl ⟨Array.getElem?_setIfInBounds_ne (Ne.symm hj), fun x => ?_, fun x => ?_⟩⟩
   ·obtain ⟨-, x1⟩ := x
    rw [hck, q] at x1; cases x1
   ·obtain ⟨-, u', x1, x2⟩ := x
    rw [hck, q] at x1; cases x1; exact hu x2
 ·rename_i q
  have e := self hk h
  subst e
  refine ⟨by simp, by simp [hk], fun j hj => Or.inl ⟨Array.getElem?_setIfInBounds_ne (Ne.symm hj), fun x => ?_, fun x => ?_⟩⟩
  ·obtain ⟨-, x1⟩ := x
   rw [hck, q] at x1; cases x1
  ·obtain ⟨-, u', x1, x2⟩ := x
   rw [hck, q] at x1; cases x1
theorem set2_at {C D : Array Slot} {k : Nat} {w : Value} (hk : k + 1 < C.size) (hw : w.category = 2) (wf : ∀ k w, C[k]? = some (.val w) → w.category = 2 → C[k + 1]? = some .second) (h : storeLocals C k w = some D) :
  D.size = C.size ∧ D[k]? = some (.val w) ∧ D[k + 1]? = some .second ∧ ∀ j, j ≠ k → j ≠ k + 1 → (D[j]? = C[j]? ∧ ¬ kA C k j ∧ ¬ kD C k j) ∨ D[j]? = some .unset ∧ (kA C k j ∨ kD C k j) := by
 have hk0 : k < C.size := by omega
 have hck : C[k]? = some C[k] := Array.getElem?_eq_getElem hk0
 unfold storeLocals at h
 simp only [hck, Option.bind_eq_bind, Option.bind_some] at h
 have self : ∀ {E : Array Slot}, E.size = C.size → storeSelf E k w = some D → D.size = C.size ∧ D[k]? = some (.val w) ∧ D[k + 1]? = some .second ∧ ∀ j, j ≠ k → j ≠ k + 1 → (D[j]? = E[j]? ∧ ¬ kD E k j) ∨ D[j]? = some .unset ∧ kD E k j := by
  intro E hs q
  have h1 : k < E.size := by omega
  have h2 : k + 1 < E.size := by omega
  have h3 : (E.setIfInBounds k (.val w))[k + 1]? = some E[k + 1] := by rw [Array.getElem?_setIfInBounds_ne (by omega)]; exact Array.getElem?_eq_getElem h2
  simp only [storeSelf, setAt, h1, if_true, Option.bind_eq_bind, Option.bind_some, hw, h3] at q
  have plain : (¬ ∃ u, E[k + 1]? = some (.val u) ∧ u.category = 2) → some ((E.setIfInBounds k (.val w)).setIfInBounds (k + 1) .second) = some D → D.size = C.size ∧ D[k]? = some (.val w) ∧ D[k + 1]? = some .second ∧ ∀ j, j ≠ k → j ≠ k + 1 → (D[j]? = E[j]? ∧ ¬ kD E k j) ∨ D[j]? = some .unset ∧ kD E k j := by
   intro no q
   cases q
   refine ⟨by simp [hs], ?_, ?_, fun j hj hj1 => Or.inl ⟨?_, fun x => no x.2⟩⟩
   ·rw [Array.getElem?_setIfInBounds_ne (by omega)]; simp [h1]
   ·simp [h2]
   ·rw [Array.getElem?_setIfInBounds_ne (by omega), Array.getElem?_setIfInBounds_ne (by omega)]
  split at q
  ·rename_i u hu
   split at q
   ·rename_i hu2
    by_cases h5 : k + 2 < E.size
    ·simp [h5, h2] at q
     cases q
     refine ⟨by simp [hs], ?_, ?_, fun j hj hj1 => ?_⟩
     ·rw [Array.getElem?_setIfInBounds_ne (by omega), Array.getElem?_setIfInBounds_ne (by omega)]; simp [h1]
     ·simp [h2]
     ·by_cases e : j = k + 2
      ·refine Or.inr ⟨?_, e, u, by rw [Array.getElem?_eq_getElem h2, hu], hu2⟩
       rw [Array.getElem?_setIfInBounds_ne (by omega), e]
       simp [h5]
      ·refine Or.inl ⟨?_, fun x => e x.1⟩
       rw [Array.getElem?_setIfInBounds_ne (by omega), Array.getElem?_setIfInBounds_ne (by omega), Array.getElem?_setIfInBounds_ne (by omega)]
    ·simp [h5] at q
   ·rename_i hu2
    refine plain ?_ (by simpa [h2] using q)
    rintro ⟨u', x1, x2⟩
    rw [Array.getElem?_eq_getElem h2, hu] at x1; cases x1; exact hu2 x2
  ·rename_i hu
   refine plain ?_ (by simpa [h2] using q)
   rintro ⟨u', x1, x2⟩
   rw [Array.getElem?_eq_getElem h2] at x1; exact hu _ (Option.some.inj x1)
 split at h
 ·rename_i q
  have hk1 : k - 1 < C.size := by omega
  simp only [setAt, hk1, if_true, Option.bind_some] at h
  obtain ⟨e1, e2, e3, e4⟩ := self (by simp) h
  refine ⟨e1, e2, e3, fun j hj hj1 => ?_⟩
  have h6 : ∀ i, i + 1 ≠ k ∨ k = 0 → i ≠ k ∨ k ≠ 0 → (C.setIfInBounds (k - 1) Slot.unset)[i]? = C[i]? := fun i hi hi2 => Array.getElem?_setIfInBounds_ne (by omega)
  have h7 : (C.setIfInBounds (k - 1) Slot.unset)[k + 1]? = C[k + 1]? := Array.getElem?_setIfInBounds_ne (by omega)
  rcases e4 j hj hj1 with ⟨r, r'⟩ | ⟨r, r1, u, r2, r3⟩
  ·by_cases ej : k = j + 1
   ·refine Or.inr ⟨?_, Or.inl ⟨ej, by rw [hck, q]⟩⟩
    rw [r, show j = k - 1 by omega]; simp [hk1]
   ·refine Or.inl ⟨by rw [r]; exact h6 _ (by omega) (by omega), fun x => ej x.1, fun x => r' ⟨x.1, ?_⟩⟩
    rw [h7]; exact x.2
  ·exact Or.inr ⟨r, Or.inr ⟨r1, u, by rw [← h7]; exact r2, r3⟩⟩
 ·rename_i u q
  split at h
  ·rename_i hu
   simp only [setAt, hk, if_true, Option.bind_some] at h
   obtain ⟨e1, e2, e3, e4⟩ := self (by simp) h
   have hsec := wf k u (by rw [hck, q]) hu
   refine ⟨e1, e2, e3, fun j hj hj1 => ?_⟩
   rcases e4 j hj hj1 with ⟨r, r'⟩ | ⟨r, r1, u', r2, r3⟩
   ·refine Or.inl ⟨by rw [r]; exact Array.getElem?_setIfInBounds_ne (by omega), fun x => ?_, fun x => ?_⟩
    ·obtain ⟨-, x1⟩ := x
     rw [hck, q] at x1; cases x1
    ·obtain ⟨-, u', x1, x2⟩ := x
     rw [hsec] at x1; cases x1
   ·simp [hk] at r2
  ·rename_i hu
   obtain ⟨e1, e2, e3, e4⟩ := self rfl h
   refine ⟨e1, e2, e3, fun j hj hj1 => ?_⟩
   rcases e4 j hj hj1 with ⟨r, r'⟩ | ⟨r, r'⟩
   ·refine Or.inl ⟨r, fun x => ?_, r'⟩
    obtain ⟨-, x1⟩ := x
    rw [hck, q] at x1; cases x1
   ·exact Or.inr ⟨r, Or.inr r'⟩
 ·rename_i q
  obtain ⟨e1, e2, e3, e4⟩ := self rfl h
  refine ⟨e1, e2, e3, fun j hj hj1 => ?_⟩
  rcases e4 j hj hj1 with ⟨r, r'⟩ | ⟨r, r'⟩
  ·refine Or.inl ⟨r, fun x => ?_, r'⟩
   obtain ⟨-, x1⟩ := x
   rw [hck, q] at x1; cases x1
  ·exact Or.inr ⟨r, Or.inr r'⟩
theorem store_some {C : Array Slot} {k : Nat} {w : Value} (hk : k + (w.category - 1) < C.size) (hc : w.category = 1 ∨ w.category = 2) (wf : ∀ k w, C[k]? = some (.val w) → w.category = 2 → C[k + 1]? = some .second) :
  ∃ D, storeLocals C k w = some D := by
 have hk0 : k < C.size := by omega
 have hck : C[k]? = some C[k] := Array.getElem?_eq_getElem hk0
 have self : ∀ {E : Array Slot}, E.size = C.size → (∀ u, E[k + 1]? = some (.val u) → u.category = 2 → k + 2 < E.size) → ∃ D, storeSelf E k w = some D := by
  intro E hs hn
  have h1 : k < E.size := by omega
  simp only [storeSelf, setAt, h1, if_true, Option.bind_eq_bind, Option.bind_some]
  rcases hc with hc | hc
  ·exact ⟨E.setIfInBounds k (.val w), by simp [hc]⟩
  ·have h2 : k + 1 < E.size := by omega
   have h3 : (E.setIfInBounds k (.val w))[k + 1]? = some E[k + 1] := by rw [Array.getElem?_setIfInBounds_ne (by omega)]; exact Array.getElem?_eq_getElem h2
   simp only [hc, if_true, h3, Option.bind_some]
   split
   ·rename_i u hu
    split
    ·rename_i hu2
     have h5 := hn u (by rw [Array.getElem?_eq_getElem h2, hu]) hu2
     exact ⟨_, by simp [h5, h2]; rfl⟩
    ·exact ⟨_, by simp [h2]; rfl⟩
   ·exact ⟨_, by simp [h2]; rfl⟩
 have next : ∀ u, C[k + 1]? = some (.val u) → u.category = 2 → k + 2 < C.size := fun u h1 h2 => (Array.getElem?_eq_some_iff.mp (wf _ _ h1 h2)).1
 unfold storeLocals
 simp only [hck, Option.bind_eq_bind, Option.bind_some]
 split
 ·have hk1 : k - 1 < C.size := by omega
  simp only [setAt, hk1, if_true, Option.bind_some]
  refine self (by simp) fun u h1 h2 => ?_
  rw [Array.getElem?_setIfInBounds_ne (by omega)] at h1
  simpa using next u h1 h2
 ·rename_i u q
  split
  ·rename_i hu
   have h5 := (Array.getElem?_eq_some_iff.mp (wf k u (by rw [hck, q]) hu)).1
   simp only [setAt, h5, if_true, Option.bind_some]
   refine self (by simp) fun u h1 h2 => ?_
   simp [h5] at h1
  ·exact self rfl next
 ·exact self rfl next
theorem store_ok1 {ad : Nat → Addr} {L : QLoc} {C : Array Slot} {k : Nat} {v : Value} (H : QLocOk ad L C) (hv : v.category = 1) (hk : k < L.length) :
  ∃ D, storeLocals C k (qv ad v) = some D ∧ QLocOk ad ((lkill L k).set k (some v)) D ∧ D.size = C.size := by
 obtain ⟨H1, H2, H3, H4⟩ := H
 have hc : (qv ad v).category = 1 := by rw [qv_cat, hv]
 obtain ⟨D, hD⟩ := store_some (C := C) (k := k) (w := qv ad v) (by rw [hc]; omega) (Or.inl hc) H3
 obtain ⟨d1, d2, d3⟩ := set1_at (by omega) hc hD
 refine ⟨D, hD, ⟨by simp [lkill_len, H1, d1], fun j u hj => ?_, fun j w hj hw => ?_, fun j hj => ?_⟩, d1⟩
 ·rw [lget_set (by rw [lkill_len]; exact hk)] at hj
  split at hj
  ·rename_i e; cases hj; rw [e]; exact d2
  ·rename_i ne
   obtain ⟨g1, g2⟩ := lget_kill hj
   have g3 := H2 j u g1
   rcases d3 j ne with ⟨r, -, -⟩ | ⟨-, ⟨r1, r2⟩ | ⟨r1, w, r2, r3⟩⟩
   ·rw [r]; exact g3
   ·obtain ⟨i, w, z1, z2, z3⟩ := H4 k r2
    obtain rfl : i = j := by omega
    rw [g3] at z2
    cases z2
    rw [qv_cat] at z3
    exact absurd z3 (g2 r1)
   ·have := H3 k w r2 r3
    rw [← r1, g3] at this
    cases this
 ·by_cases e : j = k
  ·subst e; rw [d2] at hj; cases hj; rw [hc] at hw; cases hw
  ·rcases d3 j e with ⟨r, nA, nB⟩ | ⟨r, -⟩
   ·rw [r] at hj
    have g := H3 j w hj hw
    have e2 : j + 1 ≠ k := fun q => nA ⟨q.symm, by rw [← q]; exact g⟩
    rcases d3 (j + 1) e2 with ⟨z, -, -⟩ | ⟨-, ⟨z1, z2⟩ | ⟨z1, -⟩⟩
    ·rw [z]; exact g
    ·obtain ⟨i, u, y1, y2, y3⟩ := H4 k z2
     obtain rfl : i = j + 1 := by omega
     rw [g] at y2; cases y2
    ·omega
   ·rw [r] at hj; cases hj
 ·by_cases e : j = k
  ·subst e; rw [d2] at hj; cases hj
  ·rcases d3 j e with ⟨r, nA, nB⟩ | ⟨r, -⟩
   ·rw [r] at hj
    obtain ⟨i, w, y1, y2, y3⟩ := H4 j hj
    refine ⟨i, w, y1, ?_, y3⟩
    have ei : i ≠ k := fun q => nB ⟨by omega, w, by rw [← q]; exact y2, y3⟩
    rcases d3 i ei with ⟨z, -, -⟩ | ⟨-, ⟨z1, z2⟩ | ⟨z1, u, z2, z3⟩⟩
    ·rw [z]; exact y2
    ·omega
    ·have := H3 k u z2 z3
     rw [← z1, y2] at this; cases this
   ·rw [r] at hj; cases hj
theorem store_ok2 {ad : Nat → Addr} {L : QLoc} {C : Array Slot} {k : Nat} {x : Int64} (H : QLocOk ad L C) (hk : k + 1 < L.length) :
  ∃ D, storeLocals C k (.long x) = some D ∧ QLocOk ad (((lkill L k).set k (some (.long x))).set (k + 1) none) D ∧ D.size = C.size := by
 obtain ⟨H1, H2, H3, H4⟩ := H
 have hc : (Value.long x).category = 2 := rfl
 obtain ⟨D, hD⟩ := store_some (C := C) (k := k) (w := .long x) (by rw [hc]; omega) (Or.inr hc) H3
 obtain ⟨d1, d2, d2', d3⟩ := set2_at (by omega) hc H3 hD
 refine ⟨D, hD, ⟨by simp [lkill_len, H1, d1], fun j u hj => ?_, fun j w hj hw => ?_, fun j hj => ?_⟩, d1⟩
 ·rw [lget_set (by simp [lkill_len]; exact hk)] at hj
  split at hj
  ·cases hj
  ·rename_i ne1
   rw [lget_set (by rw [lkill_len]; omega)] at hj
   split at hj
   ·rename_i e; cases hj; rw [e]; exact d2
   ·rename_i ne
    obtain ⟨g1, g2⟩ := lget_kill hj
    have g3 := H2 j u g1
    rcases d3 j ne ne1 with ⟨r, -, -⟩ | ⟨-, ⟨r1, r2⟩ | ⟨r1, w, r2, r3⟩⟩
    ·rw [r]; exact g3
    ·obtain ⟨i, w, z1, z2, z3⟩ := H4 k r2
     obtain rfl : i = j := by omega
     rw [g3] at z2
     cases z2
     rw [qv_cat] at z3
     exact absurd z3 (g2 r1)
    ·have := H3 (k + 1) w r2 r3
     rw [show k + 1 + 1 = j by omega, g3] at this
     cases this
 ·by_cases e : j = k
  ·rw [e]; exact d2'
  ·by_cases e1 : j = k + 1
   ·rw [e1, d2'] at hj; cases hj
   ·rcases d3 j e e1 with ⟨r, nA, nB⟩ | ⟨r, -⟩
    ·rw [r] at hj
     have g := H3 j w hj hw
     have e2 : j + 1 ≠ k := fun q => nA ⟨q.symm, by rw [← q]; exact g⟩
     rcases d3 (j + 1) e2 (by omega) with ⟨z, -, -⟩ | ⟨-, ⟨z1, z2⟩ | ⟨z1, -⟩⟩
     ·rw [z]; exact g
     ·obtain ⟨i, u, y1, y2, y3⟩ := H4 k z2
      obtain rfl : i = j + 1 := by omega
      rw [g] at y2; cases y2
     ·omega
    ·rw [r] at hj; cases hj
 ·by_cases e : j = k
  ·rw [e, d2] at hj; cases hj
  ·by_cases e1 : j = k + 1
   ·exact ⟨k, _, e1, d2, hc⟩
   ·rcases d3 j e e1 with ⟨r, nA, nB⟩ | ⟨r, -⟩
    ·rw [r] at hj
     obtain ⟨i, w, y1, y2, y3⟩ := H4 j hj
     refine ⟨i, w, y1, ?_, y3⟩
     have ei : i ≠ k := fun q => e1 (by omega)
     have ei1 : i ≠ k + 1 := fun q => nB ⟨by omega, w, by rw [← q]; exact y2, y3⟩
     rcases d3 i ei ei1 with ⟨z, -, -⟩ | ⟨-, ⟨z1, z2⟩ | ⟨z1, u, z2, z3⟩⟩
     ·rw [z]; exact y2
     ·omega
     ·have := H3 (k + 1) u z2 z3
      rw [show k + 1 + 1 = i by omega, y2] at this; cases this
    ·rw [r] at hj; cases hj
theorem store_ok {ad : Nat → Addr} {L L' : QLoc} {C : Array Slot} {k : Nat} {v : Value} (H : QLocOk ad L C) (h : lput L k v = some L') :
  ∃ D, storeLocals C k (qv ad v) = some D ∧ QLocOk ad L' D ∧ D.size = C.size := by
 have one : v.category = 1 → (bif Nat.ble (k + 1) L.length then some ((lkill L k).set k (some v)) else none) = some L' → ∃ D, storeLocals C k (qv ad v) = some D ∧ QLocOk ad L' D ∧ D.size = C.size := by
  intro hv h
  cases hb : Nat.ble (k + 1) L.length with
  | false => rw [hb] at h; cases h
  | true => rw [hb] at h; cases h; exact store_ok1 H hv (Nat.le_of_ble_eq_true hb)
 cases v with
 | long x =>
  simp only [lput] at h
  cases hb : Nat.ble (k + 2) L.length with
  | false => rw [hb] at h; cases h
  | true => rw [hb] at h; cases h; exact store_ok2 H (Nat.le_of_ble_eq_true hb)
 | double x => simp [lput] at h
 | int x => exact one rfl h
 | float x => exact one rfl h
 | null => exact one rfl h
 | ref x => exact one rfl h
 | retAddr x => exact one rfl h
theorem fInj : ∀ i, i < nF → ∀ j, j < nF → fNm i = fNm j → i = j := by decide +kernel
theorem fPrs : ∀ i, i < nF → parseFieldDescriptor (fDs i) = some (fTy i) := by decide +kernel
theorem cDefs : ∀ i, i < nF → vget cDef i = some (defaultValue (fTy i)) := by decide +kernel
theorem cDefL : cDef.length = nF := by decide +kernel
theorem fDef : ∀ i, i < nF → ∀ a, defaultValue (fTy i) ≠ .ref a := by
 intro i _ a
 cases fTy i <;> simp [defaultValue]
theorem kPlain : ∀ k, k < 2 → plainName (kName k) = true := by
 intro k hk
 rcases k with _ | _ | k
 ·first | decide +kernel | (simp [kName, plainName, overriddenIn]; done)
 ·first | decide +kernel | (simp [kName, plainName, overriddenIn]; done)
 ·omega
theorem pKlt : ∀ m, m < pN → pK m < 2 := by decide +kernel
theorem pSig : ∀ m, m < pN → (parseMethodDescriptor (pDs m)).map (fun sg => sg.parameters.length) = some (pNA m) := by decide +kernel
theorem pOwn : ∀ k, k < 2 → kName k ≠ "java/lang/invoke/MethodHandle" ∧ kName k ≠ "java/lang/invoke/VarHandle" := by decide +kernel
theorem mAlt : ∀ m ∈ mA, m < pN := by decide +kernel
theorem mVlt : ∀ m ∈ mV, m ∈ mA ∧ pK m = 1 := by decide +kernel
theorem mPlt : ∀ m ∈ mP, m ∈ mA ∧ pK m = 1 := by decide +kernel
theorem mSlt : ∀ m ∈ mS, m ∈ mA := by decide +kernel
theorem mIlt : ∀ m ∈ mI, m ∈ mA ∧ pK m = 1 ∧ pNm m = "<init>" ∧ pRet m = none := by decide +kernel
theorem kOne : kName 1 = cName := rfl
def pX (m pc : Nat) : Bool := match pCode m pc with | some t => qchk m pc t.1 t.2 | none => true
set_option maxRecDepth 100000 in
set_option maxHeartbeats 4000000 in
theorem pC0_0 : ∀ q, q < 128 → pX 0 (0 + q) = true := by decide +kernel
set_option maxRecDepth 100000 in
set_option maxHeartbeats 4000000 in
theorem pC0_128 : ∀ q, q < 128 → pX 0 (128 + q) = true := by decide +kernel
set_option maxRecDepth 100000 in
set_option maxHeartbeats 4000000 in
theorem pC0_256 : ∀ q, q < 87 → pX 0 (256 + q) = true := by decide +kernel
theorem pCm0 (pc : Nat) (h : pc < pTop 0) : pX 0 pc = true := by
 replace h : pc < 343 := h
 by_cases h0 : pc < 128
 ·have q := pC0_0 (pc - 0) (by omega)
  rwa [show 0 + (pc - 0) = pc from by omega] at q
 by_cases h128 : pc < 256
 ·have q := pC0_128 (pc - 128) (by omega)
  rwa [show 128 + (pc - 128) = pc from by omega] at q
 have q := pC0_256 (pc - 256) (by omega)
 rwa [show 256 + (pc - 256) = pc from by omega] at q
set_option maxRecDepth 100000 in
set_option maxHeartbeats 4000000 in
theorem pC1_0 : ∀ q, q < 14 → pX 1 (0 + q) = true := by decide +kernel
theorem pCm1 (pc : Nat) (h : pc < pTop 1) : pX 1 pc = true := by
 replace h : pc < 14 := h
 have q := pC1_0 (pc - 0) (by omega)
 rwa [show 0 + (pc - 0) = pc from by omega] at q
set_option maxRecDepth 100000 in
set_option maxHeartbeats 4000000 in
theorem pC2_0 : ∀ q, q < 128 → pX 2 (0 + q) = true := by decide +kernel
set_option maxRecDepth 100000 in
set_option maxHeartbeats 4000000 in
theorem pC2_128 : ∀ q, q < 19 → pX 2 (128 + q) = true := by decide +kernel
theorem pCm2 (pc : Nat) (h : pc < pTop 2) : pX 2 pc = true := by
 replace h : pc < 147 := h
 by_cases h0 : pc < 128
 ·have q := pC2_0 (pc - 0) (by omega)
  rwa [show 0 + (pc - 0) = pc from by omega] at q
 have q := pC2_128 (pc - 128) (by omega)
 rwa [show 128 + (pc - 128) = pc from by omega] at q
set_option maxRecDepth 100000 in
set_option maxHeartbeats 4000000 in
theorem pC3_0 : ∀ q, q < 128 → pX 3 (0 + q) = true := by decide +kernel
set_option maxRecDepth 100000 in
set_option maxHeartbeats 4000000 in
theorem pC3_128 : ∀ q, q < 128 → pX 3 (128 + q) = true := by decide +kernel
set_option maxRecDepth 100000 in
set_option maxHeartbeats 4000000 in
theorem pC3_256 : ∀ q, q < 128 → pX 3 (256 + q) = true := by decide +kernel
set_option maxRecDepth 100000 in
set_option maxHeartbeats 4000000 in
theorem pC3_384 : ∀ q, q < 128 → pX 3 (384 + q) = true := by decide +kernel
set_option maxRecDepth 100000 in
set_option maxHeartbeats 4000000 in
theorem pC3_512 : ∀ q, q < 128 → pX 3 (512 + q) = true := by decide +kernel
set_option maxRecDepth 100000 in
set_option maxHeartbeats 4000000 in
theorem pC3_640 : ∀ q, q < 98 → pX 3 (640 + q) = true := by decide +kernel
theorem pCm3 (pc : Nat) (h : pc < pTop 3) : pX 3 pc = true := by
 replace h : pc < 738 := h
 by_cases h0 : pc < 128
 ·have q := pC3_0 (pc - 0) (by omega)
  rwa [show 0 + (pc - 0) = pc from by omega] at q
 by_cases h128 : pc < 256
 ·have q := pC3_128 (pc - 128) (by omega)
  rwa [show 128 + (pc - 128) = pc from by omega] at q
 by_cases h256 : pc < 384
 ·have q := pC3_256 (pc - 256) (by omega)
  rwa [show 256 + (pc - 256) = pc from by omega] at q
 by_cases h384 : pc < 512
 ·have q := pC3_384 (pc - 384) (by omega)
  rwa [show 384 + (pc - 384) = pc from by omega] at q
 by_cases h512 : pc < 640
 ·have q := pC3_512 (pc - 512) (by omega)
  rwa [show 512 + (pc - 512) = pc from by omega] at q
 have q := pC3_640 (pc - 640) (by omega)
 rwa [show 640 + (pc - 640) = pc from by omega] at q
set_option maxRecDepth 100000 in
set_option maxHeartbeats 4000000 in
theorem pC4_0 : ∀ q, q < 10 → pX 4 (0 + q) = true := by decide +kernel
theorem pCm4 (pc : Nat) (h : pc < pTop 4) : pX 4 pc = true := by
 replace h : pc < 10 := h
 have q := pC4_0 (pc - 0) (by omega)
 rwa [show 0 + (pc - 0) = pc from by omega] at q
set_option maxRecDepth 100000 in
set_option maxHeartbeats 4000000 in
theorem pC5_0 : ∀ q, q < 50 → pX 5 (0 + q) = true := by decide +kernel
theorem pCm5 (pc : Nat) (h : pc < pTop 5) : pX 5 pc = true := by
 replace h : pc < 50 := h
 have q := pC5_0 (pc - 0) (by omega)
 rwa [show 0 + (pc - 0) = pc from by omega] at q
set_option maxRecDepth 100000 in
set_option maxHeartbeats 4000000 in
theorem pC6_0 : ∀ q, q < 11 → pX 6 (0 + q) = true := by decide +kernel
theorem pCm6 (pc : Nat) (h : pc < pTop 6) : pX 6 pc = true := by
 replace h : pc < 11 := h
 have q := pC6_0 (pc - 0) (by omega)
 rwa [show 0 + (pc - 0) = pc from by omega] at q
set_option maxRecDepth 100000 in
set_option maxHeartbeats 4000000 in
theorem pC7_0 : ∀ q, q < 36 → pX 7 (0 + q) = true := by decide +kernel
theorem pCm7 (pc : Nat) (h : pc < pTop 7) : pX 7 pc = true := by
 replace h : pc < 36 := h
 have q := pC7_0 (pc - 0) (by omega)
 rwa [show 0 + (pc - 0) = pc from by omega] at q
set_option maxRecDepth 100000 in
set_option maxHeartbeats 4000000 in
theorem pC8_0 : ∀ q, q < 128 → pX 8 (0 + q) = true := by decide +kernel
set_option maxRecDepth 100000 in
set_option maxHeartbeats 4000000 in
theorem pC8_128 : ∀ q, q < 2 → pX 8 (128 + q) = true := by decide +kernel
theorem pCm8 (pc : Nat) (h : pc < pTop 8) : pX 8 pc = true := by
 replace h : pc < 130 := h
 by_cases h0 : pc < 128
 ·have q := pC8_0 (pc - 0) (by omega)
  rwa [show 0 + (pc - 0) = pc from by omega] at q
 have q := pC8_128 (pc - 128) (by omega)
 rwa [show 128 + (pc - 128) = pc from by omega] at q
set_option maxRecDepth 100000 in
set_option maxHeartbeats 4000000 in
theorem pC9_0 : ∀ q, q < 128 → pX 9 (0 + q) = true := by decide +kernel
set_option maxRecDepth 100000 in
set_option maxHeartbeats 4000000 in
theorem pC9_128 : ∀ q, q < 53 → pX 9 (128 + q) = true := by decide +kernel
theorem pCm9 (pc : Nat) (h : pc < pTop 9) : pX 9 pc = true := by
 replace h : pc < 181 := h
 by_cases h0 : pc < 128
 ·have q := pC9_0 (pc - 0) (by omega)
  rwa [show 0 + (pc - 0) = pc from by omega] at q
 have q := pC9_128 (pc - 128) (by omega)
 rwa [show 128 + (pc - 128) = pc from by omega] at q
set_option maxRecDepth 100000 in
set_option maxHeartbeats 4000000 in
theorem pC10_0 : ∀ q, q < 39 → pX 10 (0 + q) = true := by decide +kernel
theorem pCm10 (pc : Nat) (h : pc < pTop 10) : pX 10 pc = true := by
 replace h : pc < 39 := h
 have q := pC10_0 (pc - 0) (by omega)
 rwa [show 0 + (pc - 0) = pc from by omega] at q
set_option maxRecDepth 100000 in
set_option maxHeartbeats 4000000 in
theorem pC11_0 : ∀ q, q < 36 → pX 11 (0 + q) = true := by decide +kernel
theorem pCm11 (pc : Nat) (h : pc < pTop 11) : pX 11 pc = true := by
 replace h : pc < 36 := h
 have q := pC11_0 (pc - 0) (by omega)
 rwa [show 0 + (pc - 0) = pc from by omega] at q
set_option maxRecDepth 100000 in
set_option maxHeartbeats 4000000 in
theorem pC12_0 : ∀ q, q < 17 → pX 12 (0 + q) = true := by decide +kernel
theorem pCm12 (pc : Nat) (h : pc < pTop 12) : pX 12 pc = true := by
 replace h : pc < 17 := h
 have q := pC12_0 (pc - 0) (by omega)
 rwa [show 0 + (pc - 0) = pc from by omega] at q
set_option maxRecDepth 100000 in
set_option maxHeartbeats 4000000 in
theorem pC13_0 : ∀ q, q < 18 → pX 13 (0 + q) = true := by decide +kernel
theorem pCm13 (pc : Nat) (h : pc < pTop 13) : pX 13 pc = true := by
 replace h : pc < 18 := h
 have q := pC13_0 (pc - 0) (by omega)
 rwa [show 0 + (pc - 0) = pc from by omega] at q
set_option maxRecDepth 100000 in
set_option maxHeartbeats 4000000 in
theorem pC14_0 : ∀ q, q < 7 → pX 14 (0 + q) = true := by decide +kernel
theorem pCm14 (pc : Nat) (h : pc < pTop 14) : pX 14 pc = true := by
 replace h : pc < 7 := h
 have q := pC14_0 (pc - 0) (by omega)
 rwa [show 0 + (pc - 0) = pc from by omega] at q
set_option maxRecDepth 100000 in
set_option maxHeartbeats 4000000 in
theorem pC15_0 : ∀ q, q < 53 → pX 15 (0 + q) = true := by decide +kernel
theorem pCm15 (pc : Nat) (h : pc < pTop 15) : pX 15 pc = true := by
 replace h : pc < 53 := h
 have q := pC15_0 (pc - 0) (by omega)
 rwa [show 0 + (pc - 0) = pc from by omega] at q
set_option maxRecDepth 100000 in
set_option maxHeartbeats 4000000 in
theorem pC16_0 : ∀ q, q < 50 → pX 16 (0 + q) = true := by decide +kernel
theorem pCm16 (pc : Nat) (h : pc < pTop 16) : pX 16 pc = true := by
 replace h : pc < 50 := h
 have q := pC16_0 (pc - 0) (by omega)
 rwa [show 0 + (pc - 0) = pc from by omega] at q
set_option maxRecDepth 100000 in
set_option maxHeartbeats 4000000 in
theorem pC17_0 : ∀ q, q < 75 → pX 17 (0 + q) = true := by decide +kernel
theorem pCm17 (pc : Nat) (h : pc < pTop 17) : pX 17 pc = true := by
 replace h : pc < 75 := h
 have q := pC17_0 (pc - 0) (by omega)
 rwa [show 0 + (pc - 0) = pc from by omega] at q
set_option maxRecDepth 100000 in
set_option maxHeartbeats 4000000 in
theorem pC18_0 : ∀ q, q < 64 → pX 18 (0 + q) = true := by decide +kernel
theorem pCm18 (pc : Nat) (h : pc < pTop 18) : pX 18 pc = true := by
 replace h : pc < 64 := h
 have q := pC18_0 (pc - 0) (by omega)
 rwa [show 0 + (pc - 0) = pc from by omega] at q
set_option maxRecDepth 100000 in
set_option maxHeartbeats 4000000 in
theorem pC19_0 : ∀ q, q < 111 → pX 19 (0 + q) = true := by decide +kernel
theorem pCm19 (pc : Nat) (h : pc < pTop 19) : pX 19 pc = true := by
 replace h : pc < 111 := h
 have q := pC19_0 (pc - 0) (by omega)
 rwa [show 0 + (pc - 0) = pc from by omega] at q
set_option maxRecDepth 100000 in
set_option maxHeartbeats 4000000 in
theorem pC20_0 : ∀ q, q < 28 → pX 20 (0 + q) = true := by decide +kernel
theorem pCm20 (pc : Nat) (h : pc < pTop 20) : pX 20 pc = true := by
 replace h : pc < 28 := h
 have q := pC20_0 (pc - 0) (by omega)
 rwa [show 0 + (pc - 0) = pc from by omega] at q
set_option maxRecDepth 100000 in
set_option maxHeartbeats 4000000 in
theorem pC21_0 : ∀ q, q < 36 → pX 21 (0 + q) = true := by decide +kernel
theorem pCm21 (pc : Nat) (h : pc < pTop 21) : pX 21 pc = true := by
 replace h : pc < 36 := h
 have q := pC21_0 (pc - 0) (by omega)
 rwa [show 0 + (pc - 0) = pc from by omega] at q
set_option maxRecDepth 100000 in
set_option maxHeartbeats 4000000 in
theorem pC22_0 : ∀ q, q < 32 → pX 22 (0 + q) = true := by decide +kernel
theorem pCm22 (pc : Nat) (h : pc < pTop 22) : pX 22 pc = true := by
 replace h : pc < 32 := h
 have q := pC22_0 (pc - 0) (by omega)
 rwa [show 0 + (pc - 0) = pc from by omega] at q
set_option maxRecDepth 100000 in
set_option maxHeartbeats 4000000 in
theorem pC23_0 : ∀ q, q < 66 → pX 23 (0 + q) = true := by decide +kernel
theorem pCm23 (pc : Nat) (h : pc < pTop 23) : pX 23 pc = true := by
 replace h : pc < 66 := h
 have q := pC23_0 (pc - 0) (by omega)
 rwa [show 0 + (pc - 0) = pc from by omega] at q
set_option maxRecDepth 100000 in
set_option maxHeartbeats 4000000 in
theorem pC24_0 : ∀ q, q < 74 → pX 24 (0 + q) = true := by decide +kernel
theorem pCm24 (pc : Nat) (h : pc < pTop 24) : pX 24 pc = true := by
 replace h : pc < 74 := h
 have q := pC24_0 (pc - 0) (by omega)
 rwa [show 0 + (pc - 0) = pc from by omega] at q
set_option maxRecDepth 100000 in
set_option maxHeartbeats 4000000 in
theorem pC25_0 : ∀ q, q < 15 → pX 25 (0 + q) = true := by decide +kernel
theorem pCm25 (pc : Nat) (h : pc < pTop 25) : pX 25 pc = true := by
 replace h : pc < 15 := h
 have q := pC25_0 (pc - 0) (by omega)
 rwa [show 0 + (pc - 0) = pc from by omega] at q
set_option maxRecDepth 100000 in
set_option maxHeartbeats 4000000 in
theorem pC26_0 : ∀ q, q < 45 → pX 26 (0 + q) = true := by decide +kernel
theorem pCm26 (pc : Nat) (h : pc < pTop 26) : pX 26 pc = true := by
 replace h : pc < 45 := h
 have q := pC26_0 (pc - 0) (by omega)
 rwa [show 0 + (pc - 0) = pc from by omega] at q
set_option maxRecDepth 100000 in
set_option maxHeartbeats 4000000 in
theorem pC27_0 : ∀ q, q < 18 → pX 27 (0 + q) = true := by decide +kernel
theorem pCm27 (pc : Nat) (h : pc < pTop 27) : pX 27 pc = true := by
 replace h : pc < 18 := h
 have q := pC27_0 (pc - 0) (by omega)
 rwa [show 0 + (pc - 0) = pc from by omega] at q
set_option maxRecDepth 100000 in
set_option maxHeartbeats 4000000 in
theorem pC28_0 : ∀ q, q < 28 → pX 28 (0 + q) = true := by decide +kernel
theorem pCm28 (pc : Nat) (h : pc < pTop 28) : pX 28 pc = true := by
 replace h : pc < 28 := h
 have q := pC28_0 (pc - 0) (by omega)
 rwa [show 0 + (pc - 0) = pc from by omega] at q
set_option maxRecDepth 100000 in
set_option maxHeartbeats 4000000 in
theorem pC29_0 : ∀ q, q < 20 → pX 29 (0 + q) = true := by decide +kernel
theorem pCm29 (pc : Nat) (h : pc < pTop 29) : pX 29 pc = true := by
 replace h : pc < 20 := h
 have q := pC29_0 (pc - 0) (by omega)
 rwa [show 0 + (pc - 0) = pc from by omega] at q
theorem pChk0 : ∀ m, m < pN → ∀ pc, pc < pTop m → (match pCode m pc with | some t => qchk m pc t.1 t.2 | none => true) = true := by
 intro m hm pc hp
 change pX m pc = true
 match m, hm, hp with
 | 0, _, hp => exact pCm0 pc hp
 | 1, _, hp => exact pCm1 pc hp
 | 2, _, hp => exact pCm2 pc hp
 | 3, _, hp => exact pCm3 pc hp
 | 4, _, hp => exact pCm4 pc hp
 | 5, _, hp => exact pCm5 pc hp
 | 6, _, hp => exact pCm6 pc hp
 | 7, _, hp => exact pCm7 pc hp
 | 8, _, hp => exact pCm8 pc hp
 | 9, _, hp => exact pCm9 pc hp
 | 10, _, hp => exact pCm10 pc hp
 | 11, _, hp => exact pCm11 pc hp
 | 12, _, hp => exact pCm12 pc hp
 | 13, _, hp => exact pCm13 pc hp
 | 14, _, hp => exact pCm14 pc hp
 | 15, _, hp => exact pCm15 pc hp
 | 16, _, hp => exact pCm16 pc hp
 | 17, _, hp => exact pCm17 pc hp
 | 18, _, hp => exact pCm18 pc hp
 | 19, _, hp => exact pCm19 pc hp
 | 20, _, hp => exact pCm20 pc hp
 | 21, _, hp => exact pCm21 pc hp
 | 22, _, hp => exact pCm22 pc hp
 | 23, _, hp => exact pCm23 pc hp
 | 24, _, hp => exact pCm24 pc hp
 | 25, _, hp => exact pCm25 pc hp
 | 26, _, hp => exact pCm26 pc hp
 | 27, _, hp => exact pCm27 pc hp
 | 28, _, hp => exact pCm28 pc hp
 | 29, _, hp => exact pCm29 pc hp
 | m + 30, hm, _ => exact absurd hm (by unfold pN; omega)
theorem pIn {m pc : Nat} {t : Instr × Nat} (h : pCode m pc = some t) : m < pN ∧ pc < pTop m := by
 unfold pCode at h
 cases h1 : Nat.ble pN m with
 | true => rw [h1] at h; cases h
 | false =>
  cases h2 : Nat.ble (pTop m) pc with
  | true => rw [h1, h2] at h; cases h
  | false => exact ⟨Nat.lt_of_not_le (fun q => by rw [Nat.ble_eq_true_of_le q] at h1; cases h1), Nat.lt_of_not_le (fun q => by rw [Nat.ble_eq_true_of_le q] at h2; cases h2)⟩
theorem pChk {m pc : Nat} {i : Instr} {aux : Nat} (h : pCode m pc = some (i, aux)) : qchk m pc i aux = true := by
 have q := pChk0 m (pIn h).1 pc (pIn h).2
 rw [h] at q
 exact q
theorem pDec {m pc : Nat} {i : Instr} {aux : Nat} (h : pCode m pc = some (i, aux)) : decode (pBytes m) pc = .ok (i, ilen i) := by
 have q := pChk h
 unfold qchk at q
 exact of_decide_eq_true (Bool.and_eq_true_iff.mp q).1
theorem pDecN {m pc n : Nat} {i : Instr} {aux : Nat} (h : pCode m pc = some (i, aux)) (hn : ilen i = n) : decode (pBytes m) pc = .ok (i, n) := by
 rw [← hn]; exact pDec h
theorem pRest {m pc : Nat} {i : Instr} {aux : Nat} (h : pCode m pc = some (i, aux)) : qlk m pc i aux = true := by
 have q := pChk h
 unfold qchk at q
 exact (Bool.and_eq_true_iff.mp q).2
theorem qtgt_spec {pc : Nat} {o : Int} {aux : Nat} (h : qtgt pc o aux = true) : 0 ≤ (pc : Int) + o ∧ ((pc : Int) + o).toNat = aux := by
 unfold qtgt at h
 have h2 := Bool.and_eq_true_iff.mp h
 exact ⟨of_decide_eq_true h2.1, of_decide_eq_true h2.2⟩
def QCx (Z : State) (p : Program) (R : Room) (s : State) (mid : MethodId) (meth : Method) (c : Code) (m : Nat) : Prop :=
 p.tables.exec = Jvm.exec ∧ Z.Warmed39 s.vm ∧ c.code = pBytes m ∧ c.maxLocals = pMaxL m ∧ meth.sig.returnType = pRet m ∧ s.vm.findClass (kName (pK m)) = some mid.cls ∧ meth.name = pNm m ∧ pFr m ≤ R.frames ∧ pLo m ≤ R.locals
def QTri (l : Launch) (Z : State) (n0 : Nat) (ad : Nat → Addr) (m : Nat) (st : QSt) (v : Option Value) (σ' : QHeap) : Prop :=
 st.2.2.2.length ≤ σ'.length ∧ qhs st.2.2.2 ≤ qhs σ' ∧
 ∀ (p : Program) (e : Env) (R : Room) (s : State) (mid : MethodId) (args : Array Value) (below : List Frame) (meth : Method) (c : Code) (T : State) (locs : List Loc) (cells slots : Nat) (C : Array Slot),
  QCx Z p R s mid meth c m → Stand p l e R s mid args below meth c T locs cells slots → QRep Z n0 ad T.heap st.2.2.2 → Fr n0 locs → QLocOk ad st.2.1 C → C.size = c.maxLocals →
  n0 + (st.2.2.2.length - k0) = s.heap.size + cells → cells + (σ'.length - st.2.2.2.length) ≤ R.cells → slots + (qhs σ' - qhs st.2.2.2) ≤ R.slots →
  ∃ T' locs', Stand p l e R s mid args below meth c T' locs' (cells + (σ'.length - st.2.2.2.length)) (slots + (qhs σ' - qhs st.2.2.2)) ∧ QRep Z n0 ad T'.heap σ' ∧ Fr n0 locs' ∧
   ∀ fs, (∀ (f : JFrame) (acts : List Action), f.method = mid → f.locked = none → f.entered = [] → (doReturn e (T'.setTop f) acts (v.map (qv ad))).1 = T'.setFrames fs) →
    Steps p.tables e below (T.setTop (mkF mid st.1 C (st.2.2.1.map (qv ad)))) (T'.setFrames fs)
section Triples
variable {l : Launch} {Z : State} {n0 : Nat} {ad : Nat → Addr} {a0 : Array Value} {m : Nat} {v : Option Value} {σ' : QHeap}
theorem QTri.gen {st st' : QSt} (h : QTri l Z n0 ad m st' v σ') (g1 : st.2.2.2.length ≤ st'.2.2.2.length) (g2 : qhs st.2.2.2 ≤ qhs st'.2.2.2)
  (hs : ∀ (p : Program) (e : Env) (R : Room) (s : State) (mid : MethodId) (args : Array Value) (below : List Frame) (meth : Method) (c : Code) (T : State) (locs : List Loc) (cells slots : Nat) (C : Array Slot),
   QCx Z p R s mid meth c m → Stand p l e R s mid args below meth c T locs cells slots → QRep Z n0 ad T.heap st.2.2.2 → Fr n0 locs → QLocOk ad st.2.1 C → C.size = c.maxLocals →
   n0 + (st.2.2.2.length - k0) = s.heap.size + cells → cells + (st'.2.2.2.length - st.2.2.2.length) ≤ R.cells → slots + (qhs st'.2.2.2 - qhs st.2.2.2) ≤ R.slots →
   ∃ T₁ locs₁ C₁, Stand p l e R s mid args below meth c T₁ locs₁ (cells + (st'.2.2.2.length - st.2.2.2.length)) (slots + (qhs st'.2.2.2 - qhs st.2.2.2)) ∧ QRep Z n0 ad T₁.heap st'.2.2.2 ∧ Fr n0 locs₁ ∧ QLocOk ad st'.2.1 C₁ ∧ C₁.size = c.maxLocals ∧
    ∀ target, Steps p.tables e below (T₁.setTop (mkF mid st'.1 C₁ (st'.2.2.1.map (qv ad)))) target → Steps p.tables e below (T.setTop (mkF mid st.1 C (st.2.2.1.map (qv ad)))) target) :
  QTri l Z n0 ad m st v σ' := by
 obtain ⟨h1, h2, h3⟩ := h
 refine ⟨Nat.le_trans g1 h1, Nat.le_trans g2 h2, fun p e R s mid args below meth c T locs cells slots C hcx X hR hF hL hC hn hc hsl => ?_⟩
 obtain ⟨T₁, locs₁, C₁, X₁, R₁, F₁, L₁, C1, S₁⟩ := hs p e R s mid args below meth c T locs cells slots C hcx X hR hF hL hC hn (by omega) (by omega)
 have hk := hR.1
 obtain ⟨T', locs', X', R', F', S'⟩ := h3 p e R s mid args below meth c T₁ locs₁ _ _ C₁ hcx X₁ R₁ F₁ L₁ C1 (by omega) (by omega) (by omega)
 have e1 : cells + (st'.2.2.2.length - st.2.2.2.length) + (σ'.length - st'.2.2.2.length) = cells + (σ'.length - st.2.2.2.length) := by omega
 have e2 : slots + (qhs st'.2.2.2 - qhs st.2.2.2) + (qhs σ' - qhs st'.2.2.2) = slots + (qhs σ' - qhs st.2.2.2) := by omega
 rw [e1, e2] at X'
 exact ⟨T', locs', X', R', F', fun fs hf => S₁ _ (S' fs hf)⟩
theorem QTri.pure {st st' : QSt} (h : QTri l Z n0 ad m st' v σ') (hσ : st'.2.2.2 = st.2.2.2)
  (hs : ∀ (p : Program) (e : Env) (R : Room) (s : State) (mid : MethodId) (args : Array Value) (below : List Frame) (meth : Method) (c : Code) (T : State) (locs : List Loc) (cells slots : Nat) (C : Array Slot),
   QCx Z p R s mid meth c m → Stand p l e R s mid args below meth c T locs cells slots → QRep Z n0 ad T.heap st.2.2.2 → QLocOk ad st.2.1 C → C.size = c.maxLocals →
   ∃ T₁ C₁, Stand p l e R s mid args below meth c T₁ locs cells slots ∧ T₁.heap = T.heap ∧ QLocOk ad st'.2.1 C₁ ∧ C₁.size = c.maxLocals ∧
    ∀ target, Steps p.tables e below (T₁.setTop (mkF mid st'.1 C₁ (st'.2.2.1.map (qv ad)))) target → Steps p.tables e below (T.setTop (mkF mid st.1 C (st.2.2.1.map (qv ad)))) target) :
  QTri l Z n0 ad m st v σ' := by
 refine QTri.gen h (by rw [hσ]; exact Nat.le_refl _) (by rw [hσ]; exact Nat.le_refl _) fun p e R s mid args below meth c T locs cells slots C hcx X hR hF hL hC hn hc hsl => ?_
 obtain ⟨T₁, C₁, X₁, hh, L₁, C1, S₁⟩ := hs p e R s mid args below meth c T locs cells slots C hcx X hR hL hC
 refine ⟨T₁, locs, C₁, ?_, by rw [hσ, hh]; exact hR, hF, L₁, C1, S₁⟩
 rw [hσ, Nat.sub_self, Nat.sub_self]
 exact X₁
theorem QTri.frame {pc pc' : Nat} {L L' : QLoc} {S S' : List Value} {σ : QHeap} (h : QTri l Z n0 ad m (pc', L', S', σ) v σ')
  (hs : ∀ (p : Program) (e : Env) (R : Room) (s : State) (mid : MethodId) (args : Array Value) (below : List Frame) (meth : Method) (c : Code) (T : State) (locs : List Loc) (cells slots : Nat) (C : Array Slot),
   QCx Z p R s mid meth c m → Stand p l e R s mid args below meth c T locs cells slots → QRep Z n0 ad T.heap σ → QLocOk ad L C → C.size = c.maxLocals →
   ∃ C₁, QLocOk ad L' C₁ ∧ C₁.size = c.maxLocals ∧ ∀ target, Steps p.tables e below (T.setTop (mkF mid pc' C₁ (S'.map (qv ad)))) target → Steps p.tables e below (T.setTop (mkF mid pc C (S.map (qv ad)))) target) :
  QTri l Z n0 ad m (pc, L, S, σ) v σ' :=
 QTri.pure h rfl fun p e R s mid args below meth c T locs cells slots C hcx X hR hL hC => by
  obtain ⟨C₁, h1, h2, h3⟩ := hs p e R s mid args below meth c T locs cells slots C hcx X hR hL hC
  exact ⟨T, C₁, X, rfl, h1, h2, h3⟩
theorem QTri.stack {pc pc' : Nat} {L : QLoc} {S S' : List Value} {σ : QHeap} (h : QTri l Z n0 ad m (pc', L, S', σ) v σ')
  (hs : ∀ (p : Program) (e : Env) (R : Room) (s : State) (mid : MethodId) (args : Array Value) (below : List Frame) (meth : Method) (c : Code) (T : State) (locs : List Loc) (cells slots : Nat) (C : Array Slot) (target : State),
   p.tables.exec = Jvm.exec → Z.Warmed39 s.vm → c.code = pBytes m → s.vm.findClass (kName (pK m)) = some mid.cls → Stand p l e R s mid args below meth c T locs cells slots → QRep Z n0 ad T.heap σ → QLocOk ad L C →
   Steps p.tables e below (T.setTop (mkF mid pc' C (S'.map (qv ad)))) target → Steps p.tables e below (T.setTop (mkF mid pc C (S.map (qv ad)))) target) :
  QTri l Z n0 ad m (pc, L, S, σ) v σ' :=
 QTri.frame h fun p e R s mid args below meth c T locs cells slots C hcx X hR hL hC => ⟨C, hL, hC, fun target k => hs p e R s mid args below meth c T locs cells slots C target hcx.1 hcx.2.1 hcx.2.2.1 hcx.2.2.2.2.2.1 X hR hL k⟩
theorem qload_inv {pc : Nat} {L : QLoc} {S : List Value} {σ : QHeap} {k : Nat} {ok : Value → Bool} {st' : QSt} (h : qload pc L S σ k ok = some st') : ∃ v, lget L k = some v ∧ ok v = true ∧ st' = (pc, L, v :: S, σ) := by
 unfold qload at h
 split at h
 ·rename_i v hv
  cases ho : ok v with
  | true => rw [ho] at h; cases h; exact ⟨v, hv, ho, rfl⟩
  | false => rw [ho] at h; cases h
 ·cases h
theorem qstore_inv {pc : Nat} {L : QLoc} {S : List Value} {σ : QHeap} {k : Nat} {ok : Value → Bool} {st' : QSt} (h : qstore pc L S σ k ok = some st') : ∃ v S' L', S = v :: S' ∧ ok v = true ∧ lput L k v = some L' ∧ st' = (pc, L', S', σ) := by
 unfold qstore at h
 split at h
 ·rename_i v S'
  cases ho : ok v with
  | true =>
   rw [ho] at h
   simp only [cond_true] at h
   split at h
   ·rename_i L' hL'
    cases h; exact ⟨v, S', L', rfl, ho, hL', rfl⟩
   ·cases h
  | false => rw [ho] at h; cases h
 ·cases h
theorem qbin_inv {pc : Nat} {L : QLoc} {S : List Value} {σ : QHeap} {f : Int32 → Int32 → Int32} {st' : QSt} (h : qbin pc L S σ f = some st') : ∃ x y S', S = .int y :: .int x :: S' ∧ st' = (pc, L, .int (f x y) :: S', σ) := by
 unfold qbin at h
 split at h
 ·cases h; exact ⟨_, _, _, rfl, rfl⟩
 ·cases h
theorem qbino_inv {pc : Nat} {L : QLoc} {S : List Value} {σ : QHeap} {f : Int32 → Int32 → Option Int32} {st' : QSt} (h : qbino pc L S σ f = some st') : ∃ x y z S', S = .int y :: .int x :: S' ∧ f x y = some z ∧ st' = (pc, L, .int z :: S', σ) := by
 unfold qbino at h
 split at h
 ·obtain ⟨z, hz, h⟩ := Option.bind_eq_some_iff.mp h
  cases h; exact ⟨_, _, _, _, rfl, hz, rfl⟩
 ·cases h
theorem qbinJ_inv {pc : Nat} {L : QLoc} {S : List Value} {σ : QHeap} {f : Int64 → Int64 → Int64} {st' : QSt} (h : qbinJ pc L S σ f = some st') : ∃ x y S', S = .long y :: .long x :: S' ∧ st' = (pc, L, .long (f x y) :: S', σ) := by
 unfold qbinJ at h
 split at h
 ·cases h; exact ⟨_, _, _, rfl, rfl⟩
 ·cases h
theorem qshJ_inv {pc : Nat} {L : QLoc} {S : List Value} {σ : QHeap} {f : Int64 → Int32 → Int64} {st' : QSt} (h : qshJ pc L S σ f = some st') : ∃ x y S', S = .int y :: .long x :: S' ∧ st' = (pc, L, .long (f x y) :: S', σ) := by
 unfold qshJ at h
 split at h
 ·cases h; exact ⟨_, _, _, rfl, rfl⟩
 ·cases h
theorem quni_inv {pc : Nat} {L : QLoc} {S : List Value} {σ : QHeap} {f : Int32 → Value} {st' : QSt} (h : quni pc L S σ f = some st') : ∃ x S', S = .int x :: S' ∧ st' = (pc, L, f x :: S', σ) := by
 unfold quni at h
 split at h
 ·cases h; exact ⟨_, _, rfl, rfl⟩
 ·cases h
theorem quniJ_inv {pc : Nat} {L : QLoc} {S : List Value} {σ : QHeap} {f : Int64 → Value} {st' : QSt} (h : quniJ pc L S σ f = some st') : ∃ x S', S = .long x :: S' ∧ st' = (pc, L, f x :: S', σ) := by
 unfold quniJ at h
 split at h
 ·cases h; exact ⟨_, _, rfl, rfl⟩
 ·cases h
theorem qif_inv {pc : Nat} {L : QLoc} {S : List Value} {σ : QHeap} {cd : ClassFile.Cond} {t : Nat} {st' : QSt} (h : qif pc L S σ cd t = some st') : ∃ x S', S = .int x :: S' ∧ st' = (bif ifCond.holds cd x then t else pc, L, S', σ) := by
 unfold qif at h
 split at h
 ·cases h; exact ⟨_, _, rfl, rfl⟩
 ·cases h
theorem qicmp_inv {pc : Nat} {L : QLoc} {S : List Value} {σ : QHeap} {cd : ClassFile.Cond} {t : Nat} {st' : QSt} (h : qicmp pc L S σ cd t = some st') : ∃ x y S', S = .int y :: .int x :: S' ∧ st' = (bif if_icmp.holds cd x y then t else pc, L, S', σ) := by
 unfold qicmp at h
 split at h
 ·cases h; exact ⟨_, _, _, rfl, rfl⟩
 ·cases h
theorem qget_inv {pc : Nat} {L : QLoc} {S : List Value} {σ : QHeap} {k : Nat} {st' : QSt} (h : qget pc L S σ k = some st') : ∃ a S' vs v, S = .ref a :: S' ∧ hget σ a = some (.inl vs) ∧ vget vs k = some v ∧ st' = (pc, L, v :: S', σ) := by
 unfold qget at h
 split at h
 ·split at h
  ·split at h
   ·cases h; exact ⟨_, _, _, _, rfl, by assumption, by assumption, rfl⟩
   ·cases h
  ·cases h
 ·cases h
theorem qput_inv {pc : Nat} {L : QLoc} {S : List Value} {σ : QHeap} {k : Nat} {st' : QSt} (h : qput pc L S σ k = some st') : ∃ v a S' vs w, S = v :: .ref a :: S' ∧ hget σ a = some (.inl vs) ∧ k0 ≤ a ∧ k < vs.length ∧ qfit (fTy k) v = some w ∧ st' = (pc, L, S', σ.set a (.inl (vs.set k w))) := by
 unfold qput at h
 split at h
 ·rename_i v a S'
  split at h
  ·rename_i vs hvs
   cases hbb : (Nat.ble k0 a && Nat.ble (k + 1) vs.length) with
   | false => rw [hbb] at h; cases h
   | true =>
    rw [hbb] at h
    simp only [cond_true] at h
    obtain ⟨u, hu, h⟩ := Option.bind_eq_some_iff.mp h
    cases h
    obtain ⟨b1, b2⟩ := Bool.and_eq_true_iff.mp hbb
    exact ⟨v, a, S', vs, u, rfl, hvs, Nat.le_of_ble_eq_true b1, Nat.le_of_ble_eq_true b2, hu, rfl⟩
  ·cases h
 ·cases h
theorem qald_inv {pc : Nat} {L : QLoc} {S : List Value} {σ : QHeap} {ok : FieldType → Bool} {st' : QSt} (h : qald pc L S σ ok = some st') : ∃ j a S' ty xs v, S = .int j :: .ref a :: S' ∧ hget σ a = some (.inr (.inl (ty, xs))) ∧ ok ty = true ∧ aget xs j = some v ∧ st' = (pc, L, .int v :: S', σ) := by
 unfold qald at h
 split at h
 ·rename_i j a S'
  split at h
  ·rename_i x hx
   cases ht : ok x.1 with
   | false => rw [ht] at h; cases h
   | true =>
    rw [ht] at h
    simp only [cond_true] at h
    obtain ⟨u, hu, h⟩ := Option.bind_eq_some_iff.mp h
    cases h
    exact ⟨j, a, S', x.1, x.2, u, rfl, hx, ht, hu, rfl⟩
  ·cases h
 ·cases h
theorem qaldJ_inv {pc : Nat} {L : QLoc} {S : List Value} {σ : QHeap} {st' : QSt} (h : qaldJ pc L S σ = some st') : ∃ j a S' xs v, S = .int j :: .ref a :: S' ∧ hget σ a = some (.inr (.inr xs)) ∧ aget xs j = some v ∧ st' = (pc, L, .long v :: S', σ) := by
 unfold qaldJ at h
 split at h
 ·rename_i j a S'
  split at h
  ·rename_i x hx
   obtain ⟨u, hu, h⟩ := Option.bind_eq_some_iff.mp h
   cases h
   exact ⟨j, a, S', x, u, rfl, hx, hu, rfl⟩
  ·cases h
 ·cases h
theorem qast_inv {pc : Nat} {L : QLoc} {S : List Value} {σ : QHeap} {ok : FieldType → Bool} {st' : QSt} (h : qast pc L S σ ok = some st') : ∃ v j a S' ty xs ys, S = .int v :: .int j :: .ref a :: S' ∧ hget σ a = some (.inr (.inl (ty, xs))) ∧ ok ty = true ∧ k0 ≤ a ∧ aset xs j (qnar ty v) = some ys ∧ st' = (pc, L, S', σ.set a (.inr (.inl (ty, ys)))) := by
 unfold qast at h
 split at h
 ·rename_i v j a S'
  split at h
  ·rename_i x hx
   cases ht : (ok x.1 && Nat.ble k0 a) with
   | false => rw [ht] at h; cases h
   | true =>
    rw [ht] at h
    simp only [cond_true] at h
    obtain ⟨u, hu, h⟩ := Option.bind_eq_some_iff.mp h
    cases h
    obtain ⟨b1, b2⟩ := Bool.and_eq_true_iff.mp ht
    exact ⟨v, j, a, S', x.1, x.2, u, rfl, hx, b1, Nat.le_of_ble_eq_true b2, hu, rfl⟩
  ·cases h
 ·cases h
theorem qastJ_inv {pc : Nat} {L : QLoc} {S : List Value} {σ : QHeap} {st' : QSt} (h : qastJ pc L S σ = some st') : ∃ v j a S' xs ys, S = .long v :: .int j :: .ref a :: S' ∧ hget σ a = some (.inr (.inr xs)) ∧ k0 ≤ a ∧ aset xs j v = some ys ∧ st' = (pc, L, S', σ.set a (.inr (.inr ys))) := by
 unfold qastJ at h
 split at h
 ·rename_i v j a S'
  split at h
  ·rename_i x hx
   cases ht : (Nat.ble k0 a) with
   | false => rw [ht] at h; cases h
   | true =>
    rw [ht] at h
    simp only [cond_true] at h
    obtain ⟨u, hu, h⟩ := Option.bind_eq_some_iff.mp h
    cases h
    exact ⟨v, j, a, S', x, u, rfl, hx, Nat.le_of_ble_eq_true ht, hu, rfl⟩
  ·cases h
 ·cases h
theorem qlen_inv {pc : Nat} {L : QLoc} {S : List Value} {σ : QHeap} {st' : QSt} (h : qlen pc L S σ = some st') : ∃ a S' n, S = .ref a :: S' ∧ ((∃ ty xs, hget σ a = some (.inr (.inl (ty, xs))) ∧ n = xs.length) ∨ ∃ xs, hget σ a = some (.inr (.inr xs)) ∧ n = xs.length) ∧ st' = (pc, L, .int n.toInt32 :: S', σ) := by
 unfold qlen at h
 split at h
 ·rename_i a S'
  split at h
  ·rename_i x hx
   cases h; exact ⟨a, S', _, rfl, Or.inl ⟨x.1, x.2, hx, rfl⟩, rfl⟩
  ·rename_i x hx
   cases h; exact ⟨a, S', _, rfl, Or.inr ⟨x, hx, rfl⟩, rfl⟩
  ·cases h
 ·cases h
theorem isI_inv {v : Value} (h : isI v = true) : ∃ x, v = .int x := by cases v <;> simp [isI] at h; exact ⟨_, rfl⟩
theorem isJ_inv {v : Value} (h : isJ v = true) : ∃ x, v = .long x := by cases v <;> simp [isJ] at h; exact ⟨_, rfl⟩
theorem isR_inv {v : Value} (h : isR v = true) : ∃ x, v = .ref x := by cases v <;> simp [isR] at h; exact ⟨_, rfl⟩
theorem aget_inv {α : Type} {xs : List α} {j : Int32} {x : α} (h : aget xs j = some x) : ¬ j < 0 ∧ xs[j.toNatClampNeg]? = some x := by
 unfold aget at h
 split at h
 ·cases h
 ·rename_i q; exact ⟨q, h⟩
theorem aset_inv {α : Type} {xs ys : List α} {j : Int32} {x : α} (h : aset xs j x = some ys) : ¬ j < 0 ∧ j.toNatClampNeg < xs.length ∧ ys = xs.set j.toNatClampNeg x := by
 unfold aset at h
 split at h
 ·cases h
 ·rename_i q
  split at h
  ·rename_i q2; cases h; exact ⟨q, q2, rfl⟩
  ·cases h
theorem qnew_inv {n : Int32} {k : Nat} (h : qnew n = some k) : ¬ n < 0 ∧ n.toNatClampNeg = k ∧ k ≤ 67108864 := by
 unfold qnew at h
 split at h
 ·cases h
 ·rename_i q
  split at h
  ·rename_i q2; cases h; exact ⟨q, rfl, q2⟩
  ·cases h
theorem QCellOk.other {h h' : Heap} {a b : Addr} {sl : Nat} {w : Value} {c : QCell} (H : QCellOk Z ad h b c) (W : Wr h h' a sl w) (ne : b ≠ a) : QCellOk Z ad h' b c := by
 rcases c with vs | ⟨ty, xs⟩ | xs
 ·obtain ⟨h1, h2, h3⟩ := H
  exact ⟨h1.wr W, h2, fun k u hk hu => (h3 k u hk hu).other W (Or.inl ne)⟩
 ·obtain ⟨c, h1, h2⟩ := H
  exact ⟨c, h1.other W ne, h2⟩
 ·obtain ⟨c, h1, h2⟩ := H
  exact ⟨c, h1.other W ne, h2⟩
theorem QCellOk.ext {h h' : Heap} {b : Addr} {c : QCell} (H : QCellOk Z ad h b c) (E : Ext h h') : QCellOk Z ad h' b c := by
 rcases c with vs | ⟨ty, xs⟩ | xs
 ·obtain ⟨h1, h2, h3⟩ := H
  exact ⟨h1.ext E, h2, fun k u hk hu => (h3 k u hk hu).ext E⟩
 ·obtain ⟨c, h1, h2⟩ := H
  exact ⟨c, h1.ext E, h2⟩
 ·obtain ⟨c, h1, h2⟩ := H
  exact ⟨c, h1.ext E, h2⟩
theorem QRep.set {h h' : Heap} {σ : QHeap} {a : Nat} {sl : Nat} {w : Value} {c d : QCell} (H : QRep Z n0 ad h σ) (Ad : QAd n0 ad) (W : Wr h h' (ad a) sl w) (hc : hget σ a = some c) (hd : QCellOk Z ad h' (ad a) d) : QRep Z n0 ad h' (σ.set a d) := by
 obtain ⟨h1, h2, h3⟩ := H
 refine ⟨by simpa using h1, by rw [W.size, h2]; simp, fun k e he => ?_⟩
 rw [hget_set hc] at he
 split at he
 ·rename_i q; cases he; rw [q]; exact hd
 ·rename_i q; exact (h3 k e he).other W fun z => q (Ad.2 _ _ z)
theorem QRep.push {h h' : Heap} {σ : QHeap} {c : QCell} (H : QRep Z n0 ad h σ) (Ad : QAd n0 ad) (E : Ext h h') (hs : h'.size = h.size + 1) (hc : QCellOk Z ad h' h.size c) : QRep Z n0 ad h' (σ ++ [c]) := by
 obtain ⟨h1, h2, h3⟩ := H
 refine ⟨by simp; omega, by rw [hs, h2]; simp; omega, fun k e he => ?_⟩
 rw [hget_eq] at he
 rcases Nat.lt_or_ge k σ.length with q | q
 ·rw [List.getElem?_append_left q, ← hget_eq] at he
  exact (h3 k e he).ext E
 ·rw [List.getElem?_append_right q] at he
  obtain rfl : k = σ.length := by
   rcases Nat.lt_or_ge (k - σ.length) 1 with z | z
   ·omega
   ·rw [List.getElem?_eq_none (by simpa using z)] at he; cases he
  simp at he
  rw [← he, Ad.1 _ h1, ← h2]
  exact hc
theorem mem_of_contains {α : Type} [BEq α] [LawfulBEq α] {L : List α} {a : α} (h : L.contains a = true) : a ∈ L := by simpa using h
theorem lkF_lt : ∀ t ∈ lkF, t.2.2 < nF := by decide +kernel
theorem laid_of (W : QW Z a0) {k : Nat} (hk : k < nF) : Laid Z a0 cName cName (fNm k) (fDs k) := by
 have q := (qw_lay W) k hk
 cases hf : fFin k with
 | true => rw [hf] at q; exact Or.inr q
 | false => rw [hf] at q; exact Or.inl q
theorem qfit_inv {ty : FieldType} {v w : Value} (h : qfit ty v = some w) : v = w ∧ narrow ty (qv ad w) = qv ad w ∧ fits ty (qv ad w) = true := by
 unfold qfit at h
 split at h
 ·cases h; exact ⟨rfl, rfl, rfl⟩
 ·rename_i x
  obtain ⟨y, hy, h⟩ := Option.bind_eq_some_iff.mp h
  cases h
  unfold qboo at hy
  split at hy
  ·rename_i e; cases hy; subst e; exact ⟨rfl, rfl, rfl⟩
  ·split at hy
   ·rename_i e; cases hy; subst e; exact ⟨rfl, rfl, rfl⟩
   ·cases hy
 ·cases h; exact ⟨rfl, rfl, rfl⟩
 ·cases h; exact ⟨rfl, rfl, rfl⟩
 ·cases h
theorem vget_set {vs : List Value} {k j : Nat} {w : Value} (hk : k < vs.length) : vget (vs.set k w) j = if j = k then some w else vget vs j := by
 simp only [vget_eq, List.getElem?_set]
 by_cases e : k = j
 ·subst e; simp [hk]
 ·simp [e, Ne.symm e]
theorem ald_in {α : Type} {f : α → Value} {xs : List α} {c : Cell} {j : Int32} {x : α} (hc : c.slots = (xs.map f).toArray) (h : aget xs j = some x) : ¬ (j < 0 ∨ c.slots.size ≤ j.toNatClampNeg) ∧ c.slots[j.toNatClampNeg]? = some (f x) := by
 obtain ⟨h1, h2⟩ := aget_inv h
 have h3 := (List.getElem?_eq_some_iff.mp h2).1
 refine ⟨fun q => ?_, by rw [hc]; simp [h2]⟩
 rcases q with q | q
 ·exact h1 q
 ·rw [hc] at q; simp at q; omega
theorem ast_in {α : Type} {f : α → Value} {xs ys : List α} {c : Cell} {j : Int32} {x : α} (hc : c.slots = (xs.map f).toArray) (h : aset xs j x = some ys) : ¬ (j < 0 ∨ c.slots.size ≤ j.toNatClampNeg) ∧ (c.setSlot j.toNatClampNeg (f x)).slots = (ys.map f).toArray := by
 obtain ⟨h1, h2, rfl⟩ := aset_inv h
 refine ⟨fun q => ?_, by simp [Cell.setSlot, hc, List.map_set]⟩
 rcases q with q | q
 ·exact h1 q
 ·rw [hc] at q; simp at q; omega
theorem qgrow {σ : QHeap} {c : QCell} : qhs (σ ++ [c]) - qhs σ = qsz c := by rw [qhs_app]; simp [qhs]
set_option maxHeartbeats 4000000 in
theorem QTri.newArr (Ad : QAd n0 ad) (W : QW Z a0) {pc aux : Nat} {L : QLoc} {S : List Value} {σ : QHeap} {aty : ArrayType} {n : Int32} {k : Nat} {c : QCell} (hk : qnew n = some k) (hc : pCode m pc = some (.newarray aty, aux)) (hz : qsz c = k)
  (hq : ∀ (h' : Heap) (a : Addr) (cA : ClassId), Arr Z h' a (newA cA (newarray.typeOf aty) n) (newarray.typeOf aty) → QCellOk Z ad h' a c)
  (h : QTri l Z n0 ad m (pc + 2, L, .ref σ.length :: S, σ ++ [c]) v σ') : QTri l Z n0 ad m (pc, L, .int n :: S, σ) v σ' := by
 have hd : decode (pBytes m) pc = .ok (.newarray aty, 2) := pDecN hc rfl
 obtain ⟨n1, n2, n3⟩ := qnew_inv hk
 refine QTri.gen h (by simp) (by simp [qhs_app]) fun p e R s mid args below meth c' T locs cells slots C hcx X hR hF hL hC hn hc1 hsl => ?_
 obtain ⟨hx, hZ, hby, hml, hret, hown, hnm, hfr, hlo⟩ := hcx
 have hd2 : decode c'.code pc = .ok (.newarray aty, 2) := by rw [hby]; exact hd
 simp only [List.length_append, List.length_singleton, Nat.add_sub_cancel_left, qgrow, hz] at hc1 hsl ⊢
 obtain ⟨T₁, h₁, cA, X₁, e₁, E₁, A₁, st⟩ := newP X hx hZ (aty := aty) (qw_arr W (newarray.typeOf aty) (mem_of_contains (show aTys.contains (newarray.typeOf aty) = true from pRest hc))) rfl (g := mkF mid pc C (.int n :: S.map (qv ad))) rfl hd2 rfl n1 (cap := k) (by omega) (by omega) hc1 hsl
 have hsz : h₁.size = T.heap.size + 1 := by
  have q1 := X₁.heapSize
  have q2 : T.heap.size < h₁.size := A₁.lt
  have q3 := hR.2.1
  rw [e₁] at q1
  have : n0 + (σ.length - k0) = s.heap.size + cells := hn
  have q3' : T.heap.size = n0 + (σ.length - k0) := q3
  omega
 refine ⟨T₁, locs, C, X₁, ?_, hF, hL, hC, fun target q => ?_⟩
 ·rw [e₁]; exact QRep.push hR Ad E₁ hsz (hq _ _ _ A₁)
 ·refine st _ ?_
  have e2 : ad σ.length = T.heap.size := by rw [Ad.1 _ hR.1]; exact hR.2.1.symm
  simp only [List.map_cons, qv, e2] at q
  exact q
set_option maxHeartbeats 4000000 in
theorem QTri.getfield (W : QW Z a0) {pc idx aux : Nat} {L : QLoc} {S : List Value} {σ : QHeap} {st' : QSt} (h : QTri l Z n0 ad m st' v σ') (hc : pCode m pc = some (.getfield idx, aux)) (hs : qget (pc + 3) L S σ aux = some st') : QTri l Z n0 ad m (pc, L, S, σ) v σ' := by
 have hd : decode (pBytes m) pc = .ok (.getfield idx, 3) := pDecN hc rfl
 obtain ⟨a, S', vs, w, rfl, hvs, hw, rfl⟩ := qget_inv hs
 have hm := mem_of_contains (show lkF.contains (pK m, idx, aux) = true from pRest hc)
 have hlt := lkF_lt _ hm
 refine QTri.pure h rfl fun p e R s mid args below meth c T locs cells slots C hcx X hR hL hC => ?_
 obtain ⟨hx, hZ, hby, hml, hret, hown, hnm, hfr, hlo⟩ := hcx
 have hd2 : decode c.code pc = .ok (.getfield idx, 3) := by rw [hby]; exact hd
 have F := (hR.2.2 _ _ hvs).2.2 aux w hlt hw
 obtain ⟨T₁, X₁, e₁, st⟩ := getF X hx hZ hown (host := "") (index := idx) (Or.inl (qw_fl W (pK m, idx, aux) hm)) Via.refl rfl F (g := mkF mid pc C (List.map (qv ad) (.ref a :: S'))) rfl rfl hd2
 exact ⟨T₁, C, X₁, e₁, hL, hC, st⟩
set_option maxHeartbeats 4000000 in
theorem QTri.putfield (Ad : QAd n0 ad) (W : QW Z a0) {pc idx aux : Nat} {L : QLoc} {S : List Value} {σ : QHeap} {st' : QSt} (h : QTri l Z n0 ad m st' v σ') (hc : pCode m pc = some (.putfield idx, aux)) (hs : qput (pc + 3) L S σ aux = some st') : QTri l Z n0 ad m (pc, L, S, σ) v σ' := by
 have hd : decode (pBytes m) pc = .ok (.putfield idx, 3) := pDecN hc rfl
 obtain ⟨w, a, S', vs, u, rfl, hvs, b1, b2, hu, rfl⟩ := qput_inv hs
 obtain ⟨r1, r2⟩ := Bool.and_eq_true_iff.mp (show (lkF.contains (pK m, idx, aux) && (!fFin aux || (pK m == 1 && pNm m == "<init>"))) = true from pRest hc)
 have hm := mem_of_contains r1
 have hlt := lkF_lt _ hm
 obtain ⟨rfl, q2, q3⟩ := qfit_inv (ad := ad) hu
 have hsz : qhs (σ.set a (Sum.inl (vs.set aux w))) = qhs σ := qhs_set hvs rfl
 refine QTri.gen h (by simp) (by show qhs σ ≤ qhs (σ.set a (Sum.inl (vs.set aux w))); rw [hsz]; exact Nat.le_refl _) fun p e R s mid args below meth c T locs cells slots C hcx X hR hF hL hC hn hc1 hsl => ?_
 obtain ⟨hx, hZ, hby, hml, hret, hown, hnm, hfr, hlo⟩ := hcx
 have hd2 : decode c.code pc = .ok (.putfield idx, 3) := by rw [hby]; exact hd
 obtain ⟨E, l1, Fs⟩ := hR.2.2 _ _ hvs
 obtain ⟨old, hold⟩ : ∃ old, vget vs aux = some old := by rw [vget_eq]; exact ⟨_, List.getElem?_eq_getElem b2⟩
 have lay : (Cond.lays cName cName (fNm aux) (fDs aux)).before a0 Z = true ∨ ((Cond.laysFinal cName cName (fNm aux) (fDs aux)).before a0 Z = true ∧ kName (pK m) = cName ∧ meth.name = "<init>") := by
  have q := (qw_lay W) aux hlt
  cases hf : fFin aux with
  | false => rw [hf] at q; exact Or.inl q
  | true =>
   rw [hf] at q r2
   simp at r2
   exact Or.inr ⟨q, by rw [r2.1]; exact kOne, by rw [hnm]; exact r2.2⟩
 obtain ⟨T₁, h₁, X₁, e₁, W₁, st⟩ := putF X hx hZ hown (host := "") (index := idx) (Or.inl (qw_fl W (pK m, idx, aux) hm)) Via.refl rfl (Fs aux old hlt hold) E lay ((qw_inst W)) (fPrs aux hlt) q2 q3 (g := mkF mid pc C (List.map (qv ad) (w :: .ref a :: S'))) rfl rfl hd2
 refine ⟨T₁, _, C, ?_, ?_, Fr.snoc X₁ hF (by rw [Ad.1 a b1]; exact Nat.le_add_right _ _), hL, hC, st⟩
 ·show Stand _ _ _ _ _ _ _ _ _ _ _ _ (cells + ((σ.set a (Sum.inl (vs.set aux w))).length - σ.length)) (slots + (qhs (σ.set a (Sum.inl (vs.set aux w))) - qhs σ))
  rw [hsz, Nat.sub_self, List.length_set, Nat.sub_self]
  exact X₁
 ·rw [e₁]
  refine QRep.set hR Ad W₁ hvs ⟨E.wr W₁, by simpa using l1, fun k u hk hu => ?_⟩
  rw [vget_set b2] at hu
  split at hu
  ·rename_i e; cases hu; rw [e]; exact (Fs aux old hlt hold).same W₁
  ·rename_i ne
   exact (Fs k u hk hu).other W₁ (Or.inr (slot_ne (laid_of W hk) (laid_of W hlt) (fun z => ne (fInj _ hk _ hlt z)) (fPrs _ hk) (fPrs _ hlt)))
theorem tyI_inv {ty : FieldType} (h : tyI ty = true) : ty = .int := by cases ty <;> simp [tyI] at h; rfl
theorem tyB_inv {ty : FieldType} (h : tyB ty = true) : ty = .boolean ∨ ty = .byte := by cases ty <;> simp [tyB] at h <;> simp
set_option maxHeartbeats 4000000 in
theorem QTri.iaload {pc aux : Nat} {L : QLoc} {S : List Value} {σ : QHeap} {st' : QSt} (h : QTri l Z n0 ad m st' v σ') (hc : pCode m pc = some (.iaload, aux)) (hs : qald (pc + 1) L S σ tyI = some st') : QTri l Z n0 ad m (pc, L, S, σ) v σ' := by
 have hd : decode (pBytes m) pc = .ok (.iaload, 1) := pDecN hc rfl
 obtain ⟨j, a, S', ty, xs, w, rfl, hx1, ht, hw, rfl⟩ := qald_inv hs
 obtain rfl := tyI_inv ht
 refine QTri.stack h fun p e R s mid args below meth c T locs cells slots C target hx hZ hby hown X hR hL k => ?_
 have hd2 : decode c.code pc = .ok (.iaload, 1) := by rw [hby]; exact hd
 obtain ⟨cl, A, hsl⟩ := hR.2.2 _ _ hx1
 obtain ⟨i1, i2⟩ := ald_in hsl hw
 exact X.iaload hx A.1 (State.isArrayOf_alike hZ.alike A.2.1) A.2.2 i1 i2 (g := mkF mid pc C (List.map (qv ad) (.int j :: .ref a :: S'))) rfl rfl hd2 _ k
set_option maxHeartbeats 4000000 in
theorem QTri.baload {pc aux : Nat} {L : QLoc} {S : List Value} {σ : QHeap} {st' : QSt} (h : QTri l Z n0 ad m st' v σ') (hc : pCode m pc = some (.baload, aux)) (hs : qald (pc + 1) L S σ tyB = some st') : QTri l Z n0 ad m (pc, L, S, σ) v σ' := by
 have hd : decode (pBytes m) pc = .ok (.baload, 1) := pDecN hc rfl
 obtain ⟨j, a, S', ty, xs, w, rfl, hx1, ht, hw, rfl⟩ := qald_inv hs
 refine QTri.stack h fun p e R s mid args below meth c T locs cells slots C target hx hZ hby hown X hR hL k => ?_
 have hd2 : decode c.code pc = .ok (.baload, 1) := by rw [hby]; exact hd
 obtain ⟨cl, A, hsl⟩ := hR.2.2 _ _ hx1
 obtain ⟨i1, i2⟩ := ald_in hsl hw
 rcases tyB_inv ht with rfl | rfl
 ·exact X.baloadBooleans hx A.1 (State.isArrayOf_alike hZ.alike A.2.1) A.2.2 i1 i2 (g := mkF mid pc C (List.map (qv ad) (.int j :: .ref a :: S'))) rfl rfl hd2 _ k
 ·exact X.baloadBytes hx A.1 (State.isArrayOf_alike hZ.alike A.2.1) A.2.2 i1 i2 (g := mkF mid pc C (List.map (qv ad) (.int j :: .ref a :: S'))) rfl rfl hd2 _ k
set_option maxHeartbeats 4000000 in
theorem QTri.laload {pc aux : Nat} {L : QLoc} {S : List Value} {σ : QHeap} {st' : QSt} (h : QTri l Z n0 ad m st' v σ') (hc : pCode m pc = some (.laload, aux)) (hs : qaldJ (pc + 1) L S σ = some st') : QTri l Z n0 ad m (pc, L, S, σ) v σ' := by
 have hd : decode (pBytes m) pc = .ok (.laload, 1) := pDecN hc rfl
 obtain ⟨j, a, S', xs, w, rfl, hx1, hw, rfl⟩ := qaldJ_inv hs
 refine QTri.stack h fun p e R s mid args below meth c T locs cells slots C target hx hZ hby hown X hR hL k => ?_
 have hd2 : decode c.code pc = .ok (.laload, 1) := by rw [hby]; exact hd
 obtain ⟨cl, A, hsl⟩ := hR.2.2 _ _ hx1
 obtain ⟨i1, i2⟩ := ald_in hsl hw
 exact X.laload hx A.1 (State.isArrayOf_alike hZ.alike A.2.1) A.2.2 i1 i2 (g := mkF mid pc C (List.map (qv ad) (.int j :: .ref a :: S'))) rfl rfl hd2 _ k
theorem QTri.stored (Ad : QAd n0 ad) {pc : Nat} {L : QLoc} {S S' : List Value} {σ : QHeap} {a j : Nat} {w : Value} {c d : QCell} (hx1 : hget σ a = some c) (b1 : k0 ≤ a) (hz : qsz d = qsz c) (h : QTri l Z n0 ad m (pc + 1, L, S', σ.set a d) v σ')
  (hs : ∀ (p : Program) (e : Env) (R : Room) (s : State) (mid : MethodId) (args : Array Value) (below : List Frame) (meth : Method) (c : Code) (T : State) (locs : List Loc) (cells slots : Nat) (C : Array Slot),
   QCx Z p R s mid meth c m → Stand p l e R s mid args below meth c T locs cells slots → QRep Z n0 ad T.heap σ →
   ∃ T' h', Stand p l e R s mid args below meth c T' (locs ++ [⟨ad a, j⟩]) cells slots ∧ T'.heap = h' ∧ Wr T.heap h' (ad a) j w ∧ QCellOk Z ad h' (ad a) d ∧ ∀ target, Steps p.tables e below (T'.setTop (mkF mid (pc + 1) C (S'.map (qv ad)))) target → Steps p.tables e below (T.setTop (mkF mid pc C (S.map (qv ad)))) target) :
  QTri l Z n0 ad m (pc, L, S, σ) v σ' := by
 have hsz : qhs (σ.set a d) = qhs σ := qhs_set hx1 hz
 refine QTri.gen h (by simp) (by show qhs σ ≤ qhs (σ.set a d); rw [hsz]; exact Nat.le_refl _) fun p e R s mid args below meth c T locs cells slots C hcx X hR hF hL hC hn hc1 hsl => ?_
 obtain ⟨T₁, h₁, X₁, e₁, W₁, Q₁, st⟩ := hs p e R s mid args below meth c T locs cells slots C hcx X hR
 refine ⟨T₁, _, C, ?_, ?_, Fr.snoc X₁ hF (by rw [Ad.1 a b1]; exact Nat.le_add_right _ _), hL, hC, st⟩
 ·show Stand _ _ _ _ _ _ _ _ _ _ _ _ (cells + ((σ.set a d).length - σ.length)) (slots + (qhs (σ.set a d) - qhs σ))
  rw [hsz, Nat.sub_self, List.length_set, Nat.sub_self]
  exact X₁
 ·rw [e₁]
  exact QRep.set hR Ad W₁ hx1 Q₁
set_option maxHeartbeats 4000000 in
theorem QTri.iastore (Ad : QAd n0 ad) {pc aux : Nat} {L : QLoc} {S : List Value} {σ : QHeap} {st' : QSt} (h : QTri l Z n0 ad m st' v σ') (hc : pCode m pc = some (.iastore, aux)) (hs : qast (pc + 1) L S σ tyI = some st') : QTri l Z n0 ad m (pc, L, S, σ) v σ' := by
 have hd : decode (pBytes m) pc = .ok (.iastore, 1) := pDecN hc rfl
 obtain ⟨w, j, a, S', ty, xs, ys, rfl, hx1, ht, b1, hw, rfl⟩ := qast_inv hs
 obtain rfl := tyI_inv ht
 refine QTri.stored Ad (j := j.toNatClampNeg) (w := .int w) hx1 b1 (by rw [(aset_inv hw).2.2]; simp [qsz]) h fun p e R s mid args below meth c T locs cells slots C hcx X hR => ?_
 have hd2 : decode c.code pc = .ok (.iastore, 1) := by rw [hcx.2.2.1]; exact hd
 obtain ⟨cl, A, hsl⟩ := hR.2.2 _ _ hx1
 obtain ⟨i1, i2⟩ := ast_in hsl hw
 obtain ⟨T₁, h₁, X₁, e₁, W₁, st⟩ := stI X hcx.1 hcx.2.1 rfl A i1 (g := mkF mid pc C (List.map (qv ad) (.int w :: .int j :: .ref a :: S'))) rfl rfl hd2
 exact ⟨T₁, h₁, X₁, e₁, W₁, ⟨_, A.same W₁, i2⟩, st⟩
set_option maxHeartbeats 4000000 in
theorem QTri.bastore (Ad : QAd n0 ad) {pc aux : Nat} {L : QLoc} {S : List Value} {σ : QHeap} {st' : QSt} (h : QTri l Z n0 ad m st' v σ') (hc : pCode m pc = some (.bastore, aux)) (hs : qast (pc + 1) L S σ tyB = some st') : QTri l Z n0 ad m (pc, L, S, σ) v σ' := by
 have hd : decode (pBytes m) pc = .ok (.bastore, 1) := pDecN hc rfl
 obtain ⟨w, j, a, S', ty, xs, ys, rfl, hx1, ht, b1, hw, rfl⟩ := qast_inv hs
 refine QTri.stored Ad (j := j.toNatClampNeg) (w := .int (qnar ty w)) hx1 b1 (by rw [(aset_inv hw).2.2]; simp [qsz]) h fun p e R s mid args below meth c T locs cells slots C hcx X hR => ?_
 have hd2 : decode c.code pc = .ok (.bastore, 1) := by rw [hcx.2.2.1]; exact hd
 obtain ⟨cl, A, hsl⟩ := hR.2.2 _ _ hx1
 obtain ⟨i1, i2⟩ := ast_in hsl hw
 rcases tyB_inv ht with rfl | rfl
 ·obtain ⟨T₁, h₁, X₁, e₁, W₁, st⟩ := stZ X hcx.1 hcx.2.1 rfl A i1 (g := mkF mid pc C (List.map (qv ad) (.int w :: .int j :: .ref a :: S'))) rfl rfl hd2
  exact ⟨T₁, h₁, X₁, e₁, W₁, ⟨_, A.same W₁, i2⟩, st⟩
 ·obtain ⟨T₁, h₁, X₁, e₁, W₁, st⟩ := stB X hcx.1 hcx.2.1 rfl A i1 (g := mkF mid pc C (List.map (qv ad) (.int w :: .int j :: .ref a :: S'))) rfl rfl hd2
  exact ⟨T₁, h₁, X₁, e₁, W₁, ⟨_, A.same W₁, i2⟩, st⟩
set_option maxHeartbeats 4000000 in
theorem QTri.lastore (Ad : QAd n0 ad) {pc aux : Nat} {L : QLoc} {S : List Value} {σ : QHeap} {st' : QSt} (h : QTri l Z n0 ad m st' v σ') (hc : pCode m pc = some (.lastore, aux)) (hs : qastJ (pc + 1) L S σ = some st') : QTri l Z n0 ad m (pc, L, S, σ) v σ' := by
 have hd : decode (pBytes m) pc = .ok (.lastore, 1) := pDecN hc rfl
 obtain ⟨w, j, a, S', xs, ys, rfl, hx1, b1, hw, rfl⟩ := qastJ_inv hs
 refine QTri.stored Ad (j := j.toNatClampNeg) (w := .long w) hx1 b1 (by rw [(aset_inv hw).2.2]; simp [qsz]) h fun p e R s mid args below meth c T locs cells slots C hcx X hR => ?_
 have hd2 : decode c.code pc = .ok (.lastore, 1) := by rw [hcx.2.2.1]; exact hd
 obtain ⟨cl, A, hsl⟩ := hR.2.2 _ _ hx1
 obtain ⟨i1, i2⟩ := ast_in hsl hw
 obtain ⟨T₁, h₁, X₁, e₁, W₁, st⟩ := stJ X hcx.1 hcx.2.1 rfl A i1 (g := mkF mid pc C (List.map (qv ad) (.long w :: .int j :: .ref a :: S'))) rfl rfl hd2
 exact ⟨T₁, h₁, X₁, e₁, W₁, ⟨_, A.same W₁, i2⟩, st⟩
set_option maxHeartbeats 4000000 in
theorem QTri.alen {pc aux : Nat} {L : QLoc} {S : List Value} {σ : QHeap} {st' : QSt} (h : QTri l Z n0 ad m st' v σ') (hc : pCode m pc = some (.arraylength, aux)) (hs : qlen (pc + 1) L S σ = some st') : QTri l Z n0 ad m (pc, L, S, σ) v σ' := by
 have hd : decode (pBytes m) pc = .ok (.arraylength, 1) := pDecN hc rfl
 obtain ⟨a, S', n, rfl, hx1, rfl⟩ := qlen_inv hs
 refine QTri.stack h fun p e R s mid args below meth c T locs cells slots C target hx hZ hby hown X hR hL k => ?_
 have hd2 : decode c.code pc = .ok (.arraylength, 1) := by rw [hby]; exact hd
 rcases hx1 with ⟨ty, xs, hx1, rfl⟩ | ⟨xs, hx1, rfl⟩
 ·obtain ⟨cl, A, hsl⟩ := hR.2.2 _ _ hx1
  have e1 : cl.slots.size = xs.length := by rw [hsl]; simp
  rw [← e1] at k
  exact X.arraylength hx A.1 (State.isArrayOf_alike hZ.alike A.2.1) (g := mkF mid pc C (List.map (qv ad) (.ref a :: S'))) rfl rfl hd2 _ k
 ·obtain ⟨cl, A, hsl⟩ := hR.2.2 _ _ hx1
  have e1 : cl.slots.size = xs.length := by rw [hsl]; simp
  rw [← e1] at k
  exact X.arraylength hx A.1 (State.isArrayOf_alike hZ.alike A.2.1) (g := mkF mid pc C (List.map (qv ad) (.ref a :: S'))) rfl rfl hd2 _ k
set_option maxHeartbeats 4000000 in
theorem QTri.newObj (Ad : QAd n0 ad) (W : QW Z a0) {pc idx aux : Nat} {L : QLoc} {S : List Value} {σ : QHeap} (h : QTri l Z n0 ad m (pc + 3, L, .ref σ.length :: S, σ ++ [.inl cDef]) v σ') (hc : pCode m pc = some (.new idx, aux)) : QTri l Z n0 ad m (pc, L, S, σ) v σ' := by
 have hd : decode (pBytes m) pc = .ok (.new idx, 3) := pDecN hc rfl
 have hm := mem_of_contains (show lkN.contains (pK m, idx) = true from pRest hc)
 refine QTri.gen h (by simp) (by simp [qhs_app]) fun p e R s mid args below meth c T locs cells slots C hcx X hR hF hL hC hn hc1 hsl => ?_
 obtain ⟨hx, hZ, hby, hml, hret, hown, hnm, hfr, hlo⟩ := hcx
 have hd2 : decode c.code pc = .ok (.new idx, 3) := by rw [hby]; exact hd
 simp only [List.length_append, List.length_singleton, Nat.add_sub_cancel_left, qgrow, qsz] at hc1 hsl ⊢
 obtain ⟨T₁, h₁, X₁, e₁, E₁, A₁, D₁, -, st⟩ := newO X hx hZ hown (index := idx) (qw_nw W (pK m, idx) hm) ((qw_inst W)) ((qw_init W)) rfl (g := mkF mid pc C (S.map (qv ad))) rfl hd2 hc1 hsl
 have hsz : h₁.size = T.heap.size + 1 := by
  have q1 := X₁.heapSize
  have q2 : T.heap.size < h₁.size := A₁.lt
  have q3 : T.heap.size = n0 + (σ.length - k0) := hR.2.1
  rw [e₁] at q1
  have : n0 + (σ.length - k0) = s.heap.size + cells := hn
  omega
 refine ⟨T₁, locs, C, X₁, ?_, hF, hL, hC, fun target q => ?_⟩
 ·rw [e₁]
  refine QRep.push hR Ad E₁ hsz ⟨A₁, cDefL, fun k u hk hu => ?_⟩
  rw [cDefs k hk] at hu
  cases hu
  have e3 : qv ad (defaultValue (fTy k)) = defaultValue (fTy k) := by
   cases hq : defaultValue (fTy k) with
   | ref a => exact absurd hq (fDef k hk a)
   | _ => rfl
  rw [e3]
  exact D₁ (laid_of W hk) (fPrs k hk)
 ·refine st _ ?_
  have e2 : ad σ.length = T.heap.size := by rw [Ad.1 _ hR.1]; exact hR.2.1.symm
  simp only [List.map_cons, qv, e2] at q
  exact q
set_option maxHeartbeats 8000000 in
theorem QTri.step (Ad : QAd n0 ad) (W : QW Z a0) {st st' : QSt} (h : QTri l Z n0 ad m st' v σ') (hs : qstep m st = some st') : QTri l Z n0 ad m st v σ' := by
 obtain ⟨pc, L, S, σ⟩ := st
 unfold qstep at hs
 dsimp only at hs
 split at hs
 rotate_left
 ·cases hs
 rename_i i aux hc
 have hd := pDecN hc rfl
 have hr := pRest hc
 unfold qexec at hs
 split at hs
 ·-- aload_n
  obtain ⟨w, h1, h2, rfl⟩ := qload_inv hs
  obtain ⟨a, rfl⟩ := isR_inv h2
  exact QTri.stack h fun p e R s mid args below meth c T locs cells slots C target hx hZ hby hown X hR hL k => XS.aloadN X.here hx rfl (hb hby hd) (hL.2.1 _ _ h1) rfl k
 ·obtain ⟨w, h1, h2, rfl⟩ := qload_inv hs
  obtain ⟨a, rfl⟩ := isR_inv h2
  exact QTri.stack h fun p e R s mid args below meth c T locs cells slots C target hx hZ hby hown X hR hL k => XS.aload X.here hx rfl (hb hby hd) (hL.2.1 _ _ h1) rfl k
 ·obtain ⟨w, h1, h2, rfl⟩ := qload_inv hs
  obtain ⟨a, rfl⟩ := isI_inv h2
  exact QTri.stack h fun p e R s mid args below meth c T locs cells slots C target hx hZ hby hown X hR hL k => XS.iloadN X.here hx rfl (hb hby hd) (hL.2.1 _ _ h1) k
 ·obtain ⟨w, h1, h2, rfl⟩ := qload_inv hs
  obtain ⟨a, rfl⟩ := isI_inv h2
  exact QTri.stack h fun p e R s mid args below meth c T locs cells slots C target hx hZ hby hown X hR hL k => XS.iload X.here hx rfl (hb hby hd) (hL.2.1 _ _ h1) k
 ·obtain ⟨w, h1, h2, rfl⟩ := qload_inv hs
  obtain ⟨a, rfl⟩ := isJ_inv h2
  exact QTri.stack h fun p e R s mid args below meth c T locs cells slots C target hx hZ hby hown X hR hL k => XT.lloadN X.here hx rfl (hb hby hd) (hL.2.1 _ _ h1) k
 ·obtain ⟨w, h1, h2, rfl⟩ := qload_inv hs
  obtain ⟨a, rfl⟩ := isJ_inv h2
  exact QTri.stack h fun p e R s mid args below meth c T locs cells slots C target hx hZ hby hown X hR hL k => XT.lload X.here hx rfl (hb hby hd) (hL.2.1 _ _ h1) k
 ·cases hs -- iconst
  exact QTri.stack h fun p e R s mid args below meth c T locs cells slots C target hx hZ hby hown X hR hL k => XS.iconst X.here hx rfl (hb hby hd) k
 ·cases hs
  exact QTri.stack h fun p e R s mid args below meth c T locs cells slots C target hx hZ hby hown X hR hL k => XS.bipush X.here hx rfl (hb hby hd) k
 ·cases hs
  exact QTri.stack h fun p e R s mid args below meth c T locs cells slots C target hx hZ hby hown X hR hL k => XS.sipush X.here hx rfl (hb hby hd) k
 ·cases hs
  exact QTri.stack h fun p e R s mid args below meth c T locs cells slots C target hx hZ hby hown X hR hL k => XT.lconst X.here hx rfl (hb hby hd) k
 ·-- ldc
  unfold qldc at hs
  split at hs
  ·rename_i w hw
   cases hs
   obtain ⟨x, hx1, hx2⟩ := qw_cI W (pK m, _, aux) (mem_of_contains (show lkC.contains (pK m, _, aux) = true from hr))
   rw [show vget cK aux = some w from hw] at hx1
   cases hx1
   exact QTri.stack h fun p e R s mid args below meth c T locs cells slots C target hx hZ hby hown X hR hL k => X.ldcI hx hown (mv hZ hx2) rfl (hb hby hd) k
  ·cases hs
 ·unfold qldc at hs
  split at hs
  ·rename_i w hw
   cases hs
   obtain ⟨x, hx1, hx2⟩ := qw_cJ W (pK m, _, aux) (mem_of_contains (show lkD.contains (pK m, _, aux) = true from hr))
   rw [show vget cK aux = some w from hw] at hx1
   cases hx1
   exact QTri.stack h fun p e R s mid args below meth c T locs cells slots C target hx hZ hby hown X hR hL k => X.ldc2J hx hown (mv hZ hx2) rfl (hb hby hd) k
  ·cases hs
 ·-- istore_n
  obtain ⟨w, S', L', rfl, h2, h3, rfl⟩ := qstore_inv hs
  obtain ⟨a, rfl⟩ := isI_inv h2
  exact QTri.frame h fun p e R s mid args below meth c T locs cells slots C hcx X hR hL hC => by
   obtain ⟨D, d1, d2, d3⟩ := store_ok hL h3
   exact ⟨D, d2, d3.trans hC, fun target k => XS.istoreN X.here hcx.1 rfl (hb hcx.2.2.1 hd) rfl d1 k⟩
 ·obtain ⟨w, S', L', rfl, h2, h3, rfl⟩ := qstore_inv hs
  obtain ⟨a, rfl⟩ := isI_inv h2
  exact QTri.frame h fun p e R s mid args below meth c T locs cells slots C hcx X hR hL hC => by
   obtain ⟨D, d1, d2, d3⟩ := store_ok hL h3
   exact ⟨D, d2, d3.trans hC, fun target k => XS.istore X.here hcx.1 rfl (hb hcx.2.2.1 hd) rfl d1 k⟩
 ·obtain ⟨w, S', L', rfl, h2, h3, rfl⟩ := qstore_inv hs
  obtain ⟨a, rfl⟩ := isJ_inv h2
  exact QTri.frame h fun p e R s mid args below meth c T locs cells slots C hcx X hR hL hC => by
   obtain ⟨D, d1, d2, d3⟩ := store_ok hL h3
   exact ⟨D, d2, d3.trans hC, fun target k => XT.lstoreN X.here hcx.1 rfl (hb hcx.2.2.1 hd) rfl d1 k⟩
 ·obtain ⟨w, S', L', rfl, h2, h3, rfl⟩ := qstore_inv hs
  obtain ⟨a, rfl⟩ := isJ_inv h2
  exact QTri.frame h fun p e R s mid args below meth c T locs cells slots C hcx X hR hL hC => by
   obtain ⟨D, d1, d2, d3⟩ := store_ok hL h3
   exact ⟨D, d2, d3.trans hC, fun target k => XT.lstore X.here hcx.1 rfl (hb hcx.2.2.1 hd) rfl d1 k⟩
 ·obtain ⟨w, S', L', rfl, h2, h3, rfl⟩ := qstore_inv hs
  obtain ⟨a, rfl⟩ := isR_inv h2
  exact QTri.frame h fun p e R s mid args below meth c T locs cells slots C hcx X hR hL hC => by
   obtain ⟨D, d1, d2, d3⟩ := store_ok hL h3
   exact ⟨D, d2, d3.trans hC, fun target k => XS.astoreN X.here hcx.1 rfl (hb hcx.2.2.1 hd) rfl rfl d1 k⟩
 ·obtain ⟨w, S', L', rfl, h2, h3, rfl⟩ := qstore_inv hs
  obtain ⟨a, rfl⟩ := isR_inv h2
  exact QTri.frame h fun p e R s mid args below meth c T locs cells slots C hcx X hR hL hC => by
   obtain ⟨D, d1, d2, d3⟩ := store_ok hL h3
   exact ⟨D, d2, d3.trans hC, fun target k => XS.astore X.here hcx.1 rfl (hb hcx.2.2.1 hd) rfl rfl d1 k⟩
 ·-- iinc
  unfold qinc at hs
  split at hs
  ·rename_i x hx1
   split at hs
   ·rename_i L' hL'
    cases hs
    exact QTri.frame h fun p e R s mid args below meth c T locs cells slots C hcx X hR hL hC => by
     obtain ⟨D, d1, d2, d3⟩ := store_ok hL hL'
     exact ⟨D, d2, d3.trans hC, fun target k => XS.iinc X.here hcx.1 rfl (hb hcx.2.2.1 hd) (hL.2.1 _ _ hx1) d1 k⟩
   ·cases hs
  ·cases hs
 ·obtain ⟨x, y, S', rfl, rfl⟩ := qbin_inv hs -- iadd
  exact QTri.stack h fun p e R s mid args below meth c T locs cells slots C target hx hZ hby hown X hR hL k => XS.iadd X.here hx rfl (hb hby hd) rfl k
 ·obtain ⟨x, y, S', rfl, rfl⟩ := qbin_inv hs
  exact QTri.stack h fun p e R s mid args below meth c T locs cells slots C target hx hZ hby hown X hR hL k => XS.isub X.here hx rfl (hb hby hd) rfl k
 ·obtain ⟨x, y, S', rfl, rfl⟩ := qbin_inv hs
  exact QTri.stack h fun p e R s mid args below meth c T locs cells slots C target hx hZ hby hown X hR hL k => XS.imul X.here hx rfl (hb hby hd) rfl k
 ·obtain ⟨x, y, S', rfl, rfl⟩ := qbin_inv hs
  exact QTri.stack h fun p e R s mid args below meth c T locs cells slots C target hx hZ hby hown X hR hL k => XS.iand X.here hx rfl (hb hby hd) rfl k
 ·obtain ⟨x, y, S', rfl, rfl⟩ := qbin_inv hs
  exact QTri.stack h fun p e R s mid args below meth c T locs cells slots C target hx hZ hby hown X hR hL k => XT.ior X.here hx rfl (hb hby hd) rfl k
 ·obtain ⟨x, y, S', rfl, rfl⟩ := qbin_inv hs
  exact QTri.stack h fun p e R s mid args below meth c T locs cells slots C target hx hZ hby hown X hR hL k => XT.ixor X.here hx rfl (hb hby hd) rfl k
 ·obtain ⟨x, y, S', rfl, rfl⟩ := qbin_inv hs
  exact QTri.stack h fun p e R s mid args below meth c T locs cells slots C target hx hZ hby hown X hR hL k => XT.ishl X.here hx rfl (hb hby hd) rfl k
 ·obtain ⟨x, y, S', rfl, rfl⟩ := qbin_inv hs
  exact QTri.stack h fun p e R s mid args below meth c T locs cells slots C target hx hZ hby hown X hR hL k => XT.ishr X.here hx rfl (hb hby hd) rfl k
 ·obtain ⟨x, y, S', rfl, rfl⟩ := qbin_inv hs
  exact QTri.stack h fun p e R s mid args below meth c T locs cells slots C target hx hZ hby hown X hR hL k => XT.iushr X.here hx rfl (hb hby hd) rfl k
 ·obtain ⟨x, y, z, S', rfl, hz, rfl⟩ := qbino_inv hs -- idiv
  unfold qdiv at hz
  split at hz
  ·cases hz
  ·rename_i hy
   cases hz
   exact QTri.stack h fun p e R s mid args below meth c T locs cells slots C target hx hZ hby hown X hR hL k => XS.idiv X.here hx rfl (hb hby hd) rfl hy k
 ·obtain ⟨x, y, z, S', rfl, hz, rfl⟩ := qbino_inv hs
  unfold qrem at hz
  split at hz
  ·cases hz
  ·rename_i hy
   cases hz
   exact QTri.stack h fun p e R s mid args below meth c T locs cells slots C target hx hZ hby hown X hR hL k => iremM X hx rfl (hb hby hd) rfl hy k
 ·obtain ⟨x, S', rfl, rfl⟩ := quni_inv hs -- ineg
  exact QTri.stack h fun p e R s mid args below meth c T locs cells slots C target hx hZ hby hown X hR hL k => XS.ineg X.here hx rfl (hb hby hd) rfl k
 ·obtain ⟨x, S', rfl, rfl⟩ := quni_inv hs
  exact QTri.stack h fun p e R s mid args below meth c T locs cells slots C target hx hZ hby hown X hR hL k => XT.i2l X.here hx rfl (hb hby hd) rfl k
 ·obtain ⟨x, S', rfl, rfl⟩ := quni_inv hs
  exact QTri.stack h fun p e R s mid args below meth c T locs cells slots C target hx hZ hby hown X hR hL k => XT.i2b X.here hx rfl (hb hby hd) rfl k
 ·obtain ⟨x, S', rfl, rfl⟩ := quniJ_inv hs
  exact QTri.stack h fun p e R s mid args below meth c T locs cells slots C target hx hZ hby hown X hR hL k => XT.l2i X.here hx rfl (hb hby hd) rfl k
 ·obtain ⟨x, S', rfl, rfl⟩ := quniJ_inv hs
  exact QTri.stack h fun p e R s mid args below meth c T locs cells slots C target hx hZ hby hown X hR hL k => XT.lneg X.here hx rfl (hb hby hd) rfl k
 ·obtain ⟨x, y, S', rfl, rfl⟩ := qbinJ_inv hs
  exact QTri.stack h fun p e R s mid args below meth c T locs cells slots C target hx hZ hby hown X hR hL k => XT.ladd X.here hx rfl (hb hby hd) rfl k
 ·obtain ⟨x, y, S', rfl, rfl⟩ := qbinJ_inv hs
  exact QTri.stack h fun p e R s mid args below meth c T locs cells slots C target hx hZ hby hown X hR hL k => XT.lsub X.here hx rfl (hb hby hd) rfl k
 ·obtain ⟨x, y, S', rfl, rfl⟩ := qbinJ_inv hs
  exact QTri.stack h fun p e R s mid args below meth c T locs cells slots C target hx hZ hby hown X hR hL k => XT.lmul X.here hx rfl (hb hby hd) rfl k
 ·obtain ⟨x, y, S', rfl, rfl⟩ := qbinJ_inv hs
  exact QTri.stack h fun p e R s mid args below meth c T locs cells slots C target hx hZ hby hown X hR hL k => XT.land X.here hx rfl (hb hby hd) rfl k
 ·obtain ⟨x, y, S', rfl, rfl⟩ := qbinJ_inv hs
  exact QTri.stack h fun p e R s mid args below meth c T locs cells slots C target hx hZ hby hown X hR hL k => XT.lor X.here hx rfl (hb hby hd) rfl k
 ·obtain ⟨x, y, S', rfl, rfl⟩ := qbinJ_inv hs
  exact QTri.stack h fun p e R s mid args below meth c T locs cells slots C target hx hZ hby hown X hR hL k => XT.lxor X.here hx rfl (hb hby hd) rfl k
 ·obtain ⟨x, y, S', rfl, rfl⟩ := qshJ_inv hs
  exact QTri.stack h fun p e R s mid args below meth c T locs cells slots C target hx hZ hby hown X hR hL k => XT.lshl X.here hx rfl (hb hby hd) rfl k
 ·obtain ⟨x, y, S', rfl, rfl⟩ := qshJ_inv hs
  exact QTri.stack h fun p e R s mid args below meth c T locs cells slots C target hx hZ hby hown X hR hL k => XT.lshr X.here hx rfl (hb hby hd) rfl k
 ·obtain ⟨x, y, S', rfl, rfl⟩ := qshJ_inv hs
  exact QTri.stack h fun p e R s mid args below meth c T locs cells slots C target hx hZ hby hown X hR hL k => XT.lushr X.here hx rfl (hb hby hd) rfl k
 ·split at hs -- lcmp
  ·cases hs
   exact QTri.stack h fun p e R s mid args below meth c T locs cells slots C target hx hZ hby hown X hR hL k => XT.lcmp X.here hx rfl (hb hby hd) rfl k
  ·cases hs
 ·cases hs -- goto
  obtain ⟨t1, t2⟩ := qtgt_spec hr
  exact QTri.stack h fun p e R s mid args below meth c T locs cells slots C target hx hZ hby hown X hR hL k => XS.goto X.here hx rfl rfl (hb hby hd) t1 t2 k
 ·obtain ⟨x, S', rfl, rfl⟩ := qif_inv hs
  obtain ⟨t1, t2⟩ := qtgt_spec hr
  cases hh : ifCond.holds _ x with
  | true => rw [hh] at h; exact QTri.stack h fun p e R s mid args below meth c T locs cells slots C target hx hZ hby hown X hR hL k => XS.ifYes X.here hx rfl rfl (hb hby hd) rfl hh t1 t2 k
  | false => rw [hh] at h; exact QTri.stack h fun p e R s mid args below meth c T locs cells slots C target hx hZ hby hown X hR hL k => XS.ifNo X.here hx rfl (hb hby hd) rfl hh k
 ·obtain ⟨x, y, S', rfl, rfl⟩ := qicmp_inv hs
  obtain ⟨t1, t2⟩ := qtgt_spec hr
  cases hh : if_icmp.holds _ x y with
  | true => rw [hh] at h; exact QTri.stack h fun p e R s mid args below meth c T locs cells slots C target hx hZ hby hown X hR hL k => XS.icmpYes X.here hx rfl rfl (hb hby hd) rfl hh t1 t2 k
  | false => rw [hh] at h; exact QTri.stack h fun p e R s mid args below meth c T locs cells slots C target hx hZ hby hown X hR hL k => XS.icmpNo X.here hx rfl (hb hby hd) rfl hh k
 ·unfold qdup at hs
  split at hs
  ·cases hs
   exact QTri.stack h fun p e R s mid args below meth c T locs cells slots C target hx hZ hby hown X hR hL k => XS.dup X.here hx rfl (hb hby hd) rfl rfl k
  ·cases hs
   exact QTri.stack h fun p e R s mid args below meth c T locs cells slots C target hx hZ hby hown X hR hL k => XS.dup X.here hx rfl (hb hby hd) rfl rfl k
  ·cases hs
 ·unfold qdup2 at hs
  split at hs
  ·cases hs
   exact QTri.stack h fun p e R s mid args below meth c T locs cells slots C target hx hZ hby hown X hR hL k => XT.dup2 X.here hx rfl (hb hby hd) rfl rfl rfl k
  ·cases hs
   exact QTri.stack h fun p e R s mid args below meth c T locs cells slots C target hx hZ hby hown X hR hL k => XT.dup2 X.here hx rfl (hb hby hd) rfl rfl rfl k
  ·cases hs
   exact QTri.stack h fun p e R s mid args below meth c T locs cells slots C target hx hZ hby hown X hR hL k => XT.dup2L X.here hx rfl (hb hby hd) rfl k
  ·cases hs
 ·unfold qpop at hs
  split at hs
  ·cases hs
   exact QTri.stack h fun p e R s mid args below meth c T locs cells slots C target hx hZ hby hown X hR hL k => XT.pop X.here hx rfl (hb hby hd) rfl rfl k
  ·cases hs
   exact QTri.stack h fun p e R s mid args below meth c T locs cells slots C target hx hZ hby hown X hR hL k => XT.pop X.here hx rfl (hb hby hd) rfl rfl k
  ·cases hs
 ·exact QTri.getfield W h hc hs
 ·exact QTri.putfield Ad W h hc hs
 ·exact QTri.iaload h hc hs
 ·exact QTri.baload h hc hs
 ·exact QTri.laload h hc hs
 ·exact QTri.iastore Ad h hc hs
 ·exact QTri.bastore Ad h hc hs
 ·exact QTri.lastore Ad h hc hs
 ·exact QTri.alen h hc hs
 ·-- newarray
  unfold qnewA at hs
  split at hs
  ·split at hs
   ·obtain ⟨k, hk, hs⟩ := Option.bind_eq_some_iff.mp hs
    cases hs
    exact QTri.newArr (c := .inr (.inl (.int, List.replicate k 0))) Ad W hk hc (by simp [qsz]) (fun h' a cA A => ⟨_, A, by simp [newA, (qnew_inv hk).2.1]; exact Or.inr rfl⟩) h
   ·obtain ⟨k, hk, hs⟩ := Option.bind_eq_some_iff.mp hs
    cases hs
    exact QTri.newArr (c := .inr (.inl (.boolean, List.replicate k 0))) Ad W hk hc (by simp [qsz]) (fun h' a cA A => ⟨_, A, by simp [newA, (qnew_inv hk).2.1]; exact Or.inr rfl⟩) h
   ·obtain ⟨k, hk, hs⟩ := Option.bind_eq_some_iff.mp hs
    cases hs
    exact QTri.newArr (c := .inr (.inl (.byte, List.replicate k 0))) Ad W hk hc (by simp [qsz]) (fun h' a cA A => ⟨_, A, by simp [newA, (qnew_inv hk).2.1]; exact Or.inr rfl⟩) h
   ·obtain ⟨k, hk, hs⟩ := Option.bind_eq_some_iff.mp hs
    cases hs
    exact QTri.newArr (c := .inr (.inr (List.replicate k 0))) Ad W hk hc (by simp [qsz]) (fun h' a cA A => ⟨_, A, by simp [newA, (qnew_inv hk).2.1]; exact Or.inr rfl⟩) h
   ·cases hs
  ·cases hs
 ·cases hs; exact QTri.newObj Ad W h hc
 ·cases hs
theorem QTri.steps (Ad : QAd n0 ad) (W : QW Z a0) : ∀ (n : Nat) {st st' : QSt}, qsteps m n st = some st' → QTri l Z n0 ad m st' v σ' → QTri l Z n0 ad m st v σ'
 | 0, st, st', h, k => by cases h; exact k
 | n + 1, st, st', h, k => by
  simp only [qsteps] at h
  split at h
  ·rename_i st₁ h1
   exact QTri.step Ad W (QTri.steps Ad W n h k) h1
  ·cases h
def lmask : List Bool → QLoc → QLoc
 | b :: t, x :: u => (bif b then x else none) :: lmask t u
 | _, L => L.map fun _ => none
theorem lmask_len : ∀ (b : List Bool) (L : QLoc), (lmask b L).length = L.length
 | [], L => by simp [lmask]
 | _ :: _, [] => by simp [lmask]
 | _ :: t, _ :: u => by simp [lmask, lmask_len t u]
theorem lmask_get : ∀ (b : List Bool) (L : QLoc) (k : Nat) (v : Value), lget (lmask b L) k = some v → lget L k = some v
 | [], L, k, v, h => by
  simp only [lmask, lget_eq, List.getElem?_map] at h
  cases hq : L[k]? <;> simp [hq] at h
 | _ :: _, [], k, v, h => by simp [lmask, lget] at h
 | b :: t, x :: u, 0, v, h => by
  simp only [lmask, lget] at h ⊢
  cases b
  ·cases h
  ·exact h
 | b :: t, x :: u, k + 1, v, h => by
  simp only [lmask, lget] at h ⊢
  exact lmask_get t u k v h
theorem QTri.mask {pc : Nat} {L : QLoc} {S : List Value} {σ : QHeap} (b : List Bool) (h : QTri l Z n0 ad m (pc, lmask b L, S, σ) v σ') : QTri l Z n0 ad m (pc, L, S, σ) v σ' :=
 QTri.frame h fun p e R s mid args below meth c T locs cells slots C hcx X hR hL hC => ⟨C, ⟨by rw [lmask_len]; exact hL.1, fun k u hk => hL.2.1 k u (lmask_get b L k u hk), hL.2.2⟩, hC, fun target k => k⟩
theorem QTri.ret0 {pc aux : Nat} {L : QLoc} {σ : QHeap} (hc : pCode m pc = some (.return_, aux)) (hr : pRet m = none) : QTri l Z n0 ad m (pc, L, [], σ) none σ :=
 have hd : decode (pBytes m) pc = .ok (.return_, 1) := pDecN hc rfl
 ⟨Nat.le_refl _, Nat.le_refl _, fun p e R s mid args below meth c T locs cells slots C hcx X hR hF hL hC hn hc1 hsl => ⟨T, locs, by simpa using X, hR, hF, fun fs hf => X.returnOut hcx.1 (hcx.2.2.2.2.1.trans hr) (hb hcx.2.2.1 hd) hf⟩⟩
theorem QTri.retI {pc aux : Nat} {L : QLoc} {S : List Value} {σ : QHeap} {x : Int32} (hc : pCode m pc = some (.ireturn, aux)) (hr : pRet m = some .int) : QTri l Z n0 ad m (pc, L, .int x :: S, σ) (some (.int x)) σ :=
 have hd : decode (pBytes m) pc = .ok (.ireturn, 1) := pDecN hc rfl
 ⟨Nat.le_refl _, Nat.le_refl _, fun p e R s mid args below meth c T locs cells slots C hcx X hR hF hL hC hn hc1 hsl => ⟨T, locs, by simpa using X, hR, hF, fun fs hf => Jvm.RoadKit.retI X hcx.1 (hcx.2.2.2.2.1.trans hr) (hb hcx.2.2.1 hd) hf⟩⟩
theorem QTri.retZ {pc aux : Nat} {L : QLoc} {S : List Value} {σ : QHeap} {x : Int32} (hc : pCode m pc = some (.ireturn, aux)) (hr : pRet m = some .boolean) : QTri l Z n0 ad m (pc, L, .int x :: S, σ) (some (.int (x &&& 1))) σ :=
 have hd : decode (pBytes m) pc = .ok (.ireturn, 1) := pDecN hc rfl
 ⟨Nat.le_refl _, Nat.le_refl _, fun p e R s mid args below meth c T locs cells slots C hcx X hR hF hL hC hn hc1 hsl => ⟨T, locs, by simpa using X, hR, hF, fun fs hf => retN X hcx.1 (t := .boolean) (hcx.2.2.2.2.1.trans hr) (by simp) (hb hcx.2.2.1 hd) hf⟩⟩
theorem QTri.retJ {pc aux : Nat} {L : QLoc} {S : List Value} {σ : QHeap} {x : Int64} (hc : pCode m pc = some (.lreturn, aux)) (hr : pRet m = some .long) : QTri l Z n0 ad m (pc, L, .long x :: S, σ) (some (.long x)) σ :=
 have hd : decode (pBytes m) pc = .ok (.lreturn, 1) := pDecN hc rfl
 ⟨Nat.le_refl _, Nat.le_refl _, fun p e R s mid args below meth c T locs cells slots C hcx X hR hF hL hC hn hc1 hsl => ⟨T, locs, by simpa using X, hR, hF, fun fs hf => retOut X hcx.1 (t := .long) (hcx.2.2.2.2.1.trans hr) rfl (Or.inr (Or.inl ⟨rfl, rfl, _, rfl⟩)) (hb hcx.2.2.1 hd) hf⟩⟩
def LOk (ad : Nat → Addr) (L : QLoc) (C : List Slot) : Prop :=
 L.length = C.length ∧ (∀ k v, lget L k = some v → C[k]? = some (.val (qv ad v))) ∧ (∀ k w, C[k]? = some (.val w) → w.category = 2 → C[k + 1]? = some .second) ∧ ∀ k, C[k]? = some .second → ∃ j w, k = j + 1 ∧ C[j]? = some (.val w) ∧ w.category = 2
theorem LOk.base (ad : Nat → Addr) (n : Nat) : LOk ad (List.replicate n none) (List.replicate n .unset) := by
 refine ⟨by simp, fun k u h => ?_, fun k w h => ?_, fun k h => ?_⟩
 ·rw [lget_eq] at h
  rcases Nat.lt_or_ge k n with q | q
  ·simp [List.getElem?_replicate, q] at h
  ·simp [List.getElem?_eq_none, q] at h
 ·rcases Nat.lt_or_ge k n with q | q
  ·simp [List.getElem?_replicate, q] at h
  ·simp [List.getElem?_eq_none, q] at h
 ·rcases Nat.lt_or_ge k n with q | q
  ·simp [List.getElem?_replicate, q] at h
  ·simp [List.getElem?_eq_none, q] at h
theorem LOk.one {L : QLoc} {C : List Slot} (H : LOk ad L C) {u : Value} (hu : u.category = 1) : LOk ad (some u :: L) (.val (qv ad u) :: C) := by
 obtain ⟨h1, h2, h3, h4⟩ := H
 refine ⟨by simp [h1], fun k w h => ?_, fun k w h hw => ?_, fun k h => ?_⟩
 ·cases k with
  | zero => simp only [lget] at h; cases h; simp
  | succ k => simp only [lget] at h; simpa using h2 k w h
 ·cases k with
  | zero => simp at h; rw [← h, qv_cat, hu] at hw; cases hw
  | succ k => simpa using h3 k w (by simpa using h) hw
 ·cases k with
  | zero => simp at h
  | succ k =>
   obtain ⟨j, w, z1, z2, z3⟩ := h4 k (by simpa using h)
   exact ⟨j + 1, w, by omega, by simpa using z2, z3⟩
theorem LOk.two {L : QLoc} {C : List Slot} (H : LOk ad L C) {u : Value} (hu : u.category = 2) : LOk ad (some u :: none :: L) (.val (qv ad u) :: .second :: C) := by
 obtain ⟨h1, h2, h3, h4⟩ := H
 refine ⟨by simp [h1], fun k w h => ?_, fun k w h hw => ?_, fun k h => ?_⟩
 ·rcases k with _ | _ | k
  ·simp only [lget] at h; cases h; simp
  ·simp [lget] at h
  ·simp only [lget] at h; simpa using h2 k w h
 ·rcases k with _ | _ | k
  ·simp
  ·simp at h
  ·simpa using h3 k w (by simpa using h) hw
 ·rcases k with _ | _ | k
  ·simp at h
  ·exact ⟨0, qv ad u, rfl, by simp, by rw [qv_cat]; exact hu⟩
  ·obtain ⟨j, w, z1, z2, z3⟩ := h4 k (by simpa using h)
   exact ⟨j + 2, w, by omega, by simpa using z2, z3⟩
def slotsOf (u : Value) : List Slot := if u.category = 2 then [.val u, .second] else [.val u]
theorem fold_slots : ∀ (as : List Value) (acc : Array Slot), (as.foldl (fun acc v => if v.category = 2 then (acc.push (.val v)).push .second else acc.push (.val v)) acc).toList = acc.toList ++ as.flatMap slotsOf
 | [], acc => by simp
 | u :: t, acc => by
  rw [List.foldl_cons, fold_slots t]
  by_cases hc : u.category = 2 <;> simp [slotsOf, hc]
theorem slots_len : ∀ (as : List Value), (as.flatMap slotsOf).length = (as.map fun v => v.category).sum
 | [] => rfl
 | u :: t => by
  rw [List.flatMap_cons, List.length_append, slots_len t, List.map_cons, List.sum_cons]
  cases u <;> simp [slotsOf, Value.category]
theorem cats_qv (as : List Value) : ((as.map (qv ad)).map fun v => v.category).sum = (as.map fun v => v.category).sum := by
 rw [List.map_map]
 congr 1
 exact List.map_congr_left fun x _ => qv_cat ad x
theorem entry_list : ∀ (as : List Value) (n : Nat), LOk ad ((as.flatMap fun v => match v with | .long x => [some (.long x), none] | .double x => [some (.double x), none] | v => [some v]) ++ List.replicate n none) ((as.map (qv ad)).flatMap slotsOf ++ List.replicate n .unset)
 | [], n => by simpa using LOk.base ad n
 | u :: t, n => by
  have ih := entry_list t n
  cases u with
  | long x => exact LOk.two ih rfl
  | double x => exact LOk.two ih rfl
  | int x => exact LOk.one ih rfl
  | float x => exact LOk.one ih rfl
  | null => exact LOk.one ih rfl
  | ref x => exact LOk.one ih rfl
  | retAddr x => exact LOk.one ih rfl
theorem qentry_ok (as : List Value) (mx : Nat) (h : (as.map fun v => v.category).sum ≤ mx) : QLocOk ad (qentry as mx) (argsToLocals (as.map (qv ad)).toArray mx) ∧ (argsToLocals (as.map (qv ad)).toArray mx).size = mx := by
 have e : (argsToLocals (as.map (qv ad)).toArray mx).toList = (as.map (qv ad)).flatMap slotsOf ++ List.replicate (mx - (as.map fun v => v.category).sum) .unset := by
  unfold argsToLocals
  have q := fold_slots (as.map (qv ad)) #[]
  simp only [List.foldl_toArray', Array.toList_append, Array.toList_replicate]
  have q2 : ((as.map (qv ad)).foldl (fun (acc : Array Slot) (v : Value) => if v.category = 2 then (acc.push (.val v)).push .second else acc.push (.val v)) #[]).size = (as.map fun v => v.category).sum := by
   rw [← Array.length_toList, q]
   simp only [List.nil_append]
   rw [slots_len, cats_qv]
  rw [q, q2]
  simp
 have H := entry_list (ad := ad) as (mx - (as.map fun v => v.category).sum)
 rw [← e] at H
 obtain ⟨h1, h2, h3, h4⟩ := H
 have hs : (argsToLocals (as.map (qv ad)).toArray mx).size = mx := by
  rw [← Array.length_toList, e, List.length_append, slots_len, cats_qv, List.length_replicate]
  omega
 refine ⟨⟨h1.trans Array.length_toList, fun k u hk => ?_, fun k w hk hw => ?_, fun k hk => ?_⟩, hs⟩
 ·have := h2 k u hk; rwa [Array.getElem?_toList] at this
 ·have := h3 k w (by rw [Array.getElem?_toList]; exact hk) hw; rwa [Array.getElem?_toList] at this
 ·obtain ⟨j, w, z1, z2, z3⟩ := h4 k (by rw [Array.getElem?_toList]; exact hk)
  exact ⟨j, w, z1, by rwa [Array.getElem?_toList] at z2, z3⟩
set_option maxHeartbeats 4000000 in
theorem QTri.met {k : Nat} {as : List Value} {σ σ₁ : QHeap} {w : Option Value} {h0 : Heap} (hk : k < pN) (h : QTri l Z n0 ad k (0, qentry as (pMaxL k), [], σ) w σ₁) (hR : QRep Z n0 ad h0 σ) (hlen : (as.map fun v => v.category).sum ≤ pMaxL k) (hret : pRet k = none → w = none) (ws : List Jvm.Cond) {rm : Room}
  (r1 : pFr k ≤ rm.frames) (r2 : pLo k ≤ rm.locals) (r3 : σ₁.length - σ.length ≤ rm.cells) (r4 : qhs σ₁ - qhs σ ≤ rm.slots) :
  MetFree l (pName k) (head1 (Jvm.Cond.code (pName k) (pBytes k) (pMaxL k) (pRet k) :: ws) rm) (fun a U => a = (as.map (qv ad)).toArray ∧ Z.Warmed39 U.vm ∧ U.heap = h0) (fun _ _ _ _ _ => True)
   (fun _ U o U' => ∃ v L, o = .returned v ∧ (v = w.map (qv ad) ∧ QRep Z n0 ad U'.heap σ₁ ∧ Fr n0 L) ∧ FrameEnd U o U' L (σ₁.length - σ.length) (qhs σ₁ - qhs σ)) := by
 refine MetFree.of_bodySF (plainFor_of_name (kPlain _ (pKlt k hk))) hisR ?_
 intro p e s mid args below meth c s₁ Bd hml0 hP hK
 obtain ⟨rfl, hZ, hh⟩ := hP
 have e0 : s₁.heap = h0 := by rw [← hh, Bd.state]; rfl
 obtain ⟨hl1, hl2⟩ := qentry_ok (ad := ad) as (pMaxL k) hlen
 have hX : Stand p l e rm s mid (as.map (qv ad)).toArray below meth c s₁ [] 0 0 := Stand.of_body Bd
 obtain ⟨T', locs', X', R', F', S'⟩ := h.2.2 p e rm s mid _ below meth c s₁ [] 0 0 _ ⟨Bd.exec, hZ, Bd.bytes, hml0, Bd.returns, findClass_of_methodNamed Bd.named, (name_of_methodNamed Bd.named Bd.method).1, r1, r2⟩ hX (by rw [e0]; exact hR) (Fr.nil _) hl1 (hl2.trans hml0.symm) (by rw [hh, Nat.add_zero]; exact hR.2.1.symm) (by rw [Nat.zero_add]; exact r3) (by rw [Nat.zero_add]; exact r4)
 obtain ⟨fs, hr, hrun, hended, hW, hsame⟩ := X'.leave (v := w.map (qv ad)) (fun q => by rw [hret (Bd.returns.symm.trans q)]; rfl)
 refine ⟨_, _, S' fs hr, hrun, hended, _, _, rfl, ⟨rfl, R', F'⟩, ⟨_, rfl⟩, hW, ?_⟩
 simp only [Nat.zero_add] at hsame
 exact hsame
theorem QTri.room {k : Nat} {σ σ₁ : QHeap} {rest : List Value} {R : Room} (hroom : (Nat.ble (pFr k + 1) (pFr m) && Nat.ble ((rest.map fun v => v.category).sum + (pMaxL k + 11) + pLo k) (pLo m)) = true) (hfr : pFr m ≤ R.frames) (hlo : pLo m ≤ R.locals) :
  pFr k + 1 ≤ R.frames ∧ (rest.map fun v => v.category).sum + (pMaxL k + 11) + pLo k ≤ R.locals := by
 obtain ⟨q1, q2⟩ := Bool.and_eq_true_iff.mp hroom
 exact ⟨Nat.le_trans (Nat.le_of_ble_eq_true q1) hfr, Nat.le_trans (Nat.le_of_ble_eq_true q2) hlo⟩
theorem sig_len {k : Nat} (hk : k < pN) {as : List Value} (hna : as.length = pNA k) : ∀ sig, parseMethodDescriptor (pName k).desc = some sig → (as.map (qv ad)).length = sig.parameters.length := fun sig hs => by
 have q := pSig k hk
 rw [show parseMethodDescriptor (pDs k) = some sig from hs] at q
 simp at q
 simp [hna, q]
theorem ret_map (w : Option Value) (rest : List Value) : (w.toList ++ rest).map (qv ad) = (w.map (qv ad)).toList ++ rest.map (qv ad) := by cases w <;> simp
theorem QTri.after {as0 : List Value} {pc : Nat} {L : QLoc} {S rest : List Value} {σ σ₁ : QHeap} {w : Option Value} {k : Nat} (hcal : QTri l Z n0 ad k (0, qentry as0 (pMaxL k), [], σ) w σ₁) (h : QTri l Z n0 ad m (pc + 3, L, w.toList ++ rest, σ₁) v σ')
  (hs : ∀ (p : Program) (e : Env) (R : Room) (s : State) (mid : MethodId) (args : Array Value) (below : List Frame) (meth : Method) (c : Code) (T : State) (locs : List Loc) (cells slots : Nat) (C : Array Slot),
   QCx Z p R s mid meth c m → Stand p l e R s mid args below meth c T locs cells slots → QRep Z n0 ad T.heap σ → C.size = c.maxLocals → cells + (σ₁.length - σ.length) ≤ R.cells → slots + (qhs σ₁ - qhs σ) ≤ R.slots →
   ∃ T₁ Lc, Stand p l e R s mid args below meth c T₁ (locs ++ Lc) (cells + (σ₁.length - σ.length)) (slots + (qhs σ₁ - qhs σ)) ∧ QRep Z n0 ad T₁.heap σ₁ ∧ Fr n0 Lc ∧
    ∀ target, Steps p.tables e below (T₁.setTop (mkF mid (pc + 3) C ((w.map (qv ad)).toList ++ rest.map (qv ad)))) target → Steps p.tables e below (T.setTop (mkF mid pc C (S.map (qv ad)))) target) :
  QTri l Z n0 ad m (pc, L, S, σ) v σ' := by
 refine QTri.gen h hcal.1 hcal.2.1 fun p e R s mid args below meth c T locs cells slots C hcx X hR hF hL hC hn hc1 hsl => ?_
 obtain ⟨T₁, Lc, X₁, R₁, F₁, st⟩ := hs p e R s mid args below meth c T locs cells slots C hcx X hR hC hc1 hsl
 refine ⟨T₁, locs ++ Lc, C, X₁, R₁, hF.app F₁, hL, hC, fun target q => st target ?_⟩
 rw [← ret_map]
 exact q
set_option maxHeartbeats 4000000 in
theorem QTri.callV (W : QW Z a0) {pc idx k a : Nat} {L : QLoc} {S as rest vs : List Value} {σ σ₁ : QHeap} {w : Option Value} (hc : pCode m pc = some (.invokevirtual idx, k)) (hm : (lkV.contains (pK m, idx, k) && mV.contains k) = true) (hcell : hget σ a = some (.inl vs)) (hS : S = as.reverse ++ .ref a :: rest)
  (hna : as.length = pNA k) (hlen : Nat.ble (((Value.ref a :: as).map fun v => v.category).sum) (pMaxL k) = true) (hroom : (Nat.ble (pFr k + 1) (pFr m) && Nat.ble ((rest.map fun v => v.category).sum + (pMaxL k + 11) + pLo k) (pLo m)) = true) (hrb : (w.isNone || (pRet k).isSome) = true)
  (hcal : QTri l Z n0 ad k (0, qentry (.ref a :: as) (pMaxL k), [], σ) w σ₁) (h : QTri l Z n0 ad m (pc + 3, L, w.toList ++ rest, σ₁) v σ') : QTri l Z n0 ad m (pc, L, S, σ) v σ' := by
 have hd : decode (pBytes m) pc = .ok (.invokevirtual idx, 3) := pDecN hc rfl
 subst hS
 obtain ⟨m1, m2⟩ := Bool.and_eq_true_iff.mp hm
 have m1 := mem_of_contains m1
 have m2 := mem_of_contains m2
 have hkA := (mVlt k m2).1
 have hkN := mAlt k hkA
 have hret : pRet k = none → w = none := fun q => by
  rw [q] at hrb
  cases w with
  | none => rfl
  | some w => simp at hrb
 refine QTri.after hcal h fun p e R s mid args below meth c T locs cells slots C hcx X hR hC hc1 hsl => ?_
 obtain ⟨hx, hZ, hby, hml, hret', hown, hnm, hfr, hlo⟩ := hcx
 have hd2 : decode c.code pc = .ok (.invokevirtual idx, 3) := by rw [hby]; exact hd
 obtain ⟨f1, f2⟩ := QTri.room (σ := σ) (σ₁ := σ₁) hroom hfr hlo
 obtain ⟨cq, kq, q1, q2, q3⟩ := isOf hZ rfl (hR.2.2 _ _ hcell).1
 obtain ⟨w1, w2, w3⟩ := (qw_vi W) k m2
 obtain ⟨c1, c2⟩ := (qw_cod W) k hkA
 obtain ⟨_, _, ⟨T₁, L₁, k₁, n₁⟩, -, X₁, ⟨Lc, ⟨rfl, hR1, hF1⟩, l₁, y₁, z₁⟩, st⟩ := X.virtualBack hx (own := kName (pK m)) (index := idx) (y := pName k) (z := pName k) hown (mvT hZ (qw_ml W (pK m, idx, k) m1)) (mvT hZ w1) (notFace_of_selects (args := #[]) (mvT hZ w2)) (mvT hZ w2) (mvT hZ w3) (pOwn _ (pKlt k hkN))
  (backOf (W := (rest.map fun v => v.category).sum) (rm := ⟨pFr k, σ₁.length - σ.length, qhs σ₁ - qhs σ, pLo k⟩) (Q := fun v h L => v = Option.map (qv ad) w ∧ QRep Z n0 ad h σ₁ ∧ Fr n0 L) (QTri.met hkN hcal hR (Nat.le_of_ble_eq_true hlen) hret [] (Nat.le_refl _) (Nat.le_refl _) (Nat.le_refl _) (Nat.le_refl _)) hZ c1 c2 f1 f2) q1 q3 (g := mkF mid pc C (List.map (qv ad) (as.reverse ++ .ref a :: rest))) rfl hC (Steps.refl _) (argsL := as.map (qv ad)) (rest := rest.map (qv ad)) (sig_len hkN hna) (by simp [qv]) (by show 2 * 0 + _ ≤ _; rw [cats_qv]; omega) hd2 (fun _ _ => ⟨rfl, rfl, hc1, hsl⟩)
 dsimp only [Pt.U, Pt.locs, Pt.cells, Pt.slots] at X₁ l₁ y₁ z₁ st hR1
 subst l₁ y₁ z₁
 exact ⟨T₁, Lc, X₁, hR1, hF1, fun target q => st.trans q⟩
set_option maxHeartbeats 4000000 in
theorem QTri.callI (W : QW Z a0) {pc idx k a : Nat} {L : QLoc} {S as rest : List Value} {σ σ₁ : QHeap} (hc : pCode m pc = some (.invokespecial idx, k)) (hm : (lkV.contains (pK m, idx, k) && mI.contains k) = true) (hS : S = as.reverse ++ .ref a :: rest)
  (hna : as.length = pNA k) (hlen : Nat.ble (((Value.ref a :: as).map fun v => v.category).sum) (pMaxL k) = true) (hroom : (Nat.ble (pFr k + 1) (pFr m) && Nat.ble ((rest.map fun v => v.category).sum + (pMaxL k + 11) + pLo k) (pLo m)) = true)
  (hcal : QTri l Z n0 ad k (0, qentry (.ref a :: as) (pMaxL k), [], σ) none σ₁) (h : QTri l Z n0 ad m (pc + 3, L, rest, σ₁) v σ') : QTri l Z n0 ad m (pc, L, S, σ) v σ' := by
 have hd : decode (pBytes m) pc = .ok (.invokespecial idx, 3) := pDecN hc rfl
 subst hS
 obtain ⟨m1, m2⟩ := Bool.and_eq_true_iff.mp hm
 have m1 := mem_of_contains m1
 have m2 := mem_of_contains m2
 obtain ⟨hkA, -, hin, hrt⟩ := mIlt k m2
 have hkN := mAlt k hkA
 refine QTri.after (w := none) hcal h fun p e R s mid args below meth c T locs cells slots C hcx X hR hC hc1 hsl => ?_
 obtain ⟨hx, hZ, hby, hml, hret', hown, hnm, hfr, hlo⟩ := hcx
 have hd2 : decode c.code pc = .ok (.invokespecial idx, 3) := by rw [hby]; exact hd
 obtain ⟨f1, f2⟩ := QTri.room (σ := σ) (σ₁ := σ₁) hroom hfr hlo
 obtain ⟨c1, c2⟩ := (qw_cod W) k hkA
 have c1' := c1
 rw [hrt] at c1'
 obtain ⟨_, _, ⟨T₁, L₁, k₁, n₁⟩, -, X₁, ⟨Lc, ⟨rfl, hR1, hF1⟩, l₁, y₁, z₁⟩, st⟩ := X.specialBack hx (own := kName (pK m)) (index := idx) (y := pName k) hin hown (mvT hZ (qw_ml W (pK m, idx, k) m1)) (mvT hZ ((qw_ini W) k m2)) (mvT hZ c1') (pOwn _ (pKlt k hkN))
  (backOf (W := (rest.map fun v => v.category).sum) (rm := ⟨pFr k, σ₁.length - σ.length, qhs σ₁ - qhs σ, pLo k⟩) (Q := fun v h L => v = Option.map (qv ad) none ∧ QRep Z n0 ad h σ₁ ∧ Fr n0 L) (QTri.met hkN hcal hR (Nat.le_of_ble_eq_true hlen) (fun _ => rfl) [] (Nat.le_refl _) (Nat.le_refl _) (Nat.le_refl _) (Nat.le_refl _)) hZ c1 c2 f1 f2) (g := mkF mid pc C (List.map (qv ad) (as.reverse ++ .ref a :: rest))) rfl hC (Steps.refl _) (a := ad a) (argsL := as.map (qv ad)) (rest := rest.map (qv ad)) (sig_len hkN hna) (by simp [qv]) (by show 2 * 0 + _ ≤ _; rw [cats_qv]; omega) hd2 (fun _ _ => ⟨rfl, rfl, hc1, hsl⟩)
 dsimp only [Pt.U, Pt.locs, Pt.cells, Pt.slots] at X₁ l₁ y₁ z₁ st hR1
 subst l₁ y₁ z₁
 exact ⟨T₁, Lc, X₁, hR1, hF1, fun target q => st.trans q⟩
set_option maxHeartbeats 4000000 in
theorem QTri.callP (W : QW Z a0) {pc idx k a : Nat} {L : QLoc} {S as rest vs : List Value} {σ σ₁ : QHeap} {w : Option Value} (hc : pCode m pc = some (.invokevirtual idx, k)) (hm : (lkV.contains (pK m, idx, k) && mP.contains k) = true) (hcell : hget σ a = some (.inl vs)) (hS : S = as.reverse ++ .ref a :: rest)
  (hna : as.length = pNA k) (hlen : Nat.ble (((Value.ref a :: as).map fun v => v.category).sum) (pMaxL k) = true) (hroom : (Nat.ble (pFr k + 1) (pFr m) && Nat.ble ((rest.map fun v => v.category).sum + (pMaxL k + 11) + pLo k) (pLo m)) = true) (hrb : (w.isNone || (pRet k).isSome) = true)
  (hcal : QTri l Z n0 ad k (0, qentry (.ref a :: as) (pMaxL k), [], σ) w σ₁) (h : QTri l Z n0 ad m (pc + 3, L, w.toList ++ rest, σ₁) v σ') : QTri l Z n0 ad m (pc, L, S, σ) v σ' := by
 have hd : decode (pBytes m) pc = .ok (.invokevirtual idx, 3) := pDecN hc rfl
 subst hS
 obtain ⟨m1, m2⟩ := Bool.and_eq_true_iff.mp hm
 have m1 := mem_of_contains m1
 have m2 := mem_of_contains m2
 obtain ⟨hkA, hk1⟩ := mPlt k m2
 have hkN := mAlt k hkA
 have hret : pRet k = none → w = none := fun q => by
  rw [q] at hrb
  cases w with
  | none => rfl
  | some w => simp at hrb
 refine QTri.after hcal h fun p e R s mid args below meth c T locs cells slots C hcx X hR hC hc1 hsl => ?_
 obtain ⟨hx, hZ, hby, hml, hret', hown, hnm, hfr, hlo⟩ := hcx
 have hd2 : decode c.code pc = .ok (.invokevirtual idx, 3) := by rw [hby]; exact hd
 obtain ⟨f1, f2⟩ := QTri.room (σ := σ) (σ₁ := σ₁) hroom hfr hlo
 obtain ⟨cell, h1, h2⟩ := (hR.2.2 _ _ hcell).1.cell
 obtain ⟨w1, w2⟩ := (qw_pr W) k m2
 obtain ⟨c1, c2⟩ := (qw_cod W) k hkA
 have hpr : s.PrivateAt (pName k) := Cond.privateMethod_at (mvP hZ w2 (args := #[]))
 obtain ⟨cC, kC, i1, i2, i3, i4⟩ := Cond.instantiable_spec (args := #[]) (mvT hZ (qw_inst W))
 have hsel : (Cond.selects (pName k).cls (pName k) (pName k)).before args s = true := selects_self_of_private (c := cC) (k := kC) (by show s.vm.findClass (kName (pK k)) = _; rw [hk1]; exact i1) i2 (by have q := i4.1; cases hq : kC.isInterface with | false => rfl | true => rw [hq] at q; simp at q) hpr (mvT hZ w1) (pOwn _ (pKlt k hkN))
 obtain ⟨_, _, ⟨T₁, L₁, k₁, n₁⟩, -, X₁, ⟨Lc, ⟨rfl, hR1, hF1⟩, l₁, y₁, z₁⟩, st⟩ := X.privateBack hx (own := kName (pK m)) (index := idx) (y := pName k) hown (mvT hZ (qw_ml W (pK m, idx, k) m1)) (mvT hZ w1) hsel hpr (mvT hZ c1) (pOwn _ (pKlt k hkN))
  (backOf (W := (rest.map fun v => v.category).sum) (rm := ⟨pFr k, σ₁.length - σ.length, qhs σ₁ - qhs σ, pLo k⟩) (Q := fun v h L => v = Option.map (qv ad) w ∧ QRep Z n0 ad h σ₁ ∧ Fr n0 L) (QTri.met hkN hcal hR (Nat.le_of_ble_eq_true hlen) hret [] (Nat.le_refl _) (Nat.le_refl _) (Nat.le_refl _) (Nat.le_refl _)) hZ c1 c2 f1 f2) (g := mkF mid pc C (List.map (qv ad) (as.reverse ++ .ref a :: rest))) rfl hC (Steps.refl _) (a := ad a) h1 h2 (argsL := as.map (qv ad)) (rest := rest.map (qv ad)) (sig_len hkN hna) (by simp [qv]) (by show 2 * 0 + _ ≤ _; rw [cats_qv]; omega) hd2 (fun _ _ => ⟨rfl, rfl, hc1, hsl⟩)
 dsimp only [Pt.U, Pt.locs, Pt.cells, Pt.slots] at X₁ l₁ y₁ z₁ st hR1
 subst l₁ y₁ z₁
 exact ⟨T₁, Lc, X₁, hR1, hF1, fun target q => st.trans q⟩
set_option maxHeartbeats 4000000 in
theorem QTri.callS (W : QW Z a0) {pc idx k : Nat} {L : QLoc} {S as rest : List Value} {σ σ₁ : QHeap} {w : Option Value} (hc : pCode m pc = some (.invokestatic idx, k)) (hm : (lkV.contains (pK m, idx, k) && mS.contains k) = true) (hS : S = as.reverse ++ rest)
  (hna : as.length = pNA k) (hlen : Nat.ble ((as.map fun v => v.category).sum) (pMaxL k) = true) (hroom : (Nat.ble (pFr k + 1) (pFr m) && Nat.ble ((rest.map fun v => v.category).sum + (pMaxL k + 11) + pLo k) (pLo m)) = true) (hrb : (w.isNone || (pRet k).isSome) = true)
  (hcal : QTri l Z n0 ad k (0, qentry as (pMaxL k), [], σ) w σ₁) (h : QTri l Z n0 ad m (pc + 3, L, w.toList ++ rest, σ₁) v σ') : QTri l Z n0 ad m (pc, L, S, σ) v σ' := by
 have hd : decode (pBytes m) pc = .ok (.invokestatic idx, 3) := pDecN hc rfl
 subst hS
 obtain ⟨m1, m2⟩ := Bool.and_eq_true_iff.mp hm
 have m1 := mem_of_contains m1
 have m2 := mem_of_contains m2
 have hkA := mSlt k m2
 have hkN := mAlt k hkA
 have hret : pRet k = none → w = none := fun q => by
  rw [q] at hrb
  cases w with
  | none => rfl
  | some w => simp at hrb
 refine QTri.after hcal h fun p e R s mid args below meth c T locs cells slots C hcx X hR hC hc1 hsl => ?_
 obtain ⟨hx, hZ, hby, hml, hret', hown, hnm, hfr, hlo⟩ := hcx
 have hd2 : decode c.code pc = .ok (.invokestatic idx, 3) := by rw [hby]; exact hd
 obtain ⟨f1, f2⟩ := QTri.room (σ := σ) (σ₁ := σ₁) hroom hfr hlo
 obtain ⟨c1, c2⟩ := (qw_cod W) k hkA
 obtain ⟨_, _, ⟨T₁, L₁, k₁, n₁⟩, -, X₁, ⟨Lc, ⟨rfl, hR1, hF1⟩, l₁, y₁, z₁⟩, st⟩ := Jvm.LawKit.callS X hx (own := kName (pK m)) (index := idx) (y := pName k) hown (mvT hZ (qw_ml W (pK m, idx, k) m1)) (mvT hZ ((qw_st W) k m2)) (mvT hZ c2) (mvT hZ c1) (pOwn _ (pKlt k hkN))
  (backOf (W := (rest.map fun v => v.category).sum) (rm := ⟨pFr k, σ₁.length - σ.length, qhs σ₁ - qhs σ, pLo k⟩) (Q := fun v h L => v = Option.map (qv ad) w ∧ QRep Z n0 ad h σ₁ ∧ Fr n0 L) (QTri.met hkN hcal hR (Nat.le_of_ble_eq_true hlen) hret [] (Nat.le_refl _) (Nat.le_refl _) (Nat.le_refl _) (Nat.le_refl _)) hZ c1 c2 f1 f2) (g := mkF mid pc C (List.map (qv ad) (as.reverse ++ rest))) rfl hC (argsL := as.map (qv ad)) (rest := rest.map (qv ad)) (sig_len hkN hna) (by simp) (by show 2 * 0 + _ ≤ _; rw [cats_qv]; omega) hd2 (fun _ _ => ⟨rfl, rfl, hc1, hsl⟩)
 dsimp only [Pt.U, Pt.locs, Pt.cells, Pt.slots] at X₁ l₁ y₁ z₁ st hR1
 subst l₁ y₁ z₁
 exact ⟨T₁, Lc, X₁, hR1, hF1, fun target q => st target q⟩
set_option maxHeartbeats 4000000 in
theorem QTri.callO (W : QW Z a0) {pc idx k a : Nat} {L : QLoc} {rest : List Value} {σ : QHeap} (hc : pCode m pc = some (.invokespecial idx, k)) (hm : lkO.contains (pK m, idx) = true) (hroom : (Nat.ble 1 (pFr m) && Nat.ble ((rest.map fun v => v.category).sum + 12) (pLo m)) = true)
  (h : QTri l Z n0 ad m (pc + 3, L, rest, σ) v σ') : QTri l Z n0 ad m (pc, L, .ref a :: rest, σ) v σ' :=
 have hd : decode (pBytes m) pc = .ok (.invokespecial idx, 3) := pDecN hc rfl
 QTri.pure h rfl fun p e R s mid args below meth c T locs cells slots C hcx X hR hL hC => by
  obtain ⟨hx, hZ, hby, hml, hret', hown, hnm, hfr, hlo⟩ := hcx
  have hd2 : decode c.code pc = .ok (.invokespecial idx, 3) := by rw [hby]; exact hd
  obtain ⟨q1, q2⟩ := Bool.and_eq_true_iff.mp hroom
  obtain ⟨T₁, X₁, e₁, st⟩ := initO X hx hZ hown (idx := idx) (qw_mo W (pK m, idx) (mem_of_contains hm)) ((qw_oi W)) ((qw_oc W)) rfl (g := mkF mid pc C (List.map (qv ad) (.ref a :: rest))) rfl hC rfl hd2 (Nat.le_trans (Nat.le_of_ble_eq_true q1) hfr) (W := (rest.map fun v => v.category).sum) (by show 2 * 0 + _ ≤ _; rw [cats_qv]; omega) (Nat.le_trans (Nat.le_of_ble_eq_true q2) hlo)
  exact ⟨T₁, C, X₁, e₁, hL, hC, st⟩
theorem QTri.brT (Ad : QAd n0 ad) (W : QW Z a0) {st : QSt} {t f : Nat} {L : QLoc} {S : List Value} {σ : QHeap} {b : Bool} (hs : qstep m st = some (bif b then t else f, L, S, σ)) (hb : b = true) (h : QTri l Z n0 ad m (t, L, S, σ) v σ') : QTri l Z n0 ad m st v σ' := by
 subst hb; exact QTri.step Ad W h hs
theorem QTri.brF (Ad : QAd n0 ad) (W : QW Z a0) {st : QSt} {t f : Nat} {L : QLoc} {S : List Value} {σ : QHeap} {b : Bool} (hs : qstep m st = some (bif b then t else f, L, S, σ)) (hb : b = false) (h : QTri l Z n0 ad m (f, L, S, σ) v σ') : QTri l Z n0 ad m st v σ' := by
 subst hb; exact QTri.step Ad W h hs
theorem QTri.bnd {α : Type} (Ad : QAd n0 ad) (W : QW Z a0) {st : QSt} {x : Option α} {f : α → QSt} {a : α} (hs : qstep m st = x.bind fun v => some (f v)) (hx : x = some a) (h : QTri l Z n0 ad m (f a) v σ') : QTri l Z n0 ad m st v σ' :=
 QTri.step Ad W h (by rw [hs, hx]; rfl)
theorem QTri.bndB (Ad : QAd n0 ad) (W : QW Z a0) {st : QSt} {x y : Int32} {g : Value → QSt} (hs : qstep m st = ((qboo x).bind fun y => some (Value.int y)).bind fun w => some (g w)) (hx : qboo x = some y) (h : QTri l Z n0 ad m (g (.int y)) v σ') : QTri l Z n0 ad m st v σ' :=
 QTri.step Ad W h (by rw [hs, hx]; rfl)
end Triples
theorem qite {α : Type} {c : Prop} [Decidable c] {a b : Option α} {r : α} (h : (if c then a else b) = some r) : (c ∧ a = some r) ∨ (¬ c ∧ b = some r) := by
 by_cases hc : c
 ·exact Or.inl ⟨hc, by rwa [if_pos hc] at h⟩
 ·exact Or.inr ⟨hc, by rwa [if_neg hc] at h⟩
def qN : Nat := 4000
def loopN {V E : Type} (B : V → Option (E ⊕ V)) : Nat → V → Option E
 | 0, _ => none
 | n + 1, v => match B v with
  | none => none
  | some (.inl e) => some e
  | some (.inr v') => loopN B n v'
theorem loopN_tri {V E : Type} {B : V → Option (E ⊕ V)} {T : V → Prop} {KE : E → Prop} (hB : ∀ v r, B v = some r → (∀ e, r = .inl e → KE e) → (∀ v', r = .inr v' → T v') → T v) : ∀ (n : Nat) (v : V) (e : E), loopN B n v = some e → KE e → T v
 | 0, _, _, h, _ => by cases h
 | n + 1, v, e, h, k => by
  simp only [loopN] at h
  split at h
  ·cases h
  ·rename_i e' he
   cases h
   exact hB v _ he (fun e q => by cases q; exact k) (fun v' q => by cases q)
  ·rename_i v' he
   exact hB v _ he (fun e q => by cases q) (fun v'' q => by cases q; exact loopN_tri hB n v' e h k)
theorem loopN_inv {V E : Type} {B : V → Option (E ⊕ V)} (I : V → Prop) (P : E → Prop) (μ : V → Nat) (hB : ∀ v, I v → (∃ e, B v = some (.inl e) ∧ P e) ∨ ∃ v', B v = some (.inr v') ∧ I v' ∧ μ v' < μ v) : ∀ (n : Nat) (v : V), I v → μ v < n → ∃ e, loopN B n v = some e ∧ P e
 | 0, _, _, h => absurd h (Nat.not_lt_zero _)
 | n + 1, v, hv, hm => by
  rcases hB v hv with ⟨e, h1, h2⟩ | ⟨v', h1, h2, h3⟩
  ·exact ⟨e, by simp only [loopN, h1], h2⟩
  ·obtain ⟨e, g1, g2⟩ := loopN_inv I P μ hB n v' h2 (by omega)
   exact ⟨e, by simp only [loopN, h1]; exact g1, g2⟩
theorem qfn {α : Type} {P : α → Prop} : ∀ t ∈ ([] : List α), P t := fun _ h => nomatch h
theorem qfc {α : Type} {P : α → Prop} {a : α} {t : List α} (h : P a) (ht : ∀ x ∈ t, P x) : ∀ x ∈ a :: t, P x := fun x hx => by rcases List.mem_cons.mp hx with rfl | q; exact h; exact ht x q
theorem QW_ok {Z : State} {a0 : Array Value} (hw : ∀ d ∈ tables_1, d.before a0 Z = true) : QW Z a0 := by
  have w0 : ∀ k ∈ List.range nF, bif fFin k then (Jvm.Cond.laysFinal cName cName (fNm k) (fDs k)).before a0 Z = true else (Jvm.Cond.lays cName cName (fNm k) (fDs k)).before a0 Z = true :=
    show ∀ k ∈ [0, 1, 2, 3, 4, 5, 6, 7, 8, 9, 10, 11, 12, 13, 14, 15, 16, 17, 18, 19, 20], bif fFin k then (Jvm.Cond.laysFinal cName cName (fNm k) (fDs k)).before a0 Z = true else (Jvm.Cond.lays cName cName (fNm k) (fDs k)).before a0 Z = true from
    (qfc (hw _ (List.mem_of_getElem? (i := 15) rfl)) (qfc (hw _ (List.mem_of_getElem? (i := 18) rfl)) (qfc (hw _ (List.mem_of_getElem? (i := 20) rfl)) (qfc (hw _ (List.mem_of_getElem? (i := 22) rfl)) (qfc (hw _ (List.mem_of_getElem? (i := 24) rfl)) (qfc (hw _ (List.mem_of_getElem? (i := 26) rfl)) (qfc (hw _ (List.mem_of_getElem? (i := 28) rfl)) (qfc (hw _ (List.mem_of_getElem? (i := 30) rfl)) (qfc (hw _ (List.mem_of_getElem? (i := 32) rfl)) (qfc (hw _ (List.mem_of_getElem? (i := 34) rfl)) (qfc (hw _ (List.mem_of_getElem? (i := 36) rfl)) (qfc (hw _ (List.mem_of_getElem? (i := 38) rfl)) (qfc (hw _ (List.mem_of_getElem? (i := 40) rfl)) (qfc (hw _ (List.mem_of_getElem? (i := 42) rfl)) (qfc (hw _ (List.mem_of_getElem? (i := 44) rfl)) (qfc (hw _ (List.mem_of_getElem? (i := 72) rfl)) (qfc (hw _ (List.mem_of_getElem? (i := 74) rfl)) (qfc (hw _ (List.mem_of_getElem? (i := 76) rfl)) (qfc (hw _ (List.mem_of_getElem? (i := 78) rfl)) (qfc (hw _ (List.mem_of_getElem? (i := 84) rfl)) (qfc (hw _ (List.mem_of_getElem? (i := 90) rfl)) qfn)))))))))))))))))))))
  refine ⟨?_, ?_, ?_, ?_, ?_, ?_, ?_, ?_, ?_, ?_, ?_, ?_, ?_, (fun k hk => w0 k (List.mem_range.mpr hk)), ?_, ?_, ?_⟩
  · exact (qfc (hw _ (List.mem_of_getElem? (i := 14) rfl)) (qfc (hw _ (List.mem_of_getElem? (i := 17) rfl)) (qfc (hw _ (List.mem_of_getElem? (i := 19) rfl)) (qfc (hw _ (List.mem_of_getElem? (i := 21) rfl)) (qfc (hw _ (List.mem_of_getElem? (i := 23) rfl)) (qfc (hw _ (List.mem_of_getElem? (i := 25) rfl)) (qfc (hw _ (List.mem_of_getElem? (i := 27) rfl)) (qfc (hw _ (List.mem_of_getElem? (i := 29) rfl)) (qfc (hw _ (List.mem_of_getElem? (i := 31) rfl)) (qfc (hw _ (List.mem_of_getElem? (i := 33) rfl)) (qfc (hw _ (List.mem_of_getElem? (i := 35) rfl)) (qfc (hw _ (List.mem_of_getElem? (i := 37) rfl)) (qfc (hw _ (List.mem_of_getElem? (i := 39) rfl)) (qfc (hw _ (List.mem_of_getElem? (i := 41) rfl)) (qfc (hw _ (List.mem_of_getElem? (i := 43) rfl)) (qfc (hw _ (List.mem_of_getElem? (i := 71) rfl)) (qfc (hw _ (List.mem_of_getElem? (i := 73) rfl)) (qfc (hw _ (List.mem_of_getElem? (i := 75) rfl)) (qfc (hw _ (List.mem_of_getElem? (i := 77) rfl)) (qfc (hw _ (List.mem_of_getElem? (i := 83) rfl)) (qfc (hw _ (List.mem_of_getElem? (i := 89) rfl)) qfn)))))))))))))))))))))
  · exact (qfc (hw _ (List.mem_of_getElem? (i := 0) rfl)) qfn)
  · exact qfn
  · exact (qfc ⟨_, rfl, (hw _ (List.mem_of_getElem? (i := 105) rfl))⟩ (qfc ⟨_, rfl, (hw _ (List.mem_of_getElem? (i := 166) rfl))⟩ qfn))
  · exact (qfc (hw _ (List.mem_of_getElem? (i := 3) rfl)) (qfc (hw _ (List.mem_of_getElem? (i := 7) rfl)) (qfc (hw _ (List.mem_of_getElem? (i := 45) rfl)) (qfc (hw _ (List.mem_of_getElem? (i := 48) rfl)) (qfc (hw _ (List.mem_of_getElem? (i := 53) rfl)) (qfc (hw _ (List.mem_of_getElem? (i := 57) rfl)) (qfc (hw _ (List.mem_of_getElem? (i := 62) rfl)) (qfc (hw _ (List.mem_of_getElem? (i := 67) rfl)) (qfc (hw _ (List.mem_of_getElem? (i := 79) rfl)) (qfc (hw _ (List.mem_of_getElem? (i := 85) rfl)) (qfc (hw _ (List.mem_of_getElem? (i := 91) rfl)) (qfc (hw _ (List.mem_of_getElem? (i := 96) rfl)) (qfc (hw _ (List.mem_of_getElem? (i := 101) rfl)) (qfc (hw _ (List.mem_of_getElem? (i := 106) rfl)) (qfc (hw _ (List.mem_of_getElem? (i := 109) rfl)) (qfc (hw _ (List.mem_of_getElem? (i := 114) rfl)) (qfc (hw _ (List.mem_of_getElem? (i := 118) rfl)) (qfc (hw _ (List.mem_of_getElem? (i := 122) rfl)) (qfc (hw _ (List.mem_of_getElem? (i := 126) rfl)) (qfc (hw _ (List.mem_of_getElem? (i := 130) rfl)) (qfc (hw _ (List.mem_of_getElem? (i := 135) rfl)) (qfc (hw _ (List.mem_of_getElem? (i := 138) rfl)) (qfc (hw _ (List.mem_of_getElem? (i := 143) rfl)) (qfc (hw _ (List.mem_of_getElem? (i := 148) rfl)) (qfc (hw _ (List.mem_of_getElem? (i := 153) rfl)) (qfc (hw _ (List.mem_of_getElem? (i := 157) rfl)) (qfc (hw _ (List.mem_of_getElem? (i := 162) rfl)) (qfc (hw _ (List.mem_of_getElem? (i := 167) rfl)) (qfc (hw _ (List.mem_of_getElem? (i := 172) rfl)) qfn)))))))))))))))))))))))))))))
  · exact (qfc (hw _ (List.mem_of_getElem? (i := 10) rfl)) qfn)
  · exact (qfc ⟨(hw _ (List.mem_of_getElem? (i := 49) rfl)), (hw _ (List.mem_of_getElem? (i := 51) rfl)), (hw _ (List.mem_of_getElem? (i := 50) rfl))⟩ (qfc ⟨(hw _ (List.mem_of_getElem? (i := 58) rfl)), (hw _ (List.mem_of_getElem? (i := 60) rfl)), (hw _ (List.mem_of_getElem? (i := 59) rfl))⟩ (qfc ⟨(hw _ (List.mem_of_getElem? (i := 63) rfl)), (hw _ (List.mem_of_getElem? (i := 65) rfl)), (hw _ (List.mem_of_getElem? (i := 64) rfl))⟩ (qfc ⟨(hw _ (List.mem_of_getElem? (i := 92) rfl)), (hw _ (List.mem_of_getElem? (i := 94) rfl)), (hw _ (List.mem_of_getElem? (i := 93) rfl))⟩ (qfc ⟨(hw _ (List.mem_of_getElem? (i := 97) rfl)), (hw _ (List.mem_of_getElem? (i := 99) rfl)), (hw _ (List.mem_of_getElem? (i := 98) rfl))⟩ (qfc ⟨(hw _ (List.mem_of_getElem? (i := 110) rfl)), (hw _ (List.mem_of_getElem? (i := 112) rfl)), (hw _ (List.mem_of_getElem? (i := 111) rfl))⟩ (qfc ⟨(hw _ (List.mem_of_getElem? (i := 131) rfl)), (hw _ (List.mem_of_getElem? (i := 133) rfl)), (hw _ (List.mem_of_getElem? (i := 132) rfl))⟩ (qfc ⟨(hw _ (List.mem_of_getElem? (i := 139) rfl)), (hw _ (List.mem_of_getElem? (i := 141) rfl)), (hw _ (List.mem_of_getElem? (i := 140) rfl))⟩ (qfc ⟨(hw _ (List.mem_of_getElem? (i := 144) rfl)), (hw _ (List.mem_of_getElem? (i := 146) rfl)), (hw _ (List.mem_of_getElem? (i := 145) rfl))⟩ (qfc ⟨(hw _ (List.mem_of_getElem? (i := 149) rfl)), (hw _ (List.mem_of_getElem? (i := 151) rfl)), (hw _ (List.mem_of_getElem? (i := 150) rfl))⟩ (qfc ⟨(hw _ (List.mem_of_getElem? (i := 158) rfl)), (hw _ (List.mem_of_getElem? (i := 160) rfl)), (hw _ (List.mem_of_getElem? (i := 159) rfl))⟩ (qfc ⟨(hw _ (List.mem_of_getElem? (i := 168) rfl)), (hw _ (List.mem_of_getElem? (i := 170) rfl)), (hw _ (List.mem_of_getElem? (i := 169) rfl))⟩ (qfc ⟨(hw _ (List.mem_of_getElem? (i := 173) rfl)), (hw _ (List.mem_of_getElem? (i := 175) rfl)), (hw _ (List.mem_of_getElem? (i := 174) rfl))⟩ qfn)))))))))))))
  · exact (qfc ⟨(hw _ (List.mem_of_getElem? (i := 54) rfl)), (hw _ (List.mem_of_getElem? (i := 55) rfl))⟩ (qfc ⟨(hw _ (List.mem_of_getElem? (i := 68) rfl)), (hw _ (List.mem_of_getElem? (i := 69) rfl))⟩ (qfc ⟨(hw _ (List.mem_of_getElem? (i := 80) rfl)), (hw _ (List.mem_of_getElem? (i := 81) rfl))⟩ (qfc ⟨(hw _ (List.mem_of_getElem? (i := 86) rfl)), (hw _ (List.mem_of_getElem? (i := 87) rfl))⟩ (qfc ⟨(hw _ (List.mem_of_getElem? (i := 102) rfl)), (hw _ (List.mem_of_getElem? (i := 103) rfl))⟩ (qfc ⟨(hw _ (List.mem_of_getElem? (i := 115) rfl)), (hw _ (List.mem_of_getElem? (i := 116) rfl))⟩ (qfc ⟨(hw _ (List.mem_of_getElem? (i := 119) rfl)), (hw _ (List.mem_of_getElem? (i := 120) rfl))⟩ (qfc ⟨(hw _ (List.mem_of_getElem? (i := 123) rfl)), (hw _ (List.mem_of_getElem? (i := 124) rfl))⟩ (qfc ⟨(hw _ (List.mem_of_getElem? (i := 127) rfl)), (hw _ (List.mem_of_getElem? (i := 128) rfl))⟩ (qfc ⟨(hw _ (List.mem_of_getElem? (i := 154) rfl)), (hw _ (List.mem_of_getElem? (i := 155) rfl))⟩ (qfc ⟨(hw _ (List.mem_of_getElem? (i := 163) rfl)), (hw _ (List.mem_of_getElem? (i := 164) rfl))⟩ qfn)))))))))))
  · exact (qfc (hw _ (List.mem_of_getElem? (i := 4) rfl)) (qfc (hw _ (List.mem_of_getElem? (i := 46) rfl)) (qfc (hw _ (List.mem_of_getElem? (i := 107) rfl)) (qfc (hw _ (List.mem_of_getElem? (i := 136) rfl)) qfn))))
  · exact (qfc (hw _ (List.mem_of_getElem? (i := 8) rfl)) qfn)
  · exact (qfc ⟨(hw _ (List.mem_of_getElem? (i := 6) rfl)), (hw _ (List.mem_of_getElem? (i := 5) rfl))⟩ (qfc ⟨(hw _ (List.mem_of_getElem? (i := 9) rfl)), (hw _ (List.mem_of_getElem? (i := 2) rfl))⟩ (qfc ⟨(hw _ (List.mem_of_getElem? (i := 47) rfl)), (hw _ (List.mem_of_getElem? (i := 5) rfl))⟩ (qfc ⟨(hw _ (List.mem_of_getElem? (i := 52) rfl)), (hw _ (List.mem_of_getElem? (i := 2) rfl))⟩ (qfc ⟨(hw _ (List.mem_of_getElem? (i := 56) rfl)), (hw _ (List.mem_of_getElem? (i := 2) rfl))⟩ (qfc ⟨(hw _ (List.mem_of_getElem? (i := 61) rfl)), (hw _ (List.mem_of_getElem? (i := 2) rfl))⟩ (qfc ⟨(hw _ (List.mem_of_getElem? (i := 66) rfl)), (hw _ (List.mem_of_getElem? (i := 2) rfl))⟩ (qfc ⟨(hw _ (List.mem_of_getElem? (i := 70) rfl)), (hw _ (List.mem_of_getElem? (i := 2) rfl))⟩ (qfc ⟨(hw _ (List.mem_of_getElem? (i := 82) rfl)), (hw _ (List.mem_of_getElem? (i := 2) rfl))⟩ (qfc ⟨(hw _ (List.mem_of_getElem? (i := 88) rfl)), (hw _ (List.mem_of_getElem? (i := 2) rfl))⟩ (qfc ⟨(hw _ (List.mem_of_getElem? (i := 95) rfl)), (hw _ (List.mem_of_getElem? (i := 2) rfl))⟩ (qfc ⟨(hw _ (List.mem_of_getElem? (i := 100) rfl)), (hw _ (List.mem_of_getElem? (i := 2) rfl))⟩ (qfc ⟨(hw _ (List.mem_of_getElem? (i := 104) rfl)), (hw _ (List.mem_of_getElem? (i := 2) rfl))⟩ (qfc ⟨(hw _ (List.mem_of_getElem? (i := 108) rfl)), (hw _ (List.mem_of_getElem? (i := 5) rfl))⟩ (qfc ⟨(hw _ (List.mem_of_getElem? (i := 113) rfl)), (hw _ (List.mem_of_getElem? (i := 2) rfl))⟩ (qfc ⟨(hw _ (List.mem_of_getElem? (i := 117) rfl)), (hw _ (List.mem_of_getElem? (i := 2) rfl))⟩ (qfc ⟨(hw _ (List.mem_of_getElem? (i := 121) rfl)), (hw _ (List.mem_of_getElem? (i := 2) rfl))⟩ (qfc ⟨(hw _ (List.mem_of_getElem? (i := 125) rfl)), (hw _ (List.mem_of_getElem? (i := 2) rfl))⟩ (qfc ⟨(hw _ (List.mem_of_getElem? (i := 129) rfl)), (hw _ (List.mem_of_getElem? (i := 2) rfl))⟩ (qfc ⟨(hw _ (List.mem_of_getElem? (i := 134) rfl)), (hw _ (List.mem_of_getElem? (i := 2) rfl))⟩ (qfc ⟨(hw _ (List.mem_of_getElem? (i := 137) rfl)), (hw _ (List.mem_of_getElem? (i := 5) rfl))⟩ (qfc ⟨(hw _ (List.mem_of_getElem? (i := 142) rfl)), (hw _ (List.mem_of_getElem? (i := 2) rfl))⟩ (qfc ⟨(hw _ (List.mem_of_getElem? (i := 147) rfl)), (hw _ (List.mem_of_getElem? (i := 2) rfl))⟩ (qfc ⟨(hw _ (List.mem_of_getElem? (i := 152) rfl)), (hw _ (List.mem_of_getElem? (i := 2) rfl))⟩ (qfc ⟨(hw _ (List.mem_of_getElem? (i := 156) rfl)), (hw _ (List.mem_of_getElem? (i := 2) rfl))⟩ (qfc ⟨(hw _ (List.mem_of_getElem? (i := 161) rfl)), (hw _ (List.mem_of_getElem? (i := 2) rfl))⟩ (qfc ⟨(hw _ (List.mem_of_getElem? (i := 165) rfl)), (hw _ (List.mem_of_getElem? (i := 2) rfl))⟩ (qfc ⟨(hw _ (List.mem_of_getElem? (i := 171) rfl)), (hw _ (List.mem_of_getElem? (i := 2) rfl))⟩ (qfc ⟨(hw _ (List.mem_of_getElem? (i := 176) rfl)), (hw _ (List.mem_of_getElem? (i := 2) rfl))⟩ qfn)))))))))))))))))))))))))))))
  · exact (hw _ (List.mem_of_getElem? (i := 11) rfl))
  · exact (hw _ (List.mem_of_getElem? (i := 12) rfl))
  · exact (hw _ (List.mem_of_getElem? (i := 1) rfl))
  · exact (hw _ (List.mem_of_getElem? (i := 2) rfl))
  · exact (qfc (hw _ (List.mem_of_getElem? (i := 13) rfl)) (qfc (hw _ (List.mem_of_getElem? (i := 16) rfl)) qfn))
abbrev Ob := List Int32 × List Int32 × Int32 × Int32 × Int32 × Int32 × List Int32 × List Int32 × List Int32 × List Int32 × List Int32 × List Int32 × Int32 × Int32 × Int32 × Int32 × Int32 × Int32 × Int32 × Int32 × Int32
def f_data (o : Ob) : List Int32 := o.1
def f_filled (o : Ob) : List Int32 := o.2.1
def f_rf (o : Ob) : Int32 := o.2.2.1
def f_cf (o : Ob) : Int32 := o.2.2.2.1
def f_vf (o : Ob) : Int32 := o.2.2.2.2.1
def f_ag (o : Ob) : Int32 := o.2.2.2.2.2.1
def f_fMode (o : Ob) : List Int32 := o.2.2.2.2.2.2.1
def f_fRk (o : Ob) : List Int32 := o.2.2.2.2.2.2.2.1
def f_fCk (o : Ob) : List Int32 := o.2.2.2.2.2.2.2.2.1
def f_prevVal (o : Ob) : List Int32 := o.2.2.2.2.2.2.2.2.2.1
def f_prevFound (o : Ob) : List Int32 := o.2.2.2.2.2.2.2.2.2.2.1
def f_keys (o : Ob) : List Int32 := o.2.2.2.2.2.2.2.2.2.2.2.1
def f_nRows (o : Ob) : Int32 := o.2.2.2.2.2.2.2.2.2.2.2.2.1
def f_nForms (o : Ob) : Int32 := o.2.2.2.2.2.2.2.2.2.2.2.2.2.1
def f_last (o : Ob) : Int32 := o.2.2.2.2.2.2.2.2.2.2.2.2.2.2.1
def f_selUseR (o : Ob) : Int32 := o.2.2.2.2.2.2.2.2.2.2.2.2.2.2.2.1
def f_selRk (o : Ob) : Int32 := o.2.2.2.2.2.2.2.2.2.2.2.2.2.2.2.2.1
def f_selUseC (o : Ob) : Int32 := o.2.2.2.2.2.2.2.2.2.2.2.2.2.2.2.2.2.1
def f_selCk (o : Ob) : Int32 := o.2.2.2.2.2.2.2.2.2.2.2.2.2.2.2.2.2.2.1
def f_gCount (o : Ob) : Int32 := o.2.2.2.2.2.2.2.2.2.2.2.2.2.2.2.2.2.2.2.1
def f_gVal (o : Ob) : Int32 := o.2.2.2.2.2.2.2.2.2.2.2.2.2.2.2.2.2.2.2.2
def s_data (o : Ob) (v : List Int32) : Ob := (v, o.2.1, o.2.2.1, o.2.2.2.1, o.2.2.2.2.1, o.2.2.2.2.2.1, o.2.2.2.2.2.2.1, o.2.2.2.2.2.2.2.1, o.2.2.2.2.2.2.2.2.1, o.2.2.2.2.2.2.2.2.2.1, o.2.2.2.2.2.2.2.2.2.2.1, o.2.2.2.2.2.2.2.2.2.2.2.1, o.2.2.2.2.2.2.2.2.2.2.2.2.1, o.2.2.2.2.2.2.2.2.2.2.2.2.2.1, o.2.2.2.2.2.2.2.2.2.2.2.2.2.2.1, o.2.2.2.2.2.2.2.2.2.2.2.2.2.2.2.1, o.2.2.2.2.2.2.2.2.2.2.2.2.2.2.2.2.1, o.2.2.2.2.2.2.2.2.2.2.2.2.2.2.2.2.2.1, o.2.2.2.2.2.2.2.2.2.2.2.2.2.2.2.2.2.2.1, o.2.2.2.2.2.2.2.2.2.2.2.2.2.2.2.2.2.2.2.1, o.2.2.2.2.2.2.2.2.2.2.2.2.2.2.2.2.2.2.2.2)
def s_filled (o : Ob) (v : List Int32) : Ob := (o.1, v, o.2.2.1, o.2.2.2.1, o.2.2.2.2.1, o.2.2.2.2.2.1, o.2.2.2.2.2.2.1, o.2.2.2.2.2.2.2.1, o.2.2.2.2.2.2.2.2.1, o.2.2.2.2.2.2.2.2.2.1, o.2.2.2.2.2.2.2.2.2.2.1, o.2.2.2.2.2.2.2.2.2.2.2.1, o.2.2.2.2.2.2.2.2.2.2.2.2.1, o.2.2.2.2.2.2.2.2.2.2.2.2.2.1, o.2.2.2.2.2.2.2.2.2.2.2.2.2.2.1, o.2.2.2.2.2.2.2.2.2.2.2.2.2.2.2.1, o.2.2.2.2.2.2.2.2.2.2.2.2.2.2.2.2.1, o.2.2.2.2.2.2.2.2.2.2.2.2.2.2.2.2.2.1, o.2.2.2.2.2.2.2.2.2.2.2.2.2.2.2.2.2.2.1, o.2.2.2.2.2.2.2.2.2.2.2.2.2.2.2.2.2.2.2.1, o.2.2.2.2.2.2.2.2.2.2.2.2.2.2.2.2.2.2.2.2)
def s_rf (o : Ob) (v : Int32) : Ob := (o.1, o.2.1, v, o.2.2.2.1, o.2.2.2.2.1, o.2.2.2.2.2.1, o.2.2.2.2.2.2.1, o.2.2.2.2.2.2.2.1, o.2.2.2.2.2.2.2.2.1, o.2.2.2.2.2.2.2.2.2.1, o.2.2.2.2.2.2.2.2.2.2.1, o.2.2.2.2.2.2.2.2.2.2.2.1, o.2.2.2.2.2.2.2.2.2.2.2.2.1, o.2.2.2.2.2.2.2.2.2.2.2.2.2.1, o.2.2.2.2.2.2.2.2.2.2.2.2.2.2.1, o.2.2.2.2.2.2.2.2.2.2.2.2.2.2.2.1, o.2.2.2.2.2.2.2.2.2.2.2.2.2.2.2.2.1, o.2.2.2.2.2.2.2.2.2.2.2.2.2.2.2.2.2.1, o.2.2.2.2.2.2.2.2.2.2.2.2.2.2.2.2.2.2.1, o.2.2.2.2.2.2.2.2.2.2.2.2.2.2.2.2.2.2.2.1, o.2.2.2.2.2.2.2.2.2.2.2.2.2.2.2.2.2.2.2.2)
def s_cf (o : Ob) (v : Int32) : Ob := (o.1, o.2.1, o.2.2.1, v, o.2.2.2.2.1, o.2.2.2.2.2.1, o.2.2.2.2.2.2.1, o.2.2.2.2.2.2.2.1, o.2.2.2.2.2.2.2.2.1, o.2.2.2.2.2.2.2.2.2.1, o.2.2.2.2.2.2.2.2.2.2.1, o.2.2.2.2.2.2.2.2.2.2.2.1, o.2.2.2.2.2.2.2.2.2.2.2.2.1, o.2.2.2.2.2.2.2.2.2.2.2.2.2.1, o.2.2.2.2.2.2.2.2.2.2.2.2.2.2.1, o.2.2.2.2.2.2.2.2.2.2.2.2.2.2.2.1, o.2.2.2.2.2.2.2.2.2.2.2.2.2.2.2.2.1, o.2.2.2.2.2.2.2.2.2.2.2.2.2.2.2.2.2.1, o.2.2.2.2.2.2.2.2.2.2.2.2.2.2.2.2.2.2.1, o.2.2.2.2.2.2.2.2.2.2.2.2.2.2.2.2.2.2.2.1, o.2.2.2.2.2.2.2.2.2.2.2.2.2.2.2.2.2.2.2.2)
def s_vf (o : Ob) (v : Int32) : Ob := (o.1, o.2.1, o.2.2.1, o.2.2.2.1, v, o.2.2.2.2.2.1, o.2.2.2.2.2.2.1, o.2.2.2.2.2.2.2.1, o.2.2.2.2.2.2.2.2.1, o.2.2.2.2.2.2.2.2.2.1, o.2.2.2.2.2.2.2.2.2.2.1, o.2.2.2.2.2.2.2.2.2.2.2.1, o.2.2.2.2.2.2.2.2.2.2.2.2.1, o.2.2.2.2.2.2.2.2.2.2.2.2.2.1, o.2.2.2.2.2.2.2.2.2.2.2.2.2.2.1, o.2.2.2.2.2.2.2.2.2.2.2.2.2.2.2.1, o.2.2.2.2.2.2.2.2.2.2.2.2.2.2.2.2.1, o.2.2.2.2.2.2.2.2.2.2.2.2.2.2.2.2.2.1, o.2.2.2.2.2.2.2.2.2.2.2.2.2.2.2.2.2.2.1, o.2.2.2.2.2.2.2.2.2.2.2.2.2.2.2.2.2.2.2.1, o.2.2.2.2.2.2.2.2.2.2.2.2.2.2.2.2.2.2.2.2)
def s_ag (o : Ob) (v : Int32) : Ob := (o.1, o.2.1, o.2.2.1, o.2.2.2.1, o.2.2.2.2.1, v, o.2.2.2.2.2.2.1, o.2.2.2.2.2.2.2.1, o.2.2.2.2.2.2.2.2.1, o.2.2.2.2.2.2.2.2.2.1, o.2.2.2.2.2.2.2.2.2.2.1, o.2.2.2.2.2.2.2.2.2.2.2.1, o.2.2.2.2.2.2.2.2.2.2.2.2.1, o.2.2.2.2.2.2.2.2.2.2.2.2.2.1, o.2.2.2.2.2.2.2.2.2.2.2.2.2.2.1, o.2.2.2.2.2.2.2.2.2.2.2.2.2.2.2.1, o.2.2.2.2.2.2.2.2.2.2.2.2.2.2.2.2.1, o.2.2.2.2.2.2.2.2.2.2.2.2.2.2.2.2.2.1, o.2.2.2.2.2.2.2.2.2.2.2.2.2.2.2.2.2.2.1, o.2.2.2.2.2.2.2.2.2.2.2.2.2.2.2.2.2.2.2.1, o.2.2.2.2.2.2.2.2.2.2.2.2.2.2.2.2.2.2.2.2)
def s_fMode (o : Ob) (v : List Int32) : Ob := (o.1, o.2.1, o.2.2.1, o.2.2.2.1, o.2.2.2.2.1, o.2.2.2.2.2.1, v, o.2.2.2.2.2.2.2.1, o.2.2.2.2.2.2.2.2.1, o.2.2.2.2.2.2.2.2.2.1, o.2.2.2.2.2.2.2.2.2.2.1, o.2.2.2.2.2.2.2.2.2.2.2.1, o.2.2.2.2.2.2.2.2.2.2.2.2.1, o.2.2.2.2.2.2.2.2.2.2.2.2.2.1, o.2.2.2.2.2.2.2.2.2.2.2.2.2.2.1, o.2.2.2.2.2.2.2.2.2.2.2.2.2.2.2.1, o.2.2.2.2.2.2.2.2.2.2.2.2.2.2.2.2.1, o.2.2.2.2.2.2.2.2.2.2.2.2.2.2.2.2.2.1, o.2.2.2.2.2.2.2.2.2.2.2.2.2.2.2.2.2.2.1, o.2.2.2.2.2.2.2.2.2.2.2.2.2.2.2.2.2.2.2.1, o.2.2.2.2.2.2.2.2.2.2.2.2.2.2.2.2.2.2.2.2)
def s_fRk (o : Ob) (v : List Int32) : Ob := (o.1, o.2.1, o.2.2.1, o.2.2.2.1, o.2.2.2.2.1, o.2.2.2.2.2.1, o.2.2.2.2.2.2.1, v, o.2.2.2.2.2.2.2.2.1, o.2.2.2.2.2.2.2.2.2.1, o.2.2.2.2.2.2.2.2.2.2.1, o.2.2.2.2.2.2.2.2.2.2.2.1, o.2.2.2.2.2.2.2.2.2.2.2.2.1, o.2.2.2.2.2.2.2.2.2.2.2.2.2.1, o.2.2.2.2.2.2.2.2.2.2.2.2.2.2.1, o.2.2.2.2.2.2.2.2.2.2.2.2.2.2.2.1, o.2.2.2.2.2.2.2.2.2.2.2.2.2.2.2.2.1, o.2.2.2.2.2.2.2.2.2.2.2.2.2.2.2.2.2.1, o.2.2.2.2.2.2.2.2.2.2.2.2.2.2.2.2.2.2.1, o.2.2.2.2.2.2.2.2.2.2.2.2.2.2.2.2.2.2.2.1, o.2.2.2.2.2.2.2.2.2.2.2.2.2.2.2.2.2.2.2.2)
def s_fCk (o : Ob) (v : List Int32) : Ob := (o.1, o.2.1, o.2.2.1, o.2.2.2.1, o.2.2.2.2.1, o.2.2.2.2.2.1, o.2.2.2.2.2.2.1, o.2.2.2.2.2.2.2.1, v, o.2.2.2.2.2.2.2.2.2.1, o.2.2.2.2.2.2.2.2.2.2.1, o.2.2.2.2.2.2.2.2.2.2.2.1, o.2.2.2.2.2.2.2.2.2.2.2.2.1, o.2.2.2.2.2.2.2.2.2.2.2.2.2.1, o.2.2.2.2.2.2.2.2.2.2.2.2.2.2.1, o.2.2.2.2.2.2.2.2.2.2.2.2.2.2.2.1, o.2.2.2.2.2.2.2.2.2.2.2.2.2.2.2.2.1, o.2.2.2.2.2.2.2.2.2.2.2.2.2.2.2.2.2.1, o.2.2.2.2.2.2.2.2.2.2.2.2.2.2.2.2.2.2.1, o.2.2.2.2.2.2.2.2.2.2.2.2.2.2.2.2.2.2.2.1, o.2.2.2.2.2.2.2.2.2.2.2.2.2.2.2.2.2.2.2.2)
def s_prevVal (o : Ob) (v : List Int32) : Ob := (o.1, o.2.1, o.2.2.1, o.2.2.2.1, o.2.2.2.2.1, o.2.2.2.2.2.1, o.2.2.2.2.2.2.1, o.2.2.2.2.2.2.2.1, o.2.2.2.2.2.2.2.2.1, v, o.2.2.2.2.2.2.2.2.2.2.1, o.2.2.2.2.2.2.2.2.2.2.2.1, o.2.2.2.2.2.2.2.2.2.2.2.2.1, o.2.2.2.2.2.2.2.2.2.2.2.2.2.1, o.2.2.2.2.2.2.2.2.2.2.2.2.2.2.1, o.2.2.2.2.2.2.2.2.2.2.2.2.2.2.2.1, o.2.2.2.2.2.2.2.2.2.2.2.2.2.2.2.2.1, o.2.2.2.2.2.2.2.2.2.2.2.2.2.2.2.2.2.1, o.2.2.2.2.2.2.2.2.2.2.2.2.2.2.2.2.2.2.1, o.2.2.2.2.2.2.2.2.2.2.2.2.2.2.2.2.2.2.2.1, o.2.2.2.2.2.2.2.2.2.2.2.2.2.2.2.2.2.2.2.2)
def s_prevFound (o : Ob) (v : List Int32) : Ob := (o.1, o.2.1, o.2.2.1, o.2.2.2.1, o.2.2.2.2.1, o.2.2.2.2.2.1, o.2.2.2.2.2.2.1, o.2.2.2.2.2.2.2.1, o.2.2.2.2.2.2.2.2.1, o.2.2.2.2.2.2.2.2.2.1, v, o.2.2.2.2.2.2.2.2.2.2.2.1, o.2.2.2.2.2.2.2.2.2.2.2.2.1, o.2.2.2.2.2.2.2.2.2.2.2.2.2.1, o.2.2.2.2.2.2.2.2.2.2.2.2.2.2.1, o.2.2.2.2.2.2.2.2.2.2.2.2.2.2.2.1, o.2.2.2.2.2.2.2.2.2.2.2.2.2.2.2.2.1, o.2.2.2.2.2.2.2.2.2.2.2.2.2.2.2.2.2.1, o.2.2.2.2.2.2.2.2.2.2.2.2.2.2.2.2.2.2.1, o.2.2.2.2.2.2.2.2.2.2.2.2.2.2.2.2.2.2.2.1, o.2.2.2.2.2.2.2.2.2.2.2.2.2.2.2.2.2.2.2.2)
def s_keys (o : Ob) (v : List Int32) : Ob := (o.1, o.2.1, o.2.2.1, o.2.2.2.1, o.2.2.2.2.1, o.2.2.2.2.2.1, o.2.2.2.2.2.2.1, o.2.2.2.2.2.2.2.1, o.2.2.2.2.2.2.2.2.1, o.2.2.2.2.2.2.2.2.2.1, o.2.2.2.2.2.2.2.2.2.2.1, v, o.2.2.2.2.2.2.2.2.2.2.2.2.1, o.2.2.2.2.2.2.2.2.2.2.2.2.2.1, o.2.2.2.2.2.2.2.2.2.2.2.2.2.2.1, o.2.2.2.2.2.2.2.2.2.2.2.2.2.2.2.1, o.2.2.2.2.2.2.2.2.2.2.2.2.2.2.2.2.1, o.2.2.2.2.2.2.2.2.2.2.2.2.2.2.2.2.2.1, o.2.2.2.2.2.2.2.2.2.2.2.2.2.2.2.2.2.2.1, o.2.2.2.2.2.2.2.2.2.2.2.2.2.2.2.2.2.2.2.1, o.2.2.2.2.2.2.2.2.2.2.2.2.2.2.2.2.2.2.2.2)
def s_nRows (o : Ob) (v : Int32) : Ob := (o.1, o.2.1, o.2.2.1, o.2.2.2.1, o.2.2.2.2.1, o.2.2.2.2.2.1, o.2.2.2.2.2.2.1, o.2.2.2.2.2.2.2.1, o.2.2.2.2.2.2.2.2.1, o.2.2.2.2.2.2.2.2.2.1, o.2.2.2.2.2.2.2.2.2.2.1, o.2.2.2.2.2.2.2.2.2.2.2.1, v, o.2.2.2.2.2.2.2.2.2.2.2.2.2.1, o.2.2.2.2.2.2.2.2.2.2.2.2.2.2.1, o.2.2.2.2.2.2.2.2.2.2.2.2.2.2.2.1, o.2.2.2.2.2.2.2.2.2.2.2.2.2.2.2.2.1, o.2.2.2.2.2.2.2.2.2.2.2.2.2.2.2.2.2.1, o.2.2.2.2.2.2.2.2.2.2.2.2.2.2.2.2.2.2.1, o.2.2.2.2.2.2.2.2.2.2.2.2.2.2.2.2.2.2.2.1, o.2.2.2.2.2.2.2.2.2.2.2.2.2.2.2.2.2.2.2.2)
def s_nForms (o : Ob) (v : Int32) : Ob := (o.1, o.2.1, o.2.2.1, o.2.2.2.1, o.2.2.2.2.1, o.2.2.2.2.2.1, o.2.2.2.2.2.2.1, o.2.2.2.2.2.2.2.1, o.2.2.2.2.2.2.2.2.1, o.2.2.2.2.2.2.2.2.2.1, o.2.2.2.2.2.2.2.2.2.2.1, o.2.2.2.2.2.2.2.2.2.2.2.1, o.2.2.2.2.2.2.2.2.2.2.2.2.1, v, o.2.2.2.2.2.2.2.2.2.2.2.2.2.2.1, o.2.2.2.2.2.2.2.2.2.2.2.2.2.2.2.1, o.2.2.2.2.2.2.2.2.2.2.2.2.2.2.2.2.1, o.2.2.2.2.2.2.2.2.2.2.2.2.2.2.2.2.2.1, o.2.2.2.2.2.2.2.2.2.2.2.2.2.2.2.2.2.2.1, o.2.2.2.2.2.2.2.2.2.2.2.2.2.2.2.2.2.2.2.1, o.2.2.2.2.2.2.2.2.2.2.2.2.2.2.2.2.2.2.2.2)
def s_last (o : Ob) (v : Int32) : Ob := (o.1, o.2.1, o.2.2.1, o.2.2.2.1, o.2.2.2.2.1, o.2.2.2.2.2.1, o.2.2.2.2.2.2.1, o.2.2.2.2.2.2.2.1, o.2.2.2.2.2.2.2.2.1, o.2.2.2.2.2.2.2.2.2.1, o.2.2.2.2.2.2.2.2.2.2.1, o.2.2.2.2.2.2.2.2.2.2.2.1, o.2.2.2.2.2.2.2.2.2.2.2.2.1, o.2.2.2.2.2.2.2.2.2.2.2.2.2.1, v, o.2.2.2.2.2.2.2.2.2.2.2.2.2.2.2.1, o.2.2.2.2.2.2.2.2.2.2.2.2.2.2.2.2.1, o.2.2.2.2.2.2.2.2.2.2.2.2.2.2.2.2.2.1, o.2.2.2.2.2.2.2.2.2.2.2.2.2.2.2.2.2.2.1, o.2.2.2.2.2.2.2.2.2.2.2.2.2.2.2.2.2.2.2.1, o.2.2.2.2.2.2.2.2.2.2.2.2.2.2.2.2.2.2.2.2)
def s_selUseR (o : Ob) (v : Int32) : Ob := (o.1, o.2.1, o.2.2.1, o.2.2.2.1, o.2.2.2.2.1, o.2.2.2.2.2.1, o.2.2.2.2.2.2.1, o.2.2.2.2.2.2.2.1, o.2.2.2.2.2.2.2.2.1, o.2.2.2.2.2.2.2.2.2.1, o.2.2.2.2.2.2.2.2.2.2.1, o.2.2.2.2.2.2.2.2.2.2.2.1, o.2.2.2.2.2.2.2.2.2.2.2.2.1, o.2.2.2.2.2.2.2.2.2.2.2.2.2.1, o.2.2.2.2.2.2.2.2.2.2.2.2.2.2.1, v, o.2.2.2.2.2.2.2.2.2.2.2.2.2.2.2.2.1, o.2.2.2.2.2.2.2.2.2.2.2.2.2.2.2.2.2.1, o.2.2.2.2.2.2.2.2.2.2.2.2.2.2.2.2.2.2.1, o.2.2.2.2.2.2.2.2.2.2.2.2.2.2.2.2.2.2.2.1, o.2.2.2.2.2.2.2.2.2.2.2.2.2.2.2.2.2.2.2.2)
def s_selRk (o : Ob) (v : Int32) : Ob := (o.1, o.2.1, o.2.2.1, o.2.2.2.1, o.2.2.2.2.1, o.2.2.2.2.2.1, o.2.2.2.2.2.2.1, o.2.2.2.2.2.2.2.1, o.2.2.2.2.2.2.2.2.1, o.2.2.2.2.2.2.2.2.2.1, o.2.2.2.2.2.2.2.2.2.2.1, o.2.2.2.2.2.2.2.2.2.2.2.1, o.2.2.2.2.2.2.2.2.2.2.2.2.1, o.2.2.2.2.2.2.2.2.2.2.2.2.2.1, o.2.2.2.2.2.2.2.2.2.2.2.2.2.2.1, o.2.2.2.2.2.2.2.2.2.2.2.2.2.2.2.1, v, o.2.2.2.2.2.2.2.2.2.2.2.2.2.2.2.2.2.1, o.2.2.2.2.2.2.2.2.2.2.2.2.2.2.2.2.2.2.1, o.2.2.2.2.2.2.2.2.2.2.2.2.2.2.2.2.2.2.2.1, o.2.2.2.2.2.2.2.2.2.2.2.2.2.2.2.2.2.2.2.2)
def s_selUseC (o : Ob) (v : Int32) : Ob := (o.1, o.2.1, o.2.2.1, o.2.2.2.1, o.2.2.2.2.1, o.2.2.2.2.2.1, o.2.2.2.2.2.2.1, o.2.2.2.2.2.2.2.1, o.2.2.2.2.2.2.2.2.1, o.2.2.2.2.2.2.2.2.2.1, o.2.2.2.2.2.2.2.2.2.2.1, o.2.2.2.2.2.2.2.2.2.2.2.1, o.2.2.2.2.2.2.2.2.2.2.2.2.1, o.2.2.2.2.2.2.2.2.2.2.2.2.2.1, o.2.2.2.2.2.2.2.2.2.2.2.2.2.2.1, o.2.2.2.2.2.2.2.2.2.2.2.2.2.2.2.1, o.2.2.2.2.2.2.2.2.2.2.2.2.2.2.2.2.1, v, o.2.2.2.2.2.2.2.2.2.2.2.2.2.2.2.2.2.2.1, o.2.2.2.2.2.2.2.2.2.2.2.2.2.2.2.2.2.2.2.1, o.2.2.2.2.2.2.2.2.2.2.2.2.2.2.2.2.2.2.2.2)
def s_selCk (o : Ob) (v : Int32) : Ob := (o.1, o.2.1, o.2.2.1, o.2.2.2.1, o.2.2.2.2.1, o.2.2.2.2.2.1, o.2.2.2.2.2.2.1, o.2.2.2.2.2.2.2.1, o.2.2.2.2.2.2.2.2.1, o.2.2.2.2.2.2.2.2.2.1, o.2.2.2.2.2.2.2.2.2.2.1, o.2.2.2.2.2.2.2.2.2.2.2.1, o.2.2.2.2.2.2.2.2.2.2.2.2.1, o.2.2.2.2.2.2.2.2.2.2.2.2.2.1, o.2.2.2.2.2.2.2.2.2.2.2.2.2.2.1, o.2.2.2.2.2.2.2.2.2.2.2.2.2.2.2.1, o.2.2.2.2.2.2.2.2.2.2.2.2.2.2.2.2.1, o.2.2.2.2.2.2.2.2.2.2.2.2.2.2.2.2.2.1, v, o.2.2.2.2.2.2.2.2.2.2.2.2.2.2.2.2.2.2.2.1, o.2.2.2.2.2.2.2.2.2.2.2.2.2.2.2.2.2.2.2.2)
def s_gCount (o : Ob) (v : Int32) : Ob := (o.1, o.2.1, o.2.2.1, o.2.2.2.1, o.2.2.2.2.1, o.2.2.2.2.2.1, o.2.2.2.2.2.2.1, o.2.2.2.2.2.2.2.1, o.2.2.2.2.2.2.2.2.1, o.2.2.2.2.2.2.2.2.2.1, o.2.2.2.2.2.2.2.2.2.2.1, o.2.2.2.2.2.2.2.2.2.2.2.1, o.2.2.2.2.2.2.2.2.2.2.2.2.1, o.2.2.2.2.2.2.2.2.2.2.2.2.2.1, o.2.2.2.2.2.2.2.2.2.2.2.2.2.2.1, o.2.2.2.2.2.2.2.2.2.2.2.2.2.2.2.1, o.2.2.2.2.2.2.2.2.2.2.2.2.2.2.2.2.1, o.2.2.2.2.2.2.2.2.2.2.2.2.2.2.2.2.2.1, o.2.2.2.2.2.2.2.2.2.2.2.2.2.2.2.2.2.2.1, v, o.2.2.2.2.2.2.2.2.2.2.2.2.2.2.2.2.2.2.2.2)
def s_gVal (o : Ob) (v : Int32) : Ob := (o.1, o.2.1, o.2.2.1, o.2.2.2.1, o.2.2.2.2.1, o.2.2.2.2.2.1, o.2.2.2.2.2.2.1, o.2.2.2.2.2.2.2.1, o.2.2.2.2.2.2.2.2.1, o.2.2.2.2.2.2.2.2.2.1, o.2.2.2.2.2.2.2.2.2.2.1, o.2.2.2.2.2.2.2.2.2.2.2.1, o.2.2.2.2.2.2.2.2.2.2.2.2.1, o.2.2.2.2.2.2.2.2.2.2.2.2.2.1, o.2.2.2.2.2.2.2.2.2.2.2.2.2.2.1, o.2.2.2.2.2.2.2.2.2.2.2.2.2.2.2.1, o.2.2.2.2.2.2.2.2.2.2.2.2.2.2.2.2.1, o.2.2.2.2.2.2.2.2.2.2.2.2.2.2.2.2.2.1, o.2.2.2.2.2.2.2.2.2.2.2.2.2.2.2.2.2.2.1, o.2.2.2.2.2.2.2.2.2.2.2.2.2.2.2.2.2.2.2.1, v)
theorem fs (o : Ob) : f_data o = o.1 ∧ f_filled o = o.2.1 ∧ f_rf o = o.2.2.1 ∧ f_cf o = o.2.2.2.1 ∧ f_vf o = o.2.2.2.2.1 ∧ f_ag o = o.2.2.2.2.2.1 ∧ f_fMode o = o.2.2.2.2.2.2.1 ∧ f_fRk o = o.2.2.2.2.2.2.2.1 ∧ f_fCk o = o.2.2.2.2.2.2.2.2.1 ∧ f_prevVal o = o.2.2.2.2.2.2.2.2.2.1 ∧ f_prevFound o = o.2.2.2.2.2.2.2.2.2.2.1 ∧ f_keys o = o.2.2.2.2.2.2.2.2.2.2.2.1 ∧ f_nRows o = o.2.2.2.2.2.2.2.2.2.2.2.2.1 ∧ f_nForms o = o.2.2.2.2.2.2.2.2.2.2.2.2.2.1 ∧ f_last o = o.2.2.2.2.2.2.2.2.2.2.2.2.2.2.1 ∧ f_selUseR o = o.2.2.2.2.2.2.2.2.2.2.2.2.2.2.2.1 ∧ f_selRk o = o.2.2.2.2.2.2.2.2.2.2.2.2.2.2.2.2.1 ∧ f_selUseC o = o.2.2.2.2.2.2.2.2.2.2.2.2.2.2.2.2.2.1 ∧ f_selCk o = o.2.2.2.2.2.2.2.2.2.2.2.2.2.2.2.2.2.2.1 ∧ f_gCount o = o.2.2.2.2.2.2.2.2.2.2.2.2.2.2.2.2.2.2.2.1 ∧ f_gVal o = o.2.2.2.2.2.2.2.2.2.2.2.2.2.2.2.2.2.2.2.2 := by simp only [f_data, f_filled, f_rf, f_cf, f_vf, f_ag, f_fMode, f_fRk, f_fCk, f_prevVal, f_prevFound, f_keys, f_nRows, f_nForms, f_last, f_selUseR, f_selRk, f_selUseC, f_selCk, f_gCount, f_gVal, and_self]
def ob0 : Ob := ([], [], 0, 0, 0, 0, [], [], [], [], [], [], 0, 0, 0, 0, 0, 0, 0, 0, 0)
section Walks
variable {l : Launch} {Z : State} {n0 : Nat} {ad : Nat → Addr} {a0 : Array Value}
set_option maxRecDepth 20000
set_option maxHeartbeats 2000000
abbrev tt : Bool := true
abbrev ff : Bool := false
open QTri renaming steps → zS, brT → zT, brF → zF, bnd → zB, mask → zM
open Option (bind_eq_some_iff)
open Classical (em)
/-- cell([II)I -/
def F1 (s : List Int32) (x1 : Int32) : Option (Int32) :=
 (if x1 < (s.length.toInt32) then (aget s x1).bind fun y2 => some y2 else some (0:Int32))
theorem tF1 (Ad : QAd n0 ad) (W : QW Z a0) (e0 : Ob) (s : List Int32) (x1 : Int32) {r : Int32} (h : F1 s x1 = some r) : QTri l Z n0 ad 1 (0, qentry [.ref 0, .int x1] (pMaxL 1), [], [.inr (.inl (.int, s)), .inl [.null, .null, .int (f_rf e0), .int (f_cf e0), .int (f_vf e0), .int (f_ag e0), .null, .null, .null, .null, .null, .null, .int (f_nRows e0), .int (f_nForms e0), .int (f_last e0), .int (f_selUseR e0), .int (f_selRk e0), .int (f_selUseC e0), .int (f_selCk e0), .int (f_gCount e0), .int (f_gVal e0)]]) (some (Value.int r)) [.inr (.inl (.int, s)), .inl [.null, .null, .int (f_rf e0), .int (f_cf e0), .int (f_vf e0), .int (f_ag e0), .null, .null, .null, .null, .null, .null, .int (f_nRows e0), .int (f_nForms e0), .int (f_last e0), .int (f_selUseR e0), .int (f_selRk e0), .int (f_selUseC e0), .int (f_selCk e0), .int (f_gCount e0), .int (f_gVal e0)]] := by
 unfold F1 at h
 refine zS Ad W 3 (st' := (3, [vR 0, vI x1], [.int (s.length.toInt32), .int x1], [.inr (.inl (.int, s)), .inl [.null, .null, .int (f_rf e0), .int (f_cf e0), .int (f_vf e0), .int (f_ag e0), .null, .null, .null, .null, .null, .null, .int (f_nRows e0), .int (f_nForms e0), .int (f_last e0), .int (f_selUseR e0), .int (f_selRk e0), .int (f_selUseC e0), .int (f_selCk e0), .int (f_gCount e0), .int (f_gVal e0)]])) rfl ?_
 rcases qite h with ⟨hc1, h⟩ | ⟨hc1, h⟩
 ·refine zF Ad W (t := 12) (f := 6) rfl (XT.ii_ge_f hc1) ?_
  refine zS Ad W 2 (st' := (8, [vR 0, vI x1], [.int x1, .ref 0], [.inr (.inl (.int, s)), .inl [.null, .null, .int (f_rf e0), .int (f_cf e0), .int (f_vf e0), .int (f_ag e0), .null, .null, .null, .null, .null, .null, .int (f_nRows e0), .int (f_nForms e0), .int (f_last e0), .int (f_selUseR e0), .int (f_selRk e0), .int (f_selUseC e0), .int (f_selCk e0), .int (f_gCount e0), .int (f_gVal e0)]])) rfl ?_
  obtain ⟨y2, hy2, h⟩ := bind_eq_some_iff.mp h
  refine zB Ad W (f := fun y2 => (9, [vR 0, vI x1], [.int y2], [.inr (.inl (.int, s)), .inl [.null, .null, .int (f_rf e0), .int (f_cf e0), .int (f_vf e0), .int (f_ag e0), .null, .null, .null, .null, .null, .null, .int (f_nRows e0), .int (f_nForms e0), .int (f_last e0), .int (f_selUseR e0), .int (f_selRk e0), .int (f_selUseC e0), .int (f_selCk e0), .int (f_gCount e0), .int (f_gVal e0)]])) rfl hy2 ?_
  refine zS Ad W 1 (st' := (13, [vR 0, vI x1], [.int y2], [.inr (.inl (.int, s)), .inl [.null, .null, .int (f_rf e0), .int (f_cf e0), .int (f_vf e0), .int (f_ag e0), .null, .null, .null, .null, .null, .null, .int (f_nRows e0), .int (f_nForms e0), .int (f_last e0), .int (f_selUseR e0), .int (f_selRk e0), .int (f_selUseC e0), .int (f_selCk e0), .int (f_gCount e0), .int (f_gVal e0)]])) rfl ?_
  obtain rfl := Option.some.inj h
  exact QTri.retI rfl rfl
 ·refine zT Ad W (t := 12) (f := 6) rfl (XT.ii_ge_t hc1) ?_
  refine zS Ad W 1 (st' := (13, [vR 0, vI x1], [.int (0:Int32)], [.inr (.inl (.int, s)), .inl [.null, .null, .int (f_rf e0), .int (f_cf e0), .int (f_vf e0), .int (f_ag e0), .null, .null, .null, .null, .null, .null, .int (f_nRows e0), .int (f_nForms e0), .int (f_last e0), .int (f_selUseR e0), .int (f_selRk e0), .int (f_selUseC e0), .int (f_selCk e0), .int (f_gCount e0), .int (f_gVal e0)]])) rfl ?_
  obtain rfl := Option.some.inj h
  exact QTri.retI rfl rfl
def H0 (s : List Int32) (o0 : Ob) : QHeap := [.inr (.inl (.int, s)), .inl [.ref 2, .ref 3, .int (f_rf o0), .int (f_cf o0), .int (f_vf o0), .int (f_ag o0), .ref 4, .ref 5, .ref 6, .ref 7, .ref 8, .ref 9, .int (f_nRows o0), .int (f_nForms o0), .int (f_last o0), .int (f_selUseR o0), .int (f_selRk o0), .int (f_selUseC o0), .int (f_selCk o0), .int (f_gCount o0), .int (f_gVal o0)], .inr (.inl (.int, (f_data o0))), .inr (.inl (.boolean, (f_filled o0))), .inr (.inl (.int, (f_fMode o0))), .inr (.inl (.int, (f_fRk o0))), .inr (.inl (.int, (f_fCk o0))), .inr (.inl (.int, (f_prevVal o0))), .inr (.inl (.boolean, (f_prevFound o0))), .inr (.inl (.int, (f_keys o0)))]
def H0v (s : List Int32) (a0_0 : List Int32) (a0_1 : List Int32) (a0_2 : Int32) (a0_3 : Int32) (a0_4 : Int32) (a0_5 : Int32) (a0_6 : List Int32) (a0_7 : List Int32) (a0_8 : List Int32) (a0_9 : List Int32) (a0_10 : List Int32) (a0_11 : List Int32) (a0_12 : Int32) (a0_13 : Int32) (a0_14 : Int32) (a0_15 : Int32) (a0_16 : Int32) (a0_17 : Int32) (a0_18 : Int32) (a0_19 : Int32) (a0_20 : Int32) : QHeap := [.inr (.inl (.int, s)), .inl [.ref 2, .ref 3, .int a0_2, .int a0_3, .int a0_4, .int a0_5, .ref 4, .ref 5, .ref 6, .ref 7, .ref 8, .ref 9, .int a0_12, .int a0_13, .int a0_14, .int a0_15, .int a0_16, .int a0_17, .int a0_18, .int a0_19, .int a0_20], .inr (.inl (.int, a0_0)), .inr (.inl (.boolean, a0_1)), .inr (.inl (.int, a0_6)), .inr (.inl (.int, a0_7)), .inr (.inl (.int, a0_8)), .inr (.inl (.int, a0_9)), .inr (.inl (.boolean, a0_10)), .inr (.inl (.int, a0_11))]
def H0x0 (s : List Int32) (o0 : Ob) (a0_0 : List Int32) (a0_1 : List Int32) (a0_2 : Int32) (a0_3 : Int32) (a0_4 : Int32) (a0_5 : Int32) (a0_6 : List Int32) (a0_7 : List Int32) (a0_8 : List Int32) (a0_9 : List Int32) (a0_10 : List Int32) (a0_11 : List Int32) : QHeap := H0v s a0_0 a0_1 a0_2 a0_3 a0_4 a0_5 a0_6 a0_7 a0_8 a0_9 a0_10 a0_11 (f_nRows o0) (f_nForms o0) (f_last o0) (f_selUseR o0) (f_selRk o0) (f_selUseC o0) (f_selCk o0) (f_gCount o0) (f_gVal o0)
def H0x1 (s : List Int32) (o0 : Ob) (a0_0 : List Int32) (a0_1 : List Int32) (a0_2 : Int32) (a0_3 : Int32) (a0_4 : Int32) (a0_5 : Int32) (a0_6 : List Int32) (a0_7 : List Int32) (a0_8 : List Int32) (a0_9 : List Int32) (a0_10 : List Int32) (a0_11 : List Int32) (a0_12 : Int32) : QHeap := H0v s a0_0 a0_1 a0_2 a0_3 a0_4 a0_5 a0_6 a0_7 a0_8 a0_9 a0_10 a0_11 a0_12 (f_nForms o0) (f_last o0) (f_selUseR o0) (f_selRk o0) (f_selUseC o0) (f_selCk o0) (f_gCount o0) (f_gVal o0)
def H0x2 (s : List Int32) (o0 : Ob) (a0_0 : List Int32) (a0_1 : List Int32) (a0_2 : Int32) (a0_3 : Int32) (a0_4 : Int32) (a0_5 : Int32) (a0_6 : List Int32) (a0_7 : List Int32) (a0_8 : List Int32) (a0_9 : List Int32) (a0_10 : List Int32) (a0_11 : List Int32) (a0_12 : Int32) (a0_13 : Int32) : QHeap := H0v s a0_0 a0_1 a0_2 a0_3 a0_4 a0_5 a0_6 a0_7 a0_8 a0_9 a0_10 a0_11 a0_12 a0_13 (f_last o0) (f_selUseR o0) (f_selRk o0) (f_selUseC o0) (f_selCk o0) (f_gCount o0) (f_gVal o0)
def H0x3 (s : List Int32) (o0 : Ob) (a0_0 : List Int32) (a0_1 : List Int32) (a0_2 : Int32) (a0_3 : Int32) (a0_4 : Int32) (a0_5 : Int32) (a0_6 : List Int32) (a0_7 : List Int32) (a0_8 : List Int32) (a0_9 : List Int32) (a0_10 : List Int32) (a0_11 : List Int32) (a0_12 : Int32) (a0_13 : Int32) (a0_14 : Int32) : QHeap := H0v s a0_0 a0_1 a0_2 a0_3 a0_4 a0_5 a0_6 a0_7 a0_8 a0_9 a0_10 a0_11 a0_12 a0_13 a0_14 (f_selUseR o0) (f_selRk o0) (f_selUseC o0) (f_selCk o0) (f_gCount o0) (f_gVal o0)
/-- init(II)V -/
def F2 (x1 : Int32) (x2 : Int32) : Option (Ob) :=
 some (s_last (s_nForms (s_nRows (s_keys (s_prevFound (s_prevVal (s_fCk (s_fRk (s_fMode (s_ag (s_vf (s_cf (s_rf (s_filled (s_data ob0 (List.replicate 128 0)) (List.replicate 32 0)) (0:Int32)) (1:Int32)) (2:Int32)) (0:Int32)) (List.replicate 16 0)) (List.replicate 16 0)) (List.replicate 16 0)) (List.replicate 16 0)) (List.replicate 16 0)) (List.replicate 64 0)) (if (32:Int32) < (if x1 < (4:Int32) then (4:Int32) else x1) then (32:Int32) else (if x1 < (4:Int32) then (4:Int32) else x1))) (if (16:Int32) < (if x2 < (1:Int32) then (1:Int32) else x2) then (16:Int32) else (if x2 < (1:Int32) then (1:Int32) else x2))) (0:Int32))
theorem tF2 (Ad : QAd n0 ad) (W : QW Z a0) (s : List Int32) (x1 : Int32) (x2 : Int32) {r : Ob} (h : F2 x1 x2 = some r) : QTri l Z n0 ad 2 (0, qentry [.ref 1, .int x1, .int x2] (pMaxL 2), [], [.inr (.inl (.int, s)), .inl [.null, .null, .int (f_rf ob0), .int (f_cf ob0), .int (f_vf ob0), .int (f_ag ob0), .null, .null, .null, .null, .null, .null, .int (f_nRows ob0), .int (f_nForms ob0), .int (f_last ob0), .int (f_selUseR ob0), .int (f_selRk ob0), .int (f_selUseC ob0), .int (f_selCk ob0), .int (f_gCount ob0), .int (f_gVal ob0)]]) (none : Option Value) (H0 s r) := by
 unfold F2 at h
 refine zS Ad W 1 (st' := (1, [vR 1, vI x1, vI x2, none, none], [.ref 1], [.inr (.inl (.int, s)), .inl [.null, .null, .int (f_rf ob0), .int (f_cf ob0), .int (f_vf ob0), .int (f_ag ob0), .null, .null, .null, .null, .null, .null, .int (f_nRows ob0), .int (f_nForms ob0), .int (f_last ob0), .int (f_selUseR ob0), .int (f_selRk ob0), .int (f_selUseC ob0), .int (f_selCk ob0), .int (f_gCount ob0), .int (f_gVal ob0)]])) rfl ?_
 refine QTri.callO W rfl rfl rfl ?_
 refine zS Ad W 3 (st' := (10, [vR 1, vI x1, vI x2, none, none], [.ref 2, .ref 1], [.inr (.inl (.int, s)), .inl [.null, .null, .int (f_rf ob0), .int (f_cf ob0), .int (f_vf ob0), .int (f_ag ob0), .null, .null, .null, .null, .null, .null, .int (f_nRows ob0), .int (f_nForms ob0), .int (f_last ob0), .int (f_selUseR ob0), .int (f_selRk ob0), .int (f_selUseC ob0), .int (f_selCk ob0), .int (f_gCount ob0), .int (f_gVal ob0)], .inr (.inl (.int, (List.replicate 128 0)))])) rfl ?_
 refine zS Ad W 1 (st' := (13, [vR 1, vI x1, vI x2, none, none], [], [.inr (.inl (.int, s)), .inl [.ref 2, .null, .int (f_rf ob0), .int (f_cf ob0), .int (f_vf ob0), .int (f_ag ob0), .null, .null, .null, .null, .null, .null, .int (f_nRows ob0), .int (f_nForms ob0), .int (f_last ob0), .int (f_selUseR ob0), .int (f_selRk ob0), .int (f_selUseC ob0), .int (f_selCk ob0), .int (f_gCount ob0), .int (f_gVal ob0)], .inr (.inl (.int, (List.replicate 128 0)))])) rfl ?_
 refine zS Ad W 3 (st' := (18, [vR 1, vI x1, vI x2, none, none], [.ref 3, .ref 1], [.inr (.inl (.int, s)), .inl [.ref 2, .null, .int (f_rf ob0), .int (f_cf ob0), .int (f_vf ob0), .int (f_ag ob0), .null, .null, .null, .null, .null, .null, .int (f_nRows ob0), .int (f_nForms ob0), .int (f_last ob0), .int (f_selUseR ob0), .int (f_selRk ob0), .int (f_selUseC ob0), .int (f_selCk ob0), .int (f_gCount ob0), .int (f_gVal ob0)], .inr (.inl (.int, (List.replicate 128 0))), .inr (.inl (.boolean, (List.replicate 32 0)))])) rfl ?_
 refine zS Ad W 1 (st' := (21, [vR 1, vI x1, vI x2, none, none], [], [.inr (.inl (.int, s)), .inl [.ref 2, .ref 3, .int (f_rf ob0), .int (f_cf ob0), .int (f_vf ob0), .int (f_ag ob0), .null, .null, .null, .null, .null, .null, .int (f_nRows ob0), .int (f_nForms ob0), .int (f_last ob0), .int (f_selUseR ob0), .int (f_selRk ob0), .int (f_selUseC ob0), .int (f_selCk ob0), .int (f_gCount ob0), .int (f_gVal ob0)], .inr (.inl (.int, (List.replicate 128 0))), .inr (.inl (.boolean, (List.replicate 32 0)))])) rfl ?_
 refine zS Ad W 3 (st' := (26, [vR 1, vI x1, vI x2, none, none], [], [.inr (.inl (.int, s)), .inl [.ref 2, .ref 3, .int (0:Int32), .int (f_cf ob0), .int (f_vf ob0), .int (f_ag ob0), .null, .null, .null, .null, .null, .null, .int (f_nRows ob0), .int (f_nForms ob0), .int (f_last ob0), .int (f_selUseR ob0), .int (f_selRk ob0), .int (f_selUseC ob0), .int (f_selCk ob0), .int (f_gCount ob0), .int (f_gVal ob0)], .inr (.inl (.int, (List.replicate 128 0))), .inr (.inl (.boolean, (List.replicate 32 0)))])) rfl ?_
 refine zS Ad W 3 (st' := (31, [vR 1, vI x1, vI x2, none, none], [], [.inr (.inl (.int, s)), .inl [.ref 2, .ref 3, .int (0:Int32), .int (1:Int32), .int (f_vf ob0), .int (f_ag ob0), .null, .null, .null, .null, .null, .null, .int (f_nRows ob0), .int (f_nForms ob0), .int (f_last ob0), .int (f_selUseR ob0), .int (f_selRk ob0), .int (f_selUseC ob0), .int (f_selCk ob0), .int (f_gCount ob0), .int (f_gVal ob0)], .inr (.inl (.int, (List.replicate 128 0))), .inr (.inl (.boolean, (List.replicate 32 0)))])) rfl ?_
 refine zS Ad W 3 (st' := (36, [vR 1, vI x1, vI x2, none, none], [], [.inr (.inl (.int, s)), .inl [.ref 2, .ref 3, .int (0:Int32), .int (1:Int32), .int (2:Int32), .int (f_ag ob0), .null, .null, .null, .null, .null, .null, .int (f_nRows ob0), .int (f_nForms ob0), .int (f_last ob0), .int (f_selUseR ob0), .int (f_selRk ob0), .int (f_selUseC ob0), .int (f_selCk ob0), .int (f_gCount ob0), .int (f_gVal ob0)], .inr (.inl (.int, (List.replicate 128 0))), .inr (.inl (.boolean, (List.replicate 32 0)))])) rfl ?_
 refine zS Ad W 3 (st' := (41, [vR 1, vI x1, vI x2, none, none], [], [.inr (.inl (.int, s)), .inl [.ref 2, .ref 3, .int (0:Int32), .int (1:Int32), .int (2:Int32), .int (0:Int32), .null, .null, .null, .null, .null, .null, .int (f_nRows ob0), .int (f_nForms ob0), .int (f_last ob0), .int (f_selUseR ob0), .int (f_selRk ob0), .int (f_selUseC ob0), .int (f_selCk ob0), .int (f_gCount ob0), .int (f_gVal ob0)], .inr (.inl (.int, (List.replicate 128 0))), .inr (.inl (.boolean, (List.replicate 32 0)))])) rfl ?_
 refine zS Ad W 3 (st' := (46, [vR 1, vI x1, vI x2, none, none], [.ref 4, .ref 1], [.inr (.inl (.int, s)), .inl [.ref 2, .ref 3, .int (0:Int32), .int (1:Int32), .int (2:Int32), .int (0:Int32), .null, .null, .null, .null, .null, .null, .int (f_nRows ob0), .int (f_nForms ob0), .int (f_last ob0), .int (f_selUseR ob0), .int (f_selRk ob0), .int (f_selUseC ob0), .int (f_selCk ob0), .int (f_gCount ob0), .int (f_gVal ob0)], .inr (.inl (.int, (List.replicate 128 0))), .inr (.inl (.boolean, (List.replicate 32 0))), .inr (.inl (.int, (List.replicate 16 0)))])) rfl ?_
 refine zS Ad W 1 (st' := (49, [vR 1, vI x1, vI x2, none, none], [], [.inr (.inl (.int, s)), .inl [.ref 2, .ref 3, .int (0:Int32), .int (1:Int32), .int (2:Int32), .int (0:Int32), .ref 4, .null, .null, .null, .null, .null, .int (f_nRows ob0), .int (f_nForms ob0), .int (f_last ob0), .int (f_selUseR ob0), .int (f_selRk ob0), .int (f_selUseC ob0), .int (f_selCk ob0), .int (f_gCount ob0), .int (f_gVal ob0)], .inr (.inl (.int, (List.replicate 128 0))), .inr (.inl (.boolean, (List.replicate 32 0))), .inr (.inl (.int, (List.replicate 16 0)))])) rfl ?_
 refine zS Ad W 3 (st' := (54, [vR 1, vI x1, vI x2, none, none], [.ref 5, .ref 1], [.inr (.inl (.int, s)), .inl [.ref 2, .ref 3, .int (0:Int32), .int (1:Int32), .int (2:Int32), .int (0:Int32), .ref 4, .null, .null, .null, .null, .null, .int (f_nRows ob0), .int (f_nForms ob0), .int (f_last ob0), .int (f_selUseR ob0), .int (f_selRk ob0), .int (f_selUseC ob0), .int (f_selCk ob0), .int (f_gCount ob0), .int (f_gVal ob0)], .inr (.inl (.int, (List.replicate 128 0))), .inr (.inl (.boolean, (List.replicate 32 0))), .inr (.inl (.int, (List.replicate 16 0))), .inr (.inl (.int, (List.replicate 16 0)))])) rfl ?_
 refine zS Ad W 1 (st' := (57, [vR 1, vI x1, vI x2, none, none], [], [.inr (.inl (.int, s)), .inl [.ref 2, .ref 3, .int (0:Int32), .int (1:Int32), .int (2:Int32), .int (0:Int32), .ref 4, .ref 5, .null, .null, .null, .null, .int (f_nRows ob0), .int (f_nForms ob0), .int (f_last ob0), .int (f_selUseR ob0), .int (f_selRk ob0), .int (f_selUseC ob0), .int (f_selCk ob0), .int (f_gCount ob0), .int (f_gVal ob0)], .inr (.inl (.int, (List.replicate 128 0))), .inr (.inl (.boolean, (List.replicate 32 0))), .inr (.inl (.int, (List.replicate 16 0))), .inr (.inl (.int, (List.replicate 16 0)))])) rfl ?_
 refine zS Ad W 3 (st' := (62, [vR 1, vI x1, vI x2, none, none], [.ref 6, .ref 1], [.inr (.inl (.int, s)), .inl [.ref 2, .ref 3, .int (0:Int32), .int (1:Int32), .int (2:Int32), .int (0:Int32), .ref 4, .ref 5, .null, .null, .null, .null, .int (f_nRows ob0), .int (f_nForms ob0), .int (f_last ob0), .int (f_selUseR ob0), .int (f_selRk ob0), .int (f_selUseC ob0), .int (f_selCk ob0), .int (f_gCount ob0), .int (f_gVal ob0)], .inr (.inl (.int, (List.replicate 128 0))), .inr (.inl (.boolean, (List.replicate 32 0))), .inr (.inl (.int, (List.replicate 16 0))), .inr (.inl (.int, (List.replicate 16 0))), .inr (.inl (.int, (List.replicate 16 0)))])) rfl ?_
 refine zS Ad W 1 (st' := (65, [vR 1, vI x1, vI x2, none, none], [], [.inr (.inl (.int, s)), .inl [.ref 2, .ref 3, .int (0:Int32), .int (1:Int32), .int (2:Int32), .int (0:Int32), .ref 4, .ref 5, .ref 6, .null, .null, .null, .int (f_nRows ob0), .int (f_nForms ob0), .int (f_last ob0), .int (f_selUseR ob0), .int (f_selRk ob0), .int (f_selUseC ob0), .int (f_selCk ob0), .int (f_gCount ob0), .int (f_gVal ob0)], .inr (.inl (.int, (List.replicate 128 0))), .inr (.inl (.boolean, (List.replicate 32 0))), .inr (.inl (.int, (List.replicate 16 0))), .inr (.inl (.int, (List.replicate 16 0))), .inr (.inl (.int, (List.replicate 16 0)))])) rfl ?_
 refine zS Ad W 3 (st' := (70, [vR 1, vI x1, vI x2, none, none], [.ref 7, .ref 1], [.inr (.inl (.int, s)), .inl [.ref 2, .ref 3, .int (0:Int32), .int (1:Int32), .int (2:Int32), .int (0:Int32), .ref 4, .ref 5, .ref 6, .null, .null, .null, .int (f_nRows ob0), .int (f_nForms ob0), .int (f_last ob0), .int (f_selUseR ob0), .int (f_selRk ob0), .int (f_selUseC ob0), .int (f_selCk ob0), .int (f_gCount ob0), .int (f_gVal ob0)], .inr (.inl (.int, (List.replicate 128 0))), .inr (.inl (.boolean, (List.replicate 32 0))), .inr (.inl (.int, (List.replicate 16 0))), .inr (.inl (.int, (List.replicate 16 0))), .inr (.inl (.int, (List.replicate 16 0))), .inr (.inl (.int, (List.replicate 16 0)))])) rfl ?_
 refine zS Ad W 1 (st' := (73, [vR 1, vI x1, vI x2, none, none], [], [.inr (.inl (.int, s)), .inl [.ref 2, .ref 3, .int (0:Int32), .int (1:Int32), .int (2:Int32), .int (0:Int32), .ref 4, .ref 5, .ref 6, .ref 7, .null, .null, .int (f_nRows ob0), .int (f_nForms ob0), .int (f_last ob0), .int (f_selUseR ob0), .int (f_selRk ob0), .int (f_selUseC ob0), .int (f_selCk ob0), .int (f_gCount ob0), .int (f_gVal ob0)], .inr (.inl (.int, (List.replicate 128 0))), .inr (.inl (.boolean, (List.replicate 32 0))), .inr (.inl (.int, (List.replicate 16 0))), .inr (.inl (.int, (List.replicate 16 0))), .inr (.inl (.int, (List.replicate 16 0))), .inr (.inl (.int, (List.replicate 16 0)))])) rfl ?_
 refine zS Ad W 3 (st' := (78, [vR 1, vI x1, vI x2, none, none], [.ref 8, .ref 1], [.inr (.inl (.int, s)), .inl [.ref 2, .ref 3, .int (0:Int32), .int (1:Int32), .int (2:Int32), .int (0:Int32), .ref 4, .ref 5, .ref 6, .ref 7, .null, .null, .int (f_nRows ob0), .int (f_nForms ob0), .int (f_last ob0), .int (f_selUseR ob0), .int (f_selRk ob0), .int (f_selUseC ob0), .int (f_selCk ob0), .int (f_gCount ob0), .int (f_gVal ob0)], .inr (.inl (.int, (List.replicate 128 0))), .inr (.inl (.boolean, (List.replicate 32 0))), .inr (.inl (.int, (List.replicate 16 0))), .inr (.inl (.int, (List.replicate 16 0))), .inr (.inl (.int, (List.replicate 16 0))), .inr (.inl (.int, (List.replicate 16 0))), .inr (.inl (.boolean, (List.replicate 16 0)))])) rfl ?_
 refine zS Ad W 1 (st' := (81, [vR 1, vI x1, vI x2, none, none], [], [.inr (.inl (.int, s)), .inl [.ref 2, .ref 3, .int (0:Int32), .int (1:Int32), .int (2:Int32), .int (0:Int32), .ref 4, .ref 5, .ref 6, .ref 7, .ref 8, .null, .int (f_nRows ob0), .int (f_nForms ob0), .int (f_last ob0), .int (f_selUseR ob0), .int (f_selRk ob0), .int (f_selUseC ob0), .int (f_selCk ob0), .int (f_gCount ob0), .int (f_gVal ob0)], .inr (.inl (.int, (List.replicate 128 0))), .inr (.inl (.boolean, (List.replicate 32 0))), .inr (.inl (.int, (List.replicate 16 0))), .inr (.inl (.int, (List.replicate 16 0))), .inr (.inl (.int, (List.replicate 16 0))), .inr (.inl (.int, (List.replicate 16 0))), .inr (.inl (.boolean, (List.replicate 16 0)))])) rfl ?_
 refine zS Ad W 3 (st' := (86, [vR 1, vI x1, vI x2, none, none], [.ref 9, .ref 1], [.inr (.inl (.int, s)), .inl [.ref 2, .ref 3, .int (0:Int32), .int (1:Int32), .int (2:Int32), .int (0:Int32), .ref 4, .ref 5, .ref 6, .ref 7, .ref 8, .null, .int (f_nRows ob0), .int (f_nForms ob0), .int (f_last ob0), .int (f_selUseR ob0), .int (f_selRk ob0), .int (f_selUseC ob0), .int (f_selCk ob0), .int (f_gCount ob0), .int (f_gVal ob0)], .inr (.inl (.int, (List.replicate 128 0))), .inr (.inl (.boolean, (List.replicate 32 0))), .inr (.inl (.int, (List.replicate 16 0))), .inr (.inl (.int, (List.replicate 16 0))), .inr (.inl (.int, (List.replicate 16 0))), .inr (.inl (.int, (List.replicate 16 0))), .inr (.inl (.boolean, (List.replicate 16 0))), .inr (.inl (.int, (List.replicate 64 0)))])) rfl ?_
 refine zS Ad W 1 (st' := (89, [vR 1, vI x1, vI x2, none, none], [], (H0x0 s ob0 (List.replicate 128 0) (List.replicate 32 0) (0:Int32) (1:Int32) (2:Int32) (0:Int32) (List.replicate 16 0) (List.replicate 16 0) (List.replicate 16 0) (List.replicate 16 0) (List.replicate 16 0) (List.replicate 64 0)))) rfl ?_
 refine zS Ad W 4 (st' := (93, [vR 1, vI x1, vI x2, vI x1, none], [.int (4:Int32), .int x1], (H0x0 s ob0 (List.replicate 128 0) (List.replicate 32 0) (0:Int32) (1:Int32) (2:Int32) (0:Int32) (List.replicate 16 0) (List.replicate 16 0) (List.replicate 16 0) (List.replicate 16 0) (List.replicate 16 0) (List.replicate 64 0)))) rfl ?_
 have K5 : ∀ z4 : Int32, z4 = (if x1 < (4:Int32) then (4:Int32) else x1) → QTri l Z n0 ad 2 (98, [vR 1, none, vI x2, vI z4, none], [], (H0x0 s ob0 (List.replicate 128 0) (List.replicate 32 0) (0:Int32) (1:Int32) (2:Int32) (0:Int32) (List.replicate 16 0) (List.replicate 16 0) (List.replicate 16 0) (List.replicate 16 0) (List.replicate 16 0) (List.replicate 64 0))) (none : Option Value) (H0 s r) := by
  intro z4 ez4
  subst ez4
  refine zS Ad W 2 (st' := (101, [vR 1, none, vI x2, vI (if x1 < (4:Int32) then (4:Int32) else x1), none], [.int (32:Int32), .int (if x1 < (4:Int32) then (4:Int32) else x1)], (H0x0 s ob0 (List.replicate 128 0) (List.replicate 32 0) (0:Int32) (1:Int32) (2:Int32) (0:Int32) (List.replicate 16 0) (List.replicate 16 0) (List.replicate 16 0) (List.replicate 16 0) (List.replicate 16 0) (List.replicate 64 0)))) rfl ?_
  have K8 : ∀ z7 : Int32, z7 = (if (32:Int32) < (if x1 < (4:Int32) then (4:Int32) else x1) then (32:Int32) else (if x1 < (4:Int32) then (4:Int32) else x1)) → QTri l Z n0 ad 2 (107, [vR 1, none, vI x2, vI z7, none], [], (H0x0 s ob0 (List.replicate 128 0) (List.replicate 32 0) (0:Int32) (1:Int32) (2:Int32) (0:Int32) (List.replicate 16 0) (List.replicate 16 0) (List.replicate 16 0) (List.replicate 16 0) (List.replicate 16 0) (List.replicate 64 0))) (none : Option Value) (H0 s r) := by
   intro z7 ez7
   subst ez7
   refine zS Ad W 4 (st' := (113, [vR 1, none, vI x2, vI (if (32:Int32) < (if x1 < (4:Int32) then (4:Int32) else x1) then (32:Int32) else (if x1 < (4:Int32) then (4:Int32) else x1)), vI x2], [.int (1:Int32), .int x2], (H0x0 s ob0 (List.replicate 128 0) (List.replicate 32 0) (0:Int32) (1:Int32) (2:Int32) (0:Int32) (List.replicate 16 0) (List.replicate 16 0) (List.replicate 16 0) (List.replicate 16 0) (List.replicate 16 0) (List.replicate 64 0)))) rfl ?_
   have K11 : ∀ z10 : Int32, z10 = (if x2 < (1:Int32) then (1:Int32) else x2) → QTri l Z n0 ad 2 (119, [vR 1, none, none, vI (if (32:Int32) < (if x1 < (4:Int32) then (4:Int32) else x1) then (32:Int32) else (if x1 < (4:Int32) then (4:Int32) else x1)), vI z10], [], (H0x0 s ob0 (List.replicate 128 0) (List.replicate 32 0) (0:Int32) (1:Int32) (2:Int32) (0:Int32) (List.replicate 16 0) (List.replicate 16 0) (List.replicate 16 0) (List.replicate 16 0) (List.replicate 16 0) (List.replicate 64 0))) (none : Option Value) (H0 s r) := by
    intro z10 ez10
    subst ez10
    refine zS Ad W 2 (st' := (123, [vR 1, none, none, vI (if (32:Int32) < (if x1 < (4:Int32) then (4:Int32) else x1) then (32:Int32) else (if x1 < (4:Int32) then (4:Int32) else x1)), vI (if x2 < (1:Int32) then (1:Int32) else x2)], [.int (16:Int32), .int (if x2 < (1:Int32) then (1:Int32) else x2)], (H0x0 s ob0 (List.replicate 128 0) (List.replicate 32 0) (0:Int32) (1:Int32) (2:Int32) (0:Int32) (List.replicate 16 0) (List.replicate 16 0) (List.replicate 16 0) (List.replicate 16 0) (List.replicate 16 0) (List.replicate 64 0)))) rfl ?_
    have K14 : ∀ z13 : Int32, z13 = (if (16:Int32) < (if x2 < (1:Int32) then (1:Int32) else x2) then (16:Int32) else (if x2 < (1:Int32) then (1:Int32) else x2)) → QTri l Z n0 ad 2 (130, [vR 1, none, none, vI (if (32:Int32) < (if x1 < (4:Int32) then (4:Int32) else x1) then (32:Int32) else (if x1 < (4:Int32) then (4:Int32) else x1)), vI z13], [], (H0x0 s ob0 (List.replicate 128 0) (List.replicate 32 0) (0:Int32) (1:Int32) (2:Int32) (0:Int32) (List.replicate 16 0) (List.replicate 16 0) (List.replicate 16 0) (List.replicate 16 0) (List.replicate 16 0) (List.replicate 64 0))) (none : Option Value) (H0 s r) := by
     intro z13 ez13
     subst ez13
     refine zS Ad W 3 (st' := (135, [vR 1, none, none, vI (if (32:Int32) < (if x1 < (4:Int32) then (4:Int32) else x1) then (32:Int32) else (if x1 < (4:Int32) then (4:Int32) else x1)), vI (if (16:Int32) < (if x2 < (1:Int32) then (1:Int32) else x2) then (16:Int32) else (if x2 < (1:Int32) then (1:Int32) else x2))], [], (H0x1 s ob0 (List.replicate 128 0) (List.replicate 32 0) (0:Int32) (1:Int32) (2:Int32) (0:Int32) (List.replicate 16 0) (List.replicate 16 0) (List.replicate 16 0) (List.replicate 16 0) (List.replicate 16 0) (List.replicate 64 0) (if (32:Int32) < (if x1 < (4:Int32) then (4:Int32) else x1) then (32:Int32) else (if x1 < (4:Int32) then (4:Int32) else x1))))) rfl ?_
     refine zS Ad W 3 (st' := (141, [vR 1, none, none, vI (if (32:Int32) < (if x1 < (4:Int32) then (4:Int32) else x1) then (32:Int32) else (if x1 < (4:Int32) then (4:Int32) else x1)), vI (if (16:Int32) < (if x2 < (1:Int32) then (1:Int32) else x2) then (16:Int32) else (if x2 < (1:Int32) then (1:Int32) else x2))], [], (H0x2 s ob0 (List.replicate 128 0) (List.replicate 32 0) (0:Int32) (1:Int32) (2:Int32) (0:Int32) (List.replicate 16 0) (List.replicate 16 0) (List.replicate 16 0) (List.replicate 16 0) (List.replicate 16 0) (List.replicate 64 0) (if (32:Int32) < (if x1 < (4:Int32) then (4:Int32) else x1) then (32:Int32) else (if x1 < (4:Int32) then (4:Int32) else x1)) (if (16:Int32) < (if x2 < (1:Int32) then (1:Int32) else x2) then (16:Int32) else (if x2 < (1:Int32) then (1:Int32) else x2))))) rfl ?_
     refine zS Ad W 3 (st' := (146, [vR 1, none, none, vI (if (32:Int32) < (if x1 < (4:Int32) then (4:Int32) else x1) then (32:Int32) else (if x1 < (4:Int32) then (4:Int32) else x1)), vI (if (16:Int32) < (if x2 < (1:Int32) then (1:Int32) else x2) then (16:Int32) else (if x2 < (1:Int32) then (1:Int32) else x2))], [], (H0x3 s ob0 (List.replicate 128 0) (List.replicate 32 0) (0:Int32) (1:Int32) (2:Int32) (0:Int32) (List.replicate 16 0) (List.replicate 16 0) (List.replicate 16 0) (List.replicate 16 0) (List.replicate 16 0) (List.replicate 64 0) (if (32:Int32) < (if x1 < (4:Int32) then (4:Int32) else x1) then (32:Int32) else (if x1 < (4:Int32) then (4:Int32) else x1)) (if (16:Int32) < (if x2 < (1:Int32) then (1:Int32) else x2) then (16:Int32) else (if x2 < (1:Int32) then (1:Int32) else x2)) (0:Int32)))) rfl ?_
     have E16 : ((H0x3 s ob0 (List.replicate 128 0) (List.replicate 32 0) (0:Int32) (1:Int32) (2:Int32) (0:Int32) (List.replicate 16 0) (List.replicate 16 0) (List.replicate 16 0) (List.replicate 16 0) (List.replicate 16 0) (List.replicate 64 0) (if (32:Int32) < (if x1 < (4:Int32) then (4:Int32) else x1) then (32:Int32) else (if x1 < (4:Int32) then (4:Int32) else x1)) (if (16:Int32) < (if x2 < (1:Int32) then (1:Int32) else x2) then (16:Int32) else (if x2 < (1:Int32) then (1:Int32) else x2)) (0:Int32)) : QHeap) = (H0 s (s_last (s_nForms (s_nRows (s_keys (s_prevFound (s_prevVal (s_fCk (s_fRk (s_fMode (s_ag (s_vf (s_cf (s_rf (s_filled (s_data ob0 (List.replicate 128 0)) (List.replicate 32 0)) (0:Int32)) (1:Int32)) (2:Int32)) (0:Int32)) (List.replicate 16 0)) (List.replicate 16 0)) (List.replicate 16 0)) (List.replicate 16 0)) (List.replicate 16 0)) (List.replicate 64 0)) (if (32:Int32) < (if x1 < (4:Int32) then (4:Int32) else x1) then (32:Int32) else (if x1 < (4:Int32) then (4:Int32) else x1))) (if (16:Int32) < (if x2 < (1:Int32) then (1:Int32) else x2) then (16:Int32) else (if x2 < (1:Int32) then (1:Int32) else x2))) (0:Int32))) := by simp only [fs, H0, H0v, H0x3, s_data, s_filled, s_rf, s_cf, s_vf, s_ag, s_fMode, s_fRk, s_fCk, s_prevVal, s_prevFound, s_keys, s_nRows, s_nForms, s_last, ob0]
     rw [E16]
     obtain rfl := Option.some.inj h
     exact QTri.ret0 rfl rfl
    rcases em ((16:Int32) < (if x2 < (1:Int32) then (1:Int32) else x2)) with hc15 | hc15
    ·refine zF Ad W (t := 130) (f := 126) rfl (XT.ii_le_f hc15) ?_
     refine zS Ad W 2 (st' := (130, [vR 1, none, none, vI (if (32:Int32) < (if x1 < (4:Int32) then (4:Int32) else x1) then (32:Int32) else (if x1 < (4:Int32) then (4:Int32) else x1)), vI (16:Int32)], [], (H0x0 s ob0 (List.replicate 128 0) (List.replicate 32 0) (0:Int32) (1:Int32) (2:Int32) (0:Int32) (List.replicate 16 0) (List.replicate 16 0) (List.replicate 16 0) (List.replicate 16 0) (List.replicate 16 0) (List.replicate 64 0)))) rfl ?_
     exact zM [tt,ff,ff,tt,tt] (K14 _ (if_pos hc15).symm)
    ·refine zT Ad W (t := 130) (f := 126) rfl (XT.ii_le_t hc15) ?_
     exact zM [tt,ff,ff,tt,tt] (K14 _ (if_neg hc15).symm)
   rcases em (x2 < (1:Int32)) with hc12 | hc12
   ·refine zF Ad W (t := 119) (f := 116) rfl (XT.ii_ge_f hc12) ?_
    refine zS Ad W 2 (st' := (119, [vR 1, none, vI x2, vI (if (32:Int32) < (if x1 < (4:Int32) then (4:Int32) else x1) then (32:Int32) else (if x1 < (4:Int32) then (4:Int32) else x1)), vI (1:Int32)], [], (H0x0 s ob0 (List.replicate 128 0) (List.replicate 32 0) (0:Int32) (1:Int32) (2:Int32) (0:Int32) (List.replicate 16 0) (List.replicate 16 0) (List.replicate 16 0) (List.replicate 16 0) (List.replicate 16 0) (List.replicate 64 0)))) rfl ?_
    exact zM [tt,ff,ff,tt,tt] (K11 _ (if_pos hc12).symm)
   ·refine zT Ad W (t := 119) (f := 116) rfl (XT.ii_ge_t hc12) ?_
    exact zM [tt,ff,ff,tt,tt] (K11 _ (if_neg hc12).symm)
  rcases em ((32:Int32) < (if x1 < (4:Int32) then (4:Int32) else x1)) with hc9 | hc9
  ·refine zF Ad W (t := 107) (f := 104) rfl (XT.ii_le_f hc9) ?_
   refine zS Ad W 2 (st' := (107, [vR 1, none, vI x2, vI (32:Int32), none], [], (H0x0 s ob0 (List.replicate 128 0) (List.replicate 32 0) (0:Int32) (1:Int32) (2:Int32) (0:Int32) (List.replicate 16 0) (List.replicate 16 0) (List.replicate 16 0) (List.replicate 16 0) (List.replicate 16 0) (List.replicate 64 0)))) rfl ?_
   exact zM [tt,ff,tt,tt,ff] (K8 _ (if_pos hc9).symm)
  ·refine zT Ad W (t := 107) (f := 104) rfl (XT.ii_le_t hc9) ?_
   exact zM [tt,ff,tt,tt,ff] (K8 _ (if_neg hc9).symm)
 rcases em (x1 < (4:Int32)) with hc6 | hc6
 ·refine zF Ad W (t := 98) (f := 96) rfl (XT.ii_ge_f hc6) ?_
  refine zS Ad W 2 (st' := (98, [vR 1, vI x1, vI x2, vI (4:Int32), none], [], (H0x0 s ob0 (List.replicate 128 0) (List.replicate 32 0) (0:Int32) (1:Int32) (2:Int32) (0:Int32) (List.replicate 16 0) (List.replicate 16 0) (List.replicate 16 0) (List.replicate 16 0) (List.replicate 16 0) (List.replicate 64 0)))) rfl ?_
  exact zM [tt,ff,tt,tt,ff] (K5 _ (if_pos hc6).symm)
 ·refine zT Ad W (t := 98) (f := 96) rfl (XT.ii_ge_t hc6) ?_
  exact zM [tt,ff,tt,tt,ff] (K5 _ (if_neg hc6).symm)
def J5_42 (o : Ob) (x1 : Int32) (x2 : Int32) (x3 : Int32) (x4 : Int32) : Option (((Int32 × Ob)) ⊕ (Int32 × Int32 × Ob)) :=
  some (.inr (x3, (x4 + (1 : Int32)), o))
theorem tJ5_42 (Ad : QAd n0 ad) (W : QW Z a0) (s : List Int32) (o : Ob) (x1 : Int32) (x2 : Int32) (x3 : Int32) (x4 : Int32) {r : ((Int32 × Ob)) ⊕ (Int32 × Int32 × Ob)} {u : Option Value} {τ : QHeap} (h : J5_42 o x1 x2 x3 x4 = some r) (hx0 : ∀ x : Int32 × Ob, r = .inl x → u = (some (Value.int x.1)) ∧ τ = (H0 s x.2)) (hc : ∀ x : Int32 × Int32 × Ob, r = .inr x → QTri l Z n0 ad 5 (5, [vR 1, vI x1, vI x2, vI x.1, vI x.2.1], [], (H0 s x.2.2)) u τ) : QTri l Z n0 ad 5 (42, [vR 1, vI x1, vI x2, vI x3, vI x4], [], (H0 s o)) u τ := by
 unfold J5_42 at h
 refine zS Ad W 2 (st' := (5, [vR 1, vI x1, vI x2, vI x3, vI (x4 + (1:Int32))], [], (H0 s o))) rfl ?_
 obtain rfl := Option.some.inj h
 exact zM [tt,tt,tt,tt,tt] (hc (x3, (x4 + (1:Int32)), o) rfl)
def B19_15 (o : Ob) (x1 : Int32) (x2 : Int32) (x3 : Int32) (v : Int32) : Option (((Int32)) ⊕ (Int32)) :=
  (if v < x2 then (aget (f_keys o) (x1 + v)).bind fun y25 => (if y25 < x3 then some (.inr (v + (1 : Int32))) else some (.inl v)) else some (.inl v))
theorem tB19_15 (Ad : QAd n0 ad) (W : QW Z a0) (s : List Int32) (o : Ob) (x1 : Int32) (x2 : Int32) (x3 : Int32) (v : Int32) {r : ((Int32)) ⊕ (Int32)} {u : Option Value} {τ : QHeap} (h : B19_15 o x1 x2 x3 v = some r) (hx0 : ∀ x : Int32, r = .inl x → QTri l Z n0 ad 19 (40, [vR 1, vI x1, vI x2, vI x3, vI x, none], [], (H0 s o)) u τ) (hc : ∀ x : Int32, r = .inr x → QTri l Z n0 ad 19 (15, [vR 1, vI x1, vI x2, vI x3, vI x, none], [], (H0 s o)) u τ) : QTri l Z n0 ad 19 (15, [vR 1, vI x1, vI x2, vI x3, vI v, none], [], (H0 s o)) u τ := by
 unfold B19_15 at h
 refine zS Ad W 2 (st' := (18, [vR 1, vI x1, vI x2, vI x3, vI v, none], [.int x2, .int v], (H0 s o))) rfl ?_
 rcases qite h with ⟨hc24, h⟩ | ⟨hc24, h⟩
 ·refine zF Ad W (t := 40) (f := 21) rfl (XT.ii_ge_f hc24) ?_
  refine zS Ad W 5 (st' := (29, [vR 1, vI x1, vI x2, vI x3, vI v, none], [.int (x1 + v), .ref 9], (H0 s o))) rfl ?_
  obtain ⟨y25, hy25, h⟩ := bind_eq_some_iff.mp h
  refine zB Ad W (f := fun y25 => (30, [vR 1, vI x1, vI x2, vI x3, vI v, none], [.int y25], (H0 s o))) rfl hy25 ?_
  refine zS Ad W 1 (st' := (31, [vR 1, vI x1, vI x2, vI x3, vI v, none], [.int x3, .int y25], (H0 s o))) rfl ?_
  rcases qite h with ⟨hc26, h⟩ | ⟨hc26, h⟩
  ·refine zF Ad W (t := 40) (f := 34) rfl (XT.ii_ge_f hc26) ?_
   refine zS Ad W 2 (st' := (15, [vR 1, vI x1, vI x2, vI x3, vI (v + (1:Int32)), none], [], (H0 s o))) rfl ?_
   obtain rfl := Option.some.inj h
   exact zM [tt,tt,tt,tt,tt,ff] (hc (v + (1:Int32)) rfl)
  ·refine zT Ad W (t := 40) (f := 34) rfl (XT.ii_ge_t hc26) ?_
   obtain rfl := Option.some.inj h
   exact zM [tt,tt,tt,tt,tt,ff] (hx0 v rfl)
 ·refine zT Ad W (t := 40) (f := 21) rfl (XT.ii_ge_t hc24) ?_
  obtain rfl := Option.some.inj h
  exact zM [tt,tt,tt,tt,tt,ff] (hx0 v rfl)
def H0x4 (s : List Int32) (o0 : Ob) (a0_11 : List Int32) : QHeap := H0v s (f_data o0) (f_filled o0) (f_rf o0) (f_cf o0) (f_vf o0) (f_ag o0) (f_fMode o0) (f_fRk o0) (f_fCk o0) (f_prevVal o0) (f_prevFound o0) a0_11 (f_nRows o0) (f_nForms o0) (f_last o0) (f_selUseR o0) (f_selRk o0) (f_selUseC o0) (f_selCk o0) (f_gCount o0) (f_gVal o0)
def B19_64 (x1 : Int32) (x2 : Int32) (x3 : Int32) (x4 : Int32) (v : Int32 × Ob) : Option (((Ob)) ⊕ (Int32 × Ob)) :=
  (if x4 < v.1 then (aget (f_keys v.2) ((x1 + v.1) - (1 : Int32))).bind fun y33 => (aset (f_keys v.2) (x1 + v.1) y33).bind fun y34 => some (.inr ((v.1 + (-1 : Int32)), (s_keys v.2 y34))) else some (.inl v.2))
theorem tB19_64 (Ad : QAd n0 ad) (W : QW Z a0) (s : List Int32) (x1 : Int32) (x2 : Int32) (x3 : Int32) (x4 : Int32) (v : Int32 × Ob) {r : ((Ob)) ⊕ (Int32 × Ob)} {u : Option Value} {τ : QHeap} (h : B19_64 x1 x2 x3 x4 v = some r) (hx0 : ∀ x : Ob, r = .inl x → QTri l Z n0 ad 19 (97, [vR 1, vI x1, vI x2, vI x3, vI x4, none], [], (H0 s x)) u τ) (hc : ∀ x : Int32 × Ob, r = .inr x → QTri l Z n0 ad 19 (64, [vR 1, vI x1, vI x2, vI x3, vI x4, vI x.1], [], (H0 s x.2)) u τ) : QTri l Z n0 ad 19 (64, [vR 1, vI x1, vI x2, vI x3, vI x4, vI v.1], [], (H0 s v.2)) u τ := by
 unfold B19_64 at h
 refine zS Ad W 2 (st' := (68, [vR 1, vI x1, vI x2, vI x3, vI x4, vI v.1], [.int x4, .int v.1], (H0 s v.2))) rfl ?_
 rcases qite h with ⟨hc32, h⟩ | ⟨hc32, h⟩
 ·refine zF Ad W (t := 97) (f := 71) rfl (XT.ii_le_f hc32) ?_
  refine zS Ad W 12 (st' := (89, [vR 1, vI x1, vI x2, vI x3, vI x4, vI v.1], [.int ((x1 + v.1) - (1:Int32)), .ref 9, .int (x1 + v.1), .ref 9], (H0 s v.2))) rfl ?_
  obtain ⟨y33, hy33, h⟩ := bind_eq_some_iff.mp h
  refine zB Ad W (f := fun y33 => (90, [vR 1, vI x1, vI x2, vI x3, vI x4, vI v.1], [.int y33, .int (x1 + v.1), .ref 9], (H0 s v.2))) rfl hy33 ?_
  obtain ⟨y34, hy34, h⟩ := bind_eq_some_iff.mp h
  refine zB Ad W (f := fun y34 => (91, [vR 1, vI x1, vI x2, vI x3, vI x4, vI v.1], [], (H0x4 s v.2 y34))) rfl hy34 ?_
  refine zS Ad W 2 (st' := (64, [vR 1, vI x1, vI x2, vI x3, vI x4, vI (v.1 + (-1:Int32))], [], (H0x4 s v.2 y34))) rfl ?_
  have E35 : ((H0x4 s v.2 y34) : QHeap) = (H0 s (s_keys v.2 y34)) := by simp only [fs, H0, H0v, H0x4, s_keys]
  rw [E35]
  obtain rfl := Option.some.inj h
  exact zM [tt,tt,tt,tt,tt,tt] (hc ((v.1 + (-1:Int32)), (s_keys v.2 y34)) rfl)
 ·refine zT Ad W (t := 97) (f := 71) rfl (XT.ii_le_t hc32) ?_
  obtain rfl := Option.some.inj h
  exact zM [tt,tt,tt,tt,tt,ff] (hx0 v.2 rfl)
def J19_61 (o : Ob) (x1 : Int32) (x2 : Int32) (x3 : Int32) (x4 : Int32) : Option (Int32 × Ob) :=
  (loopN (B19_64 x1 x2 x3 x4) qN (x2, o)).bind fun e36 => (aset (f_keys e36) (x1 + x4) x3).bind fun y38 => some ((x2 + (1 : Int32)), (s_keys e36 y38))
theorem tJ19_61 (Ad : QAd n0 ad) (W : QW Z a0) (s : List Int32) (o : Ob) (x1 : Int32) (x2 : Int32) (x3 : Int32) (x4 : Int32) {r : Int32 × Ob} (h : J19_61 o x1 x2 x3 x4 = some r) : QTri l Z n0 ad 19 (61, [vR 1, vI x1, vI x2, vI x3, vI x4, none], [], (H0 s o)) (some (Value.int r.1)) (H0 s r.2) := by
 unfold J19_61 at h
 refine zS Ad W 2 (st' := (64, [vR 1, vI x1, vI x2, vI x3, vI x4, vI x2], [], (H0 s o))) rfl ?_
 obtain ⟨e36, he36, h⟩ := bind_eq_some_iff.mp h
 refine zM [tt,tt,tt,tt,tt,tt] (loopN_tri (B := B19_64 x1 x2 x3 x4) (T := fun lv37 => QTri l Z n0 ad 19 (64, [vR 1, vI x1, vI x2, vI x3, vI x4, vI lv37.1], [], (H0 s lv37.2)) (some (Value.int r.1)) (H0 s r.2)) (KE := fun e36a => QTri l Z n0 ad 19 (97, [vR 1, vI x1, vI x2, vI x3, vI x4, none], [], (H0 s e36a)) (some (Value.int r.1)) (H0 s r.2)) (fun lv37 r hB hE hC => tB19_64 Ad W s x1 x2 x3 x4 lv37 hB (fun x q => hE _ q) (fun x q => hC x q)) qN (x2, o) e36 he36 ?_)
 refine zS Ad W 6 (st' := (106, [vR 1, vI x1, vI x2, vI x3, vI x4, none], [.int x3, .int (x1 + x4), .ref 9], (H0 s e36))) rfl ?_
 obtain ⟨y38, hy38, h⟩ := bind_eq_some_iff.mp h
 refine zB Ad W (f := fun y38 => (107, [vR 1, vI x1, vI x2, vI x3, vI x4, none], [], (H0x4 s e36 y38))) rfl hy38 ?_
 refine zS Ad W 3 (st' := (110, [vR 1, vI x1, vI x2, vI x3, vI x4, none], [.int (x2 + (1:Int32))], (H0x4 s e36 y38))) rfl ?_
 have E39 : ((H0x4 s e36 y38) : QHeap) = (H0 s (s_keys e36 y38)) := by simp only [fs, H0, H0v, H0x4, s_keys]
 rw [E39]
 obtain rfl := Option.some.inj h
 exact QTri.retI rfl rfl
def J19_40 (o : Ob) (x1 : Int32) (x2 : Int32) (x3 : Int32) (x4 : Int32) : Option (Int32 × Ob) :=
  (if x4 < x2 then (aget (f_keys o) (x1 + x4)).bind fun y30 => (if y30 = x3 then some (x2, o) else (J19_61 o x1 x2 x3 x4)) else (J19_61 o x1 x2 x3 x4))
theorem tJ19_40 (Ad : QAd n0 ad) (W : QW Z a0) (s : List Int32) (o : Ob) (x1 : Int32) (x2 : Int32) (x3 : Int32) (x4 : Int32) {r : Int32 × Ob} (h : J19_40 o x1 x2 x3 x4 = some r) : QTri l Z n0 ad 19 (40, [vR 1, vI x1, vI x2, vI x3, vI x4, none], [], (H0 s o)) (some (Value.int r.1)) (H0 s r.2) := by
 unfold J19_40 at h
 refine zS Ad W 2 (st' := (43, [vR 1, vI x1, vI x2, vI x3, vI x4, none], [.int x2, .int x4], (H0 s o))) rfl ?_
 rcases qite h with ⟨hc29, h⟩ | ⟨hc29, h⟩
 ·refine zF Ad W (t := 61) (f := 46) rfl (XT.ii_ge_f hc29) ?_
  refine zS Ad W 5 (st' := (54, [vR 1, vI x1, vI x2, vI x3, vI x4, none], [.int (x1 + x4), .ref 9], (H0 s o))) rfl ?_
  obtain ⟨y30, hy30, h⟩ := bind_eq_some_iff.mp h
  refine zB Ad W (f := fun y30 => (55, [vR 1, vI x1, vI x2, vI x3, vI x4, none], [.int y30], (H0 s o))) rfl hy30 ?_
  refine zS Ad W 1 (st' := (56, [vR 1, vI x1, vI x2, vI x3, vI x4, none], [.int x3, .int y30], (H0 s o))) rfl ?_
  rcases qite h with ⟨hc31, h⟩ | ⟨hc31, h⟩
  ·refine zF Ad W (t := 61) (f := 59) rfl (XT.ii_ne_f hc31) ?_
   refine zS Ad W 1 (st' := (60, [vR 1, vI x1, vI x2, vI x3, vI x4, none], [.int x2], (H0 s o))) rfl ?_
   obtain rfl := Option.some.inj h
   exact QTri.retI rfl rfl
  ·refine zT Ad W (t := 61) (f := 59) rfl (XT.ii_ne_t hc31) ?_
   exact zM [tt,tt,tt,tt,tt,ff] (tJ19_61 Ad W s o x1 x2 x3 x4 h)
 ·refine zT Ad W (t := 61) (f := 46) rfl (XT.ii_ge_t hc29) ?_
  exact zM [tt,tt,tt,tt,tt,ff] (tJ19_61 Ad W s o x1 x2 x3 x4 h)
/-- insertKey(III)I -/
def F19 (o : Ob) (x1 : Int32) (x2 : Int32) (x3 : Int32) : Option (Int32 × Ob) :=
 (if x2 < (0:Int32) then some (x2, o) else (if x2 < (32:Int32) then (loopN (B19_15 o x1 x2 x3) qN (0:Int32)).bind fun e27 => (J19_40 o x1 x2 x3 e27) else some (x2, o)))
theorem tF19 (Ad : QAd n0 ad) (W : QW Z a0) (s : List Int32) (o : Ob) (x1 : Int32) (x2 : Int32) (x3 : Int32) {r : Int32 × Ob} (h : F19 o x1 x2 x3 = some r) : QTri l Z n0 ad 19 (0, qentry [.ref 1, .int x1, .int x2, .int x3] (pMaxL 19), [], (H0 s o)) (some (Value.int r.1)) (H0 s r.2) := by
 unfold F19 at h
 refine zS Ad W 1 (st' := (1, [vR 1, vI x1, vI x2, vI x3, none, none], [.int x2], (H0 s o))) rfl ?_
 rcases qite h with ⟨hc22, h⟩ | ⟨hc22, h⟩
 ·refine zT Ad W (t := 10) (f := 4) rfl (XT.i0_lt_t hc22) ?_
  refine zS Ad W 1 (st' := (11, [vR 1, vI x1, vI x2, vI x3, none, none], [.int x2], (H0 s o))) rfl ?_
  obtain rfl := Option.some.inj h
  exact QTri.retI rfl rfl
 ·refine zF Ad W (t := 10) (f := 4) rfl (XT.i0_lt_f hc22) ?_
  refine zS Ad W 2 (st' := (7, [vR 1, vI x1, vI x2, vI x3, none, none], [.int (32:Int32), .int x2], (H0 s o))) rfl ?_
  rcases qite h with ⟨hc23, h⟩ | ⟨hc23, h⟩
  ·refine zT Ad W (t := 12) (f := 10) rfl (XT.ii_lt_t hc23) ?_
   refine zS Ad W 2 (st' := (15, [vR 1, vI x1, vI x2, vI x3, vI (0:Int32), none], [], (H0 s o))) rfl ?_
   obtain ⟨e27, he27, h⟩ := bind_eq_some_iff.mp h
   refine zM [tt,tt,tt,tt,tt,ff] (loopN_tri (B := B19_15 o x1 x2 x3) (T := fun lv28 => QTri l Z n0 ad 19 (15, [vR 1, vI x1, vI x2, vI x3, vI lv28, none], [], (H0 s o)) (some (Value.int r.1)) (H0 s r.2)) (KE := fun e27a => QTri l Z n0 ad 19 (40, [vR 1, vI x1, vI x2, vI x3, vI e27a, none], [], (H0 s o)) (some (Value.int r.1)) (H0 s r.2)) (fun lv28 r hB hE hC => tB19_15 Ad W s o x1 x2 x3 lv28 hB (fun x q => hE _ q) (fun x q => hC x q)) qN (0:Int32) e27 he27 ?_)
   exact zM [tt,tt,tt,tt,tt,ff] (tJ19_40 Ad W s o x1 x2 x3 e27 h)
  ·refine zF Ad W (t := 12) (f := 10) rfl (XT.ii_lt_f hc23) ?_
   refine zS Ad W 1 (st' := (11, [vR 1, vI x1, vI x2, vI x3, none, none], [.int x2], (H0 s o))) rfl ?_
   obtain rfl := Option.some.inj h
   exact QTri.retI rfl rfl
def B5_5 (x1 : Int32) (x2 : Int32) (v : Int32 × Int32 × Ob) : Option (((Int32 × Ob)) ⊕ (Int32 × Int32 × Ob)) :=
  (if v.2.1 < (f_nRows v.2.2) then (aget (f_filled v.2.2) v.2.1).bind fun y19 => (if y19 = (0 : Int32) then (J5_42 v.2.2 x1 x2 v.1 v.2.1) else (aget (f_data v.2.2) ((v.2.1 * (4 : Int32)) + x1)).bind fun y21 => (F19 v.2.2 x2 v.1 y21).bind fun r40 => (J5_42 r40.2 x1 x2 r40.1 v.2.1)) else some (.inl (v.1, v.2.2)))
theorem tB5_5 (Ad : QAd n0 ad) (W : QW Z a0) (s : List Int32) (x1 : Int32) (x2 : Int32) (v : Int32 × Int32 × Ob) {r : ((Int32 × Ob)) ⊕ (Int32 × Int32 × Ob)} {u : Option Value} {τ : QHeap} (h : B5_5 x1 x2 v = some r) (hx0 : ∀ x : Int32 × Ob, r = .inl x → u = (some (Value.int x.1)) ∧ τ = (H0 s x.2)) (hc : ∀ x : Int32 × Int32 × Ob, r = .inr x → QTri l Z n0 ad 5 (5, [vR 1, vI x1, vI x2, vI x.1, vI x.2.1], [], (H0 s x.2.2)) u τ) : QTri l Z n0 ad 5 (5, [vR 1, vI x1, vI x2, vI v.1, vI v.2.1], [], (H0 s v.2.2)) u τ := by
 unfold B5_5 at h
 refine zS Ad W 3 (st' := (11, [vR 1, vI x1, vI x2, vI v.1, vI v.2.1], [.int (f_nRows v.2.2), .int v.2.1], (H0 s v.2.2))) rfl ?_
 rcases qite h with ⟨hc18, h⟩ | ⟨hc18, h⟩
 ·refine zF Ad W (t := 48) (f := 14) rfl (XT.ii_ge_f hc18) ?_
  refine zS Ad W 3 (st' := (20, [vR 1, vI x1, vI x2, vI v.1, vI v.2.1], [.int v.2.1, .ref 3], (H0 s v.2.2))) rfl ?_
  obtain ⟨y19, hy19, h⟩ := bind_eq_some_iff.mp h
  refine zB Ad W (f := fun y19 => (21, [vR 1, vI x1, vI x2, vI v.1, vI v.2.1], [.int y19], (H0 s v.2.2))) rfl hy19 ?_
  rcases qite h with ⟨hc20, h⟩ | ⟨hc20, h⟩
  ·refine zT Ad W (t := 42) (f := 24) rfl (XT.i0_eq_t hc20) ?_
   exact zM [tt,tt,tt,tt,tt] (tJ5_42 Ad W s v.2.2 x1 x2 v.1 v.2.1 h hx0 hc)
  ·refine zF Ad W (t := 42) (f := 24) rfl (XT.i0_eq_f hc20) ?_
   refine zS Ad W 10 (st' := (37, [vR 1, vI x1, vI x2, vI v.1, vI v.2.1], [.int ((v.2.1 * (4:Int32)) + x1), .ref 2, .int v.1, .int x2, .ref 1], (H0 s v.2.2))) rfl ?_
   obtain ⟨y21, hy21, h⟩ := bind_eq_some_iff.mp h
   refine zB Ad W (f := fun y21 => (38, [vR 1, vI x1, vI x2, vI v.1, vI v.2.1], [.int y21, .int v.1, .int x2, .ref 1], (H0 s v.2.2))) rfl hy21 ?_
   obtain ⟨r40, hr40, h⟩ := bind_eq_some_iff.mp h
   refine QTri.callP W (a := 1) (as := [.int x2, .int v.1, .int y21]) (rest := []) (w := (some (.int r40.1))) (σ₁ := (H0 s r40.2)) rfl rfl rfl rfl rfl rfl rfl rfl (tF19 Ad W s v.2.2 x2 v.1 y21 hr40) ?_
   refine zS Ad W 1 (st' := (42, [vR 1, vI x1, vI x2, vI r40.1, vI v.2.1], [], (H0 s r40.2))) rfl ?_
   exact zM [tt,tt,tt,tt,tt] (tJ5_42 Ad W s r40.2 x1 x2 r40.1 v.2.1 h hx0 hc)
 ·refine zT Ad W (t := 48) (f := 14) rfl (XT.ii_ge_t hc18) ?_
  refine zS Ad W 1 (st' := (49, [vR 1, vI x1, vI x2, vI v.1, vI v.2.1], [.int v.1], (H0 s v.2.2))) rfl ?_
  obtain rfl := Option.some.inj h
  obtain ⟨rfl, rfl⟩ := hx0 (v.1, v.2.2) rfl
  exact QTri.retI rfl rfl
/-- buildKeys(II)I -/
def F5 (o : Ob) (x1 : Int32) (x2 : Int32) : Option (Int32 × Ob) :=
 (loopN (B5_5 x1 x2) qN ((0:Int32), (0:Int32), o)).bind fun e41 => some e41
theorem tF5 (Ad : QAd n0 ad) (W : QW Z a0) (s : List Int32) (o : Ob) (x1 : Int32) (x2 : Int32) {r : Int32 × Ob} (h : F5 o x1 x2 = some r) : QTri l Z n0 ad 5 (0, qentry [.ref 1, .int x1, .int x2] (pMaxL 5), [], (H0 s o)) (some (Value.int r.1)) (H0 s r.2) := by
 unfold F5 at h
 refine zS Ad W 4 (st' := (5, [vR 1, vI x1, vI x2, vI (0:Int32), vI (0:Int32)], [], (H0 s o))) rfl ?_
 obtain ⟨e41, he41, h⟩ := bind_eq_some_iff.mp h
 refine zM [tt,tt,tt,tt,tt] (loopN_tri (B := B5_5 x1 x2) (T := fun lv42 => QTri l Z n0 ad 5 (5, [vR 1, vI x1, vI x2, vI lv42.1, vI lv42.2.1], [], (H0 s lv42.2.2)) (some (Value.int r.1)) (H0 s r.2)) (KE := fun e41a => (some (Value.int r.1)) = (some (Value.int e41a.1)) ∧ (H0 s r.2) = (H0 s e41a.2)) (fun lv42 r hB hE hC => tB5_5 Ad W s x1 x2 lv42 hB (fun x q => hE _ q) (fun x q => hC x q)) qN ((0:Int32), (0:Int32), o) e41 he41 ?_)
 obtain rfl := Option.some.inj h
 exact ⟨rfl, rfl⟩
/-- rowKeyCount()I -/
def F4 (o : Ob) : Option (Int32 × Ob) :=
 (F5 o (f_rf o) (0:Int32)).bind fun r43 => some (r43.1, r43.2)
theorem tF4 (Ad : QAd n0 ad) (W : QW Z a0) (s : List Int32) (o : Ob) {r : Int32 × Ob} (h : F4 o = some r) : QTri l Z n0 ad 4 (0, qentry [.ref 1] (pMaxL 4), [], (H0 s o)) (some (Value.int r.1)) (H0 s r.2) := by
 unfold F4 at h
 refine zS Ad W 4 (st' := (6, [vR 1], [.int (0:Int32), .int (f_rf o), .ref 1], (H0 s o))) rfl ?_
 obtain ⟨r43, hr43, h⟩ := bind_eq_some_iff.mp h
 refine QTri.callP W (a := 1) (as := [.int (f_rf o), .int (0:Int32)]) (rest := []) (w := (some (.int r43.1))) (σ₁ := (H0 s r43.2)) rfl rfl rfl rfl rfl rfl rfl rfl (tF5 Ad W s o (f_rf o) (0:Int32) hr43) ?_
 obtain rfl := Option.some.inj h
 exact QTri.retI rfl rfl
/-- colKeyCount()I -/
def F6 (o : Ob) : Option (Int32 × Ob) :=
 (F5 o (f_cf o) (32:Int32)).bind fun r45 => some (r45.1, r45.2)
theorem tF6 (Ad : QAd n0 ad) (W : QW Z a0) (s : List Int32) (o : Ob) {r : Int32 × Ob} (h : F6 o = some r) : QTri l Z n0 ad 6 (0, qentry [.ref 1] (pMaxL 6), [], (H0 s o)) (some (Value.int r.1)) (H0 s r.2) := by
 unfold F6 at h
 refine zS Ad W 4 (st' := (7, [vR 1], [.int (32:Int32), .int (f_cf o), .ref 1], (H0 s o))) rfl ?_
 obtain ⟨r45, hr45, h⟩ := bind_eq_some_iff.mp h
 refine QTri.callP W (a := 1) (as := [.int (f_cf o), .int (32:Int32)]) (rest := []) (w := (some (.int r45.1))) (σ₁ := (H0 s r45.2)) rfl rfl rfl rfl rfl rfl rfl rfl (tF5 Ad W s o (f_cf o) (32:Int32) hr45) ?_
 obtain rfl := Option.some.inj h
 exact QTri.retI rfl rfl
/-- rowKey(I)I -/
def F20 (o : Ob) (x1 : Int32) : Option (Int32 × Ob) :=
 (F5 o (f_rf o) (0:Int32)).bind fun r48 => (if x1 < (0:Int32) then some ((0:Int32), r48.2) else (if x1 < r48.1 then (aget (f_keys r48.2) x1).bind fun y51 => some (y51, r48.2) else some ((0:Int32), r48.2)))
theorem tF20 (Ad : QAd n0 ad) (W : QW Z a0) (s : List Int32) (o : Ob) (x1 : Int32) {r : Int32 × Ob} (h : F20 o x1 = some r) : QTri l Z n0 ad 20 (0, qentry [.ref 1, .int x1] (pMaxL 20), [], (H0 s o)) (some (Value.int r.1)) (H0 s r.2) := by
 unfold F20 at h
 refine zS Ad W 4 (st' := (6, [vR 1, vI x1, none], [.int (0:Int32), .int (f_rf o), .ref 1], (H0 s o))) rfl ?_
 obtain ⟨r48, hr48, h⟩ := bind_eq_some_iff.mp h
 refine QTri.callP W (a := 1) (as := [.int (f_rf o), .int (0:Int32)]) (rest := []) (w := (some (.int r48.1))) (σ₁ := (H0 s r48.2)) rfl rfl rfl rfl rfl rfl rfl rfl (tF5 Ad W s o (f_rf o) (0:Int32) hr48) ?_
 refine zS Ad W 2 (st' := (11, [vR 1, vI x1, vI r48.1], [.int x1], (H0 s r48.2))) rfl ?_
 rcases qite h with ⟨hc49, h⟩ | ⟨hc49, h⟩
 ·refine zT Ad W (t := 19) (f := 14) rfl (XT.i0_lt_t hc49) ?_
  refine zS Ad W 1 (st' := (20, [vR 1, vI x1, vI r48.1], [.int (0:Int32)], (H0 s r48.2))) rfl ?_
  obtain rfl := Option.some.inj h
  exact QTri.retI rfl rfl
 ·refine zF Ad W (t := 19) (f := 14) rfl (XT.i0_lt_f hc49) ?_
  refine zS Ad W 2 (st' := (16, [vR 1, vI x1, vI r48.1], [.int r48.1, .int x1], (H0 s r48.2))) rfl ?_
  rcases qite h with ⟨hc50, h⟩ | ⟨hc50, h⟩
  ·refine zT Ad W (t := 21) (f := 19) rfl (XT.ii_lt_t hc50) ?_
   refine zS Ad W 3 (st' := (26, [vR 1, vI x1, vI r48.1], [.int x1, .ref 9], (H0 s r48.2))) rfl ?_
   obtain ⟨y51, hy51, h⟩ := bind_eq_some_iff.mp h
   refine zB Ad W (f := fun y51 => (27, [vR 1, vI x1, vI r48.1], [.int y51], (H0 s r48.2))) rfl hy51 ?_
   obtain rfl := Option.some.inj h
   exact QTri.retI rfl rfl
  ·refine zF Ad W (t := 21) (f := 19) rfl (XT.ii_lt_f hc50) ?_
   refine zS Ad W 1 (st' := (20, [vR 1, vI x1, vI r48.1], [.int (0:Int32)], (H0 s r48.2))) rfl ?_
   obtain rfl := Option.some.inj h
   exact QTri.retI rfl rfl
def B3_15 (x1 : Int32) (x2 : Int64) (x4 : Int32) (x5 : Int32) (v : Int32 × Ob) : Option (((Ob) ⊕ (Int32 × Ob)) ⊕ (Int32 × Ob)) :=
  (if v.1 < x4 then (F20 v.2 (v.1 - (1 : Int32))).bind fun r52 => (F20 r52.2 v.1).bind fun r53 => (if r52.1 < r53.1 then some (.inr ((v.1 + (1 : Int32)), r53.2)) else some (.inl (Sum.inr ((0 : Int32), r53.2)))) else some (.inl (Sum.inl v.2)))
theorem tB3_15 (Ad : QAd n0 ad) (W : QW Z a0) (s : List Int32) (x1 : Int32) (x2 : Int64) (x4 : Int32) (x5 : Int32) (v : Int32 × Ob) {r : ((Ob) ⊕ (Int32 × Ob)) ⊕ (Int32 × Ob)} {u : Option Value} {τ : QHeap} (h : B3_15 x1 x2 x4 x5 v = some r) (hx0 : ∀ x : Ob, r = .inl (Sum.inl x) → QTri l Z n0 ad 3 (47, [vR 1, vI x1, vL x2, none, vI x4, vI x5, none, none, none, none, none, none, none, none, none, none, none], [], (H0 s x)) u τ) (hx1 : ∀ x : Int32 × Ob, r = .inl (Sum.inr x) → u = (some (Value.int x.1)) ∧ τ = (H0 s x.2)) (hc : ∀ x : Int32 × Ob, r = .inr x → QTri l Z n0 ad 3 (15, [vR 1, vI x1, vL x2, none, vI x4, vI x5, vI x.1, none, none, none, none, none, none, none, none, none, none], [], (H0 s x.2)) u τ) : QTri l Z n0 ad 3 (15, [vR 1, vI x1, vL x2, none, vI x4, vI x5, vI v.1, none, none, none, none, none, none, none, none, none, none], [], (H0 s v.2)) u τ := by
 unfold B3_15 at h
 refine zS Ad W 2 (st' := (19, [vR 1, vI x1, vL x2, none, vI x4, vI x5, vI v.1, none, none, none, none, none, none, none, none, none, none], [.int x4, .int v.1], (H0 s v.2))) rfl ?_
 rcases qite h with ⟨hc47, h⟩ | ⟨hc47, h⟩
 ·refine zF Ad W (t := 47) (f := 22) rfl (XT.ii_ge_f hc47) ?_
  refine zS Ad W 4 (st' := (27, [vR 1, vI x1, vL x2, none, vI x4, vI x5, vI v.1, none, none, none, none, none, none, none, none, none, none], [.int (v.1 - (1:Int32)), .ref 1], (H0 s v.2))) rfl ?_
  obtain ⟨r52, hr52, h⟩ := bind_eq_some_iff.mp h
  refine QTri.callV W (a := 1) (as := [.int (v.1 - (1:Int32))]) (rest := []) (w := (some (.int r52.1))) (σ₁ := (H0 s r52.2)) rfl rfl rfl rfl rfl rfl rfl rfl (tF20 Ad W s v.2 (v.1 - (1:Int32)) hr52) ?_
  refine zS Ad W 2 (st' := (33, [vR 1, vI x1, vL x2, none, vI x4, vI x5, vI v.1, none, none, none, none, none, none, none, none, none, none], [.int v.1, .ref 1, .int r52.1], (H0 s r52.2))) rfl ?_
  obtain ⟨r53, hr53, h⟩ := bind_eq_some_iff.mp h
  refine QTri.callV W (a := 1) (as := [.int v.1]) (rest := [.int r52.1]) (w := (some (.int r53.1))) (σ₁ := (H0 s r53.2)) rfl rfl rfl rfl rfl rfl rfl rfl (tF20 Ad W s r52.2 v.1 hr53) ?_
  rcases qite h with ⟨hc54, h⟩ | ⟨hc54, h⟩
  ·refine zT Ad W (t := 41) (f := 39) rfl (XT.ii_lt_t hc54) ?_
   refine zS Ad W 2 (st' := (15, [vR 1, vI x1, vL x2, none, vI x4, vI x5, vI (v.1 + (1:Int32)), none, none, none, none, none, none, none, none, none, none], [], (H0 s r53.2))) rfl ?_
   obtain rfl := Option.some.inj h
   exact zM [tt,tt,tt,ff,tt,tt,tt,ff,ff,ff,ff,ff,ff,ff,ff,ff,ff] (hc ((v.1 + (1:Int32)), r53.2) rfl)
  ·refine zF Ad W (t := 41) (f := 39) rfl (XT.ii_lt_f hc54) ?_
   refine zS Ad W 1 (st' := (40, [vR 1, vI x1, vL x2, none, vI x4, vI x5, vI v.1, none, none, none, none, none, none, none, none, none, none], [.int (0:Int32)], (H0 s r53.2))) rfl ?_
   obtain rfl := Option.some.inj h
   obtain ⟨rfl, rfl⟩ := hx1 ((0:Int32), r53.2) rfl
   exact QTri.retZ rfl rfl
 ·refine zT Ad W (t := 47) (f := 22) rfl (XT.ii_ge_t hc47) ?_
  obtain rfl := Option.some.inj h
  exact zM [tt,tt,tt,ff,tt,tt,ff,ff,ff,ff,ff,ff,ff,ff,ff,ff,ff] (hx0 v.2 rfl)
/-- colKey(I)I -/
def F22 (o : Ob) (x1 : Int32) : Option (Int32 × Ob) :=
 (F5 o (f_cf o) (32:Int32)).bind fun r58 => (if x1 < (0:Int32) then some ((0:Int32), r58.2) else (if x1 < r58.1 then (aget (f_keys r58.2) ((32:Int32) + x1)).bind fun y61 => some (y61, r58.2) else some ((0:Int32), r58.2)))
theorem tF22 (Ad : QAd n0 ad) (W : QW Z a0) (s : List Int32) (o : Ob) (x1 : Int32) {r : Int32 × Ob} (h : F22 o x1 = some r) : QTri l Z n0 ad 22 (0, qentry [.ref 1, .int x1] (pMaxL 22), [], (H0 s o)) (some (Value.int r.1)) (H0 s r.2) := by
 unfold F22 at h
 refine zS Ad W 4 (st' := (7, [vR 1, vI x1, none], [.int (32:Int32), .int (f_cf o), .ref 1], (H0 s o))) rfl ?_
 obtain ⟨r58, hr58, h⟩ := bind_eq_some_iff.mp h
 refine QTri.callP W (a := 1) (as := [.int (f_cf o), .int (32:Int32)]) (rest := []) (w := (some (.int r58.1))) (σ₁ := (H0 s r58.2)) rfl rfl rfl rfl rfl rfl rfl rfl (tF5 Ad W s o (f_cf o) (32:Int32) hr58) ?_
 refine zS Ad W 2 (st' := (12, [vR 1, vI x1, vI r58.1], [.int x1], (H0 s r58.2))) rfl ?_
 rcases qite h with ⟨hc59, h⟩ | ⟨hc59, h⟩
 ·refine zT Ad W (t := 20) (f := 15) rfl (XT.i0_lt_t hc59) ?_
  refine zS Ad W 1 (st' := (21, [vR 1, vI x1, vI r58.1], [.int (0:Int32)], (H0 s r58.2))) rfl ?_
  obtain rfl := Option.some.inj h
  exact QTri.retI rfl rfl
 ·refine zF Ad W (t := 20) (f := 15) rfl (XT.i0_lt_f hc59) ?_
  refine zS Ad W 2 (st' := (17, [vR 1, vI x1, vI r58.1], [.int r58.1, .int x1], (H0 s r58.2))) rfl ?_
  rcases qite h with ⟨hc60, h⟩ | ⟨hc60, h⟩
  ·refine zT Ad W (t := 22) (f := 20) rfl (XT.ii_lt_t hc60) ?_
   refine zS Ad W 5 (st' := (30, [vR 1, vI x1, vI r58.1], [.int ((32:Int32) + x1), .ref 9], (H0 s r58.2))) rfl ?_
   obtain ⟨y61, hy61, h⟩ := bind_eq_some_iff.mp h
   refine zB Ad W (f := fun y61 => (31, [vR 1, vI x1, vI r58.1], [.int y61], (H0 s r58.2))) rfl hy61 ?_
   obtain rfl := Option.some.inj h
   exact QTri.retI rfl rfl
  ·refine zF Ad W (t := 22) (f := 20) rfl (XT.ii_lt_f hc60) ?_
   refine zS Ad W 1 (st' := (21, [vR 1, vI x1, vI r58.1], [.int (0:Int32)], (H0 s r58.2))) rfl ?_
   obtain rfl := Option.some.inj h
   exact QTri.retI rfl rfl
def B3_50 (x1 : Int32) (x2 : Int64) (x4 : Int32) (x5 : Int32) (v : Int32 × Ob) : Option (((Ob) ⊕ (Int32 × Ob)) ⊕ (Int32 × Ob)) :=
  (if v.1 < x5 then (F22 v.2 (v.1 - (1 : Int32))).bind fun r62 => (F22 r62.2 v.1).bind fun r63 => (if r62.1 < r63.1 then some (.inr ((v.1 + (1 : Int32)), r63.2)) else some (.inl (Sum.inr ((0 : Int32), r63.2)))) else some (.inl (Sum.inl v.2)))
theorem tB3_50 (Ad : QAd n0 ad) (W : QW Z a0) (s : List Int32) (x1 : Int32) (x2 : Int64) (x4 : Int32) (x5 : Int32) (v : Int32 × Ob) {r : ((Ob) ⊕ (Int32 × Ob)) ⊕ (Int32 × Ob)} {u : Option Value} {τ : QHeap} (h : B3_50 x1 x2 x4 x5 v = some r) (hx0 : ∀ x : Ob, r = .inl (Sum.inl x) → QTri l Z n0 ad 3 (82, [vR 1, vI x1, vL x2, none, vI x4, vI x5, none, none, none, none, none, none, none, none, none, none, none], [], (H0 s x)) u τ) (hx1 : ∀ x : Int32 × Ob, r = .inl (Sum.inr x) → u = (some (Value.int x.1)) ∧ τ = (H0 s x.2)) (hc : ∀ x : Int32 × Ob, r = .inr x → QTri l Z n0 ad 3 (50, [vR 1, vI x1, vL x2, none, vI x4, vI x5, vI x.1, none, none, none, none, none, none, none, none, none, none], [], (H0 s x.2)) u τ) : QTri l Z n0 ad 3 (50, [vR 1, vI x1, vL x2, none, vI x4, vI x5, vI v.1, none, none, none, none, none, none, none, none, none, none], [], (H0 s v.2)) u τ := by
 unfold B3_50 at h
 refine zS Ad W 2 (st' := (54, [vR 1, vI x1, vL x2, none, vI x4, vI x5, vI v.1, none, none, none, none, none, none, none, none, none, none], [.int x5, .int v.1], (H0 s v.2))) rfl ?_
 rcases qite h with ⟨hc57, h⟩ | ⟨hc57, h⟩
 ·refine zF Ad W (t := 82) (f := 57) rfl (XT.ii_ge_f hc57) ?_
  refine zS Ad W 4 (st' := (62, [vR 1, vI x1, vL x2, none, vI x4, vI x5, vI v.1, none, none, none, none, none, none, none, none, none, none], [.int (v.1 - (1:Int32)), .ref 1], (H0 s v.2))) rfl ?_
  obtain ⟨r62, hr62, h⟩ := bind_eq_some_iff.mp h
  refine QTri.callV W (a := 1) (as := [.int (v.1 - (1:Int32))]) (rest := []) (w := (some (.int r62.1))) (σ₁ := (H0 s r62.2)) rfl rfl rfl rfl rfl rfl rfl rfl (tF22 Ad W s v.2 (v.1 - (1:Int32)) hr62) ?_
  refine zS Ad W 2 (st' := (68, [vR 1, vI x1, vL x2, none, vI x4, vI x5, vI v.1, none, none, none, none, none, none, none, none, none, none], [.int v.1, .ref 1, .int r62.1], (H0 s r62.2))) rfl ?_
  obtain ⟨r63, hr63, h⟩ := bind_eq_some_iff.mp h
  refine QTri.callV W (a := 1) (as := [.int v.1]) (rest := [.int r62.1]) (w := (some (.int r63.1))) (σ₁ := (H0 s r63.2)) rfl rfl rfl rfl rfl rfl rfl rfl (tF22 Ad W s r62.2 v.1 hr63) ?_
  rcases qite h with ⟨hc64, h⟩ | ⟨hc64, h⟩
  ·refine zT Ad W (t := 76) (f := 74) rfl (XT.ii_lt_t hc64) ?_
   refine zS Ad W 2 (st' := (50, [vR 1, vI x1, vL x2, none, vI x4, vI x5, vI (v.1 + (1:Int32)), none, none, none, none, none, none, none, none, none, none], [], (H0 s r63.2))) rfl ?_
   obtain rfl := Option.some.inj h
   exact zM [tt,tt,tt,ff,tt,tt,tt,ff,ff,ff,ff,ff,ff,ff,ff,ff,ff] (hc ((v.1 + (1:Int32)), r63.2) rfl)
  ·refine zF Ad W (t := 76) (f := 74) rfl (XT.ii_lt_f hc64) ?_
   refine zS Ad W 1 (st' := (75, [vR 1, vI x1, vL x2, none, vI x4, vI x5, vI v.1, none, none, none, none, none, none, none, none, none, none], [.int (0:Int32)], (H0 s r63.2))) rfl ?_
   obtain rfl := Option.some.inj h
   obtain ⟨rfl, rfl⟩ := hx1 ((0:Int32), r63.2) rfl
   exact QTri.retZ rfl rfl
 ·refine zT Ad W (t := 82) (f := 57) rfl (XT.ii_ge_t hc57) ?_
  obtain rfl := Option.some.inj h
  exact zM [tt,tt,tt,ff,tt,tt,ff,ff,ff,ff,ff,ff,ff,ff,ff,ff,ff] (hx0 v.2 rfl)
def H0x5 (s : List Int32) (o0 : Ob) (a0_15 : Int32) : QHeap := H0v s (f_data o0) (f_filled o0) (f_rf o0) (f_cf o0) (f_vf o0) (f_ag o0) (f_fMode o0) (f_fRk o0) (f_fCk o0) (f_prevVal o0) (f_prevFound o0) (f_keys o0) (f_nRows o0) (f_nForms o0) (f_last o0) a0_15 (f_selRk o0) (f_selUseC o0) (f_selCk o0) (f_gCount o0) (f_gVal o0)
def H0x6 (s : List Int32) (o0 : Ob) (a0_16 : Int32) : QHeap := H0v s (f_data o0) (f_filled o0) (f_rf o0) (f_cf o0) (f_vf o0) (f_ag o0) (f_fMode o0) (f_fRk o0) (f_fCk o0) (f_prevVal o0) (f_prevFound o0) (f_keys o0) (f_nRows o0) (f_nForms o0) (f_last o0) (f_selUseR o0) a0_16 (f_selUseC o0) (f_selCk o0) (f_gCount o0) (f_gVal o0)
def H0x7 (s : List Int32) (o0 : Ob) (a0_16 : Int32) (a0_17 : Int32) : QHeap := H0v s (f_data o0) (f_filled o0) (f_rf o0) (f_cf o0) (f_vf o0) (f_ag o0) (f_fMode o0) (f_fRk o0) (f_fCk o0) (f_prevVal o0) (f_prevFound o0) (f_keys o0) (f_nRows o0) (f_nForms o0) (f_last o0) (f_selUseR o0) a0_16 a0_17 (f_selCk o0) (f_gCount o0) (f_gVal o0)
def H0x8 (s : List Int32) (o0 : Ob) (a0_18 : Int32) : QHeap := H0v s (f_data o0) (f_filled o0) (f_rf o0) (f_cf o0) (f_vf o0) (f_ag o0) (f_fMode o0) (f_fRk o0) (f_fCk o0) (f_prevVal o0) (f_prevFound o0) (f_keys o0) (f_nRows o0) (f_nForms o0) (f_last o0) (f_selUseR o0) (f_selRk o0) (f_selUseC o0) a0_18 (f_gCount o0) (f_gVal o0)
def J8_125 (o : Ob) (w0 : Int32) : Option (Int32 × Ob) :=
  some ((1 : Int32), (s_selCk o w0))
theorem tJ8_125 (Ad : QAd n0 ad) (W : QW Z a0) (s : List Int32) (o : Ob) (w0 : Int32) {r : Int32 × Ob} (h : J8_125 o w0 = some r) : QTri l Z n0 ad 8 (125, [none, none, none, none, none], [.int w0, .ref 1], (H0 s o)) (some (Value.int r.1)) (H0 s r.2) := by
 unfold J8_125 at h
 refine zS Ad W 1 (st' := (128, [none, none, none, none, none], [], (H0x8 s o w0))) rfl ?_
 refine zS Ad W 1 (st' := (129, [none, none, none, none, none], [.int (1:Int32)], (H0x8 s o w0))) rfl ?_
 have E88 : ((H0x8 s o w0) : QHeap) = (H0 s (s_selCk o w0)) := by simp only [fs, H0, H0v, H0x8, s_selCk]
 rw [E88]
 obtain rfl := Option.some.inj h
 exact QTri.retZ rfl rfl
def J8_87 (o : Ob) (x2 : Int32) (w0 : Int32) : Option (Int32 × Ob) :=
  (qboo (if x2 = (-1 : Int32) then (0 : Int32) else (1 : Int32))).bind fun y85 => (if y85 = (0 : Int32) then (J8_125 (s_selUseC (s_selRk o w0) y85) (0 : Int32)) else (aget (f_keys o) ((32 : Int32) + x2)).bind fun y89 => (J8_125 (s_selUseC (s_selRk o w0) y85) y89))
theorem tJ8_87 (Ad : QAd n0 ad) (W : QW Z a0) (s : List Int32) (o : Ob) (x2 : Int32) (w0 : Int32) {r : Int32 × Ob} (h : J8_87 o x2 w0 = some r) : QTri l Z n0 ad 8 (87, [vR 1, none, vI x2, none, none], [.int w0, .ref 1], (H0 s o)) (some (Value.int r.1)) (H0 s r.2) := by
 unfold J8_87 at h
 refine zS Ad W 1 (st' := (90, [vR 1, none, vI x2, none, none], [], (H0x6 s o w0))) rfl ?_
 refine zS Ad W 3 (st' := (93, [vR 1, none, vI x2, none, none], [.int (-1:Int32), .int x2, .ref 1], (H0x6 s o w0))) rfl ?_
 have K83 : ∀ z82 : Int32, z82 = (if x2 = (-1:Int32) then (0:Int32) else (1:Int32)) → QTri l Z n0 ad 8 (101, [vR 1, none, vI x2, none, none], [.int z82, .ref 1], (H0x6 s o w0)) (some (Value.int r.1)) (H0 s r.2) := by
  intro z82 ez82
  subst ez82
  obtain ⟨y85, hy85, h⟩ := bind_eq_some_iff.mp h
  refine QTri.bndB Ad W rfl hy85 ?_
  show QTri l Z n0 ad 8 (104, [vR 1, none, vI x2, none, none], [], (H0x7 s o w0 y85)) (some (Value.int r.1)) (H0 s r.2)
  refine zS Ad W 3 (st' := (109, [vR 1, none, vI x2, none, none], [.int y85, .ref 1], (H0x7 s o w0 y85))) rfl ?_
  rcases qite h with ⟨hc86, h⟩ | ⟨hc86, h⟩
  ·refine zT Ad W (t := 124) (f := 112) rfl (XT.i0_eq_t hc86) ?_
   refine zS Ad W 1 (st' := (125, [vR 1, none, vI x2, none, none], [.int (0:Int32), .ref 1], (H0x7 s o w0 y85))) rfl ?_
   have E87 : ((H0x7 s o w0 y85) : QHeap) = (H0 s (s_selUseC (s_selRk o w0) y85)) := by simp only [fs, H0, H0v, H0x7, s_selRk, s_selUseC]
   rw [E87]
   exact zM [ff,ff,ff,ff,ff] (tJ8_125 Ad W s (s_selUseC (s_selRk o w0) y85) (0:Int32) h)
  ·refine zF Ad W (t := 124) (f := 112) rfl (XT.i0_eq_f hc86) ?_
   refine zS Ad W 5 (st' := (120, [vR 1, none, vI x2, none, none], [.int ((32:Int32) + x2), .ref 9, .ref 1], (H0x7 s o w0 y85))) rfl ?_
   obtain ⟨y89, hy89, h⟩ := bind_eq_some_iff.mp h
   refine zB Ad W (f := fun y89 => (121, [vR 1, none, vI x2, none, none], [.int y89, .ref 1], (H0x7 s o w0 y85))) rfl hy89 ?_
   refine zS Ad W 1 (st' := (125, [vR 1, none, vI x2, none, none], [.int y89, .ref 1], (H0x7 s o w0 y85))) rfl ?_
   have E90 : ((H0x7 s o w0 y85) : QHeap) = (H0 s (s_selUseC (s_selRk o w0) y85)) := by simp only [fs, H0, H0v, H0x7, s_selRk, s_selUseC]
   rw [E90]
   exact zM [ff,ff,ff,ff,ff] (tJ8_125 Ad W s (s_selUseC (s_selRk o w0) y85) y89 h)
 rcases em (x2 = (-1:Int32)) with hc84 | hc84
 ·refine zT Ad W (t := 100) (f := 96) rfl (XT.ii_eq_t hc84) ?_
  refine zS Ad W 1 (st' := (101, [vR 1, none, vI x2, none, none], [.int (0:Int32), .ref 1], (H0x6 s o w0))) rfl ?_
  exact zM [tt,ff,tt,ff,ff] (K83 _ (if_pos hc84).symm)
 ·refine zF Ad W (t := 100) (f := 96) rfl (XT.ii_eq_f hc84) ?_
  refine zS Ad W 2 (st' := (101, [vR 1, none, vI x2, none, none], [.int (1:Int32), .ref 1], (H0x6 s o w0))) rfl ?_
  exact zM [tt,ff,tt,ff,ff] (K83 _ (if_neg hc84).symm)
def J8_55 (o : Ob) (x1 : Int32) (x2 : Int32) : Option (Int32 × Ob) :=
  (qboo (if x1 = (-1 : Int32) then (0 : Int32) else (1 : Int32))).bind fun y79 => (if y79 = (0 : Int32) then (J8_87 (s_selUseR o y79) x2 (0 : Int32)) else (aget (f_keys o) x1).bind fun y91 => (J8_87 (s_selUseR o y79) x2 y91))
theorem tJ8_55 (Ad : QAd n0 ad) (W : QW Z a0) (s : List Int32) (o : Ob) (x1 : Int32) (x2 : Int32) {r : Int32 × Ob} (h : J8_55 o x1 x2 = some r) : QTri l Z n0 ad 8 (55, [vR 1, vI x1, vI x2, none, none], [], (H0 s o)) (some (Value.int r.1)) (H0 s r.2) := by
 unfold J8_55 at h
 refine zS Ad W 3 (st' := (58, [vR 1, vI x1, vI x2, none, none], [.int (-1:Int32), .int x1, .ref 1], (H0 s o))) rfl ?_
 have K77 : ∀ z76 : Int32, z76 = (if x1 = (-1:Int32) then (0:Int32) else (1:Int32)) → QTri l Z n0 ad 8 (66, [vR 1, vI x1, vI x2, none, none], [.int z76, .ref 1], (H0 s o)) (some (Value.int r.1)) (H0 s r.2) := by
  intro z76 ez76
  subst ez76
  obtain ⟨y79, hy79, h⟩ := bind_eq_some_iff.mp h
  refine QTri.bndB Ad W rfl hy79 ?_
  show QTri l Z n0 ad 8 (69, [vR 1, vI x1, vI x2, none, none], [], (H0x5 s o y79)) (some (Value.int r.1)) (H0 s r.2)
  refine zS Ad W 3 (st' := (74, [vR 1, vI x1, vI x2, none, none], [.int y79, .ref 1], (H0x5 s o y79))) rfl ?_
  rcases qite h with ⟨hc80, h⟩ | ⟨hc80, h⟩
  ·refine zT Ad W (t := 86) (f := 77) rfl (XT.i0_eq_t hc80) ?_
   refine zS Ad W 1 (st' := (87, [vR 1, vI x1, vI x2, none, none], [.int (0:Int32), .ref 1], (H0x5 s o y79))) rfl ?_
   have E81 : ((H0x5 s o y79) : QHeap) = (H0 s (s_selUseR o y79)) := by simp only [fs, H0, H0v, H0x5, s_selUseR]
   rw [E81]
   exact zM [tt,ff,tt,ff,ff] (tJ8_87 Ad W s (s_selUseR o y79) x2 (0:Int32) h)
  ·refine zF Ad W (t := 86) (f := 77) rfl (XT.i0_eq_f hc80) ?_
   refine zS Ad W 3 (st' := (82, [vR 1, vI x1, vI x2, none, none], [.int x1, .ref 9, .ref 1], (H0x5 s o y79))) rfl ?_
   obtain ⟨y91, hy91, h⟩ := bind_eq_some_iff.mp h
   refine zB Ad W (f := fun y91 => (83, [vR 1, vI x1, vI x2, none, none], [.int y91, .ref 1], (H0x5 s o y79))) rfl hy91 ?_
   refine zS Ad W 1 (st' := (87, [vR 1, vI x1, vI x2, none, none], [.int y91, .ref 1], (H0x5 s o y79))) rfl ?_
   have E92 : ((H0x5 s o y79) : QHeap) = (H0 s (s_selUseR o y79)) := by simp only [fs, H0, H0v, H0x5, s_selUseR]
   rw [E92]
   exact zM [tt,ff,tt,ff,ff] (tJ8_87 Ad W s (s_selUseR o y79) x2 y91 h)
 rcases em (x1 = (-1:Int32)) with hc78 | hc78
 ·refine zT Ad W (t := 65) (f := 61) rfl (XT.ii_eq_t hc78) ?_
  refine zS Ad W 1 (st' := (66, [vR 1, vI x1, vI x2, none, none], [.int (0:Int32), .ref 1], (H0 s o))) rfl ?_
  exact zM [tt,tt,tt,ff,ff] (K77 _ (if_pos hc78).symm)
 ·refine zF Ad W (t := 65) (f := 61) rfl (XT.ii_eq_f hc78) ?_
  refine zS Ad W 2 (st' := (66, [vR 1, vI x1, vI x2, none, none], [.int (1:Int32), .ref 1], (H0 s o))) rfl ?_
  exact zM [tt,tt,tt,ff,ff] (K77 _ (if_neg hc78).symm)
def J8_38 (o : Ob) (x1 : Int32) (x2 : Int32) (x4 : Int32) : Option (Int32 × Ob) :=
  (if x2 = (-1 : Int32) then (J8_55 o x1 x2) else (if x2 < (0 : Int32) then some ((0 : Int32), o) else (if x2 < x4 then (J8_55 o x1 x2) else some ((0 : Int32), o))))
theorem tJ8_38 (Ad : QAd n0 ad) (W : QW Z a0) (s : List Int32) (o : Ob) (x1 : Int32) (x2 : Int32) (x4 : Int32) {r : Int32 × Ob} (h : J8_38 o x1 x2 x4 = some r) : QTri l Z n0 ad 8 (38, [vR 1, vI x1, vI x2, none, vI x4], [], (H0 s o)) (some (Value.int r.1)) (H0 s r.2) := by
 unfold J8_38 at h
 refine zS Ad W 2 (st' := (40, [vR 1, vI x1, vI x2, none, vI x4], [.int (-1:Int32), .int x2], (H0 s o))) rfl ?_
 rcases qite h with ⟨hc75, h⟩ | ⟨hc75, h⟩
 ·refine zT Ad W (t := 55) (f := 43) rfl (XT.ii_eq_t hc75) ?_
  exact zM [tt,tt,tt,ff,ff] (tJ8_55 Ad W s o x1 x2 h)
 ·refine zF Ad W (t := 55) (f := 43) rfl (XT.ii_eq_f hc75) ?_
  refine zS Ad W 1 (st' := (44, [vR 1, vI x1, vI x2, none, vI x4], [.int x2], (H0 s o))) rfl ?_
  rcases qite h with ⟨hc93, h⟩ | ⟨hc93, h⟩
  ·refine zT Ad W (t := 53) (f := 47) rfl (XT.i0_lt_t hc93) ?_
   refine zS Ad W 1 (st' := (54, [vR 1, vI x1, vI x2, none, vI x4], [.int (0:Int32)], (H0 s o))) rfl ?_
   obtain rfl := Option.some.inj h
   exact QTri.retZ rfl rfl
  ·refine zF Ad W (t := 53) (f := 47) rfl (XT.i0_lt_f hc93) ?_
   refine zS Ad W 2 (st' := (50, [vR 1, vI x1, vI x2, none, vI x4], [.int x4, .int x2], (H0 s o))) rfl ?_
   rcases qite h with ⟨hc94, h⟩ | ⟨hc94, h⟩
   ·refine zT Ad W (t := 55) (f := 53) rfl (XT.ii_lt_t hc94) ?_
    exact zM [tt,tt,tt,ff,ff] (tJ8_55 Ad W s o x1 x2 h)
   ·refine zF Ad W (t := 55) (f := 53) rfl (XT.ii_lt_f hc94) ?_
    refine zS Ad W 1 (st' := (54, [vR 1, vI x1, vI x2, none, vI x4], [.int (0:Int32)], (H0 s o))) rfl ?_
    obtain rfl := Option.some.inj h
    exact QTri.retZ rfl rfl
/-- resolve(II)Z -/
def F8 (o : Ob) (x1 : Int32) (x2 : Int32) : Option (Int32 × Ob) :=
 (F5 o (f_rf o) (0:Int32)).bind fun r72 => (F5 r72.2 (f_cf r72.2) (32:Int32)).bind fun r73 => (if x1 = (-1:Int32) then (J8_38 r73.2 x1 x2 r73.1) else (if x1 < (0:Int32) then some ((0:Int32), r73.2) else (if x1 < r72.1 then (J8_38 r73.2 x1 x2 r73.1) else some ((0:Int32), r73.2))))
theorem tF8 (Ad : QAd n0 ad) (W : QW Z a0) (s : List Int32) (o : Ob) (x1 : Int32) (x2 : Int32) {r : Int32 × Ob} (h : F8 o x1 x2 = some r) : QTri l Z n0 ad 8 (0, qentry [.ref 1, .int x1, .int x2] (pMaxL 8), [], (H0 s o)) (some (Value.int r.1)) (H0 s r.2) := by
 unfold F8 at h
 refine zS Ad W 4 (st' := (6, [vR 1, vI x1, vI x2, none, none], [.int (0:Int32), .int (f_rf o), .ref 1], (H0 s o))) rfl ?_
 obtain ⟨r72, hr72, h⟩ := bind_eq_some_iff.mp h
 refine QTri.callP W (a := 1) (as := [.int (f_rf o), .int (0:Int32)]) (rest := []) (w := (some (.int r72.1))) (σ₁ := (H0 s r72.2)) rfl rfl rfl rfl rfl rfl rfl rfl (tF5 Ad W s o (f_rf o) (0:Int32) hr72) ?_
 refine zS Ad W 5 (st' := (17, [vR 1, vI x1, vI x2, vI r72.1, none], [.int (32:Int32), .int (f_cf r72.2), .ref 1], (H0 s r72.2))) rfl ?_
 obtain ⟨r73, hr73, h⟩ := bind_eq_some_iff.mp h
 refine QTri.callP W (a := 1) (as := [.int (f_cf r72.2), .int (32:Int32)]) (rest := []) (w := (some (.int r73.1))) (σ₁ := (H0 s r73.2)) rfl rfl rfl rfl rfl rfl rfl rfl (tF5 Ad W s r72.2 (f_cf r72.2) (32:Int32) hr73) ?_
 refine zS Ad W 3 (st' := (24, [vR 1, vI x1, vI x2, vI r72.1, vI r73.1], [.int (-1:Int32), .int x1], (H0 s r73.2))) rfl ?_
 rcases qite h with ⟨hc74, h⟩ | ⟨hc74, h⟩
 ·refine zT Ad W (t := 38) (f := 27) rfl (XT.ii_eq_t hc74) ?_
  exact zM [tt,tt,tt,ff,tt] (tJ8_38 Ad W s r73.2 x1 x2 r73.1 h)
 ·refine zF Ad W (t := 38) (f := 27) rfl (XT.ii_eq_f hc74) ?_
  refine zS Ad W 1 (st' := (28, [vR 1, vI x1, vI x2, vI r72.1, vI r73.1], [.int x1], (H0 s r73.2))) rfl ?_
  rcases qite h with ⟨hc95, h⟩ | ⟨hc95, h⟩
  ·refine zT Ad W (t := 36) (f := 31) rfl (XT.i0_lt_t hc95) ?_
   refine zS Ad W 1 (st' := (37, [vR 1, vI x1, vI x2, vI r72.1, vI r73.1], [.int (0:Int32)], (H0 s r73.2))) rfl ?_
   obtain rfl := Option.some.inj h
   exact QTri.retZ rfl rfl
  ·refine zF Ad W (t := 36) (f := 31) rfl (XT.i0_lt_f hc95) ?_
   refine zS Ad W 2 (st' := (33, [vR 1, vI x1, vI x2, vI r72.1, vI r73.1], [.int r72.1, .int x1], (H0 s r73.2))) rfl ?_
   rcases qite h with ⟨hc96, h⟩ | ⟨hc96, h⟩
   ·refine zT Ad W (t := 38) (f := 36) rfl (XT.ii_lt_t hc96) ?_
    exact zM [tt,tt,tt,ff,tt] (tJ8_38 Ad W s r73.2 x1 x2 r73.1 h)
   ·refine zF Ad W (t := 38) (f := 36) rfl (XT.ii_lt_f hc96) ?_
    refine zS Ad W 1 (st' := (37, [vR 1, vI x1, vI x2, vI r72.1, vI r73.1], [.int (0:Int32)], (H0 s r73.2))) rfl ?_
    obtain rfl := Option.some.inj h
    exact QTri.retZ rfl rfl
def J9_152 (o : Ob) (x1 : Int32) (x2 : Int32) (x3 : Int32) (x4 : Int32) (x5 : Int32) (x6 : Int32) (x7 : Int32) (x8 : Int32) (x9 : Int32) : Option (((Int32 × Int32 × Int32 × Int32)) ⊕ (Int32 × Int32 × Int32 × Int32 × Int32)) :=
  some (.inr (x5, x6, x7, x8, (x9 + (1 : Int32))))
theorem tJ9_152 (Ad : QAd n0 ad) (W : QW Z a0) (s : List Int32) (o : Ob) (x1 : Int32) (x2 : Int32) (x3 : Int32) (x4 : Int32) (x5 : Int32) (x6 : Int32) (x7 : Int32) (x8 : Int32) (x9 : Int32) {r : ((Int32 × Int32 × Int32 × Int32)) ⊕ (Int32 × Int32 × Int32 × Int32 × Int32)} {u : Option Value} {τ : QHeap} (h : J9_152 o x1 x2 x3 x4 x5 x6 x7 x8 x9 = some r) (hx0 : ∀ x : Int32 × Int32 × Int32 × Int32, r = .inl x → QTri l Z n0 ad 9 (158, [vR 1, none, none, none, none, vI x.1, vI x.2.1, vI x.2.2.1, vI x.2.2.2, none, none, none], [], (H0 s o)) u τ) (hc : ∀ x : Int32 × Int32 × Int32 × Int32 × Int32, r = .inr x → QTri l Z n0 ad 9 (15, [vR 1, vI x1, vI x2, vI x3, vI x4, vI x.1, vI x.2.1, vI x.2.2.1, vI x.2.2.2.1, vI x.2.2.2.2, none, none], [], (H0 s o)) u τ) : QTri l Z n0 ad 9 (152, [vR 1, vI x1, vI x2, vI x3, vI x4, vI x5, vI x6, vI x7, vI x8, vI x9, none, none], [], (H0 s o)) u τ := by
 unfold J9_152 at h
 refine zS Ad W 2 (st' := (15, [vR 1, vI x1, vI x2, vI x3, vI x4, vI x5, vI x6, vI x7, vI x8, vI (x9 + (1:Int32)), none, none], [], (H0 s o))) rfl ?_
 obtain rfl := Option.some.inj h
 exact zM [tt,tt,tt,tt,tt,tt,tt,tt,tt,tt,ff,ff] (hc (x5, x6, x7, x8, (x9 + (1:Int32))) rfl)
def J9_90 (o : Ob) (x1 : Int32) (x2 : Int32) (x3 : Int32) (x4 : Int32) (x5 : Int32) (x6 : Int32) (x7 : Int32) (x8 : Int32) (x9 : Int32) (x10 : Int32) : Option (((Int32 × Int32 × Int32 × Int32)) ⊕ (Int32 × Int32 × Int32 × Int32 × Int32)) :=
  (aget (f_data o) (x10 + (f_vf o))).bind fun y104 => (J9_152 o x1 x2 x3 x4 (x5 + y104) (x6 + (1 : Int32)) (if x6 = (0 : Int32) then y104 else (if y104 < x7 then y104 else x7)) (if x6 = (0 : Int32) then y104 else (if x8 < y104 then y104 else x8)) x9)
theorem tJ9_90 (Ad : QAd n0 ad) (W : QW Z a0) (s : List Int32) (o : Ob) (x1 : Int32) (x2 : Int32) (x3 : Int32) (x4 : Int32) (x5 : Int32) (x6 : Int32) (x7 : Int32) (x8 : Int32) (x9 : Int32) (x10 : Int32) {r : ((Int32 × Int32 × Int32 × Int32)) ⊕ (Int32 × Int32 × Int32 × Int32 × Int32)} {u : Option Value} {τ : QHeap} (h : J9_90 o x1 x2 x3 x4 x5 x6 x7 x8 x9 x10 = some r) (hx0 : ∀ x : Int32 × Int32 × Int32 × Int32, r = .inl x → QTri l Z n0 ad 9 (158, [vR 1, none, none, none, none, vI x.1, vI x.2.1, vI x.2.2.1, vI x.2.2.2, none, none, none], [], (H0 s o)) u τ) (hc : ∀ x : Int32 × Int32 × Int32 × Int32 × Int32, r = .inr x → QTri l Z n0 ad 9 (15, [vR 1, vI x1, vI x2, vI x3, vI x4, vI x.1, vI x.2.1, vI x.2.2.1, vI x.2.2.2.1, vI x.2.2.2.2, none, none], [], (H0 s o)) u τ) : QTri l Z n0 ad 9 (90, [vR 1, vI x1, vI x2, vI x3, vI x4, vI x5, vI x6, vI x7, vI x8, vI x9, vI x10, none], [], (H0 s o)) u τ := by
 unfold J9_90 at h
 refine zS Ad W 6 (st' := (101, [vR 1, vI x1, vI x2, vI x3, vI x4, vI x5, vI x6, vI x7, vI x8, vI x9, vI x10, none], [.int (x10 + (f_vf o)), .ref 2], (H0 s o))) rfl ?_
 obtain ⟨y104, hy104, h⟩ := bind_eq_some_iff.mp h
 refine zB Ad W (f := fun y104 => (102, [vR 1, vI x1, vI x2, vI x3, vI x4, vI x5, vI x6, vI x7, vI x8, vI x9, vI x10, none], [.int y104], (H0 s o))) rfl hy104 ?_
 refine zS Ad W 2 (st' := (106, [vR 1, vI x1, vI x2, vI x3, vI x4, vI x5, vI x6, vI x7, vI x8, vI x9, vI x10, vI y104], [.int x6], (H0 s o))) rfl ?_
 have K107 : ∀ z105 : Int32, z105 = (if x6 = (0:Int32) then y104 else (if y104 < x7 then y104 else x7)) → ∀ z106 : Int32, z106 = (if x6 = (0:Int32) then y104 else (if x8 < y104 then y104 else x8)) → QTri l Z n0 ad 9 (142, [vR 1, vI x1, vI x2, vI x3, vI x4, vI x5, vI x6, vI z105, vI z106, vI x9, none, vI y104], [], (H0 s o)) u τ := by
  intro z105 ez105
  intro z106 ez106
  subst ez105
  subst ez106
  refine zS Ad W 5 (st' := (152, [vR 1, vI x1, vI x2, vI x3, vI x4, vI (x5 + y104), vI (x6 + (1:Int32)), vI (if x6 = (0:Int32) then y104 else (if y104 < x7 then y104 else x7)), vI (if x6 = (0:Int32) then y104 else (if x8 < y104 then y104 else x8)), vI x9, none, vI y104], [], (H0 s o))) rfl ?_
  exact zM [tt,tt,tt,tt,tt,tt,tt,tt,tt,tt,ff,ff] (tJ9_152 Ad W s o x1 x2 x3 x4 (x5 + y104) (x6 + (1:Int32)) (if x6 = (0:Int32) then y104 else (if y104 < x7 then y104 else x7)) (if x6 = (0:Int32) then y104 else (if x8 < y104 then y104 else x8)) x9 h hx0 hc)
 rcases em (x6 = (0:Int32)) with hc108 | hc108
 ·refine zF Ad W (t := 120) (f := 109) rfl (XT.i0_ne_f hc108) ?_
  refine zS Ad W 4 (st' := (117, [vR 1, vI x1, vI x2, vI x3, vI x4, vI x5, vI x6, vI y104, vI y104, vI x9, vI x10, vI y104], [], (H0 s o))) rfl ?_
  refine zS Ad W 1 (st' := (142, [vR 1, vI x1, vI x2, vI x3, vI x4, vI x5, vI x6, vI y104, vI y104, vI x9, vI x10, vI y104], [], (H0 s o))) rfl ?_
  exact zM [tt,tt,tt,tt,tt,tt,tt,tt,tt,tt,ff,tt] (K107 _ (if_pos hc108).symm _ (if_pos hc108).symm)
 ·refine zT Ad W (t := 120) (f := 109) rfl (XT.i0_ne_t hc108) ?_
  refine zS Ad W 2 (st' := (124, [vR 1, vI x1, vI x2, vI x3, vI x4, vI x5, vI x6, vI x7, vI x8, vI x9, vI x10, vI y104], [.int x7, .int y104], (H0 s o))) rfl ?_
  rcases em (y104 < x7) with hc109 | hc109
  ·refine zF Ad W (t := 131) (f := 127) rfl (XT.ii_ge_f hc109) ?_
   refine zS Ad W 4 (st' := (135, [vR 1, vI x1, vI x2, vI x3, vI x4, vI x5, vI x6, vI y104, vI x8, vI x9, vI x10, vI y104], [.int x8, .int y104], (H0 s o))) rfl ?_
   rcases em (x8 < y104) with hc110 | hc110
   ·refine zF Ad W (t := 142) (f := 138) rfl (XT.ii_le_f hc110) ?_
    refine zS Ad W 2 (st' := (142, [vR 1, vI x1, vI x2, vI x3, vI x4, vI x5, vI x6, vI y104, vI y104, vI x9, vI x10, vI y104], [], (H0 s o))) rfl ?_
    exact zM [tt,tt,tt,tt,tt,tt,tt,tt,tt,tt,ff,tt] (K107 _ ((if_neg hc108).trans (if_pos hc109)).symm _ ((if_neg hc108).trans (if_pos hc110)).symm)
   ·refine zT Ad W (t := 142) (f := 138) rfl (XT.ii_le_t hc110) ?_
    exact zM [tt,tt,tt,tt,tt,tt,tt,tt,tt,tt,ff,tt] (K107 _ ((if_neg hc108).trans (if_pos hc109)).symm _ ((if_neg hc108).trans (if_neg hc110)).symm)
  ·refine zT Ad W (t := 131) (f := 127) rfl (XT.ii_ge_t hc109) ?_
   refine zS Ad W 2 (st' := (135, [vR 1, vI x1, vI x2, vI x3, vI x4, vI x5, vI x6, vI x7, vI x8, vI x9, vI x10, vI y104], [.int x8, .int y104], (H0 s o))) rfl ?_
   rcases em (x8 < y104) with hc111 | hc111
   ·refine zF Ad W (t := 142) (f := 138) rfl (XT.ii_le_f hc111) ?_
    refine zS Ad W 2 (st' := (142, [vR 1, vI x1, vI x2, vI x3, vI x4, vI x5, vI x6, vI x7, vI y104, vI x9, vI x10, vI y104], [], (H0 s o))) rfl ?_
    exact zM [tt,tt,tt,tt,tt,tt,tt,tt,tt,tt,ff,tt] (K107 _ ((if_neg hc108).trans (if_neg hc109)).symm _ ((if_neg hc108).trans (if_pos hc111)).symm)
   ·refine zT Ad W (t := 142) (f := 138) rfl (XT.ii_le_t hc111) ?_
    exact zM [tt,tt,tt,tt,tt,tt,tt,tt,tt,tt,ff,tt] (K107 _ ((if_neg hc108).trans (if_neg hc109)).symm _ ((if_neg hc108).trans (if_neg hc111)).symm)
def J9_66 (o : Ob) (x1 : Int32) (x2 : Int32) (x3 : Int32) (x4 : Int32) (x5 : Int32) (x6 : Int32) (x7 : Int32) (x8 : Int32) (x9 : Int32) (x10 : Int32) : Option (((Int32 × Int32 × Int32 × Int32)) ⊕ (Int32 × Int32 × Int32 × Int32 × Int32)) :=
  (if x3 = (0 : Int32) then (J9_90 o x1 x2 x3 x4 x5 x6 x7 x8 x9 x10) else (aget (f_data o) (x10 + (f_cf o))).bind fun y112 => (if y112 = x4 then (J9_90 o x1 x2 x3 x4 x5 x6 x7 x8 x9 x10) else (J9_152 o x1 x2 x3 x4 x5 x6 x7 x8 x9)))
theorem tJ9_66 (Ad : QAd n0 ad) (W : QW Z a0) (s : List Int32) (o : Ob) (x1 : Int32) (x2 : Int32) (x3 : Int32) (x4 : Int32) (x5 : Int32) (x6 : Int32) (x7 : Int32) (x8 : Int32) (x9 : Int32) (x10 : Int32) {r : ((Int32 × Int32 × Int32 × Int32)) ⊕ (Int32 × Int32 × Int32 × Int32 × Int32)} {u : Option Value} {τ : QHeap} (h : J9_66 o x1 x2 x3 x4 x5 x6 x7 x8 x9 x10 = some r) (hx0 : ∀ x : Int32 × Int32 × Int32 × Int32, r = .inl x → QTri l Z n0 ad 9 (158, [vR 1, none, none, none, none, vI x.1, vI x.2.1, vI x.2.2.1, vI x.2.2.2, none, none, none], [], (H0 s o)) u τ) (hc : ∀ x : Int32 × Int32 × Int32 × Int32 × Int32, r = .inr x → QTri l Z n0 ad 9 (15, [vR 1, vI x1, vI x2, vI x3, vI x4, vI x.1, vI x.2.1, vI x.2.2.1, vI x.2.2.2.1, vI x.2.2.2.2, none, none], [], (H0 s o)) u τ) : QTri l Z n0 ad 9 (66, [vR 1, vI x1, vI x2, vI x3, vI x4, vI x5, vI x6, vI x7, vI x8, vI x9, vI x10, none], [], (H0 s o)) u τ := by
 unfold J9_66 at h
 refine zS Ad W 1 (st' := (67, [vR 1, vI x1, vI x2, vI x3, vI x4, vI x5, vI x6, vI x7, vI x8, vI x9, vI x10, none], [.int x3], (H0 s o))) rfl ?_
 rcases qite h with ⟨hc103, h⟩ | ⟨hc103, h⟩
 ·refine zT Ad W (t := 90) (f := 70) rfl (XT.i0_eq_t hc103) ?_
  exact zM [tt,tt,tt,tt,tt,tt,tt,tt,tt,tt,tt,ff] (tJ9_90 Ad W s o x1 x2 x3 x4 x5 x6 x7 x8 x9 x10 h hx0 hc)
 ·refine zF Ad W (t := 90) (f := 70) rfl (XT.i0_eq_f hc103) ?_
  refine zS Ad W 6 (st' := (81, [vR 1, vI x1, vI x2, vI x3, vI x4, vI x5, vI x6, vI x7, vI x8, vI x9, vI x10, none], [.int (x10 + (f_cf o)), .ref 2], (H0 s o))) rfl ?_
  obtain ⟨y112, hy112, h⟩ := bind_eq_some_iff.mp h
  refine zB Ad W (f := fun y112 => (82, [vR 1, vI x1, vI x2, vI x3, vI x4, vI x5, vI x6, vI x7, vI x8, vI x9, vI x10, none], [.int y112], (H0 s o))) rfl hy112 ?_
  refine zS Ad W 1 (st' := (84, [vR 1, vI x1, vI x2, vI x3, vI x4, vI x5, vI x6, vI x7, vI x8, vI x9, vI x10, none], [.int x4, .int y112], (H0 s o))) rfl ?_
  rcases qite h with ⟨hc113, h⟩ | ⟨hc113, h⟩
  ·refine zT Ad W (t := 90) (f := 87) rfl (XT.ii_eq_t hc113) ?_
   exact zM [tt,tt,tt,tt,tt,tt,tt,tt,tt,tt,tt,ff] (tJ9_90 Ad W s o x1 x2 x3 x4 x5 x6 x7 x8 x9 x10 h hx0 hc)
  ·refine zF Ad W (t := 90) (f := 87) rfl (XT.ii_eq_f hc113) ?_
   refine zS Ad W 1 (st' := (152, [vR 1, vI x1, vI x2, vI x3, vI x4, vI x5, vI x6, vI x7, vI x8, vI x9, vI x10, none], [], (H0 s o))) rfl ?_
   exact zM [tt,tt,tt,tt,tt,tt,tt,tt,tt,tt,ff,ff] (tJ9_152 Ad W s o x1 x2 x3 x4 x5 x6 x7 x8 x9 h hx0 hc)
def B9_15 (o : Ob) (x1 : Int32) (x2 : Int32) (x3 : Int32) (x4 : Int32) (v : Int32 × Int32 × Int32 × Int32 × Int32) : Option (((Int32 × Int32 × Int32 × Int32)) ⊕ (Int32 × Int32 × Int32 × Int32 × Int32)) :=
  (if v.2.2.2.2 < (f_nRows o) then (aget (f_filled o) v.2.2.2.2).bind fun y100 => (if y100 = (0 : Int32) then (J9_152 o x1 x2 x3 x4 v.1 v.2.1 v.2.2.1 v.2.2.2.1 v.2.2.2.2) else (if x1 = (0 : Int32) then (J9_66 o x1 x2 x3 x4 v.1 v.2.1 v.2.2.1 v.2.2.2.1 v.2.2.2.2 (v.2.2.2.2 * (4 : Int32))) else (aget (f_data o) ((v.2.2.2.2 * (4 : Int32)) + (f_rf o))).bind fun y114 => (if y114 = x2 then (J9_66 o x1 x2 x3 x4 v.1 v.2.1 v.2.2.1 v.2.2.2.1 v.2.2.2.2 (v.2.2.2.2 * (4 : Int32))) else (J9_152 o x1 x2 x3 x4 v.1 v.2.1 v.2.2.1 v.2.2.2.1 v.2.2.2.2)))) else some (.inl (v.1, v.2.1, v.2.2.1, v.2.2.2.1)))
theorem tB9_15 (Ad : QAd n0 ad) (W : QW Z a0) (s : List Int32) (o : Ob) (x1 : Int32) (x2 : Int32) (x3 : Int32) (x4 : Int32) (v : Int32 × Int32 × Int32 × Int32 × Int32) {r : ((Int32 × Int32 × Int32 × Int32)) ⊕ (Int32 × Int32 × Int32 × Int32 × Int32)} {u : Option Value} {τ : QHeap} (h : B9_15 o x1 x2 x3 x4 v = some r) (hx0 : ∀ x : Int32 × Int32 × Int32 × Int32, r = .inl x → QTri l Z n0 ad 9 (158, [vR 1, none, none, none, none, vI x.1, vI x.2.1, vI x.2.2.1, vI x.2.2.2, none, none, none], [], (H0 s o)) u τ) (hc : ∀ x : Int32 × Int32 × Int32 × Int32 × Int32, r = .inr x → QTri l Z n0 ad 9 (15, [vR 1, vI x1, vI x2, vI x3, vI x4, vI x.1, vI x.2.1, vI x.2.2.1, vI x.2.2.2.1, vI x.2.2.2.2, none, none], [], (H0 s o)) u τ) : QTri l Z n0 ad 9 (15, [vR 1, vI x1, vI x2, vI x3, vI x4, vI v.1, vI v.2.1, vI v.2.2.1, vI v.2.2.2.1, vI v.2.2.2.2, none, none], [], (H0 s o)) u τ := by
 unfold B9_15 at h
 refine zS Ad W 3 (st' := (21, [vR 1, vI x1, vI x2, vI x3, vI x4, vI v.1, vI v.2.1, vI v.2.2.1, vI v.2.2.2.1, vI v.2.2.2.2, none, none], [.int (f_nRows o), .int v.2.2.2.2], (H0 s o))) rfl ?_
 rcases qite h with ⟨hc99, h⟩ | ⟨hc99, h⟩
 ·refine zF Ad W (t := 158) (f := 24) rfl (XT.ii_ge_f hc99) ?_
  refine zS Ad W 3 (st' := (30, [vR 1, vI x1, vI x2, vI x3, vI x4, vI v.1, vI v.2.1, vI v.2.2.1, vI v.2.2.2.1, vI v.2.2.2.2, none, none], [.int v.2.2.2.2, .ref 3], (H0 s o))) rfl ?_
  obtain ⟨y100, hy100, h⟩ := bind_eq_some_iff.mp h
  refine zB Ad W (f := fun y100 => (31, [vR 1, vI x1, vI x2, vI x3, vI x4, vI v.1, vI v.2.1, vI v.2.2.1, vI v.2.2.2.1, vI v.2.2.2.2, none, none], [.int y100], (H0 s o))) rfl hy100 ?_
  rcases qite h with ⟨hc101, h⟩ | ⟨hc101, h⟩
  ·refine zF Ad W (t := 37) (f := 34) rfl (XT.i0_ne_f hc101) ?_
   refine zS Ad W 1 (st' := (152, [vR 1, vI x1, vI x2, vI x3, vI x4, vI v.1, vI v.2.1, vI v.2.2.1, vI v.2.2.2.1, vI v.2.2.2.2, none, none], [], (H0 s o))) rfl ?_
   exact zM [tt,tt,tt,tt,tt,tt,tt,tt,tt,tt,ff,ff] (tJ9_152 Ad W s o x1 x2 x3 x4 v.1 v.2.1 v.2.2.1 v.2.2.2.1 v.2.2.2.2 h hx0 hc)
  ·refine zT Ad W (t := 37) (f := 34) rfl (XT.i0_ne_t hc101) ?_
   refine zS Ad W 5 (st' := (44, [vR 1, vI x1, vI x2, vI x3, vI x4, vI v.1, vI v.2.1, vI v.2.2.1, vI v.2.2.2.1, vI v.2.2.2.2, vI (v.2.2.2.2 * (4:Int32)), none], [.int x1], (H0 s o))) rfl ?_
   rcases qite h with ⟨hc102, h⟩ | ⟨hc102, h⟩
   ·refine zT Ad W (t := 66) (f := 47) rfl (XT.i0_eq_t hc102) ?_
    exact zM [tt,tt,tt,tt,tt,tt,tt,tt,tt,tt,tt,ff] (tJ9_66 Ad W s o x1 x2 x3 x4 v.1 v.2.1 v.2.2.1 v.2.2.2.1 v.2.2.2.2 (v.2.2.2.2 * (4:Int32)) h hx0 hc)
   ·refine zF Ad W (t := 66) (f := 47) rfl (XT.i0_eq_f hc102) ?_
    refine zS Ad W 6 (st' := (58, [vR 1, vI x1, vI x2, vI x3, vI x4, vI v.1, vI v.2.1, vI v.2.2.1, vI v.2.2.2.1, vI v.2.2.2.2, vI (v.2.2.2.2 * (4:Int32)), none], [.int ((v.2.2.2.2 * (4:Int32)) + (f_rf o)), .ref 2], (H0 s o))) rfl ?_
    obtain ⟨y114, hy114, h⟩ := bind_eq_some_iff.mp h
    refine zB Ad W (f := fun y114 => (59, [vR 1, vI x1, vI x2, vI x3, vI x4, vI v.1, vI v.2.1, vI v.2.2.1, vI v.2.2.2.1, vI v.2.2.2.2, vI (v.2.2.2.2 * (4:Int32)), none], [.int y114], (H0 s o))) rfl hy114 ?_
    refine zS Ad W 1 (st' := (60, [vR 1, vI x1, vI x2, vI x3, vI x4, vI v.1, vI v.2.1, vI v.2.2.1, vI v.2.2.2.1, vI v.2.2.2.2, vI (v.2.2.2.2 * (4:Int32)), none], [.int x2, .int y114], (H0 s o))) rfl ?_
    rcases qite h with ⟨hc115, h⟩ | ⟨hc115, h⟩
    ·refine zT Ad W (t := 66) (f := 63) rfl (XT.ii_eq_t hc115) ?_
     exact zM [tt,tt,tt,tt,tt,tt,tt,tt,tt,tt,tt,ff] (tJ9_66 Ad W s o x1 x2 x3 x4 v.1 v.2.1 v.2.2.1 v.2.2.2.1 v.2.2.2.2 (v.2.2.2.2 * (4:Int32)) h hx0 hc)
    ·refine zF Ad W (t := 66) (f := 63) rfl (XT.ii_eq_f hc115) ?_
     refine zS Ad W 1 (st' := (152, [vR 1, vI x1, vI x2, vI x3, vI x4, vI v.1, vI v.2.1, vI v.2.2.1, vI v.2.2.2.1, vI v.2.2.2.2, vI (v.2.2.2.2 * (4:Int32)), none], [], (H0 s o))) rfl ?_
     exact zM [tt,tt,tt,tt,tt,tt,tt,tt,tt,tt,ff,ff] (tJ9_152 Ad W s o x1 x2 x3 x4 v.1 v.2.1 v.2.2.1 v.2.2.2.1 v.2.2.2.2 h hx0 hc)
 ·refine zT Ad W (t := 158) (f := 24) rfl (XT.ii_ge_t hc99) ?_
  obtain rfl := Option.some.inj h
  exact zM [tt,ff,ff,ff,ff,tt,tt,tt,tt,ff,ff,ff] (hx0 (v.1, v.2.1, v.2.2.1, v.2.2.2.1) rfl)
def H0x9 (s : List Int32) (o0 : Ob) (a0_19 : Int32) : QHeap := H0v s (f_data o0) (f_filled o0) (f_rf o0) (f_cf o0) (f_vf o0) (f_ag o0) (f_fMode o0) (f_fRk o0) (f_fCk o0) (f_prevVal o0) (f_prevFound o0) (f_keys o0) (f_nRows o0) (f_nForms o0) (f_last o0) (f_selUseR o0) (f_selRk o0) (f_selUseC o0) (f_selCk o0) a0_19 (f_gVal o0)
/-- pickAgg(IIII)I -/
def F10 (o : Ob) (x1 : Int32) (x2 : Int32) (x3 : Int32) (x4 : Int32) : Option (Int32) :=
 (if x1 = (0:Int32) then some (0:Int32) else (if (f_ag o) = (1:Int32) then some x1 else (if (f_ag o) = (2:Int32) then some x3 else (if (f_ag o) = (3:Int32) then some x4 else some x2))))
theorem tF10 (Ad : QAd n0 ad) (W : QW Z a0) (s : List Int32) (o : Ob) (x1 : Int32) (x2 : Int32) (x3 : Int32) (x4 : Int32) {r : Int32} (h : F10 o x1 x2 x3 x4 = some r) : QTri l Z n0 ad 10 (0, qentry [.ref 1, .int x1, .int x2, .int x3, .int x4] (pMaxL 10), [], (H0 s o)) (some (Value.int r)) (H0 s o) := by
 unfold F10 at h
 refine zS Ad W 1 (st' := (1, [vR 1, vI x1, vI x2, vI x3, vI x4], [.int x1], (H0 s o))) rfl ?_
 rcases qite h with ⟨hc119, h⟩ | ⟨hc119, h⟩
 ·refine zF Ad W (t := 6) (f := 4) rfl (XT.i0_ne_f hc119) ?_
  refine zS Ad W 1 (st' := (5, [vR 1, vI x1, vI x2, vI x3, vI x4], [.int (0:Int32)], (H0 s o))) rfl ?_
  obtain rfl := Option.some.inj h
  exact QTri.retI rfl rfl
 ·refine zT Ad W (t := 6) (f := 4) rfl (XT.i0_ne_t hc119) ?_
  refine zS Ad W 3 (st' := (11, [vR 1, vI x1, vI x2, vI x3, vI x4], [.int (1:Int32), .int (f_ag o)], (H0 s o))) rfl ?_
  rcases qite h with ⟨hc120, h⟩ | ⟨hc120, h⟩
  ·refine zF Ad W (t := 16) (f := 14) rfl (XT.ii_ne_f hc120) ?_
   refine zS Ad W 1 (st' := (15, [vR 1, vI x1, vI x2, vI x3, vI x4], [.int x1], (H0 s o))) rfl ?_
   obtain rfl := Option.some.inj h
   exact QTri.retI rfl rfl
  ·refine zT Ad W (t := 16) (f := 14) rfl (XT.ii_ne_t hc120) ?_
   refine zS Ad W 3 (st' := (21, [vR 1, vI x1, vI x2, vI x3, vI x4], [.int (2:Int32), .int (f_ag o)], (H0 s o))) rfl ?_
   rcases qite h with ⟨hc121, h⟩ | ⟨hc121, h⟩
   ·refine zF Ad W (t := 26) (f := 24) rfl (XT.ii_ne_f hc121) ?_
    refine zS Ad W 1 (st' := (25, [vR 1, vI x1, vI x2, vI x3, vI x4], [.int x3], (H0 s o))) rfl ?_
    obtain rfl := Option.some.inj h
    exact QTri.retI rfl rfl
   ·refine zT Ad W (t := 26) (f := 24) rfl (XT.ii_ne_t hc121) ?_
    refine zS Ad W 3 (st' := (31, [vR 1, vI x1, vI x2, vI x3, vI x4], [.int (3:Int32), .int (f_ag o)], (H0 s o))) rfl ?_
    rcases qite h with ⟨hc122, h⟩ | ⟨hc122, h⟩
    ·refine zF Ad W (t := 37) (f := 34) rfl (XT.ii_ne_f hc122) ?_
     refine zS Ad W 1 (st' := (36, [vR 1, vI x1, vI x2, vI x3, vI x4], [.int x4], (H0 s o))) rfl ?_
     obtain rfl := Option.some.inj h
     exact QTri.retI rfl rfl
    ·refine zT Ad W (t := 37) (f := 34) rfl (XT.ii_ne_t hc122) ?_
     refine zS Ad W 1 (st' := (38, [vR 1, vI x1, vI x2, vI x3, vI x4], [.int x2], (H0 s o))) rfl ?_
     obtain rfl := Option.some.inj h
     exact QTri.retI rfl rfl
def H0x10 (s : List Int32) (o0 : Ob) (a0_20 : Int32) : QHeap := H0v s (f_data o0) (f_filled o0) (f_rf o0) (f_cf o0) (f_vf o0) (f_ag o0) (f_fMode o0) (f_fRk o0) (f_fCk o0) (f_prevVal o0) (f_prevFound o0) (f_keys o0) (f_nRows o0) (f_nForms o0) (f_last o0) (f_selUseR o0) (f_selRk o0) (f_selUseC o0) (f_selCk o0) (f_gCount o0) a0_20
/-- evalGroup(ZIZI)V -/
def F9 (o : Ob) (x1 : Int32) (x2 : Int32) (x3 : Int32) (x4 : Int32) : Option (Ob) :=
 (loopN (B9_15 o x1 x2 x3 x4) qN ((0:Int32), (0:Int32), (0:Int32), (0:Int32), (0:Int32))).bind fun e116 => (F10 (s_gCount o e116.2.1) e116.2.1 e116.1 e116.2.2.1 e116.2.2.2).bind fun r123 => some (s_gVal (s_gCount o e116.2.1) r123)
theorem tF9 (Ad : QAd n0 ad) (W : QW Z a0) (s : List Int32) (o : Ob) (x1 : Int32) (x2 : Int32) (x3 : Int32) (x4 : Int32) {r : Ob} (h : F9 o x1 x2 x3 x4 = some r) : QTri l Z n0 ad 9 (0, qentry [.ref 1, .int x1, .int x2, .int x3, .int x4] (pMaxL 9), [], (H0 s o)) (none : Option Value) (H0 s r) := by
 unfold F9 at h
 refine zS Ad W 4 (st' := (6, [vR 1, vI x1, vI x2, vI x3, vI x4, vI (0:Int32), vI (0:Int32), none, none, none, none, none], [], (H0 s o))) rfl ?_
 refine zS Ad W 4 (st' := (12, [vR 1, vI x1, vI x2, vI x3, vI x4, vI (0:Int32), vI (0:Int32), vI (0:Int32), vI (0:Int32), none, none, none], [], (H0 s o))) rfl ?_
 refine zS Ad W 2 (st' := (15, [vR 1, vI x1, vI x2, vI x3, vI x4, vI (0:Int32), vI (0:Int32), vI (0:Int32), vI (0:Int32), vI (0:Int32), none, none], [], (H0 s o))) rfl ?_
 obtain ⟨e116, he116, h⟩ := bind_eq_some_iff.mp h
 refine zM [tt,tt,tt,tt,tt,tt,tt,tt,tt,tt,ff,ff] (loopN_tri (B := B9_15 o x1 x2 x3 x4) (T := fun lv117 => QTri l Z n0 ad 9 (15, [vR 1, vI x1, vI x2, vI x3, vI x4, vI lv117.1, vI lv117.2.1, vI lv117.2.2.1, vI lv117.2.2.2.1, vI lv117.2.2.2.2, none, none], [], (H0 s o)) (none : Option Value) (H0 s r)) (KE := fun e116a => QTri l Z n0 ad 9 (158, [vR 1, none, none, none, none, vI e116a.1, vI e116a.2.1, vI e116a.2.2.1, vI e116a.2.2.2, none, none, none], [], (H0 s o)) (none : Option Value) (H0 s r)) (fun lv117 r hB hE hC => tB9_15 Ad W s o x1 x2 x3 x4 lv117 hB (fun x q => hE _ q) (fun x q => hC x q)) qN ((0:Int32), (0:Int32), (0:Int32), (0:Int32), (0:Int32)) e116 he116 ?_)
 refine zS Ad W 3 (st' := (164, [vR 1, none, none, none, none, vI e116.1, vI e116.2.1, vI e116.2.2.1, vI e116.2.2.2, none, none, none], [], (H0x9 s o e116.2.1))) rfl ?_
 refine zS Ad W 6 (st' := (174, [vR 1, none, none, none, none, vI e116.1, vI e116.2.1, vI e116.2.2.1, vI e116.2.2.2, none, none, none], [.int e116.2.2.2, .int e116.2.2.1, .int e116.1, .int e116.2.1, .ref 1, .ref 1], (H0x9 s o e116.2.1))) rfl ?_
 have E118 : ((H0x9 s o e116.2.1) : QHeap) = (H0 s (s_gCount o e116.2.1)) := by simp only [fs, H0, H0v, H0x9, s_gCount]
 rw [E118]
 obtain ⟨r123, hr123, h⟩ := bind_eq_some_iff.mp h
 refine QTri.callP W (a := 1) (as := [.int e116.2.1, .int e116.1, .int e116.2.2.1, .int e116.2.2.2]) (rest := [.ref 1]) (w := (some (.int r123))) (σ₁ := (H0 s (s_gCount o e116.2.1))) rfl rfl rfl rfl rfl rfl rfl rfl (tF10 Ad W s (s_gCount o e116.2.1) e116.2.1 e116.1 e116.2.2.1 e116.2.2.2 hr123) ?_
 refine zS Ad W 1 (st' := (180, [vR 1, none, none, none, none, vI e116.1, vI e116.2.1, vI e116.2.2.1, vI e116.2.2.2, none, none, none], [], (H0x10 s (s_gCount o e116.2.1) r123))) rfl ?_
 have E124 : ((H0x10 s (s_gCount o e116.2.1) r123) : QHeap) = (H0 s (s_gVal (s_gCount o e116.2.1) r123)) := (show ∀ b0 : Ob, ((H0x10 s b0 r123) : QHeap) = (H0 s (s_gVal b0 r123)) from fun b0 => by simp only [fs, H0, H0v, H0x10, s_gVal]) (s_gCount o e116.2.1)
 rw [E124]
 obtain rfl := Option.some.inj h
 exact QTri.ret0 rfl rfl
/-- groupCount(II)I -/
def F7 (o : Ob) (x1 : Int32) (x2 : Int32) : Option (Int32 × Ob) :=
 (F8 o x1 x2).bind fun r97 => (if r97.1 = (0:Int32) then some ((0:Int32), r97.2) else (F9 r97.2 (f_selUseR r97.2) (f_selRk r97.2) (f_selUseC r97.2) (f_selCk r97.2)).bind fun r125 => some ((f_gCount r125), r125))
theorem tF7 (Ad : QAd n0 ad) (W : QW Z a0) (s : List Int32) (o : Ob) (x1 : Int32) (x2 : Int32) {r : Int32 × Ob} (h : F7 o x1 x2 = some r) : QTri l Z n0 ad 7 (0, qentry [.ref 1, .int x1, .int x2] (pMaxL 7), [], (H0 s o)) (some (Value.int r.1)) (H0 s r.2) := by
 unfold F7 at h
 refine zS Ad W 3 (st' := (3, [vR 1, vI x1, vI x2], [.int x2, .int x1, .ref 1], (H0 s o))) rfl ?_
 obtain ⟨r97, hr97, h⟩ := bind_eq_some_iff.mp h
 refine QTri.callP W (a := 1) (as := [.int x1, .int x2]) (rest := []) (w := (some (.int r97.1))) (σ₁ := (H0 s r97.2)) rfl rfl rfl rfl rfl rfl rfl rfl (tF8 Ad W s o x1 x2 hr97) ?_
 rcases qite h with ⟨hc98, h⟩ | ⟨hc98, h⟩
 ·refine zF Ad W (t := 11) (f := 9) rfl (XT.i0_ne_f hc98) ?_
  refine zS Ad W 1 (st' := (10, [vR 1, vI x1, vI x2], [.int (0:Int32)], (H0 s r97.2))) rfl ?_
  obtain rfl := Option.some.inj h
  exact QTri.retI rfl rfl
 ·refine zT Ad W (t := 11) (f := 9) rfl (XT.i0_ne_t hc98) ?_
  refine zS Ad W 9 (st' := (28, [vR 1, vI x1, vI x2], [.int (f_selCk r97.2), .int (f_selUseC r97.2), .int (f_selRk r97.2), .int (f_selUseR r97.2), .ref 1], (H0 s r97.2))) rfl ?_
  obtain ⟨r125, hr125, h⟩ := bind_eq_some_iff.mp h
  refine QTri.callP W (a := 1) (as := [.int (f_selUseR r97.2), .int (f_selRk r97.2), .int (f_selUseC r97.2), .int (f_selCk r97.2)]) (rest := []) (w := none) (σ₁ := (H0 s r125)) rfl rfl rfl rfl rfl rfl rfl rfl (tF9 Ad W s r97.2 (f_selUseR r97.2) (f_selRk r97.2) (f_selUseC r97.2) (f_selCk r97.2) hr125) ?_
  refine zS Ad W 2 (st' := (35, [vR 1, vI x1, vI x2], [.int (f_gCount r125)], (H0 s r125))) rfl ?_
  obtain rfl := Option.some.inj h
  exact QTri.retI rfl rfl
/-- value(II)I -/
def F11 (o : Ob) (x1 : Int32) (x2 : Int32) : Option (Int32 × Ob) :=
 (F8 o x1 x2).bind fun r128 => (if r128.1 = (0:Int32) then some ((0:Int32), r128.2) else (F9 r128.2 (f_selUseR r128.2) (f_selRk r128.2) (f_selUseC r128.2) (f_selCk r128.2)).bind fun r130 => some ((f_gVal r130), r130))
theorem tF11 (Ad : QAd n0 ad) (W : QW Z a0) (s : List Int32) (o : Ob) (x1 : Int32) (x2 : Int32) {r : Int32 × Ob} (h : F11 o x1 x2 = some r) : QTri l Z n0 ad 11 (0, qentry [.ref 1, .int x1, .int x2] (pMaxL 11), [], (H0 s o)) (some (Value.int r.1)) (H0 s r.2) := by
 unfold F11 at h
 refine zS Ad W 3 (st' := (3, [vR 1, vI x1, vI x2], [.int x2, .int x1, .ref 1], (H0 s o))) rfl ?_
 obtain ⟨r128, hr128, h⟩ := bind_eq_some_iff.mp h
 refine QTri.callP W (a := 1) (as := [.int x1, .int x2]) (rest := []) (w := (some (.int r128.1))) (σ₁ := (H0 s r128.2)) rfl rfl rfl rfl rfl rfl rfl rfl (tF8 Ad W s o x1 x2 hr128) ?_
 rcases qite h with ⟨hc129, h⟩ | ⟨hc129, h⟩
 ·refine zF Ad W (t := 11) (f := 9) rfl (XT.i0_ne_f hc129) ?_
  refine zS Ad W 1 (st' := (10, [vR 1, vI x1, vI x2], [.int (0:Int32)], (H0 s r128.2))) rfl ?_
  obtain rfl := Option.some.inj h
  exact QTri.retI rfl rfl
 ·refine zT Ad W (t := 11) (f := 9) rfl (XT.i0_ne_t hc129) ?_
  refine zS Ad W 9 (st' := (28, [vR 1, vI x1, vI x2], [.int (f_selCk r128.2), .int (f_selUseC r128.2), .int (f_selRk r128.2), .int (f_selUseR r128.2), .ref 1], (H0 s r128.2))) rfl ?_
  obtain ⟨r130, hr130, h⟩ := bind_eq_some_iff.mp h
  refine QTri.callP W (a := 1) (as := [.int (f_selUseR r128.2), .int (f_selRk r128.2), .int (f_selUseC r128.2), .int (f_selCk r128.2)]) (rest := []) (w := none) (σ₁ := (H0 s r130)) rfl rfl rfl rfl rfl rfl rfl rfl (tF9 Ad W s r128.2 (f_selUseR r128.2) (f_selRk r128.2) (f_selUseC r128.2) (f_selCk r128.2) hr130) ?_
  refine zS Ad W 2 (st' := (35, [vR 1, vI x1, vI x2], [.int (f_gVal r130)], (H0 s r130))) rfl ?_
  obtain rfl := Option.some.inj h
  exact QTri.retI rfl rfl
def J3_179 (o : Ob) (x1 : Int32) (x2 : Int64) (x4 : Int32) (x5 : Int32) (x6 : Int32) (x7 : Int32) (x8 : Int32) (x9 : Int32) (x10 : Int32) (x11 : Int32) : Option (((Int32 × Int32 × Int32 × Ob)) ⊕ (Int32 × Int32 × Int32 × Int32 × Ob)) :=
  some (.inr (x8, x9, x10, (x11 + (1 : Int32)), o))
theorem tJ3_179 (Ad : QAd n0 ad) (W : QW Z a0) (s : List Int32) (o : Ob) (x1 : Int32) (x2 : Int64) (x4 : Int32) (x5 : Int32) (x6 : Int32) (x7 : Int32) (x8 : Int32) (x9 : Int32) (x10 : Int32) (x11 : Int32) {r : ((Int32 × Int32 × Int32 × Ob)) ⊕ (Int32 × Int32 × Int32 × Int32 × Ob)} {u : Option Value} {τ : QHeap} (h : J3_179 o x1 x2 x4 x5 x6 x7 x8 x9 x10 x11 = some r) (hx0 : ∀ x : Int32 × Int32 × Int32 × Ob, r = .inl x → QTri l Z n0 ad 3 (185, [vR 1, vI x1, vL x2, none, vI x4, vI x5, vI x6, vI x7, vI x.1, vI x.2.1, vI x.2.2.1, none, none, none, none, none, none], [], (H0 s x.2.2.2)) u τ) (hc : ∀ x : Int32 × Int32 × Int32 × Int32 × Ob, r = .inr x → QTri l Z n0 ad 3 (117, [vR 1, vI x1, vL x2, none, vI x4, vI x5, vI x6, vI x7, vI x.1, vI x.2.1, vI x.2.2.1, vI x.2.2.2.1, none, none, none, none, none], [], (H0 s x.2.2.2.2)) u τ) : QTri l Z n0 ad 3 (179, [vR 1, vI x1, vL x2, none, vI x4, vI x5, vI x6, vI x7, vI x8, vI x9, vI x10, vI x11, none, none, none, none, none], [], (H0 s o)) u τ := by
 unfold J3_179 at h
 refine zS Ad W 2 (st' := (117, [vR 1, vI x1, vL x2, none, vI x4, vI x5, vI x6, vI x7, vI x8, vI x9, vI x10, vI (x11 + (1:Int32)), none, none, none, none, none], [], (H0 s o))) rfl ?_
 obtain rfl := Option.some.inj h
 exact zM [tt,tt,tt,ff,tt,tt,tt,tt,tt,tt,tt,tt,ff,ff,ff,ff,ff] (hc (x8, x9, x10, (x11 + (1:Int32)), o) rfl)
def J3_174 (o : Ob) (x1 : Int32) (x2 : Int64) (x4 : Int32) (x5 : Int32) (x6 : Int32) (x7 : Int32) (x8 : Int32) (x11 : Int32) (w0 : Int32) : Option (((Int32 × Int32 × Int32 × Ob)) ⊕ (Int32 × Int32 × Int32 × Int32 × Ob)) :=
  (J3_179 o x1 x2 x4 x5 x6 x7 x8 w0 (1 : Int32) x11)
theorem tJ3_174 (Ad : QAd n0 ad) (W : QW Z a0) (s : List Int32) (o : Ob) (x1 : Int32) (x2 : Int64) (x4 : Int32) (x5 : Int32) (x6 : Int32) (x7 : Int32) (x8 : Int32) (x11 : Int32) (w0 : Int32) {r : ((Int32 × Int32 × Int32 × Ob)) ⊕ (Int32 × Int32 × Int32 × Int32 × Ob)} {u : Option Value} {τ : QHeap} (h : J3_174 o x1 x2 x4 x5 x6 x7 x8 x11 w0 = some r) (hx0 : ∀ x : Int32 × Int32 × Int32 × Ob, r = .inl x → QTri l Z n0 ad 3 (185, [vR 1, vI x1, vL x2, none, vI x4, vI x5, vI x6, vI x7, vI x.1, vI x.2.1, vI x.2.2.1, none, none, none, none, none, none], [], (H0 s x.2.2.2)) u τ) (hc : ∀ x : Int32 × Int32 × Int32 × Int32 × Ob, r = .inr x → QTri l Z n0 ad 3 (117, [vR 1, vI x1, vL x2, none, vI x4, vI x5, vI x6, vI x7, vI x.1, vI x.2.1, vI x.2.2.1, vI x.2.2.2.1, none, none, none, none, none], [], (H0 s x.2.2.2.2)) u τ) : QTri l Z n0 ad 3 (174, [vR 1, vI x1, vL x2, none, vI x4, vI x5, vI x6, vI x7, vI x8, none, none, vI x11, none, none, none, none, none], [.int w0], (H0 s o)) u τ := by
 unfold J3_174 at h
 refine zS Ad W 3 (st' := (179, [vR 1, vI x1, vL x2, none, vI x4, vI x5, vI x6, vI x7, vI x8, vI w0, vI (1:Int32), vI x11, none, none, none, none, none], [], (H0 s o))) rfl ?_
 exact zM [tt,tt,tt,ff,tt,tt,tt,tt,tt,tt,tt,tt,ff,ff,ff,ff,ff] (tJ3_179 Ad W s o x1 x2 x4 x5 x6 x7 x8 w0 (1:Int32) x11 h hx0 hc)
/-- comb(III)I -/
def F21 (x0 : Int32) (x1 : Int32) (x2 : Int32) : Option (Int32) :=
 (if x0 = (2:Int32) then (if x1 < x2 then some x1 else some x2) else (if x0 = (3:Int32) then (if x2 < x1 then some x1 else some x2) else some (x1 + x2)))
theorem tF21 (Ad : QAd n0 ad) (W : QW Z a0) {σ : QHeap} (x0 : Int32) (x1 : Int32) (x2 : Int32) {r : Int32} (h : F21 x0 x1 x2 = some r) : QTri l Z n0 ad 21 (0, qentry [.int x0, .int x1, .int x2] (pMaxL 21), [], σ) (some (Value.int r)) σ := by
 unfold F21 at h
 refine zS Ad W 2 (st' := (2, [vI x0, vI x1, vI x2], [.int (2:Int32), .int x0], σ)) rfl ?_
 rcases qite h with ⟨hc133, h⟩ | ⟨hc133, h⟩
 ·refine zF Ad W (t := 16) (f := 5) rfl (XT.ii_ne_f hc133) ?_
  refine zS Ad W 2 (st' := (7, [vI x0, vI x1, vI x2], [.int x2, .int x1], σ)) rfl ?_
  rcases qite h with ⟨hc134, h⟩ | ⟨hc134, h⟩
  ·refine zF Ad W (t := 14) (f := 10) rfl (XT.ii_ge_f hc134) ?_
   refine zS Ad W 2 (st' := (15, [vI x0, vI x1, vI x2], [.int x1], σ)) rfl ?_
   obtain rfl := Option.some.inj h
   exact QTri.retI rfl rfl
  ·refine zT Ad W (t := 14) (f := 10) rfl (XT.ii_ge_t hc134) ?_
   refine zS Ad W 1 (st' := (15, [vI x0, vI x1, vI x2], [.int x2], σ)) rfl ?_
   obtain rfl := Option.some.inj h
   exact QTri.retI rfl rfl
 ·refine zT Ad W (t := 16) (f := 5) rfl (XT.ii_ne_t hc133) ?_
  refine zS Ad W 2 (st' := (18, [vI x0, vI x1, vI x2], [.int (3:Int32), .int x0], σ)) rfl ?_
  rcases qite h with ⟨hc135, h⟩ | ⟨hc135, h⟩
  ·refine zF Ad W (t := 32) (f := 21) rfl (XT.ii_ne_f hc135) ?_
   refine zS Ad W 2 (st' := (23, [vI x0, vI x1, vI x2], [.int x2, .int x1], σ)) rfl ?_
   rcases qite h with ⟨hc136, h⟩ | ⟨hc136, h⟩
   ·refine zF Ad W (t := 30) (f := 26) rfl (XT.ii_le_f hc136) ?_
    refine zS Ad W 2 (st' := (31, [vI x0, vI x1, vI x2], [.int x1], σ)) rfl ?_
    obtain rfl := Option.some.inj h
    exact QTri.retI rfl rfl
   ·refine zT Ad W (t := 30) (f := 26) rfl (XT.ii_le_t hc136) ?_
    refine zS Ad W 1 (st' := (31, [vI x0, vI x1, vI x2], [.int x2], σ)) rfl ?_
    obtain rfl := Option.some.inj h
    exact QTri.retI rfl rfl
  ·refine zT Ad W (t := 32) (f := 21) rfl (XT.ii_ne_t hc135) ?_
   refine zS Ad W 3 (st' := (35, [vI x0, vI x1, vI x2], [.int (x1 + x2)], σ)) rfl ?_
   obtain rfl := Option.some.inj h
   exact QTri.retI rfl rfl
def B3_117 (x1 : Int32) (x2 : Int64) (x4 : Int32) (x5 : Int32) (x6 : Int32) (x7 : Int32) (v : Int32 × Int32 × Int32 × Int32 × Ob) : Option (((Int32 × Int32 × Int32 × Ob)) ⊕ (Int32 × Int32 × Int32 × Int32 × Ob)) :=
  (if v.2.2.2.1 < x5 then (F7 v.2.2.2.2 x7 v.2.2.2.1).bind fun r126 => (if (0 : Int32) < r126.1 then (F11 r126.2 x7 v.2.2.2.1).bind fun r131 => (if v.2.2.1 = (0 : Int32) then (J3_174 r131.2 x1 x2 x4 x5 x6 x7 (v.1 + r126.1) v.2.2.2.1 r131.1) else (F21 x1 v.2.1 r131.1).bind fun r137 => (J3_174 r131.2 x1 x2 x4 x5 x6 x7 (v.1 + r126.1) v.2.2.2.1 r137)) else (J3_179 r126.2 x1 x2 x4 x5 x6 x7 (v.1 + r126.1) v.2.1 v.2.2.1 v.2.2.2.1)) else some (.inl (v.1, v.2.1, v.2.2.1, v.2.2.2.2)))
theorem tB3_117 (Ad : QAd n0 ad) (W : QW Z a0) (s : List Int32) (x1 : Int32) (x2 : Int64) (x4 : Int32) (x5 : Int32) (x6 : Int32) (x7 : Int32) (v : Int32 × Int32 × Int32 × Int32 × Ob) {r : ((Int32 × Int32 × Int32 × Ob)) ⊕ (Int32 × Int32 × Int32 × Int32 × Ob)} {u : Option Value} {τ : QHeap} (h : B3_117 x1 x2 x4 x5 x6 x7 v = some r) (hx0 : ∀ x : Int32 × Int32 × Int32 × Ob, r = .inl x → QTri l Z n0 ad 3 (185, [vR 1, vI x1, vL x2, none, vI x4, vI x5, vI x6, vI x7, vI x.1, vI x.2.1, vI x.2.2.1, none, none, none, none, none, none], [], (H0 s x.2.2.2)) u τ) (hc : ∀ x : Int32 × Int32 × Int32 × Int32 × Ob, r = .inr x → QTri l Z n0 ad 3 (117, [vR 1, vI x1, vL x2, none, vI x4, vI x5, vI x6, vI x7, vI x.1, vI x.2.1, vI x.2.2.1, vI x.2.2.2.1, none, none, none, none, none], [], (H0 s x.2.2.2.2)) u τ) : QTri l Z n0 ad 3 (117, [vR 1, vI x1, vL x2, none, vI x4, vI x5, vI x6, vI x7, vI v.1, vI v.2.1, vI v.2.2.1, vI v.2.2.2.1, none, none, none, none, none], [], (H0 s v.2.2.2.2)) u τ := by
 unfold B3_117 at h
 refine zS Ad W 2 (st' := (121, [vR 1, vI x1, vL x2, none, vI x4, vI x5, vI x6, vI x7, vI v.1, vI v.2.1, vI v.2.2.1, vI v.2.2.2.1, none, none, none, none, none], [.int x5, .int v.2.2.2.1], (H0 s v.2.2.2.2))) rfl ?_
 rcases qite h with ⟨hc71, h⟩ | ⟨hc71, h⟩
 ·refine zF Ad W (t := 185) (f := 124) rfl (XT.ii_ge_f hc71) ?_
  refine zS Ad W 3 (st' := (129, [vR 1, vI x1, vL x2, none, vI x4, vI x5, vI x6, vI x7, vI v.1, vI v.2.1, vI v.2.2.1, vI v.2.2.2.1, none, none, none, none, none], [.int v.2.2.2.1, .int x7, .ref 1], (H0 s v.2.2.2.2))) rfl ?_
  obtain ⟨r126, hr126, h⟩ := bind_eq_some_iff.mp h
  refine QTri.callV W (a := 1) (as := [.int x7, .int v.2.2.2.1]) (rest := []) (w := (some (.int r126.1))) (σ₁ := (H0 s r126.2)) rfl rfl rfl rfl rfl rfl rfl rfl (tF7 Ad W s v.2.2.2.2 x7 v.2.2.2.1 hr126) ?_
  refine zS Ad W 5 (st' := (141, [vR 1, vI x1, vL x2, none, vI x4, vI x5, vI x6, vI x7, vI (v.1 + r126.1), vI v.2.1, vI v.2.2.1, vI v.2.2.2.1, vI r126.1, none, none, none, none], [], (H0 s r126.2))) rfl ?_
  refine zS Ad W 1 (st' := (143, [vR 1, vI x1, vL x2, none, vI x4, vI x5, vI x6, vI x7, vI (v.1 + r126.1), vI v.2.1, vI v.2.2.1, vI v.2.2.2.1, vI r126.1, none, none, none, none], [.int r126.1], (H0 s r126.2))) rfl ?_
  rcases qite h with ⟨hc127, h⟩ | ⟨hc127, h⟩
  ·refine zF Ad W (t := 179) (f := 146) rfl (XT.i0_le_f hc127) ?_
   refine zS Ad W 3 (st' := (151, [vR 1, vI x1, vL x2, none, vI x4, vI x5, vI x6, vI x7, vI (v.1 + r126.1), vI v.2.1, vI v.2.2.1, vI v.2.2.2.1, vI r126.1, none, none, none, none], [.int v.2.2.2.1, .int x7, .ref 1], (H0 s r126.2))) rfl ?_
   obtain ⟨r131, hr131, h⟩ := bind_eq_some_iff.mp h
   refine QTri.callV W (a := 1) (as := [.int x7, .int v.2.2.2.1]) (rest := []) (w := (some (.int r131.1))) (σ₁ := (H0 s r131.2)) rfl rfl rfl rfl rfl rfl rfl rfl (tF11 Ad W s r126.2 x7 v.2.2.2.1 hr131) ?_
   refine zS Ad W 2 (st' := (158, [vR 1, vI x1, vL x2, none, vI x4, vI x5, vI x6, vI x7, vI (v.1 + r126.1), vI v.2.1, vI v.2.2.1, vI v.2.2.2.1, vI r126.1, vI r131.1, none, none, none], [.int v.2.2.1], (H0 s r131.2))) rfl ?_
   rcases qite h with ⟨hc132, h⟩ | ⟨hc132, h⟩
   ·refine zT Ad W (t := 172) (f := 161) rfl (XT.i0_eq_t hc132) ?_
    refine zS Ad W 1 (st' := (174, [vR 1, vI x1, vL x2, none, vI x4, vI x5, vI x6, vI x7, vI (v.1 + r126.1), vI v.2.1, vI v.2.2.1, vI v.2.2.2.1, vI r126.1, vI r131.1, none, none, none], [.int r131.1], (H0 s r131.2))) rfl ?_
    exact zM [tt,tt,tt,ff,tt,tt,tt,tt,tt,ff,ff,tt,ff,ff,ff,ff,ff] (tJ3_174 Ad W s r131.2 x1 x2 x4 x5 x6 x7 (v.1 + r126.1) v.2.2.2.1 r131.1 h hx0 hc)
   ·refine zF Ad W (t := 172) (f := 161) rfl (XT.i0_eq_f hc132) ?_
    refine zS Ad W 3 (st' := (166, [vR 1, vI x1, vL x2, none, vI x4, vI x5, vI x6, vI x7, vI (v.1 + r126.1), vI v.2.1, vI v.2.2.1, vI v.2.2.2.1, vI r126.1, vI r131.1, none, none, none], [.int r131.1, .int v.2.1, .int x1], (H0 s r131.2))) rfl ?_
    obtain ⟨r137, hr137, h⟩ := bind_eq_some_iff.mp h
    refine QTri.callS W (as := [.int x1, .int v.2.1, .int r131.1]) (rest := []) (w := (some (.int r137))) (σ₁ := (H0 s r131.2)) rfl rfl rfl rfl rfl rfl rfl (tF21 Ad W x1 v.2.1 r131.1 hr137) ?_
    refine zS Ad W 1 (st' := (174, [vR 1, vI x1, vL x2, none, vI x4, vI x5, vI x6, vI x7, vI (v.1 + r126.1), vI v.2.1, vI v.2.2.1, vI v.2.2.2.1, vI r126.1, vI r131.1, none, none, none], [.int r137], (H0 s r131.2))) rfl ?_
    exact zM [tt,tt,tt,ff,tt,tt,tt,tt,tt,ff,ff,tt,ff,ff,ff,ff,ff] (tJ3_174 Ad W s r131.2 x1 x2 x4 x5 x6 x7 (v.1 + r126.1) v.2.2.2.1 r137 h hx0 hc)
  ·refine zT Ad W (t := 179) (f := 146) rfl (XT.i0_le_t hc127) ?_
   exact zM [tt,tt,tt,ff,tt,tt,tt,tt,tt,tt,tt,tt,ff,ff,ff,ff,ff] (tJ3_179 Ad W s r126.2 x1 x2 x4 x5 x6 x7 (v.1 + r126.1) v.2.1 v.2.2.1 v.2.2.2.1 h hx0 hc)
 ·refine zT Ad W (t := 185) (f := 124) rfl (XT.ii_ge_t hc71) ?_
  obtain rfl := Option.some.inj h
  exact zM [tt,tt,tt,ff,tt,tt,tt,tt,tt,tt,tt,ff,ff,ff,ff,ff,ff] (hx0 (v.1, v.2.1, v.2.2.1, v.2.2.2.2) rfl)
def B3_85 (x1 : Int32) (x2 : Int64) (x4 : Int32) (x5 : Int32) (v : Int32 × Ob) : Option (((Ob) ⊕ (Int32 × Ob)) ⊕ (Int32 × Ob)) :=
  (if v.1 < x4 then (loopN (B3_117 x1 x2 x4 x5 v.1 (if v.1 < (0 : Int32) then (-1 : Int32) else v.1)) qN ((0 : Int32), (0 : Int32), (0 : Int32), (0 : Int32), v.2)).bind fun e138 => (F7 e138.2.2.2 (if v.1 < (0 : Int32) then (-1 : Int32) else v.1) (-1 : Int32)).bind fun r140 => (if r140.1 = e138.1 then (F11 r140.2 (if v.1 < (0 : Int32) then (-1 : Int32) else v.1) (-1 : Int32)).bind fun r142 => (if r142.1 = (if e138.2.2.1 = (0 : Int32) then (0 : Int32) else e138.2.1) then some (.inr ((v.1 + (1 : Int32)), r142.2)) else some (.inl (Sum.inr ((0 : Int32), r142.2)))) else some (.inl (Sum.inr ((0 : Int32), r140.2)))) else some (.inl (Sum.inl v.2)))
theorem tB3_85 (Ad : QAd n0 ad) (W : QW Z a0) (s : List Int32) (x1 : Int32) (x2 : Int64) (x4 : Int32) (x5 : Int32) (v : Int32 × Ob) {r : ((Ob) ⊕ (Int32 × Ob)) ⊕ (Int32 × Ob)} {u : Option Value} {τ : QHeap} (h : B3_85 x1 x2 x4 x5 v = some r) (hx0 : ∀ x : Ob, r = .inl (Sum.inl x) → QTri l Z n0 ad 3 (228, [vR 1, vI x1, vL x2, none, vI x4, vI x5, none, none, none, none, none, none, none, none, none, none, none], [], (H0 s x)) u τ) (hx1 : ∀ x : Int32 × Ob, r = .inl (Sum.inr x) → u = (some (Value.int x.1)) ∧ τ = (H0 s x.2)) (hc : ∀ x : Int32 × Ob, r = .inr x → QTri l Z n0 ad 3 (85, [vR 1, vI x1, vL x2, none, vI x4, vI x5, vI x.1, none, none, none, none, none, none, none, none, none, none], [], (H0 s x.2)) u τ) : QTri l Z n0 ad 3 (85, [vR 1, vI x1, vL x2, none, vI x4, vI x5, vI v.1, none, none, none, none, none, none, none, none, none, none], [], (H0 s v.2)) u τ := by
 unfold B3_85 at h
 refine zS Ad W 2 (st' := (89, [vR 1, vI x1, vL x2, none, vI x4, vI x5, vI v.1, none, none, none, none, none, none, none, none, none, none], [.int x4, .int v.1], (H0 s v.2))) rfl ?_
 rcases qite h with ⟨hc67, h⟩ | ⟨hc67, h⟩
 ·refine zF Ad W (t := 228) (f := 92) rfl (XT.ii_ge_f hc67) ?_
  refine zS Ad W 1 (st' := (94, [vR 1, vI x1, vL x2, none, vI x4, vI x5, vI v.1, none, none, none, none, none, none, none, none, none, none], [.int v.1], (H0 s v.2))) rfl ?_
  have K69 : ∀ z68 : Int32, z68 = (if v.1 < (0:Int32) then (-1:Int32) else v.1) → QTri l Z n0 ad 3 (103, [vR 1, vI x1, vL x2, none, vI x4, vI x5, vI v.1, none, none, none, none, none, none, none, none, none, none], [.int z68], (H0 s v.2)) u τ := by
   intro z68 ez68
   subst ez68
   refine zS Ad W 3 (st' := (108, [vR 1, vI x1, vL x2, none, vI x4, vI x5, vI v.1, vI (if v.1 < (0:Int32) then (-1:Int32) else v.1), vI (0:Int32), none, none, none, none, none, none, none, none], [], (H0 s v.2))) rfl ?_
   refine zS Ad W 4 (st' := (114, [vR 1, vI x1, vL x2, none, vI x4, vI x5, vI v.1, vI (if v.1 < (0:Int32) then (-1:Int32) else v.1), vI (0:Int32), vI (0:Int32), vI (0:Int32), none, none, none, none, none, none], [], (H0 s v.2))) rfl ?_
   refine zS Ad W 2 (st' := (117, [vR 1, vI x1, vL x2, none, vI x4, vI x5, vI v.1, vI (if v.1 < (0:Int32) then (-1:Int32) else v.1), vI (0:Int32), vI (0:Int32), vI (0:Int32), vI (0:Int32), none, none, none, none, none], [], (H0 s v.2))) rfl ?_
   obtain ⟨e138, he138, h⟩ := bind_eq_some_iff.mp h
   refine zM [tt,tt,tt,ff,tt,tt,tt,tt,tt,tt,tt,tt,ff,ff,ff,ff,ff] (loopN_tri (B := B3_117 x1 x2 x4 x5 v.1 (if v.1 < (0:Int32) then (-1:Int32) else v.1)) (T := fun lv139 => QTri l Z n0 ad 3 (117, [vR 1, vI x1, vL x2, none, vI x4, vI x5, vI v.1, vI (if v.1 < (0:Int32) then (-1:Int32) else v.1), vI lv139.1, vI lv139.2.1, vI lv139.2.2.1, vI lv139.2.2.2.1, none, none, none, none, none], [], (H0 s lv139.2.2.2.2)) u τ) (KE := fun e138a => QTri l Z n0 ad 3 (185, [vR 1, vI x1, vL x2, none, vI x4, vI x5, vI v.1, vI (if v.1 < (0:Int32) then (-1:Int32) else v.1), vI e138a.1, vI e138a.2.1, vI e138a.2.2.1, none, none, none, none, none, none], [], (H0 s e138a.2.2.2)) u τ) (fun lv139 r hB hE hC => tB3_117 Ad W s x1 x2 x4 x5 v.1 (if v.1 < (0:Int32) then (-1:Int32) else v.1) lv139 hB (fun x q => hE _ q) (fun x q => hC x q)) qN ((0:Int32), (0:Int32), (0:Int32), (0:Int32), v.2) e138 he138 ?_)
   refine zS Ad W 3 (st' := (189, [vR 1, vI x1, vL x2, none, vI x4, vI x5, vI v.1, vI (if v.1 < (0:Int32) then (-1:Int32) else v.1), vI e138.1, vI e138.2.1, vI e138.2.2.1, none, none, none, none, none, none], [.int (-1:Int32), .int (if v.1 < (0:Int32) then (-1:Int32) else v.1), .ref 1], (H0 s e138.2.2.2))) rfl ?_
   obtain ⟨r140, hr140, h⟩ := bind_eq_some_iff.mp h
   refine QTri.callV W (a := 1) (as := [.int (if v.1 < (0:Int32) then (-1:Int32) else v.1), .int (-1:Int32)]) (rest := []) (w := (some (.int r140.1))) (σ₁ := (H0 s r140.2)) rfl rfl rfl rfl rfl rfl rfl rfl (tF7 Ad W s e138.2.2.2 (if v.1 < (0:Int32) then (-1:Int32) else v.1) (-1:Int32) hr140) ?_
   refine zS Ad W 1 (st' := (194, [vR 1, vI x1, vL x2, none, vI x4, vI x5, vI v.1, vI (if v.1 < (0:Int32) then (-1:Int32) else v.1), vI e138.1, vI e138.2.1, vI e138.2.2.1, none, none, none, none, none, none], [.int e138.1, .int r140.1], (H0 s r140.2))) rfl ?_
   rcases qite h with ⟨hc141, h⟩ | ⟨hc141, h⟩
   ·refine zT Ad W (t := 199) (f := 197) rfl (XT.ii_eq_t hc141) ?_
    refine zS Ad W 3 (st' := (203, [vR 1, vI x1, vL x2, none, vI x4, vI x5, vI v.1, vI (if v.1 < (0:Int32) then (-1:Int32) else v.1), vI e138.1, vI e138.2.1, vI e138.2.2.1, none, none, none, none, none, none], [.int (-1:Int32), .int (if v.1 < (0:Int32) then (-1:Int32) else v.1), .ref 1], (H0 s r140.2))) rfl ?_
    obtain ⟨r142, hr142, h⟩ := bind_eq_some_iff.mp h
    refine QTri.callV W (a := 1) (as := [.int (if v.1 < (0:Int32) then (-1:Int32) else v.1), .int (-1:Int32)]) (rest := []) (w := (some (.int r142.1))) (σ₁ := (H0 s r142.2)) rfl rfl rfl rfl rfl rfl rfl rfl (tF11 Ad W s r140.2 (if v.1 < (0:Int32) then (-1:Int32) else v.1) (-1:Int32) hr142) ?_
    refine zS Ad W 1 (st' := (208, [vR 1, vI x1, vL x2, none, vI x4, vI x5, vI v.1, vI (if v.1 < (0:Int32) then (-1:Int32) else v.1), vI e138.1, vI e138.2.1, vI e138.2.2.1, none, none, none, none, none, none], [.int e138.2.2.1, .int r142.1], (H0 s r142.2))) rfl ?_
    have K144 : ∀ z143 : Int32, z143 = (if e138.2.2.1 = (0:Int32) then (0:Int32) else e138.2.1) → QTri l Z n0 ad 3 (217, [vR 1, vI x1, vL x2, none, vI x4, vI x5, vI v.1, none, none, none, none, none, none, none, none, none, none], [.int z143, .int r142.1], (H0 s r142.2)) u τ := by
     intro z143 ez143
     subst ez143
     rcases qite h with ⟨hc146, h⟩ | ⟨hc146, h⟩
     ·refine zT Ad W (t := 222) (f := 220) rfl (XT.ii_eq_t hc146) ?_
      refine zS Ad W 2 (st' := (85, [vR 1, vI x1, vL x2, none, vI x4, vI x5, vI (v.1 + (1:Int32)), none, none, none, none, none, none, none, none, none, none], [], (H0 s r142.2))) rfl ?_
      obtain rfl := Option.some.inj h
      exact zM [tt,tt,tt,ff,tt,tt,tt,ff,ff,ff,ff,ff,ff,ff,ff,ff,ff] (hc ((v.1 + (1:Int32)), r142.2) rfl)
     ·refine zF Ad W (t := 222) (f := 220) rfl (XT.ii_eq_f hc146) ?_
      refine zS Ad W 1 (st' := (221, [vR 1, vI x1, vL x2, none, vI x4, vI x5, vI v.1, none, none, none, none, none, none, none, none, none, none], [.int (0:Int32)], (H0 s r142.2))) rfl ?_
      obtain rfl := Option.some.inj h
      obtain ⟨rfl, rfl⟩ := hx1 ((0:Int32), r142.2) rfl
      exact QTri.retZ rfl rfl
    rcases em (e138.2.2.1 = (0:Int32)) with hc145 | hc145
    ·refine zT Ad W (t := 216) (f := 211) rfl (XT.i0_eq_t hc145) ?_
     refine zS Ad W 1 (st' := (217, [vR 1, vI x1, vL x2, none, vI x4, vI x5, vI v.1, vI (if v.1 < (0:Int32) then (-1:Int32) else v.1), vI e138.1, vI e138.2.1, vI e138.2.2.1, none, none, none, none, none, none], [.int (0:Int32), .int r142.1], (H0 s r142.2))) rfl ?_
     exact zM [tt,tt,tt,ff,tt,tt,tt,ff,ff,ff,ff,ff,ff,ff,ff,ff,ff] (K144 _ (if_pos hc145).symm)
    ·refine zF Ad W (t := 216) (f := 211) rfl (XT.i0_eq_f hc145) ?_
     refine zS Ad W 2 (st' := (217, [vR 1, vI x1, vL x2, none, vI x4, vI x5, vI v.1, vI (if v.1 < (0:Int32) then (-1:Int32) else v.1), vI e138.1, vI e138.2.1, vI e138.2.2.1, none, none, none, none, none, none], [.int e138.2.1, .int r142.1], (H0 s r142.2))) rfl ?_
     exact zM [tt,tt,tt,ff,tt,tt,tt,ff,ff,ff,ff,ff,ff,ff,ff,ff,ff] (K144 _ (if_neg hc145).symm)
   ·refine zF Ad W (t := 199) (f := 197) rfl (XT.ii_eq_f hc141) ?_
    refine zS Ad W 1 (st' := (198, [vR 1, vI x1, vL x2, none, vI x4, vI x5, vI v.1, vI (if v.1 < (0:Int32) then (-1:Int32) else v.1), vI e138.1, vI e138.2.1, vI e138.2.2.1, none, none, none, none, none, none], [.int (0:Int32)], (H0 s r140.2))) rfl ?_
    obtain rfl := Option.some.inj h
    obtain ⟨rfl, rfl⟩ := hx1 ((0:Int32), r140.2) rfl
    exact QTri.retZ rfl rfl
  rcases em (v.1 < (0:Int32)) with hc70 | hc70
  ·refine zF Ad W (t := 101) (f := 97) rfl (XT.i0_ge_f hc70) ?_
   refine zS Ad W 2 (st' := (103, [vR 1, vI x1, vL x2, none, vI x4, vI x5, vI v.1, none, none, none, none, none, none, none, none, none, none], [.int (-1:Int32)], (H0 s v.2))) rfl ?_
   exact zM [tt,tt,tt,ff,tt,tt,tt,ff,ff,ff,ff,ff,ff,ff,ff,ff,ff] (K69 _ (if_pos hc70).symm)
  ·refine zT Ad W (t := 101) (f := 97) rfl (XT.i0_ge_t hc70) ?_
   refine zS Ad W 1 (st' := (103, [vR 1, vI x1, vL x2, none, vI x4, vI x5, vI v.1, none, none, none, none, none, none, none, none, none, none], [.int v.1], (H0 s v.2))) rfl ?_
   exact zM [tt,tt,tt,ff,tt,tt,tt,ff,ff,ff,ff,ff,ff,ff,ff,ff,ff] (K69 _ (if_neg hc70).symm)
 ·refine zT Ad W (t := 228) (f := 92) rfl (XT.ii_ge_t hc67) ?_
  obtain rfl := Option.some.inj h
  exact zM [tt,tt,tt,ff,tt,tt,ff,ff,ff,ff,ff,ff,ff,ff,ff,ff,ff] (hx0 v.2 rfl)
def J3_325 (o : Ob) (x1 : Int32) (x2 : Int64) (x4 : Int32) (x5 : Int32) (x6 : Int32) (x7 : Int32) (x8 : Int32) (x9 : Int32) (x10 : Int32) (x11 : Int32) : Option (((Int32 × Int32 × Int32 × Ob)) ⊕ (Int32 × Int32 × Int32 × Int32 × Ob)) :=
  some (.inr (x8, x9, x10, (x11 + (1 : Int32)), o))
theorem tJ3_325 (Ad : QAd n0 ad) (W : QW Z a0) (s : List Int32) (o : Ob) (x1 : Int32) (x2 : Int64) (x4 : Int32) (x5 : Int32) (x6 : Int32) (x7 : Int32) (x8 : Int32) (x9 : Int32) (x10 : Int32) (x11 : Int32) {r : ((Int32 × Int32 × Int32 × Ob)) ⊕ (Int32 × Int32 × Int32 × Int32 × Ob)} {u : Option Value} {τ : QHeap} (h : J3_325 o x1 x2 x4 x5 x6 x7 x8 x9 x10 x11 = some r) (hx0 : ∀ x : Int32 × Int32 × Int32 × Ob, r = .inl x → QTri l Z n0 ad 3 (331, [vR 1, vI x1, vL x2, none, vI x4, vI x5, vI x6, vI x7, vI x.1, vI x.2.1, vI x.2.2.1, none, none, none, none, none, none], [], (H0 s x.2.2.2)) u τ) (hc : ∀ x : Int32 × Int32 × Int32 × Int32 × Ob, r = .inr x → QTri l Z n0 ad 3 (263, [vR 1, vI x1, vL x2, none, vI x4, vI x5, vI x6, vI x7, vI x.1, vI x.2.1, vI x.2.2.1, vI x.2.2.2.1, none, none, none, none, none], [], (H0 s x.2.2.2.2)) u τ) : QTri l Z n0 ad 3 (325, [vR 1, vI x1, vL x2, none, vI x4, vI x5, vI x6, vI x7, vI x8, vI x9, vI x10, vI x11, none, none, none, none, none], [], (H0 s o)) u τ := by
 unfold J3_325 at h
 refine zS Ad W 2 (st' := (263, [vR 1, vI x1, vL x2, none, vI x4, vI x5, vI x6, vI x7, vI x8, vI x9, vI x10, vI (x11 + (1:Int32)), none, none, none, none, none], [], (H0 s o))) rfl ?_
 obtain rfl := Option.some.inj h
 exact zM [tt,tt,tt,ff,tt,tt,tt,tt,tt,tt,tt,tt,ff,ff,ff,ff,ff] (hc (x8, x9, x10, (x11 + (1:Int32)), o) rfl)
def J3_320 (o : Ob) (x1 : Int32) (x2 : Int64) (x4 : Int32) (x5 : Int32) (x6 : Int32) (x7 : Int32) (x8 : Int32) (x11 : Int32) (w0 : Int32) : Option (((Int32 × Int32 × Int32 × Ob)) ⊕ (Int32 × Int32 × Int32 × Int32 × Ob)) :=
  (J3_325 o x1 x2 x4 x5 x6 x7 x8 w0 (1 : Int32) x11)
theorem tJ3_320 (Ad : QAd n0 ad) (W : QW Z a0) (s : List Int32) (o : Ob) (x1 : Int32) (x2 : Int64) (x4 : Int32) (x5 : Int32) (x6 : Int32) (x7 : Int32) (x8 : Int32) (x11 : Int32) (w0 : Int32) {r : ((Int32 × Int32 × Int32 × Ob)) ⊕ (Int32 × Int32 × Int32 × Int32 × Ob)} {u : Option Value} {τ : QHeap} (h : J3_320 o x1 x2 x4 x5 x6 x7 x8 x11 w0 = some r) (hx0 : ∀ x : Int32 × Int32 × Int32 × Ob, r = .inl x → QTri l Z n0 ad 3 (331, [vR 1, vI x1, vL x2, none, vI x4, vI x5, vI x6, vI x7, vI x.1, vI x.2.1, vI x.2.2.1, none, none, none, none, none, none], [], (H0 s x.2.2.2)) u τ) (hc : ∀ x : Int32 × Int32 × Int32 × Int32 × Ob, r = .inr x → QTri l Z n0 ad 3 (263, [vR 1, vI x1, vL x2, none, vI x4, vI x5, vI x6, vI x7, vI x.1, vI x.2.1, vI x.2.2.1, vI x.2.2.2.1, none, none, none, none, none], [], (H0 s x.2.2.2.2)) u τ) : QTri l Z n0 ad 3 (320, [vR 1, vI x1, vL x2, none, vI x4, vI x5, vI x6, vI x7, vI x8, none, none, vI x11, none, none, none, none, none], [.int w0], (H0 s o)) u τ := by
 unfold J3_320 at h
 refine zS Ad W 3 (st' := (325, [vR 1, vI x1, vL x2, none, vI x4, vI x5, vI x6, vI x7, vI x8, vI w0, vI (1:Int32), vI x11, none, none, none, none, none], [], (H0 s o))) rfl ?_
 exact zM [tt,tt,tt,ff,tt,tt,tt,tt,tt,tt,tt,tt,ff,ff,ff,ff,ff] (tJ3_325 Ad W s o x1 x2 x4 x5 x6 x7 x8 w0 (1:Int32) x11 h hx0 hc)
def B3_263 (x1 : Int32) (x2 : Int64) (x4 : Int32) (x5 : Int32) (x6 : Int32) (x7 : Int32) (v : Int32 × Int32 × Int32 × Int32 × Ob) : Option (((Int32 × Int32 × Int32 × Ob)) ⊕ (Int32 × Int32 × Int32 × Int32 × Ob)) :=
  (if v.2.2.2.1 < x4 then (F7 v.2.2.2.2 v.2.2.2.1 x7).bind fun r154 => (if (0 : Int32) < r154.1 then (F11 r154.2 v.2.2.2.1 x7).bind fun r156 => (if v.2.2.1 = (0 : Int32) then (J3_320 r156.2 x1 x2 x4 x5 x6 x7 (v.1 + r154.1) v.2.2.2.1 r156.1) else (F21 x1 v.2.1 r156.1).bind fun r158 => (J3_320 r156.2 x1 x2 x4 x5 x6 x7 (v.1 + r154.1) v.2.2.2.1 r158)) else (J3_325 r154.2 x1 x2 x4 x5 x6 x7 (v.1 + r154.1) v.2.1 v.2.2.1 v.2.2.2.1)) else some (.inl (v.1, v.2.1, v.2.2.1, v.2.2.2.2)))
theorem tB3_263 (Ad : QAd n0 ad) (W : QW Z a0) (s : List Int32) (x1 : Int32) (x2 : Int64) (x4 : Int32) (x5 : Int32) (x6 : Int32) (x7 : Int32) (v : Int32 × Int32 × Int32 × Int32 × Ob) {r : ((Int32 × Int32 × Int32 × Ob)) ⊕ (Int32 × Int32 × Int32 × Int32 × Ob)} {u : Option Value} {τ : QHeap} (h : B3_263 x1 x2 x4 x5 x6 x7 v = some r) (hx0 : ∀ x : Int32 × Int32 × Int32 × Ob, r = .inl x → QTri l Z n0 ad 3 (331, [vR 1, vI x1, vL x2, none, vI x4, vI x5, vI x6, vI x7, vI x.1, vI x.2.1, vI x.2.2.1, none, none, none, none, none, none], [], (H0 s x.2.2.2)) u τ) (hc : ∀ x : Int32 × Int32 × Int32 × Int32 × Ob, r = .inr x → QTri l Z n0 ad 3 (263, [vR 1, vI x1, vL x2, none, vI x4, vI x5, vI x6, vI x7, vI x.1, vI x.2.1, vI x.2.2.1, vI x.2.2.2.1, none, none, none, none, none], [], (H0 s x.2.2.2.2)) u τ) : QTri l Z n0 ad 3 (263, [vR 1, vI x1, vL x2, none, vI x4, vI x5, vI x6, vI x7, vI v.1, vI v.2.1, vI v.2.2.1, vI v.2.2.2.1, none, none, none, none, none], [], (H0 s v.2.2.2.2)) u τ := by
 unfold B3_263 at h
 refine zS Ad W 2 (st' := (267, [vR 1, vI x1, vL x2, none, vI x4, vI x5, vI x6, vI x7, vI v.1, vI v.2.1, vI v.2.2.1, vI v.2.2.2.1, none, none, none, none, none], [.int x4, .int v.2.2.2.1], (H0 s v.2.2.2.2))) rfl ?_
 rcases qite h with ⟨hc153, h⟩ | ⟨hc153, h⟩
 ·refine zF Ad W (t := 331) (f := 270) rfl (XT.ii_ge_f hc153) ?_
  refine zS Ad W 3 (st' := (275, [vR 1, vI x1, vL x2, none, vI x4, vI x5, vI x6, vI x7, vI v.1, vI v.2.1, vI v.2.2.1, vI v.2.2.2.1, none, none, none, none, none], [.int x7, .int v.2.2.2.1, .ref 1], (H0 s v.2.2.2.2))) rfl ?_
  obtain ⟨r154, hr154, h⟩ := bind_eq_some_iff.mp h
  refine QTri.callV W (a := 1) (as := [.int v.2.2.2.1, .int x7]) (rest := []) (w := (some (.int r154.1))) (σ₁ := (H0 s r154.2)) rfl rfl rfl rfl rfl rfl rfl rfl (tF7 Ad W s v.2.2.2.2 v.2.2.2.1 x7 hr154) ?_
  refine zS Ad W 5 (st' := (287, [vR 1, vI x1, vL x2, none, vI x4, vI x5, vI x6, vI x7, vI (v.1 + r154.1), vI v.2.1, vI v.2.2.1, vI v.2.2.2.1, vI r154.1, none, none, none, none], [], (H0 s r154.2))) rfl ?_
  refine zS Ad W 1 (st' := (289, [vR 1, vI x1, vL x2, none, vI x4, vI x5, vI x6, vI x7, vI (v.1 + r154.1), vI v.2.1, vI v.2.2.1, vI v.2.2.2.1, vI r154.1, none, none, none, none], [.int r154.1], (H0 s r154.2))) rfl ?_
  rcases qite h with ⟨hc155, h⟩ | ⟨hc155, h⟩
  ·refine zF Ad W (t := 325) (f := 292) rfl (XT.i0_le_f hc155) ?_
   refine zS Ad W 3 (st' := (297, [vR 1, vI x1, vL x2, none, vI x4, vI x5, vI x6, vI x7, vI (v.1 + r154.1), vI v.2.1, vI v.2.2.1, vI v.2.2.2.1, vI r154.1, none, none, none, none], [.int x7, .int v.2.2.2.1, .ref 1], (H0 s r154.2))) rfl ?_
   obtain ⟨r156, hr156, h⟩ := bind_eq_some_iff.mp h
   refine QTri.callV W (a := 1) (as := [.int v.2.2.2.1, .int x7]) (rest := []) (w := (some (.int r156.1))) (σ₁ := (H0 s r156.2)) rfl rfl rfl rfl rfl rfl rfl rfl (tF11 Ad W s r154.2 v.2.2.2.1 x7 hr156) ?_
   refine zS Ad W 2 (st' := (304, [vR 1, vI x1, vL x2, none, vI x4, vI x5, vI x6, vI x7, vI (v.1 + r154.1), vI v.2.1, vI v.2.2.1, vI v.2.2.2.1, vI r154.1, vI r156.1, none, none, none], [.int v.2.2.1], (H0 s r156.2))) rfl ?_
   rcases qite h with ⟨hc157, h⟩ | ⟨hc157, h⟩
   ·refine zT Ad W (t := 318) (f := 307) rfl (XT.i0_eq_t hc157) ?_
    refine zS Ad W 1 (st' := (320, [vR 1, vI x1, vL x2, none, vI x4, vI x5, vI x6, vI x7, vI (v.1 + r154.1), vI v.2.1, vI v.2.2.1, vI v.2.2.2.1, vI r154.1, vI r156.1, none, none, none], [.int r156.1], (H0 s r156.2))) rfl ?_
    exact zM [tt,tt,tt,ff,tt,tt,tt,tt,tt,ff,ff,tt,ff,ff,ff,ff,ff] (tJ3_320 Ad W s r156.2 x1 x2 x4 x5 x6 x7 (v.1 + r154.1) v.2.2.2.1 r156.1 h hx0 hc)
   ·refine zF Ad W (t := 318) (f := 307) rfl (XT.i0_eq_f hc157) ?_
    refine zS Ad W 3 (st' := (312, [vR 1, vI x1, vL x2, none, vI x4, vI x5, vI x6, vI x7, vI (v.1 + r154.1), vI v.2.1, vI v.2.2.1, vI v.2.2.2.1, vI r154.1, vI r156.1, none, none, none], [.int r156.1, .int v.2.1, .int x1], (H0 s r156.2))) rfl ?_
    obtain ⟨r158, hr158, h⟩ := bind_eq_some_iff.mp h
    refine QTri.callS W (as := [.int x1, .int v.2.1, .int r156.1]) (rest := []) (w := (some (.int r158))) (σ₁ := (H0 s r156.2)) rfl rfl rfl rfl rfl rfl rfl (tF21 Ad W x1 v.2.1 r156.1 hr158) ?_
    refine zS Ad W 1 (st' := (320, [vR 1, vI x1, vL x2, none, vI x4, vI x5, vI x6, vI x7, vI (v.1 + r154.1), vI v.2.1, vI v.2.2.1, vI v.2.2.2.1, vI r154.1, vI r156.1, none, none, none], [.int r158], (H0 s r156.2))) rfl ?_
    exact zM [tt,tt,tt,ff,tt,tt,tt,tt,tt,ff,ff,tt,ff,ff,ff,ff,ff] (tJ3_320 Ad W s r156.2 x1 x2 x4 x5 x6 x7 (v.1 + r154.1) v.2.2.2.1 r158 h hx0 hc)
  ·refine zT Ad W (t := 325) (f := 292) rfl (XT.i0_le_t hc155) ?_
   exact zM [tt,tt,tt,ff,tt,tt,tt,tt,tt,tt,tt,tt,ff,ff,ff,ff,ff] (tJ3_325 Ad W s r154.2 x1 x2 x4 x5 x6 x7 (v.1 + r154.1) v.2.1 v.2.2.1 v.2.2.2.1 h hx0 hc)
 ·refine zT Ad W (t := 331) (f := 270) rfl (XT.ii_ge_t hc153) ?_
  obtain rfl := Option.some.inj h
  exact zM [tt,tt,tt,ff,tt,tt,tt,tt,tt,tt,tt,ff,ff,ff,ff,ff,ff] (hx0 (v.1, v.2.1, v.2.2.1, v.2.2.2.2) rfl)
def B3_231 (x1 : Int32) (x2 : Int64) (x4 : Int32) (x5 : Int32) (v : Int32 × Ob) : Option (((Ob) ⊕ (Int32 × Ob)) ⊕ (Int32 × Ob)) :=
  (if v.1 < x5 then (loopN (B3_263 x1 x2 x4 x5 v.1 (if v.1 < (0 : Int32) then (-1 : Int32) else v.1)) qN ((0 : Int32), (0 : Int32), (0 : Int32), (0 : Int32), v.2)).bind fun e159 => (F7 e159.2.2.2 (-1 : Int32) (if v.1 < (0 : Int32) then (-1 : Int32) else v.1)).bind fun r161 => (if r161.1 = e159.1 then (F11 r161.2 (-1 : Int32) (if v.1 < (0 : Int32) then (-1 : Int32) else v.1)).bind fun r163 => (if r163.1 = (if e159.2.2.1 = (0 : Int32) then (0 : Int32) else e159.2.1) then some (.inr ((v.1 + (1 : Int32)), r163.2)) else some (.inl (Sum.inr ((0 : Int32), r163.2)))) else some (.inl (Sum.inr ((0 : Int32), r161.2)))) else some (.inl (Sum.inl v.2)))
theorem tB3_231 (Ad : QAd n0 ad) (W : QW Z a0) (s : List Int32) (x1 : Int32) (x2 : Int64) (x4 : Int32) (x5 : Int32) (v : Int32 × Ob) {r : ((Ob) ⊕ (Int32 × Ob)) ⊕ (Int32 × Ob)} {u : Option Value} {τ : QHeap} (h : B3_231 x1 x2 x4 x5 v = some r) (hx0 : ∀ x : Ob, r = .inl (Sum.inl x) → QTri l Z n0 ad 3 (374, [vR 1, none, vL x2, none, vI x4, vI x5, none, none, none, none, none, none, none, none, none, none, none], [], (H0 s x)) u τ) (hx1 : ∀ x : Int32 × Ob, r = .inl (Sum.inr x) → u = (some (Value.int x.1)) ∧ τ = (H0 s x.2)) (hc : ∀ x : Int32 × Ob, r = .inr x → QTri l Z n0 ad 3 (231, [vR 1, vI x1, vL x2, none, vI x4, vI x5, vI x.1, none, none, none, none, none, none, none, none, none, none], [], (H0 s x.2)) u τ) : QTri l Z n0 ad 3 (231, [vR 1, vI x1, vL x2, none, vI x4, vI x5, vI v.1, none, none, none, none, none, none, none, none, none, none], [], (H0 s v.2)) u τ := by
 unfold B3_231 at h
 refine zS Ad W 2 (st' := (235, [vR 1, vI x1, vL x2, none, vI x4, vI x5, vI v.1, none, none, none, none, none, none, none, none, none, none], [.int x5, .int v.1], (H0 s v.2))) rfl ?_
 rcases qite h with ⟨hc149, h⟩ | ⟨hc149, h⟩
 ·refine zF Ad W (t := 374) (f := 238) rfl (XT.ii_ge_f hc149) ?_
  refine zS Ad W 1 (st' := (240, [vR 1, vI x1, vL x2, none, vI x4, vI x5, vI v.1, none, none, none, none, none, none, none, none, none, none], [.int v.1], (H0 s v.2))) rfl ?_
  have K151 : ∀ z150 : Int32, z150 = (if v.1 < (0:Int32) then (-1:Int32) else v.1) → QTri l Z n0 ad 3 (249, [vR 1, vI x1, vL x2, none, vI x4, vI x5, vI v.1, none, none, none, none, none, none, none, none, none, none], [.int z150], (H0 s v.2)) u τ := by
   intro z150 ez150
   subst ez150
   refine zS Ad W 3 (st' := (254, [vR 1, vI x1, vL x2, none, vI x4, vI x5, vI v.1, vI (if v.1 < (0:Int32) then (-1:Int32) else v.1), vI (0:Int32), none, none, none, none, none, none, none, none], [], (H0 s v.2))) rfl ?_
   refine zS Ad W 4 (st' := (260, [vR 1, vI x1, vL x2, none, vI x4, vI x5, vI v.1, vI (if v.1 < (0:Int32) then (-1:Int32) else v.1), vI (0:Int32), vI (0:Int32), vI (0:Int32), none, none, none, none, none, none], [], (H0 s v.2))) rfl ?_
   refine zS Ad W 2 (st' := (263, [vR 1, vI x1, vL x2, none, vI x4, vI x5, vI v.1, vI (if v.1 < (0:Int32) then (-1:Int32) else v.1), vI (0:Int32), vI (0:Int32), vI (0:Int32), vI (0:Int32), none, none, none, none, none], [], (H0 s v.2))) rfl ?_
   obtain ⟨e159, he159, h⟩ := bind_eq_some_iff.mp h
   refine zM [tt,tt,tt,ff,tt,tt,tt,tt,tt,tt,tt,tt,ff,ff,ff,ff,ff] (loopN_tri (B := B3_263 x1 x2 x4 x5 v.1 (if v.1 < (0:Int32) then (-1:Int32) else v.1)) (T := fun lv160 => QTri l Z n0 ad 3 (263, [vR 1, vI x1, vL x2, none, vI x4, vI x5, vI v.1, vI (if v.1 < (0:Int32) then (-1:Int32) else v.1), vI lv160.1, vI lv160.2.1, vI lv160.2.2.1, vI lv160.2.2.2.1, none, none, none, none, none], [], (H0 s lv160.2.2.2.2)) u τ) (KE := fun e159a => QTri l Z n0 ad 3 (331, [vR 1, vI x1, vL x2, none, vI x4, vI x5, vI v.1, vI (if v.1 < (0:Int32) then (-1:Int32) else v.1), vI e159a.1, vI e159a.2.1, vI e159a.2.2.1, none, none, none, none, none, none], [], (H0 s e159a.2.2.2)) u τ) (fun lv160 r hB hE hC => tB3_263 Ad W s x1 x2 x4 x5 v.1 (if v.1 < (0:Int32) then (-1:Int32) else v.1) lv160 hB (fun x q => hE _ q) (fun x q => hC x q)) qN ((0:Int32), (0:Int32), (0:Int32), (0:Int32), v.2) e159 he159 ?_)
   refine zS Ad W 3 (st' := (335, [vR 1, vI x1, vL x2, none, vI x4, vI x5, vI v.1, vI (if v.1 < (0:Int32) then (-1:Int32) else v.1), vI e159.1, vI e159.2.1, vI e159.2.2.1, none, none, none, none, none, none], [.int (if v.1 < (0:Int32) then (-1:Int32) else v.1), .int (-1:Int32), .ref 1], (H0 s e159.2.2.2))) rfl ?_
   obtain ⟨r161, hr161, h⟩ := bind_eq_some_iff.mp h
   refine QTri.callV W (a := 1) (as := [.int (-1:Int32), .int (if v.1 < (0:Int32) then (-1:Int32) else v.1)]) (rest := []) (w := (some (.int r161.1))) (σ₁ := (H0 s r161.2)) rfl rfl rfl rfl rfl rfl rfl rfl (tF7 Ad W s e159.2.2.2 (-1:Int32) (if v.1 < (0:Int32) then (-1:Int32) else v.1) hr161) ?_
   refine zS Ad W 1 (st' := (340, [vR 1, vI x1, vL x2, none, vI x4, vI x5, vI v.1, vI (if v.1 < (0:Int32) then (-1:Int32) else v.1), vI e159.1, vI e159.2.1, vI e159.2.2.1, none, none, none, none, none, none], [.int e159.1, .int r161.1], (H0 s r161.2))) rfl ?_
   rcases qite h with ⟨hc162, h⟩ | ⟨hc162, h⟩
   ·refine zT Ad W (t := 345) (f := 343) rfl (XT.ii_eq_t hc162) ?_
    refine zS Ad W 3 (st' := (349, [vR 1, vI x1, vL x2, none, vI x4, vI x5, vI v.1, vI (if v.1 < (0:Int32) then (-1:Int32) else v.1), vI e159.1, vI e159.2.1, vI e159.2.2.1, none, none, none, none, none, none], [.int (if v.1 < (0:Int32) then (-1:Int32) else v.1), .int (-1:Int32), .ref 1], (H0 s r161.2))) rfl ?_
    obtain ⟨r163, hr163, h⟩ := bind_eq_some_iff.mp h
    refine QTri.callV W (a := 1) (as := [.int (-1:Int32), .int (if v.1 < (0:Int32) then (-1:Int32) else v.1)]) (rest := []) (w := (some (.int r163.1))) (σ₁ := (H0 s r163.2)) rfl rfl rfl rfl rfl rfl rfl rfl (tF11 Ad W s r161.2 (-1:Int32) (if v.1 < (0:Int32) then (-1:Int32) else v.1) hr163) ?_
    refine zS Ad W 1 (st' := (354, [vR 1, vI x1, vL x2, none, vI x4, vI x5, vI v.1, vI (if v.1 < (0:Int32) then (-1:Int32) else v.1), vI e159.1, vI e159.2.1, vI e159.2.2.1, none, none, none, none, none, none], [.int e159.2.2.1, .int r163.1], (H0 s r163.2))) rfl ?_
    have K165 : ∀ z164 : Int32, z164 = (if e159.2.2.1 = (0:Int32) then (0:Int32) else e159.2.1) → QTri l Z n0 ad 3 (363, [vR 1, vI x1, vL x2, none, vI x4, vI x5, vI v.1, none, none, none, none, none, none, none, none, none, none], [.int z164, .int r163.1], (H0 s r163.2)) u τ := by
     intro z164 ez164
     subst ez164
     rcases qite h with ⟨hc167, h⟩ | ⟨hc167, h⟩
     ·refine zT Ad W (t := 368) (f := 366) rfl (XT.ii_eq_t hc167) ?_
      refine zS Ad W 2 (st' := (231, [vR 1, vI x1, vL x2, none, vI x4, vI x5, vI (v.1 + (1:Int32)), none, none, none, none, none, none, none, none, none, none], [], (H0 s r163.2))) rfl ?_
      obtain rfl := Option.some.inj h
      exact zM [tt,tt,tt,ff,tt,tt,tt,ff,ff,ff,ff,ff,ff,ff,ff,ff,ff] (hc ((v.1 + (1:Int32)), r163.2) rfl)
     ·refine zF Ad W (t := 368) (f := 366) rfl (XT.ii_eq_f hc167) ?_
      refine zS Ad W 1 (st' := (367, [vR 1, vI x1, vL x2, none, vI x4, vI x5, vI v.1, none, none, none, none, none, none, none, none, none, none], [.int (0:Int32)], (H0 s r163.2))) rfl ?_
      obtain rfl := Option.some.inj h
      obtain ⟨rfl, rfl⟩ := hx1 ((0:Int32), r163.2) rfl
      exact QTri.retZ rfl rfl
    rcases em (e159.2.2.1 = (0:Int32)) with hc166 | hc166
    ·refine zT Ad W (t := 362) (f := 357) rfl (XT.i0_eq_t hc166) ?_
     refine zS Ad W 1 (st' := (363, [vR 1, vI x1, vL x2, none, vI x4, vI x5, vI v.1, vI (if v.1 < (0:Int32) then (-1:Int32) else v.1), vI e159.1, vI e159.2.1, vI e159.2.2.1, none, none, none, none, none, none], [.int (0:Int32), .int r163.1], (H0 s r163.2))) rfl ?_
     exact zM [tt,tt,tt,ff,tt,tt,tt,ff,ff,ff,ff,ff,ff,ff,ff,ff,ff] (K165 _ (if_pos hc166).symm)
    ·refine zF Ad W (t := 362) (f := 357) rfl (XT.i0_eq_f hc166) ?_
     refine zS Ad W 2 (st' := (363, [vR 1, vI x1, vL x2, none, vI x4, vI x5, vI v.1, vI (if v.1 < (0:Int32) then (-1:Int32) else v.1), vI e159.1, vI e159.2.1, vI e159.2.2.1, none, none, none, none, none, none], [.int e159.2.1, .int r163.1], (H0 s r163.2))) rfl ?_
     exact zM [tt,tt,tt,ff,tt,tt,tt,ff,ff,ff,ff,ff,ff,ff,ff,ff,ff] (K165 _ (if_neg hc166).symm)
   ·refine zF Ad W (t := 345) (f := 343) rfl (XT.ii_eq_f hc162) ?_
    refine zS Ad W 1 (st' := (344, [vR 1, vI x1, vL x2, none, vI x4, vI x5, vI v.1, vI (if v.1 < (0:Int32) then (-1:Int32) else v.1), vI e159.1, vI e159.2.1, vI e159.2.2.1, none, none, none, none, none, none], [.int (0:Int32)], (H0 s r161.2))) rfl ?_
    obtain rfl := Option.some.inj h
    obtain ⟨rfl, rfl⟩ := hx1 ((0:Int32), r161.2) rfl
    exact QTri.retZ rfl rfl
  rcases em (v.1 < (0:Int32)) with hc152 | hc152
  ·refine zF Ad W (t := 247) (f := 243) rfl (XT.i0_ge_f hc152) ?_
   refine zS Ad W 2 (st' := (249, [vR 1, vI x1, vL x2, none, vI x4, vI x5, vI v.1, none, none, none, none, none, none, none, none, none, none], [.int (-1:Int32)], (H0 s v.2))) rfl ?_
   exact zM [tt,tt,tt,ff,tt,tt,tt,ff,ff,ff,ff,ff,ff,ff,ff,ff,ff] (K151 _ (if_pos hc152).symm)
  ·refine zT Ad W (t := 247) (f := 243) rfl (XT.i0_ge_t hc152) ?_
   refine zS Ad W 1 (st' := (249, [vR 1, vI x1, vL x2, none, vI x4, vI x5, vI v.1, none, none, none, none, none, none, none, none, none, none], [.int v.1], (H0 s v.2))) rfl ?_
   exact zM [tt,tt,tt,ff,tt,tt,tt,ff,ff,ff,ff,ff,ff,ff,ff,ff,ff] (K151 _ (if_neg hc152).symm)
 ·refine zT Ad W (t := 374) (f := 238) rfl (XT.ii_ge_t hc149) ?_
  obtain rfl := Option.some.inj h
  exact zM [tt,ff,tt,ff,tt,tt,ff,ff,ff,ff,ff,ff,ff,ff,ff,ff,ff] (hx0 v.2 rfl)
/-- validRow(I)Z -/
def F13 (o : Ob) (x1 : Int32) : Option (Int32) :=
 (if x1 < (0:Int32) then some (0:Int32) else (if x1 < (f_nRows o) then some (1:Int32) else some (0:Int32)))
theorem tF13 (Ad : QAd n0 ad) (W : QW Z a0) (s : List Int32) (o : Ob) (x1 : Int32) {r : Int32} (h : F13 o x1 = some r) : QTri l Z n0 ad 13 (0, qentry [.ref 1, .int x1] (pMaxL 13), [], (H0 s o)) (some (Value.int r)) (H0 s o) := by
 unfold F13 at h
 refine zS Ad W 1 (st' := (1, [vR 1, vI x1], [.int x1], (H0 s o))) rfl ?_
 rcases qite h with ⟨hc171, h⟩ | ⟨hc171, h⟩
 ·refine zT Ad W (t := 16) (f := 4) rfl (XT.i0_lt_t hc171) ?_
  refine zS Ad W 1 (st' := (17, [vR 1, vI x1], [.int (0:Int32)], (H0 s o))) rfl ?_
  obtain rfl := Option.some.inj h
  exact QTri.retZ rfl rfl
 ·refine zF Ad W (t := 16) (f := 4) rfl (XT.i0_lt_f hc171) ?_
  refine zS Ad W 3 (st' := (9, [vR 1, vI x1], [.int (f_nRows o), .int x1], (H0 s o))) rfl ?_
  rcases qite h with ⟨hc172, h⟩ | ⟨hc172, h⟩
  ·refine zF Ad W (t := 16) (f := 12) rfl (XT.ii_ge_f hc172) ?_
   refine zS Ad W 2 (st' := (17, [vR 1, vI x1], [.int (1:Int32)], (H0 s o))) rfl ?_
   obtain rfl := Option.some.inj h
   exact QTri.retZ rfl rfl
  ·refine zT Ad W (t := 16) (f := 12) rfl (XT.ii_ge_t hc172) ?_
   refine zS Ad W 1 (st' := (17, [vR 1, vI x1], [.int (0:Int32)], (H0 s o))) rfl ?_
   obtain rfl := Option.some.inj h
   exact QTri.retZ rfl rfl
/-- isFilled(I)Z -/
def F12 (o : Ob) (x1 : Int32) : Option (Int32) :=
 (F13 o x1).bind fun r173 => (if r173 = (0:Int32) then some (0:Int32) else (aget (f_filled o) x1).bind fun y175 => some (y175 &&& 1))
theorem tF12 (Ad : QAd n0 ad) (W : QW Z a0) (s : List Int32) (o : Ob) (x1 : Int32) {r : Int32} (h : F12 o x1 = some r) : QTri l Z n0 ad 12 (0, qentry [.ref 1, .int x1] (pMaxL 12), [], (H0 s o)) (some (Value.int r)) (H0 s o) := by
 unfold F12 at h
 refine zS Ad W 2 (st' := (2, [vR 1, vI x1], [.int x1, .ref 1], (H0 s o))) rfl ?_
 obtain ⟨r173, hr173, h⟩ := bind_eq_some_iff.mp h
 refine QTri.callP W (a := 1) (as := [.int x1]) (rest := []) (w := (some (.int r173))) (σ₁ := (H0 s o)) rfl rfl rfl rfl rfl rfl rfl rfl (tF13 Ad W s o x1 hr173) ?_
 rcases qite h with ⟨hc174, h⟩ | ⟨hc174, h⟩
 ·refine zF Ad W (t := 10) (f := 8) rfl (XT.i0_ne_f hc174) ?_
  refine zS Ad W 1 (st' := (9, [vR 1, vI x1], [.int (0:Int32)], (H0 s o))) rfl ?_
  obtain rfl := Option.some.inj h
  exact QTri.retZ rfl rfl
 ·refine zT Ad W (t := 10) (f := 8) rfl (XT.i0_ne_t hc174) ?_
  refine zS Ad W 3 (st' := (15, [vR 1, vI x1], [.int x1, .ref 3], (H0 s o))) rfl ?_
  obtain ⟨y175, hy175, h⟩ := bind_eq_some_iff.mp h
  refine zB Ad W (f := fun y175 => (16, [vR 1, vI x1], [.int y175], (H0 s o))) rfl hy175 ?_
  obtain rfl := Option.some.inj h
  exact QTri.retZ rfl rfl
def B3_380 (o : Ob) (x2 : Int64) (x4 : Int32) (x5 : Int32) (v : Int32 × Int32) : Option (((Int32)) ⊕ (Int32 × Int32)) :=
  (if v.2 < (40 : Int32) then (F12 o v.2).bind fun r176 => some (.inr ((if r176 = (0 : Int32) then v.1 else (v.1 + (1 : Int32))), (v.2 + (1 : Int32)))) else some (.inl v.1))
theorem tB3_380 (Ad : QAd n0 ad) (W : QW Z a0) (s : List Int32) (o : Ob) (x2 : Int64) (x4 : Int32) (x5 : Int32) (v : Int32 × Int32) {r : ((Int32)) ⊕ (Int32 × Int32)} {u : Option Value} {τ : QHeap} (h : B3_380 o x2 x4 x5 v = some r) (hx0 : ∀ x : Int32, r = .inl x → QTri l Z n0 ad 3 (405, [vR 1, none, vL x2, none, vI x4, vI x5, vI x, none, none, none, none, none, none, none, none, none, none], [], (H0 s o)) u τ) (hc : ∀ x : Int32 × Int32, r = .inr x → QTri l Z n0 ad 3 (380, [vR 1, none, vL x2, none, vI x4, vI x5, vI x.1, vI x.2, none, none, none, none, none, none, none, none, none], [], (H0 s o)) u τ) : QTri l Z n0 ad 3 (380, [vR 1, none, vL x2, none, vI x4, vI x5, vI v.1, vI v.2, none, none, none, none, none, none, none, none, none], [], (H0 s o)) u τ := by
 unfold B3_380 at h
 refine zS Ad W 2 (st' := (384, [vR 1, none, vL x2, none, vI x4, vI x5, vI v.1, vI v.2, none, none, none, none, none, none, none, none, none], [.int (40:Int32), .int v.2], (H0 s o))) rfl ?_
 rcases qite h with ⟨hc170, h⟩ | ⟨hc170, h⟩
 ·refine zF Ad W (t := 405) (f := 387) rfl (XT.ii_ge_f hc170) ?_
  refine zS Ad W 2 (st' := (390, [vR 1, none, vL x2, none, vI x4, vI x5, vI v.1, vI v.2, none, none, none, none, none, none, none, none, none], [.int v.2, .ref 1], (H0 s o))) rfl ?_
  obtain ⟨r176, hr176, h⟩ := bind_eq_some_iff.mp h
  refine QTri.callV W (a := 1) (as := [.int v.2]) (rest := []) (w := (some (.int r176))) (σ₁ := (H0 s o)) rfl rfl rfl rfl rfl rfl rfl rfl (tF12 Ad W s o v.2 hr176) ?_
  have K178 : ∀ z177 : Int32, z177 = (if r176 = (0:Int32) then v.1 else (v.1 + (1:Int32))) → QTri l Z n0 ad 3 (399, [vR 1, none, vL x2, none, vI x4, vI x5, vI z177, vI v.2, none, none, none, none, none, none, none, none, none], [], (H0 s o)) u τ := by
   intro z177 ez177
   subst ez177
   refine zS Ad W 2 (st' := (380, [vR 1, none, vL x2, none, vI x4, vI x5, vI (if r176 = (0:Int32) then v.1 else (v.1 + (1:Int32))), vI (v.2 + (1:Int32)), none, none, none, none, none, none, none, none, none], [], (H0 s o))) rfl ?_
   obtain rfl := Option.some.inj h
   exact zM [tt,ff,tt,ff,tt,tt,tt,tt,ff,ff,ff,ff,ff,ff,ff,ff,ff] (hc ((if r176 = (0:Int32) then v.1 else (v.1 + (1:Int32))), (v.2 + (1:Int32))) rfl)
  rcases em (r176 = (0:Int32)) with hc179 | hc179
  ·refine zT Ad W (t := 399) (f := 396) rfl (XT.i0_eq_t hc179) ?_
   exact zM [tt,ff,tt,ff,tt,tt,tt,tt,ff,ff,ff,ff,ff,ff,ff,ff,ff] (K178 _ (if_pos hc179).symm)
  ·refine zF Ad W (t := 399) (f := 396) rfl (XT.i0_eq_f hc179) ?_
   refine zS Ad W 1 (st' := (399, [vR 1, none, vL x2, none, vI x4, vI x5, vI (v.1 + (1:Int32)), vI v.2, none, none, none, none, none, none, none, none, none], [], (H0 s o))) rfl ?_
   exact zM [tt,ff,tt,ff,tt,tt,tt,tt,ff,ff,ff,ff,ff,ff,ff,ff,ff] (K178 _ (if_neg hc179).symm)
 ·refine zT Ad W (t := 405) (f := 387) rfl (XT.ii_ge_t hc170) ?_
  obtain rfl := Option.some.inj h
  exact zM [tt,ff,tt,ff,tt,tt,tt,ff,ff,ff,ff,ff,ff,ff,ff,ff,ff] (hx0 v.1 rfl)
def J3_730 (o : Ob) (x2 : Int64) (x4 : Int32) (x5 : Int32) (x7 : Int32) (x8 : Int32) : Option (((Int32 × Ob)) ⊕ (Int32 × Ob)) :=
  some (.inr ((x8 + (1 : Int32)), o))
theorem tJ3_730 (Ad : QAd n0 ad) (W : QW Z a0) (s : List Int32) (o : Ob) (x2 : Int64) (x4 : Int32) (x5 : Int32) (x7 : Int32) (x8 : Int32) {r : ((Int32 × Ob)) ⊕ (Int32 × Ob)} {u : Option Value} {τ : QHeap} (h : J3_730 o x2 x4 x5 x7 x8 = some r) (hx0 : ∀ x : Int32 × Ob, r = .inl x → u = (some (Value.int x.1)) ∧ τ = (H0 s x.2)) (hc : ∀ x : Int32 × Ob, r = .inr x → QTri l Z n0 ad 3 (425, [vR 1, none, vL x2, none, vI x4, vI x5, none, vI x7, vI x.1, none, none, none, none, none, none, none, none], [], (H0 s x.2)) u τ) : QTri l Z n0 ad 3 (730, [vR 1, none, vL x2, none, vI x4, vI x5, none, vI x7, vI x8, none, none, none, none, none, none, none, none], [], (H0 s o)) u τ := by
 unfold J3_730 at h
 refine zS Ad W 2 (st' := (425, [vR 1, none, vL x2, none, vI x4, vI x5, none, vI x7, vI (x8 + (1:Int32)), none, none, none, none, none, none, none, none], [], (H0 s o))) rfl ?_
 obtain rfl := Option.some.inj h
 exact zM [tt,ff,tt,ff,tt,tt,ff,tt,tt,ff,ff,ff,ff,ff,ff,ff,ff] (hc ((x8 + (1:Int32)), o) rfl)
def B3_493 (x2 : Int64) (x4 : Int32) (x5 : Int32) (x7 : Int32) (x8 : Int32) (x10 : Int32) (x11 : Int32) (x12 : Int32) (x14 : Int32) (v : Int32 × Int32 × Ob) : Option (((Int32 × Ob)) ⊕ (Int32 × Int32 × Ob)) :=
  (if v.2.1 < x4 then (F20 v.2.2 v.2.1).bind fun r187 => some (.inr ((if r187.1 = x11 then v.2.1 else v.1), (v.2.1 + (1 : Int32)), r187.2)) else some (.inl (v.1, v.2.2)))
theorem tB3_493 (Ad : QAd n0 ad) (W : QW Z a0) (s : List Int32) (x2 : Int64) (x4 : Int32) (x5 : Int32) (x7 : Int32) (x8 : Int32) (x10 : Int32) (x11 : Int32) (x12 : Int32) (x14 : Int32) (v : Int32 × Int32 × Ob) {r : ((Int32 × Ob)) ⊕ (Int32 × Int32 × Ob)} {u : Option Value} {τ : QHeap} (h : B3_493 x2 x4 x5 x7 x8 x10 x11 x12 x14 v = some r) (hx0 : ∀ x : Int32 × Ob, r = .inl x → QTri l Z n0 ad 3 (521, [vR 1, none, vL x2, none, vI x4, vI x5, none, vI x7, vI x8, none, vI x10, none, vI x12, vI x.1, vI x14, none, none], [], (H0 s x.2)) u τ) (hc : ∀ x : Int32 × Int32 × Ob, r = .inr x → QTri l Z n0 ad 3 (493, [vR 1, none, vL x2, none, vI x4, vI x5, none, vI x7, vI x8, none, vI x10, vI x11, vI x12, vI x.1, vI x14, vI x.2.1, none], [], (H0 s x.2.2)) u τ) : QTri l Z n0 ad 3 (493, [vR 1, none, vL x2, none, vI x4, vI x5, none, vI x7, vI x8, none, vI x10, vI x11, vI x12, vI v.1, vI x14, vI v.2.1, none], [], (H0 s v.2.2)) u τ := by
 unfold B3_493 at h
 refine zS Ad W 2 (st' := (497, [vR 1, none, vL x2, none, vI x4, vI x5, none, vI x7, vI x8, none, vI x10, vI x11, vI x12, vI v.1, vI x14, vI v.2.1, none], [.int x4, .int v.2.1], (H0 s v.2.2))) rfl ?_
 rcases qite h with ⟨hc186, h⟩ | ⟨hc186, h⟩
 ·refine zF Ad W (t := 521) (f := 500) rfl (XT.ii_ge_f hc186) ?_
  refine zS Ad W 2 (st' := (503, [vR 1, none, vL x2, none, vI x4, vI x5, none, vI x7, vI x8, none, vI x10, vI x11, vI x12, vI v.1, vI x14, vI v.2.1, none], [.int v.2.1, .ref 1], (H0 s v.2.2))) rfl ?_
  obtain ⟨r187, hr187, h⟩ := bind_eq_some_iff.mp h
  refine QTri.callV W (a := 1) (as := [.int v.2.1]) (rest := []) (w := (some (.int r187.1))) (σ₁ := (H0 s r187.2)) rfl rfl rfl rfl rfl rfl rfl rfl (tF20 Ad W s v.2.2 v.2.1 hr187) ?_
  refine zS Ad W 1 (st' := (508, [vR 1, none, vL x2, none, vI x4, vI x5, none, vI x7, vI x8, none, vI x10, vI x11, vI x12, vI v.1, vI x14, vI v.2.1, none], [.int x11, .int r187.1], (H0 s r187.2))) rfl ?_
  have K189 : ∀ z188 : Int32, z188 = (if r187.1 = x11 then v.2.1 else v.1) → QTri l Z n0 ad 3 (515, [vR 1, none, vL x2, none, vI x4, vI x5, none, vI x7, vI x8, none, vI x10, vI x11, vI x12, vI z188, vI x14, vI v.2.1, none], [], (H0 s r187.2)) u τ := by
   intro z188 ez188
   subst ez188
   refine zS Ad W 2 (st' := (493, [vR 1, none, vL x2, none, vI x4, vI x5, none, vI x7, vI x8, none, vI x10, vI x11, vI x12, vI (if r187.1 = x11 then v.2.1 else v.1), vI x14, vI (v.2.1 + (1:Int32)), none], [], (H0 s r187.2))) rfl ?_
   obtain rfl := Option.some.inj h
   exact zM [tt,ff,tt,ff,tt,tt,ff,tt,tt,ff,tt,tt,tt,tt,tt,tt,ff] (hc ((if r187.1 = x11 then v.2.1 else v.1), (v.2.1 + (1:Int32)), r187.2) rfl)
  rcases em (r187.1 = x11) with hc190 | hc190
  ·refine zF Ad W (t := 515) (f := 511) rfl (XT.ii_ne_f hc190) ?_
   refine zS Ad W 2 (st' := (515, [vR 1, none, vL x2, none, vI x4, vI x5, none, vI x7, vI x8, none, vI x10, vI x11, vI x12, vI v.2.1, vI x14, vI v.2.1, none], [], (H0 s r187.2))) rfl ?_
   exact zM [tt,ff,tt,ff,tt,tt,ff,tt,tt,ff,tt,tt,tt,tt,tt,tt,ff] (K189 _ (if_pos hc190).symm)
  ·refine zT Ad W (t := 515) (f := 511) rfl (XT.ii_ne_t hc190) ?_
   exact zM [tt,ff,tt,ff,tt,tt,ff,tt,tt,ff,tt,tt,tt,tt,tt,tt,ff] (K189 _ (if_neg hc190).symm)
 ·refine zT Ad W (t := 521) (f := 500) rfl (XT.ii_ge_t hc186) ?_
  obtain rfl := Option.some.inj h
  exact zM [tt,ff,tt,ff,tt,tt,ff,tt,tt,ff,tt,ff,tt,tt,tt,ff,ff] (hx0 (v.1, v.2.2) rfl)
def B3_524 (x2 : Int64) (x4 : Int32) (x5 : Int32) (x7 : Int32) (x8 : Int32) (x10 : Int32) (x12 : Int32) (x13 : Int32) (v : Int32 × Int32 × Ob) : Option (((Int32 × Ob)) ⊕ (Int32 × Int32 × Ob)) :=
  (if v.2.1 < x5 then (F22 v.2.2 v.2.1).bind fun r194 => some (.inr ((if r194.1 = x12 then v.2.1 else v.1), (v.2.1 + (1 : Int32)), r194.2)) else some (.inl (v.1, v.2.2)))
theorem tB3_524 (Ad : QAd n0 ad) (W : QW Z a0) (s : List Int32) (x2 : Int64) (x4 : Int32) (x5 : Int32) (x7 : Int32) (x8 : Int32) (x10 : Int32) (x12 : Int32) (x13 : Int32) (v : Int32 × Int32 × Ob) {r : ((Int32 × Ob)) ⊕ (Int32 × Int32 × Ob)} {u : Option Value} {τ : QHeap} (h : B3_524 x2 x4 x5 x7 x8 x10 x12 x13 v = some r) (hx0 : ∀ x : Int32 × Ob, r = .inl x → QTri l Z n0 ad 3 (552, [vR 1, none, vL x2, none, vI x4, vI x5, none, vI x7, vI x8, none, vI x10, none, none, vI x13, vI x.1, none, none], [], (H0 s x.2)) u τ) (hc : ∀ x : Int32 × Int32 × Ob, r = .inr x → QTri l Z n0 ad 3 (524, [vR 1, none, vL x2, none, vI x4, vI x5, none, vI x7, vI x8, none, vI x10, none, vI x12, vI x13, vI x.1, vI x.2.1, none], [], (H0 s x.2.2)) u τ) : QTri l Z n0 ad 3 (524, [vR 1, none, vL x2, none, vI x4, vI x5, none, vI x7, vI x8, none, vI x10, none, vI x12, vI x13, vI v.1, vI v.2.1, none], [], (H0 s v.2.2)) u τ := by
 unfold B3_524 at h
 refine zS Ad W 2 (st' := (528, [vR 1, none, vL x2, none, vI x4, vI x5, none, vI x7, vI x8, none, vI x10, none, vI x12, vI x13, vI v.1, vI v.2.1, none], [.int x5, .int v.2.1], (H0 s v.2.2))) rfl ?_
 rcases qite h with ⟨hc193, h⟩ | ⟨hc193, h⟩
 ·refine zF Ad W (t := 552) (f := 531) rfl (XT.ii_ge_f hc193) ?_
  refine zS Ad W 2 (st' := (534, [vR 1, none, vL x2, none, vI x4, vI x5, none, vI x7, vI x8, none, vI x10, none, vI x12, vI x13, vI v.1, vI v.2.1, none], [.int v.2.1, .ref 1], (H0 s v.2.2))) rfl ?_
  obtain ⟨r194, hr194, h⟩ := bind_eq_some_iff.mp h
  refine QTri.callV W (a := 1) (as := [.int v.2.1]) (rest := []) (w := (some (.int r194.1))) (σ₁ := (H0 s r194.2)) rfl rfl rfl rfl rfl rfl rfl rfl (tF22 Ad W s v.2.2 v.2.1 hr194) ?_
  refine zS Ad W 1 (st' := (539, [vR 1, none, vL x2, none, vI x4, vI x5, none, vI x7, vI x8, none, vI x10, none, vI x12, vI x13, vI v.1, vI v.2.1, none], [.int x12, .int r194.1], (H0 s r194.2))) rfl ?_
  have K196 : ∀ z195 : Int32, z195 = (if r194.1 = x12 then v.2.1 else v.1) → QTri l Z n0 ad 3 (546, [vR 1, none, vL x2, none, vI x4, vI x5, none, vI x7, vI x8, none, vI x10, none, vI x12, vI x13, vI z195, vI v.2.1, none], [], (H0 s r194.2)) u τ := by
   intro z195 ez195
   subst ez195
   refine zS Ad W 2 (st' := (524, [vR 1, none, vL x2, none, vI x4, vI x5, none, vI x7, vI x8, none, vI x10, none, vI x12, vI x13, vI (if r194.1 = x12 then v.2.1 else v.1), vI (v.2.1 + (1:Int32)), none], [], (H0 s r194.2))) rfl ?_
   obtain rfl := Option.some.inj h
   exact zM [tt,ff,tt,ff,tt,tt,ff,tt,tt,ff,tt,ff,tt,tt,tt,tt,ff] (hc ((if r194.1 = x12 then v.2.1 else v.1), (v.2.1 + (1:Int32)), r194.2) rfl)
  rcases em (r194.1 = x12) with hc197 | hc197
  ·refine zF Ad W (t := 546) (f := 542) rfl (XT.ii_ne_f hc197) ?_
   refine zS Ad W 2 (st' := (546, [vR 1, none, vL x2, none, vI x4, vI x5, none, vI x7, vI x8, none, vI x10, none, vI x12, vI x13, vI v.2.1, vI v.2.1, none], [], (H0 s r194.2))) rfl ?_
   exact zM [tt,ff,tt,ff,tt,tt,ff,tt,tt,ff,tt,ff,tt,tt,tt,tt,ff] (K196 _ (if_pos hc197).symm)
  ·refine zT Ad W (t := 546) (f := 542) rfl (XT.ii_ne_t hc197) ?_
   exact zM [tt,ff,tt,ff,tt,tt,ff,tt,tt,ff,tt,ff,tt,tt,tt,tt,ff] (K196 _ (if_neg hc197).symm)
 ·refine zT Ad W (t := 552) (f := 531) rfl (XT.ii_ge_t hc193) ?_
  obtain rfl := Option.some.inj h
  exact zM [tt,ff,tt,ff,tt,tt,ff,tt,tt,ff,tt,ff,ff,tt,tt,ff,ff] (hx0 (v.1, v.2.2) rfl)
/-- validSlot(I)Z -/
def F27 (o : Ob) (x1 : Int32) : Option (Int32) :=
 (if x1 < (0:Int32) then some (0:Int32) else (if x1 < (f_nForms o) then some (1:Int32) else some (0:Int32)))
theorem tF27 (Ad : QAd n0 ad) (W : QW Z a0) (s : List Int32) (o : Ob) (x1 : Int32) {r : Int32} (h : F27 o x1 = some r) : QTri l Z n0 ad 27 (0, qentry [.ref 1, .int x1] (pMaxL 27), [], (H0 s o)) (some (Value.int r)) (H0 s o) := by
 unfold F27 at h
 refine zS Ad W 1 (st' := (1, [vR 1, vI x1], [.int x1], (H0 s o))) rfl ?_
 rcases qite h with ⟨hc203, h⟩ | ⟨hc203, h⟩
 ·refine zT Ad W (t := 16) (f := 4) rfl (XT.i0_lt_t hc203) ?_
  refine zS Ad W 1 (st' := (17, [vR 1, vI x1], [.int (0:Int32)], (H0 s o))) rfl ?_
  obtain rfl := Option.some.inj h
  exact QTri.retZ rfl rfl
 ·refine zF Ad W (t := 16) (f := 4) rfl (XT.i0_lt_f hc203) ?_
  refine zS Ad W 3 (st' := (9, [vR 1, vI x1], [.int (f_nForms o), .int x1], (H0 s o))) rfl ?_
  rcases qite h with ⟨hc204, h⟩ | ⟨hc204, h⟩
  ·refine zF Ad W (t := 16) (f := 12) rfl (XT.ii_ge_f hc204) ?_
   refine zS Ad W 2 (st' := (17, [vR 1, vI x1], [.int (1:Int32)], (H0 s o))) rfl ?_
   obtain rfl := Option.some.inj h
   exact QTri.retZ rfl rfl
  ·refine zT Ad W (t := 16) (f := 12) rfl (XT.ii_ge_t hc204) ?_
   refine zS Ad W 1 (st' := (17, [vR 1, vI x1], [.int (0:Int32)], (H0 s o))) rfl ?_
   obtain rfl := Option.some.inj h
   exact QTri.retZ rfl rfl
def H0x11 (s : List Int32) (o0 : Ob) (a0_19 : Int32) (a0_20 : Int32) : QHeap := H0v s (f_data o0) (f_filled o0) (f_rf o0) (f_cf o0) (f_vf o0) (f_ag o0) (f_fMode o0) (f_fRk o0) (f_fCk o0) (f_prevVal o0) (f_prevFound o0) (f_keys o0) (f_nRows o0) (f_nForms o0) (f_last o0) (f_selUseR o0) (f_selRk o0) (f_selUseC o0) (f_selCk o0) a0_19 a0_20
/-- evalFormula(I)V -/
def F17 (o : Ob) (x1 : Int32) : Option (Ob) :=
 (aget (f_fMode o) x1).bind fun y207 => (if y207 = (0:Int32) then some (s_gCount (s_gVal o (0:Int32)) (0:Int32)) else (aget (f_fRk o) x1).bind fun y218 => (aget (f_fCk o) x1).bind fun y219 => (F9 o (if y207 = (1:Int32) then (1:Int32) else (if y207 = (2:Int32) then (1:Int32) else (0:Int32))) y218 (if y207 = (1:Int32) then (1:Int32) else (if y207 = (3:Int32) then (1:Int32) else (0:Int32))) y219).bind fun r220 => some r220)
theorem tF17 (Ad : QAd n0 ad) (W : QW Z a0) (s : List Int32) (o : Ob) (x1 : Int32) {r : Ob} (h : F17 o x1 = some r) : QTri l Z n0 ad 17 (0, qentry [.ref 1, .int x1] (pMaxL 17), [], (H0 s o)) (none : Option Value) (H0 s r) := by
 unfold F17 at h
 refine zS Ad W 3 (st' := (5, [vR 1, vI x1, none, none, none], [.int x1, .ref 4], (H0 s o))) rfl ?_
 obtain ⟨y207, hy207, h⟩ := bind_eq_some_iff.mp h
 refine zB Ad W (f := fun y207 => (6, [vR 1, vI x1, none, none, none], [.int y207], (H0 s o))) rfl hy207 ?_
 refine zS Ad W 2 (st' := (8, [vR 1, vI x1, vI y207, none, none], [.int y207], (H0 s o))) rfl ?_
 rcases qite h with ⟨hc208, h⟩ | ⟨hc208, h⟩
 ·refine zF Ad W (t := 22) (f := 11) rfl (XT.i0_ne_f hc208) ?_
  refine zS Ad W 3 (st' := (16, [vR 1, vI x1, vI y207, none, none], [], (H0x10 s o (0:Int32)))) rfl ?_
  refine zS Ad W 3 (st' := (21, [vR 1, vI x1, vI y207, none, none], [], (H0x11 s o (0:Int32) (0:Int32)))) rfl ?_
  have E209 : ((H0x11 s o (0:Int32) (0:Int32)) : QHeap) = (H0 s (s_gCount (s_gVal o (0:Int32)) (0:Int32))) := by simp only [fs, H0, H0v, H0x11, s_gCount, s_gVal]
  rw [E209]
  obtain rfl := Option.some.inj h
  exact QTri.ret0 rfl rfl
 ·refine zT Ad W (t := 22) (f := 11) rfl (XT.i0_ne_t hc208) ?_
  refine zS Ad W 2 (st' := (24, [vR 1, vI x1, vI y207, none, none], [.int (1:Int32), .int y207], (H0 s o))) rfl ?_
  have K211 : ∀ z210 : Int32, z210 = (if y207 = (1:Int32) then (1:Int32) else (if y207 = (2:Int32) then (1:Int32) else (0:Int32))) → QTri l Z n0 ad 17 (37, [vR 1, vI x1, vI y207, none, none], [.int z210], (H0 s o)) (none : Option Value) (H0 s r) := by
   intro z210 ez210
   subst ez210
   refine zS Ad W 3 (st' := (40, [vR 1, vI x1, vI y207, vI (if y207 = (1:Int32) then (1:Int32) else (if y207 = (2:Int32) then (1:Int32) else (0:Int32))), none], [.int (1:Int32), .int y207], (H0 s o))) rfl ?_
   have K215 : ∀ z214 : Int32, z214 = (if y207 = (1:Int32) then (1:Int32) else (if y207 = (3:Int32) then (1:Int32) else (0:Int32))) → QTri l Z n0 ad 17 (53, [vR 1, vI x1, none, vI (if y207 = (1:Int32) then (1:Int32) else (if y207 = (2:Int32) then (1:Int32) else (0:Int32))), none], [.int z214], (H0 s o)) (none : Option Value) (H0 s r) := by
    intro z214 ez214
    subst ez214
    refine zS Ad W 6 (st' := (62, [vR 1, vI x1, none, vI (if y207 = (1:Int32) then (1:Int32) else (if y207 = (2:Int32) then (1:Int32) else (0:Int32))), vI (if y207 = (1:Int32) then (1:Int32) else (if y207 = (3:Int32) then (1:Int32) else (0:Int32)))], [.int x1, .ref 5, .int (if y207 = (1:Int32) then (1:Int32) else (if y207 = (2:Int32) then (1:Int32) else (0:Int32))), .ref 1], (H0 s o))) rfl ?_
    obtain ⟨y218, hy218, h⟩ := bind_eq_some_iff.mp h
    refine zB Ad W (f := fun y218 => (63, [vR 1, vI x1, none, vI (if y207 = (1:Int32) then (1:Int32) else (if y207 = (2:Int32) then (1:Int32) else (0:Int32))), vI (if y207 = (1:Int32) then (1:Int32) else (if y207 = (3:Int32) then (1:Int32) else (0:Int32)))], [.int y218, .int (if y207 = (1:Int32) then (1:Int32) else (if y207 = (2:Int32) then (1:Int32) else (0:Int32))), .ref 1], (H0 s o))) rfl hy218 ?_
    refine zS Ad W 4 (st' := (70, [vR 1, vI x1, none, vI (if y207 = (1:Int32) then (1:Int32) else (if y207 = (2:Int32) then (1:Int32) else (0:Int32))), vI (if y207 = (1:Int32) then (1:Int32) else (if y207 = (3:Int32) then (1:Int32) else (0:Int32)))], [.int x1, .ref 6, .int (if y207 = (1:Int32) then (1:Int32) else (if y207 = (3:Int32) then (1:Int32) else (0:Int32))), .int y218, .int (if y207 = (1:Int32) then (1:Int32) else (if y207 = (2:Int32) then (1:Int32) else (0:Int32))), .ref 1], (H0 s o))) rfl ?_
    obtain ⟨y219, hy219, h⟩ := bind_eq_some_iff.mp h
    refine zB Ad W (f := fun y219 => (71, [vR 1, vI x1, none, vI (if y207 = (1:Int32) then (1:Int32) else (if y207 = (2:Int32) then (1:Int32) else (0:Int32))), vI (if y207 = (1:Int32) then (1:Int32) else (if y207 = (3:Int32) then (1:Int32) else (0:Int32)))], [.int y219, .int (if y207 = (1:Int32) then (1:Int32) else (if y207 = (3:Int32) then (1:Int32) else (0:Int32))), .int y218, .int (if y207 = (1:Int32) then (1:Int32) else (if y207 = (2:Int32) then (1:Int32) else (0:Int32))), .ref 1], (H0 s o))) rfl hy219 ?_
    obtain ⟨r220, hr220, h⟩ := bind_eq_some_iff.mp h
    refine QTri.callP W (a := 1) (as := [.int (if y207 = (1:Int32) then (1:Int32) else (if y207 = (2:Int32) then (1:Int32) else (0:Int32))), .int y218, .int (if y207 = (1:Int32) then (1:Int32) else (if y207 = (3:Int32) then (1:Int32) else (0:Int32))), .int y219]) (rest := []) (w := none) (σ₁ := (H0 s r220)) rfl rfl rfl rfl rfl rfl rfl rfl (tF9 Ad W s o (if y207 = (1:Int32) then (1:Int32) else (if y207 = (2:Int32) then (1:Int32) else (0:Int32))) y218 (if y207 = (1:Int32) then (1:Int32) else (if y207 = (3:Int32) then (1:Int32) else (0:Int32))) y219 hr220) ?_
    obtain rfl := Option.some.inj h
    exact QTri.ret0 rfl rfl
   rcases em (y207 = (1:Int32)) with hc216 | hc216
   ·refine zT Ad W (t := 48) (f := 43) rfl (XT.ii_eq_t hc216) ?_
    refine zS Ad W 2 (st' := (53, [vR 1, vI x1, vI y207, vI (if y207 = (1:Int32) then (1:Int32) else (if y207 = (2:Int32) then (1:Int32) else (0:Int32))), none], [.int (1:Int32)], (H0 s o))) rfl ?_
    exact zM [tt,tt,ff,tt,ff] (K215 _ (if_pos hc216).symm)
   ·refine zF Ad W (t := 48) (f := 43) rfl (XT.ii_eq_f hc216) ?_
    refine zS Ad W 2 (st' := (45, [vR 1, vI x1, vI y207, vI (if y207 = (1:Int32) then (1:Int32) else (if y207 = (2:Int32) then (1:Int32) else (0:Int32))), none], [.int (3:Int32), .int y207], (H0 s o))) rfl ?_
    rcases em (y207 = (3:Int32)) with hc217 | hc217
    ·refine zF Ad W (t := 52) (f := 48) rfl (XT.ii_ne_f hc217) ?_
     refine zS Ad W 2 (st' := (53, [vR 1, vI x1, vI y207, vI (if y207 = (1:Int32) then (1:Int32) else (if y207 = (2:Int32) then (1:Int32) else (0:Int32))), none], [.int (1:Int32)], (H0 s o))) rfl ?_
     exact zM [tt,tt,ff,tt,ff] (K215 _ ((if_neg hc216).trans (if_pos hc217)).symm)
    ·refine zT Ad W (t := 52) (f := 48) rfl (XT.ii_ne_t hc217) ?_
     refine zS Ad W 1 (st' := (53, [vR 1, vI x1, vI y207, vI (if y207 = (1:Int32) then (1:Int32) else (if y207 = (2:Int32) then (1:Int32) else (0:Int32))), none], [.int (0:Int32)], (H0 s o))) rfl ?_
     exact zM [tt,tt,ff,tt,ff] (K215 _ ((if_neg hc216).trans (if_neg hc217)).symm)
  rcases em (y207 = (1:Int32)) with hc212 | hc212
  ·refine zT Ad W (t := 32) (f := 27) rfl (XT.ii_eq_t hc212) ?_
   refine zS Ad W 2 (st' := (37, [vR 1, vI x1, vI y207, none, none], [.int (1:Int32)], (H0 s o))) rfl ?_
   exact zM [tt,tt,tt,ff,ff] (K211 _ (if_pos hc212).symm)
  ·refine zF Ad W (t := 32) (f := 27) rfl (XT.ii_eq_f hc212) ?_
   refine zS Ad W 2 (st' := (29, [vR 1, vI x1, vI y207, none, none], [.int (2:Int32), .int y207], (H0 s o))) rfl ?_
   rcases em (y207 = (2:Int32)) with hc213 | hc213
   ·refine zF Ad W (t := 36) (f := 32) rfl (XT.ii_ne_f hc213) ?_
    refine zS Ad W 2 (st' := (37, [vR 1, vI x1, vI y207, none, none], [.int (1:Int32)], (H0 s o))) rfl ?_
    exact zM [tt,tt,tt,ff,ff] (K211 _ ((if_neg hc212).trans (if_pos hc213)).symm)
   ·refine zT Ad W (t := 36) (f := 32) rfl (XT.ii_ne_t hc213) ?_
    refine zS Ad W 1 (st' := (37, [vR 1, vI x1, vI y207, none, none], [.int (0:Int32)], (H0 s o))) rfl ?_
    exact zM [tt,tt,tt,ff,ff] (K211 _ ((if_neg hc212).trans (if_neg hc213)).symm)
/-- formulaFound(I)Z -/
def F28 (o : Ob) (x1 : Int32) : Option (Int32 × Ob) :=
 (F27 o x1).bind fun r205 => (if r205 = (0:Int32) then some ((0:Int32), o) else (F17 o x1).bind fun r221 => (if (0:Int32) < (f_gCount r221) then some ((1:Int32), r221) else some ((0:Int32), r221)))
theorem tF28 (Ad : QAd n0 ad) (W : QW Z a0) (s : List Int32) (o : Ob) (x1 : Int32) {r : Int32 × Ob} (h : F28 o x1 = some r) : QTri l Z n0 ad 28 (0, qentry [.ref 1, .int x1] (pMaxL 28), [], (H0 s o)) (some (Value.int r.1)) (H0 s r.2) := by
 unfold F28 at h
 refine zS Ad W 2 (st' := (2, [vR 1, vI x1], [.int x1, .ref 1], (H0 s o))) rfl ?_
 obtain ⟨r205, hr205, h⟩ := bind_eq_some_iff.mp h
 refine QTri.callP W (a := 1) (as := [.int x1]) (rest := []) (w := (some (.int r205))) (σ₁ := (H0 s o)) rfl rfl rfl rfl rfl rfl rfl rfl (tF27 Ad W s o x1 hr205) ?_
 rcases qite h with ⟨hc206, h⟩ | ⟨hc206, h⟩
 ·refine zF Ad W (t := 10) (f := 8) rfl (XT.i0_ne_f hc206) ?_
  refine zS Ad W 1 (st' := (9, [vR 1, vI x1], [.int (0:Int32)], (H0 s o))) rfl ?_
  obtain rfl := Option.some.inj h
  exact QTri.retZ rfl rfl
 ·refine zT Ad W (t := 10) (f := 8) rfl (XT.i0_ne_t hc206) ?_
  refine zS Ad W 2 (st' := (12, [vR 1, vI x1], [.int x1, .ref 1], (H0 s o))) rfl ?_
  obtain ⟨r221, hr221, h⟩ := bind_eq_some_iff.mp h
  refine QTri.callP W (a := 1) (as := [.int x1]) (rest := []) (w := none) (σ₁ := (H0 s r221)) rfl rfl rfl rfl rfl rfl rfl rfl (tF17 Ad W s o x1 hr221) ?_
  refine zS Ad W 2 (st' := (19, [vR 1, vI x1], [.int (f_gCount r221)], (H0 s r221))) rfl ?_
  rcases qite h with ⟨hc222, h⟩ | ⟨hc222, h⟩
  ·refine zF Ad W (t := 26) (f := 22) rfl (XT.i0_le_f hc222) ?_
   refine zS Ad W 2 (st' := (27, [vR 1, vI x1], [.int (1:Int32)], (H0 s r221))) rfl ?_
   obtain rfl := Option.some.inj h
   exact QTri.retZ rfl rfl
  ·refine zT Ad W (t := 26) (f := 22) rfl (XT.i0_le_t hc222) ?_
   refine zS Ad W 1 (st' := (27, [vR 1, vI x1], [.int (0:Int32)], (H0 s r221))) rfl ?_
   obtain rfl := Option.some.inj h
   exact QTri.retZ rfl rfl
/-- formulaValue(I)I -/
def F29 (o : Ob) (x1 : Int32) : Option (Int32 × Ob) :=
 (F27 o x1).bind fun r225 => (if r225 = (0:Int32) then some ((0:Int32), o) else (F17 o x1).bind fun r227 => some ((f_gVal r227), r227))
theorem tF29 (Ad : QAd n0 ad) (W : QW Z a0) (s : List Int32) (o : Ob) (x1 : Int32) {r : Int32 × Ob} (h : F29 o x1 = some r) : QTri l Z n0 ad 29 (0, qentry [.ref 1, .int x1] (pMaxL 29), [], (H0 s o)) (some (Value.int r.1)) (H0 s r.2) := by
 unfold F29 at h
 refine zS Ad W 2 (st' := (2, [vR 1, vI x1], [.int x1, .ref 1], (H0 s o))) rfl ?_
 obtain ⟨r225, hr225, h⟩ := bind_eq_some_iff.mp h
 refine QTri.callP W (a := 1) (as := [.int x1]) (rest := []) (w := (some (.int r225))) (σ₁ := (H0 s o)) rfl rfl rfl rfl rfl rfl rfl rfl (tF27 Ad W s o x1 hr225) ?_
 rcases qite h with ⟨hc226, h⟩ | ⟨hc226, h⟩
 ·refine zF Ad W (t := 10) (f := 8) rfl (XT.i0_ne_f hc226) ?_
  refine zS Ad W 1 (st' := (9, [vR 1, vI x1], [.int (0:Int32)], (H0 s o))) rfl ?_
  obtain rfl := Option.some.inj h
  exact QTri.retI rfl rfl
 ·refine zT Ad W (t := 10) (f := 8) rfl (XT.i0_ne_t hc226) ?_
  refine zS Ad W 2 (st' := (12, [vR 1, vI x1], [.int x1, .ref 1], (H0 s o))) rfl ?_
  obtain ⟨r227, hr227, h⟩ := bind_eq_some_iff.mp h
  refine QTri.callP W (a := 1) (as := [.int x1]) (rest := []) (w := none) (σ₁ := (H0 s r227)) rfl rfl rfl rfl rfl rfl rfl rfl (tF17 Ad W s o x1 hr227) ?_
  refine zS Ad W 2 (st' := (19, [vR 1, vI x1], [.int (f_gVal r227)], (H0 s r227))) rfl ?_
  obtain rfl := Option.some.inj h
  exact QTri.retI rfl rfl
def J3_706 (o : Ob) (x2 : Int64) (x4 : Int32) (x5 : Int32) (x7 : Int32) (x8 : Int32) (x15 : Int32) (x16 : Int32) : Option (((Int32 × Ob)) ⊕ (Int32 × Ob)) :=
  (F28 o x8).bind fun r223 => (if r223.1 = x15 then (F29 r223.2 x8).bind fun r228 => (if r228.1 = x16 then (J3_730 r228.2 x2 x4 x5 x7 x8) else some (.inl ((0 : Int32), r228.2))) else some (.inl ((0 : Int32), r223.2)))
theorem tJ3_706 (Ad : QAd n0 ad) (W : QW Z a0) (s : List Int32) (o : Ob) (x2 : Int64) (x4 : Int32) (x5 : Int32) (x7 : Int32) (x8 : Int32) (x15 : Int32) (x16 : Int32) {r : ((Int32 × Ob)) ⊕ (Int32 × Ob)} {u : Option Value} {τ : QHeap} (h : J3_706 o x2 x4 x5 x7 x8 x15 x16 = some r) (hx0 : ∀ x : Int32 × Ob, r = .inl x → u = (some (Value.int x.1)) ∧ τ = (H0 s x.2)) (hc : ∀ x : Int32 × Ob, r = .inr x → QTri l Z n0 ad 3 (425, [vR 1, none, vL x2, none, vI x4, vI x5, none, vI x7, vI x.1, none, none, none, none, none, none, none, none], [], (H0 s x.2)) u τ) : QTri l Z n0 ad 3 (706, [vR 1, none, vL x2, none, vI x4, vI x5, none, vI x7, vI x8, none, none, none, none, none, none, vI x15, vI x16], [], (H0 s o)) u τ := by
 unfold J3_706 at h
 refine zS Ad W 2 (st' := (709, [vR 1, none, vL x2, none, vI x4, vI x5, none, vI x7, vI x8, none, none, none, none, none, none, vI x15, vI x16], [.int x8, .ref 1], (H0 s o))) rfl ?_
 obtain ⟨r223, hr223, h⟩ := bind_eq_some_iff.mp h
 refine QTri.callV W (a := 1) (as := [.int x8]) (rest := []) (w := (some (.int r223.1))) (σ₁ := (H0 s r223.2)) rfl rfl rfl rfl rfl rfl rfl rfl (tF28 Ad W s o x8 hr223) ?_
 refine zS Ad W 1 (st' := (714, [vR 1, none, vL x2, none, vI x4, vI x5, none, vI x7, vI x8, none, none, none, none, none, none, vI x15, vI x16], [.int x15, .int r223.1], (H0 s r223.2))) rfl ?_
 rcases qite h with ⟨hc224, h⟩ | ⟨hc224, h⟩
 ·refine zF Ad W (t := 728) (f := 717) rfl (XT.ii_ne_f hc224) ?_
  refine zS Ad W 2 (st' := (720, [vR 1, none, vL x2, none, vI x4, vI x5, none, vI x7, vI x8, none, none, none, none, none, none, vI x15, vI x16], [.int x8, .ref 1], (H0 s r223.2))) rfl ?_
  obtain ⟨r228, hr228, h⟩ := bind_eq_some_iff.mp h
  refine QTri.callV W (a := 1) (as := [.int x8]) (rest := []) (w := (some (.int r228.1))) (σ₁ := (H0 s r228.2)) rfl rfl rfl rfl rfl rfl rfl rfl (tF29 Ad W s r223.2 x8 hr228) ?_
  refine zS Ad W 1 (st' := (725, [vR 1, none, vL x2, none, vI x4, vI x5, none, vI x7, vI x8, none, none, none, none, none, none, vI x15, vI x16], [.int x16, .int r228.1], (H0 s r228.2))) rfl ?_
  rcases qite h with ⟨hc229, h⟩ | ⟨hc229, h⟩
  ·refine zT Ad W (t := 730) (f := 728) rfl (XT.ii_eq_t hc229) ?_
   exact zM [tt,ff,tt,ff,tt,tt,ff,tt,tt,ff,ff,ff,ff,ff,ff,ff,ff] (tJ3_730 Ad W s r228.2 x2 x4 x5 x7 x8 h hx0 hc)
  ·refine zF Ad W (t := 730) (f := 728) rfl (XT.ii_eq_f hc229) ?_
   refine zS Ad W 1 (st' := (729, [vR 1, none, vL x2, none, vI x4, vI x5, none, vI x7, vI x8, none, none, none, none, none, none, vI x15, vI x16], [.int (0:Int32)], (H0 s r228.2))) rfl ?_
   obtain rfl := Option.some.inj h
   obtain ⟨rfl, rfl⟩ := hx0 ((0:Int32), r228.2) rfl
   exact QTri.retZ rfl rfl
 ·refine zT Ad W (t := 728) (f := 717) rfl (XT.ii_ne_t hc224) ?_
  refine zS Ad W 1 (st' := (729, [vR 1, none, vL x2, none, vI x4, vI x5, none, vI x7, vI x8, none, none, none, none, none, none, vI x15, vI x16], [.int (0:Int32)], (H0 s r223.2))) rfl ?_
  obtain rfl := Option.some.inj h
  obtain ⟨rfl, rfl⟩ := hx0 ((0:Int32), r223.2) rfl
  exact QTri.retZ rfl rfl
def J3_603 (o : Ob) (x2 : Int64) (x4 : Int32) (x5 : Int32) (x7 : Int32) (x8 : Int32) (x15 : Int32) (w0 : Int32) : Option (((Int32 × Ob)) ⊕ (Int32 × Ob)) :=
  (J3_706 o x2 x4 x5 x7 x8 x15 w0)
theorem tJ3_603 (Ad : QAd n0 ad) (W : QW Z a0) (s : List Int32) (o : Ob) (x2 : Int64) (x4 : Int32) (x5 : Int32) (x7 : Int32) (x8 : Int32) (x15 : Int32) (w0 : Int32) {r : ((Int32 × Ob)) ⊕ (Int32 × Ob)} {u : Option Value} {τ : QHeap} (h : J3_603 o x2 x4 x5 x7 x8 x15 w0 = some r) (hx0 : ∀ x : Int32 × Ob, r = .inl x → u = (some (Value.int x.1)) ∧ τ = (H0 s x.2)) (hc : ∀ x : Int32 × Ob, r = .inr x → QTri l Z n0 ad 3 (425, [vR 1, none, vL x2, none, vI x4, vI x5, none, vI x7, vI x.1, none, none, none, none, none, none, none, none], [], (H0 s x.2)) u τ) : QTri l Z n0 ad 3 (603, [vR 1, none, vL x2, none, vI x4, vI x5, none, vI x7, vI x8, none, none, none, none, none, none, vI x15, none], [.int w0], (H0 s o)) u τ := by
 unfold J3_603 at h
 refine zS Ad W 2 (st' := (706, [vR 1, none, vL x2, none, vI x4, vI x5, none, vI x7, vI x8, none, none, none, none, none, none, vI x15, vI w0], [], (H0 s o))) rfl ?_
 exact zM [tt,ff,tt,ff,tt,tt,ff,tt,tt,ff,ff,ff,ff,ff,ff,tt,tt] (tJ3_706 Ad W s o x2 x4 x5 x7 x8 x15 w0 h hx0 hc)
def J3_584 (o : Ob) (x2 : Int64) (x4 : Int32) (x5 : Int32) (x7 : Int32) (x8 : Int32) (x13 : Int32) (x14 : Int32) (w0 : Int32) : Option (((Int32 × Ob)) ⊕ (Int32 × Ob)) :=
  (if w0 = (0 : Int32) then (J3_603 o x2 x4 x5 x7 x8 w0 (0 : Int32)) else (F11 o x13 x14).bind fun r230 => (J3_603 r230.2 x2 x4 x5 x7 x8 w0 r230.1))
theorem tJ3_584 (Ad : QAd n0 ad) (W : QW Z a0) (s : List Int32) (o : Ob) (x2 : Int64) (x4 : Int32) (x5 : Int32) (x7 : Int32) (x8 : Int32) (x13 : Int32) (x14 : Int32) (w0 : Int32) {r : ((Int32 × Ob)) ⊕ (Int32 × Ob)} {u : Option Value} {τ : QHeap} (h : J3_584 o x2 x4 x5 x7 x8 x13 x14 w0 = some r) (hx0 : ∀ x : Int32 × Ob, r = .inl x → u = (some (Value.int x.1)) ∧ τ = (H0 s x.2)) (hc : ∀ x : Int32 × Ob, r = .inr x → QTri l Z n0 ad 3 (425, [vR 1, none, vL x2, none, vI x4, vI x5, none, vI x7, vI x.1, none, none, none, none, none, none, none, none], [], (H0 s x.2)) u τ) : QTri l Z n0 ad 3 (584, [vR 1, none, vL x2, none, vI x4, vI x5, none, vI x7, vI x8, none, none, none, none, vI x13, vI x14, none, none], [.int w0], (H0 s o)) u τ := by
 unfold J3_584 at h
 refine zS Ad W 2 (st' := (588, [vR 1, none, vL x2, none, vI x4, vI x5, none, vI x7, vI x8, none, none, none, none, vI x13, vI x14, vI w0, none], [.int w0], (H0 s o))) rfl ?_
 rcases qite h with ⟨hc202, h⟩ | ⟨hc202, h⟩
 ·refine zT Ad W (t := 602) (f := 591) rfl (XT.i0_eq_t hc202) ?_
  refine zS Ad W 1 (st' := (603, [vR 1, none, vL x2, none, vI x4, vI x5, none, vI x7, vI x8, none, none, none, none, vI x13, vI x14, vI w0, none], [.int (0:Int32)], (H0 s o))) rfl ?_
  exact zM [tt,ff,tt,ff,tt,tt,ff,tt,tt,ff,ff,ff,ff,ff,ff,tt,ff] (tJ3_603 Ad W s o x2 x4 x5 x7 x8 w0 (0:Int32) h hx0 hc)
 ·refine zF Ad W (t := 602) (f := 591) rfl (XT.i0_eq_f hc202) ?_
  refine zS Ad W 3 (st' := (596, [vR 1, none, vL x2, none, vI x4, vI x5, none, vI x7, vI x8, none, none, none, none, vI x13, vI x14, vI w0, none], [.int x14, .int x13, .ref 1], (H0 s o))) rfl ?_
  obtain ⟨r230, hr230, h⟩ := bind_eq_some_iff.mp h
  refine QTri.callV W (a := 1) (as := [.int x13, .int x14]) (rest := []) (w := (some (.int r230.1))) (σ₁ := (H0 s r230.2)) rfl rfl rfl rfl rfl rfl rfl rfl (tF11 Ad W s o x13 x14 hr230) ?_
  refine zS Ad W 1 (st' := (603, [vR 1, none, vL x2, none, vI x4, vI x5, none, vI x7, vI x8, none, none, none, none, vI x13, vI x14, vI w0, none], [.int r230.1], (H0 s r230.2))) rfl ?_
  exact zM [tt,ff,tt,ff,tt,tt,ff,tt,tt,ff,ff,ff,ff,ff,ff,tt,ff] (tJ3_603 Ad W s r230.2 x2 x4 x5 x7 x8 w0 r230.1 h hx0 hc)
def J3_583 (o : Ob) (x2 : Int64) (x4 : Int32) (x5 : Int32) (x7 : Int32) (x8 : Int32) (x13 : Int32) (x14 : Int32) : Option (((Int32 × Ob)) ⊕ (Int32 × Ob)) :=
  (J3_584 o x2 x4 x5 x7 x8 x13 x14 (0 : Int32))
theorem tJ3_583 (Ad : QAd n0 ad) (W : QW Z a0) (s : List Int32) (o : Ob) (x2 : Int64) (x4 : Int32) (x5 : Int32) (x7 : Int32) (x8 : Int32) (x13 : Int32) (x14 : Int32) {r : ((Int32 × Ob)) ⊕ (Int32 × Ob)} {u : Option Value} {τ : QHeap} (h : J3_583 o x2 x4 x5 x7 x8 x13 x14 = some r) (hx0 : ∀ x : Int32 × Ob, r = .inl x → u = (some (Value.int x.1)) ∧ τ = (H0 s x.2)) (hc : ∀ x : Int32 × Ob, r = .inr x → QTri l Z n0 ad 3 (425, [vR 1, none, vL x2, none, vI x4, vI x5, none, vI x7, vI x.1, none, none, none, none, none, none, none, none], [], (H0 s x.2)) u τ) : QTri l Z n0 ad 3 (583, [vR 1, none, vL x2, none, vI x4, vI x5, none, vI x7, vI x8, none, none, none, none, vI x13, vI x14, none, none], [], (H0 s o)) u τ := by
 unfold J3_583 at h
 refine zS Ad W 1 (st' := (584, [vR 1, none, vL x2, none, vI x4, vI x5, none, vI x7, vI x8, none, none, none, none, vI x13, vI x14, none, none], [.int (0:Int32)], (H0 s o))) rfl ?_
 exact zM [tt,ff,tt,ff,tt,tt,ff,tt,tt,ff,ff,ff,ff,tt,tt,ff,ff] (tJ3_584 Ad W s o x2 x4 x5 x7 x8 x13 x14 (0:Int32) h hx0 hc)
def J3_642 (o : Ob) (x2 : Int64) (x4 : Int32) (x5 : Int32) (x7 : Int32) (x8 : Int32) (x15 : Int32) (w0 : Int32) : Option (((Int32 × Ob)) ⊕ (Int32 × Ob)) :=
  (J3_706 o x2 x4 x5 x7 x8 x15 w0)
theorem tJ3_642 (Ad : QAd n0 ad) (W : QW Z a0) (s : List Int32) (o : Ob) (x2 : Int64) (x4 : Int32) (x5 : Int32) (x7 : Int32) (x8 : Int32) (x15 : Int32) (w0 : Int32) {r : ((Int32 × Ob)) ⊕ (Int32 × Ob)} {u : Option Value} {τ : QHeap} (h : J3_642 o x2 x4 x5 x7 x8 x15 w0 = some r) (hx0 : ∀ x : Int32 × Ob, r = .inl x → u = (some (Value.int x.1)) ∧ τ = (H0 s x.2)) (hc : ∀ x : Int32 × Ob, r = .inr x → QTri l Z n0 ad 3 (425, [vR 1, none, vL x2, none, vI x4, vI x5, none, vI x7, vI x.1, none, none, none, none, none, none, none, none], [], (H0 s x.2)) u τ) : QTri l Z n0 ad 3 (642, [vR 1, none, vL x2, none, vI x4, vI x5, none, vI x7, vI x8, none, none, none, none, none, none, vI x15, none], [.int w0], (H0 s o)) u τ := by
 unfold J3_642 at h
 refine zS Ad W 2 (st' := (706, [vR 1, none, vL x2, none, vI x4, vI x5, none, vI x7, vI x8, none, none, none, none, none, none, vI x15, vI w0], [], (H0 s o))) rfl ?_
 exact zM [tt,ff,tt,ff,tt,tt,ff,tt,tt,ff,ff,ff,ff,ff,ff,tt,tt] (tJ3_706 Ad W s o x2 x4 x5 x7 x8 x15 w0 h hx0 hc)
def J3_681 (o : Ob) (x2 : Int64) (x4 : Int32) (x5 : Int32) (x7 : Int32) (x8 : Int32) (x15 : Int32) (w0 : Int32) : Option (((Int32 × Ob)) ⊕ (Int32 × Ob)) :=
  (J3_706 o x2 x4 x5 x7 x8 x15 w0)
theorem tJ3_681 (Ad : QAd n0 ad) (W : QW Z a0) (s : List Int32) (o : Ob) (x2 : Int64) (x4 : Int32) (x5 : Int32) (x7 : Int32) (x8 : Int32) (x15 : Int32) (w0 : Int32) {r : ((Int32 × Ob)) ⊕ (Int32 × Ob)} {u : Option Value} {τ : QHeap} (h : J3_681 o x2 x4 x5 x7 x8 x15 w0 = some r) (hx0 : ∀ x : Int32 × Ob, r = .inl x → u = (some (Value.int x.1)) ∧ τ = (H0 s x.2)) (hc : ∀ x : Int32 × Ob, r = .inr x → QTri l Z n0 ad 3 (425, [vR 1, none, vL x2, none, vI x4, vI x5, none, vI x7, vI x.1, none, none, none, none, none, none, none, none], [], (H0 s x.2)) u τ) : QTri l Z n0 ad 3 (681, [vR 1, none, vL x2, none, vI x4, vI x5, none, vI x7, vI x8, none, none, none, none, none, none, vI x15, none], [.int w0], (H0 s o)) u τ := by
 unfold J3_681 at h
 refine zS Ad W 2 (st' := (706, [vR 1, none, vL x2, none, vI x4, vI x5, none, vI x7, vI x8, none, none, none, none, none, none, vI x15, vI w0], [], (H0 s o))) rfl ?_
 exact zM [tt,ff,tt,ff,tt,tt,ff,tt,tt,ff,ff,ff,ff,ff,ff,tt,tt] (tJ3_706 Ad W s o x2 x4 x5 x7 x8 x15 w0 h hx0 hc)
def B3_425 (x2 : Int64) (x4 : Int32) (x5 : Int32) (x7 : Int32) (v : Int32 × Ob) : Option (((Int32 × Ob)) ⊕ (Int32 × Ob)) :=
  (if v.1 < (6 : Int32) then (if ((((XT.ushrL x2 ((9 : Int32) * v.1)) &&& (511 : Int64)).toInt32) &&& (7 : Int32)) = (0 : Int32) then (J3_730 v.2 x2 x4 x5 x7 v.1) else (loopN (B3_493 x2 x4 x5 x7 v.1 ((((XT.ushrL x2 ((9 : Int32) * v.1)) &&& (511 : Int64)).toInt32) &&& (7 : Int32)) (((XT.ushr (((XT.ushrL x2 ((9 : Int32) * v.1)) &&& (511 : Int64)).toInt32) (3 : Int32)) &&& (7 : Int32)) - (4 : Int32)) (((XT.ushr (((XT.ushrL x2 ((9 : Int32) * v.1)) &&& (511 : Int64)).toInt32) (6 : Int32)) &&& (7 : Int32)) - (4 : Int32)) (-1 : Int32)) qN ((-1 : Int32), (0 : Int32), v.2)).bind fun e191 => (loopN (B3_524 x2 x4 x5 x7 v.1 ((((XT.ushrL x2 ((9 : Int32) * v.1)) &&& (511 : Int64)).toInt32) &&& (7 : Int32)) (((XT.ushr (((XT.ushrL x2 ((9 : Int32) * v.1)) &&& (511 : Int64)).toInt32) (6 : Int32)) &&& (7 : Int32)) - (4 : Int32)) e191.1) qN ((-1 : Int32), (0 : Int32), e191.2)).bind fun e198 => (if ((((XT.ushrL x2 ((9 : Int32) * v.1)) &&& (511 : Int64)).toInt32) &&& (7 : Int32)) = (1 : Int32) then (if e191.1 < (0 : Int32) then (J3_583 e198.2 x2 x4 x5 x7 v.1 e191.1 e198.1) else (if e198.1 < (0 : Int32) then (J3_583 e198.2 x2 x4 x5 x7 v.1 e191.1 e198.1) else (F7 e198.2 e191.1 e198.1).bind fun r232 => (if (if (0 : Int32) < r232.1 then (1 : Int32) else (0 : Int32)) = (0 : Int32) then (J3_603 r232.2 x2 x4 x5 x7 v.1 (if (0 : Int32) < r232.1 then (1 : Int32) else (0 : Int32)) (0 : Int32)) else (F11 r232.2 e191.1 e198.1).bind fun r237 => (J3_603 r237.2 x2 x4 x5 x7 v.1 (if (0 : Int32) < r232.1 then (1 : Int32) else (0 : Int32)) r237.1)))) else (if ((((XT.ushrL x2 ((9 : Int32) * v.1)) &&& (511 : Int64)).toInt32) &&& (7 : Int32)) = (2 : Int32) then (if (if e191.1 < (0 : Int32) then (0 : Int32) else (1 : Int32)) = (0 : Int32) then (J3_642 e198.2 x2 x4 x5 x7 v.1 (if e191.1 < (0 : Int32) then (0 : Int32) else (1 : Int32)) (0 : Int32)) else (F11 e198.2 e191.1 (-1 : Int32)).bind fun r243 => (J3_642 r243.2 x2 x4 x5 x7 v.1 (if e191.1 < (0 : Int32) then (0 : Int32) else (1 : Int32)) r243.1)) else (if ((((XT.ushrL x2 ((9 : Int32) * v.1)) &&& (511 : Int64)).toInt32) &&& (7 : Int32)) = (3 : Int32) then (if (if e198.1 < (0 : Int32) then (0 : Int32) else (1 : Int32)) = (0 : Int32) then (J3_681 e198.2 x2 x4 x5 x7 v.1 (if e198.1 < (0 : Int32) then (0 : Int32) else (1 : Int32)) (0 : Int32)) else (F11 e198.2 (-1 : Int32) e198.1).bind fun r249 => (J3_681 r249.2 x2 x4 x5 x7 v.1 (if e198.1 < (0 : Int32) then (0 : Int32) else (1 : Int32)) r249.1)) else (F11 e198.2 (-1 : Int32) (-1 : Int32)).bind fun r253 => (J3_706 r253.2 x2 x4 x5 x7 v.1 (if (0 : Int32) < x7 then (1 : Int32) else (0 : Int32)) r253.1))))) else some (.inl ((1 : Int32), v.2)))
theorem tB3_425 (Ad : QAd n0 ad) (W : QW Z a0) (s : List Int32) (x2 : Int64) (x4 : Int32) (x5 : Int32) (x7 : Int32) (v : Int32 × Ob) {r : ((Int32 × Ob)) ⊕ (Int32 × Ob)} {u : Option Value} {τ : QHeap} (h : B3_425 x2 x4 x5 x7 v = some r) (hx0 : ∀ x : Int32 × Ob, r = .inl x → u = (some (Value.int x.1)) ∧ τ = (H0 s x.2)) (hc : ∀ x : Int32 × Ob, r = .inr x → QTri l Z n0 ad 3 (425, [vR 1, none, vL x2, none, vI x4, vI x5, none, vI x7, vI x.1, none, none, none, none, none, none, none, none], [], (H0 s x.2)) u τ) : QTri l Z n0 ad 3 (425, [vR 1, none, vL x2, none, vI x4, vI x5, none, vI x7, vI v.1, none, none, none, none, none, none, none, none], [], (H0 s v.2)) u τ := by
 unfold B3_425 at h
 refine zS Ad W 2 (st' := (429, [vR 1, none, vL x2, none, vI x4, vI x5, none, vI x7, vI v.1, none, none, none, none, none, none, none, none], [.int (6:Int32), .int v.1], (H0 s v.2))) rfl ?_
 rcases qite h with ⟨hc184, h⟩ | ⟨hc184, h⟩
 ·refine zF Ad W (t := 736) (f := 432) rfl (XT.ii_ge_f hc184) ?_
  refine zS Ad W 12 (st' := (451, [vR 1, none, vL x2, none, vI x4, vI x5, none, vI x7, vI v.1, vI (((XT.ushrL x2 ((9:Int32) * v.1)) &&& (511 : Int64)).toInt32), none, none, none, none, none, none, none], [.int ((((XT.ushrL x2 ((9:Int32) * v.1)) &&& (511 : Int64)).toInt32) &&& (7:Int32))], (H0 s v.2))) rfl ?_
  refine zS Ad W 9 (st' := (464, [vR 1, none, vL x2, none, vI x4, vI x5, none, vI x7, vI v.1, vI (((XT.ushrL x2 ((9:Int32) * v.1)) &&& (511 : Int64)).toInt32), vI ((((XT.ushrL x2 ((9:Int32) * v.1)) &&& (511 : Int64)).toInt32) &&& (7:Int32)), vI (((XT.ushr (((XT.ushrL x2 ((9:Int32) * v.1)) &&& (511 : Int64)).toInt32) (3:Int32)) &&& (7:Int32)) - (4:Int32)), none, none, none, none, none], [], (H0 s v.2))) rfl ?_
  refine zS Ad W 9 (st' := (478, [vR 1, none, vL x2, none, vI x4, vI x5, none, vI x7, vI v.1, vI (((XT.ushrL x2 ((9:Int32) * v.1)) &&& (511 : Int64)).toInt32), vI ((((XT.ushrL x2 ((9:Int32) * v.1)) &&& (511 : Int64)).toInt32) &&& (7:Int32)), vI (((XT.ushr (((XT.ushrL x2 ((9:Int32) * v.1)) &&& (511 : Int64)).toInt32) (3:Int32)) &&& (7:Int32)) - (4:Int32)), vI (((XT.ushr (((XT.ushrL x2 ((9:Int32) * v.1)) &&& (511 : Int64)).toInt32) (6:Int32)) &&& (7:Int32)) - (4:Int32)), none, none, none, none], [.int ((((XT.ushrL x2 ((9:Int32) * v.1)) &&& (511 : Int64)).toInt32) &&& (7:Int32))], (H0 s v.2))) rfl ?_
  rcases qite h with ⟨hc185, h⟩ | ⟨hc185, h⟩
  ·refine zF Ad W (t := 484) (f := 481) rfl (XT.i0_ne_f hc185) ?_
   refine zS Ad W 1 (st' := (730, [vR 1, none, vL x2, none, vI x4, vI x5, none, vI x7, vI v.1, vI (((XT.ushrL x2 ((9:Int32) * v.1)) &&& (511 : Int64)).toInt32), vI ((((XT.ushrL x2 ((9:Int32) * v.1)) &&& (511 : Int64)).toInt32) &&& (7:Int32)), vI (((XT.ushr (((XT.ushrL x2 ((9:Int32) * v.1)) &&& (511 : Int64)).toInt32) (3:Int32)) &&& (7:Int32)) - (4:Int32)), vI (((XT.ushr (((XT.ushrL x2 ((9:Int32) * v.1)) &&& (511 : Int64)).toInt32) (6:Int32)) &&& (7:Int32)) - (4:Int32)), none, none, none, none], [], (H0 s v.2))) rfl ?_
   exact zM [tt,ff,tt,ff,tt,tt,ff,tt,tt,ff,ff,ff,ff,ff,ff,ff,ff] (tJ3_730 Ad W s v.2 x2 x4 x5 x7 v.1 h hx0 hc)
  ·refine zT Ad W (t := 484) (f := 481) rfl (XT.i0_ne_t hc185) ?_
   refine zS Ad W 4 (st' := (490, [vR 1, none, vL x2, none, vI x4, vI x5, none, vI x7, vI v.1, vI (((XT.ushrL x2 ((9:Int32) * v.1)) &&& (511 : Int64)).toInt32), vI ((((XT.ushrL x2 ((9:Int32) * v.1)) &&& (511 : Int64)).toInt32) &&& (7:Int32)), vI (((XT.ushr (((XT.ushrL x2 ((9:Int32) * v.1)) &&& (511 : Int64)).toInt32) (3:Int32)) &&& (7:Int32)) - (4:Int32)), vI (((XT.ushr (((XT.ushrL x2 ((9:Int32) * v.1)) &&& (511 : Int64)).toInt32) (6:Int32)) &&& (7:Int32)) - (4:Int32)), vI (-1:Int32), vI (-1:Int32), none, none], [], (H0 s v.2))) rfl ?_
   refine zS Ad W 2 (st' := (493, [vR 1, none, vL x2, none, vI x4, vI x5, none, vI x7, vI v.1, vI (((XT.ushrL x2 ((9:Int32) * v.1)) &&& (511 : Int64)).toInt32), vI ((((XT.ushrL x2 ((9:Int32) * v.1)) &&& (511 : Int64)).toInt32) &&& (7:Int32)), vI (((XT.ushr (((XT.ushrL x2 ((9:Int32) * v.1)) &&& (511 : Int64)).toInt32) (3:Int32)) &&& (7:Int32)) - (4:Int32)), vI (((XT.ushr (((XT.ushrL x2 ((9:Int32) * v.1)) &&& (511 : Int64)).toInt32) (6:Int32)) &&& (7:Int32)) - (4:Int32)), vI (-1:Int32), vI (-1:Int32), vI (0:Int32), none], [], (H0 s v.2))) rfl ?_
   obtain ⟨e191, he191, h⟩ := bind_eq_some_iff.mp h
   refine zM [tt,ff,tt,ff,tt,tt,ff,tt,tt,ff,tt,tt,tt,tt,tt,tt,ff] (loopN_tri (B := B3_493 x2 x4 x5 x7 v.1 ((((XT.ushrL x2 ((9:Int32) * v.1)) &&& (511 : Int64)).toInt32) &&& (7:Int32)) (((XT.ushr (((XT.ushrL x2 ((9:Int32) * v.1)) &&& (511 : Int64)).toInt32) (3:Int32)) &&& (7:Int32)) - (4:Int32)) (((XT.ushr (((XT.ushrL x2 ((9:Int32) * v.1)) &&& (511 : Int64)).toInt32) (6:Int32)) &&& (7:Int32)) - (4:Int32)) (-1:Int32)) (T := fun lv192 => QTri l Z n0 ad 3 (493, [vR 1, none, vL x2, none, vI x4, vI x5, none, vI x7, vI v.1, none, vI ((((XT.ushrL x2 ((9:Int32) * v.1)) &&& (511 : Int64)).toInt32) &&& (7:Int32)), vI (((XT.ushr (((XT.ushrL x2 ((9:Int32) * v.1)) &&& (511 : Int64)).toInt32) (3:Int32)) &&& (7:Int32)) - (4:Int32)), vI (((XT.ushr (((XT.ushrL x2 ((9:Int32) * v.1)) &&& (511 : Int64)).toInt32) (6:Int32)) &&& (7:Int32)) - (4:Int32)), vI lv192.1, vI (-1:Int32), vI lv192.2.1, none], [], (H0 s lv192.2.2)) u τ) (KE := fun e191a => QTri l Z n0 ad 3 (521, [vR 1, none, vL x2, none, vI x4, vI x5, none, vI x7, vI v.1, none, vI ((((XT.ushrL x2 ((9:Int32) * v.1)) &&& (511 : Int64)).toInt32) &&& (7:Int32)), none, vI (((XT.ushr (((XT.ushrL x2 ((9:Int32) * v.1)) &&& (511 : Int64)).toInt32) (6:Int32)) &&& (7:Int32)) - (4:Int32)), vI e191a.1, vI (-1:Int32), none, none], [], (H0 s e191a.2)) u τ) (fun lv192 r hB hE hC => tB3_493 Ad W s x2 x4 x5 x7 v.1 ((((XT.ushrL x2 ((9:Int32) * v.1)) &&& (511 : Int64)).toInt32) &&& (7:Int32)) (((XT.ushr (((XT.ushrL x2 ((9:Int32) * v.1)) &&& (511 : Int64)).toInt32) (3:Int32)) &&& (7:Int32)) - (4:Int32)) (((XT.ushr (((XT.ushrL x2 ((9:Int32) * v.1)) &&& (511 : Int64)).toInt32) (6:Int32)) &&& (7:Int32)) - (4:Int32)) (-1:Int32) lv192 hB (fun x q => hE _ q) (fun x q => hC x q)) qN ((-1:Int32), (0:Int32), v.2) e191 he191 ?_)
   refine zS Ad W 2 (st' := (524, [vR 1, none, vL x2, none, vI x4, vI x5, none, vI x7, vI v.1, none, vI ((((XT.ushrL x2 ((9:Int32) * v.1)) &&& (511 : Int64)).toInt32) &&& (7:Int32)), none, vI (((XT.ushr (((XT.ushrL x2 ((9:Int32) * v.1)) &&& (511 : Int64)).toInt32) (6:Int32)) &&& (7:Int32)) - (4:Int32)), vI e191.1, vI (-1:Int32), vI (0:Int32), none], [], (H0 s e191.2))) rfl ?_
   obtain ⟨e198, he198, h⟩ := bind_eq_some_iff.mp h
   refine zM [tt,ff,tt,ff,tt,tt,ff,tt,tt,ff,tt,ff,tt,tt,tt,tt,ff] (loopN_tri (B := B3_524 x2 x4 x5 x7 v.1 ((((XT.ushrL x2 ((9:Int32) * v.1)) &&& (511 : Int64)).toInt32) &&& (7:Int32)) (((XT.ushr (((XT.ushrL x2 ((9:Int32) * v.1)) &&& (511 : Int64)).toInt32) (6:Int32)) &&& (7:Int32)) - (4:Int32)) e191.1) (T := fun lv199 => QTri l Z n0 ad 3 (524, [vR 1, none, vL x2, none, vI x4, vI x5, none, vI x7, vI v.1, none, vI ((((XT.ushrL x2 ((9:Int32) * v.1)) &&& (511 : Int64)).toInt32) &&& (7:Int32)), none, vI (((XT.ushr (((XT.ushrL x2 ((9:Int32) * v.1)) &&& (511 : Int64)).toInt32) (6:Int32)) &&& (7:Int32)) - (4:Int32)), vI e191.1, vI lv199.1, vI lv199.2.1, none], [], (H0 s lv199.2.2)) u τ) (KE := fun e198a => QTri l Z n0 ad 3 (552, [vR 1, none, vL x2, none, vI x4, vI x5, none, vI x7, vI v.1, none, vI ((((XT.ushrL x2 ((9:Int32) * v.1)) &&& (511 : Int64)).toInt32) &&& (7:Int32)), none, none, vI e191.1, vI e198a.1, none, none], [], (H0 s e198a.2)) u τ) (fun lv199 r hB hE hC => tB3_524 Ad W s x2 x4 x5 x7 v.1 ((((XT.ushrL x2 ((9:Int32) * v.1)) &&& (511 : Int64)).toInt32) &&& (7:Int32)) (((XT.ushr (((XT.ushrL x2 ((9:Int32) * v.1)) &&& (511 : Int64)).toInt32) (6:Int32)) &&& (7:Int32)) - (4:Int32)) e191.1 lv199 hB (fun x q => hE _ q) (fun x q => hC x q)) qN ((-1:Int32), (0:Int32), e191.2) e198 he198 ?_)
   refine zS Ad W 2 (st' := (555, [vR 1, none, vL x2, none, vI x4, vI x5, none, vI x7, vI v.1, none, vI ((((XT.ushrL x2 ((9:Int32) * v.1)) &&& (511 : Int64)).toInt32) &&& (7:Int32)), none, none, vI e191.1, vI e198.1, none, none], [.int (1:Int32), .int ((((XT.ushrL x2 ((9:Int32) * v.1)) &&& (511 : Int64)).toInt32) &&& (7:Int32))], (H0 s e198.2))) rfl ?_
   rcases qite h with ⟨hc200, h⟩ | ⟨hc200, h⟩
   ·refine zF Ad W (t := 608) (f := 558) rfl (XT.ii_ne_f hc200) ?_
    refine zS Ad W 1 (st' := (560, [vR 1, none, vL x2, none, vI x4, vI x5, none, vI x7, vI v.1, none, vI ((((XT.ushrL x2 ((9:Int32) * v.1)) &&& (511 : Int64)).toInt32) &&& (7:Int32)), none, none, vI e191.1, vI e198.1, none, none], [.int e191.1], (H0 s e198.2))) rfl ?_
    rcases qite h with ⟨hc201, h⟩ | ⟨hc201, h⟩
    ·refine zT Ad W (t := 583) (f := 563) rfl (XT.i0_lt_t hc201) ?_
     exact zM [tt,ff,tt,ff,tt,tt,ff,tt,tt,ff,ff,ff,ff,tt,tt,ff,ff] (tJ3_583 Ad W s e198.2 x2 x4 x5 x7 v.1 e191.1 e198.1 h hx0 hc)
    ·refine zF Ad W (t := 583) (f := 563) rfl (XT.i0_lt_f hc201) ?_
     refine zS Ad W 1 (st' := (565, [vR 1, none, vL x2, none, vI x4, vI x5, none, vI x7, vI v.1, none, vI ((((XT.ushrL x2 ((9:Int32) * v.1)) &&& (511 : Int64)).toInt32) &&& (7:Int32)), none, none, vI e191.1, vI e198.1, none, none], [.int e198.1], (H0 s e198.2))) rfl ?_
     rcases qite h with ⟨hc231, h⟩ | ⟨hc231, h⟩
     ·refine zT Ad W (t := 583) (f := 568) rfl (XT.i0_lt_t hc231) ?_
      exact zM [tt,ff,tt,ff,tt,tt,ff,tt,tt,ff,ff,ff,ff,tt,tt,ff,ff] (tJ3_583 Ad W s e198.2 x2 x4 x5 x7 v.1 e191.1 e198.1 h hx0 hc)
     ·refine zF Ad W (t := 583) (f := 568) rfl (XT.i0_lt_f hc231) ?_
      refine zS Ad W 3 (st' := (573, [vR 1, none, vL x2, none, vI x4, vI x5, none, vI x7, vI v.1, none, vI ((((XT.ushrL x2 ((9:Int32) * v.1)) &&& (511 : Int64)).toInt32) &&& (7:Int32)), none, none, vI e191.1, vI e198.1, none, none], [.int e198.1, .int e191.1, .ref 1], (H0 s e198.2))) rfl ?_
      obtain ⟨r232, hr232, h⟩ := bind_eq_some_iff.mp h
      refine QTri.callV W (a := 1) (as := [.int e191.1, .int e198.1]) (rest := []) (w := (some (.int r232.1))) (σ₁ := (H0 s r232.2)) rfl rfl rfl rfl rfl rfl rfl rfl (tF7 Ad W s e198.2 e191.1 e198.1 hr232) ?_
      have K234 : ∀ z233 : Int32, z233 = (if (0:Int32) < r232.1 then (1:Int32) else (0:Int32)) → QTri l Z n0 ad 3 (584, [vR 1, none, vL x2, none, vI x4, vI x5, none, vI x7, vI v.1, none, none, none, none, vI e191.1, vI e198.1, none, none], [.int z233], (H0 s r232.2)) u τ := by
       intro z233 ez233
       subst ez233
       refine zS Ad W 2 (st' := (588, [vR 1, none, vL x2, none, vI x4, vI x5, none, vI x7, vI v.1, none, none, none, none, vI e191.1, vI e198.1, vI (if (0:Int32) < r232.1 then (1:Int32) else (0:Int32)), none], [.int (if (0:Int32) < r232.1 then (1:Int32) else (0:Int32))], (H0 s r232.2))) rfl ?_
       rcases qite h with ⟨hc236, h⟩ | ⟨hc236, h⟩
       ·refine zT Ad W (t := 602) (f := 591) rfl (XT.i0_eq_t hc236) ?_
        refine zS Ad W 1 (st' := (603, [vR 1, none, vL x2, none, vI x4, vI x5, none, vI x7, vI v.1, none, none, none, none, vI e191.1, vI e198.1, vI (if (0:Int32) < r232.1 then (1:Int32) else (0:Int32)), none], [.int (0:Int32)], (H0 s r232.2))) rfl ?_
        exact zM [tt,ff,tt,ff,tt,tt,ff,tt,tt,ff,ff,ff,ff,ff,ff,tt,ff] (tJ3_603 Ad W s r232.2 x2 x4 x5 x7 v.1 (if (0:Int32) < r232.1 then (1:Int32) else (0:Int32)) (0:Int32) h hx0 hc)
       ·refine zF Ad W (t := 602) (f := 591) rfl (XT.i0_eq_f hc236) ?_
        refine zS Ad W 3 (st' := (596, [vR 1, none, vL x2, none, vI x4, vI x5, none, vI x7, vI v.1, none, none, none, none, vI e191.1, vI e198.1, vI (if (0:Int32) < r232.1 then (1:Int32) else (0:Int32)), none], [.int e198.1, .int e191.1, .ref 1], (H0 s r232.2))) rfl ?_
        obtain ⟨r237, hr237, h⟩ := bind_eq_some_iff.mp h
        refine QTri.callV W (a := 1) (as := [.int e191.1, .int e198.1]) (rest := []) (w := (some (.int r237.1))) (σ₁ := (H0 s r237.2)) rfl rfl rfl rfl rfl rfl rfl rfl (tF11 Ad W s r232.2 e191.1 e198.1 hr237) ?_
        refine zS Ad W 1 (st' := (603, [vR 1, none, vL x2, none, vI x4, vI x5, none, vI x7, vI v.1, none, none, none, none, vI e191.1, vI e198.1, vI (if (0:Int32) < r232.1 then (1:Int32) else (0:Int32)), none], [.int r237.1], (H0 s r237.2))) rfl ?_
        exact zM [tt,ff,tt,ff,tt,tt,ff,tt,tt,ff,ff,ff,ff,ff,ff,tt,ff] (tJ3_603 Ad W s r237.2 x2 x4 x5 x7 v.1 (if (0:Int32) < r232.1 then (1:Int32) else (0:Int32)) r237.1 h hx0 hc)
      rcases em ((0:Int32) < r232.1) with hc235 | hc235
      ·refine zF Ad W (t := 583) (f := 579) rfl (XT.i0_le_f hc235) ?_
       refine zS Ad W 2 (st' := (584, [vR 1, none, vL x2, none, vI x4, vI x5, none, vI x7, vI v.1, none, vI ((((XT.ushrL x2 ((9:Int32) * v.1)) &&& (511 : Int64)).toInt32) &&& (7:Int32)), none, none, vI e191.1, vI e198.1, none, none], [.int (1:Int32)], (H0 s r232.2))) rfl ?_
       exact zM [tt,ff,tt,ff,tt,tt,ff,tt,tt,ff,ff,ff,ff,tt,tt,ff,ff] (K234 _ (if_pos hc235).symm)
      ·refine zT Ad W (t := 583) (f := 579) rfl (XT.i0_le_t hc235) ?_
       refine zS Ad W 1 (st' := (584, [vR 1, none, vL x2, none, vI x4, vI x5, none, vI x7, vI v.1, none, vI ((((XT.ushrL x2 ((9:Int32) * v.1)) &&& (511 : Int64)).toInt32) &&& (7:Int32)), none, none, vI e191.1, vI e198.1, none, none], [.int (0:Int32)], (H0 s r232.2))) rfl ?_
       exact zM [tt,ff,tt,ff,tt,tt,ff,tt,tt,ff,ff,ff,ff,tt,tt,ff,ff] (K234 _ (if_neg hc235).symm)
   ·refine zT Ad W (t := 608) (f := 558) rfl (XT.ii_ne_t hc200) ?_
    refine zS Ad W 2 (st' := (611, [vR 1, none, vL x2, none, vI x4, vI x5, none, vI x7, vI v.1, none, vI ((((XT.ushrL x2 ((9:Int32) * v.1)) &&& (511 : Int64)).toInt32) &&& (7:Int32)), none, none, vI e191.1, vI e198.1, none, none], [.int (2:Int32), .int ((((XT.ushrL x2 ((9:Int32) * v.1)) &&& (511 : Int64)).toInt32) &&& (7:Int32))], (H0 s e198.2))) rfl ?_
    rcases qite h with ⟨hc238, h⟩ | ⟨hc238, h⟩
    ·refine zF Ad W (t := 647) (f := 614) rfl (XT.ii_ne_f hc238) ?_
     refine zS Ad W 1 (st' := (616, [vR 1, none, vL x2, none, vI x4, vI x5, none, vI x7, vI v.1, none, vI ((((XT.ushrL x2 ((9:Int32) * v.1)) &&& (511 : Int64)).toInt32) &&& (7:Int32)), none, none, vI e191.1, vI e198.1, none, none], [.int e191.1], (H0 s e198.2))) rfl ?_
     have K240 : ∀ z239 : Int32, z239 = (if e191.1 < (0:Int32) then (0:Int32) else (1:Int32)) → QTri l Z n0 ad 3 (624, [vR 1, none, vL x2, none, vI x4, vI x5, none, vI x7, vI v.1, none, none, none, none, vI e191.1, none, none, none], [.int z239], (H0 s e198.2)) u τ := by
      intro z239 ez239
      subst ez239
      refine zS Ad W 2 (st' := (628, [vR 1, none, vL x2, none, vI x4, vI x5, none, vI x7, vI v.1, none, none, none, none, vI e191.1, none, vI (if e191.1 < (0:Int32) then (0:Int32) else (1:Int32)), none], [.int (if e191.1 < (0:Int32) then (0:Int32) else (1:Int32))], (H0 s e198.2))) rfl ?_
      rcases qite h with ⟨hc242, h⟩ | ⟨hc242, h⟩
      ·refine zT Ad W (t := 641) (f := 631) rfl (XT.i0_eq_t hc242) ?_
       refine zS Ad W 1 (st' := (642, [vR 1, none, vL x2, none, vI x4, vI x5, none, vI x7, vI v.1, none, none, none, none, vI e191.1, none, vI (if e191.1 < (0:Int32) then (0:Int32) else (1:Int32)), none], [.int (0:Int32)], (H0 s e198.2))) rfl ?_
       exact zM [tt,ff,tt,ff,tt,tt,ff,tt,tt,ff,ff,ff,ff,ff,ff,tt,ff] (tJ3_642 Ad W s e198.2 x2 x4 x5 x7 v.1 (if e191.1 < (0:Int32) then (0:Int32) else (1:Int32)) (0:Int32) h hx0 hc)
      ·refine zF Ad W (t := 641) (f := 631) rfl (XT.i0_eq_f hc242) ?_
       refine zS Ad W 3 (st' := (635, [vR 1, none, vL x2, none, vI x4, vI x5, none, vI x7, vI v.1, none, none, none, none, vI e191.1, none, vI (if e191.1 < (0:Int32) then (0:Int32) else (1:Int32)), none], [.int (-1:Int32), .int e191.1, .ref 1], (H0 s e198.2))) rfl ?_
       obtain ⟨r243, hr243, h⟩ := bind_eq_some_iff.mp h
       refine QTri.callV W (a := 1) (as := [.int e191.1, .int (-1:Int32)]) (rest := []) (w := (some (.int r243.1))) (σ₁ := (H0 s r243.2)) rfl rfl rfl rfl rfl rfl rfl rfl (tF11 Ad W s e198.2 e191.1 (-1:Int32) hr243) ?_
       refine zS Ad W 1 (st' := (642, [vR 1, none, vL x2, none, vI x4, vI x5, none, vI x7, vI v.1, none, none, none, none, vI e191.1, none, vI (if e191.1 < (0:Int32) then (0:Int32) else (1:Int32)), none], [.int r243.1], (H0 s r243.2))) rfl ?_
       exact zM [tt,ff,tt,ff,tt,tt,ff,tt,tt,ff,ff,ff,ff,ff,ff,tt,ff] (tJ3_642 Ad W s r243.2 x2 x4 x5 x7 v.1 (if e191.1 < (0:Int32) then (0:Int32) else (1:Int32)) r243.1 h hx0 hc)
     rcases em (e191.1 < (0:Int32)) with hc241 | hc241
     ·refine zT Ad W (t := 623) (f := 619) rfl (XT.i0_lt_t hc241) ?_
      refine zS Ad W 1 (st' := (624, [vR 1, none, vL x2, none, vI x4, vI x5, none, vI x7, vI v.1, none, vI ((((XT.ushrL x2 ((9:Int32) * v.1)) &&& (511 : Int64)).toInt32) &&& (7:Int32)), none, none, vI e191.1, vI e198.1, none, none], [.int (0:Int32)], (H0 s e198.2))) rfl ?_
      exact zM [tt,ff,tt,ff,tt,tt,ff,tt,tt,ff,ff,ff,ff,tt,ff,ff,ff] (K240 _ (if_pos hc241).symm)
     ·refine zF Ad W (t := 623) (f := 619) rfl (XT.i0_lt_f hc241) ?_
      refine zS Ad W 2 (st' := (624, [vR 1, none, vL x2, none, vI x4, vI x5, none, vI x7, vI v.1, none, vI ((((XT.ushrL x2 ((9:Int32) * v.1)) &&& (511 : Int64)).toInt32) &&& (7:Int32)), none, none, vI e191.1, vI e198.1, none, none], [.int (1:Int32)], (H0 s e198.2))) rfl ?_
      exact zM [tt,ff,tt,ff,tt,tt,ff,tt,tt,ff,ff,ff,ff,tt,ff,ff,ff] (K240 _ (if_neg hc241).symm)
    ·refine zT Ad W (t := 647) (f := 614) rfl (XT.ii_ne_t hc238) ?_
     refine zS Ad W 2 (st' := (650, [vR 1, none, vL x2, none, vI x4, vI x5, none, vI x7, vI v.1, none, vI ((((XT.ushrL x2 ((9:Int32) * v.1)) &&& (511 : Int64)).toInt32) &&& (7:Int32)), none, none, vI e191.1, vI e198.1, none, none], [.int (3:Int32), .int ((((XT.ushrL x2 ((9:Int32) * v.1)) &&& (511 : Int64)).toInt32) &&& (7:Int32))], (H0 s e198.2))) rfl ?_
     rcases qite h with ⟨hc244, h⟩ | ⟨hc244, h⟩
     ·refine zF Ad W (t := 686) (f := 653) rfl (XT.ii_ne_f hc244) ?_
      refine zS Ad W 1 (st' := (655, [vR 1, none, vL x2, none, vI x4, vI x5, none, vI x7, vI v.1, none, vI ((((XT.ushrL x2 ((9:Int32) * v.1)) &&& (511 : Int64)).toInt32) &&& (7:Int32)), none, none, vI e191.1, vI e198.1, none, none], [.int e198.1], (H0 s e198.2))) rfl ?_
      have K246 : ∀ z245 : Int32, z245 = (if e198.1 < (0:Int32) then (0:Int32) else (1:Int32)) → QTri l Z n0 ad 3 (663, [vR 1, none, vL x2, none, vI x4, vI x5, none, vI x7, vI v.1, none, none, none, none, none, vI e198.1, none, none], [.int z245], (H0 s e198.2)) u τ := by
       intro z245 ez245
       subst ez245
       refine zS Ad W 2 (st' := (667, [vR 1, none, vL x2, none, vI x4, vI x5, none, vI x7, vI v.1, none, none, none, none, none, vI e198.1, vI (if e198.1 < (0:Int32) then (0:Int32) else (1:Int32)), none], [.int (if e198.1 < (0:Int32) then (0:Int32) else (1:Int32))], (H0 s e198.2))) rfl ?_
       rcases qite h with ⟨hc248, h⟩ | ⟨hc248, h⟩
       ·refine zT Ad W (t := 680) (f := 670) rfl (XT.i0_eq_t hc248) ?_
        refine zS Ad W 1 (st' := (681, [vR 1, none, vL x2, none, vI x4, vI x5, none, vI x7, vI v.1, none, none, none, none, none, vI e198.1, vI (if e198.1 < (0:Int32) then (0:Int32) else (1:Int32)), none], [.int (0:Int32)], (H0 s e198.2))) rfl ?_
        exact zM [tt,ff,tt,ff,tt,tt,ff,tt,tt,ff,ff,ff,ff,ff,ff,tt,ff] (tJ3_681 Ad W s e198.2 x2 x4 x5 x7 v.1 (if e198.1 < (0:Int32) then (0:Int32) else (1:Int32)) (0:Int32) h hx0 hc)
       ·refine zF Ad W (t := 680) (f := 670) rfl (XT.i0_eq_f hc248) ?_
        refine zS Ad W 3 (st' := (674, [vR 1, none, vL x2, none, vI x4, vI x5, none, vI x7, vI v.1, none, none, none, none, none, vI e198.1, vI (if e198.1 < (0:Int32) then (0:Int32) else (1:Int32)), none], [.int e198.1, .int (-1:Int32), .ref 1], (H0 s e198.2))) rfl ?_
        obtain ⟨r249, hr249, h⟩ := bind_eq_some_iff.mp h
        refine QTri.callV W (a := 1) (as := [.int (-1:Int32), .int e198.1]) (rest := []) (w := (some (.int r249.1))) (σ₁ := (H0 s r249.2)) rfl rfl rfl rfl rfl rfl rfl rfl (tF11 Ad W s e198.2 (-1:Int32) e198.1 hr249) ?_
        refine zS Ad W 1 (st' := (681, [vR 1, none, vL x2, none, vI x4, vI x5, none, vI x7, vI v.1, none, none, none, none, none, vI e198.1, vI (if e198.1 < (0:Int32) then (0:Int32) else (1:Int32)), none], [.int r249.1], (H0 s r249.2))) rfl ?_
        exact zM [tt,ff,tt,ff,tt,tt,ff,tt,tt,ff,ff,ff,ff,ff,ff,tt,ff] (tJ3_681 Ad W s r249.2 x2 x4 x5 x7 v.1 (if e198.1 < (0:Int32) then (0:Int32) else (1:Int32)) r249.1 h hx0 hc)
      rcases em (e198.1 < (0:Int32)) with hc247 | hc247
      ·refine zT Ad W (t := 662) (f := 658) rfl (XT.i0_lt_t hc247) ?_
       refine zS Ad W 1 (st' := (663, [vR 1, none, vL x2, none, vI x4, vI x5, none, vI x7, vI v.1, none, vI ((((XT.ushrL x2 ((9:Int32) * v.1)) &&& (511 : Int64)).toInt32) &&& (7:Int32)), none, none, vI e191.1, vI e198.1, none, none], [.int (0:Int32)], (H0 s e198.2))) rfl ?_
       exact zM [tt,ff,tt,ff,tt,tt,ff,tt,tt,ff,ff,ff,ff,ff,tt,ff,ff] (K246 _ (if_pos hc247).symm)
      ·refine zF Ad W (t := 662) (f := 658) rfl (XT.i0_lt_f hc247) ?_
       refine zS Ad W 2 (st' := (663, [vR 1, none, vL x2, none, vI x4, vI x5, none, vI x7, vI v.1, none, vI ((((XT.ushrL x2 ((9:Int32) * v.1)) &&& (511 : Int64)).toInt32) &&& (7:Int32)), none, none, vI e191.1, vI e198.1, none, none], [.int (1:Int32)], (H0 s e198.2))) rfl ?_
       exact zM [tt,ff,tt,ff,tt,tt,ff,tt,tt,ff,ff,ff,ff,ff,tt,ff,ff] (K246 _ (if_neg hc247).symm)
     ·refine zT Ad W (t := 686) (f := 653) rfl (XT.ii_ne_t hc244) ?_
      refine zS Ad W 1 (st' := (688, [vR 1, none, vL x2, none, vI x4, vI x5, none, vI x7, vI v.1, none, vI ((((XT.ushrL x2 ((9:Int32) * v.1)) &&& (511 : Int64)).toInt32) &&& (7:Int32)), none, none, vI e191.1, vI e198.1, none, none], [.int x7], (H0 s e198.2))) rfl ?_
      have K251 : ∀ z250 : Int32, z250 = (if (0:Int32) < x7 then (1:Int32) else (0:Int32)) → QTri l Z n0 ad 3 (696, [vR 1, none, vL x2, none, vI x4, vI x5, none, vI x7, vI v.1, none, none, none, none, none, none, none, none], [.int z250], (H0 s e198.2)) u τ := by
       intro z250 ez250
       subst ez250
       refine zS Ad W 4 (st' := (701, [vR 1, none, vL x2, none, vI x4, vI x5, none, vI x7, vI v.1, none, none, none, none, none, none, vI (if (0:Int32) < x7 then (1:Int32) else (0:Int32)), none], [.int (-1:Int32), .int (-1:Int32), .ref 1], (H0 s e198.2))) rfl ?_
       obtain ⟨r253, hr253, h⟩ := bind_eq_some_iff.mp h
       refine QTri.callV W (a := 1) (as := [.int (-1:Int32), .int (-1:Int32)]) (rest := []) (w := (some (.int r253.1))) (σ₁ := (H0 s r253.2)) rfl rfl rfl rfl rfl rfl rfl rfl (tF11 Ad W s e198.2 (-1:Int32) (-1:Int32) hr253) ?_
       refine zS Ad W 1 (st' := (706, [vR 1, none, vL x2, none, vI x4, vI x5, none, vI x7, vI v.1, none, none, none, none, none, none, vI (if (0:Int32) < x7 then (1:Int32) else (0:Int32)), vI r253.1], [], (H0 s r253.2))) rfl ?_
       exact zM [tt,ff,tt,ff,tt,tt,ff,tt,tt,ff,ff,ff,ff,ff,ff,tt,tt] (tJ3_706 Ad W s r253.2 x2 x4 x5 x7 v.1 (if (0:Int32) < x7 then (1:Int32) else (0:Int32)) r253.1 h hx0 hc)
      rcases em ((0:Int32) < x7) with hc252 | hc252
      ·refine zF Ad W (t := 695) (f := 691) rfl (XT.i0_le_f hc252) ?_
       refine zS Ad W 2 (st' := (696, [vR 1, none, vL x2, none, vI x4, vI x5, none, vI x7, vI v.1, none, vI ((((XT.ushrL x2 ((9:Int32) * v.1)) &&& (511 : Int64)).toInt32) &&& (7:Int32)), none, none, vI e191.1, vI e198.1, none, none], [.int (1:Int32)], (H0 s e198.2))) rfl ?_
       exact zM [tt,ff,tt,ff,tt,tt,ff,tt,tt,ff,ff,ff,ff,ff,ff,ff,ff] (K251 _ (if_pos hc252).symm)
      ·refine zT Ad W (t := 695) (f := 691) rfl (XT.i0_le_t hc252) ?_
       refine zS Ad W 1 (st' := (696, [vR 1, none, vL x2, none, vI x4, vI x5, none, vI x7, vI v.1, none, vI ((((XT.ushrL x2 ((9:Int32) * v.1)) &&& (511 : Int64)).toInt32) &&& (7:Int32)), none, none, vI e191.1, vI e198.1, none, none], [.int (0:Int32)], (H0 s e198.2))) rfl ?_
       exact zM [tt,ff,tt,ff,tt,tt,ff,tt,tt,ff,ff,ff,ff,ff,ff,ff,ff] (K251 _ (if_neg hc252).symm)
 ·refine zT Ad W (t := 736) (f := 432) rfl (XT.ii_ge_t hc184) ?_
  refine zS Ad W 1 (st' := (737, [vR 1, none, vL x2, none, vI x4, vI x5, none, vI x7, vI v.1, none, none, none, none, none, none, none, none], [.int (1:Int32)], (H0 s v.2))) rfl ?_
  obtain rfl := Option.some.inj h
  obtain ⟨rfl, rfl⟩ := hx0 ((1:Int32), v.2) rfl
  exact QTri.retZ rfl rfl
/-- check(LPivotSheet;IJ)Z -/
def F3 (o : Ob) (x1 : Int32) (x2 : Int64) : Option (Int32 × Ob) :=
 (F4 o).bind fun r44 => (F6 r44.2).bind fun r46 => ((loopN (B3_15 x1 x2 r44.1 r46.1) qN ((1:Int32), r46.2)).bind fun e55 => match e55 with | .inl e55a => ((loopN (B3_50 x1 x2 r44.1 r46.1) qN ((1:Int32), e55a)).bind fun e65 => match e65 with | .inl e65a => ((loopN (B3_85 x1 x2 r44.1 r46.1) qN ((-1:Int32), e65a)).bind fun e147 => match e147 with | .inl e147a => ((loopN (B3_231 x1 x2 r44.1 r46.1) qN ((-1:Int32), e147a)).bind fun e168 => match e168 with | .inl e168a => (loopN (B3_380 e168a x2 r44.1 r46.1) qN ((0:Int32), (0:Int32))).bind fun e180 => (F7 e168a (-1:Int32) (-1:Int32)).bind fun r182 => (if r182.1 = e180 then (loopN (B3_425 x2 r44.1 r46.1 r182.1) qN ((0:Int32), r182.2)).bind fun e254 => some e254 else some ((0:Int32), r182.2)) | .inr e168a => some e168a) | .inr e147a => some e147a) | .inr e65a => some e65a) | .inr e55a => some e55a)
theorem tF3 (Ad : QAd n0 ad) (W : QW Z a0) (s : List Int32) (o : Ob) (x1 : Int32) (x2 : Int64) {r : Int32 × Ob} (h : F3 o x1 x2 = some r) : QTri l Z n0 ad 3 (0, qentry [.ref 1, .int x1, .long x2] (pMaxL 3), [], (H0 s o)) (some (Value.int r.1)) (H0 s r.2) := by
 unfold F3 at h
 refine zS Ad W 1 (st' := (1, [vR 1, vI x1, vL x2, none, none, none, none, none, none, none, none, none, none, none, none, none, none], [.ref 1], (H0 s o))) rfl ?_
 obtain ⟨r44, hr44, h⟩ := bind_eq_some_iff.mp h
 refine QTri.callV W (a := 1) (as := []) (rest := []) (w := (some (.int r44.1))) (σ₁ := (H0 s r44.2)) rfl rfl rfl rfl rfl rfl rfl rfl (tF4 Ad W s o hr44) ?_
 refine zS Ad W 2 (st' := (7, [vR 1, vI x1, vL x2, none, vI r44.1, none, none, none, none, none, none, none, none, none, none, none, none], [.ref 1], (H0 s r44.2))) rfl ?_
 obtain ⟨r46, hr46, h⟩ := bind_eq_some_iff.mp h
 refine QTri.callV W (a := 1) (as := []) (rest := []) (w := (some (.int r46.1))) (σ₁ := (H0 s r46.2)) rfl rfl rfl rfl rfl rfl rfl rfl (tF6 Ad W s r44.2 hr46) ?_
 refine zS Ad W 3 (st' := (15, [vR 1, vI x1, vL x2, none, vI r44.1, vI r46.1, vI (1:Int32), none, none, none, none, none, none, none, none, none, none], [], (H0 s r46.2))) rfl ?_
 obtain ⟨e55, he55, h⟩ := bind_eq_some_iff.mp h
 refine zM [tt,tt,tt,ff,tt,tt,tt,ff,ff,ff,ff,ff,ff,ff,ff,ff,ff] (loopN_tri (B := B3_15 x1 x2 r44.1 r46.1) (T := fun lv56 => QTri l Z n0 ad 3 (15, [vR 1, vI x1, vL x2, none, vI r44.1, vI r46.1, vI lv56.1, none, none, none, none, none, none, none, none, none, none], [], (H0 s lv56.2)) (some (Value.int r.1)) (H0 s r.2)) (KE := fun e => match e with | .inl e55a => QTri l Z n0 ad 3 (47, [vR 1, vI x1, vL x2, none, vI r44.1, vI r46.1, none, none, none, none, none, none, none, none, none, none, none], [], (H0 s e55a)) (some (Value.int r.1)) (H0 s r.2) | .inr e55a => (some (Value.int r.1)) = (some (Value.int e55a.1)) ∧ (H0 s r.2) = (H0 s e55a.2)) (fun lv56 r hB hE hC => tB3_15 Ad W s x1 x2 r44.1 r46.1 lv56 hB (fun x q => hE _ q) (fun x q => hE _ q) (fun x q => hC x q)) qN ((1:Int32), r46.2) e55 he55 ?_)
 rcases e55 with e55a | e55a
 ·refine zS Ad W 2 (st' := (50, [vR 1, vI x1, vL x2, none, vI r44.1, vI r46.1, vI (1:Int32), none, none, none, none, none, none, none, none, none, none], [], (H0 s e55a))) rfl ?_
  obtain ⟨e65, he65, h⟩ := bind_eq_some_iff.mp h
  refine zM [tt,tt,tt,ff,tt,tt,tt,ff,ff,ff,ff,ff,ff,ff,ff,ff,ff] (loopN_tri (B := B3_50 x1 x2 r44.1 r46.1) (T := fun lv66 => QTri l Z n0 ad 3 (50, [vR 1, vI x1, vL x2, none, vI r44.1, vI r46.1, vI lv66.1, none, none, none, none, none, none, none, none, none, none], [], (H0 s lv66.2)) (some (Value.int r.1)) (H0 s r.2)) (KE := fun e => match e with | .inl e65a => QTri l Z n0 ad 3 (82, [vR 1, vI x1, vL x2, none, vI r44.1, vI r46.1, none, none, none, none, none, none, none, none, none, none, none], [], (H0 s e65a)) (some (Value.int r.1)) (H0 s r.2) | .inr e65a => (some (Value.int r.1)) = (some (Value.int e65a.1)) ∧ (H0 s r.2) = (H0 s e65a.2)) (fun lv66 r hB hE hC => tB3_50 Ad W s x1 x2 r44.1 r46.1 lv66 hB (fun x q => hE _ q) (fun x q => hE _ q) (fun x q => hC x q)) qN ((1:Int32), e55a) e65 he65 ?_)
  rcases e65 with e65a | e65a
  ·refine zS Ad W 2 (st' := (85, [vR 1, vI x1, vL x2, none, vI r44.1, vI r46.1, vI (-1:Int32), none, none, none, none, none, none, none, none, none, none], [], (H0 s e65a))) rfl ?_
   obtain ⟨e147, he147, h⟩ := bind_eq_some_iff.mp h
   refine zM [tt,tt,tt,ff,tt,tt,tt,ff,ff,ff,ff,ff,ff,ff,ff,ff,ff] (loopN_tri (B := B3_85 x1 x2 r44.1 r46.1) (T := fun lv148 => QTri l Z n0 ad 3 (85, [vR 1, vI x1, vL x2, none, vI r44.1, vI r46.1, vI lv148.1, none, none, none, none, none, none, none, none, none, none], [], (H0 s lv148.2)) (some (Value.int r.1)) (H0 s r.2)) (KE := fun e => match e with | .inl e147a => QTri l Z n0 ad 3 (228, [vR 1, vI x1, vL x2, none, vI r44.1, vI r46.1, none, none, none, none, none, none, none, none, none, none, none], [], (H0 s e147a)) (some (Value.int r.1)) (H0 s r.2) | .inr e147a => (some (Value.int r.1)) = (some (Value.int e147a.1)) ∧ (H0 s r.2) = (H0 s e147a.2)) (fun lv148 r hB hE hC => tB3_85 Ad W s x1 x2 r44.1 r46.1 lv148 hB (fun x q => hE _ q) (fun x q => hE _ q) (fun x q => hC x q)) qN ((-1:Int32), e65a) e147 he147 ?_)
   rcases e147 with e147a | e147a
   ·refine zS Ad W 2 (st' := (231, [vR 1, vI x1, vL x2, none, vI r44.1, vI r46.1, vI (-1:Int32), none, none, none, none, none, none, none, none, none, none], [], (H0 s e147a))) rfl ?_
    obtain ⟨e168, he168, h⟩ := bind_eq_some_iff.mp h
    refine zM [tt,tt,tt,ff,tt,tt,tt,ff,ff,ff,ff,ff,ff,ff,ff,ff,ff] (loopN_tri (B := B3_231 x1 x2 r44.1 r46.1) (T := fun lv169 => QTri l Z n0 ad 3 (231, [vR 1, vI x1, vL x2, none, vI r44.1, vI r46.1, vI lv169.1, none, none, none, none, none, none, none, none, none, none], [], (H0 s lv169.2)) (some (Value.int r.1)) (H0 s r.2)) (KE := fun e => match e with | .inl e168a => QTri l Z n0 ad 3 (374, [vR 1, none, vL x2, none, vI r44.1, vI r46.1, none, none, none, none, none, none, none, none, none, none, none], [], (H0 s e168a)) (some (Value.int r.1)) (H0 s r.2) | .inr e168a => (some (Value.int r.1)) = (some (Value.int e168a.1)) ∧ (H0 s r.2) = (H0 s e168a.2)) (fun lv169 r hB hE hC => tB3_231 Ad W s x1 x2 r44.1 r46.1 lv169 hB (fun x q => hE _ q) (fun x q => hE _ q) (fun x q => hC x q)) qN ((-1:Int32), e147a) e168 he168 ?_)
    rcases e168 with e168a | e168a
    ·refine zS Ad W 4 (st' := (380, [vR 1, none, vL x2, none, vI r44.1, vI r46.1, vI (0:Int32), vI (0:Int32), none, none, none, none, none, none, none, none, none], [], (H0 s e168a))) rfl ?_
     obtain ⟨e180, he180, h⟩ := bind_eq_some_iff.mp h
     refine zM [tt,ff,tt,ff,tt,tt,tt,tt,ff,ff,ff,ff,ff,ff,ff,ff,ff] (loopN_tri (B := B3_380 e168a x2 r44.1 r46.1) (T := fun lv181 => QTri l Z n0 ad 3 (380, [vR 1, none, vL x2, none, vI r44.1, vI r46.1, vI lv181.1, vI lv181.2, none, none, none, none, none, none, none, none, none], [], (H0 s e168a)) (some (Value.int r.1)) (H0 s r.2)) (KE := fun e180a => QTri l Z n0 ad 3 (405, [vR 1, none, vL x2, none, vI r44.1, vI r46.1, vI e180a, none, none, none, none, none, none, none, none, none, none], [], (H0 s e168a)) (some (Value.int r.1)) (H0 s r.2)) (fun lv181 r hB hE hC => tB3_380 Ad W s e168a x2 r44.1 r46.1 lv181 hB (fun x q => hE _ q) (fun x q => hC x q)) qN ((0:Int32), (0:Int32)) e180 he180 ?_)
     refine zS Ad W 3 (st' := (408, [vR 1, none, vL x2, none, vI r44.1, vI r46.1, vI e180, none, none, none, none, none, none, none, none, none, none], [.int (-1:Int32), .int (-1:Int32), .ref 1], (H0 s e168a))) rfl ?_
     obtain ⟨r182, hr182, h⟩ := bind_eq_some_iff.mp h
     refine QTri.callV W (a := 1) (as := [.int (-1:Int32), .int (-1:Int32)]) (rest := []) (w := (some (.int r182.1))) (σ₁ := (H0 s r182.2)) rfl rfl rfl rfl rfl rfl rfl rfl (tF7 Ad W s e168a (-1:Int32) (-1:Int32) hr182) ?_
     refine zS Ad W 3 (st' := (417, [vR 1, none, vL x2, none, vI r44.1, vI r46.1, vI e180, vI r182.1, none, none, none, none, none, none, none, none, none], [.int e180, .int r182.1], (H0 s r182.2))) rfl ?_
     rcases qite h with ⟨hc183, h⟩ | ⟨hc183, h⟩
     ·refine zT Ad W (t := 422) (f := 420) rfl (XT.ii_eq_t hc183) ?_
      refine zS Ad W 2 (st' := (425, [vR 1, none, vL x2, none, vI r44.1, vI r46.1, vI e180, vI r182.1, vI (0:Int32), none, none, none, none, none, none, none, none], [], (H0 s r182.2))) rfl ?_
      obtain ⟨e254, he254, h⟩ := bind_eq_some_iff.mp h
      refine zM [tt,ff,tt,ff,tt,tt,ff,tt,tt,ff,ff,ff,ff,ff,ff,ff,ff] (loopN_tri (B := B3_425 x2 r44.1 r46.1 r182.1) (T := fun lv255 => QTri l Z n0 ad 3 (425, [vR 1, none, vL x2, none, vI r44.1, vI r46.1, none, vI r182.1, vI lv255.1, none, none, none, none, none, none, none, none], [], (H0 s lv255.2)) (some (Value.int r.1)) (H0 s r.2)) (KE := fun e254a => (some (Value.int r.1)) = (some (Value.int e254a.1)) ∧ (H0 s r.2) = (H0 s e254a.2)) (fun lv255 r hB hE hC => tB3_425 Ad W s x2 r44.1 r46.1 r182.1 lv255 hB (fun x q => hE _ q) (fun x q => hC x q)) qN ((0:Int32), r182.2) e254 he254 ?_)
      obtain rfl := Option.some.inj h
      exact ⟨rfl, rfl⟩
     ·refine zF Ad W (t := 422) (f := 420) rfl (XT.ii_eq_f hc183) ?_
      refine zS Ad W 1 (st' := (421, [vR 1, none, vL x2, none, vI r44.1, vI r46.1, vI e180, vI r182.1, none, none, none, none, none, none, none, none, none], [.int (0:Int32)], (H0 s r182.2))) rfl ?_
      obtain rfl := Option.some.inj h
      exact QTri.retZ rfl rfl
    ·obtain rfl := Option.some.inj h
     exact ⟨rfl, rfl⟩
   ·obtain rfl := Option.some.inj h
    exact ⟨rfl, rfl⟩
  ·obtain rfl := Option.some.inj h
   exact ⟨rfl, rfl⟩
 ·obtain rfl := Option.some.inj h
  exact ⟨rfl, rfl⟩
theorem tF1a1 (Ad : QAd n0 ad) (W : QW Z a0) (e0 : Ob) (s : List Int32) (x1 : Int32) {r : Int32} (h : F1 s x1 = some r) : QTri l Z n0 ad 1 (0, qentry [.ref 0, .int x1] (pMaxL 1), [], (H0 s e0)) (some (Value.int r)) (H0 s e0) := by
 unfold F1 at h
 refine zS Ad W 3 (st' := (3, [vR 0, vI x1], [.int (s.length.toInt32), .int x1], (H0 s e0))) rfl ?_
 rcases qite h with ⟨hc259, h⟩ | ⟨hc259, h⟩
 ·refine zF Ad W (t := 12) (f := 6) rfl (XT.ii_ge_f hc259) ?_
  refine zS Ad W 2 (st' := (8, [vR 0, vI x1], [.int x1, .ref 0], (H0 s e0))) rfl ?_
  obtain ⟨y260, hy260, h⟩ := bind_eq_some_iff.mp h
  refine zB Ad W (f := fun y260 => (9, [vR 0, vI x1], [.int y260], (H0 s e0))) rfl hy260 ?_
  refine zS Ad W 1 (st' := (13, [vR 0, vI x1], [.int y260], (H0 s e0))) rfl ?_
  obtain rfl := Option.some.inj h
  exact QTri.retI rfl rfl
 ·refine zT Ad W (t := 12) (f := 6) rfl (XT.ii_ge_t hc259) ?_
  refine zS Ad W 1 (st' := (13, [vR 0, vI x1], [.int (0:Int32)], (H0 s e0))) rfl ?_
  obtain rfl := Option.some.inj h
  exact QTri.retI rfl rfl
def H0x12 (s : List Int32) (o0 : Ob) (a0_9 : List Int32) : QHeap := H0v s (f_data o0) (f_filled o0) (f_rf o0) (f_cf o0) (f_vf o0) (f_ag o0) (f_fMode o0) (f_fRk o0) (f_fCk o0) a0_9 (f_prevFound o0) (f_keys o0) (f_nRows o0) (f_nForms o0) (f_last o0) (f_selUseR o0) (f_selRk o0) (f_selUseC o0) (f_selCk o0) (f_gCount o0) (f_gVal o0)
def H0x13 (s : List Int32) (o0 : Ob) (a0_9 : List Int32) (a0_10 : List Int32) : QHeap := H0v s (f_data o0) (f_filled o0) (f_rf o0) (f_cf o0) (f_vf o0) (f_ag o0) (f_fMode o0) (f_fRk o0) (f_fCk o0) a0_9 a0_10 (f_keys o0) (f_nRows o0) (f_nForms o0) (f_last o0) (f_selUseR o0) (f_selRk o0) (f_selUseC o0) (f_selCk o0) (f_gCount o0) (f_gVal o0)
def B16_2 (v : Int32 × Ob) : Option (((Ob)) ⊕ (Int32 × Ob)) :=
  (if v.1 < (f_nForms v.2) then (F17 v.2 v.1).bind fun r272 => (aset (f_prevVal r272) v.1 (f_gVal r272)).bind fun y273 => (aset (f_prevFound r272) v.1 ((if (0 : Int32) < (f_gCount r272) then (1 : Int32) else (0 : Int32)) &&& 1)).bind fun y277 => some (.inr ((v.1 + (1 : Int32)), (s_prevFound (s_prevVal r272 y273) y277))) else some (.inl v.2))
theorem tB16_2 (Ad : QAd n0 ad) (W : QW Z a0) (s : List Int32) (v : Int32 × Ob) {r : ((Ob)) ⊕ (Int32 × Ob)} {u : Option Value} {τ : QHeap} (h : B16_2 v = some r) (hx0 : ∀ x : Ob, r = .inl x → u = (none : Option Value) ∧ τ = (H0 s x)) (hc : ∀ x : Int32 × Ob, r = .inr x → QTri l Z n0 ad 16 (2, [vR 1, vI x.1], [], (H0 s x.2)) u τ) : QTri l Z n0 ad 16 (2, [vR 1, vI v.1], [], (H0 s v.2)) u τ := by
 unfold B16_2 at h
 refine zS Ad W 3 (st' := (7, [vR 1, vI v.1], [.int (f_nForms v.2), .int v.1], (H0 s v.2))) rfl ?_
 rcases qite h with ⟨hc271, h⟩ | ⟨hc271, h⟩
 ·refine zF Ad W (t := 49) (f := 10) rfl (XT.ii_ge_f hc271) ?_
  refine zS Ad W 2 (st' := (12, [vR 1, vI v.1], [.int v.1, .ref 1], (H0 s v.2))) rfl ?_
  obtain ⟨r272, hr272, h⟩ := bind_eq_some_iff.mp h
  refine QTri.callP W (a := 1) (as := [.int v.1]) (rest := []) (w := none) (σ₁ := (H0 s r272)) rfl rfl rfl rfl rfl rfl rfl rfl (tF17 Ad W s v.2 v.1 hr272) ?_
  refine zS Ad W 5 (st' := (24, [vR 1, vI v.1], [.int (f_gVal r272), .int v.1, .ref 7], (H0 s r272))) rfl ?_
  obtain ⟨y273, hy273, h⟩ := bind_eq_some_iff.mp h
  refine zB Ad W (f := fun y273 => (25, [vR 1, vI v.1], [], (H0x12 s r272 y273))) rfl hy273 ?_
  refine zS Ad W 5 (st' := (34, [vR 1, vI v.1], [.int (f_gCount r272), .int v.1, .ref 8], (H0x12 s r272 y273))) rfl ?_
  have K275 : ∀ z274 : Int32, z274 = (if (0:Int32) < (f_gCount r272) then (1:Int32) else (0:Int32)) → QTri l Z n0 ad 16 (42, [vR 1, vI v.1], [.int z274, .int v.1, .ref 8], (H0x12 s r272 y273)) u τ := by
   intro z274 ez274
   subst ez274
   obtain ⟨y277, hy277, h⟩ := bind_eq_some_iff.mp h
   refine zB Ad W (f := fun y277 => (43, [vR 1, vI v.1], [], (H0x13 s r272 y273 y277))) rfl hy277 ?_
   refine zS Ad W 2 (st' := (2, [vR 1, vI (v.1 + (1:Int32))], [], (H0x13 s r272 y273 y277))) rfl ?_
   have E278 : ((H0x13 s r272 y273 y277) : QHeap) = (H0 s (s_prevFound (s_prevVal r272 y273) y277)) := by simp only [fs, H0, H0v, H0x13, s_prevVal, s_prevFound]
   rw [E278]
   obtain rfl := Option.some.inj h
   exact zM [tt,tt] (hc ((v.1 + (1:Int32)), (s_prevFound (s_prevVal r272 y273) y277)) rfl)
  rcases em ((0:Int32) < (f_gCount r272)) with hc276 | hc276
  ·refine zF Ad W (t := 41) (f := 37) rfl (XT.i0_le_f hc276) ?_
   refine zS Ad W 2 (st' := (42, [vR 1, vI v.1], [.int (1:Int32), .int v.1, .ref 8], (H0x12 s r272 y273))) rfl ?_
   exact zM [tt,tt] (K275 _ (if_pos hc276).symm)
  ·refine zT Ad W (t := 41) (f := 37) rfl (XT.i0_le_t hc276) ?_
   refine zS Ad W 1 (st' := (42, [vR 1, vI v.1], [.int (0:Int32), .int v.1, .ref 8], (H0x12 s r272 y273))) rfl ?_
   exact zM [tt,tt] (K275 _ (if_neg hc276).symm)
 ·refine zT Ad W (t := 49) (f := 10) rfl (XT.ii_ge_t hc271) ?_
  obtain rfl := Option.some.inj h
  obtain ⟨rfl, rfl⟩ := hx0 v.2 rfl
  exact QTri.ret0 rfl rfl
/-- snapshot()V -/
def F16 (o : Ob) : Option (Ob) :=
 (loopN (B16_2) qN ((0:Int32), o)).bind fun e279 => some e279
theorem tF16 (Ad : QAd n0 ad) (W : QW Z a0) (s : List Int32) (o : Ob) {r : Ob} (h : F16 o = some r) : QTri l Z n0 ad 16 (0, qentry [.ref 1] (pMaxL 16), [], (H0 s o)) (none : Option Value) (H0 s r) := by
 unfold F16 at h
 refine zS Ad W 2 (st' := (2, [vR 1, vI (0:Int32)], [], (H0 s o))) rfl ?_
 obtain ⟨e279, he279, h⟩ := bind_eq_some_iff.mp h
 refine zM [tt,tt] (loopN_tri (B := B16_2) (T := fun lv280 => QTri l Z n0 ad 16 (2, [vR 1, vI lv280.1], [], (H0 s lv280.2)) (none : Option Value) (H0 s r)) (KE := fun e279a => (none : Option Value) = (none : Option Value) ∧ (H0 s r) = (H0 s e279a)) (fun lv280 r hB hE hC => tB16_2 Ad W s lv280 hB (fun x q => hE _ q) (fun x q => hC x q)) qN ((0:Int32), o) e279 he279 ?_)
 obtain rfl := Option.some.inj h
 exact ⟨rfl, rfl⟩
def H0x14 (s : List Int32) (o0 : Ob) (a0_0 : List Int32) : QHeap := H0v s a0_0 (f_filled o0) (f_rf o0) (f_cf o0) (f_vf o0) (f_ag o0) (f_fMode o0) (f_fRk o0) (f_fCk o0) (f_prevVal o0) (f_prevFound o0) (f_keys o0) (f_nRows o0) (f_nForms o0) (f_last o0) (f_selUseR o0) (f_selRk o0) (f_selUseC o0) (f_selCk o0) (f_gCount o0) (f_gVal o0)
def H0x15 (s : List Int32) (o0 : Ob) (a0_0 : List Int32) (a0_1 : List Int32) : QHeap := H0v s a0_0 a0_1 (f_rf o0) (f_cf o0) (f_vf o0) (f_ag o0) (f_fMode o0) (f_fRk o0) (f_fCk o0) (f_prevVal o0) (f_prevFound o0) (f_keys o0) (f_nRows o0) (f_nForms o0) (f_last o0) (f_selUseR o0) (f_selRk o0) (f_selUseC o0) (f_selCk o0) (f_gCount o0) (f_gVal o0)
def J18_56 (o : Ob) (x1 : Int32) (x2 : Int32) : Option (((Int32 × Ob)) ⊕ (Int32 × Int32 × Ob)) :=
  some (.inr (x1, (x2 + (1 : Int32)), o))
theorem tJ18_56 (Ad : QAd n0 ad) (W : QW Z a0) (s : List Int32) (o : Ob) (x1 : Int32) (x2 : Int32) {r : ((Int32 × Ob)) ⊕ (Int32 × Int32 × Ob)} {u : Option Value} {τ : QHeap} (h : J18_56 o x1 x2 = some r) (hx0 : ∀ x : Int32 × Ob, r = .inl x → u = (some (Value.int x.1)) ∧ τ = (H0 s x.2)) (hc : ∀ x : Int32 × Int32 × Ob, r = .inr x → QTri l Z n0 ad 18 (4, [vR 1, vI x.1, vI x.2.1, none], [], (H0 s x.2.2)) u τ) : QTri l Z n0 ad 18 (56, [vR 1, vI x1, vI x2, none], [], (H0 s o)) u τ := by
 unfold J18_56 at h
 refine zS Ad W 2 (st' := (4, [vR 1, vI x1, vI (x2 + (1:Int32)), none], [], (H0 s o))) rfl ?_
 obtain rfl := Option.some.inj h
 exact zM [tt,tt,tt,ff] (hc (x1, (x2 + (1:Int32)), o) rfl)
def J18_53 (o : Ob) (x1 : Int32) (x2 : Int32) : Option (((Int32 × Ob)) ⊕ (Int32 × Int32 × Ob)) :=
  (J18_56 o (x1 + (1 : Int32)) x2)
theorem tJ18_53 (Ad : QAd n0 ad) (W : QW Z a0) (s : List Int32) (o : Ob) (x1 : Int32) (x2 : Int32) {r : ((Int32 × Ob)) ⊕ (Int32 × Int32 × Ob)} {u : Option Value} {τ : QHeap} (h : J18_53 o x1 x2 = some r) (hx0 : ∀ x : Int32 × Ob, r = .inl x → u = (some (Value.int x.1)) ∧ τ = (H0 s x.2)) (hc : ∀ x : Int32 × Int32 × Ob, r = .inr x → QTri l Z n0 ad 18 (4, [vR 1, vI x.1, vI x.2.1, none], [], (H0 s x.2.2)) u τ) : QTri l Z n0 ad 18 (53, [vR 1, vI x1, vI x2, none], [], (H0 s o)) u τ := by
 unfold J18_53 at h
 refine zS Ad W 1 (st' := (56, [vR 1, vI (x1 + (1:Int32)), vI x2, none], [], (H0 s o))) rfl ?_
 exact zM [tt,tt,tt,ff] (tJ18_56 Ad W s o (x1 + (1:Int32)) x2 h hx0 hc)
def B18_4 (v : Int32 × Int32 × Ob) : Option (((Int32 × Ob)) ⊕ (Int32 × Int32 × Ob)) :=
  (if v.2.1 < (f_nForms v.2.2) then (F17 v.2.2 v.2.1).bind fun r286 => (aget (f_prevVal r286) v.2.1).bind fun y290 => (if (f_gVal r286) = y290 then (aget (f_prevFound r286) v.2.1).bind fun y292 => some (.inr ((if (if (0 : Int32) < (f_gCount r286) then (1 : Int32) else (0 : Int32)) = y292 then v.1 else (v.1 + (1 : Int32))), (v.2.1 + (1 : Int32)), r286)) else (J18_53 r286 v.1 v.2.1)) else some (.inl (v.1, v.2.2)))
theorem tB18_4 (Ad : QAd n0 ad) (W : QW Z a0) (s : List Int32) (v : Int32 × Int32 × Ob) {r : ((Int32 × Ob)) ⊕ (Int32 × Int32 × Ob)} {u : Option Value} {τ : QHeap} (h : B18_4 v = some r) (hx0 : ∀ x : Int32 × Ob, r = .inl x → u = (some (Value.int x.1)) ∧ τ = (H0 s x.2)) (hc : ∀ x : Int32 × Int32 × Ob, r = .inr x → QTri l Z n0 ad 18 (4, [vR 1, vI x.1, vI x.2.1, none], [], (H0 s x.2.2)) u τ) : QTri l Z n0 ad 18 (4, [vR 1, vI v.1, vI v.2.1, none], [], (H0 s v.2.2)) u τ := by
 unfold B18_4 at h
 refine zS Ad W 3 (st' := (9, [vR 1, vI v.1, vI v.2.1, none], [.int (f_nForms v.2.2), .int v.2.1], (H0 s v.2.2))) rfl ?_
 rcases qite h with ⟨hc285, h⟩ | ⟨hc285, h⟩
 ·refine zF Ad W (t := 62) (f := 12) rfl (XT.ii_ge_f hc285) ?_
  refine zS Ad W 2 (st' := (14, [vR 1, vI v.1, vI v.2.1, none], [.int v.2.1, .ref 1], (H0 s v.2.2))) rfl ?_
  obtain ⟨r286, hr286, h⟩ := bind_eq_some_iff.mp h
  refine QTri.callP W (a := 1) (as := [.int v.2.1]) (rest := []) (w := none) (σ₁ := (H0 s r286)) rfl rfl rfl rfl rfl rfl rfl rfl (tF17 Ad W s v.2.2 v.2.1 hr286) ?_
  refine zS Ad W 2 (st' := (21, [vR 1, vI v.1, vI v.2.1, none], [.int (f_gCount r286)], (H0 s r286))) rfl ?_
  have K288 : ∀ z287 : Int32, z287 = (if (0:Int32) < (f_gCount r286) then (1:Int32) else (0:Int32)) → QTri l Z n0 ad 18 (29, [vR 1, vI v.1, vI v.2.1, none], [.int z287], (H0 s r286)) u τ := by
   intro z287 ez287
   subst ez287
   refine zS Ad W 6 (st' := (39, [vR 1, vI v.1, vI v.2.1, vI (if (0:Int32) < (f_gCount r286) then (1:Int32) else (0:Int32))], [.int v.2.1, .ref 7, .int (f_gVal r286)], (H0 s r286))) rfl ?_
   obtain ⟨y290, hy290, h⟩ := bind_eq_some_iff.mp h
   refine zB Ad W (f := fun y290 => (40, [vR 1, vI v.1, vI v.2.1, vI (if (0:Int32) < (f_gCount r286) then (1:Int32) else (0:Int32))], [.int y290, .int (f_gVal r286)], (H0 s r286))) rfl hy290 ?_
   rcases qite h with ⟨hc291, h⟩ | ⟨hc291, h⟩
   ·refine zF Ad W (t := 53) (f := 43) rfl (XT.ii_ne_f hc291) ?_
    refine zS Ad W 4 (st' := (49, [vR 1, vI v.1, vI v.2.1, vI (if (0:Int32) < (f_gCount r286) then (1:Int32) else (0:Int32))], [.int v.2.1, .ref 8, .int (if (0:Int32) < (f_gCount r286) then (1:Int32) else (0:Int32))], (H0 s r286))) rfl ?_
    obtain ⟨y292, hy292, h⟩ := bind_eq_some_iff.mp h
    refine zB Ad W (f := fun y292 => (50, [vR 1, vI v.1, vI v.2.1, vI (if (0:Int32) < (f_gCount r286) then (1:Int32) else (0:Int32))], [.int y292, .int (if (0:Int32) < (f_gCount r286) then (1:Int32) else (0:Int32))], (H0 s r286))) rfl hy292 ?_
    have K294 : ∀ z293 : Int32, z293 = (if (if (0:Int32) < (f_gCount r286) then (1:Int32) else (0:Int32)) = y292 then v.1 else (v.1 + (1:Int32))) → QTri l Z n0 ad 18 (56, [vR 1, vI z293, vI v.2.1, none], [], (H0 s r286)) u τ := by
     intro z293 ez293
     subst ez293
     refine zS Ad W 2 (st' := (4, [vR 1, vI (if (if (0:Int32) < (f_gCount r286) then (1:Int32) else (0:Int32)) = y292 then v.1 else (v.1 + (1:Int32))), vI (v.2.1 + (1:Int32)), none], [], (H0 s r286))) rfl ?_
     obtain rfl := Option.some.inj h
     exact zM [tt,tt,tt,ff] (hc ((if (if (0:Int32) < (f_gCount r286) then (1:Int32) else (0:Int32)) = y292 then v.1 else (v.1 + (1:Int32))), (v.2.1 + (1:Int32)), r286) rfl)
    rcases em ((if (0:Int32) < (f_gCount r286) then (1:Int32) else (0:Int32)) = y292) with hc295 | hc295
    ·refine zT Ad W (t := 56) (f := 53) rfl (XT.ii_eq_t hc295) ?_
     exact zM [tt,tt,tt,ff] (K294 _ (if_pos hc295).symm)
    ·refine zF Ad W (t := 56) (f := 53) rfl (XT.ii_eq_f hc295) ?_
     refine zS Ad W 1 (st' := (56, [vR 1, vI (v.1 + (1:Int32)), vI v.2.1, vI (if (0:Int32) < (f_gCount r286) then (1:Int32) else (0:Int32))], [], (H0 s r286))) rfl ?_
     exact zM [tt,tt,tt,ff] (K294 _ (if_neg hc295).symm)
   ·refine zT Ad W (t := 53) (f := 43) rfl (XT.ii_ne_t hc291) ?_
    exact zM [tt,tt,tt,ff] (tJ18_53 Ad W s r286 v.1 v.2.1 h hx0 hc)
  rcases em ((0:Int32) < (f_gCount r286)) with hc289 | hc289
  ·refine zF Ad W (t := 28) (f := 24) rfl (XT.i0_le_f hc289) ?_
   refine zS Ad W 2 (st' := (29, [vR 1, vI v.1, vI v.2.1, none], [.int (1:Int32)], (H0 s r286))) rfl ?_
   exact zM [tt,tt,tt,ff] (K288 _ (if_pos hc289).symm)
  ·refine zT Ad W (t := 28) (f := 24) rfl (XT.i0_le_t hc289) ?_
   refine zS Ad W 1 (st' := (29, [vR 1, vI v.1, vI v.2.1, none], [.int (0:Int32)], (H0 s r286))) rfl ?_
   exact zM [tt,tt,tt,ff] (K288 _ (if_neg hc289).symm)
 ·refine zT Ad W (t := 62) (f := 12) rfl (XT.ii_ge_t hc285) ?_
  refine zS Ad W 1 (st' := (63, [vR 1, vI v.1, vI v.2.1, none], [.int v.1], (H0 s v.2.2))) rfl ?_
  obtain rfl := Option.some.inj h
  obtain ⟨rfl, rfl⟩ := hx0 (v.1, v.2.2) rfl
  exact QTri.retI rfl rfl
/-- countChanged()I -/
def F18 (o : Ob) : Option (Int32 × Ob) :=
 (loopN (B18_4) qN ((0:Int32), (0:Int32), o)).bind fun e296 => some e296
theorem tF18 (Ad : QAd n0 ad) (W : QW Z a0) (s : List Int32) (o : Ob) {r : Int32 × Ob} (h : F18 o = some r) : QTri l Z n0 ad 18 (0, qentry [.ref 1] (pMaxL 18), [], (H0 s o)) (some (Value.int r.1)) (H0 s r.2) := by
 unfold F18 at h
 refine zS Ad W 4 (st' := (4, [vR 1, vI (0:Int32), vI (0:Int32), none], [], (H0 s o))) rfl ?_
 obtain ⟨e296, he296, h⟩ := bind_eq_some_iff.mp h
 refine zM [tt,tt,tt,ff] (loopN_tri (B := B18_4) (T := fun lv297 => QTri l Z n0 ad 18 (4, [vR 1, vI lv297.1, vI lv297.2.1, none], [], (H0 s lv297.2.2)) (some (Value.int r.1)) (H0 s r.2)) (KE := fun e296a => (some (Value.int r.1)) = (some (Value.int e296a.1)) ∧ (H0 s r.2) = (H0 s e296a.2)) (fun lv297 r hB hE hC => tB18_4 Ad W s lv297 hB (fun x q => hE _ q) (fun x q => hC x q)) qN ((0:Int32), (0:Int32), o) e296 he296 ?_)
 obtain rfl := Option.some.inj h
 exact ⟨rfl, rfl⟩
def H0x16 (s : List Int32) (o0 : Ob) (a0_14 : Int32) : QHeap := H0v s (f_data o0) (f_filled o0) (f_rf o0) (f_cf o0) (f_vf o0) (f_ag o0) (f_fMode o0) (f_fRk o0) (f_fCk o0) (f_prevVal o0) (f_prevFound o0) (f_keys o0) (f_nRows o0) (f_nForms o0) a0_14 (f_selUseR o0) (f_selRk o0) (f_selUseC o0) (f_selCk o0) (f_gCount o0) (f_gVal o0)
/-- setCell(III)Z -/
def F15 (o : Ob) (x1 : Int32) (x2 : Int32) (x3 : Int32) : Option (Int32 × Ob) :=
 (F13 o x1).bind fun r267 => (if r267 = (0:Int32) then some ((0:Int32), o) else (if x2 < (0:Int32) then some ((0:Int32), o) else (if x2 < (4:Int32) then (F16 o).bind fun r281 => (aset (f_data r281) ((x1 * (4:Int32)) + x2) x3).bind fun y282 => (aset (f_filled r281) x1 (1:Int32)).bind fun y283 => (F18 (s_filled (s_data r281 y282) y283)).bind fun r298 => some ((1:Int32), (s_last r298.2 r298.1)) else some ((0:Int32), o))))
theorem tF15 (Ad : QAd n0 ad) (W : QW Z a0) (s : List Int32) (o : Ob) (x1 : Int32) (x2 : Int32) (x3 : Int32) {r : Int32 × Ob} (h : F15 o x1 x2 x3 = some r) : QTri l Z n0 ad 15 (0, qentry [.ref 1, .int x1, .int x2, .int x3] (pMaxL 15), [], (H0 s o)) (some (Value.int r.1)) (H0 s r.2) := by
 unfold F15 at h
 refine zS Ad W 2 (st' := (2, [vR 1, vI x1, vI x2, vI x3], [.int x1, .ref 1], (H0 s o))) rfl ?_
 obtain ⟨r267, hr267, h⟩ := bind_eq_some_iff.mp h
 refine QTri.callP W (a := 1) (as := [.int x1]) (rest := []) (w := (some (.int r267))) (σ₁ := (H0 s o)) rfl rfl rfl rfl rfl rfl rfl rfl (tF13 Ad W s o x1 hr267) ?_
 rcases qite h with ⟨hc268, h⟩ | ⟨hc268, h⟩
 ·refine zF Ad W (t := 10) (f := 8) rfl (XT.i0_ne_f hc268) ?_
  refine zS Ad W 1 (st' := (9, [vR 1, vI x1, vI x2, vI x3], [.int (0:Int32)], (H0 s o))) rfl ?_
  obtain rfl := Option.some.inj h
  exact QTri.retZ rfl rfl
 ·refine zT Ad W (t := 10) (f := 8) rfl (XT.i0_ne_t hc268) ?_
  refine zS Ad W 1 (st' := (11, [vR 1, vI x1, vI x2, vI x3], [.int x2], (H0 s o))) rfl ?_
  rcases qite h with ⟨hc269, h⟩ | ⟨hc269, h⟩
  ·refine zT Ad W (t := 19) (f := 14) rfl (XT.i0_lt_t hc269) ?_
   refine zS Ad W 1 (st' := (20, [vR 1, vI x1, vI x2, vI x3], [.int (0:Int32)], (H0 s o))) rfl ?_
   obtain rfl := Option.some.inj h
   exact QTri.retZ rfl rfl
  ·refine zF Ad W (t := 19) (f := 14) rfl (XT.i0_lt_f hc269) ?_
   refine zS Ad W 2 (st' := (16, [vR 1, vI x1, vI x2, vI x3], [.int (4:Int32), .int x2], (H0 s o))) rfl ?_
   rcases qite h with ⟨hc270, h⟩ | ⟨hc270, h⟩
   ·refine zT Ad W (t := 21) (f := 19) rfl (XT.ii_lt_t hc270) ?_
    refine zS Ad W 1 (st' := (22, [vR 1, vI x1, vI x2, vI x3], [.ref 1], (H0 s o))) rfl ?_
    obtain ⟨r281, hr281, h⟩ := bind_eq_some_iff.mp h
    refine QTri.callP W (a := 1) (as := []) (rest := []) (w := none) (σ₁ := (H0 s r281)) rfl rfl rfl rfl rfl rfl rfl rfl (tF16 Ad W s o hr281) ?_
    refine zS Ad W 8 (st' := (35, [vR 1, vI x1, vI x2, vI x3], [.int x3, .int ((x1 * (4:Int32)) + x2), .ref 2], (H0 s r281))) rfl ?_
    obtain ⟨y282, hy282, h⟩ := bind_eq_some_iff.mp h
    refine zB Ad W (f := fun y282 => (36, [vR 1, vI x1, vI x2, vI x3], [], (H0x14 s r281 y282))) rfl hy282 ?_
    refine zS Ad W 4 (st' := (42, [vR 1, vI x1, vI x2, vI x3], [.int (1:Int32), .int x1, .ref 3], (H0x14 s r281 y282))) rfl ?_
    obtain ⟨y283, hy283, h⟩ := bind_eq_some_iff.mp h
    refine zB Ad W (f := fun y283 => (43, [vR 1, vI x1, vI x2, vI x3], [], (H0x15 s r281 y282 y283))) rfl hy283 ?_
    refine zS Ad W 2 (st' := (45, [vR 1, vI x1, vI x2, vI x3], [.ref 1, .ref 1], (H0x15 s r281 y282 y283))) rfl ?_
    have E284 : ((H0x15 s r281 y282 y283) : QHeap) = (H0 s (s_filled (s_data r281 y282) y283)) := by simp only [fs, H0, H0v, H0x15, s_data, s_filled]
    rw [E284]
    obtain ⟨r298, hr298, h⟩ := bind_eq_some_iff.mp h
    refine QTri.callP W (a := 1) (as := []) (rest := [.ref 1]) (w := (some (.int r298.1))) (σ₁ := (H0 s r298.2)) rfl rfl rfl rfl rfl rfl rfl rfl (tF18 Ad W s (s_filled (s_data r281 y282) y283) hr298) ?_
    refine zS Ad W 1 (st' := (51, [vR 1, vI x1, vI x2, vI x3], [], (H0x16 s r298.2 r298.1))) rfl ?_
    refine zS Ad W 1 (st' := (52, [vR 1, vI x1, vI x2, vI x3], [.int (1:Int32)], (H0x16 s r298.2 r298.1))) rfl ?_
    have E299 : ((H0x16 s r298.2 r298.1) : QHeap) = (H0 s (s_last r298.2 r298.1)) := by simp only [fs, H0, H0v, H0x16, s_last]
    rw [E299]
    obtain rfl := Option.some.inj h
    exact QTri.retZ rfl rfl
   ·refine zF Ad W (t := 21) (f := 19) rfl (XT.ii_lt_f hc270) ?_
    refine zS Ad W 1 (st' := (20, [vR 1, vI x1, vI x2, vI x3], [.int (0:Int32)], (H0 s o))) rfl ?_
    obtain rfl := Option.some.inj h
    exact QTri.retZ rfl rfl
def J0_324 (s : List Int32) (p0 : Ob) (x2 : Int32) (x3 : Int64) (x5 : Int32) : Option (((Int32 × QHeap)) ⊕ (Int32 × Int64 × Int32 × Ob)) :=
  (F3 p0 x2 x3).bind fun r301 => (if r301.1 = (0 : Int32) then some (.inl ((0 : Int32), (H0 s r301.2))) else some (.inr (x2, x3, (x5 + (4 : Int32)), r301.2)))
theorem tJ0_324 (Ad : QAd n0 ad) (W : QW Z a0) (s : List Int32) (p0 : Ob) (x2 : Int32) (x3 : Int64) (x5 : Int32) {r : ((Int32 × QHeap)) ⊕ (Int32 × Int64 × Int32 × Ob)} {u : Option Value} {τ : QHeap} (h : J0_324 s p0 x2 x3 x5 = some r) (hx0 : ∀ x : Int32 × QHeap, r = .inl x → u = (some (Value.int x.1)) ∧ τ = x.2) (hc : ∀ x : Int32 × Int64 × Int32 × Ob, r = .inr x → QTri l Z n0 ad 0 (36, [vR 0, vR 1, vI x.1, vL x.2.1, none, vI x.2.2.1, none, none, none, none, none, none, none, none, none, none], [], (H0 s x.2.2.2)) u τ) : QTri l Z n0 ad 0 (324, [vR 0, vR 1, vI x2, vL x3, none, vI x5, none, none, none, none, none, none, none, none, none, none], [], (H0 s p0)) u τ := by
 unfold J0_324 at h
 refine zS Ad W 3 (st' := (327, [vR 0, vR 1, vI x2, vL x3, none, vI x5, none, none, none, none, none, none, none, none, none, none], [.long x3, .int x2, .ref 1], (H0 s p0))) rfl ?_
 obtain ⟨r301, hr301, h⟩ := bind_eq_some_iff.mp h
 refine QTri.callS W (as := [.ref 1, .int x2, .long x3]) (rest := []) (w := (some (.int r301.1))) (σ₁ := (H0 s r301.2)) rfl rfl rfl rfl rfl rfl rfl (tF3 Ad W s p0 x2 x3 hr301) ?_
 rcases qite h with ⟨hc302, h⟩ | ⟨hc302, h⟩
 ·refine zF Ad W (t := 335) (f := 333) rfl (XT.i0_ne_f hc302) ?_
  refine zS Ad W 1 (st' := (334, [vR 0, vR 1, vI x2, vL x3, none, vI x5, none, none, none, none, none, none, none, none, none, none], [.int (0:Int32)], (H0 s r301.2))) rfl ?_
  obtain rfl := Option.some.inj h
  obtain ⟨rfl, rfl⟩ := hx0 ((0:Int32), (H0 s r301.2)) rfl
  exact QTri.retZ rfl rfl
 ·refine zT Ad W (t := 335) (f := 333) rfl (XT.i0_ne_t hc302) ?_
  refine zS Ad W 2 (st' := (36, [vR 0, vR 1, vI x2, vL x3, none, vI (x5 + (4:Int32)), none, none, none, none, none, none, none, none, none, none], [], (H0 s r301.2))) rfl ?_
  obtain rfl := Option.some.inj h
  exact zM [tt,tt,tt,tt,ff,tt,ff,ff,ff,ff,ff,ff,ff,ff,ff,ff] (hc (x2, x3, (x5 + (4:Int32)), r301.2) rfl)
def B23_27 (x1 : Int32) (v : Int32 × Ob) : Option (((Ob)) ⊕ (Int32 × Ob)) :=
  (if v.1 < (4 : Int32) then (aset (f_data v.2) ((x1 * (4 : Int32)) + v.1) (0 : Int32)).bind fun y310 => some (.inr ((v.1 + (1 : Int32)), (s_data v.2 y310))) else some (.inl v.2))
theorem tB23_27 (Ad : QAd n0 ad) (W : QW Z a0) (s : List Int32) (x1 : Int32) (v : Int32 × Ob) {r : ((Ob)) ⊕ (Int32 × Ob)} {u : Option Value} {τ : QHeap} (h : B23_27 x1 v = some r) (hx0 : ∀ x : Ob, r = .inl x → QTri l Z n0 ad 23 (49, [vR 1, vI x1, none], [], (H0 s x)) u τ) (hc : ∀ x : Int32 × Ob, r = .inr x → QTri l Z n0 ad 23 (27, [vR 1, vI x1, vI x.1], [], (H0 s x.2)) u τ) : QTri l Z n0 ad 23 (27, [vR 1, vI x1, vI v.1], [], (H0 s v.2)) u τ := by
 unfold B23_27 at h
 refine zS Ad W 2 (st' := (29, [vR 1, vI x1, vI v.1], [.int (4:Int32), .int v.1], (H0 s v.2))) rfl ?_
 rcases qite h with ⟨hc309, h⟩ | ⟨hc309, h⟩
 ·refine zF Ad W (t := 49) (f := 32) rfl (XT.ii_ge_f hc309) ?_
  refine zS Ad W 8 (st' := (42, [vR 1, vI x1, vI v.1], [.int (0:Int32), .int ((x1 * (4:Int32)) + v.1), .ref 2], (H0 s v.2))) rfl ?_
  obtain ⟨y310, hy310, h⟩ := bind_eq_some_iff.mp h
  refine zB Ad W (f := fun y310 => (43, [vR 1, vI x1, vI v.1], [], (H0x14 s v.2 y310))) rfl hy310 ?_
  refine zS Ad W 2 (st' := (27, [vR 1, vI x1, vI (v.1 + (1:Int32))], [], (H0x14 s v.2 y310))) rfl ?_
  have E311 : ((H0x14 s v.2 y310) : QHeap) = (H0 s (s_data v.2 y310)) := by simp only [fs, H0, H0v, H0x14, s_data]
  rw [E311]
  obtain rfl := Option.some.inj h
  exact zM [tt,tt,tt] (hc ((v.1 + (1:Int32)), (s_data v.2 y310)) rfl)
 ·refine zT Ad W (t := 49) (f := 32) rfl (XT.ii_ge_t hc309) ?_
  obtain rfl := Option.some.inj h
  exact zM [tt,tt,ff] (hx0 v.2 rfl)
def H0x17 (s : List Int32) (o0 : Ob) (a0_1 : List Int32) : QHeap := H0v s (f_data o0) a0_1 (f_rf o0) (f_cf o0) (f_vf o0) (f_ag o0) (f_fMode o0) (f_fRk o0) (f_fCk o0) (f_prevVal o0) (f_prevFound o0) (f_keys o0) (f_nRows o0) (f_nForms o0) (f_last o0) (f_selUseR o0) (f_selRk o0) (f_selUseC o0) (f_selCk o0) (f_gCount o0) (f_gVal o0)
/-- clearRow(I)Z -/
def F23 (o : Ob) (x1 : Int32) : Option (Int32 × Ob) :=
 (F13 o x1).bind fun r304 => (if r304 = (0:Int32) then some ((0:Int32), o) else (aget (f_filled o) x1).bind fun y306 => (if y306 = (0:Int32) then some ((0:Int32), o) else (F16 o).bind fun r308 => (loopN (B23_27 x1) qN ((0:Int32), r308)).bind fun e312 => (aset (f_filled e312) x1 (0:Int32)).bind fun y314 => (F18 (s_filled e312 y314)).bind fun r316 => some ((1:Int32), (s_last r316.2 r316.1))))
theorem tF23 (Ad : QAd n0 ad) (W : QW Z a0) (s : List Int32) (o : Ob) (x1 : Int32) {r : Int32 × Ob} (h : F23 o x1 = some r) : QTri l Z n0 ad 23 (0, qentry [.ref 1, .int x1] (pMaxL 23), [], (H0 s o)) (some (Value.int r.1)) (H0 s r.2) := by
 unfold F23 at h
 refine zS Ad W 2 (st' := (2, [vR 1, vI x1, none], [.int x1, .ref 1], (H0 s o))) rfl ?_
 obtain ⟨r304, hr304, h⟩ := bind_eq_some_iff.mp h
 refine QTri.callP W (a := 1) (as := [.int x1]) (rest := []) (w := (some (.int r304))) (σ₁ := (H0 s o)) rfl rfl rfl rfl rfl rfl rfl rfl (tF13 Ad W s o x1 hr304) ?_
 rcases qite h with ⟨hc305, h⟩ | ⟨hc305, h⟩
 ·refine zF Ad W (t := 10) (f := 8) rfl (XT.i0_ne_f hc305) ?_
  refine zS Ad W 1 (st' := (9, [vR 1, vI x1, none], [.int (0:Int32)], (H0 s o))) rfl ?_
  obtain rfl := Option.some.inj h
  exact QTri.retZ rfl rfl
 ·refine zT Ad W (t := 10) (f := 8) rfl (XT.i0_ne_t hc305) ?_
  refine zS Ad W 3 (st' := (15, [vR 1, vI x1, none], [.int x1, .ref 3], (H0 s o))) rfl ?_
  obtain ⟨y306, hy306, h⟩ := bind_eq_some_iff.mp h
  refine zB Ad W (f := fun y306 => (16, [vR 1, vI x1, none], [.int y306], (H0 s o))) rfl hy306 ?_
  rcases qite h with ⟨hc307, h⟩ | ⟨hc307, h⟩
  ·refine zF Ad W (t := 21) (f := 19) rfl (XT.i0_ne_f hc307) ?_
   refine zS Ad W 1 (st' := (20, [vR 1, vI x1, none], [.int (0:Int32)], (H0 s o))) rfl ?_
   obtain rfl := Option.some.inj h
   exact QTri.retZ rfl rfl
  ·refine zT Ad W (t := 21) (f := 19) rfl (XT.i0_ne_t hc307) ?_
   refine zS Ad W 1 (st' := (22, [vR 1, vI x1, none], [.ref 1], (H0 s o))) rfl ?_
   obtain ⟨r308, hr308, h⟩ := bind_eq_some_iff.mp h
   refine QTri.callP W (a := 1) (as := []) (rest := []) (w := none) (σ₁ := (H0 s r308)) rfl rfl rfl rfl rfl rfl rfl rfl (tF16 Ad W s o hr308) ?_
   refine zS Ad W 2 (st' := (27, [vR 1, vI x1, vI (0:Int32)], [], (H0 s r308))) rfl ?_
   obtain ⟨e312, he312, h⟩ := bind_eq_some_iff.mp h
   refine zM [tt,tt,tt] (loopN_tri (B := B23_27 x1) (T := fun lv313 => QTri l Z n0 ad 23 (27, [vR 1, vI x1, vI lv313.1], [], (H0 s lv313.2)) (some (Value.int r.1)) (H0 s r.2)) (KE := fun e312a => QTri l Z n0 ad 23 (49, [vR 1, vI x1, none], [], (H0 s e312a)) (some (Value.int r.1)) (H0 s r.2)) (fun lv313 r hB hE hC => tB23_27 Ad W s x1 lv313 hB (fun x q => hE _ q) (fun x q => hC x q)) qN ((0:Int32), r308) e312 he312 ?_)
   refine zS Ad W 4 (st' := (55, [vR 1, vI x1, none], [.int (0:Int32), .int x1, .ref 3], (H0 s e312))) rfl ?_
   obtain ⟨y314, hy314, h⟩ := bind_eq_some_iff.mp h
   refine zB Ad W (f := fun y314 => (56, [vR 1, vI x1, none], [], (H0x17 s e312 y314))) rfl hy314 ?_
   refine zS Ad W 2 (st' := (58, [vR 1, vI x1, none], [.ref 1, .ref 1], (H0x17 s e312 y314))) rfl ?_
   have E315 : ((H0x17 s e312 y314) : QHeap) = (H0 s (s_filled e312 y314)) := by simp only [fs, H0, H0v, H0x17, s_filled]
   rw [E315]
   obtain ⟨r316, hr316, h⟩ := bind_eq_some_iff.mp h
   refine QTri.callP W (a := 1) (as := []) (rest := [.ref 1]) (w := (some (.int r316.1))) (σ₁ := (H0 s r316.2)) rfl rfl rfl rfl rfl rfl rfl rfl (tF18 Ad W s (s_filled e312 y314) hr316) ?_
   refine zS Ad W 1 (st' := (64, [vR 1, vI x1, none], [], (H0x16 s r316.2 r316.1))) rfl ?_
   refine zS Ad W 1 (st' := (65, [vR 1, vI x1, none], [.int (1:Int32)], (H0x16 s r316.2 r316.1))) rfl ?_
   have E317 : ((H0x16 s r316.2 r316.1) : QHeap) = (H0 s (s_last r316.2 r316.1)) := by simp only [fs, H0, H0v, H0x16, s_last]
   rw [E317]
   obtain rfl := Option.some.inj h
   exact QTri.retZ rfl rfl
/-- validField(I)Z -/
def F25 (x1 : Int32) : Option (Int32) :=
 (if x1 < (0:Int32) then some (0:Int32) else (if x1 < (4:Int32) then some (1:Int32) else some (0:Int32)))
theorem tF25 (Ad : QAd n0 ad) (W : QW Z a0) {a : Nat} {σ : QHeap} (x1 : Int32) {r : Int32} (h : F25 x1 = some r) : QTri l Z n0 ad 25 (0, qentry [.ref a, .int x1] (pMaxL 25), [], σ) (some (Value.int r)) σ := by
 unfold F25 at h
 refine zS Ad W 1 (st' := (1, [vR a, vI x1], [.int x1], σ)) rfl ?_
 rcases qite h with ⟨hc320, h⟩ | ⟨hc320, h⟩
 ·refine zT Ad W (t := 13) (f := 4) rfl (XT.i0_lt_t hc320) ?_
  refine zS Ad W 1 (st' := (14, [vR a, vI x1], [.int (0:Int32)], σ)) rfl ?_
  obtain rfl := Option.some.inj h
  exact QTri.retZ rfl rfl
 ·refine zF Ad W (t := 13) (f := 4) rfl (XT.i0_lt_f hc320) ?_
  refine zS Ad W 2 (st' := (6, [vR a, vI x1], [.int (4:Int32), .int x1], σ)) rfl ?_
  rcases qite h with ⟨hc321, h⟩ | ⟨hc321, h⟩
  ·refine zF Ad W (t := 13) (f := 9) rfl (XT.ii_ge_f hc321) ?_
   refine zS Ad W 2 (st' := (14, [vR a, vI x1], [.int (1:Int32)], σ)) rfl ?_
   obtain rfl := Option.some.inj h
   exact QTri.retZ rfl rfl
  ·refine zT Ad W (t := 13) (f := 9) rfl (XT.ii_ge_t hc321) ?_
   refine zS Ad W 1 (st' := (14, [vR a, vI x1], [.int (0:Int32)], σ)) rfl ?_
   obtain rfl := Option.some.inj h
   exact QTri.retZ rfl rfl
def H0x18 (s : List Int32) (o0 : Ob) (a0_2 : Int32) : QHeap := H0v s (f_data o0) (f_filled o0) a0_2 (f_cf o0) (f_vf o0) (f_ag o0) (f_fMode o0) (f_fRk o0) (f_fCk o0) (f_prevVal o0) (f_prevFound o0) (f_keys o0) (f_nRows o0) (f_nForms o0) (f_last o0) (f_selUseR o0) (f_selRk o0) (f_selUseC o0) (f_selCk o0) (f_gCount o0) (f_gVal o0)
def H0x19 (s : List Int32) (o0 : Ob) (a0_2 : Int32) (a0_3 : Int32) : QHeap := H0v s (f_data o0) (f_filled o0) a0_2 a0_3 (f_vf o0) (f_ag o0) (f_fMode o0) (f_fRk o0) (f_fCk o0) (f_prevVal o0) (f_prevFound o0) (f_keys o0) (f_nRows o0) (f_nForms o0) (f_last o0) (f_selUseR o0) (f_selRk o0) (f_selUseC o0) (f_selCk o0) (f_gCount o0) (f_gVal o0)
def H0x20 (s : List Int32) (o0 : Ob) (a0_2 : Int32) (a0_3 : Int32) (a0_4 : Int32) : QHeap := H0v s (f_data o0) (f_filled o0) a0_2 a0_3 a0_4 (f_ag o0) (f_fMode o0) (f_fRk o0) (f_fCk o0) (f_prevVal o0) (f_prevFound o0) (f_keys o0) (f_nRows o0) (f_nForms o0) (f_last o0) (f_selUseR o0) (f_selRk o0) (f_selUseC o0) (f_selCk o0) (f_gCount o0) (f_gVal o0)
def H0x21 (s : List Int32) (o0 : Ob) (a0_2 : Int32) (a0_3 : Int32) (a0_4 : Int32) (a0_5 : Int32) : QHeap := H0v s (f_data o0) (f_filled o0) a0_2 a0_3 a0_4 a0_5 (f_fMode o0) (f_fRk o0) (f_fCk o0) (f_prevVal o0) (f_prevFound o0) (f_keys o0) (f_nRows o0) (f_nForms o0) (f_last o0) (f_selUseR o0) (f_selRk o0) (f_selUseC o0) (f_selCk o0) (f_gCount o0) (f_gVal o0)
/-- setPivot(IIII)Z -/
def F24 (o : Ob) (x1 : Int32) (x2 : Int32) (x3 : Int32) (x4 : Int32) : Option (Int32 × Ob) :=
 (F25 x1).bind fun r322 => (if r322 = (0:Int32) then some ((0:Int32), o) else (F25 x2).bind fun r324 => (if r324 = (0:Int32) then some ((0:Int32), o) else (F25 x3).bind fun r326 => (if r326 = (0:Int32) then some ((0:Int32), o) else (if x4 < (0:Int32) then some ((0:Int32), o) else (if (3:Int32) < x4 then some ((0:Int32), o) else (F16 o).bind fun r330 => (F18 (s_ag (s_vf (s_cf (s_rf r330 x1) x2) x3) x4)).bind fun r332 => some ((1:Int32), (s_last r332.2 r332.1)))))))
theorem tF24 (Ad : QAd n0 ad) (W : QW Z a0) (s : List Int32) (o : Ob) (x1 : Int32) (x2 : Int32) (x3 : Int32) (x4 : Int32) {r : Int32 × Ob} (h : F24 o x1 x2 x3 x4 = some r) : QTri l Z n0 ad 24 (0, qentry [.ref 1, .int x1, .int x2, .int x3, .int x4] (pMaxL 24), [], (H0 s o)) (some (Value.int r.1)) (H0 s r.2) := by
 unfold F24 at h
 refine zS Ad W 2 (st' := (2, [vR 1, vI x1, vI x2, vI x3, vI x4], [.int x1, .ref 1], (H0 s o))) rfl ?_
 obtain ⟨r322, hr322, h⟩ := bind_eq_some_iff.mp h
 refine QTri.callP W (a := 1) (as := [.int x1]) (rest := []) (w := (some (.int r322))) (σ₁ := (H0 s o)) rfl rfl rfl rfl rfl rfl rfl rfl (tF25 Ad W x1 hr322) ?_
 rcases qite h with ⟨hc323, h⟩ | ⟨hc323, h⟩
 ·refine zT Ad W (t := 24) (f := 8) rfl (XT.i0_eq_t hc323) ?_
  refine zS Ad W 1 (st' := (25, [vR 1, vI x1, vI x2, vI x3, vI x4], [.int (0:Int32)], (H0 s o))) rfl ?_
  obtain rfl := Option.some.inj h
  exact QTri.retZ rfl rfl
 ·refine zF Ad W (t := 24) (f := 8) rfl (XT.i0_eq_f hc323) ?_
  refine zS Ad W 2 (st' := (10, [vR 1, vI x1, vI x2, vI x3, vI x4], [.int x2, .ref 1], (H0 s o))) rfl ?_
  obtain ⟨r324, hr324, h⟩ := bind_eq_some_iff.mp h
  refine QTri.callP W (a := 1) (as := [.int x2]) (rest := []) (w := (some (.int r324))) (σ₁ := (H0 s o)) rfl rfl rfl rfl rfl rfl rfl rfl (tF25 Ad W x2 hr324) ?_
  rcases qite h with ⟨hc325, h⟩ | ⟨hc325, h⟩
  ·refine zT Ad W (t := 24) (f := 16) rfl (XT.i0_eq_t hc325) ?_
   refine zS Ad W 1 (st' := (25, [vR 1, vI x1, vI x2, vI x3, vI x4], [.int (0:Int32)], (H0 s o))) rfl ?_
   obtain rfl := Option.some.inj h
   exact QTri.retZ rfl rfl
  ·refine zF Ad W (t := 24) (f := 16) rfl (XT.i0_eq_f hc325) ?_
   refine zS Ad W 2 (st' := (18, [vR 1, vI x1, vI x2, vI x3, vI x4], [.int x3, .ref 1], (H0 s o))) rfl ?_
   obtain ⟨r326, hr326, h⟩ := bind_eq_some_iff.mp h
   refine QTri.callP W (a := 1) (as := [.int x3]) (rest := []) (w := (some (.int r326))) (σ₁ := (H0 s o)) rfl rfl rfl rfl rfl rfl rfl rfl (tF25 Ad W x3 hr326) ?_
   rcases qite h with ⟨hc327, h⟩ | ⟨hc327, h⟩
   ·refine zF Ad W (t := 26) (f := 24) rfl (XT.i0_ne_f hc327) ?_
    refine zS Ad W 1 (st' := (25, [vR 1, vI x1, vI x2, vI x3, vI x4], [.int (0:Int32)], (H0 s o))) rfl ?_
    obtain rfl := Option.some.inj h
    exact QTri.retZ rfl rfl
   ·refine zT Ad W (t := 26) (f := 24) rfl (XT.i0_ne_t hc327) ?_
    refine zS Ad W 1 (st' := (28, [vR 1, vI x1, vI x2, vI x3, vI x4], [.int x4], (H0 s o))) rfl ?_
    rcases qite h with ⟨hc328, h⟩ | ⟨hc328, h⟩
    ·refine zT Ad W (t := 37) (f := 31) rfl (XT.i0_lt_t hc328) ?_
     refine zS Ad W 1 (st' := (38, [vR 1, vI x1, vI x2, vI x3, vI x4], [.int (0:Int32)], (H0 s o))) rfl ?_
     obtain rfl := Option.some.inj h
     exact QTri.retZ rfl rfl
    ·refine zF Ad W (t := 37) (f := 31) rfl (XT.i0_lt_f hc328) ?_
     refine zS Ad W 2 (st' := (34, [vR 1, vI x1, vI x2, vI x3, vI x4], [.int (3:Int32), .int x4], (H0 s o))) rfl ?_
     rcases qite h with ⟨hc329, h⟩ | ⟨hc329, h⟩
     ·refine zF Ad W (t := 39) (f := 37) rfl (XT.ii_le_f hc329) ?_
      refine zS Ad W 1 (st' := (38, [vR 1, vI x1, vI x2, vI x3, vI x4], [.int (0:Int32)], (H0 s o))) rfl ?_
      obtain rfl := Option.some.inj h
      exact QTri.retZ rfl rfl
     ·refine zT Ad W (t := 39) (f := 37) rfl (XT.ii_le_t hc329) ?_
      refine zS Ad W 1 (st' := (40, [vR 1, vI x1, vI x2, vI x3, vI x4], [.ref 1], (H0 s o))) rfl ?_
      obtain ⟨r330, hr330, h⟩ := bind_eq_some_iff.mp h
      refine QTri.callP W (a := 1) (as := []) (rest := []) (w := none) (σ₁ := (H0 s r330)) rfl rfl rfl rfl rfl rfl rfl rfl (tF16 Ad W s o hr330) ?_
      refine zS Ad W 3 (st' := (48, [vR 1, vI x1, vI x2, vI x3, vI x4], [], (H0x18 s r330 x1))) rfl ?_
      refine zS Ad W 3 (st' := (53, [vR 1, vI x1, vI x2, vI x3, vI x4], [], (H0x19 s r330 x1 x2))) rfl ?_
      refine zS Ad W 3 (st' := (58, [vR 1, vI x1, vI x2, vI x3, vI x4], [], (H0x20 s r330 x1 x2 x3))) rfl ?_
      refine zS Ad W 3 (st' := (64, [vR 1, vI x1, vI x2, vI x3, vI x4], [], (H0x21 s r330 x1 x2 x3 x4))) rfl ?_
      refine zS Ad W 2 (st' := (66, [vR 1, vI x1, vI x2, vI x3, vI x4], [.ref 1, .ref 1], (H0x21 s r330 x1 x2 x3 x4))) rfl ?_
      have E331 : ((H0x21 s r330 x1 x2 x3 x4) : QHeap) = (H0 s (s_ag (s_vf (s_cf (s_rf r330 x1) x2) x3) x4)) := by simp only [fs, H0, H0v, H0x21, s_rf, s_cf, s_vf, s_ag]
      rw [E331]
      obtain ⟨r332, hr332, h⟩ := bind_eq_some_iff.mp h
      refine QTri.callP W (a := 1) (as := []) (rest := [.ref 1]) (w := (some (.int r332.1))) (σ₁ := (H0 s r332.2)) rfl rfl rfl rfl rfl rfl rfl rfl (tF18 Ad W s (s_ag (s_vf (s_cf (s_rf r330 x1) x2) x3) x4) hr332) ?_
      refine zS Ad W 1 (st' := (72, [vR 1, vI x1, vI x2, vI x3, vI x4], [], (H0x16 s r332.2 r332.1))) rfl ?_
      refine zS Ad W 1 (st' := (73, [vR 1, vI x1, vI x2, vI x3, vI x4], [.int (1:Int32)], (H0x16 s r332.2 r332.1))) rfl ?_
      have E333 : ((H0x16 s r332.2 r332.1) : QHeap) = (H0 s (s_last r332.2 r332.1)) := by simp only [fs, H0, H0v, H0x16, s_last]
      rw [E333]
      obtain rfl := Option.some.inj h
      exact QTri.retZ rfl rfl
/-- val(I)I -/
def F14 (x0 : Int32) : Option (Int32) :=
 some ((x0 &&& (7:Int32)) - (4:Int32))
theorem tF14 (Ad : QAd n0 ad) (W : QW Z a0) {σ : QHeap} (x0 : Int32) {r : Int32} (h : F14 x0 = some r) : QTri l Z n0 ad 14 (0, qentry [.int x0] (pMaxL 14), [], σ) (some (Value.int r)) σ := by
 unfold F14 at h
 refine zS Ad W 5 (st' := (6, [vI x0], [.int ((x0 &&& (7:Int32)) - (4:Int32))], σ)) rfl ?_
 obtain rfl := Option.some.inj h
 exact QTri.retI rfl rfl
def H0x22 (s : List Int32) (o0 : Ob) (a0_6 : List Int32) : QHeap := H0v s (f_data o0) (f_filled o0) (f_rf o0) (f_cf o0) (f_vf o0) (f_ag o0) a0_6 (f_fRk o0) (f_fCk o0) (f_prevVal o0) (f_prevFound o0) (f_keys o0) (f_nRows o0) (f_nForms o0) (f_last o0) (f_selUseR o0) (f_selRk o0) (f_selUseC o0) (f_selCk o0) (f_gCount o0) (f_gVal o0)
def H0x23 (s : List Int32) (o0 : Ob) (a0_6 : List Int32) (a0_7 : List Int32) : QHeap := H0v s (f_data o0) (f_filled o0) (f_rf o0) (f_cf o0) (f_vf o0) (f_ag o0) a0_6 a0_7 (f_fCk o0) (f_prevVal o0) (f_prevFound o0) (f_keys o0) (f_nRows o0) (f_nForms o0) (f_last o0) (f_selUseR o0) (f_selRk o0) (f_selUseC o0) (f_selCk o0) (f_gCount o0) (f_gVal o0)
def H0x24 (s : List Int32) (o0 : Ob) (a0_6 : List Int32) (a0_7 : List Int32) (a0_8 : List Int32) : QHeap := H0v s (f_data o0) (f_filled o0) (f_rf o0) (f_cf o0) (f_vf o0) (f_ag o0) a0_6 a0_7 a0_8 (f_prevVal o0) (f_prevFound o0) (f_keys o0) (f_nRows o0) (f_nForms o0) (f_last o0) (f_selUseR o0) (f_selRk o0) (f_selUseC o0) (f_selCk o0) (f_gCount o0) (f_gVal o0)
/-- setFormula(IIII)Z -/
def F26 (o : Ob) (x1 : Int32) (x2 : Int32) (x3 : Int32) (x4 : Int32) : Option (Int32 × Ob) :=
 (F27 o x1).bind fun r342 => (if r342 = (0:Int32) then some ((0:Int32), o) else (if x2 < (0:Int32) then some ((0:Int32), o) else (if (4:Int32) < x2 then some ((0:Int32), o) else (aset (f_fMode o) x1 x2).bind fun y346 => (aset (f_fRk o) x1 x3).bind fun y347 => (aset (f_fCk o) x1 x4).bind fun y348 => some ((1:Int32), (s_fCk (s_fRk (s_fMode o y346) y347) y348)))))
theorem tF26 (Ad : QAd n0 ad) (W : QW Z a0) (s : List Int32) (o : Ob) (x1 : Int32) (x2 : Int32) (x3 : Int32) (x4 : Int32) {r : Int32 × Ob} (h : F26 o x1 x2 x3 x4 = some r) : QTri l Z n0 ad 26 (0, qentry [.ref 1, .int x1, .int x2, .int x3, .int x4] (pMaxL 26), [], (H0 s o)) (some (Value.int r.1)) (H0 s r.2) := by
 unfold F26 at h
 refine zS Ad W 2 (st' := (2, [vR 1, vI x1, vI x2, vI x3, vI x4], [.int x1, .ref 1], (H0 s o))) rfl ?_
 obtain ⟨r342, hr342, h⟩ := bind_eq_some_iff.mp h
 refine QTri.callP W (a := 1) (as := [.int x1]) (rest := []) (w := (some (.int r342))) (σ₁ := (H0 s o)) rfl rfl rfl rfl rfl rfl rfl rfl (tF27 Ad W s o x1 hr342) ?_
 rcases qite h with ⟨hc343, h⟩ | ⟨hc343, h⟩
 ·refine zF Ad W (t := 10) (f := 8) rfl (XT.i0_ne_f hc343) ?_
  refine zS Ad W 1 (st' := (9, [vR 1, vI x1, vI x2, vI x3, vI x4], [.int (0:Int32)], (H0 s o))) rfl ?_
  obtain rfl := Option.some.inj h
  exact QTri.retZ rfl rfl
 ·refine zT Ad W (t := 10) (f := 8) rfl (XT.i0_ne_t hc343) ?_
  refine zS Ad W 1 (st' := (11, [vR 1, vI x1, vI x2, vI x3, vI x4], [.int x2], (H0 s o))) rfl ?_
  rcases qite h with ⟨hc344, h⟩ | ⟨hc344, h⟩
  ·refine zT Ad W (t := 19) (f := 14) rfl (XT.i0_lt_t hc344) ?_
   refine zS Ad W 1 (st' := (20, [vR 1, vI x1, vI x2, vI x3, vI x4], [.int (0:Int32)], (H0 s o))) rfl ?_
   obtain rfl := Option.some.inj h
   exact QTri.retZ rfl rfl
  ·refine zF Ad W (t := 19) (f := 14) rfl (XT.i0_lt_f hc344) ?_
   refine zS Ad W 2 (st' := (16, [vR 1, vI x1, vI x2, vI x3, vI x4], [.int (4:Int32), .int x2], (H0 s o))) rfl ?_
   rcases qite h with ⟨hc345, h⟩ | ⟨hc345, h⟩
   ·refine zF Ad W (t := 21) (f := 19) rfl (XT.ii_le_f hc345) ?_
    refine zS Ad W 1 (st' := (20, [vR 1, vI x1, vI x2, vI x3, vI x4], [.int (0:Int32)], (H0 s o))) rfl ?_
    obtain rfl := Option.some.inj h
    exact QTri.retZ rfl rfl
   ·refine zT Ad W (t := 21) (f := 19) rfl (XT.ii_le_t hc345) ?_
    refine zS Ad W 4 (st' := (27, [vR 1, vI x1, vI x2, vI x3, vI x4], [.int x2, .int x1, .ref 4], (H0 s o))) rfl ?_
    obtain ⟨y346, hy346, h⟩ := bind_eq_some_iff.mp h
    refine zB Ad W (f := fun y346 => (28, [vR 1, vI x1, vI x2, vI x3, vI x4], [], (H0x22 s o y346))) rfl hy346 ?_
    refine zS Ad W 4 (st' := (34, [vR 1, vI x1, vI x2, vI x3, vI x4], [.int x3, .int x1, .ref 5], (H0x22 s o y346))) rfl ?_
    obtain ⟨y347, hy347, h⟩ := bind_eq_some_iff.mp h
    refine zB Ad W (f := fun y347 => (35, [vR 1, vI x1, vI x2, vI x3, vI x4], [], (H0x23 s o y346 y347))) rfl hy347 ?_
    refine zS Ad W 4 (st' := (42, [vR 1, vI x1, vI x2, vI x3, vI x4], [.int x4, .int x1, .ref 6], (H0x23 s o y346 y347))) rfl ?_
    obtain ⟨y348, hy348, h⟩ := bind_eq_some_iff.mp h
    refine zB Ad W (f := fun y348 => (43, [vR 1, vI x1, vI x2, vI x3, vI x4], [], (H0x24 s o y346 y347 y348))) rfl hy348 ?_
    refine zS Ad W 1 (st' := (44, [vR 1, vI x1, vI x2, vI x3, vI x4], [.int (1:Int32)], (H0x24 s o y346 y347 y348))) rfl ?_
    have E349 : ((H0x24 s o y346 y347 y348) : QHeap) = (H0 s (s_fCk (s_fRk (s_fMode o y346) y347) y348)) := by simp only [fs, H0, H0v, H0x24, s_fMode, s_fRk, s_fCk]
    rw [E349]
    obtain rfl := Option.some.inj h
    exact QTri.retZ rfl rfl
def B0_36 (s : List Int32) (v : Int32 × Int64 × Int32 × Ob) : Option (((Int32 × QHeap)) ⊕ (Int32 × Int64 × Int32 × Ob)) :=
  (if v.2.2.1 < (s.length.toInt32) then (F1 s v.2.2.1).bind fun r261 => (F1 s (v.2.2.1 + (1 : Int32))).bind fun r262 => (F1 s (v.2.2.1 + (2 : Int32))).bind fun r263 => (F1 s (v.2.2.1 + (3 : Int32))).bind fun r264 => (if (3 : Int32) < (r261 &&& (7 : Int32)) then (if (r261 &&& (7 : Int32)) = (7 : Int32) then (F15 v.2.2.2 (r262 &&& (15 : Int32)) (r263 &&& (3 : Int32)) r264).bind fun r300 => (J0_324 s r300.2 v.1 v.2.1 v.2.2.1) else (if (r261 &&& (7 : Int32)) = (4 : Int32) then (F23 v.2.2.2 (r262 &&& (15 : Int32))).bind fun r318 => (J0_324 s r318.2 v.1 v.2.1 v.2.2.1) else (if (r261 &&& (7 : Int32)) = (5 : Int32) then (F24 v.2.2.2 (r262 &&& (3 : Int32)) (r263 &&& (3 : Int32)) (r264 &&& (3 : Int32)) (((XT.ushr r262 (2 : Int32)) &&& (7 : Int32)) - (2 : Int32))).bind fun r334 => (J0_324 s r334.2 (if r334.1 = (0 : Int32) then v.1 else (if (((XT.ushr r262 (2 : Int32)) &&& (7 : Int32)) - (2 : Int32)) < (0 : Int32) then v.1 else (if (3 : Int32) < (((XT.ushr r262 (2 : Int32)) &&& (7 : Int32)) - (2 : Int32)) then v.1 else (((XT.ushr r262 (2 : Int32)) &&& (7 : Int32)) - (2 : Int32))))) v.2.1 v.2.2.1) else (F14 r264).bind fun r340 => (F14 (XT.ushr r264 (3 : Int32))).bind fun r341 => (F26 v.2.2.2 (r262 &&& (7 : Int32)) ((r263 &&& (7 : Int32)) - (1 : Int32)) r340 r341).bind fun r350 => (J0_324 s r350.2 v.1 (if r350.1 = (0 : Int32) then v.2.1 else (if (r262 &&& (7 : Int32)) < (6 : Int32) then (if ((r263 &&& (7 : Int32)) - (1 : Int32)) < (0 : Int32) then v.2.1 else (if (4 : Int32) < ((r263 &&& (7 : Int32)) - (1 : Int32)) then v.2.1 else ((v.2.1 &&& (((511 : Int64) <<< (((9 : Int32) * (r262 &&& (7 : Int32))).toInt64 &&& 63)) ^^^ (-1 : Int64))) ||| ((((((r263 &&& (7 : Int32)) - (1 : Int32)).toInt64) ||| (((r340 + (4 : Int32)).toInt64) <<< ((3 : Int32).toInt64 &&& 63))) ||| (((r341 + (4 : Int32)).toInt64) <<< ((6 : Int32).toInt64 &&& 63))) <<< (((9 : Int32) * (r262 &&& (7 : Int32))).toInt64 &&& 63))))) else v.2.1)) v.2.2.1)))) else (F14 r264).bind fun r357 => (F15 v.2.2.2 (r262 &&& (15 : Int32)) (r263 &&& (3 : Int32)) r357).bind fun r358 => (J0_324 s r358.2 v.1 v.2.1 v.2.2.1)) else some (.inl ((1 : Int32), (H0 s v.2.2.2))))
theorem tB0_36 (Ad : QAd n0 ad) (W : QW Z a0) (s : List Int32) (v : Int32 × Int64 × Int32 × Ob) {r : ((Int32 × QHeap)) ⊕ (Int32 × Int64 × Int32 × Ob)} {u : Option Value} {τ : QHeap} (h : B0_36 s v = some r) (hx0 : ∀ x : Int32 × QHeap, r = .inl x → u = (some (Value.int x.1)) ∧ τ = x.2) (hc : ∀ x : Int32 × Int64 × Int32 × Ob, r = .inr x → QTri l Z n0 ad 0 (36, [vR 0, vR 1, vI x.1, vL x.2.1, none, vI x.2.2.1, none, none, none, none, none, none, none, none, none, none], [], (H0 s x.2.2.2)) u τ) : QTri l Z n0 ad 0 (36, [vR 0, vR 1, vI v.1, vL v.2.1, none, vI v.2.2.1, none, none, none, none, none, none, none, none, none, none], [], (H0 s v.2.2.2)) u τ := by
 unfold B0_36 at h
 refine zS Ad W 3 (st' := (40, [vR 0, vR 1, vI v.1, vL v.2.1, none, vI v.2.2.1, none, none, none, none, none, none, none, none, none, none], [.int (s.length.toInt32), .int v.2.2.1], (H0 s v.2.2.2))) rfl ?_
 rcases qite h with ⟨hc258, h⟩ | ⟨hc258, h⟩
 ·refine zF Ad W (t := 341) (f := 43) rfl (XT.ii_ge_f hc258) ?_
  refine zS Ad W 2 (st' := (46, [vR 0, vR 1, vI v.1, vL v.2.1, none, vI v.2.2.1, none, none, none, none, none, none, none, none, none, none], [.int v.2.2.1, .ref 0], (H0 s v.2.2.2))) rfl ?_
  obtain ⟨r261, hr261, h⟩ := bind_eq_some_iff.mp h
  refine QTri.callS W (as := [.ref 0, .int v.2.2.1]) (rest := []) (w := (some (.int r261))) (σ₁ := (H0 s v.2.2.2)) rfl rfl rfl rfl rfl rfl rfl (tF1a1 Ad W v.2.2.2 s v.2.2.1 hr261) ?_
  refine zS Ad W 7 (st' := (59, [vR 0, vR 1, vI v.1, vL v.2.1, none, vI v.2.2.1, vI (r261 &&& (7:Int32)), none, none, none, none, none, none, none, none, none], [.int (v.2.2.1 + (1:Int32)), .ref 0], (H0 s v.2.2.2))) rfl ?_
  obtain ⟨r262, hr262, h⟩ := bind_eq_some_iff.mp h
  refine QTri.callS W (as := [.ref 0, .int (v.2.2.1 + (1:Int32))]) (rest := []) (w := (some (.int r262))) (σ₁ := (H0 s v.2.2.2)) rfl rfl rfl rfl rfl rfl rfl (tF1a1 Ad W v.2.2.2 s (v.2.2.1 + (1:Int32)) hr262) ?_
  refine zS Ad W 5 (st' := (69, [vR 0, vR 1, vI v.1, vL v.2.1, none, vI v.2.2.1, vI (r261 &&& (7:Int32)), vI r262, none, none, none, none, none, none, none, none], [.int (v.2.2.1 + (2:Int32)), .ref 0], (H0 s v.2.2.2))) rfl ?_
  obtain ⟨r263, hr263, h⟩ := bind_eq_some_iff.mp h
  refine QTri.callS W (as := [.ref 0, .int (v.2.2.1 + (2:Int32))]) (rest := []) (w := (some (.int r263))) (σ₁ := (H0 s v.2.2.2)) rfl rfl rfl rfl rfl rfl rfl (tF1a1 Ad W v.2.2.2 s (v.2.2.1 + (2:Int32)) hr263) ?_
  refine zS Ad W 5 (st' := (79, [vR 0, vR 1, vI v.1, vL v.2.1, none, vI v.2.2.1, vI (r261 &&& (7:Int32)), vI r262, vI r263, none, none, none, none, none, none, none], [.int (v.2.2.1 + (3:Int32)), .ref 0], (H0 s v.2.2.2))) rfl ?_
  obtain ⟨r264, hr264, h⟩ := bind_eq_some_iff.mp h
  refine QTri.callS W (as := [.ref 0, .int (v.2.2.1 + (3:Int32))]) (rest := []) (w := (some (.int r264))) (σ₁ := (H0 s v.2.2.2)) rfl rfl rfl rfl rfl rfl rfl (tF1a1 Ad W v.2.2.2 s (v.2.2.1 + (3:Int32)) hr264) ?_
  refine zS Ad W 3 (st' := (87, [vR 0, vR 1, vI v.1, vL v.2.1, none, vI v.2.2.1, vI (r261 &&& (7:Int32)), vI r262, vI r263, vI r264, none, none, none, none, none, none], [.int (3:Int32), .int (r261 &&& (7:Int32))], (H0 s v.2.2.2))) rfl ?_
  rcases qite h with ⟨hc265, h⟩ | ⟨hc265, h⟩
  ·refine zT Ad W (t := 112) (f := 90) rfl (XT.ii_gt_t hc265) ?_
   refine zS Ad W 2 (st' := (116, [vR 0, vR 1, vI v.1, vL v.2.1, none, vI v.2.2.1, vI (r261 &&& (7:Int32)), vI r262, vI r263, vI r264, none, none, none, none, none, none], [.int (7:Int32), .int (r261 &&& (7:Int32))], (H0 s v.2.2.2))) rfl ?_
   rcases qite h with ⟨hc266, h⟩ | ⟨hc266, h⟩
   ·refine zF Ad W (t := 138) (f := 119) rfl (XT.ii_ne_f hc266) ?_
    refine zS Ad W 8 (st' := (131, [vR 0, vR 1, vI v.1, vL v.2.1, none, vI v.2.2.1, vI (r261 &&& (7:Int32)), vI r262, vI r263, vI r264, none, none, none, none, none, none], [.int r264, .int (r263 &&& (3:Int32)), .int (r262 &&& (15:Int32)), .ref 1], (H0 s v.2.2.2))) rfl ?_
    obtain ⟨r300, hr300, h⟩ := bind_eq_some_iff.mp h
    refine QTri.callV W (a := 1) (as := [.int (r262 &&& (15:Int32)), .int (r263 &&& (3:Int32)), .int r264]) (rest := []) (w := (some (.int r300.1))) (σ₁ := (H0 s r300.2)) rfl rfl rfl rfl rfl rfl rfl rfl (tF15 Ad W s v.2.2.2 (r262 &&& (15:Int32)) (r263 &&& (3:Int32)) r264 hr300) ?_
    refine zS Ad W 2 (st' := (324, [vR 0, vR 1, vI v.1, vL v.2.1, none, vI v.2.2.1, vI (r261 &&& (7:Int32)), vI r262, vI r263, vI r264, none, none, none, none, none, none], [], (H0 s r300.2))) rfl ?_
    exact zM [tt,tt,tt,tt,ff,tt,ff,ff,ff,ff,ff,ff,ff,ff,ff,ff] (tJ0_324 Ad W s r300.2 v.1 v.2.1 v.2.2.1 h hx0 hc)
   ·refine zT Ad W (t := 138) (f := 119) rfl (XT.ii_ne_t hc266) ?_
    refine zS Ad W 2 (st' := (141, [vR 0, vR 1, vI v.1, vL v.2.1, none, vI v.2.2.1, vI (r261 &&& (7:Int32)), vI r262, vI r263, vI r264, none, none, none, none, none, none], [.int (4:Int32), .int (r261 &&& (7:Int32))], (H0 s v.2.2.2))) rfl ?_
    rcases qite h with ⟨hc303, h⟩ | ⟨hc303, h⟩
    ·refine zF Ad W (t := 157) (f := 144) rfl (XT.ii_ne_f hc303) ?_
     refine zS Ad W 4 (st' := (150, [vR 0, vR 1, vI v.1, vL v.2.1, none, vI v.2.2.1, vI (r261 &&& (7:Int32)), vI r262, vI r263, vI r264, none, none, none, none, none, none], [.int (r262 &&& (15:Int32)), .ref 1], (H0 s v.2.2.2))) rfl ?_
     obtain ⟨r318, hr318, h⟩ := bind_eq_some_iff.mp h
     refine QTri.callV W (a := 1) (as := [.int (r262 &&& (15:Int32))]) (rest := []) (w := (some (.int r318.1))) (σ₁ := (H0 s r318.2)) rfl rfl rfl rfl rfl rfl rfl rfl (tF23 Ad W s v.2.2.2 (r262 &&& (15:Int32)) hr318) ?_
     refine zS Ad W 2 (st' := (324, [vR 0, vR 1, vI v.1, vL v.2.1, none, vI v.2.2.1, vI (r261 &&& (7:Int32)), vI r262, vI r263, vI r264, none, none, none, none, none, none], [], (H0 s r318.2))) rfl ?_
     exact zM [tt,tt,tt,tt,ff,tt,ff,ff,ff,ff,ff,ff,ff,ff,ff,ff] (tJ0_324 Ad W s r318.2 v.1 v.2.1 v.2.2.1 h hx0 hc)
    ·refine zT Ad W (t := 157) (f := 144) rfl (XT.ii_ne_t hc303) ?_
     refine zS Ad W 2 (st' := (160, [vR 0, vR 1, vI v.1, vL v.2.1, none, vI v.2.2.1, vI (r261 &&& (7:Int32)), vI r262, vI r263, vI r264, none, none, none, none, none, none], [.int (5:Int32), .int (r261 &&& (7:Int32))], (H0 s v.2.2.2))) rfl ?_
     rcases qite h with ⟨hc319, h⟩ | ⟨hc319, h⟩
     ·refine zF Ad W (t := 212) (f := 163) rfl (XT.ii_ne_f hc319) ?_
      refine zS Ad W 12 (st' := (179, [vR 0, vR 1, vI v.1, vL v.2.1, none, vI v.2.2.1, vI (r261 &&& (7:Int32)), vI r262, vI r263, vI r264, vI (((XT.ushr r262 (2:Int32)) &&& (7:Int32)) - (2:Int32)), none, none, none, none, none], [.int (r262 &&& (3:Int32)), .ref 1], (H0 s v.2.2.2))) rfl ?_
      refine zS Ad W 7 (st' := (189, [vR 0, vR 1, vI v.1, vL v.2.1, none, vI v.2.2.1, vI (r261 &&& (7:Int32)), vI r262, vI r263, vI r264, vI (((XT.ushr r262 (2:Int32)) &&& (7:Int32)) - (2:Int32)), none, none, none, none, none], [.int (((XT.ushr r262 (2:Int32)) &&& (7:Int32)) - (2:Int32)), .int (r264 &&& (3:Int32)), .int (r263 &&& (3:Int32)), .int (r262 &&& (3:Int32)), .ref 1], (H0 s v.2.2.2))) rfl ?_
      obtain ⟨r334, hr334, h⟩ := bind_eq_some_iff.mp h
      refine QTri.callV W (a := 1) (as := [.int (r262 &&& (3:Int32)), .int (r263 &&& (3:Int32)), .int (r264 &&& (3:Int32)), .int (((XT.ushr r262 (2:Int32)) &&& (7:Int32)) - (2:Int32))]) (rest := []) (w := (some (.int r334.1))) (σ₁ := (H0 s r334.2)) rfl rfl rfl rfl rfl rfl rfl rfl (tF24 Ad W s v.2.2.2 (r262 &&& (3:Int32)) (r263 &&& (3:Int32)) (r264 &&& (3:Int32)) (((XT.ushr r262 (2:Int32)) &&& (7:Int32)) - (2:Int32)) hr334) ?_
      have K336 : ∀ z335 : Int32, z335 = (if r334.1 = (0:Int32) then v.1 else (if (((XT.ushr r262 (2:Int32)) &&& (7:Int32)) - (2:Int32)) < (0:Int32) then v.1 else (if (3:Int32) < (((XT.ushr r262 (2:Int32)) &&& (7:Int32)) - (2:Int32)) then v.1 else (((XT.ushr r262 (2:Int32)) &&& (7:Int32)) - (2:Int32))))) → QTri l Z n0 ad 0 (209, [vR 0, vR 1, vI z335, vL v.2.1, none, vI v.2.2.1, none, none, none, none, none, none, none, none, none, none], [], (H0 s r334.2)) u τ := by
       intro z335 ez335
       subst ez335
       refine zS Ad W 1 (st' := (324, [vR 0, vR 1, vI (if r334.1 = (0:Int32) then v.1 else (if (((XT.ushr r262 (2:Int32)) &&& (7:Int32)) - (2:Int32)) < (0:Int32) then v.1 else (if (3:Int32) < (((XT.ushr r262 (2:Int32)) &&& (7:Int32)) - (2:Int32)) then v.1 else (((XT.ushr r262 (2:Int32)) &&& (7:Int32)) - (2:Int32))))), vL v.2.1, none, vI v.2.2.1, none, none, none, none, none, none, none, none, none, none], [], (H0 s r334.2))) rfl ?_
       exact zM [tt,tt,tt,tt,ff,tt,ff,ff,ff,ff,ff,ff,ff,ff,ff,ff] (tJ0_324 Ad W s r334.2 (if r334.1 = (0:Int32) then v.1 else (if (((XT.ushr r262 (2:Int32)) &&& (7:Int32)) - (2:Int32)) < (0:Int32) then v.1 else (if (3:Int32) < (((XT.ushr r262 (2:Int32)) &&& (7:Int32)) - (2:Int32)) then v.1 else (((XT.ushr r262 (2:Int32)) &&& (7:Int32)) - (2:Int32))))) v.2.1 v.2.2.1 h hx0 hc)
      rcases em (r334.1 = (0:Int32)) with hc337 | hc337
      ·refine zT Ad W (t := 209) (f := 195) rfl (XT.i0_eq_t hc337) ?_
       exact zM [tt,tt,tt,tt,ff,tt,ff,ff,ff,ff,ff,ff,ff,ff,ff,ff] (K336 _ (if_pos hc337).symm)
      ·refine zF Ad W (t := 209) (f := 195) rfl (XT.i0_eq_f hc337) ?_
       refine zS Ad W 1 (st' := (197, [vR 0, vR 1, vI v.1, vL v.2.1, none, vI v.2.2.1, vI (r261 &&& (7:Int32)), vI r262, vI r263, vI r264, vI (((XT.ushr r262 (2:Int32)) &&& (7:Int32)) - (2:Int32)), none, none, none, none, none], [.int (((XT.ushr r262 (2:Int32)) &&& (7:Int32)) - (2:Int32))], (H0 s r334.2))) rfl ?_
       rcases em ((((XT.ushr r262 (2:Int32)) &&& (7:Int32)) - (2:Int32)) < (0:Int32)) with hc338 | hc338
       ·refine zT Ad W (t := 209) (f := 200) rfl (XT.i0_lt_t hc338) ?_
        exact zM [tt,tt,tt,tt,ff,tt,ff,ff,ff,ff,ff,ff,ff,ff,ff,ff] (K336 _ ((if_neg hc337).trans (if_pos hc338)).symm)
       ·refine zF Ad W (t := 209) (f := 200) rfl (XT.i0_lt_f hc338) ?_
        refine zS Ad W 2 (st' := (203, [vR 0, vR 1, vI v.1, vL v.2.1, none, vI v.2.2.1, vI (r261 &&& (7:Int32)), vI r262, vI r263, vI r264, vI (((XT.ushr r262 (2:Int32)) &&& (7:Int32)) - (2:Int32)), none, none, none, none, none], [.int (3:Int32), .int (((XT.ushr r262 (2:Int32)) &&& (7:Int32)) - (2:Int32))], (H0 s r334.2))) rfl ?_
        rcases em ((3:Int32) < (((XT.ushr r262 (2:Int32)) &&& (7:Int32)) - (2:Int32))) with hc339 | hc339
        ·refine zT Ad W (t := 209) (f := 206) rfl (XT.ii_gt_t hc339) ?_
         exact zM [tt,tt,tt,tt,ff,tt,ff,ff,ff,ff,ff,ff,ff,ff,ff,ff] (K336 _ ((if_neg hc337).trans ((if_neg hc338).trans (if_pos hc339))).symm)
        ·refine zF Ad W (t := 209) (f := 206) rfl (XT.ii_gt_f hc339) ?_
         refine zS Ad W 2 (st' := (209, [vR 0, vR 1, vI (((XT.ushr r262 (2:Int32)) &&& (7:Int32)) - (2:Int32)), vL v.2.1, none, vI v.2.2.1, vI (r261 &&& (7:Int32)), vI r262, vI r263, vI r264, vI (((XT.ushr r262 (2:Int32)) &&& (7:Int32)) - (2:Int32)), none, none, none, none, none], [], (H0 s r334.2))) rfl ?_
         exact zM [tt,tt,tt,tt,ff,tt,ff,ff,ff,ff,ff,ff,ff,ff,ff,ff] (K336 _ ((if_neg hc337).trans ((if_neg hc338).trans (if_neg hc339))).symm)
     ·refine zT Ad W (t := 212) (f := 163) rfl (XT.ii_ne_t hc319) ?_
      refine zS Ad W 10 (st' := (228, [vR 0, vR 1, vI v.1, vL v.2.1, none, vI v.2.2.1, vI (r261 &&& (7:Int32)), vI r262, vI r263, vI r264, vI (r262 &&& (7:Int32)), vI ((r263 &&& (7:Int32)) - (1:Int32)), none, none, none, none], [], (H0 s v.2.2.2))) rfl ?_
      refine zS Ad W 1 (st' := (230, [vR 0, vR 1, vI v.1, vL v.2.1, none, vI v.2.2.1, vI (r261 &&& (7:Int32)), vI r262, vI r263, vI r264, vI (r262 &&& (7:Int32)), vI ((r263 &&& (7:Int32)) - (1:Int32)), none, none, none, none], [.int r264], (H0 s v.2.2.2))) rfl ?_
      obtain ⟨r340, hr340, h⟩ := bind_eq_some_iff.mp h
      refine QTri.callS W (as := [.int r264]) (rest := []) (w := (some (.int r340))) (σ₁ := (H0 s v.2.2.2)) rfl rfl rfl rfl rfl rfl rfl (tF14 Ad W r264 hr340) ?_
      refine zS Ad W 4 (st' := (239, [vR 0, vR 1, vI v.1, vL v.2.1, none, vI v.2.2.1, vI (r261 &&& (7:Int32)), vI r262, vI r263, vI r264, vI (r262 &&& (7:Int32)), vI ((r263 &&& (7:Int32)) - (1:Int32)), vI r340, none, none, none], [.int (XT.ushr r264 (3:Int32))], (H0 s v.2.2.2))) rfl ?_
      obtain ⟨r341, hr341, h⟩ := bind_eq_some_iff.mp h
      refine QTri.callS W (as := [.int (XT.ushr r264 (3:Int32))]) (rest := []) (w := (some (.int r341))) (σ₁ := (H0 s v.2.2.2)) rfl rfl rfl rfl rfl rfl rfl (tF14 Ad W (XT.ushr r264 (3:Int32)) hr341) ?_
      refine zS Ad W 6 (st' := (253, [vR 0, vR 1, vI v.1, vL v.2.1, none, vI v.2.2.1, vI (r261 &&& (7:Int32)), vI r262, vI r263, vI r264, vI (r262 &&& (7:Int32)), vI ((r263 &&& (7:Int32)) - (1:Int32)), vI r340, vI r341, none, none], [.int r341, .int r340, .int ((r263 &&& (7:Int32)) - (1:Int32)), .int (r262 &&& (7:Int32)), .ref 1], (H0 s v.2.2.2))) rfl ?_
      obtain ⟨r350, hr350, h⟩ := bind_eq_some_iff.mp h
      refine QTri.callV W (a := 1) (as := [.int (r262 &&& (7:Int32)), .int ((r263 &&& (7:Int32)) - (1:Int32)), .int r340, .int r341]) (rest := []) (w := (some (.int r350.1))) (σ₁ := (H0 s r350.2)) rfl rfl rfl rfl rfl rfl rfl rfl (tF26 Ad W s v.2.2.2 (r262 &&& (7:Int32)) ((r263 &&& (7:Int32)) - (1:Int32)) r340 r341 hr350) ?_
      have K352 : ∀ z351 : Int64, z351 = (if r350.1 = (0:Int32) then v.2.1 else (if (r262 &&& (7:Int32)) < (6:Int32) then (if ((r263 &&& (7:Int32)) - (1:Int32)) < (0:Int32) then v.2.1 else (if (4:Int32) < ((r263 &&& (7:Int32)) - (1:Int32)) then v.2.1 else ((v.2.1 &&& (((511 : Int64) <<< (((9:Int32) * (r262 &&& (7:Int32))).toInt64 &&& 63)) ^^^ (-1 : Int64))) ||| ((((((r263 &&& (7:Int32)) - (1:Int32)).toInt64) ||| (((r340 + (4:Int32)).toInt64) <<< ((3:Int32).toInt64 &&& 63))) ||| (((r341 + (4:Int32)).toInt64) <<< ((6:Int32).toInt64 &&& 63))) <<< (((9:Int32) * (r262 &&& (7:Int32))).toInt64 &&& 63))))) else v.2.1)) → QTri l Z n0 ad 0 (324, [vR 0, vR 1, vI v.1, vL z351, none, vI v.2.2.1, none, none, none, none, none, none, none, none, none, none], [], (H0 s r350.2)) u τ := by
       intro z351 ez351
       subst ez351
       exact zM [tt,tt,tt,tt,ff,tt,ff,ff,ff,ff,ff,ff,ff,ff,ff,ff] (tJ0_324 Ad W s r350.2 v.1 (if r350.1 = (0:Int32) then v.2.1 else (if (r262 &&& (7:Int32)) < (6:Int32) then (if ((r263 &&& (7:Int32)) - (1:Int32)) < (0:Int32) then v.2.1 else (if (4:Int32) < ((r263 &&& (7:Int32)) - (1:Int32)) then v.2.1 else ((v.2.1 &&& (((511 : Int64) <<< (((9:Int32) * (r262 &&& (7:Int32))).toInt64 &&& 63)) ^^^ (-1 : Int64))) ||| ((((((r263 &&& (7:Int32)) - (1:Int32)).toInt64) ||| (((r340 + (4:Int32)).toInt64) <<< ((3:Int32).toInt64 &&& 63))) ||| (((r341 + (4:Int32)).toInt64) <<< ((6:Int32).toInt64 &&& 63))) <<< (((9:Int32) * (r262 &&& (7:Int32))).toInt64 &&& 63))))) else v.2.1)) v.2.2.1 h hx0 hc)
      rcases em (r350.1 = (0:Int32)) with hc353 | hc353
      ·refine zT Ad W (t := 324) (f := 259) rfl (XT.i0_eq_t hc353) ?_
       exact zM [tt,tt,tt,tt,ff,tt,ff,ff,ff,ff,ff,ff,ff,ff,ff,ff] (K352 _ (if_pos hc353).symm)
      ·refine zF Ad W (t := 324) (f := 259) rfl (XT.i0_eq_f hc353) ?_
       refine zS Ad W 2 (st' := (263, [vR 0, vR 1, vI v.1, vL v.2.1, none, vI v.2.2.1, vI (r261 &&& (7:Int32)), vI r262, vI r263, vI r264, vI (r262 &&& (7:Int32)), vI ((r263 &&& (7:Int32)) - (1:Int32)), vI r340, vI r341, none, none], [.int (6:Int32), .int (r262 &&& (7:Int32))], (H0 s r350.2))) rfl ?_
       rcases em ((r262 &&& (7:Int32)) < (6:Int32)) with hc354 | hc354
       ·refine zF Ad W (t := 324) (f := 266) rfl (XT.ii_ge_f hc354) ?_
        refine zS Ad W 1 (st' := (268, [vR 0, vR 1, vI v.1, vL v.2.1, none, vI v.2.2.1, vI (r261 &&& (7:Int32)), vI r262, vI r263, vI r264, vI (r262 &&& (7:Int32)), vI ((r263 &&& (7:Int32)) - (1:Int32)), vI r340, vI r341, none, none], [.int ((r263 &&& (7:Int32)) - (1:Int32))], (H0 s r350.2))) rfl ?_
        rcases em (((r263 &&& (7:Int32)) - (1:Int32)) < (0:Int32)) with hc355 | hc355
        ·refine zT Ad W (t := 324) (f := 271) rfl (XT.i0_lt_t hc355) ?_
         exact zM [tt,tt,tt,tt,ff,tt,ff,ff,ff,ff,ff,ff,ff,ff,ff,ff] (K352 _ ((if_neg hc353).trans ((if_pos hc354).trans (if_pos hc355))).symm)
        ·refine zF Ad W (t := 324) (f := 271) rfl (XT.i0_lt_f hc355) ?_
         refine zS Ad W 2 (st' := (274, [vR 0, vR 1, vI v.1, vL v.2.1, none, vI v.2.2.1, vI (r261 &&& (7:Int32)), vI r262, vI r263, vI r264, vI (r262 &&& (7:Int32)), vI ((r263 &&& (7:Int32)) - (1:Int32)), vI r340, vI r341, none, none], [.int (4:Int32), .int ((r263 &&& (7:Int32)) - (1:Int32))], (H0 s r350.2))) rfl ?_
         rcases em ((4:Int32) < ((r263 &&& (7:Int32)) - (1:Int32))) with hc356 | hc356
         ·refine zT Ad W (t := 324) (f := 277) rfl (XT.ii_gt_t hc356) ?_
          exact zM [tt,tt,tt,tt,ff,tt,ff,ff,ff,ff,ff,ff,ff,ff,ff,ff] (K352 _ ((if_neg hc353).trans ((if_pos hc354).trans ((if_neg hc355).trans (if_pos hc356)))).symm)
         ·refine zF Ad W (t := 324) (f := 277) rfl (XT.ii_gt_f hc356) ?_
          refine zS Ad W 10 (st' := (290, [vR 0, vR 1, vI v.1, vL v.2.1, none, vI v.2.2.1, vI (r261 &&& (7:Int32)), vI r262, vI r263, vI r264, vI (r262 &&& (7:Int32)), vI ((r263 &&& (7:Int32)) - (1:Int32)), vI r340, vI r341, none, none], [.int r341, .long ((((r263 &&& (7:Int32)) - (1:Int32)).toInt64) ||| (((r340 + (4:Int32)).toInt64) <<< ((3:Int32).toInt64 &&& 63)))], (H0 s r350.2))) rfl ?_
          refine zS Ad W 10 (st' := (305, [vR 0, vR 1, vI v.1, vL v.2.1, none, vI v.2.2.1, vI (r261 &&& (7:Int32)), vI r262, vI r263, vI r264, vI (r262 &&& (7:Int32)), vI ((r263 &&& (7:Int32)) - (1:Int32)), vI r340, vI r341, vL (((((r263 &&& (7:Int32)) - (1:Int32)).toInt64) ||| (((r340 + (4:Int32)).toInt64) <<< ((3:Int32).toInt64 &&& 63))) ||| (((r341 + (4:Int32)).toInt64) <<< ((6:Int32).toInt64 &&& 63))), none], [.int (9:Int32), .long (511 : Int64), .long v.2.1], (H0 s r350.2))) rfl ?_
          refine zS Ad W 10 (st' := (321, [vR 0, vR 1, vI v.1, vL v.2.1, none, vI v.2.2.1, vI (r261 &&& (7:Int32)), vI r262, vI r263, vI r264, vI (r262 &&& (7:Int32)), vI ((r263 &&& (7:Int32)) - (1:Int32)), vI r340, vI r341, vL (((((r263 &&& (7:Int32)) - (1:Int32)).toInt64) ||| (((r340 + (4:Int32)).toInt64) <<< ((3:Int32).toInt64 &&& 63))) ||| (((r341 + (4:Int32)).toInt64) <<< ((6:Int32).toInt64 &&& 63))), none], [.int ((9:Int32) * (r262 &&& (7:Int32))), .long (((((r263 &&& (7:Int32)) - (1:Int32)).toInt64) ||| (((r340 + (4:Int32)).toInt64) <<< ((3:Int32).toInt64 &&& 63))) ||| (((r341 + (4:Int32)).toInt64) <<< ((6:Int32).toInt64 &&& 63))), .long (v.2.1 &&& (((511 : Int64) <<< (((9:Int32) * (r262 &&& (7:Int32))).toInt64 &&& 63)) ^^^ (-1 : Int64)))], (H0 s r350.2))) rfl ?_
          refine zS Ad W 3 (st' := (324, [vR 0, vR 1, vI v.1, vL ((v.2.1 &&& (((511 : Int64) <<< (((9:Int32) * (r262 &&& (7:Int32))).toInt64 &&& 63)) ^^^ (-1 : Int64))) ||| ((((((r263 &&& (7:Int32)) - (1:Int32)).toInt64) ||| (((r340 + (4:Int32)).toInt64) <<< ((3:Int32).toInt64 &&& 63))) ||| (((r341 + (4:Int32)).toInt64) <<< ((6:Int32).toInt64 &&& 63))) <<< (((9:Int32) * (r262 &&& (7:Int32))).toInt64 &&& 63))), none, vI v.2.2.1, vI (r261 &&& (7:Int32)), vI r262, vI r263, vI r264, vI (r262 &&& (7:Int32)), vI ((r263 &&& (7:Int32)) - (1:Int32)), vI r340, vI r341, vL (((((r263 &&& (7:Int32)) - (1:Int32)).toInt64) ||| (((r340 + (4:Int32)).toInt64) <<< ((3:Int32).toInt64 &&& 63))) ||| (((r341 + (4:Int32)).toInt64) <<< ((6:Int32).toInt64 &&& 63))), none], [], (H0 s r350.2))) rfl ?_
          exact zM [tt,tt,tt,tt,ff,tt,ff,ff,ff,ff,ff,ff,ff,ff,ff,ff] (K352 _ ((if_neg hc353).trans ((if_pos hc354).trans ((if_neg hc355).trans (if_neg hc356)))).symm)
       ·refine zT Ad W (t := 324) (f := 266) rfl (XT.ii_ge_t hc354) ?_
        exact zM [tt,tt,tt,tt,ff,tt,ff,ff,ff,ff,ff,ff,ff,ff,ff,ff] (K352 _ ((if_neg hc353).trans (if_neg hc354)).symm)
  ·refine zF Ad W (t := 112) (f := 90) rfl (XT.ii_gt_f hc265) ?_
   refine zS Ad W 8 (st' := (102, [vR 0, vR 1, vI v.1, vL v.2.1, none, vI v.2.2.1, vI (r261 &&& (7:Int32)), vI r262, vI r263, vI r264, none, none, none, none, none, none], [.int r264, .int (r263 &&& (3:Int32)), .int (r262 &&& (15:Int32)), .ref 1], (H0 s v.2.2.2))) rfl ?_
   obtain ⟨r357, hr357, h⟩ := bind_eq_some_iff.mp h
   refine QTri.callS W (as := [.int r264]) (rest := [.int (r263 &&& (3:Int32)), .int (r262 &&& (15:Int32)), .ref 1]) (w := (some (.int r357))) (σ₁ := (H0 s v.2.2.2)) rfl rfl rfl rfl rfl rfl rfl (tF14 Ad W r264 hr357) ?_
   obtain ⟨r358, hr358, h⟩ := bind_eq_some_iff.mp h
   refine QTri.callV W (a := 1) (as := [.int (r262 &&& (15:Int32)), .int (r263 &&& (3:Int32)), .int r357]) (rest := []) (w := (some (.int r358.1))) (σ₁ := (H0 s r358.2)) rfl rfl rfl rfl rfl rfl rfl rfl (tF15 Ad W s v.2.2.2 (r262 &&& (15:Int32)) (r263 &&& (3:Int32)) r357 hr358) ?_
   refine zS Ad W 2 (st' := (324, [vR 0, vR 1, vI v.1, vL v.2.1, none, vI v.2.2.1, vI (r261 &&& (7:Int32)), vI r262, vI r263, vI r264, none, none, none, none, none, none], [], (H0 s r358.2))) rfl ?_
   exact zM [tt,tt,tt,tt,ff,tt,ff,ff,ff,ff,ff,ff,ff,ff,ff,ff] (tJ0_324 Ad W s r358.2 v.1 v.2.1 v.2.2.1 h hx0 hc)
 ·refine zT Ad W (t := 341) (f := 43) rfl (XT.ii_ge_t hc258) ?_
  refine zS Ad W 1 (st' := (342, [vR 0, vR 1, vI v.1, vL v.2.1, none, vI v.2.2.1, none, none, none, none, none, none, none, none, none, none], [.int (1:Int32)], (H0 s v.2.2.2))) rfl ?_
  obtain rfl := Option.some.inj h
  obtain ⟨rfl, rfl⟩ := hx0 ((1:Int32), (H0 s v.2.2.2)) rfl
  exact QTri.retZ rfl rfl
/-- the law -/
def F0 (s : List Int32) : Option (Int32 × QHeap) :=
 (F1 s (0:Int32)).bind fun r3 => (F2 (r3 &&& (15:Int32)) (6:Int32)).bind fun r17 => (F3 r17 (0:Int32) (0 : Int64)).bind fun r256 => (if r256.1 = (0:Int32) then some ((0:Int32), (H0 s r256.2)) else (loopN (B0_36 s) qN ((0:Int32), (0 : Int64), (1:Int32), r256.2)).bind fun e359 => some e359)
theorem tF0 (Ad : QAd n0 ad) (W : QW Z a0) (s : List Int32) {r : Int32 × QHeap} (h : F0 s = some r) : QTri l Z n0 ad 0 (0, qentry [.ref 0] (pMaxL 0), [], [.inr (.inl (.int, s))]) (some (Value.int r.1)) r.2 := by
 unfold F0 at h
 refine zS Ad W 1 (st' := (3, [vR 0, none, none, none, none, none, none, none, none, none, none, none, none, none, none, none], [.ref 1], [.inr (.inl (.int, s)), .inl [.null, .null, .int (f_rf ob0), .int (f_cf ob0), .int (f_vf ob0), .int (f_ag ob0), .null, .null, .null, .null, .null, .null, .int (f_nRows ob0), .int (f_nForms ob0), .int (f_last ob0), .int (f_selUseR ob0), .int (f_selRk ob0), .int (f_selUseC ob0), .int (f_selCk ob0), .int (f_gCount ob0), .int (f_gVal ob0)]])) rfl ?_
 refine zS Ad W 3 (st' := (6, [vR 0, none, none, none, none, none, none, none, none, none, none, none, none, none, none, none], [.int (0:Int32), .ref 0, .ref 1, .ref 1], [.inr (.inl (.int, s)), .inl [.null, .null, .int (f_rf ob0), .int (f_cf ob0), .int (f_vf ob0), .int (f_ag ob0), .null, .null, .null, .null, .null, .null, .int (f_nRows ob0), .int (f_nForms ob0), .int (f_last ob0), .int (f_selUseR ob0), .int (f_selRk ob0), .int (f_selUseC ob0), .int (f_selCk ob0), .int (f_gCount ob0), .int (f_gVal ob0)]])) rfl ?_
 obtain ⟨r3, hr3, h⟩ := bind_eq_some_iff.mp h
 refine QTri.callS W (as := [.ref 0, .int (0:Int32)]) (rest := [.ref 1, .ref 1]) (w := (some (.int r3))) (σ₁ := [.inr (.inl (.int, s)), .inl [.null, .null, .int (f_rf ob0), .int (f_cf ob0), .int (f_vf ob0), .int (f_ag ob0), .null, .null, .null, .null, .null, .null, .int (f_nRows ob0), .int (f_nForms ob0), .int (f_last ob0), .int (f_selUseR ob0), .int (f_selRk ob0), .int (f_selUseC ob0), .int (f_selCk ob0), .int (f_gCount ob0), .int (f_gVal ob0)]]) rfl rfl rfl rfl rfl rfl rfl (tF1 Ad W ob0 s (0:Int32) hr3) ?_
 refine zS Ad W 3 (st' := (14, [vR 0, none, none, none, none, none, none, none, none, none, none, none, none, none, none, none], [.int (6:Int32), .int (r3 &&& (15:Int32)), .ref 1, .ref 1], [.inr (.inl (.int, s)), .inl [.null, .null, .int (f_rf ob0), .int (f_cf ob0), .int (f_vf ob0), .int (f_ag ob0), .null, .null, .null, .null, .null, .null, .int (f_nRows ob0), .int (f_nForms ob0), .int (f_last ob0), .int (f_selUseR ob0), .int (f_selRk ob0), .int (f_selUseC ob0), .int (f_selCk ob0), .int (f_gCount ob0), .int (f_gVal ob0)]])) rfl ?_
 obtain ⟨r17, hr17, h⟩ := bind_eq_some_iff.mp h
 refine QTri.callI W (a := 1) (as := [.int (r3 &&& (15:Int32)), .int (6:Int32)]) (rest := [.ref 1]) (σ₁ := (H0 s r17)) rfl rfl rfl rfl rfl rfl (tF2 Ad W s (r3 &&& (15:Int32)) (6:Int32) hr17) ?_
 refine zS Ad W 3 (st' := (20, [vR 0, vR 1, vI (0:Int32), none, none, none, none, none, none, none, none, none, none, none, none, none], [], (H0 s r17))) rfl ?_
 refine zS Ad W 5 (st' := (25, [vR 0, vR 1, vI (0:Int32), vL (0 : Int64), none, none, none, none, none, none, none, none, none, none, none, none], [.long (0 : Int64), .int (0:Int32), .ref 1], (H0 s r17))) rfl ?_
 obtain ⟨r256, hr256, h⟩ := bind_eq_some_iff.mp h
 refine QTri.callS W (as := [.ref 1, .int (0:Int32), .long (0 : Int64)]) (rest := []) (w := (some (.int r256.1))) (σ₁ := (H0 s r256.2)) rfl rfl rfl rfl rfl rfl rfl (tF3 Ad W s r17 (0:Int32) (0 : Int64) hr256) ?_
 rcases qite h with ⟨hc257, h⟩ | ⟨hc257, h⟩
 ·refine zF Ad W (t := 33) (f := 31) rfl (XT.i0_ne_f hc257) ?_
  refine zS Ad W 1 (st' := (32, [vR 0, vR 1, vI (0:Int32), vL (0 : Int64), none, none, none, none, none, none, none, none, none, none, none, none], [.int (0:Int32)], (H0 s r256.2))) rfl ?_
  obtain rfl := Option.some.inj h
  exact QTri.retZ rfl rfl
 ·refine zT Ad W (t := 33) (f := 31) rfl (XT.i0_ne_t hc257) ?_
  refine zS Ad W 2 (st' := (36, [vR 0, vR 1, vI (0:Int32), vL (0 : Int64), none, vI (1:Int32), none, none, none, none, none, none, none, none, none, none], [], (H0 s r256.2))) rfl ?_
  obtain ⟨e359, he359, h⟩ := bind_eq_some_iff.mp h
  refine zM [tt,tt,tt,tt,ff,tt,ff,ff,ff,ff,ff,ff,ff,ff,ff,ff] (loopN_tri (B := B0_36 s) (T := fun lv360 => QTri l Z n0 ad 0 (36, [vR 0, vR 1, vI lv360.1, vL lv360.2.1, none, vI lv360.2.2.1, none, none, none, none, none, none, none, none, none, none], [], (H0 s lv360.2.2.2)) (some (Value.int r.1)) r.2) (KE := fun e359a => (some (Value.int r.1)) = (some (Value.int e359a.1)) ∧ r.2 = e359a.2) (fun lv360 r hB hE hC => tB0_36 Ad W s lv360 hB (fun x q => hE _ q) (fun x q => hC x q)) qN ((0:Int32), (0 : Int64), (1:Int32), r256.2) e359 he359 ?_)
  obtain rfl := Option.some.inj h
  exact ⟨rfl, rfl⟩
end Walks
theorem script_ok {s : State} {w : Value} (hfit : Fit s) (h1 : (Jvm.Cond.arrayOf (Jvm.Term.arg 0) Jvm.ClassFile.FieldType.int).value #[w] s none s [] = some true) (h2 : (Jvm.Cond.le (Jvm.Term.length (Jvm.Term.arg 0)) (Jvm.Term.int 260)).value #[w] s none s [] = some true) :
    ∃ (a : Addr) (c : Cell) (xs : List Int32), w = .ref a ∧ Arr s s.heap a c .int ∧ c.slots = (xs.map Value.int).toArray ∧ xs.length ≤ 260 := by
  obtain ⟨a, ha⟩ := arr_v h1
  obtain ⟨c, A⟩ := Arr.start ha h1
  have hw : w = .ref a := by simpa [Term.eval] using ha
  subst hw
  have hel : ∀ i, i < c.slots.size → ∃ x, c.slots[i]? = some (.int x) := fun i hi => by
    have q := hfit A.1 hi
    obtain ⟨hs, k, hk, comp, hkind⟩ := A.2.1
    have e : s.slotType? c.cls c.vm i = some .int := by
      cases hq : c.vm <;> first | exact absurd hq (hs _) | simp [State.slotType?, hk, hkind]
    have q2 : fits .int c.slots[i] = true := by simpa [State.fitsSlot, e] using q
    obtain ⟨x, hx⟩ := fit_I q2 (Or.inl rfl)
    exact ⟨x, by rw [Array.getElem?_eq_getElem hi, hx]⟩
  refine ⟨a, c, c.slots.toList.map (fun v => match v with | .int x => x | _ => 0), rfl, A, ?_, ?_⟩
  · apply Array.ext'
    rw [List.map_map]
    have : c.slots.toList.map (Value.int ∘ fun v => match v with | .int x => x | _ => 0) = c.slots.toList := by
      conv => rhs; rw [← List.map_id c.slots.toList]
      refine List.map_congr_left fun v hv => ?_
      obtain ⟨i, hi⟩ := List.mem_iff_getElem?.mp hv
      rw [Array.getElem?_toList] at hi
      obtain ⟨x, hx⟩ := hel i (Array.getElem?_eq_some_iff.mp hi).1
      rw [hi] at hx
      cases hx
      rfl
    exact this.symm
  · have hl := A.fin (Vm.Alike.refl _)
    simp only [List.length_map, Array.length_toList]
    simp only [Cond.value, Term.eval] at h2
    simp [hl] at h2
    by_cases hs : c.slots.size < 2147483648
    · rw [if_pos hs] at h2
      have h3 : c.slots.size.toInt32 ≤ 260 := by simpa using h2
      rw [Int32.le_iff_toInt_le] at h3
      have h4 : (c.slots.size.toInt32).toInt = c.slots.size := Int32.toInt_ofNat_of_lt (by omega)
      rw [h4] at h3
      have h5 : (260 : Int32).toInt = 260 := rfl
      rw [h5] at h3
      omega
    · rw [if_neg hs] at h2
      simp at h2
set_option maxHeartbeats 4000000
theorem i_lt {x y : Int32} : x < y ↔ x.toInt < y.toInt := Int32.lt_iff_toInt_lt
theorem i_eq {x y : Int32} : x = y ↔ x.toInt = y.toInt := Int32.toInt_inj.symm
theorem i_lo (x : Int32) : -2147483648 ≤ x.toInt := Int32.le_toInt x
theorem i_hi (x : Int32) : x.toInt < 2147483648 := Int32.toInt_lt x
theorem i_add {x y : Int32} (h1 : -2147483648 ≤ x.toInt + y.toInt) (h2 : x.toInt + y.toInt < 2147483648) : (x + y).toInt = x.toInt + y.toInt := XT.add32 ⟨h1, by omega⟩
theorem i_sub {x y : Int32} (h1 : -2147483648 ≤ x.toInt - y.toInt) (h2 : x.toInt - y.toInt < 2147483648) : (x - y).toInt = x.toInt - y.toInt := XT.sub32 ⟨h1, by omega⟩
theorem i_mul {x y : Int32} (h1 : -2147483648 ≤ x.toInt * y.toInt) (h2 : x.toInt * y.toInt < 2147483648) : (x * y).toInt = x.toInt * y.toInt := XT.mul32 ⟨h1, by omega⟩
theorem i_nat (x : Int32) : x.toNatClampNeg = x.toInt.toNat := rfl
theorem aget_at {α : Type} {xs : List α} {j : Int32} {n : Nat} (hj : j.toInt = n) (hn : n < xs.length) : aget xs j = some xs[n] := by
 have h0 : ¬ j < 0 := by rw [i_lt]; show ¬ j.toInt < 0; omega
 unfold aget
 rw [if_neg h0, i_nat, hj]
 simp [hn]
theorem aget_rep {α : Type} {m : Nat} {a : α} {j : Int32} (h0 : 0 ≤ j.toInt) (h1 : j.toInt < m) : aget (List.replicate m a) j = some a := by
 rw [aget_at (n := j.toInt.toNat) (by omega) (by rw [List.length_replicate]; omega)]
 simp
theorem aset_at {α : Type} {xs : List α} {j : Int32} {n : Nat} {v : α} (hj : j.toInt = n) (hn : n < xs.length) : aset xs j v = some (xs.set n v) := by
 have h0 : ¬ j < 0 := by rw [i_lt]; show ¬ j.toInt < 0; omega
 unfold aset
 have e : j.toNatClampNeg = n := by rw [i_nat, hj]; simp
 rw [if_neg h0, e, if_pos hn]
theorem rep_set {α : Type} (m k : Nat) (a : α) : (List.replicate m a).set k a = List.replicate m a := by
 apply List.ext_getElem (by simp)
 intro i h1 h2
 rw [List.getElem_set]
 split <;> simp
theorem small_cases {x : Int32} (h0 : 0 ≤ x.toInt) {n : Nat} (h1 : x.toInt < n) {P : Int32 → Prop} (h : ∀ m : Nat, m < n → P (Int32.ofInt m)) : P x := by
 have e : Int32.ofInt (x.toInt.toNat : Nat) = x := by
  rw [Int.toNat_of_nonneg h0, Int32.ofInt_toInt]
 rw [← e]
 exact h _ (by omega)
theorem bit_ne {x : Int32} (h0 : 0 ≤ x.toInt) (h1 : x.toInt < 32) : ¬ (((1 : Int32) <<< (x &&& 31)) &&& ((1 : Int32) <<< (x &&& 31))) = 0 :=
 small_cases (P := fun x => ¬ (((1 : Int32) <<< (x &&& 31)) &&& ((1 : Int32) <<< (x &&& 31))) = 0) h0 (n := 32) h1 (by decide)
def okP {α : Type} (m : Option α) (P : α → Prop) : Prop := ∃ a, m = some a ∧ P a
theorem okP.some {α : Type} {a : α} {P : α → Prop} (h : P a) : okP (some a) P := ⟨a, rfl, h⟩
theorem okP.bind {α β : Type} {m : Option α} {f : α → Option β} {P : β → Prop} (h : okP m fun a => okP (f a) P) : okP (m.bind f) P := by
 obtain ⟨a, e, b, e2, h2⟩ := h
 exact ⟨b, by rw [e]; exact e2, h2⟩
theorem okP.ite {α : Type} {c : Prop} [Decidable c] {a b : Option α} {P : α → Prop} (h1 : c → okP a P) (h2 : ¬ c → okP b P) : okP (if c then a else b) P := by
 by_cases h : c
 ·rw [if_pos h]; exact h1 h
 ·rw [if_neg h]; exact h2 h
theorem okP.mono {α : Type} {m : Option α} {P Q : α → Prop} (h : okP m P) (k : ∀ a, P a → Q a) : okP m Q := by
 obtain ⟨a, e, h⟩ := h
 exact ⟨a, e, k a h⟩
theorem okP.of {α : Type} {m : Option α} {a : α} {P : α → Prop} (e : m = Option.some a) (h : P a) : okP m P := ⟨a, e, h⟩
theorem okP.aget {α : Type} {xs : List α} {j : Int32} {P : α → Prop} (h0 : 0 ≤ j.toInt) (h1 : j.toInt < xs.length) (k : ∀ v, xs[j.toInt.toNat]? = Option.some v → P v) : okP (aget xs j) P :=
 ⟨_, aget_at (n := j.toInt.toNat) (by omega) (by omega), k _ (List.getElem?_eq_getElem _)⟩
theorem okP.aset {α : Type} {xs : List α} {j : Int32} {v : α} {P : List α → Prop} (h0 : 0 ≤ j.toInt) (h1 : j.toInt < xs.length) (k : P (xs.set j.toInt.toNat v)) : okP (aset xs j v) P :=
 ⟨_, aset_at (n := j.toInt.toNat) (by omega) (by omega), k⟩
theorem okP.loop {V E : Type} {B : V → Option (E ⊕ V)} {P : E → Prop} {n : Nat} {v : V} (I : V → Prop) (μ : V → Nat) (hv : I v) (hm : μ v < n) (hB : ∀ v, I v → okP (B v) (fun r => Sum.elim P (fun v' => I v' ∧ μ v' < μ v) r)) : okP (loopN B n v) P := by
 refine loopN_inv I P μ ?_ n v hv hm
 intro v hv
 obtain ⟨r, e, h⟩ := hB v hv
 cases r with
 | inl x => exact Or.inl ⟨x, e, h⟩
 | inr x => exact Or.inr ⟨x, e, h⟩
theorem len_i {n : Nat} (h : n ≤ 1000) : (n.toInt32).toInt = n := by
 have e : n.toInt32 = Int32.ofInt n := rfl
 rw [e, Int32.toInt_ofInt_of_le (by show _ ≤ (n : Int); omega) (by show (n : Int) < _; omega)]
theorem and1 (x : Int32) : x &&& 1 = 0 ∨ x &&& 1 = 1 := by
 have e : (x &&& 1).toBitVec = x.toBitVec &&& 1#32 := rfl
 have h := BitVec.and_one_eq_setWidth_ofBool_getLsbD (x := x.toBitVec)
 cases g : x.toBitVec.getLsbD 0
 ·left; apply Int32.toBitVec_inj.1; rw [e, h, g]; rfl
 ·right; apply Int32.toBitVec_inj.1; rw [e, h, g]; rfl
theorem okP.not {α : Type} {m : Option α} {a : α} {P : α → Prop} (h : okP m P) (e : m = Option.some a) : P a := by
 obtain ⟨b, e2, h⟩ := h
 rw [e] at e2
 exact (Option.some.inj e2) ▸ h
theorem and_rng {x m : Int32} (hm : 0 ≤ m.toInt) : 0 ≤ (x &&& m).toInt ∧ (x &&& m).toInt ≤ m.toInt := by
 have e : (x &&& m).toBitVec.toNat = x.toBitVec.toNat &&& m.toBitVec.toNat := BitVec.toNat_and ..
 have l : (x &&& m).toBitVec.toNat ≤ m.toBitVec.toNat := by rw [e]; exact Nat.and_le_right
 have c1 : m.toInt = if 2 * m.toBitVec.toNat < 2 ^ 32 then (m.toBitVec.toNat : Int) else m.toBitVec.toNat - (2 ^ 32 : Nat) := BitVec.toInt_eq_toNat_cond m.toBitVec
 have c2 : (x &&& m).toInt = if 2 * (x &&& m).toBitVec.toNat < 2 ^ 32 then ((x &&& m).toBitVec.toNat : Int) else (x &&& m).toBitVec.toNat - (2 ^ 32 : Nat) := BitVec.toInt_eq_toNat_cond (x &&& m).toBitVec
 have b : m.toBitVec.toNat < 2 ^ 32 := m.toBitVec.isLt
 by_cases h : 2 * m.toBitVec.toNat < 2 ^ 32
 ·rw [if_pos h] at c1
  rw [if_pos (by omega)] at c2
  omega
 ·rw [if_neg h] at c1
  omega
theorem mod_rng {x m : Int32} (hx : 0 ≤ x.toInt) (hm : 0 < m.toInt) : 0 ≤ (x % m).toInt ∧ (x % m).toInt < m.toInt := by
 rw [Int32.toInt_mod, Int.tmod_eq_emod_of_nonneg hx]
 exact ⟨Int.emod_nonneg _ (by omega), Int.emod_lt_of_pos _ hm⟩
def sFit (s : List Int32) (τ : QHeap) : Prop := τ.length - List.length ([Sum.inr (Sum.inl (FieldType.int, s))] : QHeap) ≤ room_1.cells ∧ qhs τ - qhs [Sum.inr (Sum.inl (FieldType.int, s))] ≤ room_1.slots
theorem inc1 {x : Int32} (h : x.toInt < 2147483647) : (x + 1).toInt = x.toInt + 1 := by
 have := i_lo x
 have e1 : (1 : Int32).toInt = 1 := rfl
 rw [i_add (by omega) (by omega), e1]
abbrev Core := List Int32 × List Int32 × Int32 × Int32 × Int32 × Int32 × Int32 × Int32 × List Int32 × List Int32 × List Int32
def core (o : Ob) : Core := (f_data o, f_filled o, f_nRows o, f_nForms o, f_rf o, f_cf o, f_vf o, f_ag o, f_fMode o, f_fRk o, f_fCk o)
def kDa (K : Core) : List Int32 := K.1
def kG (K : Core) : List Int32 := K.2.1
def kR (K : Core) : Int32 := K.2.2.1
def kN (K : Core) : Int32 := K.2.2.2.1
def krf (K : Core) : Int32 := K.2.2.2.2.1
def kcf (K : Core) : Int32 := K.2.2.2.2.2.1
def kvf (K : Core) : Int32 := K.2.2.2.2.2.2.1
def kag (K : Core) : Int32 := K.2.2.2.2.2.2.2.1
def kM (K : Core) : List Int32 := K.2.2.2.2.2.2.2.2.1
def kFa (K : Core) : List Int32 := K.2.2.2.2.2.2.2.2.2.1
def kFb (K : Core) : List Int32 := K.2.2.2.2.2.2.2.2.2.2
def WF (K : Core) : Prop := (kDa K).length = 128 ∧ (kG K).length = 32 ∧ (∀ r, r < 32 → (kG K)[r]? = some 0 ∨ (kG K)[r]? = some 1) ∧ (4 ≤ (kR K).toInt ∧ (kR K).toInt ≤ 32) ∧ (1 ≤ (kN K).toInt ∧ (kN K).toInt ≤ 16) ∧ (0 ≤ (krf K).toInt ∧ (krf K).toInt < 4) ∧ (0 ≤ (kcf K).toInt ∧ (kcf K).toInt < 4) ∧ (0 ≤ (kvf K).toInt ∧ (kvf K).toInt < 4) ∧ (kM K).length = 16 ∧ (kFa K).length = 16 ∧ (kFb K).length = 16
theorem WF.d {K : Core} (h : WF K) : (kDa K).length = 128 := h.1
theorem WF.g {K : Core} (h : WF K) : (kG K).length = 32 := h.2.1
theorem WF.b {K : Core} (h : WF K) : ∀ r, r < 32 → (kG K)[r]? = some 0 ∨ (kG K)[r]? = some 1 := h.2.2.1
theorem WF.r {K : Core} (h : WF K) : 4 ≤ (kR K).toInt ∧ (kR K).toInt ≤ 32 := h.2.2.2.1
theorem WF.n {K : Core} (h : WF K) : 1 ≤ (kN K).toInt ∧ (kN K).toInt ≤ 16 := h.2.2.2.2.1
theorem WF.rf {K : Core} (h : WF K) : 0 ≤ (krf K).toInt ∧ (krf K).toInt < 4 := h.2.2.2.2.2.1
theorem WF.cf {K : Core} (h : WF K) : 0 ≤ (kcf K).toInt ∧ (kcf K).toInt < 4 := h.2.2.2.2.2.2.1
theorem WF.vf {K : Core} (h : WF K) : 0 ≤ (kvf K).toInt ∧ (kvf K).toInt < 4 := h.2.2.2.2.2.2.2.1
theorem WF.m {K : Core} (h : WF K) : (kM K).length = 16 := h.2.2.2.2.2.2.2.2.1
theorem WF.a {K : Core} (h : WF K) : (kFa K).length = 16 := h.2.2.2.2.2.2.2.2.2.1
theorem WF.c {K : Core} (h : WF K) : (kFb K).length = 16 := h.2.2.2.2.2.2.2.2.2.2
def Sh (K : Core) (L : Int32) (o : Ob) : Prop := core o = K ∧ f_last o = L ∧ (f_prevVal o).length = 16 ∧ (f_prevFound o).length = 16 ∧ (f_keys o).length = 64
theorem Sh.D {K : Core} {L : Int32} {o : Ob} (h : Sh K L o) : f_data o = kDa K := by rw [← h.1]; rfl
theorem Sh.G {K : Core} {L : Int32} {o : Ob} (h : Sh K L o) : f_filled o = kG K := by rw [← h.1]; rfl
theorem Sh.R {K : Core} {L : Int32} {o : Ob} (h : Sh K L o) : f_nRows o = kR K := by rw [← h.1]; rfl
theorem Sh.N {K : Core} {L : Int32} {o : Ob} (h : Sh K L o) : f_nForms o = kN K := by rw [← h.1]; rfl
theorem Sh.rf {K : Core} {L : Int32} {o : Ob} (h : Sh K L o) : f_rf o = krf K := by rw [← h.1]; rfl
theorem Sh.cf {K : Core} {L : Int32} {o : Ob} (h : Sh K L o) : f_cf o = kcf K := by rw [← h.1]; rfl
theorem Sh.vf {K : Core} {L : Int32} {o : Ob} (h : Sh K L o) : f_vf o = kvf K := by rw [← h.1]; rfl
theorem Sh.ag {K : Core} {L : Int32} {o : Ob} (h : Sh K L o) : f_ag o = kag K := by rw [← h.1]; rfl
theorem Sh.M {K : Core} {L : Int32} {o : Ob} (h : Sh K L o) : f_fMode o = kM K := by rw [← h.1]; rfl
theorem Sh.A {K : Core} {L : Int32} {o : Ob} (h : Sh K L o) : f_fRk o = kFa K := by rw [← h.1]; rfl
theorem Sh.B {K : Core} {L : Int32} {o : Ob} (h : Sh K L o) : f_fCk o = kFb K := by rw [← h.1]; rfl
theorem Sh.prevVal {K : Core} {L : Int32} {o : Ob} (h : Sh K L o) {x : List Int32} (l : x.length = 16) : Sh K L (s_prevVal o x) := ⟨h.1, h.2.1, l, h.2.2.2.1, h.2.2.2.2⟩
theorem Sh.prevFound {K : Core} {L : Int32} {o : Ob} (h : Sh K L o) {x : List Int32} (l : x.length = 16) : Sh K L (s_prevFound o x) := ⟨h.1, h.2.1, h.2.2.1, l, h.2.2.2.2⟩
theorem Sh.keys {K : Core} {L : Int32} {o : Ob} (h : Sh K L o) {x : List Int32} (l : x.length = 64) : Sh K L (s_keys o x) := ⟨h.1, h.2.1, h.2.2.1, h.2.2.2.1, l⟩
theorem Sh.selUseR {K : Core} {L : Int32} {o : Ob} (h : Sh K L o) {x : Int32} : Sh K L (s_selUseR o x) := h
theorem Sh.selRk {K : Core} {L : Int32} {o : Ob} (h : Sh K L o) {x : Int32} : Sh K L (s_selRk o x) := h
theorem Sh.selUseC {K : Core} {L : Int32} {o : Ob} (h : Sh K L o) {x : Int32} : Sh K L (s_selUseC o x) := h
theorem Sh.selCk {K : Core} {L : Int32} {o : Ob} (h : Sh K L o) {x : Int32} : Sh K L (s_selCk o x) := h
theorem Sh.gCount {K : Core} {L : Int32} {o : Ob} (h : Sh K L o) {x : Int32} : Sh K L (s_gCount o x) := h
theorem Sh.gVal {K : Core} {L : Int32} {o : Ob} (h : Sh K L o) {x : Int32} : Sh K L (s_gVal o x) := h
theorem Sh.last {K : Core} {L : Int32} {o : Ob} (h : Sh K L o) {x : Int32} : Sh K x (s_last o x) := ⟨h.1, rfl, h.2.2⟩
def fld (K : Core) (r : Nat) (f : Int32) : Int32 := ((kDa K)[r * 4 + f.toInt.toNat]?).getD 0
def fil (K : Core) (r : Nat) : Bool := ((kG K)[r]?).getD 0 != 0
def cnd (K : Core) (u a w b : Int32) (r : Nat) : Bool := fil K r && ((u == 0 || fld K r (krf K) == a) && (w == 0 || fld K r (kcf K) == b))
def vN (K : Core) (u a w b : Int32) (n : Nat) : List Int32 := ((List.range n).filter (cnd K u a w b)).map (fun r => fld K r (kvf K))
def stp (x : Int32 × Int32 × Int32 × Int32) (v : Int32) : Int32 × Int32 × Int32 × Int32 := (x.1 + v, x.2.1 + 1, (if x.2.1 = 0 then v else if v < x.2.2.1 then v else x.2.2.1), (if x.2.1 = 0 then v else if x.2.2.2 < v then v else x.2.2.2))
def ev (l : List Int32) : Int32 × Int32 × Int32 × Int32 := l.foldl stp (0, 0, 0, 0)
def pick (ag : Int32) (x : Int32 × Int32 × Int32 × Int32) : Int32 := if x.2.1 = 0 then 0 else if ag = 1 then x.2.1 else if ag = 2 then x.2.2.1 else if ag = 3 then x.2.2.2 else x.1
def nR (K : Core) : Nat := (kR K).toInt.toNat
def grp (K : Core) (u a w b : Int32) : Int32 × Int32 := (pick (kag K) (ev (vN K u a w b (nR K))), (ev (vN K u a w b (nR K))).2.1)
def ins (v : Int32) : List Int32 → List Int32
 | [] => [v]
 | k :: t => if k < v then k :: ins v t else if k = v then k :: t else v :: k :: t
def keyN (K : Core) (f : Int32) (n : Nat) : List Int32 := ((List.range n).filter (fil K)).foldl (fun l r => ins (fld K r f) l) []
def kys (K : Core) (f : Int32) : List Int32 := keyN K f (nR K)
theorem vN_s (K : Core) (u a w b : Int32) (n : Nat) : vN K u a w b (n + 1) = if cnd K u a w b n then vN K u a w b n ++ [fld K n (kvf K)] else vN K u a w b n := by
 unfold vN
 rw [List.range_succ, List.filter_append, List.map_append]
 by_cases h : cnd K u a w b n = true
 ·rw [if_pos h, List.filter_cons_of_pos h]; rfl
 ·rw [if_neg h, List.filter_cons_of_neg h]; simp
theorem ev_s (l : List Int32) (v : Int32) : ev (l ++ [v]) = stp (ev l) v := by
 unfold ev
 rw [List.foldl_append]; rfl
theorem keyN_s (K : Core) (f : Int32) (n : Nat) : keyN K f (n + 1) = if fil K n then ins (fld K n f) (keyN K f n) else keyN K f n := by
 unfold keyN
 rw [List.range_succ, List.filter_append, List.foldl_append]
 by_cases h : fil K n = true
 ·rw [if_pos h, List.filter_cons_of_pos h]; rfl
 ·rw [if_neg h, List.filter_cons_of_neg h]; rfl
theorem ag_fil {K : Core} (w : WF K) {i : Int32} (h0 : 0 ≤ i.toInt) (h1 : i.toInt < 32) : aget (kG K) i = some (((kG K)[i.toInt.toNat]?).getD 0) := by
 rw [aget_at (n := i.toInt.toNat) (by omega) (by rw [w.g]; omega), List.getElem?_eq_getElem (by rw [w.g]; omega)]; rfl
theorem idx {r f : Int32} (h : 0 ≤ r.toInt ∧ r.toInt < 32) (g : 0 ≤ f.toInt ∧ f.toInt < 4) : (r * 4 + f).toInt = r.toInt * 4 + f.toInt := by
 have e4 : (r * 4).toInt = r.toInt * 4 := i_mul (x := r) (y := 4) (by show _ ≤ r.toInt * 4; omega) (by show r.toInt * 4 < _; omega)
 rw [i_add (by omega) (by omega), e4]
theorem ag_fld {K : Core} (w : WF K) {r f : Int32} (h : 0 ≤ r.toInt ∧ r.toInt < 32) (g : 0 ≤ f.toInt ∧ f.toInt < 4) : aget (kDa K) (r * 4 + f) = some (fld K r.toInt.toNat f) := by
 have e := idx h g
 unfold fld
 rw [aget_at (n := r.toInt.toNat * 4 + f.toInt.toNat) (by omega) (by rw [w.d]; omega), List.getElem?_eq_getElem (by rw [w.d]; omega)]; rfl
theorem eval_ok {K : Core} (wf : WF K) {L : Int32} {o : Ob} (h : Sh K L o) (u a w b : Int32) : F9 o u a w b = some (s_gVal (s_gCount o (grp K u a w b).2) (grp K u a w b).1) := by
 have r32 := wf.r
 unfold F9
 have lp : okP (loopN (B9_15 o u a w b) qN (0, 0, 0, 0, 0)) (fun e => e = ev (vN K u a w b (nR K))) := by
  refine okP.loop (fun v => 0 ≤ v.2.2.2.2.toInt ∧ v.2.2.2.2.toInt ≤ (kR K).toInt ∧ (v.1, v.2.1, v.2.2.1, v.2.2.2.1) = ev (vN K u a w b v.2.2.2.2.toInt.toNat)) (fun v => ((kR K).toInt - v.2.2.2.2.toInt).toNat) ⟨by show (0 : Int) ≤ 0; decide, by show (0 : Int) ≤ (kR K).toInt; omega, rfl⟩ (by show ((kR K).toInt - (0 : Int)).toNat < 4000; omega) ?_
  rintro ⟨x1, x2, x3, x4, i⟩ ⟨a1, a2, a3⟩
  simp only at a1 a2 a3
  unfold B9_15
  simp only
  rw [h.R]
  apply okP.ite <;> intro c
  ·rw [i_lt] at c
   have e2 : (i + 1).toInt = i.toInt + 1 := inc1 (by omega)
   have en : (i + 1).toInt.toNat = i.toInt.toNat + 1 := by omega
   have no : ∀ (y1 y2 y3 y4 : Int32), (y1, y2, y3, y4) = ev (vN K u a w b (i.toInt.toNat + 1)) → okP (J9_152 o u a w b y1 y2 y3 y4 i) (fun r => Sum.elim (fun e => e = ev (vN K u a w b (nR K))) (fun v => (0 ≤ v.2.2.2.2.toInt ∧ v.2.2.2.2.toInt ≤ (kR K).toInt ∧ (v.1, v.2.1, v.2.2.1, v.2.2.2.1) = ev (vN K u a w b v.2.2.2.2.toInt.toNat)) ∧ ((kR K).toInt - v.2.2.2.2.toInt).toNat < ((kR K).toInt - i.toInt).toNat) r) := by
    intro y1 y2 y3 y4 hy
    unfold J9_152
    apply okP.some
    exact ⟨⟨by simp only; omega, by simp only; omega, by simp only [en]; exact hy⟩, by simp only; omega⟩
   have skip : cnd K u a w b i.toInt.toNat = false → okP (J9_152 o u a w b x1 x2 x3 x4 i) (fun r => Sum.elim (fun e => e = ev (vN K u a w b (nR K))) (fun v => (0 ≤ v.2.2.2.2.toInt ∧ v.2.2.2.2.toInt ≤ (kR K).toInt ∧ (v.1, v.2.1, v.2.2.1, v.2.2.2.1) = ev (vN K u a w b v.2.2.2.2.toInt.toNat)) ∧ ((kR K).toInt - v.2.2.2.2.toInt).toNat < ((kR K).toInt - i.toInt).toNat) r) := by
    intro hc
    exact no _ _ _ _ (by rw [vN_s, hc]; exact a3)
   rw [h.G, ag_fil wf a1 (by omega)]
   simp only [Option.bind_some]
   by_cases f0 : ((kG K)[i.toInt.toNat]?).getD 0 = 0
   ·rw [if_pos f0]
    exact skip (by unfold cnd fil; rw [f0]; rfl)
   rw [if_neg f0]
   have fi : fil K i.toInt.toNat = true := by unfold fil; rw [bne_iff_ne]; exact f0
   have take : cnd K u a w b i.toInt.toNat = true → okP (J9_90 o u a w b x1 x2 x3 x4 i (i * 4)) (fun r => Sum.elim (fun e => e = ev (vN K u a w b (nR K))) (fun v => (0 ≤ v.2.2.2.2.toInt ∧ v.2.2.2.2.toInt ≤ (kR K).toInt ∧ (v.1, v.2.1, v.2.2.1, v.2.2.2.1) = ev (vN K u a w b v.2.2.2.2.toInt.toNat)) ∧ ((kR K).toInt - v.2.2.2.2.toInt).toNat < ((kR K).toInt - i.toInt).toNat) r) := by
    intro hc
    unfold J9_90
    rw [h.D, h.vf, ag_fld wf ⟨a1, by omega⟩ wf.vf]
    simp only [Option.bind_some]
    exact no _ _ _ _ (by rw [vN_s, hc, if_pos rfl, ev_s, ← a3]; rfl)
   have col : (u == 0 || fld K i.toInt.toNat (krf K) == a) = true → okP (J9_66 o u a w b x1 x2 x3 x4 i (i * 4)) (fun r => Sum.elim (fun e => e = ev (vN K u a w b (nR K))) (fun v => (0 ≤ v.2.2.2.2.toInt ∧ v.2.2.2.2.toInt ≤ (kR K).toInt ∧ (v.1, v.2.1, v.2.2.1, v.2.2.2.1) = ev (vN K u a w b v.2.2.2.2.toInt.toNat)) ∧ ((kR K).toInt - v.2.2.2.2.toInt).toNat < ((kR K).toInt - i.toInt).toNat) r) := by
    intro hr
    unfold J9_66
    by_cases w0 : w = 0
    ·rw [if_pos w0]
     exact take (by unfold cnd; rw [fi, hr, w0]; rfl)
    ·rw [if_neg w0, h.D, h.cf, ag_fld wf ⟨a1, by omega⟩ wf.cf]
     simp only [Option.bind_some]
     by_cases e : fld K i.toInt.toNat (kcf K) = b
     ·rw [if_pos e]
      exact take (by unfold cnd; rw [fi, hr, e]; simp)
     ·rw [if_neg e]
      exact skip (by unfold cnd; rw [fi, hr, beq_false_of_ne w0, beq_false_of_ne e]; rfl)
   by_cases u0 : u = 0
   ·rw [if_pos u0]
    exact col (by rw [u0]; rfl)
   ·rw [if_neg u0, h.D, h.rf, ag_fld wf ⟨a1, by omega⟩ wf.rf]
    simp only [Option.bind_some]
    by_cases e : fld K i.toInt.toNat (krf K) = a
    ·rw [if_pos e]
     exact col (by rw [e]; simp)
    ·rw [if_neg e]
     exact skip (by unfold cnd; rw [fi, beq_false_of_ne u0, beq_false_of_ne e]; rfl)
  ·rw [i_lt] at c
   apply okP.some
   have : i.toInt.toNat = nR K := by unfold nR; omega
   rw [this] at a3
   exact a3
 obtain ⟨e, he, ee⟩ := lp
 rw [he, ee]
 simp only [Option.bind_some]
 have pk : ∀ (x1 x2 x3 x4 : Int32) (p : Ob), f_ag p = kag K → F10 p x2 x1 x3 x4 = some (pick (kag K) (x1, x2, x3, x4)) := by
  intro x1 x2 x3 x4 p hp
  unfold F10 pick
  rw [hp]
  simp only
  split
  ·rfl
  split
  ·rfl
  split
  ·rfl
  split <;> rfl
 have pk' := pk (ev (vN K u a w b (nR K))).1 (ev (vN K u a w b (nR K))).2.1 (ev (vN K u a w b (nR K))).2.2.1 (ev (vN K u a w b (nR K))).2.2.2 (s_gCount o (ev (vN K u a w b (nR K))).2.1) h.ag
 rw [pk']
 rfl
def ltP (v : Int32) : List Int32 → Nat
 | [] => 0
 | k :: t => if k < v then ltP v t + 1 else 0
theorem ltP_le (v : Int32) : ∀ l : List Int32, ltP v l ≤ l.length
 | [] => Nat.le_refl 0
 | k :: t => by
  unfold ltP
  split
  ·exact Nat.succ_le_succ (ltP_le v t)
  ·exact Nat.zero_le _
theorem ltP_lt {v : Int32} : ∀ {l : List Int32} {i : Nat} {k : Int32}, i < ltP v l → l[i]? = some k → k < v
 | [], i, k, h, _ => absurd h (Nat.not_lt_zero _)
 | x :: t, i, k, h, g => by
  unfold ltP at h
  by_cases c : x < v
  ·rw [if_pos c] at h
   cases i with
   | zero => rw [List.getElem?_cons_zero] at g; cases g; exact c
   | succ j => rw [List.getElem?_cons_succ] at g; exact ltP_lt (by omega) g
  ·rw [if_neg c] at h; exact absurd h (Nat.not_lt_zero _)
theorem ltP_ge {v : Int32} : ∀ {l : List Int32} {k : Int32}, l[ltP v l]? = some k → ¬ k < v
 | [], k, g => by cases g
 | x :: t, k, g => by
  unfold ltP at g
  by_cases c : x < v
  ·rw [if_pos c, List.getElem?_cons_succ] at g; exact ltP_ge g
  ·rw [if_neg c, List.getElem?_cons_zero] at g; cases g; exact c
theorem ins_same {v : Int32} : ∀ {l : List Int32}, l[ltP v l]? = some v → ins v l = l
 | [], g => by cases g
 | x :: t, g => by
  unfold ltP at g
  unfold ins
  by_cases c : x < v
  ·rw [if_pos c, List.getElem?_cons_succ] at g
   rw [if_pos c, ins_same g]
  ·rw [if_neg c, List.getElem?_cons_zero] at g
   rw [if_neg c, if_pos (by cases g; rfl)]
theorem ins_new {v : Int32} : ∀ {l : List Int32}, l[ltP v l]? ≠ some v → ins v l = l.take (ltP v l) ++ v :: l.drop (ltP v l)
 | [], _ => rfl
 | x :: t, g => by
  unfold ltP at g
  unfold ins ltP
  by_cases c : x < v
  ·rw [if_pos c, List.getElem?_cons_succ] at g
   rw [if_pos c, if_pos c, ins_new g]; rfl
  ·rw [if_neg c, List.getElem?_cons_zero] at g
   rw [if_neg c, if_neg c, if_neg (by intro e; exact g (by rw [e]))]; rfl
theorem ins_len (v : Int32) (l : List Int32) : (ins v l).length ≤ l.length + 1 := by
 by_cases g : l[ltP v l]? = some v
 ·rw [ins_same g]; omega
 ·rw [ins_new g]
  have := ltP_le v l
  simp only [List.length_append, List.length_take, List.length_cons, List.length_drop]; omega
theorem keyN_len (K : Core) (f : Int32) : ∀ n, (keyN K f n).length ≤ n
 | 0 => Nat.le_refl 0
 | n + 1 => by
  have := keyN_len K f n
  rw [keyN_s]
  split
  ·have := ins_len (fld K n f) (keyN K f n); omega
  ·omega
def Seg (X : List Int32) (b : Nat) (k : List Int32) : Prop := ∀ i, i < k.length → X[b + i]? = k[i]?
theorem ag_n {X : List Int32} {j : Int32} {n : Nat} {v : Int32} (hj : j.toInt = n) (h : X[n]? = some v) : aget X j = some v := by
 unfold aget
 rw [if_neg (by rw [i_lt]; show ¬ j.toInt < 0; omega), i_nat, hj, Int.toNat_natCast]
 exact h
theorem ins_ok {K : Core} {L : Int32} {o : Ob} (h : Sh K L o) {b n v : Int32} {k : List Int32} {U : Nat} (hb : b.toInt = U) (hU : U + 32 ≤ 64) (hn : n.toInt = k.length) (hk : k.length < 32) (hs : Seg (f_keys o) U k) : okP (F19 o b n v) (fun r => r.1.toInt = (ins v k).length ∧ ∃ X, r.2 = s_keys o X ∧ X.length = 64 ∧ Seg X U (ins v k) ∧ ∀ j, j < U ∨ U + 32 ≤ j → X[j]? = (f_keys o)[j]?) := by
 have lk := h.2.2.2.2
 have z0 : (0 : Int32).toInt = 0 := rfl
 have z1 : (1 : Int32).toInt = 1 := rfl
 have z32 : (32 : Int32).toInt = 32 := rfl
 have pl := ltP_le v k
 have same : s_keys o (f_keys o) = o := rfl
 unfold F19
 rw [if_neg (by rw [i_lt, z0]; omega), if_pos (by rw [i_lt, z32]; omega)]
 have l1 : okP (loopN (B19_15 o b n v) qN 0) (fun p => p.toInt = ltP v k) := by
  refine okP.loop (fun p => 0 ≤ p.toInt ∧ p.toInt ≤ ltP v k) (fun p => (32 - p.toInt).toNat) ⟨by show (0 : Int) ≤ 0; decide, by show (0 : Int) ≤ ltP v k; omega⟩ (by show (32 - (0 : Int)).toNat < 4000; decide) ?_
  rintro p ⟨a1, a2⟩
  unfold B19_15
  apply okP.ite <;> intro c
  ·rw [i_lt] at c
   have e : (b + p).toInt = (U + p.toInt.toNat : Nat) := by rw [i_add (by omega) (by omega)]; omega
   have g := hs p.toInt.toNat (by omega)
   rw [List.getElem?_eq_getElem (l := k) (by omega)] at g
   rw [ag_n e g]
   simp only [Option.bind_some]
   apply okP.ite <;> intro d
   ·apply okP.some
    have : p.toInt.toNat ≠ ltP v k := fun q => ltP_ge (l := k) (by rw [← q]; exact List.getElem?_eq_getElem (by omega)) d
    have e2 : (p + 1).toInt = p.toInt + 1 := inc1 (by omega)
    exact ⟨⟨by omega, by omega⟩, by omega⟩
   ·apply okP.some
    have : ¬ p.toInt.toNat < ltP v k := fun q => d (ltP_lt q (List.getElem?_eq_getElem (by omega)))
    show p.toInt = _
    omega
  ·rw [i_lt] at c
   apply okP.some
   show p.toInt = _
   omega
 apply okP.bind
 refine okP.mono l1 ?_
 intro p hp
 have new : k[ltP v k]? ≠ some v → okP (J19_61 o b n v p) (fun r => r.1.toInt = (ins v k).length ∧ ∃ X, r.2 = s_keys o X ∧ X.length = 64 ∧ Seg X U (ins v k) ∧ ∀ j, j < U ∨ U + 32 ≤ j → X[j]? = (f_keys o)[j]?) := by
  intro ne
  unfold J19_61
  apply okP.bind
  have l2 : okP (loopN (B19_64 b n v p) qN (n, o)) (fun q => ∃ X, q = s_keys o X ∧ X.length = 64 ∧ (∀ i, i ≤ ltP v k → X[U + i]? = (f_keys o)[U + i]?) ∧ (∀ i, ltP v k < i → i ≤ k.length → X[U + i]? = (f_keys o)[U + (i - 1)]?) ∧ ∀ j, j < U ∨ U + 32 ≤ j → X[j]? = (f_keys o)[j]?) := by
   refine okP.loop (fun w => (ltP v k : Int) ≤ w.1.toInt ∧ w.1.toInt ≤ k.length ∧ ∃ X, w.2 = s_keys o X ∧ X.length = 64 ∧ (∀ i, i ≤ w.1.toInt.toNat → X[U + i]? = (f_keys o)[U + i]?) ∧ (∀ i, w.1.toInt.toNat < i → i ≤ k.length → X[U + i]? = (f_keys o)[U + (i - 1)]?) ∧ ∀ j, j < U ∨ U + 32 ≤ j → X[j]? = (f_keys o)[j]?) (fun w => w.1.toInt.toNat) ⟨by simp only; omega, by simp only; omega, f_keys o, same.symm, lk, fun _ _ => rfl, fun i a b => by simp only at a; omega, fun _ _ => rfl⟩ (by show n.toInt.toNat < 4000; omega) ?_
   rintro ⟨i, q⟩ ⟨a1, a2, X, a3, a4, a5, a6, a7⟩
   simp only at a1 a2 a3 a5 a6
   subst a3
   unfold B19_64
   simp only
   apply okP.ite <;> intro c
   ·rw [i_lt] at c
    have kx : f_keys (s_keys o X) = X := rfl
    have kxx : ∀ Y, s_keys (s_keys o X) Y = s_keys o Y := fun _ => rfl
    rw [kx]
    have e1 : (b + i).toInt = (U + i.toInt.toNat : Nat) := by rw [i_add (by omega) (by omega)]; omega
    have e2 : (b + i - 1).toInt = (U + (i.toInt.toNat - 1) : Nat) := by rw [i_sub (by rw [e1, z1]; omega) (by rw [e1, z1]; omega), e1, z1]; omega
    obtain ⟨y, hy⟩ : ∃ y, X[U + (i.toInt.toNat - 1)]? = some y := ⟨_, List.getElem?_eq_getElem (by omega)⟩
    rw [ag_n e2 hy]
    clear e2
    simp only [Option.bind_some]
    rw [aset_at e1 (by omega)]
    clear e1
    simp only [Option.bind_some]
    rw [kxx]
    apply okP.some
    obtain ⟨i', hi'⟩ : ∃ i' : Int32, i' = i + -1 := ⟨_, rfl⟩
    rw [← hi']
    have e3 : i'.toInt = i.toInt - 1 := by
     have m1 : (-1 : Int32).toInt = -1 := rfl
     rw [hi', i_add (by rw [m1]; omega) (by rw [m1]; omega), m1]; omega
    clear hi'
    refine ⟨⟨by simp only; omega, by simp only; omega, _, rfl, by rw [List.length_set]; exact a4, ?_, ?_, ?_⟩, by simp only; omega⟩
    ·intro j hj
     simp only at hj
     rw [List.getElem?_set_ne (by omega)]
     exact a5 j (by omega)
    ·intro j hj1 hj2
     simp only at hj1
     by_cases e : j = i.toInt.toNat
     ·rw [e, List.getElem?_set_self (by omega), ← hy]
      exact a5 _ (by omega)
     ·rw [List.getElem?_set_ne (by omega)]
      exact a6 j (by omega) hj2
    ·intro j hj
     rw [List.getElem?_set_ne (by omega)]
     exact a7 j hj
   ·rw [i_lt] at c
    have : i.toInt.toNat = ltP v k := by omega
    rw [this] at a5 a6
    exact okP.some ⟨X, rfl, a4, a5, a6, a7⟩
  refine okP.mono l2 ?_
  rintro q ⟨X, rfl, a4, a5, a6, a7⟩
  have kx : f_keys (s_keys o X) = X := rfl
  have kxx : ∀ Y, s_keys (s_keys o X) Y = s_keys o Y := fun _ => rfl
  rw [kx]
  have e1 : (b + p).toInt = (U + ltP v k : Nat) := by rw [i_add (by omega) (by omega)]; omega
  rw [aset_at e1 (by omega)]
  simp only [Option.bind_some]
  rw [kxx]
  have il : (ins v k).length = k.length + 1 := by
   rw [ins_new ne]
   simp only [List.length_append, List.length_take, List.length_cons, List.length_drop]; omega
  refine okP.some ⟨by simp only; rw [inc1 (by omega), il]; omega, _, rfl, by rw [List.length_set]; exact a4, ?_, ?_⟩
  ·intro i hi
   rw [il] at hi
   rw [ins_new ne]
   by_cases c : i < ltP v k
   ·rw [List.getElem?_set_ne (by omega), a5 i (by omega), hs i (by omega), List.getElem?_append_left (by rw [List.length_take]; omega), List.getElem?_take, if_pos c]
   ·have lt : (List.take (ltP v k) k).length = ltP v k := by rw [List.length_take]; omega
    rw [List.getElem?_append_right (by omega), lt]
    by_cases d : i = ltP v k
    ·rw [d, List.getElem?_set_self (by omega), Nat.sub_self]; rfl
    ·rw [List.getElem?_set_ne (by omega), a6 i (by omega) (by omega), hs (i - 1) (by omega), show i - ltP v k = (i - 1 - ltP v k) + 1 by omega, List.getElem?_cons_succ, List.getElem?_drop]
     congr 1; omega
  ·intro j hj
   rw [List.getElem?_set_ne (by omega)]
   exact a7 j hj
 unfold J19_40
 apply okP.ite <;> intro c
 ·rw [i_lt] at c
  have e1 : (b + p).toInt = (U + ltP v k : Nat) := by rw [i_add (by omega) (by omega)]; omega
  have g := hs (ltP v k) (by omega)
  rw [List.getElem?_eq_getElem (l := k) (by omega)] at g
  rw [ag_n e1 g]
  simp only [Option.bind_some]
  apply okP.ite <;> intro d
  ·have s := ins_same (v := v) (l := k) (by rw [List.getElem?_eq_getElem (by omega), d])
   rw [s]
   exact okP.some ⟨hn, f_keys o, same.symm, lk, hs, fun _ _ => rfl⟩
  ·exact new (by rw [List.getElem?_eq_getElem (by omega)]; intro q; exact d (Option.some.inj q))
 ·rw [i_lt] at c
  exact new (by rw [List.getElem?_eq_none (by omega)]; intro q; cases q)
theorem keys_ok {K : Core} (wf : WF K) {L : Int32} {o : Ob} (h : Sh K L o) {f b : Int32} {U : Nat} (hf : 0 ≤ f.toInt ∧ f.toInt < 4) (hb : b.toInt = U) (hU : U + 32 ≤ 64) : okP (F5 o f b) (fun r => r.1.toInt = (kys K f).length ∧ ∃ X, r.2 = s_keys o X ∧ X.length = 64 ∧ Seg X U (kys K f) ∧ ∀ j, j < U ∨ U + 32 ≤ j → X[j]? = (f_keys o)[j]?) := by
 have r32 := wf.r
 unfold F5
 apply okP.bind
 refine okP.loop (fun v => 0 ≤ v.2.1.toInt ∧ v.2.1.toInt ≤ (kR K).toInt ∧ v.1.toInt = (keyN K f v.2.1.toInt.toNat).length ∧ ∃ X, v.2.2 = s_keys o X ∧ X.length = 64 ∧ Seg X U (keyN K f v.2.1.toInt.toNat) ∧ ∀ j, j < U ∨ U + 32 ≤ j → X[j]? = (f_keys o)[j]?) (fun v => ((kR K).toInt - v.2.1.toInt).toNat) ⟨by show (0 : Int) ≤ 0; decide, by show (0 : Int) ≤ (kR K).toInt; omega, rfl, f_keys o, rfl, h.2.2.2.2, fun i hi => absurd hi (Nat.not_lt_zero _), fun _ _ => rfl⟩ (by show ((kR K).toInt - (0 : Int)).toNat < 4000; omega) ?_
 rintro ⟨n, i, p⟩ ⟨a1, a2, a3, X, a4, a5, a6, a7⟩
 simp only at a1 a2 a3 a4 a6
 subst a4
 have hX := h.keys a5
 have kx : f_keys (s_keys o X) = X := rfl
 have kl := keyN_len K f i.toInt.toNat
 unfold B5_5 J5_42
 simp only
 rw [hX.R]
 apply okP.ite <;> intro c
 ·rw [i_lt] at c
  have e2 : (i + 1).toInt = i.toInt + 1 := inc1 (by omega)
  have en : (i + 1).toInt.toNat = i.toInt.toNat + 1 := by omega
  rw [hX.G, ag_fil wf a1 (by omega)]
  simp only [Option.bind_some]
  by_cases f0 : ((kG K)[i.toInt.toNat]?).getD 0 = 0
  ·rw [if_pos f0]
   have fi : fil K i.toInt.toNat = false := by unfold fil; rw [f0]; rfl
   apply okP.some
   refine ⟨⟨by simp only; omega, by simp only; omega, ?_, X, rfl, a5, ?_, a7⟩, by simp only; omega⟩
   ·simp only [en]; rw [keyN_s, fi]; exact a3
   ·simp only [en]; rw [keyN_s, fi]; exact a6
  ·rw [if_neg f0, hX.D, ag_fld wf ⟨a1, by omega⟩ hf]
   simp only [Option.bind_some]
   have fi : fil K i.toInt.toNat = true := by unfold fil; rw [bne_iff_ne]; exact f0
   apply okP.bind
   refine okP.mono (ins_ok hX (v := fld K i.toInt.toNat f) hb hU a3 (by omega) a6) ?_
   rintro r ⟨b1, Y, b2, b3, b4, b5⟩
   apply okP.some
   refine ⟨⟨by simp only; omega, by simp only; omega, ?_, Y, b2, b3, ?_, fun j hj => (b5 j hj).trans (a7 j hj)⟩, by simp only; omega⟩
   ·simp only [en]; rw [keyN_s, fi]; exact b1
   ·simp only [en]; rw [keyN_s, fi]; exact b4
 ·rw [i_lt] at c
  have : i.toInt.toNat = nR K := by unfold nR; omega
  rw [this] at a3 a6
  exact okP.some (okP.some ⟨a3, X, rfl, a5, a6, a7⟩)
def rk (K : Core) (f i : Int32) : Int32 := if i.toInt < 0 then 0 else ((kys K f)[i.toInt.toNat]?).getD 0
def inR (K : Core) (f i : Int32) : Prop := i = -1 ∨ (0 ≤ i.toInt ∧ i.toInt < (kys K f).length)
instance (K : Core) (f i : Int32) : Decidable (inR K f i) := by unfold inR; infer_instance
def pv (K : Core) (i j : Int32) : Int32 × Int32 := if inR K (krf K) i ∧ inR K (kcf K) j then grp K (if i = -1 then 0 else 1) (if i = -1 then 0 else rk K (krf K) i) (if j = -1 then 0 else 1) (if j = -1 then 0 else rk K (kcf K) j) else (0, 0)
theorem seg_get {X k : List Int32} {U : Nat} {j i : Int32} (hs : Seg X U k) (hj : j.toInt = U + i.toInt) (i0 : 0 ≤ i.toInt) (i1 : i.toInt < k.length) : aget X j = some ((k[i.toInt.toNat]?).getD 0) := by
 have g := hs i.toInt.toNat (by omega)
 rw [List.getElem?_eq_getElem (l := k) (by omega)] at g ⊢
 exact ag_n (n := U + i.toInt.toNat) (by omega) g
theorem kys_len {K : Core} (wf : WF K) (f : Int32) : (kys K f).length ≤ 32 := by
 have := keyN_len K f (nR K)
 have r := wf.r
 unfold kys
 unfold nR at this ⊢
 omega
theorem resolve_ok {K : Core} (wf : WF K) {L : Int32} {o : Ob} (h : Sh K L o) (i j : Int32) : okP (F8 o i j) (fun r => Sh K L r.2 ∧ ((r.1 = 0 ∧ ¬ (inR K (krf K) i ∧ inR K (kcf K) j)) ∨ (r.1 = 1 ∧ (inR K (krf K) i ∧ inR K (kcf K) j) ∧ f_selUseR r.2 = (if i = -1 then 0 else 1) ∧ f_selRk r.2 = (if i = -1 then 0 else rk K (krf K) i) ∧ f_selUseC r.2 = (if j = -1 then 0 else 1) ∧ f_selCk r.2 = (if j = -1 then 0 else rk K (kcf K) j)))) := by
 have z0 : (0 : Int32).toInt = 0 := rfl
 have z32 : (32 : Int32).toInt = 32 := rfl
 have m1 : (-1 : Int32).toInt = -1 := rfl
 unfold F8
 rw [h.rf]
 apply okP.bind
 refine okP.mono (keys_ok wf h (U := 0) wf.rf rfl (by decide)) ?_
 rintro ⟨n1, p1⟩ ⟨a1, X, a2, a3, a4, _⟩
 simp only at a1 a2
 subst a2
 have h1 := h.keys a3
 rw [h1.cf]
 apply okP.bind
 refine okP.mono (keys_ok wf h1 (U := 32) wf.cf rfl (by decide)) ?_
 rintro ⟨n2, p2⟩ ⟨b1, Y, b2, b3, b4, b5⟩
 simp only at b1 b2
 subst b2
 have h2 := h1.keys b3
 have s1 : Seg Y 0 (kys K (krf K)) := fun t ht => by
  have := kys_len wf (krf K)
  rw [b5 (0 + t) (by omega)]
  exact a4 t ht
 have kY : f_keys (s_keys (s_keys o X) Y) = Y := rfl
 obtain ⟨q, hq⟩ : ∃ q, q = s_keys (s_keys o X) Y := ⟨_, rfl⟩
 rw [← hq] at h2 kY ⊢
 clear hq
 have g55 : inR K (krf K) i → inR K (kcf K) j → okP (J8_55 q i j) (fun r => Sh K L r.2 ∧ ((r.1 = 0 ∧ ¬ (inR K (krf K) i ∧ inR K (kcf K) j)) ∨ (r.1 = 1 ∧ (inR K (krf K) i ∧ inR K (kcf K) j) ∧ f_selUseR r.2 = (if i = -1 then 0 else 1) ∧ f_selRk r.2 = (if i = -1 then 0 else rk K (krf K) i) ∧ f_selUseC r.2 = (if j = -1 then 0 else 1) ∧ f_selCk r.2 = (if j = -1 then 0 else rk K (kcf K) j)))) := by
  intro hi hj
  have g87 : ∀ (p : Ob) (w : Int32), Sh K L p → f_keys p = Y → f_selUseR p = (if i = -1 then 0 else 1) → w = (if i = -1 then 0 else rk K (krf K) i) → okP (J8_87 p j w) (fun r => Sh K L r.2 ∧ ((r.1 = 0 ∧ ¬ (inR K (krf K) i ∧ inR K (kcf K) j)) ∨ (r.1 = 1 ∧ (inR K (krf K) i ∧ inR K (kcf K) j) ∧ f_selUseR r.2 = (if i = -1 then 0 else 1) ∧ f_selRk r.2 = (if i = -1 then 0 else rk K (krf K) i) ∧ f_selUseC r.2 = (if j = -1 then 0 else 1) ∧ f_selCk r.2 = (if j = -1 then 0 else rk K (kcf K) j)))) := by
   intro p w hp hY hu hw
   unfold J8_87 J8_125
   by_cases e : j = -1
   ·simp only [if_pos e]
    rw [show qboo 0 = some 0 from rfl]
    simp only [Option.bind_some, if_true]
    exact okP.some ⟨(((hp.selRk).selUseC).selCk), Or.inr ⟨rfl, ⟨hi, hj⟩, hu, hw, rfl, rfl⟩⟩
   ·simp only [if_neg e]
    rw [show qboo 1 = some 1 from rfl]
    simp only [Option.bind_some]
    rw [if_neg (by decide), hY]
    rcases hj with hj | hj
    ·exact absurd hj e
    have kl := kys_len wf (kcf K)
    rw [seg_get b4 (i := j) (by rw [i_add (by omega) (by omega), z32]; rfl) hj.1 hj.2]
    simp only [Option.bind_some]
    refine okP.some ⟨(((hp.selRk).selUseC).selCk), Or.inr ⟨rfl, ⟨hi, Or.inr hj⟩, hu, hw, rfl, ?_⟩⟩
    unfold rk
    rw [if_neg (by omega)]; rfl
  unfold J8_55
  by_cases e : i = -1
  ·simp only [if_pos e]
   rw [show qboo 0 = some 0 from rfl]
   simp only [Option.bind_some, if_true]
   have := g87 (s_selUseR q 0) 0 h2.selUseR kY (by rw [if_pos e]; rfl) (by rw [if_pos e])
   simp only [if_pos e] at this
   exact this
  ·simp only [if_neg e]
   rw [show qboo 1 = some 1 from rfl]
   simp only [Option.bind_some]
   rw [if_neg (by decide), kY]
   have hi' := hi
   rcases hi' with hi' | hi'
   ·exact absurd hi' e
   rw [seg_get s1 (i := i) (by omega) hi'.1 hi'.2]
   simp only [Option.bind_some]
   have := g87 (s_selUseR q 1) (((kys K (krf K))[i.toInt.toNat]?).getD 0) h2.selUseR kY (by rw [if_neg e]; rfl) (by rw [if_neg e]; unfold rk; rw [if_neg (by omega)])
   simp only [if_neg e] at this
   exact this
 have g38 : inR K (krf K) i → okP (J8_38 q i j n2) (fun r => Sh K L r.2 ∧ ((r.1 = 0 ∧ ¬ (inR K (krf K) i ∧ inR K (kcf K) j)) ∨ (r.1 = 1 ∧ (inR K (krf K) i ∧ inR K (kcf K) j) ∧ f_selUseR r.2 = (if i = -1 then 0 else 1) ∧ f_selRk r.2 = (if i = -1 then 0 else rk K (krf K) i) ∧ f_selUseC r.2 = (if j = -1 then 0 else 1) ∧ f_selCk r.2 = (if j = -1 then 0 else rk K (kcf K) j)))) := by
  intro hi
  unfold J8_38
  by_cases e : j = -1
  ·rw [if_pos e]
   exact g55 hi (Or.inl e)
  rw [if_neg e]
  apply okP.ite <;> intro c
  ·rw [i_lt, z0] at c
   exact okP.some ⟨h2, Or.inl ⟨rfl, fun q => by rcases q.2 with q | q; exact e q; omega⟩⟩
  rw [i_lt, z0] at c
  apply okP.ite <;> intro d
  ·rw [i_lt] at d
   exact g55 hi (Or.inr ⟨by omega, by omega⟩)
  ·rw [i_lt] at d
   exact okP.some ⟨h2, Or.inl ⟨rfl, fun q => by rcases q.2 with q | q; exact e q; omega⟩⟩
 simp only
 by_cases e : i = -1
 ·rw [if_pos e]
  exact g38 (Or.inl e)
 rw [if_neg e]
 apply okP.ite <;> intro c
 ·rw [i_lt, z0] at c
  exact okP.some ⟨h2, Or.inl ⟨rfl, fun q => by rcases q.1 with q | q; exact e q; omega⟩⟩
 rw [i_lt, z0] at c
 apply okP.ite <;> intro d
 ·rw [i_lt] at d
  exact g38 (Or.inr ⟨by omega, by omega⟩)
 ·rw [i_lt] at d
  exact okP.some ⟨h2, Or.inl ⟨rfl, fun q => by rcases q.1 with q | q; exact e q; omega⟩⟩
theorem value_ok {K : Core} (wf : WF K) {L : Int32} {o : Ob} (h : Sh K L o) (i j : Int32) : okP (F11 o i j) (fun r => r.1 = (pv K i j).1 ∧ Sh K L r.2) := by
 unfold F11
 apply okP.bind
 refine okP.mono (resolve_ok wf h i j) ?_
 rintro ⟨r, p⟩ ⟨hp, ⟨r0, no⟩ | ⟨r1, yes, u1, u2, u3, u4⟩⟩
 ·simp only at r0 hp ⊢
  subst r0
  rw [if_pos rfl]
  unfold pv
  rw [if_neg no]
  exact okP.some ⟨rfl, hp⟩
 ·simp only at r1 hp u1 u2 u3 u4 ⊢
  subst r1
  rw [if_neg (by decide), eval_ok wf hp, u1, u2, u3, u4]
  simp only [Option.bind_some]
  unfold pv
  rw [if_pos yes]
  exact okP.some ⟨rfl, hp.gCount.gVal⟩
theorem count_ok {K : Core} (wf : WF K) {L : Int32} {o : Ob} (h : Sh K L o) (i j : Int32) : okP (F7 o i j) (fun r => r.1 = (pv K i j).2 ∧ Sh K L r.2) := by
 unfold F7
 apply okP.bind
 refine okP.mono (resolve_ok wf h i j) ?_
 rintro ⟨r, p⟩ ⟨hp, ⟨r0, no⟩ | ⟨r1, yes, u1, u2, u3, u4⟩⟩
 ·simp only at r0 hp ⊢
  subst r0
  rw [if_pos rfl]
  unfold pv
  rw [if_neg no]
  exact okP.some ⟨rfl, hp⟩
 ·simp only at r1 hp u1 u2 u3 u4 ⊢
  subst r1
  rw [if_neg (by decide), eval_ok wf hp, u1, u2, u3, u4]
  simp only [Option.bind_some]
  unfold pv
  rw [if_pos yes]
  exact okP.some ⟨rfl, hp.gCount.gVal⟩
theorem rkc_ok {K : Core} (wf : WF K) {L : Int32} {o : Ob} (h : Sh K L o) : okP (F4 o) (fun r => r.1.toInt = (kys K (krf K)).length ∧ Sh K L r.2) := by
 unfold F4
 rw [h.rf]
 apply okP.bind
 refine okP.mono (keys_ok wf h (U := 0) wf.rf rfl (by decide)) ?_
 rintro ⟨n1, p1⟩ ⟨a1, X, a2, a3, a4, _⟩
 simp only at a1 a2 ⊢
 subst a2
 exact okP.some ⟨a1, h.keys a3⟩
theorem ckc_ok {K : Core} (wf : WF K) {L : Int32} {o : Ob} (h : Sh K L o) : okP (F6 o) (fun r => r.1.toInt = (kys K (kcf K)).length ∧ Sh K L r.2) := by
 unfold F6
 rw [h.cf]
 apply okP.bind
 refine okP.mono (keys_ok wf h (U := 32) wf.cf rfl (by decide)) ?_
 rintro ⟨n1, p1⟩ ⟨a1, X, a2, a3, a4, _⟩
 simp only at a1 a2 ⊢
 subst a2
 exact okP.some ⟨a1, h.keys a3⟩
theorem rk_out {K : Core} {f i : Int32} (h : i.toInt < 0 ∨ (kys K f).length ≤ i.toInt) : rk K f i = 0 := by
 unfold rk
 by_cases c : i.toInt < 0
 ·rw [if_pos c]
 ·rw [if_neg c, List.getElem?_eq_none (by omega)]; rfl
theorem rowKey_ok {K : Core} (wf : WF K) {L : Int32} {o : Ob} (h : Sh K L o) (i : Int32) : okP (F20 o i) (fun r => r.1 = rk K (krf K) i ∧ Sh K L r.2) := by
 have z0 : (0 : Int32).toInt = 0 := rfl
 unfold F20
 rw [h.rf]
 apply okP.bind
 refine okP.mono (keys_ok wf h (U := 0) wf.rf rfl (by decide)) ?_
 rintro ⟨n1, p1⟩ ⟨a1, X, a2, a3, a4, _⟩
 simp only at a1 a2 ⊢
 subst a2
 apply okP.ite <;> intro c
 ·rw [i_lt, z0] at c
  exact okP.some ⟨(rk_out (Or.inl c)).symm, h.keys a3⟩
 rw [i_lt, z0] at c
 apply okP.ite <;> intro d
 ·rw [i_lt] at d
  rw [show f_keys (s_keys o X) = X from rfl, seg_get a4 (i := i) (by omega) (by omega) (by omega)]
  exact okP.some ⟨by unfold rk; rw [if_neg c], h.keys a3⟩
 ·rw [i_lt] at d
  exact okP.some ⟨(rk_out (Or.inr (by omega))).symm, h.keys a3⟩
theorem colKey_ok {K : Core} (wf : WF K) {L : Int32} {o : Ob} (h : Sh K L o) (i : Int32) : okP (F22 o i) (fun r => r.1 = rk K (kcf K) i ∧ Sh K L r.2) := by
 have z0 : (0 : Int32).toInt = 0 := rfl
 have z32 : (32 : Int32).toInt = 32 := rfl
 unfold F22
 rw [h.cf]
 apply okP.bind
 refine okP.mono (keys_ok wf h (U := 32) wf.cf rfl (by decide)) ?_
 rintro ⟨n1, p1⟩ ⟨a1, X, a2, a3, a4, _⟩
 simp only at a1 a2 ⊢
 subst a2
 have kl := kys_len wf (kcf K)
 apply okP.ite <;> intro c
 ·rw [i_lt, z0] at c
  exact okP.some ⟨(rk_out (Or.inl c)).symm, h.keys a3⟩
 rw [i_lt, z0] at c
 apply okP.ite <;> intro d
 ·rw [i_lt] at d
  rw [show f_keys (s_keys o X) = X from rfl, seg_get a4 (i := i) (by rw [i_add (by omega) (by omega), z32]; rfl) (by omega) (by omega)]
  exact okP.some ⟨by unfold rk; rw [if_neg c], h.keys a3⟩
 ·rw [i_lt] at d
  exact okP.some ⟨(rk_out (Or.inr (by omega))).symm, h.keys a3⟩
def mo (K : Core) (s : Nat) : Int32 := ((kM K)[s]?).getD 0
def fm (K : Core) (s : Nat) : Int32 × Int32 := if mo K s = 0 then (0, 0) else grp K (if mo K s = 1 then 1 else if mo K s = 2 then 1 else 0) (((kFa K)[s]?).getD 0) (if mo K s = 1 then 1 else if mo K s = 3 then 1 else 0) (((kFb K)[s]?).getD 0)
def fnd (K : Core) (s : Nat) : Int32 := if 0 < (fm K s).2 then 1 else 0
def nN (K : Core) : Nat := (kN K).toInt.toNat
theorem ag_16 {X : List Int32} (l : X.length = 16) {i : Int32} (h0 : 0 ≤ i.toInt) (h1 : i.toInt < 16) : aget X i = some ((X[i.toInt.toNat]?).getD 0) := by
 rw [aget_at (n := i.toInt.toNat) (by omega) (by omega), List.getElem?_eq_getElem (by omega)]; rfl
theorem form_ok {K : Core} (wf : WF K) {L : Int32} {o : Ob} (h : Sh K L o) {s : Int32} (s0 : 0 ≤ s.toInt) (s1 : s.toInt < 16) : okP (F17 o s) (fun r => r = s_gVal (s_gCount o (fm K s.toInt.toNat).2) (fm K s.toInt.toNat).1) := by
 unfold F17
 rw [h.M, ag_16 wf.m s0 s1]
 simp only [Option.bind_some]
 show okP (if mo K s.toInt.toNat = 0 then _ else _) _
 unfold fm
 by_cases e : mo K s.toInt.toNat = 0
 ·rw [if_pos e, if_pos e]
  exact okP.some (by dsimp only [s_gCount, s_gVal])
 ·rw [if_neg e, if_neg e, h.A, ag_16 wf.a s0 s1, h.B, ag_16 wf.c s0 s1]
  simp only [Option.bind_some]
  rw [eval_ok wf h]
  exact okP.some rfl
def Pv (K : Core) (o : Ob) (n : Nat) : Prop := ∀ s, s < n → (f_prevVal o)[s]? = some (fm K s).1 ∧ (f_prevFound o)[s]? = some (fnd K s)
theorem bit1 (c : Prop) [Decidable c] : (if c then (1 : Int32) else 0) &&& 1 = if c then 1 else 0 := by
 split <;> rfl
theorem snap_ok {K : Core} (wf : WF K) {L : Int32} {o : Ob} (h : Sh K L o) : okP (F16 o) (fun r => Sh K L r ∧ Pv K r (nN K)) := by
 have n16 := wf.n
 unfold F16
 apply okP.bind
 refine okP.loop (fun w => 0 ≤ w.1.toInt ∧ w.1.toInt ≤ (kN K).toInt ∧ Sh K L w.2 ∧ Pv K w.2 w.1.toInt.toNat) (fun w => ((kN K).toInt - w.1.toInt).toNat) ⟨by show (0 : Int) ≤ 0; decide, by show (0 : Int) ≤ _; omega, h, fun s hs => absurd hs (Nat.not_lt_zero _)⟩ (by show ((kN K).toInt - (0 : Int)).toNat < 4000; omega) ?_
 rintro ⟨w, p⟩ ⟨a1, a2, hp, P⟩
 simp only at a1 a2 hp P
 unfold B16_2
 simp only
 rw [hp.N]
 apply okP.ite <;> intro c
 ·rw [i_lt] at c
  have e2 : (w + 1).toInt = w.toInt + 1 := inc1 (by omega)
  apply okP.bind
  refine okP.mono (form_ok wf hp a1 (by omega)) ?_
  rintro r rfl
  have h1 : Sh K L (s_gVal (s_gCount p (fm K w.toInt.toNat).2) (fm K w.toInt.toNat).1) := hp.gCount.gVal
  obtain ⟨q, hq⟩ : ∃ q, q = s_gVal (s_gCount p (fm K w.toInt.toNat).2) (fm K w.toInt.toNat).1 := ⟨_, rfl⟩
  have g1 : f_gVal q = (fm K w.toInt.toNat).1 := by rw [hq]; rfl
  have g2 : f_gCount q = (fm K w.toInt.toNat).2 := by rw [hq]; rfl
  have g3 : f_prevVal q = f_prevVal p := by rw [hq]; rfl
  have g4 : f_prevFound q = f_prevFound p := by rw [hq]; rfl
  rw [← hq] at h1 ⊢
  clear hq
  rw [g1, g2, bit1]
  have l1 := h1.2.2.1
  have l2 := h1.2.2.2.1
  apply okP.bind
  refine okP.aset a1 (by omega) ?_
  apply okP.bind
  refine okP.aset a1 (by omega) ?_
  apply okP.some
  refine ⟨⟨by simp only; omega, by simp only; omega, (h1.prevVal (by rw [List.length_set]; exact l1)).prevFound (by rw [List.length_set]; exact l2), ?_⟩, by simp only; omega⟩
  intro s hs
  simp only at hs
  show ((f_prevVal q).set w.toInt.toNat (fm K w.toInt.toNat).1)[s]? = _ ∧ ((f_prevFound q).set w.toInt.toNat (fnd K w.toInt.toNat))[s]? = _
  by_cases e : s = w.toInt.toNat
  ·rw [e, List.getElem?_set_self (by omega), List.getElem?_set_self (by omega)]
   exact ⟨rfl, rfl⟩
  ·rw [List.getElem?_set_ne (by omega), List.getElem?_set_ne (by omega), g3, g4]
   exact P s (by omega)
 ·rw [i_lt] at c
  have : w.toInt.toNat = nN K := by unfold nN; omega
  rw [this] at P
  exact okP.some (okP.some ⟨hp, P⟩)
def chg (K K' : Core) (s : Nat) : Bool := !((fm K' s).1 == (fm K s).1 && fnd K' s == fnd K s)
def cc (K K' : Core) (n : Nat) : Nat := ((List.range n).filter (chg K K')).length
theorem cc_s (K K' : Core) (n : Nat) : cc K K' (n + 1) = if chg K K' n then cc K K' n + 1 else cc K K' n := by
 unfold cc
 rw [List.range_succ, List.filter_append, List.length_append]
 by_cases h : chg K K' n = true
 ·rw [if_pos h, List.filter_cons_of_pos h]; rfl
 ·rw [if_neg h, List.filter_cons_of_neg h]; rfl
theorem cc_le (K K' : Core) (n : Nat) : cc K K' n ≤ n := by
 have := List.length_filter_le (chg K K') (List.range n)
 rw [List.length_range] at this
 exact this
theorem cc_comm (K K' : Core) (n : Nat) : cc K K' n = cc K' K n := by
 have : chg K K' = chg K' K := by
  funext s
  unfold chg
  rw [Bool.beq_comm (a := (fm K' s).1), Bool.beq_comm (a := fnd K' s)]
 unfold cc
 rw [this]
theorem chd_ok {K K' : Core} (wf : WF K') {L : Int32} {o : Ob} (h : Sh K' L o) (P : Pv K o (nN K')) : okP (F18 o) (fun r => r.1.toInt = cc K K' (nN K') ∧ Sh K' L r.2) := by
 have n16 := wf.n
 unfold F18
 apply okP.bind
 refine okP.loop (fun w => 0 ≤ w.2.1.toInt ∧ w.2.1.toInt ≤ (kN K').toInt ∧ w.1.toInt = cc K K' w.2.1.toInt.toNat ∧ Sh K' L w.2.2 ∧ Pv K w.2.2 (nN K')) (fun w => ((kN K').toInt - w.2.1.toInt).toNat) ⟨by show (0 : Int) ≤ 0; decide, by show (0 : Int) ≤ _; omega, rfl, h, P⟩ (by show ((kN K').toInt - (0 : Int)).toNat < 4000; omega) ?_
 rintro ⟨n, w, p⟩ ⟨a1, a2, a3, hp, P⟩
 simp only at a1 a2 a3 hp P
 have cl := cc_le K K' w.toInt.toNat
 unfold B18_4 J18_53 J18_56
 simp only
 rw [hp.N]
 apply okP.ite <;> intro c
 ·rw [i_lt] at c
  have e2 : (w + 1).toInt = w.toInt + 1 := inc1 (by omega)
  have en : (w + 1).toInt.toNat = w.toInt.toNat + 1 := by omega
  apply okP.bind
  refine okP.mono (form_ok wf hp a1 (by omega)) ?_
  rintro r rfl
  have h1 : Sh K' L (s_gVal (s_gCount p (fm K' w.toInt.toNat).2) (fm K' w.toInt.toNat).1) := hp.gCount.gVal
  have P1 : Pv K (s_gVal (s_gCount p (fm K' w.toInt.toNat).2) (fm K' w.toInt.toNat).1) (nN K') := P
  obtain ⟨q, hq⟩ : ∃ q, q = s_gVal (s_gCount p (fm K' w.toInt.toNat).2) (fm K' w.toInt.toNat).1 := ⟨_, rfl⟩
  have g1 : f_gVal q = (fm K' w.toInt.toNat).1 := by rw [hq]; rfl
  have g2 : f_gCount q = (fm K' w.toInt.toNat).2 := by rw [hq]; rfl
  rw [← hq] at h1 P1 ⊢
  clear hq
  rw [g1, g2]
  obtain ⟨p1, p2⟩ := P1 w.toInt.toNat (by unfold nN; omega)
  rw [ag_n (n := w.toInt.toNat) (by omega) p1]
  simp only [Option.bind_some]
  have i1 : n.toInt < 2147483647 := by omega
  have i2 := inc1 i1
  apply okP.ite <;> intro d
  ·rw [ag_n (n := w.toInt.toNat) (by omega) p2]
   simp only [Option.bind_some]
   apply okP.some
   refine ⟨⟨by simp only; omega, by simp only; omega, ?_, h1, P1⟩, by simp only; omega⟩
   simp only [en]
   rw [cc_s]
   show (if fnd K' w.toInt.toNat = fnd K w.toInt.toNat then n else n + 1).toInt = _
   by_cases e : fnd K' w.toInt.toNat = fnd K w.toInt.toNat
   ·rw [if_pos e, show chg K K' w.toInt.toNat = false from by unfold chg; rw [d, e]; simp]
    exact a3
   ·rw [if_neg e, show chg K K' w.toInt.toNat = true from by unfold chg; rw [d, beq_false_of_ne e]; simp, if_pos rfl, i2, a3]; rfl
  ·apply okP.some
   refine ⟨⟨by simp only; omega, by simp only; omega, ?_, h1, P1⟩, by simp only; omega⟩
   simp only [en]
   rw [cc_s, show chg K K' w.toInt.toNat = true from by unfold chg; rw [beq_false_of_ne d]; simp, if_pos rfl, i2, a3]; rfl
 ·rw [i_lt] at c
  have : w.toInt.toNat = nN K' := by unfold nN; omega
  rw [this] at a3
  exact okP.some (okP.some ⟨a3, hp⟩)
theorem row_ok {K : Core} {L : Int32} {o : Ob} (h : Sh K L o) (x : Int32) : F13 o x = some (if 0 ≤ x.toInt ∧ x.toInt < (kR K).toInt then 1 else 0) := by
 have z0 : (0 : Int32).toInt = 0 := rfl
 unfold F13
 rw [h.R]
 by_cases a : x < 0
 ·rw [if_pos a, if_neg (by rw [i_lt, z0] at a; omega)]
 ·rw [if_neg a]
  rw [i_lt, z0] at a
  by_cases b : x < kR K
  ·rw [if_pos b, if_pos (by rw [i_lt] at b; omega)]
  ·rw [if_neg b, if_neg (by rw [i_lt] at b; omega)]
def kSet (K : Core) (r f : Nat) (v : Int32) : Core := ((kDa K).set (r * 4 + f) v, (kG K).set r 1, K.2.2)
def kClr (K : Core) (r : Nat) : Core := (((((kDa K).set (r * 4 + 0) 0).set (r * 4 + 1) 0).set (r * 4 + 2) 0).set (r * 4 + 3) 0, (kG K).set r 0, K.2.2)
def kPiv (K : Core) (a b c g : Int32) : Core := (K.1, K.2.1, K.2.2.1, K.2.2.2.1, a, b, c, g, K.2.2.2.2.2.2.2.2)
def kFor (K : Core) (s : Nat) (m a b : Int32) : Core := (K.1, K.2.1, K.2.2.1, K.2.2.2.1, K.2.2.2.2.1, K.2.2.2.2.2.1, K.2.2.2.2.2.2.1, K.2.2.2.2.2.2.2.1, (kM K).set s m, (kFa K).set s a, (kFb K).set s b)
theorem WF.set {K : Core} (w : WF K) {r f : Nat} {v : Int32} (hr : r < 32) : WF (kSet K r f v) := by
 refine ⟨?_, ?_, ?_, w.2.2.2⟩
 ·show ((kDa K).set (r * 4 + f) v).length = 128
  rw [List.length_set]; exact w.d
 ·show ((kG K).set r 1).length = 32
  rw [List.length_set]; exact w.g
 ·intro i hi
  show ((kG K).set r 1)[i]? = some 0 ∨ ((kG K).set r 1)[i]? = some 1
  by_cases e : r = i
  ·rw [e, List.getElem?_set_self (by rw [w.g]; omega)]; exact Or.inr rfl
  ·rw [List.getElem?_set_ne e]; exact w.b i hi
theorem WF.clr {K : Core} (w : WF K) {r : Nat} (hr : r < 32) : WF (kClr K r) := by
 refine ⟨?_, ?_, ?_, w.2.2.2⟩
 ·show (((((kDa K).set (r * 4 + 0) 0).set (r * 4 + 1) 0).set (r * 4 + 2) 0).set (r * 4 + 3) 0).length = 128
  simp only [List.length_set]; exact w.d
 ·show ((kG K).set r 0).length = 32
  rw [List.length_set]; exact w.g
 ·intro i hi
  show ((kG K).set r 0)[i]? = some 0 ∨ ((kG K).set r 0)[i]? = some 1
  by_cases e : r = i
  ·rw [e, List.getElem?_set_self (by rw [w.g]; omega)]; exact Or.inl rfl
  ·rw [List.getElem?_set_ne e]; exact w.b i hi
theorem WF.piv {K : Core} (w : WF K) {a b c g : Int32} (ha : 0 ≤ a.toInt ∧ a.toInt < 4) (hb : 0 ≤ b.toInt ∧ b.toInt < 4) (hc : 0 ≤ c.toInt ∧ c.toInt < 4) : WF (kPiv K a b c g) := ⟨w.1, w.2.1, w.2.2.1, w.2.2.2.1, w.2.2.2.2.1, ha, hb, hc, w.2.2.2.2.2.2.2.2⟩
theorem WF.for {K : Core} (w : WF K) {s : Nat} {m a b : Int32} : WF (kFor K s m a b) := by
 refine ⟨w.1, w.2.1, w.2.2.1, w.2.2.2.1, w.2.2.2.2.1, w.2.2.2.2.2.1, w.2.2.2.2.2.2.1, w.2.2.2.2.2.2.2.1, ?_, ?_, ?_⟩
 ·show ((kM K).set s m).length = 16
  rw [List.length_set]; exact w.m
 ·show ((kFa K).set s a).length = 16
  rw [List.length_set]; exact w.a
 ·show ((kFb K).set s b).length = 16
  rw [List.length_set]; exact w.c
theorem Sh_cell {K : Core} {L : Int32} {o : Ob} (h : Sh K L o) {r f : Nat} {v : Int32} : Sh (kSet K r f v) L (s_filled (s_data o ((kDa K).set (r * 4 + f) v)) ((kG K).set r 1)) := by
 have h' := h
 obtain ⟨h1, h2⟩ := h'
 refine ⟨?_, h2⟩
 rw [← h1]
 dsimp only [core, kSet, kDa, kG, f_data, f_filled, f_rf, f_cf, f_vf, f_ag, f_fMode, f_fRk, f_fCk, f_prevVal, f_prevFound, f_keys, f_nRows, f_nForms, f_last, f_selUseR, f_selRk, f_selUseC, f_selCk, f_gCount, f_gVal, s_filled, s_data]
theorem Sh_piv {K : Core} {L : Int32} {o : Ob} (h : Sh K L o) {a b c g : Int32} : Sh (kPiv K a b c g) L (s_ag (s_vf (s_cf (s_rf o a) b) c) g) := by
 obtain ⟨h1, h2⟩ := h
 refine ⟨?_, ?_⟩
 ·rw [← h1]
  dsimp only [core, kPiv, f_data, f_filled, f_rf, f_cf, f_vf, f_ag, f_fMode, f_fRk, f_fCk, f_prevVal, f_prevFound, f_keys, f_nRows, f_nForms, f_last, f_selUseR, f_selRk, f_selUseC, f_selCk, f_gCount, f_gVal, s_ag, s_vf, s_cf, s_rf]
 ·dsimp only [f_data, f_filled, f_rf, f_cf, f_vf, f_ag, f_fMode, f_fRk, f_fCk, f_prevVal, f_prevFound, f_keys, f_nRows, f_nForms, f_last, f_selUseR, f_selRk, f_selUseC, f_selCk, f_gCount, f_gVal, s_ag, s_vf, s_cf, s_rf] at h2 ⊢
  exact h2
theorem Sh_for {K : Core} {L : Int32} {o : Ob} (h : Sh K L o) {s : Nat} {m a b : Int32} : Sh (kFor K s m a b) L (s_fCk (s_fRk (s_fMode o ((kM K).set s m)) ((kFa K).set s a)) ((kFb K).set s b)) := by
 obtain ⟨h1, h2⟩ := h
 refine ⟨?_, ?_⟩
 ·rw [← h1]
  dsimp only [core, kFor, kM, kFa, kFb, f_data, f_filled, f_rf, f_cf, f_vf, f_ag, f_fMode, f_fRk, f_fCk, f_prevVal, f_prevFound, f_keys, f_nRows, f_nForms, f_last, f_selUseR, f_selRk, f_selUseC, f_selCk, f_gCount, f_gVal, s_fCk, s_fRk, s_fMode]
 ·dsimp only [f_data, f_filled, f_rf, f_cf, f_vf, f_ag, f_fMode, f_fRk, f_fCk, f_prevVal, f_prevFound, f_keys, f_nRows, f_nForms, f_last, f_selUseR, f_selRk, f_selUseC, f_selCk, f_gCount, f_gVal, s_fCk, s_fRk, s_fMode] at h2 ⊢
  exact h2
theorem slot_ok {K : Core} {L : Int32} {o : Ob} (h : Sh K L o) (x : Int32) : F27 o x = some (if 0 ≤ x.toInt ∧ x.toInt < (kN K).toInt then 1 else 0) := by
 have z0 : (0 : Int32).toInt = 0 := rfl
 unfold F27
 rw [h.N]
 by_cases a : x < 0
 ·rw [if_pos a, if_neg (by rw [i_lt, z0] at a; omega)]
 ·rw [if_neg a]
  rw [i_lt, z0] at a
  by_cases b : x < kN K
  ·rw [if_pos b, if_pos (by rw [i_lt] at b; omega)]
  ·rw [if_neg b, if_neg (by rw [i_lt] at b; omega)]
theorem setFor_ok {K : Core} (wf : WF K) {L : Int32} {o : Ob} (h : Sh K L o) (x m a b : Int32) : okP (F26 o x m a b) (fun r => if (0 ≤ x.toInt ∧ x.toInt < (kN K).toInt) ∧ (0 ≤ m.toInt ∧ m.toInt ≤ 4) then r.1 = 1 ∧ Sh (kFor K x.toInt.toNat m a b) L r.2 else r.1 = 0 ∧ Sh K L r.2) := by
 have z0 : (0 : Int32).toInt = 0 := rfl
 have z4 : (4 : Int32).toInt = 4 := rfl
 have n16 := wf.n
 unfold F26
 rw [slot_ok h]
 simp only [Option.bind_some]
 by_cases c : 0 ≤ x.toInt ∧ x.toInt < (kN K).toInt
 ·rw [if_pos c, if_neg (by decide)]
  by_cases d : 0 ≤ m.toInt ∧ m.toInt ≤ 4
  ·simp only [if_pos (show (0 ≤ x.toInt ∧ x.toInt < (kN K).toInt) ∧ (0 ≤ m.toInt ∧ m.toInt ≤ 4) from ⟨c, d⟩)]
   rw [if_neg (by rw [i_lt, z0]; omega), if_neg (by rw [i_lt, z4]; omega), h.M, h.A, h.B]
   apply okP.bind
   refine okP.aset (by omega) (by rw [wf.m]; omega) ?_
   apply okP.bind
   refine okP.aset (by omega) (by rw [wf.a]; omega) ?_
   apply okP.bind
   refine okP.aset (by omega) (by rw [wf.c]; omega) ?_
   exact okP.some ⟨rfl, Sh_for h⟩
  ·simp only [if_neg (show ¬ ((0 ≤ x.toInt ∧ x.toInt < (kN K).toInt) ∧ (0 ≤ m.toInt ∧ m.toInt ≤ 4)) from fun q => d q.2)]
   apply okP.ite <;> intro e
   ·exact okP.some ⟨rfl, h⟩
   ·rw [i_lt, z0] at e
    rw [if_pos (by rw [i_lt, z4]; omega)]
    exact okP.some ⟨rfl, h⟩
 ·simp only [if_neg (show ¬ ((0 ≤ x.toInt ∧ x.toInt < (kN K).toInt) ∧ (0 ≤ m.toInt ∧ m.toInt ≤ 4)) from fun q => c q.1)]
  rw [if_neg c, if_pos rfl]
  exact okP.some ⟨rfl, h⟩
theorem Pv_same {K : Core} {o p : Ob} {n : Nat} (h : Pv K o n) (h1 : f_prevVal p = f_prevVal o) (h2 : f_prevFound p = f_prevFound o) : Pv K p n := by
 intro s hs
 rw [h1, h2]
 exact h s hs
theorem setCell_ok {K : Core} (wf : WF K) {L : Int32} {o : Ob} (h : Sh K L o) (x y v : Int32) : okP (F15 o x y v) (fun r => if (0 ≤ x.toInt ∧ x.toInt < (kR K).toInt) ∧ (0 ≤ y.toInt ∧ y.toInt < 4) then r.1 = 1 ∧ ∃ L', Sh (kSet K x.toInt.toNat y.toInt.toNat v) L' r.2 ∧ L'.toInt = cc K (kSet K x.toInt.toNat y.toInt.toNat v) (nN K) else r.1 = 0 ∧ Sh K L r.2) := by
 have z0 : (0 : Int32).toInt = 0 := rfl
 have z4 : (4 : Int32).toInt = 4 := rfl
 have r32 := wf.r
 unfold F15
 rw [row_ok h]
 simp only [Option.bind_some]
 by_cases c : 0 ≤ x.toInt ∧ x.toInt < (kR K).toInt
 ·rw [if_pos c, if_neg (by decide)]
  by_cases d : 0 ≤ y.toInt ∧ y.toInt < 4
  ·simp only [if_pos (show (0 ≤ x.toInt ∧ x.toInt < (kR K).toInt) ∧ (0 ≤ y.toInt ∧ y.toInt < 4) from ⟨c, d⟩)]
   rw [if_neg (by rw [i_lt, z0]; omega), if_pos (by rw [i_lt, z4]; omega)]
   apply okP.bind
   refine okP.mono (snap_ok wf h) ?_
   rintro p ⟨hp, P⟩
   have e := idx (r := x) (f := y) ⟨c.1, by omega⟩ d
   rw [hp.D, hp.G, aset_at (n := x.toInt.toNat * 4 + y.toInt.toNat) (by omega) (by rw [wf.d]; omega)]
   simp only [Option.bind_some]
   rw [aset_at (n := x.toInt.toNat) (by omega) (by rw [wf.g]; omega)]
   simp only [Option.bind_some]
   have hq := Sh_cell hp (r := x.toInt.toNat) (f := y.toInt.toNat) (v := v)
   have P' : Pv K (s_filled (s_data p ((kDa K).set (x.toInt.toNat * 4 + y.toInt.toNat) v)) ((kG K).set x.toInt.toNat 1)) (nN K) := Pv_same P rfl rfl
   apply okP.bind
   refine okP.mono (chd_ok (K := K) (wf.set (by omega)) hq P') ?_
   rintro ⟨n, q⟩ ⟨a1, a2⟩
   exact okP.some ⟨rfl, _, a2.last, a1⟩
  ·simp only [if_neg (show ¬ ((0 ≤ x.toInt ∧ x.toInt < (kR K).toInt) ∧ (0 ≤ y.toInt ∧ y.toInt < 4)) from fun q => d q.2)]
   apply okP.ite <;> intro e
   ·exact okP.some ⟨rfl, h⟩
   ·rw [i_lt, z0] at e
    rw [if_neg (by rw [i_lt, z4]; omega)]
    exact okP.some ⟨rfl, h⟩
 ·simp only [if_neg (show ¬ ((0 ≤ x.toInt ∧ x.toInt < (kR K).toInt) ∧ (0 ≤ y.toInt ∧ y.toInt < 4)) from fun q => c q.1)]
  rw [if_neg c, if_pos rfl]
  exact okP.some ⟨rfl, h⟩
theorem clearRow_ok {K : Core} (wf : WF K) {L : Int32} {o : Ob} (h : Sh K L o) (x : Int32) : okP (F23 o x) (fun r => if (0 ≤ x.toInt ∧ x.toInt < (kR K).toInt) ∧ fil K x.toInt.toNat = true then r.1 = 1 ∧ ∃ L', Sh (kClr K x.toInt.toNat) L' r.2 ∧ L'.toInt = cc K (kClr K x.toInt.toNat) (nN K) else r.1 = 0 ∧ Sh K L r.2) := by
 have z0 : (0 : Int32).toInt = 0 := rfl
 have z4 : (4 : Int32).toInt = 4 := rfl
 have r32 := wf.r
 unfold F23
 rw [row_ok h]
 simp only [Option.bind_some]
 by_cases c : 0 ≤ x.toInt ∧ x.toInt < (kR K).toInt
 ·rw [if_pos c, if_neg (by decide), h.G, ag_fil wf c.1 (by omega)]
  simp only [Option.bind_some]
  by_cases f0 : ((kG K)[x.toInt.toNat]?).getD 0 = 0
  ·have fi : fil K x.toInt.toNat = false := by unfold fil; rw [f0]; rfl
   rw [if_pos f0]
   simp only [if_neg (show ¬ ((0 ≤ x.toInt ∧ x.toInt < (kR K).toInt) ∧ fil K x.toInt.toNat = true) from fun q => by rw [fi] at q; cases q.2)]
   exact okP.some ⟨rfl, h⟩
  ·have fi : fil K x.toInt.toNat = true := by unfold fil; rw [bne_iff_ne]; exact f0
   simp only [if_pos (show (0 ≤ x.toInt ∧ x.toInt < (kR K).toInt) ∧ fil K x.toInt.toNat = true from ⟨c, fi⟩)]
   rw [if_neg f0]
   apply okP.bind
   refine okP.mono (snap_ok wf h) ?_
   rintro p ⟨hp, P⟩
   have d128 := wf.d
   have ix : ∀ k : Int32, 0 ≤ k.toInt → k.toInt < 4 → (x * 4 + k).toInt = x.toInt * 4 + k.toInt := fun k k0 k1 => idx (r := x) (f := k) ⟨c.1, by omega⟩ ⟨k0, k1⟩
   have st : ∀ (D : List Int32) (k : Int32) (n : Nat), D.length = 128 → k.toInt = n → n < 4 → B23_27 x (k, s_data p D) = some (.inr (k + 1, s_data p (D.set (x.toInt.toNat * 4 + n) 0))) := by
    intro D k n lD hk hn
    unfold B23_27
    simp only
    have e := ix k (by omega) (by omega)
    rw [if_pos (by rw [i_lt, z4]; omega), show f_data (s_data p D) = D from rfl, aset_at (n := x.toInt.toNat * 4 + n) (by omega) (by omega)]
    rfl
   have p0 : s_data p (kDa K) = p := by rw [← hp.D]; rfl
   have lp : loopN (B23_27 x) qN (0, p) = some (s_data p (((((kDa K).set (x.toInt.toNat * 4 + 0) 0).set (x.toInt.toNat * 4 + 1) 0).set (x.toInt.toNat * 4 + 2) 0).set (x.toInt.toNat * 4 + 3) 0)) := by
    have b0 := st (kDa K) 0 0 d128 rfl (by decide)
    rw [p0] at b0
    have b1 := st ((kDa K).set (x.toInt.toNat * 4 + 0) 0) (0 + 1) 1 (by rw [List.length_set]; exact d128) rfl (by decide)
    have b2 := st (((kDa K).set (x.toInt.toNat * 4 + 0) 0).set (x.toInt.toNat * 4 + 1) 0) (0 + 1 + 1) 2 (by simp only [List.length_set]; exact d128) rfl (by decide)
    have b3 := st ((((kDa K).set (x.toInt.toNat * 4 + 0) 0).set (x.toInt.toNat * 4 + 1) 0).set (x.toInt.toNat * 4 + 2) 0) (0 + 1 + 1 + 1) 3 (by simp only [List.length_set]; exact d128) rfl (by decide)
    have b4 : ∀ q, B23_27 x (0 + 1 + 1 + 1 + 1, q) = some (.inl q) := by
     intro q
     unfold B23_27
     simp only
     rw [if_neg (by decide)]
    show loopN (B23_27 x) (3995 + 1 + 1 + 1 + 1 + 1) (0, p) = _
    simp only [loopN, b0, b1, b2, b3, b4]
   rw [lp]
   simp only [Option.bind_some]
   rw [show ∀ D, f_filled (s_data p D) = f_filled p from fun _ => rfl, hp.G, aset_at (n := x.toInt.toNat) (by omega) (by rw [wf.g]; omega)]
   simp only [Option.bind_some]
   have hq : Sh (kClr K x.toInt.toNat) L (s_filled (s_data p (((((kDa K).set (x.toInt.toNat * 4 + 0) 0).set (x.toInt.toNat * 4 + 1) 0).set (x.toInt.toNat * 4 + 2) 0).set (x.toInt.toNat * 4 + 3) 0)) ((kG K).set x.toInt.toNat 0)) := by
    obtain ⟨h1, h2⟩ := hp
    refine ⟨?_, h2⟩
    rw [← h1]
    dsimp only [core, kClr, kDa, kG, f_data, f_filled, f_rf, f_cf, f_vf, f_ag, f_fMode, f_fRk, f_fCk, f_prevVal, f_prevFound, f_keys, f_nRows, f_nForms, f_last, f_selUseR, f_selRk, f_selUseC, f_selCk, f_gCount, f_gVal, s_filled, s_data]
   have P' : Pv K (s_filled (s_data p (((((kDa K).set (x.toInt.toNat * 4 + 0) 0).set (x.toInt.toNat * 4 + 1) 0).set (x.toInt.toNat * 4 + 2) 0).set (x.toInt.toNat * 4 + 3) 0)) ((kG K).set x.toInt.toNat 0)) (nN K) := Pv_same P rfl rfl
   apply okP.bind
   refine okP.mono (chd_ok (K := K) (wf.clr (by omega)) hq P') ?_
   rintro ⟨n, q⟩ ⟨a1, a2⟩
   exact okP.some ⟨rfl, _, a2.last, a1⟩
 ·simp only [if_neg (show ¬ ((0 ≤ x.toInt ∧ x.toInt < (kR K).toInt) ∧ fil K x.toInt.toNat = true) from fun q => c q.1)]
  rw [if_neg c, if_pos rfl]
  exact okP.some ⟨rfl, h⟩
theorem field_ok (x : Int32) : F25 x = some (if 0 ≤ x.toInt ∧ x.toInt < 4 then 1 else 0) := by
 have z0 : (0 : Int32).toInt = 0 := rfl
 have z4 : (4 : Int32).toInt = 4 := rfl
 unfold F25
 by_cases a : x < 0
 ·rw [if_pos a, if_neg (by rw [i_lt, z0] at a; omega)]
 ·rw [if_neg a]
  rw [i_lt, z0] at a
  by_cases b : x < 4
  ·rw [if_pos b, if_pos (by rw [i_lt, z4] at b; omega)]
  ·rw [if_neg b, if_neg (by rw [i_lt, z4] at b; omega)]
def pOk (a b c g : Int32) : Prop := (0 ≤ a.toInt ∧ a.toInt < 4) ∧ (0 ≤ b.toInt ∧ b.toInt < 4) ∧ (0 ≤ c.toInt ∧ c.toInt < 4) ∧ (0 ≤ g.toInt ∧ g.toInt ≤ 3)
instance (a b c g : Int32) : Decidable (pOk a b c g) := by unfold pOk; infer_instance
theorem setPiv_ok {K : Core} (wf : WF K) {L : Int32} {o : Ob} (h : Sh K L o) (a b c g : Int32) : okP (F24 o a b c g) (fun r => if pOk a b c g then r.1 = 1 ∧ ∃ L', Sh (kPiv K a b c g) L' r.2 ∧ L'.toInt = cc K (kPiv K a b c g) (nN K) else r.1 = 0 ∧ Sh K L r.2) := by
 have z0 : (0 : Int32).toInt = 0 := rfl
 have z3 : (3 : Int32).toInt = 3 := rfl
 unfold F24
 rw [field_ok a, field_ok b, field_ok c]
 simp only [Option.bind_some]
 by_cases ha : 0 ≤ a.toInt ∧ a.toInt < 4
 ·rw [if_pos ha, if_neg (by decide)]
  by_cases hb : 0 ≤ b.toInt ∧ b.toInt < 4
  ·rw [if_pos hb, if_neg (by decide)]
   by_cases hc : 0 ≤ c.toInt ∧ c.toInt < 4
   ·rw [if_pos hc, if_neg (by decide)]
    by_cases hg : 0 ≤ g.toInt ∧ g.toInt ≤ 3
    ·simp only [if_pos (show pOk a b c g from ⟨ha, hb, hc, hg⟩)]
     rw [if_neg (by rw [i_lt, z0]; omega), if_neg (by rw [i_lt, z3]; omega)]
     apply okP.bind
     refine okP.mono (snap_ok wf h) ?_
     rintro p ⟨hp, P⟩
     have P' : Pv K (s_ag (s_vf (s_cf (s_rf p a) b) c) g) (nN K) := Pv_same P (by dsimp only [f_data, f_filled, f_rf, f_cf, f_vf, f_ag, f_fMode, f_fRk, f_fCk, f_prevVal, f_prevFound, f_keys, f_nRows, f_nForms, f_last, f_selUseR, f_selRk, f_selUseC, f_selCk, f_gCount, f_gVal, s_ag, s_vf, s_cf, s_rf]) (by dsimp only [f_data, f_filled, f_rf, f_cf, f_vf, f_ag, f_fMode, f_fRk, f_fCk, f_prevVal, f_prevFound, f_keys, f_nRows, f_nForms, f_last, f_selUseR, f_selRk, f_selUseC, f_selCk, f_gCount, f_gVal, s_ag, s_vf, s_cf, s_rf])
     apply okP.bind
     refine okP.mono (chd_ok (K := K) (wf.piv ha hb hc) (Sh_piv hp) P') ?_
     rintro ⟨n, q⟩ ⟨a1, a2⟩
     exact okP.some ⟨rfl, _, a2.last, a1⟩
    ·simp only [if_neg (show ¬ pOk a b c g from fun q => hg q.2.2.2)]
     apply okP.ite <;> intro e
     ·exact okP.some ⟨rfl, h⟩
     ·rw [i_lt, z0] at e
      rw [if_pos (by rw [i_lt, z3]; omega)]
      exact okP.some ⟨rfl, h⟩
   ·simp only [if_neg (show ¬ pOk a b c g from fun q => hc q.2.2.1)]
    rw [if_neg hc, if_pos rfl]
    exact okP.some ⟨rfl, h⟩
  ·simp only [if_neg (show ¬ pOk a b c g from fun q => hb q.2.1)]
   rw [if_neg hb, if_pos rfl]
   exact okP.some ⟨rfl, h⟩
 ·simp only [if_neg (show ¬ pOk a b c g from fun q => ha q.1)]
  rw [if_neg ha, if_pos rfl]
  exact okP.some ⟨rfl, h⟩
theorem isFil_ok {K : Core} (wf : WF K) {L : Int32} {o : Ob} (h : Sh K L o) (x : Int32) : F12 o x = some (if (0 ≤ x.toInt ∧ x.toInt < (kR K).toInt) ∧ fil K x.toInt.toNat = true then 1 else 0) := by
 have r32 := wf.r
 unfold F12
 rw [row_ok h]
 simp only [Option.bind_some]
 by_cases c : 0 ≤ x.toInt ∧ x.toInt < (kR K).toInt
 ·rw [if_pos c, if_neg (by decide), h.G, ag_fil wf c.1 (by omega)]
  simp only [Option.bind_some]
  rcases wf.b x.toInt.toNat (by omega) with g | g
  ·have fi : fil K x.toInt.toNat = false := by unfold fil; rw [g]; rfl
   rw [g, if_neg (fun q => by rw [fi] at q; cases q.2)]; rfl
  ·have fi : fil K x.toInt.toNat = true := by unfold fil; rw [g]; rfl
   rw [g, if_pos ⟨c, fi⟩]; rfl
 ·rw [if_neg c, if_pos rfl, if_neg (fun q => c q.1)]
theorem fval_ok {K : Core} (wf : WF K) {L : Int32} {o : Ob} (h : Sh K L o) (x : Int32) : okP (F29 o x) (fun r => r.1 = (if 0 ≤ x.toInt ∧ x.toInt < (kN K).toInt then (fm K x.toInt.toNat).1 else 0) ∧ Sh K L r.2) := by
 have n16 := wf.n
 unfold F29
 rw [slot_ok h]
 simp only [Option.bind_some]
 by_cases c : 0 ≤ x.toInt ∧ x.toInt < (kN K).toInt
 ·simp only [if_pos c]
  rw [if_neg (by decide)]
  apply okP.bind
  refine okP.mono (form_ok wf h c.1 (by omega)) ?_
  rintro r rfl
  exact okP.some ⟨rfl, h.gCount.gVal⟩
 ·simp only [if_neg c, if_true]
  exact okP.some ⟨rfl, h⟩
theorem ffnd_ok {K : Core} (wf : WF K) {L : Int32} {o : Ob} (h : Sh K L o) (x : Int32) : okP (F28 o x) (fun r => r.1 = (if 0 ≤ x.toInt ∧ x.toInt < (kN K).toInt then fnd K x.toInt.toNat else 0) ∧ Sh K L r.2) := by
 have n16 := wf.n
 unfold F28
 rw [slot_ok h]
 simp only [Option.bind_some]
 by_cases c : 0 ≤ x.toInt ∧ x.toInt < (kN K).toInt
 ·simp only [if_pos c]
  rw [if_neg (by decide)]
  apply okP.bind
  refine okP.mono (form_ok wf h c.1 (by omega)) ?_
  rintro r rfl
  rw [show f_gCount (s_gVal (s_gCount o (fm K x.toInt.toNat).2) (fm K x.toInt.toNat).1) = (fm K x.toInt.toNat).2 from rfl]
  unfold fnd
  apply okP.ite <;> intro d
  ·exact okP.some ⟨by rw [if_pos d], h.gCount.gVal⟩
  ·exact okP.some ⟨by rw [if_neg d], h.gCount.gVal⟩
 ·simp only [if_neg c, if_true]
  exact okP.some ⟨rfl, h⟩
def K0 (r n : Int32) : Core := (List.replicate 128 0, List.replicate 32 0, r, n, 0, 1, 2, 0, List.replicate 16 0, List.replicate 16 0, List.replicate 16 0)
theorem WF0 {r n : Int32} (hr : 4 ≤ r.toInt ∧ r.toInt ≤ 32) (hn : 1 ≤ n.toInt ∧ n.toInt ≤ 16) : WF (K0 r n) := by
 refine ⟨List.length_replicate, List.length_replicate, fun i hi => Or.inl ?_, hr, hn, by show (0 : Int) ≤ 0 ∧ (0 : Int) < 4; decide, by show (0 : Int) ≤ 1 ∧ (1 : Int) < 4; decide, by show (0 : Int) ≤ 2 ∧ (2 : Int) < 4; decide, List.length_replicate, List.length_replicate, List.length_replicate⟩
 show (List.replicate 32 (0 : Int32))[i]? = some 0
 rw [List.getElem?_replicate, if_pos hi]
theorem init_ok {r n : Int32} (hr : 4 ≤ r.toInt ∧ r.toInt ≤ 32) (hn : 1 ≤ n.toInt ∧ n.toInt ≤ 16) : okP (F2 r n) (fun o => Sh (K0 r n) 0 o) := by
 have z1 : (1 : Int32).toInt = 1 := rfl
 have z4 : (4 : Int32).toInt = 4 := rfl
 have z16 : (16 : Int32).toInt = 16 := rfl
 have z32 : (32 : Int32).toInt = 32 := rfl
 unfold F2
 rw [if_neg (show ¬ r < 4 by rw [i_lt, z4]; omega), if_neg (show ¬ 32 < r by rw [i_lt, z32]; omega), if_neg (show ¬ n < 1 by rw [i_lt, z1]; omega), if_neg (show ¬ 16 < n by rw [i_lt, z16]; omega)]
 apply okP.some
 dsimp only [Sh, core, K0, f_data, f_filled, f_rf, f_cf, f_vf, f_ag, f_fMode, f_fRk, f_fCk, f_prevVal, f_prevFound, f_keys, f_nRows, f_nForms, f_last, f_selUseR, f_selRk, f_selUseC, f_selCk, f_gCount, f_gVal, s_data, s_filled, s_rf, s_cf, s_vf, s_ag, s_fMode, s_fRk, s_fCk, s_prevVal, s_prevFound, s_keys, s_nRows, s_nForms, s_last, s_selUseR, s_selRk, s_selUseC, s_selCk, s_gCount, s_gVal]
 exact ⟨rfl, rfl, List.length_replicate, List.length_replicate, List.length_replicate⟩
theorem siz {K : Core} {L : Int32} {o : Ob} (h : Sh K L o) (wf : WF K) : (f_data o).length = 128 ∧ (f_filled o).length = 32 ∧ (f_fMode o).length = 16 ∧ (f_fRk o).length = 16 ∧ (f_fCk o).length = 16 ∧ (f_prevVal o).length = 16 ∧ (f_prevFound o).length = 16 ∧ (f_keys o).length = 64 := ⟨by rw [h.D]; exact wf.d, by rw [h.G]; exact wf.g, by rw [h.M]; exact wf.m, by rw [h.A]; exact wf.a, by rw [h.B]; exact wf.c, h.2.2⟩

theorem snoc_ind {P : List Int32 → Prop} (h0 : P []) (hs : ∀ l v, P l → P (l ++ [v])) (l : List Int32) : P l := by
 have : ∀ m : List Int32, P m.reverse := by
  intro m
  induction m with
  | nil => exact h0
  | cons a m ih => rw [List.reverse_cons]; exact hs _ _ ih
 have h := this l.reverse
 rw [List.reverse_reverse] at h
 exact h
theorem ev_cnt (l : List Int32) : l.length ≤ 1000 → (ev l).2.1.toInt = l.length := by
 refine snoc_ind (P := fun l => l.length ≤ 1000 → (ev l).2.1.toInt = l.length) (fun _ => rfl) ?_ l
 intro l v ih hl
 rw [List.length_append] at hl
 have hl' : l.length + 1 ≤ 1000 := hl
 have := ih (by omega)
 rw [ev_s]
 show ((ev l).2.1 + 1).toInt = _
 rw [inc1 (by omega), this, List.length_append]; rfl
theorem ev_min (l : List Int32) : l.length ≤ 1000 → l ≠ [] → (ev l).2.2.1 ∈ l ∧ ∀ x, x ∈ l → (ev l).2.2.1.toInt ≤ x.toInt := by
 refine snoc_ind (P := fun l => l.length ≤ 1000 → l ≠ [] → (ev l).2.2.1 ∈ l ∧ ∀ x, x ∈ l → (ev l).2.2.1.toInt ≤ x.toInt) (fun _ h => absurd rfl h) ?_ l
 intro l v ih hl _
 rw [List.length_append] at hl
 have hl' : l.length + 1 ≤ 1000 := hl
 have hc := ev_cnt l (by omega)
 rw [ev_s]
 show (if (ev l).2.1 = 0 then v else if v < (ev l).2.2.1 then v else (ev l).2.2.1) ∈ _ ∧ ∀ x, x ∈ l ++ [v] → (if (ev l).2.1 = 0 then v else if v < (ev l).2.2.1 then v else (ev l).2.2.1).toInt ≤ x.toInt
 by_cases e : l = []
 ·subst e
  rw [if_pos (show (ev []).2.1 = 0 from rfl)]
  refine ⟨by simp, fun x hx => ?_⟩
  simp at hx
  rw [hx]; omega
 ·have ne : l.length ≠ 0 := fun q => e (List.eq_nil_of_length_eq_zero q)
  rw [if_neg (by rw [i_eq]; show ¬ (ev l).2.1.toInt = 0; omega)]
  obtain ⟨h1, h2⟩ := ih (by omega) e
  by_cases c : v < (ev l).2.2.1
  ·rw [if_pos c]
   rw [i_lt] at c
   refine ⟨by simp, fun x hx => ?_⟩
   rcases List.mem_append.1 hx with hx | hx
   ·have := h2 x hx; omega
   ·simp at hx; rw [hx]; omega
  ·rw [if_neg c]
   rw [i_lt] at c
   refine ⟨List.mem_append_left _ h1, fun x hx => ?_⟩
   rcases List.mem_append.1 hx with hx | hx
   ·exact h2 x hx
   ·simp at hx; rw [hx]; omega
theorem ev_max (l : List Int32) : l.length ≤ 1000 → l ≠ [] → (ev l).2.2.2 ∈ l ∧ ∀ x, x ∈ l → x.toInt ≤ (ev l).2.2.2.toInt := by
 refine snoc_ind (P := fun l => l.length ≤ 1000 → l ≠ [] → (ev l).2.2.2 ∈ l ∧ ∀ x, x ∈ l → x.toInt ≤ (ev l).2.2.2.toInt) (fun _ h => absurd rfl h) ?_ l
 intro l v ih hl _
 rw [List.length_append] at hl
 have hl' : l.length + 1 ≤ 1000 := hl
 have hc := ev_cnt l (by omega)
 rw [ev_s]
 show (if (ev l).2.1 = 0 then v else if (ev l).2.2.2 < v then v else (ev l).2.2.2) ∈ _ ∧ ∀ x, x ∈ l ++ [v] → x.toInt ≤ (if (ev l).2.1 = 0 then v else if (ev l).2.2.2 < v then v else (ev l).2.2.2).toInt
 by_cases e : l = []
 ·subst e
  rw [if_pos (show (ev []).2.1 = 0 from rfl)]
  refine ⟨by simp, fun x hx => ?_⟩
  simp at hx
  rw [hx]; omega
 ·have ne : l.length ≠ 0 := fun q => e (List.eq_nil_of_length_eq_zero q)
  rw [if_neg (by rw [i_eq]; show ¬ (ev l).2.1.toInt = 0; omega)]
  obtain ⟨h1, h2⟩ := ih (by omega) e
  by_cases c : (ev l).2.2.2 < v
  ·rw [if_pos c]
   rw [i_lt] at c
   refine ⟨by simp, fun x hx => ?_⟩
   rcases List.mem_append.1 hx with hx | hx
   ·have := h2 x hx; omega
   ·simp at hx; rw [hx]; omega
  ·rw [if_neg c]
   rw [i_lt] at c
   refine ⟨List.mem_append_left _ h1, fun x hx => ?_⟩
   rcases List.mem_append.1 hx with hx | hx
   ·exact h2 x hx
   ·simp at hx; rw [hx]; omega
def vC (g : Nat → Int32) (c : Nat → Bool) (n : Nat) : List Int32 := ((List.range n).filter c).map g
theorem vC_s (g : Nat → Int32) (c : Nat → Bool) (n : Nat) : vC g c (n + 1) = if c n then vC g c n ++ [g n] else vC g c n := by
 unfold vC
 rw [List.range_succ, List.filter_append, List.map_append]
 by_cases h : c n = true
 ·rw [if_pos h, List.filter_cons_of_pos h]; rfl
 ·rw [if_neg h, List.filter_cons_of_neg h]; simp
theorem vC_mem {g : Nat → Int32} {c : Nat → Bool} {n : Nat} {x : Int32} : x ∈ vC g c n ↔ ∃ r, r < n ∧ c r = true ∧ g r = x := by
 unfold vC
 rw [List.mem_map]
 constructor
 ·rintro ⟨r, h1, h2⟩
  rw [List.mem_filter, List.mem_range] at h1
  exact ⟨r, h1.1, h1.2, h2⟩
 ·rintro ⟨r, h1, h2, h3⟩
  exact ⟨r, by rw [List.mem_filter, List.mem_range]; exact ⟨h1, h2⟩, h3⟩
theorem vC_len (g : Nat → Int32) (c : Nat → Bool) (n : Nat) : (vC g c n).length ≤ n := by
 have := List.length_filter_le c (List.range n)
 rw [List.length_range] at this
 unfold vC
 rw [List.length_map]
 exact this
theorem vC_add (g : Nat → Int32) (p q : Nat → Bool) (d : ∀ r, p r = true → q r = false) (n : Nat) : (ev (vC g (fun r => p r || q r) n)).1 = (ev (vC g p n)).1 + (ev (vC g q n)).1 ∧ (vC g (fun r => p r || q r) n).length = (vC g p n).length + (vC g q n).length := by
 induction n with
 | zero => exact ⟨by unfold vC; simp only [List.range_zero, List.filter_nil, List.map_nil]; rfl, by unfold vC; simp only [List.range_zero, List.filter_nil, List.map_nil]; rfl⟩
 | succ n ih =>
  obtain ⟨i1, i2⟩ := ih
  rw [vC_s, vC_s, vC_s]
  have st : ∀ l v, (ev (l ++ [v])).1 = (ev l).1 + v := fun l v => by rw [ev_s]; rfl
  cases hp : p n with
  | true =>
   rw [d n hp]
   simp only [Bool.or_false, if_true, Bool.false_eq_true, if_false]
   rw [st, st, i1, List.length_append, List.length_append, i2]
   refine ⟨?_, by simp only [List.length_singleton]; omega⟩
   rw [Int32.add_assoc, Int32.add_assoc, Int32.add_comm _ (g n)]
  | false =>
   cases hq : q n with
   | true =>
    simp only [Bool.or_true, if_true, Bool.false_eq_true, if_false]
    rw [st, st, i1, List.length_append, List.length_append, i2]
    exact ⟨Int32.add_assoc _ _ _, by omega⟩
   | false =>
    simp only [Bool.or_false, Bool.false_eq_true, if_false]
    exact ⟨i1, i2⟩
def agC (ag a v : Int32) : Int32 := if ag = 0 then a + v else if ag = 1 then a + v else if ag = 2 then (if v < a then v else a) else (if a < v then v else a)
theorem vC_comb (g : Nat → Int32) (p q : Nat → Bool) (d : ∀ r, p r = true → q r = false) {n : Nat} (hn : n ≤ 32) {ag : Int32} (ha : ag = 0 ∨ ag = 1 ∨ ag = 2 ∨ ag = 3) (hp : vC g p n ≠ []) (hq : vC g q n ≠ []) : pick ag (ev (vC g (fun r => p r || q r) n)) = agC ag (pick ag (ev (vC g p n))) (pick ag (ev (vC g q n))) ∧ (ev (vC g (fun r => p r || q r) n)).2.1 = (ev (vC g p n)).2.1 + (ev (vC g q n)).2.1 := by
 obtain ⟨a1, a2⟩ := vC_add g p q d n
 have lp := vC_len g p n
 have lq := vC_len g q n
 have lr := vC_len g (fun r => p r || q r) n
 have cp := ev_cnt (vC g p n) (by omega)
 have cq := ev_cnt (vC g q n) (by omega)
 have cr := ev_cnt (vC g (fun r => p r || q r) n) (by omega)
 have np : (vC g p n).length ≠ 0 := fun e => hp (List.eq_nil_of_length_eq_zero e)
 have nq : (vC g q n).length ≠ 0 := fun e => hq (List.eq_nil_of_length_eq_zero e)
 have hr : vC g (fun r => p r || q r) n ≠ [] := fun e => by rw [e] at a2; simp at a2; omega
 have ec : (ev (vC g (fun r => p r || q r) n)).2.1 = (ev (vC g p n)).2.1 + (ev (vC g q n)).2.1 := by
  rw [i_eq, i_add (by omega) (by omega)]
  omega
 have mem : ∀ x, x ∈ vC g (fun r => p r || q r) n ↔ x ∈ vC g p n ∨ x ∈ vC g q n := by
  intro x
  rw [vC_mem, vC_mem, vC_mem]
  constructor
  ·rintro ⟨r, h1, h2, h3⟩
   rcases Bool.or_eq_true_iff.1 h2 with h | h
   ·exact Or.inl ⟨r, h1, h, h3⟩
   ·exact Or.inr ⟨r, h1, h, h3⟩
  ·rintro (⟨r, h1, h2, h3⟩ | ⟨r, h1, h2, h3⟩)
   ·exact ⟨r, h1, by simp only [h2, Bool.true_or], h3⟩
   ·exact ⟨r, h1, by simp only [h2, Bool.or_true], h3⟩
 refine ⟨?_, ec⟩
 have z0 : (0 : Int32).toInt = 0 := rfl
 have pkn : ∀ x : Int32 × Int32 × Int32 × Int32, ¬ x.2.1.toInt = 0 → pick ag x = if ag = 1 then x.2.1 else if ag = 2 then x.2.2.1 else if ag = 3 then x.2.2.2 else x.1 := by
  intro x hx
  unfold pick
  rw [if_neg (by rw [i_eq, z0]; exact hx)]
 rw [pkn _ (by omega), pkn _ (by omega), pkn _ (by omega)]
 rcases ha with h | h | h | h
 ·subst h
  exact a1
 ·subst h
  exact ec
 ·subst h
  show (ev (vC g (fun r => p r || q r) n)).2.2.1 = if (ev (vC g q n)).2.2.1 < (ev (vC g p n)).2.2.1 then (ev (vC g q n)).2.2.1 else (ev (vC g p n)).2.2.1
  obtain ⟨p1, p2⟩ := ev_min _ (by omega) hp
  obtain ⟨q1, q2⟩ := ev_min _ (by omega) hq
  obtain ⟨r1, r2⟩ := ev_min _ (by omega) hr
  have b1 := r2 _ ((mem _).2 (Or.inl p1))
  have b2 := r2 _ ((mem _).2 (Or.inr q1))
  rw [i_eq]
  by_cases c : (ev (vC g q n)).2.2.1 < (ev (vC g p n)).2.2.1
  ·rw [if_pos c]
   rw [i_lt] at c
   rcases (mem _).1 r1 with h | h
   ·have := p2 _ h; omega
   ·have := q2 _ h; omega
  ·rw [if_neg c]
   rw [i_lt] at c
   rcases (mem _).1 r1 with h | h
   ·have := p2 _ h; omega
   ·have := q2 _ h; omega
 ·subst h
  show (ev (vC g (fun r => p r || q r) n)).2.2.2 = if (ev (vC g p n)).2.2.2 < (ev (vC g q n)).2.2.2 then (ev (vC g q n)).2.2.2 else (ev (vC g p n)).2.2.2
  obtain ⟨p1, p2⟩ := ev_max _ (by omega) hp
  obtain ⟨q1, q2⟩ := ev_max _ (by omega) hq
  obtain ⟨r1, r2⟩ := ev_max _ (by omega) hr
  have b1 := r2 _ ((mem _).2 (Or.inl p1))
  have b2 := r2 _ ((mem _).2 (Or.inr q1))
  rw [i_eq]
  by_cases c : (ev (vC g p n)).2.2.2 < (ev (vC g q n)).2.2.2
  ·rw [if_pos c]
   rw [i_lt] at c
   rcases (mem _).1 r1 with h | h
   ·have := p2 _ h; omega
   ·have := q2 _ h; omega
  ·rw [if_neg c]
   rw [i_lt] at c
   rcases (mem _).1 r1 with h | h
   ·have := p2 _ h; omega
   ·have := q2 _ h; omega
theorem ins_mem {v x : Int32} : ∀ {l : List Int32}, x ∈ ins v l ↔ x = v ∨ x ∈ l
 | [] => by unfold ins; simp
 | k :: t => by
  unfold ins
  by_cases c : k < v
  ·rw [if_pos c, List.mem_cons, ins_mem, List.mem_cons]
   constructor
   ·rintro (h | h | h)
    ·exact Or.inr (Or.inl h)
    ·exact Or.inl h
    ·exact Or.inr (Or.inr h)
   ·rintro (h | h | h)
    ·exact Or.inr (Or.inl h)
    ·exact Or.inl h
    ·exact Or.inr (Or.inr h)
  ·rw [if_neg c]
   by_cases e : k = v
   ·rw [if_pos e, List.mem_cons, e]
    constructor
    ·intro h; exact Or.inr h
    ·rintro (h | h)
     ·exact Or.inl h
     ·exact h
   ·rw [if_neg e, List.mem_cons]
theorem ins_sorted {v : Int32} : ∀ {l : List Int32}, l.Pairwise (fun a b => a.toInt < b.toInt) → (ins v l).Pairwise (fun a b => a.toInt < b.toInt)
 | [], _ => by unfold ins; simp
 | k :: t, h => by
  rw [List.pairwise_cons] at h
  unfold ins
  by_cases c : k < v
  ·rw [if_pos c, List.pairwise_cons]
   rw [i_lt] at c
   refine ⟨fun x hx => ?_, ins_sorted h.2⟩
   rcases ins_mem.1 hx with e | e
   ·rw [e]; exact c
   ·exact h.1 x e
  ·rw [if_neg c]
   by_cases e : k = v
   ·rw [if_pos e, List.pairwise_cons]
    exact h
   ·rw [if_neg e, List.pairwise_cons, List.pairwise_cons]
    have lt : v.toInt < k.toInt := by rw [i_lt] at c; rw [i_eq] at e; omega
    refine ⟨fun x hx => ?_, h⟩
    rcases List.mem_cons.1 hx with e | e
    ·rw [e]; exact lt
    ·have := h.1 x e; omega
theorem key_sorted (K : Core) (f : Int32) : ∀ n, (keyN K f n).Pairwise (fun a b => a.toInt < b.toInt)
 | 0 => by unfold keyN; simp
 | n + 1 => by
  rw [keyN_s]
  split
  ·exact ins_sorted (key_sorted K f n)
  ·exact key_sorted K f n
theorem key_mem {K : Core} {f x : Int32} : ∀ {n : Nat}, x ∈ keyN K f n ↔ ∃ r, r < n ∧ fil K r = true ∧ fld K r f = x
 | 0 => by
  unfold keyN
  constructor
  ·intro h; simp at h
  ·rintro ⟨r, h, _⟩; omega
 | n + 1 => by
  rw [keyN_s]
  by_cases c : fil K n = true
  ·rw [if_pos c, ins_mem, key_mem]
   constructor
   ·rintro (h | ⟨r, h1, h2, h3⟩)
    ·exact ⟨n, by omega, c, h.symm⟩
    ·exact ⟨r, by omega, h2, h3⟩
   ·rintro ⟨r, h1, h2, h3⟩
    by_cases e : r = n
    ·rw [e] at h3; exact Or.inl h3.symm
    ·exact Or.inr ⟨r, by omega, h2, h3⟩
  ·rw [if_neg c, key_mem]
   constructor
   ·rintro ⟨r, h1, h2, h3⟩; exact ⟨r, by omega, h2, h3⟩
   ·rintro ⟨r, h1, h2, h3⟩
    by_cases e : r = n
    ·rw [e] at h2; exact absurd h2 c
    ·exact ⟨r, by omega, h2, h3⟩
def nFl (K : Core) (n : Nat) : Nat := ((List.range n).filter (fil K)).length
theorem nF_s (K : Core) (n : Nat) : nFl K (n + 1) = if fil K n then nFl K n + 1 else nFl K n := by
 unfold nFl
 rw [List.range_succ, List.filter_append, List.length_append]
 by_cases h : fil K n = true
 ·rw [if_pos h, List.filter_cons_of_pos h]; rfl
 ·rw [if_neg h, List.filter_cons_of_neg h]; rfl
theorem key_nF (K : Core) (f : Int32) : ∀ n, (keyN K f n).length ≤ nFl K n
 | 0 => by unfold keyN; simp
 | n + 1 => by
  have := key_nF K f n
  rw [keyN_s, nF_s]
  split
  ·have := ins_len (fld K n f) (keyN K f n); omega
  ·omega

def gV (K : Core) (r : Nat) : Int32 := fld K r (kvf K)
def pG (K : Core) (c : Nat → Bool) (f : Int32) (i : Nat) (r : Nat) : Bool := c r && ((kys K f).take i).contains (fld K r f)
def qG (K : Core) (c : Nat → Bool) (f k : Int32) (r : Nat) : Bool := c r && fld K r f == k
def cP (K : Core) (c : Nat → Bool) : Int32 := pick (kag K) (ev (vC (gV K) c (nR K)))
def cC (K : Core) (c : Nat → Bool) : Int32 := (ev (vC (gV K) c (nR K))).2.1
theorem vN_c (K : Core) (u a w b : Int32) (n : Nat) : vN K u a w b n = vC (gV K) (cnd K u a w b) n := rfl
theorem grp_c (K : Core) (u a w b : Int32) : grp K u a w b = (cP K (cnd K u a w b), cC K (cnd K u a w b)) := rfl
theorem pG_s {K : Core} {c : Nat → Bool} {f : Int32} {i : Nat} {k : Int32} (h : (kys K f)[i]? = some k) : pG K c f (i + 1) = fun r => pG K c f i r || qG K c f k r := by
 funext r
 unfold pG qG
 obtain ⟨l, e⟩ := List.getElem?_eq_some_iff.1 h
 rw [List.take_succ_eq_append_getElem l, e]
 cases c r
 ·rfl
 ·simp only [Bool.true_and]
  rw [Bool.eq_iff_iff]
  simp [List.contains_iff_mem]
theorem pG_dis {K : Core} {c : Nat → Bool} {f : Int32} {i : Nat} {k : Int32} (h : (kys K f)[i]? = some k) (r : Nat) (hp : pG K c f i r = true) : qG K c f k r = false := by
 unfold pG at hp
 unfold qG
 rw [Bool.and_eq_true] at hp
 obtain ⟨h1, h2⟩ := hp
 rw [List.contains_iff_mem] at h2
 rw [h1, Bool.true_and]
 apply beq_false_of_ne
 intro e
 rw [e] at h2
 obtain ⟨l, ee⟩ := List.getElem?_eq_some_iff.1 h
 obtain ⟨j, hj, ej⟩ := List.mem_iff_getElem.1 h2
 rw [List.length_take] at hj
 rw [List.getElem_take] at ej
 have := (List.pairwise_iff_getElem.1 (key_sorted K f (nR K))) j i (by unfold kys at l; omega) l (by omega)
 have e1 : (keyN K f (nR K))[j]'(by unfold kys at l; omega) = k := ej
 have e2 : (keyN K f (nR K))[i]'l = k := ee
 rw [e1, e2] at this
 omega
theorem pG_all {K : Core} {c : Nat → Bool} {f : Int32} (hc : ∀ r, c r = true → fil K r = true) {i : Nat} (h : (kys K f).length ≤ i) : vC (gV K) (pG K c f i) (nR K) = vC (gV K) c (nR K) := by
 unfold vC
 congr 1
 apply List.filter_congr
 intro r hr
 rw [List.mem_range] at hr
 unfold pG
 rw [List.take_of_length_le h]
 cases hf : c r
 ·rfl
 ·rw [Bool.true_and, List.contains_iff_mem]
  exact key_mem.2 ⟨r, by omega, hc r hf, rfl⟩
theorem pG_0 (K : Core) (c : Nat → Bool) (f : Int32) (n : Nat) : vC (gV K) (pG K c f 0) n = [] := by
 unfold vC
 have : (List.range n).filter (pG K c f 0) = [] := by
  rw [List.filter_eq_nil_iff]
  intro r _
  unfold pG
  simp
 rw [this]; rfl
theorem vC_or {g : Nat → Int32} {p q : Nat → Bool} {n : Nat} (h : vC g q n = []) : vC g (fun r => p r || q r) n = vC g p n := by
 have hq : ∀ r, r < n → q r = false := by
  intro r hr
  cases e : q r
  ·rfl
  ·have : g r ∈ vC g q n := vC_mem.2 ⟨r, hr, e, rfl⟩
   rw [h] at this
   cases this
 unfold vC
 congr 1
 apply List.filter_congr
 intro r hr
 rw [List.mem_range] at hr
 rw [hq r hr, Bool.or_false]
theorem vC_or' {g : Nat → Int32} {p q : Nat → Bool} {n : Nat} (h : vC g p n = []) : vC g (fun r => p r || q r) n = vC g q n := by
 have : (fun r => p r || q r) = (fun r => q r || p r) := by funext r; rw [Bool.or_comm]
 rw [this]
 exact vC_or h
theorem cC_int {K : Core} (wf : WF K) (c : Nat → Bool) : (cC K c).toInt = (vC (gV K) c (nR K)).length ∧ (cC K c).toInt ≤ 32 := by
 have r32 := wf.r
 have n32 : nR K ≤ 32 := by unfold nR; omega
 have l := vC_len (gV K) c (nR K)
 have := ev_cnt (vC (gV K) c (nR K)) (by omega)
 unfold cC
 omega
theorem cC_pos {K : Core} (wf : WF K) (c : Nat → Bool) : (0 : Int32) < cC K c ↔ vC (gV K) c (nR K) ≠ [] := by
 have h := (cC_int wf c).1
 rw [i_lt]
 have z0 : (0 : Int32).toInt = 0 := rfl
 rw [z0]
 constructor
 ·intro q e
  rw [e] at h
  simp at h
  omega
 ·intro q
  have : (vC (gV K) c (nR K)).length ≠ 0 := fun e => q (List.eq_nil_of_length_eq_zero e)
  omega
theorem cC_nil {K : Core} (c : Nat → Bool) (h : vC (gV K) c (nR K) = []) : cC K c = 0 ∧ cP K c = 0 := by
 unfold cC cP
 rw [h]
 exact ⟨rfl, rfl⟩
def cmb (ag a v : Int32) : Int32 := if ag = 2 then (if a < v then a else v) else if ag = 3 then (if v < a then a else v) else a + v
theorem cmb_eq {ag : Int32} (ha : ag = 0 ∨ ag = 1 ∨ ag = 2 ∨ ag = 3) (a v : Int32) : agC ag a v = cmb ag a v := by
 rcases ha with h | h | h | h
 ·subst h; rfl
 ·subst h; rfl
 ·subst h
  show (if v < a then v else a) = (if a < v then a else v)
  by_cases c : v < a
  ·rw [if_pos c, if_neg (by rw [i_lt] at c ⊢; omega)]
  ·rw [if_neg c]
   by_cases d : a < v
   ·rw [if_pos d]
   ·rw [if_neg d, i_eq]; rw [i_lt] at c d; omega
 ·subst h
  show (if a < v then v else a) = (if v < a then a else v)
  by_cases c : a < v
  ·rw [if_pos c, if_neg (by rw [i_lt] at c ⊢; omega)]
  ·rw [if_neg c]
   by_cases d : v < a
   ·rw [if_pos d]
   ·rw [if_neg d, i_eq]; rw [i_lt] at c d; omega
theorem g_step {K : Core} (wf : WF K) (ha : kag K = 0 ∨ kag K = 1 ∨ kag K = 2 ∨ kag K = 3) {c : Nat → Bool} {f : Int32} {i : Nat} {k : Int32} (h : (kys K f)[i]? = some k) :
  cC K (pG K c f (i + 1)) = cC K (pG K c f i) + cC K (qG K c f k) ∧
  cP K (pG K c f (i + 1)) = (if (0 : Int32) < cC K (qG K c f k) then (if (0 : Int32) < cC K (pG K c f i) then cmb (kag K) (cP K (pG K c f i)) (cP K (qG K c f k)) else cP K (qG K c f k)) else cP K (pG K c f i)) ∧
  ((0 : Int32) < cC K (pG K c f (i + 1)) ↔ (0 : Int32) < cC K (pG K c f i) ∨ (0 : Int32) < cC K (qG K c f k)) := by
 have r32 := wf.r
 have n32 : nR K ≤ 32 := by unfold nR; omega
 have cc : cC K (pG K c f (i + 1)) = cC K (pG K c f i) + cC K (qG K c f k) := by
  have h1 := cC_int wf (pG K c f i)
  have h2 := cC_int wf (qG K c f k)
  have h3 := cC_int wf (pG K c f (i + 1))
  have h4 := (vC_add (gV K) (pG K c f i) (qG K c f k) (pG_dis h) (nR K)).2
  rw [← pG_s h] at h4
  rw [i_eq, i_add (by omega) (by omega)]
  omega
 have z0 : (0 : Int32).toInt = 0 := rfl
 have pos : ((0 : Int32) < cC K (pG K c f (i + 1)) ↔ (0 : Int32) < cC K (pG K c f i) ∨ (0 : Int32) < cC K (qG K c f k)) := by
  have h1 := cC_int wf (pG K c f i)
  have h2 := cC_int wf (qG K c f k)
  have h5 : (cC K (pG K c f (i + 1))).toInt = (cC K (pG K c f i)).toInt + (cC K (qG K c f k)).toInt := by rw [cc, i_add (by omega) (by omega)]
  simp only [i_lt, z0]
  omega
 refine ⟨cc, ?_, pos⟩
 by_cases q : (0 : Int32) < cC K (qG K c f k)
 ·rw [if_pos q]
  by_cases p : (0 : Int32) < cC K (pG K c f i)
  ·rw [if_pos p]
   have := (vC_comb (gV K) (pG K c f i) (qG K c f k) (pG_dis h) n32 ha ((cC_pos wf _).1 p) ((cC_pos wf _).1 q)).1
   rw [cmb_eq ha, ← pG_s h] at this
   exact this
  ·rw [if_neg p]
   have e : vC (gV K) (pG K c f i) (nR K) = [] := by
    by_cases e : vC (gV K) (pG K c f i) (nR K) = []
    ·exact e
    ·exact absurd ((cC_pos wf _).2 e) p
   unfold cP
   rw [pG_s h, vC_or' e]
 ·rw [if_neg q]
  have e : vC (gV K) (qG K c f k) (nR K) = [] := by
   by_cases e : vC (gV K) (qG K c f k) (nR K) = []
   ·exact e
   ·exact absurd ((cC_pos wf _).2 e) q
  unfold cP
  rw [pG_s h, vC_or e]
theorem fold_ok {K : Core} (wf : WF K) (ha : kag K = 0 ∨ kag K = 1 ∨ kag K = 2 ∨ kag K = 3) {c : Nat → Bool} {f : Int32} (hc : ∀ r, c r = true → fil K r = true) {L : Int32} {B : Int32 × Int32 × Int32 × Int32 × Ob → Option ((Int32 × Int32 × Int32 × Ob) ⊕ (Int32 × Int32 × Int32 × Int32 × Ob))}
  (hB : ∀ n a h j o, Sh K L o → 0 ≤ j.toInt → okP (B (n, a, h, j, o)) (fun r => if j.toInt < (kys K f).length then ∀ k, (kys K f)[j.toInt.toNat]? = some k → ∃ p, Sh K L p ∧ r = .inr (n + cC K (qG K c f k), (if (0 : Int32) < cC K (qG K c f k) then (if h = 0 then cP K (qG K c f k) else cmb (kag K) a (cP K (qG K c f k))) else a), (if (0 : Int32) < cC K (qG K c f k) then 1 else h), j + 1, p) else r = .inl (n, a, h, o))) {o : Ob} (ho : Sh K L o) :
  okP (loopN B qN (0, 0, 0, 0, o)) (fun e => e.1 = cC K c ∧ (if e.2.2.1 = 0 then 0 else e.2.1) = cP K c ∧ Sh K L e.2.2.2) := by
 have kl := kys_len wf f
 have z0 : (0 : Int32).toInt = 0 := rfl
 refine okP.loop (fun v => 0 ≤ v.2.2.2.1.toInt ∧ v.2.2.2.1.toInt ≤ (kys K f).length ∧ v.1 = cC K (pG K c f v.2.2.2.1.toInt.toNat) ∧ v.2.1 = cP K (pG K c f v.2.2.2.1.toInt.toNat) ∧ v.2.2.1 = (if (0 : Int32) < cC K (pG K c f v.2.2.2.1.toInt.toNat) then 1 else 0) ∧ Sh K L v.2.2.2.2) (fun v => (32 - v.2.2.2.1.toInt).toNat) ⟨by show (0 : Int) ≤ 0; decide, by show (0 : Int) ≤ _; omega, ?_, ?_, ?_, ho⟩ (by show (32 - (0 : Int)).toNat < 4000; decide) ?_
 ·exact ((cC_nil _ (pG_0 K c f (nR K))).1).symm
 ·exact ((cC_nil _ (pG_0 K c f (nR K))).2).symm
 ·show (0 : Int32) = if (0 : Int32) < cC K (pG K c f 0) then 1 else 0
  rw [(cC_nil _ (pG_0 K c f (nR K))).1]; rfl
 rintro ⟨n, a, h, j, p⟩ ⟨j0, j1, en, ea, eh, hp⟩
 simp only at j0 j1 en ea eh hp
 refine okP.mono (hB n a h j p hp j0) ?_
 intro r hr
 by_cases d : j.toInt < (kys K f).length
 ·rw [if_pos d] at hr
  have hk : (kys K f)[j.toInt.toNat]? = some ((kys K f)[j.toInt.toNat]'(by omega)) := List.getElem?_eq_getElem (by omega)
  obtain ⟨q, hq, rfl⟩ := hr _ hk
  obtain ⟨g1, g2, g3⟩ := g_step wf ha (c := c) hk
  have e1 : (j + 1).toInt = j.toInt + 1 := inc1 (by omega)
  have en1 : (j + 1).toInt.toNat = j.toInt.toNat + 1 := by omega
  refine ⟨⟨by simp only; omega, by simp only; omega, ?_, ?_, ?_, hq⟩, by simp only; omega⟩
  ·simp only [en1]; rw [g1, en]
  ·simp only [en1]
   rw [g2, eh, ea]
   by_cases x : (0 : Int32) < cC K (pG K c f j.toInt.toNat)
   ·rw [if_pos x, if_neg (show ¬ (1 : Int32) = 0 by decide), if_pos x]
   ·rw [if_neg x, if_pos rfl, if_neg x]
  ·simp only [en1]
   rw [eh]
   by_cases x : (0 : Int32) < cC K (qG K c f ((kys K f)[j.toInt.toNat]'(by omega)))
   ·rw [if_pos x, if_pos (g3.2 (Or.inr x))]
   ·rw [if_neg x]
    by_cases y : (0 : Int32) < cC K (pG K c f j.toInt.toNat)
    ·rw [if_pos y, if_pos (g3.2 (Or.inl y))]
    ·rw [if_neg y, if_neg (fun q => (g3.1 q).elim y x)]
 ·rw [if_neg d] at hr
  subst hr
  have al := pG_all hc (i := j.toInt.toNat) (f := f) (by omega)
  have a1 : cC K (pG K c f j.toInt.toNat) = cC K c := by unfold cC; rw [al]
  have a2 : cP K (pG K c f j.toInt.toNat) = cP K c := by unfold cP; rw [al]
  refine ⟨by simp only; rw [en, a1], ?_, hp⟩
  simp only
  rw [eh, ea, a1, a2]
  by_cases x : (0 : Int32) < cC K c
  ·rw [if_pos x, if_neg (show ¬ (1 : Int32) = 0 by decide)]
  ·rw [if_neg x, if_pos rfl]
   have e : vC (gV K) c (nR K) = [] := by
    by_cases e : vC (gV K) c (nR K) = []
    ·exact e
    ·exact absurd ((cC_pos wf _).2 e) x
   exact (cC_nil _ e).2.symm
theorem cnd_fil {K : Core} {u a w b : Int32} (r : Nat) (h : cnd K u a w b r = true) : fil K r = true := by
 unfold cnd at h
 rw [Bool.and_eq_true] at h
 exact h.1
theorem cnd_col (K : Core) (u a k : Int32) : cnd K u a 1 k = qG K (cnd K u a 0 0) (kcf K) k := by
 funext r
 unfold qG cnd
 show (fil K r && ((u == 0 || fld K r (krf K) == a) && (false || fld K r (kcf K) == k))) = ((fil K r && ((u == 0 || fld K r (krf K) == a) && true)) && fld K r (kcf K) == k)
 rw [Bool.false_or, Bool.and_true, Bool.and_assoc]
theorem cnd_row (K : Core) (k w b : Int32) : cnd K 1 k w b = qG K (cnd K 0 0 w b) (krf K) k := by
 funext r
 unfold qG cnd
 show (fil K r && ((false || fld K r (krf K) == k) && (w == 0 || fld K r (kcf K) == b))) = ((fil K r && (true && (w == 0 || fld K r (kcf K) == b))) && fld K r (krf K) == k)
 rw [Bool.false_or, Bool.true_and, Bool.and_assoc, Bool.and_comm (fld K r (krf K) == k)]
theorem cnd_w0 (K : Core) (u a b : Int32) : cnd K u a 0 b = cnd K u a 0 0 := rfl
theorem cnd_u0 (K : Core) (a w b : Int32) : cnd K 0 a w b = cnd K 0 0 w b := rfl
theorem key_none {K : Core} {c : Nat → Bool} (hc : ∀ r, c r = true → fil K r = true) {f k : Int32} (h : k ∉ kys K f) : vC (gV K) (qG K c f k) (nR K) = [] := by
 have : (List.range (nR K)).filter (qG K c f k) = [] := by
  rw [List.filter_eq_nil_iff]
  intro r hr q
  rw [List.mem_range] at hr
  unfold qG at q
  rw [Bool.and_eq_true] at q
  exact h (key_mem.2 ⟨r, hr, hc r q.1, eq_of_beq q.2⟩)
 unfold vC
 rw [this]; rfl

theorem mskbit {w : Nat} (hw : w < 64) (i : Nat) : (BitVec.ofNat 64 (2 ^ w - 1)).getLsbD i = decide (i < w) := by
 rw [BitVec.getLsbD_ofNat, Nat.testBit_two_pow_sub_one]
 by_cases h : i < w
 ·have : i < 64 := by omega
  simp [h, this]
 ·simp [h]
theorem small_bit {V : BitVec 64} {w : Nat} (h : V.toNat < 2 ^ w) {i : Nat} (hi : w ≤ i) : V.getLsbD i = false := by
 rw [BitVec.getLsbD]
 exact Nat.testBit_lt_two_pow (Nat.lt_of_lt_of_le h (Nat.pow_le_pow_right (by decide) hi))
theorem onesbit (i : Nat) : (-1#64).getLsbD i = decide (i < 64) := by
 by_cases h : i < 64
 ·have : ∀ j : Fin 64, (-1#64).getLsbD j.1 = decide (j.1 < 64) := by decide
  exact this ⟨i, h⟩
 ·rw [BitVec.getLsbD_of_ge _ _ (by omega)]
  simp; omega
theorem putB (w : Nat) (X V : BitVec 64) (hV : V.toNat < 2 ^ w) (s t : Nat) (hw : w < 64) (hs : s + w ≤ 64) (ht : t + w ≤ 64) (d : s = t ∨ s + w ≤ t ∨ t + w ≤ s) :
  (((X &&& ((BitVec.ofNat 64 (2 ^ w - 1) <<< s) ^^^ (-1#64))) ||| (V <<< s)) >>> t) &&& BitVec.ofNat 64 (2 ^ w - 1) = if s = t then V else (X >>> t) &&& BitVec.ofNat 64 (2 ^ w - 1) := by
 have mb := mskbit hw
 apply BitVec.eq_of_getLsbD_eq
 intro i hi
 by_cases e : s = t
 ·subst e
  rw [if_pos rfl]
  simp only [BitVec.getLsbD_and, BitVec.getLsbD_or, BitVec.getLsbD_xor, BitVec.getLsbD_shiftLeft, BitVec.getLsbD_ushiftRight, mb, onesbit]
  by_cases c : i < w
  ·have a1 : s + i < 64 := by omega
   have a2 : ¬ (s + i < s) := by omega
   have a3 : s + i - s = i := by omega
   simp [a1, a2, a3, c]
  ·have := small_bit (w := w) hV (i := i) (by omega)
   simp [c, this]
 ·rw [if_neg e]
  simp only [BitVec.getLsbD_and, BitVec.getLsbD_or, BitVec.getLsbD_xor, BitVec.getLsbD_shiftLeft, BitVec.getLsbD_ushiftRight, mb, onesbit]
  by_cases c : i < w
  ·have a1 : t + i < 64 := by omega
   by_cases a2 : t + i < s
   ·simp [a1, a2, c]
   ·have a3 : ¬ (t + i - s < w) := by omega
    have := small_bit (w := w) hV (i := t + i - s) (by omega)
    simp [a1, a2, a3, c, this]
  ·simp [c]
theorem ofI {x : Int32} {n : Nat} (h : x.toInt = n) : x = Int32.ofInt n := by rw [← h, Int32.ofInt_toInt]
theorem shl64 (v : Int64) {y : Int32} {n : Nat} (h : y.toInt = n) (hn : n < 64) : (v <<< (y.toInt64 &&& 63)).toBitVec = v.toBitVec <<< n := by
 have : ∀ n : Fin 64, (((Int32.ofInt n.1).toInt64 &&& 63).toBitVec.smod 64) = BitVec.ofNat 64 n.1 := by decide
 rw [ofI h]
 show v.toBitVec <<< (((Int32.ofInt n).toInt64 &&& 63).toBitVec.smod 64) = _
 rw [this ⟨n, hn⟩, BitVec.shiftLeft_eq']
 congr 1
 simp; omega
theorem ushr64 (v : Int64) {y : Int32} {n : Nat} (h : y.toInt = n) (hn : n < 64) : (XT.ushrL v y).toBitVec = v.toBitVec >>> n := by
 have : ∀ n : Fin 64, (((Int32.ofInt n.1).toInt64.toUInt64 &&& Int64.toUInt64 63) % 64).toBitVec = BitVec.ofNat 64 n.1 := by decide
 rw [ofI h]
 show v.toBitVec >>> (((Int32.ofInt n).toInt64.toUInt64 &&& Int64.toUInt64 63) % 64).toBitVec = _
 rw [this ⟨n, hn⟩, BitVec.ushiftRight_eq']
 congr 1
 simp; omega
theorem clrB (w v : Nat) (X : BitVec 64) (s t : Nat) (hw : w < 64) (hv : v < 64) (hs : s + w ≤ 64) (ht : t + v ≤ 64) (d : (s ≤ t ∧ t + v ≤ s + w) ∨ s + w ≤ t ∨ t + v ≤ s) :
  ((X &&& ((BitVec.ofNat 64 (2 ^ w - 1) <<< s) ^^^ (-1#64))) >>> t) &&& BitVec.ofNat 64 (2 ^ v - 1) = if s ≤ t ∧ t + v ≤ s + w then 0#64 else (X >>> t) &&& BitVec.ofNat 64 (2 ^ v - 1) := by
 have mb := mskbit hw
 have mv := mskbit hv
 apply BitVec.eq_of_getLsbD_eq
 intro i hi
 by_cases e : s ≤ t ∧ t + v ≤ s + w
 ·rw [if_pos e]
  simp only [BitVec.getLsbD_and, BitVec.getLsbD_xor, BitVec.getLsbD_shiftLeft, BitVec.getLsbD_ushiftRight, mb, mv, onesbit]
  by_cases c : i < v
  ·have a1 : t + i < 64 := by omega
   have a2 : ¬ (t + i < s) := by omega
   have a3 : t + i - s < w := by omega
   simp [a1, a2, a3, c]
  ·simp [c]
 ·rw [if_neg e]
  simp only [BitVec.getLsbD_and, BitVec.getLsbD_xor, BitVec.getLsbD_shiftLeft, BitVec.getLsbD_ushiftRight, mb, mv, onesbit]
  by_cases c : i < v
  ·have a1 : t + i < 64 := by omega
   by_cases a2 : t + i < s
   ·simp [a1, a2, c]
   ·have a3 : ¬ (t + i - s < w) := by omega
    simp [a1, a2, a3, c]
  ·simp [c]
theorem shl32 (v : Int32) {y : Int32} {n : Nat} (h : y.toInt = n) (hn : n < 32) : (v <<< (y &&& 31)).toBitVec = v.toBitVec <<< n := by
 have : ∀ n : Fin 32, ((Int32.ofInt n.1 &&& 31).toBitVec.smod 32) = BitVec.ofNat 32 n.1 := by decide
 rw [ofI h]
 show v.toBitVec <<< ((Int32.ofInt n &&& 31).toBitVec.smod 32) = _
 rw [this ⟨n, hn⟩, BitVec.shiftLeft_eq']
 congr 1
 simp; omega
theorem shr32 (v : Int32) {y : Int32} {n : Nat} (h : y.toInt = n) (hn : n < 32) : (v >>> (y &&& 31)).toBitVec = v.toBitVec.sshiftRight n := by
 have : ∀ n : Fin 32, ((Int32.ofInt n.1 &&& 31).toBitVec.smod 32) = BitVec.ofNat 32 n.1 := by decide
 rw [ofI h]
 show v.toBitVec.sshiftRight' ((Int32.ofInt n &&& 31).toBitVec.smod 32) = _
 rw [this ⟨n, hn⟩, BitVec.sshiftRight_eq']
 congr 1
 simp; omega
def bt (x : Int32) (n : Nat) : Bool := x.toBitVec.getLsbD n
theorem bt_shr (x : Int32) {y : Int32} {n : Nat} (h : y.toInt = n) (hn : n < 32) : (x >>> (y &&& 31)) &&& 1 = if bt x n then 1 else 0 := by
 apply Int32.toBitVec_inj.1
 show (x >>> (y &&& 31)).toBitVec &&& 1#32 = _
 rw [shr32 x h hn, BitVec.and_one_eq_setWidth_ofBool_getLsbD]
 have e : (x.toBitVec.sshiftRight n).getLsbD 0 = bt x n := by
  rw [BitVec.getLsbD_sshiftRight]
  simp [hn, bt]
 rw [e]
 cases bt x n <;> rfl
theorem bt_or (x y : Int32) (n : Nat) : bt (x ||| y) n = (bt x n || bt y n) := by
 show (x.toBitVec ||| y.toBitVec).getLsbD n = _
 rw [BitVec.getLsbD_or]; rfl
theorem bt_andn (x y : Int32) {n : Nat} (hn : n < 32) : bt (x &&& (y ^^^ (-1))) n = (bt x n && !bt y n) := by
 show (x.toBitVec &&& (y.toBitVec ^^^ (-1#32))).getLsbD n = _
 have : ∀ i : Fin 32, (-1#32).getLsbD i.1 = true := by decide
 rw [BitVec.getLsbD_and, BitVec.getLsbD_xor, this ⟨n, hn⟩, Bool.xor_true]; rfl
theorem bt_one {y : Int32} {k : Nat} (h : y.toInt = k) (hk : k < 32) {n : Nat} (hn : n < 32) : bt ((1 : Int32) <<< (y &&& 31)) n = decide (n = k) := by
 have : ∀ k : Fin 32, ∀ n : Fin 32, bt ((1 : Int32) <<< (Int32.ofInt k.1 &&& 31)) n.1 = decide (n.1 = k.1) := by decide +kernel
 rw [ofI h]
 exact this ⟨k, hk⟩ ⟨n, hn⟩
theorem bt_0 (n : Nat) : bt 0 n = false := by
 show (0#32).getLsbD n = false
 simp
theorem mskbit32 {w : Nat} (hw : w < 32) (i : Nat) : (BitVec.ofNat 32 (2 ^ w - 1)).getLsbD i = decide (i < w) := by
 rw [BitVec.getLsbD_ofNat, Nat.testBit_two_pow_sub_one]
 by_cases h : i < w
 ·have : i < 32 := by omega
  simp [h, this]
 ·simp [h]
theorem onesbit32 (i : Nat) : (-1#32).getLsbD i = decide (i < 32) := by
 by_cases h : i < 32
 ·have : ∀ j : Fin 32, (-1#32).getLsbD j.1 = decide (j.1 < 32) := by decide
  exact this ⟨i, h⟩
 ·rw [BitVec.getLsbD_of_ge _ _ (by omega)]
  simp; omega
theorem small_bit32 {V : BitVec 32} {w : Nat} (h : V.toNat < 2 ^ w) {i : Nat} (hi : w ≤ i) : V.getLsbD i = false := by
 rw [BitVec.getLsbD]
 exact Nat.testBit_lt_two_pow (Nat.lt_of_lt_of_le h (Nat.pow_le_pow_right (by decide) hi))
theorem putB32 (w : Nat) (X V : BitVec 32) (hV : V.toNat < 2 ^ w) (s t : Nat) (hw : w < 32) (hs : s + w ≤ 32) (ht : t + w ≤ 32) (d : s = t ∨ s + w ≤ t ∨ t + w ≤ s) :
  (((X &&& ((BitVec.ofNat 32 (2 ^ w - 1) <<< s) ^^^ (-1#32))) ||| (V <<< s)).sshiftRight t) &&& BitVec.ofNat 32 (2 ^ w - 1) = if s = t then V else (X.sshiftRight t) &&& BitVec.ofNat 32 (2 ^ w - 1) := by
 have mb := mskbit32 hw
 apply BitVec.eq_of_getLsbD_eq
 intro i hi
 by_cases e : s = t
 ·subst e
  rw [if_pos rfl]
  simp only [BitVec.getLsbD_and, BitVec.getLsbD_or, BitVec.getLsbD_xor, BitVec.getLsbD_shiftLeft, BitVec.getLsbD_sshiftRight, mb, onesbit32]
  by_cases c : i < w
  ·have a1 : s + i < 32 := by omega
   have a2 : ¬ (s + i < s) := by omega
   have a3 : s + i - s = i := by omega
   have a4 : ¬ (32 ≤ i) := by omega
   simp [a1, a2, a3, a4, c]
  ·have := small_bit32 (w := w) hV (i := i) (by omega)
   simp [c, this]
 ·rw [if_neg e]
  simp only [BitVec.getLsbD_and, BitVec.getLsbD_or, BitVec.getLsbD_xor, BitVec.getLsbD_shiftLeft, BitVec.getLsbD_sshiftRight, mb, onesbit32]
  by_cases c : i < w
  ·have a1 : t + i < 32 := by omega
   have a4 : ¬ (32 ≤ i) := by omega
   by_cases a2 : t + i < s
   ·simp [a1, a2, a4, c]
   ·have a3 : ¬ (t + i - s < w) := by omega
    have := small_bit32 (w := w) hV (i := t + i - s) (by omega)
    simp [a1, a2, a3, a4, c, this]
  ·simp [c]
theorem fput (w : Nat) (M : Int64) (hM : M.toBitVec = BitVec.ofNat 64 (2 ^ w - 1)) (x V : Int64) (hV : V.toBitVec.toNat < 2 ^ w) {a b : Int32} {s t : Nat} (ha : a.toInt = s) (hb : b.toInt = t) (hw : w < 64) (hw0 : 0 < w) (hs : s + w ≤ 64) (ht : t + w ≤ 64) (d : s = t ∨ s + w ≤ t ∨ t + w ≤ s) : (XT.ushrL ((x &&& ((M <<< (a.toInt64 &&& 63)) ^^^ (-1 : Int64))) ||| (V <<< (a.toInt64 &&& 63))) b) &&& M = if s = t then V else (XT.ushrL x b) &&& M := by
 apply Int64.toBitVec_inj.1
 have e1 : ((XT.ushrL ((x &&& ((M <<< (a.toInt64 &&& 63)) ^^^ (-1 : Int64))) ||| (V <<< (a.toInt64 &&& 63))) b) &&& M).toBitVec = ((((x.toBitVec &&& ((BitVec.ofNat 64 (2 ^ w - 1) <<< s) ^^^ (-1#64))) ||| (V.toBitVec <<< s)) >>> t) &&& BitVec.ofNat 64 (2 ^ w - 1)) := by
  show (XT.ushrL ((x &&& ((M <<< (a.toInt64 &&& 63)) ^^^ (-1 : Int64))) ||| (V <<< (a.toInt64 &&& 63))) b).toBitVec &&& M.toBitVec = _
  rw [ushr64 _ hb (by omega), hM]
  show (((x.toBitVec &&& ((M <<< (a.toInt64 &&& 63)).toBitVec ^^^ (-1#64))) ||| (V <<< (a.toInt64 &&& 63)).toBitVec) >>> t) &&& _ = _
  rw [shl64 _ ha (by omega), shl64 _ ha (by omega), hM]
 rw [e1, putB w x.toBitVec V.toBitVec hV s t hw hs ht d]
 by_cases c : s = t
 ·rw [if_pos c, if_pos c]
 ·rw [if_neg c, if_neg c]
  show _ = (XT.ushrL x b).toBitVec &&& M.toBitVec
  rw [ushr64 _ hb (by omega), hM]
theorem ushr32 (v : Int32) {y : Int32} {n : Nat} (h : y.toInt = n) (hn : n < 32) : (XT.ushr v y).toBitVec = v.toBitVec >>> n := by
 have : ∀ n : Fin 32, ((Int32.ofInt n.1 &&& 31).toUInt32 % 32).toBitVec = BitVec.ofNat 32 n.1 := by decide
 rw [ofI h]
 show v.toBitVec >>> ((Int32.ofInt n &&& 31).toUInt32 % 32).toBitVec = _
 rw [this ⟨n, hn⟩, BitVec.ushiftRight_eq']
 congr 1
 simp; omega
theorem bt_ushr (x : Int32) {y : Int32} {n : Nat} (h : y.toInt = n) (hn : n < 32) : XT.ushr x y &&& 1 = if bt x n then 1 else 0 := by
 apply Int32.toBitVec_inj.1
 show (XT.ushr x y).toBitVec &&& 1#32 = _
 rw [ushr32 x h hn, BitVec.and_one_eq_setWidth_ofBool_getLsbD]
 have e : (x.toBitVec >>> n).getLsbD 0 = bt x n := by
  rw [BitVec.getLsbD_ushiftRight]; rfl
 rw [e]
 cases bt x n <;> rfl
theorem bt_ext {x y : Int32} (h : ∀ n, n < 32 → bt x n = bt y n) : x = y := by
 apply Int32.toBitVec_inj.1
 apply BitVec.eq_of_getLsbD_eq
 intro i hi
 exact h i hi
theorem bt_and (x y : Int32) (n : Nat) : bt (x &&& y) n = (bt x n && bt y n) := by
 show (x.toBitVec &&& y.toBitVec).getLsbD n = _
 rw [BitVec.getLsbD_and]; rfl
theorem bt_test (x : Int32) {y : Int32} {k : Nat} (h : y.toInt = k) (hk : k < 32) : (x &&& ((1 : Int32) <<< (y &&& 31))) = 0 ↔ bt x k = false := by
 constructor
 ·intro e
  have := congrArg (fun z => bt z k) e
  simp only [bt_and, bt_one h hk hk, bt_0, decide_true, Bool.and_true] at this
  exact this
 ·intro e
  apply bt_ext
  intro n hn
  rw [bt_and, bt_one h hk hn, bt_0]
  by_cases c : n = k
  ·rw [c, e, Bool.false_and]
  ·rw [decide_eq_false c, Bool.and_false]
theorem bt_same {x y : Int32} {k : Nat} (h : y.toInt = k) (hk : k < 32) (e : bt x k = true) : x ||| ((1 : Int32) <<< (y &&& 31)) = x := by
 apply bt_ext
 intro n hn
 rw [bt_or, bt_one h hk hn]
 by_cases c : n = k
 ·rw [c, e, Bool.true_or]
 ·rw [decide_eq_false c, Bool.or_false]

theorem pv_in {K : Core} {i j : Int32} (hi : inR K (krf K) i) (hj : inR K (kcf K) j) : pv K i j = grp K (if i = -1 then 0 else 1) (if i = -1 then 0 else rk K (krf K) i) (if j = -1 then 0 else 1) (if j = -1 then 0 else rk K (kcf K) j) := by
 unfold pv
 rw [if_pos ⟨hi, hj⟩]
theorem rk_get {K : Core} {f i k : Int32} (h0 : 0 ≤ i.toInt) (h : (kys K f)[i.toInt.toNat]? = some k) : rk K f i = k := by
 unfold rk
 rw [if_neg (by omega), h]; rfl
theorem ne_m1 {i : Int32} (h : 0 ≤ i.toInt) : ¬ i = -1 := by
 rw [i_eq]; show ¬ i.toInt = -1; omega
theorem comb_ok (ag a v : Int32) : F21 ag a v = some (cmb ag a v) := by
 unfold F21 cmb
 split
 ·split <;> rfl
 split
 ·split <;> rfl
 rfl
theorem row_fold {K : Core} (wf : WF K) {L : Int32} (ha : kag K = 0 ∨ kag K = 1 ∨ kag K = 2 ∨ kag K = 3) {x2 : Int64} {x4 x5 x6 ii : Int32} (h5 : x5.toInt = (kys K (kcf K)).length) (hi : inR K (krf K) ii) {o : Ob} (ho : Sh K L o) : okP (loopN (B3_117 (kag K) x2 x4 x5 x6 ii) qN (0, 0, 0, 0, o)) (fun e => e.1 = (pv K ii (-1)).2 ∧ (if e.2.2.1 = 0 then 0 else e.2.1) = (pv K ii (-1)).1 ∧ Sh K L e.2.2.2) := by
 obtain ⟨u, hu⟩ : ∃ u : Int32, u = if ii = -1 then 0 else 1 := ⟨_, rfl⟩
 obtain ⟨a, hA⟩ : ∃ a : Int32, a = if ii = -1 then 0 else rk K (krf K) ii := ⟨_, rfl⟩
 have tot : pv K ii (-1) = (cP K (cnd K u a 0 0), cC K (cnd K u a 0 0)) := by
  rw [pv_in hi (Or.inl rfl), ← hu, ← hA, ← grp_c]; rfl
 rw [tot]
 refine fold_ok wf ha (c := cnd K u a 0 0) (f := kcf K) cnd_fil ?_ ho
 intro n b h j p hp j0
 unfold B3_117
 simp only
 by_cases d : j.toInt < (kys K (kcf K)).length
 ·simp only [if_pos d]
  rw [if_pos (by rw [i_lt, h5]; exact d)]
  have hk : (kys K (kcf K))[j.toInt.toNat]? = some ((kys K (kcf K))[j.toInt.toNat]'(by omega)) := List.getElem?_eq_getElem (by omega)
  obtain ⟨k, ek⟩ : ∃ k, k = (kys K (kcf K))[j.toInt.toNat]'(by omega) := ⟨_, rfl⟩
  rw [← ek] at hk
  have ce : pv K ii j = (cP K (qG K (cnd K u a 0 0) (kcf K) k), cC K (qG K (cnd K u a 0 0) (kcf K) k)) := by
   rw [pv_in hi (Or.inr ⟨j0, d⟩), ← hu, ← hA, if_neg (ne_m1 j0), if_neg (ne_m1 j0), rk_get j0 hk, ← cnd_col, ← grp_c]
  apply okP.bind
  refine okP.mono (count_ok wf hp ii j) ?_
  rintro ⟨c1, p1⟩ ⟨e1, s1⟩
  simp only at e1 s1 ⊢
  rw [ce] at e1
  subst e1
  unfold J3_179
  by_cases q : (0 : Int32) < cC K (qG K (cnd K u a 0 0) (kcf K) k)
  ·rw [if_pos q]
   apply okP.bind
   refine okP.mono (value_ok wf s1 ii j) ?_
   rintro ⟨c2, p2⟩ ⟨e2, s2⟩
   simp only at e2 s2 ⊢
   rw [ce] at e2
   subst e2
   unfold J3_174 J3_179
   by_cases h0 : h = 0
   ·rw [if_pos h0]
    refine okP.some (fun k' hk' => ⟨p2, s2, ?_⟩)
    rw [hk] at hk'; cases hk'
    rw [if_pos q, if_pos q, if_pos h0]
   ·rw [if_neg h0, comb_ok]
    refine okP.some (fun k' hk' => ⟨p2, s2, ?_⟩)
    rw [hk] at hk'; cases hk'
    rw [if_pos q, if_pos q, if_neg h0]
  ·rw [if_neg q]
   refine okP.some (fun k' hk' => ⟨p1, s1, ?_⟩)
   rw [hk] at hk'; cases hk'
   rw [if_neg q, if_neg q]
 ·simp only [if_neg d]
  rw [if_neg (by rw [i_lt, h5]; exact d)]
  exact okP.some rfl
theorem col_fold {K : Core} (wf : WF K) {L : Int32} (ha : kag K = 0 ∨ kag K = 1 ∨ kag K = 2 ∨ kag K = 3) {x2 : Int64} {x4 x5 x6 jj : Int32} (h4 : x4.toInt = (kys K (krf K)).length) (hj : inR K (kcf K) jj) {o : Ob} (ho : Sh K L o) : okP (loopN (B3_263 (kag K) x2 x4 x5 x6 jj) qN (0, 0, 0, 0, o)) (fun e => e.1 = (pv K (-1) jj).2 ∧ (if e.2.2.1 = 0 then 0 else e.2.1) = (pv K (-1) jj).1 ∧ Sh K L e.2.2.2) := by
 obtain ⟨u, hu⟩ : ∃ u : Int32, u = if jj = -1 then 0 else 1 := ⟨_, rfl⟩
 obtain ⟨a, hA⟩ : ∃ a : Int32, a = if jj = -1 then 0 else rk K (kcf K) jj := ⟨_, rfl⟩
 have tot : pv K (-1) jj = (cP K (cnd K 0 0 u a), cC K (cnd K 0 0 u a)) := by
  rw [pv_in (Or.inl rfl) hj, ← hu, ← hA, ← grp_c]; rfl
 rw [tot]
 refine fold_ok wf ha (c := cnd K 0 0 u a) (f := krf K) cnd_fil ?_ ho
 intro n b h j p hp j0
 unfold B3_263
 simp only
 by_cases d : j.toInt < (kys K (krf K)).length
 ·simp only [if_pos d]
  rw [if_pos (by rw [i_lt, h4]; exact d)]
  have hk : (kys K (krf K))[j.toInt.toNat]? = some ((kys K (krf K))[j.toInt.toNat]'(by omega)) := List.getElem?_eq_getElem (by omega)
  obtain ⟨k, ek⟩ : ∃ k, k = (kys K (krf K))[j.toInt.toNat]'(by omega) := ⟨_, rfl⟩
  rw [← ek] at hk
  have ce : pv K j jj = (cP K (qG K (cnd K 0 0 u a) (krf K) k), cC K (qG K (cnd K 0 0 u a) (krf K) k)) := by
   rw [pv_in (Or.inr ⟨j0, d⟩) hj, ← hu, ← hA, if_neg (ne_m1 j0), if_neg (ne_m1 j0), rk_get j0 hk, ← cnd_row, ← grp_c]
  apply okP.bind
  refine okP.mono (count_ok wf hp j jj) ?_
  rintro ⟨c1, p1⟩ ⟨e1, s1⟩
  simp only at e1 s1 ⊢
  rw [ce] at e1
  subst e1
  unfold J3_325
  by_cases q : (0 : Int32) < cC K (qG K (cnd K 0 0 u a) (krf K) k)
  ·rw [if_pos q]
   apply okP.bind
   refine okP.mono (value_ok wf s1 j jj) ?_
   rintro ⟨c2, p2⟩ ⟨e2, s2⟩
   simp only at e2 s2 ⊢
   rw [ce] at e2
   subst e2
   unfold J3_320 J3_325
   by_cases h0 : h = 0
   ·rw [if_pos h0]
    refine okP.some (fun k' hk' => ⟨p2, s2, ?_⟩)
    rw [hk] at hk'; cases hk'
    rw [if_pos q, if_pos q, if_pos h0]
   ·rw [if_neg h0, comb_ok]
    refine okP.some (fun k' hk' => ⟨p2, s2, ?_⟩)
    rw [hk] at hk'; cases hk'
    rw [if_pos q, if_pos q, if_neg h0]
  ·rw [if_neg q]
   refine okP.some (fun k' hk' => ⟨p1, s1, ?_⟩)
   rw [hk] at hk'; cases hk'
   rw [if_neg q, if_neg q]
 ·simp only [if_neg d]
  rw [if_neg (by rw [i_lt, h4]; exact d)]
  exact okP.some rfl
theorem ii_in {K : Core} {f i : Int32} (h0 : -1 ≤ i.toInt) (h1 : i.toInt < (kys K f).length) : inR K f (if i < 0 then -1 else i) := by
 have z0 : (0 : Int32).toInt = 0 := rfl
 by_cases c : i < 0
 ·rw [if_pos c]; exact Or.inl rfl
 ·rw [if_neg c]; rw [i_lt, z0] at c; exact Or.inr ⟨by omega, h1⟩
theorem rows_ok {K : Core} (wf : WF K) {L : Int32} (ha : kag K = 0 ∨ kag K = 1 ∨ kag K = 2 ∨ kag K = 3) {x2 : Int64} {x4 x5 : Int32} (h4 : x4.toInt = (kys K (krf K)).length) (h5 : x5.toInt = (kys K (kcf K)).length) {o : Ob} (ho : Sh K L o) : okP (loopN (B3_85 (kag K) x2 x4 x5) qN (-1, o)) (fun e => ∃ p, Sh K L p ∧ e = .inl p) := by
 have kl := kys_len wf (krf K)
 refine okP.loop (fun v => -1 ≤ v.1.toInt ∧ v.1.toInt ≤ (kys K (krf K)).length ∧ Sh K L v.2) (fun v => (33 - v.1.toInt).toNat) ⟨by show (-1 : Int) ≤ -1; decide, by show (-1 : Int) ≤ _; omega, ho⟩ (by show (33 - (-1 : Int)).toNat < 4000; decide) ?_
 rintro ⟨i, p⟩ ⟨i0, i1, hp⟩
 simp only at i0 i1 hp
 unfold B3_85
 simp only
 apply okP.ite <;> intro d
 ·rw [i_lt, h4] at d
  have e1 : (i + 1).toInt = i.toInt + 1 := inc1 (by omega)
  have hi := ii_in (f := krf K) i0 d
  apply okP.bind
  refine okP.mono (row_fold wf ha h5 hi hp) ?_
  rintro ⟨n, a, h, q⟩ ⟨c1, c2, sq⟩
  simp only at c1 c2 sq ⊢
  apply okP.bind
  refine okP.mono (count_ok wf sq _ _) ?_
  rintro ⟨n2, q2⟩ ⟨c3, s2⟩
  simp only at c3 s2 ⊢
  rw [if_pos (by rw [c3, c1])]
  apply okP.bind
  refine okP.mono (value_ok wf s2 _ _) ?_
  rintro ⟨n3, q3⟩ ⟨c4, s3⟩
  simp only at c4 s3 ⊢
  rw [if_pos (by rw [c4, c2])]
  exact okP.some ⟨⟨by simp only; omega, by simp only; omega, s3⟩, by simp only; omega⟩
 ·exact okP.some ⟨p, hp, rfl⟩
theorem cols_ok {K : Core} (wf : WF K) {L : Int32} (ha : kag K = 0 ∨ kag K = 1 ∨ kag K = 2 ∨ kag K = 3) {x2 : Int64} {x4 x5 : Int32} (h4 : x4.toInt = (kys K (krf K)).length) (h5 : x5.toInt = (kys K (kcf K)).length) {o : Ob} (ho : Sh K L o) : okP (loopN (B3_231 (kag K) x2 x4 x5) qN (-1, o)) (fun e => ∃ p, Sh K L p ∧ e = .inl p) := by
 have kl := kys_len wf (kcf K)
 refine okP.loop (fun v => -1 ≤ v.1.toInt ∧ v.1.toInt ≤ (kys K (kcf K)).length ∧ Sh K L v.2) (fun v => (33 - v.1.toInt).toNat) ⟨by show (-1 : Int) ≤ -1; decide, by show (-1 : Int) ≤ _; omega, ho⟩ (by show (33 - (-1 : Int)).toNat < 4000; decide) ?_
 rintro ⟨i, p⟩ ⟨i0, i1, hp⟩
 simp only at i0 i1 hp
 unfold B3_231
 simp only
 apply okP.ite <;> intro d
 ·rw [i_lt, h5] at d
  have e1 : (i + 1).toInt = i.toInt + 1 := inc1 (by omega)
  have hi := ii_in (f := kcf K) i0 d
  apply okP.bind
  refine okP.mono (col_fold wf ha h4 hi hp) ?_
  rintro ⟨n, a, h, q⟩ ⟨c1, c2, sq⟩
  simp only at c1 c2 sq ⊢
  apply okP.bind
  refine okP.mono (count_ok wf sq _ _) ?_
  rintro ⟨n2, q2⟩ ⟨c3, s2⟩
  simp only at c3 s2 ⊢
  rw [if_pos (by rw [c3, c1])]
  apply okP.bind
  refine okP.mono (value_ok wf s2 _ _) ?_
  rintro ⟨n3, q3⟩ ⟨c4, s3⟩
  simp only at c4 s3 ⊢
  rw [if_pos (by rw [c4, c2])]
  exact okP.some ⟨⟨by simp only; omega, by simp only; omega, s3⟩, by simp only; omega⟩
 ·exact okP.some ⟨p, hp, rfl⟩
theorem kys_inc {K : Core} {f i : Int32} (h0 : 1 ≤ i.toInt) (h1 : i.toInt < (kys K f).length) : rk K f (i - 1) < rk K f i := by
 have z1 : (1 : Int32).toInt = 1 := rfl
 have e : (i - 1).toInt = i.toInt - 1 := by
  have := i_hi i
  rw [i_sub (by omega) (by omega), z1]
 obtain ⟨m, hm⟩ : ∃ m, m = i - 1 := ⟨_, rfl⟩
 rw [← hm] at e ⊢
 have g1 : (kys K f)[m.toInt.toNat]? = some ((kys K f)[m.toInt.toNat]'(by omega)) := List.getElem?_eq_getElem (by omega)
 have g2 : (kys K f)[i.toInt.toNat]? = some ((kys K f)[i.toInt.toNat]'(by omega)) := List.getElem?_eq_getElem (by omega)
 rw [rk_get (by omega) g1, rk_get (by omega) g2, i_lt]
 exact (List.pairwise_iff_getElem.1 (key_sorted K f (nR K))) _ _ _ _ (by omega)
theorem sr_ok {K : Core} (wf : WF K) {L : Int32} {x1 : Int32} {x2 : Int64} {x4 x5 : Int32} (h4 : x4.toInt = (kys K (krf K)).length) {o : Ob} (ho : Sh K L o) : okP (loopN (B3_15 x1 x2 x4 x5) qN (1, o)) (fun e => ∃ p, Sh K L p ∧ e = .inl p) := by
 have kl := kys_len wf (krf K)
 refine okP.loop (fun v => 1 ≤ v.1.toInt ∧ v.1.toInt ≤ 33 ∧ Sh K L v.2) (fun v => (34 - v.1.toInt).toNat) ⟨by show (1 : Int) ≤ 1; decide, by show (1 : Int) ≤ 33; decide, ho⟩ (by show (34 - (1 : Int)).toNat < 4000; decide) ?_
 rintro ⟨i, p⟩ ⟨i0, i1, hp⟩
 simp only at i0 i1 hp
 unfold B3_15
 simp only
 apply okP.ite <;> intro d
 ·rw [i_lt, h4] at d
  have lt := kys_inc (f := krf K) i0 d
  have e1 : (i + 1).toInt = i.toInt + 1 := inc1 (by omega)
  obtain ⟨m, hm⟩ : ∃ m, m = i - 1 := ⟨_, rfl⟩
  rw [← hm] at lt ⊢
  apply okP.bind
  refine okP.mono (rowKey_ok wf hp m) ?_
  rintro ⟨n2, q2⟩ ⟨c3, s2⟩
  apply okP.bind
  refine okP.mono (rowKey_ok wf s2 i) ?_
  rintro ⟨n3, q3⟩ ⟨c4, s3⟩
  simp only at c3 s2 c4 s3 ⊢
  rw [if_pos (by rw [c3, c4]; exact lt)]
  exact okP.some ⟨⟨by simp only; omega, by simp only; omega, s3⟩, by simp only; omega⟩
 ·exact okP.some ⟨p, hp, rfl⟩
theorem sc_ok {K : Core} (wf : WF K) {L : Int32} {x1 : Int32} {x2 : Int64} {x4 x5 : Int32} (h5 : x5.toInt = (kys K (kcf K)).length) {o : Ob} (ho : Sh K L o) : okP (loopN (B3_50 x1 x2 x4 x5) qN (1, o)) (fun e => ∃ p, Sh K L p ∧ e = .inl p) := by
 have kl := kys_len wf (kcf K)
 refine okP.loop (fun v => 1 ≤ v.1.toInt ∧ v.1.toInt ≤ 33 ∧ Sh K L v.2) (fun v => (34 - v.1.toInt).toNat) ⟨by show (1 : Int) ≤ 1; decide, by show (1 : Int) ≤ 33; decide, ho⟩ (by show (34 - (1 : Int)).toNat < 4000; decide) ?_
 rintro ⟨i, p⟩ ⟨i0, i1, hp⟩
 simp only at i0 i1 hp
 unfold B3_50
 simp only
 apply okP.ite <;> intro d
 ·rw [i_lt, h5] at d
  have lt := kys_inc (f := kcf K) i0 d
  have e1 : (i + 1).toInt = i.toInt + 1 := inc1 (by omega)
  obtain ⟨m, hm⟩ : ∃ m, m = i - 1 := ⟨_, rfl⟩
  rw [← hm] at lt ⊢
  apply okP.bind
  refine okP.mono (colKey_ok wf hp m) ?_
  rintro ⟨n2, q2⟩ ⟨c3, s2⟩
  apply okP.bind
  refine okP.mono (colKey_ok wf s2 i) ?_
  rintro ⟨n3, q3⟩ ⟨c4, s3⟩
  simp only at c3 s2 c4 s3 ⊢
  rw [if_pos (by rw [c3, c4]; exact lt)]
  exact okP.some ⟨⟨by simp only; omega, by simp only; omega, s3⟩, by simp only; omega⟩
 ·exact okP.some ⟨p, hp, rfl⟩
theorem fl_ok {K : Core} (wf : WF K) {L : Int32} {o : Ob} (ho : Sh K L o) {x2 : Int64} {x4 x5 : Int32} : okP (loopN (B3_380 o x2 x4 x5) qN (0, 0)) (fun e => e = (pv K (-1) (-1)).2) := by
 have r32 := wf.r
 have n32 : (nR K : Int) = (kR K).toInt := by unfold nR; omega
 have z0 : (0 : Int32).toInt = 0 := rfl
 have z40 : (40 : Int32).toInt = 40 := rfl
 have nf : ∀ n, nFl K n ≤ n := by
  intro n
  have := List.length_filter_le (fil K) (List.range n)
  rw [List.length_range] at this
  exact this
 refine okP.loop (fun v => 0 ≤ v.2.toInt ∧ v.2.toInt ≤ 40 ∧ v.1.toInt = nFl K (if v.2.toInt.toNat < nR K then v.2.toInt.toNat else nR K)) (fun v => (40 - v.2.toInt).toNat) ⟨by show (0 : Int) ≤ 0; decide, by show (0 : Int) ≤ 40; decide, ?_⟩ (by show (40 - (0 : Int)).toNat < 4000; decide) ?_
 ·show (0 : Int) = nFl K (if 0 < nR K then 0 else nR K)
  rw [if_pos (by omega)]; rfl
 rintro ⟨c, i⟩ ⟨a1, a2, a3⟩
 simp only at a1 a2 a3
 unfold B3_380
 simp only
 apply okP.ite <;> intro d
 ·rw [i_lt, z40] at d
  have e1 : (i + 1).toInt = i.toInt + 1 := inc1 (by omega)
  have en : (i + 1).toInt.toNat = i.toInt.toNat + 1 := by omega
  rw [isFil_ok wf ho]
  simp only [Option.bind_some]
  apply okP.some
  refine ⟨⟨by simp only; omega, by simp only; omega, ?_⟩, by simp only; omega⟩
  simp only [en]
  by_cases lt : i.toInt.toNat < nR K
  ·rw [if_pos lt] at a3
   have b := nf i.toInt.toNat
   have b2 := inc1 (show c.toInt < 2147483647 by omega)
   have ee : (if i.toInt.toNat + 1 < nR K then i.toInt.toNat + 1 else nR K) = i.toInt.toNat + 1 := by split <;> omega
   rw [ee, nF_s]
   by_cases f : fil K i.toInt.toNat = true
   ·rw [if_pos (show (0 ≤ i.toInt ∧ i.toInt < (kR K).toInt) ∧ fil K i.toInt.toNat = true from ⟨⟨a1, by omega⟩, f⟩), if_neg (by decide), if_pos f, b2]; omega
   ·rw [if_neg (show ¬ ((0 ≤ i.toInt ∧ i.toInt < (kR K).toInt) ∧ fil K i.toInt.toNat = true) from fun q => f q.2), if_pos rfl, if_neg f]; exact a3
  ·rw [if_neg lt] at a3
   rw [if_neg (show ¬ ((0 ≤ i.toInt ∧ i.toInt < (kR K).toInt) ∧ fil K i.toInt.toNat = true) from fun q => by omega), if_pos rfl, if_neg (by omega)]
   exact a3
 ·rw [i_lt, z40] at d
  apply okP.some
  rw [if_neg (by omega)] at a3
  show c = _
  have : pv K (-1) (-1) = grp K 0 0 0 0 := by rw [pv_in (Or.inl rfl) (Or.inl rfl)]; rfl
  rw [i_eq, a3, this, grp_c]
  rw [(cC_int wf _).1]
  have e : cnd K 0 0 0 0 = fil K := by
   funext r
   unfold cnd
   show (fil K r && true) = fil K r
   simp
  rw [e]
  unfold nFl vC
  rw [List.length_map]
def Fi (K : Core) (f k x : Int32) : Prop := (x = -1 ∧ k ∉ kys K f) ∨ (0 ≤ x.toInt ∧ x.toInt < (kys K f).length ∧ rk K f x = k)
theorem not_mem_k {K : Core} {f k : Int32} (h : ∀ j : Nat, (kys K f)[j]? ≠ some k) : k ∉ kys K f := by
 intro q
 obtain ⟨j, hj, e⟩ := List.mem_iff_getElem.1 q
 exact h j (by rw [List.getElem?_eq_getElem hj, e])
theorem fr_ok {K : Core} (wf : WF K) {L : Int32} {x2 : Int64} {x4 x5 x7 x8 x10 k x12 x14 : Int32} (h4 : x4.toInt = (kys K (krf K)).length) {o : Ob} (ho : Sh K L o) : okP (loopN (B3_493 x2 x4 x5 x7 x8 x10 k x12 x14) qN (-1, 0, o)) (fun e => Fi K (krf K) k e.1 ∧ Sh K L e.2) := by
 have kl := kys_len wf (krf K)
 refine okP.loop (fun v => 0 ≤ v.2.1.toInt ∧ v.2.1.toInt ≤ (kys K (krf K)).length ∧ Sh K L v.2.2 ∧ ((v.1 = -1 ∧ ∀ j : Nat, j < v.2.1.toInt.toNat → (kys K (krf K))[j]? ≠ some k) ∨ (0 ≤ v.1.toInt ∧ v.1.toInt < (kys K (krf K)).length ∧ rk K (krf K) v.1 = k))) (fun v => (33 - v.2.1.toInt).toNat) ⟨by show (0 : Int) ≤ 0; decide, by show (0 : Int) ≤ _; omega, ho, Or.inl ⟨rfl, fun j hj => absurd hj (Nat.not_lt_zero _)⟩⟩ (by show (33 - (0 : Int)).toNat < 4000; decide) ?_
 rintro ⟨x, i, p⟩ ⟨i0, i1, hp, hx⟩
 simp only at i0 i1 hp hx
 unfold B3_493
 simp only
 apply okP.ite <;> intro d
 ·rw [i_lt, h4] at d
  have e1 : (i + 1).toInt = i.toInt + 1 := inc1 (by omega)
  have en : (i + 1).toInt.toNat = i.toInt.toNat + 1 := by omega
  apply okP.bind
  refine okP.mono (rowKey_ok wf hp i) ?_
  rintro ⟨n2, q2⟩ ⟨c3, s2⟩
  simp only at c3 s2 ⊢
  apply okP.some
  refine ⟨⟨by simp only; omega, by simp only; omega, s2, ?_⟩, by simp only; omega⟩
  simp only [en]
  by_cases c : n2 = k
  ·rw [if_pos c]
   exact Or.inr ⟨i0, d, by rw [← c3, c]⟩
  ·rw [if_neg c]
   rcases hx with ⟨h1, h2⟩ | h
   ·refine Or.inl ⟨h1, fun j hj q => ?_⟩
    by_cases e : j = i.toInt.toNat
    ·rw [e] at q
     exact c (by rw [c3, rk_get i0 q])
    ·exact h2 j (by omega) q
   ·exact Or.inr h
 ·rw [i_lt, h4] at d
  apply okP.some
  refine ⟨?_, hp⟩
  rcases hx with ⟨h1, h2⟩ | h
  ·refine Or.inl ⟨h1, not_mem_k (fun j q => ?_)⟩
   obtain ⟨l, _⟩ := List.getElem?_eq_some_iff.1 q
   exact h2 j (by omega) q
  ·exact Or.inr h
theorem fc_ok {K : Core} (wf : WF K) {L : Int32} {x2 : Int64} {x4 x5 x7 x8 x10 k x13 : Int32} (h5 : x5.toInt = (kys K (kcf K)).length) {o : Ob} (ho : Sh K L o) : okP (loopN (B3_524 x2 x4 x5 x7 x8 x10 k x13) qN (-1, 0, o)) (fun e => Fi K (kcf K) k e.1 ∧ Sh K L e.2) := by
 have kl := kys_len wf (kcf K)
 refine okP.loop (fun v => 0 ≤ v.2.1.toInt ∧ v.2.1.toInt ≤ (kys K (kcf K)).length ∧ Sh K L v.2.2 ∧ ((v.1 = -1 ∧ ∀ j : Nat, j < v.2.1.toInt.toNat → (kys K (kcf K))[j]? ≠ some k) ∨ (0 ≤ v.1.toInt ∧ v.1.toInt < (kys K (kcf K)).length ∧ rk K (kcf K) v.1 = k))) (fun v => (33 - v.2.1.toInt).toNat) ⟨by show (0 : Int) ≤ 0; decide, by show (0 : Int) ≤ _; omega, ho, Or.inl ⟨rfl, fun j hj => absurd hj (Nat.not_lt_zero _)⟩⟩ (by show (33 - (0 : Int)).toNat < 4000; decide) ?_
 rintro ⟨x, i, p⟩ ⟨i0, i1, hp, hx⟩
 simp only at i0 i1 hp hx
 unfold B3_524
 simp only
 apply okP.ite <;> intro d
 ·rw [i_lt, h5] at d
  have e1 : (i + 1).toInt = i.toInt + 1 := inc1 (by omega)
  have en : (i + 1).toInt.toNat = i.toInt.toNat + 1 := by omega
  apply okP.bind
  refine okP.mono (colKey_ok wf hp i) ?_
  rintro ⟨n2, q2⟩ ⟨c3, s2⟩
  simp only at c3 s2 ⊢
  apply okP.some
  refine ⟨⟨by simp only; omega, by simp only; omega, s2, ?_⟩, by simp only; omega⟩
  simp only [en]
  by_cases c : n2 = k
  ·rw [if_pos c]
   exact Or.inr ⟨i0, d, by rw [← c3, c]⟩
  ·rw [if_neg c]
   rcases hx with ⟨h1, h2⟩ | h
   ·refine Or.inl ⟨h1, fun j hj q => ?_⟩
    by_cases e : j = i.toInt.toNat
    ·rw [e] at q
     exact c (by rw [c3, rk_get i0 q])
    ·exact h2 j (by omega) q
   ·exact Or.inr h
 ·rw [i_lt, h5] at d
  apply okP.some
  refine ⟨?_, hp⟩
  rcases hx with ⟨h1, h2⟩ | h
  ·refine Or.inl ⟨h1, not_mem_k (fun j q => ?_)⟩
   obtain ⟨l, _⟩ := List.getElem?_eq_some_iff.1 q
   exact h2 j (by omega) q
  ·exact Or.inr h
theorem grp_nor {K : Core} {a w b : Int32} (h : a ∉ kys K (krf K)) : grp K 1 a w b = (0, 0) := by
 rw [grp_c, cnd_row]
 obtain ⟨h1, h2⟩ := cC_nil (K := K) _ (key_none (c := cnd K 0 0 w b) cnd_fil h)
 rw [h1, h2]
theorem grp_noc {K : Core} {u a b : Int32} (h : b ∉ kys K (kcf K)) : grp K u a 1 b = (0, 0) := by
 rw [grp_c, cnd_col]
 obtain ⟨h1, h2⟩ := cC_nil (K := K) _ (key_none (c := cnd K u a 0 0) cnd_fil h)
 rw [h1, h2]
theorem grp_zero {K : Core} (wf : WF K) {u a w b : Int32} (h : ¬ (0 : Int32) < (grp K u a w b).2) : (grp K u a w b).1 = 0 := by
 rw [grp_c] at h ⊢
 have e : vC (gV K) (cnd K u a w b) (nR K) = [] := by
  by_cases e : vC (gV K) (cnd K u a w b) (nR K) = []
  ·exact e
  ·exact absurd ((cC_pos wf _).2 e) h
 exact (cC_nil _ e).2
theorem grp_rowpos {K : Core} (wf : WF K) {x k : Int32} (h0 : 0 ≤ x.toInt) (h1 : x.toInt < (kys K (krf K)).length) (e : rk K (krf K) x = k) : (0 : Int32) < (grp K 1 k 0 0).2 := by
 rw [grp_c]
 apply (cC_pos wf _).2
 have g : (kys K (krf K))[x.toInt.toNat]? = some ((kys K (krf K))[x.toInt.toNat]'(by omega)) := List.getElem?_eq_getElem (by omega)
 have e2 := rk_get h0 g
 rw [e] at e2
 obtain ⟨r, r1, r2, r3⟩ := key_mem.1 (show k ∈ keyN K (krf K) (nR K) from e2 ▸ List.getElem_mem _)
 intro q
 have : gV K r ∈ vC (gV K) (cnd K 1 k 0 0) (nR K) := vC_mem.2 ⟨r, r1, by unfold cnd; rw [r2, r3]; simp, rfl⟩
 rw [q] at this
 cases this
theorem grp_colpos {K : Core} (wf : WF K) {x k : Int32} (h0 : 0 ≤ x.toInt) (h1 : x.toInt < (kys K (kcf K)).length) (e : rk K (kcf K) x = k) : (0 : Int32) < (grp K 0 0 1 k).2 := by
 rw [grp_c]
 apply (cC_pos wf _).2
 have g : (kys K (kcf K))[x.toInt.toNat]? = some ((kys K (kcf K))[x.toInt.toNat]'(by omega)) := List.getElem?_eq_getElem (by omega)
 have e2 := rk_get h0 g
 rw [e] at e2
 obtain ⟨r, r1, r2, r3⟩ := key_mem.1 (show k ∈ keyN K (kcf K) (nR K) from e2 ▸ List.getElem_mem _)
 intro q
 have : gV K r ∈ vC (gV K) (cnd K 0 0 1 k) (nR K) := vC_mem.2 ⟨r, r1, by unfold cnd; rw [r2, r3]; simp, rfl⟩
 rw [q] at this
 cases this
def cdw9 (x : Int64) (s : Int32) : Int32 := ((XT.ushrL x ((9 : Int32) * s)) &&& (511 : Int64)).toInt32
def kAs (K : Core) (s : Nat) : Int32 := ((kFa K)[s]?).getD 0
def kBs (K : Core) (s : Nat) : Int32 := ((kFb K)[s]?).getD 0
def SlK (K : Core) (x : Int64) : Prop := ∀ s : Int32, 0 ≤ s.toInt → s.toInt < 6 → cdw9 x s &&& 7 = mo K s.toInt.toNat ∧ (mo K s.toInt.toNat = 0 ∨ ((mo K s.toInt.toNat = 1 ∨ mo K s.toInt.toNat = 2 ∨ mo K s.toInt.toNat = 3 ∨ mo K s.toInt.toNat = 4) ∧ (XT.ushr (cdw9 x s) 3 &&& 7) - 4 = kAs K s.toInt.toNat ∧ (XT.ushr (cdw9 x s) 6 &&& 7) - 4 = kBs K s.toInt.toNat))
theorem fo_ok {K : Core} (wf : WF K) {L : Int32} {x2 : Int64} {x4 x5 x7 : Int32} (n6 : kN K = 6) (sl : SlK K x2) (h4 : x4.toInt = (kys K (krf K)).length) (h5 : x5.toInt = (kys K (kcf K)).length) (h7 : x7 = (pv K (-1) (-1)).2) {o : Ob} (ho : Sh K L o) : okP (loopN (B3_425 x2 x4 x5 x7) qN (0, o)) (fun e => e.1 = 1 ∧ Sh K L e.2) := by
 have z0 : (0 : Int32).toInt = 0 := rfl
 have z6 : (6 : Int32).toInt = 6 := rfl
 have kn : (kN K).toInt = 6 := by rw [n6]; rfl
 refine okP.loop (fun v => 0 ≤ v.1.toInt ∧ v.1.toInt ≤ 6 ∧ Sh K L v.2) (fun v => (6 - v.1.toInt).toNat) ⟨by show (0 : Int) ≤ 0; decide, by show (0 : Int) ≤ 6; decide, ho⟩ (by show (6 - (0 : Int)).toNat < 4000; decide) ?_
 rintro ⟨s, p⟩ ⟨i0, i1, hp⟩
 simp only at i0 i1 hp
 unfold B3_425
 simp only
 by_cases d : s < 6
 ·rw [if_pos d]
  rw [i_lt, z6] at d
  have e1 : (s + 1).toInt = s.toInt + 1 := inc1 (by omega)
  obtain ⟨m1, m2⟩ := sl s i0 d
  obtain ⟨cd, hcd⟩ : ∃ cd, cd = cdw9 x2 s := ⟨_, rfl⟩
  have ecd : ((XT.ushrL x2 ((9 : Int32) * s)) &&& (511 : Int64)).toInt32 = cd := hcd.symm
  rw [← hcd] at m1 m2
  rw [ecd, m1]
  clear ecd hcd
  have nx : ∀ q, Sh K L q → okP (J3_730 q x2 x4 x5 x7 s) (fun r => Sum.elim (fun e => e.1 = 1 ∧ Sh K L e.2) (fun v => (0 ≤ v.1.toInt ∧ v.1.toInt ≤ 6 ∧ Sh K L v.2) ∧ (6 - v.1.toInt).toNat < (6 - s.toInt).toNat) r) := by
   intro q hq
   unfold J3_730
   exact okP.some ⟨⟨by simp only; omega, by simp only; omega, hq⟩, by simp only; omega⟩
  have en : ∀ q x15 x16, Sh K L q → x15 = fnd K s.toInt.toNat → x16 = (fm K s.toInt.toNat).1 → okP (J3_706 q x2 x4 x5 x7 s x15 x16) (fun r => Sum.elim (fun e => e.1 = 1 ∧ Sh K L e.2) (fun v => (0 ≤ v.1.toInt ∧ v.1.toInt ≤ 6 ∧ Sh K L v.2) ∧ (6 - v.1.toInt).toNat < (6 - s.toInt).toNat) r) := by
   intro q x15 x16 hq e15 e16
   unfold J3_706
   apply okP.bind
   refine okP.mono (ffnd_ok wf hq s) ?_
   rintro ⟨n2, q2⟩ ⟨c3, s2⟩
   rw [if_pos ⟨i0, by omega⟩] at c3
   simp only at c3 s2 ⊢
   rw [if_pos (by rw [c3, e15])]
   apply okP.bind
   refine okP.mono (fval_ok wf s2 s) ?_
   rintro ⟨n3, q3⟩ ⟨c4, s3⟩
   rw [if_pos ⟨i0, by omega⟩] at c4
   simp only at c4 s3 ⊢
   rw [if_pos (by rw [c4, e16])]
   exact nx q3 s3
  rcases m2 with m0 | ⟨mm, kA1, kB1⟩
  ·rw [if_pos m0]
   exact nx p hp
  ·have mn : ¬ mo K s.toInt.toNat = 0 := by rcases mm with h | h | h | h <;> rw [h] <;> decide
   rw [if_neg mn, kA1, kB1]
   apply okP.bind
   refine okP.mono (fr_ok wf h4 hp) ?_
   rintro ⟨ri, q1⟩ ⟨f1, s1⟩
   simp only at f1 s1 ⊢
   apply okP.bind
   refine okP.mono (fc_ok wf h5 s1) ?_
   rintro ⟨cj, q2⟩ ⟨f2, s2⟩
   simp only at f2 s2 ⊢
   have fmE : fm K s.toInt.toNat = grp K (if mo K s.toInt.toNat = 1 then 1 else if mo K s.toInt.toNat = 2 then 1 else 0) (kAs K s.toInt.toNat) (if mo K s.toInt.toNat = 1 then 1 else if mo K s.toInt.toNat = 3 then 1 else 0) (kBs K s.toInt.toNat) := by
    unfold fm
    rw [if_neg mn]; rfl
   have neg1 : ∀ {f k x : Int32}, Fi K f k x → x < 0 → k ∉ kys K f := by
    rintro f k x (h | h) q
    ·exact h.2
    ·rw [i_lt, z0] at q; omega
   have pos1 : ∀ {f k x : Int32}, Fi K f k x → ¬ x < 0 → 0 ≤ x.toInt ∧ x.toInt < (kys K f).length ∧ rk K f x = k := by
    rintro f k x (h | h) q
    ·rw [h.1] at q; exact absurd (by decide) q
    ·exact h
   rcases mm with h | h | h | h
   ·rw [h] at fmE ⊢
    rw [if_pos rfl]
    have fmE' : fm K s.toInt.toNat = grp K 1 (kAs K s.toInt.toNat) 1 (kBs K s.toInt.toNat) := fmE
    have zero : fm K s.toInt.toNat = (0, 0) → okP (J3_583 q2 x2 x4 x5 x7 s ri cj) (fun r => Sum.elim (fun e => e.1 = 1 ∧ Sh K L e.2) (fun v => (0 ≤ v.1.toInt ∧ v.1.toInt ≤ 6 ∧ Sh K L v.2) ∧ (6 - v.1.toInt).toNat < (6 - s.toInt).toNat) r) := by
     intro ez
     unfold J3_583 J3_584 J3_603
     rw [if_pos rfl]
     exact en q2 0 0 s2 (by unfold fnd; rw [ez]; rfl) (by rw [ez])
    by_cases n1 : ri < 0
    ·rw [if_pos n1]
     exact zero (by rw [fmE', grp_nor (neg1 f1 n1)])
    rw [if_neg n1]
    by_cases n2 : cj < 0
    ·rw [if_pos n2]
     exact zero (by rw [fmE', grp_noc (neg1 f2 n2)])
    rw [if_neg n2]
    obtain ⟨a1, a2, a3⟩ := pos1 f1 n1
    obtain ⟨b1, b2, b3⟩ := pos1 f2 n2
    have pe : pv K ri cj = fm K s.toInt.toNat := by
     rw [pv_in (Or.inr ⟨a1, a2⟩) (Or.inr ⟨b1, b2⟩), if_neg (ne_m1 a1), if_neg (ne_m1 a1), if_neg (ne_m1 b1), if_neg (ne_m1 b1), a3, b3, fmE']
    apply okP.bind
    refine okP.mono (count_ok wf s2 ri cj) ?_
    rintro ⟨n3, q3⟩ ⟨c3, s3⟩
    simp only at c3 s3 ⊢
    rw [pe] at c3
    unfold J3_603
    by_cases g : (0 : Int32) < n3
    ·rw [if_pos g, if_neg (by decide)]
     apply okP.bind
     refine okP.mono (value_ok wf s3 ri cj) ?_
     rintro ⟨n4, q4⟩ ⟨c4, s4⟩
     simp only at c4 s4 ⊢
     rw [pe] at c4
     exact en q4 1 n4 s4 (by unfold fnd; rw [← c3, if_pos g]) c4
    ·rw [if_neg g, if_pos rfl]
     refine en q3 0 0 s3 (by unfold fnd; rw [← c3, if_neg g]) ?_
     rw [c3, fmE'] at g
     rw [fmE', grp_zero wf g]
   ·rw [h] at fmE ⊢
    rw [if_neg (by decide), if_pos rfl]
    have fmE' : fm K s.toInt.toNat = grp K 1 (kAs K s.toInt.toNat) 0 0 := fmE
    unfold J3_642
    by_cases n1 : ri < 0
    ·rw [if_pos n1, if_pos rfl]
     have ez : fm K s.toInt.toNat = (0, 0) := by rw [fmE', grp_nor (neg1 f1 n1)]
     exact en q2 0 0 s2 (by unfold fnd; rw [ez]; rfl) (by rw [ez])
    ·rw [if_neg n1, if_neg (by decide)]
     obtain ⟨a1, a2, a3⟩ := pos1 f1 n1
     have pe : pv K ri (-1) = fm K s.toInt.toNat := by
      rw [pv_in (Or.inr ⟨a1, a2⟩) (Or.inl rfl), if_neg (ne_m1 a1), if_neg (ne_m1 a1), a3, fmE']; rfl
     apply okP.bind
     refine okP.mono (value_ok wf s2 ri (-1)) ?_
     rintro ⟨n4, q4⟩ ⟨c4, s4⟩
     simp only at c4 s4 ⊢
     rw [pe] at c4
     exact en q4 1 n4 s4 (by unfold fnd; rw [fmE', if_pos (grp_rowpos wf a1 a2 a3)]) c4
   ·rw [h] at fmE ⊢
    rw [if_neg (by decide), if_neg (by decide), if_pos rfl]
    have fmE' : fm K s.toInt.toNat = grp K 0 0 1 (kBs K s.toInt.toNat) := fmE
    unfold J3_681
    by_cases n1 : cj < 0
    ·rw [if_pos n1, if_pos rfl]
     have ez : fm K s.toInt.toNat = (0, 0) := by rw [fmE', grp_noc (neg1 f2 n1)]
     exact en q2 0 0 s2 (by unfold fnd; rw [ez]; rfl) (by rw [ez])
    ·rw [if_neg n1, if_neg (by decide)]
     obtain ⟨a1, a2, a3⟩ := pos1 f2 n1
     have pe : pv K (-1) cj = fm K s.toInt.toNat := by
      rw [pv_in (Or.inl rfl) (Or.inr ⟨a1, a2⟩), if_neg (ne_m1 a1), if_neg (ne_m1 a1), a3, fmE']; rfl
     apply okP.bind
     refine okP.mono (value_ok wf s2 (-1) cj) ?_
     rintro ⟨n4, q4⟩ ⟨c4, s4⟩
     simp only at c4 s4 ⊢
     rw [pe] at c4
     exact en q4 1 n4 s4 (by unfold fnd; rw [fmE', if_pos (grp_colpos wf a1 a2 a3)]) c4
   ·rw [h] at fmE ⊢
    rw [if_neg (by decide), if_neg (by decide), if_neg (by decide)]
    have fmE' : fm K s.toInt.toNat = grp K 0 0 0 0 := fmE
    have pe : pv K (-1) (-1) = fm K s.toInt.toNat := by
     rw [pv_in (Or.inl rfl) (Or.inl rfl), fmE']; rfl
    apply okP.bind
    refine okP.mono (value_ok wf s2 (-1) (-1)) ?_
    rintro ⟨n4, q4⟩ ⟨c4, s4⟩
    simp only at c4 s4 ⊢
    rw [pe] at c4 h7
    exact en q4 _ n4 s4 (by unfold fnd; rw [h7]) c4
 ·rw [if_neg d]
  exact okP.some ⟨rfl, hp⟩
theorem check_ok {K : Core} (wf : WF K) {L : Int32} (ha : kag K = 0 ∨ kag K = 1 ∨ kag K = 2 ∨ kag K = 3) {x2 : Int64} (n6 : kN K = 6) (sl : SlK K x2) {o : Ob} (ho : Sh K L o) : okP (F3 o (kag K) x2) (fun r => r.1 = 1 ∧ Sh K L r.2) := by
 unfold F3
 apply okP.bind
 refine okP.mono (rkc_ok wf ho) ?_
 rintro ⟨n1, q1⟩ ⟨c1, s1⟩
 simp only at c1 s1 ⊢
 apply okP.bind
 refine okP.mono (ckc_ok wf s1) ?_
 rintro ⟨n2, q2⟩ ⟨c2, s2⟩
 simp only at c2 s2 ⊢
 apply okP.bind
 refine okP.mono (sr_ok wf c1 s2) ?_
 rintro _ ⟨q3, s3, rfl⟩
 apply okP.bind
 refine okP.mono (sc_ok wf c2 s3) ?_
 rintro _ ⟨q4, s4, rfl⟩
 apply okP.bind
 refine okP.mono (rows_ok wf ha c1 c2 s4) ?_
 rintro _ ⟨q5, s5, rfl⟩
 apply okP.bind
 refine okP.mono (cols_ok wf ha c1 c2 s5) ?_
 rintro _ ⟨q6, s6, rfl⟩
 apply okP.bind
 refine okP.mono (fl_ok wf s6) ?_
 rintro fl efl
 apply okP.bind
 refine okP.mono (count_ok wf s6 (-1) (-1)) ?_
 rintro ⟨n7, q7⟩ ⟨c7, s7⟩
 simp only at c7 s7 ⊢
 rw [if_pos (by rw [c7, efl])]
 apply okP.bind
 refine okP.mono (fo_ok wf n6 sl c1 c2 c7 s7) (fun e he => okP.some he)
def put9 (x V : Int64) (s : Int32) : Int64 := (x &&& (((511 : Int64) <<< (((9 : Int32) * s).toInt64 &&& 63)) ^^^ (-1 : Int64))) ||| (V <<< (((9 : Int32) * s).toInt64 &&& 63))
theorem nine {s : Int32} (h0 : 0 ≤ s.toInt) (h1 : s.toInt < 6) : ((9 : Int32) * s).toInt = (9 * s.toInt.toNat : Nat) := by
 have z9 : (9 : Int32).toInt = 9 := rfl
 rw [i_mul (by rw [z9]; omega) (by rw [z9]; omega), z9]; omega
theorem put9_ok (x V : Int64) (hV : V.toBitVec.toNat < 512) {s t : Int32} (s0 : 0 ≤ s.toInt) (s1 : s.toInt < 6) (t0 : 0 ≤ t.toInt) (t1 : t.toInt < 6) : (XT.ushrL (put9 x V s) ((9 : Int32) * t)) &&& (511 : Int64) = if s.toInt = t.toInt then V else (XT.ushrL x ((9 : Int32) * t)) &&& (511 : Int64) := by
 have n1 := nine s0 s1
 have n2 := nine t0 t1
 apply Int64.toBitVec_inj.1
 have e1 : ((XT.ushrL (put9 x V s) ((9 : Int32) * t)) &&& (511 : Int64)).toBitVec = ((((x.toBitVec &&& ((BitVec.ofNat 64 (2 ^ 9 - 1) <<< (9 * s.toInt.toNat)) ^^^ (-1#64))) ||| (V.toBitVec <<< (9 * s.toInt.toNat))) >>> (9 * t.toInt.toNat)) &&& BitVec.ofNat 64 (2 ^ 9 - 1)) := by
  show (XT.ushrL (put9 x V s) ((9 : Int32) * t)).toBitVec &&& 511#64 = _
  rw [ushr64 _ n2 (by omega)]
  show (((x.toBitVec &&& (((511 : Int64) <<< (((9 : Int32) * s).toInt64 &&& 63)).toBitVec ^^^ (-1#64))) ||| (V <<< (((9 : Int32) * s).toInt64 &&& 63)).toBitVec) >>> _) &&& 511#64 = _
  rw [shl64 _ n1 (by omega), shl64 _ n1 (by omega)]
  rfl
 rw [e1, putB 9 x.toBitVec V.toBitVec hV _ _ (by omega) (by omega) (by omega) (by omega)]
 by_cases c : s.toInt = t.toInt
 ·rw [if_pos c, if_pos (by rw [c])]
 ·rw [if_neg c, if_neg (by omega)]
  show _ = (XT.ushrL x ((9 : Int32) * t)).toBitVec &&& 511#64
  rw [ushr64 _ n2 (by omega)]
def cV (m a b : Int32) : Int64 := (m.toInt64 ||| (a.toInt64 <<< ((3 : Int32).toInt64 &&& 63))) ||| (b.toInt64 <<< ((6 : Int32).toInt64 &&& 63))
theorem cV1 : ∀ m, m < 8 → ∀ a, a < 8 → ∀ b, b < 8 → (cV (Int32.ofInt (m : Nat)) (Int32.ofInt (a : Nat)) (Int32.ofInt (b : Nat))).toBitVec.toNat < 512 := by decide +kernel
theorem cV2 : ∀ m, m < 8 → ∀ a, a < 8 → ∀ b, b < 8 → (cV (Int32.ofInt (m : Nat)) (Int32.ofInt (a : Nat)) (Int32.ofInt (b : Nat))).toInt32 &&& 7 = Int32.ofInt (m : Nat) := by decide +kernel
theorem cV3 : ∀ m, m < 8 → ∀ a, a < 8 → ∀ b, b < 8 → XT.ushr (cV (Int32.ofInt (m : Nat)) (Int32.ofInt (a : Nat)) (Int32.ofInt (b : Nat))).toInt32 3 &&& 7 = Int32.ofInt (a : Nat) := by decide +kernel
theorem cV4 : ∀ m, m < 8 → ∀ a, a < 8 → ∀ b, b < 8 → XT.ushr (cV (Int32.ofInt (m : Nat)) (Int32.ofInt (a : Nat)) (Int32.ofInt (b : Nat))).toInt32 6 &&& 7 = Int32.ofInt (b : Nat) := by decide +kernel
theorem cV_ok {m a b : Int32} (hm : 0 ≤ m.toInt ∧ m.toInt < 8) (ha : 0 ≤ a.toInt ∧ a.toInt < 8) (hb : 0 ≤ b.toInt ∧ b.toInt < 8) : (cV m a b).toBitVec.toNat < 512 ∧ (cV m a b).toInt32 &&& 7 = m ∧ XT.ushr (cV m a b).toInt32 3 &&& 7 = a ∧ XT.ushr (cV m a b).toInt32 6 &&& 7 = b := by
 have em : m = Int32.ofInt (m.toInt.toNat : Nat) := ofI (by omega)
 have ea : a = Int32.ofInt (a.toInt.toNat : Nat) := ofI (by omega)
 have eb : b = Int32.ofInt (b.toInt.toNat : Nat) := ofI (by omega)
 have h1 := cV1 m.toInt.toNat (by omega) a.toInt.toNat (by omega) b.toInt.toNat (by omega)
 have h2 := cV2 m.toInt.toNat (by omega) a.toInt.toNat (by omega) b.toInt.toNat (by omega)
 have h3 := cV3 m.toInt.toNat (by omega) a.toInt.toNat (by omega) b.toInt.toNat (by omega)
 have h4 := cV4 m.toInt.toNat (by omega) a.toInt.toNat (by omega) b.toInt.toNat (by omega)
 rw [← em, ← ea, ← eb] at h1 h2 h3 h4
 exact ⟨h1, h2, h3, h4⟩
theorem SlK.for {K : Core} (wf : WF K) {x : Int64} (h : SlK K x) {s m a b : Int32} (s0 : 0 ≤ s.toInt) (s1 : s.toInt < 6) (hm : 0 ≤ m.toInt ∧ m.toInt ≤ 4) (ha : 0 ≤ a.toInt ∧ a.toInt < 8) (hb : 0 ≤ b.toInt ∧ b.toInt < 8) : SlK (kFor K s.toInt.toNat m (a - 4) (b - 4)) (put9 x (cV m a b) s) := by
 intro t t0 t1
 obtain ⟨v1, v2, v3, v4⟩ := cV_ok (m := m) ⟨hm.1, by omega⟩ ha hb
 have pk := put9_ok x (cV m a b) v1 s0 s1 t0 t1
 have l1 := wf.m
 have l2 := wf.a
 have l3 := wf.c
 by_cases e : s.toInt = t.toInt
 ·rw [if_pos e] at pk
  have c9 : cdw9 (put9 x (cV m a b) s) t = (cV m a b).toInt32 := by unfold cdw9; rw [pk]
  have mm : mo (kFor K s.toInt.toNat m (a - 4) (b - 4)) t.toInt.toNat = m := by
   show (((kM K).set s.toInt.toNat m)[t.toInt.toNat]?).getD 0 = m
   rw [e, List.getElem?_set_self (by omega)]; rfl
  have ma : kAs (kFor K s.toInt.toNat m (a - 4) (b - 4)) t.toInt.toNat = a - 4 := by
   show (((kFa K).set s.toInt.toNat (a - 4))[t.toInt.toNat]?).getD 0 = _
   rw [e, List.getElem?_set_self (by omega)]; rfl
  have mb : kBs (kFor K s.toInt.toNat m (a - 4) (b - 4)) t.toInt.toNat = b - 4 := by
   show (((kFb K).set s.toInt.toNat (b - 4))[t.toInt.toNat]?).getD 0 = _
   rw [e, List.getElem?_set_self (by omega)]; rfl
  rw [c9, mm, ma, mb, v2, v3, v4]
  refine ⟨rfl, ?_⟩
  have five : m = 0 ∨ m = 1 ∨ m = 2 ∨ m = 3 ∨ m = 4 := small_cases (P := fun m => m = 0 ∨ m = 1 ∨ m = 2 ∨ m = 3 ∨ m = 4) hm.1 (n := 5) (by omega) (by decide)
  rcases five with q | q
  ·exact Or.inl q
  ·exact Or.inr ⟨q, rfl, rfl⟩
 ·rw [if_neg e] at pk
  have c9 : cdw9 (put9 x (cV m a b) s) t = cdw9 x t := by unfold cdw9; rw [pk]
  have mm : mo (kFor K s.toInt.toNat m (a - 4) (b - 4)) t.toInt.toNat = mo K t.toInt.toNat := by
   show (((kM K).set s.toInt.toNat m)[t.toInt.toNat]?).getD 0 = _
   rw [List.getElem?_set_ne (by omega)]; rfl
  have ma : kAs (kFor K s.toInt.toNat m (a - 4) (b - 4)) t.toInt.toNat = kAs K t.toInt.toNat := by
   show (((kFa K).set s.toInt.toNat (a - 4))[t.toInt.toNat]?).getD 0 = _
   rw [List.getElem?_set_ne (by omega)]; rfl
  have mb : kBs (kFor K s.toInt.toNat m (a - 4) (b - 4)) t.toInt.toNat = kBs K t.toInt.toNat := by
   show (((kFb K).set s.toInt.toNat (b - 4))[t.toInt.toNat]?).getD 0 = _
   rw [List.getElem?_set_ne (by omega)]; rfl
  rw [c9, mm, ma, mb]
  exact h t t0 t1
def Inv (a : Int32) (x : Int64) (o : Ob) : Prop := ∃ K L, Sh K L o ∧ WF K ∧ kN K = 6 ∧ kag K = a ∧ (a = 0 ∨ a = 1 ∨ a = 2 ∨ a = 3) ∧ SlK K x
theorem fin {s : List Int32} {a : Int32} {x : Int64} {o : Ob} (h : Inv a x o) : sFit s (H0 s o) := by
 obtain ⟨K, L, hS, wf, _⟩ := h
 obtain ⟨b1, b2, b3, b4, b5, b6, b7, b8⟩ := siz hS wf
 refine ⟨by show 10 - 1 ≤ _; decide, ?_⟩
 simp only [H0, H0v, qhs, qsz, b1, b2, b3, b4, b5, b6, b7, b8]
 simp only [cN, room_1]
 omega
theorem four {a : Int32} (h : 0 ≤ a.toInt ∧ a.toInt ≤ 3) : a = 0 ∨ a = 1 ∨ a = 2 ∨ a = 3 :=
 small_cases (P := fun x => x = 0 ∨ x = 1 ∨ x = 2 ∨ x = 3) h.1 (n := 4) (by omega) (by decide)
theorem cell_ok {s : List Int32} (hs : s.length ≤ 260) {k : Int32} (h0 : 0 ≤ k.toInt) : ∃ y, F1 s k = some y := by
 have hl := len_i (n := s.length) (by omega)
 unfold F1
 by_cases c : k < s.length.toInt32
 ·rw [if_pos c]
  rw [i_lt, hl] at c
  rw [aget_at (n := k.toInt.toNat) (by omega) (by omega)]
  exact ⟨_, rfl⟩
 ·rw [if_neg c]
  exact ⟨_, rfl⟩
theorem subadd (x : Int32) : x - 4 + 4 = x := by
 apply Int32.toBitVec_inj.1
 show x.toBitVec - 4#32 + 4#32 = _
 exact BitVec.sub_add_cancel _ _
theorem turn {s : List Int32} (hs : s.length ≤ 260) {a t : Int32} {x : Int64} {o : Ob} (h : Inv a x o) (h1 : 0 ≤ t.toInt) (h2 : t.toInt ≤ 265) : okP (B0_36 s (a, x, t, o)) (fun r => Sum.elim (fun e => e.1 = 1 ∧ sFit s e.2) (fun w => (0 ≤ w.2.2.1.toInt ∧ w.2.2.1.toInt ≤ 265 ∧ Inv w.1 w.2.1 w.2.2.2) ∧ (300 - w.2.2.1.toInt).toNat < (300 - t.toInt).toNat) r) := by
 have hl := len_i (n := s.length) (by omega)
 have z0 : (0 : Int32).toInt = 0 := rfl
 have z1 : (1 : Int32).toInt = 1 := rfl
 have z2 : (2 : Int32).toInt = 2 := rfl
 have z3 : (3 : Int32).toInt = 3 := rfl
 have z4 : (4 : Int32).toInt = 4 := rfl
 have z6 : (6 : Int32).toInt = 6 := rfl
 have z7 : (7 : Int32).toInt = 7 := rfl
 have a1 : (t + 1).toInt = t.toInt + 1 := inc1 (by omega)
 have a2 : (t + 2).toInt = t.toInt + 2 := by rw [i_add (by omega) (by omega), z2]
 have a3 : (t + 3).toInt = t.toInt + 3 := by rw [i_add (by omega) (by omega), z3]
 have a4 : (t + 4).toInt = t.toInt + 4 := by rw [i_add (by omega) (by omega), z4]
 unfold B0_36
 simp only
 refine okP.ite (fun c => ?_) (fun _ => okP.some ⟨rfl, fin h⟩)
 rw [i_lt, hl] at c
 have next : ∀ b y p, Inv b y p → okP (J0_324 s p b y t) (fun r => Sum.elim (fun e => e.1 = 1 ∧ sFit s e.2) (fun w => (0 ≤ w.2.2.1.toInt ∧ w.2.2.1.toInt ≤ 265 ∧ Inv w.1 w.2.1 w.2.2.2) ∧ (300 - w.2.2.1.toInt).toNat < (300 - t.toInt).toNat) r) := by
  rintro b y p ⟨K, L, hS, wf, n6, rfl, b4, sl⟩
  unfold J0_324
  apply okP.bind
  refine okP.mono (check_ok wf b4 n6 sl hS) ?_
  rintro ⟨x, q⟩ ⟨hx, hq⟩
  simp only at hx hq ⊢
  subst hx
  rw [if_neg (by decide)]
  exact okP.some ⟨⟨by simp only; omega, by simp only; omega, K, L, hq, wf, n6, rfl, b4, sl⟩, by simp only; omega⟩
 obtain ⟨K, L, hS, wf, n6, ea, b4, sl⟩ := h
 have r32 := wf.r
 have kn : (kN K).toInt = 6 := by rw [n6]; rfl
 obtain ⟨y0, g0⟩ := cell_ok hs h1
 obtain ⟨y1, g1⟩ := cell_ok hs (k := t + 1) (by omega)
 obtain ⟨y2, g2⟩ := cell_ok hs (k := t + 2) (by omega)
 obtain ⟨y3, g3⟩ := cell_ok hs (k := t + 3) (by omega)
 rw [g0, g1, g2, g3]
 simp only [Option.bind_some]
 have setc : ∀ u v w : Int32, okP ((F15 o u v w).bind fun r => J0_324 s r.2 a x t) (fun r => Sum.elim (fun e => e.1 = 1 ∧ sFit s e.2) (fun w => (0 ≤ w.2.2.1.toInt ∧ w.2.2.1.toInt ≤ 265 ∧ Inv w.1 w.2.1 w.2.2.2) ∧ (300 - w.2.2.1.toInt).toNat < (300 - t.toInt).toNat) r) := by
  intro u v w
  apply okP.bind
  refine okP.mono (setCell_ok wf hS _ _ _) ?_
  rintro ⟨b, p⟩ hp
  apply next
  split at hp
  ·rename_i q
   obtain ⟨_, L', h1, _⟩ := hp
   exact ⟨_, _, h1, wf.set (by omega), n6, ea, b4, sl⟩
  ·exact ⟨_, _, hp.2, wf, n6, ea, b4, sl⟩
 refine okP.ite (fun d0 => ?_) (fun _ => ?_)
 ·refine okP.ite (fun d1 => setc _ _ _) (fun d1 => ?_)
  refine okP.ite (fun d2 => ?_) (fun d2 => ?_)
  ·apply okP.bind
   refine okP.mono (clearRow_ok wf hS _) ?_
   rintro ⟨b, p⟩ hp
   apply next
   split at hp
   ·rename_i q
    obtain ⟨_, L', h1, _⟩ := hp
    exact ⟨_, _, h1, wf.clr (by omega), n6, ea, b4, sl⟩
   ·exact ⟨_, _, hp.2, wf, n6, ea, b4, sl⟩
  refine okP.ite (fun d3 => ?_) (fun d3 => ?_)
  ·obtain ⟨ag, hag⟩ : ∃ ag, ag = ((XT.ushr y1 (2 : Int32)) &&& (7 : Int32)) - (2 : Int32) := ⟨_, rfl⟩
   rw [← hag]
   apply okP.bind
   refine okP.mono (setPiv_ok wf hS _ _ _ _) ?_
   rintro ⟨b, p⟩ hp
   apply next
   split at hp
   ·rename_i q
    obtain ⟨b1, L', h1, _⟩ := hp
    simp only at b1 h1 ⊢
    subst b1
    have q4 := q.2.2.2
    rw [if_neg (by decide), if_neg (by rw [i_lt, z0]; omega), if_neg (by rw [i_lt, z3]; omega)]
    exact ⟨_, _, h1, wf.piv q.1 q.2.1 q.2.2.1, n6, rfl, four q.2.2.2, sl⟩
   ·obtain ⟨b1, h1⟩ := hp
    simp only at b1 h1 ⊢
    subst b1
    rw [if_pos rfl]
    exact ⟨_, _, h1, wf, n6, ea, b4, sl⟩
  ·have v1 : F14 y3 = some ((y3 &&& 7) - 4) := rfl
   have v2 : F14 (XT.ushr y3 3) = some (((XT.ushr y3 3) &&& 7) - 4) := rfl
   rw [v1, v2]
   simp only [Option.bind_some]
   have k1 := and_rng (x := y1) (m := 7) (by decide)
   have k2 := and_rng (x := y3) (m := 7) (by decide)
   have k3 := and_rng (x := XT.ushr y3 3) (m := 7) (by decide)
   rw [z7] at k1 k2 k3
   rw [subadd, subadd]
   obtain ⟨sl', hsl⟩ : ∃ sl', sl' = y1 &&& (7 : Int32) := ⟨_, rfl⟩
   obtain ⟨md, hmd⟩ : ∃ md, md = (y2 &&& (7 : Int32)) - (1 : Int32) := ⟨_, rfl⟩
   obtain ⟨ra, hra⟩ : ∃ ra, ra = y3 &&& (7 : Int32) := ⟨_, rfl⟩
   obtain ⟨ca, hca⟩ : ∃ ca, ca = (XT.ushr y3 3) &&& (7 : Int32) := ⟨_, rfl⟩
   rw [← hsl, ← hmd, ← hra, ← hca]
   rw [← hsl] at k1
   rw [← hra] at k2
   rw [← hca] at k3
   apply okP.bind
   refine okP.mono (setFor_ok wf hS _ _ _ _) ?_
   rintro ⟨b, p⟩ hp
   apply next
   split at hp
   ·rename_i q
    obtain ⟨b1, h1⟩ := hp
    simp only at b1 h1 ⊢
    subst b1
    rw [if_neg (by decide), if_pos (by rw [i_lt, z6]; omega), if_neg (by rw [i_lt, z0]; omega), if_neg (by rw [i_lt, z4]; omega)]
    exact ⟨_, _, h1, wf.for, n6, ea, b4, sl.for wf (by omega) (by omega) q.2 ⟨k2.1, by omega⟩ ⟨k3.1, by omega⟩⟩
   ·obtain ⟨b1, h1⟩ := hp
    simp only at b1 h1 ⊢
    subst b1
    rw [if_pos rfl]
    exact ⟨_, _, h1, wf, n6, ea, b4, sl⟩
 ·have v1 : F14 y3 = some ((y3 &&& 7) - 4) := rfl
  rw [v1]
  simp only [Option.bind_some]
  exact setc _ _ _
theorem init2 {x : Int32} (h : 0 ≤ x.toInt ∧ x.toInt ≤ 15) : ∃ r : Int32, (4 ≤ r.toInt ∧ r.toInt ≤ 32) ∧ okP (F2 x 6) (fun o => Sh (K0 r 6) 0 o) := by
 have z4 : (4 : Int32).toInt = 4 := rfl
 by_cases c : x < 4
 ·refine ⟨4, by decide, ?_⟩
  have e : F2 x 6 = F2 4 6 := by
   unfold F2
   rw [if_pos c, if_neg (show ¬ (4 : Int32) < 4 by decide)]
  rw [e]
  exact init_ok (by decide) (by decide)
 ·rw [i_lt, z4] at c
  exact ⟨x, by omega, init_ok (by omega) (by decide)⟩
theorem Sl0 (r : Int32) : SlK (K0 r 6) 0 := by
 have d : ∀ n : Nat, n < 6 → cdw9 0 (Int32.ofInt n) &&& 7 = 0 := by decide
 intro s s0 s1
 have m0 : mo (K0 r 6) s.toInt.toNat = 0 := by
  show ((List.replicate 16 (0 : Int32))[s.toInt.toNat]?).getD 0 = 0
  rw [List.getElem?_replicate]
  split <;> rfl
 rw [m0]
 refine ⟨?_, Or.inl rfl⟩
 have := d s.toInt.toNat (by omega)
 rw [← ofI (x := s) (by omega)] at this
 exact this
theorem law_ok (s : List Int32) (hs : s.length ≤ 260) : ∃ τ, F0 s = some (1, τ) ∧ τ.length - List.length ([Sum.inr (Sum.inl (FieldType.int, s))] : QHeap) ≤ room_1.cells ∧ qhs τ - qhs [Sum.inr (Sum.inl (FieldType.int, s))] ≤ room_1.slots := by
 have : okP (F0 s) (fun e => e.1 = 1 ∧ sFit s e.2) := by
  unfold F0
  obtain ⟨y, hy⟩ := cell_ok hs (k := 0) (by decide)
  rw [hy]
  simp only [Option.bind_some]
  have k := and_rng (x := y) (m := 15) (by decide)
  obtain ⟨r, hr, hi⟩ := init2 (x := y &&& 15) k
  apply okP.bind
  refine okP.mono hi (fun o ho => ?_)
  have w0 := WF0 (r := r) (n := 6) hr (by decide)
  apply okP.bind
  refine okP.mono (check_ok w0 (Or.inl rfl) rfl (Sl0 r) ho) ?_
  rintro ⟨x, q⟩ ⟨hx, hq⟩
  simp only at hx hq ⊢
  subst hx
  rw [if_neg (by decide)]
  apply okP.bind
  refine okP.mono (P := fun e => e.1 = 1 ∧ sFit s e.2) ?_ (fun e he => okP.some he)
  refine okP.loop (fun w => 0 ≤ w.2.2.1.toInt ∧ w.2.2.1.toInt ≤ 265 ∧ Inv w.1 w.2.1 w.2.2.2) (fun v => (300 - v.2.2.1.toInt).toNat) ⟨by show (0 : Int) ≤ 1; decide, by show (1 : Int) ≤ 265; decide, _, _, hq, w0, rfl, rfl, Or.inl rfl, Sl0 r⟩ (by show (300 - (1 : Int)).toNat < 4000; decide) ?_
  rintro ⟨a, x, t, o⟩ ⟨h1, h2, h3⟩
  exact turn hs h3 h1 h2
 obtain ⟨⟨r, τ⟩, q1, q2, q3⟩ := this
 simp only at q2
 subst q2
 exact ⟨τ, q1, q3⟩
set_option maxRecDepth 65536 in
theorem comes_1 {Post : Tables → Env → Array Value → State → Outcome → State → Prop} (hpost : ∀ tb e args s v u, (limb_1_1.after args s (.returned v) u = true ∧ limb_1_2.after args s (.returned v) u = true ∧ True) → FrameEnd s (.returned v) u (Jvm.fieldLocs frame_1_writes args s ++ Jvm.arrayLocs frame_1_arrays args s ++ Jvm.staticLocs frame_1_statics s) 32 768 → Post tb e args s (.returned v) u) :
    ArmFor flags0 classFile x code maxLocals ret World_1 tables_1 room_1 Calls_1 rest_1 Pre_1 Post := by
  intro l hfl _ _ p e ha hc hk s m args below hf hA hF happ hP
  obtain ⟨hcalls, hrest, hpre⟩ := hP
  obtain ⟨-, -, -, hnamed, -, -, -, hat⟩ := (Spec.applies_iff hf).mp happ
  obtain ⟨hg, hn⟩ := and_e (Cond.before_iff.mp (show (Jvm.Cond.and given_1 narrow_1).before args s = true from hpre))
  obtain ⟨g0, g1⟩ := and_e hg
  obtain ⟨w0, rfl⟩ : ∃ w0 : Value, args = #[w0] := by
    have hs : args.size = 1 := by simpa [Cond.value, given_1] using g0
    obtain ⟨L⟩ := args
    match L, hs with
    | [w0], _ => exact ⟨w0, rfl⟩
  have hw := fun d (hd : d ∈ tables_1) => atoms_spec (ws := Jvm.Cond.code x code maxLocals ret :: tables_1) hat d (List.mem_cons_of_mem _ hd)
  have hfit : Fit s := fun {y c} hc i hi => by
    obtain ⟨ha, rfl⟩ := Array.getElem?_eq_some_iff.mp hc
    have q := List.all_eq_true.mp ((Array.all_eq_true_iff_forall_mem.mp hF) _ (Array.getElem_mem ha)) i (List.mem_range.mpr hi)
    simpa [Array.getElem?_eq_getElem hi] using q
  obtain ⟨n1, n2⟩ := and_e hn
  obtain ⟨a, cl, xs, rfl, hA1, hA2, hlen⟩ := script_ok hfit n1 n2
  obtain ⟨τ, hF0, hc1, hs1⟩ := law_ok xs hlen
  have hlt := hA1.lt
  have Ad : QAd s.heap.size (fun k => match k with | 0 => a | k + 1 => s.heap.size + k) := ⟨fun k hk => by cases k with | zero => exact absurd hk (by decide) | succ k => rfl, fun i j h => by
    cases i with
    | zero => cases j with
      | zero => rfl
      | succ j => have h' : a = s.heap.size + j := h; exact absurd hA1.lt (by rw [h']; exact Nat.not_lt.mpr (Nat.le_add_right _ _))
    | succ i => cases j with
      | zero => have h' : s.heap.size + i = a := h; exact absurd hA1.lt (by rw [← h']; exact Nat.not_lt.mpr (Nat.le_add_right _ _))
      | succ j => have h' : s.heap.size + i = s.heap.size + j := h; omega⟩
  have hR : QRep s s.heap.size (fun k => match k with | 0 => a | k + 1 => s.heap.size + k) s.heap [.inr (.inl (.int, xs))] := ⟨Nat.le_refl _, rfl, fun k c h => by
    cases k with
    | zero => cases h; exact ⟨cl, hA1, hA2⟩
    | succ k => cases h⟩
  have T := tF0 (l := l) (Z := s) Ad (QW_ok hw) xs hF0
  have M := QTri.met (k := 0) (as := [.ref 0]) (by decide) T hR (Nat.le_of_ble_eq_true rfl) (fun q => by cases q) tables_1 (rm := room_1) (by decide) (by decide) hc1 hs1
  obtain ⟨n, o, h1, h2, h3, _, L, rfl, ⟨rfl, R', N⟩, hq⟩ := M p e ha hc hk s m _ below hf ((Spec.applies_iff_loose hf).mp happ).1 ⟨rfl, State.Warmed39.refl s, rfl⟩ trivial
  refine ⟨n, _, h1, h2, h3, hpost _ _ _ _ _ _ ⟨Cond.after_iff.mpr rfl, Cond.after_iff.mpr (eq_i res_at (Term.int_eval (1)) rfl), trivial⟩ ⟨hq.1, hq.2.1, (hq.2.2.sift fun y hy => Or.inr (N y hy)).mono hc1 hs1⟩⟩
theorem main_1_1 : Claimed_1_1 := comes_1 fun _ _ _ _ _ _ h hF => ⟨h.1, hF⟩
theorem main_1_2 : Claimed_1_2 := comes_1 fun _ _ _ _ _ _ h hF => ⟨h.2.1, hF⟩
end Jvm.Pilot.@@N@@
namespace Jvm.Pilot.@@N@@
open Jvm Jvm.ClassFile Sem Op Lib Jvm.Free Jvm.Stand Jvm.Pilot.@@N@@.Jvm.D
/-! MADE BY PROGRAM (witnessworld.py) out of the Statement's table words and the real class files: 11 classes; the members and pool entries that the words name. The judged class is class 1, her method 4. -/
namespace start1
open Jvm.ClassFile
def u (s : String) : CpInfo := .utf8 (stringToUtf16 s)
/-- a pool by its gaps: so many unusable entries, then the entry; so many at the end -/
def gap : Nat → List CpInfo → List CpInfo
  | 0, r => r
  | n + 1, r => .unusable :: gap n r
def poolList (es : List (Nat × CpInfo)) (last : Nat) : List CpInfo := es.foldr (fun e r => gap e.1 (e.2 :: r)) (gap last [])
def pool (es : List (Nat × CpInfo)) (last : Nat) : Array CpInfo := ⟨poolList es last⟩
def fileOf (pool : Array CpInfo) (this : Nat) (attrs : Array Attribute := #[]) (ms : Array MethodInfo := #[]) (fl : Nat := 33) (sup : Nat := 0) (ifs : Array Nat := #[]) (fds : Array FieldInfo := #[]) : ClassFile where
  minorVersion := 0
  majorVersion := 65
  constantPool := pool
  accessFlags := fl
  thisClass := this
  superClass := sup
  interfaces := ifs
  fields := fds
  methods := ms
  attributes := attrs
def plain (name : String) (sup : Option ClassId) : Class where
  name := name
  kind := .ordinary
  loader := none
  accessFlags := 33
  super := sup
  interfaces := #[]
  cf := none
  fields := #[]
  methods := #[]
  instanceTypes := #[]
  staticTypes := #[]
  resolved := #[]
  callSites := []
  init := .initialized
  statics := none
  mirror := none

def pool0 : Array CpInfo := pool [(5, u "<init>"), (0, u "()V"), (1, .class_ 10), (1, u "java/lang/Object")] 113

def k0c0 : Code := { maxStack := 0, maxLocals := 1, code := object_method_1_code, exceptionTable := #[], attributes := #[] }
def k0m0 : Method := { name := "<init>", desc := "()V", sig := { parameters := [], returnType := none }, accessFlags := 1, code := some k0c0 }
/-- java/lang/Object -/
def k0 : Class := { plain "java/lang/Object" none with
  accessFlags := 33
  interfaces := #[]
  cf := some (fileOf pool0 8 #[] #[{ accessFlags := 1, nameIndex := 5, descriptorIndex := 6, attributes := #[] }] 33 0 #[] #[])
  fields := #[]
  methods := #[k0m0]
  instanceTypes := #[]
  staticTypes := #[]
  resolved := Array.replicate 124 none
  statics := none }

def pool1 : Array CpInfo := pool [(2, .class_ 4), (1, u "java/lang/Object"), (0, u "<init>"), (0, u "()V"), (0, .class_ 8), (0, u "PivotSheet"), (0, .methodref 10 11), (0, .class_ 12), (0, .nameAndType 13 14), (0, u "PivotSheetOwnLaw"), (0, u "cell"), (0, u "([II)I"), (0, .methodref 7 16), (0, .nameAndType 5 17), (0, u "(II)V"), (0, .methodref 10 19), (0, .nameAndType 20 21), (0, u "check"), (0, u "(LPivotSheet;IJ)Z"), (0, .methodref 10 23), (0, .nameAndType 24 25), (0, u "val"), (0, u "(I)I"), (0, .methodref 7 27), (0, .nameAndType 28 29), (0, u "setCell"), (0, u "(III)Z"), (0, .methodref 7 31), (0, .nameAndType 32 33), (0, u "clearRow"), (0, u "(I)Z"), (0, .methodref 7 35), (0, .nameAndType 36 37), (0, u "setPivot"), (0, u "(IIII)Z"), (0, .methodref 7 39), (0, .nameAndType 40 37), (0, u "setFormula"), (0, .long 511), (1, .long 18446744073709551615), (1, .methodref 7 46), (0, .nameAndType 47 48), (0, u "rowKeyCount"), (0, u "()I"), (0, .methodref 7 50), (0, .nameAndType 51 48), (0, u "colKeyCount"), (0, .methodref 7 53), (0, .nameAndType 54 25), (0, u "rowKey"), (0, .methodref 7 56), (0, .nameAndType 57 25), (0, u "colKey"), (0, .methodref 7 59), (0, .nameAndType 60 61), (0, u "groupCount"), (0, u "(II)I"), (0, .methodref 7 63), (0, .nameAndType 64 61), (0, u "value"), (0, .methodref 10 66), (0, .nameAndType 67 68), (0, u "comb"), (0, u "(III)I"), (0, .methodref 7 70), (0, .nameAndType 71 33), (0, u "isFilled"), (0, .methodref 7 73), (0, .nameAndType 74 33), (0, u "formulaFound"), (0, .methodref 7 76), (0, .nameAndType 77 25), (0, u "formulaValue"), (3, u "law"), (0, u "([I)Z")] 4

def k1m0 : Method := { name := "<init>", desc := "()V", sig := { parameters := [], returnType := none }, accessFlags := 1, code := none }
def k1c1 : Code := { maxStack := 2, maxLocals := 2, code := method_2_code, exceptionTable := #[], attributes := #[] }
def k1m1 : Method := { name := "cell", desc := "([II)I", sig := { parameters := [(.array .int), .int], returnType := some .int }, accessFlags := 10, code := some k1c1 }
def k1c2 : Code := { maxStack := 2, maxLocals := 1, code := method_3_code, exceptionTable := #[], attributes := #[] }
def k1m2 : Method := { name := "val", desc := "(I)I", sig := { parameters := [.int], returnType := some .int }, accessFlags := 10, code := some k1c2 }
def k1c3 : Code := { maxStack := 2, maxLocals := 3, code := method_4_code, exceptionTable := #[], attributes := #[] }
def k1m3 : Method := { name := "comb", desc := "(III)I", sig := { parameters := [.int, .int, .int], returnType := some .int }, accessFlags := 10, code := some k1c3 }
def k1c4 : Code := { maxStack := 6, maxLocals := 16, code := code, exceptionTable := #[], attributes := #[] }
def k1m4 : Method := { name := "law", desc := "([I)Z", sig := { parameters := [(.array .int)], returnType := some .boolean }, accessFlags := 9, code := some k1c4 }
def k1c5 : Code := { maxStack := 4, maxLocals := 17, code := method_6_code, exceptionTable := #[], attributes := #[] }
def k1m5 : Method := { name := "check", desc := "(LPivotSheet;IJ)Z", sig := { parameters := [(.object "PivotSheet"), .int, .long], returnType := some .boolean }, accessFlags := 10, code := some k1c5 }
/-- PivotSheetOwnLaw -/
def k1 : Class := { plain "PivotSheetOwnLaw" (some 0) with
  accessFlags := 49
  interfaces := #[]
  cf := some (fileOf pool1 10 #[] #[{ accessFlags := 1, nameIndex := 5, descriptorIndex := 6, attributes := #[] }, { accessFlags := 10, nameIndex := 13, descriptorIndex := 14, attributes := #[] }, { accessFlags := 10, nameIndex := 24, descriptorIndex := 25, attributes := #[] }, { accessFlags := 10, nameIndex := 67, descriptorIndex := 68, attributes := #[] }, { accessFlags := 9, nameIndex := 81, descriptorIndex := 82, attributes := #[] }, { accessFlags := 10, nameIndex := 20, descriptorIndex := 21, attributes := #[] }] 49 2 #[] #[])
  fields := #[]
  methods := #[k1m0, k1m1, k1m2, k1m3, k1m4, k1m5]
  instanceTypes := #[]
  staticTypes := #[]
  resolved := Array.replicate 87 none
  statics := none }

def pool2 : Array CpInfo := pool [(1, .methodref 2 3), (0, .class_ 4), (0, .nameAndType 5 6), (0, u "java/lang/Object"), (0, u "<init>"), (0, u "()V"), (0, .fieldref 8 9), (0, .class_ 10), (0, .nameAndType 11 12), (0, u "PivotSheet"), (0, u "data"), (0, u "[I"), (0, .fieldref 8 14), (0, .nameAndType 15 16), (0, u "filled"), (0, u "[Z"), (0, .fieldref 8 18), (0, .nameAndType 19 20), (0, u "rf"), (0, u "I"), (0, .fieldref 8 22), (0, .nameAndType 23 20), (0, u "cf"), (0, .fieldref 8 25), (0, .nameAndType 26 20), (0, u "vf"), (0, .fieldref 8 28), (0, .nameAndType 29 20), (0, u "ag"), (0, .fieldref 8 31), (0, .nameAndType 32 12), (0, u "fMode"), (0, .fieldref 8 34), (0, .nameAndType 35 12), (0, u "fRk"), (0, .fieldref 8 37), (0, .nameAndType 38 12), (0, u "fCk"), (0, .fieldref 8 40), (0, .nameAndType 41 12), (0, u "prevVal"), (0, .fieldref 8 43), (0, .nameAndType 44 16), (0, u "prevFound"), (0, .fieldref 8 46), (0, .nameAndType 47 12), (0, u "keys"), (0, .fieldref 8 49), (0, .nameAndType 50 20), (0, u "nRows"), (0, .fieldref 8 52), (0, .nameAndType 53 20), (0, u "nForms"), (0, .fieldref 8 55), (0, .nameAndType 56 20), (0, u "last"), (0, .methodref 8 58), (0, .nameAndType 59 60), (0, u "validRow"), (0, u "(I)Z"), (0, .methodref 8 62), (0, .nameAndType 63 6), (0, u "snapshot"), (0, .methodref 8 65), (0, .nameAndType 66 67), (0, u "countChanged"), (0, u "()I"), (0, .methodref 8 69), (0, .nameAndType 70 60), (0, u "validField"), (0, .methodref 8 72), (0, .nameAndType 73 74), (0, u "buildKeys"), (0, u "(II)I"), (0, .methodref 8 76), (0, .nameAndType 77 78), (0, u "resolve"), (0, u "(II)Z"), (0, .fieldref 8 80), (0, .nameAndType 81 82), (0, u "selUseR"), (0, u "Z"), (0, .fieldref 8 84), (0, .nameAndType 85 20), (0, u "selRk"), (0, .fieldref 8 87), (0, .nameAndType 88 82), (0, u "selUseC"), (0, .fieldref 8 90), (0, .nameAndType 91 20), (0, u "selCk"), (0, .methodref 8 93), (0, .nameAndType 94 95), (0, u "evalGroup"), (0, u "(ZIZI)V"), (0, .fieldref 8 97), (0, .nameAndType 98 20), (0, u "gVal"), (0, .fieldref 8 100), (0, .nameAndType 101 20), (0, u "gCount"), (0, .methodref 8 103), (0, .nameAndType 104 60), (0, u "validSlot"), (0, .methodref 8 106), (0, .nameAndType 107 108), (0, u "evalFormula"), (0, u "(I)V"), (0, .methodref 8 110), (0, .nameAndType 111 112), (0, u "insertKey"), (0, u "(III)I"), (0, .methodref 8 114), (0, .nameAndType 115 116), (0, u "pickAgg"), (0, u "(IIII)I"), (0, u "SUM"), (2, u "COUNT"), (1, u "MIN"), (1, u "MAX"), (1, u "FIELDS"), (1, u "ALL"), (1, u "F_NONE"), (0, u "F_CELL"), (0, u "F_ROW"), (0, u "F_COL"), (0, u "F_GRAND"), (0, u "MAX_ROWS"), (1, u "MAX_FORMS"), (1, u "COL_BASE"), (0, u "(II)V"), (3, u "setCell"), (0, u "(III)Z"), (0, u "clearRow"), (1, u "isFilled"), (0, u "setPivot"), (0, u "(IIII)Z"), (0, u "rowKeyCount"), (0, u "colKeyCount"), (0, u "rowKey"), (0, u "(I)I"), (0, u "colKey"), (0, u "value"), (0, u "groupCount"), (0, u "setFormula"), (0, u "formulaValue"), (0, u "formulaFound")] 4

def k2c0 : Code := { maxStack := 2, maxLocals := 5, code := prog_1_method_1_code, exceptionTable := #[], attributes := #[] }
def k2m0 : Method := { name := "<init>", desc := "(II)V", sig := { parameters := [.int, .int], returnType := none }, accessFlags := 1, code := some k2c0 }
def k2c1 : Code := { maxStack := 3, maxLocals := 4, code := prog_1_method_2_code, exceptionTable := #[], attributes := #[] }
def k2m1 : Method := { name := "setCell", desc := "(III)Z", sig := { parameters := [.int, .int, .int], returnType := some .boolean }, accessFlags := 1, code := some k2c1 }
def k2c2 : Code := { maxStack := 3, maxLocals := 3, code := prog_1_method_3_code, exceptionTable := #[], attributes := #[] }
def k2m2 : Method := { name := "clearRow", desc := "(I)Z", sig := { parameters := [.int], returnType := some .boolean }, accessFlags := 1, code := some k2c2 }
def k2c3 : Code := { maxStack := 2, maxLocals := 2, code := prog_1_method_5_code, exceptionTable := #[], attributes := #[] }
def k2m3 : Method := { name := "isFilled", desc := "(I)Z", sig := { parameters := [.int], returnType := some .boolean }, accessFlags := 1, code := some k2c3 }
def k2c4 : Code := { maxStack := 2, maxLocals := 5, code := prog_1_method_6_code, exceptionTable := #[], attributes := #[] }
def k2m4 : Method := { name := "setPivot", desc := "(IIII)Z", sig := { parameters := [.int, .int, .int, .int], returnType := some .boolean }, accessFlags := 1, code := some k2c4 }
def k2c5 : Code := { maxStack := 3, maxLocals := 1, code := prog_1_method_7_code, exceptionTable := #[], attributes := #[] }
def k2m5 : Method := { name := "rowKeyCount", desc := "()I", sig := { parameters := [], returnType := some .int }, accessFlags := 1, code := some k2c5 }
def k2c6 : Code := { maxStack := 3, maxLocals := 1, code := prog_1_method_8_code, exceptionTable := #[], attributes := #[] }
def k2m6 : Method := { name := "colKeyCount", desc := "()I", sig := { parameters := [], returnType := some .int }, accessFlags := 1, code := some k2c6 }
def k2c7 : Code := { maxStack := 3, maxLocals := 3, code := prog_1_method_9_code, exceptionTable := #[], attributes := #[] }
def k2m7 : Method := { name := "rowKey", desc := "(I)I", sig := { parameters := [.int], returnType := some .int }, accessFlags := 1, code := some k2c7 }
def k2c8 : Code := { maxStack := 3, maxLocals := 3, code := prog_1_method_10_code, exceptionTable := #[], attributes := #[] }
def k2m8 : Method := { name := "colKey", desc := "(I)I", sig := { parameters := [.int], returnType := some .int }, accessFlags := 1, code := some k2c8 }
def k2c9 : Code := { maxStack := 5, maxLocals := 3, code := prog_1_method_11_code, exceptionTable := #[], attributes := #[] }
def k2m9 : Method := { name := "value", desc := "(II)I", sig := { parameters := [.int, .int], returnType := some .int }, accessFlags := 1, code := some k2c9 }
def k2c10 : Code := { maxStack := 5, maxLocals := 3, code := prog_1_method_12_code, exceptionTable := #[], attributes := #[] }
def k2m10 : Method := { name := "groupCount", desc := "(II)I", sig := { parameters := [.int, .int], returnType := some .int }, accessFlags := 1, code := some k2c10 }
def k2c11 : Code := { maxStack := 3, maxLocals := 5, code := prog_1_method_13_code, exceptionTable := #[], attributes := #[] }
def k2m11 : Method := { name := "setFormula", desc := "(IIII)Z", sig := { parameters := [.int, .int, .int, .int], returnType := some .boolean }, accessFlags := 1, code := some k2c11 }
def k2c12 : Code := { maxStack := 2, maxLocals := 2, code := prog_1_method_14_code, exceptionTable := #[], attributes := #[] }
def k2m12 : Method := { name := "formulaValue", desc := "(I)I", sig := { parameters := [.int], returnType := some .int }, accessFlags := 1, code := some k2c12 }
def k2c13 : Code := { maxStack := 2, maxLocals := 2, code := prog_1_method_15_code, exceptionTable := #[], attributes := #[] }
def k2m13 : Method := { name := "formulaFound", desc := "(I)Z", sig := { parameters := [.int], returnType := some .boolean }, accessFlags := 1, code := some k2c13 }
def k2c14 : Code := { maxStack := 2, maxLocals := 2, code := prog_1_method_17_code, exceptionTable := #[], attributes := #[] }
def k2m14 : Method := { name := "validRow", desc := "(I)Z", sig := { parameters := [.int], returnType := some .boolean }, accessFlags := 2, code := some k2c14 }
def k2c15 : Code := { maxStack := 2, maxLocals := 2, code := prog_1_method_18_code, exceptionTable := #[], attributes := #[] }
def k2m15 : Method := { name := "validField", desc := "(I)Z", sig := { parameters := [.int], returnType := some .boolean }, accessFlags := 2, code := some k2c15 }
def k2c16 : Code := { maxStack := 2, maxLocals := 2, code := prog_1_method_19_code, exceptionTable := #[], attributes := #[] }
def k2m16 : Method := { name := "validSlot", desc := "(I)Z", sig := { parameters := [.int], returnType := some .boolean }, accessFlags := 2, code := some k2c16 }
def k2c17 : Code := { maxStack := 6, maxLocals := 5, code := prog_1_method_20_code, exceptionTable := #[], attributes := #[] }
def k2m17 : Method := { name := "buildKeys", desc := "(II)I", sig := { parameters := [.int, .int], returnType := some .int }, accessFlags := 2, code := some k2c17 }
def k2c18 : Code := { maxStack := 5, maxLocals := 6, code := prog_1_method_21_code, exceptionTable := #[], attributes := #[] }
def k2m18 : Method := { name := "insertKey", desc := "(III)I", sig := { parameters := [.int, .int, .int], returnType := some .int }, accessFlags := 2, code := some k2c18 }
def k2c19 : Code := { maxStack := 4, maxLocals := 5, code := prog_1_method_22_code, exceptionTable := #[], attributes := #[] }
def k2m19 : Method := { name := "resolve", desc := "(II)Z", sig := { parameters := [.int, .int], returnType := some .boolean }, accessFlags := 2, code := some k2c19 }
def k2c20 : Code := { maxStack := 6, maxLocals := 12, code := prog_1_method_23_code, exceptionTable := #[], attributes := #[] }
def k2m20 : Method := { name := "evalGroup", desc := "(ZIZI)V", sig := { parameters := [.boolean, .int, .boolean, .int], returnType := none }, accessFlags := 2, code := some k2c20 }
def k2c21 : Code := { maxStack := 2, maxLocals := 5, code := prog_1_method_24_code, exceptionTable := #[], attributes := #[] }
def k2m21 : Method := { name := "pickAgg", desc := "(IIII)I", sig := { parameters := [.int, .int, .int, .int], returnType := some .int }, accessFlags := 2, code := some k2c21 }
def k2c22 : Code := { maxStack := 6, maxLocals := 5, code := prog_1_method_25_code, exceptionTable := #[], attributes := #[] }
def k2m22 : Method := { name := "evalFormula", desc := "(I)V", sig := { parameters := [.int], returnType := none }, accessFlags := 2, code := some k2c22 }
def k2c23 : Code := { maxStack := 3, maxLocals := 2, code := prog_1_method_26_code, exceptionTable := #[], attributes := #[] }
def k2m23 : Method := { name := "snapshot", desc := "()V", sig := { parameters := [], returnType := none }, accessFlags := 2, code := some k2c23 }
def k2c24 : Code := { maxStack := 3, maxLocals := 4, code := prog_1_method_27_code, exceptionTable := #[], attributes := #[] }
def k2m24 : Method := { name := "countChanged", desc := "()I", sig := { parameters := [], returnType := some .int }, accessFlags := 2, code := some k2c24 }
/-- PivotSheet -/
def k2 : Class := { plain "PivotSheet" (some 0) with
  accessFlags := 49
  interfaces := #[]
  cf := some (fileOf pool2 8 #[] #[{ accessFlags := 1, nameIndex := 5, descriptorIndex := 140, attributes := #[] }, { accessFlags := 1, nameIndex := 144, descriptorIndex := 145, attributes := #[] }, { accessFlags := 1, nameIndex := 146, descriptorIndex := 60, attributes := #[] }, { accessFlags := 1, nameIndex := 148, descriptorIndex := 60, attributes := #[] }, { accessFlags := 1, nameIndex := 149, descriptorIndex := 150, attributes := #[] }, { accessFlags := 1, nameIndex := 151, descriptorIndex := 67, attributes := #[] }, { accessFlags := 1, nameIndex := 152, descriptorIndex := 67, attributes := #[] }, { accessFlags := 1, nameIndex := 153, descriptorIndex := 154, attributes := #[] }, { accessFlags := 1, nameIndex := 155, descriptorIndex := 154, attributes := #[] }, { accessFlags := 1, nameIndex := 156, descriptorIndex := 74, attributes := #[] }, { accessFlags := 1, nameIndex := 157, descriptorIndex := 74, attributes := #[] }, { accessFlags := 1, nameIndex := 158, descriptorIndex := 150, attributes := #[] }, { accessFlags := 1, nameIndex := 159, descriptorIndex := 154, attributes := #[] }, { accessFlags := 1, nameIndex := 160, descriptorIndex := 60, attributes := #[] }, { accessFlags := 2, nameIndex := 59, descriptorIndex := 60, attributes := #[] }, { accessFlags := 2, nameIndex := 70, descriptorIndex := 60, attributes := #[] }, { accessFlags := 2, nameIndex := 104, descriptorIndex := 60, attributes := #[] }, { accessFlags := 2, nameIndex := 73, descriptorIndex := 74, attributes := #[] }, { accessFlags := 2, nameIndex := 111, descriptorIndex := 112, attributes := #[] }, { accessFlags := 2, nameIndex := 77, descriptorIndex := 78, attributes := #[] }, { accessFlags := 2, nameIndex := 94, descriptorIndex := 95, attributes := #[] }, { accessFlags := 2, nameIndex := 115, descriptorIndex := 116, attributes := #[] }, { accessFlags := 2, nameIndex := 107, descriptorIndex := 108, attributes := #[] }, { accessFlags := 2, nameIndex := 63, descriptorIndex := 6, attributes := #[] }, { accessFlags := 2, nameIndex := 66, descriptorIndex := 67, attributes := #[] }] 49 2 #[] #[{ accessFlags := 25, nameIndex := 117, descriptorIndex := 20, attributes := #[] }, { accessFlags := 25, nameIndex := 120, descriptorIndex := 20, attributes := #[] }, { accessFlags := 25, nameIndex := 122, descriptorIndex := 20, attributes := #[] }, { accessFlags := 25, nameIndex := 124, descriptorIndex := 20, attributes := #[] }, { accessFlags := 25, nameIndex := 126, descriptorIndex := 20, attributes := #[] }, { accessFlags := 25, nameIndex := 128, descriptorIndex := 20, attributes := #[] }, { accessFlags := 25, nameIndex := 130, descriptorIndex := 20, attributes := #[] }, { accessFlags := 25, nameIndex := 131, descriptorIndex := 20, attributes := #[] }, { accessFlags := 25, nameIndex := 132, descriptorIndex := 20, attributes := #[] }, { accessFlags := 25, nameIndex := 133, descriptorIndex := 20, attributes := #[] }, { accessFlags := 25, nameIndex := 134, descriptorIndex := 20, attributes := #[] }, { accessFlags := 26, nameIndex := 135, descriptorIndex := 20, attributes := #[] }, { accessFlags := 26, nameIndex := 137, descriptorIndex := 20, attributes := #[] }, { accessFlags := 26, nameIndex := 139, descriptorIndex := 20, attributes := #[] }, { accessFlags := 2, nameIndex := 50, descriptorIndex := 20, attributes := #[] }, { accessFlags := 2, nameIndex := 53, descriptorIndex := 20, attributes := #[] }, { accessFlags := 2, nameIndex := 11, descriptorIndex := 12, attributes := #[] }, { accessFlags := 2, nameIndex := 15, descriptorIndex := 16, attributes := #[] }, { accessFlags := 2, nameIndex := 19, descriptorIndex := 20, attributes := #[] }, { accessFlags := 2, nameIndex := 23, descriptorIndex := 20, attributes := #[] }, { accessFlags := 2, nameIndex := 26, descriptorIndex := 20, attributes := #[] }, { accessFlags := 2, nameIndex := 29, descriptorIndex := 20, attributes := #[] }, { accessFlags := 2, nameIndex := 32, descriptorIndex := 12, attributes := #[] }, { accessFlags := 2, nameIndex := 35, descriptorIndex := 12, attributes := #[] }, { accessFlags := 2, nameIndex := 38, descriptorIndex := 12, attributes := #[] }, { accessFlags := 2, nameIndex := 41, descriptorIndex := 12, attributes := #[] }, { accessFlags := 2, nameIndex := 44, descriptorIndex := 16, attributes := #[] }, { accessFlags := 2, nameIndex := 47, descriptorIndex := 12, attributes := #[] }, { accessFlags := 2, nameIndex := 56, descriptorIndex := 20, attributes := #[] }, { accessFlags := 2, nameIndex := 98, descriptorIndex := 20, attributes := #[] }, { accessFlags := 2, nameIndex := 101, descriptorIndex := 20, attributes := #[] }, { accessFlags := 2, nameIndex := 81, descriptorIndex := 82, attributes := #[] }, { accessFlags := 2, nameIndex := 85, descriptorIndex := 20, attributes := #[] }, { accessFlags := 2, nameIndex := 88, descriptorIndex := 82, attributes := #[] }, { accessFlags := 2, nameIndex := 91, descriptorIndex := 20, attributes := #[] }])
  fields := #[{ name := "SUM", type := .int, accessFlags := 25, slot := 0, constantValue := 0 }, { name := "COUNT", type := .int, accessFlags := 25, slot := 1, constantValue := 0 }, { name := "MIN", type := .int, accessFlags := 25, slot := 2, constantValue := 0 }, { name := "MAX", type := .int, accessFlags := 25, slot := 3, constantValue := 0 }, { name := "FIELDS", type := .int, accessFlags := 25, slot := 4, constantValue := 0 }, { name := "ALL", type := .int, accessFlags := 25, slot := 5, constantValue := 0 }, { name := "F_NONE", type := .int, accessFlags := 25, slot := 6, constantValue := 0 }, { name := "F_CELL", type := .int, accessFlags := 25, slot := 7, constantValue := 0 }, { name := "F_ROW", type := .int, accessFlags := 25, slot := 8, constantValue := 0 }, { name := "F_COL", type := .int, accessFlags := 25, slot := 9, constantValue := 0 }, { name := "F_GRAND", type := .int, accessFlags := 25, slot := 10, constantValue := 0 }, { name := "MAX_ROWS", type := .int, accessFlags := 26, slot := 11, constantValue := 0 }, { name := "MAX_FORMS", type := .int, accessFlags := 26, slot := 12, constantValue := 0 }, { name := "COL_BASE", type := .int, accessFlags := 26, slot := 13, constantValue := 0 }, { name := "nRows", type := .int, accessFlags := 2, slot := 0, constantValue := 0 }, { name := "nForms", type := .int, accessFlags := 2, slot := 1, constantValue := 0 }, { name := "data", type := (.array .int), accessFlags := 2, slot := 2, constantValue := 0 }, { name := "filled", type := (.array .boolean), accessFlags := 2, slot := 3, constantValue := 0 }, { name := "rf", type := .int, accessFlags := 2, slot := 4, constantValue := 0 }, { name := "cf", type := .int, accessFlags := 2, slot := 5, constantValue := 0 }, { name := "vf", type := .int, accessFlags := 2, slot := 6, constantValue := 0 }, { name := "ag", type := .int, accessFlags := 2, slot := 7, constantValue := 0 }, { name := "fMode", type := (.array .int), accessFlags := 2, slot := 8, constantValue := 0 }, { name := "fRk", type := (.array .int), accessFlags := 2, slot := 9, constantValue := 0 }, { name := "fCk", type := (.array .int), accessFlags := 2, slot := 10, constantValue := 0 }, { name := "prevVal", type := (.array .int), accessFlags := 2, slot := 11, constantValue := 0 }, { name := "prevFound", type := (.array .boolean), accessFlags := 2, slot := 12, constantValue := 0 }, { name := "keys", type := (.array .int), accessFlags := 2, slot := 13, constantValue := 0 }, { name := "last", type := .int, accessFlags := 2, slot := 14, constantValue := 0 }, { name := "gVal", type := .int, accessFlags := 2, slot := 15, constantValue := 0 }, { name := "gCount", type := .int, accessFlags := 2, slot := 16, constantValue := 0 }, { name := "selUseR", type := .boolean, accessFlags := 2, slot := 17, constantValue := 0 }, { name := "selRk", type := .int, accessFlags := 2, slot := 18, constantValue := 0 }, { name := "selUseC", type := .boolean, accessFlags := 2, slot := 19, constantValue := 0 }, { name := "selCk", type := .int, accessFlags := 2, slot := 20, constantValue := 0 }]
  methods := #[k2m0, k2m1, k2m2, k2m3, k2m4, k2m5, k2m6, k2m7, k2m8, k2m9, k2m10, k2m11, k2m12, k2m13, k2m14, k2m15, k2m16, k2m17, k2m18, k2m19, k2m20, k2m21, k2m22, k2m23, k2m24]
  instanceTypes := #[.int, .int, (.array .int), (.array .boolean), .int, .int, .int, .int, (.array .int), (.array .int), (.array .int), (.array .int), (.array .boolean), (.array .int), .int, .int, .int, .boolean, .int, .boolean, .int]
  staticTypes := #[.int, .int, .int, .int, .int, .int, .int, .int, .int, .int, .int, .int, .int, .int]
  resolved := Array.replicate 165 none
  statics := none }

def pool3 : Array CpInfo := pool [(1, u "java/lang/Cloneable"), (0, .class_ 1), (0, u "java/lang/Object"), (0, .class_ 3)] 3

/-- java/lang/Cloneable -/
def k3 : Class := { plain "java/lang/Cloneable" (some 0) with
  accessFlags := 1537
  interfaces := #[]
  cf := some (fileOf pool3 2 #[] #[] 1537 4 #[] #[])
  fields := #[]
  methods := #[]
  instanceTypes := #[]
  staticTypes := #[]
  resolved := Array.replicate 8 none
  statics := none }

def pool4 : Array CpInfo := pool [(1, u "java/io/Serializable"), (0, .class_ 1), (0, u "java/lang/Object"), (0, .class_ 3)] 3

/-- java/io/Serializable -/
def k4 : Class := { plain "java/io/Serializable" (some 0) with
  accessFlags := 1537
  interfaces := #[]
  cf := some (fileOf pool4 2 #[] #[] 1537 4 #[] #[])
  fields := #[]
  methods := #[]
  instanceTypes := #[]
  staticTypes := #[]
  resolved := Array.replicate 8 none
  statics := none }

/-- the primitive boolean -/
def k5 : Class := { plain "boolean" none with kind := .primitive 'Z', accessFlags := 0x411 }
/-- [Z -/
def k6 : Class := { plain "[Z" (some 0) with kind := .array 5 .boolean, interfaces := #[3, 4], accessFlags := 1041 }

/-- the primitive byte -/
def k7 : Class := { plain "byte" none with kind := .primitive 'B', accessFlags := 0x411 }
/-- [B -/
def k8 : Class := { plain "[B" (some 0) with kind := .array 7 .byte, interfaces := #[3, 4], accessFlags := 1041 }

/-- the primitive int -/
def k9 : Class := { plain "int" none with kind := .primitive 'I', accessFlags := 0x411 }
/-- [I -/
def k10 : Class := { plain "[I" (some 0) with kind := .array 9 .int, interfaces := #[3, 4], accessFlags := 1041 }

def heap : Heap := #[{ cls := 10, slots := #[.int 1, .int 2, .int 3], vm := .none }]
def classes : Array Class := #[k0, k1, k2, k3, k4, k5, k6, k7, k8, k9, k10]
def interned : List (Array UInt16 × Addr) := []
def slotsUsed : Nat := 3
def theMethod : MethodId := ⟨1, 4⟩
def args0 : Array Value := #[.ref 0]
def aboutOver (below : List Frame) : State where
  vm := { classes := classes, interned := interned.toArray }
  heap := heap
  slotsUsed := slotsUsed
  threads := #[{ frames := .invoking theMethod args0 :: below }]
def below0 : List Frame := [.native { method := ⟨0, 0⟩, args := #[] }]
def about1 : State := aboutOver below0
def p0 : Program := .bare "" "" ""
def e0 : Env := launch0.env 0 0 0
theorem w_frames : about1.frames = Frame.invoking theMethod args0 :: below0 := rfl
set_option maxRecDepth 65536 in
theorem w_args : argsFit about1.vm theMethod args0 = true := by decide +kernel
set_option maxRecDepth 65536 in
theorem w_heap : heapFits about1 = true := by decide +kernel
set_option maxRecDepth 65536 in
theorem w_runnable : about1.curStatus? = some .runnable := by decide +kernel
set_option maxRecDepth 65536 in
theorem w_alone : about1.alone = true := by decide +kernel
set_option maxRecDepth 65536 in
theorem w_named : about1.methodNamed? x = some theMethod := by decide +kernel
set_option maxRecDepth 65536 in
theorem w_hears : about1.hears theMethod below0 = true := by decide +kernel
set_option maxRecDepth 65536 in
theorem w_ripe : about1.ripe theMethod args0 below0 = true := by decide +kernel
theorem w_running : about1.status = .running := rfl
set_option maxRecDepth 65536 in
theorem w_room : about1.hasRoom e0.platform room_1 = true :=
  launch0.hasRoom_least _ room_1 (by decide +kernel) (by decide +kernel) (by decide +kernel) (by decide +kernel) (by decide +kernel) (by decide +kernel)
theorem allAtoms_all (ts : List Jvm.Cond) (a : Array Jvm.Value) (st : Jvm.State) : (allAtoms ts).before a st = ts.all (fun c => c.before a st) := by
  induction ts with
  | nil => rfl
  | cons c t ih =>
    show (Jvm.Cond.and c (allAtoms t)).before a st = _
    rw [Jvm.Cond.before_and, ih, List.all_cons]
def words1 : List Jvm.Cond := Jvm.Cond.code x code maxLocals ret :: tables_1
/-- a 'code' word, met by the world's own term for the bytes: nothing is compared byte by byte -/
theorem code_word {y : MethodName} {bytes : ByteArray} {mx : Nat} {rt : Option FieldType} {a : Array Value} {s : State} {m : MethodId} {meth : Method} {c : Code} (h1 : s.methodNamed? y = some m) (h2 : s.vm.method? m = some meth) (h3 : meth.code = some c) (h4 : c.code = bytes)
    (h5 : (c.maxLocals == mx && c.exceptionTable.isEmpty && decide (c.maxStack ≤ mostOperands) && decide (meth.sig.returnType = rt) && !meth.locks && decide (parseMethodDescriptor y.desc = some meth.sig)) = true) : (Jvm.Cond.code y bytes mx rt).before a s = true := by
  simp only [Bool.and_eq_true, beq_iff_eq, Bool.not_eq_true', decide_eq_true_eq] at h5
  obtain ⟨⟨⟨⟨⟨g1, g2⟩, g3⟩, g4⟩, g5⟩, g6⟩ := h5
  simp [Cond.before, Cond.holds, Cond.value, h1, h2, h3, h4, g1, g2, g3, g4, g5, g6]
def isCode : Jvm.Cond → Bool
  | .code _ _ _ _ => true
  | _ => false
theorem all_split {L : List Jvm.Cond} {P : Jvm.Cond → Bool} (h1 : L.all (fun c => isCode c || P c) = true) (h2 : ∀ c ∈ L.filter isCode, P c = true) : L.all P = true := by
  refine List.all_eq_true.mpr fun c hc => ?_
  have h := List.all_eq_true.mp h1 c hc
  rcases Bool.eq_false_or_eq_true (isCode c) with hi | hi
  · exact h2 c (List.mem_filter.mpr ⟨hc, hi⟩)
  · simpa [hi] using h
set_option maxRecDepth 65536 in
theorem w_c0 : (Jvm.Cond.code x code maxLocals ret).before args0 about1 = true := code_word (m := ⟨1, 4⟩) (meth := k1m4) (c := k1c4) (by decide +kernel) rfl rfl rfl (by decide +kernel)
set_option maxRecDepth 65536 in
theorem w_c1 : (Jvm.Cond.code ({ cls := "PivotSheetOwnLaw", name := "cell", desc := "([II)I" } : Jvm.MethodName) method_2_code (2 : Nat) (Option.some Jvm.ClassFile.FieldType.int)).before args0 about1 = true := code_word (m := ⟨1, 1⟩) (meth := k1m1) (c := k1c1) (by decide +kernel) rfl rfl rfl (by decide +kernel)
set_option maxRecDepth 65536 in
theorem w_c2 : (Jvm.Cond.code ({ cls := "PivotSheet", name := "<init>", desc := "(II)V" } : Jvm.MethodName) prog_1_method_1_code (5 : Nat) (Option.none : Option Jvm.ClassFile.FieldType)).before args0 about1 = true := code_word (m := ⟨2, 0⟩) (meth := k2m0) (c := k2c0) (by decide +kernel) rfl rfl rfl (by decide +kernel)
set_option maxRecDepth 65536 in
theorem w_c3 : (Jvm.Cond.code ({ cls := "java/lang/Object", name := "<init>", desc := "()V" } : Jvm.MethodName) object_method_1_code (1 : Nat) (Option.none : Option Jvm.ClassFile.FieldType)).before args0 about1 = true := code_word (m := ⟨0, 0⟩) (meth := k0m0) (c := k0c0) (by decide +kernel) rfl rfl rfl (by decide +kernel)
set_option maxRecDepth 65536 in
theorem w_c4 : (Jvm.Cond.code ({ cls := "PivotSheetOwnLaw", name := "check", desc := "(LPivotSheet;IJ)Z" } : Jvm.MethodName) method_6_code (17 : Nat) (Option.some Jvm.ClassFile.FieldType.boolean)).before args0 about1 = true := code_word (m := ⟨1, 5⟩) (meth := k1m5) (c := k1c5) (by decide +kernel) rfl rfl rfl (by decide +kernel)
set_option maxRecDepth 65536 in
theorem w_c5 : (Jvm.Cond.code ({ cls := "PivotSheet", name := "rowKeyCount", desc := "()I" } : Jvm.MethodName) prog_1_method_7_code (1 : Nat) (Option.some Jvm.ClassFile.FieldType.int)).before args0 about1 = true := code_word (m := ⟨2, 5⟩) (meth := k2m5) (c := k2c5) (by decide +kernel) rfl rfl rfl (by decide +kernel)
set_option maxRecDepth 65536 in
theorem w_c6 : (Jvm.Cond.code ({ cls := "PivotSheet", name := "buildKeys", desc := "(II)I" } : Jvm.MethodName) prog_1_method_20_code (5 : Nat) (Option.some Jvm.ClassFile.FieldType.int)).before args0 about1 = true := code_word (m := ⟨2, 17⟩) (meth := k2m17) (c := k2c17) (by decide +kernel) rfl rfl rfl (by decide +kernel)
set_option maxRecDepth 65536 in
theorem w_c7 : (Jvm.Cond.code ({ cls := "PivotSheet", name := "colKeyCount", desc := "()I" } : Jvm.MethodName) prog_1_method_8_code (1 : Nat) (Option.some Jvm.ClassFile.FieldType.int)).before args0 about1 = true := code_word (m := ⟨2, 6⟩) (meth := k2m6) (c := k2c6) (by decide +kernel) rfl rfl rfl (by decide +kernel)
set_option maxRecDepth 65536 in
theorem w_c8 : (Jvm.Cond.code ({ cls := "PivotSheet", name := "groupCount", desc := "(II)I" } : Jvm.MethodName) prog_1_method_12_code (3 : Nat) (Option.some Jvm.ClassFile.FieldType.int)).before args0 about1 = true := code_word (m := ⟨2, 10⟩) (meth := k2m10) (c := k2c10) (by decide +kernel) rfl rfl rfl (by decide +kernel)
set_option maxRecDepth 65536 in
theorem w_c9 : (Jvm.Cond.code ({ cls := "PivotSheet", name := "resolve", desc := "(II)Z" } : Jvm.MethodName) prog_1_method_22_code (5 : Nat) (Option.some Jvm.ClassFile.FieldType.boolean)).before args0 about1 = true := code_word (m := ⟨2, 19⟩) (meth := k2m19) (c := k2c19) (by decide +kernel) rfl rfl rfl (by decide +kernel)
set_option maxRecDepth 65536 in
theorem w_c10 : (Jvm.Cond.code ({ cls := "PivotSheet", name := "evalGroup", desc := "(ZIZI)V" } : Jvm.MethodName) prog_1_method_23_code (12 : Nat) (Option.none : Option Jvm.ClassFile.FieldType)).before args0 about1 = true := code_word (m := ⟨2, 20⟩) (meth := k2m20) (c := k2c20) (by decide +kernel) rfl rfl rfl (by decide +kernel)
set_option maxRecDepth 65536 in
theorem w_c11 : (Jvm.Cond.code ({ cls := "PivotSheet", name := "pickAgg", desc := "(IIII)I" } : Jvm.MethodName) prog_1_method_24_code (5 : Nat) (Option.some Jvm.ClassFile.FieldType.int)).before args0 about1 = true := code_word (m := ⟨2, 21⟩) (meth := k2m21) (c := k2c21) (by decide +kernel) rfl rfl rfl (by decide +kernel)
set_option maxRecDepth 65536 in
theorem w_c12 : (Jvm.Cond.code ({ cls := "PivotSheet", name := "value", desc := "(II)I" } : Jvm.MethodName) prog_1_method_11_code (3 : Nat) (Option.some Jvm.ClassFile.FieldType.int)).before args0 about1 = true := code_word (m := ⟨2, 9⟩) (meth := k2m9) (c := k2c9) (by decide +kernel) rfl rfl rfl (by decide +kernel)
set_option maxRecDepth 65536 in
theorem w_c13 : (Jvm.Cond.code ({ cls := "PivotSheet", name := "isFilled", desc := "(I)Z" } : Jvm.MethodName) prog_1_method_5_code (2 : Nat) (Option.some Jvm.ClassFile.FieldType.boolean)).before args0 about1 = true := code_word (m := ⟨2, 3⟩) (meth := k2m3) (c := k2c3) (by decide +kernel) rfl rfl rfl (by decide +kernel)
set_option maxRecDepth 65536 in
theorem w_c14 : (Jvm.Cond.code ({ cls := "PivotSheet", name := "validRow", desc := "(I)Z" } : Jvm.MethodName) prog_1_method_17_code (2 : Nat) (Option.some Jvm.ClassFile.FieldType.boolean)).before args0 about1 = true := code_word (m := ⟨2, 14⟩) (meth := k2m14) (c := k2c14) (by decide +kernel) rfl rfl rfl (by decide +kernel)
set_option maxRecDepth 65536 in
theorem w_c15 : (Jvm.Cond.code ({ cls := "PivotSheetOwnLaw", name := "val", desc := "(I)I" } : Jvm.MethodName) method_3_code (1 : Nat) (Option.some Jvm.ClassFile.FieldType.int)).before args0 about1 = true := code_word (m := ⟨1, 2⟩) (meth := k1m2) (c := k1c2) (by decide +kernel) rfl rfl rfl (by decide +kernel)
set_option maxRecDepth 65536 in
theorem w_c16 : (Jvm.Cond.code ({ cls := "PivotSheet", name := "setCell", desc := "(III)Z" } : Jvm.MethodName) prog_1_method_2_code (4 : Nat) (Option.some Jvm.ClassFile.FieldType.boolean)).before args0 about1 = true := code_word (m := ⟨2, 1⟩) (meth := k2m1) (c := k2c1) (by decide +kernel) rfl rfl rfl (by decide +kernel)
set_option maxRecDepth 65536 in
theorem w_c17 : (Jvm.Cond.code ({ cls := "PivotSheet", name := "snapshot", desc := "()V" } : Jvm.MethodName) prog_1_method_26_code (2 : Nat) (Option.none : Option Jvm.ClassFile.FieldType)).before args0 about1 = true := code_word (m := ⟨2, 23⟩) (meth := k2m23) (c := k2c23) (by decide +kernel) rfl rfl rfl (by decide +kernel)
set_option maxRecDepth 65536 in
theorem w_c18 : (Jvm.Cond.code ({ cls := "PivotSheet", name := "evalFormula", desc := "(I)V" } : Jvm.MethodName) prog_1_method_25_code (5 : Nat) (Option.none : Option Jvm.ClassFile.FieldType)).before args0 about1 = true := code_word (m := ⟨2, 22⟩) (meth := k2m22) (c := k2c22) (by decide +kernel) rfl rfl rfl (by decide +kernel)
set_option maxRecDepth 65536 in
theorem w_c19 : (Jvm.Cond.code ({ cls := "PivotSheet", name := "countChanged", desc := "()I" } : Jvm.MethodName) prog_1_method_27_code (4 : Nat) (Option.some Jvm.ClassFile.FieldType.int)).before args0 about1 = true := code_word (m := ⟨2, 24⟩) (meth := k2m24) (c := k2c24) (by decide +kernel) rfl rfl rfl (by decide +kernel)
set_option maxRecDepth 65536 in
theorem w_c20 : (Jvm.Cond.code ({ cls := "PivotSheet", name := "insertKey", desc := "(III)I" } : Jvm.MethodName) prog_1_method_21_code (6 : Nat) (Option.some Jvm.ClassFile.FieldType.int)).before args0 about1 = true := code_word (m := ⟨2, 18⟩) (meth := k2m18) (c := k2c18) (by decide +kernel) rfl rfl rfl (by decide +kernel)
set_option maxRecDepth 65536 in
theorem w_c21 : (Jvm.Cond.code ({ cls := "PivotSheet", name := "rowKey", desc := "(I)I" } : Jvm.MethodName) prog_1_method_9_code (3 : Nat) (Option.some Jvm.ClassFile.FieldType.int)).before args0 about1 = true := code_word (m := ⟨2, 7⟩) (meth := k2m7) (c := k2c7) (by decide +kernel) rfl rfl rfl (by decide +kernel)
set_option maxRecDepth 65536 in
theorem w_c22 : (Jvm.Cond.code ({ cls := "PivotSheetOwnLaw", name := "comb", desc := "(III)I" } : Jvm.MethodName) method_4_code (3 : Nat) (Option.some Jvm.ClassFile.FieldType.int)).before args0 about1 = true := code_word (m := ⟨1, 3⟩) (meth := k1m3) (c := k1c3) (by decide +kernel) rfl rfl rfl (by decide +kernel)
set_option maxRecDepth 65536 in
theorem w_c23 : (Jvm.Cond.code ({ cls := "PivotSheet", name := "colKey", desc := "(I)I" } : Jvm.MethodName) prog_1_method_10_code (3 : Nat) (Option.some Jvm.ClassFile.FieldType.int)).before args0 about1 = true := code_word (m := ⟨2, 8⟩) (meth := k2m8) (c := k2c8) (by decide +kernel) rfl rfl rfl (by decide +kernel)
set_option maxRecDepth 65536 in
theorem w_c24 : (Jvm.Cond.code ({ cls := "PivotSheet", name := "clearRow", desc := "(I)Z" } : Jvm.MethodName) prog_1_method_3_code (3 : Nat) (Option.some Jvm.ClassFile.FieldType.boolean)).before args0 about1 = true := code_word (m := ⟨2, 2⟩) (meth := k2m2) (c := k2c2) (by decide +kernel) rfl rfl rfl (by decide +kernel)
set_option maxRecDepth 65536 in
theorem w_c25 : (Jvm.Cond.code ({ cls := "PivotSheet", name := "setPivot", desc := "(IIII)Z" } : Jvm.MethodName) prog_1_method_6_code (5 : Nat) (Option.some Jvm.ClassFile.FieldType.boolean)).before args0 about1 = true := code_word (m := ⟨2, 4⟩) (meth := k2m4) (c := k2c4) (by decide +kernel) rfl rfl rfl (by decide +kernel)
set_option maxRecDepth 65536 in
theorem w_c26 : (Jvm.Cond.code ({ cls := "PivotSheet", name := "validField", desc := "(I)Z" } : Jvm.MethodName) prog_1_method_18_code (2 : Nat) (Option.some Jvm.ClassFile.FieldType.boolean)).before args0 about1 = true := code_word (m := ⟨2, 15⟩) (meth := k2m15) (c := k2c15) (by decide +kernel) rfl rfl rfl (by decide +kernel)
set_option maxRecDepth 65536 in
theorem w_c27 : (Jvm.Cond.code ({ cls := "PivotSheet", name := "setFormula", desc := "(IIII)Z" } : Jvm.MethodName) prog_1_method_13_code (5 : Nat) (Option.some Jvm.ClassFile.FieldType.boolean)).before args0 about1 = true := code_word (m := ⟨2, 11⟩) (meth := k2m11) (c := k2c11) (by decide +kernel) rfl rfl rfl (by decide +kernel)
set_option maxRecDepth 65536 in
theorem w_c28 : (Jvm.Cond.code ({ cls := "PivotSheet", name := "validSlot", desc := "(I)Z" } : Jvm.MethodName) prog_1_method_19_code (2 : Nat) (Option.some Jvm.ClassFile.FieldType.boolean)).before args0 about1 = true := code_word (m := ⟨2, 16⟩) (meth := k2m16) (c := k2c16) (by decide +kernel) rfl rfl rfl (by decide +kernel)
set_option maxRecDepth 65536 in
theorem w_c29 : (Jvm.Cond.code ({ cls := "PivotSheet", name := "formulaFound", desc := "(I)Z" } : Jvm.MethodName) prog_1_method_15_code (2 : Nat) (Option.some Jvm.ClassFile.FieldType.boolean)).before args0 about1 = true := code_word (m := ⟨2, 13⟩) (meth := k2m13) (c := k2c13) (by decide +kernel) rfl rfl rfl (by decide +kernel)
set_option maxRecDepth 65536 in
theorem w_c30 : (Jvm.Cond.code ({ cls := "PivotSheet", name := "formulaValue", desc := "(I)I" } : Jvm.MethodName) prog_1_method_14_code (2 : Nat) (Option.some Jvm.ClassFile.FieldType.int)).before args0 about1 = true := code_word (m := ⟨2, 12⟩) (meth := k2m12) (c := k2c12) (by decide +kernel) rfl rfl rfl (by decide +kernel)
def codes1 : List Jvm.Cond := [Jvm.Cond.code x code maxLocals ret, Jvm.Cond.code ({ cls := "PivotSheetOwnLaw", name := "cell", desc := "([II)I" } : Jvm.MethodName) method_2_code (2 : Nat) (Option.some Jvm.ClassFile.FieldType.int), Jvm.Cond.code ({ cls := "PivotSheet", name := "<init>", desc := "(II)V" } : Jvm.MethodName) prog_1_method_1_code (5 : Nat) (Option.none : Option Jvm.ClassFile.FieldType), Jvm.Cond.code ({ cls := "java/lang/Object", name := "<init>", desc := "()V" } : Jvm.MethodName) object_method_1_code (1 : Nat) (Option.none : Option Jvm.ClassFile.FieldType), Jvm.Cond.code ({ cls := "PivotSheetOwnLaw", name := "check", desc := "(LPivotSheet;IJ)Z" } : Jvm.MethodName) method_6_code (17 : Nat) (Option.some Jvm.ClassFile.FieldType.boolean), Jvm.Cond.code ({ cls := "PivotSheet", name := "rowKeyCount", desc := "()I" } : Jvm.MethodName) prog_1_method_7_code (1 : Nat) (Option.some Jvm.ClassFile.FieldType.int), Jvm.Cond.code ({ cls := "PivotSheet", name := "buildKeys", desc := "(II)I" } : Jvm.MethodName) prog_1_method_20_code (5 : Nat) (Option.some Jvm.ClassFile.FieldType.int), Jvm.Cond.code ({ cls := "PivotSheet", name := "colKeyCount", desc := "()I" } : Jvm.MethodName) prog_1_method_8_code (1 : Nat) (Option.some Jvm.ClassFile.FieldType.int), Jvm.Cond.code ({ cls := "PivotSheet", name := "groupCount", desc := "(II)I" } : Jvm.MethodName) prog_1_method_12_code (3 : Nat) (Option.some Jvm.ClassFile.FieldType.int), Jvm.Cond.code ({ cls := "PivotSheet", name := "resolve", desc := "(II)Z" } : Jvm.MethodName) prog_1_method_22_code (5 : Nat) (Option.some Jvm.ClassFile.FieldType.boolean), Jvm.Cond.code ({ cls := "PivotSheet", name := "evalGroup", desc := "(ZIZI)V" } : Jvm.MethodName) prog_1_method_23_code (12 : Nat) (Option.none : Option Jvm.ClassFile.FieldType), Jvm.Cond.code ({ cls := "PivotSheet", name := "pickAgg", desc := "(IIII)I" } : Jvm.MethodName) prog_1_method_24_code (5 : Nat) (Option.some Jvm.ClassFile.FieldType.int), Jvm.Cond.code ({ cls := "PivotSheet", name := "value", desc := "(II)I" } : Jvm.MethodName) prog_1_method_11_code (3 : Nat) (Option.some Jvm.ClassFile.FieldType.int), Jvm.Cond.code ({ cls := "PivotSheet", name := "isFilled", desc := "(I)Z" } : Jvm.MethodName) prog_1_method_5_code (2 : Nat) (Option.some Jvm.ClassFile.FieldType.boolean), Jvm.Cond.code ({ cls := "PivotSheet", name := "validRow", desc := "(I)Z" } : Jvm.MethodName) prog_1_method_17_code (2 : Nat) (Option.some Jvm.ClassFile.FieldType.boolean), Jvm.Cond.code ({ cls := "PivotSheetOwnLaw", name := "val", desc := "(I)I" } : Jvm.MethodName) method_3_code (1 : Nat) (Option.some Jvm.ClassFile.FieldType.int), Jvm.Cond.code ({ cls := "PivotSheet", name := "setCell", desc := "(III)Z" } : Jvm.MethodName) prog_1_method_2_code (4 : Nat) (Option.some Jvm.ClassFile.FieldType.boolean), Jvm.Cond.code ({ cls := "PivotSheet", name := "snapshot", desc := "()V" } : Jvm.MethodName) prog_1_method_26_code (2 : Nat) (Option.none : Option Jvm.ClassFile.FieldType), Jvm.Cond.code ({ cls := "PivotSheet", name := "evalFormula", desc := "(I)V" } : Jvm.MethodName) prog_1_method_25_code (5 : Nat) (Option.none : Option Jvm.ClassFile.FieldType), Jvm.Cond.code ({ cls := "PivotSheet", name := "countChanged", desc := "()I" } : Jvm.MethodName) prog_1_method_27_code (4 : Nat) (Option.some Jvm.ClassFile.FieldType.int), Jvm.Cond.code ({ cls := "PivotSheet", name := "insertKey", desc := "(III)I" } : Jvm.MethodName) prog_1_method_21_code (6 : Nat) (Option.some Jvm.ClassFile.FieldType.int), Jvm.Cond.code ({ cls := "PivotSheet", name := "rowKey", desc := "(I)I" } : Jvm.MethodName) prog_1_method_9_code (3 : Nat) (Option.some Jvm.ClassFile.FieldType.int), Jvm.Cond.code ({ cls := "PivotSheetOwnLaw", name := "comb", desc := "(III)I" } : Jvm.MethodName) method_4_code (3 : Nat) (Option.some Jvm.ClassFile.FieldType.int), Jvm.Cond.code ({ cls := "PivotSheet", name := "colKey", desc := "(I)I" } : Jvm.MethodName) prog_1_method_10_code (3 : Nat) (Option.some Jvm.ClassFile.FieldType.int), Jvm.Cond.code ({ cls := "PivotSheet", name := "clearRow", desc := "(I)Z" } : Jvm.MethodName) prog_1_method_3_code (3 : Nat) (Option.some Jvm.ClassFile.FieldType.boolean), Jvm.Cond.code ({ cls := "PivotSheet", name := "setPivot", desc := "(IIII)Z" } : Jvm.MethodName) prog_1_method_6_code (5 : Nat) (Option.some Jvm.ClassFile.FieldType.boolean), Jvm.Cond.code ({ cls := "PivotSheet", name := "validField", desc := "(I)Z" } : Jvm.MethodName) prog_1_method_18_code (2 : Nat) (Option.some Jvm.ClassFile.FieldType.boolean), Jvm.Cond.code ({ cls := "PivotSheet", name := "setFormula", desc := "(IIII)Z" } : Jvm.MethodName) prog_1_method_13_code (5 : Nat) (Option.some Jvm.ClassFile.FieldType.boolean), Jvm.Cond.code ({ cls := "PivotSheet", name := "validSlot", desc := "(I)Z" } : Jvm.MethodName) prog_1_method_19_code (2 : Nat) (Option.some Jvm.ClassFile.FieldType.boolean), Jvm.Cond.code ({ cls := "PivotSheet", name := "formulaFound", desc := "(I)Z" } : Jvm.MethodName) prog_1_method_15_code (2 : Nat) (Option.some Jvm.ClassFile.FieldType.boolean), Jvm.Cond.code ({ cls := "PivotSheet", name := "formulaValue", desc := "(I)I" } : Jvm.MethodName) prog_1_method_14_code (2 : Nat) (Option.some Jvm.ClassFile.FieldType.int)]
set_option maxRecDepth 65536 in
theorem codes_eq : words1.filter isCode = codes1 := rfl
theorem w_codes : ∀ c ∈ words1.filter isCode, c.before args0 about1 = true := by
  rw [codes_eq]
  intro c hc
  simp only [codes1, List.mem_cons, List.not_mem_nil, or_false] at hc
  rcases hc with rfl | rfl | rfl | rfl | rfl | rfl | rfl | rfl | rfl | rfl | rfl | rfl | rfl | rfl | rfl | rfl | rfl | rfl | rfl | rfl | rfl | rfl | rfl | rfl | rfl | rfl | rfl | rfl | rfl | rfl | rfl
  · exact w_c0
  · exact w_c1
  · exact w_c2
  · exact w_c3
  · exact w_c4
  · exact w_c5
  · exact w_c6
  · exact w_c7
  · exact w_c8
  · exact w_c9
  · exact w_c10
  · exact w_c11
  · exact w_c12
  · exact w_c13
  · exact w_c14
  · exact w_c15
  · exact w_c16
  · exact w_c17
  · exact w_c18
  · exact w_c19
  · exact w_c20
  · exact w_c21
  · exact w_c22
  · exact w_c23
  · exact w_c24
  · exact w_c25
  · exact w_c26
  · exact w_c27
  · exact w_c28
  · exact w_c29
  · exact w_c30
set_option maxRecDepth 65536 in
theorem w_t1 : (words1.take 24).all (fun c => isCode c || c.before args0 about1) = true := by decide +kernel
set_option maxRecDepth 65536 in
theorem w_t2 : ((words1.drop 24).take 24).all (fun c => isCode c || c.before args0 about1) = true := by decide +kernel
set_option maxRecDepth 65536 in
theorem w_t3 : (((words1.drop 24).drop 24).take 24).all (fun c => isCode c || c.before args0 about1) = true := by decide +kernel
set_option maxRecDepth 65536 in
theorem w_t4 : ((((words1.drop 24).drop 24).drop 24).take 24).all (fun c => isCode c || c.before args0 about1) = true := by decide +kernel
set_option maxRecDepth 65536 in
theorem w_t5 : (((((words1.drop 24).drop 24).drop 24).drop 24).take 24).all (fun c => isCode c || c.before args0 about1) = true := by decide +kernel
set_option maxRecDepth 65536 in
theorem w_t6 : ((((((words1.drop 24).drop 24).drop 24).drop 24).drop 24).take 24).all (fun c => isCode c || c.before args0 about1) = true := by decide +kernel
set_option maxRecDepth 65536 in
theorem w_t7 : (((((((words1.drop 24).drop 24).drop 24).drop 24).drop 24).drop 24).take 24).all (fun c => isCode c || c.before args0 about1) = true := by decide +kernel
set_option maxRecDepth 65536 in
theorem w_t8 : (((((((words1.drop 24).drop 24).drop 24).drop 24).drop 24).drop 24).drop 24).all (fun c => isCode c || c.before args0 about1) = true := by decide +kernel
theorem w_tables : (allAtoms (Jvm.Cond.code x code maxLocals ret :: tables_1)).before args0 about1 = true := by
  rw [allAtoms_all]
  show words1.all (fun c => c.before args0 about1) = true
  refine all_split ?_ w_codes
  rw [← List.take_append_drop 24 words1, List.all_append, w_t1, ← List.take_append_drop 24 (words1.drop 24), List.all_append, w_t2, ← List.take_append_drop 24 ((words1.drop 24).drop 24), List.all_append, w_t3, ← List.take_append_drop 24 (((words1.drop 24).drop 24).drop 24), List.all_append, w_t4, ← List.take_append_drop 24 ((((words1.drop 24).drop 24).drop 24).drop 24), List.all_append, w_t5, ← List.take_append_drop 24 (((((words1.drop 24).drop 24).drop 24).drop 24).drop 24), List.all_append, w_t6, ← List.take_append_drop 24 ((((((words1.drop 24).drop 24).drop 24).drop 24).drop 24).drop 24), List.all_append, w_t7, w_t8]
  rfl
set_option maxRecDepth 65536 in
theorem w_rest : rest_1_c.before args0 about1 = true := by decide +kernel
set_option maxRecDepth 65536 in
theorem w_case : (Jvm.Cond.and given_1 narrow_1).before args0 about1 = true := by decide +kernel
theorem w_applies : (headSpec (Jvm.Cond.code x code maxLocals ret :: tables_1) room_1).applies x e0.platform about1 = true :=
  (Spec.applies_iff w_frames).mpr ⟨w_running, w_runnable, w_alone, w_named, w_hears, w_ripe, w_room, w_tables⟩
theorem atStart : AtStart classFile x code maxLocals ret World_1 tables_1 room_1 Calls_1 rest_1 Pre_1 launch0 p0 e0 about1 theMethod args0 below0 :=
  ⟨lists_1, trivial, launch0.admits_env _ _ _, launch0.least_env, fairChoices_fair.cas, fairChoices_fair.clock, w_frames, w_args, w_heap, w_applies, trivial, w_rest, w_case⟩
end start1
theorem witness_1 : WitnessClaimed_1 := ⟨start1.p0, start1.e0, start1.about1, start1.theMethod, start1.args0, start1.below0, start1.atStart⟩
end Jvm.Pilot.@@N@@
