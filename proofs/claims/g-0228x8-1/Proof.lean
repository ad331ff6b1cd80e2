import JvmDerived
import JvmDerived.Pilot.@@N@@Statement
import JvmDerived.Pilot.@@N@@Code
set_option linter.unusedVariables false
set_option linter.unusedSimpArgs false
namespace Jvm.RoadKit
open Sem ClassFile Op Lib Jvm.Stand Jvm.Free Jvm.LawKit
section New
variable {p : Program} {l : Launch} {e : Env} {R : Room} {s : State} {m : MethodId} {args : Array Value} {below : List Frame} {meth : Method} {c : Code} {T : State} {locs : List Loc} {cells slots : Nat}
theorem retI (X : Stand p l e R s m args below meth c T locs cells slots) (hx : p.tables.exec = Jvm.exec) {pc : Nat} {Ls : Array Slot} {z : Int32} {rest : List Value} (hret : meth.sig.returnType = some .int) (hd : decode c.code pc = .ok (.ireturn, 1)) {fs : List Frame}
    (hl : ∀ (f : JFrame) (acts : List Action), f.method = m → f.locked = none → f.entered = [] → (doReturn e (T.setTop f) acts (some (.int z))).1 = T.setFrames fs) : Steps p.tables e below (T.setTop (mkF m pc Ls (.int z :: rest))) (T.setFrames fs) := by
  have hm' : T.vm.method? m = some meth := X.method'
  have hn : narrow .int (.int z) = .int z := rfl
  show Steps p.tables e below (T.setTop { method := m, pc := pc, locals := Ls, stack := _ :: rest, locked := none }) _
  jvm_step X.here [X.here.top, hx, hd, hm', hret, hn]
  first | (intro acts; rw [hl _ acts rfl rfl rfl]) | rw [hl _ _ rfl rfl rfl]
  exact Steps.refl _
end New
end Jvm.RoadKit
namespace Jvm.Pilot.@@N@@
open Jvm Jvm.ClassFile Sem Op Lib Jvm.Free Jvm.Stand Jvm.LawKit Jvm.RoadKit Bundle Jvm.Pilot.@@N@@.Jvm.D
/-! TABLES of this claim: printed by claim.py -/
def k0 : Nat := 1
def cName : String := "PivotSheet"
def cN : Nat := 21
def nF : Nat := 21
def kName (k : Nat) : String := bif Nat.beq k 0 then "PivotSheetL6" else "PivotSheet"
def fNm (k : Nat) : String := (bif Nat.ble 10 k then (bif Nat.ble 15 k then (bif Nat.ble 18 k then (bif Nat.ble 19 k then (bif Nat.ble 20 k then "gVal" else "gCount") else "selCk") else (bif Nat.ble 16 k then (bif Nat.ble 17 k then "selUseC" else "selRk") else "selUseR")) else (bif Nat.ble 12 k then (bif Nat.ble 13 k then (bif Nat.ble 14 k then "last" else "nForms") else "nRows") else (bif Nat.ble 11 k then "keys" else "prevFound"))) else (bif Nat.ble 5 k then (bif Nat.ble 7 k then (bif Nat.ble 8 k then (bif Nat.ble 9 k then "prevVal" else "fCk") else "fRk") else (bif Nat.ble 6 k then "fMode" else "ag")) else (bif Nat.ble 2 k then (bif Nat.ble 3 k then (bif Nat.ble 4 k then "vf" else "cf") else "rf") else (bif Nat.ble 1 k then "filled" else "data"))))
def fDs (k : Nat) : String := (bif Nat.ble 10 k then (bif Nat.ble 15 k then (bif Nat.ble 18 k then (bif Nat.ble 19 k then (bif Nat.ble 20 k then "I" else "I") else "I") else (bif Nat.ble 16 k then (bif Nat.ble 17 k then "Z" else "I") else "Z")) else (bif Nat.ble 12 k then (bif Nat.ble 13 k then (bif Nat.ble 14 k then "I" else "I") else "I") else (bif Nat.ble 11 k then "[I" else "[Z"))) else (bif Nat.ble 5 k then (bif Nat.ble 7 k then (bif Nat.ble 8 k then (bif Nat.ble 9 k then "[I" else "[I") else "[I") else (bif Nat.ble 6 k then "[I" else "I")) else (bif Nat.ble 2 k then (bif Nat.ble 3 k then (bif Nat.ble 4 k then "I" else "I") else "I") else (bif Nat.ble 1 k then "[Z" else "[I"))))
def fTy (k : Nat) : FieldType := (bif Nat.ble 10 k then (bif Nat.ble 15 k then (bif Nat.ble 18 k then (bif Nat.ble 19 k then (bif Nat.ble 20 k then .int else .int) else .int) else (bif Nat.ble 16 k then (bif Nat.ble 17 k then .boolean else .int) else .boolean)) else (bif Nat.ble 12 k then (bif Nat.ble 13 k then (bif Nat.ble 14 k then .int else .int) else .int) else (bif Nat.ble 11 k then (.array .int) else (.array .boolean)))) else (bif Nat.ble 5 k then (bif Nat.ble 7 k then (bif Nat.ble 8 k then (bif Nat.ble 9 k then (.array .int) else (.array .int)) else (.array .int)) else (bif Nat.ble 6 k then (.array .int) else .int)) else (bif Nat.ble 2 k then (bif Nat.ble 3 k then (bif Nat.ble 4 k then .int else .int) else .int) else (bif Nat.ble 1 k then (.array .boolean) else (.array .int)))))
def fFin (k : Nat) : Bool := (bif Nat.ble 10 k then (bif Nat.ble 15 k then (bif Nat.ble 18 k then (bif Nat.ble 19 k then (bif Nat.ble 20 k then false else false) else false) else (bif Nat.ble 16 k then (bif Nat.ble 17 k then false else false) else false)) else (bif Nat.ble 12 k then (bif Nat.ble 13 k then (bif Nat.ble 14 k then false else false) else false) else (bif Nat.ble 11 k then false else false))) else (bif Nat.ble 5 k then (bif Nat.ble 7 k then (bif Nat.ble 8 k then (bif Nat.ble 9 k then false else false) else false) else (bif Nat.ble 6 k then false else false)) else (bif Nat.ble 2 k then (bif Nat.ble 3 k then (bif Nat.ble 4 k then false else false) else false) else (bif Nat.ble 1 k then false else false))))
def cDef : List Value := [.null, .null, .int 0, .int 0, .int 0, .int 0, .null, .null, .null, .null, .null, .null, .int 0, .int 0, .int 0, .int 0, .int 0, .int 0, .int 0, .int 0, .int 0]
def cK : List Value := [.int (2147483647), .long (15), .long (-1), .long (65535)]
def pN : Nat := 28
def pTop (m : Nat) : Nat := (bif Nat.ble 14 m then (bif Nat.ble 21 m then (bif Nat.ble 24 m then (bif Nat.ble 26 m then (bif Nat.ble 27 m then 15 else 74) else (bif Nat.ble 25 m then 28 else 111)) else (bif Nat.ble 22 m then (bif Nat.ble 23 m then 64 else 50) else 53)) else (bif Nat.ble 17 m then (bif Nat.ble 19 m then (bif Nat.ble 20 m then 66 else 5) else (bif Nat.ble 18 m then 28 else 75)) else (bif Nat.ble 15 m then (bif Nat.ble 16 m then 20 else 11) else 10))) else (bif Nat.ble 7 m then (bif Nat.ble 10 m then (bif Nat.ble 12 m then (bif Nat.ble 13 m then 36 else 39) else (bif Nat.ble 11 m then 181 else 50)) else (bif Nat.ble 8 m then (bif Nat.ble 9 m then 130 else 36) else 17)) else (bif Nat.ble 3 m then (bif Nat.ble 5 m then (bif Nat.ble 6 m then 15 else 18) else (bif Nat.ble 4 m then 30 else 18)) else (bif Nat.ble 1 m then (bif Nat.ble 2 m then 45 else 147) else 1012))))
def pK (m : Nat) : Nat := (bif Nat.ble 14 m then (bif Nat.ble 21 m then (bif Nat.ble 24 m then (bif Nat.ble 26 m then (bif Nat.ble 27 m then 1 else 1) else (bif Nat.ble 25 m then 1 else 1)) else (bif Nat.ble 22 m then (bif Nat.ble 23 m then 1 else 1) else 1)) else (bif Nat.ble 17 m then (bif Nat.ble 19 m then (bif Nat.ble 20 m then 1 else 1) else (bif Nat.ble 18 m then 1 else 1)) else (bif Nat.ble 15 m then (bif Nat.ble 16 m then 1 else 1) else 1))) else (bif Nat.ble 7 m then (bif Nat.ble 10 m then (bif Nat.ble 12 m then (bif Nat.ble 13 m then 1 else 1) else (bif Nat.ble 11 m then 1 else 1)) else (bif Nat.ble 8 m then (bif Nat.ble 9 m then 1 else 1) else 1)) else (bif Nat.ble 3 m then (bif Nat.ble 5 m then (bif Nat.ble 6 m then 0 else 1) else (bif Nat.ble 4 m then 1 else 1)) else (bif Nat.ble 1 m then (bif Nat.ble 2 m then 1 else 1) else 0))))
def pNm (m : Nat) : String := (bif Nat.ble 14 m then (bif Nat.ble 21 m then (bif Nat.ble 24 m then (bif Nat.ble 26 m then (bif Nat.ble 27 m then "validField" else "setPivot") else (bif Nat.ble 25 m then "rowKey" else "insertKey")) else (bif Nat.ble 22 m then (bif Nat.ble 23 m then "countChanged" else "snapshot") else "setCell")) else (bif Nat.ble 17 m then (bif Nat.ble 19 m then (bif Nat.ble 20 m then "clearRow" else "lastChanged") else (bif Nat.ble 18 m then "formulaFound" else "evalFormula")) else (bif Nat.ble 15 m then (bif Nat.ble 16 m then "formulaValue" else "colKeyCount") else "rowKeyCount"))) else (bif Nat.ble 7 m then (bif Nat.ble 10 m then (bif Nat.ble 12 m then (bif Nat.ble 13 m then "groupCount" else "pickAgg") else (bif Nat.ble 11 m then "evalGroup" else "buildKeys")) else (bif Nat.ble 8 m then (bif Nat.ble 9 m then "resolve" else "value") else "isFilled")) else (bif Nat.ble 3 m then (bif Nat.ble 5 m then (bif Nat.ble 6 m then "cell" else "validRow") else (bif Nat.ble 4 m then "getCell" else "validSlot")) else (bif Nat.ble 1 m then (bif Nat.ble 2 m then "setFormula" else "<init>") else "law"))))
def pDs (m : Nat) : String := (bif Nat.ble 14 m then (bif Nat.ble 21 m then (bif Nat.ble 24 m then (bif Nat.ble 26 m then (bif Nat.ble 27 m then "(I)Z" else "(IIII)Z") else (bif Nat.ble 25 m then "(I)I" else "(III)I")) else (bif Nat.ble 22 m then (bif Nat.ble 23 m then "()I" else "()V") else "(III)Z")) else (bif Nat.ble 17 m then (bif Nat.ble 19 m then (bif Nat.ble 20 m then "(I)Z" else "()I") else (bif Nat.ble 18 m then "(I)Z" else "(I)V")) else (bif Nat.ble 15 m then (bif Nat.ble 16 m then "(I)I" else "()I") else "()I"))) else (bif Nat.ble 7 m then (bif Nat.ble 10 m then (bif Nat.ble 12 m then (bif Nat.ble 13 m then "(II)I" else "(IIII)I") else (bif Nat.ble 11 m then "(ZIZI)V" else "(II)I")) else (bif Nat.ble 8 m then (bif Nat.ble 9 m then "(II)Z" else "(II)I") else "(I)Z")) else (bif Nat.ble 3 m then (bif Nat.ble 5 m then (bif Nat.ble 6 m then "(JII)I" else "(I)Z") else (bif Nat.ble 4 m then "(II)I" else "(I)Z")) else (bif Nat.ble 1 m then (bif Nat.ble 2 m then "(IIII)Z" else "(II)V") else "([I)Z"))))
def pName (m : Nat) : MethodName := ⟨kName (pK m), pNm m, pDs m⟩
def pBytes (m : Nat) : ByteArray := (bif Nat.ble 14 m then (bif Nat.ble 21 m then (bif Nat.ble 24 m then (bif Nat.ble 26 m then (bif Nat.ble 27 m then prog_1_method_18_code else prog_1_method_6_code) else (bif Nat.ble 25 m then prog_1_method_9_code else prog_1_method_21_code)) else (bif Nat.ble 22 m then (bif Nat.ble 23 m then prog_1_method_27_code else prog_1_method_26_code) else prog_1_method_2_code)) else (bif Nat.ble 17 m then (bif Nat.ble 19 m then (bif Nat.ble 20 m then prog_1_method_3_code else prog_1_method_16_code) else (bif Nat.ble 18 m then prog_1_method_15_code else prog_1_method_25_code)) else (bif Nat.ble 15 m then (bif Nat.ble 16 m then prog_1_method_14_code else prog_1_method_8_code) else prog_1_method_7_code))) else (bif Nat.ble 7 m then (bif Nat.ble 10 m then (bif Nat.ble 12 m then (bif Nat.ble 13 m then prog_1_method_12_code else prog_1_method_24_code) else (bif Nat.ble 11 m then prog_1_method_23_code else prog_1_method_20_code)) else (bif Nat.ble 8 m then (bif Nat.ble 9 m then prog_1_method_22_code else prog_1_method_11_code) else prog_1_method_5_code)) else (bif Nat.ble 3 m then (bif Nat.ble 5 m then (bif Nat.ble 6 m then method_2_code else prog_1_method_17_code) else (bif Nat.ble 4 m then prog_1_method_4_code else prog_1_method_19_code)) else (bif Nat.ble 1 m then (bif Nat.ble 2 m then prog_1_method_13_code else prog_1_method_1_code) else code))))
def pMaxL (m : Nat) : Nat := (bif Nat.ble 14 m then (bif Nat.ble 21 m then (bif Nat.ble 24 m then (bif Nat.ble 26 m then (bif Nat.ble 27 m then 2 else 5) else (bif Nat.ble 25 m then 3 else 6)) else (bif Nat.ble 22 m then (bif Nat.ble 23 m then 4 else 2) else 4)) else (bif Nat.ble 17 m then (bif Nat.ble 19 m then (bif Nat.ble 20 m then 3 else 1) else (bif Nat.ble 18 m then 2 else 5)) else (bif Nat.ble 15 m then (bif Nat.ble 16 m then 2 else 1) else 1))) else (bif Nat.ble 7 m then (bif Nat.ble 10 m then (bif Nat.ble 12 m then (bif Nat.ble 13 m then 3 else 5) else (bif Nat.ble 11 m then 12 else 5)) else (bif Nat.ble 8 m then (bif Nat.ble 9 m then 5 else 3) else 2)) else (bif Nat.ble 3 m then (bif Nat.ble 5 m then (bif Nat.ble 6 m then 4 else 2) else (bif Nat.ble 4 m then 3 else 2)) else (bif Nat.ble 1 m then (bif Nat.ble 2 m then 5 else 5) else 35))))
def pRet (m : Nat) : Option FieldType := (bif Nat.ble 14 m then (bif Nat.ble 21 m then (bif Nat.ble 24 m then (bif Nat.ble 26 m then (bif Nat.ble 27 m then (some .boolean) else (some .boolean)) else (bif Nat.ble 25 m then (some .int) else (some .int))) else (bif Nat.ble 22 m then (bif Nat.ble 23 m then (some .int) else none) else (some .boolean))) else (bif Nat.ble 17 m then (bif Nat.ble 19 m then (bif Nat.ble 20 m then (some .boolean) else (some .int)) else (bif Nat.ble 18 m then (some .boolean) else none)) else (bif Nat.ble 15 m then (bif Nat.ble 16 m then (some .int) else (some .int)) else (some .int)))) else (bif Nat.ble 7 m then (bif Nat.ble 10 m then (bif Nat.ble 12 m then (bif Nat.ble 13 m then (some .int) else (some .int)) else (bif Nat.ble 11 m then none else (some .int))) else (bif Nat.ble 8 m then (bif Nat.ble 9 m then (some .boolean) else (some .int)) else (some .boolean))) else (bif Nat.ble 3 m then (bif Nat.ble 5 m then (bif Nat.ble 6 m then (some .int) else (some .boolean)) else (bif Nat.ble 4 m then (some .int) else (some .boolean))) else (bif Nat.ble 1 m then (bif Nat.ble 2 m then (some .boolean) else none) else (some .boolean)))))
def pNA (m : Nat) : Nat := (bif Nat.ble 14 m then (bif Nat.ble 21 m then (bif Nat.ble 24 m then (bif Nat.ble 26 m then (bif Nat.ble 27 m then 1 else 4) else (bif Nat.ble 25 m then 1 else 3)) else (bif Nat.ble 22 m then (bif Nat.ble 23 m then 0 else 0) else 3)) else (bif Nat.ble 17 m then (bif Nat.ble 19 m then (bif Nat.ble 20 m then 1 else 0) else (bif Nat.ble 18 m then 1 else 1)) else (bif Nat.ble 15 m then (bif Nat.ble 16 m then 1 else 0) else 0))) else (bif Nat.ble 7 m then (bif Nat.ble 10 m then (bif Nat.ble 12 m then (bif Nat.ble 13 m then 2 else 4) else (bif Nat.ble 11 m then 4 else 2)) else (bif Nat.ble 8 m then (bif Nat.ble 9 m then 2 else 2) else 1)) else (bif Nat.ble 3 m then (bif Nat.ble 5 m then (bif Nat.ble 6 m then 3 else 1) else (bif Nat.ble 4 m then 2 else 1)) else (bif Nat.ble 1 m then (bif Nat.ble 2 m then 4 else 2) else 1))))
def pFr (m : Nat) : Nat := (bif Nat.ble 14 m then (bif Nat.ble 21 m then (bif Nat.ble 24 m then (bif Nat.ble 26 m then (bif Nat.ble 27 m then 0 else 4) else (bif Nat.ble 25 m then 2 else 0)) else (bif Nat.ble 22 m then (bif Nat.ble 23 m then 3 else 3) else 4)) else (bif Nat.ble 17 m then (bif Nat.ble 19 m then (bif Nat.ble 20 m then 4 else 0) else (bif Nat.ble 18 m then 3 else 2)) else (bif Nat.ble 15 m then (bif Nat.ble 16 m then 3 else 2) else 2))) else (bif Nat.ble 7 m then (bif Nat.ble 10 m then (bif Nat.ble 12 m then (bif Nat.ble 13 m then 3 else 0) else (bif Nat.ble 11 m then 1 else 1)) else (bif Nat.ble 8 m then (bif Nat.ble 9 m then 2 else 3) else 1)) else (bif Nat.ble 3 m then (bif Nat.ble 5 m then (bif Nat.ble 6 m then 0 else 0) else (bif Nat.ble 4 m then 1 else 0)) else (bif Nat.ble 1 m then (bif Nat.ble 2 m then 1 else 1) else 5))))
def pLo (m : Nat) : Nat := (bif Nat.ble 14 m then (bif Nat.ble 21 m then (bif Nat.ble 24 m then (bif Nat.ble 26 m then (bif Nat.ble 27 m then 0 else 72) else (bif Nat.ble 25 m then 33 else 0)) else (bif Nat.ble 22 m then (bif Nat.ble 23 m then 56 else 56) else 72)) else (bif Nat.ble 17 m then (bif Nat.ble 19 m then (bif Nat.ble 20 m then 72 else 0) else (bif Nat.ble 18 m then 56 else 40)) else (bif Nat.ble 15 m then (bif Nat.ble 16 m then 56 else 33) else 33))) else (bif Nat.ble 7 m then (bif Nat.ble 10 m then (bif Nat.ble 12 m then (bif Nat.ble 13 m then 49 else 0) else (bif Nat.ble 11 m then 17 else 17)) else (bif Nat.ble 8 m then (bif Nat.ble 9 m then 33 else 49) else 13)) else (bif Nat.ble 3 m then (bif Nat.ble 5 m then (bif Nat.ble 6 m then 0 else 0) else (bif Nat.ble 4 m then 13 else 0)) else (bif Nat.ble 1 m then (bif Nat.ble 2 m then 13 else 12) else 88))))
def tB (k p : Nat) (a b : Option (Instr × Nat)) : Option (Instr × Nat) := bif Nat.ble k p then a else b
def tL (k p : Nat) (i : Instr) (x : Nat) : Option (Instr × Nat) := bif Nat.beq p k then some (i, x) else none
set_option maxHeartbeats 4000000 in
def cd0 (p : Nat) : Option (Instr × Nat) := (tB 468 p (tB 729 p (tB 864 p (tB 941 p (tB 977 p (tB 994 p (tB 1002 p (tB 1007 p (tB 1010 p (tB 1011 p (tL 1011 p .ireturn 0) (tL 1010 p (.iconst 1) 0)) (tL 1007 p (.goto (-965)) 42)) (tB 1004 p (tL 1004 p (.iinc 13 4) 0) (tL 1002 p (.istore 12) 0))) (tB 998 p (tB 1001 p (tL 1001 p (.iconst 0) 0) (tL 998 p (.goto 4) 1002)) (tB 997 p (tL 997 p (.iconst 1) 0) (tL 994 p (.ifCond .le 7) 1001)))) (tB 986 p (tB 988 p (tB 990 p (tB 992 p (tL 992 p (.iload 21) 0) (tL 990 p (.istore 11) 0)) (tL 988 p (.iload 27) 0)) (tB 987 p (tL 987 p .ireturn 0) (tL 986 p (.iconst 0) 0))) (tB 981 p (tB 983 p (tL 983 p (.if_icmp .eq 5) 988) (tL 981 p (.iload 10) 0)) (tB 978 p (tL 978 p (.invokevirtual 70) 19) (tL 977 p (.aload_n 1) 0))))) (tB 959 p (tB 968 p (tB 972 p (tB 973 p (tB 974 p (tL 974 p (.goto 14) 988) (tL 973 p .ireturn 0)) (tL 972 p (.iconst 0) 0)) (tB 969 p (tL 969 p (.if_icmp .le 5) 974) (tL 968 p .iadd 0))) (tB 964 p (tB 966 p (tL 966 p (.iload 32) 0) (tL 964 p (.iload 33) 0)) (tB 962 p (tL 962 p (.iload 10) 0) (tL 959 p (.if_icmp .lt 13) 972)))) (tB 949 p (tB 953 p (tB 955 p (tB 957 p (tL 957 p (.iload 33) 0) (tL 955 p (.iload 10) 0)) (tL 953 p (.istore 10) 0)) (tB 950 p (tL 950 p (.invokevirtual 70) 19) (tL 949 p (.aload_n 1) 0))) (tB 946 p (tB 947 p (tL 947 p (.istore 33) 0) (tL 946 p (.iconst 0) 0)) (tB 943 p (tL 943 p (.goto 4) 947) (tL 941 p (.iload 31) 0)))))) (tB 899 p (tB 921 p (tB 931 p (tB 935 p (tB 936 p (tB 938 p (tL 938 p (.if_icmp .eq 8) 946) (tL 936 p (.iload 12) 0)) (tL 935 p (.iconst 0) 0)) (tB 932 p (tL 932 p (.goto 4) 936) (tL 931 p (.iconst 1) 0))) (tB 926 p (tB 928 p (tL 928 p (.ifCond .le 7) 935) (tL 926 p (.iload 21) 0)) (tB 923 p (tL 923 p (.if_icmp .ne 18) 941) (tL 921 p (.iload 11) 0)))) (tB 910 p (tB 915 p (tB 916 p (tB 919 p (tL 919 p (.iload 27) 0) (tL 916 p (.if_icmp .ge 61) 977)) (tL 915 p (.iconst 3) 0)) (tB 913 p (tL 913 p (.iload 14) 0) (tL 910 p (.ifCond .eq 67) 977))) (tB 905 p (tB 908 p (tL 908 p (.iload 19) 0) (tL 905 p (.goto (-101)) 804)) (tB 902 p (tL 902 p (.iinc 33 1) 0) (tL 899 p (.iinc 32 1) 0))))) (tB 882 p (tB 888 p (tB 893 p (tB 895 p (tB 896 p (tL 896 p (.if_icmp .eq 6) 902) (tL 895 p (.iconst 4) 0)) (tL 893 p (.iload 34) 0)) (tB 890 p (tL 890 p (.ifCond .eq 12) 902) (tL 888 p (.iload 34) 0))) (tB 886 p (tB 887 p (tL 887 p .ireturn 0) (tL 886 p (.iconst 0) 0)) (tB 883 p (tL 883 p (.if_icmp .eq 5) 888) (tL 882 p (.iconst 0) 0)))) (tB 873 p (tB 878 p (tB 879 p (tL 879 p (.goto 4) 883) (tL 878 p (.iconst 1) 0)) (tB 875 p (tL 875 p (.ifCond .le 7) 882) (tL 873 p (.iload 21) 0))) (tB 868 p (tB 870 p (tL 870 p (.invokevirtual 67) 18) (tL 868 p (.iload 33) 0)) (tB 867 p (tL 867 p (.aload_n 1) 0) (tL 864 p (.if_icmp .ne 22) 886))))))) (tB 798 p (tB 827 p (tB 846 p (tB 853 p (tB 857 p (tB 859 p (tB 862 p (tL 862 p (.iload 27) 0) (tL 859 p (.invokevirtual 64) 16)) (tL 857 p (.iload 33) 0)) (tB 856 p (tL 856 p (.aload_n 1) 0) (tL 853 p (.iinc 31 1) 0))) (tB 849 p (tB 850 p (tL 850 p (.if_icmp .ne 38) 888) (tL 849 p (.iconst 4) 0)) (tB 847 p (tL 847 p (.iload 34) 0) (tL 846 p .ireturn 0)))) (tB 836 p (tB 839 p (tB 842 p (tB 845 p (tL 845 p (.iconst 0) 0) (tL 842 p (.ifCond .eq 5) 847)) (tL 839 p (.invokevirtual 67) 18)) (tB 837 p (tL 837 p (.iload 33) 0) (tL 836 p (.aload_n 1) 0))) (tB 830 p (tB 833 p (tL 833 p (.ifCond .ne 12) 845) (tL 830 p (.invokevirtual 64) 16)) (tB 828 p (tL 828 p (.iload 33) 0) (tL 827 p (.aload_n 1) 0))))) (tB 812 p (tB 817 p (tB 820 p (tB 822 p (tB 824 p (tL 824 p (.ifCond .ne 23) 847) (tL 822 p (.iload 34) 0)) (tL 820 p (.istore 34) 0)) (tB 819 p (tL 819 p .iand 0) (tL 817 p (.bipush 7) 0))) (tB 815 p (tB 816 p (tL 816 p .ishr 0) (tL 815 p .imul 0)) (tB 814 p (tL 814 p (.iconst 3) 0) (tL 812 p (.iload 33) 0)))) (tB 804 p (tB 807 p (tB 810 p (tL 810 p (.iload 9) 0) (tL 807 p (.if_icmp .ge 101) 908)) (tB 806 p (tL 806 p (.iconst 4) 0) (tL 804 p (.iload 33) 0))) (tB 801 p (tB 802 p (tL 802 p (.istore 33) 0) (tL 801 p (.iconst 0) 0)) (tB 799 p (tL 799 p (.istore 32) 0) (tL 798 p (.iconst 0) 0)))))) (tB 764 p (tB 783 p (tB 790 p (tB 794 p (tB 795 p (tB 796 p (tL 796 p (.istore 31) 0) (tL 795 p (.iconst 0) 0)) (tL 794 p .ireturn 0)) (tB 793 p (tL 793 p (.iconst 0) 0) (tL 790 p (.if_icmp .eq 5) 795))) (tB 785 p (tB 788 p (tL 788 p (.iload 30) 0) (tL 785 p (.invokevirtual 60) 25)) (tB 784 p (tL 784 p (.iconst 0) 0) (tL 783 p (.aload_n 1) 0)))) (tB 773 p (tB 777 p (tB 778 p (tB 780 p (tL 780 p (.ifCond .le 15) 795) (tL 778 p (.iload 28) 0)) (tL 777 p .ireturn 0)) (tB 776 p (tL 776 p (.iconst 0) 0) (tL 773 p (.if_icmp .eq 5) 778))) (tB 768 p (tB 771 p (tL 771 p (.iload 29) 0) (tL 768 p (.invokevirtual 57) 15)) (tB 767 p (tL 767 p (.aload_n 1) 0) (tL 764 p (.if_icmp .ne 12) 776))))) (tB 744 p (tB 752 p (tB 758 p (tB 759 p (tB 762 p (tL 762 p (.iload 28) 0) (tL 759 p (.invokevirtual 53) 14)) (tL 758 p (.aload_n 1) 0)) (tB 755 p (tL 755 p (.goto (-47)) 708) (tL 752 p (.iinc 31 1) 0))) (tB 746 p (tB 749 p (tL 749 p (.iinc 29 1) 0) (tL 746 p (.if_icmp .ne 6) 752)) (tB 745 p (tL 745 p (.iconst 1) 0) (tL 744 p .iand 0)))) (tB 738 p (tB 742 p (tB 743 p (tL 743 p (.iconst 1) 0) (tL 742 p .ishr 0)) (tB 740 p (tL 740 p (.iload 31) 0) (tL 738 p (.iload 26) 0))) (tB 734 p (tB 736 p (tL 736 p (.istore 30) 0) (tL 734 p (.iload 31) 0)) (tB 731 p (tL 731 p (.ifCond .ge 7) 738) (tL 729 p (.iload 30) 0)))))))) (tB 597 p (tB 670 p (tB 697 p (tB 712 p (tB 720 p (tB 722 p (tB 723 p (tB 726 p (tL 726 p (.iinc 28 1) 0) (tL 723 p (.if_icmp .ne 15) 738)) (tL 722 p (.iconst 1) 0)) (tB 721 p (tL 721 p .iand 0) (tL 720 p (.iconst 1) 0))) (tB 717 p (tB 719 p (tL 719 p .ishr 0) (tL 717 p (.iload 31) 0)) (tB 715 p (tL 715 p (.iload 25) 0) (tL 712 p (.if_icmp .ge 46) 758)))) (tB 703 p (tB 706 p (tB 708 p (tB 710 p (tL 710 p (.bipush 16) 0) (tL 708 p (.iload 31) 0)) (tL 706 p (.istore 31) 0)) (tB 705 p (tL 705 p (.iconst 0) 0) (tL 703 p (.istore 30) 0))) (tB 700 p (tB 702 p (tL 702 p (.iconst (-1)) 0) (tL 700 p (.istore 29) 0)) (tB 699 p (tL 699 p (.iconst 0) 0) (tL 697 p (.istore 28) 0))))) (tB 683 p (tB 689 p (tB 694 p (tB 695 p (tB 696 p (tL 696 p (.iconst 0) 0) (tL 695 p .ireturn 0)) (tL 694 p (.iconst 0) 0)) (tB 691 p (tL 691 p (.if_icmp .eq 5) 696) (tL 689 p (.iload 21) 0))) (tB 685 p (tB 686 p (tL 686 p (.invokevirtual 50) 13) (tL 685 p (.iconst (-1)) 0)) (tB 684 p (tL 684 p (.iconst (-1)) 0) (tL 683 p (.aload_n 1) 0)))) (tB 676 p (tB 681 p (tB 682 p (tL 682 p .ireturn 0) (tL 681 p (.iconst 0) 0)) (tB 678 p (tL 678 p (.if_icmp .eq 5) 683) (tL 676 p (.iload 27) 0))) (tB 672 p (tB 673 p (tL 673 p (.invokevirtual 47) 8) (tL 672 p (.iconst (-1)) 0)) (tB 671 p (tL 671 p (.iconst (-1)) 0) (tL 670 p (.aload_n 1) 0)))))) (tB 630 p (tB 650 p (tB 658 p (tB 663 p (tB 666 p (tB 668 p (tL 668 p (.istore 27) 0) (tL 666 p (.iload 24) 0)) (tL 663 p (.goto 5) 668)) (tB 661 p (tL 661 p (.iload 23) 0) (tL 658 p (.if_icmp .ne 8) 666))) (tB 655 p (tB 657 p (tL 657 p (.iconst 2) 0) (tL 655 p (.iload 8) 0)) (tB 652 p (tL 652 p (.goto 16) 668) (tL 650 p (.iload 21) 0)))) (tB 639 p (tB 644 p (tB 646 p (tB 647 p (tL 647 p (.if_icmp .ne 8) 655) (tL 646 p (.iconst 1) 0)) (tL 644 p (.iload 8) 0)) (tB 641 p (tL 641 p (.goto 27) 668) (tL 639 p (.iload 22) 0))) (tB 634 p (tB 636 p (tL 636 p (.ifCond .ne 8) 644) (tL 634 p (.iload 8) 0)) (tB 631 p (tL 631 p (.goto 37) 668) (tL 630 p (.iconst 0) 0))))) (tB 610 p (tB 617 p (tB 622 p (tB 625 p (tB 627 p (tL 627 p (.ifCond .ne 7) 634) (tL 625 p (.iload 21) 0)) (tL 622 p (.goto (-156)) 466)) (tB 619 p (tL 619 p (.iinc 27 1) 0) (tL 617 p (.istore 26) 0))) (tB 615 p (tB 616 p (tL 616 p .ior 0) (tL 615 p .ishl 0)) (tB 612 p (tL 612 p (.invokestatic 38) 6) (tL 610 p (.iload 6) 0)))) (tB 604 p (tB 607 p (tB 608 p (tL 608 p (.iload 28) 0) (tL 607 p (.lload_n 2) 0)) (tB 606 p (tL 606 p (.iconst 1) 0) (tL 604 p (.iload 26) 0))) (tB 601 p (tB 602 p (tL 602 p (.istore 25) 0) (tL 601 p .ior 0)) (tB 600 p (tL 600 p .ishl 0) (tL 597 p (.invokestatic 38) 6))))))) (tB 527 p (tB 562 p (tB 580 p (tB 589 p (tB 592 p (tB 593 p (tB 595 p (tL 595 p (.iload 5) 0) (tL 593 p (.iload 28) 0)) (tL 592 p (.lload_n 2) 0)) (tB 591 p (tL 591 p (.iconst 1) 0) (tL 589 p (.iload 25) 0))) (tB 585 p (tB 587 p (tL 587 p (.istore 24) 0) (tL 585 p (.iload 30) 0)) (tB 582 p (tL 582 p (.if_icmp .le 7) 589) (tL 580 p (.iload 24) 0)))) (tB 569 p (tB 574 p (tB 576 p (tB 578 p (tL 578 p (.iload 30) 0) (tL 576 p (.istore 23) 0)) (tL 574 p (.iload 30) 0)) (tB 571 p (tL 571 p (.if_icmp .ge 7) 578) (tL 569 p (.iload 23) 0))) (tB 565 p (tB 567 p (tL 567 p (.iload 30) 0) (tL 565 p (.istore 22) 0)) (tB 564 p (tL 564 p .iadd 0) (tL 562 p (.iload 30) 0))))) (tB 542 p (tB 550 p (tB 555 p (tB 557 p (tB 560 p (tL 560 p (.iload 22) 0) (tL 557 p (.iinc 21 1) 0)) (tL 555 p (.istore 30) 0)) (tB 552 p (tL 552 p (.invokestatic 38) 6) (tL 550 p (.iload 7) 0))) (tB 547 p (tB 548 p (tL 548 p (.iload 28) 0) (tL 547 p (.lload_n 2) 0)) (tB 544 p (tL 544 p (.ifCond .eq 75) 619) (tL 542 p (.iload 29) 0)))) (tB 535 p (tB 540 p (tB 541 p (tL 541 p .ireturn 0) (tL 540 p (.iconst 0) 0)) (tB 537 p (tL 537 p (.if_icmp .eq 5) 542) (tL 535 p (.iload 29) 0))) (tB 530 p (tB 532 p (tL 532 p (.invokevirtual 44) 7) (tL 530 p (.iload 28) 0)) (tB 529 p (tL 529 p (.aload_n 1) 0) (tL 527 p (.istore 29) 0)))))) (tB 496 p (tB 513 p (tB 518 p (tB 522 p (tB 523 p (tB 526 p (tL 526 p (.iconst 0) 0) (tL 523 p (.goto 4) 527)) (tL 522 p (.iconst 1) 0)) (tB 519 p (tL 519 p (.if_icmp .ne 7) 526) (tL 518 p (.iconst 1) 0))) (tB 516 p (tB 517 p (tL 517 p .iand 0) (tL 516 p (.iconst 1) 0)) (tB 515 p (tL 515 p .ishr 0) (tL 513 p (.iload 28) 0)))) (tB 504 p (tB 507 p (tB 508 p (tB 511 p (tL 511 p (.iload 4) 0) (tL 508 p (.ifCond .ne 111) 619)) (tL 507 p .iand 0)) (tB 506 p (tL 506 p (.iconst 3) 0) (tL 504 p (.iload 27) 0))) (tB 502 p (tB 503 p (tL 503 p .ireturn 0) (tL 502 p (.iconst 0) 0)) (tB 499 p (tL 499 p (.if_icmp .eq 5) 504) (tL 496 p (.invokestatic 38) 6))))) (tB 482 p (tB 489 p (tB 492 p (tB 494 p (tB 495 p (tL 495 p .iand 0) (tL 494 p (.iconst 3) 0)) (tL 492 p (.iload 27) 0)) (tB 490 p (tL 490 p (.iload 28) 0) (tL 489 p (.lload_n 2) 0))) (tB 485 p (tB 486 p (tL 486 p (.invokevirtual 34) 4) (tL 485 p .iand 0)) (tB 484 p (tL 484 p (.iconst 3) 0) (tL 482 p (.iload 27) 0)))) (tB 476 p (tB 479 p (tB 480 p (tL 480 p (.iload 28) 0) (tL 479 p (.aload_n 1) 0)) (tB 477 p (tL 477 p (.istore 28) 0) (tL 476 p .ishr 0))) (tB 473 p (tB 475 p (tL 475 p (.iconst 2) 0) (tL 473 p (.iload 27) 0)) (tB 470 p (tL 470 p (.if_icmp .ge 155) 625) (tL 468 p (.bipush 16) 0))))))))) (tB 221 p (tB 348 p (tB 415 p (tB 439 p (tB 454 p (tB 460 p (tB 463 p (tB 464 p (tB 466 p (tL 466 p (.iload 27) 0) (tL 464 p (.istore 27) 0)) (tL 463 p (.iconst 0) 0)) (tB 461 p (tL 461 p (.istore 26) 0) (tL 460 p (.iconst 0) 0))) (tB 457 p (tB 458 p (tL 458 p (.istore 25) 0) (tL 457 p (.iconst 0) 0)) (tB 455 p (tL 455 p (.istore 24) 0) (tL 454 p (.iconst (-1)) 0)))) (tB 445 p (tB 448 p (tB 450 p (tB 452 p (tL 452 p (.istore 23) 0) (tL 450 p (.bipush 16) 0)) (tL 448 p (.istore 22) 0)) (tB 447 p (tL 447 p (.iconst 0) 0) (tL 445 p (.istore 21) 0))) (tB 443 p (tB 444 p (tL 444 p (.iconst 0) 0) (tL 443 p .ireturn 0)) (tB 442 p (tL 442 p (.iconst 0) 0) (tL 439 p (.if_icmp .eq 5) 444))))) (tB 425 p (tB 431 p (tB 433 p (tB 435 p (tB 437 p (tL 437 p (.iload 20) 0) (tL 435 p (.iload 19) 0)) (tL 433 p (.istore 9) 0)) (tB 432 p (tL 432 p .ior 0) (tL 431 p .ishl 0))) (tB 429 p (tB 430 p (tL 430 p .imul 0) (tL 429 p (.iconst 3) 0)) (tB 427 p (tL 427 p (.iload 15) 0) (tL 425 p (.iload 21) 0)))) (tB 421 p (tB 423 p (tB 424 p (tL 424 p .iand 0) (tL 423 p .ixor 0)) (tB 422 p (tL 422 p (.iconst (-1)) 0) (tL 421 p .ishl 0))) (tB 419 p (tB 420 p (tL 420 p .imul 0) (tL 419 p (.iconst 3) 0)) (tB 417 p (tL 417 p (.iload 15) 0) (tL 415 p (.bipush 7) 0)))))) (tB 377 p (tB 396 p (tB 403 p (tB 408 p (tB 410 p (tB 413 p (tL 413 p (.iload 9) 0) (tL 410 p (.ifCond .eq 25) 435)) (tL 408 p (.iload 20) 0)) (tB 405 p (tL 405 p (.ifCond .eq 30) 435) (tL 403 p (.iload 19) 0))) (tB 400 p (tB 401 p (tL 401 p (.istore 20) 0) (tL 400 p (.iconst 0) 0)) (tB 397 p (tL 397 p (.goto 4) 401) (tL 396 p (.iconst 1) 0)))) (tB 386 p (tB 390 p (tB 392 p (tB 393 p (tL 393 p (.if_icmp .ge 7) 400) (tL 392 p (.iconst 5) 0)) (tL 390 p (.iload 21) 0)) (tB 387 p (tL 387 p (.if_icmp .ge 13) 400) (tL 386 p (.iconst 4) 0))) (tB 382 p (tB 384 p (tL 384 p (.iload 15) 0) (tL 382 p (.istore 19) 0)) (tB 379 p (tL 379 p (.invokevirtual 31) 2) (tL 377 p (.iload 18) 0))))) (tB 363 p (tB 368 p (tB 371 p (tB 373 p (tB 375 p (tL 375 p (.iload 17) 0) (tL 373 p (.iload 21) 0)) (tL 371 p (.iload 15) 0)) (tB 370 p (tL 370 p (.aload_n 1) 0) (tL 368 p (.istore 21) 0))) (tB 366 p (tB 367 p (tL 367 p .iadd 0) (tL 366 p .iand 0)) (tB 365 p (tL 365 p (.iconst 1) 0) (tL 363 p (.iload 18) 0)))) (tB 354 p (tB 358 p (tB 361 p (tL 361 p (.iload 16) 0) (tL 358 p (.goto 77) 435)) (tB 356 p (tL 356 p (.istore 8) 0) (tL 354 p (.iload 18) 0))) (tB 351 p (tB 352 p (tL 352 p (.istore 7) 0) (tL 351 p .irem 0)) (tB 350 p (tL 350 p (.iconst 5) 0) (tL 348 p (.iload 17) 0))))))) (tB 281 p (tB 312 p (tB 328 p (tB 337 p (tB 342 p (tB 344 p (tB 346 p (tL 346 p (.istore 6) 0) (tL 344 p (.iload 16) 0)) (tL 342 p (.istore 5) 0)) (tB 340 p (tL 340 p (.iload 15) 0) (tL 337 p (.ifCond .eq 98) 435))) (tB 332 p (tB 335 p (tL 335 p (.iload 20) 0) (tL 332 p (.ifCond .eq 103) 435)) (tB 330 p (tL 330 p (.iload 19) 0) (tL 328 p (.istore 20) 0)))) (tB 319 p (tB 323 p (tB 324 p (tB 327 p (tL 327 p (.iconst 0) 0) (tL 324 p (.goto 4) 328)) (tL 323 p (.iconst 1) 0)) (tB 320 p (tL 320 p (.if_icmp .ge 7) 327) (tL 319 p (.iconst 4) 0))) (tB 314 p (tB 317 p (tL 317 p (.iload 18) 0) (tL 314 p (.if_icmp .ge 13) 327)) (tB 313 p (tL 313 p (.iconst 4) 0) (tL 312 p .irem 0))))) (tB 295 p (tB 303 p (tB 306 p (tB 309 p (tB 311 p (tL 311 p (.iconst 5) 0) (tL 309 p (.iload 17) 0)) (tL 306 p (.if_icmp .ge 21) 327)) (tB 305 p (tL 305 p (.iconst 4) 0) (tL 303 p (.iload 16) 0))) (tB 299 p (tB 300 p (tL 300 p (.if_icmp .ge 27) 327) (tL 299 p (.iconst 4) 0)) (tB 297 p (tL 297 p (.iload 15) 0) (tL 295 p (.istore 19) 0)))) (tB 288 p (tB 290 p (tB 292 p (tL 292 p (.invokevirtual 27) 26) (tL 290 p (.iload 18) 0)) (tB 289 p (tL 289 p .irem 0) (tL 288 p (.iconst 5) 0))) (tB 284 p (tB 286 p (tL 286 p (.iload 17) 0) (tL 284 p (.iload 16) 0)) (tB 282 p (tL 282 p (.iload 15) 0) (tL 281 p (.aload_n 1) 0)))))) (tB 253 p (tB 266 p (tB 270 p (tB 275 p (tB 277 p (tB 278 p (tL 278 p (.if_icmp .ne 83) 361) (tL 277 p (.iconst 2) 0)) (tL 275 p (.iload 14) 0)) (tB 272 p (tL 272 p (.goto 163) 435) (tL 270 p (.istore 4) 0))) (tB 268 p (tB 269 p (tL 269 p .iand 0) (tL 268 p .ixor 0)) (tB 267 p (tL 267 p (.iconst (-1)) 0) (tL 266 p .ishl 0)))) (tB 259 p (tB 261 p (tB 263 p (tB 264 p (tL 264 p (.iload 15) 0) (tL 263 p (.iconst 1) 0)) (tL 261 p (.iload 4) 0)) (tB 260 p (tL 260 p (.lstore_n 2) 0) (tL 259 p .land 0))) (tB 255 p (tB 258 p (tL 258 p .lxor 0) (tL 255 p (.ldc2_w 19) 2)) (tB 254 p (tL 254 p .lshl 0) (tL 253 p .imul 0))))) (tB 233 p (tB 242 p (tB 246 p (tB 249 p (tB 251 p (tL 251 p (.bipush 16) 0) (tL 249 p (.iload 15) 0)) (tL 246 p (.ldc2_w 25) 3)) (tB 245 p (tL 245 p (.lload_n 2) 0) (tL 242 p (.ifCond .eq 193) 435))) (tB 237 p (tB 240 p (tL 240 p (.iload 20) 0) (tL 237 p (.ifCond .eq 198) 435)) (tB 235 p (tL 235 p (.iload 19) 0) (tL 233 p (.istore 20) 0)))) (tB 225 p (tB 229 p (tB 232 p (tL 232 p (.iconst 0) 0) (tL 229 p (.goto 4) 233)) (tB 228 p (tL 228 p (.iconst 1) 0) (tL 225 p (.if_icmp .ne 7) 232))) (tB 223 p (tB 224 p (tL 224 p (.iconst 1) 0) (tL 223 p .iand 0)) (tB 222 p (tL 222 p (.iconst 1) 0) (tL 221 p .ishr 0)))))))) (tB 99 p (tB 161 p (tB 187 p (tB 203 p (tB 211 p (tB 214 p (tB 217 p (tB 219 p (tL 219 p (.iload 15) 0) (tL 217 p (.iload 4) 0)) (tL 214 p (.if_icmp .ge 18) 232)) (tB 213 p (tL 213 p (.iconst 4) 0) (tL 211 p (.iload 15) 0))) (tB 206 p (tB 209 p (tL 209 p (.istore 19) 0) (tL 206 p (.invokevirtual 21) 20)) (tB 204 p (tL 204 p (.iload 15) 0) (tL 203 p (.aload_n 1) 0)))) (tB 192 p (tB 197 p (tB 199 p (tB 200 p (tL 200 p (.if_icmp .ne 75) 275) (tL 199 p (.iconst 1) 0)) (tL 197 p (.iload 14) 0)) (tB 194 p (tL 194 p (.goto 241) 435) (tL 192 p (.istore 4) 0))) (tB 190 p (tB 191 p (tL 191 p .ior 0) (tL 190 p .ishl 0)) (tB 188 p (tL 188 p (.iload 15) 0) (tL 187 p (.iconst 1) 0))))) (tB 175 p (tB 180 p (tB 183 p (tB 184 p (tB 185 p (tL 185 p (.iload 4) 0) (tL 184 p (.lstore_n 2) 0)) (tL 183 p .lor 0)) (tB 182 p (tL 182 p .lshl 0) (tL 180 p (.iload 21) 0))) (tB 177 p (tB 179 p (tL 179 p .i2l 0) (tL 177 p (.iload 17) 0)) (tB 176 p (tL 176 p .land 0) (tL 175 p .lxor 0)))) (tB 166 p (tB 171 p (tB 172 p (tL 172 p (.ldc2_w 19) 2) (tL 171 p .lshl 0)) (tB 169 p (tL 169 p (.iload 21) 0) (tL 166 p (.ldc2_w 7) 1))) (tB 163 p (tB 165 p (tL 165 p (.lload_n 2) 0) (tL 163 p (.istore 21) 0)) (tB 162 p (tL 162 p .imul 0) (tL 161 p (.iconst 4) 0)))))) (tB 127 p (tB 144 p (tB 154 p (tB 157 p (tB 158 p (tB 160 p (tL 160 p .iadd 0) (tL 158 p (.iload 16) 0)) (tL 157 p .imul 0)) (tB 156 p (tL 156 p (.iconst 4) 0) (tL 154 p (.iload 15) 0))) (tB 149 p (tB 151 p (tL 151 p (.ifCond .eq 284) 435) (tL 149 p (.iload 20) 0)) (tB 146 p (tL 146 p (.ifCond .eq 289) 435) (tL 144 p (.iload 19) 0)))) (tB 134 p (tB 138 p (tB 141 p (tB 142 p (tL 142 p (.istore 20) 0) (tL 141 p (.iconst 0) 0)) (tL 138 p (.goto 4) 142)) (tB 137 p (tL 137 p (.iconst 1) 0) (tL 134 p (.if_icmp .ge 7) 141))) (tB 131 p (tB 133 p (tL 133 p (.iconst 4) 0) (tL 131 p (.iload 16) 0)) (tB 128 p (tL 128 p (.if_icmp .ge 13) 141) (tL 127 p (.iconst 4) 0))))) (tB 108 p (tB 116 p (tB 120 p (tB 123 p (tB 125 p (tL 125 p (.iload 15) 0) (tL 123 p (.istore 19) 0)) (tL 120 p (.invokevirtual 15) 21)) (tB 118 p (tL 118 p (.iload 17) 0) (tL 116 p (.iload 16) 0))) (tB 113 p (tB 114 p (tL 114 p (.iload 15) 0) (tL 113 p (.aload_n 1) 0)) (tB 110 p (tL 110 p (.ifCond .ne 87) 197) (tL 108 p (.iload 14) 0)))) (tB 103 p (tB 105 p (tB 106 p (tL 106 p (.istore 18) 0) (tL 105 p .irem 0)) (tB 104 p (tL 104 p (.iconst 5) 0) (tL 103 p .iushr 0))) (tB 101 p (tB 102 p (tL 102 p (.iconst 4) 0) (tL 101 p .iaload 0)) (tB 100 p (tL 100 p .iadd 0) (tL 99 p (.iconst 3) 0))))))) (tB 52 p (tB 75 p (tB 86 p (tB 91 p (tB 94 p (tB 96 p (tB 97 p (tL 97 p (.iload 13) 0) (tL 96 p (.aload_n 0) 0)) (tL 94 p (.istore 17) 0)) (tB 93 p (tL 93 p .iand 0) (tL 91 p (.bipush 15) 0))) (tB 89 p (tB 90 p (tL 90 p .iaload 0) (tL 89 p .iadd 0)) (tB 88 p (tL 88 p (.iconst 3) 0) (tL 86 p (.iload 13) 0)))) (tB 80 p (tB 82 p (tB 83 p (tB 85 p (tL 85 p (.aload_n 0) 0) (tL 83 p (.istore 16) 0)) (tL 82 p .irem 0)) (tB 81 p (tL 81 p (.iconst 5) 0) (tL 80 p .iand 0))) (tB 77 p (tB 78 p (tL 78 p (.ldc 14) 0) (tL 77 p .iaload 0)) (tB 76 p (tL 76 p .iadd 0) (tL 75 p (.iconst 2) 0))))) (tB 63 p (tB 68 p (tB 70 p (tB 72 p (tB 73 p (tL 73 p (.iload 13) 0) (tL 72 p (.aload_n 0) 0)) (tL 70 p (.istore 15) 0)) (tB 69 p (tL 69 p .irem 0) (tL 68 p (.iconst 5) 0))) (tB 65 p (tB 67 p (tL 67 p .iand 0) (tL 65 p (.ldc 14) 0)) (tB 64 p (tL 64 p .iaload 0) (tL 63 p .iadd 0)))) (tB 57 p (tB 60 p (tB 62 p (tL 62 p (.iconst 1) 0) (tL 60 p (.iload 13) 0)) (tB 59 p (tL 59 p (.aload_n 0) 0) (tL 57 p (.istore 14) 0))) (tB 55 p (tB 56 p (tL 56 p .iand 0) (tL 55 p (.iconst 3) 0)) (tB 54 p (tL 54 p .iaload 0) (tL 52 p (.iload 13) 0)))))) (tB 25 p (tB 39 p (tB 45 p (tB 47 p (tB 48 p (tB 51 p (tL 51 p (.aload_n 0) 0) (tL 48 p (.if_icmp .ge 962) 1010)) (tL 47 p .arraylength 0)) (tB 46 p (tL 46 p (.aload_n 0) 0) (tL 45 p .iadd 0))) (tB 42 p (tB 44 p (tL 44 p (.iconst 3) 0) (tL 42 p (.iload 13) 0)) (tB 40 p (tL 40 p (.istore 13) 0) (tL 39 p (.iconst 0) 0)))) (tB 31 p (tB 34 p (tB 36 p (tB 37 p (tL 37 p (.istore 12) 0) (tL 36 p (.iconst 0) 0)) (tL 34 p (.istore 11) 0)) (tB 33 p (tL 33 p (.iconst 0) 0) (tL 31 p (.istore 10) 0))) (tB 28 p (tB 30 p (tL 30 p (.iconst 0) 0) (tL 28 p (.istore 9) 0)) (tB 27 p (tL 27 p (.iconst 0) 0) (tL 25 p (.istore 8) 0))))) (tB 12 p (tB 18 p (tB 21 p (tB 22 p (tB 24 p (tL 24 p (.iconst 0) 0) (tL 22 p (.istore 7) 0)) (tL 21 p (.iconst 2) 0)) (tB 19 p (tL 19 p (.istore 6) 0) (tL 18 p (.iconst 1) 0))) (tB 15 p (tB 16 p (tL 16 p (.istore 5) 0) (tL 15 p (.iconst 0) 0)) (tB 13 p (tL 13 p (.istore 4) 0) (tL 12 p (.iconst 0) 0)))) (tB 6 p (tB 10 p (tB 11 p (tL 11 p (.lstore_n 2) 0) (tL 10 p (.lconst 0) 0)) (tB 9 p (tL 9 p (.astore_n 1) 0) (tL 6 p (.invokespecial 11) 1))) (tB 4 p (tB 5 p (tL 5 p (.iconst 4) 0) (tL 4 p (.iconst 4) 0)) (tB 3 p (tL 3 p .dup 0) (tL 0 p (.new 9) 0))))))))))
set_option maxHeartbeats 4000000 in
def cd1 (p : Nat) : Option (Instr × Nat) := (tB 76 p (tB 110 p (tB 130 p (tB 138 p (tB 142 p (tB 143 p (tB 146 p (tL 146 p .return_ 0) (tL 143 p (.putfield 54) 14)) (tL 142 p (.iconst 0) 0)) (tB 141 p (tL 141 p (.aload_n 0) 0) (tL 138 p (.putfield 51) 13))) (tB 132 p (tB 135 p (tB 136 p (tL 136 p (.iload 4) 0) (tL 135 p (.aload_n 0) 0)) (tL 132 p (.putfield 48) 12)) (tB 131 p (tL 131 p (.iload_n 3) 0) (tL 130 p (.aload_n 0) 0)))) (tB 119 p (tB 123 p (tB 126 p (tB 128 p (tL 128 p (.istore 4) 0) (tL 126 p (.bipush 16) 0)) (tL 123 p (.if_icmp .le 7) 130)) (tB 121 p (tL 121 p (.bipush 16) 0) (tL 119 p (.iload 4) 0))) (tB 113 p (tB 116 p (tB 117 p (tL 117 p (.istore 4) 0) (tL 116 p (.iconst 1) 0)) (tL 113 p (.if_icmp .ge 6) 119)) (tB 112 p (tL 112 p (.iconst 1) 0) (tL 110 p (.iload 4) 0))))) (tB 93 p (tB 101 p (tB 106 p (tB 107 p (tB 108 p (tL 108 p (.istore 4) 0) (tL 107 p (.iload_n 2) 0)) (tL 106 p (.istore_n 3) 0)) (tB 104 p (tL 104 p (.bipush 32) 0) (tL 101 p (.if_icmp .le 6) 107))) (tB 97 p (tB 98 p (tB 99 p (tL 99 p (.bipush 32) 0) (tL 98 p (.iload_n 3) 0)) (tL 97 p (.istore_n 3) 0)) (tB 96 p (tL 96 p (.iconst 4) 0) (tL 93 p (.if_icmp .ge 5) 98)))) (tB 86 p (tB 90 p (tB 91 p (tB 92 p (tL 92 p (.iconst 4) 0) (tL 91 p (.iload_n 3) 0)) (tL 90 p (.istore_n 3) 0)) (tB 89 p (tL 89 p (.iload_n 1) 0) (tL 86 p (.putfield 45) 11))) (tB 81 p (tB 82 p (tB 84 p (tL 84 p (.newarray .int) 0) (tL 82 p (.bipush 64) 0)) (tL 81 p (.aload_n 0) 0)) (tB 78 p (tL 78 p (.putfield 42) 10) (tL 76 p (.newarray .boolean) 0)))))) (tB 37 p (tB 57 p (tB 66 p (tB 70 p (tB 73 p (tB 74 p (tL 74 p (.bipush 16) 0) (tL 73 p (.aload_n 0) 0)) (tL 70 p (.putfield 39) 9)) (tB 68 p (tL 68 p (.newarray .int) 0) (tL 66 p (.bipush 16) 0))) (tB 60 p (tB 62 p (tB 65 p (tL 65 p (.aload_n 0) 0) (tL 62 p (.putfield 36) 8)) (tL 60 p (.newarray .int) 0)) (tB 58 p (tL 58 p (.bipush 16) 0) (tL 57 p (.aload_n 0) 0)))) (tB 46 p (tB 50 p (tB 52 p (tB 54 p (tL 54 p (.putfield 33) 7) (tL 52 p (.newarray .int) 0)) (tL 50 p (.bipush 16) 0)) (tB 49 p (tL 49 p (.aload_n 0) 0) (tL 46 p (.putfield 30) 6))) (tB 41 p (tB 42 p (tB 44 p (tL 44 p (.newarray .int) 0) (tL 42 p (.bipush 16) 0)) (tL 41 p (.aload_n 0) 0)) (tB 38 p (tL 38 p (.putfield 27) 5) (tL 37 p (.iconst 0) 0))))) (tB 21 p (tB 28 p (tB 32 p (tB 33 p (tB 36 p (tL 36 p (.aload_n 0) 0) (tL 33 p (.putfield 24) 4)) (tL 32 p (.iconst 2) 0)) (tB 31 p (tL 31 p (.aload_n 0) 0) (tL 28 p (.putfield 21) 3))) (tB 23 p (tB 26 p (tB 27 p (tL 27 p (.iconst 1) 0) (tL 26 p (.aload_n 0) 0)) (tL 23 p (.putfield 17) 2)) (tB 22 p (tL 22 p (.iconst 0) 0) (tL 21 p (.aload_n 0) 0)))) (tB 10 p (tB 14 p (tB 16 p (tB 18 p (tL 18 p (.putfield 13) 1) (tL 16 p (.newarray .boolean) 0)) (tL 14 p (.bipush 32) 0)) (tB 13 p (tL 13 p (.aload_n 0) 0) (tL 10 p (.putfield 7) 0))) (tB 4 p (tB 5 p (tB 8 p (tL 8 p (.newarray .int) 0) (tL 5 p (.sipush 128) 0)) (tL 4 p (.aload_n 0) 0)) (tB 1 p (tL 1 p (.invokespecial 1) 0) (tL 0 p (.aload_n 0) 0)))))))
set_option maxHeartbeats 4000000 in
def cd2 (p : Nat) : Option (Instr × Nat) := (tB 25 p (tB 34 p (tB 40 p (tB 43 p (tB 44 p (tL 44 p .ireturn 0) (tL 43 p (.iconst 1) 0)) (tB 42 p (tL 42 p .iastore 0) (tL 40 p (.iload 4) 0))) (tB 36 p (tB 39 p (tL 39 p (.iload_n 1) 0) (tL 36 p (.getfield 36) 8)) (tB 35 p (tL 35 p (.aload_n 0) 0) (tL 34 p .iastore 0)))) (tB 28 p (tB 32 p (tB 33 p (tL 33 p (.iload_n 3) 0) (tL 32 p (.iload_n 1) 0)) (tB 29 p (tL 29 p (.getfield 33) 7) (tL 28 p (.aload_n 0) 0))) (tB 26 p (tB 27 p (tL 27 p .iastore 0) (tL 26 p (.iload_n 2) 0)) (tL 25 p (.iload_n 1) 0)))) (tB 11 p (tB 19 p (tB 21 p (tB 22 p (tL 22 p (.getfield 30) 6) (tL 21 p (.aload_n 0) 0)) (tB 20 p (tL 20 p .ireturn 0) (tL 19 p (.iconst 0) 0))) (tB 15 p (tB 16 p (tL 16 p (.if_icmp .le 5) 21) (tL 15 p (.iconst 4) 0)) (tB 14 p (tL 14 p (.iload_n 2) 0) (tL 11 p (.ifCond .lt 8) 19)))) (tB 5 p (tB 9 p (tB 10 p (tL 10 p (.iload_n 2) 0) (tL 9 p .ireturn 0)) (tB 8 p (tL 8 p (.iconst 0) 0) (tL 5 p (.ifCond .ne 5) 10))) (tB 1 p (tB 2 p (tL 2 p (.invokevirtual 102) 3) (tL 1 p (.iload_n 1) 0)) (tL 0 p (.aload_n 0) 0)))))
set_option maxHeartbeats 4000000 in
def cd3 (p : Nat) : Option (Instr × Nat) := (tB 9 p (tB 13 p (tB 16 p (tB 17 p (tL 17 p .ireturn 0) (tL 16 p (.iconst 0) 0)) (tL 13 p (.goto 4) 17)) (tB 12 p (tL 12 p (.iconst 1) 0) (tL 9 p (.if_icmp .ge 7) 16))) (tB 4 p (tB 5 p (tB 6 p (tL 6 p (.getfield 51) 13) (tL 5 p (.aload_n 0) 0)) (tL 4 p (.iload_n 1) 0)) (tB 1 p (tL 1 p (.ifCond .lt 15) 16) (tL 0 p (.iload_n 1) 0))))
set_option maxHeartbeats 4000000 in
def cd4 (p : Nat) : Option (Instr × Nat) := (tB 18 p (tB 25 p (tB 27 p (tB 28 p (tB 29 p (tL 29 p .ireturn 0) (tL 28 p .iaload 0)) (tL 27 p .iadd 0)) (tB 26 p (tL 26 p (.iload_n 2) 0) (tL 25 p .imul 0))) (tB 20 p (tB 23 p (tB 24 p (tL 24 p (.iconst 4) 0) (tL 23 p (.iload_n 1) 0)) (tL 20 p (.getfield 7) 0)) (tB 19 p (tL 19 p (.aload_n 0) 0) (tL 18 p .ireturn 0)))) (tB 9 p (tB 13 p (tB 14 p (tB 17 p (tL 17 p (.iconst 0) 0) (tL 14 p (.if_icmp .lt 5) 19)) (tL 13 p (.iconst 4) 0)) (tB 12 p (tL 12 p (.iload_n 2) 0) (tL 9 p (.ifCond .lt 8) 17))) (tB 2 p (tB 5 p (tB 8 p (tL 8 p (.iload_n 2) 0) (tL 5 p (.ifCond .eq 12) 17)) (tL 2 p (.invokevirtual 57) 5)) (tB 1 p (tL 1 p (.iload_n 1) 0) (tL 0 p (.aload_n 0) 0)))))
set_option maxHeartbeats 4000000 in
def cd5 (p : Nat) : Option (Instr × Nat) := (tB 9 p (tB 13 p (tB 16 p (tB 17 p (tL 17 p .ireturn 0) (tL 16 p (.iconst 0) 0)) (tL 13 p (.goto 4) 17)) (tB 12 p (tL 12 p (.iconst 1) 0) (tL 9 p (.if_icmp .ge 7) 16))) (tB 4 p (tB 5 p (tB 6 p (tL 6 p (.getfield 48) 12) (tL 5 p (.aload_n 0) 0)) (tL 4 p (.iload_n 1) 0)) (tB 1 p (tL 1 p (.ifCond .lt 15) 16) (tL 0 p (.iload_n 1) 0))))
set_option maxHeartbeats 4000000 in
def cd6 (p : Nat) : Option (Instr × Nat) := (tB 6 p (tB 9 p (tB 13 p (tB 14 p (tL 14 p .ireturn 0) (tL 13 p .l2i 0)) (tB 12 p (tL 12 p .land 0) (tL 9 p (.ldc2_w 7) 1))) (tB 7 p (tB 8 p (tL 8 p .lushr 0) (tL 7 p .imul 0)) (tL 6 p (.iconst 4) 0))) (tB 3 p (tB 4 p (tB 5 p (tL 5 p .iadd 0) (tL 4 p (.iload_n 3) 0)) (tL 3 p .imul 0)) (tB 1 p (tB 2 p (tL 2 p (.iconst 4) 0) (tL 1 p (.iload_n 2) 0)) (tL 0 p (.lload_n 0) 0))))
set_option maxHeartbeats 4000000 in
def cd7 (p : Nat) : Option (Instr × Nat) := (tB 9 p (tB 14 p (tB 15 p (tB 16 p (tL 16 p .ireturn 0) (tL 15 p .baload 0)) (tL 14 p (.iload_n 1) 0)) (tB 10 p (tB 11 p (tL 11 p (.getfield 13) 1) (tL 10 p (.aload_n 0) 0)) (tL 9 p .ireturn 0))) (tB 2 p (tB 5 p (tB 8 p (tL 8 p (.iconst 0) 0) (tL 5 p (.ifCond .ne 5) 10)) (tL 2 p (.invokevirtual 57) 5)) (tB 1 p (tL 1 p (.iload_n 1) 0) (tL 0 p (.aload_n 0) 0))))
set_option maxHeartbeats 4000000 in
def cd8 (p : Nat) : Option (Instr × Nat) := (tB 16 p (tB 25 p (tB 31 p (tB 32 p (tB 35 p (tL 35 p .ireturn 0) (tL 32 p (.getfield 96) 20)) (tL 31 p (.aload_n 0) 0)) (tB 28 p (tL 28 p (.invokevirtual 92) 11) (tL 25 p (.getfield 89) 18))) (tB 20 p (tB 21 p (tB 24 p (tL 24 p (.aload_n 0) 0) (tL 21 p (.getfield 86) 17)) (tL 20 p (.aload_n 0) 0)) (tB 17 p (tL 17 p (.getfield 83) 16) (tL 16 p (.aload_n 0) 0)))) (tB 9 p (tB 11 p (tB 12 p (tB 13 p (tL 13 p (.getfield 79) 15) (tL 12 p (.aload_n 0) 0)) (tL 11 p (.aload_n 0) 0)) (tB 10 p (tL 10 p .ireturn 0) (tL 9 p (.iconst 0) 0))) (tB 2 p (tB 3 p (tB 6 p (tL 6 p (.ifCond .ne 5) 11) (tL 3 p (.invokevirtual 75) 9)) (tL 2 p (.iload_n 2) 0)) (tB 1 p (tL 1 p (.iload_n 1) 0) (tL 0 p (.aload_n 0) 0)))))
set_option maxHeartbeats 4000000 in
def cd9 (p : Nat) : Option (Instr × Nat) := (tB 62 p (tB 96 p (tB 113 p (tB 121 p (tB 125 p (tB 128 p (tB 129 p (tL 129 p .ireturn 0) (tL 128 p (.iconst 1) 0)) (tL 125 p (.putfield 89) 18)) (tB 124 p (tL 124 p (.iconst 0) 0) (tL 121 p (.goto 4) 125))) (tB 118 p (tB 119 p (tB 120 p (tL 120 p .iaload 0) (tL 119 p .iadd 0)) (tL 118 p (.iload_n 2) 0)) (tB 116 p (tL 116 p (.bipush 32) 0) (tL 113 p (.getfield 45) 11)))) (tB 104 p (tB 106 p (tB 109 p (tB 112 p (tL 112 p (.aload_n 0) 0) (tL 109 p (.ifCond .eq 15) 124)) (tL 106 p (.getfield 86) 17)) (tB 105 p (tL 105 p (.aload_n 0) 0) (tL 104 p (.aload_n 0) 0))) (tB 100 p (tB 101 p (tL 101 p (.putfield 86) 17) (tL 100 p (.iconst 0) 0)) (tB 97 p (tL 97 p (.goto 4) 101) (tL 96 p (.iconst 1) 0))))) (tB 81 p (tB 87 p (tB 91 p (tB 92 p (tB 93 p (tL 93 p (.if_icmp .eq 7) 100) (tL 92 p (.iconst (-1)) 0)) (tL 91 p (.iload_n 2) 0)) (tB 90 p (tL 90 p (.aload_n 0) 0) (tL 87 p (.putfield 83) 16))) (tB 83 p (tB 86 p (tL 86 p (.iconst 0) 0) (tL 83 p (.goto 4) 87)) (tB 82 p (tL 82 p .iaload 0) (tL 81 p (.iload_n 1) 0)))) (tB 70 p (tB 74 p (tB 77 p (tB 78 p (tL 78 p (.getfield 45) 11) (tL 77 p (.aload_n 0) 0)) (tL 74 p (.ifCond .eq 12) 86)) (tB 71 p (tL 71 p (.getfield 79) 15) (tL 70 p (.aload_n 0) 0))) (tB 66 p (tB 69 p (tL 69 p (.aload_n 0) 0) (tL 66 p (.putfield 79) 15)) (tB 65 p (tL 65 p (.iconst 0) 0) (tL 62 p (.goto 4) 66)))))) (tB 32 p (tB 47 p (tB 55 p (tB 57 p (tB 58 p (tB 61 p (tL 61 p (.iconst 1) 0) (tL 58 p (.if_icmp .eq 7) 65)) (tL 57 p (.iconst (-1)) 0)) (tB 56 p (tL 56 p (.iload_n 1) 0) (tL 55 p (.aload_n 0) 0))) (tB 50 p (tB 53 p (tB 54 p (tL 54 p .ireturn 0) (tL 53 p (.iconst 0) 0)) (tL 50 p (.if_icmp .lt 5) 55)) (tB 48 p (tL 48 p (.iload 4) 0) (tL 47 p (.iload_n 2) 0)))) (tB 38 p (tB 40 p (tB 43 p (tB 44 p (tL 44 p (.ifCond .lt 9) 53) (tL 43 p (.iload_n 2) 0)) (tL 40 p (.if_icmp .eq 15) 55)) (tB 39 p (tL 39 p (.iconst (-1)) 0) (tL 38 p (.iload_n 2) 0))) (tB 36 p (tB 37 p (tL 37 p .ireturn 0) (tL 36 p (.iconst 0) 0)) (tB 33 p (tL 33 p (.if_icmp .lt 5) 38) (tL 32 p (.iload_n 3) 0))))) (tB 15 p (tB 23 p (tB 27 p (tB 28 p (tB 31 p (tL 31 p (.iload_n 1) 0) (tL 28 p (.ifCond .lt 8) 36)) (tL 27 p (.iload_n 1) 0)) (tB 24 p (tL 24 p (.if_icmp .eq 14) 38) (tL 23 p (.iconst (-1)) 0))) (tB 20 p (tB 22 p (tL 22 p (.iload_n 1) 0) (tL 20 p (.istore 4) 0)) (tB 17 p (tL 17 p (.invokevirtual 71) 10) (tL 15 p (.bipush 32) 0)))) (tB 6 p (tB 10 p (tB 11 p (tB 12 p (tL 12 p (.getfield 21) 3) (tL 11 p (.aload_n 0) 0)) (tL 10 p (.aload_n 0) 0)) (tB 9 p (tL 9 p (.istore_n 3) 0) (tL 6 p (.invokevirtual 71) 10))) (tB 2 p (tB 5 p (tL 5 p (.iconst 0) 0) (tL 2 p (.getfield 17) 2)) (tB 1 p (tL 1 p (.aload_n 0) 0) (tL 0 p (.aload_n 0) 0)))))))
set_option maxHeartbeats 4000000 in
def cd10 (p : Nat) : Option (Instr × Nat) := (tB 26 p (tB 36 p (tB 42 p (tB 48 p (tB 49 p (tL 49 p .ireturn 0) (tL 48 p (.iload_n 3) 0)) (tB 45 p (tL 45 p (.goto (-40)) 5) (tL 42 p (.iinc 4 1) 0))) (tB 38 p (tB 41 p (tL 41 p (.istore_n 3) 0) (tL 38 p (.invokevirtual 109) 24)) (tB 37 p (tL 37 p .iaload 0) (tL 36 p .iadd 0)))) (tB 31 p (tB 34 p (tB 35 p (tL 35 p (.iload_n 1) 0) (tL 34 p .imul 0)) (tB 33 p (tL 33 p (.iconst 4) 0) (tL 31 p (.iload 4) 0))) (tB 27 p (tB 28 p (tL 28 p (.getfield 7) 0) (tL 27 p (.aload_n 0) 0)) (tL 26 p (.iload_n 3) 0)))) (tB 11 p (tB 20 p (tB 24 p (tB 25 p (tL 25 p (.iload_n 2) 0) (tL 24 p (.aload_n 0) 0)) (tB 21 p (tL 21 p (.ifCond .eq 21) 42) (tL 20 p .baload 0))) (tB 15 p (tB 18 p (tL 18 p (.iload 4) 0) (tL 15 p (.getfield 13) 1)) (tB 14 p (tL 14 p (.aload_n 0) 0) (tL 11 p (.if_icmp .ge 37) 48)))) (tB 3 p (tB 7 p (tB 8 p (tL 8 p (.getfield 48) 12) (tL 7 p (.aload_n 0) 0)) (tB 5 p (tL 5 p (.iload 4) 0) (tL 3 p (.istore 4) 0))) (tB 1 p (tB 2 p (tL 2 p (.iconst 0) 0) (tL 1 p (.istore_n 3) 0)) (tL 0 p (.iconst 0) 0)))))
set_option maxHeartbeats 4000000 in
def cd11 (p : Nat) : Option (Instr × Nat) := (tB 84 p (tB 133 p (tB 158 p (tB 168 p (tB 174 p (tB 177 p (tB 180 p (tL 180 p .return_ 0) (tL 177 p (.putfield 96) 20)) (tL 174 p (.invokevirtual 113) 12)) (tB 170 p (tB 172 p (tL 172 p (.iload 8) 0) (tL 170 p (.iload 7) 0)) (tL 168 p (.iload 5) 0))) (tB 164 p (tB 165 p (tB 166 p (tL 166 p (.iload 6) 0) (tL 165 p (.aload_n 0) 0)) (tL 164 p (.aload_n 0) 0)) (tB 159 p (tB 161 p (tL 161 p (.putfield 99) 19) (tL 159 p (.iload 6) 0)) (tL 158 p (.aload_n 0) 0)))) (tB 144 p (tB 149 p (tB 152 p (tB 155 p (tL 155 p (.goto (-140)) 15) (tL 152 p (.iinc 9 1) 0)) (tL 149 p (.iinc 6 1) 0)) (tB 146 p (tB 147 p (tL 147 p (.istore 5) 0) (tL 146 p .iadd 0)) (tL 144 p (.iload 11) 0))) (tB 138 p (tB 140 p (tB 142 p (tL 142 p (.iload 5) 0) (tL 140 p (.istore 8) 0)) (tL 138 p (.iload 11) 0)) (tB 135 p (tL 135 p (.if_icmp .le 7) 142) (tL 133 p (.iload 8) 0))))) (tB 106 p (tB 120 p (tB 127 p (tB 129 p (tB 131 p (tL 131 p (.iload 11) 0) (tL 129 p (.istore 7) 0)) (tL 127 p (.iload 11) 0)) (tB 122 p (tB 124 p (tL 124 p (.if_icmp .ge 7) 131) (tL 122 p (.iload 7) 0)) (tL 120 p (.iload 11) 0))) (tB 113 p (tB 115 p (tB 117 p (tL 117 p (.goto 25) 142) (tL 115 p (.istore 8) 0)) (tL 113 p (.iload 11) 0)) (tB 109 p (tB 111 p (tL 111 p (.istore 7) 0) (tL 109 p (.iload 11) 0)) (tL 106 p (.ifCond .ne 14) 120)))) (tB 96 p (tB 101 p (tB 102 p (tB 104 p (tL 104 p (.iload 6) 0) (tL 102 p (.istore 11) 0)) (tL 101 p .iaload 0)) (tB 97 p (tB 100 p (tL 100 p .iadd 0) (tL 97 p (.getfield 24) 4)) (tL 96 p (.aload_n 0) 0))) (tB 90 p (tB 91 p (tB 94 p (tL 94 p (.iload 10) 0) (tL 91 p (.getfield 7) 0)) (tL 90 p (.aload_n 0) 0)) (tB 87 p (tL 87 p (.goto 65) 152) (tL 84 p (.if_icmp .eq 6) 90)))))) (tB 41 p (tB 60 p (tB 74 p (tB 80 p (tB 81 p (tB 82 p (tL 82 p (.iload 4) 0) (tL 81 p .iaload 0)) (tL 80 p .iadd 0)) (tB 76 p (tB 77 p (tL 77 p (.getfield 21) 3) (tL 76 p (.aload_n 0) 0)) (tL 74 p (.iload 10) 0))) (tB 67 p (tB 70 p (tB 71 p (tL 71 p (.getfield 7) 0) (tL 70 p (.aload_n 0) 0)) (tL 67 p (.ifCond .eq 23) 90)) (tB 63 p (tB 66 p (tL 66 p (.iload_n 3) 0) (tL 63 p (.goto 89) 152)) (tL 60 p (.if_icmp .eq 6) 66)))) (tB 51 p (tB 57 p (tB 58 p (tB 59 p (tL 59 p (.iload_n 2) 0) (tL 58 p .iaload 0)) (tL 57 p .iadd 0)) (tB 53 p (tB 54 p (tL 54 p (.getfield 17) 2) (tL 53 p (.aload_n 0) 0)) (tL 51 p (.iload 10) 0))) (tB 44 p (tB 47 p (tB 48 p (tL 48 p (.getfield 7) 0) (tL 47 p (.aload_n 0) 0)) (tL 44 p (.ifCond .eq 22) 66)) (tB 43 p (tL 43 p (.iload_n 1) 0) (tL 41 p (.istore 10) 0))))) (tB 17 p (tB 30 p (tB 37 p (tB 39 p (tB 40 p (tL 40 p .imul 0) (tL 39 p (.iconst 4) 0)) (tL 37 p (.iload 9) 0)) (tB 31 p (tB 34 p (tL 34 p (.goto 118) 152) (tL 31 p (.ifCond .ne 6) 37)) (tL 30 p .baload 0))) (tB 24 p (tB 25 p (tB 28 p (tL 28 p (.iload 9) 0) (tL 25 p (.getfield 13) 1)) (tL 24 p (.aload_n 0) 0)) (tB 18 p (tB 21 p (tL 21 p (.if_icmp .ge 137) 158) (tL 18 p (.getfield 48) 12)) (tL 17 p (.aload_n 0) 0)))) (tB 7 p (tB 12 p (tB 13 p (tB 15 p (tL 15 p (.iload 9) 0) (tL 13 p (.istore 9) 0)) (tL 12 p (.iconst 0) 0)) (tB 9 p (tB 10 p (tL 10 p (.istore 8) 0) (tL 9 p (.iconst 0) 0)) (tL 7 p (.istore 7) 0))) (tB 3 p (tB 4 p (tB 6 p (tL 6 p (.iconst 0) 0) (tL 4 p (.istore 6) 0)) (tL 3 p (.iconst 0) 0)) (tB 1 p (tL 1 p (.istore 5) 0) (tL 0 p (.iconst 0) 0)))))))
set_option maxHeartbeats 4000000 in
def cd12 (p : Nat) : Option (Instr × Nat) := (tB 20 p (tB 30 p (tB 36 p (tB 37 p (tB 38 p (tL 38 p .ireturn 0) (tL 37 p (.iload_n 2) 0)) (tL 36 p .ireturn 0)) (tB 31 p (tB 34 p (tL 34 p (.iload 4) 0) (tL 31 p (.if_icmp .ne 6) 37)) (tL 30 p (.iconst 3) 0))) (tB 25 p (tB 26 p (tB 27 p (tL 27 p (.getfield 27) 5) (tL 26 p (.aload_n 0) 0)) (tL 25 p .ireturn 0)) (tB 21 p (tB 24 p (tL 24 p (.iload_n 3) 0) (tL 21 p (.if_icmp .ne 5) 26)) (tL 20 p (.iconst 2) 0)))) (tB 10 p (tB 15 p (tB 16 p (tB 17 p (tL 17 p (.getfield 27) 5) (tL 16 p (.aload_n 0) 0)) (tL 15 p .ireturn 0)) (tB 11 p (tB 14 p (tL 14 p (.iload_n 1) 0) (tL 11 p (.if_icmp .ne 5) 16)) (tL 10 p (.iconst 1) 0))) (tB 5 p (tB 6 p (tB 7 p (tL 7 p (.getfield 27) 5) (tL 6 p (.aload_n 0) 0)) (tL 5 p .ireturn 0)) (tB 1 p (tB 4 p (tL 4 p (.iconst 0) 0) (tL 1 p (.ifCond .ne 5) 6)) (tL 0 p (.iload_n 1) 0)))))
set_option maxHeartbeats 4000000 in
def cd13 (p : Nat) : Option (Instr × Nat) := (tB 16 p (tB 25 p (tB 31 p (tB 32 p (tB 35 p (tL 35 p .ireturn 0) (tL 32 p (.getfield 99) 19)) (tL 31 p (.aload_n 0) 0)) (tB 28 p (tL 28 p (.invokevirtual 92) 11) (tL 25 p (.getfield 89) 18))) (tB 20 p (tB 21 p (tB 24 p (tL 24 p (.aload_n 0) 0) (tL 21 p (.getfield 86) 17)) (tL 20 p (.aload_n 0) 0)) (tB 17 p (tL 17 p (.getfield 83) 16) (tL 16 p (.aload_n 0) 0)))) (tB 9 p (tB 11 p (tB 12 p (tB 13 p (tL 13 p (.getfield 79) 15) (tL 12 p (.aload_n 0) 0)) (tL 11 p (.aload_n 0) 0)) (tB 10 p (tL 10 p .ireturn 0) (tL 9 p (.iconst 0) 0))) (tB 2 p (tB 3 p (tB 6 p (tL 6 p (.ifCond .ne 5) 11) (tL 3 p (.invokevirtual 75) 9)) (tL 2 p (.iload_n 2) 0)) (tB 1 p (tL 1 p (.iload_n 1) 0) (tL 0 p (.aload_n 0) 0)))))
set_option maxHeartbeats 4000000 in
def cd14 (p : Nat) : Option (Instr × Nat) := (tB 5 p (tB 6 p (tB 9 p (tL 9 p .ireturn 0) (tL 6 p (.invokevirtual 71) 10)) (tL 5 p (.iconst 0) 0)) (tB 1 p (tB 2 p (tL 2 p (.getfield 17) 2) (tL 1 p (.aload_n 0) 0)) (tL 0 p (.aload_n 0) 0)))
set_option maxHeartbeats 4000000 in
def cd15 (p : Nat) : Option (Instr × Nat) := (tB 5 p (tB 7 p (tB 10 p (tL 10 p .ireturn 0) (tL 7 p (.invokevirtual 71) 10)) (tL 5 p (.bipush 32) 0)) (tB 1 p (tB 2 p (tL 2 p (.getfield 21) 3) (tL 1 p (.aload_n 0) 0)) (tL 0 p (.aload_n 0) 0)))
set_option maxHeartbeats 4000000 in
def cd16 (p : Nat) : Option (Instr × Nat) := (tB 10 p (tB 15 p (tB 16 p (tB 19 p (tL 19 p .ireturn 0) (tL 16 p (.getfield 96) 20)) (tL 15 p (.aload_n 0) 0)) (tB 11 p (tB 12 p (tL 12 p (.invokevirtual 105) 17) (tL 11 p (.iload_n 1) 0)) (tL 10 p (.aload_n 0) 0))) (tB 5 p (tB 8 p (tB 9 p (tL 9 p .ireturn 0) (tL 8 p (.iconst 0) 0)) (tL 5 p (.ifCond .ne 5) 10)) (tB 1 p (tB 2 p (tL 2 p (.invokevirtual 102) 3) (tL 1 p (.iload_n 1) 0)) (tL 0 p (.aload_n 0) 0))))
set_option maxHeartbeats 4000000 in
def cd17 (p : Nat) : Option (Instr × Nat) := (tB 37 p (tB 56 p (tB 65 p (tB 70 p (tB 71 p (tB 74 p (tL 74 p .return_ 0) (tL 71 p (.invokevirtual 92) 11)) (tL 70 p .iaload 0)) (tB 66 p (tB 69 p (tL 69 p (.iload_n 1) 0) (tL 66 p (.getfield 36) 8)) (tL 65 p (.aload_n 0) 0))) (tB 61 p (tB 62 p (tB 63 p (tL 63 p (.iload 4) 0) (tL 62 p .iaload 0)) (tL 61 p (.iload_n 1) 0)) (tB 57 p (tB 58 p (tL 58 p (.getfield 33) 7) (tL 57 p (.aload_n 0) 0)) (tL 56 p (.iload_n 3) 0)))) (tB 45 p (tB 52 p (tB 53 p (tB 55 p (tL 55 p (.aload_n 0) 0) (tL 53 p (.istore 4) 0)) (tL 52 p (.iconst 0) 0)) (tB 48 p (tB 49 p (tL 49 p (.goto 4) 53) (tL 48 p (.iconst 1) 0)) (tL 45 p (.if_icmp .ne 7) 52))) (tB 40 p (tB 43 p (tB 44 p (tL 44 p (.iconst 3) 0) (tL 43 p (.iload_n 2) 0)) (tL 40 p (.if_icmp .eq 8) 48)) (tB 38 p (tB 39 p (tL 39 p (.iconst 1) 0) (tL 38 p (.iload_n 2) 0)) (tL 37 p (.istore_n 3) 0))))) (tB 17 p (tB 27 p (tB 32 p (tB 33 p (tB 36 p (tL 36 p (.iconst 0) 0) (tL 33 p (.goto 4) 37)) (tL 32 p (.iconst 1) 0)) (tB 28 p (tB 29 p (tL 29 p (.if_icmp .ne 7) 36) (tL 28 p (.iconst 2) 0)) (tL 27 p (.iload_n 2) 0))) (tB 22 p (tB 23 p (tB 24 p (tL 24 p (.if_icmp .eq 8) 32) (tL 23 p (.iconst 1) 0)) (tL 22 p (.iload_n 2) 0)) (tB 18 p (tB 21 p (tL 21 p .return_ 0) (tL 18 p (.putfield 99) 19)) (tL 17 p (.iconst 0) 0)))) (tB 7 p (tB 12 p (tB 13 p (tB 16 p (tL 16 p (.aload_n 0) 0) (tL 13 p (.putfield 96) 20)) (tL 12 p (.iconst 0) 0)) (tB 8 p (tB 11 p (tL 11 p (.aload_n 0) 0) (tL 8 p (.ifCond .ne 14) 22)) (tL 7 p (.iload_n 2) 0))) (tB 4 p (tB 5 p (tB 6 p (tL 6 p (.istore_n 2) 0) (tL 5 p .iaload 0)) (tL 4 p (.iload_n 1) 0)) (tB 1 p (tL 1 p (.getfield 30) 6) (tL 0 p (.aload_n 0) 0))))))
set_option maxHeartbeats 4000000 in
def cd18 (p : Nat) : Option (Instr × Nat) := (tB 12 p (tB 22 p (tB 26 p (tB 27 p (tL 27 p .ireturn 0) (tL 26 p (.iconst 0) 0)) (tB 23 p (tL 23 p (.goto 4) 27) (tL 22 p (.iconst 1) 0))) (tB 16 p (tB 19 p (tL 19 p (.ifCond .le 7) 26) (tL 16 p (.getfield 99) 19)) (tB 15 p (tL 15 p (.aload_n 0) 0) (tL 12 p (.invokevirtual 105) 17)))) (tB 8 p (tB 10 p (tB 11 p (tL 11 p (.iload_n 1) 0) (tL 10 p (.aload_n 0) 0)) (tB 9 p (tL 9 p .ireturn 0) (tL 8 p (.iconst 0) 0))) (tB 2 p (tB 5 p (tL 5 p (.ifCond .ne 5) 10) (tL 2 p (.invokevirtual 102) 3)) (tB 1 p (tL 1 p (.iload_n 1) 0) (tL 0 p (.aload_n 0) 0)))))
set_option maxHeartbeats 4000000 in
def cd19 (p : Nat) : Option (Instr × Nat) := (tB 1 p (tB 4 p (tL 4 p .ireturn 0) (tL 1 p (.getfield 54) 14)) (tL 0 p (.aload_n 0) 0))
set_option maxHeartbeats 4000000 in
def cd20 (p : Nat) : Option (Instr × Nat) := (tB 33 p (tB 49 p (tB 56 p (tB 61 p (tB 64 p (tB 65 p (tL 65 p .ireturn 0) (tL 64 p (.iconst 1) 0)) (tL 61 p (.putfield 54) 14)) (tB 57 p (tB 58 p (tL 58 p (.invokevirtual 64) 23) (tL 57 p (.aload_n 0) 0)) (tL 56 p (.aload_n 0) 0))) (tB 53 p (tB 54 p (tB 55 p (tL 55 p .bastore 0) (tL 54 p (.iconst 0) 0)) (tL 53 p (.iload_n 1) 0)) (tB 50 p (tL 50 p (.getfield 13) 1) (tL 49 p (.aload_n 0) 0)))) (tB 40 p (tB 42 p (tB 43 p (tB 46 p (tL 46 p (.goto (-19)) 27) (tL 43 p (.iinc 2 1) 0)) (tL 42 p .iastore 0)) (tB 41 p (tL 41 p (.iconst 0) 0) (tL 40 p .iadd 0))) (tB 37 p (tB 38 p (tB 39 p (tL 39 p (.iload_n 2) 0) (tL 38 p .imul 0)) (tL 37 p (.iconst 4) 0)) (tB 36 p (tL 36 p (.iload_n 1) 0) (tL 33 p (.getfield 7) 0))))) (tB 16 p (tB 25 p (tB 28 p (tB 29 p (tB 32 p (tL 32 p (.aload_n 0) 0) (tL 29 p (.if_icmp .ge 20) 49)) (tL 28 p (.iconst 4) 0)) (tB 26 p (tB 27 p (tL 27 p (.iload_n 2) 0) (tL 26 p (.istore_n 2) 0)) (tL 25 p (.iconst 0) 0))) (tB 20 p (tB 21 p (tB 22 p (tL 22 p (.invokevirtual 61) 22) (tL 21 p (.aload_n 0) 0)) (tL 20 p .ireturn 0)) (tB 19 p (tL 19 p (.iconst 0) 0) (tL 16 p (.ifCond .ne 5) 21)))) (tB 9 p (tB 11 p (tB 14 p (tB 15 p (tL 15 p .baload 0) (tL 14 p (.iload_n 1) 0)) (tL 11 p (.getfield 13) 1)) (tB 10 p (tL 10 p (.aload_n 0) 0) (tL 9 p .ireturn 0))) (tB 2 p (tB 5 p (tB 8 p (tL 8 p (.iconst 0) 0) (tL 5 p (.ifCond .ne 5) 10)) (tL 2 p (.invokevirtual 57) 5)) (tB 1 p (tL 1 p (.iload_n 1) 0) (tL 0 p (.aload_n 0) 0))))))
set_option maxHeartbeats 4000000 in
def cd21 (p : Nat) : Option (Instr × Nat) := (tB 29 p (tB 40 p (tB 44 p (tB 48 p (tB 51 p (tB 52 p (tL 52 p .ireturn 0) (tL 51 p (.iconst 1) 0)) (tL 48 p (.putfield 54) 14)) (tB 45 p (tL 45 p (.invokevirtual 64) 23) (tL 44 p (.aload_n 0) 0))) (tB 42 p (tB 43 p (tL 43 p (.aload_n 0) 0) (tL 42 p .bastore 0)) (tB 41 p (tL 41 p (.iconst 1) 0) (tL 40 p (.iload_n 1) 0)))) (tB 33 p (tB 35 p (tB 36 p (tB 37 p (tL 37 p (.getfield 13) 1) (tL 36 p (.aload_n 0) 0)) (tL 35 p .iastore 0)) (tB 34 p (tL 34 p (.iload_n 3) 0) (tL 33 p .iadd 0))) (tB 31 p (tB 32 p (tL 32 p (.iload_n 2) 0) (tL 31 p .imul 0)) (tB 30 p (tL 30 p (.iconst 4) 0) (tL 29 p (.iload_n 1) 0))))) (tB 14 p (tB 20 p (tB 22 p (tB 25 p (tB 26 p (tL 26 p (.getfield 7) 0) (tL 25 p (.aload_n 0) 0)) (tL 22 p (.invokevirtual 61) 22)) (tB 21 p (tL 21 p (.aload_n 0) 0) (tL 20 p .ireturn 0))) (tB 16 p (tB 19 p (tL 19 p (.iconst 0) 0) (tL 16 p (.if_icmp .lt 5) 21)) (tB 15 p (tL 15 p (.iconst 4) 0) (tL 14 p (.iload_n 2) 0)))) (tB 8 p (tB 10 p (tB 11 p (tL 11 p (.ifCond .lt 8) 19) (tL 10 p (.iload_n 2) 0)) (tB 9 p (tL 9 p .ireturn 0) (tL 8 p (.iconst 0) 0))) (tB 2 p (tB 5 p (tL 5 p (.ifCond .ne 5) 10) (tL 2 p (.invokevirtual 57) 5)) (tB 1 p (tL 1 p (.iload_n 1) 0) (tL 0 p (.aload_n 0) 0))))))
set_option maxHeartbeats 4000000 in
def cd22 (p : Nat) : Option (Instr × Nat) := (tB 24 p (tB 37 p (tB 42 p (tB 46 p (tB 49 p (tL 49 p .return_ 0) (tL 46 p (.goto (-44)) 2)) (tB 43 p (tL 43 p (.iinc 1 1) 0) (tL 42 p .bastore 0))) (tB 38 p (tB 41 p (tL 41 p (.iconst 0) 0) (tL 38 p (.goto 4) 42)) (tL 37 p (.iconst 1) 0))) (tB 29 p (tB 31 p (tB 34 p (tL 34 p (.ifCond .le 7) 41) (tL 31 p (.getfield 99) 19)) (tB 30 p (tL 30 p (.aload_n 0) 0) (tL 29 p (.iload_n 1) 0))) (tB 25 p (tB 26 p (tL 26 p (.getfield 42) 10) (tL 25 p (.aload_n 0) 0)) (tL 24 p .iastore 0)))) (tB 11 p (tB 16 p (tB 20 p (tB 21 p (tL 21 p (.getfield 96) 20) (tL 20 p (.aload_n 0) 0)) (tB 19 p (tL 19 p (.iload_n 1) 0) (tL 16 p (.getfield 39) 9))) (tB 12 p (tB 15 p (tL 15 p (.aload_n 0) 0) (tL 12 p (.invokevirtual 105) 17)) (tL 11 p (.iload_n 1) 0))) (tB 3 p (tB 7 p (tB 10 p (tL 10 p (.aload_n 0) 0) (tL 7 p (.if_icmp .ge 42) 49)) (tB 4 p (tL 4 p (.getfield 51) 13) (tL 3 p (.aload_n 0) 0))) (tB 1 p (tB 2 p (tL 2 p (.iload_n 1) 0) (tL 1 p (.istore_n 1) 0)) (tL 0 p (.iconst 0) 0)))))
set_option maxHeartbeats 4000000 in
def cd23 (p : Nat) : Option (Instr × Nat) := (tB 30 p (tB 45 p (tB 53 p (tB 59 p (tB 62 p (tB 63 p (tL 63 p .ireturn 0) (tL 62 p (.iload_n 1) 0)) (tL 59 p (.goto (-55)) 4)) (tB 56 p (tL 56 p (.iinc 2 1) 0) (tL 53 p (.iinc 1 1) 0))) (tB 49 p (tB 50 p (tL 50 p (.if_icmp .eq 6) 56) (tL 49 p .baload 0)) (tB 48 p (tL 48 p (.iload_n 2) 0) (tL 45 p (.getfield 42) 10)))) (tB 38 p (tB 40 p (tB 43 p (tB 44 p (tL 44 p (.aload_n 0) 0) (tL 43 p (.iload_n 3) 0)) (tL 40 p (.if_icmp .ne 13) 53)) (tB 39 p (tL 39 p .iaload 0) (tL 38 p (.iload_n 2) 0))) (tB 34 p (tB 35 p (tL 35 p (.getfield 39) 9) (tL 34 p (.aload_n 0) 0)) (tB 31 p (tL 31 p (.getfield 96) 20) (tL 30 p (.aload_n 0) 0))))) (tB 13 p (tB 21 p (tB 25 p (tB 28 p (tB 29 p (tL 29 p (.istore_n 3) 0) (tL 28 p (.iconst 0) 0)) (tL 25 p (.goto 4) 29)) (tB 24 p (tL 24 p (.iconst 1) 0) (tL 21 p (.ifCond .le 7) 28))) (tB 17 p (tB 18 p (tL 18 p (.getfield 99) 19) (tL 17 p (.aload_n 0) 0)) (tB 14 p (tL 14 p (.invokevirtual 105) 17) (tL 13 p (.iload_n 2) 0)))) (tB 4 p (tB 6 p (tB 9 p (tB 12 p (tL 12 p (.aload_n 0) 0) (tL 9 p (.if_icmp .ge 53) 62)) (tL 6 p (.getfield 51) 13)) (tB 5 p (tL 5 p (.aload_n 0) 0) (tL 4 p (.iload_n 2) 0))) (tB 2 p (tB 3 p (tL 3 p (.istore_n 2) 0) (tL 2 p (.iconst 0) 0)) (tB 1 p (tL 1 p (.istore_n 1) 0) (tL 0 p (.iconst 0) 0))))))
set_option maxHeartbeats 4000000 in
def cd24 (p : Nat) : Option (Instr × Nat) := (tB 59 p (tB 87 p (tB 101 p (tB 106 p (tB 108 p (tB 109 p (tB 110 p (tL 110 p .ireturn 0) (tL 109 p .iadd 0)) (tL 108 p (.iconst 1) 0)) (tB 107 p (tL 107 p (.iload_n 2) 0) (tL 106 p .iastore 0))) (tB 104 p (tB 105 p (tL 105 p (.iload_n 3) 0) (tL 104 p .iadd 0)) (tB 102 p (tL 102 p (.iload 4) 0) (tL 101 p (.iload_n 1) 0)))) (tB 91 p (tB 97 p (tB 98 p (tL 98 p (.getfield 45) 11) (tL 97 p (.aload_n 0) 0)) (tB 94 p (tL 94 p (.goto (-30)) 64) (tL 91 p (.iinc 5 (-1)) 0))) (tB 89 p (tB 90 p (tL 90 p .iastore 0) (tL 89 p .iaload 0)) (tB 88 p (tL 88 p .isub 0) (tL 87 p (.iconst 1) 0))))) (tB 72 p (tB 79 p (tB 83 p (tB 84 p (tB 86 p (tL 86 p .iadd 0) (tL 84 p (.iload 5) 0)) (tL 83 p (.iload_n 1) 0)) (tB 80 p (tL 80 p (.getfield 45) 11) (tL 79 p (.aload_n 0) 0))) (tB 76 p (tB 78 p (tL 78 p .iadd 0) (tL 76 p (.iload 5) 0)) (tB 75 p (tL 75 p (.iload_n 1) 0) (tL 72 p (.getfield 45) 11)))) (tB 64 p (tB 68 p (tB 71 p (tL 71 p (.aload_n 0) 0) (tL 68 p (.if_icmp .le 29) 97)) (tB 66 p (tL 66 p (.iload 4) 0) (tL 64 p (.iload 5) 0))) (tB 61 p (tB 62 p (tL 62 p (.istore 5) 0) (tL 61 p (.iload_n 2) 0)) (tB 60 p (tL 60 p .ireturn 0) (tL 59 p (.iload_n 2) 0)))))) (tB 28 p (tB 43 p (tB 51 p (tB 54 p (tB 55 p (tB 56 p (tL 56 p (.if_icmp .ne 5) 61) (tL 55 p (.iload_n 3) 0)) (tL 54 p .iaload 0)) (tB 53 p (tL 53 p .iadd 0) (tL 51 p (.iload 4) 0))) (tB 47 p (tB 50 p (tL 50 p (.iload_n 1) 0) (tL 47 p (.getfield 45) 11)) (tB 46 p (tL 46 p (.aload_n 0) 0) (tL 43 p (.if_icmp .ge 18) 61)))) (tB 34 p (tB 40 p (tB 42 p (tL 42 p (.iload_n 2) 0) (tL 40 p (.iload 4) 0)) (tB 37 p (tL 37 p (.goto (-22)) 15) (tL 34 p (.iinc 4 1) 0))) (tB 30 p (tB 31 p (tL 31 p (.if_icmp .ge 9) 40) (tL 30 p (.iload_n 3) 0)) (tB 29 p (tL 29 p .iaload 0) (tL 28 p .iadd 0))))) (tB 13 p (tB 21 p (tB 25 p (tB 26 p (tL 26 p (.iload 4) 0) (tL 25 p (.iload_n 1) 0)) (tB 22 p (tL 22 p (.getfield 45) 11) (tL 21 p (.aload_n 0) 0))) (tB 17 p (tB 18 p (tL 18 p (.if_icmp .ge 22) 40) (tL 17 p (.iload_n 2) 0)) (tB 15 p (tL 15 p (.iload 4) 0) (tL 13 p (.istore 4) 0)))) (tB 7 p (tB 11 p (tB 12 p (tL 12 p (.iconst 0) 0) (tL 11 p .ireturn 0)) (tB 10 p (tL 10 p (.iload_n 2) 0) (tL 7 p (.if_icmp .lt 5) 12))) (tB 4 p (tB 5 p (tL 5 p (.bipush 32) 0) (tL 4 p (.iload_n 2) 0)) (tB 1 p (tL 1 p (.ifCond .lt 9) 10) (tL 0 p (.iload_n 2) 0)))))))
set_option maxHeartbeats 4000000 in
def cd25 (p : Nat) : Option (Instr × Nat) := (tB 15 p (tB 21 p (tB 25 p (tB 26 p (tB 27 p (tL 27 p .ireturn 0) (tL 26 p .iaload 0)) (tL 25 p (.iload_n 1) 0)) (tB 22 p (tL 22 p (.getfield 45) 11) (tL 21 p (.aload_n 0) 0))) (tB 19 p (tB 20 p (tL 20 p .ireturn 0) (tL 19 p (.iconst 0) 0)) (tB 16 p (tL 16 p (.if_icmp .lt 5) 21) (tL 15 p (.iload_n 2) 0)))) (tB 6 p (tB 10 p (tB 11 p (tB 14 p (tL 14 p (.iload_n 1) 0) (tL 11 p (.ifCond .lt 8) 19)) (tL 10 p (.iload_n 1) 0)) (tB 9 p (tL 9 p (.istore_n 2) 0) (tL 6 p (.invokevirtual 71) 10))) (tB 2 p (tB 5 p (tL 5 p (.iconst 0) 0) (tL 2 p (.getfield 17) 2)) (tB 1 p (tL 1 p (.aload_n 0) 0) (tL 0 p (.aload_n 0) 0)))))
set_option maxHeartbeats 4000000 in
def cd26 (p : Nat) : Option (Instr × Nat) := (tB 38 p (tB 54 p (tB 64 p (tB 69 p (tB 72 p (tB 73 p (tL 73 p .ireturn 0) (tL 72 p (.iconst 1) 0)) (tL 69 p (.putfield 54) 14)) (tB 65 p (tB 66 p (tL 66 p (.invokevirtual 64) 23) (tL 65 p (.aload_n 0) 0)) (tL 64 p (.aload_n 0) 0))) (tB 58 p (tB 59 p (tB 61 p (tL 61 p (.putfield 27) 5) (tL 59 p (.iload 4) 0)) (tL 58 p (.aload_n 0) 0)) (tB 55 p (tL 55 p (.putfield 24) 4) (tL 54 p (.iload_n 3) 0)))) (tB 45 p (tB 49 p (tB 50 p (tB 53 p (tL 53 p (.aload_n 0) 0) (tL 50 p (.putfield 21) 3)) (tL 49 p (.iload_n 2) 0)) (tB 48 p (tL 48 p (.aload_n 0) 0) (tL 45 p (.putfield 17) 2))) (tB 40 p (tB 43 p (tB 44 p (tL 44 p (.iload_n 1) 0) (tL 43 p (.aload_n 0) 0)) (tL 40 p (.invokevirtual 61) 22)) (tB 39 p (tL 39 p (.aload_n 0) 0) (tL 38 p .ireturn 0))))) (tB 18 p (tB 28 p (tB 33 p (tB 34 p (tB 37 p (tL 37 p (.iconst 0) 0) (tL 34 p (.if_icmp .le 5) 39)) (tL 33 p (.iconst 3) 0)) (tB 31 p (tL 31 p (.iload 4) 0) (tL 28 p (.ifCond .lt 9) 37))) (tB 24 p (tB 25 p (tB 26 p (tL 26 p (.iload 4) 0) (tL 25 p .ireturn 0)) (tL 24 p (.iconst 0) 0)) (tB 21 p (tL 21 p (.ifCond .ne 5) 26) (tL 18 p (.invokevirtual 68) 27)))) (tB 9 p (tB 13 p (tB 16 p (tB 17 p (tL 17 p (.iload_n 3) 0) (tL 16 p (.aload_n 0) 0)) (tL 13 p (.ifCond .eq 11) 24)) (tB 10 p (tL 10 p (.invokevirtual 68) 27) (tL 9 p (.iload_n 2) 0))) (tB 2 p (tB 5 p (tB 8 p (tL 8 p (.aload_n 0) 0) (tL 5 p (.ifCond .eq 19) 24)) (tL 2 p (.invokevirtual 68) 27)) (tB 1 p (tL 1 p (.iload_n 1) 0) (tL 0 p (.aload_n 0) 0))))))
set_option maxHeartbeats 4000000 in
def cd27 (p : Nat) : Option (Instr × Nat) := (tB 6 p (tB 10 p (tB 13 p (tB 14 p (tL 14 p .ireturn 0) (tL 13 p (.iconst 0) 0)) (tL 10 p (.goto 4) 14)) (tB 9 p (tL 9 p (.iconst 1) 0) (tL 6 p (.if_icmp .ge 7) 13))) (tB 4 p (tB 5 p (tL 5 p (.iconst 4) 0) (tL 4 p (.iload_n 1) 0)) (tB 1 p (tL 1 p (.ifCond .lt 12) 13) (tL 0 p (.iload_n 1) 0))))
def pCode (m pc : Nat) : Option (Instr × Nat) := bif Nat.ble pN m then none else bif Nat.ble (pTop m) pc then none else (bif Nat.ble 14 m then (bif Nat.ble 21 m then (bif Nat.ble 24 m then (bif Nat.ble 26 m then (bif Nat.ble 27 m then cd27 pc else cd26 pc) else (bif Nat.ble 25 m then cd25 pc else cd24 pc)) else (bif Nat.ble 22 m then (bif Nat.ble 23 m then cd23 pc else cd22 pc) else cd21 pc)) else (bif Nat.ble 17 m then (bif Nat.ble 19 m then (bif Nat.ble 20 m then cd20 pc else cd19 pc) else (bif Nat.ble 18 m then cd18 pc else cd17 pc)) else (bif Nat.ble 15 m then (bif Nat.ble 16 m then cd16 pc else cd15 pc) else cd14 pc))) else (bif Nat.ble 7 m then (bif Nat.ble 10 m then (bif Nat.ble 12 m then (bif Nat.ble 13 m then cd13 pc else cd12 pc) else (bif Nat.ble 11 m then cd11 pc else cd10 pc)) else (bif Nat.ble 8 m then (bif Nat.ble 9 m then cd9 pc else cd8 pc) else cd7 pc)) else (bif Nat.ble 3 m then (bif Nat.ble 5 m then (bif Nat.ble 6 m then cd6 pc else cd5 pc) else (bif Nat.ble 4 m then cd4 pc else cd3 pc)) else (bif Nat.ble 1 m then (bif Nat.ble 2 m then cd2 pc else cd1 pc) else cd0 pc))))
def lkF : List (Nat × Nat × Nat) := [(1, 7, 0), (1, 13, 1), (1, 17, 2), (1, 21, 3), (1, 24, 4), (1, 27, 5), (1, 30, 6), (1, 33, 7), (1, 36, 8), (1, 39, 9), (1, 42, 10), (1, 45, 11), (1, 48, 12), (1, 51, 13), (1, 54, 14), (1, 79, 15), (1, 83, 16), (1, 86, 17), (1, 89, 18), (1, 99, 19), (1, 96, 20)]
def lkN : List (Nat × Nat) := [(0, 9)]
def lkC : List (Nat × Nat × Nat) := [(0, 14, 0)]
def lkD : List (Nat × Nat × Nat) := [(0, 7, 1), (0, 19, 2), (0, 25, 3)]
def lkV : List (Nat × Nat × Nat) := [(0, 11, 1), (0, 31, 2), (1, 102, 3), (0, 34, 4), (1, 57, 5), (0, 38, 6), (0, 44, 7), (0, 47, 8), (1, 75, 9), (1, 71, 10), (1, 92, 11), (1, 113, 12), (0, 50, 13), (0, 53, 14), (0, 57, 15), (0, 64, 16), (1, 105, 17), (0, 67, 18), (0, 70, 19), (0, 21, 20), (0, 15, 21), (1, 61, 22), (1, 64, 23), (1, 109, 24), (0, 60, 25), (0, 27, 26), (1, 68, 27)]
def lkO : List (Nat × Nat) := [(1, 1)]
def mV : List Nat := [2, 4, 7, 8, 13, 14, 15, 16, 18, 19, 20, 21, 25, 26]
def mP : List Nat := [3, 5, 9, 10, 11, 12, 17, 22, 23, 24, 27]
def mS : List Nat := [6]
def mI : List Nat := [1]
def mA : List Nat := [1, 2, 3, 4, 5, 6, 7, 8, 9, 10, 11, 12, 13, 14, 15, 16, 17, 18, 19, 20, 21, 22, 23, 24, 25, 26, 27]
def aTys : List FieldType := [.int, .boolean]
abbrev QCell := List Value ⊕ ((FieldType × List Int32) ⊕ List Int64)
abbrev QHeap := List QCell
abbrev QLoc := List (Option Value)
abbrev vI (x : Int32) : Option Value := some (.int x)
abbrev vR (a : Addr) : Option Value := some (.ref a)
abbrev vL (x : Int64) : Option Value := some (.long x)
abbrev QSt := Nat × QLoc × List Value × QHeap
def qv (ad : Nat → Addr) : Value → Value
 | .ref k => .ref (ad k)
 | v => v
def qsz : QCell → Nat
 | .inl _ => cN
 | .inr (.inl x) => x.2.length
 | .inr (.inr x) => x.length
def qhs : QHeap → Nat
 | [] => 0
 | c :: t => qsz c + qhs t
def aget {α : Type} (xs : List α) (j : Int32) : Option α := if j < 0 then none else xs[j.toNatClampNeg]?
def aset {α : Type} (xs : List α) (j : Int32) (v : α) : Option (List α) := if j < 0 then none else if j.toNatClampNeg < xs.length then some (xs.set j.toNatClampNeg v) else none
def qnew (n : Int32) : Option Nat := if n < 0 then none else if n.toNatClampNeg ≤ 67108864 then some n.toNatClampNeg else none
def qdiv (x y : Int32) : Option Int32 := if y = 0 then none else some (x / y)
def qrem (x y : Int32) : Option Int32 := if y = 0 then none else some (x % y)
def qboo (x : Int32) : Option Int32 := if x = 0 then some x else if x = 1 then some x else none
def lget : QLoc → Nat → Option Value
 | [], _ => none
 | v :: _, 0 => v
 | _ :: t, k + 1 => lget t k
def hget : QHeap → Nat → Option QCell
 | [], _ => none
 | v :: _, 0 => some v
 | _ :: t, k + 1 => hget t k
def vget : List Value → Nat → Option Value
 | [], _ => none
 | v :: _, 0 => some v
 | _ :: t, k + 1 => vget t k
def lkill (L : QLoc) : Nat → QLoc
 | 0 => L
 | k + 1 => match lget L k with
  | some (.long _) => L.set k none
  | some (.double _) => L.set k none
  | _ => L
def lput (L : QLoc) (k : Nat) (v : Value) : Option QLoc :=
 match v with
 | .long x => bif Nat.ble (k + 2) L.length then some (((lkill L k).set k (some (.long x))).set (k + 1) none) else none
 | .double _ => none
 | v => bif Nat.ble (k + 1) L.length then some ((lkill L k).set k (some v)) else none
def qload (pc : Nat) (L : QLoc) (S : List Value) (σ : QHeap) (k : Nat) (ok : Value → Bool) : Option QSt :=
 match lget L k with
 | some v => bif ok v then some (pc, L, v :: S, σ) else none
 | none => none
def isI : Value → Bool | .int _ => true | _ => false
def isJ : Value → Bool | .long _ => true | _ => false
def isR : Value → Bool | .ref _ => true | _ => false
def qstore (pc : Nat) (L : QLoc) (S : List Value) (σ : QHeap) (k : Nat) (ok : Value → Bool) : Option QSt :=
 match S with
 | v :: S' => bif ok v then (match lput L k v with | some L' => some (pc, L', S', σ) | none => none) else none
 | [] => none
def qbin (pc : Nat) (L : QLoc) (S : List Value) (σ : QHeap) (f : Int32 → Int32 → Int32) : Option QSt :=
 match S with
 | .int y :: .int x :: S' => some (pc, L, .int (f x y) :: S', σ)
 | _ => none
def qbino (pc : Nat) (L : QLoc) (S : List Value) (σ : QHeap) (f : Int32 → Int32 → Option Int32) : Option QSt :=
 match S with
 | .int y :: .int x :: S' => (f x y).bind fun z => some (pc, L, .int z :: S', σ)
 | _ => none
def qbinJ (pc : Nat) (L : QLoc) (S : List Value) (σ : QHeap) (f : Int64 → Int64 → Int64) : Option QSt :=
 match S with
 | .long y :: .long x :: S' => some (pc, L, .long (f x y) :: S', σ)
 | _ => none
def qshJ (pc : Nat) (L : QLoc) (S : List Value) (σ : QHeap) (f : Int64 → Int32 → Int64) : Option QSt :=
 match S with
 | .int y :: .long x :: S' => some (pc, L, .long (f x y) :: S', σ)
 | _ => none
def quni (pc : Nat) (L : QLoc) (S : List Value) (σ : QHeap) (f : Int32 → Value) : Option QSt :=
 match S with
 | .int x :: S' => some (pc, L, f x :: S', σ)
 | _ => none
def quniJ (pc : Nat) (L : QLoc) (S : List Value) (σ : QHeap) (f : Int64 → Value) : Option QSt :=
 match S with
 | .long x :: S' => some (pc, L, f x :: S', σ)
 | _ => none
def qald (pc : Nat) (L : QLoc) (S : List Value) (σ : QHeap) (ok : FieldType → Bool) : Option QSt :=
 match S with
 | .int j :: .ref a :: S' => (match hget σ a with
  | some (.inr (.inl x)) => bif ok x.1 then (aget x.2 j).bind fun v => some (pc, L, .int v :: S', σ) else none
  | _ => none)
 | _ => none
def qaldJ (pc : Nat) (L : QLoc) (S : List Value) (σ : QHeap) : Option QSt :=
 match S with
 | .int j :: .ref a :: S' => (match hget σ a with
  | some (.inr (.inr x)) => (aget x j).bind fun v => some (pc, L, .long v :: S', σ)
  | _ => none)
 | _ => none
def qnar : FieldType → Int32 → Int32
 | .boolean, x => x &&& 1
 | .byte, x => x.toInt8.toInt32
 | _, x => x
def qast (pc : Nat) (L : QLoc) (S : List Value) (σ : QHeap) (ok : FieldType → Bool) : Option QSt :=
 match S with
 | .int v :: .int j :: .ref a :: S' => (match hget σ a with
  | some (.inr (.inl x)) => bif ok x.1 && Nat.ble k0 a then (aset x.2 j (qnar x.1 v)).bind fun y => some (pc, L, S', σ.set a (.inr (.inl (x.1, y)))) else none
  | _ => none)
 | _ => none
def qastJ (pc : Nat) (L : QLoc) (S : List Value) (σ : QHeap) : Option QSt :=
 match S with
 | .long v :: .int j :: .ref a :: S' => (match hget σ a with
  | some (.inr (.inr x)) => bif Nat.ble k0 a then (aset x j v).bind fun y => some (pc, L, S', σ.set a (.inr (.inr y))) else none
  | _ => none)
 | _ => none
def tyI : FieldType → Bool | .int => true | _ => false
def tyB : FieldType → Bool | .boolean => true | .byte => true | _ => false
def qfit : FieldType → Value → Option Value
 | .int, .int x => some (.int x)
 | .boolean, .int x => (qboo x).bind fun y => some (.int y)
 | .long, .long x => some (.long x)
 | .array t, .ref a => some (.ref a)
 | _, _ => none
def qget (pc : Nat) (L : QLoc) (S : List Value) (σ : QHeap) (k : Nat) : Option QSt :=
 match S with
 | .ref a :: S' => (match hget σ a with
  | some (.inl vs) => (match vget vs k with | some v => some (pc, L, v :: S', σ) | none => none)
  | _ => none)
 | _ => none
def qput (pc : Nat) (L : QLoc) (S : List Value) (σ : QHeap) (k : Nat) : Option QSt :=
 match S with
 | v :: .ref a :: S' => (match hget σ a with
  | some (.inl vs) => bif Nat.ble k0 a && Nat.ble (k + 1) vs.length then (qfit (fTy k) v).bind fun w => some (pc, L, S', σ.set a (.inl (vs.set k w))) else none
  | _ => none)
 | _ => none
def qnewA (pc : Nat) (L : QLoc) (S : List Value) (σ : QHeap) (t : ArrayType) : Option QSt :=
 match S with
 | .int n :: S' => (match t with
  | .int => (qnew n).bind fun k => some (pc, L, .ref σ.length :: S', σ ++ [.inr (.inl (.int, List.replicate k 0))])
  | .boolean => (qnew n).bind fun k => some (pc, L, .ref σ.length :: S', σ ++ [.inr (.inl (.boolean, List.replicate k 0))])
  | .byte => (qnew n).bind fun k => some (pc, L, .ref σ.length :: S', σ ++ [.inr (.inl (.byte, List.replicate k 0))])
  | .long => (qnew n).bind fun k => some (pc, L, .ref σ.length :: S', σ ++ [.inr (.inr (List.replicate k 0))])
  | _ => none)
 | _ => none
def qlen (pc : Nat) (L : QLoc) (S : List Value) (σ : QHeap) : Option QSt :=
 match S with
 | .ref a :: S' => (match hget σ a with
  | some (.inr (.inl x)) => some (pc, L, .int x.2.length.toInt32 :: S', σ)
  | some (.inr (.inr x)) => some (pc, L, .int x.length.toInt32 :: S', σ)
  | _ => none)
 | _ => none
def qdup (pc : Nat) (L : QLoc) (S : List Value) (σ : QHeap) : Option QSt :=
 match S with
 | .int x :: S' => some (pc, L, .int x :: .int x :: S', σ)
 | .ref x :: S' => some (pc, L, .ref x :: .ref x :: S', σ)
 | _ => none
def qdup2 (pc : Nat) (L : QLoc) (S : List Value) (σ : QHeap) : Option QSt :=
 match S with
 | .int x :: .ref y :: S' => some (pc, L, .int x :: .ref y :: .int x :: .ref y :: S', σ)
 | .int x :: .int y :: S' => some (pc, L, .int x :: .int y :: .int x :: .int y :: S', σ)
 | .long x :: S' => some (pc, L, .long x :: .long x :: S', σ)
 | _ => none
def qpop (pc : Nat) (L : QLoc) (S : List Value) (σ : QHeap) : Option QSt :=
 match S with
 | .int _ :: S' => some (pc, L, S', σ)
 | .ref _ :: S' => some (pc, L, S', σ)
 | _ => none
def qif (pc : Nat) (L : QLoc) (S : List Value) (σ : QHeap) (cd : ClassFile.Cond) (tgt : Nat) : Option QSt :=
 match S with
 | .int x :: S' => some (bif ifCond.holds cd x then tgt else pc, L, S', σ)
 | _ => none
def qicmp (pc : Nat) (L : QLoc) (S : List Value) (σ : QHeap) (cd : ClassFile.Cond) (tgt : Nat) : Option QSt :=
 match S with
 | .int y :: .int x :: S' => some (bif if_icmp.holds cd x y then tgt else pc, L, S', σ)
 | _ => none
def qinc (pc : Nat) (L : QLoc) (S : List Value) (σ : QHeap) (k : Nat) (i : Int) : Option QSt :=
 match lget L k with
 | some (.int x) => (match lput L k (.int (x + Int32.ofInt i)) with | some L' => some (pc, L', S, σ) | none => none)
 | _ => none
def qldc (pc : Nat) (L : QLoc) (S : List Value) (σ : QHeap) (k : Nat) : Option QSt :=
 match vget cK k with
 | some v => some (pc, L, v :: S, σ)
 | none => none
def qexec (pc : Nat) (L : QLoc) (S : List Value) (σ : QHeap) (aux : Nat) : Instr → Option QSt
 | .aload_n k => qload (pc + 1) L S σ k.val isR
 | .aload k => qload (pc + 2) L S σ k isR
 | .iload_n k => qload (pc + 1) L S σ k.val isI
 | .iload k => qload (pc + 2) L S σ k isI
 | .lload_n k => qload (pc + 1) L S σ k.val isJ
 | .lload k => qload (pc + 2) L S σ k isJ
 | .iconst i => some (pc + 1, L, .int (Int32.ofInt i) :: S, σ)
 | .bipush i => some (pc + 2, L, .int (Int8.ofInt i).toInt32 :: S, σ)
 | .sipush i => some (pc + 3, L, .int (Int16.ofInt i).toInt32 :: S, σ)
 | .lconst k => some (pc + 1, L, .long (Int64.ofNat k.val) :: S, σ)
 | .ldc _ => qldc (pc + 2) L S σ aux
 | .ldc2_w _ => qldc (pc + 3) L S σ aux
 | .istore_n k => qstore (pc + 1) L S σ k.val isI
 | .istore k => qstore (pc + 2) L S σ k isI
 | .lstore_n k => qstore (pc + 1) L S σ k.val isJ
 | .lstore k => qstore (pc + 2) L S σ k isJ
 | .astore_n k => qstore (pc + 1) L S σ k.val isR
 | .astore k => qstore (pc + 2) L S σ k isR
 | .iinc k i => qinc (pc + 3) L S σ k i
 | .iadd => qbin (pc + 1) L S σ fun x y => x + y
 | .isub => qbin (pc + 1) L S σ fun x y => x - y
 | .imul => qbin (pc + 1) L S σ fun x y => x * y
 | .iand => qbin (pc + 1) L S σ fun x y => x &&& y
 | .ior => qbin (pc + 1) L S σ fun x y => x ||| y
 | .ixor => qbin (pc + 1) L S σ fun x y => x ^^^ y
 | .ishl => qbin (pc + 1) L S σ fun x y => x <<< (y &&& 31)
 | .ishr => qbin (pc + 1) L S σ fun x y => x >>> (y &&& 31)
 | .iushr => qbin (pc + 1) L S σ fun x y => XT.ushr x y
 | .idiv => qbino (pc + 1) L S σ qdiv
 | .irem => qbino (pc + 1) L S σ qrem
 | .ineg => quni (pc + 1) L S σ fun x => .int (-x)
 | .i2l => quni (pc + 1) L S σ fun x => .long x.toInt64
 | .i2b => quni (pc + 1) L S σ fun x => .int x.toInt8.toInt32
 | .l2i => quniJ (pc + 1) L S σ fun x => .int x.toInt32
 | .lneg => quniJ (pc + 1) L S σ fun x => .long (-x)
 | .ladd => qbinJ (pc + 1) L S σ fun x y => x + y
 | .lsub => qbinJ (pc + 1) L S σ fun x y => x - y
 | .lmul => qbinJ (pc + 1) L S σ fun x y => x * y
 | .land => qbinJ (pc + 1) L S σ fun x y => x &&& y
 | .lor => qbinJ (pc + 1) L S σ fun x y => x ||| y
 | .lxor => qbinJ (pc + 1) L S σ fun x y => x ^^^ y
 | .lshl => qshJ (pc + 1) L S σ fun x y => x <<< (y.toInt64 &&& 63)
 | .lshr => qshJ (pc + 1) L S σ fun x y => x >>> (y.toInt64 &&& 63)
 | .lushr => qshJ (pc + 1) L S σ fun x y => XT.ushrL x y
 | .lcmp => (match S with
  | .long y :: .long x :: S' => some (pc + 1, L, .int (XT.cmpL x y) :: S', σ)
  | _ => none)
 | .goto _ => some (aux, L, S, σ)
 | .ifCond cd _ => qif (pc + 3) L S σ cd aux
 | .if_icmp cd _ => qicmp (pc + 3) L S σ cd aux
 | .dup => qdup (pc + 1) L S σ
 | .dup2 => qdup2 (pc + 1) L S σ
 | .pop => qpop (pc + 1) L S σ
 | .getfield _ => qget (pc + 3) L S σ aux
 | .putfield _ => qput (pc + 3) L S σ aux
 | .iaload => qald (pc + 1) L S σ tyI
 | .baload => qald (pc + 1) L S σ tyB
 | .laload => qaldJ (pc + 1) L S σ
 | .iastore => qast (pc + 1) L S σ tyI
 | .bastore => qast (pc + 1) L S σ tyB
 | .lastore => qastJ (pc + 1) L S σ
 | .arraylength => qlen (pc + 1) L S σ
 | .newarray t => qnewA (pc + 2) L S σ t
 | .new _ => some (pc + 3, L, .ref σ.length :: S, σ ++ [.inl cDef])
 | _ => none
def qstep (m : Nat) (st : QSt) : Option QSt :=
 match pCode m st.1 with
 | some (i, aux) => qexec st.1 st.2.1 st.2.2.1 st.2.2.2 aux i
 | none => none
def qsteps (m : Nat) : Nat → QSt → Option QSt
 | 0, st => some st
 | n + 1, st => match qstep m st with | some st' => qsteps m n st' | none => none
def qentry (args : List Value) (mx : Nat) : QLoc := (args.flatMap fun v => match v with | .long x => [some (.long x), none] | .double x => [some (.double x), none] | v => [some v]) ++ List.replicate (mx - (args.map fun v => v.category).sum) none
def ilen : Instr → Nat
 | .aload _ | .iload _ | .lload _ | .istore _ | .lstore _ | .astore _ | .bipush _ | .ldc _ | .newarray _ => 2
 | .sipush _ | .ldc2_w _ | .iinc _ _ | .goto _ | .ifCond _ _ | .if_icmp _ _ | .getfield _ | .putfield _ | .new _ | .invokevirtual _ | .invokespecial _ | .invokestatic _ => 3
 | _ => 1
def qtgt (pc : Nat) (o : Int) (aux : Nat) : Bool := decide (0 ≤ (pc : Int) + o) && decide (((pc : Int) + o).toNat = aux)
def qlk (m pc : Nat) (i : Instr) (aux : Nat) : Bool :=
 match i with
 | .goto o => qtgt pc o aux
 | .ifCond _ o => qtgt pc o aux
 | .if_icmp _ o => qtgt pc o aux
 | .getfield idx => lkF.contains (pK m, idx, aux)
 | .putfield idx => lkF.contains (pK m, idx, aux) && (!fFin aux || (pK m == 1 && pNm m == "<init>"))
 | .new idx => lkN.contains (pK m, idx)
 | .newarray t => aTys.contains (newarray.typeOf t)
 | .ldc idx => lkC.contains (pK m, idx, aux)
 | .ldc2_w idx => lkD.contains (pK m, idx, aux)
 | _ => true
def qchk (m pc : Nat) (i : Instr) (aux : Nat) : Bool := decide (decode (pBytes m) pc = .ok (i, ilen i)) && qlk m pc i aux
def QCellOk (Z : State) (ad : Nat → Addr) (h : Heap) (a : Addr) : QCell → Prop
 | .inl vs => Exa Z h a cName ∧ vs.length = nF ∧ ∀ (k : Nat) (v : Value), k < nF → vget vs k = some v → Fld Z h a cName (fNm k) (fDs k) (qv ad v)
 | .inr (.inl x) => ∃ c : Cell, Arr Z h a c x.1 ∧ c.slots = (x.2.map Value.int).toArray
 | .inr (.inr x) => ∃ c : Cell, Arr Z h a c .long ∧ c.slots = (x.map Value.long).toArray
def QAd (n0 : Nat) (ad : Nat → Addr) : Prop := (∀ k, k0 ≤ k → ad k = n0 + (k - k0)) ∧ ∀ i j, ad i = ad j → i = j
def QRep (Z : State) (n0 : Nat) (ad : Nat → Addr) (h : Heap) (σ : QHeap) : Prop := k0 ≤ σ.length ∧ h.size = n0 + (σ.length - k0) ∧ ∀ k c, hget σ k = some c → QCellOk Z ad h (ad k) c
def QLocOk (ad : Nat → Addr) (L : QLoc) (C : Array Slot) : Prop :=
 L.length = C.size ∧ (∀ k v, lget L k = some v → C[k]? = some (.val (qv ad v))) ∧ (∀ k w, C[k]? = some (.val w) → w.category = 2 → C[k + 1]? = some .second) ∧ ∀ k, C[k]? = some .second → ∃ j w, k = j + 1 ∧ C[j]? = some (.val w) ∧ w.category = 2
def QW (Z : State) (a0 : Array Value) : Prop :=
 (∀ t ∈ lkF, (Cond.fieldLink (kName t.1) t.2.1 cName (fNm t.2.2) (fDs t.2.2)).before a0 Z = true) ∧
 (∀ t ∈ lkN, (Cond.classLink (kName t.1) t.2 cName).before a0 Z = true) ∧
 (∀ t ∈ lkC, ∃ v, vget cK t.2.2 = some (.int v) ∧ (Cond.constant (kName t.1) t.2.1 v).before a0 Z = true) ∧
 (∀ t ∈ lkD, ∃ v, vget cK t.2.2 = some (.long v) ∧ (Cond.constantLong (kName t.1) t.2.1 v).before a0 Z = true) ∧
 (∀ t ∈ lkV, (Cond.methodLink (kName t.1) t.2.1 (pName t.2.2)).before a0 Z = true) ∧
 (∀ t ∈ lkO, (Cond.methodLink (kName t.1) t.2 Lib.objectInit).before a0 Z = true) ∧
 (∀ m ∈ mV, (Cond.declares (pName m)).before a0 Z = true ∧ (Cond.selects cName (pName m) (pName m)).before a0 Z = true ∧ (Cond.instanceMethod (pName m)).before a0 Z = true) ∧
 (∀ m ∈ mP, (Cond.instanceMethod (pName m)).before a0 Z = true ∧ (Cond.privateMethod (pName m)).before a0 Z = true) ∧
 (∀ m ∈ mS, (Cond.static (pName m)).before a0 Z = true) ∧
 (∀ m ∈ mI, (Cond.instanceMethod (pName m)).before a0 Z = true) ∧
 (∀ m ∈ mA, (Cond.code (pName m) (pBytes m) (pMaxL m) (pRet m)).before a0 Z = true ∧ (Cond.initialized (kName (pK m))).before a0 Z = true) ∧
 (Cond.instanceMethod Lib.objectInit).before a0 Z = true ∧ (Cond.code Lib.objectInit ⟨#[0xb1]⟩ 1 none).before a0 Z = true ∧
 (∀ k, k < nF → bif fFin k then (Cond.laysFinal cName cName (fNm k) (fDs k)).before a0 Z = true else (Cond.lays cName cName (fNm k) (fDs k)).before a0 Z = true) ∧
 (Cond.instantiable cName cN).before a0 Z = true ∧ (Cond.initialized cName).before a0 Z = true ∧
 ∀ ty ∈ aTys, (Cond.arrayClass ty).before a0 Z = true
section Words
variable {Z : State} {a0 : Array Value}
theorem qw_fl (W : QW Z a0) : ∀ t ∈ lkF, (Cond.fieldLink (kName t.1) t.2.1 cName (fNm t.2.2) (fDs t.2.2)).before a0 Z = true := W.1
theorem qw_nw (W : QW Z a0) : ∀ t ∈ lkN, (Cond.classLink (kName t.1) t.2 cName).before a0 Z = true := W.2.1
theorem qw_cI (W : QW Z a0) : ∀ t ∈ lkC, ∃ v, vget cK t.2.2 = some (.int v) ∧ (Cond.constant (kName t.1) t.2.1 v).before a0 Z = true := W.2.2.1
theorem qw_cJ (W : QW Z a0) : ∀ t ∈ lkD, ∃ v, vget cK t.2.2 = some (.long v) ∧ (Cond.constantLong (kName t.1) t.2.1 v).before a0 Z = true := W.2.2.2.1
theorem qw_ml (W : QW Z a0) : ∀ t ∈ lkV, (Cond.methodLink (kName t.1) t.2.1 (pName t.2.2)).before a0 Z = true := W.2.2.2.2.1
theorem qw_mo (W : QW Z a0) : ∀ t ∈ lkO, (Cond.methodLink (kName t.1) t.2 Lib.objectInit).before a0 Z = true := W.2.2.2.2.2.1
theorem qw_vi (W : QW Z a0) : ∀ m ∈ mV, (Cond.declares (pName m)).before a0 Z = true ∧ (Cond.selects cName (pName m) (pName m)).before a0 Z = true ∧ (Cond.instanceMethod (pName m)).before a0 Z = true := W.2.2.2.2.2.2.1
theorem qw_pr (W : QW Z a0) : ∀ m ∈ mP, (Cond.instanceMethod (pName m)).before a0 Z = true ∧ (Cond.privateMethod (pName m)).before a0 Z = true := W.2.2.2.2.2.2.2.1
theorem qw_st (W : QW Z a0) : ∀ m ∈ mS, (Cond.static (pName m)).before a0 Z = true := W.2.2.2.2.2.2.2.2.1
theorem qw_ini (W : QW Z a0) : ∀ m ∈ mI, (Cond.instanceMethod (pName m)).before a0 Z = true := W.2.2.2.2.2.2.2.2.2.1
theorem qw_cod (W : QW Z a0) : ∀ m ∈ mA, (Cond.code (pName m) (pBytes m) (pMaxL m) (pRet m)).before a0 Z = true ∧ (Cond.initialized (kName (pK m))).before a0 Z = true := W.2.2.2.2.2.2.2.2.2.2.1
theorem qw_oi (W : QW Z a0) : (Cond.instanceMethod Lib.objectInit).before a0 Z = true := W.2.2.2.2.2.2.2.2.2.2.2.1
theorem qw_oc (W : QW Z a0) : (Cond.code Lib.objectInit ⟨#[0xb1]⟩ 1 none).before a0 Z = true := W.2.2.2.2.2.2.2.2.2.2.2.2.1
theorem qw_lay (W : QW Z a0) : ∀ k, k < nF → bif fFin k then (Cond.laysFinal cName cName (fNm k) (fDs k)).before a0 Z = true else (Cond.lays cName cName (fNm k) (fDs k)).before a0 Z = true := W.2.2.2.2.2.2.2.2.2.2.2.2.2.1
theorem qw_inst (W : QW Z a0) : (Cond.instantiable cName cN).before a0 Z = true := W.2.2.2.2.2.2.2.2.2.2.2.2.2.2.1
theorem qw_init (W : QW Z a0) : (Cond.initialized cName).before a0 Z = true := W.2.2.2.2.2.2.2.2.2.2.2.2.2.2.2.1
theorem qw_arr (W : QW Z a0) : ∀ ty ∈ aTys, (Cond.arrayClass ty).before a0 Z = true := W.2.2.2.2.2.2.2.2.2.2.2.2.2.2.2.2
end Words
theorem hget_eq : ∀ (σ : QHeap) k, hget σ k = σ[k]?
 | [], _ => by simp [hget]
 | _ :: _, 0 => by simp [hget]
 | _ :: t, k + 1 => by simp [hget, hget_eq t k]
theorem vget_eq : ∀ (σ : List Value) k, vget σ k = σ[k]?
 | [], _ => by simp [vget]
 | _ :: _, 0 => by simp [vget]
 | _ :: t, k + 1 => by simp [vget, vget_eq t k]
theorem lget_eq : ∀ (L : QLoc) k, lget L k = (L[k]?).getD none
 | [], _ => by simp [lget]
 | _ :: _, 0 => by simp [lget]
 | _ :: t, k + 1 => by simp [lget, lget_eq t k]
theorem lget_lt {L : QLoc} {k : Nat} {v : Value} (h : lget L k = some v) : k < L.length := by
 rw [lget_eq] at h
 rcases Nat.lt_or_ge k L.length with q | q
 ·exact q
 ·simp [List.getElem?_eq_none q] at h
theorem lget_set {L : QLoc} {k j : Nat} {o : Option Value} (hk : k < L.length) : lget (L.set k o) j = if j = k then o else lget L j := by
 simp only [lget_eq, List.getElem?_set]
 by_cases e : k = j
 ·subst e; simp [hk]
 ·simp [e, Ne.symm e]
theorem qhs_app (σ τ : QHeap) : qhs (σ ++ τ) = qhs σ + qhs τ := by
 induction σ with
 | nil => simp [qhs]
 | cons c t ih => simp [qhs, ih, Nat.add_assoc]
theorem qhs_set {σ : QHeap} {k : Nat} {c d : QCell} (h : hget σ k = some c) (hs : qsz d = qsz c) : qhs (σ.set k d) = qhs σ := by
 induction σ generalizing k with
 | nil => simp [hget] at h
 | cons x t ih =>
  cases k with
  | zero => simp only [hget, Option.some.injEq] at h; subst h; simp [qhs, hs]
  | succ k => simp only [hget] at h; simp [qhs, ih h]
theorem hget_set {σ : QHeap} {k j : Nat} {c d : QCell} (h : hget σ k = some c) : hget (σ.set k d) j = if j = k then some d else hget σ j := by
 rw [hget_eq] at h
 have hk := (List.getElem?_eq_some_iff.mp h).1
 simp only [hget_eq, List.getElem?_set]
 by_cases e : k = j
 ·subst e; simp [hk]
 ·simp [e, Ne.symm e]
theorem lkill_len (L : QLoc) (k : Nat) : (lkill L k).length = L.length := by
 cases k with
 | zero => rfl
 | succ k => simp only [lkill]; split <;> simp
theorem lget_kill {L : QLoc} {k j : Nat} {v : Value} (h : lget (lkill L k) j = some v) : lget L j = some v ∧ (k = j + 1 → v.category ≠ 2) := by
 cases k with
 | zero => exact ⟨h, fun e => by omega⟩
 | succ k =>
  simp only [lkill] at h
  split at h
  ·rename_i x q
   rw [lget_set (lget_lt q)] at h
   split at h
   ·cases h
   ·rename_i ne; exact ⟨h, fun e => absurd (by omega) ne⟩
  ·rename_i x q
   rw [lget_set (lget_lt q)] at h
   split at h
   ·cases h
   ·rename_i ne; exact ⟨h, fun e => absurd (by omega) ne⟩
  ·rename_i q1 q2
   refine ⟨h, fun e hc => ?_⟩
   obtain rfl : j = k := by omega
   cases v with
   | long x => exact q1 _ h
   | double x => exact q2 _ h
   | _ => simp [Value.category] at hc
theorem qv_cat (ad : Nat → Addr) (v : Value) : (qv ad v).category = v.category := by cases v <;> rfl
def kA (C : Array Slot) (k j : Nat) : Prop := k = j + 1 ∧ C[k]? = some .second
def kB (C : Array Slot) (k j : Nat) : Prop := j = k + 1 ∧ ∃ u, C[k]? = some (.val u) ∧ u.category = 2
def kD (C : Array Slot) (k j : Nat) : Prop := j = k + 2 ∧ ∃ u, C[k + 1]? = some (.val u) ∧ u.category = 2
theorem set1_at {C D : Array Slot} {k : Nat} {w : Value} (hk : k < C.size) (hw : w.category = 1) (h : storeLocals C k w = some D) :
  D.size = C.size ∧ D[k]? = some (.val w) ∧ ∀ j, j ≠ k → (D[j]? = C[j]? ∧ ¬ kA C k j ∧ ¬ kB C k j) ∨ D[j]? = some .unset ∧ (kA C k j ∨ kB C k j) := by
 have hck : C[k]? = some C[k] := Array.getElem?_eq_getElem hk
 unfold storeLocals at h
 simp only [hck, Option.bind_eq_bind, Option.bind_some] at h
 have self : ∀ {E : Array Slot}, k < E.size → storeSelf E k w = some D → D = E.setIfInBounds k (.val w) := by
  intro E hE q
  simp only [storeSelf, setAt, hE, if_true, Option.bind_eq_bind, Option.bind_some, hw] at q
  simpa using q.symm
 split at h
 ·rename_i q
  have hk1 : k - 1 < C.size := by omega
  simp only [setAt, hk1, if_true, Option.bind_some] at h
  have e := self (by simpa using hk) h
  subst e
  refine ⟨by simp, by simp [hk], fun j hj => ?_⟩
  by_cases ej : k = j + 1
  ·refine Or.inr ⟨?_, Or.inl ⟨ej, by rw [hck, q]⟩⟩
   rw [Array.getElem?_setIfInBounds_ne (Ne.symm hj), show j = k - 1 by omega]
   simp [hk1]
  ·refine Or.inl ⟨?_, fun x => ej x.1, fun x => ?_⟩
   ·rw [Array.getElem?_setIfInBounds_ne (Ne.symm hj), Array.getElem?_setIfInBounds_ne (by omega)]
   ·obtain ⟨-, u, x1, -⟩ := x
    rw [hck, q] at x1; cases x1
 ·rename_i u q
  split at h
  ·rename_i hu
   by_cases hk1 : k + 1 < C.size
   ·simp only [setAt, hk1, if_true, Option.bind_some] at h
    have e := self (by simpa using hk) h
    subst e
    refine ⟨by simp, by simp [hk], fun j hj => ?_⟩
    by_cases ej : j = k + 1
    ·refine Or.inr ⟨?_, Or.inr ⟨ej, u, by rw [hck, q], hu⟩⟩
     rw [Array.getElem?_setIfInBounds_ne (Ne.symm hj), ej]
     simp [hk1]
    ·refine Or.inl ⟨?_, fun x => ?_, fun x => ej x.1⟩
     ·rw [Array.getElem?_setIfInBounds_ne (Ne.symm hj), Array.getElem?_setIfInBounds_ne (by omega)]
     ·obtain ⟨-, x1⟩ := x
      rw [hck, q] at x1; cases x1
   ·simp [setAt, hk1] at h
  ·rename_i hu
   have e := self hk h
   subst e
   refine ⟨by simp, by simp [hk], fun j hj => Or.inl ⟨Array.getElem?_setIfInBounds_ne (Ne.symm hj), fun x => ?_, fun x => ?_⟩⟩
   ·obtain ⟨-, x1⟩ := x
    rw [hck, q] at x1; cases x1
   ·obtain ⟨-, u', x1, x2⟩ := x
    rw [hck, q] at x1; cases x1; exact hu x2
 ·rename_i q
  have e := self hk h
  subst e
  refine ⟨by simp, by simp [hk], fun j hj => Or.inl ⟨Array.getElem?_setIfInBounds_ne (Ne.symm hj), fun x => ?_, fun x => ?_⟩⟩
  ·obtain ⟨-, x1⟩ := x
   rw [hck, q] at x1; cases x1
  ·obtain ⟨-, u', x1, x2⟩ := x
   rw [hck, q] at x1; cases x1
theorem set2_at {C D : Array Slot} {k : Nat} {w : Value} (hk : k + 1 < C.size) (hw : w.category = 2) (wf : ∀ k w, C[k]? = some (.val w) → w.category = 2 → C[k + 1]? = some .second) (h : storeLocals C k w = some D) :
  D.size = C.size ∧ D[k]? = some (.val w) ∧ D[k + 1]? = some .second ∧ ∀ j, j ≠ k → j ≠ k + 1 → (D[j]? = C[j]? ∧ ¬ kA C k j ∧ ¬ kD C k j) ∨ D[j]? = some .unset ∧ (kA C k j ∨ kD C k j) := by
 have hk0 : k < C.size := by omega
 have hck : C[k]? = some C[k] := Array.getElem?_eq_getElem hk0
 unfold storeLocals at h
 simp only [hck, Option.bind_eq_bind, Option.bind_some] at h
 have self : ∀ {E : Array Slot}, E.size = C.size → storeSelf E k w = some D → D.size = C.size ∧ D[k]? = some (.val w) ∧ D[k + 1]? = some .second ∧ ∀ j, j ≠ k → j ≠ k + 1 → (D[j]? = E[j]? ∧ ¬ kD E k j) ∨ D[j]? = some .unset ∧ kD E k j := by
  intro E hs q
  have h1 : k < E.size := by omega
  have h2 : k + 1 < E.size := by omega
  have h3 : (E.setIfInBounds k (.val w))[k + 1]? = some E[k + 1] := by rw [Array.getElem?_setIfInBounds_ne (by omega)]; exact Array.getElem?_eq_getElem h2
  simp only [storeSelf, setAt, h1, if_true, Option.bind_eq_bind, Option.bind_some, hw, h3] at q
  have plain : (¬ ∃ u, E[k + 1]? = some (.val u) ∧ u.category = 2) → some ((E.setIfInBounds k (.val w)).setIfInBounds (k + 1) .second) = some D → D.size = C.size ∧ D[k]? = some (.val w) ∧ D[k + 1]? = some .second ∧ ∀ j, j ≠ k → j ≠ k + 1 → (D[j]? = E[j]? ∧ ¬ kD E k j) ∨ D[j]? = some .unset ∧ kD E k j := by
   intro no q
   cases q
   refine ⟨by simp [hs], ?_, ?_, fun j hj hj1 => Or.inl ⟨?_, fun x => no x.2⟩⟩
   ·rw [Array.getElem?_setIfInBounds_ne (by omega)]; simp [h1]
   ·simp [h2]
   ·rw [Array.getElem?_setIfInBounds_ne (by omega), Array.getElem?_setIfInBounds_ne (by omega)]
  split at q
  ·rename_i u hu
   split at q
   ·rename_i hu2
    by_cases h5 : k + 2 < E.size
    ·simp [h5, h2] at q
     cases q
     refine ⟨by simp [hs], ?_, ?_, fun j hj hj1 => ?_⟩
     ·rw [Array.getElem?_setIfInBounds_ne (by omega), Array.getElem?_setIfInBounds_ne (by omega)]; simp [h1]
     ·simp [h2]
     ·by_cases e : j = k + 2
      ·refine Or.inr ⟨?_, e, u, by rw [Array.getElem?_eq_getElem h2, hu], hu2⟩
       rw [Array.getElem?_setIfInBounds_ne (by omega), e]
       simp [h5]
      ·refine Or.inl ⟨?_, fun x => e x.1⟩
       rw [Array.getElem?_setIfInBounds_ne (by omega), Array.getElem?_setIfInBounds_ne (by omega), Array.getElem?_setIfInBounds_ne (by omega)]
    ·simp [h5] at q
   ·rename_i hu2
    refine plain ?_ (by simpa [h2] using q)
    rintro ⟨u', x1, x2⟩
    rw [Array.getElem?_eq_getElem h2, hu] at x1; cases x1; exact hu2 x2
  ·rename_i hu
   refine plain ?_ (by simpa [h2] using q)
   rintro ⟨u', x1, x2⟩
   rw [Array.getElem?_eq_getElem h2] at x1; exact hu _ (Option.some.inj x1)
 split at h
 ·rename_i q
  have hk1 : k - 1 < C.size := by omega
  simp only [setAt, hk1, if_true, Option.bind_some] at h
  obtain ⟨e1, e2, e3, e4⟩ := self (by simp) h
  refine ⟨e1, e2, e3, fun j hj hj1 => ?_⟩
  have h6 : ∀ i, i + 1 ≠ k ∨ k = 0 → i ≠ k ∨ k ≠ 0 → (C.setIfInBounds (k - 1) Slot.unset)[i]? = C[i]? := fun i hi hi2 => Array.getElem?_setIfInBounds_ne (by omega)
  have h7 : (C.setIfInBounds (k - 1) Slot.unset)[k + 1]? = C[k + 1]? := Array.getElem?_setIfInBounds_ne (by omega)
  rcases e4 j hj hj1 with ⟨r, r'⟩ | ⟨r, r1, u, r2, r3⟩
  ·by_cases ej : k = j + 1
   ·refine Or.inr ⟨?_, Or.inl ⟨ej, by rw [hck, q]⟩⟩
    rw [r, show j = k - 1 by omega]; simp [hk1]
   ·refine Or.inl ⟨by rw [r]; exact h6 _ (by omega) (by omega), fun x => ej x.1, fun x => r' ⟨x.1, ?_⟩⟩
    rw [h7]; exact x.2
  ·exact Or.inr ⟨r, Or.inr ⟨r1, u, by rw [← h7]; exact r2, r3⟩⟩
 ·rename_i u q
  split at h
  ·rename_i hu
   simp only [setAt, hk, if_true, Option.bind_some] at h
   obtain ⟨e1, e2, e3, e4⟩ := self (by simp) h
   have hsec := wf k u (by rw [hck, q]) hu
   refine ⟨e1, e2, e3, fun j hj hj1 => ?_⟩
   rcases e4 j hj hj1 with ⟨r, r'⟩ | ⟨r, r1, u', r2, r3⟩
   ·refine Or.inl ⟨by rw [r]; exact Array.getElem?_setIfInBounds_ne (by omega), fun x => ?_, fun x => ?_⟩
    ·obtain ⟨-, x1⟩ := x
     rw [hck, q] at x1; cases x1
    ·obtain ⟨-, u', x1, x2⟩ := x
     rw [hsec] at x1; cases x1
   ·simp [hk] at r2
  ·rename_i hu
   obtain ⟨e1, e2, e3, e4⟩ := self rfl h
   refine ⟨e1, e2, e3, fun j hj hj1 => ?_⟩
   rcases e4 j hj hj1 with ⟨r, r'⟩ | ⟨r, r'⟩
   ·refine Or.inl ⟨r, fun x => ?_, r'⟩
    obtain ⟨-, x1⟩ := x
    rw [hck, q] at x1; cases x1
   ·exact Or.inr ⟨r, Or.inr r'⟩
 ·rename_i q
  obtain ⟨e1, e2, e3, e4⟩ := self rfl h
  refine ⟨e1, e2, e3, fun j hj hj1 => ?_⟩
  rcases e4 j hj hj1 with ⟨r, r'⟩ | ⟨r, r'⟩
  ·refine Or.inl ⟨r, fun x => ?_, r'⟩
   obtain ⟨-, x1⟩ := x
   rw [hck, q] at x1; cases x1
  ·exact Or.inr ⟨r, Or.inr r'⟩
theorem store_some {C : Array Slot} {k : Nat} {w : Value} (hk : k + (w.category - 1) < C.size) (hc : w.category = 1 ∨ w.category = 2) (wf : ∀ k w, C[k]? = some (.val w) → w.category = 2 → C[k + 1]? = some .second) :
  ∃ D, storeLocals C k w = some D := by
 have hk0 : k < C.size := by omega
 have hck : C[k]? = some C[k] := Array.getElem?_eq_getElem hk0
 have self : ∀ {E : Array Slot}, E.size = C.size → (∀ u, E[k + 1]? = some (.val u) → u.category = 2 → k + 2 < E.size) → ∃ D, storeSelf E k w = some D := by
  intro E hs hn
  have h1 : k < E.size := by omega
  simp only [storeSelf, setAt, h1, if_true, Option.bind_eq_bind, Option.bind_some]
  rcases hc with hc | hc
  ·exact ⟨E.setIfInBounds k (.val w), by simp [hc]⟩
  ·have h2 : k + 1 < E.size := by omega
   have h3 : (E.setIfInBounds k (.val w))[k + 1]? = some E[k + 1] := by rw [Array.getElem?_setIfInBounds_ne (by omega)]; exact Array.getElem?_eq_getElem h2
   simp only [hc, if_true, h3, Option.bind_some]
   split
   ·rename_i u hu
    split
    ·rename_i hu2
     have h5 := hn u (by rw [Array.getElem?_eq_getElem h2, hu]) hu2
     exact ⟨_, by simp [h5, h2]; rfl⟩
    ·exact ⟨_, by simp [h2]; rfl⟩
   ·exact ⟨_, by simp [h2]; rfl⟩
 have next : ∀ u, C[k + 1]? = some (.val u) → u.category = 2 → k + 2 < C.size := fun u h1 h2 => (Array.getElem?_eq_some_iff.mp (wf _ _ h1 h2)).1
 unfold storeLocals
 simp only [hck, Option.bind_eq_bind, Option.bind_some]
 split
 ·have hk1 : k - 1 < C.size := by omega
  simp only [setAt, hk1, if_true, Option.bind_some]
  refine self (by simp) fun u h1 h2 => ?_
  rw [Array.getElem?_setIfInBounds_ne (by omega)] at h1
  simpa using next u h1 h2
 ·rename_i u q
  split
  ·rename_i hu
   have h5 := (Array.getElem?_eq_some_iff.mp (wf k u (by rw [hck, q]) hu)).1
   simp only [setAt, h5, if_true, Option.bind_some]
   refine self (by simp) fun u h1 h2 => ?_
   simp [h5] at h1
  ·exact self rfl next
 ·exact self rfl next
theorem store_ok1 {ad : Nat → Addr} {L : QLoc} {C : Array Slot} {k : Nat} {v : Value} (H : QLocOk ad L C) (hv : v.category = 1) (hk : k < L.length) :
  ∃ D, storeLocals C k (qv ad v) = some D ∧ QLocOk ad ((lkill L k).set k (some v)) D ∧ D.size = C.size := by
 obtain ⟨H1, H2, H3, H4⟩ := H
 have hc : (qv ad v).category = 1 := by rw [qv_cat, hv]
 obtain ⟨D, hD⟩ := store_some (C := C) (k := k) (w := qv ad v) (by rw [hc]; omega) (Or.inl hc) H3
 obtain ⟨d1, d2, d3⟩ := set1_at (by omega) hc hD
 refine ⟨D, hD, ⟨by simp [lkill_len, H1, d1], fun j u hj => ?_, fun j w hj hw => ?_, fun j hj => ?_⟩, d1⟩
 ·rw [lget_set (by rw [lkill_len]; exact hk)] at hj
  split at hj
  ·rename_i e; cases hj; rw [e]; exact d2
  ·rename_i ne
   obtain ⟨g1, g2⟩ := lget_kill hj
   have g3 := H2 j u g1
   rcases d3 j ne with ⟨r, -, -⟩ | ⟨-, ⟨r1, r2⟩ | ⟨r1, w, r2, r3⟩⟩
   ·rw [r]; exact g3
   ·obtain ⟨i, w, z1, z2, z3⟩ := H4 k r2
    obtain rfl : i = j := by omega
    rw [g3] at z2
    cases z2
    rw [qv_cat] at z3
    exact absurd z3 (g2 r1)
   ·have := H3 k w r2 r3
    rw [← r1, g3] at this
    cases this
 ·by_cases e : j = k
  ·subst e; rw [d2] at hj; cases hj; rw [hc] at hw; cases hw
  ·rcases d3 j e with ⟨r, nA, nB⟩ | ⟨r, -⟩
   ·rw [r] at hj
    have g := H3 j w hj hw
    have e2 : j + 1 ≠ k := fun q => nA ⟨q.symm, by rw [← q]; exact g⟩
    rcases d3 (j + 1) e2 with ⟨z, -, -⟩ | ⟨-, ⟨z1, z2⟩ | ⟨z1, -⟩⟩
    ·rw [z]; exact g
    ·obtain ⟨i, u, y1, y2, y3⟩ := H4 k z2
     obtain rfl : i = j + 1 := by omega
     rw [g] at y2; cases y2
    ·omega
   ·rw [r] at hj; cases hj
 ·by_cases e : j = k
  ·subst e; rw [d2] at hj; cases hj
  ·rcases d3 j e with ⟨r, nA, nB⟩ | ⟨r, -⟩
   ·rw [r] at hj
    obtain ⟨i, w, y1, y2, y3⟩ := H4 j hj
    refine ⟨i, w, y1, ?_, y3⟩
    have ei : i ≠ k := fun q => nB ⟨by omega, w, by rw [← q]; exact y2, y3⟩
    rcases d3 i ei with ⟨z, -, -⟩ | ⟨-, ⟨z1, z2⟩ | ⟨z1, u, z2, z3⟩⟩
    ·rw [z]; exact y2
    ·omega
    ·have := H3 k u z2 z3
     rw [← z1, y2] at this; cases this
   ·rw [r] at hj; cases hj
theorem store_ok2 {ad : Nat → Addr} {L : QLoc} {C : Array Slot} {k : Nat} {x : Int64} (H : QLocOk ad L C) (hk : k + 1 < L.length) :
  ∃ D, storeLocals C k (.long x) = some D ∧ QLocOk ad (((lkill L k).set k (some (.long x))).set (k + 1) none) D ∧ D.size = C.size := by
 obtain ⟨H1, H2, H3, H4⟩ := H
 have hc : (Value.long x).category = 2 := rfl
 obtain ⟨D, hD⟩ := store_some (C := C) (k := k) (w := .long x) (by rw [hc]; omega) (Or.inr hc) H3
 obtain ⟨d1, d2, d2', d3⟩ := set2_at (by omega) hc H3 hD
 refine ⟨D, hD, ⟨by simp [lkill_len, H1, d1], fun j u hj => ?_, fun j w hj hw => ?_, fun j hj => ?_⟩, d1⟩
 ·rw [lget_set (by simp [lkill_len]; exact hk)] at hj
  split at hj
  ·cases hj
  ·rename_i ne1
   rw [lget_set (by rw [lkill_len]; omega)] at hj
   split at hj
   ·rename_i e; cases hj; rw [e]; exact d2
   ·rename_i ne
    obtain ⟨g1, g2⟩ := lget_kill hj
    have g3 := H2 j u g1
    rcases d3 j ne ne1 with ⟨r, -, -⟩ | ⟨-, ⟨r1, r2⟩ | ⟨r1, w, r2, r3⟩⟩
    ·rw [r]; exact g3
    ·obtain ⟨i, w, z1, z2, z3⟩ := H4 k r2
     obtain rfl : i = j := by omega
     rw [g3] at z2
     cases z2
     rw [qv_cat] at z3
     exact absurd z3 (g2 r1)
    ·have := H3 (k + 1) w r2 r3
     rw [show k + 1 + 1 = j by omega, g3] at this
     cases this
 ·by_cases e : j = k
  ·rw [e]; exact d2'
  ·by_cases e1 : j = k + 1
   ·rw [e1, d2'] at hj; cases hj
   ·rcases d3 j e e1 with ⟨r, nA, nB⟩ | ⟨r, -⟩
    ·rw [r] at hj
     have g := H3 j w hj hw
     have e2 : j + 1 ≠ k := fun q => nA ⟨q.symm, by rw [← q]; exact g⟩
     rcases d3 (j + 1) e2 (by omega) with ⟨z, -, -⟩ | ⟨-, ⟨z1, z2⟩ | ⟨z1, -⟩⟩
     ·rw [z]; exact g
     ·obtain ⟨i, u, y1, y2, y3⟩ := H4 k z2
      obtain rfl : i = j + 1 := by omega
      rw [g] at y2; cases y2
     ·omega
    ·rw [r] at hj; cases hj
 ·by_cases e : j = k
  ·rw [e, d2] at hj; cases hj
  ·by_cases e1 : j = k + 1
   ·exact ⟨k, _, e1, d2, hc⟩
   ·rcases d3 j e e1 with ⟨r, nA, nB⟩ | ⟨r, -⟩
    ·rw [r] at hj
     obtain ⟨i, w, y1, y2, y3⟩ := H4 j hj
     refine ⟨i, w, y1, ?_, y3⟩
     have ei : i ≠ k := fun q => e1 (by omega)
     have ei1 : i ≠ k + 1 := fun q => nB ⟨by omega, w, by rw [← q]; exact y2, y3⟩
     rcases d3 i ei ei1 with ⟨z, -, -⟩ | ⟨-, ⟨z1, z2⟩ | ⟨z1, u, z2, z3⟩⟩
     ·rw [z]; exact y2
     ·omega
     ·have := H3 (k + 1) u z2 z3
      rw [show k + 1 + 1 = i by omega, y2] at this; cases this
    ·rw [r] at hj; cases hj
theorem store_ok {ad : Nat → Addr} {L L' : QLoc} {C : Array Slot} {k : Nat} {v : Value} (H : QLocOk ad L C) (h : lput L k v = some L') :
  ∃ D, storeLocals C k (qv ad v) = some D ∧ QLocOk ad L' D ∧ D.size = C.size := by
 have one : v.category = 1 → (bif Nat.ble (k + 1) L.length then some ((lkill L k).set k (some v)) else none) = some L' → ∃ D, storeLocals C k (qv ad v) = some D ∧ QLocOk ad L' D ∧ D.size = C.size := by
  intro hv h
  cases hb : Nat.ble (k + 1) L.length with
  | false => rw [hb] at h; cases h
  | true => rw [hb] at h; cases h; exact store_ok1 H hv (Nat.le_of_ble_eq_true hb)
 cases v with
 | long x =>
  simp only [lput] at h
  cases hb : Nat.ble (k + 2) L.length with
  | false => rw [hb] at h; cases h
  | true => rw [hb] at h; cases h; exact store_ok2 H (Nat.le_of_ble_eq_true hb)
 | double x => simp [lput] at h
 | int x => exact one rfl h
 | float x => exact one rfl h
 | null => exact one rfl h
 | ref x => exact one rfl h
 | retAddr x => exact one rfl h
theorem fInj : ∀ i, i < nF → ∀ j, j < nF → fNm i = fNm j → i = j := by decide +kernel
theorem fPrs : ∀ i, i < nF → parseFieldDescriptor (fDs i) = some (fTy i) := by decide +kernel
theorem cDefs : ∀ i, i < nF → vget cDef i = some (defaultValue (fTy i)) := by decide +kernel
theorem cDefL : cDef.length = nF := by decide +kernel
theorem fDef : ∀ i, i < nF → ∀ a, defaultValue (fTy i) ≠ .ref a := by
 intro i _ a
 cases fTy i <;> simp [defaultValue]
theorem kPlain : ∀ k, k < 2 → plainName (kName k) = true := by
 intro k hk
 rcases k with _ | _ | k
 ·first | decide +kernel | (simp [kName, plainName, overriddenIn]; done)
 ·first | decide +kernel | (simp [kName, plainName, overriddenIn]; done)
 ·omega
theorem pKlt : ∀ m, m < pN → pK m < 2 := by decide +kernel
theorem pSig : ∀ m, m < pN → (parseMethodDescriptor (pDs m)).map (fun sg => sg.parameters.length) = some (pNA m) := by decide +kernel
theorem pOwn : ∀ k, k < 2 → kName k ≠ "java/lang/invoke/MethodHandle" ∧ kName k ≠ "java/lang/invoke/VarHandle" := by decide +kernel
theorem mAlt : ∀ m ∈ mA, m < pN := by decide +kernel
theorem mVlt : ∀ m ∈ mV, m ∈ mA ∧ pK m = 1 := by decide +kernel
theorem mPlt : ∀ m ∈ mP, m ∈ mA ∧ pK m = 1 := by decide +kernel
theorem mSlt : ∀ m ∈ mS, m ∈ mA := by decide +kernel
theorem mIlt : ∀ m ∈ mI, m ∈ mA ∧ pK m = 1 ∧ pNm m = "<init>" ∧ pRet m = none := by decide +kernel
theorem kOne : kName 1 = cName := rfl
def pX (m pc : Nat) : Bool := match pCode m pc with | some t => qchk m pc t.1 t.2 | none => true
set_option maxRecDepth 100000 in
set_option maxHeartbeats 4000000 in
theorem pC0_0 : ∀ q, q < 128 → pX 0 (0 + q) = true := by decide +kernel
set_option maxRecDepth 100000 in
set_option maxHeartbeats 4000000 in
theorem pC0_128 : ∀ q, q < 128 → pX 0 (128 + q) = true := by decide +kernel
set_option maxRecDepth 100000 in
set_option maxHeartbeats 4000000 in
theorem pC0_256 : ∀ q, q < 128 → pX 0 (256 + q) = true := by decide +kernel
set_option maxRecDepth 100000 in
set_option maxHeartbeats 4000000 in
theorem pC0_384 : ∀ q, q < 128 → pX 0 (384 + q) = true := by decide +kernel
set_option maxRecDepth 100000 in
set_option maxHeartbeats 4000000 in
theorem pC0_512 : ∀ q, q < 128 → pX 0 (512 + q) = true := by decide +kernel
set_option maxRecDepth 100000 in
set_option maxHeartbeats 4000000 in
theorem pC0_640 : ∀ q, q < 128 → pX 0 (640 + q) = true := by decide +kernel
set_option maxRecDepth 100000 in
set_option maxHeartbeats 4000000 in
theorem pC0_768 : ∀ q, q < 128 → pX 0 (768 + q) = true := by decide +kernel
set_option maxRecDepth 100000 in
set_option maxHeartbeats 4000000 in
theorem pC0_896 : ∀ q, q < 116 → pX 0 (896 + q) = true := by decide +kernel
theorem pCm0 (pc : Nat) (h : pc < pTop 0) : pX 0 pc = true := by
 replace h : pc < 1012 := h
 by_cases h0 : pc < 128
 ·have q := pC0_0 (pc - 0) (by omega)
  rwa [show 0 + (pc - 0) = pc from by omega] at q
 by_cases h128 : pc < 256
 ·have q := pC0_128 (pc - 128) (by omega)
  rwa [show 128 + (pc - 128) = pc from by omega] at q
 by_cases h256 : pc < 384
 ·have q := pC0_256 (pc - 256) (by omega)
  rwa [show 256 + (pc - 256) = pc from by omega] at q
 by_cases h384 : pc < 512
 ·have q := pC0_384 (pc - 384) (by omega)
  rwa [show 384 + (pc - 384) = pc from by omega] at q
 by_cases h512 : pc < 640
 ·have q := pC0_512 (pc - 512) (by omega)
  rwa [show 512 + (pc - 512) = pc from by omega] at q
 by_cases h640 : pc < 768
 ·have q := pC0_640 (pc - 640) (by omega)
  rwa [show 640 + (pc - 640) = pc from by omega] at q
 by_cases h768 : pc < 896
 ·have q := pC0_768 (pc - 768) (by omega)
  rwa [show 768 + (pc - 768) = pc from by omega] at q
 have q := pC0_896 (pc - 896) (by omega)
 rwa [show 896 + (pc - 896) = pc from by omega] at q
set_option maxRecDepth 100000 in
set_option maxHeartbeats 4000000 in
theorem pC1_0 : ∀ q, q < 128 → pX 1 (0 + q) = true := by decide +kernel
set_option maxRecDepth 100000 in
set_option maxHeartbeats 4000000 in
theorem pC1_128 : ∀ q, q < 19 → pX 1 (128 + q) = true := by decide +kernel
theorem pCm1 (pc : Nat) (h : pc < pTop 1) : pX 1 pc = true := by
 replace h : pc < 147 := h
 by_cases h0 : pc < 128
 ·have q := pC1_0 (pc - 0) (by omega)
  rwa [show 0 + (pc - 0) = pc from by omega] at q
 have q := pC1_128 (pc - 128) (by omega)
 rwa [show 128 + (pc - 128) = pc from by omega] at q
set_option maxRecDepth 100000 in
set_option maxHeartbeats 4000000 in
theorem pC2_0 : ∀ q, q < 45 → pX 2 (0 + q) = true := by decide +kernel
theorem pCm2 (pc : Nat) (h : pc < pTop 2) : pX 2 pc = true := by
 replace h : pc < 45 := h
 have q := pC2_0 (pc - 0) (by omega)
 rwa [show 0 + (pc - 0) = pc from by omega] at q
set_option maxRecDepth 100000 in
set_option maxHeartbeats 4000000 in
theorem pC3_0 : ∀ q, q < 18 → pX 3 (0 + q) = true := by decide +kernel
theorem pCm3 (pc : Nat) (h : pc < pTop 3) : pX 3 pc = true := by
 replace h : pc < 18 := h
 have q := pC3_0 (pc - 0) (by omega)
 rwa [show 0 + (pc - 0) = pc from by omega] at q
set_option maxRecDepth 100000 in
set_option maxHeartbeats 4000000 in
theorem pC4_0 : ∀ q, q < 30 → pX 4 (0 + q) = true := by decide +kernel
theorem pCm4 (pc : Nat) (h : pc < pTop 4) : pX 4 pc = true := by
 replace h : pc < 30 := h
 have q := pC4_0 (pc - 0) (by omega)
 rwa [show 0 + (pc - 0) = pc from by omega] at q
set_option maxRecDepth 100000 in
set_option maxHeartbeats 4000000 in
theorem pC5_0 : ∀ q, q < 18 → pX 5 (0 + q) = true := by decide +kernel
theorem pCm5 (pc : Nat) (h : pc < pTop 5) : pX 5 pc = true := by
 replace h : pc < 18 := h
 have q := pC5_0 (pc - 0) (by omega)
 rwa [show 0 + (pc - 0) = pc from by omega] at q
set_option maxRecDepth 100000 in
set_option maxHeartbeats 4000000 in
theorem pC6_0 : ∀ q, q < 15 → pX 6 (0 + q) = true := by decide +kernel
theorem pCm6 (pc : Nat) (h : pc < pTop 6) : pX 6 pc = true := by
 replace h : pc < 15 := h
 have q := pC6_0 (pc - 0) (by omega)
 rwa [show 0 + (pc - 0) = pc from by omega] at q
set_option maxRecDepth 100000 in
set_option maxHeartbeats 4000000 in
theorem pC7_0 : ∀ q, q < 17 → pX 7 (0 + q) = true := by decide +kernel
theorem pCm7 (pc : Nat) (h : pc < pTop 7) : pX 7 pc = true := by
 replace h : pc < 17 := h
 have q := pC7_0 (pc - 0) (by omega)
 rwa [show 0 + (pc - 0) = pc from by omega] at q
set_option maxRecDepth 100000 in
set_option maxHeartbeats 4000000 in
theorem pC8_0 : ∀ q, q < 36 → pX 8 (0 + q) = true := by decide +kernel
theorem pCm8 (pc : Nat) (h : pc < pTop 8) : pX 8 pc = true := by
 replace h : pc < 36 := h
 have q := pC8_0 (pc - 0) (by omega)
 rwa [show 0 + (pc - 0) = pc from by omega] at q
set_option maxRecDepth 100000 in
set_option maxHeartbeats 4000000 in
theorem pC9_0 : ∀ q, q < 128 → pX 9 (0 + q) = true := by decide +kernel
set_option maxRecDepth 100000 in
set_option maxHeartbeats 4000000 in
theorem pC9_128 : ∀ q, q < 2 → pX 9 (128 + q) = true := by decide +kernel
theorem pCm9 (pc : Nat) (h : pc < pTop 9) : pX 9 pc = true := by
 replace h : pc < 130 := h
 by_cases h0 : pc < 128
 ·have q := pC9_0 (pc - 0) (by omega)
  rwa [show 0 + (pc - 0) = pc from by omega] at q
 have q := pC9_128 (pc - 128) (by omega)
 rwa [show 128 + (pc - 128) = pc from by omega] at q
set_option maxRecDepth 100000 in
set_option maxHeartbeats 4000000 in
theorem pC10_0 : ∀ q, q < 50 → pX 10 (0 + q) = true := by decide +kernel
theorem pCm10 (pc : Nat) (h : pc < pTop 10) : pX 10 pc = true := by
 replace h : pc < 50 := h
 have q := pC10_0 (pc - 0) (by omega)
 rwa [show 0 + (pc - 0) = pc from by omega] at q
set_option maxRecDepth 100000 in
set_option maxHeartbeats 4000000 in
theorem pC11_0 : ∀ q, q < 128 → pX 11 (0 + q) = true := by decide +kernel
set_option maxRecDepth 100000 in
set_option maxHeartbeats 4000000 in
theorem pC11_128 : ∀ q, q < 53 → pX 11 (128 + q) = true := by decide +kernel
theorem pCm11 (pc : Nat) (h : pc < pTop 11) : pX 11 pc = true := by
 replace h : pc < 181 := h
 by_cases h0 : pc < 128
 ·have q := pC11_0 (pc - 0) (by omega)
  rwa [show 0 + (pc - 0) = pc from by omega] at q
 have q := pC11_128 (pc - 128) (by omega)
 rwa [show 128 + (pc - 128) = pc from by omega] at q
set_option maxRecDepth 100000 in
set_option maxHeartbeats 4000000 in
theorem pC12_0 : ∀ q, q < 39 → pX 12 (0 + q) = true := by decide +kernel
theorem pCm12 (pc : Nat) (h : pc < pTop 12) : pX 12 pc = true := by
 replace h : pc < 39 := h
 have q := pC12_0 (pc - 0) (by omega)
 rwa [show 0 + (pc - 0) = pc from by omega] at q
set_option maxRecDepth 100000 in
set_option maxHeartbeats 4000000 in
theorem pC13_0 : ∀ q, q < 36 → pX 13 (0 + q) = true := by decide +kernel
theorem pCm13 (pc : Nat) (h : pc < pTop 13) : pX 13 pc = true := by
 replace h : pc < 36 := h
 have q := pC13_0 (pc - 0) (by omega)
 rwa [show 0 + (pc - 0) = pc from by omega] at q
set_option maxRecDepth 100000 in
set_option maxHeartbeats 4000000 in
theorem pC14_0 : ∀ q, q < 10 → pX 14 (0 + q) = true := by decide +kernel
theorem pCm14 (pc : Nat) (h : pc < pTop 14) : pX 14 pc = true := by
 replace h : pc < 10 := h
 have q := pC14_0 (pc - 0) (by omega)
 rwa [show 0 + (pc - 0) = pc from by omega] at q
set_option maxRecDepth 100000 in
set_option maxHeartbeats 4000000 in
theorem pC15_0 : ∀ q, q < 11 → pX 15 (0 + q) = true := by decide +kernel
theorem pCm15 (pc : Nat) (h : pc < pTop 15) : pX 15 pc = true := by
 replace h : pc < 11 := h
 have q := pC15_0 (pc - 0) (by omega)
 rwa [show 0 + (pc - 0) = pc from by omega] at q
set_option maxRecDepth 100000 in
set_option maxHeartbeats 4000000 in
theorem pC16_0 : ∀ q, q < 20 → pX 16 (0 + q) = true := by decide +kernel
theorem pCm16 (pc : Nat) (h : pc < pTop 16) : pX 16 pc = true := by
 replace h : pc < 20 := h
 have q := pC16_0 (pc - 0) (by omega)
 rwa [show 0 + (pc - 0) = pc from by omega] at q
set_option maxRecDepth 100000 in
set_option maxHeartbeats 4000000 in
theorem pC17_0 : ∀ q, q < 75 → pX 17 (0 + q) = true := by decide +kernel
theorem pCm17 (pc : Nat) (h : pc < pTop 17) : pX 17 pc = true := by
 replace h : pc < 75 := h
 have q := pC17_0 (pc - 0) (by omega)
 rwa [show 0 + (pc - 0) = pc from by omega] at q
set_option maxRecDepth 100000 in
set_option maxHeartbeats 4000000 in
theorem pC18_0 : ∀ q, q < 28 → pX 18 (0 + q) = true := by decide +kernel
theorem pCm18 (pc : Nat) (h : pc < pTop 18) : pX 18 pc = true := by
 replace h : pc < 28 := h
 have q := pC18_0 (pc - 0) (by omega)
 rwa [show 0 + (pc - 0) = pc from by omega] at q
set_option maxRecDepth 100000 in
set_option maxHeartbeats 4000000 in
theorem pC19_0 : ∀ q, q < 5 → pX 19 (0 + q) = true := by decide +kernel
theorem pCm19 (pc : Nat) (h : pc < pTop 19) : pX 19 pc = true := by
 replace h : pc < 5 := h
 have q := pC19_0 (pc - 0) (by omega)
 rwa [show 0 + (pc - 0) = pc from by omega] at q
set_option maxRecDepth 100000 in
set_option maxHeartbeats 4000000 in
theorem pC20_0 : ∀ q, q < 66 → pX 20 (0 + q) = true := by decide +kernel
theorem pCm20 (pc : Nat) (h : pc < pTop 20) : pX 20 pc = true := by
 replace h : pc < 66 := h
 have q := pC20_0 (pc - 0) (by omega)
 rwa [show 0 + (pc - 0) = pc from by omega] at q
set_option maxRecDepth 100000 in
set_option maxHeartbeats 4000000 in
theorem pC21_0 : ∀ q, q < 53 → pX 21 (0 + q) = true := by decide +kernel
theorem pCm21 (pc : Nat) (h : pc < pTop 21) : pX 21 pc = true := by
 replace h : pc < 53 := h
 have q := pC21_0 (pc - 0) (by omega)
 rwa [show 0 + (pc - 0) = pc from by omega] at q
set_option maxRecDepth 100000 in
set_option maxHeartbeats 4000000 in
theorem pC22_0 : ∀ q, q < 50 → pX 22 (0 + q) = true := by decide +kernel
theorem pCm22 (pc : Nat) (h : pc < pTop 22) : pX 22 pc = true := by
 replace h : pc < 50 := h
 have q := pC22_0 (pc - 0) (by omega)
 rwa [show 0 + (pc - 0) = pc from by omega] at q
set_option maxRecDepth 100000 in
set_option maxHeartbeats 4000000 in
theorem pC23_0 : ∀ q, q < 64 → pX 23 (0 + q) = true := by decide +kernel
theorem pCm23 (pc : Nat) (h : pc < pTop 23) : pX 23 pc = true := by
 replace h : pc < 64 := h
 have q := pC23_0 (pc - 0) (by omega)
 rwa [show 0 + (pc - 0) = pc from by omega] at q
set_option maxRecDepth 100000 in
set_option maxHeartbeats 4000000 in
theorem pC24_0 : ∀ q, q < 111 → pX 24 (0 + q) = true := by decide +kernel
theorem pCm24 (pc : Nat) (h : pc < pTop 24) : pX 24 pc = true := by
 replace h : pc < 111 := h
 have q := pC24_0 (pc - 0) (by omega)
 rwa [show 0 + (pc - 0) = pc from by omega] at q
set_option maxRecDepth 100000 in
set_option maxHeartbeats 4000000 in
theorem pC25_0 : ∀ q, q < 28 → pX 25 (0 + q) = true := by decide +kernel
theorem pCm25 (pc : Nat) (h : pc < pTop 25) : pX 25 pc = true := by
 replace h : pc < 28 := h
 have q := pC25_0 (pc - 0) (by omega)
 rwa [show 0 + (pc - 0) = pc from by omega] at q
set_option maxRecDepth 100000 in
set_option maxHeartbeats 4000000 in
theorem pC26_0 : ∀ q, q < 74 → pX 26 (0 + q) = true := by decide +kernel
theorem pCm26 (pc : Nat) (h : pc < pTop 26) : pX 26 pc = true := by
 replace h : pc < 74 := h
 have q := pC26_0 (pc - 0) (by omega)
 rwa [show 0 + (pc - 0) = pc from by omega] at q
set_option maxRecDepth 100000 in
set_option maxHeartbeats 4000000 in
theorem pC27_0 : ∀ q, q < 15 → pX 27 (0 + q) = true := by decide +kernel
theorem pCm27 (pc : Nat) (h : pc < pTop 27) : pX 27 pc = true := by
 replace h : pc < 15 := h
 have q := pC27_0 (pc - 0) (by omega)
 rwa [show 0 + (pc - 0) = pc from by omega] at q
theorem pChk0 : ∀ m, m < pN → ∀ pc, pc < pTop m → (match pCode m pc with | some t => qchk m pc t.1 t.2 | none => true) = true := by
 intro m hm pc hp
 change pX m pc = true
 match m, hm, hp with
 | 0, _, hp => exact pCm0 pc hp
 | 1, _, hp => exact pCm1 pc hp
 | 2, _, hp => exact pCm2 pc hp
 | 3, _, hp => exact pCm3 pc hp
 | 4, _, hp => exact pCm4 pc hp
 | 5, _, hp => exact pCm5 pc hp
 | 6, _, hp => exact pCm6 pc hp
 | 7, _, hp => exact pCm7 pc hp
 | 8, _, hp => exact pCm8 pc hp
 | 9, _, hp => exact pCm9 pc hp
 | 10, _, hp => exact pCm10 pc hp
 | 11, _, hp => exact pCm11 pc hp
 | 12, _, hp => exact pCm12 pc hp
 | 13, _, hp => exact pCm13 pc hp
 | 14, _, hp => exact pCm14 pc hp
 | 15, _, hp => exact pCm15 pc hp
 | 16, _, hp => exact pCm16 pc hp
 | 17, _, hp => exact pCm17 pc hp
 | 18, _, hp => exact pCm18 pc hp
 | 19, _, hp => exact pCm19 pc hp
 | 20, _, hp => exact pCm20 pc hp
 | 21, _, hp => exact pCm21 pc hp
 | 22, _, hp => exact pCm22 pc hp
 | 23, _, hp => exact pCm23 pc hp
 | 24, _, hp => exact pCm24 pc hp
 | 25, _, hp => exact pCm25 pc hp
 | 26, _, hp => exact pCm26 pc hp
 | 27, _, hp => exact pCm27 pc hp
 | m + 28, hm, _ => exact absurd hm (by unfold pN; omega)
theorem pIn {m pc : Nat} {t : Instr × Nat} (h : pCode m pc = some t) : m < pN ∧ pc < pTop m := by
 unfold pCode at h
 cases h1 : Nat.ble pN m with
 | true => rw [h1] at h; cases h
 | false =>
  cases h2 : Nat.ble (pTop m) pc with
  | true => rw [h1, h2] at h; cases h
  | false => exact ⟨Nat.lt_of_not_le (fun q => by rw [Nat.ble_eq_true_of_le q] at h1; cases h1), Nat.lt_of_not_le (fun q => by rw [Nat.ble_eq_true_of_le q] at h2; cases h2)⟩
theorem pChk {m pc : Nat} {i : Instr} {aux : Nat} (h : pCode m pc = some (i, aux)) : qchk m pc i aux = true := by
 have q := pChk0 m (pIn h).1 pc (pIn h).2
 rw [h] at q
 exact q
theorem pDec {m pc : Nat} {i : Instr} {aux : Nat} (h : pCode m pc = some (i, aux)) : decode (pBytes m) pc = .ok (i, ilen i) := by
 have q := pChk h
 unfold qchk at q
 exact of_decide_eq_true (Bool.and_eq_true_iff.mp q).1
theorem pDecN {m pc n : Nat} {i : Instr} {aux : Nat} (h : pCode m pc = some (i, aux)) (hn : ilen i = n) : decode (pBytes m) pc = .ok (i, n) := by
 rw [← hn]; exact pDec h
theorem pRest {m pc : Nat} {i : Instr} {aux : Nat} (h : pCode m pc = some (i, aux)) : qlk m pc i aux = true := by
 have q := pChk h
 unfold qchk at q
 exact (Bool.and_eq_true_iff.mp q).2
theorem qtgt_spec {pc : Nat} {o : Int} {aux : Nat} (h : qtgt pc o aux = true) : 0 ≤ (pc : Int) + o ∧ ((pc : Int) + o).toNat = aux := by
 unfold qtgt at h
 have h2 := Bool.and_eq_true_iff.mp h
 exact ⟨of_decide_eq_true h2.1, of_decide_eq_true h2.2⟩
def QCx (Z : State) (p : Program) (R : Room) (s : State) (mid : MethodId) (meth : Method) (c : Code) (m : Nat) : Prop :=
 p.tables.exec = Jvm.exec ∧ Z.Warmed39 s.vm ∧ c.code = pBytes m ∧ c.maxLocals = pMaxL m ∧ meth.sig.returnType = pRet m ∧ s.vm.findClass (kName (pK m)) = some mid.cls ∧ meth.name = pNm m ∧ pFr m ≤ R.frames ∧ pLo m ≤ R.locals
def QTri (l : Launch) (Z : State) (n0 : Nat) (ad : Nat → Addr) (m : Nat) (st : QSt) (v : Option Value) (σ' : QHeap) : Prop :=
 st.2.2.2.length ≤ σ'.length ∧ qhs st.2.2.2 ≤ qhs σ' ∧
 ∀ (p : Program) (e : Env) (R : Room) (s : State) (mid : MethodId) (args : Array Value) (below : List Frame) (meth : Method) (c : Code) (T : State) (locs : List Loc) (cells slots : Nat) (C : Array Slot),
  QCx Z p R s mid meth c m → Stand p l e R s mid args below meth c T locs cells slots → QRep Z n0 ad T.heap st.2.2.2 → Fr n0 locs → QLocOk ad st.2.1 C → C.size = c.maxLocals →
  n0 + (st.2.2.2.length - k0) = s.heap.size + cells → cells + (σ'.length - st.2.2.2.length) ≤ R.cells → slots + (qhs σ' - qhs st.2.2.2) ≤ R.slots →
  ∃ T' locs', Stand p l e R s mid args below meth c T' locs' (cells + (σ'.length - st.2.2.2.length)) (slots + (qhs σ' - qhs st.2.2.2)) ∧ QRep Z n0 ad T'.heap σ' ∧ Fr n0 locs' ∧
   ∀ fs, (∀ (f : JFrame) (acts : List Action), f.method = mid → f.locked = none → f.entered = [] → (doReturn e (T'.setTop f) acts (v.map (qv ad))).1 = T'.setFrames fs) →
    Steps p.tables e below (T.setTop (mkF mid st.1 C (st.2.2.1.map (qv ad)))) (T'.setFrames fs)
section Triples
variable {l : Launch} {Z : State} {n0 : Nat} {ad : Nat → Addr} {a0 : Array Value} {m : Nat} {v : Option Value} {σ' : QHeap}
theorem QTri.gen {st st' : QSt} (h : QTri l Z n0 ad m st' v σ') (g1 : st.2.2.2.length ≤ st'.2.2.2.length) (g2 : qhs st.2.2.2 ≤ qhs st'.2.2.2)
  (hs : ∀ (p : Program) (e : Env) (R : Room) (s : State) (mid : MethodId) (args : Array Value) (below : List Frame) (meth : Method) (c : Code) (T : State) (locs : List Loc) (cells slots : Nat) (C : Array Slot),
   QCx Z p R s mid meth c m → Stand p l e R s mid args below meth c T locs cells slots → QRep Z n0 ad T.heap st.2.2.2 → Fr n0 locs → QLocOk ad st.2.1 C → C.size = c.maxLocals →
   n0 + (st.2.2.2.length - k0) = s.heap.size + cells → cells + (st'.2.2.2.length - st.2.2.2.length) ≤ R.cells → slots + (qhs st'.2.2.2 - qhs st.2.2.2) ≤ R.slots →
   ∃ T₁ locs₁ C₁, Stand p l e R s mid args below meth c T₁ locs₁ (cells + (st'.2.2.2.length - st.2.2.2.length)) (slots + (qhs st'.2.2.2 - qhs st.2.2.2)) ∧ QRep Z n0 ad T₁.heap st'.2.2.2 ∧ Fr n0 locs₁ ∧ QLocOk ad st'.2.1 C₁ ∧ C₁.size = c.maxLocals ∧
    ∀ target, Steps p.tables e below (T₁.setTop (mkF mid st'.1 C₁ (st'.2.2.1.map (qv ad)))) target → Steps p.tables e below (T.setTop (mkF mid st.1 C (st.2.2.1.map (qv ad)))) target) :
  QTri l Z n0 ad m st v σ' := by
 obtain ⟨h1, h2, h3⟩ := h
 refine ⟨Nat.le_trans g1 h1, Nat.le_trans g2 h2, fun p e R s mid args below meth c T locs cells slots C hcx X hR hF hL hC hn hc hsl => ?_⟩
 obtain ⟨T₁, locs₁, C₁, X₁, R₁, F₁, L₁, C1, S₁⟩ := hs p e R s mid args below meth c T locs cells slots C hcx X hR hF hL hC hn (by omega) (by omega)
 have hk := hR.1
 obtain ⟨T', locs', X', R', F', S'⟩ := h3 p e R s mid args below meth c T₁ locs₁ _ _ C₁ hcx X₁ R₁ F₁ L₁ C1 (by omega) (by omega) (by omega)
 have e1 : cells + (st'.2.2.2.length - st.2.2.2.length) + (σ'.length - st'.2.2.2.length) = cells + (σ'.length - st.2.2.2.length) := by omega
 have e2 : slots + (qhs st'.2.2.2 - qhs st.2.2.2) + (qhs σ' - qhs st'.2.2.2) = slots + (qhs σ' - qhs st.2.2.2) := by omega
 rw [e1, e2] at X'
 exact ⟨T', locs', X', R', F', fun fs hf => S₁ _ (S' fs hf)⟩
theorem QTri.pure {st st' : QSt} (h : QTri l Z n0 ad m st' v σ') (hσ : st'.2.2.2 = st.2.2.2)
  (hs : ∀ (p : Program) (e : Env) (R : Room) (s : State) (mid : MethodId) (args : Array Value) (below : List Frame) (meth : Method) (c : Code) (T : State) (locs : List Loc) (cells slots : Nat) (C : Array Slot),
   QCx Z p R s mid meth c m → Stand p l e R s mid args below meth c T locs cells slots → QRep Z n0 ad T.heap st.2.2.2 → QLocOk ad st.2.1 C → C.size = c.maxLocals →
   ∃ T₁ C₁, Stand p l e R s mid args below meth c T₁ locs cells slots ∧ T₁.heap = T.heap ∧ QLocOk ad st'.2.1 C₁ ∧ C₁.size = c.maxLocals ∧
    ∀ target, Steps p.tables e below (T₁.setTop (mkF mid st'.1 C₁ (st'.2.2.1.map (qv ad)))) target → Steps p.tables e below (T.setTop (mkF mid st.1 C (st.2.2.1.map (qv ad)))) target) :
  QTri l Z n0 ad m st v σ' := by
 refine QTri.gen h (by rw [hσ]; exact Nat.le_refl _) (by rw [hσ]; exact Nat.le_refl _) fun p e R s mid args below meth c T locs cells slots C hcx X hR hF hL hC hn hc hsl => ?_
 obtain ⟨T₁, C₁, X₁, hh, L₁, C1, S₁⟩ := hs p e R s mid args below meth c T locs cells slots C hcx X hR hL hC
 refine ⟨T₁, locs, C₁, ?_, by rw [hσ, hh]; exact hR, hF, L₁, C1, S₁⟩
 rw [hσ, Nat.sub_self, Nat.sub_self]
 exact X₁
theorem QTri.frame {pc pc' : Nat} {L L' : QLoc} {S S' : List Value} {σ : QHeap} (h : QTri l Z n0 ad m (pc', L', S', σ) v σ')
  (hs : ∀ (p : Program) (e : Env) (R : Room) (s : State) (mid : MethodId) (args : Array Value) (below : List Frame) (meth : Method) (c : Code) (T : State) (locs : List Loc) (cells slots : Nat) (C : Array Slot),
   QCx Z p R s mid meth c m → Stand p l e R s mid args below meth c T locs cells slots → QRep Z n0 ad T.heap σ → QLocOk ad L C → C.size = c.maxLocals →
   ∃ C₁, QLocOk ad L' C₁ ∧ C₁.size = c.maxLocals ∧ ∀ target, Steps p.tables e below (T.setTop (mkF mid pc' C₁ (S'.map (qv ad)))) target → Steps p.tables e below (T.setTop (mkF mid pc C (S.map (qv ad)))) target) :
  QTri l Z n0 ad m (pc, L, S, σ) v σ' :=
 QTri.pure h rfl fun p e R s mid args below meth c T locs cells slots C hcx X hR hL hC => by
  obtain ⟨C₁, h1, h2, h3⟩ := hs p e R s mid args below meth c T locs cells slots C hcx X hR hL hC
  exact ⟨T, C₁, X, rfl, h1, h2, h3⟩
theorem QTri.stack {pc pc' : Nat} {L : QLoc} {S S' : List Value} {σ : QHeap} (h : QTri l Z n0 ad m (pc', L, S', σ) v σ')
  (hs : ∀ (p : Program) (e : Env) (R : Room) (s : State) (mid : MethodId) (args : Array Value) (below : List Frame) (meth : Method) (c : Code) (T : State) (locs : List Loc) (cells slots : Nat) (C : Array Slot) (target : State),
   p.tables.exec = Jvm.exec → Z.Warmed39 s.vm → c.code = pBytes m → s.vm.findClass (kName (pK m)) = some mid.cls → Stand p l e R s mid args below meth c T locs cells slots → QRep Z n0 ad T.heap σ → QLocOk ad L C →
   Steps p.tables e below (T.setTop (mkF mid pc' C (S'.map (qv ad)))) target → Steps p.tables e below (T.setTop (mkF mid pc C (S.map (qv ad)))) target) :
  QTri l Z n0 ad m (pc, L, S, σ) v σ' :=
 QTri.frame h fun p e R s mid args below meth c T locs cells slots C hcx X hR hL hC => ⟨C, hL, hC, fun target k => hs p e R s mid args below meth c T locs cells slots C target hcx.1 hcx.2.1 hcx.2.2.1 hcx.2.2.2.2.2.1 X hR hL k⟩
theorem qload_inv {pc : Nat} {L : QLoc} {S : List Value} {σ : QHeap} {k : Nat} {ok : Value → Bool} {st' : QSt} (h : qload pc L S σ k ok = some st') : ∃ v, lget L k = some v ∧ ok v = true ∧ st' = (pc, L, v :: S, σ) := by
 unfold qload at h
 split at h
 ·rename_i v hv
  cases ho : ok v with
  | true => rw [ho] at h; cases h; exact ⟨v, hv, ho, rfl⟩
  | false => rw [ho] at h; cases h
 ·cases h
theorem qstore_inv {pc : Nat} {L : QLoc} {S : List Value} {σ : QHeap} {k : Nat} {ok : Value → Bool} {st' : QSt} (h : qstore pc L S σ k ok = some st') : ∃ v S' L', S = v :: S' ∧ ok v = true ∧ lput L k v = some L' ∧ st' = (pc, L', S', σ) := by
 unfold qstore at h
 split at h
 ·rename_i v S'
  cases ho : ok v with
  | true =>
   rw [ho] at h
   simp only [cond_true] at h
   split at h
   ·rename_i L' hL'
    cases h; exact ⟨v, S', L', rfl, ho, hL', rfl⟩
   ·cases h
  | false => rw [ho] at h; cases h
 ·cases h
theorem qbin_inv {pc : Nat} {L : QLoc} {S : List Value} {σ : QHeap} {f : Int32 → Int32 → Int32} {st' : QSt} (h : qbin pc L S σ f = some st') : ∃ x y S', S = .int y :: .int x :: S' ∧ st' = (pc, L, .int (f x y) :: S', σ) := by
 unfold qbin at h
 split at h
 ·cases h; exact ⟨_, _, _, rfl, rfl⟩
 ·cases h
theorem qbino_inv {pc : Nat} {L : QLoc} {S : List Value} {σ : QHeap} {f : Int32 → Int32 → Option Int32} {st' : QSt} (h : qbino pc L S σ f = some st') : ∃ x y z S', S = .int y :: .int x :: S' ∧ f x y = some z ∧ st' = (pc, L, .int z :: S', σ) := by
 unfold qbino at h
 split at h
 ·obtain ⟨z, hz, h⟩ := Option.bind_eq_some_iff.mp h
  cases h; exact ⟨_, _, _, _, rfl, hz, rfl⟩
 ·cases h
theorem qbinJ_inv {pc : Nat} {L : QLoc} {S : List Value} {σ : QHeap} {f : Int64 → Int64 → Int64} {st' : QSt} (h : qbinJ pc L S σ f = some st') : ∃ x y S', S = .long y :: .long x :: S' ∧ st' = (pc, L, .long (f x y) :: S', σ) := by
 unfold qbinJ at h
 split at h
 ·cases h; exact ⟨_, _, _, rfl, rfl⟩
 ·cases h
theorem qshJ_inv {pc : Nat} {L : QLoc} {S : List Value} {σ : QHeap} {f : Int64 → Int32 → Int64} {st' : QSt} (h : qshJ pc L S σ f = some st') : ∃ x y S', S = .int y :: .long x :: S' ∧ st' = (pc, L, .long (f x y) :: S', σ) := by
 unfold qshJ at h
 split at h
 ·cases h; exact ⟨_, _, _, rfl, rfl⟩
 ·cases h
theorem quni_inv {pc : Nat} {L : QLoc} {S : List Value} {σ : QHeap} {f : Int32 → Value} {st' : QSt} (h : quni pc L S σ f = some st') : ∃ x S', S = .int x :: S' ∧ st' = (pc, L, f x :: S', σ) := by
 unfold quni at h
 split at h
 ·cases h; exact ⟨_, _, rfl, rfl⟩
 ·cases h
theorem quniJ_inv {pc : Nat} {L : QLoc} {S : List Value} {σ : QHeap} {f : Int64 → Value} {st' : QSt} (h : quniJ pc L S σ f = some st') : ∃ x S', S = .long x :: S' ∧ st' = (pc, L, f x :: S', σ) := by
 unfold quniJ at h
 split at h
 ·cases h; exact ⟨_, _, rfl, rfl⟩
 ·cases h
theorem qif_inv {pc : Nat} {L : QLoc} {S : List Value} {σ : QHeap} {cd : ClassFile.Cond} {t : Nat} {st' : QSt} (h : qif pc L S σ cd t = some st') : ∃ x S', S = .int x :: S' ∧ st' = (bif ifCond.holds cd x then t else pc, L, S', σ) := by
 unfold qif at h
 split at h
 ·cases h; exact ⟨_, _, rfl, rfl⟩
 ·cases h
theorem qicmp_inv {pc : Nat} {L : QLoc} {S : List Value} {σ : QHeap} {cd : ClassFile.Cond} {t : Nat} {st' : QSt} (h : qicmp pc L S σ cd t = some st') : ∃ x y S', S = .int y :: .int x :: S' ∧ st' = (bif if_icmp.holds cd x y then t else pc, L, S', σ) := by
 unfold qicmp at h
 split at h
 ·cases h; exact ⟨_, _, _, rfl, rfl⟩
 ·cases h
theorem qget_inv {pc : Nat} {L : QLoc} {S : List Value} {σ : QHeap} {k : Nat} {st' : QSt} (h : qget pc L S σ k = some st') : ∃ a S' vs v, S = .ref a :: S' ∧ hget σ a = some (.inl vs) ∧ vget vs k = some v ∧ st' = (pc, L, v :: S', σ) := by
 unfold qget at h
 split at h
 ·split at h
  ·split at h
   ·cases h; exact ⟨_, _, _, _, rfl, by assumption, by assumption, rfl⟩
   ·cases h
  ·cases h
 ·cases h
theorem qput_inv {pc : Nat} {L : QLoc} {S : List Value} {σ : QHeap} {k : Nat} {st' : QSt} (h : qput pc L S σ k = some st') : ∃ v a S' vs w, S = v :: .ref a :: S' ∧ hget σ a = some (.inl vs) ∧ k0 ≤ a ∧ k < vs.length ∧ qfit (fTy k) v = some w ∧ st' = (pc, L, S', σ.set a (.inl (vs.set k w))) := by
 unfold qput at h
 split at h
 ·rename_i v a S'
  split at h
  ·rename_i vs hvs
   cases hbb : (Nat.ble k0 a && Nat.ble (k + 1) vs.length) with
   | false => rw [hbb] at h; cases h
   | true =>
    rw [hbb] at h
    simp only [cond_true] at h
    obtain ⟨u, hu, h⟩ := Option.bind_eq_some_iff.mp h
    cases h
    obtain ⟨b1, b2⟩ := Bool.and_eq_true_iff.mp hbb
    exact ⟨v, a, S', vs, u, rfl, hvs, Nat.le_of_ble_eq_true b1, Nat.le_of_ble_eq_true b2, hu, rfl⟩
  ·cases h
 ·cases h
theorem qald_inv {pc : Nat} {L : QLoc} {S : List Value} {σ : QHeap} {ok : FieldType → Bool} {st' : QSt} (h : qald pc L S σ ok = some st') : ∃ j a S' ty xs v, S = .int j :: .ref a :: S' ∧ hget σ a = some (.inr (.inl (ty, xs))) ∧ ok ty = true ∧ aget xs j = some v ∧ st' = (pc, L, .int v :: S', σ) := by
 unfold qald at h
 split at h
 ·rename_i j a S'
  split at h
  ·rename_i x hx
   cases ht : ok x.1 with
   | false => rw [ht] at h; cases h
   | true =>
    rw [ht] at h
    simp only [cond_true] at h
    obtain ⟨u, hu, h⟩ := Option.bind_eq_some_iff.mp h
    cases h
    exact ⟨j, a, S', x.1, x.2, u, rfl, hx, ht, hu, rfl⟩
  ·cases h
 ·cases h
theorem qaldJ_inv {pc : Nat} {L : QLoc} {S : List Value} {σ : QHeap} {st' : QSt} (h : qaldJ pc L S σ = some st') : ∃ j a S' xs v, S = .int j :: .ref a :: S' ∧ hget σ a = some (.inr (.inr xs)) ∧ aget xs j = some v ∧ st' = (pc, L, .long v :: S', σ) := by
 unfold qaldJ at h
 split at h
 ·rename_i j a S'
  split at h
  ·rename_i x hx
   obtain ⟨u, hu, h⟩ := Option.bind_eq_some_iff.mp h
   cases h
   exact ⟨j, a, S', x, u, rfl, hx, hu, rfl⟩
  ·cases h
 ·cases h
theorem qast_inv {pc : Nat} {L : QLoc} {S : List Value} {σ : QHeap} {ok : FieldType → Bool} {st' : QSt} (h : qast pc L S σ ok = some st') : ∃ v j a S' ty xs ys, S = .int v :: .int j :: .ref a :: S' ∧ hget σ a = some (.inr (.inl (ty, xs))) ∧ ok ty = true ∧ k0 ≤ a ∧ aset xs j (qnar ty v) = some ys ∧ st' = (pc, L, S', σ.set a (.inr (.inl (ty, ys)))) := by
 unfold qast at h
 split at h
 ·rename_i v j a S'
  split at h
  ·rename_i x hx
   cases ht : (ok x.1 && Nat.ble k0 a) with
   | false => rw [ht] at h; cases h
   | true =>
    rw [ht] at h
    simp only [cond_true] at h
    obtain ⟨u, hu, h⟩ := Option.bind_eq_some_iff.mp h
    cases h
    obtain ⟨b1, b2⟩ := Bool.and_eq_true_iff.mp ht
    exact ⟨v, j, a, S', x.1, x.2, u, rfl, hx, b1, Nat.le_of_ble_eq_true b2, hu, rfl⟩
  ·cases h
 ·cases h
theorem qastJ_inv {pc : Nat} {L : QLoc} {S : List Value} {σ : QHeap} {st' : QSt} (h : qastJ pc L S σ = some st') : ∃ v j a S' xs ys, S = .long v :: .int j :: .ref a :: S' ∧ hget σ a = some (.inr (.inr xs)) ∧ k0 ≤ a ∧ aset xs j v = some ys ∧ st' = (pc, L, S', σ.set a (.inr (.inr ys))) := by
 unfold qastJ at h
 split at h
 ·rename_i v j a S'
  split at h
  ·rename_i x hx
   cases ht : (Nat.ble k0 a) with
   | false => rw [ht] at h; cases h
   | true =>
    rw [ht] at h
    simp only [cond_true] at h
    obtain ⟨u, hu, h⟩ := Option.bind_eq_some_iff.mp h
    cases h
    exact ⟨v, j, a, S', x, u, rfl, hx, Nat.le_of_ble_eq_true ht, hu, rfl⟩
  ·cases h
 ·cases h
theorem qlen_inv {pc : Nat} {L : QLoc} {S : List Value} {σ : QHeap} {st' : QSt} (h : qlen pc L S σ = some st') : ∃ a S' n, S = .ref a :: S' ∧ ((∃ ty xs, hget σ a = some (.inr (.inl (ty, xs))) ∧ n = xs.length) ∨ ∃ xs, hget σ a = some (.inr (.inr xs)) ∧ n = xs.length) ∧ st' = (pc, L, .int n.toInt32 :: S', σ) := by
 unfold qlen at h
 split at h
 ·rename_i a S'
  split at h
  ·rename_i x hx
   cases h; exact ⟨a, S', _, rfl, Or.inl ⟨x.1, x.2, hx, rfl⟩, rfl⟩
  ·rename_i x hx
   cases h; exact ⟨a, S', _, rfl, Or.inr ⟨x, hx, rfl⟩, rfl⟩
  ·cases h
 ·cases h
theorem isI_inv {v : Value} (h : isI v = true) : ∃ x, v = .int x := by cases v <;> simp [isI] at h; exact ⟨_, rfl⟩
theorem isJ_inv {v : Value} (h : isJ v = true) : ∃ x, v = .long x := by cases v <;> simp [isJ] at h; exact ⟨_, rfl⟩
theorem isR_inv {v : Value} (h : isR v = true) : ∃ x, v = .ref x := by cases v <;> simp [isR] at h; exact ⟨_, rfl⟩
theorem aget_inv {α : Type} {xs : List α} {j : Int32} {x : α} (h : aget xs j = some x) : ¬ j < 0 ∧ xs[j.toNatClampNeg]? = some x := by
 unfold aget at h
 split at h
 ·cases h
 ·rename_i q; exact ⟨q, h⟩
theorem aset_inv {α : Type} {xs ys : List α} {j : Int32} {x : α} (h : aset xs j x = some ys) : ¬ j < 0 ∧ j.toNatClampNeg < xs.length ∧ ys = xs.set j.toNatClampNeg x := by
 unfold aset at h
 split at h
 ·cases h
 ·rename_i q
  split at h
  ·rename_i q2; cases h; exact ⟨q, q2, rfl⟩
  ·cases h
theorem qnew_inv {n : Int32} {k : Nat} (h : qnew n = some k) : ¬ n < 0 ∧ n.toNatClampNeg = k ∧ k ≤ 67108864 := by
 unfold qnew at h
 split at h
 ·cases h
 ·rename_i q
  split at h
  ·rename_i q2; cases h; exact ⟨q, rfl, q2⟩
  ·cases h
theorem QCellOk.other {h h' : Heap} {a b : Addr} {sl : Nat} {w : Value} {c : QCell} (H : QCellOk Z ad h b c) (W : Wr h h' a sl w) (ne : b ≠ a) : QCellOk Z ad h' b c := by
 rcases c with vs | ⟨ty, xs⟩ | xs
 ·obtain ⟨h1, h2, h3⟩ := H
  exact ⟨h1.wr W, h2, fun k u hk hu => (h3 k u hk hu).other W (Or.inl ne)⟩
 ·obtain ⟨c, h1, h2⟩ := H
  exact ⟨c, h1.other W ne, h2⟩
 ·obtain ⟨c, h1, h2⟩ := H
  exact ⟨c, h1.other W ne, h2⟩
theorem QCellOk.ext {h h' : Heap} {b : Addr} {c : QCell} (H : QCellOk Z ad h b c) (E : Ext h h') : QCellOk Z ad h' b c := by
 rcases c with vs | ⟨ty, xs⟩ | xs
 ·obtain ⟨h1, h2, h3⟩ := H
  exact ⟨h1.ext E, h2, fun k u hk hu => (h3 k u hk hu).ext E⟩
 ·obtain ⟨c, h1, h2⟩ := H
  exact ⟨c, h1.ext E, h2⟩
 ·obtain ⟨c, h1, h2⟩ := H
  exact ⟨c, h1.ext E, h2⟩
theorem QRep.set {h h' : Heap} {σ : QHeap} {a : Nat} {sl : Nat} {w : Value} {c d : QCell} (H : QRep Z n0 ad h σ) (Ad : QAd n0 ad) (W : Wr h h' (ad a) sl w) (hc : hget σ a = some c) (hd : QCellOk Z ad h' (ad a) d) : QRep Z n0 ad h' (σ.set a d) := by
 obtain ⟨h1, h2, h3⟩ := H
 refine ⟨by simpa using h1, by rw [W.size, h2]; simp, fun k e he => ?_⟩
 rw [hget_set hc] at he
 split at he
 ·rename_i q; cases he; rw [q]; exact hd
 ·rename_i q; exact (h3 k e he).other W fun z => q (Ad.2 _ _ z)
theorem QRep.push {h h' : Heap} {σ : QHeap} {c : QCell} (H : QRep Z n0 ad h σ) (Ad : QAd n0 ad) (E : Ext h h') (hs : h'.size = h.size + 1) (hc : QCellOk Z ad h' h.size c) : QRep Z n0 ad h' (σ ++ [c]) := by
 obtain ⟨h1, h2, h3⟩ := H
 refine ⟨by simp; omega, by rw [hs, h2]; simp; omega, fun k e he => ?_⟩
 rw [hget_eq] at he
 rcases Nat.lt_or_ge k σ.length with q | q
 ·rw [List.getElem?_append_left q, ← hget_eq] at he
  exact (h3 k e he).ext E
 ·rw [List.getElem?_append_right q] at he
  obtain rfl : k = σ.length := by
   rcases Nat.lt_or_ge (k - σ.length) 1 with z | z
   ·omega
   ·rw [List.getElem?_eq_none (by simpa using z)] at he; cases he
  simp at he
  rw [← he, Ad.1 _ h1, ← h2]
  exact hc
theorem mem_of_contains {α : Type} [BEq α] [LawfulBEq α] {L : List α} {a : α} (h : L.contains a = true) : a ∈ L := by simpa using h
theorem lkF_lt : ∀ t ∈ lkF, t.2.2 < nF := by decide +kernel
theorem laid_of (W : QW Z a0) {k : Nat} (hk : k < nF) : Laid Z a0 cName cName (fNm k) (fDs k) := by
 have q := (qw_lay W) k hk
 cases hf : fFin k with
 | true => rw [hf] at q; exact Or.inr q
 | false => rw [hf] at q; exact Or.inl q
theorem qfit_inv {ty : FieldType} {v w : Value} (h : qfit ty v = some w) : v = w ∧ narrow ty (qv ad w) = qv ad w ∧ fits ty (qv ad w) = true := by
 unfold qfit at h
 split at h
 ·cases h; exact ⟨rfl, rfl, rfl⟩
 ·rename_i x
  obtain ⟨y, hy, h⟩ := Option.bind_eq_some_iff.mp h
  cases h
  unfold qboo at hy
  split at hy
  ·rename_i e; cases hy; subst e; exact ⟨rfl, rfl, rfl⟩
  ·split at hy
   ·rename_i e; cases hy; subst e; exact ⟨rfl, rfl, rfl⟩
   ·cases hy
 ·cases h; exact ⟨rfl, rfl, rfl⟩
 ·cases h; exact ⟨rfl, rfl, rfl⟩
 ·cases h
theorem vget_set {vs : List Value} {k j : Nat} {w : Value} (hk : k < vs.length) : vget (vs.set k w) j = if j = k then some w else vget vs j := by
 simp only [vget_eq, List.getElem?_set]
 by_cases e : k = j
 ·subst e; simp [hk]
 ·simp [e, Ne.symm e]
theorem ald_in {α : Type} {f : α → Value} {xs : List α} {c : Cell} {j : Int32} {x : α} (hc : c.slots = (xs.map f).toArray) (h : aget xs j = some x) : ¬ (j < 0 ∨ c.slots.size ≤ j.toNatClampNeg) ∧ c.slots[j.toNatClampNeg]? = some (f x) := by
 obtain ⟨h1, h2⟩ := aget_inv h
 have h3 := (List.getElem?_eq_some_iff.mp h2).1
 refine ⟨fun q => ?_, by rw [hc]; simp [h2]⟩
 rcases q with q | q
 ·exact h1 q
 ·rw [hc] at q; simp at q; omega
theorem ast_in {α : Type} {f : α → Value} {xs ys : List α} {c : Cell} {j : Int32} {x : α} (hc : c.slots = (xs.map f).toArray) (h : aset xs j x = some ys) : ¬ (j < 0 ∨ c.slots.size ≤ j.toNatClampNeg) ∧ (c.setSlot j.toNatClampNeg (f x)).slots = (ys.map f).toArray := by
 obtain ⟨h1, h2, rfl⟩ := aset_inv h
 refine ⟨fun q => ?_, by simp [Cell.setSlot, hc, List.map_set]⟩
 rcases q with q | q
 ·exact h1 q
 ·rw [hc] at q; simp at q; omega
theorem qgrow {σ : QHeap} {c : QCell} : qhs (σ ++ [c]) - qhs σ = qsz c := by rw [qhs_app]; simp [qhs]
set_option maxHeartbeats 4000000 in
theorem QTri.newArr (Ad : QAd n0 ad) (W : QW Z a0) {pc aux : Nat} {L : QLoc} {S : List Value} {σ : QHeap} {aty : ArrayType} {n : Int32} {k : Nat} {c : QCell} (hk : qnew n = some k) (hc : pCode m pc = some (.newarray aty, aux)) (hz : qsz c = k)
  (hq : ∀ (h' : Heap) (a : Addr) (cA : ClassId), Arr Z h' a (newA cA (newarray.typeOf aty) n) (newarray.typeOf aty) → QCellOk Z ad h' a c)
  (h : QTri l Z n0 ad m (pc + 2, L, .ref σ.length :: S, σ ++ [c]) v σ') : QTri l Z n0 ad m (pc, L, .int n :: S, σ) v σ' := by
 have hd : decode (pBytes m) pc = .ok (.newarray aty, 2) := pDecN hc rfl
 obtain ⟨n1, n2, n3⟩ := qnew_inv hk
 refine QTri.gen h (by simp) (by simp [qhs_app]) fun p e R s mid args below meth c' T locs cells slots C hcx X hR hF hL hC hn hc1 hsl => ?_
 obtain ⟨hx, hZ, hby, hml, hret, hown, hnm, hfr, hlo⟩ := hcx
 have hd2 : decode c'.code pc = .ok (.newarray aty, 2) := by rw [hby]; exact hd
 simp only [List.length_append, List.length_singleton, Nat.add_sub_cancel_left, qgrow, hz] at hc1 hsl ⊢
 obtain ⟨T₁, h₁, cA, X₁, e₁, E₁, A₁, st⟩ := newP X hx hZ (aty := aty) (qw_arr W (newarray.typeOf aty) (mem_of_contains (show aTys.contains (newarray.typeOf aty) = true from pRest hc))) rfl (g := mkF mid pc C (.int n :: S.map (qv ad))) rfl hd2 rfl n1 (cap := k) (by omega) (by omega) hc1 hsl
 have hsz : h₁.size = T.heap.size + 1 := by
  have q1 := X₁.heapSize
  have q2 : T.heap.size < h₁.size := A₁.lt
  have q3 := hR.2.1
  rw [e₁] at q1
  have : n0 + (σ.length - k0) = s.heap.size + cells := hn
  have q3' : T.heap.size = n0 + (σ.length - k0) := q3
  omega
 refine ⟨T₁, locs, C, X₁, ?_, hF, hL, hC, fun target q => ?_⟩
 ·rw [e₁]; exact QRep.push hR Ad E₁ hsz (hq _ _ _ A₁)
 ·refine st _ ?_
  have e2 : ad σ.length = T.heap.size := by rw [Ad.1 _ hR.1]; exact hR.2.1.symm
  simp only [List.map_cons, qv, e2] at q
  exact q
set_option maxHeartbeats 4000000 in
theorem QTri.getfield (W : QW Z a0) {pc idx aux : Nat} {L : QLoc} {S : List Value} {σ : QHeap} {st' : QSt} (h : QTri l Z n0 ad m st' v σ') (hc : pCode m pc = some (.getfield idx, aux)) (hs : qget (pc + 3) L S σ aux = some st') : QTri l Z n0 ad m (pc, L, S, σ) v σ' := by
 have hd : decode (pBytes m) pc = .ok (.getfield idx, 3) := pDecN hc rfl
 obtain ⟨a, S', vs, w, rfl, hvs, hw, rfl⟩ := qget_inv hs
 have hm := mem_of_contains (show lkF.contains (pK m, idx, aux) = true from pRest hc)
 have hlt := lkF_lt _ hm
 refine QTri.pure h rfl fun p e R s mid args below meth c T locs cells slots C hcx X hR hL hC => ?_
 obtain ⟨hx, hZ, hby, hml, hret, hown, hnm, hfr, hlo⟩ := hcx
 have hd2 : decode c.code pc = .ok (.getfield idx, 3) := by rw [hby]; exact hd
 have F := (hR.2.2 _ _ hvs).2.2 aux w hlt hw
 obtain ⟨T₁, X₁, e₁, st⟩ := getF X hx hZ hown (host := "") (index := idx) (Or.inl (qw_fl W (pK m, idx, aux) hm)) Via.refl rfl F (g := mkF mid pc C (List.map (qv ad) (.ref a :: S'))) rfl rfl hd2
 exact ⟨T₁, C, X₁, e₁, hL, hC, st⟩
set_option maxHeartbeats 4000000 in
theorem QTri.putfield (Ad : QAd n0 ad) (W : QW Z a0) {pc idx aux : Nat} {L : QLoc} {S : List Value} {σ : QHeap} {st' : QSt} (h : QTri l Z n0 ad m st' v σ') (hc : pCode m pc = some (.putfield idx, aux)) (hs : qput (pc + 3) L S σ aux = some st') : QTri l Z n0 ad m (pc, L, S, σ) v σ' := by
 have hd : decode (pBytes m) pc = .ok (.putfield idx, 3) := pDecN hc rfl
 obtain ⟨w, a, S', vs, u, rfl, hvs, b1, b2, hu, rfl⟩ := qput_inv hs
 obtain ⟨r1, r2⟩ := Bool.and_eq_true_iff.mp (show (lkF.contains (pK m, idx, aux) && (!fFin aux || (pK m == 1 && pNm m == "<init>"))) = true from pRest hc)
 have hm := mem_of_contains r1
 have hlt := lkF_lt _ hm
 obtain ⟨rfl, q2, q3⟩ := qfit_inv (ad := ad) hu
 have hsz : qhs (σ.set a (Sum.inl (vs.set aux w))) = qhs σ := qhs_set hvs rfl
 refine QTri.gen h (by simp) (by show qhs σ ≤ qhs (σ.set a (Sum.inl (vs.set aux w))); rw [hsz]; exact Nat.le_refl _) fun p e R s mid args below meth c T locs cells slots C hcx X hR hF hL hC hn hc1 hsl => ?_
 obtain ⟨hx, hZ, hby, hml, hret, hown, hnm, hfr, hlo⟩ := hcx
 have hd2 : decode c.code pc = .ok (.putfield idx, 3) := by rw [hby]; exact hd
 obtain ⟨E, l1, Fs⟩ := hR.2.2 _ _ hvs
 obtain ⟨old, hold⟩ : ∃ old, vget vs aux = some old := by rw [vget_eq]; exact ⟨_, List.getElem?_eq_getElem b2⟩
 have lay : (Cond.lays cName cName (fNm aux) (fDs aux)).before a0 Z = true ∨ ((Cond.laysFinal cName cName (fNm aux) (fDs aux)).before a0 Z = true ∧ kName (pK m) = cName ∧ meth.name = "<init>") := by
  have q := (qw_lay W) aux hlt
  cases hf : fFin aux with
  | false => rw [hf] at q; exact Or.inl q
  | true =>
   rw [hf] at q r2
   simp at r2
   exact Or.inr ⟨q, by rw [r2.1]; exact kOne, by rw [hnm]; exact r2.2⟩
 obtain ⟨T₁, h₁, X₁, e₁, W₁, st⟩ := putF X hx hZ hown (host := "") (index := idx) (Or.inl (qw_fl W (pK m, idx, aux) hm)) Via.refl rfl (Fs aux old hlt hold) E lay ((qw_inst W)) (fPrs aux hlt) q2 q3 (g := mkF mid pc C (List.map (qv ad) (w :: .ref a :: S'))) rfl rfl hd2
 refine ⟨T₁, _, C, ?_, ?_, Fr.snoc X₁ hF (by rw [Ad.1 a b1]; exact Nat.le_add_right _ _), hL, hC, st⟩
 ·show Stand _ _ _ _ _ _ _ _ _ _ _ _ (cells + ((σ.set a (Sum.inl (vs.set aux w))).length - σ.length)) (slots + (qhs (σ.set a (Sum.inl (vs.set aux w))) - qhs σ))
  rw [hsz, Nat.sub_self, List.length_set, Nat.sub_self]
  exact X₁
 ·rw [e₁]
  refine QRep.set hR Ad W₁ hvs ⟨E.wr W₁, by simpa using l1, fun k u hk hu => ?_⟩
  rw [vget_set b2] at hu
  split at hu
  ·rename_i e; cases hu; rw [e]; exact (Fs aux old hlt hold).same W₁
  ·rename_i ne
   exact (Fs k u hk hu).other W₁ (Or.inr (slot_ne (laid_of W hk) (laid_of W hlt) (fun z => ne (fInj _ hk _ hlt z)) (fPrs _ hk) (fPrs _ hlt)))
theorem tyI_inv {ty : FieldType} (h : tyI ty = true) : ty = .int := by cases ty <;> simp [tyI] at h; rfl
theorem tyB_inv {ty : FieldType} (h : tyB ty = true) : ty = .boolean ∨ ty = .byte := by cases ty <;> simp [tyB] at h <;> simp
set_option maxHeartbeats 4000000 in
theorem QTri.iaload {pc aux : Nat} {L : QLoc} {S : List Value} {σ : QHeap} {st' : QSt} (h : QTri l Z n0 ad m st' v σ') (hc : pCode m pc = some (.iaload, aux)) (hs : qald (pc + 1) L S σ tyI = some st') : QTri l Z n0 ad m (pc, L, S, σ) v σ' := by
 have hd : decode (pBytes m) pc = .ok (.iaload, 1) := pDecN hc rfl
 obtain ⟨j, a, S', ty, xs, w, rfl, hx1, ht, hw, rfl⟩ := qald_inv hs
 obtain rfl := tyI_inv ht
 refine QTri.stack h fun p e R s mid args below meth c T locs cells slots C target hx hZ hby hown X hR hL k => ?_
 have hd2 : decode c.code pc = .ok (.iaload, 1) := by rw [hby]; exact hd
 obtain ⟨cl, A, hsl⟩ := hR.2.2 _ _ hx1
 obtain ⟨i1, i2⟩ := ald_in hsl hw
 exact X.iaload hx A.1 (State.isArrayOf_alike hZ.alike A.2.1) A.2.2 i1 i2 (g := mkF mid pc C (List.map (qv ad) (.int j :: .ref a :: S'))) rfl rfl hd2 _ k
set_option maxHeartbeats 4000000 in
theorem QTri.baload {pc aux : Nat} {L : QLoc} {S : List Value} {σ : QHeap} {st' : QSt} (h : QTri l Z n0 ad m st' v σ') (hc : pCode m pc = some (.baload, aux)) (hs : qald (pc + 1) L S σ tyB = some st') : QTri l Z n0 ad m (pc, L, S, σ) v σ' := by
 have hd : decode (pBytes m) pc = .ok (.baload, 1) := pDecN hc rfl
 obtain ⟨j, a, S', ty, xs, w, rfl, hx1, ht, hw, rfl⟩ := qald_inv hs
 refine QTri.stack h fun p e R s mid args below meth c T locs cells slots C target hx hZ hby hown X hR hL k => ?_
 have hd2 : decode c.code pc = .ok (.baload, 1) := by rw [hby]; exact hd
 obtain ⟨cl, A, hsl⟩ := hR.2.2 _ _ hx1
 obtain ⟨i1, i2⟩ := ald_in hsl hw
 rcases tyB_inv ht with rfl | rfl
 ·exact X.baloadBooleans hx A.1 (State.isArrayOf_alike hZ.alike A.2.1) A.2.2 i1 i2 (g := mkF mid pc C (List.map (qv ad) (.int j :: .ref a :: S'))) rfl rfl hd2 _ k
 ·exact X.baloadBytes hx A.1 (State.isArrayOf_alike hZ.alike A.2.1) A.2.2 i1 i2 (g := mkF mid pc C (List.map (qv ad) (.int j :: .ref a :: S'))) rfl rfl hd2 _ k
set_option maxHeartbeats 4000000 in
theorem QTri.laload {pc aux : Nat} {L : QLoc} {S : List Value} {σ : QHeap} {st' : QSt} (h : QTri l Z n0 ad m st' v σ') (hc : pCode m pc = some (.laload, aux)) (hs : qaldJ (pc + 1) L S σ = some st') : QTri l Z n0 ad m (pc, L, S, σ) v σ' := by
 have hd : decode (pBytes m) pc = .ok (.laload, 1) := pDecN hc rfl
 obtain ⟨j, a, S', xs, w, rfl, hx1, hw, rfl⟩ := qaldJ_inv hs
 refine QTri.stack h fun p e R s mid args below meth c T locs cells slots C target hx hZ hby hown X hR hL k => ?_
 have hd2 : decode c.code pc = .ok (.laload, 1) := by rw [hby]; exact hd
 obtain ⟨cl, A, hsl⟩ := hR.2.2 _ _ hx1
 obtain ⟨i1, i2⟩ := ald_in hsl hw
 exact X.laload hx A.1 (State.isArrayOf_alike hZ.alike A.2.1) A.2.2 i1 i2 (g := mkF mid pc C (List.map (qv ad) (.int j :: .ref a :: S'))) rfl rfl hd2 _ k
theorem QTri.stored (Ad : QAd n0 ad) {pc : Nat} {L : QLoc} {S S' : List Value} {σ : QHeap} {a j : Nat} {w : Value} {c d : QCell} (hx1 : hget σ a = some c) (b1 : k0 ≤ a) (hz : qsz d = qsz c) (h : QTri l Z n0 ad m (pc + 1, L, S', σ.set a d) v σ')
  (hs : ∀ (p : Program) (e : Env) (R : Room) (s : State) (mid : MethodId) (args : Array Value) (below : List Frame) (meth : Method) (c : Code) (T : State) (locs : List Loc) (cells slots : Nat) (C : Array Slot),
   QCx Z p R s mid meth c m → Stand p l e R s mid args below meth c T locs cells slots → QRep Z n0 ad T.heap σ →
   ∃ T' h', Stand p l e R s mid args below meth c T' (locs ++ [⟨ad a, j⟩]) cells slots ∧ T'.heap = h' ∧ Wr T.heap h' (ad a) j w ∧ QCellOk Z ad h' (ad a) d ∧ ∀ target, Steps p.tables e below (T'.setTop (mkF mid (pc + 1) C (S'.map (qv ad)))) target → Steps p.tables e below (T.setTop (mkF mid pc C (S.map (qv ad)))) target) :
  QTri l Z n0 ad m (pc, L, S, σ) v σ' := by
 have hsz : qhs (σ.set a d) = qhs σ := qhs_set hx1 hz
 refine QTri.gen h (by simp) (by show qhs σ ≤ qhs (σ.set a d); rw [hsz]; exact Nat.le_refl _) fun p e R s mid args below meth c T locs cells slots C hcx X hR hF hL hC hn hc1 hsl => ?_
 obtain ⟨T₁, h₁, X₁, e₁, W₁, Q₁, st⟩ := hs p e R s mid args below meth c T locs cells slots C hcx X hR
 refine ⟨T₁, _, C, ?_, ?_, Fr.snoc X₁ hF (by rw [Ad.1 a b1]; exact Nat.le_add_right _ _), hL, hC, st⟩
 ·show Stand _ _ _ _ _ _ _ _ _ _ _ _ (cells + ((σ.set a d).length - σ.length)) (slots + (qhs (σ.set a d) - qhs σ))
  rw [hsz, Nat.sub_self, List.length_set, Nat.sub_self]
  exact X₁
 ·rw [e₁]
  exact QRep.set hR Ad W₁ hx1 Q₁
set_option maxHeartbeats 4000000 in
theorem QTri.iastore (Ad : QAd n0 ad) {pc aux : Nat} {L : QLoc} {S : List Value} {σ : QHeap} {st' : QSt} (h : QTri l Z n0 ad m st' v σ') (hc : pCode m pc = some (.iastore, aux)) (hs : qast (pc + 1) L S σ tyI = some st') : QTri l Z n0 ad m (pc, L, S, σ) v σ' := by
 have hd : decode (pBytes m) pc = .ok (.iastore, 1) := pDecN hc rfl
 obtain ⟨w, j, a, S', ty, xs, ys, rfl, hx1, ht, b1, hw, rfl⟩ := qast_inv hs
 obtain rfl := tyI_inv ht
 refine QTri.stored Ad (j := j.toNatClampNeg) (w := .int w) hx1 b1 (by rw [(aset_inv hw).2.2]; simp [qsz]) h fun p e R s mid args below meth c T locs cells slots C hcx X hR => ?_
 have hd2 : decode c.code pc = .ok (.iastore, 1) := by rw [hcx.2.2.1]; exact hd
 obtain ⟨cl, A, hsl⟩ := hR.2.2 _ _ hx1
 obtain ⟨i1, i2⟩ := ast_in hsl hw
 obtain ⟨T₁, h₁, X₁, e₁, W₁, st⟩ := stI X hcx.1 hcx.2.1 rfl A i1 (g := mkF mid pc C (List.map (qv ad) (.int w :: .int j :: .ref a :: S'))) rfl rfl hd2
 exact ⟨T₁, h₁, X₁, e₁, W₁, ⟨_, A.same W₁, i2⟩, st⟩
set_option maxHeartbeats 4000000 in
theorem QTri.bastore (Ad : QAd n0 ad) {pc aux : Nat} {L : QLoc} {S : List Value} {σ : QHeap} {st' : QSt} (h : QTri l Z n0 ad m st' v σ') (hc : pCode m pc = some (.bastore, aux)) (hs : qast (pc + 1) L S σ tyB = some st') : QTri l Z n0 ad m (pc, L, S, σ) v σ' := by
 have hd : decode (pBytes m) pc = .ok (.bastore, 1) := pDecN hc rfl
 obtain ⟨w, j, a, S', ty, xs, ys, rfl, hx1, ht, b1, hw, rfl⟩ := qast_inv hs
 refine QTri.stored Ad (j := j.toNatClampNeg) (w := .int (qnar ty w)) hx1 b1 (by rw [(aset_inv hw).2.2]; simp [qsz]) h fun p e R s mid args below meth c T locs cells slots C hcx X hR => ?_
 have hd2 : decode c.code pc = .ok (.bastore, 1) := by rw [hcx.2.2.1]; exact hd
 obtain ⟨cl, A, hsl⟩ := hR.2.2 _ _ hx1
 obtain ⟨i1, i2⟩ := ast_in hsl hw
 rcases tyB_inv ht with rfl | rfl
 ·obtain ⟨T₁, h₁, X₁, e₁, W₁, st⟩ := stZ X hcx.1 hcx.2.1 rfl A i1 (g := mkF mid pc C (List.map (qv ad) (.int w :: .int j :: .ref a :: S'))) rfl rfl hd2
  exact ⟨T₁, h₁, X₁, e₁, W₁, ⟨_, A.same W₁, i2⟩, st⟩
 ·obtain ⟨T₁, h₁, X₁, e₁, W₁, st⟩ := stB X hcx.1 hcx.2.1 rfl A i1 (g := mkF mid pc C (List.map (qv ad) (.int w :: .int j :: .ref a :: S'))) rfl rfl hd2
  exact ⟨T₁, h₁, X₁, e₁, W₁, ⟨_, A.same W₁, i2⟩, st⟩
set_option maxHeartbeats 4000000 in
theorem QTri.lastore (Ad : QAd n0 ad) {pc aux : Nat} {L : QLoc} {S : List Value} {σ : QHeap} {st' : QSt} (h : QTri l Z n0 ad m st' v σ') (hc : pCode m pc = some (.lastore, aux)) (hs : qastJ (pc + 1) L S σ = some st') : QTri l Z n0 ad m (pc, L, S, σ) v σ' := by
 have hd : decode (pBytes m) pc = .ok (.lastore, 1) := pDecN hc rfl
 obtain ⟨w, j, a, S', xs, ys, rfl, hx1, b1, hw, rfl⟩ := qastJ_inv hs
 refine QTri.stored Ad (j := j.toNatClampNeg) (w := .long w) hx1 b1 (by rw [(aset_inv hw).2.2]; simp [qsz]) h fun p e R s mid args below meth c T locs cells slots C hcx X hR => ?_
 have hd2 : decode c.code pc = .ok (.lastore, 1) := by rw [hcx.2.2.1]; exact hd
 obtain ⟨cl, A, hsl⟩ := hR.2.2 _ _ hx1
 obtain ⟨i1, i2⟩ := ast_in hsl hw
 obtain ⟨T₁, h₁, X₁, e₁, W₁, st⟩ := stJ X hcx.1 hcx.2.1 rfl A i1 (g := mkF mid pc C (List.map (qv ad) (.long w :: .int j :: .ref a :: S'))) rfl rfl hd2
 exact ⟨T₁, h₁, X₁, e₁, W₁, ⟨_, A.same W₁, i2⟩, st⟩
set_option maxHeartbeats 4000000 in
theorem QTri.alen {pc aux : Nat} {L : QLoc} {S : List Value} {σ : QHeap} {st' : QSt} (h : QTri l Z n0 ad m st' v σ') (hc : pCode m pc = some (.arraylength, aux)) (hs : qlen (pc + 1) L S σ = some st') : QTri l Z n0 ad m (pc, L, S, σ) v σ' := by
 have hd : decode (pBytes m) pc = .ok (.arraylength, 1) := pDecN hc rfl
 obtain ⟨a, S', n, rfl, hx1, rfl⟩ := qlen_inv hs
 refine QTri.stack h fun p e R s mid args below meth c T locs cells slots C target hx hZ hby hown X hR hL k => ?_
 have hd2 : decode c.code pc = .ok (.arraylength, 1) := by rw [hby]; exact hd
 rcases hx1 with ⟨ty, xs, hx1, rfl⟩ | ⟨xs, hx1, rfl⟩
 ·obtain ⟨cl, A, hsl⟩ := hR.2.2 _ _ hx1
  have e1 : cl.slots.size = xs.length := by rw [hsl]; simp
  rw [← e1] at k
  exact X.arraylength hx A.1 (State.isArrayOf_alike hZ.alike A.2.1) (g := mkF mid pc C (List.map (qv ad) (.ref a :: S'))) rfl rfl hd2 _ k
 ·obtain ⟨cl, A, hsl⟩ := hR.2.2 _ _ hx1
  have e1 : cl.slots.size = xs.length := by rw [hsl]; simp
  rw [← e1] at k
  exact X.arraylength hx A.1 (State.isArrayOf_alike hZ.alike A.2.1) (g := mkF mid pc C (List.map (qv ad) (.ref a :: S'))) rfl rfl hd2 _ k
set_option maxHeartbeats 4000000 in
theorem QTri.newObj (Ad : QAd n0 ad) (W : QW Z a0) {pc idx aux : Nat} {L : QLoc} {S : List Value} {σ : QHeap} (h : QTri l Z n0 ad m (pc + 3, L, .ref σ.length :: S, σ ++ [.inl cDef]) v σ') (hc : pCode m pc = some (.new idx, aux)) : QTri l Z n0 ad m (pc, L, S, σ) v σ' := by
 have hd : decode (pBytes m) pc = .ok (.new idx, 3) := pDecN hc rfl
 have hm := mem_of_contains (show lkN.contains (pK m, idx) = true from pRest hc)
 refine QTri.gen h (by simp) (by simp [qhs_app]) fun p e R s mid args below meth c T locs cells slots C hcx X hR hF hL hC hn hc1 hsl => ?_
 obtain ⟨hx, hZ, hby, hml, hret, hown, hnm, hfr, hlo⟩ := hcx
 have hd2 : decode c.code pc = .ok (.new idx, 3) := by rw [hby]; exact hd
 simp only [List.length_append, List.length_singleton, Nat.add_sub_cancel_left, qgrow, qsz] at hc1 hsl ⊢
 obtain ⟨T₁, h₁, X₁, e₁, E₁, A₁, D₁, -, st⟩ := newO X hx hZ hown (index := idx) (qw_nw W (pK m, idx) hm) ((qw_inst W)) ((qw_init W)) rfl (g := mkF mid pc C (S.map (qv ad))) rfl hd2 hc1 hsl
 have hsz : h₁.size = T.heap.size + 1 := by
  have q1 := X₁.heapSize
  have q2 : T.heap.size < h₁.size := A₁.lt
  have q3 : T.heap.size = n0 + (σ.length - k0) := hR.2.1
  rw [e₁] at q1
  have : n0 + (σ.length - k0) = s.heap.size + cells := hn
  omega
 refine ⟨T₁, locs, C, X₁, ?_, hF, hL, hC, fun target q => ?_⟩
 ·rw [e₁]
  refine QRep.push hR Ad E₁ hsz ⟨A₁, cDefL, fun k u hk hu => ?_⟩
  rw [cDefs k hk] at hu
  cases hu
  have e3 : qv ad (defaultValue (fTy k)) = defaultValue (fTy k) := by
   cases hq : defaultValue (fTy k) with
   | ref a => exact absurd hq (fDef k hk a)
   | _ => rfl
  rw [e3]
  exact D₁ (laid_of W hk) (fPrs k hk)
 ·refine st _ ?_
  have e2 : ad σ.length = T.heap.size := by rw [Ad.1 _ hR.1]; exact hR.2.1.symm
  simp only [List.map_cons, qv, e2] at q
  exact q
set_option maxHeartbeats 8000000 in
theorem QTri.step (Ad : QAd n0 ad) (W : QW Z a0) {st st' : QSt} (h : QTri l Z n0 ad m st' v σ') (hs : qstep m st = some st') : QTri l Z n0 ad m st v σ' := by
 obtain ⟨pc, L, S, σ⟩ := st
 unfold qstep at hs
 dsimp only at hs
 split at hs
 rotate_left
 ·cases hs
 rename_i i aux hc
 have hd := pDecN hc rfl
 have hr := pRest hc
 unfold qexec at hs
 split at hs
 ·-- aload_n
  obtain ⟨w, h1, h2, rfl⟩ := qload_inv hs
  obtain ⟨a, rfl⟩ := isR_inv h2
  exact QTri.stack h fun p e R s mid args below meth c T locs cells slots C target hx hZ hby hown X hR hL k => XS.aloadN X.here hx rfl (hb hby hd) (hL.2.1 _ _ h1) rfl k
 ·obtain ⟨w, h1, h2, rfl⟩ := qload_inv hs
  obtain ⟨a, rfl⟩ := isR_inv h2
  exact QTri.stack h fun p e R s mid args below meth c T locs cells slots C target hx hZ hby hown X hR hL k => XS.aload X.here hx rfl (hb hby hd) (hL.2.1 _ _ h1) rfl k
 ·obtain ⟨w, h1, h2, rfl⟩ := qload_inv hs
  obtain ⟨a, rfl⟩ := isI_inv h2
  exact QTri.stack h fun p e R s mid args below meth c T locs cells slots C target hx hZ hby hown X hR hL k => XS.iloadN X.here hx rfl (hb hby hd) (hL.2.1 _ _ h1) k
 ·obtain ⟨w, h1, h2, rfl⟩ := qload_inv hs
  obtain ⟨a, rfl⟩ := isI_inv h2
  exact QTri.stack h fun p e R s mid args below meth c T locs cells slots C target hx hZ hby hown X hR hL k => XS.iload X.here hx rfl (hb hby hd) (hL.2.1 _ _ h1) k
 ·obtain ⟨w, h1, h2, rfl⟩ := qload_inv hs
  obtain ⟨a, rfl⟩ := isJ_inv h2
  exact QTri.stack h fun p e R s mid args below meth c T locs cells slots C target hx hZ hby hown X hR hL k => XT.lloadN X.here hx rfl (hb hby hd) (hL.2.1 _ _ h1) k
 ·obtain ⟨w, h1, h2, rfl⟩ := qload_inv hs
  obtain ⟨a, rfl⟩ := isJ_inv h2
  exact QTri.stack h fun p e R s mid args below meth c T locs cells slots C target hx hZ hby hown X hR hL k => XT.lload X.here hx rfl (hb hby hd) (hL.2.1 _ _ h1) k
 ·cases hs -- iconst
  exact QTri.stack h fun p e R s mid args below meth c T locs cells slots C target hx hZ hby hown X hR hL k => XS.iconst X.here hx rfl (hb hby hd) k
 ·cases hs
  exact QTri.stack h fun p e R s mid args below meth c T locs cells slots C target hx hZ hby hown X hR hL k => XS.bipush X.here hx rfl (hb hby hd) k
 ·cases hs
  exact QTri.stack h fun p e R s mid args below meth c T locs cells slots C target hx hZ hby hown X hR hL k => XS.sipush X.here hx rfl (hb hby hd) k
 ·cases hs
  exact QTri.stack h fun p e R s mid args below meth c T locs cells slots C target hx hZ hby hown X hR hL k => XT.lconst X.here hx rfl (hb hby hd) k
 ·-- ldc
  unfold qldc at hs
  split at hs
  ·rename_i w hw
   cases hs
   obtain ⟨x, hx1, hx2⟩ := qw_cI W (pK m, _, aux) (mem_of_contains (show lkC.contains (pK m, _, aux) = true from hr))
   rw [show vget cK aux = some w from hw] at hx1
   cases hx1
   exact QTri.stack h fun p e R s mid args below meth c T locs cells slots C target hx hZ hby hown X hR hL k => X.ldcI hx hown (mv hZ hx2) rfl (hb hby hd) k
  ·cases hs
 ·unfold qldc at hs
  split at hs
  ·rename_i w hw
   cases hs
   obtain ⟨x, hx1, hx2⟩ := qw_cJ W (pK m, _, aux) (mem_of_contains (show lkD.contains (pK m, _, aux) = true from hr))
   rw [show vget cK aux = some w from hw] at hx1
   cases hx1
   exact QTri.stack h fun p e R s mid args below meth c T locs cells slots C target hx hZ hby hown X hR hL k => X.ldc2J hx hown (mv hZ hx2) rfl (hb hby hd) k
  ·cases hs
 ·-- istore_n
  obtain ⟨w, S', L', rfl, h2, h3, rfl⟩ := qstore_inv hs
  obtain ⟨a, rfl⟩ := isI_inv h2
  exact QTri.frame h fun p e R s mid args below meth c T locs cells slots C hcx X hR hL hC => by
   obtain ⟨D, d1, d2, d3⟩ := store_ok hL h3
   exact ⟨D, d2, d3.trans hC, fun target k => XS.istoreN X.here hcx.1 rfl (hb hcx.2.2.1 hd) rfl d1 k⟩
 ·obtain ⟨w, S', L', rfl, h2, h3, rfl⟩ := qstore_inv hs
  obtain ⟨a, rfl⟩ := isI_inv h2
  exact QTri.frame h fun p e R s mid args below meth c T locs cells slots C hcx X hR hL hC => by
   obtain ⟨D, d1, d2, d3⟩ := store_ok hL h3
   exact ⟨D, d2, d3.trans hC, fun target k => XS.istore X.here hcx.1 rfl (hb hcx.2.2.1 hd) rfl d1 k⟩
 ·obtain ⟨w, S', L', rfl, h2, h3, rfl⟩ := qstore_inv hs
  obtain ⟨a, rfl⟩ := isJ_inv h2
  exact QTri.frame h fun p e R s mid args below meth c T locs cells slots C hcx X hR hL hC => by
   obtain ⟨D, d1, d2, d3⟩ := store_ok hL h3
   exact ⟨D, d2, d3.trans hC, fun target k => XT.lstoreN X.here hcx.1 rfl (hb hcx.2.2.1 hd) rfl d1 k⟩
 ·obtain ⟨w, S', L', rfl, h2, h3, rfl⟩ := qstore_inv hs
  obtain ⟨a, rfl⟩ := isJ_inv h2
  exact QTri.frame h fun p e R s mid args below meth c T locs cells slots C hcx X hR hL hC => by
   obtain ⟨D, d1, d2, d3⟩ := store_ok hL h3
   exact ⟨D, d2, d3.trans hC, fun target k => XT.lstore X.here hcx.1 rfl (hb hcx.2.2.1 hd) rfl d1 k⟩
 ·obtain ⟨w, S', L', rfl, h2, h3, rfl⟩ := qstore_inv hs
  obtain ⟨a, rfl⟩ := isR_inv h2
  exact QTri.frame h fun p e R s mid args below meth c T locs cells slots C hcx X hR hL hC => by
   obtain ⟨D, d1, d2, d3⟩ := store_ok hL h3
   exact ⟨D, d2, d3.trans hC, fun target k => XS.astoreN X.here hcx.1 rfl (hb hcx.2.2.1 hd) rfl rfl d1 k⟩
 ·obtain ⟨w, S', L', rfl, h2, h3, rfl⟩ := qstore_inv hs
  obtain ⟨a, rfl⟩ := isR_inv h2
  exact QTri.frame h fun p e R s mid args below meth c T locs cells slots C hcx X hR hL hC => by
   obtain ⟨D, d1, d2, d3⟩ := store_ok hL h3
   exact ⟨D, d2, d3.trans hC, fun target k => XS.astore X.here hcx.1 rfl (hb hcx.2.2.1 hd) rfl rfl d1 k⟩
 ·-- iinc
  unfold qinc at hs
  split at hs
  ·rename_i x hx1
   split at hs
   ·rename_i L' hL'
    cases hs
    exact QTri.frame h fun p e R s mid args below meth c T locs cells slots C hcx X hR hL hC => by
     obtain ⟨D, d1, d2, d3⟩ := store_ok hL hL'
     exact ⟨D, d2, d3.trans hC, fun target k => XS.iinc X.here hcx.1 rfl (hb hcx.2.2.1 hd) (hL.2.1 _ _ hx1) d1 k⟩
   ·cases hs
  ·cases hs
 ·obtain ⟨x, y, S', rfl, rfl⟩ := qbin_inv hs -- iadd
  exact QTri.stack h fun p e R s mid args below meth c T locs cells slots C target hx hZ hby hown X hR hL k => XS.iadd X.here hx rfl (hb hby hd) rfl k
 ·obtain ⟨x, y, S', rfl, rfl⟩ := qbin_inv hs
  exact QTri.stack h fun p e R s mid args below meth c T locs cells slots C target hx hZ hby hown X hR hL k => XS.isub X.here hx rfl (hb hby hd) rfl k
 ·obtain ⟨x, y, S', rfl, rfl⟩ := qbin_inv hs
  exact QTri.stack h fun p e R s mid args below meth c T locs cells slots C target hx hZ hby hown X hR hL k => XS.imul X.here hx rfl (hb hby hd) rfl k
 ·obtain ⟨x, y, S', rfl, rfl⟩ := qbin_inv hs
  exact QTri.stack h fun p e R s mid args below meth c T locs cells slots C target hx hZ hby hown X hR hL k => XS.iand X.here hx rfl (hb hby hd) rfl k
 ·obtain ⟨x, y, S', rfl, rfl⟩ := qbin_inv hs
  exact QTri.stack h fun p e R s mid args below meth c T locs cells slots C target hx hZ hby hown X hR hL k => XT.ior X.here hx rfl (hb hby hd) rfl k
 ·obtain ⟨x, y, S', rfl, rfl⟩ := qbin_inv hs
  exact QTri.stack h fun p e R s mid args below meth c T locs cells slots C target hx hZ hby hown X hR hL k => XT.ixor X.here hx rfl (hb hby hd) rfl k
 ·obtain ⟨x, y, S', rfl, rfl⟩ := qbin_inv hs
  exact QTri.stack h fun p e R s mid args below meth c T locs cells slots C target hx hZ hby hown X hR hL k => XT.ishl X.here hx rfl (hb hby hd) rfl k
 ·obtain ⟨x, y, S', rfl, rfl⟩ := qbin_inv hs
  exact QTri.stack h fun p e R s mid args below meth c T locs cells slots C target hx hZ hby hown X hR hL k => XT.ishr X.here hx rfl (hb hby hd) rfl k
 ·obtain ⟨x, y, S', rfl, rfl⟩ := qbin_inv hs
  exact QTri.stack h fun p e R s mid args below meth c T locs cells slots C target hx hZ hby hown X hR hL k => XT.iushr X.here hx rfl (hb hby hd) rfl k
 ·obtain ⟨x, y, z, S', rfl, hz, rfl⟩ := qbino_inv hs -- idiv
  unfold qdiv at hz
  split at hz
  ·cases hz
  ·rename_i hy
   cases hz
   exact QTri.stack h fun p e R s mid args below meth c T locs cells slots C target hx hZ hby hown X hR hL k => XS.idiv X.here hx rfl (hb hby hd) rfl hy k
 ·obtain ⟨x, y, z, S', rfl, hz, rfl⟩ := qbino_inv hs
  unfold qrem at hz
  split at hz
  ·cases hz
  ·rename_i hy
   cases hz
   exact QTri.stack h fun p e R s mid args below meth c T locs cells slots C target hx hZ hby hown X hR hL k => iremM X hx rfl (hb hby hd) rfl hy k
 ·obtain ⟨x, S', rfl, rfl⟩ := quni_inv hs -- ineg
  exact QTri.stack h fun p e R s mid args below meth c T locs cells slots C target hx hZ hby hown X hR hL k => XS.ineg X.here hx rfl (hb hby hd) rfl k
 ·obtain ⟨x, S', rfl, rfl⟩ := quni_inv hs
  exact QTri.stack h fun p e R s mid args below meth c T locs cells slots C target hx hZ hby hown X hR hL k => XT.i2l X.here hx rfl (hb hby hd) rfl k
 ·obtain ⟨x, S', rfl, rfl⟩ := quni_inv hs
  exact QTri.stack h fun p e R s mid args below meth c T locs cells slots C target hx hZ hby hown X hR hL k => XT.i2b X.here hx rfl (hb hby hd) rfl k
 ·obtain ⟨x, S', rfl, rfl⟩ := quniJ_inv hs
  exact QTri.stack h fun p e R s mid args below meth c T locs cells slots C target hx hZ hby hown X hR hL k => XT.l2i X.here hx rfl (hb hby hd) rfl k
 ·obtain ⟨x, S', rfl, rfl⟩ := quniJ_inv hs
  exact QTri.stack h fun p e R s mid args below meth c T locs cells slots C target hx hZ hby hown X hR hL k => XT.lneg X.here hx rfl (hb hby hd) rfl k
 ·obtain ⟨x, y, S', rfl, rfl⟩ := qbinJ_inv hs
  exact QTri.stack h fun p e R s mid args below meth c T locs cells slots C target hx hZ hby hown X hR hL k => XT.ladd X.here hx rfl (hb hby hd) rfl k
 ·obtain ⟨x, y, S', rfl, rfl⟩ := qbinJ_inv hs
  exact QTri.stack h fun p e R s mid args below meth c T locs cells slots C target hx hZ hby hown X hR hL k => XT.lsub X.here hx rfl (hb hby hd) rfl k
 ·obtain ⟨x, y, S', rfl, rfl⟩ := qbinJ_inv hs
  exact QTri.stack h fun p e R s mid args below meth c T locs cells slots C target hx hZ hby hown X hR hL k => XT.lmul X.here hx rfl (hb hby hd) rfl k
 ·obtain ⟨x, y, S', rfl, rfl⟩ := qbinJ_inv hs
  exact QTri.stack h fun p e R s mid args below meth c T locs cells slots C target hx hZ hby hown X hR hL k => XT.land X.here hx rfl (hb hby hd) rfl k
 ·obtain ⟨x, y, S', rfl, rfl⟩ := qbinJ_inv hs
  exact QTri.stack h fun p e R s mid args below meth c T locs cells slots C target hx hZ hby hown X hR hL k => XT.lor X.here hx rfl (hb hby hd) rfl k
 ·obtain ⟨x, y, S', rfl, rfl⟩ := qbinJ_inv hs
  exact QTri.stack h fun p e R s mid args below meth c T locs cells slots C target hx hZ hby hown X hR hL k => XT.lxor X.here hx rfl (hb hby hd) rfl k
 ·obtain ⟨x, y, S', rfl, rfl⟩ := qshJ_inv hs
  exact QTri.stack h fun p e R s mid args below meth c T locs cells slots C target hx hZ hby hown X hR hL k => XT.lshl X.here hx rfl (hb hby hd) rfl k
 ·obtain ⟨x, y, S', rfl, rfl⟩ := qshJ_inv hs
  exact QTri.stack h fun p e R s mid args below meth c T locs cells slots C target hx hZ hby hown X hR hL k => XT.lshr X.here hx rfl (hb hby hd) rfl k
 ·obtain ⟨x, y, S', rfl, rfl⟩ := qshJ_inv hs
  exact QTri.stack h fun p e R s mid args below meth c T locs cells slots C target hx hZ hby hown X hR hL k => XT.lushr X.here hx rfl (hb hby hd) rfl k
 ·split at hs -- lcmp
  ·cases hs
   exact QTri.stack h fun p e R s mid args below meth c T locs cells slots C target hx hZ hby hown X hR hL k => XT.lcmp X.here hx rfl (hb hby hd) rfl k
  ·cases hs
 ·cases hs -- goto
  obtain ⟨t1, t2⟩ := qtgt_spec hr
  exact QTri.stack h fun p e R s mid args below meth c T locs cells slots C target hx hZ hby hown X hR hL k => XS.goto X.here hx rfl rfl (hb hby hd) t1 t2 k
 ·obtain ⟨x, S', rfl, rfl⟩ := qif_inv hs
  obtain ⟨t1, t2⟩ := qtgt_spec hr
  cases hh : ifCond.holds _ x with
  | true => rw [hh] at h; exact QTri.stack h fun p e R s mid args below meth c T locs cells slots C target hx hZ hby hown X hR hL k => XS.ifYes X.here hx rfl rfl (hb hby hd) rfl hh t1 t2 k
  | false => rw [hh] at h; exact QTri.stack h fun p e R s mid args below meth c T locs cells slots C target hx hZ hby hown X hR hL k => XS.ifNo X.here hx rfl (hb hby hd) rfl hh k
 ·obtain ⟨x, y, S', rfl, rfl⟩ := qicmp_inv hs
  obtain ⟨t1, t2⟩ := qtgt_spec hr
  cases hh : if_icmp.holds _ x y with
  | true => rw [hh] at h; exact QTri.stack h fun p e R s mid args below meth c T locs cells slots C target hx hZ hby hown X hR hL k => XS.icmpYes X.here hx rfl rfl (hb hby hd) rfl hh t1 t2 k
  | false => rw [hh] at h; exact QTri.stack h fun p e R s mid args below meth c T locs cells slots C target hx hZ hby hown X hR hL k => XS.icmpNo X.here hx rfl (hb hby hd) rfl hh k
 ·unfold qdup at hs
  split at hs
  ·cases hs
   exact QTri.stack h fun p e R s mid args below meth c T locs cells slots C target hx hZ hby hown X hR hL k => XS.dup X.here hx rfl (hb hby hd) rfl rfl k
  ·cases hs
   exact QTri.stack h fun p e R s mid args below meth c T locs cells slots C target hx hZ hby hown X hR hL k => XS.dup X.here hx rfl (hb hby hd) rfl rfl k
  ·cases hs
 ·unfold qdup2 at hs
  split at hs
  ·cases hs
   exact QTri.stack h fun p e R s mid args below meth c T locs cells slots C target hx hZ hby hown X hR hL k => XT.dup2 X.here hx rfl (hb hby hd) rfl rfl rfl k
  ·cases hs
   exact QTri.stack h fun p e R s mid args below meth c T locs cells slots C target hx hZ hby hown X hR hL k => XT.dup2 X.here hx rfl (hb hby hd) rfl rfl rfl k
  ·cases hs
   exact QTri.stack h fun p e R s mid args below meth c T locs cells slots C target hx hZ hby hown X hR hL k => XT.dup2L X.here hx rfl (hb hby hd) rfl k
  ·cases hs
 ·unfold qpop at hs
  split at hs
  ·cases hs
   exact QTri.stack h fun p e R s mid args below meth c T locs cells slots C target hx hZ hby hown X hR hL k => XT.pop X.here hx rfl (hb hby hd) rfl rfl k
  ·cases hs
   exact QTri.stack h fun p e R s mid args below meth c T locs cells slots C target hx hZ hby hown X hR hL k => XT.pop X.here hx rfl (hb hby hd) rfl rfl k
  ·cases hs
 ·exact QTri.getfield W h hc hs
 ·exact QTri.putfield Ad W h hc hs
 ·exact QTri.iaload h hc hs
 ·exact QTri.baload h hc hs
 ·exact QTri.laload h hc hs
 ·exact QTri.iastore Ad h hc hs
 ·exact QTri.bastore Ad h hc hs
 ·exact QTri.lastore Ad h hc hs
 ·exact QTri.alen h hc hs
 ·-- newarray
  unfold qnewA at hs
  split at hs
  ·split at hs
   ·obtain ⟨k, hk, hs⟩ := Option.bind_eq_some_iff.mp hs
    cases hs
    exact QTri.newArr (c := .inr (.inl (.int, List.replicate k 0))) Ad W hk hc (by simp [qsz]) (fun h' a cA A => ⟨_, A, by simp [newA, (qnew_inv hk).2.1]; exact Or.inr rfl⟩) h
   ·obtain ⟨k, hk, hs⟩ := Option.bind_eq_some_iff.mp hs
    cases hs
    exact QTri.newArr (c := .inr (.inl (.boolean, List.replicate k 0))) Ad W hk hc (by simp [qsz]) (fun h' a cA A => ⟨_, A, by simp [newA, (qnew_inv hk).2.1]; exact Or.inr rfl⟩) h
   ·obtain ⟨k, hk, hs⟩ := Option.bind_eq_some_iff.mp hs
    cases hs
    exact QTri.newArr (c := .inr (.inl (.byte, List.replicate k 0))) Ad W hk hc (by simp [qsz]) (fun h' a cA A => ⟨_, A, by simp [newA, (qnew_inv hk).2.1]; exact Or.inr rfl⟩) h
   ·obtain ⟨k, hk, hs⟩ := Option.bind_eq_some_iff.mp hs
    cases hs
    exact QTri.newArr (c := .inr (.inr (List.replicate k 0))) Ad W hk hc (by simp [qsz]) (fun h' a cA A => ⟨_, A, by simp [newA, (qnew_inv hk).2.1]; exact Or.inr rfl⟩) h
   ·cases hs
  ·cases hs
 ·cases hs; exact QTri.newObj Ad W h hc
 ·cases hs
theorem QTri.steps (Ad : QAd n0 ad) (W : QW Z a0) : ∀ (n : Nat) {st st' : QSt}, qsteps m n st = some st' → QTri l Z n0 ad m st' v σ' → QTri l Z n0 ad m st v σ'
 | 0, st, st', h, k => by cases h; exact k
 | n + 1, st, st', h, k => by
  simp only [qsteps] at h
  split at h
  ·rename_i st₁ h1
   exact QTri.step Ad W (QTri.steps Ad W n h k) h1
  ·cases h
def lmask : List Bool → QLoc → QLoc
 | b :: t, x :: u => (bif b then x else none) :: lmask t u
 | _, L => L.map fun _ => none
theorem lmask_len : ∀ (b : List Bool) (L : QLoc), (lmask b L).length = L.length
 | [], L => by simp [lmask]
 | _ :: _, [] => by simp [lmask]
 | _ :: t, _ :: u => by simp [lmask, lmask_len t u]
theorem lmask_get : ∀ (b : List Bool) (L : QLoc) (k : Nat) (v : Value), lget (lmask b L) k = some v → lget L k = some v
 | [], L, k, v, h => by
  simp only [lmask, lget_eq, List.getElem?_map] at h
  cases hq : L[k]? <;> simp [hq] at h
 | _ :: _, [], k, v, h => by simp [lmask, lget] at h
 | b :: t, x :: u, 0, v, h => by
  simp only [lmask, lget] at h ⊢
  cases b
  ·cases h
  ·exact h
 | b :: t, x :: u, k + 1, v, h => by
  simp only [lmask, lget] at h ⊢
  exact lmask_get t u k v h
theorem QTri.mask {pc : Nat} {L : QLoc} {S : List Value} {σ : QHeap} (b : List Bool) (h : QTri l Z n0 ad m (pc, lmask b L, S, σ) v σ') : QTri l Z n0 ad m (pc, L, S, σ) v σ' :=
 QTri.frame h fun p e R s mid args below meth c T locs cells slots C hcx X hR hL hC => ⟨C, ⟨by rw [lmask_len]; exact hL.1, fun k u hk => hL.2.1 k u (lmask_get b L k u hk), hL.2.2⟩, hC, fun target k => k⟩
theorem QTri.ret0 {pc aux : Nat} {L : QLoc} {σ : QHeap} (hc : pCode m pc = some (.return_, aux)) (hr : pRet m = none) : QTri l Z n0 ad m (pc, L, [], σ) none σ :=
 have hd : decode (pBytes m) pc = .ok (.return_, 1) := pDecN hc rfl
 ⟨Nat.le_refl _, Nat.le_refl _, fun p e R s mid args below meth c T locs cells slots C hcx X hR hF hL hC hn hc1 hsl => ⟨T, locs, by simpa using X, hR, hF, fun fs hf => X.returnOut hcx.1 (hcx.2.2.2.2.1.trans hr) (hb hcx.2.2.1 hd) hf⟩⟩
theorem QTri.retI {pc aux : Nat} {L : QLoc} {S : List Value} {σ : QHeap} {x : Int32} (hc : pCode m pc = some (.ireturn, aux)) (hr : pRet m = some .int) : QTri l Z n0 ad m (pc, L, .int x :: S, σ) (some (.int x)) σ :=
 have hd : decode (pBytes m) pc = .ok (.ireturn, 1) := pDecN hc rfl
 ⟨Nat.le_refl _, Nat.le_refl _, fun p e R s mid args below meth c T locs cells slots C hcx X hR hF hL hC hn hc1 hsl => ⟨T, locs, by simpa using X, hR, hF, fun fs hf => Jvm.RoadKit.retI X hcx.1 (hcx.2.2.2.2.1.trans hr) (hb hcx.2.2.1 hd) hf⟩⟩
theorem QTri.retZ {pc aux : Nat} {L : QLoc} {S : List Value} {σ : QHeap} {x : Int32} (hc : pCode m pc = some (.ireturn, aux)) (hr : pRet m = some .boolean) : QTri l Z n0 ad m (pc, L, .int x :: S, σ) (some (.int (x &&& 1))) σ :=
 have hd : decode (pBytes m) pc = .ok (.ireturn, 1) := pDecN hc rfl
 ⟨Nat.le_refl _, Nat.le_refl _, fun p e R s mid args below meth c T locs cells slots C hcx X hR hF hL hC hn hc1 hsl => ⟨T, locs, by simpa using X, hR, hF, fun fs hf => retN X hcx.1 (t := .boolean) (hcx.2.2.2.2.1.trans hr) (by simp) (hb hcx.2.2.1 hd) hf⟩⟩
theorem QTri.retJ {pc aux : Nat} {L : QLoc} {S : List Value} {σ : QHeap} {x : Int64} (hc : pCode m pc = some (.lreturn, aux)) (hr : pRet m = some .long) : QTri l Z n0 ad m (pc, L, .long x :: S, σ) (some (.long x)) σ :=
 have hd : decode (pBytes m) pc = .ok (.lreturn, 1) := pDecN hc rfl
 ⟨Nat.le_refl _, Nat.le_refl _, fun p e R s mid args below meth c T locs cells slots C hcx X hR hF hL hC hn hc1 hsl => ⟨T, locs, by simpa using X, hR, hF, fun fs hf => retOut X hcx.1 (t := .long) (hcx.2.2.2.2.1.trans hr) rfl (Or.inr (Or.inl ⟨rfl, rfl, _, rfl⟩)) (hb hcx.2.2.1 hd) hf⟩⟩
def LOk (ad : Nat → Addr) (L : QLoc) (C : List Slot) : Prop :=
 L.length = C.length ∧ (∀ k v, lget L k = some v → C[k]? = some (.val (qv ad v))) ∧ (∀ k w, C[k]? = some (.val w) → w.category = 2 → C[k + 1]? = some .second) ∧ ∀ k, C[k]? = some .second → ∃ j w, k = j + 1 ∧ C[j]? = some (.val w) ∧ w.category = 2
theorem LOk.base (ad : Nat → Addr) (n : Nat) : LOk ad (List.replicate n none) (List.replicate n .unset) := by
 refine ⟨by simp, fun k u h => ?_, fun k w h => ?_, fun k h => ?_⟩
 ·rw [lget_eq] at h
  rcases Nat.lt_or_ge k n with q | q
  ·simp [List.getElem?_replicate, q] at h
  ·simp [List.getElem?_eq_none, q] at h
 ·rcases Nat.lt_or_ge k n with q | q
  ·simp [List.getElem?_replicate, q] at h
  ·simp [List.getElem?_eq_none, q] at h
 ·rcases Nat.lt_or_ge k n with q | q
  ·simp [List.getElem?_replicate, q] at h
  ·simp [List.getElem?_eq_none, q] at h
theorem LOk.one {L : QLoc} {C : List Slot} (H : LOk ad L C) {u : Value} (hu : u.category = 1) : LOk ad (some u :: L) (.val (qv ad u) :: C) := by
 obtain ⟨h1, h2, h3, h4⟩ := H
 refine ⟨by simp [h1], fun k w h => ?_, fun k w h hw => ?_, fun k h => ?_⟩
 ·cases k with
  | zero => simp only [lget] at h; cases h; simp
  | succ k => simp only [lget] at h; simpa using h2 k w h
 ·cases k with
  | zero => simp at h; rw [← h, qv_cat, hu] at hw; cases hw
  | succ k => simpa using h3 k w (by simpa using h) hw
 ·cases k with
  | zero => simp at h
  | succ k =>
   obtain ⟨j, w, z1, z2, z3⟩ := h4 k (by simpa using h)
   exact ⟨j + 1, w, by omega, by simpa using z2, z3⟩
theorem LOk.two {L : QLoc} {C : List Slot} (H : LOk ad L C) {u : Value} (hu : u.category = 2) : LOk ad (some u :: none :: L) (.val (qv ad u) :: .second :: C) := by
 obtain ⟨h1, h2, h3, h4⟩ := H
 refine ⟨by simp [h1], fun k w h => ?_, fun k w h hw => ?_, fun k h => ?_⟩
 ·rcases k with _ | _ | k
  ·simp only [lget] at h; cases h; simp
  ·simp [lget] at h
  ·simp only [lget] at h; simpa using h2 k w h
 ·rcases k with _ | _ | k
  ·simp
  ·simp at h
  ·simpa using h3 k w (by simpa using h) hw
 ·rcases k with _ | _ | k
  ·simp at h
  ·exact ⟨0, qv ad u, rfl, by simp, by rw [qv_cat]; exact hu⟩
  ·obtain ⟨j, w, z1, z2, z3⟩ := h4 k (by simpa using h)
   exact ⟨j + 2, w, by omega, by simpa using z2, z3⟩
def slotsOf (u : Value) : List Slot := if u.category = 2 then [.val u, .second] else [.val u]
theorem fold_slots : ∀ (as : List Value) (acc : Array Slot), (as.foldl (fun acc v => if v.category = 2 then (acc.push (.val v)).push .second else acc.push (.val v)) acc).toList = acc.toList ++ as.flatMap slotsOf
 | [], acc => by simp
 | u :: t, acc => by
  rw [List.foldl_cons, fold_slots t]
  by_cases hc : u.category = 2 <;> simp [slotsOf, hc]
theorem slots_len : ∀ (as : List Value), (as.flatMap slotsOf).length = (as.map fun v => v.category).sum
 | [] => rfl
 | u :: t => by
  rw [List.flatMap_cons, List.length_append, slots_len t, List.map_cons, List.sum_cons]
  cases u <;> simp [slotsOf, Value.category]
theorem cats_qv (as : List Value) : ((as.map (qv ad)).map fun v => v.category).sum = (as.map fun v => v.category).sum := by
 rw [List.map_map]
 congr 1
 exact List.map_congr_left fun x _ => qv_cat ad x
theorem entry_list : ∀ (as : List Value) (n : Nat), LOk ad ((as.flatMap fun v => match v with | .long x => [some (.long x), none] | .double x => [some (.double x), none] | v => [some v]) ++ List.replicate n none) ((as.map (qv ad)).flatMap slotsOf ++ List.replicate n .unset)
 | [], n => by simpa using LOk.base ad n
 | u :: t, n => by
  have ih := entry_list t n
  cases u with
  | long x => exact LOk.two ih rfl
  | double x => exact LOk.two ih rfl
  | int x => exact LOk.one ih rfl
  | float x => exact LOk.one ih rfl
  | null => exact LOk.one ih rfl
  | ref x => exact LOk.one ih rfl
  | retAddr x => exact LOk.one ih rfl
theorem qentry_ok (as : List Value) (mx : Nat) (h : (as.map fun v => v.category).sum ≤ mx) : QLocOk ad (qentry as mx) (argsToLocals (as.map (qv ad)).toArray mx) ∧ (argsToLocals (as.map (qv ad)).toArray mx).size = mx := by
 have e : (argsToLocals (as.map (qv ad)).toArray mx).toList = (as.map (qv ad)).flatMap slotsOf ++ List.replicate (mx - (as.map fun v => v.category).sum) .unset := by
  unfold argsToLocals
  have q := fold_slots (as.map (qv ad)) #[]
  simp only [List.foldl_toArray', Array.toList_append, Array.toList_replicate]
  have q2 : ((as.map (qv ad)).foldl (fun (acc : Array Slot) (v : Value) => if v.category = 2 then (acc.push (.val v)).push .second else acc.push (.val v)) #[]).size = (as.map fun v => v.category).sum := by
   rw [← Array.length_toList, q]
   simp only [List.nil_append]
   rw [slots_len, cats_qv]
  rw [q, q2]
  simp
 have H := entry_list (ad := ad) as (mx - (as.map fun v => v.category).sum)
 rw [← e] at H
 obtain ⟨h1, h2, h3, h4⟩ := H
 have hs : (argsToLocals (as.map (qv ad)).toArray mx).size = mx := by
  rw [← Array.length_toList, e, List.length_append, slots_len, cats_qv, List.length_replicate]
  omega
 refine ⟨⟨h1.trans Array.length_toList, fun k u hk => ?_, fun k w hk hw => ?_, fun k hk => ?_⟩, hs⟩
 ·have := h2 k u hk; rwa [Array.getElem?_toList] at this
 ·have := h3 k w (by rw [Array.getElem?_toList]; exact hk) hw; rwa [Array.getElem?_toList] at this
 ·obtain ⟨j, w, z1, z2, z3⟩ := h4 k (by rw [Array.getElem?_toList]; exact hk)
  exact ⟨j, w, z1, by rwa [Array.getElem?_toList] at z2, z3⟩
set_option maxHeartbeats 4000000 in
theorem QTri.met {k : Nat} {as : List Value} {σ σ₁ : QHeap} {w : Option Value} {h0 : Heap} (hk : k < pN) (h : QTri l Z n0 ad k (0, qentry as (pMaxL k), [], σ) w σ₁) (hR : QRep Z n0 ad h0 σ) (hlen : (as.map fun v => v.category).sum ≤ pMaxL k) (hret : pRet k = none → w = none) (ws : List Jvm.Cond) {rm : Room}
  (r1 : pFr k ≤ rm.frames) (r2 : pLo k ≤ rm.locals) (r3 : σ₁.length - σ.length ≤ rm.cells) (r4 : qhs σ₁ - qhs σ ≤ rm.slots) :
  MetFree l (pName k) (head1 (Jvm.Cond.code (pName k) (pBytes k) (pMaxL k) (pRet k) :: ws) rm) (fun a U => a = (as.map (qv ad)).toArray ∧ Z.Warmed39 U.vm ∧ U.heap = h0) (fun _ _ _ _ _ => True)
   (fun _ U o U' => ∃ v L, o = .returned v ∧ (v = w.map (qv ad) ∧ QRep Z n0 ad U'.heap σ₁ ∧ Fr n0 L) ∧ FrameEnd U o U' L (σ₁.length - σ.length) (qhs σ₁ - qhs σ)) := by
 refine MetFree.of_bodySF (plainFor_of_name (kPlain _ (pKlt k hk))) hisR ?_
 intro p e s mid args below meth c s₁ Bd hml0 hP hK
 obtain ⟨rfl, hZ, hh⟩ := hP
 have e0 : s₁.heap = h0 := by rw [← hh, Bd.state]; rfl
 obtain ⟨hl1, hl2⟩ := qentry_ok (ad := ad) as (pMaxL k) hlen
 have hX : Stand p l e rm s mid (as.map (qv ad)).toArray below meth c s₁ [] 0 0 := Stand.of_body Bd
 obtain ⟨T', locs', X', R', F', S'⟩ := h.2.2 p e rm s mid _ below meth c s₁ [] 0 0 _ ⟨Bd.exec, hZ, Bd.bytes, hml0, Bd.returns, findClass_of_methodNamed Bd.named, (name_of_methodNamed Bd.named Bd.method).1, r1, r2⟩ hX (by rw [e0]; exact hR) (Fr.nil _) hl1 (hl2.trans hml0.symm) (by rw [hh, Nat.add_zero]; exact hR.2.1.symm) (by rw [Nat.zero_add]; exact r3) (by rw [Nat.zero_add]; exact r4)
 obtain ⟨fs, hr, hrun, hended, hW, hsame⟩ := X'.leave (v := w.map (qv ad)) (fun q => by rw [hret (Bd.returns.symm.trans q)]; rfl)
 refine ⟨_, _, S' fs hr, hrun, hended, _, _, rfl, ⟨rfl, R', F'⟩, ⟨_, rfl⟩, hW, ?_⟩
 simp only [Nat.zero_add] at hsame
 exact hsame
theorem QTri.room {k : Nat} {σ σ₁ : QHeap} {rest : List Value} {R : Room} (hroom : (Nat.ble (pFr k + 1) (pFr m) && Nat.ble ((rest.map fun v => v.category).sum + (pMaxL k + 11) + pLo k) (pLo m)) = true) (hfr : pFr m ≤ R.frames) (hlo : pLo m ≤ R.locals) :
  pFr k + 1 ≤ R.frames ∧ (rest.map fun v => v.category).sum + (pMaxL k + 11) + pLo k ≤ R.locals := by
 obtain ⟨q1, q2⟩ := Bool.and_eq_true_iff.mp hroom
 exact ⟨Nat.le_trans (Nat.le_of_ble_eq_true q1) hfr, Nat.le_trans (Nat.le_of_ble_eq_true q2) hlo⟩
theorem sig_len {k : Nat} (hk : k < pN) {as : List Value} (hna : as.length = pNA k) : ∀ sig, parseMethodDescriptor (pName k).desc = some sig → (as.map (qv ad)).length = sig.parameters.length := fun sig hs => by
 have q := pSig k hk
 rw [show parseMethodDescriptor (pDs k) = some sig from hs] at q
 simp at q
 simp [hna, q]
theorem ret_map (w : Option Value) (rest : List Value) : (w.toList ++ rest).map (qv ad) = (w.map (qv ad)).toList ++ rest.map (qv ad) := by cases w <;> simp
theorem QTri.after {as0 : List Value} {pc : Nat} {L : QLoc} {S rest : List Value} {σ σ₁ : QHeap} {w : Option Value} {k : Nat} (hcal : QTri l Z n0 ad k (0, qentry as0 (pMaxL k), [], σ) w σ₁) (h : QTri l Z n0 ad m (pc + 3, L, w.toList ++ rest, σ₁) v σ')
  (hs : ∀ (p : Program) (e : Env) (R : Room) (s : State) (mid : MethodId) (args : Array Value) (below : List Frame) (meth : Method) (c : Code) (T : State) (locs : List Loc) (cells slots : Nat) (C : Array Slot),
   QCx Z p R s mid meth c m → Stand p l e R s mid args below meth c T locs cells slots → QRep Z n0 ad T.heap σ → C.size = c.maxLocals → cells + (σ₁.length - σ.length) ≤ R.cells → slots + (qhs σ₁ - qhs σ) ≤ R.slots →
   ∃ T₁ Lc, Stand p l e R s mid args below meth c T₁ (locs ++ Lc) (cells + (σ₁.length - σ.length)) (slots + (qhs σ₁ - qhs σ)) ∧ QRep Z n0 ad T₁.heap σ₁ ∧ Fr n0 Lc ∧
    ∀ target, Steps p.tables e below (T₁.setTop (mkF mid (pc + 3) C ((w.map (qv ad)).toList ++ rest.map (qv ad)))) target → Steps p.tables e below (T.setTop (mkF mid pc C (S.map (qv ad)))) target) :
  QTri l Z n0 ad m (pc, L, S, σ) v σ' := by
 refine QTri.gen h hcal.1 hcal.2.1 fun p e R s mid args below meth c T locs cells slots C hcx X hR hF hL hC hn hc1 hsl => ?_
 obtain ⟨T₁, Lc, X₁, R₁, F₁, st⟩ := hs p e R s mid args below meth c T locs cells slots C hcx X hR hC hc1 hsl
 refine ⟨T₁, locs ++ Lc, C, X₁, R₁, hF.app F₁, hL, hC, fun target q => st target ?_⟩
 rw [← ret_map]
 exact q
set_option maxHeartbeats 4000000 in
theorem QTri.callV (W : QW Z a0) {pc idx k a : Nat} {L : QLoc} {S as rest vs : List Value} {σ σ₁ : QHeap} {w : Option Value} (hc : pCode m pc = some (.invokevirtual idx, k)) (hm : (lkV.contains (pK m, idx, k) && mV.contains k) = true) (hcell : hget σ a = some (.inl vs)) (hS : S = as.reverse ++ .ref a :: rest)
  (hna : as.length = pNA k) (hlen : Nat.ble (((Value.ref a :: as).map fun v => v.category).sum) (pMaxL k) = true) (hroom : (Nat.ble (pFr k + 1) (pFr m) && Nat.ble ((rest.map fun v => v.category).sum + (pMaxL k + 11) + pLo k) (pLo m)) = true) (hrb : (w.isNone || (pRet k).isSome) = true)
  (hcal : QTri l Z n0 ad k (0, qentry (.ref a :: as) (pMaxL k), [], σ) w σ₁) (h : QTri l Z n0 ad m (pc + 3, L, w.toList ++ rest, σ₁) v σ') : QTri l Z n0 ad m (pc, L, S, σ) v σ' := by
 have hd : decode (pBytes m) pc = .ok (.invokevirtual idx, 3) := pDecN hc rfl
 subst hS
 obtain ⟨m1, m2⟩ := Bool.and_eq_true_iff.mp hm
 have m1 := mem_of_contains m1
 have m2 := mem_of_contains m2
 have hkA := (mVlt k m2).1
 have hkN := mAlt k hkA
 have hret : pRet k = none → w = none := fun q => by
  rw [q] at hrb
  cases w with
  | none => rfl
  | some w => simp at hrb
 refine QTri.after hcal h fun p e R s mid args below meth c T locs cells slots C hcx X hR hC hc1 hsl => ?_
 obtain ⟨hx, hZ, hby, hml, hret', hown, hnm, hfr, hlo⟩ := hcx
 have hd2 : decode c.code pc = .ok (.invokevirtual idx, 3) := by rw [hby]; exact hd
 obtain ⟨f1, f2⟩ := QTri.room (σ := σ) (σ₁ := σ₁) hroom hfr hlo
 obtain ⟨cq, kq, q1, q2, q3⟩ := isOf hZ rfl (hR.2.2 _ _ hcell).1
 obtain ⟨w1, w2, w3⟩ := (qw_vi W) k m2
 obtain ⟨c1, c2⟩ := (qw_cod W) k hkA
 obtain ⟨_, _, ⟨T₁, L₁, k₁, n₁⟩, -, X₁, ⟨Lc, ⟨rfl, hR1, hF1⟩, l₁, y₁, z₁⟩, st⟩ := X.virtualBack hx (own := kName (pK m)) (index := idx) (y := pName k) (z := pName k) hown (mvT hZ (qw_ml W (pK m, idx, k) m1)) (mvT hZ w1) (notFace_of_selects (args := #[]) (mvT hZ w2)) (mvT hZ w2) (mvT hZ w3) (pOwn _ (pKlt k hkN))
  (backOf (W := (rest.map fun v => v.category).sum) (rm := ⟨pFr k, σ₁.length - σ.length, qhs σ₁ - qhs σ, pLo k⟩) (Q := fun v h L => v = Option.map (qv ad) w ∧ QRep Z n0 ad h σ₁ ∧ Fr n0 L) (QTri.met hkN hcal hR (Nat.le_of_ble_eq_true hlen) hret [] (Nat.le_refl _) (Nat.le_refl _) (Nat.le_refl _) (Nat.le_refl _)) hZ c1 c2 f1 f2) q1 q3 (g := mkF mid pc C (List.map (qv ad) (as.reverse ++ .ref a :: rest))) rfl hC (Steps.refl _) (argsL := as.map (qv ad)) (rest := rest.map (qv ad)) (sig_len hkN hna) (by simp [qv]) (by show 2 * 0 + _ ≤ _; rw [cats_qv]; omega) hd2 (fun _ _ => ⟨rfl, rfl, hc1, hsl⟩)
 dsimp only [Pt.U, Pt.locs, Pt.cells, Pt.slots] at X₁ l₁ y₁ z₁ st hR1
 subst l₁ y₁ z₁
 exact ⟨T₁, Lc, X₁, hR1, hF1, fun target q => st.trans q⟩
set_option maxHeartbeats 4000000 in
theorem QTri.callI (W : QW Z a0) {pc idx k a : Nat} {L : QLoc} {S as rest : List Value} {σ σ₁ : QHeap} (hc : pCode m pc = some (.invokespecial idx, k)) (hm : (lkV.contains (pK m, idx, k) && mI.contains k) = true) (hS : S = as.reverse ++ .ref a :: rest)
  (hna : as.length = pNA k) (hlen : Nat.ble (((Value.ref a :: as).map fun v => v.category).sum) (pMaxL k) = true) (hroom : (Nat.ble (pFr k + 1) (pFr m) && Nat.ble ((rest.map fun v => v.category).sum + (pMaxL k + 11) + pLo k) (pLo m)) = true)
  (hcal : QTri l Z n0 ad k (0, qentry (.ref a :: as) (pMaxL k), [], σ) none σ₁) (h : QTri l Z n0 ad m (pc + 3, L, rest, σ₁) v σ') : QTri l Z n0 ad m (pc, L, S, σ) v σ' := by
 have hd : decode (pBytes m) pc = .ok (.invokespecial idx, 3) := pDecN hc rfl
 subst hS
 obtain ⟨m1, m2⟩ := Bool.and_eq_true_iff.mp hm
 have m1 := mem_of_contains m1
 have m2 := mem_of_contains m2
 obtain ⟨hkA, -, hin, hrt⟩ := mIlt k m2
 have hkN := mAlt k hkA
 refine QTri.after (w := none) hcal h fun p e R s mid args below meth c T locs cells slots C hcx X hR hC hc1 hsl => ?_
 obtain ⟨hx, hZ, hby, hml, hret', hown, hnm, hfr, hlo⟩ := hcx
 have hd2 : decode c.code pc = .ok (.invokespecial idx, 3) := by rw [hby]; exact hd
 obtain ⟨f1, f2⟩ := QTri.room (σ := σ) (σ₁ := σ₁) hroom hfr hlo
 obtain ⟨c1, c2⟩ := (qw_cod W) k hkA
 have c1' := c1
 rw [hrt] at c1'
 obtain ⟨_, _, ⟨T₁, L₁, k₁, n₁⟩, -, X₁, ⟨Lc, ⟨rfl, hR1, hF1⟩, l₁, y₁, z₁⟩, st⟩ := X.specialBack hx (own := kName (pK m)) (index := idx) (y := pName k) hin hown (mvT hZ (qw_ml W (pK m, idx, k) m1)) (mvT hZ ((qw_ini W) k m2)) (mvT hZ c1') (pOwn _ (pKlt k hkN))
  (backOf (W := (rest.map fun v => v.category).sum) (rm := ⟨pFr k, σ₁.length - σ.length, qhs σ₁ - qhs σ, pLo k⟩) (Q := fun v h L => v = Option.map (qv ad) none ∧ QRep Z n0 ad h σ₁ ∧ Fr n0 L) (QTri.met hkN hcal hR (Nat.le_of_ble_eq_true hlen) (fun _ => rfl) [] (Nat.le_refl _) (Nat.le_refl _) (Nat.le_refl _) (Nat.le_refl _)) hZ c1 c2 f1 f2) (g := mkF mid pc C (List.map (qv ad) (as.reverse ++ .ref a :: rest))) rfl hC (Steps.refl _) (a := ad a) (argsL := as.map (qv ad)) (rest := rest.map (qv ad)) (sig_len hkN hna) (by simp [qv]) (by show 2 * 0 + _ ≤ _; rw [cats_qv]; omega) hd2 (fun _ _ => ⟨rfl, rfl, hc1, hsl⟩)
 dsimp only [Pt.U, Pt.locs, Pt.cells, Pt.slots] at X₁ l₁ y₁ z₁ st hR1
 subst l₁ y₁ z₁
 exact ⟨T₁, Lc, X₁, hR1, hF1, fun target q => st.trans q⟩
set_option maxHeartbeats 4000000 in
theorem QTri.callP (W : QW Z a0) {pc idx k a : Nat} {L : QLoc} {S as rest vs : List Value} {σ σ₁ : QHeap} {w : Option Value} (hc : pCode m pc = some (.invokevirtual idx, k)) (hm : (lkV.contains (pK m, idx, k) && mP.contains k) = true) (hcell : hget σ a = some (.inl vs)) (hS : S = as.reverse ++ .ref a :: rest)
  (hna : as.length = pNA k) (hlen : Nat.ble (((Value.ref a :: as).map fun v => v.category).sum) (pMaxL k) = true) (hroom : (Nat.ble (pFr k + 1) (pFr m) && Nat.ble ((rest.map fun v => v.category).sum + (pMaxL k + 11) + pLo k) (pLo m)) = true) (hrb : (w.isNone || (pRet k).isSome) = true)
  (hcal : QTri l Z n0 ad k (0, qentry (.ref a :: as) (pMaxL k), [], σ) w σ₁) (h : QTri l Z n0 ad m (pc + 3, L, w.toList ++ rest, σ₁) v σ') : QTri l Z n0 ad m (pc, L, S, σ) v σ' := by
 have hd : decode (pBytes m) pc = .ok (.invokevirtual idx, 3) := pDecN hc rfl
 subst hS
 obtain ⟨m1, m2⟩ := Bool.and_eq_true_iff.mp hm
 have m1 := mem_of_contains m1
 have m2 := mem_of_contains m2
 obtain ⟨hkA, hk1⟩ := mPlt k m2
 have hkN := mAlt k hkA
 have hret : pRet k = none → w = none := fun q => by
  rw [q] at hrb
  cases w with
  | none => rfl
  | some w => simp at hrb
 refine QTri.after hcal h fun p e R s mid args below meth c T locs cells slots C hcx X hR hC hc1 hsl => ?_
 obtain ⟨hx, hZ, hby, hml, hret', hown, hnm, hfr, hlo⟩ := hcx
 have hd2 : decode c.code pc = .ok (.invokevirtual idx, 3) := by rw [hby]; exact hd
 obtain ⟨f1, f2⟩ := QTri.room (σ := σ) (σ₁ := σ₁) hroom hfr hlo
 obtain ⟨cell, h1, h2⟩ := (hR.2.2 _ _ hcell).1.cell
 obtain ⟨w1, w2⟩ := (qw_pr W) k m2
 obtain ⟨c1, c2⟩ := (qw_cod W) k hkA
 have hpr : s.PrivateAt (pName k) := Cond.privateMethod_at (mvP hZ w2 (args := #[]))
 obtain ⟨cC, kC, i1, i2, i3, i4⟩ := Cond.instantiable_spec (args := #[]) (mvT hZ (qw_inst W))
 have hsel : (Cond.selects (pName k).cls (pName k) (pName k)).before args s = true := selects_self_of_private (c := cC) (k := kC) (by show s.vm.findClass (kName (pK k)) = _; rw [hk1]; exact i1) i2 (by have q := i4.1; cases hq : kC.isInterface with | false => rfl | true => rw [hq] at q; simp at q) hpr (mvT hZ w1) (pOwn _ (pKlt k hkN))
 obtain ⟨_, _, ⟨T₁, L₁, k₁, n₁⟩, -, X₁, ⟨Lc, ⟨rfl, hR1, hF1⟩, l₁, y₁, z₁⟩, st⟩ := X.privateBack hx (own := kName (pK m)) (index := idx) (y := pName k) hown (mvT hZ (qw_ml W (pK m, idx, k) m1)) (mvT hZ w1) hsel hpr (mvT hZ c1) (pOwn _ (pKlt k hkN))
  (backOf (W := (rest.map fun v => v.category).sum) (rm := ⟨pFr k, σ₁.length - σ.length, qhs σ₁ - qhs σ, pLo k⟩) (Q := fun v h L => v = Option.map (qv ad) w ∧ QRep Z n0 ad h σ₁ ∧ Fr n0 L) (QTri.met hkN hcal hR (Nat.le_of_ble_eq_true hlen) hret [] (Nat.le_refl _) (Nat.le_refl _) (Nat.le_refl _) (Nat.le_refl _)) hZ c1 c2 f1 f2) (g := mkF mid pc C (List.map (qv ad) (as.reverse ++ .ref a :: rest))) rfl hC (Steps.refl _) (a := ad a) h1 h2 (argsL := as.map (qv ad)) (rest := rest.map (qv ad)) (sig_len hkN hna) (by simp [qv]) (by show 2 * 0 + _ ≤ _; rw [cats_qv]; omega) hd2 (fun _ _ => ⟨rfl, rfl, hc1, hsl⟩)
 dsimp only [Pt.U, Pt.locs, Pt.cells, Pt.slots] at X₁ l₁ y₁ z₁ st hR1
 subst l₁ y₁ z₁
 exact ⟨T₁, Lc, X₁, hR1, hF1, fun target q => st.trans q⟩
set_option maxHeartbeats 4000000 in
theorem QTri.callS (W : QW Z a0) {pc idx k : Nat} {L : QLoc} {S as rest : List Value} {σ σ₁ : QHeap} {w : Option Value} (hc : pCode m pc = some (.invokestatic idx, k)) (hm : (lkV.contains (pK m, idx, k) && mS.contains k) = true) (hS : S = as.reverse ++ rest)
  (hna : as.length = pNA k) (hlen : Nat.ble ((as.map fun v => v.category).sum) (pMaxL k) = true) (hroom : (Nat.ble (pFr k + 1) (pFr m) && Nat.ble ((rest.map fun v => v.category).sum + (pMaxL k + 11) + pLo k) (pLo m)) = true) (hrb : (w.isNone || (pRet k).isSome) = true)
  (hcal : QTri l Z n0 ad k (0, qentry as (pMaxL k), [], σ) w σ₁) (h : QTri l Z n0 ad m (pc + 3, L, w.toList ++ rest, σ₁) v σ') : QTri l Z n0 ad m (pc, L, S, σ) v σ' := by
 have hd : decode (pBytes m) pc = .ok (.invokestatic idx, 3) := pDecN hc rfl
 subst hS
 obtain ⟨m1, m2⟩ := Bool.and_eq_true_iff.mp hm
 have m1 := mem_of_contains m1
 have m2 := mem_of_contains m2
 have hkA := mSlt k m2
 have hkN := mAlt k hkA
 have hret : pRet k = none → w = none := fun q => by
  rw [q] at hrb
  cases w with
  | none => rfl
  | some w => simp at hrb
 refine QTri.after hcal h fun p e R s mid args below meth c T locs cells slots C hcx X hR hC hc1 hsl => ?_
 obtain ⟨hx, hZ, hby, hml, hret', hown, hnm, hfr, hlo⟩ := hcx
 have hd2 : decode c.code pc = .ok (.invokestatic idx, 3) := by rw [hby]; exact hd
 obtain ⟨f1, f2⟩ := QTri.room (σ := σ) (σ₁ := σ₁) hroom hfr hlo
 obtain ⟨c1, c2⟩ := (qw_cod W) k hkA
 obtain ⟨_, _, ⟨T₁, L₁, k₁, n₁⟩, -, X₁, ⟨Lc, ⟨rfl, hR1, hF1⟩, l₁, y₁, z₁⟩, st⟩ := Jvm.LawKit.callS X hx (own := kName (pK m)) (index := idx) (y := pName k) hown (mvT hZ (qw_ml W (pK m, idx, k) m1)) (mvT hZ ((qw_st W) k m2)) (mvT hZ c2) (mvT hZ c1) (pOwn _ (pKlt k hkN))
  (backOf (W := (rest.map fun v => v.category).sum) (rm := ⟨pFr k, σ₁.length - σ.length, qhs σ₁ - qhs σ, pLo k⟩) (Q := fun v h L => v = Option.map (qv ad) w ∧ QRep Z n0 ad h σ₁ ∧ Fr n0 L) (QTri.met hkN hcal hR (Nat.le_of_ble_eq_true hlen) hret [] (Nat.le_refl _) (Nat.le_refl _) (Nat.le_refl _) (Nat.le_refl _)) hZ c1 c2 f1 f2) (g := mkF mid pc C (List.map (qv ad) (as.reverse ++ rest))) rfl hC (argsL := as.map (qv ad)) (rest := rest.map (qv ad)) (sig_len hkN hna) (by simp) (by show 2 * 0 + _ ≤ _; rw [cats_qv]; omega) hd2 (fun _ _ => ⟨rfl, rfl, hc1, hsl⟩)
 dsimp only [Pt.U, Pt.locs, Pt.cells, Pt.slots] at X₁ l₁ y₁ z₁ st hR1
 subst l₁ y₁ z₁
 exact ⟨T₁, Lc, X₁, hR1, hF1, fun target q => st target q⟩
set_option maxHeartbeats 4000000 in
theorem QTri.callO (W : QW Z a0) {pc idx k a : Nat} {L : QLoc} {rest : List Value} {σ : QHeap} (hc : pCode m pc = some (.invokespecial idx, k)) (hm : lkO.contains (pK m, idx) = true) (hroom : (Nat.ble 1 (pFr m) && Nat.ble ((rest.map fun v => v.category).sum + 12) (pLo m)) = true)
  (h : QTri l Z n0 ad m (pc + 3, L, rest, σ) v σ') : QTri l Z n0 ad m (pc, L, .ref a :: rest, σ) v σ' :=
 have hd : decode (pBytes m) pc = .ok (.invokespecial idx, 3) := pDecN hc rfl
 QTri.pure h rfl fun p e R s mid args below meth c T locs cells slots C hcx X hR hL hC => by
  obtain ⟨hx, hZ, hby, hml, hret', hown, hnm, hfr, hlo⟩ := hcx
  have hd2 : decode c.code pc = .ok (.invokespecial idx, 3) := by rw [hby]; exact hd
  obtain ⟨q1, q2⟩ := Bool.and_eq_true_iff.mp hroom
  obtain ⟨T₁, X₁, e₁, st⟩ := initO X hx hZ hown (idx := idx) (qw_mo W (pK m, idx) (mem_of_contains hm)) ((qw_oi W)) ((qw_oc W)) rfl (g := mkF mid pc C (List.map (qv ad) (.ref a :: rest))) rfl hC rfl hd2 (Nat.le_trans (Nat.le_of_ble_eq_true q1) hfr) (W := (rest.map fun v => v.category).sum) (by show 2 * 0 + _ ≤ _; rw [cats_qv]; omega) (Nat.le_trans (Nat.le_of_ble_eq_true q2) hlo)
  exact ⟨T₁, C, X₁, e₁, hL, hC, st⟩
theorem QTri.brT (Ad : QAd n0 ad) (W : QW Z a0) {st : QSt} {t f : Nat} {L : QLoc} {S : List Value} {σ : QHeap} {b : Bool} (hs : qstep m st = some (bif b then t else f, L, S, σ)) (hb : b = true) (h : QTri l Z n0 ad m (t, L, S, σ) v σ') : QTri l Z n0 ad m st v σ' := by
 subst hb; exact QTri.step Ad W h hs
theorem QTri.brF (Ad : QAd n0 ad) (W : QW Z a0) {st : QSt} {t f : Nat} {L : QLoc} {S : List Value} {σ : QHeap} {b : Bool} (hs : qstep m st = some (bif b then t else f, L, S, σ)) (hb : b = false) (h : QTri l Z n0 ad m (f, L, S, σ) v σ') : QTri l Z n0 ad m st v σ' := by
 subst hb; exact QTri.step Ad W h hs
theorem QTri.bnd {α : Type} (Ad : QAd n0 ad) (W : QW Z a0) {st : QSt} {x : Option α} {f : α → QSt} {a : α} (hs : qstep m st = x.bind fun v => some (f v)) (hx : x = some a) (h : QTri l Z n0 ad m (f a) v σ') : QTri l Z n0 ad m st v σ' :=
 QTri.step Ad W h (by rw [hs, hx]; rfl)
theorem QTri.bndB (Ad : QAd n0 ad) (W : QW Z a0) {st : QSt} {x y : Int32} {g : Value → QSt} (hs : qstep m st = ((qboo x).bind fun y => some (Value.int y)).bind fun w => some (g w)) (hx : qboo x = some y) (h : QTri l Z n0 ad m (g (.int y)) v σ') : QTri l Z n0 ad m st v σ' :=
 QTri.step Ad W h (by rw [hs, hx]; rfl)
end Triples
theorem qite {α : Type} {c : Prop} [Decidable c] {a b : Option α} {r : α} (h : (if c then a else b) = some r) : (c ∧ a = some r) ∨ (¬ c ∧ b = some r) := by
 by_cases hc : c
 ·exact Or.inl ⟨hc, by rwa [if_pos hc] at h⟩
 ·exact Or.inr ⟨hc, by rwa [if_neg hc] at h⟩
def qN : Nat := 4000
def loopN {V E : Type} (B : V → Option (E ⊕ V)) : Nat → V → Option E
 | 0, _ => none
 | n + 1, v => match B v with
  | none => none
  | some (.inl e) => some e
  | some (.inr v') => loopN B n v'
theorem loopN_tri {V E : Type} {B : V → Option (E ⊕ V)} {T : V → Prop} {KE : E → Prop} (hB : ∀ v r, B v = some r → (∀ e, r = .inl e → KE e) → (∀ v', r = .inr v' → T v') → T v) : ∀ (n : Nat) (v : V) (e : E), loopN B n v = some e → KE e → T v
 | 0, _, _, h, _ => by cases h
 | n + 1, v, e, h, k => by
  simp only [loopN] at h
  split at h
  ·cases h
  ·rename_i e' he
   cases h
   exact hB v _ he (fun e q => by cases q; exact k) (fun v' q => by cases q)
  ·rename_i v' he
   exact hB v _ he (fun e q => by cases q) (fun v'' q => by cases q; exact loopN_tri hB n v' e h k)
theorem loopN_inv {V E : Type} {B : V → Option (E ⊕ V)} (I : V → Prop) (P : E → Prop) (μ : V → Nat) (hB : ∀ v, I v → (∃ e, B v = some (.inl e) ∧ P e) ∨ ∃ v', B v = some (.inr v') ∧ I v' ∧ μ v' < μ v) : ∀ (n : Nat) (v : V), I v → μ v < n → ∃ e, loopN B n v = some e ∧ P e
 | 0, _, _, h => absurd h (Nat.not_lt_zero _)
 | n + 1, v, hv, hm => by
  rcases hB v hv with ⟨e, h1, h2⟩ | ⟨v', h1, h2, h3⟩
  ·exact ⟨e, by simp only [loopN, h1], h2⟩
  ·obtain ⟨e, g1, g2⟩ := loopN_inv I P μ hB n v' h2 (by omega)
   exact ⟨e, by simp only [loopN, h1]; exact g1, g2⟩
theorem qfn {α : Type} {P : α → Prop} : ∀ t ∈ ([] : List α), P t := fun _ h => nomatch h
theorem qfc {α : Type} {P : α → Prop} {a : α} {t : List α} (h : P a) (ht : ∀ x ∈ t, P x) : ∀ x ∈ a :: t, P x := fun x hx => by rcases List.mem_cons.mp hx with rfl | q; exact h; exact ht x q
theorem QW_ok {Z : State} {a0 : Array Value} (hw : ∀ d ∈ tables_1, d.before a0 Z = true) : QW Z a0 := by
  have w0 : ∀ k ∈ List.range nF, bif fFin k then (Jvm.Cond.laysFinal cName cName (fNm k) (fDs k)).before a0 Z = true else (Jvm.Cond.lays cName cName (fNm k) (fDs k)).before a0 Z = true :=
    show ∀ k ∈ [0, 1, 2, 3, 4, 5, 6, 7, 8, 9, 10, 11, 12, 13, 14, 15, 16, 17, 18, 19, 20], bif fFin k then (Jvm.Cond.laysFinal cName cName (fNm k) (fDs k)).before a0 Z = true else (Jvm.Cond.lays cName cName (fNm k) (fDs k)).before a0 Z = true from
    (qfc (hw _ (List.mem_of_getElem? (i := 11) rfl)) (qfc (hw _ (List.mem_of_getElem? (i := 14) rfl)) (qfc (hw _ (List.mem_of_getElem? (i := 16) rfl)) (qfc (hw _ (List.mem_of_getElem? (i := 18) rfl)) (qfc (hw _ (List.mem_of_getElem? (i := 20) rfl)) (qfc (hw _ (List.mem_of_getElem? (i := 22) rfl)) (qfc (hw _ (List.mem_of_getElem? (i := 24) rfl)) (qfc (hw _ (List.mem_of_getElem? (i := 26) rfl)) (qfc (hw _ (List.mem_of_getElem? (i := 28) rfl)) (qfc (hw _ (List.mem_of_getElem? (i := 30) rfl)) (qfc (hw _ (List.mem_of_getElem? (i := 32) rfl)) (qfc (hw _ (List.mem_of_getElem? (i := 34) rfl)) (qfc (hw _ (List.mem_of_getElem? (i := 36) rfl)) (qfc (hw _ (List.mem_of_getElem? (i := 38) rfl)) (qfc (hw _ (List.mem_of_getElem? (i := 40) rfl)) (qfc (hw _ (List.mem_of_getElem? (i := 84) rfl)) (qfc (hw _ (List.mem_of_getElem? (i := 86) rfl)) (qfc (hw _ (List.mem_of_getElem? (i := 88) rfl)) (qfc (hw _ (List.mem_of_getElem? (i := 90) rfl)) (qfc (hw _ (List.mem_of_getElem? (i := 96) rfl)) (qfc (hw _ (List.mem_of_getElem? (i := 102) rfl)) qfn)))))))))))))))))))))
  refine ⟨?_, ?_, ?_, ?_, ?_, ?_, ?_, ?_, ?_, ?_, ?_, ?_, ?_, (fun k hk => w0 k (List.mem_range.mpr hk)), ?_, ?_, ?_⟩
  · exact (qfc (hw _ (List.mem_of_getElem? (i := 10) rfl)) (qfc (hw _ (List.mem_of_getElem? (i := 13) rfl)) (qfc (hw _ (List.mem_of_getElem? (i := 15) rfl)) (qfc (hw _ (List.mem_of_getElem? (i := 17) rfl)) (qfc (hw _ (List.mem_of_getElem? (i := 19) rfl)) (qfc (hw _ (List.mem_of_getElem? (i := 21) rfl)) (qfc (hw _ (List.mem_of_getElem? (i := 23) rfl)) (qfc (hw _ (List.mem_of_getElem? (i := 25) rfl)) (qfc (hw _ (List.mem_of_getElem? (i := 27) rfl)) (qfc (hw _ (List.mem_of_getElem? (i := 29) rfl)) (qfc (hw _ (List.mem_of_getElem? (i := 31) rfl)) (qfc (hw _ (List.mem_of_getElem? (i := 33) rfl)) (qfc (hw _ (List.mem_of_getElem? (i := 35) rfl)) (qfc (hw _ (List.mem_of_getElem? (i := 37) rfl)) (qfc (hw _ (List.mem_of_getElem? (i := 39) rfl)) (qfc (hw _ (List.mem_of_getElem? (i := 83) rfl)) (qfc (hw _ (List.mem_of_getElem? (i := 85) rfl)) (qfc (hw _ (List.mem_of_getElem? (i := 87) rfl)) (qfc (hw _ (List.mem_of_getElem? (i := 89) rfl)) (qfc (hw _ (List.mem_of_getElem? (i := 95) rfl)) (qfc (hw _ (List.mem_of_getElem? (i := 101) rfl)) qfn)))))))))))))))))))))
  · exact (qfc (hw _ (List.mem_of_getElem? (i := 0) rfl)) qfn)
  · exact (qfc ⟨_, rfl, (hw _ (List.mem_of_getElem? (i := 41) rfl))⟩ qfn)
  · exact (qfc ⟨_, rfl, (hw _ (List.mem_of_getElem? (i := 64) rfl))⟩ (qfc ⟨_, rfl, (hw _ (List.mem_of_getElem? (i := 155) rfl))⟩ (qfc ⟨_, rfl, (hw _ (List.mem_of_getElem? (i := 165) rfl))⟩ qfn)))
  · exact (qfc (hw _ (List.mem_of_getElem? (i := 3) rfl)) (qfc (hw _ (List.mem_of_getElem? (i := 42) rfl)) (qfc (hw _ (List.mem_of_getElem? (i := 47) rfl)) (qfc (hw _ (List.mem_of_getElem? (i := 51) rfl)) (qfc (hw _ (List.mem_of_getElem? (i := 56) rfl)) (qfc (hw _ (List.mem_of_getElem? (i := 60) rfl)) (qfc (hw _ (List.mem_of_getElem? (i := 65) rfl)) (qfc (hw _ (List.mem_of_getElem? (i := 70) rfl)) (qfc (hw _ (List.mem_of_getElem? (i := 75) rfl)) (qfc (hw _ (List.mem_of_getElem? (i := 79) rfl)) (qfc (hw _ (List.mem_of_getElem? (i := 91) rfl)) (qfc (hw _ (List.mem_of_getElem? (i := 97) rfl)) (qfc (hw _ (List.mem_of_getElem? (i := 103) rfl)) (qfc (hw _ (List.mem_of_getElem? (i := 108) rfl)) (qfc (hw _ (List.mem_of_getElem? (i := 113) rfl)) (qfc (hw _ (List.mem_of_getElem? (i := 118) rfl)) (qfc (hw _ (List.mem_of_getElem? (i := 123) rfl)) (qfc (hw _ (List.mem_of_getElem? (i := 127) rfl)) (qfc (hw _ (List.mem_of_getElem? (i := 132) rfl)) (qfc (hw _ (List.mem_of_getElem? (i := 137) rfl)) (qfc (hw _ (List.mem_of_getElem? (i := 142) rfl)) (qfc (hw _ (List.mem_of_getElem? (i := 147) rfl)) (qfc (hw _ (List.mem_of_getElem? (i := 151) rfl)) (qfc (hw _ (List.mem_of_getElem? (i := 156) rfl)) (qfc (hw _ (List.mem_of_getElem? (i := 160) rfl)) (qfc (hw _ (List.mem_of_getElem? (i := 166) rfl)) (qfc (hw _ (List.mem_of_getElem? (i := 171) rfl)) qfn)))))))))))))))))))))))))))
  · exact (qfc (hw _ (List.mem_of_getElem? (i := 6) rfl)) qfn)
  · exact (qfc ⟨(hw _ (List.mem_of_getElem? (i := 43) rfl)), (hw _ (List.mem_of_getElem? (i := 45) rfl)), (hw _ (List.mem_of_getElem? (i := 44) rfl))⟩ (qfc ⟨(hw _ (List.mem_of_getElem? (i := 52) rfl)), (hw _ (List.mem_of_getElem? (i := 54) rfl)), (hw _ (List.mem_of_getElem? (i := 53) rfl))⟩ (qfc ⟨(hw _ (List.mem_of_getElem? (i := 66) rfl)), (hw _ (List.mem_of_getElem? (i := 68) rfl)), (hw _ (List.mem_of_getElem? (i := 67) rfl))⟩ (qfc ⟨(hw _ (List.mem_of_getElem? (i := 71) rfl)), (hw _ (List.mem_of_getElem? (i := 73) rfl)), (hw _ (List.mem_of_getElem? (i := 72) rfl))⟩ (qfc ⟨(hw _ (List.mem_of_getElem? (i := 104) rfl)), (hw _ (List.mem_of_getElem? (i := 106) rfl)), (hw _ (List.mem_of_getElem? (i := 105) rfl))⟩ (qfc ⟨(hw _ (List.mem_of_getElem? (i := 109) rfl)), (hw _ (List.mem_of_getElem? (i := 111) rfl)), (hw _ (List.mem_of_getElem? (i := 110) rfl))⟩ (qfc ⟨(hw _ (List.mem_of_getElem? (i := 114) rfl)), (hw _ (List.mem_of_getElem? (i := 116) rfl)), (hw _ (List.mem_of_getElem? (i := 115) rfl))⟩ (qfc ⟨(hw _ (List.mem_of_getElem? (i := 119) rfl)), (hw _ (List.mem_of_getElem? (i := 121) rfl)), (hw _ (List.mem_of_getElem? (i := 120) rfl))⟩ (qfc ⟨(hw _ (List.mem_of_getElem? (i := 128) rfl)), (hw _ (List.mem_of_getElem? (i := 130) rfl)), (hw _ (List.mem_of_getElem? (i := 129) rfl))⟩ (qfc ⟨(hw _ (List.mem_of_getElem? (i := 133) rfl)), (hw _ (List.mem_of_getElem? (i := 135) rfl)), (hw _ (List.mem_of_getElem? (i := 134) rfl))⟩ (qfc ⟨(hw _ (List.mem_of_getElem? (i := 138) rfl)), (hw _ (List.mem_of_getElem? (i := 140) rfl)), (hw _ (List.mem_of_getElem? (i := 139) rfl))⟩ (qfc ⟨(hw _ (List.mem_of_getElem? (i := 143) rfl)), (hw _ (List.mem_of_getElem? (i := 145) rfl)), (hw _ (List.mem_of_getElem? (i := 144) rfl))⟩ (qfc ⟨(hw _ (List.mem_of_getElem? (i := 161) rfl)), (hw _ (List.mem_of_getElem? (i := 163) rfl)), (hw _ (List.mem_of_getElem? (i := 162) rfl))⟩ (qfc ⟨(hw _ (List.mem_of_getElem? (i := 167) rfl)), (hw _ (List.mem_of_getElem? (i := 169) rfl)), (hw _ (List.mem_of_getElem? (i := 168) rfl))⟩ qfn))))))))))))))
  · exact (qfc ⟨(hw _ (List.mem_of_getElem? (i := 48) rfl)), (hw _ (List.mem_of_getElem? (i := 49) rfl))⟩ (qfc ⟨(hw _ (List.mem_of_getElem? (i := 57) rfl)), (hw _ (List.mem_of_getElem? (i := 58) rfl))⟩ (qfc ⟨(hw _ (List.mem_of_getElem? (i := 76) rfl)), (hw _ (List.mem_of_getElem? (i := 77) rfl))⟩ (qfc ⟨(hw _ (List.mem_of_getElem? (i := 80) rfl)), (hw _ (List.mem_of_getElem? (i := 81) rfl))⟩ (qfc ⟨(hw _ (List.mem_of_getElem? (i := 92) rfl)), (hw _ (List.mem_of_getElem? (i := 93) rfl))⟩ (qfc ⟨(hw _ (List.mem_of_getElem? (i := 98) rfl)), (hw _ (List.mem_of_getElem? (i := 99) rfl))⟩ (qfc ⟨(hw _ (List.mem_of_getElem? (i := 124) rfl)), (hw _ (List.mem_of_getElem? (i := 125) rfl))⟩ (qfc ⟨(hw _ (List.mem_of_getElem? (i := 148) rfl)), (hw _ (List.mem_of_getElem? (i := 149) rfl))⟩ (qfc ⟨(hw _ (List.mem_of_getElem? (i := 152) rfl)), (hw _ (List.mem_of_getElem? (i := 153) rfl))⟩ (qfc ⟨(hw _ (List.mem_of_getElem? (i := 157) rfl)), (hw _ (List.mem_of_getElem? (i := 158) rfl))⟩ (qfc ⟨(hw _ (List.mem_of_getElem? (i := 172) rfl)), (hw _ (List.mem_of_getElem? (i := 173) rfl))⟩ qfn)))))))))))
  · exact (qfc (hw _ (List.mem_of_getElem? (i := 61) rfl)) qfn)
  · exact (qfc (hw _ (List.mem_of_getElem? (i := 4) rfl)) qfn)
  · exact (qfc ⟨(hw _ (List.mem_of_getElem? (i := 5) rfl)), (hw _ (List.mem_of_getElem? (i := 2) rfl))⟩ (qfc ⟨(hw _ (List.mem_of_getElem? (i := 46) rfl)), (hw _ (List.mem_of_getElem? (i := 2) rfl))⟩ (qfc ⟨(hw _ (List.mem_of_getElem? (i := 50) rfl)), (hw _ (List.mem_of_getElem? (i := 2) rfl))⟩ (qfc ⟨(hw _ (List.mem_of_getElem? (i := 55) rfl)), (hw _ (List.mem_of_getElem? (i := 2) rfl))⟩ (qfc ⟨(hw _ (List.mem_of_getElem? (i := 59) rfl)), (hw _ (List.mem_of_getElem? (i := 2) rfl))⟩ (qfc ⟨(hw _ (List.mem_of_getElem? (i := 63) rfl)), (hw _ (List.mem_of_getElem? (i := 62) rfl))⟩ (qfc ⟨(hw _ (List.mem_of_getElem? (i := 69) rfl)), (hw _ (List.mem_of_getElem? (i := 2) rfl))⟩ (qfc ⟨(hw _ (List.mem_of_getElem? (i := 74) rfl)), (hw _ (List.mem_of_getElem? (i := 2) rfl))⟩ (qfc ⟨(hw _ (List.mem_of_getElem? (i := 78) rfl)), (hw _ (List.mem_of_getElem? (i := 2) rfl))⟩ (qfc ⟨(hw _ (List.mem_of_getElem? (i := 82) rfl)), (hw _ (List.mem_of_getElem? (i := 2) rfl))⟩ (qfc ⟨(hw _ (List.mem_of_getElem? (i := 94) rfl)), (hw _ (List.mem_of_getElem? (i := 2) rfl))⟩ (qfc ⟨(hw _ (List.mem_of_getElem? (i := 100) rfl)), (hw _ (List.mem_of_getElem? (i := 2) rfl))⟩ (qfc ⟨(hw _ (List.mem_of_getElem? (i := 107) rfl)), (hw _ (List.mem_of_getElem? (i := 2) rfl))⟩ (qfc ⟨(hw _ (List.mem_of_getElem? (i := 112) rfl)), (hw _ (List.mem_of_getElem? (i := 2) rfl))⟩ (qfc ⟨(hw _ (List.mem_of_getElem? (i := 117) rfl)), (hw _ (List.mem_of_getElem? (i := 2) rfl))⟩ (qfc ⟨(hw _ (List.mem_of_getElem? (i := 122) rfl)), (hw _ (List.mem_of_getElem? (i := 2) rfl))⟩ (qfc ⟨(hw _ (List.mem_of_getElem? (i := 126) rfl)), (hw _ (List.mem_of_getElem? (i := 2) rfl))⟩ (qfc ⟨(hw _ (List.mem_of_getElem? (i := 131) rfl)), (hw _ (List.mem_of_getElem? (i := 2) rfl))⟩ (qfc ⟨(hw _ (List.mem_of_getElem? (i := 136) rfl)), (hw _ (List.mem_of_getElem? (i := 2) rfl))⟩ (qfc ⟨(hw _ (List.mem_of_getElem? (i := 141) rfl)), (hw _ (List.mem_of_getElem? (i := 2) rfl))⟩ (qfc ⟨(hw _ (List.mem_of_getElem? (i := 146) rfl)), (hw _ (List.mem_of_getElem? (i := 2) rfl))⟩ (qfc ⟨(hw _ (List.mem_of_getElem? (i := 150) rfl)), (hw _ (List.mem_of_getElem? (i := 2) rfl))⟩ (qfc ⟨(hw _ (List.mem_of_getElem? (i := 154) rfl)), (hw _ (List.mem_of_getElem? (i := 2) rfl))⟩ (qfc ⟨(hw _ (List.mem_of_getElem? (i := 159) rfl)), (hw _ (List.mem_of_getElem? (i := 2) rfl))⟩ (qfc ⟨(hw _ (List.mem_of_getElem? (i := 164) rfl)), (hw _ (List.mem_of_getElem? (i := 2) rfl))⟩ (qfc ⟨(hw _ (List.mem_of_getElem? (i := 170) rfl)), (hw _ (List.mem_of_getElem? (i := 2) rfl))⟩ (qfc ⟨(hw _ (List.mem_of_getElem? (i := 174) rfl)), (hw _ (List.mem_of_getElem? (i := 2) rfl))⟩ qfn)))))))))))))))))))))))))))
  · exact (hw _ (List.mem_of_getElem? (i := 7) rfl))
  · exact (hw _ (List.mem_of_getElem? (i := 8) rfl))
  · exact (hw _ (List.mem_of_getElem? (i := 1) rfl))
  · exact (hw _ (List.mem_of_getElem? (i := 2) rfl))
  · exact (qfc (hw _ (List.mem_of_getElem? (i := 9) rfl)) (qfc (hw _ (List.mem_of_getElem? (i := 12) rfl)) qfn))
abbrev Ob := List Int32 × List Int32 × Int32 × Int32 × Int32 × Int32 × List Int32 × List Int32 × List Int32 × List Int32 × List Int32 × List Int32 × Int32 × Int32 × Int32 × Int32 × Int32 × Int32 × Int32 × Int32 × Int32
def f_data (o : Ob) : List Int32 := o.1
def f_filled (o : Ob) : List Int32 := o.2.1
def f_rf (o : Ob) : Int32 := o.2.2.1
def f_cf (o : Ob) : Int32 := o.2.2.2.1
def f_vf (o : Ob) : Int32 := o.2.2.2.2.1
def f_ag (o : Ob) : Int32 := o.2.2.2.2.2.1
def f_fMode (o : Ob) : List Int32 := o.2.2.2.2.2.2.1
def f_fRk (o : Ob) : List Int32 := o.2.2.2.2.2.2.2.1
def f_fCk (o : Ob) : List Int32 := o.2.2.2.2.2.2.2.2.1
def f_prevVal (o : Ob) : List Int32 := o.2.2.2.2.2.2.2.2.2.1
def f_prevFound (o : Ob) : List Int32 := o.2.2.2.2.2.2.2.2.2.2.1
def f_keys (o : Ob) : List Int32 := o.2.2.2.2.2.2.2.2.2.2.2.1
def f_nRows (o : Ob) : Int32 := o.2.2.2.2.2.2.2.2.2.2.2.2.1
def f_nForms (o : Ob) : Int32 := o.2.2.2.2.2.2.2.2.2.2.2.2.2.1
def f_last (o : Ob) : Int32 := o.2.2.2.2.2.2.2.2.2.2.2.2.2.2.1
def f_selUseR (o : Ob) : Int32 := o.2.2.2.2.2.2.2.2.2.2.2.2.2.2.2.1
def f_selRk (o : Ob) : Int32 := o.2.2.2.2.2.2.2.2.2.2.2.2.2.2.2.2.1
def f_selUseC (o : Ob) : Int32 := o.2.2.2.2.2.2.2.2.2.2.2.2.2.2.2.2.2.1
def f_selCk (o : Ob) : Int32 := o.2.2.2.2.2.2.2.2.2.2.2.2.2.2.2.2.2.2.1
def f_gCount (o : Ob) : Int32 := o.2.2.2.2.2.2.2.2.2.2.2.2.2.2.2.2.2.2.2.1
def f_gVal (o : Ob) : Int32 := o.2.2.2.2.2.2.2.2.2.2.2.2.2.2.2.2.2.2.2.2
def s_data (o : Ob) (v : List Int32) : Ob := (v, o.2.1, o.2.2.1, o.2.2.2.1, o.2.2.2.2.1, o.2.2.2.2.2.1, o.2.2.2.2.2.2.1, o.2.2.2.2.2.2.2.1, o.2.2.2.2.2.2.2.2.1, o.2.2.2.2.2.2.2.2.2.1, o.2.2.2.2.2.2.2.2.2.2.1, o.2.2.2.2.2.2.2.2.2.2.2.1, o.2.2.2.2.2.2.2.2.2.2.2.2.1, o.2.2.2.2.2.2.2.2.2.2.2.2.2.1, o.2.2.2.2.2.2.2.2.2.2.2.2.2.2.1, o.2.2.2.2.2.2.2.2.2.2.2.2.2.2.2.1, o.2.2.2.2.2.2.2.2.2.2.2.2.2.2.2.2.1, o.2.2.2.2.2.2.2.2.2.2.2.2.2.2.2.2.2.1, o.2.2.2.2.2.2.2.2.2.2.2.2.2.2.2.2.2.2.1, o.2.2.2.2.2.2.2.2.2.2.2.2.2.2.2.2.2.2.2.1, o.2.2.2.2.2.2.2.2.2.2.2.2.2.2.2.2.2.2.2.2)
def s_filled (o : Ob) (v : List Int32) : Ob := (o.1, v, o.2.2.1, o.2.2.2.1, o.2.2.2.2.1, o.2.2.2.2.2.1, o.2.2.2.2.2.2.1, o.2.2.2.2.2.2.2.1, o.2.2.2.2.2.2.2.2.1, o.2.2.2.2.2.2.2.2.2.1, o.2.2.2.2.2.2.2.2.2.2.1, o.2.2.2.2.2.2.2.2.2.2.2.1, o.2.2.2.2.2.2.2.2.2.2.2.2.1, o.2.2.2.2.2.2.2.2.2.2.2.2.2.1, o.2.2.2.2.2.2.2.2.2.2.2.2.2.2.1, o.2.2.2.2.2.2.2.2.2.2.2.2.2.2.2.1, o.2.2.2.2.2.2.2.2.2.2.2.2.2.2.2.2.1, o.2.2.2.2.2.2.2.2.2.2.2.2.2.2.2.2.2.1, o.2.2.2.2.2.2.2.2.2.2.2.2.2.2.2.2.2.2.1, o.2.2.2.2.2.2.2.2.2.2.2.2.2.2.2.2.2.2.2.1, o.2.2.2.2.2.2.2.2.2.2.2.2.2.2.2.2.2.2.2.2)
def s_rf (o : Ob) (v : Int32) : Ob := (o.1, o.2.1, v, o.2.2.2.1, o.2.2.2.2.1, o.2.2.2.2.2.1, o.2.2.2.2.2.2.1, o.2.2.2.2.2.2.2.1, o.2.2.2.2.2.2.2.2.1, o.2.2.2.2.2.2.2.2.2.1, o.2.2.2.2.2.2.2.2.2.2.1, o.2.2.2.2.2.2.2.2.2.2.2.1, o.2.2.2.2.2.2.2.2.2.2.2.2.1, o.2.2.2.2.2.2.2.2.2.2.2.2.2.1, o.2.2.2.2.2.2.2.2.2.2.2.2.2.2.1, o.2.2.2.2.2.2.2.2.2.2.2.2.2.2.2.1, o.2.2.2.2.2.2.2.2.2.2.2.2.2.2.2.2.1, o.2.2.2.2.2.2.2.2.2.2.2.2.2.2.2.2.2.1, o.2.2.2.2.2.2.2.2.2.2.2.2.2.2.2.2.2.2.1, o.2.2.2.2.2.2.2.2.2.2.2.2.2.2.2.2.2.2.2.1, o.2.2.2.2.2.2.2.2.2.2.2.2.2.2.2.2.2.2.2.2)
def s_cf (o : Ob) (v : Int32) : Ob := (o.1, o.2.1, o.2.2.1, v, o.2.2.2.2.1, o.2.2.2.2.2.1, o.2.2.2.2.2.2.1, o.2.2.2.2.2.2.2.1, o.2.2.2.2.2.2.2.2.1, o.2.2.2.2.2.2.2.2.2.1, o.2.2.2.2.2.2.2.2.2.2.1, o.2.2.2.2.2.2.2.2.2.2.2.1, o.2.2.2.2.2.2.2.2.2.2.2.2.1, o.2.2.2.2.2.2.2.2.2.2.2.2.2.1, o.2.2.2.2.2.2.2.2.2.2.2.2.2.2.1, o.2.2.2.2.2.2.2.2.2.2.2.2.2.2.2.1, o.2.2.2.2.2.2.2.2.2.2.2.2.2.2.2.2.1, o.2.2.2.2.2.2.2.2.2.2.2.2.2.2.2.2.2.1, o.2.2.2.2.2.2.2.2.2.2.2.2.2.2.2.2.2.2.1, o.2.2.2.2.2.2.2.2.2.2.2.2.2.2.2.2.2.2.2.1, o.2.2.2.2.2.2.2.2.2.2.2.2.2.2.2.2.2.2.2.2)
def s_vf (o : Ob) (v : Int32) : Ob := (o.1, o.2.1, o.2.2.1, o.2.2.2.1, v, o.2.2.2.2.2.1, o.2.2.2.2.2.2.1, o.2.2.2.2.2.2.2.1, o.2.2.2.2.2.2.2.2.1, o.2.2.2.2.2.2.2.2.2.1, o.2.2.2.2.2.2.2.2.2.2.1, o.2.2.2.2.2.2.2.2.2.2.2.1, o.2.2.2.2.2.2.2.2.2.2.2.2.1, o.2.2.2.2.2.2.2.2.2.2.2.2.2.1, o.2.2.2.2.2.2.2.2.2.2.2.2.2.2.1, o.2.2.2.2.2.2.2.2.2.2.2.2.2.2.2.1, o.2.2.2.2.2.2.2.2.2.2.2.2.2.2.2.2.1, o.2.2.2.2.2.2.2.2.2.2.2.2.2.2.2.2.2.1, o.2.2.2.2.2.2.2.2.2.2.2.2.2.2.2.2.2.2.1, o.2.2.2.2.2.2.2.2.2.2.2.2.2.2.2.2.2.2.2.1, o.2.2.2.2.2.2.2.2.2.2.2.2.2.2.2.2.2.2.2.2)
def s_ag (o : Ob) (v : Int32) : Ob := (o.1, o.2.1, o.2.2.1, o.2.2.2.1, o.2.2.2.2.1, v, o.2.2.2.2.2.2.1, o.2.2.2.2.2.2.2.1, o.2.2.2.2.2.2.2.2.1, o.2.2.2.2.2.2.2.2.2.1, o.2.2.2.2.2.2.2.2.2.2.1, o.2.2.2.2.2.2.2.2.2.2.2.1, o.2.2.2.2.2.2.2.2.2.2.2.2.1, o.2.2.2.2.2.2.2.2.2.2.2.2.2.1, o.2.2.2.2.2.2.2.2.2.2.2.2.2.2.1, o.2.2.2.2.2.2.2.2.2.2.2.2.2.2.2.1, o.2.2.2.2.2.2.2.2.2.2.2.2.2.2.2.2.1, o.2.2.2.2.2.2.2.2.2.2.2.2.2.2.2.2.2.1, o.2.2.2.2.2.2.2.2.2.2.2.2.2.2.2.2.2.2.1, o.2.2.2.2.2.2.2.2.2.2.2.2.2.2.2.2.2.2.2.1, o.2.2.2.2.2.2.2.2.2.2.2.2.2.2.2.2.2.2.2.2)
def s_fMode (o : Ob) (v : List Int32) : Ob := (o.1, o.2.1, o.2.2.1, o.2.2.2.1, o.2.2.2.2.1, o.2.2.2.2.2.1, v, o.2.2.2.2.2.2.2.1, o.2.2.2.2.2.2.2.2.1, o.2.2.2.2.2.2.2.2.2.1, o.2.2.2.2.2.2.2.2.2.2.1, o.2.2.2.2.2.2.2.2.2.2.2.1, o.2.2.2.2.2.2.2.2.2.2.2.2.1, o.2.2.2.2.2.2.2.2.2.2.2.2.2.1, o.2.2.2.2.2.2.2.2.2.2.2.2.2.2.1, o.2.2.2.2.2.2.2.2.2.2.2.2.2.2.2.1, o.2.2.2.2.2.2.2.2.2.2.2.2.2.2.2.2.1, o.2.2.2.2.2.2.2.2.2.2.2.2.2.2.2.2.2.1, o.2.2.2.2.2.2.2.2.2.2.2.2.2.2.2.2.2.2.1, o.2.2.2.2.2.2.2.2.2.2.2.2.2.2.2.2.2.2.2.1, o.2.2.2.2.2.2.2.2.2.2.2.2.2.2.2.2.2.2.2.2)
def s_fRk (o : Ob) (v : List Int32) : Ob := (o.1, o.2.1, o.2.2.1, o.2.2.2.1, o.2.2.2.2.1, o.2.2.2.2.2.1, o.2.2.2.2.2.2.1, v, o.2.2.2.2.2.2.2.2.1, o.2.2.2.2.2.2.2.2.2.1, o.2.2.2.2.2.2.2.2.2.2.1, o.2.2.2.2.2.2.2.2.2.2.2.1, o.2.2.2.2.2.2.2.2.2.2.2.2.1, o.2.2.2.2.2.2.2.2.2.2.2.2.2.1, o.2.2.2.2.2.2.2.2.2.2.2.2.2.2.1, o.2.2.2.2.2.2.2.2.2.2.2.2.2.2.2.1, o.2.2.2.2.2.2.2.2.2.2.2.2.2.2.2.2.1, o.2.2.2.2.2.2.2.2.2.2.2.2.2.2.2.2.2.1, o.2.2.2.2.2.2.2.2.2.2.2.2.2.2.2.2.2.2.1, o.2.2.2.2.2.2.2.2.2.2.2.2.2.2.2.2.2.2.2.1, o.2.2.2.2.2.2.2.2.2.2.2.2.2.2.2.2.2.2.2.2)
def s_fCk (o : Ob) (v : List Int32) : Ob := (o.1, o.2.1, o.2.2.1, o.2.2.2.1, o.2.2.2.2.1, o.2.2.2.2.2.1, o.2.2.2.2.2.2.1, o.2.2.2.2.2.2.2.1, v, o.2.2.2.2.2.2.2.2.2.1, o.2.2.2.2.2.2.2.2.2.2.1, o.2.2.2.2.2.2.2.2.2.2.2.1, o.2.2.2.2.2.2.2.2.2.2.2.2.1, o.2.2.2.2.2.2.2.2.2.2.2.2.2.1, o.2.2.2.2.2.2.2.2.2.2.2.2.2.2.1, o.2.2.2.2.2.2.2.2.2.2.2.2.2.2.2.1, o.2.2.2.2.2.2.2.2.2.2.2.2.2.2.2.2.1, o.2.2.2.2.2.2.2.2.2.2.2.2.2.2.2.2.2.1, o.2.2.2.2.2.2.2.2.2.2.2.2.2.2.2.2.2.2.1, o.2.2.2.2.2.2.2.2.2.2.2.2.2.2.2.2.2.2.2.1, o.2.2.2.2.2.2.2.2.2.2.2.2.2.2.2.2.2.2.2.2)
def s_prevVal (o : Ob) (v : List Int32) : Ob := (o.1, o.2.1, o.2.2.1, o.2.2.2.1, o.2.2.2.2.1, o.2.2.2.2.2.1, o.2.2.2.2.2.2.1, o.2.2.2.2.2.2.2.1, o.2.2.2.2.2.2.2.2.1, v, o.2.2.2.2.2.2.2.2.2.2.1, o.2.2.2.2.2.2.2.2.2.2.2.1, o.2.2.2.2.2.2.2.2.2.2.2.2.1, o.2.2.2.2.2.2.2.2.2.2.2.2.2.1, o.2.2.2.2.2.2.2.2.2.2.2.2.2.2.1, o.2.2.2.2.2.2.2.2.2.2.2.2.2.2.2.1, o.2.2.2.2.2.2.2.2.2.2.2.2.2.2.2.2.1, o.2.2.2.2.2.2.2.2.2.2.2.2.2.2.2.2.2.1, o.2.2.2.2.2.2.2.2.2.2.2.2.2.2.2.2.2.2.1, o.2.2.2.2.2.2.2.2.2.2.2.2.2.2.2.2.2.2.2.1, o.2.2.2.2.2.2.2.2.2.2.2.2.2.2.2.2.2.2.2.2)
def s_prevFound (o : Ob) (v : List Int32) : Ob := (o.1, o.2.1, o.2.2.1, o.2.2.2.1, o.2.2.2.2.1, o.2.2.2.2.2.1, o.2.2.2.2.2.2.1, o.2.2.2.2.2.2.2.1, o.2.2.2.2.2.2.2.2.1, o.2.2.2.2.2.2.2.2.2.1, v, o.2.2.2.2.2.2.2.2.2.2.2.1, o.2.2.2.2.2.2.2.2.2.2.2.2.1, o.2.2.2.2.2.2.2.2.2.2.2.2.2.1, o.2.2.2.2.2.2.2.2.2.2.2.2.2.2.1, o.2.2.2.2.2.2.2.2.2.2.2.2.2.2.2.1, o.2.2.2.2.2.2.2.2.2.2.2.2.2.2.2.2.1, o.2.2.2.2.2.2.2.2.2.2.2.2.2.2.2.2.2.1, o.2.2.2.2.2.2.2.2.2.2.2.2.2.2.2.2.2.2.1, o.2.2.2.2.2.2.2.2.2.2.2.2.2.2.2.2.2.2.2.1, o.2.2.2.2.2.2.2.2.2.2.2.2.2.2.2.2.2.2.2.2)
def s_keys (o : Ob) (v : List Int32) : Ob := (o.1, o.2.1, o.2.2.1, o.2.2.2.1, o.2.2.2.2.1, o.2.2.2.2.2.1, o.2.2.2.2.2.2.1, o.2.2.2.2.2.2.2.1, o.2.2.2.2.2.2.2.2.1, o.2.2.2.2.2.2.2.2.2.1, o.2.2.2.2.2.2.2.2.2.2.1, v, o.2.2.2.2.2.2.2.2.2.2.2.2.1, o.2.2.2.2.2.2.2.2.2.2.2.2.2.1, o.2.2.2.2.2.2.2.2.2.2.2.2.2.2.1, o.2.2.2.2.2.2.2.2.2.2.2.2.2.2.2.1, o.2.2.2.2.2.2.2.2.2.2.2.2.2.2.2.2.1, o.2.2.2.2.2.2.2.2.2.2.2.2.2.2.2.2.2.1, o.2.2.2.2.2.2.2.2.2.2.2.2.2.2.2.2.2.2.1, o.2.2.2.2.2.2.2.2.2.2.2.2.2.2.2.2.2.2.2.1, o.2.2.2.2.2.2.2.2.2.2.2.2.2.2.2.2.2.2.2.2)
def s_nRows (o : Ob) (v : Int32) : Ob := (o.1, o.2.1, o.2.2.1, o.2.2.2.1, o.2.2.2.2.1, o.2.2.2.2.2.1, o.2.2.2.2.2.2.1, o.2.2.2.2.2.2.2.1, o.2.2.2.2.2.2.2.2.1, o.2.2.2.2.2.2.2.2.2.1, o.2.2.2.2.2.2.2.2.2.2.1, o.2.2.2.2.2.2.2.2.2.2.2.1, v, o.2.2.2.2.2.2.2.2.2.2.2.2.2.1, o.2.2.2.2.2.2.2.2.2.2.2.2.2.2.1, o.2.2.2.2.2.2.2.2.2.2.2.2.2.2.2.1, o.2.2.2.2.2.2.2.2.2.2.2.2.2.2.2.2.1, o.2.2.2.2.2.2.2.2.2.2.2.2.2.2.2.2.2.1, o.2.2.2.2.2.2.2.2.2.2.2.2.2.2.2.2.2.2.1, o.2.2.2.2.2.2.2.2.2.2.2.2.2.2.2.2.2.2.2.1, o.2.2.2.2.2.2.2.2.2.2.2.2.2.2.2.2.2.2.2.2)
def s_nForms (o : Ob) (v : Int32) : Ob := (o.1, o.2.1, o.2.2.1, o.2.2.2.1, o.2.2.2.2.1, o.2.2.2.2.2.1, o.2.2.2.2.2.2.1, o.2.2.2.2.2.2.2.1, o.2.2.2.2.2.2.2.2.1, o.2.2.2.2.2.2.2.2.2.1, o.2.2.2.2.2.2.2.2.2.2.1, o.2.2.2.2.2.2.2.2.2.2.2.1, o.2.2.2.2.2.2.2.2.2.2.2.2.1, v, o.2.2.2.2.2.2.2.2.2.2.2.2.2.2.1, o.2.2.2.2.2.2.2.2.2.2.2.2.2.2.2.1, o.2.2.2.2.2.2.2.2.2.2.2.2.2.2.2.2.1, o.2.2.2.2.2.2.2.2.2.2.2.2.2.2.2.2.2.1, o.2.2.2.2.2.2.2.2.2.2.2.2.2.2.2.2.2.2.1, o.2.2.2.2.2.2.2.2.2.2.2.2.2.2.2.2.2.2.2.1, o.2.2.2.2.2.2.2.2.2.2.2.2.2.2.2.2.2.2.2.2)
def s_last (o : Ob) (v : Int32) : Ob := (o.1, o.2.1, o.2.2.1, o.2.2.2.1, o.2.2.2.2.1, o.2.2.2.2.2.1, o.2.2.2.2.2.2.1, o.2.2.2.2.2.2.2.1, o.2.2.2.2.2.2.2.2.1, o.2.2.2.2.2.2.2.2.2.1, o.2.2.2.2.2.2.2.2.2.2.1, o.2.2.2.2.2.2.2.2.2.2.2.1, o.2.2.2.2.2.2.2.2.2.2.2.2.1, o.2.2.2.2.2.2.2.2.2.2.2.2.2.1, v, o.2.2.2.2.2.2.2.2.2.2.2.2.2.2.2.1, o.2.2.2.2.2.2.2.2.2.2.2.2.2.2.2.2.1, o.2.2.2.2.2.2.2.2.2.2.2.2.2.2.2.2.2.1, o.2.2.2.2.2.2.2.2.2.2.2.2.2.2.2.2.2.2.1, o.2.2.2.2.2.2.2.2.2.2.2.2.2.2.2.2.2.2.2.1, o.2.2.2.2.2.2.2.2.2.2.2.2.2.2.2.2.2.2.2.2)
def s_selUseR (o : Ob) (v : Int32) : Ob := (o.1, o.2.1, o.2.2.1, o.2.2.2.1, o.2.2.2.2.1, o.2.2.2.2.2.1, o.2.2.2.2.2.2.1, o.2.2.2.2.2.2.2.1, o.2.2.2.2.2.2.2.2.1, o.2.2.2.2.2.2.2.2.2.1, o.2.2.2.2.2.2.2.2.2.2.1, o.2.2.2.2.2.2.2.2.2.2.2.1, o.2.2.2.2.2.2.2.2.2.2.2.2.1, o.2.2.2.2.2.2.2.2.2.2.2.2.2.1, o.2.2.2.2.2.2.2.2.2.2.2.2.2.2.1, v, o.2.2.2.2.2.2.2.2.2.2.2.2.2.2.2.2.1, o.2.2.2.2.2.2.2.2.2.2.2.2.2.2.2.2.2.1, o.2.2.2.2.2.2.2.2.2.2.2.2.2.2.2.2.2.2.1, o.2.2.2.2.2.2.2.2.2.2.2.2.2.2.2.2.2.2.2.1, o.2.2.2.2.2.2.2.2.2.2.2.2.2.2.2.2.2.2.2.2)
def s_selRk (o : Ob) (v : Int32) : Ob := (o.1, o.2.1, o.2.2.1, o.2.2.2.1, o.2.2.2.2.1, o.2.2.2.2.2.1, o.2.2.2.2.2.2.1, o.2.2.2.2.2.2.2.1, o.2.2.2.2.2.2.2.2.1, o.2.2.2.2.2.2.2.2.2.1, o.2.2.2.2.2.2.2.2.2.2.1, o.2.2.2.2.2.2.2.2.2.2.2.1, o.2.2.2.2.2.2.2.2.2.2.2.2.1, o.2.2.2.2.2.2.2.2.2.2.2.2.2.1, o.2.2.2.2.2.2.2.2.2.2.2.2.2.2.1, o.2.2.2.2.2.2.2.2.2.2.2.2.2.2.2.1, v, o.2.2.2.2.2.2.2.2.2.2.2.2.2.2.2.2.2.1, o.2.2.2.2.2.2.2.2.2.2.2.2.2.2.2.2.2.2.1, o.2.2.2.2.2.2.2.2.2.2.2.2.2.2.2.2.2.2.2.1, o.2.2.2.2.2.2.2.2.2.2.2.2.2.2.2.2.2.2.2.2)
def s_selUseC (o : Ob) (v : Int32) : Ob := (o.1, o.2.1, o.2.2.1, o.2.2.2.1, o.2.2.2.2.1, o.2.2.2.2.2.1, o.2.2.2.2.2.2.1, o.2.2.2.2.2.2.2.1, o.2.2.2.2.2.2.2.2.1, o.2.2.2.2.2.2.2.2.2.1, o.2.2.2.2.2.2.2.2.2.2.1, o.2.2.2.2.2.2.2.2.2.2.2.1, o.2.2.2.2.2.2.2.2.2.2.2.2.1, o.2.2.2.2.2.2.2.2.2.2.2.2.2.1, o.2.2.2.2.2.2.2.2.2.2.2.2.2.2.1, o.2.2.2.2.2.2.2.2.2.2.2.2.2.2.2.1, o.2.2.2.2.2.2.2.2.2.2.2.2.2.2.2.2.1, v, o.2.2.2.2.2.2.2.2.2.2.2.2.2.2.2.2.2.2.1, o.2.2.2.2.2.2.2.2.2.2.2.2.2.2.2.2.2.2.2.1, o.2.2.2.2.2.2.2.2.2.2.2.2.2.2.2.2.2.2.2.2)
def s_selCk (o : Ob) (v : Int32) : Ob := (o.1, o.2.1, o.2.2.1, o.2.2.2.1, o.2.2.2.2.1, o.2.2.2.2.2.1, o.2.2.2.2.2.2.1, o.2.2.2.2.2.2.2.1, o.2.2.2.2.2.2.2.2.1, o.2.2.2.2.2.2.2.2.2.1, o.2.2.2.2.2.2.2.2.2.2.1, o.2.2.2.2.2.2.2.2.2.2.2.1, o.2.2.2.2.2.2.2.2.2.2.2.2.1, o.2.2.2.2.2.2.2.2.2.2.2.2.2.1, o.2.2.2.2.2.2.2.2.2.2.2.2.2.2.1, o.2.2.2.2.2.2.2.2.2.2.2.2.2.2.2.1, o.2.2.2.2.2.2.2.2.2.2.2.2.2.2.2.2.1, o.2.2.2.2.2.2.2.2.2.2.2.2.2.2.2.2.2.1, v, o.2.2.2.2.2.2.2.2.2.2.2.2.2.2.2.2.2.2.2.1, o.2.2.2.2.2.2.2.2.2.2.2.2.2.2.2.2.2.2.2.2)
def s_gCount (o : Ob) (v : Int32) : Ob := (o.1, o.2.1, o.2.2.1, o.2.2.2.1, o.2.2.2.2.1, o.2.2.2.2.2.1, o.2.2.2.2.2.2.1, o.2.2.2.2.2.2.2.1, o.2.2.2.2.2.2.2.2.1, o.2.2.2.2.2.2.2.2.2.1, o.2.2.2.2.2.2.2.2.2.2.1, o.2.2.2.2.2.2.2.2.2.2.2.1, o.2.2.2.2.2.2.2.2.2.2.2.2.1, o.2.2.2.2.2.2.2.2.2.2.2.2.2.1, o.2.2.2.2.2.2.2.2.2.2.2.2.2.2.1, o.2.2.2.2.2.2.2.2.2.2.2.2.2.2.2.1, o.2.2.2.2.2.2.2.2.2.2.2.2.2.2.2.2.1, o.2.2.2.2.2.2.2.2.2.2.2.2.2.2.2.2.2.1, o.2.2.2.2.2.2.2.2.2.2.2.2.2.2.2.2.2.2.1, v, o.2.2.2.2.2.2.2.2.2.2.2.2.2.2.2.2.2.2.2.2)
def s_gVal (o : Ob) (v : Int32) : Ob := (o.1, o.2.1, o.2.2.1, o.2.2.2.1, o.2.2.2.2.1, o.2.2.2.2.2.1, o.2.2.2.2.2.2.1, o.2.2.2.2.2.2.2.1, o.2.2.2.2.2.2.2.2.1, o.2.2.2.2.2.2.2.2.2.1, o.2.2.2.2.2.2.2.2.2.2.1, o.2.2.2.2.2.2.2.2.2.2.2.1, o.2.2.2.2.2.2.2.2.2.2.2.2.1, o.2.2.2.2.2.2.2.2.2.2.2.2.2.1, o.2.2.2.2.2.2.2.2.2.2.2.2.2.2.1, o.2.2.2.2.2.2.2.2.2.2.2.2.2.2.2.1, o.2.2.2.2.2.2.2.2.2.2.2.2.2.2.2.2.1, o.2.2.2.2.2.2.2.2.2.2.2.2.2.2.2.2.2.1, o.2.2.2.2.2.2.2.2.2.2.2.2.2.2.2.2.2.2.1, o.2.2.2.2.2.2.2.2.2.2.2.2.2.2.2.2.2.2.2.1, v)
theorem fs (o : Ob) : f_data o = o.1 ∧ f_filled o = o.2.1 ∧ f_rf o = o.2.2.1 ∧ f_cf o = o.2.2.2.1 ∧ f_vf o = o.2.2.2.2.1 ∧ f_ag o = o.2.2.2.2.2.1 ∧ f_fMode o = o.2.2.2.2.2.2.1 ∧ f_fRk o = o.2.2.2.2.2.2.2.1 ∧ f_fCk o = o.2.2.2.2.2.2.2.2.1 ∧ f_prevVal o = o.2.2.2.2.2.2.2.2.2.1 ∧ f_prevFound o = o.2.2.2.2.2.2.2.2.2.2.1 ∧ f_keys o = o.2.2.2.2.2.2.2.2.2.2.2.1 ∧ f_nRows o = o.2.2.2.2.2.2.2.2.2.2.2.2.1 ∧ f_nForms o = o.2.2.2.2.2.2.2.2.2.2.2.2.2.1 ∧ f_last o = o.2.2.2.2.2.2.2.2.2.2.2.2.2.2.1 ∧ f_selUseR o = o.2.2.2.2.2.2.2.2.2.2.2.2.2.2.2.1 ∧ f_selRk o = o.2.2.2.2.2.2.2.2.2.2.2.2.2.2.2.2.1 ∧ f_selUseC o = o.2.2.2.2.2.2.2.2.2.2.2.2.2.2.2.2.2.1 ∧ f_selCk o = o.2.2.2.2.2.2.2.2.2.2.2.2.2.2.2.2.2.2.1 ∧ f_gCount o = o.2.2.2.2.2.2.2.2.2.2.2.2.2.2.2.2.2.2.2.1 ∧ f_gVal o = o.2.2.2.2.2.2.2.2.2.2.2.2.2.2.2.2.2.2.2.2 := by simp only [f_data, f_filled, f_rf, f_cf, f_vf, f_ag, f_fMode, f_fRk, f_fCk, f_prevVal, f_prevFound, f_keys, f_nRows, f_nForms, f_last, f_selUseR, f_selRk, f_selUseC, f_selCk, f_gCount, f_gVal, and_self]
def ob0 : Ob := ([], [], 0, 0, 0, 0, [], [], [], [], [], [], 0, 0, 0, 0, 0, 0, 0, 0, 0)
section Walks
variable {l : Launch} {Z : State} {n0 : Nat} {ad : Nat → Addr} {a0 : Array Value}
set_option maxRecDepth 20000
set_option maxHeartbeats 2000000
abbrev tt : Bool := true
abbrev ff : Bool := false
open QTri renaming steps → zS, brT → zT, brF → zF, bnd → zB, mask → zM
open Option (bind_eq_some_iff)
open Classical (em)
def H0 (s : List Int32) (o0 : Ob) : QHeap := [.inr (.inl (.int, s)), .inl [.ref 2, .ref 3, .int (f_rf o0), .int (f_cf o0), .int (f_vf o0), .int (f_ag o0), .ref 4, .ref 5, .ref 6, .ref 7, .ref 8, .ref 9, .int (f_nRows o0), .int (f_nForms o0), .int (f_last o0), .int (f_selUseR o0), .int (f_selRk o0), .int (f_selUseC o0), .int (f_selCk o0), .int (f_gCount o0), .int (f_gVal o0)], .inr (.inl (.int, (f_data o0))), .inr (.inl (.boolean, (f_filled o0))), .inr (.inl (.int, (f_fMode o0))), .inr (.inl (.int, (f_fRk o0))), .inr (.inl (.int, (f_fCk o0))), .inr (.inl (.int, (f_prevVal o0))), .inr (.inl (.boolean, (f_prevFound o0))), .inr (.inl (.int, (f_keys o0)))]
def H0v (s : List Int32) (a0_0 : List Int32) (a0_1 : List Int32) (a0_2 : Int32) (a0_3 : Int32) (a0_4 : Int32) (a0_5 : Int32) (a0_6 : List Int32) (a0_7 : List Int32) (a0_8 : List Int32) (a0_9 : List Int32) (a0_10 : List Int32) (a0_11 : List Int32) (a0_12 : Int32) (a0_13 : Int32) (a0_14 : Int32) (a0_15 : Int32) (a0_16 : Int32) (a0_17 : Int32) (a0_18 : Int32) (a0_19 : Int32) (a0_20 : Int32) : QHeap := [.inr (.inl (.int, s)), .inl [.ref 2, .ref 3, .int a0_2, .int a0_3, .int a0_4, .int a0_5, .ref 4, .ref 5, .ref 6, .ref 7, .ref 8, .ref 9, .int a0_12, .int a0_13, .int a0_14, .int a0_15, .int a0_16, .int a0_17, .int a0_18, .int a0_19, .int a0_20], .inr (.inl (.int, a0_0)), .inr (.inl (.boolean, a0_1)), .inr (.inl (.int, a0_6)), .inr (.inl (.int, a0_7)), .inr (.inl (.int, a0_8)), .inr (.inl (.int, a0_9)), .inr (.inl (.boolean, a0_10)), .inr (.inl (.int, a0_11))]
def H0x0 (s : List Int32) (o0 : Ob) (a0_0 : List Int32) (a0_1 : List Int32) (a0_2 : Int32) (a0_3 : Int32) (a0_4 : Int32) (a0_5 : Int32) (a0_6 : List Int32) (a0_7 : List Int32) (a0_8 : List Int32) (a0_9 : List Int32) (a0_10 : List Int32) (a0_11 : List Int32) : QHeap := H0v s a0_0 a0_1 a0_2 a0_3 a0_4 a0_5 a0_6 a0_7 a0_8 a0_9 a0_10 a0_11 (f_nRows o0) (f_nForms o0) (f_last o0) (f_selUseR o0) (f_selRk o0) (f_selUseC o0) (f_selCk o0) (f_gCount o0) (f_gVal o0)
def H0x1 (s : List Int32) (o0 : Ob) (a0_0 : List Int32) (a0_1 : List Int32) (a0_2 : Int32) (a0_3 : Int32) (a0_4 : Int32) (a0_5 : Int32) (a0_6 : List Int32) (a0_7 : List Int32) (a0_8 : List Int32) (a0_9 : List Int32) (a0_10 : List Int32) (a0_11 : List Int32) (a0_12 : Int32) : QHeap := H0v s a0_0 a0_1 a0_2 a0_3 a0_4 a0_5 a0_6 a0_7 a0_8 a0_9 a0_10 a0_11 a0_12 (f_nForms o0) (f_last o0) (f_selUseR o0) (f_selRk o0) (f_selUseC o0) (f_selCk o0) (f_gCount o0) (f_gVal o0)
def H0x2 (s : List Int32) (o0 : Ob) (a0_0 : List Int32) (a0_1 : List Int32) (a0_2 : Int32) (a0_3 : Int32) (a0_4 : Int32) (a0_5 : Int32) (a0_6 : List Int32) (a0_7 : List Int32) (a0_8 : List Int32) (a0_9 : List Int32) (a0_10 : List Int32) (a0_11 : List Int32) (a0_12 : Int32) (a0_13 : Int32) : QHeap := H0v s a0_0 a0_1 a0_2 a0_3 a0_4 a0_5 a0_6 a0_7 a0_8 a0_9 a0_10 a0_11 a0_12 a0_13 (f_last o0) (f_selUseR o0) (f_selRk o0) (f_selUseC o0) (f_selCk o0) (f_gCount o0) (f_gVal o0)
def H0x3 (s : List Int32) (o0 : Ob) (a0_0 : List Int32) (a0_1 : List Int32) (a0_2 : Int32) (a0_3 : Int32) (a0_4 : Int32) (a0_5 : Int32) (a0_6 : List Int32) (a0_7 : List Int32) (a0_8 : List Int32) (a0_9 : List Int32) (a0_10 : List Int32) (a0_11 : List Int32) (a0_12 : Int32) (a0_13 : Int32) (a0_14 : Int32) : QHeap := H0v s a0_0 a0_1 a0_2 a0_3 a0_4 a0_5 a0_6 a0_7 a0_8 a0_9 a0_10 a0_11 a0_12 a0_13 a0_14 (f_selUseR o0) (f_selRk o0) (f_selUseC o0) (f_selCk o0) (f_gCount o0) (f_gVal o0)
/-- init(II)V -/
def F1 (x1 : Int32) (x2 : Int32) : Option (Ob) :=
 some (s_last (s_nForms (s_nRows (s_keys (s_prevFound (s_prevVal (s_fCk (s_fRk (s_fMode (s_ag (s_vf (s_cf (s_rf (s_filled (s_data ob0 (List.replicate 128 0)) (List.replicate 32 0)) (0:Int32)) (1:Int32)) (2:Int32)) (0:Int32)) (List.replicate 16 0)) (List.replicate 16 0)) (List.replicate 16 0)) (List.replicate 16 0)) (List.replicate 16 0)) (List.replicate 64 0)) (if (32:Int32) < (if x1 < (4:Int32) then (4:Int32) else x1) then (32:Int32) else (if x1 < (4:Int32) then (4:Int32) else x1))) (if (16:Int32) < (if x2 < (1:Int32) then (1:Int32) else x2) then (16:Int32) else (if x2 < (1:Int32) then (1:Int32) else x2))) (0:Int32))
theorem tF1 (Ad : QAd n0 ad) (W : QW Z a0) (s : List Int32) (x1 : Int32) (x2 : Int32) {r : Ob} (h : F1 x1 x2 = some r) : QTri l Z n0 ad 1 (0, qentry [.ref 1, .int x1, .int x2] (pMaxL 1), [], [.inr (.inl (.int, s)), .inl [.null, .null, .int (f_rf ob0), .int (f_cf ob0), .int (f_vf ob0), .int (f_ag ob0), .null, .null, .null, .null, .null, .null, .int (f_nRows ob0), .int (f_nForms ob0), .int (f_last ob0), .int (f_selUseR ob0), .int (f_selRk ob0), .int (f_selUseC ob0), .int (f_selCk ob0), .int (f_gCount ob0), .int (f_gVal ob0)]]) (none : Option Value) (H0 s r) := by
 unfold F1 at h
 refine zS Ad W 1 (st' := (1, [vR 1, vI x1, vI x2, none, none], [.ref 1], [.inr (.inl (.int, s)), .inl [.null, .null, .int (f_rf ob0), .int (f_cf ob0), .int (f_vf ob0), .int (f_ag ob0), .null, .null, .null, .null, .null, .null, .int (f_nRows ob0), .int (f_nForms ob0), .int (f_last ob0), .int (f_selUseR ob0), .int (f_selRk ob0), .int (f_selUseC ob0), .int (f_selCk ob0), .int (f_gCount ob0), .int (f_gVal ob0)]])) rfl ?_
 refine QTri.callO W rfl rfl rfl ?_
 refine zS Ad W 3 (st' := (10, [vR 1, vI x1, vI x2, none, none], [.ref 2, .ref 1], [.inr (.inl (.int, s)), .inl [.null, .null, .int (f_rf ob0), .int (f_cf ob0), .int (f_vf ob0), .int (f_ag ob0), .null, .null, .null, .null, .null, .null, .int (f_nRows ob0), .int (f_nForms ob0), .int (f_last ob0), .int (f_selUseR ob0), .int (f_selRk ob0), .int (f_selUseC ob0), .int (f_selCk ob0), .int (f_gCount ob0), .int (f_gVal ob0)], .inr (.inl (.int, (List.replicate 128 0)))])) rfl ?_
 refine zS Ad W 1 (st' := (13, [vR 1, vI x1, vI x2, none, none], [], [.inr (.inl (.int, s)), .inl [.ref 2, .null, .int (f_rf ob0), .int (f_cf ob0), .int (f_vf ob0), .int (f_ag ob0), .null, .null, .null, .null, .null, .null, .int (f_nRows ob0), .int (f_nForms ob0), .int (f_last ob0), .int (f_selUseR ob0), .int (f_selRk ob0), .int (f_selUseC ob0), .int (f_selCk ob0), .int (f_gCount ob0), .int (f_gVal ob0)], .inr (.inl (.int, (List.replicate 128 0)))])) rfl ?_
 refine zS Ad W 3 (st' := (18, [vR 1, vI x1, vI x2, none, none], [.ref 3, .ref 1], [.inr (.inl (.int, s)), .inl [.ref 2, .null, .int (f_rf ob0), .int (f_cf ob0), .int (f_vf ob0), .int (f_ag ob0), .null, .null, .null, .null, .null, .null, .int (f_nRows ob0), .int (f_nForms ob0), .int (f_last ob0), .int (f_selUseR ob0), .int (f_selRk ob0), .int (f_selUseC ob0), .int (f_selCk ob0), .int (f_gCount ob0), .int (f_gVal ob0)], .inr (.inl (.int, (List.replicate 128 0))), .inr (.inl (.boolean, (List.replicate 32 0)))])) rfl ?_
 refine zS Ad W 1 (st' := (21, [vR 1, vI x1, vI x2, none, none], [], [.inr (.inl (.int, s)), .inl [.ref 2, .ref 3, .int (f_rf ob0), .int (f_cf ob0), .int (f_vf ob0), .int (f_ag ob0), .null, .null, .null, .null, .null, .null, .int (f_nRows ob0), .int (f_nForms ob0), .int (f_last ob0), .int (f_selUseR ob0), .int (f_selRk ob0), .int (f_selUseC ob0), .int (f_selCk ob0), .int (f_gCount ob0), .int (f_gVal ob0)], .inr (.inl (.int, (List.replicate 128 0))), .inr (.inl (.boolean, (List.replicate 32 0)))])) rfl ?_
 refine zS Ad W 3 (st' := (26, [vR 1, vI x1, vI x2, none, none], [], [.inr (.inl (.int, s)), .inl [.ref 2, .ref 3, .int (0:Int32), .int (f_cf ob0), .int (f_vf ob0), .int (f_ag ob0), .null, .null, .null, .null, .null, .null, .int (f_nRows ob0), .int (f_nForms ob0), .int (f_last ob0), .int (f_selUseR ob0), .int (f_selRk ob0), .int (f_selUseC ob0), .int (f_selCk ob0), .int (f_gCount ob0), .int (f_gVal ob0)], .inr (.inl (.int, (List.replicate 128 0))), .inr (.inl (.boolean, (List.replicate 32 0)))])) rfl ?_
 refine zS Ad W 3 (st' := (31, [vR 1, vI x1, vI x2, none, none], [], [.inr (.inl (.int, s)), .inl [.ref 2, .ref 3, .int (0:Int32), .int (1:Int32), .int (f_vf ob0), .int (f_ag ob0), .null, .null, .null, .null, .null, .null, .int (f_nRows ob0), .int (f_nForms ob0), .int (f_last ob0), .int (f_selUseR ob0), .int (f_selRk ob0), .int (f_selUseC ob0), .int (f_selCk ob0), .int (f_gCount ob0), .int (f_gVal ob0)], .inr (.inl (.int, (List.replicate 128 0))), .inr (.inl (.boolean, (List.replicate 32 0)))])) rfl ?_
 refine zS Ad W 3 (st' := (36, [vR 1, vI x1, vI x2, none, none], [], [.inr (.inl (.int, s)), .inl [.ref 2, .ref 3, .int (0:Int32), .int (1:Int32), .int (2:Int32), .int (f_ag ob0), .null, .null, .null, .null, .null, .null, .int (f_nRows ob0), .int (f_nForms ob0), .int (f_last ob0), .int (f_selUseR ob0), .int (f_selRk ob0), .int (f_selUseC ob0), .int (f_selCk ob0), .int (f_gCount ob0), .int (f_gVal ob0)], .inr (.inl (.int, (List.replicate 128 0))), .inr (.inl (.boolean, (List.replicate 32 0)))])) rfl ?_
 refine zS Ad W 3 (st' := (41, [vR 1, vI x1, vI x2, none, none], [], [.inr (.inl (.int, s)), .inl [.ref 2, .ref 3, .int (0:Int32), .int (1:Int32), .int (2:Int32), .int (0:Int32), .null, .null, .null, .null, .null, .null, .int (f_nRows ob0), .int (f_nForms ob0), .int (f_last ob0), .int (f_selUseR ob0), .int (f_selRk ob0), .int (f_selUseC ob0), .int (f_selCk ob0), .int (f_gCount ob0), .int (f_gVal ob0)], .inr (.inl (.int, (List.replicate 128 0))), .inr (.inl (.boolean, (List.replicate 32 0)))])) rfl ?_
 refine zS Ad W 3 (st' := (46, [vR 1, vI x1, vI x2, none, none], [.ref 4, .ref 1], [.inr (.inl (.int, s)), .inl [.ref 2, .ref 3, .int (0:Int32), .int (1:Int32), .int (2:Int32), .int (0:Int32), .null, .null, .null, .null, .null, .null, .int (f_nRows ob0), .int (f_nForms ob0), .int (f_last ob0), .int (f_selUseR ob0), .int (f_selRk ob0), .int (f_selUseC ob0), .int (f_selCk ob0), .int (f_gCount ob0), .int (f_gVal ob0)], .inr (.inl (.int, (List.replicate 128 0))), .inr (.inl (.boolean, (List.replicate 32 0))), .inr (.inl (.int, (List.replicate 16 0)))])) rfl ?_
 refine zS Ad W 1 (st' := (49, [vR 1, vI x1, vI x2, none, none], [], [.inr (.inl (.int, s)), .inl [.ref 2, .ref 3, .int (0:Int32), .int (1:Int32), .int (2:Int32), .int (0:Int32), .ref 4, .null, .null, .null, .null, .null, .int (f_nRows ob0), .int (f_nForms ob0), .int (f_last ob0), .int (f_selUseR ob0), .int (f_selRk ob0), .int (f_selUseC ob0), .int (f_selCk ob0), .int (f_gCount ob0), .int (f_gVal ob0)], .inr (.inl (.int, (List.replicate 128 0))), .inr (.inl (.boolean, (List.replicate 32 0))), .inr (.inl (.int, (List.replicate 16 0)))])) rfl ?_
 refine zS Ad W 3 (st' := (54, [vR 1, vI x1, vI x2, none, none], [.ref 5, .ref 1], [.inr (.inl (.int, s)), .inl [.ref 2, .ref 3, .int (0:Int32), .int (1:Int32), .int (2:Int32), .int (0:Int32), .ref 4, .null, .null, .null, .null, .null, .int (f_nRows ob0), .int (f_nForms ob0), .int (f_last ob0), .int (f_selUseR ob0), .int (f_selRk ob0), .int (f_selUseC ob0), .int (f_selCk ob0), .int (f_gCount ob0), .int (f_gVal ob0)], .inr (.inl (.int, (List.replicate 128 0))), .inr (.inl (.boolean, (List.replicate 32 0))), .inr (.inl (.int, (List.replicate 16 0))), .inr (.inl (.int, (List.replicate 16 0)))])) rfl ?_
 refine zS Ad W 1 (st' := (57, [vR 1, vI x1, vI x2, none, none], [], [.inr (.inl (.int, s)), .inl [.ref 2, .ref 3, .int (0:Int32), .int (1:Int32), .int (2:Int32), .int (0:Int32), .ref 4, .ref 5, .null, .null, .null, .null, .int (f_nRows ob0), .int (f_nForms ob0), .int (f_last ob0), .int (f_selUseR ob0), .int (f_selRk ob0), .int (f_selUseC ob0), .int (f_selCk ob0), .int (f_gCount ob0), .int (f_gVal ob0)], .inr (.inl (.int, (List.replicate 128 0))), .inr (.inl (.boolean, (List.replicate 32 0))), .inr (.inl (.int, (List.replicate 16 0))), .inr (.inl (.int, (List.replicate 16 0)))])) rfl ?_
 refine zS Ad W 3 (st' := (62, [vR 1, vI x1, vI x2, none, none], [.ref 6, .ref 1], [.inr (.inl (.int, s)), .inl [.ref 2, .ref 3, .int (0:Int32), .int (1:Int32), .int (2:Int32), .int (0:Int32), .ref 4, .ref 5, .null, .null, .null, .null, .int (f_nRows ob0), .int (f_nForms ob0), .int (f_last ob0), .int (f_selUseR ob0), .int (f_selRk ob0), .int (f_selUseC ob0), .int (f_selCk ob0), .int (f_gCount ob0), .int (f_gVal ob0)], .inr (.inl (.int, (List.replicate 128 0))), .inr (.inl (.boolean, (List.replicate 32 0))), .inr (.inl (.int, (List.replicate 16 0))), .inr (.inl (.int, (List.replicate 16 0))), .inr (.inl (.int, (List.replicate 16 0)))])) rfl ?_
 refine zS Ad W 1 (st' := (65, [vR 1, vI x1, vI x2, none, none], [], [.inr (.inl (.int, s)), .inl [.ref 2, .ref 3, .int (0:Int32), .int (1:Int32), .int (2:Int32), .int (0:Int32), .ref 4, .ref 5, .ref 6, .null, .null, .null, .int (f_nRows ob0), .int (f_nForms ob0), .int (f_last ob0), .int (f_selUseR ob0), .int (f_selRk ob0), .int (f_selUseC ob0), .int (f_selCk ob0), .int (f_gCount ob0), .int (f_gVal ob0)], .inr (.inl (.int, (List.replicate 128 0))), .inr (.inl (.boolean, (List.replicate 32 0))), .inr (.inl (.int, (List.replicate 16 0))), .inr (.inl (.int, (List.replicate 16 0))), .inr (.inl (.int, (List.replicate 16 0)))])) rfl ?_
 refine zS Ad W 3 (st' := (70, [vR 1, vI x1, vI x2, none, none], [.ref 7, .ref 1], [.inr (.inl (.int, s)), .inl [.ref 2, .ref 3, .int (0:Int32), .int (1:Int32), .int (2:Int32), .int (0:Int32), .ref 4, .ref 5, .ref 6, .null, .null, .null, .int (f_nRows ob0), .int (f_nForms ob0), .int (f_last ob0), .int (f_selUseR ob0), .int (f_selRk ob0), .int (f_selUseC ob0), .int (f_selCk ob0), .int (f_gCount ob0), .int (f_gVal ob0)], .inr (.inl (.int, (List.replicate 128 0))), .inr (.inl (.boolean, (List.replicate 32 0))), .inr (.inl (.int, (List.replicate 16 0))), .inr (.inl (.int, (List.replicate 16 0))), .inr (.inl (.int, (List.replicate 16 0))), .inr (.inl (.int, (List.replicate 16 0)))])) rfl ?_
 refine zS Ad W 1 (st' := (73, [vR 1, vI x1, vI x2, none, none], [], [.inr (.inl (.int, s)), .inl [.ref 2, .ref 3, .int (0:Int32), .int (1:Int32), .int (2:Int32), .int (0:Int32), .ref 4, .ref 5, .ref 6, .ref 7, .null, .null, .int (f_nRows ob0), .int (f_nForms ob0), .int (f_last ob0), .int (f_selUseR ob0), .int (f_selRk ob0), .int (f_selUseC ob0), .int (f_selCk ob0), .int (f_gCount ob0), .int (f_gVal ob0)], .inr (.inl (.int, (List.replicate 128 0))), .inr (.inl (.boolean, (List.replicate 32 0))), .inr (.inl (.int, (List.replicate 16 0))), .inr (.inl (.int, (List.replicate 16 0))), .inr (.inl (.int, (List.replicate 16 0))), .inr (.inl (.int, (List.replicate 16 0)))])) rfl ?_
 refine zS Ad W 3 (st' := (78, [vR 1, vI x1, vI x2, none, none], [.ref 8, .ref 1], [.inr (.inl (.int, s)), .inl [.ref 2, .ref 3, .int (0:Int32), .int (1:Int32), .int (2:Int32), .int (0:Int32), .ref 4, .ref 5, .ref 6, .ref 7, .null, .null, .int (f_nRows ob0), .int (f_nForms ob0), .int (f_last ob0), .int (f_selUseR ob0), .int (f_selRk ob0), .int (f_selUseC ob0), .int (f_selCk ob0), .int (f_gCount ob0), .int (f_gVal ob0)], .inr (.inl (.int, (List.replicate 128 0))), .inr (.inl (.boolean, (List.replicate 32 0))), .inr (.inl (.int, (List.replicate 16 0))), .inr (.inl (.int, (List.replicate 16 0))), .inr (.inl (.int, (List.replicate 16 0))), .inr (.inl (.int, (List.replicate 16 0))), .inr (.inl (.boolean, (List.replicate 16 0)))])) rfl ?_
 refine zS Ad W 1 (st' := (81, [vR 1, vI x1, vI x2, none, none], [], [.inr (.inl (.int, s)), .inl [.ref 2, .ref 3, .int (0:Int32), .int (1:Int32), .int (2:Int32), .int (0:Int32), .ref 4, .ref 5, .ref 6, .ref 7, .ref 8, .null, .int (f_nRows ob0), .int (f_nForms ob0), .int (f_last ob0), .int (f_selUseR ob0), .int (f_selRk ob0), .int (f_selUseC ob0), .int (f_selCk ob0), .int (f_gCount ob0), .int (f_gVal ob0)], .inr (.inl (.int, (List.replicate 128 0))), .inr (.inl (.boolean, (List.replicate 32 0))), .inr (.inl (.int, (List.replicate 16 0))), .inr (.inl (.int, (List.replicate 16 0))), .inr (.inl (.int, (List.replicate 16 0))), .inr (.inl (.int, (List.replicate 16 0))), .inr (.inl (.boolean, (List.replicate 16 0)))])) rfl ?_
 refine zS Ad W 3 (st' := (86, [vR 1, vI x1, vI x2, none, none], [.ref 9, .ref 1], [.inr (.inl (.int, s)), .inl [.ref 2, .ref 3, .int (0:Int32), .int (1:Int32), .int (2:Int32), .int (0:Int32), .ref 4, .ref 5, .ref 6, .ref 7, .ref 8, .null, .int (f_nRows ob0), .int (f_nForms ob0), .int (f_last ob0), .int (f_selUseR ob0), .int (f_selRk ob0), .int (f_selUseC ob0), .int (f_selCk ob0), .int (f_gCount ob0), .int (f_gVal ob0)], .inr (.inl (.int, (List.replicate 128 0))), .inr (.inl (.boolean, (List.replicate 32 0))), .inr (.inl (.int, (List.replicate 16 0))), .inr (.inl (.int, (List.replicate 16 0))), .inr (.inl (.int, (List.replicate 16 0))), .inr (.inl (.int, (List.replicate 16 0))), .inr (.inl (.boolean, (List.replicate 16 0))), .inr (.inl (.int, (List.replicate 64 0)))])) rfl ?_
 refine zS Ad W 1 (st' := (89, [vR 1, vI x1, vI x2, none, none], [], (H0x0 s ob0 (List.replicate 128 0) (List.replicate 32 0) (0:Int32) (1:Int32) (2:Int32) (0:Int32) (List.replicate 16 0) (List.replicate 16 0) (List.replicate 16 0) (List.replicate 16 0) (List.replicate 16 0) (List.replicate 64 0)))) rfl ?_
 refine zS Ad W 4 (st' := (93, [vR 1, vI x1, vI x2, vI x1, none], [.int (4:Int32), .int x1], (H0x0 s ob0 (List.replicate 128 0) (List.replicate 32 0) (0:Int32) (1:Int32) (2:Int32) (0:Int32) (List.replicate 16 0) (List.replicate 16 0) (List.replicate 16 0) (List.replicate 16 0) (List.replicate 16 0) (List.replicate 64 0)))) rfl ?_
 have K2 : ∀ z1 : Int32, z1 = (if x1 < (4:Int32) then (4:Int32) else x1) → QTri l Z n0 ad 1 (98, [vR 1, none, vI x2, vI z1, none], [], (H0x0 s ob0 (List.replicate 128 0) (List.replicate 32 0) (0:Int32) (1:Int32) (2:Int32) (0:Int32) (List.replicate 16 0) (List.replicate 16 0) (List.replicate 16 0) (List.replicate 16 0) (List.replicate 16 0) (List.replicate 64 0))) (none : Option Value) (H0 s r) := by
  intro z1 ez1
  subst ez1
  refine zS Ad W 2 (st' := (101, [vR 1, none, vI x2, vI (if x1 < (4:Int32) then (4:Int32) else x1), none], [.int (32:Int32), .int (if x1 < (4:Int32) then (4:Int32) else x1)], (H0x0 s ob0 (List.replicate 128 0) (List.replicate 32 0) (0:Int32) (1:Int32) (2:Int32) (0:Int32) (List.replicate 16 0) (List.replicate 16 0) (List.replicate 16 0) (List.replicate 16 0) (List.replicate 16 0) (List.replicate 64 0)))) rfl ?_
  have K5 : ∀ z4 : Int32, z4 = (if (32:Int32) < (if x1 < (4:Int32) then (4:Int32) else x1) then (32:Int32) else (if x1 < (4:Int32) then (4:Int32) else x1)) → QTri l Z n0 ad 1 (107, [vR 1, none, vI x2, vI z4, none], [], (H0x0 s ob0 (List.replicate 128 0) (List.replicate 32 0) (0:Int32) (1:Int32) (2:Int32) (0:Int32) (List.replicate 16 0) (List.replicate 16 0) (List.replicate 16 0) (List.replicate 16 0) (List.replicate 16 0) (List.replicate 64 0))) (none : Option Value) (H0 s r) := by
   intro z4 ez4
   subst ez4
   refine zS Ad W 4 (st' := (113, [vR 1, none, vI x2, vI (if (32:Int32) < (if x1 < (4:Int32) then (4:Int32) else x1) then (32:Int32) else (if x1 < (4:Int32) then (4:Int32) else x1)), vI x2], [.int (1:Int32), .int x2], (H0x0 s ob0 (List.replicate 128 0) (List.replicate 32 0) (0:Int32) (1:Int32) (2:Int32) (0:Int32) (List.replicate 16 0) (List.replicate 16 0) (List.replicate 16 0) (List.replicate 16 0) (List.replicate 16 0) (List.replicate 64 0)))) rfl ?_
   have K8 : ∀ z7 : Int32, z7 = (if x2 < (1:Int32) then (1:Int32) else x2) → QTri l Z n0 ad 1 (119, [vR 1, none, none, vI (if (32:Int32) < (if x1 < (4:Int32) then (4:Int32) else x1) then (32:Int32) else (if x1 < (4:Int32) then (4:Int32) else x1)), vI z7], [], (H0x0 s ob0 (List.replicate 128 0) (List.replicate 32 0) (0:Int32) (1:Int32) (2:Int32) (0:Int32) (List.replicate 16 0) (List.replicate 16 0) (List.replicate 16 0) (List.replicate 16 0) (List.replicate 16 0) (List.replicate 64 0))) (none : Option Value) (H0 s r) := by
    intro z7 ez7
    subst ez7
    refine zS Ad W 2 (st' := (123, [vR 1, none, none, vI (if (32:Int32) < (if x1 < (4:Int32) then (4:Int32) else x1) then (32:Int32) else (if x1 < (4:Int32) then (4:Int32) else x1)), vI (if x2 < (1:Int32) then (1:Int32) else x2)], [.int (16:Int32), .int (if x2 < (1:Int32) then (1:Int32) else x2)], (H0x0 s ob0 (List.replicate 128 0) (List.replicate 32 0) (0:Int32) (1:Int32) (2:Int32) (0:Int32) (List.replicate 16 0) (List.replicate 16 0) (List.replicate 16 0) (List.replicate 16 0) (List.replicate 16 0) (List.replicate 64 0)))) rfl ?_
    have K11 : ∀ z10 : Int32, z10 = (if (16:Int32) < (if x2 < (1:Int32) then (1:Int32) else x2) then (16:Int32) else (if x2 < (1:Int32) then (1:Int32) else x2)) → QTri l Z n0 ad 1 (130, [vR 1, none, none, vI (if (32:Int32) < (if x1 < (4:Int32) then (4:Int32) else x1) then (32:Int32) else (if x1 < (4:Int32) then (4:Int32) else x1)), vI z10], [], (H0x0 s ob0 (List.replicate 128 0) (List.replicate 32 0) (0:Int32) (1:Int32) (2:Int32) (0:Int32) (List.replicate 16 0) (List.replicate 16 0) (List.replicate 16 0) (List.replicate 16 0) (List.replicate 16 0) (List.replicate 64 0))) (none : Option Value) (H0 s r) := by
     intro z10 ez10
     subst ez10
     refine zS Ad W 3 (st' := (135, [vR 1, none, none, vI (if (32:Int32) < (if x1 < (4:Int32) then (4:Int32) else x1) then (32:Int32) else (if x1 < (4:Int32) then (4:Int32) else x1)), vI (if (16:Int32) < (if x2 < (1:Int32) then (1:Int32) else x2) then (16:Int32) else (if x2 < (1:Int32) then (1:Int32) else x2))], [], (H0x1 s ob0 (List.replicate 128 0) (List.replicate 32 0) (0:Int32) (1:Int32) (2:Int32) (0:Int32) (List.replicate 16 0) (List.replicate 16 0) (List.replicate 16 0) (List.replicate 16 0) (List.replicate 16 0) (List.replicate 64 0) (if (32:Int32) < (if x1 < (4:Int32) then (4:Int32) else x1) then (32:Int32) else (if x1 < (4:Int32) then (4:Int32) else x1))))) rfl ?_
     refine zS Ad W 3 (st' := (141, [vR 1, none, none, vI (if (32:Int32) < (if x1 < (4:Int32) then (4:Int32) else x1) then (32:Int32) else (if x1 < (4:Int32) then (4:Int32) else x1)), vI (if (16:Int32) < (if x2 < (1:Int32) then (1:Int32) else x2) then (16:Int32) else (if x2 < (1:Int32) then (1:Int32) else x2))], [], (H0x2 s ob0 (List.replicate 128 0) (List.replicate 32 0) (0:Int32) (1:Int32) (2:Int32) (0:Int32) (List.replicate 16 0) (List.replicate 16 0) (List.replicate 16 0) (List.replicate 16 0) (List.replicate 16 0) (List.replicate 64 0) (if (32:Int32) < (if x1 < (4:Int32) then (4:Int32) else x1) then (32:Int32) else (if x1 < (4:Int32) then (4:Int32) else x1)) (if (16:Int32) < (if x2 < (1:Int32) then (1:Int32) else x2) then (16:Int32) else (if x2 < (1:Int32) then (1:Int32) else x2))))) rfl ?_
     refine zS Ad W 3 (st' := (146, [vR 1, none, none, vI (if (32:Int32) < (if x1 < (4:Int32) then (4:Int32) else x1) then (32:Int32) else (if x1 < (4:Int32) then (4:Int32) else x1)), vI (if (16:Int32) < (if x2 < (1:Int32) then (1:Int32) else x2) then (16:Int32) else (if x2 < (1:Int32) then (1:Int32) else x2))], [], (H0x3 s ob0 (List.replicate 128 0) (List.replicate 32 0) (0:Int32) (1:Int32) (2:Int32) (0:Int32) (List.replicate 16 0) (List.replicate 16 0) (List.replicate 16 0) (List.replicate 16 0) (List.replicate 16 0) (List.replicate 64 0) (if (32:Int32) < (if x1 < (4:Int32) then (4:Int32) else x1) then (32:Int32) else (if x1 < (4:Int32) then (4:Int32) else x1)) (if (16:Int32) < (if x2 < (1:Int32) then (1:Int32) else x2) then (16:Int32) else (if x2 < (1:Int32) then (1:Int32) else x2)) (0:Int32)))) rfl ?_
     have E13 : ((H0x3 s ob0 (List.replicate 128 0) (List.replicate 32 0) (0:Int32) (1:Int32) (2:Int32) (0:Int32) (List.replicate 16 0) (List.replicate 16 0) (List.replicate 16 0) (List.replicate 16 0) (List.replicate 16 0) (List.replicate 64 0) (if (32:Int32) < (if x1 < (4:Int32) then (4:Int32) else x1) then (32:Int32) else (if x1 < (4:Int32) then (4:Int32) else x1)) (if (16:Int32) < (if x2 < (1:Int32) then (1:Int32) else x2) then (16:Int32) else (if x2 < (1:Int32) then (1:Int32) else x2)) (0:Int32)) : QHeap) = (H0 s (s_last (s_nForms (s_nRows (s_keys (s_prevFound (s_prevVal (s_fCk (s_fRk (s_fMode (s_ag (s_vf (s_cf (s_rf (s_filled (s_data ob0 (List.replicate 128 0)) (List.replicate 32 0)) (0:Int32)) (1:Int32)) (2:Int32)) (0:Int32)) (List.replicate 16 0)) (List.replicate 16 0)) (List.replicate 16 0)) (List.replicate 16 0)) (List.replicate 16 0)) (List.replicate 64 0)) (if (32:Int32) < (if x1 < (4:Int32) then (4:Int32) else x1) then (32:Int32) else (if x1 < (4:Int32) then (4:Int32) else x1))) (if (16:Int32) < (if x2 < (1:Int32) then (1:Int32) else x2) then (16:Int32) else (if x2 < (1:Int32) then (1:Int32) else x2))) (0:Int32))) := by simp only [fs, H0, H0v, H0x3, s_data, s_filled, s_rf, s_cf, s_vf, s_ag, s_fMode, s_fRk, s_fCk, s_prevVal, s_prevFound, s_keys, s_nRows, s_nForms, s_last, ob0]
     rw [E13]
     obtain rfl := Option.some.inj h
     exact QTri.ret0 rfl rfl
    rcases em ((16:Int32) < (if x2 < (1:Int32) then (1:Int32) else x2)) with hc12 | hc12
    ·refine zF Ad W (t := 130) (f := 126) rfl (XT.ii_le_f hc12) ?_
     refine zS Ad W 2 (st' := (130, [vR 1, none, none, vI (if (32:Int32) < (if x1 < (4:Int32) then (4:Int32) else x1) then (32:Int32) else (if x1 < (4:Int32) then (4:Int32) else x1)), vI (16:Int32)], [], (H0x0 s ob0 (List.replicate 128 0) (List.replicate 32 0) (0:Int32) (1:Int32) (2:Int32) (0:Int32) (List.replicate 16 0) (List.replicate 16 0) (List.replicate 16 0) (List.replicate 16 0) (List.replicate 16 0) (List.replicate 64 0)))) rfl ?_
     exact zM [tt,ff,ff,tt,tt] (K11 _ (if_pos hc12).symm)
    ·refine zT Ad W (t := 130) (f := 126) rfl (XT.ii_le_t hc12) ?_
     exact zM [tt,ff,ff,tt,tt] (K11 _ (if_neg hc12).symm)
   rcases em (x2 < (1:Int32)) with hc9 | hc9
   ·refine zF Ad W (t := 119) (f := 116) rfl (XT.ii_ge_f hc9) ?_
    refine zS Ad W 2 (st' := (119, [vR 1, none, vI x2, vI (if (32:Int32) < (if x1 < (4:Int32) then (4:Int32) else x1) then (32:Int32) else (if x1 < (4:Int32) then (4:Int32) else x1)), vI (1:Int32)], [], (H0x0 s ob0 (List.replicate 128 0) (List.replicate 32 0) (0:Int32) (1:Int32) (2:Int32) (0:Int32) (List.replicate 16 0) (List.replicate 16 0) (List.replicate 16 0) (List.replicate 16 0) (List.replicate 16 0) (List.replicate 64 0)))) rfl ?_
    exact zM [tt,ff,ff,tt,tt] (K8 _ (if_pos hc9).symm)
   ·refine zT Ad W (t := 119) (f := 116) rfl (XT.ii_ge_t hc9) ?_
    exact zM [tt,ff,ff,tt,tt] (K8 _ (if_neg hc9).symm)
  rcases em ((32:Int32) < (if x1 < (4:Int32) then (4:Int32) else x1)) with hc6 | hc6
  ·refine zF Ad W (t := 107) (f := 104) rfl (XT.ii_le_f hc6) ?_
   refine zS Ad W 2 (st' := (107, [vR 1, none, vI x2, vI (32:Int32), none], [], (H0x0 s ob0 (List.replicate 128 0) (List.replicate 32 0) (0:Int32) (1:Int32) (2:Int32) (0:Int32) (List.replicate 16 0) (List.replicate 16 0) (List.replicate 16 0) (List.replicate 16 0) (List.replicate 16 0) (List.replicate 64 0)))) rfl ?_
   exact zM [tt,ff,tt,tt,ff] (K5 _ (if_pos hc6).symm)
  ·refine zT Ad W (t := 107) (f := 104) rfl (XT.ii_le_t hc6) ?_
   exact zM [tt,ff,tt,tt,ff] (K5 _ (if_neg hc6).symm)
 rcases em (x1 < (4:Int32)) with hc3 | hc3
 ·refine zF Ad W (t := 98) (f := 96) rfl (XT.ii_ge_f hc3) ?_
  refine zS Ad W 2 (st' := (98, [vR 1, vI x1, vI x2, vI (4:Int32), none], [], (H0x0 s ob0 (List.replicate 128 0) (List.replicate 32 0) (0:Int32) (1:Int32) (2:Int32) (0:Int32) (List.replicate 16 0) (List.replicate 16 0) (List.replicate 16 0) (List.replicate 16 0) (List.replicate 16 0) (List.replicate 64 0)))) rfl ?_
  exact zM [tt,ff,tt,tt,ff] (K2 _ (if_pos hc3).symm)
 ·refine zT Ad W (t := 98) (f := 96) rfl (XT.ii_ge_t hc3) ?_
  exact zM [tt,ff,tt,tt,ff] (K2 _ (if_neg hc3).symm)
/-- validRow(I)Z -/
def F5 (o : Ob) (x1 : Int32) : Option (Int32) :=
 (if x1 < (0:Int32) then some (0:Int32) else (if x1 < (f_nRows o) then some (1:Int32) else some (0:Int32)))
theorem tF5 (Ad : QAd n0 ad) (W : QW Z a0) (s : List Int32) (o : Ob) (x1 : Int32) {r : Int32} (h : F5 o x1 = some r) : QTri l Z n0 ad 5 (0, qentry [.ref 1, .int x1] (pMaxL 5), [], (H0 s o)) (some (Value.int r)) (H0 s o) := by
 unfold F5 at h
 refine zS Ad W 1 (st' := (1, [vR 1, vI x1], [.int x1], (H0 s o))) rfl ?_
 rcases qite h with ⟨hc25, h⟩ | ⟨hc25, h⟩
 ·refine zT Ad W (t := 16) (f := 4) rfl (XT.i0_lt_t hc25) ?_
  refine zS Ad W 1 (st' := (17, [vR 1, vI x1], [.int (0:Int32)], (H0 s o))) rfl ?_
  obtain rfl := Option.some.inj h
  exact QTri.retZ rfl rfl
 ·refine zF Ad W (t := 16) (f := 4) rfl (XT.i0_lt_f hc25) ?_
  refine zS Ad W 3 (st' := (9, [vR 1, vI x1], [.int (f_nRows o), .int x1], (H0 s o))) rfl ?_
  rcases qite h with ⟨hc26, h⟩ | ⟨hc26, h⟩
  ·refine zF Ad W (t := 16) (f := 12) rfl (XT.ii_ge_f hc26) ?_
   refine zS Ad W 2 (st' := (17, [vR 1, vI x1], [.int (1:Int32)], (H0 s o))) rfl ?_
   obtain rfl := Option.some.inj h
   exact QTri.retZ rfl rfl
  ·refine zT Ad W (t := 16) (f := 12) rfl (XT.ii_ge_t hc26) ?_
   refine zS Ad W 1 (st' := (17, [vR 1, vI x1], [.int (0:Int32)], (H0 s o))) rfl ?_
   obtain rfl := Option.some.inj h
   exact QTri.retZ rfl rfl
def H0x4 (s : List Int32) (o0 : Ob) (a0_20 : Int32) : QHeap := H0v s (f_data o0) (f_filled o0) (f_rf o0) (f_cf o0) (f_vf o0) (f_ag o0) (f_fMode o0) (f_fRk o0) (f_fCk o0) (f_prevVal o0) (f_prevFound o0) (f_keys o0) (f_nRows o0) (f_nForms o0) (f_last o0) (f_selUseR o0) (f_selRk o0) (f_selUseC o0) (f_selCk o0) (f_gCount o0) a0_20
def H0x5 (s : List Int32) (o0 : Ob) (a0_19 : Int32) (a0_20 : Int32) : QHeap := H0v s (f_data o0) (f_filled o0) (f_rf o0) (f_cf o0) (f_vf o0) (f_ag o0) (f_fMode o0) (f_fRk o0) (f_fCk o0) (f_prevVal o0) (f_prevFound o0) (f_keys o0) (f_nRows o0) (f_nForms o0) (f_last o0) (f_selUseR o0) (f_selRk o0) (f_selUseC o0) (f_selCk o0) a0_19 a0_20
def J11_152 (o : Ob) (x1 : Int32) (x2 : Int32) (x3 : Int32) (x4 : Int32) (x5 : Int32) (x6 : Int32) (x7 : Int32) (x8 : Int32) (x9 : Int32) : Option (((Int32 × Int32 × Int32 × Int32)) ⊕ (Int32 × Int32 × Int32 × Int32 × Int32)) :=
  some (.inr (x5, x6, x7, x8, (x9 + (1 : Int32))))
theorem tJ11_152 (Ad : QAd n0 ad) (W : QW Z a0) (s : List Int32) (o : Ob) (x1 : Int32) (x2 : Int32) (x3 : Int32) (x4 : Int32) (x5 : Int32) (x6 : Int32) (x7 : Int32) (x8 : Int32) (x9 : Int32) {r : ((Int32 × Int32 × Int32 × Int32)) ⊕ (Int32 × Int32 × Int32 × Int32 × Int32)} {u : Option Value} {τ : QHeap} (h : J11_152 o x1 x2 x3 x4 x5 x6 x7 x8 x9 = some r) (hx0 : ∀ x : Int32 × Int32 × Int32 × Int32, r = .inl x → QTri l Z n0 ad 11 (158, [vR 1, none, none, none, none, vI x.1, vI x.2.1, vI x.2.2.1, vI x.2.2.2, none, none, none], [], (H0 s o)) u τ) (hc : ∀ x : Int32 × Int32 × Int32 × Int32 × Int32, r = .inr x → QTri l Z n0 ad 11 (15, [vR 1, vI x1, vI x2, vI x3, vI x4, vI x.1, vI x.2.1, vI x.2.2.1, vI x.2.2.2.1, vI x.2.2.2.2, none, none], [], (H0 s o)) u τ) : QTri l Z n0 ad 11 (152, [vR 1, vI x1, vI x2, vI x3, vI x4, vI x5, vI x6, vI x7, vI x8, vI x9, none, none], [], (H0 s o)) u τ := by
 unfold J11_152 at h
 refine zS Ad W 2 (st' := (15, [vR 1, vI x1, vI x2, vI x3, vI x4, vI x5, vI x6, vI x7, vI x8, vI (x9 + (1:Int32)), none, none], [], (H0 s o))) rfl ?_
 obtain rfl := Option.some.inj h
 exact zM [tt,tt,tt,tt,tt,tt,tt,tt,tt,tt,ff,ff] (hc (x5, x6, x7, x8, (x9 + (1:Int32))) rfl)
def J11_90 (o : Ob) (x1 : Int32) (x2 : Int32) (x3 : Int32) (x4 : Int32) (x5 : Int32) (x6 : Int32) (x7 : Int32) (x8 : Int32) (x9 : Int32) (x10 : Int32) : Option (((Int32 × Int32 × Int32 × Int32)) ⊕ (Int32 × Int32 × Int32 × Int32 × Int32)) :=
  (aget (f_data o) (x10 + (f_vf o))).bind fun y50 => (J11_152 o x1 x2 x3 x4 (x5 + y50) (x6 + (1 : Int32)) (if x6 = (0 : Int32) then y50 else (if y50 < x7 then y50 else x7)) (if x6 = (0 : Int32) then y50 else (if x8 < y50 then y50 else x8)) x9)
theorem tJ11_90 (Ad : QAd n0 ad) (W : QW Z a0) (s : List Int32) (o : Ob) (x1 : Int32) (x2 : Int32) (x3 : Int32) (x4 : Int32) (x5 : Int32) (x6 : Int32) (x7 : Int32) (x8 : Int32) (x9 : Int32) (x10 : Int32) {r : ((Int32 × Int32 × Int32 × Int32)) ⊕ (Int32 × Int32 × Int32 × Int32 × Int32)} {u : Option Value} {τ : QHeap} (h : J11_90 o x1 x2 x3 x4 x5 x6 x7 x8 x9 x10 = some r) (hx0 : ∀ x : Int32 × Int32 × Int32 × Int32, r = .inl x → QTri l Z n0 ad 11 (158, [vR 1, none, none, none, none, vI x.1, vI x.2.1, vI x.2.2.1, vI x.2.2.2, none, none, none], [], (H0 s o)) u τ) (hc : ∀ x : Int32 × Int32 × Int32 × Int32 × Int32, r = .inr x → QTri l Z n0 ad 11 (15, [vR 1, vI x1, vI x2, vI x3, vI x4, vI x.1, vI x.2.1, vI x.2.2.1, vI x.2.2.2.1, vI x.2.2.2.2, none, none], [], (H0 s o)) u τ) : QTri l Z n0 ad 11 (90, [vR 1, vI x1, vI x2, vI x3, vI x4, vI x5, vI x6, vI x7, vI x8, vI x9, vI x10, none], [], (H0 s o)) u τ := by
 unfold J11_90 at h
 refine zS Ad W 6 (st' := (101, [vR 1, vI x1, vI x2, vI x3, vI x4, vI x5, vI x6, vI x7, vI x8, vI x9, vI x10, none], [.int (x10 + (f_vf o)), .ref 2], (H0 s o))) rfl ?_
 obtain ⟨y50, hy50, h⟩ := bind_eq_some_iff.mp h
 refine zB Ad W (f := fun y50 => (102, [vR 1, vI x1, vI x2, vI x3, vI x4, vI x5, vI x6, vI x7, vI x8, vI x9, vI x10, none], [.int y50], (H0 s o))) rfl hy50 ?_
 refine zS Ad W 2 (st' := (106, [vR 1, vI x1, vI x2, vI x3, vI x4, vI x5, vI x6, vI x7, vI x8, vI x9, vI x10, vI y50], [.int x6], (H0 s o))) rfl ?_
 have K53 : ∀ z51 : Int32, z51 = (if x6 = (0:Int32) then y50 else (if y50 < x7 then y50 else x7)) → ∀ z52 : Int32, z52 = (if x6 = (0:Int32) then y50 else (if x8 < y50 then y50 else x8)) → QTri l Z n0 ad 11 (142, [vR 1, vI x1, vI x2, vI x3, vI x4, vI x5, vI x6, vI z51, vI z52, vI x9, none, vI y50], [], (H0 s o)) u τ := by
  intro z51 ez51
  intro z52 ez52
  subst ez51
  subst ez52
  refine zS Ad W 5 (st' := (152, [vR 1, vI x1, vI x2, vI x3, vI x4, vI (x5 + y50), vI (x6 + (1:Int32)), vI (if x6 = (0:Int32) then y50 else (if y50 < x7 then y50 else x7)), vI (if x6 = (0:Int32) then y50 else (if x8 < y50 then y50 else x8)), vI x9, none, vI y50], [], (H0 s o))) rfl ?_
  exact zM [tt,tt,tt,tt,tt,tt,tt,tt,tt,tt,ff,ff] (tJ11_152 Ad W s o x1 x2 x3 x4 (x5 + y50) (x6 + (1:Int32)) (if x6 = (0:Int32) then y50 else (if y50 < x7 then y50 else x7)) (if x6 = (0:Int32) then y50 else (if x8 < y50 then y50 else x8)) x9 h hx0 hc)
 rcases em (x6 = (0:Int32)) with hc54 | hc54
 ·refine zF Ad W (t := 120) (f := 109) rfl (XT.i0_ne_f hc54) ?_
  refine zS Ad W 4 (st' := (117, [vR 1, vI x1, vI x2, vI x3, vI x4, vI x5, vI x6, vI y50, vI y50, vI x9, vI x10, vI y50], [], (H0 s o))) rfl ?_
  refine zS Ad W 1 (st' := (142, [vR 1, vI x1, vI x2, vI x3, vI x4, vI x5, vI x6, vI y50, vI y50, vI x9, vI x10, vI y50], [], (H0 s o))) rfl ?_
  exact zM [tt,tt,tt,tt,tt,tt,tt,tt,tt,tt,ff,tt] (K53 _ (if_pos hc54).symm _ (if_pos hc54).symm)
 ·refine zT Ad W (t := 120) (f := 109) rfl (XT.i0_ne_t hc54) ?_
  refine zS Ad W 2 (st' := (124, [vR 1, vI x1, vI x2, vI x3, vI x4, vI x5, vI x6, vI x7, vI x8, vI x9, vI x10, vI y50], [.int x7, .int y50], (H0 s o))) rfl ?_
  rcases em (y50 < x7) with hc55 | hc55
  ·refine zF Ad W (t := 131) (f := 127) rfl (XT.ii_ge_f hc55) ?_
   refine zS Ad W 4 (st' := (135, [vR 1, vI x1, vI x2, vI x3, vI x4, vI x5, vI x6, vI y50, vI x8, vI x9, vI x10, vI y50], [.int x8, .int y50], (H0 s o))) rfl ?_
   rcases em (x8 < y50) with hc56 | hc56
   ·refine zF Ad W (t := 142) (f := 138) rfl (XT.ii_le_f hc56) ?_
    refine zS Ad W 2 (st' := (142, [vR 1, vI x1, vI x2, vI x3, vI x4, vI x5, vI x6, vI y50, vI y50, vI x9, vI x10, vI y50], [], (H0 s o))) rfl ?_
    exact zM [tt,tt,tt,tt,tt,tt,tt,tt,tt,tt,ff,tt] (K53 _ ((if_neg hc54).trans (if_pos hc55)).symm _ ((if_neg hc54).trans (if_pos hc56)).symm)
   ·refine zT Ad W (t := 142) (f := 138) rfl (XT.ii_le_t hc56) ?_
    exact zM [tt,tt,tt,tt,tt,tt,tt,tt,tt,tt,ff,tt] (K53 _ ((if_neg hc54).trans (if_pos hc55)).symm _ ((if_neg hc54).trans (if_neg hc56)).symm)
  ·refine zT Ad W (t := 131) (f := 127) rfl (XT.ii_ge_t hc55) ?_
   refine zS Ad W 2 (st' := (135, [vR 1, vI x1, vI x2, vI x3, vI x4, vI x5, vI x6, vI x7, vI x8, vI x9, vI x10, vI y50], [.int x8, .int y50], (H0 s o))) rfl ?_
   rcases em (x8 < y50) with hc57 | hc57
   ·refine zF Ad W (t := 142) (f := 138) rfl (XT.ii_le_f hc57) ?_
    refine zS Ad W 2 (st' := (142, [vR 1, vI x1, vI x2, vI x3, vI x4, vI x5, vI x6, vI x7, vI y50, vI x9, vI x10, vI y50], [], (H0 s o))) rfl ?_
    exact zM [tt,tt,tt,tt,tt,tt,tt,tt,tt,tt,ff,tt] (K53 _ ((if_neg hc54).trans (if_neg hc55)).symm _ ((if_neg hc54).trans (if_pos hc57)).symm)
   ·refine zT Ad W (t := 142) (f := 138) rfl (XT.ii_le_t hc57) ?_
    exact zM [tt,tt,tt,tt,tt,tt,tt,tt,tt,tt,ff,tt] (K53 _ ((if_neg hc54).trans (if_neg hc55)).symm _ ((if_neg hc54).trans (if_neg hc57)).symm)
def J11_66 (o : Ob) (x1 : Int32) (x2 : Int32) (x3 : Int32) (x4 : Int32) (x5 : Int32) (x6 : Int32) (x7 : Int32) (x8 : Int32) (x9 : Int32) (x10 : Int32) : Option (((Int32 × Int32 × Int32 × Int32)) ⊕ (Int32 × Int32 × Int32 × Int32 × Int32)) :=
  (if x3 = (0 : Int32) then (J11_90 o x1 x2 x3 x4 x5 x6 x7 x8 x9 x10) else (aget (f_data o) (x10 + (f_cf o))).bind fun y58 => (if y58 = x4 then (J11_90 o x1 x2 x3 x4 x5 x6 x7 x8 x9 x10) else (J11_152 o x1 x2 x3 x4 x5 x6 x7 x8 x9)))
theorem tJ11_66 (Ad : QAd n0 ad) (W : QW Z a0) (s : List Int32) (o : Ob) (x1 : Int32) (x2 : Int32) (x3 : Int32) (x4 : Int32) (x5 : Int32) (x6 : Int32) (x7 : Int32) (x8 : Int32) (x9 : Int32) (x10 : Int32) {r : ((Int32 × Int32 × Int32 × Int32)) ⊕ (Int32 × Int32 × Int32 × Int32 × Int32)} {u : Option Value} {τ : QHeap} (h : J11_66 o x1 x2 x3 x4 x5 x6 x7 x8 x9 x10 = some r) (hx0 : ∀ x : Int32 × Int32 × Int32 × Int32, r = .inl x → QTri l Z n0 ad 11 (158, [vR 1, none, none, none, none, vI x.1, vI x.2.1, vI x.2.2.1, vI x.2.2.2, none, none, none], [], (H0 s o)) u τ) (hc : ∀ x : Int32 × Int32 × Int32 × Int32 × Int32, r = .inr x → QTri l Z n0 ad 11 (15, [vR 1, vI x1, vI x2, vI x3, vI x4, vI x.1, vI x.2.1, vI x.2.2.1, vI x.2.2.2.1, vI x.2.2.2.2, none, none], [], (H0 s o)) u τ) : QTri l Z n0 ad 11 (66, [vR 1, vI x1, vI x2, vI x3, vI x4, vI x5, vI x6, vI x7, vI x8, vI x9, vI x10, none], [], (H0 s o)) u τ := by
 unfold J11_66 at h
 refine zS Ad W 1 (st' := (67, [vR 1, vI x1, vI x2, vI x3, vI x4, vI x5, vI x6, vI x7, vI x8, vI x9, vI x10, none], [.int x3], (H0 s o))) rfl ?_
 rcases qite h with ⟨hc49, h⟩ | ⟨hc49, h⟩
 ·refine zT Ad W (t := 90) (f := 70) rfl (XT.i0_eq_t hc49) ?_
  exact zM [tt,tt,tt,tt,tt,tt,tt,tt,tt,tt,tt,ff] (tJ11_90 Ad W s o x1 x2 x3 x4 x5 x6 x7 x8 x9 x10 h hx0 hc)
 ·refine zF Ad W (t := 90) (f := 70) rfl (XT.i0_eq_f hc49) ?_
  refine zS Ad W 6 (st' := (81, [vR 1, vI x1, vI x2, vI x3, vI x4, vI x5, vI x6, vI x7, vI x8, vI x9, vI x10, none], [.int (x10 + (f_cf o)), .ref 2], (H0 s o))) rfl ?_
  obtain ⟨y58, hy58, h⟩ := bind_eq_some_iff.mp h
  refine zB Ad W (f := fun y58 => (82, [vR 1, vI x1, vI x2, vI x3, vI x4, vI x5, vI x6, vI x7, vI x8, vI x9, vI x10, none], [.int y58], (H0 s o))) rfl hy58 ?_
  refine zS Ad W 1 (st' := (84, [vR 1, vI x1, vI x2, vI x3, vI x4, vI x5, vI x6, vI x7, vI x8, vI x9, vI x10, none], [.int x4, .int y58], (H0 s o))) rfl ?_
  rcases qite h with ⟨hc59, h⟩ | ⟨hc59, h⟩
  ·refine zT Ad W (t := 90) (f := 87) rfl (XT.ii_eq_t hc59) ?_
   exact zM [tt,tt,tt,tt,tt,tt,tt,tt,tt,tt,tt,ff] (tJ11_90 Ad W s o x1 x2 x3 x4 x5 x6 x7 x8 x9 x10 h hx0 hc)
  ·refine zF Ad W (t := 90) (f := 87) rfl (XT.ii_eq_f hc59) ?_
   refine zS Ad W 1 (st' := (152, [vR 1, vI x1, vI x2, vI x3, vI x4, vI x5, vI x6, vI x7, vI x8, vI x9, vI x10, none], [], (H0 s o))) rfl ?_
   exact zM [tt,tt,tt,tt,tt,tt,tt,tt,tt,tt,ff,ff] (tJ11_152 Ad W s o x1 x2 x3 x4 x5 x6 x7 x8 x9 h hx0 hc)
def B11_15 (o : Ob) (x1 : Int32) (x2 : Int32) (x3 : Int32) (x4 : Int32) (v : Int32 × Int32 × Int32 × Int32 × Int32) : Option (((Int32 × Int32 × Int32 × Int32)) ⊕ (Int32 × Int32 × Int32 × Int32 × Int32)) :=
  (if v.2.2.2.2 < (f_nRows o) then (aget (f_filled o) v.2.2.2.2).bind fun y46 => (if y46 = (0 : Int32) then (J11_152 o x1 x2 x3 x4 v.1 v.2.1 v.2.2.1 v.2.2.2.1 v.2.2.2.2) else (if x1 = (0 : Int32) then (J11_66 o x1 x2 x3 x4 v.1 v.2.1 v.2.2.1 v.2.2.2.1 v.2.2.2.2 (v.2.2.2.2 * (4 : Int32))) else (aget (f_data o) ((v.2.2.2.2 * (4 : Int32)) + (f_rf o))).bind fun y60 => (if y60 = x2 then (J11_66 o x1 x2 x3 x4 v.1 v.2.1 v.2.2.1 v.2.2.2.1 v.2.2.2.2 (v.2.2.2.2 * (4 : Int32))) else (J11_152 o x1 x2 x3 x4 v.1 v.2.1 v.2.2.1 v.2.2.2.1 v.2.2.2.2)))) else some (.inl (v.1, v.2.1, v.2.2.1, v.2.2.2.1)))
theorem tB11_15 (Ad : QAd n0 ad) (W : QW Z a0) (s : List Int32) (o : Ob) (x1 : Int32) (x2 : Int32) (x3 : Int32) (x4 : Int32) (v : Int32 × Int32 × Int32 × Int32 × Int32) {r : ((Int32 × Int32 × Int32 × Int32)) ⊕ (Int32 × Int32 × Int32 × Int32 × Int32)} {u : Option Value} {τ : QHeap} (h : B11_15 o x1 x2 x3 x4 v = some r) (hx0 : ∀ x : Int32 × Int32 × Int32 × Int32, r = .inl x → QTri l Z n0 ad 11 (158, [vR 1, none, none, none, none, vI x.1, vI x.2.1, vI x.2.2.1, vI x.2.2.2, none, none, none], [], (H0 s o)) u τ) (hc : ∀ x : Int32 × Int32 × Int32 × Int32 × Int32, r = .inr x → QTri l Z n0 ad 11 (15, [vR 1, vI x1, vI x2, vI x3, vI x4, vI x.1, vI x.2.1, vI x.2.2.1, vI x.2.2.2.1, vI x.2.2.2.2, none, none], [], (H0 s o)) u τ) : QTri l Z n0 ad 11 (15, [vR 1, vI x1, vI x2, vI x3, vI x4, vI v.1, vI v.2.1, vI v.2.2.1, vI v.2.2.2.1, vI v.2.2.2.2, none, none], [], (H0 s o)) u τ := by
 unfold B11_15 at h
 refine zS Ad W 3 (st' := (21, [vR 1, vI x1, vI x2, vI x3, vI x4, vI v.1, vI v.2.1, vI v.2.2.1, vI v.2.2.2.1, vI v.2.2.2.2, none, none], [.int (f_nRows o), .int v.2.2.2.2], (H0 s o))) rfl ?_
 rcases qite h with ⟨hc45, h⟩ | ⟨hc45, h⟩
 ·refine zF Ad W (t := 158) (f := 24) rfl (XT.ii_ge_f hc45) ?_
  refine zS Ad W 3 (st' := (30, [vR 1, vI x1, vI x2, vI x3, vI x4, vI v.1, vI v.2.1, vI v.2.2.1, vI v.2.2.2.1, vI v.2.2.2.2, none, none], [.int v.2.2.2.2, .ref 3], (H0 s o))) rfl ?_
  obtain ⟨y46, hy46, h⟩ := bind_eq_some_iff.mp h
  refine zB Ad W (f := fun y46 => (31, [vR 1, vI x1, vI x2, vI x3, vI x4, vI v.1, vI v.2.1, vI v.2.2.1, vI v.2.2.2.1, vI v.2.2.2.2, none, none], [.int y46], (H0 s o))) rfl hy46 ?_
  rcases qite h with ⟨hc47, h⟩ | ⟨hc47, h⟩
  ·refine zF Ad W (t := 37) (f := 34) rfl (XT.i0_ne_f hc47) ?_
   refine zS Ad W 1 (st' := (152, [vR 1, vI x1, vI x2, vI x3, vI x4, vI v.1, vI v.2.1, vI v.2.2.1, vI v.2.2.2.1, vI v.2.2.2.2, none, none], [], (H0 s o))) rfl ?_
   exact zM [tt,tt,tt,tt,tt,tt,tt,tt,tt,tt,ff,ff] (tJ11_152 Ad W s o x1 x2 x3 x4 v.1 v.2.1 v.2.2.1 v.2.2.2.1 v.2.2.2.2 h hx0 hc)
  ·refine zT Ad W (t := 37) (f := 34) rfl (XT.i0_ne_t hc47) ?_
   refine zS Ad W 5 (st' := (44, [vR 1, vI x1, vI x2, vI x3, vI x4, vI v.1, vI v.2.1, vI v.2.2.1, vI v.2.2.2.1, vI v.2.2.2.2, vI (v.2.2.2.2 * (4:Int32)), none], [.int x1], (H0 s o))) rfl ?_
   rcases qite h with ⟨hc48, h⟩ | ⟨hc48, h⟩
   ·refine zT Ad W (t := 66) (f := 47) rfl (XT.i0_eq_t hc48) ?_
    exact zM [tt,tt,tt,tt,tt,tt,tt,tt,tt,tt,tt,ff] (tJ11_66 Ad W s o x1 x2 x3 x4 v.1 v.2.1 v.2.2.1 v.2.2.2.1 v.2.2.2.2 (v.2.2.2.2 * (4:Int32)) h hx0 hc)
   ·refine zF Ad W (t := 66) (f := 47) rfl (XT.i0_eq_f hc48) ?_
    refine zS Ad W 6 (st' := (58, [vR 1, vI x1, vI x2, vI x3, vI x4, vI v.1, vI v.2.1, vI v.2.2.1, vI v.2.2.2.1, vI v.2.2.2.2, vI (v.2.2.2.2 * (4:Int32)), none], [.int ((v.2.2.2.2 * (4:Int32)) + (f_rf o)), .ref 2], (H0 s o))) rfl ?_
    obtain ⟨y60, hy60, h⟩ := bind_eq_some_iff.mp h
    refine zB Ad W (f := fun y60 => (59, [vR 1, vI x1, vI x2, vI x3, vI x4, vI v.1, vI v.2.1, vI v.2.2.1, vI v.2.2.2.1, vI v.2.2.2.2, vI (v.2.2.2.2 * (4:Int32)), none], [.int y60], (H0 s o))) rfl hy60 ?_
    refine zS Ad W 1 (st' := (60, [vR 1, vI x1, vI x2, vI x3, vI x4, vI v.1, vI v.2.1, vI v.2.2.1, vI v.2.2.2.1, vI v.2.2.2.2, vI (v.2.2.2.2 * (4:Int32)), none], [.int x2, .int y60], (H0 s o))) rfl ?_
    rcases qite h with ⟨hc61, h⟩ | ⟨hc61, h⟩
    ·refine zT Ad W (t := 66) (f := 63) rfl (XT.ii_eq_t hc61) ?_
     exact zM [tt,tt,tt,tt,tt,tt,tt,tt,tt,tt,tt,ff] (tJ11_66 Ad W s o x1 x2 x3 x4 v.1 v.2.1 v.2.2.1 v.2.2.2.1 v.2.2.2.2 (v.2.2.2.2 * (4:Int32)) h hx0 hc)
    ·refine zF Ad W (t := 66) (f := 63) rfl (XT.ii_eq_f hc61) ?_
     refine zS Ad W 1 (st' := (152, [vR 1, vI x1, vI x2, vI x3, vI x4, vI v.1, vI v.2.1, vI v.2.2.1, vI v.2.2.2.1, vI v.2.2.2.2, vI (v.2.2.2.2 * (4:Int32)), none], [], (H0 s o))) rfl ?_
     exact zM [tt,tt,tt,tt,tt,tt,tt,tt,tt,tt,ff,ff] (tJ11_152 Ad W s o x1 x2 x3 x4 v.1 v.2.1 v.2.2.1 v.2.2.2.1 v.2.2.2.2 h hx0 hc)
 ·refine zT Ad W (t := 158) (f := 24) rfl (XT.ii_ge_t hc45) ?_
  obtain rfl := Option.some.inj h
  exact zM [tt,ff,ff,ff,ff,tt,tt,tt,tt,ff,ff,ff] (hx0 (v.1, v.2.1, v.2.2.1, v.2.2.2.1) rfl)
def H0x6 (s : List Int32) (o0 : Ob) (a0_19 : Int32) : QHeap := H0v s (f_data o0) (f_filled o0) (f_rf o0) (f_cf o0) (f_vf o0) (f_ag o0) (f_fMode o0) (f_fRk o0) (f_fCk o0) (f_prevVal o0) (f_prevFound o0) (f_keys o0) (f_nRows o0) (f_nForms o0) (f_last o0) (f_selUseR o0) (f_selRk o0) (f_selUseC o0) (f_selCk o0) a0_19 (f_gVal o0)
/-- pickAgg(IIII)I -/
def F12 (o : Ob) (x1 : Int32) (x2 : Int32) (x3 : Int32) (x4 : Int32) : Option (Int32) :=
 (if x1 = (0:Int32) then some (0:Int32) else (if (f_ag o) = (1:Int32) then some x1 else (if (f_ag o) = (2:Int32) then some x3 else (if (f_ag o) = (3:Int32) then some x4 else some x2))))
theorem tF12 (Ad : QAd n0 ad) (W : QW Z a0) (s : List Int32) (o : Ob) (x1 : Int32) (x2 : Int32) (x3 : Int32) (x4 : Int32) {r : Int32} (h : F12 o x1 x2 x3 x4 = some r) : QTri l Z n0 ad 12 (0, qentry [.ref 1, .int x1, .int x2, .int x3, .int x4] (pMaxL 12), [], (H0 s o)) (some (Value.int r)) (H0 s o) := by
 unfold F12 at h
 refine zS Ad W 1 (st' := (1, [vR 1, vI x1, vI x2, vI x3, vI x4], [.int x1], (H0 s o))) rfl ?_
 rcases qite h with ⟨hc65, h⟩ | ⟨hc65, h⟩
 ·refine zF Ad W (t := 6) (f := 4) rfl (XT.i0_ne_f hc65) ?_
  refine zS Ad W 1 (st' := (5, [vR 1, vI x1, vI x2, vI x3, vI x4], [.int (0:Int32)], (H0 s o))) rfl ?_
  obtain rfl := Option.some.inj h
  exact QTri.retI rfl rfl
 ·refine zT Ad W (t := 6) (f := 4) rfl (XT.i0_ne_t hc65) ?_
  refine zS Ad W 3 (st' := (11, [vR 1, vI x1, vI x2, vI x3, vI x4], [.int (1:Int32), .int (f_ag o)], (H0 s o))) rfl ?_
  rcases qite h with ⟨hc66, h⟩ | ⟨hc66, h⟩
  ·refine zF Ad W (t := 16) (f := 14) rfl (XT.ii_ne_f hc66) ?_
   refine zS Ad W 1 (st' := (15, [vR 1, vI x1, vI x2, vI x3, vI x4], [.int x1], (H0 s o))) rfl ?_
   obtain rfl := Option.some.inj h
   exact QTri.retI rfl rfl
  ·refine zT Ad W (t := 16) (f := 14) rfl (XT.ii_ne_t hc66) ?_
   refine zS Ad W 3 (st' := (21, [vR 1, vI x1, vI x2, vI x3, vI x4], [.int (2:Int32), .int (f_ag o)], (H0 s o))) rfl ?_
   rcases qite h with ⟨hc67, h⟩ | ⟨hc67, h⟩
   ·refine zF Ad W (t := 26) (f := 24) rfl (XT.ii_ne_f hc67) ?_
    refine zS Ad W 1 (st' := (25, [vR 1, vI x1, vI x2, vI x3, vI x4], [.int x3], (H0 s o))) rfl ?_
    obtain rfl := Option.some.inj h
    exact QTri.retI rfl rfl
   ·refine zT Ad W (t := 26) (f := 24) rfl (XT.ii_ne_t hc67) ?_
    refine zS Ad W 3 (st' := (31, [vR 1, vI x1, vI x2, vI x3, vI x4], [.int (3:Int32), .int (f_ag o)], (H0 s o))) rfl ?_
    rcases qite h with ⟨hc68, h⟩ | ⟨hc68, h⟩
    ·refine zF Ad W (t := 37) (f := 34) rfl (XT.ii_ne_f hc68) ?_
     refine zS Ad W 1 (st' := (36, [vR 1, vI x1, vI x2, vI x3, vI x4], [.int x4], (H0 s o))) rfl ?_
     obtain rfl := Option.some.inj h
     exact QTri.retI rfl rfl
    ·refine zT Ad W (t := 37) (f := 34) rfl (XT.ii_ne_t hc68) ?_
     refine zS Ad W 1 (st' := (38, [vR 1, vI x1, vI x2, vI x3, vI x4], [.int x2], (H0 s o))) rfl ?_
     obtain rfl := Option.some.inj h
     exact QTri.retI rfl rfl
/-- evalGroup(ZIZI)V -/
def F11 (o : Ob) (x1 : Int32) (x2 : Int32) (x3 : Int32) (x4 : Int32) : Option (Ob) :=
 (loopN (B11_15 o x1 x2 x3 x4) qN ((0:Int32), (0:Int32), (0:Int32), (0:Int32), (0:Int32))).bind fun e62 => (F12 (s_gCount o e62.2.1) e62.2.1 e62.1 e62.2.2.1 e62.2.2.2).bind fun r69 => some (s_gVal (s_gCount o e62.2.1) r69)
theorem tF11 (Ad : QAd n0 ad) (W : QW Z a0) (s : List Int32) (o : Ob) (x1 : Int32) (x2 : Int32) (x3 : Int32) (x4 : Int32) {r : Ob} (h : F11 o x1 x2 x3 x4 = some r) : QTri l Z n0 ad 11 (0, qentry [.ref 1, .int x1, .int x2, .int x3, .int x4] (pMaxL 11), [], (H0 s o)) (none : Option Value) (H0 s r) := by
 unfold F11 at h
 refine zS Ad W 4 (st' := (6, [vR 1, vI x1, vI x2, vI x3, vI x4, vI (0:Int32), vI (0:Int32), none, none, none, none, none], [], (H0 s o))) rfl ?_
 refine zS Ad W 4 (st' := (12, [vR 1, vI x1, vI x2, vI x3, vI x4, vI (0:Int32), vI (0:Int32), vI (0:Int32), vI (0:Int32), none, none, none], [], (H0 s o))) rfl ?_
 refine zS Ad W 2 (st' := (15, [vR 1, vI x1, vI x2, vI x3, vI x4, vI (0:Int32), vI (0:Int32), vI (0:Int32), vI (0:Int32), vI (0:Int32), none, none], [], (H0 s o))) rfl ?_
 obtain ⟨e62, he62, h⟩ := bind_eq_some_iff.mp h
 refine zM [tt,tt,tt,tt,tt,tt,tt,tt,tt,tt,ff,ff] (loopN_tri (B := B11_15 o x1 x2 x3 x4) (T := fun lv63 => QTri l Z n0 ad 11 (15, [vR 1, vI x1, vI x2, vI x3, vI x4, vI lv63.1, vI lv63.2.1, vI lv63.2.2.1, vI lv63.2.2.2.1, vI lv63.2.2.2.2, none, none], [], (H0 s o)) (none : Option Value) (H0 s r)) (KE := fun e62a => QTri l Z n0 ad 11 (158, [vR 1, none, none, none, none, vI e62a.1, vI e62a.2.1, vI e62a.2.2.1, vI e62a.2.2.2, none, none, none], [], (H0 s o)) (none : Option Value) (H0 s r)) (fun lv63 r hB hE hC => tB11_15 Ad W s o x1 x2 x3 x4 lv63 hB (fun x q => hE _ q) (fun x q => hC x q)) qN ((0:Int32), (0:Int32), (0:Int32), (0:Int32), (0:Int32)) e62 he62 ?_)
 refine zS Ad W 3 (st' := (164, [vR 1, none, none, none, none, vI e62.1, vI e62.2.1, vI e62.2.2.1, vI e62.2.2.2, none, none, none], [], (H0x6 s o e62.2.1))) rfl ?_
 refine zS Ad W 6 (st' := (174, [vR 1, none, none, none, none, vI e62.1, vI e62.2.1, vI e62.2.2.1, vI e62.2.2.2, none, none, none], [.int e62.2.2.2, .int e62.2.2.1, .int e62.1, .int e62.2.1, .ref 1, .ref 1], (H0x6 s o e62.2.1))) rfl ?_
 have E64 : ((H0x6 s o e62.2.1) : QHeap) = (H0 s (s_gCount o e62.2.1)) := by simp only [fs, H0, H0v, H0x6, s_gCount]
 rw [E64]
 obtain ⟨r69, hr69, h⟩ := bind_eq_some_iff.mp h
 refine QTri.callP W (a := 1) (as := [.int e62.2.1, .int e62.1, .int e62.2.2.1, .int e62.2.2.2]) (rest := [.ref 1]) (w := (some (.int r69))) (σ₁ := (H0 s (s_gCount o e62.2.1))) rfl rfl rfl rfl rfl rfl rfl rfl (tF12 Ad W s (s_gCount o e62.2.1) e62.2.1 e62.1 e62.2.2.1 e62.2.2.2 hr69) ?_
 refine zS Ad W 1 (st' := (180, [vR 1, none, none, none, none, vI e62.1, vI e62.2.1, vI e62.2.2.1, vI e62.2.2.2, none, none, none], [], (H0x4 s (s_gCount o e62.2.1) r69))) rfl ?_
 have E70 : ((H0x4 s (s_gCount o e62.2.1) r69) : QHeap) = (H0 s (s_gVal (s_gCount o e62.2.1) r69)) := (show ∀ b0 : Ob, ((H0x4 s b0 r69) : QHeap) = (H0 s (s_gVal b0 r69)) from fun b0 => by simp only [fs, H0, H0v, H0x4, s_gVal]) (s_gCount o e62.2.1)
 rw [E70]
 obtain rfl := Option.some.inj h
 exact QTri.ret0 rfl rfl
/-- evalFormula(I)V -/
def F17 (o : Ob) (x1 : Int32) : Option (Ob) :=
 (aget (f_fMode o) x1).bind fun y32 => (if y32 = (0:Int32) then some (s_gCount (s_gVal o (0:Int32)) (0:Int32)) else (aget (f_fRk o) x1).bind fun y43 => (aget (f_fCk o) x1).bind fun y44 => (F11 o (if y32 = (1:Int32) then (1:Int32) else (if y32 = (2:Int32) then (1:Int32) else (0:Int32))) y43 (if y32 = (1:Int32) then (1:Int32) else (if y32 = (3:Int32) then (1:Int32) else (0:Int32))) y44).bind fun r71 => some r71)
theorem tF17 (Ad : QAd n0 ad) (W : QW Z a0) (s : List Int32) (o : Ob) (x1 : Int32) {r : Ob} (h : F17 o x1 = some r) : QTri l Z n0 ad 17 (0, qentry [.ref 1, .int x1] (pMaxL 17), [], (H0 s o)) (none : Option Value) (H0 s r) := by
 unfold F17 at h
 refine zS Ad W 3 (st' := (5, [vR 1, vI x1, none, none, none], [.int x1, .ref 4], (H0 s o))) rfl ?_
 obtain ⟨y32, hy32, h⟩ := bind_eq_some_iff.mp h
 refine zB Ad W (f := fun y32 => (6, [vR 1, vI x1, none, none, none], [.int y32], (H0 s o))) rfl hy32 ?_
 refine zS Ad W 2 (st' := (8, [vR 1, vI x1, vI y32, none, none], [.int y32], (H0 s o))) rfl ?_
 rcases qite h with ⟨hc33, h⟩ | ⟨hc33, h⟩
 ·refine zF Ad W (t := 22) (f := 11) rfl (XT.i0_ne_f hc33) ?_
  refine zS Ad W 3 (st' := (16, [vR 1, vI x1, vI y32, none, none], [], (H0x4 s o (0:Int32)))) rfl ?_
  refine zS Ad W 3 (st' := (21, [vR 1, vI x1, vI y32, none, none], [], (H0x5 s o (0:Int32) (0:Int32)))) rfl ?_
  have E34 : ((H0x5 s o (0:Int32) (0:Int32)) : QHeap) = (H0 s (s_gCount (s_gVal o (0:Int32)) (0:Int32))) := by simp only [fs, H0, H0v, H0x5, s_gCount, s_gVal]
  rw [E34]
  obtain rfl := Option.some.inj h
  exact QTri.ret0 rfl rfl
 ·refine zT Ad W (t := 22) (f := 11) rfl (XT.i0_ne_t hc33) ?_
  refine zS Ad W 2 (st' := (24, [vR 1, vI x1, vI y32, none, none], [.int (1:Int32), .int y32], (H0 s o))) rfl ?_
  have K36 : ∀ z35 : Int32, z35 = (if y32 = (1:Int32) then (1:Int32) else (if y32 = (2:Int32) then (1:Int32) else (0:Int32))) → QTri l Z n0 ad 17 (37, [vR 1, vI x1, vI y32, none, none], [.int z35], (H0 s o)) (none : Option Value) (H0 s r) := by
   intro z35 ez35
   subst ez35
   refine zS Ad W 3 (st' := (40, [vR 1, vI x1, vI y32, vI (if y32 = (1:Int32) then (1:Int32) else (if y32 = (2:Int32) then (1:Int32) else (0:Int32))), none], [.int (1:Int32), .int y32], (H0 s o))) rfl ?_
   have K40 : ∀ z39 : Int32, z39 = (if y32 = (1:Int32) then (1:Int32) else (if y32 = (3:Int32) then (1:Int32) else (0:Int32))) → QTri l Z n0 ad 17 (53, [vR 1, vI x1, none, vI (if y32 = (1:Int32) then (1:Int32) else (if y32 = (2:Int32) then (1:Int32) else (0:Int32))), none], [.int z39], (H0 s o)) (none : Option Value) (H0 s r) := by
    intro z39 ez39
    subst ez39
    refine zS Ad W 6 (st' := (62, [vR 1, vI x1, none, vI (if y32 = (1:Int32) then (1:Int32) else (if y32 = (2:Int32) then (1:Int32) else (0:Int32))), vI (if y32 = (1:Int32) then (1:Int32) else (if y32 = (3:Int32) then (1:Int32) else (0:Int32)))], [.int x1, .ref 5, .int (if y32 = (1:Int32) then (1:Int32) else (if y32 = (2:Int32) then (1:Int32) else (0:Int32))), .ref 1], (H0 s o))) rfl ?_
    obtain ⟨y43, hy43, h⟩ := bind_eq_some_iff.mp h
    refine zB Ad W (f := fun y43 => (63, [vR 1, vI x1, none, vI (if y32 = (1:Int32) then (1:Int32) else (if y32 = (2:Int32) then (1:Int32) else (0:Int32))), vI (if y32 = (1:Int32) then (1:Int32) else (if y32 = (3:Int32) then (1:Int32) else (0:Int32)))], [.int y43, .int (if y32 = (1:Int32) then (1:Int32) else (if y32 = (2:Int32) then (1:Int32) else (0:Int32))), .ref 1], (H0 s o))) rfl hy43 ?_
    refine zS Ad W 4 (st' := (70, [vR 1, vI x1, none, vI (if y32 = (1:Int32) then (1:Int32) else (if y32 = (2:Int32) then (1:Int32) else (0:Int32))), vI (if y32 = (1:Int32) then (1:Int32) else (if y32 = (3:Int32) then (1:Int32) else (0:Int32)))], [.int x1, .ref 6, .int (if y32 = (1:Int32) then (1:Int32) else (if y32 = (3:Int32) then (1:Int32) else (0:Int32))), .int y43, .int (if y32 = (1:Int32) then (1:Int32) else (if y32 = (2:Int32) then (1:Int32) else (0:Int32))), .ref 1], (H0 s o))) rfl ?_
    obtain ⟨y44, hy44, h⟩ := bind_eq_some_iff.mp h
    refine zB Ad W (f := fun y44 => (71, [vR 1, vI x1, none, vI (if y32 = (1:Int32) then (1:Int32) else (if y32 = (2:Int32) then (1:Int32) else (0:Int32))), vI (if y32 = (1:Int32) then (1:Int32) else (if y32 = (3:Int32) then (1:Int32) else (0:Int32)))], [.int y44, .int (if y32 = (1:Int32) then (1:Int32) else (if y32 = (3:Int32) then (1:Int32) else (0:Int32))), .int y43, .int (if y32 = (1:Int32) then (1:Int32) else (if y32 = (2:Int32) then (1:Int32) else (0:Int32))), .ref 1], (H0 s o))) rfl hy44 ?_
    obtain ⟨r71, hr71, h⟩ := bind_eq_some_iff.mp h
    refine QTri.callP W (a := 1) (as := [.int (if y32 = (1:Int32) then (1:Int32) else (if y32 = (2:Int32) then (1:Int32) else (0:Int32))), .int y43, .int (if y32 = (1:Int32) then (1:Int32) else (if y32 = (3:Int32) then (1:Int32) else (0:Int32))), .int y44]) (rest := []) (w := none) (σ₁ := (H0 s r71)) rfl rfl rfl rfl rfl rfl rfl rfl (tF11 Ad W s o (if y32 = (1:Int32) then (1:Int32) else (if y32 = (2:Int32) then (1:Int32) else (0:Int32))) y43 (if y32 = (1:Int32) then (1:Int32) else (if y32 = (3:Int32) then (1:Int32) else (0:Int32))) y44 hr71) ?_
    obtain rfl := Option.some.inj h
    exact QTri.ret0 rfl rfl
   rcases em (y32 = (1:Int32)) with hc41 | hc41
   ·refine zT Ad W (t := 48) (f := 43) rfl (XT.ii_eq_t hc41) ?_
    refine zS Ad W 2 (st' := (53, [vR 1, vI x1, vI y32, vI (if y32 = (1:Int32) then (1:Int32) else (if y32 = (2:Int32) then (1:Int32) else (0:Int32))), none], [.int (1:Int32)], (H0 s o))) rfl ?_
    exact zM [tt,tt,ff,tt,ff] (K40 _ (if_pos hc41).symm)
   ·refine zF Ad W (t := 48) (f := 43) rfl (XT.ii_eq_f hc41) ?_
    refine zS Ad W 2 (st' := (45, [vR 1, vI x1, vI y32, vI (if y32 = (1:Int32) then (1:Int32) else (if y32 = (2:Int32) then (1:Int32) else (0:Int32))), none], [.int (3:Int32), .int y32], (H0 s o))) rfl ?_
    rcases em (y32 = (3:Int32)) with hc42 | hc42
    ·refine zF Ad W (t := 52) (f := 48) rfl (XT.ii_ne_f hc42) ?_
     refine zS Ad W 2 (st' := (53, [vR 1, vI x1, vI y32, vI (if y32 = (1:Int32) then (1:Int32) else (if y32 = (2:Int32) then (1:Int32) else (0:Int32))), none], [.int (1:Int32)], (H0 s o))) rfl ?_
     exact zM [tt,tt,ff,tt,ff] (K40 _ ((if_neg hc41).trans (if_pos hc42)).symm)
    ·refine zT Ad W (t := 52) (f := 48) rfl (XT.ii_ne_t hc42) ?_
     refine zS Ad W 1 (st' := (53, [vR 1, vI x1, vI y32, vI (if y32 = (1:Int32) then (1:Int32) else (if y32 = (2:Int32) then (1:Int32) else (0:Int32))), none], [.int (0:Int32)], (H0 s o))) rfl ?_
     exact zM [tt,tt,ff,tt,ff] (K40 _ ((if_neg hc41).trans (if_neg hc42)).symm)
  rcases em (y32 = (1:Int32)) with hc37 | hc37
  ·refine zT Ad W (t := 32) (f := 27) rfl (XT.ii_eq_t hc37) ?_
   refine zS Ad W 2 (st' := (37, [vR 1, vI x1, vI y32, none, none], [.int (1:Int32)], (H0 s o))) rfl ?_
   exact zM [tt,tt,tt,ff,ff] (K36 _ (if_pos hc37).symm)
  ·refine zF Ad W (t := 32) (f := 27) rfl (XT.ii_eq_f hc37) ?_
   refine zS Ad W 2 (st' := (29, [vR 1, vI x1, vI y32, none, none], [.int (2:Int32), .int y32], (H0 s o))) rfl ?_
   rcases em (y32 = (2:Int32)) with hc38 | hc38
   ·refine zF Ad W (t := 36) (f := 32) rfl (XT.ii_ne_f hc38) ?_
    refine zS Ad W 2 (st' := (37, [vR 1, vI x1, vI y32, none, none], [.int (1:Int32)], (H0 s o))) rfl ?_
    exact zM [tt,tt,tt,ff,ff] (K36 _ ((if_neg hc37).trans (if_pos hc38)).symm)
   ·refine zT Ad W (t := 36) (f := 32) rfl (XT.ii_ne_t hc38) ?_
    refine zS Ad W 1 (st' := (37, [vR 1, vI x1, vI y32, none, none], [.int (0:Int32)], (H0 s o))) rfl ?_
    exact zM [tt,tt,tt,ff,ff] (K36 _ ((if_neg hc37).trans (if_neg hc38)).symm)
def H0x7 (s : List Int32) (o0 : Ob) (a0_9 : List Int32) : QHeap := H0v s (f_data o0) (f_filled o0) (f_rf o0) (f_cf o0) (f_vf o0) (f_ag o0) (f_fMode o0) (f_fRk o0) (f_fCk o0) a0_9 (f_prevFound o0) (f_keys o0) (f_nRows o0) (f_nForms o0) (f_last o0) (f_selUseR o0) (f_selRk o0) (f_selUseC o0) (f_selCk o0) (f_gCount o0) (f_gVal o0)
def H0x8 (s : List Int32) (o0 : Ob) (a0_9 : List Int32) (a0_10 : List Int32) : QHeap := H0v s (f_data o0) (f_filled o0) (f_rf o0) (f_cf o0) (f_vf o0) (f_ag o0) (f_fMode o0) (f_fRk o0) (f_fCk o0) a0_9 a0_10 (f_keys o0) (f_nRows o0) (f_nForms o0) (f_last o0) (f_selUseR o0) (f_selRk o0) (f_selUseC o0) (f_selCk o0) (f_gCount o0) (f_gVal o0)
def B22_2 (v : Int32 × Ob) : Option (((Ob)) ⊕ (Int32 × Ob)) :=
  (if v.1 < (f_nForms v.2) then (F17 v.2 v.1).bind fun r72 => (aset (f_prevVal r72) v.1 (f_gVal r72)).bind fun y73 => (aset (f_prevFound r72) v.1 ((if (0 : Int32) < (f_gCount r72) then (1 : Int32) else (0 : Int32)) &&& 1)).bind fun y77 => some (.inr ((v.1 + (1 : Int32)), (s_prevFound (s_prevVal r72 y73) y77))) else some (.inl v.2))
theorem tB22_2 (Ad : QAd n0 ad) (W : QW Z a0) (s : List Int32) (v : Int32 × Ob) {r : ((Ob)) ⊕ (Int32 × Ob)} {u : Option Value} {τ : QHeap} (h : B22_2 v = some r) (hx0 : ∀ x : Ob, r = .inl x → u = (none : Option Value) ∧ τ = (H0 s x)) (hc : ∀ x : Int32 × Ob, r = .inr x → QTri l Z n0 ad 22 (2, [vR 1, vI x.1], [], (H0 s x.2)) u τ) : QTri l Z n0 ad 22 (2, [vR 1, vI v.1], [], (H0 s v.2)) u τ := by
 unfold B22_2 at h
 refine zS Ad W 3 (st' := (7, [vR 1, vI v.1], [.int (f_nForms v.2), .int v.1], (H0 s v.2))) rfl ?_
 rcases qite h with ⟨hc31, h⟩ | ⟨hc31, h⟩
 ·refine zF Ad W (t := 49) (f := 10) rfl (XT.ii_ge_f hc31) ?_
  refine zS Ad W 2 (st' := (12, [vR 1, vI v.1], [.int v.1, .ref 1], (H0 s v.2))) rfl ?_
  obtain ⟨r72, hr72, h⟩ := bind_eq_some_iff.mp h
  refine QTri.callP W (a := 1) (as := [.int v.1]) (rest := []) (w := none) (σ₁ := (H0 s r72)) rfl rfl rfl rfl rfl rfl rfl rfl (tF17 Ad W s v.2 v.1 hr72) ?_
  refine zS Ad W 5 (st' := (24, [vR 1, vI v.1], [.int (f_gVal r72), .int v.1, .ref 7], (H0 s r72))) rfl ?_
  obtain ⟨y73, hy73, h⟩ := bind_eq_some_iff.mp h
  refine zB Ad W (f := fun y73 => (25, [vR 1, vI v.1], [], (H0x7 s r72 y73))) rfl hy73 ?_
  refine zS Ad W 5 (st' := (34, [vR 1, vI v.1], [.int (f_gCount r72), .int v.1, .ref 8], (H0x7 s r72 y73))) rfl ?_
  have K75 : ∀ z74 : Int32, z74 = (if (0:Int32) < (f_gCount r72) then (1:Int32) else (0:Int32)) → QTri l Z n0 ad 22 (42, [vR 1, vI v.1], [.int z74, .int v.1, .ref 8], (H0x7 s r72 y73)) u τ := by
   intro z74 ez74
   subst ez74
   obtain ⟨y77, hy77, h⟩ := bind_eq_some_iff.mp h
   refine zB Ad W (f := fun y77 => (43, [vR 1, vI v.1], [], (H0x8 s r72 y73 y77))) rfl hy77 ?_
   refine zS Ad W 2 (st' := (2, [vR 1, vI (v.1 + (1:Int32))], [], (H0x8 s r72 y73 y77))) rfl ?_
   have E78 : ((H0x8 s r72 y73 y77) : QHeap) = (H0 s (s_prevFound (s_prevVal r72 y73) y77)) := by simp only [fs, H0, H0v, H0x8, s_prevVal, s_prevFound]
   rw [E78]
   obtain rfl := Option.some.inj h
   exact zM [tt,tt] (hc ((v.1 + (1:Int32)), (s_prevFound (s_prevVal r72 y73) y77)) rfl)
  rcases em ((0:Int32) < (f_gCount r72)) with hc76 | hc76
  ·refine zF Ad W (t := 41) (f := 37) rfl (XT.i0_le_f hc76) ?_
   refine zS Ad W 2 (st' := (42, [vR 1, vI v.1], [.int (1:Int32), .int v.1, .ref 8], (H0x7 s r72 y73))) rfl ?_
   exact zM [tt,tt] (K75 _ (if_pos hc76).symm)
  ·refine zT Ad W (t := 41) (f := 37) rfl (XT.i0_le_t hc76) ?_
   refine zS Ad W 1 (st' := (42, [vR 1, vI v.1], [.int (0:Int32), .int v.1, .ref 8], (H0x7 s r72 y73))) rfl ?_
   exact zM [tt,tt] (K75 _ (if_neg hc76).symm)
 ·refine zT Ad W (t := 49) (f := 10) rfl (XT.ii_ge_t hc31) ?_
  obtain rfl := Option.some.inj h
  obtain ⟨rfl, rfl⟩ := hx0 v.2 rfl
  exact QTri.ret0 rfl rfl
/-- snapshot()V -/
def F22 (o : Ob) : Option (Ob) :=
 (loopN (B22_2) qN ((0:Int32), o)).bind fun e79 => some e79
theorem tF22 (Ad : QAd n0 ad) (W : QW Z a0) (s : List Int32) (o : Ob) {r : Ob} (h : F22 o = some r) : QTri l Z n0 ad 22 (0, qentry [.ref 1] (pMaxL 22), [], (H0 s o)) (none : Option Value) (H0 s r) := by
 unfold F22 at h
 refine zS Ad W 2 (st' := (2, [vR 1, vI (0:Int32)], [], (H0 s o))) rfl ?_
 obtain ⟨e79, he79, h⟩ := bind_eq_some_iff.mp h
 refine zM [tt,tt] (loopN_tri (B := B22_2) (T := fun lv80 => QTri l Z n0 ad 22 (2, [vR 1, vI lv80.1], [], (H0 s lv80.2)) (none : Option Value) (H0 s r)) (KE := fun e79a => (none : Option Value) = (none : Option Value) ∧ (H0 s r) = (H0 s e79a)) (fun lv80 r hB hE hC => tB22_2 Ad W s lv80 hB (fun x q => hE _ q) (fun x q => hC x q)) qN ((0:Int32), o) e79 he79 ?_)
 obtain rfl := Option.some.inj h
 exact ⟨rfl, rfl⟩
def H0x9 (s : List Int32) (o0 : Ob) (a0_0 : List Int32) : QHeap := H0v s a0_0 (f_filled o0) (f_rf o0) (f_cf o0) (f_vf o0) (f_ag o0) (f_fMode o0) (f_fRk o0) (f_fCk o0) (f_prevVal o0) (f_prevFound o0) (f_keys o0) (f_nRows o0) (f_nForms o0) (f_last o0) (f_selUseR o0) (f_selRk o0) (f_selUseC o0) (f_selCk o0) (f_gCount o0) (f_gVal o0)
def H0x10 (s : List Int32) (o0 : Ob) (a0_0 : List Int32) (a0_1 : List Int32) : QHeap := H0v s a0_0 a0_1 (f_rf o0) (f_cf o0) (f_vf o0) (f_ag o0) (f_fMode o0) (f_fRk o0) (f_fCk o0) (f_prevVal o0) (f_prevFound o0) (f_keys o0) (f_nRows o0) (f_nForms o0) (f_last o0) (f_selUseR o0) (f_selRk o0) (f_selUseC o0) (f_selCk o0) (f_gCount o0) (f_gVal o0)
def J23_56 (o : Ob) (x1 : Int32) (x2 : Int32) : Option (((Int32 × Ob)) ⊕ (Int32 × Int32 × Ob)) :=
  some (.inr (x1, (x2 + (1 : Int32)), o))
theorem tJ23_56 (Ad : QAd n0 ad) (W : QW Z a0) (s : List Int32) (o : Ob) (x1 : Int32) (x2 : Int32) {r : ((Int32 × Ob)) ⊕ (Int32 × Int32 × Ob)} {u : Option Value} {τ : QHeap} (h : J23_56 o x1 x2 = some r) (hx0 : ∀ x : Int32 × Ob, r = .inl x → u = (some (Value.int x.1)) ∧ τ = (H0 s x.2)) (hc : ∀ x : Int32 × Int32 × Ob, r = .inr x → QTri l Z n0 ad 23 (4, [vR 1, vI x.1, vI x.2.1, none], [], (H0 s x.2.2)) u τ) : QTri l Z n0 ad 23 (56, [vR 1, vI x1, vI x2, none], [], (H0 s o)) u τ := by
 unfold J23_56 at h
 refine zS Ad W 2 (st' := (4, [vR 1, vI x1, vI (x2 + (1:Int32)), none], [], (H0 s o))) rfl ?_
 obtain rfl := Option.some.inj h
 exact zM [tt,tt,tt,ff] (hc (x1, (x2 + (1:Int32)), o) rfl)
def J23_53 (o : Ob) (x1 : Int32) (x2 : Int32) : Option (((Int32 × Ob)) ⊕ (Int32 × Int32 × Ob)) :=
  (J23_56 o (x1 + (1 : Int32)) x2)
theorem tJ23_53 (Ad : QAd n0 ad) (W : QW Z a0) (s : List Int32) (o : Ob) (x1 : Int32) (x2 : Int32) {r : ((Int32 × Ob)) ⊕ (Int32 × Int32 × Ob)} {u : Option Value} {τ : QHeap} (h : J23_53 o x1 x2 = some r) (hx0 : ∀ x : Int32 × Ob, r = .inl x → u = (some (Value.int x.1)) ∧ τ = (H0 s x.2)) (hc : ∀ x : Int32 × Int32 × Ob, r = .inr x → QTri l Z n0 ad 23 (4, [vR 1, vI x.1, vI x.2.1, none], [], (H0 s x.2.2)) u τ) : QTri l Z n0 ad 23 (53, [vR 1, vI x1, vI x2, none], [], (H0 s o)) u τ := by
 unfold J23_53 at h
 refine zS Ad W 1 (st' := (56, [vR 1, vI (x1 + (1:Int32)), vI x2, none], [], (H0 s o))) rfl ?_
 exact zM [tt,tt,tt,ff] (tJ23_56 Ad W s o (x1 + (1:Int32)) x2 h hx0 hc)
def B23_4 (v : Int32 × Int32 × Ob) : Option (((Int32 × Ob)) ⊕ (Int32 × Int32 × Ob)) :=
  (if v.2.1 < (f_nForms v.2.2) then (F17 v.2.2 v.2.1).bind fun r86 => (aget (f_prevVal r86) v.2.1).bind fun y90 => (if (f_gVal r86) = y90 then (aget (f_prevFound r86) v.2.1).bind fun y92 => some (.inr ((if (if (0 : Int32) < (f_gCount r86) then (1 : Int32) else (0 : Int32)) = y92 then v.1 else (v.1 + (1 : Int32))), (v.2.1 + (1 : Int32)), r86)) else (J23_53 r86 v.1 v.2.1)) else some (.inl (v.1, v.2.2)))
theorem tB23_4 (Ad : QAd n0 ad) (W : QW Z a0) (s : List Int32) (v : Int32 × Int32 × Ob) {r : ((Int32 × Ob)) ⊕ (Int32 × Int32 × Ob)} {u : Option Value} {τ : QHeap} (h : B23_4 v = some r) (hx0 : ∀ x : Int32 × Ob, r = .inl x → u = (some (Value.int x.1)) ∧ τ = (H0 s x.2)) (hc : ∀ x : Int32 × Int32 × Ob, r = .inr x → QTri l Z n0 ad 23 (4, [vR 1, vI x.1, vI x.2.1, none], [], (H0 s x.2.2)) u τ) : QTri l Z n0 ad 23 (4, [vR 1, vI v.1, vI v.2.1, none], [], (H0 s v.2.2)) u τ := by
 unfold B23_4 at h
 refine zS Ad W 3 (st' := (9, [vR 1, vI v.1, vI v.2.1, none], [.int (f_nForms v.2.2), .int v.2.1], (H0 s v.2.2))) rfl ?_
 rcases qite h with ⟨hc85, h⟩ | ⟨hc85, h⟩
 ·refine zF Ad W (t := 62) (f := 12) rfl (XT.ii_ge_f hc85) ?_
  refine zS Ad W 2 (st' := (14, [vR 1, vI v.1, vI v.2.1, none], [.int v.2.1, .ref 1], (H0 s v.2.2))) rfl ?_
  obtain ⟨r86, hr86, h⟩ := bind_eq_some_iff.mp h
  refine QTri.callP W (a := 1) (as := [.int v.2.1]) (rest := []) (w := none) (σ₁ := (H0 s r86)) rfl rfl rfl rfl rfl rfl rfl rfl (tF17 Ad W s v.2.2 v.2.1 hr86) ?_
  refine zS Ad W 2 (st' := (21, [vR 1, vI v.1, vI v.2.1, none], [.int (f_gCount r86)], (H0 s r86))) rfl ?_
  have K88 : ∀ z87 : Int32, z87 = (if (0:Int32) < (f_gCount r86) then (1:Int32) else (0:Int32)) → QTri l Z n0 ad 23 (29, [vR 1, vI v.1, vI v.2.1, none], [.int z87], (H0 s r86)) u τ := by
   intro z87 ez87
   subst ez87
   refine zS Ad W 6 (st' := (39, [vR 1, vI v.1, vI v.2.1, vI (if (0:Int32) < (f_gCount r86) then (1:Int32) else (0:Int32))], [.int v.2.1, .ref 7, .int (f_gVal r86)], (H0 s r86))) rfl ?_
   obtain ⟨y90, hy90, h⟩ := bind_eq_some_iff.mp h
   refine zB Ad W (f := fun y90 => (40, [vR 1, vI v.1, vI v.2.1, vI (if (0:Int32) < (f_gCount r86) then (1:Int32) else (0:Int32))], [.int y90, .int (f_gVal r86)], (H0 s r86))) rfl hy90 ?_
   rcases qite h with ⟨hc91, h⟩ | ⟨hc91, h⟩
   ·refine zF Ad W (t := 53) (f := 43) rfl (XT.ii_ne_f hc91) ?_
    refine zS Ad W 4 (st' := (49, [vR 1, vI v.1, vI v.2.1, vI (if (0:Int32) < (f_gCount r86) then (1:Int32) else (0:Int32))], [.int v.2.1, .ref 8, .int (if (0:Int32) < (f_gCount r86) then (1:Int32) else (0:Int32))], (H0 s r86))) rfl ?_
    obtain ⟨y92, hy92, h⟩ := bind_eq_some_iff.mp h
    refine zB Ad W (f := fun y92 => (50, [vR 1, vI v.1, vI v.2.1, vI (if (0:Int32) < (f_gCount r86) then (1:Int32) else (0:Int32))], [.int y92, .int (if (0:Int32) < (f_gCount r86) then (1:Int32) else (0:Int32))], (H0 s r86))) rfl hy92 ?_
    have K94 : ∀ z93 : Int32, z93 = (if (if (0:Int32) < (f_gCount r86) then (1:Int32) else (0:Int32)) = y92 then v.1 else (v.1 + (1:Int32))) → QTri l Z n0 ad 23 (56, [vR 1, vI z93, vI v.2.1, none], [], (H0 s r86)) u τ := by
     intro z93 ez93
     subst ez93
     refine zS Ad W 2 (st' := (4, [vR 1, vI (if (if (0:Int32) < (f_gCount r86) then (1:Int32) else (0:Int32)) = y92 then v.1 else (v.1 + (1:Int32))), vI (v.2.1 + (1:Int32)), none], [], (H0 s r86))) rfl ?_
     obtain rfl := Option.some.inj h
     exact zM [tt,tt,tt,ff] (hc ((if (if (0:Int32) < (f_gCount r86) then (1:Int32) else (0:Int32)) = y92 then v.1 else (v.1 + (1:Int32))), (v.2.1 + (1:Int32)), r86) rfl)
    rcases em ((if (0:Int32) < (f_gCount r86) then (1:Int32) else (0:Int32)) = y92) with hc95 | hc95
    ·refine zT Ad W (t := 56) (f := 53) rfl (XT.ii_eq_t hc95) ?_
     exact zM [tt,tt,tt,ff] (K94 _ (if_pos hc95).symm)
    ·refine zF Ad W (t := 56) (f := 53) rfl (XT.ii_eq_f hc95) ?_
     refine zS Ad W 1 (st' := (56, [vR 1, vI (v.1 + (1:Int32)), vI v.2.1, vI (if (0:Int32) < (f_gCount r86) then (1:Int32) else (0:Int32))], [], (H0 s r86))) rfl ?_
     exact zM [tt,tt,tt,ff] (K94 _ (if_neg hc95).symm)
   ·refine zT Ad W (t := 53) (f := 43) rfl (XT.ii_ne_t hc91) ?_
    exact zM [tt,tt,tt,ff] (tJ23_53 Ad W s r86 v.1 v.2.1 h hx0 hc)
  rcases em ((0:Int32) < (f_gCount r86)) with hc89 | hc89
  ·refine zF Ad W (t := 28) (f := 24) rfl (XT.i0_le_f hc89) ?_
   refine zS Ad W 2 (st' := (29, [vR 1, vI v.1, vI v.2.1, none], [.int (1:Int32)], (H0 s r86))) rfl ?_
   exact zM [tt,tt,tt,ff] (K88 _ (if_pos hc89).symm)
  ·refine zT Ad W (t := 28) (f := 24) rfl (XT.i0_le_t hc89) ?_
   refine zS Ad W 1 (st' := (29, [vR 1, vI v.1, vI v.2.1, none], [.int (0:Int32)], (H0 s r86))) rfl ?_
   exact zM [tt,tt,tt,ff] (K88 _ (if_neg hc89).symm)
 ·refine zT Ad W (t := 62) (f := 12) rfl (XT.ii_ge_t hc85) ?_
  refine zS Ad W 1 (st' := (63, [vR 1, vI v.1, vI v.2.1, none], [.int v.1], (H0 s v.2.2))) rfl ?_
  obtain rfl := Option.some.inj h
  obtain ⟨rfl, rfl⟩ := hx0 (v.1, v.2.2) rfl
  exact QTri.retI rfl rfl
/-- countChanged()I -/
def F23 (o : Ob) : Option (Int32 × Ob) :=
 (loopN (B23_4) qN ((0:Int32), (0:Int32), o)).bind fun e96 => some e96
theorem tF23 (Ad : QAd n0 ad) (W : QW Z a0) (s : List Int32) (o : Ob) {r : Int32 × Ob} (h : F23 o = some r) : QTri l Z n0 ad 23 (0, qentry [.ref 1] (pMaxL 23), [], (H0 s o)) (some (Value.int r.1)) (H0 s r.2) := by
 unfold F23 at h
 refine zS Ad W 4 (st' := (4, [vR 1, vI (0:Int32), vI (0:Int32), none], [], (H0 s o))) rfl ?_
 obtain ⟨e96, he96, h⟩ := bind_eq_some_iff.mp h
 refine zM [tt,tt,tt,ff] (loopN_tri (B := B23_4) (T := fun lv97 => QTri l Z n0 ad 23 (4, [vR 1, vI lv97.1, vI lv97.2.1, none], [], (H0 s lv97.2.2)) (some (Value.int r.1)) (H0 s r.2)) (KE := fun e96a => (some (Value.int r.1)) = (some (Value.int e96a.1)) ∧ (H0 s r.2) = (H0 s e96a.2)) (fun lv97 r hB hE hC => tB23_4 Ad W s lv97 hB (fun x q => hE _ q) (fun x q => hC x q)) qN ((0:Int32), (0:Int32), o) e96 he96 ?_)
 obtain rfl := Option.some.inj h
 exact ⟨rfl, rfl⟩
def H0x11 (s : List Int32) (o0 : Ob) (a0_14 : Int32) : QHeap := H0v s (f_data o0) (f_filled o0) (f_rf o0) (f_cf o0) (f_vf o0) (f_ag o0) (f_fMode o0) (f_fRk o0) (f_fCk o0) (f_prevVal o0) (f_prevFound o0) (f_keys o0) (f_nRows o0) (f_nForms o0) a0_14 (f_selUseR o0) (f_selRk o0) (f_selUseC o0) (f_selCk o0) (f_gCount o0) (f_gVal o0)
/-- setCell(III)Z -/
def F21 (o : Ob) (x1 : Int32) (x2 : Int32) (x3 : Int32) : Option (Int32 × Ob) :=
 (F5 o x1).bind fun r27 => (if r27 = (0:Int32) then some ((0:Int32), o) else (if x2 < (0:Int32) then some ((0:Int32), o) else (if x2 < (4:Int32) then (F22 o).bind fun r81 => (aset (f_data r81) ((x1 * (4:Int32)) + x2) x3).bind fun y82 => (aset (f_filled r81) x1 (1:Int32)).bind fun y83 => (F23 (s_filled (s_data r81 y82) y83)).bind fun r98 => some ((1:Int32), (s_last r98.2 r98.1)) else some ((0:Int32), o))))
theorem tF21 (Ad : QAd n0 ad) (W : QW Z a0) (s : List Int32) (o : Ob) (x1 : Int32) (x2 : Int32) (x3 : Int32) {r : Int32 × Ob} (h : F21 o x1 x2 x3 = some r) : QTri l Z n0 ad 21 (0, qentry [.ref 1, .int x1, .int x2, .int x3] (pMaxL 21), [], (H0 s o)) (some (Value.int r.1)) (H0 s r.2) := by
 unfold F21 at h
 refine zS Ad W 2 (st' := (2, [vR 1, vI x1, vI x2, vI x3], [.int x1, .ref 1], (H0 s o))) rfl ?_
 obtain ⟨r27, hr27, h⟩ := bind_eq_some_iff.mp h
 refine QTri.callP W (a := 1) (as := [.int x1]) (rest := []) (w := (some (.int r27))) (σ₁ := (H0 s o)) rfl rfl rfl rfl rfl rfl rfl rfl (tF5 Ad W s o x1 hr27) ?_
 rcases qite h with ⟨hc28, h⟩ | ⟨hc28, h⟩
 ·refine zF Ad W (t := 10) (f := 8) rfl (XT.i0_ne_f hc28) ?_
  refine zS Ad W 1 (st' := (9, [vR 1, vI x1, vI x2, vI x3], [.int (0:Int32)], (H0 s o))) rfl ?_
  obtain rfl := Option.some.inj h
  exact QTri.retZ rfl rfl
 ·refine zT Ad W (t := 10) (f := 8) rfl (XT.i0_ne_t hc28) ?_
  refine zS Ad W 1 (st' := (11, [vR 1, vI x1, vI x2, vI x3], [.int x2], (H0 s o))) rfl ?_
  rcases qite h with ⟨hc29, h⟩ | ⟨hc29, h⟩
  ·refine zT Ad W (t := 19) (f := 14) rfl (XT.i0_lt_t hc29) ?_
   refine zS Ad W 1 (st' := (20, [vR 1, vI x1, vI x2, vI x3], [.int (0:Int32)], (H0 s o))) rfl ?_
   obtain rfl := Option.some.inj h
   exact QTri.retZ rfl rfl
  ·refine zF Ad W (t := 19) (f := 14) rfl (XT.i0_lt_f hc29) ?_
   refine zS Ad W 2 (st' := (16, [vR 1, vI x1, vI x2, vI x3], [.int (4:Int32), .int x2], (H0 s o))) rfl ?_
   rcases qite h with ⟨hc30, h⟩ | ⟨hc30, h⟩
   ·refine zT Ad W (t := 21) (f := 19) rfl (XT.ii_lt_t hc30) ?_
    refine zS Ad W 1 (st' := (22, [vR 1, vI x1, vI x2, vI x3], [.ref 1], (H0 s o))) rfl ?_
    obtain ⟨r81, hr81, h⟩ := bind_eq_some_iff.mp h
    refine QTri.callP W (a := 1) (as := []) (rest := []) (w := none) (σ₁ := (H0 s r81)) rfl rfl rfl rfl rfl rfl rfl rfl (tF22 Ad W s o hr81) ?_
    refine zS Ad W 8 (st' := (35, [vR 1, vI x1, vI x2, vI x3], [.int x3, .int ((x1 * (4:Int32)) + x2), .ref 2], (H0 s r81))) rfl ?_
    obtain ⟨y82, hy82, h⟩ := bind_eq_some_iff.mp h
    refine zB Ad W (f := fun y82 => (36, [vR 1, vI x1, vI x2, vI x3], [], (H0x9 s r81 y82))) rfl hy82 ?_
    refine zS Ad W 4 (st' := (42, [vR 1, vI x1, vI x2, vI x3], [.int (1:Int32), .int x1, .ref 3], (H0x9 s r81 y82))) rfl ?_
    obtain ⟨y83, hy83, h⟩ := bind_eq_some_iff.mp h
    refine zB Ad W (f := fun y83 => (43, [vR 1, vI x1, vI x2, vI x3], [], (H0x10 s r81 y82 y83))) rfl hy83 ?_
    refine zS Ad W 2 (st' := (45, [vR 1, vI x1, vI x2, vI x3], [.ref 1, .ref 1], (H0x10 s r81 y82 y83))) rfl ?_
    have E84 : ((H0x10 s r81 y82 y83) : QHeap) = (H0 s (s_filled (s_data r81 y82) y83)) := by simp only [fs, H0, H0v, H0x10, s_data, s_filled]
    rw [E84]
    obtain ⟨r98, hr98, h⟩ := bind_eq_some_iff.mp h
    refine QTri.callP W (a := 1) (as := []) (rest := [.ref 1]) (w := (some (.int r98.1))) (σ₁ := (H0 s r98.2)) rfl rfl rfl rfl rfl rfl rfl rfl (tF23 Ad W s (s_filled (s_data r81 y82) y83) hr98) ?_
    refine zS Ad W 1 (st' := (51, [vR 1, vI x1, vI x2, vI x3], [], (H0x11 s r98.2 r98.1))) rfl ?_
    refine zS Ad W 1 (st' := (52, [vR 1, vI x1, vI x2, vI x3], [.int (1:Int32)], (H0x11 s r98.2 r98.1))) rfl ?_
    have E99 : ((H0x11 s r98.2 r98.1) : QHeap) = (H0 s (s_last r98.2 r98.1)) := by simp only [fs, H0, H0v, H0x11, s_last]
    rw [E99]
    obtain rfl := Option.some.inj h
    exact QTri.retZ rfl rfl
   ·refine zF Ad W (t := 21) (f := 19) rfl (XT.ii_lt_f hc30) ?_
    refine zS Ad W 1 (st' := (20, [vR 1, vI x1, vI x2, vI x3], [.int (0:Int32)], (H0 s o))) rfl ?_
    obtain rfl := Option.some.inj h
    exact QTri.retZ rfl rfl
/-- getCell(II)I -/
def F4 (o : Ob) (x1 : Int32) (x2 : Int32) : Option (Int32) :=
 (F5 o x1).bind fun r112 => (if r112 = (0:Int32) then some (0:Int32) else (if x2 < (0:Int32) then some (0:Int32) else (if x2 < (4:Int32) then (aget (f_data o) ((x1 * (4:Int32)) + x2)).bind fun y116 => some y116 else some (0:Int32))))
theorem tF4 (Ad : QAd n0 ad) (W : QW Z a0) (s : List Int32) (o : Ob) (x1 : Int32) (x2 : Int32) {r : Int32} (h : F4 o x1 x2 = some r) : QTri l Z n0 ad 4 (0, qentry [.ref 1, .int x1, .int x2] (pMaxL 4), [], (H0 s o)) (some (Value.int r)) (H0 s o) := by
 unfold F4 at h
 refine zS Ad W 2 (st' := (2, [vR 1, vI x1, vI x2], [.int x1, .ref 1], (H0 s o))) rfl ?_
 obtain ⟨r112, hr112, h⟩ := bind_eq_some_iff.mp h
 refine QTri.callP W (a := 1) (as := [.int x1]) (rest := []) (w := (some (.int r112))) (σ₁ := (H0 s o)) rfl rfl rfl rfl rfl rfl rfl rfl (tF5 Ad W s o x1 hr112) ?_
 rcases qite h with ⟨hc113, h⟩ | ⟨hc113, h⟩
 ·refine zT Ad W (t := 17) (f := 8) rfl (XT.i0_eq_t hc113) ?_
  refine zS Ad W 1 (st' := (18, [vR 1, vI x1, vI x2], [.int (0:Int32)], (H0 s o))) rfl ?_
  obtain rfl := Option.some.inj h
  exact QTri.retI rfl rfl
 ·refine zF Ad W (t := 17) (f := 8) rfl (XT.i0_eq_f hc113) ?_
  refine zS Ad W 1 (st' := (9, [vR 1, vI x1, vI x2], [.int x2], (H0 s o))) rfl ?_
  rcases qite h with ⟨hc114, h⟩ | ⟨hc114, h⟩
  ·refine zT Ad W (t := 17) (f := 12) rfl (XT.i0_lt_t hc114) ?_
   refine zS Ad W 1 (st' := (18, [vR 1, vI x1, vI x2], [.int (0:Int32)], (H0 s o))) rfl ?_
   obtain rfl := Option.some.inj h
   exact QTri.retI rfl rfl
  ·refine zF Ad W (t := 17) (f := 12) rfl (XT.i0_lt_f hc114) ?_
   refine zS Ad W 2 (st' := (14, [vR 1, vI x1, vI x2], [.int (4:Int32), .int x2], (H0 s o))) rfl ?_
   rcases qite h with ⟨hc115, h⟩ | ⟨hc115, h⟩
   ·refine zT Ad W (t := 19) (f := 17) rfl (XT.ii_lt_t hc115) ?_
    refine zS Ad W 7 (st' := (28, [vR 1, vI x1, vI x2], [.int ((x1 * (4:Int32)) + x2), .ref 2], (H0 s o))) rfl ?_
    obtain ⟨y116, hy116, h⟩ := bind_eq_some_iff.mp h
    refine zB Ad W (f := fun y116 => (29, [vR 1, vI x1, vI x2], [.int y116], (H0 s o))) rfl hy116 ?_
    obtain rfl := Option.some.inj h
    exact QTri.retI rfl rfl
   ·refine zF Ad W (t := 19) (f := 17) rfl (XT.ii_lt_f hc115) ?_
    refine zS Ad W 1 (st' := (18, [vR 1, vI x1, vI x2], [.int (0:Int32)], (H0 s o))) rfl ?_
    obtain rfl := Option.some.inj h
    exact QTri.retI rfl rfl
/-- cell(JII)I -/
def F6 (x0 : Int64) (x2 : Int32) (x3 : Int32) : Option (Int32) :=
 some (((XT.ushrL x0 (((x2 * (4:Int32)) + x3) * (4:Int32))) &&& (15 : Int64)).toInt32)
theorem tF6 (Ad : QAd n0 ad) (W : QW Z a0) {σ : QHeap} (x0 : Int64) (x2 : Int32) (x3 : Int32) {r : Int32} (h : F6 x0 x2 x3 = some r) : QTri l Z n0 ad 6 (0, qentry [.long x0, .int x2, .int x3] (pMaxL 6), [], σ) (some (Value.int r)) σ := by
 unfold F6 at h
 refine zS Ad W 12 (st' := (14, [vL x0, none, vI x2, vI x3], [.int (((XT.ushrL x0 (((x2 * (4:Int32)) + x3) * (4:Int32))) &&& (15 : Int64)).toInt32)], σ)) rfl ?_
 obtain rfl := Option.some.inj h
 exact QTri.retI rfl rfl
/-- isFilled(I)Z -/
def F7 (o : Ob) (x1 : Int32) : Option (Int32) :=
 (F5 o x1).bind fun r124 => (if r124 = (0:Int32) then some (0:Int32) else (aget (f_filled o) x1).bind fun y126 => some (y126 &&& 1))
theorem tF7 (Ad : QAd n0 ad) (W : QW Z a0) (s : List Int32) (o : Ob) (x1 : Int32) {r : Int32} (h : F7 o x1 = some r) : QTri l Z n0 ad 7 (0, qentry [.ref 1, .int x1] (pMaxL 7), [], (H0 s o)) (some (Value.int r)) (H0 s o) := by
 unfold F7 at h
 refine zS Ad W 2 (st' := (2, [vR 1, vI x1], [.int x1, .ref 1], (H0 s o))) rfl ?_
 obtain ⟨r124, hr124, h⟩ := bind_eq_some_iff.mp h
 refine QTri.callP W (a := 1) (as := [.int x1]) (rest := []) (w := (some (.int r124))) (σ₁ := (H0 s o)) rfl rfl rfl rfl rfl rfl rfl rfl (tF5 Ad W s o x1 hr124) ?_
 rcases qite h with ⟨hc125, h⟩ | ⟨hc125, h⟩
 ·refine zF Ad W (t := 10) (f := 8) rfl (XT.i0_ne_f hc125) ?_
  refine zS Ad W 1 (st' := (9, [vR 1, vI x1], [.int (0:Int32)], (H0 s o))) rfl ?_
  obtain rfl := Option.some.inj h
  exact QTri.retZ rfl rfl
 ·refine zT Ad W (t := 10) (f := 8) rfl (XT.i0_ne_t hc125) ?_
  refine zS Ad W 3 (st' := (15, [vR 1, vI x1], [.int x1, .ref 3], (H0 s o))) rfl ?_
  obtain ⟨y126, hy126, h⟩ := bind_eq_some_iff.mp h
  refine zB Ad W (f := fun y126 => (16, [vR 1, vI x1], [.int y126], (H0 s o))) rfl hy126 ?_
  obtain rfl := Option.some.inj h
  exact QTri.retZ rfl rfl
def J0_619 (s : List Int32) (p0 : Ob) (x2 : Int64) (x4 : Int32) (x5 : Int32) (x6 : Int32) (x7 : Int32) (x8 : Int32) (x9 : Int32) (x10 : Int32) (x11 : Int32) (x12 : Int32) (x13 : Int32) (x14 : Int32) (x19 : Int32) (x21 : Int32) (x22 : Int32) (x23 : Int32) (x24 : Int32) (x25 : Int32) (x26 : Int32) (x27 : Int32) : Option (((Int32 × Int32 × Int32 × Int32 × Int32 × Int32) ⊕ (Int32 × QHeap)) ⊕ (Int32 × Int32 × Int32 × Int32 × Int32 × Int32 × Int32)) :=
  some (.inr (x21, x22, x23, x24, x25, x26, (x27 + (1 : Int32))))
theorem tJ0_619 (Ad : QAd n0 ad) (W : QW Z a0) (s : List Int32) (p0 : Ob) (x2 : Int64) (x4 : Int32) (x5 : Int32) (x6 : Int32) (x7 : Int32) (x8 : Int32) (x9 : Int32) (x10 : Int32) (x11 : Int32) (x12 : Int32) (x13 : Int32) (x14 : Int32) (x19 : Int32) (x21 : Int32) (x22 : Int32) (x23 : Int32) (x24 : Int32) (x25 : Int32) (x26 : Int32) (x27 : Int32) {r : ((Int32 × Int32 × Int32 × Int32 × Int32 × Int32) ⊕ (Int32 × QHeap)) ⊕ (Int32 × Int32 × Int32 × Int32 × Int32 × Int32 × Int32)} {u : Option Value} {τ : QHeap} (h : J0_619 s p0 x2 x4 x5 x6 x7 x8 x9 x10 x11 x12 x13 x14 x19 x21 x22 x23 x24 x25 x26 x27 = some r) (hx0 : ∀ x : Int32 × Int32 × Int32 × Int32 × Int32 × Int32, r = .inl (Sum.inl x) → QTri l Z n0 ad 0 (625, [vR 0, vR 1, vL x2, none, vI x4, vI x5, vI x6, vI x7, vI x8, vI x9, vI x10, vI x11, vI x12, vI x13, vI x14, none, none, none, none, vI x19, none, vI x.1, vI x.2.1, vI x.2.2.1, vI x.2.2.2.1, vI x.2.2.2.2.1, vI x.2.2.2.2.2, none, none, none, none, none, none, none, none], [], (H0 s p0)) u τ) (hx1 : ∀ x : Int32 × QHeap, r = .inl (Sum.inr x) → u = (some (Value.int x.1)) ∧ τ = x.2) (hc : ∀ x : Int32 × Int32 × Int32 × Int32 × Int32 × Int32 × Int32, r = .inr x → QTri l Z n0 ad 0 (466, [vR 0, vR 1, vL x2, none, vI x4, vI x5, vI x6, vI x7, vI x8, vI x9, vI x10, vI x11, vI x12, vI x13, vI x14, none, none, none, none, vI x19, none, vI x.1, vI x.2.1, vI x.2.2.1, vI x.2.2.2.1, vI x.2.2.2.2.1, vI x.2.2.2.2.2.1, vI x.2.2.2.2.2.2, none, none, none, none, none, none, none], [], (H0 s p0)) u τ) : QTri l Z n0 ad 0 (619, [vR 0, vR 1, vL x2, none, vI x4, vI x5, vI x6, vI x7, vI x8, vI x9, vI x10, vI x11, vI x12, vI x13, vI x14, none, none, none, none, vI x19, none, vI x21, vI x22, vI x23, vI x24, vI x25, vI x26, vI x27, none, none, none, none, none, none, none], [], (H0 s p0)) u τ := by
 unfold J0_619 at h
 refine zS Ad W 2 (st' := (466, [vR 0, vR 1, vL x2, none, vI x4, vI x5, vI x6, vI x7, vI x8, vI x9, vI x10, vI x11, vI x12, vI x13, vI x14, none, none, none, none, vI x19, none, vI x21, vI x22, vI x23, vI x24, vI x25, vI x26, vI (x27 + (1:Int32)), none, none, none, none, none, none, none], [], (H0 s p0))) rfl ?_
 obtain rfl := Option.some.inj h
 exact zM [tt,tt,tt,ff,tt,tt,tt,tt,tt,tt,tt,tt,tt,tt,tt,ff,ff,ff,ff,tt,ff,tt,tt,tt,tt,tt,tt,tt,ff,ff,ff,ff,ff,ff,ff] (hc (x21, x22, x23, x24, x25, x26, (x27 + (1:Int32))) rfl)
def B0_466 (s : List Int32) (p0 : Ob) (x2 : Int64) (x4 : Int32) (x5 : Int32) (x6 : Int32) (x7 : Int32) (x8 : Int32) (x9 : Int32) (x10 : Int32) (x11 : Int32) (x12 : Int32) (x13 : Int32) (x14 : Int32) (x19 : Int32) (v : Int32 × Int32 × Int32 × Int32 × Int32 × Int32 × Int32) : Option (((Int32 × Int32 × Int32 × Int32 × Int32 × Int32) ⊕ (Int32 × QHeap)) ⊕ (Int32 × Int32 × Int32 × Int32 × Int32 × Int32 × Int32)) :=
  (if v.2.2.2.2.2.2 < (16 : Int32) then (F4 p0 (v.2.2.2.2.2.2 >>> ((2 : Int32) &&& 31)) (v.2.2.2.2.2.2 &&& (3 : Int32))).bind fun r117 => (F6 x2 (v.2.2.2.2.2.2 >>> ((2 : Int32) &&& 31)) (v.2.2.2.2.2.2 &&& (3 : Int32))).bind fun r118 => (if r117 = r118 then (if (v.2.2.2.2.2.2 &&& (3 : Int32)) = (0 : Int32) then (F7 p0 (v.2.2.2.2.2.2 >>> ((2 : Int32) &&& 31))).bind fun r127 => (if r127 = (if ((x4 >>> ((v.2.2.2.2.2.2 >>> ((2 : Int32) &&& 31)) &&& 31)) &&& (1 : Int32)) = (1 : Int32) then (1 : Int32) else (0 : Int32)) then (if (if ((x4 >>> ((v.2.2.2.2.2.2 >>> ((2 : Int32) &&& 31)) &&& 31)) &&& (1 : Int32)) = (1 : Int32) then (1 : Int32) else (0 : Int32)) = (0 : Int32) then (J0_619 s p0 x2 x4 x5 x6 x7 x8 x9 x10 x11 x12 x13 x14 x19 v.1 v.2.1 v.2.2.1 v.2.2.2.1 v.2.2.2.2.1 v.2.2.2.2.2.1 v.2.2.2.2.2.2) else (F6 x2 (v.2.2.2.2.2.2 >>> ((2 : Int32) &&& 31)) x7).bind fun r130 => (F6 x2 (v.2.2.2.2.2.2 >>> ((2 : Int32) &&& 31)) x5).bind fun r137 => (F6 x2 (v.2.2.2.2.2.2 >>> ((2 : Int32) &&& 31)) x6).bind fun r138 => (J0_619 s p0 x2 x4 x5 x6 x7 x8 x9 x10 x11 x12 x13 x14 x19 (v.1 + (1 : Int32)) (v.2.1 + r130) (if r130 < v.2.2.1 then r130 else v.2.2.1) (if v.2.2.2.1 < r130 then r130 else v.2.2.2.1) (v.2.2.2.2.1 ||| ((1 : Int32) <<< (r137 &&& 31))) (v.2.2.2.2.2.1 ||| ((1 : Int32) <<< (r138 &&& 31))) v.2.2.2.2.2.2)) else some (.inl (Sum.inr ((0 : Int32), (H0 s p0))))) else (J0_619 s p0 x2 x4 x5 x6 x7 x8 x9 x10 x11 x12 x13 x14 x19 v.1 v.2.1 v.2.2.1 v.2.2.2.1 v.2.2.2.2.1 v.2.2.2.2.2.1 v.2.2.2.2.2.2)) else some (.inl (Sum.inr ((0 : Int32), (H0 s p0))))) else some (.inl (Sum.inl (v.1, v.2.1, v.2.2.1, v.2.2.2.1, v.2.2.2.2.1, v.2.2.2.2.2.1))))
theorem tB0_466 (Ad : QAd n0 ad) (W : QW Z a0) (s : List Int32) (p0 : Ob) (x2 : Int64) (x4 : Int32) (x5 : Int32) (x6 : Int32) (x7 : Int32) (x8 : Int32) (x9 : Int32) (x10 : Int32) (x11 : Int32) (x12 : Int32) (x13 : Int32) (x14 : Int32) (x19 : Int32) (v : Int32 × Int32 × Int32 × Int32 × Int32 × Int32 × Int32) {r : ((Int32 × Int32 × Int32 × Int32 × Int32 × Int32) ⊕ (Int32 × QHeap)) ⊕ (Int32 × Int32 × Int32 × Int32 × Int32 × Int32 × Int32)} {u : Option Value} {τ : QHeap} (h : B0_466 s p0 x2 x4 x5 x6 x7 x8 x9 x10 x11 x12 x13 x14 x19 v = some r) (hx0 : ∀ x : Int32 × Int32 × Int32 × Int32 × Int32 × Int32, r = .inl (Sum.inl x) → QTri l Z n0 ad 0 (625, [vR 0, vR 1, vL x2, none, vI x4, vI x5, vI x6, vI x7, vI x8, vI x9, vI x10, vI x11, vI x12, vI x13, vI x14, none, none, none, none, vI x19, none, vI x.1, vI x.2.1, vI x.2.2.1, vI x.2.2.2.1, vI x.2.2.2.2.1, vI x.2.2.2.2.2, none, none, none, none, none, none, none, none], [], (H0 s p0)) u τ) (hx1 : ∀ x : Int32 × QHeap, r = .inl (Sum.inr x) → u = (some (Value.int x.1)) ∧ τ = x.2) (hc : ∀ x : Int32 × Int32 × Int32 × Int32 × Int32 × Int32 × Int32, r = .inr x → QTri l Z n0 ad 0 (466, [vR 0, vR 1, vL x2, none, vI x4, vI x5, vI x6, vI x7, vI x8, vI x9, vI x10, vI x11, vI x12, vI x13, vI x14, none, none, none, none, vI x19, none, vI x.1, vI x.2.1, vI x.2.2.1, vI x.2.2.2.1, vI x.2.2.2.2.1, vI x.2.2.2.2.2.1, vI x.2.2.2.2.2.2, none, none, none, none, none, none, none], [], (H0 s p0)) u τ) : QTri l Z n0 ad 0 (466, [vR 0, vR 1, vL x2, none, vI x4, vI x5, vI x6, vI x7, vI x8, vI x9, vI x10, vI x11, vI x12, vI x13, vI x14, none, none, none, none, vI x19, none, vI v.1, vI v.2.1, vI v.2.2.1, vI v.2.2.2.1, vI v.2.2.2.2.1, vI v.2.2.2.2.2.1, vI v.2.2.2.2.2.2, none, none, none, none, none, none, none], [], (H0 s p0)) u τ := by
 unfold B0_466 at h
 refine zS Ad W 2 (st' := (470, [vR 0, vR 1, vL x2, none, vI x4, vI x5, vI x6, vI x7, vI x8, vI x9, vI x10, vI x11, vI x12, vI x13, vI x14, none, none, none, none, vI x19, none, vI v.1, vI v.2.1, vI v.2.2.1, vI v.2.2.2.1, vI v.2.2.2.2.1, vI v.2.2.2.2.2.1, vI v.2.2.2.2.2.2, none, none, none, none, none, none, none], [.int (16:Int32), .int v.2.2.2.2.2.2], (H0 s p0))) rfl ?_
 rcases qite h with ⟨hc111, h⟩ | ⟨hc111, h⟩
 ·refine zF Ad W (t := 625) (f := 473) rfl (XT.ii_ge_f hc111) ?_
  refine zS Ad W 9 (st' := (486, [vR 0, vR 1, vL x2, none, vI x4, vI x5, vI x6, vI x7, vI x8, vI x9, vI x10, vI x11, vI x12, vI x13, vI x14, none, none, none, none, vI x19, none, vI v.1, vI v.2.1, vI v.2.2.1, vI v.2.2.2.1, vI v.2.2.2.2.1, vI v.2.2.2.2.2.1, vI v.2.2.2.2.2.2, vI (v.2.2.2.2.2.2 >>> ((2:Int32) &&& 31)), none, none, none, none, none, none], [.int (v.2.2.2.2.2.2 &&& (3:Int32)), .int (v.2.2.2.2.2.2 >>> ((2:Int32) &&& 31)), .ref 1], (H0 s p0))) rfl ?_
  obtain ⟨r117, hr117, h⟩ := bind_eq_some_iff.mp h
  refine QTri.callV W (a := 1) (as := [.int (v.2.2.2.2.2.2 >>> ((2:Int32) &&& 31)), .int (v.2.2.2.2.2.2 &&& (3:Int32))]) (rest := []) (w := (some (.int r117))) (σ₁ := (H0 s p0)) rfl rfl rfl rfl rfl rfl rfl rfl (tF4 Ad W s p0 (v.2.2.2.2.2.2 >>> ((2:Int32) &&& 31)) (v.2.2.2.2.2.2 &&& (3:Int32)) hr117) ?_
  refine zS Ad W 5 (st' := (496, [vR 0, vR 1, vL x2, none, vI x4, vI x5, vI x6, vI x7, vI x8, vI x9, vI x10, vI x11, vI x12, vI x13, vI x14, none, none, none, none, vI x19, none, vI v.1, vI v.2.1, vI v.2.2.1, vI v.2.2.2.1, vI v.2.2.2.2.1, vI v.2.2.2.2.2.1, vI v.2.2.2.2.2.2, vI (v.2.2.2.2.2.2 >>> ((2:Int32) &&& 31)), none, none, none, none, none, none], [.int (v.2.2.2.2.2.2 &&& (3:Int32)), .int (v.2.2.2.2.2.2 >>> ((2:Int32) &&& 31)), .long x2, .int r117], (H0 s p0))) rfl ?_
  obtain ⟨r118, hr118, h⟩ := bind_eq_some_iff.mp h
  refine QTri.callS W (as := [.long x2, .int (v.2.2.2.2.2.2 >>> ((2:Int32) &&& 31)), .int (v.2.2.2.2.2.2 &&& (3:Int32))]) (rest := [.int r117]) (w := (some (.int r118))) (σ₁ := (H0 s p0)) rfl rfl rfl rfl rfl rfl rfl (tF6 Ad W x2 (v.2.2.2.2.2.2 >>> ((2:Int32) &&& 31)) (v.2.2.2.2.2.2 &&& (3:Int32)) hr118) ?_
  rcases qite h with ⟨hc119, h⟩ | ⟨hc119, h⟩
  ·refine zT Ad W (t := 504) (f := 502) rfl (XT.ii_eq_t hc119) ?_
   refine zS Ad W 3 (st' := (508, [vR 0, vR 1, vL x2, none, vI x4, vI x5, vI x6, vI x7, vI x8, vI x9, vI x10, vI x11, vI x12, vI x13, vI x14, none, none, none, none, vI x19, none, vI v.1, vI v.2.1, vI v.2.2.1, vI v.2.2.2.1, vI v.2.2.2.2.1, vI v.2.2.2.2.2.1, vI v.2.2.2.2.2.2, vI (v.2.2.2.2.2.2 >>> ((2:Int32) &&& 31)), none, none, none, none, none, none], [.int (v.2.2.2.2.2.2 &&& (3:Int32))], (H0 s p0))) rfl ?_
   rcases qite h with ⟨hc120, h⟩ | ⟨hc120, h⟩
   ·refine zF Ad W (t := 619) (f := 511) rfl (XT.i0_ne_f hc120) ?_
    refine zS Ad W 6 (st' := (519, [vR 0, vR 1, vL x2, none, vI x4, vI x5, vI x6, vI x7, vI x8, vI x9, vI x10, vI x11, vI x12, vI x13, vI x14, none, none, none, none, vI x19, none, vI v.1, vI v.2.1, vI v.2.2.1, vI v.2.2.2.1, vI v.2.2.2.2.1, vI v.2.2.2.2.2.1, vI v.2.2.2.2.2.2, vI (v.2.2.2.2.2.2 >>> ((2:Int32) &&& 31)), none, none, none, none, none, none], [.int (1:Int32), .int ((x4 >>> ((v.2.2.2.2.2.2 >>> ((2:Int32) &&& 31)) &&& 31)) &&& (1:Int32))], (H0 s p0))) rfl ?_
    have K122 : ∀ z121 : Int32, z121 = (if ((x4 >>> ((v.2.2.2.2.2.2 >>> ((2:Int32) &&& 31)) &&& 31)) &&& (1:Int32)) = (1:Int32) then (1:Int32) else (0:Int32)) → QTri l Z n0 ad 0 (527, [vR 0, vR 1, vL x2, none, vI x4, vI x5, vI x6, vI x7, vI x8, vI x9, vI x10, vI x11, vI x12, vI x13, vI x14, none, none, none, none, vI x19, none, vI v.1, vI v.2.1, vI v.2.2.1, vI v.2.2.2.1, vI v.2.2.2.2.1, vI v.2.2.2.2.2.1, vI v.2.2.2.2.2.2, vI (v.2.2.2.2.2.2 >>> ((2:Int32) &&& 31)), none, none, none, none, none, none], [.int z121], (H0 s p0)) u τ := by
     intro z121 ez121
     subst ez121
     refine zS Ad W 3 (st' := (532, [vR 0, vR 1, vL x2, none, vI x4, vI x5, vI x6, vI x7, vI x8, vI x9, vI x10, vI x11, vI x12, vI x13, vI x14, none, none, none, none, vI x19, none, vI v.1, vI v.2.1, vI v.2.2.1, vI v.2.2.2.1, vI v.2.2.2.2.1, vI v.2.2.2.2.2.1, vI v.2.2.2.2.2.2, vI (v.2.2.2.2.2.2 >>> ((2:Int32) &&& 31)), vI (if ((x4 >>> ((v.2.2.2.2.2.2 >>> ((2:Int32) &&& 31)) &&& 31)) &&& (1:Int32)) = (1:Int32) then (1:Int32) else (0:Int32)), none, none, none, none, none], [.int (v.2.2.2.2.2.2 >>> ((2:Int32) &&& 31)), .ref 1], (H0 s p0))) rfl ?_
     obtain ⟨r127, hr127, h⟩ := bind_eq_some_iff.mp h
     refine QTri.callV W (a := 1) (as := [.int (v.2.2.2.2.2.2 >>> ((2:Int32) &&& 31))]) (rest := []) (w := (some (.int r127))) (σ₁ := (H0 s p0)) rfl rfl rfl rfl rfl rfl rfl rfl (tF7 Ad W s p0 (v.2.2.2.2.2.2 >>> ((2:Int32) &&& 31)) hr127) ?_
     refine zS Ad W 1 (st' := (537, [vR 0, vR 1, vL x2, none, vI x4, vI x5, vI x6, vI x7, vI x8, vI x9, vI x10, vI x11, vI x12, vI x13, vI x14, none, none, none, none, vI x19, none, vI v.1, vI v.2.1, vI v.2.2.1, vI v.2.2.2.1, vI v.2.2.2.2.1, vI v.2.2.2.2.2.1, vI v.2.2.2.2.2.2, vI (v.2.2.2.2.2.2 >>> ((2:Int32) &&& 31)), vI (if ((x4 >>> ((v.2.2.2.2.2.2 >>> ((2:Int32) &&& 31)) &&& 31)) &&& (1:Int32)) = (1:Int32) then (1:Int32) else (0:Int32)), none, none, none, none, none], [.int (if ((x4 >>> ((v.2.2.2.2.2.2 >>> ((2:Int32) &&& 31)) &&& 31)) &&& (1:Int32)) = (1:Int32) then (1:Int32) else (0:Int32)), .int r127], (H0 s p0))) rfl ?_
     rcases qite h with ⟨hc128, h⟩ | ⟨hc128, h⟩
     ·refine zT Ad W (t := 542) (f := 540) rfl (XT.ii_eq_t hc128) ?_
      refine zS Ad W 1 (st' := (544, [vR 0, vR 1, vL x2, none, vI x4, vI x5, vI x6, vI x7, vI x8, vI x9, vI x10, vI x11, vI x12, vI x13, vI x14, none, none, none, none, vI x19, none, vI v.1, vI v.2.1, vI v.2.2.1, vI v.2.2.2.1, vI v.2.2.2.2.1, vI v.2.2.2.2.2.1, vI v.2.2.2.2.2.2, vI (v.2.2.2.2.2.2 >>> ((2:Int32) &&& 31)), vI (if ((x4 >>> ((v.2.2.2.2.2.2 >>> ((2:Int32) &&& 31)) &&& 31)) &&& (1:Int32)) = (1:Int32) then (1:Int32) else (0:Int32)), none, none, none, none, none], [.int (if ((x4 >>> ((v.2.2.2.2.2.2 >>> ((2:Int32) &&& 31)) &&& 31)) &&& (1:Int32)) = (1:Int32) then (1:Int32) else (0:Int32))], (H0 s p0))) rfl ?_
      rcases qite h with ⟨hc129, h⟩ | ⟨hc129, h⟩
      ·refine zT Ad W (t := 619) (f := 547) rfl (XT.i0_eq_t hc129) ?_
       exact zM [tt,tt,tt,ff,tt,tt,tt,tt,tt,tt,tt,tt,tt,tt,tt,ff,ff,ff,ff,tt,ff,tt,tt,tt,tt,tt,tt,tt,ff,ff,ff,ff,ff,ff,ff] (tJ0_619 Ad W s p0 x2 x4 x5 x6 x7 x8 x9 x10 x11 x12 x13 x14 x19 v.1 v.2.1 v.2.2.1 v.2.2.2.1 v.2.2.2.2.1 v.2.2.2.2.2.1 v.2.2.2.2.2.2 h hx0 hx1 hc)
      ·refine zF Ad W (t := 619) (f := 547) rfl (XT.i0_eq_f hc129) ?_
       refine zS Ad W 3 (st' := (552, [vR 0, vR 1, vL x2, none, vI x4, vI x5, vI x6, vI x7, vI x8, vI x9, vI x10, vI x11, vI x12, vI x13, vI x14, none, none, none, none, vI x19, none, vI v.1, vI v.2.1, vI v.2.2.1, vI v.2.2.2.1, vI v.2.2.2.2.1, vI v.2.2.2.2.2.1, vI v.2.2.2.2.2.2, vI (v.2.2.2.2.2.2 >>> ((2:Int32) &&& 31)), vI (if ((x4 >>> ((v.2.2.2.2.2.2 >>> ((2:Int32) &&& 31)) &&& 31)) &&& (1:Int32)) = (1:Int32) then (1:Int32) else (0:Int32)), none, none, none, none, none], [.int x7, .int (v.2.2.2.2.2.2 >>> ((2:Int32) &&& 31)), .long x2], (H0 s p0))) rfl ?_
       obtain ⟨r130, hr130, h⟩ := bind_eq_some_iff.mp h
       refine QTri.callS W (as := [.long x2, .int (v.2.2.2.2.2.2 >>> ((2:Int32) &&& 31)), .int x7]) (rest := []) (w := (some (.int r130))) (σ₁ := (H0 s p0)) rfl rfl rfl rfl rfl rfl rfl (tF6 Ad W x2 (v.2.2.2.2.2.2 >>> ((2:Int32) &&& 31)) x7 hr130) ?_
       refine zS Ad W 2 (st' := (560, [vR 0, vR 1, vL x2, none, vI x4, vI x5, vI x6, vI x7, vI x8, vI x9, vI x10, vI x11, vI x12, vI x13, vI x14, none, none, none, none, vI x19, none, vI (v.1 + (1:Int32)), vI v.2.1, vI v.2.2.1, vI v.2.2.2.1, vI v.2.2.2.2.1, vI v.2.2.2.2.2.1, vI v.2.2.2.2.2.2, vI (v.2.2.2.2.2.2 >>> ((2:Int32) &&& 31)), vI (if ((x4 >>> ((v.2.2.2.2.2.2 >>> ((2:Int32) &&& 31)) &&& 31)) &&& (1:Int32)) = (1:Int32) then (1:Int32) else (0:Int32)), vI r130, none, none, none, none], [], (H0 s p0))) rfl ?_
       refine zS Ad W 6 (st' := (571, [vR 0, vR 1, vL x2, none, vI x4, vI x5, vI x6, vI x7, vI x8, vI x9, vI x10, vI x11, vI x12, vI x13, vI x14, none, none, none, none, vI x19, none, vI (v.1 + (1:Int32)), vI (v.2.1 + r130), vI v.2.2.1, vI v.2.2.2.1, vI v.2.2.2.2.1, vI v.2.2.2.2.2.1, vI v.2.2.2.2.2.2, vI (v.2.2.2.2.2.2 >>> ((2:Int32) &&& 31)), vI (if ((x4 >>> ((v.2.2.2.2.2.2 >>> ((2:Int32) &&& 31)) &&& 31)) &&& (1:Int32)) = (1:Int32) then (1:Int32) else (0:Int32)), vI r130, none, none, none, none], [.int v.2.2.1, .int r130], (H0 s p0))) rfl ?_
       have K132 : ∀ z131 : Int32, z131 = (if r130 < v.2.2.1 then r130 else v.2.2.1) → QTri l Z n0 ad 0 (578, [vR 0, vR 1, vL x2, none, vI x4, vI x5, vI x6, vI x7, vI x8, vI x9, vI x10, vI x11, vI x12, vI x13, vI x14, none, none, none, none, vI x19, none, vI (v.1 + (1:Int32)), vI (v.2.1 + r130), vI z131, vI v.2.2.2.1, vI v.2.2.2.2.1, vI v.2.2.2.2.2.1, vI v.2.2.2.2.2.2, vI (v.2.2.2.2.2.2 >>> ((2:Int32) &&& 31)), none, vI r130, none, none, none, none], [], (H0 s p0)) u τ := by
        intro z131 ez131
        subst ez131
        refine zS Ad W 2 (st' := (582, [vR 0, vR 1, vL x2, none, vI x4, vI x5, vI x6, vI x7, vI x8, vI x9, vI x10, vI x11, vI x12, vI x13, vI x14, none, none, none, none, vI x19, none, vI (v.1 + (1:Int32)), vI (v.2.1 + r130), vI (if r130 < v.2.2.1 then r130 else v.2.2.1), vI v.2.2.2.1, vI v.2.2.2.2.1, vI v.2.2.2.2.2.1, vI v.2.2.2.2.2.2, vI (v.2.2.2.2.2.2 >>> ((2:Int32) &&& 31)), none, vI r130, none, none, none, none], [.int v.2.2.2.1, .int r130], (H0 s p0))) rfl ?_
        have K135 : ∀ z134 : Int32, z134 = (if v.2.2.2.1 < r130 then r130 else v.2.2.2.1) → QTri l Z n0 ad 0 (589, [vR 0, vR 1, vL x2, none, vI x4, vI x5, vI x6, vI x7, vI x8, vI x9, vI x10, vI x11, vI x12, vI x13, vI x14, none, none, none, none, vI x19, none, vI (v.1 + (1:Int32)), vI (v.2.1 + r130), vI (if r130 < v.2.2.1 then r130 else v.2.2.1), vI z134, vI v.2.2.2.2.1, vI v.2.2.2.2.2.1, vI v.2.2.2.2.2.2, vI (v.2.2.2.2.2.2 >>> ((2:Int32) &&& 31)), none, none, none, none, none, none], [], (H0 s p0)) u τ := by
         intro z134 ez134
         subst ez134
         refine zS Ad W 5 (st' := (597, [vR 0, vR 1, vL x2, none, vI x4, vI x5, vI x6, vI x7, vI x8, vI x9, vI x10, vI x11, vI x12, vI x13, vI x14, none, none, none, none, vI x19, none, vI (v.1 + (1:Int32)), vI (v.2.1 + r130), vI (if r130 < v.2.2.1 then r130 else v.2.2.1), vI (if v.2.2.2.1 < r130 then r130 else v.2.2.2.1), vI v.2.2.2.2.1, vI v.2.2.2.2.2.1, vI v.2.2.2.2.2.2, vI (v.2.2.2.2.2.2 >>> ((2:Int32) &&& 31)), none, none, none, none, none, none], [.int x5, .int (v.2.2.2.2.2.2 >>> ((2:Int32) &&& 31)), .long x2, .int (1:Int32), .int v.2.2.2.2.1], (H0 s p0))) rfl ?_
         obtain ⟨r137, hr137, h⟩ := bind_eq_some_iff.mp h
         refine QTri.callS W (as := [.long x2, .int (v.2.2.2.2.2.2 >>> ((2:Int32) &&& 31)), .int x5]) (rest := [.int (1:Int32), .int v.2.2.2.2.1]) (w := (some (.int r137))) (σ₁ := (H0 s p0)) rfl rfl rfl rfl rfl rfl rfl (tF6 Ad W x2 (v.2.2.2.2.2.2 >>> ((2:Int32) &&& 31)) x5 hr137) ?_
         refine zS Ad W 8 (st' := (612, [vR 0, vR 1, vL x2, none, vI x4, vI x5, vI x6, vI x7, vI x8, vI x9, vI x10, vI x11, vI x12, vI x13, vI x14, none, none, none, none, vI x19, none, vI (v.1 + (1:Int32)), vI (v.2.1 + r130), vI (if r130 < v.2.2.1 then r130 else v.2.2.1), vI (if v.2.2.2.1 < r130 then r130 else v.2.2.2.1), vI (v.2.2.2.2.1 ||| ((1:Int32) <<< (r137 &&& 31))), vI v.2.2.2.2.2.1, vI v.2.2.2.2.2.2, vI (v.2.2.2.2.2.2 >>> ((2:Int32) &&& 31)), none, none, none, none, none, none], [.int x6, .int (v.2.2.2.2.2.2 >>> ((2:Int32) &&& 31)), .long x2, .int (1:Int32), .int v.2.2.2.2.2.1], (H0 s p0))) rfl ?_
         obtain ⟨r138, hr138, h⟩ := bind_eq_some_iff.mp h
         refine QTri.callS W (as := [.long x2, .int (v.2.2.2.2.2.2 >>> ((2:Int32) &&& 31)), .int x6]) (rest := [.int (1:Int32), .int v.2.2.2.2.2.1]) (w := (some (.int r138))) (σ₁ := (H0 s p0)) rfl rfl rfl rfl rfl rfl rfl (tF6 Ad W x2 (v.2.2.2.2.2.2 >>> ((2:Int32) &&& 31)) x6 hr138) ?_
         refine zS Ad W 3 (st' := (619, [vR 0, vR 1, vL x2, none, vI x4, vI x5, vI x6, vI x7, vI x8, vI x9, vI x10, vI x11, vI x12, vI x13, vI x14, none, none, none, none, vI x19, none, vI (v.1 + (1:Int32)), vI (v.2.1 + r130), vI (if r130 < v.2.2.1 then r130 else v.2.2.1), vI (if v.2.2.2.1 < r130 then r130 else v.2.2.2.1), vI (v.2.2.2.2.1 ||| ((1:Int32) <<< (r137 &&& 31))), vI (v.2.2.2.2.2.1 ||| ((1:Int32) <<< (r138 &&& 31))), vI v.2.2.2.2.2.2, vI (v.2.2.2.2.2.2 >>> ((2:Int32) &&& 31)), none, none, none, none, none, none], [], (H0 s p0))) rfl ?_
         exact zM [tt,tt,tt,ff,tt,tt,tt,tt,tt,tt,tt,tt,tt,tt,tt,ff,ff,ff,ff,tt,ff,tt,tt,tt,tt,tt,tt,tt,ff,ff,ff,ff,ff,ff,ff] (tJ0_619 Ad W s p0 x2 x4 x5 x6 x7 x8 x9 x10 x11 x12 x13 x14 x19 (v.1 + (1:Int32)) (v.2.1 + r130) (if r130 < v.2.2.1 then r130 else v.2.2.1) (if v.2.2.2.1 < r130 then r130 else v.2.2.2.1) (v.2.2.2.2.1 ||| ((1:Int32) <<< (r137 &&& 31))) (v.2.2.2.2.2.1 ||| ((1:Int32) <<< (r138 &&& 31))) v.2.2.2.2.2.2 h hx0 hx1 hc)
        rcases em (v.2.2.2.1 < r130) with hc136 | hc136
        ·refine zF Ad W (t := 589) (f := 585) rfl (XT.ii_le_f hc136) ?_
         refine zS Ad W 2 (st' := (589, [vR 0, vR 1, vL x2, none, vI x4, vI x5, vI x6, vI x7, vI x8, vI x9, vI x10, vI x11, vI x12, vI x13, vI x14, none, none, none, none, vI x19, none, vI (v.1 + (1:Int32)), vI (v.2.1 + r130), vI (if r130 < v.2.2.1 then r130 else v.2.2.1), vI r130, vI v.2.2.2.2.1, vI v.2.2.2.2.2.1, vI v.2.2.2.2.2.2, vI (v.2.2.2.2.2.2 >>> ((2:Int32) &&& 31)), none, vI r130, none, none, none, none], [], (H0 s p0))) rfl ?_
         exact zM [tt,tt,tt,ff,tt,tt,tt,tt,tt,tt,tt,tt,tt,tt,tt,ff,ff,ff,ff,tt,ff,tt,tt,tt,tt,tt,tt,tt,tt,ff,ff,ff,ff,ff,ff] (K135 _ (if_pos hc136).symm)
        ·refine zT Ad W (t := 589) (f := 585) rfl (XT.ii_le_t hc136) ?_
         exact zM [tt,tt,tt,ff,tt,tt,tt,tt,tt,tt,tt,tt,tt,tt,tt,ff,ff,ff,ff,tt,ff,tt,tt,tt,tt,tt,tt,tt,tt,ff,ff,ff,ff,ff,ff] (K135 _ (if_neg hc136).symm)
       rcases em (r130 < v.2.2.1) with hc133 | hc133
       ·refine zF Ad W (t := 578) (f := 574) rfl (XT.ii_ge_f hc133) ?_
        refine zS Ad W 2 (st' := (578, [vR 0, vR 1, vL x2, none, vI x4, vI x5, vI x6, vI x7, vI x8, vI x9, vI x10, vI x11, vI x12, vI x13, vI x14, none, none, none, none, vI x19, none, vI (v.1 + (1:Int32)), vI (v.2.1 + r130), vI r130, vI v.2.2.2.1, vI v.2.2.2.2.1, vI v.2.2.2.2.2.1, vI v.2.2.2.2.2.2, vI (v.2.2.2.2.2.2 >>> ((2:Int32) &&& 31)), vI (if ((x4 >>> ((v.2.2.2.2.2.2 >>> ((2:Int32) &&& 31)) &&& 31)) &&& (1:Int32)) = (1:Int32) then (1:Int32) else (0:Int32)), vI r130, none, none, none, none], [], (H0 s p0))) rfl ?_
        exact zM [tt,tt,tt,ff,tt,tt,tt,tt,tt,tt,tt,tt,tt,tt,tt,ff,ff,ff,ff,tt,ff,tt,tt,tt,tt,tt,tt,tt,tt,ff,tt,ff,ff,ff,ff] (K132 _ (if_pos hc133).symm)
       ·refine zT Ad W (t := 578) (f := 574) rfl (XT.ii_ge_t hc133) ?_
        exact zM [tt,tt,tt,ff,tt,tt,tt,tt,tt,tt,tt,tt,tt,tt,tt,ff,ff,ff,ff,tt,ff,tt,tt,tt,tt,tt,tt,tt,tt,ff,tt,ff,ff,ff,ff] (K132 _ (if_neg hc133).symm)
     ·refine zF Ad W (t := 542) (f := 540) rfl (XT.ii_eq_f hc128) ?_
      refine zS Ad W 1 (st' := (541, [vR 0, vR 1, vL x2, none, vI x4, vI x5, vI x6, vI x7, vI x8, vI x9, vI x10, vI x11, vI x12, vI x13, vI x14, none, none, none, none, vI x19, none, vI v.1, vI v.2.1, vI v.2.2.1, vI v.2.2.2.1, vI v.2.2.2.2.1, vI v.2.2.2.2.2.1, vI v.2.2.2.2.2.2, vI (v.2.2.2.2.2.2 >>> ((2:Int32) &&& 31)), vI (if ((x4 >>> ((v.2.2.2.2.2.2 >>> ((2:Int32) &&& 31)) &&& 31)) &&& (1:Int32)) = (1:Int32) then (1:Int32) else (0:Int32)), none, none, none, none, none], [.int (0:Int32)], (H0 s p0))) rfl ?_
      obtain rfl := Option.some.inj h
      obtain ⟨rfl, rfl⟩ := hx1 ((0:Int32), (H0 s p0)) rfl
      exact QTri.retZ rfl rfl
    rcases em (((x4 >>> ((v.2.2.2.2.2.2 >>> ((2:Int32) &&& 31)) &&& 31)) &&& (1:Int32)) = (1:Int32)) with hc123 | hc123
    ·refine zF Ad W (t := 526) (f := 522) rfl (XT.ii_ne_f hc123) ?_
     refine zS Ad W 2 (st' := (527, [vR 0, vR 1, vL x2, none, vI x4, vI x5, vI x6, vI x7, vI x8, vI x9, vI x10, vI x11, vI x12, vI x13, vI x14, none, none, none, none, vI x19, none, vI v.1, vI v.2.1, vI v.2.2.1, vI v.2.2.2.1, vI v.2.2.2.2.1, vI v.2.2.2.2.2.1, vI v.2.2.2.2.2.2, vI (v.2.2.2.2.2.2 >>> ((2:Int32) &&& 31)), none, none, none, none, none, none], [.int (1:Int32)], (H0 s p0))) rfl ?_
     exact zM [tt,tt,tt,ff,tt,tt,tt,tt,tt,tt,tt,tt,tt,tt,tt,ff,ff,ff,ff,tt,ff,tt,tt,tt,tt,tt,tt,tt,tt,ff,ff,ff,ff,ff,ff] (K122 _ (if_pos hc123).symm)
    ·refine zT Ad W (t := 526) (f := 522) rfl (XT.ii_ne_t hc123) ?_
     refine zS Ad W 1 (st' := (527, [vR 0, vR 1, vL x2, none, vI x4, vI x5, vI x6, vI x7, vI x8, vI x9, vI x10, vI x11, vI x12, vI x13, vI x14, none, none, none, none, vI x19, none, vI v.1, vI v.2.1, vI v.2.2.1, vI v.2.2.2.1, vI v.2.2.2.2.1, vI v.2.2.2.2.2.1, vI v.2.2.2.2.2.2, vI (v.2.2.2.2.2.2 >>> ((2:Int32) &&& 31)), none, none, none, none, none, none], [.int (0:Int32)], (H0 s p0))) rfl ?_
     exact zM [tt,tt,tt,ff,tt,tt,tt,tt,tt,tt,tt,tt,tt,tt,tt,ff,ff,ff,ff,tt,ff,tt,tt,tt,tt,tt,tt,tt,tt,ff,ff,ff,ff,ff,ff] (K122 _ (if_neg hc123).symm)
   ·refine zT Ad W (t := 619) (f := 511) rfl (XT.i0_ne_t hc120) ?_
    exact zM [tt,tt,tt,ff,tt,tt,tt,tt,tt,tt,tt,tt,tt,tt,tt,ff,ff,ff,ff,tt,ff,tt,tt,tt,tt,tt,tt,tt,ff,ff,ff,ff,ff,ff,ff] (tJ0_619 Ad W s p0 x2 x4 x5 x6 x7 x8 x9 x10 x11 x12 x13 x14 x19 v.1 v.2.1 v.2.2.1 v.2.2.2.1 v.2.2.2.2.1 v.2.2.2.2.2.1 v.2.2.2.2.2.2 h hx0 hx1 hc)
  ·refine zF Ad W (t := 504) (f := 502) rfl (XT.ii_eq_f hc119) ?_
   refine zS Ad W 1 (st' := (503, [vR 0, vR 1, vL x2, none, vI x4, vI x5, vI x6, vI x7, vI x8, vI x9, vI x10, vI x11, vI x12, vI x13, vI x14, none, none, none, none, vI x19, none, vI v.1, vI v.2.1, vI v.2.2.1, vI v.2.2.2.1, vI v.2.2.2.2.1, vI v.2.2.2.2.2.1, vI v.2.2.2.2.2.2, vI (v.2.2.2.2.2.2 >>> ((2:Int32) &&& 31)), none, none, none, none, none, none], [.int (0:Int32)], (H0 s p0))) rfl ?_
   obtain rfl := Option.some.inj h
   obtain ⟨rfl, rfl⟩ := hx1 ((0:Int32), (H0 s p0)) rfl
   exact QTri.retZ rfl rfl
 ·refine zT Ad W (t := 625) (f := 473) rfl (XT.ii_ge_t hc111) ?_
  obtain rfl := Option.some.inj h
  exact zM [tt,tt,tt,ff,tt,tt,tt,tt,tt,tt,tt,tt,tt,tt,tt,ff,ff,ff,ff,tt,ff,tt,tt,tt,tt,tt,tt,ff,ff,ff,ff,ff,ff,ff,ff] (hx0 (v.1, v.2.1, v.2.2.1, v.2.2.2.1, v.2.2.2.2.1, v.2.2.2.2.2.1) rfl)
def J10_42 (o : Ob) (x1 : Int32) (x2 : Int32) (x3 : Int32) (x4 : Int32) : Option (((Int32 × Ob)) ⊕ (Int32 × Int32 × Ob)) :=
  some (.inr (x3, (x4 + (1 : Int32)), o))
theorem tJ10_42 (Ad : QAd n0 ad) (W : QW Z a0) (s : List Int32) (o : Ob) (x1 : Int32) (x2 : Int32) (x3 : Int32) (x4 : Int32) {r : ((Int32 × Ob)) ⊕ (Int32 × Int32 × Ob)} {u : Option Value} {τ : QHeap} (h : J10_42 o x1 x2 x3 x4 = some r) (hx0 : ∀ x : Int32 × Ob, r = .inl x → u = (some (Value.int x.1)) ∧ τ = (H0 s x.2)) (hc : ∀ x : Int32 × Int32 × Ob, r = .inr x → QTri l Z n0 ad 10 (5, [vR 1, vI x1, vI x2, vI x.1, vI x.2.1], [], (H0 s x.2.2)) u τ) : QTri l Z n0 ad 10 (42, [vR 1, vI x1, vI x2, vI x3, vI x4], [], (H0 s o)) u τ := by
 unfold J10_42 at h
 refine zS Ad W 2 (st' := (5, [vR 1, vI x1, vI x2, vI x3, vI (x4 + (1:Int32))], [], (H0 s o))) rfl ?_
 obtain rfl := Option.some.inj h
 exact zM [tt,tt,tt,tt,tt] (hc (x3, (x4 + (1:Int32)), o) rfl)
def B24_15 (o : Ob) (x1 : Int32) (x2 : Int32) (x3 : Int32) (v : Int32) : Option (((Int32)) ⊕ (Int32)) :=
  (if v < x2 then (aget (f_keys o) (x1 + v)).bind fun y154 => (if y154 < x3 then some (.inr (v + (1 : Int32))) else some (.inl v)) else some (.inl v))
theorem tB24_15 (Ad : QAd n0 ad) (W : QW Z a0) (s : List Int32) (o : Ob) (x1 : Int32) (x2 : Int32) (x3 : Int32) (v : Int32) {r : ((Int32)) ⊕ (Int32)} {u : Option Value} {τ : QHeap} (h : B24_15 o x1 x2 x3 v = some r) (hx0 : ∀ x : Int32, r = .inl x → QTri l Z n0 ad 24 (40, [vR 1, vI x1, vI x2, vI x3, vI x, none], [], (H0 s o)) u τ) (hc : ∀ x : Int32, r = .inr x → QTri l Z n0 ad 24 (15, [vR 1, vI x1, vI x2, vI x3, vI x, none], [], (H0 s o)) u τ) : QTri l Z n0 ad 24 (15, [vR 1, vI x1, vI x2, vI x3, vI v, none], [], (H0 s o)) u τ := by
 unfold B24_15 at h
 refine zS Ad W 2 (st' := (18, [vR 1, vI x1, vI x2, vI x3, vI v, none], [.int x2, .int v], (H0 s o))) rfl ?_
 rcases qite h with ⟨hc153, h⟩ | ⟨hc153, h⟩
 ·refine zF Ad W (t := 40) (f := 21) rfl (XT.ii_ge_f hc153) ?_
  refine zS Ad W 5 (st' := (29, [vR 1, vI x1, vI x2, vI x3, vI v, none], [.int (x1 + v), .ref 9], (H0 s o))) rfl ?_
  obtain ⟨y154, hy154, h⟩ := bind_eq_some_iff.mp h
  refine zB Ad W (f := fun y154 => (30, [vR 1, vI x1, vI x2, vI x3, vI v, none], [.int y154], (H0 s o))) rfl hy154 ?_
  refine zS Ad W 1 (st' := (31, [vR 1, vI x1, vI x2, vI x3, vI v, none], [.int x3, .int y154], (H0 s o))) rfl ?_
  rcases qite h with ⟨hc155, h⟩ | ⟨hc155, h⟩
  ·refine zF Ad W (t := 40) (f := 34) rfl (XT.ii_ge_f hc155) ?_
   refine zS Ad W 2 (st' := (15, [vR 1, vI x1, vI x2, vI x3, vI (v + (1:Int32)), none], [], (H0 s o))) rfl ?_
   obtain rfl := Option.some.inj h
   exact zM [tt,tt,tt,tt,tt,ff] (hc (v + (1:Int32)) rfl)
  ·refine zT Ad W (t := 40) (f := 34) rfl (XT.ii_ge_t hc155) ?_
   obtain rfl := Option.some.inj h
   exact zM [tt,tt,tt,tt,tt,ff] (hx0 v rfl)
 ·refine zT Ad W (t := 40) (f := 21) rfl (XT.ii_ge_t hc153) ?_
  obtain rfl := Option.some.inj h
  exact zM [tt,tt,tt,tt,tt,ff] (hx0 v rfl)
def H0x12 (s : List Int32) (o0 : Ob) (a0_11 : List Int32) : QHeap := H0v s (f_data o0) (f_filled o0) (f_rf o0) (f_cf o0) (f_vf o0) (f_ag o0) (f_fMode o0) (f_fRk o0) (f_fCk o0) (f_prevVal o0) (f_prevFound o0) a0_11 (f_nRows o0) (f_nForms o0) (f_last o0) (f_selUseR o0) (f_selRk o0) (f_selUseC o0) (f_selCk o0) (f_gCount o0) (f_gVal o0)
def B24_64 (x1 : Int32) (x2 : Int32) (x3 : Int32) (x4 : Int32) (v : Int32 × Ob) : Option (((Ob)) ⊕ (Int32 × Ob)) :=
  (if x4 < v.1 then (aget (f_keys v.2) ((x1 + v.1) - (1 : Int32))).bind fun y162 => (aset (f_keys v.2) (x1 + v.1) y162).bind fun y163 => some (.inr ((v.1 + (-1 : Int32)), (s_keys v.2 y163))) else some (.inl v.2))
theorem tB24_64 (Ad : QAd n0 ad) (W : QW Z a0) (s : List Int32) (x1 : Int32) (x2 : Int32) (x3 : Int32) (x4 : Int32) (v : Int32 × Ob) {r : ((Ob)) ⊕ (Int32 × Ob)} {u : Option Value} {τ : QHeap} (h : B24_64 x1 x2 x3 x4 v = some r) (hx0 : ∀ x : Ob, r = .inl x → QTri l Z n0 ad 24 (97, [vR 1, vI x1, vI x2, vI x3, vI x4, none], [], (H0 s x)) u τ) (hc : ∀ x : Int32 × Ob, r = .inr x → QTri l Z n0 ad 24 (64, [vR 1, vI x1, vI x2, vI x3, vI x4, vI x.1], [], (H0 s x.2)) u τ) : QTri l Z n0 ad 24 (64, [vR 1, vI x1, vI x2, vI x3, vI x4, vI v.1], [], (H0 s v.2)) u τ := by
 unfold B24_64 at h
 refine zS Ad W 2 (st' := (68, [vR 1, vI x1, vI x2, vI x3, vI x4, vI v.1], [.int x4, .int v.1], (H0 s v.2))) rfl ?_
 rcases qite h with ⟨hc161, h⟩ | ⟨hc161, h⟩
 ·refine zF Ad W (t := 97) (f := 71) rfl (XT.ii_le_f hc161) ?_
  refine zS Ad W 12 (st' := (89, [vR 1, vI x1, vI x2, vI x3, vI x4, vI v.1], [.int ((x1 + v.1) - (1:Int32)), .ref 9, .int (x1 + v.1), .ref 9], (H0 s v.2))) rfl ?_
  obtain ⟨y162, hy162, h⟩ := bind_eq_some_iff.mp h
  refine zB Ad W (f := fun y162 => (90, [vR 1, vI x1, vI x2, vI x3, vI x4, vI v.1], [.int y162, .int (x1 + v.1), .ref 9], (H0 s v.2))) rfl hy162 ?_
  obtain ⟨y163, hy163, h⟩ := bind_eq_some_iff.mp h
  refine zB Ad W (f := fun y163 => (91, [vR 1, vI x1, vI x2, vI x3, vI x4, vI v.1], [], (H0x12 s v.2 y163))) rfl hy163 ?_
  refine zS Ad W 2 (st' := (64, [vR 1, vI x1, vI x2, vI x3, vI x4, vI (v.1 + (-1:Int32))], [], (H0x12 s v.2 y163))) rfl ?_
  have E164 : ((H0x12 s v.2 y163) : QHeap) = (H0 s (s_keys v.2 y163)) := by simp only [fs, H0, H0v, H0x12, s_keys]
  rw [E164]
  obtain rfl := Option.some.inj h
  exact zM [tt,tt,tt,tt,tt,tt] (hc ((v.1 + (-1:Int32)), (s_keys v.2 y163)) rfl)
 ·refine zT Ad W (t := 97) (f := 71) rfl (XT.ii_le_t hc161) ?_
  obtain rfl := Option.some.inj h
  exact zM [tt,tt,tt,tt,tt,ff] (hx0 v.2 rfl)
def J24_61 (o : Ob) (x1 : Int32) (x2 : Int32) (x3 : Int32) (x4 : Int32) : Option (Int32 × Ob) :=
  (loopN (B24_64 x1 x2 x3 x4) qN (x2, o)).bind fun e165 => (aset (f_keys e165) (x1 + x4) x3).bind fun y167 => some ((x2 + (1 : Int32)), (s_keys e165 y167))
theorem tJ24_61 (Ad : QAd n0 ad) (W : QW Z a0) (s : List Int32) (o : Ob) (x1 : Int32) (x2 : Int32) (x3 : Int32) (x4 : Int32) {r : Int32 × Ob} (h : J24_61 o x1 x2 x3 x4 = some r) : QTri l Z n0 ad 24 (61, [vR 1, vI x1, vI x2, vI x3, vI x4, none], [], (H0 s o)) (some (Value.int r.1)) (H0 s r.2) := by
 unfold J24_61 at h
 refine zS Ad W 2 (st' := (64, [vR 1, vI x1, vI x2, vI x3, vI x4, vI x2], [], (H0 s o))) rfl ?_
 obtain ⟨e165, he165, h⟩ := bind_eq_some_iff.mp h
 refine zM [tt,tt,tt,tt,tt,tt] (loopN_tri (B := B24_64 x1 x2 x3 x4) (T := fun lv166 => QTri l Z n0 ad 24 (64, [vR 1, vI x1, vI x2, vI x3, vI x4, vI lv166.1], [], (H0 s lv166.2)) (some (Value.int r.1)) (H0 s r.2)) (KE := fun e165a => QTri l Z n0 ad 24 (97, [vR 1, vI x1, vI x2, vI x3, vI x4, none], [], (H0 s e165a)) (some (Value.int r.1)) (H0 s r.2)) (fun lv166 r hB hE hC => tB24_64 Ad W s x1 x2 x3 x4 lv166 hB (fun x q => hE _ q) (fun x q => hC x q)) qN (x2, o) e165 he165 ?_)
 refine zS Ad W 6 (st' := (106, [vR 1, vI x1, vI x2, vI x3, vI x4, none], [.int x3, .int (x1 + x4), .ref 9], (H0 s e165))) rfl ?_
 obtain ⟨y167, hy167, h⟩ := bind_eq_some_iff.mp h
 refine zB Ad W (f := fun y167 => (107, [vR 1, vI x1, vI x2, vI x3, vI x4, none], [], (H0x12 s e165 y167))) rfl hy167 ?_
 refine zS Ad W 3 (st' := (110, [vR 1, vI x1, vI x2, vI x3, vI x4, none], [.int (x2 + (1:Int32))], (H0x12 s e165 y167))) rfl ?_
 have E168 : ((H0x12 s e165 y167) : QHeap) = (H0 s (s_keys e165 y167)) := by simp only [fs, H0, H0v, H0x12, s_keys]
 rw [E168]
 obtain rfl := Option.some.inj h
 exact QTri.retI rfl rfl
def J24_40 (o : Ob) (x1 : Int32) (x2 : Int32) (x3 : Int32) (x4 : Int32) : Option (Int32 × Ob) :=
  (if x4 < x2 then (aget (f_keys o) (x1 + x4)).bind fun y159 => (if y159 = x3 then some (x2, o) else (J24_61 o x1 x2 x3 x4)) else (J24_61 o x1 x2 x3 x4))
theorem tJ24_40 (Ad : QAd n0 ad) (W : QW Z a0) (s : List Int32) (o : Ob) (x1 : Int32) (x2 : Int32) (x3 : Int32) (x4 : Int32) {r : Int32 × Ob} (h : J24_40 o x1 x2 x3 x4 = some r) : QTri l Z n0 ad 24 (40, [vR 1, vI x1, vI x2, vI x3, vI x4, none], [], (H0 s o)) (some (Value.int r.1)) (H0 s r.2) := by
 unfold J24_40 at h
 refine zS Ad W 2 (st' := (43, [vR 1, vI x1, vI x2, vI x3, vI x4, none], [.int x2, .int x4], (H0 s o))) rfl ?_
 rcases qite h with ⟨hc158, h⟩ | ⟨hc158, h⟩
 ·refine zF Ad W (t := 61) (f := 46) rfl (XT.ii_ge_f hc158) ?_
  refine zS Ad W 5 (st' := (54, [vR 1, vI x1, vI x2, vI x3, vI x4, none], [.int (x1 + x4), .ref 9], (H0 s o))) rfl ?_
  obtain ⟨y159, hy159, h⟩ := bind_eq_some_iff.mp h
  refine zB Ad W (f := fun y159 => (55, [vR 1, vI x1, vI x2, vI x3, vI x4, none], [.int y159], (H0 s o))) rfl hy159 ?_
  refine zS Ad W 1 (st' := (56, [vR 1, vI x1, vI x2, vI x3, vI x4, none], [.int x3, .int y159], (H0 s o))) rfl ?_
  rcases qite h with ⟨hc160, h⟩ | ⟨hc160, h⟩
  ·refine zF Ad W (t := 61) (f := 59) rfl (XT.ii_ne_f hc160) ?_
   refine zS Ad W 1 (st' := (60, [vR 1, vI x1, vI x2, vI x3, vI x4, none], [.int x2], (H0 s o))) rfl ?_
   obtain rfl := Option.some.inj h
   exact QTri.retI rfl rfl
  ·refine zT Ad W (t := 61) (f := 59) rfl (XT.ii_ne_t hc160) ?_
   exact zM [tt,tt,tt,tt,tt,ff] (tJ24_61 Ad W s o x1 x2 x3 x4 h)
 ·refine zT Ad W (t := 61) (f := 46) rfl (XT.ii_ge_t hc158) ?_
  exact zM [tt,tt,tt,tt,tt,ff] (tJ24_61 Ad W s o x1 x2 x3 x4 h)
/-- insertKey(III)I -/
def F24 (o : Ob) (x1 : Int32) (x2 : Int32) (x3 : Int32) : Option (Int32 × Ob) :=
 (if x2 < (0:Int32) then some (x2, o) else (if x2 < (32:Int32) then (loopN (B24_15 o x1 x2 x3) qN (0:Int32)).bind fun e156 => (J24_40 o x1 x2 x3 e156) else some (x2, o)))
theorem tF24 (Ad : QAd n0 ad) (W : QW Z a0) (s : List Int32) (o : Ob) (x1 : Int32) (x2 : Int32) (x3 : Int32) {r : Int32 × Ob} (h : F24 o x1 x2 x3 = some r) : QTri l Z n0 ad 24 (0, qentry [.ref 1, .int x1, .int x2, .int x3] (pMaxL 24), [], (H0 s o)) (some (Value.int r.1)) (H0 s r.2) := by
 unfold F24 at h
 refine zS Ad W 1 (st' := (1, [vR 1, vI x1, vI x2, vI x3, none, none], [.int x2], (H0 s o))) rfl ?_
 rcases qite h with ⟨hc151, h⟩ | ⟨hc151, h⟩
 ·refine zT Ad W (t := 10) (f := 4) rfl (XT.i0_lt_t hc151) ?_
  refine zS Ad W 1 (st' := (11, [vR 1, vI x1, vI x2, vI x3, none, none], [.int x2], (H0 s o))) rfl ?_
  obtain rfl := Option.some.inj h
  exact QTri.retI rfl rfl
 ·refine zF Ad W (t := 10) (f := 4) rfl (XT.i0_lt_f hc151) ?_
  refine zS Ad W 2 (st' := (7, [vR 1, vI x1, vI x2, vI x3, none, none], [.int (32:Int32), .int x2], (H0 s o))) rfl ?_
  rcases qite h with ⟨hc152, h⟩ | ⟨hc152, h⟩
  ·refine zT Ad W (t := 12) (f := 10) rfl (XT.ii_lt_t hc152) ?_
   refine zS Ad W 2 (st' := (15, [vR 1, vI x1, vI x2, vI x3, vI (0:Int32), none], [], (H0 s o))) rfl ?_
   obtain ⟨e156, he156, h⟩ := bind_eq_some_iff.mp h
   refine zM [tt,tt,tt,tt,tt,ff] (loopN_tri (B := B24_15 o x1 x2 x3) (T := fun lv157 => QTri l Z n0 ad 24 (15, [vR 1, vI x1, vI x2, vI x3, vI lv157, none], [], (H0 s o)) (some (Value.int r.1)) (H0 s r.2)) (KE := fun e156a => QTri l Z n0 ad 24 (40, [vR 1, vI x1, vI x2, vI x3, vI e156a, none], [], (H0 s o)) (some (Value.int r.1)) (H0 s r.2)) (fun lv157 r hB hE hC => tB24_15 Ad W s o x1 x2 x3 lv157 hB (fun x q => hE _ q) (fun x q => hC x q)) qN (0:Int32) e156 he156 ?_)
   exact zM [tt,tt,tt,tt,tt,ff] (tJ24_40 Ad W s o x1 x2 x3 e156 h)
  ·refine zF Ad W (t := 12) (f := 10) rfl (XT.ii_lt_f hc152) ?_
   refine zS Ad W 1 (st' := (11, [vR 1, vI x1, vI x2, vI x3, none, none], [.int x2], (H0 s o))) rfl ?_
   obtain rfl := Option.some.inj h
   exact QTri.retI rfl rfl
def B10_5 (x1 : Int32) (x2 : Int32) (v : Int32 × Int32 × Ob) : Option (((Int32 × Ob)) ⊕ (Int32 × Int32 × Ob)) :=
  (if v.2.1 < (f_nRows v.2.2) then (aget (f_filled v.2.2) v.2.1).bind fun y148 => (if y148 = (0 : Int32) then (J10_42 v.2.2 x1 x2 v.1 v.2.1) else (aget (f_data v.2.2) ((v.2.1 * (4 : Int32)) + x1)).bind fun y150 => (F24 v.2.2 x2 v.1 y150).bind fun r169 => (J10_42 r169.2 x1 x2 r169.1 v.2.1)) else some (.inl (v.1, v.2.2)))
theorem tB10_5 (Ad : QAd n0 ad) (W : QW Z a0) (s : List Int32) (x1 : Int32) (x2 : Int32) (v : Int32 × Int32 × Ob) {r : ((Int32 × Ob)) ⊕ (Int32 × Int32 × Ob)} {u : Option Value} {τ : QHeap} (h : B10_5 x1 x2 v = some r) (hx0 : ∀ x : Int32 × Ob, r = .inl x → u = (some (Value.int x.1)) ∧ τ = (H0 s x.2)) (hc : ∀ x : Int32 × Int32 × Ob, r = .inr x → QTri l Z n0 ad 10 (5, [vR 1, vI x1, vI x2, vI x.1, vI x.2.1], [], (H0 s x.2.2)) u τ) : QTri l Z n0 ad 10 (5, [vR 1, vI x1, vI x2, vI v.1, vI v.2.1], [], (H0 s v.2.2)) u τ := by
 unfold B10_5 at h
 refine zS Ad W 3 (st' := (11, [vR 1, vI x1, vI x2, vI v.1, vI v.2.1], [.int (f_nRows v.2.2), .int v.2.1], (H0 s v.2.2))) rfl ?_
 rcases qite h with ⟨hc147, h⟩ | ⟨hc147, h⟩
 ·refine zF Ad W (t := 48) (f := 14) rfl (XT.ii_ge_f hc147) ?_
  refine zS Ad W 3 (st' := (20, [vR 1, vI x1, vI x2, vI v.1, vI v.2.1], [.int v.2.1, .ref 3], (H0 s v.2.2))) rfl ?_
  obtain ⟨y148, hy148, h⟩ := bind_eq_some_iff.mp h
  refine zB Ad W (f := fun y148 => (21, [vR 1, vI x1, vI x2, vI v.1, vI v.2.1], [.int y148], (H0 s v.2.2))) rfl hy148 ?_
  rcases qite h with ⟨hc149, h⟩ | ⟨hc149, h⟩
  ·refine zT Ad W (t := 42) (f := 24) rfl (XT.i0_eq_t hc149) ?_
   exact zM [tt,tt,tt,tt,tt] (tJ10_42 Ad W s v.2.2 x1 x2 v.1 v.2.1 h hx0 hc)
  ·refine zF Ad W (t := 42) (f := 24) rfl (XT.i0_eq_f hc149) ?_
   refine zS Ad W 10 (st' := (37, [vR 1, vI x1, vI x2, vI v.1, vI v.2.1], [.int ((v.2.1 * (4:Int32)) + x1), .ref 2, .int v.1, .int x2, .ref 1], (H0 s v.2.2))) rfl ?_
   obtain ⟨y150, hy150, h⟩ := bind_eq_some_iff.mp h
   refine zB Ad W (f := fun y150 => (38, [vR 1, vI x1, vI x2, vI v.1, vI v.2.1], [.int y150, .int v.1, .int x2, .ref 1], (H0 s v.2.2))) rfl hy150 ?_
   obtain ⟨r169, hr169, h⟩ := bind_eq_some_iff.mp h
   refine QTri.callP W (a := 1) (as := [.int x2, .int v.1, .int y150]) (rest := []) (w := (some (.int r169.1))) (σ₁ := (H0 s r169.2)) rfl rfl rfl rfl rfl rfl rfl rfl (tF24 Ad W s v.2.2 x2 v.1 y150 hr169) ?_
   refine zS Ad W 1 (st' := (42, [vR 1, vI x1, vI x2, vI r169.1, vI v.2.1], [], (H0 s r169.2))) rfl ?_
   exact zM [tt,tt,tt,tt,tt] (tJ10_42 Ad W s r169.2 x1 x2 r169.1 v.2.1 h hx0 hc)
 ·refine zT Ad W (t := 48) (f := 14) rfl (XT.ii_ge_t hc147) ?_
  refine zS Ad W 1 (st' := (49, [vR 1, vI x1, vI x2, vI v.1, vI v.2.1], [.int v.1], (H0 s v.2.2))) rfl ?_
  obtain rfl := Option.some.inj h
  obtain ⟨rfl, rfl⟩ := hx0 (v.1, v.2.2) rfl
  exact QTri.retI rfl rfl
/-- buildKeys(II)I -/
def F10 (o : Ob) (x1 : Int32) (x2 : Int32) : Option (Int32 × Ob) :=
 (loopN (B10_5 x1 x2) qN ((0:Int32), (0:Int32), o)).bind fun e170 => some e170
theorem tF10 (Ad : QAd n0 ad) (W : QW Z a0) (s : List Int32) (o : Ob) (x1 : Int32) (x2 : Int32) {r : Int32 × Ob} (h : F10 o x1 x2 = some r) : QTri l Z n0 ad 10 (0, qentry [.ref 1, .int x1, .int x2] (pMaxL 10), [], (H0 s o)) (some (Value.int r.1)) (H0 s r.2) := by
 unfold F10 at h
 refine zS Ad W 4 (st' := (5, [vR 1, vI x1, vI x2, vI (0:Int32), vI (0:Int32)], [], (H0 s o))) rfl ?_
 obtain ⟨e170, he170, h⟩ := bind_eq_some_iff.mp h
 refine zM [tt,tt,tt,tt,tt] (loopN_tri (B := B10_5 x1 x2) (T := fun lv171 => QTri l Z n0 ad 10 (5, [vR 1, vI x1, vI x2, vI lv171.1, vI lv171.2.1], [], (H0 s lv171.2.2)) (some (Value.int r.1)) (H0 s r.2)) (KE := fun e170a => (some (Value.int r.1)) = (some (Value.int e170a.1)) ∧ (H0 s r.2) = (H0 s e170a.2)) (fun lv171 r hB hE hC => tB10_5 Ad W s x1 x2 lv171 hB (fun x q => hE _ q) (fun x q => hC x q)) qN ((0:Int32), (0:Int32), o) e170 he170 ?_)
 obtain rfl := Option.some.inj h
 exact ⟨rfl, rfl⟩
def H0x13 (s : List Int32) (o0 : Ob) (a0_15 : Int32) : QHeap := H0v s (f_data o0) (f_filled o0) (f_rf o0) (f_cf o0) (f_vf o0) (f_ag o0) (f_fMode o0) (f_fRk o0) (f_fCk o0) (f_prevVal o0) (f_prevFound o0) (f_keys o0) (f_nRows o0) (f_nForms o0) (f_last o0) a0_15 (f_selRk o0) (f_selUseC o0) (f_selCk o0) (f_gCount o0) (f_gVal o0)
def H0x14 (s : List Int32) (o0 : Ob) (a0_16 : Int32) : QHeap := H0v s (f_data o0) (f_filled o0) (f_rf o0) (f_cf o0) (f_vf o0) (f_ag o0) (f_fMode o0) (f_fRk o0) (f_fCk o0) (f_prevVal o0) (f_prevFound o0) (f_keys o0) (f_nRows o0) (f_nForms o0) (f_last o0) (f_selUseR o0) a0_16 (f_selUseC o0) (f_selCk o0) (f_gCount o0) (f_gVal o0)
def H0x15 (s : List Int32) (o0 : Ob) (a0_16 : Int32) (a0_17 : Int32) : QHeap := H0v s (f_data o0) (f_filled o0) (f_rf o0) (f_cf o0) (f_vf o0) (f_ag o0) (f_fMode o0) (f_fRk o0) (f_fCk o0) (f_prevVal o0) (f_prevFound o0) (f_keys o0) (f_nRows o0) (f_nForms o0) (f_last o0) (f_selUseR o0) a0_16 a0_17 (f_selCk o0) (f_gCount o0) (f_gVal o0)
def H0x16 (s : List Int32) (o0 : Ob) (a0_18 : Int32) : QHeap := H0v s (f_data o0) (f_filled o0) (f_rf o0) (f_cf o0) (f_vf o0) (f_ag o0) (f_fMode o0) (f_fRk o0) (f_fCk o0) (f_prevVal o0) (f_prevFound o0) (f_keys o0) (f_nRows o0) (f_nForms o0) (f_last o0) (f_selUseR o0) (f_selRk o0) (f_selUseC o0) a0_18 (f_gCount o0) (f_gVal o0)
def J9_125 (o : Ob) (w0 : Int32) : Option (Int32 × Ob) :=
  some ((1 : Int32), (s_selCk o w0))
theorem tJ9_125 (Ad : QAd n0 ad) (W : QW Z a0) (s : List Int32) (o : Ob) (w0 : Int32) {r : Int32 × Ob} (h : J9_125 o w0 = some r) : QTri l Z n0 ad 9 (125, [none, none, none, none, none], [.int w0, .ref 1], (H0 s o)) (some (Value.int r.1)) (H0 s r.2) := by
 unfold J9_125 at h
 refine zS Ad W 1 (st' := (128, [none, none, none, none, none], [], (H0x16 s o w0))) rfl ?_
 refine zS Ad W 1 (st' := (129, [none, none, none, none, none], [.int (1:Int32)], (H0x16 s o w0))) rfl ?_
 have E188 : ((H0x16 s o w0) : QHeap) = (H0 s (s_selCk o w0)) := by simp only [fs, H0, H0v, H0x16, s_selCk]
 rw [E188]
 obtain rfl := Option.some.inj h
 exact QTri.retZ rfl rfl
def J9_87 (o : Ob) (x2 : Int32) (w0 : Int32) : Option (Int32 × Ob) :=
  (qboo (if x2 = (-1 : Int32) then (0 : Int32) else (1 : Int32))).bind fun y185 => (if y185 = (0 : Int32) then (J9_125 (s_selUseC (s_selRk o w0) y185) (0 : Int32)) else (aget (f_keys o) ((32 : Int32) + x2)).bind fun y189 => (J9_125 (s_selUseC (s_selRk o w0) y185) y189))
theorem tJ9_87 (Ad : QAd n0 ad) (W : QW Z a0) (s : List Int32) (o : Ob) (x2 : Int32) (w0 : Int32) {r : Int32 × Ob} (h : J9_87 o x2 w0 = some r) : QTri l Z n0 ad 9 (87, [vR 1, none, vI x2, none, none], [.int w0, .ref 1], (H0 s o)) (some (Value.int r.1)) (H0 s r.2) := by
 unfold J9_87 at h
 refine zS Ad W 1 (st' := (90, [vR 1, none, vI x2, none, none], [], (H0x14 s o w0))) rfl ?_
 refine zS Ad W 3 (st' := (93, [vR 1, none, vI x2, none, none], [.int (-1:Int32), .int x2, .ref 1], (H0x14 s o w0))) rfl ?_
 have K183 : ∀ z182 : Int32, z182 = (if x2 = (-1:Int32) then (0:Int32) else (1:Int32)) → QTri l Z n0 ad 9 (101, [vR 1, none, vI x2, none, none], [.int z182, .ref 1], (H0x14 s o w0)) (some (Value.int r.1)) (H0 s r.2) := by
  intro z182 ez182
  subst ez182
  obtain ⟨y185, hy185, h⟩ := bind_eq_some_iff.mp h
  refine QTri.bndB Ad W rfl hy185 ?_
  show QTri l Z n0 ad 9 (104, [vR 1, none, vI x2, none, none], [], (H0x15 s o w0 y185)) (some (Value.int r.1)) (H0 s r.2)
  refine zS Ad W 3 (st' := (109, [vR 1, none, vI x2, none, none], [.int y185, .ref 1], (H0x15 s o w0 y185))) rfl ?_
  rcases qite h with ⟨hc186, h⟩ | ⟨hc186, h⟩
  ·refine zT Ad W (t := 124) (f := 112) rfl (XT.i0_eq_t hc186) ?_
   refine zS Ad W 1 (st' := (125, [vR 1, none, vI x2, none, none], [.int (0:Int32), .ref 1], (H0x15 s o w0 y185))) rfl ?_
   have E187 : ((H0x15 s o w0 y185) : QHeap) = (H0 s (s_selUseC (s_selRk o w0) y185)) := by simp only [fs, H0, H0v, H0x15, s_selRk, s_selUseC]
   rw [E187]
   exact zM [ff,ff,ff,ff,ff] (tJ9_125 Ad W s (s_selUseC (s_selRk o w0) y185) (0:Int32) h)
  ·refine zF Ad W (t := 124) (f := 112) rfl (XT.i0_eq_f hc186) ?_
   refine zS Ad W 5 (st' := (120, [vR 1, none, vI x2, none, none], [.int ((32:Int32) + x2), .ref 9, .ref 1], (H0x15 s o w0 y185))) rfl ?_
   obtain ⟨y189, hy189, h⟩ := bind_eq_some_iff.mp h
   refine zB Ad W (f := fun y189 => (121, [vR 1, none, vI x2, none, none], [.int y189, .ref 1], (H0x15 s o w0 y185))) rfl hy189 ?_
   refine zS Ad W 1 (st' := (125, [vR 1, none, vI x2, none, none], [.int y189, .ref 1], (H0x15 s o w0 y185))) rfl ?_
   have E190 : ((H0x15 s o w0 y185) : QHeap) = (H0 s (s_selUseC (s_selRk o w0) y185)) := by simp only [fs, H0, H0v, H0x15, s_selRk, s_selUseC]
   rw [E190]
   exact zM [ff,ff,ff,ff,ff] (tJ9_125 Ad W s (s_selUseC (s_selRk o w0) y185) y189 h)
 rcases em (x2 = (-1:Int32)) with hc184 | hc184
 ·refine zT Ad W (t := 100) (f := 96) rfl (XT.ii_eq_t hc184) ?_
  refine zS Ad W 1 (st' := (101, [vR 1, none, vI x2, none, none], [.int (0:Int32), .ref 1], (H0x14 s o w0))) rfl ?_
  exact zM [tt,ff,tt,ff,ff] (K183 _ (if_pos hc184).symm)
 ·refine zF Ad W (t := 100) (f := 96) rfl (XT.ii_eq_f hc184) ?_
  refine zS Ad W 2 (st' := (101, [vR 1, none, vI x2, none, none], [.int (1:Int32), .ref 1], (H0x14 s o w0))) rfl ?_
  exact zM [tt,ff,tt,ff,ff] (K183 _ (if_neg hc184).symm)
def J9_55 (o : Ob) (x1 : Int32) (x2 : Int32) : Option (Int32 × Ob) :=
  (qboo (if x1 = (-1 : Int32) then (0 : Int32) else (1 : Int32))).bind fun y179 => (if y179 = (0 : Int32) then (J9_87 (s_selUseR o y179) x2 (0 : Int32)) else (aget (f_keys o) x1).bind fun y191 => (J9_87 (s_selUseR o y179) x2 y191))
theorem tJ9_55 (Ad : QAd n0 ad) (W : QW Z a0) (s : List Int32) (o : Ob) (x1 : Int32) (x2 : Int32) {r : Int32 × Ob} (h : J9_55 o x1 x2 = some r) : QTri l Z n0 ad 9 (55, [vR 1, vI x1, vI x2, none, none], [], (H0 s o)) (some (Value.int r.1)) (H0 s r.2) := by
 unfold J9_55 at h
 refine zS Ad W 3 (st' := (58, [vR 1, vI x1, vI x2, none, none], [.int (-1:Int32), .int x1, .ref 1], (H0 s o))) rfl ?_
 have K177 : ∀ z176 : Int32, z176 = (if x1 = (-1:Int32) then (0:Int32) else (1:Int32)) → QTri l Z n0 ad 9 (66, [vR 1, vI x1, vI x2, none, none], [.int z176, .ref 1], (H0 s o)) (some (Value.int r.1)) (H0 s r.2) := by
  intro z176 ez176
  subst ez176
  obtain ⟨y179, hy179, h⟩ := bind_eq_some_iff.mp h
  refine QTri.bndB Ad W rfl hy179 ?_
  show QTri l Z n0 ad 9 (69, [vR 1, vI x1, vI x2, none, none], [], (H0x13 s o y179)) (some (Value.int r.1)) (H0 s r.2)
  refine zS Ad W 3 (st' := (74, [vR 1, vI x1, vI x2, none, none], [.int y179, .ref 1], (H0x13 s o y179))) rfl ?_
  rcases qite h with ⟨hc180, h⟩ | ⟨hc180, h⟩
  ·refine zT Ad W (t := 86) (f := 77) rfl (XT.i0_eq_t hc180) ?_
   refine zS Ad W 1 (st' := (87, [vR 1, vI x1, vI x2, none, none], [.int (0:Int32), .ref 1], (H0x13 s o y179))) rfl ?_
   have E181 : ((H0x13 s o y179) : QHeap) = (H0 s (s_selUseR o y179)) := by simp only [fs, H0, H0v, H0x13, s_selUseR]
   rw [E181]
   exact zM [tt,ff,tt,ff,ff] (tJ9_87 Ad W s (s_selUseR o y179) x2 (0:Int32) h)
  ·refine zF Ad W (t := 86) (f := 77) rfl (XT.i0_eq_f hc180) ?_
   refine zS Ad W 3 (st' := (82, [vR 1, vI x1, vI x2, none, none], [.int x1, .ref 9, .ref 1], (H0x13 s o y179))) rfl ?_
   obtain ⟨y191, hy191, h⟩ := bind_eq_some_iff.mp h
   refine zB Ad W (f := fun y191 => (83, [vR 1, vI x1, vI x2, none, none], [.int y191, .ref 1], (H0x13 s o y179))) rfl hy191 ?_
   refine zS Ad W 1 (st' := (87, [vR 1, vI x1, vI x2, none, none], [.int y191, .ref 1], (H0x13 s o y179))) rfl ?_
   have E192 : ((H0x13 s o y179) : QHeap) = (H0 s (s_selUseR o y179)) := by simp only [fs, H0, H0v, H0x13, s_selUseR]
   rw [E192]
   exact zM [tt,ff,tt,ff,ff] (tJ9_87 Ad W s (s_selUseR o y179) x2 y191 h)
 rcases em (x1 = (-1:Int32)) with hc178 | hc178
 ·refine zT Ad W (t := 65) (f := 61) rfl (XT.ii_eq_t hc178) ?_
  refine zS Ad W 1 (st' := (66, [vR 1, vI x1, vI x2, none, none], [.int (0:Int32), .ref 1], (H0 s o))) rfl ?_
  exact zM [tt,tt,tt,ff,ff] (K177 _ (if_pos hc178).symm)
 ·refine zF Ad W (t := 65) (f := 61) rfl (XT.ii_eq_f hc178) ?_
  refine zS Ad W 2 (st' := (66, [vR 1, vI x1, vI x2, none, none], [.int (1:Int32), .ref 1], (H0 s o))) rfl ?_
  exact zM [tt,tt,tt,ff,ff] (K177 _ (if_neg hc178).symm)
def J9_38 (o : Ob) (x1 : Int32) (x2 : Int32) (x4 : Int32) : Option (Int32 × Ob) :=
  (if x2 = (-1 : Int32) then (J9_55 o x1 x2) else (if x2 < (0 : Int32) then some ((0 : Int32), o) else (if x2 < x4 then (J9_55 o x1 x2) else some ((0 : Int32), o))))
theorem tJ9_38 (Ad : QAd n0 ad) (W : QW Z a0) (s : List Int32) (o : Ob) (x1 : Int32) (x2 : Int32) (x4 : Int32) {r : Int32 × Ob} (h : J9_38 o x1 x2 x4 = some r) : QTri l Z n0 ad 9 (38, [vR 1, vI x1, vI x2, none, vI x4], [], (H0 s o)) (some (Value.int r.1)) (H0 s r.2) := by
 unfold J9_38 at h
 refine zS Ad W 2 (st' := (40, [vR 1, vI x1, vI x2, none, vI x4], [.int (-1:Int32), .int x2], (H0 s o))) rfl ?_
 rcases qite h with ⟨hc175, h⟩ | ⟨hc175, h⟩
 ·refine zT Ad W (t := 55) (f := 43) rfl (XT.ii_eq_t hc175) ?_
  exact zM [tt,tt,tt,ff,ff] (tJ9_55 Ad W s o x1 x2 h)
 ·refine zF Ad W (t := 55) (f := 43) rfl (XT.ii_eq_f hc175) ?_
  refine zS Ad W 1 (st' := (44, [vR 1, vI x1, vI x2, none, vI x4], [.int x2], (H0 s o))) rfl ?_
  rcases qite h with ⟨hc193, h⟩ | ⟨hc193, h⟩
  ·refine zT Ad W (t := 53) (f := 47) rfl (XT.i0_lt_t hc193) ?_
   refine zS Ad W 1 (st' := (54, [vR 1, vI x1, vI x2, none, vI x4], [.int (0:Int32)], (H0 s o))) rfl ?_
   obtain rfl := Option.some.inj h
   exact QTri.retZ rfl rfl
  ·refine zF Ad W (t := 53) (f := 47) rfl (XT.i0_lt_f hc193) ?_
   refine zS Ad W 2 (st' := (50, [vR 1, vI x1, vI x2, none, vI x4], [.int x4, .int x2], (H0 s o))) rfl ?_
   rcases qite h with ⟨hc194, h⟩ | ⟨hc194, h⟩
   ·refine zT Ad W (t := 55) (f := 53) rfl (XT.ii_lt_t hc194) ?_
    exact zM [tt,tt,tt,ff,ff] (tJ9_55 Ad W s o x1 x2 h)
   ·refine zF Ad W (t := 55) (f := 53) rfl (XT.ii_lt_f hc194) ?_
    refine zS Ad W 1 (st' := (54, [vR 1, vI x1, vI x2, none, vI x4], [.int (0:Int32)], (H0 s o))) rfl ?_
    obtain rfl := Option.some.inj h
    exact QTri.retZ rfl rfl
/-- resolve(II)Z -/
def F9 (o : Ob) (x1 : Int32) (x2 : Int32) : Option (Int32 × Ob) :=
 (F10 o (f_rf o) (0:Int32)).bind fun r172 => (F10 r172.2 (f_cf r172.2) (32:Int32)).bind fun r173 => (if x1 = (-1:Int32) then (J9_38 r173.2 x1 x2 r173.1) else (if x1 < (0:Int32) then some ((0:Int32), r173.2) else (if x1 < r172.1 then (J9_38 r173.2 x1 x2 r173.1) else some ((0:Int32), r173.2))))
theorem tF9 (Ad : QAd n0 ad) (W : QW Z a0) (s : List Int32) (o : Ob) (x1 : Int32) (x2 : Int32) {r : Int32 × Ob} (h : F9 o x1 x2 = some r) : QTri l Z n0 ad 9 (0, qentry [.ref 1, .int x1, .int x2] (pMaxL 9), [], (H0 s o)) (some (Value.int r.1)) (H0 s r.2) := by
 unfold F9 at h
 refine zS Ad W 4 (st' := (6, [vR 1, vI x1, vI x2, none, none], [.int (0:Int32), .int (f_rf o), .ref 1], (H0 s o))) rfl ?_
 obtain ⟨r172, hr172, h⟩ := bind_eq_some_iff.mp h
 refine QTri.callP W (a := 1) (as := [.int (f_rf o), .int (0:Int32)]) (rest := []) (w := (some (.int r172.1))) (σ₁ := (H0 s r172.2)) rfl rfl rfl rfl rfl rfl rfl rfl (tF10 Ad W s o (f_rf o) (0:Int32) hr172) ?_
 refine zS Ad W 5 (st' := (17, [vR 1, vI x1, vI x2, vI r172.1, none], [.int (32:Int32), .int (f_cf r172.2), .ref 1], (H0 s r172.2))) rfl ?_
 obtain ⟨r173, hr173, h⟩ := bind_eq_some_iff.mp h
 refine QTri.callP W (a := 1) (as := [.int (f_cf r172.2), .int (32:Int32)]) (rest := []) (w := (some (.int r173.1))) (σ₁ := (H0 s r173.2)) rfl rfl rfl rfl rfl rfl rfl rfl (tF10 Ad W s r172.2 (f_cf r172.2) (32:Int32) hr173) ?_
 refine zS Ad W 3 (st' := (24, [vR 1, vI x1, vI x2, vI r172.1, vI r173.1], [.int (-1:Int32), .int x1], (H0 s r173.2))) rfl ?_
 rcases qite h with ⟨hc174, h⟩ | ⟨hc174, h⟩
 ·refine zT Ad W (t := 38) (f := 27) rfl (XT.ii_eq_t hc174) ?_
  exact zM [tt,tt,tt,ff,tt] (tJ9_38 Ad W s r173.2 x1 x2 r173.1 h)
 ·refine zF Ad W (t := 38) (f := 27) rfl (XT.ii_eq_f hc174) ?_
  refine zS Ad W 1 (st' := (28, [vR 1, vI x1, vI x2, vI r172.1, vI r173.1], [.int x1], (H0 s r173.2))) rfl ?_
  rcases qite h with ⟨hc195, h⟩ | ⟨hc195, h⟩
  ·refine zT Ad W (t := 36) (f := 31) rfl (XT.i0_lt_t hc195) ?_
   refine zS Ad W 1 (st' := (37, [vR 1, vI x1, vI x2, vI r172.1, vI r173.1], [.int (0:Int32)], (H0 s r173.2))) rfl ?_
   obtain rfl := Option.some.inj h
   exact QTri.retZ rfl rfl
  ·refine zF Ad W (t := 36) (f := 31) rfl (XT.i0_lt_f hc195) ?_
   refine zS Ad W 2 (st' := (33, [vR 1, vI x1, vI x2, vI r172.1, vI r173.1], [.int r172.1, .int x1], (H0 s r173.2))) rfl ?_
   rcases qite h with ⟨hc196, h⟩ | ⟨hc196, h⟩
   ·refine zT Ad W (t := 38) (f := 36) rfl (XT.ii_lt_t hc196) ?_
    exact zM [tt,tt,tt,ff,tt] (tJ9_38 Ad W s r173.2 x1 x2 r173.1 h)
   ·refine zF Ad W (t := 38) (f := 36) rfl (XT.ii_lt_f hc196) ?_
    refine zS Ad W 1 (st' := (37, [vR 1, vI x1, vI x2, vI r172.1, vI r173.1], [.int (0:Int32)], (H0 s r173.2))) rfl ?_
    obtain rfl := Option.some.inj h
    exact QTri.retZ rfl rfl
/-- value(II)I -/
def F8 (o : Ob) (x1 : Int32) (x2 : Int32) : Option (Int32 × Ob) :=
 (F9 o x1 x2).bind fun r197 => (if r197.1 = (0:Int32) then some ((0:Int32), r197.2) else (F11 r197.2 (f_selUseR r197.2) (f_selRk r197.2) (f_selUseC r197.2) (f_selCk r197.2)).bind fun r199 => some ((f_gVal r199), r199))
theorem tF8 (Ad : QAd n0 ad) (W : QW Z a0) (s : List Int32) (o : Ob) (x1 : Int32) (x2 : Int32) {r : Int32 × Ob} (h : F8 o x1 x2 = some r) : QTri l Z n0 ad 8 (0, qentry [.ref 1, .int x1, .int x2] (pMaxL 8), [], (H0 s o)) (some (Value.int r.1)) (H0 s r.2) := by
 unfold F8 at h
 refine zS Ad W 3 (st' := (3, [vR 1, vI x1, vI x2], [.int x2, .int x1, .ref 1], (H0 s o))) rfl ?_
 obtain ⟨r197, hr197, h⟩ := bind_eq_some_iff.mp h
 refine QTri.callP W (a := 1) (as := [.int x1, .int x2]) (rest := []) (w := (some (.int r197.1))) (σ₁ := (H0 s r197.2)) rfl rfl rfl rfl rfl rfl rfl rfl (tF9 Ad W s o x1 x2 hr197) ?_
 rcases qite h with ⟨hc198, h⟩ | ⟨hc198, h⟩
 ·refine zF Ad W (t := 11) (f := 9) rfl (XT.i0_ne_f hc198) ?_
  refine zS Ad W 1 (st' := (10, [vR 1, vI x1, vI x2], [.int (0:Int32)], (H0 s r197.2))) rfl ?_
  obtain rfl := Option.some.inj h
  exact QTri.retI rfl rfl
 ·refine zT Ad W (t := 11) (f := 9) rfl (XT.i0_ne_t hc198) ?_
  refine zS Ad W 9 (st' := (28, [vR 1, vI x1, vI x2], [.int (f_selCk r197.2), .int (f_selUseC r197.2), .int (f_selRk r197.2), .int (f_selUseR r197.2), .ref 1], (H0 s r197.2))) rfl ?_
  obtain ⟨r199, hr199, h⟩ := bind_eq_some_iff.mp h
  refine QTri.callP W (a := 1) (as := [.int (f_selUseR r197.2), .int (f_selRk r197.2), .int (f_selUseC r197.2), .int (f_selCk r197.2)]) (rest := []) (w := none) (σ₁ := (H0 s r199)) rfl rfl rfl rfl rfl rfl rfl rfl (tF11 Ad W s r197.2 (f_selUseR r197.2) (f_selRk r197.2) (f_selUseC r197.2) (f_selCk r197.2) hr199) ?_
  refine zS Ad W 2 (st' := (35, [vR 1, vI x1, vI x2], [.int (f_gVal r199)], (H0 s r199))) rfl ?_
  obtain rfl := Option.some.inj h
  exact QTri.retI rfl rfl
/-- groupCount(II)I -/
def F13 (o : Ob) (x1 : Int32) (x2 : Int32) : Option (Int32 × Ob) :=
 (F9 o x1 x2).bind fun r202 => (if r202.1 = (0:Int32) then some ((0:Int32), r202.2) else (F11 r202.2 (f_selUseR r202.2) (f_selRk r202.2) (f_selUseC r202.2) (f_selCk r202.2)).bind fun r204 => some ((f_gCount r204), r204))
theorem tF13 (Ad : QAd n0 ad) (W : QW Z a0) (s : List Int32) (o : Ob) (x1 : Int32) (x2 : Int32) {r : Int32 × Ob} (h : F13 o x1 x2 = some r) : QTri l Z n0 ad 13 (0, qentry [.ref 1, .int x1, .int x2] (pMaxL 13), [], (H0 s o)) (some (Value.int r.1)) (H0 s r.2) := by
 unfold F13 at h
 refine zS Ad W 3 (st' := (3, [vR 1, vI x1, vI x2], [.int x2, .int x1, .ref 1], (H0 s o))) rfl ?_
 obtain ⟨r202, hr202, h⟩ := bind_eq_some_iff.mp h
 refine QTri.callP W (a := 1) (as := [.int x1, .int x2]) (rest := []) (w := (some (.int r202.1))) (σ₁ := (H0 s r202.2)) rfl rfl rfl rfl rfl rfl rfl rfl (tF9 Ad W s o x1 x2 hr202) ?_
 rcases qite h with ⟨hc203, h⟩ | ⟨hc203, h⟩
 ·refine zF Ad W (t := 11) (f := 9) rfl (XT.i0_ne_f hc203) ?_
  refine zS Ad W 1 (st' := (10, [vR 1, vI x1, vI x2], [.int (0:Int32)], (H0 s r202.2))) rfl ?_
  obtain rfl := Option.some.inj h
  exact QTri.retI rfl rfl
 ·refine zT Ad W (t := 11) (f := 9) rfl (XT.i0_ne_t hc203) ?_
  refine zS Ad W 9 (st' := (28, [vR 1, vI x1, vI x2], [.int (f_selCk r202.2), .int (f_selUseC r202.2), .int (f_selRk r202.2), .int (f_selUseR r202.2), .ref 1], (H0 s r202.2))) rfl ?_
  obtain ⟨r204, hr204, h⟩ := bind_eq_some_iff.mp h
  refine QTri.callP W (a := 1) (as := [.int (f_selUseR r202.2), .int (f_selRk r202.2), .int (f_selUseC r202.2), .int (f_selCk r202.2)]) (rest := []) (w := none) (σ₁ := (H0 s r204)) rfl rfl rfl rfl rfl rfl rfl rfl (tF11 Ad W s r202.2 (f_selUseR r202.2) (f_selRk r202.2) (f_selUseC r202.2) (f_selCk r202.2) hr204) ?_
  refine zS Ad W 2 (st' := (35, [vR 1, vI x1, vI x2], [.int (f_gCount r204)], (H0 s r204))) rfl ?_
  obtain rfl := Option.some.inj h
  exact QTri.retI rfl rfl
def B0_708 (s : List Int32) (p0 : Ob) (x2 : Int64) (x4 : Int32) (x5 : Int32) (x6 : Int32) (x7 : Int32) (x8 : Int32) (x9 : Int32) (x10 : Int32) (x11 : Int32) (x12 : Int32) (x13 : Int32) (x14 : Int32) (x19 : Int32) (x21 : Int32) (x25 : Int32) (x26 : Int32) (x27 : Int32) (v : Int32 × Int32 × Int32 × Int32) : Option (((Int32 × Int32 × Int32)) ⊕ (Int32 × Int32 × Int32 × Int32)) :=
  (if v.2.2.2 < (16 : Int32) then some (.inr ((if ((x25 >>> (v.2.2.2 &&& 31)) &&& (1 : Int32)) = (1 : Int32) then (v.1 + (1 : Int32)) else v.1), (if ((x26 >>> (v.2.2.2 &&& 31)) &&& (1 : Int32)) = (1 : Int32) then (v.2.1 + (1 : Int32)) else v.2.1), (if ((x25 >>> (v.2.2.2 &&& 31)) &&& (1 : Int32)) = (1 : Int32) then (if v.2.2.1 < (0 : Int32) then v.2.2.2 else v.2.2.1) else v.2.2.1), (v.2.2.2 + (1 : Int32)))) else some (.inl (v.1, v.2.1, v.2.2.1)))
theorem tB0_708 (Ad : QAd n0 ad) (W : QW Z a0) (s : List Int32) (p0 : Ob) (x2 : Int64) (x4 : Int32) (x5 : Int32) (x6 : Int32) (x7 : Int32) (x8 : Int32) (x9 : Int32) (x10 : Int32) (x11 : Int32) (x12 : Int32) (x13 : Int32) (x14 : Int32) (x19 : Int32) (x21 : Int32) (x25 : Int32) (x26 : Int32) (x27 : Int32) (v : Int32 × Int32 × Int32 × Int32) {r : ((Int32 × Int32 × Int32)) ⊕ (Int32 × Int32 × Int32 × Int32)} {u : Option Value} {τ : QHeap} (h : B0_708 s p0 x2 x4 x5 x6 x7 x8 x9 x10 x11 x12 x13 x14 x19 x21 x25 x26 x27 v = some r) (hx0 : ∀ x : Int32 × Int32 × Int32, r = .inl x → QTri l Z n0 ad 0 (758, [vR 0, vR 1, vL x2, none, vI x4, vI x5, vI x6, vI x7, vI x8, vI x9, vI x10, vI x11, vI x12, vI x13, vI x14, none, none, none, none, vI x19, none, vI x21, none, none, none, none, none, vI x27, vI x.1, vI x.2.1, vI x.2.2, none, none, none, none], [], (H0 s p0)) u τ) (hc : ∀ x : Int32 × Int32 × Int32 × Int32, r = .inr x → QTri l Z n0 ad 0 (708, [vR 0, vR 1, vL x2, none, vI x4, vI x5, vI x6, vI x7, vI x8, vI x9, vI x10, vI x11, vI x12, vI x13, vI x14, none, none, none, none, vI x19, none, vI x21, none, none, none, vI x25, vI x26, vI x27, vI x.1, vI x.2.1, vI x.2.2.1, vI x.2.2.2, none, none, none], [], (H0 s p0)) u τ) : QTri l Z n0 ad 0 (708, [vR 0, vR 1, vL x2, none, vI x4, vI x5, vI x6, vI x7, vI x8, vI x9, vI x10, vI x11, vI x12, vI x13, vI x14, none, none, none, none, vI x19, none, vI x21, none, none, none, vI x25, vI x26, vI x27, vI v.1, vI v.2.1, vI v.2.2.1, vI v.2.2.2, none, none, none], [], (H0 s p0)) u τ := by
 unfold B0_708 at h
 refine zS Ad W 2 (st' := (712, [vR 0, vR 1, vL x2, none, vI x4, vI x5, vI x6, vI x7, vI x8, vI x9, vI x10, vI x11, vI x12, vI x13, vI x14, none, none, none, none, vI x19, none, vI x21, none, none, none, vI x25, vI x26, vI x27, vI v.1, vI v.2.1, vI v.2.2.1, vI v.2.2.2, none, none, none], [.int (16:Int32), .int v.2.2.2], (H0 s p0))) rfl ?_
 rcases qite h with ⟨hc207, h⟩ | ⟨hc207, h⟩
 ·refine zF Ad W (t := 758) (f := 715) rfl (XT.ii_ge_f hc207) ?_
  refine zS Ad W 6 (st' := (723, [vR 0, vR 1, vL x2, none, vI x4, vI x5, vI x6, vI x7, vI x8, vI x9, vI x10, vI x11, vI x12, vI x13, vI x14, none, none, none, none, vI x19, none, vI x21, none, none, none, vI x25, vI x26, vI x27, vI v.1, vI v.2.1, vI v.2.2.1, vI v.2.2.2, none, none, none], [.int (1:Int32), .int ((x25 >>> (v.2.2.2 &&& 31)) &&& (1:Int32))], (H0 s p0))) rfl ?_
  have K210 : ∀ z208 : Int32, z208 = (if ((x25 >>> (v.2.2.2 &&& 31)) &&& (1:Int32)) = (1:Int32) then (v.1 + (1:Int32)) else v.1) → ∀ z209 : Int32, z209 = (if ((x25 >>> (v.2.2.2 &&& 31)) &&& (1:Int32)) = (1:Int32) then (if v.2.2.1 < (0:Int32) then v.2.2.2 else v.2.2.1) else v.2.2.1) → QTri l Z n0 ad 0 (738, [vR 0, vR 1, vL x2, none, vI x4, vI x5, vI x6, vI x7, vI x8, vI x9, vI x10, vI x11, vI x12, vI x13, vI x14, none, none, none, none, vI x19, none, vI x21, none, none, none, vI x25, vI x26, vI x27, vI z208, vI v.2.1, vI z209, vI v.2.2.2, none, none, none], [], (H0 s p0)) u τ := by
   intro z208 ez208
   intro z209 ez209
   subst ez208
   subst ez209
   refine zS Ad W 6 (st' := (746, [vR 0, vR 1, vL x2, none, vI x4, vI x5, vI x6, vI x7, vI x8, vI x9, vI x10, vI x11, vI x12, vI x13, vI x14, none, none, none, none, vI x19, none, vI x21, none, none, none, vI x25, vI x26, vI x27, vI (if ((x25 >>> (v.2.2.2 &&& 31)) &&& (1:Int32)) = (1:Int32) then (v.1 + (1:Int32)) else v.1), vI v.2.1, vI (if ((x25 >>> (v.2.2.2 &&& 31)) &&& (1:Int32)) = (1:Int32) then (if v.2.2.1 < (0:Int32) then v.2.2.2 else v.2.2.1) else v.2.2.1), vI v.2.2.2, none, none, none], [.int (1:Int32), .int ((x26 >>> (v.2.2.2 &&& 31)) &&& (1:Int32))], (H0 s p0))) rfl ?_
   have K214 : ∀ z213 : Int32, z213 = (if ((x26 >>> (v.2.2.2 &&& 31)) &&& (1:Int32)) = (1:Int32) then (v.2.1 + (1:Int32)) else v.2.1) → QTri l Z n0 ad 0 (752, [vR 0, vR 1, vL x2, none, vI x4, vI x5, vI x6, vI x7, vI x8, vI x9, vI x10, vI x11, vI x12, vI x13, vI x14, none, none, none, none, vI x19, none, vI x21, none, none, none, vI x25, vI x26, vI x27, vI (if ((x25 >>> (v.2.2.2 &&& 31)) &&& (1:Int32)) = (1:Int32) then (v.1 + (1:Int32)) else v.1), vI z213, vI (if ((x25 >>> (v.2.2.2 &&& 31)) &&& (1:Int32)) = (1:Int32) then (if v.2.2.1 < (0:Int32) then v.2.2.2 else v.2.2.1) else v.2.2.1), vI v.2.2.2, none, none, none], [], (H0 s p0)) u τ := by
    intro z213 ez213
    subst ez213
    refine zS Ad W 2 (st' := (708, [vR 0, vR 1, vL x2, none, vI x4, vI x5, vI x6, vI x7, vI x8, vI x9, vI x10, vI x11, vI x12, vI x13, vI x14, none, none, none, none, vI x19, none, vI x21, none, none, none, vI x25, vI x26, vI x27, vI (if ((x25 >>> (v.2.2.2 &&& 31)) &&& (1:Int32)) = (1:Int32) then (v.1 + (1:Int32)) else v.1), vI (if ((x26 >>> (v.2.2.2 &&& 31)) &&& (1:Int32)) = (1:Int32) then (v.2.1 + (1:Int32)) else v.2.1), vI (if ((x25 >>> (v.2.2.2 &&& 31)) &&& (1:Int32)) = (1:Int32) then (if v.2.2.1 < (0:Int32) then v.2.2.2 else v.2.2.1) else v.2.2.1), vI (v.2.2.2 + (1:Int32)), none, none, none], [], (H0 s p0))) rfl ?_
    obtain rfl := Option.some.inj h
    exact zM [tt,tt,tt,ff,tt,tt,tt,tt,tt,tt,tt,tt,tt,tt,tt,ff,ff,ff,ff,tt,ff,tt,ff,ff,ff,tt,tt,tt,tt,tt,tt,tt,ff,ff,ff] (hc ((if ((x25 >>> (v.2.2.2 &&& 31)) &&& (1:Int32)) = (1:Int32) then (v.1 + (1:Int32)) else v.1), (if ((x26 >>> (v.2.2.2 &&& 31)) &&& (1:Int32)) = (1:Int32) then (v.2.1 + (1:Int32)) else v.2.1), (if ((x25 >>> (v.2.2.2 &&& 31)) &&& (1:Int32)) = (1:Int32) then (if v.2.2.1 < (0:Int32) then v.2.2.2 else v.2.2.1) else v.2.2.1), (v.2.2.2 + (1:Int32))) rfl)
   rcases em (((x26 >>> (v.2.2.2 &&& 31)) &&& (1:Int32)) = (1:Int32)) with hc215 | hc215
   ·refine zF Ad W (t := 752) (f := 749) rfl (XT.ii_ne_f hc215) ?_
    refine zS Ad W 1 (st' := (752, [vR 0, vR 1, vL x2, none, vI x4, vI x5, vI x6, vI x7, vI x8, vI x9, vI x10, vI x11, vI x12, vI x13, vI x14, none, none, none, none, vI x19, none, vI x21, none, none, none, vI x25, vI x26, vI x27, vI (if ((x25 >>> (v.2.2.2 &&& 31)) &&& (1:Int32)) = (1:Int32) then (v.1 + (1:Int32)) else v.1), vI (v.2.1 + (1:Int32)), vI (if ((x25 >>> (v.2.2.2 &&& 31)) &&& (1:Int32)) = (1:Int32) then (if v.2.2.1 < (0:Int32) then v.2.2.2 else v.2.2.1) else v.2.2.1), vI v.2.2.2, none, none, none], [], (H0 s p0))) rfl ?_
    exact zM [tt,tt,tt,ff,tt,tt,tt,tt,tt,tt,tt,tt,tt,tt,tt,ff,ff,ff,ff,tt,ff,tt,ff,ff,ff,tt,tt,tt,tt,tt,tt,tt,ff,ff,ff] (K214 _ (if_pos hc215).symm)
   ·refine zT Ad W (t := 752) (f := 749) rfl (XT.ii_ne_t hc215) ?_
    exact zM [tt,tt,tt,ff,tt,tt,tt,tt,tt,tt,tt,tt,tt,tt,tt,ff,ff,ff,ff,tt,ff,tt,ff,ff,ff,tt,tt,tt,tt,tt,tt,tt,ff,ff,ff] (K214 _ (if_neg hc215).symm)
  rcases em (((x25 >>> (v.2.2.2 &&& 31)) &&& (1:Int32)) = (1:Int32)) with hc211 | hc211
  ·refine zF Ad W (t := 738) (f := 726) rfl (XT.ii_ne_f hc211) ?_
   refine zS Ad W 2 (st' := (731, [vR 0, vR 1, vL x2, none, vI x4, vI x5, vI x6, vI x7, vI x8, vI x9, vI x10, vI x11, vI x12, vI x13, vI x14, none, none, none, none, vI x19, none, vI x21, none, none, none, vI x25, vI x26, vI x27, vI (v.1 + (1:Int32)), vI v.2.1, vI v.2.2.1, vI v.2.2.2, none, none, none], [.int v.2.2.1], (H0 s p0))) rfl ?_
   rcases em (v.2.2.1 < (0:Int32)) with hc212 | hc212
   ·refine zF Ad W (t := 738) (f := 734) rfl (XT.i0_ge_f hc212) ?_
    refine zS Ad W 2 (st' := (738, [vR 0, vR 1, vL x2, none, vI x4, vI x5, vI x6, vI x7, vI x8, vI x9, vI x10, vI x11, vI x12, vI x13, vI x14, none, none, none, none, vI x19, none, vI x21, none, none, none, vI x25, vI x26, vI x27, vI (v.1 + (1:Int32)), vI v.2.1, vI v.2.2.2, vI v.2.2.2, none, none, none], [], (H0 s p0))) rfl ?_
    exact zM [tt,tt,tt,ff,tt,tt,tt,tt,tt,tt,tt,tt,tt,tt,tt,ff,ff,ff,ff,tt,ff,tt,ff,ff,ff,tt,tt,tt,tt,tt,tt,tt,ff,ff,ff] (K210 _ (if_pos hc211).symm _ ((if_pos hc211).trans (if_pos hc212)).symm)
   ·refine zT Ad W (t := 738) (f := 734) rfl (XT.i0_ge_t hc212) ?_
    exact zM [tt,tt,tt,ff,tt,tt,tt,tt,tt,tt,tt,tt,tt,tt,tt,ff,ff,ff,ff,tt,ff,tt,ff,ff,ff,tt,tt,tt,tt,tt,tt,tt,ff,ff,ff] (K210 _ (if_pos hc211).symm _ ((if_pos hc211).trans (if_neg hc212)).symm)
  ·refine zT Ad W (t := 738) (f := 726) rfl (XT.ii_ne_t hc211) ?_
   exact zM [tt,tt,tt,ff,tt,tt,tt,tt,tt,tt,tt,tt,tt,tt,tt,ff,ff,ff,ff,tt,ff,tt,ff,ff,ff,tt,tt,tt,tt,tt,tt,tt,ff,ff,ff] (K210 _ (if_neg hc211).symm _ (if_neg hc211).symm)
 ·refine zT Ad W (t := 758) (f := 715) rfl (XT.ii_ge_t hc207) ?_
  obtain rfl := Option.some.inj h
  exact zM [tt,tt,tt,ff,tt,tt,tt,tt,tt,tt,tt,tt,tt,tt,tt,ff,ff,ff,ff,tt,ff,tt,ff,ff,ff,ff,ff,tt,tt,tt,tt,ff,ff,ff,ff] (hx0 (v.1, v.2.1, v.2.2.1) rfl)
/-- rowKeyCount()I -/
def F14 (o : Ob) : Option (Int32 × Ob) :=
 (F10 o (f_rf o) (0:Int32)).bind fun r218 => some (r218.1, r218.2)
theorem tF14 (Ad : QAd n0 ad) (W : QW Z a0) (s : List Int32) (o : Ob) {r : Int32 × Ob} (h : F14 o = some r) : QTri l Z n0 ad 14 (0, qentry [.ref 1] (pMaxL 14), [], (H0 s o)) (some (Value.int r.1)) (H0 s r.2) := by
 unfold F14 at h
 refine zS Ad W 4 (st' := (6, [vR 1], [.int (0:Int32), .int (f_rf o), .ref 1], (H0 s o))) rfl ?_
 obtain ⟨r218, hr218, h⟩ := bind_eq_some_iff.mp h
 refine QTri.callP W (a := 1) (as := [.int (f_rf o), .int (0:Int32)]) (rest := []) (w := (some (.int r218.1))) (σ₁ := (H0 s r218.2)) rfl rfl rfl rfl rfl rfl rfl rfl (tF10 Ad W s o (f_rf o) (0:Int32) hr218) ?_
 obtain rfl := Option.some.inj h
 exact QTri.retI rfl rfl
/-- colKeyCount()I -/
def F15 (o : Ob) : Option (Int32 × Ob) :=
 (F10 o (f_cf o) (32:Int32)).bind fun r221 => some (r221.1, r221.2)
theorem tF15 (Ad : QAd n0 ad) (W : QW Z a0) (s : List Int32) (o : Ob) {r : Int32 × Ob} (h : F15 o = some r) : QTri l Z n0 ad 15 (0, qentry [.ref 1] (pMaxL 15), [], (H0 s o)) (some (Value.int r.1)) (H0 s r.2) := by
 unfold F15 at h
 refine zS Ad W 4 (st' := (7, [vR 1], [.int (32:Int32), .int (f_cf o), .ref 1], (H0 s o))) rfl ?_
 obtain ⟨r221, hr221, h⟩ := bind_eq_some_iff.mp h
 refine QTri.callP W (a := 1) (as := [.int (f_cf o), .int (32:Int32)]) (rest := []) (w := (some (.int r221.1))) (σ₁ := (H0 s r221.2)) rfl rfl rfl rfl rfl rfl rfl rfl (tF10 Ad W s o (f_cf o) (32:Int32) hr221) ?_
 obtain rfl := Option.some.inj h
 exact QTri.retI rfl rfl
/-- rowKey(I)I -/
def F25 (o : Ob) (x1 : Int32) : Option (Int32 × Ob) :=
 (F10 o (f_rf o) (0:Int32)).bind fun r225 => (if x1 < (0:Int32) then some ((0:Int32), r225.2) else (if x1 < r225.1 then (aget (f_keys r225.2) x1).bind fun y228 => some (y228, r225.2) else some ((0:Int32), r225.2)))
theorem tF25 (Ad : QAd n0 ad) (W : QW Z a0) (s : List Int32) (o : Ob) (x1 : Int32) {r : Int32 × Ob} (h : F25 o x1 = some r) : QTri l Z n0 ad 25 (0, qentry [.ref 1, .int x1] (pMaxL 25), [], (H0 s o)) (some (Value.int r.1)) (H0 s r.2) := by
 unfold F25 at h
 refine zS Ad W 4 (st' := (6, [vR 1, vI x1, none], [.int (0:Int32), .int (f_rf o), .ref 1], (H0 s o))) rfl ?_
 obtain ⟨r225, hr225, h⟩ := bind_eq_some_iff.mp h
 refine QTri.callP W (a := 1) (as := [.int (f_rf o), .int (0:Int32)]) (rest := []) (w := (some (.int r225.1))) (σ₁ := (H0 s r225.2)) rfl rfl rfl rfl rfl rfl rfl rfl (tF10 Ad W s o (f_rf o) (0:Int32) hr225) ?_
 refine zS Ad W 2 (st' := (11, [vR 1, vI x1, vI r225.1], [.int x1], (H0 s r225.2))) rfl ?_
 rcases qite h with ⟨hc226, h⟩ | ⟨hc226, h⟩
 ·refine zT Ad W (t := 19) (f := 14) rfl (XT.i0_lt_t hc226) ?_
  refine zS Ad W 1 (st' := (20, [vR 1, vI x1, vI r225.1], [.int (0:Int32)], (H0 s r225.2))) rfl ?_
  obtain rfl := Option.some.inj h
  exact QTri.retI rfl rfl
 ·refine zF Ad W (t := 19) (f := 14) rfl (XT.i0_lt_f hc226) ?_
  refine zS Ad W 2 (st' := (16, [vR 1, vI x1, vI r225.1], [.int r225.1, .int x1], (H0 s r225.2))) rfl ?_
  rcases qite h with ⟨hc227, h⟩ | ⟨hc227, h⟩
  ·refine zT Ad W (t := 21) (f := 19) rfl (XT.ii_lt_t hc227) ?_
   refine zS Ad W 3 (st' := (26, [vR 1, vI x1, vI r225.1], [.int x1, .ref 9], (H0 s r225.2))) rfl ?_
   obtain ⟨y228, hy228, h⟩ := bind_eq_some_iff.mp h
   refine zB Ad W (f := fun y228 => (27, [vR 1, vI x1, vI r225.1], [.int y228], (H0 s r225.2))) rfl hy228 ?_
   obtain rfl := Option.some.inj h
   exact QTri.retI rfl rfl
  ·refine zF Ad W (t := 21) (f := 19) rfl (XT.ii_lt_f hc227) ?_
   refine zS Ad W 1 (st' := (20, [vR 1, vI x1, vI r225.1], [.int (0:Int32)], (H0 s r225.2))) rfl ?_
   obtain rfl := Option.some.inj h
   exact QTri.retI rfl rfl
/-- validSlot(I)Z -/
def F3 (o : Ob) (x1 : Int32) : Option (Int32) :=
 (if x1 < (0:Int32) then some (0:Int32) else (if x1 < (f_nForms o) then some (1:Int32) else some (0:Int32)))
theorem tF3 (Ad : QAd n0 ad) (W : QW Z a0) (s : List Int32) (o : Ob) (x1 : Int32) {r : Int32} (h : F3 o x1 = some r) : QTri l Z n0 ad 3 (0, qentry [.ref 1, .int x1] (pMaxL 3), [], (H0 s o)) (some (Value.int r)) (H0 s o) := by
 unfold F3 at h
 refine zS Ad W 1 (st' := (1, [vR 1, vI x1], [.int x1], (H0 s o))) rfl ?_
 rcases qite h with ⟨hc233, h⟩ | ⟨hc233, h⟩
 ·refine zT Ad W (t := 16) (f := 4) rfl (XT.i0_lt_t hc233) ?_
  refine zS Ad W 1 (st' := (17, [vR 1, vI x1], [.int (0:Int32)], (H0 s o))) rfl ?_
  obtain rfl := Option.some.inj h
  exact QTri.retZ rfl rfl
 ·refine zF Ad W (t := 16) (f := 4) rfl (XT.i0_lt_f hc233) ?_
  refine zS Ad W 3 (st' := (9, [vR 1, vI x1], [.int (f_nForms o), .int x1], (H0 s o))) rfl ?_
  rcases qite h with ⟨hc234, h⟩ | ⟨hc234, h⟩
  ·refine zF Ad W (t := 16) (f := 12) rfl (XT.ii_ge_f hc234) ?_
   refine zS Ad W 2 (st' := (17, [vR 1, vI x1], [.int (1:Int32)], (H0 s o))) rfl ?_
   obtain rfl := Option.some.inj h
   exact QTri.retZ rfl rfl
  ·refine zT Ad W (t := 16) (f := 12) rfl (XT.ii_ge_t hc234) ?_
   refine zS Ad W 1 (st' := (17, [vR 1, vI x1], [.int (0:Int32)], (H0 s o))) rfl ?_
   obtain rfl := Option.some.inj h
   exact QTri.retZ rfl rfl
/-- formulaValue(I)I -/
def F16 (o : Ob) (x1 : Int32) : Option (Int32 × Ob) :=
 (F3 o x1).bind fun r235 => (if r235 = (0:Int32) then some ((0:Int32), o) else (F17 o x1).bind fun r237 => some ((f_gVal r237), r237))
theorem tF16 (Ad : QAd n0 ad) (W : QW Z a0) (s : List Int32) (o : Ob) (x1 : Int32) {r : Int32 × Ob} (h : F16 o x1 = some r) : QTri l Z n0 ad 16 (0, qentry [.ref 1, .int x1] (pMaxL 16), [], (H0 s o)) (some (Value.int r.1)) (H0 s r.2) := by
 unfold F16 at h
 refine zS Ad W 2 (st' := (2, [vR 1, vI x1], [.int x1, .ref 1], (H0 s o))) rfl ?_
 obtain ⟨r235, hr235, h⟩ := bind_eq_some_iff.mp h
 refine QTri.callP W (a := 1) (as := [.int x1]) (rest := []) (w := (some (.int r235))) (σ₁ := (H0 s o)) rfl rfl rfl rfl rfl rfl rfl rfl (tF3 Ad W s o x1 hr235) ?_
 rcases qite h with ⟨hc236, h⟩ | ⟨hc236, h⟩
 ·refine zF Ad W (t := 10) (f := 8) rfl (XT.i0_ne_f hc236) ?_
  refine zS Ad W 1 (st' := (9, [vR 1, vI x1], [.int (0:Int32)], (H0 s o))) rfl ?_
  obtain rfl := Option.some.inj h
  exact QTri.retI rfl rfl
 ·refine zT Ad W (t := 10) (f := 8) rfl (XT.i0_ne_t hc236) ?_
  refine zS Ad W 2 (st' := (12, [vR 1, vI x1], [.int x1, .ref 1], (H0 s o))) rfl ?_
  obtain ⟨r237, hr237, h⟩ := bind_eq_some_iff.mp h
  refine QTri.callP W (a := 1) (as := [.int x1]) (rest := []) (w := none) (σ₁ := (H0 s r237)) rfl rfl rfl rfl rfl rfl rfl rfl (tF17 Ad W s o x1 hr237) ?_
  refine zS Ad W 2 (st' := (19, [vR 1, vI x1], [.int (f_gVal r237)], (H0 s r237))) rfl ?_
  obtain rfl := Option.some.inj h
  exact QTri.retI rfl rfl
/-- formulaFound(I)Z -/
def F18 (o : Ob) (x1 : Int32) : Option (Int32 × Ob) :=
 (F3 o x1).bind fun r240 => (if r240 = (0:Int32) then some ((0:Int32), o) else (F17 o x1).bind fun r242 => (if (0:Int32) < (f_gCount r242) then some ((1:Int32), r242) else some ((0:Int32), r242)))
theorem tF18 (Ad : QAd n0 ad) (W : QW Z a0) (s : List Int32) (o : Ob) (x1 : Int32) {r : Int32 × Ob} (h : F18 o x1 = some r) : QTri l Z n0 ad 18 (0, qentry [.ref 1, .int x1] (pMaxL 18), [], (H0 s o)) (some (Value.int r.1)) (H0 s r.2) := by
 unfold F18 at h
 refine zS Ad W 2 (st' := (2, [vR 1, vI x1], [.int x1, .ref 1], (H0 s o))) rfl ?_
 obtain ⟨r240, hr240, h⟩ := bind_eq_some_iff.mp h
 refine QTri.callP W (a := 1) (as := [.int x1]) (rest := []) (w := (some (.int r240))) (σ₁ := (H0 s o)) rfl rfl rfl rfl rfl rfl rfl rfl (tF3 Ad W s o x1 hr240) ?_
 rcases qite h with ⟨hc241, h⟩ | ⟨hc241, h⟩
 ·refine zF Ad W (t := 10) (f := 8) rfl (XT.i0_ne_f hc241) ?_
  refine zS Ad W 1 (st' := (9, [vR 1, vI x1], [.int (0:Int32)], (H0 s o))) rfl ?_
  obtain rfl := Option.some.inj h
  exact QTri.retZ rfl rfl
 ·refine zT Ad W (t := 10) (f := 8) rfl (XT.i0_ne_t hc241) ?_
  refine zS Ad W 2 (st' := (12, [vR 1, vI x1], [.int x1, .ref 1], (H0 s o))) rfl ?_
  obtain ⟨r242, hr242, h⟩ := bind_eq_some_iff.mp h
  refine QTri.callP W (a := 1) (as := [.int x1]) (rest := []) (w := none) (σ₁ := (H0 s r242)) rfl rfl rfl rfl rfl rfl rfl rfl (tF17 Ad W s o x1 hr242) ?_
  refine zS Ad W 2 (st' := (19, [vR 1, vI x1], [.int (f_gCount r242)], (H0 s r242))) rfl ?_
  rcases qite h with ⟨hc243, h⟩ | ⟨hc243, h⟩
  ·refine zF Ad W (t := 26) (f := 22) rfl (XT.i0_le_f hc243) ?_
   refine zS Ad W 2 (st' := (27, [vR 1, vI x1], [.int (1:Int32)], (H0 s r242))) rfl ?_
   obtain rfl := Option.some.inj h
   exact QTri.retZ rfl rfl
  ·refine zT Ad W (t := 26) (f := 22) rfl (XT.i0_le_t hc243) ?_
   refine zS Ad W 1 (st' := (27, [vR 1, vI x1], [.int (0:Int32)], (H0 s r242))) rfl ?_
   obtain rfl := Option.some.inj h
   exact QTri.retZ rfl rfl
def J0_888 (s : List Int32) (p0 : Ob) (x2 : Int64) (x4 : Int32) (x5 : Int32) (x6 : Int32) (x7 : Int32) (x8 : Int32) (x9 : Int32) (x10 : Int32) (x11 : Int32) (x12 : Int32) (x13 : Int32) (x14 : Int32) (x19 : Int32) (x21 : Int32) (x27 : Int32) (x31 : Int32) (x32 : Int32) (x33 : Int32) (x34 : Int32) : Option (((Int32 × Int32 × Ob) ⊕ (Int32 × QHeap)) ⊕ (Int32 × Int32 × Int32 × Ob)) :=
  some (.inr (x31, (if x34 = (0 : Int32) then x32 else (if x34 = (4 : Int32) then x32 else (x32 + (1 : Int32)))), (x33 + (1 : Int32)), p0))
theorem tJ0_888 (Ad : QAd n0 ad) (W : QW Z a0) (s : List Int32) (p0 : Ob) (x2 : Int64) (x4 : Int32) (x5 : Int32) (x6 : Int32) (x7 : Int32) (x8 : Int32) (x9 : Int32) (x10 : Int32) (x11 : Int32) (x12 : Int32) (x13 : Int32) (x14 : Int32) (x19 : Int32) (x21 : Int32) (x27 : Int32) (x31 : Int32) (x32 : Int32) (x33 : Int32) (x34 : Int32) {r : ((Int32 × Int32 × Ob) ⊕ (Int32 × QHeap)) ⊕ (Int32 × Int32 × Int32 × Ob)} {u : Option Value} {τ : QHeap} (h : J0_888 s p0 x2 x4 x5 x6 x7 x8 x9 x10 x11 x12 x13 x14 x19 x21 x27 x31 x32 x33 x34 = some r) (hx0 : ∀ x : Int32 × Int32 × Ob, r = .inl (Sum.inl x) → QTri l Z n0 ad 0 (908, [vR 0, vR 1, vL x2, none, vI x4, vI x5, vI x6, vI x7, vI x8, vI x9, vI x10, vI x11, vI x12, vI x13, vI x14, none, none, none, none, vI x19, none, vI x21, none, none, none, none, none, vI x27, none, none, none, vI x.1, vI x.2.1, none, none], [], (H0 s x.2.2)) u τ) (hx1 : ∀ x : Int32 × QHeap, r = .inl (Sum.inr x) → u = (some (Value.int x.1)) ∧ τ = x.2) (hc : ∀ x : Int32 × Int32 × Int32 × Ob, r = .inr x → QTri l Z n0 ad 0 (804, [vR 0, vR 1, vL x2, none, vI x4, vI x5, vI x6, vI x7, vI x8, vI x9, vI x10, vI x11, vI x12, vI x13, vI x14, none, none, none, none, vI x19, none, vI x21, none, none, none, none, none, vI x27, none, none, none, vI x.1, vI x.2.1, vI x.2.2.1, none], [], (H0 s x.2.2.2)) u τ) : QTri l Z n0 ad 0 (888, [vR 0, vR 1, vL x2, none, vI x4, vI x5, vI x6, vI x7, vI x8, vI x9, vI x10, vI x11, vI x12, vI x13, vI x14, none, none, none, none, vI x19, none, vI x21, none, none, none, none, none, vI x27, none, none, none, vI x31, vI x32, vI x33, vI x34], [], (H0 s p0)) u τ := by
 unfold J0_888 at h
 refine zS Ad W 1 (st' := (890, [vR 0, vR 1, vL x2, none, vI x4, vI x5, vI x6, vI x7, vI x8, vI x9, vI x10, vI x11, vI x12, vI x13, vI x14, none, none, none, none, vI x19, none, vI x21, none, none, none, none, none, vI x27, none, none, none, vI x31, vI x32, vI x33, vI x34], [.int x34], (H0 s p0))) rfl ?_
 have K255 : ∀ z254 : Int32, z254 = (if x34 = (0:Int32) then x32 else (if x34 = (4:Int32) then x32 else (x32 + (1:Int32)))) → QTri l Z n0 ad 0 (902, [vR 0, vR 1, vL x2, none, vI x4, vI x5, vI x6, vI x7, vI x8, vI x9, vI x10, vI x11, vI x12, vI x13, vI x14, none, none, none, none, vI x19, none, vI x21, none, none, none, none, none, vI x27, none, none, none, vI x31, vI z254, vI x33, none], [], (H0 s p0)) u τ := by
  intro z254 ez254
  subst ez254
  refine zS Ad W 2 (st' := (804, [vR 0, vR 1, vL x2, none, vI x4, vI x5, vI x6, vI x7, vI x8, vI x9, vI x10, vI x11, vI x12, vI x13, vI x14, none, none, none, none, vI x19, none, vI x21, none, none, none, none, none, vI x27, none, none, none, vI x31, vI (if x34 = (0:Int32) then x32 else (if x34 = (4:Int32) then x32 else (x32 + (1:Int32)))), vI (x33 + (1:Int32)), none], [], (H0 s p0))) rfl ?_
  obtain rfl := Option.some.inj h
  exact zM [tt,tt,tt,ff,tt,tt,tt,tt,tt,tt,tt,tt,tt,tt,tt,ff,ff,ff,ff,tt,ff,tt,ff,ff,ff,ff,ff,tt,ff,ff,ff,tt,tt,tt,ff] (hc (x31, (if x34 = (0:Int32) then x32 else (if x34 = (4:Int32) then x32 else (x32 + (1:Int32)))), (x33 + (1:Int32)), p0) rfl)
 rcases em (x34 = (0:Int32)) with hc256 | hc256
 ·refine zT Ad W (t := 902) (f := 893) rfl (XT.i0_eq_t hc256) ?_
  exact zM [tt,tt,tt,ff,tt,tt,tt,tt,tt,tt,tt,tt,tt,tt,tt,ff,ff,ff,ff,tt,ff,tt,ff,ff,ff,ff,ff,tt,ff,ff,ff,tt,tt,tt,ff] (K255 _ (if_pos hc256).symm)
 ·refine zF Ad W (t := 902) (f := 893) rfl (XT.i0_eq_f hc256) ?_
  refine zS Ad W 2 (st' := (896, [vR 0, vR 1, vL x2, none, vI x4, vI x5, vI x6, vI x7, vI x8, vI x9, vI x10, vI x11, vI x12, vI x13, vI x14, none, none, none, none, vI x19, none, vI x21, none, none, none, none, none, vI x27, none, none, none, vI x31, vI x32, vI x33, vI x34], [.int (4:Int32), .int x34], (H0 s p0))) rfl ?_
  rcases em (x34 = (4:Int32)) with hc257 | hc257
  ·refine zT Ad W (t := 902) (f := 899) rfl (XT.ii_eq_t hc257) ?_
   exact zM [tt,tt,tt,ff,tt,tt,tt,tt,tt,tt,tt,tt,tt,tt,tt,ff,ff,ff,ff,tt,ff,tt,ff,ff,ff,ff,ff,tt,ff,ff,ff,tt,tt,tt,ff] (K255 _ ((if_neg hc256).trans (if_pos hc257)).symm)
  ·refine zF Ad W (t := 902) (f := 899) rfl (XT.ii_eq_f hc257) ?_
   refine zS Ad W 1 (st' := (902, [vR 0, vR 1, vL x2, none, vI x4, vI x5, vI x6, vI x7, vI x8, vI x9, vI x10, vI x11, vI x12, vI x13, vI x14, none, none, none, none, vI x19, none, vI x21, none, none, none, none, none, vI x27, none, none, none, vI x31, vI (x32 + (1:Int32)), vI x33, vI x34], [], (H0 s p0))) rfl ?_
   exact zM [tt,tt,tt,ff,tt,tt,tt,tt,tt,tt,tt,tt,tt,tt,tt,ff,ff,ff,ff,tt,ff,tt,ff,ff,ff,ff,ff,tt,ff,ff,ff,tt,tt,tt,ff] (K255 _ ((if_neg hc256).trans (if_neg hc257)).symm)
def J0_847 (s : List Int32) (p0 : Ob) (x2 : Int64) (x4 : Int32) (x5 : Int32) (x6 : Int32) (x7 : Int32) (x8 : Int32) (x9 : Int32) (x10 : Int32) (x11 : Int32) (x12 : Int32) (x13 : Int32) (x14 : Int32) (x19 : Int32) (x21 : Int32) (x27 : Int32) (x31 : Int32) (x32 : Int32) (x33 : Int32) (x34 : Int32) : Option (((Int32 × Int32 × Ob) ⊕ (Int32 × QHeap)) ⊕ (Int32 × Int32 × Int32 × Ob)) :=
  (if x34 = (4 : Int32) then (F16 p0 x33).bind fun r247 => (if r247.1 = x27 then (F18 r247.2 x33).bind fun r249 => (if r249.1 = (if (0 : Int32) < x21 then (1 : Int32) else (0 : Int32)) then (J0_888 s r249.2 x2 x4 x5 x6 x7 x8 x9 x10 x11 x12 x13 x14 x19 x21 x27 (x31 + (1 : Int32)) x32 x33 x34) else some (.inl (Sum.inr ((0 : Int32), (H0 s r249.2))))) else some (.inl (Sum.inr ((0 : Int32), (H0 s r247.2))))) else (J0_888 s p0 x2 x4 x5 x6 x7 x8 x9 x10 x11 x12 x13 x14 x19 x21 x27 x31 x32 x33 x34))
theorem tJ0_847 (Ad : QAd n0 ad) (W : QW Z a0) (s : List Int32) (p0 : Ob) (x2 : Int64) (x4 : Int32) (x5 : Int32) (x6 : Int32) (x7 : Int32) (x8 : Int32) (x9 : Int32) (x10 : Int32) (x11 : Int32) (x12 : Int32) (x13 : Int32) (x14 : Int32) (x19 : Int32) (x21 : Int32) (x27 : Int32) (x31 : Int32) (x32 : Int32) (x33 : Int32) (x34 : Int32) {r : ((Int32 × Int32 × Ob) ⊕ (Int32 × QHeap)) ⊕ (Int32 × Int32 × Int32 × Ob)} {u : Option Value} {τ : QHeap} (h : J0_847 s p0 x2 x4 x5 x6 x7 x8 x9 x10 x11 x12 x13 x14 x19 x21 x27 x31 x32 x33 x34 = some r) (hx0 : ∀ x : Int32 × Int32 × Ob, r = .inl (Sum.inl x) → QTri l Z n0 ad 0 (908, [vR 0, vR 1, vL x2, none, vI x4, vI x5, vI x6, vI x7, vI x8, vI x9, vI x10, vI x11, vI x12, vI x13, vI x14, none, none, none, none, vI x19, none, vI x21, none, none, none, none, none, vI x27, none, none, none, vI x.1, vI x.2.1, none, none], [], (H0 s x.2.2)) u τ) (hx1 : ∀ x : Int32 × QHeap, r = .inl (Sum.inr x) → u = (some (Value.int x.1)) ∧ τ = x.2) (hc : ∀ x : Int32 × Int32 × Int32 × Ob, r = .inr x → QTri l Z n0 ad 0 (804, [vR 0, vR 1, vL x2, none, vI x4, vI x5, vI x6, vI x7, vI x8, vI x9, vI x10, vI x11, vI x12, vI x13, vI x14, none, none, none, none, vI x19, none, vI x21, none, none, none, none, none, vI x27, none, none, none, vI x.1, vI x.2.1, vI x.2.2.1, none], [], (H0 s x.2.2.2)) u τ) : QTri l Z n0 ad 0 (847, [vR 0, vR 1, vL x2, none, vI x4, vI x5, vI x6, vI x7, vI x8, vI x9, vI x10, vI x11, vI x12, vI x13, vI x14, none, none, none, none, vI x19, none, vI x21, none, none, none, none, none, vI x27, none, none, none, vI x31, vI x32, vI x33, vI x34], [], (H0 s p0)) u τ := by
 unfold J0_847 at h
 refine zS Ad W 2 (st' := (850, [vR 0, vR 1, vL x2, none, vI x4, vI x5, vI x6, vI x7, vI x8, vI x9, vI x10, vI x11, vI x12, vI x13, vI x14, none, none, none, none, vI x19, none, vI x21, none, none, none, none, none, vI x27, none, none, none, vI x31, vI x32, vI x33, vI x34], [.int (4:Int32), .int x34], (H0 s p0))) rfl ?_
 rcases qite h with ⟨hc246, h⟩ | ⟨hc246, h⟩
 ·refine zF Ad W (t := 888) (f := 853) rfl (XT.ii_ne_f hc246) ?_
  refine zS Ad W 3 (st' := (859, [vR 0, vR 1, vL x2, none, vI x4, vI x5, vI x6, vI x7, vI x8, vI x9, vI x10, vI x11, vI x12, vI x13, vI x14, none, none, none, none, vI x19, none, vI x21, none, none, none, none, none, vI x27, none, none, none, vI (x31 + (1:Int32)), vI x32, vI x33, vI x34], [.int x33, .ref 1], (H0 s p0))) rfl ?_
  obtain ⟨r247, hr247, h⟩ := bind_eq_some_iff.mp h
  refine QTri.callV W (a := 1) (as := [.int x33]) (rest := []) (w := (some (.int r247.1))) (σ₁ := (H0 s r247.2)) rfl rfl rfl rfl rfl rfl rfl rfl (tF16 Ad W s p0 x33 hr247) ?_
  refine zS Ad W 1 (st' := (864, [vR 0, vR 1, vL x2, none, vI x4, vI x5, vI x6, vI x7, vI x8, vI x9, vI x10, vI x11, vI x12, vI x13, vI x14, none, none, none, none, vI x19, none, vI x21, none, none, none, none, none, vI x27, none, none, none, vI (x31 + (1:Int32)), vI x32, vI x33, vI x34], [.int x27, .int r247.1], (H0 s r247.2))) rfl ?_
  rcases qite h with ⟨hc248, h⟩ | ⟨hc248, h⟩
  ·refine zF Ad W (t := 886) (f := 867) rfl (XT.ii_ne_f hc248) ?_
   refine zS Ad W 2 (st' := (870, [vR 0, vR 1, vL x2, none, vI x4, vI x5, vI x6, vI x7, vI x8, vI x9, vI x10, vI x11, vI x12, vI x13, vI x14, none, none, none, none, vI x19, none, vI x21, none, none, none, none, none, vI x27, none, none, none, vI (x31 + (1:Int32)), vI x32, vI x33, vI x34], [.int x33, .ref 1], (H0 s r247.2))) rfl ?_
   obtain ⟨r249, hr249, h⟩ := bind_eq_some_iff.mp h
   refine QTri.callV W (a := 1) (as := [.int x33]) (rest := []) (w := (some (.int r249.1))) (σ₁ := (H0 s r249.2)) rfl rfl rfl rfl rfl rfl rfl rfl (tF18 Ad W s r247.2 x33 hr249) ?_
   refine zS Ad W 1 (st' := (875, [vR 0, vR 1, vL x2, none, vI x4, vI x5, vI x6, vI x7, vI x8, vI x9, vI x10, vI x11, vI x12, vI x13, vI x14, none, none, none, none, vI x19, none, vI x21, none, none, none, none, none, vI x27, none, none, none, vI (x31 + (1:Int32)), vI x32, vI x33, vI x34], [.int x21, .int r249.1], (H0 s r249.2))) rfl ?_
   have K251 : ∀ z250 : Int32, z250 = (if (0:Int32) < x21 then (1:Int32) else (0:Int32)) → QTri l Z n0 ad 0 (883, [vR 0, vR 1, vL x2, none, vI x4, vI x5, vI x6, vI x7, vI x8, vI x9, vI x10, vI x11, vI x12, vI x13, vI x14, none, none, none, none, vI x19, none, vI x21, none, none, none, none, none, vI x27, none, none, none, vI (x31 + (1:Int32)), vI x32, vI x33, vI x34], [.int z250, .int r249.1], (H0 s r249.2)) u τ := by
    intro z250 ez250
    subst ez250
    rcases qite h with ⟨hc253, h⟩ | ⟨hc253, h⟩
    ·refine zT Ad W (t := 888) (f := 886) rfl (XT.ii_eq_t hc253) ?_
     exact zM [tt,tt,tt,ff,tt,tt,tt,tt,tt,tt,tt,tt,tt,tt,tt,ff,ff,ff,ff,tt,ff,tt,ff,ff,ff,ff,ff,tt,ff,ff,ff,tt,tt,tt,tt] (tJ0_888 Ad W s r249.2 x2 x4 x5 x6 x7 x8 x9 x10 x11 x12 x13 x14 x19 x21 x27 (x31 + (1:Int32)) x32 x33 x34 h hx0 hx1 hc)
    ·refine zF Ad W (t := 888) (f := 886) rfl (XT.ii_eq_f hc253) ?_
     refine zS Ad W 1 (st' := (887, [vR 0, vR 1, vL x2, none, vI x4, vI x5, vI x6, vI x7, vI x8, vI x9, vI x10, vI x11, vI x12, vI x13, vI x14, none, none, none, none, vI x19, none, vI x21, none, none, none, none, none, vI x27, none, none, none, vI (x31 + (1:Int32)), vI x32, vI x33, vI x34], [.int (0:Int32)], (H0 s r249.2))) rfl ?_
     obtain rfl := Option.some.inj h
     obtain ⟨rfl, rfl⟩ := hx1 ((0:Int32), (H0 s r249.2)) rfl
     exact QTri.retZ rfl rfl
   rcases em ((0:Int32) < x21) with hc252 | hc252
   ·refine zF Ad W (t := 882) (f := 878) rfl (XT.i0_le_f hc252) ?_
    refine zS Ad W 2 (st' := (883, [vR 0, vR 1, vL x2, none, vI x4, vI x5, vI x6, vI x7, vI x8, vI x9, vI x10, vI x11, vI x12, vI x13, vI x14, none, none, none, none, vI x19, none, vI x21, none, none, none, none, none, vI x27, none, none, none, vI (x31 + (1:Int32)), vI x32, vI x33, vI x34], [.int (1:Int32), .int r249.1], (H0 s r249.2))) rfl ?_
    exact zM [tt,tt,tt,ff,tt,tt,tt,tt,tt,tt,tt,tt,tt,tt,tt,ff,ff,ff,ff,tt,ff,tt,ff,ff,ff,ff,ff,tt,ff,ff,ff,tt,tt,tt,tt] (K251 _ (if_pos hc252).symm)
   ·refine zT Ad W (t := 882) (f := 878) rfl (XT.i0_le_t hc252) ?_
    refine zS Ad W 1 (st' := (883, [vR 0, vR 1, vL x2, none, vI x4, vI x5, vI x6, vI x7, vI x8, vI x9, vI x10, vI x11, vI x12, vI x13, vI x14, none, none, none, none, vI x19, none, vI x21, none, none, none, none, none, vI x27, none, none, none, vI (x31 + (1:Int32)), vI x32, vI x33, vI x34], [.int (0:Int32), .int r249.1], (H0 s r249.2))) rfl ?_
    exact zM [tt,tt,tt,ff,tt,tt,tt,tt,tt,tt,tt,tt,tt,tt,tt,ff,ff,ff,ff,tt,ff,tt,ff,ff,ff,ff,ff,tt,ff,ff,ff,tt,tt,tt,tt] (K251 _ (if_neg hc252).symm)
  ·refine zT Ad W (t := 886) (f := 867) rfl (XT.ii_ne_t hc248) ?_
   refine zS Ad W 1 (st' := (887, [vR 0, vR 1, vL x2, none, vI x4, vI x5, vI x6, vI x7, vI x8, vI x9, vI x10, vI x11, vI x12, vI x13, vI x14, none, none, none, none, vI x19, none, vI x21, none, none, none, none, none, vI x27, none, none, none, vI (x31 + (1:Int32)), vI x32, vI x33, vI x34], [.int (0:Int32)], (H0 s r247.2))) rfl ?_
   obtain rfl := Option.some.inj h
   obtain ⟨rfl, rfl⟩ := hx1 ((0:Int32), (H0 s r247.2)) rfl
   exact QTri.retZ rfl rfl
 ·refine zT Ad W (t := 888) (f := 853) rfl (XT.ii_ne_t hc246) ?_
  exact zM [tt,tt,tt,ff,tt,tt,tt,tt,tt,tt,tt,tt,tt,tt,tt,ff,ff,ff,ff,tt,ff,tt,ff,ff,ff,ff,ff,tt,ff,ff,ff,tt,tt,tt,tt] (tJ0_888 Ad W s p0 x2 x4 x5 x6 x7 x8 x9 x10 x11 x12 x13 x14 x19 x21 x27 x31 x32 x33 x34 h hx0 hx1 hc)
def B0_804 (s : List Int32) (x2 : Int64) (x4 : Int32) (x5 : Int32) (x6 : Int32) (x7 : Int32) (x8 : Int32) (x9 : Int32) (x10 : Int32) (x11 : Int32) (x12 : Int32) (x13 : Int32) (x14 : Int32) (x19 : Int32) (x21 : Int32) (x27 : Int32) (v : Int32 × Int32 × Int32 × Ob) : Option (((Int32 × Int32 × Ob) ⊕ (Int32 × QHeap)) ⊕ (Int32 × Int32 × Int32 × Ob)) :=
  (if v.2.2.1 < (4 : Int32) then (if ((x9 >>> ((v.2.2.1 * (3 : Int32)) &&& 31)) &&& (7 : Int32)) = (0 : Int32) then (F16 v.2.2.2 v.2.2.1).bind fun r238 => (if r238.1 = (0 : Int32) then (F18 r238.2 v.2.2.1).bind fun r244 => (if r244.1 = (0 : Int32) then (J0_847 s r244.2 x2 x4 x5 x6 x7 x8 x9 x10 x11 x12 x13 x14 x19 x21 x27 v.1 v.2.1 v.2.2.1 ((x9 >>> ((v.2.2.1 * (3 : Int32)) &&& 31)) &&& (7 : Int32))) else some (.inl (Sum.inr ((0 : Int32), (H0 s r244.2))))) else some (.inl (Sum.inr ((0 : Int32), (H0 s r238.2))))) else (J0_847 s v.2.2.2 x2 x4 x5 x6 x7 x8 x9 x10 x11 x12 x13 x14 x19 x21 x27 v.1 v.2.1 v.2.2.1 ((x9 >>> ((v.2.2.1 * (3 : Int32)) &&& 31)) &&& (7 : Int32)))) else some (.inl (Sum.inl (v.1, v.2.1, v.2.2.2))))
theorem tB0_804 (Ad : QAd n0 ad) (W : QW Z a0) (s : List Int32) (x2 : Int64) (x4 : Int32) (x5 : Int32) (x6 : Int32) (x7 : Int32) (x8 : Int32) (x9 : Int32) (x10 : Int32) (x11 : Int32) (x12 : Int32) (x13 : Int32) (x14 : Int32) (x19 : Int32) (x21 : Int32) (x27 : Int32) (v : Int32 × Int32 × Int32 × Ob) {r : ((Int32 × Int32 × Ob) ⊕ (Int32 × QHeap)) ⊕ (Int32 × Int32 × Int32 × Ob)} {u : Option Value} {τ : QHeap} (h : B0_804 s x2 x4 x5 x6 x7 x8 x9 x10 x11 x12 x13 x14 x19 x21 x27 v = some r) (hx0 : ∀ x : Int32 × Int32 × Ob, r = .inl (Sum.inl x) → QTri l Z n0 ad 0 (908, [vR 0, vR 1, vL x2, none, vI x4, vI x5, vI x6, vI x7, vI x8, vI x9, vI x10, vI x11, vI x12, vI x13, vI x14, none, none, none, none, vI x19, none, vI x21, none, none, none, none, none, vI x27, none, none, none, vI x.1, vI x.2.1, none, none], [], (H0 s x.2.2)) u τ) (hx1 : ∀ x : Int32 × QHeap, r = .inl (Sum.inr x) → u = (some (Value.int x.1)) ∧ τ = x.2) (hc : ∀ x : Int32 × Int32 × Int32 × Ob, r = .inr x → QTri l Z n0 ad 0 (804, [vR 0, vR 1, vL x2, none, vI x4, vI x5, vI x6, vI x7, vI x8, vI x9, vI x10, vI x11, vI x12, vI x13, vI x14, none, none, none, none, vI x19, none, vI x21, none, none, none, none, none, vI x27, none, none, none, vI x.1, vI x.2.1, vI x.2.2.1, none], [], (H0 s x.2.2.2)) u τ) : QTri l Z n0 ad 0 (804, [vR 0, vR 1, vL x2, none, vI x4, vI x5, vI x6, vI x7, vI x8, vI x9, vI x10, vI x11, vI x12, vI x13, vI x14, none, none, none, none, vI x19, none, vI x21, none, none, none, none, none, vI x27, none, none, none, vI v.1, vI v.2.1, vI v.2.2.1, none], [], (H0 s v.2.2.2)) u τ := by
 unfold B0_804 at h
 refine zS Ad W 2 (st' := (807, [vR 0, vR 1, vL x2, none, vI x4, vI x5, vI x6, vI x7, vI x8, vI x9, vI x10, vI x11, vI x12, vI x13, vI x14, none, none, none, none, vI x19, none, vI x21, none, none, none, none, none, vI x27, none, none, none, vI v.1, vI v.2.1, vI v.2.2.1, none], [.int (4:Int32), .int v.2.2.1], (H0 s v.2.2.2))) rfl ?_
 rcases qite h with ⟨hc231, h⟩ | ⟨hc231, h⟩
 ·refine zF Ad W (t := 908) (f := 810) rfl (XT.ii_ge_f hc231) ?_
  refine zS Ad W 9 (st' := (824, [vR 0, vR 1, vL x2, none, vI x4, vI x5, vI x6, vI x7, vI x8, vI x9, vI x10, vI x11, vI x12, vI x13, vI x14, none, none, none, none, vI x19, none, vI x21, none, none, none, none, none, vI x27, none, none, none, vI v.1, vI v.2.1, vI v.2.2.1, vI ((x9 >>> ((v.2.2.1 * (3:Int32)) &&& 31)) &&& (7:Int32))], [.int ((x9 >>> ((v.2.2.1 * (3:Int32)) &&& 31)) &&& (7:Int32))], (H0 s v.2.2.2))) rfl ?_
  rcases qite h with ⟨hc232, h⟩ | ⟨hc232, h⟩
  ·refine zF Ad W (t := 847) (f := 827) rfl (XT.i0_ne_f hc232) ?_
   refine zS Ad W 2 (st' := (830, [vR 0, vR 1, vL x2, none, vI x4, vI x5, vI x6, vI x7, vI x8, vI x9, vI x10, vI x11, vI x12, vI x13, vI x14, none, none, none, none, vI x19, none, vI x21, none, none, none, none, none, vI x27, none, none, none, vI v.1, vI v.2.1, vI v.2.2.1, vI ((x9 >>> ((v.2.2.1 * (3:Int32)) &&& 31)) &&& (7:Int32))], [.int v.2.2.1, .ref 1], (H0 s v.2.2.2))) rfl ?_
   obtain ⟨r238, hr238, h⟩ := bind_eq_some_iff.mp h
   refine QTri.callV W (a := 1) (as := [.int v.2.2.1]) (rest := []) (w := (some (.int r238.1))) (σ₁ := (H0 s r238.2)) rfl rfl rfl rfl rfl rfl rfl rfl (tF16 Ad W s v.2.2.2 v.2.2.1 hr238) ?_
   rcases qite h with ⟨hc239, h⟩ | ⟨hc239, h⟩
   ·refine zF Ad W (t := 845) (f := 836) rfl (XT.i0_ne_f hc239) ?_
    refine zS Ad W 2 (st' := (839, [vR 0, vR 1, vL x2, none, vI x4, vI x5, vI x6, vI x7, vI x8, vI x9, vI x10, vI x11, vI x12, vI x13, vI x14, none, none, none, none, vI x19, none, vI x21, none, none, none, none, none, vI x27, none, none, none, vI v.1, vI v.2.1, vI v.2.2.1, vI ((x9 >>> ((v.2.2.1 * (3:Int32)) &&& 31)) &&& (7:Int32))], [.int v.2.2.1, .ref 1], (H0 s r238.2))) rfl ?_
    obtain ⟨r244, hr244, h⟩ := bind_eq_some_iff.mp h
    refine QTri.callV W (a := 1) (as := [.int v.2.2.1]) (rest := []) (w := (some (.int r244.1))) (σ₁ := (H0 s r244.2)) rfl rfl rfl rfl rfl rfl rfl rfl (tF18 Ad W s r238.2 v.2.2.1 hr244) ?_
    rcases qite h with ⟨hc245, h⟩ | ⟨hc245, h⟩
    ·refine zT Ad W (t := 847) (f := 845) rfl (XT.i0_eq_t hc245) ?_
     exact zM [tt,tt,tt,ff,tt,tt,tt,tt,tt,tt,tt,tt,tt,tt,tt,ff,ff,ff,ff,tt,ff,tt,ff,ff,ff,ff,ff,tt,ff,ff,ff,tt,tt,tt,tt] (tJ0_847 Ad W s r244.2 x2 x4 x5 x6 x7 x8 x9 x10 x11 x12 x13 x14 x19 x21 x27 v.1 v.2.1 v.2.2.1 ((x9 >>> ((v.2.2.1 * (3:Int32)) &&& 31)) &&& (7:Int32)) h hx0 hx1 hc)
    ·refine zF Ad W (t := 847) (f := 845) rfl (XT.i0_eq_f hc245) ?_
     refine zS Ad W 1 (st' := (846, [vR 0, vR 1, vL x2, none, vI x4, vI x5, vI x6, vI x7, vI x8, vI x9, vI x10, vI x11, vI x12, vI x13, vI x14, none, none, none, none, vI x19, none, vI x21, none, none, none, none, none, vI x27, none, none, none, vI v.1, vI v.2.1, vI v.2.2.1, vI ((x9 >>> ((v.2.2.1 * (3:Int32)) &&& 31)) &&& (7:Int32))], [.int (0:Int32)], (H0 s r244.2))) rfl ?_
     obtain rfl := Option.some.inj h
     obtain ⟨rfl, rfl⟩ := hx1 ((0:Int32), (H0 s r244.2)) rfl
     exact QTri.retZ rfl rfl
   ·refine zT Ad W (t := 845) (f := 836) rfl (XT.i0_ne_t hc239) ?_
    refine zS Ad W 1 (st' := (846, [vR 0, vR 1, vL x2, none, vI x4, vI x5, vI x6, vI x7, vI x8, vI x9, vI x10, vI x11, vI x12, vI x13, vI x14, none, none, none, none, vI x19, none, vI x21, none, none, none, none, none, vI x27, none, none, none, vI v.1, vI v.2.1, vI v.2.2.1, vI ((x9 >>> ((v.2.2.1 * (3:Int32)) &&& 31)) &&& (7:Int32))], [.int (0:Int32)], (H0 s r238.2))) rfl ?_
    obtain rfl := Option.some.inj h
    obtain ⟨rfl, rfl⟩ := hx1 ((0:Int32), (H0 s r238.2)) rfl
    exact QTri.retZ rfl rfl
  ·refine zT Ad W (t := 847) (f := 827) rfl (XT.i0_ne_t hc232) ?_
   exact zM [tt,tt,tt,ff,tt,tt,tt,tt,tt,tt,tt,tt,tt,tt,tt,ff,ff,ff,ff,tt,ff,tt,ff,ff,ff,ff,ff,tt,ff,ff,ff,tt,tt,tt,tt] (tJ0_847 Ad W s v.2.2.2 x2 x4 x5 x6 x7 x8 x9 x10 x11 x12 x13 x14 x19 x21 x27 v.1 v.2.1 v.2.2.1 ((x9 >>> ((v.2.2.1 * (3:Int32)) &&& 31)) &&& (7:Int32)) h hx0 hx1 hc)
 ·refine zT Ad W (t := 908) (f := 810) rfl (XT.ii_ge_t hc231) ?_
  obtain rfl := Option.some.inj h
  exact zM [tt,tt,tt,ff,tt,tt,tt,tt,tt,tt,tt,tt,tt,tt,tt,ff,ff,ff,ff,tt,ff,tt,ff,ff,ff,ff,ff,tt,ff,ff,ff,tt,tt,ff,ff] (hx0 (v.1, v.2.1, v.2.2.2) rfl)
/-- lastChanged()I -/
def F19 (o : Ob) : Option (Int32) :=
 some (f_last o)
theorem tF19 (Ad : QAd n0 ad) (W : QW Z a0) (s : List Int32) (o : Ob) {r : Int32} (h : F19 o = some r) : QTri l Z n0 ad 19 (0, qentry [.ref 1] (pMaxL 19), [], (H0 s o)) (some (Value.int r)) (H0 s o) := by
 unfold F19 at h
 refine zS Ad W 2 (st' := (4, [vR 1], [.int (f_last o)], (H0 s o))) rfl ?_
 obtain rfl := Option.some.inj h
 exact QTri.retI rfl rfl
def J0_988 (s : List Int32) (p0 : Ob) (x2 : Int64) (x4 : Int32) (x5 : Int32) (x6 : Int32) (x7 : Int32) (x8 : Int32) (x9 : Int32) (x10 : Int32) (x13 : Int32) (x21 : Int32) (x27 : Int32) : Option (((Int32 × QHeap)) ⊕ (Int64 × Int32 × Int32 × Int32 × Int32 × Int32 × Int32 × Int32 × Int32 × Int32 × Int32 × Ob)) :=
  some (.inr (x2, x4, x5, x6, x7, x8, x9, x10, x27, (if (0 : Int32) < x21 then (1 : Int32) else (0 : Int32)), (x13 + (4 : Int32)), p0))
theorem tJ0_988 (Ad : QAd n0 ad) (W : QW Z a0) (s : List Int32) (p0 : Ob) (x2 : Int64) (x4 : Int32) (x5 : Int32) (x6 : Int32) (x7 : Int32) (x8 : Int32) (x9 : Int32) (x10 : Int32) (x13 : Int32) (x21 : Int32) (x27 : Int32) {r : ((Int32 × QHeap)) ⊕ (Int64 × Int32 × Int32 × Int32 × Int32 × Int32 × Int32 × Int32 × Int32 × Int32 × Int32 × Ob)} {u : Option Value} {τ : QHeap} (h : J0_988 s p0 x2 x4 x5 x6 x7 x8 x9 x10 x13 x21 x27 = some r) (hx0 : ∀ x : Int32 × QHeap, r = .inl x → u = (some (Value.int x.1)) ∧ τ = x.2) (hc : ∀ x : Int64 × Int32 × Int32 × Int32 × Int32 × Int32 × Int32 × Int32 × Int32 × Int32 × Int32 × Ob, r = .inr x → QTri l Z n0 ad 0 (42, [vR 0, vR 1, vL x.1, none, vI x.2.1, vI x.2.2.1, vI x.2.2.2.1, vI x.2.2.2.2.1, vI x.2.2.2.2.2.1, vI x.2.2.2.2.2.2.1, vI x.2.2.2.2.2.2.2.1, vI x.2.2.2.2.2.2.2.2.1, vI x.2.2.2.2.2.2.2.2.2.1, vI x.2.2.2.2.2.2.2.2.2.2.1, none, none, none, none, none, none, none, none, none, none, none, none, none, none, none, none, none, none, none, none, none], [], (H0 s x.2.2.2.2.2.2.2.2.2.2.2)) u τ) : QTri l Z n0 ad 0 (988, [vR 0, vR 1, vL x2, none, vI x4, vI x5, vI x6, vI x7, vI x8, vI x9, vI x10, none, none, vI x13, none, none, none, none, none, none, none, vI x21, none, none, none, none, none, vI x27, none, none, none, none, none, none, none], [], (H0 s p0)) u τ := by
 unfold J0_988 at h
 refine zS Ad W 3 (st' := (994, [vR 0, vR 1, vL x2, none, vI x4, vI x5, vI x6, vI x7, vI x8, vI x9, vI x10, vI x27, none, vI x13, none, none, none, none, none, none, none, vI x21, none, none, none, none, none, vI x27, none, none, none, none, none, none, none], [.int x21], (H0 s p0))) rfl ?_
 have K264 : ∀ z263 : Int32, z263 = (if (0:Int32) < x21 then (1:Int32) else (0:Int32)) → QTri l Z n0 ad 0 (1002, [vR 0, vR 1, vL x2, none, vI x4, vI x5, vI x6, vI x7, vI x8, vI x9, vI x10, vI x27, none, vI x13, none, none, none, none, none, none, none, none, none, none, none, none, none, none, none, none, none, none, none, none, none], [.int z263], (H0 s p0)) u τ := by
  intro z263 ez263
  subst ez263
  refine zS Ad W 2 (st' := (1007, [vR 0, vR 1, vL x2, none, vI x4, vI x5, vI x6, vI x7, vI x8, vI x9, vI x10, vI x27, vI (if (0:Int32) < x21 then (1:Int32) else (0:Int32)), vI (x13 + (4:Int32)), none, none, none, none, none, none, none, none, none, none, none, none, none, none, none, none, none, none, none, none, none], [], (H0 s p0))) rfl ?_
  refine zS Ad W 1 (st' := (42, [vR 0, vR 1, vL x2, none, vI x4, vI x5, vI x6, vI x7, vI x8, vI x9, vI x10, vI x27, vI (if (0:Int32) < x21 then (1:Int32) else (0:Int32)), vI (x13 + (4:Int32)), none, none, none, none, none, none, none, none, none, none, none, none, none, none, none, none, none, none, none, none, none], [], (H0 s p0))) rfl ?_
  obtain rfl := Option.some.inj h
  exact zM [tt,tt,tt,ff,tt,tt,tt,tt,tt,tt,tt,tt,tt,tt,ff,ff,ff,ff,ff,ff,ff,ff,ff,ff,ff,ff,ff,ff,ff,ff,ff,ff,ff,ff,ff] (hc (x2, x4, x5, x6, x7, x8, x9, x10, x27, (if (0:Int32) < x21 then (1:Int32) else (0:Int32)), (x13 + (4:Int32)), p0) rfl)
 rcases em ((0:Int32) < x21) with hc265 | hc265
 ·refine zF Ad W (t := 1001) (f := 997) rfl (XT.i0_le_f hc265) ?_
  refine zS Ad W 2 (st' := (1002, [vR 0, vR 1, vL x2, none, vI x4, vI x5, vI x6, vI x7, vI x8, vI x9, vI x10, vI x27, none, vI x13, none, none, none, none, none, none, none, vI x21, none, none, none, none, none, vI x27, none, none, none, none, none, none, none], [.int (1:Int32)], (H0 s p0))) rfl ?_
  exact zM [tt,tt,tt,ff,tt,tt,tt,tt,tt,tt,tt,tt,ff,tt,ff,ff,ff,ff,ff,ff,ff,ff,ff,ff,ff,ff,ff,ff,ff,ff,ff,ff,ff,ff,ff] (K264 _ (if_pos hc265).symm)
 ·refine zT Ad W (t := 1001) (f := 997) rfl (XT.i0_le_t hc265) ?_
  refine zS Ad W 1 (st' := (1002, [vR 0, vR 1, vL x2, none, vI x4, vI x5, vI x6, vI x7, vI x8, vI x9, vI x10, vI x27, none, vI x13, none, none, none, none, none, none, none, vI x21, none, none, none, none, none, vI x27, none, none, none, none, none, none, none], [.int (0:Int32)], (H0 s p0))) rfl ?_
  exact zM [tt,tt,tt,ff,tt,tt,tt,tt,tt,tt,tt,tt,ff,tt,ff,ff,ff,ff,ff,ff,ff,ff,ff,ff,ff,ff,ff,ff,ff,ff,ff,ff,ff,ff,ff] (K264 _ (if_neg hc265).symm)
def J0_977 (s : List Int32) (p0 : Ob) (x2 : Int64) (x4 : Int32) (x5 : Int32) (x6 : Int32) (x7 : Int32) (x8 : Int32) (x9 : Int32) (x10 : Int32) (x13 : Int32) (x21 : Int32) (x27 : Int32) : Option (((Int32 × QHeap)) ⊕ (Int64 × Int32 × Int32 × Int32 × Int32 × Int32 × Int32 × Int32 × Int32 × Int32 × Int32 × Ob)) :=
  (F19 p0).bind fun r261 => (if r261 = x10 then (J0_988 s p0 x2 x4 x5 x6 x7 x8 x9 x10 x13 x21 x27) else some (.inl ((0 : Int32), (H0 s p0))))
theorem tJ0_977 (Ad : QAd n0 ad) (W : QW Z a0) (s : List Int32) (p0 : Ob) (x2 : Int64) (x4 : Int32) (x5 : Int32) (x6 : Int32) (x7 : Int32) (x8 : Int32) (x9 : Int32) (x10 : Int32) (x13 : Int32) (x21 : Int32) (x27 : Int32) {r : ((Int32 × QHeap)) ⊕ (Int64 × Int32 × Int32 × Int32 × Int32 × Int32 × Int32 × Int32 × Int32 × Int32 × Int32 × Ob)} {u : Option Value} {τ : QHeap} (h : J0_977 s p0 x2 x4 x5 x6 x7 x8 x9 x10 x13 x21 x27 = some r) (hx0 : ∀ x : Int32 × QHeap, r = .inl x → u = (some (Value.int x.1)) ∧ τ = x.2) (hc : ∀ x : Int64 × Int32 × Int32 × Int32 × Int32 × Int32 × Int32 × Int32 × Int32 × Int32 × Int32 × Ob, r = .inr x → QTri l Z n0 ad 0 (42, [vR 0, vR 1, vL x.1, none, vI x.2.1, vI x.2.2.1, vI x.2.2.2.1, vI x.2.2.2.2.1, vI x.2.2.2.2.2.1, vI x.2.2.2.2.2.2.1, vI x.2.2.2.2.2.2.2.1, vI x.2.2.2.2.2.2.2.2.1, vI x.2.2.2.2.2.2.2.2.2.1, vI x.2.2.2.2.2.2.2.2.2.2.1, none, none, none, none, none, none, none, none, none, none, none, none, none, none, none, none, none, none, none, none, none], [], (H0 s x.2.2.2.2.2.2.2.2.2.2.2)) u τ) : QTri l Z n0 ad 0 (977, [vR 0, vR 1, vL x2, none, vI x4, vI x5, vI x6, vI x7, vI x8, vI x9, vI x10, none, none, vI x13, none, none, none, none, none, none, none, vI x21, none, none, none, none, none, vI x27, none, none, none, none, none, none, none], [], (H0 s p0)) u τ := by
 unfold J0_977 at h
 refine zS Ad W 1 (st' := (978, [vR 0, vR 1, vL x2, none, vI x4, vI x5, vI x6, vI x7, vI x8, vI x9, vI x10, none, none, vI x13, none, none, none, none, none, none, none, vI x21, none, none, none, none, none, vI x27, none, none, none, none, none, none, none], [.ref 1], (H0 s p0))) rfl ?_
 obtain ⟨r261, hr261, h⟩ := bind_eq_some_iff.mp h
 refine QTri.callV W (a := 1) (as := []) (rest := []) (w := (some (.int r261))) (σ₁ := (H0 s p0)) rfl rfl rfl rfl rfl rfl rfl rfl (tF19 Ad W s p0 hr261) ?_
 refine zS Ad W 1 (st' := (983, [vR 0, vR 1, vL x2, none, vI x4, vI x5, vI x6, vI x7, vI x8, vI x9, vI x10, none, none, vI x13, none, none, none, none, none, none, none, vI x21, none, none, none, none, none, vI x27, none, none, none, none, none, none, none], [.int x10, .int r261], (H0 s p0))) rfl ?_
 rcases qite h with ⟨hc262, h⟩ | ⟨hc262, h⟩
 ·refine zT Ad W (t := 988) (f := 986) rfl (XT.ii_eq_t hc262) ?_
  exact zM [tt,tt,tt,ff,tt,tt,tt,tt,tt,tt,tt,ff,ff,tt,ff,ff,ff,ff,ff,ff,ff,tt,ff,ff,ff,ff,ff,tt,ff,ff,ff,ff,ff,ff,ff] (tJ0_988 Ad W s p0 x2 x4 x5 x6 x7 x8 x9 x10 x13 x21 x27 h hx0 hc)
 ·refine zF Ad W (t := 988) (f := 986) rfl (XT.ii_eq_f hc262) ?_
  refine zS Ad W 1 (st' := (987, [vR 0, vR 1, vL x2, none, vI x4, vI x5, vI x6, vI x7, vI x8, vI x9, vI x10, none, none, vI x13, none, none, none, none, none, none, none, vI x21, none, none, none, none, none, vI x27, none, none, none, none, none, none, none], [.int (0:Int32)], (H0 s p0))) rfl ?_
  obtain rfl := Option.some.inj h
  obtain ⟨rfl, rfl⟩ := hx0 ((0:Int32), (H0 s p0)) rfl
  exact QTri.retZ rfl rfl
def J0_795 (s : List Int32) (p0 : Ob) (x2 : Int64) (x4 : Int32) (x5 : Int32) (x6 : Int32) (x7 : Int32) (x8 : Int32) (x9 : Int32) (x10 : Int32) (x11 : Int32) (x12 : Int32) (x13 : Int32) (x14 : Int32) (x19 : Int32) (x21 : Int32) (x27 : Int32) : Option (((Int32 × QHeap)) ⊕ (Int64 × Int32 × Int32 × Int32 × Int32 × Int32 × Int32 × Int32 × Int32 × Int32 × Int32 × Ob)) :=
  ((loopN (B0_804 s x2 x4 x5 x6 x7 x8 x9 x10 x11 x12 x13 x14 x19 x21 x27) qN ((0 : Int32), (0 : Int32), (0 : Int32), p0)).bind fun e258 => match e258 with | .inl e258a => (if x19 = (0 : Int32) then (J0_977 s e258a.2.2 x2 x4 x5 x6 x7 x8 x9 x10 x13 x21 x27) else (if x14 < (3 : Int32) then (F19 e258a.2.2).bind fun r273 => (if r273 < (if x27 = x11 then (if (0 : Int32) < x21 then (if (1 : Int32) = x12 then (0 : Int32) else e258a.1) else (if (0 : Int32) = x12 then (0 : Int32) else e258a.1)) else e258a.1) then some (.inl ((0 : Int32), (H0 s e258a.2.2))) else (if ((if x27 = x11 then (if (0 : Int32) < x21 then (if (1 : Int32) = x12 then (0 : Int32) else e258a.1) else (if (0 : Int32) = x12 then (0 : Int32) else e258a.1)) else e258a.1) + e258a.2.1) < r273 then some (.inl ((0 : Int32), (H0 s e258a.2.2))) else (J0_988 s e258a.2.2 x2 x4 x5 x6 x7 x8 x9 r273 x13 x21 x27))) else (J0_977 s e258a.2.2 x2 x4 x5 x6 x7 x8 x9 x10 x13 x21 x27))) | .inr e258a => some (.inl e258a))
theorem tJ0_795 (Ad : QAd n0 ad) (W : QW Z a0) (s : List Int32) (p0 : Ob) (x2 : Int64) (x4 : Int32) (x5 : Int32) (x6 : Int32) (x7 : Int32) (x8 : Int32) (x9 : Int32) (x10 : Int32) (x11 : Int32) (x12 : Int32) (x13 : Int32) (x14 : Int32) (x19 : Int32) (x21 : Int32) (x27 : Int32) {r : ((Int32 × QHeap)) ⊕ (Int64 × Int32 × Int32 × Int32 × Int32 × Int32 × Int32 × Int32 × Int32 × Int32 × Int32 × Ob)} {u : Option Value} {τ : QHeap} (h : J0_795 s p0 x2 x4 x5 x6 x7 x8 x9 x10 x11 x12 x13 x14 x19 x21 x27 = some r) (hx0 : ∀ x : Int32 × QHeap, r = .inl x → u = (some (Value.int x.1)) ∧ τ = x.2) (hc : ∀ x : Int64 × Int32 × Int32 × Int32 × Int32 × Int32 × Int32 × Int32 × Int32 × Int32 × Int32 × Ob, r = .inr x → QTri l Z n0 ad 0 (42, [vR 0, vR 1, vL x.1, none, vI x.2.1, vI x.2.2.1, vI x.2.2.2.1, vI x.2.2.2.2.1, vI x.2.2.2.2.2.1, vI x.2.2.2.2.2.2.1, vI x.2.2.2.2.2.2.2.1, vI x.2.2.2.2.2.2.2.2.1, vI x.2.2.2.2.2.2.2.2.2.1, vI x.2.2.2.2.2.2.2.2.2.2.1, none, none, none, none, none, none, none, none, none, none, none, none, none, none, none, none, none, none, none, none, none], [], (H0 s x.2.2.2.2.2.2.2.2.2.2.2)) u τ) : QTri l Z n0 ad 0 (795, [vR 0, vR 1, vL x2, none, vI x4, vI x5, vI x6, vI x7, vI x8, vI x9, vI x10, vI x11, vI x12, vI x13, vI x14, none, none, none, none, vI x19, none, vI x21, none, none, none, none, none, vI x27, none, none, none, none, none, none, none], [], (H0 s p0)) u τ := by
 unfold J0_795 at h
 refine zS Ad W 4 (st' := (801, [vR 0, vR 1, vL x2, none, vI x4, vI x5, vI x6, vI x7, vI x8, vI x9, vI x10, vI x11, vI x12, vI x13, vI x14, none, none, none, none, vI x19, none, vI x21, none, none, none, none, none, vI x27, none, none, none, vI (0:Int32), vI (0:Int32), none, none], [], (H0 s p0))) rfl ?_
 refine zS Ad W 2 (st' := (804, [vR 0, vR 1, vL x2, none, vI x4, vI x5, vI x6, vI x7, vI x8, vI x9, vI x10, vI x11, vI x12, vI x13, vI x14, none, none, none, none, vI x19, none, vI x21, none, none, none, none, none, vI x27, none, none, none, vI (0:Int32), vI (0:Int32), vI (0:Int32), none], [], (H0 s p0))) rfl ?_
 obtain ⟨e258, he258, h⟩ := bind_eq_some_iff.mp h
 refine zM [tt,tt,tt,ff,tt,tt,tt,tt,tt,tt,tt,tt,tt,tt,tt,ff,ff,ff,ff,tt,ff,tt,ff,ff,ff,ff,ff,tt,ff,ff,ff,tt,tt,tt,ff] (loopN_tri (B := B0_804 s x2 x4 x5 x6 x7 x8 x9 x10 x11 x12 x13 x14 x19 x21 x27) (T := fun lv259 => QTri l Z n0 ad 0 (804, [vR 0, vR 1, vL x2, none, vI x4, vI x5, vI x6, vI x7, vI x8, vI x9, vI x10, vI x11, vI x12, vI x13, vI x14, none, none, none, none, vI x19, none, vI x21, none, none, none, none, none, vI x27, none, none, none, vI lv259.1, vI lv259.2.1, vI lv259.2.2.1, none], [], (H0 s lv259.2.2.2)) u τ) (KE := fun e => match e with | .inl e258a => QTri l Z n0 ad 0 (908, [vR 0, vR 1, vL x2, none, vI x4, vI x5, vI x6, vI x7, vI x8, vI x9, vI x10, vI x11, vI x12, vI x13, vI x14, none, none, none, none, vI x19, none, vI x21, none, none, none, none, none, vI x27, none, none, none, vI e258a.1, vI e258a.2.1, none, none], [], (H0 s e258a.2.2)) u τ | .inr e258a => u = (some (Value.int e258a.1)) ∧ τ = e258a.2) (fun lv259 r hB hE hC => tB0_804 Ad W s x2 x4 x5 x6 x7 x8 x9 x10 x11 x12 x13 x14 x19 x21 x27 lv259 hB (fun x q => hE _ q) (fun x q => hE _ q) (fun x q => hC x q)) qN ((0:Int32), (0:Int32), (0:Int32), p0) e258 he258 ?_)
 rcases e258 with e258a | e258a
 ·refine zS Ad W 1 (st' := (910, [vR 0, vR 1, vL x2, none, vI x4, vI x5, vI x6, vI x7, vI x8, vI x9, vI x10, vI x11, vI x12, vI x13, vI x14, none, none, none, none, vI x19, none, vI x21, none, none, none, none, none, vI x27, none, none, none, vI e258a.1, vI e258a.2.1, none, none], [.int x19], (H0 s e258a.2.2))) rfl ?_
  rcases qite h with ⟨hc260, h⟩ | ⟨hc260, h⟩
  ·refine zT Ad W (t := 977) (f := 913) rfl (XT.i0_eq_t hc260) ?_
   exact zM [tt,tt,tt,ff,tt,tt,tt,tt,tt,tt,tt,ff,ff,tt,ff,ff,ff,ff,ff,ff,ff,tt,ff,ff,ff,ff,ff,tt,ff,ff,ff,ff,ff,ff,ff] (tJ0_977 Ad W s e258a.2.2 x2 x4 x5 x6 x7 x8 x9 x10 x13 x21 x27 h hx0 hc)
  ·refine zF Ad W (t := 977) (f := 913) rfl (XT.i0_eq_f hc260) ?_
   refine zS Ad W 2 (st' := (916, [vR 0, vR 1, vL x2, none, vI x4, vI x5, vI x6, vI x7, vI x8, vI x9, vI x10, vI x11, vI x12, vI x13, vI x14, none, none, none, none, vI x19, none, vI x21, none, none, none, none, none, vI x27, none, none, none, vI e258a.1, vI e258a.2.1, none, none], [.int (3:Int32), .int x14], (H0 s e258a.2.2))) rfl ?_
   rcases qite h with ⟨hc266, h⟩ | ⟨hc266, h⟩
   ·refine zF Ad W (t := 977) (f := 919) rfl (XT.ii_ge_f hc266) ?_
    refine zS Ad W 2 (st' := (923, [vR 0, vR 1, vL x2, none, vI x4, vI x5, vI x6, vI x7, vI x8, vI x9, vI x10, vI x11, vI x12, vI x13, vI x14, none, none, none, none, vI x19, none, vI x21, none, none, none, none, none, vI x27, none, none, none, vI e258a.1, vI e258a.2.1, none, none], [.int x11, .int x27], (H0 s e258a.2.2))) rfl ?_
    have K268 : ∀ z267 : Int32, z267 = (if x27 = x11 then (if (0:Int32) < x21 then (if (1:Int32) = x12 then (0:Int32) else e258a.1) else (if (0:Int32) = x12 then (0:Int32) else e258a.1)) else e258a.1) → QTri l Z n0 ad 0 (947, [vR 0, vR 1, vL x2, none, vI x4, vI x5, vI x6, vI x7, vI x8, vI x9, none, none, none, vI x13, none, none, none, none, none, none, none, vI x21, none, none, none, none, none, vI x27, none, none, none, none, vI e258a.2.1, none, none], [.int z267], (H0 s e258a.2.2)) u τ := by
     intro z267 ez267
     subst ez267
     refine zS Ad W 2 (st' := (950, [vR 0, vR 1, vL x2, none, vI x4, vI x5, vI x6, vI x7, vI x8, vI x9, none, none, none, vI x13, none, none, none, none, none, none, none, vI x21, none, none, none, none, none, vI x27, none, none, none, none, vI e258a.2.1, vI (if x27 = x11 then (if (0:Int32) < x21 then (if (1:Int32) = x12 then (0:Int32) else e258a.1) else (if (0:Int32) = x12 then (0:Int32) else e258a.1)) else e258a.1), none], [.ref 1], (H0 s e258a.2.2))) rfl ?_
     obtain ⟨r273, hr273, h⟩ := bind_eq_some_iff.mp h
     refine QTri.callV W (a := 1) (as := []) (rest := []) (w := (some (.int r273))) (σ₁ := (H0 s e258a.2.2)) rfl rfl rfl rfl rfl rfl rfl rfl (tF19 Ad W s e258a.2.2 hr273) ?_
     refine zS Ad W 3 (st' := (959, [vR 0, vR 1, vL x2, none, vI x4, vI x5, vI x6, vI x7, vI x8, vI x9, vI r273, none, none, vI x13, none, none, none, none, none, none, none, vI x21, none, none, none, none, none, vI x27, none, none, none, none, vI e258a.2.1, vI (if x27 = x11 then (if (0:Int32) < x21 then (if (1:Int32) = x12 then (0:Int32) else e258a.1) else (if (0:Int32) = x12 then (0:Int32) else e258a.1)) else e258a.1), none], [.int (if x27 = x11 then (if (0:Int32) < x21 then (if (1:Int32) = x12 then (0:Int32) else e258a.1) else (if (0:Int32) = x12 then (0:Int32) else e258a.1)) else e258a.1), .int r273], (H0 s e258a.2.2))) rfl ?_
     rcases qite h with ⟨hc274, h⟩ | ⟨hc274, h⟩
     ·refine zT Ad W (t := 972) (f := 962) rfl (XT.ii_lt_t hc274) ?_
      refine zS Ad W 1 (st' := (973, [vR 0, vR 1, vL x2, none, vI x4, vI x5, vI x6, vI x7, vI x8, vI x9, vI r273, none, none, vI x13, none, none, none, none, none, none, none, vI x21, none, none, none, none, none, vI x27, none, none, none, none, vI e258a.2.1, vI (if x27 = x11 then (if (0:Int32) < x21 then (if (1:Int32) = x12 then (0:Int32) else e258a.1) else (if (0:Int32) = x12 then (0:Int32) else e258a.1)) else e258a.1), none], [.int (0:Int32)], (H0 s e258a.2.2))) rfl ?_
      obtain rfl := Option.some.inj h
      obtain ⟨rfl, rfl⟩ := hx0 ((0:Int32), (H0 s e258a.2.2)) rfl
      exact QTri.retZ rfl rfl
     ·refine zF Ad W (t := 972) (f := 962) rfl (XT.ii_lt_f hc274) ?_
      refine zS Ad W 4 (st' := (969, [vR 0, vR 1, vL x2, none, vI x4, vI x5, vI x6, vI x7, vI x8, vI x9, vI r273, none, none, vI x13, none, none, none, none, none, none, none, vI x21, none, none, none, none, none, vI x27, none, none, none, none, vI e258a.2.1, vI (if x27 = x11 then (if (0:Int32) < x21 then (if (1:Int32) = x12 then (0:Int32) else e258a.1) else (if (0:Int32) = x12 then (0:Int32) else e258a.1)) else e258a.1), none], [.int ((if x27 = x11 then (if (0:Int32) < x21 then (if (1:Int32) = x12 then (0:Int32) else e258a.1) else (if (0:Int32) = x12 then (0:Int32) else e258a.1)) else e258a.1) + e258a.2.1), .int r273], (H0 s e258a.2.2))) rfl ?_
      rcases qite h with ⟨hc275, h⟩ | ⟨hc275, h⟩
      ·refine zF Ad W (t := 974) (f := 972) rfl (XT.ii_le_f hc275) ?_
       refine zS Ad W 1 (st' := (973, [vR 0, vR 1, vL x2, none, vI x4, vI x5, vI x6, vI x7, vI x8, vI x9, vI r273, none, none, vI x13, none, none, none, none, none, none, none, vI x21, none, none, none, none, none, vI x27, none, none, none, none, vI e258a.2.1, vI (if x27 = x11 then (if (0:Int32) < x21 then (if (1:Int32) = x12 then (0:Int32) else e258a.1) else (if (0:Int32) = x12 then (0:Int32) else e258a.1)) else e258a.1), none], [.int (0:Int32)], (H0 s e258a.2.2))) rfl ?_
       obtain rfl := Option.some.inj h
       obtain ⟨rfl, rfl⟩ := hx0 ((0:Int32), (H0 s e258a.2.2)) rfl
       exact QTri.retZ rfl rfl
      ·refine zT Ad W (t := 974) (f := 972) rfl (XT.ii_le_t hc275) ?_
       refine zS Ad W 1 (st' := (988, [vR 0, vR 1, vL x2, none, vI x4, vI x5, vI x6, vI x7, vI x8, vI x9, vI r273, none, none, vI x13, none, none, none, none, none, none, none, vI x21, none, none, none, none, none, vI x27, none, none, none, none, vI e258a.2.1, vI (if x27 = x11 then (if (0:Int32) < x21 then (if (1:Int32) = x12 then (0:Int32) else e258a.1) else (if (0:Int32) = x12 then (0:Int32) else e258a.1)) else e258a.1), none], [], (H0 s e258a.2.2))) rfl ?_
       exact zM [tt,tt,tt,ff,tt,tt,tt,tt,tt,tt,tt,ff,ff,tt,ff,ff,ff,ff,ff,ff,ff,tt,ff,ff,ff,ff,ff,tt,ff,ff,ff,ff,ff,ff,ff] (tJ0_988 Ad W s e258a.2.2 x2 x4 x5 x6 x7 x8 x9 r273 x13 x21 x27 h hx0 hc)
    rcases em (x27 = x11) with hc269 | hc269
    ·refine zF Ad W (t := 941) (f := 926) rfl (XT.ii_ne_f hc269) ?_
     refine zS Ad W 1 (st' := (928, [vR 0, vR 1, vL x2, none, vI x4, vI x5, vI x6, vI x7, vI x8, vI x9, vI x10, vI x11, vI x12, vI x13, vI x14, none, none, none, none, vI x19, none, vI x21, none, none, none, none, none, vI x27, none, none, none, vI e258a.1, vI e258a.2.1, none, none], [.int x21], (H0 s e258a.2.2))) rfl ?_
     rcases em ((0:Int32) < x21) with hc270 | hc270
     ·refine zF Ad W (t := 935) (f := 931) rfl (XT.i0_le_f hc270) ?_
      refine zS Ad W 3 (st' := (938, [vR 0, vR 1, vL x2, none, vI x4, vI x5, vI x6, vI x7, vI x8, vI x9, vI x10, vI x11, vI x12, vI x13, vI x14, none, none, none, none, vI x19, none, vI x21, none, none, none, none, none, vI x27, none, none, none, vI e258a.1, vI e258a.2.1, none, none], [.int x12, .int (1:Int32)], (H0 s e258a.2.2))) rfl ?_
      rcases em ((1:Int32) = x12) with hc271 | hc271
      ·refine zT Ad W (t := 946) (f := 941) rfl (XT.ii_eq_t hc271) ?_
       refine zS Ad W 1 (st' := (947, [vR 0, vR 1, vL x2, none, vI x4, vI x5, vI x6, vI x7, vI x8, vI x9, vI x10, vI x11, vI x12, vI x13, vI x14, none, none, none, none, vI x19, none, vI x21, none, none, none, none, none, vI x27, none, none, none, vI e258a.1, vI e258a.2.1, none, none], [.int (0:Int32)], (H0 s e258a.2.2))) rfl ?_
       exact zM [tt,tt,tt,ff,tt,tt,tt,tt,tt,tt,ff,ff,ff,tt,ff,ff,ff,ff,ff,ff,ff,tt,ff,ff,ff,ff,ff,tt,ff,ff,ff,ff,tt,ff,ff] (K268 _ ((if_pos hc269).trans ((if_pos hc270).trans (if_pos hc271))).symm)
      ·refine zF Ad W (t := 946) (f := 941) rfl (XT.ii_eq_f hc271) ?_
       refine zS Ad W 2 (st' := (947, [vR 0, vR 1, vL x2, none, vI x4, vI x5, vI x6, vI x7, vI x8, vI x9, vI x10, vI x11, vI x12, vI x13, vI x14, none, none, none, none, vI x19, none, vI x21, none, none, none, none, none, vI x27, none, none, none, vI e258a.1, vI e258a.2.1, none, none], [.int e258a.1], (H0 s e258a.2.2))) rfl ?_
       exact zM [tt,tt,tt,ff,tt,tt,tt,tt,tt,tt,ff,ff,ff,tt,ff,ff,ff,ff,ff,ff,ff,tt,ff,ff,ff,ff,ff,tt,ff,ff,ff,ff,tt,ff,ff] (K268 _ ((if_pos hc269).trans ((if_pos hc270).trans (if_neg hc271))).symm)
     ·refine zT Ad W (t := 935) (f := 931) rfl (XT.i0_le_t hc270) ?_
      refine zS Ad W 2 (st' := (938, [vR 0, vR 1, vL x2, none, vI x4, vI x5, vI x6, vI x7, vI x8, vI x9, vI x10, vI x11, vI x12, vI x13, vI x14, none, none, none, none, vI x19, none, vI x21, none, none, none, none, none, vI x27, none, none, none, vI e258a.1, vI e258a.2.1, none, none], [.int x12, .int (0:Int32)], (H0 s e258a.2.2))) rfl ?_
      rcases em ((0:Int32) = x12) with hc272 | hc272
      ·refine zT Ad W (t := 946) (f := 941) rfl (XT.ii_eq_t hc272) ?_
       refine zS Ad W 1 (st' := (947, [vR 0, vR 1, vL x2, none, vI x4, vI x5, vI x6, vI x7, vI x8, vI x9, vI x10, vI x11, vI x12, vI x13, vI x14, none, none, none, none, vI x19, none, vI x21, none, none, none, none, none, vI x27, none, none, none, vI e258a.1, vI e258a.2.1, none, none], [.int (0:Int32)], (H0 s e258a.2.2))) rfl ?_
       exact zM [tt,tt,tt,ff,tt,tt,tt,tt,tt,tt,ff,ff,ff,tt,ff,ff,ff,ff,ff,ff,ff,tt,ff,ff,ff,ff,ff,tt,ff,ff,ff,ff,tt,ff,ff] (K268 _ ((if_pos hc269).trans ((if_neg hc270).trans (if_pos hc272))).symm)
      ·refine zF Ad W (t := 946) (f := 941) rfl (XT.ii_eq_f hc272) ?_
       refine zS Ad W 2 (st' := (947, [vR 0, vR 1, vL x2, none, vI x4, vI x5, vI x6, vI x7, vI x8, vI x9, vI x10, vI x11, vI x12, vI x13, vI x14, none, none, none, none, vI x19, none, vI x21, none, none, none, none, none, vI x27, none, none, none, vI e258a.1, vI e258a.2.1, none, none], [.int e258a.1], (H0 s e258a.2.2))) rfl ?_
       exact zM [tt,tt,tt,ff,tt,tt,tt,tt,tt,tt,ff,ff,ff,tt,ff,ff,ff,ff,ff,ff,ff,tt,ff,ff,ff,ff,ff,tt,ff,ff,ff,ff,tt,ff,ff] (K268 _ ((if_pos hc269).trans ((if_neg hc270).trans (if_neg hc272))).symm)
    ·refine zT Ad W (t := 941) (f := 926) rfl (XT.ii_ne_t hc269) ?_
     refine zS Ad W 2 (st' := (947, [vR 0, vR 1, vL x2, none, vI x4, vI x5, vI x6, vI x7, vI x8, vI x9, vI x10, vI x11, vI x12, vI x13, vI x14, none, none, none, none, vI x19, none, vI x21, none, none, none, none, none, vI x27, none, none, none, vI e258a.1, vI e258a.2.1, none, none], [.int e258a.1], (H0 s e258a.2.2))) rfl ?_
     exact zM [tt,tt,tt,ff,tt,tt,tt,tt,tt,tt,ff,ff,ff,tt,ff,ff,ff,ff,ff,ff,ff,tt,ff,ff,ff,ff,ff,tt,ff,ff,ff,ff,tt,ff,ff] (K268 _ (if_neg hc269).symm)
   ·refine zT Ad W (t := 977) (f := 919) rfl (XT.ii_ge_t hc266) ?_
    exact zM [tt,tt,tt,ff,tt,tt,tt,tt,tt,tt,tt,ff,ff,tt,ff,ff,ff,ff,ff,ff,ff,tt,ff,ff,ff,ff,ff,tt,ff,ff,ff,ff,ff,ff,ff] (tJ0_977 Ad W s e258a.2.2 x2 x4 x5 x6 x7 x8 x9 x10 x13 x21 x27 h hx0 hc)
 ·obtain rfl := Option.some.inj h
  exact hx0 e258a rfl
def J0_435 (s : List Int32) (p0 : Ob) (x2 : Int64) (x4 : Int32) (x5 : Int32) (x6 : Int32) (x7 : Int32) (x8 : Int32) (x9 : Int32) (x10 : Int32) (x11 : Int32) (x12 : Int32) (x13 : Int32) (x14 : Int32) (x19 : Int32) (x20 : Int32) : Option (((Int32 × QHeap)) ⊕ (Int64 × Int32 × Int32 × Int32 × Int32 × Int32 × Int32 × Int32 × Int32 × Int32 × Int32 × Ob)) :=
  (if x19 = x20 then ((loopN (B0_466 s p0 x2 x4 x5 x6 x7 x8 x9 x10 x11 x12 x13 x14 x19) qN ((0 : Int32), (0 : Int32), (16 : Int32), (-1 : Int32), (0 : Int32), (0 : Int32), (0 : Int32))).bind fun e139 => match e139 with | .inl e139a => (F8 p0 (-1 : Int32) (-1 : Int32)).bind fun r200 => (if r200.1 = (if e139a.1 = (0 : Int32) then (0 : Int32) else (if x8 = (0 : Int32) then e139a.2.1 else (if x8 = (1 : Int32) then e139a.1 else (if x8 = (2 : Int32) then e139a.2.2.1 else e139a.2.2.2.1)))) then (F13 r200.2 (-1 : Int32) (-1 : Int32)).bind fun r205 => (if r205.1 = e139a.1 then (loopN (B0_708 s r205.2 x2 x4 x5 x6 x7 x8 x9 x10 x11 x12 x13 x14 x19 e139a.1 e139a.2.2.2.2.1 e139a.2.2.2.2.2 (if e139a.1 = (0 : Int32) then (0 : Int32) else (if x8 = (0 : Int32) then e139a.2.1 else (if x8 = (1 : Int32) then e139a.1 else (if x8 = (2 : Int32) then e139a.2.2.1 else e139a.2.2.2.1))))) qN ((0 : Int32), (0 : Int32), (-1 : Int32), (0 : Int32))).bind fun e216 => (F14 r205.2).bind fun r219 => (if r219.1 = e216.1 then (F15 r219.2).bind fun r222 => (if r222.1 = e216.2.1 then (if (0 : Int32) < e216.1 then (F25 r222.2 (0 : Int32)).bind fun r229 => (if r229.1 = e216.2.2 then (J0_795 s r229.2 x2 x4 x5 x6 x7 x8 x9 x10 x11 x12 x13 x14 x19 e139a.1 (if e139a.1 = (0 : Int32) then (0 : Int32) else (if x8 = (0 : Int32) then e139a.2.1 else (if x8 = (1 : Int32) then e139a.1 else (if x8 = (2 : Int32) then e139a.2.2.1 else e139a.2.2.2.1))))) else some (.inl ((0 : Int32), (H0 s r229.2)))) else (J0_795 s r222.2 x2 x4 x5 x6 x7 x8 x9 x10 x11 x12 x13 x14 x19 e139a.1 (if e139a.1 = (0 : Int32) then (0 : Int32) else (if x8 = (0 : Int32) then e139a.2.1 else (if x8 = (1 : Int32) then e139a.1 else (if x8 = (2 : Int32) then e139a.2.2.1 else e139a.2.2.2.1)))))) else some (.inl ((0 : Int32), (H0 s r222.2)))) else some (.inl ((0 : Int32), (H0 s r219.2)))) else some (.inl ((0 : Int32), (H0 s r205.2)))) else some (.inl ((0 : Int32), (H0 s r200.2)))) | .inr e139a => some (.inl e139a)) else some (.inl ((0 : Int32), (H0 s p0))))
theorem tJ0_435 (Ad : QAd n0 ad) (W : QW Z a0) (s : List Int32) (p0 : Ob) (x2 : Int64) (x4 : Int32) (x5 : Int32) (x6 : Int32) (x7 : Int32) (x8 : Int32) (x9 : Int32) (x10 : Int32) (x11 : Int32) (x12 : Int32) (x13 : Int32) (x14 : Int32) (x19 : Int32) (x20 : Int32) {r : ((Int32 × QHeap)) ⊕ (Int64 × Int32 × Int32 × Int32 × Int32 × Int32 × Int32 × Int32 × Int32 × Int32 × Int32 × Ob)} {u : Option Value} {τ : QHeap} (h : J0_435 s p0 x2 x4 x5 x6 x7 x8 x9 x10 x11 x12 x13 x14 x19 x20 = some r) (hx0 : ∀ x : Int32 × QHeap, r = .inl x → u = (some (Value.int x.1)) ∧ τ = x.2) (hc : ∀ x : Int64 × Int32 × Int32 × Int32 × Int32 × Int32 × Int32 × Int32 × Int32 × Int32 × Int32 × Ob, r = .inr x → QTri l Z n0 ad 0 (42, [vR 0, vR 1, vL x.1, none, vI x.2.1, vI x.2.2.1, vI x.2.2.2.1, vI x.2.2.2.2.1, vI x.2.2.2.2.2.1, vI x.2.2.2.2.2.2.1, vI x.2.2.2.2.2.2.2.1, vI x.2.2.2.2.2.2.2.2.1, vI x.2.2.2.2.2.2.2.2.2.1, vI x.2.2.2.2.2.2.2.2.2.2.1, none, none, none, none, none, none, none, none, none, none, none, none, none, none, none, none, none, none, none, none, none], [], (H0 s x.2.2.2.2.2.2.2.2.2.2.2)) u τ) : QTri l Z n0 ad 0 (435, [vR 0, vR 1, vL x2, none, vI x4, vI x5, vI x6, vI x7, vI x8, vI x9, vI x10, vI x11, vI x12, vI x13, vI x14, none, none, none, none, vI x19, vI x20, none, none, none, none, none, none, none, none, none, none, none, none, none, none], [], (H0 s p0)) u τ := by
 unfold J0_435 at h
 refine zS Ad W 2 (st' := (439, [vR 0, vR 1, vL x2, none, vI x4, vI x5, vI x6, vI x7, vI x8, vI x9, vI x10, vI x11, vI x12, vI x13, vI x14, none, none, none, none, vI x19, vI x20, none, none, none, none, none, none, none, none, none, none, none, none, none, none], [.int x20, .int x19], (H0 s p0))) rfl ?_
 rcases qite h with ⟨hc110, h⟩ | ⟨hc110, h⟩
 ·refine zT Ad W (t := 444) (f := 442) rfl (XT.ii_eq_t hc110) ?_
  refine zS Ad W 4 (st' := (450, [vR 0, vR 1, vL x2, none, vI x4, vI x5, vI x6, vI x7, vI x8, vI x9, vI x10, vI x11, vI x12, vI x13, vI x14, none, none, none, none, vI x19, vI x20, vI (0:Int32), vI (0:Int32), none, none, none, none, none, none, none, none, none, none, none, none], [], (H0 s p0))) rfl ?_
  refine zS Ad W 4 (st' := (457, [vR 0, vR 1, vL x2, none, vI x4, vI x5, vI x6, vI x7, vI x8, vI x9, vI x10, vI x11, vI x12, vI x13, vI x14, none, none, none, none, vI x19, vI x20, vI (0:Int32), vI (0:Int32), vI (16:Int32), vI (-1:Int32), none, none, none, none, none, none, none, none, none, none], [], (H0 s p0))) rfl ?_
  refine zS Ad W 4 (st' := (463, [vR 0, vR 1, vL x2, none, vI x4, vI x5, vI x6, vI x7, vI x8, vI x9, vI x10, vI x11, vI x12, vI x13, vI x14, none, none, none, none, vI x19, vI x20, vI (0:Int32), vI (0:Int32), vI (16:Int32), vI (-1:Int32), vI (0:Int32), vI (0:Int32), none, none, none, none, none, none, none, none], [], (H0 s p0))) rfl ?_
  refine zS Ad W 2 (st' := (466, [vR 0, vR 1, vL x2, none, vI x4, vI x5, vI x6, vI x7, vI x8, vI x9, vI x10, vI x11, vI x12, vI x13, vI x14, none, none, none, none, vI x19, vI x20, vI (0:Int32), vI (0:Int32), vI (16:Int32), vI (-1:Int32), vI (0:Int32), vI (0:Int32), vI (0:Int32), none, none, none, none, none, none, none], [], (H0 s p0))) rfl ?_
  obtain ⟨e139, he139, h⟩ := bind_eq_some_iff.mp h
  refine zM [tt,tt,tt,ff,tt,tt,tt,tt,tt,tt,tt,tt,tt,tt,tt,ff,ff,ff,ff,tt,ff,tt,tt,tt,tt,tt,tt,tt,ff,ff,ff,ff,ff,ff,ff] (loopN_tri (B := B0_466 s p0 x2 x4 x5 x6 x7 x8 x9 x10 x11 x12 x13 x14 x19) (T := fun lv140 => QTri l Z n0 ad 0 (466, [vR 0, vR 1, vL x2, none, vI x4, vI x5, vI x6, vI x7, vI x8, vI x9, vI x10, vI x11, vI x12, vI x13, vI x14, none, none, none, none, vI x19, none, vI lv140.1, vI lv140.2.1, vI lv140.2.2.1, vI lv140.2.2.2.1, vI lv140.2.2.2.2.1, vI lv140.2.2.2.2.2.1, vI lv140.2.2.2.2.2.2, none, none, none, none, none, none, none], [], (H0 s p0)) u τ) (KE := fun e => match e with | .inl e139a => QTri l Z n0 ad 0 (625, [vR 0, vR 1, vL x2, none, vI x4, vI x5, vI x6, vI x7, vI x8, vI x9, vI x10, vI x11, vI x12, vI x13, vI x14, none, none, none, none, vI x19, none, vI e139a.1, vI e139a.2.1, vI e139a.2.2.1, vI e139a.2.2.2.1, vI e139a.2.2.2.2.1, vI e139a.2.2.2.2.2, none, none, none, none, none, none, none, none], [], (H0 s p0)) u τ | .inr e139a => u = (some (Value.int e139a.1)) ∧ τ = e139a.2) (fun lv140 r hB hE hC => tB0_466 Ad W s p0 x2 x4 x5 x6 x7 x8 x9 x10 x11 x12 x13 x14 x19 lv140 hB (fun x q => hE _ q) (fun x q => hE _ q) (fun x q => hC x q)) qN ((0:Int32), (0:Int32), (16:Int32), (-1:Int32), (0:Int32), (0:Int32), (0:Int32)) e139 he139 ?_)
  rcases e139 with e139a | e139a
  ·refine zS Ad W 1 (st' := (627, [vR 0, vR 1, vL x2, none, vI x4, vI x5, vI x6, vI x7, vI x8, vI x9, vI x10, vI x11, vI x12, vI x13, vI x14, none, none, none, none, vI x19, none, vI e139a.1, vI e139a.2.1, vI e139a.2.2.1, vI e139a.2.2.2.1, vI e139a.2.2.2.2.1, vI e139a.2.2.2.2.2, none, none, none, none, none, none, none, none], [.int e139a.1], (H0 s p0))) rfl ?_
   have K142 : ∀ z141 : Int32, z141 = (if e139a.1 = (0:Int32) then (0:Int32) else (if x8 = (0:Int32) then e139a.2.1 else (if x8 = (1:Int32) then e139a.1 else (if x8 = (2:Int32) then e139a.2.2.1 else e139a.2.2.2.1)))) → QTri l Z n0 ad 0 (668, [vR 0, vR 1, vL x2, none, vI x4, vI x5, vI x6, vI x7, vI x8, vI x9, vI x10, vI x11, vI x12, vI x13, vI x14, none, none, none, none, vI x19, none, vI e139a.1, none, none, none, vI e139a.2.2.2.2.1, vI e139a.2.2.2.2.2, none, none, none, none, none, none, none, none], [.int z141], (H0 s p0)) u τ := by
    intro z141 ez141
    subst ez141
    refine zS Ad W 4 (st' := (673, [vR 0, vR 1, vL x2, none, vI x4, vI x5, vI x6, vI x7, vI x8, vI x9, vI x10, vI x11, vI x12, vI x13, vI x14, none, none, none, none, vI x19, none, vI e139a.1, none, none, none, vI e139a.2.2.2.2.1, vI e139a.2.2.2.2.2, vI (if e139a.1 = (0:Int32) then (0:Int32) else (if x8 = (0:Int32) then e139a.2.1 else (if x8 = (1:Int32) then e139a.1 else (if x8 = (2:Int32) then e139a.2.2.1 else e139a.2.2.2.1)))), none, none, none, none, none, none, none], [.int (-1:Int32), .int (-1:Int32), .ref 1], (H0 s p0))) rfl ?_
    obtain ⟨r200, hr200, h⟩ := bind_eq_some_iff.mp h
    refine QTri.callV W (a := 1) (as := [.int (-1:Int32), .int (-1:Int32)]) (rest := []) (w := (some (.int r200.1))) (σ₁ := (H0 s r200.2)) rfl rfl rfl rfl rfl rfl rfl rfl (tF8 Ad W s p0 (-1:Int32) (-1:Int32) hr200) ?_
    refine zS Ad W 1 (st' := (678, [vR 0, vR 1, vL x2, none, vI x4, vI x5, vI x6, vI x7, vI x8, vI x9, vI x10, vI x11, vI x12, vI x13, vI x14, none, none, none, none, vI x19, none, vI e139a.1, none, none, none, vI e139a.2.2.2.2.1, vI e139a.2.2.2.2.2, vI (if e139a.1 = (0:Int32) then (0:Int32) else (if x8 = (0:Int32) then e139a.2.1 else (if x8 = (1:Int32) then e139a.1 else (if x8 = (2:Int32) then e139a.2.2.1 else e139a.2.2.2.1)))), none, none, none, none, none, none, none], [.int (if e139a.1 = (0:Int32) then (0:Int32) else (if x8 = (0:Int32) then e139a.2.1 else (if x8 = (1:Int32) then e139a.1 else (if x8 = (2:Int32) then e139a.2.2.1 else e139a.2.2.2.1)))), .int r200.1], (H0 s r200.2))) rfl ?_
    rcases qite h with ⟨hc201, h⟩ | ⟨hc201, h⟩
    ·refine zT Ad W (t := 683) (f := 681) rfl (XT.ii_eq_t hc201) ?_
     refine zS Ad W 3 (st' := (686, [vR 0, vR 1, vL x2, none, vI x4, vI x5, vI x6, vI x7, vI x8, vI x9, vI x10, vI x11, vI x12, vI x13, vI x14, none, none, none, none, vI x19, none, vI e139a.1, none, none, none, vI e139a.2.2.2.2.1, vI e139a.2.2.2.2.2, vI (if e139a.1 = (0:Int32) then (0:Int32) else (if x8 = (0:Int32) then e139a.2.1 else (if x8 = (1:Int32) then e139a.1 else (if x8 = (2:Int32) then e139a.2.2.1 else e139a.2.2.2.1)))), none, none, none, none, none, none, none], [.int (-1:Int32), .int (-1:Int32), .ref 1], (H0 s r200.2))) rfl ?_
     obtain ⟨r205, hr205, h⟩ := bind_eq_some_iff.mp h
     refine QTri.callV W (a := 1) (as := [.int (-1:Int32), .int (-1:Int32)]) (rest := []) (w := (some (.int r205.1))) (σ₁ := (H0 s r205.2)) rfl rfl rfl rfl rfl rfl rfl rfl (tF13 Ad W s r200.2 (-1:Int32) (-1:Int32) hr205) ?_
     refine zS Ad W 1 (st' := (691, [vR 0, vR 1, vL x2, none, vI x4, vI x5, vI x6, vI x7, vI x8, vI x9, vI x10, vI x11, vI x12, vI x13, vI x14, none, none, none, none, vI x19, none, vI e139a.1, none, none, none, vI e139a.2.2.2.2.1, vI e139a.2.2.2.2.2, vI (if e139a.1 = (0:Int32) then (0:Int32) else (if x8 = (0:Int32) then e139a.2.1 else (if x8 = (1:Int32) then e139a.1 else (if x8 = (2:Int32) then e139a.2.2.1 else e139a.2.2.2.1)))), none, none, none, none, none, none, none], [.int e139a.1, .int r205.1], (H0 s r205.2))) rfl ?_
     rcases qite h with ⟨hc206, h⟩ | ⟨hc206, h⟩
     ·refine zT Ad W (t := 696) (f := 694) rfl (XT.ii_eq_t hc206) ?_
      refine zS Ad W 4 (st' := (702, [vR 0, vR 1, vL x2, none, vI x4, vI x5, vI x6, vI x7, vI x8, vI x9, vI x10, vI x11, vI x12, vI x13, vI x14, none, none, none, none, vI x19, none, vI e139a.1, none, none, none, vI e139a.2.2.2.2.1, vI e139a.2.2.2.2.2, vI (if e139a.1 = (0:Int32) then (0:Int32) else (if x8 = (0:Int32) then e139a.2.1 else (if x8 = (1:Int32) then e139a.1 else (if x8 = (2:Int32) then e139a.2.2.1 else e139a.2.2.2.1)))), vI (0:Int32), vI (0:Int32), none, none, none, none, none], [], (H0 s r205.2))) rfl ?_
      refine zS Ad W 4 (st' := (708, [vR 0, vR 1, vL x2, none, vI x4, vI x5, vI x6, vI x7, vI x8, vI x9, vI x10, vI x11, vI x12, vI x13, vI x14, none, none, none, none, vI x19, none, vI e139a.1, none, none, none, vI e139a.2.2.2.2.1, vI e139a.2.2.2.2.2, vI (if e139a.1 = (0:Int32) then (0:Int32) else (if x8 = (0:Int32) then e139a.2.1 else (if x8 = (1:Int32) then e139a.1 else (if x8 = (2:Int32) then e139a.2.2.1 else e139a.2.2.2.1)))), vI (0:Int32), vI (0:Int32), vI (-1:Int32), vI (0:Int32), none, none, none], [], (H0 s r205.2))) rfl ?_
      obtain ⟨e216, he216, h⟩ := bind_eq_some_iff.mp h
      refine zM [tt,tt,tt,ff,tt,tt,tt,tt,tt,tt,tt,tt,tt,tt,tt,ff,ff,ff,ff,tt,ff,tt,ff,ff,ff,tt,tt,tt,tt,tt,tt,tt,ff,ff,ff] (loopN_tri (B := B0_708 s r205.2 x2 x4 x5 x6 x7 x8 x9 x10 x11 x12 x13 x14 x19 e139a.1 e139a.2.2.2.2.1 e139a.2.2.2.2.2 (if e139a.1 = (0:Int32) then (0:Int32) else (if x8 = (0:Int32) then e139a.2.1 else (if x8 = (1:Int32) then e139a.1 else (if x8 = (2:Int32) then e139a.2.2.1 else e139a.2.2.2.1))))) (T := fun lv217 => QTri l Z n0 ad 0 (708, [vR 0, vR 1, vL x2, none, vI x4, vI x5, vI x6, vI x7, vI x8, vI x9, vI x10, vI x11, vI x12, vI x13, vI x14, none, none, none, none, vI x19, none, vI e139a.1, none, none, none, vI e139a.2.2.2.2.1, vI e139a.2.2.2.2.2, vI (if e139a.1 = (0:Int32) then (0:Int32) else (if x8 = (0:Int32) then e139a.2.1 else (if x8 = (1:Int32) then e139a.1 else (if x8 = (2:Int32) then e139a.2.2.1 else e139a.2.2.2.1)))), vI lv217.1, vI lv217.2.1, vI lv217.2.2.1, vI lv217.2.2.2, none, none, none], [], (H0 s r205.2)) u τ) (KE := fun e216a => QTri l Z n0 ad 0 (758, [vR 0, vR 1, vL x2, none, vI x4, vI x5, vI x6, vI x7, vI x8, vI x9, vI x10, vI x11, vI x12, vI x13, vI x14, none, none, none, none, vI x19, none, vI e139a.1, none, none, none, none, none, vI (if e139a.1 = (0:Int32) then (0:Int32) else (if x8 = (0:Int32) then e139a.2.1 else (if x8 = (1:Int32) then e139a.1 else (if x8 = (2:Int32) then e139a.2.2.1 else e139a.2.2.2.1)))), vI e216a.1, vI e216a.2.1, vI e216a.2.2, none, none, none, none], [], (H0 s r205.2)) u τ) (fun lv217 r hB hE hC => tB0_708 Ad W s r205.2 x2 x4 x5 x6 x7 x8 x9 x10 x11 x12 x13 x14 x19 e139a.1 e139a.2.2.2.2.1 e139a.2.2.2.2.2 (if e139a.1 = (0:Int32) then (0:Int32) else (if x8 = (0:Int32) then e139a.2.1 else (if x8 = (1:Int32) then e139a.1 else (if x8 = (2:Int32) then e139a.2.2.1 else e139a.2.2.2.1)))) lv217 hB (fun x q => hE _ q) (fun x q => hC x q)) qN ((0:Int32), (0:Int32), (-1:Int32), (0:Int32)) e216 he216 ?_)
      refine zS Ad W 1 (st' := (759, [vR 0, vR 1, vL x2, none, vI x4, vI x5, vI x6, vI x7, vI x8, vI x9, vI x10, vI x11, vI x12, vI x13, vI x14, none, none, none, none, vI x19, none, vI e139a.1, none, none, none, none, none, vI (if e139a.1 = (0:Int32) then (0:Int32) else (if x8 = (0:Int32) then e139a.2.1 else (if x8 = (1:Int32) then e139a.1 else (if x8 = (2:Int32) then e139a.2.2.1 else e139a.2.2.2.1)))), vI e216.1, vI e216.2.1, vI e216.2.2, none, none, none, none], [.ref 1], (H0 s r205.2))) rfl ?_
      obtain ⟨r219, hr219, h⟩ := bind_eq_some_iff.mp h
      refine QTri.callV W (a := 1) (as := []) (rest := []) (w := (some (.int r219.1))) (σ₁ := (H0 s r219.2)) rfl rfl rfl rfl rfl rfl rfl rfl (tF14 Ad W s r205.2 hr219) ?_
      refine zS Ad W 1 (st' := (764, [vR 0, vR 1, vL x2, none, vI x4, vI x5, vI x6, vI x7, vI x8, vI x9, vI x10, vI x11, vI x12, vI x13, vI x14, none, none, none, none, vI x19, none, vI e139a.1, none, none, none, none, none, vI (if e139a.1 = (0:Int32) then (0:Int32) else (if x8 = (0:Int32) then e139a.2.1 else (if x8 = (1:Int32) then e139a.1 else (if x8 = (2:Int32) then e139a.2.2.1 else e139a.2.2.2.1)))), vI e216.1, vI e216.2.1, vI e216.2.2, none, none, none, none], [.int e216.1, .int r219.1], (H0 s r219.2))) rfl ?_
      rcases qite h with ⟨hc220, h⟩ | ⟨hc220, h⟩
      ·refine zF Ad W (t := 776) (f := 767) rfl (XT.ii_ne_f hc220) ?_
       refine zS Ad W 1 (st' := (768, [vR 0, vR 1, vL x2, none, vI x4, vI x5, vI x6, vI x7, vI x8, vI x9, vI x10, vI x11, vI x12, vI x13, vI x14, none, none, none, none, vI x19, none, vI e139a.1, none, none, none, none, none, vI (if e139a.1 = (0:Int32) then (0:Int32) else (if x8 = (0:Int32) then e139a.2.1 else (if x8 = (1:Int32) then e139a.1 else (if x8 = (2:Int32) then e139a.2.2.1 else e139a.2.2.2.1)))), vI e216.1, vI e216.2.1, vI e216.2.2, none, none, none, none], [.ref 1], (H0 s r219.2))) rfl ?_
       obtain ⟨r222, hr222, h⟩ := bind_eq_some_iff.mp h
       refine QTri.callV W (a := 1) (as := []) (rest := []) (w := (some (.int r222.1))) (σ₁ := (H0 s r222.2)) rfl rfl rfl rfl rfl rfl rfl rfl (tF15 Ad W s r219.2 hr222) ?_
       refine zS Ad W 1 (st' := (773, [vR 0, vR 1, vL x2, none, vI x4, vI x5, vI x6, vI x7, vI x8, vI x9, vI x10, vI x11, vI x12, vI x13, vI x14, none, none, none, none, vI x19, none, vI e139a.1, none, none, none, none, none, vI (if e139a.1 = (0:Int32) then (0:Int32) else (if x8 = (0:Int32) then e139a.2.1 else (if x8 = (1:Int32) then e139a.1 else (if x8 = (2:Int32) then e139a.2.2.1 else e139a.2.2.2.1)))), vI e216.1, vI e216.2.1, vI e216.2.2, none, none, none, none], [.int e216.2.1, .int r222.1], (H0 s r222.2))) rfl ?_
       rcases qite h with ⟨hc223, h⟩ | ⟨hc223, h⟩
       ·refine zT Ad W (t := 778) (f := 776) rfl (XT.ii_eq_t hc223) ?_
        refine zS Ad W 1 (st' := (780, [vR 0, vR 1, vL x2, none, vI x4, vI x5, vI x6, vI x7, vI x8, vI x9, vI x10, vI x11, vI x12, vI x13, vI x14, none, none, none, none, vI x19, none, vI e139a.1, none, none, none, none, none, vI (if e139a.1 = (0:Int32) then (0:Int32) else (if x8 = (0:Int32) then e139a.2.1 else (if x8 = (1:Int32) then e139a.1 else (if x8 = (2:Int32) then e139a.2.2.1 else e139a.2.2.2.1)))), vI e216.1, vI e216.2.1, vI e216.2.2, none, none, none, none], [.int e216.1], (H0 s r222.2))) rfl ?_
        rcases qite h with ⟨hc224, h⟩ | ⟨hc224, h⟩
        ·refine zF Ad W (t := 795) (f := 783) rfl (XT.i0_le_f hc224) ?_
         refine zS Ad W 2 (st' := (785, [vR 0, vR 1, vL x2, none, vI x4, vI x5, vI x6, vI x7, vI x8, vI x9, vI x10, vI x11, vI x12, vI x13, vI x14, none, none, none, none, vI x19, none, vI e139a.1, none, none, none, none, none, vI (if e139a.1 = (0:Int32) then (0:Int32) else (if x8 = (0:Int32) then e139a.2.1 else (if x8 = (1:Int32) then e139a.1 else (if x8 = (2:Int32) then e139a.2.2.1 else e139a.2.2.2.1)))), vI e216.1, vI e216.2.1, vI e216.2.2, none, none, none, none], [.int (0:Int32), .ref 1], (H0 s r222.2))) rfl ?_
         obtain ⟨r229, hr229, h⟩ := bind_eq_some_iff.mp h
         refine QTri.callV W (a := 1) (as := [.int (0:Int32)]) (rest := []) (w := (some (.int r229.1))) (σ₁ := (H0 s r229.2)) rfl rfl rfl rfl rfl rfl rfl rfl (tF25 Ad W s r222.2 (0:Int32) hr229) ?_
         refine zS Ad W 1 (st' := (790, [vR 0, vR 1, vL x2, none, vI x4, vI x5, vI x6, vI x7, vI x8, vI x9, vI x10, vI x11, vI x12, vI x13, vI x14, none, none, none, none, vI x19, none, vI e139a.1, none, none, none, none, none, vI (if e139a.1 = (0:Int32) then (0:Int32) else (if x8 = (0:Int32) then e139a.2.1 else (if x8 = (1:Int32) then e139a.1 else (if x8 = (2:Int32) then e139a.2.2.1 else e139a.2.2.2.1)))), vI e216.1, vI e216.2.1, vI e216.2.2, none, none, none, none], [.int e216.2.2, .int r229.1], (H0 s r229.2))) rfl ?_
         rcases qite h with ⟨hc230, h⟩ | ⟨hc230, h⟩
         ·refine zT Ad W (t := 795) (f := 793) rfl (XT.ii_eq_t hc230) ?_
          exact zM [tt,tt,tt,ff,tt,tt,tt,tt,tt,tt,tt,tt,tt,tt,tt,ff,ff,ff,ff,tt,ff,tt,ff,ff,ff,ff,ff,tt,ff,ff,ff,ff,ff,ff,ff] (tJ0_795 Ad W s r229.2 x2 x4 x5 x6 x7 x8 x9 x10 x11 x12 x13 x14 x19 e139a.1 (if e139a.1 = (0:Int32) then (0:Int32) else (if x8 = (0:Int32) then e139a.2.1 else (if x8 = (1:Int32) then e139a.1 else (if x8 = (2:Int32) then e139a.2.2.1 else e139a.2.2.2.1)))) h hx0 hc)
         ·refine zF Ad W (t := 795) (f := 793) rfl (XT.ii_eq_f hc230) ?_
          refine zS Ad W 1 (st' := (794, [vR 0, vR 1, vL x2, none, vI x4, vI x5, vI x6, vI x7, vI x8, vI x9, vI x10, vI x11, vI x12, vI x13, vI x14, none, none, none, none, vI x19, none, vI e139a.1, none, none, none, none, none, vI (if e139a.1 = (0:Int32) then (0:Int32) else (if x8 = (0:Int32) then e139a.2.1 else (if x8 = (1:Int32) then e139a.1 else (if x8 = (2:Int32) then e139a.2.2.1 else e139a.2.2.2.1)))), vI e216.1, vI e216.2.1, vI e216.2.2, none, none, none, none], [.int (0:Int32)], (H0 s r229.2))) rfl ?_
          obtain rfl := Option.some.inj h
          obtain ⟨rfl, rfl⟩ := hx0 ((0:Int32), (H0 s r229.2)) rfl
          exact QTri.retZ rfl rfl
        ·refine zT Ad W (t := 795) (f := 783) rfl (XT.i0_le_t hc224) ?_
         exact zM [tt,tt,tt,ff,tt,tt,tt,tt,tt,tt,tt,tt,tt,tt,tt,ff,ff,ff,ff,tt,ff,tt,ff,ff,ff,ff,ff,tt,ff,ff,ff,ff,ff,ff,ff] (tJ0_795 Ad W s r222.2 x2 x4 x5 x6 x7 x8 x9 x10 x11 x12 x13 x14 x19 e139a.1 (if e139a.1 = (0:Int32) then (0:Int32) else (if x8 = (0:Int32) then e139a.2.1 else (if x8 = (1:Int32) then e139a.1 else (if x8 = (2:Int32) then e139a.2.2.1 else e139a.2.2.2.1)))) h hx0 hc)
       ·refine zF Ad W (t := 778) (f := 776) rfl (XT.ii_eq_f hc223) ?_
        refine zS Ad W 1 (st' := (777, [vR 0, vR 1, vL x2, none, vI x4, vI x5, vI x6, vI x7, vI x8, vI x9, vI x10, vI x11, vI x12, vI x13, vI x14, none, none, none, none, vI x19, none, vI e139a.1, none, none, none, none, none, vI (if e139a.1 = (0:Int32) then (0:Int32) else (if x8 = (0:Int32) then e139a.2.1 else (if x8 = (1:Int32) then e139a.1 else (if x8 = (2:Int32) then e139a.2.2.1 else e139a.2.2.2.1)))), vI e216.1, vI e216.2.1, vI e216.2.2, none, none, none, none], [.int (0:Int32)], (H0 s r222.2))) rfl ?_
        obtain rfl := Option.some.inj h
        obtain ⟨rfl, rfl⟩ := hx0 ((0:Int32), (H0 s r222.2)) rfl
        exact QTri.retZ rfl rfl
      ·refine zT Ad W (t := 776) (f := 767) rfl (XT.ii_ne_t hc220) ?_
       refine zS Ad W 1 (st' := (777, [vR 0, vR 1, vL x2, none, vI x4, vI x5, vI x6, vI x7, vI x8, vI x9, vI x10, vI x11, vI x12, vI x13, vI x14, none, none, none, none, vI x19, none, vI e139a.1, none, none, none, none, none, vI (if e139a.1 = (0:Int32) then (0:Int32) else (if x8 = (0:Int32) then e139a.2.1 else (if x8 = (1:Int32) then e139a.1 else (if x8 = (2:Int32) then e139a.2.2.1 else e139a.2.2.2.1)))), vI e216.1, vI e216.2.1, vI e216.2.2, none, none, none, none], [.int (0:Int32)], (H0 s r219.2))) rfl ?_
       obtain rfl := Option.some.inj h
       obtain ⟨rfl, rfl⟩ := hx0 ((0:Int32), (H0 s r219.2)) rfl
       exact QTri.retZ rfl rfl
     ·refine zF Ad W (t := 696) (f := 694) rfl (XT.ii_eq_f hc206) ?_
      refine zS Ad W 1 (st' := (695, [vR 0, vR 1, vL x2, none, vI x4, vI x5, vI x6, vI x7, vI x8, vI x9, vI x10, vI x11, vI x12, vI x13, vI x14, none, none, none, none, vI x19, none, vI e139a.1, none, none, none, vI e139a.2.2.2.2.1, vI e139a.2.2.2.2.2, vI (if e139a.1 = (0:Int32) then (0:Int32) else (if x8 = (0:Int32) then e139a.2.1 else (if x8 = (1:Int32) then e139a.1 else (if x8 = (2:Int32) then e139a.2.2.1 else e139a.2.2.2.1)))), none, none, none, none, none, none, none], [.int (0:Int32)], (H0 s r205.2))) rfl ?_
      obtain rfl := Option.some.inj h
      obtain ⟨rfl, rfl⟩ := hx0 ((0:Int32), (H0 s r205.2)) rfl
      exact QTri.retZ rfl rfl
    ·refine zF Ad W (t := 683) (f := 681) rfl (XT.ii_eq_f hc201) ?_
     refine zS Ad W 1 (st' := (682, [vR 0, vR 1, vL x2, none, vI x4, vI x5, vI x6, vI x7, vI x8, vI x9, vI x10, vI x11, vI x12, vI x13, vI x14, none, none, none, none, vI x19, none, vI e139a.1, none, none, none, vI e139a.2.2.2.2.1, vI e139a.2.2.2.2.2, vI (if e139a.1 = (0:Int32) then (0:Int32) else (if x8 = (0:Int32) then e139a.2.1 else (if x8 = (1:Int32) then e139a.1 else (if x8 = (2:Int32) then e139a.2.2.1 else e139a.2.2.2.1)))), none, none, none, none, none, none, none], [.int (0:Int32)], (H0 s r200.2))) rfl ?_
     obtain rfl := Option.some.inj h
     obtain ⟨rfl, rfl⟩ := hx0 ((0:Int32), (H0 s r200.2)) rfl
     exact QTri.retZ rfl rfl
   rcases em (e139a.1 = (0:Int32)) with hc143 | hc143
   ·refine zF Ad W (t := 634) (f := 630) rfl (XT.i0_ne_f hc143) ?_
    refine zS Ad W 2 (st' := (668, [vR 0, vR 1, vL x2, none, vI x4, vI x5, vI x6, vI x7, vI x8, vI x9, vI x10, vI x11, vI x12, vI x13, vI x14, none, none, none, none, vI x19, none, vI e139a.1, vI e139a.2.1, vI e139a.2.2.1, vI e139a.2.2.2.1, vI e139a.2.2.2.2.1, vI e139a.2.2.2.2.2, none, none, none, none, none, none, none, none], [.int (0:Int32)], (H0 s p0))) rfl ?_
    exact zM [tt,tt,tt,ff,tt,tt,tt,tt,tt,tt,tt,tt,tt,tt,tt,ff,ff,ff,ff,tt,ff,tt,ff,ff,ff,tt,tt,ff,ff,ff,ff,ff,ff,ff,ff] (K142 _ (if_pos hc143).symm)
   ·refine zT Ad W (t := 634) (f := 630) rfl (XT.i0_ne_t hc143) ?_
    refine zS Ad W 1 (st' := (636, [vR 0, vR 1, vL x2, none, vI x4, vI x5, vI x6, vI x7, vI x8, vI x9, vI x10, vI x11, vI x12, vI x13, vI x14, none, none, none, none, vI x19, none, vI e139a.1, vI e139a.2.1, vI e139a.2.2.1, vI e139a.2.2.2.1, vI e139a.2.2.2.2.1, vI e139a.2.2.2.2.2, none, none, none, none, none, none, none, none], [.int x8], (H0 s p0))) rfl ?_
    rcases em (x8 = (0:Int32)) with hc144 | hc144
    ·refine zF Ad W (t := 644) (f := 639) rfl (XT.i0_ne_f hc144) ?_
     refine zS Ad W 2 (st' := (668, [vR 0, vR 1, vL x2, none, vI x4, vI x5, vI x6, vI x7, vI x8, vI x9, vI x10, vI x11, vI x12, vI x13, vI x14, none, none, none, none, vI x19, none, vI e139a.1, vI e139a.2.1, vI e139a.2.2.1, vI e139a.2.2.2.1, vI e139a.2.2.2.2.1, vI e139a.2.2.2.2.2, none, none, none, none, none, none, none, none], [.int e139a.2.1], (H0 s p0))) rfl ?_
     exact zM [tt,tt,tt,ff,tt,tt,tt,tt,tt,tt,tt,tt,tt,tt,tt,ff,ff,ff,ff,tt,ff,tt,ff,ff,ff,tt,tt,ff,ff,ff,ff,ff,ff,ff,ff] (K142 _ ((if_neg hc143).trans (if_pos hc144)).symm)
    ·refine zT Ad W (t := 644) (f := 639) rfl (XT.i0_ne_t hc144) ?_
     refine zS Ad W 2 (st' := (647, [vR 0, vR 1, vL x2, none, vI x4, vI x5, vI x6, vI x7, vI x8, vI x9, vI x10, vI x11, vI x12, vI x13, vI x14, none, none, none, none, vI x19, none, vI e139a.1, vI e139a.2.1, vI e139a.2.2.1, vI e139a.2.2.2.1, vI e139a.2.2.2.2.1, vI e139a.2.2.2.2.2, none, none, none, none, none, none, none, none], [.int (1:Int32), .int x8], (H0 s p0))) rfl ?_
     rcases em (x8 = (1:Int32)) with hc145 | hc145
     ·refine zF Ad W (t := 655) (f := 650) rfl (XT.ii_ne_f hc145) ?_
      refine zS Ad W 2 (st' := (668, [vR 0, vR 1, vL x2, none, vI x4, vI x5, vI x6, vI x7, vI x8, vI x9, vI x10, vI x11, vI x12, vI x13, vI x14, none, none, none, none, vI x19, none, vI e139a.1, vI e139a.2.1, vI e139a.2.2.1, vI e139a.2.2.2.1, vI e139a.2.2.2.2.1, vI e139a.2.2.2.2.2, none, none, none, none, none, none, none, none], [.int e139a.1], (H0 s p0))) rfl ?_
      exact zM [tt,tt,tt,ff,tt,tt,tt,tt,tt,tt,tt,tt,tt,tt,tt,ff,ff,ff,ff,tt,ff,tt,ff,ff,ff,tt,tt,ff,ff,ff,ff,ff,ff,ff,ff] (K142 _ ((if_neg hc143).trans ((if_neg hc144).trans (if_pos hc145))).symm)
     ·refine zT Ad W (t := 655) (f := 650) rfl (XT.ii_ne_t hc145) ?_
      refine zS Ad W 2 (st' := (658, [vR 0, vR 1, vL x2, none, vI x4, vI x5, vI x6, vI x7, vI x8, vI x9, vI x10, vI x11, vI x12, vI x13, vI x14, none, none, none, none, vI x19, none, vI e139a.1, vI e139a.2.1, vI e139a.2.2.1, vI e139a.2.2.2.1, vI e139a.2.2.2.2.1, vI e139a.2.2.2.2.2, none, none, none, none, none, none, none, none], [.int (2:Int32), .int x8], (H0 s p0))) rfl ?_
      rcases em (x8 = (2:Int32)) with hc146 | hc146
      ·refine zF Ad W (t := 666) (f := 661) rfl (XT.ii_ne_f hc146) ?_
       refine zS Ad W 2 (st' := (668, [vR 0, vR 1, vL x2, none, vI x4, vI x5, vI x6, vI x7, vI x8, vI x9, vI x10, vI x11, vI x12, vI x13, vI x14, none, none, none, none, vI x19, none, vI e139a.1, vI e139a.2.1, vI e139a.2.2.1, vI e139a.2.2.2.1, vI e139a.2.2.2.2.1, vI e139a.2.2.2.2.2, none, none, none, none, none, none, none, none], [.int e139a.2.2.1], (H0 s p0))) rfl ?_
       exact zM [tt,tt,tt,ff,tt,tt,tt,tt,tt,tt,tt,tt,tt,tt,tt,ff,ff,ff,ff,tt,ff,tt,ff,ff,ff,tt,tt,ff,ff,ff,ff,ff,ff,ff,ff] (K142 _ ((if_neg hc143).trans ((if_neg hc144).trans ((if_neg hc145).trans (if_pos hc146)))).symm)
      ·refine zT Ad W (t := 666) (f := 661) rfl (XT.ii_ne_t hc146) ?_
       refine zS Ad W 1 (st' := (668, [vR 0, vR 1, vL x2, none, vI x4, vI x5, vI x6, vI x7, vI x8, vI x9, vI x10, vI x11, vI x12, vI x13, vI x14, none, none, none, none, vI x19, none, vI e139a.1, vI e139a.2.1, vI e139a.2.2.1, vI e139a.2.2.2.1, vI e139a.2.2.2.2.1, vI e139a.2.2.2.2.2, none, none, none, none, none, none, none, none], [.int e139a.2.2.2.1], (H0 s p0))) rfl ?_
       exact zM [tt,tt,tt,ff,tt,tt,tt,tt,tt,tt,tt,tt,tt,tt,tt,ff,ff,ff,ff,tt,ff,tt,ff,ff,ff,tt,tt,ff,ff,ff,ff,ff,ff,ff,ff] (K142 _ ((if_neg hc143).trans ((if_neg hc144).trans ((if_neg hc145).trans (if_neg hc146)))).symm)
  ·obtain rfl := Option.some.inj h
   exact hx0 e139a rfl
 ·refine zF Ad W (t := 444) (f := 442) rfl (XT.ii_eq_f hc110) ?_
  refine zS Ad W 1 (st' := (443, [vR 0, vR 1, vL x2, none, vI x4, vI x5, vI x6, vI x7, vI x8, vI x9, vI x10, vI x11, vI x12, vI x13, vI x14, none, none, none, none, vI x19, vI x20, none, none, none, none, none, none, none, none, none, none, none, none, none, none], [.int (0:Int32)], (H0 s p0))) rfl ?_
  obtain rfl := Option.some.inj h
  obtain ⟨rfl, rfl⟩ := hx0 ((0:Int32), (H0 s p0)) rfl
  exact QTri.retZ rfl rfl
def B20_27 (x1 : Int32) (v : Int32 × Ob) : Option (((Ob)) ⊕ (Int32 × Ob)) :=
  (if v.1 < (4 : Int32) then (aset (f_data v.2) ((x1 * (4 : Int32)) + v.1) (0 : Int32)).bind fun y283 => some (.inr ((v.1 + (1 : Int32)), (s_data v.2 y283))) else some (.inl v.2))
theorem tB20_27 (Ad : QAd n0 ad) (W : QW Z a0) (s : List Int32) (x1 : Int32) (v : Int32 × Ob) {r : ((Ob)) ⊕ (Int32 × Ob)} {u : Option Value} {τ : QHeap} (h : B20_27 x1 v = some r) (hx0 : ∀ x : Ob, r = .inl x → QTri l Z n0 ad 20 (49, [vR 1, vI x1, none], [], (H0 s x)) u τ) (hc : ∀ x : Int32 × Ob, r = .inr x → QTri l Z n0 ad 20 (27, [vR 1, vI x1, vI x.1], [], (H0 s x.2)) u τ) : QTri l Z n0 ad 20 (27, [vR 1, vI x1, vI v.1], [], (H0 s v.2)) u τ := by
 unfold B20_27 at h
 refine zS Ad W 2 (st' := (29, [vR 1, vI x1, vI v.1], [.int (4:Int32), .int v.1], (H0 s v.2))) rfl ?_
 rcases qite h with ⟨hc282, h⟩ | ⟨hc282, h⟩
 ·refine zF Ad W (t := 49) (f := 32) rfl (XT.ii_ge_f hc282) ?_
  refine zS Ad W 8 (st' := (42, [vR 1, vI x1, vI v.1], [.int (0:Int32), .int ((x1 * (4:Int32)) + v.1), .ref 2], (H0 s v.2))) rfl ?_
  obtain ⟨y283, hy283, h⟩ := bind_eq_some_iff.mp h
  refine zB Ad W (f := fun y283 => (43, [vR 1, vI x1, vI v.1], [], (H0x9 s v.2 y283))) rfl hy283 ?_
  refine zS Ad W 2 (st' := (27, [vR 1, vI x1, vI (v.1 + (1:Int32))], [], (H0x9 s v.2 y283))) rfl ?_
  have E284 : ((H0x9 s v.2 y283) : QHeap) = (H0 s (s_data v.2 y283)) := by simp only [fs, H0, H0v, H0x9, s_data]
  rw [E284]
  obtain rfl := Option.some.inj h
  exact zM [tt,tt,tt] (hc ((v.1 + (1:Int32)), (s_data v.2 y283)) rfl)
 ·refine zT Ad W (t := 49) (f := 32) rfl (XT.ii_ge_t hc282) ?_
  obtain rfl := Option.some.inj h
  exact zM [tt,tt,ff] (hx0 v.2 rfl)
def H0x17 (s : List Int32) (o0 : Ob) (a0_1 : List Int32) : QHeap := H0v s (f_data o0) a0_1 (f_rf o0) (f_cf o0) (f_vf o0) (f_ag o0) (f_fMode o0) (f_fRk o0) (f_fCk o0) (f_prevVal o0) (f_prevFound o0) (f_keys o0) (f_nRows o0) (f_nForms o0) (f_last o0) (f_selUseR o0) (f_selRk o0) (f_selUseC o0) (f_selCk o0) (f_gCount o0) (f_gVal o0)
/-- clearRow(I)Z -/
def F20 (o : Ob) (x1 : Int32) : Option (Int32 × Ob) :=
 (F5 o x1).bind fun r277 => (if r277 = (0:Int32) then some ((0:Int32), o) else (aget (f_filled o) x1).bind fun y279 => (if y279 = (0:Int32) then some ((0:Int32), o) else (F22 o).bind fun r281 => (loopN (B20_27 x1) qN ((0:Int32), r281)).bind fun e285 => (aset (f_filled e285) x1 (0:Int32)).bind fun y287 => (F23 (s_filled e285 y287)).bind fun r289 => some ((1:Int32), (s_last r289.2 r289.1))))
theorem tF20 (Ad : QAd n0 ad) (W : QW Z a0) (s : List Int32) (o : Ob) (x1 : Int32) {r : Int32 × Ob} (h : F20 o x1 = some r) : QTri l Z n0 ad 20 (0, qentry [.ref 1, .int x1] (pMaxL 20), [], (H0 s o)) (some (Value.int r.1)) (H0 s r.2) := by
 unfold F20 at h
 refine zS Ad W 2 (st' := (2, [vR 1, vI x1, none], [.int x1, .ref 1], (H0 s o))) rfl ?_
 obtain ⟨r277, hr277, h⟩ := bind_eq_some_iff.mp h
 refine QTri.callP W (a := 1) (as := [.int x1]) (rest := []) (w := (some (.int r277))) (σ₁ := (H0 s o)) rfl rfl rfl rfl rfl rfl rfl rfl (tF5 Ad W s o x1 hr277) ?_
 rcases qite h with ⟨hc278, h⟩ | ⟨hc278, h⟩
 ·refine zF Ad W (t := 10) (f := 8) rfl (XT.i0_ne_f hc278) ?_
  refine zS Ad W 1 (st' := (9, [vR 1, vI x1, none], [.int (0:Int32)], (H0 s o))) rfl ?_
  obtain rfl := Option.some.inj h
  exact QTri.retZ rfl rfl
 ·refine zT Ad W (t := 10) (f := 8) rfl (XT.i0_ne_t hc278) ?_
  refine zS Ad W 3 (st' := (15, [vR 1, vI x1, none], [.int x1, .ref 3], (H0 s o))) rfl ?_
  obtain ⟨y279, hy279, h⟩ := bind_eq_some_iff.mp h
  refine zB Ad W (f := fun y279 => (16, [vR 1, vI x1, none], [.int y279], (H0 s o))) rfl hy279 ?_
  rcases qite h with ⟨hc280, h⟩ | ⟨hc280, h⟩
  ·refine zF Ad W (t := 21) (f := 19) rfl (XT.i0_ne_f hc280) ?_
   refine zS Ad W 1 (st' := (20, [vR 1, vI x1, none], [.int (0:Int32)], (H0 s o))) rfl ?_
   obtain rfl := Option.some.inj h
   exact QTri.retZ rfl rfl
  ·refine zT Ad W (t := 21) (f := 19) rfl (XT.i0_ne_t hc280) ?_
   refine zS Ad W 1 (st' := (22, [vR 1, vI x1, none], [.ref 1], (H0 s o))) rfl ?_
   obtain ⟨r281, hr281, h⟩ := bind_eq_some_iff.mp h
   refine QTri.callP W (a := 1) (as := []) (rest := []) (w := none) (σ₁ := (H0 s r281)) rfl rfl rfl rfl rfl rfl rfl rfl (tF22 Ad W s o hr281) ?_
   refine zS Ad W 2 (st' := (27, [vR 1, vI x1, vI (0:Int32)], [], (H0 s r281))) rfl ?_
   obtain ⟨e285, he285, h⟩ := bind_eq_some_iff.mp h
   refine zM [tt,tt,tt] (loopN_tri (B := B20_27 x1) (T := fun lv286 => QTri l Z n0 ad 20 (27, [vR 1, vI x1, vI lv286.1], [], (H0 s lv286.2)) (some (Value.int r.1)) (H0 s r.2)) (KE := fun e285a => QTri l Z n0 ad 20 (49, [vR 1, vI x1, none], [], (H0 s e285a)) (some (Value.int r.1)) (H0 s r.2)) (fun lv286 r hB hE hC => tB20_27 Ad W s x1 lv286 hB (fun x q => hE _ q) (fun x q => hC x q)) qN ((0:Int32), r281) e285 he285 ?_)
   refine zS Ad W 4 (st' := (55, [vR 1, vI x1, none], [.int (0:Int32), .int x1, .ref 3], (H0 s e285))) rfl ?_
   obtain ⟨y287, hy287, h⟩ := bind_eq_some_iff.mp h
   refine zB Ad W (f := fun y287 => (56, [vR 1, vI x1, none], [], (H0x17 s e285 y287))) rfl hy287 ?_
   refine zS Ad W 2 (st' := (58, [vR 1, vI x1, none], [.ref 1, .ref 1], (H0x17 s e285 y287))) rfl ?_
   have E288 : ((H0x17 s e285 y287) : QHeap) = (H0 s (s_filled e285 y287)) := by simp only [fs, H0, H0v, H0x17, s_filled]
   rw [E288]
   obtain ⟨r289, hr289, h⟩ := bind_eq_some_iff.mp h
   refine QTri.callP W (a := 1) (as := []) (rest := [.ref 1]) (w := (some (.int r289.1))) (σ₁ := (H0 s r289.2)) rfl rfl rfl rfl rfl rfl rfl rfl (tF23 Ad W s (s_filled e285 y287) hr289) ?_
   refine zS Ad W 1 (st' := (64, [vR 1, vI x1, none], [], (H0x11 s r289.2 r289.1))) rfl ?_
   refine zS Ad W 1 (st' := (65, [vR 1, vI x1, none], [.int (1:Int32)], (H0x11 s r289.2 r289.1))) rfl ?_
   have E290 : ((H0x11 s r289.2 r289.1) : QHeap) = (H0 s (s_last r289.2 r289.1)) := by simp only [fs, H0, H0v, H0x11, s_last]
   rw [E290]
   obtain rfl := Option.some.inj h
   exact QTri.retZ rfl rfl
/-- validField(I)Z -/
def F27 (x1 : Int32) : Option (Int32) :=
 (if x1 < (0:Int32) then some (0:Int32) else (if x1 < (4:Int32) then some (1:Int32) else some (0:Int32)))
theorem tF27 (Ad : QAd n0 ad) (W : QW Z a0) {a : Nat} {σ : QHeap} (x1 : Int32) {r : Int32} (h : F27 x1 = some r) : QTri l Z n0 ad 27 (0, qentry [.ref a, .int x1] (pMaxL 27), [], σ) (some (Value.int r)) σ := by
 unfold F27 at h
 refine zS Ad W 1 (st' := (1, [vR a, vI x1], [.int x1], σ)) rfl ?_
 rcases qite h with ⟨hc303, h⟩ | ⟨hc303, h⟩
 ·refine zT Ad W (t := 13) (f := 4) rfl (XT.i0_lt_t hc303) ?_
  refine zS Ad W 1 (st' := (14, [vR a, vI x1], [.int (0:Int32)], σ)) rfl ?_
  obtain rfl := Option.some.inj h
  exact QTri.retZ rfl rfl
 ·refine zF Ad W (t := 13) (f := 4) rfl (XT.i0_lt_f hc303) ?_
  refine zS Ad W 2 (st' := (6, [vR a, vI x1], [.int (4:Int32), .int x1], σ)) rfl ?_
  rcases qite h with ⟨hc304, h⟩ | ⟨hc304, h⟩
  ·refine zF Ad W (t := 13) (f := 9) rfl (XT.ii_ge_f hc304) ?_
   refine zS Ad W 2 (st' := (14, [vR a, vI x1], [.int (1:Int32)], σ)) rfl ?_
   obtain rfl := Option.some.inj h
   exact QTri.retZ rfl rfl
  ·refine zT Ad W (t := 13) (f := 9) rfl (XT.ii_ge_t hc304) ?_
   refine zS Ad W 1 (st' := (14, [vR a, vI x1], [.int (0:Int32)], σ)) rfl ?_
   obtain rfl := Option.some.inj h
   exact QTri.retZ rfl rfl
def H0x18 (s : List Int32) (o0 : Ob) (a0_2 : Int32) : QHeap := H0v s (f_data o0) (f_filled o0) a0_2 (f_cf o0) (f_vf o0) (f_ag o0) (f_fMode o0) (f_fRk o0) (f_fCk o0) (f_prevVal o0) (f_prevFound o0) (f_keys o0) (f_nRows o0) (f_nForms o0) (f_last o0) (f_selUseR o0) (f_selRk o0) (f_selUseC o0) (f_selCk o0) (f_gCount o0) (f_gVal o0)
def H0x19 (s : List Int32) (o0 : Ob) (a0_2 : Int32) (a0_3 : Int32) : QHeap := H0v s (f_data o0) (f_filled o0) a0_2 a0_3 (f_vf o0) (f_ag o0) (f_fMode o0) (f_fRk o0) (f_fCk o0) (f_prevVal o0) (f_prevFound o0) (f_keys o0) (f_nRows o0) (f_nForms o0) (f_last o0) (f_selUseR o0) (f_selRk o0) (f_selUseC o0) (f_selCk o0) (f_gCount o0) (f_gVal o0)
def H0x20 (s : List Int32) (o0 : Ob) (a0_2 : Int32) (a0_3 : Int32) (a0_4 : Int32) : QHeap := H0v s (f_data o0) (f_filled o0) a0_2 a0_3 a0_4 (f_ag o0) (f_fMode o0) (f_fRk o0) (f_fCk o0) (f_prevVal o0) (f_prevFound o0) (f_keys o0) (f_nRows o0) (f_nForms o0) (f_last o0) (f_selUseR o0) (f_selRk o0) (f_selUseC o0) (f_selCk o0) (f_gCount o0) (f_gVal o0)
def H0x21 (s : List Int32) (o0 : Ob) (a0_2 : Int32) (a0_3 : Int32) (a0_4 : Int32) (a0_5 : Int32) : QHeap := H0v s (f_data o0) (f_filled o0) a0_2 a0_3 a0_4 a0_5 (f_fMode o0) (f_fRk o0) (f_fCk o0) (f_prevVal o0) (f_prevFound o0) (f_keys o0) (f_nRows o0) (f_nForms o0) (f_last o0) (f_selUseR o0) (f_selRk o0) (f_selUseC o0) (f_selCk o0) (f_gCount o0) (f_gVal o0)
/-- setPivot(IIII)Z -/
def F26 (o : Ob) (x1 : Int32) (x2 : Int32) (x3 : Int32) (x4 : Int32) : Option (Int32 × Ob) :=
 (F27 x1).bind fun r305 => (if r305 = (0:Int32) then some ((0:Int32), o) else (F27 x2).bind fun r307 => (if r307 = (0:Int32) then some ((0:Int32), o) else (F27 x3).bind fun r309 => (if r309 = (0:Int32) then some ((0:Int32), o) else (if x4 < (0:Int32) then some ((0:Int32), o) else (if (3:Int32) < x4 then some ((0:Int32), o) else (F22 o).bind fun r313 => (F23 (s_ag (s_vf (s_cf (s_rf r313 x1) x2) x3) x4)).bind fun r315 => some ((1:Int32), (s_last r315.2 r315.1)))))))
theorem tF26 (Ad : QAd n0 ad) (W : QW Z a0) (s : List Int32) (o : Ob) (x1 : Int32) (x2 : Int32) (x3 : Int32) (x4 : Int32) {r : Int32 × Ob} (h : F26 o x1 x2 x3 x4 = some r) : QTri l Z n0 ad 26 (0, qentry [.ref 1, .int x1, .int x2, .int x3, .int x4] (pMaxL 26), [], (H0 s o)) (some (Value.int r.1)) (H0 s r.2) := by
 unfold F26 at h
 refine zS Ad W 2 (st' := (2, [vR 1, vI x1, vI x2, vI x3, vI x4], [.int x1, .ref 1], (H0 s o))) rfl ?_
 obtain ⟨r305, hr305, h⟩ := bind_eq_some_iff.mp h
 refine QTri.callP W (a := 1) (as := [.int x1]) (rest := []) (w := (some (.int r305))) (σ₁ := (H0 s o)) rfl rfl rfl rfl rfl rfl rfl rfl (tF27 Ad W x1 hr305) ?_
 rcases qite h with ⟨hc306, h⟩ | ⟨hc306, h⟩
 ·refine zT Ad W (t := 24) (f := 8) rfl (XT.i0_eq_t hc306) ?_
  refine zS Ad W 1 (st' := (25, [vR 1, vI x1, vI x2, vI x3, vI x4], [.int (0:Int32)], (H0 s o))) rfl ?_
  obtain rfl := Option.some.inj h
  exact QTri.retZ rfl rfl
 ·refine zF Ad W (t := 24) (f := 8) rfl (XT.i0_eq_f hc306) ?_
  refine zS Ad W 2 (st' := (10, [vR 1, vI x1, vI x2, vI x3, vI x4], [.int x2, .ref 1], (H0 s o))) rfl ?_
  obtain ⟨r307, hr307, h⟩ := bind_eq_some_iff.mp h
  refine QTri.callP W (a := 1) (as := [.int x2]) (rest := []) (w := (some (.int r307))) (σ₁ := (H0 s o)) rfl rfl rfl rfl rfl rfl rfl rfl (tF27 Ad W x2 hr307) ?_
  rcases qite h with ⟨hc308, h⟩ | ⟨hc308, h⟩
  ·refine zT Ad W (t := 24) (f := 16) rfl (XT.i0_eq_t hc308) ?_
   refine zS Ad W 1 (st' := (25, [vR 1, vI x1, vI x2, vI x3, vI x4], [.int (0:Int32)], (H0 s o))) rfl ?_
   obtain rfl := Option.some.inj h
   exact QTri.retZ rfl rfl
  ·refine zF Ad W (t := 24) (f := 16) rfl (XT.i0_eq_f hc308) ?_
   refine zS Ad W 2 (st' := (18, [vR 1, vI x1, vI x2, vI x3, vI x4], [.int x3, .ref 1], (H0 s o))) rfl ?_
   obtain ⟨r309, hr309, h⟩ := bind_eq_some_iff.mp h
   refine QTri.callP W (a := 1) (as := [.int x3]) (rest := []) (w := (some (.int r309))) (σ₁ := (H0 s o)) rfl rfl rfl rfl rfl rfl rfl rfl (tF27 Ad W x3 hr309) ?_
   rcases qite h with ⟨hc310, h⟩ | ⟨hc310, h⟩
   ·refine zF Ad W (t := 26) (f := 24) rfl (XT.i0_ne_f hc310) ?_
    refine zS Ad W 1 (st' := (25, [vR 1, vI x1, vI x2, vI x3, vI x4], [.int (0:Int32)], (H0 s o))) rfl ?_
    obtain rfl := Option.some.inj h
    exact QTri.retZ rfl rfl
   ·refine zT Ad W (t := 26) (f := 24) rfl (XT.i0_ne_t hc310) ?_
    refine zS Ad W 1 (st' := (28, [vR 1, vI x1, vI x2, vI x3, vI x4], [.int x4], (H0 s o))) rfl ?_
    rcases qite h with ⟨hc311, h⟩ | ⟨hc311, h⟩
    ·refine zT Ad W (t := 37) (f := 31) rfl (XT.i0_lt_t hc311) ?_
     refine zS Ad W 1 (st' := (38, [vR 1, vI x1, vI x2, vI x3, vI x4], [.int (0:Int32)], (H0 s o))) rfl ?_
     obtain rfl := Option.some.inj h
     exact QTri.retZ rfl rfl
    ·refine zF Ad W (t := 37) (f := 31) rfl (XT.i0_lt_f hc311) ?_
     refine zS Ad W 2 (st' := (34, [vR 1, vI x1, vI x2, vI x3, vI x4], [.int (3:Int32), .int x4], (H0 s o))) rfl ?_
     rcases qite h with ⟨hc312, h⟩ | ⟨hc312, h⟩
     ·refine zF Ad W (t := 39) (f := 37) rfl (XT.ii_le_f hc312) ?_
      refine zS Ad W 1 (st' := (38, [vR 1, vI x1, vI x2, vI x3, vI x4], [.int (0:Int32)], (H0 s o))) rfl ?_
      obtain rfl := Option.some.inj h
      exact QTri.retZ rfl rfl
     ·refine zT Ad W (t := 39) (f := 37) rfl (XT.ii_le_t hc312) ?_
      refine zS Ad W 1 (st' := (40, [vR 1, vI x1, vI x2, vI x3, vI x4], [.ref 1], (H0 s o))) rfl ?_
      obtain ⟨r313, hr313, h⟩ := bind_eq_some_iff.mp h
      refine QTri.callP W (a := 1) (as := []) (rest := []) (w := none) (σ₁ := (H0 s r313)) rfl rfl rfl rfl rfl rfl rfl rfl (tF22 Ad W s o hr313) ?_
      refine zS Ad W 3 (st' := (48, [vR 1, vI x1, vI x2, vI x3, vI x4], [], (H0x18 s r313 x1))) rfl ?_
      refine zS Ad W 3 (st' := (53, [vR 1, vI x1, vI x2, vI x3, vI x4], [], (H0x19 s r313 x1 x2))) rfl ?_
      refine zS Ad W 3 (st' := (58, [vR 1, vI x1, vI x2, vI x3, vI x4], [], (H0x20 s r313 x1 x2 x3))) rfl ?_
      refine zS Ad W 3 (st' := (64, [vR 1, vI x1, vI x2, vI x3, vI x4], [], (H0x21 s r313 x1 x2 x3 x4))) rfl ?_
      refine zS Ad W 2 (st' := (66, [vR 1, vI x1, vI x2, vI x3, vI x4], [.ref 1, .ref 1], (H0x21 s r313 x1 x2 x3 x4))) rfl ?_
      have E314 : ((H0x21 s r313 x1 x2 x3 x4) : QHeap) = (H0 s (s_ag (s_vf (s_cf (s_rf r313 x1) x2) x3) x4)) := by simp only [fs, H0, H0v, H0x21, s_rf, s_cf, s_vf, s_ag]
      rw [E314]
      obtain ⟨r315, hr315, h⟩ := bind_eq_some_iff.mp h
      refine QTri.callP W (a := 1) (as := []) (rest := [.ref 1]) (w := (some (.int r315.1))) (σ₁ := (H0 s r315.2)) rfl rfl rfl rfl rfl rfl rfl rfl (tF23 Ad W s (s_ag (s_vf (s_cf (s_rf r313 x1) x2) x3) x4) hr315) ?_
      refine zS Ad W 1 (st' := (72, [vR 1, vI x1, vI x2, vI x3, vI x4], [], (H0x11 s r315.2 r315.1))) rfl ?_
      refine zS Ad W 1 (st' := (73, [vR 1, vI x1, vI x2, vI x3, vI x4], [.int (1:Int32)], (H0x11 s r315.2 r315.1))) rfl ?_
      have E316 : ((H0x11 s r315.2 r315.1) : QHeap) = (H0 s (s_last r315.2 r315.1)) := by simp only [fs, H0, H0v, H0x11, s_last]
      rw [E316]
      obtain rfl := Option.some.inj h
      exact QTri.retZ rfl rfl
def J0_328 (s : List Int32) (p0 : Ob) (x2 : Int64) (x4 : Int32) (x5 : Int32) (x6 : Int32) (x7 : Int32) (x8 : Int32) (x9 : Int32) (x10 : Int32) (x11 : Int32) (x12 : Int32) (x13 : Int32) (x14 : Int32) (x15 : Int32) (x16 : Int32) (x17 : Int32) (x18 : Int32) (x19 : Int32) (w0 : Int32) : Option (((Int32 × QHeap)) ⊕ (Int64 × Int32 × Int32 × Int32 × Int32 × Int32 × Int32 × Int32 × Int32 × Int32 × Int32 × Ob)) :=
  (if x19 = (0 : Int32) then (J0_435 s p0 x2 x4 x5 x6 x7 x8 x9 x10 x11 x12 x13 x14 x19 w0) else (if w0 = (0 : Int32) then (J0_435 s p0 x2 x4 x5 x6 x7 x8 x9 x10 x11 x12 x13 x14 x19 w0) else (J0_435 s p0 x2 x4 x15 x16 (x17 % (5 : Int32)) x18 x9 x10 x11 x12 x13 x14 x19 w0)))
theorem tJ0_328 (Ad : QAd n0 ad) (W : QW Z a0) (s : List Int32) (p0 : Ob) (x2 : Int64) (x4 : Int32) (x5 : Int32) (x6 : Int32) (x7 : Int32) (x8 : Int32) (x9 : Int32) (x10 : Int32) (x11 : Int32) (x12 : Int32) (x13 : Int32) (x14 : Int32) (x15 : Int32) (x16 : Int32) (x17 : Int32) (x18 : Int32) (x19 : Int32) (w0 : Int32) {r : ((Int32 × QHeap)) ⊕ (Int64 × Int32 × Int32 × Int32 × Int32 × Int32 × Int32 × Int32 × Int32 × Int32 × Int32 × Ob)} {u : Option Value} {τ : QHeap} (h : J0_328 s p0 x2 x4 x5 x6 x7 x8 x9 x10 x11 x12 x13 x14 x15 x16 x17 x18 x19 w0 = some r) (hx0 : ∀ x : Int32 × QHeap, r = .inl x → u = (some (Value.int x.1)) ∧ τ = x.2) (hc : ∀ x : Int64 × Int32 × Int32 × Int32 × Int32 × Int32 × Int32 × Int32 × Int32 × Int32 × Int32 × Ob, r = .inr x → QTri l Z n0 ad 0 (42, [vR 0, vR 1, vL x.1, none, vI x.2.1, vI x.2.2.1, vI x.2.2.2.1, vI x.2.2.2.2.1, vI x.2.2.2.2.2.1, vI x.2.2.2.2.2.2.1, vI x.2.2.2.2.2.2.2.1, vI x.2.2.2.2.2.2.2.2.1, vI x.2.2.2.2.2.2.2.2.2.1, vI x.2.2.2.2.2.2.2.2.2.2.1, none, none, none, none, none, none, none, none, none, none, none, none, none, none, none, none, none, none, none, none, none], [], (H0 s x.2.2.2.2.2.2.2.2.2.2.2)) u τ) : QTri l Z n0 ad 0 (328, [vR 0, vR 1, vL x2, none, vI x4, vI x5, vI x6, vI x7, vI x8, vI x9, vI x10, vI x11, vI x12, vI x13, vI x14, vI x15, vI x16, vI x17, vI x18, vI x19, none, none, none, none, none, none, none, none, none, none, none, none, none, none, none], [.int w0], (H0 s p0)) u τ := by
 unfold J0_328 at h
 refine zS Ad W 2 (st' := (332, [vR 0, vR 1, vL x2, none, vI x4, vI x5, vI x6, vI x7, vI x8, vI x9, vI x10, vI x11, vI x12, vI x13, vI x14, vI x15, vI x16, vI x17, vI x18, vI x19, vI w0, none, none, none, none, none, none, none, none, none, none, none, none, none, none], [.int x19], (H0 s p0))) rfl ?_
 rcases qite h with ⟨hc328, h⟩ | ⟨hc328, h⟩
 ·refine zT Ad W (t := 435) (f := 335) rfl (XT.i0_eq_t hc328) ?_
  exact zM [tt,tt,tt,ff,tt,tt,tt,tt,tt,tt,tt,tt,tt,tt,tt,ff,ff,ff,ff,tt,tt,ff,ff,ff,ff,ff,ff,ff,ff,ff,ff,ff,ff,ff,ff] (tJ0_435 Ad W s p0 x2 x4 x5 x6 x7 x8 x9 x10 x11 x12 x13 x14 x19 w0 h hx0 hc)
 ·refine zF Ad W (t := 435) (f := 335) rfl (XT.i0_eq_f hc328) ?_
  refine zS Ad W 1 (st' := (337, [vR 0, vR 1, vL x2, none, vI x4, vI x5, vI x6, vI x7, vI x8, vI x9, vI x10, vI x11, vI x12, vI x13, vI x14, vI x15, vI x16, vI x17, vI x18, vI x19, vI w0, none, none, none, none, none, none, none, none, none, none, none, none, none, none], [.int w0], (H0 s p0))) rfl ?_
  rcases qite h with ⟨hc329, h⟩ | ⟨hc329, h⟩
  ·refine zT Ad W (t := 435) (f := 340) rfl (XT.i0_eq_t hc329) ?_
   exact zM [tt,tt,tt,ff,tt,tt,tt,tt,tt,tt,tt,tt,tt,tt,tt,ff,ff,ff,ff,tt,tt,ff,ff,ff,ff,ff,ff,ff,ff,ff,ff,ff,ff,ff,ff] (tJ0_435 Ad W s p0 x2 x4 x5 x6 x7 x8 x9 x10 x11 x12 x13 x14 x19 w0 h hx0 hc)
  ·refine zF Ad W (t := 435) (f := 340) rfl (XT.i0_eq_f hc329) ?_
   refine zS Ad W 4 (st' := (348, [vR 0, vR 1, vL x2, none, vI x4, vI x15, vI x16, vI x7, vI x8, vI x9, vI x10, vI x11, vI x12, vI x13, vI x14, vI x15, vI x16, vI x17, vI x18, vI x19, vI w0, none, none, none, none, none, none, none, none, none, none, none, none, none, none], [], (H0 s p0))) rfl ?_
   refine zS Ad W 6 (st' := (358, [vR 0, vR 1, vL x2, none, vI x4, vI x15, vI x16, vI (x17 % (5:Int32)), vI x18, vI x9, vI x10, vI x11, vI x12, vI x13, vI x14, vI x15, vI x16, vI x17, vI x18, vI x19, vI w0, none, none, none, none, none, none, none, none, none, none, none, none, none, none], [], (H0 s p0))) rfl ?_
   refine zS Ad W 1 (st' := (435, [vR 0, vR 1, vL x2, none, vI x4, vI x15, vI x16, vI (x17 % (5:Int32)), vI x18, vI x9, vI x10, vI x11, vI x12, vI x13, vI x14, vI x15, vI x16, vI x17, vI x18, vI x19, vI w0, none, none, none, none, none, none, none, none, none, none, none, none, none, none], [], (H0 s p0))) rfl ?_
   exact zM [tt,tt,tt,ff,tt,tt,tt,tt,tt,tt,tt,tt,tt,tt,tt,ff,ff,ff,ff,tt,tt,ff,ff,ff,ff,ff,ff,ff,ff,ff,ff,ff,ff,ff,ff] (tJ0_435 Ad W s p0 x2 x4 x15 x16 (x17 % (5:Int32)) x18 x9 x10 x11 x12 x13 x14 x19 w0 h hx0 hc)
def J0_327 (s : List Int32) (p0 : Ob) (x2 : Int64) (x4 : Int32) (x5 : Int32) (x6 : Int32) (x7 : Int32) (x8 : Int32) (x9 : Int32) (x10 : Int32) (x11 : Int32) (x12 : Int32) (x13 : Int32) (x14 : Int32) (x15 : Int32) (x16 : Int32) (x17 : Int32) (x18 : Int32) (x19 : Int32) : Option (((Int32 × QHeap)) ⊕ (Int64 × Int32 × Int32 × Int32 × Int32 × Int32 × Int32 × Int32 × Int32 × Int32 × Int32 × Ob)) :=
  (J0_328 s p0 x2 x4 x5 x6 x7 x8 x9 x10 x11 x12 x13 x14 x15 x16 x17 x18 x19 (0 : Int32))
theorem tJ0_327 (Ad : QAd n0 ad) (W : QW Z a0) (s : List Int32) (p0 : Ob) (x2 : Int64) (x4 : Int32) (x5 : Int32) (x6 : Int32) (x7 : Int32) (x8 : Int32) (x9 : Int32) (x10 : Int32) (x11 : Int32) (x12 : Int32) (x13 : Int32) (x14 : Int32) (x15 : Int32) (x16 : Int32) (x17 : Int32) (x18 : Int32) (x19 : Int32) {r : ((Int32 × QHeap)) ⊕ (Int64 × Int32 × Int32 × Int32 × Int32 × Int32 × Int32 × Int32 × Int32 × Int32 × Int32 × Ob)} {u : Option Value} {τ : QHeap} (h : J0_327 s p0 x2 x4 x5 x6 x7 x8 x9 x10 x11 x12 x13 x14 x15 x16 x17 x18 x19 = some r) (hx0 : ∀ x : Int32 × QHeap, r = .inl x → u = (some (Value.int x.1)) ∧ τ = x.2) (hc : ∀ x : Int64 × Int32 × Int32 × Int32 × Int32 × Int32 × Int32 × Int32 × Int32 × Int32 × Int32 × Ob, r = .inr x → QTri l Z n0 ad 0 (42, [vR 0, vR 1, vL x.1, none, vI x.2.1, vI x.2.2.1, vI x.2.2.2.1, vI x.2.2.2.2.1, vI x.2.2.2.2.2.1, vI x.2.2.2.2.2.2.1, vI x.2.2.2.2.2.2.2.1, vI x.2.2.2.2.2.2.2.2.1, vI x.2.2.2.2.2.2.2.2.2.1, vI x.2.2.2.2.2.2.2.2.2.2.1, none, none, none, none, none, none, none, none, none, none, none, none, none, none, none, none, none, none, none, none, none], [], (H0 s x.2.2.2.2.2.2.2.2.2.2.2)) u τ) : QTri l Z n0 ad 0 (327, [vR 0, vR 1, vL x2, none, vI x4, vI x5, vI x6, vI x7, vI x8, vI x9, vI x10, vI x11, vI x12, vI x13, vI x14, vI x15, vI x16, vI x17, vI x18, vI x19, none, none, none, none, none, none, none, none, none, none, none, none, none, none, none], [], (H0 s p0)) u τ := by
 unfold J0_327 at h
 refine zS Ad W 1 (st' := (328, [vR 0, vR 1, vL x2, none, vI x4, vI x5, vI x6, vI x7, vI x8, vI x9, vI x10, vI x11, vI x12, vI x13, vI x14, vI x15, vI x16, vI x17, vI x18, vI x19, none, none, none, none, none, none, none, none, none, none, none, none, none, none, none], [.int (0:Int32)], (H0 s p0))) rfl ?_
 exact zM [tt,tt,tt,ff,tt,tt,tt,tt,tt,tt,tt,tt,tt,tt,tt,tt,tt,tt,tt,tt,ff,ff,ff,ff,ff,ff,ff,ff,ff,ff,ff,ff,ff,ff,ff] (tJ0_328 Ad W s p0 x2 x4 x5 x6 x7 x8 x9 x10 x11 x12 x13 x14 x15 x16 x17 x18 x19 (0:Int32) h hx0 hc)
def H0x22 (s : List Int32) (o0 : Ob) (a0_6 : List Int32) : QHeap := H0v s (f_data o0) (f_filled o0) (f_rf o0) (f_cf o0) (f_vf o0) (f_ag o0) a0_6 (f_fRk o0) (f_fCk o0) (f_prevVal o0) (f_prevFound o0) (f_keys o0) (f_nRows o0) (f_nForms o0) (f_last o0) (f_selUseR o0) (f_selRk o0) (f_selUseC o0) (f_selCk o0) (f_gCount o0) (f_gVal o0)
def H0x23 (s : List Int32) (o0 : Ob) (a0_6 : List Int32) (a0_7 : List Int32) : QHeap := H0v s (f_data o0) (f_filled o0) (f_rf o0) (f_cf o0) (f_vf o0) (f_ag o0) a0_6 a0_7 (f_fCk o0) (f_prevVal o0) (f_prevFound o0) (f_keys o0) (f_nRows o0) (f_nForms o0) (f_last o0) (f_selUseR o0) (f_selRk o0) (f_selUseC o0) (f_selCk o0) (f_gCount o0) (f_gVal o0)
def H0x24 (s : List Int32) (o0 : Ob) (a0_6 : List Int32) (a0_7 : List Int32) (a0_8 : List Int32) : QHeap := H0v s (f_data o0) (f_filled o0) (f_rf o0) (f_cf o0) (f_vf o0) (f_ag o0) a0_6 a0_7 a0_8 (f_prevVal o0) (f_prevFound o0) (f_keys o0) (f_nRows o0) (f_nForms o0) (f_last o0) (f_selUseR o0) (f_selRk o0) (f_selUseC o0) (f_selCk o0) (f_gCount o0) (f_gVal o0)
/-- setFormula(IIII)Z -/
def F2 (o : Ob) (x1 : Int32) (x2 : Int32) (x3 : Int32) (x4 : Int32) : Option (Int32 × Ob) :=
 (F3 o x1).bind fun r331 => (if r331 = (0:Int32) then some ((0:Int32), o) else (if x2 < (0:Int32) then some ((0:Int32), o) else (if (4:Int32) < x2 then some ((0:Int32), o) else (aset (f_fMode o) x1 x2).bind fun y335 => (aset (f_fRk o) x1 x3).bind fun y336 => (aset (f_fCk o) x1 x4).bind fun y337 => some ((1:Int32), (s_fCk (s_fRk (s_fMode o y335) y336) y337)))))
theorem tF2 (Ad : QAd n0 ad) (W : QW Z a0) (s : List Int32) (o : Ob) (x1 : Int32) (x2 : Int32) (x3 : Int32) (x4 : Int32) {r : Int32 × Ob} (h : F2 o x1 x2 x3 x4 = some r) : QTri l Z n0 ad 2 (0, qentry [.ref 1, .int x1, .int x2, .int x3, .int x4] (pMaxL 2), [], (H0 s o)) (some (Value.int r.1)) (H0 s r.2) := by
 unfold F2 at h
 refine zS Ad W 2 (st' := (2, [vR 1, vI x1, vI x2, vI x3, vI x4], [.int x1, .ref 1], (H0 s o))) rfl ?_
 obtain ⟨r331, hr331, h⟩ := bind_eq_some_iff.mp h
 refine QTri.callP W (a := 1) (as := [.int x1]) (rest := []) (w := (some (.int r331))) (σ₁ := (H0 s o)) rfl rfl rfl rfl rfl rfl rfl rfl (tF3 Ad W s o x1 hr331) ?_
 rcases qite h with ⟨hc332, h⟩ | ⟨hc332, h⟩
 ·refine zF Ad W (t := 10) (f := 8) rfl (XT.i0_ne_f hc332) ?_
  refine zS Ad W 1 (st' := (9, [vR 1, vI x1, vI x2, vI x3, vI x4], [.int (0:Int32)], (H0 s o))) rfl ?_
  obtain rfl := Option.some.inj h
  exact QTri.retZ rfl rfl
 ·refine zT Ad W (t := 10) (f := 8) rfl (XT.i0_ne_t hc332) ?_
  refine zS Ad W 1 (st' := (11, [vR 1, vI x1, vI x2, vI x3, vI x4], [.int x2], (H0 s o))) rfl ?_
  rcases qite h with ⟨hc333, h⟩ | ⟨hc333, h⟩
  ·refine zT Ad W (t := 19) (f := 14) rfl (XT.i0_lt_t hc333) ?_
   refine zS Ad W 1 (st' := (20, [vR 1, vI x1, vI x2, vI x3, vI x4], [.int (0:Int32)], (H0 s o))) rfl ?_
   obtain rfl := Option.some.inj h
   exact QTri.retZ rfl rfl
  ·refine zF Ad W (t := 19) (f := 14) rfl (XT.i0_lt_f hc333) ?_
   refine zS Ad W 2 (st' := (16, [vR 1, vI x1, vI x2, vI x3, vI x4], [.int (4:Int32), .int x2], (H0 s o))) rfl ?_
   rcases qite h with ⟨hc334, h⟩ | ⟨hc334, h⟩
   ·refine zF Ad W (t := 21) (f := 19) rfl (XT.ii_le_f hc334) ?_
    refine zS Ad W 1 (st' := (20, [vR 1, vI x1, vI x2, vI x3, vI x4], [.int (0:Int32)], (H0 s o))) rfl ?_
    obtain rfl := Option.some.inj h
    exact QTri.retZ rfl rfl
   ·refine zT Ad W (t := 21) (f := 19) rfl (XT.ii_le_t hc334) ?_
    refine zS Ad W 4 (st' := (27, [vR 1, vI x1, vI x2, vI x3, vI x4], [.int x2, .int x1, .ref 4], (H0 s o))) rfl ?_
    obtain ⟨y335, hy335, h⟩ := bind_eq_some_iff.mp h
    refine zB Ad W (f := fun y335 => (28, [vR 1, vI x1, vI x2, vI x3, vI x4], [], (H0x22 s o y335))) rfl hy335 ?_
    refine zS Ad W 4 (st' := (34, [vR 1, vI x1, vI x2, vI x3, vI x4], [.int x3, .int x1, .ref 5], (H0x22 s o y335))) rfl ?_
    obtain ⟨y336, hy336, h⟩ := bind_eq_some_iff.mp h
    refine zB Ad W (f := fun y336 => (35, [vR 1, vI x1, vI x2, vI x3, vI x4], [], (H0x23 s o y335 y336))) rfl hy336 ?_
    refine zS Ad W 4 (st' := (42, [vR 1, vI x1, vI x2, vI x3, vI x4], [.int x4, .int x1, .ref 6], (H0x23 s o y335 y336))) rfl ?_
    obtain ⟨y337, hy337, h⟩ := bind_eq_some_iff.mp h
    refine zB Ad W (f := fun y337 => (43, [vR 1, vI x1, vI x2, vI x3, vI x4], [], (H0x24 s o y335 y336 y337))) rfl hy337 ?_
    refine zS Ad W 1 (st' := (44, [vR 1, vI x1, vI x2, vI x3, vI x4], [.int (1:Int32)], (H0x24 s o y335 y336 y337))) rfl ?_
    have E338 : ((H0x24 s o y335 y336 y337) : QHeap) = (H0 s (s_fCk (s_fRk (s_fMode o y335) y336) y337)) := by simp only [fs, H0, H0v, H0x24, s_fMode, s_fRk, s_fCk]
    rw [E338]
    obtain rfl := Option.some.inj h
    exact QTri.retZ rfl rfl
def B0_42 (s : List Int32) (v : Int64 × Int32 × Int32 × Int32 × Int32 × Int32 × Int32 × Int32 × Int32 × Int32 × Int32 × Ob) : Option (((Int32 × QHeap)) ⊕ (Int64 × Int32 × Int32 × Int32 × Int32 × Int32 × Int32 × Int32 × Int32 × Int32 × Int32 × Ob)) :=
  (if (v.2.2.2.2.2.2.2.2.2.2.1 + (3 : Int32)) < (s.length.toInt32) then (aget s v.2.2.2.2.2.2.2.2.2.2.1).bind fun y16 => (aget s (v.2.2.2.2.2.2.2.2.2.2.1 + (1 : Int32))).bind fun y17 => (aget s (v.2.2.2.2.2.2.2.2.2.2.1 + (2 : Int32))).bind fun y19 => (aget s (v.2.2.2.2.2.2.2.2.2.2.1 + (3 : Int32))).bind fun y21 => (aget s (v.2.2.2.2.2.2.2.2.2.2.1 + (3 : Int32))).bind fun y22 => (if (y16 &&& (3 : Int32)) = (0 : Int32) then (F21 v.2.2.2.2.2.2.2.2.2.2.2 ((y17 &&& (2147483647 : Int32)) % (5 : Int32)) ((y19 &&& (2147483647 : Int32)) % (5 : Int32)) (y21 &&& (15 : Int32))).bind fun r100 => (J0_435 s r100.2 (if r100.1 = (0 : Int32) then v.1 else (if (if ((y17 &&& (2147483647 : Int32)) % (5 : Int32)) < (4 : Int32) then (if ((y19 &&& (2147483647 : Int32)) % (5 : Int32)) < (4 : Int32) then (1 : Int32) else (0 : Int32)) else (0 : Int32)) = (0 : Int32) then v.1 else ((v.1 &&& (((15 : Int64) <<< ((((((y17 &&& (2147483647 : Int32)) % (5 : Int32)) * (4 : Int32)) + ((y19 &&& (2147483647 : Int32)) % (5 : Int32))) * (4 : Int32)).toInt64 &&& 63)) ^^^ (-1 : Int64))) ||| (((y21 &&& (15 : Int32)).toInt64) <<< ((((((y17 &&& (2147483647 : Int32)) % (5 : Int32)) * (4 : Int32)) + ((y19 &&& (2147483647 : Int32)) % (5 : Int32))) * (4 : Int32)).toInt64 &&& 63))))) (if r100.1 = (0 : Int32) then v.2.1 else (if (if ((y17 &&& (2147483647 : Int32)) % (5 : Int32)) < (4 : Int32) then (if ((y19 &&& (2147483647 : Int32)) % (5 : Int32)) < (4 : Int32) then (1 : Int32) else (0 : Int32)) else (0 : Int32)) = (0 : Int32) then v.2.1 else (v.2.1 ||| ((1 : Int32) <<< (((y17 &&& (2147483647 : Int32)) % (5 : Int32)) &&& 31))))) v.2.2.1 v.2.2.2.1 v.2.2.2.2.1 v.2.2.2.2.2.1 v.2.2.2.2.2.2.1 v.2.2.2.2.2.2.2.1 v.2.2.2.2.2.2.2.2.1 v.2.2.2.2.2.2.2.2.2.1 v.2.2.2.2.2.2.2.2.2.2.1 (y16 &&& (3 : Int32)) r100.1 (if ((y17 &&& (2147483647 : Int32)) % (5 : Int32)) < (4 : Int32) then (if ((y19 &&& (2147483647 : Int32)) % (5 : Int32)) < (4 : Int32) then (1 : Int32) else (0 : Int32)) else (0 : Int32))) else (if (y16 &&& (3 : Int32)) = (1 : Int32) then (F20 v.2.2.2.2.2.2.2.2.2.2.2 ((y17 &&& (2147483647 : Int32)) % (5 : Int32))).bind fun r291 => (J0_435 s r291.2 (if r291.1 = (0 : Int32) then v.1 else (if (if ((y17 &&& (2147483647 : Int32)) % (5 : Int32)) < (4 : Int32) then (if ((v.2.1 >>> (((y17 &&& (2147483647 : Int32)) % (5 : Int32)) &&& 31)) &&& (1 : Int32)) = (1 : Int32) then (1 : Int32) else (0 : Int32)) else (0 : Int32)) = (0 : Int32) then v.1 else (v.1 &&& (((65535 : Int64) <<< ((((y17 &&& (2147483647 : Int32)) % (5 : Int32)) * (16 : Int32)).toInt64 &&& 63)) ^^^ (-1 : Int64))))) (if r291.1 = (0 : Int32) then v.2.1 else (if (if ((y17 &&& (2147483647 : Int32)) % (5 : Int32)) < (4 : Int32) then (if ((v.2.1 >>> (((y17 &&& (2147483647 : Int32)) % (5 : Int32)) &&& 31)) &&& (1 : Int32)) = (1 : Int32) then (1 : Int32) else (0 : Int32)) else (0 : Int32)) = (0 : Int32) then v.2.1 else (v.2.1 &&& (((1 : Int32) <<< (((y17 &&& (2147483647 : Int32)) % (5 : Int32)) &&& 31)) ^^^ (-1 : Int32))))) v.2.2.1 v.2.2.2.1 v.2.2.2.2.1 v.2.2.2.2.2.1 v.2.2.2.2.2.2.1 v.2.2.2.2.2.2.2.1 v.2.2.2.2.2.2.2.2.1 v.2.2.2.2.2.2.2.2.2.1 v.2.2.2.2.2.2.2.2.2.2.1 (y16 &&& (3 : Int32)) r291.1 (if ((y17 &&& (2147483647 : Int32)) % (5 : Int32)) < (4 : Int32) then (if ((v.2.1 >>> (((y17 &&& (2147483647 : Int32)) % (5 : Int32)) &&& 31)) &&& (1 : Int32)) = (1 : Int32) then (1 : Int32) else (0 : Int32)) else (0 : Int32))) else (if (y16 &&& (3 : Int32)) = (2 : Int32) then (F26 v.2.2.2.2.2.2.2.2.2.2.2 ((y17 &&& (2147483647 : Int32)) % (5 : Int32)) ((y19 &&& (2147483647 : Int32)) % (5 : Int32)) ((y21 &&& (15 : Int32)) % (5 : Int32)) ((XT.ushr y22 (4 : Int32)) % (5 : Int32))).bind fun r317 => (if ((y17 &&& (2147483647 : Int32)) % (5 : Int32)) < (4 : Int32) then (if ((y19 &&& (2147483647 : Int32)) % (5 : Int32)) < (4 : Int32) then (if r317.1 = (0 : Int32) then (J0_435 s r317.2 v.1 v.2.1 v.2.2.1 v.2.2.2.1 v.2.2.2.2.1 v.2.2.2.2.2.1 v.2.2.2.2.2.2.1 v.2.2.2.2.2.2.2.1 v.2.2.2.2.2.2.2.2.1 v.2.2.2.2.2.2.2.2.2.1 v.2.2.2.2.2.2.2.2.2.2.1 (y16 &&& (3 : Int32)) r317.1 (if ((y21 &&& (15 : Int32)) % (5 : Int32)) < (4 : Int32) then (if ((XT.ushr y22 (4 : Int32)) % (5 : Int32)) < (4 : Int32) then (1 : Int32) else (0 : Int32)) else (0 : Int32))) else (if (if ((y21 &&& (15 : Int32)) % (5 : Int32)) < (4 : Int32) then (if ((XT.ushr y22 (4 : Int32)) % (5 : Int32)) < (4 : Int32) then (1 : Int32) else (0 : Int32)) else (0 : Int32)) = (0 : Int32) then (J0_435 s r317.2 v.1 v.2.1 v.2.2.1 v.2.2.2.1 v.2.2.2.2.1 v.2.2.2.2.2.1 v.2.2.2.2.2.2.1 v.2.2.2.2.2.2.2.1 v.2.2.2.2.2.2.2.2.1 v.2.2.2.2.2.2.2.2.2.1 v.2.2.2.2.2.2.2.2.2.2.1 (y16 &&& (3 : Int32)) r317.1 (if ((y21 &&& (15 : Int32)) % (5 : Int32)) < (4 : Int32) then (if ((XT.ushr y22 (4 : Int32)) % (5 : Int32)) < (4 : Int32) then (1 : Int32) else (0 : Int32)) else (0 : Int32))) else (J0_435 s r317.2 v.1 v.2.1 ((y17 &&& (2147483647 : Int32)) % (5 : Int32)) ((y19 &&& (2147483647 : Int32)) % (5 : Int32)) ((y21 &&& (15 : Int32)) % (5 : Int32)) ((XT.ushr y22 (4 : Int32)) % (5 : Int32)) v.2.2.2.2.2.2.1 v.2.2.2.2.2.2.2.1 v.2.2.2.2.2.2.2.2.1 v.2.2.2.2.2.2.2.2.2.1 v.2.2.2.2.2.2.2.2.2.2.1 (y16 &&& (3 : Int32)) r317.1 (if ((y21 &&& (15 : Int32)) % (5 : Int32)) < (4 : Int32) then (if ((XT.ushr y22 (4 : Int32)) % (5 : Int32)) < (4 : Int32) then (1 : Int32) else (0 : Int32)) else (0 : Int32))))) else (J0_327 s r317.2 v.1 v.2.1 v.2.2.1 v.2.2.2.1 v.2.2.2.2.1 v.2.2.2.2.2.1 v.2.2.2.2.2.2.1 v.2.2.2.2.2.2.2.1 v.2.2.2.2.2.2.2.2.1 v.2.2.2.2.2.2.2.2.2.1 v.2.2.2.2.2.2.2.2.2.2.1 (y16 &&& (3 : Int32)) ((y17 &&& (2147483647 : Int32)) % (5 : Int32)) ((y19 &&& (2147483647 : Int32)) % (5 : Int32)) (y21 &&& (15 : Int32)) ((XT.ushr y22 (4 : Int32)) % (5 : Int32)) r317.1)) else (J0_327 s r317.2 v.1 v.2.1 v.2.2.1 v.2.2.2.1 v.2.2.2.2.1 v.2.2.2.2.2.1 v.2.2.2.2.2.2.1 v.2.2.2.2.2.2.2.1 v.2.2.2.2.2.2.2.2.1 v.2.2.2.2.2.2.2.2.2.1 v.2.2.2.2.2.2.2.2.2.2.1 (y16 &&& (3 : Int32)) ((y17 &&& (2147483647 : Int32)) % (5 : Int32)) ((y19 &&& (2147483647 : Int32)) % (5 : Int32)) (y21 &&& (15 : Int32)) ((XT.ushr y22 (4 : Int32)) % (5 : Int32)) r317.1)) else (F2 v.2.2.2.2.2.2.2.2.2.2.2 ((y17 &&& (2147483647 : Int32)) % (5 : Int32)) (((y19 &&& (2147483647 : Int32)) % (5 : Int32)) + (((XT.ushr y22 (4 : Int32)) % (5 : Int32)) &&& (1 : Int32))) (y21 &&& (15 : Int32)) ((XT.ushr y22 (4 : Int32)) % (5 : Int32))).bind fun r339 => (J0_435 s r339.2 v.1 v.2.1 v.2.2.1 v.2.2.2.1 v.2.2.2.2.1 v.2.2.2.2.2.1 (if r339.1 = (0 : Int32) then v.2.2.2.2.2.2.1 else (if (if ((y17 &&& (2147483647 : Int32)) % (5 : Int32)) < (4 : Int32) then (if (((y19 &&& (2147483647 : Int32)) % (5 : Int32)) + (((XT.ushr y22 (4 : Int32)) % (5 : Int32)) &&& (1 : Int32))) < (5 : Int32) then (1 : Int32) else (0 : Int32)) else (0 : Int32)) = (0 : Int32) then v.2.2.2.2.2.2.1 else ((v.2.2.2.2.2.2.1 &&& (((7 : Int32) <<< ((((y17 &&& (2147483647 : Int32)) % (5 : Int32)) * (3 : Int32)) &&& 31)) ^^^ (-1 : Int32))) ||| ((((y19 &&& (2147483647 : Int32)) % (5 : Int32)) + (((XT.ushr y22 (4 : Int32)) % (5 : Int32)) &&& (1 : Int32))) <<< ((((y17 &&& (2147483647 : Int32)) % (5 : Int32)) * (3 : Int32)) &&& 31))))) v.2.2.2.2.2.2.2.1 v.2.2.2.2.2.2.2.2.1 v.2.2.2.2.2.2.2.2.2.1 v.2.2.2.2.2.2.2.2.2.2.1 (y16 &&& (3 : Int32)) r339.1 (if ((y17 &&& (2147483647 : Int32)) % (5 : Int32)) < (4 : Int32) then (if (((y19 &&& (2147483647 : Int32)) % (5 : Int32)) + (((XT.ushr y22 (4 : Int32)) % (5 : Int32)) &&& (1 : Int32))) < (5 : Int32) then (1 : Int32) else (0 : Int32)) else (0 : Int32)))))) else some (.inl ((1 : Int32), (H0 s v.2.2.2.2.2.2.2.2.2.2.2))))
theorem tB0_42 (Ad : QAd n0 ad) (W : QW Z a0) (s : List Int32) (v : Int64 × Int32 × Int32 × Int32 × Int32 × Int32 × Int32 × Int32 × Int32 × Int32 × Int32 × Ob) {r : ((Int32 × QHeap)) ⊕ (Int64 × Int32 × Int32 × Int32 × Int32 × Int32 × Int32 × Int32 × Int32 × Int32 × Int32 × Ob)} {u : Option Value} {τ : QHeap} (h : B0_42 s v = some r) (hx0 : ∀ x : Int32 × QHeap, r = .inl x → u = (some (Value.int x.1)) ∧ τ = x.2) (hc : ∀ x : Int64 × Int32 × Int32 × Int32 × Int32 × Int32 × Int32 × Int32 × Int32 × Int32 × Int32 × Ob, r = .inr x → QTri l Z n0 ad 0 (42, [vR 0, vR 1, vL x.1, none, vI x.2.1, vI x.2.2.1, vI x.2.2.2.1, vI x.2.2.2.2.1, vI x.2.2.2.2.2.1, vI x.2.2.2.2.2.2.1, vI x.2.2.2.2.2.2.2.1, vI x.2.2.2.2.2.2.2.2.1, vI x.2.2.2.2.2.2.2.2.2.1, vI x.2.2.2.2.2.2.2.2.2.2.1, none, none, none, none, none, none, none, none, none, none, none, none, none, none, none, none, none, none, none, none, none], [], (H0 s x.2.2.2.2.2.2.2.2.2.2.2)) u τ) : QTri l Z n0 ad 0 (42, [vR 0, vR 1, vL v.1, none, vI v.2.1, vI v.2.2.1, vI v.2.2.2.1, vI v.2.2.2.2.1, vI v.2.2.2.2.2.1, vI v.2.2.2.2.2.2.1, vI v.2.2.2.2.2.2.2.1, vI v.2.2.2.2.2.2.2.2.1, vI v.2.2.2.2.2.2.2.2.2.1, vI v.2.2.2.2.2.2.2.2.2.2.1, none, none, none, none, none, none, none, none, none, none, none, none, none, none, none, none, none, none, none, none, none], [], (H0 s v.2.2.2.2.2.2.2.2.2.2.2)) u τ := by
 unfold B0_42 at h
 refine zS Ad W 5 (st' := (48, [vR 0, vR 1, vL v.1, none, vI v.2.1, vI v.2.2.1, vI v.2.2.2.1, vI v.2.2.2.2.1, vI v.2.2.2.2.2.1, vI v.2.2.2.2.2.2.1, vI v.2.2.2.2.2.2.2.1, vI v.2.2.2.2.2.2.2.2.1, vI v.2.2.2.2.2.2.2.2.2.1, vI v.2.2.2.2.2.2.2.2.2.2.1, none, none, none, none, none, none, none, none, none, none, none, none, none, none, none, none, none, none, none, none, none], [.int (s.length.toInt32), .int (v.2.2.2.2.2.2.2.2.2.2.1 + (3:Int32))], (H0 s v.2.2.2.2.2.2.2.2.2.2.2))) rfl ?_
 rcases qite h with ⟨hc15, h⟩ | ⟨hc15, h⟩
 ·refine zF Ad W (t := 1010) (f := 51) rfl (XT.ii_ge_f hc15) ?_
  refine zS Ad W 2 (st' := (54, [vR 0, vR 1, vL v.1, none, vI v.2.1, vI v.2.2.1, vI v.2.2.2.1, vI v.2.2.2.2.1, vI v.2.2.2.2.2.1, vI v.2.2.2.2.2.2.1, vI v.2.2.2.2.2.2.2.1, vI v.2.2.2.2.2.2.2.2.1, vI v.2.2.2.2.2.2.2.2.2.1, vI v.2.2.2.2.2.2.2.2.2.2.1, none, none, none, none, none, none, none, none, none, none, none, none, none, none, none, none, none, none, none, none, none], [.int v.2.2.2.2.2.2.2.2.2.2.1, .ref 0], (H0 s v.2.2.2.2.2.2.2.2.2.2.2))) rfl ?_
  obtain ⟨y16, hy16, h⟩ := bind_eq_some_iff.mp h
  refine zB Ad W (f := fun y16 => (55, [vR 0, vR 1, vL v.1, none, vI v.2.1, vI v.2.2.1, vI v.2.2.2.1, vI v.2.2.2.2.1, vI v.2.2.2.2.2.1, vI v.2.2.2.2.2.2.1, vI v.2.2.2.2.2.2.2.1, vI v.2.2.2.2.2.2.2.2.1, vI v.2.2.2.2.2.2.2.2.2.1, vI v.2.2.2.2.2.2.2.2.2.2.1, none, none, none, none, none, none, none, none, none, none, none, none, none, none, none, none, none, none, none, none, none], [.int y16], (H0 s v.2.2.2.2.2.2.2.2.2.2.2))) rfl hy16 ?_
  refine zS Ad W 7 (st' := (64, [vR 0, vR 1, vL v.1, none, vI v.2.1, vI v.2.2.1, vI v.2.2.2.1, vI v.2.2.2.2.1, vI v.2.2.2.2.2.1, vI v.2.2.2.2.2.2.1, vI v.2.2.2.2.2.2.2.1, vI v.2.2.2.2.2.2.2.2.1, vI v.2.2.2.2.2.2.2.2.2.1, vI v.2.2.2.2.2.2.2.2.2.2.1, vI (y16 &&& (3:Int32)), none, none, none, none, none, none, none, none, none, none, none, none, none, none, none, none, none, none, none, none], [.int (v.2.2.2.2.2.2.2.2.2.2.1 + (1:Int32)), .ref 0], (H0 s v.2.2.2.2.2.2.2.2.2.2.2))) rfl ?_
  obtain ⟨y17, hy17, h⟩ := bind_eq_some_iff.mp h
  refine zB Ad W (f := fun y17 => (65, [vR 0, vR 1, vL v.1, none, vI v.2.1, vI v.2.2.1, vI v.2.2.2.1, vI v.2.2.2.2.1, vI v.2.2.2.2.2.1, vI v.2.2.2.2.2.2.1, vI v.2.2.2.2.2.2.2.1, vI v.2.2.2.2.2.2.2.2.1, vI v.2.2.2.2.2.2.2.2.2.1, vI v.2.2.2.2.2.2.2.2.2.2.1, vI (y16 &&& (3:Int32)), none, none, none, none, none, none, none, none, none, none, none, none, none, none, none, none, none, none, none, none], [.int y17], (H0 s v.2.2.2.2.2.2.2.2.2.2.2))) rfl hy17 ?_
  refine zS Ad W 9 (st' := (77, [vR 0, vR 1, vL v.1, none, vI v.2.1, vI v.2.2.1, vI v.2.2.2.1, vI v.2.2.2.2.1, vI v.2.2.2.2.2.1, vI v.2.2.2.2.2.2.1, vI v.2.2.2.2.2.2.2.1, vI v.2.2.2.2.2.2.2.2.1, vI v.2.2.2.2.2.2.2.2.2.1, vI v.2.2.2.2.2.2.2.2.2.2.1, vI (y16 &&& (3:Int32)), vI ((y17 &&& (2147483647:Int32)) % (5:Int32)), none, none, none, none, none, none, none, none, none, none, none, none, none, none, none, none, none, none, none], [.int (v.2.2.2.2.2.2.2.2.2.2.1 + (2:Int32)), .ref 0], (H0 s v.2.2.2.2.2.2.2.2.2.2.2))) rfl ?_
  obtain ⟨y19, hy19, h⟩ := bind_eq_some_iff.mp h
  refine zB Ad W (f := fun y19 => (78, [vR 0, vR 1, vL v.1, none, vI v.2.1, vI v.2.2.1, vI v.2.2.2.1, vI v.2.2.2.2.1, vI v.2.2.2.2.2.1, vI v.2.2.2.2.2.2.1, vI v.2.2.2.2.2.2.2.1, vI v.2.2.2.2.2.2.2.2.1, vI v.2.2.2.2.2.2.2.2.2.1, vI v.2.2.2.2.2.2.2.2.2.2.1, vI (y16 &&& (3:Int32)), vI ((y17 &&& (2147483647:Int32)) % (5:Int32)), none, none, none, none, none, none, none, none, none, none, none, none, none, none, none, none, none, none, none], [.int y19], (H0 s v.2.2.2.2.2.2.2.2.2.2.2))) rfl hy19 ?_
  refine zS Ad W 9 (st' := (90, [vR 0, vR 1, vL v.1, none, vI v.2.1, vI v.2.2.1, vI v.2.2.2.1, vI v.2.2.2.2.1, vI v.2.2.2.2.2.1, vI v.2.2.2.2.2.2.1, vI v.2.2.2.2.2.2.2.1, vI v.2.2.2.2.2.2.2.2.1, vI v.2.2.2.2.2.2.2.2.2.1, vI v.2.2.2.2.2.2.2.2.2.2.1, vI (y16 &&& (3:Int32)), vI ((y17 &&& (2147483647:Int32)) % (5:Int32)), vI ((y19 &&& (2147483647:Int32)) % (5:Int32)), none, none, none, none, none, none, none, none, none, none, none, none, none, none, none, none, none, none], [.int (v.2.2.2.2.2.2.2.2.2.2.1 + (3:Int32)), .ref 0], (H0 s v.2.2.2.2.2.2.2.2.2.2.2))) rfl ?_
  obtain ⟨y21, hy21, h⟩ := bind_eq_some_iff.mp h
  refine zB Ad W (f := fun y21 => (91, [vR 0, vR 1, vL v.1, none, vI v.2.1, vI v.2.2.1, vI v.2.2.2.1, vI v.2.2.2.2.1, vI v.2.2.2.2.2.1, vI v.2.2.2.2.2.2.1, vI v.2.2.2.2.2.2.2.1, vI v.2.2.2.2.2.2.2.2.1, vI v.2.2.2.2.2.2.2.2.2.1, vI v.2.2.2.2.2.2.2.2.2.2.1, vI (y16 &&& (3:Int32)), vI ((y17 &&& (2147483647:Int32)) % (5:Int32)), vI ((y19 &&& (2147483647:Int32)) % (5:Int32)), none, none, none, none, none, none, none, none, none, none, none, none, none, none, none, none, none, none], [.int y21], (H0 s v.2.2.2.2.2.2.2.2.2.2.2))) rfl hy21 ?_
  refine zS Ad W 7 (st' := (101, [vR 0, vR 1, vL v.1, none, vI v.2.1, vI v.2.2.1, vI v.2.2.2.1, vI v.2.2.2.2.1, vI v.2.2.2.2.2.1, vI v.2.2.2.2.2.2.1, vI v.2.2.2.2.2.2.2.1, vI v.2.2.2.2.2.2.2.2.1, vI v.2.2.2.2.2.2.2.2.2.1, vI v.2.2.2.2.2.2.2.2.2.2.1, vI (y16 &&& (3:Int32)), vI ((y17 &&& (2147483647:Int32)) % (5:Int32)), vI ((y19 &&& (2147483647:Int32)) % (5:Int32)), vI (y21 &&& (15:Int32)), none, none, none, none, none, none, none, none, none, none, none, none, none, none, none, none, none], [.int (v.2.2.2.2.2.2.2.2.2.2.1 + (3:Int32)), .ref 0], (H0 s v.2.2.2.2.2.2.2.2.2.2.2))) rfl ?_
  obtain ⟨y22, hy22, h⟩ := bind_eq_some_iff.mp h
  refine zB Ad W (f := fun y22 => (102, [vR 0, vR 1, vL v.1, none, vI v.2.1, vI v.2.2.1, vI v.2.2.2.1, vI v.2.2.2.2.1, vI v.2.2.2.2.2.1, vI v.2.2.2.2.2.2.1, vI v.2.2.2.2.2.2.2.1, vI v.2.2.2.2.2.2.2.2.1, vI v.2.2.2.2.2.2.2.2.2.1, vI v.2.2.2.2.2.2.2.2.2.2.1, vI (y16 &&& (3:Int32)), vI ((y17 &&& (2147483647:Int32)) % (5:Int32)), vI ((y19 &&& (2147483647:Int32)) % (5:Int32)), vI (y21 &&& (15:Int32)), none, none, none, none, none, none, none, none, none, none, none, none, none, none, none, none, none], [.int y22], (H0 s v.2.2.2.2.2.2.2.2.2.2.2))) rfl hy22 ?_
  refine zS Ad W 6 (st' := (110, [vR 0, vR 1, vL v.1, none, vI v.2.1, vI v.2.2.1, vI v.2.2.2.1, vI v.2.2.2.2.1, vI v.2.2.2.2.2.1, vI v.2.2.2.2.2.2.1, vI v.2.2.2.2.2.2.2.1, vI v.2.2.2.2.2.2.2.2.1, vI v.2.2.2.2.2.2.2.2.2.1, vI v.2.2.2.2.2.2.2.2.2.2.1, vI (y16 &&& (3:Int32)), vI ((y17 &&& (2147483647:Int32)) % (5:Int32)), vI ((y19 &&& (2147483647:Int32)) % (5:Int32)), vI (y21 &&& (15:Int32)), vI ((XT.ushr y22 (4:Int32)) % (5:Int32)), none, none, none, none, none, none, none, none, none, none, none, none, none, none, none, none], [.int (y16 &&& (3:Int32))], (H0 s v.2.2.2.2.2.2.2.2.2.2.2))) rfl ?_
  rcases qite h with ⟨hc24, h⟩ | ⟨hc24, h⟩
  ·refine zF Ad W (t := 197) (f := 113) rfl (XT.i0_ne_f hc24) ?_
   refine zS Ad W 4 (st' := (120, [vR 0, vR 1, vL v.1, none, vI v.2.1, vI v.2.2.1, vI v.2.2.2.1, vI v.2.2.2.2.1, vI v.2.2.2.2.2.1, vI v.2.2.2.2.2.2.1, vI v.2.2.2.2.2.2.2.1, vI v.2.2.2.2.2.2.2.2.1, vI v.2.2.2.2.2.2.2.2.2.1, vI v.2.2.2.2.2.2.2.2.2.2.1, vI (y16 &&& (3:Int32)), vI ((y17 &&& (2147483647:Int32)) % (5:Int32)), vI ((y19 &&& (2147483647:Int32)) % (5:Int32)), vI (y21 &&& (15:Int32)), vI ((XT.ushr y22 (4:Int32)) % (5:Int32)), none, none, none, none, none, none, none, none, none, none, none, none, none, none, none, none], [.int (y21 &&& (15:Int32)), .int ((y19 &&& (2147483647:Int32)) % (5:Int32)), .int ((y17 &&& (2147483647:Int32)) % (5:Int32)), .ref 1], (H0 s v.2.2.2.2.2.2.2.2.2.2.2))) rfl ?_
   obtain ⟨r100, hr100, h⟩ := bind_eq_some_iff.mp h
   refine QTri.callV W (a := 1) (as := [.int ((y17 &&& (2147483647:Int32)) % (5:Int32)), .int ((y19 &&& (2147483647:Int32)) % (5:Int32)), .int (y21 &&& (15:Int32))]) (rest := []) (w := (some (.int r100.1))) (σ₁ := (H0 s r100.2)) rfl rfl rfl rfl rfl rfl rfl rfl (tF21 Ad W s v.2.2.2.2.2.2.2.2.2.2.2 ((y17 &&& (2147483647:Int32)) % (5:Int32)) ((y19 &&& (2147483647:Int32)) % (5:Int32)) (y21 &&& (15:Int32)) hr100) ?_
   refine zS Ad W 3 (st' := (128, [vR 0, vR 1, vL v.1, none, vI v.2.1, vI v.2.2.1, vI v.2.2.2.1, vI v.2.2.2.2.1, vI v.2.2.2.2.2.1, vI v.2.2.2.2.2.2.1, vI v.2.2.2.2.2.2.2.1, vI v.2.2.2.2.2.2.2.2.1, vI v.2.2.2.2.2.2.2.2.2.1, vI v.2.2.2.2.2.2.2.2.2.2.1, vI (y16 &&& (3:Int32)), vI ((y17 &&& (2147483647:Int32)) % (5:Int32)), vI ((y19 &&& (2147483647:Int32)) % (5:Int32)), vI (y21 &&& (15:Int32)), vI ((XT.ushr y22 (4:Int32)) % (5:Int32)), vI r100.1, none, none, none, none, none, none, none, none, none, none, none, none, none, none, none], [.int (4:Int32), .int ((y17 &&& (2147483647:Int32)) % (5:Int32))], (H0 s r100.2))) rfl ?_
   have K102 : ∀ z101 : Int32, z101 = (if ((y17 &&& (2147483647:Int32)) % (5:Int32)) < (4:Int32) then (if ((y19 &&& (2147483647:Int32)) % (5:Int32)) < (4:Int32) then (1:Int32) else (0:Int32)) else (0:Int32)) → QTri l Z n0 ad 0 (142, [vR 0, vR 1, vL v.1, none, vI v.2.1, vI v.2.2.1, vI v.2.2.2.1, vI v.2.2.2.2.1, vI v.2.2.2.2.2.1, vI v.2.2.2.2.2.2.1, vI v.2.2.2.2.2.2.2.1, vI v.2.2.2.2.2.2.2.2.1, vI v.2.2.2.2.2.2.2.2.2.1, vI v.2.2.2.2.2.2.2.2.2.2.1, vI (y16 &&& (3:Int32)), vI ((y17 &&& (2147483647:Int32)) % (5:Int32)), vI ((y19 &&& (2147483647:Int32)) % (5:Int32)), vI (y21 &&& (15:Int32)), none, vI r100.1, none, none, none, none, none, none, none, none, none, none, none, none, none, none, none], [.int z101], (H0 s r100.2)) u τ := by
    intro z101 ez101
    subst ez101
    refine zS Ad W 2 (st' := (146, [vR 0, vR 1, vL v.1, none, vI v.2.1, vI v.2.2.1, vI v.2.2.2.1, vI v.2.2.2.2.1, vI v.2.2.2.2.2.1, vI v.2.2.2.2.2.2.1, vI v.2.2.2.2.2.2.2.1, vI v.2.2.2.2.2.2.2.2.1, vI v.2.2.2.2.2.2.2.2.2.1, vI v.2.2.2.2.2.2.2.2.2.2.1, vI (y16 &&& (3:Int32)), vI ((y17 &&& (2147483647:Int32)) % (5:Int32)), vI ((y19 &&& (2147483647:Int32)) % (5:Int32)), vI (y21 &&& (15:Int32)), none, vI r100.1, vI (if ((y17 &&& (2147483647:Int32)) % (5:Int32)) < (4:Int32) then (if ((y19 &&& (2147483647:Int32)) % (5:Int32)) < (4:Int32) then (1:Int32) else (0:Int32)) else (0:Int32)), none, none, none, none, none, none, none, none, none, none, none, none, none, none], [.int r100.1], (H0 s r100.2))) rfl ?_
    have K107 : ∀ z105 : Int64, z105 = (if r100.1 = (0:Int32) then v.1 else (if (if ((y17 &&& (2147483647:Int32)) % (5:Int32)) < (4:Int32) then (if ((y19 &&& (2147483647:Int32)) % (5:Int32)) < (4:Int32) then (1:Int32) else (0:Int32)) else (0:Int32)) = (0:Int32) then v.1 else ((v.1 &&& (((15 : Int64) <<< ((((((y17 &&& (2147483647:Int32)) % (5:Int32)) * (4:Int32)) + ((y19 &&& (2147483647:Int32)) % (5:Int32))) * (4:Int32)).toInt64 &&& 63)) ^^^ (-1 : Int64))) ||| (((y21 &&& (15:Int32)).toInt64) <<< ((((((y17 &&& (2147483647:Int32)) % (5:Int32)) * (4:Int32)) + ((y19 &&& (2147483647:Int32)) % (5:Int32))) * (4:Int32)).toInt64 &&& 63))))) → ∀ z106 : Int32, z106 = (if r100.1 = (0:Int32) then v.2.1 else (if (if ((y17 &&& (2147483647:Int32)) % (5:Int32)) < (4:Int32) then (if ((y19 &&& (2147483647:Int32)) % (5:Int32)) < (4:Int32) then (1:Int32) else (0:Int32)) else (0:Int32)) = (0:Int32) then v.2.1 else (v.2.1 ||| ((1:Int32) <<< (((y17 &&& (2147483647:Int32)) % (5:Int32)) &&& 31))))) → QTri l Z n0 ad 0 (435, [vR 0, vR 1, vL z105, none, vI z106, vI v.2.2.1, vI v.2.2.2.1, vI v.2.2.2.2.1, vI v.2.2.2.2.2.1, vI v.2.2.2.2.2.2.1, vI v.2.2.2.2.2.2.2.1, vI v.2.2.2.2.2.2.2.2.1, vI v.2.2.2.2.2.2.2.2.2.1, vI v.2.2.2.2.2.2.2.2.2.2.1, vI (y16 &&& (3:Int32)), none, none, none, none, vI r100.1, vI (if ((y17 &&& (2147483647:Int32)) % (5:Int32)) < (4:Int32) then (if ((y19 &&& (2147483647:Int32)) % (5:Int32)) < (4:Int32) then (1:Int32) else (0:Int32)) else (0:Int32)), none, none, none, none, none, none, none, none, none, none, none, none, none, none], [], (H0 s r100.2)) u τ := by
     intro z105 ez105
     intro z106 ez106
     subst ez105
     subst ez106
     exact zM [tt,tt,tt,ff,tt,tt,tt,tt,tt,tt,tt,tt,tt,tt,tt,ff,ff,ff,ff,tt,tt,ff,ff,ff,ff,ff,ff,ff,ff,ff,ff,ff,ff,ff,ff] (tJ0_435 Ad W s r100.2 (if r100.1 = (0:Int32) then v.1 else (if (if ((y17 &&& (2147483647:Int32)) % (5:Int32)) < (4:Int32) then (if ((y19 &&& (2147483647:Int32)) % (5:Int32)) < (4:Int32) then (1:Int32) else (0:Int32)) else (0:Int32)) = (0:Int32) then v.1 else ((v.1 &&& (((15 : Int64) <<< ((((((y17 &&& (2147483647:Int32)) % (5:Int32)) * (4:Int32)) + ((y19 &&& (2147483647:Int32)) % (5:Int32))) * (4:Int32)).toInt64 &&& 63)) ^^^ (-1 : Int64))) ||| (((y21 &&& (15:Int32)).toInt64) <<< ((((((y17 &&& (2147483647:Int32)) % (5:Int32)) * (4:Int32)) + ((y19 &&& (2147483647:Int32)) % (5:Int32))) * (4:Int32)).toInt64 &&& 63))))) (if r100.1 = (0:Int32) then v.2.1 else (if (if ((y17 &&& (2147483647:Int32)) % (5:Int32)) < (4:Int32) then (if ((y19 &&& (2147483647:Int32)) % (5:Int32)) < (4:Int32) then (1:Int32) else (0:Int32)) else (0:Int32)) = (0:Int32) then v.2.1 else (v.2.1 ||| ((1:Int32) <<< (((y17 &&& (2147483647:Int32)) % (5:Int32)) &&& 31))))) v.2.2.1 v.2.2.2.1 v.2.2.2.2.1 v.2.2.2.2.2.1 v.2.2.2.2.2.2.1 v.2.2.2.2.2.2.2.1 v.2.2.2.2.2.2.2.2.1 v.2.2.2.2.2.2.2.2.2.1 v.2.2.2.2.2.2.2.2.2.2.1 (y16 &&& (3:Int32)) r100.1 (if ((y17 &&& (2147483647:Int32)) % (5:Int32)) < (4:Int32) then (if ((y19 &&& (2147483647:Int32)) % (5:Int32)) < (4:Int32) then (1:Int32) else (0:Int32)) else (0:Int32)) h hx0 hc)
    rcases em (r100.1 = (0:Int32)) with hc108 | hc108
    ·refine zT Ad W (t := 435) (f := 149) rfl (XT.i0_eq_t hc108) ?_
     exact zM [tt,tt,tt,ff,tt,tt,tt,tt,tt,tt,tt,tt,tt,tt,tt,ff,ff,ff,ff,tt,tt,ff,ff,ff,ff,ff,ff,ff,ff,ff,ff,ff,ff,ff,ff] (K107 _ (if_pos hc108).symm _ (if_pos hc108).symm)
    ·refine zF Ad W (t := 435) (f := 149) rfl (XT.i0_eq_f hc108) ?_
     refine zS Ad W 1 (st' := (151, [vR 0, vR 1, vL v.1, none, vI v.2.1, vI v.2.2.1, vI v.2.2.2.1, vI v.2.2.2.2.1, vI v.2.2.2.2.2.1, vI v.2.2.2.2.2.2.1, vI v.2.2.2.2.2.2.2.1, vI v.2.2.2.2.2.2.2.2.1, vI v.2.2.2.2.2.2.2.2.2.1, vI v.2.2.2.2.2.2.2.2.2.2.1, vI (y16 &&& (3:Int32)), vI ((y17 &&& (2147483647:Int32)) % (5:Int32)), vI ((y19 &&& (2147483647:Int32)) % (5:Int32)), vI (y21 &&& (15:Int32)), none, vI r100.1, vI (if ((y17 &&& (2147483647:Int32)) % (5:Int32)) < (4:Int32) then (if ((y19 &&& (2147483647:Int32)) % (5:Int32)) < (4:Int32) then (1:Int32) else (0:Int32)) else (0:Int32)), none, none, none, none, none, none, none, none, none, none, none, none, none, none], [.int (if ((y17 &&& (2147483647:Int32)) % (5:Int32)) < (4:Int32) then (if ((y19 &&& (2147483647:Int32)) % (5:Int32)) < (4:Int32) then (1:Int32) else (0:Int32)) else (0:Int32))], (H0 s r100.2))) rfl ?_
     rcases em ((if ((y17 &&& (2147483647:Int32)) % (5:Int32)) < (4:Int32) then (if ((y19 &&& (2147483647:Int32)) % (5:Int32)) < (4:Int32) then (1:Int32) else (0:Int32)) else (0:Int32)) = (0:Int32)) with hc109 | hc109
     ·refine zT Ad W (t := 435) (f := 154) rfl (XT.i0_eq_t hc109) ?_
      exact zM [tt,tt,tt,ff,tt,tt,tt,tt,tt,tt,tt,tt,tt,tt,tt,ff,ff,ff,ff,tt,tt,ff,ff,ff,ff,ff,ff,ff,ff,ff,ff,ff,ff,ff,ff] (K107 _ ((if_neg hc108).trans (if_pos hc109)).symm _ ((if_neg hc108).trans (if_pos hc109)).symm)
     ·refine zF Ad W (t := 435) (f := 154) rfl (XT.i0_eq_f hc109) ?_
      refine zS Ad W 10 (st' := (169, [vR 0, vR 1, vL v.1, none, vI v.2.1, vI v.2.2.1, vI v.2.2.2.1, vI v.2.2.2.2.1, vI v.2.2.2.2.2.1, vI v.2.2.2.2.2.2.1, vI v.2.2.2.2.2.2.2.1, vI v.2.2.2.2.2.2.2.2.1, vI v.2.2.2.2.2.2.2.2.2.1, vI v.2.2.2.2.2.2.2.2.2.2.1, vI (y16 &&& (3:Int32)), vI ((y17 &&& (2147483647:Int32)) % (5:Int32)), vI ((y19 &&& (2147483647:Int32)) % (5:Int32)), vI (y21 &&& (15:Int32)), none, vI r100.1, vI (if ((y17 &&& (2147483647:Int32)) % (5:Int32)) < (4:Int32) then (if ((y19 &&& (2147483647:Int32)) % (5:Int32)) < (4:Int32) then (1:Int32) else (0:Int32)) else (0:Int32)), vI (((((y17 &&& (2147483647:Int32)) % (5:Int32)) * (4:Int32)) + ((y19 &&& (2147483647:Int32)) % (5:Int32))) * (4:Int32)), none, none, none, none, none, none, none, none, none, none, none, none, none], [.long (15 : Int64), .long v.1], (H0 s r100.2))) rfl ?_
      refine zS Ad W 10 (st' := (184, [vR 0, vR 1, vL v.1, none, vI v.2.1, vI v.2.2.1, vI v.2.2.2.1, vI v.2.2.2.2.1, vI v.2.2.2.2.2.1, vI v.2.2.2.2.2.2.1, vI v.2.2.2.2.2.2.2.1, vI v.2.2.2.2.2.2.2.2.1, vI v.2.2.2.2.2.2.2.2.2.1, vI v.2.2.2.2.2.2.2.2.2.2.1, vI (y16 &&& (3:Int32)), vI ((y17 &&& (2147483647:Int32)) % (5:Int32)), vI ((y19 &&& (2147483647:Int32)) % (5:Int32)), vI (y21 &&& (15:Int32)), none, vI r100.1, vI (if ((y17 &&& (2147483647:Int32)) % (5:Int32)) < (4:Int32) then (if ((y19 &&& (2147483647:Int32)) % (5:Int32)) < (4:Int32) then (1:Int32) else (0:Int32)) else (0:Int32)), vI (((((y17 &&& (2147483647:Int32)) % (5:Int32)) * (4:Int32)) + ((y19 &&& (2147483647:Int32)) % (5:Int32))) * (4:Int32)), none, none, none, none, none, none, none, none, none, none, none, none, none], [.long ((v.1 &&& (((15 : Int64) <<< ((((((y17 &&& (2147483647:Int32)) % (5:Int32)) * (4:Int32)) + ((y19 &&& (2147483647:Int32)) % (5:Int32))) * (4:Int32)).toInt64 &&& 63)) ^^^ (-1 : Int64))) ||| (((y21 &&& (15:Int32)).toInt64) <<< ((((((y17 &&& (2147483647:Int32)) % (5:Int32)) * (4:Int32)) + ((y19 &&& (2147483647:Int32)) % (5:Int32))) * (4:Int32)).toInt64 &&& 63)))], (H0 s r100.2))) rfl ?_
      refine zS Ad W 7 (st' := (194, [vR 0, vR 1, vL ((v.1 &&& (((15 : Int64) <<< ((((((y17 &&& (2147483647:Int32)) % (5:Int32)) * (4:Int32)) + ((y19 &&& (2147483647:Int32)) % (5:Int32))) * (4:Int32)).toInt64 &&& 63)) ^^^ (-1 : Int64))) ||| (((y21 &&& (15:Int32)).toInt64) <<< ((((((y17 &&& (2147483647:Int32)) % (5:Int32)) * (4:Int32)) + ((y19 &&& (2147483647:Int32)) % (5:Int32))) * (4:Int32)).toInt64 &&& 63))), none, vI (v.2.1 ||| ((1:Int32) <<< (((y17 &&& (2147483647:Int32)) % (5:Int32)) &&& 31))), vI v.2.2.1, vI v.2.2.2.1, vI v.2.2.2.2.1, vI v.2.2.2.2.2.1, vI v.2.2.2.2.2.2.1, vI v.2.2.2.2.2.2.2.1, vI v.2.2.2.2.2.2.2.2.1, vI v.2.2.2.2.2.2.2.2.2.1, vI v.2.2.2.2.2.2.2.2.2.2.1, vI (y16 &&& (3:Int32)), vI ((y17 &&& (2147483647:Int32)) % (5:Int32)), vI ((y19 &&& (2147483647:Int32)) % (5:Int32)), vI (y21 &&& (15:Int32)), none, vI r100.1, vI (if ((y17 &&& (2147483647:Int32)) % (5:Int32)) < (4:Int32) then (if ((y19 &&& (2147483647:Int32)) % (5:Int32)) < (4:Int32) then (1:Int32) else (0:Int32)) else (0:Int32)), vI (((((y17 &&& (2147483647:Int32)) % (5:Int32)) * (4:Int32)) + ((y19 &&& (2147483647:Int32)) % (5:Int32))) * (4:Int32)), none, none, none, none, none, none, none, none, none, none, none, none, none], [], (H0 s r100.2))) rfl ?_
      refine zS Ad W 1 (st' := (435, [vR 0, vR 1, vL ((v.1 &&& (((15 : Int64) <<< ((((((y17 &&& (2147483647:Int32)) % (5:Int32)) * (4:Int32)) + ((y19 &&& (2147483647:Int32)) % (5:Int32))) * (4:Int32)).toInt64 &&& 63)) ^^^ (-1 : Int64))) ||| (((y21 &&& (15:Int32)).toInt64) <<< ((((((y17 &&& (2147483647:Int32)) % (5:Int32)) * (4:Int32)) + ((y19 &&& (2147483647:Int32)) % (5:Int32))) * (4:Int32)).toInt64 &&& 63))), none, vI (v.2.1 ||| ((1:Int32) <<< (((y17 &&& (2147483647:Int32)) % (5:Int32)) &&& 31))), vI v.2.2.1, vI v.2.2.2.1, vI v.2.2.2.2.1, vI v.2.2.2.2.2.1, vI v.2.2.2.2.2.2.1, vI v.2.2.2.2.2.2.2.1, vI v.2.2.2.2.2.2.2.2.1, vI v.2.2.2.2.2.2.2.2.2.1, vI v.2.2.2.2.2.2.2.2.2.2.1, vI (y16 &&& (3:Int32)), vI ((y17 &&& (2147483647:Int32)) % (5:Int32)), vI ((y19 &&& (2147483647:Int32)) % (5:Int32)), vI (y21 &&& (15:Int32)), none, vI r100.1, vI (if ((y17 &&& (2147483647:Int32)) % (5:Int32)) < (4:Int32) then (if ((y19 &&& (2147483647:Int32)) % (5:Int32)) < (4:Int32) then (1:Int32) else (0:Int32)) else (0:Int32)), vI (((((y17 &&& (2147483647:Int32)) % (5:Int32)) * (4:Int32)) + ((y19 &&& (2147483647:Int32)) % (5:Int32))) * (4:Int32)), none, none, none, none, none, none, none, none, none, none, none, none, none], [], (H0 s r100.2))) rfl ?_
      exact zM [tt,tt,tt,ff,tt,tt,tt,tt,tt,tt,tt,tt,tt,tt,tt,ff,ff,ff,ff,tt,tt,ff,ff,ff,ff,ff,ff,ff,ff,ff,ff,ff,ff,ff,ff] (K107 _ ((if_neg hc108).trans (if_neg hc109)).symm _ ((if_neg hc108).trans (if_neg hc109)).symm)
   rcases em (((y17 &&& (2147483647:Int32)) % (5:Int32)) < (4:Int32)) with hc103 | hc103
   ·refine zF Ad W (t := 141) (f := 131) rfl (XT.ii_ge_f hc103) ?_
    refine zS Ad W 2 (st' := (134, [vR 0, vR 1, vL v.1, none, vI v.2.1, vI v.2.2.1, vI v.2.2.2.1, vI v.2.2.2.2.1, vI v.2.2.2.2.2.1, vI v.2.2.2.2.2.2.1, vI v.2.2.2.2.2.2.2.1, vI v.2.2.2.2.2.2.2.2.1, vI v.2.2.2.2.2.2.2.2.2.1, vI v.2.2.2.2.2.2.2.2.2.2.1, vI (y16 &&& (3:Int32)), vI ((y17 &&& (2147483647:Int32)) % (5:Int32)), vI ((y19 &&& (2147483647:Int32)) % (5:Int32)), vI (y21 &&& (15:Int32)), vI ((XT.ushr y22 (4:Int32)) % (5:Int32)), vI r100.1, none, none, none, none, none, none, none, none, none, none, none, none, none, none, none], [.int (4:Int32), .int ((y19 &&& (2147483647:Int32)) % (5:Int32))], (H0 s r100.2))) rfl ?_
    rcases em (((y19 &&& (2147483647:Int32)) % (5:Int32)) < (4:Int32)) with hc104 | hc104
    ·refine zF Ad W (t := 141) (f := 137) rfl (XT.ii_ge_f hc104) ?_
     refine zS Ad W 2 (st' := (142, [vR 0, vR 1, vL v.1, none, vI v.2.1, vI v.2.2.1, vI v.2.2.2.1, vI v.2.2.2.2.1, vI v.2.2.2.2.2.1, vI v.2.2.2.2.2.2.1, vI v.2.2.2.2.2.2.2.1, vI v.2.2.2.2.2.2.2.2.1, vI v.2.2.2.2.2.2.2.2.2.1, vI v.2.2.2.2.2.2.2.2.2.2.1, vI (y16 &&& (3:Int32)), vI ((y17 &&& (2147483647:Int32)) % (5:Int32)), vI ((y19 &&& (2147483647:Int32)) % (5:Int32)), vI (y21 &&& (15:Int32)), vI ((XT.ushr y22 (4:Int32)) % (5:Int32)), vI r100.1, none, none, none, none, none, none, none, none, none, none, none, none, none, none, none], [.int (1:Int32)], (H0 s r100.2))) rfl ?_
     exact zM [tt,tt,tt,ff,tt,tt,tt,tt,tt,tt,tt,tt,tt,tt,tt,tt,tt,tt,ff,tt,ff,ff,ff,ff,ff,ff,ff,ff,ff,ff,ff,ff,ff,ff,ff] (K102 _ ((if_pos hc103).trans (if_pos hc104)).symm)
    ·refine zT Ad W (t := 141) (f := 137) rfl (XT.ii_ge_t hc104) ?_
     refine zS Ad W 1 (st' := (142, [vR 0, vR 1, vL v.1, none, vI v.2.1, vI v.2.2.1, vI v.2.2.2.1, vI v.2.2.2.2.1, vI v.2.2.2.2.2.1, vI v.2.2.2.2.2.2.1, vI v.2.2.2.2.2.2.2.1, vI v.2.2.2.2.2.2.2.2.1, vI v.2.2.2.2.2.2.2.2.2.1, vI v.2.2.2.2.2.2.2.2.2.2.1, vI (y16 &&& (3:Int32)), vI ((y17 &&& (2147483647:Int32)) % (5:Int32)), vI ((y19 &&& (2147483647:Int32)) % (5:Int32)), vI (y21 &&& (15:Int32)), vI ((XT.ushr y22 (4:Int32)) % (5:Int32)), vI r100.1, none, none, none, none, none, none, none, none, none, none, none, none, none, none, none], [.int (0:Int32)], (H0 s r100.2))) rfl ?_
     exact zM [tt,tt,tt,ff,tt,tt,tt,tt,tt,tt,tt,tt,tt,tt,tt,tt,tt,tt,ff,tt,ff,ff,ff,ff,ff,ff,ff,ff,ff,ff,ff,ff,ff,ff,ff] (K102 _ ((if_pos hc103).trans (if_neg hc104)).symm)
   ·refine zT Ad W (t := 141) (f := 131) rfl (XT.ii_ge_t hc103) ?_
    refine zS Ad W 1 (st' := (142, [vR 0, vR 1, vL v.1, none, vI v.2.1, vI v.2.2.1, vI v.2.2.2.1, vI v.2.2.2.2.1, vI v.2.2.2.2.2.1, vI v.2.2.2.2.2.2.1, vI v.2.2.2.2.2.2.2.1, vI v.2.2.2.2.2.2.2.2.1, vI v.2.2.2.2.2.2.2.2.2.1, vI v.2.2.2.2.2.2.2.2.2.2.1, vI (y16 &&& (3:Int32)), vI ((y17 &&& (2147483647:Int32)) % (5:Int32)), vI ((y19 &&& (2147483647:Int32)) % (5:Int32)), vI (y21 &&& (15:Int32)), vI ((XT.ushr y22 (4:Int32)) % (5:Int32)), vI r100.1, none, none, none, none, none, none, none, none, none, none, none, none, none, none, none], [.int (0:Int32)], (H0 s r100.2))) rfl ?_
    exact zM [tt,tt,tt,ff,tt,tt,tt,tt,tt,tt,tt,tt,tt,tt,tt,tt,tt,tt,ff,tt,ff,ff,ff,ff,ff,ff,ff,ff,ff,ff,ff,ff,ff,ff,ff] (K102 _ (if_neg hc103).symm)
  ·refine zT Ad W (t := 197) (f := 113) rfl (XT.i0_ne_t hc24) ?_
   refine zS Ad W 2 (st' := (200, [vR 0, vR 1, vL v.1, none, vI v.2.1, vI v.2.2.1, vI v.2.2.2.1, vI v.2.2.2.2.1, vI v.2.2.2.2.2.1, vI v.2.2.2.2.2.2.1, vI v.2.2.2.2.2.2.2.1, vI v.2.2.2.2.2.2.2.2.1, vI v.2.2.2.2.2.2.2.2.2.1, vI v.2.2.2.2.2.2.2.2.2.2.1, vI (y16 &&& (3:Int32)), vI ((y17 &&& (2147483647:Int32)) % (5:Int32)), vI ((y19 &&& (2147483647:Int32)) % (5:Int32)), vI (y21 &&& (15:Int32)), vI ((XT.ushr y22 (4:Int32)) % (5:Int32)), none, none, none, none, none, none, none, none, none, none, none, none, none, none, none, none], [.int (1:Int32), .int (y16 &&& (3:Int32))], (H0 s v.2.2.2.2.2.2.2.2.2.2.2))) rfl ?_
   rcases qite h with ⟨hc276, h⟩ | ⟨hc276, h⟩
   ·refine zF Ad W (t := 275) (f := 203) rfl (XT.ii_ne_f hc276) ?_
    refine zS Ad W 2 (st' := (206, [vR 0, vR 1, vL v.1, none, vI v.2.1, vI v.2.2.1, vI v.2.2.2.1, vI v.2.2.2.2.1, vI v.2.2.2.2.2.1, vI v.2.2.2.2.2.2.1, vI v.2.2.2.2.2.2.2.1, vI v.2.2.2.2.2.2.2.2.1, vI v.2.2.2.2.2.2.2.2.2.1, vI v.2.2.2.2.2.2.2.2.2.2.1, vI (y16 &&& (3:Int32)), vI ((y17 &&& (2147483647:Int32)) % (5:Int32)), vI ((y19 &&& (2147483647:Int32)) % (5:Int32)), vI (y21 &&& (15:Int32)), vI ((XT.ushr y22 (4:Int32)) % (5:Int32)), none, none, none, none, none, none, none, none, none, none, none, none, none, none, none, none], [.int ((y17 &&& (2147483647:Int32)) % (5:Int32)), .ref 1], (H0 s v.2.2.2.2.2.2.2.2.2.2.2))) rfl ?_
    obtain ⟨r291, hr291, h⟩ := bind_eq_some_iff.mp h
    refine QTri.callV W (a := 1) (as := [.int ((y17 &&& (2147483647:Int32)) % (5:Int32))]) (rest := []) (w := (some (.int r291.1))) (σ₁ := (H0 s r291.2)) rfl rfl rfl rfl rfl rfl rfl rfl (tF20 Ad W s v.2.2.2.2.2.2.2.2.2.2.2 ((y17 &&& (2147483647:Int32)) % (5:Int32)) hr291) ?_
    refine zS Ad W 3 (st' := (214, [vR 0, vR 1, vL v.1, none, vI v.2.1, vI v.2.2.1, vI v.2.2.2.1, vI v.2.2.2.2.1, vI v.2.2.2.2.2.1, vI v.2.2.2.2.2.2.1, vI v.2.2.2.2.2.2.2.1, vI v.2.2.2.2.2.2.2.2.1, vI v.2.2.2.2.2.2.2.2.2.1, vI v.2.2.2.2.2.2.2.2.2.2.1, vI (y16 &&& (3:Int32)), vI ((y17 &&& (2147483647:Int32)) % (5:Int32)), vI ((y19 &&& (2147483647:Int32)) % (5:Int32)), vI (y21 &&& (15:Int32)), vI ((XT.ushr y22 (4:Int32)) % (5:Int32)), vI r291.1, none, none, none, none, none, none, none, none, none, none, none, none, none, none, none], [.int (4:Int32), .int ((y17 &&& (2147483647:Int32)) % (5:Int32))], (H0 s r291.2))) rfl ?_
    have K293 : ∀ z292 : Int32, z292 = (if ((y17 &&& (2147483647:Int32)) % (5:Int32)) < (4:Int32) then (if ((v.2.1 >>> (((y17 &&& (2147483647:Int32)) % (5:Int32)) &&& 31)) &&& (1:Int32)) = (1:Int32) then (1:Int32) else (0:Int32)) else (0:Int32)) → QTri l Z n0 ad 0 (233, [vR 0, vR 1, vL v.1, none, vI v.2.1, vI v.2.2.1, vI v.2.2.2.1, vI v.2.2.2.2.1, vI v.2.2.2.2.2.1, vI v.2.2.2.2.2.2.1, vI v.2.2.2.2.2.2.2.1, vI v.2.2.2.2.2.2.2.2.1, vI v.2.2.2.2.2.2.2.2.2.1, vI v.2.2.2.2.2.2.2.2.2.2.1, vI (y16 &&& (3:Int32)), vI ((y17 &&& (2147483647:Int32)) % (5:Int32)), none, none, none, vI r291.1, none, none, none, none, none, none, none, none, none, none, none, none, none, none, none], [.int z292], (H0 s r291.2)) u τ := by
     intro z292 ez292
     subst ez292
     refine zS Ad W 2 (st' := (237, [vR 0, vR 1, vL v.1, none, vI v.2.1, vI v.2.2.1, vI v.2.2.2.1, vI v.2.2.2.2.1, vI v.2.2.2.2.2.1, vI v.2.2.2.2.2.2.1, vI v.2.2.2.2.2.2.2.1, vI v.2.2.2.2.2.2.2.2.1, vI v.2.2.2.2.2.2.2.2.2.1, vI v.2.2.2.2.2.2.2.2.2.2.1, vI (y16 &&& (3:Int32)), vI ((y17 &&& (2147483647:Int32)) % (5:Int32)), none, none, none, vI r291.1, vI (if ((y17 &&& (2147483647:Int32)) % (5:Int32)) < (4:Int32) then (if ((v.2.1 >>> (((y17 &&& (2147483647:Int32)) % (5:Int32)) &&& 31)) &&& (1:Int32)) = (1:Int32) then (1:Int32) else (0:Int32)) else (0:Int32)), none, none, none, none, none, none, none, none, none, none, none, none, none, none], [.int r291.1], (H0 s r291.2))) rfl ?_
     have K298 : ∀ z296 : Int64, z296 = (if r291.1 = (0:Int32) then v.1 else (if (if ((y17 &&& (2147483647:Int32)) % (5:Int32)) < (4:Int32) then (if ((v.2.1 >>> (((y17 &&& (2147483647:Int32)) % (5:Int32)) &&& 31)) &&& (1:Int32)) = (1:Int32) then (1:Int32) else (0:Int32)) else (0:Int32)) = (0:Int32) then v.1 else (v.1 &&& (((65535 : Int64) <<< ((((y17 &&& (2147483647:Int32)) % (5:Int32)) * (16:Int32)).toInt64 &&& 63)) ^^^ (-1 : Int64))))) → ∀ z297 : Int32, z297 = (if r291.1 = (0:Int32) then v.2.1 else (if (if ((y17 &&& (2147483647:Int32)) % (5:Int32)) < (4:Int32) then (if ((v.2.1 >>> (((y17 &&& (2147483647:Int32)) % (5:Int32)) &&& 31)) &&& (1:Int32)) = (1:Int32) then (1:Int32) else (0:Int32)) else (0:Int32)) = (0:Int32) then v.2.1 else (v.2.1 &&& (((1:Int32) <<< (((y17 &&& (2147483647:Int32)) % (5:Int32)) &&& 31)) ^^^ (-1:Int32))))) → QTri l Z n0 ad 0 (435, [vR 0, vR 1, vL z296, none, vI z297, vI v.2.2.1, vI v.2.2.2.1, vI v.2.2.2.2.1, vI v.2.2.2.2.2.1, vI v.2.2.2.2.2.2.1, vI v.2.2.2.2.2.2.2.1, vI v.2.2.2.2.2.2.2.2.1, vI v.2.2.2.2.2.2.2.2.2.1, vI v.2.2.2.2.2.2.2.2.2.2.1, vI (y16 &&& (3:Int32)), none, none, none, none, vI r291.1, vI (if ((y17 &&& (2147483647:Int32)) % (5:Int32)) < (4:Int32) then (if ((v.2.1 >>> (((y17 &&& (2147483647:Int32)) % (5:Int32)) &&& 31)) &&& (1:Int32)) = (1:Int32) then (1:Int32) else (0:Int32)) else (0:Int32)), none, none, none, none, none, none, none, none, none, none, none, none, none, none], [], (H0 s r291.2)) u τ := by
      intro z296 ez296
      intro z297 ez297
      subst ez296
      subst ez297
      exact zM [tt,tt,tt,ff,tt,tt,tt,tt,tt,tt,tt,tt,tt,tt,tt,ff,ff,ff,ff,tt,tt,ff,ff,ff,ff,ff,ff,ff,ff,ff,ff,ff,ff,ff,ff] (tJ0_435 Ad W s r291.2 (if r291.1 = (0:Int32) then v.1 else (if (if ((y17 &&& (2147483647:Int32)) % (5:Int32)) < (4:Int32) then (if ((v.2.1 >>> (((y17 &&& (2147483647:Int32)) % (5:Int32)) &&& 31)) &&& (1:Int32)) = (1:Int32) then (1:Int32) else (0:Int32)) else (0:Int32)) = (0:Int32) then v.1 else (v.1 &&& (((65535 : Int64) <<< ((((y17 &&& (2147483647:Int32)) % (5:Int32)) * (16:Int32)).toInt64 &&& 63)) ^^^ (-1 : Int64))))) (if r291.1 = (0:Int32) then v.2.1 else (if (if ((y17 &&& (2147483647:Int32)) % (5:Int32)) < (4:Int32) then (if ((v.2.1 >>> (((y17 &&& (2147483647:Int32)) % (5:Int32)) &&& 31)) &&& (1:Int32)) = (1:Int32) then (1:Int32) else (0:Int32)) else (0:Int32)) = (0:Int32) then v.2.1 else (v.2.1 &&& (((1:Int32) <<< (((y17 &&& (2147483647:Int32)) % (5:Int32)) &&& 31)) ^^^ (-1:Int32))))) v.2.2.1 v.2.2.2.1 v.2.2.2.2.1 v.2.2.2.2.2.1 v.2.2.2.2.2.2.1 v.2.2.2.2.2.2.2.1 v.2.2.2.2.2.2.2.2.1 v.2.2.2.2.2.2.2.2.2.1 v.2.2.2.2.2.2.2.2.2.2.1 (y16 &&& (3:Int32)) r291.1 (if ((y17 &&& (2147483647:Int32)) % (5:Int32)) < (4:Int32) then (if ((v.2.1 >>> (((y17 &&& (2147483647:Int32)) % (5:Int32)) &&& 31)) &&& (1:Int32)) = (1:Int32) then (1:Int32) else (0:Int32)) else (0:Int32)) h hx0 hc)
     rcases em (r291.1 = (0:Int32)) with hc299 | hc299
     ·refine zT Ad W (t := 435) (f := 240) rfl (XT.i0_eq_t hc299) ?_
      exact zM [tt,tt,tt,ff,tt,tt,tt,tt,tt,tt,tt,tt,tt,tt,tt,ff,ff,ff,ff,tt,tt,ff,ff,ff,ff,ff,ff,ff,ff,ff,ff,ff,ff,ff,ff] (K298 _ (if_pos hc299).symm _ (if_pos hc299).symm)
     ·refine zF Ad W (t := 435) (f := 240) rfl (XT.i0_eq_f hc299) ?_
      refine zS Ad W 1 (st' := (242, [vR 0, vR 1, vL v.1, none, vI v.2.1, vI v.2.2.1, vI v.2.2.2.1, vI v.2.2.2.2.1, vI v.2.2.2.2.2.1, vI v.2.2.2.2.2.2.1, vI v.2.2.2.2.2.2.2.1, vI v.2.2.2.2.2.2.2.2.1, vI v.2.2.2.2.2.2.2.2.2.1, vI v.2.2.2.2.2.2.2.2.2.2.1, vI (y16 &&& (3:Int32)), vI ((y17 &&& (2147483647:Int32)) % (5:Int32)), none, none, none, vI r291.1, vI (if ((y17 &&& (2147483647:Int32)) % (5:Int32)) < (4:Int32) then (if ((v.2.1 >>> (((y17 &&& (2147483647:Int32)) % (5:Int32)) &&& 31)) &&& (1:Int32)) = (1:Int32) then (1:Int32) else (0:Int32)) else (0:Int32)), none, none, none, none, none, none, none, none, none, none, none, none, none, none], [.int (if ((y17 &&& (2147483647:Int32)) % (5:Int32)) < (4:Int32) then (if ((v.2.1 >>> (((y17 &&& (2147483647:Int32)) % (5:Int32)) &&& 31)) &&& (1:Int32)) = (1:Int32) then (1:Int32) else (0:Int32)) else (0:Int32))], (H0 s r291.2))) rfl ?_
      rcases em ((if ((y17 &&& (2147483647:Int32)) % (5:Int32)) < (4:Int32) then (if ((v.2.1 >>> (((y17 &&& (2147483647:Int32)) % (5:Int32)) &&& 31)) &&& (1:Int32)) = (1:Int32) then (1:Int32) else (0:Int32)) else (0:Int32)) = (0:Int32)) with hc300 | hc300
      ·refine zT Ad W (t := 435) (f := 245) rfl (XT.i0_eq_t hc300) ?_
       exact zM [tt,tt,tt,ff,tt,tt,tt,tt,tt,tt,tt,tt,tt,tt,tt,ff,ff,ff,ff,tt,tt,ff,ff,ff,ff,ff,ff,ff,ff,ff,ff,ff,ff,ff,ff] (K298 _ ((if_neg hc299).trans (if_pos hc300)).symm _ ((if_neg hc299).trans (if_pos hc300)).symm)
      ·refine zF Ad W (t := 435) (f := 245) rfl (XT.i0_eq_f hc300) ?_
       refine zS Ad W 10 (st' := (261, [vR 0, vR 1, vL (v.1 &&& (((65535 : Int64) <<< ((((y17 &&& (2147483647:Int32)) % (5:Int32)) * (16:Int32)).toInt64 &&& 63)) ^^^ (-1 : Int64))), none, vI v.2.1, vI v.2.2.1, vI v.2.2.2.1, vI v.2.2.2.2.1, vI v.2.2.2.2.2.1, vI v.2.2.2.2.2.2.1, vI v.2.2.2.2.2.2.2.1, vI v.2.2.2.2.2.2.2.2.1, vI v.2.2.2.2.2.2.2.2.2.1, vI v.2.2.2.2.2.2.2.2.2.2.1, vI (y16 &&& (3:Int32)), vI ((y17 &&& (2147483647:Int32)) % (5:Int32)), none, none, none, vI r291.1, vI (if ((y17 &&& (2147483647:Int32)) % (5:Int32)) < (4:Int32) then (if ((v.2.1 >>> (((y17 &&& (2147483647:Int32)) % (5:Int32)) &&& 31)) &&& (1:Int32)) = (1:Int32) then (1:Int32) else (0:Int32)) else (0:Int32)), none, none, none, none, none, none, none, none, none, none, none, none, none, none], [], (H0 s r291.2))) rfl ?_
       refine zS Ad W 9 (st' := (435, [vR 0, vR 1, vL (v.1 &&& (((65535 : Int64) <<< ((((y17 &&& (2147483647:Int32)) % (5:Int32)) * (16:Int32)).toInt64 &&& 63)) ^^^ (-1 : Int64))), none, vI (v.2.1 &&& (((1:Int32) <<< (((y17 &&& (2147483647:Int32)) % (5:Int32)) &&& 31)) ^^^ (-1:Int32))), vI v.2.2.1, vI v.2.2.2.1, vI v.2.2.2.2.1, vI v.2.2.2.2.2.1, vI v.2.2.2.2.2.2.1, vI v.2.2.2.2.2.2.2.1, vI v.2.2.2.2.2.2.2.2.1, vI v.2.2.2.2.2.2.2.2.2.1, vI v.2.2.2.2.2.2.2.2.2.2.1, vI (y16 &&& (3:Int32)), vI ((y17 &&& (2147483647:Int32)) % (5:Int32)), none, none, none, vI r291.1, vI (if ((y17 &&& (2147483647:Int32)) % (5:Int32)) < (4:Int32) then (if ((v.2.1 >>> (((y17 &&& (2147483647:Int32)) % (5:Int32)) &&& 31)) &&& (1:Int32)) = (1:Int32) then (1:Int32) else (0:Int32)) else (0:Int32)), none, none, none, none, none, none, none, none, none, none, none, none, none, none], [], (H0 s r291.2))) rfl ?_
       exact zM [tt,tt,tt,ff,tt,tt,tt,tt,tt,tt,tt,tt,tt,tt,tt,ff,ff,ff,ff,tt,tt,ff,ff,ff,ff,ff,ff,ff,ff,ff,ff,ff,ff,ff,ff] (K298 _ ((if_neg hc299).trans (if_neg hc300)).symm _ ((if_neg hc299).trans (if_neg hc300)).symm)
    rcases em (((y17 &&& (2147483647:Int32)) % (5:Int32)) < (4:Int32)) with hc294 | hc294
    ·refine zF Ad W (t := 232) (f := 217) rfl (XT.ii_ge_f hc294) ?_
     refine zS Ad W 6 (st' := (225, [vR 0, vR 1, vL v.1, none, vI v.2.1, vI v.2.2.1, vI v.2.2.2.1, vI v.2.2.2.2.1, vI v.2.2.2.2.2.1, vI v.2.2.2.2.2.2.1, vI v.2.2.2.2.2.2.2.1, vI v.2.2.2.2.2.2.2.2.1, vI v.2.2.2.2.2.2.2.2.2.1, vI v.2.2.2.2.2.2.2.2.2.2.1, vI (y16 &&& (3:Int32)), vI ((y17 &&& (2147483647:Int32)) % (5:Int32)), vI ((y19 &&& (2147483647:Int32)) % (5:Int32)), vI (y21 &&& (15:Int32)), vI ((XT.ushr y22 (4:Int32)) % (5:Int32)), vI r291.1, none, none, none, none, none, none, none, none, none, none, none, none, none, none, none], [.int (1:Int32), .int ((v.2.1 >>> (((y17 &&& (2147483647:Int32)) % (5:Int32)) &&& 31)) &&& (1:Int32))], (H0 s r291.2))) rfl ?_
     rcases em (((v.2.1 >>> (((y17 &&& (2147483647:Int32)) % (5:Int32)) &&& 31)) &&& (1:Int32)) = (1:Int32)) with hc295 | hc295
     ·refine zF Ad W (t := 232) (f := 228) rfl (XT.ii_ne_f hc295) ?_
      refine zS Ad W 2 (st' := (233, [vR 0, vR 1, vL v.1, none, vI v.2.1, vI v.2.2.1, vI v.2.2.2.1, vI v.2.2.2.2.1, vI v.2.2.2.2.2.1, vI v.2.2.2.2.2.2.1, vI v.2.2.2.2.2.2.2.1, vI v.2.2.2.2.2.2.2.2.1, vI v.2.2.2.2.2.2.2.2.2.1, vI v.2.2.2.2.2.2.2.2.2.2.1, vI (y16 &&& (3:Int32)), vI ((y17 &&& (2147483647:Int32)) % (5:Int32)), vI ((y19 &&& (2147483647:Int32)) % (5:Int32)), vI (y21 &&& (15:Int32)), vI ((XT.ushr y22 (4:Int32)) % (5:Int32)), vI r291.1, none, none, none, none, none, none, none, none, none, none, none, none, none, none, none], [.int (1:Int32)], (H0 s r291.2))) rfl ?_
      exact zM [tt,tt,tt,ff,tt,tt,tt,tt,tt,tt,tt,tt,tt,tt,tt,tt,ff,ff,ff,tt,ff,ff,ff,ff,ff,ff,ff,ff,ff,ff,ff,ff,ff,ff,ff] (K293 _ ((if_pos hc294).trans (if_pos hc295)).symm)
     ·refine zT Ad W (t := 232) (f := 228) rfl (XT.ii_ne_t hc295) ?_
      refine zS Ad W 1 (st' := (233, [vR 0, vR 1, vL v.1, none, vI v.2.1, vI v.2.2.1, vI v.2.2.2.1, vI v.2.2.2.2.1, vI v.2.2.2.2.2.1, vI v.2.2.2.2.2.2.1, vI v.2.2.2.2.2.2.2.1, vI v.2.2.2.2.2.2.2.2.1, vI v.2.2.2.2.2.2.2.2.2.1, vI v.2.2.2.2.2.2.2.2.2.2.1, vI (y16 &&& (3:Int32)), vI ((y17 &&& (2147483647:Int32)) % (5:Int32)), vI ((y19 &&& (2147483647:Int32)) % (5:Int32)), vI (y21 &&& (15:Int32)), vI ((XT.ushr y22 (4:Int32)) % (5:Int32)), vI r291.1, none, none, none, none, none, none, none, none, none, none, none, none, none, none, none], [.int (0:Int32)], (H0 s r291.2))) rfl ?_
      exact zM [tt,tt,tt,ff,tt,tt,tt,tt,tt,tt,tt,tt,tt,tt,tt,tt,ff,ff,ff,tt,ff,ff,ff,ff,ff,ff,ff,ff,ff,ff,ff,ff,ff,ff,ff] (K293 _ ((if_pos hc294).trans (if_neg hc295)).symm)
    ·refine zT Ad W (t := 232) (f := 217) rfl (XT.ii_ge_t hc294) ?_
     refine zS Ad W 1 (st' := (233, [vR 0, vR 1, vL v.1, none, vI v.2.1, vI v.2.2.1, vI v.2.2.2.1, vI v.2.2.2.2.1, vI v.2.2.2.2.2.1, vI v.2.2.2.2.2.2.1, vI v.2.2.2.2.2.2.2.1, vI v.2.2.2.2.2.2.2.2.1, vI v.2.2.2.2.2.2.2.2.2.1, vI v.2.2.2.2.2.2.2.2.2.2.1, vI (y16 &&& (3:Int32)), vI ((y17 &&& (2147483647:Int32)) % (5:Int32)), vI ((y19 &&& (2147483647:Int32)) % (5:Int32)), vI (y21 &&& (15:Int32)), vI ((XT.ushr y22 (4:Int32)) % (5:Int32)), vI r291.1, none, none, none, none, none, none, none, none, none, none, none, none, none, none, none], [.int (0:Int32)], (H0 s r291.2))) rfl ?_
     exact zM [tt,tt,tt,ff,tt,tt,tt,tt,tt,tt,tt,tt,tt,tt,tt,tt,ff,ff,ff,tt,ff,ff,ff,ff,ff,ff,ff,ff,ff,ff,ff,ff,ff,ff,ff] (K293 _ (if_neg hc294).symm)
   ·refine zT Ad W (t := 275) (f := 203) rfl (XT.ii_ne_t hc276) ?_
    refine zS Ad W 2 (st' := (278, [vR 0, vR 1, vL v.1, none, vI v.2.1, vI v.2.2.1, vI v.2.2.2.1, vI v.2.2.2.2.1, vI v.2.2.2.2.2.1, vI v.2.2.2.2.2.2.1, vI v.2.2.2.2.2.2.2.1, vI v.2.2.2.2.2.2.2.2.1, vI v.2.2.2.2.2.2.2.2.2.1, vI v.2.2.2.2.2.2.2.2.2.2.1, vI (y16 &&& (3:Int32)), vI ((y17 &&& (2147483647:Int32)) % (5:Int32)), vI ((y19 &&& (2147483647:Int32)) % (5:Int32)), vI (y21 &&& (15:Int32)), vI ((XT.ushr y22 (4:Int32)) % (5:Int32)), none, none, none, none, none, none, none, none, none, none, none, none, none, none, none, none], [.int (2:Int32), .int (y16 &&& (3:Int32))], (H0 s v.2.2.2.2.2.2.2.2.2.2.2))) rfl ?_
    rcases qite h with ⟨hc301, h⟩ | ⟨hc301, h⟩
    ·refine zF Ad W (t := 361) (f := 281) rfl (XT.ii_ne_f hc301) ?_
     refine zS Ad W 7 (st' := (292, [vR 0, vR 1, vL v.1, none, vI v.2.1, vI v.2.2.1, vI v.2.2.2.1, vI v.2.2.2.2.1, vI v.2.2.2.2.2.1, vI v.2.2.2.2.2.2.1, vI v.2.2.2.2.2.2.2.1, vI v.2.2.2.2.2.2.2.2.1, vI v.2.2.2.2.2.2.2.2.2.1, vI v.2.2.2.2.2.2.2.2.2.2.1, vI (y16 &&& (3:Int32)), vI ((y17 &&& (2147483647:Int32)) % (5:Int32)), vI ((y19 &&& (2147483647:Int32)) % (5:Int32)), vI (y21 &&& (15:Int32)), vI ((XT.ushr y22 (4:Int32)) % (5:Int32)), none, none, none, none, none, none, none, none, none, none, none, none, none, none, none, none], [.int ((XT.ushr y22 (4:Int32)) % (5:Int32)), .int ((y21 &&& (15:Int32)) % (5:Int32)), .int ((y19 &&& (2147483647:Int32)) % (5:Int32)), .int ((y17 &&& (2147483647:Int32)) % (5:Int32)), .ref 1], (H0 s v.2.2.2.2.2.2.2.2.2.2.2))) rfl ?_
     obtain ⟨r317, hr317, h⟩ := bind_eq_some_iff.mp h
     refine QTri.callV W (a := 1) (as := [.int ((y17 &&& (2147483647:Int32)) % (5:Int32)), .int ((y19 &&& (2147483647:Int32)) % (5:Int32)), .int ((y21 &&& (15:Int32)) % (5:Int32)), .int ((XT.ushr y22 (4:Int32)) % (5:Int32))]) (rest := []) (w := (some (.int r317.1))) (σ₁ := (H0 s r317.2)) rfl rfl rfl rfl rfl rfl rfl rfl (tF26 Ad W s v.2.2.2.2.2.2.2.2.2.2.2 ((y17 &&& (2147483647:Int32)) % (5:Int32)) ((y19 &&& (2147483647:Int32)) % (5:Int32)) ((y21 &&& (15:Int32)) % (5:Int32)) ((XT.ushr y22 (4:Int32)) % (5:Int32)) hr317) ?_
     refine zS Ad W 3 (st' := (300, [vR 0, vR 1, vL v.1, none, vI v.2.1, vI v.2.2.1, vI v.2.2.2.1, vI v.2.2.2.2.1, vI v.2.2.2.2.2.1, vI v.2.2.2.2.2.2.1, vI v.2.2.2.2.2.2.2.1, vI v.2.2.2.2.2.2.2.2.1, vI v.2.2.2.2.2.2.2.2.2.1, vI v.2.2.2.2.2.2.2.2.2.2.1, vI (y16 &&& (3:Int32)), vI ((y17 &&& (2147483647:Int32)) % (5:Int32)), vI ((y19 &&& (2147483647:Int32)) % (5:Int32)), vI (y21 &&& (15:Int32)), vI ((XT.ushr y22 (4:Int32)) % (5:Int32)), vI r317.1, none, none, none, none, none, none, none, none, none, none, none, none, none, none, none], [.int (4:Int32), .int ((y17 &&& (2147483647:Int32)) % (5:Int32))], (H0 s r317.2))) rfl ?_
     rcases qite h with ⟨hc318, h⟩ | ⟨hc318, h⟩
     ·refine zF Ad W (t := 327) (f := 303) rfl (XT.ii_ge_f hc318) ?_
      refine zS Ad W 2 (st' := (306, [vR 0, vR 1, vL v.1, none, vI v.2.1, vI v.2.2.1, vI v.2.2.2.1, vI v.2.2.2.2.1, vI v.2.2.2.2.2.1, vI v.2.2.2.2.2.2.1, vI v.2.2.2.2.2.2.2.1, vI v.2.2.2.2.2.2.2.2.1, vI v.2.2.2.2.2.2.2.2.2.1, vI v.2.2.2.2.2.2.2.2.2.2.1, vI (y16 &&& (3:Int32)), vI ((y17 &&& (2147483647:Int32)) % (5:Int32)), vI ((y19 &&& (2147483647:Int32)) % (5:Int32)), vI (y21 &&& (15:Int32)), vI ((XT.ushr y22 (4:Int32)) % (5:Int32)), vI r317.1, none, none, none, none, none, none, none, none, none, none, none, none, none, none, none], [.int (4:Int32), .int ((y19 &&& (2147483647:Int32)) % (5:Int32))], (H0 s r317.2))) rfl ?_
      rcases qite h with ⟨hc319, h⟩ | ⟨hc319, h⟩
      ·refine zF Ad W (t := 327) (f := 309) rfl (XT.ii_ge_f hc319) ?_
       refine zS Ad W 4 (st' := (314, [vR 0, vR 1, vL v.1, none, vI v.2.1, vI v.2.2.1, vI v.2.2.2.1, vI v.2.2.2.2.1, vI v.2.2.2.2.2.1, vI v.2.2.2.2.2.2.1, vI v.2.2.2.2.2.2.2.1, vI v.2.2.2.2.2.2.2.2.1, vI v.2.2.2.2.2.2.2.2.2.1, vI v.2.2.2.2.2.2.2.2.2.2.1, vI (y16 &&& (3:Int32)), vI ((y17 &&& (2147483647:Int32)) % (5:Int32)), vI ((y19 &&& (2147483647:Int32)) % (5:Int32)), vI (y21 &&& (15:Int32)), vI ((XT.ushr y22 (4:Int32)) % (5:Int32)), vI r317.1, none, none, none, none, none, none, none, none, none, none, none, none, none, none, none], [.int (4:Int32), .int ((y21 &&& (15:Int32)) % (5:Int32))], (H0 s r317.2))) rfl ?_
       have K322 : ∀ z321 : Int32, z321 = (if ((y21 &&& (15:Int32)) % (5:Int32)) < (4:Int32) then (if ((XT.ushr y22 (4:Int32)) % (5:Int32)) < (4:Int32) then (1:Int32) else (0:Int32)) else (0:Int32)) → QTri l Z n0 ad 0 (328, [vR 0, vR 1, vL v.1, none, vI v.2.1, vI v.2.2.1, vI v.2.2.2.1, vI v.2.2.2.2.1, vI v.2.2.2.2.2.1, vI v.2.2.2.2.2.2.1, vI v.2.2.2.2.2.2.2.1, vI v.2.2.2.2.2.2.2.2.1, vI v.2.2.2.2.2.2.2.2.2.1, vI v.2.2.2.2.2.2.2.2.2.2.1, vI (y16 &&& (3:Int32)), vI ((y17 &&& (2147483647:Int32)) % (5:Int32)), vI ((y19 &&& (2147483647:Int32)) % (5:Int32)), vI (y21 &&& (15:Int32)), vI ((XT.ushr y22 (4:Int32)) % (5:Int32)), vI r317.1, none, none, none, none, none, none, none, none, none, none, none, none, none, none, none], [.int z321], (H0 s r317.2)) u τ := by
        intro z321 ez321
        subst ez321
        refine zS Ad W 2 (st' := (332, [vR 0, vR 1, vL v.1, none, vI v.2.1, vI v.2.2.1, vI v.2.2.2.1, vI v.2.2.2.2.1, vI v.2.2.2.2.2.1, vI v.2.2.2.2.2.2.1, vI v.2.2.2.2.2.2.2.1, vI v.2.2.2.2.2.2.2.2.1, vI v.2.2.2.2.2.2.2.2.2.1, vI v.2.2.2.2.2.2.2.2.2.2.1, vI (y16 &&& (3:Int32)), vI ((y17 &&& (2147483647:Int32)) % (5:Int32)), vI ((y19 &&& (2147483647:Int32)) % (5:Int32)), vI (y21 &&& (15:Int32)), vI ((XT.ushr y22 (4:Int32)) % (5:Int32)), vI r317.1, vI (if ((y21 &&& (15:Int32)) % (5:Int32)) < (4:Int32) then (if ((XT.ushr y22 (4:Int32)) % (5:Int32)) < (4:Int32) then (1:Int32) else (0:Int32)) else (0:Int32)), none, none, none, none, none, none, none, none, none, none, none, none, none, none], [.int r317.1], (H0 s r317.2))) rfl ?_
        rcases qite h with ⟨hc325, h⟩ | ⟨hc325, h⟩
        ·refine zT Ad W (t := 435) (f := 335) rfl (XT.i0_eq_t hc325) ?_
         exact zM [tt,tt,tt,ff,tt,tt,tt,tt,tt,tt,tt,tt,tt,tt,tt,ff,ff,ff,ff,tt,tt,ff,ff,ff,ff,ff,ff,ff,ff,ff,ff,ff,ff,ff,ff] (tJ0_435 Ad W s r317.2 v.1 v.2.1 v.2.2.1 v.2.2.2.1 v.2.2.2.2.1 v.2.2.2.2.2.1 v.2.2.2.2.2.2.1 v.2.2.2.2.2.2.2.1 v.2.2.2.2.2.2.2.2.1 v.2.2.2.2.2.2.2.2.2.1 v.2.2.2.2.2.2.2.2.2.2.1 (y16 &&& (3:Int32)) r317.1 (if ((y21 &&& (15:Int32)) % (5:Int32)) < (4:Int32) then (if ((XT.ushr y22 (4:Int32)) % (5:Int32)) < (4:Int32) then (1:Int32) else (0:Int32)) else (0:Int32)) h hx0 hc)
        ·refine zF Ad W (t := 435) (f := 335) rfl (XT.i0_eq_f hc325) ?_
         refine zS Ad W 1 (st' := (337, [vR 0, vR 1, vL v.1, none, vI v.2.1, vI v.2.2.1, vI v.2.2.2.1, vI v.2.2.2.2.1, vI v.2.2.2.2.2.1, vI v.2.2.2.2.2.2.1, vI v.2.2.2.2.2.2.2.1, vI v.2.2.2.2.2.2.2.2.1, vI v.2.2.2.2.2.2.2.2.2.1, vI v.2.2.2.2.2.2.2.2.2.2.1, vI (y16 &&& (3:Int32)), vI ((y17 &&& (2147483647:Int32)) % (5:Int32)), vI ((y19 &&& (2147483647:Int32)) % (5:Int32)), vI (y21 &&& (15:Int32)), vI ((XT.ushr y22 (4:Int32)) % (5:Int32)), vI r317.1, vI (if ((y21 &&& (15:Int32)) % (5:Int32)) < (4:Int32) then (if ((XT.ushr y22 (4:Int32)) % (5:Int32)) < (4:Int32) then (1:Int32) else (0:Int32)) else (0:Int32)), none, none, none, none, none, none, none, none, none, none, none, none, none, none], [.int (if ((y21 &&& (15:Int32)) % (5:Int32)) < (4:Int32) then (if ((XT.ushr y22 (4:Int32)) % (5:Int32)) < (4:Int32) then (1:Int32) else (0:Int32)) else (0:Int32))], (H0 s r317.2))) rfl ?_
         rcases qite h with ⟨hc326, h⟩ | ⟨hc326, h⟩
         ·refine zT Ad W (t := 435) (f := 340) rfl (XT.i0_eq_t hc326) ?_
          exact zM [tt,tt,tt,ff,tt,tt,tt,tt,tt,tt,tt,tt,tt,tt,tt,ff,ff,ff,ff,tt,tt,ff,ff,ff,ff,ff,ff,ff,ff,ff,ff,ff,ff,ff,ff] (tJ0_435 Ad W s r317.2 v.1 v.2.1 v.2.2.1 v.2.2.2.1 v.2.2.2.2.1 v.2.2.2.2.2.1 v.2.2.2.2.2.2.1 v.2.2.2.2.2.2.2.1 v.2.2.2.2.2.2.2.2.1 v.2.2.2.2.2.2.2.2.2.1 v.2.2.2.2.2.2.2.2.2.2.1 (y16 &&& (3:Int32)) r317.1 (if ((y21 &&& (15:Int32)) % (5:Int32)) < (4:Int32) then (if ((XT.ushr y22 (4:Int32)) % (5:Int32)) < (4:Int32) then (1:Int32) else (0:Int32)) else (0:Int32)) h hx0 hc)
         ·refine zF Ad W (t := 435) (f := 340) rfl (XT.i0_eq_f hc326) ?_
          refine zS Ad W 4 (st' := (348, [vR 0, vR 1, vL v.1, none, vI v.2.1, vI ((y17 &&& (2147483647:Int32)) % (5:Int32)), vI ((y19 &&& (2147483647:Int32)) % (5:Int32)), vI v.2.2.2.2.1, vI v.2.2.2.2.2.1, vI v.2.2.2.2.2.2.1, vI v.2.2.2.2.2.2.2.1, vI v.2.2.2.2.2.2.2.2.1, vI v.2.2.2.2.2.2.2.2.2.1, vI v.2.2.2.2.2.2.2.2.2.2.1, vI (y16 &&& (3:Int32)), vI ((y17 &&& (2147483647:Int32)) % (5:Int32)), vI ((y19 &&& (2147483647:Int32)) % (5:Int32)), vI (y21 &&& (15:Int32)), vI ((XT.ushr y22 (4:Int32)) % (5:Int32)), vI r317.1, vI (if ((y21 &&& (15:Int32)) % (5:Int32)) < (4:Int32) then (if ((XT.ushr y22 (4:Int32)) % (5:Int32)) < (4:Int32) then (1:Int32) else (0:Int32)) else (0:Int32)), none, none, none, none, none, none, none, none, none, none, none, none, none, none], [], (H0 s r317.2))) rfl ?_
          refine zS Ad W 6 (st' := (358, [vR 0, vR 1, vL v.1, none, vI v.2.1, vI ((y17 &&& (2147483647:Int32)) % (5:Int32)), vI ((y19 &&& (2147483647:Int32)) % (5:Int32)), vI ((y21 &&& (15:Int32)) % (5:Int32)), vI ((XT.ushr y22 (4:Int32)) % (5:Int32)), vI v.2.2.2.2.2.2.1, vI v.2.2.2.2.2.2.2.1, vI v.2.2.2.2.2.2.2.2.1, vI v.2.2.2.2.2.2.2.2.2.1, vI v.2.2.2.2.2.2.2.2.2.2.1, vI (y16 &&& (3:Int32)), vI ((y17 &&& (2147483647:Int32)) % (5:Int32)), vI ((y19 &&& (2147483647:Int32)) % (5:Int32)), vI (y21 &&& (15:Int32)), vI ((XT.ushr y22 (4:Int32)) % (5:Int32)), vI r317.1, vI (if ((y21 &&& (15:Int32)) % (5:Int32)) < (4:Int32) then (if ((XT.ushr y22 (4:Int32)) % (5:Int32)) < (4:Int32) then (1:Int32) else (0:Int32)) else (0:Int32)), none, none, none, none, none, none, none, none, none, none, none, none, none, none], [], (H0 s r317.2))) rfl ?_
          refine zS Ad W 1 (st' := (435, [vR 0, vR 1, vL v.1, none, vI v.2.1, vI ((y17 &&& (2147483647:Int32)) % (5:Int32)), vI ((y19 &&& (2147483647:Int32)) % (5:Int32)), vI ((y21 &&& (15:Int32)) % (5:Int32)), vI ((XT.ushr y22 (4:Int32)) % (5:Int32)), vI v.2.2.2.2.2.2.1, vI v.2.2.2.2.2.2.2.1, vI v.2.2.2.2.2.2.2.2.1, vI v.2.2.2.2.2.2.2.2.2.1, vI v.2.2.2.2.2.2.2.2.2.2.1, vI (y16 &&& (3:Int32)), vI ((y17 &&& (2147483647:Int32)) % (5:Int32)), vI ((y19 &&& (2147483647:Int32)) % (5:Int32)), vI (y21 &&& (15:Int32)), vI ((XT.ushr y22 (4:Int32)) % (5:Int32)), vI r317.1, vI (if ((y21 &&& (15:Int32)) % (5:Int32)) < (4:Int32) then (if ((XT.ushr y22 (4:Int32)) % (5:Int32)) < (4:Int32) then (1:Int32) else (0:Int32)) else (0:Int32)), none, none, none, none, none, none, none, none, none, none, none, none, none, none], [], (H0 s r317.2))) rfl ?_
          exact zM [tt,tt,tt,ff,tt,tt,tt,tt,tt,tt,tt,tt,tt,tt,tt,ff,ff,ff,ff,tt,tt,ff,ff,ff,ff,ff,ff,ff,ff,ff,ff,ff,ff,ff,ff] (tJ0_435 Ad W s r317.2 v.1 v.2.1 ((y17 &&& (2147483647:Int32)) % (5:Int32)) ((y19 &&& (2147483647:Int32)) % (5:Int32)) ((y21 &&& (15:Int32)) % (5:Int32)) ((XT.ushr y22 (4:Int32)) % (5:Int32)) v.2.2.2.2.2.2.1 v.2.2.2.2.2.2.2.1 v.2.2.2.2.2.2.2.2.1 v.2.2.2.2.2.2.2.2.2.1 v.2.2.2.2.2.2.2.2.2.2.1 (y16 &&& (3:Int32)) r317.1 (if ((y21 &&& (15:Int32)) % (5:Int32)) < (4:Int32) then (if ((XT.ushr y22 (4:Int32)) % (5:Int32)) < (4:Int32) then (1:Int32) else (0:Int32)) else (0:Int32)) h hx0 hc)
       rcases em (((y21 &&& (15:Int32)) % (5:Int32)) < (4:Int32)) with hc323 | hc323
       ·refine zF Ad W (t := 327) (f := 317) rfl (XT.ii_ge_f hc323) ?_
        refine zS Ad W 2 (st' := (320, [vR 0, vR 1, vL v.1, none, vI v.2.1, vI v.2.2.1, vI v.2.2.2.1, vI v.2.2.2.2.1, vI v.2.2.2.2.2.1, vI v.2.2.2.2.2.2.1, vI v.2.2.2.2.2.2.2.1, vI v.2.2.2.2.2.2.2.2.1, vI v.2.2.2.2.2.2.2.2.2.1, vI v.2.2.2.2.2.2.2.2.2.2.1, vI (y16 &&& (3:Int32)), vI ((y17 &&& (2147483647:Int32)) % (5:Int32)), vI ((y19 &&& (2147483647:Int32)) % (5:Int32)), vI (y21 &&& (15:Int32)), vI ((XT.ushr y22 (4:Int32)) % (5:Int32)), vI r317.1, none, none, none, none, none, none, none, none, none, none, none, none, none, none, none], [.int (4:Int32), .int ((XT.ushr y22 (4:Int32)) % (5:Int32))], (H0 s r317.2))) rfl ?_
        rcases em (((XT.ushr y22 (4:Int32)) % (5:Int32)) < (4:Int32)) with hc324 | hc324
        ·refine zF Ad W (t := 327) (f := 323) rfl (XT.ii_ge_f hc324) ?_
         refine zS Ad W 2 (st' := (328, [vR 0, vR 1, vL v.1, none, vI v.2.1, vI v.2.2.1, vI v.2.2.2.1, vI v.2.2.2.2.1, vI v.2.2.2.2.2.1, vI v.2.2.2.2.2.2.1, vI v.2.2.2.2.2.2.2.1, vI v.2.2.2.2.2.2.2.2.1, vI v.2.2.2.2.2.2.2.2.2.1, vI v.2.2.2.2.2.2.2.2.2.2.1, vI (y16 &&& (3:Int32)), vI ((y17 &&& (2147483647:Int32)) % (5:Int32)), vI ((y19 &&& (2147483647:Int32)) % (5:Int32)), vI (y21 &&& (15:Int32)), vI ((XT.ushr y22 (4:Int32)) % (5:Int32)), vI r317.1, none, none, none, none, none, none, none, none, none, none, none, none, none, none, none], [.int (1:Int32)], (H0 s r317.2))) rfl ?_
         exact zM [tt,tt,tt,ff,tt,tt,tt,tt,tt,tt,tt,tt,tt,tt,tt,tt,tt,tt,tt,tt,ff,ff,ff,ff,ff,ff,ff,ff,ff,ff,ff,ff,ff,ff,ff] (K322 _ ((if_pos hc323).trans (if_pos hc324)).symm)
        ·refine zT Ad W (t := 327) (f := 323) rfl (XT.ii_ge_t hc324) ?_
         refine zS Ad W 1 (st' := (328, [vR 0, vR 1, vL v.1, none, vI v.2.1, vI v.2.2.1, vI v.2.2.2.1, vI v.2.2.2.2.1, vI v.2.2.2.2.2.1, vI v.2.2.2.2.2.2.1, vI v.2.2.2.2.2.2.2.1, vI v.2.2.2.2.2.2.2.2.1, vI v.2.2.2.2.2.2.2.2.2.1, vI v.2.2.2.2.2.2.2.2.2.2.1, vI (y16 &&& (3:Int32)), vI ((y17 &&& (2147483647:Int32)) % (5:Int32)), vI ((y19 &&& (2147483647:Int32)) % (5:Int32)), vI (y21 &&& (15:Int32)), vI ((XT.ushr y22 (4:Int32)) % (5:Int32)), vI r317.1, none, none, none, none, none, none, none, none, none, none, none, none, none, none, none], [.int (0:Int32)], (H0 s r317.2))) rfl ?_
         exact zM [tt,tt,tt,ff,tt,tt,tt,tt,tt,tt,tt,tt,tt,tt,tt,tt,tt,tt,tt,tt,ff,ff,ff,ff,ff,ff,ff,ff,ff,ff,ff,ff,ff,ff,ff] (K322 _ ((if_pos hc323).trans (if_neg hc324)).symm)
       ·refine zT Ad W (t := 327) (f := 317) rfl (XT.ii_ge_t hc323) ?_
        refine zS Ad W 1 (st' := (328, [vR 0, vR 1, vL v.1, none, vI v.2.1, vI v.2.2.1, vI v.2.2.2.1, vI v.2.2.2.2.1, vI v.2.2.2.2.2.1, vI v.2.2.2.2.2.2.1, vI v.2.2.2.2.2.2.2.1, vI v.2.2.2.2.2.2.2.2.1, vI v.2.2.2.2.2.2.2.2.2.1, vI v.2.2.2.2.2.2.2.2.2.2.1, vI (y16 &&& (3:Int32)), vI ((y17 &&& (2147483647:Int32)) % (5:Int32)), vI ((y19 &&& (2147483647:Int32)) % (5:Int32)), vI (y21 &&& (15:Int32)), vI ((XT.ushr y22 (4:Int32)) % (5:Int32)), vI r317.1, none, none, none, none, none, none, none, none, none, none, none, none, none, none, none], [.int (0:Int32)], (H0 s r317.2))) rfl ?_
        exact zM [tt,tt,tt,ff,tt,tt,tt,tt,tt,tt,tt,tt,tt,tt,tt,tt,tt,tt,tt,tt,ff,ff,ff,ff,ff,ff,ff,ff,ff,ff,ff,ff,ff,ff,ff] (K322 _ (if_neg hc323).symm)
      ·refine zT Ad W (t := 327) (f := 309) rfl (XT.ii_ge_t hc319) ?_
       exact zM [tt,tt,tt,ff,tt,tt,tt,tt,tt,tt,tt,tt,tt,tt,tt,tt,tt,tt,tt,tt,ff,ff,ff,ff,ff,ff,ff,ff,ff,ff,ff,ff,ff,ff,ff] (tJ0_327 Ad W s r317.2 v.1 v.2.1 v.2.2.1 v.2.2.2.1 v.2.2.2.2.1 v.2.2.2.2.2.1 v.2.2.2.2.2.2.1 v.2.2.2.2.2.2.2.1 v.2.2.2.2.2.2.2.2.1 v.2.2.2.2.2.2.2.2.2.1 v.2.2.2.2.2.2.2.2.2.2.1 (y16 &&& (3:Int32)) ((y17 &&& (2147483647:Int32)) % (5:Int32)) ((y19 &&& (2147483647:Int32)) % (5:Int32)) (y21 &&& (15:Int32)) ((XT.ushr y22 (4:Int32)) % (5:Int32)) r317.1 h hx0 hc)
     ·refine zT Ad W (t := 327) (f := 303) rfl (XT.ii_ge_t hc318) ?_
      exact zM [tt,tt,tt,ff,tt,tt,tt,tt,tt,tt,tt,tt,tt,tt,tt,tt,tt,tt,tt,tt,ff,ff,ff,ff,ff,ff,ff,ff,ff,ff,ff,ff,ff,ff,ff] (tJ0_327 Ad W s r317.2 v.1 v.2.1 v.2.2.1 v.2.2.2.1 v.2.2.2.2.1 v.2.2.2.2.2.1 v.2.2.2.2.2.2.1 v.2.2.2.2.2.2.2.1 v.2.2.2.2.2.2.2.2.1 v.2.2.2.2.2.2.2.2.2.1 v.2.2.2.2.2.2.2.2.2.2.1 (y16 &&& (3:Int32)) ((y17 &&& (2147483647:Int32)) % (5:Int32)) ((y19 &&& (2147483647:Int32)) % (5:Int32)) (y21 &&& (15:Int32)) ((XT.ushr y22 (4:Int32)) % (5:Int32)) r317.1 h hx0 hc)
    ·refine zT Ad W (t := 361) (f := 281) rfl (XT.ii_ne_t hc301) ?_
     refine zS Ad W 11 (st' := (379, [vR 0, vR 1, vL v.1, none, vI v.2.1, vI v.2.2.1, vI v.2.2.2.1, vI v.2.2.2.2.1, vI v.2.2.2.2.2.1, vI v.2.2.2.2.2.2.1, vI v.2.2.2.2.2.2.2.1, vI v.2.2.2.2.2.2.2.2.1, vI v.2.2.2.2.2.2.2.2.2.1, vI v.2.2.2.2.2.2.2.2.2.2.1, vI (y16 &&& (3:Int32)), vI ((y17 &&& (2147483647:Int32)) % (5:Int32)), vI ((y19 &&& (2147483647:Int32)) % (5:Int32)), vI (y21 &&& (15:Int32)), vI ((XT.ushr y22 (4:Int32)) % (5:Int32)), none, none, vI (((y19 &&& (2147483647:Int32)) % (5:Int32)) + (((XT.ushr y22 (4:Int32)) % (5:Int32)) &&& (1:Int32))), none, none, none, none, none, none, none, none, none, none, none, none, none], [.int ((XT.ushr y22 (4:Int32)) % (5:Int32)), .int (y21 &&& (15:Int32)), .int (((y19 &&& (2147483647:Int32)) % (5:Int32)) + (((XT.ushr y22 (4:Int32)) % (5:Int32)) &&& (1:Int32))), .int ((y17 &&& (2147483647:Int32)) % (5:Int32)), .ref 1], (H0 s v.2.2.2.2.2.2.2.2.2.2.2))) rfl ?_
     obtain ⟨r339, hr339, h⟩ := bind_eq_some_iff.mp h
     refine QTri.callV W (a := 1) (as := [.int ((y17 &&& (2147483647:Int32)) % (5:Int32)), .int (((y19 &&& (2147483647:Int32)) % (5:Int32)) + (((XT.ushr y22 (4:Int32)) % (5:Int32)) &&& (1:Int32))), .int (y21 &&& (15:Int32)), .int ((XT.ushr y22 (4:Int32)) % (5:Int32))]) (rest := []) (w := (some (.int r339.1))) (σ₁ := (H0 s r339.2)) rfl rfl rfl rfl rfl rfl rfl rfl (tF2 Ad W s v.2.2.2.2.2.2.2.2.2.2.2 ((y17 &&& (2147483647:Int32)) % (5:Int32)) (((y19 &&& (2147483647:Int32)) % (5:Int32)) + (((XT.ushr y22 (4:Int32)) % (5:Int32)) &&& (1:Int32))) (y21 &&& (15:Int32)) ((XT.ushr y22 (4:Int32)) % (5:Int32)) hr339) ?_
     refine zS Ad W 3 (st' := (387, [vR 0, vR 1, vL v.1, none, vI v.2.1, vI v.2.2.1, vI v.2.2.2.1, vI v.2.2.2.2.1, vI v.2.2.2.2.2.1, vI v.2.2.2.2.2.2.1, vI v.2.2.2.2.2.2.2.1, vI v.2.2.2.2.2.2.2.2.1, vI v.2.2.2.2.2.2.2.2.2.1, vI v.2.2.2.2.2.2.2.2.2.2.1, vI (y16 &&& (3:Int32)), vI ((y17 &&& (2147483647:Int32)) % (5:Int32)), vI ((y19 &&& (2147483647:Int32)) % (5:Int32)), vI (y21 &&& (15:Int32)), vI ((XT.ushr y22 (4:Int32)) % (5:Int32)), vI r339.1, none, vI (((y19 &&& (2147483647:Int32)) % (5:Int32)) + (((XT.ushr y22 (4:Int32)) % (5:Int32)) &&& (1:Int32))), none, none, none, none, none, none, none, none, none, none, none, none, none], [.int (4:Int32), .int ((y17 &&& (2147483647:Int32)) % (5:Int32))], (H0 s r339.2))) rfl ?_
     have K341 : ∀ z340 : Int32, z340 = (if ((y17 &&& (2147483647:Int32)) % (5:Int32)) < (4:Int32) then (if (((y19 &&& (2147483647:Int32)) % (5:Int32)) + (((XT.ushr y22 (4:Int32)) % (5:Int32)) &&& (1:Int32))) < (5:Int32) then (1:Int32) else (0:Int32)) else (0:Int32)) → QTri l Z n0 ad 0 (401, [vR 0, vR 1, vL v.1, none, vI v.2.1, vI v.2.2.1, vI v.2.2.2.1, vI v.2.2.2.2.1, vI v.2.2.2.2.2.1, vI v.2.2.2.2.2.2.1, vI v.2.2.2.2.2.2.2.1, vI v.2.2.2.2.2.2.2.2.1, vI v.2.2.2.2.2.2.2.2.2.1, vI v.2.2.2.2.2.2.2.2.2.2.1, vI (y16 &&& (3:Int32)), vI ((y17 &&& (2147483647:Int32)) % (5:Int32)), none, none, none, vI r339.1, none, vI (((y19 &&& (2147483647:Int32)) % (5:Int32)) + (((XT.ushr y22 (4:Int32)) % (5:Int32)) &&& (1:Int32))), none, none, none, none, none, none, none, none, none, none, none, none, none], [.int z340], (H0 s r339.2)) u τ := by
      intro z340 ez340
      subst ez340
      refine zS Ad W 2 (st' := (405, [vR 0, vR 1, vL v.1, none, vI v.2.1, vI v.2.2.1, vI v.2.2.2.1, vI v.2.2.2.2.1, vI v.2.2.2.2.2.1, vI v.2.2.2.2.2.2.1, vI v.2.2.2.2.2.2.2.1, vI v.2.2.2.2.2.2.2.2.1, vI v.2.2.2.2.2.2.2.2.2.1, vI v.2.2.2.2.2.2.2.2.2.2.1, vI (y16 &&& (3:Int32)), vI ((y17 &&& (2147483647:Int32)) % (5:Int32)), none, none, none, vI r339.1, vI (if ((y17 &&& (2147483647:Int32)) % (5:Int32)) < (4:Int32) then (if (((y19 &&& (2147483647:Int32)) % (5:Int32)) + (((XT.ushr y22 (4:Int32)) % (5:Int32)) &&& (1:Int32))) < (5:Int32) then (1:Int32) else (0:Int32)) else (0:Int32)), vI (((y19 &&& (2147483647:Int32)) % (5:Int32)) + (((XT.ushr y22 (4:Int32)) % (5:Int32)) &&& (1:Int32))), none, none, none, none, none, none, none, none, none, none, none, none, none], [.int r339.1], (H0 s r339.2))) rfl ?_
      have K345 : ∀ z344 : Int32, z344 = (if r339.1 = (0:Int32) then v.2.2.2.2.2.2.1 else (if (if ((y17 &&& (2147483647:Int32)) % (5:Int32)) < (4:Int32) then (if (((y19 &&& (2147483647:Int32)) % (5:Int32)) + (((XT.ushr y22 (4:Int32)) % (5:Int32)) &&& (1:Int32))) < (5:Int32) then (1:Int32) else (0:Int32)) else (0:Int32)) = (0:Int32) then v.2.2.2.2.2.2.1 else ((v.2.2.2.2.2.2.1 &&& (((7:Int32) <<< ((((y17 &&& (2147483647:Int32)) % (5:Int32)) * (3:Int32)) &&& 31)) ^^^ (-1:Int32))) ||| ((((y19 &&& (2147483647:Int32)) % (5:Int32)) + (((XT.ushr y22 (4:Int32)) % (5:Int32)) &&& (1:Int32))) <<< ((((y17 &&& (2147483647:Int32)) % (5:Int32)) * (3:Int32)) &&& 31))))) → QTri l Z n0 ad 0 (435, [vR 0, vR 1, vL v.1, none, vI v.2.1, vI v.2.2.1, vI v.2.2.2.1, vI v.2.2.2.2.1, vI v.2.2.2.2.2.1, vI z344, vI v.2.2.2.2.2.2.2.1, vI v.2.2.2.2.2.2.2.2.1, vI v.2.2.2.2.2.2.2.2.2.1, vI v.2.2.2.2.2.2.2.2.2.2.1, vI (y16 &&& (3:Int32)), none, none, none, none, vI r339.1, vI (if ((y17 &&& (2147483647:Int32)) % (5:Int32)) < (4:Int32) then (if (((y19 &&& (2147483647:Int32)) % (5:Int32)) + (((XT.ushr y22 (4:Int32)) % (5:Int32)) &&& (1:Int32))) < (5:Int32) then (1:Int32) else (0:Int32)) else (0:Int32)), none, none, none, none, none, none, none, none, none, none, none, none, none, none], [], (H0 s r339.2)) u τ := by
       intro z344 ez344
       subst ez344
       exact zM [tt,tt,tt,ff,tt,tt,tt,tt,tt,tt,tt,tt,tt,tt,tt,ff,ff,ff,ff,tt,tt,ff,ff,ff,ff,ff,ff,ff,ff,ff,ff,ff,ff,ff,ff] (tJ0_435 Ad W s r339.2 v.1 v.2.1 v.2.2.1 v.2.2.2.1 v.2.2.2.2.1 v.2.2.2.2.2.1 (if r339.1 = (0:Int32) then v.2.2.2.2.2.2.1 else (if (if ((y17 &&& (2147483647:Int32)) % (5:Int32)) < (4:Int32) then (if (((y19 &&& (2147483647:Int32)) % (5:Int32)) + (((XT.ushr y22 (4:Int32)) % (5:Int32)) &&& (1:Int32))) < (5:Int32) then (1:Int32) else (0:Int32)) else (0:Int32)) = (0:Int32) then v.2.2.2.2.2.2.1 else ((v.2.2.2.2.2.2.1 &&& (((7:Int32) <<< ((((y17 &&& (2147483647:Int32)) % (5:Int32)) * (3:Int32)) &&& 31)) ^^^ (-1:Int32))) ||| ((((y19 &&& (2147483647:Int32)) % (5:Int32)) + (((XT.ushr y22 (4:Int32)) % (5:Int32)) &&& (1:Int32))) <<< ((((y17 &&& (2147483647:Int32)) % (5:Int32)) * (3:Int32)) &&& 31))))) v.2.2.2.2.2.2.2.1 v.2.2.2.2.2.2.2.2.1 v.2.2.2.2.2.2.2.2.2.1 v.2.2.2.2.2.2.2.2.2.2.1 (y16 &&& (3:Int32)) r339.1 (if ((y17 &&& (2147483647:Int32)) % (5:Int32)) < (4:Int32) then (if (((y19 &&& (2147483647:Int32)) % (5:Int32)) + (((XT.ushr y22 (4:Int32)) % (5:Int32)) &&& (1:Int32))) < (5:Int32) then (1:Int32) else (0:Int32)) else (0:Int32)) h hx0 hc)
      rcases em (r339.1 = (0:Int32)) with hc346 | hc346
      ·refine zT Ad W (t := 435) (f := 408) rfl (XT.i0_eq_t hc346) ?_
       exact zM [tt,tt,tt,ff,tt,tt,tt,tt,tt,tt,tt,tt,tt,tt,tt,ff,ff,ff,ff,tt,tt,ff,ff,ff,ff,ff,ff,ff,ff,ff,ff,ff,ff,ff,ff] (K345 _ (if_pos hc346).symm)
      ·refine zF Ad W (t := 435) (f := 408) rfl (XT.i0_eq_f hc346) ?_
       refine zS Ad W 1 (st' := (410, [vR 0, vR 1, vL v.1, none, vI v.2.1, vI v.2.2.1, vI v.2.2.2.1, vI v.2.2.2.2.1, vI v.2.2.2.2.2.1, vI v.2.2.2.2.2.2.1, vI v.2.2.2.2.2.2.2.1, vI v.2.2.2.2.2.2.2.2.1, vI v.2.2.2.2.2.2.2.2.2.1, vI v.2.2.2.2.2.2.2.2.2.2.1, vI (y16 &&& (3:Int32)), vI ((y17 &&& (2147483647:Int32)) % (5:Int32)), none, none, none, vI r339.1, vI (if ((y17 &&& (2147483647:Int32)) % (5:Int32)) < (4:Int32) then (if (((y19 &&& (2147483647:Int32)) % (5:Int32)) + (((XT.ushr y22 (4:Int32)) % (5:Int32)) &&& (1:Int32))) < (5:Int32) then (1:Int32) else (0:Int32)) else (0:Int32)), vI (((y19 &&& (2147483647:Int32)) % (5:Int32)) + (((XT.ushr y22 (4:Int32)) % (5:Int32)) &&& (1:Int32))), none, none, none, none, none, none, none, none, none, none, none, none, none], [.int (if ((y17 &&& (2147483647:Int32)) % (5:Int32)) < (4:Int32) then (if (((y19 &&& (2147483647:Int32)) % (5:Int32)) + (((XT.ushr y22 (4:Int32)) % (5:Int32)) &&& (1:Int32))) < (5:Int32) then (1:Int32) else (0:Int32)) else (0:Int32))], (H0 s r339.2))) rfl ?_
       rcases em ((if ((y17 &&& (2147483647:Int32)) % (5:Int32)) < (4:Int32) then (if (((y19 &&& (2147483647:Int32)) % (5:Int32)) + (((XT.ushr y22 (4:Int32)) % (5:Int32)) &&& (1:Int32))) < (5:Int32) then (1:Int32) else (0:Int32)) else (0:Int32)) = (0:Int32)) with hc347 | hc347
       ·refine zT Ad W (t := 435) (f := 413) rfl (XT.i0_eq_t hc347) ?_
        exact zM [tt,tt,tt,ff,tt,tt,tt,tt,tt,tt,tt,tt,tt,tt,tt,ff,ff,ff,ff,tt,tt,ff,ff,ff,ff,ff,ff,ff,ff,ff,ff,ff,ff,ff,ff] (K345 _ ((if_neg hc346).trans (if_pos hc347)).symm)
       ·refine zF Ad W (t := 435) (f := 413) rfl (XT.i0_eq_f hc347) ?_
        refine zS Ad W 10 (st' := (427, [vR 0, vR 1, vL v.1, none, vI v.2.1, vI v.2.2.1, vI v.2.2.2.1, vI v.2.2.2.2.1, vI v.2.2.2.2.2.1, vI v.2.2.2.2.2.2.1, vI v.2.2.2.2.2.2.2.1, vI v.2.2.2.2.2.2.2.2.1, vI v.2.2.2.2.2.2.2.2.2.1, vI v.2.2.2.2.2.2.2.2.2.2.1, vI (y16 &&& (3:Int32)), vI ((y17 &&& (2147483647:Int32)) % (5:Int32)), none, none, none, vI r339.1, vI (if ((y17 &&& (2147483647:Int32)) % (5:Int32)) < (4:Int32) then (if (((y19 &&& (2147483647:Int32)) % (5:Int32)) + (((XT.ushr y22 (4:Int32)) % (5:Int32)) &&& (1:Int32))) < (5:Int32) then (1:Int32) else (0:Int32)) else (0:Int32)), vI (((y19 &&& (2147483647:Int32)) % (5:Int32)) + (((XT.ushr y22 (4:Int32)) % (5:Int32)) &&& (1:Int32))), none, none, none, none, none, none, none, none, none, none, none, none, none], [.int (((y19 &&& (2147483647:Int32)) % (5:Int32)) + (((XT.ushr y22 (4:Int32)) % (5:Int32)) &&& (1:Int32))), .int (v.2.2.2.2.2.2.1 &&& (((7:Int32) <<< ((((y17 &&& (2147483647:Int32)) % (5:Int32)) * (3:Int32)) &&& 31)) ^^^ (-1:Int32)))], (H0 s r339.2))) rfl ?_
        refine zS Ad W 6 (st' := (435, [vR 0, vR 1, vL v.1, none, vI v.2.1, vI v.2.2.1, vI v.2.2.2.1, vI v.2.2.2.2.1, vI v.2.2.2.2.2.1, vI ((v.2.2.2.2.2.2.1 &&& (((7:Int32) <<< ((((y17 &&& (2147483647:Int32)) % (5:Int32)) * (3:Int32)) &&& 31)) ^^^ (-1:Int32))) ||| ((((y19 &&& (2147483647:Int32)) % (5:Int32)) + (((XT.ushr y22 (4:Int32)) % (5:Int32)) &&& (1:Int32))) <<< ((((y17 &&& (2147483647:Int32)) % (5:Int32)) * (3:Int32)) &&& 31))), vI v.2.2.2.2.2.2.2.1, vI v.2.2.2.2.2.2.2.2.1, vI v.2.2.2.2.2.2.2.2.2.1, vI v.2.2.2.2.2.2.2.2.2.2.1, vI (y16 &&& (3:Int32)), vI ((y17 &&& (2147483647:Int32)) % (5:Int32)), none, none, none, vI r339.1, vI (if ((y17 &&& (2147483647:Int32)) % (5:Int32)) < (4:Int32) then (if (((y19 &&& (2147483647:Int32)) % (5:Int32)) + (((XT.ushr y22 (4:Int32)) % (5:Int32)) &&& (1:Int32))) < (5:Int32) then (1:Int32) else (0:Int32)) else (0:Int32)), vI (((y19 &&& (2147483647:Int32)) % (5:Int32)) + (((XT.ushr y22 (4:Int32)) % (5:Int32)) &&& (1:Int32))), none, none, none, none, none, none, none, none, none, none, none, none, none], [], (H0 s r339.2))) rfl ?_
        exact zM [tt,tt,tt,ff,tt,tt,tt,tt,tt,tt,tt,tt,tt,tt,tt,ff,ff,ff,ff,tt,tt,ff,ff,ff,ff,ff,ff,ff,ff,ff,ff,ff,ff,ff,ff] (K345 _ ((if_neg hc346).trans (if_neg hc347)).symm)
     rcases em (((y17 &&& (2147483647:Int32)) % (5:Int32)) < (4:Int32)) with hc342 | hc342
     ·refine zF Ad W (t := 400) (f := 390) rfl (XT.ii_ge_f hc342) ?_
      refine zS Ad W 2 (st' := (393, [vR 0, vR 1, vL v.1, none, vI v.2.1, vI v.2.2.1, vI v.2.2.2.1, vI v.2.2.2.2.1, vI v.2.2.2.2.2.1, vI v.2.2.2.2.2.2.1, vI v.2.2.2.2.2.2.2.1, vI v.2.2.2.2.2.2.2.2.1, vI v.2.2.2.2.2.2.2.2.2.1, vI v.2.2.2.2.2.2.2.2.2.2.1, vI (y16 &&& (3:Int32)), vI ((y17 &&& (2147483647:Int32)) % (5:Int32)), vI ((y19 &&& (2147483647:Int32)) % (5:Int32)), vI (y21 &&& (15:Int32)), vI ((XT.ushr y22 (4:Int32)) % (5:Int32)), vI r339.1, none, vI (((y19 &&& (2147483647:Int32)) % (5:Int32)) + (((XT.ushr y22 (4:Int32)) % (5:Int32)) &&& (1:Int32))), none, none, none, none, none, none, none, none, none, none, none, none, none], [.int (5:Int32), .int (((y19 &&& (2147483647:Int32)) % (5:Int32)) + (((XT.ushr y22 (4:Int32)) % (5:Int32)) &&& (1:Int32)))], (H0 s r339.2))) rfl ?_
      rcases em ((((y19 &&& (2147483647:Int32)) % (5:Int32)) + (((XT.ushr y22 (4:Int32)) % (5:Int32)) &&& (1:Int32))) < (5:Int32)) with hc343 | hc343
      ·refine zF Ad W (t := 400) (f := 396) rfl (XT.ii_ge_f hc343) ?_
       refine zS Ad W 2 (st' := (401, [vR 0, vR 1, vL v.1, none, vI v.2.1, vI v.2.2.1, vI v.2.2.2.1, vI v.2.2.2.2.1, vI v.2.2.2.2.2.1, vI v.2.2.2.2.2.2.1, vI v.2.2.2.2.2.2.2.1, vI v.2.2.2.2.2.2.2.2.1, vI v.2.2.2.2.2.2.2.2.2.1, vI v.2.2.2.2.2.2.2.2.2.2.1, vI (y16 &&& (3:Int32)), vI ((y17 &&& (2147483647:Int32)) % (5:Int32)), vI ((y19 &&& (2147483647:Int32)) % (5:Int32)), vI (y21 &&& (15:Int32)), vI ((XT.ushr y22 (4:Int32)) % (5:Int32)), vI r339.1, none, vI (((y19 &&& (2147483647:Int32)) % (5:Int32)) + (((XT.ushr y22 (4:Int32)) % (5:Int32)) &&& (1:Int32))), none, none, none, none, none, none, none, none, none, none, none, none, none], [.int (1:Int32)], (H0 s r339.2))) rfl ?_
       exact zM [tt,tt,tt,ff,tt,tt,tt,tt,tt,tt,tt,tt,tt,tt,tt,tt,ff,ff,ff,tt,ff,tt,ff,ff,ff,ff,ff,ff,ff,ff,ff,ff,ff,ff,ff] (K341 _ ((if_pos hc342).trans (if_pos hc343)).symm)
      ·refine zT Ad W (t := 400) (f := 396) rfl (XT.ii_ge_t hc343) ?_
       refine zS Ad W 1 (st' := (401, [vR 0, vR 1, vL v.1, none, vI v.2.1, vI v.2.2.1, vI v.2.2.2.1, vI v.2.2.2.2.1, vI v.2.2.2.2.2.1, vI v.2.2.2.2.2.2.1, vI v.2.2.2.2.2.2.2.1, vI v.2.2.2.2.2.2.2.2.1, vI v.2.2.2.2.2.2.2.2.2.1, vI v.2.2.2.2.2.2.2.2.2.2.1, vI (y16 &&& (3:Int32)), vI ((y17 &&& (2147483647:Int32)) % (5:Int32)), vI ((y19 &&& (2147483647:Int32)) % (5:Int32)), vI (y21 &&& (15:Int32)), vI ((XT.ushr y22 (4:Int32)) % (5:Int32)), vI r339.1, none, vI (((y19 &&& (2147483647:Int32)) % (5:Int32)) + (((XT.ushr y22 (4:Int32)) % (5:Int32)) &&& (1:Int32))), none, none, none, none, none, none, none, none, none, none, none, none, none], [.int (0:Int32)], (H0 s r339.2))) rfl ?_
       exact zM [tt,tt,tt,ff,tt,tt,tt,tt,tt,tt,tt,tt,tt,tt,tt,tt,ff,ff,ff,tt,ff,tt,ff,ff,ff,ff,ff,ff,ff,ff,ff,ff,ff,ff,ff] (K341 _ ((if_pos hc342).trans (if_neg hc343)).symm)
     ·refine zT Ad W (t := 400) (f := 390) rfl (XT.ii_ge_t hc342) ?_
      refine zS Ad W 1 (st' := (401, [vR 0, vR 1, vL v.1, none, vI v.2.1, vI v.2.2.1, vI v.2.2.2.1, vI v.2.2.2.2.1, vI v.2.2.2.2.2.1, vI v.2.2.2.2.2.2.1, vI v.2.2.2.2.2.2.2.1, vI v.2.2.2.2.2.2.2.2.1, vI v.2.2.2.2.2.2.2.2.2.1, vI v.2.2.2.2.2.2.2.2.2.2.1, vI (y16 &&& (3:Int32)), vI ((y17 &&& (2147483647:Int32)) % (5:Int32)), vI ((y19 &&& (2147483647:Int32)) % (5:Int32)), vI (y21 &&& (15:Int32)), vI ((XT.ushr y22 (4:Int32)) % (5:Int32)), vI r339.1, none, vI (((y19 &&& (2147483647:Int32)) % (5:Int32)) + (((XT.ushr y22 (4:Int32)) % (5:Int32)) &&& (1:Int32))), none, none, none, none, none, none, none, none, none, none, none, none, none], [.int (0:Int32)], (H0 s r339.2))) rfl ?_
      exact zM [tt,tt,tt,ff,tt,tt,tt,tt,tt,tt,tt,tt,tt,tt,tt,tt,ff,ff,ff,tt,ff,tt,ff,ff,ff,ff,ff,ff,ff,ff,ff,ff,ff,ff,ff] (K341 _ (if_neg hc342).symm)
 ·refine zT Ad W (t := 1010) (f := 51) rfl (XT.ii_ge_t hc15) ?_
  refine zS Ad W 1 (st' := (1011, [vR 0, vR 1, vL v.1, none, vI v.2.1, vI v.2.2.1, vI v.2.2.2.1, vI v.2.2.2.2.1, vI v.2.2.2.2.2.1, vI v.2.2.2.2.2.2.1, vI v.2.2.2.2.2.2.2.1, vI v.2.2.2.2.2.2.2.2.1, vI v.2.2.2.2.2.2.2.2.2.1, vI v.2.2.2.2.2.2.2.2.2.2.1, none, none, none, none, none, none, none, none, none, none, none, none, none, none, none, none, none, none, none, none, none], [.int (1:Int32)], (H0 s v.2.2.2.2.2.2.2.2.2.2.2))) rfl ?_
  obtain rfl := Option.some.inj h
  obtain ⟨rfl, rfl⟩ := hx0 ((1:Int32), (H0 s v.2.2.2.2.2.2.2.2.2.2.2)) rfl
  exact QTri.retZ rfl rfl
/-- the law -/
def F0 (s : List Int32) : Option (Int32 × QHeap) :=
 (F1 (4:Int32) (4:Int32)).bind fun r14 => (loopN (B0_42 s) qN ((0 : Int64), (0:Int32), (0:Int32), (1:Int32), (2:Int32), (0:Int32), (0:Int32), (0:Int32), (0:Int32), (0:Int32), (0:Int32), r14)).bind fun e348 => some e348
theorem tF0 (Ad : QAd n0 ad) (W : QW Z a0) (s : List Int32) {r : Int32 × QHeap} (h : F0 s = some r) : QTri l Z n0 ad 0 (0, qentry [.ref 0] (pMaxL 0), [], [.inr (.inl (.int, s))]) (some (Value.int r.1)) r.2 := by
 unfold F0 at h
 refine zS Ad W 1 (st' := (3, [vR 0, none, none, none, none, none, none, none, none, none, none, none, none, none, none, none, none, none, none, none, none, none, none, none, none, none, none, none, none, none, none, none, none, none, none], [.ref 1], [.inr (.inl (.int, s)), .inl [.null, .null, .int (f_rf ob0), .int (f_cf ob0), .int (f_vf ob0), .int (f_ag ob0), .null, .null, .null, .null, .null, .null, .int (f_nRows ob0), .int (f_nForms ob0), .int (f_last ob0), .int (f_selUseR ob0), .int (f_selRk ob0), .int (f_selUseC ob0), .int (f_selCk ob0), .int (f_gCount ob0), .int (f_gVal ob0)]])) rfl ?_
 refine zS Ad W 3 (st' := (6, [vR 0, none, none, none, none, none, none, none, none, none, none, none, none, none, none, none, none, none, none, none, none, none, none, none, none, none, none, none, none, none, none, none, none, none, none], [.int (4:Int32), .int (4:Int32), .ref 1, .ref 1], [.inr (.inl (.int, s)), .inl [.null, .null, .int (f_rf ob0), .int (f_cf ob0), .int (f_vf ob0), .int (f_ag ob0), .null, .null, .null, .null, .null, .null, .int (f_nRows ob0), .int (f_nForms ob0), .int (f_last ob0), .int (f_selUseR ob0), .int (f_selRk ob0), .int (f_selUseC ob0), .int (f_selCk ob0), .int (f_gCount ob0), .int (f_gVal ob0)]])) rfl ?_
 obtain ⟨r14, hr14, h⟩ := bind_eq_some_iff.mp h
 refine QTri.callI W (a := 1) (as := [.int (4:Int32), .int (4:Int32)]) (rest := [.ref 1]) (σ₁ := (H0 s r14)) rfl rfl rfl rfl rfl rfl (tF1 Ad W s (4:Int32) (4:Int32) hr14) ?_
 refine zS Ad W 3 (st' := (12, [vR 0, vR 1, vL (0 : Int64), none, none, none, none, none, none, none, none, none, none, none, none, none, none, none, none, none, none, none, none, none, none, none, none, none, none, none, none, none, none, none, none], [], (H0 s r14))) rfl ?_
 refine zS Ad W 4 (st' := (18, [vR 0, vR 1, vL (0 : Int64), none, vI (0:Int32), vI (0:Int32), none, none, none, none, none, none, none, none, none, none, none, none, none, none, none, none, none, none, none, none, none, none, none, none, none, none, none, none, none], [], (H0 s r14))) rfl ?_
 refine zS Ad W 4 (st' := (24, [vR 0, vR 1, vL (0 : Int64), none, vI (0:Int32), vI (0:Int32), vI (1:Int32), vI (2:Int32), none, none, none, none, none, none, none, none, none, none, none, none, none, none, none, none, none, none, none, none, none, none, none, none, none, none, none], [], (H0 s r14))) rfl ?_
 refine zS Ad W 4 (st' := (30, [vR 0, vR 1, vL (0 : Int64), none, vI (0:Int32), vI (0:Int32), vI (1:Int32), vI (2:Int32), vI (0:Int32), vI (0:Int32), none, none, none, none, none, none, none, none, none, none, none, none, none, none, none, none, none, none, none, none, none, none, none, none, none], [], (H0 s r14))) rfl ?_
 refine zS Ad W 4 (st' := (36, [vR 0, vR 1, vL (0 : Int64), none, vI (0:Int32), vI (0:Int32), vI (1:Int32), vI (2:Int32), vI (0:Int32), vI (0:Int32), vI (0:Int32), vI (0:Int32), none, none, none, none, none, none, none, none, none, none, none, none, none, none, none, none, none, none, none, none, none, none, none], [], (H0 s r14))) rfl ?_
 refine zS Ad W 4 (st' := (42, [vR 0, vR 1, vL (0 : Int64), none, vI (0:Int32), vI (0:Int32), vI (1:Int32), vI (2:Int32), vI (0:Int32), vI (0:Int32), vI (0:Int32), vI (0:Int32), vI (0:Int32), vI (0:Int32), none, none, none, none, none, none, none, none, none, none, none, none, none, none, none, none, none, none, none, none, none], [], (H0 s r14))) rfl ?_
 obtain ⟨e348, he348, h⟩ := bind_eq_some_iff.mp h
 refine zM [tt,tt,tt,ff,tt,tt,tt,tt,tt,tt,tt,tt,tt,tt,ff,ff,ff,ff,ff,ff,ff,ff,ff,ff,ff,ff,ff,ff,ff,ff,ff,ff,ff,ff,ff] (loopN_tri (B := B0_42 s) (T := fun lv349 => QTri l Z n0 ad 0 (42, [vR 0, vR 1, vL lv349.1, none, vI lv349.2.1, vI lv349.2.2.1, vI lv349.2.2.2.1, vI lv349.2.2.2.2.1, vI lv349.2.2.2.2.2.1, vI lv349.2.2.2.2.2.2.1, vI lv349.2.2.2.2.2.2.2.1, vI lv349.2.2.2.2.2.2.2.2.1, vI lv349.2.2.2.2.2.2.2.2.2.1, vI lv349.2.2.2.2.2.2.2.2.2.2.1, none, none, none, none, none, none, none, none, none, none, none, none, none, none, none, none, none, none, none, none, none], [], (H0 s lv349.2.2.2.2.2.2.2.2.2.2.2)) (some (Value.int r.1)) r.2) (KE := fun e348a => (some (Value.int r.1)) = (some (Value.int e348a.1)) ∧ r.2 = e348a.2) (fun lv349 r hB hE hC => tB0_42 Ad W s lv349 hB (fun x q => hE _ q) (fun x q => hC x q)) qN ((0 : Int64), (0:Int32), (0:Int32), (1:Int32), (2:Int32), (0:Int32), (0:Int32), (0:Int32), (0:Int32), (0:Int32), (0:Int32), r14) e348 he348 ?_)
 obtain rfl := Option.some.inj h
 exact ⟨rfl, rfl⟩
end Walks
theorem script_ok {s : State} {w : Value} (hfit : Fit s) (h1 : (Jvm.Cond.arrayOf (Jvm.Term.arg 0) Jvm.ClassFile.FieldType.int).value #[w] s none s [] = some true) (h2 : (Jvm.Cond.le (Jvm.Term.length (Jvm.Term.arg 0)) (Jvm.Term.int 260)).value #[w] s none s [] = some true) :
    ∃ (a : Addr) (c : Cell) (xs : List Int32), w = .ref a ∧ Arr s s.heap a c .int ∧ c.slots = (xs.map Value.int).toArray ∧ xs.length ≤ 260 := by
  obtain ⟨a, ha⟩ := arr_v h1
  obtain ⟨c, A⟩ := Arr.start ha h1
  have hw : w = .ref a := by simpa [Term.eval] using ha
  subst hw
  have hel : ∀ i, i < c.slots.size → ∃ x, c.slots[i]? = some (.int x) := fun i hi => by
    have q := hfit A.1 hi
    obtain ⟨hs, k, hk, comp, hkind⟩ := A.2.1
    have e : s.slotType? c.cls c.vm i = some .int := by
      cases hq : c.vm <;> first | exact absurd hq (hs _) | simp [State.slotType?, hk, hkind]
    have q2 : fits .int c.slots[i] = true := by simpa [State.fitsSlot, e] using q
    obtain ⟨x, hx⟩ := fit_I q2 (Or.inl rfl)
    exact ⟨x, by rw [Array.getElem?_eq_getElem hi, hx]⟩
  refine ⟨a, c, c.slots.toList.map (fun v => match v with | .int x => x | _ => 0), rfl, A, ?_, ?_⟩
  · apply Array.ext'
    rw [List.map_map]
    have : c.slots.toList.map (Value.int ∘ fun v => match v with | .int x => x | _ => 0) = c.slots.toList := by
      conv => rhs; rw [← List.map_id c.slots.toList]
      refine List.map_congr_left fun v hv => ?_
      obtain ⟨i, hi⟩ := List.mem_iff_getElem?.mp hv
      rw [Array.getElem?_toList] at hi
      obtain ⟨x, hx⟩ := hel i (Array.getElem?_eq_some_iff.mp hi).1
      rw [hi] at hx
      cases hx
      rfl
    exact this.symm
  · have hl := A.fin (Vm.Alike.refl _)
    simp only [List.length_map, Array.length_toList]
    simp only [Cond.value, Term.eval] at h2
    simp [hl] at h2
    by_cases hs : c.slots.size < 2147483648
    · rw [if_pos hs] at h2
      have h3 : c.slots.size.toInt32 ≤ 260 := by simpa using h2
      rw [Int32.le_iff_toInt_le] at h3
      have h4 : (c.slots.size.toInt32).toInt = c.slots.size := Int32.toInt_ofNat_of_lt (by omega)
      rw [h4] at h3
      have h5 : (260 : Int32).toInt = 260 := rfl
      rw [h5] at h3
      omega
    · rw [if_neg hs] at h2
      simp at h2
set_option maxHeartbeats 4000000
theorem i_lt {x y : Int32} : x < y ↔ x.toInt < y.toInt := Int32.lt_iff_toInt_lt
theorem i_eq {x y : Int32} : x = y ↔ x.toInt = y.toInt := Int32.toInt_inj.symm
theorem i_lo (x : Int32) : -2147483648 ≤ x.toInt := Int32.le_toInt x
theorem i_hi (x : Int32) : x.toInt < 2147483648 := Int32.toInt_lt x
theorem i_add {x y : Int32} (h1 : -2147483648 ≤ x.toInt + y.toInt) (h2 : x.toInt + y.toInt < 2147483648) : (x + y).toInt = x.toInt + y.toInt := XT.add32 ⟨h1, by omega⟩
theorem i_sub {x y : Int32} (h1 : -2147483648 ≤ x.toInt - y.toInt) (h2 : x.toInt - y.toInt < 2147483648) : (x - y).toInt = x.toInt - y.toInt := XT.sub32 ⟨h1, by omega⟩
theorem i_mul {x y : Int32} (h1 : -2147483648 ≤ x.toInt * y.toInt) (h2 : x.toInt * y.toInt < 2147483648) : (x * y).toInt = x.toInt * y.toInt := XT.mul32 ⟨h1, by omega⟩
theorem i_nat (x : Int32) : x.toNatClampNeg = x.toInt.toNat := rfl
theorem aget_at {α : Type} {xs : List α} {j : Int32} {n : Nat} (hj : j.toInt = n) (hn : n < xs.length) : aget xs j = some xs[n] := by
 have h0 : ¬ j < 0 := by rw [i_lt]; show ¬ j.toInt < 0; omega
 unfold aget
 rw [if_neg h0, i_nat, hj]
 simp [hn]
theorem aget_rep {α : Type} {m : Nat} {a : α} {j : Int32} (h0 : 0 ≤ j.toInt) (h1 : j.toInt < m) : aget (List.replicate m a) j = some a := by
 rw [aget_at (n := j.toInt.toNat) (by omega) (by rw [List.length_replicate]; omega)]
 simp
theorem aset_at {α : Type} {xs : List α} {j : Int32} {n : Nat} {v : α} (hj : j.toInt = n) (hn : n < xs.length) : aset xs j v = some (xs.set n v) := by
 have h0 : ¬ j < 0 := by rw [i_lt]; show ¬ j.toInt < 0; omega
 unfold aset
 have e : j.toNatClampNeg = n := by rw [i_nat, hj]; simp
 rw [if_neg h0, e, if_pos hn]
theorem rep_set {α : Type} (m k : Nat) (a : α) : (List.replicate m a).set k a = List.replicate m a := by
 apply List.ext_getElem (by simp)
 intro i h1 h2
 rw [List.getElem_set]
 split <;> simp
theorem small_cases {x : Int32} (h0 : 0 ≤ x.toInt) {n : Nat} (h1 : x.toInt < n) {P : Int32 → Prop} (h : ∀ m : Nat, m < n → P (Int32.ofInt m)) : P x := by
 have e : Int32.ofInt (x.toInt.toNat : Nat) = x := by
  rw [Int.toNat_of_nonneg h0, Int32.ofInt_toInt]
 rw [← e]
 exact h _ (by omega)
theorem bit_ne {x : Int32} (h0 : 0 ≤ x.toInt) (h1 : x.toInt < 32) : ¬ (((1 : Int32) <<< (x &&& 31)) &&& ((1 : Int32) <<< (x &&& 31))) = 0 :=
 small_cases (P := fun x => ¬ (((1 : Int32) <<< (x &&& 31)) &&& ((1 : Int32) <<< (x &&& 31))) = 0) h0 (n := 32) h1 (by decide)
def okP {α : Type} (m : Option α) (P : α → Prop) : Prop := ∃ a, m = some a ∧ P a
theorem okP.some {α : Type} {a : α} {P : α → Prop} (h : P a) : okP (some a) P := ⟨a, rfl, h⟩
theorem okP.bind {α β : Type} {m : Option α} {f : α → Option β} {P : β → Prop} (h : okP m fun a => okP (f a) P) : okP (m.bind f) P := by
 obtain ⟨a, e, b, e2, h2⟩ := h
 exact ⟨b, by rw [e]; exact e2, h2⟩
theorem okP.ite {α : Type} {c : Prop} [Decidable c] {a b : Option α} {P : α → Prop} (h1 : c → okP a P) (h2 : ¬ c → okP b P) : okP (if c then a else b) P := by
 by_cases h : c
 ·rw [if_pos h]; exact h1 h
 ·rw [if_neg h]; exact h2 h
theorem okP.mono {α : Type} {m : Option α} {P Q : α → Prop} (h : okP m P) (k : ∀ a, P a → Q a) : okP m Q := by
 obtain ⟨a, e, h⟩ := h
 exact ⟨a, e, k a h⟩
theorem okP.of {α : Type} {m : Option α} {a : α} {P : α → Prop} (e : m = Option.some a) (h : P a) : okP m P := ⟨a, e, h⟩
theorem okP.aget {α : Type} {xs : List α} {j : Int32} {P : α → Prop} (h0 : 0 ≤ j.toInt) (h1 : j.toInt < xs.length) (k : ∀ v, xs[j.toInt.toNat]? = Option.some v → P v) : okP (aget xs j) P :=
 ⟨_, aget_at (n := j.toInt.toNat) (by omega) (by omega), k _ (List.getElem?_eq_getElem _)⟩
theorem okP.aset {α : Type} {xs : List α} {j : Int32} {v : α} {P : List α → Prop} (h0 : 0 ≤ j.toInt) (h1 : j.toInt < xs.length) (k : P (xs.set j.toInt.toNat v)) : okP (aset xs j v) P :=
 ⟨_, aset_at (n := j.toInt.toNat) (by omega) (by omega), k⟩
theorem okP.loop {V E : Type} {B : V → Option (E ⊕ V)} {P : E → Prop} {n : Nat} {v : V} (I : V → Prop) (μ : V → Nat) (hv : I v) (hm : μ v < n) (hB : ∀ v, I v → okP (B v) (fun r => Sum.elim P (fun v' => I v' ∧ μ v' < μ v) r)) : okP (loopN B n v) P := by
 refine loopN_inv I P μ ?_ n v hv hm
 intro v hv
 obtain ⟨r, e, h⟩ := hB v hv
 cases r with
 | inl x => exact Or.inl ⟨x, e, h⟩
 | inr x => exact Or.inr ⟨x, e, h⟩
theorem len_i {n : Nat} (h : n ≤ 1000) : (n.toInt32).toInt = n := by
 have e : n.toInt32 = Int32.ofInt n := rfl
 rw [e, Int32.toInt_ofInt_of_le (by show _ ≤ (n : Int); omega) (by show (n : Int) < _; omega)]
theorem and1 (x : Int32) : x &&& 1 = 0 ∨ x &&& 1 = 1 := by
 have e : (x &&& 1).toBitVec = x.toBitVec &&& 1#32 := rfl
 have h := BitVec.and_one_eq_setWidth_ofBool_getLsbD (x := x.toBitVec)
 cases g : x.toBitVec.getLsbD 0
 ·left; apply Int32.toBitVec_inj.1; rw [e, h, g]; rfl
 ·right; apply Int32.toBitVec_inj.1; rw [e, h, g]; rfl
theorem okP.not {α : Type} {m : Option α} {a : α} {P : α → Prop} (h : okP m P) (e : m = Option.some a) : P a := by
 obtain ⟨b, e2, h⟩ := h
 rw [e] at e2
 exact (Option.some.inj e2) ▸ h
theorem and_rng {x m : Int32} (hm : 0 ≤ m.toInt) : 0 ≤ (x &&& m).toInt ∧ (x &&& m).toInt ≤ m.toInt := by
 have e : (x &&& m).toBitVec.toNat = x.toBitVec.toNat &&& m.toBitVec.toNat := BitVec.toNat_and ..
 have l : (x &&& m).toBitVec.toNat ≤ m.toBitVec.toNat := by rw [e]; exact Nat.and_le_right
 have c1 : m.toInt = if 2 * m.toBitVec.toNat < 2 ^ 32 then (m.toBitVec.toNat : Int) else m.toBitVec.toNat - (2 ^ 32 : Nat) := BitVec.toInt_eq_toNat_cond m.toBitVec
 have c2 : (x &&& m).toInt = if 2 * (x &&& m).toBitVec.toNat < 2 ^ 32 then ((x &&& m).toBitVec.toNat : Int) else (x &&& m).toBitVec.toNat - (2 ^ 32 : Nat) := BitVec.toInt_eq_toNat_cond (x &&& m).toBitVec
 have b : m.toBitVec.toNat < 2 ^ 32 := m.toBitVec.isLt
 by_cases h : 2 * m.toBitVec.toNat < 2 ^ 32
 ·rw [if_pos h] at c1
  rw [if_pos (by omega)] at c2
  omega
 ·rw [if_neg h] at c1
  omega
theorem mod_rng {x m : Int32} (hx : 0 ≤ x.toInt) (hm : 0 < m.toInt) : 0 ≤ (x % m).toInt ∧ (x % m).toInt < m.toInt := by
 rw [Int32.toInt_mod, Int.tmod_eq_emod_of_nonneg hx]
 exact ⟨Int.emod_nonneg _ (by omega), Int.emod_lt_of_pos _ hm⟩
def sFit (s : List Int32) (τ : QHeap) : Prop := τ.length - List.length ([Sum.inr (Sum.inl (FieldType.int, s))] : QHeap) ≤ room_1.cells ∧ qhs τ - qhs [Sum.inr (Sum.inl (FieldType.int, s))] ≤ room_1.slots
theorem inc1 {x : Int32} (h : x.toInt < 2147483647) : (x + 1).toInt = x.toInt + 1 := by
 have := i_lo x
 have e1 : (1 : Int32).toInt = 1 := rfl
 rw [i_add (by omega) (by omega), e1]
abbrev Core := List Int32 × List Int32 × Int32 × Int32 × Int32 × Int32 × Int32 × Int32 × List Int32 × List Int32 × List Int32
def core (o : Ob) : Core := (f_data o, f_filled o, f_nRows o, f_nForms o, f_rf o, f_cf o, f_vf o, f_ag o, f_fMode o, f_fRk o, f_fCk o)
def kDa (K : Core) : List Int32 := K.1
def kG (K : Core) : List Int32 := K.2.1
def kR (K : Core) : Int32 := K.2.2.1
def kN (K : Core) : Int32 := K.2.2.2.1
def krf (K : Core) : Int32 := K.2.2.2.2.1
def kcf (K : Core) : Int32 := K.2.2.2.2.2.1
def kvf (K : Core) : Int32 := K.2.2.2.2.2.2.1
def kag (K : Core) : Int32 := K.2.2.2.2.2.2.2.1
def kM (K : Core) : List Int32 := K.2.2.2.2.2.2.2.2.1
def kFa (K : Core) : List Int32 := K.2.2.2.2.2.2.2.2.2.1
def kFb (K : Core) : List Int32 := K.2.2.2.2.2.2.2.2.2.2
def WF (K : Core) : Prop := (kDa K).length = 128 ∧ (kG K).length = 32 ∧ (∀ r, r < 32 → (kG K)[r]? = some 0 ∨ (kG K)[r]? = some 1) ∧ (4 ≤ (kR K).toInt ∧ (kR K).toInt ≤ 32) ∧ (1 ≤ (kN K).toInt ∧ (kN K).toInt ≤ 16) ∧ (0 ≤ (krf K).toInt ∧ (krf K).toInt < 4) ∧ (0 ≤ (kcf K).toInt ∧ (kcf K).toInt < 4) ∧ (0 ≤ (kvf K).toInt ∧ (kvf K).toInt < 4) ∧ (kM K).length = 16 ∧ (kFa K).length = 16 ∧ (kFb K).length = 16
theorem WF.d {K : Core} (h : WF K) : (kDa K).length = 128 := h.1
theorem WF.g {K : Core} (h : WF K) : (kG K).length = 32 := h.2.1
theorem WF.b {K : Core} (h : WF K) : ∀ r, r < 32 → (kG K)[r]? = some 0 ∨ (kG K)[r]? = some 1 := h.2.2.1
theorem WF.r {K : Core} (h : WF K) : 4 ≤ (kR K).toInt ∧ (kR K).toInt ≤ 32 := h.2.2.2.1
theorem WF.n {K : Core} (h : WF K) : 1 ≤ (kN K).toInt ∧ (kN K).toInt ≤ 16 := h.2.2.2.2.1
theorem WF.rf {K : Core} (h : WF K) : 0 ≤ (krf K).toInt ∧ (krf K).toInt < 4 := h.2.2.2.2.2.1
theorem WF.cf {K : Core} (h : WF K) : 0 ≤ (kcf K).toInt ∧ (kcf K).toInt < 4 := h.2.2.2.2.2.2.1
theorem WF.vf {K : Core} (h : WF K) : 0 ≤ (kvf K).toInt ∧ (kvf K).toInt < 4 := h.2.2.2.2.2.2.2.1
theorem WF.m {K : Core} (h : WF K) : (kM K).length = 16 := h.2.2.2.2.2.2.2.2.1
theorem WF.a {K : Core} (h : WF K) : (kFa K).length = 16 := h.2.2.2.2.2.2.2.2.2.1
theorem WF.c {K : Core} (h : WF K) : (kFb K).length = 16 := h.2.2.2.2.2.2.2.2.2.2
def Sh (K : Core) (L : Int32) (o : Ob) : Prop := core o = K ∧ f_last o = L ∧ (f_prevVal o).length = 16 ∧ (f_prevFound o).length = 16 ∧ (f_keys o).length = 64
theorem Sh.D {K : Core} {L : Int32} {o : Ob} (h : Sh K L o) : f_data o = kDa K := by rw [← h.1]; rfl
theorem Sh.G {K : Core} {L : Int32} {o : Ob} (h : Sh K L o) : f_filled o = kG K := by rw [← h.1]; rfl
theorem Sh.R {K : Core} {L : Int32} {o : Ob} (h : Sh K L o) : f_nRows o = kR K := by rw [← h.1]; rfl
theorem Sh.N {K : Core} {L : Int32} {o : Ob} (h : Sh K L o) : f_nForms o = kN K := by rw [← h.1]; rfl
theorem Sh.rf {K : Core} {L : Int32} {o : Ob} (h : Sh K L o) : f_rf o = krf K := by rw [← h.1]; rfl
theorem Sh.cf {K : Core} {L : Int32} {o : Ob} (h : Sh K L o) : f_cf o = kcf K := by rw [← h.1]; rfl
theorem Sh.vf {K : Core} {L : Int32} {o : Ob} (h : Sh K L o) : f_vf o = kvf K := by rw [← h.1]; rfl
theorem Sh.ag {K : Core} {L : Int32} {o : Ob} (h : Sh K L o) : f_ag o = kag K := by rw [← h.1]; rfl
theorem Sh.M {K : Core} {L : Int32} {o : Ob} (h : Sh K L o) : f_fMode o = kM K := by rw [← h.1]; rfl
theorem Sh.A {K : Core} {L : Int32} {o : Ob} (h : Sh K L o) : f_fRk o = kFa K := by rw [← h.1]; rfl
theorem Sh.B {K : Core} {L : Int32} {o : Ob} (h : Sh K L o) : f_fCk o = kFb K := by rw [← h.1]; rfl
theorem Sh.prevVal {K : Core} {L : Int32} {o : Ob} (h : Sh K L o) {x : List Int32} (l : x.length = 16) : Sh K L (s_prevVal o x) := ⟨h.1, h.2.1, l, h.2.2.2.1, h.2.2.2.2⟩
theorem Sh.prevFound {K : Core} {L : Int32} {o : Ob} (h : Sh K L o) {x : List Int32} (l : x.length = 16) : Sh K L (s_prevFound o x) := ⟨h.1, h.2.1, h.2.2.1, l, h.2.2.2.2⟩
theorem Sh.keys {K : Core} {L : Int32} {o : Ob} (h : Sh K L o) {x : List Int32} (l : x.length = 64) : Sh K L (s_keys o x) := ⟨h.1, h.2.1, h.2.2.1, h.2.2.2.1, l⟩
theorem Sh.selUseR {K : Core} {L : Int32} {o : Ob} (h : Sh K L o) {x : Int32} : Sh K L (s_selUseR o x) := h
theorem Sh.selRk {K : Core} {L : Int32} {o : Ob} (h : Sh K L o) {x : Int32} : Sh K L (s_selRk o x) := h
theorem Sh.selUseC {K : Core} {L : Int32} {o : Ob} (h : Sh K L o) {x : Int32} : Sh K L (s_selUseC o x) := h
theorem Sh.selCk {K : Core} {L : Int32} {o : Ob} (h : Sh K L o) {x : Int32} : Sh K L (s_selCk o x) := h
theorem Sh.gCount {K : Core} {L : Int32} {o : Ob} (h : Sh K L o) {x : Int32} : Sh K L (s_gCount o x) := h
theorem Sh.gVal {K : Core} {L : Int32} {o : Ob} (h : Sh K L o) {x : Int32} : Sh K L (s_gVal o x) := h
theorem Sh.last {K : Core} {L : Int32} {o : Ob} (h : Sh K L o) {x : Int32} : Sh K x (s_last o x) := ⟨h.1, rfl, h.2.2⟩
def fld (K : Core) (r : Nat) (f : Int32) : Int32 := ((kDa K)[r * 4 + f.toInt.toNat]?).getD 0
def fil (K : Core) (r : Nat) : Bool := ((kG K)[r]?).getD 0 != 0
def cnd (K : Core) (u a w b : Int32) (r : Nat) : Bool := fil K r && ((u == 0 || fld K r (krf K) == a) && (w == 0 || fld K r (kcf K) == b))
def vN (K : Core) (u a w b : Int32) (n : Nat) : List Int32 := ((List.range n).filter (cnd K u a w b)).map (fun r => fld K r (kvf K))
def stp (x : Int32 × Int32 × Int32 × Int32) (v : Int32) : Int32 × Int32 × Int32 × Int32 := (x.1 + v, x.2.1 + 1, (if x.2.1 = 0 then v else if v < x.2.2.1 then v else x.2.2.1), (if x.2.1 = 0 then v else if x.2.2.2 < v then v else x.2.2.2))
def ev (l : List Int32) : Int32 × Int32 × Int32 × Int32 := l.foldl stp (0, 0, 0, 0)
def pick (ag : Int32) (x : Int32 × Int32 × Int32 × Int32) : Int32 := if x.2.1 = 0 then 0 else if ag = 1 then x.2.1 else if ag = 2 then x.2.2.1 else if ag = 3 then x.2.2.2 else x.1
def nR (K : Core) : Nat := (kR K).toInt.toNat
def grp (K : Core) (u a w b : Int32) : Int32 × Int32 := (pick (kag K) (ev (vN K u a w b (nR K))), (ev (vN K u a w b (nR K))).2.1)
def ins (v : Int32) : List Int32 → List Int32
 | [] => [v]
 | k :: t => if k < v then k :: ins v t else if k = v then k :: t else v :: k :: t
def keyN (K : Core) (f : Int32) (n : Nat) : List Int32 := ((List.range n).filter (fil K)).foldl (fun l r => ins (fld K r f) l) []
def kys (K : Core) (f : Int32) : List Int32 := keyN K f (nR K)
theorem vN_s (K : Core) (u a w b : Int32) (n : Nat) : vN K u a w b (n + 1) = if cnd K u a w b n then vN K u a w b n ++ [fld K n (kvf K)] else vN K u a w b n := by
 unfold vN
 rw [List.range_succ, List.filter_append, List.map_append]
 by_cases h : cnd K u a w b n = true
 ·rw [if_pos h, List.filter_cons_of_pos h]; rfl
 ·rw [if_neg h, List.filter_cons_of_neg h]; simp
theorem ev_s (l : List Int32) (v : Int32) : ev (l ++ [v]) = stp (ev l) v := by
 unfold ev
 rw [List.foldl_append]; rfl
theorem keyN_s (K : Core) (f : Int32) (n : Nat) : keyN K f (n + 1) = if fil K n then ins (fld K n f) (keyN K f n) else keyN K f n := by
 unfold keyN
 rw [List.range_succ, List.filter_append, List.foldl_append]
 by_cases h : fil K n = true
 ·rw [if_pos h, List.filter_cons_of_pos h]; rfl
 ·rw [if_neg h, List.filter_cons_of_neg h]; rfl
theorem ag_fil {K : Core} (w : WF K) {i : Int32} (h0 : 0 ≤ i.toInt) (h1 : i.toInt < 32) : aget (kG K) i = some (((kG K)[i.toInt.toNat]?).getD 0) := by
 rw [aget_at (n := i.toInt.toNat) (by omega) (by rw [w.g]; omega), List.getElem?_eq_getElem (by rw [w.g]; omega)]; rfl
theorem idx {r f : Int32} (h : 0 ≤ r.toInt ∧ r.toInt < 32) (g : 0 ≤ f.toInt ∧ f.toInt < 4) : (r * 4 + f).toInt = r.toInt * 4 + f.toInt := by
 have e4 : (r * 4).toInt = r.toInt * 4 := i_mul (x := r) (y := 4) (by show _ ≤ r.toInt * 4; omega) (by show r.toInt * 4 < _; omega)
 rw [i_add (by omega) (by omega), e4]
theorem ag_fld {K : Core} (w : WF K) {r f : Int32} (h : 0 ≤ r.toInt ∧ r.toInt < 32) (g : 0 ≤ f.toInt ∧ f.toInt < 4) : aget (kDa K) (r * 4 + f) = some (fld K r.toInt.toNat f) := by
 have e := idx h g
 unfold fld
 rw [aget_at (n := r.toInt.toNat * 4 + f.toInt.toNat) (by omega) (by rw [w.d]; omega), List.getElem?_eq_getElem (by rw [w.d]; omega)]; rfl
theorem eval_ok {K : Core} (wf : WF K) {L : Int32} {o : Ob} (h : Sh K L o) (u a w b : Int32) : F11 o u a w b = some (s_gVal (s_gCount o (grp K u a w b).2) (grp K u a w b).1) := by
 have r32 := wf.r
 unfold F11
 have lp : okP (loopN (B11_15 o u a w b) qN (0, 0, 0, 0, 0)) (fun e => e = ev (vN K u a w b (nR K))) := by
  refine okP.loop (fun v => 0 ≤ v.2.2.2.2.toInt ∧ v.2.2.2.2.toInt ≤ (kR K).toInt ∧ (v.1, v.2.1, v.2.2.1, v.2.2.2.1) = ev (vN K u a w b v.2.2.2.2.toInt.toNat)) (fun v => ((kR K).toInt - v.2.2.2.2.toInt).toNat) ⟨by show (0 : Int) ≤ 0; decide, by show (0 : Int) ≤ (kR K).toInt; omega, rfl⟩ (by show ((kR K).toInt - (0 : Int)).toNat < 4000; omega) ?_
  rintro ⟨x1, x2, x3, x4, i⟩ ⟨a1, a2, a3⟩
  simp only at a1 a2 a3
  unfold B11_15
  simp only
  rw [h.R]
  apply okP.ite <;> intro c
  ·rw [i_lt] at c
   have e2 : (i + 1).toInt = i.toInt + 1 := inc1 (by omega)
   have en : (i + 1).toInt.toNat = i.toInt.toNat + 1 := by omega
   have no : ∀ (y1 y2 y3 y4 : Int32), (y1, y2, y3, y4) = ev (vN K u a w b (i.toInt.toNat + 1)) → okP (J11_152 o u a w b y1 y2 y3 y4 i) (fun r => Sum.elim (fun e => e = ev (vN K u a w b (nR K))) (fun v => (0 ≤ v.2.2.2.2.toInt ∧ v.2.2.2.2.toInt ≤ (kR K).toInt ∧ (v.1, v.2.1, v.2.2.1, v.2.2.2.1) = ev (vN K u a w b v.2.2.2.2.toInt.toNat)) ∧ ((kR K).toInt - v.2.2.2.2.toInt).toNat < ((kR K).toInt - i.toInt).toNat) r) := by
    intro y1 y2 y3 y4 hy
    unfold J11_152
    apply okP.some
    exact ⟨⟨by simp only; omega, by simp only; omega, by simp only [en]; exact hy⟩, by simp only; omega⟩
   have skip : cnd K u a w b i.toInt.toNat = false → okP (J11_152 o u a w b x1 x2 x3 x4 i) (fun r => Sum.elim (fun e => e = ev (vN K u a w b (nR K))) (fun v => (0 ≤ v.2.2.2.2.toInt ∧ v.2.2.2.2.toInt ≤ (kR K).toInt ∧ (v.1, v.2.1, v.2.2.1, v.2.2.2.1) = ev (vN K u a w b v.2.2.2.2.toInt.toNat)) ∧ ((kR K).toInt - v.2.2.2.2.toInt).toNat < ((kR K).toInt - i.toInt).toNat) r) := by
    intro hc
    exact no _ _ _ _ (by rw [vN_s, hc]; exact a3)
   rw [h.G, ag_fil wf a1 (by omega)]
   simp only [Option.bind_some]
   by_cases f0 : ((kG K)[i.toInt.toNat]?).getD 0 = 0
   ·rw [if_pos f0]
    exact skip (by unfold cnd fil; rw [f0]; rfl)
   rw [if_neg f0]
   have fi : fil K i.toInt.toNat = true := by unfold fil; rw [bne_iff_ne]; exact f0
   have take : cnd K u a w b i.toInt.toNat = true → okP (J11_90 o u a w b x1 x2 x3 x4 i (i * 4)) (fun r => Sum.elim (fun e => e = ev (vN K u a w b (nR K))) (fun v => (0 ≤ v.2.2.2.2.toInt ∧ v.2.2.2.2.toInt ≤ (kR K).toInt ∧ (v.1, v.2.1, v.2.2.1, v.2.2.2.1) = ev (vN K u a w b v.2.2.2.2.toInt.toNat)) ∧ ((kR K).toInt - v.2.2.2.2.toInt).toNat < ((kR K).toInt - i.toInt).toNat) r) := by
    intro hc
    unfold J11_90
    rw [h.D, h.vf, ag_fld wf ⟨a1, by omega⟩ wf.vf]
    simp only [Option.bind_some]
    exact no _ _ _ _ (by rw [vN_s, hc, if_pos rfl, ev_s, ← a3]; rfl)
   have col : (u == 0 || fld K i.toInt.toNat (krf K) == a) = true → okP (J11_66 o u a w b x1 x2 x3 x4 i (i * 4)) (fun r => Sum.elim (fun e => e = ev (vN K u a w b (nR K))) (fun v => (0 ≤ v.2.2.2.2.toInt ∧ v.2.2.2.2.toInt ≤ (kR K).toInt ∧ (v.1, v.2.1, v.2.2.1, v.2.2.2.1) = ev (vN K u a w b v.2.2.2.2.toInt.toNat)) ∧ ((kR K).toInt - v.2.2.2.2.toInt).toNat < ((kR K).toInt - i.toInt).toNat) r) := by
    intro hr
    unfold J11_66
    by_cases w0 : w = 0
    ·rw [if_pos w0]
     exact take (by unfold cnd; rw [fi, hr, w0]; rfl)
    ·rw [if_neg w0, h.D, h.cf, ag_fld wf ⟨a1, by omega⟩ wf.cf]
     simp only [Option.bind_some]
     by_cases e : fld K i.toInt.toNat (kcf K) = b
     ·rw [if_pos e]
      exact take (by unfold cnd; rw [fi, hr, e]; simp)
     ·rw [if_neg e]
      exact skip (by unfold cnd; rw [fi, hr, beq_false_of_ne w0, beq_false_of_ne e]; rfl)
   by_cases u0 : u = 0
   ·rw [if_pos u0]
    exact col (by rw [u0]; rfl)
   ·rw [if_neg u0, h.D, h.rf, ag_fld wf ⟨a1, by omega⟩ wf.rf]
    simp only [Option.bind_some]
    by_cases e : fld K i.toInt.toNat (krf K) = a
    ·rw [if_pos e]
     exact col (by rw [e]; simp)
    ·rw [if_neg e]
     exact skip (by unfold cnd; rw [fi, beq_false_of_ne u0, beq_false_of_ne e]; rfl)
  ·rw [i_lt] at c
   apply okP.some
   have : i.toInt.toNat = nR K := by unfold nR; omega
   rw [this] at a3
   exact a3
 obtain ⟨e, he, ee⟩ := lp
 rw [he, ee]
 simp only [Option.bind_some]
 have pk : ∀ (x1 x2 x3 x4 : Int32) (p : Ob), f_ag p = kag K → F12 p x2 x1 x3 x4 = some (pick (kag K) (x1, x2, x3, x4)) := by
  intro x1 x2 x3 x4 p hp
  unfold F12 pick
  rw [hp]
  simp only
  split
  ·rfl
  split
  ·rfl
  split
  ·rfl
  split <;> rfl
 have pk' := pk (ev (vN K u a w b (nR K))).1 (ev (vN K u a w b (nR K))).2.1 (ev (vN K u a w b (nR K))).2.2.1 (ev (vN K u a w b (nR K))).2.2.2 (s_gCount o (ev (vN K u a w b (nR K))).2.1) h.ag
 rw [pk']
 rfl
def ltP (v : Int32) : List Int32 → Nat
 | [] => 0
 | k :: t => if k < v then ltP v t + 1 else 0
theorem ltP_le (v : Int32) : ∀ l : List Int32, ltP v l ≤ l.length
 | [] => Nat.le_refl 0
 | k :: t => by
  unfold ltP
  split
  ·exact Nat.succ_le_succ (ltP_le v t)
  ·exact Nat.zero_le _
theorem ltP_lt {v : Int32} : ∀ {l : List Int32} {i : Nat} {k : Int32}, i < ltP v l → l[i]? = some k → k < v
 | [], i, k, h, _ => absurd h (Nat.not_lt_zero _)
 | x :: t, i, k, h, g => by
  unfold ltP at h
  by_cases c : x < v
  ·rw [if_pos c] at h
   cases i with
   | zero => rw [List.getElem?_cons_zero] at g; cases g; exact c
   | succ j => rw [List.getElem?_cons_succ] at g; exact ltP_lt (by omega) g
  ·rw [if_neg c] at h; exact absurd h (Nat.not_lt_zero _)
theorem ltP_ge {v : Int32} : ∀ {l : List Int32} {k : Int32}, l[ltP v l]? = some k → ¬ k < v
 | [], k, g => by cases g
 | x :: t, k, g => by
  unfold ltP at g
  by_cases c : x < v
  ·rw [if_pos c, List.getElem?_cons_succ] at g; exact ltP_ge g
  ·rw [if_neg c, List.getElem?_cons_zero] at g; cases g; exact c
theorem ins_same {v : Int32} : ∀ {l : List Int32}, l[ltP v l]? = some v → ins v l = l
 | [], g => by cases g
 | x :: t, g => by
  unfold ltP at g
  unfold ins
  by_cases c : x < v
  ·rw [if_pos c, List.getElem?_cons_succ] at g
   rw [if_pos c, ins_same g]
  ·rw [if_neg c, List.getElem?_cons_zero] at g
   rw [if_neg c, if_pos (by cases g; rfl)]
theorem ins_new {v : Int32} : ∀ {l : List Int32}, l[ltP v l]? ≠ some v → ins v l = l.take (ltP v l) ++ v :: l.drop (ltP v l)
 | [], _ => rfl
 | x :: t, g => by
  unfold ltP at g
  unfold ins ltP
  by_cases c : x < v
  ·rw [if_pos c, List.getElem?_cons_succ] at g
   rw [if_pos c, if_pos c, ins_new g]; rfl
  ·rw [if_neg c, List.getElem?_cons_zero] at g
   rw [if_neg c, if_neg c, if_neg (by intro e; exact g (by rw [e]))]; rfl
theorem ins_len (v : Int32) (l : List Int32) : (ins v l).length ≤ l.length + 1 := by
 by_cases g : l[ltP v l]? = some v
 ·rw [ins_same g]; omega
 ·rw [ins_new g]
  have := ltP_le v l
  simp only [List.length_append, List.length_take, List.length_cons, List.length_drop]; omega
theorem keyN_len (K : Core) (f : Int32) : ∀ n, (keyN K f n).length ≤ n
 | 0 => Nat.le_refl 0
 | n + 1 => by
  have := keyN_len K f n
  rw [keyN_s]
  split
  ·have := ins_len (fld K n f) (keyN K f n); omega
  ·omega
def Seg (X : List Int32) (b : Nat) (k : List Int32) : Prop := ∀ i, i < k.length → X[b + i]? = k[i]?
theorem ag_n {X : List Int32} {j : Int32} {n : Nat} {v : Int32} (hj : j.toInt = n) (h : X[n]? = some v) : aget X j = some v := by
 unfold aget
 rw [if_neg (by rw [i_lt]; show ¬ j.toInt < 0; omega), i_nat, hj, Int.toNat_natCast]
 exact h
theorem ins_ok {K : Core} {L : Int32} {o : Ob} (h : Sh K L o) {b n v : Int32} {k : List Int32} {U : Nat} (hb : b.toInt = U) (hU : U + 32 ≤ 64) (hn : n.toInt = k.length) (hk : k.length < 32) (hs : Seg (f_keys o) U k) : okP (F24 o b n v) (fun r => r.1.toInt = (ins v k).length ∧ ∃ X, r.2 = s_keys o X ∧ X.length = 64 ∧ Seg X U (ins v k) ∧ ∀ j, j < U ∨ U + 32 ≤ j → X[j]? = (f_keys o)[j]?) := by
 have lk := h.2.2.2.2
 have z0 : (0 : Int32).toInt = 0 := rfl
 have z1 : (1 : Int32).toInt = 1 := rfl
 have z32 : (32 : Int32).toInt = 32 := rfl
 have pl := ltP_le v k
 have same : s_keys o (f_keys o) = o := rfl
 unfold F24
 rw [if_neg (by rw [i_lt, z0]; omega), if_pos (by rw [i_lt, z32]; omega)]
 have l1 : okP (loopN (B24_15 o b n v) qN 0) (fun p => p.toInt = ltP v k) := by
  refine okP.loop (fun p => 0 ≤ p.toInt ∧ p.toInt ≤ ltP v k) (fun p => (32 - p.toInt).toNat) ⟨by show (0 : Int) ≤ 0; decide, by show (0 : Int) ≤ ltP v k; omega⟩ (by show (32 - (0 : Int)).toNat < 4000; decide) ?_
  rintro p ⟨a1, a2⟩
  unfold B24_15
  apply okP.ite <;> intro c
  ·rw [i_lt] at c
   have e : (b + p).toInt = (U + p.toInt.toNat : Nat) := by rw [i_add (by omega) (by omega)]; omega
   have g := hs p.toInt.toNat (by omega)
   rw [List.getElem?_eq_getElem (l := k) (by omega)] at g
   rw [ag_n e g]
   simp only [Option.bind_some]
   apply okP.ite <;> intro d
   ·apply okP.some
    have : p.toInt.toNat ≠ ltP v k := fun q => ltP_ge (l := k) (by rw [← q]; exact List.getElem?_eq_getElem (by omega)) d
    have e2 : (p + 1).toInt = p.toInt + 1 := inc1 (by omega)
    exact ⟨⟨by omega, by omega⟩, by omega⟩
   ·apply okP.some
    have : ¬ p.toInt.toNat < ltP v k := fun q => d (ltP_lt q (List.getElem?_eq_getElem (by omega)))
    show p.toInt = _
    omega
  ·rw [i_lt] at c
   apply okP.some
   show p.toInt = _
   omega
 apply okP.bind
 refine okP.mono l1 ?_
 intro p hp
 have new : k[ltP v k]? ≠ some v → okP (J24_61 o b n v p) (fun r => r.1.toInt = (ins v k).length ∧ ∃ X, r.2 = s_keys o X ∧ X.length = 64 ∧ Seg X U (ins v k) ∧ ∀ j, j < U ∨ U + 32 ≤ j → X[j]? = (f_keys o)[j]?) := by
  intro ne
  unfold J24_61
  apply okP.bind
  have l2 : okP (loopN (B24_64 b n v p) qN (n, o)) (fun q => ∃ X, q = s_keys o X ∧ X.length = 64 ∧ (∀ i, i ≤ ltP v k → X[U + i]? = (f_keys o)[U + i]?) ∧ (∀ i, ltP v k < i → i ≤ k.length → X[U + i]? = (f_keys o)[U + (i - 1)]?) ∧ ∀ j, j < U ∨ U + 32 ≤ j → X[j]? = (f_keys o)[j]?) := by
   refine okP.loop (fun w => (ltP v k : Int) ≤ w.1.toInt ∧ w.1.toInt ≤ k.length ∧ ∃ X, w.2 = s_keys o X ∧ X.length = 64 ∧ (∀ i, i ≤ w.1.toInt.toNat → X[U + i]? = (f_keys o)[U + i]?) ∧ (∀ i, w.1.toInt.toNat < i → i ≤ k.length → X[U + i]? = (f_keys o)[U + (i - 1)]?) ∧ ∀ j, j < U ∨ U + 32 ≤ j → X[j]? = (f_keys o)[j]?) (fun w => w.1.toInt.toNat) ⟨by simp only; omega, by simp only; omega, f_keys o, same.symm, lk, fun _ _ => rfl, fun i a b => by simp only at a; omega, fun _ _ => rfl⟩ (by show n.toInt.toNat < 4000; omega) ?_
   rintro ⟨i, q⟩ ⟨a1, a2, X, a3, a4, a5, a6, a7⟩
   simp only at a1 a2 a3 a5 a6
   subst a3
   unfold B24_64
   simp only
   apply okP.ite <;> intro c
   ·rw [i_lt] at c
    have kx : f_keys (s_keys o X) = X := rfl
    have kxx : ∀ Y, s_keys (s_keys o X) Y = s_keys o Y := fun _ => rfl
    rw [kx]
    have e1 : (b + i).toInt = (U + i.toInt.toNat : Nat) := by rw [i_add (by omega) (by omega)]; omega
    have e2 : (b + i - 1).toInt = (U + (i.toInt.toNat - 1) : Nat) := by rw [i_sub (by rw [e1, z1]; omega) (by rw [e1, z1]; omega), e1, z1]; omega
    obtain ⟨y, hy⟩ : ∃ y, X[U + (i.toInt.toNat - 1)]? = some y := ⟨_, List.getElem?_eq_getElem (by omega)⟩
    rw [ag_n e2 hy]
    clear e2
    simp only [Option.bind_some]
    rw [aset_at e1 (by omega)]
    clear e1
    simp only [Option.bind_some]
    rw [kxx]
    apply okP.some
    obtain ⟨i', hi'⟩ : ∃ i' : Int32, i' = i + -1 := ⟨_, rfl⟩
    rw [← hi']
    have e3 : i'.toInt = i.toInt - 1 := by
     have m1 : (-1 : Int32).toInt = -1 := rfl
     rw [hi', i_add (by rw [m1]; omega) (by rw [m1]; omega), m1]; omega
    clear hi'
    refine ⟨⟨by simp only; omega, by simp only; omega, _, rfl, by rw [List.length_set]; exact a4, ?_, ?_, ?_⟩, by simp only; omega⟩
    ·intro j hj
     simp only at hj
     rw [List.getElem?_set_ne (by omega)]
     exact a5 j (by omega)
    ·intro j hj1 hj2
     simp only at hj1
     by_cases e : j = i.toInt.toNat
     ·rw [e, List.getElem?_set_self (by omega), ← hy]
      exact a5 _ (by omega)
     ·rw [List.getElem?_set_ne (by omega)]
      exact a6 j (by omega) hj2
    ·intro j hj
     rw [List.getElem?_set_ne (by omega)]
     exact a7 j hj
   ·rw [i_lt] at c
    have : i.toInt.toNat = ltP v k := by omega
    rw [this] at a5 a6
    exact okP.some ⟨X, rfl, a4, a5, a6, a7⟩
  refine okP.mono l2 ?_
  rintro q ⟨X, rfl, a4, a5, a6, a7⟩
  have kx : f_keys (s_keys o X) = X := rfl
  have kxx : ∀ Y, s_keys (s_keys o X) Y = s_keys o Y := fun _ => rfl
  rw [kx]
  have e1 : (b + p).toInt = (U + ltP v k : Nat) := by rw [i_add (by omega) (by omega)]; omega
  rw [aset_at e1 (by omega)]
  simp only [Option.bind_some]
  rw [kxx]
  have il : (ins v k).length = k.length + 1 := by
   rw [ins_new ne]
   simp only [List.length_append, List.length_take, List.length_cons, List.length_drop]; omega
  refine okP.some ⟨by simp only; rw [inc1 (by omega), il]; omega, _, rfl, by rw [List.length_set]; exact a4, ?_, ?_⟩
  ·intro i hi
   rw [il] at hi
   rw [ins_new ne]
   by_cases c : i < ltP v k
   ·rw [List.getElem?_set_ne (by omega), a5 i (by omega), hs i (by omega), List.getElem?_append_left (by rw [List.length_take]; omega), List.getElem?_take, if_pos c]
   ·have lt : (List.take (ltP v k) k).length = ltP v k := by rw [List.length_take]; omega
    rw [List.getElem?_append_right (by omega), lt]
    by_cases d : i = ltP v k
    ·rw [d, List.getElem?_set_self (by omega), Nat.sub_self]; rfl
    ·rw [List.getElem?_set_ne (by omega), a6 i (by omega) (by omega), hs (i - 1) (by omega), show i - ltP v k = (i - 1 - ltP v k) + 1 by omega, List.getElem?_cons_succ, List.getElem?_drop]
     congr 1; omega
  ·intro j hj
   rw [List.getElem?_set_ne (by omega)]
   exact a7 j hj
 unfold J24_40
 apply okP.ite <;> intro c
 ·rw [i_lt] at c
  have e1 : (b + p).toInt = (U + ltP v k : Nat) := by rw [i_add (by omega) (by omega)]; omega
  have g := hs (ltP v k) (by omega)
  rw [List.getElem?_eq_getElem (l := k) (by omega)] at g
  rw [ag_n e1 g]
  simp only [Option.bind_some]
  apply okP.ite <;> intro d
  ·have s := ins_same (v := v) (l := k) (by rw [List.getElem?_eq_getElem (by omega), d])
   rw [s]
   exact okP.some ⟨hn, f_keys o, same.symm, lk, hs, fun _ _ => rfl⟩
  ·exact new (by rw [List.getElem?_eq_getElem (by omega)]; intro q; exact d (Option.some.inj q))
 ·rw [i_lt] at c
  exact new (by rw [List.getElem?_eq_none (by omega)]; intro q; cases q)
theorem keys_ok {K : Core} (wf : WF K) {L : Int32} {o : Ob} (h : Sh K L o) {f b : Int32} {U : Nat} (hf : 0 ≤ f.toInt ∧ f.toInt < 4) (hb : b.toInt = U) (hU : U + 32 ≤ 64) : okP (F10 o f b) (fun r => r.1.toInt = (kys K f).length ∧ ∃ X, r.2 = s_keys o X ∧ X.length = 64 ∧ Seg X U (kys K f) ∧ ∀ j, j < U ∨ U + 32 ≤ j → X[j]? = (f_keys o)[j]?) := by
 have r32 := wf.r
 unfold F10
 apply okP.bind
 refine okP.loop (fun v => 0 ≤ v.2.1.toInt ∧ v.2.1.toInt ≤ (kR K).toInt ∧ v.1.toInt = (keyN K f v.2.1.toInt.toNat).length ∧ ∃ X, v.2.2 = s_keys o X ∧ X.length = 64 ∧ Seg X U (keyN K f v.2.1.toInt.toNat) ∧ ∀ j, j < U ∨ U + 32 ≤ j → X[j]? = (f_keys o)[j]?) (fun v => ((kR K).toInt - v.2.1.toInt).toNat) ⟨by show (0 : Int) ≤ 0; decide, by show (0 : Int) ≤ (kR K).toInt; omega, rfl, f_keys o, rfl, h.2.2.2.2, fun i hi => absurd hi (Nat.not_lt_zero _), fun _ _ => rfl⟩ (by show ((kR K).toInt - (0 : Int)).toNat < 4000; omega) ?_
 rintro ⟨n, i, p⟩ ⟨a1, a2, a3, X, a4, a5, a6, a7⟩
 simp only at a1 a2 a3 a4 a6
 subst a4
 have hX := h.keys a5
 have kx : f_keys (s_keys o X) = X := rfl
 have kl := keyN_len K f i.toInt.toNat
 unfold B10_5 J10_42
 simp only
 rw [hX.R]
 apply okP.ite <;> intro c
 ·rw [i_lt] at c
  have e2 : (i + 1).toInt = i.toInt + 1 := inc1 (by omega)
  have en : (i + 1).toInt.toNat = i.toInt.toNat + 1 := by omega
  rw [hX.G, ag_fil wf a1 (by omega)]
  simp only [Option.bind_some]
  by_cases f0 : ((kG K)[i.toInt.toNat]?).getD 0 = 0
  ·rw [if_pos f0]
   have fi : fil K i.toInt.toNat = false := by unfold fil; rw [f0]; rfl
   apply okP.some
   refine ⟨⟨by simp only; omega, by simp only; omega, ?_, X, rfl, a5, ?_, a7⟩, by simp only; omega⟩
   ·simp only [en]; rw [keyN_s, fi]; exact a3
   ·simp only [en]; rw [keyN_s, fi]; exact a6
  ·rw [if_neg f0, hX.D, ag_fld wf ⟨a1, by omega⟩ hf]
   simp only [Option.bind_some]
   have fi : fil K i.toInt.toNat = true := by unfold fil; rw [bne_iff_ne]; exact f0
   apply okP.bind
   refine okP.mono (ins_ok hX (v := fld K i.toInt.toNat f) hb hU a3 (by omega) a6) ?_
   rintro r ⟨b1, Y, b2, b3, b4, b5⟩
   apply okP.some
   refine ⟨⟨by simp only; omega, by simp only; omega, ?_, Y, b2, b3, ?_, fun j hj => (b5 j hj).trans (a7 j hj)⟩, by simp only; omega⟩
   ·simp only [en]; rw [keyN_s, fi]; exact b1
   ·simp only [en]; rw [keyN_s, fi]; exact b4
 ·rw [i_lt] at c
  have : i.toInt.toNat = nR K := by unfold nR; omega
  rw [this] at a3 a6
  exact okP.some (okP.some ⟨a3, X, rfl, a5, a6, a7⟩)
def rk (K : Core) (f i : Int32) : Int32 := if i.toInt < 0 then 0 else ((kys K f)[i.toInt.toNat]?).getD 0
def inR (K : Core) (f i : Int32) : Prop := i = -1 ∨ (0 ≤ i.toInt ∧ i.toInt < (kys K f).length)
instance (K : Core) (f i : Int32) : Decidable (inR K f i) := by unfold inR; infer_instance
def pv (K : Core) (i j : Int32) : Int32 × Int32 := if inR K (krf K) i ∧ inR K (kcf K) j then grp K (if i = -1 then 0 else 1) (if i = -1 then 0 else rk K (krf K) i) (if j = -1 then 0 else 1) (if j = -1 then 0 else rk K (kcf K) j) else (0, 0)
theorem seg_get {X k : List Int32} {U : Nat} {j i : Int32} (hs : Seg X U k) (hj : j.toInt = U + i.toInt) (i0 : 0 ≤ i.toInt) (i1 : i.toInt < k.length) : aget X j = some ((k[i.toInt.toNat]?).getD 0) := by
 have g := hs i.toInt.toNat (by omega)
 rw [List.getElem?_eq_getElem (l := k) (by omega)] at g ⊢
 exact ag_n (n := U + i.toInt.toNat) (by omega) g
theorem kys_len {K : Core} (wf : WF K) (f : Int32) : (kys K f).length ≤ 32 := by
 have := keyN_len K f (nR K)
 have r := wf.r
 unfold kys
 unfold nR at this ⊢
 omega
theorem resolve_ok {K : Core} (wf : WF K) {L : Int32} {o : Ob} (h : Sh K L o) (i j : Int32) : okP (F9 o i j) (fun r => Sh K L r.2 ∧ ((r.1 = 0 ∧ ¬ (inR K (krf K) i ∧ inR K (kcf K) j)) ∨ (r.1 = 1 ∧ (inR K (krf K) i ∧ inR K (kcf K) j) ∧ f_selUseR r.2 = (if i = -1 then 0 else 1) ∧ f_selRk r.2 = (if i = -1 then 0 else rk K (krf K) i) ∧ f_selUseC r.2 = (if j = -1 then 0 else 1) ∧ f_selCk r.2 = (if j = -1 then 0 else rk K (kcf K) j)))) := by
 have z0 : (0 : Int32).toInt = 0 := rfl
 have z32 : (32 : Int32).toInt = 32 := rfl
 have m1 : (-1 : Int32).toInt = -1 := rfl
 unfold F9
 rw [h.rf]
 apply okP.bind
 refine okP.mono (keys_ok wf h (U := 0) wf.rf rfl (by decide)) ?_
 rintro ⟨n1, p1⟩ ⟨a1, X, a2, a3, a4, _⟩
 simp only at a1 a2
 subst a2
 have h1 := h.keys a3
 rw [h1.cf]
 apply okP.bind
 refine okP.mono (keys_ok wf h1 (U := 32) wf.cf rfl (by decide)) ?_
 rintro ⟨n2, p2⟩ ⟨b1, Y, b2, b3, b4, b5⟩
 simp only at b1 b2
 subst b2
 have h2 := h1.keys b3
 have s1 : Seg Y 0 (kys K (krf K)) := fun t ht => by
  have := kys_len wf (krf K)
  rw [b5 (0 + t) (by omega)]
  exact a4 t ht
 have kY : f_keys (s_keys (s_keys o X) Y) = Y := rfl
 obtain ⟨q, hq⟩ : ∃ q, q = s_keys (s_keys o X) Y := ⟨_, rfl⟩
 rw [← hq] at h2 kY ⊢
 clear hq
 have g55 : inR K (krf K) i → inR K (kcf K) j → okP (J9_55 q i j) (fun r => Sh K L r.2 ∧ ((r.1 = 0 ∧ ¬ (inR K (krf K) i ∧ inR K (kcf K) j)) ∨ (r.1 = 1 ∧ (inR K (krf K) i ∧ inR K (kcf K) j) ∧ f_selUseR r.2 = (if i = -1 then 0 else 1) ∧ f_selRk r.2 = (if i = -1 then 0 else rk K (krf K) i) ∧ f_selUseC r.2 = (if j = -1 then 0 else 1) ∧ f_selCk r.2 = (if j = -1 then 0 else rk K (kcf K) j)))) := by
  intro hi hj
  have g87 : ∀ (p : Ob) (w : Int32), Sh K L p → f_keys p = Y → f_selUseR p = (if i = -1 then 0 else 1) → w = (if i = -1 then 0 else rk K (krf K) i) → okP (J9_87 p j w) (fun r => Sh K L r.2 ∧ ((r.1 = 0 ∧ ¬ (inR K (krf K) i ∧ inR K (kcf K) j)) ∨ (r.1 = 1 ∧ (inR K (krf K) i ∧ inR K (kcf K) j) ∧ f_selUseR r.2 = (if i = -1 then 0 else 1) ∧ f_selRk r.2 = (if i = -1 then 0 else rk K (krf K) i) ∧ f_selUseC r.2 = (if j = -1 then 0 else 1) ∧ f_selCk r.2 = (if j = -1 then 0 else rk K (kcf K) j)))) := by
   intro p w hp hY hu hw
   unfold J9_87 J9_125
   by_cases e : j = -1
   ·simp only [if_pos e]
    rw [show qboo 0 = some 0 from rfl]
    simp only [Option.bind_some, if_true]
    exact okP.some ⟨(((hp.selRk).selUseC).selCk), Or.inr ⟨rfl, ⟨hi, hj⟩, hu, hw, rfl, rfl⟩⟩
   ·simp only [if_neg e]
    rw [show qboo 1 = some 1 from rfl]
    simp only [Option.bind_some]
    rw [if_neg (by decide), hY]
    rcases hj with hj | hj
    ·exact absurd hj e
    have kl := kys_len wf (kcf K)
    rw [seg_get b4 (i := j) (by rw [i_add (by omega) (by omega), z32]; rfl) hj.1 hj.2]
    simp only [Option.bind_some]
    refine okP.some ⟨(((hp.selRk).selUseC).selCk), Or.inr ⟨rfl, ⟨hi, Or.inr hj⟩, hu, hw, rfl, ?_⟩⟩
    unfold rk
    rw [if_neg (by omega)]; rfl
  unfold J9_55
  by_cases e : i = -1
  ·simp only [if_pos e]
   rw [show qboo 0 = some 0 from rfl]
   simp only [Option.bind_some, if_true]
   have := g87 (s_selUseR q 0) 0 h2.selUseR kY (by rw [if_pos e]; rfl) (by rw [if_pos e])
   simp only [if_pos e] at this
   exact this
  ·simp only [if_neg e]
   rw [show qboo 1 = some 1 from rfl]
   simp only [Option.bind_some]
   rw [if_neg (by decide), kY]
   have hi' := hi
   rcases hi' with hi' | hi'
   ·exact absurd hi' e
   rw [seg_get s1 (i := i) (by omega) hi'.1 hi'.2]
   simp only [Option.bind_some]
   have := g87 (s_selUseR q 1) (((kys K (krf K))[i.toInt.toNat]?).getD 0) h2.selUseR kY (by rw [if_neg e]; rfl) (by rw [if_neg e]; unfold rk; rw [if_neg (by omega)])
   simp only [if_neg e] at this
   exact this
 have g38 : inR K (krf K) i → okP (J9_38 q i j n2) (fun r => Sh K L r.2 ∧ ((r.1 = 0 ∧ ¬ (inR K (krf K) i ∧ inR K (kcf K) j)) ∨ (r.1 = 1 ∧ (inR K (krf K) i ∧ inR K (kcf K) j) ∧ f_selUseR r.2 = (if i = -1 then 0 else 1) ∧ f_selRk r.2 = (if i = -1 then 0 else rk K (krf K) i) ∧ f_selUseC r.2 = (if j = -1 then 0 else 1) ∧ f_selCk r.2 = (if j = -1 then 0 else rk K (kcf K) j)))) := by
  intro hi
  unfold J9_38
  by_cases e : j = -1
  ·rw [if_pos e]
   exact g55 hi (Or.inl e)
  rw [if_neg e]
  apply okP.ite <;> intro c
  ·rw [i_lt, z0] at c
   exact okP.some ⟨h2, Or.inl ⟨rfl, fun q => by rcases q.2 with q | q; exact e q; omega⟩⟩
  rw [i_lt, z0] at c
  apply okP.ite <;> intro d
  ·rw [i_lt] at d
   exact g55 hi (Or.inr ⟨by omega, by omega⟩)
  ·rw [i_lt] at d
   exact okP.some ⟨h2, Or.inl ⟨rfl, fun q => by rcases q.2 with q | q; exact e q; omega⟩⟩
 simp only
 by_cases e : i = -1
 ·rw [if_pos e]
  exact g38 (Or.inl e)
 rw [if_neg e]
 apply okP.ite <;> intro c
 ·rw [i_lt, z0] at c
  exact okP.some ⟨h2, Or.inl ⟨rfl, fun q => by rcases q.1 with q | q; exact e q; omega⟩⟩
 rw [i_lt, z0] at c
 apply okP.ite <;> intro d
 ·rw [i_lt] at d
  exact g38 (Or.inr ⟨by omega, by omega⟩)
 ·rw [i_lt] at d
  exact okP.some ⟨h2, Or.inl ⟨rfl, fun q => by rcases q.1 with q | q; exact e q; omega⟩⟩
theorem value_ok {K : Core} (wf : WF K) {L : Int32} {o : Ob} (h : Sh K L o) (i j : Int32) : okP (F8 o i j) (fun r => r.1 = (pv K i j).1 ∧ Sh K L r.2) := by
 unfold F8
 apply okP.bind
 refine okP.mono (resolve_ok wf h i j) ?_
 rintro ⟨r, p⟩ ⟨hp, ⟨r0, no⟩ | ⟨r1, yes, u1, u2, u3, u4⟩⟩
 ·simp only at r0 hp ⊢
  subst r0
  rw [if_pos rfl]
  unfold pv
  rw [if_neg no]
  exact okP.some ⟨rfl, hp⟩
 ·simp only at r1 hp u1 u2 u3 u4 ⊢
  subst r1
  rw [if_neg (by decide), eval_ok wf hp, u1, u2, u3, u4]
  simp only [Option.bind_some]
  unfold pv
  rw [if_pos yes]
  exact okP.some ⟨rfl, hp.gCount.gVal⟩
theorem count_ok {K : Core} (wf : WF K) {L : Int32} {o : Ob} (h : Sh K L o) (i j : Int32) : okP (F13 o i j) (fun r => r.1 = (pv K i j).2 ∧ Sh K L r.2) := by
 unfold F13
 apply okP.bind
 refine okP.mono (resolve_ok wf h i j) ?_
 rintro ⟨r, p⟩ ⟨hp, ⟨r0, no⟩ | ⟨r1, yes, u1, u2, u3, u4⟩⟩
 ·simp only at r0 hp ⊢
  subst r0
  rw [if_pos rfl]
  unfold pv
  rw [if_neg no]
  exact okP.some ⟨rfl, hp⟩
 ·simp only at r1 hp u1 u2 u3 u4 ⊢
  subst r1
  rw [if_neg (by decide), eval_ok wf hp, u1, u2, u3, u4]
  simp only [Option.bind_some]
  unfold pv
  rw [if_pos yes]
  exact okP.some ⟨rfl, hp.gCount.gVal⟩
theorem rkc_ok {K : Core} (wf : WF K) {L : Int32} {o : Ob} (h : Sh K L o) : okP (F14 o) (fun r => r.1.toInt = (kys K (krf K)).length ∧ Sh K L r.2) := by
 unfold F14
 rw [h.rf]
 apply okP.bind
 refine okP.mono (keys_ok wf h (U := 0) wf.rf rfl (by decide)) ?_
 rintro ⟨n1, p1⟩ ⟨a1, X, a2, a3, a4, _⟩
 simp only at a1 a2 ⊢
 subst a2
 exact okP.some ⟨a1, h.keys a3⟩
theorem ckc_ok {K : Core} (wf : WF K) {L : Int32} {o : Ob} (h : Sh K L o) : okP (F15 o) (fun r => r.1.toInt = (kys K (kcf K)).length ∧ Sh K L r.2) := by
 unfold F15
 rw [h.cf]
 apply okP.bind
 refine okP.mono (keys_ok wf h (U := 32) wf.cf rfl (by decide)) ?_
 rintro ⟨n1, p1⟩ ⟨a1, X, a2, a3, a4, _⟩
 simp only at a1 a2 ⊢
 subst a2
 exact okP.some ⟨a1, h.keys a3⟩
theorem rk_out {K : Core} {f i : Int32} (h : i.toInt < 0 ∨ (kys K f).length ≤ i.toInt) : rk K f i = 0 := by
 unfold rk
 by_cases c : i.toInt < 0
 ·rw [if_pos c]
 ·rw [if_neg c, List.getElem?_eq_none (by omega)]; rfl
theorem rowKey_ok {K : Core} (wf : WF K) {L : Int32} {o : Ob} (h : Sh K L o) (i : Int32) : okP (F25 o i) (fun r => r.1 = rk K (krf K) i ∧ Sh K L r.2) := by
 have z0 : (0 : Int32).toInt = 0 := rfl
 unfold F25
 rw [h.rf]
 apply okP.bind
 refine okP.mono (keys_ok wf h (U := 0) wf.rf rfl (by decide)) ?_
 rintro ⟨n1, p1⟩ ⟨a1, X, a2, a3, a4, _⟩
 simp only at a1 a2 ⊢
 subst a2
 apply okP.ite <;> intro c
 ·rw [i_lt, z0] at c
  exact okP.some ⟨(rk_out (Or.inl c)).symm, h.keys a3⟩
 rw [i_lt, z0] at c
 apply okP.ite <;> intro d
 ·rw [i_lt] at d
  rw [show f_keys (s_keys o X) = X from rfl, seg_get a4 (i := i) (by omega) (by omega) (by omega)]
  exact okP.some ⟨by unfold rk; rw [if_neg c], h.keys a3⟩
 ·rw [i_lt] at d
  exact okP.some ⟨(rk_out (Or.inr (by omega))).symm, h.keys a3⟩
def mo (K : Core) (s : Nat) : Int32 := ((kM K)[s]?).getD 0
def fm (K : Core) (s : Nat) : Int32 × Int32 := if mo K s = 0 then (0, 0) else grp K (if mo K s = 1 then 1 else if mo K s = 2 then 1 else 0) (((kFa K)[s]?).getD 0) (if mo K s = 1 then 1 else if mo K s = 3 then 1 else 0) (((kFb K)[s]?).getD 0)
def fnd (K : Core) (s : Nat) : Int32 := if 0 < (fm K s).2 then 1 else 0
def nN (K : Core) : Nat := (kN K).toInt.toNat
theorem ag_16 {X : List Int32} (l : X.length = 16) {i : Int32} (h0 : 0 ≤ i.toInt) (h1 : i.toInt < 16) : aget X i = some ((X[i.toInt.toNat]?).getD 0) := by
 rw [aget_at (n := i.toInt.toNat) (by omega) (by omega), List.getElem?_eq_getElem (by omega)]; rfl
theorem form_ok {K : Core} (wf : WF K) {L : Int32} {o : Ob} (h : Sh K L o) {s : Int32} (s0 : 0 ≤ s.toInt) (s1 : s.toInt < 16) : okP (F17 o s) (fun r => r = s_gVal (s_gCount o (fm K s.toInt.toNat).2) (fm K s.toInt.toNat).1) := by
 unfold F17
 rw [h.M, ag_16 wf.m s0 s1]
 simp only [Option.bind_some]
 show okP (if mo K s.toInt.toNat = 0 then _ else _) _
 unfold fm
 by_cases e : mo K s.toInt.toNat = 0
 ·rw [if_pos e, if_pos e]
  exact okP.some (by dsimp only [s_gCount, s_gVal])
 ·rw [if_neg e, if_neg e, h.A, ag_16 wf.a s0 s1, h.B, ag_16 wf.c s0 s1]
  simp only [Option.bind_some]
  rw [eval_ok wf h]
  exact okP.some rfl
def Pv (K : Core) (o : Ob) (n : Nat) : Prop := ∀ s, s < n → (f_prevVal o)[s]? = some (fm K s).1 ∧ (f_prevFound o)[s]? = some (fnd K s)
theorem bit1 (c : Prop) [Decidable c] : (if c then (1 : Int32) else 0) &&& 1 = if c then 1 else 0 := by
 split <;> rfl
theorem snap_ok {K : Core} (wf : WF K) {L : Int32} {o : Ob} (h : Sh K L o) : okP (F22 o) (fun r => Sh K L r ∧ Pv K r (nN K)) := by
 have n16 := wf.n
 unfold F22
 apply okP.bind
 refine okP.loop (fun w => 0 ≤ w.1.toInt ∧ w.1.toInt ≤ (kN K).toInt ∧ Sh K L w.2 ∧ Pv K w.2 w.1.toInt.toNat) (fun w => ((kN K).toInt - w.1.toInt).toNat) ⟨by show (0 : Int) ≤ 0; decide, by show (0 : Int) ≤ _; omega, h, fun s hs => absurd hs (Nat.not_lt_zero _)⟩ (by show ((kN K).toInt - (0 : Int)).toNat < 4000; omega) ?_
 rintro ⟨w, p⟩ ⟨a1, a2, hp, P⟩
 simp only at a1 a2 hp P
 unfold B22_2
 simp only
 rw [hp.N]
 apply okP.ite <;> intro c
 ·rw [i_lt] at c
  have e2 : (w + 1).toInt = w.toInt + 1 := inc1 (by omega)
  apply okP.bind
  refine okP.mono (form_ok wf hp a1 (by omega)) ?_
  rintro r rfl
  have h1 : Sh K L (s_gVal (s_gCount p (fm K w.toInt.toNat).2) (fm K w.toInt.toNat).1) := hp.gCount.gVal
  obtain ⟨q, hq⟩ : ∃ q, q = s_gVal (s_gCount p (fm K w.toInt.toNat).2) (fm K w.toInt.toNat).1 := ⟨_, rfl⟩
  have g1 : f_gVal q = (fm K w.toInt.toNat).1 := by rw [hq]; rfl
  have g2 : f_gCount q = (fm K w.toInt.toNat).2 := by rw [hq]; rfl
  have g3 : f_prevVal q = f_prevVal p := by rw [hq]; rfl
  have g4 : f_prevFound q = f_prevFound p := by rw [hq]; rfl
  rw [← hq] at h1 ⊢
  clear hq
  rw [g1, g2, bit1]
  have l1 := h1.2.2.1
  have l2 := h1.2.2.2.1
  apply okP.bind
  refine okP.aset a1 (by omega) ?_
  apply okP.bind
  refine okP.aset a1 (by omega) ?_
  apply okP.some
  refine ⟨⟨by simp only; omega, by simp only; omega, (h1.prevVal (by rw [List.length_set]; exact l1)).prevFound (by rw [List.length_set]; exact l2), ?_⟩, by simp only; omega⟩
  intro s hs
  simp only at hs
  show ((f_prevVal q).set w.toInt.toNat (fm K w.toInt.toNat).1)[s]? = _ ∧ ((f_prevFound q).set w.toInt.toNat (fnd K w.toInt.toNat))[s]? = _
  by_cases e : s = w.toInt.toNat
  ·rw [e, List.getElem?_set_self (by omega), List.getElem?_set_self (by omega)]
   exact ⟨rfl, rfl⟩
  ·rw [List.getElem?_set_ne (by omega), List.getElem?_set_ne (by omega), g3, g4]
   exact P s (by omega)
 ·rw [i_lt] at c
  have : w.toInt.toNat = nN K := by unfold nN; omega
  rw [this] at P
  exact okP.some (okP.some ⟨hp, P⟩)
def chg (K K' : Core) (s : Nat) : Bool := !((fm K' s).1 == (fm K s).1 && fnd K' s == fnd K s)
def cc (K K' : Core) (n : Nat) : Nat := ((List.range n).filter (chg K K')).length
theorem cc_s (K K' : Core) (n : Nat) : cc K K' (n + 1) = if chg K K' n then cc K K' n + 1 else cc K K' n := by
 unfold cc
 rw [List.range_succ, List.filter_append, List.length_append]
 by_cases h : chg K K' n = true
 ·rw [if_pos h, List.filter_cons_of_pos h]; rfl
 ·rw [if_neg h, List.filter_cons_of_neg h]; rfl
theorem cc_le (K K' : Core) (n : Nat) : cc K K' n ≤ n := by
 have := List.length_filter_le (chg K K') (List.range n)
 rw [List.length_range] at this
 exact this
theorem cc_comm (K K' : Core) (n : Nat) : cc K K' n = cc K' K n := by
 have : chg K K' = chg K' K := by
  funext s
  unfold chg
  rw [Bool.beq_comm (a := (fm K' s).1), Bool.beq_comm (a := fnd K' s)]
 unfold cc
 rw [this]
theorem chd_ok {K K' : Core} (wf : WF K') {L : Int32} {o : Ob} (h : Sh K' L o) (P : Pv K o (nN K')) : okP (F23 o) (fun r => r.1.toInt = cc K K' (nN K') ∧ Sh K' L r.2) := by
 have n16 := wf.n
 unfold F23
 apply okP.bind
 refine okP.loop (fun w => 0 ≤ w.2.1.toInt ∧ w.2.1.toInt ≤ (kN K').toInt ∧ w.1.toInt = cc K K' w.2.1.toInt.toNat ∧ Sh K' L w.2.2 ∧ Pv K w.2.2 (nN K')) (fun w => ((kN K').toInt - w.2.1.toInt).toNat) ⟨by show (0 : Int) ≤ 0; decide, by show (0 : Int) ≤ _; omega, rfl, h, P⟩ (by show ((kN K').toInt - (0 : Int)).toNat < 4000; omega) ?_
 rintro ⟨n, w, p⟩ ⟨a1, a2, a3, hp, P⟩
 simp only at a1 a2 a3 hp P
 have cl := cc_le K K' w.toInt.toNat
 unfold B23_4 J23_53 J23_56
 simp only
 rw [hp.N]
 apply okP.ite <;> intro c
 ·rw [i_lt] at c
  have e2 : (w + 1).toInt = w.toInt + 1 := inc1 (by omega)
  have en : (w + 1).toInt.toNat = w.toInt.toNat + 1 := by omega
  apply okP.bind
  refine okP.mono (form_ok wf hp a1 (by omega)) ?_
  rintro r rfl
  have h1 : Sh K' L (s_gVal (s_gCount p (fm K' w.toInt.toNat).2) (fm K' w.toInt.toNat).1) := hp.gCount.gVal
  have P1 : Pv K (s_gVal (s_gCount p (fm K' w.toInt.toNat).2) (fm K' w.toInt.toNat).1) (nN K') := P
  obtain ⟨q, hq⟩ : ∃ q, q = s_gVal (s_gCount p (fm K' w.toInt.toNat).2) (fm K' w.toInt.toNat).1 := ⟨_, rfl⟩
  have g1 : f_gVal q = (fm K' w.toInt.toNat).1 := by rw [hq]; rfl
  have g2 : f_gCount q = (fm K' w.toInt.toNat).2 := by rw [hq]; rfl
  rw [← hq] at h1 P1 ⊢
  clear hq
  rw [g1, g2]
  obtain ⟨p1, p2⟩ := P1 w.toInt.toNat (by unfold nN; omega)
  rw [ag_n (n := w.toInt.toNat) (by omega) p1]
  simp only [Option.bind_some]
  have i1 : n.toInt < 2147483647 := by omega
  have i2 := inc1 i1
  apply okP.ite <;> intro d
  ·rw [ag_n (n := w.toInt.toNat) (by omega) p2]
   simp only [Option.bind_some]
   apply okP.some
   refine ⟨⟨by simp only; omega, by simp only; omega, ?_, h1, P1⟩, by simp only; omega⟩
   simp only [en]
   rw [cc_s]
   show (if fnd K' w.toInt.toNat = fnd K w.toInt.toNat then n else n + 1).toInt = _
   by_cases e : fnd K' w.toInt.toNat = fnd K w.toInt.toNat
   ·rw [if_pos e, show chg K K' w.toInt.toNat = false from by unfold chg; rw [d, e]; simp]
    exact a3
   ·rw [if_neg e, show chg K K' w.toInt.toNat = true from by unfold chg; rw [d, beq_false_of_ne e]; simp, if_pos rfl, i2, a3]; rfl
  ·apply okP.some
   refine ⟨⟨by simp only; omega, by simp only; omega, ?_, h1, P1⟩, by simp only; omega⟩
   simp only [en]
   rw [cc_s, show chg K K' w.toInt.toNat = true from by unfold chg; rw [beq_false_of_ne d]; simp, if_pos rfl, i2, a3]; rfl
 ·rw [i_lt] at c
  have : w.toInt.toNat = nN K' := by unfold nN; omega
  rw [this] at a3
  exact okP.some (okP.some ⟨a3, hp⟩)
theorem row_ok {K : Core} {L : Int32} {o : Ob} (h : Sh K L o) (x : Int32) : F5 o x = some (if 0 ≤ x.toInt ∧ x.toInt < (kR K).toInt then 1 else 0) := by
 have z0 : (0 : Int32).toInt = 0 := rfl
 unfold F5
 rw [h.R]
 by_cases a : x < 0
 ·rw [if_pos a, if_neg (by rw [i_lt, z0] at a; omega)]
 ·rw [if_neg a]
  rw [i_lt, z0] at a
  by_cases b : x < kR K
  ·rw [if_pos b, if_pos (by rw [i_lt] at b; omega)]
  ·rw [if_neg b, if_neg (by rw [i_lt] at b; omega)]
def kSet (K : Core) (r f : Nat) (v : Int32) : Core := ((kDa K).set (r * 4 + f) v, (kG K).set r 1, K.2.2)
def kClr (K : Core) (r : Nat) : Core := (((((kDa K).set (r * 4 + 0) 0).set (r * 4 + 1) 0).set (r * 4 + 2) 0).set (r * 4 + 3) 0, (kG K).set r 0, K.2.2)
def kPiv (K : Core) (a b c g : Int32) : Core := (K.1, K.2.1, K.2.2.1, K.2.2.2.1, a, b, c, g, K.2.2.2.2.2.2.2.2)
def kFor (K : Core) (s : Nat) (m a b : Int32) : Core := (K.1, K.2.1, K.2.2.1, K.2.2.2.1, K.2.2.2.2.1, K.2.2.2.2.2.1, K.2.2.2.2.2.2.1, K.2.2.2.2.2.2.2.1, (kM K).set s m, (kFa K).set s a, (kFb K).set s b)
theorem WF.set {K : Core} (w : WF K) {r f : Nat} {v : Int32} (hr : r < 32) : WF (kSet K r f v) := by
 refine ⟨?_, ?_, ?_, w.2.2.2⟩
 ·show ((kDa K).set (r * 4 + f) v).length = 128
  rw [List.length_set]; exact w.d
 ·show ((kG K).set r 1).length = 32
  rw [List.length_set]; exact w.g
 ·intro i hi
  show ((kG K).set r 1)[i]? = some 0 ∨ ((kG K).set r 1)[i]? = some 1
  by_cases e : r = i
  ·rw [e, List.getElem?_set_self (by rw [w.g]; omega)]; exact Or.inr rfl
  ·rw [List.getElem?_set_ne e]; exact w.b i hi
theorem WF.clr {K : Core} (w : WF K) {r : Nat} (hr : r < 32) : WF (kClr K r) := by
 refine ⟨?_, ?_, ?_, w.2.2.2⟩
 ·show (((((kDa K).set (r * 4 + 0) 0).set (r * 4 + 1) 0).set (r * 4 + 2) 0).set (r * 4 + 3) 0).length = 128
  simp only [List.length_set]; exact w.d
 ·show ((kG K).set r 0).length = 32
  rw [List.length_set]; exact w.g
 ·intro i hi
  show ((kG K).set r 0)[i]? = some 0 ∨ ((kG K).set r 0)[i]? = some 1
  by_cases e : r = i
  ·rw [e, List.getElem?_set_self (by rw [w.g]; omega)]; exact Or.inl rfl
  ·rw [List.getElem?_set_ne e]; exact w.b i hi
theorem WF.piv {K : Core} (w : WF K) {a b c g : Int32} (ha : 0 ≤ a.toInt ∧ a.toInt < 4) (hb : 0 ≤ b.toInt ∧ b.toInt < 4) (hc : 0 ≤ c.toInt ∧ c.toInt < 4) : WF (kPiv K a b c g) := ⟨w.1, w.2.1, w.2.2.1, w.2.2.2.1, w.2.2.2.2.1, ha, hb, hc, w.2.2.2.2.2.2.2.2⟩
theorem WF.for {K : Core} (w : WF K) {s : Nat} {m a b : Int32} : WF (kFor K s m a b) := by
 refine ⟨w.1, w.2.1, w.2.2.1, w.2.2.2.1, w.2.2.2.2.1, w.2.2.2.2.2.1, w.2.2.2.2.2.2.1, w.2.2.2.2.2.2.2.1, ?_, ?_, ?_⟩
 ·show ((kM K).set s m).length = 16
  rw [List.length_set]; exact w.m
 ·show ((kFa K).set s a).length = 16
  rw [List.length_set]; exact w.a
 ·show ((kFb K).set s b).length = 16
  rw [List.length_set]; exact w.c
theorem Sh_cell {K : Core} {L : Int32} {o : Ob} (h : Sh K L o) {r f : Nat} {v : Int32} : Sh (kSet K r f v) L (s_filled (s_data o ((kDa K).set (r * 4 + f) v)) ((kG K).set r 1)) := by
 have h' := h
 obtain ⟨h1, h2⟩ := h'
 refine ⟨?_, h2⟩
 rw [← h1]
 dsimp only [core, kSet, kDa, kG, f_data, f_filled, f_rf, f_cf, f_vf, f_ag, f_fMode, f_fRk, f_fCk, f_prevVal, f_prevFound, f_keys, f_nRows, f_nForms, f_last, f_selUseR, f_selRk, f_selUseC, f_selCk, f_gCount, f_gVal, s_filled, s_data]
theorem Sh_piv {K : Core} {L : Int32} {o : Ob} (h : Sh K L o) {a b c g : Int32} : Sh (kPiv K a b c g) L (s_ag (s_vf (s_cf (s_rf o a) b) c) g) := by
 obtain ⟨h1, h2⟩ := h
 refine ⟨?_, ?_⟩
 ·rw [← h1]
  dsimp only [core, kPiv, f_data, f_filled, f_rf, f_cf, f_vf, f_ag, f_fMode, f_fRk, f_fCk, f_prevVal, f_prevFound, f_keys, f_nRows, f_nForms, f_last, f_selUseR, f_selRk, f_selUseC, f_selCk, f_gCount, f_gVal, s_ag, s_vf, s_cf, s_rf]
 ·dsimp only [f_data, f_filled, f_rf, f_cf, f_vf, f_ag, f_fMode, f_fRk, f_fCk, f_prevVal, f_prevFound, f_keys, f_nRows, f_nForms, f_last, f_selUseR, f_selRk, f_selUseC, f_selCk, f_gCount, f_gVal, s_ag, s_vf, s_cf, s_rf] at h2 ⊢
  exact h2
theorem Sh_for {K : Core} {L : Int32} {o : Ob} (h : Sh K L o) {s : Nat} {m a b : Int32} : Sh (kFor K s m a b) L (s_fCk (s_fRk (s_fMode o ((kM K).set s m)) ((kFa K).set s a)) ((kFb K).set s b)) := by
 obtain ⟨h1, h2⟩ := h
 refine ⟨?_, ?_⟩
 ·rw [← h1]
  dsimp only [core, kFor, kM, kFa, kFb, f_data, f_filled, f_rf, f_cf, f_vf, f_ag, f_fMode, f_fRk, f_fCk, f_prevVal, f_prevFound, f_keys, f_nRows, f_nForms, f_last, f_selUseR, f_selRk, f_selUseC, f_selCk, f_gCount, f_gVal, s_fCk, s_fRk, s_fMode]
 ·dsimp only [f_data, f_filled, f_rf, f_cf, f_vf, f_ag, f_fMode, f_fRk, f_fCk, f_prevVal, f_prevFound, f_keys, f_nRows, f_nForms, f_last, f_selUseR, f_selRk, f_selUseC, f_selCk, f_gCount, f_gVal, s_fCk, s_fRk, s_fMode] at h2 ⊢
  exact h2
theorem slot_ok {K : Core} {L : Int32} {o : Ob} (h : Sh K L o) (x : Int32) : F3 o x = some (if 0 ≤ x.toInt ∧ x.toInt < (kN K).toInt then 1 else 0) := by
 have z0 : (0 : Int32).toInt = 0 := rfl
 unfold F3
 rw [h.N]
 by_cases a : x < 0
 ·rw [if_pos a, if_neg (by rw [i_lt, z0] at a; omega)]
 ·rw [if_neg a]
  rw [i_lt, z0] at a
  by_cases b : x < kN K
  ·rw [if_pos b, if_pos (by rw [i_lt] at b; omega)]
  ·rw [if_neg b, if_neg (by rw [i_lt] at b; omega)]
theorem setFor_ok {K : Core} (wf : WF K) {L : Int32} {o : Ob} (h : Sh K L o) (x m a b : Int32) : okP (F2 o x m a b) (fun r => if (0 ≤ x.toInt ∧ x.toInt < (kN K).toInt) ∧ (0 ≤ m.toInt ∧ m.toInt ≤ 4) then r.1 = 1 ∧ Sh (kFor K x.toInt.toNat m a b) L r.2 else r.1 = 0 ∧ Sh K L r.2) := by
 have z0 : (0 : Int32).toInt = 0 := rfl
 have z4 : (4 : Int32).toInt = 4 := rfl
 have n16 := wf.n
 unfold F2
 rw [slot_ok h]
 simp only [Option.bind_some]
 by_cases c : 0 ≤ x.toInt ∧ x.toInt < (kN K).toInt
 ·rw [if_pos c, if_neg (by decide)]
  by_cases d : 0 ≤ m.toInt ∧ m.toInt ≤ 4
  ·simp only [if_pos (show (0 ≤ x.toInt ∧ x.toInt < (kN K).toInt) ∧ (0 ≤ m.toInt ∧ m.toInt ≤ 4) from ⟨c, d⟩)]
   rw [if_neg (by rw [i_lt, z0]; omega), if_neg (by rw [i_lt, z4]; omega), h.M, h.A, h.B]
   apply okP.bind
   refine okP.aset (by omega) (by rw [wf.m]; omega) ?_
   apply okP.bind
   refine okP.aset (by omega) (by rw [wf.a]; omega) ?_
   apply okP.bind
   refine okP.aset (by omega) (by rw [wf.c]; omega) ?_
   exact okP.some ⟨rfl, Sh_for h⟩
  ·simp only [if_neg (show ¬ ((0 ≤ x.toInt ∧ x.toInt < (kN K).toInt) ∧ (0 ≤ m.toInt ∧ m.toInt ≤ 4)) from fun q => d q.2)]
   apply okP.ite <;> intro e
   ·exact okP.some ⟨rfl, h⟩
   ·rw [i_lt, z0] at e
    rw [if_pos (by rw [i_lt, z4]; omega)]
    exact okP.some ⟨rfl, h⟩
 ·simp only [if_neg (show ¬ ((0 ≤ x.toInt ∧ x.toInt < (kN K).toInt) ∧ (0 ≤ m.toInt ∧ m.toInt ≤ 4)) from fun q => c q.1)]
  rw [if_neg c, if_pos rfl]
  exact okP.some ⟨rfl, h⟩
theorem Pv_same {K : Core} {o p : Ob} {n : Nat} (h : Pv K o n) (h1 : f_prevVal p = f_prevVal o) (h2 : f_prevFound p = f_prevFound o) : Pv K p n := by
 intro s hs
 rw [h1, h2]
 exact h s hs
theorem setCell_ok {K : Core} (wf : WF K) {L : Int32} {o : Ob} (h : Sh K L o) (x y v : Int32) : okP (F21 o x y v) (fun r => if (0 ≤ x.toInt ∧ x.toInt < (kR K).toInt) ∧ (0 ≤ y.toInt ∧ y.toInt < 4) then r.1 = 1 ∧ ∃ L', Sh (kSet K x.toInt.toNat y.toInt.toNat v) L' r.2 ∧ L'.toInt = cc K (kSet K x.toInt.toNat y.toInt.toNat v) (nN K) else r.1 = 0 ∧ Sh K L r.2) := by
 have z0 : (0 : Int32).toInt = 0 := rfl
 have z4 : (4 : Int32).toInt = 4 := rfl
 have r32 := wf.r
 unfold F21
 rw [row_ok h]
 simp only [Option.bind_some]
 by_cases c : 0 ≤ x.toInt ∧ x.toInt < (kR K).toInt
 ·rw [if_pos c, if_neg (by decide)]
  by_cases d : 0 ≤ y.toInt ∧ y.toInt < 4
  ·simp only [if_pos (show (0 ≤ x.toInt ∧ x.toInt < (kR K).toInt) ∧ (0 ≤ y.toInt ∧ y.toInt < 4) from ⟨c, d⟩)]
   rw [if_neg (by rw [i_lt, z0]; omega), if_pos (by rw [i_lt, z4]; omega)]
   apply okP.bind
   refine okP.mono (snap_ok wf h) ?_
   rintro p ⟨hp, P⟩
   have e := idx (r := x) (f := y) ⟨c.1, by omega⟩ d
   rw [hp.D, hp.G, aset_at (n := x.toInt.toNat * 4 + y.toInt.toNat) (by omega) (by rw [wf.d]; omega)]
   simp only [Option.bind_some]
   rw [aset_at (n := x.toInt.toNat) (by omega) (by rw [wf.g]; omega)]
   simp only [Option.bind_some]
   have hq := Sh_cell hp (r := x.toInt.toNat) (f := y.toInt.toNat) (v := v)
   have P' : Pv K (s_filled (s_data p ((kDa K).set (x.toInt.toNat * 4 + y.toInt.toNat) v)) ((kG K).set x.toInt.toNat 1)) (nN K) := Pv_same P rfl rfl
   apply okP.bind
   refine okP.mono (chd_ok (K := K) (wf.set (by omega)) hq P') ?_
   rintro ⟨n, q⟩ ⟨a1, a2⟩
   exact okP.some ⟨rfl, _, a2.last, a1⟩
  ·simp only [if_neg (show ¬ ((0 ≤ x.toInt ∧ x.toInt < (kR K).toInt) ∧ (0 ≤ y.toInt ∧ y.toInt < 4)) from fun q => d q.2)]
   apply okP.ite <;> intro e
   ·exact okP.some ⟨rfl, h⟩
   ·rw [i_lt, z0] at e
    rw [if_neg (by rw [i_lt, z4]; omega)]
    exact okP.some ⟨rfl, h⟩
 ·simp only [if_neg (show ¬ ((0 ≤ x.toInt ∧ x.toInt < (kR K).toInt) ∧ (0 ≤ y.toInt ∧ y.toInt < 4)) from fun q => c q.1)]
  rw [if_neg c, if_pos rfl]
  exact okP.some ⟨rfl, h⟩
theorem clearRow_ok {K : Core} (wf : WF K) {L : Int32} {o : Ob} (h : Sh K L o) (x : Int32) : okP (F20 o x) (fun r => if (0 ≤ x.toInt ∧ x.toInt < (kR K).toInt) ∧ fil K x.toInt.toNat = true then r.1 = 1 ∧ ∃ L', Sh (kClr K x.toInt.toNat) L' r.2 ∧ L'.toInt = cc K (kClr K x.toInt.toNat) (nN K) else r.1 = 0 ∧ Sh K L r.2) := by
 have z0 : (0 : Int32).toInt = 0 := rfl
 have z4 : (4 : Int32).toInt = 4 := rfl
 have r32 := wf.r
 unfold F20
 rw [row_ok h]
 simp only [Option.bind_some]
 by_cases c : 0 ≤ x.toInt ∧ x.toInt < (kR K).toInt
 ·rw [if_pos c, if_neg (by decide), h.G, ag_fil wf c.1 (by omega)]
  simp only [Option.bind_some]
  by_cases f0 : ((kG K)[x.toInt.toNat]?).getD 0 = 0
  ·have fi : fil K x.toInt.toNat = false := by unfold fil; rw [f0]; rfl
   rw [if_pos f0]
   simp only [if_neg (show ¬ ((0 ≤ x.toInt ∧ x.toInt < (kR K).toInt) ∧ fil K x.toInt.toNat = true) from fun q => by rw [fi] at q; cases q.2)]
   exact okP.some ⟨rfl, h⟩
  ·have fi : fil K x.toInt.toNat = true := by unfold fil; rw [bne_iff_ne]; exact f0
   simp only [if_pos (show (0 ≤ x.toInt ∧ x.toInt < (kR K).toInt) ∧ fil K x.toInt.toNat = true from ⟨c, fi⟩)]
   rw [if_neg f0]
   apply okP.bind
   refine okP.mono (snap_ok wf h) ?_
   rintro p ⟨hp, P⟩
   have d128 := wf.d
   have ix : ∀ k : Int32, 0 ≤ k.toInt → k.toInt < 4 → (x * 4 + k).toInt = x.toInt * 4 + k.toInt := fun k k0 k1 => idx (r := x) (f := k) ⟨c.1, by omega⟩ ⟨k0, k1⟩
   have st : ∀ (D : List Int32) (k : Int32) (n : Nat), D.length = 128 → k.toInt = n → n < 4 → B20_27 x (k, s_data p D) = some (.inr (k + 1, s_data p (D.set (x.toInt.toNat * 4 + n) 0))) := by
    intro D k n lD hk hn
    unfold B20_27
    simp only
    have e := ix k (by omega) (by omega)
    rw [if_pos (by rw [i_lt, z4]; omega), show f_data (s_data p D) = D from rfl, aset_at (n := x.toInt.toNat * 4 + n) (by omega) (by omega)]
    rfl
   have p0 : s_data p (kDa K) = p := by rw [← hp.D]; rfl
   have lp : loopN (B20_27 x) qN (0, p) = some (s_data p (((((kDa K).set (x.toInt.toNat * 4 + 0) 0).set (x.toInt.toNat * 4 + 1) 0).set (x.toInt.toNat * 4 + 2) 0).set (x.toInt.toNat * 4 + 3) 0)) := by
    have b0 := st (kDa K) 0 0 d128 rfl (by decide)
    rw [p0] at b0
    have b1 := st ((kDa K).set (x.toInt.toNat * 4 + 0) 0) (0 + 1) 1 (by rw [List.length_set]; exact d128) rfl (by decide)
    have b2 := st (((kDa K).set (x.toInt.toNat * 4 + 0) 0).set (x.toInt.toNat * 4 + 1) 0) (0 + 1 + 1) 2 (by simp only [List.length_set]; exact d128) rfl (by decide)
    have b3 := st ((((kDa K).set (x.toInt.toNat * 4 + 0) 0).set (x.toInt.toNat * 4 + 1) 0).set (x.toInt.toNat * 4 + 2) 0) (0 + 1 + 1 + 1) 3 (by simp only [List.length_set]; exact d128) rfl (by decide)
    have b4 : ∀ q, B20_27 x (0 + 1 + 1 + 1 + 1, q) = some (.inl q) := by
     intro q
     unfold B20_27
     simp only
     rw [if_neg (by decide)]
    show loopN (B20_27 x) (3995 + 1 + 1 + 1 + 1 + 1) (0, p) = _
    simp only [loopN, b0, b1, b2, b3, b4]
   rw [lp]
   simp only [Option.bind_some]
   rw [show ∀ D, f_filled (s_data p D) = f_filled p from fun _ => rfl, hp.G, aset_at (n := x.toInt.toNat) (by omega) (by rw [wf.g]; omega)]
   simp only [Option.bind_some]
   have hq : Sh (kClr K x.toInt.toNat) L (s_filled (s_data p (((((kDa K).set (x.toInt.toNat * 4 + 0) 0).set (x.toInt.toNat * 4 + 1) 0).set (x.toInt.toNat * 4 + 2) 0).set (x.toInt.toNat * 4 + 3) 0)) ((kG K).set x.toInt.toNat 0)) := by
    obtain ⟨h1, h2⟩ := hp
    refine ⟨?_, h2⟩
    rw [← h1]
    dsimp only [core, kClr, kDa, kG, f_data, f_filled, f_rf, f_cf, f_vf, f_ag, f_fMode, f_fRk, f_fCk, f_prevVal, f_prevFound, f_keys, f_nRows, f_nForms, f_last, f_selUseR, f_selRk, f_selUseC, f_selCk, f_gCount, f_gVal, s_filled, s_data]
   have P' : Pv K (s_filled (s_data p (((((kDa K).set (x.toInt.toNat * 4 + 0) 0).set (x.toInt.toNat * 4 + 1) 0).set (x.toInt.toNat * 4 + 2) 0).set (x.toInt.toNat * 4 + 3) 0)) ((kG K).set x.toInt.toNat 0)) (nN K) := Pv_same P rfl rfl
   apply okP.bind
   refine okP.mono (chd_ok (K := K) (wf.clr (by omega)) hq P') ?_
   rintro ⟨n, q⟩ ⟨a1, a2⟩
   exact okP.some ⟨rfl, _, a2.last, a1⟩
 ·simp only [if_neg (show ¬ ((0 ≤ x.toInt ∧ x.toInt < (kR K).toInt) ∧ fil K x.toInt.toNat = true) from fun q => c q.1)]
  rw [if_neg c, if_pos rfl]
  exact okP.some ⟨rfl, h⟩
theorem field_ok (x : Int32) : F27 x = some (if 0 ≤ x.toInt ∧ x.toInt < 4 then 1 else 0) := by
 have z0 : (0 : Int32).toInt = 0 := rfl
 have z4 : (4 : Int32).toInt = 4 := rfl
 unfold F27
 by_cases a : x < 0
 ·rw [if_pos a, if_neg (by rw [i_lt, z0] at a; omega)]
 ·rw [if_neg a]
  rw [i_lt, z0] at a
  by_cases b : x < 4
  ·rw [if_pos b, if_pos (by rw [i_lt, z4] at b; omega)]
  ·rw [if_neg b, if_neg (by rw [i_lt, z4] at b; omega)]
def pOk (a b c g : Int32) : Prop := (0 ≤ a.toInt ∧ a.toInt < 4) ∧ (0 ≤ b.toInt ∧ b.toInt < 4) ∧ (0 ≤ c.toInt ∧ c.toInt < 4) ∧ (0 ≤ g.toInt ∧ g.toInt ≤ 3)
instance (a b c g : Int32) : Decidable (pOk a b c g) := by unfold pOk; infer_instance
theorem setPiv_ok {K : Core} (wf : WF K) {L : Int32} {o : Ob} (h : Sh K L o) (a b c g : Int32) : okP (F26 o a b c g) (fun r => if pOk a b c g then r.1 = 1 ∧ ∃ L', Sh (kPiv K a b c g) L' r.2 ∧ L'.toInt = cc K (kPiv K a b c g) (nN K) else r.1 = 0 ∧ Sh K L r.2) := by
 have z0 : (0 : Int32).toInt = 0 := rfl
 have z3 : (3 : Int32).toInt = 3 := rfl
 unfold F26
 rw [field_ok a, field_ok b, field_ok c]
 simp only [Option.bind_some]
 by_cases ha : 0 ≤ a.toInt ∧ a.toInt < 4
 ·rw [if_pos ha, if_neg (by decide)]
  by_cases hb : 0 ≤ b.toInt ∧ b.toInt < 4
  ·rw [if_pos hb, if_neg (by decide)]
   by_cases hc : 0 ≤ c.toInt ∧ c.toInt < 4
   ·rw [if_pos hc, if_neg (by decide)]
    by_cases hg : 0 ≤ g.toInt ∧ g.toInt ≤ 3
    ·simp only [if_pos (show pOk a b c g from ⟨ha, hb, hc, hg⟩)]
     rw [if_neg (by rw [i_lt, z0]; omega), if_neg (by rw [i_lt, z3]; omega)]
     apply okP.bind
     refine okP.mono (snap_ok wf h) ?_
     rintro p ⟨hp, P⟩
     have P' : Pv K (s_ag (s_vf (s_cf (s_rf p a) b) c) g) (nN K) := Pv_same P (by dsimp only [f_data, f_filled, f_rf, f_cf, f_vf, f_ag, f_fMode, f_fRk, f_fCk, f_prevVal, f_prevFound, f_keys, f_nRows, f_nForms, f_last, f_selUseR, f_selRk, f_selUseC, f_selCk, f_gCount, f_gVal, s_ag, s_vf, s_cf, s_rf]) (by dsimp only [f_data, f_filled, f_rf, f_cf, f_vf, f_ag, f_fMode, f_fRk, f_fCk, f_prevVal, f_prevFound, f_keys, f_nRows, f_nForms, f_last, f_selUseR, f_selRk, f_selUseC, f_selCk, f_gCount, f_gVal, s_ag, s_vf, s_cf, s_rf])
     apply okP.bind
     refine okP.mono (chd_ok (K := K) (wf.piv ha hb hc) (Sh_piv hp) P') ?_
     rintro ⟨n, q⟩ ⟨a1, a2⟩
     exact okP.some ⟨rfl, _, a2.last, a1⟩
    ·simp only [if_neg (show ¬ pOk a b c g from fun q => hg q.2.2.2)]
     apply okP.ite <;> intro e
     ·exact okP.some ⟨rfl, h⟩
     ·rw [i_lt, z0] at e
      rw [if_pos (by rw [i_lt, z3]; omega)]
      exact okP.some ⟨rfl, h⟩
   ·simp only [if_neg (show ¬ pOk a b c g from fun q => hc q.2.2.1)]
    rw [if_neg hc, if_pos rfl]
    exact okP.some ⟨rfl, h⟩
  ·simp only [if_neg (show ¬ pOk a b c g from fun q => hb q.2.1)]
   rw [if_neg hb, if_pos rfl]
   exact okP.some ⟨rfl, h⟩
 ·simp only [if_neg (show ¬ pOk a b c g from fun q => ha q.1)]
  rw [if_neg ha, if_pos rfl]
  exact okP.some ⟨rfl, h⟩
theorem isFil_ok {K : Core} (wf : WF K) {L : Int32} {o : Ob} (h : Sh K L o) (x : Int32) : F7 o x = some (if (0 ≤ x.toInt ∧ x.toInt < (kR K).toInt) ∧ fil K x.toInt.toNat = true then 1 else 0) := by
 have r32 := wf.r
 unfold F7
 rw [row_ok h]
 simp only [Option.bind_some]
 by_cases c : 0 ≤ x.toInt ∧ x.toInt < (kR K).toInt
 ·rw [if_pos c, if_neg (by decide), h.G, ag_fil wf c.1 (by omega)]
  simp only [Option.bind_some]
  rcases wf.b x.toInt.toNat (by omega) with g | g
  ·have fi : fil K x.toInt.toNat = false := by unfold fil; rw [g]; rfl
   rw [g, if_neg (fun q => by rw [fi] at q; cases q.2)]; rfl
  ·have fi : fil K x.toInt.toNat = true := by unfold fil; rw [g]; rfl
   rw [g, if_pos ⟨c, fi⟩]; rfl
 ·rw [if_neg c, if_pos rfl, if_neg (fun q => c q.1)]
theorem getCell_ok {K : Core} (wf : WF K) {L : Int32} {o : Ob} (h : Sh K L o) (x y : Int32) : F4 o x y = some (if (0 ≤ x.toInt ∧ x.toInt < (kR K).toInt) ∧ (0 ≤ y.toInt ∧ y.toInt < 4) then fld K x.toInt.toNat y else 0) := by
 have z0 : (0 : Int32).toInt = 0 := rfl
 have z4 : (4 : Int32).toInt = 4 := rfl
 have r32 := wf.r
 unfold F4
 rw [row_ok h]
 simp only [Option.bind_some]
 by_cases a : 0 ≤ x.toInt ∧ x.toInt < (kR K).toInt
 ·rw [if_pos a, if_neg (by decide)]
  by_cases b : y < 0
  ·rw [if_pos b, if_neg (by rw [i_lt, z0] at b; omega)]
  ·rw [if_neg b]
   rw [i_lt, z0] at b
   by_cases c : y < 4
   ·rw [i_lt, z4] at c
    rw [if_pos (by rw [i_lt, z4]; exact c), if_pos ⟨a, by omega, c⟩, h.D, ag_fld wf ⟨a.1, by omega⟩ ⟨by omega, c⟩]; rfl
   ·rw [i_lt, z4] at c
    rw [if_neg (by rw [i_lt, z4]; exact c), if_neg (fun q => c q.2.2)]
 ·rw [if_neg a, if_pos rfl, if_neg (fun q => a q.1)]
theorem fval_ok {K : Core} (wf : WF K) {L : Int32} {o : Ob} (h : Sh K L o) (x : Int32) : okP (F16 o x) (fun r => r.1 = (if 0 ≤ x.toInt ∧ x.toInt < (kN K).toInt then (fm K x.toInt.toNat).1 else 0) ∧ Sh K L r.2) := by
 have n16 := wf.n
 unfold F16
 rw [slot_ok h]
 simp only [Option.bind_some]
 by_cases c : 0 ≤ x.toInt ∧ x.toInt < (kN K).toInt
 ·simp only [if_pos c]
  rw [if_neg (by decide)]
  apply okP.bind
  refine okP.mono (form_ok wf h c.1 (by omega)) ?_
  rintro r rfl
  exact okP.some ⟨rfl, h.gCount.gVal⟩
 ·simp only [if_neg c, if_true]
  exact okP.some ⟨rfl, h⟩
theorem ffnd_ok {K : Core} (wf : WF K) {L : Int32} {o : Ob} (h : Sh K L o) (x : Int32) : okP (F18 o x) (fun r => r.1 = (if 0 ≤ x.toInt ∧ x.toInt < (kN K).toInt then fnd K x.toInt.toNat else 0) ∧ Sh K L r.2) := by
 have n16 := wf.n
 unfold F18
 rw [slot_ok h]
 simp only [Option.bind_some]
 by_cases c : 0 ≤ x.toInt ∧ x.toInt < (kN K).toInt
 ·simp only [if_pos c]
  rw [if_neg (by decide)]
  apply okP.bind
  refine okP.mono (form_ok wf h c.1 (by omega)) ?_
  rintro r rfl
  rw [show f_gCount (s_gVal (s_gCount o (fm K x.toInt.toNat).2) (fm K x.toInt.toNat).1) = (fm K x.toInt.toNat).2 from rfl]
  unfold fnd
  apply okP.ite <;> intro d
  ·exact okP.some ⟨by rw [if_pos d], h.gCount.gVal⟩
  ·exact okP.some ⟨by rw [if_neg d], h.gCount.gVal⟩
 ·simp only [if_neg c, if_true]
  exact okP.some ⟨rfl, h⟩
def K0 (r n : Int32) : Core := (List.replicate 128 0, List.replicate 32 0, r, n, 0, 1, 2, 0, List.replicate 16 0, List.replicate 16 0, List.replicate 16 0)
theorem WF0 {r n : Int32} (hr : 4 ≤ r.toInt ∧ r.toInt ≤ 32) (hn : 1 ≤ n.toInt ∧ n.toInt ≤ 16) : WF (K0 r n) := by
 refine ⟨List.length_replicate, List.length_replicate, fun i hi => Or.inl ?_, hr, hn, by show (0 : Int) ≤ 0 ∧ (0 : Int) < 4; decide, by show (0 : Int) ≤ 1 ∧ (1 : Int) < 4; decide, by show (0 : Int) ≤ 2 ∧ (2 : Int) < 4; decide, List.length_replicate, List.length_replicate, List.length_replicate⟩
 show (List.replicate 32 (0 : Int32))[i]? = some 0
 rw [List.getElem?_replicate, if_pos hi]
theorem init_ok {r n : Int32} (hr : 4 ≤ r.toInt ∧ r.toInt ≤ 32) (hn : 1 ≤ n.toInt ∧ n.toInt ≤ 16) : okP (F1 r n) (fun o => Sh (K0 r n) 0 o) := by
 have z1 : (1 : Int32).toInt = 1 := rfl
 have z4 : (4 : Int32).toInt = 4 := rfl
 have z16 : (16 : Int32).toInt = 16 := rfl
 have z32 : (32 : Int32).toInt = 32 := rfl
 unfold F1
 rw [if_neg (show ¬ r < 4 by rw [i_lt, z4]; omega), if_neg (show ¬ 32 < r by rw [i_lt, z32]; omega), if_neg (show ¬ n < 1 by rw [i_lt, z1]; omega), if_neg (show ¬ 16 < n by rw [i_lt, z16]; omega)]
 apply okP.some
 dsimp only [Sh, core, K0, f_data, f_filled, f_rf, f_cf, f_vf, f_ag, f_fMode, f_fRk, f_fCk, f_prevVal, f_prevFound, f_keys, f_nRows, f_nForms, f_last, f_selUseR, f_selRk, f_selUseC, f_selCk, f_gCount, f_gVal, s_data, s_filled, s_rf, s_cf, s_vf, s_ag, s_fMode, s_fRk, s_fCk, s_prevVal, s_prevFound, s_keys, s_nRows, s_nForms, s_last, s_selUseR, s_selRk, s_selUseC, s_selCk, s_gCount, s_gVal]
 exact ⟨rfl, rfl, List.length_replicate, List.length_replicate, List.length_replicate⟩
theorem siz {K : Core} {L : Int32} {o : Ob} (h : Sh K L o) (wf : WF K) : (f_data o).length = 128 ∧ (f_filled o).length = 32 ∧ (f_fMode o).length = 16 ∧ (f_fRk o).length = 16 ∧ (f_fCk o).length = 16 ∧ (f_prevVal o).length = 16 ∧ (f_prevFound o).length = 16 ∧ (f_keys o).length = 64 := ⟨by rw [h.D]; exact wf.d, by rw [h.G]; exact wf.g, by rw [h.M]; exact wf.m, by rw [h.A]; exact wf.a, by rw [h.B]; exact wf.c, h.2.2⟩

theorem snoc_ind {P : List Int32 → Prop} (h0 : P []) (hs : ∀ l v, P l → P (l ++ [v])) (l : List Int32) : P l := by
 have : ∀ m : List Int32, P m.reverse := by
  intro m
  induction m with
  | nil => exact h0
  | cons a m ih => rw [List.reverse_cons]; exact hs _ _ ih
 have h := this l.reverse
 rw [List.reverse_reverse] at h
 exact h
theorem ev_cnt (l : List Int32) : l.length ≤ 1000 → (ev l).2.1.toInt = l.length := by
 refine snoc_ind (P := fun l => l.length ≤ 1000 → (ev l).2.1.toInt = l.length) (fun _ => rfl) ?_ l
 intro l v ih hl
 rw [List.length_append] at hl
 have hl' : l.length + 1 ≤ 1000 := hl
 have := ih (by omega)
 rw [ev_s]
 show ((ev l).2.1 + 1).toInt = _
 rw [inc1 (by omega), this, List.length_append]; rfl
theorem ev_min (l : List Int32) : l.length ≤ 1000 → l ≠ [] → (ev l).2.2.1 ∈ l ∧ ∀ x, x ∈ l → (ev l).2.2.1.toInt ≤ x.toInt := by
 refine snoc_ind (P := fun l => l.length ≤ 1000 → l ≠ [] → (ev l).2.2.1 ∈ l ∧ ∀ x, x ∈ l → (ev l).2.2.1.toInt ≤ x.toInt) (fun _ h => absurd rfl h) ?_ l
 intro l v ih hl _
 rw [List.length_append] at hl
 have hl' : l.length + 1 ≤ 1000 := hl
 have hc := ev_cnt l (by omega)
 rw [ev_s]
 show (if (ev l).2.1 = 0 then v else if v < (ev l).2.2.1 then v else (ev l).2.2.1) ∈ _ ∧ ∀ x, x ∈ l ++ [v] → (if (ev l).2.1 = 0 then v else if v < (ev l).2.2.1 then v else (ev l).2.2.1).toInt ≤ x.toInt
 by_cases e : l = []
 ·subst e
  rw [if_pos (show (ev []).2.1 = 0 from rfl)]
  refine ⟨by simp, fun x hx => ?_⟩
  simp at hx
  rw [hx]; omega
 ·have ne : l.length ≠ 0 := fun q => e (List.eq_nil_of_length_eq_zero q)
  rw [if_neg (by rw [i_eq]; show ¬ (ev l).2.1.toInt = 0; omega)]
  obtain ⟨h1, h2⟩ := ih (by omega) e
  by_cases c : v < (ev l).2.2.1
  ·rw [if_pos c]
   rw [i_lt] at c
   refine ⟨by simp, fun x hx => ?_⟩
   rcases List.mem_append.1 hx with hx | hx
   ·have := h2 x hx; omega
   ·simp at hx; rw [hx]; omega
  ·rw [if_neg c]
   rw [i_lt] at c
   refine ⟨List.mem_append_left _ h1, fun x hx => ?_⟩
   rcases List.mem_append.1 hx with hx | hx
   ·exact h2 x hx
   ·simp at hx; rw [hx]; omega
theorem ev_max (l : List Int32) : l.length ≤ 1000 → l ≠ [] → (ev l).2.2.2 ∈ l ∧ ∀ x, x ∈ l → x.toInt ≤ (ev l).2.2.2.toInt := by
 refine snoc_ind (P := fun l => l.length ≤ 1000 → l ≠ [] → (ev l).2.2.2 ∈ l ∧ ∀ x, x ∈ l → x.toInt ≤ (ev l).2.2.2.toInt) (fun _ h => absurd rfl h) ?_ l
 intro l v ih hl _
 rw [List.length_append] at hl
 have hl' : l.length + 1 ≤ 1000 := hl
 have hc := ev_cnt l (by omega)
 rw [ev_s]
 show (if (ev l).2.1 = 0 then v else if (ev l).2.2.2 < v then v else (ev l).2.2.2) ∈ _ ∧ ∀ x, x ∈ l ++ [v] → x.toInt ≤ (if (ev l).2.1 = 0 then v else if (ev l).2.2.2 < v then v else (ev l).2.2.2).toInt
 by_cases e : l = []
 ·subst e
  rw [if_pos (show (ev []).2.1 = 0 from rfl)]
  refine ⟨by simp, fun x hx => ?_⟩
  simp at hx
  rw [hx]; omega
 ·have ne : l.length ≠ 0 := fun q => e (List.eq_nil_of_length_eq_zero q)
  rw [if_neg (by rw [i_eq]; show ¬ (ev l).2.1.toInt = 0; omega)]
  obtain ⟨h1, h2⟩ := ih (by omega) e
  by_cases c : (ev l).2.2.2 < v
  ·rw [if_pos c]
   rw [i_lt] at c
   refine ⟨by simp, fun x hx => ?_⟩
   rcases List.mem_append.1 hx with hx | hx
   ·have := h2 x hx; omega
   ·simp at hx; rw [hx]; omega
  ·rw [if_neg c]
   rw [i_lt] at c
   refine ⟨List.mem_append_left _ h1, fun x hx => ?_⟩
   rcases List.mem_append.1 hx with hx | hx
   ·exact h2 x hx
   ·simp at hx; rw [hx]; omega
def vC (g : Nat → Int32) (c : Nat → Bool) (n : Nat) : List Int32 := ((List.range n).filter c).map g
theorem vC_s (g : Nat → Int32) (c : Nat → Bool) (n : Nat) : vC g c (n + 1) = if c n then vC g c n ++ [g n] else vC g c n := by
 unfold vC
 rw [List.range_succ, List.filter_append, List.map_append]
 by_cases h : c n = true
 ·rw [if_pos h, List.filter_cons_of_pos h]; rfl
 ·rw [if_neg h, List.filter_cons_of_neg h]; simp
theorem vC_mem {g : Nat → Int32} {c : Nat → Bool} {n : Nat} {x : Int32} : x ∈ vC g c n ↔ ∃ r, r < n ∧ c r = true ∧ g r = x := by
 unfold vC
 rw [List.mem_map]
 constructor
 ·rintro ⟨r, h1, h2⟩
  rw [List.mem_filter, List.mem_range] at h1
  exact ⟨r, h1.1, h1.2, h2⟩
 ·rintro ⟨r, h1, h2, h3⟩
  exact ⟨r, by rw [List.mem_filter, List.mem_range]; exact ⟨h1, h2⟩, h3⟩
theorem vC_len (g : Nat → Int32) (c : Nat → Bool) (n : Nat) : (vC g c n).length ≤ n := by
 have := List.length_filter_le c (List.range n)
 rw [List.length_range] at this
 unfold vC
 rw [List.length_map]
 exact this
theorem vC_add (g : Nat → Int32) (p q : Nat → Bool) (d : ∀ r, p r = true → q r = false) (n : Nat) : (ev (vC g (fun r => p r || q r) n)).1 = (ev (vC g p n)).1 + (ev (vC g q n)).1 ∧ (vC g (fun r => p r || q r) n).length = (vC g p n).length + (vC g q n).length := by
 induction n with
 | zero => exact ⟨by unfold vC; simp only [List.range_zero, List.filter_nil, List.map_nil]; rfl, by unfold vC; simp only [List.range_zero, List.filter_nil, List.map_nil]; rfl⟩
 | succ n ih =>
  obtain ⟨i1, i2⟩ := ih
  rw [vC_s, vC_s, vC_s]
  have st : ∀ l v, (ev (l ++ [v])).1 = (ev l).1 + v := fun l v => by rw [ev_s]; rfl
  cases hp : p n with
  | true =>
   rw [d n hp]
   simp only [Bool.or_false, if_true, Bool.false_eq_true, if_false]
   rw [st, st, i1, List.length_append, List.length_append, i2]
   refine ⟨?_, by simp only [List.length_singleton]; omega⟩
   rw [Int32.add_assoc, Int32.add_assoc, Int32.add_comm _ (g n)]
  | false =>
   cases hq : q n with
   | true =>
    simp only [Bool.or_true, if_true, Bool.false_eq_true, if_false]
    rw [st, st, i1, List.length_append, List.length_append, i2]
    exact ⟨Int32.add_assoc _ _ _, by omega⟩
   | false =>
    simp only [Bool.or_false, Bool.false_eq_true, if_false]
    exact ⟨i1, i2⟩
def agC (ag a v : Int32) : Int32 := if ag = 0 then a + v else if ag = 1 then a + v else if ag = 2 then (if v < a then v else a) else (if a < v then v else a)
theorem vC_comb (g : Nat → Int32) (p q : Nat → Bool) (d : ∀ r, p r = true → q r = false) {n : Nat} (hn : n ≤ 32) {ag : Int32} (ha : ag = 0 ∨ ag = 1 ∨ ag = 2 ∨ ag = 3) (hp : vC g p n ≠ []) (hq : vC g q n ≠ []) : pick ag (ev (vC g (fun r => p r || q r) n)) = agC ag (pick ag (ev (vC g p n))) (pick ag (ev (vC g q n))) ∧ (ev (vC g (fun r => p r || q r) n)).2.1 = (ev (vC g p n)).2.1 + (ev (vC g q n)).2.1 := by
 obtain ⟨a1, a2⟩ := vC_add g p q d n
 have lp := vC_len g p n
 have lq := vC_len g q n
 have lr := vC_len g (fun r => p r || q r) n
 have cp := ev_cnt (vC g p n) (by omega)
 have cq := ev_cnt (vC g q n) (by omega)
 have cr := ev_cnt (vC g (fun r => p r || q r) n) (by omega)
 have np : (vC g p n).length ≠ 0 := fun e => hp (List.eq_nil_of_length_eq_zero e)
 have nq : (vC g q n).length ≠ 0 := fun e => hq (List.eq_nil_of_length_eq_zero e)
 have hr : vC g (fun r => p r || q r) n ≠ [] := fun e => by rw [e] at a2; simp at a2; omega
 have ec : (ev (vC g (fun r => p r || q r) n)).2.1 = (ev (vC g p n)).2.1 + (ev (vC g q n)).2.1 := by
  rw [i_eq, i_add (by omega) (by omega)]
  omega
 have mem : ∀ x, x ∈ vC g (fun r => p r || q r) n ↔ x ∈ vC g p n ∨ x ∈ vC g q n := by
  intro x
  rw [vC_mem, vC_mem, vC_mem]
  constructor
  ·rintro ⟨r, h1, h2, h3⟩
   rcases Bool.or_eq_true_iff.1 h2 with h | h
   ·exact Or.inl ⟨r, h1, h, h3⟩
   ·exact Or.inr ⟨r, h1, h, h3⟩
  ·rintro (⟨r, h1, h2, h3⟩ | ⟨r, h1, h2, h3⟩)
   ·exact ⟨r, h1, by simp only [h2, Bool.true_or], h3⟩
   ·exact ⟨r, h1, by simp only [h2, Bool.or_true], h3⟩
 refine ⟨?_, ec⟩
 have z0 : (0 : Int32).toInt = 0 := rfl
 have pkn : ∀ x : Int32 × Int32 × Int32 × Int32, ¬ x.2.1.toInt = 0 → pick ag x = if ag = 1 then x.2.1 else if ag = 2 then x.2.2.1 else if ag = 3 then x.2.2.2 else x.1 := by
  intro x hx
  unfold pick
  rw [if_neg (by rw [i_eq, z0]; exact hx)]
 rw [pkn _ (by omega), pkn _ (by omega), pkn _ (by omega)]
 rcases ha with h | h | h | h
 ·subst h
  exact a1
 ·subst h
  exact ec
 ·subst h
  show (ev (vC g (fun r => p r || q r) n)).2.2.1 = if (ev (vC g q n)).2.2.1 < (ev (vC g p n)).2.2.1 then (ev (vC g q n)).2.2.1 else (ev (vC g p n)).2.2.1
  obtain ⟨p1, p2⟩ := ev_min _ (by omega) hp
  obtain ⟨q1, q2⟩ := ev_min _ (by omega) hq
  obtain ⟨r1, r2⟩ := ev_min _ (by omega) hr
  have b1 := r2 _ ((mem _).2 (Or.inl p1))
  have b2 := r2 _ ((mem _).2 (Or.inr q1))
  rw [i_eq]
  by_cases c : (ev (vC g q n)).2.2.1 < (ev (vC g p n)).2.2.1
  ·rw [if_pos c]
   rw [i_lt] at c
   rcases (mem _).1 r1 with h | h
   ·have := p2 _ h; omega
   ·have := q2 _ h; omega
  ·rw [if_neg c]
   rw [i_lt] at c
   rcases (mem _).1 r1 with h | h
   ·have := p2 _ h; omega
   ·have := q2 _ h; omega
 ·subst h
  show (ev (vC g (fun r => p r || q r) n)).2.2.2 = if (ev (vC g p n)).2.2.2 < (ev (vC g q n)).2.2.2 then (ev (vC g q n)).2.2.2 else (ev (vC g p n)).2.2.2
  obtain ⟨p1, p2⟩ := ev_max _ (by omega) hp
  obtain ⟨q1, q2⟩ := ev_max _ (by omega) hq
  obtain ⟨r1, r2⟩ := ev_max _ (by omega) hr
  have b1 := r2 _ ((mem _).2 (Or.inl p1))
  have b2 := r2 _ ((mem _).2 (Or.inr q1))
  rw [i_eq]
  by_cases c : (ev (vC g p n)).2.2.2 < (ev (vC g q n)).2.2.2
  ·rw [if_pos c]
   rw [i_lt] at c
   rcases (mem _).1 r1 with h | h
   ·have := p2 _ h; omega
   ·have := q2 _ h; omega
  ·rw [if_neg c]
   rw [i_lt] at c
   rcases (mem _).1 r1 with h | h
   ·have := p2 _ h; omega
   ·have := q2 _ h; omega
theorem ins_mem {v x : Int32} : ∀ {l : List Int32}, x ∈ ins v l ↔ x = v ∨ x ∈ l
 | [] => by unfold ins; simp
 | k :: t => by
  unfold ins
  by_cases c : k < v
  ·rw [if_pos c, List.mem_cons, ins_mem, List.mem_cons]
   constructor
   ·rintro (h | h | h)
    ·exact Or.inr (Or.inl h)
    ·exact Or.inl h
    ·exact Or.inr (Or.inr h)
   ·rintro (h | h | h)
    ·exact Or.inr (Or.inl h)
    ·exact Or.inl h
    ·exact Or.inr (Or.inr h)
  ·rw [if_neg c]
   by_cases e : k = v
   ·rw [if_pos e, List.mem_cons, e]
    constructor
    ·intro h; exact Or.inr h
    ·rintro (h | h)
     ·exact Or.inl h
     ·exact h
   ·rw [if_neg e, List.mem_cons]
theorem ins_sorted {v : Int32} : ∀ {l : List Int32}, l.Pairwise (fun a b => a.toInt < b.toInt) → (ins v l).Pairwise (fun a b => a.toInt < b.toInt)
 | [], _ => by unfold ins; simp
 | k :: t, h => by
  rw [List.pairwise_cons] at h
  unfold ins
  by_cases c : k < v
  ·rw [if_pos c, List.pairwise_cons]
   rw [i_lt] at c
   refine ⟨fun x hx => ?_, ins_sorted h.2⟩
   rcases ins_mem.1 hx with e | e
   ·rw [e]; exact c
   ·exact h.1 x e
  ·rw [if_neg c]
   by_cases e : k = v
   ·rw [if_pos e, List.pairwise_cons]
    exact h
   ·rw [if_neg e, List.pairwise_cons, List.pairwise_cons]
    have lt : v.toInt < k.toInt := by rw [i_lt] at c; rw [i_eq] at e; omega
    refine ⟨fun x hx => ?_, h⟩
    rcases List.mem_cons.1 hx with e | e
    ·rw [e]; exact lt
    ·have := h.1 x e; omega
theorem key_sorted (K : Core) (f : Int32) : ∀ n, (keyN K f n).Pairwise (fun a b => a.toInt < b.toInt)
 | 0 => by unfold keyN; simp
 | n + 1 => by
  rw [keyN_s]
  split
  ·exact ins_sorted (key_sorted K f n)
  ·exact key_sorted K f n
theorem key_mem {K : Core} {f x : Int32} : ∀ {n : Nat}, x ∈ keyN K f n ↔ ∃ r, r < n ∧ fil K r = true ∧ fld K r f = x
 | 0 => by
  unfold keyN
  constructor
  ·intro h; simp at h
  ·rintro ⟨r, h, _⟩; omega
 | n + 1 => by
  rw [keyN_s]
  by_cases c : fil K n = true
  ·rw [if_pos c, ins_mem, key_mem]
   constructor
   ·rintro (h | ⟨r, h1, h2, h3⟩)
    ·exact ⟨n, by omega, c, h.symm⟩
    ·exact ⟨r, by omega, h2, h3⟩
   ·rintro ⟨r, h1, h2, h3⟩
    by_cases e : r = n
    ·rw [e] at h3; exact Or.inl h3.symm
    ·exact Or.inr ⟨r, by omega, h2, h3⟩
  ·rw [if_neg c, key_mem]
   constructor
   ·rintro ⟨r, h1, h2, h3⟩; exact ⟨r, by omega, h2, h3⟩
   ·rintro ⟨r, h1, h2, h3⟩
    by_cases e : r = n
    ·rw [e] at h2; exact absurd h2 c
    ·exact ⟨r, by omega, h2, h3⟩
def nFl (K : Core) (n : Nat) : Nat := ((List.range n).filter (fil K)).length
theorem nF_s (K : Core) (n : Nat) : nFl K (n + 1) = if fil K n then nFl K n + 1 else nFl K n := by
 unfold nFl
 rw [List.range_succ, List.filter_append, List.length_append]
 by_cases h : fil K n = true
 ·rw [if_pos h, List.filter_cons_of_pos h]; rfl
 ·rw [if_neg h, List.filter_cons_of_neg h]; rfl
theorem key_nF (K : Core) (f : Int32) : ∀ n, (keyN K f n).length ≤ nFl K n
 | 0 => by unfold keyN; simp
 | n + 1 => by
  have := key_nF K f n
  rw [keyN_s, nF_s]
  split
  ·have := ins_len (fld K n f) (keyN K f n); omega
  ·omega

def gV (K : Core) (r : Nat) : Int32 := fld K r (kvf K)
def pG (K : Core) (c : Nat → Bool) (f : Int32) (i : Nat) (r : Nat) : Bool := c r && ((kys K f).take i).contains (fld K r f)
def qG (K : Core) (c : Nat → Bool) (f k : Int32) (r : Nat) : Bool := c r && fld K r f == k
def cP (K : Core) (c : Nat → Bool) : Int32 := pick (kag K) (ev (vC (gV K) c (nR K)))
def cC (K : Core) (c : Nat → Bool) : Int32 := (ev (vC (gV K) c (nR K))).2.1
theorem vN_c (K : Core) (u a w b : Int32) (n : Nat) : vN K u a w b n = vC (gV K) (cnd K u a w b) n := rfl
theorem grp_c (K : Core) (u a w b : Int32) : grp K u a w b = (cP K (cnd K u a w b), cC K (cnd K u a w b)) := rfl
theorem pG_s {K : Core} {c : Nat → Bool} {f : Int32} {i : Nat} {k : Int32} (h : (kys K f)[i]? = some k) : pG K c f (i + 1) = fun r => pG K c f i r || qG K c f k r := by
 funext r
 unfold pG qG
 obtain ⟨l, e⟩ := List.getElem?_eq_some_iff.1 h
 rw [List.take_succ_eq_append_getElem l, e]
 cases c r
 ·rfl
 ·simp only [Bool.true_and]
  rw [Bool.eq_iff_iff]
  simp [List.contains_iff_mem]
theorem pG_dis {K : Core} {c : Nat → Bool} {f : Int32} {i : Nat} {k : Int32} (h : (kys K f)[i]? = some k) (r : Nat) (hp : pG K c f i r = true) : qG K c f k r = false := by
 unfold pG at hp
 unfold qG
 rw [Bool.and_eq_true] at hp
 obtain ⟨h1, h2⟩ := hp
 rw [List.contains_iff_mem] at h2
 rw [h1, Bool.true_and]
 apply beq_false_of_ne
 intro e
 rw [e] at h2
 obtain ⟨l, ee⟩ := List.getElem?_eq_some_iff.1 h
 obtain ⟨j, hj, ej⟩ := List.mem_iff_getElem.1 h2
 rw [List.length_take] at hj
 rw [List.getElem_take] at ej
 have := (List.pairwise_iff_getElem.1 (key_sorted K f (nR K))) j i (by unfold kys at l; omega) l (by omega)
 have e1 : (keyN K f (nR K))[j]'(by unfold kys at l; omega) = k := ej
 have e2 : (keyN K f (nR K))[i]'l = k := ee
 rw [e1, e2] at this
 omega
theorem pG_all {K : Core} {c : Nat → Bool} {f : Int32} (hc : ∀ r, c r = true → fil K r = true) {i : Nat} (h : (kys K f).length ≤ i) : vC (gV K) (pG K c f i) (nR K) = vC (gV K) c (nR K) := by
 unfold vC
 congr 1
 apply List.filter_congr
 intro r hr
 rw [List.mem_range] at hr
 unfold pG
 rw [List.take_of_length_le h]
 cases hf : c r
 ·rfl
 ·rw [Bool.true_and, List.contains_iff_mem]
  exact key_mem.2 ⟨r, by omega, hc r hf, rfl⟩
theorem pG_0 (K : Core) (c : Nat → Bool) (f : Int32) (n : Nat) : vC (gV K) (pG K c f 0) n = [] := by
 unfold vC
 have : (List.range n).filter (pG K c f 0) = [] := by
  rw [List.filter_eq_nil_iff]
  intro r _
  unfold pG
  simp
 rw [this]; rfl
theorem vC_or {g : Nat → Int32} {p q : Nat → Bool} {n : Nat} (h : vC g q n = []) : vC g (fun r => p r || q r) n = vC g p n := by
 have hq : ∀ r, r < n → q r = false := by
  intro r hr
  cases e : q r
  ·rfl
  ·have : g r ∈ vC g q n := vC_mem.2 ⟨r, hr, e, rfl⟩
   rw [h] at this
   cases this
 unfold vC
 congr 1
 apply List.filter_congr
 intro r hr
 rw [List.mem_range] at hr
 rw [hq r hr, Bool.or_false]
theorem vC_or' {g : Nat → Int32} {p q : Nat → Bool} {n : Nat} (h : vC g p n = []) : vC g (fun r => p r || q r) n = vC g q n := by
 have : (fun r => p r || q r) = (fun r => q r || p r) := by funext r; rw [Bool.or_comm]
 rw [this]
 exact vC_or h
theorem cC_int {K : Core} (wf : WF K) (c : Nat → Bool) : (cC K c).toInt = (vC (gV K) c (nR K)).length ∧ (cC K c).toInt ≤ 32 := by
 have r32 := wf.r
 have n32 : nR K ≤ 32 := by unfold nR; omega
 have l := vC_len (gV K) c (nR K)
 have := ev_cnt (vC (gV K) c (nR K)) (by omega)
 unfold cC
 omega
theorem cC_pos {K : Core} (wf : WF K) (c : Nat → Bool) : (0 : Int32) < cC K c ↔ vC (gV K) c (nR K) ≠ [] := by
 have h := (cC_int wf c).1
 rw [i_lt]
 have z0 : (0 : Int32).toInt = 0 := rfl
 rw [z0]
 constructor
 ·intro q e
  rw [e] at h
  simp at h
  omega
 ·intro q
  have : (vC (gV K) c (nR K)).length ≠ 0 := fun e => q (List.eq_nil_of_length_eq_zero e)
  omega
theorem cC_nil {K : Core} (c : Nat → Bool) (h : vC (gV K) c (nR K) = []) : cC K c = 0 ∧ cP K c = 0 := by
 unfold cC cP
 rw [h]
 exact ⟨rfl, rfl⟩
def cmb (ag a v : Int32) : Int32 := if ag = 2 then (if a < v then a else v) else if ag = 3 then (if v < a then a else v) else a + v
theorem cmb_eq {ag : Int32} (ha : ag = 0 ∨ ag = 1 ∨ ag = 2 ∨ ag = 3) (a v : Int32) : agC ag a v = cmb ag a v := by
 rcases ha with h | h | h | h
 ·subst h; rfl
 ·subst h; rfl
 ·subst h
  show (if v < a then v else a) = (if a < v then a else v)
  by_cases c : v < a
  ·rw [if_pos c, if_neg (by rw [i_lt] at c ⊢; omega)]
  ·rw [if_neg c]
   by_cases d : a < v
   ·rw [if_pos d]
   ·rw [if_neg d, i_eq]; rw [i_lt] at c d; omega
 ·subst h
  show (if a < v then v else a) = (if v < a then a else v)
  by_cases c : a < v
  ·rw [if_pos c, if_neg (by rw [i_lt] at c ⊢; omega)]
  ·rw [if_neg c]
   by_cases d : v < a
   ·rw [if_pos d]
   ·rw [if_neg d, i_eq]; rw [i_lt] at c d; omega
theorem g_step {K : Core} (wf : WF K) (ha : kag K = 0 ∨ kag K = 1 ∨ kag K = 2 ∨ kag K = 3) {c : Nat → Bool} {f : Int32} {i : Nat} {k : Int32} (h : (kys K f)[i]? = some k) :
  cC K (pG K c f (i + 1)) = cC K (pG K c f i) + cC K (qG K c f k) ∧
  cP K (pG K c f (i + 1)) = (if (0 : Int32) < cC K (qG K c f k) then (if (0 : Int32) < cC K (pG K c f i) then cmb (kag K) (cP K (pG K c f i)) (cP K (qG K c f k)) else cP K (qG K c f k)) else cP K (pG K c f i)) ∧
  ((0 : Int32) < cC K (pG K c f (i + 1)) ↔ (0 : Int32) < cC K (pG K c f i) ∨ (0 : Int32) < cC K (qG K c f k)) := by
 have r32 := wf.r
 have n32 : nR K ≤ 32 := by unfold nR; omega
 have cc : cC K (pG K c f (i + 1)) = cC K (pG K c f i) + cC K (qG K c f k) := by
  have h1 := cC_int wf (pG K c f i)
  have h2 := cC_int wf (qG K c f k)
  have h3 := cC_int wf (pG K c f (i + 1))
  have h4 := (vC_add (gV K) (pG K c f i) (qG K c f k) (pG_dis h) (nR K)).2
  rw [← pG_s h] at h4
  rw [i_eq, i_add (by omega) (by omega)]
  omega
 have z0 : (0 : Int32).toInt = 0 := rfl
 have pos : ((0 : Int32) < cC K (pG K c f (i + 1)) ↔ (0 : Int32) < cC K (pG K c f i) ∨ (0 : Int32) < cC K (qG K c f k)) := by
  have h1 := cC_int wf (pG K c f i)
  have h2 := cC_int wf (qG K c f k)
  have h5 : (cC K (pG K c f (i + 1))).toInt = (cC K (pG K c f i)).toInt + (cC K (qG K c f k)).toInt := by rw [cc, i_add (by omega) (by omega)]
  simp only [i_lt, z0]
  omega
 refine ⟨cc, ?_, pos⟩
 by_cases q : (0 : Int32) < cC K (qG K c f k)
 ·rw [if_pos q]
  by_cases p : (0 : Int32) < cC K (pG K c f i)
  ·rw [if_pos p]
   have := (vC_comb (gV K) (pG K c f i) (qG K c f k) (pG_dis h) n32 ha ((cC_pos wf _).1 p) ((cC_pos wf _).1 q)).1
   rw [cmb_eq ha, ← pG_s h] at this
   exact this
  ·rw [if_neg p]
   have e : vC (gV K) (pG K c f i) (nR K) = [] := by
    by_cases e : vC (gV K) (pG K c f i) (nR K) = []
    ·exact e
    ·exact absurd ((cC_pos wf _).2 e) p
   unfold cP
   rw [pG_s h, vC_or' e]
 ·rw [if_neg q]
  have e : vC (gV K) (qG K c f k) (nR K) = [] := by
   by_cases e : vC (gV K) (qG K c f k) (nR K) = []
   ·exact e
   ·exact absurd ((cC_pos wf _).2 e) q
  unfold cP
  rw [pG_s h, vC_or e]
theorem fold_ok {K : Core} (wf : WF K) (ha : kag K = 0 ∨ kag K = 1 ∨ kag K = 2 ∨ kag K = 3) {c : Nat → Bool} {f : Int32} (hc : ∀ r, c r = true → fil K r = true) {L : Int32} {B : Int32 × Int32 × Int32 × Int32 × Ob → Option ((Int32 × Int32 × Int32 × Ob) ⊕ (Int32 × Int32 × Int32 × Int32 × Ob))}
  (hB : ∀ n a h j o, Sh K L o → 0 ≤ j.toInt → okP (B (n, a, h, j, o)) (fun r => if j.toInt < (kys K f).length then ∀ k, (kys K f)[j.toInt.toNat]? = some k → ∃ p, Sh K L p ∧ r = .inr (n + cC K (qG K c f k), (if (0 : Int32) < cC K (qG K c f k) then (if h = 0 then cP K (qG K c f k) else cmb (kag K) a (cP K (qG K c f k))) else a), (if (0 : Int32) < cC K (qG K c f k) then 1 else h), j + 1, p) else r = .inl (n, a, h, o))) {o : Ob} (ho : Sh K L o) :
  okP (loopN B qN (0, 0, 0, 0, o)) (fun e => e.1 = cC K c ∧ (if e.2.2.1 = 0 then 0 else e.2.1) = cP K c ∧ Sh K L e.2.2.2) := by
 have kl := kys_len wf f
 have z0 : (0 : Int32).toInt = 0 := rfl
 refine okP.loop (fun v => 0 ≤ v.2.2.2.1.toInt ∧ v.2.2.2.1.toInt ≤ (kys K f).length ∧ v.1 = cC K (pG K c f v.2.2.2.1.toInt.toNat) ∧ v.2.1 = cP K (pG K c f v.2.2.2.1.toInt.toNat) ∧ v.2.2.1 = (if (0 : Int32) < cC K (pG K c f v.2.2.2.1.toInt.toNat) then 1 else 0) ∧ Sh K L v.2.2.2.2) (fun v => (32 - v.2.2.2.1.toInt).toNat) ⟨by show (0 : Int) ≤ 0; decide, by show (0 : Int) ≤ _; omega, ?_, ?_, ?_, ho⟩ (by show (32 - (0 : Int)).toNat < 4000; decide) ?_
 ·exact ((cC_nil _ (pG_0 K c f (nR K))).1).symm
 ·exact ((cC_nil _ (pG_0 K c f (nR K))).2).symm
 ·show (0 : Int32) = if (0 : Int32) < cC K (pG K c f 0) then 1 else 0
  rw [(cC_nil _ (pG_0 K c f (nR K))).1]; rfl
 rintro ⟨n, a, h, j, p⟩ ⟨j0, j1, en, ea, eh, hp⟩
 simp only at j0 j1 en ea eh hp
 refine okP.mono (hB n a h j p hp j0) ?_
 intro r hr
 by_cases d : j.toInt < (kys K f).length
 ·rw [if_pos d] at hr
  have hk : (kys K f)[j.toInt.toNat]? = some ((kys K f)[j.toInt.toNat]'(by omega)) := List.getElem?_eq_getElem (by omega)
  obtain ⟨q, hq, rfl⟩ := hr _ hk
  obtain ⟨g1, g2, g3⟩ := g_step wf ha (c := c) hk
  have e1 : (j + 1).toInt = j.toInt + 1 := inc1 (by omega)
  have en1 : (j + 1).toInt.toNat = j.toInt.toNat + 1 := by omega
  refine ⟨⟨by simp only; omega, by simp only; omega, ?_, ?_, ?_, hq⟩, by simp only; omega⟩
  ·simp only [en1]; rw [g1, en]
  ·simp only [en1]
   rw [g2, eh, ea]
   by_cases x : (0 : Int32) < cC K (pG K c f j.toInt.toNat)
   ·rw [if_pos x, if_neg (show ¬ (1 : Int32) = 0 by decide), if_pos x]
   ·rw [if_neg x, if_pos rfl, if_neg x]
  ·simp only [en1]
   rw [eh]
   by_cases x : (0 : Int32) < cC K (qG K c f ((kys K f)[j.toInt.toNat]'(by omega)))
   ·rw [if_pos x, if_pos (g3.2 (Or.inr x))]
   ·rw [if_neg x]
    by_cases y : (0 : Int32) < cC K (pG K c f j.toInt.toNat)
    ·rw [if_pos y, if_pos (g3.2 (Or.inl y))]
    ·rw [if_neg y, if_neg (fun q => (g3.1 q).elim y x)]
 ·rw [if_neg d] at hr
  subst hr
  have al := pG_all hc (i := j.toInt.toNat) (f := f) (by omega)
  have a1 : cC K (pG K c f j.toInt.toNat) = cC K c := by unfold cC; rw [al]
  have a2 : cP K (pG K c f j.toInt.toNat) = cP K c := by unfold cP; rw [al]
  refine ⟨by simp only; rw [en, a1], ?_, hp⟩
  simp only
  rw [eh, ea, a1, a2]
  by_cases x : (0 : Int32) < cC K c
  ·rw [if_pos x, if_neg (show ¬ (1 : Int32) = 0 by decide)]
  ·rw [if_neg x, if_pos rfl]
   have e : vC (gV K) c (nR K) = [] := by
    by_cases e : vC (gV K) c (nR K) = []
    ·exact e
    ·exact absurd ((cC_pos wf _).2 e) x
   exact (cC_nil _ e).2.symm
theorem cnd_fil {K : Core} {u a w b : Int32} (r : Nat) (h : cnd K u a w b r = true) : fil K r = true := by
 unfold cnd at h
 rw [Bool.and_eq_true] at h
 exact h.1
theorem cnd_col (K : Core) (u a k : Int32) : cnd K u a 1 k = qG K (cnd K u a 0 0) (kcf K) k := by
 funext r
 unfold qG cnd
 show (fil K r && ((u == 0 || fld K r (krf K) == a) && (false || fld K r (kcf K) == k))) = ((fil K r && ((u == 0 || fld K r (krf K) == a) && true)) && fld K r (kcf K) == k)
 rw [Bool.false_or, Bool.and_true, Bool.and_assoc]
theorem cnd_row (K : Core) (k w b : Int32) : cnd K 1 k w b = qG K (cnd K 0 0 w b) (krf K) k := by
 funext r
 unfold qG cnd
 show (fil K r && ((false || fld K r (krf K) == k) && (w == 0 || fld K r (kcf K) == b))) = ((fil K r && (true && (w == 0 || fld K r (kcf K) == b))) && fld K r (krf K) == k)
 rw [Bool.false_or, Bool.true_and, Bool.and_assoc, Bool.and_comm (fld K r (krf K) == k)]
theorem cnd_w0 (K : Core) (u a b : Int32) : cnd K u a 0 b = cnd K u a 0 0 := rfl
theorem cnd_u0 (K : Core) (a w b : Int32) : cnd K 0 a w b = cnd K 0 0 w b := rfl
theorem key_none {K : Core} {c : Nat → Bool} (hc : ∀ r, c r = true → fil K r = true) {f k : Int32} (h : k ∉ kys K f) : vC (gV K) (qG K c f k) (nR K) = [] := by
 have : (List.range (nR K)).filter (qG K c f k) = [] := by
  rw [List.filter_eq_nil_iff]
  intro r hr q
  rw [List.mem_range] at hr
  unfold qG at q
  rw [Bool.and_eq_true] at q
  exact h (key_mem.2 ⟨r, hr, hc r q.1, eq_of_beq q.2⟩)
 unfold vC
 rw [this]; rfl

def Eqr (K K' : Core) (n : Nat) : Prop := ∀ r, r < n → fil K r = fil K' r ∧ (fil K r = true → ∀ f : Int32, 0 ≤ f.toInt ∧ f.toInt < 4 → fld K r f = fld K' r f)
def Eqv (K K' : Core) : Prop := kR K = kR K' ∧ krf K = krf K' ∧ kcf K = kcf K' ∧ kvf K = kvf K' ∧ kag K = kag K' ∧ Eqr K K' (nR K)
theorem Eqv.R {K K' : Core} (e : Eqv K K') : kR K = kR K' := e.1
theorem Eqv.rf {K K' : Core} (e : Eqv K K') : krf K = krf K' := e.2.1
theorem Eqv.cf {K K' : Core} (e : Eqv K K') : kcf K = kcf K' := e.2.2.1
theorem Eqv.vf {K K' : Core} (e : Eqv K K') : kvf K = kvf K' := e.2.2.2.1
theorem Eqv.ag {K K' : Core} (e : Eqv K K') : kag K = kag K' := e.2.2.2.2.1
theorem Eqv.rows {K K' : Core} (e : Eqv K K') : Eqr K K' (nR K) := e.2.2.2.2.2
theorem Eqv_nR {K K' : Core} (e : Eqv K K') : nR K = nR K' := by unfold nR; rw [e.R]
theorem keyN_eq {K K' : Core} {f : Int32} (hf : 0 ≤ f.toInt ∧ f.toInt < 4) : ∀ {n : Nat}, Eqr K K' n → keyN K f n = keyN K' f n := by
 intro n
 induction n with
 | zero => intro _; rfl
 | succ n ih =>
  intro e
  rw [keyN_s, keyN_s, ih (fun r hr => e r (by omega))]
  obtain ⟨e1, e2⟩ := e n (by omega)
  rw [← e1]
  by_cases c : fil K n = true
  ·rw [if_pos c, if_pos c, e2 c f hf]
  ·rw [if_neg c, if_neg c]
theorem vN_eq {K K' : Core} (u a w b : Int32) (wf : WF K) (rf : krf K = krf K') (cf : kcf K = kcf K') (vf : kvf K = kvf K') : ∀ {n : Nat}, Eqr K K' n → vN K u a w b n = vN K' u a w b n := by
 intro n
 induction n with
 | zero => intro _; unfold vN; simp only [List.range_zero, List.filter_nil, List.map_nil]
 | succ n ih =>
  intro e
  rw [vN_s, vN_s, ih (fun r hr => e r (by omega))]
  obtain ⟨e1, e2⟩ := e n (by omega)
  by_cases c : fil K n = true
  ·have ec : cnd K u a w b n = cnd K' u a w b n := by
    unfold cnd
    rw [← e1, ← rf, ← cf, e2 c _ wf.rf, e2 c _ wf.cf]
   rw [ec, ← vf, e2 c _ wf.vf]
  ·rw [if_neg (by unfold cnd; rw [Bool.eq_false_iff.2 c]; simp), if_neg (by unfold cnd; rw [← e1, Bool.eq_false_iff.2 c]; simp)]
theorem Eqv_kys {K K' : Core} (e : Eqv K K') {f : Int32} (hf : 0 ≤ f.toInt ∧ f.toInt < 4) : kys K f = kys K' f := by
 unfold kys
 rw [← Eqv_nR e, keyN_eq hf e.rows]
theorem Eqv_rk {K K' : Core} (e : Eqv K K') {f : Int32} (hf : 0 ≤ f.toInt ∧ f.toInt < 4) (i : Int32) : rk K f i = rk K' f i := by
 unfold rk
 rw [Eqv_kys e hf]
theorem Eqv_grp {K K' : Core} (e : Eqv K K') (wf : WF K) (u a w b : Int32) : grp K u a w b = grp K' u a w b := by
 unfold grp
 rw [← Eqv_nR e, ← e.ag, vN_eq u a w b wf e.rf e.cf e.vf e.rows]
theorem Eqv_pv {K K' : Core} (e : Eqv K K') (wf : WF K) (i j : Int32) : pv K i j = pv K' i j := by
 have e1 : inR K (krf K) i ↔ inR K' (krf K') i := by unfold inR; rw [← e.rf, Eqv_kys e wf.rf]
 have e2 : inR K (kcf K) j ↔ inR K' (kcf K') j := by unfold inR; rw [← e.cf, Eqv_kys e wf.cf]
 unfold pv
 by_cases c : inR K (krf K) i ∧ inR K (kcf K) j
 ·rw [if_pos c, if_pos (show inR K' (krf K') i ∧ inR K' (kcf K') j from ⟨e1.1 c.1, e2.1 c.2⟩), ← e.rf, ← e.cf, ← Eqv_rk e wf.rf, ← Eqv_rk e wf.cf, Eqv_grp e wf]
 ·rw [if_neg c, if_neg (fun q => c ⟨e1.2 q.1, e2.2 q.2⟩)]
theorem fil_set {K : Core} (w : WF K) {r f i : Nat} {v : Int32} (hr : r < 32) : fil (kSet K r f v) i = if r = i then true else fil K i := by
 unfold fil
 show (((kG K).set r 1)[i]?.getD 0 != 0) = _
 by_cases e : r = i
 ·rw [if_pos e, e, List.getElem?_set_self (by rw [w.g]; omega)]; rfl
 ·rw [if_neg e, List.getElem?_set_ne e]
theorem fld_set {K : Core} (w : WF K) {r f i : Nat} {g v : Int32} (hr : r < 32) (hf : f < 4) (hg : 0 ≤ g.toInt ∧ g.toInt < 4) : fld (kSet K r f v) i g = if r = i ∧ f = g.toInt.toNat then v else fld K i g := by
 unfold fld
 show ((kDa K).set (r * 4 + f) v)[i * 4 + g.toInt.toNat]?.getD 0 = _
 by_cases e : r = i ∧ f = g.toInt.toNat
 ·rw [if_pos e, e.1, e.2, List.getElem?_set_self (by rw [w.d]; omega)]; rfl
 ·rw [if_neg e, List.getElem?_set_ne (by omega)]

theorem mskbit {w : Nat} (hw : w < 64) (i : Nat) : (BitVec.ofNat 64 (2 ^ w - 1)).getLsbD i = decide (i < w) := by
 rw [BitVec.getLsbD_ofNat, Nat.testBit_two_pow_sub_one]
 by_cases h : i < w
 ·have : i < 64 := by omega
  simp [h, this]
 ·simp [h]
theorem small_bit {V : BitVec 64} {w : Nat} (h : V.toNat < 2 ^ w) {i : Nat} (hi : w ≤ i) : V.getLsbD i = false := by
 rw [BitVec.getLsbD]
 exact Nat.testBit_lt_two_pow (Nat.lt_of_lt_of_le h (Nat.pow_le_pow_right (by decide) hi))
theorem onesbit (i : Nat) : (-1#64).getLsbD i = decide (i < 64) := by
 by_cases h : i < 64
 ·have : ∀ j : Fin 64, (-1#64).getLsbD j.1 = decide (j.1 < 64) := by decide
  exact this ⟨i, h⟩
 ·rw [BitVec.getLsbD_of_ge _ _ (by omega)]
  simp; omega
theorem putB (w : Nat) (X V : BitVec 64) (hV : V.toNat < 2 ^ w) (s t : Nat) (hw : w < 64) (hs : s + w ≤ 64) (ht : t + w ≤ 64) (d : s = t ∨ s + w ≤ t ∨ t + w ≤ s) :
  (((X &&& ((BitVec.ofNat 64 (2 ^ w - 1) <<< s) ^^^ (-1#64))) ||| (V <<< s)) >>> t) &&& BitVec.ofNat 64 (2 ^ w - 1) = if s = t then V else (X >>> t) &&& BitVec.ofNat 64 (2 ^ w - 1) := by
 have mb := mskbit hw
 apply BitVec.eq_of_getLsbD_eq
 intro i hi
 by_cases e : s = t
 ·subst e
  rw [if_pos rfl]
  simp only [BitVec.getLsbD_and, BitVec.getLsbD_or, BitVec.getLsbD_xor, BitVec.getLsbD_shiftLeft, BitVec.getLsbD_ushiftRight, mb, onesbit]
  by_cases c : i < w
  ·have a1 : s + i < 64 := by omega
   have a2 : ¬ (s + i < s) := by omega
   have a3 : s + i - s = i := by omega
   simp [a1, a2, a3, c]
  ·have := small_bit (w := w) hV (i := i) (by omega)
   simp [c, this]
 ·rw [if_neg e]
  simp only [BitVec.getLsbD_and, BitVec.getLsbD_or, BitVec.getLsbD_xor, BitVec.getLsbD_shiftLeft, BitVec.getLsbD_ushiftRight, mb, onesbit]
  by_cases c : i < w
  ·have a1 : t + i < 64 := by omega
   by_cases a2 : t + i < s
   ·simp [a1, a2, c]
   ·have a3 : ¬ (t + i - s < w) := by omega
    have := small_bit (w := w) hV (i := t + i - s) (by omega)
    simp [a1, a2, a3, c, this]
  ·simp [c]
theorem ofI {x : Int32} {n : Nat} (h : x.toInt = n) : x = Int32.ofInt n := by rw [← h, Int32.ofInt_toInt]
theorem shl64 (v : Int64) {y : Int32} {n : Nat} (h : y.toInt = n) (hn : n < 64) : (v <<< (y.toInt64 &&& 63)).toBitVec = v.toBitVec <<< n := by
 have : ∀ n : Fin 64, (((Int32.ofInt n.1).toInt64 &&& 63).toBitVec.smod 64) = BitVec.ofNat 64 n.1 := by decide
 rw [ofI h]
 show v.toBitVec <<< (((Int32.ofInt n).toInt64 &&& 63).toBitVec.smod 64) = _
 rw [this ⟨n, hn⟩, BitVec.shiftLeft_eq']
 congr 1
 simp; omega
theorem ushr64 (v : Int64) {y : Int32} {n : Nat} (h : y.toInt = n) (hn : n < 64) : (XT.ushrL v y).toBitVec = v.toBitVec >>> n := by
 have : ∀ n : Fin 64, (((Int32.ofInt n.1).toInt64.toUInt64 &&& Int64.toUInt64 63) % 64).toBitVec = BitVec.ofNat 64 n.1 := by decide
 rw [ofI h]
 show v.toBitVec >>> (((Int32.ofInt n).toInt64.toUInt64 &&& Int64.toUInt64 63) % 64).toBitVec = _
 rw [this ⟨n, hn⟩, BitVec.ushiftRight_eq']
 congr 1
 simp; omega
theorem clrB (w v : Nat) (X : BitVec 64) (s t : Nat) (hw : w < 64) (hv : v < 64) (hs : s + w ≤ 64) (ht : t + v ≤ 64) (d : (s ≤ t ∧ t + v ≤ s + w) ∨ s + w ≤ t ∨ t + v ≤ s) :
  ((X &&& ((BitVec.ofNat 64 (2 ^ w - 1) <<< s) ^^^ (-1#64))) >>> t) &&& BitVec.ofNat 64 (2 ^ v - 1) = if s ≤ t ∧ t + v ≤ s + w then 0#64 else (X >>> t) &&& BitVec.ofNat 64 (2 ^ v - 1) := by
 have mb := mskbit hw
 have mv := mskbit hv
 apply BitVec.eq_of_getLsbD_eq
 intro i hi
 by_cases e : s ≤ t ∧ t + v ≤ s + w
 ·rw [if_pos e]
  simp only [BitVec.getLsbD_and, BitVec.getLsbD_xor, BitVec.getLsbD_shiftLeft, BitVec.getLsbD_ushiftRight, mb, mv, onesbit]
  by_cases c : i < v
  ·have a1 : t + i < 64 := by omega
   have a2 : ¬ (t + i < s) := by omega
   have a3 : t + i - s < w := by omega
   simp [a1, a2, a3, c]
  ·simp [c]
 ·rw [if_neg e]
  simp only [BitVec.getLsbD_and, BitVec.getLsbD_xor, BitVec.getLsbD_shiftLeft, BitVec.getLsbD_ushiftRight, mb, mv, onesbit]
  by_cases c : i < v
  ·have a1 : t + i < 64 := by omega
   by_cases a2 : t + i < s
   ·simp [a1, a2, c]
   ·have a3 : ¬ (t + i - s < w) := by omega
    simp [a1, a2, a3, c]
  ·simp [c]
theorem shl32 (v : Int32) {y : Int32} {n : Nat} (h : y.toInt = n) (hn : n < 32) : (v <<< (y &&& 31)).toBitVec = v.toBitVec <<< n := by
 have : ∀ n : Fin 32, ((Int32.ofInt n.1 &&& 31).toBitVec.smod 32) = BitVec.ofNat 32 n.1 := by decide
 rw [ofI h]
 show v.toBitVec <<< ((Int32.ofInt n &&& 31).toBitVec.smod 32) = _
 rw [this ⟨n, hn⟩, BitVec.shiftLeft_eq']
 congr 1
 simp; omega
theorem shr32 (v : Int32) {y : Int32} {n : Nat} (h : y.toInt = n) (hn : n < 32) : (v >>> (y &&& 31)).toBitVec = v.toBitVec.sshiftRight n := by
 have : ∀ n : Fin 32, ((Int32.ofInt n.1 &&& 31).toBitVec.smod 32) = BitVec.ofNat 32 n.1 := by decide
 rw [ofI h]
 show v.toBitVec.sshiftRight' ((Int32.ofInt n &&& 31).toBitVec.smod 32) = _
 rw [this ⟨n, hn⟩, BitVec.sshiftRight_eq']
 congr 1
 simp; omega
def bt (x : Int32) (n : Nat) : Bool := x.toBitVec.getLsbD n
theorem bt_shr (x : Int32) {y : Int32} {n : Nat} (h : y.toInt = n) (hn : n < 32) : (x >>> (y &&& 31)) &&& 1 = if bt x n then 1 else 0 := by
 apply Int32.toBitVec_inj.1
 show (x >>> (y &&& 31)).toBitVec &&& 1#32 = _
 rw [shr32 x h hn, BitVec.and_one_eq_setWidth_ofBool_getLsbD]
 have e : (x.toBitVec.sshiftRight n).getLsbD 0 = bt x n := by
  rw [BitVec.getLsbD_sshiftRight]
  simp [hn, bt]
 rw [e]
 cases bt x n <;> rfl
theorem bt_or (x y : Int32) (n : Nat) : bt (x ||| y) n = (bt x n || bt y n) := by
 show (x.toBitVec ||| y.toBitVec).getLsbD n = _
 rw [BitVec.getLsbD_or]; rfl
theorem bt_andn (x y : Int32) {n : Nat} (hn : n < 32) : bt (x &&& (y ^^^ (-1))) n = (bt x n && !bt y n) := by
 show (x.toBitVec &&& (y.toBitVec ^^^ (-1#32))).getLsbD n = _
 have : ∀ i : Fin 32, (-1#32).getLsbD i.1 = true := by decide
 rw [BitVec.getLsbD_and, BitVec.getLsbD_xor, this ⟨n, hn⟩, Bool.xor_true]; rfl
theorem bt_one {y : Int32} {k : Nat} (h : y.toInt = k) (hk : k < 32) {n : Nat} (hn : n < 32) : bt ((1 : Int32) <<< (y &&& 31)) n = decide (n = k) := by
 have : ∀ k : Fin 32, ∀ n : Fin 32, bt ((1 : Int32) <<< (Int32.ofInt k.1 &&& 31)) n.1 = decide (n.1 = k.1) := by decide +kernel
 rw [ofI h]
 exact this ⟨k, hk⟩ ⟨n, hn⟩
theorem bt_0 (n : Nat) : bt 0 n = false := by
 show (0#32).getLsbD n = false
 simp
theorem mskbit32 {w : Nat} (hw : w < 32) (i : Nat) : (BitVec.ofNat 32 (2 ^ w - 1)).getLsbD i = decide (i < w) := by
 rw [BitVec.getLsbD_ofNat, Nat.testBit_two_pow_sub_one]
 by_cases h : i < w
 ·have : i < 32 := by omega
  simp [h, this]
 ·simp [h]
theorem onesbit32 (i : Nat) : (-1#32).getLsbD i = decide (i < 32) := by
 by_cases h : i < 32
 ·have : ∀ j : Fin 32, (-1#32).getLsbD j.1 = decide (j.1 < 32) := by decide
  exact this ⟨i, h⟩
 ·rw [BitVec.getLsbD_of_ge _ _ (by omega)]
  simp; omega
theorem small_bit32 {V : BitVec 32} {w : Nat} (h : V.toNat < 2 ^ w) {i : Nat} (hi : w ≤ i) : V.getLsbD i = false := by
 rw [BitVec.getLsbD]
 exact Nat.testBit_lt_two_pow (Nat.lt_of_lt_of_le h (Nat.pow_le_pow_right (by decide) hi))
theorem putB32 (w : Nat) (X V : BitVec 32) (hV : V.toNat < 2 ^ w) (s t : Nat) (hw : w < 32) (hs : s + w ≤ 32) (ht : t + w ≤ 32) (d : s = t ∨ s + w ≤ t ∨ t + w ≤ s) :
  (((X &&& ((BitVec.ofNat 32 (2 ^ w - 1) <<< s) ^^^ (-1#32))) ||| (V <<< s)).sshiftRight t) &&& BitVec.ofNat 32 (2 ^ w - 1) = if s = t then V else (X.sshiftRight t) &&& BitVec.ofNat 32 (2 ^ w - 1) := by
 have mb := mskbit32 hw
 apply BitVec.eq_of_getLsbD_eq
 intro i hi
 by_cases e : s = t
 ·subst e
  rw [if_pos rfl]
  simp only [BitVec.getLsbD_and, BitVec.getLsbD_or, BitVec.getLsbD_xor, BitVec.getLsbD_shiftLeft, BitVec.getLsbD_sshiftRight, mb, onesbit32]
  by_cases c : i < w
  ·have a1 : s + i < 32 := by omega
   have a2 : ¬ (s + i < s) := by omega
   have a3 : s + i - s = i := by omega
   have a4 : ¬ (32 ≤ i) := by omega
   simp [a1, a2, a3, a4, c]
  ·have := small_bit32 (w := w) hV (i := i) (by omega)
   simp [c, this]
 ·rw [if_neg e]
  simp only [BitVec.getLsbD_and, BitVec.getLsbD_or, BitVec.getLsbD_xor, BitVec.getLsbD_shiftLeft, BitVec.getLsbD_sshiftRight, mb, onesbit32]
  by_cases c : i < w
  ·have a1 : t + i < 32 := by omega
   have a4 : ¬ (32 ≤ i) := by omega
   by_cases a2 : t + i < s
   ·simp [a1, a2, a4, c]
   ·have a3 : ¬ (t + i - s < w) := by omega
    have := small_bit32 (w := w) hV (i := t + i - s) (by omega)
    simp [a1, a2, a3, a4, c, this]
  ·simp [c]
theorem fput (w : Nat) (M : Int64) (hM : M.toBitVec = BitVec.ofNat 64 (2 ^ w - 1)) (x V : Int64) (hV : V.toBitVec.toNat < 2 ^ w) {a b : Int32} {s t : Nat} (ha : a.toInt = s) (hb : b.toInt = t) (hw : w < 64) (hw0 : 0 < w) (hs : s + w ≤ 64) (ht : t + w ≤ 64) (d : s = t ∨ s + w ≤ t ∨ t + w ≤ s) : (XT.ushrL ((x &&& ((M <<< (a.toInt64 &&& 63)) ^^^ (-1 : Int64))) ||| (V <<< (a.toInt64 &&& 63))) b) &&& M = if s = t then V else (XT.ushrL x b) &&& M := by
 apply Int64.toBitVec_inj.1
 have e1 : ((XT.ushrL ((x &&& ((M <<< (a.toInt64 &&& 63)) ^^^ (-1 : Int64))) ||| (V <<< (a.toInt64 &&& 63))) b) &&& M).toBitVec = ((((x.toBitVec &&& ((BitVec.ofNat 64 (2 ^ w - 1) <<< s) ^^^ (-1#64))) ||| (V.toBitVec <<< s)) >>> t) &&& BitVec.ofNat 64 (2 ^ w - 1)) := by
  show (XT.ushrL ((x &&& ((M <<< (a.toInt64 &&& 63)) ^^^ (-1 : Int64))) ||| (V <<< (a.toInt64 &&& 63))) b).toBitVec &&& M.toBitVec = _
  rw [ushr64 _ hb (by omega), hM]
  show (((x.toBitVec &&& ((M <<< (a.toInt64 &&& 63)).toBitVec ^^^ (-1#64))) ||| (V <<< (a.toInt64 &&& 63)).toBitVec) >>> t) &&& _ = _
  rw [shl64 _ ha (by omega), shl64 _ ha (by omega), hM]
 rw [e1, putB w x.toBitVec V.toBitVec hV s t hw hs ht d]
 by_cases c : s = t
 ·rw [if_pos c, if_pos c]
 ·rw [if_neg c, if_neg c]
  show _ = (XT.ushrL x b).toBitVec &&& M.toBitVec
  rw [ushr64 _ hb (by omega), hM]
theorem ushr32 (v : Int32) {y : Int32} {n : Nat} (h : y.toInt = n) (hn : n < 32) : (XT.ushr v y).toBitVec = v.toBitVec >>> n := by
 have : ∀ n : Fin 32, ((Int32.ofInt n.1 &&& 31).toUInt32 % 32).toBitVec = BitVec.ofNat 32 n.1 := by decide
 rw [ofI h]
 show v.toBitVec >>> ((Int32.ofInt n &&& 31).toUInt32 % 32).toBitVec = _
 rw [this ⟨n, hn⟩, BitVec.ushiftRight_eq']
 congr 1
 simp; omega
theorem bt_ushr (x : Int32) {y : Int32} {n : Nat} (h : y.toInt = n) (hn : n < 32) : XT.ushr x y &&& 1 = if bt x n then 1 else 0 := by
 apply Int32.toBitVec_inj.1
 show (XT.ushr x y).toBitVec &&& 1#32 = _
 rw [ushr32 x h hn, BitVec.and_one_eq_setWidth_ofBool_getLsbD]
 have e : (x.toBitVec >>> n).getLsbD 0 = bt x n := by
  rw [BitVec.getLsbD_ushiftRight]; rfl
 rw [e]
 cases bt x n <;> rfl
theorem bt_ext {x y : Int32} (h : ∀ n, n < 32 → bt x n = bt y n) : x = y := by
 apply Int32.toBitVec_inj.1
 apply BitVec.eq_of_getLsbD_eq
 intro i hi
 exact h i hi
theorem bt_and (x y : Int32) (n : Nat) : bt (x &&& y) n = (bt x n && bt y n) := by
 show (x.toBitVec &&& y.toBitVec).getLsbD n = _
 rw [BitVec.getLsbD_and]; rfl
theorem bt_test (x : Int32) {y : Int32} {k : Nat} (h : y.toInt = k) (hk : k < 32) : (x &&& ((1 : Int32) <<< (y &&& 31))) = 0 ↔ bt x k = false := by
 constructor
 ·intro e
  have := congrArg (fun z => bt z k) e
  simp only [bt_and, bt_one h hk hk, bt_0, decide_true, Bool.and_true] at this
  exact this
 ·intro e
  apply bt_ext
  intro n hn
  rw [bt_and, bt_one h hk hn, bt_0]
  by_cases c : n = k
  ·rw [c, e, Bool.false_and]
  ·rw [decide_eq_false c, Bool.and_false]
theorem bt_same {x y : Int32} {k : Nat} (h : y.toInt = k) (hk : k < 32) (e : bt x k = true) : x ||| ((1 : Int32) <<< (y &&& 31)) = x := by
 apply bt_ext
 intro n hn
 rw [bt_or, bt_one h hk hn]
 by_cases c : n = k
 ·rw [c, e, Bool.true_or]
 ·rw [decide_eq_false c, Bool.or_false]

def sh4 (r f : Int32) : Int32 := (r * 4 + f) * 4
def cel (x : Int64) (r f : Int32) : Int32 := ((XT.ushrL x ((r * 4 + f) * 4)) &&& 15).toInt32
theorem cel_ok (x : Int64) (r f : Int32) : F6 x r f = some (cel x r f) := rfl
theorem sh4_i {r : Int32} (hr : 0 ≤ r.toInt ∧ r.toInt < 4) {f : Int32} (hf : 0 ≤ f.toInt ∧ f.toInt < 4) : ((r * 4 + f) * 4).toInt = ((r.toInt.toNat * 4 + f.toInt.toNat) * 4 : Nat) := by
 have z4 : (4 : Int32).toInt = 4 := rfl
 have e4 : (r * 4).toInt = r.toInt * 4 := i_mul (by rw [z4]; omega) (by rw [z4]; omega)
 have e5 : (r * 4 + f).toInt = r.toInt * 4 + f.toInt := by rw [i_add (by omega) (by omega), e4]
 rw [i_mul (by rw [z4]; omega) (by rw [z4]; omega), e5, z4]; omega
def put4 (x : Int64) (a b c : Int32) : Int64 := (x &&& (((15 : Int64) <<< (((a * 4 + b) * 4).toInt64 &&& 63)) ^^^ (-1 : Int64))) ||| ((c.toInt64) <<< (((a * 4 + b) * 4).toInt64 &&& 63))
theorem c64 {c : Int32} (h : 0 ≤ c.toInt ∧ c.toInt ≤ 15) : c.toInt64.toBitVec.toNat < 2 ^ 4 ∧ c.toInt64.toInt32 = c := by
 have d1 : ∀ n : Nat, n < 16 → (Int32.ofInt n).toInt64.toBitVec.toNat < 2 ^ 4 := by decide
 have d2 : ∀ n : Nat, n < 16 → (Int32.ofInt n).toInt64.toInt32 = Int32.ofInt n := by decide
 exact ⟨small_cases (P := fun c => c.toInt64.toBitVec.toNat < 2 ^ 4) h.1 (n := 16) (by omega) d1, small_cases (P := fun c => c.toInt64.toInt32 = c) h.1 (n := 16) (by omega) d2⟩
theorem cel_put (x : Int64) {a b c : Int32} (ha : 0 ≤ a.toInt ∧ a.toInt < 4) (hb : 0 ≤ b.toInt ∧ b.toInt < 4) (hc : 0 ≤ c.toInt ∧ c.toInt ≤ 15) {r : Int32} (hr : 0 ≤ r.toInt ∧ r.toInt < 4) {f : Int32} (hf : 0 ≤ f.toInt ∧ f.toInt < 4) : cel (put4 x a b c) r f = if a.toInt = r.toInt ∧ b.toInt = f.toInt then c else cel x r f := by
 have n1 := sh4_i ha hb
 have n2 := sh4_i hr hf
 obtain ⟨c1, c2⟩ := c64 hc
 have main : (XT.ushrL (put4 x a b c) ((r * 4 + f) * 4)) &&& (15 : Int64) = if a.toInt = r.toInt ∧ b.toInt = f.toInt then c.toInt64 else (XT.ushrL x ((r * 4 + f) * 4)) &&& (15 : Int64) := by
  apply Int64.toBitVec_inj.1
  have e1 : ((XT.ushrL (put4 x a b c) ((r * 4 + f) * 4)) &&& (15 : Int64)).toBitVec = ((((x.toBitVec &&& ((BitVec.ofNat 64 (2 ^ 4 - 1) <<< ((a.toInt.toNat * 4 + b.toInt.toNat) * 4)) ^^^ (-1#64))) ||| (c.toInt64.toBitVec <<< ((a.toInt.toNat * 4 + b.toInt.toNat) * 4))) >>> ((r.toInt.toNat * 4 + f.toInt.toNat) * 4)) &&& BitVec.ofNat 64 (2 ^ 4 - 1)) := by
   show (XT.ushrL (put4 x a b c) ((r * 4 + f) * 4)).toBitVec &&& 15#64 = _
   rw [ushr64 _ n2 (by omega)]
   show (((x.toBitVec &&& (((15 : Int64) <<< (((a * 4 + b) * 4).toInt64 &&& 63)).toBitVec ^^^ (-1#64))) ||| (c.toInt64 <<< (((a * 4 + b) * 4).toInt64 &&& 63)).toBitVec) >>> _) &&& 15#64 = _
   rw [shl64 _ n1 (by omega), shl64 _ n1 (by omega)]
   rfl
  rw [e1, putB 4 x.toBitVec c.toInt64.toBitVec c1 _ _ (by omega) (by omega) (by omega) (by omega)]
  by_cases q : a.toInt = r.toInt ∧ b.toInt = f.toInt
  ·rw [if_pos q, if_pos (by rw [q.1, q.2])]
  ·rw [if_neg q, if_neg (by omega)]
   show _ = (XT.ushrL x ((r * 4 + f) * 4)).toBitVec &&& 15#64
   rw [ushr64 _ n2 (by omega)]
 unfold cel
 rw [main]
 by_cases q : a.toInt = r.toInt ∧ b.toInt = f.toInt
 ·rw [if_pos q, if_pos q, c2]
 ·rw [if_neg q, if_neg q]
def clr4 (x : Int64) (a : Int32) : Int64 := x &&& (((65535 : Int64) <<< ((a * 16).toInt64 &&& 63)) ^^^ (-1 : Int64))
theorem cel_clr (x : Int64) {a : Int32} (ha : 0 ≤ a.toInt ∧ a.toInt < 4) {r : Int32} (hr : 0 ≤ r.toInt ∧ r.toInt < 4) {f : Int32} (hf : 0 ≤ f.toInt ∧ f.toInt < 4) : cel (clr4 x a) r f = if a.toInt = r.toInt then 0 else cel x r f := by
 have z16 : (16 : Int32).toInt = 16 := rfl
 have n1 : (a * 16).toInt = (a.toInt.toNat * 16 : Nat) := by rw [i_mul (by rw [z16]; omega) (by rw [z16]; omega), z16]; omega
 have n2 := sh4_i hr hf
 have main : (XT.ushrL (clr4 x a) ((r * 4 + f) * 4)) &&& (15 : Int64) = if a.toInt = r.toInt then 0 else (XT.ushrL x ((r * 4 + f) * 4)) &&& (15 : Int64) := by
  apply Int64.toBitVec_inj.1
  have e1 : ((XT.ushrL (clr4 x a) ((r * 4 + f) * 4)) &&& (15 : Int64)).toBitVec = (((x.toBitVec &&& ((BitVec.ofNat 64 (2 ^ 16 - 1) <<< (a.toInt.toNat * 16)) ^^^ (-1#64))) >>> ((r.toInt.toNat * 4 + f.toInt.toNat) * 4)) &&& BitVec.ofNat 64 (2 ^ 4 - 1)) := by
   show (XT.ushrL (clr4 x a) ((r * 4 + f) * 4)).toBitVec &&& 15#64 = _
   rw [ushr64 _ n2 (by omega)]
   show ((x.toBitVec &&& (((65535 : Int64) <<< ((a * 16).toInt64 &&& 63)).toBitVec ^^^ (-1#64))) >>> _) &&& 15#64 = _
   rw [shl64 _ n1 (by omega)]
   rfl
  rw [e1, clrB 16 4 x.toBitVec _ _ (by omega) (by omega) (by omega) (by omega) (by omega)]
  by_cases q : a.toInt = r.toInt
  ·rw [if_pos q, if_pos (by omega)]; rfl
  ·rw [if_neg q, if_neg (by omega)]
   show _ = (XT.ushrL x ((r * 4 + f) * 4)).toBitVec &&& 15#64
   rw [ushr64 _ n2 (by omega)]
 unfold cel
 rw [main]
 by_cases q : a.toInt = r.toInt
 ·rw [if_pos q, if_pos q]; rfl
 ·rw [if_neg q, if_neg q]
def md3 (x s : Int32) : Int32 := (x >>> ((s * 3) &&& 31)) &&& 7
def put3 (x a m : Int32) : Int32 := (x &&& (((7 : Int32) <<< ((a * 3) &&& 31)) ^^^ (-1 : Int32))) ||| (m <<< ((a * 3) &&& 31))
theorem three {s : Int32} (h : 0 ≤ s.toInt ∧ s.toInt < 4) : (s * 3).toInt = (s.toInt.toNat * 3 : Nat) := by
 have z3 : (3 : Int32).toInt = 3 := rfl
 rw [i_mul (by rw [z3]; omega) (by rw [z3]; omega), z3]; omega
theorem md_put (x : Int32) {a m s : Int32} (ha : 0 ≤ a.toInt ∧ a.toInt < 4) (hm : 0 ≤ m.toInt ∧ m.toInt < 8) (hs : 0 ≤ s.toInt ∧ s.toInt < 4) : md3 (put3 x a m) s = if a.toInt = s.toInt then m else md3 x s := by
 have n1 := three ha
 have n2 := three hs
 have m1 : m.toBitVec.toNat < 2 ^ 3 := small_cases (P := fun m => m.toBitVec.toNat < 2 ^ 3) hm.1 (n := 8) (by omega) (by decide)
 apply Int32.toBitVec_inj.1
 have e1 : (md3 (put3 x a m) s).toBitVec = ((((x.toBitVec &&& ((BitVec.ofNat 32 (2 ^ 3 - 1) <<< (a.toInt.toNat * 3)) ^^^ (-1#32))) ||| (m.toBitVec <<< (a.toInt.toNat * 3))).sshiftRight (s.toInt.toNat * 3)) &&& BitVec.ofNat 32 (2 ^ 3 - 1)) := by
  show (put3 x a m >>> ((s * 3) &&& 31)).toBitVec &&& 7#32 = _
  rw [shr32 _ n2 (by omega)]
  show (((x.toBitVec &&& (((7 : Int32) <<< ((a * 3) &&& 31)).toBitVec ^^^ (-1#32))) ||| (m <<< ((a * 3) &&& 31)).toBitVec).sshiftRight _) &&& 7#32 = _
  rw [shl32 _ n1 (by omega), shl32 _ n1 (by omega)]
  rfl
 rw [e1, putB32 3 x.toBitVec m.toBitVec m1 _ _ (by omega) (by omega) (by omega) (by omega)]
 by_cases q : a.toInt = s.toInt
 ·rw [if_pos q, if_pos (by omega)]
 ·rw [if_neg q, if_neg (by omega)]
  show _ = (x >>> ((s * 3) &&& 31)).toBitVec &&& 7#32
  rw [shr32 _ n2 (by omega)]
def St (K : Core) (x2 : Int64) (x4 x5 x6 x7 x8 x9 : Int32) : Prop := WF K ∧ kR K = 4 ∧ kN K = 4 ∧ (∀ r f : Int32, (0 ≤ r.toInt ∧ r.toInt < 4) → (0 ≤ f.toInt ∧ f.toInt < 4) → cel x2 r f = fld K r.toInt.toNat f ∧ 0 ≤ (fld K r.toInt.toNat f).toInt ∧ (fld K r.toInt.toNat f).toInt ≤ 15) ∧ (∀ r, r < 4 → bt x4 r = fil K r) ∧ krf K = x5 ∧ kcf K = x6 ∧ kvf K = x7 ∧ kag K = x8 ∧ (∀ s : Int32, (0 ≤ s.toInt ∧ s.toInt < 4) → md3 x9 s = mo K s.toInt.toNat)
theorem fil_clr {K : Core} (w : WF K) {r i : Nat} (hr : r < 32) : fil (kClr K r) i = if r = i then false else fil K i := by
 unfold fil
 show (((kG K).set r 0)[i]?.getD 0 != 0) = _
 by_cases e : r = i
 ·rw [if_pos e, e, List.getElem?_set_self (by rw [w.g]; omega)]; rfl
 ·rw [if_neg e, List.getElem?_set_ne e]
theorem fld_clr {K : Core} (w : WF K) {r i : Nat} {g : Int32} (hr : r < 32) (hg : 0 ≤ g.toInt ∧ g.toInt < 4) : fld (kClr K r) i g = if r = i then 0 else fld K i g := by
 have d := w.d
 unfold fld
 show ((((((kDa K).set (r * 4 + 0) 0).set (r * 4 + 1) 0).set (r * 4 + 2) 0).set (r * 4 + 3) 0)[i * 4 + g.toInt.toNat]?).getD 0 = _
 by_cases e : r = i
 ·rw [if_pos e]
  subst e
  simp only [List.getElem?_set, List.length_set]
  have : g.toInt.toNat = 0 ∨ g.toInt.toNat = 1 ∨ g.toInt.toNat = 2 ∨ g.toInt.toNat = 3 := by omega
  rcases this with h | h | h | h <;> rw [h] <;> simp <;> split <;> rfl
 ·rw [if_neg e, List.getElem?_set_ne (by omega), List.getElem?_set_ne (by omega), List.getElem?_set_ne (by omega), List.getElem?_set_ne (by omega)]
theorem St_set {K : Core} {x2 : Int64} {x4 x5 x6 x7 x8 x9 : Int32} (h : St K x2 x4 x5 x6 x7 x8 x9) {a b c : Int32} (ha : 0 ≤ a.toInt ∧ a.toInt < 4) (hb : 0 ≤ b.toInt ∧ b.toInt < 4) (hc : 0 ≤ c.toInt ∧ c.toInt ≤ 15) : St (kSet K a.toInt.toNat b.toInt.toNat c) (put4 x2 a b c) (x4 ||| ((1 : Int32) <<< (a &&& 31))) x5 x6 x7 x8 x9 := by
 obtain ⟨wf, r4, n4, hc1, hf1, e5, e6, e7, e8, hm⟩ := h
 refine ⟨wf.set (by omega), r4, n4, ?_, ?_, e5, e6, e7, e8, hm⟩
 ·intro r f hr hf
  rw [cel_put x2 ha hb hc hr hf, fld_set wf (by omega) (by omega) hf]
  by_cases q : a.toInt = r.toInt ∧ b.toInt = f.toInt
  ·rw [if_pos q, if_pos (by omega)]
   exact ⟨rfl, hc⟩
  ·rw [if_neg q, if_neg (by omega)]
   exact hc1 r f hr hf
 ·intro r hr
  rw [bt_or, bt_one (k := a.toInt.toNat) (by omega) (by omega) (by omega), fil_set wf (by omega), hf1 r hr]
  by_cases q : a.toInt.toNat = r
  ·rw [if_pos q, decide_eq_true q.symm, Bool.or_true]
  ·rw [if_neg q, decide_eq_false (fun e => q e.symm), Bool.or_false]
theorem St_clr {K : Core} {x2 : Int64} {x4 x5 x6 x7 x8 x9 : Int32} (h : St K x2 x4 x5 x6 x7 x8 x9) {a : Int32} (ha : 0 ≤ a.toInt ∧ a.toInt < 4) : St (kClr K a.toInt.toNat) (clr4 x2 a) (x4 &&& (((1 : Int32) <<< (a &&& 31)) ^^^ (-1))) x5 x6 x7 x8 x9 := by
 obtain ⟨wf, r4, n4, hc1, hf1, e5, e6, e7, e8, hm⟩ := h
 refine ⟨wf.clr (by omega), r4, n4, ?_, ?_, e5, e6, e7, e8, hm⟩
 ·intro r f hr hf
  rw [cel_clr x2 ha hr hf, fld_clr wf (by omega) hf]
  by_cases q : a.toInt = r.toInt
  ·rw [if_pos q, if_pos (by omega)]
   exact ⟨rfl, by decide, by decide⟩
  ·rw [if_neg q, if_neg (by omega)]
   exact hc1 r f hr hf
 ·intro r hr
  rw [bt_andn _ _ (by omega), bt_one (k := a.toInt.toNat) (by omega) (by omega) (by omega), fil_clr wf (by omega), hf1 r hr]
  by_cases q : a.toInt.toNat = r
  ·rw [if_pos q, decide_eq_true q.symm, Bool.not_true, Bool.and_false]
  ·rw [if_neg q, decide_eq_false (fun e => q e.symm), Bool.not_false, Bool.and_true]
theorem St_piv {K : Core} {x2 : Int64} {x4 x5 x6 x7 x8 x9 : Int32} (h : St K x2 x4 x5 x6 x7 x8 x9) {a b c g : Int32} (ha : 0 ≤ a.toInt ∧ a.toInt < 4) (hb : 0 ≤ b.toInt ∧ b.toInt < 4) (hc : 0 ≤ c.toInt ∧ c.toInt < 4) : St (kPiv K a b c g) x2 x4 a b c g x9 := by
 obtain ⟨wf, r4, n4, hc1, hf1, e5, e6, e7, e8, hm⟩ := h
 exact ⟨wf.piv ha hb hc, r4, n4, hc1, hf1, rfl, rfl, rfl, rfl, hm⟩
theorem St_for {K : Core} {x2 : Int64} {x4 x5 x6 x7 x8 x9 : Int32} (h : St K x2 x4 x5 x6 x7 x8 x9) {a m p q : Int32} (ha : 0 ≤ a.toInt ∧ a.toInt < 4) (hm' : 0 ≤ m.toInt ∧ m.toInt < 8) : St (kFor K a.toInt.toNat m p q) x2 x4 x5 x6 x7 x8 (put3 x9 a m) := by
 obtain ⟨wf, r4, n4, hc1, hf1, e5, e6, e7, e8, hm⟩ := h
 refine ⟨wf.for, r4, n4, hc1, hf1, e5, e6, e7, e8, ?_⟩
 intro s hs
 have l1 := wf.m
 rw [md_put x9 ha hm' hs]
 show _ = (((kM K).set a.toInt.toNat m)[s.toInt.toNat]?).getD 0
 by_cases e : a.toInt = s.toInt
 ·rw [if_pos e, e, List.getElem?_set_self (by omega)]; rfl
 ·rw [if_neg e, List.getElem?_set_ne (by omega)]
  exact hm s hs
theorem sorted_eq : ∀ {l m : List Int32}, l.Pairwise (fun a b => a.toInt < b.toInt) → m.Pairwise (fun a b => a.toInt < b.toInt) → (∀ x, x ∈ l ↔ x ∈ m) → l = m
 | [], [], _, _, _ => rfl
 | [], b :: m, _, _, h => by have := (h b).2 (List.mem_cons_self ..); cases this
 | a :: l, [], _, _, h => by have := (h a).1 (List.mem_cons_self ..); cases this
 | a :: l, b :: m, h1, h2, h => by
  rw [List.pairwise_cons] at h1 h2
  have e : a = b := by
   rcases List.mem_cons.1 ((h a).1 (List.mem_cons_self ..)) with q | q
   ·exact q
   ·rcases List.mem_cons.1 ((h b).2 (List.mem_cons_self ..)) with p | p
    ·exact p.symm
    ·have := h1.1 b p
     have := h2.1 a q
     omega
  subst e
  congr 1
  refine sorted_eq h1.2 h2.2 (fun x => ⟨fun q => ?_, fun q => ?_⟩)
  ·rcases List.mem_cons.1 ((h x).1 (List.mem_cons_of_mem _ q)) with p | p
   ·have := h1.1 x q; rw [p] at this; omega
   ·exact p
  ·rcases List.mem_cons.1 ((h x).2 (List.mem_cons_of_mem _ q)) with p | p
   ·have := h2.1 x q; rw [p] at this; omega
   ·exact p
def bL (x : Int32) (n : Nat) : List Int32 := ((List.range n).filter (bt x)).map (fun (i : Nat) => Int32.ofInt i)
theorem bL_s (x : Int32) (n : Nat) : bL x (n + 1) = if bt x n then bL x n ++ [Int32.ofInt n] else bL x n := by
 unfold bL
 rw [List.range_succ, List.filter_append, List.map_append]
 by_cases h : bt x n = true
 ·rw [if_pos h, List.filter_cons_of_pos h]; rfl
 ·rw [if_neg h, List.filter_cons_of_neg h]; simp
theorem ofi {n : Nat} (h : n < 100) : (Int32.ofInt n).toInt = n := by
 rw [Int32.toInt_ofInt_of_le (by show _ ≤ (n : Int); omega) (by show (n : Int) < _; omega)]
theorem bL_sorted (x : Int32) : ∀ n, n ≤ 32 → (bL x n).Pairwise (fun a b => a.toInt < b.toInt) ∧ ∀ y, y ∈ bL x n → 0 ≤ y.toInt ∧ y.toInt < n
 | 0, _ => ⟨by unfold bL; simp, fun y hy => by unfold bL at hy; simp at hy⟩
 | n + 1, hn => by
  obtain ⟨h1, h2⟩ := bL_sorted x n (by omega)
  rw [bL_s]
  by_cases c : bt x n = true
  ·rw [if_pos c]
   refine ⟨?_, ?_⟩
   ·rw [List.pairwise_append]
    refine ⟨h1, by simp, fun a ha b hb => ?_⟩
    simp at hb
    rw [hb, ofi (by omega)]
    exact (h2 a ha).2
   ·intro y hy
    rcases List.mem_append.1 hy with q | q
    ·have := h2 y q; omega
    ·simp at q
     rw [q, ofi (by omega)]; omega
  ·rw [if_neg c]
   exact ⟨h1, fun y hy => by have := h2 y hy; omega⟩
theorem bL_len (x : Int32) (n : Nat) : (bL x n).length ≤ n := by
 have := List.length_filter_le (bt x) (List.range n)
 rw [List.length_range] at this
 unfold bL
 rw [List.length_map]
 exact this
theorem bL_keys {K : Core} {f x : Int32} (hx : ∀ v : Nat, v < 16 → (bt x v = true ↔ Int32.ofInt v ∈ kys K f)) (hk : ∀ y, y ∈ kys K f → 0 ≤ y.toInt ∧ y.toInt ≤ 15) : kys K f = bL x 16 := by
 obtain ⟨h1, h2⟩ := bL_sorted x 16 (by omega)
 refine sorted_eq (key_sorted K f (nR K)) h1 (fun y => ⟨fun q => ?_, fun q => ?_⟩)
 ·have r := hk y q
  have e : y = Int32.ofInt (y.toInt.toNat : Nat) := ofI (by omega)
  rw [e] at q ⊢
  unfold bL
  rw [List.mem_map]
  exact ⟨y.toInt.toNat, by rw [List.mem_filter, List.mem_range]; exact ⟨by omega, (hx _ (by omega)).2 q⟩, rfl⟩
 ·unfold bL at q
  rw [List.mem_map] at q
  obtain ⟨i, hi, rfl⟩ := q
  rw [List.mem_filter, List.mem_range] at hi
  exact (hx i hi.1).1 hi.2
theorem k16 {k : Int32} (h : 0 ≤ k.toInt ∧ k.toInt < 16) : (k >>> ((2 : Int32) &&& 31)).toInt = (k.toInt.toNat / 4 : Nat) ∧ (k &&& 3).toInt = (k.toInt.toNat % 4 : Nat) :=
 small_cases (P := fun k => (k >>> ((2 : Int32) &&& 31)).toInt = (k.toInt.toNat / 4 : Nat) ∧ (k &&& 3).toInt = (k.toInt.toNat % 4 : Nat)) h.1 (n := 16) (by omega) (by decide)
def Acc (K : Core) (n : Nat) (c s mn mx a b : Int32) : Prop := c = (ev (vC (gV K) (fil K) n)).2.1 ∧ s = (ev (vC (gV K) (fil K) n)).1 ∧ mn = (if c = 0 then 16 else (ev (vC (gV K) (fil K) n)).2.2.1) ∧ mx = (if c = 0 then -1 else (ev (vC (gV K) (fil K) n)).2.2.2) ∧ (∀ v : Nat, v < 16 → (bt a v = true ↔ Int32.ofInt v ∈ keyN K (krf K) n)) ∧ (∀ v : Nat, v < 16 → (bt b v = true ↔ Int32.ofInt v ∈ keyN K (kcf K) n))
theorem key_bit {K : Core} {f : Int32} {n : Nat} {a : Int32} (h : ∀ v : Nat, v < 16 → (bt a v = true ↔ Int32.ofInt v ∈ keyN K f n)) (fi : fil K n = true) (h0 : 0 ≤ (fld K n f).toInt ∧ (fld K n f).toInt ≤ 15) : ∀ v : Nat, v < 16 → (bt (a ||| ((1 : Int32) <<< (fld K n f &&& 31))) v = true ↔ Int32.ofInt v ∈ keyN K f (n + 1)) := by
 intro v hv
 rw [bt_or, bt_one (k := (fld K n f).toInt.toNat) (by omega) (by omega) (by omega), keyN_s, if_pos fi, ins_mem, Bool.or_eq_true, h v hv, decide_eq_true_iff]
 have : Int32.ofInt v = fld K n f ↔ v = (fld K n f).toInt.toNat := by
  rw [i_eq, ofi (by omega)]; omega
 rw [this]
 exact ⟨fun q => q.symm, fun q => q.symm⟩
theorem Acc_s {K : Core} {n : Nat} {c s mn mx a b : Int32} (hn : n < 4) (h : Acc K n c s mn mx a b) (fi : fil K n = true) (hv : 0 ≤ (gV K n).toInt ∧ (gV K n).toInt ≤ 15) (ha : 0 ≤ (fld K n (krf K)).toInt ∧ (fld K n (krf K)).toInt ≤ 15) (hb : 0 ≤ (fld K n (kcf K)).toInt ∧ (fld K n (kcf K)).toInt ≤ 15) : Acc K (n + 1) (c + 1) (s + gV K n) (if gV K n < mn then gV K n else mn) (if mx < gV K n then gV K n else mx) (a ||| ((1 : Int32) <<< (fld K n (krf K) &&& 31))) (b ||| ((1 : Int32) <<< (fld K n (kcf K) &&& 31))) := by
 obtain ⟨h1, h2, h3, h4, h5, h6⟩ := h
 have l := vC_len (gV K) (fil K) n
 have lc := ev_cnt (vC (gV K) (fil K) n) (by omega)
 rw [← h1] at lc
 have e : vC (gV K) (fil K) (n + 1) = vC (gV K) (fil K) n ++ [gV K n] := by rw [vC_s, if_pos fi]
 have c1 : (c + 1).toInt = c.toInt + 1 := inc1 (by omega)
 have cn : ¬ (c + 1) = 0 := by rw [i_eq, c1]; show ¬ c.toInt + 1 = 0; omega
 refine ⟨?_, ?_, ?_, ?_, key_bit h5 fi ha, key_bit h6 fi hb⟩
 ·rw [e, ev_s, h1]; rfl
 ·rw [e, ev_s, h2]; rfl
 ·rw [if_neg cn, e, ev_s]
  show _ = if (ev (vC (gV K) (fil K) n)).2.1 = 0 then gV K n else if gV K n < (ev (vC (gV K) (fil K) n)).2.2.1 then gV K n else (ev (vC (gV K) (fil K) n)).2.2.1
  rw [← h1, h3]
  by_cases z : c = 0
  ·rw [if_pos z, if_pos z, if_pos (by rw [i_lt]; show (gV K n).toInt < 16; omega)]
  ·rw [if_neg z, if_neg z]
 ·rw [if_neg cn, e, ev_s]
  show _ = if (ev (vC (gV K) (fil K) n)).2.1 = 0 then gV K n else if (ev (vC (gV K) (fil K) n)).2.2.2 < gV K n then gV K n else (ev (vC (gV K) (fil K) n)).2.2.2
  rw [← h1, h4]
  by_cases z : c = 0
  ·rw [if_pos z, if_pos z, if_pos (by rw [i_lt]; show -1 < (gV K n).toInt; omega)]
  ·rw [if_neg z, if_neg z]
theorem Acc_n {K : Core} {n : Nat} {c s mn mx a b : Int32} (h : Acc K n c s mn mx a b) (fi : ¬ fil K n = true) : Acc K (n + 1) c s mn mx a b := by
 have e : vC (gV K) (fil K) (n + 1) = vC (gV K) (fil K) n := by rw [vC_s, if_neg fi]
 unfold Acc
 rw [e, keyN_s, keyN_s, if_neg fi, if_neg fi]
 exact h
abbrev QL := Int32 × Int32 × Int32 × Int32 × Int32 × Int32 × Int32
theorem l1_ok {s : List Int32} {K : Core} {L : Int32} {o : Ob} {x2 : Int64} {x4 x5 x6 x7 x8 x9 x10 x11 x12 x13 x14 x19 : Int32} (hS : Sh K L o) (st : St K x2 x4 x5 x6 x7 x8 x9) : okP (loopN (B0_466 s o x2 x4 x5 x6 x7 x8 x9 x10 x11 x12 x13 x14 x19) qN (0, 0, 16, -1, 0, 0, 0)) (fun e => ∃ c sm mn mx a b, e = .inl (c, sm, mn, mx, a, b) ∧ Acc K 4 c sm mn mx a b) := by
 obtain ⟨wf, r4, n4, hc1, hf1, e5, e6, e7, e8, hm⟩ := st
 have z0 : (0 : Int32).toInt = 0 := rfl
 have z16 : (16 : Int32).toInt = 16 := rfl
 have kr : (kR K).toInt = 4 := by rw [r4]; rfl
 have b5 := wf.rf
 have b6 := wf.cf
 have b7 := wf.vf
 refine okP.loop (fun v : QL => 0 ≤ v.2.2.2.2.2.2.toInt ∧ v.2.2.2.2.2.2.toInt ≤ 16 ∧ Acc K ((v.2.2.2.2.2.2.toInt.toNat + 3) / 4) v.1 v.2.1 v.2.2.1 v.2.2.2.1 v.2.2.2.2.1 v.2.2.2.2.2.1) (fun v => (16 - v.2.2.2.2.2.2.toInt).toNat) ⟨by show (0 : Int) ≤ 0; decide, by show (0 : Int) ≤ 16; decide, ?_⟩ (by show (16 - (0 : Int)).toNat < 4000; decide) ?_
 ·show Acc K 0 0 0 16 (-1) 0 0
  have e : vC (gV K) (fil K) 0 = [] := by unfold vC; simp only [List.range_zero, List.filter_nil, List.map_nil]
  have ky : ∀ f, keyN K f 0 = [] := fun f => by unfold keyN; simp only [List.range_zero, List.filter_nil, List.foldl_nil]
  unfold Acc
  rw [e, ky, ky]
  refine ⟨rfl, rfl, rfl, rfl, ?_, ?_⟩
  ·intro v _
   rw [bt_0]
   exact ⟨fun q => absurd q (by decide), fun q => absurd q (by simp)⟩
  ·intro v _
   rw [bt_0]
   exact ⟨fun q => absurd q (by decide), fun q => absurd q (by simp)⟩
 rintro ⟨c, sm, mn, mx, a, b, k⟩ ⟨k0, k1, ac⟩
 simp only at k0 k1 ac
 unfold B0_466
 simp only
 by_cases d : k < 16
 ·rw [if_pos d]
  rw [i_lt, z16] at d
  obtain ⟨q1, q2⟩ := k16 ⟨k0, d⟩
  have e1 : (k + 1).toInt = k.toInt + 1 := inc1 (by omega)
  have en : (k + 1).toInt.toNat = k.toInt.toNat + 1 := by omega
  obtain ⟨r, hr⟩ : ∃ r, r = k >>> ((2 : Int32) &&& 31) := ⟨_, rfl⟩
  obtain ⟨f, hf⟩ : ∃ f, f = k &&& 3 := ⟨_, rfl⟩
  rw [← hr] at q1
  rw [← hf] at q2
  rw [← hr, ← hf, getCell_ok wf hS, cel_ok]
  simp only [Option.bind_some]
  have hr4 : 0 ≤ r.toInt ∧ r.toInt < 4 := by omega
  have hf4 : 0 ≤ f.toInt ∧ f.toInt < 4 := by omega
  rw [if_pos (show (0 ≤ r.toInt ∧ r.toInt < (kR K).toInt) ∧ (0 ≤ f.toInt ∧ f.toInt < 4) from ⟨by omega, hf4⟩), if_pos (hc1 r f hr4 hf4).1.symm]
  have nx : ∀ {c sm mn mx a b : Int32}, Acc K ((k.toInt.toNat + 1 + 3) / 4) c sm mn mx a b → okP (J0_619 s o x2 x4 x5 x6 x7 x8 x9 x10 x11 x12 x13 x14 x19 c sm mn mx a b k) (fun r => Sum.elim (fun e => ∃ c sm mn mx a b, e = .inl (c, sm, mn, mx, a, b) ∧ Acc K 4 c sm mn mx a b) (fun v : QL => (0 ≤ v.2.2.2.2.2.2.toInt ∧ v.2.2.2.2.2.2.toInt ≤ 16 ∧ Acc K ((v.2.2.2.2.2.2.toInt.toNat + 3) / 4) v.1 v.2.1 v.2.2.1 v.2.2.2.1 v.2.2.2.2.1 v.2.2.2.2.2.1) ∧ (16 - v.2.2.2.2.2.2.toInt).toNat < (16 - k.toInt).toNat) r) := by
   intro c sm mn mx a b h
   unfold J0_619
   exact okP.some ⟨⟨by simp only; omega, by simp only; omega, by simp only [en]; exact h⟩, by simp only; omega⟩
  by_cases f0 : f = 0
  ·rw [if_pos f0, isFil_ok wf hS]
   simp only [Option.bind_some]
   rw [i_eq, z0] at f0
   have rn : r.toInt.toNat = (k.toInt.toNat + 3) / 4 := by omega
   have rn1 : (k.toInt.toNat + 1 + 3) / 4 = r.toInt.toNat + 1 := by omega
   rw [← rn] at ac
   rw [bt_shr x4 (n := r.toInt.toNat) (by omega) (by omega), hf1 _ (by omega)]
   by_cases fi : fil K r.toInt.toNat = true
   ·rw [if_pos fi, if_pos (show (0 ≤ r.toInt ∧ r.toInt < (kR K).toInt) ∧ fil K r.toInt.toNat = true from ⟨by omega, fi⟩), if_pos rfl, if_pos rfl, if_neg (by decide), cel_ok, cel_ok, cel_ok]
    simp only [Option.bind_some]
    have c7 := hc1 r x7 hr4 (by rw [← e7]; exact b7)
    have c5 := hc1 r x5 hr4 (by rw [← e5]; exact b5)
    have c6 := hc1 r x6 hr4 (by rw [← e6]; exact b6)
    rw [c7.1, c5.1, c6.1, ← e5, ← e6, ← e7]
    rw [← e7] at c7
    rw [← e5] at c5
    rw [← e6] at c6
    apply nx
    rw [rn1]
    exact Acc_s (by omega) ac fi c7.2 c5.2 c6.2
   ·rw [if_neg fi, if_neg (show ¬ ((0 ≤ r.toInt ∧ r.toInt < (kR K).toInt) ∧ fil K r.toInt.toNat = true) from fun q => fi q.2), if_neg (show ¬ (0 : Int32) = 1 by decide), if_pos rfl, if_pos rfl]
    apply nx
    rw [rn1]
    exact Acc_n ac fi
  ·rw [if_neg f0]
   rw [i_eq, z0] at f0
   apply nx
   have : (k.toInt.toNat + 1 + 3) / 4 = (k.toInt.toNat + 3) / 4 := by omega
   rw [this]
   exact ac
 ·rw [if_neg d]
  rw [i_lt, z16] at d
  have : (k.toInt.toNat + 3) / 4 = 4 := by omega
  rw [this] at ac
  exact okP.some ⟨_, _, _, _, _, _, rfl, ac⟩
theorem l2_ok {s : List Int32} {o : Ob} {x2 : Int64} {x4 x5 x6 x7 x8 x9 x10 x11 x12 x13 x14 x19 x21 a b x27 : Int32} : okP (loopN (B0_708 s o x2 x4 x5 x6 x7 x8 x9 x10 x11 x12 x13 x14 x19 x21 a b x27) qN (0, 0, -1, 0)) (fun e => e.1.toInt = (bL a 16).length ∧ e.2.1.toInt = (bL b 16).length ∧ e.2.2 = ((bL a 16)[0]?).getD (-1)) := by
 have z0 : (0 : Int32).toInt = 0 := rfl
 have z16 : (16 : Int32).toInt = 16 := rfl
 refine okP.loop (fun v => 0 ≤ v.2.2.2.toInt ∧ v.2.2.2.toInt ≤ 16 ∧ v.1.toInt = (bL a v.2.2.2.toInt.toNat).length ∧ v.2.1.toInt = (bL b v.2.2.2.toInt.toNat).length ∧ v.2.2.1 = ((bL a v.2.2.2.toInt.toNat)[0]?).getD (-1)) (fun v => (16 - v.2.2.2.toInt).toNat) ⟨by show (0 : Int) ≤ 0; decide, by show (0 : Int) ≤ 16; decide, rfl, rfl, rfl⟩ (by show (16 - (0 : Int)).toNat < 4000; decide) ?_
 rintro ⟨p, q, l, v⟩ ⟨v0, v1, hp, hq, hl⟩
 simp only at v0 v1 hp hq hl
 unfold B0_708
 simp only
 by_cases d : v < 16
 ·rw [if_pos d]
  rw [i_lt, z16] at d
  have e1 : (v + 1).toInt = v.toInt + 1 := inc1 (by omega)
  have en : (v + 1).toInt.toNat = v.toInt.toNat + 1 := by omega
  have la := bL_len a v.toInt.toNat
  have lb := bL_len b v.toInt.toNat
  have p1 := inc1 (x := p) (by omega)
  have q1 := inc1 (x := q) (by omega)
  rw [bt_shr a (n := v.toInt.toNat) (by omega) (by omega), bt_shr b (n := v.toInt.toNat) (by omega) (by omega)]
  apply okP.some
  refine ⟨⟨by simp only; omega, by simp only; omega, ?_, ?_, ?_⟩, by simp only; omega⟩
  ·simp only [en]
   rw [bL_s]
   by_cases c : bt a v.toInt.toNat = true
   ·rw [if_pos c, if_pos c, if_pos rfl, List.length_append, p1, hp]; rfl
   ·rw [if_neg c, if_neg c, if_neg (by decide)]; exact hp
  ·simp only [en]
   rw [bL_s]
   by_cases c : bt b v.toInt.toNat = true
   ·rw [if_pos c, if_pos c, if_pos rfl, List.length_append, q1, hq]; rfl
   ·rw [if_neg c, if_neg c, if_neg (by decide)]; exact hq
  ·simp only [en]
   rw [bL_s]
   by_cases c : bt a v.toInt.toNat = true
   ·rw [if_pos c, if_pos c, if_pos rfl]
    by_cases ne : bL a v.toInt.toNat = []
    ·rw [ne] at hl ⊢
     have : l = -1 := hl
     rw [this, if_pos (by decide)]
     show v = Int32.ofInt (v.toInt.toNat : Nat)
     exact ofI (by omega)
    ·have lp : 0 < (bL a v.toInt.toNat).length := List.length_pos_iff.2 ne
     rw [List.getElem?_append_left lp]
     rw [List.getElem?_eq_getElem lp] at hl ⊢
     have hl' : l = (bL a v.toInt.toNat)[0] := hl
     have := ((bL_sorted a v.toInt.toNat (by omega)).2 _ (List.getElem_mem lp)).1
     rw [if_neg (by rw [i_lt, z0, hl']; omega)]
     exact hl
   ·rw [if_neg c, if_neg c, if_neg (by decide)]; exact hl
 ·rw [if_neg d]
  rw [i_lt, z16] at d
  have : v.toInt.toNat = 16 := by omega
  rw [this] at hp hq hl
  exact okP.some ⟨hp, hq, hl⟩
def cG (K : Core) (n : Nat) : Nat := ((List.range n).filter (fun s => mo K s == 4)).length
def cO (K : Core) (n : Nat) : Nat := ((List.range n).filter (fun s => !(mo K s == 0) && !(mo K s == 4))).length
theorem cnt_s (p : Nat → Bool) (n : Nat) : ((List.range (n + 1)).filter p).length = if p n then ((List.range n).filter p).length + 1 else ((List.range n).filter p).length := by
 rw [List.range_succ, List.filter_append, List.length_append]
 by_cases h : p n = true
 ·rw [if_pos h, List.filter_cons_of_pos h]; rfl
 ·rw [if_neg h, List.filter_cons_of_neg h]; rfl
theorem cnt_le (p : Nat → Bool) (n : Nat) : ((List.range n).filter p).length ≤ n := by
 have := List.length_filter_le p (List.range n)
 rw [List.length_range] at this
 exact this
theorem fm4 {K : Core} {s : Nat} (h : mo K s = 4) : fm K s = grp K 0 0 0 0 := by
 unfold fm
 rw [h]
 rfl
theorem fm0 {K : Core} {s : Nat} (h : mo K s = 0) : fm K s = (0, 0) := by
 unfold fm
 rw [if_pos h]
def gF (K : Core) : Int32 := if (0 : Int32) < (grp K 0 0 0 0).2 then 1 else 0
def gSame (K K' : Core) : Prop := (grp K' 0 0 0 0).1 = (grp K 0 0 0 0).1 ∧ gF K' = gF K
instance (K K' : Core) : Decidable (gSame K K') := by unfold gSame; infer_instance
def lo (K K' : Core) (n : Nat) : Nat := if gSame K K' then 0 else cG K' n
theorem cc_bd {K K' : Core} (hm : ∀ s, s < 4 → mo K s = mo K' s) : ∀ n, n ≤ 4 → lo K K' n ≤ cc K K' n ∧ cc K K' n ≤ lo K K' n + cO K' n
 | 0, _ => by
  have e : lo K K' 0 = 0 := by unfold lo; split <;> rfl
  rw [e]
  exact ⟨Nat.zero_le _, Nat.le_refl _⟩
 | n + 1, hn => by
  obtain ⟨i1, i2⟩ := cc_bd hm n (by omega)
  have m := hm n (by omega)
  have g1 : cG K' (n + 1) = if mo K' n == 4 then cG K' n + 1 else cG K' n := cnt_s _ n
  have o1 : cO K' (n + 1) = if (!(mo K' n == 0) && !(mo K' n == 4)) then cO K' n + 1 else cO K' n := cnt_s _ n
  rw [cc_s, o1]
  by_cases m0 : mo K' n = 0
  ·have c : chg K K' n = false := by
    unfold chg fnd
    rw [fm0 m0, fm0 (m.trans m0)]; rfl
   have e : lo K K' (n + 1) = lo K K' n := by unfold lo; rw [g1, m0]; rfl
   rw [c, e, m0]
   exact ⟨i1, i2⟩
  ·by_cases m4 : mo K' n = 4
   ·have c : chg K K' n = !decide (gSame K K') := by
     have e : ((fm K' n).1 == (fm K n).1 && fnd K' n == fnd K n) = decide (gSame K K') := by
      rw [Bool.eq_iff_iff, decide_eq_true_iff, Bool.and_eq_true, beq_iff_eq, beq_iff_eq]
      unfold gSame gF fnd
      rw [fm4 m4, fm4 (m.trans m4)]
     unfold chg
     rw [e]
    rw [c, m4]
    by_cases q : gSame K K'
    ·have e : lo K K' (n + 1) = lo K K' n := by unfold lo; rw [if_pos q, if_pos q]
     rw [e, decide_eq_true q]
     exact ⟨i1, i2⟩
    ·have e : lo K K' (n + 1) = lo K K' n + 1 := by unfold lo; rw [if_neg q, if_neg q, g1, m4]; rfl
     rw [e, decide_eq_false q]
     simp only [Bool.not_false, if_true]
     refine ⟨by omega, ?_⟩
     show _ ≤ lo K K' n + 1 + cO K' n
     omega
   ·have e : lo K K' (n + 1) = lo K K' n := by unfold lo; rw [g1, beq_false_of_ne m4]; rfl
    rw [e, beq_false_of_ne m0, beq_false_of_ne m4]
    simp only [Bool.not_false, Bool.and_self, if_true]
    split <;> omega
theorem l3_ok {s : List Int32} {K : Core} {L : Int32} {o : Ob} {x2 : Int64} {x4 x5 x6 x7 x8 x9 x10 x11 x12 x13 x14 x19 x21 x27 : Int32} (hS : Sh K L o) (st : St K x2 x4 x5 x6 x7 x8 x9) (h21 : x21 = (grp K 0 0 0 0).2) (h27 : x27 = (grp K 0 0 0 0).1) : okP (loopN (B0_804 s x2 x4 x5 x6 x7 x8 x9 x10 x11 x12 x13 x14 x19 x21 x27) qN (0, 0, 0, o)) (fun e => ∃ g t p, e = .inl (g, t, p) ∧ g.toInt = cG K 4 ∧ t.toInt = cO K 4 ∧ Sh K L p) := by
 obtain ⟨wf, r4, n4, hc1, hf1, e5, e6, e7, e8, hm⟩ := st
 have z0 : (0 : Int32).toInt = 0 := rfl
 have z4 : (4 : Int32).toInt = 4 := rfl
 have kn : (kN K).toInt = 4 := by rw [n4]; rfl
 refine okP.loop (fun v => 0 ≤ v.2.2.1.toInt ∧ v.2.2.1.toInt ≤ 4 ∧ v.1.toInt = cG K v.2.2.1.toInt.toNat ∧ v.2.1.toInt = cO K v.2.2.1.toInt.toNat ∧ Sh K L v.2.2.2) (fun v => (4 - v.2.2.1.toInt).toNat) ⟨by show (0 : Int) ≤ 0; decide, by show (0 : Int) ≤ 4; decide, rfl, rfl, hS⟩ (by show (4 - (0 : Int)).toNat < 4000; decide) ?_
 rintro ⟨g, t, v, p⟩ ⟨v0, v1, hg, ht, hp⟩
 simp only at v0 v1 hg ht hp
 unfold B0_804
 simp only
 by_cases d : v < 4
 ·rw [if_pos d]
  rw [i_lt, z4] at d
  have e1 : (v + 1).toInt = v.toInt + 1 := inc1 (by omega)
  have en : (v + 1).toInt.toNat = v.toInt.toNat + 1 := by omega
  have m : (x9 >>> ((v * 3) &&& 31)) &&& 7 = mo K v.toInt.toNat := hm v ⟨v0, d⟩
  rw [m]
  have lg := cnt_le (fun s => mo K s == 4) v.toInt.toNat
  have lt := cnt_le (fun s => !(mo K s == 0) && !(mo K s == 4)) v.toInt.toNat
  have hg' : g.toInt = ((List.range v.toInt.toNat).filter (fun s => mo K s == 4)).length := hg
  have ht' : t.toInt = ((List.range v.toInt.toNat).filter (fun s => !(mo K s == 0) && !(mo K s == 4))).length := ht
  have g1 : (g + 1).toInt = g.toInt + 1 := inc1 (by omega)
  have t1 : (t + 1).toInt = t.toInt + 1 := inc1 (by omega)
  have gs : cG K (v.toInt.toNat + 1) = if mo K v.toInt.toNat == 4 then cG K v.toInt.toNat + 1 else cG K v.toInt.toNat := cnt_s _ _
  have os : cO K (v.toInt.toNat + 1) = if (!(mo K v.toInt.toNat == 0) && !(mo K v.toInt.toNat == 4)) then cO K v.toInt.toNat + 1 else cO K v.toInt.toNat := cnt_s _ _
  by_cases m0 : mo K v.toInt.toNat = 0
  ·rw [if_pos m0]
   apply okP.bind
   refine okP.mono (fval_ok wf hp v) ?_
   rintro ⟨n1, q1⟩ ⟨c1, s1⟩
   rw [if_pos ⟨v0, by omega⟩, fm0 m0] at c1
   simp only at c1 s1 ⊢
   rw [if_pos c1]
   apply okP.bind
   refine okP.mono (ffnd_ok wf s1 v) ?_
   rintro ⟨n2, q2⟩ ⟨c2, s2⟩
   rw [if_pos ⟨v0, by omega⟩] at c2
   have f0 : fnd K v.toInt.toNat = 0 := by unfold fnd; rw [fm0 m0]; rfl
   rw [f0] at c2
   simp only at c2 s2 ⊢
   rw [if_pos c2]
   unfold J0_847 J0_888
   rw [m0, if_neg (by decide), if_pos rfl]
   rw [m0] at gs os
   refine okP.some ⟨⟨by simp only; omega, by simp only; omega, ?_, ?_, s2⟩, by simp only; omega⟩
   ·simp only [en]; rw [gs]; exact hg
   ·simp only [en]; rw [os]; exact ht
  ·rw [if_neg m0]
   unfold J0_847 J0_888
   by_cases m4 : mo K v.toInt.toNat = 4
   ·rw [if_pos m4]
    apply okP.bind
    refine okP.mono (fval_ok wf hp v) ?_
    rintro ⟨n1, q1⟩ ⟨c1, s1⟩
    rw [if_pos ⟨v0, by omega⟩, fm4 m4] at c1
    simp only at c1 s1 ⊢
    rw [if_pos (by rw [c1, h27])]
    apply okP.bind
    refine okP.mono (ffnd_ok wf s1 v) ?_
    rintro ⟨n2, q2⟩ ⟨c2, s2⟩
    rw [if_pos ⟨v0, by omega⟩] at c2
    have f0 : fnd K v.toInt.toNat = if (0 : Int32) < x21 then 1 else 0 := by unfold fnd; rw [fm4 m4, h21]
    rw [f0] at c2
    simp only at c2 s2 ⊢
    rw [if_pos c2, m4, if_neg (by decide), if_pos rfl]
    rw [m4] at gs os
    refine okP.some ⟨⟨by simp only; omega, by simp only; omega, ?_, ?_, s2⟩, by simp only; omega⟩
    ·simp only [en]; rw [gs, g1, hg]; rfl
    ·simp only [en]; rw [os]; exact ht
   ·rw [if_neg m4, if_neg m0, if_neg m4]
    rw [beq_false_of_ne m4] at gs
    rw [beq_false_of_ne m0, beq_false_of_ne m4] at os
    refine okP.some ⟨⟨by simp only; omega, by simp only; omega, ?_, ?_, hp⟩, by simp only; omega⟩
    ·simp only [en]; rw [gs]; exact hg
    ·simp only [en]; rw [os, t1, ht]; rfl
 ·rw [if_neg d]
  rw [i_lt, z4] at d
  have : v.toInt.toNat = 4 := by omega
  rw [this] at hg ht
  exact okP.some ⟨_, _, _, rfl, hg, ht, hp⟩
abbrev QI := Int64 × Int32 × Int32 × Int32 × Int32 × Int32 × Int32 × Int32 × Int32 × Int32 × Int32 × Ob
def Cas (K : Core) (L x10 x11 x12 x14 x19 : Int32) : Prop := (x19 = 0 ∧ L = x10) ∨ (x19 = 1 ∧ ¬ x14 < 3 ∧ L = x10) ∨ (x19 = 1 ∧ x14 < 3 ∧ ∃ Kp, (∀ s, s < 4 → mo Kp s = mo K s) ∧ x11 = (grp Kp 0 0 0 0).1 ∧ x12 = gF Kp ∧ L.toInt = cc Kp K 4)
theorem e795 {s : List Int32} {K : Core} {L : Int32} {o : Ob} {x2 : Int64} {x4 x5 x6 x7 x8 x9 x10 x11 x12 x13 x14 x19 x21 x27 : Int32} (hS : Sh K L o) (st : St K x2 x4 x5 x6 x7 x8 x9) (h21 : x21 = (grp K 0 0 0 0).2) (h27 : x27 = (grp K 0 0 0 0).1) (hc : Cas K L x10 x11 x12 x14 x19) {P : (Int32 × QHeap) ⊕ QI → Prop} (k : ∀ p, Sh K L p → P (.inr (x2, x4, x5, x6, x7, x8, x9, L, x27, gF K, x13 + 4, p))) : okP (J0_795 s o x2 x4 x5 x6 x7 x8 x9 x10 x11 x12 x13 x14 x19 x21 x27) P := by
 have z0 : (0 : Int32).toInt = 0 := rfl
 unfold J0_795
 apply okP.bind
 refine okP.mono (l3_ok hS st h21 h27) ?_
 rintro _ ⟨g, t, p, rfl, hg, ht, hp⟩
 simp only
 have gf : gF K = if (0 : Int32) < x21 then 1 else 0 := by unfold gF; rw [h21]
 have old : L = x10 → okP (J0_977 s p x2 x4 x5 x6 x7 x8 x9 x10 x13 x21 x27) P := by
  intro e
  unfold J0_977 J0_988
  have lc : F19 p = some L := by unfold F19; rw [hp.2.1]
  rw [lc]
  simp only [Option.bind_some]
  rw [if_pos e, ← gf, ← e]
  exact okP.some (k p hp)
 rcases hc with ⟨h, e⟩ | ⟨h, n, e⟩ | ⟨h, l, Kp, hmo, e11, e12, hL⟩
 ·rw [if_pos h]
  exact old e
 ·rw [if_neg (by rw [h]; decide), if_neg n]
  exact old e
 ·rw [if_neg (by rw [h]; decide), if_pos l]
  have lc : F19 p = some L := by unfold F19; rw [hp.2.1]
  rw [lc]
  simp only [Option.bind_some]
  obtain ⟨b1, b2⟩ := cc_bd hmo 4 (Nat.le_refl _)
  have cg := cnt_le (fun s => mo K s == 4) 4
  have co := cnt_le (fun s => !(mo K s == 0) && !(mo K s == 4)) 4
  have cg' : cG K 4 ≤ 4 := cg
  have co' : cO K 4 ≤ 4 := co
  have hlo : (if x27 = x11 then (if (0 : Int32) < x21 then (if (1 : Int32) = x12 then (0 : Int32) else g) else (if (0 : Int32) = x12 then (0 : Int32) else g)) else g).toInt = lo Kp K 4 := by
   have gs : gSame Kp K ↔ (x27 = x11 ∧ (if (0 : Int32) < x21 then (1 : Int32) else 0) = x12) := by
    unfold gSame
    rw [← h27, ← e11, gf, ← e12]
   unfold lo
   by_cases a : x27 = x11
   ·rw [if_pos a]
    by_cases b : (0 : Int32) < x21
    ·rw [if_pos b] at gs ⊢
     by_cases c : (1 : Int32) = x12
     ·rw [if_pos c, if_pos (gs.2 ⟨a, c⟩)]; rfl
     ·rw [if_neg c, if_neg (fun q => c (gs.1 q).2)]; exact hg
    ·rw [if_neg b] at gs ⊢
     by_cases c : (0 : Int32) = x12
     ·rw [if_pos c, if_pos (gs.2 ⟨a, c⟩)]; rfl
     ·rw [if_neg c, if_neg (fun q => c (gs.1 q).2)]; exact hg
   ·rw [if_neg a, if_neg (fun q => a (gs.1 q).1)]; exact hg
  obtain ⟨w, hw⟩ : ∃ w, w = (if x27 = x11 then (if (0 : Int32) < x21 then (if (1 : Int32) = x12 then (0 : Int32) else g) else (if (0 : Int32) = x12 then (0 : Int32) else g)) else g) := ⟨_, rfl⟩
  rw [← hw] at hlo ⊢
  have wl : lo Kp K 4 ≤ 4 := by unfold lo; split <;> omega
  rw [if_neg (by rw [i_lt]; omega), if_neg (by rw [i_lt, i_add (by omega) (by omega)]; omega)]
  unfold J0_988
  rw [← gf]
  exact okP.some (k p hp)
theorem e435 {s : List Int32} {K : Core} {L : Int32} {o : Ob} {x2 : Int64} {x4 x5 x6 x7 x8 x9 x10 x11 x12 x13 x14 x19 x20 : Int32} (hS : Sh K L o) (st : St K x2 x4 x5 x6 x7 x8 x9) (ha : x8 = 0 ∨ x8 = 1 ∨ x8 = 2 ∨ x8 = 3) (h19 : x19 = x20) (hc : Cas K L x10 x11 x12 x14 x19) {P : (Int32 × QHeap) ⊕ QI → Prop} (k : ∀ p, Sh K L p → P (.inr (x2, x4, x5, x6, x7, x8, x9, L, (grp K 0 0 0 0).1, gF K, x13 + 4, p))) : okP (J0_435 s o x2 x4 x5 x6 x7 x8 x9 x10 x11 x12 x13 x14 x19 x20) P := by
 have z0 : (0 : Int32).toInt = 0 := rfl
 have st' := st
 obtain ⟨wf, r4, n4, hc1, hf1, e5, e6, e7, e8, hm⟩ := st'
 have n4' : nR K = 4 := by unfold nR; rw [r4]; rfl
 unfold J0_435
 rw [if_pos h19]
 apply okP.bind
 refine okP.mono (l1_ok hS st) ?_
 rintro _ ⟨c, sm, mn, mx, a, b, rfl, a1, a2, a3, a4, a5, a6⟩
 simp only
 have all : cnd K 0 0 0 0 = fil K := by
  funext r
  unfold cnd
  show (fil K r && true) = fil K r
  simp
 have gr : grp K 0 0 0 0 = (pick x8 (ev (vC (gV K) (fil K) 4)), c) := by
  rw [grp_c, all]
  unfold cP cC
  rw [n4', e8, a1]
 have gv : (if c = (0 : Int32) then (0 : Int32) else (if x8 = (0 : Int32) then sm else (if x8 = (1 : Int32) then c else (if x8 = (2 : Int32) then mn else mx)))) = (grp K 0 0 0 0).1 := by
  rw [gr]
  unfold pick
  rw [← a1]
  by_cases z : c = 0
  ·rw [if_pos z, if_pos z]
  ·rw [if_neg z, if_neg z]
   rw [if_neg z] at a3 a4
   rcases ha with h | h | h | h <;> subst h
   ·exact a2
   ·rfl
   ·exact a3
   ·exact a4
 obtain ⟨gg, hgg⟩ : ∃ gg, gg = (if c = (0 : Int32) then (0 : Int32) else (if x8 = (0 : Int32) then sm else (if x8 = (1 : Int32) then c else (if x8 = (2 : Int32) then mn else mx)))) := ⟨_, rfl⟩
 rw [← hgg] at gv ⊢
 have gc : (grp K 0 0 0 0).2 = c := by rw [gr]
 have pe : pv K (-1) (-1) = grp K 0 0 0 0 := by
  unfold pv
  rw [if_pos ⟨Or.inl rfl, Or.inl rfl⟩]; rfl
 apply okP.bind
 refine okP.mono (value_ok wf hS (-1) (-1)) ?_
 rintro ⟨n1, q1⟩ ⟨c1, s1⟩
 rw [pe] at c1
 simp only at c1 s1 ⊢
 rw [if_pos (by rw [c1, gv])]
 apply okP.bind
 refine okP.mono (count_ok wf s1 (-1) (-1)) ?_
 rintro ⟨n2, q2⟩ ⟨c2, s2⟩
 rw [pe] at c2
 simp only at c2 s2 ⊢
 rw [if_pos (by rw [c2, gc])]
 have rng : ∀ f : Int32, (0 ≤ f.toInt ∧ f.toInt < 4) → ∀ y, y ∈ kys K f → 0 ≤ y.toInt ∧ y.toInt ≤ 15 := by
  intro f hf y hy
  obtain ⟨r, r1, r2, r3⟩ := key_mem.1 hy
  rw [n4'] at r1
  have := (hc1 (Int32.ofInt r) f (by rw [ofi (by omega)]; omega) hf).2
  rw [ofi (by omega), Int.toNat_natCast, r3] at this
  exact this
 have k5 : kys K (krf K) = bL a 16 := bL_keys (by unfold kys; rw [n4']; exact a5) (rng _ wf.rf)
 have k6 : kys K (kcf K) = bL b 16 := bL_keys (by unfold kys; rw [n4']; exact a6) (rng _ wf.cf)
 apply okP.bind
 refine okP.mono l2_ok ?_
 rintro ⟨u, w, l⟩ ⟨d1, d2, d3⟩
 simp only at d1 d2 d3 ⊢
 apply okP.bind
 refine okP.mono (rkc_ok wf s2) ?_
 rintro ⟨n3, q3⟩ ⟨c3, s3⟩
 simp only at c3 s3 ⊢
 rw [if_pos (show n3 = u by rw [i_eq, c3, k5, d1])]
 apply okP.bind
 refine okP.mono (ckc_ok wf s3) ?_
 rintro ⟨n5, q5⟩ ⟨c5, s5⟩
 simp only at c5 s5 ⊢
 rw [if_pos (show n5 = w by rw [i_eq, c5, k6, d2])]
 rw [← gv] at k
 by_cases u0 : (0 : Int32) < u
 ·rw [if_pos u0]
  apply okP.bind
  refine okP.mono (rowKey_ok wf s5 0) ?_
  rintro ⟨n6, q6⟩ ⟨c6, s6⟩
  simp only at c6 s6 ⊢
  rw [i_lt, z0, d1] at u0
  rw [if_pos (show n6 = l by
   rw [c6, d3]
   unfold rk
   rw [if_neg (by decide), k5]
   show ((bL a 16)[0]?).getD 0 = _
   rw [List.getElem?_eq_getElem (by omega)]; rfl)]
  exact e795 s6 st gc.symm gv hc k
 ·rw [if_neg u0]
  exact e795 s5 st gc.symm gv hc k
theorem ushr_nn (y : Int32) : 0 ≤ (XT.ushr y 4).toInt := by
 have e : (XT.ushr y 4).toBitVec = y.toBitVec >>> 4 := by
  show y.toBitVec >>> ((4 &&& 31 : Int32).toUInt32 % 32).toBitVec = _
  rfl
 have h : (XT.ushr y 4).toInt = (XT.ushr y 4).toBitVec.toInt := rfl
 rw [h, e, BitVec.toInt_eq_toNat_cond, BitVec.toNat_ushiftRight]
 have := y.toBitVec.isLt
 rw [if_pos (by rw [Nat.shiftRight_eq_div_pow]; omega)]
 omega
def Inv (v : QI) : Prop := ∃ K, Sh K v.2.2.2.2.2.2.2.1 v.2.2.2.2.2.2.2.2.2.2.2 ∧ St K v.1 v.2.1 v.2.2.1 v.2.2.2.1 v.2.2.2.2.1 v.2.2.2.2.2.1 v.2.2.2.2.2.2.1 ∧ v.2.2.2.2.2.2.2.2.1 = (grp K 0 0 0 0).1 ∧ v.2.2.2.2.2.2.2.2.2.1 = gF K ∧ (v.2.2.2.2.2.1 = 0 ∨ v.2.2.2.2.2.1 = 1 ∨ v.2.2.2.2.2.1 = 2 ∨ v.2.2.2.2.2.1 = 3)
theorem fin {s : List Int32} {v : QI} (h : Inv v) : sFit s (H0 s v.2.2.2.2.2.2.2.2.2.2.2) := by
 obtain ⟨K, hS, st, _⟩ := h
 obtain ⟨b1, b2, b3, b4, b5, b6, b7, b8⟩ := siz hS st.1
 refine ⟨by show 10 - 1 ≤ _; decide, ?_⟩
 simp only [H0, H0v, qhs, qsz, b1, b2, b3, b4, b5, b6, b7, b8]
 simp only [cN, room_1]
 omega
theorem four {a : Int32} (h : 0 ≤ a.toInt ∧ a.toInt ≤ 3) : a = 0 ∨ a = 1 ∨ a = 2 ∨ a = 3 :=
 small_cases (P := fun x => x = 0 ∨ x = 1 ∨ x = 2 ∨ x = 3) h.1 (n := 4) (by omega) (by decide)
theorem lt4 {a : Int32} : a < 4 ↔ a.toInt < 4 := by rw [i_lt]; exact Iff.rfl
theorem turn {s : List Int32} (hs : s.length ≤ 260) {x2 : Int64} {x4 x5 x6 x7 x8 x9 x10 x11 x12 t : Int32} {o : Ob} (h : Inv (x2, x4, x5, x6, x7, x8, x9, x10, x11, x12, t, o)) (h1 : 0 ≤ t.toInt) (h2 : t.toInt ≤ 264) : okP (B0_42 s (x2, x4, x5, x6, x7, x8, x9, x10, x11, x12, t, o)) (fun r => Sum.elim (fun e => e.1 = 1 ∧ sFit s e.2) (fun w : QI => (0 ≤ w.2.2.2.2.2.2.2.2.2.2.1.toInt ∧ w.2.2.2.2.2.2.2.2.2.2.1.toInt ≤ 264 ∧ Inv w) ∧ (300 - w.2.2.2.2.2.2.2.2.2.2.1.toInt).toNat < (300 - t.toInt).toNat) r) := by
 have hl := len_i (n := s.length) (by omega)
 have z0 : (0 : Int32).toInt = 0 := rfl
 have z1 : (1 : Int32).toInt = 1 := rfl
 have z2 : (2 : Int32).toInt = 2 := rfl
 have z3 : (3 : Int32).toInt = 3 := rfl
 have z4 : (4 : Int32).toInt = 4 := rfl
 have z5 : (5 : Int32).toInt = 5 := rfl
 have z15 : (15 : Int32).toInt = 15 := rfl
 have zm : (2147483647 : Int32).toInt = 2147483647 := rfl
 have a1 : (t + 1).toInt = t.toInt + 1 := inc1 (by omega)
 have a2 : (t + 2).toInt = t.toInt + 2 := by rw [i_add (by omega) (by omega), z2]
 have a3 : (t + 3).toInt = t.toInt + 3 := by rw [i_add (by omega) (by omega), z3]
 have a4 : (t + 4).toInt = t.toInt + 4 := by rw [i_add (by omega) (by omega), z4]
 have fn := fin (s := s) h
 simp only at fn
 unfold B0_42
 simp only
 refine okP.ite (fun c => ?_) (fun _ => okP.some ⟨rfl, fn⟩)
 rw [i_lt, hl, a3] at c
 obtain ⟨K, hS, st, e11, e12, ag4⟩ := h
 simp only at hS st e11 e12 ag4
 have next : ∀ {K' : Core} {L' : Int32} {y2 : Int64} {y4 y5 y6 y7 y8 y9 : Int32} (p : Ob), Sh K' L' p → St K' y2 y4 y5 y6 y7 y8 y9 → (y8 = 0 ∨ y8 = 1 ∨ y8 = 2 ∨ y8 = 3) → (fun r => Sum.elim (fun e => e.1 = 1 ∧ sFit s e.2) (fun w : QI => (0 ≤ w.2.2.2.2.2.2.2.2.2.2.1.toInt ∧ w.2.2.2.2.2.2.2.2.2.2.1.toInt ≤ 264 ∧ Inv w) ∧ (300 - w.2.2.2.2.2.2.2.2.2.2.1.toInt).toNat < (300 - t.toInt).toNat) r) (.inr (y2, y4, y5, y6, y7, y8, y9, L', (grp K' 0 0 0 0).1, gF K', t + 4, p) : (Int32 × QHeap) ⊕ QI) := by
  intro K' L' y2 y4 y5 y6 y7 y8 y9 p hp hst h8
  exact ⟨⟨by simp only; omega, by simp only; omega, K', hp, hst, rfl, rfl, h8⟩, by simp only; omega⟩
 have wf := st.1
 have r4 : (kR K).toInt = 4 := by rw [st.2.1]; rfl
 have n4 : (kN K).toInt = 4 := by rw [st.2.2.1]; rfl
 have nn : nN K = 4 := by unfold nN; rw [n4]; rfl
 apply okP.bind; refine okP.aget (by omega) (by omega) (fun y0 _ => ?_)
 apply okP.bind; refine okP.aget (by omega) (by omega) (fun y1 _ => ?_)
 apply okP.bind; refine okP.aget (by omega) (by omega) (fun y2 _ => ?_)
 apply okP.bind; refine okP.aget (by omega) (by omega) (fun y3 _ => ?_)
 apply okP.bind; refine okP.aget (by omega) (by omega) (fun y5 _ => ?_)
 have p1 := and_rng (x := y1) (m := 2147483647) (by decide)
 have p2 := and_rng (x := y2) (m := 2147483647) (by decide)
 have p3 := and_rng (x := y3) (m := 15) (by decide)
 have ra := mod_rng (x := y1 &&& 2147483647) (m := 5) p1.1 (by decide)
 have rb := mod_rng (x := y2 &&& 2147483647) (m := 5) p2.1 (by decide)
 have rd := mod_rng (x := XT.ushr y5 4) (m := 5) (ushr_nn y5) (by decide)
 have re := mod_rng (x := y3 &&& 15) (m := 5) p3.1 (by decide)
 rw [z5] at ra rb rd re
 rw [z15] at p3
 obtain ⟨a, hA⟩ : ∃ a, a = (y1 &&& 2147483647) % 5 := ⟨_, rfl⟩
 obtain ⟨b, hB⟩ : ∃ b, b = (y2 &&& 2147483647) % 5 := ⟨_, rfl⟩
 obtain ⟨cc', hC⟩ : ∃ cc', cc' = y3 &&& 15 := ⟨_, rfl⟩
 obtain ⟨d, hD⟩ : ∃ d, d = (XT.ushr y5 4) % 5 := ⟨_, rfl⟩
 have po := and_rng (x := y0) (m := 3) (by decide)
 rw [z3] at po
 obtain ⟨op, hO⟩ : ∃ op, op = y0 &&& 3 := ⟨_, rfl⟩
 rw [← hA, ← hB, ← hC, ← hD, ← hO]
 rw [← hA] at ra
 rw [← hB] at rb
 rw [← hD] at rd
 rw [← hC] at p3 re
 rw [← hO] at po
 have opn : ¬ op = 0 → ¬ op = 1 → ¬ op = 2 → ¬ op < 3 := by
  intro q0 q1 q2 q
  rw [i_eq] at q0 q1 q2
  rw [i_lt] at q
  rw [z0] at q0
  rw [z1] at q1
  rw [z2] at q2
  rw [z3] at q
  omega
 clear hA hB hC hD hO p1 p2
 have kk : ∀ {K' : Core}, K'.2.2.2.2.2.2.2.2.1 = K.2.2.2.2.2.2.2.2.1 → ∀ q, q < 4 → mo K q = mo K' q := by
  intro K' e q _
  show ((K.2.2.2.2.2.2.2.2.1)[q]?).getD 0 = ((K'.2.2.2.2.2.2.2.2.1)[q]?).getD 0
  rw [e]
 refine okP.ite (fun d0 => ?_) (fun d0 => ?_)
 ·apply okP.bind
  refine okP.mono (setCell_ok wf hS a b cc') ?_
  rintro ⟨r, p⟩ hp
  by_cases v : a < 4 ∧ b < 4
  ·have va := lt4.1 v.1
   have vb := lt4.1 v.2
   rw [if_pos ⟨by omega, by omega⟩] at hp
   obtain ⟨r1, L', h1, l1⟩ := hp
   simp only at r1 h1 ⊢
   subst r1
   simp only [if_pos v.1, if_pos v.2, if_neg (show ¬ (1 : Int32) = 0 by decide)]
   refine e435 h1 (St_set st ⟨ra.1, va⟩ ⟨rb.1, vb⟩ p3) ag4 rfl (Or.inr (Or.inr ⟨rfl, by rw [d0]; decide, K, kk rfl, e11, e12, by rw [l1, nn]⟩)) (fun q hq => next q hq (St_set st ⟨ra.1, va⟩ ⟨rb.1, vb⟩ p3) ag4)
  ·have ve : (if a < 4 then (if b < 4 then (1 : Int32) else 0) else 0) = 0 := by
    by_cases q : a < 4
    ·rw [if_pos q, if_neg (fun w => v ⟨q, w⟩)]
    ·rw [if_neg q]
   rw [lt4, lt4] at v
   rw [if_neg (fun q => v ⟨by omega, q.2.2⟩)] at hp
   obtain ⟨r1, h1⟩ := hp
   simp only at r1 h1 ⊢
   subst r1
   simp only [ve, if_true]
   exact e435 h1 st ag4 rfl (Or.inl ⟨rfl, rfl⟩) (fun q hq => next q hq st ag4)
 refine okP.ite (fun d1 => ?_) (fun d1 => ?_)
 ·apply okP.bind
  refine okP.mono (clearRow_ok wf hS a) ?_
  rintro ⟨r, p⟩ hp
  by_cases v : a < 4 ∧ fil K a.toInt.toNat = true
  ·have va := lt4.1 v.1
   rw [if_pos ⟨by omega, v.2⟩] at hp
   obtain ⟨r1, L', h1, l1⟩ := hp
   simp only at r1 h1 ⊢
   subst r1
   rw [bt_shr x4 (n := a.toInt.toNat) (by omega) (by omega), st.2.2.2.2.1 _ (by omega), v.2]
   simp only [if_pos v.1, if_true, if_neg (show ¬ (1 : Int32) = 0 by decide)]
   exact e435 h1 (St_clr st ⟨ra.1, va⟩) ag4 rfl (Or.inr (Or.inr ⟨rfl, by rw [d1]; decide, K, kk rfl, e11, e12, by rw [l1, nn]⟩)) (fun q hq => next q hq (St_clr st ⟨ra.1, va⟩) ag4)
  ·have ve : (if a < 4 then (if ((x4 >>> (a &&& 31)) &&& 1) = 1 then (1 : Int32) else 0) else 0) = 0 := by
    by_cases q : a < 4
    ·have va := lt4.1 q
     rw [if_pos q, bt_shr x4 (n := a.toInt.toNat) (by omega) (by omega), st.2.2.2.2.1 _ (by omega), Bool.eq_false_iff.2 (fun w => v ⟨q, w⟩)]
     rfl
    ·rw [if_neg q]
   rw [lt4] at v
   rw [if_neg (fun q => v ⟨by omega, q.2⟩)] at hp
   obtain ⟨r1, h1⟩ := hp
   simp only at r1 h1 ⊢
   subst r1
   simp only [ve, if_true]
   exact e435 h1 st ag4 rfl (Or.inl ⟨rfl, rfl⟩) (fun q hq => next q hq st ag4)
 refine okP.ite (fun d2 => ?_) (fun d2 => ?_)
 ·apply okP.bind
  refine okP.mono (setPiv_ok wf hS a b (cc' % 5) d) ?_
  rintro ⟨r, p⟩ hp
  by_cases v : (a < 4 ∧ b < 4) ∧ (cc' % 5 < 4 ∧ d < 4)
  ·have va := lt4.1 v.1.1
   have vb := lt4.1 v.1.2
   have vc := lt4.1 v.2.1
   have vd := lt4.1 v.2.2
   rw [if_pos (show pOk a b (cc' % 5) d from ⟨⟨ra.1, va⟩, ⟨rb.1, vb⟩, ⟨re.1, vc⟩, ⟨rd.1, by omega⟩⟩)] at hp
   obtain ⟨r1, L', h1, l1⟩ := hp
   simp only at r1 h1 ⊢
   subst r1
   simp only [if_pos v.1.1, if_pos v.1.2, if_pos v.2.1, if_pos v.2.2, if_neg (show ¬ (1 : Int32) = 0 by decide)]
   have st2 := St_piv st (g := d) ⟨ra.1, va⟩ ⟨rb.1, vb⟩ ⟨re.1, vc⟩
   have ag2 := four ⟨rd.1, show d.toInt ≤ 3 by omega⟩
   exact e435 h1 st2 ag2 rfl (Or.inr (Or.inr ⟨rfl, by rw [d2]; decide, K, kk rfl, e11, e12, by rw [l1, nn]⟩)) (fun q hq => next q hq st2 ag2)
  ·rw [if_neg (show ¬ pOk a b (cc' % 5) d from fun q => v (by rw [lt4, lt4, lt4, lt4]; have := q.2.2.2; exact ⟨⟨q.1.2, q.2.1.2⟩, q.2.2.1.2, by omega⟩))] at hp
   obtain ⟨r1, h1⟩ := hp
   simp only at r1 h1 ⊢
   subst r1
   have bad : ∀ w, (0 : Int32) = w → okP (J0_435 s p x2 x4 x5 x6 x7 x8 x9 x10 x11 x12 t op 0 w) (fun r => Sum.elim (fun e => e.1 = 1 ∧ sFit s e.2) (fun w : QI => (0 ≤ w.2.2.2.2.2.2.2.2.2.2.1.toInt ∧ w.2.2.2.2.2.2.2.2.2.2.1.toInt ≤ 264 ∧ Inv w) ∧ (300 - w.2.2.2.2.2.2.2.2.2.2.1.toInt).toNat < (300 - t.toInt).toNat) r) := fun w hw => e435 h1 st ag4 hw (Or.inl ⟨rfl, rfl⟩) (fun q hq => next q hq st ag4)
   have b27 : okP (J0_327 s p x2 x4 x5 x6 x7 x8 x9 x10 x11 x12 t op a b cc' d 0) (fun r => Sum.elim (fun e => e.1 = 1 ∧ sFit s e.2) (fun w : QI => (0 ≤ w.2.2.2.2.2.2.2.2.2.2.1.toInt ∧ w.2.2.2.2.2.2.2.2.2.2.1.toInt ≤ 264 ∧ Inv w) ∧ (300 - w.2.2.2.2.2.2.2.2.2.2.1.toInt).toNat < (300 - t.toInt).toNat) r) := by
    unfold J0_327 J0_328
    rw [if_pos rfl]
    exact bad 0 rfl
   refine okP.ite (fun qa => ?_) (fun _ => b27)
   refine okP.ite (fun qb => ?_) (fun _ => b27)
   rw [if_pos rfl]
   refine bad _ ?_
   by_cases q : cc' % 5 < 4
   ·rw [if_pos q, if_neg (fun w => v ⟨⟨qa, qb⟩, q, w⟩)]
   ·rw [if_neg q]
 ·obtain ⟨m, hM⟩ : ∃ m, m = b + (d &&& 1) := ⟨_, rfl⟩
  have md := and_rng (x := d) (m := 1) (by decide)
  rw [z1] at md
  have m5 : m.toInt = b.toInt + (d &&& 1).toInt := by rw [hM, i_add (by omega) (by omega)]
  rw [← hM]
  clear hM
  apply okP.bind
  refine okP.mono (setFor_ok wf hS a m cc' d) ?_
  rintro ⟨r, p⟩ hp
  have l5 : m < 5 ↔ m.toInt < 5 := by rw [i_lt]; exact Iff.rfl
  by_cases v : a < 4 ∧ m < 5
  ·have va := lt4.1 v.1
   have vm := l5.1 v.2
   rw [if_pos ⟨by omega, by omega⟩] at hp
   obtain ⟨r1, h1⟩ := hp
   simp only at r1 h1 ⊢
   subst r1
   simp only [if_pos v.1, if_pos v.2, if_neg (show ¬ (1 : Int32) = 0 by decide)]
   have st2 := St_for st (a := a) (m := m) (p := cc') (q := d) ⟨ra.1, va⟩ ⟨by omega, by omega⟩
   exact e435 h1 st2 ag4 rfl (Or.inr (Or.inl ⟨rfl, opn d0 d1 d2, rfl⟩)) (fun q hq => next q hq st2 ag4)
  ·have ve : (if a < 4 then (if m < 5 then (1 : Int32) else 0) else 0) = 0 := by
    by_cases q : a < 4
    ·rw [if_pos q, if_neg (fun w => v ⟨q, w⟩)]
    ·rw [if_neg q]
   rw [lt4, l5] at v
   rw [if_neg (fun q => v ⟨by omega, by omega⟩)] at hp
   obtain ⟨r1, h1⟩ := hp
   simp only at r1 h1 ⊢
   subst r1
   simp only [ve, if_true]
   exact e435 h1 st ag4 rfl (Or.inl ⟨rfl, rfl⟩) (fun q hq => next q hq st ag4)
theorem law_ok (s : List Int32) (hs : s.length ≤ 260) : ∃ τ, F0 s = some (1, τ) ∧ τ.length - List.length ([Sum.inr (Sum.inl (FieldType.int, s))] : QHeap) ≤ room_1.cells ∧ qhs τ - qhs [Sum.inr (Sum.inl (FieldType.int, s))] ≤ room_1.slots := by
 have : okP (F0 s) (fun e => e.1 = 1 ∧ sFit s e.2) := by
  unfold F0
  apply okP.bind
  refine okP.mono (init_ok (r := 4) (n := 4) (by decide) (by decide)) (fun o ho => ?_)
  have w0 := WF0 (r := 4) (n := 4) (by decide) (by decide)
  have z : ∀ n m : Nat, ((List.replicate n (0 : Int32))[m]?).getD 0 = 0 := by
   intro n m
   rw [List.getElem?_replicate]
   split <;> rfl
  have fl0 : ∀ r f, fld (K0 4 4) r f = 0 := fun r f => z 128 _
  have fi0 : ∀ r, fil (K0 4 4) r = false := by
   intro r
   unfold fil
   show (((List.replicate 32 (0 : Int32))[r]?).getD 0 != 0) = false
   rw [z]; rfl
  have g0 : grp (K0 4 4) 0 0 0 0 = (0, 0) := by
   rw [grp_c]
   have e : vC (gV (K0 4 4)) (cnd (K0 4 4) 0 0 0 0) (nR (K0 4 4)) = [] := by
    have : (List.range (nR (K0 4 4))).filter (cnd (K0 4 4) 0 0 0 0) = [] := by
     rw [List.filter_eq_nil_iff]
     intro r _
     unfold cnd
     rw [fi0]; simp
    unfold vC
    rw [this]; rfl
   obtain ⟨h1, h2⟩ := cC_nil _ e
   rw [h1, h2]
  have c0 : ∀ n : Nat, n < 4 → ∀ m : Nat, m < 4 → cel 0 (Int32.ofInt n) (Int32.ofInt m) = 0 := by decide
  have d0 : ∀ n : Nat, n < 4 → md3 0 (Int32.ofInt n) = 0 := by decide
  have st0 : St (K0 4 4) 0 0 0 1 2 0 0 := by
   refine ⟨w0, rfl, rfl, ?_, ?_, rfl, rfl, rfl, rfl, ?_⟩
   ·intro r f hr hf
    rw [fl0]
    refine ⟨?_, by decide, by decide⟩
    have := c0 r.toInt.toNat (by omega) f.toInt.toNat (by omega)
    rw [← ofI (x := r) (by omega), ← ofI (x := f) (by omega)] at this
    exact this
   ·intro r _
    rw [bt_0, fi0]
   ·intro q hq
    have := d0 q.toInt.toNat (by omega)
    rw [← ofI (x := q) (by omega)] at this
    rw [this]
    exact (z 16 _).symm
  apply okP.bind
  refine okP.mono (P := fun e => e.1 = 1 ∧ sFit s e.2) ?_ (fun e he => okP.some he)
  refine okP.loop (fun w : QI => 0 ≤ w.2.2.2.2.2.2.2.2.2.2.1.toInt ∧ w.2.2.2.2.2.2.2.2.2.2.1.toInt ≤ 264 ∧ Inv w) (fun w => (300 - w.2.2.2.2.2.2.2.2.2.2.1.toInt).toNat) ⟨by show (0 : Int) ≤ 0; decide, by show (0 : Int) ≤ 264; decide, _, ho, st0, by rw [g0], by show (0 : Int32) = gF (K0 4 4); unfold gF; rw [g0]; rfl, Or.inl rfl⟩ (by show (300 - (0 : Int)).toNat < 4000; decide) ?_
  rintro ⟨x2, x4, x5, x6, x7, x8, x9, x10, x11, x12, t, o⟩ ⟨h1, h2, h3⟩
  exact turn hs h3 h1 h2
 obtain ⟨⟨r, τ⟩, q1, q2, q3⟩ := this
 simp only at q2
 subst q2
 exact ⟨τ, q1, q3⟩
set_option maxRecDepth 65536 in
theorem comes_1 {Post : Tables → Env → Array Value → State → Outcome → State → Prop} (hpost : ∀ tb e args s v u, (limb_1_1.after args s (.returned v) u = true ∧ limb_1_2.after args s (.returned v) u = true ∧ True) → FrameEnd s (.returned v) u (Jvm.fieldLocs frame_1_writes args s ++ Jvm.arrayLocs frame_1_arrays args s ++ Jvm.staticLocs frame_1_statics s) 32 768 → Post tb e args s (.returned v) u) :
    ArmFor flags0 classFile x code maxLocals ret World_1 tables_1 room_1 Calls_1 rest_1 Pre_1 Post := by
  intro l hfl _ _ p e ha hc hk s m args below hf hA hF happ hP
  obtain ⟨hcalls, hrest, hpre⟩ := hP
  obtain ⟨-, -, -, hnamed, -, -, -, hat⟩ := (Spec.applies_iff hf).mp happ
  obtain ⟨hg, hn⟩ := and_e (Cond.before_iff.mp (show (Jvm.Cond.and given_1 narrow_1).before args s = true from hpre))
  obtain ⟨g0, g1⟩ := and_e hg
  obtain ⟨w0, rfl⟩ : ∃ w0 : Value, args = #[w0] := by
    have hs : args.size = 1 := by simpa [Cond.value, given_1] using g0
    obtain ⟨L⟩ := args
    match L, hs with
    | [w0], _ => exact ⟨w0, rfl⟩
  have hw := fun d (hd : d ∈ tables_1) => atoms_spec (ws := Jvm.Cond.code x code maxLocals ret :: tables_1) hat d (List.mem_cons_of_mem _ hd)
  have hfit : Fit s := fun {y c} hc i hi => by
    obtain ⟨ha, rfl⟩ := Array.getElem?_eq_some_iff.mp hc
    have q := List.all_eq_true.mp ((Array.all_eq_true_iff_forall_mem.mp hF) _ (Array.getElem_mem ha)) i (List.mem_range.mpr hi)
    simpa [Array.getElem?_eq_getElem hi] using q
  obtain ⟨n1, n2⟩ := and_e hn
  obtain ⟨a, cl, xs, rfl, hA1, hA2, hlen⟩ := script_ok hfit n1 n2
  obtain ⟨τ, hF0, hc1, hs1⟩ := law_ok xs hlen
  have hlt := hA1.lt
  have Ad : QAd s.heap.size (fun k => match k with | 0 => a | k + 1 => s.heap.size + k) := ⟨fun k hk => by cases k with | zero => exact absurd hk (by decide) | succ k => rfl, fun i j h => by
    cases i with
    | zero => cases j with
      | zero => rfl
      | succ j => have h' : a = s.heap.size + j := h; exact absurd hA1.lt (by rw [h']; exact Nat.not_lt.mpr (Nat.le_add_right _ _))
    | succ i => cases j with
      | zero => have h' : s.heap.size + i = a := h; exact absurd hA1.lt (by rw [← h']; exact Nat.not_lt.mpr (Nat.le_add_right _ _))
      | succ j => have h' : s.heap.size + i = s.heap.size + j := h; omega⟩
  have hR : QRep s s.heap.size (fun k => match k with | 0 => a | k + 1 => s.heap.size + k) s.heap [.inr (.inl (.int, xs))] := ⟨Nat.le_refl _, rfl, fun k c h => by
    cases k with
    | zero => cases h; exact ⟨cl, hA1, hA2⟩
    | succ k => cases h⟩
  have T := tF0 (l := l) (Z := s) Ad (QW_ok hw) xs hF0
  have M := QTri.met (k := 0) (as := [.ref 0]) (by decide) T hR (Nat.le_of_ble_eq_true rfl) (fun q => by cases q) tables_1 (rm := room_1) (by decide) (by decide) hc1 hs1
  obtain ⟨n, o, h1, h2, h3, _, L, rfl, ⟨rfl, R', N⟩, hq⟩ := M p e ha hc hk s m _ below hf ((Spec.applies_iff_loose hf).mp happ).1 ⟨rfl, State.Warmed39.refl s, rfl⟩ trivial
  refine ⟨n, _, h1, h2, h3, hpost _ _ _ _ _ _ ⟨Cond.after_iff.mpr rfl, Cond.after_iff.mpr (eq_i res_at (Term.int_eval (1)) rfl), trivial⟩ ⟨hq.1, hq.2.1, (hq.2.2.sift fun y hy => Or.inr (N y hy)).mono hc1 hs1⟩⟩
theorem main_1_1 : Claimed_1_1 := comes_1 fun _ _ _ _ _ _ h hF => ⟨h.1, hF⟩
theorem main_1_2 : Claimed_1_2 := comes_1 fun _ _ _ _ _ _ h hF => ⟨h.2.1, hF⟩
end Jvm.Pilot.@@N@@
namespace Jvm.Pilot.@@N@@
open Jvm Jvm.ClassFile Sem Op Lib Jvm.Free Jvm.Stand Jvm.Pilot.@@N@@.Jvm.D
/-! MADE BY PROGRAM (witnessworld.py) out of the Statement's table words and the real class files: 11 classes; the members and pool entries that the words name. The judged class is class 1, her method 2. -/
namespace start1
open Jvm.ClassFile
def u (s : String) : CpInfo := .utf8 (stringToUtf16 s)
/-- a pool by its gaps: so many unusable entries, then the entry; so many at the end -/
def gap : Nat → List CpInfo → List CpInfo
  | 0, r => r
  | n + 1, r => .unusable :: gap n r
def poolList (es : List (Nat × CpInfo)) (last : Nat) : List CpInfo := es.foldr (fun e r => gap e.1 (e.2 :: r)) (gap last [])
def pool (es : List (Nat × CpInfo)) (last : Nat) : Array CpInfo := ⟨poolList es last⟩
def fileOf (pool : Array CpInfo) (this : Nat) (attrs : Array Attribute := #[]) (ms : Array MethodInfo := #[]) (fl : Nat := 33) (sup : Nat := 0) (ifs : Array Nat := #[]) (fds : Array FieldInfo := #[]) : ClassFile where
  minorVersion := 0
  majorVersion := 65
  constantPool := pool
  accessFlags := fl
  thisClass := this
  superClass := sup
  interfaces := ifs
  fields := fds
  methods := ms
  attributes := attrs
def plain (name : String) (sup : Option ClassId) : Class where
  name := name
  kind := .ordinary
  loader := none
  accessFlags := 33
  super := sup
  interfaces := #[]
  cf := none
  fields := #[]
  methods := #[]
  instanceTypes := #[]
  staticTypes := #[]
  resolved := #[]
  callSites := []
  init := .initialized
  statics := none
  mirror := none

def pool0 : Array CpInfo := pool [(5, u "<init>"), (0, u "()V"), (1, .class_ 10), (1, u "java/lang/Object")] 113

def k0c0 : Code := { maxStack := 0, maxLocals := 1, code := object_method_1_code, exceptionTable := #[], attributes := #[] }
def k0m0 : Method := { name := "<init>", desc := "()V", sig := { parameters := [], returnType := none }, accessFlags := 1, code := some k0c0 }
/-- java/lang/Object -/
def k0 : Class := { plain "java/lang/Object" none with
  accessFlags := 33
  interfaces := #[]
  cf := some (fileOf pool0 8 #[] #[{ accessFlags := 1, nameIndex := 5, descriptorIndex := 6, attributes := #[] }] 33 0 #[] #[])
  fields := #[]
  methods := #[k0m0]
  instanceTypes := #[]
  staticTypes := #[]
  resolved := Array.replicate 124 none
  statics := none }

def pool1 : Array CpInfo := pool [(2, .class_ 4), (1, u "java/lang/Object"), (0, u "<init>"), (0, u "()V"), (0, .long 15), (1, .class_ 10), (0, u "PivotSheet"), (0, .methodref 9 12), (0, .nameAndType 5 13), (0, u "(II)V"), (0, .integer 2147483647), (0, .methodref 9 16), (0, .nameAndType 17 18), (0, u "setCell"), (0, u "(III)Z"), (0, .long 18446744073709551615), (1, .methodref 9 22), (0, .nameAndType 23 24), (0, u "clearRow"), (0, u "(I)Z"), (0, .long 65535), (1, .methodref 9 28), (0, .nameAndType 29 30), (0, u "setPivot"), (0, u "(IIII)Z"), (0, .methodref 9 32), (0, .nameAndType 33 30), (0, u "setFormula"), (0, .methodref 9 35), (0, .nameAndType 36 37), (0, u "getCell"), (0, u "(II)I"), (0, .methodref 39 40), (0, .class_ 41), (0, .nameAndType 42 43), (0, u "PivotSheetL6"), (0, u "cell"), (0, u "(JII)I"), (0, .methodref 9 45), (0, .nameAndType 46 24), (0, u "isFilled"), (0, .methodref 9 48), (0, .nameAndType 49 37), (0, u "value"), (0, .methodref 9 51), (0, .nameAndType 52 37), (0, u "groupCount"), (0, .methodref 9 54), (0, .nameAndType 55 56), (0, u "rowKeyCount"), (0, u "()I"), (0, .methodref 9 58), (0, .nameAndType 59 56), (0, u "colKeyCount"), (0, .methodref 9 61), (0, .nameAndType 62 63), (0, u "rowKey"), (0, u "(I)I"), (0, .methodref 9 65), (0, .nameAndType 66 63), (0, u "formulaValue"), (0, .methodref 9 68), (0, .nameAndType 69 24), (0, u "formulaFound"), (0, .methodref 9 71), (0, .nameAndType 72 56), (0, u "lastChanged"), (2, u "law"), (0, u "([I)Z")] 5

def k1m0 : Method := { name := "<init>", desc := "()V", sig := { parameters := [], returnType := none }, accessFlags := 1, code := none }
def k1c1 : Code := { maxStack := 4, maxLocals := 4, code := method_2_code, exceptionTable := #[], attributes := #[] }
def k1m1 : Method := { name := "cell", desc := "(JII)I", sig := { parameters := [.long, .int, .int], returnType := some .int }, accessFlags := 10, code := some k1c1 }
def k1c2 : Code := { maxStack := 6, maxLocals := 35, code := code, exceptionTable := #[], attributes := #[] }
def k1m2 : Method := { name := "law", desc := "([I)Z", sig := { parameters := [(.array .int)], returnType := some .boolean }, accessFlags := 9, code := some k1c2 }
/-- PivotSheetL6 -/
def k1 : Class := { plain "PivotSheetL6" (some 0) with
  accessFlags := 33
  interfaces := #[]
  cf := some (fileOf pool1 39 #[] #[{ accessFlags := 1, nameIndex := 5, descriptorIndex := 6, attributes := #[] }, { accessFlags := 10, nameIndex := 42, descriptorIndex := 43, attributes := #[] }, { accessFlags := 9, nameIndex := 75, descriptorIndex := 76, attributes := #[] }] 33 2 #[] #[])
  fields := #[]
  methods := #[k1m0, k1m1, k1m2]
  instanceTypes := #[]
  staticTypes := #[]
  resolved := Array.replicate 82 none
  statics := none }

def pool2 : Array CpInfo := pool [(1, .methodref 2 3), (0, .class_ 4), (0, .nameAndType 5 6), (0, u "java/lang/Object"), (0, u "<init>"), (0, u "()V"), (0, .fieldref 8 9), (0, .class_ 10), (0, .nameAndType 11 12), (0, u "PivotSheet"), (0, u "data"), (0, u "[I"), (0, .fieldref 8 14), (0, .nameAndType 15 16), (0, u "filled"), (0, u "[Z"), (0, .fieldref 8 18), (0, .nameAndType 19 20), (0, u "rf"), (0, u "I"), (0, .fieldref 8 22), (0, .nameAndType 23 20), (0, u "cf"), (0, .fieldref 8 25), (0, .nameAndType 26 20), (0, u "vf"), (0, .fieldref 8 28), (0, .nameAndType 29 20), (0, u "ag"), (0, .fieldref 8 31), (0, .nameAndType 32 12), (0, u "fMode"), (0, .fieldref 8 34), (0, .nameAndType 35 12), (0, u "fRk"), (0, .fieldref 8 37), (0, .nameAndType 38 12), (0, u "fCk"), (0, .fieldref 8 40), (0, .nameAndType 41 12), (0, u "prevVal"), (0, .fieldref 8 43), (0, .nameAndType 44 16), (0, u "prevFound"), (0, .fieldref 8 46), (0, .nameAndType 47 12), (0, u "keys"), (0, .fieldref 8 49), (0, .nameAndType 50 20), (0, u "nRows"), (0, .fieldref 8 52), (0, .nameAndType 53 20), (0, u "nForms"), (0, .fieldref 8 55), (0, .nameAndType 56 20), (0, u "last"), (0, .methodref 8 58), (0, .nameAndType 59 60), (0, u "validRow"), (0, u "(I)Z"), (0, .methodref 8 62), (0, .nameAndType 63 6), (0, u "snapshot"), (0, .methodref 8 65), (0, .nameAndType 66 67), (0, u "countChanged"), (0, u "()I"), (0, .methodref 8 69), (0, .nameAndType 70 60), (0, u "validField"), (0, .methodref 8 72), (0, .nameAndType 73 74), (0, u "buildKeys"), (0, u "(II)I"), (0, .methodref 8 76), (0, .nameAndType 77 78), (0, u "resolve"), (0, u "(II)Z"), (0, .fieldref 8 80), (0, .nameAndType 81 82), (0, u "selUseR"), (0, u "Z"), (0, .fieldref 8 84), (0, .nameAndType 85 20), (0, u "selRk"), (0, .fieldref 8 87), (0, .nameAndType 88 82), (0, u "selUseC"), (0, .fieldref 8 90), (0, .nameAndType 91 20), (0, u "selCk"), (0, .methodref 8 93), (0, .nameAndType 94 95), (0, u "evalGroup"), (0, u "(ZIZI)V"), (0, .fieldref 8 97), (0, .nameAndType 98 20), (0, u "gVal"), (0, .fieldref 8 100), (0, .nameAndType 101 20), (0, u "gCount"), (0, .methodref 8 103), (0, .nameAndType 104 60), (0, u "validSlot"), (0, .methodref 8 106), (0, .nameAndType 107 108), (0, u "evalFormula"), (0, u "(I)V"), (0, .methodref 8 110), (0, .nameAndType 111 112), (0, u "insertKey"), (0, u "(III)I"), (0, .methodref 8 114), (0, .nameAndType 115 116), (0, u "pickAgg"), (0, u "(IIII)I"), (0, u "SUM"), (2, u "COUNT"), (1, u "MIN"), (1, u "MAX"), (1, u "FIELDS"), (1, u "ALL"), (1, u "F_NONE"), (0, u "F_CELL"), (0, u "F_ROW"), (0, u "F_COL"), (0, u "F_GRAND"), (0, u "MAX_ROWS"), (1, u "MAX_FORMS"), (1, u "COL_BASE"), (0, u "(II)V"), (3, u "setCell"), (0, u "(III)Z"), (0, u "clearRow"), (0, u "getCell"), (0, u "isFilled"), (0, u "setPivot"), (0, u "(IIII)Z"), (0, u "rowKeyCount"), (0, u "colKeyCount"), (0, u "rowKey"), (0, u "(I)I"), (1, u "value"), (0, u "groupCount"), (0, u "setFormula"), (0, u "formulaValue"), (0, u "formulaFound"), (0, u "lastChanged")] 3

def k2c0 : Code := { maxStack := 2, maxLocals := 5, code := prog_1_method_1_code, exceptionTable := #[], attributes := #[] }
def k2m0 : Method := { name := "<init>", desc := "(II)V", sig := { parameters := [.int, .int], returnType := none }, accessFlags := 1, code := some k2c0 }
def k2c1 : Code := { maxStack := 3, maxLocals := 4, code := prog_1_method_2_code, exceptionTable := #[], attributes := #[] }
def k2m1 : Method := { name := "setCell", desc := "(III)Z", sig := { parameters := [.int, .int, .int], returnType := some .boolean }, accessFlags := 1, code := some k2c1 }
def k2c2 : Code := { maxStack := 3, maxLocals := 3, code := prog_1_method_3_code, exceptionTable := #[], attributes := #[] }
def k2m2 : Method := { name := "clearRow", desc := "(I)Z", sig := { parameters := [.int], returnType := some .boolean }, accessFlags := 1, code := some k2c2 }
def k2c3 : Code := { maxStack := 3, maxLocals := 3, code := prog_1_method_4_code, exceptionTable := #[], attributes := #[] }
def k2m3 : Method := { name := "getCell", desc := "(II)I", sig := { parameters := [.int, .int], returnType := some .int }, accessFlags := 1, code := some k2c3 }
def k2c4 : Code := { maxStack := 2, maxLocals := 2, code := prog_1_method_5_code, exceptionTable := #[], attributes := #[] }
def k2m4 : Method := { name := "isFilled", desc := "(I)Z", sig := { parameters := [.int], returnType := some .boolean }, accessFlags := 1, code := some k2c4 }
def k2c5 : Code := { maxStack := 2, maxLocals := 5, code := prog_1_method_6_code, exceptionTable := #[], attributes := #[] }
def k2m5 : Method := { name := "setPivot", desc := "(IIII)Z", sig := { parameters := [.int, .int, .int, .int], returnType := some .boolean }, accessFlags := 1, code := some k2c5 }
def k2c6 : Code := { maxStack := 3, maxLocals := 1, code := prog_1_method_7_code, exceptionTable := #[], attributes := #[] }
def k2m6 : Method := { name := "rowKeyCount", desc := "()I", sig := { parameters := [], returnType := some .int }, accessFlags := 1, code := some k2c6 }
def k2c7 : Code := { maxStack := 3, maxLocals := 1, code := prog_1_method_8_code, exceptionTable := #[], attributes := #[] }
def k2m7 : Method := { name := "colKeyCount", desc := "()I", sig := { parameters := [], returnType := some .int }, accessFlags := 1, code := some k2c7 }
def k2c8 : Code := { maxStack := 3, maxLocals := 3, code := prog_1_method_9_code, exceptionTable := #[], attributes := #[] }
def k2m8 : Method := { name := "rowKey", desc := "(I)I", sig := { parameters := [.int], returnType := some .int }, accessFlags := 1, code := some k2c8 }
def k2c9 : Code := { maxStack := 5, maxLocals := 3, code := prog_1_method_11_code, exceptionTable := #[], attributes := #[] }
def k2m9 : Method := { name := "value", desc := "(II)I", sig := { parameters := [.int, .int], returnType := some .int }, accessFlags := 1, code := some k2c9 }
def k2c10 : Code := { maxStack := 5, maxLocals := 3, code := prog_1_method_12_code, exceptionTable := #[], attributes := #[] }
def k2m10 : Method := { name := "groupCount", desc := "(II)I", sig := { parameters := [.int, .int], returnType := some .int }, accessFlags := 1, code := some k2c10 }
def k2c11 : Code := { maxStack := 3, maxLocals := 5, code := prog_1_method_13_code, exceptionTable := #[], attributes := #[] }
def k2m11 : Method := { name := "setFormula", desc := "(IIII)Z", sig := { parameters := [.int, .int, .int, .int], returnType := some .boolean }, accessFlags := 1, code := some k2c11 }
def k2c12 : Code := { maxStack := 2, maxLocals := 2, code := prog_1_method_14_code, exceptionTable := #[], attributes := #[] }
def k2m12 : Method := { name := "formulaValue", desc := "(I)I", sig := { parameters := [.int], returnType := some .int }, accessFlags := 1, code := some k2c12 }
def k2c13 : Code := { maxStack := 2, maxLocals := 2, code := prog_1_method_15_code, exceptionTable := #[], attributes := #[] }
def k2m13 : Method := { name := "formulaFound", desc := "(I)Z", sig := { parameters := [.int], returnType := some .boolean }, accessFlags := 1, code := some k2c13 }
def k2c14 : Code := { maxStack := 1, maxLocals := 1, code := prog_1_method_16_code, exceptionTable := #[], attributes := #[] }
def k2m14 : Method := { name := "lastChanged", desc := "()I", sig := { parameters := [], returnType := some .int }, accessFlags := 1, code := some k2c14 }
def k2c15 : Code := { maxStack := 2, maxLocals := 2, code := prog_1_method_17_code, exceptionTable := #[], attributes := #[] }
def k2m15 : Method := { name := "validRow", desc := "(I)Z", sig := { parameters := [.int], returnType := some .boolean }, accessFlags := 2, code := some k2c15 }
def k2c16 : Code := { maxStack := 2, maxLocals := 2, code := prog_1_method_18_code, exceptionTable := #[], attributes := #[] }
def k2m16 : Method := { name := "validField", desc := "(I)Z", sig := { parameters := [.int], returnType := some .boolean }, accessFlags := 2, code := some k2c16 }
def k2c17 : Code := { maxStack := 2, maxLocals := 2, code := prog_1_method_19_code, exceptionTable := #[], attributes := #[] }
def k2m17 : Method := { name := "validSlot", desc := "(I)Z", sig := { parameters := [.int], returnType := some .boolean }, accessFlags := 2, code := some k2c17 }
def k2c18 : Code := { maxStack := 6, maxLocals := 5, code := prog_1_method_20_code, exceptionTable := #[], attributes := #[] }
def k2m18 : Method := { name := "buildKeys", desc := "(II)I", sig := { parameters := [.int, .int], returnType := some .int }, accessFlags := 2, code := some k2c18 }
def k2c19 : Code := { maxStack := 5, maxLocals := 6, code := prog_1_method_21_code, exceptionTable := #[], attributes := #[] }
def k2m19 : Method := { name := "insertKey", desc := "(III)I", sig := { parameters := [.int, .int, .int], returnType := some .int }, accessFlags := 2, code := some k2c19 }
def k2c20 : Code := { maxStack := 4, maxLocals := 5, code := prog_1_method_22_code, exceptionTable := #[], attributes := #[] }
def k2m20 : Method := { name := "resolve", desc := "(II)Z", sig := { parameters := [.int, .int], returnType := some .boolean }, accessFlags := 2, code := some k2c20 }
def k2c21 : Code := { maxStack := 6, maxLocals := 12, code := prog_1_method_23_code, exceptionTable := #[], attributes := #[] }
def k2m21 : Method := { name := "evalGroup", desc := "(ZIZI)V", sig := { parameters := [.boolean, .int, .boolean, .int], returnType := none }, accessFlags := 2, code := some k2c21 }
def k2c22 : Code := { maxStack := 2, maxLocals := 5, code := prog_1_method_24_code, exceptionTable := #[], attributes := #[] }
def k2m22 : Method := { name := "pickAgg", desc := "(IIII)I", sig := { parameters := [.int, .int, .int, .int], returnType := some .int }, accessFlags := 2, code := some k2c22 }
def k2c23 : Code := { maxStack := 6, maxLocals := 5, code := prog_1_method_25_code, exceptionTable := #[], attributes := #[] }
def k2m23 : Method := { name := "evalFormula", desc := "(I)V", sig := { parameters := [.int], returnType := none }, accessFlags := 2, code := some k2c23 }
def k2c24 : Code := { maxStack := 3, maxLocals := 2, code := prog_1_method_26_code, exceptionTable := #[], attributes := #[] }
def k2m24 : Method := { name := "snapshot", desc := "()V", sig := { parameters := [], returnType := none }, accessFlags := 2, code := some k2c24 }
def k2c25 : Code := { maxStack := 3, maxLocals := 4, code := prog_1_method_27_code, exceptionTable := #[], attributes := #[] }
def k2m25 : Method := { name := "countChanged", desc := "()I", sig := { parameters := [], returnType := some .int }, accessFlags := 2, code := some k2c25 }
/-- PivotSheet -/
def k2 : Class := { plain "PivotSheet" (some 0) with
  accessFlags := 49
  interfaces := #[]
  cf := some (fileOf pool2 8 #[] #[{ accessFlags := 1, nameIndex := 5, descriptorIndex := 140, attributes := #[] }, { accessFlags := 1, nameIndex := 144, descriptorIndex := 145, attributes := #[] }, { accessFlags := 1, nameIndex := 146, descriptorIndex := 60, attributes := #[] }, { accessFlags := 1, nameIndex := 147, descriptorIndex := 74, attributes := #[] }, { accessFlags := 1, nameIndex := 148, descriptorIndex := 60, attributes := #[] }, { accessFlags := 1, nameIndex := 149, descriptorIndex := 150, attributes := #[] }, { accessFlags := 1, nameIndex := 151, descriptorIndex := 67, attributes := #[] }, { accessFlags := 1, nameIndex := 152, descriptorIndex := 67, attributes := #[] }, { accessFlags := 1, nameIndex := 153, descriptorIndex := 154, attributes := #[] }, { accessFlags := 1, nameIndex := 156, descriptorIndex := 74, attributes := #[] }, { accessFlags := 1, nameIndex := 157, descriptorIndex := 74, attributes := #[] }, { accessFlags := 1, nameIndex := 158, descriptorIndex := 150, attributes := #[] }, { accessFlags := 1, nameIndex := 159, descriptorIndex := 154, attributes := #[] }, { accessFlags := 1, nameIndex := 160, descriptorIndex := 60, attributes := #[] }, { accessFlags := 1, nameIndex := 161, descriptorIndex := 67, attributes := #[] }, { accessFlags := 2, nameIndex := 59, descriptorIndex := 60, attributes := #[] }, { accessFlags := 2, nameIndex := 70, descriptorIndex := 60, attributes := #[] }, { accessFlags := 2, nameIndex := 104, descriptorIndex := 60, attributes := #[] }, { accessFlags := 2, nameIndex := 73, descriptorIndex := 74, attributes := #[] }, { accessFlags := 2, nameIndex := 111, descriptorIndex := 112, attributes := #[] }, { accessFlags := 2, nameIndex := 77, descriptorIndex := 78, attributes := #[] }, { accessFlags := 2, nameIndex := 94, descriptorIndex := 95, attributes := #[] }, { accessFlags := 2, nameIndex := 115, descriptorIndex := 116, attributes := #[] }, { accessFlags := 2, nameIndex := 107, descriptorIndex := 108, attributes := #[] }, { accessFlags := 2, nameIndex := 63, descriptorIndex := 6, attributes := #[] }, { accessFlags := 2, nameIndex := 66, descriptorIndex := 67, attributes := #[] }] 49 2 #[] #[{ accessFlags := 25, nameIndex := 117, descriptorIndex := 20, attributes := #[] }, { accessFlags := 25, nameIndex := 120, descriptorIndex := 20, attributes := #[] }, { accessFlags := 25, nameIndex := 122, descriptorIndex := 20, attributes := #[] }, { accessFlags := 25, nameIndex := 124, descriptorIndex := 20, attributes := #[] }, { accessFlags := 25, nameIndex := 126, descriptorIndex := 20, attributes := #[] }, { accessFlags := 25, nameIndex := 128, descriptorIndex := 20, attributes := #[] }, { accessFlags := 25, nameIndex := 130, descriptorIndex := 20, attributes := #[] }, { accessFlags := 25, nameIndex := 131, descriptorIndex := 20, attributes := #[] }, { accessFlags := 25, nameIndex := 132, descriptorIndex := 20, attributes := #[] }, { accessFlags := 25, nameIndex := 133, descriptorIndex := 20, attributes := #[] }, { accessFlags := 25, nameIndex := 134, descriptorIndex := 20, attributes := #[] }, { accessFlags := 26, nameIndex := 135, descriptorIndex := 20, attributes := #[] }, { accessFlags := 26, nameIndex := 137, descriptorIndex := 20, attributes := #[] }, { accessFlags := 26, nameIndex := 139, descriptorIndex := 20, attributes := #[] }, { accessFlags := 2, nameIndex := 50, descriptorIndex := 20, attributes := #[] }, { accessFlags := 2, nameIndex := 53, descriptorIndex := 20, attributes := #[] }, { accessFlags := 2, nameIndex := 11, descriptorIndex := 12, attributes := #[] }, { accessFlags := 2, nameIndex := 15, descriptorIndex := 16, attributes := #[] }, { accessFlags := 2, nameIndex := 19, descriptorIndex := 20, attributes := #[] }, { accessFlags := 2, nameIndex := 23, descriptorIndex := 20, attributes := #[] }, { accessFlags := 2, nameIndex := 26, descriptorIndex := 20, attributes := #[] }, { accessFlags := 2, nameIndex := 29, descriptorIndex := 20, attributes := #[] }, { accessFlags := 2, nameIndex := 32, descriptorIndex := 12, attributes := #[] }, { accessFlags := 2, nameIndex := 35, descriptorIndex := 12, attributes := #[] }, { accessFlags := 2, nameIndex := 38, descriptorIndex := 12, attributes := #[] }, { accessFlags := 2, nameIndex := 41, descriptorIndex := 12, attributes := #[] }, { accessFlags := 2, nameIndex := 44, descriptorIndex := 16, attributes := #[] }, { accessFlags := 2, nameIndex := 47, descriptorIndex := 12, attributes := #[] }, { accessFlags := 2, nameIndex := 56, descriptorIndex := 20, attributes := #[] }, { accessFlags := 2, nameIndex := 98, descriptorIndex := 20, attributes := #[] }, { accessFlags := 2, nameIndex := 101, descriptorIndex := 20, attributes := #[] }, { accessFlags := 2, nameIndex := 81, descriptorIndex := 82, attributes := #[] }, { accessFlags := 2, nameIndex := 85, descriptorIndex := 20, attributes := #[] }, { accessFlags := 2, nameIndex := 88, descriptorIndex := 82, attributes := #[] }, { accessFlags := 2, nameIndex := 91, descriptorIndex := 20, attributes := #[] }])
  fields := #[{ name := "SUM", type := .int, accessFlags := 25, slot := 0, constantValue := 0 }, { name := "COUNT", type := .int, accessFlags := 25, slot := 1, constantValue := 0 }, { name := "MIN", type := .int, accessFlags := 25, slot := 2, constantValue := 0 }, { name := "MAX", type := .int, accessFlags := 25, slot := 3, constantValue := 0 }, { name := "FIELDS", type := .int, accessFlags := 25, slot := 4, constantValue := 0 }, { name := "ALL", type := .int, accessFlags := 25, slot := 5, constantValue := 0 }, { name := "F_NONE", type := .int, accessFlags := 25, slot := 6, constantValue := 0 }, { name := "F_CELL", type := .int, accessFlags := 25, slot := 7, constantValue := 0 }, { name := "F_ROW", type := .int, accessFlags := 25, slot := 8, constantValue := 0 }, { name := "F_COL", type := .int, accessFlags := 25, slot := 9, constantValue := 0 }, { name := "F_GRAND", type := .int, accessFlags := 25, slot := 10, constantValue := 0 }, { name := "MAX_ROWS", type := .int, accessFlags := 26, slot := 11, constantValue := 0 }, { name := "MAX_FORMS", type := .int, accessFlags := 26, slot := 12, constantValue := 0 }, { name := "COL_BASE", type := .int, accessFlags := 26, slot := 13, constantValue := 0 }, { name := "nRows", type := .int, accessFlags := 2, slot := 0, constantValue := 0 }, { name := "nForms", type := .int, accessFlags := 2, slot := 1, constantValue := 0 }, { name := "data", type := (.array .int), accessFlags := 2, slot := 2, constantValue := 0 }, { name := "filled", type := (.array .boolean), accessFlags := 2, slot := 3, constantValue := 0 }, { name := "rf", type := .int, accessFlags := 2, slot := 4, constantValue := 0 }, { name := "cf", type := .int, accessFlags := 2, slot := 5, constantValue := 0 }, { name := "vf", type := .int, accessFlags := 2, slot := 6, constantValue := 0 }, { name := "ag", type := .int, accessFlags := 2, slot := 7, constantValue := 0 }, { name := "fMode", type := (.array .int), accessFlags := 2, slot := 8, constantValue := 0 }, { name := "fRk", type := (.array .int), accessFlags := 2, slot := 9, constantValue := 0 }, { name := "fCk", type := (.array .int), accessFlags := 2, slot := 10, constantValue := 0 }, { name := "prevVal", type := (.array .int), accessFlags := 2, slot := 11, constantValue := 0 }, { name := "prevFound", type := (.array .boolean), accessFlags := 2, slot := 12, constantValue := 0 }, { name := "keys", type := (.array .int), accessFlags := 2, slot := 13, constantValue := 0 }, { name := "last", type := .int, accessFlags := 2, slot := 14, constantValue := 0 }, { name := "gVal", type := .int, accessFlags := 2, slot := 15, constantValue := 0 }, { name := "gCount", type := .int, accessFlags := 2, slot := 16, constantValue := 0 }, { name := "selUseR", type := .boolean, accessFlags := 2, slot := 17, constantValue := 0 }, { name := "selRk", type := .int, accessFlags := 2, slot := 18, constantValue := 0 }, { name := "selUseC", type := .boolean, accessFlags := 2, slot := 19, constantValue := 0 }, { name := "selCk", type := .int, accessFlags := 2, slot := 20, constantValue := 0 }]
  methods := #[k2m0, k2m1, k2m2, k2m3, k2m4, k2m5, k2m6, k2m7, k2m8, k2m9, k2m10, k2m11, k2m12, k2m13, k2m14, k2m15, k2m16, k2m17, k2m18, k2m19, k2m20, k2m21, k2m22, k2m23, k2m24, k2m25]
  instanceTypes := #[.int, .int, (.array .int), (.array .boolean), .int, .int, .int, .int, (.array .int), (.array .int), (.array .int), (.array .int), (.array .boolean), (.array .int), .int, .int, .int, .boolean, .int, .boolean, .int]
  staticTypes := #[.int, .int, .int, .int, .int, .int, .int, .int, .int, .int, .int, .int, .int, .int]
  resolved := Array.replicate 165 none
  statics := none }

def pool3 : Array CpInfo := pool [(1, u "java/lang/Cloneable"), (0, .class_ 1), (0, u "java/lang/Object"), (0, .class_ 3)] 3

/-- java/lang/Cloneable -/
def k3 : Class := { plain "java/lang/Cloneable" (some 0) with
  accessFlags := 1537
  interfaces := #[]
  cf := some (fileOf pool3 2 #[] #[] 1537 4 #[] #[])
  fields := #[]
  methods := #[]
  instanceTypes := #[]
  staticTypes := #[]
  resolved := Array.replicate 8 none
  statics := none }

def pool4 : Array CpInfo := pool [(1, u "java/io/Serializable"), (0, .class_ 1), (0, u "java/lang/Object"), (0, .class_ 3)] 3

/-- java/io/Serializable -/
def k4 : Class := { plain "java/io/Serializable" (some 0) with
  accessFlags := 1537
  interfaces := #[]
  cf := some (fileOf pool4 2 #[] #[] 1537 4 #[] #[])
  fields := #[]
  methods := #[]
  instanceTypes := #[]
  staticTypes := #[]
  resolved := Array.replicate 8 none
  statics := none }

/-- the primitive boolean -/
def k5 : Class := { plain "boolean" none with kind := .primitive 'Z', accessFlags := 0x411 }
/-- [Z -/
def k6 : Class := { plain "[Z" (some 0) with kind := .array 5 .boolean, interfaces := #[3, 4], accessFlags := 1041 }

/-- the primitive byte -/
def k7 : Class := { plain "byte" none with kind := .primitive 'B', accessFlags := 0x411 }
/-- [B -/
def k8 : Class := { plain "[B" (some 0) with kind := .array 7 .byte, interfaces := #[3, 4], accessFlags := 1041 }

/-- the primitive int -/
def k9 : Class := { plain "int" none with kind := .primitive 'I', accessFlags := 0x411 }
/-- [I -/
def k10 : Class := { plain "[I" (some 0) with kind := .array 9 .int, interfaces := #[3, 4], accessFlags := 1041 }

def heap : Heap := #[{ cls := 10, slots := #[.int 1, .int 2, .int 3], vm := .none }]
def classes : Array Class := #[k0, k1, k2, k3, k4, k5, k6, k7, k8, k9, k10]
def interned : List (Array UInt16 × Addr) := []
def slotsUsed : Nat := 3
def theMethod : MethodId := ⟨1, 2⟩
def args0 : Array Value := #[.ref 0]
def aboutOver (below : List Frame) : State where
  vm := { classes := classes, interned := interned.toArray }
  heap := heap
  slotsUsed := slotsUsed
  threads := #[{ frames := .invoking theMethod args0 :: below }]
def below0 : List Frame := [.native { method := ⟨0, 0⟩, args := #[] }]
def about1 : State := aboutOver below0
def p0 : Program := .bare "" "" ""
def e0 : Env := launch0.env 0 0 0
theorem w_frames : about1.frames = Frame.invoking theMethod args0 :: below0 := rfl
set_option maxRecDepth 65536 in
theorem w_args : argsFit about1.vm theMethod args0 = true := by decide +kernel
set_option maxRecDepth 65536 in
theorem w_heap : heapFits about1 = true := by decide +kernel
set_option maxRecDepth 65536 in
theorem w_runnable : about1.curStatus? = some .runnable := by decide +kernel
set_option maxRecDepth 65536 in
theorem w_alone : about1.alone = true := by decide +kernel
set_option maxRecDepth 65536 in
theorem w_named : about1.methodNamed? x = some theMethod := by decide +kernel
set_option maxRecDepth 65536 in
theorem w_hears : about1.hears theMethod below0 = true := by decide +kernel
set_option maxRecDepth 65536 in
theorem w_ripe : about1.ripe theMethod args0 below0 = true := by decide +kernel
theorem w_running : about1.status = .running := rfl
set_option maxRecDepth 65536 in
theorem w_room : about1.hasRoom e0.platform room_1 = true :=
  launch0.hasRoom_least _ room_1 (by decide +kernel) (by decide +kernel) (by decide +kernel) (by decide +kernel) (by decide +kernel) (by decide +kernel)
theorem allAtoms_all (ts : List Jvm.Cond) (a : Array Jvm.Value) (st : Jvm.State) : (allAtoms ts).before a st = ts.all (fun c => c.before a st) := by
  induction ts with
  | nil => rfl
  | cons c t ih =>
    show (Jvm.Cond.and c (allAtoms t)).before a st = _
    rw [Jvm.Cond.before_and, ih, List.all_cons]
def words1 : List Jvm.Cond := Jvm.Cond.code x code maxLocals ret :: tables_1
/-- a 'code' word, met by the world's own term for the bytes: nothing is compared byte by byte -/
theorem code_word {y : MethodName} {bytes : ByteArray} {mx : Nat} {rt : Option FieldType} {a : Array Value} {s : State} {m : MethodId} {meth : Method} {c : Code} (h1 : s.methodNamed? y = some m) (h2 : s.vm.method? m = some meth) (h3 : meth.code = some c) (h4 : c.code = bytes)
    (h5 : (c.maxLocals == mx && c.exceptionTable.isEmpty && decide (c.maxStack ≤ mostOperands) && decide (meth.sig.returnType = rt) && !meth.locks && decide (parseMethodDescriptor y.desc = some meth.sig)) = true) : (Jvm.Cond.code y bytes mx rt).before a s = true := by
  simp only [Bool.and_eq_true, beq_iff_eq, Bool.not_eq_true', decide_eq_true_eq] at h5
  obtain ⟨⟨⟨⟨⟨g1, g2⟩, g3⟩, g4⟩, g5⟩, g6⟩ := h5
  simp [Cond.before, Cond.holds, Cond.value, h1, h2, h3, h4, g1, g2, g3, g4, g5, g6]
def isCode : Jvm.Cond → Bool
  | .code _ _ _ _ => true
  | _ => false
theorem all_split {L : List Jvm.Cond} {P : Jvm.Cond → Bool} (h1 : L.all (fun c => isCode c || P c) = true) (h2 : ∀ c ∈ L.filter isCode, P c = true) : L.all P = true := by
  refine List.all_eq_true.mpr fun c hc => ?_
  have h := List.all_eq_true.mp h1 c hc
  rcases Bool.eq_false_or_eq_true (isCode c) with hi | hi
  · exact h2 c (List.mem_filter.mpr ⟨hc, hi⟩)
  · simpa [hi] using h
set_option maxRecDepth 65536 in
theorem w_c0 : (Jvm.Cond.code x code maxLocals ret).before args0 about1 = true := code_word (m := ⟨1, 2⟩) (meth := k1m2) (c := k1c2) (by decide +kernel) rfl rfl rfl (by decide +kernel)
set_option maxRecDepth 65536 in
theorem w_c1 : (Jvm.Cond.code ({ cls := "PivotSheet", name := "<init>", desc := "(II)V" } : Jvm.MethodName) prog_1_method_1_code (5 : Nat) (Option.none : Option Jvm.ClassFile.FieldType)).before args0 about1 = true := code_word (m := ⟨2, 0⟩) (meth := k2m0) (c := k2c0) (by decide +kernel) rfl rfl rfl (by decide +kernel)
set_option maxRecDepth 65536 in
theorem w_c2 : (Jvm.Cond.code ({ cls := "java/lang/Object", name := "<init>", desc := "()V" } : Jvm.MethodName) object_method_1_code (1 : Nat) (Option.none : Option Jvm.ClassFile.FieldType)).before args0 about1 = true := code_word (m := ⟨0, 0⟩) (meth := k0m0) (c := k0c0) (by decide +kernel) rfl rfl rfl (by decide +kernel)
set_option maxRecDepth 65536 in
theorem w_c3 : (Jvm.Cond.code ({ cls := "PivotSheet", name := "setFormula", desc := "(IIII)Z" } : Jvm.MethodName) prog_1_method_13_code (5 : Nat) (Option.some Jvm.ClassFile.FieldType.boolean)).before args0 about1 = true := code_word (m := ⟨2, 11⟩) (meth := k2m11) (c := k2c11) (by decide +kernel) rfl rfl rfl (by decide +kernel)
set_option maxRecDepth 65536 in
theorem w_c4 : (Jvm.Cond.code ({ cls := "PivotSheet", name := "validSlot", desc := "(I)Z" } : Jvm.MethodName) prog_1_method_19_code (2 : Nat) (Option.some Jvm.ClassFile.FieldType.boolean)).before args0 about1 = true := code_word (m := ⟨2, 17⟩) (meth := k2m17) (c := k2c17) (by decide +kernel) rfl rfl rfl (by decide +kernel)
set_option maxRecDepth 65536 in
theorem w_c5 : (Jvm.Cond.code ({ cls := "PivotSheet", name := "getCell", desc := "(II)I" } : Jvm.MethodName) prog_1_method_4_code (3 : Nat) (Option.some Jvm.ClassFile.FieldType.int)).before args0 about1 = true := code_word (m := ⟨2, 3⟩) (meth := k2m3) (c := k2c3) (by decide +kernel) rfl rfl rfl (by decide +kernel)
set_option maxRecDepth 65536 in
theorem w_c6 : (Jvm.Cond.code ({ cls := "PivotSheet", name := "validRow", desc := "(I)Z" } : Jvm.MethodName) prog_1_method_17_code (2 : Nat) (Option.some Jvm.ClassFile.FieldType.boolean)).before args0 about1 = true := code_word (m := ⟨2, 15⟩) (meth := k2m15) (c := k2c15) (by decide +kernel) rfl rfl rfl (by decide +kernel)
set_option maxRecDepth 65536 in
theorem w_c7 : (Jvm.Cond.code ({ cls := "PivotSheetL6", name := "cell", desc := "(JII)I" } : Jvm.MethodName) method_2_code (4 : Nat) (Option.some Jvm.ClassFile.FieldType.int)).before args0 about1 = true := code_word (m := ⟨1, 1⟩) (meth := k1m1) (c := k1c1) (by decide +kernel) rfl rfl rfl (by decide +kernel)
set_option maxRecDepth 65536 in
theorem w_c8 : (Jvm.Cond.code ({ cls := "PivotSheet", name := "isFilled", desc := "(I)Z" } : Jvm.MethodName) prog_1_method_5_code (2 : Nat) (Option.some Jvm.ClassFile.FieldType.boolean)).before args0 about1 = true := code_word (m := ⟨2, 4⟩) (meth := k2m4) (c := k2c4) (by decide +kernel) rfl rfl rfl (by decide +kernel)
set_option maxRecDepth 65536 in
theorem w_c9 : (Jvm.Cond.code ({ cls := "PivotSheet", name := "value", desc := "(II)I" } : Jvm.MethodName) prog_1_method_11_code (3 : Nat) (Option.some Jvm.ClassFile.FieldType.int)).before args0 about1 = true := code_word (m := ⟨2, 9⟩) (meth := k2m9) (c := k2c9) (by decide +kernel) rfl rfl rfl (by decide +kernel)
set_option maxRecDepth 65536 in
theorem w_c10 : (Jvm.Cond.code ({ cls := "PivotSheet", name := "resolve", desc := "(II)Z" } : Jvm.MethodName) prog_1_method_22_code (5 : Nat) (Option.some Jvm.ClassFile.FieldType.boolean)).before args0 about1 = true := code_word (m := ⟨2, 20⟩) (meth := k2m20) (c := k2c20) (by decide +kernel) rfl rfl rfl (by decide +kernel)
set_option maxRecDepth 65536 in
theorem w_c11 : (Jvm.Cond.code ({ cls := "PivotSheet", name := "buildKeys", desc := "(II)I" } : Jvm.MethodName) prog_1_method_20_code (5 : Nat) (Option.some Jvm.ClassFile.FieldType.int)).before args0 about1 = true := code_word (m := ⟨2, 18⟩) (meth := k2m18) (c := k2c18) (by decide +kernel) rfl rfl rfl (by decide +kernel)
set_option maxRecDepth 65536 in
theorem w_c12 : (Jvm.Cond.code ({ cls := "PivotSheet", name := "evalGroup", desc := "(ZIZI)V" } : Jvm.MethodName) prog_1_method_23_code (12 : Nat) (Option.none : Option Jvm.ClassFile.FieldType)).before args0 about1 = true := code_word (m := ⟨2, 21⟩) (meth := k2m21) (c := k2c21) (by decide +kernel) rfl rfl rfl (by decide +kernel)
set_option maxRecDepth 65536 in
theorem w_c13 : (Jvm.Cond.code ({ cls := "PivotSheet", name := "pickAgg", desc := "(IIII)I" } : Jvm.MethodName) prog_1_method_24_code (5 : Nat) (Option.some Jvm.ClassFile.FieldType.int)).before args0 about1 = true := code_word (m := ⟨2, 22⟩) (meth := k2m22) (c := k2c22) (by decide +kernel) rfl rfl rfl (by decide +kernel)
set_option maxRecDepth 65536 in
theorem w_c14 : (Jvm.Cond.code ({ cls := "PivotSheet", name := "groupCount", desc := "(II)I" } : Jvm.MethodName) prog_1_method_12_code (3 : Nat) (Option.some Jvm.ClassFile.FieldType.int)).before args0 about1 = true := code_word (m := ⟨2, 10⟩) (meth := k2m10) (c := k2c10) (by decide +kernel) rfl rfl rfl (by decide +kernel)
set_option maxRecDepth 65536 in
theorem w_c15 : (Jvm.Cond.code ({ cls := "PivotSheet", name := "rowKeyCount", desc := "()I" } : Jvm.MethodName) prog_1_method_7_code (1 : Nat) (Option.some Jvm.ClassFile.FieldType.int)).before args0 about1 = true := code_word (m := ⟨2, 6⟩) (meth := k2m6) (c := k2c6) (by decide +kernel) rfl rfl rfl (by decide +kernel)
set_option maxRecDepth 65536 in
theorem w_c16 : (Jvm.Cond.code ({ cls := "PivotSheet", name := "colKeyCount", desc := "()I" } : Jvm.MethodName) prog_1_method_8_code (1 : Nat) (Option.some Jvm.ClassFile.FieldType.int)).before args0 about1 = true := code_word (m := ⟨2, 7⟩) (meth := k2m7) (c := k2c7) (by decide +kernel) rfl rfl rfl (by decide +kernel)
set_option maxRecDepth 65536 in
theorem w_c17 : (Jvm.Cond.code ({ cls := "PivotSheet", name := "formulaValue", desc := "(I)I" } : Jvm.MethodName) prog_1_method_14_code (2 : Nat) (Option.some Jvm.ClassFile.FieldType.int)).before args0 about1 = true := code_word (m := ⟨2, 12⟩) (meth := k2m12) (c := k2c12) (by decide +kernel) rfl rfl rfl (by decide +kernel)
set_option maxRecDepth 65536 in
theorem w_c18 : (Jvm.Cond.code ({ cls := "PivotSheet", name := "evalFormula", desc := "(I)V" } : Jvm.MethodName) prog_1_method_25_code (5 : Nat) (Option.none : Option Jvm.ClassFile.FieldType)).before args0 about1 = true := code_word (m := ⟨2, 23⟩) (meth := k2m23) (c := k2c23) (by decide +kernel) rfl rfl rfl (by decide +kernel)
set_option maxRecDepth 65536 in
theorem w_c19 : (Jvm.Cond.code ({ cls := "PivotSheet", name := "formulaFound", desc := "(I)Z" } : Jvm.MethodName) prog_1_method_15_code (2 : Nat) (Option.some Jvm.ClassFile.FieldType.boolean)).before args0 about1 = true := code_word (m := ⟨2, 13⟩) (meth := k2m13) (c := k2c13) (by decide +kernel) rfl rfl rfl (by decide +kernel)
set_option maxRecDepth 65536 in
theorem w_c20 : (Jvm.Cond.code ({ cls := "PivotSheet", name := "lastChanged", desc := "()I" } : Jvm.MethodName) prog_1_method_16_code (1 : Nat) (Option.some Jvm.ClassFile.FieldType.int)).before args0 about1 = true := code_word (m := ⟨2, 14⟩) (meth := k2m14) (c := k2c14) (by decide +kernel) rfl rfl rfl (by decide +kernel)
set_option maxRecDepth 65536 in
theorem w_c21 : (Jvm.Cond.code ({ cls := "PivotSheet", name := "clearRow", desc := "(I)Z" } : Jvm.MethodName) prog_1_method_3_code (3 : Nat) (Option.some Jvm.ClassFile.FieldType.boolean)).before args0 about1 = true := code_word (m := ⟨2, 2⟩) (meth := k2m2) (c := k2c2) (by decide +kernel) rfl rfl rfl (by decide +kernel)
set_option maxRecDepth 65536 in
theorem w_c22 : (Jvm.Cond.code ({ cls := "PivotSheet", name := "setCell", desc := "(III)Z" } : Jvm.MethodName) prog_1_method_2_code (4 : Nat) (Option.some Jvm.ClassFile.FieldType.boolean)).before args0 about1 = true := code_word (m := ⟨2, 1⟩) (meth := k2m1) (c := k2c1) (by decide +kernel) rfl rfl rfl (by decide +kernel)
set_option maxRecDepth 65536 in
theorem w_c23 : (Jvm.Cond.code ({ cls := "PivotSheet", name := "snapshot", desc := "()V" } : Jvm.MethodName) prog_1_method_26_code (2 : Nat) (Option.none : Option Jvm.ClassFile.FieldType)).before args0 about1 = true := code_word (m := ⟨2, 24⟩) (meth := k2m24) (c := k2c24) (by decide +kernel) rfl rfl rfl (by decide +kernel)
set_option maxRecDepth 65536 in
theorem w_c24 : (Jvm.Cond.code ({ cls := "PivotSheet", name := "countChanged", desc := "()I" } : Jvm.MethodName) prog_1_method_27_code (4 : Nat) (Option.some Jvm.ClassFile.FieldType.int)).before args0 about1 = true := code_word (m := ⟨2, 25⟩) (meth := k2m25) (c := k2c25) (by decide +kernel) rfl rfl rfl (by decide +kernel)
set_option maxRecDepth 65536 in
theorem w_c25 : (Jvm.Cond.code ({ cls := "PivotSheet", name := "insertKey", desc := "(III)I" } : Jvm.MethodName) prog_1_method_21_code (6 : Nat) (Option.some Jvm.ClassFile.FieldType.int)).before args0 about1 = true := code_word (m := ⟨2, 19⟩) (meth := k2m19) (c := k2c19) (by decide +kernel) rfl rfl rfl (by decide +kernel)
set_option maxRecDepth 65536 in
theorem w_c26 : (Jvm.Cond.code ({ cls := "PivotSheet", name := "rowKey", desc := "(I)I" } : Jvm.MethodName) prog_1_method_9_code (3 : Nat) (Option.some Jvm.ClassFile.FieldType.int)).before args0 about1 = true := code_word (m := ⟨2, 8⟩) (meth := k2m8) (c := k2c8) (by decide +kernel) rfl rfl rfl (by decide +kernel)
set_option maxRecDepth 65536 in
theorem w_c27 : (Jvm.Cond.code ({ cls := "PivotSheet", name := "setPivot", desc := "(IIII)Z" } : Jvm.MethodName) prog_1_method_6_code (5 : Nat) (Option.some Jvm.ClassFile.FieldType.boolean)).before args0 about1 = true := code_word (m := ⟨2, 5⟩) (meth := k2m5) (c := k2c5) (by decide +kernel) rfl rfl rfl (by decide +kernel)
set_option maxRecDepth 65536 in
theorem w_c28 : (Jvm.Cond.code ({ cls := "PivotSheet", name := "validField", desc := "(I)Z" } : Jvm.MethodName) prog_1_method_18_code (2 : Nat) (Option.some Jvm.ClassFile.FieldType.boolean)).before args0 about1 = true := code_word (m := ⟨2, 16⟩) (meth := k2m16) (c := k2c16) (by decide +kernel) rfl rfl rfl (by decide +kernel)
def codes1 : List Jvm.Cond := [Jvm.Cond.code x code maxLocals ret, Jvm.Cond.code ({ cls := "PivotSheet", name := "<init>", desc := "(II)V" } : Jvm.MethodName) prog_1_method_1_code (5 : Nat) (Option.none : Option Jvm.ClassFile.FieldType), Jvm.Cond.code ({ cls := "java/lang/Object", name := "<init>", desc := "()V" } : Jvm.MethodName) object_method_1_code (1 : Nat) (Option.none : Option Jvm.ClassFile.FieldType), Jvm.Cond.code ({ cls := "PivotSheet", name := "setFormula", desc := "(IIII)Z" } : Jvm.MethodName) prog_1_method_13_code (5 : Nat) (Option.some Jvm.ClassFile.FieldType.boolean), Jvm.Cond.code ({ cls := "PivotSheet", name := "validSlot", desc := "(I)Z" } : Jvm.MethodName) prog_1_method_19_code (2 : Nat) (Option.some Jvm.ClassFile.FieldType.boolean), Jvm.Cond.code ({ cls := "PivotSheet", name := "getCell", desc := "(II)I" } : Jvm.MethodName) prog_1_method_4_code (3 : Nat) (Option.some Jvm.ClassFile.FieldType.int), Jvm.Cond.code ({ cls := "PivotSheet", name := "validRow", desc := "(I)Z" } : Jvm.MethodName) prog_1_method_17_code (2 : Nat) (Option.some Jvm.ClassFile.FieldType.boolean), Jvm.Cond.code ({ cls := "PivotSheetL6", name := "cell", desc := "(JII)I" } : Jvm.MethodName) method_2_code (4 : Nat) (Option.some Jvm.ClassFile.FieldType.int), Jvm.Cond.code ({ cls := "PivotSheet", name := "isFilled", desc := "(I)Z" } : Jvm.MethodName) prog_1_method_5_code (2 : Nat) (Option.some Jvm.ClassFile.FieldType.boolean), Jvm.Cond.code ({ cls := "PivotSheet", name := "value", desc := "(II)I" } : Jvm.MethodName) prog_1_method_11_code (3 : Nat) (Option.some Jvm.ClassFile.FieldType.int), Jvm.Cond.code ({ cls := "PivotSheet", name := "resolve", desc := "(II)Z" } : Jvm.MethodName) prog_1_method_22_code (5 : Nat) (Option.some Jvm.ClassFile.FieldType.boolean), Jvm.Cond.code ({ cls := "PivotSheet", name := "buildKeys", desc := "(II)I" } : Jvm.MethodName) prog_1_method_20_code (5 : Nat) (Option.some Jvm.ClassFile.FieldType.int), Jvm.Cond.code ({ cls := "PivotSheet", name := "evalGroup", desc := "(ZIZI)V" } : Jvm.MethodName) prog_1_method_23_code (12 : Nat) (Option.none : Option Jvm.ClassFile.FieldType), Jvm.Cond.code ({ cls := "PivotSheet", name := "pickAgg", desc := "(IIII)I" } : Jvm.MethodName) prog_1_method_24_code (5 : Nat) (Option.some Jvm.ClassFile.FieldType.int), Jvm.Cond.code ({ cls := "PivotSheet", name := "groupCount", desc := "(II)I" } : Jvm.MethodName) prog_1_method_12_code (3 : Nat) (Option.some Jvm.ClassFile.FieldType.int), Jvm.Cond.code ({ cls := "PivotSheet", name := "rowKeyCount", desc := "()I" } : Jvm.MethodName) prog_1_method_7_code (1 : Nat) (Option.some Jvm.ClassFile.FieldType.int), Jvm.Cond.code ({ cls := "PivotSheet", name := "colKeyCount", desc := "()I" } : Jvm.MethodName) prog_1_method_8_code (1 : Nat) (Option.some Jvm.ClassFile.FieldType.int), Jvm.Cond.code ({ cls := "PivotSheet", name := "formulaValue", desc := "(I)I" } : Jvm.MethodName) prog_1_method_14_code (2 : Nat) (Option.some Jvm.ClassFile.FieldType.int), Jvm.Cond.code ({ cls := "PivotSheet", name := "evalFormula", desc := "(I)V" } : Jvm.MethodName) prog_1_method_25_code (5 : Nat) (Option.none : Option Jvm.ClassFile.FieldType), Jvm.Cond.code ({ cls := "PivotSheet", name := "formulaFound", desc := "(I)Z" } : Jvm.MethodName) prog_1_method_15_code (2 : Nat) (Option.some Jvm.ClassFile.FieldType.boolean), Jvm.Cond.code ({ cls := "PivotSheet", name := "lastChanged", desc := "()I" } : Jvm.MethodName) prog_1_method_16_code (1 : Nat) (Option.some Jvm.ClassFile.FieldType.int), Jvm.Cond.code ({ cls := "PivotSheet", name := "clearRow", desc := "(I)Z" } : Jvm.MethodName) prog_1_method_3_code (3 : Nat) (Option.some Jvm.ClassFile.FieldType.boolean), Jvm.Cond.code ({ cls := "PivotSheet", name := "setCell", desc := "(III)Z" } : Jvm.MethodName) prog_1_method_2_code (4 : Nat) (Option.some Jvm.ClassFile.FieldType.boolean), Jvm.Cond.code ({ cls := "PivotSheet", name := "snapshot", desc := "()V" } : Jvm.MethodName) prog_1_method_26_code (2 : Nat) (Option.none : Option Jvm.ClassFile.FieldType), Jvm.Cond.code ({ cls := "PivotSheet", name := "countChanged", desc := "()I" } : Jvm.MethodName) prog_1_method_27_code (4 : Nat) (Option.some Jvm.ClassFile.FieldType.int), Jvm.Cond.code ({ cls := "PivotSheet", name := "insertKey", desc := "(III)I" } : Jvm.MethodName) prog_1_method_21_code (6 : Nat) (Option.some Jvm.ClassFile.FieldType.int), Jvm.Cond.code ({ cls := "PivotSheet", name := "rowKey", desc := "(I)I" } : Jvm.MethodName) prog_1_method_9_code (3 : Nat) (Option.some Jvm.ClassFile.FieldType.int), Jvm.Cond.code ({ cls := "PivotSheet", name := "setPivot", desc := "(IIII)Z" } : Jvm.MethodName) prog_1_method_6_code (5 : Nat) (Option.some Jvm.ClassFile.FieldType.boolean), Jvm.Cond.code ({ cls := "PivotSheet", name := "validField", desc := "(I)Z" } : Jvm.MethodName) prog_1_method_18_code (2 : Nat) (Option.some Jvm.ClassFile.FieldType.boolean)]
set_option maxRecDepth 65536 in
theorem codes_eq : words1.filter isCode = codes1 := rfl
theorem w_codes : ∀ c ∈ words1.filter isCode, c.before args0 about1 = true := by
  rw [codes_eq]
  intro c hc
  simp only [codes1, List.mem_cons, List.not_mem_nil, or_false] at hc
  rcases hc with rfl | rfl | rfl | rfl | rfl | rfl | rfl | rfl | rfl | rfl | rfl | rfl | rfl | rfl | rfl | rfl | rfl | rfl | rfl | rfl | rfl | rfl | rfl | rfl | rfl | rfl | rfl | rfl | rfl
  · exact w_c0
  · exact w_c1
  · exact w_c2
  · exact w_c3
  · exact w_c4
  · exact w_c5
  · exact w_c6
  · exact w_c7
  · exact w_c8
  · exact w_c9
  · exact w_c10
  · exact w_c11
  · exact w_c12
  · exact w_c13
  · exact w_c14
  · exact w_c15
  · exact w_c16
  · exact w_c17
  · exact w_c18
  · exact w_c19
  · exact w_c20
  · exact w_c21
  · exact w_c22
  · exact w_c23
  · exact w_c24
  · exact w_c25
  · exact w_c26
  · exact w_c27
  · exact w_c28
set_option maxRecDepth 65536 in
theorem w_t1 : (words1.take 24).all (fun c => isCode c || c.before args0 about1) = true := by decide +kernel
set_option maxRecDepth 65536 in
theorem w_t2 : ((words1.drop 24).take 24).all (fun c => isCode c || c.before args0 about1) = true := by decide +kernel
set_option maxRecDepth 65536 in
theorem w_t3 : (((words1.drop 24).drop 24).take 24).all (fun c => isCode c || c.before args0 about1) = true := by decide +kernel
set_option maxRecDepth 65536 in
theorem w_t4 : ((((words1.drop 24).drop 24).drop 24).take 24).all (fun c => isCode c || c.before args0 about1) = true := by decide +kernel
set_option maxRecDepth 65536 in
theorem w_t5 : (((((words1.drop 24).drop 24).drop 24).drop 24).take 24).all (fun c => isCode c || c.before args0 about1) = true := by decide +kernel
set_option maxRecDepth 65536 in
theorem w_t6 : ((((((words1.drop 24).drop 24).drop 24).drop 24).drop 24).take 24).all (fun c => isCode c || c.before args0 about1) = true := by decide +kernel
set_option maxRecDepth 65536 in
theorem w_t7 : (((((((words1.drop 24).drop 24).drop 24).drop 24).drop 24).drop 24).take 24).all (fun c => isCode c || c.before args0 about1) = true := by decide +kernel
set_option maxRecDepth 65536 in
theorem w_t8 : (((((((words1.drop 24).drop 24).drop 24).drop 24).drop 24).drop 24).drop 24).all (fun c => isCode c || c.before args0 about1) = true := by decide +kernel
theorem w_tables : (allAtoms (Jvm.Cond.code x code maxLocals ret :: tables_1)).before args0 about1 = true := by
  rw [allAtoms_all]
  show words1.all (fun c => c.before args0 about1) = true
  refine all_split ?_ w_codes
  rw [← List.take_append_drop 24 words1, List.all_append, w_t1, ← List.take_append_drop 24 (words1.drop 24), List.all_append, w_t2, ← List.take_append_drop 24 ((words1.drop 24).drop 24), List.all_append, w_t3, ← List.take_append_drop 24 (((words1.drop 24).drop 24).drop 24), List.all_append, w_t4, ← List.take_append_drop 24 ((((words1.drop 24).drop 24).drop 24).drop 24), List.all_append, w_t5, ← List.take_append_drop 24 (((((words1.drop 24).drop 24).drop 24).drop 24).drop 24), List.all_append, w_t6, ← List.take_append_drop 24 ((((((words1.drop 24).drop 24).drop 24).drop 24).drop 24).drop 24), List.all_append, w_t7, w_t8]
  rfl
set_option maxRecDepth 65536 in
theorem w_rest : rest_1_c.before args0 about1 = true := by decide +kernel
set_option maxRecDepth 65536 in
theorem w_case : (Jvm.Cond.and given_1 narrow_1).before args0 about1 = true := by decide +kernel
theorem w_applies : (headSpec (Jvm.Cond.code x code maxLocals ret :: tables_1) room_1).applies x e0.platform about1 = true :=
  (Spec.applies_iff w_frames).mpr ⟨w_running, w_runnable, w_alone, w_named, w_hears, w_ripe, w_room, w_tables⟩
theorem atStart : AtStart classFile x code maxLocals ret World_1 tables_1 room_1 Calls_1 rest_1 Pre_1 launch0 p0 e0 about1 theMethod args0 below0 :=
  ⟨lists_1, trivial, launch0.admits_env _ _ _, launch0.least_env, fairChoices_fair.cas, fairChoices_fair.clock, w_frames, w_args, w_heap, w_applies, trivial, w_rest, w_case⟩
end start1
theorem witness_1 : WitnessClaimed_1 := ⟨start1.p0, start1.e0, start1.about1, start1.theMethod, start1.args0, start1.below0, start1.atStart⟩
end Jvm.Pilot.@@N@@
