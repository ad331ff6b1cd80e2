import JvmDerived
import JvmDerived.Pilot.@@N@@Statement
import JvmDerived.Pilot.@@N@@Code
set_option linter.unusedVariables false
set_option linter.unusedSimpArgs false
namespace Jvm.RoadKit
open Sem ClassFile Op Lib Jvm.Stand Jvm.Free Jvm.LawKit
section New
variable {p : Program} {l : Launch} {e : Env} {R : Room} {s : State} {m : MethodId} {args : Array Value} {below : List Frame} {meth : Method} {c : Code} {T : State} {locs : List Loc} {cells slots : Nat}
theorem retI (X : Stand p l e R s m args below meth c T locs cells slots) (hx : p.tables.exec = Jvm.exec) {pc : Nat} {Ls : Array Slot} {z : Int32} {rest : List Value} (hret : meth.sig.returnType = some .int) (hd : decode c.code pc = .ok (.ireturn, 1)) {fs : List Frame}
    (hl : ∀ (f : JFrame) (acts : List Action), f.method = m → f.locked = none → f.entered = [] → (doReturn e (T.setTop f) acts (some (.int z))).1 = T.setFrames fs) : Steps p.tables e below (T.setTop (mkF m pc Ls (.int z :: rest))) (T.setFrames fs) := by
  have hm' : T.vm.method? m = some meth := X.method'
  have hn : narrow .int (.int z) = .int z := rfl
  show Steps p.tables e below (T.setTop { method := m, pc := pc, locals := Ls, stack := _ :: rest, locked := none }) _
  jvm_step X.here [X.here.top, hx, hd, hm', hret, hn]
  first | (intro acts; rw [hl _ acts rfl rfl rfl]) | rw [hl _ _ rfl rfl rfl]
  exact Steps.refl _
end New
end Jvm.RoadKit
namespace Jvm.Pilot.@@N@@
open Jvm Jvm.ClassFile Sem Op Lib Jvm.Free Jvm.Stand Jvm.LawKit Jvm.RoadKit Bundle Jvm.Pilot.@@N@@.Jvm.D
/-! TABLES of this claim: printed by claim.py -/
def k0 : Nat := 0
def cName : String := "SliceAggregate"
def cN : Nat := 18
def nF : Nat := 18
def kName (k : Nat) : String := bif Nat.beq k 0 then "SliceAggregateL3" else "SliceAggregate"
def fNm (k : Nat) : String := (bif Nat.ble 9 k then (bif Nat.ble 13 k then (bif Nat.ble 15 k then (bif Nat.ble 16 k then (bif Nat.ble 17 k then "n" else "queries") else "capacity") else (bif Nat.ble 14 k then "reg" else "snap")) else (bif Nat.ble 11 k then (bif Nat.ble 12 k then "backAgg" else "frontAgg") else (bif Nat.ble 10 k then "backElem" else "backSize"))) else (bif Nat.ble 4 k then (bif Nat.ble 6 k then (bif Nat.ble 7 k then (bif Nat.ble 8 k then "frontSize" else "slide") else "range") else (bif Nat.ble 5 k then "slots" else "regCount")) else (bif Nat.ble 2 k then (bif Nat.ble 3 k then "regC" else "regB") else (bif Nat.ble 1 k then "regA" else "regTuple"))))
def fDs (k : Nat) : String := (bif Nat.ble 9 k then (bif Nat.ble 13 k then (bif Nat.ble 15 k then (bif Nat.ble 16 k then (bif Nat.ble 17 k then "I" else "I") else "I") else (bif Nat.ble 14 k then "[I" else "[I")) else (bif Nat.ble 11 k then (bif Nat.ble 12 k then "[I" else "[I") else (bif Nat.ble 10 k then "[I" else "[I"))) else (bif Nat.ble 4 k then (bif Nat.ble 6 k then (bif Nat.ble 7 k then (bif Nat.ble 8 k then "[I" else "[I") else "[I") else (bif Nat.ble 5 k then "I" else "I")) else (bif Nat.ble 2 k then (bif Nat.ble 3 k then "I" else "I") else (bif Nat.ble 1 k then "I" else "I"))))
def fTy (k : Nat) : FieldType := (bif Nat.ble 9 k then (bif Nat.ble 13 k then (bif Nat.ble 15 k then (bif Nat.ble 16 k then (bif Nat.ble 17 k then .int else .int) else .int) else (bif Nat.ble 14 k then (.array .int) else (.array .int))) else (bif Nat.ble 11 k then (bif Nat.ble 12 k then (.array .int) else (.array .int)) else (bif Nat.ble 10 k then (.array .int) else (.array .int)))) else (bif Nat.ble 4 k then (bif Nat.ble 6 k then (bif Nat.ble 7 k then (bif Nat.ble 8 k then (.array .int) else (.array .int)) else (.array .int)) else (bif Nat.ble 5 k then .int else .int)) else (bif Nat.ble 2 k then (bif Nat.ble 3 k then .int else .int) else (bif Nat.ble 1 k then .int else .int))))
def fFin (k : Nat) : Bool := (bif Nat.ble 9 k then (bif Nat.ble 13 k then (bif Nat.ble 15 k then (bif Nat.ble 16 k then (bif Nat.ble 17 k then false else false) else false) else (bif Nat.ble 14 k then true else true)) else (bif Nat.ble 11 k then (bif Nat.ble 12 k then true else true) else (bif Nat.ble 10 k then true else true))) else (bif Nat.ble 4 k then (bif Nat.ble 6 k then (bif Nat.ble 7 k then (bif Nat.ble 8 k then true else true) else true) else (bif Nat.ble 5 k then true else true)) else (bif Nat.ble 2 k then (bif Nat.ble 3 k then true else true) else (bif Nat.ble 1 k then true else true))))
def cDef : List Value := [.int 0, .int 0, .int 0, .int 0, .int 0, .int 0, .null, .null, .null, .null, .null, .null, .null, .null, .null, .int 0, .int 0, .int 0]
def cK : List Value := []
def pN : Nat := 31
def pTop (m : Nat) : Nat := (bif Nat.ble 15 m then (bif Nat.ble 23 m then (bif Nat.ble 27 m then (bif Nat.ble 29 m then (bif Nat.ble 30 m then 29 else 67) else (bif Nat.ble 28 m then 33 else 15)) else (bif Nat.ble 25 m then (bif Nat.ble 26 m then 31 else 16) else (bif Nat.ble 24 m then 23 else 23))) else (bif Nat.ble 19 m then (bif Nat.ble 21 m then (bif Nat.ble 22 m then 31 else 67) else (bif Nat.ble 20 m then 67 else 85)) else (bif Nat.ble 17 m then (bif Nat.ble 18 m then 38 else 42) else (bif Nat.ble 16 m then 13 else 203)))) else (bif Nat.ble 7 m then (bif Nat.ble 11 m then (bif Nat.ble 13 m then (bif Nat.ble 14 m then 58 else 9) else (bif Nat.ble 12 m then 67 else 25)) else (bif Nat.ble 9 m then (bif Nat.ble 10 m then 92 else 84) else (bif Nat.ble 8 m then 84 else 58))) else (bif Nat.ble 3 m then (bif Nat.ble 5 m then (bif Nat.ble 6 m then 58 else 15) else (bif Nat.ble 4 m then 55 else 10)) else (bif Nat.ble 1 m then (bif Nat.ble 2 m then 42 else 155) else 264))))
def pK (m : Nat) : Nat := (bif Nat.ble 15 m then (bif Nat.ble 23 m then (bif Nat.ble 27 m then (bif Nat.ble 29 m then (bif Nat.ble 30 m then 1 else 1) else (bif Nat.ble 28 m then 1 else 1)) else (bif Nat.ble 25 m then (bif Nat.ble 26 m then 1 else 1) else (bif Nat.ble 24 m then 1 else 1))) else (bif Nat.ble 19 m then (bif Nat.ble 21 m then (bif Nat.ble 22 m then 1 else 1) else (bif Nat.ble 20 m then 1 else 1)) else (bif Nat.ble 17 m then (bif Nat.ble 18 m then 1 else 1) else (bif Nat.ble 16 m then 1 else 1)))) else (bif Nat.ble 7 m then (bif Nat.ble 11 m then (bif Nat.ble 13 m then (bif Nat.ble 14 m then 1 else 1) else (bif Nat.ble 12 m then 1 else 1)) else (bif Nat.ble 9 m then (bif Nat.ble 10 m then 1 else 1) else (bif Nat.ble 8 m then 1 else 1))) else (bif Nat.ble 3 m then (bif Nat.ble 5 m then (bif Nat.ble 6 m then 1 else 1) else (bif Nat.ble 4 m then 1 else 1)) else (bif Nat.ble 1 m then (bif Nat.ble 2 m then 1 else 1) else 0))))
def pNm (m : Nat) : String := (bif Nat.ble 15 m then (bif Nat.ble 23 m then (bif Nat.ble 27 m then (bif Nat.ble 29 m then (bif Nat.ble 30 m then "regEntry" else "loadFront") else (bif Nat.ble 28 m then "liveResult" else "validEntry")) else (bif Nat.ble 25 m then (bif Nat.ble 26 m then "result" else "windowEnd") else (bif Nat.ble 24 m then "endOf" else "validQuery"))) else (bif Nat.ble 19 m then (bif Nat.ble 21 m then (bif Nat.ble 22 m then "windowStart" else "storeFront") else (bif Nat.ble 20 m then "loadBack" else "flip")) else (bif Nat.ble 17 m then (bif Nat.ble 18 m then "evictOldest" else "liveFold") else (bif Nat.ble 16 m then "takeSnapshot" else "regMul")))) else (bif Nat.ble 7 m then (bif Nat.ble 11 m then (bif Nat.ble 13 m then (bif Nat.ble 14 m then "loadBackAgg" else "slotOffset") else (bif Nat.ble 12 m then "storeBack" else "validSlot")) else (bif Nat.ble 9 m then (bif Nat.ble 10 m then "appendToQuery" else "push") else (bif Nat.ble 8 m then "addQuery" else "storeSnap"))) else (bif Nat.ble 3 m then (bif Nat.ble 5 m then (bif Nat.ble 6 m then "storeBackAgg" else "validReg") else (bif Nat.ble 4 m then "regSet" else "regIdentity")) else (bif Nat.ble 1 m then (bif Nat.ble 2 m then "resetQuery" else "<init>") else "law"))))
def pDs (m : Nat) : String := (bif Nat.ble 15 m then (bif Nat.ble 23 m then (bif Nat.ble 27 m then (bif Nat.ble 29 m then (bif Nat.ble 30 m then "(II)I" else "(III)V") else (bif Nat.ble 28 m then "(II)I" else "(I)Z")) else (bif Nat.ble 25 m then (bif Nat.ble 26 m then "(II)I" else "(I)I") else (bif Nat.ble 24 m then "(I)I" else "(I)Z"))) else (bif Nat.ble 19 m then (bif Nat.ble 21 m then (bif Nat.ble 22 m then "(I)I" else "(III)V") else (bif Nat.ble 20 m then "(III)V" else "(I)V")) else (bif Nat.ble 17 m then (bif Nat.ble 18 m then "(I)V" else "(II)V") else (bif Nat.ble 16 m then "(I)V" else "(III)V")))) else (bif Nat.ble 7 m then (bif Nat.ble 11 m then (bif Nat.ble 13 m then (bif Nat.ble 14 m then "(II)V" else "(II)I") else (bif Nat.ble 12 m then "(III)V" else "(II)Z")) else (bif Nat.ble 9 m then (bif Nat.ble 10 m then "(I)V" else "(IIII)I") else (bif Nat.ble 8 m then "(II)I" else "(II)V"))) else (bif Nat.ble 3 m then (bif Nat.ble 5 m then (bif Nat.ble 6 m then "(II)V" else "(I)Z") else (bif Nat.ble 4 m then "(IIIII)V" else "(I)V")) else (bif Nat.ble 1 m then (bif Nat.ble 2 m then "(I)V" else "(I)V") else "(IIIIII)Z"))))
def pName (m : Nat) : MethodName := ⟨kName (pK m), pNm m, pDs m⟩
def pBytes (m : Nat) : ByteArray := (bif Nat.ble 15 m then (bif Nat.ble 23 m then (bif Nat.ble 27 m then (bif Nat.ble 29 m then (bif Nat.ble 30 m then prog_1_method_28_code else prog_1_method_32_code) else (bif Nat.ble 28 m then prog_1_method_5_code else prog_1_method_15_code)) else (bif Nat.ble 25 m then (bif Nat.ble 26 m then prog_1_method_4_code else prog_1_method_7_code) else (bif Nat.ble 24 m then prog_1_method_19_code else prog_1_method_14_code))) else (bif Nat.ble 19 m then (bif Nat.ble 21 m then (bif Nat.ble 22 m then prog_1_method_6_code else prog_1_method_33_code) else (bif Nat.ble 20 m then prog_1_method_30_code else prog_1_method_23_code)) else (bif Nat.ble 17 m then (bif Nat.ble 18 m then prog_1_method_22_code else prog_1_method_24_code) else (bif Nat.ble 16 m then prog_1_method_25_code else prog_1_method_29_code)))) else (bif Nat.ble 7 m then (bif Nat.ble 11 m then (bif Nat.ble 13 m then (bif Nat.ble 14 m then prog_1_method_34_code else prog_1_method_18_code) else (bif Nat.ble 12 m then prog_1_method_31_code else prog_1_method_17_code)) else (bif Nat.ble 9 m then (bif Nat.ble 10 m then prog_1_method_21_code else prog_1_method_3_code) else (bif Nat.ble 8 m then prog_1_method_2_code else prog_1_method_36_code))) else (bif Nat.ble 3 m then (bif Nat.ble 5 m then (bif Nat.ble 6 m then prog_1_method_35_code else prog_1_method_16_code) else (bif Nat.ble 4 m then prog_1_method_26_code else prog_1_method_27_code)) else (bif Nat.ble 1 m then (bif Nat.ble 2 m then prog_1_method_20_code else prog_1_method_1_code) else code))))
def pMaxL (m : Nat) : Nat := (bif Nat.ble 15 m then (bif Nat.ble 23 m then (bif Nat.ble 27 m then (bif Nat.ble 29 m then (bif Nat.ble 30 m then 3 else 7) else (bif Nat.ble 28 m then 3 else 2)) else (bif Nat.ble 25 m then (bif Nat.ble 26 m then 3 else 2) else (bif Nat.ble 24 m then 3 else 2))) else (bif Nat.ble 19 m then (bif Nat.ble 21 m then (bif Nat.ble 22 m then 3 else 7) else (bif Nat.ble 20 m then 7 else 4)) else (bif Nat.ble 17 m then (bif Nat.ble 18 m then 2 else 4) else (bif Nat.ble 16 m then 2 else 15)))) else (bif Nat.ble 7 m then (bif Nat.ble 11 m then (bif Nat.ble 13 m then (bif Nat.ble 14 m then 5 else 3) else (bif Nat.ble 12 m then 7 else 3)) else (bif Nat.ble 9 m then (bif Nat.ble 10 m then 4 else 8) else (bif Nat.ble 8 m then 4 else 5))) else (bif Nat.ble 3 m then (bif Nat.ble 5 m then (bif Nat.ble 6 m then 5 else 2) else (bif Nat.ble 4 m then 7 else 2)) else (bif Nat.ble 1 m then (bif Nat.ble 2 m then 2 else 4) else 10))))
def pRet (m : Nat) : Option FieldType := (bif Nat.ble 15 m then (bif Nat.ble 23 m then (bif Nat.ble 27 m then (bif Nat.ble 29 m then (bif Nat.ble 30 m then (some .int) else none) else (bif Nat.ble 28 m then (some .int) else (some .boolean))) else (bif Nat.ble 25 m then (bif Nat.ble 26 m then (some .int) else (some .int)) else (bif Nat.ble 24 m then (some .int) else (some .boolean)))) else (bif Nat.ble 19 m then (bif Nat.ble 21 m then (bif Nat.ble 22 m then (some .int) else none) else (bif Nat.ble 20 m then none else none)) else (bif Nat.ble 17 m then (bif Nat.ble 18 m then none else none) else (bif Nat.ble 16 m then none else none)))) else (bif Nat.ble 7 m then (bif Nat.ble 11 m then (bif Nat.ble 13 m then (bif Nat.ble 14 m then none else (some .int)) else (bif Nat.ble 12 m then none else (some .boolean))) else (bif Nat.ble 9 m then (bif Nat.ble 10 m then none else (some .int)) else (bif Nat.ble 8 m then (some .int) else none))) else (bif Nat.ble 3 m then (bif Nat.ble 5 m then (bif Nat.ble 6 m then none else (some .boolean)) else (bif Nat.ble 4 m then none else none)) else (bif Nat.ble 1 m then (bif Nat.ble 2 m then none else none) else (some .boolean)))))
def pNA (m : Nat) : Nat := (bif Nat.ble 15 m then (bif Nat.ble 23 m then (bif Nat.ble 27 m then (bif Nat.ble 29 m then (bif Nat.ble 30 m then 2 else 3) else (bif Nat.ble 28 m then 2 else 1)) else (bif Nat.ble 25 m then (bif Nat.ble 26 m then 2 else 1) else (bif Nat.ble 24 m then 1 else 1))) else (bif Nat.ble 19 m then (bif Nat.ble 21 m then (bif Nat.ble 22 m then 1 else 3) else (bif Nat.ble 20 m then 3 else 1)) else (bif Nat.ble 17 m then (bif Nat.ble 18 m then 1 else 2) else (bif Nat.ble 16 m then 1 else 3)))) else (bif Nat.ble 7 m then (bif Nat.ble 11 m then (bif Nat.ble 13 m then (bif Nat.ble 14 m then 2 else 2) else (bif Nat.ble 12 m then 3 else 2)) else (bif Nat.ble 9 m then (bif Nat.ble 10 m then 1 else 4) else (bif Nat.ble 8 m then 2 else 2))) else (bif Nat.ble 3 m then (bif Nat.ble 5 m then (bif Nat.ble 6 m then 2 else 1) else (bif Nat.ble 4 m then 5 else 1)) else (bif Nat.ble 1 m then (bif Nat.ble 2 m then 1 else 1) else 6))))
def pFr (m : Nat) : Nat := (bif Nat.ble 15 m then (bif Nat.ble 23 m then (bif Nat.ble 27 m then (bif Nat.ble 29 m then (bif Nat.ble 30 m then 1 else 1) else (bif Nat.ble 28 m then 4 else 0)) else (bif Nat.ble 25 m then (bif Nat.ble 26 m then 1 else 1) else (bif Nat.ble 24 m then 0 else 0))) else (bif Nat.ble 19 m then (bif Nat.ble 21 m then (bif Nat.ble 22 m then 1 else 1) else (bif Nat.ble 20 m then 1 else 3)) else (bif Nat.ble 17 m then (bif Nat.ble 18 m then 4 else 3) else (bif Nat.ble 16 m then 4 else 1)))) else (bif Nat.ble 7 m then (bif Nat.ble 11 m then (bif Nat.ble 13 m then (bif Nat.ble 14 m then 1 else 0) else (bif Nat.ble 12 m then 1 else 0)) else (bif Nat.ble 9 m then (bif Nat.ble 10 m then 5 else 6) else (bif Nat.ble 8 m then 4 else 1))) else (bif Nat.ble 3 m then (bif Nat.ble 5 m then (bif Nat.ble 6 m then 1 else 0) else (bif Nat.ble 4 m then 1 else 2)) else (bif Nat.ble 1 m then (bif Nat.ble 2 m then 3 else 4) else 7))))
def pLo (m : Nat) : Nat := (bif Nat.ble 15 m then (bif Nat.ble 23 m then (bif Nat.ble 27 m then (bif Nat.ble 29 m then (bif Nat.ble 30 m then 13 else 14) else (bif Nat.ble 28 m then 59 else 0)) else (bif Nat.ble 25 m then (bif Nat.ble 26 m then 13 else 14) else (bif Nat.ble 24 m then 0 else 0))) else (bif Nat.ble 19 m then (bif Nat.ble 21 m then (bif Nat.ble 22 m then 14 else 14) else (bif Nat.ble 20 m then 14 else 44)) else (bif Nat.ble 17 m then (bif Nat.ble 18 m then 59 else 44) else (bif Nat.ble 16 m then 59 else 13)))) else (bif Nat.ble 7 m then (bif Nat.ble 11 m then (bif Nat.ble 13 m then (bif Nat.ble 14 m then 13 else 0) else (bif Nat.ble 12 m then 14 else 0)) else (bif Nat.ble 9 m then (bif Nat.ble 10 m then 72 else 87) else (bif Nat.ble 8 m then 57 else 13))) else (bif Nat.ble 3 m then (bif Nat.ble 5 m then (bif Nat.ble 6 m then 13 else 0) else (bif Nat.ble 4 m then 13 else 31)) else (bif Nat.ble 1 m then (bif Nat.ble 2 m then 44 else 57) else 106))))
def tB (k p : Nat) (a b : Option (Instr × Nat)) : Option (Instr × Nat) := bif Nat.ble k p then a else b
def tL (k p : Nat) (i : Instr) (x : Nat) : Option (Instr × Nat) := bif Nat.beq p k then some (i, x) else none
set_option maxHeartbeats 4000000 in
def cd0 (p : Nat) : Option (Instr × Nat) := (tB 141 p (tB 203 p (tB 235 p (tB 250 p (tB 256 p (tB 261 p (tB 262 p (tB 263 p (tL 263 p .ireturn 0) (tL 262 p (.iconst 1) 0)) (tL 261 p .ireturn 0)) (tB 257 p (tB 260 p (tL 260 p (.iconst 0) 0) (tL 257 p (.if_icmp .eq 5) 262)) (tL 256 p .iadd 0))) (tB 253 p (tB 254 p (tB 255 p (tL 255 p .imul 0) (tL 254 p (.iload_n 1) 0)) (tL 253 p (.iload_n 2) 0)) (tB 252 p (tL 252 p .imul 0) (tL 250 p (.iload 4) 0)))) (tB 242 p (tB 245 p (tB 246 p (tB 249 p (tL 249 p (.iload_n 0) 0) (tL 246 p (.invokevirtual 30) 28)) (tL 245 p (.iconst 3) 0)) (tB 244 p (tL 244 p (.iconst 0) 0) (tL 242 p (.aload 6) 0))) (tB 237 p (tB 240 p (tB 241 p (tL 241 p .ireturn 0) (tL 240 p (.iconst 0) 0)) (tL 237 p (.if_icmp .eq 5) 242)) (tB 236 p (tL 236 p .iadd 0) (tL 235 p .imul 0))))) (tB 220 p (tB 226 p (tB 231 p (tB 232 p (tB 233 p (tL 233 p (.iload 5) 0) (tL 232 p (.iload_n 2) 0)) (tL 231 p .imul 0)) (tB 229 p (tB 230 p (tL 230 p (.iload_n 3) 0) (tL 229 p (.iload_n 0) 0)) (tL 226 p (.invokevirtual 30) 28))) (tB 222 p (tB 224 p (tB 225 p (tL 225 p (.iconst 2) 0) (tL 224 p (.iconst 0) 0)) (tL 222 p (.aload 6) 0)) (tB 221 p (tL 221 p .ireturn 0) (tL 220 p (.iconst 0) 0)))) (tB 212 p (tB 215 p (tB 216 p (tB 217 p (tL 217 p (.if_icmp .eq 5) 222) (tL 216 p .iadd 0)) (tL 215 p .imul 0)) (tB 214 p (tL 214 p (.iload_n 1) 0) (tL 212 p (.iload 5) 0))) (tB 207 p (tB 209 p (tB 211 p (tL 211 p .imul 0) (tL 209 p (.iload 4) 0)) (tL 207 p (.iload 4) 0)) (tB 204 p (tL 204 p (.invokevirtual 30) 28) (tL 203 p (.iconst 1) 0)))))) (tB 171 p (tB 187 p (tB 194 p (tB 199 p (tB 200 p (tB 202 p (tL 202 p (.iconst 0) 0) (tL 200 p (.aload 6) 0)) (tL 199 p .ireturn 0)) (tB 195 p (tB 198 p (tL 198 p (.iconst 0) 0) (tL 195 p (.if_icmp .eq 5) 200)) (tL 194 p .iadd 0))) (tB 189 p (tB 191 p (tB 193 p (tL 193 p .imul 0) (tL 191 p (.iload 5) 0)) (tL 189 p (.iload 5) 0)) (tB 188 p (tL 188 p .imul 0) (tL 187 p (.iload_n 3) 0)))) (tB 178 p (tB 181 p (tB 182 p (tB 185 p (tL 185 p (.iload 4) 0) (tL 182 p (.invokevirtual 30) 28)) (tL 181 p (.iconst 0) 0)) (tB 180 p (tL 180 p (.iconst 0) 0) (tL 178 p (.aload 6) 0))) (tB 173 p (tB 176 p (tB 177 p (tL 177 p .ireturn 0) (tL 176 p (.iconst 0) 0)) (tL 173 p (.if_icmp .eq 5) 178)) (tB 172 p (tL 172 p .iadd 0) (tL 171 p .imul 0))))) (tB 156 p (tB 162 p (tB 168 p (tB 169 p (tB 170 p (tL 170 p (.iload_n 2) 0) (tL 169 p (.iload_n 3) 0)) (tL 168 p .imul 0)) (tB 165 p (tB 166 p (tL 166 p (.iload 5) 0) (tL 165 p (.iload_n 2) 0)) (tL 162 p (.invokevirtual 27) 26))) (tB 158 p (tB 160 p (tB 161 p (tL 161 p (.iconst 3) 0) (tL 160 p (.iconst 0) 0)) (tL 158 p (.aload 6) 0)) (tB 157 p (tL 157 p .ireturn 0) (tL 156 p (.iconst 0) 0)))) (tB 149 p (tB 151 p (tB 152 p (tB 153 p (tL 153 p (.if_icmp .eq 5) 158) (tL 152 p .iadd 0)) (tL 151 p .imul 0)) (tB 150 p (tL 150 p (.iload_n 0) 0) (tL 149 p (.iload_n 3) 0))) (tB 145 p (tB 146 p (tB 148 p (tL 148 p .imul 0) (tL 146 p (.iload 4) 0)) (tL 145 p (.iload_n 2) 0)) (tB 142 p (tL 142 p (.invokevirtual 27) 26) (tL 141 p (.iconst 2) 0))))))) (tB 76 p (tB 111 p (tB 126 p (tB 132 p (tB 137 p (tB 138 p (tB 140 p (tL 140 p (.iconst 0) 0) (tL 138 p (.aload 6) 0)) (tL 137 p .ireturn 0)) (tB 133 p (tB 136 p (tL 136 p (.iconst 0) 0) (tL 133 p (.if_icmp .eq 5) 138)) (tL 132 p .iadd 0))) (tB 129 p (tB 130 p (tB 131 p (tL 131 p .imul 0) (tL 130 p (.iload_n 2) 0)) (tL 129 p (.iload_n 1) 0)) (tB 128 p (tL 128 p .imul 0) (tL 126 p (.iload 5) 0)))) (tB 118 p (tB 121 p (tB 122 p (tB 125 p (tL 125 p (.iload_n 0) 0) (tL 122 p (.invokevirtual 27) 26)) (tL 121 p (.iconst 1) 0)) (tB 120 p (tL 120 p (.iconst 0) 0) (tL 118 p (.aload 6) 0))) (tB 113 p (tB 116 p (tB 117 p (tL 117 p .ireturn 0) (tL 116 p (.iconst 0) 0)) (tL 113 p (.if_icmp .eq 5) 118)) (tB 112 p (tL 112 p .iadd 0) (tL 111 p .imul 0))))) (tB 96 p (tB 102 p (tB 108 p (tB 109 p (tB 110 p (tL 110 p (.iload_n 0) 0) (tL 109 p (.iload_n 1) 0)) (tL 108 p .imul 0)) (tB 105 p (tB 106 p (tL 106 p (.iload 4) 0) (tL 105 p (.iload_n 0) 0)) (tL 102 p (.invokevirtual 27) 26))) (tB 98 p (tB 100 p (tB 101 p (tL 101 p (.iconst 0) 0) (tL 100 p (.iconst 0) 0)) (tL 98 p (.aload 6) 0)) (tB 97 p (tL 97 p .ireturn 0) (tL 96 p (.iconst 0) 0)))) (tB 86 p (tB 89 p (tB 92 p (tB 93 p (tL 93 p (.if_icmp .eq 5) 98) (tL 92 p (.iconst 2) 0)) (tL 89 p (.invokevirtual 24) 25)) (tB 88 p (tL 88 p (.iconst 0) 0) (tL 86 p (.aload 6) 0))) (tB 79 p (tB 80 p (tB 83 p (tL 83 p (.ifCond .ne 13) 96) (tL 80 p (.invokevirtual 20) 22)) (tL 79 p (.iconst 0) 0)) (tB 77 p (tL 77 p (.aload 6) 0) (tL 76 p .ireturn 0)))))) (tB 35 p (tB 53 p (tB 64 p (tB 70 p (tB 72 p (tB 75 p (tL 75 p (.iconst 0) 0) (tL 72 p (.ifCond .eq 5) 77)) (tL 70 p (.iload 9) 0)) (tB 66 p (tB 67 p (tL 67 p (.if_icmp .ne 8) 75) (tL 66 p (.iconst 1) 0)) (tL 64 p (.iload 8) 0))) (tB 57 p (tB 59 p (tB 61 p (tL 61 p (.ifCond .ne 14) 75) (tL 59 p (.iload 7) 0)) (tL 57 p (.istore 9) 0)) (tB 54 p (tL 54 p (.invokevirtual 16) 9) (tL 53 p (.iload_n 1) 0)))) (tB 44 p (tB 48 p (tB 49 p (tB 51 p (tL 51 p (.iload 5) 0) (tL 49 p (.iload 4) 0)) (tL 48 p (.iload_n 3) 0)) (tB 46 p (tL 46 p (.aload 6) 0) (tL 44 p (.istore 8) 0))) (tB 39 p (tB 40 p (tB 41 p (tL 41 p (.invokevirtual 16) 9) (tL 40 p (.iload_n 2) 0)) (tL 39 p (.iload_n 0) 0)) (tB 37 p (tL 37 p (.iload 5) 0) (tL 35 p (.iload 4) 0))))) (tB 20 p (tB 26 p (tB 28 p (tB 31 p (tB 33 p (tL 33 p (.aload 6) 0) (tL 31 p (.istore 7) 0)) (tL 28 p (.invokevirtual 16) 9)) (tB 27 p (tL 27 p (.iload_n 3) 0) (tL 26 p (.iload_n 2) 0))) (tB 22 p (tB 24 p (tB 25 p (tL 25 p (.iload_n 1) 0) (tL 24 p (.iload_n 0) 0)) (tL 22 p (.aload 6) 0)) (tB 21 p (tL 21 p .ireturn 0) (tL 20 p (.iconst 0) 0)))) (tB 10 p (tB 13 p (tB 14 p (tB 17 p (tL 17 p (.ifCond .eq 5) 22) (tL 14 p (.invokevirtual 12) 8)) (tL 13 p (.iconst 2) 0)) (tB 12 p (tL 12 p (.iconst 2) 0) (tL 10 p (.aload 6) 0))) (tB 4 p (tB 5 p (tB 8 p (tL 8 p (.astore 6) 0) (tL 5 p (.invokespecial 9) 1)) (tL 4 p (.iconst 1) 0)) (tB 3 p (tL 3 p .dup 0) (tL 0 p (.new 7) 0))))))))
set_option maxHeartbeats 4000000 in
def cd1 (p : Nat) : Option (Instr × Nat) := (tB 81 p (tB 119 p (tB 136 p (tB 143 p (tB 148 p (tB 151 p (tB 154 p (tL 154 p .return_ 0) (tL 151 p (.goto (-13)) 138)) (tL 148 p (.iinc 3 1) 0)) (tB 144 p (tB 145 p (tL 145 p (.invokevirtual 65) 2) (tL 144 p (.iload_n 3) 0)) (tL 143 p (.aload_n 0) 0))) (tB 138 p (tB 139 p (tB 140 p (tL 140 p (.if_icmp .ge 14) 154) (tL 139 p (.iconst 4) 0)) (tL 138 p (.iload_n 3) 0)) (tB 137 p (tL 137 p (.istore_n 3) 0) (tL 136 p (.iconst 0) 0)))) (tB 126 p (tB 131 p (tB 132 p (tB 133 p (tL 133 p (.putfield 62) 17) (tL 132 p (.iconst 0) 0)) (tL 131 p (.aload_n 0) 0)) (tB 127 p (tB 128 p (tL 128 p (.putfield 59) 16) (tL 127 p (.iconst 0) 0)) (tL 126 p (.aload_n 0) 0))) (tB 121 p (tB 122 p (tB 123 p (tL 123 p (.putfield 56) 15) (tL 122 p (.iload_n 2) 0)) (tL 121 p (.aload_n 0) 0)) (tB 120 p (tL 120 p (.istore_n 2) 0) (tL 119 p (.iconst 4) 0))))) (tB 102 p (tB 109 p (tB 114 p (tB 115 p (tB 116 p (tL 116 p (.if_icmp .le 5) 121) (tL 115 p (.iconst 4) 0)) (tL 114 p (.iload_n 2) 0)) (tB 112 p (tB 113 p (tL 113 p (.istore_n 2) 0) (tL 112 p (.iconst 1) 0)) (tL 109 p (.if_icmp .ge 5) 114))) (tB 106 p (tB 107 p (tB 108 p (tL 108 p (.iconst 1) 0) (tL 107 p (.iload_n 2) 0)) (tL 106 p (.istore_n 2) 0)) (tB 105 p (tL 105 p (.iload_n 1) 0) (tL 102 p (.putfield 53) 14)))) (tB 90 p (tB 97 p (tB 98 p (tB 100 p (tL 100 p (.newarray .int) 0) (tL 98 p (.bipush 16) 0)) (tL 97 p (.aload_n 0) 0)) (tB 92 p (tB 94 p (tL 94 p (.putfield 50) 13) (tL 92 p (.newarray .int) 0)) (tL 90 p (.bipush 16) 0))) (tB 84 p (tB 86 p (tB 89 p (tL 89 p (.aload_n 0) 0) (tL 86 p (.putfield 47) 12)) (tL 84 p (.newarray .int) 0)) (tB 82 p (tL 82 p (.bipush 16) 0) (tL 81 p (.aload_n 0) 0)))))) (tB 37 p (tB 57 p (tB 67 p (tB 73 p (tB 76 p (tB 78 p (tL 78 p (.putfield 44) 11) (tL 76 p (.newarray .int) 0)) (tL 73 p (.sipush 512) 0)) (tB 69 p (tB 72 p (tL 72 p (.aload_n 0) 0) (tL 69 p (.putfield 41) 10)) (tL 67 p (.newarray .int) 0))) (tB 60 p (tB 63 p (tB 64 p (tL 64 p (.sipush 512) 0) (tL 63 p (.aload_n 0) 0)) (tL 60 p (.putfield 38) 9)) (tB 58 p (tL 58 p (.newarray .int) 0) (tL 57 p (.iconst 4) 0)))) (tB 46 p (tB 51 p (tB 53 p (tB 56 p (tL 56 p (.aload_n 0) 0) (tL 53 p (.putfield 35) 8)) (tL 51 p (.newarray .int) 0)) (tB 49 p (tB 50 p (tL 50 p (.iconst 4) 0) (tL 49 p (.aload_n 0) 0)) (tL 46 p (.putfield 32) 7))) (tB 42 p (tB 43 p (tB 44 p (tL 44 p (.newarray .int) 0) (tL 43 p (.iconst 4) 0)) (tL 42 p (.aload_n 0) 0)) (tB 39 p (tL 39 p (.putfield 28) 6) (tL 37 p (.newarray .int) 0))))) (tB 19 p (tB 26 p (tB 32 p (tB 35 p (tB 36 p (tL 36 p (.iconst 4) 0) (tL 35 p (.aload_n 0) 0)) (tL 32 p (.putfield 25) 5)) (tB 29 p (tB 30 p (tL 30 p (.bipush 32) 0) (tL 29 p (.aload_n 0) 0)) (tL 26 p (.putfield 22) 4))) (tB 21 p (tB 24 p (tB 25 p (tL 25 p (.iconst 4) 0) (tL 24 p (.aload_n 0) 0)) (tL 21 p (.putfield 19) 3)) (tB 20 p (tL 20 p (.iconst 3) 0) (tL 19 p (.aload_n 0) 0)))) (tB 9 p (tB 14 p (tB 15 p (tB 16 p (tL 16 p (.putfield 16) 2) (tL 15 p (.iconst 2) 0)) (tL 14 p (.aload_n 0) 0)) (tB 10 p (tB 11 p (tL 11 p (.putfield 13) 1) (tL 10 p (.iconst 1) 0)) (tL 9 p (.aload_n 0) 0))) (tB 4 p (tB 5 p (tB 6 p (tL 6 p (.putfield 7) 0) (tL 5 p (.iconst 0) 0)) (tL 4 p (.aload_n 0) 0)) (tB 1 p (tL 1 p (.invokespecial 1) 0) (tL 0 p (.aload_n 0) 0)))))))
set_option maxHeartbeats 4000000 in
def cd2 (p : Nat) : Option (Instr × Nat) := (tB 22 p (tB 31 p (tB 36 p (tB 38 p (tB 41 p (tL 41 p .return_ 0) (tL 38 p (.invokevirtual 104) 7)) (tB 37 p (tL 37 p (.iconst 1) 0) (tL 36 p (.iload_n 1) 0))) (tB 32 p (tB 35 p (tL 35 p (.aload_n 0) 0) (tL 32 p (.invokevirtual 101) 6)) (tL 31 p (.iconst 1) 0))) (tB 25 p (tB 29 p (tB 30 p (tL 30 p (.iload_n 1) 0) (tL 29 p (.aload_n 0) 0)) (tB 26 p (tL 26 p (.invokevirtual 98) 3) (tL 25 p (.iconst 1) 0))) (tB 23 p (tB 24 p (tL 24 p (.aload_n 0) 0) (tL 23 p .iastore 0)) (tL 22 p (.iconst 0) 0)))) (tB 11 p (tB 16 p (tB 18 p (tB 21 p (tL 21 p (.iload_n 1) 0) (tL 18 p (.getfield 38) 9)) (tB 17 p (tL 17 p (.aload_n 0) 0) (tL 16 p .iastore 0))) (tB 14 p (tB 15 p (tL 15 p (.iconst 0) 0) (tL 14 p (.iload_n 1) 0)) (tL 11 p (.getfield 35) 8))) (tB 5 p (tB 9 p (tB 10 p (tL 10 p (.aload_n 0) 0) (tL 9 p .return_ 0)) (tB 6 p (tL 6 p (.if_icmp .lt 4) 10) (tL 5 p (.iconst 4) 0))) (tB 1 p (tB 4 p (tL 4 p (.iload_n 1) 0) (tL 1 p (.ifCond .lt 8) 9)) (tL 0 p (.iload_n 1) 0)))))
set_option maxHeartbeats 4000000 in
def cd3 (p : Nat) : Option (Instr × Nat) := (tB 4 p (tB 6 p (tB 9 p (tL 9 p .return_ 0) (tL 6 p (.invokevirtual 69) 4)) (tB 5 p (tL 5 p (.iconst 1) 0) (tL 4 p (.iconst 0) 0))) (tB 2 p (tB 3 p (tL 3 p (.iconst 0) 0) (tL 2 p (.iconst 1) 0)) (tB 1 p (tL 1 p (.iload_n 1) 0) (tL 0 p (.aload_n 0) 0))))
set_option maxHeartbeats 4000000 in
def cd4 (p : Nat) : Option (Instr × Nat) := (tB 29 p (tB 42 p (tB 49 p (tB 51 p (tB 53 p (tB 54 p (tL 54 p .return_ 0) (tL 53 p .iastore 0)) (tL 51 p (.iload 5) 0)) (tB 50 p (tL 50 p .iadd 0) (tL 49 p (.iconst 3) 0))) (tB 44 p (tB 47 p (tL 47 p (.iload 6) 0) (tL 44 p (.getfield 53) 14)) (tB 43 p (tL 43 p (.aload_n 0) 0) (tL 42 p .iastore 0)))) (tB 33 p (tB 38 p (tB 39 p (tB 40 p (tL 40 p (.iload 4) 0) (tL 39 p .iadd 0)) (tL 38 p (.iconst 2) 0)) (tB 36 p (tL 36 p (.iload 6) 0) (tL 33 p (.getfield 53) 14))) (tB 31 p (tB 32 p (tL 32 p (.aload_n 0) 0) (tL 31 p .iastore 0)) (tB 30 p (tL 30 p (.iload_n 3) 0) (tL 29 p .iadd 0))))) (tB 14 p (tB 21 p (tB 23 p (tB 26 p (tB 28 p (tL 28 p (.iconst 1) 0) (tL 26 p (.iload 6) 0)) (tL 23 p (.getfield 53) 14)) (tB 22 p (tL 22 p (.aload_n 0) 0) (tL 21 p .iastore 0))) (tB 18 p (tB 20 p (tL 20 p (.iload_n 2) 0) (tL 18 p (.iload 6) 0)) (tB 15 p (tL 15 p (.getfield 53) 14) (tL 14 p (.aload_n 0) 0)))) (tB 8 p (tB 10 p (tB 11 p (tB 12 p (tL 12 p (.istore 6) 0) (tL 11 p .imul 0)) (tL 10 p (.iconst 4) 0)) (tB 9 p (tL 9 p (.iload_n 1) 0) (tL 8 p .return_ 0))) (tB 2 p (tB 5 p (tL 5 p (.ifCond .ne 4) 9) (tL 2 p (.invokevirtual 136) 5)) (tB 1 p (tL 1 p (.iload_n 1) 0) (tL 0 p (.aload_n 0) 0))))))
set_option maxHeartbeats 4000000 in
def cd5 (p : Nat) : Option (Instr × Nat) := (tB 6 p (tB 10 p (tB 13 p (tB 14 p (tL 14 p .ireturn 0) (tL 13 p (.iconst 0) 0)) (tL 10 p (.goto 4) 14)) (tB 9 p (tL 9 p (.iconst 1) 0) (tL 6 p (.if_icmp .ge 7) 13))) (tB 4 p (tB 5 p (tL 5 p (.iconst 4) 0) (tL 4 p (.iload_n 1) 0)) (tB 1 p (tL 1 p (.ifCond .lt 12) 13) (tL 0 p (.iload_n 1) 0))))
set_option maxHeartbeats 4000000 in
def cd6 (p : Nat) : Option (Instr × Nat) := (tB 28 p (tB 42 p (tB 49 p (tB 51 p (tB 54 p (tB 57 p (tL 57 p .return_ 0) (tL 54 p (.goto (-29)) 25)) (tL 51 p (.iinc 4 1) 0)) (tB 50 p (tL 50 p .iastore 0) (tL 49 p .iaload 0))) (tB 46 p (tB 48 p (tL 48 p .iadd 0) (tL 46 p (.iload 4) 0)) (tB 45 p (tL 45 p (.iload_n 3) 0) (tL 42 p (.getfield 53) 14)))) (tB 36 p (tB 38 p (tB 40 p (tB 41 p (tL 41 p (.aload_n 0) 0) (tL 40 p .iadd 0)) (tL 38 p (.iload 4) 0)) (tB 37 p (tL 37 p .imul 0) (tL 36 p (.iconst 4) 0))) (tB 32 p (tB 35 p (tL 35 p (.iload_n 1) 0) (tL 32 p (.getfield 47) 12)) (tB 31 p (tL 31 p (.aload_n 0) 0) (tL 28 p (.if_icmp .ge 29) 57))))) (tB 17 p (tB 21 p (tB 23 p (tB 25 p (tB 27 p (tL 27 p (.iconst 4) 0) (tL 25 p (.iload 4) 0)) (tL 23 p (.istore 4) 0)) (tB 22 p (tL 22 p (.iconst 0) 0) (tL 21 p (.istore_n 3) 0))) (tB 19 p (tB 20 p (tL 20 p .imul 0) (tL 19 p (.iconst 4) 0)) (tB 18 p (tL 18 p (.iload_n 2) 0) (tL 17 p .return_ 0)))) (tB 8 p (tB 12 p (tB 13 p (tB 14 p (tL 14 p (.if_icmp .lt 4) 18) (tL 13 p (.iconst 4) 0)) (tL 12 p (.iload_n 1) 0)) (tB 9 p (tL 9 p (.ifCond .lt 8) 17) (tL 8 p (.iload_n 1) 0))) (tB 2 p (tB 5 p (tL 5 p (.ifCond .eq 12) 17) (tL 2 p (.invokevirtual 136) 5)) (tB 1 p (tL 1 p (.iload_n 2) 0) (tL 0 p (.aload_n 0) 0))))))
set_option maxHeartbeats 4000000 in
def cd7 (p : Nat) : Option (Instr × Nat) := (tB 28 p (tB 42 p (tB 49 p (tB 51 p (tB 54 p (tB 57 p (tL 57 p .return_ 0) (tL 54 p (.goto (-29)) 25)) (tL 51 p (.iinc 4 1) 0)) (tB 50 p (tL 50 p .iastore 0) (tL 49 p .iaload 0))) (tB 46 p (tB 48 p (tL 48 p .iadd 0) (tL 46 p (.iload 4) 0)) (tB 45 p (tL 45 p (.iload_n 3) 0) (tL 42 p (.getfield 53) 14)))) (tB 36 p (tB 38 p (tB 40 p (tB 41 p (tL 41 p (.aload_n 0) 0) (tL 40 p .iadd 0)) (tL 38 p (.iload 4) 0)) (tB 37 p (tL 37 p .imul 0) (tL 36 p (.iconst 4) 0))) (tB 32 p (tB 35 p (tL 35 p (.iload_n 1) 0) (tL 32 p (.getfield 50) 13)) (tB 31 p (tL 31 p (.aload_n 0) 0) (tL 28 p (.if_icmp .ge 29) 57))))) (tB 17 p (tB 21 p (tB 23 p (tB 25 p (tB 27 p (tL 27 p (.iconst 4) 0) (tL 25 p (.iload 4) 0)) (tL 23 p (.istore 4) 0)) (tB 22 p (tL 22 p (.iconst 0) 0) (tL 21 p (.istore_n 3) 0))) (tB 19 p (tB 20 p (tL 20 p .imul 0) (tL 19 p (.iconst 4) 0)) (tB 18 p (tL 18 p (.iload_n 2) 0) (tL 17 p .return_ 0)))) (tB 8 p (tB 12 p (tB 13 p (tB 14 p (tL 14 p (.if_icmp .lt 4) 18) (tL 13 p (.iconst 4) 0)) (tL 12 p (.iload_n 1) 0)) (tB 9 p (tL 9 p (.ifCond .lt 8) 17) (tL 8 p (.iload_n 1) 0))) (tB 2 p (tB 5 p (tL 5 p (.ifCond .eq 12) 17) (tL 2 p (.invokevirtual 136) 5)) (tB 1 p (tL 1 p (.iload_n 2) 0) (tL 0 p (.aload_n 0) 0))))))
set_option maxHeartbeats 4000000 in
def cd8 (p : Nat) : Option (Instr × Nat) := (tB 46 p (tB 65 p (tB 73 p (tB 78 p (tB 82 p (tB 83 p (tL 83 p .ireturn 0) (tL 82 p (.iload_n 3) 0)) (tB 79 p (tL 79 p (.putfield 59) 16) (tL 78 p .iadd 0))) (tB 74 p (tB 77 p (tL 77 p (.iconst 1) 0) (tL 74 p (.getfield 59) 16)) (tL 73 p (.aload_n 0) 0))) (tB 68 p (tB 69 p (tB 72 p (tL 72 p (.aload_n 0) 0) (tL 69 p (.invokevirtual 65) 2)) (tL 68 p (.iload_n 3) 0)) (tB 66 p (tB 67 p (tL 67 p (.aload_n 0) 0) (tL 66 p .iastore 0)) (tL 65 p (.iload_n 2) 0)))) (tB 54 p (tB 59 p (tB 61 p (tB 64 p (tL 64 p (.iload_n 3) 0) (tL 61 p (.getfield 32) 7)) (tB 60 p (tL 60 p (.aload_n 0) 0) (tL 59 p .iastore 0))) (tB 57 p (tB 58 p (tL 58 p (.iload_n 1) 0) (tL 57 p (.iload_n 3) 0)) (tL 54 p (.getfield 28) 6))) (tB 49 p (tB 52 p (tB 53 p (tL 53 p (.aload_n 0) 0) (tL 52 p (.istore_n 3) 0)) (tL 49 p (.getfield 59) 16)) (tB 47 p (tB 48 p (tL 48 p (.aload_n 0) 0) (tL 47 p .ireturn 0)) (tL 46 p (.iconst (-1)) 0))))) (tB 23 p (tB 34 p (tB 37 p (tB 41 p (tB 43 p (tL 43 p (.if_icmp .le 5) 48) (tL 41 p (.bipush 32) 0)) (tB 40 p (tL 40 p (.iload_n 2) 0) (tL 37 p (.if_icmp .lt 9) 46))) (tB 35 p (tB 36 p (tL 36 p (.iconst 1) 0) (tL 35 p (.iload_n 2) 0)) (tL 34 p .ireturn 0))) (tB 28 p (tB 30 p (tB 33 p (tL 33 p (.iconst (-1)) 0) (tL 30 p (.if_icmp .le 5) 35)) (tL 28 p (.bipush 32) 0)) (tB 24 p (tB 27 p (tL 27 p (.iload_n 1) 0) (tL 24 p (.if_icmp .lt 9) 33)) (tL 23 p (.iconst 1) 0)))) (tB 10 p (tB 17 p (tB 21 p (tB 22 p (tL 22 p (.iload_n 1) 0) (tL 21 p .ireturn 0)) (tB 20 p (tL 20 p (.iconst (-1)) 0) (tL 17 p (.if_icmp .lt 5) 22))) (tB 13 p (tB 14 p (tL 14 p (.getfield 56) 15) (tL 13 p (.aload_n 0) 0)) (tL 10 p (.getfield 59) 16))) (tB 7 p (tB 8 p (tB 9 p (tL 9 p (.aload_n 0) 0) (tL 8 p .ireturn 0)) (tL 7 p (.iconst (-1)) 0)) (tB 1 p (tB 4 p (tL 4 p (.ifCond .eq 5) 9) (tL 1 p (.getfield 62) 17)) (tL 0 p (.aload_n 0) 0))))))
set_option maxHeartbeats 4000000 in
def cd9 (p : Nat) : Option (Instr × Nat) := (tB 36 p (tB 57 p (tB 69 p (tB 78 p (tB 81 p (tB 83 p (tL 83 p .ireturn 0) (tL 81 p (.iload 5) 0)) (tL 78 p (.goto (-52)) 26)) (tB 72 p (tB 75 p (tL 75 p (.iinc 6 1) 0) (tL 72 p (.iinc 5 1) 0)) (tL 69 p (.invokevirtual 76) 16))) (tB 63 p (tB 66 p (tB 67 p (tL 67 p (.iload 6) 0) (tL 66 p (.aload_n 0) 0)) (tL 63 p (.ifCond .ne 12) 75)) (tB 60 p (tB 62 p (tL 62 p .irem 0) (tL 60 p (.iload 7) 0)) (tL 57 p (.getfield 62) 17)))) (tB 47 p (tB 52 p (tB 53 p (tB 56 p (tL 56 p (.aload_n 0) 0) (tL 53 p (.if_icmp .lt 22) 75)) (tL 52 p (.iconst 1) 0)) (tB 48 p (tB 50 p (tL 50 p (.iload 7) 0) (tL 48 p (.istore 7) 0)) (tL 47 p .iaload 0))) (tB 41 p (tB 42 p (tB 45 p (tL 45 p (.iload 6) 0) (tL 42 p (.getfield 32) 7)) (tL 41 p (.aload_n 0) 0)) (tB 38 p (tL 38 p (.invokevirtual 73) 10) (tL 36 p (.iload 6) 0))))) (tB 15 p (tB 24 p (tB 29 p (tB 32 p (tB 35 p (tL 35 p (.aload_n 0) 0) (tL 32 p (.if_icmp .ge 49) 81)) (tL 29 p (.getfield 59) 16)) (tB 26 p (tB 28 p (tL 28 p (.aload_n 0) 0) (tL 26 p (.iload 6) 0)) (tL 24 p (.istore 6) 0))) (tB 20 p (tB 21 p (tB 23 p (tL 23 p (.iconst 0) 0) (tL 21 p (.istore 5) 0)) (tL 20 p (.iconst 0) 0)) (tB 17 p (tL 17 p (.invokevirtual 69) 4) (tL 15 p (.iload 4) 0)))) (tB 7 p (tB 12 p (tB 13 p (tB 14 p (tL 14 p (.iload_n 3) 0) (tL 13 p (.iload_n 2) 0)) (tL 12 p (.iload_n 1) 0)) (tB 10 p (tB 11 p (tL 11 p (.iconst 0) 0) (tL 10 p (.aload_n 0) 0)) (tL 7 p (.putfield 62) 17))) (tB 2 p (tB 5 p (tB 6 p (tL 6 p .iadd 0) (tL 5 p (.iconst 1) 0)) (tL 2 p (.getfield 62) 17)) (tB 1 p (tL 1 p (.aload_n 0) 0) (tL 0 p (.aload_n 0) 0))))))
set_option maxHeartbeats 4000000 in
def cd10 (p : Nat) : Option (Instr × Nat) := (tB 47 p (tB 70 p (tB 82 p (tB 88 p (tB 90 p (tB 91 p (tL 91 p .return_ 0) (tL 90 p .iastore 0)) (tB 89 p (tL 89 p .iadd 0) (tL 88 p (.iconst 1) 0))) (tB 86 p (tB 87 p (tL 87 p (.iload_n 3) 0) (tL 86 p (.iload_n 1) 0)) (tB 83 p (tL 83 p (.getfield 38) 9) (tL 82 p (.aload_n 0) 0)))) (tB 76 p (tB 78 p (tB 79 p (tL 79 p (.invokevirtual 101) 6) (tL 78 p (.iconst 1) 0)) (tB 77 p (tL 77 p (.iload_n 1) 0) (tL 76 p (.aload_n 0) 0))) (tB 72 p (tB 73 p (tL 73 p (.invokevirtual 121) 15) (tL 72 p (.iconst 0) 0)) (tB 71 p (tL 71 p (.iconst 1) 0) (tL 70 p (.iconst 1) 0))))) (tB 58 p (tB 64 p (tB 66 p (tB 69 p (tL 69 p (.aload_n 0) 0) (tL 66 p (.invokevirtual 118) 14)) (tB 65 p (tL 65 p (.iload_n 1) 0) (tL 64 p (.iconst 1) 0))) (tB 60 p (tB 63 p (tL 63 p (.aload_n 0) 0) (tL 60 p (.invokevirtual 114) 12)) (tB 59 p (tL 59 p (.iconst 0) 0) (tL 58 p (.iload_n 3) 0)))) (tB 52 p (tB 56 p (tB 57 p (tL 57 p (.iload_n 1) 0) (tL 56 p (.aload_n 0) 0)) (tB 55 p (tL 55 p .return_ 0) (tL 52 p (.ifCond .ne 4) 56))) (tB 48 p (tB 49 p (tL 49 p (.invokevirtual 110) 11) (tL 48 p (.iload_n 3) 0)) (tL 47 p (.iload_n 1) 0))))) (tB 23 p (tB 35 p (tB 43 p (tB 45 p (tB 46 p (tL 46 p (.aload_n 0) 0) (tL 45 p (.istore_n 3) 0)) (tB 44 p (tL 44 p .iaload 0) (tL 43 p (.iload_n 1) 0))) (tB 39 p (tB 40 p (tL 40 p (.getfield 38) 9) (tL 39 p (.aload_n 0) 0)) (tB 36 p (tL 36 p (.invokevirtual 107) 18) (tL 35 p (.iload_n 1) 0)))) (tB 29 p (tB 31 p (tB 34 p (tL 34 p (.aload_n 0) 0) (tL 31 p (.if_icmp .lt 8) 39)) (tB 30 p (tL 30 p .iaload 0) (tL 29 p (.iload_n 1) 0))) (tB 25 p (tB 26 p (tL 26 p (.getfield 28) 6) (tL 25 p (.aload_n 0) 0)) (tB 24 p (tL 24 p (.iload_n 2) 0) (tL 23 p (.istore_n 2) 0))))) (tB 11 p (tB 17 p (tB 21 p (tB 22 p (tL 22 p .iadd 0) (tL 21 p .iaload 0)) (tB 20 p (tL 20 p (.iload_n 1) 0) (tL 17 p (.getfield 38) 9))) (tB 15 p (tB 16 p (tL 16 p (.aload_n 0) 0) (tL 15 p .iaload 0)) (tB 14 p (tL 14 p (.iload_n 1) 0) (tL 11 p (.getfield 35) 8)))) (tB 5 p (tB 9 p (tB 10 p (tL 10 p (.aload_n 0) 0) (tL 9 p .return_ 0)) (tB 6 p (tL 6 p (.if_icmp .lt 4) 10) (tL 5 p (.iconst 4) 0))) (tB 1 p (tB 4 p (tL 4 p (.iload_n 1) 0) (tL 1 p (.ifCond .lt 8) 9)) (tL 0 p (.iload_n 1) 0))))))
set_option maxHeartbeats 4000000 in
def cd11 (p : Nat) : Option (Instr × Nat) := (tB 13 p (tB 19 p (tB 23 p (tB 24 p (tL 24 p .ireturn 0) (tL 23 p (.iconst 0) 0)) (tB 20 p (tL 20 p (.goto 4) 24) (tL 19 p (.iconst 1) 0))) (tB 14 p (tB 16 p (tL 16 p (.if_icmp .ge 7) 23) (tL 14 p (.bipush 32) 0)) (tL 13 p (.iload_n 2) 0))) (tB 5 p (tB 9 p (tB 10 p (tL 10 p (.ifCond .lt 13) 23) (tL 9 p (.iload_n 2) 0)) (tB 6 p (tL 6 p (.if_icmp .ge 17) 23) (tL 5 p (.iconst 4) 0))) (tB 1 p (tB 4 p (tL 4 p (.iload_n 1) 0) (tL 1 p (.ifCond .lt 22) 23)) (tL 0 p (.iload_n 1) 0))))
set_option maxHeartbeats 4000000 in
def cd12 (p : Nat) : Option (Instr × Nat) := (tB 31 p (tB 49 p (tB 58 p (tB 60 p (tB 63 p (tB 66 p (tL 66 p .return_ 0) (tL 63 p (.goto (-29)) 34)) (tL 60 p (.iinc 6 1) 0)) (tB 59 p (tL 59 p .iastore 0) (tL 58 p .iaload 0))) (tB 53 p (tB 55 p (tB 57 p (tL 57 p .iadd 0) (tL 55 p (.iload 6) 0)) (tL 53 p (.iload 5) 0)) (tB 50 p (tL 50 p (.getfield 53) 14) (tL 49 p (.aload_n 0) 0)))) (tB 40 p (tB 44 p (tB 46 p (tB 48 p (tL 48 p .iadd 0) (tL 46 p (.iload 6) 0)) (tL 44 p (.iload 4) 0)) (tB 41 p (tL 41 p (.getfield 41) 10) (tL 40 p (.aload_n 0) 0))) (tB 34 p (tB 36 p (tB 37 p (tL 37 p (.if_icmp .ge 29) 66) (tL 36 p (.iconst 4) 0)) (tL 34 p (.iload 6) 0)) (tB 32 p (tL 32 p (.istore 6) 0) (tL 31 p (.iconst 0) 0))))) (tB 17 p (tB 24 p (tB 27 p (tB 28 p (tB 29 p (tL 29 p (.istore 5) 0) (tL 28 p .imul 0)) (tL 27 p (.iconst 4) 0)) (tB 26 p (tL 26 p (.iload_n 3) 0) (tL 24 p (.istore 4) 0))) (tB 19 p (tB 20 p (tB 21 p (tL 21 p (.invokevirtual 139) 13) (tL 20 p (.iload_n 2) 0)) (tL 19 p (.iload_n 1) 0)) (tB 18 p (tL 18 p (.aload_n 0) 0) (tL 17 p .return_ 0)))) (tB 8 p (tB 10 p (tB 11 p (tB 14 p (tL 14 p (.ifCond .ne 4) 18) (tL 11 p (.invokevirtual 110) 11)) (tL 10 p (.iload_n 2) 0)) (tB 9 p (tL 9 p (.iload_n 1) 0) (tL 8 p (.aload_n 0) 0))) (tB 2 p (tB 5 p (tL 5 p (.ifCond .eq 12) 17) (tL 2 p (.invokevirtual 136) 5)) (tB 1 p (tL 1 p (.iload_n 3) 0) (tL 0 p (.aload_n 0) 0))))))
set_option maxHeartbeats 4000000 in
def cd13 (p : Nat) : Option (Instr × Nat) := (tB 5 p (tB 7 p (tB 8 p (tL 8 p .ireturn 0) (tL 7 p .imul 0)) (tB 6 p (tL 6 p (.iconst 4) 0) (tL 5 p .iadd 0))) (tB 3 p (tB 4 p (tL 4 p (.iload_n 2) 0) (tL 3 p .imul 0)) (tB 1 p (tL 1 p (.bipush 32) 0) (tL 0 p (.iload_n 1) 0))))
set_option maxHeartbeats 4000000 in
def cd14 (p : Nat) : Option (Instr × Nat) := (tB 28 p (tB 44 p (tB 49 p (tB 51 p (tB 54 p (tB 57 p (tL 57 p .return_ 0) (tL 54 p (.goto (-29)) 25)) (tL 51 p (.iinc 4 1) 0)) (tB 50 p (tL 50 p .iastore 0) (tL 49 p .iaload 0))) (tB 46 p (tB 48 p (tL 48 p .iadd 0) (tL 46 p (.iload 4) 0)) (tB 45 p (tL 45 p .imul 0) (tL 44 p (.iconst 4) 0)))) (tB 36 p (tB 39 p (tB 40 p (tB 43 p (tL 43 p (.iload_n 2) 0) (tL 40 p (.getfield 47) 12)) (tL 39 p (.aload_n 0) 0)) (tB 38 p (tL 38 p .iadd 0) (tL 36 p (.iload 4) 0))) (tB 32 p (tB 35 p (tL 35 p (.iload_n 3) 0) (tL 32 p (.getfield 53) 14)) (tB 31 p (tL 31 p (.aload_n 0) 0) (tL 28 p (.if_icmp .ge 29) 57))))) (tB 17 p (tB 21 p (tB 23 p (tB 25 p (tB 27 p (tL 27 p (.iconst 4) 0) (tL 25 p (.iload 4) 0)) (tL 23 p (.istore 4) 0)) (tB 22 p (tL 22 p (.iconst 0) 0) (tL 21 p (.istore_n 3) 0))) (tB 19 p (tB 20 p (tL 20 p .imul 0) (tL 19 p (.iconst 4) 0)) (tB 18 p (tL 18 p (.iload_n 1) 0) (tL 17 p .return_ 0)))) (tB 8 p (tB 12 p (tB 13 p (tB 14 p (tL 14 p (.if_icmp .lt 4) 18) (tL 13 p (.iconst 4) 0)) (tL 12 p (.iload_n 2) 0)) (tB 9 p (tL 9 p (.ifCond .lt 8) 17) (tL 8 p (.iload_n 2) 0))) (tB 2 p (tB 5 p (tL 5 p (.ifCond .eq 12) 17) (tL 2 p (.invokevirtual 136) 5)) (tB 1 p (tL 1 p (.iload_n 1) 0) (tL 0 p (.aload_n 0) 0))))))
set_option maxHeartbeats 4000000 in
def cd15 (p : Nat) : Option (Instr × Nat) := (tB 105 p (tB 155 p (tB 180 p (tB 192 p (tB 199 p (tB 201 p (tB 202 p (tL 202 p .return_ 0) (tL 201 p .iastore 0)) (tB 200 p (tL 200 p .iadd 0) (tL 199 p .imul 0))) (tB 195 p (tB 197 p (tL 197 p (.iload 13) 0) (tL 195 p (.iload 9) 0)) (tB 194 p (tL 194 p .imul 0) (tL 192 p (.iload 11) 0)))) (tB 186 p (tB 189 p (tB 190 p (tL 190 p (.iload 8) 0) (tL 189 p .iadd 0)) (tB 188 p (tL 188 p (.iconst 3) 0) (tL 186 p (.iload 14) 0))) (tB 182 p (tB 183 p (tL 183 p (.getfield 53) 14) (tL 182 p (.aload_n 0) 0)) (tB 181 p (tL 181 p .iastore 0) (tL 180 p .iadd 0))))) (tB 168 p (tB 174 p (tB 177 p (tB 179 p (tL 179 p .imul 0) (tL 177 p (.iload 12) 0)) (tB 175 p (tL 175 p (.iload 9) 0) (tL 174 p .imul 0))) (tB 170 p (tB 172 p (tL 172 p (.iload 10) 0) (tL 170 p (.iload 8) 0)) (tB 169 p (tL 169 p .iadd 0) (tL 168 p (.iconst 2) 0)))) (tB 161 p (tB 163 p (tB 166 p (tL 166 p (.iload 14) 0) (tL 163 p (.getfield 53) 14)) (tB 162 p (tL 162 p (.aload_n 0) 0) (tL 161 p .iastore 0))) (tB 159 p (tB 160 p (tL 160 p .iadd 0) (tL 159 p .imul 0)) (tB 157 p (tL 157 p (.iload 13) 0) (tL 155 p (.iload 7) 0)))))) (tB 130 p (tB 142 p (tB 149 p (tB 152 p (tB 154 p (tL 154 p .imul 0) (tL 152 p (.iload 11) 0)) (tB 150 p (tL 150 p (.iload 6) 0) (tL 149 p .iadd 0))) (tB 146 p (tB 148 p (tL 148 p (.iconst 1) 0) (tL 146 p (.iload 14) 0)) (tB 143 p (tL 143 p (.getfield 53) 14) (tL 142 p (.aload_n 0) 0)))) (tB 137 p (tB 140 p (tB 141 p (tL 141 p .iastore 0) (tL 140 p .iadd 0)) (tB 139 p (tL 139 p .imul 0) (tL 137 p (.iload 12) 0))) (tB 134 p (tB 135 p (tL 135 p (.iload 7) 0) (tL 134 p .imul 0)) (tB 132 p (tL 132 p (.iload 10) 0) (tL 130 p (.iload 6) 0))))) (tB 117 p (tB 122 p (tB 125 p (tB 128 p (tL 128 p (.iload 14) 0) (tL 125 p (.getfield 53) 14)) (tB 124 p (tL 124 p (.aload_n 0) 0) (tL 122 p (.istore 14) 0))) (tB 120 p (tB 121 p (tL 121 p .imul 0) (tL 120 p (.iconst 4) 0)) (tB 119 p (tL 119 p (.iload_n 1) 0) (tL 117 p (.istore 13) 0)))) (tB 112 p (tB 115 p (tB 116 p (tL 116 p .iaload 0) (tL 115 p .iadd 0)) (tB 114 p (tL 114 p (.iconst 3) 0) (tL 112 p (.iload 5) 0))) (tB 108 p (tB 109 p (tL 109 p (.getfield 53) 14) (tL 108 p (.aload_n 0) 0)) (tB 106 p (tL 106 p (.istore 12) 0) (tL 105 p .iaload 0))))))) (tB 53 p (tB 78 p (tB 93 p (tB 98 p (tB 103 p (tB 104 p (tL 104 p .iadd 0) (tL 103 p (.iconst 2) 0)) (tB 101 p (tL 101 p (.iload 5) 0) (tL 98 p (.getfield 53) 14))) (tB 95 p (tB 97 p (tL 97 p (.aload_n 0) 0) (tL 95 p (.istore 11) 0)) (tB 94 p (tL 94 p .iaload 0) (tL 93 p .iadd 0)))) (tB 86 p (tB 90 p (tB 92 p (tL 92 p (.iconst 1) 0) (tL 90 p (.iload 5) 0)) (tB 87 p (tL 87 p (.getfield 53) 14) (tL 86 p (.aload_n 0) 0))) (tB 83 p (tB 84 p (tL 84 p (.istore 10) 0) (tL 83 p .iaload 0)) (tB 81 p (tL 81 p (.iload 5) 0) (tL 78 p (.getfield 53) 14))))) (tB 66 p (tB 73 p (tB 75 p (tB 77 p (tL 77 p (.aload_n 0) 0) (tL 75 p (.istore 9) 0)) (tB 74 p (tL 74 p .iaload 0) (tL 73 p .iadd 0))) (tB 70 p (tB 72 p (tL 72 p (.iconst 3) 0) (tL 70 p (.iload 4) 0)) (tB 67 p (tL 67 p (.getfield 53) 14) (tL 66 p (.aload_n 0) 0)))) (tB 61 p (tB 63 p (tB 64 p (tL 64 p (.istore 8) 0) (tL 63 p .iaload 0)) (tB 62 p (tL 62 p .iadd 0) (tL 61 p (.iconst 2) 0))) (tB 56 p (tB 59 p (tL 59 p (.iload 4) 0) (tL 56 p (.getfield 53) 14)) (tB 55 p (tL 55 p (.aload_n 0) 0) (tL 53 p (.istore 7) 0)))))) (tB 28 p (tB 41 p (tB 48 p (tB 51 p (tB 52 p (tL 52 p .iaload 0) (tL 51 p .iadd 0)) (tB 50 p (tL 50 p (.iconst 1) 0) (tL 48 p (.iload 4) 0))) (tB 44 p (tB 45 p (tL 45 p (.getfield 53) 14) (tL 44 p (.aload_n 0) 0)) (tB 42 p (tL 42 p (.istore 6) 0) (tL 41 p .iaload 0)))) (tB 33 p (tB 36 p (tB 39 p (tL 39 p (.iload 4) 0) (tL 36 p (.getfield 53) 14)) (tB 35 p (tL 35 p (.aload_n 0) 0) (tL 33 p (.istore 5) 0))) (tB 31 p (tB 32 p (tL 32 p .imul 0) (tL 31 p (.iconst 4) 0)) (tB 30 p (tL 30 p (.iload_n 3) 0) (tL 28 p (.istore 4) 0))))) (tB 16 p (tB 24 p (tB 26 p (tB 27 p (tL 27 p .imul 0) (tL 26 p (.iconst 4) 0)) (tB 25 p (tL 25 p (.iload_n 2) 0) (tL 24 p .return_ 0))) (tB 18 p (tB 21 p (tL 21 p (.ifCond .ne 4) 25) (tL 18 p (.invokevirtual 136) 5)) (tB 17 p (tL 17 p (.iload_n 3) 0) (tL 16 p (.aload_n 0) 0)))) (tB 8 p (tB 10 p (tB 13 p (tL 13 p (.ifCond .eq 11) 24) (tL 10 p (.invokevirtual 136) 5)) (tB 9 p (tL 9 p (.iload_n 2) 0) (tL 8 p (.aload_n 0) 0))) (tB 2 p (tB 5 p (tL 5 p (.ifCond .eq 19) 24) (tL 2 p (.invokevirtual 136) 5)) (tB 1 p (tL 1 p (.iload_n 1) 0) (tL 0 p (.aload_n 0) 0))))))))
set_option maxHeartbeats 4000000 in
def cd16 (p : Nat) : Option (Instr × Nat) := (tB 6 p (tB 8 p (tB 9 p (tB 12 p (tL 12 p .return_ 0) (tL 9 p (.invokevirtual 104) 7)) (tL 8 p (.iconst 3) 0)) (tB 7 p (tL 7 p (.iload_n 1) 0) (tL 6 p (.aload_n 0) 0))) (tB 2 p (tB 3 p (tL 3 p (.invokevirtual 86) 17) (tL 2 p (.iconst 3) 0)) (tB 1 p (tL 1 p (.iload_n 1) 0) (tL 0 p (.aload_n 0) 0))))
set_option maxHeartbeats 4000000 in
def cd17 (p : Nat) : Option (Instr × Nat) := (tB 20 p (tB 31 p (tB 36 p (tB 38 p (tB 41 p (tL 41 p .return_ 0) (tL 38 p (.invokevirtual 121) 15)) (tB 37 p (tL 37 p (.iconst 2) 0) (tL 36 p (.iconst 1) 0))) (tB 34 p (tB 35 p (tL 35 p (.iload_n 2) 0) (tL 34 p (.aload_n 0) 0)) (tL 31 p (.invokevirtual 118) 14))) (tB 25 p (tB 29 p (tB 30 p (tL 30 p (.iload_n 1) 0) (tL 29 p (.iconst 2) 0)) (tB 28 p (tL 28 p (.aload_n 0) 0) (tL 25 p (.invokevirtual 98) 3))) (tB 23 p (tB 24 p (tL 24 p (.iconst 1) 0) (tL 23 p (.aload_n 0) 0)) (tL 20 p (.goto 8) 28)))) (tB 11 p (tB 14 p (tB 16 p (tB 17 p (tL 17 p (.invokevirtual 133) 29) (tL 16 p .isub 0)) (tB 15 p (tL 15 p (.iconst 1) 0) (tL 14 p (.iload_n 3) 0))) (tB 12 p (tB 13 p (tL 13 p (.iload_n 1) 0) (tL 12 p (.iconst 1) 0)) (tL 11 p (.aload_n 0) 0))) (tB 5 p (tB 7 p (tB 8 p (tL 8 p (.ifCond .le 15) 23) (tL 7 p (.iload_n 3) 0)) (tB 6 p (tL 6 p (.istore_n 3) 0) (tL 5 p .iaload 0))) (tB 1 p (tB 4 p (tL 4 p (.iload_n 1) 0) (tL 1 p (.getfield 35) 8)) (tL 0 p (.aload_n 0) 0)))))
set_option maxHeartbeats 4000000 in
def cd18 (p : Nat) : Option (Instr × Nat) := (tB 20 p (tB 32 p (tB 35 p (tB 36 p (tB 37 p (tL 37 p .return_ 0) (tL 36 p .iastore 0)) (tL 35 p .isub 0)) (tB 33 p (tB 34 p (tL 34 p (.iconst 1) 0) (tL 33 p .iaload 0)) (tL 32 p (.iload_n 1) 0))) (tB 27 p (tB 28 p (tB 29 p (tL 29 p (.getfield 35) 8) (tL 28 p (.aload_n 0) 0)) (tL 27 p (.iload_n 1) 0)) (tB 23 p (tB 24 p (tL 24 p (.getfield 35) 8) (tL 23 p (.aload_n 0) 0)) (tL 20 p (.ifCond .le 17) 37)))) (tB 10 p (tB 15 p (tB 18 p (tB 19 p (tL 19 p .iaload 0) (tL 18 p (.iload_n 1) 0)) (tL 15 p (.getfield 35) 8)) (tB 11 p (tB 14 p (tL 14 p (.aload_n 0) 0) (tL 11 p (.invokevirtual 124) 19)) (tL 10 p (.iload_n 1) 0))) (tB 5 p (tB 6 p (tB 9 p (tL 9 p (.aload_n 0) 0) (tL 6 p (.ifCond .ne 8) 14)) (tL 5 p .iaload 0)) (tB 1 p (tB 4 p (tL 4 p (.iload_n 1) 0) (tL 1 p (.getfield 35) 8)) (tL 0 p (.aload_n 0) 0)))))
set_option maxHeartbeats 4000000 in
def cd19 (p : Nat) : Option (Instr × Nat) := (tB 40 p (tB 64 p (tB 73 p (tB 79 p (tB 81 p (tB 84 p (tL 84 p .return_ 0) (tL 81 p (.invokevirtual 101) 6)) (tB 80 p (tL 80 p (.iconst 1) 0) (tL 79 p (.iload_n 1) 0))) (tB 75 p (tB 78 p (tL 78 p (.aload_n 0) 0) (tL 75 p (.invokevirtual 98) 3)) (tB 74 p (tL 74 p (.iconst 1) 0) (tL 73 p (.aload_n 0) 0)))) (tB 67 p (tB 71 p (tB 72 p (tL 72 p .iastore 0) (tL 71 p (.iconst 0) 0)) (tB 70 p (tL 70 p (.iload_n 1) 0) (tL 67 p (.getfield 38) 9))) (tB 65 p (tB 66 p (tL 66 p (.aload_n 0) 0) (tL 65 p .iastore 0)) (tL 64 p (.iload_n 2) 0)))) (tB 49 p (tB 56 p (tB 60 p (tB 63 p (tL 63 p (.iload_n 1) 0) (tL 60 p (.getfield 35) 8)) (tB 59 p (tL 59 p (.aload_n 0) 0) (tL 56 p (.goto (-33)) 23))) (tB 50 p (tB 53 p (tL 53 p (.iinc 3 1) 0) (tL 50 p (.invokevirtual 130) 21)) (tL 49 p (.iconst 1) 0))) (tB 43 p (tB 47 p (tB 48 p (tL 48 p (.iload_n 3) 0) (tL 47 p (.iload_n 1) 0)) (tB 46 p (tL 46 p (.aload_n 0) 0) (tL 43 p (.invokevirtual 121) 15))) (tB 41 p (tB 42 p (tL 42 p (.iconst 1) 0) (tL 41 p (.iconst 2) 0)) (tL 40 p (.iconst 1) 0))))) (tB 22 p (tB 31 p (tB 34 p (tB 36 p (tB 39 p (tL 39 p (.aload_n 0) 0) (tL 36 p (.invokevirtual 127) 20)) (tB 35 p (tL 35 p .isub 0) (tL 34 p (.iload_n 3) 0))) (tB 32 p (tB 33 p (tL 33 p .isub 0) (tL 32 p (.iconst 1) 0)) (tL 31 p (.iload_n 2) 0))) (tB 25 p (tB 29 p (tB 30 p (tL 30 p (.iload_n 1) 0) (tL 29 p (.iconst 2) 0)) (tB 28 p (tL 28 p (.aload_n 0) 0) (tL 25 p (.if_icmp .ge 34) 59))) (tB 23 p (tB 24 p (tL 24 p (.iload_n 2) 0) (tL 23 p (.iload_n 3) 0)) (tL 22 p (.istore_n 3) 0)))) (tB 10 p (tB 16 p (tB 18 p (tB 21 p (tL 21 p (.iconst 0) 0) (tL 18 p (.invokevirtual 98) 3)) (tB 17 p (tL 17 p (.iconst 1) 0) (tL 16 p (.aload_n 0) 0))) (tB 13 p (tB 15 p (tL 15 p (.istore_n 2) 0) (tL 13 p (.bipush 32) 0)) (tL 10 p (.if_icmp .le 6) 16))) (tB 5 p (tB 7 p (tB 8 p (tL 8 p (.bipush 32) 0) (tL 7 p (.iload_n 2) 0)) (tB 6 p (tL 6 p (.istore_n 2) 0) (tL 5 p .iaload 0))) (tB 1 p (tB 4 p (tL 4 p (.iload_n 1) 0) (tL 1 p (.getfield 38) 9)) (tL 0 p (.aload_n 0) 0))))))
set_option maxHeartbeats 4000000 in
def cd20 (p : Nat) : Option (Instr × Nat) := (tB 31 p (tB 49 p (tB 58 p (tB 60 p (tB 63 p (tB 66 p (tL 66 p .return_ 0) (tL 63 p (.goto (-29)) 34)) (tL 60 p (.iinc 6 1) 0)) (tB 59 p (tL 59 p .iastore 0) (tL 58 p .iaload 0))) (tB 53 p (tB 55 p (tB 57 p (tL 57 p .iadd 0) (tL 55 p (.iload 6) 0)) (tL 53 p (.iload 4) 0)) (tB 50 p (tL 50 p (.getfield 41) 10) (tL 49 p (.aload_n 0) 0)))) (tB 40 p (tB 44 p (tB 46 p (tB 48 p (tL 48 p .iadd 0) (tL 46 p (.iload 6) 0)) (tL 44 p (.iload 5) 0)) (tB 41 p (tL 41 p (.getfield 53) 14) (tL 40 p (.aload_n 0) 0))) (tB 34 p (tB 36 p (tB 37 p (tL 37 p (.if_icmp .ge 29) 66) (tL 36 p (.iconst 4) 0)) (tL 34 p (.iload 6) 0)) (tB 32 p (tL 32 p (.istore 6) 0) (tL 31 p (.iconst 0) 0))))) (tB 17 p (tB 24 p (tB 27 p (tB 28 p (tB 29 p (tL 29 p (.istore 5) 0) (tL 28 p .imul 0)) (tL 27 p (.iconst 4) 0)) (tB 26 p (tL 26 p (.iload_n 1) 0) (tL 24 p (.istore 4) 0))) (tB 19 p (tB 20 p (tB 21 p (tL 21 p (.invokevirtual 139) 13) (tL 20 p (.iload_n 3) 0)) (tL 19 p (.iload_n 2) 0)) (tB 18 p (tL 18 p (.aload_n 0) 0) (tL 17 p .return_ 0)))) (tB 8 p (tB 10 p (tB 11 p (tB 14 p (tL 14 p (.ifCond .ne 4) 18) (tL 11 p (.invokevirtual 110) 11)) (tL 10 p (.iload_n 3) 0)) (tB 9 p (tL 9 p (.iload_n 2) 0) (tL 8 p (.aload_n 0) 0))) (tB 2 p (tB 5 p (tL 5 p (.ifCond .eq 12) 17) (tL 2 p (.invokevirtual 136) 5)) (tB 1 p (tL 1 p (.iload_n 1) 0) (tL 0 p (.aload_n 0) 0))))))
set_option maxHeartbeats 4000000 in
def cd21 (p : Nat) : Option (Instr × Nat) := (tB 31 p (tB 49 p (tB 58 p (tB 60 p (tB 63 p (tB 66 p (tL 66 p .return_ 0) (tL 63 p (.goto (-29)) 34)) (tL 60 p (.iinc 6 1) 0)) (tB 59 p (tL 59 p .iastore 0) (tL 58 p .iaload 0))) (tB 53 p (tB 55 p (tB 57 p (tL 57 p .iadd 0) (tL 55 p (.iload 6) 0)) (tL 53 p (.iload 5) 0)) (tB 50 p (tL 50 p (.getfield 53) 14) (tL 49 p (.aload_n 0) 0)))) (tB 40 p (tB 44 p (tB 46 p (tB 48 p (tL 48 p .iadd 0) (tL 46 p (.iload 6) 0)) (tL 44 p (.iload 4) 0)) (tB 41 p (tL 41 p (.getfield 44) 11) (tL 40 p (.aload_n 0) 0))) (tB 34 p (tB 36 p (tB 37 p (tL 37 p (.if_icmp .ge 29) 66) (tL 36 p (.iconst 4) 0)) (tL 34 p (.iload 6) 0)) (tB 32 p (tL 32 p (.istore 6) 0) (tL 31 p (.iconst 0) 0))))) (tB 17 p (tB 24 p (tB 27 p (tB 28 p (tB 29 p (tL 29 p (.istore 5) 0) (tL 28 p .imul 0)) (tL 27 p (.iconst 4) 0)) (tB 26 p (tL 26 p (.iload_n 3) 0) (tL 24 p (.istore 4) 0))) (tB 19 p (tB 20 p (tB 21 p (tL 21 p (.invokevirtual 139) 13) (tL 20 p (.iload_n 2) 0)) (tL 19 p (.iload_n 1) 0)) (tB 18 p (tL 18 p (.aload_n 0) 0) (tL 17 p .return_ 0)))) (tB 8 p (tB 10 p (tB 11 p (tB 14 p (tL 14 p (.ifCond .ne 4) 18) (tL 11 p (.invokevirtual 110) 11)) (tL 10 p (.iload_n 2) 0)) (tB 9 p (tL 9 p (.iload_n 1) 0) (tL 8 p (.aload_n 0) 0))) (tB 2 p (tB 5 p (tL 5 p (.ifCond .eq 12) 17) (tL 2 p (.invokevirtual 136) 5)) (tB 1 p (tL 1 p (.iload_n 3) 0) (tL 0 p (.aload_n 0) 0))))))
set_option maxHeartbeats 4000000 in
def cd22 (p : Nat) : Option (Instr × Nat) := (tB 16 p (tB 23 p (tB 28 p (tB 29 p (tB 30 p (tL 30 p .ireturn 0) (tL 29 p (.iload_n 2) 0)) (tL 28 p .ireturn 0)) (tB 24 p (tB 27 p (tL 27 p (.iconst 0) 0) (tL 24 p (.ifCond .ge 5) 29)) (tL 23 p (.iload_n 2) 0))) (tB 20 p (tB 21 p (tB 22 p (tL 22 p (.istore_n 2) 0) (tL 21 p .isub 0)) (tL 20 p .iaload 0)) (tB 19 p (tL 19 p (.iload_n 1) 0) (tL 16 p (.getfield 28) 6)))) (tB 9 p (tB 11 p (tB 12 p (tB 15 p (tL 15 p (.aload_n 0) 0) (tL 12 p (.invokevirtual 94) 24)) (tL 11 p (.iload_n 1) 0)) (tB 10 p (tL 10 p (.aload_n 0) 0) (tL 9 p .ireturn 0))) (tB 2 p (tB 5 p (tB 8 p (tL 8 p (.iconst (-1)) 0) (tL 5 p (.ifCond .ne 5) 10)) (tL 2 p (.invokevirtual 79) 23)) (tB 1 p (tL 1 p (.iload_n 1) 0) (tL 0 p (.aload_n 0) 0)))))
set_option maxHeartbeats 4000000 in
def cd23 (p : Nat) : Option (Instr × Nat) := (tB 12 p (tB 17 p (tB 21 p (tB 22 p (tL 22 p .ireturn 0) (tL 21 p (.iconst 0) 0)) (tB 18 p (tL 18 p (.goto 4) 22) (tL 17 p (.iconst 1) 0))) (tB 13 p (tB 14 p (tL 14 p (.if_icmp .ge 7) 21) (tL 13 p (.iconst 4) 0)) (tL 12 p (.iload_n 1) 0))) (tB 5 p (tB 6 p (tB 9 p (tL 9 p (.if_icmp .ge 12) 21) (tL 6 p (.getfield 59) 16)) (tL 5 p (.aload_n 0) 0)) (tB 1 p (tB 4 p (tL 4 p (.iload_n 1) 0) (tL 1 p (.ifCond .lt 20) 21)) (tL 0 p (.iload_n 1) 0))))
set_option maxHeartbeats 4000000 in
def cd24 (p : Nat) : Option (Instr × Nat) := (tB 12 p (tB 16 p (tB 20 p (tB 21 p (tB 22 p (tL 22 p .ireturn 0) (tL 21 p .imul 0)) (tL 20 p .idiv 0)) (tB 19 p (tL 19 p (.iload_n 2) 0) (tL 16 p (.getfield 62) 17))) (tB 14 p (tB 15 p (tL 15 p (.aload_n 0) 0) (tL 14 p (.iload_n 2) 0)) (tB 13 p (tL 13 p .ireturn 0) (tL 12 p (.iconst 0) 0)))) (tB 6 p (tB 8 p (tB 9 p (tL 9 p (.if_icmp .ge 5) 14) (tL 8 p (.iconst 1) 0)) (tB 7 p (tL 7 p (.iload_n 2) 0) (tL 6 p (.istore_n 2) 0))) (tB 4 p (tB 5 p (tL 5 p .iaload 0) (tL 4 p (.iload_n 1) 0)) (tB 1 p (tL 1 p (.getfield 32) 7) (tL 0 p (.aload_n 0) 0)))))
set_option maxHeartbeats 4000000 in
def cd25 (p : Nat) : Option (Instr × Nat) := (tB 9 p (tB 11 p (tB 12 p (tB 15 p (tL 15 p .ireturn 0) (tL 12 p (.invokevirtual 94) 24)) (tL 11 p (.iload_n 1) 0)) (tB 10 p (tL 10 p (.aload_n 0) 0) (tL 9 p .ireturn 0))) (tB 2 p (tB 5 p (tB 8 p (tL 8 p (.iconst (-1)) 0) (tL 5 p (.ifCond .ne 5) 10)) (tL 2 p (.invokevirtual 79) 23)) (tB 1 p (tL 1 p (.iload_n 1) 0) (tL 0 p (.aload_n 0) 0))))
set_option maxHeartbeats 4000000 in
def cd26 (p : Nat) : Option (Instr × Nat) := (tB 18 p (tB 25 p (tB 28 p (tB 29 p (tB 30 p (tL 30 p .ireturn 0) (tL 29 p .iaload 0)) (tL 28 p .iadd 0)) (tB 26 p (tB 27 p (tL 27 p (.iload_n 2) 0) (tL 26 p .imul 0)) (tL 25 p (.iconst 4) 0))) (tB 20 p (tB 21 p (tB 24 p (tL 24 p (.iload_n 1) 0) (tL 21 p (.getfield 50) 13)) (tL 20 p (.aload_n 0) 0)) (tB 19 p (tL 19 p .ireturn 0) (tL 18 p (.iconst 0) 0)))) (tB 9 p (tB 11 p (tB 12 p (tB 15 p (tL 15 p (.ifCond .ne 5) 20) (tL 12 p (.invokevirtual 83) 27)) (tL 11 p (.iload_n 2) 0)) (tB 10 p (tL 10 p (.aload_n 0) 0) (tL 9 p .ireturn 0))) (tB 2 p (tB 5 p (tB 8 p (tL 8 p (.iconst 0) 0) (tL 5 p (.ifCond .ne 5) 10)) (tL 2 p (.invokevirtual 79) 23)) (tB 1 p (tL 1 p (.iload_n 1) 0) (tL 0 p (.aload_n 0) 0)))))
set_option maxHeartbeats 4000000 in
def cd27 (p : Nat) : Option (Instr × Nat) := (tB 6 p (tB 10 p (tB 13 p (tB 14 p (tL 14 p .ireturn 0) (tL 13 p (.iconst 0) 0)) (tL 10 p (.goto 4) 14)) (tB 9 p (tL 9 p (.iconst 1) 0) (tL 6 p (.if_icmp .gt 7) 13))) (tB 4 p (tB 5 p (tL 5 p (.iconst 3) 0) (tL 4 p (.iload_n 1) 0)) (tB 1 p (tL 1 p (.ifCond .lt 12) 13) (tL 0 p (.iload_n 1) 0))))
set_option maxHeartbeats 4000000 in
def cd28 (p : Nat) : Option (Instr × Nat) := (tB 18 p (tB 23 p (tB 28 p (tB 29 p (tB 32 p (tL 32 p .ireturn 0) (tL 29 p (.invokevirtual 90) 30)) (tL 28 p (.iload_n 2) 0)) (tB 26 p (tB 27 p (tL 27 p (.iconst 3) 0) (tL 26 p (.aload_n 0) 0)) (tL 23 p (.invokevirtual 86) 17))) (tB 20 p (tB 21 p (tB 22 p (tL 22 p (.iconst 3) 0) (tL 21 p (.iload_n 1) 0)) (tL 20 p (.aload_n 0) 0)) (tB 19 p (tL 19 p .ireturn 0) (tL 18 p (.iconst 0) 0)))) (tB 9 p (tB 11 p (tB 12 p (tB 15 p (tL 15 p (.ifCond .ne 5) 20) (tL 12 p (.invokevirtual 83) 27)) (tL 11 p (.iload_n 2) 0)) (tB 10 p (tL 10 p (.aload_n 0) 0) (tL 9 p .ireturn 0))) (tB 2 p (tB 5 p (tB 8 p (tL 8 p (.iconst 0) 0) (tL 5 p (.ifCond .ne 5) 10)) (tL 2 p (.invokevirtual 79) 23)) (tB 1 p (tL 1 p (.iload_n 1) 0) (tL 0 p (.aload_n 0) 0)))))
set_option maxHeartbeats 4000000 in
def cd29 (p : Nat) : Option (Instr × Nat) := (tB 31 p (tB 49 p (tB 58 p (tB 60 p (tB 63 p (tB 66 p (tL 66 p .return_ 0) (tL 63 p (.goto (-29)) 34)) (tL 60 p (.iinc 6 1) 0)) (tB 59 p (tL 59 p .iastore 0) (tL 58 p .iaload 0))) (tB 53 p (tB 55 p (tB 57 p (tL 57 p .iadd 0) (tL 55 p (.iload 6) 0)) (tL 53 p (.iload 4) 0)) (tB 50 p (tL 50 p (.getfield 44) 11) (tL 49 p (.aload_n 0) 0)))) (tB 40 p (tB 44 p (tB 46 p (tB 48 p (tL 48 p .iadd 0) (tL 46 p (.iload 6) 0)) (tL 44 p (.iload 5) 0)) (tB 41 p (tL 41 p (.getfield 53) 14) (tL 40 p (.aload_n 0) 0))) (tB 34 p (tB 36 p (tB 37 p (tL 37 p (.if_icmp .ge 29) 66) (tL 36 p (.iconst 4) 0)) (tL 34 p (.iload 6) 0)) (tB 32 p (tL 32 p (.istore 6) 0) (tL 31 p (.iconst 0) 0))))) (tB 17 p (tB 24 p (tB 27 p (tB 28 p (tB 29 p (tL 29 p (.istore 5) 0) (tL 28 p .imul 0)) (tL 27 p (.iconst 4) 0)) (tB 26 p (tL 26 p (.iload_n 1) 0) (tL 24 p (.istore 4) 0))) (tB 19 p (tB 20 p (tB 21 p (tL 21 p (.invokevirtual 139) 13) (tL 20 p (.iload_n 3) 0)) (tL 19 p (.iload_n 2) 0)) (tB 18 p (tL 18 p (.aload_n 0) 0) (tL 17 p .return_ 0)))) (tB 8 p (tB 10 p (tB 11 p (tB 14 p (tL 14 p (.ifCond .ne 4) 18) (tL 11 p (.invokevirtual 110) 11)) (tL 10 p (.iload_n 3) 0)) (tB 9 p (tL 9 p (.iload_n 2) 0) (tL 8 p (.aload_n 0) 0))) (tB 2 p (tB 5 p (tL 5 p (.ifCond .eq 12) 17) (tL 2 p (.invokevirtual 136) 5)) (tB 1 p (tL 1 p (.iload_n 1) 0) (tL 0 p (.aload_n 0) 0))))))
set_option maxHeartbeats 4000000 in
def cd30 (p : Nat) : Option (Instr × Nat) := (tB 17 p (tB 24 p (tB 26 p (tB 27 p (tB 28 p (tL 28 p .ireturn 0) (tL 27 p .iaload 0)) (tL 26 p .iadd 0)) (tB 25 p (tL 25 p (.iload_n 2) 0) (tL 24 p .imul 0))) (tB 19 p (tB 22 p (tB 23 p (tL 23 p (.iconst 4) 0) (tL 22 p (.iload_n 1) 0)) (tL 19 p (.getfield 53) 14)) (tB 18 p (tL 18 p (.aload_n 0) 0) (tL 17 p .ireturn 0)))) (tB 8 p (tB 10 p (tB 13 p (tB 16 p (tL 16 p (.iconst 0) 0) (tL 13 p (.ifCond .ne 5) 18)) (tL 10 p (.invokevirtual 83) 27)) (tB 9 p (tL 9 p (.iload_n 2) 0) (tL 8 p (.aload_n 0) 0))) (tB 2 p (tB 5 p (tL 5 p (.ifCond .eq 11) 16) (tL 2 p (.invokevirtual 136) 5)) (tB 1 p (tL 1 p (.iload_n 1) 0) (tL 0 p (.aload_n 0) 0)))))
def pCode (m pc : Nat) : Option (Instr × Nat) := bif Nat.ble pN m then none else bif Nat.ble (pTop m) pc then none else (bif Nat.ble 15 m then (bif Nat.ble 23 m then (bif Nat.ble 27 m then (bif Nat.ble 29 m then (bif Nat.ble 30 m then cd30 pc else cd29 pc) else (bif Nat.ble 28 m then cd28 pc else cd27 pc)) else (bif Nat.ble 25 m then (bif Nat.ble 26 m then cd26 pc else cd25 pc) else (bif Nat.ble 24 m then cd24 pc else cd23 pc))) else (bif Nat.ble 19 m then (bif Nat.ble 21 m then (bif Nat.ble 22 m then cd22 pc else cd21 pc) else (bif Nat.ble 20 m then cd20 pc else cd19 pc)) else (bif Nat.ble 17 m then (bif Nat.ble 18 m then cd18 pc else cd17 pc) else (bif Nat.ble 16 m then cd16 pc else cd15 pc)))) else (bif Nat.ble 7 m then (bif Nat.ble 11 m then (bif Nat.ble 13 m then (bif Nat.ble 14 m then cd14 pc else cd13 pc) else (bif Nat.ble 12 m then cd12 pc else cd11 pc)) else (bif Nat.ble 9 m then (bif Nat.ble 10 m then cd10 pc else cd9 pc) else (bif Nat.ble 8 m then cd8 pc else cd7 pc))) else (bif Nat.ble 3 m then (bif Nat.ble 5 m then (bif Nat.ble 6 m then cd6 pc else cd5 pc) else (bif Nat.ble 4 m then cd4 pc else cd3 pc)) else (bif Nat.ble 1 m then (bif Nat.ble 2 m then cd2 pc else cd1 pc) else cd0 pc))))
def lkF : List (Nat × Nat × Nat) := [(1, 7, 0), (1, 13, 1), (1, 16, 2), (1, 19, 3), (1, 22, 4), (1, 25, 5), (1, 28, 6), (1, 32, 7), (1, 35, 8), (1, 38, 9), (1, 41, 10), (1, 44, 11), (1, 47, 12), (1, 50, 13), (1, 53, 14), (1, 56, 15), (1, 59, 16), (1, 62, 17)]
def lkN : List (Nat × Nat) := [(0, 7)]
def lkC : List (Nat × Nat × Nat) := []
def lkD : List (Nat × Nat × Nat) := []
def lkV : List (Nat × Nat × Nat) := [(0, 9, 1), (1, 65, 2), (1, 98, 3), (1, 69, 4), (1, 136, 5), (1, 101, 6), (1, 104, 7), (0, 12, 8), (0, 16, 9), (1, 73, 10), (1, 110, 11), (1, 114, 12), (1, 139, 13), (1, 118, 14), (1, 121, 15), (1, 76, 16), (1, 86, 17), (1, 107, 18), (1, 124, 19), (1, 127, 20), (1, 130, 21), (0, 20, 22), (1, 79, 23), (1, 94, 24), (0, 24, 25), (0, 27, 26), (1, 83, 27), (0, 30, 28), (1, 133, 29), (1, 90, 30)]
def lkO : List (Nat × Nat) := [(1, 1)]
def mV : List Nat := [8, 9, 22, 25, 26, 28]
def mP : List Nat := [2, 3, 4, 5, 6, 7, 10, 11, 12, 13, 14, 15, 16, 17, 18, 19, 20, 21, 23, 24, 27, 29, 30]
def mS : List Nat := []
def mI : List Nat := [1]
def mA : List Nat := [1, 2, 3, 4, 5, 6, 7, 8, 9, 10, 11, 12, 13, 14, 15, 16, 17, 18, 19, 20, 21, 22, 23, 24, 25, 26, 27, 28, 29, 30]
def aTys : List FieldType := [.int]
abbrev QCell := List Value ⊕ ((FieldType × List Int32) ⊕ List Int64)
abbrev QHeap := List QCell
abbrev QLoc := List (Option Value)
abbrev vI (x : Int32) : Option Value := some (.int x)
abbrev vR (a : Addr) : Option Value := some (.ref a)
abbrev QSt := Nat × QLoc × List Value × QHeap
def qv (ad : Nat → Addr) : Value → Value
 | .ref k => .ref (ad k)
 | v => v
def qsz : QCell → Nat
 | .inl _ => cN
 | .inr (.inl x) => x.2.length
 | .inr (.inr x) => x.length
def qhs : QHeap → Nat
 | [] => 0
 | c :: t => qsz c + qhs t
def aget {α : Type} (xs : List α) (j : Int32) : Option α := if j < 0 then none else xs[j.toNatClampNeg]?
def aset {α : Type} (xs : List α) (j : Int32) (v : α) : Option (List α) := if j < 0 then none else if j.toNatClampNeg < xs.length then some (xs.set j.toNatClampNeg v) else none
def qnew (n : Int32) : Option Nat := if n < 0 then none else if n.toNatClampNeg ≤ 67108864 then some n.toNatClampNeg else none
def qdiv (x y : Int32) : Option Int32 := if y = 0 then none else some (x / y)
def qrem (x y : Int32) : Option Int32 := if y = 0 then none else some (x % y)
def qboo (x : Int32) : Option Int32 := if x = 0 then some x else if x = 1 then some x else none
def lget : QLoc → Nat → Option Value
 | [], _ => none
 | v :: _, 0 => v
 | _ :: t, k + 1 => lget t k
def hget : QHeap → Nat → Option QCell
 | [], _ => none
 | v :: _, 0 => some v
 | _ :: t, k + 1 => hget t k
def vget : List Value → Nat → Option Value
 | [], _ => none
 | v :: _, 0 => some v
 | _ :: t, k + 1 => vget t k
def lkill (L : QLoc) : Nat → QLoc
 | 0 => L
 | k + 1 => match lget L k with
  | some (.long _) => L.set k none
  | some (.double _) => L.set k none
  | _ => L
def lput (L : QLoc) (k : Nat) (v : Value) : Option QLoc :=
 match v with
 | .long x => bif Nat.ble (k + 2) L.length then some (((lkill L k).set k (some (.long x))).set (k + 1) none) else none
 | .double _ => none
 | v => bif Nat.ble (k + 1) L.length then some ((lkill L k).set k (some v)) else none
def qload (pc : Nat) (L : QLoc) (S : List Value) (σ : QHeap) (k : Nat) (ok : Value → Bool) : Option QSt :=
 match lget L k with
 | some v => bif ok v then some (pc, L, v :: S, σ) else none
 | none => none
def isI : Value → Bool | .int _ => true | _ => false
def isJ : Value → Bool | .long _ => true | _ => false
def isR : Value → Bool | .ref _ => true | _ => false
def qstore (pc : Nat) (L : QLoc) (S : List Value) (σ : QHeap) (k : Nat) (ok : Value → Bool) : Option QSt :=
 match S with
 | v :: S' => bif ok v then (match lput L k v with | some L' => some (pc, L', S', σ) | none => none) else none
 | [] => none
def qbin (pc : Nat) (L : QLoc) (S : List Value) (σ : QHeap) (f : Int32 → Int32 → Int32) : Option QSt :=
 match S with
 | .int y :: .int x :: S' => some (pc, L, .int (f x y) :: S', σ)
 | _ => none
def qbino (pc : Nat) (L : QLoc) (S : List Value) (σ : QHeap) (f : Int32 → Int32 → Option Int32) : Option QSt :=
 match S with
 | .int y :: .int x :: S' => (f x y).bind fun z => some (pc, L, .int z :: S', σ)
 | _ => none
def qbinJ (pc : Nat) (L : QLoc) (S : List Value) (σ : QHeap) (f : Int64 → Int64 → Int64) : Option QSt :=
 match S with
 | .long y :: .long x :: S' => some (pc, L, .long (f x y) :: S', σ)
 | _ => none
def qshJ (pc : Nat) (L : QLoc) (S : List Value) (σ : QHeap) (f : Int64 → Int32 → Int64) : Option QSt :=
 match S with
 | .int y :: .long x :: S' => some (pc, L, .long (f x y) :: S', σ)
 | _ => none
def quni (pc : Nat) (L : QLoc) (S : List Value) (σ : QHeap) (f : Int32 → Value) : Option QSt :=
 match S with
 | .int x :: S' => some (pc, L, f x :: S', σ)
 | _ => none
def quniJ (pc : Nat) (L : QLoc) (S : List Value) (σ : QHeap) (f : Int64 → Value) : Option QSt :=
 match S with
 | .long x :: S' => some (pc, L, f x :: S', σ)
 | _ => none
def qald (pc : Nat) (L : QLoc) (S : List Value) (σ : QHeap) (ok : FieldType → Bool) : Option QSt :=
 match S with
 | .int j :: .ref a :: S' => (match hget σ a with
  | some (.inr (.inl x)) => bif ok x.1 then (aget x.2 j).bind fun v => some (pc, L, .int v :: S', σ) else none
  | _ => none)
 | _ => none
def qaldJ (pc : Nat) (L : QLoc) (S : List Value) (σ : QHeap) : Option QSt :=
 match S with
 | .int j :: .ref a :: S' => (match hget σ a with
  | some (.inr (.inr x)) => (aget x j).bind fun v => some (pc, L, .long v :: S', σ)
  | _ => none)
 | _ => none
def qnar : FieldType → Int32 → Int32
 | .boolean, x => x &&& 1
 | .byte, x => x.toInt8.toInt32
 | _, x => x
def qast (pc : Nat) (L : QLoc) (S : List Value) (σ : QHeap) (ok : FieldType → Bool) : Option QSt :=
 match S with
 | .int v :: .int j :: .ref a :: S' => (match hget σ a with
  | some (.inr (.inl x)) => bif ok x.1 && Nat.ble k0 a then (aset x.2 j (qnar x.1 v)).bind fun y => some (pc, L, S', σ.set a (.inr (.inl (x.1, y)))) else none
  | _ => none)
 | _ => none
def qastJ (pc : Nat) (L : QLoc) (S : List Value) (σ : QHeap) : Option QSt :=
 match S with
 | .long v :: .int j :: .ref a :: S' => (match hget σ a with
  | some (.inr (.inr x)) => bif Nat.ble k0 a then (aset x j v).bind fun y => some (pc, L, S', σ.set a (.inr (.inr y))) else none
  | _ => none)
 | _ => none
def tyI : FieldType → Bool | .int => true | _ => false
def tyB : FieldType → Bool | .boolean => true | .byte => true | _ => false
def qfit : FieldType → Value → Option Value
 | .int, .int x => some (.int x)
 | .boolean, .int x => (qboo x).bind fun y => some (.int y)
 | .long, .long x => some (.long x)
 | .array t, .ref a => some (.ref a)
 | _, _ => none
def qget (pc : Nat) (L : QLoc) (S : List Value) (σ : QHeap) (k : Nat) : Option QSt :=
 match S with
 | .ref a :: S' => (match hget σ a with
  | some (.inl vs) => (match vget vs k with | some v => some (pc, L, v :: S', σ) | none => none)
  | _ => none)
 | _ => none
def qput (pc : Nat) (L : QLoc) (S : List Value) (σ : QHeap) (k : Nat) : Option QSt :=
 match S with
 | v :: .ref a :: S' => (match hget σ a with
  | some (.inl vs) => bif Nat.ble k0 a && Nat.ble (k + 1) vs.length then (qfit (fTy k) v).bind fun w => some (pc, L, S', σ.set a (.inl (vs.set k w))) else none
  | _ => none)
 | _ => none
def qnewA (pc : Nat) (L : QLoc) (S : List Value) (σ : QHeap) (t : ArrayType) : Option QSt :=
 match S with
 | .int n :: S' => (match t with
  | .int => (qnew n).bind fun k => some (pc, L, .ref σ.length :: S', σ ++ [.inr (.inl (.int, List.replicate k 0))])
  | .boolean => (qnew n).bind fun k => some (pc, L, .ref σ.length :: S', σ ++ [.inr (.inl (.boolean, List.replicate k 0))])
  | .byte => (qnew n).bind fun k => some (pc, L, .ref σ.length :: S', σ ++ [.inr (.inl (.byte, List.replicate k 0))])
  | .long => (qnew n).bind fun k => some (pc, L, .ref σ.length :: S', σ ++ [.inr (.inr (List.replicate k 0))])
  | _ => none)
 | _ => none
def qlen (pc : Nat) (L : QLoc) (S : List Value) (σ : QHeap) : Option QSt :=
 match S with
 | .ref a :: S' => (match hget σ a with
  | some (.inr (.inl x)) => some (pc, L, .int x.2.length.toInt32 :: S', σ)
  | some (.inr (.inr x)) => some (pc, L, .int x.length.toInt32 :: S', σ)
  | _ => none)
 | _ => none
def qdup (pc : Nat) (L : QLoc) (S : List Value) (σ : QHeap) : Option QSt :=
 match S with
 | .int x :: S' => some (pc, L, .int x :: .int x :: S', σ)
 | .ref x :: S' => some (pc, L, .ref x :: .ref x :: S', σ)
 | _ => none
def qdup2 (pc : Nat) (L : QLoc) (S : List Value) (σ : QHeap) : Option QSt :=
 match S with
 | .int x :: .ref y :: S' => some (pc, L, .int x :: .ref y :: .int x :: .ref y :: S', σ)
 | .int x :: .int y :: S' => some (pc, L, .int x :: .int y :: .int x :: .int y :: S', σ)
 | .long x :: S' => some (pc, L, .long x :: .long x :: S', σ)
 | _ => none
def qpop (pc : Nat) (L : QLoc) (S : List Value) (σ : QHeap) : Option QSt :=
 match S with
 | .int _ :: S' => some (pc, L, S', σ)
 | .ref _ :: S' => some (pc, L, S', σ)
 | _ => none
def qif (pc : Nat) (L : QLoc) (S : List Value) (σ : QHeap) (cd : ClassFile.Cond) (tgt : Nat) : Option QSt :=
 match S with
 | .int x :: S' => some (bif ifCond.holds cd x then tgt else pc, L, S', σ)
 | _ => none
def qicmp (pc : Nat) (L : QLoc) (S : List Value) (σ : QHeap) (cd : ClassFile.Cond) (tgt : Nat) : Option QSt :=
 match S with
 | .int y :: .int x :: S' => some (bif if_icmp.holds cd x y then tgt else pc, L, S', σ)
 | _ => none
def qinc (pc : Nat) (L : QLoc) (S : List Value) (σ : QHeap) (k : Nat) (i : Int) : Option QSt :=
 match lget L k with
 | some (.int x) => (match lput L k (.int (x + Int32.ofInt i)) with | some L' => some (pc, L', S, σ) | none => none)
 | _ => none
def qldc (pc : Nat) (L : QLoc) (S : List Value) (σ : QHeap) (k : Nat) : Option QSt :=
 match vget cK k with
 | some v => some (pc, L, v :: S, σ)
 | none => none
def qexec (pc : Nat) (L : QLoc) (S : List Value) (σ : QHeap) (aux : Nat) : Instr → Option QSt
 | .aload_n k => qload (pc + 1) L S σ k.val isR
 | .aload k => qload (pc + 2) L S σ k isR
 | .iload_n k => qload (pc + 1) L S σ k.val isI
 | .iload k => qload (pc + 2) L S σ k isI
 | .lload_n k => qload (pc + 1) L S σ k.val isJ
 | .lload k => qload (pc + 2) L S σ k isJ
 | .iconst i => some (pc + 1, L, .int (Int32.ofInt i) :: S, σ)
 | .bipush i => some (pc + 2, L, .int (Int8.ofInt i).toInt32 :: S, σ)
 | .sipush i => some (pc + 3, L, .int (Int16.ofInt i).toInt32 :: S, σ)
 | .lconst k => some (pc + 1, L, .long (Int64.ofNat k.val) :: S, σ)
 | .ldc _ => qldc (pc + 2) L S σ aux
 | .ldc2_w _ => qldc (pc + 3) L S σ aux
 | .istore_n k => qstore (pc + 1) L S σ k.val isI
 | .istore k => qstore (pc + 2) L S σ k isI
 | .lstore_n k => qstore (pc + 1) L S σ k.val isJ
 | .lstore k => qstore (pc + 2) L S σ k isJ
 | .astore_n k => qstore (pc + 1) L S σ k.val isR
 | .astore k => qstore (pc + 2) L S σ k isR
 | .iinc k i => qinc (pc + 3) L S σ k i
 | .iadd => qbin (pc + 1) L S σ fun x y => x + y
 | .isub => qbin (pc + 1) L S σ fun x y => x - y
 | .imul => qbin (pc + 1) L S σ fun x y => x * y
 | .iand => qbin (pc + 1) L S σ fun x y => x &&& y
 | .ior => qbin (pc + 1) L S σ fun x y => x ||| y
 | .ixor => qbin (pc + 1) L S σ fun x y => x ^^^ y
 | .ishl => qbin (pc + 1) L S σ fun x y => x <<< (y &&& 31)
 | .ishr => qbin (pc + 1) L S σ fun x y => x >>> (y &&& 31)
 | .iushr => qbin (pc + 1) L S σ fun x y => XT.ushr x y
 | .idiv => qbino (pc + 1) L S σ qdiv
 | .irem => qbino (pc + 1) L S σ qrem
 | .ineg => quni (pc + 1) L S σ fun x => .int (-x)
 | .i2l => quni (pc + 1) L S σ fun x => .long x.toInt64
 | .i2b => quni (pc + 1) L S σ fun x => .int x.toInt8.toInt32
 | .l2i => quniJ (pc + 1) L S σ fun x => .int x.toInt32
 | .lneg => quniJ (pc + 1) L S σ fun x => .long (-x)
 | .ladd => qbinJ (pc + 1) L S σ fun x y => x + y
 | .lsub => qbinJ (pc + 1) L S σ fun x y => x - y
 | .lmul => qbinJ (pc + 1) L S σ fun x y => x * y
 | .land => qbinJ (pc + 1) L S σ fun x y => x &&& y
 | .lor => qbinJ (pc + 1) L S σ fun x y => x ||| y
 | .lxor => qbinJ (pc + 1) L S σ fun x y => x ^^^ y
 | .lshl => qshJ (pc + 1) L S σ fun x y => x <<< (y.toInt64 &&& 63)
 | .lshr => qshJ (pc + 1) L S σ fun x y => x >>> (y.toInt64 &&& 63)
 | .lushr => qshJ (pc + 1) L S σ fun x y => XT.ushrL x y
 | .lcmp => (match S with
  | .long y :: .long x :: S' => some (pc + 1, L, .int (XT.cmpL x y) :: S', σ)
  | _ => none)
 | .goto _ => some (aux, L, S, σ)
 | .ifCond cd _ => qif (pc + 3) L S σ cd aux
 | .if_icmp cd _ => qicmp (pc + 3) L S σ cd aux
 | .dup => qdup (pc + 1) L S σ
 | .dup2 => qdup2 (pc + 1) L S σ
 | .pop => qpop (pc + 1) L S σ
 | .getfield _ => qget (pc + 3) L S σ aux
 | .putfield _ => qput (pc + 3) L S σ aux
 | .iaload => qald (pc + 1) L S σ tyI
 | .baload => qald (pc + 1) L S σ tyB
 | .laload => qaldJ (pc + 1) L S σ
 | .iastore => qast (pc + 1) L S σ tyI
 | .bastore => qast (pc + 1) L S σ tyB
 | .lastore => qastJ (pc + 1) L S σ
 | .arraylength => qlen (pc + 1) L S σ
 | .newarray t => qnewA (pc + 2) L S σ t
 | .new _ => some (pc + 3, L, .ref σ.length :: S, σ ++ [.inl cDef])
 | _ => none
def qstep (m : Nat) (st : QSt) : Option QSt :=
 match pCode m st.1 with
 | some (i, aux) => qexec st.1 st.2.1 st.2.2.1 st.2.2.2 aux i
 | none => none
def qsteps (m : Nat) : Nat → QSt → Option QSt
 | 0, st => some st
 | n + 1, st => match qstep m st with | some st' => qsteps m n st' | none => none
def qentry (args : List Value) (mx : Nat) : QLoc := (args.flatMap fun v => match v with | .long x => [some (.long x), none] | .double x => [some (.double x), none] | v => [some v]) ++ List.replicate (mx - (args.map fun v => v.category).sum) none
def ilen : Instr → Nat
 | .aload _ | .iload _ | .lload _ | .istore _ | .lstore _ | .astore _ | .bipush _ | .ldc _ | .newarray _ => 2
 | .sipush _ | .ldc2_w _ | .iinc _ _ | .goto _ | .ifCond _ _ | .if_icmp _ _ | .getfield _ | .putfield _ | .new _ | .invokevirtual _ | .invokespecial _ | .invokestatic _ => 3
 | _ => 1
def qtgt (pc : Nat) (o : Int) (aux : Nat) : Bool := decide (0 ≤ (pc : Int) + o) && decide (((pc : Int) + o).toNat = aux)
def qlk (m pc : Nat) (i : Instr) (aux : Nat) : Bool :=
 match i with
 | .goto o => qtgt pc o aux
 | .ifCond _ o => qtgt pc o aux
 | .if_icmp _ o => qtgt pc o aux
 | .getfield idx => lkF.contains (pK m, idx, aux)
 | .putfield idx => lkF.contains (pK m, idx, aux) && (!fFin aux || (pK m == 1 && pNm m == "<init>"))
 | .new idx => lkN.contains (pK m, idx)
 | .newarray t => aTys.contains (newarray.typeOf t)
 | .ldc idx => lkC.contains (pK m, idx, aux)
 | .ldc2_w idx => lkD.contains (pK m, idx, aux)
 | _ => true
def qchk (m pc : Nat) (i : Instr) (aux : Nat) : Bool := decide (decode (pBytes m) pc = .ok (i, ilen i)) && qlk m pc i aux
def QCellOk (Z : State) (ad : Nat → Addr) (h : Heap) (a : Addr) : QCell → Prop
 | .inl vs => Exa Z h a cName ∧ vs.length = nF ∧ ∀ (k : Nat) (v : Value), k < nF → vget vs k = some v → Fld Z h a cName (fNm k) (fDs k) (qv ad v)
 | .inr (.inl x) => ∃ c : Cell, Arr Z h a c x.1 ∧ c.slots = (x.2.map Value.int).toArray
 | .inr (.inr x) => ∃ c : Cell, Arr Z h a c .long ∧ c.slots = (x.map Value.long).toArray
def QAd (n0 : Nat) (ad : Nat → Addr) : Prop := (∀ k, k0 ≤ k → ad k = n0 + (k - k0)) ∧ ∀ i j, ad i = ad j → i = j
def QRep (Z : State) (n0 : Nat) (ad : Nat → Addr) (h : Heap) (σ : QHeap) : Prop := k0 ≤ σ.length ∧ h.size = n0 + (σ.length - k0) ∧ ∀ k c, hget σ k = some c → QCellOk Z ad h (ad k) c
def QLocOk (ad : Nat → Addr) (L : QLoc) (C : Array Slot) : Prop :=
 L.length = C.size ∧ (∀ k v, lget L k = some v → C[k]? = some (.val (qv ad v))) ∧ (∀ k w, C[k]? = some (.val w) → w.category = 2 → C[k + 1]? = some .second) ∧ ∀ k, C[k]? = some .second → ∃ j w, k = j + 1 ∧ C[j]? = some (.val w) ∧ w.category = 2
def QW (Z : State) (a0 : Array Value) : Prop :=
 (∀ t ∈ lkF, (Cond.fieldLink (kName t.1) t.2.1 cName (fNm t.2.2) (fDs t.2.2)).before a0 Z = true) ∧
 (∀ t ∈ lkN, (Cond.classLink (kName t.1) t.2 cName).before a0 Z = true) ∧
 (∀ t ∈ lkC, ∃ v, vget cK t.2.2 = some (.int v) ∧ (Cond.constant (kName t.1) t.2.1 v).before a0 Z = true) ∧
 (∀ t ∈ lkD, ∃ v, vget cK t.2.2 = some (.long v) ∧ (Cond.constantLong (kName t.1) t.2.1 v).before a0 Z = true) ∧
 (∀ t ∈ lkV, (Cond.methodLink (kName t.1) t.2.1 (pName t.2.2)).before a0 Z = true) ∧
 (∀ t ∈ lkO, (Cond.methodLink (kName t.1) t.2 Lib.objectInit).before a0 Z = true) ∧
 (∀ m ∈ mV, (Cond.declares (pName m)).before a0 Z = true ∧ (Cond.selects cName (pName m) (pName m)).before a0 Z = true ∧ (Cond.instanceMethod (pName m)).before a0 Z = true) ∧
 (∀ m ∈ mP, (Cond.instanceMethod (pName m)).before a0 Z = true ∧ (Cond.privateMethod (pName m)).before a0 Z = true) ∧
 (∀ m ∈ mS, (Cond.static (pName m)).before a0 Z = true) ∧
 (∀ m ∈ mI, (Cond.instanceMethod (pName m)).before a0 Z = true) ∧
 (∀ m ∈ mA, (Cond.code (pName m) (pBytes m) (pMaxL m) (pRet m)).before a0 Z = true ∧ (Cond.initialized (kName (pK m))).before a0 Z = true) ∧
 (Cond.instanceMethod Lib.objectInit).before a0 Z = true ∧ (Cond.code Lib.objectInit ⟨#[0xb1]⟩ 1 none).before a0 Z = true ∧
 (∀ k, k < nF → bif fFin k then (Cond.laysFinal cName cName (fNm k) (fDs k)).before a0 Z = true else (Cond.lays cName cName (fNm k) (fDs k)).before a0 Z = true) ∧
 (Cond.instantiable cName cN).before a0 Z = true ∧ (Cond.initialized cName).before a0 Z = true ∧
 ∀ ty ∈ aTys, (Cond.arrayClass ty).before a0 Z = true
section Words
variable {Z : State} {a0 : Array Value}
theorem qw_fl (W : QW Z a0) : ∀ t ∈ lkF, (Cond.fieldLink (kName t.1) t.2.1 cName (fNm t.2.2) (fDs t.2.2)).before a0 Z = true := W.1
theorem qw_nw (W : QW Z a0) : ∀ t ∈ lkN, (Cond.classLink (kName t.1) t.2 cName).before a0 Z = true := W.2.1
theorem qw_cI (W : QW Z a0) : ∀ t ∈ lkC, ∃ v, vget cK t.2.2 = some (.int v) ∧ (Cond.constant (kName t.1) t.2.1 v).before a0 Z = true := W.2.2.1
theorem qw_cJ (W : QW Z a0) : ∀ t ∈ lkD, ∃ v, vget cK t.2.2 = some (.long v) ∧ (Cond.constantLong (kName t.1) t.2.1 v).before a0 Z = true := W.2.2.2.1
theorem qw_ml (W : QW Z a0) : ∀ t ∈ lkV, (Cond.methodLink (kName t.1) t.2.1 (pName t.2.2)).before a0 Z = true := W.2.2.2.2.1
theorem qw_mo (W : QW Z a0) : ∀ t ∈ lkO, (Cond.methodLink (kName t.1) t.2 Lib.objectInit).before a0 Z = true := W.2.2.2.2.2.1
theorem qw_vi (W : QW Z a0) : ∀ m ∈ mV, (Cond.declares (pName m)).before a0 Z = true ∧ (Cond.selects cName (pName m) (pName m)).before a0 Z = true ∧ (Cond.instanceMethod (pName m)).before a0 Z = true := W.2.2.2.2.2.2.1
theorem qw_pr (W : QW Z a0) : ∀ m ∈ mP, (Cond.instanceMethod (pName m)).before a0 Z = true ∧ (Cond.privateMethod (pName m)).before a0 Z = true := W.2.2.2.2.2.2.2.1
theorem qw_st (W : QW Z a0) : ∀ m ∈ mS, (Cond.static (pName m)).before a0 Z = true := W.2.2.2.2.2.2.2.2.1
theorem qw_ini (W : QW Z a0) : ∀ m ∈ mI, (Cond.instanceMethod (pName m)).before a0 Z = true := W.2.2.2.2.2.2.2.2.2.1
theorem qw_cod (W : QW Z a0) : ∀ m ∈ mA, (Cond.code (pName m) (pBytes m) (pMaxL m) (pRet m)).before a0 Z = true ∧ (Cond.initialized (kName (pK m))).before a0 Z = true := W.2.2.2.2.2.2.2.2.2.2.1
theorem qw_oi (W : QW Z a0) : (Cond.instanceMethod Lib.objectInit).before a0 Z = true := W.2.2.2.2.2.2.2.2.2.2.2.1
theorem qw_oc (W : QW Z a0) : (Cond.code Lib.objectInit ⟨#[0xb1]⟩ 1 none).before a0 Z = true := W.2.2.2.2.2.2.2.2.2.2.2.2.1
theorem qw_lay (W : QW Z a0) : ∀ k, k < nF → bif fFin k then (Cond.laysFinal cName cName (fNm k) (fDs k)).before a0 Z = true else (Cond.lays cName cName (fNm k) (fDs k)).before a0 Z = true := W.2.2.2.2.2.2.2.2.2.2.2.2.2.1
theorem qw_inst (W : QW Z a0) : (Cond.instantiable cName cN).before a0 Z = true := W.2.2.2.2.2.2.2.2.2.2.2.2.2.2.1
theorem qw_init (W : QW Z a0) : (Cond.initialized cName).before a0 Z = true := W.2.2.2.2.2.2.2.2.2.2.2.2.2.2.2.1
theorem qw_arr (W : QW Z a0) : ∀ ty ∈ aTys, (Cond.arrayClass ty).before a0 Z = true := W.2.2.2.2.2.2.2.2.2.2.2.2.2.2.2.2
end Words
theorem hget_eq : ∀ (σ : QHeap) k, hget σ k = σ[k]?
 | [], _ => by simp [hget]
 | _ :: _, 0 => by simp [hget]
 | _ :: t, k + 1 => by simp [hget, hget_eq t k]
theorem vget_eq : ∀ (σ : List Value) k, vget σ k = σ[k]?
 | [], _ => by simp [vget]
 | _ :: _, 0 => by simp [vget]
 | _ :: t, k + 1 => by simp [vget, vget_eq t k]
theorem lget_eq : ∀ (L : QLoc) k, lget L k = (L[k]?).getD none
 | [], _ => by simp [lget]
 | _ :: _, 0 => by simp [lget]
 | _ :: t, k + 1 => by simp [lget, lget_eq t k]
theorem lget_lt {L : QLoc} {k : Nat} {v : Value} (h : lget L k = some v) : k < L.length := by
 rw [lget_eq] at h
 rcases Nat.lt_or_ge k L.length with q | q
 ·exact q
 ·simp [List.getElem?_eq_none q] at h
theorem lget_set {L : QLoc} {k j : Nat} {o : Option Value} (hk : k < L.length) : lget (L.set k o) j = if j = k then o else lget L j := by
 simp only [lget_eq, List.getElem?_set]
 by_cases e : k = j
 ·subst e; simp [hk]
 ·simp [e, Ne.symm e]
theorem qhs_app (σ τ : QHeap) : qhs (σ ++ τ) = qhs σ + qhs τ := by
 induction σ with
 | nil => simp [qhs]
 | cons c t ih => simp [qhs, ih, Nat.add_assoc]
theorem qhs_set {σ : QHeap} {k : Nat} {c d : QCell} (h : hget σ k = some c) (hs : qsz d = qsz c) : qhs (σ.set k d) = qhs σ := by
 induction σ generalizing k with
 | nil => simp [hget] at h
 | cons x t ih =>
  cases k with
  | zero => simp only [hget, Option.some.injEq] at h; subst h; simp [qhs, hs]
  | succ k => simp only [hget] at h; simp [qhs, ih h]
theorem hget_set {σ : QHeap} {k j : Nat} {c d : QCell} (h : hget σ k = some c) : hget (σ.set k d) j = if j = k then some d else hget σ j := by
 rw [hget_eq] at h
 have hk := (List.getElem?_eq_some_iff.mp h).1
 simp only [hget_eq, List.getElem?_set]
 by_cases e : k = j
 ·subst e; simp [hk]
 ·simp [e, Ne.symm e]
theorem lkill_len (L : QLoc) (k : Nat) : (lkill L k).length = L.length := by
 cases k with
 | zero => rfl
 | succ k => simp only [lkill]; split <;> simp
theorem lget_kill {L : QLoc} {k j : Nat} {v : Value} (h : lget (lkill L k) j = some v) : lget L j = some v ∧ (k = j + 1 → v.category ≠ 2) := by
 cases k with
 | zero => exact ⟨h, fun e => by omega⟩
 | succ k =>
  simp only [lkill] at h
  split at h
  ·rename_i x q
   rw [lget_set (lget_lt q)] at h
   split at h
   ·cases h
   ·rename_i ne; exact ⟨h, fun e => absurd (by omega) ne⟩
  ·rename_i x q
   rw [lget_set (lget_lt q)] at h
   split at h
   ·cases h
   ·rename_i ne; exact ⟨h, fun e => absurd (by omega) ne⟩
  ·rename_i q1 q2
   refine ⟨h, fun e hc => ?_⟩
   obtain rfl : j = k := by omega
   cases v with
   | long x => exact q1 _ h
   | double x => exact q2 _ h
   | _ => simp [Value.category] at hc
theorem qv_cat (ad : Nat → Addr) (v : Value) : (qv ad v).category = v.category := by cases v <;> rfl
def kA (C : Array Slot) (k j : Nat) : Prop := k = j + 1 ∧ C[k]? = some .second
def kB (C : Array Slot) (k j : Nat) : Prop := j = k + 1 ∧ ∃ u, C[k]? = some (.val u) ∧ u.category = 2
def kD (C : Array Slot) (k j : Nat) : Prop := j = k + 2 ∧ ∃ u, C[k + 1]? = some (.val u) ∧ u.category = 2
theorem set1_at {C D : Array Slot} {k : Nat} {w : Value} (hk : k < C.size) (hw : w.category = 1) (h : storeLocals C k w = some D) :
  D.size = C.size ∧ D[k]? = some (.val w) ∧ ∀ j, j ≠ k → (D[j]? = C[j]? ∧ ¬ kA C k j ∧ ¬ kB C k j) ∨ D[j]? = some .unset ∧ (kA C k j ∨ kB C k j) := by
 have hck : C[k]? = some C[k] := Array.getElem?_eq_getElem hk
 unfold storeLocals at h
 simp only [hck, Option.bind_eq_bind, Option.bind_some] at h
 have self : ∀ {E : Array Slot}, k < E.size → storeSelf E k w = some D → D = E.setIfInBounds k (.val w) := by
  intro E hE q
  simp only [storeSelf, setAt, hE, if_true, Option.bind_eq_bind, Option.bind_some, hw] at q
  simpa using q.symm
 split at h
 ·rename_i q
  have hk1 : k - 1 < C.size := by omega
  simp only [setAt, hk1, if_true, Option.bind_some] at h
  have e := self (by simpa using hk) h
  subst e
  refine ⟨by simp, by simp [hk], fun j hj => ?_⟩
  by_cases ej : k = j + 1
  ·refine Or.inr ⟨?_, Or.inl ⟨ej, by rw [hck, q]⟩⟩
   rw [Array.getElem?_setIfInBounds_ne (Ne.symm hj), show j = k - 1 by omega]
   simp [hk1]
  ·refine Or.inl ⟨?_, fun x => ej x.1, fun x => ?_⟩
   ·rw [Array.getElem?_setIfInBounds_ne (Ne.symm hj), Array.getElem?_setIfInBounds_ne (by omega)]
   ·obtain ⟨-, u, x1, -⟩ := x
    rw [hck, q] at x1; cases x1
 ·rename_i u q
  split at h
  ·rename_i hu
   by_cases hk1 : k + 1 < C.size
   ·simp only [setAt, hk1, if_true, Option.bind_some] at h
    have e := self (by simpa using hk) h
    subst e
    refine ⟨by simp, by simp [hk], fun j hj => ?_⟩
    by_cases ej : j = k + 1
    ·refine Or.inr ⟨?_, Or.inr ⟨ej, u, by rw [hck, q], hu⟩⟩
     rw [Array.getElem?_setIfInBounds_ne (Ne.symm hj), ej]
     simp [hk1]
    ·refine Or.inl ⟨?_, fun x => ?_, fun x => ej x.1⟩
     ·rw [Array.getElem?_setIfInBounds_ne (Ne.symm hj), Array.getElem?_setIfInBounds_ne (by omega)]
     ·obtain ⟨-, x1⟩ := x
      rw [hck, q] at x1; cases x1
   ·simp [setAt, hk1] at h
  ·rename_i hu
   have e := self hk h
   subst e
   refine ⟨by simp, by simp [hk], fun j hj => Or.inl ⟨Array.getElem?_setIfInBounds_ne (Ne.symm hj), fun x => ?_, fun x => ?_⟩⟩
   ·obtain ⟨-, x1⟩ := x
    rw [hck, q] at x1; cases x1
   ·obtain ⟨-, u', x1, x2⟩ := x
    rw [hck, q] at x1; cases x1; exact hu x2
 ·rename_i q
  have e := self hk h
  subst e
  refine ⟨by simp, by simp [hk], fun j hj => Or.inl ⟨Array.getElem?_setIfInBounds_ne (Ne.symm hj), fun x => ?_, fun x => ?_⟩⟩
  ·obtain ⟨-, x1⟩ := x
   rw [hck, q] at x1; cases x1
  ·obtain ⟨-, u', x1, x2⟩ := x
   rw [hck, q] at x1; cases x1
theorem set2_at {C D : Array Slot} {k : Nat} {w : Value} (hk : k + 1 < C.size) (hw : w.category = 2) (wf : ∀ k w, C[k]? = some (.val w) → w.category = 2 → C[k + 1]? = some .second) (h : storeLocals C k w = some D) :
  D.size = C.size ∧ D[k]? = some (.val w) ∧ D[k + 1]? = some .second ∧ ∀ j, j ≠ k → j ≠ k + 1 → (D[j]? = C[j]? ∧ ¬ kA C k j ∧ ¬ kD C k j) ∨ D[j]? = some .unset ∧ (kA C k j ∨ kD C k j) := by
 have hk0 : k < C.size := by omega
 have hck : C[k]? = some C[k] := Array.getElem?_eq_getElem hk0
 unfold storeLocals at h
 simp only [hck, Option.bind_eq_bind, Option.bind_some] at h
 have self : ∀ {E : Array Slot}, E.size = C.size → storeSelf E k w = some D → D.size = C.size ∧ D[k]? = some (.val w) ∧ D[k + 1]? = some .second ∧ ∀ j, j ≠ k → j ≠ k + 1 → (D[j]? = E[j]? ∧ ¬ kD E k j) ∨ D[j]? = some .unset ∧ kD E k j := by
  intro E hs q
  have h1 : k < E.size := by omega
  have h2 : k + 1 < E.size := by omega
  have h3 : (E.setIfInBounds k (.val w))[k + 1]? = some E[k + 1] := by rw [Array.getElem?_setIfInBounds_ne (by omega)]; exact Array.getElem?_eq_getElem h2
  simp only [storeSelf, setAt, h1, if_true, Option.bind_eq_bind, Option.bind_some, hw, h3] at q
  have plain : (¬ ∃ u, E[k + 1]? = some (.val u) ∧ u.category = 2) → some ((E.setIfInBounds k (.val w)).setIfInBounds (k + 1) .second) = some D → D.size = C.size ∧ D[k]? = some (.val w) ∧ D[k + 1]? = some .second ∧ ∀ j, j ≠ k → j ≠ k + 1 → (D[j]? = E[j]? ∧ ¬ kD E k j) ∨ D[j]? = some .unset ∧ kD E k j := by
   intro no q
   cases q
   refine ⟨by simp [hs], ?_, ?_, fun j hj hj1 => Or.inl ⟨?_, fun x => no x.2⟩⟩
   ·rw [Array.getElem?_setIfInBounds_ne (by omega)]; simp [h1]
   ·simp [h2]
   ·rw [Array.getElem?_setIfInBounds_ne (by omega), Array.getElem?_setIfInBounds_ne (by omega)]
  split at q
  ·rename_i u hu
   split at q
   ·rename_i hu2
    by_cases h5 : k + 2 < E.size
    ·simp [h5, h2] at q
     cases q
     refine ⟨by simp [hs], ?_, ?_, fun j hj hj1 => ?_⟩
     ·rw [Array.getElem?_setIfInBounds_ne (by omega), Array.getElem?_setIfInBounds_ne (by omega)]; simp [h1]
     ·simp [h2]
     ·by_cases e : j = k + 2
      ·refine Or.inr ⟨?_, e, u, by rw [Array.getElem?_eq_getElem h2, hu], hu2⟩
       rw [Array.getElem?_setIfInBounds_ne (by omega), e]
       simp [h5]
      ·refine Or.inl ⟨?_, fun x => e x.1⟩
       rw [Array.getElem?_setIfInBounds_ne (by omega), Array.getElem?_setIfInBounds_ne (by omega), Array.getElem?_setIfInBounds_ne (by omega)]
    ·simp [h5] at q
   ·rename_i hu2
    refine plain ?_ (by simpa [h2] using q)
    rintro ⟨u', x1, x2⟩
    rw [Array.getElem?_eq_getElem h2, hu] at x1; cases x1; exact hu2 x2
  ·rename_i hu
   refine plain ?_ (by simpa [h2] using q)
   rintro ⟨u', x1, x2⟩
   rw [Array.getElem?_eq_getElem h2] at x1; exact hu _ (Option.some.inj x1)
 split at h
 ·rename_i q
  have hk1 : k - 1 < C.size := by omega
  simp only [setAt, hk1, if_true, Option.bind_some] at h
  obtain ⟨e1, e2, e3, e4⟩ := self (by simp) h
  refine ⟨e1, e2, e3, fun j hj hj1 => ?_⟩
  have h6 : ∀ i, i + 1 ≠ k ∨ k = 0 → i ≠ k ∨ k ≠ 0 → (C.setIfInBounds (k - 1) Slot.unset)[i]? = C[i]? := fun i hi hi2 => Array.getElem?_setIfInBounds_ne (by omega)
  have h7 : (C.setIfInBounds (k - 1) Slot.unset)[k + 1]? = C[k + 1]? := Array.getElem?_setIfInBounds_ne (by omega)
  rcases e4 j hj hj1 with ⟨r, r'⟩ | ⟨r, r1, u, r2, r3⟩
  ·by_cases ej : k = j + 1
   ·refine Or.inr ⟨?_, Or.inl ⟨ej, by rw [hck, q]⟩⟩
    rw [r, show j = k - 1 by omega]; simp [hk1]
   ·refine Or.inl ⟨by rw [r]; exact h6 _ (by omega) (by omega), fun x => ej x.1, fun x => r' ⟨x.1, ?_⟩⟩
    rw [h7]; exact x.2
  ·exact Or.inr ⟨r, Or.inr ⟨r1, u, by rw [← h7]; exact r2, r3⟩⟩
 ·rename_i u q
  split at h
  ·rename_i hu
   simp only [setAt, hk, if_true, Option.bind_some] at h
   obtain ⟨e1, e2, e3, e4⟩ := self (by simp) h
   have hsec := wf k u (by rw [hck, q]) hu
   refine ⟨e1, e2, e3, fun j hj hj1 => ?_⟩
   rcases e4 j hj hj1 with ⟨r, r'⟩ | ⟨r, r1, u', r2, r3⟩
   ·refine Or.inl ⟨by rw [r]; exact Array.getElem?_setIfInBounds_ne (by omega), fun x => ?_, fun x => ?_⟩
    ·obtain ⟨-, x1⟩ := x
     rw [hck, q] at x1; cases x1
    ·obtain ⟨-, u', x1, x2⟩ := x
     rw [hsec] at x1; cases x1
   ·simp [hk] at r2
  ·rename_i hu
   obtain ⟨e1, e2, e3, e4⟩ := self rfl h
   refine ⟨e1, e2, e3, fun j hj hj1 => ?_⟩
   rcases e4 j hj hj1 with ⟨r, r'⟩ | ⟨r, r'⟩
   ·refine Or.inl ⟨r, fun x => ?_, r'⟩
    obtain ⟨-, x1⟩ := x
    rw [hck, q] at x1; cases x1
   ·exact Or.inr ⟨r, Or.inr r'⟩
 ·rename_i q
  obtain ⟨e1, e2, e3, e4⟩ := self rfl h
  refine ⟨e1, e2, e3, fun j hj hj1 => ?_⟩
  rcases e4 j hj hj1 with ⟨r, r'⟩ | ⟨r, r'⟩
  ·refine Or.inl ⟨r, fun x => ?_, r'⟩
   obtain ⟨-, x1⟩ := x
   rw [hck, q] at x1; cases x1
  ·exact Or.inr ⟨r, Or.inr r'⟩
theorem store_some {C : Array Slot} {k : Nat} {w : Value} (hk : k + (w.category - 1) < C.size) (hc : w.category = 1 ∨ w.category = 2) (wf : ∀ k w, C[k]? = some (.val w) → w.category = 2 → C[k + 1]? = some .second) :
  ∃ D, storeLocals C k w = some D := by
 have hk0 : k < C.size := by omega
 have hck : C[k]? = some C[k] := Array.getElem?_eq_getElem hk0
 have self : ∀ {E : Array Slot}, E.size = C.size → (∀ u, E[k + 1]? = some (.val u) → u.category = 2 → k + 2 < E.size) → ∃ D, storeSelf E k w = some D := by
  intro E hs hn
  have h1 : k < E.size := by omega
  simp only [storeSelf, setAt, h1, if_true, Option.bind_eq_bind, Option.bind_some]
  rcases hc with hc | hc
  ·exact ⟨E.setIfInBounds k (.val w), by simp [hc]⟩
  ·have h2 : k + 1 < E.size := by omega
   have h3 : (E.setIfInBounds k (.val w))[k + 1]? = some E[k + 1] := by rw [Array.getElem?_setIfInBounds_ne (by omega)]; exact Array.getElem?_eq_getElem h2
   simp only [hc, if_true, h3, Option.bind_some]
   split
   ·rename_i u hu
    split
    ·rename_i hu2
     have h5 := hn u (by rw [Array.getElem?_eq_getElem h2, hu]) hu2
     exact ⟨_, by simp [h5, h2]; rfl⟩
    ·exact ⟨_, by simp [h2]; rfl⟩
   ·exact ⟨_, by simp [h2]; rfl⟩
 have next : ∀ u, C[k + 1]? = some (.val u) → u.category = 2 → k + 2 < C.size := fun u h1 h2 => (Array.getElem?_eq_some_iff.mp (wf _ _ h1 h2)).1
 unfold storeLocals
 simp only [hck, Option.bind_eq_bind, Option.bind_some]
 split
 ·have hk1 : k - 1 < C.size := by omega
  simp only [setAt, hk1, if_true, Option.bind_some]
  refine self (by simp) fun u h1 h2 => ?_
  rw [Array.getElem?_setIfInBounds_ne (by omega)] at h1
  simpa using next u h1 h2
 ·rename_i u q
  split
  ·rename_i hu
   have h5 := (Array.getElem?_eq_some_iff.mp (wf k u (by rw [hck, q]) hu)).1
   simp only [setAt, h5, if_true, Option.bind_some]
   refine self (by simp) fun u h1 h2 => ?_
   simp [h5] at h1
  ·exact self rfl next
 ·exact self rfl next
theorem store_ok1 {ad : Nat → Addr} {L : QLoc} {C : Array Slot} {k : Nat} {v : Value} (H : QLocOk ad L C) (hv : v.category = 1) (hk : k < L.length) :
  ∃ D, storeLocals C k (qv ad v) = some D ∧ QLocOk ad ((lkill L k).set k (some v)) D ∧ D.size = C.size := by
 obtain ⟨H1, H2, H3, H4⟩ := H
 have hc : (qv ad v).category = 1 := by rw [qv_cat, hv]
 obtain ⟨D, hD⟩ := store_some (C := C) (k := k) (w := qv ad v) (by rw [hc]; omega) (Or.inl hc) H3
 obtain ⟨d1, d2, d3⟩ := set1_at (by omega) hc hD
 refine ⟨D, hD, ⟨by simp [lkill_len, H1, d1], fun j u hj => ?_, fun j w hj hw => ?_, fun j hj => ?_⟩, d1⟩
 ·rw [lget_set (by rw [lkill_len]; exact hk)] at hj
  split at hj
  ·rename_i e; cases hj; rw [e]; exact d2
  ·rename_i ne
   obtain ⟨g1, g2⟩ := lget_kill hj
   have g3 := H2 j u g1
   rcases d3 j ne with ⟨r, -, -⟩ | ⟨-, ⟨r1, r2⟩ | ⟨r1, w, r2, r3⟩⟩
   ·rw [r]; exact g3
   ·obtain ⟨i, w, z1, z2, z3⟩ := H4 k r2
    obtain rfl : i = j := by omega
    rw [g3] at z2
    cases z2
    rw [qv_cat] at z3
    exact absurd z3 (g2 r1)
   ·have := H3 k w r2 r3
    rw [← r1, g3] at this
    cases this
 ·by_cases e : j = k
  ·subst e; rw [d2] at hj; cases hj; rw [hc] at hw; cases hw
  ·rcases d3 j e with ⟨r, nA, nB⟩ | ⟨r, -⟩
   ·rw [r] at hj
    have g := H3 j w hj hw
    have e2 : j + 1 ≠ k := fun q => nA ⟨q.symm, by rw [← q]; exact g⟩
    rcases d3 (j + 1) e2 with ⟨z, -, -⟩ | ⟨-, ⟨z1, z2⟩ | ⟨z1, -⟩⟩
    ·rw [z]; exact g
    ·obtain ⟨i, u, y1, y2, y3⟩ := H4 k z2
     obtain rfl : i = j + 1 := by omega
     rw [g] at y2; cases y2
    ·omega
   ·rw [r] at hj; cases hj
 ·by_cases e : j = k
  ·subst e; rw [d2] at hj; cases hj
  ·rcases d3 j e with ⟨r, nA, nB⟩ | ⟨r, -⟩
   ·rw [r] at hj
    obtain ⟨i, w, y1, y2, y3⟩ := H4 j hj
    refine ⟨i, w, y1, ?_, y3⟩
    have ei : i ≠ k := fun q => nB ⟨by omega, w, by rw [← q]; exact y2, y3⟩
    rcases d3 i ei with ⟨z, -, -⟩ | ⟨-, ⟨z1, z2⟩ | ⟨z1, u, z2, z3⟩⟩
    ·rw [z]; exact y2
    ·omega
    ·have := H3 k u z2 z3
     rw [← z1, y2] at this; cases this
   ·rw [r] at hj; cases hj
theorem store_ok2 {ad : Nat → Addr} {L : QLoc} {C : Array Slot} {k : Nat} {x : Int64} (H : QLocOk ad L C) (hk : k + 1 < L.length) :
  ∃ D, storeLocals C k (.long x) = some D ∧ QLocOk ad (((lkill L k).set k (some (.long x))).set (k + 1) none) D ∧ D.size = C.size := by
 obtain ⟨H1, H2, H3, H4⟩ := H
 have hc : (Value.long x).category = 2 := rfl
 obtain ⟨D, hD⟩ := store_some (C := C) (k := k) (w := .long x) (by rw [hc]; omega) (Or.inr hc) H3
 obtain ⟨d1, d2, d2', d3⟩ := set2_at (by omega) hc H3 hD
 refine ⟨D, hD, ⟨by simp [lkill_len, H1, d1], fun j u hj => ?_, fun j w hj hw => ?_, fun j hj => ?_⟩, d1⟩
 ·rw [lget_set (by simp [lkill_len]; exact hk)] at hj
  split at hj
  ·cases hj
  ·rename_i ne1
   rw [lget_set (by rw [lkill_len]; omega)] at hj
   split at hj
   ·rename_i e; cases hj; rw [e]; exact d2
   ·rename_i ne
    obtain ⟨g1, g2⟩ := lget_kill hj
    have g3 := H2 j u g1
    rcases d3 j ne ne1 with ⟨r, -, -⟩ | ⟨-, ⟨r1, r2⟩ | ⟨r1, w, r2, r3⟩⟩
    ·rw [r]; exact g3
    ·obtain ⟨i, w, z1, z2, z3⟩ := H4 k r2
     obtain rfl : i = j := by omega
     rw [g3] at z2
     cases z2
     rw [qv_cat] at z3
     exact absurd z3 (g2 r1)
    ·have := H3 (k + 1) w r2 r3
     rw [show k + 1 + 1 = j by omega, g3] at this
     cases this
 ·by_cases e : j = k
  ·rw [e]; exact d2'
  ·by_cases e1 : j = k + 1
   ·rw [e1, d2'] at hj; cases hj
   ·rcases d3 j e e1 with ⟨r, nA, nB⟩ | ⟨r, -⟩
    ·rw [r] at hj
     have g := H3 j w hj hw
     have e2 : j + 1 ≠ k := fun q => nA ⟨q.symm, by rw [← q]; exact g⟩
     rcases d3 (j + 1) e2 (by omega) with ⟨z, -, -⟩ | ⟨-, ⟨z1, z2⟩ | ⟨z1, -⟩⟩
     ·rw [z]; exact g
     ·obtain ⟨i, u, y1, y2, y3⟩ := H4 k z2
      obtain rfl : i = j + 1 := by omega
      rw [g] at y2; cases y2
     ·omega
    ·rw [r] at hj; cases hj
 ·by_cases e : j = k
  ·rw [e, d2] at hj; cases hj
  ·by_cases e1 : j = k + 1
   ·exact ⟨k, _, e1, d2, hc⟩
   ·rcases d3 j e e1 with ⟨r, nA, nB⟩ | ⟨r, -⟩
    ·rw [r] at hj
     obtain ⟨i, w, y1, y2, y3⟩ := H4 j hj
     refine ⟨i, w, y1, ?_, y3⟩
     have ei : i ≠ k := fun q => e1 (by omega)
     have ei1 : i ≠ k + 1 := fun q => nB ⟨by omega, w, by rw [← q]; exact y2, y3⟩
     rcases d3 i ei ei1 with ⟨z, -, -⟩ | ⟨-, ⟨z1, z2⟩ | ⟨z1, u, z2, z3⟩⟩
     ·rw [z]; exact y2
     ·omega
     ·have := H3 (k + 1) u z2 z3
      rw [show k + 1 + 1 = i by omega, y2] at this; cases this
    ·rw [r] at hj; cases hj
theorem store_ok {ad : Nat → Addr} {L L' : QLoc} {C : Array Slot} {k : Nat} {v : Value} (H : QLocOk ad L C) (h : lput L k v = some L') :
  ∃ D, storeLocals C k (qv ad v) = some D ∧ QLocOk ad L' D ∧ D.size = C.size := by
 have one : v.category = 1 → (bif Nat.ble (k + 1) L.length then some ((lkill L k).set k (some v)) else none) = some L' → ∃ D, storeLocals C k (qv ad v) = some D ∧ QLocOk ad L' D ∧ D.size = C.size := by
  intro hv h
  cases hb : Nat.ble (k + 1) L.length with
  | false => rw [hb] at h; cases h
  | true => rw [hb] at h; cases h; exact store_ok1 H hv (Nat.le_of_ble_eq_true hb)
 cases v with
 | long x =>
  simp only [lput] at h
  cases hb : Nat.ble (k + 2) L.length with
  | false => rw [hb] at h; cases h
  | true => rw [hb] at h; cases h; exact store_ok2 H (Nat.le_of_ble_eq_true hb)
 | double x => simp [lput] at h
 | int x => exact one rfl h
 | float x => exact one rfl h
 | null => exact one rfl h
 | ref x => exact one rfl h
 | retAddr x => exact one rfl h
theorem fInj : ∀ i, i < nF → ∀ j, j < nF → fNm i = fNm j → i = j := by decide +kernel
theorem fPrs : ∀ i, i < nF → parseFieldDescriptor (fDs i) = some (fTy i) := by decide +kernel
theorem cDefs : ∀ i, i < nF → vget cDef i = some (defaultValue (fTy i)) := by decide +kernel
theorem cDefL : cDef.length = nF := by decide +kernel
theorem fDef : ∀ i, i < nF → ∀ a, defaultValue (fTy i) ≠ .ref a := by
 intro i _ a
 cases fTy i <;> simp [defaultValue]
theorem kPlain : ∀ k, k < 2 → plainName (kName k) = true := by
 intro k hk
 rcases k with _ | _ | k
 ·first | decide +kernel | (simp [kName, plainName, overriddenIn]; done)
 ·first | decide +kernel | (simp [kName, plainName, overriddenIn]; done)
 ·omega
theorem pKlt : ∀ m, m < pN → pK m < 2 := by decide +kernel
theorem pSig : ∀ m, m < pN → (parseMethodDescriptor (pDs m)).map (fun sg => sg.parameters.length) = some (pNA m) := by decide +kernel
theorem pOwn : ∀ k, k < 2 → kName k ≠ "java/lang/invoke/MethodHandle" ∧ kName k ≠ "java/lang/invoke/VarHandle" := by decide +kernel
theorem mAlt : ∀ m ∈ mA, m < pN := by decide +kernel
theorem mVlt : ∀ m ∈ mV, m ∈ mA ∧ pK m = 1 := by decide +kernel
theorem mPlt : ∀ m ∈ mP, m ∈ mA ∧ pK m = 1 := by decide +kernel
theorem mSlt : ∀ m ∈ mS, m ∈ mA := by decide +kernel
theorem mIlt : ∀ m ∈ mI, m ∈ mA ∧ pK m = 1 ∧ pNm m = "<init>" ∧ pRet m = none := by decide +kernel
theorem kOne : kName 1 = cName := rfl
def pX (m pc : Nat) : Bool := match pCode m pc with | some t => qchk m pc t.1 t.2 | none => true
set_option maxRecDepth 100000 in
set_option maxHeartbeats 4000000 in
theorem pC0_0 : ∀ q, q < 128 → pX 0 (0 + q) = true := by decide +kernel
set_option maxRecDepth 100000 in
set_option maxHeartbeats 4000000 in
theorem pC0_128 : ∀ q, q < 128 → pX 0 (128 + q) = true := by decide +kernel
set_option maxRecDepth 100000 in
set_option maxHeartbeats 4000000 in
theorem pC0_256 : ∀ q, q < 8 → pX 0 (256 + q) = true := by decide +kernel
theorem pCm0 (pc : Nat) (h : pc < pTop 0) : pX 0 pc = true := by
 replace h : pc < 264 := h
 by_cases h0 : pc < 128
 ·have q := pC0_0 (pc - 0) (by omega)
  rwa [show 0 + (pc - 0) = pc from by omega] at q
 by_cases h128 : pc < 256
 ·have q := pC0_128 (pc - 128) (by omega)
  rwa [show 128 + (pc - 128) = pc from by omega] at q
 have q := pC0_256 (pc - 256) (by omega)
 rwa [show 256 + (pc - 256) = pc from by omega] at q
set_option maxRecDepth 100000 in
set_option maxHeartbeats 4000000 in
theorem pC1_0 : ∀ q, q < 128 → pX 1 (0 + q) = true := by decide +kernel
set_option maxRecDepth 100000 in
set_option maxHeartbeats 4000000 in
theorem pC1_128 : ∀ q, q < 27 → pX 1 (128 + q) = true := by decide +kernel
theorem pCm1 (pc : Nat) (h : pc < pTop 1) : pX 1 pc = true := by
 replace h : pc < 155 := h
 by_cases h0 : pc < 128
 ·have q := pC1_0 (pc - 0) (by omega)
  rwa [show 0 + (pc - 0) = pc from by omega] at q
 have q := pC1_128 (pc - 128) (by omega)
 rwa [show 128 + (pc - 128) = pc from by omega] at q
set_option maxRecDepth 100000 in
set_option maxHeartbeats 4000000 in
theorem pC2_0 : ∀ q, q < 42 → pX 2 (0 + q) = true := by decide +kernel
theorem pCm2 (pc : Nat) (h : pc < pTop 2) : pX 2 pc = true := by
 replace h : pc < 42 := h
 have q := pC2_0 (pc - 0) (by omega)
 rwa [show 0 + (pc - 0) = pc from by omega] at q
set_option maxRecDepth 100000 in
set_option maxHeartbeats 4000000 in
theorem pC3_0 : ∀ q, q < 10 → pX 3 (0 + q) = true := by decide +kernel
theorem pCm3 (pc : Nat) (h : pc < pTop 3) : pX 3 pc = true := by
 replace h : pc < 10 := h
 have q := pC3_0 (pc - 0) (by omega)
 rwa [show 0 + (pc - 0) = pc from by omega] at q
set_option maxRecDepth 100000 in
set_option maxHeartbeats 4000000 in
theorem pC4_0 : ∀ q, q < 55 → pX 4 (0 + q) = true := by decide +kernel
theorem pCm4 (pc : Nat) (h : pc < pTop 4) : pX 4 pc = true := by
 replace h : pc < 55 := h
 have q := pC4_0 (pc - 0) (by omega)
 rwa [show 0 + (pc - 0) = pc from by omega] at q
set_option maxRecDepth 100000 in
set_option maxHeartbeats 4000000 in
theorem pC5_0 : ∀ q, q < 15 → pX 5 (0 + q) = true := by decide +kernel
theorem pCm5 (pc : Nat) (h : pc < pTop 5) : pX 5 pc = true := by
 replace h : pc < 15 := h
 have q := pC5_0 (pc - 0) (by omega)
 rwa [show 0 + (pc - 0) = pc from by omega] at q
set_option maxRecDepth 100000 in
set_option maxHeartbeats 4000000 in
theorem pC6_0 : ∀ q, q < 58 → pX 6 (0 + q) = true := by decide +kernel
theorem pCm6 (pc : Nat) (h : pc < pTop 6) : pX 6 pc = true := by
 replace h : pc < 58 := h
 have q := pC6_0 (pc - 0) (by omega)
 rwa [show 0 + (pc - 0) = pc from by omega] at q
set_option maxRecDepth 100000 in
set_option maxHeartbeats 4000000 in
theorem pC7_0 : ∀ q, q < 58 → pX 7 (0 + q) = true := by decide +kernel
theorem pCm7 (pc : Nat) (h : pc < pTop 7) : pX 7 pc = true := by
 replace h : pc < 58 := h
 have q := pC7_0 (pc - 0) (by omega)
 rwa [show 0 + (pc - 0) = pc from by omega] at q
set_option maxRecDepth 100000 in
set_option maxHeartbeats 4000000 in
theorem pC8_0 : ∀ q, q < 84 → pX 8 (0 + q) = true := by decide +kernel
theorem pCm8 (pc : Nat) (h : pc < pTop 8) : pX 8 pc = true := by
 replace h : pc < 84 := h
 have q := pC8_0 (pc - 0) (by omega)
 rwa [show 0 + (pc - 0) = pc from by omega] at q
set_option maxRecDepth 100000 in
set_option maxHeartbeats 4000000 in
theorem pC9_0 : ∀ q, q < 84 → pX 9 (0 + q) = true := by decide +kernel
theorem pCm9 (pc : Nat) (h : pc < pTop 9) : pX 9 pc = true := by
 replace h : pc < 84 := h
 have q := pC9_0 (pc - 0) (by omega)
 rwa [show 0 + (pc - 0) = pc from by omega] at q
set_option maxRecDepth 100000 in
set_option maxHeartbeats 4000000 in
theorem pC10_0 : ∀ q, q < 92 → pX 10 (0 + q) = true := by decide +kernel
theorem pCm10 (pc : Nat) (h : pc < pTop 10) : pX 10 pc = true := by
 replace h : pc < 92 := h
 have q := pC10_0 (pc - 0) (by omega)
 rwa [show 0 + (pc - 0) = pc from by omega] at q
set_option maxRecDepth 100000 in
set_option maxHeartbeats 4000000 in
theorem pC11_0 : ∀ q, q < 25 → pX 11 (0 + q) = true := by decide +kernel
theorem pCm11 (pc : Nat) (h : pc < pTop 11) : pX 11 pc = true := by
 replace h : pc < 25 := h
 have q := pC11_0 (pc - 0) (by omega)
 rwa [show 0 + (pc - 0) = pc from by omega] at q
set_option maxRecDepth 100000 in
set_option maxHeartbeats 4000000 in
theorem pC12_0 : ∀ q, q < 67 → pX 12 (0 + q) = true := by decide +kernel
theorem pCm12 (pc : Nat) (h : pc < pTop 12) : pX 12 pc = true := by
 replace h : pc < 67 := h
 have q := pC12_0 (pc - 0) (by omega)
 rwa [show 0 + (pc - 0) = pc from by omega] at q
set_option maxRecDepth 100000 in
set_option maxHeartbeats 4000000 in
theorem pC13_0 : ∀ q, q < 9 → pX 13 (0 + q) = true := by decide +kernel
theorem pCm13 (pc : Nat) (h : pc < pTop 13) : pX 13 pc = true := by
 replace h : pc < 9 := h
 have q := pC13_0 (pc - 0) (by omega)
 rwa [show 0 + (pc - 0) = pc from by omega] at q
set_option maxRecDepth 100000 in
set_option maxHeartbeats 4000000 in
theorem pC14_0 : ∀ q, q < 58 → pX 14 (0 + q) = true := by decide +kernel
theorem pCm14 (pc : Nat) (h : pc < pTop 14) : pX 14 pc = true := by
 replace h : pc < 58 := h
 have q := pC14_0 (pc - 0) (by omega)
 rwa [show 0 + (pc - 0) = pc from by omega] at q
set_option maxRecDepth 100000 in
set_option maxHeartbeats 4000000 in
theorem pC15_0 : ∀ q, q < 128 → pX 15 (0 + q) = true := by decide +kernel
set_option maxRecDepth 100000 in
set_option maxHeartbeats 4000000 in
theorem pC15_128 : ∀ q, q < 75 → pX 15 (128 + q) = true := by decide +kernel
theorem pCm15 (pc : Nat) (h : pc < pTop 15) : pX 15 pc = true := by
 replace h : pc < 203 := h
 by_cases h0 : pc < 128
 ·have q := pC15_0 (pc - 0) (by omega)
  rwa [show 0 + (pc - 0) = pc from by omega] at q
 have q := pC15_128 (pc - 128) (by omega)
 rwa [show 128 + (pc - 128) = pc from by omega] at q
set_option maxRecDepth 100000 in
set_option maxHeartbeats 4000000 in
theorem pC16_0 : ∀ q, q < 13 → pX 16 (0 + q) = true := by decide +kernel
theorem pCm16 (pc : Nat) (h : pc < pTop 16) : pX 16 pc = true := by
 replace h : pc < 13 := h
 have q := pC16_0 (pc - 0) (by omega)
 rwa [show 0 + (pc - 0) = pc from by omega] at q
set_option maxRecDepth 100000 in
set_option maxHeartbeats 4000000 in
theorem pC17_0 : ∀ q, q < 42 → pX 17 (0 + q) = true := by decide +kernel
theorem pCm17 (pc : Nat) (h : pc < pTop 17) : pX 17 pc = true := by
 replace h : pc < 42 := h
 have q := pC17_0 (pc - 0) (by omega)
 rwa [show 0 + (pc - 0) = pc from by omega] at q
set_option maxRecDepth 100000 in
set_option maxHeartbeats 4000000 in
theorem pC18_0 : ∀ q, q < 38 → pX 18 (0 + q) = true := by decide +kernel
theorem pCm18 (pc : Nat) (h : pc < pTop 18) : pX 18 pc = true := by
 replace h : pc < 38 := h
 have q := pC18_0 (pc - 0) (by omega)
 rwa [show 0 + (pc - 0) = pc from by omega] at q
set_option maxRecDepth 100000 in
set_option maxHeartbeats 4000000 in
theorem pC19_0 : ∀ q, q < 85 → pX 19 (0 + q) = true := by decide +kernel
theorem pCm19 (pc : Nat) (h : pc < pTop 19) : pX 19 pc = true := by
 replace h : pc < 85 := h
 have q := pC19_0 (pc - 0) (by omega)
 rwa [show 0 + (pc - 0) = pc from by omega] at q
set_option maxRecDepth 100000 in
set_option maxHeartbeats 4000000 in
theorem pC20_0 : ∀ q, q < 67 → pX 20 (0 + q) = true := by decide +kernel
theorem pCm20 (pc : Nat) (h : pc < pTop 20) : pX 20 pc = true := by
 replace h : pc < 67 := h
 have q := pC20_0 (pc - 0) (by omega)
 rwa [show 0 + (pc - 0) = pc from by omega] at q
set_option maxRecDepth 100000 in
set_option maxHeartbeats 4000000 in
theorem pC21_0 : ∀ q, q < 67 → pX 21 (0 + q) = true := by decide +kernel
theorem pCm21 (pc : Nat) (h : pc < pTop 21) : pX 21 pc = true := by
 replace h : pc < 67 := h
 have q := pC21_0 (pc - 0) (by omega)
 rwa [show 0 + (pc - 0) = pc from by omega] at q
set_option maxRecDepth 100000 in
set_option maxHeartbeats 4000000 in
theorem pC22_0 : ∀ q, q < 31 → pX 22 (0 + q) = true := by decide +kernel
theorem pCm22 (pc : Nat) (h : pc < pTop 22) : pX 22 pc = true := by
 replace h : pc < 31 := h
 have q := pC22_0 (pc - 0) (by omega)
 rwa [show 0 + (pc - 0) = pc from by omega] at q
set_option maxRecDepth 100000 in
set_option maxHeartbeats 4000000 in
theorem pC23_0 : ∀ q, q < 23 → pX 23 (0 + q) = true := by decide +kernel
theorem pCm23 (pc : Nat) (h : pc < pTop 23) : pX 23 pc = true := by
 replace h : pc < 23 := h
 have q := pC23_0 (pc - 0) (by omega)
 rwa [show 0 + (pc - 0) = pc from by omega] at q
set_option maxRecDepth 100000 in
set_option maxHeartbeats 4000000 in
theorem pC24_0 : ∀ q, q < 23 → pX 24 (0 + q) = true := by decide +kernel
theorem pCm24 (pc : Nat) (h : pc < pTop 24) : pX 24 pc = true := by
 replace h : pc < 23 := h
 have q := pC24_0 (pc - 0) (by omega)
 rwa [show 0 + (pc - 0) = pc from by omega] at q
set_option maxRecDepth 100000 in
set_option maxHeartbeats 4000000 in
theorem pC25_0 : ∀ q, q < 16 → pX 25 (0 + q) = true := by decide +kernel
theorem pCm25 (pc : Nat) (h : pc < pTop 25) : pX 25 pc = true := by
 replace h : pc < 16 := h
 have q := pC25_0 (pc - 0) (by omega)
 rwa [show 0 + (pc - 0) = pc from by omega] at q
set_option maxRecDepth 100000 in
set_option maxHeartbeats 4000000 in
theorem pC26_0 : ∀ q, q < 31 → pX 26 (0 + q) = true := by decide +kernel
theorem pCm26 (pc : Nat) (h : pc < pTop 26) : pX 26 pc = true := by
 replace h : pc < 31 := h
 have q := pC26_0 (pc - 0) (by omega)
 rwa [show 0 + (pc - 0) = pc from by omega] at q
set_option maxRecDepth 100000 in
set_option maxHeartbeats 4000000 in
theorem pC27_0 : ∀ q, q < 15 → pX 27 (0 + q) = true := by decide +kernel
theorem pCm27 (pc : Nat) (h : pc < pTop 27) : pX 27 pc = true := by
 replace h : pc < 15 := h
 have q := pC27_0 (pc - 0) (by omega)
 rwa [show 0 + (pc - 0) = pc from by omega] at q
set_option maxRecDepth 100000 in
set_option maxHeartbeats 4000000 in
theorem pC28_0 : ∀ q, q < 33 → pX 28 (0 + q) = true := by decide +kernel
theorem pCm28 (pc : Nat) (h : pc < pTop 28) : pX 28 pc = true := by
 replace h : pc < 33 := h
 have q := pC28_0 (pc - 0) (by omega)
 rwa [show 0 + (pc - 0) = pc from by omega] at q
set_option maxRecDepth 100000 in
set_option maxHeartbeats 4000000 in
theorem pC29_0 : ∀ q, q < 67 → pX 29 (0 + q) = true := by decide +kernel
theorem pCm29 (pc : Nat) (h : pc < pTop 29) : pX 29 pc = true := by
 replace h : pc < 67 := h
 have q := pC29_0 (pc - 0) (by omega)
 rwa [show 0 + (pc - 0) = pc from by omega] at q
set_option maxRecDepth 100000 in
set_option maxHeartbeats 4000000 in
theorem pC30_0 : ∀ q, q < 29 → pX 30 (0 + q) = true := by decide +kernel
theorem pCm30 (pc : Nat) (h : pc < pTop 30) : pX 30 pc = true := by
 replace h : pc < 29 := h
 have q := pC30_0 (pc - 0) (by omega)
 rwa [show 0 + (pc - 0) = pc from by omega] at q
theorem pChk0 : ∀ m, m < pN → ∀ pc, pc < pTop m → (match pCode m pc with | some t => qchk m pc t.1 t.2 | none => true) = true := by
 intro m hm pc hp
 change pX m pc = true
 match m, hm, hp with
 | 0, _, hp => exact pCm0 pc hp
 | 1, _, hp => exact pCm1 pc hp
 | 2, _, hp => exact pCm2 pc hp
 | 3, _, hp => exact pCm3 pc hp
 | 4, _, hp => exact pCm4 pc hp
 | 5, _, hp => exact pCm5 pc hp
 | 6, _, hp => exact pCm6 pc hp
 | 7, _, hp => exact pCm7 pc hp
 | 8, _, hp => exact pCm8 pc hp
 | 9, _, hp => exact pCm9 pc hp
 | 10, _, hp => exact pCm10 pc hp
 | 11, _, hp => exact pCm11 pc hp
 | 12, _, hp => exact pCm12 pc hp
 | 13, _, hp => exact pCm13 pc hp
 | 14, _, hp => exact pCm14 pc hp
 | 15, _, hp => exact pCm15 pc hp
 | 16, _, hp => exact pCm16 pc hp
 | 17, _, hp => exact pCm17 pc hp
 | 18, _, hp => exact pCm18 pc hp
 | 19, _, hp => exact pCm19 pc hp
 | 20, _, hp => exact pCm20 pc hp
 | 21, _, hp => exact pCm21 pc hp
 | 22, _, hp => exact pCm22 pc hp
 | 23, _, hp => exact pCm23 pc hp
 | 24, _, hp => exact pCm24 pc hp
 | 25, _, hp => exact pCm25 pc hp
 | 26, _, hp => exact pCm26 pc hp
 | 27, _, hp => exact pCm27 pc hp
 | 28, _, hp => exact pCm28 pc hp
 | 29, _, hp => exact pCm29 pc hp
 | 30, _, hp => exact pCm30 pc hp
 | m + 31, hm, _ => exact absurd hm (by unfold pN; omega)
theorem pIn {m pc : Nat} {t : Instr × Nat} (h : pCode m pc = some t) : m < pN ∧ pc < pTop m := by
 unfold pCode at h
 cases h1 : Nat.ble pN m with
 | true => rw [h1] at h; cases h
 | false =>
  cases h2 : Nat.ble (pTop m) pc with
  | true => rw [h1, h2] at h; cases h
  | false => exact ⟨Nat.lt_of_not_le (fun q => by rw [Nat.ble_eq_true_of_le q] at h1; cases h1), Nat.lt_of_not_le (fun q => by rw [Nat.ble_eq_true_of_le q] at h2; cases h2)⟩
theorem pChk {m pc : Nat} {i : Instr} {aux : Nat} (h : pCode m pc = some (i, aux)) : qchk m pc i aux = true := by
 have q := pChk0 m (pIn h).1 pc (pIn h).2
 rw [h] at q
 exact q
theorem pDec {m pc : Nat} {i : Instr} {aux : Nat} (h : pCode m pc = some (i, aux)) : decode (pBytes m) pc = .ok (i, ilen i) := by
 have q := pChk h
 unfold qchk at q
 exact of_decide_eq_true (Bool.and_eq_true_iff.mp q).1
theorem pDecN {m pc n : Nat} {i : Instr} {aux : Nat} (h : pCode m pc = some (i, aux)) (hn : ilen i = n) : decode (pBytes m) pc = .ok (i, n) := by
 rw [← hn]; exact pDec h
theorem pRest {m pc : Nat} {i : Instr} {aux : Nat} (h : pCode m pc = some (i, aux)) : qlk m pc i aux = true := by
 have q := pChk h
 unfold qchk at q
 exact (Bool.and_eq_true_iff.mp q).2
theorem qtgt_spec {pc : Nat} {o : Int} {aux : Nat} (h : qtgt pc o aux = true) : 0 ≤ (pc : Int) + o ∧ ((pc : Int) + o).toNat = aux := by
 unfold qtgt at h
 have h2 := Bool.and_eq_true_iff.mp h
 exact ⟨of_decide_eq_true h2.1, of_decide_eq_true h2.2⟩
def QCx (Z : State) (p : Program) (R : Room) (s : State) (mid : MethodId) (meth : Method) (c : Code) (m : Nat) : Prop :=
 p.tables.exec = Jvm.exec ∧ Z.Warmed39 s.vm ∧ c.code = pBytes m ∧ c.maxLocals = pMaxL m ∧ meth.sig.returnType = pRet m ∧ s.vm.findClass (kName (pK m)) = some mid.cls ∧ meth.name = pNm m ∧ pFr m ≤ R.frames ∧ pLo m ≤ R.locals
def QTri (l : Launch) (Z : State) (n0 : Nat) (ad : Nat → Addr) (m : Nat) (st : QSt) (v : Option Value) (σ' : QHeap) : Prop :=
 st.2.2.2.length ≤ σ'.length ∧ qhs st.2.2.2 ≤ qhs σ' ∧
 ∀ (p : Program) (e : Env) (R : Room) (s : State) (mid : MethodId) (args : Array Value) (below : List Frame) (meth : Method) (c : Code) (T : State) (locs : List Loc) (cells slots : Nat) (C : Array Slot),
  QCx Z p R s mid meth c m → Stand p l e R s mid args below meth c T locs cells slots → QRep Z n0 ad T.heap st.2.2.2 → Fr n0 locs → QLocOk ad st.2.1 C → C.size = c.maxLocals →
  n0 + (st.2.2.2.length - k0) = s.heap.size + cells → cells + (σ'.length - st.2.2.2.length) ≤ R.cells → slots + (qhs σ' - qhs st.2.2.2) ≤ R.slots →
  ∃ T' locs', Stand p l e R s mid args below meth c T' locs' (cells + (σ'.length - st.2.2.2.length)) (slots + (qhs σ' - qhs st.2.2.2)) ∧ QRep Z n0 ad T'.heap σ' ∧ Fr n0 locs' ∧
   ∀ fs, (∀ (f : JFrame) (acts : List Action), f.method = mid → f.locked = none → f.entered = [] → (doReturn e (T'.setTop f) acts (v.map (qv ad))).1 = T'.setFrames fs) →
    Steps p.tables e below (T.setTop (mkF mid st.1 C (st.2.2.1.map (qv ad)))) (T'.setFrames fs)
section Triples
variable {l : Launch} {Z : State} {n0 : Nat} {ad : Nat → Addr} {a0 : Array Value} {m : Nat} {v : Option Value} {σ' : QHeap}
theorem QTri.gen {st st' : QSt} (h : QTri l Z n0 ad m st' v σ') (g1 : st.2.2.2.length ≤ st'.2.2.2.length) (g2 : qhs st.2.2.2 ≤ qhs st'.2.2.2)
  (hs : ∀ (p : Program) (e : Env) (R : Room) (s : State) (mid : MethodId) (args : Array Value) (below : List Frame) (meth : Method) (c : Code) (T : State) (locs : List Loc) (cells slots : Nat) (C : Array Slot),
   QCx Z p R s mid meth c m → Stand p l e R s mid args below meth c T locs cells slots → QRep Z n0 ad T.heap st.2.2.2 → Fr n0 locs → QLocOk ad st.2.1 C → C.size = c.maxLocals →
   n0 + (st.2.2.2.length - k0) = s.heap.size + cells → cells + (st'.2.2.2.length - st.2.2.2.length) ≤ R.cells → slots + (qhs st'.2.2.2 - qhs st.2.2.2) ≤ R.slots →
   ∃ T₁ locs₁ C₁, Stand p l e R s mid args below meth c T₁ locs₁ (cells + (st'.2.2.2.length - st.2.2.2.length)) (slots + (qhs st'.2.2.2 - qhs st.2.2.2)) ∧ QRep Z n0 ad T₁.heap st'.2.2.2 ∧ Fr n0 locs₁ ∧ QLocOk ad st'.2.1 C₁ ∧ C₁.size = c.maxLocals ∧
    ∀ target, Steps p.tables e below (T₁.setTop (mkF mid st'.1 C₁ (st'.2.2.1.map (qv ad)))) target → Steps p.tables e below (T.setTop (mkF mid st.1 C (st.2.2.1.map (qv ad)))) target) :
  QTri l Z n0 ad m st v σ' := by
 obtain ⟨h1, h2, h3⟩ := h
 refine ⟨Nat.le_trans g1 h1, Nat.le_trans g2 h2, fun p e R s mid args below meth c T locs cells slots C hcx X hR hF hL hC hn hc hsl => ?_⟩
 obtain ⟨T₁, locs₁, C₁, X₁, R₁, F₁, L₁, C1, S₁⟩ := hs p e R s mid args below meth c T locs cells slots C hcx X hR hF hL hC hn (by omega) (by omega)
 have hk := hR.1
 obtain ⟨T', locs', X', R', F', S'⟩ := h3 p e R s mid args below meth c T₁ locs₁ _ _ C₁ hcx X₁ R₁ F₁ L₁ C1 (by omega) (by omega) (by omega)
 have e1 : cells + (st'.2.2.2.length - st.2.2.2.length) + (σ'.length - st'.2.2.2.length) = cells + (σ'.length - st.2.2.2.length) := by omega
 have e2 : slots + (qhs st'.2.2.2 - qhs st.2.2.2) + (qhs σ' - qhs st'.2.2.2) = slots + (qhs σ' - qhs st.2.2.2) := by omega
 rw [e1, e2] at X'
 exact ⟨T', locs', X', R', F', fun fs hf => S₁ _ (S' fs hf)⟩
theorem QTri.pure {st st' : QSt} (h : QTri l Z n0 ad m st' v σ') (hσ : st'.2.2.2 = st.2.2.2)
  (hs : ∀ (p : Program) (e : Env) (R : Room) (s : State) (mid : MethodId) (args : Array Value) (below : List Frame) (meth : Method) (c : Code) (T : State) (locs : List Loc) (cells slots : Nat) (C : Array Slot),
   QCx Z p R s mid meth c m → Stand p l e R s mid args below meth c T locs cells slots → QRep Z n0 ad T.heap st.2.2.2 → QLocOk ad st.2.1 C → C.size = c.maxLocals →
   ∃ T₁ C₁, Stand p l e R s mid args below meth c T₁ locs cells slots ∧ T₁.heap = T.heap ∧ QLocOk ad st'.2.1 C₁ ∧ C₁.size = c.maxLocals ∧
    ∀ target, Steps p.tables e below (T₁.setTop (mkF mid st'.1 C₁ (st'.2.2.1.map (qv ad)))) target → Steps p.tables e below (T.setTop (mkF mid st.1 C (st.2.2.1.map (qv ad)))) target) :
  QTri l Z n0 ad m st v σ' := by
 refine QTri.gen h (by rw [hσ]; exact Nat.le_refl _) (by rw [hσ]; exact Nat.le_refl _) fun p e R s mid args below meth c T locs cells slots C hcx X hR hF hL hC hn hc hsl => ?_
 obtain ⟨T₁, C₁, X₁, hh, L₁, C1, S₁⟩ := hs p e R s mid args below meth c T locs cells slots C hcx X hR hL hC
 refine ⟨T₁, locs, C₁, ?_, by rw [hσ, hh]; exact hR, hF, L₁, C1, S₁⟩
 rw [hσ, Nat.sub_self, Nat.sub_self]
 exact X₁
theorem QTri.frame {pc pc' : Nat} {L L' : QLoc} {S S' : List Value} {σ : QHeap} (h : QTri l Z n0 ad m (pc', L', S', σ) v σ')
  (hs : ∀ (p : Program) (e : Env) (R : Room) (s : State) (mid : MethodId) (args : Array Value) (below : List Frame) (meth : Method) (c : Code) (T : State) (locs : List Loc) (cells slots : Nat) (C : Array Slot),
   QCx Z p R s mid meth c m → Stand p l e R s mid args below meth c T locs cells slots → QRep Z n0 ad T.heap σ → QLocOk ad L C → C.size = c.maxLocals →
   ∃ C₁, QLocOk ad L' C₁ ∧ C₁.size = c.maxLocals ∧ ∀ target, Steps p.tables e below (T.setTop (mkF mid pc' C₁ (S'.map (qv ad)))) target → Steps p.tables e below (T.setTop (mkF mid pc C (S.map (qv ad)))) target) :
  QTri l Z n0 ad m (pc, L, S, σ) v σ' :=
 QTri.pure h rfl fun p e R s mid args below meth c T locs cells slots C hcx X hR hL hC => by
  obtain ⟨C₁, h1, h2, h3⟩ := hs p e R s mid args below meth c T locs cells slots C hcx X hR hL hC
  exact ⟨T, C₁, X, rfl, h1, h2, h3⟩
theorem QTri.stack {pc pc' : Nat} {L : QLoc} {S S' : List Value} {σ : QHeap} (h : QTri l Z n0 ad m (pc', L, S', σ) v σ')
  (hs : ∀ (p : Program) (e : Env) (R : Room) (s : State) (mid : MethodId) (args : Array Value) (below : List Frame) (meth : Method) (c : Code) (T : State) (locs : List Loc) (cells slots : Nat) (C : Array Slot) (target : State),
   p.tables.exec = Jvm.exec → Z.Warmed39 s.vm → c.code = pBytes m → s.vm.findClass (kName (pK m)) = some mid.cls → Stand p l e R s mid args below meth c T locs cells slots → QRep Z n0 ad T.heap σ → QLocOk ad L C →
   Steps p.tables e below (T.setTop (mkF mid pc' C (S'.map (qv ad)))) target → Steps p.tables e below (T.setTop (mkF mid pc C (S.map (qv ad)))) target) :
  QTri l Z n0 ad m (pc, L, S, σ) v σ' :=
 QTri.frame h fun p e R s mid args below meth c T locs cells slots C hcx X hR hL hC => ⟨C, hL, hC, fun target k => hs p e R s mid args below meth c T locs cells slots C target hcx.1 hcx.2.1 hcx.2.2.1 hcx.2.2.2.2.2.1 X hR hL k⟩
theorem qload_inv {pc : Nat} {L : QLoc} {S : List Value} {σ : QHeap} {k : Nat} {ok : Value → Bool} {st' : QSt} (h : qload pc L S σ k ok = some st') : ∃ v, lget L k = some v ∧ ok v = true ∧ st' = (pc, L, v :: S, σ) := by
 unfold qload at h
 split at h
 ·rename_i v hv
  cases ho : ok v with
  | true => rw [ho] at h; cases h; exact ⟨v, hv, ho, rfl⟩
  | false => rw [ho] at h; cases h
 ·cases h
theorem qstore_inv {pc : Nat} {L : QLoc} {S : List Value} {σ : QHeap} {k : Nat} {ok : Value → Bool} {st' : QSt} (h : qstore pc L S σ k ok = some st') : ∃ v S' L', S = v :: S' ∧ ok v = true ∧ lput L k v = some L' ∧ st' = (pc, L', S', σ) := by
 unfold qstore at h
 split at h
 ·rename_i v S'
  cases ho : ok v with
  | true =>
   rw [ho] at h
   simp only [cond_true] at h
   split at h
   ·rename_i L' hL'
    cases h; exact ⟨v, S', L', rfl, ho, hL', rfl⟩
   ·cases h
  | false => rw [ho] at h; cases h
 ·cases h
theorem qbin_inv {pc : Nat} {L : QLoc} {S : List Value} {σ : QHeap} {f : Int32 → Int32 → Int32} {st' : QSt} (h : qbin pc L S σ f = some st') : ∃ x y S', S = .int y :: .int x :: S' ∧ st' = (pc, L, .int (f x y) :: S', σ) := by
 unfold qbin at h
 split at h
 ·cases h; exact ⟨_, _, _, rfl, rfl⟩
 ·cases h
theorem qbino_inv {pc : Nat} {L : QLoc} {S : List Value} {σ : QHeap} {f : Int32 → Int32 → Option Int32} {st' : QSt} (h : qbino pc L S σ f = some st') : ∃ x y z S', S = .int y :: .int x :: S' ∧ f x y = some z ∧ st' = (pc, L, .int z :: S', σ) := by
 unfold qbino at h
 split at h
 ·obtain ⟨z, hz, h⟩ := Option.bind_eq_some_iff.mp h
  cases h; exact ⟨_, _, _, _, rfl, hz, rfl⟩
 ·cases h
theorem qbinJ_inv {pc : Nat} {L : QLoc} {S : List Value} {σ : QHeap} {f : Int64 → Int64 → Int64} {st' : QSt} (h : qbinJ pc L S σ f = some st') : ∃ x y S', S = .long y :: .long x :: S' ∧ st' = (pc, L, .long (f x y) :: S', σ) := by
 unfold qbinJ at h
 split at h
 ·cases h; exact ⟨_, _, _, rfl, rfl⟩
 ·cases h
theorem qshJ_inv {pc : Nat} {L : QLoc} {S : List Value} {σ : QHeap} {f : Int64 → Int32 → Int64} {st' : QSt} (h : qshJ pc L S σ f = some st') : ∃ x y S', S = .int y :: .long x :: S' ∧ st' = (pc, L, .long (f x y) :: S', σ) := by
 unfold qshJ at h
 split at h
 ·cases h; exact ⟨_, _, _, rfl, rfl⟩
 ·cases h
theorem quni_inv {pc : Nat} {L : QLoc} {S : List Value} {σ : QHeap} {f : Int32 → Value} {st' : QSt} (h : quni pc L S σ f = some st') : ∃ x S', S = .int x :: S' ∧ st' = (pc, L, f x :: S', σ) := by
 unfold quni at h
 split at h
 ·cases h; exact ⟨_, _, rfl, rfl⟩
 ·cases h
theorem quniJ_inv {pc : Nat} {L : QLoc} {S : List Value} {σ : QHeap} {f : Int64 → Value} {st' : QSt} (h : quniJ pc L S σ f = some st') : ∃ x S', S = .long x :: S' ∧ st' = (pc, L, f x :: S', σ) := by
 unfold quniJ at h
 split at h
 ·cases h; exact ⟨_, _, rfl, rfl⟩
 ·cases h
theorem qif_inv {pc : Nat} {L : QLoc} {S : List Value} {σ : QHeap} {cd : ClassFile.Cond} {t : Nat} {st' : QSt} (h : qif pc L S σ cd t = some st') : ∃ x S', S = .int x :: S' ∧ st' = (bif ifCond.holds cd x then t else pc, L, S', σ) := by
 unfold qif at h
 split at h
 ·cases h; exact ⟨_, _, rfl, rfl⟩
 ·cases h
theorem qicmp_inv {pc : Nat} {L : QLoc} {S : List Value} {σ : QHeap} {cd : ClassFile.Cond} {t : Nat} {st' : QSt} (h : qicmp pc L S σ cd t = some st') : ∃ x y S', S = .int y :: .int x :: S' ∧ st' = (bif if_icmp.holds cd x y then t else pc, L, S', σ) := by
 unfold qicmp at h
 split at h
 ·cases h; exact ⟨_, _, _, rfl, rfl⟩
 ·cases h
theorem qget_inv {pc : Nat} {L : QLoc} {S : List Value} {σ : QHeap} {k : Nat} {st' : QSt} (h : qget pc L S σ k = some st') : ∃ a S' vs v, S = .ref a :: S' ∧ hget σ a = some (.inl vs) ∧ vget vs k = some v ∧ st' = (pc, L, v :: S', σ) := by
 unfold qget at h
 split at h
 ·split at h
  ·split at h
   ·cases h; exact ⟨_, _, _, _, rfl, by assumption, by assumption, rfl⟩
   ·cases h
  ·cases h
 ·cases h
theorem qput_inv {pc : Nat} {L : QLoc} {S : List Value} {σ : QHeap} {k : Nat} {st' : QSt} (h : qput pc L S σ k = some st') : ∃ v a S' vs w, S = v :: .ref a :: S' ∧ hget σ a = some (.inl vs) ∧ k0 ≤ a ∧ k < vs.length ∧ qfit (fTy k) v = some w ∧ st' = (pc, L, S', σ.set a (.inl (vs.set k w))) := by
 unfold qput at h
 split at h
 ·rename_i v a S'
  split at h
  ·rename_i vs hvs
   cases hbb : (Nat.ble k0 a && Nat.ble (k + 1) vs.length) with
   | false => rw [hbb] at h; cases h
   | true =>
    rw [hbb] at h
    simp only [cond_true] at h
    obtain ⟨u, hu, h⟩ := Option.bind_eq_some_iff.mp h
    cases h
    obtain ⟨b1, b2⟩ := Bool.and_eq_true_iff.mp hbb
    exact ⟨v, a, S', vs, u, rfl, hvs, Nat.le_of_ble_eq_true b1, Nat.le_of_ble_eq_true b2, hu, rfl⟩
  ·cases h
 ·cases h
theorem qald_inv {pc : Nat} {L : QLoc} {S : List Value} {σ : QHeap} {ok : FieldType → Bool} {st' : QSt} (h : qald pc L S σ ok = some st') : ∃ j a S' ty xs v, S = .int j :: .ref a :: S' ∧ hget σ a = some (.inr (.inl (ty, xs))) ∧ ok ty = true ∧ aget xs j = some v ∧ st' = (pc, L, .int v :: S', σ) := by
 unfold qald at h
 split at h
 ·rename_i j a S'
  split at h
  ·rename_i x hx
   cases ht : ok x.1 with
   | false => rw [ht] at h; cases h
   | true =>
    rw [ht] at h
    simp only [cond_true] at h
    obtain ⟨u, hu, h⟩ := Option.bind_eq_some_iff.mp h
    cases h
    exact ⟨j, a, S', x.1, x.2, u, rfl, hx, ht, hu, rfl⟩
  ·cases h
 ·cases h
theorem qaldJ_inv {pc : Nat} {L : QLoc} {S : List Value} {σ : QHeap} {st' : QSt} (h : qaldJ pc L S σ = some st') : ∃ j a S' xs v, S = .int j :: .ref a :: S' ∧ hget σ a = some (.inr (.inr xs)) ∧ aget xs j = some v ∧ st' = (pc, L, .long v :: S', σ) := by
 unfold qaldJ at h
 split at h
 ·rename_i j a S'
  split at h
  ·rename_i x hx
   obtain ⟨u, hu, h⟩ := Option.bind_eq_some_iff.mp h
   cases h
   exact ⟨j, a, S', x, u, rfl, hx, hu, rfl⟩
  ·cases h
 ·cases h
theorem qast_inv {pc : Nat} {L : QLoc} {S : List Value} {σ : QHeap} {ok : FieldType → Bool} {st' : QSt} (h : qast pc L S σ ok = some st') : ∃ v j a S' ty xs ys, S = .int v :: .int j :: .ref a :: S' ∧ hget σ a = some (.inr (.inl (ty, xs))) ∧ ok ty = true ∧ k0 ≤ a ∧ aset xs j (qnar ty v) = some ys ∧ st' = (pc, L, S', σ.set a (.inr (.inl (ty, ys)))) := by
 unfold qast at h
 split at h
 ·rename_i v j a S'
  split at h
  ·rename_i x hx
   cases ht : (ok x.1 && Nat.ble k0 a) with
   | false => rw [ht] at h; cases h
   | true =>
    rw [ht] at h
    simp only [cond_true] at h
    obtain ⟨u, hu, h⟩ := Option.bind_eq_some_iff.mp h
    cases h
    obtain ⟨b1, b2⟩ := Bool.and_eq_true_iff.mp ht
    exact ⟨v, j, a, S', x.1, x.2, u, rfl, hx, b1, Nat.le_of_ble_eq_true b2, hu, rfl⟩
  ·cases h
 ·cases h
theorem qastJ_inv {pc : Nat} {L : QLoc} {S : List Value} {σ : QHeap} {st' : QSt} (h : qastJ pc L S σ = some st') : ∃ v j a S' xs ys, S = .long v :: .int j :: .ref a :: S' ∧ hget σ a = some (.inr (.inr xs)) ∧ k0 ≤ a ∧ aset xs j v = some ys ∧ st' = (pc, L, S', σ.set a (.inr (.inr ys))) := by
 unfold qastJ at h
 split at h
 ·rename_i v j a S'
  split at h
  ·rename_i x hx
   cases ht : (Nat.ble k0 a) with
   | false => rw [ht] at h; cases h
   | true =>
    rw [ht] at h
    simp only [cond_true] at h
    obtain ⟨u, hu, h⟩ := Option.bind_eq_some_iff.mp h
    cases h
    exact ⟨v, j, a, S', x, u, rfl, hx, Nat.le_of_ble_eq_true ht, hu, rfl⟩
  ·cases h
 ·cases h
theorem qlen_inv {pc : Nat} {L : QLoc} {S : List Value} {σ : QHeap} {st' : QSt} (h : qlen pc L S σ = some st') : ∃ a S' n, S = .ref a :: S' ∧ ((∃ ty xs, hget σ a = some (.inr (.inl (ty, xs))) ∧ n = xs.length) ∨ ∃ xs, hget σ a = some (.inr (.inr xs)) ∧ n = xs.length) ∧ st' = (pc, L, .int n.toInt32 :: S', σ) := by
 unfold qlen at h
 split at h
 ·rename_i a S'
  split at h
  ·rename_i x hx
   cases h; exact ⟨a, S', _, rfl, Or.inl ⟨x.1, x.2, hx, rfl⟩, rfl⟩
  ·rename_i x hx
   cases h; exact ⟨a, S', _, rfl, Or.inr ⟨x, hx, rfl⟩, rfl⟩
  ·cases h
 ·cases h
theorem isI_inv {v : Value} (h : isI v = true) : ∃ x, v = .int x := by cases v <;> simp [isI] at h; exact ⟨_, rfl⟩
theorem isJ_inv {v : Value} (h : isJ v = true) : ∃ x, v = .long x := by cases v <;> simp [isJ] at h; exact ⟨_, rfl⟩
theorem isR_inv {v : Value} (h : isR v = true) : ∃ x, v = .ref x := by cases v <;> simp [isR] at h; exact ⟨_, rfl⟩
theorem aget_inv {α : Type} {xs : List α} {j : Int32} {x : α} (h : aget xs j = some x) : ¬ j < 0 ∧ xs[j.toNatClampNeg]? = some x := by
 unfold aget at h
 split at h
 ·cases h
 ·rename_i q; exact ⟨q, h⟩
theorem aset_inv {α : Type} {xs ys : List α} {j : Int32} {x : α} (h : aset xs j x = some ys) : ¬ j < 0 ∧ j.toNatClampNeg < xs.length ∧ ys = xs.set j.toNatClampNeg x := by
 unfold aset at h
 split at h
 ·cases h
 ·rename_i q
  split at h
  ·rename_i q2; cases h; exact ⟨q, q2, rfl⟩
  ·cases h
theorem qnew_inv {n : Int32} {k : Nat} (h : qnew n = some k) : ¬ n < 0 ∧ n.toNatClampNeg = k ∧ k ≤ 67108864 := by
 unfold qnew at h
 split at h
 ·cases h
 ·rename_i q
  split at h
  ·rename_i q2; cases h; exact ⟨q, rfl, q2⟩
  ·cases h
theorem QCellOk.other {h h' : Heap} {a b : Addr} {sl : Nat} {w : Value} {c : QCell} (H : QCellOk Z ad h b c) (W : Wr h h' a sl w) (ne : b ≠ a) : QCellOk Z ad h' b c := by
 rcases c with vs | ⟨ty, xs⟩ | xs
 ·obtain ⟨h1, h2, h3⟩ := H
  exact ⟨h1.wr W, h2, fun k u hk hu => (h3 k u hk hu).other W (Or.inl ne)⟩
 ·obtain ⟨c, h1, h2⟩ := H
  exact ⟨c, h1.other W ne, h2⟩
 ·obtain ⟨c, h1, h2⟩ := H
  exact ⟨c, h1.other W ne, h2⟩
theorem QCellOk.ext {h h' : Heap} {b : Addr} {c : QCell} (H : QCellOk Z ad h b c) (E : Ext h h') : QCellOk Z ad h' b c := by
 rcases c with vs | ⟨ty, xs⟩ | xs
 ·obtain ⟨h1, h2, h3⟩ := H
  exact ⟨h1.ext E, h2, fun k u hk hu => (h3 k u hk hu).ext E⟩
 ·obtain ⟨c, h1, h2⟩ := H
  exact ⟨c, h1.ext E, h2⟩
 ·obtain ⟨c, h1, h2⟩ := H
  exact ⟨c, h1.ext E, h2⟩
theorem QRep.set {h h' : Heap} {σ : QHeap} {a : Nat} {sl : Nat} {w : Value} {c d : QCell} (H : QRep Z n0 ad h σ) (Ad : QAd n0 ad) (W : Wr h h' (ad a) sl w) (hc : hget σ a = some c) (hd : QCellOk Z ad h' (ad a) d) : QRep Z n0 ad h' (σ.set a d) := by
 obtain ⟨h1, h2, h3⟩ := H
 refine ⟨by simpa using h1, by rw [W.size, h2]; simp, fun k e he => ?_⟩
 rw [hget_set hc] at he
 split at he
 ·rename_i q; cases he; rw [q]; exact hd
 ·rename_i q; exact (h3 k e he).other W fun z => q (Ad.2 _ _ z)
theorem QRep.push {h h' : Heap} {σ : QHeap} {c : QCell} (H : QRep Z n0 ad h σ) (Ad : QAd n0 ad) (E : Ext h h') (hs : h'.size = h.size + 1) (hc : QCellOk Z ad h' h.size c) : QRep Z n0 ad h' (σ ++ [c]) := by
 obtain ⟨h1, h2, h3⟩ := H
 refine ⟨by simp; omega, by rw [hs, h2]; simp; omega, fun k e he => ?_⟩
 rw [hget_eq] at he
 rcases Nat.lt_or_ge k σ.length with q | q
 ·rw [List.getElem?_append_left q, ← hget_eq] at he
  exact (h3 k e he).ext E
 ·rw [List.getElem?_append_right q] at he
  obtain rfl : k = σ.length := by
   rcases Nat.lt_or_ge (k - σ.length) 1 with z | z
   ·omega
   ·rw [List.getElem?_eq_none (by simpa using z)] at he; cases he
  simp at he
  rw [← he, Ad.1 _ h1, ← h2]
  exact hc
theorem mem_of_contains {α : Type} [BEq α] [LawfulBEq α] {L : List α} {a : α} (h : L.contains a = true) : a ∈ L := by simpa using h
theorem lkF_lt : ∀ t ∈ lkF, t.2.2 < nF := by decide +kernel
theorem laid_of (W : QW Z a0) {k : Nat} (hk : k < nF) : Laid Z a0 cName cName (fNm k) (fDs k) := by
 have q := (qw_lay W) k hk
 cases hf : fFin k with
 | true => rw [hf] at q; exact Or.inr q
 | false => rw [hf] at q; exact Or.inl q
theorem qfit_inv {ty : FieldType} {v w : Value} (h : qfit ty v = some w) : v = w ∧ narrow ty (qv ad w) = qv ad w ∧ fits ty (qv ad w) = true := by
 unfold qfit at h
 split at h
 ·cases h; exact ⟨rfl, rfl, rfl⟩
 ·rename_i x
  obtain ⟨y, hy, h⟩ := Option.bind_eq_some_iff.mp h
  cases h
  unfold qboo at hy
  split at hy
  ·rename_i e; cases hy; subst e; exact ⟨rfl, rfl, rfl⟩
  ·split at hy
   ·rename_i e; cases hy; subst e; exact ⟨rfl, rfl, rfl⟩
   ·cases hy
 ·cases h; exact ⟨rfl, rfl, rfl⟩
 ·cases h; exact ⟨rfl, rfl, rfl⟩
 ·cases h
theorem vget_set {vs : List Value} {k j : Nat} {w : Value} (hk : k < vs.length) : vget (vs.set k w) j = if j = k then some w else vget vs j := by
 simp only [vget_eq, List.getElem?_set]
 by_cases e : k = j
 ·subst e; simp [hk]
 ·simp [e, Ne.symm e]
theorem ald_in {α : Type} {f : α → Value} {xs : List α} {c : Cell} {j : Int32} {x : α} (hc : c.slots = (xs.map f).toArray) (h : aget xs j = some x) : ¬ (j < 0 ∨ c.slots.size ≤ j.toNatClampNeg) ∧ c.slots[j.toNatClampNeg]? = some (f x) := by
 obtain ⟨h1, h2⟩ := aget_inv h
 have h3 := (List.getElem?_eq_some_iff.mp h2).1
 refine ⟨fun q => ?_, by rw [hc]; simp [h2]⟩
 rcases q with q | q
 ·exact h1 q
 ·rw [hc] at q; simp at q; omega
theorem ast_in {α : Type} {f : α → Value} {xs ys : List α} {c : Cell} {j : Int32} {x : α} (hc : c.slots = (xs.map f).toArray) (h : aset xs j x = some ys) : ¬ (j < 0 ∨ c.slots.size ≤ j.toNatClampNeg) ∧ (c.setSlot j.toNatClampNeg (f x)).slots = (ys.map f).toArray := by
 obtain ⟨h1, h2, rfl⟩ := aset_inv h
 refine ⟨fun q => ?_, by simp [Cell.setSlot, hc, List.map_set]⟩
 rcases q with q | q
 ·exact h1 q
 ·rw [hc] at q; simp at q; omega
theorem qgrow {σ : QHeap} {c : QCell} : qhs (σ ++ [c]) - qhs σ = qsz c := by rw [qhs_app]; simp [qhs]
set_option maxHeartbeats 4000000 in
theorem QTri.newArr (Ad : QAd n0 ad) (W : QW Z a0) {pc aux : Nat} {L : QLoc} {S : List Value} {σ : QHeap} {aty : ArrayType} {n : Int32} {k : Nat} {c : QCell} (hk : qnew n = some k) (hc : pCode m pc = some (.newarray aty, aux)) (hz : qsz c = k)
  (hq : ∀ (h' : Heap) (a : Addr) (cA : ClassId), Arr Z h' a (newA cA (newarray.typeOf aty) n) (newarray.typeOf aty) → QCellOk Z ad h' a c)
  (h : QTri l Z n0 ad m (pc + 2, L, .ref σ.length :: S, σ ++ [c]) v σ') : QTri l Z n0 ad m (pc, L, .int n :: S, σ) v σ' := by
 have hd : decode (pBytes m) pc = .ok (.newarray aty, 2) := pDecN hc rfl
 obtain ⟨n1, n2, n3⟩ := qnew_inv hk
 refine QTri.gen h (by simp) (by simp [qhs_app]) fun p e R s mid args below meth c' T locs cells slots C hcx X hR hF hL hC hn hc1 hsl => ?_
 obtain ⟨hx, hZ, hby, hml, hret, hown, hnm, hfr, hlo⟩ := hcx
 have hd2 : decode c'.code pc = .ok (.newarray aty, 2) := by rw [hby]; exact hd
 simp only [List.length_append, List.length_singleton, Nat.add_sub_cancel_left, qgrow, hz] at hc1 hsl ⊢
 obtain ⟨T₁, h₁, cA, X₁, e₁, E₁, A₁, st⟩ := newP X hx hZ (aty := aty) (qw_arr W (newarray.typeOf aty) (mem_of_contains (show aTys.contains (newarray.typeOf aty) = true from pRest hc))) rfl (g := mkF mid pc C (.int n :: S.map (qv ad))) rfl hd2 rfl n1 (cap := k) (by omega) (by omega) hc1 hsl
 have hsz : h₁.size = T.heap.size + 1 := by
  have q1 := X₁.heapSize
  have q2 : T.heap.size < h₁.size := A₁.lt
  have q3 := hR.2.1
  rw [e₁] at q1
  have : n0 + (σ.length - k0) = s.heap.size + cells := hn
  have q3' : T.heap.size = n0 + (σ.length - k0) := q3
  omega
 refine ⟨T₁, locs, C, X₁, ?_, hF, hL, hC, fun target q => ?_⟩
 ·rw [e₁]; exact QRep.push hR Ad E₁ hsz (hq _ _ _ A₁)
 ·refine st _ ?_
  have e2 : ad σ.length = T.heap.size := by rw [Ad.1 _ hR.1]; exact hR.2.1.symm
  simp only [List.map_cons, qv, e2] at q
  exact q
set_option maxHeartbeats 4000000 in
theorem QTri.getfield (W : QW Z a0) {pc idx aux : Nat} {L : QLoc} {S : List Value} {σ : QHeap} {st' : QSt} (h : QTri l Z n0 ad m st' v σ') (hc : pCode m pc = some (.getfield idx, aux)) (hs : qget (pc + 3) L S σ aux = some st') : QTri l Z n0 ad m (pc, L, S, σ) v σ' := by
 have hd : decode (pBytes m) pc = .ok (.getfield idx, 3) := pDecN hc rfl
 obtain ⟨a, S', vs, w, rfl, hvs, hw, rfl⟩ := qget_inv hs
 have hm := mem_of_contains (show lkF.contains (pK m, idx, aux) = true from pRest hc)
 have hlt := lkF_lt _ hm
 refine QTri.pure h rfl fun p e R s mid args below meth c T locs cells slots C hcx X hR hL hC => ?_
 obtain ⟨hx, hZ, hby, hml, hret, hown, hnm, hfr, hlo⟩ := hcx
 have hd2 : decode c.code pc = .ok (.getfield idx, 3) := by rw [hby]; exact hd
 have F := (hR.2.2 _ _ hvs).2.2 aux w hlt hw
 obtain ⟨T₁, X₁, e₁, st⟩ := getF X hx hZ hown (host := "") (index := idx) (Or.inl (qw_fl W (pK m, idx, aux) hm)) Via.refl rfl F (g := mkF mid pc C (List.map (qv ad) (.ref a :: S'))) rfl rfl hd2
 exact ⟨T₁, C, X₁, e₁, hL, hC, st⟩
set_option maxHeartbeats 4000000 in
theorem QTri.putfield (Ad : QAd n0 ad) (W : QW Z a0) {pc idx aux : Nat} {L : QLoc} {S : List Value} {σ : QHeap} {st' : QSt} (h : QTri l Z n0 ad m st' v σ') (hc : pCode m pc = some (.putfield idx, aux)) (hs : qput (pc + 3) L S σ aux = some st') : QTri l Z n0 ad m (pc, L, S, σ) v σ' := by
 have hd : decode (pBytes m) pc = .ok (.putfield idx, 3) := pDecN hc rfl
 obtain ⟨w, a, S', vs, u, rfl, hvs, b1, b2, hu, rfl⟩ := qput_inv hs
 obtain ⟨r1, r2⟩ := Bool.and_eq_true_iff.mp (show (lkF.contains (pK m, idx, aux) && (!fFin aux || (pK m == 1 && pNm m == "<init>"))) = true from pRest hc)
 have hm := mem_of_contains r1
 have hlt := lkF_lt _ hm
 obtain ⟨rfl, q2, q3⟩ := qfit_inv (ad := ad) hu
 have hsz : qhs (σ.set a (Sum.inl (vs.set aux w))) = qhs σ := qhs_set hvs rfl
 refine QTri.gen h (by simp) (by show qhs σ ≤ qhs (σ.set a (Sum.inl (vs.set aux w))); rw [hsz]; exact Nat.le_refl _) fun p e R s mid args below meth c T locs cells slots C hcx X hR hF hL hC hn hc1 hsl => ?_
 obtain ⟨hx, hZ, hby, hml, hret, hown, hnm, hfr, hlo⟩ := hcx
 have hd2 : decode c.code pc = .ok (.putfield idx, 3) := by rw [hby]; exact hd
 obtain ⟨E, l1, Fs⟩ := hR.2.2 _ _ hvs
 obtain ⟨old, hold⟩ : ∃ old, vget vs aux = some old := by rw [vget_eq]; exact ⟨_, List.getElem?_eq_getElem b2⟩
 have lay : (Cond.lays cName cName (fNm aux) (fDs aux)).before a0 Z = true ∨ ((Cond.laysFinal cName cName (fNm aux) (fDs aux)).before a0 Z = true ∧ kName (pK m) = cName ∧ meth.name = "<init>") := by
  have q := (qw_lay W) aux hlt
  cases hf : fFin aux with
  | false => rw [hf] at q; exact Or.inl q
  | true =>
   rw [hf] at q r2
   simp at r2
   exact Or.inr ⟨q, by rw [r2.1]; exact kOne, by rw [hnm]; exact r2.2⟩
 obtain ⟨T₁, h₁, X₁, e₁, W₁, st⟩ := putF X hx hZ hown (host := "") (index := idx) (Or.inl (qw_fl W (pK m, idx, aux) hm)) Via.refl rfl (Fs aux old hlt hold) E lay ((qw_inst W)) (fPrs aux hlt) q2 q3 (g := mkF mid pc C (List.map (qv ad) (w :: .ref a :: S'))) rfl rfl hd2
 refine ⟨T₁, _, C, ?_, ?_, Fr.snoc X₁ hF (by rw [Ad.1 a b1]; exact Nat.le_add_right _ _), hL, hC, st⟩
 ·show Stand _ _ _ _ _ _ _ _ _ _ _ _ (cells + ((σ.set a (Sum.inl (vs.set aux w))).length - σ.length)) (slots + (qhs (σ.set a (Sum.inl (vs.set aux w))) - qhs σ))
  rw [hsz, Nat.sub_self, List.length_set, Nat.sub_self]
  exact X₁
 ·rw [e₁]
  refine QRep.set hR Ad W₁ hvs ⟨E.wr W₁, by simpa using l1, fun k u hk hu => ?_⟩
  rw [vget_set b2] at hu
  split at hu
  ·rename_i e; cases hu; rw [e]; exact (Fs aux old hlt hold).same W₁
  ·rename_i ne
   exact (Fs k u hk hu).other W₁ (Or.inr (slot_ne (laid_of W hk) (laid_of W hlt) (fun z => ne (fInj _ hk _ hlt z)) (fPrs _ hk) (fPrs _ hlt)))
theorem tyI_inv {ty : FieldType} (h : tyI ty = true) : ty = .int := by cases ty <;> simp [tyI] at h; rfl
theorem tyB_inv {ty : FieldType} (h : tyB ty = true) : ty = .boolean ∨ ty = .byte := by cases ty <;> simp [tyB] at h <;> simp
set_option maxHeartbeats 4000000 in
theorem QTri.iaload {pc aux : Nat} {L : QLoc} {S : List Value} {σ : QHeap} {st' : QSt} (h : QTri l Z n0 ad m st' v σ') (hc : pCode m pc = some (.iaload, aux)) (hs : qald (pc + 1) L S σ tyI = some st') : QTri l Z n0 ad m (pc, L, S, σ) v σ' := by
 have hd : decode (pBytes m) pc = .ok (.iaload, 1) := pDecN hc rfl
 obtain ⟨j, a, S', ty, xs, w, rfl, hx1, ht, hw, rfl⟩ := qald_inv hs
 obtain rfl := tyI_inv ht
 refine QTri.stack h fun p e R s mid args below meth c T locs cells slots C target hx hZ hby hown X hR hL k => ?_
 have hd2 : decode c.code pc = .ok (.iaload, 1) := by rw [hby]; exact hd
 obtain ⟨cl, A, hsl⟩ := hR.2.2 _ _ hx1
 obtain ⟨i1, i2⟩ := ald_in hsl hw
 exact X.iaload hx A.1 (State.isArrayOf_alike hZ.alike A.2.1) A.2.2 i1 i2 (g := mkF mid pc C (List.map (qv ad) (.int j :: .ref a :: S'))) rfl rfl hd2 _ k
set_option maxHeartbeats 4000000 in
theorem QTri.baload {pc aux : Nat} {L : QLoc} {S : List Value} {σ : QHeap} {st' : QSt} (h : QTri l Z n0 ad m st' v σ') (hc : pCode m pc = some (.baload, aux)) (hs : qald (pc + 1) L S σ tyB = some st') : QTri l Z n0 ad m (pc, L, S, σ) v σ' := by
 have hd : decode (pBytes m) pc = .ok (.baload, 1) := pDecN hc rfl
 obtain ⟨j, a, S', ty, xs, w, rfl, hx1, ht, hw, rfl⟩ := qald_inv hs
 refine QTri.stack h fun p e R s mid args below meth c T locs cells slots C target hx hZ hby hown X hR hL k => ?_
 have hd2 : decode c.code pc = .ok (.baload, 1) := by rw [hby]; exact hd
 obtain ⟨cl, A, hsl⟩ := hR.2.2 _ _ hx1
 obtain ⟨i1, i2⟩ := ald_in hsl hw
 rcases tyB_inv ht with rfl | rfl
 ·exact X.baloadBooleans hx A.1 (State.isArrayOf_alike hZ.alike A.2.1) A.2.2 i1 i2 (g := mkF mid pc C (List.map (qv ad) (.int j :: .ref a :: S'))) rfl rfl hd2 _ k
 ·exact X.baloadBytes hx A.1 (State.isArrayOf_alike hZ.alike A.2.1) A.2.2 i1 i2 (g := mkF mid pc C (List.map (qv ad) (.int j :: .ref a :: S'))) rfl rfl hd2 _ k
set_option maxHeartbeats 4000000 in
theorem QTri.laload {pc aux : Nat} {L : QLoc} {S : List Value} {σ : QHeap} {st' : QSt} (h : QTri l Z n0 ad m st' v σ') (hc : pCode m pc = some (.laload, aux)) (hs : qaldJ (pc + 1) L S σ = some st') : QTri l Z n0 ad m (pc, L, S, σ) v σ' := by
 have hd : decode (pBytes m) pc = .ok (.laload, 1) := pDecN hc rfl
 obtain ⟨j, a, S', xs, w, rfl, hx1, hw, rfl⟩ := qaldJ_inv hs
 refine QTri.stack h fun p e R s mid args below meth c T locs cells slots C target hx hZ hby hown X hR hL k => ?_
 have hd2 : decode c.code pc = .ok (.laload, 1) := by rw [hby]; exact hd
 obtain ⟨cl, A, hsl⟩ := hR.2.2 _ _ hx1
 obtain ⟨i1, i2⟩ := ald_in hsl hw
 exact X.laload hx A.1 (State.isArrayOf_alike hZ.alike A.2.1) A.2.2 i1 i2 (g := mkF mid pc C (List.map (qv ad) (.int j :: .ref a :: S'))) rfl rfl hd2 _ k
theorem QTri.stored (Ad : QAd n0 ad) {pc : Nat} {L : QLoc} {S S' : List Value} {σ : QHeap} {a j : Nat} {w : Value} {c d : QCell} (hx1 : hget σ a = some c) (b1 : k0 ≤ a) (hz : qsz d = qsz c) (h : QTri l Z n0 ad m (pc + 1, L, S', σ.set a d) v σ')
  (hs : ∀ (p : Program) (e : Env) (R : Room) (s : State) (mid : MethodId) (args : Array Value) (below : List Frame) (meth : Method) (c : Code) (T : State) (locs : List Loc) (cells slots : Nat) (C : Array Slot),
   QCx Z p R s mid meth c m → Stand p l e R s mid args below meth c T locs cells slots → QRep Z n0 ad T.heap σ →
   ∃ T' h', Stand p l e R s mid args below meth c T' (locs ++ [⟨ad a, j⟩]) cells slots ∧ T'.heap = h' ∧ Wr T.heap h' (ad a) j w ∧ QCellOk Z ad h' (ad a) d ∧ ∀ target, Steps p.tables e below (T'.setTop (mkF mid (pc + 1) C (S'.map (qv ad)))) target → Steps p.tables e below (T.setTop (mkF mid pc C (S.map (qv ad)))) target) :
  QTri l Z n0 ad m (pc, L, S, σ) v σ' := by
 have hsz : qhs (σ.set a d) = qhs σ := qhs_set hx1 hz
 refine QTri.gen h (by simp) (by show qhs σ ≤ qhs (σ.set a d); rw [hsz]; exact Nat.le_refl _) fun p e R s mid args below meth c T locs cells slots C hcx X hR hF hL hC hn hc1 hsl => ?_
 obtain ⟨T₁, h₁, X₁, e₁, W₁, Q₁, st⟩ := hs p e R s mid args below meth c T locs cells slots C hcx X hR
 refine ⟨T₁, _, C, ?_, ?_, Fr.snoc X₁ hF (by rw [Ad.1 a b1]; exact Nat.le_add_right _ _), hL, hC, st⟩
 ·show Stand _ _ _ _ _ _ _ _ _ _ _ _ (cells + ((σ.set a d).length - σ.length)) (slots + (qhs (σ.set a d) - qhs σ))
  rw [hsz, Nat.sub_self, List.length_set, Nat.sub_self]
  exact X₁
 ·rw [e₁]
  exact QRep.set hR Ad W₁ hx1 Q₁
set_option maxHeartbeats 4000000 in
theorem QTri.iastore (Ad : QAd n0 ad) {pc aux : Nat} {L : QLoc} {S : List Value} {σ : QHeap} {st' : QSt} (h : QTri l Z n0 ad m st' v σ') (hc : pCode m pc = some (.iastore, aux)) (hs : qast (pc + 1) L S σ tyI = some st') : QTri l Z n0 ad m (pc, L, S, σ) v σ' := by
 have hd : decode (pBytes m) pc = .ok (.iastore, 1) := pDecN hc rfl
 obtain ⟨w, j, a, S', ty, xs, ys, rfl, hx1, ht, b1, hw, rfl⟩ := qast_inv hs
 obtain rfl := tyI_inv ht
 refine QTri.stored Ad (j := j.toNatClampNeg) (w := .int w) hx1 b1 (by rw [(aset_inv hw).2.2]; simp [qsz]) h fun p e R s mid args below meth c T locs cells slots C hcx X hR => ?_
 have hd2 : decode c.code pc = .ok (.iastore, 1) := by rw [hcx.2.2.1]; exact hd
 obtain ⟨cl, A, hsl⟩ := hR.2.2 _ _ hx1
 obtain ⟨i1, i2⟩ := ast_in hsl hw
 obtain ⟨T₁, h₁, X₁, e₁, W₁, st⟩ := stI X hcx.1 hcx.2.1 rfl A i1 (g := mkF mid pc C (List.map (qv ad) (.int w :: .int j :: .ref a :: S'))) rfl rfl hd2
 exact ⟨T₁, h₁, X₁, e₁, W₁, ⟨_, A.same W₁, i2⟩, st⟩
set_option maxHeartbeats 4000000 in
theorem QTri.bastore (Ad : QAd n0 ad) {pc aux : Nat} {L : QLoc} {S : List Value} {σ : QHeap} {st' : QSt} (h : QTri l Z n0 ad m st' v σ') (hc : pCode m pc = some (.bastore, aux)) (hs : qast (pc + 1) L S σ tyB = some st') : QTri l Z n0 ad m (pc, L, S, σ) v σ' := by
 have hd : decode (pBytes m) pc = .ok (.bastore, 1) := pDecN hc rfl
 obtain ⟨w, j, a, S', ty, xs, ys, rfl, hx1, ht, b1, hw, rfl⟩ := qast_inv hs
 refine QTri.stored Ad (j := j.toNatClampNeg) (w := .int (qnar ty w)) hx1 b1 (by rw [(aset_inv hw).2.2]; simp [qsz]) h fun p e R s mid args below meth c T locs cells slots C hcx X hR => ?_
 have hd2 : decode c.code pc = .ok (.bastore, 1) := by rw [hcx.2.2.1]; exact hd
 obtain ⟨cl, A, hsl⟩ := hR.2.2 _ _ hx1
 obtain ⟨i1, i2⟩ := ast_in hsl hw
 rcases tyB_inv ht with rfl | rfl
 ·obtain ⟨T₁, h₁, X₁, e₁, W₁, st⟩ := stZ X hcx.1 hcx.2.1 rfl A i1 (g := mkF mid pc C (List.map (qv ad) (.int w :: .int j :: .ref a :: S'))) rfl rfl hd2
  exact ⟨T₁, h₁, X₁, e₁, W₁, ⟨_, A.same W₁, i2⟩, st⟩
 ·obtain ⟨T₁, h₁, X₁, e₁, W₁, st⟩ := stB X hcx.1 hcx.2.1 rfl A i1 (g := mkF mid pc C (List.map (qv ad) (.int w :: .int j :: .ref a :: S'))) rfl rfl hd2
  exact ⟨T₁, h₁, X₁, e₁, W₁, ⟨_, A.same W₁, i2⟩, st⟩
set_option maxHeartbeats 4000000 in
theorem QTri.lastore (Ad : QAd n0 ad) {pc aux : Nat} {L : QLoc} {S : List Value} {σ : QHeap} {st' : QSt} (h : QTri l Z n0 ad m st' v σ') (hc : pCode m pc = some (.lastore, aux)) (hs : qastJ (pc + 1) L S σ = some st') : QTri l Z n0 ad m (pc, L, S, σ) v σ' := by
 have hd : decode (pBytes m) pc = .ok (.lastore, 1) := pDecN hc rfl
 obtain ⟨w, j, a, S', xs, ys, rfl, hx1, b1, hw, rfl⟩ := qastJ_inv hs
 refine QTri.stored Ad (j := j.toNatClampNeg) (w := .long w) hx1 b1 (by rw [(aset_inv hw).2.2]; simp [qsz]) h fun p e R s mid args below meth c T locs cells slots C hcx X hR => ?_
 have hd2 : decode c.code pc = .ok (.lastore, 1) := by rw [hcx.2.2.1]; exact hd
 obtain ⟨cl, A, hsl⟩ := hR.2.2 _ _ hx1
 obtain ⟨i1, i2⟩ := ast_in hsl hw
 obtain ⟨T₁, h₁, X₁, e₁, W₁, st⟩ := stJ X hcx.1 hcx.2.1 rfl A i1 (g := mkF mid pc C (List.map (qv ad) (.long w :: .int j :: .ref a :: S'))) rfl rfl hd2
 exact ⟨T₁, h₁, X₁, e₁, W₁, ⟨_, A.same W₁, i2⟩, st⟩
set_option maxHeartbeats 4000000 in
theorem QTri.alen {pc aux : Nat} {L : QLoc} {S : List Value} {σ : QHeap} {st' : QSt} (h : QTri l Z n0 ad m st' v σ') (hc : pCode m pc = some (.arraylength, aux)) (hs : qlen (pc + 1) L S σ = some st') : QTri l Z n0 ad m (pc, L, S, σ) v σ' := by
 have hd : decode (pBytes m) pc = .ok (.arraylength, 1) := pDecN hc rfl
 obtain ⟨a, S', n, rfl, hx1, rfl⟩ := qlen_inv hs
 refine QTri.stack h fun p e R s mid args below meth c T locs cells slots C target hx hZ hby hown X hR hL k => ?_
 have hd2 : decode c.code pc = .ok (.arraylength, 1) := by rw [hby]; exact hd
 rcases hx1 with ⟨ty, xs, hx1, rfl⟩ | ⟨xs, hx1, rfl⟩
 ·obtain ⟨cl, A, hsl⟩ := hR.2.2 _ _ hx1
  have e1 : cl.slots.size = xs.length := by rw [hsl]; simp
  rw [← e1] at k
  exact X.arraylength hx A.1 (State.isArrayOf_alike hZ.alike A.2.1) (g := mkF mid pc C (List.map (qv ad) (.ref a :: S'))) rfl rfl hd2 _ k
 ·obtain ⟨cl, A, hsl⟩ := hR.2.2 _ _ hx1
  have e1 : cl.slots.size = xs.length := by rw [hsl]; simp
  rw [← e1] at k
  exact X.arraylength hx A.1 (State.isArrayOf_alike hZ.alike A.2.1) (g := mkF mid pc C (List.map (qv ad) (.ref a :: S'))) rfl rfl hd2 _ k
set_option maxHeartbeats 4000000 in
theorem QTri.newObj (Ad : QAd n0 ad) (W : QW Z a0) {pc idx aux : Nat} {L : QLoc} {S : List Value} {σ : QHeap} (h : QTri l Z n0 ad m (pc + 3, L, .ref σ.length :: S, σ ++ [.inl cDef]) v σ') (hc : pCode m pc = some (.new idx, aux)) : QTri l Z n0 ad m (pc, L, S, σ) v σ' := by
 have hd : decode (pBytes m) pc = .ok (.new idx, 3) := pDecN hc rfl
 have hm := mem_of_contains (show lkN.contains (pK m, idx) = true from pRest hc)
 refine QTri.gen h (by simp) (by simp [qhs_app]) fun p e R s mid args below meth c T locs cells slots C hcx X hR hF hL hC hn hc1 hsl => ?_
 obtain ⟨hx, hZ, hby, hml, hret, hown, hnm, hfr, hlo⟩ := hcx
 have hd2 : decode c.code pc = .ok (.new idx, 3) := by rw [hby]; exact hd
 simp only [List.length_append, List.length_singleton, Nat.add_sub_cancel_left, qgrow, qsz] at hc1 hsl ⊢
 obtain ⟨T₁, h₁, X₁, e₁, E₁, A₁, D₁, -, st⟩ := newO X hx hZ hown (index := idx) (qw_nw W (pK m, idx) hm) ((qw_inst W)) ((qw_init W)) rfl (g := mkF mid pc C (S.map (qv ad))) rfl hd2 hc1 hsl
 have hsz : h₁.size = T.heap.size + 1 := by
  have q1 := X₁.heapSize
  have q2 : T.heap.size < h₁.size := A₁.lt
  have q3 : T.heap.size = n0 + (σ.length - k0) := hR.2.1
  rw [e₁] at q1
  have : n0 + (σ.length - k0) = s.heap.size + cells := hn
  omega
 refine ⟨T₁, locs, C, X₁, ?_, hF, hL, hC, fun target q => ?_⟩
 ·rw [e₁]
  refine QRep.push hR Ad E₁ hsz ⟨A₁, cDefL, fun k u hk hu => ?_⟩
  rw [cDefs k hk] at hu
  cases hu
  have e3 : qv ad (defaultValue (fTy k)) = defaultValue (fTy k) := by
   cases hq : defaultValue (fTy k) with
   | ref a => exact absurd hq (fDef k hk a)
   | _ => rfl
  rw [e3]
  exact D₁ (laid_of W hk) (fPrs k hk)
 ·refine st _ ?_
  have e2 : ad σ.length = T.heap.size := by rw [Ad.1 _ hR.1]; exact hR.2.1.symm
  simp only [List.map_cons, qv, e2] at q
  exact q
set_option maxHeartbeats 8000000 in
theorem QTri.step (Ad : QAd n0 ad) (W : QW Z a0) {st st' : QSt} (h : QTri l Z n0 ad m st' v σ') (hs : qstep m st = some st') : QTri l Z n0 ad m st v σ' := by
 obtain ⟨pc, L, S, σ⟩ := st
 unfold qstep at hs
 dsimp only at hs
 split at hs
 rotate_left
 ·cases hs
 rename_i i aux hc
 have hd := pDecN hc rfl
 have hr := pRest hc
 unfold qexec at hs
 split at hs
 ·-- aload_n
  obtain ⟨w, h1, h2, rfl⟩ := qload_inv hs
  obtain ⟨a, rfl⟩ := isR_inv h2
  exact QTri.stack h fun p e R s mid args below meth c T locs cells slots C target hx hZ hby hown X hR hL k => XS.aloadN X.here hx rfl (hb hby hd) (hL.2.1 _ _ h1) rfl k
 ·obtain ⟨w, h1, h2, rfl⟩ := qload_inv hs
  obtain ⟨a, rfl⟩ := isR_inv h2
  exact QTri.stack h fun p e R s mid args below meth c T locs cells slots C target hx hZ hby hown X hR hL k => XS.aload X.here hx rfl (hb hby hd) (hL.2.1 _ _ h1) rfl k
 ·obtain ⟨w, h1, h2, rfl⟩ := qload_inv hs
  obtain ⟨a, rfl⟩ := isI_inv h2
  exact QTri.stack h fun p e R s mid args below meth c T locs cells slots C target hx hZ hby hown X hR hL k => XS.iloadN X.here hx rfl (hb hby hd) (hL.2.1 _ _ h1) k
 ·obtain ⟨w, h1, h2, rfl⟩ := qload_inv hs
  obtain ⟨a, rfl⟩ := isI_inv h2
  exact QTri.stack h fun p e R s mid args below meth c T locs cells slots C target hx hZ hby hown X hR hL k => XS.iload X.here hx rfl (hb hby hd) (hL.2.1 _ _ h1) k
 ·obtain ⟨w, h1, h2, rfl⟩ := qload_inv hs
  obtain ⟨a, rfl⟩ := isJ_inv h2
  exact QTri.stack h fun p e R s mid args below meth c T locs cells slots C target hx hZ hby hown X hR hL k => XT.lloadN X.here hx rfl (hb hby hd) (hL.2.1 _ _ h1) k
 ·obtain ⟨w, h1, h2, rfl⟩ := qload_inv hs
  obtain ⟨a, rfl⟩ := isJ_inv h2
  exact QTri.stack h fun p e R s mid args below meth c T locs cells slots C target hx hZ hby hown X hR hL k => XT.lload X.here hx rfl (hb hby hd) (hL.2.1 _ _ h1) k
 ·cases hs -- iconst
  exact QTri.stack h fun p e R s mid args below meth c T locs cells slots C target hx hZ hby hown X hR hL k => XS.iconst X.here hx rfl (hb hby hd) k
 ·cases hs
  exact QTri.stack h fun p e R s mid args below meth c T locs cells slots C target hx hZ hby hown X hR hL k => XS.bipush X.here hx rfl (hb hby hd) k
 ·cases hs
  exact QTri.stack h fun p e R s mid args below meth c T locs cells slots C target hx hZ hby hown X hR hL k => XS.sipush X.here hx rfl (hb hby hd) k
 ·cases hs
  exact QTri.stack h fun p e R s mid args below meth c T locs cells slots C target hx hZ hby hown X hR hL k => XT.lconst X.here hx rfl (hb hby hd) k
 ·-- ldc
  unfold qldc at hs
  split at hs
  ·rename_i w hw
   cases hs
   obtain ⟨x, hx1, hx2⟩ := qw_cI W (pK m, _, aux) (mem_of_contains (show lkC.contains (pK m, _, aux) = true from hr))
   rw [show vget cK aux = some w from hw] at hx1
   cases hx1
   exact QTri.stack h fun p e R s mid args below meth c T locs cells slots C target hx hZ hby hown X hR hL k => X.ldcI hx hown (mv hZ hx2) rfl (hb hby hd) k
  ·cases hs
 ·unfold qldc at hs
  split at hs
  ·rename_i w hw
   cases hs
   obtain ⟨x, hx1, hx2⟩ := qw_cJ W (pK m, _, aux) (mem_of_contains (show lkD.contains (pK m, _, aux) = true from hr))
   rw [show vget cK aux = some w from hw] at hx1
   cases hx1
   exact QTri.stack h fun p e R s mid args below meth c T locs cells slots C target hx hZ hby hown X hR hL k => X.ldc2J hx hown (mv hZ hx2) rfl (hb hby hd) k
  ·cases hs
 ·-- istore_n
  obtain ⟨w, S', L', rfl, h2, h3, rfl⟩ := qstore_inv hs
  obtain ⟨a, rfl⟩ := isI_inv h2
  exact QTri.frame h fun p e R s mid args below meth c T locs cells slots C hcx X hR hL hC => by
   obtain ⟨D, d1, d2, d3⟩ := store_ok hL h3
   exact ⟨D, d2, d3.trans hC, fun target k => XS.istoreN X.here hcx.1 rfl (hb hcx.2.2.1 hd) rfl d1 k⟩
 ·obtain ⟨w, S', L', rfl, h2, h3, rfl⟩ := qstore_inv hs
  obtain ⟨a, rfl⟩ := isI_inv h2
  exact QTri.frame h fun p e R s mid args below meth c T locs cells slots C hcx X hR hL hC => by
   obtain ⟨D, d1, d2, d3⟩ := store_ok hL h3
   exact ⟨D, d2, d3.trans hC, fun target k => XS.istore X.here hcx.1 rfl (hb hcx.2.2.1 hd) rfl d1 k⟩
 ·obtain ⟨w, S', L', rfl, h2, h3, rfl⟩ := qstore_inv hs
  obtain ⟨a, rfl⟩ := isJ_inv h2
  exact QTri.frame h fun p e R s mid args below meth c T locs cells slots C hcx X hR hL hC => by
   obtain ⟨D, d1, d2, d3⟩ := store_ok hL h3
   exact ⟨D, d2, d3.trans hC, fun target k => XT.lstoreN X.here hcx.1 rfl (hb hcx.2.2.1 hd) rfl d1 k⟩
 ·obtain ⟨w, S', L', rfl, h2, h3, rfl⟩ := qstore_inv hs
  obtain ⟨a, rfl⟩ := isJ_inv h2
  exact QTri.frame h fun p e R s mid args below meth c T locs cells slots C hcx X hR hL hC => by
   obtain ⟨D, d1, d2, d3⟩ := store_ok hL h3
   exact ⟨D, d2, d3.trans hC, fun target k => XT.lstore X.here hcx.1 rfl (hb hcx.2.2.1 hd) rfl d1 k⟩
 ·obtain ⟨w, S', L', rfl, h2, h3, rfl⟩ := qstore_inv hs
  obtain ⟨a, rfl⟩ := isR_inv h2
  exact QTri.frame h fun p e R s mid args below meth c T locs cells slots C hcx X hR hL hC => by
   obtain ⟨D, d1, d2, d3⟩ := store_ok hL h3
   exact ⟨D, d2, d3.trans hC, fun target k => XS.astoreN X.here hcx.1 rfl (hb hcx.2.2.1 hd) rfl rfl d1 k⟩
 ·obtain ⟨w, S', L', rfl, h2, h3, rfl⟩ := qstore_inv hs
  obtain ⟨a, rfl⟩ := isR_inv h2
  exact QTri.frame h fun p e R s mid args below meth c T locs cells slots C hcx X hR hL hC => by
   obtain ⟨D, d1, d2, d3⟩ := store_ok hL h3
   exact ⟨D, d2, d3.trans hC, fun target k => XS.astore X.here hcx.1 rfl (hb hcx.2.2.1 hd) rfl rfl d1 k⟩
 ·-- iinc
  unfold qinc at hs
  split at hs
  ·rename_i x hx1
   split at hs
   ·rename_i L' hL'
    cases hs
    exact QTri.frame h fun p e R s mid args below meth c T locs cells slots C hcx X hR hL hC => by
     obtain ⟨D, d1, d2, d3⟩ := store_ok hL hL'
     exact ⟨D, d2, d3.trans hC, fun target k => XS.iinc X.here hcx.1 rfl (hb hcx.2.2.1 hd) (hL.2.1 _ _ hx1) d1 k⟩
   ·cases hs
  ·cases hs
 ·obtain ⟨x, y, S', rfl, rfl⟩ := qbin_inv hs -- iadd
  exact QTri.stack h fun p e R s mid args below meth c T locs cells slots C target hx hZ hby hown X hR hL k => XS.iadd X.here hx rfl (hb hby hd) rfl k
 ·obtain ⟨x, y, S', rfl, rfl⟩ := qbin_inv hs
  exact QTri.stack h fun p e R s mid args below meth c T locs cells slots C target hx hZ hby hown X hR hL k => XS.isub X.here hx rfl (hb hby hd) rfl k
 ·obtain ⟨x, y, S', rfl, rfl⟩ := qbin_inv hs
  exact QTri.stack h fun p e R s mid args below meth c T locs cells slots C target hx hZ hby hown X hR hL k => XS.imul X.here hx rfl (hb hby hd) rfl k
 ·obtain ⟨x, y, S', rfl, rfl⟩ := qbin_inv hs
  exact QTri.stack h fun p e R s mid args below meth c T locs cells slots C target hx hZ hby hown X hR hL k => XS.iand X.here hx rfl (hb hby hd) rfl k
 ·obtain ⟨x, y, S', rfl, rfl⟩ := qbin_inv hs
  exact QTri.stack h fun p e R s mid args below meth c T locs cells slots C target hx hZ hby hown X hR hL k => XT.ior X.here hx rfl (hb hby hd) rfl k
 ·obtain ⟨x, y, S', rfl, rfl⟩ := qbin_inv hs
  exact QTri.stack h fun p e R s mid args below meth c T locs cells slots C target hx hZ hby hown X hR hL k => XT.ixor X.here hx rfl (hb hby hd) rfl k
 ·obtain ⟨x, y, S', rfl, rfl⟩ := qbin_inv hs
  exact QTri.stack h fun p e R s mid args below meth c T locs cells slots C target hx hZ hby hown X hR hL k => XT.ishl X.here hx rfl (hb hby hd) rfl k
 ·obtain ⟨x, y, S', rfl, rfl⟩ := qbin_inv hs
  exact QTri.stack h fun p e R s mid args below meth c T locs cells slots C target hx hZ hby hown X hR hL k => XT.ishr X.here hx rfl (hb hby hd) rfl k
 ·obtain ⟨x, y, S', rfl, rfl⟩ := qbin_inv hs
  exact QTri.stack h fun p e R s mid args below meth c T locs cells slots C target hx hZ hby hown X hR hL k => XT.iushr X.here hx rfl (hb hby hd) rfl k
 ·obtain ⟨x, y, z, S', rfl, hz, rfl⟩ := qbino_inv hs -- idiv
  unfold qdiv at hz
  split at hz
  ·cases hz
  ·rename_i hy
   cases hz
   exact QTri.stack h fun p e R s mid args below meth c T locs cells slots C target hx hZ hby hown X hR hL k => XS.idiv X.here hx rfl (hb hby hd) rfl hy k
 ·obtain ⟨x, y, z, S', rfl, hz, rfl⟩ := qbino_inv hs
  unfold qrem at hz
  split at hz
  ·cases hz
  ·rename_i hy
   cases hz
   exact QTri.stack h fun p e R s mid args below meth c T locs cells slots C target hx hZ hby hown X hR hL k => iremM X hx rfl (hb hby hd) rfl hy k
 ·obtain ⟨x, S', rfl, rfl⟩ := quni_inv hs -- ineg
  exact QTri.stack h fun p e R s mid args below meth c T locs cells slots C target hx hZ hby hown X hR hL k => XS.ineg X.here hx rfl (hb hby hd) rfl k
 ·obtain ⟨x, S', rfl, rfl⟩ := quni_inv hs
  exact QTri.stack h fun p e R s mid args below meth c T locs cells slots C target hx hZ hby hown X hR hL k => XT.i2l X.here hx rfl (hb hby hd) rfl k
 ·obtain ⟨x, S', rfl, rfl⟩ := quni_inv hs
  exact QTri.stack h fun p e R s mid args below meth c T locs cells slots C target hx hZ hby hown X hR hL k => XT.i2b X.here hx rfl (hb hby hd) rfl k
 ·obtain ⟨x, S', rfl, rfl⟩ := quniJ_inv hs
  exact QTri.stack h fun p e R s mid args below meth c T locs cells slots C target hx hZ hby hown X hR hL k => XT.l2i X.here hx rfl (hb hby hd) rfl k
 ·obtain ⟨x, S', rfl, rfl⟩ := quniJ_inv hs
  exact QTri.stack h fun p e R s mid args below meth c T locs cells slots C target hx hZ hby hown X hR hL k => XT.lneg X.here hx rfl (hb hby hd) rfl k
 ·obtain ⟨x, y, S', rfl, rfl⟩ := qbinJ_inv hs
  exact QTri.stack h fun p e R s mid args below meth c T locs cells slots C target hx hZ hby hown X hR hL k => XT.ladd X.here hx rfl (hb hby hd) rfl k
 ·obtain ⟨x, y, S', rfl, rfl⟩ := qbinJ_inv hs
  exact QTri.stack h fun p e R s mid args below meth c T locs cells slots C target hx hZ hby hown X hR hL k => XT.lsub X.here hx rfl (hb hby hd) rfl k
 ·obtain ⟨x, y, S', rfl, rfl⟩ := qbinJ_inv hs
  exact QTri.stack h fun p e R s mid args below meth c T locs cells slots C target hx hZ hby hown X hR hL k => XT.lmul X.here hx rfl (hb hby hd) rfl k
 ·obtain ⟨x, y, S', rfl, rfl⟩ := qbinJ_inv hs
  exact QTri.stack h fun p e R s mid args below meth c T locs cells slots C target hx hZ hby hown X hR hL k => XT.land X.here hx rfl (hb hby hd) rfl k
 ·obtain ⟨x, y, S', rfl, rfl⟩ := qbinJ_inv hs
  exact QTri.stack h fun p e R s mid args below meth c T locs cells slots C target hx hZ hby hown X hR hL k => XT.lor X.here hx rfl (hb hby hd) rfl k
 ·obtain ⟨x, y, S', rfl, rfl⟩ := qbinJ_inv hs
  exact QTri.stack h fun p e R s mid args below meth c T locs cells slots C target hx hZ hby hown X hR hL k => XT.lxor X.here hx rfl (hb hby hd) rfl k
 ·obtain ⟨x, y, S', rfl, rfl⟩ := qshJ_inv hs
  exact QTri.stack h fun p e R s mid args below meth c T locs cells slots C target hx hZ hby hown X hR hL k => XT.lshl X.here hx rfl (hb hby hd) rfl k
 ·obtain ⟨x, y, S', rfl, rfl⟩ := qshJ_inv hs
  exact QTri.stack h fun p e R s mid args below meth c T locs cells slots C target hx hZ hby hown X hR hL k => XT.lshr X.here hx rfl (hb hby hd) rfl k
 ·obtain ⟨x, y, S', rfl, rfl⟩ := qshJ_inv hs
  exact QTri.stack h fun p e R s mid args below meth c T locs cells slots C target hx hZ hby hown X hR hL k => XT.lushr X.here hx rfl (hb hby hd) rfl k
 ·split at hs -- lcmp
  ·cases hs
   exact QTri.stack h fun p e R s mid args below meth c T locs cells slots C target hx hZ hby hown X hR hL k => XT.lcmp X.here hx rfl (hb hby hd) rfl k
  ·cases hs
 ·cases hs -- goto
  obtain ⟨t1, t2⟩ := qtgt_spec hr
  exact QTri.stack h fun p e R s mid args below meth c T locs cells slots C target hx hZ hby hown X hR hL k => XS.goto X.here hx rfl rfl (hb hby hd) t1 t2 k
 ·obtain ⟨x, S', rfl, rfl⟩ := qif_inv hs
  obtain ⟨t1, t2⟩ := qtgt_spec hr
  cases hh : ifCond.holds _ x with
  | true => rw [hh] at h; exact QTri.stack h fun p e R s mid args below meth c T locs cells slots C target hx hZ hby hown X hR hL k => XS.ifYes X.here hx rfl rfl (hb hby hd) rfl hh t1 t2 k
  | false => rw [hh] at h; exact QTri.stack h fun p e R s mid args below meth c T locs cells slots C target hx hZ hby hown X hR hL k => XS.ifNo X.here hx rfl (hb hby hd) rfl hh k
 ·obtain ⟨x, y, S', rfl, rfl⟩ := qicmp_inv hs
  obtain ⟨t1, t2⟩ := qtgt_spec hr
  cases hh : if_icmp.holds _ x y with
  | true => rw [hh] at h; exact QTri.stack h fun p e R s mid args below meth c T locs cells slots C target hx hZ hby hown X hR hL k => XS.icmpYes X.here hx rfl rfl (hb hby hd) rfl hh t1 t2 k
  | false => rw [hh] at h; exact QTri.stack h fun p e R s mid args below meth c T locs cells slots C target hx hZ hby hown X hR hL k => XS.icmpNo X.here hx rfl (hb hby hd) rfl hh k
 ·unfold qdup at hs
  split at hs
  ·cases hs
   exact QTri.stack h fun p e R s mid args below meth c T locs cells slots C target hx hZ hby hown X hR hL k => XS.dup X.here hx rfl (hb hby hd) rfl rfl k
  ·cases hs
   exact QTri.stack h fun p e R s mid args below meth c T locs cells slots C target hx hZ hby hown X hR hL k => XS.dup X.here hx rfl (hb hby hd) rfl rfl k
  ·cases hs
 ·unfold qdup2 at hs
  split at hs
  ·cases hs
   exact QTri.stack h fun p e R s mid args below meth c T locs cells slots C target hx hZ hby hown X hR hL k => XT.dup2 X.here hx rfl (hb hby hd) rfl rfl rfl k
  ·cases hs
   exact QTri.stack h fun p e R s mid args below meth c T locs cells slots C target hx hZ hby hown X hR hL k => XT.dup2 X.here hx rfl (hb hby hd) rfl rfl rfl k
  ·cases hs
   exact QTri.stack h fun p e R s mid args below meth c T locs cells slots C target hx hZ hby hown X hR hL k => XT.dup2L X.here hx rfl (hb hby hd) rfl k
  ·cases hs
 ·unfold qpop at hs
  split at hs
  ·cases hs
   exact QTri.stack h fun p e R s mid args below meth c T locs cells slots C target hx hZ hby hown X hR hL k => XT.pop X.here hx rfl (hb hby hd) rfl rfl k
  ·cases hs
   exact QTri.stack h fun p e R s mid args below meth c T locs cells slots C target hx hZ hby hown X hR hL k => XT.pop X.here hx rfl (hb hby hd) rfl rfl k
  ·cases hs
 ·exact QTri.getfield W h hc hs
 ·exact QTri.putfield Ad W h hc hs
 ·exact QTri.iaload h hc hs
 ·exact QTri.baload h hc hs
 ·exact QTri.laload h hc hs
 ·exact QTri.iastore Ad h hc hs
 ·exact QTri.bastore Ad h hc hs
 ·exact QTri.lastore Ad h hc hs
 ·exact QTri.alen h hc hs
 ·-- newarray
  unfold qnewA at hs
  split at hs
  ·split at hs
   ·obtain ⟨k, hk, hs⟩ := Option.bind_eq_some_iff.mp hs
    cases hs
    exact QTri.newArr (c := .inr (.inl (.int, List.replicate k 0))) Ad W hk hc (by simp [qsz]) (fun h' a cA A => ⟨_, A, by simp [newA, (qnew_inv hk).2.1]; exact Or.inr rfl⟩) h
   ·obtain ⟨k, hk, hs⟩ := Option.bind_eq_some_iff.mp hs
    cases hs
    exact QTri.newArr (c := .inr (.inl (.boolean, List.replicate k 0))) Ad W hk hc (by simp [qsz]) (fun h' a cA A => ⟨_, A, by simp [newA, (qnew_inv hk).2.1]; exact Or.inr rfl⟩) h
   ·obtain ⟨k, hk, hs⟩ := Option.bind_eq_some_iff.mp hs
    cases hs
    exact QTri.newArr (c := .inr (.inl (.byte, List.replicate k 0))) Ad W hk hc (by simp [qsz]) (fun h' a cA A => ⟨_, A, by simp [newA, (qnew_inv hk).2.1]; exact Or.inr rfl⟩) h
   ·obtain ⟨k, hk, hs⟩ := Option.bind_eq_some_iff.mp hs
    cases hs
    exact QTri.newArr (c := .inr (.inr (List.replicate k 0))) Ad W hk hc (by simp [qsz]) (fun h' a cA A => ⟨_, A, by simp [newA, (qnew_inv hk).2.1]; exact Or.inr rfl⟩) h
   ·cases hs
  ·cases hs
 ·cases hs; exact QTri.newObj Ad W h hc
 ·cases hs
theorem QTri.steps (Ad : QAd n0 ad) (W : QW Z a0) : ∀ (n : Nat) {st st' : QSt}, qsteps m n st = some st' → QTri l Z n0 ad m st' v σ' → QTri l Z n0 ad m st v σ'
 | 0, st, st', h, k => by cases h; exact k
 | n + 1, st, st', h, k => by
  simp only [qsteps] at h
  split at h
  ·rename_i st₁ h1
   exact QTri.step Ad W (QTri.steps Ad W n h k) h1
  ·cases h
def lmask : List Bool → QLoc → QLoc
 | b :: t, x :: u => (bif b then x else none) :: lmask t u
 | _, L => L.map fun _ => none
theorem lmask_len : ∀ (b : List Bool) (L : QLoc), (lmask b L).length = L.length
 | [], L => by simp [lmask]
 | _ :: _, [] => by simp [lmask]
 | _ :: t, _ :: u => by simp [lmask, lmask_len t u]
theorem lmask_get : ∀ (b : List Bool) (L : QLoc) (k : Nat) (v : Value), lget (lmask b L) k = some v → lget L k = some v
 | [], L, k, v, h => by
  simp only [lmask, lget_eq, List.getElem?_map] at h
  cases hq : L[k]? <;> simp [hq] at h
 | _ :: _, [], k, v, h => by simp [lmask, lget] at h
 | b :: t, x :: u, 0, v, h => by
  simp only [lmask, lget] at h ⊢
  cases b
  ·cases h
  ·exact h
 | b :: t, x :: u, k + 1, v, h => by
  simp only [lmask, lget] at h ⊢
  exact lmask_get t u k v h
theorem QTri.mask {pc : Nat} {L : QLoc} {S : List Value} {σ : QHeap} (b : List Bool) (h : QTri l Z n0 ad m (pc, lmask b L, S, σ) v σ') : QTri l Z n0 ad m (pc, L, S, σ) v σ' :=
 QTri.frame h fun p e R s mid args below meth c T locs cells slots C hcx X hR hL hC => ⟨C, ⟨by rw [lmask_len]; exact hL.1, fun k u hk => hL.2.1 k u (lmask_get b L k u hk), hL.2.2⟩, hC, fun target k => k⟩
theorem QTri.ret0 {pc aux : Nat} {L : QLoc} {σ : QHeap} (hc : pCode m pc = some (.return_, aux)) (hr : pRet m = none) : QTri l Z n0 ad m (pc, L, [], σ) none σ :=
 have hd : decode (pBytes m) pc = .ok (.return_, 1) := pDecN hc rfl
 ⟨Nat.le_refl _, Nat.le_refl _, fun p e R s mid args below meth c T locs cells slots C hcx X hR hF hL hC hn hc1 hsl => ⟨T, locs, by simpa using X, hR, hF, fun fs hf => X.returnOut hcx.1 (hcx.2.2.2.2.1.trans hr) (hb hcx.2.2.1 hd) hf⟩⟩
theorem QTri.retI {pc aux : Nat} {L : QLoc} {S : List Value} {σ : QHeap} {x : Int32} (hc : pCode m pc = some (.ireturn, aux)) (hr : pRet m = some .int) : QTri l Z n0 ad m (pc, L, .int x :: S, σ) (some (.int x)) σ :=
 have hd : decode (pBytes m) pc = .ok (.ireturn, 1) := pDecN hc rfl
 ⟨Nat.le_refl _, Nat.le_refl _, fun p e R s mid args below meth c T locs cells slots C hcx X hR hF hL hC hn hc1 hsl => ⟨T, locs, by simpa using X, hR, hF, fun fs hf => Jvm.RoadKit.retI X hcx.1 (hcx.2.2.2.2.1.trans hr) (hb hcx.2.2.1 hd) hf⟩⟩
theorem QTri.retZ {pc aux : Nat} {L : QLoc} {S : List Value} {σ : QHeap} {x : Int32} (hc : pCode m pc = some (.ireturn, aux)) (hr : pRet m = some .boolean) : QTri l Z n0 ad m (pc, L, .int x :: S, σ) (some (.int (x &&& 1))) σ :=
 have hd : decode (pBytes m) pc = .ok (.ireturn, 1) := pDecN hc rfl
 ⟨Nat.le_refl _, Nat.le_refl _, fun p e R s mid args below meth c T locs cells slots C hcx X hR hF hL hC hn hc1 hsl => ⟨T, locs, by simpa using X, hR, hF, fun fs hf => retN X hcx.1 (t := .boolean) (hcx.2.2.2.2.1.trans hr) (by simp) (hb hcx.2.2.1 hd) hf⟩⟩
theorem QTri.retJ {pc aux : Nat} {L : QLoc} {S : List Value} {σ : QHeap} {x : Int64} (hc : pCode m pc = some (.lreturn, aux)) (hr : pRet m = some .long) : QTri l Z n0 ad m (pc, L, .long x :: S, σ) (some (.long x)) σ :=
 have hd : decode (pBytes m) pc = .ok (.lreturn, 1) := pDecN hc rfl
 ⟨Nat.le_refl _, Nat.le_refl _, fun p e R s mid args below meth c T locs cells slots C hcx X hR hF hL hC hn hc1 hsl => ⟨T, locs, by simpa using X, hR, hF, fun fs hf => retOut X hcx.1 (t := .long) (hcx.2.2.2.2.1.trans hr) rfl (Or.inr (Or.inl ⟨rfl, rfl, _, rfl⟩)) (hb hcx.2.2.1 hd) hf⟩⟩
def LOk (ad : Nat → Addr) (L : QLoc) (C : List Slot) : Prop :=
 L.length = C.length ∧ (∀ k v, lget L k = some v → C[k]? = some (.val (qv ad v))) ∧ (∀ k w, C[k]? = some (.val w) → w.category = 2 → C[k + 1]? = some .second) ∧ ∀ k, C[k]? = some .second → ∃ j w, k = j + 1 ∧ C[j]? = some (.val w) ∧ w.category = 2
theorem LOk.base (ad : Nat → Addr) (n : Nat) : LOk ad (List.replicate n none) (List.replicate n .unset) := by
 refine ⟨by simp, fun k u h => ?_, fun k w h => ?_, fun k h => ?_⟩
 ·rw [lget_eq] at h
  rcases Nat.lt_or_ge k n with q | q
  ·simp [List.getElem?_replicate, q] at h
  ·simp [List.getElem?_eq_none, q] at h
 ·rcases Nat.lt_or_ge k n with q | q
  ·simp [List.getElem?_replicate, q] at h
  ·simp [List.getElem?_eq_none, q] at h
 ·rcases Nat.lt_or_ge k n with q | q
  ·simp [List.getElem?_replicate, q] at h
  ·simp [List.getElem?_eq_none, q] at h
theorem LOk.one {L : QLoc} {C : List Slot} (H : LOk ad L C) {u : Value} (hu : u.category = 1) : LOk ad (some u :: L) (.val (qv ad u) :: C) := by
 obtain ⟨h1, h2, h3, h4⟩ := H
 refine ⟨by simp [h1], fun k w h => ?_, fun k w h hw => ?_, fun k h => ?_⟩
 ·cases k with
  | zero => simp only [lget] at h; cases h; simp
  | succ k => simp only [lget] at h; simpa using h2 k w h
 ·cases k with
  | zero => simp at h; rw [← h, qv_cat, hu] at hw; cases hw
  | succ k => simpa using h3 k w (by simpa using h) hw
 ·cases k with
  | zero => simp at h
  | succ k =>
   obtain ⟨j, w, z1, z2, z3⟩ := h4 k (by simpa using h)
   exact ⟨j + 1, w, by omega, by simpa using z2, z3⟩
theorem LOk.two {L : QLoc} {C : List Slot} (H : LOk ad L C) {u : Value} (hu : u.category = 2) : LOk ad (some u :: none :: L) (.val (qv ad u) :: .second :: C) := by
 obtain ⟨h1, h2, h3, h4⟩ := H
 refine ⟨by simp [h1], fun k w h => ?_, fun k w h hw => ?_, fun k h => ?_⟩
 ·rcases k with _ | _ | k
  ·simp only [lget] at h; cases h; simp
  ·simp [lget] at h
  ·simp only [lget] at h; simpa using h2 k w h
 ·rcases k with _ | _ | k
  ·simp
  ·simp at h
  ·simpa using h3 k w (by simpa using h) hw
 ·rcases k with _ | _ | k
  ·simp at h
  ·exact ⟨0, qv ad u, rfl, by simp, by rw [qv_cat]; exact hu⟩
  ·obtain ⟨j, w, z1, z2, z3⟩ := h4 k (by simpa using h)
   exact ⟨j + 2, w, by omega, by simpa using z2, z3⟩
def slotsOf (u : Value) : List Slot := if u.category = 2 then [.val u, .second] else [.val u]
theorem fold_slots : ∀ (as : List Value) (acc : Array Slot), (as.foldl (fun acc v => if v.category = 2 then (acc.push (.val v)).push .second else acc.push (.val v)) acc).toList = acc.toList ++ as.flatMap slotsOf
 | [], acc => by simp
 | u :: t, acc => by
  rw [List.foldl_cons, fold_slots t]
  by_cases hc : u.category = 2 <;> simp [slotsOf, hc]
theorem slots_len : ∀ (as : List Value), (as.flatMap slotsOf).length = (as.map fun v => v.category).sum
 | [] => rfl
 | u :: t => by
  rw [List.flatMap_cons, List.length_append, slots_len t, List.map_cons, List.sum_cons]
  cases u <;> simp [slotsOf, Value.category]
theorem cats_qv (as : List Value) : ((as.map (qv ad)).map fun v => v.category).sum = (as.map fun v => v.category).sum := by
 rw [List.map_map]
 congr 1
 exact List.map_congr_left fun x _ => qv_cat ad x
theorem entry_list : ∀ (as : List Value) (n : Nat), LOk ad ((as.flatMap fun v => match v with | .long x => [some (.long x), none] | .double x => [some (.double x), none] | v => [some v]) ++ List.replicate n none) ((as.map (qv ad)).flatMap slotsOf ++ List.replicate n .unset)
 | [], n => by simpa using LOk.base ad n
 | u :: t, n => by
  have ih := entry_list t n
  cases u with
  | long x => exact LOk.two ih rfl
  | double x => exact LOk.two ih rfl
  | int x => exact LOk.one ih rfl
  | float x => exact LOk.one ih rfl
  | null => exact LOk.one ih rfl
  | ref x => exact LOk.one ih rfl
  | retAddr x => exact LOk.one ih rfl
theorem qentry_ok (as : List Value) (mx : Nat) (h : (as.map fun v => v.category).sum ≤ mx) : QLocOk ad (qentry as mx) (argsToLocals (as.map (qv ad)).toArray mx) ∧ (argsToLocals (as.map (qv ad)).toArray mx).size = mx := by
 have e : (argsToLocals (as.map (qv ad)).toArray mx).toList = (as.map (qv ad)).flatMap slotsOf ++ List.replicate (mx - (as.map fun v => v.category).sum) .unset := by
  unfold argsToLocals
  have q := fold_slots (as.map (qv ad)) #[]
  simp only [List.foldl_toArray', Array.toList_append, Array.toList_replicate]
  have q2 : ((as.map (qv ad)).foldl (fun (acc : Array Slot) (v : Value) => if v.category = 2 then (acc.push (.val v)).push .second else acc.push (.val v)) #[]).size = (as.map fun v => v.category).sum := by
   rw [← Array.length_toList, q]
   simp only [List.nil_append]
   rw [slots_len, cats_qv]
  rw [q, q2]
  simp
 have H := entry_list (ad := ad) as (mx - (as.map fun v => v.category).sum)
 rw [← e] at H
 obtain ⟨h1, h2, h3, h4⟩ := H
 have hs : (argsToLocals (as.map (qv ad)).toArray mx).size = mx := by
  rw [← Array.length_toList, e, List.length_append, slots_len, cats_qv, List.length_replicate]
  omega
 refine ⟨⟨h1.trans Array.length_toList, fun k u hk => ?_, fun k w hk hw => ?_, fun k hk => ?_⟩, hs⟩
 ·have := h2 k u hk; rwa [Array.getElem?_toList] at this
 ·have := h3 k w (by rw [Array.getElem?_toList]; exact hk) hw; rwa [Array.getElem?_toList] at this
 ·obtain ⟨j, w, z1, z2, z3⟩ := h4 k (by rw [Array.getElem?_toList]; exact hk)
  exact ⟨j, w, z1, by rwa [Array.getElem?_toList] at z2, z3⟩
set_option maxHeartbeats 4000000 in
theorem QTri.met {k : Nat} {as : List Value} {σ σ₁ : QHeap} {w : Option Value} {h0 : Heap} (hk : k < pN) (h : QTri l Z n0 ad k (0, qentry as (pMaxL k), [], σ) w σ₁) (hR : QRep Z n0 ad h0 σ) (hlen : (as.map fun v => v.category).sum ≤ pMaxL k) (hret : pRet k = none → w = none) (ws : List Jvm.Cond) {rm : Room}
  (r1 : pFr k ≤ rm.frames) (r2 : pLo k ≤ rm.locals) (r3 : σ₁.length - σ.length ≤ rm.cells) (r4 : qhs σ₁ - qhs σ ≤ rm.slots) :
  MetFree l (pName k) (head1 (Jvm.Cond.code (pName k) (pBytes k) (pMaxL k) (pRet k) :: ws) rm) (fun a U => a = (as.map (qv ad)).toArray ∧ Z.Warmed39 U.vm ∧ U.heap = h0) (fun _ _ _ _ _ => True)
   (fun _ U o U' => ∃ v L, o = .returned v ∧ (v = w.map (qv ad) ∧ QRep Z n0 ad U'.heap σ₁ ∧ Fr n0 L) ∧ FrameEnd U o U' L (σ₁.length - σ.length) (qhs σ₁ - qhs σ)) := by
 refine MetFree.of_bodySF (plainFor_of_name (kPlain _ (pKlt k hk))) hisR ?_
 intro p e s mid args below meth c s₁ Bd hml0 hP hK
 obtain ⟨rfl, hZ, hh⟩ := hP
 have e0 : s₁.heap = h0 := by rw [← hh, Bd.state]; rfl
 obtain ⟨hl1, hl2⟩ := qentry_ok (ad := ad) as (pMaxL k) hlen
 have hX : Stand p l e rm s mid (as.map (qv ad)).toArray below meth c s₁ [] 0 0 := Stand.of_body Bd
 obtain ⟨T', locs', X', R', F', S'⟩ := h.2.2 p e rm s mid _ below meth c s₁ [] 0 0 _ ⟨Bd.exec, hZ, Bd.bytes, hml0, Bd.returns, findClass_of_methodNamed Bd.named, (name_of_methodNamed Bd.named Bd.method).1, r1, r2⟩ hX (by rw [e0]; exact hR) (Fr.nil _) hl1 (hl2.trans hml0.symm) (by rw [hh, Nat.add_zero]; exact hR.2.1.symm) (by rw [Nat.zero_add]; exact r3) (by rw [Nat.zero_add]; exact r4)
 obtain ⟨fs, hr, hrun, hended, hW, hsame⟩ := X'.leave (v := w.map (qv ad)) (fun q => by rw [hret (Bd.returns.symm.trans q)]; rfl)
 refine ⟨_, _, S' fs hr, hrun, hended, _, _, rfl, ⟨rfl, R', F'⟩, ⟨_, rfl⟩, hW, ?_⟩
 simp only [Nat.zero_add] at hsame
 exact hsame
theorem QTri.room {k : Nat} {σ σ₁ : QHeap} {rest : List Value} {R : Room} (hroom : (Nat.ble (pFr k + 1) (pFr m) && Nat.ble ((rest.map fun v => v.category).sum + (pMaxL k + 11) + pLo k) (pLo m)) = true) (hfr : pFr m ≤ R.frames) (hlo : pLo m ≤ R.locals) :
  pFr k + 1 ≤ R.frames ∧ (rest.map fun v => v.category).sum + (pMaxL k + 11) + pLo k ≤ R.locals := by
 obtain ⟨q1, q2⟩ := Bool.and_eq_true_iff.mp hroom
 exact ⟨Nat.le_trans (Nat.le_of_ble_eq_true q1) hfr, Nat.le_trans (Nat.le_of_ble_eq_true q2) hlo⟩
theorem sig_len {k : Nat} (hk : k < pN) {as : List Value} (hna : as.length = pNA k) : ∀ sig, parseMethodDescriptor (pName k).desc = some sig → (as.map (qv ad)).length = sig.parameters.length := fun sig hs => by
 have q := pSig k hk
 rw [show parseMethodDescriptor (pDs k) = some sig from hs] at q
 simp at q
 simp [hna, q]
theorem ret_map (w : Option Value) (rest : List Value) : (w.toList ++ rest).map (qv ad) = (w.map (qv ad)).toList ++ rest.map (qv ad) := by cases w <;> simp
theorem QTri.after {as0 : List Value} {pc : Nat} {L : QLoc} {S rest : List Value} {σ σ₁ : QHeap} {w : Option Value} {k : Nat} (hcal : QTri l Z n0 ad k (0, qentry as0 (pMaxL k), [], σ) w σ₁) (h : QTri l Z n0 ad m (pc + 3, L, w.toList ++ rest, σ₁) v σ')
  (hs : ∀ (p : Program) (e : Env) (R : Room) (s : State) (mid : MethodId) (args : Array Value) (below : List Frame) (meth : Method) (c : Code) (T : State) (locs : List Loc) (cells slots : Nat) (C : Array Slot),
   QCx Z p R s mid meth c m → Stand p l e R s mid args below meth c T locs cells slots → QRep Z n0 ad T.heap σ → C.size = c.maxLocals → cells + (σ₁.length - σ.length) ≤ R.cells → slots + (qhs σ₁ - qhs σ) ≤ R.slots →
   ∃ T₁ Lc, Stand p l e R s mid args below meth c T₁ (locs ++ Lc) (cells + (σ₁.length - σ.length)) (slots + (qhs σ₁ - qhs σ)) ∧ QRep Z n0 ad T₁.heap σ₁ ∧ Fr n0 Lc ∧
    ∀ target, Steps p.tables e below (T₁.setTop (mkF mid (pc + 3) C ((w.map (qv ad)).toList ++ rest.map (qv ad)))) target → Steps p.tables e below (T.setTop (mkF mid pc C (S.map (qv ad)))) target) :
  QTri l Z n0 ad m (pc, L, S, σ) v σ' := by
 refine QTri.gen h hcal.1 hcal.2.1 fun p e R s mid args below meth c T locs cells slots C hcx X hR hF hL hC hn hc1 hsl => ?_
 obtain ⟨T₁, Lc, X₁, R₁, F₁, st⟩ := hs p e R s mid args below meth c T locs cells slots C hcx X hR hC hc1 hsl
 refine ⟨T₁, locs ++ Lc, C, X₁, R₁, hF.app F₁, hL, hC, fun target q => st target ?_⟩
 rw [← ret_map]
 exact q
set_option maxHeartbeats 4000000 in
theorem QTri.callV (W : QW Z a0) {pc idx k a : Nat} {L : QLoc} {S as rest vs : List Value} {σ σ₁ : QHeap} {w : Option Value} (hc : pCode m pc = some (.invokevirtual idx, k)) (hm : (lkV.contains (pK m, idx, k) && mV.contains k) = true) (hcell : hget σ a = some (.inl vs)) (hS : S = as.reverse ++ .ref a :: rest)
  (hna : as.length = pNA k) (hlen : Nat.ble (((Value.ref a :: as).map fun v => v.category).sum) (pMaxL k) = true) (hroom : (Nat.ble (pFr k + 1) (pFr m) && Nat.ble ((rest.map fun v => v.category).sum + (pMaxL k + 11) + pLo k) (pLo m)) = true) (hrb : (w.isNone || (pRet k).isSome) = true)
  (hcal : QTri l Z n0 ad k (0, qentry (.ref a :: as) (pMaxL k), [], σ) w σ₁) (h : QTri l Z n0 ad m (pc + 3, L, w.toList ++ rest, σ₁) v σ') : QTri l Z n0 ad m (pc, L, S, σ) v σ' := by
 have hd : decode (pBytes m) pc = .ok (.invokevirtual idx, 3) := pDecN hc rfl
 subst hS
 obtain ⟨m1, m2⟩ := Bool.and_eq_true_iff.mp hm
 have m1 := mem_of_contains m1
 have m2 := mem_of_contains m2
 have hkA := (mVlt k m2).1
 have hkN := mAlt k hkA
 have hret : pRet k = none → w = none := fun q => by
  rw [q] at hrb
  cases w with
  | none => rfl
  | some w => simp at hrb
 refine QTri.after hcal h fun p e R s mid args below meth c T locs cells slots C hcx X hR hC hc1 hsl => ?_
 obtain ⟨hx, hZ, hby, hml, hret', hown, hnm, hfr, hlo⟩ := hcx
 have hd2 : decode c.code pc = .ok (.invokevirtual idx, 3) := by rw [hby]; exact hd
 obtain ⟨f1, f2⟩ := QTri.room (σ := σ) (σ₁ := σ₁) hroom hfr hlo
 obtain ⟨cq, kq, q1, q2, q3⟩ := isOf hZ rfl (hR.2.2 _ _ hcell).1
 obtain ⟨w1, w2, w3⟩ := (qw_vi W) k m2
 obtain ⟨c1, c2⟩ := (qw_cod W) k hkA
 obtain ⟨_, _, ⟨T₁, L₁, k₁, n₁⟩, -, X₁, ⟨Lc, ⟨rfl, hR1, hF1⟩, l₁, y₁, z₁⟩, st⟩ := X.virtualBack hx (own := kName (pK m)) (index := idx) (y := pName k) (z := pName k) hown (mvT hZ (qw_ml W (pK m, idx, k) m1)) (mvT hZ w1) (notFace_of_selects (args := #[]) (mvT hZ w2)) (mvT hZ w2) (mvT hZ w3) (pOwn _ (pKlt k hkN))
  (backOf (W := (rest.map fun v => v.category).sum) (rm := ⟨pFr k, σ₁.length - σ.length, qhs σ₁ - qhs σ, pLo k⟩) (Q := fun v h L => v = Option.map (qv ad) w ∧ QRep Z n0 ad h σ₁ ∧ Fr n0 L) (QTri.met hkN hcal hR (Nat.le_of_ble_eq_true hlen) hret [] (Nat.le_refl _) (Nat.le_refl _) (Nat.le_refl _) (Nat.le_refl _)) hZ c1 c2 f1 f2) q1 q3 (g := mkF mid pc C (List.map (qv ad) (as.reverse ++ .ref a :: rest))) rfl hC (Steps.refl _) (argsL := as.map (qv ad)) (rest := rest.map (qv ad)) (sig_len hkN hna) (by simp [qv]) (by show 2 * 0 + _ ≤ _; rw [cats_qv]; omega) hd2 (fun _ _ => ⟨rfl, rfl, hc1, hsl⟩)
 dsimp only [Pt.U, Pt.locs, Pt.cells, Pt.slots] at X₁ l₁ y₁ z₁ st hR1
 subst l₁ y₁ z₁
 exact ⟨T₁, Lc, X₁, hR1, hF1, fun target q => st.trans q⟩
set_option maxHeartbeats 4000000 in
theorem QTri.callI (W : QW Z a0) {pc idx k a : Nat} {L : QLoc} {S as rest : List Value} {σ σ₁ : QHeap} (hc : pCode m pc = some (.invokespecial idx, k)) (hm : (lkV.contains (pK m, idx, k) && mI.contains k) = true) (hS : S = as.reverse ++ .ref a :: rest)
  (hna : as.length = pNA k) (hlen : Nat.ble (((Value.ref a :: as).map fun v => v.category).sum) (pMaxL k) = true) (hroom : (Nat.ble (pFr k + 1) (pFr m) && Nat.ble ((rest.map fun v => v.category).sum + (pMaxL k + 11) + pLo k) (pLo m)) = true)
  (hcal : QTri l Z n0 ad k (0, qentry (.ref a :: as) (pMaxL k), [], σ) none σ₁) (h : QTri l Z n0 ad m (pc + 3, L, rest, σ₁) v σ') : QTri l Z n0 ad m (pc, L, S, σ) v σ' := by
 have hd : decode (pBytes m) pc = .ok (.invokespecial idx, 3) := pDecN hc rfl
 subst hS
 obtain ⟨m1, m2⟩ := Bool.and_eq_true_iff.mp hm
 have m1 := mem_of_contains m1
 have m2 := mem_of_contains m2
 obtain ⟨hkA, -, hin, hrt⟩ := mIlt k m2
 have hkN := mAlt k hkA
 refine QTri.after (w := none) hcal h fun p e R s mid args below meth c T locs cells slots C hcx X hR hC hc1 hsl => ?_
 obtain ⟨hx, hZ, hby, hml, hret', hown, hnm, hfr, hlo⟩ := hcx
 have hd2 : decode c.code pc = .ok (.invokespecial idx, 3) := by rw [hby]; exact hd
 obtain ⟨f1, f2⟩ := QTri.room (σ := σ) (σ₁ := σ₁) hroom hfr hlo
 obtain ⟨c1, c2⟩ := (qw_cod W) k hkA
 have c1' := c1
 rw [hrt] at c1'
 obtain ⟨_, _, ⟨T₁, L₁, k₁, n₁⟩, -, X₁, ⟨Lc, ⟨rfl, hR1, hF1⟩, l₁, y₁, z₁⟩, st⟩ := X.specialBack hx (own := kName (pK m)) (index := idx) (y := pName k) hin hown (mvT hZ (qw_ml W (pK m, idx, k) m1)) (mvT hZ ((qw_ini W) k m2)) (mvT hZ c1') (pOwn _ (pKlt k hkN))
  (backOf (W := (rest.map fun v => v.category).sum) (rm := ⟨pFr k, σ₁.length - σ.length, qhs σ₁ - qhs σ, pLo k⟩) (Q := fun v h L => v = Option.map (qv ad) none ∧ QRep Z n0 ad h σ₁ ∧ Fr n0 L) (QTri.met hkN hcal hR (Nat.le_of_ble_eq_true hlen) (fun _ => rfl) [] (Nat.le_refl _) (Nat.le_refl _) (Nat.le_refl _) (Nat.le_refl _)) hZ c1 c2 f1 f2) (g := mkF mid pc C (List.map (qv ad) (as.reverse ++ .ref a :: rest))) rfl hC (Steps.refl _) (a := ad a) (argsL := as.map (qv ad)) (rest := rest.map (qv ad)) (sig_len hkN hna) (by simp [qv]) (by show 2 * 0 + _ ≤ _; rw [cats_qv]; omega) hd2 (fun _ _ => ⟨rfl, rfl, hc1, hsl⟩)
 dsimp only [Pt.U, Pt.locs, Pt.cells, Pt.slots] at X₁ l₁ y₁ z₁ st hR1
 subst l₁ y₁ z₁
 exact ⟨T₁, Lc, X₁, hR1, hF1, fun target q => st.trans q⟩
set_option maxHeartbeats 4000000 in
theorem QTri.callP (W : QW Z a0) {pc idx k a : Nat} {L : QLoc} {S as rest vs : List Value} {σ σ₁ : QHeap} {w : Option Value} (hc : pCode m pc = some (.invokevirtual idx, k)) (hm : (lkV.contains (pK m, idx, k) && mP.contains k) = true) (hcell : hget σ a = some (.inl vs)) (hS : S = as.reverse ++ .ref a :: rest)
  (hna : as.length = pNA k) (hlen : Nat.ble (((Value.ref a :: as).map fun v => v.category).sum) (pMaxL k) = true) (hroom : (Nat.ble (pFr k + 1) (pFr m) && Nat.ble ((rest.map fun v => v.category).sum + (pMaxL k + 11) + pLo k) (pLo m)) = true) (hrb : (w.isNone || (pRet k).isSome) = true)
  (hcal : QTri l Z n0 ad k (0, qentry (.ref a :: as) (pMaxL k), [], σ) w σ₁) (h : QTri l Z n0 ad m (pc + 3, L, w.toList ++ rest, σ₁) v σ') : QTri l Z n0 ad m (pc, L, S, σ) v σ' := by
 have hd : decode (pBytes m) pc = .ok (.invokevirtual idx, 3) := pDecN hc rfl
 subst hS
 obtain ⟨m1, m2⟩ := Bool.and_eq_true_iff.mp hm
 have m1 := mem_of_contains m1
 have m2 := mem_of_contains m2
 obtain ⟨hkA, hk1⟩ := mPlt k m2
 have hkN := mAlt k hkA
 have hret : pRet k = none → w = none := fun q => by
  rw [q] at hrb
  cases w with
  | none => rfl
  | some w => simp at hrb
 refine QTri.after hcal h fun p e R s mid args below meth c T locs cells slots C hcx X hR hC hc1 hsl => ?_
 obtain ⟨hx, hZ, hby, hml, hret', hown, hnm, hfr, hlo⟩ := hcx
 have hd2 : decode c.code pc = .ok (.invokevirtual idx, 3) := by rw [hby]; exact hd
 obtain ⟨f1, f2⟩ := QTri.room (σ := σ) (σ₁ := σ₁) hroom hfr hlo
 obtain ⟨cell, h1, h2⟩ := (hR.2.2 _ _ hcell).1.cell
 obtain ⟨w1, w2⟩ := (qw_pr W) k m2
 obtain ⟨c1, c2⟩ := (qw_cod W) k hkA
 have hpr : s.PrivateAt (pName k) := Cond.privateMethod_at (mvP hZ w2 (args := #[]))
 obtain ⟨cC, kC, i1, i2, i3, i4⟩ := Cond.instantiable_spec (args := #[]) (mvT hZ (qw_inst W))
 have hsel : (Cond.selects (pName k).cls (pName k) (pName k)).before args s = true := selects_self_of_private (c := cC) (k := kC) (by show s.vm.findClass (kName (pK k)) = _; rw [hk1]; exact i1) i2 (by have q := i4.1; cases hq : kC.isInterface with | false => rfl | true => rw [hq] at q; simp at q) hpr (mvT hZ w1) (pOwn _ (pKlt k hkN))
 obtain ⟨_, _, ⟨T₁, L₁, k₁, n₁⟩, -, X₁, ⟨Lc, ⟨rfl, hR1, hF1⟩, l₁, y₁, z₁⟩, st⟩ := X.privateBack hx (own := kName (pK m)) (index := idx) (y := pName k) hown (mvT hZ (qw_ml W (pK m, idx, k) m1)) (mvT hZ w1) hsel hpr (mvT hZ c1) (pOwn _ (pKlt k hkN))
  (backOf (W := (rest.map fun v => v.category).sum) (rm := ⟨pFr k, σ₁.length - σ.length, qhs σ₁ - qhs σ, pLo k⟩) (Q := fun v h L => v = Option.map (qv ad) w ∧ QRep Z n0 ad h σ₁ ∧ Fr n0 L) (QTri.met hkN hcal hR (Nat.le_of_ble_eq_true hlen) hret [] (Nat.le_refl _) (Nat.le_refl _) (Nat.le_refl _) (Nat.le_refl _)) hZ c1 c2 f1 f2) (g := mkF mid pc C (List.map (qv ad) (as.reverse ++ .ref a :: rest))) rfl hC (Steps.refl _) (a := ad a) h1 h2 (argsL := as.map (qv ad)) (rest := rest.map (qv ad)) (sig_len hkN hna) (by simp [qv]) (by show 2 * 0 + _ ≤ _; rw [cats_qv]; omega) hd2 (fun _ _ => ⟨rfl, rfl, hc1, hsl⟩)
 dsimp only [Pt.U, Pt.locs, Pt.cells, Pt.slots] at X₁ l₁ y₁ z₁ st hR1
 subst l₁ y₁ z₁
 exact ⟨T₁, Lc, X₁, hR1, hF1, fun target q => st.trans q⟩
set_option maxHeartbeats 4000000 in
theorem QTri.callS (W : QW Z a0) {pc idx k : Nat} {L : QLoc} {S as rest : List Value} {σ σ₁ : QHeap} {w : Option Value} (hc : pCode m pc = some (.invokestatic idx, k)) (hm : (lkV.contains (pK m, idx, k) && mS.contains k) = true) (hS : S = as.reverse ++ rest)
  (hna : as.length = pNA k) (hlen : Nat.ble ((as.map fun v => v.category).sum) (pMaxL k) = true) (hroom : (Nat.ble (pFr k + 1) (pFr m) && Nat.ble ((rest.map fun v => v.category).sum + (pMaxL k + 11) + pLo k) (pLo m)) = true) (hrb : (w.isNone || (pRet k).isSome) = true)
  (hcal : QTri l Z n0 ad k (0, qentry as (pMaxL k), [], σ) w σ₁) (h : QTri l Z n0 ad m (pc + 3, L, w.toList ++ rest, σ₁) v σ') : QTri l Z n0 ad m (pc, L, S, σ) v σ' := by
 have hd : decode (pBytes m) pc = .ok (.invokestatic idx, 3) := pDecN hc rfl
 subst hS
 obtain ⟨m1, m2⟩ := Bool.and_eq_true_iff.mp hm
 have m1 := mem_of_contains m1
 have m2 := mem_of_contains m2
 have hkA := mSlt k m2
 have hkN := mAlt k hkA
 have hret : pRet k = none → w = none := fun q => by
  rw [q] at hrb
  cases w with
  | none => rfl
  | some w => simp at hrb
 refine QTri.after hcal h fun p e R s mid args below meth c T locs cells slots C hcx X hR hC hc1 hsl => ?_
 obtain ⟨hx, hZ, hby, hml, hret', hown, hnm, hfr, hlo⟩ := hcx
 have hd2 : decode c.code pc = .ok (.invokestatic idx, 3) := by rw [hby]; exact hd
 obtain ⟨f1, f2⟩ := QTri.room (σ := σ) (σ₁ := σ₁) hroom hfr hlo
 obtain ⟨c1, c2⟩ := (qw_cod W) k hkA
 obtain ⟨_, _, ⟨T₁, L₁, k₁, n₁⟩, -, X₁, ⟨Lc, ⟨rfl, hR1, hF1⟩, l₁, y₁, z₁⟩, st⟩ := Jvm.LawKit.callS X hx (own := kName (pK m)) (index := idx) (y := pName k) hown (mvT hZ (qw_ml W (pK m, idx, k) m1)) (mvT hZ ((qw_st W) k m2)) (mvT hZ c2) (mvT hZ c1) (pOwn _ (pKlt k hkN))
  (backOf (W := (rest.map fun v => v.category).sum) (rm := ⟨pFr k, σ₁.length - σ.length, qhs σ₁ - qhs σ, pLo k⟩) (Q := fun v h L => v = Option.map (qv ad) w ∧ QRep Z n0 ad h σ₁ ∧ Fr n0 L) (QTri.met hkN hcal hR (Nat.le_of_ble_eq_true hlen) hret [] (Nat.le_refl _) (Nat.le_refl _) (Nat.le_refl _) (Nat.le_refl _)) hZ c1 c2 f1 f2) (g := mkF mid pc C (List.map (qv ad) (as.reverse ++ rest))) rfl hC (argsL := as.map (qv ad)) (rest := rest.map (qv ad)) (sig_len hkN hna) (by simp) (by show 2 * 0 + _ ≤ _; rw [cats_qv]; omega) hd2 (fun _ _ => ⟨rfl, rfl, hc1, hsl⟩)
 dsimp only [Pt.U, Pt.locs, Pt.cells, Pt.slots] at X₁ l₁ y₁ z₁ st hR1
 subst l₁ y₁ z₁
 exact ⟨T₁, Lc, X₁, hR1, hF1, fun target q => st target q⟩
set_option maxHeartbeats 4000000 in
theorem QTri.callO (W : QW Z a0) {pc idx k a : Nat} {L : QLoc} {rest : List Value} {σ : QHeap} (hc : pCode m pc = some (.invokespecial idx, k)) (hm : lkO.contains (pK m, idx) = true) (hroom : (Nat.ble 1 (pFr m) && Nat.ble ((rest.map fun v => v.category).sum + 12) (pLo m)) = true)
  (h : QTri l Z n0 ad m (pc + 3, L, rest, σ) v σ') : QTri l Z n0 ad m (pc, L, .ref a :: rest, σ) v σ' :=
 have hd : decode (pBytes m) pc = .ok (.invokespecial idx, 3) := pDecN hc rfl
 QTri.pure h rfl fun p e R s mid args below meth c T locs cells slots C hcx X hR hL hC => by
  obtain ⟨hx, hZ, hby, hml, hret', hown, hnm, hfr, hlo⟩ := hcx
  have hd2 : decode c.code pc = .ok (.invokespecial idx, 3) := by rw [hby]; exact hd
  obtain ⟨q1, q2⟩ := Bool.and_eq_true_iff.mp hroom
  obtain ⟨T₁, X₁, e₁, st⟩ := initO X hx hZ hown (idx := idx) (qw_mo W (pK m, idx) (mem_of_contains hm)) ((qw_oi W)) ((qw_oc W)) rfl (g := mkF mid pc C (List.map (qv ad) (.ref a :: rest))) rfl hC rfl hd2 (Nat.le_trans (Nat.le_of_ble_eq_true q1) hfr) (W := (rest.map fun v => v.category).sum) (by show 2 * 0 + _ ≤ _; rw [cats_qv]; omega) (Nat.le_trans (Nat.le_of_ble_eq_true q2) hlo)
  exact ⟨T₁, C, X₁, e₁, hL, hC, st⟩
theorem QTri.brT (Ad : QAd n0 ad) (W : QW Z a0) {st : QSt} {t f : Nat} {L : QLoc} {S : List Value} {σ : QHeap} {b : Bool} (hs : qstep m st = some (bif b then t else f, L, S, σ)) (hb : b = true) (h : QTri l Z n0 ad m (t, L, S, σ) v σ') : QTri l Z n0 ad m st v σ' := by
 subst hb; exact QTri.step Ad W h hs
theorem QTri.brF (Ad : QAd n0 ad) (W : QW Z a0) {st : QSt} {t f : Nat} {L : QLoc} {S : List Value} {σ : QHeap} {b : Bool} (hs : qstep m st = some (bif b then t else f, L, S, σ)) (hb : b = false) (h : QTri l Z n0 ad m (f, L, S, σ) v σ') : QTri l Z n0 ad m st v σ' := by
 subst hb; exact QTri.step Ad W h hs
theorem QTri.bnd {α : Type} (Ad : QAd n0 ad) (W : QW Z a0) {st : QSt} {x : Option α} {f : α → QSt} {a : α} (hs : qstep m st = x.bind fun v => some (f v)) (hx : x = some a) (h : QTri l Z n0 ad m (f a) v σ') : QTri l Z n0 ad m st v σ' :=
 QTri.step Ad W h (by rw [hs, hx]; rfl)
theorem QTri.bndB (Ad : QAd n0 ad) (W : QW Z a0) {st : QSt} {x y : Int32} {g : Value → QSt} (hs : qstep m st = ((qboo x).bind fun y => some (Value.int y)).bind fun w => some (g w)) (hx : qboo x = some y) (h : QTri l Z n0 ad m (g (.int y)) v σ') : QTri l Z n0 ad m st v σ' :=
 QTri.step Ad W h (by rw [hs, hx]; rfl)
end Triples
theorem qite {α : Type} {c : Prop} [Decidable c] {a b : Option α} {r : α} (h : (if c then a else b) = some r) : (c ∧ a = some r) ∨ (¬ c ∧ b = some r) := by
 by_cases hc : c
 ·exact Or.inl ⟨hc, by rwa [if_pos hc] at h⟩
 ·exact Or.inr ⟨hc, by rwa [if_neg hc] at h⟩
def qN : Nat := 4000
def loopN {V E : Type} (B : V → Option (E ⊕ V)) : Nat → V → Option E
 | 0, _ => none
 | n + 1, v => match B v with
  | none => none
  | some (.inl e) => some e
  | some (.inr v') => loopN B n v'
theorem loopN_tri {V E : Type} {B : V → Option (E ⊕ V)} {T : V → Prop} {KE : E → Prop} (hB : ∀ v r, B v = some r → (∀ e, r = .inl e → KE e) → (∀ v', r = .inr v' → T v') → T v) : ∀ (n : Nat) (v : V) (e : E), loopN B n v = some e → KE e → T v
 | 0, _, _, h, _ => by cases h
 | n + 1, v, e, h, k => by
  simp only [loopN] at h
  split at h
  ·cases h
  ·rename_i e' he
   cases h
   exact hB v _ he (fun e q => by cases q; exact k) (fun v' q => by cases q)
  ·rename_i v' he
   exact hB v _ he (fun e q => by cases q) (fun v'' q => by cases q; exact loopN_tri hB n v' e h k)
theorem loopN_inv {V E : Type} {B : V → Option (E ⊕ V)} (I : V → Prop) (P : E → Prop) (μ : V → Nat) (hB : ∀ v, I v → (∃ e, B v = some (.inl e) ∧ P e) ∨ ∃ v', B v = some (.inr v') ∧ I v' ∧ μ v' < μ v) : ∀ (n : Nat) (v : V), I v → μ v < n → ∃ e, loopN B n v = some e ∧ P e
 | 0, _, _, h => absurd h (Nat.not_lt_zero _)
 | n + 1, v, hv, hm => by
  rcases hB v hv with ⟨e, h1, h2⟩ | ⟨v', h1, h2, h3⟩
  ·exact ⟨e, by simp only [loopN, h1], h2⟩
  ·obtain ⟨e, g1, g2⟩ := loopN_inv I P μ hB n v' h2 (by omega)
   exact ⟨e, by simp only [loopN, h1]; exact g1, g2⟩
theorem qfn {α : Type} {P : α → Prop} : ∀ t ∈ ([] : List α), P t := fun _ h => nomatch h
theorem qfc {α : Type} {P : α → Prop} {a : α} {t : List α} (h : P a) (ht : ∀ x ∈ t, P x) : ∀ x ∈ a :: t, P x := fun x hx => by rcases List.mem_cons.mp hx with rfl | q; exact h; exact ht x q
theorem QW_ok {Z : State} {a0 : Array Value} (hw : ∀ d ∈ tables_1, d.before a0 Z = true) : QW Z a0 := by
  have w0 : ∀ k ∈ List.range nF, bif fFin k then (Jvm.Cond.laysFinal cName cName (fNm k) (fDs k)).before a0 Z = true else (Jvm.Cond.lays cName cName (fNm k) (fDs k)).before a0 Z = true :=
    show ∀ k ∈ [0, 1, 2, 3, 4, 5, 6, 7, 8, 9, 10, 11, 12, 13, 14, 15, 16, 17], bif fFin k then (Jvm.Cond.laysFinal cName cName (fNm k) (fDs k)).before a0 Z = true else (Jvm.Cond.lays cName cName (fNm k) (fDs k)).before a0 Z = true from
    (qfc (hw _ (List.mem_of_getElem? (i := 10) rfl)) (qfc (hw _ (List.mem_of_getElem? (i := 12) rfl)) (qfc (hw _ (List.mem_of_getElem? (i := 14) rfl)) (qfc (hw _ (List.mem_of_getElem? (i := 16) rfl)) (qfc (hw _ (List.mem_of_getElem? (i := 18) rfl)) (qfc (hw _ (List.mem_of_getElem? (i := 20) rfl)) (qfc (hw _ (List.mem_of_getElem? (i := 23) rfl)) (qfc (hw _ (List.mem_of_getElem? (i := 25) rfl)) (qfc (hw _ (List.mem_of_getElem? (i := 27) rfl)) (qfc (hw _ (List.mem_of_getElem? (i := 29) rfl)) (qfc (hw _ (List.mem_of_getElem? (i := 31) rfl)) (qfc (hw _ (List.mem_of_getElem? (i := 33) rfl)) (qfc (hw _ (List.mem_of_getElem? (i := 35) rfl)) (qfc (hw _ (List.mem_of_getElem? (i := 37) rfl)) (qfc (hw _ (List.mem_of_getElem? (i := 39) rfl)) (qfc (hw _ (List.mem_of_getElem? (i := 41) rfl)) (qfc (hw _ (List.mem_of_getElem? (i := 43) rfl)) (qfc (hw _ (List.mem_of_getElem? (i := 45) rfl)) qfn))))))))))))))))))
  refine ⟨?_, ?_, ?_, ?_, ?_, ?_, ?_, ?_, ?_, ?_, ?_, ?_, ?_, (fun k hk => w0 k (List.mem_range.mpr hk)), ?_, ?_, ?_⟩
  · exact (qfc (hw _ (List.mem_of_getElem? (i := 9) rfl)) (qfc (hw _ (List.mem_of_getElem? (i := 11) rfl)) (qfc (hw _ (List.mem_of_getElem? (i := 13) rfl)) (qfc (hw _ (List.mem_of_getElem? (i := 15) rfl)) (qfc (hw _ (List.mem_of_getElem? (i := 17) rfl)) (qfc (hw _ (List.mem_of_getElem? (i := 19) rfl)) (qfc (hw _ (List.mem_of_getElem? (i := 22) rfl)) (qfc (hw _ (List.mem_of_getElem? (i := 24) rfl)) (qfc (hw _ (List.mem_of_getElem? (i := 26) rfl)) (qfc (hw _ (List.mem_of_getElem? (i := 28) rfl)) (qfc (hw _ (List.mem_of_getElem? (i := 30) rfl)) (qfc (hw _ (List.mem_of_getElem? (i := 32) rfl)) (qfc (hw _ (List.mem_of_getElem? (i := 34) rfl)) (qfc (hw _ (List.mem_of_getElem? (i := 36) rfl)) (qfc (hw _ (List.mem_of_getElem? (i := 38) rfl)) (qfc (hw _ (List.mem_of_getElem? (i := 40) rfl)) (qfc (hw _ (List.mem_of_getElem? (i := 42) rfl)) (qfc (hw _ (List.mem_of_getElem? (i := 44) rfl)) qfn))))))))))))))))))
  · exact (qfc (hw _ (List.mem_of_getElem? (i := 0) rfl)) qfn)
  · exact qfn
  · exact qfn
  · exact (qfc (hw _ (List.mem_of_getElem? (i := 3) rfl)) (qfc (hw _ (List.mem_of_getElem? (i := 46) rfl)) (qfc (hw _ (List.mem_of_getElem? (i := 50) rfl)) (qfc (hw _ (List.mem_of_getElem? (i := 54) rfl)) (qfc (hw _ (List.mem_of_getElem? (i := 58) rfl)) (qfc (hw _ (List.mem_of_getElem? (i := 62) rfl)) (qfc (hw _ (List.mem_of_getElem? (i := 66) rfl)) (qfc (hw _ (List.mem_of_getElem? (i := 70) rfl)) (qfc (hw _ (List.mem_of_getElem? (i := 75) rfl)) (qfc (hw _ (List.mem_of_getElem? (i := 80) rfl)) (qfc (hw _ (List.mem_of_getElem? (i := 84) rfl)) (qfc (hw _ (List.mem_of_getElem? (i := 88) rfl)) (qfc (hw _ (List.mem_of_getElem? (i := 92) rfl)) (qfc (hw _ (List.mem_of_getElem? (i := 96) rfl)) (qfc (hw _ (List.mem_of_getElem? (i := 100) rfl)) (qfc (hw _ (List.mem_of_getElem? (i := 104) rfl)) (qfc (hw _ (List.mem_of_getElem? (i := 108) rfl)) (qfc (hw _ (List.mem_of_getElem? (i := 112) rfl)) (qfc (hw _ (List.mem_of_getElem? (i := 116) rfl)) (qfc (hw _ (List.mem_of_getElem? (i := 120) rfl)) (qfc (hw _ (List.mem_of_getElem? (i := 124) rfl)) (qfc (hw _ (List.mem_of_getElem? (i := 128) rfl)) (qfc (hw _ (List.mem_of_getElem? (i := 133) rfl)) (qfc (hw _ (List.mem_of_getElem? (i := 137) rfl)) (qfc (hw _ (List.mem_of_getElem? (i := 141) rfl)) (qfc (hw _ (List.mem_of_getElem? (i := 146) rfl)) (qfc (hw _ (List.mem_of_getElem? (i := 151) rfl)) (qfc (hw _ (List.mem_of_getElem? (i := 155) rfl)) (qfc (hw _ (List.mem_of_getElem? (i := 160) rfl)) (qfc (hw _ (List.mem_of_getElem? (i := 164) rfl)) qfn))))))))))))))))))))))))))))))
  · exact (qfc (hw _ (List.mem_of_getElem? (i := 6) rfl)) qfn)
  · exact (qfc ⟨(hw _ (List.mem_of_getElem? (i := 71) rfl)), (hw _ (List.mem_of_getElem? (i := 73) rfl)), (hw _ (List.mem_of_getElem? (i := 72) rfl))⟩ (qfc ⟨(hw _ (List.mem_of_getElem? (i := 76) rfl)), (hw _ (List.mem_of_getElem? (i := 78) rfl)), (hw _ (List.mem_of_getElem? (i := 77) rfl))⟩ (qfc ⟨(hw _ (List.mem_of_getElem? (i := 129) rfl)), (hw _ (List.mem_of_getElem? (i := 131) rfl)), (hw _ (List.mem_of_getElem? (i := 130) rfl))⟩ (qfc ⟨(hw _ (List.mem_of_getElem? (i := 142) rfl)), (hw _ (List.mem_of_getElem? (i := 144) rfl)), (hw _ (List.mem_of_getElem? (i := 143) rfl))⟩ (qfc ⟨(hw _ (List.mem_of_getElem? (i := 147) rfl)), (hw _ (List.mem_of_getElem? (i := 149) rfl)), (hw _ (List.mem_of_getElem? (i := 148) rfl))⟩ (qfc ⟨(hw _ (List.mem_of_getElem? (i := 156) rfl)), (hw _ (List.mem_of_getElem? (i := 158) rfl)), (hw _ (List.mem_of_getElem? (i := 157) rfl))⟩ qfn))))))
  · exact (qfc ⟨(hw _ (List.mem_of_getElem? (i := 47) rfl)), (hw _ (List.mem_of_getElem? (i := 48) rfl))⟩ (qfc ⟨(hw _ (List.mem_of_getElem? (i := 51) rfl)), (hw _ (List.mem_of_getElem? (i := 52) rfl))⟩ (qfc ⟨(hw _ (List.mem_of_getElem? (i := 55) rfl)), (hw _ (List.mem_of_getElem? (i := 56) rfl))⟩ (qfc ⟨(hw _ (List.mem_of_getElem? (i := 59) rfl)), (hw _ (List.mem_of_getElem? (i := 60) rfl))⟩ (qfc ⟨(hw _ (List.mem_of_getElem? (i := 63) rfl)), (hw _ (List.mem_of_getElem? (i := 64) rfl))⟩ (qfc ⟨(hw _ (List.mem_of_getElem? (i := 67) rfl)), (hw _ (List.mem_of_getElem? (i := 68) rfl))⟩ (qfc ⟨(hw _ (List.mem_of_getElem? (i := 81) rfl)), (hw _ (List.mem_of_getElem? (i := 82) rfl))⟩ (qfc ⟨(hw _ (List.mem_of_getElem? (i := 85) rfl)), (hw _ (List.mem_of_getElem? (i := 86) rfl))⟩ (qfc ⟨(hw _ (List.mem_of_getElem? (i := 89) rfl)), (hw _ (List.mem_of_getElem? (i := 90) rfl))⟩ (qfc ⟨(hw _ (List.mem_of_getElem? (i := 93) rfl)), (hw _ (List.mem_of_getElem? (i := 94) rfl))⟩ (qfc ⟨(hw _ (List.mem_of_getElem? (i := 97) rfl)), (hw _ (List.mem_of_getElem? (i := 98) rfl))⟩ (qfc ⟨(hw _ (List.mem_of_getElem? (i := 101) rfl)), (hw _ (List.mem_of_getElem? (i := 102) rfl))⟩ (qfc ⟨(hw _ (List.mem_of_getElem? (i := 105) rfl)), (hw _ (List.mem_of_getElem? (i := 106) rfl))⟩ (qfc ⟨(hw _ (List.mem_of_getElem? (i := 109) rfl)), (hw _ (List.mem_of_getElem? (i := 110) rfl))⟩ (qfc ⟨(hw _ (List.mem_of_getElem? (i := 113) rfl)), (hw _ (List.mem_of_getElem? (i := 114) rfl))⟩ (qfc ⟨(hw _ (List.mem_of_getElem? (i := 117) rfl)), (hw _ (List.mem_of_getElem? (i := 118) rfl))⟩ (qfc ⟨(hw _ (List.mem_of_getElem? (i := 121) rfl)), (hw _ (List.mem_of_getElem? (i := 122) rfl))⟩ (qfc ⟨(hw _ (List.mem_of_getElem? (i := 125) rfl)), (hw _ (List.mem_of_getElem? (i := 126) rfl))⟩ (qfc ⟨(hw _ (List.mem_of_getElem? (i := 134) rfl)), (hw _ (List.mem_of_getElem? (i := 135) rfl))⟩ (qfc ⟨(hw _ (List.mem_of_getElem? (i := 138) rfl)), (hw _ (List.mem_of_getElem? (i := 139) rfl))⟩ (qfc ⟨(hw _ (List.mem_of_getElem? (i := 152) rfl)), (hw _ (List.mem_of_getElem? (i := 153) rfl))⟩ (qfc ⟨(hw _ (List.mem_of_getElem? (i := 161) rfl)), (hw _ (List.mem_of_getElem? (i := 162) rfl))⟩ (qfc ⟨(hw _ (List.mem_of_getElem? (i := 165) rfl)), (hw _ (List.mem_of_getElem? (i := 166) rfl))⟩ qfn)))))))))))))))))))))))
  · exact qfn
  · exact (qfc (hw _ (List.mem_of_getElem? (i := 4) rfl)) qfn)
  · exact (qfc ⟨(hw _ (List.mem_of_getElem? (i := 5) rfl)), (hw _ (List.mem_of_getElem? (i := 2) rfl))⟩ (qfc ⟨(hw _ (List.mem_of_getElem? (i := 49) rfl)), (hw _ (List.mem_of_getElem? (i := 2) rfl))⟩ (qfc ⟨(hw _ (List.mem_of_getElem? (i := 53) rfl)), (hw _ (List.mem_of_getElem? (i := 2) rfl))⟩ (qfc ⟨(hw _ (List.mem_of_getElem? (i := 57) rfl)), (hw _ (List.mem_of_getElem? (i := 2) rfl))⟩ (qfc ⟨(hw _ (List.mem_of_getElem? (i := 61) rfl)), (hw _ (List.mem_of_getElem? (i := 2) rfl))⟩ (qfc ⟨(hw _ (List.mem_of_getElem? (i := 65) rfl)), (hw _ (List.mem_of_getElem? (i := 2) rfl))⟩ (qfc ⟨(hw _ (List.mem_of_getElem? (i := 69) rfl)), (hw _ (List.mem_of_getElem? (i := 2) rfl))⟩ (qfc ⟨(hw _ (List.mem_of_getElem? (i := 74) rfl)), (hw _ (List.mem_of_getElem? (i := 2) rfl))⟩ (qfc ⟨(hw _ (List.mem_of_getElem? (i := 79) rfl)), (hw _ (List.mem_of_getElem? (i := 2) rfl))⟩ (qfc ⟨(hw _ (List.mem_of_getElem? (i := 83) rfl)), (hw _ (List.mem_of_getElem? (i := 2) rfl))⟩ (qfc ⟨(hw _ (List.mem_of_getElem? (i := 87) rfl)), (hw _ (List.mem_of_getElem? (i := 2) rfl))⟩ (qfc ⟨(hw _ (List.mem_of_getElem? (i := 91) rfl)), (hw _ (List.mem_of_getElem? (i := 2) rfl))⟩ (qfc ⟨(hw _ (List.mem_of_getElem? (i := 95) rfl)), (hw _ (List.mem_of_getElem? (i := 2) rfl))⟩ (qfc ⟨(hw _ (List.mem_of_getElem? (i := 99) rfl)), (hw _ (List.mem_of_getElem? (i := 2) rfl))⟩ (qfc ⟨(hw _ (List.mem_of_getElem? (i := 103) rfl)), (hw _ (List.mem_of_getElem? (i := 2) rfl))⟩ (qfc ⟨(hw _ (List.mem_of_getElem? (i := 107) rfl)), (hw _ (List.mem_of_getElem? (i := 2) rfl))⟩ (qfc ⟨(hw _ (List.mem_of_getElem? (i := 111) rfl)), (hw _ (List.mem_of_getElem? (i := 2) rfl))⟩ (qfc ⟨(hw _ (List.mem_of_getElem? (i := 115) rfl)), (hw _ (List.mem_of_getElem? (i := 2) rfl))⟩ (qfc ⟨(hw _ (List.mem_of_getElem? (i := 119) rfl)), (hw _ (List.mem_of_getElem? (i := 2) rfl))⟩ (qfc ⟨(hw _ (List.mem_of_getElem? (i := 123) rfl)), (hw _ (List.mem_of_getElem? (i := 2) rfl))⟩ (qfc ⟨(hw _ (List.mem_of_getElem? (i := 127) rfl)), (hw _ (List.mem_of_getElem? (i := 2) rfl))⟩ (qfc ⟨(hw _ (List.mem_of_getElem? (i := 132) rfl)), (hw _ (List.mem_of_getElem? (i := 2) rfl))⟩ (qfc ⟨(hw _ (List.mem_of_getElem? (i := 136) rfl)), (hw _ (List.mem_of_getElem? (i := 2) rfl))⟩ (qfc ⟨(hw _ (List.mem_of_getElem? (i := 140) rfl)), (hw _ (List.mem_of_getElem? (i := 2) rfl))⟩ (qfc ⟨(hw _ (List.mem_of_getElem? (i := 145) rfl)), (hw _ (List.mem_of_getElem? (i := 2) rfl))⟩ (qfc ⟨(hw _ (List.mem_of_getElem? (i := 150) rfl)), (hw _ (List.mem_of_getElem? (i := 2) rfl))⟩ (qfc ⟨(hw _ (List.mem_of_getElem? (i := 154) rfl)), (hw _ (List.mem_of_getElem? (i := 2) rfl))⟩ (qfc ⟨(hw _ (List.mem_of_getElem? (i := 159) rfl)), (hw _ (List.mem_of_getElem? (i := 2) rfl))⟩ (qfc ⟨(hw _ (List.mem_of_getElem? (i := 163) rfl)), (hw _ (List.mem_of_getElem? (i := 2) rfl))⟩ (qfc ⟨(hw _ (List.mem_of_getElem? (i := 167) rfl)), (hw _ (List.mem_of_getElem? (i := 2) rfl))⟩ qfn))))))))))))))))))))))))))))))
  · exact (hw _ (List.mem_of_getElem? (i := 7) rfl))
  · exact (hw _ (List.mem_of_getElem? (i := 8) rfl))
  · exact (hw _ (List.mem_of_getElem? (i := 1) rfl))
  · exact (hw _ (List.mem_of_getElem? (i := 2) rfl))
  · exact (qfc (hw _ (List.mem_of_getElem? (i := 21) rfl)) qfn)
abbrev Ob := Int32 × Int32 × Int32 × Int32 × Int32 × Int32 × List Int32 × List Int32 × List Int32 × List Int32 × List Int32 × List Int32 × List Int32 × List Int32 × List Int32 × Int32 × Int32 × Int32
def f_regTuple (o : Ob) : Int32 := o.1
def f_regA (o : Ob) : Int32 := o.2.1
def f_regB (o : Ob) : Int32 := o.2.2.1
def f_regC (o : Ob) : Int32 := o.2.2.2.1
def f_regCount (o : Ob) : Int32 := o.2.2.2.2.1
def f_slots (o : Ob) : Int32 := o.2.2.2.2.2.1
def f_range (o : Ob) : List Int32 := o.2.2.2.2.2.2.1
def f_slide (o : Ob) : List Int32 := o.2.2.2.2.2.2.2.1
def f_frontSize (o : Ob) : List Int32 := o.2.2.2.2.2.2.2.2.1
def f_backSize (o : Ob) : List Int32 := o.2.2.2.2.2.2.2.2.2.1
def f_backElem (o : Ob) : List Int32 := o.2.2.2.2.2.2.2.2.2.2.1
def f_frontAgg (o : Ob) : List Int32 := o.2.2.2.2.2.2.2.2.2.2.2.1
def f_backAgg (o : Ob) : List Int32 := o.2.2.2.2.2.2.2.2.2.2.2.2.1
def f_snap (o : Ob) : List Int32 := o.2.2.2.2.2.2.2.2.2.2.2.2.2.1
def f_reg (o : Ob) : List Int32 := o.2.2.2.2.2.2.2.2.2.2.2.2.2.2.1
def f_capacity (o : Ob) : Int32 := o.2.2.2.2.2.2.2.2.2.2.2.2.2.2.2.1
def f_queries (o : Ob) : Int32 := o.2.2.2.2.2.2.2.2.2.2.2.2.2.2.2.2.1
def f_n (o : Ob) : Int32 := o.2.2.2.2.2.2.2.2.2.2.2.2.2.2.2.2.2
def s_regTuple (o : Ob) (v : Int32) : Ob := (v, o.2.1, o.2.2.1, o.2.2.2.1, o.2.2.2.2.1, o.2.2.2.2.2.1, o.2.2.2.2.2.2.1, o.2.2.2.2.2.2.2.1, o.2.2.2.2.2.2.2.2.1, o.2.2.2.2.2.2.2.2.2.1, o.2.2.2.2.2.2.2.2.2.2.1, o.2.2.2.2.2.2.2.2.2.2.2.1, o.2.2.2.2.2.2.2.2.2.2.2.2.1, o.2.2.2.2.2.2.2.2.2.2.2.2.2.1, o.2.2.2.2.2.2.2.2.2.2.2.2.2.2.1, o.2.2.2.2.2.2.2.2.2.2.2.2.2.2.2.1, o.2.2.2.2.2.2.2.2.2.2.2.2.2.2.2.2.1, o.2.2.2.2.2.2.2.2.2.2.2.2.2.2.2.2.2)
def s_regA (o : Ob) (v : Int32) : Ob := (o.1, v, o.2.2.1, o.2.2.2.1, o.2.2.2.2.1, o.2.2.2.2.2.1, o.2.2.2.2.2.2.1, o.2.2.2.2.2.2.2.1, o.2.2.2.2.2.2.2.2.1, o.2.2.2.2.2.2.2.2.2.1, o.2.2.2.2.2.2.2.2.2.2.1, o.2.2.2.2.2.2.2.2.2.2.2.1, o.2.2.2.2.2.2.2.2.2.2.2.2.1, o.2.2.2.2.2.2.2.2.2.2.2.2.2.1, o.2.2.2.2.2.2.2.2.2.2.2.2.2.2.1, o.2.2.2.2.2.2.2.2.2.2.2.2.2.2.2.1, o.2.2.2.2.2.2.2.2.2.2.2.2.2.2.2.2.1, o.2.2.2.2.2.2.2.2.2.2.2.2.2.2.2.2.2)
def s_regB (o : Ob) (v : Int32) : Ob := (o.1, o.2.1, v, o.2.2.2.1, o.2.2.2.2.1, o.2.2.2.2.2.1, o.2.2.2.2.2.2.1, o.2.2.2.2.2.2.2.1, o.2.2.2.2.2.2.2.2.1, o.2.2.2.2.2.2.2.2.2.1, o.2.2.2.2.2.2.2.2.2.2.1, o.2.2.2.2.2.2.2.2.2.2.2.1, o.2.2.2.2.2.2.2.2.2.2.2.2.1, o.2.2.2.2.2.2.2.2.2.2.2.2.2.1, o.2.2.2.2.2.2.2.2.2.2.2.2.2.2.1, o.2.2.2.2.2.2.2.2.2.2.2.2.2.2.2.1, o.2.2.2.2.2.2.2.2.2.2.2.2.2.2.2.2.1, o.2.2.2.2.2.2.2.2.2.2.2.2.2.2.2.2.2)
def s_regC (o : Ob) (v : Int32) : Ob := (o.1, o.2.1, o.2.2.1, v, o.2.2.2.2.1, o.2.2.2.2.2.1, o.2.2.2.2.2.2.1, o.2.2.2.2.2.2.2.1, o.2.2.2.2.2.2.2.2.1, o.2.2.2.2.2.2.2.2.2.1, o.2.2.2.2.2.2.2.2.2.2.1, o.2.2.2.2.2.2.2.2.2.2.2.1, o.2.2.2.2.2.2.2.2.2.2.2.2.1, o.2.2.2.2.2.2.2.2.2.2.2.2.2.1, o.2.2.2.2.2.2.2.2.2.2.2.2.2.2.1, o.2.2.2.2.2.2.2.2.2.2.2.2.2.2.2.1, o.2.2.2.2.2.2.2.2.2.2.2.2.2.2.2.2.1, o.2.2.2.2.2.2.2.2.2.2.2.2.2.2.2.2.2)
def s_regCount (o : Ob) (v : Int32) : Ob := (o.1, o.2.1, o.2.2.1, o.2.2.2.1, v, o.2.2.2.2.2.1, o.2.2.2.2.2.2.1, o.2.2.2.2.2.2.2.1, o.2.2.2.2.2.2.2.2.1, o.2.2.2.2.2.2.2.2.2.1, o.2.2.2.2.2.2.2.2.2.2.1, o.2.2.2.2.2.2.2.2.2.2.2.1, o.2.2.2.2.2.2.2.2.2.2.2.2.1, o.2.2.2.2.2.2.2.2.2.2.2.2.2.1, o.2.2.2.2.2.2.2.2.2.2.2.2.2.2.1, o.2.2.2.2.2.2.2.2.2.2.2.2.2.2.2.1, o.2.2.2.2.2.2.2.2.2.2.2.2.2.2.2.2.1, o.2.2.2.2.2.2.2.2.2.2.2.2.2.2.2.2.2)
def s_slots (o : Ob) (v : Int32) : Ob := (o.1, o.2.1, o.2.2.1, o.2.2.2.1, o.2.2.2.2.1, v, o.2.2.2.2.2.2.1, o.2.2.2.2.2.2.2.1, o.2.2.2.2.2.2.2.2.1, o.2.2.2.2.2.2.2.2.2.1, o.2.2.2.2.2.2.2.2.2.2.1, o.2.2.2.2.2.2.2.2.2.2.2.1, o.2.2.2.2.2.2.2.2.2.2.2.2.1, o.2.2.2.2.2.2.2.2.2.2.2.2.2.1, o.2.2.2.2.2.2.2.2.2.2.2.2.2.2.1, o.2.2.2.2.2.2.2.2.2.2.2.2.2.2.2.1, o.2.2.2.2.2.2.2.2.2.2.2.2.2.2.2.2.1, o.2.2.2.2.2.2.2.2.2.2.2.2.2.2.2.2.2)
def s_range (o : Ob) (v : List Int32) : Ob := (o.1, o.2.1, o.2.2.1, o.2.2.2.1, o.2.2.2.2.1, o.2.2.2.2.2.1, v, o.2.2.2.2.2.2.2.1, o.2.2.2.2.2.2.2.2.1, o.2.2.2.2.2.2.2.2.2.1, o.2.2.2.2.2.2.2.2.2.2.1, o.2.2.2.2.2.2.2.2.2.2.2.1, o.2.2.2.2.2.2.2.2.2.2.2.2.1, o.2.2.2.2.2.2.2.2.2.2.2.2.2.1, o.2.2.2.2.2.2.2.2.2.2.2.2.2.2.1, o.2.2.2.2.2.2.2.2.2.2.2.2.2.2.2.1, o.2.2.2.2.2.2.2.2.2.2.2.2.2.2.2.2.1, o.2.2.2.2.2.2.2.2.2.2.2.2.2.2.2.2.2)
def s_slide (o : Ob) (v : List Int32) : Ob := (o.1, o.2.1, o.2.2.1, o.2.2.2.1, o.2.2.2.2.1, o.2.2.2.2.2.1, o.2.2.2.2.2.2.1, v, o.2.2.2.2.2.2.2.2.1, o.2.2.2.2.2.2.2.2.2.1, o.2.2.2.2.2.2.2.2.2.2.1, o.2.2.2.2.2.2.2.2.2.2.2.1, o.2.2.2.2.2.2.2.2.2.2.2.2.1, o.2.2.2.2.2.2.2.2.2.2.2.2.2.1, o.2.2.2.2.2.2.2.2.2.2.2.2.2.2.1, o.2.2.2.2.2.2.2.2.2.2.2.2.2.2.2.1, o.2.2.2.2.2.2.2.2.2.2.2.2.2.2.2.2.1, o.2.2.2.2.2.2.2.2.2.2.2.2.2.2.2.2.2)
def s_frontSize (o : Ob) (v : List Int32) : Ob := (o.1, o.2.1, o.2.2.1, o.2.2.2.1, o.2.2.2.2.1, o.2.2.2.2.2.1, o.2.2.2.2.2.2.1, o.2.2.2.2.2.2.2.1, v, o.2.2.2.2.2.2.2.2.2.1, o.2.2.2.2.2.2.2.2.2.2.1, o.2.2.2.2.2.2.2.2.2.2.2.1, o.2.2.2.2.2.2.2.2.2.2.2.2.1, o.2.2.2.2.2.2.2.2.2.2.2.2.2.1, o.2.2.2.2.2.2.2.2.2.2.2.2.2.2.1, o.2.2.2.2.2.2.2.2.2.2.2.2.2.2.2.1, o.2.2.2.2.2.2.2.2.2.2.2.2.2.2.2.2.1, o.2.2.2.2.2.2.2.2.2.2.2.2.2.2.2.2.2)
def s_backSize (o : Ob) (v : List Int32) : Ob := (o.1, o.2.1, o.2.2.1, o.2.2.2.1, o.2.2.2.2.1, o.2.2.2.2.2.1, o.2.2.2.2.2.2.1, o.2.2.2.2.2.2.2.1, o.2.2.2.2.2.2.2.2.1, v, o.2.2.2.2.2.2.2.2.2.2.1, o.2.2.2.2.2.2.2.2.2.2.2.1, o.2.2.2.2.2.2.2.2.2.2.2.2.1, o.2.2.2.2.2.2.2.2.2.2.2.2.2.1, o.2.2.2.2.2.2.2.2.2.2.2.2.2.2.1, o.2.2.2.2.2.2.2.2.2.2.2.2.2.2.2.1, o.2.2.2.2.2.2.2.2.2.2.2.2.2.2.2.2.1, o.2.2.2.2.2.2.2.2.2.2.2.2.2.2.2.2.2)
def s_backElem (o : Ob) (v : List Int32) : Ob := (o.1, o.2.1, o.2.2.1, o.2.2.2.1, o.2.2.2.2.1, o.2.2.2.2.2.1, o.2.2.2.2.2.2.1, o.2.2.2.2.2.2.2.1, o.2.2.2.2.2.2.2.2.1, o.2.2.2.2.2.2.2.2.2.1, v, o.2.2.2.2.2.2.2.2.2.2.2.1, o.2.2.2.2.2.2.2.2.2.2.2.2.1, o.2.2.2.2.2.2.2.2.2.2.2.2.2.1, o.2.2.2.2.2.2.2.2.2.2.2.2.2.2.1, o.2.2.2.2.2.2.2.2.2.2.2.2.2.2.2.1, o.2.2.2.2.2.2.2.2.2.2.2.2.2.2.2.2.1, o.2.2.2.2.2.2.2.2.2.2.2.2.2.2.2.2.2)
def s_frontAgg (o : Ob) (v : List Int32) : Ob := (o.1, o.2.1, o.2.2.1, o.2.2.2.1, o.2.2.2.2.1, o.2.2.2.2.2.1, o.2.2.2.2.2.2.1, o.2.2.2.2.2.2.2.1, o.2.2.2.2.2.2.2.2.1, o.2.2.2.2.2.2.2.2.2.1, o.2.2.2.2.2.2.2.2.2.2.1, v, o.2.2.2.2.2.2.2.2.2.2.2.2.1, o.2.2.2.2.2.2.2.2.2.2.2.2.2.1, o.2.2.2.2.2.2.2.2.2.2.2.2.2.2.1, o.2.2.2.2.2.2.2.2.2.2.2.2.2.2.2.1, o.2.2.2.2.2.2.2.2.2.2.2.2.2.2.2.2.1, o.2.2.2.2.2.2.2.2.2.2.2.2.2.2.2.2.2)
def s_backAgg (o : Ob) (v : List Int32) : Ob := (o.1, o.2.1, o.2.2.1, o.2.2.2.1, o.2.2.2.2.1, o.2.2.2.2.2.1, o.2.2.2.2.2.2.1, o.2.2.2.2.2.2.2.1, o.2.2.2.2.2.2.2.2.1, o.2.2.2.2.2.2.2.2.2.1, o.2.2.2.2.2.2.2.2.2.2.1, o.2.2.2.2.2.2.2.2.2.2.2.1, v, o.2.2.2.2.2.2.2.2.2.2.2.2.2.1, o.2.2.2.2.2.2.2.2.2.2.2.2.2.2.1, o.2.2.2.2.2.2.2.2.2.2.2.2.2.2.2.1, o.2.2.2.2.2.2.2.2.2.2.2.2.2.2.2.2.1, o.2.2.2.2.2.2.2.2.2.2.2.2.2.2.2.2.2)
def s_snap (o : Ob) (v : List Int32) : Ob := (o.1, o.2.1, o.2.2.1, o.2.2.2.1, o.2.2.2.2.1, o.2.2.2.2.2.1, o.2.2.2.2.2.2.1, o.2.2.2.2.2.2.2.1, o.2.2.2.2.2.2.2.2.1, o.2.2.2.2.2.2.2.2.2.1, o.2.2.2.2.2.2.2.2.2.2.1, o.2.2.2.2.2.2.2.2.2.2.2.1, o.2.2.2.2.2.2.2.2.2.2.2.2.1, v, o.2.2.2.2.2.2.2.2.2.2.2.2.2.2.1, o.2.2.2.2.2.2.2.2.2.2.2.2.2.2.2.1, o.2.2.2.2.2.2.2.2.2.2.2.2.2.2.2.2.1, o.2.2.2.2.2.2.2.2.2.2.2.2.2.2.2.2.2)
def s_reg (o : Ob) (v : List Int32) : Ob := (o.1, o.2.1, o.2.2.1, o.2.2.2.1, o.2.2.2.2.1, o.2.2.2.2.2.1, o.2.2.2.2.2.2.1, o.2.2.2.2.2.2.2.1, o.2.2.2.2.2.2.2.2.1, o.2.2.2.2.2.2.2.2.2.1, o.2.2.2.2.2.2.2.2.2.2.1, o.2.2.2.2.2.2.2.2.2.2.2.1, o.2.2.2.2.2.2.2.2.2.2.2.2.1, o.2.2.2.2.2.2.2.2.2.2.2.2.2.1, v, o.2.2.2.2.2.2.2.2.2.2.2.2.2.2.2.1, o.2.2.2.2.2.2.2.2.2.2.2.2.2.2.2.2.1, o.2.2.2.2.2.2.2.2.2.2.2.2.2.2.2.2.2)
def s_capacity (o : Ob) (v : Int32) : Ob := (o.1, o.2.1, o.2.2.1, o.2.2.2.1, o.2.2.2.2.1, o.2.2.2.2.2.1, o.2.2.2.2.2.2.1, o.2.2.2.2.2.2.2.1, o.2.2.2.2.2.2.2.2.1, o.2.2.2.2.2.2.2.2.2.1, o.2.2.2.2.2.2.2.2.2.2.1, o.2.2.2.2.2.2.2.2.2.2.2.1, o.2.2.2.2.2.2.2.2.2.2.2.2.1, o.2.2.2.2.2.2.2.2.2.2.2.2.2.1, o.2.2.2.2.2.2.2.2.2.2.2.2.2.2.1, v, o.2.2.2.2.2.2.2.2.2.2.2.2.2.2.2.2.1, o.2.2.2.2.2.2.2.2.2.2.2.2.2.2.2.2.2)
def s_queries (o : Ob) (v : Int32) : Ob := (o.1, o.2.1, o.2.2.1, o.2.2.2.1, o.2.2.2.2.1, o.2.2.2.2.2.1, o.2.2.2.2.2.2.1, o.2.2.2.2.2.2.2.1, o.2.2.2.2.2.2.2.2.1, o.2.2.2.2.2.2.2.2.2.1, o.2.2.2.2.2.2.2.2.2.2.1, o.2.2.2.2.2.2.2.2.2.2.2.1, o.2.2.2.2.2.2.2.2.2.2.2.2.1, o.2.2.2.2.2.2.2.2.2.2.2.2.2.1, o.2.2.2.2.2.2.2.2.2.2.2.2.2.2.1, o.2.2.2.2.2.2.2.2.2.2.2.2.2.2.2.1, v, o.2.2.2.2.2.2.2.2.2.2.2.2.2.2.2.2.2)
def s_n (o : Ob) (v : Int32) : Ob := (o.1, o.2.1, o.2.2.1, o.2.2.2.1, o.2.2.2.2.1, o.2.2.2.2.2.1, o.2.2.2.2.2.2.1, o.2.2.2.2.2.2.2.1, o.2.2.2.2.2.2.2.2.1, o.2.2.2.2.2.2.2.2.2.1, o.2.2.2.2.2.2.2.2.2.2.1, o.2.2.2.2.2.2.2.2.2.2.2.1, o.2.2.2.2.2.2.2.2.2.2.2.2.1, o.2.2.2.2.2.2.2.2.2.2.2.2.2.1, o.2.2.2.2.2.2.2.2.2.2.2.2.2.2.1, o.2.2.2.2.2.2.2.2.2.2.2.2.2.2.2.1, o.2.2.2.2.2.2.2.2.2.2.2.2.2.2.2.2.1, v)
theorem fs (o : Ob) : f_regTuple o = o.1 ∧ f_regA o = o.2.1 ∧ f_regB o = o.2.2.1 ∧ f_regC o = o.2.2.2.1 ∧ f_regCount o = o.2.2.2.2.1 ∧ f_slots o = o.2.2.2.2.2.1 ∧ f_range o = o.2.2.2.2.2.2.1 ∧ f_slide o = o.2.2.2.2.2.2.2.1 ∧ f_frontSize o = o.2.2.2.2.2.2.2.2.1 ∧ f_backSize o = o.2.2.2.2.2.2.2.2.2.1 ∧ f_backElem o = o.2.2.2.2.2.2.2.2.2.2.1 ∧ f_frontAgg o = o.2.2.2.2.2.2.2.2.2.2.2.1 ∧ f_backAgg o = o.2.2.2.2.2.2.2.2.2.2.2.2.1 ∧ f_snap o = o.2.2.2.2.2.2.2.2.2.2.2.2.2.1 ∧ f_reg o = o.2.2.2.2.2.2.2.2.2.2.2.2.2.2.1 ∧ f_capacity o = o.2.2.2.2.2.2.2.2.2.2.2.2.2.2.2.1 ∧ f_queries o = o.2.2.2.2.2.2.2.2.2.2.2.2.2.2.2.2.1 ∧ f_n o = o.2.2.2.2.2.2.2.2.2.2.2.2.2.2.2.2.2 := by simp only [f_regTuple, f_regA, f_regB, f_regC, f_regCount, f_slots, f_range, f_slide, f_frontSize, f_backSize, f_backElem, f_frontAgg, f_backAgg, f_snap, f_reg, f_capacity, f_queries, f_n, and_self]
def ob0 : Ob := (0, 0, 0, 0, 0, 0, [], [], [], [], [], [], [], [], [], 0, 0, 0)
section Walks
variable {l : Launch} {Z : State} {n0 : Nat} {ad : Nat → Addr} {a0 : Array Value}
set_option maxRecDepth 20000
abbrev tt : Bool := true
abbrev ff : Bool := false
open QTri renaming steps → zS, brT → zT, brF → zF, bnd → zB, mask → zM
open Option (bind_eq_some_iff)
open Classical (em)
def H0 (o0 : Ob) : QHeap := [.inl [.int (f_regTuple o0), .int (f_regA o0), .int (f_regB o0), .int (f_regC o0), .int (f_regCount o0), .int (f_slots o0), .ref 1, .ref 2, .ref 3, .ref 4, .ref 5, .ref 6, .ref 7, .ref 8, .ref 9, .int (f_capacity o0), .int (f_queries o0), .int (f_n o0)], .inr (.inl (.int, (f_range o0))), .inr (.inl (.int, (f_slide o0))), .inr (.inl (.int, (f_frontSize o0))), .inr (.inl (.int, (f_backSize o0))), .inr (.inl (.int, (f_backElem o0))), .inr (.inl (.int, (f_frontAgg o0))), .inr (.inl (.int, (f_backAgg o0))), .inr (.inl (.int, (f_snap o0))), .inr (.inl (.int, (f_reg o0)))]
def H0v (a0_0 : Int32) (a0_1 : Int32) (a0_2 : Int32) (a0_3 : Int32) (a0_4 : Int32) (a0_5 : Int32) (a0_6 : List Int32) (a0_7 : List Int32) (a0_8 : List Int32) (a0_9 : List Int32) (a0_10 : List Int32) (a0_11 : List Int32) (a0_12 : List Int32) (a0_13 : List Int32) (a0_14 : List Int32) (a0_15 : Int32) (a0_16 : Int32) (a0_17 : Int32) : QHeap := [.inl [.int a0_0, .int a0_1, .int a0_2, .int a0_3, .int a0_4, .int a0_5, .ref 1, .ref 2, .ref 3, .ref 4, .ref 5, .ref 6, .ref 7, .ref 8, .ref 9, .int a0_15, .int a0_16, .int a0_17], .inr (.inl (.int, a0_6)), .inr (.inl (.int, a0_7)), .inr (.inl (.int, a0_8)), .inr (.inl (.int, a0_9)), .inr (.inl (.int, a0_10)), .inr (.inl (.int, a0_11)), .inr (.inl (.int, a0_12)), .inr (.inl (.int, a0_13)), .inr (.inl (.int, a0_14))]
def H0x0 (o0 : Ob) (a0_0 : Int32) (a0_1 : Int32) (a0_2 : Int32) (a0_3 : Int32) (a0_4 : Int32) (a0_5 : Int32) (a0_6 : List Int32) (a0_7 : List Int32) (a0_8 : List Int32) (a0_9 : List Int32) (a0_10 : List Int32) (a0_11 : List Int32) (a0_12 : List Int32) (a0_13 : List Int32) (a0_14 : List Int32) : QHeap := H0v a0_0 a0_1 a0_2 a0_3 a0_4 a0_5 a0_6 a0_7 a0_8 a0_9 a0_10 a0_11 a0_12 a0_13 a0_14 (f_capacity o0) (f_queries o0) (f_n o0)
def H0x1 (o0 : Ob) (a0_0 : Int32) (a0_1 : Int32) (a0_2 : Int32) (a0_3 : Int32) (a0_4 : Int32) (a0_5 : Int32) (a0_6 : List Int32) (a0_7 : List Int32) (a0_8 : List Int32) (a0_9 : List Int32) (a0_10 : List Int32) (a0_11 : List Int32) (a0_12 : List Int32) (a0_13 : List Int32) (a0_14 : List Int32) (a0_15 : Int32) : QHeap := H0v a0_0 a0_1 a0_2 a0_3 a0_4 a0_5 a0_6 a0_7 a0_8 a0_9 a0_10 a0_11 a0_12 a0_13 a0_14 a0_15 (f_queries o0) (f_n o0)
def H0x2 (o0 : Ob) (a0_0 : Int32) (a0_1 : Int32) (a0_2 : Int32) (a0_3 : Int32) (a0_4 : Int32) (a0_5 : Int32) (a0_6 : List Int32) (a0_7 : List Int32) (a0_8 : List Int32) (a0_9 : List Int32) (a0_10 : List Int32) (a0_11 : List Int32) (a0_12 : List Int32) (a0_13 : List Int32) (a0_14 : List Int32) (a0_15 : Int32) (a0_16 : Int32) : QHeap := H0v a0_0 a0_1 a0_2 a0_3 a0_4 a0_5 a0_6 a0_7 a0_8 a0_9 a0_10 a0_11 a0_12 a0_13 a0_14 a0_15 a0_16 (f_n o0)
def H0x3 (o0 : Ob) (a0_0 : Int32) (a0_1 : Int32) (a0_2 : Int32) (a0_3 : Int32) (a0_4 : Int32) (a0_5 : Int32) (a0_6 : List Int32) (a0_7 : List Int32) (a0_8 : List Int32) (a0_9 : List Int32) (a0_10 : List Int32) (a0_11 : List Int32) (a0_12 : List Int32) (a0_13 : List Int32) (a0_14 : List Int32) (a0_15 : Int32) (a0_16 : Int32) (a0_17 : Int32) : QHeap := H0v a0_0 a0_1 a0_2 a0_3 a0_4 a0_5 a0_6 a0_7 a0_8 a0_9 a0_10 a0_11 a0_12 a0_13 a0_14 a0_15 a0_16 a0_17
def H0x4 (o0 : Ob) (a0_8 : List Int32) : QHeap := H0v (f_regTuple o0) (f_regA o0) (f_regB o0) (f_regC o0) (f_regCount o0) (f_slots o0) (f_range o0) (f_slide o0) a0_8 (f_backSize o0) (f_backElem o0) (f_frontAgg o0) (f_backAgg o0) (f_snap o0) (f_reg o0) (f_capacity o0) (f_queries o0) (f_n o0)
def H0x5 (o0 : Ob) (a0_8 : List Int32) (a0_9 : List Int32) : QHeap := H0v (f_regTuple o0) (f_regA o0) (f_regB o0) (f_regC o0) (f_regCount o0) (f_slots o0) (f_range o0) (f_slide o0) a0_8 a0_9 (f_backElem o0) (f_frontAgg o0) (f_backAgg o0) (f_snap o0) (f_reg o0) (f_capacity o0) (f_queries o0) (f_n o0)
/-- validReg(I)Z -/
def F5 (x1 : Int32) : Option (Int32) :=
 (if x1 < (0:Int32) then some (0:Int32) else (if x1 < (4:Int32) then some (1:Int32) else some (0:Int32)))
theorem tF5 (Ad : QAd n0 ad) (W : QW Z a0) {a : Nat} {σ : QHeap} (x1 : Int32) {r : Int32} (h : F5 x1 = some r) : QTri l Z n0 ad 5 (0, qentry [.ref a, .int x1] (pMaxL 5), [], σ) (some (Value.int r)) σ := by
 unfold F5 at h
 refine zS Ad W 1 (st' := (1, [vR a, vI x1], [.int x1], σ)) rfl ?_
 rcases qite h with ⟨hc14, h⟩ | ⟨hc14, h⟩
 ·refine zT Ad W (t := 13) (f := 4) rfl (XT.i0_lt_t hc14) ?_
  refine zS Ad W 1 (st' := (14, [vR a, vI x1], [.int (0:Int32)], σ)) rfl ?_
  obtain rfl := Option.some.inj h
  exact QTri.retZ rfl rfl
 ·refine zF Ad W (t := 13) (f := 4) rfl (XT.i0_lt_f hc14) ?_
  refine zS Ad W 2 (st' := (6, [vR a, vI x1], [.int (4:Int32), .int x1], σ)) rfl ?_
  rcases qite h with ⟨hc15, h⟩ | ⟨hc15, h⟩
  ·refine zF Ad W (t := 13) (f := 9) rfl (XT.ii_ge_f hc15) ?_
   refine zS Ad W 2 (st' := (14, [vR a, vI x1], [.int (1:Int32)], σ)) rfl ?_
   obtain rfl := Option.some.inj h
   exact QTri.retZ rfl rfl
  ·refine zT Ad W (t := 13) (f := 9) rfl (XT.ii_ge_t hc15) ?_
   refine zS Ad W 1 (st' := (14, [vR a, vI x1], [.int (0:Int32)], σ)) rfl ?_
   obtain rfl := Option.some.inj h
   exact QTri.retZ rfl rfl
def H0x6 (o0 : Ob) (a0_14 : List Int32) : QHeap := H0v (f_regTuple o0) (f_regA o0) (f_regB o0) (f_regC o0) (f_regCount o0) (f_slots o0) (f_range o0) (f_slide o0) (f_frontSize o0) (f_backSize o0) (f_backElem o0) (f_frontAgg o0) (f_backAgg o0) (f_snap o0) a0_14 (f_capacity o0) (f_queries o0) (f_n o0)
/-- regSet(IIIII)V -/
def F4 (o : Ob) (x1 : Int32) (x2 : Int32) (x3 : Int32) (x4 : Int32) (x5 : Int32) : Option (Ob) :=
 (F5 x1).bind fun r16 => (if r16 = (0:Int32) then some o else (aset (f_reg o) (x1 * (4:Int32)) x2).bind fun y18 => (aset y18 ((x1 * (4:Int32)) + (1:Int32)) x3).bind fun y19 => (aset y19 ((x1 * (4:Int32)) + (2:Int32)) x4).bind fun y20 => (aset y20 ((x1 * (4:Int32)) + (3:Int32)) x5).bind fun y21 => some (s_reg o y21))
theorem tF4 (Ad : QAd n0 ad) (W : QW Z a0) (o : Ob) (x1 : Int32) (x2 : Int32) (x3 : Int32) (x4 : Int32) (x5 : Int32) {r : Ob} (h : F4 o x1 x2 x3 x4 x5 = some r) : QTri l Z n0 ad 4 (0, qentry [.ref 0, .int x1, .int x2, .int x3, .int x4, .int x5] (pMaxL 4), [], (H0 o)) (none : Option Value) (H0 r) := by
 unfold F4 at h
 refine zS Ad W 2 (st' := (2, [vR 0, vI x1, vI x2, vI x3, vI x4, vI x5, none], [.int x1, .ref 0], (H0 o))) rfl ?_
 obtain ⟨r16, hr16, h⟩ := bind_eq_some_iff.mp h
 refine QTri.callP W (a := 0) (as := [.int x1]) (rest := []) (w := (some (.int r16))) (σ₁ := (H0 o)) rfl rfl rfl rfl rfl rfl rfl rfl (tF5 Ad W x1 hr16) ?_
 rcases qite h with ⟨hc17, h⟩ | ⟨hc17, h⟩
 ·refine zF Ad W (t := 9) (f := 8) rfl (XT.i0_ne_f hc17) ?_
  obtain rfl := Option.some.inj h
  exact QTri.ret0 rfl rfl
 ·refine zT Ad W (t := 9) (f := 8) rfl (XT.i0_ne_t hc17) ?_
  refine zS Ad W 8 (st' := (21, [vR 0, vI x1, vI x2, vI x3, vI x4, vI x5, vI (x1 * (4:Int32))], [.int x2, .int (x1 * (4:Int32)), .ref 9], (H0 o))) rfl ?_
  obtain ⟨y18, hy18, h⟩ := bind_eq_some_iff.mp h
  refine zB Ad W (f := fun y18 => (22, [vR 0, vI x1, vI x2, vI x3, vI x4, vI x5, vI (x1 * (4:Int32))], [], (H0x6 o y18))) rfl hy18 ?_
  refine zS Ad W 6 (st' := (31, [vR 0, vI x1, vI x2, vI x3, vI x4, vI x5, vI (x1 * (4:Int32))], [.int x3, .int ((x1 * (4:Int32)) + (1:Int32)), .ref 9], (H0x6 o y18))) rfl ?_
  obtain ⟨y19, hy19, h⟩ := bind_eq_some_iff.mp h
  refine zB Ad W (f := fun y19 => (32, [vR 0, vI x1, vI x2, vI x3, vI x4, vI x5, vI (x1 * (4:Int32))], [], (H0x6 o y19))) rfl hy19 ?_
  refine zS Ad W 6 (st' := (42, [vR 0, vI x1, vI x2, vI x3, vI x4, vI x5, vI (x1 * (4:Int32))], [.int x4, .int ((x1 * (4:Int32)) + (2:Int32)), .ref 9], (H0x6 o y19))) rfl ?_
  obtain ⟨y20, hy20, h⟩ := bind_eq_some_iff.mp h
  refine zB Ad W (f := fun y20 => (43, [vR 0, vI x1, vI x2, vI x3, vI x4, vI x5, vI (x1 * (4:Int32))], [], (H0x6 o y20))) rfl hy20 ?_
  refine zS Ad W 6 (st' := (53, [vR 0, vI x1, vI x2, vI x3, vI x4, vI x5, vI (x1 * (4:Int32))], [.int x5, .int ((x1 * (4:Int32)) + (3:Int32)), .ref 9], (H0x6 o y20))) rfl ?_
  obtain ⟨y21, hy21, h⟩ := bind_eq_some_iff.mp h
  refine zB Ad W (f := fun y21 => (54, [vR 0, vI x1, vI x2, vI x3, vI x4, vI x5, vI (x1 * (4:Int32))], [], (H0x6 o y21))) rfl hy21 ?_
  have E22 : ((H0x6 o y21) : QHeap) = (H0 (s_reg o y21)) := by simp only [fs, H0, H0v, H0x6, s_reg]
  rw [E22]
  obtain rfl := Option.some.inj h
  exact QTri.ret0 rfl rfl
/-- regIdentity(I)V -/
def F3 (o : Ob) (x1 : Int32) : Option (Ob) :=
 (F4 o x1 (1:Int32) (0:Int32) (0:Int32) (1:Int32)).bind fun r23 => some r23
theorem tF3 (Ad : QAd n0 ad) (W : QW Z a0) (o : Ob) (x1 : Int32) {r : Ob} (h : F3 o x1 = some r) : QTri l Z n0 ad 3 (0, qentry [.ref 0, .int x1] (pMaxL 3), [], (H0 o)) (none : Option Value) (H0 r) := by
 unfold F3 at h
 refine zS Ad W 6 (st' := (6, [vR 0, vI x1], [.int (1:Int32), .int (0:Int32), .int (0:Int32), .int (1:Int32), .int x1, .ref 0], (H0 o))) rfl ?_
 obtain ⟨r23, hr23, h⟩ := bind_eq_some_iff.mp h
 refine QTri.callP W (a := 0) (as := [.int x1, .int (1:Int32), .int (0:Int32), .int (0:Int32), .int (1:Int32)]) (rest := []) (w := none) (σ₁ := (H0 r23)) rfl rfl rfl rfl rfl rfl rfl rfl (tF4 Ad W o x1 (1:Int32) (0:Int32) (0:Int32) (1:Int32) hr23) ?_
 obtain rfl := Option.some.inj h
 exact QTri.ret0 rfl rfl
def H0x7 (o0 : Ob) (a0_12 : List Int32) : QHeap := H0v (f_regTuple o0) (f_regA o0) (f_regB o0) (f_regC o0) (f_regCount o0) (f_slots o0) (f_range o0) (f_slide o0) (f_frontSize o0) (f_backSize o0) (f_backElem o0) (f_frontAgg o0) a0_12 (f_snap o0) (f_reg o0) (f_capacity o0) (f_queries o0) (f_n o0)
def B6_25 (x1 : Int32) (x3 : Int32) (v : Int32 × Ob) : Option (((Ob)) ⊕ (Int32 × Ob)) :=
  (if v.1 < (4 : Int32) then (aget (f_reg v.2) (x3 + v.1)).bind fun y30 => (aset (f_backAgg v.2) ((x1 * (4 : Int32)) + v.1) y30).bind fun y31 => some (.inr ((v.1 + (1 : Int32)), (s_backAgg v.2 y31))) else some (.inl v.2))
theorem tB6_25 (Ad : QAd n0 ad) (W : QW Z a0) (x1 : Int32) (x3 : Int32) (v : Int32 × Ob) {r : ((Ob)) ⊕ (Int32 × Ob)} {u : Option Value} {τ : QHeap} (h : B6_25 x1 x3 v = some r) (hx0 : ∀ x : Ob, r = .inl x → u = (none : Option Value) ∧ τ = (H0 x)) (hc : ∀ x : Int32 × Ob, r = .inr x → QTri l Z n0 ad 6 (25, [vR 0, vI x1, none, vI x3, vI x.1], [], (H0 x.2)) u τ) : QTri l Z n0 ad 6 (25, [vR 0, vI x1, none, vI x3, vI v.1], [], (H0 v.2)) u τ := by
 unfold B6_25 at h
 refine zS Ad W 2 (st' := (28, [vR 0, vI x1, none, vI x3, vI v.1], [.int (4:Int32), .int v.1], (H0 v.2))) rfl ?_
 rcases qite h with ⟨hc29, h⟩ | ⟨hc29, h⟩
 ·refine zF Ad W (t := 57) (f := 31) rfl (XT.ii_ge_f hc29) ?_
  refine zS Ad W 12 (st' := (49, [vR 0, vI x1, none, vI x3, vI v.1], [.int (x3 + v.1), .ref 9, .int ((x1 * (4:Int32)) + v.1), .ref 7], (H0 v.2))) rfl ?_
  obtain ⟨y30, hy30, h⟩ := bind_eq_some_iff.mp h
  refine zB Ad W (f := fun y30 => (50, [vR 0, vI x1, none, vI x3, vI v.1], [.int y30, .int ((x1 * (4:Int32)) + v.1), .ref 7], (H0 v.2))) rfl hy30 ?_
  obtain ⟨y31, hy31, h⟩ := bind_eq_some_iff.mp h
  refine zB Ad W (f := fun y31 => (51, [vR 0, vI x1, none, vI x3, vI v.1], [], (H0x7 v.2 y31))) rfl hy31 ?_
  refine zS Ad W 2 (st' := (25, [vR 0, vI x1, none, vI x3, vI (v.1 + (1:Int32))], [], (H0x7 v.2 y31))) rfl ?_
  have E32 : ((H0x7 v.2 y31) : QHeap) = (H0 (s_backAgg v.2 y31)) := by simp only [fs, H0, H0v, H0x7, s_backAgg]
  rw [E32]
  obtain rfl := Option.some.inj h
  exact zM [tt,tt,ff,tt,tt] (hc ((v.1 + (1:Int32)), (s_backAgg v.2 y31)) rfl)
 ·refine zT Ad W (t := 57) (f := 31) rfl (XT.ii_ge_t hc29) ?_
  obtain rfl := Option.some.inj h
  obtain ⟨rfl, rfl⟩ := hx0 v.2 rfl
  exact QTri.ret0 rfl rfl
/-- storeBackAgg(II)V -/
def F6 (o : Ob) (x1 : Int32) (x2 : Int32) : Option (Ob) :=
 (F5 x2).bind fun r25 => (if r25 = (0:Int32) then some o else (if x1 < (0:Int32) then some o else (if x1 < (4:Int32) then (loopN (B6_25 x1 (x2 * (4:Int32))) qN ((0:Int32), o)).bind fun e33 => some e33 else some o)))
theorem tF6 (Ad : QAd n0 ad) (W : QW Z a0) (o : Ob) (x1 : Int32) (x2 : Int32) {r : Ob} (h : F6 o x1 x2 = some r) : QTri l Z n0 ad 6 (0, qentry [.ref 0, .int x1, .int x2] (pMaxL 6), [], (H0 o)) (none : Option Value) (H0 r) := by
 unfold F6 at h
 refine zS Ad W 2 (st' := (2, [vR 0, vI x1, vI x2, none, none], [.int x2, .ref 0], (H0 o))) rfl ?_
 obtain ⟨r25, hr25, h⟩ := bind_eq_some_iff.mp h
 refine QTri.callP W (a := 0) (as := [.int x2]) (rest := []) (w := (some (.int r25))) (σ₁ := (H0 o)) rfl rfl rfl rfl rfl rfl rfl rfl (tF5 Ad W x2 hr25) ?_
 rcases qite h with ⟨hc26, h⟩ | ⟨hc26, h⟩
 ·refine zT Ad W (t := 17) (f := 8) rfl (XT.i0_eq_t hc26) ?_
  obtain rfl := Option.some.inj h
  exact QTri.ret0 rfl rfl
 ·refine zF Ad W (t := 17) (f := 8) rfl (XT.i0_eq_f hc26) ?_
  refine zS Ad W 1 (st' := (9, [vR 0, vI x1, vI x2, none, none], [.int x1], (H0 o))) rfl ?_
  rcases qite h with ⟨hc27, h⟩ | ⟨hc27, h⟩
  ·refine zT Ad W (t := 17) (f := 12) rfl (XT.i0_lt_t hc27) ?_
   obtain rfl := Option.some.inj h
   exact QTri.ret0 rfl rfl
  ·refine zF Ad W (t := 17) (f := 12) rfl (XT.i0_lt_f hc27) ?_
   refine zS Ad W 2 (st' := (14, [vR 0, vI x1, vI x2, none, none], [.int (4:Int32), .int x1], (H0 o))) rfl ?_
   rcases qite h with ⟨hc28, h⟩ | ⟨hc28, h⟩
   ·refine zT Ad W (t := 18) (f := 17) rfl (XT.ii_lt_t hc28) ?_
    refine zS Ad W 6 (st' := (25, [vR 0, vI x1, vI x2, vI (x2 * (4:Int32)), vI (0:Int32)], [], (H0 o))) rfl ?_
    obtain ⟨e33, he33, h⟩ := bind_eq_some_iff.mp h
    refine zM [tt,tt,ff,tt,tt] (loopN_tri (B := B6_25 x1 (x2 * (4:Int32))) (T := fun lv34 => QTri l Z n0 ad 6 (25, [vR 0, vI x1, none, vI (x2 * (4:Int32)), vI lv34.1], [], (H0 lv34.2)) (none : Option Value) (H0 r)) (KE := fun e33a => (none : Option Value) = (none : Option Value) ∧ (H0 r) = (H0 e33a)) (fun lv34 r hB hE hC => tB6_25 Ad W x1 (x2 * (4:Int32)) lv34 hB (fun x q => hE _ q) (fun x q => hC x q)) qN ((0:Int32), o) e33 he33 ?_)
    obtain rfl := Option.some.inj h
    exact ⟨rfl, rfl⟩
   ·refine zF Ad W (t := 18) (f := 17) rfl (XT.ii_lt_f hc28) ?_
    obtain rfl := Option.some.inj h
    exact QTri.ret0 rfl rfl
def H0x8 (o0 : Ob) (a0_13 : List Int32) : QHeap := H0v (f_regTuple o0) (f_regA o0) (f_regB o0) (f_regC o0) (f_regCount o0) (f_slots o0) (f_range o0) (f_slide o0) (f_frontSize o0) (f_backSize o0) (f_backElem o0) (f_frontAgg o0) (f_backAgg o0) a0_13 (f_reg o0) (f_capacity o0) (f_queries o0) (f_n o0)
def B7_25 (x1 : Int32) (x3 : Int32) (v : Int32 × Ob) : Option (((Ob)) ⊕ (Int32 × Ob)) :=
  (if v.1 < (4 : Int32) then (aget (f_reg v.2) (x3 + v.1)).bind fun y41 => (aset (f_snap v.2) ((x1 * (4 : Int32)) + v.1) y41).bind fun y42 => some (.inr ((v.1 + (1 : Int32)), (s_snap v.2 y42))) else some (.inl v.2))
theorem tB7_25 (Ad : QAd n0 ad) (W : QW Z a0) (x1 : Int32) (x3 : Int32) (v : Int32 × Ob) {r : ((Ob)) ⊕ (Int32 × Ob)} {u : Option Value} {τ : QHeap} (h : B7_25 x1 x3 v = some r) (hx0 : ∀ x : Ob, r = .inl x → u = (none : Option Value) ∧ τ = (H0 x)) (hc : ∀ x : Int32 × Ob, r = .inr x → QTri l Z n0 ad 7 (25, [vR 0, vI x1, none, vI x3, vI x.1], [], (H0 x.2)) u τ) : QTri l Z n0 ad 7 (25, [vR 0, vI x1, none, vI x3, vI v.1], [], (H0 v.2)) u τ := by
 unfold B7_25 at h
 refine zS Ad W 2 (st' := (28, [vR 0, vI x1, none, vI x3, vI v.1], [.int (4:Int32), .int v.1], (H0 v.2))) rfl ?_
 rcases qite h with ⟨hc40, h⟩ | ⟨hc40, h⟩
 ·refine zF Ad W (t := 57) (f := 31) rfl (XT.ii_ge_f hc40) ?_
  refine zS Ad W 12 (st' := (49, [vR 0, vI x1, none, vI x3, vI v.1], [.int (x3 + v.1), .ref 9, .int ((x1 * (4:Int32)) + v.1), .ref 8], (H0 v.2))) rfl ?_
  obtain ⟨y41, hy41, h⟩ := bind_eq_some_iff.mp h
  refine zB Ad W (f := fun y41 => (50, [vR 0, vI x1, none, vI x3, vI v.1], [.int y41, .int ((x1 * (4:Int32)) + v.1), .ref 8], (H0 v.2))) rfl hy41 ?_
  obtain ⟨y42, hy42, h⟩ := bind_eq_some_iff.mp h
  refine zB Ad W (f := fun y42 => (51, [vR 0, vI x1, none, vI x3, vI v.1], [], (H0x8 v.2 y42))) rfl hy42 ?_
  refine zS Ad W 2 (st' := (25, [vR 0, vI x1, none, vI x3, vI (v.1 + (1:Int32))], [], (H0x8 v.2 y42))) rfl ?_
  have E43 : ((H0x8 v.2 y42) : QHeap) = (H0 (s_snap v.2 y42)) := by simp only [fs, H0, H0v, H0x8, s_snap]
  rw [E43]
  obtain rfl := Option.some.inj h
  exact zM [tt,tt,ff,tt,tt] (hc ((v.1 + (1:Int32)), (s_snap v.2 y42)) rfl)
 ·refine zT Ad W (t := 57) (f := 31) rfl (XT.ii_ge_t hc40) ?_
  obtain rfl := Option.some.inj h
  obtain ⟨rfl, rfl⟩ := hx0 v.2 rfl
  exact QTri.ret0 rfl rfl
/-- storeSnap(II)V -/
def F7 (o : Ob) (x1 : Int32) (x2 : Int32) : Option (Ob) :=
 (F5 x2).bind fun r36 => (if r36 = (0:Int32) then some o else (if x1 < (0:Int32) then some o else (if x1 < (4:Int32) then (loopN (B7_25 x1 (x2 * (4:Int32))) qN ((0:Int32), o)).bind fun e44 => some e44 else some o)))
theorem tF7 (Ad : QAd n0 ad) (W : QW Z a0) (o : Ob) (x1 : Int32) (x2 : Int32) {r : Ob} (h : F7 o x1 x2 = some r) : QTri l Z n0 ad 7 (0, qentry [.ref 0, .int x1, .int x2] (pMaxL 7), [], (H0 o)) (none : Option Value) (H0 r) := by
 unfold F7 at h
 refine zS Ad W 2 (st' := (2, [vR 0, vI x1, vI x2, none, none], [.int x2, .ref 0], (H0 o))) rfl ?_
 obtain ⟨r36, hr36, h⟩ := bind_eq_some_iff.mp h
 refine QTri.callP W (a := 0) (as := [.int x2]) (rest := []) (w := (some (.int r36))) (σ₁ := (H0 o)) rfl rfl rfl rfl rfl rfl rfl rfl (tF5 Ad W x2 hr36) ?_
 rcases qite h with ⟨hc37, h⟩ | ⟨hc37, h⟩
 ·refine zT Ad W (t := 17) (f := 8) rfl (XT.i0_eq_t hc37) ?_
  obtain rfl := Option.some.inj h
  exact QTri.ret0 rfl rfl
 ·refine zF Ad W (t := 17) (f := 8) rfl (XT.i0_eq_f hc37) ?_
  refine zS Ad W 1 (st' := (9, [vR 0, vI x1, vI x2, none, none], [.int x1], (H0 o))) rfl ?_
  rcases qite h with ⟨hc38, h⟩ | ⟨hc38, h⟩
  ·refine zT Ad W (t := 17) (f := 12) rfl (XT.i0_lt_t hc38) ?_
   obtain rfl := Option.some.inj h
   exact QTri.ret0 rfl rfl
  ·refine zF Ad W (t := 17) (f := 12) rfl (XT.i0_lt_f hc38) ?_
   refine zS Ad W 2 (st' := (14, [vR 0, vI x1, vI x2, none, none], [.int (4:Int32), .int x1], (H0 o))) rfl ?_
   rcases qite h with ⟨hc39, h⟩ | ⟨hc39, h⟩
   ·refine zT Ad W (t := 18) (f := 17) rfl (XT.ii_lt_t hc39) ?_
    refine zS Ad W 6 (st' := (25, [vR 0, vI x1, vI x2, vI (x2 * (4:Int32)), vI (0:Int32)], [], (H0 o))) rfl ?_
    obtain ⟨e44, he44, h⟩ := bind_eq_some_iff.mp h
    refine zM [tt,tt,ff,tt,tt] (loopN_tri (B := B7_25 x1 (x2 * (4:Int32))) (T := fun lv45 => QTri l Z n0 ad 7 (25, [vR 0, vI x1, none, vI (x2 * (4:Int32)), vI lv45.1], [], (H0 lv45.2)) (none : Option Value) (H0 r)) (KE := fun e44a => (none : Option Value) = (none : Option Value) ∧ (H0 r) = (H0 e44a)) (fun lv45 r hB hE hC => tB7_25 Ad W x1 (x2 * (4:Int32)) lv45 hB (fun x q => hE _ q) (fun x q => hC x q)) qN ((0:Int32), o) e44 he44 ?_)
    obtain rfl := Option.some.inj h
    exact ⟨rfl, rfl⟩
   ·refine zF Ad W (t := 18) (f := 17) rfl (XT.ii_lt_f hc39) ?_
    obtain rfl := Option.some.inj h
    exact QTri.ret0 rfl rfl
/-- resetQuery(I)V -/
def F2 (o : Ob) (x1 : Int32) : Option (Ob) :=
 (if x1 < (0:Int32) then some o else (if x1 < (4:Int32) then (aset (f_frontSize o) x1 (0:Int32)).bind fun y11 => (aset (f_backSize o) x1 (0:Int32)).bind fun y12 => (F3 (s_backSize (s_frontSize o y11) y12) (1:Int32)).bind fun r24 => (F6 r24 x1 (1:Int32)).bind fun r35 => (F7 r35 x1 (1:Int32)).bind fun r46 => some r46 else some o))
theorem tF2 (Ad : QAd n0 ad) (W : QW Z a0) (o : Ob) (x1 : Int32) {r : Ob} (h : F2 o x1 = some r) : QTri l Z n0 ad 2 (0, qentry [.ref 0, .int x1] (pMaxL 2), [], (H0 o)) (none : Option Value) (H0 r) := by
 unfold F2 at h
 refine zS Ad W 1 (st' := (1, [vR 0, vI x1], [.int x1], (H0 o))) rfl ?_
 rcases qite h with ⟨hc9, h⟩ | ⟨hc9, h⟩
 ·refine zT Ad W (t := 9) (f := 4) rfl (XT.i0_lt_t hc9) ?_
  obtain rfl := Option.some.inj h
  exact QTri.ret0 rfl rfl
 ·refine zF Ad W (t := 9) (f := 4) rfl (XT.i0_lt_f hc9) ?_
  refine zS Ad W 2 (st' := (6, [vR 0, vI x1], [.int (4:Int32), .int x1], (H0 o))) rfl ?_
  rcases qite h with ⟨hc10, h⟩ | ⟨hc10, h⟩
  ·refine zT Ad W (t := 10) (f := 9) rfl (XT.ii_lt_t hc10) ?_
   refine zS Ad W 4 (st' := (16, [vR 0, vI x1], [.int (0:Int32), .int x1, .ref 3], (H0 o))) rfl ?_
   obtain ⟨y11, hy11, h⟩ := bind_eq_some_iff.mp h
   refine zB Ad W (f := fun y11 => (17, [vR 0, vI x1], [], (H0x4 o y11))) rfl hy11 ?_
   refine zS Ad W 4 (st' := (23, [vR 0, vI x1], [.int (0:Int32), .int x1, .ref 4], (H0x4 o y11))) rfl ?_
   obtain ⟨y12, hy12, h⟩ := bind_eq_some_iff.mp h
   refine zB Ad W (f := fun y12 => (24, [vR 0, vI x1], [], (H0x5 o y11 y12))) rfl hy12 ?_
   refine zS Ad W 2 (st' := (26, [vR 0, vI x1], [.int (1:Int32), .ref 0], (H0x5 o y11 y12))) rfl ?_
   have E13 : ((H0x5 o y11 y12) : QHeap) = (H0 (s_backSize (s_frontSize o y11) y12)) := by simp only [fs, H0, H0v, H0x5, s_frontSize, s_backSize]
   rw [E13]
   obtain ⟨r24, hr24, h⟩ := bind_eq_some_iff.mp h
   refine QTri.callP W (a := 0) (as := [.int (1:Int32)]) (rest := []) (w := none) (σ₁ := (H0 r24)) rfl rfl rfl rfl rfl rfl rfl rfl (tF3 Ad W (s_backSize (s_frontSize o y11) y12) (1:Int32) hr24) ?_
   refine zS Ad W 3 (st' := (32, [vR 0, vI x1], [.int (1:Int32), .int x1, .ref 0], (H0 r24))) rfl ?_
   obtain ⟨r35, hr35, h⟩ := bind_eq_some_iff.mp h
   refine QTri.callP W (a := 0) (as := [.int x1, .int (1:Int32)]) (rest := []) (w := none) (σ₁ := (H0 r35)) rfl rfl rfl rfl rfl rfl rfl rfl (tF6 Ad W r24 x1 (1:Int32) hr35) ?_
   refine zS Ad W 3 (st' := (38, [vR 0, vI x1], [.int (1:Int32), .int x1, .ref 0], (H0 r35))) rfl ?_
   obtain ⟨r46, hr46, h⟩ := bind_eq_some_iff.mp h
   refine QTri.callP W (a := 0) (as := [.int x1, .int (1:Int32)]) (rest := []) (w := none) (σ₁ := (H0 r46)) rfl rfl rfl rfl rfl rfl rfl rfl (tF7 Ad W r35 x1 (1:Int32) hr46) ?_
   obtain rfl := Option.some.inj h
   exact QTri.ret0 rfl rfl
  ·refine zF Ad W (t := 10) (f := 9) rfl (XT.ii_lt_f hc10) ?_
   obtain rfl := Option.some.inj h
   exact QTri.ret0 rfl rfl
def B1_138 (v : Int32 × Ob) : Option (((Ob)) ⊕ (Int32 × Ob)) :=
  (if v.1 < (4 : Int32) then (F2 v.2 v.1).bind fun r47 => some (.inr ((v.1 + (1 : Int32)), r47)) else some (.inl v.2))
theorem tB1_138 (Ad : QAd n0 ad) (W : QW Z a0) (v : Int32 × Ob) {r : ((Ob)) ⊕ (Int32 × Ob)} {u : Option Value} {τ : QHeap} (h : B1_138 v = some r) (hx0 : ∀ x : Ob, r = .inl x → u = (none : Option Value) ∧ τ = (H0 x)) (hc : ∀ x : Int32 × Ob, r = .inr x → QTri l Z n0 ad 1 (138, [vR 0, none, none, vI x.1], [], (H0 x.2)) u τ) : QTri l Z n0 ad 1 (138, [vR 0, none, none, vI v.1], [], (H0 v.2)) u τ := by
 unfold B1_138 at h
 refine zS Ad W 2 (st' := (140, [vR 0, none, none, vI v.1], [.int (4:Int32), .int v.1], (H0 v.2))) rfl ?_
 rcases qite h with ⟨hc8, h⟩ | ⟨hc8, h⟩
 ·refine zF Ad W (t := 154) (f := 143) rfl (XT.ii_ge_f hc8) ?_
  refine zS Ad W 2 (st' := (145, [vR 0, none, none, vI v.1], [.int v.1, .ref 0], (H0 v.2))) rfl ?_
  obtain ⟨r47, hr47, h⟩ := bind_eq_some_iff.mp h
  refine QTri.callP W (a := 0) (as := [.int v.1]) (rest := []) (w := none) (σ₁ := (H0 r47)) rfl rfl rfl rfl rfl rfl rfl rfl (tF2 Ad W v.2 v.1 hr47) ?_
  refine zS Ad W 2 (st' := (138, [vR 0, none, none, vI (v.1 + (1:Int32))], [], (H0 r47))) rfl ?_
  obtain rfl := Option.some.inj h
  exact zM [tt,ff,ff,tt] (hc ((v.1 + (1:Int32)), r47) rfl)
 ·refine zT Ad W (t := 154) (f := 143) rfl (XT.ii_ge_t hc8) ?_
  obtain rfl := Option.some.inj h
  obtain ⟨rfl, rfl⟩ := hx0 v.2 rfl
  exact QTri.ret0 rfl rfl
/-- init(I)V -/
def F1 (x1 : Int32) : Option (Ob) :=
 (loopN (B1_138) qN ((0:Int32), (s_n (s_queries (s_capacity (s_reg (s_snap (s_backAgg (s_frontAgg (s_backElem (s_backSize (s_frontSize (s_slide (s_range (s_slots (s_regCount (s_regC (s_regB (s_regA (s_regTuple ob0 (0:Int32)) (1:Int32)) (2:Int32)) (3:Int32)) (4:Int32)) (32:Int32)) (List.replicate 4 0)) (List.replicate 4 0)) (List.replicate 4 0)) (List.replicate 4 0)) (List.replicate 512 0)) (List.replicate 512 0)) (List.replicate 16 0)) (List.replicate 16 0)) (List.replicate 16 0)) (if (4:Int32) < (if x1 < (1:Int32) then (1:Int32) else x1) then (4:Int32) else (if x1 < (1:Int32) then (1:Int32) else x1))) (0:Int32)) (0:Int32)))).bind fun e48 => some e48
theorem tF1 (Ad : QAd n0 ad) (W : QW Z a0) (x1 : Int32) {r : Ob} (h : F1 x1 = some r) : QTri l Z n0 ad 1 (0, qentry [.ref 0, .int x1] (pMaxL 1), [], [.inl [.int (f_regTuple ob0), .int (f_regA ob0), .int (f_regB ob0), .int (f_regC ob0), .int (f_regCount ob0), .int (f_slots ob0), .null, .null, .null, .null, .null, .null, .null, .null, .null, .int (f_capacity ob0), .int (f_queries ob0), .int (f_n ob0)]]) (none : Option Value) (H0 r) := by
 unfold F1 at h
 refine zS Ad W 1 (st' := (1, [vR 0, vI x1, none, none], [.ref 0], [.inl [.int (f_regTuple ob0), .int (f_regA ob0), .int (f_regB ob0), .int (f_regC ob0), .int (f_regCount ob0), .int (f_slots ob0), .null, .null, .null, .null, .null, .null, .null, .null, .null, .int (f_capacity ob0), .int (f_queries ob0), .int (f_n ob0)]])) rfl ?_
 refine QTri.callO W rfl rfl rfl ?_
 refine zS Ad W 3 (st' := (9, [vR 0, vI x1, none, none], [], [.inl [.int (0:Int32), .int (f_regA ob0), .int (f_regB ob0), .int (f_regC ob0), .int (f_regCount ob0), .int (f_slots ob0), .null, .null, .null, .null, .null, .null, .null, .null, .null, .int (f_capacity ob0), .int (f_queries ob0), .int (f_n ob0)]])) rfl ?_
 refine zS Ad W 3 (st' := (14, [vR 0, vI x1, none, none], [], [.inl [.int (0:Int32), .int (1:Int32), .int (f_regB ob0), .int (f_regC ob0), .int (f_regCount ob0), .int (f_slots ob0), .null, .null, .null, .null, .null, .null, .null, .null, .null, .int (f_capacity ob0), .int (f_queries ob0), .int (f_n ob0)]])) rfl ?_
 refine zS Ad W 3 (st' := (19, [vR 0, vI x1, none, none], [], [.inl [.int (0:Int32), .int (1:Int32), .int (2:Int32), .int (f_regC ob0), .int (f_regCount ob0), .int (f_slots ob0), .null, .null, .null, .null, .null, .null, .null, .null, .null, .int (f_capacity ob0), .int (f_queries ob0), .int (f_n ob0)]])) rfl ?_
 refine zS Ad W 3 (st' := (24, [vR 0, vI x1, none, none], [], [.inl [.int (0:Int32), .int (1:Int32), .int (2:Int32), .int (3:Int32), .int (f_regCount ob0), .int (f_slots ob0), .null, .null, .null, .null, .null, .null, .null, .null, .null, .int (f_capacity ob0), .int (f_queries ob0), .int (f_n ob0)]])) rfl ?_
 refine zS Ad W 3 (st' := (29, [vR 0, vI x1, none, none], [], [.inl [.int (0:Int32), .int (1:Int32), .int (2:Int32), .int (3:Int32), .int (4:Int32), .int (f_slots ob0), .null, .null, .null, .null, .null, .null, .null, .null, .null, .int (f_capacity ob0), .int (f_queries ob0), .int (f_n ob0)]])) rfl ?_
 refine zS Ad W 3 (st' := (35, [vR 0, vI x1, none, none], [], [.inl [.int (0:Int32), .int (1:Int32), .int (2:Int32), .int (3:Int32), .int (4:Int32), .int (32:Int32), .null, .null, .null, .null, .null, .null, .null, .null, .null, .int (f_capacity ob0), .int (f_queries ob0), .int (f_n ob0)]])) rfl ?_
 refine zS Ad W 3 (st' := (39, [vR 0, vI x1, none, none], [.ref 1, .ref 0], [.inl [.int (0:Int32), .int (1:Int32), .int (2:Int32), .int (3:Int32), .int (4:Int32), .int (32:Int32), .null, .null, .null, .null, .null, .null, .null, .null, .null, .int (f_capacity ob0), .int (f_queries ob0), .int (f_n ob0)], .inr (.inl (.int, (List.replicate 4 0)))])) rfl ?_
 refine zS Ad W 1 (st' := (42, [vR 0, vI x1, none, none], [], [.inl [.int (0:Int32), .int (1:Int32), .int (2:Int32), .int (3:Int32), .int (4:Int32), .int (32:Int32), .ref 1, .null, .null, .null, .null, .null, .null, .null, .null, .int (f_capacity ob0), .int (f_queries ob0), .int (f_n ob0)], .inr (.inl (.int, (List.replicate 4 0)))])) rfl ?_
 refine zS Ad W 3 (st' := (46, [vR 0, vI x1, none, none], [.ref 2, .ref 0], [.inl [.int (0:Int32), .int (1:Int32), .int (2:Int32), .int (3:Int32), .int (4:Int32), .int (32:Int32), .ref 1, .null, .null, .null, .null, .null, .null, .null, .null, .int (f_capacity ob0), .int (f_queries ob0), .int (f_n ob0)], .inr (.inl (.int, (List.replicate 4 0))), .inr (.inl (.int, (List.replicate 4 0)))])) rfl ?_
 refine zS Ad W 1 (st' := (49, [vR 0, vI x1, none, none], [], [.inl [.int (0:Int32), .int (1:Int32), .int (2:Int32), .int (3:Int32), .int (4:Int32), .int (32:Int32), .ref 1, .ref 2, .null, .null, .null, .null, .null, .null, .null, .int (f_capacity ob0), .int (f_queries ob0), .int (f_n ob0)], .inr (.inl (.int, (List.replicate 4 0))), .inr (.inl (.int, (List.replicate 4 0)))])) rfl ?_
 refine zS Ad W 3 (st' := (53, [vR 0, vI x1, none, none], [.ref 3, .ref 0], [.inl [.int (0:Int32), .int (1:Int32), .int (2:Int32), .int (3:Int32), .int (4:Int32), .int (32:Int32), .ref 1, .ref 2, .null, .null, .null, .null, .null, .null, .null, .int (f_capacity ob0), .int (f_queries ob0), .int (f_n ob0)], .inr (.inl (.int, (List.replicate 4 0))), .inr (.inl (.int, (List.replicate 4 0))), .inr (.inl (.int, (List.replicate 4 0)))])) rfl ?_
 refine zS Ad W 1 (st' := (56, [vR 0, vI x1, none, none], [], [.inl [.int (0:Int32), .int (1:Int32), .int (2:Int32), .int (3:Int32), .int (4:Int32), .int (32:Int32), .ref 1, .ref 2, .ref 3, .null, .null, .null, .null, .null, .null, .int (f_capacity ob0), .int (f_queries ob0), .int (f_n ob0)], .inr (.inl (.int, (List.replicate 4 0))), .inr (.inl (.int, (List.replicate 4 0))), .inr (.inl (.int, (List.replicate 4 0)))])) rfl ?_
 refine zS Ad W 3 (st' := (60, [vR 0, vI x1, none, none], [.ref 4, .ref 0], [.inl [.int (0:Int32), .int (1:Int32), .int (2:Int32), .int (3:Int32), .int (4:Int32), .int (32:Int32), .ref 1, .ref 2, .ref 3, .null, .null, .null, .null, .null, .null, .int (f_capacity ob0), .int (f_queries ob0), .int (f_n ob0)], .inr (.inl (.int, (List.replicate 4 0))), .inr (.inl (.int, (List.replicate 4 0))), .inr (.inl (.int, (List.replicate 4 0))), .inr (.inl (.int, (List.replicate 4 0)))])) rfl ?_
 refine zS Ad W 1 (st' := (63, [vR 0, vI x1, none, none], [], [.inl [.int (0:Int32), .int (1:Int32), .int (2:Int32), .int (3:Int32), .int (4:Int32), .int (32:Int32), .ref 1, .ref 2, .ref 3, .ref 4, .null, .null, .null, .null, .null, .int (f_capacity ob0), .int (f_queries ob0), .int (f_n ob0)], .inr (.inl (.int, (List.replicate 4 0))), .inr (.inl (.int, (List.replicate 4 0))), .inr (.inl (.int, (List.replicate 4 0))), .inr (.inl (.int, (List.replicate 4 0)))])) rfl ?_
 refine zS Ad W 3 (st' := (69, [vR 0, vI x1, none, none], [.ref 5, .ref 0], [.inl [.int (0:Int32), .int (1:Int32), .int (2:Int32), .int (3:Int32), .int (4:Int32), .int (32:Int32), .ref 1, .ref 2, .ref 3, .ref 4, .null, .null, .null, .null, .null, .int (f_capacity ob0), .int (f_queries ob0), .int (f_n ob0)], .inr (.inl (.int, (List.replicate 4 0))), .inr (.inl (.int, (List.replicate 4 0))), .inr (.inl (.int, (List.replicate 4 0))), .inr (.inl (.int, (List.replicate 4 0))), .inr (.inl (.int, (List.replicate 512 0)))])) rfl ?_
 refine zS Ad W 1 (st' := (72, [vR 0, vI x1, none, none], [], [.inl [.int (0:Int32), .int (1:Int32), .int (2:Int32), .int (3:Int32), .int (4:Int32), .int (32:Int32), .ref 1, .ref 2, .ref 3, .ref 4, .ref 5, .null, .null, .null, .null, .int (f_capacity ob0), .int (f_queries ob0), .int (f_n ob0)], .inr (.inl (.int, (List.replicate 4 0))), .inr (.inl (.int, (List.replicate 4 0))), .inr (.inl (.int, (List.replicate 4 0))), .inr (.inl (.int, (List.replicate 4 0))), .inr (.inl (.int, (List.replicate 512 0)))])) rfl ?_
 refine zS Ad W 3 (st' := (78, [vR 0, vI x1, none, none], [.ref 6, .ref 0], [.inl [.int (0:Int32), .int (1:Int32), .int (2:Int32), .int (3:Int32), .int (4:Int32), .int (32:Int32), .ref 1, .ref 2, .ref 3, .ref 4, .ref 5, .null, .null, .null, .null, .int (f_capacity ob0), .int (f_queries ob0), .int (f_n ob0)], .inr (.inl (.int, (List.replicate 4 0))), .inr (.inl (.int, (List.replicate 4 0))), .inr (.inl (.int, (List.replicate 4 0))), .inr (.inl (.int, (List.replicate 4 0))), .inr (.inl (.int, (List.replicate 512 0))), .inr (.inl (.int, (List.replicate 512 0)))])) rfl ?_
 refine zS Ad W 1 (st' := (81, [vR 0, vI x1, none, none], [], [.inl [.int (0:Int32), .int (1:Int32), .int (2:Int32), .int (3:Int32), .int (4:Int32), .int (32:Int32), .ref 1, .ref 2, .ref 3, .ref 4, .ref 5, .ref 6, .null, .null, .null, .int (f_capacity ob0), .int (f_queries ob0), .int (f_n ob0)], .inr (.inl (.int, (List.replicate 4 0))), .inr (.inl (.int, (List.replicate 4 0))), .inr (.inl (.int, (List.replicate 4 0))), .inr (.inl (.int, (List.replicate 4 0))), .inr (.inl (.int, (List.replicate 512 0))), .inr (.inl (.int, (List.replicate 512 0)))])) rfl ?_
 refine zS Ad W 3 (st' := (86, [vR 0, vI x1, none, none], [.ref 7, .ref 0], [.inl [.int (0:Int32), .int (1:Int32), .int (2:Int32), .int (3:Int32), .int (4:Int32), .int (32:Int32), .ref 1, .ref 2, .ref 3, .ref 4, .ref 5, .ref 6, .null, .null, .null, .int (f_capacity ob0), .int (f_queries ob0), .int (f_n ob0)], .inr (.inl (.int, (List.replicate 4 0))), .inr (.inl (.int, (List.replicate 4 0))), .inr (.inl (.int, (List.replicate 4 0))), .inr (.inl (.int, (List.replicate 4 0))), .inr (.inl (.int, (List.replicate 512 0))), .inr (.inl (.int, (List.replicate 512 0))), .inr (.inl (.int, (List.replicate 16 0)))])) rfl ?_
 refine zS Ad W 1 (st' := (89, [vR 0, vI x1, none, none], [], [.inl [.int (0:Int32), .int (1:Int32), .int (2:Int32), .int (3:Int32), .int (4:Int32), .int (32:Int32), .ref 1, .ref 2, .ref 3, .ref 4, .ref 5, .ref 6, .ref 7, .null, .null, .int (f_capacity ob0), .int (f_queries ob0), .int (f_n ob0)], .inr (.inl (.int, (List.replicate 4 0))), .inr (.inl (.int, (List.replicate 4 0))), .inr (.inl (.int, (List.replicate 4 0))), .inr (.inl (.int, (List.replicate 4 0))), .inr (.inl (.int, (List.replicate 512 0))), .inr (.inl (.int, (List.replicate 512 0))), .inr (.inl (.int, (List.replicate 16 0)))])) rfl ?_
 refine zS Ad W 3 (st' := (94, [vR 0, vI x1, none, none], [.ref 8, .ref 0], [.inl [.int (0:Int32), .int (1:Int32), .int (2:Int32), .int (3:Int32), .int (4:Int32), .int (32:Int32), .ref 1, .ref 2, .ref 3, .ref 4, .ref 5, .ref 6, .ref 7, .null, .null, .int (f_capacity ob0), .int (f_queries ob0), .int (f_n ob0)], .inr (.inl (.int, (List.replicate 4 0))), .inr (.inl (.int, (List.replicate 4 0))), .inr (.inl (.int, (List.replicate 4 0))), .inr (.inl (.int, (List.replicate 4 0))), .inr (.inl (.int, (List.replicate 512 0))), .inr (.inl (.int, (List.replicate 512 0))), .inr (.inl (.int, (List.replicate 16 0))), .inr (.inl (.int, (List.replicate 16 0)))])) rfl ?_
 refine zS Ad W 1 (st' := (97, [vR 0, vI x1, none, none], [], [.inl [.int (0:Int32), .int (1:Int32), .int (2:Int32), .int (3:Int32), .int (4:Int32), .int (32:Int32), .ref 1, .ref 2, .ref 3, .ref 4, .ref 5, .ref 6, .ref 7, .ref 8, .null, .int (f_capacity ob0), .int (f_queries ob0), .int (f_n ob0)], .inr (.inl (.int, (List.replicate 4 0))), .inr (.inl (.int, (List.replicate 4 0))), .inr (.inl (.int, (List.replicate 4 0))), .inr (.inl (.int, (List.replicate 4 0))), .inr (.inl (.int, (List.replicate 512 0))), .inr (.inl (.int, (List.replicate 512 0))), .inr (.inl (.int, (List.replicate 16 0))), .inr (.inl (.int, (List.replicate 16 0)))])) rfl ?_
 refine zS Ad W 3 (st' := (102, [vR 0, vI x1, none, none], [.ref 9, .ref 0], [.inl [.int (0:Int32), .int (1:Int32), .int (2:Int32), .int (3:Int32), .int (4:Int32), .int (32:Int32), .ref 1, .ref 2, .ref 3, .ref 4, .ref 5, .ref 6, .ref 7, .ref 8, .null, .int (f_capacity ob0), .int (f_queries ob0), .int (f_n ob0)], .inr (.inl (.int, (List.replicate 4 0))), .inr (.inl (.int, (List.replicate 4 0))), .inr (.inl (.int, (List.replicate 4 0))), .inr (.inl (.int, (List.replicate 4 0))), .inr (.inl (.int, (List.replicate 512 0))), .inr (.inl (.int, (List.replicate 512 0))), .inr (.inl (.int, (List.replicate 16 0))), .inr (.inl (.int, (List.replicate 16 0))), .inr (.inl (.int, (List.replicate 16 0)))])) rfl ?_
 refine zS Ad W 1 (st' := (105, [vR 0, vI x1, none, none], [], (H0x0 ob0 (0:Int32) (1:Int32) (2:Int32) (3:Int32) (4:Int32) (32:Int32) (List.replicate 4 0) (List.replicate 4 0) (List.replicate 4 0) (List.replicate 4 0) (List.replicate 512 0) (List.replicate 512 0) (List.replicate 16 0) (List.replicate 16 0) (List.replicate 16 0)))) rfl ?_
 refine zS Ad W 4 (st' := (109, [vR 0, vI x1, vI x1, none], [.int (1:Int32), .int x1], (H0x0 ob0 (0:Int32) (1:Int32) (2:Int32) (3:Int32) (4:Int32) (32:Int32) (List.replicate 4 0) (List.replicate 4 0) (List.replicate 4 0) (List.replicate 4 0) (List.replicate 512 0) (List.replicate 512 0) (List.replicate 16 0) (List.replicate 16 0) (List.replicate 16 0)))) rfl ?_
 have K2 : ∀ z1 : Int32, z1 = (if x1 < (1:Int32) then (1:Int32) else x1) → QTri l Z n0 ad 1 (114, [vR 0, none, vI z1, none], [], (H0x0 ob0 (0:Int32) (1:Int32) (2:Int32) (3:Int32) (4:Int32) (32:Int32) (List.replicate 4 0) (List.replicate 4 0) (List.replicate 4 0) (List.replicate 4 0) (List.replicate 512 0) (List.replicate 512 0) (List.replicate 16 0) (List.replicate 16 0) (List.replicate 16 0))) (none : Option Value) (H0 r) := by
  intro z1 ez1
  subst ez1
  refine zS Ad W 2 (st' := (116, [vR 0, none, vI (if x1 < (1:Int32) then (1:Int32) else x1), none], [.int (4:Int32), .int (if x1 < (1:Int32) then (1:Int32) else x1)], (H0x0 ob0 (0:Int32) (1:Int32) (2:Int32) (3:Int32) (4:Int32) (32:Int32) (List.replicate 4 0) (List.replicate 4 0) (List.replicate 4 0) (List.replicate 4 0) (List.replicate 512 0) (List.replicate 512 0) (List.replicate 16 0) (List.replicate 16 0) (List.replicate 16 0)))) rfl ?_
  have K5 : ∀ z4 : Int32, z4 = (if (4:Int32) < (if x1 < (1:Int32) then (1:Int32) else x1) then (4:Int32) else (if x1 < (1:Int32) then (1:Int32) else x1)) → QTri l Z n0 ad 1 (121, [vR 0, none, vI z4, none], [], (H0x0 ob0 (0:Int32) (1:Int32) (2:Int32) (3:Int32) (4:Int32) (32:Int32) (List.replicate 4 0) (List.replicate 4 0) (List.replicate 4 0) (List.replicate 4 0) (List.replicate 512 0) (List.replicate 512 0) (List.replicate 16 0) (List.replicate 16 0) (List.replicate 16 0))) (none : Option Value) (H0 r) := by
   intro z4 ez4
   subst ez4
   refine zS Ad W 3 (st' := (126, [vR 0, none, vI (if (4:Int32) < (if x1 < (1:Int32) then (1:Int32) else x1) then (4:Int32) else (if x1 < (1:Int32) then (1:Int32) else x1)), none], [], (H0x1 ob0 (0:Int32) (1:Int32) (2:Int32) (3:Int32) (4:Int32) (32:Int32) (List.replicate 4 0) (List.replicate 4 0) (List.replicate 4 0) (List.replicate 4 0) (List.replicate 512 0) (List.replicate 512 0) (List.replicate 16 0) (List.replicate 16 0) (List.replicate 16 0) (if (4:Int32) < (if x1 < (1:Int32) then (1:Int32) else x1) then (4:Int32) else (if x1 < (1:Int32) then (1:Int32) else x1))))) rfl ?_
   refine zS Ad W 3 (st' := (131, [vR 0, none, vI (if (4:Int32) < (if x1 < (1:Int32) then (1:Int32) else x1) then (4:Int32) else (if x1 < (1:Int32) then (1:Int32) else x1)), none], [], (H0x2 ob0 (0:Int32) (1:Int32) (2:Int32) (3:Int32) (4:Int32) (32:Int32) (List.replicate 4 0) (List.replicate 4 0) (List.replicate 4 0) (List.replicate 4 0) (List.replicate 512 0) (List.replicate 512 0) (List.replicate 16 0) (List.replicate 16 0) (List.replicate 16 0) (if (4:Int32) < (if x1 < (1:Int32) then (1:Int32) else x1) then (4:Int32) else (if x1 < (1:Int32) then (1:Int32) else x1)) (0:Int32)))) rfl ?_
   refine zS Ad W 3 (st' := (136, [vR 0, none, vI (if (4:Int32) < (if x1 < (1:Int32) then (1:Int32) else x1) then (4:Int32) else (if x1 < (1:Int32) then (1:Int32) else x1)), none], [], (H0x3 ob0 (0:Int32) (1:Int32) (2:Int32) (3:Int32) (4:Int32) (32:Int32) (List.replicate 4 0) (List.replicate 4 0) (List.replicate 4 0) (List.replicate 4 0) (List.replicate 512 0) (List.replicate 512 0) (List.replicate 16 0) (List.replicate 16 0) (List.replicate 16 0) (if (4:Int32) < (if x1 < (1:Int32) then (1:Int32) else x1) then (4:Int32) else (if x1 < (1:Int32) then (1:Int32) else x1)) (0:Int32) (0:Int32)))) rfl ?_
   refine zS Ad W 2 (st' := (138, [vR 0, none, vI (if (4:Int32) < (if x1 < (1:Int32) then (1:Int32) else x1) then (4:Int32) else (if x1 < (1:Int32) then (1:Int32) else x1)), vI (0:Int32)], [], (H0x3 ob0 (0:Int32) (1:Int32) (2:Int32) (3:Int32) (4:Int32) (32:Int32) (List.replicate 4 0) (List.replicate 4 0) (List.replicate 4 0) (List.replicate 4 0) (List.replicate 512 0) (List.replicate 512 0) (List.replicate 16 0) (List.replicate 16 0) (List.replicate 16 0) (if (4:Int32) < (if x1 < (1:Int32) then (1:Int32) else x1) then (4:Int32) else (if x1 < (1:Int32) then (1:Int32) else x1)) (0:Int32) (0:Int32)))) rfl ?_
   have E7 : ((H0x3 ob0 (0:Int32) (1:Int32) (2:Int32) (3:Int32) (4:Int32) (32:Int32) (List.replicate 4 0) (List.replicate 4 0) (List.replicate 4 0) (List.replicate 4 0) (List.replicate 512 0) (List.replicate 512 0) (List.replicate 16 0) (List.replicate 16 0) (List.replicate 16 0) (if (4:Int32) < (if x1 < (1:Int32) then (1:Int32) else x1) then (4:Int32) else (if x1 < (1:Int32) then (1:Int32) else x1)) (0:Int32) (0:Int32)) : QHeap) = (H0 (s_n (s_queries (s_capacity (s_reg (s_snap (s_backAgg (s_frontAgg (s_backElem (s_backSize (s_frontSize (s_slide (s_range (s_slots (s_regCount (s_regC (s_regB (s_regA (s_regTuple ob0 (0:Int32)) (1:Int32)) (2:Int32)) (3:Int32)) (4:Int32)) (32:Int32)) (List.replicate 4 0)) (List.replicate 4 0)) (List.replicate 4 0)) (List.replicate 4 0)) (List.replicate 512 0)) (List.replicate 512 0)) (List.replicate 16 0)) (List.replicate 16 0)) (List.replicate 16 0)) (if (4:Int32) < (if x1 < (1:Int32) then (1:Int32) else x1) then (4:Int32) else (if x1 < (1:Int32) then (1:Int32) else x1))) (0:Int32)) (0:Int32))) := by simp only [fs, H0, H0v, H0x3, s_regTuple, s_regA, s_regB, s_regC, s_regCount, s_slots, s_range, s_slide, s_frontSize, s_backSize, s_backElem, s_frontAgg, s_backAgg, s_snap, s_reg, s_capacity, s_queries, s_n, ob0]
   rw [E7]
   obtain ⟨e48, he48, h⟩ := bind_eq_some_iff.mp h
   refine zM [tt,ff,ff,tt] (loopN_tri (B := B1_138) (T := fun lv49 => QTri l Z n0 ad 1 (138, [vR 0, none, none, vI lv49.1], [], (H0 lv49.2)) (none : Option Value) (H0 r)) (KE := fun e48a => (none : Option Value) = (none : Option Value) ∧ (H0 r) = (H0 e48a)) (fun lv49 r hB hE hC => tB1_138 Ad W  lv49 hB (fun x q => hE _ q) (fun x q => hC x q)) qN ((0:Int32), (s_n (s_queries (s_capacity (s_reg (s_snap (s_backAgg (s_frontAgg (s_backElem (s_backSize (s_frontSize (s_slide (s_range (s_slots (s_regCount (s_regC (s_regB (s_regA (s_regTuple ob0 (0:Int32)) (1:Int32)) (2:Int32)) (3:Int32)) (4:Int32)) (32:Int32)) (List.replicate 4 0)) (List.replicate 4 0)) (List.replicate 4 0)) (List.replicate 4 0)) (List.replicate 512 0)) (List.replicate 512 0)) (List.replicate 16 0)) (List.replicate 16 0)) (List.replicate 16 0)) (if (4:Int32) < (if x1 < (1:Int32) then (1:Int32) else x1) then (4:Int32) else (if x1 < (1:Int32) then (1:Int32) else x1))) (0:Int32)) (0:Int32))) e48 he48 ?_)
   obtain rfl := Option.some.inj h
   exact ⟨rfl, rfl⟩
  rcases em ((4:Int32) < (if x1 < (1:Int32) then (1:Int32) else x1)) with hc6 | hc6
  ·refine zF Ad W (t := 121) (f := 119) rfl (XT.ii_le_f hc6) ?_
   refine zS Ad W 2 (st' := (121, [vR 0, none, vI (4:Int32), none], [], (H0x0 ob0 (0:Int32) (1:Int32) (2:Int32) (3:Int32) (4:Int32) (32:Int32) (List.replicate 4 0) (List.replicate 4 0) (List.replicate 4 0) (List.replicate 4 0) (List.replicate 512 0) (List.replicate 512 0) (List.replicate 16 0) (List.replicate 16 0) (List.replicate 16 0)))) rfl ?_
   exact zM [tt,ff,tt,ff] (K5 _ (if_pos hc6).symm)
  ·refine zT Ad W (t := 121) (f := 119) rfl (XT.ii_le_t hc6) ?_
   exact zM [tt,ff,tt,ff] (K5 _ (if_neg hc6).symm)
 rcases em (x1 < (1:Int32)) with hc3 | hc3
 ·refine zF Ad W (t := 114) (f := 112) rfl (XT.ii_ge_f hc3) ?_
  refine zS Ad W 2 (st' := (114, [vR 0, vI x1, vI (1:Int32), none], [], (H0x0 ob0 (0:Int32) (1:Int32) (2:Int32) (3:Int32) (4:Int32) (32:Int32) (List.replicate 4 0) (List.replicate 4 0) (List.replicate 4 0) (List.replicate 4 0) (List.replicate 512 0) (List.replicate 512 0) (List.replicate 16 0) (List.replicate 16 0) (List.replicate 16 0)))) rfl ?_
  exact zM [tt,ff,tt,ff] (K2 _ (if_pos hc3).symm)
 ·refine zT Ad W (t := 114) (f := 112) rfl (XT.ii_ge_t hc3) ?_
  exact zM [tt,ff,tt,ff] (K2 _ (if_neg hc3).symm)
def H0x9 (o0 : Ob) (a0_6 : List Int32) : QHeap := H0v (f_regTuple o0) (f_regA o0) (f_regB o0) (f_regC o0) (f_regCount o0) (f_slots o0) a0_6 (f_slide o0) (f_frontSize o0) (f_backSize o0) (f_backElem o0) (f_frontAgg o0) (f_backAgg o0) (f_snap o0) (f_reg o0) (f_capacity o0) (f_queries o0) (f_n o0)
def H0x10 (o0 : Ob) (a0_6 : List Int32) (a0_7 : List Int32) : QHeap := H0v (f_regTuple o0) (f_regA o0) (f_regB o0) (f_regC o0) (f_regCount o0) (f_slots o0) a0_6 a0_7 (f_frontSize o0) (f_backSize o0) (f_backElem o0) (f_frontAgg o0) (f_backAgg o0) (f_snap o0) (f_reg o0) (f_capacity o0) (f_queries o0) (f_n o0)
def H0x11 (o0 : Ob) (a0_16 : Int32) : QHeap := H0v (f_regTuple o0) (f_regA o0) (f_regB o0) (f_regC o0) (f_regCount o0) (f_slots o0) (f_range o0) (f_slide o0) (f_frontSize o0) (f_backSize o0) (f_backElem o0) (f_frontAgg o0) (f_backAgg o0) (f_snap o0) (f_reg o0) (f_capacity o0) a0_16 (f_n o0)
/-- addQuery(II)I -/
def F8 (o : Ob) (x1 : Int32) (x2 : Int32) : Option (Int32 × Ob) :=
 (if (f_n o) = (0:Int32) then (if (f_queries o) < (f_capacity o) then (if x1 < (1:Int32) then some ((-1:Int32), o) else (if (32:Int32) < x1 then some ((-1:Int32), o) else (if x2 < (1:Int32) then some ((-1:Int32), o) else (if (32:Int32) < x2 then some ((-1:Int32), o) else (aset (f_range o) (f_queries o) x1).bind fun y57 => (aset (f_slide o) (f_queries o) x2).bind fun y58 => (F2 (s_slide (s_range o y57) y58) (f_queries o)).bind fun r60 => some ((f_queries o), (s_queries r60 ((f_queries r60) + (1:Int32)))))))) else some ((-1:Int32), o)) else some ((-1:Int32), o))
theorem tF8 (Ad : QAd n0 ad) (W : QW Z a0) (o : Ob) (x1 : Int32) (x2 : Int32) {r : Int32 × Ob} (h : F8 o x1 x2 = some r) : QTri l Z n0 ad 8 (0, qentry [.ref 0, .int x1, .int x2] (pMaxL 8), [], (H0 o)) (some (Value.int r.1)) (H0 r.2) := by
 unfold F8 at h
 refine zS Ad W 2 (st' := (4, [vR 0, vI x1, vI x2, none], [.int (f_n o)], (H0 o))) rfl ?_
 rcases qite h with ⟨hc51, h⟩ | ⟨hc51, h⟩
 ·refine zT Ad W (t := 9) (f := 7) rfl (XT.i0_eq_t hc51) ?_
  refine zS Ad W 4 (st' := (17, [vR 0, vI x1, vI x2, none], [.int (f_capacity o), .int (f_queries o)], (H0 o))) rfl ?_
  rcases qite h with ⟨hc52, h⟩ | ⟨hc52, h⟩
  ·refine zT Ad W (t := 22) (f := 20) rfl (XT.ii_lt_t hc52) ?_
   refine zS Ad W 2 (st' := (24, [vR 0, vI x1, vI x2, none], [.int (1:Int32), .int x1], (H0 o))) rfl ?_
   rcases qite h with ⟨hc53, h⟩ | ⟨hc53, h⟩
   ·refine zT Ad W (t := 33) (f := 27) rfl (XT.ii_lt_t hc53) ?_
    refine zS Ad W 1 (st' := (34, [vR 0, vI x1, vI x2, none], [.int (-1:Int32)], (H0 o))) rfl ?_
    obtain rfl := Option.some.inj h
    exact QTri.retI rfl rfl
   ·refine zF Ad W (t := 33) (f := 27) rfl (XT.ii_lt_f hc53) ?_
    refine zS Ad W 2 (st' := (30, [vR 0, vI x1, vI x2, none], [.int (32:Int32), .int x1], (H0 o))) rfl ?_
    rcases qite h with ⟨hc54, h⟩ | ⟨hc54, h⟩
    ·refine zF Ad W (t := 35) (f := 33) rfl (XT.ii_le_f hc54) ?_
     refine zS Ad W 1 (st' := (34, [vR 0, vI x1, vI x2, none], [.int (-1:Int32)], (H0 o))) rfl ?_
     obtain rfl := Option.some.inj h
     exact QTri.retI rfl rfl
    ·refine zT Ad W (t := 35) (f := 33) rfl (XT.ii_le_t hc54) ?_
     refine zS Ad W 2 (st' := (37, [vR 0, vI x1, vI x2, none], [.int (1:Int32), .int x2], (H0 o))) rfl ?_
     rcases qite h with ⟨hc55, h⟩ | ⟨hc55, h⟩
     ·refine zT Ad W (t := 46) (f := 40) rfl (XT.ii_lt_t hc55) ?_
      refine zS Ad W 1 (st' := (47, [vR 0, vI x1, vI x2, none], [.int (-1:Int32)], (H0 o))) rfl ?_
      obtain rfl := Option.some.inj h
      exact QTri.retI rfl rfl
     ·refine zF Ad W (t := 46) (f := 40) rfl (XT.ii_lt_f hc55) ?_
      refine zS Ad W 2 (st' := (43, [vR 0, vI x1, vI x2, none], [.int (32:Int32), .int x2], (H0 o))) rfl ?_
      rcases qite h with ⟨hc56, h⟩ | ⟨hc56, h⟩
      ·refine zF Ad W (t := 48) (f := 46) rfl (XT.ii_le_f hc56) ?_
       refine zS Ad W 1 (st' := (47, [vR 0, vI x1, vI x2, none], [.int (-1:Int32)], (H0 o))) rfl ?_
       obtain rfl := Option.some.inj h
       exact QTri.retI rfl rfl
      ·refine zT Ad W (t := 48) (f := 46) rfl (XT.ii_le_t hc56) ?_
       refine zS Ad W 7 (st' := (59, [vR 0, vI x1, vI x2, vI (f_queries o)], [.int x1, .int (f_queries o), .ref 1], (H0 o))) rfl ?_
       obtain ⟨y57, hy57, h⟩ := bind_eq_some_iff.mp h
       refine zB Ad W (f := fun y57 => (60, [vR 0, vI x1, vI x2, vI (f_queries o)], [], (H0x9 o y57))) rfl hy57 ?_
       refine zS Ad W 4 (st' := (66, [vR 0, vI x1, vI x2, vI (f_queries o)], [.int x2, .int (f_queries o), .ref 2], (H0x9 o y57))) rfl ?_
       obtain ⟨y58, hy58, h⟩ := bind_eq_some_iff.mp h
       refine zB Ad W (f := fun y58 => (67, [vR 0, vI x1, vI x2, vI (f_queries o)], [], (H0x10 o y57 y58))) rfl hy58 ?_
       refine zS Ad W 2 (st' := (69, [vR 0, vI x1, vI x2, vI (f_queries o)], [.int (f_queries o), .ref 0], (H0x10 o y57 y58))) rfl ?_
       have E59 : ((H0x10 o y57 y58) : QHeap) = (H0 (s_slide (s_range o y57) y58)) := by simp only [fs, H0, H0v, H0x10, s_range, s_slide]
       rw [E59]
       obtain ⟨r60, hr60, h⟩ := bind_eq_some_iff.mp h
       refine QTri.callP W (a := 0) (as := [.int (f_queries o)]) (rest := []) (w := none) (σ₁ := (H0 r60)) rfl rfl rfl rfl rfl rfl rfl rfl (tF2 Ad W (s_slide (s_range o y57) y58) (f_queries o) hr60) ?_
       refine zS Ad W 6 (st' := (82, [vR 0, vI x1, vI x2, vI (f_queries o)], [], (H0x11 r60 ((f_queries r60) + (1:Int32))))) rfl ?_
       refine zS Ad W 1 (st' := (83, [vR 0, vI x1, vI x2, vI (f_queries o)], [.int (f_queries o)], (H0x11 r60 ((f_queries r60) + (1:Int32))))) rfl ?_
       have E61 : ((H0x11 r60 ((f_queries r60) + (1:Int32))) : QHeap) = (H0 (s_queries r60 ((f_queries r60) + (1:Int32)))) := by simp only [fs, H0, H0v, H0x11, s_queries]
       rw [E61]
       obtain rfl := Option.some.inj h
       exact QTri.retI rfl rfl
  ·refine zF Ad W (t := 22) (f := 20) rfl (XT.ii_lt_f hc52) ?_
   refine zS Ad W 1 (st' := (21, [vR 0, vI x1, vI x2, none], [.int (-1:Int32)], (H0 o))) rfl ?_
   obtain rfl := Option.some.inj h
   exact QTri.retI rfl rfl
 ·refine zF Ad W (t := 9) (f := 7) rfl (XT.i0_eq_f hc51) ?_
  refine zS Ad W 1 (st' := (8, [vR 0, vI x1, vI x2, none], [.int (-1:Int32)], (H0 o))) rfl ?_
  obtain rfl := Option.some.inj h
  exact QTri.retI rfl rfl
def H0x12 (o0 : Ob) (a0_17 : Int32) : QHeap := H0v (f_regTuple o0) (f_regA o0) (f_regB o0) (f_regC o0) (f_regCount o0) (f_slots o0) (f_range o0) (f_slide o0) (f_frontSize o0) (f_backSize o0) (f_backElem o0) (f_frontAgg o0) (f_backAgg o0) (f_snap o0) (f_reg o0) (f_capacity o0) (f_queries o0) a0_17
/-- validSlot(II)Z -/
def F11 (x1 : Int32) (x2 : Int32) : Option (Int32) :=
 (if x1 < (0:Int32) then some (0:Int32) else (if x1 < (4:Int32) then (if x2 < (0:Int32) then some (0:Int32) else (if x2 < (32:Int32) then some (1:Int32) else some (0:Int32))) else some (0:Int32)))
theorem tF11 (Ad : QAd n0 ad) (W : QW Z a0) {a : Nat} {σ : QHeap} (x1 : Int32) (x2 : Int32) {r : Int32} (h : F11 x1 x2 = some r) : QTri l Z n0 ad 11 (0, qentry [.ref a, .int x1, .int x2] (pMaxL 11), [], σ) (some (Value.int r)) σ := by
 unfold F11 at h
 refine zS Ad W 1 (st' := (1, [vR a, vI x1, vI x2], [.int x1], σ)) rfl ?_
 rcases qite h with ⟨hc74, h⟩ | ⟨hc74, h⟩
 ·refine zT Ad W (t := 23) (f := 4) rfl (XT.i0_lt_t hc74) ?_
  refine zS Ad W 1 (st' := (24, [vR a, vI x1, vI x2], [.int (0:Int32)], σ)) rfl ?_
  obtain rfl := Option.some.inj h
  exact QTri.retZ rfl rfl
 ·refine zF Ad W (t := 23) (f := 4) rfl (XT.i0_lt_f hc74) ?_
  refine zS Ad W 2 (st' := (6, [vR a, vI x1, vI x2], [.int (4:Int32), .int x1], σ)) rfl ?_
  rcases qite h with ⟨hc75, h⟩ | ⟨hc75, h⟩
  ·refine zF Ad W (t := 23) (f := 9) rfl (XT.ii_ge_f hc75) ?_
   refine zS Ad W 1 (st' := (10, [vR a, vI x1, vI x2], [.int x2], σ)) rfl ?_
   rcases qite h with ⟨hc76, h⟩ | ⟨hc76, h⟩
   ·refine zT Ad W (t := 23) (f := 13) rfl (XT.i0_lt_t hc76) ?_
    refine zS Ad W 1 (st' := (24, [vR a, vI x1, vI x2], [.int (0:Int32)], σ)) rfl ?_
    obtain rfl := Option.some.inj h
    exact QTri.retZ rfl rfl
   ·refine zF Ad W (t := 23) (f := 13) rfl (XT.i0_lt_f hc76) ?_
    refine zS Ad W 2 (st' := (16, [vR a, vI x1, vI x2], [.int (32:Int32), .int x2], σ)) rfl ?_
    rcases qite h with ⟨hc77, h⟩ | ⟨hc77, h⟩
    ·refine zF Ad W (t := 23) (f := 19) rfl (XT.ii_ge_f hc77) ?_
     refine zS Ad W 2 (st' := (24, [vR a, vI x1, vI x2], [.int (1:Int32)], σ)) rfl ?_
     obtain rfl := Option.some.inj h
     exact QTri.retZ rfl rfl
    ·refine zT Ad W (t := 23) (f := 19) rfl (XT.ii_ge_t hc77) ?_
     refine zS Ad W 1 (st' := (24, [vR a, vI x1, vI x2], [.int (0:Int32)], σ)) rfl ?_
     obtain rfl := Option.some.inj h
     exact QTri.retZ rfl rfl
  ·refine zT Ad W (t := 23) (f := 9) rfl (XT.ii_ge_t hc75) ?_
   refine zS Ad W 1 (st' := (24, [vR a, vI x1, vI x2], [.int (0:Int32)], σ)) rfl ?_
   obtain rfl := Option.some.inj h
   exact QTri.retZ rfl rfl
/-- slotOffset(II)I -/
def F13 (x1 : Int32) (x2 : Int32) : Option (Int32) :=
 some (((x1 * (32:Int32)) + x2) * (4:Int32))
theorem tF13 (Ad : QAd n0 ad) (W : QW Z a0) {a : Nat} {σ : QHeap} (x1 : Int32) (x2 : Int32) {r : Int32} (h : F13 x1 x2 = some r) : QTri l Z n0 ad 13 (0, qentry [.ref a, .int x1, .int x2] (pMaxL 13), [], σ) (some (Value.int r)) σ := by
 unfold F13 at h
 refine zS Ad W 7 (st' := (8, [vR a, vI x1, vI x2], [.int (((x1 * (32:Int32)) + x2) * (4:Int32))], σ)) rfl ?_
 obtain rfl := Option.some.inj h
 exact QTri.retI rfl rfl
def H0x13 (o0 : Ob) (a0_10 : List Int32) : QHeap := H0v (f_regTuple o0) (f_regA o0) (f_regB o0) (f_regC o0) (f_regCount o0) (f_slots o0) (f_range o0) (f_slide o0) (f_frontSize o0) (f_backSize o0) a0_10 (f_frontAgg o0) (f_backAgg o0) (f_snap o0) (f_reg o0) (f_capacity o0) (f_queries o0) (f_n o0)
def B12_34 (x4 : Int32) (x5 : Int32) (v : Int32 × Ob) : Option (((Ob)) ⊕ (Int32 × Ob)) :=
  (if v.1 < (4 : Int32) then (aget (f_reg v.2) (x5 + v.1)).bind fun y86 => (aset (f_backElem v.2) (x4 + v.1) y86).bind fun y87 => some (.inr ((v.1 + (1 : Int32)), (s_backElem v.2 y87))) else some (.inl v.2))
theorem tB12_34 (Ad : QAd n0 ad) (W : QW Z a0) (x4 : Int32) (x5 : Int32) (v : Int32 × Ob) {r : ((Ob)) ⊕ (Int32 × Ob)} {u : Option Value} {τ : QHeap} (h : B12_34 x4 x5 v = some r) (hx0 : ∀ x : Ob, r = .inl x → u = (none : Option Value) ∧ τ = (H0 x)) (hc : ∀ x : Int32 × Ob, r = .inr x → QTri l Z n0 ad 12 (34, [vR 0, none, none, none, vI x4, vI x5, vI x.1], [], (H0 x.2)) u τ) : QTri l Z n0 ad 12 (34, [vR 0, none, none, none, vI x4, vI x5, vI v.1], [], (H0 v.2)) u τ := by
 unfold B12_34 at h
 refine zS Ad W 2 (st' := (37, [vR 0, none, none, none, vI x4, vI x5, vI v.1], [.int (4:Int32), .int v.1], (H0 v.2))) rfl ?_
 rcases qite h with ⟨hc85, h⟩ | ⟨hc85, h⟩
 ·refine zF Ad W (t := 66) (f := 40) rfl (XT.ii_ge_f hc85) ?_
  refine zS Ad W 10 (st' := (58, [vR 0, none, none, none, vI x4, vI x5, vI v.1], [.int (x5 + v.1), .ref 9, .int (x4 + v.1), .ref 5], (H0 v.2))) rfl ?_
  obtain ⟨y86, hy86, h⟩ := bind_eq_some_iff.mp h
  refine zB Ad W (f := fun y86 => (59, [vR 0, none, none, none, vI x4, vI x5, vI v.1], [.int y86, .int (x4 + v.1), .ref 5], (H0 v.2))) rfl hy86 ?_
  obtain ⟨y87, hy87, h⟩ := bind_eq_some_iff.mp h
  refine zB Ad W (f := fun y87 => (60, [vR 0, none, none, none, vI x4, vI x5, vI v.1], [], (H0x13 v.2 y87))) rfl hy87 ?_
  refine zS Ad W 2 (st' := (34, [vR 0, none, none, none, vI x4, vI x5, vI (v.1 + (1:Int32))], [], (H0x13 v.2 y87))) rfl ?_
  have E88 : ((H0x13 v.2 y87) : QHeap) = (H0 (s_backElem v.2 y87)) := by simp only [fs, H0, H0v, H0x13, s_backElem]
  rw [E88]
  obtain rfl := Option.some.inj h
  exact zM [tt,ff,ff,ff,tt,tt,tt] (hc ((v.1 + (1:Int32)), (s_backElem v.2 y87)) rfl)
 ·refine zT Ad W (t := 66) (f := 40) rfl (XT.ii_ge_t hc85) ?_
  obtain rfl := Option.some.inj h
  obtain ⟨rfl, rfl⟩ := hx0 v.2 rfl
  exact QTri.ret0 rfl rfl
/-- storeBack(III)V -/
def F12 (o : Ob) (x1 : Int32) (x2 : Int32) (x3 : Int32) : Option (Ob) :=
 (F5 x3).bind fun r80 => (if r80 = (0:Int32) then some o else (F11 x1 x2).bind fun r82 => (if r82 = (0:Int32) then some o else (F13 x1 x2).bind fun r84 => (loopN (B12_34 r84 (x3 * (4:Int32))) qN ((0:Int32), o)).bind fun e89 => some e89))
theorem tF12 (Ad : QAd n0 ad) (W : QW Z a0) (o : Ob) (x1 : Int32) (x2 : Int32) (x3 : Int32) {r : Ob} (h : F12 o x1 x2 x3 = some r) : QTri l Z n0 ad 12 (0, qentry [.ref 0, .int x1, .int x2, .int x3] (pMaxL 12), [], (H0 o)) (none : Option Value) (H0 r) := by
 unfold F12 at h
 refine zS Ad W 2 (st' := (2, [vR 0, vI x1, vI x2, vI x3, none, none, none], [.int x3, .ref 0], (H0 o))) rfl ?_
 obtain ⟨r80, hr80, h⟩ := bind_eq_some_iff.mp h
 refine QTri.callP W (a := 0) (as := [.int x3]) (rest := []) (w := (some (.int r80))) (σ₁ := (H0 o)) rfl rfl rfl rfl rfl rfl rfl rfl (tF5 Ad W x3 hr80) ?_
 rcases qite h with ⟨hc81, h⟩ | ⟨hc81, h⟩
 ·refine zT Ad W (t := 17) (f := 8) rfl (XT.i0_eq_t hc81) ?_
  obtain rfl := Option.some.inj h
  exact QTri.ret0 rfl rfl
 ·refine zF Ad W (t := 17) (f := 8) rfl (XT.i0_eq_f hc81) ?_
  refine zS Ad W 3 (st' := (11, [vR 0, vI x1, vI x2, vI x3, none, none, none], [.int x2, .int x1, .ref 0], (H0 o))) rfl ?_
  obtain ⟨r82, hr82, h⟩ := bind_eq_some_iff.mp h
  refine QTri.callP W (a := 0) (as := [.int x1, .int x2]) (rest := []) (w := (some (.int r82))) (σ₁ := (H0 o)) rfl rfl rfl rfl rfl rfl rfl rfl (tF11 Ad W x1 x2 hr82) ?_
  rcases qite h with ⟨hc83, h⟩ | ⟨hc83, h⟩
  ·refine zF Ad W (t := 18) (f := 17) rfl (XT.i0_ne_f hc83) ?_
   obtain rfl := Option.some.inj h
   exact QTri.ret0 rfl rfl
  ·refine zT Ad W (t := 18) (f := 17) rfl (XT.i0_ne_t hc83) ?_
   refine zS Ad W 3 (st' := (21, [vR 0, vI x1, vI x2, vI x3, none, none, none], [.int x2, .int x1, .ref 0], (H0 o))) rfl ?_
   obtain ⟨r84, hr84, h⟩ := bind_eq_some_iff.mp h
   refine QTri.callP W (a := 0) (as := [.int x1, .int x2]) (rest := []) (w := (some (.int r84))) (σ₁ := (H0 o)) rfl rfl rfl rfl rfl rfl rfl rfl (tF13 Ad W x1 x2 hr84) ?_
   refine zS Ad W 5 (st' := (31, [vR 0, vI x1, vI x2, vI x3, vI r84, vI (x3 * (4:Int32)), none], [], (H0 o))) rfl ?_
   refine zS Ad W 2 (st' := (34, [vR 0, vI x1, vI x2, vI x3, vI r84, vI (x3 * (4:Int32)), vI (0:Int32)], [], (H0 o))) rfl ?_
   obtain ⟨e89, he89, h⟩ := bind_eq_some_iff.mp h
   refine zM [tt,ff,ff,ff,tt,tt,tt] (loopN_tri (B := B12_34 r84 (x3 * (4:Int32))) (T := fun lv90 => QTri l Z n0 ad 12 (34, [vR 0, none, none, none, vI r84, vI (x3 * (4:Int32)), vI lv90.1], [], (H0 lv90.2)) (none : Option Value) (H0 r)) (KE := fun e89a => (none : Option Value) = (none : Option Value) ∧ (H0 r) = (H0 e89a)) (fun lv90 r hB hE hC => tB12_34 Ad W r84 (x3 * (4:Int32)) lv90 hB (fun x q => hE _ q) (fun x q => hC x q)) qN ((0:Int32), o) e89 he89 ?_)
   obtain rfl := Option.some.inj h
   exact ⟨rfl, rfl⟩
def B14_25 (x2 : Int32) (x3 : Int32) (v : Int32 × Ob) : Option (((Ob)) ⊕ (Int32 × Ob)) :=
  (if v.1 < (4 : Int32) then (aget (f_backAgg v.2) ((x2 * (4 : Int32)) + v.1)).bind fun y97 => (aset (f_reg v.2) (x3 + v.1) y97).bind fun y98 => some (.inr ((v.1 + (1 : Int32)), (s_reg v.2 y98))) else some (.inl v.2))
theorem tB14_25 (Ad : QAd n0 ad) (W : QW Z a0) (x2 : Int32) (x3 : Int32) (v : Int32 × Ob) {r : ((Ob)) ⊕ (Int32 × Ob)} {u : Option Value} {τ : QHeap} (h : B14_25 x2 x3 v = some r) (hx0 : ∀ x : Ob, r = .inl x → u = (none : Option Value) ∧ τ = (H0 x)) (hc : ∀ x : Int32 × Ob, r = .inr x → QTri l Z n0 ad 14 (25, [vR 0, none, vI x2, vI x3, vI x.1], [], (H0 x.2)) u τ) : QTri l Z n0 ad 14 (25, [vR 0, none, vI x2, vI x3, vI v.1], [], (H0 v.2)) u τ := by
 unfold B14_25 at h
 refine zS Ad W 2 (st' := (28, [vR 0, none, vI x2, vI x3, vI v.1], [.int (4:Int32), .int v.1], (H0 v.2))) rfl ?_
 rcases qite h with ⟨hc96, h⟩ | ⟨hc96, h⟩
 ·refine zF Ad W (t := 57) (f := 31) rfl (XT.ii_ge_f hc96) ?_
  refine zS Ad W 12 (st' := (49, [vR 0, none, vI x2, vI x3, vI v.1], [.int ((x2 * (4:Int32)) + v.1), .ref 7, .int (x3 + v.1), .ref 9], (H0 v.2))) rfl ?_
  obtain ⟨y97, hy97, h⟩ := bind_eq_some_iff.mp h
  refine zB Ad W (f := fun y97 => (50, [vR 0, none, vI x2, vI x3, vI v.1], [.int y97, .int (x3 + v.1), .ref 9], (H0 v.2))) rfl hy97 ?_
  obtain ⟨y98, hy98, h⟩ := bind_eq_some_iff.mp h
  refine zB Ad W (f := fun y98 => (51, [vR 0, none, vI x2, vI x3, vI v.1], [], (H0x6 v.2 y98))) rfl hy98 ?_
  refine zS Ad W 2 (st' := (25, [vR 0, none, vI x2, vI x3, vI (v.1 + (1:Int32))], [], (H0x6 v.2 y98))) rfl ?_
  have E99 : ((H0x6 v.2 y98) : QHeap) = (H0 (s_reg v.2 y98)) := by simp only [fs, H0, H0v, H0x6, s_reg]
  rw [E99]
  obtain rfl := Option.some.inj h
  exact zM [tt,ff,tt,tt,tt] (hc ((v.1 + (1:Int32)), (s_reg v.2 y98)) rfl)
 ·refine zT Ad W (t := 57) (f := 31) rfl (XT.ii_ge_t hc96) ?_
  obtain rfl := Option.some.inj h
  obtain ⟨rfl, rfl⟩ := hx0 v.2 rfl
  exact QTri.ret0 rfl rfl
/-- loadBackAgg(II)V -/
def F14 (o : Ob) (x1 : Int32) (x2 : Int32) : Option (Ob) :=
 (F5 x1).bind fun r92 => (if r92 = (0:Int32) then some o else (if x2 < (0:Int32) then some o else (if x2 < (4:Int32) then (loopN (B14_25 x2 (x1 * (4:Int32))) qN ((0:Int32), o)).bind fun e100 => some e100 else some o)))
theorem tF14 (Ad : QAd n0 ad) (W : QW Z a0) (o : Ob) (x1 : Int32) (x2 : Int32) {r : Ob} (h : F14 o x1 x2 = some r) : QTri l Z n0 ad 14 (0, qentry [.ref 0, .int x1, .int x2] (pMaxL 14), [], (H0 o)) (none : Option Value) (H0 r) := by
 unfold F14 at h
 refine zS Ad W 2 (st' := (2, [vR 0, vI x1, vI x2, none, none], [.int x1, .ref 0], (H0 o))) rfl ?_
 obtain ⟨r92, hr92, h⟩ := bind_eq_some_iff.mp h
 refine QTri.callP W (a := 0) (as := [.int x1]) (rest := []) (w := (some (.int r92))) (σ₁ := (H0 o)) rfl rfl rfl rfl rfl rfl rfl rfl (tF5 Ad W x1 hr92) ?_
 rcases qite h with ⟨hc93, h⟩ | ⟨hc93, h⟩
 ·refine zT Ad W (t := 17) (f := 8) rfl (XT.i0_eq_t hc93) ?_
  obtain rfl := Option.some.inj h
  exact QTri.ret0 rfl rfl
 ·refine zF Ad W (t := 17) (f := 8) rfl (XT.i0_eq_f hc93) ?_
  refine zS Ad W 1 (st' := (9, [vR 0, vI x1, vI x2, none, none], [.int x2], (H0 o))) rfl ?_
  rcases qite h with ⟨hc94, h⟩ | ⟨hc94, h⟩
  ·refine zT Ad W (t := 17) (f := 12) rfl (XT.i0_lt_t hc94) ?_
   obtain rfl := Option.some.inj h
   exact QTri.ret0 rfl rfl
  ·refine zF Ad W (t := 17) (f := 12) rfl (XT.i0_lt_f hc94) ?_
   refine zS Ad W 2 (st' := (14, [vR 0, vI x1, vI x2, none, none], [.int (4:Int32), .int x2], (H0 o))) rfl ?_
   rcases qite h with ⟨hc95, h⟩ | ⟨hc95, h⟩
   ·refine zT Ad W (t := 18) (f := 17) rfl (XT.ii_lt_t hc95) ?_
    refine zS Ad W 6 (st' := (25, [vR 0, vI x1, vI x2, vI (x1 * (4:Int32)), vI (0:Int32)], [], (H0 o))) rfl ?_
    obtain ⟨e100, he100, h⟩ := bind_eq_some_iff.mp h
    refine zM [tt,ff,tt,tt,tt] (loopN_tri (B := B14_25 x2 (x1 * (4:Int32))) (T := fun lv101 => QTri l Z n0 ad 14 (25, [vR 0, none, vI x2, vI (x1 * (4:Int32)), vI lv101.1], [], (H0 lv101.2)) (none : Option Value) (H0 r)) (KE := fun e100a => (none : Option Value) = (none : Option Value) ∧ (H0 r) = (H0 e100a)) (fun lv101 r hB hE hC => tB14_25 Ad W x2 (x1 * (4:Int32)) lv101 hB (fun x q => hE _ q) (fun x q => hC x q)) qN ((0:Int32), o) e100 he100 ?_)
    obtain rfl := Option.some.inj h
    exact ⟨rfl, rfl⟩
   ·refine zF Ad W (t := 18) (f := 17) rfl (XT.ii_lt_f hc95) ?_
    obtain rfl := Option.some.inj h
    exact QTri.ret0 rfl rfl
/-- regMul(III)V -/
def F15 (o : Ob) (x1 : Int32) (x2 : Int32) (x3 : Int32) : Option (Ob) :=
 (F5 x1).bind fun r103 => (if r103 = (0:Int32) then some o else (F5 x2).bind fun r105 => (if r105 = (0:Int32) then some o else (F5 x3).bind fun r107 => (if r107 = (0:Int32) then some o else (aget (f_reg o) (x2 * (4:Int32))).bind fun y109 => (aget (f_reg o) ((x2 * (4:Int32)) + (1:Int32))).bind fun y110 => (aget (f_reg o) ((x2 * (4:Int32)) + (2:Int32))).bind fun y111 => (aget (f_reg o) ((x2 * (4:Int32)) + (3:Int32))).bind fun y112 => (aget (f_reg o) (x3 * (4:Int32))).bind fun y113 => (aget (f_reg o) ((x3 * (4:Int32)) + (1:Int32))).bind fun y114 => (aget (f_reg o) ((x3 * (4:Int32)) + (2:Int32))).bind fun y115 => (aget (f_reg o) ((x3 * (4:Int32)) + (3:Int32))).bind fun y116 => (aset (f_reg o) (x1 * (4:Int32)) ((y109 * y113) + (y110 * y115))).bind fun y117 => (aset y117 ((x1 * (4:Int32)) + (1:Int32)) ((y109 * y114) + (y110 * y116))).bind fun y118 => (aset y118 ((x1 * (4:Int32)) + (2:Int32)) ((y111 * y113) + (y112 * y115))).bind fun y119 => (aset y119 ((x1 * (4:Int32)) + (3:Int32)) ((y111 * y114) + (y112 * y116))).bind fun y120 => some (s_reg o y120))))
theorem tF15 (Ad : QAd n0 ad) (W : QW Z a0) (o : Ob) (x1 : Int32) (x2 : Int32) (x3 : Int32) {r : Ob} (h : F15 o x1 x2 x3 = some r) : QTri l Z n0 ad 15 (0, qentry [.ref 0, .int x1, .int x2, .int x3] (pMaxL 15), [], (H0 o)) (none : Option Value) (H0 r) := by
 unfold F15 at h
 refine zS Ad W 2 (st' := (2, [vR 0, vI x1, vI x2, vI x3, none, none, none, none, none, none, none, none, none, none, none], [.int x1, .ref 0], (H0 o))) rfl ?_
 obtain ⟨r103, hr103, h⟩ := bind_eq_some_iff.mp h
 refine QTri.callP W (a := 0) (as := [.int x1]) (rest := []) (w := (some (.int r103))) (σ₁ := (H0 o)) rfl rfl rfl rfl rfl rfl rfl rfl (tF5 Ad W x1 hr103) ?_
 rcases qite h with ⟨hc104, h⟩ | ⟨hc104, h⟩
 ·refine zT Ad W (t := 24) (f := 8) rfl (XT.i0_eq_t hc104) ?_
  obtain rfl := Option.some.inj h
  exact QTri.ret0 rfl rfl
 ·refine zF Ad W (t := 24) (f := 8) rfl (XT.i0_eq_f hc104) ?_
  refine zS Ad W 2 (st' := (10, [vR 0, vI x1, vI x2, vI x3, none, none, none, none, none, none, none, none, none, none, none], [.int x2, .ref 0], (H0 o))) rfl ?_
  obtain ⟨r105, hr105, h⟩ := bind_eq_some_iff.mp h
  refine QTri.callP W (a := 0) (as := [.int x2]) (rest := []) (w := (some (.int r105))) (σ₁ := (H0 o)) rfl rfl rfl rfl rfl rfl rfl rfl (tF5 Ad W x2 hr105) ?_
  rcases qite h with ⟨hc106, h⟩ | ⟨hc106, h⟩
  ·refine zT Ad W (t := 24) (f := 16) rfl (XT.i0_eq_t hc106) ?_
   obtain rfl := Option.some.inj h
   exact QTri.ret0 rfl rfl
  ·refine zF Ad W (t := 24) (f := 16) rfl (XT.i0_eq_f hc106) ?_
   refine zS Ad W 2 (st' := (18, [vR 0, vI x1, vI x2, vI x3, none, none, none, none, none, none, none, none, none, none, none], [.int x3, .ref 0], (H0 o))) rfl ?_
   obtain ⟨r107, hr107, h⟩ := bind_eq_some_iff.mp h
   refine QTri.callP W (a := 0) (as := [.int x3]) (rest := []) (w := (some (.int r107))) (σ₁ := (H0 o)) rfl rfl rfl rfl rfl rfl rfl rfl (tF5 Ad W x3 hr107) ?_
   rcases qite h with ⟨hc108, h⟩ | ⟨hc108, h⟩
   ·refine zF Ad W (t := 25) (f := 24) rfl (XT.i0_ne_f hc108) ?_
    obtain rfl := Option.some.inj h
    exact QTri.ret0 rfl rfl
   ·refine zT Ad W (t := 25) (f := 24) rfl (XT.i0_ne_t hc108) ?_
    refine zS Ad W 8 (st' := (35, [vR 0, vI x1, vI x2, vI x3, vI (x2 * (4:Int32)), vI (x3 * (4:Int32)), none, none, none, none, none, none, none, none, none], [], (H0 o))) rfl ?_
    refine zS Ad W 3 (st' := (41, [vR 0, vI x1, vI x2, vI x3, vI (x2 * (4:Int32)), vI (x3 * (4:Int32)), none, none, none, none, none, none, none, none, none], [.int (x2 * (4:Int32)), .ref 9], (H0 o))) rfl ?_
    obtain ⟨y109, hy109, h⟩ := bind_eq_some_iff.mp h
    refine zB Ad W (f := fun y109 => (42, [vR 0, vI x1, vI x2, vI x3, vI (x2 * (4:Int32)), vI (x3 * (4:Int32)), none, none, none, none, none, none, none, none, none], [.int y109], (H0 o))) rfl hy109 ?_
    refine zS Ad W 6 (st' := (52, [vR 0, vI x1, vI x2, vI x3, vI (x2 * (4:Int32)), vI (x3 * (4:Int32)), vI y109, none, none, none, none, none, none, none, none], [.int ((x2 * (4:Int32)) + (1:Int32)), .ref 9], (H0 o))) rfl ?_
    obtain ⟨y110, hy110, h⟩ := bind_eq_some_iff.mp h
    refine zB Ad W (f := fun y110 => (53, [vR 0, vI x1, vI x2, vI x3, vI (x2 * (4:Int32)), vI (x3 * (4:Int32)), vI y109, none, none, none, none, none, none, none, none], [.int y110], (H0 o))) rfl hy110 ?_
    refine zS Ad W 6 (st' := (63, [vR 0, vI x1, vI x2, vI x3, vI (x2 * (4:Int32)), vI (x3 * (4:Int32)), vI y109, vI y110, none, none, none, none, none, none, none], [.int ((x2 * (4:Int32)) + (2:Int32)), .ref 9], (H0 o))) rfl ?_
    obtain ⟨y111, hy111, h⟩ := bind_eq_some_iff.mp h
    refine zB Ad W (f := fun y111 => (64, [vR 0, vI x1, vI x2, vI x3, vI (x2 * (4:Int32)), vI (x3 * (4:Int32)), vI y109, vI y110, none, none, none, none, none, none, none], [.int y111], (H0 o))) rfl hy111 ?_
    refine zS Ad W 6 (st' := (74, [vR 0, vI x1, vI x2, vI x3, vI (x2 * (4:Int32)), vI (x3 * (4:Int32)), vI y109, vI y110, vI y111, none, none, none, none, none, none], [.int ((x2 * (4:Int32)) + (3:Int32)), .ref 9], (H0 o))) rfl ?_
    obtain ⟨y112, hy112, h⟩ := bind_eq_some_iff.mp h
    refine zB Ad W (f := fun y112 => (75, [vR 0, vI x1, vI x2, vI x3, vI (x2 * (4:Int32)), vI (x3 * (4:Int32)), vI y109, vI y110, vI y111, none, none, none, none, none, none], [.int y112], (H0 o))) rfl hy112 ?_
    refine zS Ad W 4 (st' := (83, [vR 0, vI x1, vI x2, vI x3, vI (x2 * (4:Int32)), vI (x3 * (4:Int32)), vI y109, vI y110, vI y111, vI y112, none, none, none, none, none], [.int (x3 * (4:Int32)), .ref 9], (H0 o))) rfl ?_
    obtain ⟨y113, hy113, h⟩ := bind_eq_some_iff.mp h
    refine zB Ad W (f := fun y113 => (84, [vR 0, vI x1, vI x2, vI x3, vI (x2 * (4:Int32)), vI (x3 * (4:Int32)), vI y109, vI y110, vI y111, vI y112, none, none, none, none, none], [.int y113], (H0 o))) rfl hy113 ?_
    refine zS Ad W 6 (st' := (94, [vR 0, vI x1, vI x2, vI x3, vI (x2 * (4:Int32)), vI (x3 * (4:Int32)), vI y109, vI y110, vI y111, vI y112, vI y113, none, none, none, none], [.int ((x3 * (4:Int32)) + (1:Int32)), .ref 9], (H0 o))) rfl ?_
    obtain ⟨y114, hy114, h⟩ := bind_eq_some_iff.mp h
    refine zB Ad W (f := fun y114 => (95, [vR 0, vI x1, vI x2, vI x3, vI (x2 * (4:Int32)), vI (x3 * (4:Int32)), vI y109, vI y110, vI y111, vI y112, vI y113, none, none, none, none], [.int y114], (H0 o))) rfl hy114 ?_
    refine zS Ad W 6 (st' := (105, [vR 0, vI x1, vI x2, vI x3, vI (x2 * (4:Int32)), vI (x3 * (4:Int32)), vI y109, vI y110, vI y111, vI y112, vI y113, vI y114, none, none, none], [.int ((x3 * (4:Int32)) + (2:Int32)), .ref 9], (H0 o))) rfl ?_
    obtain ⟨y115, hy115, h⟩ := bind_eq_some_iff.mp h
    refine zB Ad W (f := fun y115 => (106, [vR 0, vI x1, vI x2, vI x3, vI (x2 * (4:Int32)), vI (x3 * (4:Int32)), vI y109, vI y110, vI y111, vI y112, vI y113, vI y114, none, none, none], [.int y115], (H0 o))) rfl hy115 ?_
    refine zS Ad W 6 (st' := (116, [vR 0, vI x1, vI x2, vI x3, vI (x2 * (4:Int32)), vI (x3 * (4:Int32)), vI y109, vI y110, vI y111, vI y112, vI y113, vI y114, vI y115, none, none], [.int ((x3 * (4:Int32)) + (3:Int32)), .ref 9], (H0 o))) rfl ?_
    obtain ⟨y116, hy116, h⟩ := bind_eq_some_iff.mp h
    refine zB Ad W (f := fun y116 => (117, [vR 0, vI x1, vI x2, vI x3, vI (x2 * (4:Int32)), vI (x3 * (4:Int32)), vI y109, vI y110, vI y111, vI y112, vI y113, vI y114, vI y115, none, none], [.int y116], (H0 o))) rfl hy116 ?_
    refine zS Ad W 5 (st' := (124, [vR 0, vI x1, vI x2, vI x3, vI (x2 * (4:Int32)), vI (x3 * (4:Int32)), vI y109, vI y110, vI y111, vI y112, vI y113, vI y114, vI y115, vI y116, vI (x1 * (4:Int32))], [], (H0 o))) rfl ?_
    refine zS Ad W 10 (st' := (141, [vR 0, vI x1, vI x2, vI x3, vI (x2 * (4:Int32)), vI (x3 * (4:Int32)), vI y109, vI y110, vI y111, vI y112, vI y113, vI y114, vI y115, vI y116, vI (x1 * (4:Int32))], [.int ((y109 * y113) + (y110 * y115)), .int (x1 * (4:Int32)), .ref 9], (H0 o))) rfl ?_
    obtain ⟨y117, hy117, h⟩ := bind_eq_some_iff.mp h
    refine zB Ad W (f := fun y117 => (142, [vR 0, vI x1, vI x2, vI x3, vI (x2 * (4:Int32)), vI (x3 * (4:Int32)), vI y109, vI y110, vI y111, vI y112, vI y113, vI y114, vI y115, vI y116, vI (x1 * (4:Int32))], [], (H0x6 o y117))) rfl hy117 ?_
    refine zS Ad W 12 (st' := (161, [vR 0, vI x1, vI x2, vI x3, vI (x2 * (4:Int32)), vI (x3 * (4:Int32)), vI y109, vI y110, vI y111, vI y112, vI y113, vI y114, vI y115, vI y116, vI (x1 * (4:Int32))], [.int ((y109 * y114) + (y110 * y116)), .int ((x1 * (4:Int32)) + (1:Int32)), .ref 9], (H0x6 o y117))) rfl ?_
    obtain ⟨y118, hy118, h⟩ := bind_eq_some_iff.mp h
    refine zB Ad W (f := fun y118 => (162, [vR 0, vI x1, vI x2, vI x3, vI (x2 * (4:Int32)), vI (x3 * (4:Int32)), vI y109, vI y110, vI y111, vI y112, vI y113, vI y114, vI y115, vI y116, vI (x1 * (4:Int32))], [], (H0x6 o y118))) rfl hy118 ?_
    refine zS Ad W 12 (st' := (181, [vR 0, vI x1, vI x2, vI x3, vI (x2 * (4:Int32)), vI (x3 * (4:Int32)), vI y109, vI y110, vI y111, vI y112, vI y113, vI y114, vI y115, vI y116, vI (x1 * (4:Int32))], [.int ((y111 * y113) + (y112 * y115)), .int ((x1 * (4:Int32)) + (2:Int32)), .ref 9], (H0x6 o y118))) rfl ?_
    obtain ⟨y119, hy119, h⟩ := bind_eq_some_iff.mp h
    refine zB Ad W (f := fun y119 => (182, [vR 0, vI x1, vI x2, vI x3, vI (x2 * (4:Int32)), vI (x3 * (4:Int32)), vI y109, vI y110, vI y111, vI y112, vI y113, vI y114, vI y115, vI y116, vI (x1 * (4:Int32))], [], (H0x6 o y119))) rfl hy119 ?_
    refine zS Ad W 12 (st' := (201, [vR 0, vI x1, vI x2, vI x3, vI (x2 * (4:Int32)), vI (x3 * (4:Int32)), vI y109, vI y110, vI y111, vI y112, vI y113, vI y114, vI y115, vI y116, vI (x1 * (4:Int32))], [.int ((y111 * y114) + (y112 * y116)), .int ((x1 * (4:Int32)) + (3:Int32)), .ref 9], (H0x6 o y119))) rfl ?_
    obtain ⟨y120, hy120, h⟩ := bind_eq_some_iff.mp h
    refine zB Ad W (f := fun y120 => (202, [vR 0, vI x1, vI x2, vI x3, vI (x2 * (4:Int32)), vI (x3 * (4:Int32)), vI y109, vI y110, vI y111, vI y112, vI y113, vI y114, vI y115, vI y116, vI (x1 * (4:Int32))], [], (H0x6 o y120))) rfl hy120 ?_
    have E121 : ((H0x6 o y120) : QHeap) = (H0 (s_reg o y120)) := by simp only [fs, H0, H0v, H0x6, s_reg]
    rw [E121]
    obtain rfl := Option.some.inj h
    exact QTri.ret0 rfl rfl
def H0x14 (o0 : Ob) (a0_9 : List Int32) : QHeap := H0v (f_regTuple o0) (f_regA o0) (f_regB o0) (f_regC o0) (f_regCount o0) (f_slots o0) (f_range o0) (f_slide o0) (f_frontSize o0) a0_9 (f_backElem o0) (f_frontAgg o0) (f_backAgg o0) (f_snap o0) (f_reg o0) (f_capacity o0) (f_queries o0) (f_n o0)
def J10_39 (o : Ob) (x1 : Int32) : Option (Ob) :=
  (aget (f_backSize o) x1).bind fun y73 => (F11 x1 y73).bind fun r78 => (if r78 = (0 : Int32) then some o else (F12 o x1 y73 (0 : Int32)).bind fun r91 => (F14 r91 (1 : Int32) x1).bind fun r102 => (F15 r102 (1 : Int32) (1 : Int32) (0 : Int32)).bind fun r122 => (F6 r122 x1 (1 : Int32)).bind fun r123 => (aset (f_backSize r123) x1 (y73 + (1 : Int32))).bind fun y124 => some (s_backSize r123 y124))
theorem tJ10_39 (Ad : QAd n0 ad) (W : QW Z a0) (o : Ob) (x1 : Int32) {r : Ob} (h : J10_39 o x1 = some r) : QTri l Z n0 ad 10 (39, [vR 0, vI x1, none, none], [], (H0 o)) (none : Option Value) (H0 r) := by
 unfold J10_39 at h
 refine zS Ad W 3 (st' := (44, [vR 0, vI x1, none, none], [.int x1, .ref 4], (H0 o))) rfl ?_
 obtain ⟨y73, hy73, h⟩ := bind_eq_some_iff.mp h
 refine zB Ad W (f := fun y73 => (45, [vR 0, vI x1, none, none], [.int y73], (H0 o))) rfl hy73 ?_
 refine zS Ad W 4 (st' := (49, [vR 0, vI x1, none, vI y73], [.int y73, .int x1, .ref 0], (H0 o))) rfl ?_
 obtain ⟨r78, hr78, h⟩ := bind_eq_some_iff.mp h
 refine QTri.callP W (a := 0) (as := [.int x1, .int y73]) (rest := []) (w := (some (.int r78))) (σ₁ := (H0 o)) rfl rfl rfl rfl rfl rfl rfl rfl (tF11 Ad W x1 y73 hr78) ?_
 rcases qite h with ⟨hc79, h⟩ | ⟨hc79, h⟩
 ·refine zF Ad W (t := 56) (f := 55) rfl (XT.i0_ne_f hc79) ?_
  obtain rfl := Option.some.inj h
  exact QTri.ret0 rfl rfl
 ·refine zT Ad W (t := 56) (f := 55) rfl (XT.i0_ne_t hc79) ?_
  refine zS Ad W 4 (st' := (60, [vR 0, vI x1, none, vI y73], [.int (0:Int32), .int y73, .int x1, .ref 0], (H0 o))) rfl ?_
  obtain ⟨r91, hr91, h⟩ := bind_eq_some_iff.mp h
  refine QTri.callP W (a := 0) (as := [.int x1, .int y73, .int (0:Int32)]) (rest := []) (w := none) (σ₁ := (H0 r91)) rfl rfl rfl rfl rfl rfl rfl rfl (tF12 Ad W o x1 y73 (0:Int32) hr91) ?_
  refine zS Ad W 3 (st' := (66, [vR 0, vI x1, none, vI y73], [.int x1, .int (1:Int32), .ref 0], (H0 r91))) rfl ?_
  obtain ⟨r102, hr102, h⟩ := bind_eq_some_iff.mp h
  refine QTri.callP W (a := 0) (as := [.int (1:Int32), .int x1]) (rest := []) (w := none) (σ₁ := (H0 r102)) rfl rfl rfl rfl rfl rfl rfl rfl (tF14 Ad W r91 (1:Int32) x1 hr102) ?_
  refine zS Ad W 4 (st' := (73, [vR 0, vI x1, none, vI y73], [.int (0:Int32), .int (1:Int32), .int (1:Int32), .ref 0], (H0 r102))) rfl ?_
  obtain ⟨r122, hr122, h⟩ := bind_eq_some_iff.mp h
  refine QTri.callP W (a := 0) (as := [.int (1:Int32), .int (1:Int32), .int (0:Int32)]) (rest := []) (w := none) (σ₁ := (H0 r122)) rfl rfl rfl rfl rfl rfl rfl rfl (tF15 Ad W r102 (1:Int32) (1:Int32) (0:Int32) hr122) ?_
  refine zS Ad W 3 (st' := (79, [vR 0, vI x1, none, vI y73], [.int (1:Int32), .int x1, .ref 0], (H0 r122))) rfl ?_
  obtain ⟨r123, hr123, h⟩ := bind_eq_some_iff.mp h
  refine QTri.callP W (a := 0) (as := [.int x1, .int (1:Int32)]) (rest := []) (w := none) (σ₁ := (H0 r123)) rfl rfl rfl rfl rfl rfl rfl rfl (tF6 Ad W r122 x1 (1:Int32) hr123) ?_
  refine zS Ad W 6 (st' := (90, [vR 0, vI x1, none, vI y73], [.int (y73 + (1:Int32)), .int x1, .ref 4], (H0 r123))) rfl ?_
  obtain ⟨y124, hy124, h⟩ := bind_eq_some_iff.mp h
  refine zB Ad W (f := fun y124 => (91, [vR 0, vI x1, none, vI y73], [], (H0x14 r123 y124))) rfl hy124 ?_
  have E125 : ((H0x14 r123 y124) : QHeap) = (H0 (s_backSize r123 y124)) := by simp only [fs, H0, H0v, H0x14, s_backSize]
  rw [E125]
  obtain rfl := Option.some.inj h
  exact QTri.ret0 rfl rfl
def B20_34 (x4 : Int32) (x5 : Int32) (v : Int32 × Ob) : Option (((Ob)) ⊕ (Int32 × Ob)) :=
  (if v.1 < (4 : Int32) then (aget (f_backElem v.2) (x4 + v.1)).bind fun y140 => (aset (f_reg v.2) (x5 + v.1) y140).bind fun y141 => some (.inr ((v.1 + (1 : Int32)), (s_reg v.2 y141))) else some (.inl v.2))
theorem tB20_34 (Ad : QAd n0 ad) (W : QW Z a0) (x4 : Int32) (x5 : Int32) (v : Int32 × Ob) {r : ((Ob)) ⊕ (Int32 × Ob)} {u : Option Value} {τ : QHeap} (h : B20_34 x4 x5 v = some r) (hx0 : ∀ x : Ob, r = .inl x → u = (none : Option Value) ∧ τ = (H0 x)) (hc : ∀ x : Int32 × Ob, r = .inr x → QTri l Z n0 ad 20 (34, [vR 0, none, none, none, vI x4, vI x5, vI x.1], [], (H0 x.2)) u τ) : QTri l Z n0 ad 20 (34, [vR 0, none, none, none, vI x4, vI x5, vI v.1], [], (H0 v.2)) u τ := by
 unfold B20_34 at h
 refine zS Ad W 2 (st' := (37, [vR 0, none, none, none, vI x4, vI x5, vI v.1], [.int (4:Int32), .int v.1], (H0 v.2))) rfl ?_
 rcases qite h with ⟨hc139, h⟩ | ⟨hc139, h⟩
 ·refine zF Ad W (t := 66) (f := 40) rfl (XT.ii_ge_f hc139) ?_
  refine zS Ad W 10 (st' := (58, [vR 0, none, none, none, vI x4, vI x5, vI v.1], [.int (x4 + v.1), .ref 5, .int (x5 + v.1), .ref 9], (H0 v.2))) rfl ?_
  obtain ⟨y140, hy140, h⟩ := bind_eq_some_iff.mp h
  refine zB Ad W (f := fun y140 => (59, [vR 0, none, none, none, vI x4, vI x5, vI v.1], [.int y140, .int (x5 + v.1), .ref 9], (H0 v.2))) rfl hy140 ?_
  obtain ⟨y141, hy141, h⟩ := bind_eq_some_iff.mp h
  refine zB Ad W (f := fun y141 => (60, [vR 0, none, none, none, vI x4, vI x5, vI v.1], [], (H0x6 v.2 y141))) rfl hy141 ?_
  refine zS Ad W 2 (st' := (34, [vR 0, none, none, none, vI x4, vI x5, vI (v.1 + (1:Int32))], [], (H0x6 v.2 y141))) rfl ?_
  have E142 : ((H0x6 v.2 y141) : QHeap) = (H0 (s_reg v.2 y141)) := by simp only [fs, H0, H0v, H0x6, s_reg]
  rw [E142]
  obtain rfl := Option.some.inj h
  exact zM [tt,ff,ff,ff,tt,tt,tt] (hc ((v.1 + (1:Int32)), (s_reg v.2 y141)) rfl)
 ·refine zT Ad W (t := 66) (f := 40) rfl (XT.ii_ge_t hc139) ?_
  obtain rfl := Option.some.inj h
  obtain ⟨rfl, rfl⟩ := hx0 v.2 rfl
  exact QTri.ret0 rfl rfl
/-- loadBack(III)V -/
def F20 (o : Ob) (x1 : Int32) (x2 : Int32) (x3 : Int32) : Option (Ob) :=
 (F5 x1).bind fun r134 => (if r134 = (0:Int32) then some o else (F11 x2 x3).bind fun r136 => (if r136 = (0:Int32) then some o else (F13 x2 x3).bind fun r138 => (loopN (B20_34 r138 (x1 * (4:Int32))) qN ((0:Int32), o)).bind fun e143 => some e143))
theorem tF20 (Ad : QAd n0 ad) (W : QW Z a0) (o : Ob) (x1 : Int32) (x2 : Int32) (x3 : Int32) {r : Ob} (h : F20 o x1 x2 x3 = some r) : QTri l Z n0 ad 20 (0, qentry [.ref 0, .int x1, .int x2, .int x3] (pMaxL 20), [], (H0 o)) (none : Option Value) (H0 r) := by
 unfold F20 at h
 refine zS Ad W 2 (st' := (2, [vR 0, vI x1, vI x2, vI x3, none, none, none], [.int x1, .ref 0], (H0 o))) rfl ?_
 obtain ⟨r134, hr134, h⟩ := bind_eq_some_iff.mp h
 refine QTri.callP W (a := 0) (as := [.int x1]) (rest := []) (w := (some (.int r134))) (σ₁ := (H0 o)) rfl rfl rfl rfl rfl rfl rfl rfl (tF5 Ad W x1 hr134) ?_
 rcases qite h with ⟨hc135, h⟩ | ⟨hc135, h⟩
 ·refine zT Ad W (t := 17) (f := 8) rfl (XT.i0_eq_t hc135) ?_
  obtain rfl := Option.some.inj h
  exact QTri.ret0 rfl rfl
 ·refine zF Ad W (t := 17) (f := 8) rfl (XT.i0_eq_f hc135) ?_
  refine zS Ad W 3 (st' := (11, [vR 0, vI x1, vI x2, vI x3, none, none, none], [.int x3, .int x2, .ref 0], (H0 o))) rfl ?_
  obtain ⟨r136, hr136, h⟩ := bind_eq_some_iff.mp h
  refine QTri.callP W (a := 0) (as := [.int x2, .int x3]) (rest := []) (w := (some (.int r136))) (σ₁ := (H0 o)) rfl rfl rfl rfl rfl rfl rfl rfl (tF11 Ad W x2 x3 hr136) ?_
  rcases qite h with ⟨hc137, h⟩ | ⟨hc137, h⟩
  ·refine zF Ad W (t := 18) (f := 17) rfl (XT.i0_ne_f hc137) ?_
   obtain rfl := Option.some.inj h
   exact QTri.ret0 rfl rfl
  ·refine zT Ad W (t := 18) (f := 17) rfl (XT.i0_ne_t hc137) ?_
   refine zS Ad W 3 (st' := (21, [vR 0, vI x1, vI x2, vI x3, none, none, none], [.int x3, .int x2, .ref 0], (H0 o))) rfl ?_
   obtain ⟨r138, hr138, h⟩ := bind_eq_some_iff.mp h
   refine QTri.callP W (a := 0) (as := [.int x2, .int x3]) (rest := []) (w := (some (.int r138))) (σ₁ := (H0 o)) rfl rfl rfl rfl rfl rfl rfl rfl (tF13 Ad W x2 x3 hr138) ?_
   refine zS Ad W 5 (st' := (31, [vR 0, vI x1, vI x2, vI x3, vI r138, vI (x1 * (4:Int32)), none], [], (H0 o))) rfl ?_
   refine zS Ad W 2 (st' := (34, [vR 0, vI x1, vI x2, vI x3, vI r138, vI (x1 * (4:Int32)), vI (0:Int32)], [], (H0 o))) rfl ?_
   obtain ⟨e143, he143, h⟩ := bind_eq_some_iff.mp h
   refine zM [tt,ff,ff,ff,tt,tt,tt] (loopN_tri (B := B20_34 r138 (x1 * (4:Int32))) (T := fun lv144 => QTri l Z n0 ad 20 (34, [vR 0, none, none, none, vI r138, vI (x1 * (4:Int32)), vI lv144.1], [], (H0 lv144.2)) (none : Option Value) (H0 r)) (KE := fun e143a => (none : Option Value) = (none : Option Value) ∧ (H0 r) = (H0 e143a)) (fun lv144 r hB hE hC => tB20_34 Ad W r138 (x1 * (4:Int32)) lv144 hB (fun x q => hE _ q) (fun x q => hC x q)) qN ((0:Int32), o) e143 he143 ?_)
   obtain rfl := Option.some.inj h
   exact ⟨rfl, rfl⟩
def H0x15 (o0 : Ob) (a0_11 : List Int32) : QHeap := H0v (f_regTuple o0) (f_regA o0) (f_regB o0) (f_regC o0) (f_regCount o0) (f_slots o0) (f_range o0) (f_slide o0) (f_frontSize o0) (f_backSize o0) (f_backElem o0) a0_11 (f_backAgg o0) (f_snap o0) (f_reg o0) (f_capacity o0) (f_queries o0) (f_n o0)
def B21_34 (x4 : Int32) (x5 : Int32) (v : Int32 × Ob) : Option (((Ob)) ⊕ (Int32 × Ob)) :=
  (if v.1 < (4 : Int32) then (aget (f_reg v.2) (x5 + v.1)).bind fun y153 => (aset (f_frontAgg v.2) (x4 + v.1) y153).bind fun y154 => some (.inr ((v.1 + (1 : Int32)), (s_frontAgg v.2 y154))) else some (.inl v.2))
theorem tB21_34 (Ad : QAd n0 ad) (W : QW Z a0) (x4 : Int32) (x5 : Int32) (v : Int32 × Ob) {r : ((Ob)) ⊕ (Int32 × Ob)} {u : Option Value} {τ : QHeap} (h : B21_34 x4 x5 v = some r) (hx0 : ∀ x : Ob, r = .inl x → u = (none : Option Value) ∧ τ = (H0 x)) (hc : ∀ x : Int32 × Ob, r = .inr x → QTri l Z n0 ad 21 (34, [vR 0, none, none, none, vI x4, vI x5, vI x.1], [], (H0 x.2)) u τ) : QTri l Z n0 ad 21 (34, [vR 0, none, none, none, vI x4, vI x5, vI v.1], [], (H0 v.2)) u τ := by
 unfold B21_34 at h
 refine zS Ad W 2 (st' := (37, [vR 0, none, none, none, vI x4, vI x5, vI v.1], [.int (4:Int32), .int v.1], (H0 v.2))) rfl ?_
 rcases qite h with ⟨hc152, h⟩ | ⟨hc152, h⟩
 ·refine zF Ad W (t := 66) (f := 40) rfl (XT.ii_ge_f hc152) ?_
  refine zS Ad W 10 (st' := (58, [vR 0, none, none, none, vI x4, vI x5, vI v.1], [.int (x5 + v.1), .ref 9, .int (x4 + v.1), .ref 6], (H0 v.2))) rfl ?_
  obtain ⟨y153, hy153, h⟩ := bind_eq_some_iff.mp h
  refine zB Ad W (f := fun y153 => (59, [vR 0, none, none, none, vI x4, vI x5, vI v.1], [.int y153, .int (x4 + v.1), .ref 6], (H0 v.2))) rfl hy153 ?_
  obtain ⟨y154, hy154, h⟩ := bind_eq_some_iff.mp h
  refine zB Ad W (f := fun y154 => (60, [vR 0, none, none, none, vI x4, vI x5, vI v.1], [], (H0x15 v.2 y154))) rfl hy154 ?_
  refine zS Ad W 2 (st' := (34, [vR 0, none, none, none, vI x4, vI x5, vI (v.1 + (1:Int32))], [], (H0x15 v.2 y154))) rfl ?_
  have E155 : ((H0x15 v.2 y154) : QHeap) = (H0 (s_frontAgg v.2 y154)) := by simp only [fs, H0, H0v, H0x15, s_frontAgg]
  rw [E155]
  obtain rfl := Option.some.inj h
  exact zM [tt,ff,ff,ff,tt,tt,tt] (hc ((v.1 + (1:Int32)), (s_frontAgg v.2 y154)) rfl)
 ·refine zT Ad W (t := 66) (f := 40) rfl (XT.ii_ge_t hc152) ?_
  obtain rfl := Option.some.inj h
  obtain ⟨rfl, rfl⟩ := hx0 v.2 rfl
  exact QTri.ret0 rfl rfl
/-- storeFront(III)V -/
def F21 (o : Ob) (x1 : Int32) (x2 : Int32) (x3 : Int32) : Option (Ob) :=
 (F5 x3).bind fun r147 => (if r147 = (0:Int32) then some o else (F11 x1 x2).bind fun r149 => (if r149 = (0:Int32) then some o else (F13 x1 x2).bind fun r151 => (loopN (B21_34 r151 (x3 * (4:Int32))) qN ((0:Int32), o)).bind fun e156 => some e156))
theorem tF21 (Ad : QAd n0 ad) (W : QW Z a0) (o : Ob) (x1 : Int32) (x2 : Int32) (x3 : Int32) {r : Ob} (h : F21 o x1 x2 x3 = some r) : QTri l Z n0 ad 21 (0, qentry [.ref 0, .int x1, .int x2, .int x3] (pMaxL 21), [], (H0 o)) (none : Option Value) (H0 r) := by
 unfold F21 at h
 refine zS Ad W 2 (st' := (2, [vR 0, vI x1, vI x2, vI x3, none, none, none], [.int x3, .ref 0], (H0 o))) rfl ?_
 obtain ⟨r147, hr147, h⟩ := bind_eq_some_iff.mp h
 refine QTri.callP W (a := 0) (as := [.int x3]) (rest := []) (w := (some (.int r147))) (σ₁ := (H0 o)) rfl rfl rfl rfl rfl rfl rfl rfl (tF5 Ad W x3 hr147) ?_
 rcases qite h with ⟨hc148, h⟩ | ⟨hc148, h⟩
 ·refine zT Ad W (t := 17) (f := 8) rfl (XT.i0_eq_t hc148) ?_
  obtain rfl := Option.some.inj h
  exact QTri.ret0 rfl rfl
 ·refine zF Ad W (t := 17) (f := 8) rfl (XT.i0_eq_f hc148) ?_
  refine zS Ad W 3 (st' := (11, [vR 0, vI x1, vI x2, vI x3, none, none, none], [.int x2, .int x1, .ref 0], (H0 o))) rfl ?_
  obtain ⟨r149, hr149, h⟩ := bind_eq_some_iff.mp h
  refine QTri.callP W (a := 0) (as := [.int x1, .int x2]) (rest := []) (w := (some (.int r149))) (σ₁ := (H0 o)) rfl rfl rfl rfl rfl rfl rfl rfl (tF11 Ad W x1 x2 hr149) ?_
  rcases qite h with ⟨hc150, h⟩ | ⟨hc150, h⟩
  ·refine zF Ad W (t := 18) (f := 17) rfl (XT.i0_ne_f hc150) ?_
   obtain rfl := Option.some.inj h
   exact QTri.ret0 rfl rfl
  ·refine zT Ad W (t := 18) (f := 17) rfl (XT.i0_ne_t hc150) ?_
   refine zS Ad W 3 (st' := (21, [vR 0, vI x1, vI x2, vI x3, none, none, none], [.int x2, .int x1, .ref 0], (H0 o))) rfl ?_
   obtain ⟨r151, hr151, h⟩ := bind_eq_some_iff.mp h
   refine QTri.callP W (a := 0) (as := [.int x1, .int x2]) (rest := []) (w := (some (.int r151))) (σ₁ := (H0 o)) rfl rfl rfl rfl rfl rfl rfl rfl (tF13 Ad W x1 x2 hr151) ?_
   refine zS Ad W 5 (st' := (31, [vR 0, vI x1, vI x2, vI x3, vI r151, vI (x3 * (4:Int32)), none], [], (H0 o))) rfl ?_
   refine zS Ad W 2 (st' := (34, [vR 0, vI x1, vI x2, vI x3, vI r151, vI (x3 * (4:Int32)), vI (0:Int32)], [], (H0 o))) rfl ?_
   obtain ⟨e156, he156, h⟩ := bind_eq_some_iff.mp h
   refine zM [tt,ff,ff,ff,tt,tt,tt] (loopN_tri (B := B21_34 r151 (x3 * (4:Int32))) (T := fun lv157 => QTri l Z n0 ad 21 (34, [vR 0, none, none, none, vI r151, vI (x3 * (4:Int32)), vI lv157.1], [], (H0 lv157.2)) (none : Option Value) (H0 r)) (KE := fun e156a => (none : Option Value) = (none : Option Value) ∧ (H0 r) = (H0 e156a)) (fun lv157 r hB hE hC => tB21_34 Ad W r151 (x3 * (4:Int32)) lv157 hB (fun x q => hE _ q) (fun x q => hC x q)) qN ((0:Int32), o) e156 he156 ?_)
   obtain rfl := Option.some.inj h
   exact ⟨rfl, rfl⟩
def B19_23 (x1 : Int32) (x2 : Int32) (v : Int32 × Ob) : Option (((Ob)) ⊕ (Int32 × Ob)) :=
  (if v.1 < x2 then (F20 v.2 (2 : Int32) x1 ((x2 - (1 : Int32)) - v.1)).bind fun r145 => (F15 r145 (1 : Int32) (2 : Int32) (1 : Int32)).bind fun r146 => (F21 r146 x1 v.1 (1 : Int32)).bind fun r158 => some (.inr ((v.1 + (1 : Int32)), r158)) else some (.inl v.2))
theorem tB19_23 (Ad : QAd n0 ad) (W : QW Z a0) (x1 : Int32) (x2 : Int32) (v : Int32 × Ob) {r : ((Ob)) ⊕ (Int32 × Ob)} {u : Option Value} {τ : QHeap} (h : B19_23 x1 x2 v = some r) (hx0 : ∀ x : Ob, r = .inl x → QTri l Z n0 ad 19 (59, [vR 0, vI x1, vI x2, none], [], (H0 x)) u τ) (hc : ∀ x : Int32 × Ob, r = .inr x → QTri l Z n0 ad 19 (23, [vR 0, vI x1, vI x2, vI x.1], [], (H0 x.2)) u τ) : QTri l Z n0 ad 19 (23, [vR 0, vI x1, vI x2, vI v.1], [], (H0 v.2)) u τ := by
 unfold B19_23 at h
 refine zS Ad W 2 (st' := (25, [vR 0, vI x1, vI x2, vI v.1], [.int x2, .int v.1], (H0 v.2))) rfl ?_
 rcases qite h with ⟨hc133, h⟩ | ⟨hc133, h⟩
 ·refine zF Ad W (t := 59) (f := 28) rfl (XT.ii_ge_f hc133) ?_
  refine zS Ad W 8 (st' := (36, [vR 0, vI x1, vI x2, vI v.1], [.int ((x2 - (1:Int32)) - v.1), .int x1, .int (2:Int32), .ref 0], (H0 v.2))) rfl ?_
  obtain ⟨r145, hr145, h⟩ := bind_eq_some_iff.mp h
  refine QTri.callP W (a := 0) (as := [.int (2:Int32), .int x1, .int ((x2 - (1:Int32)) - v.1)]) (rest := []) (w := none) (σ₁ := (H0 r145)) rfl rfl rfl rfl rfl rfl rfl rfl (tF20 Ad W v.2 (2:Int32) x1 ((x2 - (1:Int32)) - v.1) hr145) ?_
  refine zS Ad W 4 (st' := (43, [vR 0, vI x1, vI x2, vI v.1], [.int (1:Int32), .int (2:Int32), .int (1:Int32), .ref 0], (H0 r145))) rfl ?_
  obtain ⟨r146, hr146, h⟩ := bind_eq_some_iff.mp h
  refine QTri.callP W (a := 0) (as := [.int (1:Int32), .int (2:Int32), .int (1:Int32)]) (rest := []) (w := none) (σ₁ := (H0 r146)) rfl rfl rfl rfl rfl rfl rfl rfl (tF15 Ad W r145 (1:Int32) (2:Int32) (1:Int32) hr146) ?_
  refine zS Ad W 4 (st' := (50, [vR 0, vI x1, vI x2, vI v.1], [.int (1:Int32), .int v.1, .int x1, .ref 0], (H0 r146))) rfl ?_
  obtain ⟨r158, hr158, h⟩ := bind_eq_some_iff.mp h
  refine QTri.callP W (a := 0) (as := [.int x1, .int v.1, .int (1:Int32)]) (rest := []) (w := none) (σ₁ := (H0 r158)) rfl rfl rfl rfl rfl rfl rfl rfl (tF21 Ad W r146 x1 v.1 (1:Int32) hr158) ?_
  refine zS Ad W 2 (st' := (23, [vR 0, vI x1, vI x2, vI (v.1 + (1:Int32))], [], (H0 r158))) rfl ?_
  obtain rfl := Option.some.inj h
  exact zM [tt,tt,tt,tt] (hc ((v.1 + (1:Int32)), r158) rfl)
 ·refine zT Ad W (t := 59) (f := 28) rfl (XT.ii_ge_t hc133) ?_
  obtain rfl := Option.some.inj h
  exact zM [tt,tt,tt,ff] (hx0 v.2 rfl)
/-- flip(I)V -/
def F19 (o : Ob) (x1 : Int32) : Option (Ob) :=
 (aget (f_backSize o) x1).bind fun y128 => (F3 o (1:Int32)).bind fun r132 => (loopN (B19_23 x1 (if (32:Int32) < y128 then (32:Int32) else y128)) qN ((0:Int32), r132)).bind fun e159 => (aset (f_frontSize e159) x1 (if (32:Int32) < y128 then (32:Int32) else y128)).bind fun y161 => (aset (f_backSize e159) x1 (0:Int32)).bind fun y162 => (F3 (s_backSize (s_frontSize e159 y161) y162) (1:Int32)).bind fun r164 => (F6 r164 x1 (1:Int32)).bind fun r165 => some r165
theorem tF19 (Ad : QAd n0 ad) (W : QW Z a0) (o : Ob) (x1 : Int32) {r : Ob} (h : F19 o x1 = some r) : QTri l Z n0 ad 19 (0, qentry [.ref 0, .int x1] (pMaxL 19), [], (H0 o)) (none : Option Value) (H0 r) := by
 unfold F19 at h
 refine zS Ad W 3 (st' := (5, [vR 0, vI x1, none, none], [.int x1, .ref 4], (H0 o))) rfl ?_
 obtain ⟨y128, hy128, h⟩ := bind_eq_some_iff.mp h
 refine zB Ad W (f := fun y128 => (6, [vR 0, vI x1, none, none], [.int y128], (H0 o))) rfl hy128 ?_
 refine zS Ad W 3 (st' := (10, [vR 0, vI x1, vI y128, none], [.int (32:Int32), .int y128], (H0 o))) rfl ?_
 have K130 : ∀ z129 : Int32, z129 = (if (32:Int32) < y128 then (32:Int32) else y128) → QTri l Z n0 ad 19 (16, [vR 0, vI x1, vI z129, none], [], (H0 o)) (none : Option Value) (H0 r) := by
  intro z129 ez129
  subst ez129
  refine zS Ad W 2 (st' := (18, [vR 0, vI x1, vI (if (32:Int32) < y128 then (32:Int32) else y128), none], [.int (1:Int32), .ref 0], (H0 o))) rfl ?_
  obtain ⟨r132, hr132, h⟩ := bind_eq_some_iff.mp h
  refine QTri.callP W (a := 0) (as := [.int (1:Int32)]) (rest := []) (w := none) (σ₁ := (H0 r132)) rfl rfl rfl rfl rfl rfl rfl rfl (tF3 Ad W o (1:Int32) hr132) ?_
  refine zS Ad W 2 (st' := (23, [vR 0, vI x1, vI (if (32:Int32) < y128 then (32:Int32) else y128), vI (0:Int32)], [], (H0 r132))) rfl ?_
  obtain ⟨e159, he159, h⟩ := bind_eq_some_iff.mp h
  refine zM [tt,tt,tt,tt] (loopN_tri (B := B19_23 x1 (if (32:Int32) < y128 then (32:Int32) else y128)) (T := fun lv160 => QTri l Z n0 ad 19 (23, [vR 0, vI x1, vI (if (32:Int32) < y128 then (32:Int32) else y128), vI lv160.1], [], (H0 lv160.2)) (none : Option Value) (H0 r)) (KE := fun e159a => QTri l Z n0 ad 19 (59, [vR 0, vI x1, vI (if (32:Int32) < y128 then (32:Int32) else y128), none], [], (H0 e159a)) (none : Option Value) (H0 r)) (fun lv160 r hB hE hC => tB19_23 Ad W x1 (if (32:Int32) < y128 then (32:Int32) else y128) lv160 hB (fun x q => hE _ q) (fun x q => hC x q)) qN ((0:Int32), r132) e159 he159 ?_)
  refine zS Ad W 4 (st' := (65, [vR 0, vI x1, vI (if (32:Int32) < y128 then (32:Int32) else y128), none], [.int (if (32:Int32) < y128 then (32:Int32) else y128), .int x1, .ref 3], (H0 e159))) rfl ?_
  obtain ⟨y161, hy161, h⟩ := bind_eq_some_iff.mp h
  refine zB Ad W (f := fun y161 => (66, [vR 0, vI x1, vI (if (32:Int32) < y128 then (32:Int32) else y128), none], [], (H0x4 e159 y161))) rfl hy161 ?_
  refine zS Ad W 4 (st' := (72, [vR 0, vI x1, vI (if (32:Int32) < y128 then (32:Int32) else y128), none], [.int (0:Int32), .int x1, .ref 4], (H0x4 e159 y161))) rfl ?_
  obtain ⟨y162, hy162, h⟩ := bind_eq_some_iff.mp h
  refine zB Ad W (f := fun y162 => (73, [vR 0, vI x1, vI (if (32:Int32) < y128 then (32:Int32) else y128), none], [], (H0x5 e159 y161 y162))) rfl hy162 ?_
  refine zS Ad W 2 (st' := (75, [vR 0, vI x1, vI (if (32:Int32) < y128 then (32:Int32) else y128), none], [.int (1:Int32), .ref 0], (H0x5 e159 y161 y162))) rfl ?_
  have E163 : ((H0x5 e159 y161 y162) : QHeap) = (H0 (s_backSize (s_frontSize e159 y161) y162)) := by simp only [fs, H0, H0v, H0x5, s_frontSize, s_backSize]
  rw [E163]
  obtain ⟨r164, hr164, h⟩ := bind_eq_some_iff.mp h
  refine QTri.callP W (a := 0) (as := [.int (1:Int32)]) (rest := []) (w := none) (σ₁ := (H0 r164)) rfl rfl rfl rfl rfl rfl rfl rfl (tF3 Ad W (s_backSize (s_frontSize e159 y161) y162) (1:Int32) hr164) ?_
  refine zS Ad W 3 (st' := (81, [vR 0, vI x1, vI (if (32:Int32) < y128 then (32:Int32) else y128), none], [.int (1:Int32), .int x1, .ref 0], (H0 r164))) rfl ?_
  obtain ⟨r165, hr165, h⟩ := bind_eq_some_iff.mp h
  refine QTri.callP W (a := 0) (as := [.int x1, .int (1:Int32)]) (rest := []) (w := none) (σ₁ := (H0 r165)) rfl rfl rfl rfl rfl rfl rfl rfl (tF6 Ad W r164 x1 (1:Int32) hr165) ?_
  obtain rfl := Option.some.inj h
  exact QTri.ret0 rfl rfl
 rcases em ((32:Int32) < y128) with hc131 | hc131
 ·refine zF Ad W (t := 16) (f := 13) rfl (XT.ii_le_f hc131) ?_
  refine zS Ad W 2 (st' := (16, [vR 0, vI x1, vI (32:Int32), none], [], (H0 o))) rfl ?_
  exact zM [tt,tt,tt,ff] (K130 _ (if_pos hc131).symm)
 ·refine zT Ad W (t := 16) (f := 13) rfl (XT.ii_le_t hc131) ?_
  exact zM [tt,tt,tt,ff] (K130 _ (if_neg hc131).symm)
def J18_14 (o : Ob) (x1 : Int32) : Option (Ob) :=
  (aget (f_frontSize o) x1).bind fun y167 => (if (0 : Int32) < y167 then (aget (f_frontSize o) x1).bind fun y169 => (aset (f_frontSize o) x1 (y169 - (1 : Int32))).bind fun y170 => some (s_frontSize o y170) else some o)
theorem tJ18_14 (Ad : QAd n0 ad) (W : QW Z a0) (o : Ob) (x1 : Int32) {r : Ob} (h : J18_14 o x1 = some r) : QTri l Z n0 ad 18 (14, [vR 0, vI x1], [], (H0 o)) (none : Option Value) (H0 r) := by
 unfold J18_14 at h
 refine zS Ad W 3 (st' := (19, [vR 0, vI x1], [.int x1, .ref 3], (H0 o))) rfl ?_
 obtain ⟨y167, hy167, h⟩ := bind_eq_some_iff.mp h
 refine zB Ad W (f := fun y167 => (20, [vR 0, vI x1], [.int y167], (H0 o))) rfl hy167 ?_
 rcases qite h with ⟨hc168, h⟩ | ⟨hc168, h⟩
 ·refine zF Ad W (t := 37) (f := 23) rfl (XT.i0_le_f hc168) ?_
  refine zS Ad W 6 (st' := (33, [vR 0, vI x1], [.int x1, .ref 3, .int x1, .ref 3], (H0 o))) rfl ?_
  obtain ⟨y169, hy169, h⟩ := bind_eq_some_iff.mp h
  refine zB Ad W (f := fun y169 => (34, [vR 0, vI x1], [.int y169, .int x1, .ref 3], (H0 o))) rfl hy169 ?_
  refine zS Ad W 2 (st' := (36, [vR 0, vI x1], [.int (y169 - (1:Int32)), .int x1, .ref 3], (H0 o))) rfl ?_
  obtain ⟨y170, hy170, h⟩ := bind_eq_some_iff.mp h
  refine zB Ad W (f := fun y170 => (37, [vR 0, vI x1], [], (H0x4 o y170))) rfl hy170 ?_
  have E171 : ((H0x4 o y170) : QHeap) = (H0 (s_frontSize o y170)) := by simp only [fs, H0, H0v, H0x4, s_frontSize]
  rw [E171]
  obtain rfl := Option.some.inj h
  exact QTri.ret0 rfl rfl
 ·refine zT Ad W (t := 37) (f := 23) rfl (XT.i0_le_t hc168) ?_
  obtain rfl := Option.some.inj h
  exact QTri.ret0 rfl rfl
/-- evictOldest(I)V -/
def F18 (o : Ob) (x1 : Int32) : Option (Ob) :=
 (aget (f_frontSize o) x1).bind fun y126 => (if y126 = (0:Int32) then (F19 o x1).bind fun r166 => (J18_14 r166 x1) else (J18_14 o x1))
theorem tF18 (Ad : QAd n0 ad) (W : QW Z a0) (o : Ob) (x1 : Int32) {r : Ob} (h : F18 o x1 = some r) : QTri l Z n0 ad 18 (0, qentry [.ref 0, .int x1] (pMaxL 18), [], (H0 o)) (none : Option Value) (H0 r) := by
 unfold F18 at h
 refine zS Ad W 3 (st' := (5, [vR 0, vI x1], [.int x1, .ref 3], (H0 o))) rfl ?_
 obtain ⟨y126, hy126, h⟩ := bind_eq_some_iff.mp h
 refine zB Ad W (f := fun y126 => (6, [vR 0, vI x1], [.int y126], (H0 o))) rfl hy126 ?_
 rcases qite h with ⟨hc127, h⟩ | ⟨hc127, h⟩
 ·refine zF Ad W (t := 14) (f := 9) rfl (XT.i0_ne_f hc127) ?_
  refine zS Ad W 2 (st' := (11, [vR 0, vI x1], [.int x1, .ref 0], (H0 o))) rfl ?_
  obtain ⟨r166, hr166, h⟩ := bind_eq_some_iff.mp h
  refine QTri.callP W (a := 0) (as := [.int x1]) (rest := []) (w := none) (σ₁ := (H0 r166)) rfl rfl rfl rfl rfl rfl rfl rfl (tF19 Ad W o x1 hr166) ?_
  exact zM [tt,tt] (tJ18_14 Ad W r166 x1 h)
 ·refine zT Ad W (t := 14) (f := 9) rfl (XT.i0_ne_t hc127) ?_
  exact zM [tt,tt] (tJ18_14 Ad W o x1 h)
/-- appendToQuery(I)V -/
def F10 (o : Ob) (x1 : Int32) : Option (Ob) :=
 (if x1 < (0:Int32) then some o else (if x1 < (4:Int32) then (aget (f_frontSize o) x1).bind fun y69 => (aget (f_backSize o) x1).bind fun y70 => (aget (f_range o) x1).bind fun y71 => (if (y69 + y70) < y71 then (J10_39 o x1) else (F18 o x1).bind fun r172 => (J10_39 r172 x1)) else some o))
theorem tF10 (Ad : QAd n0 ad) (W : QW Z a0) (o : Ob) (x1 : Int32) {r : Ob} (h : F10 o x1 = some r) : QTri l Z n0 ad 10 (0, qentry [.ref 0, .int x1] (pMaxL 10), [], (H0 o)) (none : Option Value) (H0 r) := by
 unfold F10 at h
 refine zS Ad W 1 (st' := (1, [vR 0, vI x1, none, none], [.int x1], (H0 o))) rfl ?_
 rcases qite h with ⟨hc67, h⟩ | ⟨hc67, h⟩
 ·refine zT Ad W (t := 9) (f := 4) rfl (XT.i0_lt_t hc67) ?_
  obtain rfl := Option.some.inj h
  exact QTri.ret0 rfl rfl
 ·refine zF Ad W (t := 9) (f := 4) rfl (XT.i0_lt_f hc67) ?_
  refine zS Ad W 2 (st' := (6, [vR 0, vI x1, none, none], [.int (4:Int32), .int x1], (H0 o))) rfl ?_
  rcases qite h with ⟨hc68, h⟩ | ⟨hc68, h⟩
  ·refine zT Ad W (t := 10) (f := 9) rfl (XT.ii_lt_t hc68) ?_
   refine zS Ad W 3 (st' := (15, [vR 0, vI x1, none, none], [.int x1, .ref 3], (H0 o))) rfl ?_
   obtain ⟨y69, hy69, h⟩ := bind_eq_some_iff.mp h
   refine zB Ad W (f := fun y69 => (16, [vR 0, vI x1, none, none], [.int y69], (H0 o))) rfl hy69 ?_
   refine zS Ad W 3 (st' := (21, [vR 0, vI x1, none, none], [.int x1, .ref 4, .int y69], (H0 o))) rfl ?_
   obtain ⟨y70, hy70, h⟩ := bind_eq_some_iff.mp h
   refine zB Ad W (f := fun y70 => (22, [vR 0, vI x1, none, none], [.int y70, .int y69], (H0 o))) rfl hy70 ?_
   refine zS Ad W 6 (st' := (30, [vR 0, vI x1, vI (y69 + y70), none], [.int x1, .ref 1, .int (y69 + y70)], (H0 o))) rfl ?_
   obtain ⟨y71, hy71, h⟩ := bind_eq_some_iff.mp h
   refine zB Ad W (f := fun y71 => (31, [vR 0, vI x1, vI (y69 + y70), none], [.int y71, .int (y69 + y70)], (H0 o))) rfl hy71 ?_
   rcases qite h with ⟨hc72, h⟩ | ⟨hc72, h⟩
   ·refine zT Ad W (t := 39) (f := 34) rfl (XT.ii_lt_t hc72) ?_
    exact zM [tt,tt,ff,ff] (tJ10_39 Ad W o x1 h)
   ·refine zF Ad W (t := 39) (f := 34) rfl (XT.ii_lt_f hc72) ?_
    refine zS Ad W 2 (st' := (36, [vR 0, vI x1, vI (y69 + y70), none], [.int x1, .ref 0], (H0 o))) rfl ?_
    obtain ⟨r172, hr172, h⟩ := bind_eq_some_iff.mp h
    refine QTri.callP W (a := 0) (as := [.int x1]) (rest := []) (w := none) (σ₁ := (H0 r172)) rfl rfl rfl rfl rfl rfl rfl rfl (tF18 Ad W o x1 hr172) ?_
    exact zM [tt,tt,ff,ff] (tJ10_39 Ad W r172 x1 h)
  ·refine zF Ad W (t := 10) (f := 9) rfl (XT.ii_lt_f hc68) ?_
   obtain rfl := Option.some.inj h
   exact QTri.ret0 rfl rfl
def J9_75 (o : Ob) (x5 : Int32) (x6 : Int32) : Option (((Int32 × Ob)) ⊕ (Int32 × Int32 × Ob)) :=
  some (.inr (x5, (x6 + (1 : Int32)), o))
theorem tJ9_75 (Ad : QAd n0 ad) (W : QW Z a0) (o : Ob) (x5 : Int32) (x6 : Int32) {r : ((Int32 × Ob)) ⊕ (Int32 × Int32 × Ob)} {u : Option Value} {τ : QHeap} (h : J9_75 o x5 x6 = some r) (hx0 : ∀ x : Int32 × Ob, r = .inl x → u = (some (Value.int x.1)) ∧ τ = (H0 x.2)) (hc : ∀ x : Int32 × Int32 × Ob, r = .inr x → QTri l Z n0 ad 9 (26, [vR 0, none, none, none, none, vI x.1, vI x.2.1, none], [], (H0 x.2.2)) u τ) : QTri l Z n0 ad 9 (75, [vR 0, none, none, none, none, vI x5, vI x6, none], [], (H0 o)) u τ := by
 unfold J9_75 at h
 refine zS Ad W 2 (st' := (26, [vR 0, none, none, none, none, vI x5, vI (x6 + (1:Int32)), none], [], (H0 o))) rfl ?_
 obtain rfl := Option.some.inj h
 exact zM [tt,ff,ff,ff,ff,tt,tt,ff] (hc (x5, (x6 + (1:Int32)), o) rfl)
def B29_34 (x4 : Int32) (x5 : Int32) (v : Int32 × Ob) : Option (((Ob)) ⊕ (Int32 × Ob)) :=
  (if v.1 < (4 : Int32) then (aget (f_frontAgg v.2) (x4 + v.1)).bind fun y186 => (aset (f_reg v.2) (x5 + v.1) y186).bind fun y187 => some (.inr ((v.1 + (1 : Int32)), (s_reg v.2 y187))) else some (.inl v.2))
theorem tB29_34 (Ad : QAd n0 ad) (W : QW Z a0) (x4 : Int32) (x5 : Int32) (v : Int32 × Ob) {r : ((Ob)) ⊕ (Int32 × Ob)} {u : Option Value} {τ : QHeap} (h : B29_34 x4 x5 v = some r) (hx0 : ∀ x : Ob, r = .inl x → u = (none : Option Value) ∧ τ = (H0 x)) (hc : ∀ x : Int32 × Ob, r = .inr x → QTri l Z n0 ad 29 (34, [vR 0, none, none, none, vI x4, vI x5, vI x.1], [], (H0 x.2)) u τ) : QTri l Z n0 ad 29 (34, [vR 0, none, none, none, vI x4, vI x5, vI v.1], [], (H0 v.2)) u τ := by
 unfold B29_34 at h
 refine zS Ad W 2 (st' := (37, [vR 0, none, none, none, vI x4, vI x5, vI v.1], [.int (4:Int32), .int v.1], (H0 v.2))) rfl ?_
 rcases qite h with ⟨hc185, h⟩ | ⟨hc185, h⟩
 ·refine zF Ad W (t := 66) (f := 40) rfl (XT.ii_ge_f hc185) ?_
  refine zS Ad W 10 (st' := (58, [vR 0, none, none, none, vI x4, vI x5, vI v.1], [.int (x4 + v.1), .ref 6, .int (x5 + v.1), .ref 9], (H0 v.2))) rfl ?_
  obtain ⟨y186, hy186, h⟩ := bind_eq_some_iff.mp h
  refine zB Ad W (f := fun y186 => (59, [vR 0, none, none, none, vI x4, vI x5, vI v.1], [.int y186, .int (x5 + v.1), .ref 9], (H0 v.2))) rfl hy186 ?_
  obtain ⟨y187, hy187, h⟩ := bind_eq_some_iff.mp h
  refine zB Ad W (f := fun y187 => (60, [vR 0, none, none, none, vI x4, vI x5, vI v.1], [], (H0x6 v.2 y187))) rfl hy187 ?_
  refine zS Ad W 2 (st' := (34, [vR 0, none, none, none, vI x4, vI x5, vI (v.1 + (1:Int32))], [], (H0x6 v.2 y187))) rfl ?_
  have E188 : ((H0x6 v.2 y187) : QHeap) = (H0 (s_reg v.2 y187)) := by simp only [fs, H0, H0v, H0x6, s_reg]
  rw [E188]
  obtain rfl := Option.some.inj h
  exact zM [tt,ff,ff,ff,tt,tt,tt] (hc ((v.1 + (1:Int32)), (s_reg v.2 y187)) rfl)
 ·refine zT Ad W (t := 66) (f := 40) rfl (XT.ii_ge_t hc185) ?_
  obtain rfl := Option.some.inj h
  obtain ⟨rfl, rfl⟩ := hx0 v.2 rfl
  exact QTri.ret0 rfl rfl
/-- loadFront(III)V -/
def F29 (o : Ob) (x1 : Int32) (x2 : Int32) (x3 : Int32) : Option (Ob) :=
 (F5 x1).bind fun r180 => (if r180 = (0:Int32) then some o else (F11 x2 x3).bind fun r182 => (if r182 = (0:Int32) then some o else (F13 x2 x3).bind fun r184 => (loopN (B29_34 r184 (x1 * (4:Int32))) qN ((0:Int32), o)).bind fun e189 => some e189))
theorem tF29 (Ad : QAd n0 ad) (W : QW Z a0) (o : Ob) (x1 : Int32) (x2 : Int32) (x3 : Int32) {r : Ob} (h : F29 o x1 x2 x3 = some r) : QTri l Z n0 ad 29 (0, qentry [.ref 0, .int x1, .int x2, .int x3] (pMaxL 29), [], (H0 o)) (none : Option Value) (H0 r) := by
 unfold F29 at h
 refine zS Ad W 2 (st' := (2, [vR 0, vI x1, vI x2, vI x3, none, none, none], [.int x1, .ref 0], (H0 o))) rfl ?_
 obtain ⟨r180, hr180, h⟩ := bind_eq_some_iff.mp h
 refine QTri.callP W (a := 0) (as := [.int x1]) (rest := []) (w := (some (.int r180))) (σ₁ := (H0 o)) rfl rfl rfl rfl rfl rfl rfl rfl (tF5 Ad W x1 hr180) ?_
 rcases qite h with ⟨hc181, h⟩ | ⟨hc181, h⟩
 ·refine zT Ad W (t := 17) (f := 8) rfl (XT.i0_eq_t hc181) ?_
  obtain rfl := Option.some.inj h
  exact QTri.ret0 rfl rfl
 ·refine zF Ad W (t := 17) (f := 8) rfl (XT.i0_eq_f hc181) ?_
  refine zS Ad W 3 (st' := (11, [vR 0, vI x1, vI x2, vI x3, none, none, none], [.int x3, .int x2, .ref 0], (H0 o))) rfl ?_
  obtain ⟨r182, hr182, h⟩ := bind_eq_some_iff.mp h
  refine QTri.callP W (a := 0) (as := [.int x2, .int x3]) (rest := []) (w := (some (.int r182))) (σ₁ := (H0 o)) rfl rfl rfl rfl rfl rfl rfl rfl (tF11 Ad W x2 x3 hr182) ?_
  rcases qite h with ⟨hc183, h⟩ | ⟨hc183, h⟩
  ·refine zF Ad W (t := 18) (f := 17) rfl (XT.i0_ne_f hc183) ?_
   obtain rfl := Option.some.inj h
   exact QTri.ret0 rfl rfl
  ·refine zT Ad W (t := 18) (f := 17) rfl (XT.i0_ne_t hc183) ?_
   refine zS Ad W 3 (st' := (21, [vR 0, vI x1, vI x2, vI x3, none, none, none], [.int x3, .int x2, .ref 0], (H0 o))) rfl ?_
   obtain ⟨r184, hr184, h⟩ := bind_eq_some_iff.mp h
   refine QTri.callP W (a := 0) (as := [.int x2, .int x3]) (rest := []) (w := (some (.int r184))) (σ₁ := (H0 o)) rfl rfl rfl rfl rfl rfl rfl rfl (tF13 Ad W x2 x3 hr184) ?_
   refine zS Ad W 5 (st' := (31, [vR 0, vI x1, vI x2, vI x3, vI r184, vI (x1 * (4:Int32)), none], [], (H0 o))) rfl ?_
   refine zS Ad W 2 (st' := (34, [vR 0, vI x1, vI x2, vI x3, vI r184, vI (x1 * (4:Int32)), vI (0:Int32)], [], (H0 o))) rfl ?_
   obtain ⟨e189, he189, h⟩ := bind_eq_some_iff.mp h
   refine zM [tt,ff,ff,ff,tt,tt,tt] (loopN_tri (B := B29_34 r184 (x1 * (4:Int32))) (T := fun lv190 => QTri l Z n0 ad 29 (34, [vR 0, none, none, none, vI r184, vI (x1 * (4:Int32)), vI lv190.1], [], (H0 lv190.2)) (none : Option Value) (H0 r)) (KE := fun e189a => (none : Option Value) = (none : Option Value) ∧ (H0 r) = (H0 e189a)) (fun lv190 r hB hE hC => tB29_34 Ad W r184 (x1 * (4:Int32)) lv190 hB (fun x q => hE _ q) (fun x q => hC x q)) qN ((0:Int32), o) e189 he189 ?_)
   obtain rfl := Option.some.inj h
   exact ⟨rfl, rfl⟩
def J17_28 (o : Ob) (x1 : Int32) (x2 : Int32) : Option (Ob) :=
  (F14 o (2 : Int32) x1).bind fun r192 => (F15 r192 x2 (1 : Int32) (2 : Int32)).bind fun r193 => some r193
theorem tJ17_28 (Ad : QAd n0 ad) (W : QW Z a0) (o : Ob) (x1 : Int32) (x2 : Int32) {r : Ob} (h : J17_28 o x1 x2 = some r) : QTri l Z n0 ad 17 (28, [vR 0, vI x1, vI x2, none], [], (H0 o)) (none : Option Value) (H0 r) := by
 unfold J17_28 at h
 refine zS Ad W 3 (st' := (31, [vR 0, vI x1, vI x2, none], [.int x1, .int (2:Int32), .ref 0], (H0 o))) rfl ?_
 obtain ⟨r192, hr192, h⟩ := bind_eq_some_iff.mp h
 refine QTri.callP W (a := 0) (as := [.int (2:Int32), .int x1]) (rest := []) (w := none) (σ₁ := (H0 r192)) rfl rfl rfl rfl rfl rfl rfl rfl (tF14 Ad W o (2:Int32) x1 hr192) ?_
 refine zS Ad W 4 (st' := (38, [vR 0, vI x1, vI x2, none], [.int (2:Int32), .int (1:Int32), .int x2, .ref 0], (H0 r192))) rfl ?_
 obtain ⟨r193, hr193, h⟩ := bind_eq_some_iff.mp h
 refine QTri.callP W (a := 0) (as := [.int x2, .int (1:Int32), .int (2:Int32)]) (rest := []) (w := none) (σ₁ := (H0 r193)) rfl rfl rfl rfl rfl rfl rfl rfl (tF15 Ad W r192 x2 (1:Int32) (2:Int32) hr193) ?_
 obtain rfl := Option.some.inj h
 exact QTri.ret0 rfl rfl
/-- liveFold(II)V -/
def F17 (o : Ob) (x1 : Int32) (x2 : Int32) : Option (Ob) :=
 (aget (f_frontSize o) x1).bind fun y178 => (if (0:Int32) < y178 then (F29 o (1:Int32) x1 (y178 - (1:Int32))).bind fun r191 => (J17_28 r191 x1 x2) else (F3 o (1:Int32)).bind fun r194 => (J17_28 r194 x1 x2))
theorem tF17 (Ad : QAd n0 ad) (W : QW Z a0) (o : Ob) (x1 : Int32) (x2 : Int32) {r : Ob} (h : F17 o x1 x2 = some r) : QTri l Z n0 ad 17 (0, qentry [.ref 0, .int x1, .int x2] (pMaxL 17), [], (H0 o)) (none : Option Value) (H0 r) := by
 unfold F17 at h
 refine zS Ad W 3 (st' := (5, [vR 0, vI x1, vI x2, none], [.int x1, .ref 3], (H0 o))) rfl ?_
 obtain ⟨y178, hy178, h⟩ := bind_eq_some_iff.mp h
 refine zB Ad W (f := fun y178 => (6, [vR 0, vI x1, vI x2, none], [.int y178], (H0 o))) rfl hy178 ?_
 refine zS Ad W 2 (st' := (8, [vR 0, vI x1, vI x2, vI y178], [.int y178], (H0 o))) rfl ?_
 rcases qite h with ⟨hc179, h⟩ | ⟨hc179, h⟩
 ·refine zF Ad W (t := 23) (f := 11) rfl (XT.i0_le_f hc179) ?_
  refine zS Ad W 6 (st' := (17, [vR 0, vI x1, vI x2, vI y178], [.int (y178 - (1:Int32)), .int x1, .int (1:Int32), .ref 0], (H0 o))) rfl ?_
  obtain ⟨r191, hr191, h⟩ := bind_eq_some_iff.mp h
  refine QTri.callP W (a := 0) (as := [.int (1:Int32), .int x1, .int (y178 - (1:Int32))]) (rest := []) (w := none) (σ₁ := (H0 r191)) rfl rfl rfl rfl rfl rfl rfl rfl (tF29 Ad W o (1:Int32) x1 (y178 - (1:Int32)) hr191) ?_
  refine zS Ad W 1 (st' := (28, [vR 0, vI x1, vI x2, vI y178], [], (H0 r191))) rfl ?_
  exact zM [tt,tt,tt,ff] (tJ17_28 Ad W r191 x1 x2 h)
 ·refine zT Ad W (t := 23) (f := 11) rfl (XT.i0_le_t hc179) ?_
  refine zS Ad W 2 (st' := (25, [vR 0, vI x1, vI x2, vI y178], [.int (1:Int32), .ref 0], (H0 o))) rfl ?_
  obtain ⟨r194, hr194, h⟩ := bind_eq_some_iff.mp h
  refine QTri.callP W (a := 0) (as := [.int (1:Int32)]) (rest := []) (w := none) (σ₁ := (H0 r194)) rfl rfl rfl rfl rfl rfl rfl rfl (tF3 Ad W o (1:Int32) hr194) ?_
  exact zM [tt,tt,tt,ff] (tJ17_28 Ad W r194 x1 x2 h)
/-- takeSnapshot(I)V -/
def F16 (o : Ob) (x1 : Int32) : Option (Ob) :=
 (F17 o x1 (3:Int32)).bind fun r195 => (F7 r195 x1 (3:Int32)).bind fun r196 => some r196
theorem tF16 (Ad : QAd n0 ad) (W : QW Z a0) (o : Ob) (x1 : Int32) {r : Ob} (h : F16 o x1 = some r) : QTri l Z n0 ad 16 (0, qentry [.ref 0, .int x1] (pMaxL 16), [], (H0 o)) (none : Option Value) (H0 r) := by
 unfold F16 at h
 refine zS Ad W 3 (st' := (3, [vR 0, vI x1], [.int (3:Int32), .int x1, .ref 0], (H0 o))) rfl ?_
 obtain ⟨r195, hr195, h⟩ := bind_eq_some_iff.mp h
 refine QTri.callP W (a := 0) (as := [.int x1, .int (3:Int32)]) (rest := []) (w := none) (σ₁ := (H0 r195)) rfl rfl rfl rfl rfl rfl rfl rfl (tF17 Ad W o x1 (3:Int32) hr195) ?_
 refine zS Ad W 3 (st' := (9, [vR 0, vI x1], [.int (3:Int32), .int x1, .ref 0], (H0 r195))) rfl ?_
 obtain ⟨r196, hr196, h⟩ := bind_eq_some_iff.mp h
 refine QTri.callP W (a := 0) (as := [.int x1, .int (3:Int32)]) (rest := []) (w := none) (σ₁ := (H0 r196)) rfl rfl rfl rfl rfl rfl rfl rfl (tF7 Ad W r195 x1 (3:Int32) hr196) ?_
 obtain rfl := Option.some.inj h
 exact QTri.ret0 rfl rfl
def B9_26 (v : Int32 × Int32 × Ob) : Option (((Int32 × Ob)) ⊕ (Int32 × Int32 × Ob)) :=
  (if v.2.1 < (f_queries v.2.2) then (F10 v.2.2 v.2.1).bind fun r173 => (aget (f_slide r173) v.2.1).bind fun y174 => (if y174 < (1 : Int32) then (J9_75 r173 v.1 v.2.1) else (qrem (f_n r173) y174).bind fun y176 => (if y176 = (0 : Int32) then (F16 r173 v.2.1).bind fun r197 => (J9_75 r197 (v.1 + (1 : Int32)) v.2.1) else (J9_75 r173 v.1 v.2.1))) else some (.inl (v.1, v.2.2)))
theorem tB9_26 (Ad : QAd n0 ad) (W : QW Z a0) (v : Int32 × Int32 × Ob) {r : ((Int32 × Ob)) ⊕ (Int32 × Int32 × Ob)} {u : Option Value} {τ : QHeap} (h : B9_26 v = some r) (hx0 : ∀ x : Int32 × Ob, r = .inl x → u = (some (Value.int x.1)) ∧ τ = (H0 x.2)) (hc : ∀ x : Int32 × Int32 × Ob, r = .inr x → QTri l Z n0 ad 9 (26, [vR 0, none, none, none, none, vI x.1, vI x.2.1, none], [], (H0 x.2.2)) u τ) : QTri l Z n0 ad 9 (26, [vR 0, none, none, none, none, vI v.1, vI v.2.1, none], [], (H0 v.2.2)) u τ := by
 unfold B9_26 at h
 refine zS Ad W 3 (st' := (32, [vR 0, none, none, none, none, vI v.1, vI v.2.1, none], [.int (f_queries v.2.2), .int v.2.1], (H0 v.2.2))) rfl ?_
 rcases qite h with ⟨hc66, h⟩ | ⟨hc66, h⟩
 ·refine zF Ad W (t := 81) (f := 35) rfl (XT.ii_ge_f hc66) ?_
  refine zS Ad W 2 (st' := (38, [vR 0, none, none, none, none, vI v.1, vI v.2.1, none], [.int v.2.1, .ref 0], (H0 v.2.2))) rfl ?_
  obtain ⟨r173, hr173, h⟩ := bind_eq_some_iff.mp h
  refine QTri.callP W (a := 0) (as := [.int v.2.1]) (rest := []) (w := none) (σ₁ := (H0 r173)) rfl rfl rfl rfl rfl rfl rfl rfl (tF10 Ad W v.2.2 v.2.1 hr173) ?_
  refine zS Ad W 3 (st' := (47, [vR 0, none, none, none, none, vI v.1, vI v.2.1, none], [.int v.2.1, .ref 2], (H0 r173))) rfl ?_
  obtain ⟨y174, hy174, h⟩ := bind_eq_some_iff.mp h
  refine zB Ad W (f := fun y174 => (48, [vR 0, none, none, none, none, vI v.1, vI v.2.1, none], [.int y174], (H0 r173))) rfl hy174 ?_
  refine zS Ad W 3 (st' := (53, [vR 0, none, none, none, none, vI v.1, vI v.2.1, vI y174], [.int (1:Int32), .int y174], (H0 r173))) rfl ?_
  rcases qite h with ⟨hc175, h⟩ | ⟨hc175, h⟩
  ·refine zT Ad W (t := 75) (f := 56) rfl (XT.ii_lt_t hc175) ?_
   exact zM [tt,ff,ff,ff,ff,tt,tt,ff] (tJ9_75 Ad W r173 v.1 v.2.1 h hx0 hc)
  ·refine zF Ad W (t := 75) (f := 56) rfl (XT.ii_lt_f hc175) ?_
   refine zS Ad W 3 (st' := (62, [vR 0, none, none, none, none, vI v.1, vI v.2.1, vI y174], [.int y174, .int (f_n r173)], (H0 r173))) rfl ?_
   obtain ⟨y176, hy176, h⟩ := bind_eq_some_iff.mp h
   refine zB Ad W (f := fun y176 => (63, [vR 0, none, none, none, none, vI v.1, vI v.2.1, vI y174], [.int y176], (H0 r173))) rfl hy176 ?_
   rcases qite h with ⟨hc177, h⟩ | ⟨hc177, h⟩
   ·refine zF Ad W (t := 75) (f := 66) rfl (XT.i0_ne_f hc177) ?_
    refine zS Ad W 2 (st' := (69, [vR 0, none, none, none, none, vI v.1, vI v.2.1, vI y174], [.int v.2.1, .ref 0], (H0 r173))) rfl ?_
    obtain ⟨r197, hr197, h⟩ := bind_eq_some_iff.mp h
    refine QTri.callP W (a := 0) (as := [.int v.2.1]) (rest := []) (w := none) (σ₁ := (H0 r197)) rfl rfl rfl rfl rfl rfl rfl rfl (tF16 Ad W r173 v.2.1 hr197) ?_
    refine zS Ad W 1 (st' := (75, [vR 0, none, none, none, none, vI (v.1 + (1:Int32)), vI v.2.1, vI y174], [], (H0 r197))) rfl ?_
    exact zM [tt,ff,ff,ff,ff,tt,tt,ff] (tJ9_75 Ad W r197 (v.1 + (1:Int32)) v.2.1 h hx0 hc)
   ·refine zT Ad W (t := 75) (f := 66) rfl (XT.i0_ne_t hc177) ?_
    exact zM [tt,ff,ff,ff,ff,tt,tt,ff] (tJ9_75 Ad W r173 v.1 v.2.1 h hx0 hc)
 ·refine zT Ad W (t := 81) (f := 35) rfl (XT.ii_ge_t hc66) ?_
  refine zS Ad W 1 (st' := (83, [vR 0, none, none, none, none, vI v.1, vI v.2.1, none], [.int v.1], (H0 v.2.2))) rfl ?_
  obtain rfl := Option.some.inj h
  obtain ⟨rfl, rfl⟩ := hx0 (v.1, v.2.2) rfl
  exact QTri.retI rfl rfl
/-- push(IIII)I -/
def F9 (o : Ob) (x1 : Int32) (x2 : Int32) (x3 : Int32) (x4 : Int32) : Option (Int32 × Ob) :=
 (F4 (s_n o ((f_n o) + (1:Int32))) (0:Int32) x1 x2 x3 x4).bind fun r65 => (loopN (B9_26) qN ((0:Int32), (0:Int32), r65)).bind fun e198 => some e198
theorem tF9 (Ad : QAd n0 ad) (W : QW Z a0) (o : Ob) (x1 : Int32) (x2 : Int32) (x3 : Int32) (x4 : Int32) {r : Int32 × Ob} (h : F9 o x1 x2 x3 x4 = some r) : QTri l Z n0 ad 9 (0, qentry [.ref 0, .int x1, .int x2, .int x3, .int x4] (pMaxL 9), [], (H0 o)) (some (Value.int r.1)) (H0 r.2) := by
 unfold F9 at h
 refine zS Ad W 6 (st' := (10, [vR 0, vI x1, vI x2, vI x3, vI x4, none, none, none], [], (H0x12 o ((f_n o) + (1:Int32))))) rfl ?_
 refine zS Ad W 6 (st' := (17, [vR 0, vI x1, vI x2, vI x3, vI x4, none, none, none], [.int x4, .int x3, .int x2, .int x1, .int (0:Int32), .ref 0], (H0x12 o ((f_n o) + (1:Int32))))) rfl ?_
 have E64 : ((H0x12 o ((f_n o) + (1:Int32))) : QHeap) = (H0 (s_n o ((f_n o) + (1:Int32)))) := by simp only [fs, H0, H0v, H0x12, s_n]
 rw [E64]
 obtain ⟨r65, hr65, h⟩ := bind_eq_some_iff.mp h
 refine QTri.callP W (a := 0) (as := [.int (0:Int32), .int x1, .int x2, .int x3, .int x4]) (rest := []) (w := none) (σ₁ := (H0 r65)) rfl rfl rfl rfl rfl rfl rfl rfl (tF4 Ad W (s_n o ((f_n o) + (1:Int32))) (0:Int32) x1 x2 x3 x4 hr65) ?_
 refine zS Ad W 4 (st' := (26, [vR 0, vI x1, vI x2, vI x3, vI x4, vI (0:Int32), vI (0:Int32), none], [], (H0 r65))) rfl ?_
 obtain ⟨e198, he198, h⟩ := bind_eq_some_iff.mp h
 refine zM [tt,ff,ff,ff,ff,tt,tt,ff] (loopN_tri (B := B9_26) (T := fun lv199 => QTri l Z n0 ad 9 (26, [vR 0, none, none, none, none, vI lv199.1, vI lv199.2.1, none], [], (H0 lv199.2.2)) (some (Value.int r.1)) (H0 r.2)) (KE := fun e198a => (some (Value.int r.1)) = (some (Value.int e198a.1)) ∧ (H0 r.2) = (H0 e198a.2)) (fun lv199 r hB hE hC => tB9_26 Ad W  lv199 hB (fun x q => hE _ q) (fun x q => hC x q)) qN ((0:Int32), (0:Int32), r65) e198 he198 ?_)
 obtain rfl := Option.some.inj h
 exact ⟨rfl, rfl⟩
/-- validQuery(I)Z -/
def F23 (o : Ob) (x1 : Int32) : Option (Int32) :=
 (if x1 < (0:Int32) then some (0:Int32) else (if x1 < (f_queries o) then (if x1 < (4:Int32) then some (1:Int32) else some (0:Int32)) else some (0:Int32)))
theorem tF23 (Ad : QAd n0 ad) (W : QW Z a0) (o : Ob) (x1 : Int32) {r : Int32} (h : F23 o x1 = some r) : QTri l Z n0 ad 23 (0, qentry [.ref 0, .int x1] (pMaxL 23), [], (H0 o)) (some (Value.int r)) (H0 o) := by
 unfold F23 at h
 refine zS Ad W 1 (st' := (1, [vR 0, vI x1], [.int x1], (H0 o))) rfl ?_
 rcases qite h with ⟨hc206, h⟩ | ⟨hc206, h⟩
 ·refine zT Ad W (t := 21) (f := 4) rfl (XT.i0_lt_t hc206) ?_
  refine zS Ad W 1 (st' := (22, [vR 0, vI x1], [.int (0:Int32)], (H0 o))) rfl ?_
  obtain rfl := Option.some.inj h
  exact QTri.retZ rfl rfl
 ·refine zF Ad W (t := 21) (f := 4) rfl (XT.i0_lt_f hc206) ?_
  refine zS Ad W 3 (st' := (9, [vR 0, vI x1], [.int (f_queries o), .int x1], (H0 o))) rfl ?_
  rcases qite h with ⟨hc207, h⟩ | ⟨hc207, h⟩
  ·refine zF Ad W (t := 21) (f := 12) rfl (XT.ii_ge_f hc207) ?_
   refine zS Ad W 2 (st' := (14, [vR 0, vI x1], [.int (4:Int32), .int x1], (H0 o))) rfl ?_
   rcases qite h with ⟨hc208, h⟩ | ⟨hc208, h⟩
   ·refine zF Ad W (t := 21) (f := 17) rfl (XT.ii_ge_f hc208) ?_
    refine zS Ad W 2 (st' := (22, [vR 0, vI x1], [.int (1:Int32)], (H0 o))) rfl ?_
    obtain rfl := Option.some.inj h
    exact QTri.retZ rfl rfl
   ·refine zT Ad W (t := 21) (f := 17) rfl (XT.ii_ge_t hc208) ?_
    refine zS Ad W 1 (st' := (22, [vR 0, vI x1], [.int (0:Int32)], (H0 o))) rfl ?_
    obtain rfl := Option.some.inj h
    exact QTri.retZ rfl rfl
  ·refine zT Ad W (t := 21) (f := 12) rfl (XT.ii_ge_t hc207) ?_
   refine zS Ad W 1 (st' := (22, [vR 0, vI x1], [.int (0:Int32)], (H0 o))) rfl ?_
   obtain rfl := Option.some.inj h
   exact QTri.retZ rfl rfl
/-- endOf(I)I -/
def F24 (o : Ob) (x1 : Int32) : Option (Int32) :=
 (aget (f_slide o) x1).bind fun y211 => (if y211 < (1:Int32) then some (0:Int32) else (qdiv (f_n o) y211).bind fun y213 => some (y211 * y213))
theorem tF24 (Ad : QAd n0 ad) (W : QW Z a0) (o : Ob) (x1 : Int32) {r : Int32} (h : F24 o x1 = some r) : QTri l Z n0 ad 24 (0, qentry [.ref 0, .int x1] (pMaxL 24), [], (H0 o)) (some (Value.int r)) (H0 o) := by
 unfold F24 at h
 refine zS Ad W 3 (st' := (5, [vR 0, vI x1, none], [.int x1, .ref 2], (H0 o))) rfl ?_
 obtain ⟨y211, hy211, h⟩ := bind_eq_some_iff.mp h
 refine zB Ad W (f := fun y211 => (6, [vR 0, vI x1, none], [.int y211], (H0 o))) rfl hy211 ?_
 refine zS Ad W 3 (st' := (9, [vR 0, vI x1, vI y211], [.int (1:Int32), .int y211], (H0 o))) rfl ?_
 rcases qite h with ⟨hc212, h⟩ | ⟨hc212, h⟩
 ·refine zF Ad W (t := 14) (f := 12) rfl (XT.ii_ge_f hc212) ?_
  refine zS Ad W 1 (st' := (13, [vR 0, vI x1, vI y211], [.int (0:Int32)], (H0 o))) rfl ?_
  obtain rfl := Option.some.inj h
  exact QTri.retI rfl rfl
 ·refine zT Ad W (t := 14) (f := 12) rfl (XT.ii_ge_t hc212) ?_
  refine zS Ad W 4 (st' := (20, [vR 0, vI x1, vI y211], [.int y211, .int (f_n o), .int y211], (H0 o))) rfl ?_
  obtain ⟨y213, hy213, h⟩ := bind_eq_some_iff.mp h
  refine zB Ad W (f := fun y213 => (21, [vR 0, vI x1, vI y211], [.int y213, .int y211], (H0 o))) rfl hy213 ?_
  refine zS Ad W 1 (st' := (22, [vR 0, vI x1, vI y211], [.int (y211 * y213)], (H0 o))) rfl ?_
  obtain rfl := Option.some.inj h
  exact QTri.retI rfl rfl
/-- windowStart(I)I -/
def F22 (o : Ob) (x1 : Int32) : Option (Int32) :=
 (F23 o x1).bind fun r209 => (if r209 = (0:Int32) then some (-1:Int32) else (F24 o x1).bind fun r214 => (aget (f_range o) x1).bind fun y215 => (if (r214 - y215) < (0:Int32) then some (0:Int32) else some (r214 - y215)))
theorem tF22 (Ad : QAd n0 ad) (W : QW Z a0) (o : Ob) (x1 : Int32) {r : Int32} (h : F22 o x1 = some r) : QTri l Z n0 ad 22 (0, qentry [.ref 0, .int x1] (pMaxL 22), [], (H0 o)) (some (Value.int r)) (H0 o) := by
 unfold F22 at h
 refine zS Ad W 2 (st' := (2, [vR 0, vI x1, none], [.int x1, .ref 0], (H0 o))) rfl ?_
 obtain ⟨r209, hr209, h⟩ := bind_eq_some_iff.mp h
 refine QTri.callP W (a := 0) (as := [.int x1]) (rest := []) (w := (some (.int r209))) (σ₁ := (H0 o)) rfl rfl rfl rfl rfl rfl rfl rfl (tF23 Ad W o x1 hr209) ?_
 rcases qite h with ⟨hc210, h⟩ | ⟨hc210, h⟩
 ·refine zF Ad W (t := 10) (f := 8) rfl (XT.i0_ne_f hc210) ?_
  refine zS Ad W 1 (st' := (9, [vR 0, vI x1, none], [.int (-1:Int32)], (H0 o))) rfl ?_
  obtain rfl := Option.some.inj h
  exact QTri.retI rfl rfl
 ·refine zT Ad W (t := 10) (f := 8) rfl (XT.i0_ne_t hc210) ?_
  refine zS Ad W 2 (st' := (12, [vR 0, vI x1, none], [.int x1, .ref 0], (H0 o))) rfl ?_
  obtain ⟨r214, hr214, h⟩ := bind_eq_some_iff.mp h
  refine QTri.callP W (a := 0) (as := [.int x1]) (rest := []) (w := (some (.int r214))) (σ₁ := (H0 o)) rfl rfl rfl rfl rfl rfl rfl rfl (tF24 Ad W o x1 hr214) ?_
  refine zS Ad W 3 (st' := (20, [vR 0, vI x1, none], [.int x1, .ref 1, .int r214], (H0 o))) rfl ?_
  obtain ⟨y215, hy215, h⟩ := bind_eq_some_iff.mp h
  refine zB Ad W (f := fun y215 => (21, [vR 0, vI x1, none], [.int y215, .int r214], (H0 o))) rfl hy215 ?_
  refine zS Ad W 3 (st' := (24, [vR 0, vI x1, vI (r214 - y215)], [.int (r214 - y215)], (H0 o))) rfl ?_
  rcases qite h with ⟨hc216, h⟩ | ⟨hc216, h⟩
  ·refine zF Ad W (t := 29) (f := 27) rfl (XT.i0_ge_f hc216) ?_
   refine zS Ad W 1 (st' := (28, [vR 0, vI x1, vI (r214 - y215)], [.int (0:Int32)], (H0 o))) rfl ?_
   obtain rfl := Option.some.inj h
   exact QTri.retI rfl rfl
  ·refine zT Ad W (t := 29) (f := 27) rfl (XT.i0_ge_t hc216) ?_
   refine zS Ad W 1 (st' := (30, [vR 0, vI x1, vI (r214 - y215)], [.int (r214 - y215)], (H0 o))) rfl ?_
   obtain rfl := Option.some.inj h
   exact QTri.retI rfl rfl
/-- windowEnd(I)I -/
def F25 (o : Ob) (x1 : Int32) : Option (Int32) :=
 (F23 o x1).bind fun r219 => (if r219 = (0:Int32) then some (-1:Int32) else (F24 o x1).bind fun r221 => some r221)
theorem tF25 (Ad : QAd n0 ad) (W : QW Z a0) (o : Ob) (x1 : Int32) {r : Int32} (h : F25 o x1 = some r) : QTri l Z n0 ad 25 (0, qentry [.ref 0, .int x1] (pMaxL 25), [], (H0 o)) (some (Value.int r)) (H0 o) := by
 unfold F25 at h
 refine zS Ad W 2 (st' := (2, [vR 0, vI x1], [.int x1, .ref 0], (H0 o))) rfl ?_
 obtain ⟨r219, hr219, h⟩ := bind_eq_some_iff.mp h
 refine QTri.callP W (a := 0) (as := [.int x1]) (rest := []) (w := (some (.int r219))) (σ₁ := (H0 o)) rfl rfl rfl rfl rfl rfl rfl rfl (tF23 Ad W o x1 hr219) ?_
 rcases qite h with ⟨hc220, h⟩ | ⟨hc220, h⟩
 ·refine zF Ad W (t := 10) (f := 8) rfl (XT.i0_ne_f hc220) ?_
  refine zS Ad W 1 (st' := (9, [vR 0, vI x1], [.int (-1:Int32)], (H0 o))) rfl ?_
  obtain rfl := Option.some.inj h
  exact QTri.retI rfl rfl
 ·refine zT Ad W (t := 10) (f := 8) rfl (XT.i0_ne_t hc220) ?_
  refine zS Ad W 2 (st' := (12, [vR 0, vI x1], [.int x1, .ref 0], (H0 o))) rfl ?_
  obtain ⟨r221, hr221, h⟩ := bind_eq_some_iff.mp h
  refine QTri.callP W (a := 0) (as := [.int x1]) (rest := []) (w := (some (.int r221))) (σ₁ := (H0 o)) rfl rfl rfl rfl rfl rfl rfl rfl (tF24 Ad W o x1 hr221) ?_
  obtain rfl := Option.some.inj h
  exact QTri.retI rfl rfl
/-- validEntry(I)Z -/
def F27 (x1 : Int32) : Option (Int32) :=
 (if x1 < (0:Int32) then some (0:Int32) else (if (3:Int32) < x1 then some (0:Int32) else some (1:Int32)))
theorem tF27 (Ad : QAd n0 ad) (W : QW Z a0) {a : Nat} {σ : QHeap} (x1 : Int32) {r : Int32} (h : F27 x1 = some r) : QTri l Z n0 ad 27 (0, qentry [.ref a, .int x1] (pMaxL 27), [], σ) (some (Value.int r)) σ := by
 unfold F27 at h
 refine zS Ad W 1 (st' := (1, [vR a, vI x1], [.int x1], σ)) rfl ?_
 rcases qite h with ⟨hc226, h⟩ | ⟨hc226, h⟩
 ·refine zT Ad W (t := 13) (f := 4) rfl (XT.i0_lt_t hc226) ?_
  refine zS Ad W 1 (st' := (14, [vR a, vI x1], [.int (0:Int32)], σ)) rfl ?_
  obtain rfl := Option.some.inj h
  exact QTri.retZ rfl rfl
 ·refine zF Ad W (t := 13) (f := 4) rfl (XT.i0_lt_f hc226) ?_
  refine zS Ad W 2 (st' := (6, [vR a, vI x1], [.int (3:Int32), .int x1], σ)) rfl ?_
  rcases qite h with ⟨hc227, h⟩ | ⟨hc227, h⟩
  ·refine zT Ad W (t := 13) (f := 9) rfl (XT.ii_gt_t hc227) ?_
   refine zS Ad W 1 (st' := (14, [vR a, vI x1], [.int (0:Int32)], σ)) rfl ?_
   obtain rfl := Option.some.inj h
   exact QTri.retZ rfl rfl
  ·refine zF Ad W (t := 13) (f := 9) rfl (XT.ii_gt_f hc227) ?_
   refine zS Ad W 2 (st' := (14, [vR a, vI x1], [.int (1:Int32)], σ)) rfl ?_
   obtain rfl := Option.some.inj h
   exact QTri.retZ rfl rfl
/-- result(II)I -/
def F26 (o : Ob) (x1 : Int32) (x2 : Int32) : Option (Int32) :=
 (F23 o x1).bind fun r224 => (if r224 = (0:Int32) then some (0:Int32) else (F27 x2).bind fun r228 => (if r228 = (0:Int32) then some (0:Int32) else (aget (f_snap o) ((x1 * (4:Int32)) + x2)).bind fun y230 => some y230))
theorem tF26 (Ad : QAd n0 ad) (W : QW Z a0) (o : Ob) (x1 : Int32) (x2 : Int32) {r : Int32} (h : F26 o x1 x2 = some r) : QTri l Z n0 ad 26 (0, qentry [.ref 0, .int x1, .int x2] (pMaxL 26), [], (H0 o)) (some (Value.int r)) (H0 o) := by
 unfold F26 at h
 refine zS Ad W 2 (st' := (2, [vR 0, vI x1, vI x2], [.int x1, .ref 0], (H0 o))) rfl ?_
 obtain ⟨r224, hr224, h⟩ := bind_eq_some_iff.mp h
 refine QTri.callP W (a := 0) (as := [.int x1]) (rest := []) (w := (some (.int r224))) (σ₁ := (H0 o)) rfl rfl rfl rfl rfl rfl rfl rfl (tF23 Ad W o x1 hr224) ?_
 rcases qite h with ⟨hc225, h⟩ | ⟨hc225, h⟩
 ·refine zF Ad W (t := 10) (f := 8) rfl (XT.i0_ne_f hc225) ?_
  refine zS Ad W 1 (st' := (9, [vR 0, vI x1, vI x2], [.int (0:Int32)], (H0 o))) rfl ?_
  obtain rfl := Option.some.inj h
  exact QTri.retI rfl rfl
 ·refine zT Ad W (t := 10) (f := 8) rfl (XT.i0_ne_t hc225) ?_
  refine zS Ad W 2 (st' := (12, [vR 0, vI x1, vI x2], [.int x2, .ref 0], (H0 o))) rfl ?_
  obtain ⟨r228, hr228, h⟩ := bind_eq_some_iff.mp h
  refine QTri.callP W (a := 0) (as := [.int x2]) (rest := []) (w := (some (.int r228))) (σ₁ := (H0 o)) rfl rfl rfl rfl rfl rfl rfl rfl (tF27 Ad W x2 hr228) ?_
  rcases qite h with ⟨hc229, h⟩ | ⟨hc229, h⟩
  ·refine zF Ad W (t := 20) (f := 18) rfl (XT.i0_ne_f hc229) ?_
   refine zS Ad W 1 (st' := (19, [vR 0, vI x1, vI x2], [.int (0:Int32)], (H0 o))) rfl ?_
   obtain rfl := Option.some.inj h
   exact QTri.retI rfl rfl
  ·refine zT Ad W (t := 20) (f := 18) rfl (XT.i0_ne_t hc229) ?_
   refine zS Ad W 7 (st' := (29, [vR 0, vI x1, vI x2], [.int ((x1 * (4:Int32)) + x2), .ref 8], (H0 o))) rfl ?_
   obtain ⟨y230, hy230, h⟩ := bind_eq_some_iff.mp h
   refine zB Ad W (f := fun y230 => (30, [vR 0, vI x1, vI x2], [.int y230], (H0 o))) rfl hy230 ?_
   obtain rfl := Option.some.inj h
   exact QTri.retI rfl rfl
/-- regEntry(II)I -/
def F30 (o : Ob) (x1 : Int32) (x2 : Int32) : Option (Int32) :=
 (F5 x1).bind fun r244 => (if r244 = (0:Int32) then some (0:Int32) else (F27 x2).bind fun r246 => (if r246 = (0:Int32) then some (0:Int32) else (aget (f_reg o) ((x1 * (4:Int32)) + x2)).bind fun y248 => some y248))
theorem tF30 (Ad : QAd n0 ad) (W : QW Z a0) (o : Ob) (x1 : Int32) (x2 : Int32) {r : Int32} (h : F30 o x1 x2 = some r) : QTri l Z n0 ad 30 (0, qentry [.ref 0, .int x1, .int x2] (pMaxL 30), [], (H0 o)) (some (Value.int r)) (H0 o) := by
 unfold F30 at h
 refine zS Ad W 2 (st' := (2, [vR 0, vI x1, vI x2], [.int x1, .ref 0], (H0 o))) rfl ?_
 obtain ⟨r244, hr244, h⟩ := bind_eq_some_iff.mp h
 refine QTri.callP W (a := 0) (as := [.int x1]) (rest := []) (w := (some (.int r244))) (σ₁ := (H0 o)) rfl rfl rfl rfl rfl rfl rfl rfl (tF5 Ad W x1 hr244) ?_
 rcases qite h with ⟨hc245, h⟩ | ⟨hc245, h⟩
 ·refine zT Ad W (t := 16) (f := 8) rfl (XT.i0_eq_t hc245) ?_
  refine zS Ad W 1 (st' := (17, [vR 0, vI x1, vI x2], [.int (0:Int32)], (H0 o))) rfl ?_
  obtain rfl := Option.some.inj h
  exact QTri.retI rfl rfl
 ·refine zF Ad W (t := 16) (f := 8) rfl (XT.i0_eq_f hc245) ?_
  refine zS Ad W 2 (st' := (10, [vR 0, vI x1, vI x2], [.int x2, .ref 0], (H0 o))) rfl ?_
  obtain ⟨r246, hr246, h⟩ := bind_eq_some_iff.mp h
  refine QTri.callP W (a := 0) (as := [.int x2]) (rest := []) (w := (some (.int r246))) (σ₁ := (H0 o)) rfl rfl rfl rfl rfl rfl rfl rfl (tF27 Ad W x2 hr246) ?_
  rcases qite h with ⟨hc247, h⟩ | ⟨hc247, h⟩
  ·refine zF Ad W (t := 18) (f := 16) rfl (XT.i0_ne_f hc247) ?_
   refine zS Ad W 1 (st' := (17, [vR 0, vI x1, vI x2], [.int (0:Int32)], (H0 o))) rfl ?_
   obtain rfl := Option.some.inj h
   exact QTri.retI rfl rfl
  ·refine zT Ad W (t := 18) (f := 16) rfl (XT.i0_ne_t hc247) ?_
   refine zS Ad W 7 (st' := (27, [vR 0, vI x1, vI x2], [.int ((x1 * (4:Int32)) + x2), .ref 9], (H0 o))) rfl ?_
   obtain ⟨y248, hy248, h⟩ := bind_eq_some_iff.mp h
   refine zB Ad W (f := fun y248 => (28, [vR 0, vI x1, vI x2], [.int y248], (H0 o))) rfl hy248 ?_
   obtain rfl := Option.some.inj h
   exact QTri.retI rfl rfl
/-- liveResult(II)I -/
def F28 (o : Ob) (x1 : Int32) (x2 : Int32) : Option (Int32 × Ob) :=
 (F23 o x1).bind fun r239 => (if r239 = (0:Int32) then some ((0:Int32), o) else (F27 x2).bind fun r241 => (if r241 = (0:Int32) then some ((0:Int32), o) else (F17 o x1 (3:Int32)).bind fun r243 => (F30 r243 (3:Int32) x2).bind fun r249 => some (r249, r243)))
theorem tF28 (Ad : QAd n0 ad) (W : QW Z a0) (o : Ob) (x1 : Int32) (x2 : Int32) {r : Int32 × Ob} (h : F28 o x1 x2 = some r) : QTri l Z n0 ad 28 (0, qentry [.ref 0, .int x1, .int x2] (pMaxL 28), [], (H0 o)) (some (Value.int r.1)) (H0 r.2) := by
 unfold F28 at h
 refine zS Ad W 2 (st' := (2, [vR 0, vI x1, vI x2], [.int x1, .ref 0], (H0 o))) rfl ?_
 obtain ⟨r239, hr239, h⟩ := bind_eq_some_iff.mp h
 refine QTri.callP W (a := 0) (as := [.int x1]) (rest := []) (w := (some (.int r239))) (σ₁ := (H0 o)) rfl rfl rfl rfl rfl rfl rfl rfl (tF23 Ad W o x1 hr239) ?_
 rcases qite h with ⟨hc240, h⟩ | ⟨hc240, h⟩
 ·refine zF Ad W (t := 10) (f := 8) rfl (XT.i0_ne_f hc240) ?_
  refine zS Ad W 1 (st' := (9, [vR 0, vI x1, vI x2], [.int (0:Int32)], (H0 o))) rfl ?_
  obtain rfl := Option.some.inj h
  exact QTri.retI rfl rfl
 ·refine zT Ad W (t := 10) (f := 8) rfl (XT.i0_ne_t hc240) ?_
  refine zS Ad W 2 (st' := (12, [vR 0, vI x1, vI x2], [.int x2, .ref 0], (H0 o))) rfl ?_
  obtain ⟨r241, hr241, h⟩ := bind_eq_some_iff.mp h
  refine QTri.callP W (a := 0) (as := [.int x2]) (rest := []) (w := (some (.int r241))) (σ₁ := (H0 o)) rfl rfl rfl rfl rfl rfl rfl rfl (tF27 Ad W x2 hr241) ?_
  rcases qite h with ⟨hc242, h⟩ | ⟨hc242, h⟩
  ·refine zF Ad W (t := 20) (f := 18) rfl (XT.i0_ne_f hc242) ?_
   refine zS Ad W 1 (st' := (19, [vR 0, vI x1, vI x2], [.int (0:Int32)], (H0 o))) rfl ?_
   obtain rfl := Option.some.inj h
   exact QTri.retI rfl rfl
  ·refine zT Ad W (t := 20) (f := 18) rfl (XT.i0_ne_t hc242) ?_
   refine zS Ad W 3 (st' := (23, [vR 0, vI x1, vI x2], [.int (3:Int32), .int x1, .ref 0], (H0 o))) rfl ?_
   obtain ⟨r243, hr243, h⟩ := bind_eq_some_iff.mp h
   refine QTri.callP W (a := 0) (as := [.int x1, .int (3:Int32)]) (rest := []) (w := none) (σ₁ := (H0 r243)) rfl rfl rfl rfl rfl rfl rfl rfl (tF17 Ad W o x1 (3:Int32) hr243) ?_
   refine zS Ad W 3 (st' := (29, [vR 0, vI x1, vI x2], [.int x2, .int (3:Int32), .ref 0], (H0 r243))) rfl ?_
   obtain ⟨r249, hr249, h⟩ := bind_eq_some_iff.mp h
   refine QTri.callP W (a := 0) (as := [.int (3:Int32), .int x2]) (rest := []) (w := (some (.int r249))) (σ₁ := (H0 r243)) rfl rfl rfl rfl rfl rfl rfl rfl (tF30 Ad W r243 (3:Int32) x2 hr249) ?_
   obtain rfl := Option.some.inj h
   exact QTri.retI rfl rfl
/-- the law -/
def F0 (x0 : Int32) (x1 : Int32) (x2 : Int32) (x3 : Int32) (x4 : Int32) (x5 : Int32) : Option (Int32 × QHeap) :=
 (F1 (1:Int32)).bind fun r50 => (F8 r50 (2:Int32) (2:Int32)).bind fun r62 => (if r62.1 = (0:Int32) then (F9 r62.2 x0 x1 x2 x3).bind fun r200 => (F9 r200.2 x4 x5 x0 x2).bind fun r201 => (F9 r201.2 x3 x4 x5 x1).bind fun r202 => (if r200.1 = (0:Int32) then (if r201.1 = (1:Int32) then (if r202.1 = (0:Int32) then (F22 r202.2 (0:Int32)).bind fun r217 => (if r217 = (0:Int32) then (F25 r202.2 (0:Int32)).bind fun r222 => (if r222 = (2:Int32) then (F26 r202.2 (0:Int32) (0:Int32)).bind fun r231 => (if r231 = ((x0 * x4) + (x1 * x0)) then (F26 r202.2 (0:Int32) (1:Int32)).bind fun r233 => (if r233 = ((x0 * x5) + (x1 * x2)) then (F26 r202.2 (0:Int32) (2:Int32)).bind fun r235 => (if r235 = ((x2 * x4) + (x3 * x0)) then (F26 r202.2 (0:Int32) (3:Int32)).bind fun r237 => (if r237 = ((x2 * x5) + (x3 * x2)) then (F28 r202.2 (0:Int32) (0:Int32)).bind fun r250 => (if r250.1 = ((x4 * x3) + (x5 * x5)) then (F28 r250.2 (0:Int32) (1:Int32)).bind fun r252 => (if r252.1 = ((x4 * x4) + (x5 * x1)) then (F28 r252.2 (0:Int32) (2:Int32)).bind fun r254 => (if r254.1 = ((x0 * x3) + (x2 * x5)) then (F28 r254.2 (0:Int32) (3:Int32)).bind fun r256 => (if r256.1 = ((x0 * x4) + (x2 * x1)) then some ((1:Int32), (H0 r256.2)) else some ((0:Int32), (H0 r256.2))) else some ((0:Int32), (H0 r254.2))) else some ((0:Int32), (H0 r252.2))) else some ((0:Int32), (H0 r250.2))) else some ((0:Int32), (H0 r202.2))) else some ((0:Int32), (H0 r202.2))) else some ((0:Int32), (H0 r202.2))) else some ((0:Int32), (H0 r202.2))) else some ((0:Int32), (H0 r202.2))) else some ((0:Int32), (H0 r202.2))) else some ((0:Int32), (H0 r202.2))) else some ((0:Int32), (H0 r202.2))) else some ((0:Int32), (H0 r202.2))) else some ((0:Int32), (H0 r62.2)))
theorem tF0 (Ad : QAd n0 ad) (W : QW Z a0) (x0 : Int32) (x1 : Int32) (x2 : Int32) (x3 : Int32) (x4 : Int32) (x5 : Int32) {r : Int32 × QHeap} (h : F0 x0 x1 x2 x3 x4 x5 = some r) : QTri l Z n0 ad 0 (0, qentry [.int x0, .int x1, .int x2, .int x3, .int x4, .int x5] (pMaxL 0), [], []) (some (Value.int r.1)) r.2 := by
 unfold F0 at h
 refine zS Ad W 1 (st' := (3, [vI x0, vI x1, vI x2, vI x3, vI x4, vI x5, none, none, none, none], [.ref 0], [.inl [.int (f_regTuple ob0), .int (f_regA ob0), .int (f_regB ob0), .int (f_regC ob0), .int (f_regCount ob0), .int (f_slots ob0), .null, .null, .null, .null, .null, .null, .null, .null, .null, .int (f_capacity ob0), .int (f_queries ob0), .int (f_n ob0)]])) rfl ?_
 refine zS Ad W 2 (st' := (5, [vI x0, vI x1, vI x2, vI x3, vI x4, vI x5, none, none, none, none], [.int (1:Int32), .ref 0, .ref 0], [.inl [.int (f_regTuple ob0), .int (f_regA ob0), .int (f_regB ob0), .int (f_regC ob0), .int (f_regCount ob0), .int (f_slots ob0), .null, .null, .null, .null, .null, .null, .null, .null, .null, .int (f_capacity ob0), .int (f_queries ob0), .int (f_n ob0)]])) rfl ?_
 obtain ⟨r50, hr50, h⟩ := bind_eq_some_iff.mp h
 refine QTri.callI W (a := 0) (as := [.int (1:Int32)]) (rest := [.ref 0]) (σ₁ := (H0 r50)) rfl rfl rfl rfl rfl rfl (tF1 Ad W (1:Int32) hr50) ?_
 refine zS Ad W 4 (st' := (14, [vI x0, vI x1, vI x2, vI x3, vI x4, vI x5, vR 0, none, none, none], [.int (2:Int32), .int (2:Int32), .ref 0], (H0 r50))) rfl ?_
 obtain ⟨r62, hr62, h⟩ := bind_eq_some_iff.mp h
 refine QTri.callV W (a := 0) (as := [.int (2:Int32), .int (2:Int32)]) (rest := []) (w := (some (.int r62.1))) (σ₁ := (H0 r62.2)) rfl rfl rfl rfl rfl rfl rfl rfl (tF8 Ad W r50 (2:Int32) (2:Int32) hr62) ?_
 rcases qite h with ⟨hc63, h⟩ | ⟨hc63, h⟩
 ·refine zT Ad W (t := 22) (f := 20) rfl (XT.i0_eq_t hc63) ?_
  refine zS Ad W 5 (st' := (28, [vI x0, vI x1, vI x2, vI x3, vI x4, vI x5, vR 0, none, none, none], [.int x3, .int x2, .int x1, .int x0, .ref 0], (H0 r62.2))) rfl ?_
  obtain ⟨r200, hr200, h⟩ := bind_eq_some_iff.mp h
  refine QTri.callV W (a := 0) (as := [.int x0, .int x1, .int x2, .int x3]) (rest := []) (w := (some (.int r200.1))) (σ₁ := (H0 r200.2)) rfl rfl rfl rfl rfl rfl rfl rfl (tF9 Ad W r62.2 x0 x1 x2 x3 hr200) ?_
  refine zS Ad W 6 (st' := (41, [vI x0, vI x1, vI x2, vI x3, vI x4, vI x5, vR 0, vI r200.1, none, none], [.int x2, .int x0, .int x5, .int x4, .ref 0], (H0 r200.2))) rfl ?_
  obtain ⟨r201, hr201, h⟩ := bind_eq_some_iff.mp h
  refine QTri.callV W (a := 0) (as := [.int x4, .int x5, .int x0, .int x2]) (rest := []) (w := (some (.int r201.1))) (σ₁ := (H0 r201.2)) rfl rfl rfl rfl rfl rfl rfl rfl (tF9 Ad W r200.2 x4 x5 x0 x2 hr201) ?_
  refine zS Ad W 6 (st' := (54, [vI x0, vI x1, vI x2, vI x3, vI x4, vI x5, vR 0, vI r200.1, vI r201.1, none], [.int x1, .int x5, .int x4, .int x3, .ref 0], (H0 r201.2))) rfl ?_
  obtain ⟨r202, hr202, h⟩ := bind_eq_some_iff.mp h
  refine QTri.callV W (a := 0) (as := [.int x3, .int x4, .int x5, .int x1]) (rest := []) (w := (some (.int r202.1))) (σ₁ := (H0 r202.2)) rfl rfl rfl rfl rfl rfl rfl rfl (tF9 Ad W r201.2 x3 x4 x5 x1 hr202) ?_
  refine zS Ad W 2 (st' := (61, [vI x0, vI x1, vI x2, vI x3, vI x4, vI x5, vR 0, vI r200.1, vI r201.1, vI r202.1], [.int r200.1], (H0 r202.2))) rfl ?_
  rcases qite h with ⟨hc203, h⟩ | ⟨hc203, h⟩
  ·refine zF Ad W (t := 75) (f := 64) rfl (XT.i0_ne_f hc203) ?_
   refine zS Ad W 2 (st' := (67, [vI x0, vI x1, vI x2, vI x3, vI x4, vI x5, vR 0, vI r200.1, vI r201.1, vI r202.1], [.int (1:Int32), .int r201.1], (H0 r202.2))) rfl ?_
   rcases qite h with ⟨hc204, h⟩ | ⟨hc204, h⟩
   ·refine zF Ad W (t := 75) (f := 70) rfl (XT.ii_ne_f hc204) ?_
    refine zS Ad W 1 (st' := (72, [vI x0, vI x1, vI x2, vI x3, vI x4, vI x5, vR 0, vI r200.1, vI r201.1, vI r202.1], [.int r202.1], (H0 r202.2))) rfl ?_
    rcases qite h with ⟨hc205, h⟩ | ⟨hc205, h⟩
    ·refine zT Ad W (t := 77) (f := 75) rfl (XT.i0_eq_t hc205) ?_
     refine zS Ad W 2 (st' := (80, [vI x0, vI x1, vI x2, vI x3, vI x4, vI x5, vR 0, vI r200.1, vI r201.1, vI r202.1], [.int (0:Int32), .ref 0], (H0 r202.2))) rfl ?_
     obtain ⟨r217, hr217, h⟩ := bind_eq_some_iff.mp h
     refine QTri.callV W (a := 0) (as := [.int (0:Int32)]) (rest := []) (w := (some (.int r217))) (σ₁ := (H0 r202.2)) rfl rfl rfl rfl rfl rfl rfl rfl (tF22 Ad W r202.2 (0:Int32) hr217) ?_
     rcases qite h with ⟨hc218, h⟩ | ⟨hc218, h⟩
     ·refine zF Ad W (t := 96) (f := 86) rfl (XT.i0_ne_f hc218) ?_
      refine zS Ad W 2 (st' := (89, [vI x0, vI x1, vI x2, vI x3, vI x4, vI x5, vR 0, vI r200.1, vI r201.1, vI r202.1], [.int (0:Int32), .ref 0], (H0 r202.2))) rfl ?_
      obtain ⟨r222, hr222, h⟩ := bind_eq_some_iff.mp h
      refine QTri.callV W (a := 0) (as := [.int (0:Int32)]) (rest := []) (w := (some (.int r222))) (σ₁ := (H0 r202.2)) rfl rfl rfl rfl rfl rfl rfl rfl (tF25 Ad W r202.2 (0:Int32) hr222) ?_
      refine zS Ad W 1 (st' := (93, [vI x0, vI x1, vI x2, vI x3, vI x4, vI x5, vR 0, vI r200.1, vI r201.1, vI r202.1], [.int (2:Int32), .int r222], (H0 r202.2))) rfl ?_
      rcases qite h with ⟨hc223, h⟩ | ⟨hc223, h⟩
      ·refine zT Ad W (t := 98) (f := 96) rfl (XT.ii_eq_t hc223) ?_
       refine zS Ad W 3 (st' := (102, [vI x0, vI x1, vI x2, vI x3, vI x4, vI x5, vR 0, vI r200.1, vI r201.1, vI r202.1], [.int (0:Int32), .int (0:Int32), .ref 0], (H0 r202.2))) rfl ?_
       obtain ⟨r231, hr231, h⟩ := bind_eq_some_iff.mp h
       refine QTri.callV W (a := 0) (as := [.int (0:Int32), .int (0:Int32)]) (rest := []) (w := (some (.int r231))) (σ₁ := (H0 r202.2)) rfl rfl rfl rfl rfl rfl rfl rfl (tF26 Ad W r202.2 (0:Int32) (0:Int32) hr231) ?_
       refine zS Ad W 7 (st' := (113, [vI x0, vI x1, vI x2, vI x3, vI x4, vI x5, vR 0, vI r200.1, vI r201.1, vI r202.1], [.int ((x0 * x4) + (x1 * x0)), .int r231], (H0 r202.2))) rfl ?_
       rcases qite h with ⟨hc232, h⟩ | ⟨hc232, h⟩
       ·refine zT Ad W (t := 118) (f := 116) rfl (XT.ii_eq_t hc232) ?_
        refine zS Ad W 3 (st' := (122, [vI x0, vI x1, vI x2, vI x3, vI x4, vI x5, vR 0, vI r200.1, vI r201.1, vI r202.1], [.int (1:Int32), .int (0:Int32), .ref 0], (H0 r202.2))) rfl ?_
        obtain ⟨r233, hr233, h⟩ := bind_eq_some_iff.mp h
        refine QTri.callV W (a := 0) (as := [.int (0:Int32), .int (1:Int32)]) (rest := []) (w := (some (.int r233))) (σ₁ := (H0 r202.2)) rfl rfl rfl rfl rfl rfl rfl rfl (tF26 Ad W r202.2 (0:Int32) (1:Int32) hr233) ?_
        refine zS Ad W 7 (st' := (133, [vI x0, vI x1, vI x2, vI x3, vI x4, vI x5, vR 0, vI r200.1, vI r201.1, vI r202.1], [.int ((x0 * x5) + (x1 * x2)), .int r233], (H0 r202.2))) rfl ?_
        rcases qite h with ⟨hc234, h⟩ | ⟨hc234, h⟩
        ·refine zT Ad W (t := 138) (f := 136) rfl (XT.ii_eq_t hc234) ?_
         refine zS Ad W 3 (st' := (142, [vI x0, vI x1, vI x2, vI x3, vI x4, vI x5, vR 0, vI r200.1, vI r201.1, vI r202.1], [.int (2:Int32), .int (0:Int32), .ref 0], (H0 r202.2))) rfl ?_
         obtain ⟨r235, hr235, h⟩ := bind_eq_some_iff.mp h
         refine QTri.callV W (a := 0) (as := [.int (0:Int32), .int (2:Int32)]) (rest := []) (w := (some (.int r235))) (σ₁ := (H0 r202.2)) rfl rfl rfl rfl rfl rfl rfl rfl (tF26 Ad W r202.2 (0:Int32) (2:Int32) hr235) ?_
         refine zS Ad W 7 (st' := (153, [vI x0, vI x1, vI x2, vI x3, vI x4, vI x5, vR 0, vI r200.1, vI r201.1, vI r202.1], [.int ((x2 * x4) + (x3 * x0)), .int r235], (H0 r202.2))) rfl ?_
         rcases qite h with ⟨hc236, h⟩ | ⟨hc236, h⟩
         ·refine zT Ad W (t := 158) (f := 156) rfl (XT.ii_eq_t hc236) ?_
          refine zS Ad W 3 (st' := (162, [vI x0, vI x1, vI x2, vI x3, vI x4, vI x5, vR 0, vI r200.1, vI r201.1, vI r202.1], [.int (3:Int32), .int (0:Int32), .ref 0], (H0 r202.2))) rfl ?_
          obtain ⟨r237, hr237, h⟩ := bind_eq_some_iff.mp h
          refine QTri.callV W (a := 0) (as := [.int (0:Int32), .int (3:Int32)]) (rest := []) (w := (some (.int r237))) (σ₁ := (H0 r202.2)) rfl rfl rfl rfl rfl rfl rfl rfl (tF26 Ad W r202.2 (0:Int32) (3:Int32) hr237) ?_
          refine zS Ad W 7 (st' := (173, [vI x0, vI x1, vI x2, vI x3, vI x4, vI x5, vR 0, vI r200.1, vI r201.1, vI r202.1], [.int ((x2 * x5) + (x3 * x2)), .int r237], (H0 r202.2))) rfl ?_
          rcases qite h with ⟨hc238, h⟩ | ⟨hc238, h⟩
          ·refine zT Ad W (t := 178) (f := 176) rfl (XT.ii_eq_t hc238) ?_
           refine zS Ad W 3 (st' := (182, [vI x0, vI x1, vI x2, vI x3, vI x4, vI x5, vR 0, vI r200.1, vI r201.1, vI r202.1], [.int (0:Int32), .int (0:Int32), .ref 0], (H0 r202.2))) rfl ?_
           obtain ⟨r250, hr250, h⟩ := bind_eq_some_iff.mp h
           refine QTri.callV W (a := 0) (as := [.int (0:Int32), .int (0:Int32)]) (rest := []) (w := (some (.int r250.1))) (σ₁ := (H0 r250.2)) rfl rfl rfl rfl rfl rfl rfl rfl (tF28 Ad W r202.2 (0:Int32) (0:Int32) hr250) ?_
           refine zS Ad W 7 (st' := (195, [vI x0, vI x1, vI x2, vI x3, vI x4, vI x5, vR 0, vI r200.1, vI r201.1, vI r202.1], [.int ((x4 * x3) + (x5 * x5)), .int r250.1], (H0 r250.2))) rfl ?_
           rcases qite h with ⟨hc251, h⟩ | ⟨hc251, h⟩
           ·refine zT Ad W (t := 200) (f := 198) rfl (XT.ii_eq_t hc251) ?_
            refine zS Ad W 3 (st' := (204, [vI x0, vI x1, vI x2, vI x3, vI x4, vI x5, vR 0, vI r200.1, vI r201.1, vI r202.1], [.int (1:Int32), .int (0:Int32), .ref 0], (H0 r250.2))) rfl ?_
            obtain ⟨r252, hr252, h⟩ := bind_eq_some_iff.mp h
            refine QTri.callV W (a := 0) (as := [.int (0:Int32), .int (1:Int32)]) (rest := []) (w := (some (.int r252.1))) (σ₁ := (H0 r252.2)) rfl rfl rfl rfl rfl rfl rfl rfl (tF28 Ad W r250.2 (0:Int32) (1:Int32) hr252) ?_
            refine zS Ad W 7 (st' := (217, [vI x0, vI x1, vI x2, vI x3, vI x4, vI x5, vR 0, vI r200.1, vI r201.1, vI r202.1], [.int ((x4 * x4) + (x5 * x1)), .int r252.1], (H0 r252.2))) rfl ?_
            rcases qite h with ⟨hc253, h⟩ | ⟨hc253, h⟩
            ·refine zT Ad W (t := 222) (f := 220) rfl (XT.ii_eq_t hc253) ?_
             refine zS Ad W 3 (st' := (226, [vI x0, vI x1, vI x2, vI x3, vI x4, vI x5, vR 0, vI r200.1, vI r201.1, vI r202.1], [.int (2:Int32), .int (0:Int32), .ref 0], (H0 r252.2))) rfl ?_
             obtain ⟨r254, hr254, h⟩ := bind_eq_some_iff.mp h
             refine QTri.callV W (a := 0) (as := [.int (0:Int32), .int (2:Int32)]) (rest := []) (w := (some (.int r254.1))) (σ₁ := (H0 r254.2)) rfl rfl rfl rfl rfl rfl rfl rfl (tF28 Ad W r252.2 (0:Int32) (2:Int32) hr254) ?_
             refine zS Ad W 7 (st' := (237, [vI x0, vI x1, vI x2, vI x3, vI x4, vI x5, vR 0, vI r200.1, vI r201.1, vI r202.1], [.int ((x0 * x3) + (x2 * x5)), .int r254.1], (H0 r254.2))) rfl ?_
             rcases qite h with ⟨hc255, h⟩ | ⟨hc255, h⟩
             ·refine zT Ad W (t := 242) (f := 240) rfl (XT.ii_eq_t hc255) ?_
              refine zS Ad W 3 (st' := (246, [vI x0, vI x1, vI x2, vI x3, vI x4, vI x5, vR 0, vI r200.1, vI r201.1, vI r202.1], [.int (3:Int32), .int (0:Int32), .ref 0], (H0 r254.2))) rfl ?_
              obtain ⟨r256, hr256, h⟩ := bind_eq_some_iff.mp h
              refine QTri.callV W (a := 0) (as := [.int (0:Int32), .int (3:Int32)]) (rest := []) (w := (some (.int r256.1))) (σ₁ := (H0 r256.2)) rfl rfl rfl rfl rfl rfl rfl rfl (tF28 Ad W r254.2 (0:Int32) (3:Int32) hr256) ?_
              refine zS Ad W 7 (st' := (257, [vI x0, vI x1, vI x2, vI x3, vI x4, vI x5, vR 0, vI r200.1, vI r201.1, vI r202.1], [.int ((x0 * x4) + (x2 * x1)), .int r256.1], (H0 r256.2))) rfl ?_
              rcases qite h with ⟨hc257, h⟩ | ⟨hc257, h⟩
              ·refine zT Ad W (t := 262) (f := 260) rfl (XT.ii_eq_t hc257) ?_
               refine zS Ad W 1 (st' := (263, [vI x0, vI x1, vI x2, vI x3, vI x4, vI x5, vR 0, vI r200.1, vI r201.1, vI r202.1], [.int (1:Int32)], (H0 r256.2))) rfl ?_
               obtain rfl := Option.some.inj h
               exact QTri.retZ rfl rfl
              ·refine zF Ad W (t := 262) (f := 260) rfl (XT.ii_eq_f hc257) ?_
               refine zS Ad W 1 (st' := (261, [vI x0, vI x1, vI x2, vI x3, vI x4, vI x5, vR 0, vI r200.1, vI r201.1, vI r202.1], [.int (0:Int32)], (H0 r256.2))) rfl ?_
               obtain rfl := Option.some.inj h
               exact QTri.retZ rfl rfl
             ·refine zF Ad W (t := 242) (f := 240) rfl (XT.ii_eq_f hc255) ?_
              refine zS Ad W 1 (st' := (241, [vI x0, vI x1, vI x2, vI x3, vI x4, vI x5, vR 0, vI r200.1, vI r201.1, vI r202.1], [.int (0:Int32)], (H0 r254.2))) rfl ?_
              obtain rfl := Option.some.inj h
              exact QTri.retZ rfl rfl
            ·refine zF Ad W (t := 222) (f := 220) rfl (XT.ii_eq_f hc253) ?_
             refine zS Ad W 1 (st' := (221, [vI x0, vI x1, vI x2, vI x3, vI x4, vI x5, vR 0, vI r200.1, vI r201.1, vI r202.1], [.int (0:Int32)], (H0 r252.2))) rfl ?_
             obtain rfl := Option.some.inj h
             exact QTri.retZ rfl rfl
           ·refine zF Ad W (t := 200) (f := 198) rfl (XT.ii_eq_f hc251) ?_
            refine zS Ad W 1 (st' := (199, [vI x0, vI x1, vI x2, vI x3, vI x4, vI x5, vR 0, vI r200.1, vI r201.1, vI r202.1], [.int (0:Int32)], (H0 r250.2))) rfl ?_
            obtain rfl := Option.some.inj h
            exact QTri.retZ rfl rfl
          ·refine zF Ad W (t := 178) (f := 176) rfl (XT.ii_eq_f hc238) ?_
           refine zS Ad W 1 (st' := (177, [vI x0, vI x1, vI x2, vI x3, vI x4, vI x5, vR 0, vI r200.1, vI r201.1, vI r202.1], [.int (0:Int32)], (H0 r202.2))) rfl ?_
           obtain rfl := Option.some.inj h
           exact QTri.retZ rfl rfl
         ·refine zF Ad W (t := 158) (f := 156) rfl (XT.ii_eq_f hc236) ?_
          refine zS Ad W 1 (st' := (157, [vI x0, vI x1, vI x2, vI x3, vI x4, vI x5, vR 0, vI r200.1, vI r201.1, vI r202.1], [.int (0:Int32)], (H0 r202.2))) rfl ?_
          obtain rfl := Option.some.inj h
          exact QTri.retZ rfl rfl
        ·refine zF Ad W (t := 138) (f := 136) rfl (XT.ii_eq_f hc234) ?_
         refine zS Ad W 1 (st' := (137, [vI x0, vI x1, vI x2, vI x3, vI x4, vI x5, vR 0, vI r200.1, vI r201.1, vI r202.1], [.int (0:Int32)], (H0 r202.2))) rfl ?_
         obtain rfl := Option.some.inj h
         exact QTri.retZ rfl rfl
       ·refine zF Ad W (t := 118) (f := 116) rfl (XT.ii_eq_f hc232) ?_
        refine zS Ad W 1 (st' := (117, [vI x0, vI x1, vI x2, vI x3, vI x4, vI x5, vR 0, vI r200.1, vI r201.1, vI r202.1], [.int (0:Int32)], (H0 r202.2))) rfl ?_
        obtain rfl := Option.some.inj h
        exact QTri.retZ rfl rfl
      ·refine zF Ad W (t := 98) (f := 96) rfl (XT.ii_eq_f hc223) ?_
       refine zS Ad W 1 (st' := (97, [vI x0, vI x1, vI x2, vI x3, vI x4, vI x5, vR 0, vI r200.1, vI r201.1, vI r202.1], [.int (0:Int32)], (H0 r202.2))) rfl ?_
       obtain rfl := Option.some.inj h
       exact QTri.retZ rfl rfl
     ·refine zT Ad W (t := 96) (f := 86) rfl (XT.i0_ne_t hc218) ?_
      refine zS Ad W 1 (st' := (97, [vI x0, vI x1, vI x2, vI x3, vI x4, vI x5, vR 0, vI r200.1, vI r201.1, vI r202.1], [.int (0:Int32)], (H0 r202.2))) rfl ?_
      obtain rfl := Option.some.inj h
      exact QTri.retZ rfl rfl
    ·refine zF Ad W (t := 77) (f := 75) rfl (XT.i0_eq_f hc205) ?_
     refine zS Ad W 1 (st' := (76, [vI x0, vI x1, vI x2, vI x3, vI x4, vI x5, vR 0, vI r200.1, vI r201.1, vI r202.1], [.int (0:Int32)], (H0 r202.2))) rfl ?_
     obtain rfl := Option.some.inj h
     exact QTri.retZ rfl rfl
   ·refine zT Ad W (t := 75) (f := 70) rfl (XT.ii_ne_t hc204) ?_
    refine zS Ad W 1 (st' := (76, [vI x0, vI x1, vI x2, vI x3, vI x4, vI x5, vR 0, vI r200.1, vI r201.1, vI r202.1], [.int (0:Int32)], (H0 r202.2))) rfl ?_
    obtain rfl := Option.some.inj h
    exact QTri.retZ rfl rfl
  ·refine zT Ad W (t := 75) (f := 64) rfl (XT.i0_ne_t hc203) ?_
   refine zS Ad W 1 (st' := (76, [vI x0, vI x1, vI x2, vI x3, vI x4, vI x5, vR 0, vI r200.1, vI r201.1, vI r202.1], [.int (0:Int32)], (H0 r202.2))) rfl ?_
   obtain rfl := Option.some.inj h
   exact QTri.retZ rfl rfl
 ·refine zF Ad W (t := 22) (f := 20) rfl (XT.i0_eq_f hc63) ?_
  refine zS Ad W 1 (st' := (21, [vI x0, vI x1, vI x2, vI x3, vI x4, vI x5, vR 0, none, none, none], [.int (0:Int32)], (H0 r62.2))) rfl ?_
  obtain rfl := Option.some.inj h
  exact QTri.retZ rfl rfl
end Walks
set_option maxHeartbeats 4000000
theorem i_lt {x y : Int32} : x < y ↔ x.toInt < y.toInt := Int32.lt_iff_toInt_lt
theorem i_eq {x y : Int32} : x = y ↔ x.toInt = y.toInt := Int32.toInt_inj.symm
theorem i_lo (x : Int32) : -2147483648 ≤ x.toInt := Int32.le_toInt x
theorem i_hi (x : Int32) : x.toInt < 2147483648 := Int32.toInt_lt x
theorem i_add {x y : Int32} (h1 : -2147483648 ≤ x.toInt + y.toInt) (h2 : x.toInt + y.toInt < 2147483648) : (x + y).toInt = x.toInt + y.toInt := XT.add32 ⟨h1, by omega⟩
theorem i_sub {x y : Int32} (h1 : -2147483648 ≤ x.toInt - y.toInt) (h2 : x.toInt - y.toInt < 2147483648) : (x - y).toInt = x.toInt - y.toInt := XT.sub32 ⟨h1, by omega⟩
theorem i_mul {x y : Int32} (h1 : -2147483648 ≤ x.toInt * y.toInt) (h2 : x.toInt * y.toInt < 2147483648) : (x * y).toInt = x.toInt * y.toInt := XT.mul32 ⟨h1, by omega⟩
theorem i_nat (x : Int32) : x.toNatClampNeg = x.toInt.toNat := rfl
theorem aget_at {α : Type} {xs : List α} {j : Int32} {n : Nat} (hj : j.toInt = n) (hn : n < xs.length) : aget xs j = some xs[n] := by
 have h0 : ¬ j < 0 := by rw [i_lt]; show ¬ j.toInt < 0; omega
 unfold aget
 rw [if_neg h0, i_nat, hj]
 simp [hn]
theorem aget_rep {α : Type} {m : Nat} {a : α} {j : Int32} (h0 : 0 ≤ j.toInt) (h1 : j.toInt < m) : aget (List.replicate m a) j = some a := by
 rw [aget_at (n := j.toInt.toNat) (by omega) (by rw [List.length_replicate]; omega)]
 simp
theorem aset_at {α : Type} {xs : List α} {j : Int32} {n : Nat} {v : α} (hj : j.toInt = n) (hn : n < xs.length) : aset xs j v = some (xs.set n v) := by
 have h0 : ¬ j < 0 := by rw [i_lt]; show ¬ j.toInt < 0; omega
 unfold aset
 have e : j.toNatClampNeg = n := by rw [i_nat, hj]; simp
 rw [if_neg h0, e, if_pos hn]
theorem rep_set {α : Type} (m k : Nat) (a : α) : (List.replicate m a).set k a = List.replicate m a := by
 apply List.ext_getElem (by simp)
 intro i h1 h2
 rw [List.getElem_set]
 split <;> simp
theorem small_cases {x : Int32} (h0 : 0 ≤ x.toInt) {n : Nat} (h1 : x.toInt < n) {P : Int32 → Prop} (h : ∀ m : Nat, m < n → P (Int32.ofInt m)) : P x := by
 have e : Int32.ofInt (x.toInt.toNat : Nat) = x := by
  rw [Int.toNat_of_nonneg h0, Int32.ofInt_toInt]
 rw [← e]
 exact h _ (by omega)
theorem bit_ne {x : Int32} (h0 : 0 ≤ x.toInt) (h1 : x.toInt < 32) : ¬ (((1 : Int32) <<< (x &&& 31)) &&& ((1 : Int32) <<< (x &&& 31))) = 0 :=
 small_cases (P := fun x => ¬ (((1 : Int32) <<< (x &&& 31)) &&& ((1 : Int32) <<< (x &&& 31))) = 0) h0 (n := 32) h1 (by decide)
def okP {α : Type} (m : Option α) (P : α → Prop) : Prop := ∃ a, m = some a ∧ P a
theorem okP.some {α : Type} {a : α} {P : α → Prop} (h : P a) : okP (some a) P := ⟨a, rfl, h⟩
theorem okP.bind {α β : Type} {m : Option α} {f : α → Option β} {P : β → Prop} (h : okP m fun a => okP (f a) P) : okP (m.bind f) P := by
 obtain ⟨a, e, b, e2, h2⟩ := h
 exact ⟨b, by rw [e]; exact e2, h2⟩
theorem okP.ite {α : Type} {c : Prop} [Decidable c] {a b : Option α} {P : α → Prop} (h1 : c → okP a P) (h2 : ¬ c → okP b P) : okP (if c then a else b) P := by
 by_cases h : c
 ·rw [if_pos h]; exact h1 h
 ·rw [if_neg h]; exact h2 h
theorem okP.mono {α : Type} {m : Option α} {P Q : α → Prop} (h : okP m P) (k : ∀ a, P a → Q a) : okP m Q := by
 obtain ⟨a, e, h⟩ := h
 exact ⟨a, e, k a h⟩
theorem okP.of {α : Type} {m : Option α} {a : α} {P : α → Prop} (e : m = Option.some a) (h : P a) : okP m P := ⟨a, e, h⟩
theorem okP.aget {α : Type} {xs : List α} {j : Int32} {P : α → Prop} (h0 : 0 ≤ j.toInt) (h1 : j.toInt < xs.length) (k : ∀ v, xs[j.toInt.toNat]? = Option.some v → P v) : okP (aget xs j) P :=
 ⟨_, aget_at (n := j.toInt.toNat) (by omega) (by omega), k _ (List.getElem?_eq_getElem _)⟩
theorem okP.aset {α : Type} {xs : List α} {j : Int32} {v : α} {P : List α → Prop} (h0 : 0 ≤ j.toInt) (h1 : j.toInt < xs.length) (k : P (xs.set j.toInt.toNat v)) : okP (aset xs j v) P :=
 ⟨_, aset_at (n := j.toInt.toNat) (by omega) (by omega), k⟩
theorem okP.loop {V E : Type} {B : V → Option (E ⊕ V)} {P : E → Prop} {n : Nat} {v : V} (I : V → Prop) (μ : V → Nat) (hv : I v) (hm : μ v < n) (hB : ∀ v, I v → okP (B v) (fun r => Sum.elim P (fun v' => I v' ∧ μ v' < μ v) r)) : okP (loopN B n v) P := by
 refine loopN_inv I P μ ?_ n v hv hm
 intro v hv
 obtain ⟨r, e, h⟩ := hB v hv
 cases r with
 | inl x => exact Or.inl ⟨x, e, h⟩
 | inr x => exact Or.inr ⟨x, e, h⟩
theorem len_i {n : Nat} (h : n ≤ 1000) : (n.toInt32).toInt = n := by
 have e : n.toInt32 = Int32.ofInt n := rfl
 rw [e, Int32.toInt_ofInt_of_le (by show _ ≤ (n : Int); omega) (by show (n : Int) < _; omega)]
theorem and1 (x : Int32) : x &&& 1 = 0 ∨ x &&& 1 = 1 := by
 have e : (x &&& 1).toBitVec = x.toBitVec &&& 1#32 := rfl
 have h := BitVec.and_one_eq_setWidth_ofBool_getLsbD (x := x.toBitVec)
 cases g : x.toBitVec.getLsbD 0
 ·left; apply Int32.toBitVec_inj.1; rw [e, h, g]; rfl
 ·right; apply Int32.toBitVec_inj.1; rw [e, h, g]; rfl
theorem okP.not {α : Type} {m : Option α} {a : α} {P : α → Prop} (h : okP m P) (e : m = Option.some a) : P a := by
 obtain ⟨b, e2, h⟩ := h
 rw [e] at e2
 exact (Option.some.inj e2) ▸ h
theorem and_rng {x m : Int32} (hm : 0 ≤ m.toInt) : 0 ≤ (x &&& m).toInt ∧ (x &&& m).toInt ≤ m.toInt := by
 have e : (x &&& m).toBitVec.toNat = x.toBitVec.toNat &&& m.toBitVec.toNat := BitVec.toNat_and ..
 have l : (x &&& m).toBitVec.toNat ≤ m.toBitVec.toNat := by rw [e]; exact Nat.and_le_right
 have c1 : m.toInt = if 2 * m.toBitVec.toNat < 2 ^ 32 then (m.toBitVec.toNat : Int) else m.toBitVec.toNat - (2 ^ 32 : Nat) := BitVec.toInt_eq_toNat_cond m.toBitVec
 have c2 : (x &&& m).toInt = if 2 * (x &&& m).toBitVec.toNat < 2 ^ 32 then ((x &&& m).toBitVec.toNat : Int) else (x &&& m).toBitVec.toNat - (2 ^ 32 : Nat) := BitVec.toInt_eq_toNat_cond (x &&& m).toBitVec
 have b : m.toBitVec.toNat < 2 ^ 32 := m.toBitVec.isLt
 by_cases h : 2 * m.toBitVec.toNat < 2 ^ 32
 ·rw [if_pos h] at c1
  rw [if_pos (by omega)] at c2
  omega
 ·rw [if_neg h] at c1
  omega
theorem mod_rng {x m : Int32} (hx : 0 ≤ x.toInt) (hm : 0 < m.toInt) : 0 ≤ (x % m).toInt ∧ (x % m).toInt < m.toInt := by
 rw [Int32.toInt_mod, Int.tmod_eq_emod_of_nonneg hx]
 exact ⟨Int.emod_nonneg _ (by omega), Int.emod_lt_of_pos _ hm⟩
def sFit (s : List Int32) (τ : QHeap) : Prop := τ.length - List.length ([Sum.inr (Sum.inl (FieldType.int, s))] : QHeap) ≤ room_1.cells ∧ qhs τ - qhs [Sum.inr (Sum.inl (FieldType.int, s))] ≤ room_1.slots
def Sh (R : List Int32) (S : List Int32) (n : Int32) (q : Int32) (o : Ob) : Prop := (f_frontSize o).length = 4 ∧ (f_backSize o).length = 4 ∧ (f_backElem o).length = 512 ∧ (f_frontAgg o).length = 512 ∧ (f_backAgg o).length = 16 ∧ (f_snap o).length = 16 ∧ (f_reg o).length = 16 ∧ f_range o = R ∧ f_slide o = S ∧ f_n o = n ∧ f_queries o = q ∧ f_capacity o = 1
theorem Sh_regTuple {R : List Int32} {S : List Int32} {n : Int32} {q : Int32} {o : Ob} {x : Int32} (h : Sh R S n q o) : Sh R S n q (s_regTuple o x) := by
 dsimp only [Sh, f_range, f_slide, f_frontSize, f_backSize, f_backElem, f_frontAgg, f_backAgg, f_snap, f_reg, f_capacity, f_queries, f_n, s_regTuple] at h ⊢
 exact h
theorem Sh_regA {R : List Int32} {S : List Int32} {n : Int32} {q : Int32} {o : Ob} {x : Int32} (h : Sh R S n q o) : Sh R S n q (s_regA o x) := by
 dsimp only [Sh, f_range, f_slide, f_frontSize, f_backSize, f_backElem, f_frontAgg, f_backAgg, f_snap, f_reg, f_capacity, f_queries, f_n, s_regA] at h ⊢
 exact h
theorem Sh_regB {R : List Int32} {S : List Int32} {n : Int32} {q : Int32} {o : Ob} {x : Int32} (h : Sh R S n q o) : Sh R S n q (s_regB o x) := by
 dsimp only [Sh, f_range, f_slide, f_frontSize, f_backSize, f_backElem, f_frontAgg, f_backAgg, f_snap, f_reg, f_capacity, f_queries, f_n, s_regB] at h ⊢
 exact h
theorem Sh_regC {R : List Int32} {S : List Int32} {n : Int32} {q : Int32} {o : Ob} {x : Int32} (h : Sh R S n q o) : Sh R S n q (s_regC o x) := by
 dsimp only [Sh, f_range, f_slide, f_frontSize, f_backSize, f_backElem, f_frontAgg, f_backAgg, f_snap, f_reg, f_capacity, f_queries, f_n, s_regC] at h ⊢
 exact h
theorem Sh_regCount {R : List Int32} {S : List Int32} {n : Int32} {q : Int32} {o : Ob} {x : Int32} (h : Sh R S n q o) : Sh R S n q (s_regCount o x) := by
 dsimp only [Sh, f_range, f_slide, f_frontSize, f_backSize, f_backElem, f_frontAgg, f_backAgg, f_snap, f_reg, f_capacity, f_queries, f_n, s_regCount] at h ⊢
 exact h
theorem Sh_slots {R : List Int32} {S : List Int32} {n : Int32} {q : Int32} {o : Ob} {x : Int32} (h : Sh R S n q o) : Sh R S n q (s_slots o x) := by
 dsimp only [Sh, f_range, f_slide, f_frontSize, f_backSize, f_backElem, f_frontAgg, f_backAgg, f_snap, f_reg, f_capacity, f_queries, f_n, s_slots] at h ⊢
 exact h
theorem Sh_frontSize {R : List Int32} {S : List Int32} {n : Int32} {q : Int32} {o : Ob} {x : List Int32} (h : Sh R S n q o) (hx : x.length = 4) : Sh R S n q (s_frontSize o x) := by
 dsimp only [Sh, f_range, f_slide, f_frontSize, f_backSize, f_backElem, f_frontAgg, f_backAgg, f_snap, f_reg, f_capacity, f_queries, f_n, s_frontSize] at h ⊢
 exact ⟨hx, h.2.1, h.2.2.1, h.2.2.2.1, h.2.2.2.2.1, h.2.2.2.2.2.1, h.2.2.2.2.2.2.1, h.2.2.2.2.2.2.2⟩
theorem Sh_l_frontSize {R : List Int32} {S : List Int32} {n : Int32} {q : Int32} {o : Ob} (h : Sh R S n q o) : (f_frontSize o).length = 4 := h.1
theorem Sh_backSize {R : List Int32} {S : List Int32} {n : Int32} {q : Int32} {o : Ob} {x : List Int32} (h : Sh R S n q o) (hx : x.length = 4) : Sh R S n q (s_backSize o x) := by
 dsimp only [Sh, f_range, f_slide, f_frontSize, f_backSize, f_backElem, f_frontAgg, f_backAgg, f_snap, f_reg, f_capacity, f_queries, f_n, s_backSize] at h ⊢
 exact ⟨h.1, hx, h.2.2.1, h.2.2.2.1, h.2.2.2.2.1, h.2.2.2.2.2.1, h.2.2.2.2.2.2.1, h.2.2.2.2.2.2.2⟩
theorem Sh_l_backSize {R : List Int32} {S : List Int32} {n : Int32} {q : Int32} {o : Ob} (h : Sh R S n q o) : (f_backSize o).length = 4 := h.2.1
theorem Sh_backElem {R : List Int32} {S : List Int32} {n : Int32} {q : Int32} {o : Ob} {x : List Int32} (h : Sh R S n q o) (hx : x.length = 512) : Sh R S n q (s_backElem o x) := by
 dsimp only [Sh, f_range, f_slide, f_frontSize, f_backSize, f_backElem, f_frontAgg, f_backAgg, f_snap, f_reg, f_capacity, f_queries, f_n, s_backElem] at h ⊢
 exact ⟨h.1, h.2.1, hx, h.2.2.2.1, h.2.2.2.2.1, h.2.2.2.2.2.1, h.2.2.2.2.2.2.1, h.2.2.2.2.2.2.2⟩
theorem Sh_l_backElem {R : List Int32} {S : List Int32} {n : Int32} {q : Int32} {o : Ob} (h : Sh R S n q o) : (f_backElem o).length = 512 := h.2.2.1
theorem Sh_frontAgg {R : List Int32} {S : List Int32} {n : Int32} {q : Int32} {o : Ob} {x : List Int32} (h : Sh R S n q o) (hx : x.length = 512) : Sh R S n q (s_frontAgg o x) := by
 dsimp only [Sh, f_range, f_slide, f_frontSize, f_backSize, f_backElem, f_frontAgg, f_backAgg, f_snap, f_reg, f_capacity, f_queries, f_n, s_frontAgg] at h ⊢
 exact ⟨h.1, h.2.1, h.2.2.1, hx, h.2.2.2.2.1, h.2.2.2.2.2.1, h.2.2.2.2.2.2.1, h.2.2.2.2.2.2.2⟩
theorem Sh_l_frontAgg {R : List Int32} {S : List Int32} {n : Int32} {q : Int32} {o : Ob} (h : Sh R S n q o) : (f_frontAgg o).length = 512 := h.2.2.2.1
theorem Sh_backAgg {R : List Int32} {S : List Int32} {n : Int32} {q : Int32} {o : Ob} {x : List Int32} (h : Sh R S n q o) (hx : x.length = 16) : Sh R S n q (s_backAgg o x) := by
 dsimp only [Sh, f_range, f_slide, f_frontSize, f_backSize, f_backElem, f_frontAgg, f_backAgg, f_snap, f_reg, f_capacity, f_queries, f_n, s_backAgg] at h ⊢
 exact ⟨h.1, h.2.1, h.2.2.1, h.2.2.2.1, hx, h.2.2.2.2.2.1, h.2.2.2.2.2.2.1, h.2.2.2.2.2.2.2⟩
theorem Sh_l_backAgg {R : List Int32} {S : List Int32} {n : Int32} {q : Int32} {o : Ob} (h : Sh R S n q o) : (f_backAgg o).length = 16 := h.2.2.2.2.1
theorem Sh_snap {R : List Int32} {S : List Int32} {n : Int32} {q : Int32} {o : Ob} {x : List Int32} (h : Sh R S n q o) (hx : x.length = 16) : Sh R S n q (s_snap o x) := by
 dsimp only [Sh, f_range, f_slide, f_frontSize, f_backSize, f_backElem, f_frontAgg, f_backAgg, f_snap, f_reg, f_capacity, f_queries, f_n, s_snap] at h ⊢
 exact ⟨h.1, h.2.1, h.2.2.1, h.2.2.2.1, h.2.2.2.2.1, hx, h.2.2.2.2.2.2.1, h.2.2.2.2.2.2.2⟩
theorem Sh_l_snap {R : List Int32} {S : List Int32} {n : Int32} {q : Int32} {o : Ob} (h : Sh R S n q o) : (f_snap o).length = 16 := h.2.2.2.2.2.1
theorem Sh_reg {R : List Int32} {S : List Int32} {n : Int32} {q : Int32} {o : Ob} {x : List Int32} (h : Sh R S n q o) (hx : x.length = 16) : Sh R S n q (s_reg o x) := by
 dsimp only [Sh, f_range, f_slide, f_frontSize, f_backSize, f_backElem, f_frontAgg, f_backAgg, f_snap, f_reg, f_capacity, f_queries, f_n, s_reg] at h ⊢
 exact ⟨h.1, h.2.1, h.2.2.1, h.2.2.2.1, h.2.2.2.2.1, h.2.2.2.2.2.1, hx, h.2.2.2.2.2.2.2⟩
theorem Sh_l_reg {R : List Int32} {S : List Int32} {n : Int32} {q : Int32} {o : Ob} (h : Sh R S n q o) : (f_reg o).length = 16 := h.2.2.2.2.2.2.1
theorem inc1 {x : Int32} (h : x.toInt < 2147483647) : (x + 1).toInt = x.toInt + 1 := by
 have := i_lo x
 have e1 : (1 : Int32).toInt = 1 := rfl
 rw [i_add (by omega) (by omega), e1]
theorem z4' : (4 : Int32).toInt = 4 := rfl
theorem m4 {x : Int32} (h0 : 0 ≤ x.toInt) (h : x.toInt < 1000) : (x * 4).toInt = x.toInt * 4 := i_mul (x := x) (y := 4) (by show _ ≤ x.toInt * 4; omega) (by show x.toInt * 4 < _; omega)
theorem vreg (x : Int32) : okP (F5 x) (fun r => r = 0 ∨ (r ≠ 0 ∧ 0 ≤ x.toInt ∧ x.toInt < 4)) := by
 unfold F5
 have z0 : (0 : Int32).toInt = 0 := rfl
 apply okP.ite <;> intro a
 ·exact okP.some (Or.inl rfl)
 apply okP.ite <;> intro b
 ·rw [i_lt, z0] at a
  rw [i_lt, z4'] at b
  exact okP.some (Or.inr ⟨by decide, by omega, b⟩)
 ·exact okP.some (Or.inl rfl)
theorem regSet_ok {R S : List Int32} {n q : Int32} {o : Ob} (h : Sh R S n q o) (x a b c d : Int32) : okP (F4 o x a b c d) (fun p => Sh R S n q p) := by
 have l := Sh_l_reg h
 unfold F4
 apply okP.bind
 refine okP.mono (vreg x) ?_
 rintro r (rfl | ⟨r0, x0, x4⟩)
 ·rw [if_pos rfl]; exact okP.some h
 rw [if_neg r0]
 have e := m4 x0 (by omega)
 have e1 : (x * 4 + 1).toInt = x.toInt * 4 + 1 := by rw [inc1 (by omega), e]
 have e2 : (x * 4 + 2).toInt = x.toInt * 4 + 2 := by rw [i_add (by rw [e]; show _ ≤ x.toInt * 4 + 2; omega) (by rw [e]; show x.toInt * 4 + 2 < _; omega), e]; rfl
 have e3 : (x * 4 + 3).toInt = x.toInt * 4 + 3 := by rw [i_add (by rw [e]; show _ ≤ x.toInt * 4 + 3; omega) (by rw [e]; show x.toInt * 4 + 3 < _; omega), e]; rfl
 apply okP.bind
 refine okP.aset (by omega) (by omega) ?_
 apply okP.bind
 refine okP.aset (by omega) (by rw [List.length_set]; omega) ?_
 apply okP.bind
 refine okP.aset (by omega) (by simp only [List.length_set]; omega) ?_
 apply okP.bind
 refine okP.aset (by omega) (by simp only [List.length_set]; omega) ?_
 apply okP.some
 exact Sh_reg h (by simp only [List.length_set]; exact l)
theorem regId_ok {R S : List Int32} {n q : Int32} {o : Ob} (h : Sh R S n q o) (x : Int32) : okP (F3 o x) (fun p => Sh R S n q p) := by
 unfold F3
 apply okP.bind
 exact okP.mono (regSet_ok h x 1 0 0 1) (fun p hp => okP.some hp)
theorem stBA_ok {R S : List Int32} {n q : Int32} {o : Ob} (h : Sh R S n q o) (x y : Int32) : okP (F6 o x y) (fun p => Sh R S n q p) := by
 unfold F6
 apply okP.bind
 refine okP.mono (vreg y) ?_
 rintro r (rfl | ⟨r0, y0, y4⟩)
 ·rw [if_pos rfl]; exact okP.some h
 rw [if_neg r0]
 apply okP.ite <;> intro x0
 ·exact okP.some h
 refine okP.ite ?_ (fun _ => okP.some h)
 intro x4
 rw [i_lt] at x0 x4
 have zz : (0 : Int32).toInt = 0 := rfl
 rw [zz] at x0
 rw [z4'] at x4
 have ex := m4 (x := x) (by omega) (by omega)
 have ey := m4 (x := y) (by omega) (by omega)
 obtain ⟨u, hu⟩ : ∃ u, u = x * 4 := ⟨_, rfl⟩
 obtain ⟨v, hv⟩ : ∃ v, v = y * 4 := ⟨_, rfl⟩
 rw [← hu] at ex
 rw [← hv] at ey
 rw [← hv]
 apply okP.bind
 refine okP.loop (fun w => 0 ≤ w.1.toInt ∧ w.1.toInt ≤ 4 ∧ Sh R S n q w.2) (fun w => (4 - w.1.toInt).toNat) ⟨by show (0 : Int) ≤ 0; decide, by show (0 : Int) ≤ 4; decide, h⟩ (by show (4 - (0 : Int)).toNat < 4000; decide) ?_
 rintro ⟨w, p⟩ ⟨a1, a2, a3⟩
 simp only at a1 a2 a3
 unfold B6_25
 rw [← hu]
 simp only
 apply okP.ite <;> intro c
 ·rw [i_lt, z4'] at c
  have e2 : (w + 1).toInt = w.toInt + 1 := inc1 (by omega)
  have i1 : (u + w).toInt = u.toInt + w.toInt := i_add (by omega) (by omega)
  have i2 : (v + w).toInt = v.toInt + w.toInt := i_add (by omega) (by omega)
  apply okP.bind
  refine okP.aget (by omega) (by rw [Sh_l_reg a3]; omega) (fun z _ => ?_)
  apply okP.bind
  refine okP.aset (by omega) (by rw [Sh_l_backAgg a3]; omega) ?_
  apply okP.some
  exact ⟨⟨by simp only; omega, by simp only; omega, Sh_backAgg a3 (by rw [List.length_set]; exact Sh_l_backAgg a3)⟩, by simp only; omega⟩
 ·exact okP.some (okP.some a3)
theorem stSn_ok {R S : List Int32} {n q : Int32} {o : Ob} (h : Sh R S n q o) (x y : Int32) : okP (F7 o x y) (fun p => Sh R S n q p) := by
 unfold F7
 apply okP.bind
 refine okP.mono (vreg y) ?_
 rintro r (rfl | ⟨r0, y0, y4⟩)
 ·rw [if_pos rfl]; exact okP.some h
 rw [if_neg r0]
 apply okP.ite <;> intro x0
 ·exact okP.some h
 refine okP.ite ?_ (fun _ => okP.some h)
 intro x4
 rw [i_lt] at x0 x4
 have zz : (0 : Int32).toInt = 0 := rfl
 rw [zz] at x0
 rw [z4'] at x4
 have ex := m4 (x := x) (by omega) (by omega)
 have ey := m4 (x := y) (by omega) (by omega)
 obtain ⟨u, hu⟩ : ∃ u, u = x * 4 := ⟨_, rfl⟩
 obtain ⟨v, hv⟩ : ∃ v, v = y * 4 := ⟨_, rfl⟩
 rw [← hu] at ex
 rw [← hv] at ey
 rw [← hv]
 apply okP.bind
 refine okP.loop (fun w => 0 ≤ w.1.toInt ∧ w.1.toInt ≤ 4 ∧ Sh R S n q w.2) (fun w => (4 - w.1.toInt).toNat) ⟨by show (0 : Int) ≤ 0; decide, by show (0 : Int) ≤ 4; decide, h⟩ (by show (4 - (0 : Int)).toNat < 4000; decide) ?_
 rintro ⟨w, p⟩ ⟨a1, a2, a3⟩
 simp only at a1 a2 a3
 unfold B7_25
 rw [← hu]
 simp only
 apply okP.ite <;> intro c
 ·rw [i_lt, z4'] at c
  have e2 : (w + 1).toInt = w.toInt + 1 := inc1 (by omega)
  have i1 : (u + w).toInt = u.toInt + w.toInt := i_add (by omega) (by omega)
  have i2 : (v + w).toInt = v.toInt + w.toInt := i_add (by omega) (by omega)
  apply okP.bind
  refine okP.aget (by omega) (by rw [Sh_l_reg a3]; omega) (fun z _ => ?_)
  apply okP.bind
  refine okP.aset (by omega) (by rw [Sh_l_snap a3]; omega) ?_
  apply okP.some
  exact ⟨⟨by simp only; omega, by simp only; omega, Sh_snap a3 (by rw [List.length_set]; exact Sh_l_snap a3)⟩, by simp only; omega⟩
 ·exact okP.some (okP.some a3)
theorem ldBA_ok {R S : List Int32} {n q : Int32} {o : Ob} (h : Sh R S n q o) (x y : Int32) : okP (F14 o x y) (fun p => Sh R S n q p) := by
 unfold F14
 apply okP.bind
 refine okP.mono (vreg x) ?_
 rintro r (rfl | ⟨r0, y0, y4⟩)
 ·rw [if_pos rfl]; exact okP.some h
 rw [if_neg r0]
 apply okP.ite <;> intro x0
 ·exact okP.some h
 refine okP.ite ?_ (fun _ => okP.some h)
 intro x4
 rw [i_lt] at x0 x4
 have zz : (0 : Int32).toInt = 0 := rfl
 rw [zz] at x0
 rw [z4'] at x4
 have ex := m4 (x := y) (by omega) (by omega)
 have ey := m4 (x := x) (by omega) (by omega)
 obtain ⟨u, hu⟩ : ∃ u, u = y * 4 := ⟨_, rfl⟩
 obtain ⟨v, hv⟩ : ∃ v, v = x * 4 := ⟨_, rfl⟩
 rw [← hu] at ex
 rw [← hv] at ey
 rw [← hv]
 apply okP.bind
 refine okP.loop (fun w => 0 ≤ w.1.toInt ∧ w.1.toInt ≤ 4 ∧ Sh R S n q w.2) (fun w => (4 - w.1.toInt).toNat) ⟨by show (0 : Int) ≤ 0; decide, by show (0 : Int) ≤ 4; decide, h⟩ (by show (4 - (0 : Int)).toNat < 4000; decide) ?_
 rintro ⟨w, p⟩ ⟨a1, a2, a3⟩
 simp only at a1 a2 a3
 unfold B14_25
 rw [← hu]
 simp only
 apply okP.ite <;> intro c
 ·rw [i_lt, z4'] at c
  have e2 : (w + 1).toInt = w.toInt + 1 := inc1 (by omega)
  have i1 : (u + w).toInt = u.toInt + w.toInt := i_add (by omega) (by omega)
  have i2 : (v + w).toInt = v.toInt + w.toInt := i_add (by omega) (by omega)
  apply okP.bind
  refine okP.aget (by omega) (by rw [Sh_l_backAgg a3]; omega) (fun z _ => ?_)
  apply okP.bind
  refine okP.aset (by omega) (by rw [Sh_l_reg a3]; omega) ?_
  apply okP.some
  exact ⟨⟨by simp only; omega, by simp only; omega, Sh_reg a3 (by rw [List.length_set]; exact Sh_l_reg a3)⟩, by simp only; omega⟩
 ·exact okP.some (okP.some a3)
theorem vslot (x y : Int32) : okP (F11 x y) (fun r => r = 0 ∨ (r ≠ 0 ∧ 0 ≤ x.toInt ∧ x.toInt < 4 ∧ 0 ≤ y.toInt ∧ y.toInt < 32)) := by
 unfold F11
 have z0 : (0 : Int32).toInt = 0 := rfl
 have z32 : (32 : Int32).toInt = 32 := rfl
 apply okP.ite <;> intro a
 ·exact okP.some (Or.inl rfl)
 refine okP.ite ?_ (fun _ => okP.some (Or.inl rfl))
 intro b
 apply okP.ite <;> intro c
 ·exact okP.some (Or.inl rfl)
 refine okP.ite ?_ (fun _ => okP.some (Or.inl rfl))
 intro d
 rw [i_lt, z0] at a c
 rw [i_lt, z4'] at b
 rw [i_lt, z32] at d
 exact okP.some (Or.inr ⟨by decide, by omega, b, by omega, d⟩)
theorem slotE {x y : Int32} (s0 : 0 ≤ x.toInt) (s4 : x.toInt < 4) (t0 : 0 ≤ y.toInt) (t4 : y.toInt < 32) : F13 x y = some ((x * 32 + y) * 4) := rfl
theorem slotI {x y : Int32} (s0 : 0 ≤ x.toInt) (s4 : x.toInt < 4) (t0 : 0 ≤ y.toInt) (t4 : y.toInt < 32) : ((x * 32 + y) * 4).toInt = (x.toInt * 32 + y.toInt) * 4 := by
 have e : (x * 32).toInt = x.toInt * 32 := i_mul (x := x) (y := 32) (by show _ ≤ x.toInt * 32; omega) (by show x.toInt * 32 < _; omega)
 have e2 : (x * 32 + y).toInt = x.toInt * 32 + y.toInt := by rw [i_add (by omega) (by omega), e]
 rw [m4 (by omega) (by omega), e2]
theorem stB_ok {R S : List Int32} {n q : Int32} {o : Ob} (h : Sh R S n q o) (x y z : Int32) : okP (F12 o x y z) (fun p => Sh R S n q p) := by
 unfold F12
 apply okP.bind
 refine okP.mono (vreg z) ?_
 rintro r (rfl | ⟨r0, y0, y4⟩)
 ·rw [if_pos rfl]; exact okP.some h
 rw [if_neg r0]
 apply okP.bind
 refine okP.mono (vslot x y) ?_
 rintro r' (rfl | ⟨r0', s0, s4, t0, t4⟩)
 ·rw [if_pos rfl]; exact okP.some h
 rw [if_neg r0', slotE s0 s4 t0 t4]
 simp only [Option.bind_some]
 have ex := slotI s0 s4 t0 t4
 have ey := m4 (x := z) (by omega) (by omega)
 obtain ⟨u, hu⟩ : ∃ u, u = (x * 32 + y) * 4 := ⟨_, rfl⟩
 obtain ⟨v, hv⟩ : ∃ v, v = z * 4 := ⟨_, rfl⟩
 rw [← hu] at ex ⊢
 rw [← hv] at ey ⊢
 apply okP.bind
 refine okP.loop (fun w => 0 ≤ w.1.toInt ∧ w.1.toInt ≤ 4 ∧ Sh R S n q w.2) (fun w => (4 - w.1.toInt).toNat) ⟨by show (0 : Int) ≤ 0; decide, by show (0 : Int) ≤ 4; decide, h⟩ (by show (4 - (0 : Int)).toNat < 4000; decide) ?_
 rintro ⟨w, p⟩ ⟨a1, a2, a3⟩
 simp only at a1 a2 a3
 unfold B12_34
 simp only
 apply okP.ite <;> intro c
 ·rw [i_lt, z4'] at c
  have e2 : (w + 1).toInt = w.toInt + 1 := inc1 (by omega)
  have i1 : (u + w).toInt = u.toInt + w.toInt := i_add (by omega) (by omega)
  have i2 : (v + w).toInt = v.toInt + w.toInt := i_add (by omega) (by omega)
  apply okP.bind
  refine okP.aget (by omega) (by rw [Sh_l_reg a3]; omega) (fun z _ => ?_)
  apply okP.bind
  refine okP.aset (by omega) (by rw [Sh_l_backElem a3]; omega) ?_
  apply okP.some
  exact ⟨⟨by simp only; omega, by simp only; omega, Sh_backElem a3 (by rw [List.length_set]; exact Sh_l_backElem a3)⟩, by simp only; omega⟩
 ·exact okP.some (okP.some a3)
theorem ldB_ok {R S : List Int32} {n q : Int32} {o : Ob} (h : Sh R S n q o) (x y z : Int32) : okP (F20 o x y z) (fun p => Sh R S n q p) := by
 unfold F20
 apply okP.bind
 refine okP.mono (vreg x) ?_
 rintro r (rfl | ⟨r0, y0, y4⟩)
 ·rw [if_pos rfl]; exact okP.some h
 rw [if_neg r0]
 apply okP.bind
 refine okP.mono (vslot y z) ?_
 rintro r' (rfl | ⟨r0', s0, s4, t0, t4⟩)
 ·rw [if_pos rfl]; exact okP.some h
 rw [if_neg r0', slotE s0 s4 t0 t4]
 simp only [Option.bind_some]
 have ex := slotI s0 s4 t0 t4
 have ey := m4 (x := x) (by omega) (by omega)
 obtain ⟨u, hu⟩ : ∃ u, u = (y * 32 + z) * 4 := ⟨_, rfl⟩
 obtain ⟨v, hv⟩ : ∃ v, v = x * 4 := ⟨_, rfl⟩
 rw [← hu] at ex ⊢
 rw [← hv] at ey ⊢
 apply okP.bind
 refine okP.loop (fun w => 0 ≤ w.1.toInt ∧ w.1.toInt ≤ 4 ∧ Sh R S n q w.2) (fun w => (4 - w.1.toInt).toNat) ⟨by show (0 : Int) ≤ 0; decide, by show (0 : Int) ≤ 4; decide, h⟩ (by show (4 - (0 : Int)).toNat < 4000; decide) ?_
 rintro ⟨w, p⟩ ⟨a1, a2, a3⟩
 simp only at a1 a2 a3
 unfold B20_34
 simp only
 apply okP.ite <;> intro c
 ·rw [i_lt, z4'] at c
  have e2 : (w + 1).toInt = w.toInt + 1 := inc1 (by omega)
  have i1 : (u + w).toInt = u.toInt + w.toInt := i_add (by omega) (by omega)
  have i2 : (v + w).toInt = v.toInt + w.toInt := i_add (by omega) (by omega)
  apply okP.bind
  refine okP.aget (by omega) (by rw [Sh_l_backElem a3]; omega) (fun z _ => ?_)
  apply okP.bind
  refine okP.aset (by omega) (by rw [Sh_l_reg a3]; omega) ?_
  apply okP.some
  exact ⟨⟨by simp only; omega, by simp only; omega, Sh_reg a3 (by rw [List.length_set]; exact Sh_l_reg a3)⟩, by simp only; omega⟩
 ·exact okP.some (okP.some a3)
theorem stF_ok {R S : List Int32} {n q : Int32} {o : Ob} (h : Sh R S n q o) (x y z : Int32) : okP (F21 o x y z) (fun p => Sh R S n q p) := by
 unfold F21
 apply okP.bind
 refine okP.mono (vreg z) ?_
 rintro r (rfl | ⟨r0, y0, y4⟩)
 ·rw [if_pos rfl]; exact okP.some h
 rw [if_neg r0]
 apply okP.bind
 refine okP.mono (vslot x y) ?_
 rintro r' (rfl | ⟨r0', s0, s4, t0, t4⟩)
 ·rw [if_pos rfl]; exact okP.some h
 rw [if_neg r0', slotE s0 s4 t0 t4]
 simp only [Option.bind_some]
 have ex := slotI s0 s4 t0 t4
 have ey := m4 (x := z) (by omega) (by omega)
 obtain ⟨u, hu⟩ : ∃ u, u = (x * 32 + y) * 4 := ⟨_, rfl⟩
 obtain ⟨v, hv⟩ : ∃ v, v = z * 4 := ⟨_, rfl⟩
 rw [← hu] at ex ⊢
 rw [← hv] at ey ⊢
 apply okP.bind
 refine okP.loop (fun w => 0 ≤ w.1.toInt ∧ w.1.toInt ≤ 4 ∧ Sh R S n q w.2) (fun w => (4 - w.1.toInt).toNat) ⟨by show (0 : Int) ≤ 0; decide, by show (0 : Int) ≤ 4; decide, h⟩ (by show (4 - (0 : Int)).toNat < 4000; decide) ?_
 rintro ⟨w, p⟩ ⟨a1, a2, a3⟩
 simp only at a1 a2 a3
 unfold B21_34
 simp only
 apply okP.ite <;> intro c
 ·rw [i_lt, z4'] at c
  have e2 : (w + 1).toInt = w.toInt + 1 := inc1 (by omega)
  have i1 : (u + w).toInt = u.toInt + w.toInt := i_add (by omega) (by omega)
  have i2 : (v + w).toInt = v.toInt + w.toInt := i_add (by omega) (by omega)
  apply okP.bind
  refine okP.aget (by omega) (by rw [Sh_l_reg a3]; omega) (fun z _ => ?_)
  apply okP.bind
  refine okP.aset (by omega) (by rw [Sh_l_frontAgg a3]; omega) ?_
  apply okP.some
  exact ⟨⟨by simp only; omega, by simp only; omega, Sh_frontAgg a3 (by rw [List.length_set]; exact Sh_l_frontAgg a3)⟩, by simp only; omega⟩
 ·exact okP.some (okP.some a3)
theorem ldF_ok {R S : List Int32} {n q : Int32} {o : Ob} (h : Sh R S n q o) (x y z : Int32) : okP (F29 o x y z) (fun p => Sh R S n q p) := by
 unfold F29
 apply okP.bind
 refine okP.mono (vreg x) ?_
 rintro r (rfl | ⟨r0, y0, y4⟩)
 ·rw [if_pos rfl]; exact okP.some h
 rw [if_neg r0]
 apply okP.bind
 refine okP.mono (vslot y z) ?_
 rintro r' (rfl | ⟨r0', s0, s4, t0, t4⟩)
 ·rw [if_pos rfl]; exact okP.some h
 rw [if_neg r0', slotE s0 s4 t0 t4]
 simp only [Option.bind_some]
 have ex := slotI s0 s4 t0 t4
 have ey := m4 (x := x) (by omega) (by omega)
 obtain ⟨u, hu⟩ : ∃ u, u = (y * 32 + z) * 4 := ⟨_, rfl⟩
 obtain ⟨v, hv⟩ : ∃ v, v = x * 4 := ⟨_, rfl⟩
 rw [← hu] at ex ⊢
 rw [← hv] at ey ⊢
 apply okP.bind
 refine okP.loop (fun w => 0 ≤ w.1.toInt ∧ w.1.toInt ≤ 4 ∧ Sh R S n q w.2) (fun w => (4 - w.1.toInt).toNat) ⟨by show (0 : Int) ≤ 0; decide, by show (0 : Int) ≤ 4; decide, h⟩ (by show (4 - (0 : Int)).toNat < 4000; decide) ?_
 rintro ⟨w, p⟩ ⟨a1, a2, a3⟩
 simp only at a1 a2 a3
 unfold B29_34
 simp only
 apply okP.ite <;> intro c
 ·rw [i_lt, z4'] at c
  have e2 : (w + 1).toInt = w.toInt + 1 := inc1 (by omega)
  have i1 : (u + w).toInt = u.toInt + w.toInt := i_add (by omega) (by omega)
  have i2 : (v + w).toInt = v.toInt + w.toInt := i_add (by omega) (by omega)
  apply okP.bind
  refine okP.aget (by omega) (by rw [Sh_l_frontAgg a3]; omega) (fun z _ => ?_)
  apply okP.bind
  refine okP.aset (by omega) (by rw [Sh_l_reg a3]; omega) ?_
  apply okP.some
  exact ⟨⟨by simp only; omega, by simp only; omega, Sh_reg a3 (by rw [List.length_set]; exact Sh_l_reg a3)⟩, by simp only; omega⟩
 ·exact okP.some (okP.some a3)
theorem mul_ok {R S : List Int32} {n q : Int32} {o : Ob} (h : Sh R S n q o) (x y z : Int32) : okP (F15 o x y z) (fun p => Sh R S n q p) := by
 have l := Sh_l_reg h
 unfold F15
 apply okP.bind
 refine okP.mono (vreg x) ?_
 rintro r (rfl | ⟨r0, x0, x4⟩)
 ·rw [if_pos rfl]; exact okP.some h
 rw [if_neg r0]
 apply okP.bind
 refine okP.mono (vreg y) ?_
 rintro r' (rfl | ⟨r0', y0, y4⟩)
 ·rw [if_pos rfl]; exact okP.some h
 rw [if_neg r0']
 apply okP.bind
 refine okP.mono (vreg z) ?_
 rintro r'' (rfl | ⟨r0'', w0, w4⟩)
 ·rw [if_pos rfl]; exact okP.some h
 rw [if_neg r0'']
 have three : ∀ x : Int32, 0 ≤ x.toInt → x.toInt < 4 → (x * 4).toInt = x.toInt * 4 ∧ (x * 4 + 1).toInt = x.toInt * 4 + 1 ∧ (x * 4 + 2).toInt = x.toInt * 4 + 2 ∧ (x * 4 + 3).toInt = x.toInt * 4 + 3 := by
  intro x x0 x4
  have e := m4 x0 (by omega)
  refine ⟨e, ?_, ?_, ?_⟩
  ·rw [inc1 (by omega), e]
  ·rw [i_add (by rw [e]; show _ ≤ x.toInt * 4 + 2; omega) (by rw [e]; show x.toInt * 4 + 2 < _; omega), e]; rfl
  ·rw [i_add (by rw [e]; show _ ≤ x.toInt * 4 + 3; omega) (by rw [e]; show x.toInt * 4 + 3 < _; omega), e]; rfl
 obtain ⟨x1, x2, x3, x5⟩ := three x x0 x4
 obtain ⟨y1, y2, y3, y5⟩ := three y y0 y4
 obtain ⟨w1, w2, w3, w5⟩ := three z w0 w4
 apply okP.bind
 refine okP.aget (by omega) (by omega) (fun _ _ => ?_)
 apply okP.bind
 refine okP.aget (by omega) (by omega) (fun _ _ => ?_)
 apply okP.bind
 refine okP.aget (by omega) (by omega) (fun _ _ => ?_)
 apply okP.bind
 refine okP.aget (by omega) (by omega) (fun _ _ => ?_)
 apply okP.bind
 refine okP.aget (by omega) (by omega) (fun _ _ => ?_)
 apply okP.bind
 refine okP.aget (by omega) (by omega) (fun _ _ => ?_)
 apply okP.bind
 refine okP.aget (by omega) (by omega) (fun _ _ => ?_)
 apply okP.bind
 refine okP.aget (by omega) (by omega) (fun _ _ => ?_)
 apply okP.bind
 refine okP.aset (by omega) (by omega) ?_
 apply okP.bind
 refine okP.aset (by omega) (by simp only [List.length_set]; omega) ?_
 apply okP.bind
 refine okP.aset (by omega) (by simp only [List.length_set]; omega) ?_
 apply okP.bind
 refine okP.aset (by omega) (by simp only [List.length_set]; omega) ?_
 apply okP.some
 exact Sh_reg h (by simp only [List.length_set]; exact l)
theorem reset_ok {R S : List Int32} {n q : Int32} {o : Ob} (h : Sh R S n q o) (x : Int32) : okP (F2 o x) (fun p => Sh R S n q p) := by
 unfold F2
 have l1 := Sh_l_frontSize h
 have l2 := Sh_l_backSize h
 apply okP.ite <;> intro x0
 ·exact okP.some h
 refine okP.ite ?_ (fun _ => okP.some h)
 intro x4
 rw [i_lt] at x0 x4
 have zz : (0 : Int32).toInt = 0 := rfl
 rw [zz] at x0
 rw [z4'] at x4
 apply okP.bind
 refine okP.aset (by omega) (by omega) ?_
 apply okP.bind
 refine okP.aset (by omega) (by omega) ?_
 apply okP.bind
 have g : Sh R S n q (s_backSize (s_frontSize o ((f_frontSize o).set x.toInt.toNat 0)) ((f_backSize o).set x.toInt.toNat 0)) := Sh_backSize (Sh_frontSize h (by rw [List.length_set]; exact l1)) (by rw [List.length_set]; exact l2)
 refine okP.mono (regId_ok g 1) (fun p hp => ?_)
 apply okP.bind
 refine okP.mono (stBA_ok hp x 1) (fun p hp => ?_)
 apply okP.bind
 exact okP.mono (stSn_ok hp x 1) (fun p hp => okP.some hp)
theorem flip_ok {R S : List Int32} {n q : Int32} {o : Ob} (h : Sh R S n q o) {x : Int32} (x0 : 0 ≤ x.toInt) (x4 : x.toInt < 4) : okP (F19 o x) (fun p => Sh R S n q p) := by
 unfold F19
 have l2 := Sh_l_backSize h
 have z32 : (32 : Int32).toInt = 32 := rfl
 apply okP.bind
 refine okP.aget x0 (by omega) (fun y _ => ?_)
 have yb : (if (32 : Int32) < y then (32 : Int32) else y).toInt ≤ 32 := by
  by_cases c : (32 : Int32) < y
  ·rw [if_pos c]; decide
  ·rw [if_neg c]; rw [i_lt, z32] at c; omega
 obtain ⟨b, hb⟩ : ∃ b, b = (if (32 : Int32) < y then (32 : Int32) else y) := ⟨_, rfl⟩
 rw [← hb] at yb ⊢
 apply okP.bind
 refine okP.mono (regId_ok h 1) (fun p hp => ?_)
 apply okP.bind
 refine okP.loop (fun w => 0 ≤ w.1.toInt ∧ w.1.toInt ≤ 32 ∧ Sh R S n q w.2) (fun w => (32 - w.1.toInt).toNat) ⟨by show (0 : Int) ≤ 0; decide, by show (0 : Int) ≤ 32; decide, hp⟩ (by show (32 - (0 : Int)).toNat < 4000; decide) ?_
 rintro ⟨w, p⟩ ⟨a1, a2, a3⟩
 simp only at a1 a2 a3
 unfold B19_23
 simp only
 apply okP.ite <;> intro c
 ·rw [i_lt] at c
  have e2 : (w + 1).toInt = w.toInt + 1 := inc1 (by omega)
  apply okP.bind
  refine okP.mono (ldB_ok a3 2 x _) (fun p hp => ?_)
  apply okP.bind
  refine okP.mono (mul_ok hp 1 2 1) (fun p hp => ?_)
  apply okP.bind
  refine okP.mono (stF_ok hp x _ 1) (fun p hp => ?_)
  apply okP.some
  exact ⟨⟨by simp only; omega, by simp only; omega, hp⟩, by simp only; omega⟩
 ·apply okP.some
  simp only [Sum.elim_inl]
  have m1 := Sh_l_frontSize a3
  have m2 := Sh_l_backSize a3
  apply okP.bind
  refine okP.aset x0 (by omega) ?_
  apply okP.bind
  refine okP.aset x0 (by omega) ?_
  apply okP.bind
  refine okP.mono (regId_ok (Sh_backSize (Sh_frontSize a3 (by rw [List.length_set]; exact m1)) (by rw [List.length_set]; exact m2)) 1) (fun p hp => ?_)
  apply okP.bind
  exact okP.mono (stBA_ok hp x 1) (fun p hp => okP.some hp)
theorem evict_ok {R S : List Int32} {n q : Int32} {o : Ob} (h : Sh R S n q o) {x : Int32} (x0 : 0 ≤ x.toInt) (x4 : x.toInt < 4) : okP (F18 o x) (fun p => Sh R S n q p) := by
 have j : ∀ p, Sh R S n q p → okP (J18_14 p x) (fun p => Sh R S n q p) := by
  intro p hp
  have l := Sh_l_frontSize hp
  unfold J18_14
  apply okP.bind
  refine okP.aget x0 (by omega) (fun y _ => ?_)
  refine okP.ite ?_ (fun _ => okP.some hp)
  intro _
  apply okP.bind
  refine okP.aget x0 (by omega) (fun y _ => ?_)
  apply okP.bind
  refine okP.aset x0 (by omega) ?_
  exact okP.some (Sh_frontSize hp (by rw [List.length_set]; exact l))
 have l := Sh_l_frontSize h
 unfold F18
 apply okP.bind
 refine okP.aget x0 (by omega) (fun y _ => ?_)
 refine okP.ite ?_ (fun _ => j o h)
 intro _
 apply okP.bind
 exact okP.mono (flip_ok h x0 x4) j
theorem append_ok {R S : List Int32} {n q : Int32} {o : Ob} (h : Sh R S n q o) (hR : R.length = 4) (x : Int32) : okP (F10 o x) (fun p => Sh R S n q p) := by
 have zz : (0 : Int32).toInt = 0 := rfl
 unfold F10
 apply okP.ite <;> intro x0
 ·exact okP.some h
 refine okP.ite ?_ (fun _ => okP.some h)
 intro x4
 rw [i_lt, zz] at x0
 rw [i_lt, z4'] at x4
 have x0' : 0 ≤ x.toInt := by omega
 have j : ∀ p, Sh R S n q p → okP (J10_39 p x) (fun p => Sh R S n q p) := by
  intro p hp
  have l := Sh_l_backSize hp
  unfold J10_39
  apply okP.bind
  refine okP.aget x0' (by omega) (fun y _ => ?_)
  apply okP.bind
  refine okP.mono (vslot x y) (fun r _ => ?_)
  apply okP.ite <;> intro _
  ·exact okP.some hp
  apply okP.bind
  refine okP.mono (stB_ok hp x y 0) (fun p hp => ?_)
  apply okP.bind
  refine okP.mono (ldBA_ok hp 1 x) (fun p hp => ?_)
  apply okP.bind
  refine okP.mono (mul_ok hp 1 1 0) (fun p hp => ?_)
  apply okP.bind
  refine okP.mono (stBA_ok hp x 1) (fun p hp => ?_)
  have l := Sh_l_backSize hp
  apply okP.bind
  refine okP.aset x0' (by omega) ?_
  exact okP.some (Sh_backSize hp (by rw [List.length_set]; exact l))
 have l1 := Sh_l_frontSize h
 have l2 := Sh_l_backSize h
 have l3 : f_range o = R := h.2.2.2.2.2.2.2.1
 apply okP.bind
 refine okP.aget x0' (by omega) (fun y _ => ?_)
 apply okP.bind
 refine okP.aget x0' (by omega) (fun y _ => ?_)
 apply okP.bind
 refine okP.aget x0' (by rw [l3, hR]; omega) (fun y _ => ?_)
 apply okP.ite <;> intro _
 ·exact j o h
 apply okP.bind
 exact okP.mono (evict_ok h x0' x4) j
theorem fold_ok {R S : List Int32} {n q : Int32} {o : Ob} (h : Sh R S n q o) {x : Int32} (x0 : 0 ≤ x.toInt) (x4 : x.toInt < 4) (y : Int32) : okP (F17 o x y) (fun p => Sh R S n q p) := by
 have j : ∀ p, Sh R S n q p → okP (J17_28 p x y) (fun p => Sh R S n q p) := by
  intro p hp
  unfold J17_28
  apply okP.bind
  refine okP.mono (ldBA_ok hp 2 x) (fun p hp => ?_)
  apply okP.bind
  exact okP.mono (mul_ok hp y 1 2) (fun p hp => okP.some hp)
 have l := Sh_l_frontSize h
 unfold F17
 apply okP.bind
 refine okP.aget x0 (by omega) (fun z _ => ?_)
 apply okP.ite <;> intro _
 ·apply okP.bind
  exact okP.mono (ldF_ok h 1 x _) j
 ·apply okP.bind
  exact okP.mono (regId_ok h 1) j
theorem snapT_ok {R S : List Int32} {n q : Int32} {o : Ob} (h : Sh R S n q o) {x : Int32} (x0 : 0 ≤ x.toInt) (x4 : x.toInt < 4) : okP (F16 o x) (fun p => Sh R S n q p) := by
 unfold F16
 apply okP.bind
 refine okP.mono (fold_ok h x0 x4 3) (fun p hp => ?_)
 apply okP.bind
 exact okP.mono (stSn_ok hp x 3) (fun p hp => okP.some hp)
def cq (S : List Int32) (n : Int32) : Nat → Int32
 | 0 => 0
 | k + 1 => if n % (S.getD k 0) = 0 then cq S n k + 1 else cq S n k
theorem push_ok {R S : List Int32} {n q : Int32} {o : Ob} (h : Sh R S n q o) (hR : R.length = 4) (hS : S.length = 4) (hq : 0 ≤ q.toInt ∧ q.toInt ≤ 4) (hs : ∀ k, k < q.toInt.toNat → 1 ≤ (S.getD k 0).toInt) (a b c d : Int32) : okP (F9 o a b c d) (fun r => Sh R S (n + 1) q r.2 ∧ r.1 = cq S (n + 1) q.toInt.toNat) := by
 unfold F9
 have hn : f_n o = n := h.2.2.2.2.2.2.2.2.2.1
 rw [hn]
 have g : Sh R S (n + 1) q (s_n o (n + 1)) := by
  obtain ⟨m, hm⟩ : ∃ m, m = n + 1 := ⟨_, rfl⟩
  rw [← hm]
  dsimp only [Sh, f_regTuple, f_regA, f_regB, f_regC, f_regCount, f_slots, f_range, f_slide, f_frontSize, f_backSize, f_backElem, f_frontAgg, f_backAgg, f_snap, f_reg, f_capacity, f_queries, f_n, s_n] at h ⊢
  exact ⟨h.1, h.2.1, h.2.2.1, h.2.2.2.1, h.2.2.2.2.1, h.2.2.2.2.2.1, h.2.2.2.2.2.2.1, h.2.2.2.2.2.2.2.1, h.2.2.2.2.2.2.2.2.1, rfl, h.2.2.2.2.2.2.2.2.2.2⟩
 obtain ⟨m, hm⟩ : ∃ m, m = n + 1 := ⟨_, rfl⟩
 rw [← hm] at g ⊢
 apply okP.bind
 refine okP.mono (regSet_ok g 0 a b c d) (fun p hp => ?_)
 apply okP.bind
 have z1 : (1 : Int32).toInt = 1 := rfl
 refine okP.loop (fun w => 0 ≤ w.2.1.toInt ∧ w.2.1.toInt ≤ q.toInt ∧ Sh R S m q w.2.2 ∧ w.1 = cq S m w.2.1.toInt.toNat) (fun w => (4 - w.2.1.toInt).toNat) ⟨by show (0 : Int) ≤ 0; decide, hq.1, hp, rfl⟩ (by show (4 - (0 : Int)).toNat < 4000; decide) ?_
 rintro ⟨e, w, p⟩ ⟨a1, a2, a3, a4⟩
 simp only at a1 a2 a3 a4
 unfold B9_26 J9_75
 simp only
 rw [a3.2.2.2.2.2.2.2.2.2.2.1]
 apply okP.ite <;> intro c
 ·rw [i_lt] at c
  have e2 : (w + 1).toInt = w.toInt + 1 := inc1 (by omega)
  have en : (w + 1).toInt.toNat = w.toInt.toNat + 1 := by omega
  apply okP.bind
  refine okP.mono (append_ok a3 hR w) (fun p hp => ?_)
  rw [hp.2.2.2.2.2.2.2.2.1, hp.2.2.2.2.2.2.2.2.2.1]
  apply okP.bind
  refine okP.aget a1 (by rw [hS]; omega) (fun y hy => ?_)
  have hy' : S.getD w.toInt.toNat 0 = y := by rw [List.getD_eq_getElem?_getD, hy]; rfl
  have y1 := hs w.toInt.toNat (by omega)
  rw [hy'] at y1
  rw [if_neg (by rw [i_lt, z1]; omega)]
  have yz : ¬ y = 0 := by intro z; rw [z] at y1; revert y1; decide
  have qr : qrem m y = some (m % y) := by unfold qrem; rw [if_neg yz]
  rw [qr]
  simp only [Option.bind_some]
  apply okP.ite <;> intro mz
  ·apply okP.bind
   refine okP.mono (snapT_ok hp a1 (by omega)) (fun p hp => ?_)
   apply okP.some
   refine ⟨⟨by simp only; omega, by simp only; omega, hp, ?_⟩, by simp only; omega⟩
   simp only
   rw [en, cq, hy', if_pos mz, a4]
  ·apply okP.some
   refine ⟨⟨by simp only; omega, by simp only; omega, hp, ?_⟩, by simp only; omega⟩
   simp only
   rw [en, cq, hy', if_neg mz, a4]
 ·rw [i_lt] at c
  apply okP.some
  apply okP.some
  refine ⟨a3, ?_⟩
  simp only
  rw [a4]
  congr 1
  omega
theorem loopReset {R S : List Int32} {n q : Int32} {o : Ob} {B : Int32 × Ob → Option (Ob ⊕ (Int32 × Ob))} (hB : ∀ v, B v = (if v.1 < 4 then (F2 v.2 v.1).bind fun r => some (.inr (v.1 + 1, r)) else some (.inl v.2))) (h : Sh R S n q o) : okP (loopN B qN (0, o)) (fun p => Sh R S n q p) := by
 refine okP.loop (fun w => 0 ≤ w.1.toInt ∧ w.1.toInt ≤ 4 ∧ Sh R S n q w.2) (fun w => (4 - w.1.toInt).toNat) ⟨by show (0 : Int) ≤ 0; decide, by show (0 : Int) ≤ 4; decide, h⟩ (by show (4 - (0 : Int)).toNat < 4000; decide) ?_
 rintro ⟨w, p⟩ ⟨a1, a2, a3⟩
 simp only at a1 a2 a3
 rw [hB]
 simp only
 apply okP.ite <;> intro c
 ·rw [i_lt, z4'] at c
  have e2 : (w + 1).toInt = w.toInt + 1 := inc1 (by omega)
  apply okP.bind
  refine okP.mono (reset_ok a3 w) (fun p hp => ?_)
  apply okP.some
  exact ⟨⟨by simp only; omega, by simp only; omega, hp⟩, by simp only; omega⟩
 ·exact okP.some a3
theorem init_ok : okP (F1 1) (fun p => Sh (List.replicate 4 0) (List.replicate 4 0) 0 0 p) := by
 unfold F1
 have e : (if (4 : Int32) < (if (1 : Int32) < 1 then 1 else 1) then (4 : Int32) else (if (1 : Int32) < 1 then 1 else 1)) = 1 := by decide
 rw [e]
 apply okP.bind
 refine okP.mono (loopReset (R := List.replicate 4 0) (S := List.replicate 4 0) (n := 0) (q := 0) (fun v => rfl) ?_) (fun p hp => okP.some hp)
 dsimp only [Sh, f_regTuple, f_regA, f_regB, f_regC, f_regCount, f_slots, f_range, f_slide, f_frontSize, f_backSize, f_backElem, f_frontAgg, f_backAgg, f_snap, f_reg, f_capacity, f_queries, f_n, s_regTuple, s_regA, s_regB, s_regC, s_regCount, s_slots, s_range, s_slide, s_frontSize, s_backSize, s_backElem, s_frontAgg, s_backAgg, s_snap, s_reg, s_capacity, s_queries, s_n]
 refine ⟨?_, ?_, ?_, ?_, ?_, ?_, ?_, rfl, rfl, rfl, rfl, rfl⟩ <;> exact List.length_replicate

theorem copy4 {src dst : Ob → List Int32} {upd : Ob → List Int32 → Ob} (h1 : ∀ o z, src (upd o z) = src o) (h2 : ∀ o z, dst (upd o z) = z) (h3 : ∀ o z z', upd (upd o z) z' = upd o z') (h4 : ∀ o, upd o (dst o) = o) {B : Int32 × Ob → Option (Ob ⊕ (Int32 × Ob))} {u w : Int32} (hB : ∀ v : Int32 × Ob, B v = (if v.1 < 4 then (aget (src v.2) (u + v.1)).bind fun y => (aset (dst v.2) (w + v.1) y).bind fun z => some (.inr (v.1 + 1, upd v.2 z)) else some (.inl v.2))) {o : Ob} {U V : Nat} (hu : u.toInt = U) (hw : w.toInt = V) (lu : U + 4 ≤ (src o).length) (lw : V + 4 ≤ (dst o).length) (su : U ≤ 2000) (sv : V ≤ 2000) : okP (loopN B qN (0, o)) (fun p => ∃ R, p = upd o R ∧ R.length = (dst o).length ∧ ∀ k, R[k]? = if V ≤ k ∧ k < V + 4 then (src o)[U + (k - V)]? else (dst o)[k]?) := by
 refine okP.loop (fun x => 0 ≤ x.1.toInt ∧ x.1.toInt ≤ 4 ∧ ∃ R, x.2 = upd o R ∧ R.length = (dst o).length ∧ ∀ k, R[k]? = if V ≤ k ∧ k < V + x.1.toInt.toNat then (src o)[U + (k - V)]? else (dst o)[k]?) (fun x => (4 - x.1.toInt).toNat) ⟨by show (0 : Int) ≤ 0; decide, by show (0 : Int) ≤ 4; decide, dst o, (h4 o).symm, rfl, fun k => by rw [if_neg (by show ¬ (V ≤ k ∧ k < V + 0); omega)]⟩ (by show (4 - (0 : Int)).toNat < 4000; decide) ?_
 rintro ⟨i, p⟩ ⟨a1, a2, R, a3, a4, a5⟩
 simp only at a1 a2 a3 a5
 subst a3
 rw [hB]
 simp only
 apply okP.ite <;> intro c
 ·rw [i_lt, z4'] at c
  have e2 : (i + 1).toInt = i.toInt + 1 := inc1 (by omega)
  have en : (i + 1).toInt.toNat = i.toInt.toNat + 1 := by omega
  have i1 : (u + i).toInt = u.toInt + i.toInt := i_add (by omega) (by omega)
  have i2 : (w + i).toInt = w.toInt + i.toInt := i_add (by omega) (by omega)
  rw [h1, h2]
  apply okP.bind
  refine okP.aget (by omega) (by omega) (fun y hy => ?_)
  have ey : (u + i).toInt.toNat = U + i.toInt.toNat := by omega
  rw [ey] at hy
  apply okP.bind
  refine okP.aset (by omega) (by omega) ?_
  have ew : (w + i).toInt.toNat = V + i.toInt.toNat := by omega
  rw [ew]
  apply okP.some
  refine ⟨⟨by simp only; omega, by simp only; omega, R.set (V + i.toInt.toNat) y, by simp only; rw [h3], by rw [List.length_set]; exact a4, fun k => ?_⟩, by simp only; omega⟩
  simp only
  rw [List.getElem?_set, en, a5 k]
  by_cases e : V + i.toInt.toNat = k
  ·rw [if_pos e, if_pos (by omega), if_pos (by omega), ← hy]
   congr 1; omega
  ·rw [if_neg e]
   by_cases q : V ≤ k ∧ k < V + i.toInt.toNat
   ·rw [if_pos q, if_pos (by omega)]
   ·rw [if_neg q, if_neg (by omega)]
 ·rw [i_lt, z4'] at c
  apply okP.some
  refine ⟨R, rfl, a4, fun k => ?_⟩
  have : i.toInt.toNat = 4 := by omega
  rw [a5 k, this]
theorem set_ex {R S : List Int32} {n q : Int32} {o : Ob} (h : Sh R S n q o) {x : Int32} (x0 : 0 ≤ x.toInt) (x4 : x.toInt < 4) (a b c d : Int32) : F4 o x a b c d = some (s_reg o (((((f_reg o).set (x.toInt.toNat * 4) a).set (x.toInt.toNat * 4 + 1) b).set (x.toInt.toNat * 4 + 2) c).set (x.toInt.toNat * 4 + 3) d)) := by
 have l := Sh_l_reg h
 unfold F4
 obtain ⟨r, hr, q⟩ := vreg x
 have r0 : r ≠ 0 := by
  rcases q with rfl | q
  ·exfalso
   unfold F5 at hr
   rw [if_neg (by rw [i_lt]; show ¬ x.toInt < 0; omega), if_pos (by rw [i_lt]; exact x4)] at hr
   cases hr
  ·exact q.1
 rw [hr]
 simp only [Option.bind_some]
 rw [if_neg r0]
 have e := m4 x0 (by omega)
 have e1 : (x * 4 + 1).toInt = x.toInt * 4 + 1 := by rw [inc1 (by omega), e]
 have e2 : (x * 4 + 2).toInt = x.toInt * 4 + 2 := by rw [i_add (by rw [e]; show _ ≤ x.toInt * 4 + 2; omega) (by rw [e]; show x.toInt * 4 + 2 < _; omega), e]; rfl
 have e3 : (x * 4 + 3).toInt = x.toInt * 4 + 3 := by rw [i_add (by rw [e]; show _ ≤ x.toInt * 4 + 3; omega) (by rw [e]; show x.toInt * 4 + 3 < _; omega), e]; rfl
 rw [aset_at (n := x.toInt.toNat * 4) (by omega) (by omega)]
 simp only [Option.bind_some]
 rw [aset_at (n := x.toInt.toNat * 4 + 1) (by omega) (by rw [List.length_set]; omega)]
 simp only [Option.bind_some]
 rw [aset_at (n := x.toInt.toNat * 4 + 2) (by omega) (by simp only [List.length_set]; omega)]
 simp only [Option.bind_some]
 rw [aset_at (n := x.toInt.toNat * 4 + 3) (by omega) (by simp only [List.length_set]; omega)]
 rfl

def M4 (l : List Int32) (k : Nat) (m : Int32 × Int32 × Int32 × Int32) : Prop := l[k]? = some m.1 ∧ l[k + 1]? = some m.2.1 ∧ l[k + 2]? = some m.2.2.1 ∧ l[k + 3]? = some m.2.2.2
theorem M4_cp {R src dst : List Int32} {U V : Nat} {m : Int32 × Int32 × Int32 × Int32} (h : ∀ k, R[k]? = if V ≤ k ∧ k < V + 4 then src[U + (k - V)]? else dst[k]?) (hm : M4 src U m) : M4 R V m := by
 obtain ⟨m1, m2, m3, m4⟩ := hm
 refine ⟨?_, ?_, ?_, ?_⟩
 ·rw [h, if_pos (by omega), show U + (V - V) = U by omega]; exact m1
 ·rw [h, if_pos (by omega), show U + (V + 1 - V) = U + 1 by omega]; exact m2
 ·rw [h, if_pos (by omega), show U + (V + 2 - V) = U + 2 by omega]; exact m3
 ·rw [h, if_pos (by omega), show U + (V + 3 - V) = U + 3 by omega]; exact m4
theorem M4_ot {R src dst : List Int32} {U V k : Nat} {m : Int32 × Int32 × Int32 × Int32} (h : ∀ k, R[k]? = if V ≤ k ∧ k < V + 4 then src[U + (k - V)]? else dst[k]?) (hk : k + 4 ≤ V ∨ V + 4 ≤ k) (hm : M4 dst k m) : M4 R k m := by
 obtain ⟨m1, m2, m3, m4⟩ := hm
 refine ⟨?_, ?_, ?_, ?_⟩ <;> rw [h, if_neg (by omega)] <;> assumption
theorem vr {u : Int32} (u0 : 0 ≤ u.toInt) (u4 : u.toInt < 4) : F5 u = some 1 := by
 unfold F5
 rw [if_neg (by rw [i_lt]; show ¬ u.toInt < 0; omega), if_pos (by rw [i_lt]; exact u4)]
theorem vsl {y : Int32} (y0 : 0 ≤ y.toInt) (y1 : y.toInt < 32) : F11 0 y = some 1 := by
 unfold F11
 rw [if_neg (by decide), if_pos (by decide), if_neg (by rw [i_lt]; show ¬ y.toInt < 0; omega), if_pos (by rw [i_lt]; exact y1)]
theorem id_m {R S : List Int32} {n q : Int32} {o : Ob} (h : Sh R S n q o) : ∃ L : List Int32, F3 o 1 = some (s_reg o L) ∧ L.length = 16 ∧ M4 L 4 (1, 0, 0, 1) ∧ ∀ k m, (k + 4 ≤ 4 ∨ 8 ≤ k) → M4 (f_reg o) k m → M4 L k m := by
 have l := Sh_l_reg h
 unfold F3
 rw [set_ex h (x := 1) (by decide) (by decide)]
 refine ⟨(((((f_reg o).set 4 1).set 5 0).set 6 0).set 7 1), rfl, by simp only [List.length_set]; exact l, ⟨?_, ?_, ?_, ?_⟩, fun k m hk hm => ?_⟩
 ·rw [List.getElem?_set_ne (by decide), List.getElem?_set_ne (by decide), List.getElem?_set_ne (by decide), List.getElem?_set_self (by omega)]
 ·show (((((f_reg o).set 4 1).set 5 0).set 6 0).set 7 1)[5]? = _
  rw [List.getElem?_set_ne (by decide), List.getElem?_set_ne (by decide), List.getElem?_set_self (by rw [List.length_set]; omega)]
 ·show (((((f_reg o).set 4 1).set 5 0).set 6 0).set 7 1)[6]? = _
  rw [List.getElem?_set_ne (by decide), List.getElem?_set_self (by simp only [List.length_set]; omega)]
 ·show (((((f_reg o).set 4 1).set 5 0).set 6 0).set 7 1)[7]? = _
  rw [List.getElem?_set_self (by simp only [List.length_set]; omega)]
 ·obtain ⟨m1, m2, m3, m4⟩ := hm
  refine ⟨?_, ?_, ?_, ?_⟩ <;> rw [List.getElem?_set_ne (by omega), List.getElem?_set_ne (by omega), List.getElem?_set_ne (by omega), List.getElem?_set_ne (by omega)] <;> assumption
theorem ba_m {R S : List Int32} {n q : Int32} {o : Ob} (h : Sh R S n q o) {m : Int32 × Int32 × Int32 × Int32} (hm : M4 (f_reg o) 4 m) : okP (F6 o 0 1) (fun p => ∃ L : List Int32, p = s_backAgg o L ∧ L.length = 16 ∧ M4 L 0 m) := by
 have l := Sh_l_reg h
 have l2 := Sh_l_backAgg h
 unfold F6
 rw [vr (u := 1) (by decide) (by decide)]
 simp only [Option.bind_some]
 rw [if_neg (by decide), if_neg (by decide), if_pos (by decide)]
 apply okP.bind
 refine okP.mono (copy4 (src := f_reg) (dst := f_backAgg) (upd := s_backAgg) (u := 1 * 4) (w := 0 * 4) (U := 4) (V := 0) (fun _ _ => rfl) (fun _ _ => rfl) (fun _ _ _ => rfl) (fun _ => rfl) (fun _ => rfl) rfl rfl (by omega) (by omega) (by decide) (by decide)) ?_
 rintro p ⟨L, hp, hl, hk⟩
 exact okP.some ⟨L, hp, by rw [hl]; exact l2, M4_cp hk hm⟩
theorem sn_m {R S : List Int32} {n q : Int32} {o : Ob} (h : Sh R S n q o) {y : Int32} {U : Nat} (y0 : 0 ≤ y.toInt) (y4 : y.toInt < 4) (hU : y.toInt * 4 = U) {m : Int32 × Int32 × Int32 × Int32} (hm : M4 (f_reg o) U m) : okP (F7 o 0 y) (fun p => ∃ L : List Int32, p = s_snap o L ∧ L.length = 16 ∧ M4 L 0 m) := by
 have l := Sh_l_reg h
 have l2 := Sh_l_snap h
 unfold F7
 rw [vr y0 y4]
 simp only [Option.bind_some]
 rw [if_neg (by decide), if_neg (by decide), if_pos (by decide)]
 have e := m4 y0 (by omega)
 apply okP.bind
 refine okP.mono (copy4 (src := f_reg) (dst := f_snap) (upd := s_snap) (u := y * 4) (w := 0 * 4) (U := U) (V := 0) (fun _ _ => rfl) (fun _ _ => rfl) (fun _ _ _ => rfl) (fun _ => rfl) (fun _ => rfl) (by omega) rfl (by omega) (by omega) (by omega) (by decide)) ?_
 rintro p ⟨L, hp, hl, hk⟩
 exact okP.some ⟨L, hp, by rw [hl]; exact l2, M4_cp hk hm⟩
theorem ld_m {R S : List Int32} {n q : Int32} {o : Ob} (h : Sh R S n q o) {x : Int32} {V : Nat} (x0 : 0 ≤ x.toInt) (x4 : x.toInt < 4) (hV : x.toInt * 4 = V) {m : Int32 × Int32 × Int32 × Int32} (hm : M4 (f_backAgg o) 0 m) : okP (F14 o x 0) (fun p => ∃ L : List Int32, p = s_reg o L ∧ L.length = 16 ∧ M4 L V m ∧ ∀ k m, (k + 4 ≤ V ∨ V + 4 ≤ k) → M4 (f_reg o) k m → M4 L k m) := by
 have l := Sh_l_reg h
 have l2 := Sh_l_backAgg h
 unfold F14
 rw [vr x0 x4]
 simp only [Option.bind_some]
 rw [if_neg (by decide), if_neg (by decide), if_pos (by decide)]
 have e := m4 x0 (by omega)
 apply okP.bind
 refine okP.mono (copy4 (src := f_backAgg) (dst := f_reg) (upd := s_reg) (u := 0 * 4) (w := x * 4) (U := 0) (V := V) (fun _ _ => rfl) (fun _ _ => rfl) (fun _ _ _ => rfl) (fun _ => rfl) (fun _ => rfl) rfl (by omega) (by omega) (by omega) (by decide) (by omega)) ?_
 rintro p ⟨L, hp, hl, hk⟩
 exact okP.some ⟨L, hp, by rw [hl]; exact l, M4_cp hk hm, fun k m hk' hm' => M4_ot hk hk' hm'⟩
theorem sb_m {R S : List Int32} {n q : Int32} {o : Ob} (h : Sh R S n q o) {y : Int32} {V : Nat} (y0 : 0 ≤ y.toInt) (y1 : y.toInt < 32) (hV : y.toInt * 4 = V) {m : Int32 × Int32 × Int32 × Int32} (hm : M4 (f_reg o) 0 m) : okP (F12 o 0 y 0) (fun p => ∃ L : List Int32, p = s_backElem o L ∧ L.length = 512 ∧ M4 L V m ∧ ∀ k m, (k + 4 ≤ V ∨ V + 4 ≤ k) → M4 (f_backElem o) k m → M4 L k m) := by
 have l := Sh_l_reg h
 have l2 := Sh_l_backElem h
 unfold F12 F13
 rw [vr (u := 0) (by decide) (by decide), vsl y0 y1]
 simp only [Option.bind_some]
 rw [if_neg (by decide), if_neg (by decide)]
 have e := slotI (x := 0) (y := y) (by decide) (by decide) y0 y1
 have z0 : (0 : Int32).toInt = 0 := rfl
 rw [z0] at e
 apply okP.bind
 refine okP.mono (copy4 (src := f_reg) (dst := f_backElem) (upd := s_backElem) (u := 0 * 4) (w := (0 * 32 + y) * 4) (U := 0) (V := V) (fun _ _ => rfl) (fun _ _ => rfl) (fun _ _ _ => rfl) (fun _ => rfl) (fun _ => rfl) rfl (by omega) (by omega) (by omega) (by decide) (by omega)) ?_
 rintro p ⟨L, hp, hl, hk⟩
 exact okP.some ⟨L, hp, by rw [hl]; exact l2, M4_cp hk hm, fun k m hk' hm' => M4_ot hk hk' hm'⟩
theorem lb_m {R S : List Int32} {n q : Int32} {o : Ob} (h : Sh R S n q o) {y : Int32} {U : Nat} (y0 : 0 ≤ y.toInt) (y1 : y.toInt < 32) (hU : y.toInt * 4 = U) {m : Int32 × Int32 × Int32 × Int32} (hm : M4 (f_backElem o) U m) : okP (F20 o 2 0 y) (fun p => ∃ L : List Int32, p = s_reg o L ∧ L.length = 16 ∧ M4 L 8 m ∧ ∀ k m, (k + 4 ≤ 8 ∨ 12 ≤ k) → M4 (f_reg o) k m → M4 L k m) := by
 have l := Sh_l_reg h
 have l2 := Sh_l_backElem h
 unfold F20 F13
 rw [vr (u := 2) (by decide) (by decide), vsl y0 y1]
 simp only [Option.bind_some]
 rw [if_neg (by decide), if_neg (by decide)]
 have e := slotI (x := 0) (y := y) (by decide) (by decide) y0 y1
 have z0 : (0 : Int32).toInt = 0 := rfl
 rw [z0] at e
 apply okP.bind
 refine okP.mono (copy4 (src := f_backElem) (dst := f_reg) (upd := s_reg) (u := (0 * 32 + y) * 4) (w := 2 * 4) (U := U) (V := 8) (fun _ _ => rfl) (fun _ _ => rfl) (fun _ _ _ => rfl) (fun _ => rfl) (fun _ => rfl) (by omega) rfl (by omega) (by omega) (by omega) (by decide)) ?_
 rintro p ⟨L, hp, hl, hk⟩
 exact okP.some ⟨L, hp, by rw [hl]; exact l, M4_cp hk hm, fun k m hk' hm' => M4_ot hk hk' hm'⟩
theorem sf_m {R S : List Int32} {n q : Int32} {o : Ob} (h : Sh R S n q o) {y : Int32} {V : Nat} (y0 : 0 ≤ y.toInt) (y1 : y.toInt < 32) (hV : y.toInt * 4 = V) {m : Int32 × Int32 × Int32 × Int32} (hm : M4 (f_reg o) 4 m) : okP (F21 o 0 y 1) (fun p => ∃ L : List Int32, p = s_frontAgg o L ∧ L.length = 512 ∧ M4 L V m ∧ ∀ k m, (k + 4 ≤ V ∨ V + 4 ≤ k) → M4 (f_frontAgg o) k m → M4 L k m) := by
 have l := Sh_l_reg h
 have l2 := Sh_l_frontAgg h
 unfold F21 F13
 rw [vr (u := 1) (by decide) (by decide), vsl y0 y1]
 simp only [Option.bind_some]
 rw [if_neg (by decide), if_neg (by decide)]
 have e := slotI (x := 0) (y := y) (by decide) (by decide) y0 y1
 have z0 : (0 : Int32).toInt = 0 := rfl
 rw [z0] at e
 apply okP.bind
 refine okP.mono (copy4 (src := f_reg) (dst := f_frontAgg) (upd := s_frontAgg) (u := 1 * 4) (w := (0 * 32 + y) * 4) (U := 4) (V := V) (fun _ _ => rfl) (fun _ _ => rfl) (fun _ _ _ => rfl) (fun _ => rfl) (fun _ => rfl) rfl (by omega) (by omega) (by omega) (by decide) (by omega)) ?_
 rintro p ⟨L, hp, hl, hk⟩
 exact okP.some ⟨L, hp, by rw [hl]; exact l2, M4_cp hk hm, fun k m hk' hm' => M4_ot hk hk' hm'⟩
theorem lf_m {R S : List Int32} {n q : Int32} {o : Ob} (h : Sh R S n q o) {y : Int32} {U : Nat} (y0 : 0 ≤ y.toInt) (y1 : y.toInt < 32) (hU : y.toInt * 4 = U) {m : Int32 × Int32 × Int32 × Int32} (hm : M4 (f_frontAgg o) U m) : okP (F29 o 1 0 y) (fun p => ∃ L : List Int32, p = s_reg o L ∧ L.length = 16 ∧ M4 L 4 m) := by
 have l := Sh_l_reg h
 have l2 := Sh_l_frontAgg h
 unfold F29 F13
 rw [vr (u := 1) (by decide) (by decide), vsl y0 y1]
 simp only [Option.bind_some]
 rw [if_neg (by decide), if_neg (by decide)]
 have e := slotI (x := 0) (y := y) (by decide) (by decide) y0 y1
 have z0 : (0 : Int32).toInt = 0 := rfl
 rw [z0] at e
 apply okP.bind
 refine okP.mono (copy4 (src := f_frontAgg) (dst := f_reg) (upd := s_reg) (u := (0 * 32 + y) * 4) (w := 1 * 4) (U := U) (V := 4) (fun _ _ => rfl) (fun _ _ => rfl) (fun _ _ _ => rfl) (fun _ => rfl) (fun _ => rfl) (by omega) rfl (by omega) (by omega) (by omega) (by decide)) ?_
 rintro p ⟨L, hp, hl, hk⟩
 exact okP.some ⟨L, hp, by rw [hl]; exact l, M4_cp hk hm⟩
def mm (A B : Int32 × Int32 × Int32 × Int32) : Int32 × Int32 × Int32 × Int32 := (A.1 * B.1 + A.2.1 * B.2.2.1, A.1 * B.2.1 + A.2.1 * B.2.2.2, A.2.2.1 * B.1 + A.2.2.2 * B.2.2.1, A.2.2.1 * B.2.1 + A.2.2.2 * B.2.2.2)
theorem mm_l (A : Int32 × Int32 × Int32 × Int32) : mm (1, 0, 0, 1) A = A := by
 obtain ⟨a, b, c, d⟩ := A
 simp only [mm, Int32.one_mul, Int32.zero_mul, Int32.add_zero, Int32.zero_add]
theorem mm_r (A : Int32 × Int32 × Int32 × Int32) : mm A (1, 0, 0, 1) = A := by
 obtain ⟨a, b, c, d⟩ := A
 simp only [mm, Int32.mul_one, Int32.mul_zero, Int32.add_zero, Int32.zero_add]
theorem mul_m {R S : List Int32} {n q : Int32} {o : Ob} (h : Sh R S n q o) {x y z : Int32} {X Y Z : Nat} (hx : x.toInt * 4 = X) (hy : y.toInt * 4 = Y) (hz : z.toInt * 4 = Z) (x4 : x.toInt < 4) (y4 : y.toInt < 4) (w4 : z.toInt < 4) {A B : Int32 × Int32 × Int32 × Int32} (hA : M4 (f_reg o) Y A) (hB : M4 (f_reg o) Z B) : okP (F15 o x y z) (fun p => ∃ L : List Int32, p = s_reg o L ∧ L.length = 16 ∧ M4 L X (mm A B) ∧ ∀ k m, (k + 4 ≤ X ∨ X + 4 ≤ k) → M4 (f_reg o) k m → M4 L k m) := by
 have l := Sh_l_reg h
 obtain ⟨A1, A2, A3, A4⟩ := hA
 obtain ⟨B1, B2, B3, B4⟩ := hB
 unfold F15
 rw [vr (u := x) (by omega) x4, vr (u := y) (by omega) y4, vr (u := z) (by omega) w4]
 simp only [Option.bind_some]
 rw [if_neg (by decide), if_neg (by decide), if_neg (by decide)]
 have three : ∀ (x : Int32) (X : Nat), x.toInt * 4 = X → x.toInt < 4 → (x * 4).toInt = X ∧ (x * 4 + 1).toInt = (X + 1 : Nat) ∧ (x * 4 + 2).toInt = (X + 2 : Nat) ∧ (x * 4 + 3).toInt = (X + 3 : Nat) := by
  intro x X hX x4
  have e := m4 (x := x) (by omega) (by omega)
  refine ⟨by omega, ?_, ?_, ?_⟩
  ·rw [inc1 (by omega), e]; omega
  ·rw [i_add (by rw [e]; show _ ≤ x.toInt * 4 + 2; omega) (by rw [e]; show x.toInt * 4 + 2 < _; omega), e]; show x.toInt * 4 + 2 = _; omega
  ·rw [i_add (by rw [e]; show _ ≤ x.toInt * 4 + 3; omega) (by rw [e]; show x.toInt * 4 + 3 < _; omega), e]; show x.toInt * 4 + 3 = _; omega
 obtain ⟨x1, x2, x3, x5⟩ := three x X hx x4
 obtain ⟨y1, y2, y3, y5⟩ := three y Y hy y4
 obtain ⟨w1, w2, w3, w5⟩ := three z Z hz w4
 have rd : ∀ {j : Int32} {k : Nat} {w : Int32}, j.toInt = k → (f_reg o)[k]? = some w → aget (f_reg o) j = some w := by
  intro j k w h2 h3
  unfold aget
  rw [if_neg (by rw [i_lt]; show ¬ j.toInt < 0; omega), i_nat, h2, Int.toNat_natCast]
  exact h3
 rw [rd y1 A1, rd y2 A2, rd y3 A3, rd y5 A4, rd w1 B1, rd w2 B2, rd w3 B3, rd w5 B4]
 simp only [Option.bind_some]
 rw [aset_at x1 (by omega)]
 simp only [Option.bind_some]
 rw [aset_at x2 (by rw [List.length_set]; omega)]
 simp only [Option.bind_some]
 rw [aset_at x3 (by simp only [List.length_set]; omega)]
 simp only [Option.bind_some]
 rw [aset_at x5 (by simp only [List.length_set]; omega)]
 simp only [Option.bind_some]
 refine okP.some ⟨_, rfl, by simp only [List.length_set]; exact l, ⟨?_, ?_, ?_, ?_⟩, fun k m hk hm => ?_⟩
 ·rw [List.getElem?_set_ne (by omega), List.getElem?_set_ne (by omega), List.getElem?_set_ne (by omega), List.getElem?_set_self (by omega)]; rfl
 ·rw [List.getElem?_set_ne (by omega), List.getElem?_set_ne (by omega), List.getElem?_set_self (by simp only [List.length_set]; omega)]; rfl
 ·rw [List.getElem?_set_ne (by omega), List.getElem?_set_self (by simp only [List.length_set]; omega)]; rfl
 ·rw [List.getElem?_set_self (by simp only [List.length_set]; omega)]; rfl
 ·obtain ⟨m1, m2, m3, m4⟩ := hm
  refine ⟨?_, ?_, ?_, ?_⟩ <;> rw [List.getElem?_set_ne (by omega), List.getElem?_set_ne (by omega), List.getElem?_set_ne (by omega), List.getElem?_set_ne (by omega)] <;> assumption
abbrev MX := Int32 × Int32 × Int32 × Int32
theorem M4_ex {l : List Int32} {k : Nat} (h : k + 4 ≤ l.length) : ∃ m, M4 l k m := ⟨(l[k]'(by omega), l[k + 1]'(by omega), l[k + 2]'(by omega), l[k + 3]'(by omega)), List.getElem?_eq_getElem _, List.getElem?_eq_getElem _, List.getElem?_eq_getElem _, List.getElem?_eq_getElem _⟩
def Z (o : Ob) (fs bs : Int32) (BA E0 E1 F0 SN : MX) : Prop := (f_frontSize o)[0]? = some fs ∧ (f_backSize o)[0]? = some bs ∧ M4 (f_backAgg o) 0 BA ∧ M4 (f_backElem o) 0 E0 ∧ M4 (f_backElem o) 4 E1 ∧ M4 (f_frontAgg o) 0 F0 ∧ M4 (f_snap o) 0 SN
theorem Z_reg {o : Ob} {fs bs : Int32} {BA E0 E1 F0 SN : MX} {x : List Int32} (h : Z o fs bs BA E0 E1 F0 SN) : Z (s_reg o x) fs bs BA E0 E1 F0 SN := by
 dsimp only [Z, f_regTuple, f_regA, f_regB, f_regC, f_regCount, f_slots, f_range, f_slide, f_frontSize, f_backSize, f_backElem, f_frontAgg, f_backAgg, f_snap, f_reg, f_capacity, f_queries, f_n, s_reg] at h ⊢
 exact h
theorem Z_n {o : Ob} {fs bs : Int32} {BA E0 E1 F0 SN : MX} {x : Int32} (h : Z o fs bs BA E0 E1 F0 SN) : Z (s_n o x) fs bs BA E0 E1 F0 SN := by
 dsimp only [Z, f_regTuple, f_regA, f_regB, f_regC, f_regCount, f_slots, f_range, f_slide, f_frontSize, f_backSize, f_backElem, f_frontAgg, f_backAgg, f_snap, f_reg, f_capacity, f_queries, f_n, s_n] at h ⊢
 exact h
theorem Z_q {o : Ob} {fs bs : Int32} {BA E0 E1 F0 SN : MX} {x : Int32} (h : Z o fs bs BA E0 E1 F0 SN) : Z (s_queries o x) fs bs BA E0 E1 F0 SN := by
 dsimp only [Z, f_regTuple, f_regA, f_regB, f_regC, f_regCount, f_slots, f_range, f_slide, f_frontSize, f_backSize, f_backElem, f_frontAgg, f_backAgg, f_snap, f_reg, f_capacity, f_queries, f_n, s_queries] at h ⊢
 exact h
theorem Z_ba {o : Ob} {fs bs : Int32} {BA E0 E1 F0 SN A : MX} {x : List Int32} (h : Z o fs bs BA E0 E1 F0 SN) (hx : M4 x 0 A) : Z (s_backAgg o x) fs bs A E0 E1 F0 SN := by
 dsimp only [Z, f_regTuple, f_regA, f_regB, f_regC, f_regCount, f_slots, f_range, f_slide, f_frontSize, f_backSize, f_backElem, f_frontAgg, f_backAgg, f_snap, f_reg, f_capacity, f_queries, f_n, s_backAgg] at h ⊢
 exact ⟨h.1, h.2.1, hx, h.2.2.2⟩
theorem Z_sn {o : Ob} {fs bs : Int32} {BA E0 E1 F0 SN A : MX} {x : List Int32} (h : Z o fs bs BA E0 E1 F0 SN) (hx : M4 x 0 A) : Z (s_snap o x) fs bs BA E0 E1 F0 A := by
 dsimp only [Z, f_regTuple, f_regA, f_regB, f_regC, f_regCount, f_slots, f_range, f_slide, f_frontSize, f_backSize, f_backElem, f_frontAgg, f_backAgg, f_snap, f_reg, f_capacity, f_queries, f_n, s_snap] at h ⊢
 exact ⟨h.1, h.2.1, h.2.2.1, h.2.2.2.1, h.2.2.2.2.1, h.2.2.2.2.2.1, hx⟩
theorem Z_fa {o : Ob} {fs bs : Int32} {BA E0 E1 F0 SN A : MX} {x : List Int32} (h : Z o fs bs BA E0 E1 F0 SN) (hx : M4 x 0 A) : Z (s_frontAgg o x) fs bs BA E0 E1 A SN := by
 dsimp only [Z, f_regTuple, f_regA, f_regB, f_regC, f_regCount, f_slots, f_range, f_slide, f_frontSize, f_backSize, f_backElem, f_frontAgg, f_backAgg, f_snap, f_reg, f_capacity, f_queries, f_n, s_frontAgg] at h ⊢
 exact ⟨h.1, h.2.1, h.2.2.1, h.2.2.2.1, h.2.2.2.2.1, hx, h.2.2.2.2.2.2⟩
theorem Z_be {o : Ob} {fs bs : Int32} {BA E0 E1 F0 SN A B : MX} {x : List Int32} (h : Z o fs bs BA E0 E1 F0 SN) (hx : M4 x 0 A) (hy : M4 x 4 B) : Z (s_backElem o x) fs bs BA A B F0 SN := by
 dsimp only [Z, f_regTuple, f_regA, f_regB, f_regC, f_regCount, f_slots, f_range, f_slide, f_frontSize, f_backSize, f_backElem, f_frontAgg, f_backAgg, f_snap, f_reg, f_capacity, f_queries, f_n, s_backElem] at h ⊢
 exact ⟨h.1, h.2.1, h.2.2.1, hx, hy, h.2.2.2.2.2⟩
theorem Z_fs {o : Ob} {fs bs v : Int32} {BA E0 E1 F0 SN : MX} {x : List Int32} (h : Z o fs bs BA E0 E1 F0 SN) (hx : x[0]? = some v) : Z (s_frontSize o x) v bs BA E0 E1 F0 SN := by
 dsimp only [Z, f_regTuple, f_regA, f_regB, f_regC, f_regCount, f_slots, f_range, f_slide, f_frontSize, f_backSize, f_backElem, f_frontAgg, f_backAgg, f_snap, f_reg, f_capacity, f_queries, f_n, s_frontSize] at h ⊢
 exact ⟨hx, h.2⟩
theorem Z_bs {o : Ob} {fs bs v : Int32} {BA E0 E1 F0 SN : MX} {x : List Int32} (h : Z o fs bs BA E0 E1 F0 SN) (hx : x[0]? = some v) : Z (s_backSize o x) fs v BA E0 E1 F0 SN := by
 dsimp only [Z, f_regTuple, f_regA, f_regB, f_regC, f_regCount, f_slots, f_range, f_slide, f_frontSize, f_backSize, f_backElem, f_frontAgg, f_backAgg, f_snap, f_reg, f_capacity, f_queries, f_n, s_backSize] at h ⊢
 exact ⟨h.1, hx, h.2.2⟩
theorem ga {l : List Int32} {v : Int32} (h : l[0]? = some v) : aget l 0 = some v := by
 unfold aget
 rw [if_neg (by decide)]
 exact h
theorem reset_m {R S : List Int32} {n q : Int32} {o : Ob} (h : Sh R S n q o) : okP (F2 o 0) (fun p => Sh R S n q p ∧ ∃ E0 E1 F0 SN, Z p 0 0 (1, 0, 0, 1) E0 E1 F0 SN) := by
 have l1 := Sh_l_frontSize h
 have l2 := Sh_l_backSize h
 obtain ⟨E0, hE0⟩ := M4_ex (l := f_backElem o) (k := 0) (by rw [Sh_l_backElem h]; decide)
 obtain ⟨E1, hE1⟩ := M4_ex (l := f_backElem o) (k := 4) (by rw [Sh_l_backElem h]; decide)
 obtain ⟨F0, hF0⟩ := M4_ex (l := f_frontAgg o) (k := 0) (by rw [Sh_l_frontAgg h]; decide)
 obtain ⟨SN, hSN⟩ := M4_ex (l := f_snap o) (k := 0) (by rw [Sh_l_snap h]; decide)
 obtain ⟨BA, hBA⟩ := M4_ex (l := f_backAgg o) (k := 0) (by rw [Sh_l_backAgg h]; decide)
 obtain ⟨f, hf⟩ : ∃ f, (f_frontSize o)[0]? = some f := ⟨_, List.getElem?_eq_getElem (by omega)⟩
 obtain ⟨b, hb⟩ : ∃ f, (f_backSize o)[0]? = some f := ⟨_, List.getElem?_eq_getElem (by omega)⟩
 have Z0 : Z o f b BA E0 E1 F0 SN := ⟨hf, hb, hBA, hE0, hE1, hF0, hSN⟩
 unfold F2
 rw [if_neg (by decide), if_pos (by decide), aset_at (n := 0) rfl (by omega)]
 simp only [Option.bind_some]
 rw [aset_at (n := 0) rfl (by omega)]
 simp only [Option.bind_some]
 have S1 : Sh R S n q (s_backSize (s_frontSize o ((f_frontSize o).set 0 0)) ((f_backSize o).set 0 0)) := Sh_backSize (Sh_frontSize h (by rw [List.length_set]; exact l1)) (by rw [List.length_set]; exact l2)
 have Z1 : Z (s_backSize (s_frontSize o ((f_frontSize o).set 0 0)) ((f_backSize o).set 0 0)) 0 0 BA E0 E1 F0 SN := Z_bs (Z_fs Z0 (List.getElem?_set_self (by omega))) (List.getElem?_set_self (by omega))
 obtain ⟨L, hL, lL, mL, _⟩ := id_m S1
 rw [hL]
 simp only [Option.bind_some]
 have S2 := Sh_reg S1 lL
 apply okP.bind
 refine okP.mono (ba_m S2 (m := (1, 0, 0, 1)) mL) ?_
 rintro p ⟨A, rfl, lA, mA⟩
 have S3 := Sh_backAgg S2 lA
 have Z3 := Z_ba (Z_reg (x := L) Z1) mA
 apply okP.bind
 refine okP.mono (sn_m S3 (y := 1) (U := 4) (by decide) (by decide) rfl (m := (1, 0, 0, 1)) mL) ?_
 rintro t ⟨B, rfl, lB, mB⟩
 exact okP.some ⟨Sh_snap S3 lB, E0, E1, F0, _, Z_sn Z3 mB⟩
theorem tail_m {R S : List Int32} {n q : Int32} {o : Ob} (h : Sh R S n q o) {fs y : Int32} {BA E0 E1 F0 SN T : MX} (hz : Z o fs y BA E0 E1 F0 SN) (hT : M4 (f_reg o) 0 T) (hy : y = 0 ∨ y = 1) : okP (J10_39 o 0) (fun p => Sh R S n q p ∧ Z p fs (y + 1) (mm BA T) (if y = 0 then T else E0) (if y = 0 then E1 else T) F0 SN) := by
 have y01 : 0 ≤ y.toInt ∧ y.toInt < 32 := by rcases hy with rfl | rfl <;> decide
 unfold J10_39
 rw [ga hz.2.1]
 simp only [Option.bind_some]
 rw [vsl y01.1 y01.2]
 simp only [Option.bind_some]
 rw [if_neg (by decide)]
 apply okP.bind
 have st : okP (F12 o 0 y 0) (fun p => ∃ L : List Int32, p = s_backElem o L ∧ L.length = 512 ∧ M4 L 0 (if y = 0 then T else E0) ∧ M4 L 4 (if y = 0 then E1 else T)) := by
  rcases hy with rfl | rfl
  ·refine okP.mono (sb_m h (y := 0) (V := 0) (by decide) (by decide) rfl hT) ?_
   rintro p ⟨L, hp, lL, m1, m2⟩
   exact ⟨L, hp, lL, by rw [if_pos rfl]; exact m1, by rw [if_pos rfl]; exact m2 4 E1 (by decide) hz.2.2.2.2.1⟩
  ·refine okP.mono (sb_m h (y := 1) (V := 4) (by decide) (by decide) rfl hT) ?_
   rintro p ⟨L, hp, lL, m1, m2⟩
   exact ⟨L, hp, lL, by rw [if_neg (by decide)]; exact m2 0 E0 (by decide) hz.2.2.2.1, by rw [if_neg (by decide)]; exact m1⟩
 refine okP.mono st ?_
 rintro p ⟨L, rfl, lL, mA, mB⟩
 have S1 := Sh_backElem h lL
 have Z1 := Z_be hz mA mB
 apply okP.bind
 refine okP.mono (ld_m S1 (x := 1) (V := 4) (by decide) (by decide) rfl Z1.2.2.1) ?_
 rintro t ⟨M, rfl, lM, kM, oM⟩
 have S2 := Sh_reg S1 lM
 apply okP.bind
 refine okP.mono (mul_m S2 (x := 1) (y := 1) (z := 0) (X := 4) (Y := 4) (Z := 0) rfl rfl rfl (by decide) (by decide) (by decide) (A := BA) (B := T) kM (oM 0 T (by decide) hT)) ?_
 rintro u ⟨N, rfl, lN, mN, _⟩
 have S3 := Sh_reg S2 lN
 apply okP.bind
 refine okP.mono (ba_m S3 mN) ?_
 rintro v ⟨A, rfl, lA, mA'⟩
 have S4 := Sh_backAgg S3 lA
 have Z4 := Z_ba (Z_reg (x := N) (Z_reg (x := M) Z1)) mA'
 have lb := Sh_l_backSize S4
 obtain ⟨y1, hy1⟩ : ∃ y1, y1 = y + 1 := ⟨_, rfl⟩
 rw [← hy1]
 apply okP.bind
 refine okP.aset (by decide) (by rw [lb]; decide) ?_
 exact okP.some ⟨Sh_backSize S4 (by rw [List.length_set]; exact lb), Z_bs Z4 (List.getElem?_set_self (by rw [lb]; decide))⟩
theorem fold_m {R S : List Int32} {n q : Int32} {o : Ob} (h : Sh R S n q o) {fs bs : Int32} {BA E0 E1 F0 SN : MX} (hz : Z o fs bs BA E0 E1 F0 SN) (hf : fs = 0 ∨ fs = 1) : okP (F17 o 0 3) (fun p => Sh R S n q p ∧ Z p fs bs BA E0 E1 F0 SN ∧ M4 (f_reg p) 12 (mm (if fs = 0 then (1, 0, 0, 1) else F0) BA)) := by
 have j : ∀ {p : Ob} {A : MX}, Sh R S n q p → Z p fs bs BA E0 E1 F0 SN → M4 (f_reg p) 4 A → okP (J17_28 p 0 3) (fun p => Sh R S n q p ∧ Z p fs bs BA E0 E1 F0 SN ∧ M4 (f_reg p) 12 (mm A BA)) := by
  intro p A Sp Zp hA
  unfold J17_28
  apply okP.bind
  refine okP.mono (ld_m Sp (x := 2) (V := 8) (by decide) (by decide) rfl Zp.2.2.1) ?_
  rintro t ⟨M, rfl, lM, kM, oM⟩
  have S2 := Sh_reg Sp lM
  apply okP.bind
  refine okP.mono (mul_m S2 (x := 3) (y := 1) (z := 2) (X := 12) (Y := 4) (Z := 8) rfl rfl rfl (by decide) (by decide) (by decide) (A := A) (B := BA) (oM 4 A (by decide) hA) kM) ?_
  rintro u ⟨N, rfl, lN, mN, _⟩
  exact okP.some ⟨Sh_reg S2 lN, Z_reg (Z_reg Zp), mN⟩
 unfold F17
 rw [ga hz.1]
 simp only [Option.bind_some]
 rcases hf with rfl | rfl
 ·rw [if_neg (by decide), if_pos rfl]
  obtain ⟨L, hL, lL, mL, _⟩ := id_m h
  rw [hL]
  simp only [Option.bind_some]
  exact j (Sh_reg h lL) (Z_reg hz) mL
 ·rw [if_pos (by decide), if_neg (by decide)]
  apply okP.bind
  rw [show (1 : Int32) - 1 = 0 from by decide]
  refine okP.mono (lf_m h (y := 0) (U := 0) (by decide) (by decide) rfl hz.2.2.2.2.2.1) ?_
  rintro p ⟨L, rfl, lL, mL⟩
  exact j (Sh_reg h lL) (Z_reg hz) mL
theorem flip_m {R S : List Int32} {n q : Int32} {o : Ob} (h : Sh R S n q o) {BA E0 E1 F0 SN T : MX} (hz : Z o 0 2 BA E0 E1 F0 SN) (hT : M4 (f_reg o) 0 T) : okP (F18 o 0) (fun p => Sh R S n q p ∧ Z p 1 0 (1, 0, 0, 1) E0 E1 E1 SN ∧ M4 (f_reg p) 0 T) := by
 have fl : okP (F19 o 0) (fun p => Sh R S n q p ∧ Z p 2 0 (1, 0, 0, 1) E0 E1 E1 SN ∧ M4 (f_reg p) 0 T) := by
  unfold F19
  rw [ga hz.2.1]
  simp only [Option.bind_some]
  rw [show (if (32 : Int32) < 2 then (32 : Int32) else 2) = 2 from by decide]
  obtain ⟨L, hL, lL, mL, oL⟩ := id_m h
  rw [hL]
  simp only [Option.bind_some]
  have S1 := Sh_reg h lL
  have Z1 := Z_reg (x := L) hz
  have T1 : M4 (f_reg (s_reg o L)) 0 T := oL 0 T (by decide) hT
  have st : ∀ {p : Ob} {A E F : MX} {v y : Int32} {V U : Nat}, Sh R S n q p → Z p 0 2 BA E0 E1 F SN → M4 (f_reg p) 0 T → M4 (f_reg p) 4 A → v < 2 → (2 - 1) - v = y → 0 ≤ y.toInt → y.toInt < 32 → y.toInt * 4 = U → 0 ≤ v.toInt → v.toInt < 32 → v.toInt * 4 = V → M4 (f_backElem p) U E → okP (B19_23 0 2 (v, p)) (fun x => ∃ (t : Ob) (G : MX), x = Sum.inr (v + 1, t) ∧ Sh R S n q t ∧ Z t 0 2 BA E0 E1 G SN ∧ M4 (f_reg t) 0 T ∧ M4 (f_reg t) 4 (mm E A) ∧ (V = 0 → G = mm E A) ∧ (4 ≤ V → G = F)) := by
   intro p A E F v y V U Sp Zp Tp Ap vl vy y0 y1 yU v0 v1 vV hE
   unfold B19_23
   simp only
   rw [if_pos vl, vy]
   apply okP.bind
   refine okP.mono (lb_m Sp y0 y1 yU hE) ?_
   rintro t ⟨M, rfl, lM, kM, oM⟩
   have S2 := Sh_reg Sp lM
   apply okP.bind
   refine okP.mono (mul_m S2 (x := 1) (y := 2) (z := 1) (X := 4) (Y := 8) (Z := 4) rfl rfl rfl (by decide) (by decide) (by decide) (A := E) (B := A) kM (oM 4 A (by decide) Ap)) ?_
   rintro u ⟨N, rfl, lN, mN, oN⟩
   have S3 := Sh_reg S2 lN
   have T3 : M4 N 0 T := oN 0 T (by decide) (oM 0 T (by decide) Tp)
   apply okP.bind
   refine okP.mono (sf_m S3 v0 v1 vV mN) ?_
   rintro w ⟨G, rfl, lG, mG, oG⟩
   have S4 := Sh_frontAgg S3 lG
   have Z3 := Z_reg (x := N) (Z_reg (x := M) Zp)
   by_cases V0 : V = 0
   ·rw [V0] at mG
    exact okP.some ⟨_, mm E A, rfl, S4, Z_fa Z3 mG, T3, mN, fun _ => rfl, fun q => by omega⟩
   ·have V4 : 4 ≤ V := by omega
    exact okP.some ⟨_, F, rfl, S4, Z_fa Z3 (oG 0 F (by omega) Z3.2.2.2.2.2.1), T3, mN, fun q => absurd q V0, fun _ => rfl⟩
  obtain ⟨_, b1, t, G, rfl, St, Zt, Tt, At, Gt, _⟩ := st (v := 0) (y := 1) (V := 0) (U := 4) S1 Z1 T1 mL (by decide) (by decide) (by decide) (by decide) rfl (by decide) (by decide) rfl Z1.2.2.2.2.1
  obtain ⟨_, b2, u, H, rfl, Su, Zu, Tu, _, _, Hu⟩ := st (v := 0 + 1) (y := 0) (V := 4) (U := 0) St Zt Tt At (by decide) (by decide) (by decide) (by decide) rfl (by decide) (by decide) rfl Zt.2.2.2.1
  have G' : G = E1 := by rw [Gt rfl, mm_r]
  have H' : H = E1 := by rw [Hu (by decide), G']
  rw [H'] at Zu
  have b3 : B19_23 0 2 (0 + 1 + 1, u) = some (.inl u) := by
   unfold B19_23
   simp only
   rw [if_neg (by decide)]
  have lp : loopN (B19_23 0 2) qN (0, s_reg o L) = some u := by
   show loopN (B19_23 0 2) (3997 + 1 + 1 + 1) (0, s_reg o L) = _
   simp only [loopN, b1, b2, b3]
  rw [lp]
  simp only [Option.bind_some]
  have l1 := Sh_l_frontSize Su
  have l2 := Sh_l_backSize Su
  rw [aset_at (n := 0) rfl (by omega)]
  simp only [Option.bind_some]
  rw [aset_at (n := 0) rfl (by omega)]
  simp only [Option.bind_some]
  have S5 : Sh R S n q (s_backSize (s_frontSize u ((f_frontSize u).set 0 2)) ((f_backSize u).set 0 0)) := Sh_backSize (Sh_frontSize Su (by rw [List.length_set]; exact l1)) (by rw [List.length_set]; exact l2)
  have Z5 : Z (s_backSize (s_frontSize u ((f_frontSize u).set 0 2)) ((f_backSize u).set 0 0)) 2 0 BA E0 E1 E1 SN := Z_bs (Z_fs Zu (List.getElem?_set_self (by omega))) (List.getElem?_set_self (by omega))
  have T5 : M4 (f_reg (s_backSize (s_frontSize u ((f_frontSize u).set 0 2)) ((f_backSize u).set 0 0))) 0 T := Tu
  obtain ⟨K, hK, lK, mK, oK⟩ := id_m S5
  rw [hK]
  simp only [Option.bind_some]
  have S6 := Sh_reg S5 lK
  apply okP.bind
  refine okP.mono (ba_m S6 (m := (1, 0, 0, 1)) mK) ?_
  rintro p ⟨A, rfl, lA, mA⟩
  exact okP.some ⟨Sh_backAgg S6 lA, Z_ba (Z_reg Z5) mA, oK 0 T (by decide) T5⟩
 unfold F18
 rw [ga hz.1]
 simp only [Option.bind_some, if_true]
 apply okP.bind
 refine okP.mono fl ?_
 rintro p ⟨Sp, Zp, Tp⟩
 unfold J18_14
 rw [ga Zp.1]
 simp only [Option.bind_some]
 rw [if_pos (by decide), show (2 : Int32) - 1 = 1 from by decide]
 have l1 := Sh_l_frontSize Sp
 rw [aset_at (n := 0) rfl (by omega)]
 exact okP.some ⟨Sh_frontSize Sp (by rw [List.length_set]; exact l1), Z_fs Zp (List.getElem?_set_self (by omega)), Tp⟩
def R2 : List Int32 := (List.replicate 4 0).set 0 2
theorem R2_len : R2.length = 4 := by unfold R2; rw [List.length_set, List.length_replicate]
theorem R2_get : aget R2 0 = some 2 := by unfold aget; rw [if_neg (by decide)]; unfold R2; exact List.getElem?_set_self (by decide)
theorem push_m {n n' : Int32} {o : Ob} (h : Sh R2 R2 n 1 o) {fs bs fs' bs' r : Int32} {BA E0 E1 F0 SN BA' E0' E1' F0' T : MX} (hz : Z o fs bs BA E0 E1 F0 SN) (hn : n + 1 = n') (hr : qrem n' 2 = some r) (hf : fs' = 0 ∨ fs' = 1)
  (app : ∀ {p : Ob}, Sh R2 R2 n' 1 p → Z p fs bs BA E0 E1 F0 SN → M4 (f_reg p) 0 T → okP (F10 p 0) (fun t => Sh R2 R2 n' 1 t ∧ Z t fs' bs' BA' E0' E1' F0' SN)) :
  okP (F9 o T.1 T.2.1 T.2.2.1 T.2.2.2) (fun x => x.1 = (if r = 0 then 1 else 0) ∧ Sh R2 R2 n' 1 x.2 ∧ Z x.2 fs' bs' BA' E0' E1' F0' (if r = 0 then mm (if fs' = 0 then (1, 0, 0, 1) else F0') BA' else SN)) := by
 unfold F9
 rw [h.2.2.2.2.2.2.2.2.2.1, hn]
 have Sn : Sh R2 R2 n' 1 (s_n o n') := by
  dsimp only [Sh, f_regTuple, f_regA, f_regB, f_regC, f_regCount, f_slots, f_range, f_slide, f_frontSize, f_backSize, f_backElem, f_frontAgg, f_backAgg, f_snap, f_reg, f_capacity, f_queries, f_n, s_n] at h ⊢
  exact ⟨h.1, h.2.1, h.2.2.1, h.2.2.2.1, h.2.2.2.2.1, h.2.2.2.2.2.1, h.2.2.2.2.2.2.1, h.2.2.2.2.2.2.2.1, h.2.2.2.2.2.2.2.2.1, rfl, h.2.2.2.2.2.2.2.2.2.2⟩
 have Zn := Z_n (x := n') hz
 have lr := Sh_l_reg Sn
 rw [set_ex Sn (x := 0) (by decide) (by decide)]
 simp only [Option.bind_some]
 obtain ⟨L, hL⟩ : ∃ L, L = ((((f_reg (s_n o n')).set ((0 : Int32).toInt.toNat * 4) T.1).set ((0 : Int32).toInt.toNat * 4 + 1) T.2.1).set ((0 : Int32).toInt.toNat * 4 + 2) T.2.2.1).set ((0 : Int32).toInt.toNat * 4 + 3) T.2.2.2 := ⟨_, rfl⟩
 rw [← hL]
 have lL : L.length = 16 := by rw [hL]; simp only [List.length_set]; exact lr
 have hL' : L = ((((f_reg (s_n o n')).set 0 T.1).set 1 T.2.1).set 2 T.2.2.1).set 3 T.2.2.2 := hL
 have mL : M4 L 0 T := by
  rw [hL']
  refine ⟨?_, ?_, ?_, ?_⟩
  ·rw [List.getElem?_set_ne (by decide), List.getElem?_set_ne (by decide), List.getElem?_set_ne (by decide), List.getElem?_set_self (by omega)]
  ·rw [List.getElem?_set_ne (by decide), List.getElem?_set_ne (by decide), List.getElem?_set_self (by rw [List.length_set]; omega)]
  ·rw [List.getElem?_set_ne (by decide), List.getElem?_set_self (by simp only [List.length_set]; omega)]
  ·rw [List.getElem?_set_self (by simp only [List.length_set]; omega)]
 have Su := Sh_reg Sn lL
 have Zu := Z_reg (x := L) Zn
 have Tu : M4 (f_reg (s_reg (s_n o n') L)) 0 T := mL
 obtain ⟨u, hu⟩ : ∃ u, u = s_reg (s_n o n') L := ⟨_, rfl⟩
 rw [← hu] at Su Zu Tu ⊢
 have b1 : okP (B9_26 (0, 0, u)) (fun x => ∃ t, x = Sum.inr ((if r = 0 then 1 else 0), 1, t) ∧ Sh R2 R2 n' 1 t ∧ Z t fs' bs' BA' E0' E1' F0' (if r = 0 then mm (if fs' = 0 then (1, 0, 0, 1) else F0') BA' else SN)) := by
  unfold B9_26 J9_75
  simp only [show (0 : Int32) + 1 = 1 from by decide]
  rw [Su.2.2.2.2.2.2.2.2.2.2.1, if_pos (by decide)]
  apply okP.bind
  refine okP.mono (app Su Zu Tu) ?_
  rintro t ⟨St, Zt⟩
  rw [St.2.2.2.2.2.2.2.2.1, St.2.2.2.2.2.2.2.2.2.1, R2_get]
  simp only [Option.bind_some]
  rw [if_neg (by decide), hr]
  simp only [Option.bind_some]
  by_cases e : r = 0
  ·rw [if_pos e]
   simp only [if_pos e]
   unfold F16
   apply okP.bind
   apply okP.bind
   refine okP.mono (fold_m St Zt hf) ?_
   rintro w ⟨Sw, Zw, m12⟩
   apply okP.bind
   refine okP.mono (sn_m Sw (y := 3) (U := 12) (by decide) (by decide) rfl m12) ?_
   rintro x ⟨L, rfl, lL, mL⟩
   apply okP.some
   apply okP.some
   exact ⟨_, rfl, Sh_snap Sw lL, Z_sn Zw mL⟩
  ·rw [if_neg e]
   simp only [if_neg e]
   exact okP.some ⟨t, rfl, St, Zt⟩
 obtain ⟨_, b1', t, rfl, St, Zt⟩ := b1
 have b2 : B9_26 ((if r = 0 then 1 else 0), 1, t) = some (.inl ((if r = 0 then 1 else 0), t)) := by
  unfold B9_26
  simp only
  rw [St.2.2.2.2.2.2.2.2.2.2.1, if_neg (by decide)]
 have lp : loopN (B9_26) qN (0, 0, u) = some ((if r = 0 then 1 else 0), t) := by
  show loopN (B9_26) (3998 + 1 + 1) (0, 0, u) = _
  simp only [loopN, b1', b2]
 rw [lp]
 exact okP.some ⟨rfl, St, Zt⟩
theorem app_s {q n : Int32} {o : Ob} (h : Sh R2 R2 n q o) {y : Int32} {BA E0 E1 F0 SN T : MX} (hz : Z o 0 y BA E0 E1 F0 SN) (hT : M4 (f_reg o) 0 T) (hy : y = 0 ∨ y = 1) : okP (F10 o 0) (fun p => Sh R2 R2 n q p ∧ Z p 0 (y + 1) (mm BA T) (if y = 0 then T else E0) (if y = 0 then E1 else T) F0 SN) := by
 unfold F10
 rw [if_neg (by decide), if_pos (by decide), ga hz.1, ga hz.2.1, h.2.2.2.2.2.2.2.1, R2_get]
 simp only [Option.bind_some]
 rw [if_pos (by rcases hy with rfl | rfl <;> decide)]
 exact tail_m h hz hT hy
theorem app_f {q n : Int32} {o : Ob} (h : Sh R2 R2 n q o) {BA E0 E1 F0 SN T : MX} (hz : Z o 0 2 BA E0 E1 F0 SN) (hT : M4 (f_reg o) 0 T) : okP (F10 o 0) (fun p => Sh R2 R2 n q p ∧ Z p 1 1 T T E1 E1 SN) := by
 unfold F10
 rw [if_neg (by decide), if_pos (by decide), ga hz.1, ga hz.2.1, h.2.2.2.2.2.2.2.1, R2_get]
 simp only [Option.bind_some]
 rw [if_neg (by decide)]
 apply okP.bind
 refine okP.mono (flip_m h hz hT) ?_
 rintro p ⟨Sp, Zp, Tp⟩
 refine okP.mono (tail_m Sp Zp Tp (Or.inl rfl)) ?_
 rintro t ⟨St, Zt⟩
 rw [mm_l, if_pos rfl, if_pos rfl, show (0 : Int32) + 1 = 1 from by decide] at Zt
 exact ⟨St, Zt⟩
theorem live_m {q n : Int32} {o : Ob} (h : Sh R2 R2 n 1 o) {BA E0 E1 F0 SN : MX} (hz : Z o 1 1 BA E0 E1 F0 SN) {k : Int32} {e : Int32} (hk : (k = 0 ∧ e = (mm F0 BA).1) ∨ (k = 1 ∧ e = (mm F0 BA).2.1) ∨ (k = 2 ∧ e = (mm F0 BA).2.2.1) ∨ (k = 3 ∧ e = (mm F0 BA).2.2.2)) : okP (F28 o 0 k) (fun r => r.1 = e ∧ Sh R2 R2 n 1 r.2 ∧ Z r.2 1 1 BA E0 E1 F0 SN) := by
 have vq : F23 o 0 = some 1 := by
  unfold F23
  rw [h.2.2.2.2.2.2.2.2.2.2.1]; rfl
 have ve : F27 k = some 1 := by rcases hk with ⟨rfl, _⟩ | ⟨rfl, _⟩ | ⟨rfl, _⟩ | ⟨rfl, _⟩ <;> rfl
 unfold F28
 rw [vq, ve]
 simp only [Option.bind_some]
 rw [if_neg (by decide), if_neg (by decide)]
 apply okP.bind
 refine okP.mono (fold_m h hz (Or.inr rfl)) ?_
 rintro w ⟨Sw, Zw, m1, m2, m3, m4⟩
 rw [if_neg (by decide)] at m1 m2 m3 m4
 have re : F30 w 3 k = some e := by
  unfold F30
  have v3 : F5 3 = some 1 := rfl
  rw [v3, ve]
  simp only [Option.bind_some]
  rw [if_neg (by decide), if_neg (by decide)]
  have : aget (f_reg w) (3 * 4 + k) = some e := by
   unfold aget
   rcases hk with ⟨rfl, rfl⟩ | ⟨rfl, rfl⟩ | ⟨rfl, rfl⟩ | ⟨rfl, rfl⟩
   ·rw [if_neg (by decide)]; exact m1
   ·rw [if_neg (by decide)]; exact m2
   ·rw [if_neg (by decide)]; exact m3
   ·rw [if_neg (by decide)]; exact m4
  rw [this]; rfl
 rw [re]
 exact okP.some ⟨rfl, Sw, Zw⟩
theorem res_m {n : Int32} {o : Ob} (h : Sh R2 R2 n 1 o) {fs bs : Int32} {BA E0 E1 F0 SN : MX} (hz : Z o fs bs BA E0 E1 F0 SN) {k : Int32} {e : Int32} (hk : (k = 0 ∧ e = SN.1) ∨ (k = 1 ∧ e = SN.2.1) ∨ (k = 2 ∧ e = SN.2.2.1) ∨ (k = 3 ∧ e = SN.2.2.2)) : F26 o 0 k = some e := by
 have vq : F23 o 0 = some 1 := by
  unfold F23
  rw [h.2.2.2.2.2.2.2.2.2.2.1]; rfl
 have ve : F27 k = some 1 := by rcases hk with ⟨rfl, _⟩ | ⟨rfl, _⟩ | ⟨rfl, _⟩ | ⟨rfl, _⟩ <;> rfl
 obtain ⟨m1, m2, m3, m4⟩ := hz.2.2.2.2.2.2
 unfold F26
 rw [vq, ve]
 simp only [Option.bind_some]
 rw [if_neg (by decide), if_neg (by decide)]
 have : aget (f_snap o) (0 * 4 + k) = some e := by
  unfold aget
  rcases hk with ⟨rfl, rfl⟩ | ⟨rfl, rfl⟩ | ⟨rfl, rfl⟩ | ⟨rfl, rfl⟩
  ·rw [if_neg (by decide)]; exact m1
  ·rw [if_neg (by decide)]; exact m2
  ·rw [if_neg (by decide)]; exact m3
  ·rw [if_neg (by decide)]; exact m4
 rw [this]; rfl
theorem law_ok (x0 x1 x2 x3 x4 x5 : Int32) : ∃ τ, F0 x0 x1 x2 x3 x4 x5 = some (1, τ) ∧ τ.length - List.length ([] : QHeap) ≤ room_1.cells ∧ qhs τ - qhs [] ≤ room_1.slots := by
 obtain ⟨o, ho, S0⟩ := init_ok
 have siz : ∀ {R S n q p}, Sh R S n q p → R.length = 4 → S.length = 4 → (H0 p).length - List.length ([] : QHeap) ≤ room_1.cells ∧ qhs (H0 p) - qhs [] ≤ room_1.slots := by
  intro R S n q p h lR lS
  obtain ⟨y1, y2, y3, y4, y5, y6, y7, y8, y9, _⟩ := h
  refine ⟨by show 10 - 0 ≤ _; decide, ?_⟩
  simp only [H0, qhs, qsz, y1, y2, y3, y4, y5, y6, y7, y8, y9, lR, lS]
  simp only [cN, room_1]
  omega
 obtain ⟨⟨r, p⟩, hp, q1, Sp, E0, E1, G0, SN, Zp⟩ : okP (F8 o 2 2) (fun r => r.1 = 0 ∧ Sh R2 R2 0 1 r.2 ∧ ∃ E0 E1 F0 SN, Z r.2 0 0 (1, 0, 0, 1) E0 E1 F0 SN) := by
  unfold F8
  rw [S0.2.2.2.2.2.2.2.2.2.1, S0.2.2.2.2.2.2.2.2.2.2.1, S0.2.2.2.2.2.2.2.2.2.2.2, S0.2.2.2.2.2.2.2.1, S0.2.2.2.2.2.2.2.2.1, if_pos rfl, if_pos (by decide), if_neg (by decide), if_neg (by decide), if_neg (by decide), if_neg (by decide)]
  rw [aset_at (n := 0) rfl (by decide)]
  simp only [Option.bind_some]
  have g : Sh R2 R2 0 0 (s_slide (s_range o ((List.replicate 4 0).set 0 2)) ((List.replicate 4 0).set 0 2)) := by
   have h := S0
   dsimp only [Sh, f_regTuple, f_regA, f_regB, f_regC, f_regCount, f_slots, f_range, f_slide, f_frontSize, f_backSize, f_backElem, f_frontAgg, f_backAgg, f_snap, f_reg, f_capacity, f_queries, f_n, s_slide, s_range] at h ⊢
   exact ⟨h.1, h.2.1, h.2.2.1, h.2.2.2.1, h.2.2.2.2.1, h.2.2.2.2.2.1, h.2.2.2.2.2.2.1, rfl, rfl, h.2.2.2.2.2.2.2.2.2⟩
  apply okP.bind
  refine okP.mono (reset_m g) ?_
  rintro p ⟨hp, E0, E1, G0, SN, Q⟩
  apply okP.some
  have hq : f_queries p = 0 := hp.2.2.2.2.2.2.2.2.2.2.1
  rw [hq, show (0 : Int32) + 1 = 1 from by decide]
  refine ⟨rfl, ?_, E0, E1, G0, SN, Z_q Q⟩
  dsimp only [Sh, f_regTuple, f_regA, f_regB, f_regC, f_regCount, f_slots, f_range, f_slide, f_frontSize, f_backSize, f_backElem, f_frontAgg, f_backAgg, f_snap, f_reg, f_capacity, f_queries, f_n, s_queries] at hp ⊢
  exact ⟨hp.1, hp.2.1, hp.2.2.1, hp.2.2.2.1, hp.2.2.2.2.1, hp.2.2.2.2.2.1, hp.2.2.2.2.2.2.1, hp.2.2.2.2.2.2.2.1, hp.2.2.2.2.2.2.2.2.1, hp.2.2.2.2.2.2.2.2.2.1, rfl, hp.2.2.2.2.2.2.2.2.2.2.2⟩
 simp only at q1 Sp Zp
 subst q1
 obtain ⟨⟨r1, p1⟩, hp1, q1, S1, Z1⟩ := push_m (n' := 1) (r := 1) (T := (x0, x1, x2, x3)) Sp Zp (by decide) rfl (Or.inl rfl) (fun a b c => app_s a b c (Or.inl rfl))
 have n10 : ((1 : Int32) = 0) = False := eq_false (by decide)
 have s01 : (0 : Int32) + 1 = 1 := by decide
 have s12 : (1 : Int32) + 1 = 2 := by decide
 simp only [n10, if_true, if_false, mm_l, s01] at q1 S1 Z1 hp1
 subst q1
 obtain ⟨⟨r2, p2⟩, hp2, q2, S2, Z2⟩ := push_m (n' := 2) (r := 0) (T := (x4, x5, x0, x2)) S1 Z1 (by decide) rfl (Or.inl rfl) (fun a b c => app_s a b c (Or.inr rfl))
 simp only [n10, if_true, if_false, mm_l, s12] at q2 S2 Z2 hp2
 subst q2
 obtain ⟨⟨r3, p3⟩, hp3, q3, S3, Z3⟩ := push_m (n' := 3) (r := 1) (T := (x3, x4, x5, x1)) S2 Z2 (by decide) rfl (Or.inr rfl) (fun a b c => app_f a b c)
 simp only [n10, if_true, if_false] at q3 S3 Z3 hp3
 subst q3
 have vq : F23 p3 0 = some 1 := by
  unfold F23
  rw [S3.2.2.2.2.2.2.2.2.2.2.1]; rfl
 have eo : F24 p3 0 = some 2 := by
  unfold F24
  rw [S3.2.2.2.2.2.2.2.2.1, S3.2.2.2.2.2.2.2.2.2.1, R2_get]
  rfl
 have we : F25 p3 0 = some 2 := by
  unfold F25
  rw [vq, eo]; rfl
 have ws : F22 p3 0 = some 0 := by
  unfold F22
  rw [vq, eo, S3.2.2.2.2.2.2.2.1, R2_get]
  rfl
 have a0 := res_m S3 Z3 (k := 0) (Or.inl ⟨rfl, rfl⟩)
 have a1 := res_m S3 Z3 (k := 1) (Or.inr (Or.inl ⟨rfl, rfl⟩))
 have a2 := res_m S3 Z3 (k := 2) (Or.inr (Or.inr (Or.inl ⟨rfl, rfl⟩)))
 have a3 := res_m S3 Z3 (k := 3) (Or.inr (Or.inr (Or.inr ⟨rfl, rfl⟩)))
 obtain ⟨⟨e1, w1⟩, hw1, d1, T1, Y1⟩ := live_m (q := 1) S3 Z3 (k := 0) (Or.inl ⟨rfl, rfl⟩)
 obtain ⟨⟨e2, w2⟩, hw2, d2, T2, Y2⟩ := live_m (q := 1) T1 Y1 (k := 1) (Or.inr (Or.inl ⟨rfl, rfl⟩))
 obtain ⟨⟨e3, w3⟩, hw3, d3, T3, Y3⟩ := live_m (q := 1) T2 Y2 (k := 2) (Or.inr (Or.inr (Or.inl ⟨rfl, rfl⟩)))
 obtain ⟨⟨e4, w4⟩, hw4, d4, T4, Y4⟩ := live_m (q := 1) T3 Y3 (k := 3) (Or.inr (Or.inr (Or.inr ⟨rfl, rfl⟩)))
 simp only [mm] at a0 a1 a2 a3 d1 d2 d3 d4 hw1 hw2 hw3 hw4
 subst d1 d2 d3 d4
 refine ⟨H0 w4, ?_, siz T4 R2_len R2_len⟩
 unfold F0
 rw [ho]
 simp only [Option.bind_some, hp, hp1, hp2, hp3, ws, we, a0, a1, a2, a3, if_true, hw1, hw2, hw3, hw4]
set_option maxRecDepth 65536 in
theorem comes_1 {Post : Tables → Env → Array Value → State → Outcome → State → Prop} (hpost : ∀ tb e args s v u, (limb_1_1.after args s (.returned v) u = true ∧ limb_1_2.after args s (.returned v) u = true ∧ True) → FrameEnd s (.returned v) u (Jvm.fieldLocs frame_1_writes args s ++ Jvm.arrayLocs frame_1_arrays args s ++ Jvm.staticLocs frame_1_statics s) 32 2304 → Post tb e args s (.returned v) u) :
    ArmFor flags0 classFile x code maxLocals ret World_1 tables_1 room_1 Calls_1 rest_1 Pre_1 Post := by
  intro l hfl _ _ p e ha hc hk s m args below hf hA hF happ hP
  obtain ⟨hcalls, hrest, hpre⟩ := hP
  obtain ⟨-, -, -, hnamed, -, -, -, hat⟩ := (Spec.applies_iff hf).mp happ
  obtain ⟨hg, hn⟩ := and_e (Cond.before_iff.mp (show (Jvm.Cond.and given_1 narrow_1).before args s = true from hpre))
  obtain ⟨g0, g1⟩ := and_e hg
  obtain ⟨w0, w1, w2, w3, w4, w5, rfl⟩ : ∃ w0 w1 w2 w3 w4 w5 : Value, args = #[w0, w1, w2, w3, w4, w5] := by
    have hs : args.size = 6 := by simpa [Cond.value, given_1] using g0
    obtain ⟨L⟩ := args
    match L, hs with
    | [w0, w1, w2, w3, w4, w5], _ => exact ⟨w0, w1, w2, w3, w4, w5, rfl⟩
  have hw := fun d (hd : d ∈ tables_1) => atoms_spec (ws := Jvm.Cond.code x code maxLocals ret :: tables_1) hat d (List.mem_cons_of_mem _ hd)
  obtain ⟨a0, g2⟩ := and_e g1
  obtain ⟨i0, ei0⟩ := is_v a0
  obtain rfl : w0 = (.int i0) := Option.some.inj ei0
  obtain ⟨a1, g3⟩ := and_e g2
  obtain ⟨i1, ei1⟩ := is_v a1
  obtain rfl : w1 = (.int i1) := Option.some.inj ei1
  obtain ⟨a2, g4⟩ := and_e g3
  obtain ⟨i2, ei2⟩ := is_v a2
  obtain rfl : w2 = (.int i2) := Option.some.inj ei2
  obtain ⟨a3, g5⟩ := and_e g4
  obtain ⟨i3, ei3⟩ := is_v a3
  obtain rfl : w3 = (.int i3) := Option.some.inj ei3
  obtain ⟨a4, g6⟩ := and_e g5
  obtain ⟨i4, ei4⟩ := is_v a4
  obtain rfl : w4 = (.int i4) := Option.some.inj ei4
  obtain ⟨i5, ei5⟩ := is_v g6
  obtain rfl : w5 = (.int i5) := Option.some.inj ei5
  obtain ⟨τ, hF0, hc1, hs1⟩ := law_ok i0 i1 i2 i3 i4 i5
  have Ad : QAd s.heap.size (fun k => s.heap.size + k) := ⟨fun k _ => rfl, fun i j h => Nat.add_left_cancel h⟩
  have hR : QRep s s.heap.size (fun k => s.heap.size + k) s.heap [] := ⟨Nat.le_refl _, rfl, fun k c h => by cases h⟩
  have T := tF0 (l := l) (Z := s) Ad (QW_ok hw) i0 i1 i2 i3 i4 i5 hF0
  have M := QTri.met (k := 0) (as := [.int i0, .int i1, .int i2, .int i3, .int i4, .int i5]) (by decide) T hR (Nat.le_of_ble_eq_true rfl) (fun q => by cases q) tables_1 (rm := room_1) (by decide) (by decide) hc1 hs1
  obtain ⟨n, o, h1, h2, h3, _, L, rfl, ⟨rfl, R', N⟩, hq⟩ := M p e ha hc hk s m _ below hf ((Spec.applies_iff_loose hf).mp happ).1 ⟨rfl, State.Warmed39.refl s, rfl⟩ trivial
  refine ⟨n, _, h1, h2, h3, hpost _ _ _ _ _ _ ⟨Cond.after_iff.mpr rfl, Cond.after_iff.mpr (eq_i res_at (Term.int_eval (1)) rfl), trivial⟩ ⟨hq.1, hq.2.1, (hq.2.2.sift fun y hy => Or.inr (N y hy)).mono hc1 hs1⟩⟩
theorem main_1_1 : Claimed_1_1 := comes_1 fun _ _ _ _ _ _ h hF => ⟨h.1, hF⟩
theorem main_1_2 : Claimed_1_2 := comes_1 fun _ _ _ _ _ _ h hF => ⟨h.2.1, hF⟩
end Jvm.Pilot.@@N@@
namespace Jvm.Pilot.@@N@@
open Jvm Jvm.ClassFile Sem Op Lib Jvm.Free Jvm.Stand Jvm.Pilot.@@N@@.Jvm.D
/-! MADE BY PROGRAM (witnessworld.py) out of the Statement's table words and the real class files: 9 classes; the members and pool entries that the words name. The judged class is class 1, her method 1. -/
namespace start1
open Jvm.ClassFile
def u (s : String) : CpInfo := .utf8 (stringToUtf16 s)
/-- a pool by its gaps: so many unusable entries, then the entry; so many at the end -/
def gap : Nat → List CpInfo → List CpInfo
  | 0, r => r
  | n + 1, r => .unusable :: gap n r
def poolList (es : List (Nat × CpInfo)) (last : Nat) : List CpInfo := es.foldr (fun e r => gap e.1 (e.2 :: r)) (gap last [])
def pool (es : List (Nat × CpInfo)) (last : Nat) : Array CpInfo := ⟨poolList es last⟩
def fileOf (pool : Array CpInfo) (this : Nat) (attrs : Array Attribute := #[]) (ms : Array MethodInfo := #[]) (fl : Nat := 33) (sup : Nat := 0) (ifs : Array Nat := #[]) (fds : Array FieldInfo := #[]) : ClassFile where
  minorVersion := 0
  majorVersion := 65
  constantPool := pool
  accessFlags := fl
  thisClass := this
  superClass := sup
  interfaces := ifs
  fields := fds
  methods := ms
  attributes := attrs
def plain (name : String) (sup : Option ClassId) : Class where
  name := name
  kind := .ordinary
  loader := none
  accessFlags := 33
  super := sup
  interfaces := #[]
  cf := none
  fields := #[]
  methods := #[]
  instanceTypes := #[]
  staticTypes := #[]
  resolved := #[]
  callSites := []
  init := .initialized
  statics := none
  mirror := none

def pool0 : Array CpInfo := pool [(5, u "<init>"), (0, u "()V"), (1, .class_ 10), (1, u "java/lang/Object")] 113

def k0c0 : Code := { maxStack := 0, maxLocals := 1, code := object_method_1_code, exceptionTable := #[], attributes := #[] }
def k0m0 : Method := { name := "<init>", desc := "()V", sig := { parameters := [], returnType := none }, accessFlags := 1, code := some k0c0 }
/-- java/lang/Object -/
def k0 : Class := { plain "java/lang/Object" none with
  accessFlags := 33
  interfaces := #[]
  cf := some (fileOf pool0 8 #[] #[{ accessFlags := 1, nameIndex := 5, descriptorIndex := 6, attributes := #[] }] 33 0 #[] #[])
  fields := #[]
  methods := #[k0m0]
  instanceTypes := #[]
  staticTypes := #[]
  resolved := Array.replicate 124 none
  statics := none }

def pool1 : Array CpInfo := pool [(2, .class_ 4), (1, u "java/lang/Object"), (0, u "<init>"), (0, u "()V"), (0, .class_ 8), (0, u "SliceAggregate"), (0, .methodref 7 10), (0, .nameAndType 5 11), (0, u "(I)V"), (0, .methodref 7 13), (0, .nameAndType 14 15), (0, u "addQuery"), (0, u "(II)I"), (0, .methodref 7 17), (0, .nameAndType 18 19), (0, u "push"), (0, u "(IIII)I"), (0, .methodref 7 21), (0, .nameAndType 22 23), (0, u "windowStart"), (0, u "(I)I"), (0, .methodref 7 25), (0, .nameAndType 26 23), (0, u "windowEnd"), (0, .methodref 7 28), (0, .nameAndType 29 15), (0, u "result"), (0, .methodref 7 31), (0, .nameAndType 32 15), (0, u "liveResult"), (0, .class_ 34), (0, u "SliceAggregateL3"), (2, u "law"), (0, u "(IIIIII)Z")] 3

def k1m0 : Method := { name := "<init>", desc := "()V", sig := { parameters := [], returnType := none }, accessFlags := 1, code := none }
def k1c1 : Code := { maxStack := 5, maxLocals := 10, code := code, exceptionTable := #[], attributes := #[] }
def k1m1 : Method := { name := "law", desc := "(IIIIII)Z", sig := { parameters := [.int, .int, .int, .int, .int, .int], returnType := some .boolean }, accessFlags := 9, code := some k1c1 }
/-- SliceAggregateL3 -/
def k1 : Class := { plain "SliceAggregateL3" (some 0) with
  accessFlags := 49
  interfaces := #[]
  cf := some (fileOf pool1 33 #[] #[{ accessFlags := 1, nameIndex := 5, descriptorIndex := 6, attributes := #[] }, { accessFlags := 9, nameIndex := 37, descriptorIndex := 38, attributes := #[] }] 49 2 #[] #[])
  fields := #[]
  methods := #[k1m0, k1m1]
  instanceTypes := #[]
  staticTypes := #[]
  resolved := Array.replicate 42 none
  statics := none }

def pool2 : Array CpInfo := pool [(1, .methodref 2 3), (0, .class_ 4), (0, .nameAndType 5 6), (0, u "java/lang/Object"), (0, u "<init>"), (0, u "()V"), (0, .fieldref 8 9), (0, .class_ 10), (0, .nameAndType 11 12), (0, u "SliceAggregate"), (0, u "regTuple"), (0, u "I"), (0, .fieldref 8 14), (0, .nameAndType 15 12), (0, u "regA"), (0, .fieldref 8 17), (0, .nameAndType 18 12), (0, u "regB"), (0, .fieldref 8 20), (0, .nameAndType 21 12), (0, u "regC"), (0, .fieldref 8 23), (0, .nameAndType 24 12), (0, u "regCount"), (0, .fieldref 8 26), (0, .nameAndType 27 12), (0, u "slots"), (0, .fieldref 8 29), (0, .nameAndType 30 31), (0, u "range"), (0, u "[I"), (0, .fieldref 8 33), (0, .nameAndType 34 31), (0, u "slide"), (0, .fieldref 8 36), (0, .nameAndType 37 31), (0, u "frontSize"), (0, .fieldref 8 39), (0, .nameAndType 40 31), (0, u "backSize"), (0, .fieldref 8 42), (0, .nameAndType 43 31), (0, u "backElem"), (0, .fieldref 8 45), (0, .nameAndType 46 31), (0, u "frontAgg"), (0, .fieldref 8 48), (0, .nameAndType 49 31), (0, u "backAgg"), (0, .fieldref 8 51), (0, .nameAndType 52 31), (0, u "snap"), (0, .fieldref 8 54), (0, .nameAndType 55 31), (0, u "reg"), (0, .fieldref 8 57), (0, .nameAndType 58 12), (0, u "capacity"), (0, .fieldref 8 60), (0, .nameAndType 61 12), (0, u "queries"), (0, .fieldref 8 63), (0, .nameAndType 64 12), (0, u "n"), (0, .methodref 8 66), (0, .nameAndType 67 68), (0, u "resetQuery"), (0, u "(I)V"), (0, .methodref 8 70), (0, .nameAndType 71 72), (0, u "regSet"), (0, u "(IIIII)V"), (0, .methodref 8 74), (0, .nameAndType 75 68), (0, u "appendToQuery"), (0, .methodref 8 77), (0, .nameAndType 78 68), (0, u "takeSnapshot"), (0, .methodref 8 80), (0, .nameAndType 81 82), (0, u "validQuery"), (0, u "(I)Z"), (0, .methodref 8 84), (0, .nameAndType 85 82), (0, u "validEntry"), (0, .methodref 8 87), (0, .nameAndType 88 89), (0, u "liveFold"), (0, u "(II)V"), (0, .methodref 8 91), (0, .nameAndType 92 93), (0, u "regEntry"), (0, u "(II)I"), (0, .methodref 8 95), (0, .nameAndType 96 97), (0, u "endOf"), (0, u "(I)I"), (0, .methodref 8 99), (0, .nameAndType 100 68), (0, u "regIdentity"), (0, .methodref 8 102), (0, .nameAndType 103 89), (0, u "storeBackAgg"), (0, .methodref 8 105), (0, .nameAndType 106 89), (0, u "storeSnap"), (0, .methodref 8 108), (0, .nameAndType 109 68), (0, u "evictOldest"), (0, .methodref 8 111), (0, .nameAndType 112 113), (0, u "validSlot"), (0, u "(II)Z"), (0, .methodref 8 115), (0, .nameAndType 116 117), (0, u "storeBack"), (0, u "(III)V"), (0, .methodref 8 119), (0, .nameAndType 120 89), (0, u "loadBackAgg"), (0, .methodref 8 122), (0, .nameAndType 123 117), (0, u "regMul"), (0, .methodref 8 125), (0, .nameAndType 126 68), (0, u "flip"), (0, .methodref 8 128), (0, .nameAndType 129 117), (0, u "loadBack"), (0, .methodref 8 131), (0, .nameAndType 132 117), (0, u "storeFront"), (0, .methodref 8 134), (0, .nameAndType 135 117), (0, u "loadFront"), (0, .methodref 8 137), (0, .nameAndType 138 82), (0, u "validReg"), (0, .methodref 8 140), (0, .nameAndType 141 93), (0, u "slotOffset"), (0, u "ERR"), (2, u "MIN_RANGE"), (1, u "MAX_RANGE"), (1, u "MIN_SLIDE"), (0, u "MAX_SLIDE"), (0, u "MAX_QUERIES"), (7, u "addQuery"), (0, u "push"), (0, u "(IIII)I"), (0, u "result"), (0, u "liveResult"), (0, u "windowStart"), (0, u "windowEnd")] 9

def k2c0 : Code := { maxStack := 2, maxLocals := 4, code := prog_1_method_1_code, exceptionTable := #[], attributes := #[] }
def k2m0 : Method := { name := "<init>", desc := "(I)V", sig := { parameters := [.int], returnType := none }, accessFlags := 1, code := some k2c0 }
def k2c1 : Code := { maxStack := 3, maxLocals := 4, code := prog_1_method_2_code, exceptionTable := #[], attributes := #[] }
def k2m1 : Method := { name := "addQuery", desc := "(II)I", sig := { parameters := [.int, .int], returnType := some .int }, accessFlags := 1, code := some k2c1 }
def k2c2 : Code := { maxStack := 6, maxLocals := 8, code := prog_1_method_3_code, exceptionTable := #[], attributes := #[] }
def k2m2 : Method := { name := "push", desc := "(IIII)I", sig := { parameters := [.int, .int, .int, .int], returnType := some .int }, accessFlags := 1, code := some k2c2 }
def k2c3 : Code := { maxStack := 3, maxLocals := 3, code := prog_1_method_4_code, exceptionTable := #[], attributes := #[] }
def k2m3 : Method := { name := "result", desc := "(II)I", sig := { parameters := [.int, .int], returnType := some .int }, accessFlags := 1, code := some k2c3 }
def k2c4 : Code := { maxStack := 3, maxLocals := 3, code := prog_1_method_5_code, exceptionTable := #[], attributes := #[] }
def k2m4 : Method := { name := "liveResult", desc := "(II)I", sig := { parameters := [.int, .int], returnType := some .int }, accessFlags := 1, code := some k2c4 }
def k2c5 : Code := { maxStack := 3, maxLocals := 3, code := prog_1_method_6_code, exceptionTable := #[], attributes := #[] }
def k2m5 : Method := { name := "windowStart", desc := "(I)I", sig := { parameters := [.int], returnType := some .int }, accessFlags := 1, code := some k2c5 }
def k2c6 : Code := { maxStack := 2, maxLocals := 2, code := prog_1_method_7_code, exceptionTable := #[], attributes := #[] }
def k2m6 : Method := { name := "windowEnd", desc := "(I)I", sig := { parameters := [.int], returnType := some .int }, accessFlags := 1, code := some k2c6 }
def k2c7 : Code := { maxStack := 2, maxLocals := 2, code := prog_1_method_14_code, exceptionTable := #[], attributes := #[] }
def k2m7 : Method := { name := "validQuery", desc := "(I)Z", sig := { parameters := [.int], returnType := some .boolean }, accessFlags := 2, code := some k2c7 }
def k2c8 : Code := { maxStack := 2, maxLocals := 2, code := prog_1_method_15_code, exceptionTable := #[], attributes := #[] }
def k2m8 : Method := { name := "validEntry", desc := "(I)Z", sig := { parameters := [.int], returnType := some .boolean }, accessFlags := 2, code := some k2c8 }
def k2c9 : Code := { maxStack := 2, maxLocals := 2, code := prog_1_method_16_code, exceptionTable := #[], attributes := #[] }
def k2m9 : Method := { name := "validReg", desc := "(I)Z", sig := { parameters := [.int], returnType := some .boolean }, accessFlags := 2, code := some k2c9 }
def k2c10 : Code := { maxStack := 2, maxLocals := 3, code := prog_1_method_17_code, exceptionTable := #[], attributes := #[] }
def k2m10 : Method := { name := "validSlot", desc := "(II)Z", sig := { parameters := [.int, .int], returnType := some .boolean }, accessFlags := 2, code := some k2c10 }
def k2c11 : Code := { maxStack := 2, maxLocals := 3, code := prog_1_method_18_code, exceptionTable := #[], attributes := #[] }
def k2m11 : Method := { name := "slotOffset", desc := "(II)I", sig := { parameters := [.int, .int], returnType := some .int }, accessFlags := 2, code := some k2c11 }
def k2c12 : Code := { maxStack := 3, maxLocals := 3, code := prog_1_method_19_code, exceptionTable := #[], attributes := #[] }
def k2m12 : Method := { name := "endOf", desc := "(I)I", sig := { parameters := [.int], returnType := some .int }, accessFlags := 2, code := some k2c12 }
def k2c13 : Code := { maxStack := 3, maxLocals := 2, code := prog_1_method_20_code, exceptionTable := #[], attributes := #[] }
def k2m13 : Method := { name := "resetQuery", desc := "(I)V", sig := { parameters := [.int], returnType := none }, accessFlags := 2, code := some k2c13 }
def k2c14 : Code := { maxStack := 4, maxLocals := 4, code := prog_1_method_21_code, exceptionTable := #[], attributes := #[] }
def k2m14 : Method := { name := "appendToQuery", desc := "(I)V", sig := { parameters := [.int], returnType := none }, accessFlags := 2, code := some k2c14 }
def k2c15 : Code := { maxStack := 4, maxLocals := 2, code := prog_1_method_22_code, exceptionTable := #[], attributes := #[] }
def k2m15 : Method := { name := "evictOldest", desc := "(I)V", sig := { parameters := [.int], returnType := none }, accessFlags := 2, code := some k2c15 }
def k2c16 : Code := { maxStack := 5, maxLocals := 4, code := prog_1_method_23_code, exceptionTable := #[], attributes := #[] }
def k2m16 : Method := { name := "flip", desc := "(I)V", sig := { parameters := [.int], returnType := none }, accessFlags := 2, code := some k2c16 }
def k2c17 : Code := { maxStack := 5, maxLocals := 4, code := prog_1_method_24_code, exceptionTable := #[], attributes := #[] }
def k2m17 : Method := { name := "liveFold", desc := "(II)V", sig := { parameters := [.int, .int], returnType := none }, accessFlags := 2, code := some k2c17 }
def k2c18 : Code := { maxStack := 3, maxLocals := 2, code := prog_1_method_25_code, exceptionTable := #[], attributes := #[] }
def k2m18 : Method := { name := "takeSnapshot", desc := "(I)V", sig := { parameters := [.int], returnType := none }, accessFlags := 2, code := some k2c18 }
def k2c19 : Code := { maxStack := 3, maxLocals := 7, code := prog_1_method_26_code, exceptionTable := #[], attributes := #[] }
def k2m19 : Method := { name := "regSet", desc := "(IIIII)V", sig := { parameters := [.int, .int, .int, .int, .int], returnType := none }, accessFlags := 2, code := some k2c19 }
def k2c20 : Code := { maxStack := 6, maxLocals := 2, code := prog_1_method_27_code, exceptionTable := #[], attributes := #[] }
def k2m20 : Method := { name := "regIdentity", desc := "(I)V", sig := { parameters := [.int], returnType := none }, accessFlags := 2, code := some k2c20 }
def k2c21 : Code := { maxStack := 3, maxLocals := 3, code := prog_1_method_28_code, exceptionTable := #[], attributes := #[] }
def k2m21 : Method := { name := "regEntry", desc := "(II)I", sig := { parameters := [.int, .int], returnType := some .int }, accessFlags := 2, code := some k2c21 }
def k2c22 : Code := { maxStack := 5, maxLocals := 15, code := prog_1_method_29_code, exceptionTable := #[], attributes := #[] }
def k2m22 : Method := { name := "regMul", desc := "(III)V", sig := { parameters := [.int, .int, .int], returnType := none }, accessFlags := 2, code := some k2c22 }
def k2c23 : Code := { maxStack := 5, maxLocals := 7, code := prog_1_method_30_code, exceptionTable := #[], attributes := #[] }
def k2m23 : Method := { name := "loadBack", desc := "(III)V", sig := { parameters := [.int, .int, .int], returnType := none }, accessFlags := 2, code := some k2c23 }
def k2c24 : Code := { maxStack := 5, maxLocals := 7, code := prog_1_method_31_code, exceptionTable := #[], attributes := #[] }
def k2m24 : Method := { name := "storeBack", desc := "(III)V", sig := { parameters := [.int, .int, .int], returnType := none }, accessFlags := 2, code := some k2c24 }
def k2c25 : Code := { maxStack := 5, maxLocals := 7, code := prog_1_method_32_code, exceptionTable := #[], attributes := #[] }
def k2m25 : Method := { name := "loadFront", desc := "(III)V", sig := { parameters := [.int, .int, .int], returnType := none }, accessFlags := 2, code := some k2c25 }
def k2c26 : Code := { maxStack := 5, maxLocals := 7, code := prog_1_method_33_code, exceptionTable := #[], attributes := #[] }
def k2m26 : Method := { name := "storeFront", desc := "(III)V", sig := { parameters := [.int, .int, .int], returnType := none }, accessFlags := 2, code := some k2c26 }
def k2c27 : Code := { maxStack := 5, maxLocals := 5, code := prog_1_method_34_code, exceptionTable := #[], attributes := #[] }
def k2m27 : Method := { name := "loadBackAgg", desc := "(II)V", sig := { parameters := [.int, .int], returnType := none }, accessFlags := 2, code := some k2c27 }
def k2c28 : Code := { maxStack := 5, maxLocals := 5, code := prog_1_method_35_code, exceptionTable := #[], attributes := #[] }
def k2m28 : Method := { name := "storeBackAgg", desc := "(II)V", sig := { parameters := [.int, .int], returnType := none }, accessFlags := 2, code := some k2c28 }
def k2c29 : Code := { maxStack := 5, maxLocals := 5, code := prog_1_method_36_code, exceptionTable := #[], attributes := #[] }
def k2m29 : Method := { name := "storeSnap", desc := "(II)V", sig := { parameters := [.int, .int], returnType := none }, accessFlags := 2, code := some k2c29 }
/-- SliceAggregate -/
def k2 : Class := { plain "SliceAggregate" (some 0) with
  accessFlags := 49
  interfaces := #[]
  cf := some (fileOf pool2 8 #[] #[{ accessFlags := 1, nameIndex := 5, descriptorIndex := 68, attributes := #[] }, { accessFlags := 1, nameIndex := 159, descriptorIndex := 93, attributes := #[] }, { accessFlags := 1, nameIndex := 160, descriptorIndex := 161, attributes := #[] }, { accessFlags := 1, nameIndex := 162, descriptorIndex := 93, attributes := #[] }, { accessFlags := 1, nameIndex := 163, descriptorIndex := 93, attributes := #[] }, { accessFlags := 1, nameIndex := 164, descriptorIndex := 97, attributes := #[] }, { accessFlags := 1, nameIndex := 165, descriptorIndex := 97, attributes := #[] }, { accessFlags := 2, nameIndex := 81, descriptorIndex := 82, attributes := #[] }, { accessFlags := 2, nameIndex := 85, descriptorIndex := 82, attributes := #[] }, { accessFlags := 2, nameIndex := 138, descriptorIndex := 82, attributes := #[] }, { accessFlags := 2, nameIndex := 112, descriptorIndex := 113, attributes := #[] }, { accessFlags := 2, nameIndex := 141, descriptorIndex := 93, attributes := #[] }, { accessFlags := 2, nameIndex := 96, descriptorIndex := 97, attributes := #[] }, { accessFlags := 2, nameIndex := 67, descriptorIndex := 68, attributes := #[] }, { accessFlags := 2, nameIndex := 75, descriptorIndex := 68, attributes := #[] }, { accessFlags := 2, nameIndex := 109, descriptorIndex := 68, attributes := #[] }, { accessFlags := 2, nameIndex := 126, descriptorIndex := 68, attributes := #[] }, { accessFlags := 2, nameIndex := 88, descriptorIndex := 89, attributes := #[] }, { accessFlags := 2, nameIndex := 78, descriptorIndex := 68, attributes := #[] }, { accessFlags := 2, nameIndex := 71, descriptorIndex := 72, attributes := #[] }, { accessFlags := 2, nameIndex := 100, descriptorIndex := 68, attributes := #[] }, { accessFlags := 2, nameIndex := 92, descriptorIndex := 93, attributes := #[] }, { accessFlags := 2, nameIndex := 123, descriptorIndex := 117, attributes := #[] }, { accessFlags := 2, nameIndex := 129, descriptorIndex := 117, attributes := #[] }, { accessFlags := 2, nameIndex := 116, descriptorIndex := 117, attributes := #[] }, { accessFlags := 2, nameIndex := 135, descriptorIndex := 117, attributes := #[] }, { accessFlags := 2, nameIndex := 132, descriptorIndex := 117, attributes := #[] }, { accessFlags := 2, nameIndex := 120, descriptorIndex := 89, attributes := #[] }, { accessFlags := 2, nameIndex := 103, descriptorIndex := 89, attributes := #[] }, { accessFlags := 2, nameIndex := 106, descriptorIndex := 89, attributes := #[] }] 49 2 #[] #[{ accessFlags := 25, nameIndex := 142, descriptorIndex := 12, attributes := #[] }, { accessFlags := 25, nameIndex := 145, descriptorIndex := 12, attributes := #[] }, { accessFlags := 25, nameIndex := 147, descriptorIndex := 12, attributes := #[] }, { accessFlags := 25, nameIndex := 149, descriptorIndex := 12, attributes := #[] }, { accessFlags := 25, nameIndex := 150, descriptorIndex := 12, attributes := #[] }, { accessFlags := 25, nameIndex := 151, descriptorIndex := 12, attributes := #[] }, { accessFlags := 18, nameIndex := 11, descriptorIndex := 12, attributes := #[] }, { accessFlags := 18, nameIndex := 15, descriptorIndex := 12, attributes := #[] }, { accessFlags := 18, nameIndex := 18, descriptorIndex := 12, attributes := #[] }, { accessFlags := 18, nameIndex := 21, descriptorIndex := 12, attributes := #[] }, { accessFlags := 18, nameIndex := 24, descriptorIndex := 12, attributes := #[] }, { accessFlags := 18, nameIndex := 27, descriptorIndex := 12, attributes := #[] }, { accessFlags := 2, nameIndex := 58, descriptorIndex := 12, attributes := #[] }, { accessFlags := 2, nameIndex := 61, descriptorIndex := 12, attributes := #[] }, { accessFlags := 2, nameIndex := 64, descriptorIndex := 12, attributes := #[] }, { accessFlags := 18, nameIndex := 30, descriptorIndex := 31, attributes := #[] }, { accessFlags := 18, nameIndex := 34, descriptorIndex := 31, attributes := #[] }, { accessFlags := 18, nameIndex := 37, descriptorIndex := 31, attributes := #[] }, { accessFlags := 18, nameIndex := 40, descriptorIndex := 31, attributes := #[] }, { accessFlags := 18, nameIndex := 43, descriptorIndex := 31, attributes := #[] }, { accessFlags := 18, nameIndex := 46, descriptorIndex := 31, attributes := #[] }, { accessFlags := 18, nameIndex := 49, descriptorIndex := 31, attributes := #[] }, { accessFlags := 18, nameIndex := 52, descriptorIndex := 31, attributes := #[] }, { accessFlags := 18, nameIndex := 55, descriptorIndex := 31, attributes := #[] }])
  fields := #[{ name := "ERR", type := .int, accessFlags := 25, slot := 0, constantValue := 0 }, { name := "MIN_RANGE", type := .int, accessFlags := 25, slot := 1, constantValue := 0 }, { name := "MAX_RANGE", type := .int, accessFlags := 25, slot := 2, constantValue := 0 }, { name := "MIN_SLIDE", type := .int, accessFlags := 25, slot := 3, constantValue := 0 }, { name := "MAX_SLIDE", type := .int, accessFlags := 25, slot := 4, constantValue := 0 }, { name := "MAX_QUERIES", type := .int, accessFlags := 25, slot := 5, constantValue := 0 }, { name := "regTuple", type := .int, accessFlags := 18, slot := 0, constantValue := 0 }, { name := "regA", type := .int, accessFlags := 18, slot := 1, constantValue := 0 }, { name := "regB", type := .int, accessFlags := 18, slot := 2, constantValue := 0 }, { name := "regC", type := .int, accessFlags := 18, slot := 3, constantValue := 0 }, { name := "regCount", type := .int, accessFlags := 18, slot := 4, constantValue := 0 }, { name := "slots", type := .int, accessFlags := 18, slot := 5, constantValue := 0 }, { name := "capacity", type := .int, accessFlags := 2, slot := 6, constantValue := 0 }, { name := "queries", type := .int, accessFlags := 2, slot := 7, constantValue := 0 }, { name := "n", type := .int, accessFlags := 2, slot := 8, constantValue := 0 }, { name := "range", type := (.array .int), accessFlags := 18, slot := 9, constantValue := 0 }, { name := "slide", type := (.array .int), accessFlags := 18, slot := 10, constantValue := 0 }, { name := "frontSize", type := (.array .int), accessFlags := 18, slot := 11, constantValue := 0 }, { name := "backSize", type := (.array .int), accessFlags := 18, slot := 12, constantValue := 0 }, { name := "backElem", type := (.array .int), accessFlags := 18, slot := 13, constantValue := 0 }, { name := "frontAgg", type := (.array .int), accessFlags := 18, slot := 14, constantValue := 0 }, { name := "backAgg", type := (.array .int), accessFlags := 18, slot := 15, constantValue := 0 }, { name := "snap", type := (.array .int), accessFlags := 18, slot := 16, constantValue := 0 }, { name := "reg", type := (.array .int), accessFlags := 18, slot := 17, constantValue := 0 }]
  methods := #[k2m0, k2m1, k2m2, k2m3, k2m4, k2m5, k2m6, k2m7, k2m8, k2m9, k2m10, k2m11, k2m12, k2m13, k2m14, k2m15, k2m16, k2m17, k2m18, k2m19, k2m20, k2m21, k2m22, k2m23, k2m24, k2m25, k2m26, k2m27, k2m28, k2m29]
  instanceTypes := #[.int, .int, .int, .int, .int, .int, .int, .int, .int, (.array .int), (.array .int), (.array .int), (.array .int), (.array .int), (.array .int), (.array .int), (.array .int), (.array .int)]
  staticTypes := #[.int, .int, .int, .int, .int, .int]
  resolved := Array.replicate 175 none
  statics := none }

def pool3 : Array CpInfo := pool [(1, u "java/lang/Cloneable"), (0, .class_ 1), (0, u "java/lang/Object"), (0, .class_ 3)] 3

/-- java/lang/Cloneable -/
def k3 : Class := { plain "java/lang/Cloneable" (some 0) with
  accessFlags := 1537
  interfaces := #[]
  cf := some (fileOf pool3 2 #[] #[] 1537 4 #[] #[])
  fields := #[]
  methods := #[]
  instanceTypes := #[]
  staticTypes := #[]
  resolved := Array.replicate 8 none
  statics := none }

def pool4 : Array CpInfo := pool [(1, u "java/io/Serializable"), (0, .class_ 1), (0, u "java/lang/Object"), (0, .class_ 3)] 3

/-- java/io/Serializable -/
def k4 : Class := { plain "java/io/Serializable" (some 0) with
  accessFlags := 1537
  interfaces := #[]
  cf := some (fileOf pool4 2 #[] #[] 1537 4 #[] #[])
  fields := #[]
  methods := #[]
  instanceTypes := #[]
  staticTypes := #[]
  resolved := Array.replicate 8 none
  statics := none }

/-- the primitive byte -/
def k5 : Class := { plain "byte" none with kind := .primitive 'B', accessFlags := 0x411 }
/-- [B -/
def k6 : Class := { plain "[B" (some 0) with kind := .array 5 .byte, interfaces := #[3, 4], accessFlags := 1041 }

/-- the primitive int -/
def k7 : Class := { plain "int" none with kind := .primitive 'I', accessFlags := 0x411 }
/-- [I -/
def k8 : Class := { plain "[I" (some 0) with kind := .array 7 .int, interfaces := #[3, 4], accessFlags := 1041 }

def heap : Heap := #[]
def classes : Array Class := #[k0, k1, k2, k3, k4, k5, k6, k7, k8]
def interned : List (Array UInt16 × Addr) := []
def slotsUsed : Nat := 0
def theMethod : MethodId := ⟨1, 1⟩
def args0 : Array Value := #[.int 5, .int 5, .int 5, .int 5, .int 5, .int 5]
def aboutOver (below : List Frame) : State where
  vm := { classes := classes, interned := interned.toArray }
  heap := heap
  slotsUsed := slotsUsed
  threads := #[{ frames := .invoking theMethod args0 :: below }]
def below0 : List Frame := [.native { method := ⟨0, 0⟩, args := #[] }]
def about1 : State := aboutOver below0
def p0 : Program := .bare "" "" ""
def e0 : Env := launch0.env 0 0 0
theorem w_frames : about1.frames = Frame.invoking theMethod args0 :: below0 := rfl
set_option maxRecDepth 65536 in
theorem w_args : argsFit about1.vm theMethod args0 = true := by decide +kernel
set_option maxRecDepth 65536 in
theorem w_heap : heapFits about1 = true := by decide +kernel
set_option maxRecDepth 65536 in
theorem w_runnable : about1.curStatus? = some .runnable := by decide +kernel
set_option maxRecDepth 65536 in
theorem w_alone : about1.alone = true := by decide +kernel
set_option maxRecDepth 65536 in
theorem w_named : about1.methodNamed? x = some theMethod := by decide +kernel
set_option maxRecDepth 65536 in
theorem w_hears : about1.hears theMethod below0 = true := by decide +kernel
set_option maxRecDepth 65536 in
theorem w_ripe : about1.ripe theMethod args0 below0 = true := by decide +kernel
theorem w_running : about1.status = .running := rfl
set_option maxRecDepth 65536 in
theorem w_room : about1.hasRoom e0.platform room_1 = true :=
  launch0.hasRoom_least _ room_1 (by decide +kernel) (by decide +kernel) (by decide +kernel) (by decide +kernel) (by decide +kernel) (by decide +kernel)
theorem allAtoms_all (ts : List Jvm.Cond) (a : Array Jvm.Value) (st : Jvm.State) : (allAtoms ts).before a st = ts.all (fun c => c.before a st) := by
  induction ts with
  | nil => rfl
  | cons c t ih =>
    show (Jvm.Cond.and c (allAtoms t)).before a st = _
    rw [Jvm.Cond.before_and, ih, List.all_cons]
def words1 : List Jvm.Cond := Jvm.Cond.code x code maxLocals ret :: tables_1
/-- a 'code' word, met by the world's own term for the bytes: nothing is compared byte by byte -/
theorem code_word {y : MethodName} {bytes : ByteArray} {mx : Nat} {rt : Option FieldType} {a : Array Value} {s : State} {m : MethodId} {meth : Method} {c : Code} (h1 : s.methodNamed? y = some m) (h2 : s.vm.method? m = some meth) (h3 : meth.code = some c) (h4 : c.code = bytes)
    (h5 : (c.maxLocals == mx && c.exceptionTable.isEmpty && decide (c.maxStack ≤ mostOperands) && decide (meth.sig.returnType = rt) && !meth.locks && decide (parseMethodDescriptor y.desc = some meth.sig)) = true) : (Jvm.Cond.code y bytes mx rt).before a s = true := by
  simp only [Bool.and_eq_true, beq_iff_eq, Bool.not_eq_true', decide_eq_true_eq] at h5
  obtain ⟨⟨⟨⟨⟨g1, g2⟩, g3⟩, g4⟩, g5⟩, g6⟩ := h5
  simp [Cond.before, Cond.holds, Cond.value, h1, h2, h3, h4, g1, g2, g3, g4, g5, g6]
def isCode : Jvm.Cond → Bool
  | .code _ _ _ _ => true
  | _ => false
theorem all_split {L : List Jvm.Cond} {P : Jvm.Cond → Bool} (h1 : L.all (fun c => isCode c || P c) = true) (h2 : ∀ c ∈ L.filter isCode, P c = true) : L.all P = true := by
  refine List.all_eq_true.mpr fun c hc => ?_
  have h := List.all_eq_true.mp h1 c hc
  rcases Bool.eq_false_or_eq_true (isCode c) with hi | hi
  · exact h2 c (List.mem_filter.mpr ⟨hc, hi⟩)
  · simpa [hi] using h
set_option maxRecDepth 65536 in
theorem w_c0 : (Jvm.Cond.code x code maxLocals ret).before args0 about1 = true := code_word (m := ⟨1, 1⟩) (meth := k1m1) (c := k1c1) (by decide +kernel) rfl rfl rfl (by decide +kernel)
set_option maxRecDepth 65536 in
theorem w_c1 : (Jvm.Cond.code ({ cls := "SliceAggregate", name := "<init>", desc := "(I)V" } : Jvm.MethodName) prog_1_method_1_code (4 : Nat) (Option.none : Option Jvm.ClassFile.FieldType)).before args0 about1 = true := code_word (m := ⟨2, 0⟩) (meth := k2m0) (c := k2c0) (by decide +kernel) rfl rfl rfl (by decide +kernel)
set_option maxRecDepth 65536 in
theorem w_c2 : (Jvm.Cond.code ({ cls := "java/lang/Object", name := "<init>", desc := "()V" } : Jvm.MethodName) object_method_1_code (1 : Nat) (Option.none : Option Jvm.ClassFile.FieldType)).before args0 about1 = true := code_word (m := ⟨0, 0⟩) (meth := k0m0) (c := k0c0) (by decide +kernel) rfl rfl rfl (by decide +kernel)
set_option maxRecDepth 65536 in
theorem w_c3 : (Jvm.Cond.code ({ cls := "SliceAggregate", name := "resetQuery", desc := "(I)V" } : Jvm.MethodName) prog_1_method_20_code (2 : Nat) (Option.none : Option Jvm.ClassFile.FieldType)).before args0 about1 = true := code_word (m := ⟨2, 13⟩) (meth := k2m13) (c := k2c13) (by decide +kernel) rfl rfl rfl (by decide +kernel)
set_option maxRecDepth 65536 in
theorem w_c4 : (Jvm.Cond.code ({ cls := "SliceAggregate", name := "regIdentity", desc := "(I)V" } : Jvm.MethodName) prog_1_method_27_code (2 : Nat) (Option.none : Option Jvm.ClassFile.FieldType)).before args0 about1 = true := code_word (m := ⟨2, 20⟩) (meth := k2m20) (c := k2c20) (by decide +kernel) rfl rfl rfl (by decide +kernel)
set_option maxRecDepth 65536 in
theorem w_c5 : (Jvm.Cond.code ({ cls := "SliceAggregate", name := "regSet", desc := "(IIIII)V" } : Jvm.MethodName) prog_1_method_26_code (7 : Nat) (Option.none : Option Jvm.ClassFile.FieldType)).before args0 about1 = true := code_word (m := ⟨2, 19⟩) (meth := k2m19) (c := k2c19) (by decide +kernel) rfl rfl rfl (by decide +kernel)
set_option maxRecDepth 65536 in
theorem w_c6 : (Jvm.Cond.code ({ cls := "SliceAggregate", name := "validReg", desc := "(I)Z" } : Jvm.MethodName) prog_1_method_16_code (2 : Nat) (Option.some Jvm.ClassFile.FieldType.boolean)).before args0 about1 = true := code_word (m := ⟨2, 9⟩) (meth := k2m9) (c := k2c9) (by decide +kernel) rfl rfl rfl (by decide +kernel)
set_option maxRecDepth 65536 in
theorem w_c7 : (Jvm.Cond.code ({ cls := "SliceAggregate", name := "storeBackAgg", desc := "(II)V" } : Jvm.MethodName) prog_1_method_35_code (5 : Nat) (Option.none : Option Jvm.ClassFile.FieldType)).before args0 about1 = true := code_word (m := ⟨2, 28⟩) (meth := k2m28) (c := k2c28) (by decide +kernel) rfl rfl rfl (by decide +kernel)
set_option maxRecDepth 65536 in
theorem w_c8 : (Jvm.Cond.code ({ cls := "SliceAggregate", name := "storeSnap", desc := "(II)V" } : Jvm.MethodName) prog_1_method_36_code (5 : Nat) (Option.none : Option Jvm.ClassFile.FieldType)).before args0 about1 = true := code_word (m := ⟨2, 29⟩) (meth := k2m29) (c := k2c29) (by decide +kernel) rfl rfl rfl (by decide +kernel)
set_option maxRecDepth 65536 in
theorem w_c9 : (Jvm.Cond.code ({ cls := "SliceAggregate", name := "addQuery", desc := "(II)I" } : Jvm.MethodName) prog_1_method_2_code (4 : Nat) (Option.some Jvm.ClassFile.FieldType.int)).before args0 about1 = true := code_word (m := ⟨2, 1⟩) (meth := k2m1) (c := k2c1) (by decide +kernel) rfl rfl rfl (by decide +kernel)
set_option maxRecDepth 65536 in
theorem w_c10 : (Jvm.Cond.code ({ cls := "SliceAggregate", name := "push", desc := "(IIII)I" } : Jvm.MethodName) prog_1_method_3_code (8 : Nat) (Option.some Jvm.ClassFile.FieldType.int)).before args0 about1 = true := code_word (m := ⟨2, 2⟩) (meth := k2m2) (c := k2c2) (by decide +kernel) rfl rfl rfl (by decide +kernel)
set_option maxRecDepth 65536 in
theorem w_c11 : (Jvm.Cond.code ({ cls := "SliceAggregate", name := "appendToQuery", desc := "(I)V" } : Jvm.MethodName) prog_1_method_21_code (4 : Nat) (Option.none : Option Jvm.ClassFile.FieldType)).before args0 about1 = true := code_word (m := ⟨2, 14⟩) (meth := k2m14) (c := k2c14) (by decide +kernel) rfl rfl rfl (by decide +kernel)
set_option maxRecDepth 65536 in
theorem w_c12 : (Jvm.Cond.code ({ cls := "SliceAggregate", name := "validSlot", desc := "(II)Z" } : Jvm.MethodName) prog_1_method_17_code (3 : Nat) (Option.some Jvm.ClassFile.FieldType.boolean)).before args0 about1 = true := code_word (m := ⟨2, 10⟩) (meth := k2m10) (c := k2c10) (by decide +kernel) rfl rfl rfl (by decide +kernel)
set_option maxRecDepth 65536 in
theorem w_c13 : (Jvm.Cond.code ({ cls := "SliceAggregate", name := "storeBack", desc := "(III)V" } : Jvm.MethodName) prog_1_method_31_code (7 : Nat) (Option.none : Option Jvm.ClassFile.FieldType)).before args0 about1 = true := code_word (m := ⟨2, 24⟩) (meth := k2m24) (c := k2c24) (by decide +kernel) rfl rfl rfl (by decide +kernel)
set_option maxRecDepth 65536 in
theorem w_c14 : (Jvm.Cond.code ({ cls := "SliceAggregate", name := "slotOffset", desc := "(II)I" } : Jvm.MethodName) prog_1_method_18_code (3 : Nat) (Option.some Jvm.ClassFile.FieldType.int)).before args0 about1 = true := code_word (m := ⟨2, 11⟩) (meth := k2m11) (c := k2c11) (by decide +kernel) rfl rfl rfl (by decide +kernel)
set_option maxRecDepth 65536 in
theorem w_c15 : (Jvm.Cond.code ({ cls := "SliceAggregate", name := "loadBackAgg", desc := "(II)V" } : Jvm.MethodName) prog_1_method_34_code (5 : Nat) (Option.none : Option Jvm.ClassFile.FieldType)).before args0 about1 = true := code_word (m := ⟨2, 27⟩) (meth := k2m27) (c := k2c27) (by decide +kernel) rfl rfl rfl (by decide +kernel)
set_option maxRecDepth 65536 in
theorem w_c16 : (Jvm.Cond.code ({ cls := "SliceAggregate", name := "regMul", desc := "(III)V" } : Jvm.MethodName) prog_1_method_29_code (15 : Nat) (Option.none : Option Jvm.ClassFile.FieldType)).before args0 about1 = true := code_word (m := ⟨2, 22⟩) (meth := k2m22) (c := k2c22) (by decide +kernel) rfl rfl rfl (by decide +kernel)
set_option maxRecDepth 65536 in
theorem w_c17 : (Jvm.Cond.code ({ cls := "SliceAggregate", name := "takeSnapshot", desc := "(I)V" } : Jvm.MethodName) prog_1_method_25_code (2 : Nat) (Option.none : Option Jvm.ClassFile.FieldType)).before args0 about1 = true := code_word (m := ⟨2, 18⟩) (meth := k2m18) (c := k2c18) (by decide +kernel) rfl rfl rfl (by decide +kernel)
set_option maxRecDepth 65536 in
theorem w_c18 : (Jvm.Cond.code ({ cls := "SliceAggregate", name := "liveFold", desc := "(II)V" } : Jvm.MethodName) prog_1_method_24_code (4 : Nat) (Option.none : Option Jvm.ClassFile.FieldType)).before args0 about1 = true := code_word (m := ⟨2, 17⟩) (meth := k2m17) (c := k2c17) (by decide +kernel) rfl rfl rfl (by decide +kernel)
set_option maxRecDepth 65536 in
theorem w_c19 : (Jvm.Cond.code ({ cls := "SliceAggregate", name := "evictOldest", desc := "(I)V" } : Jvm.MethodName) prog_1_method_22_code (2 : Nat) (Option.none : Option Jvm.ClassFile.FieldType)).before args0 about1 = true := code_word (m := ⟨2, 15⟩) (meth := k2m15) (c := k2c15) (by decide +kernel) rfl rfl rfl (by decide +kernel)
set_option maxRecDepth 65536 in
theorem w_c20 : (Jvm.Cond.code ({ cls := "SliceAggregate", name := "flip", desc := "(I)V" } : Jvm.MethodName) prog_1_method_23_code (4 : Nat) (Option.none : Option Jvm.ClassFile.FieldType)).before args0 about1 = true := code_word (m := ⟨2, 16⟩) (meth := k2m16) (c := k2c16) (by decide +kernel) rfl rfl rfl (by decide +kernel)
set_option maxRecDepth 65536 in
theorem w_c21 : (Jvm.Cond.code ({ cls := "SliceAggregate", name := "loadBack", desc := "(III)V" } : Jvm.MethodName) prog_1_method_30_code (7 : Nat) (Option.none : Option Jvm.ClassFile.FieldType)).before args0 about1 = true := code_word (m := ⟨2, 23⟩) (meth := k2m23) (c := k2c23) (by decide +kernel) rfl rfl rfl (by decide +kernel)
set_option maxRecDepth 65536 in
theorem w_c22 : (Jvm.Cond.code ({ cls := "SliceAggregate", name := "storeFront", desc := "(III)V" } : Jvm.MethodName) prog_1_method_33_code (7 : Nat) (Option.none : Option Jvm.ClassFile.FieldType)).before args0 about1 = true := code_word (m := ⟨2, 26⟩) (meth := k2m26) (c := k2c26) (by decide +kernel) rfl rfl rfl (by decide +kernel)
set_option maxRecDepth 65536 in
theorem w_c23 : (Jvm.Cond.code ({ cls := "SliceAggregate", name := "windowStart", desc := "(I)I" } : Jvm.MethodName) prog_1_method_6_code (3 : Nat) (Option.some Jvm.ClassFile.FieldType.int)).before args0 about1 = true := code_word (m := ⟨2, 5⟩) (meth := k2m5) (c := k2c5) (by decide +kernel) rfl rfl rfl (by decide +kernel)
set_option maxRecDepth 65536 in
theorem w_c24 : (Jvm.Cond.code ({ cls := "SliceAggregate", name := "validQuery", desc := "(I)Z" } : Jvm.MethodName) prog_1_method_14_code (2 : Nat) (Option.some Jvm.ClassFile.FieldType.boolean)).before args0 about1 = true := code_word (m := ⟨2, 7⟩) (meth := k2m7) (c := k2c7) (by decide +kernel) rfl rfl rfl (by decide +kernel)
set_option maxRecDepth 65536 in
theorem w_c25 : (Jvm.Cond.code ({ cls := "SliceAggregate", name := "endOf", desc := "(I)I" } : Jvm.MethodName) prog_1_method_19_code (3 : Nat) (Option.some Jvm.ClassFile.FieldType.int)).before args0 about1 = true := code_word (m := ⟨2, 12⟩) (meth := k2m12) (c := k2c12) (by decide +kernel) rfl rfl rfl (by decide +kernel)
set_option maxRecDepth 65536 in
theorem w_c26 : (Jvm.Cond.code ({ cls := "SliceAggregate", name := "windowEnd", desc := "(I)I" } : Jvm.MethodName) prog_1_method_7_code (2 : Nat) (Option.some Jvm.ClassFile.FieldType.int)).before args0 about1 = true := code_word (m := ⟨2, 6⟩) (meth := k2m6) (c := k2c6) (by decide +kernel) rfl rfl rfl (by decide +kernel)
set_option maxRecDepth 65536 in
theorem w_c27 : (Jvm.Cond.code ({ cls := "SliceAggregate", name := "result", desc := "(II)I" } : Jvm.MethodName) prog_1_method_4_code (3 : Nat) (Option.some Jvm.ClassFile.FieldType.int)).before args0 about1 = true := code_word (m := ⟨2, 3⟩) (meth := k2m3) (c := k2c3) (by decide +kernel) rfl rfl rfl (by decide +kernel)
set_option maxRecDepth 65536 in
theorem w_c28 : (Jvm.Cond.code ({ cls := "SliceAggregate", name := "validEntry", desc := "(I)Z" } : Jvm.MethodName) prog_1_method_15_code (2 : Nat) (Option.some Jvm.ClassFile.FieldType.boolean)).before args0 about1 = true := code_word (m := ⟨2, 8⟩) (meth := k2m8) (c := k2c8) (by decide +kernel) rfl rfl rfl (by decide +kernel)
set_option maxRecDepth 65536 in
theorem w_c29 : (Jvm.Cond.code ({ cls := "SliceAggregate", name := "liveResult", desc := "(II)I" } : Jvm.MethodName) prog_1_method_5_code (3 : Nat) (Option.some Jvm.ClassFile.FieldType.int)).before args0 about1 = true := code_word (m := ⟨2, 4⟩) (meth := k2m4) (c := k2c4) (by decide +kernel) rfl rfl rfl (by decide +kernel)
set_option maxRecDepth 65536 in
theorem w_c30 : (Jvm.Cond.code ({ cls := "SliceAggregate", name := "loadFront", desc := "(III)V" } : Jvm.MethodName) prog_1_method_32_code (7 : Nat) (Option.none : Option Jvm.ClassFile.FieldType)).before args0 about1 = true := code_word (m := ⟨2, 25⟩) (meth := k2m25) (c := k2c25) (by decide +kernel) rfl rfl rfl (by decide +kernel)
set_option maxRecDepth 65536 in
theorem w_c31 : (Jvm.Cond.code ({ cls := "SliceAggregate", name := "regEntry", desc := "(II)I" } : Jvm.MethodName) prog_1_method_28_code (3 : Nat) (Option.some Jvm.ClassFile.FieldType.int)).before args0 about1 = true := code_word (m := ⟨2, 21⟩) (meth := k2m21) (c := k2c21) (by decide +kernel) rfl rfl rfl (by decide +kernel)
def codes1 : List Jvm.Cond := [Jvm.Cond.code x code maxLocals ret, Jvm.Cond.code ({ cls := "SliceAggregate", name := "<init>", desc := "(I)V" } : Jvm.MethodName) prog_1_method_1_code (4 : Nat) (Option.none : Option Jvm.ClassFile.FieldType), Jvm.Cond.code ({ cls := "java/lang/Object", name := "<init>", desc := "()V" } : Jvm.MethodName) object_method_1_code (1 : Nat) (Option.none : Option Jvm.ClassFile.FieldType), Jvm.Cond.code ({ cls := "SliceAggregate", name := "resetQuery", desc := "(I)V" } : Jvm.MethodName) prog_1_method_20_code (2 : Nat) (Option.none : Option Jvm.ClassFile.FieldType), Jvm.Cond.code ({ cls := "SliceAggregate", name := "regIdentity", desc := "(I)V" } : Jvm.MethodName) prog_1_method_27_code (2 : Nat) (Option.none : Option Jvm.ClassFile.FieldType), Jvm.Cond.code ({ cls := "SliceAggregate", name := "regSet", desc := "(IIIII)V" } : Jvm.MethodName) prog_1_method_26_code (7 : Nat) (Option.none : Option Jvm.ClassFile.FieldType), Jvm.Cond.code ({ cls := "SliceAggregate", name := "validReg", desc := "(I)Z" } : Jvm.MethodName) prog_1_method_16_code (2 : Nat) (Option.some Jvm.ClassFile.FieldType.boolean), Jvm.Cond.code ({ cls := "SliceAggregate", name := "storeBackAgg", desc := "(II)V" } : Jvm.MethodName) prog_1_method_35_code (5 : Nat) (Option.none : Option Jvm.ClassFile.FieldType), Jvm.Cond.code ({ cls := "SliceAggregate", name := "storeSnap", desc := "(II)V" } : Jvm.MethodName) prog_1_method_36_code (5 : Nat) (Option.none : Option Jvm.ClassFile.FieldType), Jvm.Cond.code ({ cls := "SliceAggregate", name := "addQuery", desc := "(II)I" } : Jvm.MethodName) prog_1_method_2_code (4 : Nat) (Option.some Jvm.ClassFile.FieldType.int), Jvm.Cond.code ({ cls := "SliceAggregate", name := "push", desc := "(IIII)I" } : Jvm.MethodName) prog_1_method_3_code (8 : Nat) (Option.some Jvm.ClassFile.FieldType.int), Jvm.Cond.code ({ cls := "SliceAggregate", name := "appendToQuery", desc := "(I)V" } : Jvm.MethodName) prog_1_method_21_code (4 : Nat) (Option.none : Option Jvm.ClassFile.FieldType), Jvm.Cond.code ({ cls := "SliceAggregate", name := "validSlot", desc := "(II)Z" } : Jvm.MethodName) prog_1_method_17_code (3 : Nat) (Option.some Jvm.ClassFile.FieldType.boolean), Jvm.Cond.code ({ cls := "SliceAggregate", name := "storeBack", desc := "(III)V" } : Jvm.MethodName) prog_1_method_31_code (7 : Nat) (Option.none : Option Jvm.ClassFile.FieldType), Jvm.Cond.code ({ cls := "SliceAggregate", name := "slotOffset", desc := "(II)I" } : Jvm.MethodName) prog_1_method_18_code (3 : Nat) (Option.some Jvm.ClassFile.FieldType.int), Jvm.Cond.code ({ cls := "SliceAggregate", name := "loadBackAgg", desc := "(II)V" } : Jvm.MethodName) prog_1_method_34_code (5 : Nat) (Option.none : Option Jvm.ClassFile.FieldType), Jvm.Cond.code ({ cls := "SliceAggregate", name := "regMul", desc := "(III)V" } : Jvm.MethodName) prog_1_method_29_code (15 : Nat) (Option.none : Option Jvm.ClassFile.FieldType), Jvm.Cond.code ({ cls := "SliceAggregate", name := "takeSnapshot", desc := "(I)V" } : Jvm.MethodName) prog_1_method_25_code (2 : Nat) (Option.none : Option Jvm.ClassFile.FieldType), Jvm.Cond.code ({ cls := "SliceAggregate", name := "liveFold", desc := "(II)V" } : Jvm.MethodName) prog_1_method_24_code (4 : Nat) (Option.none : Option Jvm.ClassFile.FieldType), Jvm.Cond.code ({ cls := "SliceAggregate", name := "evictOldest", desc := "(I)V" } : Jvm.MethodName) prog_1_method_22_code (2 : Nat) (Option.none : Option Jvm.ClassFile.FieldType), Jvm.Cond.code ({ cls := "SliceAggregate", name := "flip", desc := "(I)V" } : Jvm.MethodName) prog_1_method_23_code (4 : Nat) (Option.none : Option Jvm.ClassFile.FieldType), Jvm.Cond.code ({ cls := "SliceAggregate", name := "loadBack", desc := "(III)V" } : Jvm.MethodName) prog_1_method_30_code (7 : Nat) (Option.none : Option Jvm.ClassFile.FieldType), Jvm.Cond.code ({ cls := "SliceAggregate", name := "storeFront", desc := "(III)V" } : Jvm.MethodName) prog_1_method_33_code (7 : Nat) (Option.none : Option Jvm.ClassFile.FieldType), Jvm.Cond.code ({ cls := "SliceAggregate", name := "windowStart", desc := "(I)I" } : Jvm.MethodName) prog_1_method_6_code (3 : Nat) (Option.some Jvm.ClassFile.FieldType.int), Jvm.Cond.code ({ cls := "SliceAggregate", name := "validQuery", desc := "(I)Z" } : Jvm.MethodName) prog_1_method_14_code (2 : Nat) (Option.some Jvm.ClassFile.FieldType.boolean), Jvm.Cond.code ({ cls := "SliceAggregate", name := "endOf", desc := "(I)I" } : Jvm.MethodName) prog_1_method_19_code (3 : Nat) (Option.some Jvm.ClassFile.FieldType.int), Jvm.Cond.code ({ cls := "SliceAggregate", name := "windowEnd", desc := "(I)I" } : Jvm.MethodName) prog_1_method_7_code (2 : Nat) (Option.some Jvm.ClassFile.FieldType.int), Jvm.Cond.code ({ cls := "SliceAggregate", name := "result", desc := "(II)I" } : Jvm.MethodName) prog_1_method_4_code (3 : Nat) (Option.some Jvm.ClassFile.FieldType.int), Jvm.Cond.code ({ cls := "SliceAggregate", name := "validEntry", desc := "(I)Z" } : Jvm.MethodName) prog_1_method_15_code (2 : Nat) (Option.some Jvm.ClassFile.FieldType.boolean), Jvm.Cond.code ({ cls := "SliceAggregate", name := "liveResult", desc := "(II)I" } : Jvm.MethodName) prog_1_method_5_code (3 : Nat) (Option.some Jvm.ClassFile.FieldType.int), Jvm.Cond.code ({ cls := "SliceAggregate", name := "loadFront", desc := "(III)V" } : Jvm.MethodName) prog_1_method_32_code (7 : Nat) (Option.none : Option Jvm.ClassFile.FieldType), Jvm.Cond.code ({ cls := "SliceAggregate", name := "regEntry", desc := "(II)I" } : Jvm.MethodName) prog_1_method_28_code (3 : Nat) (Option.some Jvm.ClassFile.FieldType.int)]
set_option maxRecDepth 65536 in
theorem codes_eq : words1.filter isCode = codes1 := rfl
theorem w_codes : ∀ c ∈ words1.filter isCode, c.before args0 about1 = true := by
  rw [codes_eq]
  intro c hc
  simp only [codes1, List.mem_cons, List.not_mem_nil, or_false] at hc
  rcases hc with rfl | rfl | rfl | rfl | rfl | rfl | rfl | rfl | rfl | rfl | rfl | rfl | rfl | rfl | rfl | rfl | rfl | rfl | rfl | rfl | rfl | rfl | rfl | rfl | rfl | rfl | rfl | rfl | rfl | rfl | rfl | rfl
  · exact w_c0
  · exact w_c1
  · exact w_c2
  · exact w_c3
  · exact w_c4
  · exact w_c5
  · exact w_c6
  · exact w_c7
  · exact w_c8
  · exact w_c9
  · exact w_c10
  · exact w_c11
  · exact w_c12
  · exact w_c13
  · exact w_c14
  · exact w_c15
  · exact w_c16
  · exact w_c17
  · exact w_c18
  · exact w_c19
  · exact w_c20
  · exact w_c21
  · exact w_c22
  · exact w_c23
  · exact w_c24
  · exact w_c25
  · exact w_c26
  · exact w_c27
  · exact w_c28
  · exact w_c29
  · exact w_c30
  · exact w_c31
set_option maxRecDepth 65536 in
theorem w_t1 : (words1.take 24).all (fun c => isCode c || c.before args0 about1) = true := by decide +kernel
set_option maxRecDepth 65536 in
theorem w_t2 : ((words1.drop 24).take 24).all (fun c => isCode c || c.before args0 about1) = true := by decide +kernel
set_option maxRecDepth 65536 in
theorem w_t3 : (((words1.drop 24).drop 24).take 24).all (fun c => isCode c || c.before args0 about1) = true := by decide +kernel
set_option maxRecDepth 65536 in
theorem w_t4 : ((((words1.drop 24).drop 24).drop 24).take 24).all (fun c => isCode c || c.before args0 about1) = true := by decide +kernel
set_option maxRecDepth 65536 in
theorem w_t5 : (((((words1.drop 24).drop 24).drop 24).drop 24).take 24).all (fun c => isCode c || c.before args0 about1) = true := by decide +kernel
set_option maxRecDepth 65536 in
theorem w_t6 : ((((((words1.drop 24).drop 24).drop 24).drop 24).drop 24).take 24).all (fun c => isCode c || c.before args0 about1) = true := by decide +kernel
set_option maxRecDepth 65536 in
theorem w_t7 : (((((((words1.drop 24).drop 24).drop 24).drop 24).drop 24).drop 24).take 24).all (fun c => isCode c || c.before args0 about1) = true := by decide +kernel
set_option maxRecDepth 65536 in
theorem w_t8 : (((((((words1.drop 24).drop 24).drop 24).drop 24).drop 24).drop 24).drop 24).all (fun c => isCode c || c.before args0 about1) = true := by decide +kernel
theorem w_tables : (allAtoms (Jvm.Cond.code x code maxLocals ret :: tables_1)).before args0 about1 = true := by
  rw [allAtoms_all]
  show words1.all (fun c => c.before args0 about1) = true
  refine all_split ?_ w_codes
  rw [← List.take_append_drop 24 words1, List.all_append, w_t1, ← List.take_append_drop 24 (words1.drop 24), List.all_append, w_t2, ← List.take_append_drop 24 ((words1.drop 24).drop 24), List.all_append, w_t3, ← List.take_append_drop 24 (((words1.drop 24).drop 24).drop 24), List.all_append, w_t4, ← List.take_append_drop 24 ((((words1.drop 24).drop 24).drop 24).drop 24), List.all_append, w_t5, ← List.take_append_drop 24 (((((words1.drop 24).drop 24).drop 24).drop 24).drop 24), List.all_append, w_t6, ← List.take_append_drop 24 ((((((words1.drop 24).drop 24).drop 24).drop 24).drop 24).drop 24), List.all_append, w_t7, w_t8]
  rfl
set_option maxRecDepth 65536 in
theorem w_case : (Jvm.Cond.and given_1 narrow_1).before args0 about1 = true := by decide +kernel
theorem w_applies : (headSpec (Jvm.Cond.code x code maxLocals ret :: tables_1) room_1).applies x e0.platform about1 = true :=
  (Spec.applies_iff w_frames).mpr ⟨w_running, w_runnable, w_alone, w_named, w_hears, w_ripe, w_room, w_tables⟩
theorem atStart : AtStart classFile x code maxLocals ret World_1 tables_1 room_1 Calls_1 rest_1 Pre_1 launch0 p0 e0 about1 theMethod args0 below0 :=
  ⟨lists_1, trivial, launch0.admits_env _ _ _, launch0.least_env, fairChoices_fair.cas, fairChoices_fair.clock, w_frames, w_args, w_heap, w_applies, trivial, trivial, w_case⟩
end start1
theorem witness_1 : WitnessClaimed_1 := ⟨start1.p0, start1.e0, start1.about1, start1.theMethod, start1.args0, start1.below0, start1.atStart⟩
end Jvm.Pilot.@@N@@
