import JvmDerived
import JvmDerived.Pilot.@@N@@Statement
import JvmDerived.Pilot.@@N@@Code
set_option linter.unusedVariables false
set_option linter.unusedSimpArgs false
namespace Jvm.RoadKit
open Sem ClassFile Op Lib Jvm.Stand Jvm.Free Jvm.LawKit
section New
variable {p : Program} {l : Launch} {e : Env} {R : Room} {s : State} {m : MethodId} {args : Array Value} {below : List Frame} {meth : Method} {c : Code} {T : State} {locs : List Loc} {cells slots : Nat}
theorem retI (X : Stand p l e R s m args below meth c T locs cells slots) (hx : p.tables.exec = Jvm.exec) {pc : Nat} {Ls : Array Slot} {z : Int32} {rest : List Value} (hret : meth.sig.returnType = some .int) (hd : decode c.code pc = .ok (.ireturn, 1)) {fs : List Frame}
    (hl : ∀ (f : JFrame) (acts : List Action), f.method = m → f.locked = none → f.entered = [] → (doReturn e (T.setTop f) acts (some (.int z))).1 = T.setFrames fs) : Steps p.tables e below (T.setTop (mkF m pc Ls (.int z :: rest))) (T.setFrames fs) := by
  have hm' : T.vm.method? m = some meth := X.method'
  have hn : narrow .int (.int z) = .int z := rfl
  show Steps p.tables e below (T.setTop { method := m, pc := pc, locals := Ls, stack := _ :: rest, locked := none }) _
  jvm_step X.here [X.here.top, hx, hd, hm', hret, hn]
  first | (intro acts; rw [hl _ acts rfl rfl rfl]) | rw [hl _ _ rfl rfl rfl]
  exact Steps.refl _
end New
end Jvm.RoadKit
namespace Jvm.Pilot.@@N@@
open Jvm Jvm.ClassFile Sem Op Lib Jvm.Free Jvm.Stand Jvm.LawKit Jvm.RoadKit Bundle Jvm.Pilot.@@N@@.Jvm.D
/-! TABLES of this claim: printed by claim.py -/
def k0 : Nat := 1
def cName : String := "PortTranslator"
def cN : Nat := 19
def nF : Nat := 19
def kName (k : Nat) : String := bif Nat.beq k 0 then "PortTranslatorL7" else "PortTranslator"
def fNm (k : Nat) : String := (bif Nat.ble 9 k then (bif Nat.ble 14 k then (bif Nat.ble 16 k then (bif Nat.ble 17 k then (bif Nat.ble 18 k then "regExt" else "regPort") else "regHost") else (bif Nat.ble 15 k then "remPort" else "remAddr")) else (bif Nat.ble 11 k then (bif Nat.ble 12 k then (bif Nat.ble 13 k then "clock" else "cooldown") else "tcpTimeout") else (bif Nat.ble 10 k then "udpTimeout" else "poolSize"))) else (bif Nat.ble 4 k then (bif Nat.ble 6 k then (bif Nat.ble 7 k then (bif Nat.ble 8 k then "perm" else "deadlineAt") else "stateAt") else (bif Nat.ble 5 k then "iportOf" else "hostOf")) else (bif Nat.ble 2 k then (bif Nat.ble 3 k then "protoOf" else "freedAt") else (bif Nat.ble 1 k then "used" else "live"))))
def fDs (k : Nat) : String := (bif Nat.ble 9 k then (bif Nat.ble 14 k then (bif Nat.ble 16 k then (bif Nat.ble 17 k then (bif Nat.ble 18 k then "I" else "I") else "I") else (bif Nat.ble 15 k then "I" else "I")) else (bif Nat.ble 11 k then (bif Nat.ble 12 k then (bif Nat.ble 13 k then "I" else "I") else "I") else (bif Nat.ble 10 k then "I" else "I"))) else (bif Nat.ble 4 k then (bif Nat.ble 6 k then (bif Nat.ble 7 k then (bif Nat.ble 8 k then "[J" else "[I") else "[I") else (bif Nat.ble 5 k then "[I" else "[I")) else (bif Nat.ble 2 k then (bif Nat.ble 3 k then "[I" else "[I") else (bif Nat.ble 1 k then "[Z" else "[Z"))))
def fTy (k : Nat) : FieldType := (bif Nat.ble 9 k then (bif Nat.ble 14 k then (bif Nat.ble 16 k then (bif Nat.ble 17 k then (bif Nat.ble 18 k then .int else .int) else .int) else (bif Nat.ble 15 k then .int else .int)) else (bif Nat.ble 11 k then (bif Nat.ble 12 k then (bif Nat.ble 13 k then .int else .int) else .int) else (bif Nat.ble 10 k then .int else .int))) else (bif Nat.ble 4 k then (bif Nat.ble 6 k then (bif Nat.ble 7 k then (bif Nat.ble 8 k then (.array .long) else (.array .int)) else (.array .int)) else (bif Nat.ble 5 k then (.array .int) else (.array .int))) else (bif Nat.ble 2 k then (bif Nat.ble 3 k then (.array .int) else (.array .int)) else (bif Nat.ble 1 k then (.array .boolean) else (.array .boolean)))))
def fFin (k : Nat) : Bool := (bif Nat.ble 9 k then (bif Nat.ble 14 k then (bif Nat.ble 16 k then (bif Nat.ble 17 k then (bif Nat.ble 18 k then false else false) else false) else (bif Nat.ble 15 k then false else false)) else (bif Nat.ble 11 k then (bif Nat.ble 12 k then (bif Nat.ble 13 k then false else false) else false) else (bif Nat.ble 10 k then false else false))) else (bif Nat.ble 4 k then (bif Nat.ble 6 k then (bif Nat.ble 7 k then (bif Nat.ble 8 k then false else false) else false) else (bif Nat.ble 5 k then false else false)) else (bif Nat.ble 2 k then (bif Nat.ble 3 k then false else false) else (bif Nat.ble 1 k then false else false))))
def cDef : List Value := [.null, .null, .null, .null, .null, .null, .null, .null, .null, .int 0, .int 0, .int 0, .int 0, .int 0, .int 0, .int 0, .int 0, .int 0, .int 0]
def cK : List Value := [.long (17), .long (1000003), .long (3), .int (65535)]
def pN : Nat := 34
def pTop : Nat := 270
def pK (m : Nat) : Nat := (bif Nat.ble 17 m then (bif Nat.ble 25 m then (bif Nat.ble 29 m then (bif Nat.ble 31 m then (bif Nat.ble 32 m then (bif Nat.ble 33 m then 1 else 1) else 1) else (bif Nat.ble 30 m then 1 else 1)) else (bif Nat.ble 27 m then (bif Nat.ble 28 m then 1 else 1) else (bif Nat.ble 26 m then 1 else 1))) else (bif Nat.ble 21 m then (bif Nat.ble 23 m then (bif Nat.ble 24 m then 1 else 1) else (bif Nat.ble 22 m then 1 else 1)) else (bif Nat.ble 19 m then (bif Nat.ble 20 m then 1 else 1) else (bif Nat.ble 18 m then 1 else 1)))) else (bif Nat.ble 8 m then (bif Nat.ble 12 m then (bif Nat.ble 14 m then (bif Nat.ble 15 m then (bif Nat.ble 16 m then 1 else 1) else 1) else (bif Nat.ble 13 m then 1 else 1)) else (bif Nat.ble 10 m then (bif Nat.ble 11 m then 1 else 1) else (bif Nat.ble 9 m then 1 else 1))) else (bif Nat.ble 4 m then (bif Nat.ble 6 m then (bif Nat.ble 7 m then 1 else 1) else (bif Nat.ble 5 m then 1 else 1)) else (bif Nat.ble 2 m then (bif Nat.ble 3 m then 0 else 1) else (bif Nat.ble 1 m then 1 else 0)))))
def pNm (m : Nat) : String := (bif Nat.ble 17 m then (bif Nat.ble 25 m then (bif Nat.ble 29 m then (bif Nat.ble 31 m then (bif Nat.ble 32 m then (bif Nat.ble 33 m then "hairpin" else "release") else "hasPerm") else (bif Nat.ble 30 m then "timeoutOf" else "update")) else (bif Nat.ble 27 m then (bif Nat.ble 28 m then "addPerm" else "clearPerm") else (bif Nat.ble 26 m then "openMapping" else "allocatableSlot"))) else (bif Nat.ble 21 m then (bif Nat.ble 23 m then (bif Nat.ble 24 m then "findKey" else "liveSlot") else (bif Nat.ble 22 m then "inbound" else "setRemote")) else (bif Nat.ble 19 m then (bif Nat.ble 20 m then "validProtoFlags" else "outbound") else (bif Nat.ble 18 m then "advance" else "availTime")))) else (bif Nat.ble 8 m then (bif Nat.ble 12 m then (bif Nat.ble 14 m then (bif Nat.ble 15 m then (bif Nat.ble 16 m then "permits" else "availableFrom") else "deadlineOf") else (bif Nat.ble 13 m then "stateOf" else "insidePortOf")) else (bif Nat.ble 10 m then (bif Nat.ble 11 m then "slotOf" else "liveAt") else (bif Nat.ble 9 m then "insideHostOf" else "resultExt"))) else (bif Nat.ble 4 m then (bif Nat.ble 6 m then (bif Nat.ble 7 m then "resultPort" else "resultHost") else (bif Nat.ble 5 m then "liveCount" else "now")) else (bif Nat.ble 2 m then (bif Nat.ble 3 m then "fp" else "clamp") else (bif Nat.ble 1 m then "<init>" else "law")))))
def pDs (m : Nat) : String := (bif Nat.ble 17 m then (bif Nat.ble 25 m then (bif Nat.ble 29 m then (bif Nat.ble 31 m then (bif Nat.ble 32 m then (bif Nat.ble 33 m then "(II)I" else "(II)V") else "(II)Z") else (bif Nat.ble 30 m then "(I)I" else "(IIZ)V")) else (bif Nat.ble 27 m then (bif Nat.ble 28 m then "(II)V" else "(I)V") else (bif Nat.ble 26 m then "(IIII)V" else "()I"))) else (bif Nat.ble 21 m then (bif Nat.ble 23 m then (bif Nat.ble 24 m then "(III)I" else "(II)I") else (bif Nat.ble 22 m then "(III)I" else "(II)Z")) else (bif Nat.ble 19 m then (bif Nat.ble 20 m then "(II)Z" else "(IIII)I") else (bif Nat.ble 18 m then "(I)Z" else "(I)I")))) else (bif Nat.ble 8 m then (bif Nat.ble 12 m then (bif Nat.ble 14 m then (bif Nat.ble 15 m then (bif Nat.ble 16 m then "(II)Z" else "(I)I") else "(I)I") else (bif Nat.ble 13 m then "(I)I" else "(I)I")) else (bif Nat.ble 10 m then (bif Nat.ble 11 m then "(I)I" else "(I)I") else (bif Nat.ble 9 m then "(I)I" else "()I"))) else (bif Nat.ble 4 m then (bif Nat.ble 6 m then (bif Nat.ble 7 m then "()I" else "()I") else (bif Nat.ble 5 m then "()I" else "()I")) else (bif Nat.ble 2 m then (bif Nat.ble 3 m then "(LPortTranslator;)J" else "(III)I") else (bif Nat.ble 1 m then "(IIII)V" else "([I)Z")))))
def pName (m : Nat) : MethodName := ⟨kName (pK m), pNm m, pDs m⟩
def pBytes (m : Nat) : ByteArray := (bif Nat.ble 17 m then (bif Nat.ble 25 m then (bif Nat.ble 29 m then (bif Nat.ble 31 m then (bif Nat.ble 32 m then (bif Nat.ble 33 m then prog_1_method_33_code else prog_1_method_27_code) else prog_1_method_30_code) else (bif Nat.ble 30 m then prog_1_method_31_code else prog_1_method_32_code)) else (bif Nat.ble 27 m then (bif Nat.ble 28 m then prog_1_method_29_code else prog_1_method_28_code) else (bif Nat.ble 26 m then prog_1_method_26_code else prog_1_method_25_code))) else (bif Nat.ble 21 m then (bif Nat.ble 23 m then (bif Nat.ble 24 m then prog_1_method_23_code else prog_1_method_22_code) else (bif Nat.ble 22 m then prog_1_method_4_code else prog_1_method_2_code)) else (bif Nat.ble 19 m then (bif Nat.ble 20 m then prog_1_method_19_code else prog_1_method_3_code) else (bif Nat.ble 18 m then prog_1_method_5_code else prog_1_method_24_code)))) else (bif Nat.ble 8 m then (bif Nat.ble 12 m then (bif Nat.ble 14 m then (bif Nat.ble 15 m then (bif Nat.ble 16 m then prog_1_method_16_code else prog_1_method_17_code) else prog_1_method_15_code) else (bif Nat.ble 13 m then prog_1_method_14_code else prog_1_method_13_code)) else (bif Nat.ble 10 m then (bif Nat.ble 11 m then prog_1_method_20_code else prog_1_method_21_code) else (bif Nat.ble 9 m then prog_1_method_12_code else prog_1_method_9_code))) else (bif Nat.ble 4 m then (bif Nat.ble 6 m then (bif Nat.ble 7 m then prog_1_method_8_code else prog_1_method_7_code) else (bif Nat.ble 5 m then prog_1_method_10_code else prog_1_method_6_code)) else (bif Nat.ble 2 m then (bif Nat.ble 3 m then method_2_code else prog_1_method_18_code) else (bif Nat.ble 1 m then prog_1_method_1_code else code)))))
def pMaxL (m : Nat) : Nat := (bif Nat.ble 17 m then (bif Nat.ble 25 m then (bif Nat.ble 29 m then (bif Nat.ble 31 m then (bif Nat.ble 32 m then (bif Nat.ble 33 m then 4 else 3) else 4) else (bif Nat.ble 30 m then 2 else 7)) else (bif Nat.ble 27 m then (bif Nat.ble 28 m then 4 else 4) else (bif Nat.ble 26 m then 5 else 2))) else (bif Nat.ble 21 m then (bif Nat.ble 23 m then (bif Nat.ble 24 m then 5 else 4) else (bif Nat.ble 22 m then 5 else 3)) else (bif Nat.ble 19 m then (bif Nat.ble 20 m then 3 else 6) else (bif Nat.ble 18 m then 3 else 2)))) else (bif Nat.ble 8 m then (bif Nat.ble 12 m then (bif Nat.ble 14 m then (bif Nat.ble 15 m then (bif Nat.ble 16 m then 4 else 3) else 3) else (bif Nat.ble 13 m then 3 else 3)) else (bif Nat.ble 10 m then (bif Nat.ble 11 m then 2 else 3) else (bif Nat.ble 9 m then 3 else 1))) else (bif Nat.ble 4 m then (bif Nat.ble 6 m then (bif Nat.ble 7 m then 1 else 1) else (bif Nat.ble 5 m then 3 else 1)) else (bif Nat.ble 2 m then (bif Nat.ble 3 m then 5 else 4) else (bif Nat.ble 1 m then 5 else 13)))))
def pRet (m : Nat) : Option FieldType := (bif Nat.ble 17 m then (bif Nat.ble 25 m then (bif Nat.ble 29 m then (bif Nat.ble 31 m then (bif Nat.ble 32 m then (bif Nat.ble 33 m then (some .int) else none) else (some .boolean)) else (bif Nat.ble 30 m then (some .int) else none)) else (bif Nat.ble 27 m then (bif Nat.ble 28 m then none else none) else (bif Nat.ble 26 m then none else (some .int)))) else (bif Nat.ble 21 m then (bif Nat.ble 23 m then (bif Nat.ble 24 m then (some .int) else (some .int)) else (bif Nat.ble 22 m then (some .int) else (some .boolean))) else (bif Nat.ble 19 m then (bif Nat.ble 20 m then (some .boolean) else (some .int)) else (bif Nat.ble 18 m then (some .boolean) else (some .int))))) else (bif Nat.ble 8 m then (bif Nat.ble 12 m then (bif Nat.ble 14 m then (bif Nat.ble 15 m then (bif Nat.ble 16 m then (some .boolean) else (some .int)) else (some .int)) else (bif Nat.ble 13 m then (some .int) else (some .int))) else (bif Nat.ble 10 m then (bif Nat.ble 11 m then (some .int) else (some .int)) else (bif Nat.ble 9 m then (some .int) else (some .int)))) else (bif Nat.ble 4 m then (bif Nat.ble 6 m then (bif Nat.ble 7 m then (some .int) else (some .int)) else (bif Nat.ble 5 m then (some .int) else (some .int))) else (bif Nat.ble 2 m then (bif Nat.ble 3 m then (some .long) else (some .int)) else (bif Nat.ble 1 m then none else (some .boolean))))))
def pNA (m : Nat) : Nat := (bif Nat.ble 17 m then (bif Nat.ble 25 m then (bif Nat.ble 29 m then (bif Nat.ble 31 m then (bif Nat.ble 32 m then (bif Nat.ble 33 m then 2 else 2) else 2) else (bif Nat.ble 30 m then 1 else 3)) else (bif Nat.ble 27 m then (bif Nat.ble 28 m then 2 else 1) else (bif Nat.ble 26 m then 4 else 0))) else (bif Nat.ble 21 m then (bif Nat.ble 23 m then (bif Nat.ble 24 m then 3 else 2) else (bif Nat.ble 22 m then 3 else 2)) else (bif Nat.ble 19 m then (bif Nat.ble 20 m then 2 else 4) else (bif Nat.ble 18 m then 1 else 1)))) else (bif Nat.ble 8 m then (bif Nat.ble 12 m then (bif Nat.ble 14 m then (bif Nat.ble 15 m then (bif Nat.ble 16 m then 2 else 1) else 1) else (bif Nat.ble 13 m then 1 else 1)) else (bif Nat.ble 10 m then (bif Nat.ble 11 m then 1 else 1) else (bif Nat.ble 9 m then 1 else 0))) else (bif Nat.ble 4 m then (bif Nat.ble 6 m then (bif Nat.ble 7 m then 0 else 0) else (bif Nat.ble 5 m then 0 else 0)) else (bif Nat.ble 2 m then (bif Nat.ble 3 m then 1 else 3) else (bif Nat.ble 1 m then 4 else 1)))))
def pFr (m : Nat) : Nat := (bif Nat.ble 17 m then (bif Nat.ble 25 m then (bif Nat.ble 29 m then (bif Nat.ble 31 m then (bif Nat.ble 32 m then (bif Nat.ble 33 m then 3 else 1) else 0) else (bif Nat.ble 30 m then 0 else 2)) else (bif Nat.ble 27 m then (bif Nat.ble 28 m then 0 else 0) else (bif Nat.ble 26 m then 1 else 1))) else (bif Nat.ble 21 m then (bif Nat.ble 23 m then (bif Nat.ble 24 m then 0 else 2) else (bif Nat.ble 22 m then 3 else 0)) else (bif Nat.ble 19 m then (bif Nat.ble 20 m then 0 else 4) else (bif Nat.ble 18 m then 2 else 0)))) else (bif Nat.ble 8 m then (bif Nat.ble 12 m then (bif Nat.ble 14 m then (bif Nat.ble 15 m then (bif Nat.ble 16 m then 2 else 1) else 2) else (bif Nat.ble 13 m then 2 else 2)) else (bif Nat.ble 10 m then (bif Nat.ble 11 m then 0 else 1) else (bif Nat.ble 9 m then 2 else 0))) else (bif Nat.ble 4 m then (bif Nat.ble 6 m then (bif Nat.ble 7 m then 0 else 0) else (bif Nat.ble 5 m then 0 else 0)) else (bif Nat.ble 2 m then (bif Nat.ble 3 m then 3 else 0) else (bif Nat.ble 1 m then 1 else 5)))))
def pLo (m : Nat) : Nat := (bif Nat.ble 17 m then (bif Nat.ble 25 m then (bif Nat.ble 29 m then (bif Nat.ble 31 m then (bif Nat.ble 32 m then (bif Nat.ble 33 m then 47 else 15) else 0) else (bif Nat.ble 30 m then 0 else 29)) else (bif Nat.ble 27 m then (bif Nat.ble 28 m then 0 else 0) else (bif Nat.ble 26 m then 15 else 13))) else (bif Nat.ble 21 m then (bif Nat.ble 23 m then (bif Nat.ble 24 m then 0 else 27) else (bif Nat.ble 22 m then 47 else 0)) else (bif Nat.ble 19 m then (bif Nat.ble 20 m then 0 else 62) else (bif Nat.ble 18 m then 29 else 0)))) else (bif Nat.ble 8 m then (bif Nat.ble 12 m then (bif Nat.ble 14 m then (bif Nat.ble 15 m then (bif Nat.ble 16 m then 27 else 13) else 27) else (bif Nat.ble 13 m then 27 else 27)) else (bif Nat.ble 10 m then (bif Nat.ble 11 m then 0 else 13) else (bif Nat.ble 9 m then 27 else 0))) else (bif Nat.ble 4 m then (bif Nat.ble 6 m then (bif Nat.ble 7 m then 0 else 0) else (bif Nat.ble 5 m then 0 else 0)) else (bif Nat.ble 2 m then (bif Nat.ble 3 m then 44 else 0) else (bif Nat.ble 1 m then 16 else 79)))))
def cd0 (pc : Nat) : Option (Instr × Nat) := (bif Nat.ble 123 pc then (bif Nat.ble 195 pc then (bif Nat.ble 231 pc then (bif Nat.ble 251 pc then (bif Nat.ble 261 pc then (bif Nat.ble 265 pc then (bif Nat.ble 268 pc then (bif Nat.ble 269 pc then (bif Nat.beq pc 269 then some (.ireturn, 0) else none) else (bif Nat.beq pc 268 then some (.iconst 1, 0) else none)) else (bif Nat.beq pc 265 then some (.goto (-249), 16) else none)) else (bif Nat.ble 262 pc then (bif Nat.beq pc 262 then some (.iinc 2 4, 0) else none) else (bif Nat.beq pc 261 then some (.ireturn, 0) else none))) else (bif Nat.ble 256 pc then (bif Nat.ble 257 pc then (bif Nat.ble 260 pc then (bif Nat.beq pc 260 then some (.iconst 0, 0) else none) else (bif Nat.beq pc 257 then some (.ifCond .eq 5, 262) else none)) else (bif Nat.beq pc 256 then some (.lcmp, 0) else none)) else (bif Nat.ble 254 pc then (bif Nat.beq pc 254 then some (.lload 10, 0) else none) else (bif Nat.beq pc 251 then some (.invokestatic 54, 3) else none)))) else (bif Nat.ble 242 pc then (bif Nat.ble 245 pc then (bif Nat.ble 247 pc then (bif Nat.ble 250 pc then (bif Nat.beq pc 250 then some (.aload_n 1, 0) else none) else (bif Nat.beq pc 247 then some (.ifCond .eq 15, 262) else none)) else (bif Nat.beq pc 245 then some (.iload 12, 0) else none)) else (bif Nat.ble 243 pc then (bif Nat.beq pc 243 then some (.istore 12, 0) else none) else (bif Nat.beq pc 242 then some (.iconst 0, 0) else none))) else (bif Nat.ble 235 pc then (bif Nat.ble 238 pc then (bif Nat.ble 239 pc then (bif Nat.beq pc 239 then some (.goto 4, 243) else none) else (bif Nat.beq pc 238 then some (.iconst 1, 0) else none)) else (bif Nat.beq pc 235 then some (.ifCond .ne 7, 242) else none)) else (bif Nat.ble 232 pc then (bif Nat.beq pc 232 then some (.invokevirtual 71, 18) else none) else (bif Nat.beq pc 231 then some (.isub, 0) else none))))) else (bif Nat.ble 214 pc then (bif Nat.ble 224 pc then (bif Nat.ble 227 pc then (bif Nat.ble 229 pc then (bif Nat.ble 230 pc then (bif Nat.beq pc 230 then some (.iconst 4, 0) else none) else (bif Nat.beq pc 229 then some (.iand, 0) else none)) else (bif Nat.beq pc 227 then some (.bipush 63, 0) else none)) else (bif Nat.ble 225 pc then (bif Nat.beq pc 225 then some (.iload 4, 0) else none) else (bif Nat.beq pc 224 then some (.aload_n 1, 0) else none))) else (bif Nat.ble 218 pc then (bif Nat.ble 219 pc then (bif Nat.ble 221 pc then (bif Nat.beq pc 221 then some (.goto 24, 245) else none) else (bif Nat.beq pc 219 then some (.istore 12, 0) else none)) else (bif Nat.beq pc 218 then some (.iconst 0, 0) else none)) else (bif Nat.ble 215 pc then (bif Nat.beq pc 215 then some (.goto 4, 219) else none) else (bif Nat.beq pc 214 then some (.iconst 1, 0) else none)))) else (bif Nat.ble 203 pc then (bif Nat.ble 206 pc then (bif Nat.ble 208 pc then (bif Nat.ble 211 pc then (bif Nat.beq pc 211 then some (.ifCond .ge 7, 218) else none) else (bif Nat.beq pc 208 then some (.invokevirtual 67, 22) else none)) else (bif Nat.beq pc 206 then some (.iload 9, 0) else none)) else (bif Nat.ble 204 pc then (bif Nat.beq pc 204 then some (.iload 8, 0) else none) else (bif Nat.beq pc 203 then some (.iadd, 0) else none))) else (bif Nat.ble 200 pc then (bif Nat.ble 202 pc then (bif Nat.beq pc 202 then some (.iand, 0) else none) else (bif Nat.beq pc 200 then some (.bipush 7, 0) else none)) else (bif Nat.ble 198 pc then (bif Nat.beq pc 198 then some (.iload 4, 0) else none) else (bif Nat.beq pc 195 then some (.sipush 4999, 0) else none)))))) else (bif Nat.ble 158 pc then (bif Nat.ble 176 pc then (bif Nat.ble 186 pc then (bif Nat.ble 190 pc then (bif Nat.ble 191 pc then (bif Nat.ble 194 pc then (bif Nat.beq pc 194 then some (.aload_n 1, 0) else none) else (bif Nat.beq pc 191 then some (.if_icmp .ne 33, 224) else none)) else (bif Nat.beq pc 190 then some (.iconst 2, 0) else none)) else (bif Nat.ble 189 pc then (bif Nat.beq pc 189 then some (.iload_n 3, 0) else none) else (bif Nat.beq pc 186 then some (.goto 59, 245) else none))) else (bif Nat.ble 180 pc then (bif Nat.ble 183 pc then (bif Nat.ble 184 pc then (bif Nat.beq pc 184 then some (.istore 12, 0) else none) else (bif Nat.beq pc 183 then some (.iconst 0, 0) else none)) else (bif Nat.beq pc 180 then some (.goto 4, 184) else none)) else (bif Nat.ble 179 pc then (bif Nat.beq pc 179 then some (.iconst 1, 0) else none) else (bif Nat.beq pc 176 then some (.ifCond .ge 7, 183) else none)))) else (bif Nat.ble 167 pc then (bif Nat.ble 169 pc then (bif Nat.ble 171 pc then (bif Nat.ble 173 pc then (bif Nat.beq pc 173 then some (.invokevirtual 63, 19) else none) else (bif Nat.beq pc 171 then some (.iload 9, 0) else none)) else (bif Nat.beq pc 169 then some (.iload 8, 0) else none)) else (bif Nat.ble 168 pc then (bif Nat.beq pc 168 then some (.iadd, 0) else none) else (bif Nat.beq pc 167 then some (.iand, 0) else none))) else (bif Nat.ble 161 pc then (bif Nat.ble 164 pc then (bif Nat.ble 166 pc then (bif Nat.beq pc 166 then some (.iconst 3, 0) else none) else (bif Nat.beq pc 164 then some (.iload 5, 0) else none)) else (bif Nat.beq pc 161 then some (.sipush 1000, 0) else none)) else (bif Nat.ble 160 pc then (bif Nat.beq pc 160 then some (.iand, 0) else none) else (bif Nat.beq pc 158 then some (.bipush 7, 0) else none))))) else (bif Nat.ble 140 pc then (bif Nat.ble 150 pc then (bif Nat.ble 152 pc then (bif Nat.ble 155 pc then (bif Nat.ble 156 pc then (bif Nat.beq pc 156 then some (.iload 4, 0) else none) else (bif Nat.beq pc 155 then some (.aload_n 1, 0) else none)) else (bif Nat.beq pc 152 then some (.if_icmp .ne 37, 189) else none)) else (bif Nat.ble 151 pc then (bif Nat.beq pc 151 then some (.iconst 1, 0) else none) else (bif Nat.beq pc 150 then some (.iload_n 3, 0) else none))) else (bif Nat.ble 144 pc then (bif Nat.ble 145 pc then (bif Nat.ble 147 pc then (bif Nat.beq pc 147 then some (.goto 98, 245) else none) else (bif Nat.beq pc 145 then some (.istore 12, 0) else none)) else (bif Nat.beq pc 144 then some (.iconst 0, 0) else none)) else (bif Nat.ble 141 pc then (bif Nat.beq pc 141 then some (.goto 4, 145) else none) else (bif Nat.beq pc 140 then some (.iconst 1, 0) else none)))) else (bif Nat.ble 130 pc then (bif Nat.ble 133 pc then (bif Nat.ble 134 pc then (bif Nat.ble 137 pc then (bif Nat.beq pc 137 then some (.ifCond .ne 7, 144) else none) else (bif Nat.beq pc 134 then some (.invokevirtual 60, 21) else none)) else (bif Nat.beq pc 133 then some (.iadd, 0) else none)) else (bif Nat.ble 132 pc then (bif Nat.beq pc 132 then some (.iand, 0) else none) else (bif Nat.beq pc 130 then some (.bipush 7, 0) else none))) else (bif Nat.ble 125 pc then (bif Nat.ble 128 pc then (bif Nat.beq pc 128 then some (.iload 5, 0) else none) else (bif Nat.beq pc 125 then some (.sipush 4998, 0) else none)) else (bif Nat.ble 124 pc then (bif Nat.beq pc 124 then some (.iadd, 0) else none) else (bif Nat.beq pc 123 then some (.iand, 0) else none))))))) else (bif Nat.ble 48 pc then (bif Nat.ble 83 pc then (bif Nat.ble 103 pc then (bif Nat.ble 112 pc then (bif Nat.ble 116 pc then (bif Nat.ble 119 pc then (bif Nat.ble 121 pc then (bif Nat.beq pc 121 then some (.bipush 7, 0) else none) else (bif Nat.beq pc 119 then some (.iload 4, 0) else none)) else (bif Nat.beq pc 116 then some (.sipush 250, 0) else none)) else (bif Nat.ble 115 pc then (bif Nat.beq pc 115 then some (.aload_n 1, 0) else none) else (bif Nat.beq pc 112 then some (.ifCond .ne 38, 150) else none))) else (bif Nat.ble 106 pc then (bif Nat.ble 109 pc then (bif Nat.ble 111 pc then (bif Nat.beq pc 111 then some (.iload_n 3, 0) else none) else (bif Nat.beq pc 109 then some (.lstore 10, 0) else none)) else (bif Nat.beq pc 106 then some (.invokestatic 54, 3) else none)) else (bif Nat.ble 105 pc then (bif Nat.beq pc 105 then some (.aload_n 1, 0) else none) else (bif Nat.beq pc 103 then some (.istore 9, 0) else none)))) else (bif Nat.ble 94 pc then (bif Nat.ble 98 pc then (bif Nat.ble 99 pc then (bif Nat.ble 102 pc then (bif Nat.beq pc 102 then some (.iconst 0, 0) else none) else (bif Nat.beq pc 99 then some (.goto 4, 103) else none)) else (bif Nat.beq pc 98 then some (.iand, 0) else none)) else (bif Nat.ble 96 pc then (bif Nat.beq pc 96 then some (.bipush 15, 0) else none) else (bif Nat.beq pc 94 then some (.iload 6, 0) else none))) else (bif Nat.ble 87 pc then (bif Nat.ble 89 pc then (bif Nat.ble 91 pc then (bif Nat.beq pc 91 then some (.if_icmp .ne 11, 102) else none) else (bif Nat.beq pc 89 then some (.bipush 6, 0) else none)) else (bif Nat.beq pc 87 then some (.iload 8, 0) else none)) else (bif Nat.ble 85 pc then (bif Nat.beq pc 85 then some (.istore 8, 0) else none) else (bif Nat.beq pc 83 then some (.bipush 6, 0) else none))))) else (bif Nat.ble 63 pc then (bif Nat.ble 73 pc then (bif Nat.ble 75 pc then (bif Nat.ble 78 pc then (bif Nat.ble 80 pc then (bif Nat.beq pc 80 then some (.goto 5, 85) else none) else (bif Nat.beq pc 78 then some (.bipush 17, 0) else none)) else (bif Nat.beq pc 75 then some (.if_icmp .ne 8, 83) else none)) else (bif Nat.ble 74 pc then (bif Nat.beq pc 74 then some (.iconst 1, 0) else none) else (bif Nat.beq pc 73 then some (.iand, 0) else none))) else (bif Nat.ble 67 pc then (bif Nat.ble 70 pc then (bif Nat.ble 72 pc then (bif Nat.beq pc 72 then some (.iconst 1, 0) else none) else (bif Nat.beq pc 70 then some (.iload 7, 0) else none)) else (bif Nat.beq pc 67 then some (.goto 18, 85) else none)) else (bif Nat.ble 66 pc then (bif Nat.beq pc 66 then some (.iconst 5, 0) else none) else (bif Nat.beq pc 63 then some (.ifCond .ne 7, 70) else none)))) else (bif Nat.ble 55 pc then (bif Nat.ble 58 pc then (bif Nat.ble 59 pc then (bif Nat.ble 61 pc then (bif Nat.beq pc 61 then some (.iload 7, 0) else none) else (bif Nat.beq pc 59 then some (.istore 7, 0) else none)) else (bif Nat.beq pc 58 then some (.iand, 0) else none)) else (bif Nat.ble 56 pc then (bif Nat.beq pc 56 then some (.bipush 7, 0) else none) else (bif Nat.beq pc 55 then some (.iushr, 0) else none))) else (bif Nat.ble 51 pc then (bif Nat.ble 53 pc then (bif Nat.beq pc 53 then some (.bipush 8, 0) else none) else (bif Nat.beq pc 51 then some (.iload 5, 0) else none)) else (bif Nat.ble 49 pc then (bif Nat.beq pc 49 then some (.istore 6, 0) else none) else (bif Nat.beq pc 48 then some (.iaload, 0) else none)))))) else (bif Nat.ble 27 pc then (bif Nat.ble 37 pc then (bif Nat.ble 42 pc then (bif Nat.ble 45 pc then (bif Nat.ble 46 pc then (bif Nat.ble 47 pc then (bif Nat.beq pc 47 then some (.iadd, 0) else none) else (bif Nat.beq pc 46 then some (.iconst 3, 0) else none)) else (bif Nat.beq pc 45 then some (.iload_n 2, 0) else none)) else (bif Nat.ble 44 pc then (bif Nat.beq pc 44 then some (.aload_n 0, 0) else none) else (bif Nat.beq pc 42 then some (.istore 5, 0) else none))) else (bif Nat.ble 39 pc then (bif Nat.ble 40 pc then (bif Nat.ble 41 pc then (bif Nat.beq pc 41 then some (.iaload, 0) else none) else (bif Nat.beq pc 40 then some (.iadd, 0) else none)) else (bif Nat.beq pc 39 then some (.iconst 2, 0) else none)) else (bif Nat.ble 38 pc then (bif Nat.beq pc 38 then some (.iload_n 2, 0) else none) else (bif Nat.beq pc 37 then some (.aload_n 0, 0) else none)))) else (bif Nat.ble 31 pc then (bif Nat.ble 33 pc then (bif Nat.ble 34 pc then (bif Nat.ble 35 pc then (bif Nat.beq pc 35 then some (.istore 4, 0) else none) else (bif Nat.beq pc 34 then some (.iaload, 0) else none)) else (bif Nat.beq pc 33 then some (.iadd, 0) else none)) else (bif Nat.ble 32 pc then (bif Nat.beq pc 32 then some (.iconst 1, 0) else none) else (bif Nat.beq pc 31 then some (.iload_n 2, 0) else none))) else (bif Nat.ble 29 pc then (bif Nat.ble 30 pc then (bif Nat.beq pc 30 then some (.aload_n 0, 0) else none) else (bif Nat.beq pc 29 then some (.istore_n 3, 0) else none)) else (bif Nat.ble 28 pc then (bif Nat.beq pc 28 then some (.iand, 0) else none) else (bif Nat.beq pc 27 then some (.iconst 3, 0) else none))))) else (bif Nat.ble 15 pc then (bif Nat.ble 20 pc then (bif Nat.ble 24 pc then (bif Nat.ble 25 pc then (bif Nat.ble 26 pc then (bif Nat.beq pc 26 then some (.iaload, 0) else none) else (bif Nat.beq pc 25 then some (.iload_n 2, 0) else none)) else (bif Nat.beq pc 24 then some (.aload_n 0, 0) else none)) else (bif Nat.ble 21 pc then (bif Nat.beq pc 21 then some (.if_icmp .ge 247, 268) else none) else (bif Nat.beq pc 20 then some (.arraylength, 0) else none))) else (bif Nat.ble 17 pc then (bif Nat.ble 18 pc then (bif Nat.ble 19 pc then (bif Nat.beq pc 19 then some (.aload_n 0, 0) else none) else (bif Nat.beq pc 18 then some (.iadd, 0) else none)) else (bif Nat.beq pc 17 then some (.iconst 3, 0) else none)) else (bif Nat.ble 16 pc then (bif Nat.beq pc 16 then some (.iload_n 2, 0) else none) else (bif Nat.beq pc 15 then some (.istore_n 2, 0) else none)))) else (bif Nat.ble 7 pc then (bif Nat.ble 10 pc then (bif Nat.ble 13 pc then (bif Nat.ble 14 pc then (bif Nat.beq pc 14 then some (.iconst 0, 0) else none) else (bif Nat.beq pc 13 then some (.astore_n 1, 0) else none)) else (bif Nat.beq pc 10 then some (.invokespecial 51, 1) else none)) else (bif Nat.ble 9 pc then (bif Nat.beq pc 9 then some (.iconst 5, 0) else none) else (bif Nat.beq pc 7 then some (.bipush 100, 0) else none))) else (bif Nat.ble 4 pc then (bif Nat.ble 5 pc then (bif Nat.beq pc 5 then some (.bipush 50, 0) else none) else (bif Nat.beq pc 4 then some (.iconst 4, 0) else none)) else (bif Nat.ble 3 pc then (bif Nat.beq pc 3 then some (.dup, 0) else none) else (bif Nat.beq pc 0 then some (.new 12, 0) else none))))))))
def cd1 (pc : Nat) : Option (Instr × Nat) := (bif Nat.ble 80 pc then (bif Nat.ble 119 pc then (bif Nat.ble 140 pc then (bif Nat.ble 149 pc then (bif Nat.ble 154 pc then (bif Nat.ble 155 pc then (bif Nat.ble 158 pc then (bif Nat.beq pc 158 then some (.return_, 0) else none) else (bif Nat.beq pc 155 then some (.putfield 71, 18) else none)) else (bif Nat.beq pc 154 then some (.iconst (-1), 0) else none)) else (bif Nat.ble 150 pc then (bif Nat.ble 153 pc then (bif Nat.beq pc 153 then some (.aload_n 0, 0) else none) else (bif Nat.beq pc 150 then some (.putfield 68, 17) else none)) else (bif Nat.beq pc 149 then some (.iconst (-1), 0) else none))) else (bif Nat.ble 144 pc then (bif Nat.ble 145 pc then (bif Nat.ble 148 pc then (bif Nat.beq pc 148 then some (.aload_n 0, 0) else none) else (bif Nat.beq pc 145 then some (.putfield 65, 16) else none)) else (bif Nat.beq pc 144 then some (.iconst (-1), 0) else none)) else (bif Nat.ble 143 pc then (bif Nat.beq pc 143 then some (.aload_n 0, 0) else none) else (bif Nat.beq pc 140 then some (.putfield 62, 15) else none)))) else (bif Nat.ble 130 pc then (bif Nat.ble 135 pc then (bif Nat.ble 138 pc then (bif Nat.ble 139 pc then (bif Nat.beq pc 139 then some (.iconst 0, 0) else none) else (bif Nat.beq pc 138 then some (.aload_n 0, 0) else none)) else (bif Nat.beq pc 135 then some (.putfield 59, 14) else none)) else (bif Nat.ble 133 pc then (bif Nat.ble 134 pc then (bif Nat.beq pc 134 then some (.iconst 0, 0) else none) else (bif Nat.beq pc 133 then some (.aload_n 0, 0) else none)) else (bif Nat.beq pc 130 then some (.putfield 56, 13) else none))) else (bif Nat.ble 125 pc then (bif Nat.ble 128 pc then (bif Nat.ble 129 pc then (bif Nat.beq pc 129 then some (.iconst 0, 0) else none) else (bif Nat.beq pc 128 then some (.aload_n 0, 0) else none)) else (bif Nat.beq pc 125 then some (.putfield 53, 12) else none)) else (bif Nat.ble 122 pc then (bif Nat.beq pc 122 then some (.invokevirtual 39, 2) else none) else (bif Nat.beq pc 119 then some (.sipush 1000, 0) else none))))) else (bif Nat.ble 101 pc then (bif Nat.ble 108 pc then (bif Nat.ble 115 pc then (bif Nat.ble 116 pc then (bif Nat.ble 118 pc then (bif Nat.beq pc 118 then some (.iconst 0, 0) else none) else (bif Nat.beq pc 116 then some (.iload 4, 0) else none)) else (bif Nat.beq pc 115 then some (.aload_n 0, 0) else none)) else (bif Nat.ble 111 pc then (bif Nat.ble 114 pc then (bif Nat.beq pc 114 then some (.aload_n 0, 0) else none) else (bif Nat.beq pc 111 then some (.putfield 50, 11) else none)) else (bif Nat.beq pc 108 then some (.invokevirtual 39, 2) else none))) else (bif Nat.ble 103 pc then (bif Nat.ble 104 pc then (bif Nat.ble 105 pc then (bif Nat.beq pc 105 then some (.sipush 1000, 0) else none) else (bif Nat.beq pc 104 then some (.iconst 1, 0) else none)) else (bif Nat.beq pc 103 then some (.iload_n 3, 0) else none)) else (bif Nat.ble 102 pc then (bif Nat.beq pc 102 then some (.aload_n 0, 0) else none) else (bif Nat.beq pc 101 then some (.aload_n 0, 0) else none)))) else (bif Nat.ble 90 pc then (bif Nat.ble 92 pc then (bif Nat.ble 95 pc then (bif Nat.ble 98 pc then (bif Nat.beq pc 98 then some (.putfield 47, 10) else none) else (bif Nat.beq pc 95 then some (.invokevirtual 39, 2) else none)) else (bif Nat.beq pc 92 then some (.sipush 1000, 0) else none)) else (bif Nat.ble 91 pc then (bif Nat.beq pc 91 then some (.iconst 1, 0) else none) else (bif Nat.beq pc 90 then some (.iload_n 2, 0) else none))) else (bif Nat.ble 85 pc then (bif Nat.ble 88 pc then (bif Nat.ble 89 pc then (bif Nat.beq pc 89 then some (.aload_n 0, 0) else none) else (bif Nat.beq pc 88 then some (.aload_n 0, 0) else none)) else (bif Nat.beq pc 85 then some (.putfield 43, 9) else none)) else (bif Nat.ble 82 pc then (bif Nat.beq pc 82 then some (.invokevirtual 39, 2) else none) else (bif Nat.beq pc 80 then some (.bipush 16, 0) else none)))))) else (bif Nat.ble 41 pc then (bif Nat.ble 61 pc then (bif Nat.ble 71 pc then (bif Nat.ble 77 pc then (bif Nat.ble 78 pc then (bif Nat.ble 79 pc then (bif Nat.beq pc 79 then some (.iconst 2, 0) else none) else (bif Nat.beq pc 78 then some (.iload_n 1, 0) else none)) else (bif Nat.beq pc 77 then some (.aload_n 0, 0) else none)) else (bif Nat.ble 73 pc then (bif Nat.ble 76 pc then (bif Nat.beq pc 76 then some (.aload_n 0, 0) else none) else (bif Nat.beq pc 73 then some (.putfield 35, 8) else none)) else (bif Nat.beq pc 71 then some (.newarray .long, 0) else none))) else (bif Nat.ble 65 pc then (bif Nat.ble 68 pc then (bif Nat.ble 69 pc then (bif Nat.beq pc 69 then some (.bipush 64, 0) else none) else (bif Nat.beq pc 68 then some (.aload_n 0, 0) else none)) else (bif Nat.beq pc 65 then some (.putfield 32, 7) else none)) else (bif Nat.ble 63 pc then (bif Nat.beq pc 63 then some (.newarray .int, 0) else none) else (bif Nat.beq pc 61 then some (.bipush 16, 0) else none)))) else (bif Nat.ble 52 pc then (bif Nat.ble 55 pc then (bif Nat.ble 57 pc then (bif Nat.ble 60 pc then (bif Nat.beq pc 60 then some (.aload_n 0, 0) else none) else (bif Nat.beq pc 57 then some (.putfield 29, 6) else none)) else (bif Nat.beq pc 55 then some (.newarray .int, 0) else none)) else (bif Nat.ble 53 pc then (bif Nat.beq pc 53 then some (.bipush 16, 0) else none) else (bif Nat.beq pc 52 then some (.aload_n 0, 0) else none))) else (bif Nat.ble 45 pc then (bif Nat.ble 47 pc then (bif Nat.ble 49 pc then (bif Nat.beq pc 49 then some (.putfield 26, 5) else none) else (bif Nat.beq pc 47 then some (.newarray .int, 0) else none)) else (bif Nat.beq pc 45 then some (.bipush 16, 0) else none)) else (bif Nat.ble 44 pc then (bif Nat.beq pc 44 then some (.aload_n 0, 0) else none) else (bif Nat.beq pc 41 then some (.putfield 23, 4) else none))))) else (bif Nat.ble 20 pc then (bif Nat.ble 29 pc then (bif Nat.ble 36 pc then (bif Nat.ble 37 pc then (bif Nat.ble 39 pc then (bif Nat.beq pc 39 then some (.newarray .int, 0) else none) else (bif Nat.beq pc 37 then some (.bipush 16, 0) else none)) else (bif Nat.beq pc 36 then some (.aload_n 0, 0) else none)) else (bif Nat.ble 31 pc then (bif Nat.ble 33 pc then (bif Nat.beq pc 33 then some (.putfield 20, 3) else none) else (bif Nat.beq pc 31 then some (.newarray .int, 0) else none)) else (bif Nat.beq pc 29 then some (.bipush 16, 0) else none))) else (bif Nat.ble 23 pc then (bif Nat.ble 25 pc then (bif Nat.ble 28 pc then (bif Nat.beq pc 28 then some (.aload_n 0, 0) else none) else (bif Nat.beq pc 25 then some (.putfield 16, 2) else none)) else (bif Nat.beq pc 23 then some (.newarray .int, 0) else none)) else (bif Nat.ble 21 pc then (bif Nat.beq pc 21 then some (.bipush 16, 0) else none) else (bif Nat.beq pc 20 then some (.aload_n 0, 0) else none)))) else (bif Nat.ble 9 pc then (bif Nat.ble 13 pc then (bif Nat.ble 15 pc then (bif Nat.ble 17 pc then (bif Nat.beq pc 17 then some (.putfield 13, 1) else none) else (bif Nat.beq pc 15 then some (.newarray .boolean, 0) else none)) else (bif Nat.beq pc 13 then some (.bipush 16, 0) else none)) else (bif Nat.ble 12 pc then (bif Nat.beq pc 12 then some (.aload_n 0, 0) else none) else (bif Nat.beq pc 9 then some (.putfield 7, 0) else none))) else (bif Nat.ble 4 pc then (bif Nat.ble 5 pc then (bif Nat.ble 7 pc then (bif Nat.beq pc 7 then some (.newarray .boolean, 0) else none) else (bif Nat.beq pc 5 then some (.bipush 16, 0) else none)) else (bif Nat.beq pc 4 then some (.aload_n 0, 0) else none)) else (bif Nat.ble 1 pc then (bif Nat.beq pc 1 then some (.invokespecial 1, 0) else none) else (bif Nat.beq pc 0 then some (.aload_n 0, 0) else none)))))))
def cd2 (pc : Nat) : Option (Instr × Nat) := (bif Nat.ble 8 pc then (bif Nat.ble 13 pc then (bif Nat.ble 14 pc then (bif Nat.ble 15 pc then (bif Nat.beq pc 15 then some (.ireturn, 0) else none) else (bif Nat.beq pc 14 then some (.iload_n 1, 0) else none)) else (bif Nat.beq pc 13 then some (.ireturn, 0) else none)) else (bif Nat.ble 9 pc then (bif Nat.ble 12 pc then (bif Nat.beq pc 12 then some (.iload_n 3, 0) else none) else (bif Nat.beq pc 9 then some (.if_icmp .le 5, 14) else none)) else (bif Nat.beq pc 8 then some (.iload_n 3, 0) else none))) else (bif Nat.ble 5 pc then (bif Nat.ble 6 pc then (bif Nat.ble 7 pc then (bif Nat.beq pc 7 then some (.iload_n 1, 0) else none) else (bif Nat.beq pc 6 then some (.ireturn, 0) else none)) else (bif Nat.beq pc 5 then some (.iload_n 2, 0) else none)) else (bif Nat.ble 1 pc then (bif Nat.ble 2 pc then (bif Nat.beq pc 2 then some (.if_icmp .ge 5, 7) else none) else (bif Nat.beq pc 1 then some (.iload_n 2, 0) else none)) else (bif Nat.beq pc 0 then some (.iload_n 1, 0) else none))))
def cd3 (pc : Nat) : Option (Instr × Nat) := (bif Nat.ble 92 pc then (bif Nat.ble 133 pc then (bif Nat.ble 160 pc then (bif Nat.ble 174 pc then (bif Nat.ble 182 pc then (bif Nat.ble 188 pc then (bif Nat.ble 189 pc then (bif Nat.beq pc 189 then some (.lreturn, 0) else none) else (bif Nat.beq pc 188 then some (.lload_n 1, 0) else none)) else (bif Nat.ble 185 pc then (bif Nat.beq pc 185 then some (.goto (-117), 68) else none) else (bif Nat.beq pc 182 then some (.iinc 3 1, 0) else none))) else (bif Nat.ble 176 pc then (bif Nat.ble 179 pc then (bif Nat.beq pc 179 then some (.goto (-34), 145) else none) else (bif Nat.beq pc 176 then some (.iinc 4 1, 0) else none)) else (bif Nat.ble 175 pc then (bif Nat.beq pc 175 then some (.lstore_n 1, 0) else none) else (bif Nat.beq pc 174 then some (.ladd, 0) else none)))) else (bif Nat.ble 168 pc then (bif Nat.ble 172 pc then (bif Nat.ble 173 pc then (bif Nat.beq pc 173 then some (.i2l, 0) else none) else (bif Nat.beq pc 172 then some (.iconst 0, 0) else none)) else (bif Nat.ble 169 pc then (bif Nat.beq pc 169 then some (.goto 4, 173) else none) else (bif Nat.beq pc 168 then some (.iconst 1, 0) else none))) else (bif Nat.ble 162 pc then (bif Nat.ble 165 pc then (bif Nat.beq pc 165 then some (.ifCond .eq 7, 172) else none) else (bif Nat.beq pc 162 then some (.invokevirtual 47, 16) else none)) else (bif Nat.beq pc 160 then some (.iload 4, 0) else none)))) else (bif Nat.ble 145 pc then (bif Nat.ble 154 pc then (bif Nat.ble 158 pc then (bif Nat.ble 159 pc then (bif Nat.beq pc 159 then some (.iload_n 3, 0) else none) else (bif Nat.beq pc 158 then some (.aload_n 0, 0) else none)) else (bif Nat.ble 157 pc then (bif Nat.beq pc 157 then some (.lmul, 0) else none) else (bif Nat.beq pc 154 then some (.ldc2_w 45, 2) else none))) else (bif Nat.ble 150 pc then (bif Nat.ble 153 pc then (bif Nat.beq pc 153 then some (.lload_n 1, 0) else none) else (bif Nat.beq pc 150 then some (.if_icmp .gt 32, 182) else none)) else (bif Nat.ble 147 pc then (bif Nat.beq pc 147 then some (.sipush 255, 0) else none) else (bif Nat.beq pc 145 then some (.iload 4, 0) else none)))) else (bif Nat.ble 138 pc then (bif Nat.ble 140 pc then (bif Nat.ble 143 pc then (bif Nat.beq pc 143 then some (.istore 4, 0) else none) else (bif Nat.beq pc 140 then some (.sipush 250, 0) else none)) else (bif Nat.ble 139 pc then (bif Nat.beq pc 139 then some (.lstore_n 1, 0) else none) else (bif Nat.beq pc 138 then some (.ladd, 0) else none))) else (bif Nat.ble 134 pc then (bif Nat.ble 137 pc then (bif Nat.beq pc 137 then some (.i2l, 0) else none) else (bif Nat.beq pc 134 then some (.invokevirtual 42, 15) else none)) else (bif Nat.beq pc 133 then some (.iload_n 3, 0) else none))))) else (bif Nat.ble 112 pc then (bif Nat.ble 121 pc then (bif Nat.ble 127 pc then (bif Nat.ble 131 pc then (bif Nat.ble 132 pc then (bif Nat.beq pc 132 then some (.aload_n 0, 0) else none) else (bif Nat.beq pc 131 then some (.lmul, 0) else none)) else (bif Nat.ble 128 pc then (bif Nat.beq pc 128 then some (.ldc2_w 9, 1) else none) else (bif Nat.beq pc 127 then some (.lload_n 1, 0) else none))) else (bif Nat.ble 125 pc then (bif Nat.ble 126 pc then (bif Nat.beq pc 126 then some (.lstore_n 1, 0) else none) else (bif Nat.beq pc 125 then some (.ladd, 0) else none)) else (bif Nat.ble 124 pc then (bif Nat.beq pc 124 then some (.i2l, 0) else none) else (bif Nat.beq pc 121 then some (.invokevirtual 39, 14) else none)))) else (bif Nat.ble 115 pc then (bif Nat.ble 119 pc then (bif Nat.ble 120 pc then (bif Nat.beq pc 120 then some (.iload_n 3, 0) else none) else (bif Nat.beq pc 119 then some (.aload_n 0, 0) else none)) else (bif Nat.ble 118 pc then (bif Nat.beq pc 118 then some (.lmul, 0) else none) else (bif Nat.beq pc 115 then some (.ldc2_w 9, 1) else none))) else (bif Nat.ble 113 pc then (bif Nat.ble 114 pc then (bif Nat.beq pc 114 then some (.lload_n 1, 0) else none) else (bif Nat.beq pc 113 then some (.lstore_n 1, 0) else none)) else (bif Nat.beq pc 112 then some (.ladd, 0) else none)))) else (bif Nat.ble 101 pc then (bif Nat.ble 106 pc then (bif Nat.ble 108 pc then (bif Nat.ble 111 pc then (bif Nat.beq pc 111 then some (.i2l, 0) else none) else (bif Nat.beq pc 108 then some (.invokevirtual 36, 13) else none)) else (bif Nat.ble 107 pc then (bif Nat.beq pc 107 then some (.iload_n 3, 0) else none) else (bif Nat.beq pc 106 then some (.aload_n 0, 0) else none))) else (bif Nat.ble 102 pc then (bif Nat.ble 105 pc then (bif Nat.beq pc 105 then some (.lmul, 0) else none) else (bif Nat.beq pc 102 then some (.ldc2_w 9, 1) else none)) else (bif Nat.beq pc 101 then some (.lload_n 1, 0) else none))) else (bif Nat.ble 95 pc then (bif Nat.ble 99 pc then (bif Nat.ble 100 pc then (bif Nat.beq pc 100 then some (.lstore_n 1, 0) else none) else (bif Nat.beq pc 99 then some (.ladd, 0) else none)) else (bif Nat.ble 98 pc then (bif Nat.beq pc 98 then some (.i2l, 0) else none) else (bif Nat.beq pc 95 then some (.invokevirtual 33, 12) else none))) else (bif Nat.ble 93 pc then (bif Nat.ble 94 pc then (bif Nat.beq pc 94 then some (.iload_n 3, 0) else none) else (bif Nat.beq pc 93 then some (.aload_n 0, 0) else none)) else (bif Nat.beq pc 92 then some (.lmul, 0) else none)))))) else (bif Nat.ble 45 pc then (bif Nat.ble 67 pc then (bif Nat.ble 80 pc then (bif Nat.ble 86 pc then (bif Nat.ble 88 pc then (bif Nat.ble 89 pc then (bif Nat.beq pc 89 then some (.ldc2_w 9, 1) else none) else (bif Nat.beq pc 88 then some (.lload_n 1, 0) else none)) else (bif Nat.ble 87 pc then (bif Nat.beq pc 87 then some (.lstore_n 1, 0) else none) else (bif Nat.beq pc 86 then some (.ladd, 0) else none))) else (bif Nat.ble 82 pc then (bif Nat.ble 85 pc then (bif Nat.beq pc 85 then some (.i2l, 0) else none) else (bif Nat.beq pc 82 then some (.invokevirtual 29, 9) else none)) else (bif Nat.ble 81 pc then (bif Nat.beq pc 81 then some (.iload_n 3, 0) else none) else (bif Nat.beq pc 80 then some (.aload_n 0, 0) else none)))) else (bif Nat.ble 72 pc then (bif Nat.ble 76 pc then (bif Nat.ble 79 pc then (bif Nat.beq pc 79 then some (.lmul, 0) else none) else (bif Nat.beq pc 76 then some (.ldc2_w 9, 1) else none)) else (bif Nat.ble 75 pc then (bif Nat.beq pc 75 then some (.lload_n 1, 0) else none) else (bif Nat.beq pc 72 then some (.if_icmp .gt 116, 188) else none))) else (bif Nat.ble 68 pc then (bif Nat.ble 69 pc then (bif Nat.beq pc 69 then some (.sipush 5004, 0) else none) else (bif Nat.beq pc 68 then some (.iload_n 3, 0) else none)) else (bif Nat.beq pc 67 then some (.istore_n 3, 0) else none)))) else (bif Nat.ble 56 pc then (bif Nat.ble 61 pc then (bif Nat.ble 63 pc then (bif Nat.ble 64 pc then (bif Nat.beq pc 64 then some (.sipush 4999, 0) else none) else (bif Nat.beq pc 63 then some (.lstore_n 1, 0) else none)) else (bif Nat.ble 62 pc then (bif Nat.beq pc 62 then some (.ladd, 0) else none) else (bif Nat.beq pc 61 then some (.i2l, 0) else none))) else (bif Nat.ble 57 pc then (bif Nat.ble 58 pc then (bif Nat.beq pc 58 then some (.invokevirtual 26, 8) else none) else (bif Nat.beq pc 57 then some (.aload_n 0, 0) else none)) else (bif Nat.beq pc 56 then some (.lmul, 0) else none))) else (bif Nat.ble 50 pc then (bif Nat.ble 52 pc then (bif Nat.ble 53 pc then (bif Nat.beq pc 53 then some (.ldc2_w 9, 1) else none) else (bif Nat.beq pc 52 then some (.lload_n 1, 0) else none)) else (bif Nat.ble 51 pc then (bif Nat.beq pc 51 then some (.lstore_n 1, 0) else none) else (bif Nat.beq pc 50 then some (.ladd, 0) else none))) else (bif Nat.ble 46 pc then (bif Nat.ble 49 pc then (bif Nat.beq pc 49 then some (.i2l, 0) else none) else (bif Nat.beq pc 46 then some (.invokevirtual 23, 7) else none)) else (bif Nat.beq pc 45 then some (.aload_n 0, 0) else none))))) else (bif Nat.ble 22 pc then (bif Nat.ble 33 pc then (bif Nat.ble 39 pc then (bif Nat.ble 41 pc then (bif Nat.ble 44 pc then (bif Nat.beq pc 44 then some (.lmul, 0) else none) else (bif Nat.beq pc 41 then some (.ldc2_w 9, 1) else none)) else (bif Nat.ble 40 pc then (bif Nat.beq pc 40 then some (.lload_n 1, 0) else none) else (bif Nat.beq pc 39 then some (.lstore_n 1, 0) else none))) else (bif Nat.ble 37 pc then (bif Nat.ble 38 pc then (bif Nat.beq pc 38 then some (.ladd, 0) else none) else (bif Nat.beq pc 37 then some (.i2l, 0) else none)) else (bif Nat.ble 34 pc then (bif Nat.beq pc 34 then some (.invokevirtual 20, 6) else none) else (bif Nat.beq pc 33 then some (.aload_n 0, 0) else none)))) else (bif Nat.ble 27 pc then (bif Nat.ble 29 pc then (bif Nat.ble 32 pc then (bif Nat.beq pc 32 then some (.lmul, 0) else none) else (bif Nat.beq pc 29 then some (.ldc2_w 9, 1) else none)) else (bif Nat.ble 28 pc then (bif Nat.beq pc 28 then some (.lload_n 1, 0) else none) else (bif Nat.beq pc 27 then some (.lstore_n 1, 0) else none))) else (bif Nat.ble 25 pc then (bif Nat.ble 26 pc then (bif Nat.beq pc 26 then some (.ladd, 0) else none) else (bif Nat.beq pc 25 then some (.i2l, 0) else none)) else (bif Nat.beq pc 22 then some (.invokevirtual 17, 5) else none)))) else (bif Nat.ble 13 pc then (bif Nat.ble 16 pc then (bif Nat.ble 20 pc then (bif Nat.ble 21 pc then (bif Nat.beq pc 21 then some (.aload_n 0, 0) else none) else (bif Nat.beq pc 20 then some (.lmul, 0) else none)) else (bif Nat.ble 17 pc then (bif Nat.beq pc 17 then some (.ldc2_w 9, 1) else none) else (bif Nat.beq pc 16 then some (.lload_n 1, 0) else none))) else (bif Nat.ble 14 pc then (bif Nat.ble 15 pc then (bif Nat.beq pc 15 then some (.lstore_n 1, 0) else none) else (bif Nat.beq pc 14 then some (.ladd, 0) else none)) else (bif Nat.beq pc 13 then some (.i2l, 0) else none))) else (bif Nat.ble 5 pc then (bif Nat.ble 9 pc then (bif Nat.ble 10 pc then (bif Nat.beq pc 10 then some (.invokevirtual 11, 4) else none) else (bif Nat.beq pc 9 then some (.aload_n 0, 0) else none)) else (bif Nat.ble 8 pc then (bif Nat.beq pc 8 then some (.lmul, 0) else none) else (bif Nat.beq pc 5 then some (.ldc2_w 9, 1) else none))) else (bif Nat.ble 3 pc then (bif Nat.ble 4 pc then (bif Nat.beq pc 4 then some (.lload_n 1, 0) else none) else (bif Nat.beq pc 3 then some (.lstore_n 1, 0) else none)) else (bif Nat.beq pc 0 then some (.ldc2_w 7, 0) else none)))))))
def cd4 (pc : Nat) : Option (Instr × Nat) := (bif Nat.ble 1 pc then (bif Nat.ble 4 pc then (bif Nat.beq pc 4 then some (.ireturn, 0) else none) else (bif Nat.beq pc 1 then some (.getfield 56, 13) else none)) else (bif Nat.beq pc 0 then some (.aload_n 0, 0) else none))
def cd5 (pc : Nat) : Option (Instr × Nat) := (bif Nat.ble 13 pc then (bif Nat.ble 21 pc then (bif Nat.ble 27 pc then (bif Nat.ble 30 pc then (bif Nat.ble 31 pc then (bif Nat.beq pc 31 then some (.ireturn, 0) else none) else (bif Nat.beq pc 30 then some (.iload_n 1, 0) else none)) else (bif Nat.beq pc 27 then some (.goto (-23), 4) else none)) else (bif Nat.ble 24 pc then (bif Nat.beq pc 24 then some (.iinc 2 1, 0) else none) else (bif Nat.beq pc 21 then some (.iinc 1 1, 0) else none))) else (bif Nat.ble 17 pc then (bif Nat.ble 18 pc then (bif Nat.beq pc 18 then some (.ifCond .eq 6, 24) else none) else (bif Nat.beq pc 17 then some (.baload, 0) else none)) else (bif Nat.ble 16 pc then (bif Nat.beq pc 16 then some (.iload_n 2, 0) else none) else (bif Nat.beq pc 13 then some (.getfield 7, 0) else none)))) else (bif Nat.ble 4 pc then (bif Nat.ble 6 pc then (bif Nat.ble 9 pc then (bif Nat.ble 12 pc then (bif Nat.beq pc 12 then some (.aload_n 0, 0) else none) else (bif Nat.beq pc 9 then some (.if_icmp .ge 21, 30) else none)) else (bif Nat.beq pc 6 then some (.getfield 43, 9) else none)) else (bif Nat.ble 5 pc then (bif Nat.beq pc 5 then some (.aload_n 0, 0) else none) else (bif Nat.beq pc 4 then some (.iload_n 2, 0) else none))) else (bif Nat.ble 2 pc then (bif Nat.ble 3 pc then (bif Nat.beq pc 3 then some (.istore_n 2, 0) else none) else (bif Nat.beq pc 2 then some (.iconst 0, 0) else none)) else (bif Nat.ble 1 pc then (bif Nat.beq pc 1 then some (.istore_n 1, 0) else none) else (bif Nat.beq pc 0 then some (.iconst 0, 0) else none)))))
def cd6 (pc : Nat) : Option (Instr × Nat) := (bif Nat.ble 1 pc then (bif Nat.ble 4 pc then (bif Nat.beq pc 4 then some (.ireturn, 0) else none) else (bif Nat.beq pc 1 then some (.getfield 65, 16) else none)) else (bif Nat.beq pc 0 then some (.aload_n 0, 0) else none))
def cd7 (pc : Nat) : Option (Instr × Nat) := (bif Nat.ble 1 pc then (bif Nat.ble 4 pc then (bif Nat.beq pc 4 then some (.ireturn, 0) else none) else (bif Nat.beq pc 1 then some (.getfield 68, 17) else none)) else (bif Nat.beq pc 0 then some (.aload_n 0, 0) else none))
def cd8 (pc : Nat) : Option (Instr × Nat) := (bif Nat.ble 1 pc then (bif Nat.ble 4 pc then (bif Nat.beq pc 4 then some (.ireturn, 0) else none) else (bif Nat.beq pc 1 then some (.getfield 71, 18) else none)) else (bif Nat.beq pc 0 then some (.aload_n 0, 0) else none))
def cd9 (pc : Nat) : Option (Instr × Nat) := (bif Nat.ble 10 pc then (bif Nat.ble 13 pc then (bif Nat.ble 17 pc then (bif Nat.ble 18 pc then (bif Nat.beq pc 18 then some (.ireturn, 0) else none) else (bif Nat.beq pc 17 then some (.iaload, 0) else none)) else (bif Nat.ble 16 pc then (bif Nat.beq pc 16 then some (.iload_n 2, 0) else none) else (bif Nat.beq pc 13 then some (.getfield 23, 4) else none))) else (bif Nat.ble 11 pc then (bif Nat.ble 12 pc then (bif Nat.beq pc 12 then some (.aload_n 0, 0) else none) else (bif Nat.beq pc 11 then some (.ireturn, 0) else none)) else (bif Nat.beq pc 10 then some (.iconst (-1), 0) else none))) else (bif Nat.ble 5 pc then (bif Nat.ble 6 pc then (bif Nat.ble 7 pc then (bif Nat.beq pc 7 then some (.ifCond .ge 5, 12) else none) else (bif Nat.beq pc 6 then some (.iload_n 2, 0) else none)) else (bif Nat.beq pc 5 then some (.istore_n 2, 0) else none)) else (bif Nat.ble 1 pc then (bif Nat.ble 2 pc then (bif Nat.beq pc 2 then some (.invokevirtual 111, 10) else none) else (bif Nat.beq pc 1 then some (.iload_n 1, 0) else none)) else (bif Nat.beq pc 0 then some (.aload_n 0, 0) else none))))
def cd10 (pc : Nat) : Option (Instr × Nat) := (bif Nat.ble 11 pc then (bif Nat.ble 19 pc then (bif Nat.ble 21 pc then (bif Nat.ble 22 pc then (bif Nat.beq pc 22 then some (.ireturn, 0) else none) else (bif Nat.beq pc 21 then some (.iload_n 2, 0) else none)) else (bif Nat.ble 20 pc then (bif Nat.beq pc 20 then some (.ireturn, 0) else none) else (bif Nat.beq pc 19 then some (.iconst (-1), 0) else none))) else (bif Nat.ble 15 pc then (bif Nat.ble 16 pc then (bif Nat.beq pc 16 then some (.ifCond .ne 5, 21) else none) else (bif Nat.beq pc 15 then some (.baload, 0) else none)) else (bif Nat.ble 14 pc then (bif Nat.beq pc 14 then some (.iload_n 2, 0) else none) else (bif Nat.beq pc 11 then some (.getfield 7, 0) else none)))) else (bif Nat.ble 5 pc then (bif Nat.ble 7 pc then (bif Nat.ble 10 pc then (bif Nat.beq pc 10 then some (.aload_n 0, 0) else none) else (bif Nat.beq pc 7 then some (.ifCond .lt 12, 19) else none)) else (bif Nat.ble 6 pc then (bif Nat.beq pc 6 then some (.iload_n 2, 0) else none) else (bif Nat.beq pc 5 then some (.istore_n 2, 0) else none))) else (bif Nat.ble 1 pc then (bif Nat.ble 2 pc then (bif Nat.beq pc 2 then some (.invokevirtual 115, 11) else none) else (bif Nat.beq pc 1 then some (.iload_n 1, 0) else none)) else (bif Nat.beq pc 0 then some (.aload_n 0, 0) else none))))
def cd11 (pc : Nat) : Option (Instr × Nat) := (bif Nat.ble 15 pc then (bif Nat.ble 21 pc then (bif Nat.ble 25 pc then (bif Nat.ble 26 pc then (bif Nat.beq pc 26 then some (.ireturn, 0) else none) else (bif Nat.beq pc 25 then some (.isub, 0) else none)) else (bif Nat.ble 22 pc then (bif Nat.beq pc 22 then some (.sipush 5000, 0) else none) else (bif Nat.beq pc 21 then some (.iload_n 1, 0) else none))) else (bif Nat.ble 19 pc then (bif Nat.ble 20 pc then (bif Nat.beq pc 20 then some (.ireturn, 0) else none) else (bif Nat.beq pc 19 then some (.iconst (-1), 0) else none)) else (bif Nat.ble 16 pc then (bif Nat.beq pc 16 then some (.if_icmp .lt 5, 21) else none) else (bif Nat.beq pc 15 then some (.iadd, 0) else none)))) else (bif Nat.ble 7 pc then (bif Nat.ble 11 pc then (bif Nat.ble 12 pc then (bif Nat.beq pc 12 then some (.getfield 43, 9) else none) else (bif Nat.beq pc 11 then some (.aload_n 0, 0) else none)) else (bif Nat.ble 8 pc then (bif Nat.beq pc 8 then some (.sipush 5000, 0) else none) else (bif Nat.beq pc 7 then some (.iload_n 1, 0) else none))) else (bif Nat.ble 1 pc then (bif Nat.ble 4 pc then (bif Nat.beq pc 4 then some (.if_icmp .lt 15, 19) else none) else (bif Nat.beq pc 1 then some (.sipush 5000, 0) else none)) else (bif Nat.beq pc 0 then some (.iload_n 1, 0) else none))))
def cd12 (pc : Nat) : Option (Instr × Nat) := (bif Nat.ble 10 pc then (bif Nat.ble 13 pc then (bif Nat.ble 17 pc then (bif Nat.ble 18 pc then (bif Nat.beq pc 18 then some (.ireturn, 0) else none) else (bif Nat.beq pc 17 then some (.iaload, 0) else none)) else (bif Nat.ble 16 pc then (bif Nat.beq pc 16 then some (.iload_n 2, 0) else none) else (bif Nat.beq pc 13 then some (.getfield 26, 5) else none))) else (bif Nat.ble 11 pc then (bif Nat.ble 12 pc then (bif Nat.beq pc 12 then some (.aload_n 0, 0) else none) else (bif Nat.beq pc 11 then some (.ireturn, 0) else none)) else (bif Nat.beq pc 10 then some (.iconst (-1), 0) else none))) else (bif Nat.ble 5 pc then (bif Nat.ble 6 pc then (bif Nat.ble 7 pc then (bif Nat.beq pc 7 then some (.ifCond .ge 5, 12) else none) else (bif Nat.beq pc 6 then some (.iload_n 2, 0) else none)) else (bif Nat.beq pc 5 then some (.istore_n 2, 0) else none)) else (bif Nat.ble 1 pc then (bif Nat.ble 2 pc then (bif Nat.beq pc 2 then some (.invokevirtual 111, 10) else none) else (bif Nat.beq pc 1 then some (.iload_n 1, 0) else none)) else (bif Nat.beq pc 0 then some (.aload_n 0, 0) else none))))
def cd13 (pc : Nat) : Option (Instr × Nat) := (bif Nat.ble 10 pc then (bif Nat.ble 13 pc then (bif Nat.ble 17 pc then (bif Nat.ble 18 pc then (bif Nat.beq pc 18 then some (.ireturn, 0) else none) else (bif Nat.beq pc 17 then some (.iaload, 0) else none)) else (bif Nat.ble 16 pc then (bif Nat.beq pc 16 then some (.iload_n 2, 0) else none) else (bif Nat.beq pc 13 then some (.getfield 29, 6) else none))) else (bif Nat.ble 11 pc then (bif Nat.ble 12 pc then (bif Nat.beq pc 12 then some (.aload_n 0, 0) else none) else (bif Nat.beq pc 11 then some (.ireturn, 0) else none)) else (bif Nat.beq pc 10 then some (.iconst (-1), 0) else none))) else (bif Nat.ble 5 pc then (bif Nat.ble 6 pc then (bif Nat.ble 7 pc then (bif Nat.beq pc 7 then some (.ifCond .ge 5, 12) else none) else (bif Nat.beq pc 6 then some (.iload_n 2, 0) else none)) else (bif Nat.beq pc 5 then some (.istore_n 2, 0) else none)) else (bif Nat.ble 1 pc then (bif Nat.ble 2 pc then (bif Nat.beq pc 2 then some (.invokevirtual 111, 10) else none) else (bif Nat.beq pc 1 then some (.iload_n 1, 0) else none)) else (bif Nat.beq pc 0 then some (.aload_n 0, 0) else none))))
def cd14 (pc : Nat) : Option (Instr × Nat) := (bif Nat.ble 10 pc then (bif Nat.ble 13 pc then (bif Nat.ble 17 pc then (bif Nat.ble 18 pc then (bif Nat.beq pc 18 then some (.ireturn, 0) else none) else (bif Nat.beq pc 17 then some (.iaload, 0) else none)) else (bif Nat.ble 16 pc then (bif Nat.beq pc 16 then some (.iload_n 2, 0) else none) else (bif Nat.beq pc 13 then some (.getfield 32, 7) else none))) else (bif Nat.ble 11 pc then (bif Nat.ble 12 pc then (bif Nat.beq pc 12 then some (.aload_n 0, 0) else none) else (bif Nat.beq pc 11 then some (.ireturn, 0) else none)) else (bif Nat.beq pc 10 then some (.iconst (-1), 0) else none))) else (bif Nat.ble 5 pc then (bif Nat.ble 6 pc then (bif Nat.ble 7 pc then (bif Nat.beq pc 7 then some (.ifCond .ge 5, 12) else none) else (bif Nat.beq pc 6 then some (.iload_n 2, 0) else none)) else (bif Nat.beq pc 5 then some (.istore_n 2, 0) else none)) else (bif Nat.ble 1 pc then (bif Nat.ble 2 pc then (bif Nat.beq pc 2 then some (.invokevirtual 111, 10) else none) else (bif Nat.beq pc 1 then some (.iload_n 1, 0) else none)) else (bif Nat.beq pc 0 then some (.aload_n 0, 0) else none))))
def cd15 (pc : Nat) : Option (Instr × Nat) := (bif Nat.ble 14 pc then (bif Nat.ble 20 pc then (bif Nat.ble 22 pc then (bif Nat.ble 23 pc then (bif Nat.ble 26 pc then (bif Nat.beq pc 26 then some (.ireturn, 0) else none) else (bif Nat.beq pc 23 then some (.invokevirtual 118, 17) else none)) else (bif Nat.beq pc 22 then some (.iload_n 2, 0) else none)) else (bif Nat.ble 21 pc then (bif Nat.beq pc 21 then some (.aload_n 0, 0) else none) else (bif Nat.beq pc 20 then some (.ireturn, 0) else none))) else (bif Nat.ble 16 pc then (bif Nat.ble 19 pc then (bif Nat.beq pc 19 then some (.iconst (-1), 0) else none) else (bif Nat.beq pc 16 then some (.ifCond .eq 5, 21) else none)) else (bif Nat.ble 15 pc then (bif Nat.beq pc 15 then some (.baload, 0) else none) else (bif Nat.beq pc 14 then some (.iload_n 2, 0) else none)))) else (bif Nat.ble 6 pc then (bif Nat.ble 10 pc then (bif Nat.ble 11 pc then (bif Nat.beq pc 11 then some (.getfield 7, 0) else none) else (bif Nat.beq pc 10 then some (.aload_n 0, 0) else none)) else (bif Nat.ble 7 pc then (bif Nat.beq pc 7 then some (.ifCond .lt 12, 19) else none) else (bif Nat.beq pc 6 then some (.iload_n 2, 0) else none))) else (bif Nat.ble 2 pc then (bif Nat.ble 5 pc then (bif Nat.beq pc 5 then some (.istore_n 2, 0) else none) else (bif Nat.beq pc 2 then some (.invokevirtual 115, 11) else none)) else (bif Nat.ble 1 pc then (bif Nat.beq pc 1 then some (.iload_n 1, 0) else none) else (bif Nat.beq pc 0 then some (.aload_n 0, 0) else none)))))
def cd16 (pc : Nat) : Option (Instr × Nat) := (bif Nat.ble 15 pc then (bif Nat.ble 24 pc then (bif Nat.ble 26 pc then (bif Nat.ble 27 pc then (bif Nat.ble 30 pc then (bif Nat.beq pc 30 then some (.ireturn, 0) else none) else (bif Nat.beq pc 27 then some (.invokevirtual 105, 31) else none)) else (bif Nat.beq pc 26 then some (.iload_n 2, 0) else none)) else (bif Nat.ble 25 pc then (bif Nat.beq pc 25 then some (.iload_n 3, 0) else none) else (bif Nat.beq pc 24 then some (.aload_n 0, 0) else none))) else (bif Nat.ble 19 pc then (bif Nat.ble 22 pc then (bif Nat.ble 23 pc then (bif Nat.beq pc 23 then some (.ireturn, 0) else none) else (bif Nat.beq pc 22 then some (.iconst 0, 0) else none)) else (bif Nat.beq pc 19 then some (.if_icmp .le 5, 24) else none)) else (bif Nat.ble 16 pc then (bif Nat.beq pc 16 then some (.sipush 255, 0) else none) else (bif Nat.beq pc 15 then some (.iload_n 2, 0) else none)))) else (bif Nat.ble 6 pc then (bif Nat.ble 10 pc then (bif Nat.ble 11 pc then (bif Nat.ble 12 pc then (bif Nat.beq pc 12 then some (.if_icmp .lt 10, 22) else none) else (bif Nat.beq pc 11 then some (.iconst 1, 0) else none)) else (bif Nat.beq pc 10 then some (.iload_n 2, 0) else none)) else (bif Nat.ble 7 pc then (bif Nat.beq pc 7 then some (.ifCond .lt 15, 22) else none) else (bif Nat.beq pc 6 then some (.iload_n 3, 0) else none))) else (bif Nat.ble 2 pc then (bif Nat.ble 5 pc then (bif Nat.beq pc 5 then some (.istore_n 3, 0) else none) else (bif Nat.beq pc 2 then some (.invokevirtual 111, 10) else none)) else (bif Nat.ble 1 pc then (bif Nat.beq pc 1 then some (.iload_n 1, 0) else none) else (bif Nat.beq pc 0 then some (.aload_n 0, 0) else none)))))
def cd17 (pc : Nat) : Option (Instr × Nat) := (bif Nat.ble 11 pc then (bif Nat.ble 17 pc then (bif Nat.ble 21 pc then (bif Nat.ble 22 pc then (bif Nat.beq pc 22 then some (.ireturn, 0) else none) else (bif Nat.beq pc 21 then some (.iadd, 0) else none)) else (bif Nat.ble 18 pc then (bif Nat.beq pc 18 then some (.getfield 53, 12) else none) else (bif Nat.beq pc 17 then some (.aload_n 0, 0) else none))) else (bif Nat.ble 15 pc then (bif Nat.ble 16 pc then (bif Nat.beq pc 16 then some (.iaload, 0) else none) else (bif Nat.beq pc 15 then some (.iload_n 1, 0) else none)) else (bif Nat.ble 12 pc then (bif Nat.beq pc 12 then some (.getfield 16, 2) else none) else (bif Nat.beq pc 11 then some (.aload_n 0, 0) else none)))) else (bif Nat.ble 5 pc then (bif Nat.ble 9 pc then (bif Nat.ble 10 pc then (bif Nat.beq pc 10 then some (.ireturn, 0) else none) else (bif Nat.beq pc 9 then some (.iconst 0, 0) else none)) else (bif Nat.ble 6 pc then (bif Nat.beq pc 6 then some (.ifCond .ne 5, 11) else none) else (bif Nat.beq pc 5 then some (.baload, 0) else none))) else (bif Nat.ble 1 pc then (bif Nat.ble 4 pc then (bif Nat.beq pc 4 then some (.iload_n 1, 0) else none) else (bif Nat.beq pc 1 then some (.getfield 13, 1) else none)) else (bif Nat.beq pc 0 then some (.aload_n 0, 0) else none))))
def cd18 (pc : Nat) : Option (Instr × Nat) := (bif Nat.ble 37 pc then (bif Nat.ble 55 pc then (bif Nat.ble 62 pc then (bif Nat.ble 69 pc then (bif Nat.ble 72 pc then (bif Nat.ble 73 pc then (bif Nat.beq pc 73 then some (.ireturn, 0) else none) else (bif Nat.beq pc 72 then some (.iconst 1, 0) else none)) else (bif Nat.beq pc 69 then some (.goto (-44), 25) else none)) else (bif Nat.ble 63 pc then (bif Nat.ble 66 pc then (bif Nat.beq pc 66 then some (.iinc 2 1, 0) else none) else (bif Nat.beq pc 63 then some (.invokevirtual 108, 32) else none)) else (bif Nat.beq pc 62 then some (.iaload, 0) else none))) else (bif Nat.ble 57 pc then (bif Nat.ble 58 pc then (bif Nat.ble 61 pc then (bif Nat.beq pc 61 then some (.iload_n 2, 0) else none) else (bif Nat.beq pc 58 then some (.getfield 32, 7) else none)) else (bif Nat.beq pc 57 then some (.aload_n 0, 0) else none)) else (bif Nat.ble 56 pc then (bif Nat.beq pc 56 then some (.iload_n 2, 0) else none) else (bif Nat.beq pc 55 then some (.aload_n 0, 0) else none)))) else (bif Nat.ble 46 pc then (bif Nat.ble 48 pc then (bif Nat.ble 49 pc then (bif Nat.ble 52 pc then (bif Nat.beq pc 52 then some (.if_icmp .gt 14, 66) else none) else (bif Nat.beq pc 49 then some (.getfield 56, 13) else none)) else (bif Nat.beq pc 48 then some (.aload_n 0, 0) else none)) else (bif Nat.ble 47 pc then (bif Nat.beq pc 47 then some (.iaload, 0) else none) else (bif Nat.beq pc 46 then some (.iload_n 2, 0) else none))) else (bif Nat.ble 39 pc then (bif Nat.ble 42 pc then (bif Nat.ble 43 pc then (bif Nat.beq pc 43 then some (.getfield 32, 7) else none) else (bif Nat.beq pc 42 then some (.aload_n 0, 0) else none)) else (bif Nat.beq pc 39 then some (.ifCond .eq 27, 66) else none)) else (bif Nat.ble 38 pc then (bif Nat.beq pc 38 then some (.baload, 0) else none) else (bif Nat.beq pc 37 then some (.iload_n 2, 0) else none))))) else (bif Nat.ble 18 pc then (bif Nat.ble 25 pc then (bif Nat.ble 30 pc then (bif Nat.ble 33 pc then (bif Nat.ble 34 pc then (bif Nat.beq pc 34 then some (.getfield 7, 0) else none) else (bif Nat.beq pc 33 then some (.aload_n 0, 0) else none)) else (bif Nat.beq pc 30 then some (.if_icmp .ge 42, 72) else none)) else (bif Nat.ble 26 pc then (bif Nat.ble 27 pc then (bif Nat.beq pc 27 then some (.getfield 43, 9) else none) else (bif Nat.beq pc 26 then some (.aload_n 0, 0) else none)) else (bif Nat.beq pc 25 then some (.iload_n 2, 0) else none))) else (bif Nat.ble 20 pc then (bif Nat.ble 23 pc then (bif Nat.ble 24 pc then (bif Nat.beq pc 24 then some (.istore_n 2, 0) else none) else (bif Nat.beq pc 23 then some (.iconst 0, 0) else none)) else (bif Nat.beq pc 20 then some (.putfield 56, 13) else none)) else (bif Nat.ble 19 pc then (bif Nat.beq pc 19 then some (.iadd, 0) else none) else (bif Nat.beq pc 18 then some (.iload_n 1, 0) else none)))) else (bif Nat.ble 11 pc then (bif Nat.ble 13 pc then (bif Nat.ble 14 pc then (bif Nat.ble 15 pc then (bif Nat.beq pc 15 then some (.getfield 56, 13) else none) else (bif Nat.beq pc 14 then some (.dup, 0) else none)) else (bif Nat.beq pc 13 then some (.aload_n 0, 0) else none)) else (bif Nat.ble 12 pc then (bif Nat.beq pc 12 then some (.ireturn, 0) else none) else (bif Nat.beq pc 11 then some (.iconst 0, 0) else none))) else (bif Nat.ble 4 pc then (bif Nat.ble 5 pc then (bif Nat.ble 8 pc then (bif Nat.beq pc 8 then some (.if_icmp .le 5, 13) else none) else (bif Nat.beq pc 5 then some (.sipush 1000, 0) else none)) else (bif Nat.beq pc 4 then some (.iload_n 1, 0) else none)) else (bif Nat.ble 1 pc then (bif Nat.beq pc 1 then some (.ifCond .lt 10, 11) else none) else (bif Nat.beq pc 0 then some (.iload_n 1, 0) else none))))))
def cd19 (pc : Nat) : Option (Instr × Nat) := (bif Nat.ble 80 pc then (bif Nat.ble 119 pc then (bif Nat.ble 143 pc then (bif Nat.ble 153 pc then (bif Nat.ble 156 pc then (bif Nat.ble 158 pc then (bif Nat.ble 161 pc then (bif Nat.beq pc 161 then some (.ireturn, 0) else none) else (bif Nat.beq pc 158 then some (.invokevirtual 98, 33) else none)) else (bif Nat.beq pc 156 then some (.iload 4, 0) else none)) else (bif Nat.ble 154 pc then (bif Nat.ble 155 pc then (bif Nat.beq pc 155 then some (.iload_n 3, 0) else none) else (bif Nat.beq pc 154 then some (.aload_n 0, 0) else none)) else (bif Nat.beq pc 153 then some (.ireturn, 0) else none))) else (bif Nat.ble 148 pc then (bif Nat.ble 149 pc then (bif Nat.ble 152 pc then (bif Nat.beq pc 152 then some (.iconst 1, 0) else none) else (bif Nat.beq pc 149 then some (.putfield 68, 17) else none)) else (bif Nat.beq pc 148 then some (.iconst (-1), 0) else none)) else (bif Nat.ble 144 pc then (bif Nat.ble 147 pc then (bif Nat.beq pc 147 then some (.aload_n 0, 0) else none) else (bif Nat.beq pc 144 then some (.putfield 65, 16) else none)) else (bif Nat.beq pc 143 then some (.iconst (-1), 0) else none)))) else (bif Nat.ble 129 pc then (bif Nat.ble 136 pc then (bif Nat.ble 139 pc then (bif Nat.ble 142 pc then (bif Nat.beq pc 142 then some (.aload_n 0, 0) else none) else (bif Nat.beq pc 139 then some (.if_icmp .eq 15, 154) else none)) else (bif Nat.beq pc 136 then some (.sipush 255, 0) else none)) else (bif Nat.ble 132 pc then (bif Nat.ble 133 pc then (bif Nat.beq pc 133 then some (.getfield 59, 14) else none) else (bif Nat.beq pc 132 then some (.aload_n 0, 0) else none)) else (bif Nat.beq pc 129 then some (.putfield 71, 18) else none))) else (bif Nat.ble 123 pc then (bif Nat.ble 126 pc then (bif Nat.ble 128 pc then (bif Nat.beq pc 128 then some (.iadd, 0) else none) else (bif Nat.beq pc 126 then some (.iload 5, 0) else none)) else (bif Nat.beq pc 123 then some (.sipush 5000, 0) else none)) else (bif Nat.ble 122 pc then (bif Nat.beq pc 122 then some (.aload_n 0, 0) else none) else (bif Nat.beq pc 119 then some (.invokevirtual 94, 29) else none))))) else (bif Nat.ble 99 pc then (bif Nat.ble 107 pc then (bif Nat.ble 114 pc then (bif Nat.ble 116 pc then (bif Nat.ble 118 pc then (bif Nat.beq pc 118 then some (.iconst 0, 0) else none) else (bif Nat.beq pc 116 then some (.iload 4, 0) else none)) else (bif Nat.beq pc 114 then some (.iload 5, 0) else none)) else (bif Nat.ble 110 pc then (bif Nat.ble 113 pc then (bif Nat.beq pc 113 then some (.aload_n 0, 0) else none) else (bif Nat.beq pc 110 then some (.invokevirtual 90, 28) else none)) else (bif Nat.beq pc 107 then some (.getfield 59, 14) else none))) else (bif Nat.ble 103 pc then (bif Nat.ble 104 pc then (bif Nat.ble 106 pc then (bif Nat.beq pc 106 then some (.aload_n 0, 0) else none) else (bif Nat.beq pc 104 then some (.iload 5, 0) else none)) else (bif Nat.beq pc 103 then some (.aload_n 0, 0) else none)) else (bif Nat.ble 100 pc then (bif Nat.beq pc 100 then some (.invokevirtual 86, 26) else none) else (bif Nat.beq pc 99 then some (.iload_n 2, 0) else none)))) else (bif Nat.ble 91 pc then (bif Nat.ble 95 pc then (bif Nat.ble 97 pc then (bif Nat.ble 98 pc then (bif Nat.beq pc 98 then some (.iload_n 1, 0) else none) else (bif Nat.beq pc 97 then some (.iload_n 3, 0) else none)) else (bif Nat.beq pc 95 then some (.iload 5, 0) else none)) else (bif Nat.ble 93 pc then (bif Nat.ble 94 pc then (bif Nat.beq pc 94 then some (.aload_n 0, 0) else none) else (bif Nat.beq pc 93 then some (.ireturn, 0) else none)) else (bif Nat.beq pc 91 then some (.bipush (-2), 0) else none))) else (bif Nat.ble 84 pc then (bif Nat.ble 86 pc then (bif Nat.ble 88 pc then (bif Nat.beq pc 88 then some (.ifCond .ge 6, 94) else none) else (bif Nat.beq pc 86 then some (.iload 5, 0) else none)) else (bif Nat.beq pc 84 then some (.istore 5, 0) else none)) else (bif Nat.ble 81 pc then (bif Nat.beq pc 81 then some (.invokevirtual 82, 25) else none) else (bif Nat.beq pc 80 then some (.aload_n 0, 0) else none)))))) else (bif Nat.ble 41 pc then (bif Nat.ble 59 pc then (bif Nat.ble 69 pc then (bif Nat.ble 74 pc then (bif Nat.ble 77 pc then (bif Nat.ble 79 pc then (bif Nat.beq pc 79 then some (.ireturn, 0) else none) else (bif Nat.beq pc 77 then some (.bipush (-3), 0) else none)) else (bif Nat.beq pc 74 then some (.ifCond .eq 6, 80) else none)) else (bif Nat.ble 71 pc then (bif Nat.ble 73 pc then (bif Nat.beq pc 73 then some (.iand, 0) else none) else (bif Nat.beq pc 71 then some (.bipush 8, 0) else none)) else (bif Nat.beq pc 69 then some (.iload 4, 0) else none))) else (bif Nat.ble 64 pc then (bif Nat.ble 65 pc then (bif Nat.ble 66 pc then (bif Nat.beq pc 66 then some (.ifCond .eq 11, 77) else none) else (bif Nat.beq pc 65 then some (.iand, 0) else none)) else (bif Nat.beq pc 64 then some (.iconst 1, 0) else none)) else (bif Nat.ble 62 pc then (bif Nat.beq pc 62 then some (.iload 4, 0) else none) else (bif Nat.beq pc 59 then some (.if_icmp .ne 21, 80) else none)))) else (bif Nat.ble 46 pc then (bif Nat.ble 53 pc then (bif Nat.ble 56 pc then (bif Nat.ble 57 pc then (bif Nat.beq pc 57 then some (.bipush 6, 0) else none) else (bif Nat.beq pc 56 then some (.iload_n 3, 0) else none)) else (bif Nat.beq pc 53 then some (.ifCond .ge 50, 103) else none)) else (bif Nat.ble 49 pc then (bif Nat.ble 51 pc then (bif Nat.beq pc 51 then some (.iload 5, 0) else none) else (bif Nat.beq pc 49 then some (.istore 5, 0) else none)) else (bif Nat.beq pc 46 then some (.invokevirtual 79, 24) else none))) else (bif Nat.ble 43 pc then (bif Nat.ble 44 pc then (bif Nat.ble 45 pc then (bif Nat.beq pc 45 then some (.iload_n 2, 0) else none) else (bif Nat.beq pc 44 then some (.iload_n 1, 0) else none)) else (bif Nat.beq pc 43 then some (.iload_n 3, 0) else none)) else (bif Nat.ble 42 pc then (bif Nat.beq pc 42 then some (.aload_n 0, 0) else none) else (bif Nat.beq pc 41 then some (.ireturn, 0) else none))))) else (bif Nat.ble 21 pc then (bif Nat.ble 27 pc then (bif Nat.ble 34 pc then (bif Nat.ble 37 pc then (bif Nat.ble 40 pc then (bif Nat.beq pc 40 then some (.iconst (-1), 0) else none) else (bif Nat.beq pc 37 then some (.ifCond .ne 5, 42) else none)) else (bif Nat.beq pc 34 then some (.getfield 59, 14) else none)) else (bif Nat.ble 30 pc then (bif Nat.ble 33 pc then (bif Nat.beq pc 33 then some (.aload_n 0, 0) else none) else (bif Nat.beq pc 30 then some (.ifCond .eq 10, 40) else none)) else (bif Nat.beq pc 27 then some (.invokevirtual 75, 20) else none))) else (bif Nat.ble 23 pc then (bif Nat.ble 24 pc then (bif Nat.ble 25 pc then (bif Nat.beq pc 25 then some (.iload 4, 0) else none) else (bif Nat.beq pc 24 then some (.iload_n 3, 0) else none)) else (bif Nat.beq pc 23 then some (.aload_n 0, 0) else none)) else (bif Nat.ble 22 pc then (bif Nat.beq pc 22 then some (.ireturn, 0) else none) else (bif Nat.beq pc 21 then some (.iconst (-1), 0) else none)))) else (bif Nat.ble 10 pc then (bif Nat.ble 15 pc then (bif Nat.ble 16 pc then (bif Nat.ble 18 pc then (bif Nat.beq pc 18 then some (.if_icmp .le 5, 23) else none) else (bif Nat.beq pc 16 then some (.ldc 74, 3) else none)) else (bif Nat.beq pc 15 then some (.iload_n 2, 0) else none)) else (bif Nat.ble 11 pc then (bif Nat.ble 12 pc then (bif Nat.beq pc 12 then some (.if_icmp .lt 9, 21) else none) else (bif Nat.beq pc 11 then some (.iconst 1, 0) else none)) else (bif Nat.beq pc 10 then some (.iload_n 2, 0) else none))) else (bif Nat.ble 4 pc then (bif Nat.ble 5 pc then (bif Nat.ble 7 pc then (bif Nat.beq pc 7 then some (.if_icmp .ge 14, 21) else none) else (bif Nat.beq pc 5 then some (.bipush 8, 0) else none)) else (bif Nat.beq pc 4 then some (.iload_n 1, 0) else none)) else (bif Nat.ble 1 pc then (bif Nat.beq pc 1 then some (.ifCond .lt 20, 21) else none) else (bif Nat.beq pc 0 then some (.iload_n 1, 0) else none)))))))
def cd20 (pc : Nat) : Option (Instr × Nat) := (bif Nat.ble 21 pc then (bif Nat.ble 32 pc then (bif Nat.ble 37 pc then (bif Nat.ble 40 pc then (bif Nat.ble 41 pc then (bif Nat.beq pc 41 then some (.ireturn, 0) else none) else (bif Nat.beq pc 40 then some (.iconst 0, 0) else none)) else (bif Nat.beq pc 37 then some (.goto 4, 41) else none)) else (bif Nat.ble 33 pc then (bif Nat.ble 36 pc then (bif Nat.beq pc 36 then some (.iconst 1, 0) else none) else (bif Nat.beq pc 33 then some (.ifCond .ne 7, 40) else none)) else (bif Nat.beq pc 32 then some (.iload_n 2, 0) else none))) else (bif Nat.ble 26 pc then (bif Nat.ble 27 pc then (bif Nat.ble 29 pc then (bif Nat.beq pc 29 then some (.if_icmp .ne 7, 36) else none) else (bif Nat.beq pc 27 then some (.bipush 17, 0) else none)) else (bif Nat.beq pc 26 then some (.iload_n 1, 0) else none)) else (bif Nat.ble 24 pc then (bif Nat.ble 25 pc then (bif Nat.beq pc 25 then some (.ireturn, 0) else none) else (bif Nat.beq pc 24 then some (.iconst 0, 0) else none)) else (bif Nat.beq pc 21 then some (.if_icmp .le 5, 26) else none)))) else (bif Nat.ble 12 pc then (bif Nat.ble 15 pc then (bif Nat.ble 18 pc then (bif Nat.ble 19 pc then (bif Nat.beq pc 19 then some (.bipush 15, 0) else none) else (bif Nat.beq pc 18 then some (.iload_n 2, 0) else none)) else (bif Nat.beq pc 15 then some (.ifCond .lt 9, 24) else none)) else (bif Nat.ble 13 pc then (bif Nat.ble 14 pc then (bif Nat.beq pc 14 then some (.iload_n 2, 0) else none) else (bif Nat.beq pc 13 then some (.ireturn, 0) else none)) else (bif Nat.beq pc 12 then some (.iconst 0, 0) else none))) else (bif Nat.ble 6 pc then (bif Nat.ble 7 pc then (bif Nat.ble 9 pc then (bif Nat.beq pc 9 then some (.if_icmp .eq 5, 14) else none) else (bif Nat.beq pc 7 then some (.bipush 6, 0) else none)) else (bif Nat.beq pc 6 then some (.iload_n 1, 0) else none)) else (bif Nat.ble 1 pc then (bif Nat.ble 3 pc then (bif Nat.beq pc 3 then some (.if_icmp .eq 11, 14) else none) else (bif Nat.beq pc 1 then some (.bipush 17, 0) else none)) else (bif Nat.beq pc 0 then some (.iload_n 1, 0) else none)))))
def cd21 (pc : Nat) : Option (Instr × Nat) := (bif Nat.ble 20 pc then (bif Nat.ble 27 pc then (bif Nat.ble 32 pc then (bif Nat.ble 35 pc then (bif Nat.ble 36 pc then (bif Nat.beq pc 36 then some (.ireturn, 0) else none) else (bif Nat.beq pc 35 then some (.iconst 1, 0) else none)) else (bif Nat.beq pc 32 then some (.putfield 62, 15) else none)) else (bif Nat.ble 30 pc then (bif Nat.ble 31 pc then (bif Nat.beq pc 31 then some (.iload_n 2, 0) else none) else (bif Nat.beq pc 30 then some (.aload_n 0, 0) else none)) else (bif Nat.beq pc 27 then some (.putfield 59, 14) else none))) else (bif Nat.ble 24 pc then (bif Nat.ble 25 pc then (bif Nat.ble 26 pc then (bif Nat.beq pc 26 then some (.iload_n 1, 0) else none) else (bif Nat.beq pc 25 then some (.aload_n 0, 0) else none)) else (bif Nat.beq pc 24 then some (.ireturn, 0) else none)) else (bif Nat.ble 23 pc then (bif Nat.beq pc 23 then some (.iconst 0, 0) else none) else (bif Nat.beq pc 20 then some (.if_icmp .le 5, 25) else none)))) else (bif Nat.ble 9 pc then (bif Nat.ble 14 pc then (bif Nat.ble 17 pc then (bif Nat.ble 18 pc then (bif Nat.beq pc 18 then some (.ldc 74, 3) else none) else (bif Nat.beq pc 17 then some (.iload_n 2, 0) else none)) else (bif Nat.beq pc 14 then some (.if_icmp .lt 9, 23) else none)) else (bif Nat.ble 12 pc then (bif Nat.ble 13 pc then (bif Nat.beq pc 13 then some (.iconst 1, 0) else none) else (bif Nat.beq pc 12 then some (.iload_n 2, 0) else none)) else (bif Nat.beq pc 9 then some (.if_icmp .gt 14, 23) else none))) else (bif Nat.ble 2 pc then (bif Nat.ble 5 pc then (bif Nat.ble 6 pc then (bif Nat.beq pc 6 then some (.sipush 255, 0) else none) else (bif Nat.beq pc 5 then some (.iload_n 1, 0) else none)) else (bif Nat.beq pc 2 then some (.if_icmp .lt 21, 23) else none)) else (bif Nat.ble 1 pc then (bif Nat.beq pc 1 then some (.iconst 1, 0) else none) else (bif Nat.beq pc 0 then some (.iload_n 1, 0) else none)))))
def cd22 (pc : Nat) : Option (Instr × Nat) := (bif Nat.ble 48 pc then (bif Nat.ble 73 pc then (bif Nat.ble 87 pc then (bif Nat.ble 91 pc then (bif Nat.ble 95 pc then (bif Nat.ble 96 pc then (bif Nat.beq pc 96 then some (.ireturn, 0) else none) else (bif Nat.beq pc 95 then some (.iconst 2, 0) else none)) else (bif Nat.ble 92 pc then (bif Nat.beq pc 92 then some (.invokevirtual 94, 29) else none) else (bif Nat.beq pc 91 then some (.iconst 1, 0) else none))) else (bif Nat.ble 88 pc then (bif Nat.ble 90 pc then (bif Nat.beq pc 90 then some (.iload_n 3, 0) else none) else (bif Nat.beq pc 88 then some (.iload 4, 0) else none)) else (bif Nat.beq pc 87 then some (.aload_n 0, 0) else none))) else (bif Nat.ble 79 pc then (bif Nat.ble 83 pc then (bif Nat.ble 84 pc then (bif Nat.beq pc 84 then some (.putfield 71, 18) else none) else (bif Nat.beq pc 83 then some (.iload_n 1, 0) else none)) else (bif Nat.ble 82 pc then (bif Nat.beq pc 82 then some (.aload_n 0, 0) else none) else (bif Nat.beq pc 79 then some (.putfield 68, 17) else none))) else (bif Nat.ble 76 pc then (bif Nat.ble 78 pc then (bif Nat.beq pc 78 then some (.iaload, 0) else none) else (bif Nat.beq pc 76 then some (.iload 4, 0) else none)) else (bif Nat.beq pc 73 then some (.getfield 26, 5) else none)))) else (bif Nat.ble 61 pc then (bif Nat.ble 67 pc then (bif Nat.ble 71 pc then (bif Nat.ble 72 pc then (bif Nat.beq pc 72 then some (.aload_n 0, 0) else none) else (bif Nat.beq pc 71 then some (.aload_n 0, 0) else none)) else (bif Nat.ble 68 pc then (bif Nat.beq pc 68 then some (.putfield 65, 16) else none) else (bif Nat.beq pc 67 then some (.iaload, 0) else none))) else (bif Nat.ble 62 pc then (bif Nat.ble 65 pc then (bif Nat.beq pc 65 then some (.iload 4, 0) else none) else (bif Nat.beq pc 62 then some (.getfield 23, 4) else none)) else (bif Nat.beq pc 61 then some (.aload_n 0, 0) else none))) else (bif Nat.ble 57 pc then (bif Nat.ble 59 pc then (bif Nat.ble 60 pc then (bif Nat.beq pc 60 then some (.aload_n 0, 0) else none) else (bif Nat.beq pc 59 then some (.ireturn, 0) else none)) else (bif Nat.beq pc 57 then some (.bipush (-5), 0) else none)) else (bif Nat.ble 51 pc then (bif Nat.ble 54 pc then (bif Nat.beq pc 54 then some (.ifCond .ne 6, 60) else none) else (bif Nat.beq pc 51 then some (.invokevirtual 105, 31) else none)) else (bif Nat.beq pc 48 then some (.getfield 59, 14) else none))))) else (bif Nat.ble 27 pc then (bif Nat.ble 36 pc then (bif Nat.ble 43 pc then (bif Nat.ble 45 pc then (bif Nat.ble 47 pc then (bif Nat.beq pc 47 then some (.aload_n 0, 0) else none) else (bif Nat.beq pc 45 then some (.iload 4, 0) else none)) else (bif Nat.ble 44 pc then (bif Nat.beq pc 44 then some (.aload_n 0, 0) else none) else (bif Nat.beq pc 43 then some (.ireturn, 0) else none))) else (bif Nat.ble 38 pc then (bif Nat.ble 41 pc then (bif Nat.beq pc 41 then some (.bipush (-4), 0) else none) else (bif Nat.beq pc 38 then some (.ifCond .ge 6, 44) else none)) else (bif Nat.beq pc 36 then some (.iload 4, 0) else none))) else (bif Nat.ble 30 pc then (bif Nat.ble 31 pc then (bif Nat.ble 34 pc then (bif Nat.beq pc 34 then some (.istore 4, 0) else none) else (bif Nat.beq pc 31 then some (.invokevirtual 102, 23) else none)) else (bif Nat.beq pc 30 then some (.iload_n 2, 0) else none)) else (bif Nat.ble 28 pc then (bif Nat.ble 29 pc then (bif Nat.beq pc 29 then some (.iload_n 1, 0) else none) else (bif Nat.beq pc 28 then some (.aload_n 0, 0) else none)) else (bif Nat.beq pc 27 then some (.ireturn, 0) else none)))) else (bif Nat.ble 10 pc then (bif Nat.ble 17 pc then (bif Nat.ble 23 pc then (bif Nat.ble 26 pc then (bif Nat.beq pc 26 then some (.iconst (-1), 0) else none) else (bif Nat.beq pc 23 then some (.if_icmp .ne 5, 28) else none)) else (bif Nat.ble 20 pc then (bif Nat.beq pc 20 then some (.sipush 255, 0) else none) else (bif Nat.beq pc 17 then some (.getfield 59, 14) else none))) else (bif Nat.ble 13 pc then (bif Nat.ble 16 pc then (bif Nat.beq pc 16 then some (.aload_n 0, 0) else none) else (bif Nat.beq pc 13 then some (.ifCond .eq 13, 26) else none)) else (bif Nat.beq pc 10 then some (.getfield 59, 14) else none))) else (bif Nat.ble 3 pc then (bif Nat.ble 6 pc then (bif Nat.ble 9 pc then (bif Nat.beq pc 9 then some (.aload_n 0, 0) else none) else (bif Nat.beq pc 6 then some (.ifCond .eq 20, 26) else none)) else (bif Nat.beq pc 3 then some (.invokevirtual 75, 20) else none)) else (bif Nat.ble 1 pc then (bif Nat.ble 2 pc then (bif Nat.beq pc 2 then some (.iload_n 3, 0) else none) else (bif Nat.beq pc 1 then some (.iload_n 2, 0) else none)) else (bif Nat.beq pc 0 then some (.aload_n 0, 0) else none))))))
def cd23 (pc : Nat) : Option (Instr × Nat) := (bif Nat.ble 14 pc then (bif Nat.ble 20 pc then (bif Nat.ble 22 pc then (bif Nat.ble 23 pc then (bif Nat.beq pc 23 then some (.ireturn, 0) else none) else (bif Nat.beq pc 22 then some (.iload_n 3, 0) else none)) else (bif Nat.ble 21 pc then (bif Nat.beq pc 21 then some (.ireturn, 0) else none) else (bif Nat.beq pc 20 then some (.iconst (-1), 0) else none))) else (bif Nat.ble 16 pc then (bif Nat.ble 17 pc then (bif Nat.beq pc 17 then some (.if_icmp .eq 5, 22) else none) else (bif Nat.beq pc 16 then some (.iload_n 2, 0) else none)) else (bif Nat.ble 15 pc then (bif Nat.beq pc 15 then some (.iaload, 0) else none) else (bif Nat.beq pc 14 then some (.iload_n 3, 0) else none)))) else (bif Nat.ble 6 pc then (bif Nat.ble 10 pc then (bif Nat.ble 11 pc then (bif Nat.beq pc 11 then some (.getfield 20, 3) else none) else (bif Nat.beq pc 10 then some (.aload_n 0, 0) else none)) else (bif Nat.ble 7 pc then (bif Nat.beq pc 7 then some (.ifCond .lt 13, 20) else none) else (bif Nat.beq pc 6 then some (.iload_n 3, 0) else none))) else (bif Nat.ble 2 pc then (bif Nat.ble 5 pc then (bif Nat.beq pc 5 then some (.istore_n 3, 0) else none) else (bif Nat.beq pc 2 then some (.invokevirtual 111, 10) else none)) else (bif Nat.ble 1 pc then (bif Nat.beq pc 1 then some (.iload_n 1, 0) else none) else (bif Nat.beq pc 0 then some (.aload_n 0, 0) else none)))))
def cd24 (pc : Nat) : Option (Instr × Nat) := (bif Nat.ble 33 pc then (bif Nat.ble 50 pc then (bif Nat.ble 57 pc then (bif Nat.ble 61 pc then (bif Nat.ble 64 pc then (bif Nat.ble 65 pc then (bif Nat.beq pc 65 then some (.ireturn, 0) else none) else (bif Nat.beq pc 64 then some (.iconst (-1), 0) else none)) else (bif Nat.beq pc 61 then some (.goto (-58), 3) else none)) else (bif Nat.ble 58 pc then (bif Nat.beq pc 58 then some (.iinc 4 1, 0) else none) else (bif Nat.beq pc 57 then some (.ireturn, 0) else none))) else (bif Nat.ble 52 pc then (bif Nat.ble 55 pc then (bif Nat.beq pc 55 then some (.iload 4, 0) else none) else (bif Nat.beq pc 52 then some (.if_icmp .ne 6, 58) else none)) else (bif Nat.ble 51 pc then (bif Nat.beq pc 51 then some (.iload_n 3, 0) else none) else (bif Nat.beq pc 50 then some (.iaload, 0) else none)))) else (bif Nat.ble 40 pc then (bif Nat.ble 44 pc then (bif Nat.ble 45 pc then (bif Nat.ble 48 pc then (bif Nat.beq pc 48 then some (.iload 4, 0) else none) else (bif Nat.beq pc 45 then some (.getfield 26, 5) else none)) else (bif Nat.beq pc 44 then some (.aload_n 0, 0) else none)) else (bif Nat.ble 41 pc then (bif Nat.beq pc 41 then some (.if_icmp .ne 17, 58) else none) else (bif Nat.beq pc 40 then some (.iload_n 2, 0) else none))) else (bif Nat.ble 37 pc then (bif Nat.ble 39 pc then (bif Nat.beq pc 39 then some (.iaload, 0) else none) else (bif Nat.beq pc 37 then some (.iload 4, 0) else none)) else (bif Nat.ble 34 pc then (bif Nat.beq pc 34 then some (.getfield 23, 4) else none) else (bif Nat.beq pc 33 then some (.aload_n 0, 0) else none))))) else (bif Nat.ble 16 pc then (bif Nat.ble 23 pc then (bif Nat.ble 28 pc then (bif Nat.ble 29 pc then (bif Nat.ble 30 pc then (bif Nat.beq pc 30 then some (.if_icmp .ne 28, 58) else none) else (bif Nat.beq pc 29 then some (.iload_n 1, 0) else none)) else (bif Nat.beq pc 28 then some (.iaload, 0) else none)) else (bif Nat.ble 26 pc then (bif Nat.beq pc 26 then some (.iload 4, 0) else none) else (bif Nat.beq pc 23 then some (.getfield 20, 3) else none))) else (bif Nat.ble 19 pc then (bif Nat.ble 22 pc then (bif Nat.beq pc 22 then some (.aload_n 0, 0) else none) else (bif Nat.beq pc 19 then some (.ifCond .eq 39, 58) else none)) else (bif Nat.ble 18 pc then (bif Nat.beq pc 18 then some (.baload, 0) else none) else (bif Nat.beq pc 16 then some (.iload 4, 0) else none)))) else (bif Nat.ble 6 pc then (bif Nat.ble 12 pc then (bif Nat.ble 13 pc then (bif Nat.beq pc 13 then some (.getfield 7, 0) else none) else (bif Nat.beq pc 12 then some (.aload_n 0, 0) else none)) else (bif Nat.ble 9 pc then (bif Nat.beq pc 9 then some (.if_icmp .ge 55, 64) else none) else (bif Nat.beq pc 6 then some (.getfield 43, 9) else none))) else (bif Nat.ble 3 pc then (bif Nat.ble 5 pc then (bif Nat.beq pc 5 then some (.aload_n 0, 0) else none) else (bif Nat.beq pc 3 then some (.iload 4, 0) else none)) else (bif Nat.ble 1 pc then (bif Nat.beq pc 1 then some (.istore 4, 0) else none) else (bif Nat.beq pc 0 then some (.iconst 0, 0) else none))))))
def cd25 (pc : Nat) : Option (Instr × Nat) := (bif Nat.ble 19 pc then (bif Nat.ble 31 pc then (bif Nat.ble 36 pc then (bif Nat.ble 39 pc then (bif Nat.ble 40 pc then (bif Nat.beq pc 40 then some (.ireturn, 0) else none) else (bif Nat.beq pc 39 then some (.iconst (-1), 0) else none)) else (bif Nat.beq pc 36 then some (.goto (-34), 2) else none)) else (bif Nat.ble 32 pc then (bif Nat.ble 33 pc then (bif Nat.beq pc 33 then some (.iinc 1 1, 0) else none) else (bif Nat.beq pc 32 then some (.ireturn, 0) else none)) else (bif Nat.beq pc 31 then some (.iload_n 1, 0) else none))) else (bif Nat.ble 24 pc then (bif Nat.ble 25 pc then (bif Nat.ble 28 pc then (bif Nat.beq pc 28 then some (.if_icmp .gt 5, 33) else none) else (bif Nat.beq pc 25 then some (.getfield 56, 13) else none)) else (bif Nat.beq pc 24 then some (.aload_n 0, 0) else none)) else (bif Nat.ble 20 pc then (bif Nat.ble 21 pc then (bif Nat.beq pc 21 then some (.invokevirtual 118, 17) else none) else (bif Nat.beq pc 20 then some (.iload_n 1, 0) else none)) else (bif Nat.beq pc 19 then some (.aload_n 0, 0) else none)))) else (bif Nat.ble 7 pc then (bif Nat.ble 14 pc then (bif Nat.ble 15 pc then (bif Nat.ble 16 pc then (bif Nat.beq pc 16 then some (.ifCond .ne 17, 33) else none) else (bif Nat.beq pc 15 then some (.baload, 0) else none)) else (bif Nat.beq pc 14 then some (.iload_n 1, 0) else none)) else (bif Nat.ble 10 pc then (bif Nat.ble 11 pc then (bif Nat.beq pc 11 then some (.getfield 7, 0) else none) else (bif Nat.beq pc 10 then some (.aload_n 0, 0) else none)) else (bif Nat.beq pc 7 then some (.if_icmp .ge 32, 39) else none))) else (bif Nat.ble 2 pc then (bif Nat.ble 3 pc then (bif Nat.ble 4 pc then (bif Nat.beq pc 4 then some (.getfield 43, 9) else none) else (bif Nat.beq pc 3 then some (.aload_n 0, 0) else none)) else (bif Nat.beq pc 2 then some (.iload_n 1, 0) else none)) else (bif Nat.ble 1 pc then (bif Nat.beq pc 1 then some (.istore_n 1, 0) else none) else (bif Nat.beq pc 0 then some (.iconst 0, 0) else none)))))
def cd26 (pc : Nat) : Option (Instr × Nat) := (bif Nat.ble 29 pc then (bif Nat.ble 46 pc then (bif Nat.ble 55 pc then (bif Nat.ble 57 pc then (bif Nat.ble 58 pc then (bif Nat.ble 61 pc then (bif Nat.beq pc 61 then some (.return_, 0) else none) else (bif Nat.beq pc 58 then some (.invokevirtual 121, 27) else none)) else (bif Nat.beq pc 57 then some (.iload_n 1, 0) else none)) else (bif Nat.ble 56 pc then (bif Nat.beq pc 56 then some (.aload_n 0, 0) else none) else (bif Nat.beq pc 55 then some (.iastore, 0) else none))) else (bif Nat.ble 50 pc then (bif Nat.ble 51 pc then (bif Nat.ble 52 pc then (bif Nat.beq pc 52 then some (.getfield 56, 13) else none) else (bif Nat.beq pc 51 then some (.aload_n 0, 0) else none)) else (bif Nat.beq pc 50 then some (.iload_n 1, 0) else none)) else (bif Nat.ble 47 pc then (bif Nat.beq pc 47 then some (.getfield 32, 7) else none) else (bif Nat.beq pc 46 then some (.aload_n 0, 0) else none)))) else (bif Nat.ble 37 pc then (bif Nat.ble 41 pc then (bif Nat.ble 44 pc then (bif Nat.ble 45 pc then (bif Nat.beq pc 45 then some (.iastore, 0) else none) else (bif Nat.beq pc 44 then some (.iconst 1, 0) else none)) else (bif Nat.beq pc 41 then some (.goto 4, 45) else none)) else (bif Nat.ble 40 pc then (bif Nat.beq pc 40 then some (.iconst 0, 0) else none) else (bif Nat.beq pc 37 then some (.if_icmp .ne 7, 44) else none))) else (bif Nat.ble 33 pc then (bif Nat.ble 34 pc then (bif Nat.ble 35 pc then (bif Nat.beq pc 35 then some (.bipush 17, 0) else none) else (bif Nat.beq pc 34 then some (.iload_n 2, 0) else none)) else (bif Nat.beq pc 33 then some (.iload_n 1, 0) else none)) else (bif Nat.ble 30 pc then (bif Nat.beq pc 30 then some (.getfield 29, 6) else none) else (bif Nat.beq pc 29 then some (.aload_n 0, 0) else none))))) else (bif Nat.ble 14 pc then (bif Nat.ble 21 pc then (bif Nat.ble 25 pc then (bif Nat.ble 26 pc then (bif Nat.ble 28 pc then (bif Nat.beq pc 28 then some (.iastore, 0) else none) else (bif Nat.beq pc 26 then some (.iload 4, 0) else none)) else (bif Nat.beq pc 25 then some (.iload_n 1, 0) else none)) else (bif Nat.ble 22 pc then (bif Nat.beq pc 22 then some (.getfield 26, 5) else none) else (bif Nat.beq pc 21 then some (.aload_n 0, 0) else none))) else (bif Nat.ble 18 pc then (bif Nat.ble 19 pc then (bif Nat.ble 20 pc then (bif Nat.beq pc 20 then some (.iastore, 0) else none) else (bif Nat.beq pc 19 then some (.iload_n 3, 0) else none)) else (bif Nat.beq pc 18 then some (.iload_n 1, 0) else none)) else (bif Nat.ble 15 pc then (bif Nat.beq pc 15 then some (.getfield 23, 4) else none) else (bif Nat.beq pc 14 then some (.aload_n 0, 0) else none)))) else (bif Nat.ble 7 pc then (bif Nat.ble 11 pc then (bif Nat.ble 12 pc then (bif Nat.ble 13 pc then (bif Nat.beq pc 13 then some (.iastore, 0) else none) else (bif Nat.beq pc 12 then some (.iload_n 2, 0) else none)) else (bif Nat.beq pc 11 then some (.iload_n 1, 0) else none)) else (bif Nat.ble 8 pc then (bif Nat.beq pc 8 then some (.getfield 20, 3) else none) else (bif Nat.beq pc 7 then some (.aload_n 0, 0) else none))) else (bif Nat.ble 4 pc then (bif Nat.ble 5 pc then (bif Nat.ble 6 pc then (bif Nat.beq pc 6 then some (.bastore, 0) else none) else (bif Nat.beq pc 5 then some (.iconst 1, 0) else none)) else (bif Nat.beq pc 4 then some (.iload_n 1, 0) else none)) else (bif Nat.ble 1 pc then (bif Nat.beq pc 1 then some (.getfield 7, 0) else none) else (bif Nat.beq pc 0 then some (.aload_n 0, 0) else none))))))
def cd27 (pc : Nat) : Option (Instr × Nat) := (bif Nat.ble 11 pc then (bif Nat.ble 18 pc then (bif Nat.ble 20 pc then (bif Nat.ble 23 pc then (bif Nat.ble 26 pc then (bif Nat.beq pc 26 then some (.return_, 0) else none) else (bif Nat.beq pc 23 then some (.goto (-17), 6) else none)) else (bif Nat.beq pc 20 then some (.iinc 3 1, 0) else none)) else (bif Nat.ble 19 pc then (bif Nat.beq pc 19 then some (.lastore, 0) else none) else (bif Nat.beq pc 18 then some (.lconst 0, 0) else none))) else (bif Nat.ble 15 pc then (bif Nat.ble 16 pc then (bif Nat.ble 17 pc then (bif Nat.beq pc 17 then some (.iadd, 0) else none) else (bif Nat.beq pc 16 then some (.iload_n 3, 0) else none)) else (bif Nat.beq pc 15 then some (.iload_n 2, 0) else none)) else (bif Nat.ble 12 pc then (bif Nat.beq pc 12 then some (.getfield 35, 8) else none) else (bif Nat.beq pc 11 then some (.aload_n 0, 0) else none)))) else (bif Nat.ble 4 pc then (bif Nat.ble 6 pc then (bif Nat.ble 7 pc then (bif Nat.ble 8 pc then (bif Nat.beq pc 8 then some (.if_icmp .ge 18, 26) else none) else (bif Nat.beq pc 7 then some (.iconst 4, 0) else none)) else (bif Nat.beq pc 6 then some (.iload_n 3, 0) else none)) else (bif Nat.ble 5 pc then (bif Nat.beq pc 5 then some (.istore_n 3, 0) else none) else (bif Nat.beq pc 4 then some (.iconst 0, 0) else none))) else (bif Nat.ble 2 pc then (bif Nat.ble 3 pc then (bif Nat.beq pc 3 then some (.istore_n 2, 0) else none) else (bif Nat.beq pc 2 then some (.imul, 0) else none)) else (bif Nat.ble 1 pc then (bif Nat.beq pc 1 then some (.iconst 4, 0) else none) else (bif Nat.beq pc 0 then some (.iload_n 1, 0) else none)))))
def cd28 (pc : Nat) : Option (Instr × Nat) := (bif Nat.ble 15 pc then (bif Nat.ble 23 pc then (bif Nat.ble 27 pc then (bif Nat.ble 29 pc then (bif Nat.ble 30 pc then (bif Nat.beq pc 30 then some (.return_, 0) else none) else (bif Nat.beq pc 29 then some (.lastore, 0) else none)) else (bif Nat.ble 28 pc then (bif Nat.beq pc 28 then some (.lor, 0) else none) else (bif Nat.beq pc 27 then some (.lshl, 0) else none))) else (bif Nat.ble 24 pc then (bif Nat.ble 26 pc then (bif Nat.beq pc 26 then some (.iand, 0) else none) else (bif Nat.beq pc 24 then some (.bipush 63, 0) else none)) else (bif Nat.beq pc 23 then some (.iload_n 2, 0) else none))) else (bif Nat.ble 20 pc then (bif Nat.ble 21 pc then (bif Nat.ble 22 pc then (bif Nat.beq pc 22 then some (.lconst 1, 0) else none) else (bif Nat.beq pc 21 then some (.laload, 0) else none)) else (bif Nat.beq pc 20 then some (.iload_n 3, 0) else none)) else (bif Nat.ble 16 pc then (bif Nat.ble 17 pc then (bif Nat.beq pc 17 then some (.getfield 35, 8) else none) else (bif Nat.beq pc 16 then some (.aload_n 0, 0) else none)) else (bif Nat.beq pc 15 then some (.iload_n 3, 0) else none)))) else (bif Nat.ble 7 pc then (bif Nat.ble 10 pc then (bif Nat.ble 11 pc then (bif Nat.ble 12 pc then (bif Nat.beq pc 12 then some (.getfield 35, 8) else none) else (bif Nat.beq pc 11 then some (.aload_n 0, 0) else none)) else (bif Nat.beq pc 10 then some (.istore_n 3, 0) else none)) else (bif Nat.ble 8 pc then (bif Nat.ble 9 pc then (bif Nat.beq pc 9 then some (.iadd, 0) else none) else (bif Nat.beq pc 8 then some (.iand, 0) else none)) else (bif Nat.beq pc 7 then some (.iconst 3, 0) else none))) else (bif Nat.ble 3 pc then (bif Nat.ble 4 pc then (bif Nat.ble 6 pc then (bif Nat.beq pc 6 then some (.ishr, 0) else none) else (bif Nat.beq pc 4 then some (.bipush 6, 0) else none)) else (bif Nat.beq pc 3 then some (.iload_n 2, 0) else none)) else (bif Nat.ble 1 pc then (bif Nat.ble 2 pc then (bif Nat.beq pc 2 then some (.imul, 0) else none) else (bif Nat.beq pc 1 then some (.iconst 4, 0) else none)) else (bif Nat.beq pc 0 then some (.iload_n 1, 0) else none)))))
def cd29 (pc : Nat) : Option (Instr × Nat) := (bif Nat.ble 63 pc then (bif Nat.ble 104 pc then (bif Nat.ble 121 pc then (bif Nat.ble 130 pc then (bif Nat.ble 135 pc then (bif Nat.ble 136 pc then (bif Nat.ble 137 pc then (bif Nat.beq pc 137 then some (.return_, 0) else none) else (bif Nat.beq pc 136 then some (.iastore, 0) else none)) else (bif Nat.beq pc 135 then some (.iadd, 0) else none)) else (bif Nat.ble 132 pc then (bif Nat.beq pc 132 then some (.invokevirtual 125, 30) else none) else (bif Nat.beq pc 130 then some (.iload 4, 0) else none))) else (bif Nat.ble 125 pc then (bif Nat.ble 126 pc then (bif Nat.ble 129 pc then (bif Nat.beq pc 129 then some (.aload_n 0, 0) else none) else (bif Nat.beq pc 126 then some (.getfield 56, 13) else none)) else (bif Nat.beq pc 125 then some (.aload_n 0, 0) else none)) else (bif Nat.ble 124 pc then (bif Nat.beq pc 124 then some (.iload_n 1, 0) else none) else (bif Nat.beq pc 121 then some (.getfield 32, 7) else none)))) else (bif Nat.ble 113 pc then (bif Nat.ble 117 pc then (bif Nat.ble 119 pc then (bif Nat.ble 120 pc then (bif Nat.beq pc 120 then some (.aload_n 0, 0) else none) else (bif Nat.beq pc 119 then some (.iastore, 0) else none)) else (bif Nat.beq pc 117 then some (.iload 4, 0) else none)) else (bif Nat.ble 116 pc then (bif Nat.beq pc 116 then some (.iload_n 1, 0) else none) else (bif Nat.beq pc 113 then some (.getfield 29, 6) else none))) else (bif Nat.ble 109 pc then (bif Nat.ble 110 pc then (bif Nat.ble 112 pc then (bif Nat.beq pc 112 then some (.aload_n 0, 0) else none) else (bif Nat.beq pc 110 then some (.istore 4, 0) else none)) else (bif Nat.beq pc 109 then some (.iconst 1, 0) else none)) else (bif Nat.ble 106 pc then (bif Nat.beq pc 106 then some (.ifCond .ne 6, 112) else none) else (bif Nat.beq pc 104 then some (.iload 6, 0) else none))))) else (bif Nat.ble 83 pc then (bif Nat.ble 93 pc then (bif Nat.ble 96 pc then (bif Nat.ble 99 pc then (bif Nat.ble 101 pc then (bif Nat.beq pc 101 then some (.ifCond .eq 11, 112) else none) else (bif Nat.beq pc 99 then some (.iload 5, 0) else none)) else (bif Nat.beq pc 96 then some (.if_icmp .ne 16, 112) else none)) else (bif Nat.ble 95 pc then (bif Nat.beq pc 95 then some (.iconst 3, 0) else none) else (bif Nat.beq pc 93 then some (.iload 4, 0) else none))) else (bif Nat.ble 86 pc then (bif Nat.ble 89 pc then (bif Nat.ble 90 pc then (bif Nat.beq pc 90 then some (.ifCond .ne 22, 112) else none) else (bif Nat.beq pc 89 then some (.iload_n 3, 0) else none)) else (bif Nat.beq pc 86 then some (.goto 26, 112) else none)) else (bif Nat.ble 84 pc then (bif Nat.beq pc 84 then some (.istore 4, 0) else none) else (bif Nat.beq pc 83 then some (.iconst 2, 0) else none)))) else (bif Nat.ble 70 pc then (bif Nat.ble 75 pc then (bif Nat.ble 78 pc then (bif Nat.ble 80 pc then (bif Nat.beq pc 80 then some (.ifCond .eq 9, 89) else none) else (bif Nat.beq pc 78 then some (.iload 6, 0) else none)) else (bif Nat.beq pc 75 then some (.ifCond .eq 14, 89) else none)) else (bif Nat.ble 73 pc then (bif Nat.beq pc 73 then some (.iload 5, 0) else none) else (bif Nat.beq pc 70 then some (.if_icmp .ne 19, 89) else none))) else (bif Nat.ble 67 pc then (bif Nat.ble 69 pc then (bif Nat.beq pc 69 then some (.iconst 1, 0) else none) else (bif Nat.beq pc 67 then some (.iload 4, 0) else none)) else (bif Nat.ble 64 pc then (bif Nat.beq pc 64 then some (.ifCond .eq 25, 89) else none) else (bif Nat.beq pc 63 then some (.iload_n 3, 0) else none)))))) else (bif Nat.ble 31 pc then (bif Nat.ble 45 pc then (bif Nat.ble 53 pc then (bif Nat.ble 57 pc then (bif Nat.ble 58 pc then (bif Nat.ble 60 pc then (bif Nat.beq pc 60 then some (.goto 52, 112) else none) else (bif Nat.beq pc 58 then some (.istore 4, 0) else none)) else (bif Nat.beq pc 57 then some (.iconst 3, 0) else none)) else (bif Nat.ble 54 pc then (bif Nat.beq pc 54 then some (.ifCond .eq 9, 63) else none) else (bif Nat.beq pc 53 then some (.iand, 0) else none))) else (bif Nat.ble 49 pc then (bif Nat.ble 51 pc then (bif Nat.ble 52 pc then (bif Nat.beq pc 52 then some (.iconst 4, 0) else none) else (bif Nat.beq pc 51 then some (.iload_n 2, 0) else none)) else (bif Nat.beq pc 49 then some (.istore 6, 0) else none)) else (bif Nat.ble 48 pc then (bif Nat.beq pc 48 then some (.iconst 0, 0) else none) else (bif Nat.beq pc 45 then some (.goto 4, 49) else none)))) else (bif Nat.ble 38 pc then (bif Nat.ble 40 pc then (bif Nat.ble 41 pc then (bif Nat.ble 44 pc then (bif Nat.beq pc 44 then some (.iconst 1, 0) else none) else (bif Nat.beq pc 41 then some (.ifCond .eq 7, 48) else none)) else (bif Nat.beq pc 40 then some (.iand, 0) else none)) else (bif Nat.ble 39 pc then (bif Nat.beq pc 39 then some (.iconst 2, 0) else none) else (bif Nat.beq pc 38 then some (.iload_n 2, 0) else none))) else (bif Nat.ble 35 pc then (bif Nat.ble 36 pc then (bif Nat.beq pc 36 then some (.istore 5, 0) else none) else (bif Nat.beq pc 35 then some (.iconst 0, 0) else none)) else (bif Nat.ble 32 pc then (bif Nat.beq pc 32 then some (.goto 4, 36) else none) else (bif Nat.beq pc 31 then some (.iconst 1, 0) else none))))) else (bif Nat.ble 16 pc then (bif Nat.ble 23 pc then (bif Nat.ble 26 pc then (bif Nat.ble 27 pc then (bif Nat.ble 28 pc then (bif Nat.beq pc 28 then some (.ifCond .eq 7, 35) else none) else (bif Nat.beq pc 27 then some (.iand, 0) else none)) else (bif Nat.beq pc 26 then some (.iconst 1, 0) else none)) else (bif Nat.ble 25 pc then (bif Nat.beq pc 25 then some (.iload_n 2, 0) else none) else (bif Nat.beq pc 23 then some (.istore 4, 0) else none))) else (bif Nat.ble 18 pc then (bif Nat.ble 21 pc then (bif Nat.ble 22 pc then (bif Nat.beq pc 22 then some (.iaload, 0) else none) else (bif Nat.beq pc 21 then some (.iload_n 1, 0) else none)) else (bif Nat.beq pc 18 then some (.getfield 29, 6) else none)) else (bif Nat.ble 17 pc then (bif Nat.beq pc 17 then some (.aload_n 0, 0) else none) else (bif Nat.beq pc 16 then some (.return_, 0) else none)))) else (bif Nat.ble 7 pc then (bif Nat.ble 9 pc then (bif Nat.ble 10 pc then (bif Nat.ble 13 pc then (bif Nat.beq pc 13 then some (.invokevirtual 108, 32) else none) else (bif Nat.beq pc 10 then some (.getfield 56, 13) else none)) else (bif Nat.beq pc 9 then some (.aload_n 0, 0) else none)) else (bif Nat.ble 8 pc then (bif Nat.beq pc 8 then some (.iload_n 1, 0) else none) else (bif Nat.beq pc 7 then some (.aload_n 0, 0) else none))) else (bif Nat.ble 3 pc then (bif Nat.ble 4 pc then (bif Nat.beq pc 4 then some (.ifCond .eq 13, 17) else none) else (bif Nat.beq pc 3 then some (.iand, 0) else none)) else (bif Nat.ble 1 pc then (bif Nat.beq pc 1 then some (.bipush 8, 0) else none) else (bif Nat.beq pc 0 then some (.iload_n 2, 0) else none)))))))
def cd30 (pc : Nat) : Option (Instr × Nat) := (bif Nat.ble 10 pc then (bif Nat.ble 15 pc then (bif Nat.ble 19 pc then (bif Nat.ble 21 pc then (bif Nat.beq pc 21 then some (.ireturn, 0) else none) else (bif Nat.beq pc 19 then some (.bipush 10, 0) else none)) else (bif Nat.ble 18 pc then (bif Nat.beq pc 18 then some (.ireturn, 0) else none) else (bif Nat.beq pc 15 then some (.getfield 50, 11) else none))) else (bif Nat.ble 11 pc then (bif Nat.ble 14 pc then (bif Nat.beq pc 14 then some (.aload_n 0, 0) else none) else (bif Nat.beq pc 11 then some (.if_icmp .ne 8, 19) else none)) else (bif Nat.beq pc 10 then some (.iconst 2, 0) else none))) else (bif Nat.ble 5 pc then (bif Nat.ble 8 pc then (bif Nat.ble 9 pc then (bif Nat.beq pc 9 then some (.iload_n 1, 0) else none) else (bif Nat.beq pc 8 then some (.ireturn, 0) else none)) else (bif Nat.beq pc 5 then some (.getfield 47, 10) else none)) else (bif Nat.ble 1 pc then (bif Nat.ble 4 pc then (bif Nat.beq pc 4 then some (.aload_n 0, 0) else none) else (bif Nat.beq pc 1 then some (.ifCond .ne 8, 9) else none)) else (bif Nat.beq pc 0 then some (.iload_n 1, 0) else none))))
def cd31 (pc : Nat) : Option (Instr × Nat) := (bif Nat.ble 16 pc then (bif Nat.ble 24 pc then (bif Nat.ble 29 pc then (bif Nat.ble 33 pc then (bif Nat.ble 34 pc then (bif Nat.beq pc 34 then some (.ireturn, 0) else none) else (bif Nat.beq pc 33 then some (.iconst 0, 0) else none)) else (bif Nat.ble 30 pc then (bif Nat.beq pc 30 then some (.goto 4, 34) else none) else (bif Nat.beq pc 29 then some (.iconst 1, 0) else none))) else (bif Nat.ble 25 pc then (bif Nat.ble 26 pc then (bif Nat.beq pc 26 then some (.ifCond .eq 7, 33) else none) else (bif Nat.beq pc 25 then some (.lcmp, 0) else none)) else (bif Nat.beq pc 24 then some (.lconst 0, 0) else none))) else (bif Nat.ble 19 pc then (bif Nat.ble 22 pc then (bif Nat.ble 23 pc then (bif Nat.beq pc 23 then some (.land, 0) else none) else (bif Nat.beq pc 22 then some (.lshl, 0) else none)) else (bif Nat.ble 21 pc then (bif Nat.beq pc 21 then some (.iand, 0) else none) else (bif Nat.beq pc 19 then some (.bipush 63, 0) else none))) else (bif Nat.ble 17 pc then (bif Nat.ble 18 pc then (bif Nat.beq pc 18 then some (.iload_n 2, 0) else none) else (bif Nat.beq pc 17 then some (.lconst 1, 0) else none)) else (bif Nat.beq pc 16 then some (.laload, 0) else none)))) else (bif Nat.ble 7 pc then (bif Nat.ble 10 pc then (bif Nat.ble 12 pc then (bif Nat.ble 15 pc then (bif Nat.beq pc 15 then some (.iload_n 3, 0) else none) else (bif Nat.beq pc 12 then some (.getfield 35, 8) else none)) else (bif Nat.ble 11 pc then (bif Nat.beq pc 11 then some (.aload_n 0, 0) else none) else (bif Nat.beq pc 10 then some (.istore_n 3, 0) else none))) else (bif Nat.ble 8 pc then (bif Nat.ble 9 pc then (bif Nat.beq pc 9 then some (.iadd, 0) else none) else (bif Nat.beq pc 8 then some (.iand, 0) else none)) else (bif Nat.beq pc 7 then some (.iconst 3, 0) else none))) else (bif Nat.ble 3 pc then (bif Nat.ble 4 pc then (bif Nat.ble 6 pc then (bif Nat.beq pc 6 then some (.ishr, 0) else none) else (bif Nat.beq pc 4 then some (.bipush 6, 0) else none)) else (bif Nat.beq pc 3 then some (.iload_n 2, 0) else none)) else (bif Nat.ble 1 pc then (bif Nat.ble 2 pc then (bif Nat.beq pc 2 then some (.imul, 0) else none) else (bif Nat.beq pc 1 then some (.iconst 4, 0) else none)) else (bif Nat.beq pc 0 then some (.iload_n 1, 0) else none)))))
def cd32 (pc : Nat) : Option (Instr × Nat) := (bif Nat.ble 13 pc then (bif Nat.ble 20 pc then (bif Nat.ble 22 pc then (bif Nat.ble 23 pc then (bif Nat.ble 26 pc then (bif Nat.beq pc 26 then some (.return_, 0) else none) else (bif Nat.beq pc 23 then some (.invokevirtual 121, 27) else none)) else (bif Nat.beq pc 22 then some (.iload_n 1, 0) else none)) else (bif Nat.ble 21 pc then (bif Nat.beq pc 21 then some (.aload_n 0, 0) else none) else (bif Nat.beq pc 20 then some (.iastore, 0) else none))) else (bif Nat.ble 15 pc then (bif Nat.ble 18 pc then (bif Nat.ble 19 pc then (bif Nat.beq pc 19 then some (.iload_n 2, 0) else none) else (bif Nat.beq pc 18 then some (.iload_n 1, 0) else none)) else (bif Nat.beq pc 15 then some (.getfield 16, 2) else none)) else (bif Nat.ble 14 pc then (bif Nat.beq pc 14 then some (.aload_n 0, 0) else none) else (bif Nat.beq pc 13 then some (.bastore, 0) else none)))) else (bif Nat.ble 6 pc then (bif Nat.ble 8 pc then (bif Nat.ble 11 pc then (bif Nat.ble 12 pc then (bif Nat.beq pc 12 then some (.iconst 1, 0) else none) else (bif Nat.beq pc 11 then some (.iload_n 1, 0) else none)) else (bif Nat.beq pc 8 then some (.getfield 13, 1) else none)) else (bif Nat.ble 7 pc then (bif Nat.beq pc 7 then some (.aload_n 0, 0) else none) else (bif Nat.beq pc 6 then some (.bastore, 0) else none))) else (bif Nat.ble 4 pc then (bif Nat.ble 5 pc then (bif Nat.beq pc 5 then some (.iconst 0, 0) else none) else (bif Nat.beq pc 4 then some (.iload_n 1, 0) else none)) else (bif Nat.ble 1 pc then (bif Nat.beq pc 1 then some (.getfield 7, 0) else none) else (bif Nat.beq pc 0 then some (.aload_n 0, 0) else none)))))
def cd33 (pc : Nat) : Option (Instr × Nat) := (bif Nat.ble 36 pc then (bif Nat.ble 52 pc then (bif Nat.ble 59 pc then (bif Nat.ble 61 pc then (bif Nat.ble 64 pc then (bif Nat.ble 65 pc then (bif Nat.beq pc 65 then some (.ireturn, 0) else none) else (bif Nat.beq pc 64 then some (.iconst 3, 0) else none)) else (bif Nat.beq pc 61 then some (.invokevirtual 94, 29) else none)) else (bif Nat.ble 60 pc then (bif Nat.beq pc 60 then some (.iconst 1, 0) else none) else (bif Nat.beq pc 59 then some (.iload_n 2, 0) else none))) else (bif Nat.ble 54 pc then (bif Nat.ble 57 pc then (bif Nat.ble 58 pc then (bif Nat.beq pc 58 then some (.iload_n 3, 0) else none) else (bif Nat.beq pc 57 then some (.aload_n 0, 0) else none)) else (bif Nat.beq pc 54 then some (.putfield 68, 17) else none)) else (bif Nat.ble 53 pc then (bif Nat.beq pc 53 then some (.iaload, 0) else none) else (bif Nat.beq pc 52 then some (.iload_n 3, 0) else none)))) else (bif Nat.ble 43 pc then (bif Nat.ble 47 pc then (bif Nat.ble 48 pc then (bif Nat.ble 49 pc then (bif Nat.beq pc 49 then some (.getfield 26, 5) else none) else (bif Nat.beq pc 48 then some (.aload_n 0, 0) else none)) else (bif Nat.beq pc 47 then some (.aload_n 0, 0) else none)) else (bif Nat.ble 44 pc then (bif Nat.beq pc 44 then some (.putfield 65, 16) else none) else (bif Nat.beq pc 43 then some (.iaload, 0) else none))) else (bif Nat.ble 38 pc then (bif Nat.ble 39 pc then (bif Nat.ble 42 pc then (bif Nat.beq pc 42 then some (.iload_n 3, 0) else none) else (bif Nat.beq pc 39 then some (.getfield 23, 4) else none)) else (bif Nat.beq pc 38 then some (.aload_n 0, 0) else none)) else (bif Nat.ble 37 pc then (bif Nat.beq pc 37 then some (.aload_n 0, 0) else none) else (bif Nat.beq pc 36 then some (.ireturn, 0) else none))))) else (bif Nat.ble 16 pc then (bif Nat.ble 27 pc then (bif Nat.ble 31 pc then (bif Nat.ble 32 pc then (bif Nat.ble 35 pc then (bif Nat.beq pc 35 then some (.iconst 4, 0) else none) else (bif Nat.beq pc 32 then some (.putfield 68, 17) else none)) else (bif Nat.beq pc 31 then some (.iconst (-1), 0) else none)) else (bif Nat.ble 30 pc then (bif Nat.beq pc 30 then some (.aload_n 0, 0) else none) else (bif Nat.beq pc 27 then some (.putfield 65, 16) else none))) else (bif Nat.ble 22 pc then (bif Nat.ble 25 pc then (bif Nat.ble 26 pc then (bif Nat.beq pc 26 then some (.iconst (-1), 0) else none) else (bif Nat.beq pc 25 then some (.aload_n 0, 0) else none)) else (bif Nat.beq pc 22 then some (.ifCond .ne 15, 37) else none)) else (bif Nat.ble 19 pc then (bif Nat.beq pc 19 then some (.invokevirtual 105, 31) else none) else (bif Nat.beq pc 16 then some (.sipush 255, 0) else none)))) else (bif Nat.ble 9 pc then (bif Nat.ble 11 pc then (bif Nat.ble 14 pc then (bif Nat.ble 15 pc then (bif Nat.beq pc 15 then some (.iload_n 3, 0) else none) else (bif Nat.beq pc 14 then some (.aload_n 0, 0) else none)) else (bif Nat.beq pc 11 then some (.ifCond .lt 14, 25) else none)) else (bif Nat.ble 10 pc then (bif Nat.beq pc 10 then some (.iload_n 3, 0) else none) else (bif Nat.beq pc 9 then some (.istore_n 3, 0) else none))) else (bif Nat.ble 2 pc then (bif Nat.ble 5 pc then (bif Nat.ble 6 pc then (bif Nat.beq pc 6 then some (.invokevirtual 102, 23) else none) else (bif Nat.beq pc 5 then some (.iload_n 1, 0) else none)) else (bif Nat.beq pc 2 then some (.getfield 62, 15) else none)) else (bif Nat.ble 1 pc then (bif Nat.beq pc 1 then some (.aload_n 0, 0) else none) else (bif Nat.beq pc 0 then some (.aload_n 0, 0) else none))))))
def pCode (m pc : Nat) : Option (Instr × Nat) := bif Nat.ble pN m then none else bif Nat.ble pTop pc then none else (bif Nat.ble 17 m then (bif Nat.ble 25 m then (bif Nat.ble 29 m then (bif Nat.ble 31 m then (bif Nat.ble 32 m then (bif Nat.ble 33 m then cd33 pc else cd32 pc) else cd31 pc) else (bif Nat.ble 30 m then cd30 pc else cd29 pc)) else (bif Nat.ble 27 m then (bif Nat.ble 28 m then cd28 pc else cd27 pc) else (bif Nat.ble 26 m then cd26 pc else cd25 pc))) else (bif Nat.ble 21 m then (bif Nat.ble 23 m then (bif Nat.ble 24 m then cd24 pc else cd23 pc) else (bif Nat.ble 22 m then cd22 pc else cd21 pc)) else (bif Nat.ble 19 m then (bif Nat.ble 20 m then cd20 pc else cd19 pc) else (bif Nat.ble 18 m then cd18 pc else cd17 pc)))) else (bif Nat.ble 8 m then (bif Nat.ble 12 m then (bif Nat.ble 14 m then (bif Nat.ble 15 m then (bif Nat.ble 16 m then cd16 pc else cd15 pc) else cd14 pc) else (bif Nat.ble 13 m then cd13 pc else cd12 pc)) else (bif Nat.ble 10 m then (bif Nat.ble 11 m then cd11 pc else cd10 pc) else (bif Nat.ble 9 m then cd9 pc else cd8 pc))) else (bif Nat.ble 4 m then (bif Nat.ble 6 m then (bif Nat.ble 7 m then cd7 pc else cd6 pc) else (bif Nat.ble 5 m then cd5 pc else cd4 pc)) else (bif Nat.ble 2 m then (bif Nat.ble 3 m then cd3 pc else cd2 pc) else (bif Nat.ble 1 m then cd1 pc else cd0 pc)))))
def lkF : List (Nat × Nat × Nat) := [(1, 7, 0), (1, 13, 1), (1, 16, 2), (1, 20, 3), (1, 23, 4), (1, 26, 5), (1, 29, 6), (1, 32, 7), (1, 35, 8), (1, 43, 9), (1, 47, 10), (1, 50, 11), (1, 53, 12), (1, 56, 13), (1, 59, 14), (1, 62, 15), (1, 65, 16), (1, 68, 17), (1, 71, 18)]
def lkN : List (Nat × Nat) := [(0, 12)]
def lkC : List (Nat × Nat × Nat) := [(1, 74, 3)]
def lkD : List (Nat × Nat × Nat) := [(0, 7, 0), (0, 9, 1), (0, 45, 2)]
def lkV : List (Nat × Nat × Nat) := [(0, 51, 1), (1, 39, 2), (0, 54, 3), (0, 11, 4), (0, 17, 5), (0, 20, 6), (0, 23, 7), (0, 26, 8), (0, 29, 9), (1, 111, 10), (1, 115, 11), (0, 33, 12), (0, 36, 13), (0, 39, 14), (0, 42, 15), (0, 47, 16), (1, 118, 17), (0, 71, 18), (0, 63, 19), (1, 75, 20), (0, 60, 21), (0, 67, 22), (1, 102, 23), (1, 79, 24), (1, 82, 25), (1, 86, 26), (1, 121, 27), (1, 90, 28), (1, 94, 29), (1, 125, 30), (1, 105, 31), (1, 108, 32), (1, 98, 33)]
def lkO : List (Nat × Nat) := [(1, 1)]
def mV : List Nat := [4, 5, 6, 7, 8, 9, 12, 13, 14, 15, 16, 18, 19, 21, 22]
def mP : List Nat := [2, 10, 11, 17, 20, 23, 24, 25, 26, 27, 28, 29, 30, 31, 32, 33]
def mS : List Nat := [3]
def mI : List Nat := [1]
def mA : List Nat := [1, 2, 3, 4, 5, 6, 7, 8, 9, 10, 11, 12, 13, 14, 15, 16, 17, 18, 19, 20, 21, 22, 23, 24, 25, 26, 27, 28, 29, 30, 31, 32, 33]
def aTys : List FieldType := [.boolean, .int, .long]
/-! ENGINE: abstract cells, locals, one-step function, and what a triple says of the model. -/
abbrev QCell := List Value ⊕ ((FieldType × List Int32) ⊕ List Int64)
abbrev QHeap := List QCell
abbrev QLoc := List (Option Value)
abbrev vI (x : Int32) : Option Value := some (.int x)
abbrev QSt := Nat × QLoc × List Value × QHeap
def qv (ad : Nat → Addr) : Value → Value
  | .ref k => .ref (ad k)
  | v => v
def qsz : QCell → Nat
  | .inl _ => cN
  | .inr (.inl x) => x.2.length
  | .inr (.inr x) => x.length
def qhs : QHeap → Nat
  | [] => 0
  | c :: t => qsz c + qhs t
def aget {α : Type} (xs : List α) (j : Int32) : Option α := if j < 0 then none else xs[j.toNatClampNeg]?
def aset {α : Type} (xs : List α) (j : Int32) (v : α) : Option (List α) := if j < 0 then none else if j.toNatClampNeg < xs.length then some (xs.set j.toNatClampNeg v) else none
def qnew (n : Int32) : Option Nat := if n < 0 then none else if n.toNatClampNeg ≤ 67108864 then some n.toNatClampNeg else none
def qdiv (x y : Int32) : Option Int32 := if y = 0 then none else some (x / y)
def qrem (x y : Int32) : Option Int32 := if y = 0 then none else some (x % y)
def qboo (x : Int32) : Option Int32 := if x = 0 then some x else if x = 1 then some x else none
def lget : QLoc → Nat → Option Value
  | [], _ => none
  | v :: _, 0 => v
  | _ :: t, k + 1 => lget t k
def hget : QHeap → Nat → Option QCell
  | [], _ => none
  | v :: _, 0 => some v
  | _ :: t, k + 1 => hget t k
def vget : List Value → Nat → Option Value
  | [], _ => none
  | v :: _, 0 => some v
  | _ :: t, k + 1 => vget t k
def lkill (L : QLoc) : Nat → QLoc
  | 0 => L
  | k + 1 => match lget L k with
    | some (.long _) => L.set k none
    | some (.double _) => L.set k none
    | _ => L
def lput (L : QLoc) (k : Nat) (v : Value) : Option QLoc :=
  match v with
  | .long x => bif Nat.ble (k + 2) L.length then some (((lkill L k).set k (some (.long x))).set (k + 1) none) else none
  | .double _ => none
  | v => bif Nat.ble (k + 1) L.length then some ((lkill L k).set k (some v)) else none
/-- push what a local holds, if it is of the kind -/
def qload (pc : Nat) (L : QLoc) (S : List Value) (σ : QHeap) (k : Nat) (ok : Value → Bool) : Option QSt :=
  match lget L k with
  | some v => bif ok v then some (pc, L, v :: S, σ) else none
  | none => none
def isI : Value → Bool | .int _ => true | _ => false
def isJ : Value → Bool | .long _ => true | _ => false
def isR : Value → Bool | .ref _ => true | _ => false
def qstore (pc : Nat) (L : QLoc) (S : List Value) (σ : QHeap) (k : Nat) (ok : Value → Bool) : Option QSt :=
  match S with
  | v :: S' => bif ok v then (match lput L k v with | some L' => some (pc, L', S', σ) | none => none) else none
  | [] => none
def qbin (pc : Nat) (L : QLoc) (S : List Value) (σ : QHeap) (f : Int32 → Int32 → Int32) : Option QSt :=
  match S with
  | .int y :: .int x :: S' => some (pc, L, .int (f x y) :: S', σ)
  | _ => none
def qbino (pc : Nat) (L : QLoc) (S : List Value) (σ : QHeap) (f : Int32 → Int32 → Option Int32) : Option QSt :=
  match S with
  | .int y :: .int x :: S' => (f x y).bind fun z => some (pc, L, .int z :: S', σ)
  | _ => none
def qbinJ (pc : Nat) (L : QLoc) (S : List Value) (σ : QHeap) (f : Int64 → Int64 → Int64) : Option QSt :=
  match S with
  | .long y :: .long x :: S' => some (pc, L, .long (f x y) :: S', σ)
  | _ => none
def qshJ (pc : Nat) (L : QLoc) (S : List Value) (σ : QHeap) (f : Int64 → Int32 → Int64) : Option QSt :=
  match S with
  | .int y :: .long x :: S' => some (pc, L, .long (f x y) :: S', σ)
  | _ => none
def quni (pc : Nat) (L : QLoc) (S : List Value) (σ : QHeap) (f : Int32 → Value) : Option QSt :=
  match S with
  | .int x :: S' => some (pc, L, f x :: S', σ)
  | _ => none
def quniJ (pc : Nat) (L : QLoc) (S : List Value) (σ : QHeap) (f : Int64 → Value) : Option QSt :=
  match S with
  | .long x :: S' => some (pc, L, f x :: S', σ)
  | _ => none
def qald (pc : Nat) (L : QLoc) (S : List Value) (σ : QHeap) (ok : FieldType → Bool) : Option QSt :=
  match S with
  | .int j :: .ref a :: S' => (match hget σ a with
    | some (.inr (.inl x)) => bif ok x.1 then (aget x.2 j).bind fun v => some (pc, L, .int v :: S', σ) else none
    | _ => none)
  | _ => none
def qaldJ (pc : Nat) (L : QLoc) (S : List Value) (σ : QHeap) : Option QSt :=
  match S with
  | .int j :: .ref a :: S' => (match hget σ a with
    | some (.inr (.inr x)) => (aget x j).bind fun v => some (pc, L, .long v :: S', σ)
    | _ => none)
  | _ => none
def qnar : FieldType → Int32 → Int32
  | .boolean, x => x &&& 1
  | .byte, x => x.toInt8.toInt32
  | _, x => x
def qast (pc : Nat) (L : QLoc) (S : List Value) (σ : QHeap) (ok : FieldType → Bool) : Option QSt :=
  match S with
  | .int v :: .int j :: .ref a :: S' => (match hget σ a with
    | some (.inr (.inl x)) => bif ok x.1 && Nat.ble k0 a then (aset x.2 j (qnar x.1 v)).bind fun y => some (pc, L, S', σ.set a (.inr (.inl (x.1, y)))) else none
    | _ => none)
  | _ => none
def qastJ (pc : Nat) (L : QLoc) (S : List Value) (σ : QHeap) : Option QSt :=
  match S with
  | .long v :: .int j :: .ref a :: S' => (match hget σ a with
    | some (.inr (.inr x)) => bif Nat.ble k0 a then (aset x j v).bind fun y => some (pc, L, S', σ.set a (.inr (.inr y))) else none
    | _ => none)
  | _ => none
def tyI : FieldType → Bool | .int => true | _ => false
def tyB : FieldType → Bool | .boolean => true | .byte => true | _ => false
/-- what a value becomes in a field of the type (none: it doesn't fit) -/
def qfit : FieldType → Value → Option Value
  | .int, .int x => some (.int x)
  | .boolean, .int x => (qboo x).bind fun y => some (.int y)
  | .long, .long x => some (.long x)
  | .array t, .ref a => some (.ref a)
  | _, _ => none
def qget (pc : Nat) (L : QLoc) (S : List Value) (σ : QHeap) (k : Nat) : Option QSt :=
  match S with
  | .ref a :: S' => (match hget σ a with
    | some (.inl vs) => (match vget vs k with | some v => some (pc, L, v :: S', σ) | none => none)
    | _ => none)
  | _ => none
def qput (pc : Nat) (L : QLoc) (S : List Value) (σ : QHeap) (k : Nat) : Option QSt :=
  match S with
  | v :: .ref a :: S' => (match hget σ a with
    | some (.inl vs) => bif Nat.ble k0 a && Nat.ble (k + 1) vs.length then (qfit (fTy k) v).bind fun w => some (pc, L, S', σ.set a (.inl (vs.set k w))) else none
    | _ => none)
  | _ => none
def qnewA (pc : Nat) (L : QLoc) (S : List Value) (σ : QHeap) (t : ArrayType) : Option QSt :=
  match S with
  | .int n :: S' => (match t with
    | .int => (qnew n).bind fun k => some (pc, L, .ref σ.length :: S', σ ++ [.inr (.inl (.int, List.replicate k 0))])
    | .boolean => (qnew n).bind fun k => some (pc, L, .ref σ.length :: S', σ ++ [.inr (.inl (.boolean, List.replicate k 0))])
    | .byte => (qnew n).bind fun k => some (pc, L, .ref σ.length :: S', σ ++ [.inr (.inl (.byte, List.replicate k 0))])
    | .long => (qnew n).bind fun k => some (pc, L, .ref σ.length :: S', σ ++ [.inr (.inr (List.replicate k 0))])
    | _ => none)
  | _ => none
def qlen (pc : Nat) (L : QLoc) (S : List Value) (σ : QHeap) : Option QSt :=
  match S with
  | .ref a :: S' => (match hget σ a with
    | some (.inr (.inl x)) => some (pc, L, .int x.2.length.toInt32 :: S', σ)
    | some (.inr (.inr x)) => some (pc, L, .int x.length.toInt32 :: S', σ)
    | _ => none)
  | _ => none
def qdup (pc : Nat) (L : QLoc) (S : List Value) (σ : QHeap) : Option QSt :=
  match S with
  | .int x :: S' => some (pc, L, .int x :: .int x :: S', σ)
  | .ref x :: S' => some (pc, L, .ref x :: .ref x :: S', σ)
  | _ => none
def qdup2 (pc : Nat) (L : QLoc) (S : List Value) (σ : QHeap) : Option QSt :=
  match S with
  | .int x :: .ref y :: S' => some (pc, L, .int x :: .ref y :: .int x :: .ref y :: S', σ)
  | .int x :: .int y :: S' => some (pc, L, .int x :: .int y :: .int x :: .int y :: S', σ)
  | .long x :: S' => some (pc, L, .long x :: .long x :: S', σ)
  | _ => none
def qpop (pc : Nat) (L : QLoc) (S : List Value) (σ : QHeap) : Option QSt :=
  match S with
  | .int _ :: S' => some (pc, L, S', σ)
  | .ref _ :: S' => some (pc, L, S', σ)
  | _ => none
def qif (pc : Nat) (L : QLoc) (S : List Value) (σ : QHeap) (cd : ClassFile.Cond) (tgt : Nat) : Option QSt :=
  match S with
  | .int x :: S' => some (bif ifCond.holds cd x then tgt else pc, L, S', σ)
  | _ => none
def qicmp (pc : Nat) (L : QLoc) (S : List Value) (σ : QHeap) (cd : ClassFile.Cond) (tgt : Nat) : Option QSt :=
  match S with
  | .int y :: .int x :: S' => some (bif if_icmp.holds cd x y then tgt else pc, L, S', σ)
  | _ => none
def qinc (pc : Nat) (L : QLoc) (S : List Value) (σ : QHeap) (k : Nat) (i : Int) : Option QSt :=
  match lget L k with
  | some (.int x) => (match lput L k (.int (x + Int32.ofInt i)) with | some L' => some (pc, L', S, σ) | none => none)
  | _ => none
def qldc (pc : Nat) (L : QLoc) (S : List Value) (σ : QHeap) (k : Nat) : Option QSt :=
  match vget cK k with
  | some v => some (pc, L, v :: S, σ)
  | none => none
def qexec (pc : Nat) (L : QLoc) (S : List Value) (σ : QHeap) (aux : Nat) : Instr → Option QSt
  | .aload_n k => qload (pc + 1) L S σ k.val isR
  | .aload k => qload (pc + 2) L S σ k isR
  | .iload_n k => qload (pc + 1) L S σ k.val isI
  | .iload k => qload (pc + 2) L S σ k isI
  | .lload_n k => qload (pc + 1) L S σ k.val isJ
  | .lload k => qload (pc + 2) L S σ k isJ
  | .iconst i => some (pc + 1, L, .int (Int32.ofInt i) :: S, σ)
  | .bipush i => some (pc + 2, L, .int (Int8.ofInt i).toInt32 :: S, σ)
  | .sipush i => some (pc + 3, L, .int (Int16.ofInt i).toInt32 :: S, σ)
  | .lconst k => some (pc + 1, L, .long (Int64.ofNat k.val) :: S, σ)
  | .ldc _ => qldc (pc + 2) L S σ aux
  | .ldc2_w _ => qldc (pc + 3) L S σ aux
  | .istore_n k => qstore (pc + 1) L S σ k.val isI
  | .istore k => qstore (pc + 2) L S σ k isI
  | .lstore_n k => qstore (pc + 1) L S σ k.val isJ
  | .lstore k => qstore (pc + 2) L S σ k isJ
  | .astore_n k => qstore (pc + 1) L S σ k.val isR
  | .astore k => qstore (pc + 2) L S σ k isR
  | .iinc k i => qinc (pc + 3) L S σ k i
  | .iadd => qbin (pc + 1) L S σ fun x y => x + y
  | .isub => qbin (pc + 1) L S σ fun x y => x - y
  | .imul => qbin (pc + 1) L S σ fun x y => x * y
  | .iand => qbin (pc + 1) L S σ fun x y => x &&& y
  | .ior => qbin (pc + 1) L S σ fun x y => x ||| y
  | .ixor => qbin (pc + 1) L S σ fun x y => x ^^^ y
  | .ishl => qbin (pc + 1) L S σ fun x y => x <<< (y &&& 31)
  | .ishr => qbin (pc + 1) L S σ fun x y => x >>> (y &&& 31)
  | .iushr => qbin (pc + 1) L S σ fun x y => XT.ushr x y
  | .idiv => qbino (pc + 1) L S σ qdiv
  | .irem => qbino (pc + 1) L S σ qrem
  | .ineg => quni (pc + 1) L S σ fun x => .int (-x)
  | .i2l => quni (pc + 1) L S σ fun x => .long x.toInt64
  | .i2b => quni (pc + 1) L S σ fun x => .int x.toInt8.toInt32
  | .l2i => quniJ (pc + 1) L S σ fun x => .int x.toInt32
  | .lneg => quniJ (pc + 1) L S σ fun x => .long (-x)
  | .ladd => qbinJ (pc + 1) L S σ fun x y => x + y
  | .lsub => qbinJ (pc + 1) L S σ fun x y => x - y
  | .lmul => qbinJ (pc + 1) L S σ fun x y => x * y
  | .land => qbinJ (pc + 1) L S σ fun x y => x &&& y
  | .lor => qbinJ (pc + 1) L S σ fun x y => x ||| y
  | .lxor => qbinJ (pc + 1) L S σ fun x y => x ^^^ y
  | .lshl => qshJ (pc + 1) L S σ fun x y => x <<< (y.toInt64 &&& 63)
  | .lshr => qshJ (pc + 1) L S σ fun x y => x >>> (y.toInt64 &&& 63)
  | .lushr => qshJ (pc + 1) L S σ fun x y => XT.ushrL x y
  | .lcmp => (match S with
    | .long y :: .long x :: S' => some (pc + 1, L, .int (XT.cmpL x y) :: S', σ)
    | _ => none)
  | .goto _ => some (aux, L, S, σ)
  | .ifCond cd _ => qif (pc + 3) L S σ cd aux
  | .if_icmp cd _ => qicmp (pc + 3) L S σ cd aux
  | .dup => qdup (pc + 1) L S σ
  | .dup2 => qdup2 (pc + 1) L S σ
  | .pop => qpop (pc + 1) L S σ
  | .getfield _ => qget (pc + 3) L S σ aux
  | .putfield _ => qput (pc + 3) L S σ aux
  | .iaload => qald (pc + 1) L S σ tyI
  | .baload => qald (pc + 1) L S σ tyB
  | .laload => qaldJ (pc + 1) L S σ
  | .iastore => qast (pc + 1) L S σ tyI
  | .bastore => qast (pc + 1) L S σ tyB
  | .lastore => qastJ (pc + 1) L S σ
  | .arraylength => qlen (pc + 1) L S σ
  | .newarray t => qnewA (pc + 2) L S σ t
  | .new _ => some (pc + 3, L, .ref σ.length :: S, σ ++ [.inl cDef])
  | _ => none
def qstep (m : Nat) (st : QSt) : Option QSt :=
  match pCode m st.1 with
  | some (i, aux) => qexec st.1 st.2.1 st.2.2.1 st.2.2.2 aux i
  | none => none
def qsteps (m : Nat) : Nat → QSt → Option QSt
  | 0, st => some st
  | n + 1, st => match qstep m st with | some st' => qsteps m n st' | none => none
def qentry (args : List Value) (mx : Nat) : QLoc := (args.flatMap fun v => match v with | .long x => [some (.long x), none] | .double x => [some (.double x), none] | v => [some v]) ++ List.replicate (mx - (args.map fun v => v.category).sum) none
/-! ## what the abstract state says of the model's -/
def ilen : Instr → Nat
  | .aload _ | .iload _ | .lload _ | .istore _ | .lstore _ | .astore _ | .bipush _ | .ldc _ | .newarray _ => 2
  | .sipush _ | .ldc2_w _ | .iinc _ _ | .goto _ | .ifCond _ _ | .if_icmp _ _ | .getfield _ | .putfield _ | .new _ | .invokevirtual _ | .invokespecial _ | .invokestatic _ => 3
  | _ => 1
def qtgt (pc : Nat) (o : Int) (aux : Nat) : Bool := decide (0 ≤ (pc : Int) + o) && decide (((pc : Int) + o).toNat = aux)
def qlk (m pc : Nat) (i : Instr) (aux : Nat) : Bool :=
  match i with
  | .goto o => qtgt pc o aux
  | .ifCond _ o => qtgt pc o aux
  | .if_icmp _ o => qtgt pc o aux
  | .getfield idx => lkF.contains (pK m, idx, aux)
  | .putfield idx => lkF.contains (pK m, idx, aux) && (!fFin aux || (pK m == 1 && pNm m == "<init>"))
  | .new idx => lkN.contains (pK m, idx)
  | .newarray t => aTys.contains (newarray.typeOf t)
  | .ldc idx => lkC.contains (pK m, idx, aux)
  | .ldc2_w idx => lkD.contains (pK m, idx, aux)
  | _ => true
def qchk (m pc : Nat) (i : Instr) (aux : Nat) : Bool := decide (decode (pBytes m) pc = .ok (i, ilen i)) && qlk m pc i aux
def QCellOk (Z : State) (ad : Nat → Addr) (h : Heap) (a : Addr) : QCell → Prop
  | .inl vs => Exa Z h a cName ∧ vs.length = nF ∧ ∀ (k : Nat) (v : Value), k < nF → vget vs k = some v → Fld Z h a cName (fNm k) (fDs k) (qv ad v)
  | .inr (.inl x) => ∃ c : Cell, Arr Z h a c x.1 ∧ c.slots = (x.2.map Value.int).toArray
  | .inr (.inr x) => ∃ c : Cell, Arr Z h a c .long ∧ c.slots = (x.map Value.long).toArray
def QAd (n0 : Nat) (ad : Nat → Addr) : Prop := (∀ k, k0 ≤ k → ad k = n0 + (k - k0)) ∧ ∀ i j, ad i = ad j → i = j
def QRep (Z : State) (n0 : Nat) (ad : Nat → Addr) (h : Heap) (σ : QHeap) : Prop := k0 ≤ σ.length ∧ h.size = n0 + (σ.length - k0) ∧ ∀ k c, hget σ k = some c → QCellOk Z ad h (ad k) c
def QLocOk (ad : Nat → Addr) (L : QLoc) (C : Array Slot) : Prop :=
  L.length = C.size ∧ (∀ k v, lget L k = some v → C[k]? = some (.val (qv ad v))) ∧ (∀ k w, C[k]? = some (.val w) → w.category = 2 → C[k + 1]? = some .second) ∧ ∀ k, C[k]? = some .second → ∃ j w, k = j + 1 ∧ C[j]? = some (.val w) ∧ w.category = 2
/-- the words of the sheet, as the engine uses them -/
def QW (Z : State) (a0 : Array Value) : Prop :=
  (∀ t ∈ lkF, (Cond.fieldLink (kName t.1) t.2.1 cName (fNm t.2.2) (fDs t.2.2)).before a0 Z = true) ∧
  (∀ t ∈ lkN, (Cond.classLink (kName t.1) t.2 cName).before a0 Z = true) ∧
  (∀ t ∈ lkC, ∃ v, vget cK t.2.2 = some (.int v) ∧ (Cond.constant (kName t.1) t.2.1 v).before a0 Z = true) ∧
  (∀ t ∈ lkD, ∃ v, vget cK t.2.2 = some (.long v) ∧ (Cond.constantLong (kName t.1) t.2.1 v).before a0 Z = true) ∧
  (∀ t ∈ lkV, (Cond.methodLink (kName t.1) t.2.1 (pName t.2.2)).before a0 Z = true) ∧
  (∀ t ∈ lkO, (Cond.methodLink (kName t.1) t.2 Lib.objectInit).before a0 Z = true) ∧
  (∀ m ∈ mV, (Cond.declares (pName m)).before a0 Z = true ∧ (Cond.selects cName (pName m) (pName m)).before a0 Z = true ∧ (Cond.instanceMethod (pName m)).before a0 Z = true) ∧
  (∀ m ∈ mP, (Cond.instanceMethod (pName m)).before a0 Z = true ∧ (Cond.privateMethod (pName m)).before a0 Z = true) ∧
  (∀ m ∈ mS, (Cond.static (pName m)).before a0 Z = true) ∧
  (∀ m ∈ mI, (Cond.instanceMethod (pName m)).before a0 Z = true) ∧
  (∀ m ∈ mA, (Cond.code (pName m) (pBytes m) (pMaxL m) (pRet m)).before a0 Z = true ∧ (Cond.initialized (kName (pK m))).before a0 Z = true) ∧
  (Cond.instanceMethod Lib.objectInit).before a0 Z = true ∧ (Cond.code Lib.objectInit ⟨#[0xb1]⟩ 1 none).before a0 Z = true ∧
  (∀ k, k < nF → bif fFin k then (Cond.laysFinal cName cName (fNm k) (fDs k)).before a0 Z = true else (Cond.lays cName cName (fNm k) (fDs k)).before a0 Z = true) ∧
  (Cond.instantiable cName cN).before a0 Z = true ∧ (Cond.initialized cName).before a0 Z = true ∧
  ∀ ty ∈ aTys, (Cond.arrayClass ty).before a0 Z = true
section Words
variable {Z : State} {a0 : Array Value}
theorem qw_fl (W : QW Z a0) : ∀ t ∈ lkF, (Cond.fieldLink (kName t.1) t.2.1 cName (fNm t.2.2) (fDs t.2.2)).before a0 Z = true := W.1
theorem qw_nw (W : QW Z a0) : ∀ t ∈ lkN, (Cond.classLink (kName t.1) t.2 cName).before a0 Z = true := W.2.1
theorem qw_cI (W : QW Z a0) : ∀ t ∈ lkC, ∃ v, vget cK t.2.2 = some (.int v) ∧ (Cond.constant (kName t.1) t.2.1 v).before a0 Z = true := W.2.2.1
theorem qw_cJ (W : QW Z a0) : ∀ t ∈ lkD, ∃ v, vget cK t.2.2 = some (.long v) ∧ (Cond.constantLong (kName t.1) t.2.1 v).before a0 Z = true := W.2.2.2.1
theorem qw_ml (W : QW Z a0) : ∀ t ∈ lkV, (Cond.methodLink (kName t.1) t.2.1 (pName t.2.2)).before a0 Z = true := W.2.2.2.2.1
theorem qw_mo (W : QW Z a0) : ∀ t ∈ lkO, (Cond.methodLink (kName t.1) t.2 Lib.objectInit).before a0 Z = true := W.2.2.2.2.2.1
theorem qw_vi (W : QW Z a0) : ∀ m ∈ mV, (Cond.declares (pName m)).before a0 Z = true ∧ (Cond.selects cName (pName m) (pName m)).before a0 Z = true ∧ (Cond.instanceMethod (pName m)).before a0 Z = true := W.2.2.2.2.2.2.1
theorem qw_pr (W : QW Z a0) : ∀ m ∈ mP, (Cond.instanceMethod (pName m)).before a0 Z = true ∧ (Cond.privateMethod (pName m)).before a0 Z = true := W.2.2.2.2.2.2.2.1
theorem qw_st (W : QW Z a0) : ∀ m ∈ mS, (Cond.static (pName m)).before a0 Z = true := W.2.2.2.2.2.2.2.2.1
theorem qw_ini (W : QW Z a0) : ∀ m ∈ mI, (Cond.instanceMethod (pName m)).before a0 Z = true := W.2.2.2.2.2.2.2.2.2.1
theorem qw_cod (W : QW Z a0) : ∀ m ∈ mA, (Cond.code (pName m) (pBytes m) (pMaxL m) (pRet m)).before a0 Z = true ∧ (Cond.initialized (kName (pK m))).before a0 Z = true := W.2.2.2.2.2.2.2.2.2.2.1
theorem qw_oi (W : QW Z a0) : (Cond.instanceMethod Lib.objectInit).before a0 Z = true := W.2.2.2.2.2.2.2.2.2.2.2.1
theorem qw_oc (W : QW Z a0) : (Cond.code Lib.objectInit ⟨#[0xb1]⟩ 1 none).before a0 Z = true := W.2.2.2.2.2.2.2.2.2.2.2.2.1
theorem qw_lay (W : QW Z a0) : ∀ k, k < nF → bif fFin k then (Cond.laysFinal cName cName (fNm k) (fDs k)).before a0 Z = true else (Cond.lays cName cName (fNm k) (fDs k)).before a0 Z = true := W.2.2.2.2.2.2.2.2.2.2.2.2.2.1
theorem qw_inst (W : QW Z a0) : (Cond.instantiable cName cN).before a0 Z = true := W.2.2.2.2.2.2.2.2.2.2.2.2.2.2.1
theorem qw_init (W : QW Z a0) : (Cond.initialized cName).before a0 Z = true := W.2.2.2.2.2.2.2.2.2.2.2.2.2.2.2.1
theorem qw_arr (W : QW Z a0) : ∀ ty ∈ aTys, (Cond.arrayClass ty).before a0 Z = true := W.2.2.2.2.2.2.2.2.2.2.2.2.2.2.2.2
end Words
/-! ## small laws of lists -/
theorem hget_eq : ∀ (σ : QHeap) k, hget σ k = σ[k]?
  | [], _ => by simp [hget]
  | _ :: _, 0 => by simp [hget]
  | _ :: t, k + 1 => by simp [hget, hget_eq t k]
theorem vget_eq : ∀ (σ : List Value) k, vget σ k = σ[k]?
  | [], _ => by simp [vget]
  | _ :: _, 0 => by simp [vget]
  | _ :: t, k + 1 => by simp [vget, vget_eq t k]
theorem lget_eq : ∀ (L : QLoc) k, lget L k = (L[k]?).getD none
  | [], _ => by simp [lget]
  | _ :: _, 0 => by simp [lget]
  | _ :: t, k + 1 => by simp [lget, lget_eq t k]
theorem lget_lt {L : QLoc} {k : Nat} {v : Value} (h : lget L k = some v) : k < L.length := by
  rw [lget_eq] at h
  rcases Nat.lt_or_ge k L.length with q | q
  · exact q
  · simp [List.getElem?_eq_none q] at h
theorem lget_set {L : QLoc} {k j : Nat} {o : Option Value} (hk : k < L.length) : lget (L.set k o) j = if j = k then o else lget L j := by
  simp only [lget_eq, List.getElem?_set]
  by_cases e : k = j
  · subst e; simp [hk]
  · simp [e, Ne.symm e]
theorem qhs_app (σ τ : QHeap) : qhs (σ ++ τ) = qhs σ + qhs τ := by
  induction σ with
  | nil => simp [qhs]
  | cons c t ih => simp [qhs, ih, Nat.add_assoc]
theorem qhs_set {σ : QHeap} {k : Nat} {c d : QCell} (h : hget σ k = some c) (hs : qsz d = qsz c) : qhs (σ.set k d) = qhs σ := by
  induction σ generalizing k with
  | nil => simp [hget] at h
  | cons x t ih =>
    cases k with
    | zero => simp only [hget, Option.some.injEq] at h; subst h; simp [qhs, hs]
    | succ k => simp only [hget] at h; simp [qhs, ih h]
theorem hget_set {σ : QHeap} {k j : Nat} {c d : QCell} (h : hget σ k = some c) : hget (σ.set k d) j = if j = k then some d else hget σ j := by
  rw [hget_eq] at h
  have hk := (List.getElem?_eq_some_iff.mp h).1
  simp only [hget_eq, List.getElem?_set]
  by_cases e : k = j
  · subst e; simp [hk]
  · simp [e, Ne.symm e]
theorem lkill_len (L : QLoc) (k : Nat) : (lkill L k).length = L.length := by
  cases k with
  | zero => rfl
  | succ k => simp only [lkill]; split <;> simp
theorem lget_kill {L : QLoc} {k j : Nat} {v : Value} (h : lget (lkill L k) j = some v) : lget L j = some v ∧ (k = j + 1 → v.category ≠ 2) := by
  cases k with
  | zero => exact ⟨h, fun e => by omega⟩
  | succ k =>
    simp only [lkill] at h
    split at h
    · rename_i x q
      rw [lget_set (lget_lt q)] at h
      split at h
      · cases h
      · rename_i ne; exact ⟨h, fun e => absurd (by omega) ne⟩
    · rename_i x q
      rw [lget_set (lget_lt q)] at h
      split at h
      · cases h
      · rename_i ne; exact ⟨h, fun e => absurd (by omega) ne⟩
    · rename_i q1 q2
      refine ⟨h, fun e hc => ?_⟩
      obtain rfl : j = k := by omega
      cases v with
      | long x => exact q1 _ h
      | double x => exact q2 _ h
      | _ => simp [Value.category] at hc
theorem qv_cat (ad : Nat → Addr) (v : Value) : (qv ad v).category = v.category := by cases v <;> rfl
/-! ## storing into a local -/
def kA (C : Array Slot) (k j : Nat) : Prop := k = j + 1 ∧ C[k]? = some .second
def kB (C : Array Slot) (k j : Nat) : Prop := j = k + 1 ∧ ∃ u, C[k]? = some (.val u) ∧ u.category = 2
def kD (C : Array Slot) (k j : Nat) : Prop := j = k + 2 ∧ ∃ u, C[k + 1]? = some (.val u) ∧ u.category = 2
theorem set1_at {C D : Array Slot} {k : Nat} {w : Value} (hk : k < C.size) (hw : w.category = 1) (h : storeLocals C k w = some D) :
    D.size = C.size ∧ D[k]? = some (.val w) ∧ ∀ j, j ≠ k → (D[j]? = C[j]? ∧ ¬ kA C k j ∧ ¬ kB C k j) ∨ D[j]? = some .unset ∧ (kA C k j ∨ kB C k j) := by
  have hck : C[k]? = some C[k] := Array.getElem?_eq_getElem hk
  unfold storeLocals at h
  simp only [hck, Option.bind_eq_bind, Option.bind_some] at h
  have self : ∀ {E : Array Slot}, k < E.size → storeSelf E k w = some D → D = E.setIfInBounds k (.val w) := by
    intro E hE q
    simp only [storeSelf, setAt, hE, if_true, Option.bind_eq_bind, Option.bind_some, hw] at q
    simpa using q.symm
  split at h
  · rename_i q
    have hk1 : k - 1 < C.size := by omega
    simp only [setAt, hk1, if_true, Option.bind_some] at h
    have e := self (by simpa using hk) h
    subst e
    refine ⟨by simp, by simp [hk], fun j hj => ?_⟩
    by_cases ej : k = j + 1
    · refine Or.inr ⟨?_, Or.inl ⟨ej, by rw [hck, q]⟩⟩
      rw [Array.getElem?_setIfInBounds_ne (Ne.symm hj), show j = k - 1 by omega]
      simp [hk1]
    · refine Or.inl ⟨?_, fun x => ej x.1, fun x => ?_⟩
      · rw [Array.getElem?_setIfInBounds_ne (Ne.symm hj), Array.getElem?_setIfInBounds_ne (by omega)]
      · obtain ⟨-, u, x1, -⟩ := x
        rw [hck, q] at x1; cases x1
  · rename_i u q
    split at h
    · rename_i hu
      by_cases hk1 : k + 1 < C.size
      · simp only [setAt, hk1, if_true, Option.bind_some] at h
        have e := self (by simpa using hk) h
        subst e
        refine ⟨by simp, by simp [hk], fun j hj => ?_⟩
        by_cases ej : j = k + 1
        · refine Or.inr ⟨?_, Or.inr ⟨ej, u, by rw [hck, q], hu⟩⟩
          rw [Array.getElem?_setIfInBounds_ne (Ne.symm hj), ej]
          simp [hk1]
        · refine Or.inl ⟨?_, fun x => ?_, fun x => ej x.1⟩
          · rw [Array.getElem?_setIfInBounds_ne (Ne.symm hj), Array.getElem?_setIfInBounds_ne (by omega)]
          · obtain ⟨-, x1⟩ := x
            rw [hck, q] at x1; cases x1
      · simp [setAt, hk1] at h
    · rename_i hu
      have e := self hk h
      subst e
      refine ⟨by simp, by simp [hk], fun j hj => Or.inl ⟨Array.getElem?_setIfInBounds_ne (Ne.symm hj), fun x => ?_, fun x => ?_⟩⟩
      · obtain ⟨-, x1⟩ := x
        rw [hck, q] at x1; cases x1
      · obtain ⟨-, u', x1, x2⟩ := x
        rw [hck, q] at x1; cases x1; exact hu x2
  · rename_i q
    have e := self hk h
    subst e
    refine ⟨by simp, by simp [hk], fun j hj => Or.inl ⟨Array.getElem?_setIfInBounds_ne (Ne.symm hj), fun x => ?_, fun x => ?_⟩⟩
    · obtain ⟨-, x1⟩ := x
      rw [hck, q] at x1; cases x1
    · obtain ⟨-, u', x1, x2⟩ := x
      rw [hck, q] at x1; cases x1
theorem set2_at {C D : Array Slot} {k : Nat} {w : Value} (hk : k + 1 < C.size) (hw : w.category = 2) (wf : ∀ k w, C[k]? = some (.val w) → w.category = 2 → C[k + 1]? = some .second) (h : storeLocals C k w = some D) :
    D.size = C.size ∧ D[k]? = some (.val w) ∧ D[k + 1]? = some .second ∧ ∀ j, j ≠ k → j ≠ k + 1 → (D[j]? = C[j]? ∧ ¬ kA C k j ∧ ¬ kD C k j) ∨ D[j]? = some .unset ∧ (kA C k j ∨ kD C k j) := by
  have hk0 : k < C.size := by omega
  have hck : C[k]? = some C[k] := Array.getElem?_eq_getElem hk0
  unfold storeLocals at h
  simp only [hck, Option.bind_eq_bind, Option.bind_some] at h
  have self : ∀ {E : Array Slot}, E.size = C.size → storeSelf E k w = some D → D.size = C.size ∧ D[k]? = some (.val w) ∧ D[k + 1]? = some .second ∧ ∀ j, j ≠ k → j ≠ k + 1 → (D[j]? = E[j]? ∧ ¬ kD E k j) ∨ D[j]? = some .unset ∧ kD E k j := by
    intro E hs q
    have h1 : k < E.size := by omega
    have h2 : k + 1 < E.size := by omega
    have h3 : (E.setIfInBounds k (.val w))[k + 1]? = some E[k + 1] := by rw [Array.getElem?_setIfInBounds_ne (by omega)]; exact Array.getElem?_eq_getElem h2
    simp only [storeSelf, setAt, h1, if_true, Option.bind_eq_bind, Option.bind_some, hw, h3] at q
    have plain : (¬ ∃ u, E[k + 1]? = some (.val u) ∧ u.category = 2) → some ((E.setIfInBounds k (.val w)).setIfInBounds (k + 1) .second) = some D → D.size = C.size ∧ D[k]? = some (.val w) ∧ D[k + 1]? = some .second ∧ ∀ j, j ≠ k → j ≠ k + 1 → (D[j]? = E[j]? ∧ ¬ kD E k j) ∨ D[j]? = some .unset ∧ kD E k j := by
      intro no q
      cases q
      refine ⟨by simp [hs], ?_, ?_, fun j hj hj1 => Or.inl ⟨?_, fun x => no x.2⟩⟩
      · rw [Array.getElem?_setIfInBounds_ne (by omega)]; simp [h1]
      · simp [h2]
      · rw [Array.getElem?_setIfInBounds_ne (by omega), Array.getElem?_setIfInBounds_ne (by omega)]
    split at q
    · rename_i u hu
      split at q
      · rename_i hu2
        by_cases h5 : k + 2 < E.size
        · simp [h5, h2] at q
          cases q
          refine ⟨by simp [hs], ?_, ?_, fun j hj hj1 => ?_⟩
          · rw [Array.getElem?_setIfInBounds_ne (by omega), Array.getElem?_setIfInBounds_ne (by omega)]; simp [h1]
          · simp [h2]
          · by_cases e : j = k + 2
            · refine Or.inr ⟨?_, e, u, by rw [Array.getElem?_eq_getElem h2, hu], hu2⟩
              rw [Array.getElem?_setIfInBounds_ne (by omega), e]
              simp [h5]
            · refine Or.inl ⟨?_, fun x => e x.1⟩
              rw [Array.getElem?_setIfInBounds_ne (by omega), Array.getElem?_setIfInBounds_ne (by omega), Array.getElem?_setIfInBounds_ne (by omega)]
        · simp [h5] at q
      · rename_i hu2
        refine plain ?_ (by simpa [h2] using q)
        rintro ⟨u', x1, x2⟩
        rw [Array.getElem?_eq_getElem h2, hu] at x1; cases x1; exact hu2 x2
    · rename_i hu
      refine plain ?_ (by simpa [h2] using q)
      rintro ⟨u', x1, x2⟩
      rw [Array.getElem?_eq_getElem h2] at x1; exact hu _ (Option.some.inj x1)
  split at h
  · rename_i q
    have hk1 : k - 1 < C.size := by omega
    simp only [setAt, hk1, if_true, Option.bind_some] at h
    obtain ⟨e1, e2, e3, e4⟩ := self (by simp) h
    refine ⟨e1, e2, e3, fun j hj hj1 => ?_⟩
    have h6 : ∀ i, i + 1 ≠ k ∨ k = 0 → i ≠ k ∨ k ≠ 0 → (C.setIfInBounds (k - 1) Slot.unset)[i]? = C[i]? := fun i hi hi2 => Array.getElem?_setIfInBounds_ne (by omega)
    have h7 : (C.setIfInBounds (k - 1) Slot.unset)[k + 1]? = C[k + 1]? := Array.getElem?_setIfInBounds_ne (by omega)
    rcases e4 j hj hj1 with ⟨r, r'⟩ | ⟨r, r1, u, r2, r3⟩
    · by_cases ej : k = j + 1
      · refine Or.inr ⟨?_, Or.inl ⟨ej, by rw [hck, q]⟩⟩
        rw [r, show j = k - 1 by omega]; simp [hk1]
      · refine Or.inl ⟨by rw [r]; exact h6 _ (by omega) (by omega), fun x => ej x.1, fun x => r' ⟨x.1, ?_⟩⟩
        rw [h7]; exact x.2
    · exact Or.inr ⟨r, Or.inr ⟨r1, u, by rw [← h7]; exact r2, r3⟩⟩
  · rename_i u q
    split at h
    · rename_i hu
      simp only [setAt, hk, if_true, Option.bind_some] at h
      obtain ⟨e1, e2, e3, e4⟩ := self (by simp) h
      have hsec := wf k u (by rw [hck, q]) hu
      refine ⟨e1, e2, e3, fun j hj hj1 => ?_⟩
      rcases e4 j hj hj1 with ⟨r, r'⟩ | ⟨r, r1, u', r2, r3⟩
      · refine Or.inl ⟨by rw [r]; exact Array.getElem?_setIfInBounds_ne (by omega), fun x => ?_, fun x => ?_⟩
        · obtain ⟨-, x1⟩ := x
          rw [hck, q] at x1; cases x1
        · obtain ⟨-, u', x1, x2⟩ := x
          rw [hsec] at x1; cases x1
      · simp [hk] at r2
    · rename_i hu
      obtain ⟨e1, e2, e3, e4⟩ := self rfl h
      refine ⟨e1, e2, e3, fun j hj hj1 => ?_⟩
      rcases e4 j hj hj1 with ⟨r, r'⟩ | ⟨r, r'⟩
      · refine Or.inl ⟨r, fun x => ?_, r'⟩
        obtain ⟨-, x1⟩ := x
        rw [hck, q] at x1; cases x1
      · exact Or.inr ⟨r, Or.inr r'⟩
  · rename_i q
    obtain ⟨e1, e2, e3, e4⟩ := self rfl h
    refine ⟨e1, e2, e3, fun j hj hj1 => ?_⟩
    rcases e4 j hj hj1 with ⟨r, r'⟩ | ⟨r, r'⟩
    · refine Or.inl ⟨r, fun x => ?_, r'⟩
      obtain ⟨-, x1⟩ := x
      rw [hck, q] at x1; cases x1
    · exact Or.inr ⟨r, Or.inr r'⟩
/-- a store succeeds: in a well kept array of locals -/
theorem store_some {C : Array Slot} {k : Nat} {w : Value} (hk : k + (w.category - 1) < C.size) (hc : w.category = 1 ∨ w.category = 2) (wf : ∀ k w, C[k]? = some (.val w) → w.category = 2 → C[k + 1]? = some .second) :
    ∃ D, storeLocals C k w = some D := by
  have hk0 : k < C.size := by omega
  have hck : C[k]? = some C[k] := Array.getElem?_eq_getElem hk0
  have self : ∀ {E : Array Slot}, E.size = C.size → (∀ u, E[k + 1]? = some (.val u) → u.category = 2 → k + 2 < E.size) → ∃ D, storeSelf E k w = some D := by
    intro E hs hn
    have h1 : k < E.size := by omega
    simp only [storeSelf, setAt, h1, if_true, Option.bind_eq_bind, Option.bind_some]
    rcases hc with hc | hc
    · exact ⟨E.setIfInBounds k (.val w), by simp [hc]⟩
    · have h2 : k + 1 < E.size := by omega
      have h3 : (E.setIfInBounds k (.val w))[k + 1]? = some E[k + 1] := by rw [Array.getElem?_setIfInBounds_ne (by omega)]; exact Array.getElem?_eq_getElem h2
      simp only [hc, if_true, h3, Option.bind_some]
      split
      · rename_i u hu
        split
        · rename_i hu2
          have h5 := hn u (by rw [Array.getElem?_eq_getElem h2, hu]) hu2
          exact ⟨_, by simp [h5, h2]; rfl⟩
        · exact ⟨_, by simp [h2]; rfl⟩
      · exact ⟨_, by simp [h2]; rfl⟩
  have next : ∀ u, C[k + 1]? = some (.val u) → u.category = 2 → k + 2 < C.size := fun u h1 h2 => (Array.getElem?_eq_some_iff.mp (wf _ _ h1 h2)).1
  unfold storeLocals
  simp only [hck, Option.bind_eq_bind, Option.bind_some]
  split
  · have hk1 : k - 1 < C.size := by omega
    simp only [setAt, hk1, if_true, Option.bind_some]
    refine self (by simp) fun u h1 h2 => ?_
    rw [Array.getElem?_setIfInBounds_ne (by omega)] at h1
    simpa using next u h1 h2
  · rename_i u q
    split
    · rename_i hu
      have h5 := (Array.getElem?_eq_some_iff.mp (wf k u (by rw [hck, q]) hu)).1
      simp only [setAt, h5, if_true, Option.bind_some]
      refine self (by simp) fun u h1 h2 => ?_
      simp [h5] at h1
    · exact self rfl next
  · exact self rfl next
theorem store_ok1 {ad : Nat → Addr} {L : QLoc} {C : Array Slot} {k : Nat} {v : Value} (H : QLocOk ad L C) (hv : v.category = 1) (hk : k < L.length) :
    ∃ D, storeLocals C k (qv ad v) = some D ∧ QLocOk ad ((lkill L k).set k (some v)) D ∧ D.size = C.size := by
  obtain ⟨H1, H2, H3, H4⟩ := H
  have hc : (qv ad v).category = 1 := by rw [qv_cat, hv]
  obtain ⟨D, hD⟩ := store_some (C := C) (k := k) (w := qv ad v) (by rw [hc]; omega) (Or.inl hc) H3
  obtain ⟨d1, d2, d3⟩ := set1_at (by omega) hc hD
  refine ⟨D, hD, ⟨by simp [lkill_len, H1, d1], fun j u hj => ?_, fun j w hj hw => ?_, fun j hj => ?_⟩, d1⟩
  · rw [lget_set (by rw [lkill_len]; exact hk)] at hj
    split at hj
    · rename_i e; cases hj; rw [e]; exact d2
    · rename_i ne
      obtain ⟨g1, g2⟩ := lget_kill hj
      have g3 := H2 j u g1
      rcases d3 j ne with ⟨r, -, -⟩ | ⟨-, ⟨r1, r2⟩ | ⟨r1, w, r2, r3⟩⟩
      · rw [r]; exact g3
      · obtain ⟨i, w, z1, z2, z3⟩ := H4 k r2
        obtain rfl : i = j := by omega
        rw [g3] at z2
        cases z2
        rw [qv_cat] at z3
        exact absurd z3 (g2 r1)
      · have := H3 k w r2 r3
        rw [← r1, g3] at this
        cases this
  · by_cases e : j = k
    · subst e; rw [d2] at hj; cases hj; rw [hc] at hw; cases hw
    · rcases d3 j e with ⟨r, nA, nB⟩ | ⟨r, -⟩
      · rw [r] at hj
        have g := H3 j w hj hw
        have e2 : j + 1 ≠ k := fun q => nA ⟨q.symm, by rw [← q]; exact g⟩
        rcases d3 (j + 1) e2 with ⟨z, -, -⟩ | ⟨-, ⟨z1, z2⟩ | ⟨z1, -⟩⟩
        · rw [z]; exact g
        · obtain ⟨i, u, y1, y2, y3⟩ := H4 k z2
          obtain rfl : i = j + 1 := by omega
          rw [g] at y2; cases y2
        · omega
      · rw [r] at hj; cases hj
  · by_cases e : j = k
    · subst e; rw [d2] at hj; cases hj
    · rcases d3 j e with ⟨r, nA, nB⟩ | ⟨r, -⟩
      · rw [r] at hj
        obtain ⟨i, w, y1, y2, y3⟩ := H4 j hj
        refine ⟨i, w, y1, ?_, y3⟩
        have ei : i ≠ k := fun q => nB ⟨by omega, w, by rw [← q]; exact y2, y3⟩
        rcases d3 i ei with ⟨z, -, -⟩ | ⟨-, ⟨z1, z2⟩ | ⟨z1, u, z2, z3⟩⟩
        · rw [z]; exact y2
        · omega
        · have := H3 k u z2 z3
          rw [← z1, y2] at this; cases this
      · rw [r] at hj; cases hj
theorem store_ok2 {ad : Nat → Addr} {L : QLoc} {C : Array Slot} {k : Nat} {x : Int64} (H : QLocOk ad L C) (hk : k + 1 < L.length) :
    ∃ D, storeLocals C k (.long x) = some D ∧ QLocOk ad (((lkill L k).set k (some (.long x))).set (k + 1) none) D ∧ D.size = C.size := by
  obtain ⟨H1, H2, H3, H4⟩ := H
  have hc : (Value.long x).category = 2 := rfl
  obtain ⟨D, hD⟩ := store_some (C := C) (k := k) (w := .long x) (by rw [hc]; omega) (Or.inr hc) H3
  obtain ⟨d1, d2, d2', d3⟩ := set2_at (by omega) hc H3 hD
  refine ⟨D, hD, ⟨by simp [lkill_len, H1, d1], fun j u hj => ?_, fun j w hj hw => ?_, fun j hj => ?_⟩, d1⟩
  · rw [lget_set (by simp [lkill_len]; exact hk)] at hj
    split at hj
    · cases hj
    · rename_i ne1
      rw [lget_set (by rw [lkill_len]; omega)] at hj
      split at hj
      · rename_i e; cases hj; rw [e]; exact d2
      · rename_i ne
        obtain ⟨g1, g2⟩ := lget_kill hj
        have g3 := H2 j u g1
        rcases d3 j ne ne1 with ⟨r, -, -⟩ | ⟨-, ⟨r1, r2⟩ | ⟨r1, w, r2, r3⟩⟩
        · rw [r]; exact g3
        · obtain ⟨i, w, z1, z2, z3⟩ := H4 k r2
          obtain rfl : i = j := by omega
          rw [g3] at z2
          cases z2
          rw [qv_cat] at z3
          exact absurd z3 (g2 r1)
        · have := H3 (k + 1) w r2 r3
          rw [show k + 1 + 1 = j by omega, g3] at this
          cases this
  · by_cases e : j = k
    · rw [e]; exact d2'
    · by_cases e1 : j = k + 1
      · rw [e1, d2'] at hj; cases hj
      · rcases d3 j e e1 with ⟨r, nA, nB⟩ | ⟨r, -⟩
        · rw [r] at hj
          have g := H3 j w hj hw
          have e2 : j + 1 ≠ k := fun q => nA ⟨q.symm, by rw [← q]; exact g⟩
          rcases d3 (j + 1) e2 (by omega) with ⟨z, -, -⟩ | ⟨-, ⟨z1, z2⟩ | ⟨z1, -⟩⟩
          · rw [z]; exact g
          · obtain ⟨i, u, y1, y2, y3⟩ := H4 k z2
            obtain rfl : i = j + 1 := by omega
            rw [g] at y2; cases y2
          · omega
        · rw [r] at hj; cases hj
  · by_cases e : j = k
    · rw [e, d2] at hj; cases hj
    · by_cases e1 : j = k + 1
      · exact ⟨k, _, e1, d2, hc⟩
      · rcases d3 j e e1 with ⟨r, nA, nB⟩ | ⟨r, -⟩
        · rw [r] at hj
          obtain ⟨i, w, y1, y2, y3⟩ := H4 j hj
          refine ⟨i, w, y1, ?_, y3⟩
          have ei : i ≠ k := fun q => e1 (by omega)
          have ei1 : i ≠ k + 1 := fun q => nB ⟨by omega, w, by rw [← q]; exact y2, y3⟩
          rcases d3 i ei ei1 with ⟨z, -, -⟩ | ⟨-, ⟨z1, z2⟩ | ⟨z1, u, z2, z3⟩⟩
          · rw [z]; exact y2
          · omega
          · have := H3 (k + 1) u z2 z3
            rw [show k + 1 + 1 = i by omega, y2] at this; cases this
        · rw [r] at hj; cases hj
theorem store_ok {ad : Nat → Addr} {L L' : QLoc} {C : Array Slot} {k : Nat} {v : Value} (H : QLocOk ad L C) (h : lput L k v = some L') :
    ∃ D, storeLocals C k (qv ad v) = some D ∧ QLocOk ad L' D ∧ D.size = C.size := by
  have one : v.category = 1 → (bif Nat.ble (k + 1) L.length then some ((lkill L k).set k (some v)) else none) = some L' → ∃ D, storeLocals C k (qv ad v) = some D ∧ QLocOk ad L' D ∧ D.size = C.size := by
    intro hv h
    cases hb : Nat.ble (k + 1) L.length with
    | false => rw [hb] at h; cases h
    | true => rw [hb] at h; cases h; exact store_ok1 H hv (Nat.le_of_ble_eq_true hb)
  cases v with
  | long x =>
    simp only [lput] at h
    cases hb : Nat.ble (k + 2) L.length with
    | false => rw [hb] at h; cases h
    | true => rw [hb] at h; cases h; exact store_ok2 H (Nat.le_of_ble_eq_true hb)
  | double x => simp [lput] at h
  | int x => exact one rfl h
  | float x => exact one rfl h
  | null => exact one rfl h
  | ref x => exact one rfl h
  | retAddr x => exact one rfl h
/-! ## facts of the tables, by evaluation -/
theorem fInj : ∀ i, i < nF → ∀ j, j < nF → fNm i = fNm j → i = j := by decide +kernel
theorem fPrs : ∀ i, i < nF → parseFieldDescriptor (fDs i) = some (fTy i) := by decide +kernel
theorem cDefs : ∀ i, i < nF → vget cDef i = some (defaultValue (fTy i)) := by decide +kernel
theorem cDefL : cDef.length = nF := by decide +kernel
theorem fDef : ∀ i, i < nF → ∀ a, defaultValue (fTy i) ≠ .ref a := by
  intro i _ a
  cases fTy i <;> simp [defaultValue]
theorem kPlain : ∀ k, k < 2 → plainName (kName k) = true := by
  intro k hk
  rcases k with _ | _ | k
  · first | decide +kernel | (simp [kName, plainName, overriddenIn]; done)
  · first | decide +kernel | (simp [kName, plainName, overriddenIn]; done)
  · omega
theorem pKlt : ∀ m, m < pN → pK m < 2 := by decide +kernel
theorem pSig : ∀ m, m < pN → (parseMethodDescriptor (pDs m)).map (fun sg => sg.parameters.length) = some (pNA m) := by decide +kernel
theorem pOwn : ∀ k, k < 2 → kName k ≠ "java/lang/invoke/MethodHandle" ∧ kName k ≠ "java/lang/invoke/VarHandle" := by decide +kernel
theorem mAlt : ∀ m ∈ mA, m < pN := by decide +kernel
theorem mVlt : ∀ m ∈ mV, m ∈ mA ∧ pK m = 1 := by decide +kernel
theorem mPlt : ∀ m ∈ mP, m ∈ mA ∧ pK m = 1 := by decide +kernel
theorem mSlt : ∀ m ∈ mS, m ∈ mA := by decide +kernel
theorem mIlt : ∀ m ∈ mI, m ∈ mA ∧ pK m = 1 ∧ pNm m = "<init>" ∧ pRet m = none := by decide +kernel
theorem kOne : kName 1 = cName := rfl
set_option maxRecDepth 100000 in
theorem pChk0 : ∀ m, m < pN → ∀ pc, pc < pTop → (match pCode m pc with | some t => qchk m pc t.1 t.2 | none => true) = true := by decide +kernel
theorem pIn {m pc : Nat} {t : Instr × Nat} (h : pCode m pc = some t) : m < pN ∧ pc < pTop := by
  unfold pCode at h
  cases h1 : Nat.ble pN m with
  | true => rw [h1] at h; cases h
  | false =>
    cases h2 : Nat.ble pTop pc with
    | true => rw [h1, h2] at h; cases h
    | false => exact ⟨Nat.lt_of_not_le (fun q => by rw [Nat.ble_eq_true_of_le q] at h1; cases h1), Nat.lt_of_not_le (fun q => by rw [Nat.ble_eq_true_of_le q] at h2; cases h2)⟩
theorem pChk {m pc : Nat} {i : Instr} {aux : Nat} (h : pCode m pc = some (i, aux)) : qchk m pc i aux = true := by
  have q := pChk0 m (pIn h).1 pc (pIn h).2
  rw [h] at q
  exact q
theorem pDec {m pc : Nat} {i : Instr} {aux : Nat} (h : pCode m pc = some (i, aux)) : decode (pBytes m) pc = .ok (i, ilen i) := by
  have q := pChk h
  unfold qchk at q
  exact of_decide_eq_true (Bool.and_eq_true_iff.mp q).1
theorem pDecN {m pc n : Nat} {i : Instr} {aux : Nat} (h : pCode m pc = some (i, aux)) (hn : ilen i = n) : decode (pBytes m) pc = .ok (i, n) := by
  rw [← hn]; exact pDec h
theorem pRest {m pc : Nat} {i : Instr} {aux : Nat} (h : pCode m pc = some (i, aux)) : qlk m pc i aux = true := by
  have q := pChk h
  unfold qchk at q
  exact (Bool.and_eq_true_iff.mp q).2
theorem qtgt_spec {pc : Nat} {o : Int} {aux : Nat} (h : qtgt pc o aux = true) : 0 ≤ (pc : Int) + o ∧ ((pc : Int) + o).toNat = aux := by
  unfold qtgt at h
  have h2 := Bool.and_eq_true_iff.mp h
  exact ⟨of_decide_eq_true h2.1, of_decide_eq_true h2.2⟩
/-! ## triples -/
def QCx (Z : State) (p : Program) (R : Room) (s : State) (mid : MethodId) (meth : Method) (c : Code) (m : Nat) : Prop :=
  p.tables.exec = Jvm.exec ∧ Z.Warmed39 s.vm ∧ c.code = pBytes m ∧ c.maxLocals = pMaxL m ∧ meth.sig.returnType = pRet m ∧ s.vm.findClass (kName (pK m)) = some mid.cls ∧ meth.name = pNm m ∧ pFr m ≤ R.frames ∧ pLo m ≤ R.locals
def QTri (l : Launch) (Z : State) (n0 : Nat) (ad : Nat → Addr) (m : Nat) (st : QSt) (v : Option Value) (σ' : QHeap) : Prop :=
  st.2.2.2.length ≤ σ'.length ∧ qhs st.2.2.2 ≤ qhs σ' ∧
  ∀ (p : Program) (e : Env) (R : Room) (s : State) (mid : MethodId) (args : Array Value) (below : List Frame) (meth : Method) (c : Code) (T : State) (locs : List Loc) (cells slots : Nat) (C : Array Slot),
    QCx Z p R s mid meth c m → Stand p l e R s mid args below meth c T locs cells slots → QRep Z n0 ad T.heap st.2.2.2 → Fr n0 locs → QLocOk ad st.2.1 C → C.size = c.maxLocals →
    n0 + (st.2.2.2.length - k0) = s.heap.size + cells → cells + (σ'.length - st.2.2.2.length) ≤ R.cells → slots + (qhs σ' - qhs st.2.2.2) ≤ R.slots →
    ∃ T' locs', Stand p l e R s mid args below meth c T' locs' (cells + (σ'.length - st.2.2.2.length)) (slots + (qhs σ' - qhs st.2.2.2)) ∧ QRep Z n0 ad T'.heap σ' ∧ Fr n0 locs' ∧
      ∀ fs, (∀ (f : JFrame) (acts : List Action), f.method = mid → f.locked = none → f.entered = [] → (doReturn e (T'.setTop f) acts (v.map (qv ad))).1 = T'.setFrames fs) →
        Steps p.tables e below (T.setTop (mkF mid st.1 C (st.2.2.1.map (qv ad)))) (T'.setFrames fs)
section Triples
variable {l : Launch} {Z : State} {n0 : Nat} {ad : Nat → Addr} {a0 : Array Value} {m : Nat} {v : Option Value} {σ' : QHeap}
theorem QTri.gen {st st' : QSt} (h : QTri l Z n0 ad m st' v σ') (g1 : st.2.2.2.length ≤ st'.2.2.2.length) (g2 : qhs st.2.2.2 ≤ qhs st'.2.2.2)
    (hs : ∀ (p : Program) (e : Env) (R : Room) (s : State) (mid : MethodId) (args : Array Value) (below : List Frame) (meth : Method) (c : Code) (T : State) (locs : List Loc) (cells slots : Nat) (C : Array Slot),
      QCx Z p R s mid meth c m → Stand p l e R s mid args below meth c T locs cells slots → QRep Z n0 ad T.heap st.2.2.2 → Fr n0 locs → QLocOk ad st.2.1 C → C.size = c.maxLocals →
      n0 + (st.2.2.2.length - k0) = s.heap.size + cells → cells + (st'.2.2.2.length - st.2.2.2.length) ≤ R.cells → slots + (qhs st'.2.2.2 - qhs st.2.2.2) ≤ R.slots →
      ∃ T₁ locs₁ C₁, Stand p l e R s mid args below meth c T₁ locs₁ (cells + (st'.2.2.2.length - st.2.2.2.length)) (slots + (qhs st'.2.2.2 - qhs st.2.2.2)) ∧ QRep Z n0 ad T₁.heap st'.2.2.2 ∧ Fr n0 locs₁ ∧ QLocOk ad st'.2.1 C₁ ∧ C₁.size = c.maxLocals ∧
        ∀ target, Steps p.tables e below (T₁.setTop (mkF mid st'.1 C₁ (st'.2.2.1.map (qv ad)))) target → Steps p.tables e below (T.setTop (mkF mid st.1 C (st.2.2.1.map (qv ad)))) target) :
    QTri l Z n0 ad m st v σ' := by
  obtain ⟨h1, h2, h3⟩ := h
  refine ⟨Nat.le_trans g1 h1, Nat.le_trans g2 h2, fun p e R s mid args below meth c T locs cells slots C hcx X hR hF hL hC hn hc hsl => ?_⟩
  obtain ⟨T₁, locs₁, C₁, X₁, R₁, F₁, L₁, C1, S₁⟩ := hs p e R s mid args below meth c T locs cells slots C hcx X hR hF hL hC hn (by omega) (by omega)
  have hk := hR.1
  obtain ⟨T', locs', X', R', F', S'⟩ := h3 p e R s mid args below meth c T₁ locs₁ _ _ C₁ hcx X₁ R₁ F₁ L₁ C1 (by omega) (by omega) (by omega)
  have e1 : cells + (st'.2.2.2.length - st.2.2.2.length) + (σ'.length - st'.2.2.2.length) = cells + (σ'.length - st.2.2.2.length) := by omega
  have e2 : slots + (qhs st'.2.2.2 - qhs st.2.2.2) + (qhs σ' - qhs st'.2.2.2) = slots + (qhs σ' - qhs st.2.2.2) := by omega
  rw [e1, e2] at X'
  exact ⟨T', locs', X', R', F', fun fs hf => S₁ _ (S' fs hf)⟩
theorem QTri.pure {st st' : QSt} (h : QTri l Z n0 ad m st' v σ') (hσ : st'.2.2.2 = st.2.2.2)
    (hs : ∀ (p : Program) (e : Env) (R : Room) (s : State) (mid : MethodId) (args : Array Value) (below : List Frame) (meth : Method) (c : Code) (T : State) (locs : List Loc) (cells slots : Nat) (C : Array Slot),
      QCx Z p R s mid meth c m → Stand p l e R s mid args below meth c T locs cells slots → QRep Z n0 ad T.heap st.2.2.2 → QLocOk ad st.2.1 C → C.size = c.maxLocals →
      ∃ T₁ C₁, Stand p l e R s mid args below meth c T₁ locs cells slots ∧ T₁.heap = T.heap ∧ QLocOk ad st'.2.1 C₁ ∧ C₁.size = c.maxLocals ∧
        ∀ target, Steps p.tables e below (T₁.setTop (mkF mid st'.1 C₁ (st'.2.2.1.map (qv ad)))) target → Steps p.tables e below (T.setTop (mkF mid st.1 C (st.2.2.1.map (qv ad)))) target) :
    QTri l Z n0 ad m st v σ' := by
  refine QTri.gen h (by rw [hσ]; exact Nat.le_refl _) (by rw [hσ]; exact Nat.le_refl _) fun p e R s mid args below meth c T locs cells slots C hcx X hR hF hL hC hn hc hsl => ?_
  obtain ⟨T₁, C₁, X₁, hh, L₁, C1, S₁⟩ := hs p e R s mid args below meth c T locs cells slots C hcx X hR hL hC
  refine ⟨T₁, locs, C₁, ?_, by rw [hσ, hh]; exact hR, hF, L₁, C1, S₁⟩
  rw [hσ, Nat.sub_self, Nat.sub_self]
  exact X₁
/-- a step of the frame alone -/
theorem QTri.frame {pc pc' : Nat} {L L' : QLoc} {S S' : List Value} {σ : QHeap} (h : QTri l Z n0 ad m (pc', L', S', σ) v σ')
    (hs : ∀ (p : Program) (e : Env) (R : Room) (s : State) (mid : MethodId) (args : Array Value) (below : List Frame) (meth : Method) (c : Code) (T : State) (locs : List Loc) (cells slots : Nat) (C : Array Slot),
      QCx Z p R s mid meth c m → Stand p l e R s mid args below meth c T locs cells slots → QRep Z n0 ad T.heap σ → QLocOk ad L C → C.size = c.maxLocals →
      ∃ C₁, QLocOk ad L' C₁ ∧ C₁.size = c.maxLocals ∧ ∀ target, Steps p.tables e below (T.setTop (mkF mid pc' C₁ (S'.map (qv ad)))) target → Steps p.tables e below (T.setTop (mkF mid pc C (S.map (qv ad)))) target) :
    QTri l Z n0 ad m (pc, L, S, σ) v σ' :=
  QTri.pure h rfl fun p e R s mid args below meth c T locs cells slots C hcx X hR hL hC => by
    obtain ⟨C₁, h1, h2, h3⟩ := hs p e R s mid args below meth c T locs cells slots C hcx X hR hL hC
    exact ⟨T, C₁, X, rfl, h1, h2, h3⟩
/-- a step of pc and stack alone -/
theorem QTri.stack {pc pc' : Nat} {L : QLoc} {S S' : List Value} {σ : QHeap} (h : QTri l Z n0 ad m (pc', L, S', σ) v σ')
    (hs : ∀ (p : Program) (e : Env) (R : Room) (s : State) (mid : MethodId) (args : Array Value) (below : List Frame) (meth : Method) (c : Code) (T : State) (locs : List Loc) (cells slots : Nat) (C : Array Slot) (target : State),
      p.tables.exec = Jvm.exec → Z.Warmed39 s.vm → c.code = pBytes m → s.vm.findClass (kName (pK m)) = some mid.cls → Stand p l e R s mid args below meth c T locs cells slots → QRep Z n0 ad T.heap σ → QLocOk ad L C →
      Steps p.tables e below (T.setTop (mkF mid pc' C (S'.map (qv ad)))) target → Steps p.tables e below (T.setTop (mkF mid pc C (S.map (qv ad)))) target) :
    QTri l Z n0 ad m (pc, L, S, σ) v σ' :=
  QTri.frame h fun p e R s mid args below meth c T locs cells slots C hcx X hR hL hC => ⟨C, hL, hC, fun target k => hs p e R s mid args below meth c T locs cells slots C target hcx.1 hcx.2.1 hcx.2.2.1 hcx.2.2.2.2.2.1 X hR hL k⟩
/-! ### what each helper says -/
theorem qload_inv {pc : Nat} {L : QLoc} {S : List Value} {σ : QHeap} {k : Nat} {ok : Value → Bool} {st' : QSt} (h : qload pc L S σ k ok = some st') : ∃ v, lget L k = some v ∧ ok v = true ∧ st' = (pc, L, v :: S, σ) := by
  unfold qload at h
  split at h
  · rename_i v hv
    cases ho : ok v with
    | true => rw [ho] at h; cases h; exact ⟨v, hv, ho, rfl⟩
    | false => rw [ho] at h; cases h
  · cases h
theorem qstore_inv {pc : Nat} {L : QLoc} {S : List Value} {σ : QHeap} {k : Nat} {ok : Value → Bool} {st' : QSt} (h : qstore pc L S σ k ok = some st') : ∃ v S' L', S = v :: S' ∧ ok v = true ∧ lput L k v = some L' ∧ st' = (pc, L', S', σ) := by
  unfold qstore at h
  split at h
  · rename_i v S'
    cases ho : ok v with
    | true =>
      rw [ho] at h
      simp only [cond_true] at h
      split at h
      · rename_i L' hL'
        cases h; exact ⟨v, S', L', rfl, ho, hL', rfl⟩
      · cases h
    | false => rw [ho] at h; cases h
  · cases h
theorem qbin_inv {pc : Nat} {L : QLoc} {S : List Value} {σ : QHeap} {f : Int32 → Int32 → Int32} {st' : QSt} (h : qbin pc L S σ f = some st') : ∃ x y S', S = .int y :: .int x :: S' ∧ st' = (pc, L, .int (f x y) :: S', σ) := by
  unfold qbin at h
  split at h
  · cases h; exact ⟨_, _, _, rfl, rfl⟩
  · cases h
theorem qbino_inv {pc : Nat} {L : QLoc} {S : List Value} {σ : QHeap} {f : Int32 → Int32 → Option Int32} {st' : QSt} (h : qbino pc L S σ f = some st') : ∃ x y z S', S = .int y :: .int x :: S' ∧ f x y = some z ∧ st' = (pc, L, .int z :: S', σ) := by
  unfold qbino at h
  split at h
  · obtain ⟨z, hz, h⟩ := Option.bind_eq_some_iff.mp h
    cases h; exact ⟨_, _, _, _, rfl, hz, rfl⟩
  · cases h
theorem qbinJ_inv {pc : Nat} {L : QLoc} {S : List Value} {σ : QHeap} {f : Int64 → Int64 → Int64} {st' : QSt} (h : qbinJ pc L S σ f = some st') : ∃ x y S', S = .long y :: .long x :: S' ∧ st' = (pc, L, .long (f x y) :: S', σ) := by
  unfold qbinJ at h
  split at h
  · cases h; exact ⟨_, _, _, rfl, rfl⟩
  · cases h
theorem qshJ_inv {pc : Nat} {L : QLoc} {S : List Value} {σ : QHeap} {f : Int64 → Int32 → Int64} {st' : QSt} (h : qshJ pc L S σ f = some st') : ∃ x y S', S = .int y :: .long x :: S' ∧ st' = (pc, L, .long (f x y) :: S', σ) := by
  unfold qshJ at h
  split at h
  · cases h; exact ⟨_, _, _, rfl, rfl⟩
  · cases h
theorem quni_inv {pc : Nat} {L : QLoc} {S : List Value} {σ : QHeap} {f : Int32 → Value} {st' : QSt} (h : quni pc L S σ f = some st') : ∃ x S', S = .int x :: S' ∧ st' = (pc, L, f x :: S', σ) := by
  unfold quni at h
  split at h
  · cases h; exact ⟨_, _, rfl, rfl⟩
  · cases h
theorem quniJ_inv {pc : Nat} {L : QLoc} {S : List Value} {σ : QHeap} {f : Int64 → Value} {st' : QSt} (h : quniJ pc L S σ f = some st') : ∃ x S', S = .long x :: S' ∧ st' = (pc, L, f x :: S', σ) := by
  unfold quniJ at h
  split at h
  · cases h; exact ⟨_, _, rfl, rfl⟩
  · cases h
theorem qif_inv {pc : Nat} {L : QLoc} {S : List Value} {σ : QHeap} {cd : ClassFile.Cond} {t : Nat} {st' : QSt} (h : qif pc L S σ cd t = some st') : ∃ x S', S = .int x :: S' ∧ st' = (bif ifCond.holds cd x then t else pc, L, S', σ) := by
  unfold qif at h
  split at h
  · cases h; exact ⟨_, _, rfl, rfl⟩
  · cases h
theorem qicmp_inv {pc : Nat} {L : QLoc} {S : List Value} {σ : QHeap} {cd : ClassFile.Cond} {t : Nat} {st' : QSt} (h : qicmp pc L S σ cd t = some st') : ∃ x y S', S = .int y :: .int x :: S' ∧ st' = (bif if_icmp.holds cd x y then t else pc, L, S', σ) := by
  unfold qicmp at h
  split at h
  · cases h; exact ⟨_, _, _, rfl, rfl⟩
  · cases h
theorem qget_inv {pc : Nat} {L : QLoc} {S : List Value} {σ : QHeap} {k : Nat} {st' : QSt} (h : qget pc L S σ k = some st') : ∃ a S' vs v, S = .ref a :: S' ∧ hget σ a = some (.inl vs) ∧ vget vs k = some v ∧ st' = (pc, L, v :: S', σ) := by
  unfold qget at h
  split at h
  · split at h
    · split at h
      · cases h; exact ⟨_, _, _, _, rfl, by assumption, by assumption, rfl⟩
      · cases h
    · cases h
  · cases h
theorem qput_inv {pc : Nat} {L : QLoc} {S : List Value} {σ : QHeap} {k : Nat} {st' : QSt} (h : qput pc L S σ k = some st') : ∃ v a S' vs w, S = v :: .ref a :: S' ∧ hget σ a = some (.inl vs) ∧ k0 ≤ a ∧ k < vs.length ∧ qfit (fTy k) v = some w ∧ st' = (pc, L, S', σ.set a (.inl (vs.set k w))) := by
  unfold qput at h
  split at h
  · rename_i v a S'
    split at h
    · rename_i vs hvs
      cases hbb : (Nat.ble k0 a && Nat.ble (k + 1) vs.length) with
      | false => rw [hbb] at h; cases h
      | true =>
        rw [hbb] at h
        simp only [cond_true] at h
        obtain ⟨u, hu, h⟩ := Option.bind_eq_some_iff.mp h
        cases h
        obtain ⟨b1, b2⟩ := Bool.and_eq_true_iff.mp hbb
        exact ⟨v, a, S', vs, u, rfl, hvs, Nat.le_of_ble_eq_true b1, Nat.le_of_ble_eq_true b2, hu, rfl⟩
    · cases h
  · cases h
theorem qald_inv {pc : Nat} {L : QLoc} {S : List Value} {σ : QHeap} {ok : FieldType → Bool} {st' : QSt} (h : qald pc L S σ ok = some st') : ∃ j a S' ty xs v, S = .int j :: .ref a :: S' ∧ hget σ a = some (.inr (.inl (ty, xs))) ∧ ok ty = true ∧ aget xs j = some v ∧ st' = (pc, L, .int v :: S', σ) := by
  unfold qald at h
  split at h
  · rename_i j a S'
    split at h
    · rename_i x hx
      cases ht : ok x.1 with
      | false => rw [ht] at h; cases h
      | true =>
        rw [ht] at h
        simp only [cond_true] at h
        obtain ⟨u, hu, h⟩ := Option.bind_eq_some_iff.mp h
        cases h
        exact ⟨j, a, S', x.1, x.2, u, rfl, hx, ht, hu, rfl⟩
    · cases h
  · cases h
theorem qaldJ_inv {pc : Nat} {L : QLoc} {S : List Value} {σ : QHeap} {st' : QSt} (h : qaldJ pc L S σ = some st') : ∃ j a S' xs v, S = .int j :: .ref a :: S' ∧ hget σ a = some (.inr (.inr xs)) ∧ aget xs j = some v ∧ st' = (pc, L, .long v :: S', σ) := by
  unfold qaldJ at h
  split at h
  · rename_i j a S'
    split at h
    · rename_i x hx
      obtain ⟨u, hu, h⟩ := Option.bind_eq_some_iff.mp h
      cases h
      exact ⟨j, a, S', x, u, rfl, hx, hu, rfl⟩
    · cases h
  · cases h
theorem qast_inv {pc : Nat} {L : QLoc} {S : List Value} {σ : QHeap} {ok : FieldType → Bool} {st' : QSt} (h : qast pc L S σ ok = some st') : ∃ v j a S' ty xs ys, S = .int v :: .int j :: .ref a :: S' ∧ hget σ a = some (.inr (.inl (ty, xs))) ∧ ok ty = true ∧ k0 ≤ a ∧ aset xs j (qnar ty v) = some ys ∧ st' = (pc, L, S', σ.set a (.inr (.inl (ty, ys)))) := by
  unfold qast at h
  split at h
  · rename_i v j a S'
    split at h
    · rename_i x hx
      cases ht : (ok x.1 && Nat.ble k0 a) with
      | false => rw [ht] at h; cases h
      | true =>
        rw [ht] at h
        simp only [cond_true] at h
        obtain ⟨u, hu, h⟩ := Option.bind_eq_some_iff.mp h
        cases h
        obtain ⟨b1, b2⟩ := Bool.and_eq_true_iff.mp ht
        exact ⟨v, j, a, S', x.1, x.2, u, rfl, hx, b1, Nat.le_of_ble_eq_true b2, hu, rfl⟩
    · cases h
  · cases h
theorem qastJ_inv {pc : Nat} {L : QLoc} {S : List Value} {σ : QHeap} {st' : QSt} (h : qastJ pc L S σ = some st') : ∃ v j a S' xs ys, S = .long v :: .int j :: .ref a :: S' ∧ hget σ a = some (.inr (.inr xs)) ∧ k0 ≤ a ∧ aset xs j v = some ys ∧ st' = (pc, L, S', σ.set a (.inr (.inr ys))) := by
  unfold qastJ at h
  split at h
  · rename_i v j a S'
    split at h
    · rename_i x hx
      cases ht : (Nat.ble k0 a) with
      | false => rw [ht] at h; cases h
      | true =>
        rw [ht] at h
        simp only [cond_true] at h
        obtain ⟨u, hu, h⟩ := Option.bind_eq_some_iff.mp h
        cases h
        exact ⟨v, j, a, S', x, u, rfl, hx, Nat.le_of_ble_eq_true ht, hu, rfl⟩
    · cases h
  · cases h
theorem qlen_inv {pc : Nat} {L : QLoc} {S : List Value} {σ : QHeap} {st' : QSt} (h : qlen pc L S σ = some st') : ∃ a S' n, S = .ref a :: S' ∧ ((∃ ty xs, hget σ a = some (.inr (.inl (ty, xs))) ∧ n = xs.length) ∨ ∃ xs, hget σ a = some (.inr (.inr xs)) ∧ n = xs.length) ∧ st' = (pc, L, .int n.toInt32 :: S', σ) := by
  unfold qlen at h
  split at h
  · rename_i a S'
    split at h
    · rename_i x hx
      cases h; exact ⟨a, S', _, rfl, Or.inl ⟨x.1, x.2, hx, rfl⟩, rfl⟩
    · rename_i x hx
      cases h; exact ⟨a, S', _, rfl, Or.inr ⟨x, hx, rfl⟩, rfl⟩
    · cases h
  · cases h
theorem isI_inv {v : Value} (h : isI v = true) : ∃ x, v = .int x := by cases v <;> simp [isI] at h; exact ⟨_, rfl⟩
theorem isJ_inv {v : Value} (h : isJ v = true) : ∃ x, v = .long x := by cases v <;> simp [isJ] at h; exact ⟨_, rfl⟩
theorem isR_inv {v : Value} (h : isR v = true) : ∃ x, v = .ref x := by cases v <;> simp [isR] at h; exact ⟨_, rfl⟩
theorem aget_inv {α : Type} {xs : List α} {j : Int32} {x : α} (h : aget xs j = some x) : ¬ j < 0 ∧ xs[j.toNatClampNeg]? = some x := by
  unfold aget at h
  split at h
  · cases h
  · rename_i q; exact ⟨q, h⟩
theorem aset_inv {α : Type} {xs ys : List α} {j : Int32} {x : α} (h : aset xs j x = some ys) : ¬ j < 0 ∧ j.toNatClampNeg < xs.length ∧ ys = xs.set j.toNatClampNeg x := by
  unfold aset at h
  split at h
  · cases h
  · rename_i q
    split at h
    · rename_i q2; cases h; exact ⟨q, q2, rfl⟩
    · cases h
theorem qnew_inv {n : Int32} {k : Nat} (h : qnew n = some k) : ¬ n < 0 ∧ n.toNatClampNeg = k ∧ k ≤ 67108864 := by
  unfold qnew at h
  split at h
  · cases h
  · rename_i q
    split at h
    · rename_i q2; cases h; exact ⟨q, rfl, q2⟩
    · cases h
/-! ### the heap's facts over a step -/
theorem QCellOk.other {h h' : Heap} {a b : Addr} {sl : Nat} {w : Value} {c : QCell} (H : QCellOk Z ad h b c) (W : Wr h h' a sl w) (ne : b ≠ a) : QCellOk Z ad h' b c := by
  rcases c with vs | ⟨ty, xs⟩ | xs
  · obtain ⟨h1, h2, h3⟩ := H
    exact ⟨h1.wr W, h2, fun k u hk hu => (h3 k u hk hu).other W (Or.inl ne)⟩
  · obtain ⟨c, h1, h2⟩ := H
    exact ⟨c, h1.other W ne, h2⟩
  · obtain ⟨c, h1, h2⟩ := H
    exact ⟨c, h1.other W ne, h2⟩
theorem QCellOk.ext {h h' : Heap} {b : Addr} {c : QCell} (H : QCellOk Z ad h b c) (E : Ext h h') : QCellOk Z ad h' b c := by
  rcases c with vs | ⟨ty, xs⟩ | xs
  · obtain ⟨h1, h2, h3⟩ := H
    exact ⟨h1.ext E, h2, fun k u hk hu => (h3 k u hk hu).ext E⟩
  · obtain ⟨c, h1, h2⟩ := H
    exact ⟨c, h1.ext E, h2⟩
  · obtain ⟨c, h1, h2⟩ := H
    exact ⟨c, h1.ext E, h2⟩
theorem QRep.set {h h' : Heap} {σ : QHeap} {a : Nat} {sl : Nat} {w : Value} {c d : QCell} (H : QRep Z n0 ad h σ) (Ad : QAd n0 ad) (W : Wr h h' (ad a) sl w) (hc : hget σ a = some c) (hd : QCellOk Z ad h' (ad a) d) : QRep Z n0 ad h' (σ.set a d) := by
  obtain ⟨h1, h2, h3⟩ := H
  refine ⟨by simpa using h1, by rw [W.size, h2]; simp, fun k e he => ?_⟩
  rw [hget_set hc] at he
  split at he
  · rename_i q; cases he; rw [q]; exact hd
  · rename_i q; exact (h3 k e he).other W fun z => q (Ad.2 _ _ z)
theorem QRep.push {h h' : Heap} {σ : QHeap} {c : QCell} (H : QRep Z n0 ad h σ) (Ad : QAd n0 ad) (E : Ext h h') (hs : h'.size = h.size + 1) (hc : QCellOk Z ad h' h.size c) : QRep Z n0 ad h' (σ ++ [c]) := by
  obtain ⟨h1, h2, h3⟩ := H
  refine ⟨by simp; omega, by rw [hs, h2]; simp; omega, fun k e he => ?_⟩
  rw [hget_eq] at he
  rcases Nat.lt_or_ge k σ.length with q | q
  · rw [List.getElem?_append_left q, ← hget_eq] at he
    exact (h3 k e he).ext E
  · rw [List.getElem?_append_right q] at he
    obtain rfl : k = σ.length := by
      rcases Nat.lt_or_ge (k - σ.length) 1 with z | z
      · omega
      · rw [List.getElem?_eq_none (by simpa using z)] at he; cases he
    simp at he
    rw [← he, Ad.1 _ h1, ← h2]
    exact hc
theorem mem_of_contains {α : Type} [BEq α] [LawfulBEq α] {L : List α} {a : α} (h : L.contains a = true) : a ∈ L := by simpa using h
theorem lkF_lt : ∀ t ∈ lkF, t.2.2 < nF := by decide +kernel
theorem laid_of (W : QW Z a0) {k : Nat} (hk : k < nF) : Laid Z a0 cName cName (fNm k) (fDs k) := by
  have q := (qw_lay W) k hk
  cases hf : fFin k with
  | true => rw [hf] at q; exact Or.inr q
  | false => rw [hf] at q; exact Or.inl q
theorem qfit_inv {ty : FieldType} {v w : Value} (h : qfit ty v = some w) : v = w ∧ narrow ty (qv ad w) = qv ad w ∧ fits ty (qv ad w) = true := by
  unfold qfit at h
  split at h
  · cases h; exact ⟨rfl, rfl, rfl⟩
  · rename_i x
    obtain ⟨y, hy, h⟩ := Option.bind_eq_some_iff.mp h
    cases h
    unfold qboo at hy
    split at hy
    · rename_i e; cases hy; subst e; exact ⟨rfl, rfl, rfl⟩
    · split at hy
      · rename_i e; cases hy; subst e; exact ⟨rfl, rfl, rfl⟩
      · cases hy
  · cases h; exact ⟨rfl, rfl, rfl⟩
  · cases h; exact ⟨rfl, rfl, rfl⟩
  · cases h
theorem vget_set {vs : List Value} {k j : Nat} {w : Value} (hk : k < vs.length) : vget (vs.set k w) j = if j = k then some w else vget vs j := by
  simp only [vget_eq, List.getElem?_set]
  by_cases e : k = j
  · subst e; simp [hk]
  · simp [e, Ne.symm e]
theorem ald_in {α : Type} {f : α → Value} {xs : List α} {c : Cell} {j : Int32} {x : α} (hc : c.slots = (xs.map f).toArray) (h : aget xs j = some x) : ¬ (j < 0 ∨ c.slots.size ≤ j.toNatClampNeg) ∧ c.slots[j.toNatClampNeg]? = some (f x) := by
  obtain ⟨h1, h2⟩ := aget_inv h
  have h3 := (List.getElem?_eq_some_iff.mp h2).1
  refine ⟨fun q => ?_, by rw [hc]; simp [h2]⟩
  rcases q with q | q
  · exact h1 q
  · rw [hc] at q; simp at q; omega
theorem ast_in {α : Type} {f : α → Value} {xs ys : List α} {c : Cell} {j : Int32} {x : α} (hc : c.slots = (xs.map f).toArray) (h : aset xs j x = some ys) : ¬ (j < 0 ∨ c.slots.size ≤ j.toNatClampNeg) ∧ (c.setSlot j.toNatClampNeg (f x)).slots = (ys.map f).toArray := by
  obtain ⟨h1, h2, rfl⟩ := aset_inv h
  refine ⟨fun q => ?_, by simp [Cell.setSlot, hc, List.map_set]⟩
  rcases q with q | q
  · exact h1 q
  · rw [hc] at q; simp at q; omega
theorem qgrow {σ : QHeap} {c : QCell} : qhs (σ ++ [c]) - qhs σ = qsz c := by rw [qhs_app]; simp [qhs]
set_option maxHeartbeats 4000000 in
theorem QTri.newArr (Ad : QAd n0 ad) (W : QW Z a0) {pc aux : Nat} {L : QLoc} {S : List Value} {σ : QHeap} {aty : ArrayType} {n : Int32} {k : Nat} {c : QCell} (hk : qnew n = some k) (hc : pCode m pc = some (.newarray aty, aux)) (hz : qsz c = k)
    (hq : ∀ (h' : Heap) (a : Addr) (cA : ClassId), Arr Z h' a (newA cA (newarray.typeOf aty) n) (newarray.typeOf aty) → QCellOk Z ad h' a c)
    (h : QTri l Z n0 ad m (pc + 2, L, .ref σ.length :: S, σ ++ [c]) v σ') : QTri l Z n0 ad m (pc, L, .int n :: S, σ) v σ' := by
  have hd : decode (pBytes m) pc = .ok (.newarray aty, 2) := pDecN hc rfl
  obtain ⟨n1, n2, n3⟩ := qnew_inv hk
  refine QTri.gen h (by simp) (by simp [qhs_app]) fun p e R s mid args below meth c' T locs cells slots C hcx X hR hF hL hC hn hc1 hsl => ?_
  obtain ⟨hx, hZ, hby, hml, hret, hown, hnm, hfr, hlo⟩ := hcx
  have hd2 : decode c'.code pc = .ok (.newarray aty, 2) := by rw [hby]; exact hd
  simp only [List.length_append, List.length_singleton, Nat.add_sub_cancel_left, qgrow, hz] at hc1 hsl ⊢
  obtain ⟨T₁, h₁, cA, X₁, e₁, E₁, A₁, st⟩ := newP X hx hZ (aty := aty) (qw_arr W (newarray.typeOf aty) (mem_of_contains (show aTys.contains (newarray.typeOf aty) = true from pRest hc))) rfl (g := mkF mid pc C (.int n :: S.map (qv ad))) rfl hd2 rfl n1 (cap := k) (by omega) (by omega) hc1 hsl
  have hsz : h₁.size = T.heap.size + 1 := by
    have q1 := X₁.heapSize
    have q2 : T.heap.size < h₁.size := A₁.lt
    have q3 := hR.2.1
    rw [e₁] at q1
    have : n0 + (σ.length - k0) = s.heap.size + cells := hn
    have q3' : T.heap.size = n0 + (σ.length - k0) := q3
    omega
  refine ⟨T₁, locs, C, X₁, ?_, hF, hL, hC, fun target q => ?_⟩
  · rw [e₁]; exact QRep.push hR Ad E₁ hsz (hq _ _ _ A₁)
  · refine st _ ?_
    have e2 : ad σ.length = T.heap.size := by rw [Ad.1 _ hR.1]; exact hR.2.1.symm
    simp only [List.map_cons, qv, e2] at q
    exact q
set_option maxHeartbeats 4000000 in
theorem QTri.getfield (W : QW Z a0) {pc idx aux : Nat} {L : QLoc} {S : List Value} {σ : QHeap} {st' : QSt} (h : QTri l Z n0 ad m st' v σ') (hc : pCode m pc = some (.getfield idx, aux)) (hs : qget (pc + 3) L S σ aux = some st') : QTri l Z n0 ad m (pc, L, S, σ) v σ' := by
  have hd : decode (pBytes m) pc = .ok (.getfield idx, 3) := pDecN hc rfl
  obtain ⟨a, S', vs, w, rfl, hvs, hw, rfl⟩ := qget_inv hs
  have hm := mem_of_contains (show lkF.contains (pK m, idx, aux) = true from pRest hc)
  have hlt := lkF_lt _ hm
  refine QTri.pure h rfl fun p e R s mid args below meth c T locs cells slots C hcx X hR hL hC => ?_
  obtain ⟨hx, hZ, hby, hml, hret, hown, hnm, hfr, hlo⟩ := hcx
  have hd2 : decode c.code pc = .ok (.getfield idx, 3) := by rw [hby]; exact hd
  have F := (hR.2.2 _ _ hvs).2.2 aux w hlt hw
  obtain ⟨T₁, X₁, e₁, st⟩ := getF X hx hZ hown (host := "") (index := idx) (Or.inl (qw_fl W (pK m, idx, aux) hm)) Via.refl rfl F (g := mkF mid pc C (List.map (qv ad) (.ref a :: S'))) rfl rfl hd2
  exact ⟨T₁, C, X₁, e₁, hL, hC, st⟩
set_option maxHeartbeats 4000000 in
theorem QTri.putfield (Ad : QAd n0 ad) (W : QW Z a0) {pc idx aux : Nat} {L : QLoc} {S : List Value} {σ : QHeap} {st' : QSt} (h : QTri l Z n0 ad m st' v σ') (hc : pCode m pc = some (.putfield idx, aux)) (hs : qput (pc + 3) L S σ aux = some st') : QTri l Z n0 ad m (pc, L, S, σ) v σ' := by
  have hd : decode (pBytes m) pc = .ok (.putfield idx, 3) := pDecN hc rfl
  obtain ⟨w, a, S', vs, u, rfl, hvs, b1, b2, hu, rfl⟩ := qput_inv hs
  obtain ⟨r1, r2⟩ := Bool.and_eq_true_iff.mp (show (lkF.contains (pK m, idx, aux) && (!fFin aux || (pK m == 1 && pNm m == "<init>"))) = true from pRest hc)
  have hm := mem_of_contains r1
  have hlt := lkF_lt _ hm
  obtain ⟨rfl, q2, q3⟩ := qfit_inv (ad := ad) hu
  have hsz : qhs (σ.set a (Sum.inl (vs.set aux w))) = qhs σ := qhs_set hvs rfl
  refine QTri.gen h (by simp) (by show qhs σ ≤ qhs (σ.set a (Sum.inl (vs.set aux w))); rw [hsz]; exact Nat.le_refl _) fun p e R s mid args below meth c T locs cells slots C hcx X hR hF hL hC hn hc1 hsl => ?_
  obtain ⟨hx, hZ, hby, hml, hret, hown, hnm, hfr, hlo⟩ := hcx
  have hd2 : decode c.code pc = .ok (.putfield idx, 3) := by rw [hby]; exact hd
  obtain ⟨E, l1, Fs⟩ := hR.2.2 _ _ hvs
  obtain ⟨old, hold⟩ : ∃ old, vget vs aux = some old := by rw [vget_eq]; exact ⟨_, List.getElem?_eq_getElem b2⟩
  have lay : (Cond.lays cName cName (fNm aux) (fDs aux)).before a0 Z = true ∨ ((Cond.laysFinal cName cName (fNm aux) (fDs aux)).before a0 Z = true ∧ kName (pK m) = cName ∧ meth.name = "<init>") := by
    have q := (qw_lay W) aux hlt
    cases hf : fFin aux with
    | false => rw [hf] at q; exact Or.inl q
    | true =>
      rw [hf] at q r2
      simp at r2
      exact Or.inr ⟨q, by rw [r2.1]; exact kOne, by rw [hnm]; exact r2.2⟩
  obtain ⟨T₁, h₁, X₁, e₁, W₁, st⟩ := putF X hx hZ hown (host := "") (index := idx) (Or.inl (qw_fl W (pK m, idx, aux) hm)) Via.refl rfl (Fs aux old hlt hold) E lay ((qw_inst W)) (fPrs aux hlt) q2 q3 (g := mkF mid pc C (List.map (qv ad) (w :: .ref a :: S'))) rfl rfl hd2
  refine ⟨T₁, _, C, ?_, ?_, Fr.snoc X₁ hF (by rw [Ad.1 a b1]; exact Nat.le_add_right _ _), hL, hC, st⟩
  · show Stand _ _ _ _ _ _ _ _ _ _ _ _ (cells + ((σ.set a (Sum.inl (vs.set aux w))).length - σ.length)) (slots + (qhs (σ.set a (Sum.inl (vs.set aux w))) - qhs σ))
    rw [hsz, Nat.sub_self, List.length_set, Nat.sub_self]
    exact X₁
  · rw [e₁]
    refine QRep.set hR Ad W₁ hvs ⟨E.wr W₁, by simpa using l1, fun k u hk hu => ?_⟩
    rw [vget_set b2] at hu
    split at hu
    · rename_i e; cases hu; rw [e]; exact (Fs aux old hlt hold).same W₁
    · rename_i ne
      exact (Fs k u hk hu).other W₁ (Or.inr (slot_ne (laid_of W hk) (laid_of W hlt) (fun z => ne (fInj _ hk _ hlt z)) (fPrs _ hk) (fPrs _ hlt)))
theorem tyI_inv {ty : FieldType} (h : tyI ty = true) : ty = .int := by cases ty <;> simp [tyI] at h; rfl
theorem tyB_inv {ty : FieldType} (h : tyB ty = true) : ty = .boolean ∨ ty = .byte := by cases ty <;> simp [tyB] at h <;> simp
set_option maxHeartbeats 4000000 in
theorem QTri.iaload {pc aux : Nat} {L : QLoc} {S : List Value} {σ : QHeap} {st' : QSt} (h : QTri l Z n0 ad m st' v σ') (hc : pCode m pc = some (.iaload, aux)) (hs : qald (pc + 1) L S σ tyI = some st') : QTri l Z n0 ad m (pc, L, S, σ) v σ' := by
  have hd : decode (pBytes m) pc = .ok (.iaload, 1) := pDecN hc rfl
  obtain ⟨j, a, S', ty, xs, w, rfl, hx1, ht, hw, rfl⟩ := qald_inv hs
  obtain rfl := tyI_inv ht
  refine QTri.stack h fun p e R s mid args below meth c T locs cells slots C target hx hZ hby hown X hR hL k => ?_
  have hd2 : decode c.code pc = .ok (.iaload, 1) := by rw [hby]; exact hd
  obtain ⟨cl, A, hsl⟩ := hR.2.2 _ _ hx1
  obtain ⟨i1, i2⟩ := ald_in hsl hw
  exact X.iaload hx A.1 (State.isArrayOf_alike hZ.alike A.2.1) A.2.2 i1 i2 (g := mkF mid pc C (List.map (qv ad) (.int j :: .ref a :: S'))) rfl rfl hd2 _ k
set_option maxHeartbeats 4000000 in
theorem QTri.baload {pc aux : Nat} {L : QLoc} {S : List Value} {σ : QHeap} {st' : QSt} (h : QTri l Z n0 ad m st' v σ') (hc : pCode m pc = some (.baload, aux)) (hs : qald (pc + 1) L S σ tyB = some st') : QTri l Z n0 ad m (pc, L, S, σ) v σ' := by
  have hd : decode (pBytes m) pc = .ok (.baload, 1) := pDecN hc rfl
  obtain ⟨j, a, S', ty, xs, w, rfl, hx1, ht, hw, rfl⟩ := qald_inv hs
  refine QTri.stack h fun p e R s mid args below meth c T locs cells slots C target hx hZ hby hown X hR hL k => ?_
  have hd2 : decode c.code pc = .ok (.baload, 1) := by rw [hby]; exact hd
  obtain ⟨cl, A, hsl⟩ := hR.2.2 _ _ hx1
  obtain ⟨i1, i2⟩ := ald_in hsl hw
  rcases tyB_inv ht with rfl | rfl
  · exact X.baloadBooleans hx A.1 (State.isArrayOf_alike hZ.alike A.2.1) A.2.2 i1 i2 (g := mkF mid pc C (List.map (qv ad) (.int j :: .ref a :: S'))) rfl rfl hd2 _ k
  · exact X.baloadBytes hx A.1 (State.isArrayOf_alike hZ.alike A.2.1) A.2.2 i1 i2 (g := mkF mid pc C (List.map (qv ad) (.int j :: .ref a :: S'))) rfl rfl hd2 _ k
set_option maxHeartbeats 4000000 in
theorem QTri.laload {pc aux : Nat} {L : QLoc} {S : List Value} {σ : QHeap} {st' : QSt} (h : QTri l Z n0 ad m st' v σ') (hc : pCode m pc = some (.laload, aux)) (hs : qaldJ (pc + 1) L S σ = some st') : QTri l Z n0 ad m (pc, L, S, σ) v σ' := by
  have hd : decode (pBytes m) pc = .ok (.laload, 1) := pDecN hc rfl
  obtain ⟨j, a, S', xs, w, rfl, hx1, hw, rfl⟩ := qaldJ_inv hs
  refine QTri.stack h fun p e R s mid args below meth c T locs cells slots C target hx hZ hby hown X hR hL k => ?_
  have hd2 : decode c.code pc = .ok (.laload, 1) := by rw [hby]; exact hd
  obtain ⟨cl, A, hsl⟩ := hR.2.2 _ _ hx1
  obtain ⟨i1, i2⟩ := ald_in hsl hw
  exact X.laload hx A.1 (State.isArrayOf_alike hZ.alike A.2.1) A.2.2 i1 i2 (g := mkF mid pc C (List.map (qv ad) (.int j :: .ref a :: S'))) rfl rfl hd2 _ k
/-- behind a store into an array -/
theorem QTri.stored (Ad : QAd n0 ad) {pc : Nat} {L : QLoc} {S S' : List Value} {σ : QHeap} {a j : Nat} {w : Value} {c d : QCell} (hx1 : hget σ a = some c) (b1 : k0 ≤ a) (hz : qsz d = qsz c) (h : QTri l Z n0 ad m (pc + 1, L, S', σ.set a d) v σ')
    (hs : ∀ (p : Program) (e : Env) (R : Room) (s : State) (mid : MethodId) (args : Array Value) (below : List Frame) (meth : Method) (c : Code) (T : State) (locs : List Loc) (cells slots : Nat) (C : Array Slot),
      QCx Z p R s mid meth c m → Stand p l e R s mid args below meth c T locs cells slots → QRep Z n0 ad T.heap σ →
      ∃ T' h', Stand p l e R s mid args below meth c T' (locs ++ [⟨ad a, j⟩]) cells slots ∧ T'.heap = h' ∧ Wr T.heap h' (ad a) j w ∧ QCellOk Z ad h' (ad a) d ∧ ∀ target, Steps p.tables e below (T'.setTop (mkF mid (pc + 1) C (S'.map (qv ad)))) target → Steps p.tables e below (T.setTop (mkF mid pc C (S.map (qv ad)))) target) :
    QTri l Z n0 ad m (pc, L, S, σ) v σ' := by
  have hsz : qhs (σ.set a d) = qhs σ := qhs_set hx1 hz
  refine QTri.gen h (by simp) (by show qhs σ ≤ qhs (σ.set a d); rw [hsz]; exact Nat.le_refl _) fun p e R s mid args below meth c T locs cells slots C hcx X hR hF hL hC hn hc1 hsl => ?_
  obtain ⟨T₁, h₁, X₁, e₁, W₁, Q₁, st⟩ := hs p e R s mid args below meth c T locs cells slots C hcx X hR
  refine ⟨T₁, _, C, ?_, ?_, Fr.snoc X₁ hF (by rw [Ad.1 a b1]; exact Nat.le_add_right _ _), hL, hC, st⟩
  · show Stand _ _ _ _ _ _ _ _ _ _ _ _ (cells + ((σ.set a d).length - σ.length)) (slots + (qhs (σ.set a d) - qhs σ))
    rw [hsz, Nat.sub_self, List.length_set, Nat.sub_self]
    exact X₁
  · rw [e₁]
    exact QRep.set hR Ad W₁ hx1 Q₁
set_option maxHeartbeats 4000000 in
theorem QTri.iastore (Ad : QAd n0 ad) {pc aux : Nat} {L : QLoc} {S : List Value} {σ : QHeap} {st' : QSt} (h : QTri l Z n0 ad m st' v σ') (hc : pCode m pc = some (.iastore, aux)) (hs : qast (pc + 1) L S σ tyI = some st') : QTri l Z n0 ad m (pc, L, S, σ) v σ' := by
  have hd : decode (pBytes m) pc = .ok (.iastore, 1) := pDecN hc rfl
  obtain ⟨w, j, a, S', ty, xs, ys, rfl, hx1, ht, b1, hw, rfl⟩ := qast_inv hs
  obtain rfl := tyI_inv ht
  refine QTri.stored Ad (j := j.toNatClampNeg) (w := .int w) hx1 b1 (by rw [(aset_inv hw).2.2]; simp [qsz]) h fun p e R s mid args below meth c T locs cells slots C hcx X hR => ?_
  have hd2 : decode c.code pc = .ok (.iastore, 1) := by rw [hcx.2.2.1]; exact hd
  obtain ⟨cl, A, hsl⟩ := hR.2.2 _ _ hx1
  obtain ⟨i1, i2⟩ := ast_in hsl hw
  obtain ⟨T₁, h₁, X₁, e₁, W₁, st⟩ := stI X hcx.1 hcx.2.1 rfl A i1 (g := mkF mid pc C (List.map (qv ad) (.int w :: .int j :: .ref a :: S'))) rfl rfl hd2
  exact ⟨T₁, h₁, X₁, e₁, W₁, ⟨_, A.same W₁, i2⟩, st⟩
set_option maxHeartbeats 4000000 in
theorem QTri.bastore (Ad : QAd n0 ad) {pc aux : Nat} {L : QLoc} {S : List Value} {σ : QHeap} {st' : QSt} (h : QTri l Z n0 ad m st' v σ') (hc : pCode m pc = some (.bastore, aux)) (hs : qast (pc + 1) L S σ tyB = some st') : QTri l Z n0 ad m (pc, L, S, σ) v σ' := by
  have hd : decode (pBytes m) pc = .ok (.bastore, 1) := pDecN hc rfl
  obtain ⟨w, j, a, S', ty, xs, ys, rfl, hx1, ht, b1, hw, rfl⟩ := qast_inv hs
  refine QTri.stored Ad (j := j.toNatClampNeg) (w := .int (qnar ty w)) hx1 b1 (by rw [(aset_inv hw).2.2]; simp [qsz]) h fun p e R s mid args below meth c T locs cells slots C hcx X hR => ?_
  have hd2 : decode c.code pc = .ok (.bastore, 1) := by rw [hcx.2.2.1]; exact hd
  obtain ⟨cl, A, hsl⟩ := hR.2.2 _ _ hx1
  obtain ⟨i1, i2⟩ := ast_in hsl hw
  rcases tyB_inv ht with rfl | rfl
  · obtain ⟨T₁, h₁, X₁, e₁, W₁, st⟩ := stZ X hcx.1 hcx.2.1 rfl A i1 (g := mkF mid pc C (List.map (qv ad) (.int w :: .int j :: .ref a :: S'))) rfl rfl hd2
    exact ⟨T₁, h₁, X₁, e₁, W₁, ⟨_, A.same W₁, i2⟩, st⟩
  · obtain ⟨T₁, h₁, X₁, e₁, W₁, st⟩ := stB X hcx.1 hcx.2.1 rfl A i1 (g := mkF mid pc C (List.map (qv ad) (.int w :: .int j :: .ref a :: S'))) rfl rfl hd2
    exact ⟨T₁, h₁, X₁, e₁, W₁, ⟨_, A.same W₁, i2⟩, st⟩
set_option maxHeartbeats 4000000 in
theorem QTri.lastore (Ad : QAd n0 ad) {pc aux : Nat} {L : QLoc} {S : List Value} {σ : QHeap} {st' : QSt} (h : QTri l Z n0 ad m st' v σ') (hc : pCode m pc = some (.lastore, aux)) (hs : qastJ (pc + 1) L S σ = some st') : QTri l Z n0 ad m (pc, L, S, σ) v σ' := by
  have hd : decode (pBytes m) pc = .ok (.lastore, 1) := pDecN hc rfl
  obtain ⟨w, j, a, S', xs, ys, rfl, hx1, b1, hw, rfl⟩ := qastJ_inv hs
  refine QTri.stored Ad (j := j.toNatClampNeg) (w := .long w) hx1 b1 (by rw [(aset_inv hw).2.2]; simp [qsz]) h fun p e R s mid args below meth c T locs cells slots C hcx X hR => ?_
  have hd2 : decode c.code pc = .ok (.lastore, 1) := by rw [hcx.2.2.1]; exact hd
  obtain ⟨cl, A, hsl⟩ := hR.2.2 _ _ hx1
  obtain ⟨i1, i2⟩ := ast_in hsl hw
  obtain ⟨T₁, h₁, X₁, e₁, W₁, st⟩ := stJ X hcx.1 hcx.2.1 rfl A i1 (g := mkF mid pc C (List.map (qv ad) (.long w :: .int j :: .ref a :: S'))) rfl rfl hd2
  exact ⟨T₁, h₁, X₁, e₁, W₁, ⟨_, A.same W₁, i2⟩, st⟩
set_option maxHeartbeats 4000000 in
theorem QTri.alen {pc aux : Nat} {L : QLoc} {S : List Value} {σ : QHeap} {st' : QSt} (h : QTri l Z n0 ad m st' v σ') (hc : pCode m pc = some (.arraylength, aux)) (hs : qlen (pc + 1) L S σ = some st') : QTri l Z n0 ad m (pc, L, S, σ) v σ' := by
  have hd : decode (pBytes m) pc = .ok (.arraylength, 1) := pDecN hc rfl
  obtain ⟨a, S', n, rfl, hx1, rfl⟩ := qlen_inv hs
  refine QTri.stack h fun p e R s mid args below meth c T locs cells slots C target hx hZ hby hown X hR hL k => ?_
  have hd2 : decode c.code pc = .ok (.arraylength, 1) := by rw [hby]; exact hd
  rcases hx1 with ⟨ty, xs, hx1, rfl⟩ | ⟨xs, hx1, rfl⟩
  · obtain ⟨cl, A, hsl⟩ := hR.2.2 _ _ hx1
    have e1 : cl.slots.size = xs.length := by rw [hsl]; simp
    rw [← e1] at k
    exact X.arraylength hx A.1 (State.isArrayOf_alike hZ.alike A.2.1) (g := mkF mid pc C (List.map (qv ad) (.ref a :: S'))) rfl rfl hd2 _ k
  · obtain ⟨cl, A, hsl⟩ := hR.2.2 _ _ hx1
    have e1 : cl.slots.size = xs.length := by rw [hsl]; simp
    rw [← e1] at k
    exact X.arraylength hx A.1 (State.isArrayOf_alike hZ.alike A.2.1) (g := mkF mid pc C (List.map (qv ad) (.ref a :: S'))) rfl rfl hd2 _ k
set_option maxHeartbeats 4000000 in
theorem QTri.newObj (Ad : QAd n0 ad) (W : QW Z a0) {pc idx aux : Nat} {L : QLoc} {S : List Value} {σ : QHeap} (h : QTri l Z n0 ad m (pc + 3, L, .ref σ.length :: S, σ ++ [.inl cDef]) v σ') (hc : pCode m pc = some (.new idx, aux)) : QTri l Z n0 ad m (pc, L, S, σ) v σ' := by
  have hd : decode (pBytes m) pc = .ok (.new idx, 3) := pDecN hc rfl
  have hm := mem_of_contains (show lkN.contains (pK m, idx) = true from pRest hc)
  refine QTri.gen h (by simp) (by simp [qhs_app]) fun p e R s mid args below meth c T locs cells slots C hcx X hR hF hL hC hn hc1 hsl => ?_
  obtain ⟨hx, hZ, hby, hml, hret, hown, hnm, hfr, hlo⟩ := hcx
  have hd2 : decode c.code pc = .ok (.new idx, 3) := by rw [hby]; exact hd
  simp only [List.length_append, List.length_singleton, Nat.add_sub_cancel_left, qgrow, qsz] at hc1 hsl ⊢
  obtain ⟨T₁, h₁, X₁, e₁, E₁, A₁, D₁, -, st⟩ := newO X hx hZ hown (index := idx) (qw_nw W (pK m, idx) hm) ((qw_inst W)) ((qw_init W)) rfl (g := mkF mid pc C (S.map (qv ad))) rfl hd2 hc1 hsl
  have hsz : h₁.size = T.heap.size + 1 := by
    have q1 := X₁.heapSize
    have q2 : T.heap.size < h₁.size := A₁.lt
    have q3 : T.heap.size = n0 + (σ.length - k0) := hR.2.1
    rw [e₁] at q1
    have : n0 + (σ.length - k0) = s.heap.size + cells := hn
    omega
  refine ⟨T₁, locs, C, X₁, ?_, hF, hL, hC, fun target q => ?_⟩
  · rw [e₁]
    refine QRep.push hR Ad E₁ hsz ⟨A₁, cDefL, fun k u hk hu => ?_⟩
    rw [cDefs k hk] at hu
    cases hu
    have e3 : qv ad (defaultValue (fTy k)) = defaultValue (fTy k) := by
      cases hq : defaultValue (fTy k) with
      | ref a => exact absurd hq (fDef k hk a)
      | _ => rfl
    rw [e3]
    exact D₁ (laid_of W hk) (fPrs k hk)
  · refine st _ ?_
    have e2 : ad σ.length = T.heap.size := by rw [Ad.1 _ hR.1]; exact hR.2.1.symm
    simp only [List.map_cons, qv, e2] at q
    exact q
set_option maxHeartbeats 8000000 in
theorem QTri.step (Ad : QAd n0 ad) (W : QW Z a0) {st st' : QSt} (h : QTri l Z n0 ad m st' v σ') (hs : qstep m st = some st') : QTri l Z n0 ad m st v σ' := by
  obtain ⟨pc, L, S, σ⟩ := st
  unfold qstep at hs
  dsimp only at hs
  split at hs
  rotate_left
  · cases hs
  rename_i i aux hc
  have hd := pDecN hc rfl
  have hr := pRest hc
  unfold qexec at hs
  split at hs
  · -- aload_n
    obtain ⟨w, h1, h2, rfl⟩ := qload_inv hs
    obtain ⟨a, rfl⟩ := isR_inv h2
    exact QTri.stack h fun p e R s mid args below meth c T locs cells slots C target hx hZ hby hown X hR hL k => XS.aloadN X.here hx rfl (hb hby hd) (hL.2.1 _ _ h1) rfl k
  · obtain ⟨w, h1, h2, rfl⟩ := qload_inv hs
    obtain ⟨a, rfl⟩ := isR_inv h2
    exact QTri.stack h fun p e R s mid args below meth c T locs cells slots C target hx hZ hby hown X hR hL k => XS.aload X.here hx rfl (hb hby hd) (hL.2.1 _ _ h1) rfl k
  · obtain ⟨w, h1, h2, rfl⟩ := qload_inv hs
    obtain ⟨a, rfl⟩ := isI_inv h2
    exact QTri.stack h fun p e R s mid args below meth c T locs cells slots C target hx hZ hby hown X hR hL k => XS.iloadN X.here hx rfl (hb hby hd) (hL.2.1 _ _ h1) k
  · obtain ⟨w, h1, h2, rfl⟩ := qload_inv hs
    obtain ⟨a, rfl⟩ := isI_inv h2
    exact QTri.stack h fun p e R s mid args below meth c T locs cells slots C target hx hZ hby hown X hR hL k => XS.iload X.here hx rfl (hb hby hd) (hL.2.1 _ _ h1) k
  · obtain ⟨w, h1, h2, rfl⟩ := qload_inv hs
    obtain ⟨a, rfl⟩ := isJ_inv h2
    exact QTri.stack h fun p e R s mid args below meth c T locs cells slots C target hx hZ hby hown X hR hL k => XT.lloadN X.here hx rfl (hb hby hd) (hL.2.1 _ _ h1) k
  · obtain ⟨w, h1, h2, rfl⟩ := qload_inv hs
    obtain ⟨a, rfl⟩ := isJ_inv h2
    exact QTri.stack h fun p e R s mid args below meth c T locs cells slots C target hx hZ hby hown X hR hL k => XT.lload X.here hx rfl (hb hby hd) (hL.2.1 _ _ h1) k
  · cases hs -- iconst
    exact QTri.stack h fun p e R s mid args below meth c T locs cells slots C target hx hZ hby hown X hR hL k => XS.iconst X.here hx rfl (hb hby hd) k
  · cases hs
    exact QTri.stack h fun p e R s mid args below meth c T locs cells slots C target hx hZ hby hown X hR hL k => XS.bipush X.here hx rfl (hb hby hd) k
  · cases hs
    exact QTri.stack h fun p e R s mid args below meth c T locs cells slots C target hx hZ hby hown X hR hL k => XS.sipush X.here hx rfl (hb hby hd) k
  · cases hs
    exact QTri.stack h fun p e R s mid args below meth c T locs cells slots C target hx hZ hby hown X hR hL k => XT.lconst X.here hx rfl (hb hby hd) k
  · -- ldc
    unfold qldc at hs
    split at hs
    · rename_i w hw
      cases hs
      obtain ⟨x, hx1, hx2⟩ := qw_cI W (pK m, _, aux) (mem_of_contains (show lkC.contains (pK m, _, aux) = true from hr))
      rw [show vget cK aux = some w from hw] at hx1
      cases hx1
      exact QTri.stack h fun p e R s mid args below meth c T locs cells slots C target hx hZ hby hown X hR hL k => X.ldcI hx hown (mv hZ hx2) rfl (hb hby hd) k
    · cases hs
  · unfold qldc at hs
    split at hs
    · rename_i w hw
      cases hs
      obtain ⟨x, hx1, hx2⟩ := qw_cJ W (pK m, _, aux) (mem_of_contains (show lkD.contains (pK m, _, aux) = true from hr))
      rw [show vget cK aux = some w from hw] at hx1
      cases hx1
      exact QTri.stack h fun p e R s mid args below meth c T locs cells slots C target hx hZ hby hown X hR hL k => X.ldc2J hx hown (mv hZ hx2) rfl (hb hby hd) k
    · cases hs
  · -- istore_n
    obtain ⟨w, S', L', rfl, h2, h3, rfl⟩ := qstore_inv hs
    obtain ⟨a, rfl⟩ := isI_inv h2
    exact QTri.frame h fun p e R s mid args below meth c T locs cells slots C hcx X hR hL hC => by
      obtain ⟨D, d1, d2, d3⟩ := store_ok hL h3
      exact ⟨D, d2, d3.trans hC, fun target k => XS.istoreN X.here hcx.1 rfl (hb hcx.2.2.1 hd) rfl d1 k⟩
  · obtain ⟨w, S', L', rfl, h2, h3, rfl⟩ := qstore_inv hs
    obtain ⟨a, rfl⟩ := isI_inv h2
    exact QTri.frame h fun p e R s mid args below meth c T locs cells slots C hcx X hR hL hC => by
      obtain ⟨D, d1, d2, d3⟩ := store_ok hL h3
      exact ⟨D, d2, d3.trans hC, fun target k => XS.istore X.here hcx.1 rfl (hb hcx.2.2.1 hd) rfl d1 k⟩
  · obtain ⟨w, S', L', rfl, h2, h3, rfl⟩ := qstore_inv hs
    obtain ⟨a, rfl⟩ := isJ_inv h2
    exact QTri.frame h fun p e R s mid args below meth c T locs cells slots C hcx X hR hL hC => by
      obtain ⟨D, d1, d2, d3⟩ := store_ok hL h3
      exact ⟨D, d2, d3.trans hC, fun target k => XT.lstoreN X.here hcx.1 rfl (hb hcx.2.2.1 hd) rfl d1 k⟩
  · obtain ⟨w, S', L', rfl, h2, h3, rfl⟩ := qstore_inv hs
    obtain ⟨a, rfl⟩ := isJ_inv h2
    exact QTri.frame h fun p e R s mid args below meth c T locs cells slots C hcx X hR hL hC => by
      obtain ⟨D, d1, d2, d3⟩ := store_ok hL h3
      exact ⟨D, d2, d3.trans hC, fun target k => XT.lstore X.here hcx.1 rfl (hb hcx.2.2.1 hd) rfl d1 k⟩
  · obtain ⟨w, S', L', rfl, h2, h3, rfl⟩ := qstore_inv hs
    obtain ⟨a, rfl⟩ := isR_inv h2
    exact QTri.frame h fun p e R s mid args below meth c T locs cells slots C hcx X hR hL hC => by
      obtain ⟨D, d1, d2, d3⟩ := store_ok hL h3
      exact ⟨D, d2, d3.trans hC, fun target k => XS.astoreN X.here hcx.1 rfl (hb hcx.2.2.1 hd) rfl rfl d1 k⟩
  · obtain ⟨w, S', L', rfl, h2, h3, rfl⟩ := qstore_inv hs
    obtain ⟨a, rfl⟩ := isR_inv h2
    exact QTri.frame h fun p e R s mid args below meth c T locs cells slots C hcx X hR hL hC => by
      obtain ⟨D, d1, d2, d3⟩ := store_ok hL h3
      exact ⟨D, d2, d3.trans hC, fun target k => XS.astore X.here hcx.1 rfl (hb hcx.2.2.1 hd) rfl rfl d1 k⟩
  · -- iinc
    unfold qinc at hs
    split at hs
    · rename_i x hx1
      split at hs
      · rename_i L' hL'
        cases hs
        exact QTri.frame h fun p e R s mid args below meth c T locs cells slots C hcx X hR hL hC => by
          obtain ⟨D, d1, d2, d3⟩ := store_ok hL hL'
          exact ⟨D, d2, d3.trans hC, fun target k => XS.iinc X.here hcx.1 rfl (hb hcx.2.2.1 hd) (hL.2.1 _ _ hx1) d1 k⟩
      · cases hs
    · cases hs
  · obtain ⟨x, y, S', rfl, rfl⟩ := qbin_inv hs -- iadd
    exact QTri.stack h fun p e R s mid args below meth c T locs cells slots C target hx hZ hby hown X hR hL k => XS.iadd X.here hx rfl (hb hby hd) rfl k
  · obtain ⟨x, y, S', rfl, rfl⟩ := qbin_inv hs
    exact QTri.stack h fun p e R s mid args below meth c T locs cells slots C target hx hZ hby hown X hR hL k => XS.isub X.here hx rfl (hb hby hd) rfl k
  · obtain ⟨x, y, S', rfl, rfl⟩ := qbin_inv hs
    exact QTri.stack h fun p e R s mid args below meth c T locs cells slots C target hx hZ hby hown X hR hL k => XS.imul X.here hx rfl (hb hby hd) rfl k
  · obtain ⟨x, y, S', rfl, rfl⟩ := qbin_inv hs
    exact QTri.stack h fun p e R s mid args below meth c T locs cells slots C target hx hZ hby hown X hR hL k => XS.iand X.here hx rfl (hb hby hd) rfl k
  · obtain ⟨x, y, S', rfl, rfl⟩ := qbin_inv hs
    exact QTri.stack h fun p e R s mid args below meth c T locs cells slots C target hx hZ hby hown X hR hL k => XT.ior X.here hx rfl (hb hby hd) rfl k
  · obtain ⟨x, y, S', rfl, rfl⟩ := qbin_inv hs
    exact QTri.stack h fun p e R s mid args below meth c T locs cells slots C target hx hZ hby hown X hR hL k => XT.ixor X.here hx rfl (hb hby hd) rfl k
  · obtain ⟨x, y, S', rfl, rfl⟩ := qbin_inv hs
    exact QTri.stack h fun p e R s mid args below meth c T locs cells slots C target hx hZ hby hown X hR hL k => XT.ishl X.here hx rfl (hb hby hd) rfl k
  · obtain ⟨x, y, S', rfl, rfl⟩ := qbin_inv hs
    exact QTri.stack h fun p e R s mid args below meth c T locs cells slots C target hx hZ hby hown X hR hL k => XT.ishr X.here hx rfl (hb hby hd) rfl k
  · obtain ⟨x, y, S', rfl, rfl⟩ := qbin_inv hs
    exact QTri.stack h fun p e R s mid args below meth c T locs cells slots C target hx hZ hby hown X hR hL k => XT.iushr X.here hx rfl (hb hby hd) rfl k
  · obtain ⟨x, y, z, S', rfl, hz, rfl⟩ := qbino_inv hs -- idiv
    unfold qdiv at hz
    split at hz
    · cases hz
    · rename_i hy
      cases hz
      exact QTri.stack h fun p e R s mid args below meth c T locs cells slots C target hx hZ hby hown X hR hL k => XS.idiv X.here hx rfl (hb hby hd) rfl hy k
  · obtain ⟨x, y, z, S', rfl, hz, rfl⟩ := qbino_inv hs
    unfold qrem at hz
    split at hz
    · cases hz
    · rename_i hy
      cases hz
      exact QTri.stack h fun p e R s mid args below meth c T locs cells slots C target hx hZ hby hown X hR hL k => iremM X hx rfl (hb hby hd) rfl hy k
  · obtain ⟨x, S', rfl, rfl⟩ := quni_inv hs -- ineg
    exact QTri.stack h fun p e R s mid args below meth c T locs cells slots C target hx hZ hby hown X hR hL k => XS.ineg X.here hx rfl (hb hby hd) rfl k
  · obtain ⟨x, S', rfl, rfl⟩ := quni_inv hs
    exact QTri.stack h fun p e R s mid args below meth c T locs cells slots C target hx hZ hby hown X hR hL k => XT.i2l X.here hx rfl (hb hby hd) rfl k
  · obtain ⟨x, S', rfl, rfl⟩ := quni_inv hs
    exact QTri.stack h fun p e R s mid args below meth c T locs cells slots C target hx hZ hby hown X hR hL k => XT.i2b X.here hx rfl (hb hby hd) rfl k
  · obtain ⟨x, S', rfl, rfl⟩ := quniJ_inv hs
    exact QTri.stack h fun p e R s mid args below meth c T locs cells slots C target hx hZ hby hown X hR hL k => XT.l2i X.here hx rfl (hb hby hd) rfl k
  · obtain ⟨x, S', rfl, rfl⟩ := quniJ_inv hs
    exact QTri.stack h fun p e R s mid args below meth c T locs cells slots C target hx hZ hby hown X hR hL k => XT.lneg X.here hx rfl (hb hby hd) rfl k
  · obtain ⟨x, y, S', rfl, rfl⟩ := qbinJ_inv hs
    exact QTri.stack h fun p e R s mid args below meth c T locs cells slots C target hx hZ hby hown X hR hL k => XT.ladd X.here hx rfl (hb hby hd) rfl k
  · obtain ⟨x, y, S', rfl, rfl⟩ := qbinJ_inv hs
    exact QTri.stack h fun p e R s mid args below meth c T locs cells slots C target hx hZ hby hown X hR hL k => XT.lsub X.here hx rfl (hb hby hd) rfl k
  · obtain ⟨x, y, S', rfl, rfl⟩ := qbinJ_inv hs
    exact QTri.stack h fun p e R s mid args below meth c T locs cells slots C target hx hZ hby hown X hR hL k => XT.lmul X.here hx rfl (hb hby hd) rfl k
  · obtain ⟨x, y, S', rfl, rfl⟩ := qbinJ_inv hs
    exact QTri.stack h fun p e R s mid args below meth c T locs cells slots C target hx hZ hby hown X hR hL k => XT.land X.here hx rfl (hb hby hd) rfl k
  · obtain ⟨x, y, S', rfl, rfl⟩ := qbinJ_inv hs
    exact QTri.stack h fun p e R s mid args below meth c T locs cells slots C target hx hZ hby hown X hR hL k => XT.lor X.here hx rfl (hb hby hd) rfl k
  · obtain ⟨x, y, S', rfl, rfl⟩ := qbinJ_inv hs
    exact QTri.stack h fun p e R s mid args below meth c T locs cells slots C target hx hZ hby hown X hR hL k => XT.lxor X.here hx rfl (hb hby hd) rfl k
  · obtain ⟨x, y, S', rfl, rfl⟩ := qshJ_inv hs
    exact QTri.stack h fun p e R s mid args below meth c T locs cells slots C target hx hZ hby hown X hR hL k => XT.lshl X.here hx rfl (hb hby hd) rfl k
  · obtain ⟨x, y, S', rfl, rfl⟩ := qshJ_inv hs
    exact QTri.stack h fun p e R s mid args below meth c T locs cells slots C target hx hZ hby hown X hR hL k => XT.lshr X.here hx rfl (hb hby hd) rfl k
  · obtain ⟨x, y, S', rfl, rfl⟩ := qshJ_inv hs
    exact QTri.stack h fun p e R s mid args below meth c T locs cells slots C target hx hZ hby hown X hR hL k => XT.lushr X.here hx rfl (hb hby hd) rfl k
  · split at hs -- lcmp
    · cases hs
      exact QTri.stack h fun p e R s mid args below meth c T locs cells slots C target hx hZ hby hown X hR hL k => XT.lcmp X.here hx rfl (hb hby hd) rfl k
    · cases hs
  · cases hs -- goto
    obtain ⟨t1, t2⟩ := qtgt_spec hr
    exact QTri.stack h fun p e R s mid args below meth c T locs cells slots C target hx hZ hby hown X hR hL k => XS.goto X.here hx rfl rfl (hb hby hd) t1 t2 k
  · obtain ⟨x, S', rfl, rfl⟩ := qif_inv hs
    obtain ⟨t1, t2⟩ := qtgt_spec hr
    cases hh : ifCond.holds _ x with
    | true => rw [hh] at h; exact QTri.stack h fun p e R s mid args below meth c T locs cells slots C target hx hZ hby hown X hR hL k => XS.ifYes X.here hx rfl rfl (hb hby hd) rfl hh t1 t2 k
    | false => rw [hh] at h; exact QTri.stack h fun p e R s mid args below meth c T locs cells slots C target hx hZ hby hown X hR hL k => XS.ifNo X.here hx rfl (hb hby hd) rfl hh k
  · obtain ⟨x, y, S', rfl, rfl⟩ := qicmp_inv hs
    obtain ⟨t1, t2⟩ := qtgt_spec hr
    cases hh : if_icmp.holds _ x y with
    | true => rw [hh] at h; exact QTri.stack h fun p e R s mid args below meth c T locs cells slots C target hx hZ hby hown X hR hL k => XS.icmpYes X.here hx rfl rfl (hb hby hd) rfl hh t1 t2 k
    | false => rw [hh] at h; exact QTri.stack h fun p e R s mid args below meth c T locs cells slots C target hx hZ hby hown X hR hL k => XS.icmpNo X.here hx rfl (hb hby hd) rfl hh k
  · unfold qdup at hs
    split at hs
    · cases hs
      exact QTri.stack h fun p e R s mid args below meth c T locs cells slots C target hx hZ hby hown X hR hL k => XS.dup X.here hx rfl (hb hby hd) rfl rfl k
    · cases hs
      exact QTri.stack h fun p e R s mid args below meth c T locs cells slots C target hx hZ hby hown X hR hL k => XS.dup X.here hx rfl (hb hby hd) rfl rfl k
    · cases hs
  · unfold qdup2 at hs
    split at hs
    · cases hs
      exact QTri.stack h fun p e R s mid args below meth c T locs cells slots C target hx hZ hby hown X hR hL k => XT.dup2 X.here hx rfl (hb hby hd) rfl rfl rfl k
    · cases hs
      exact QTri.stack h fun p e R s mid args below meth c T locs cells slots C target hx hZ hby hown X hR hL k => XT.dup2 X.here hx rfl (hb hby hd) rfl rfl rfl k
    · cases hs
      exact QTri.stack h fun p e R s mid args below meth c T locs cells slots C target hx hZ hby hown X hR hL k => XT.dup2L X.here hx rfl (hb hby hd) rfl k
    · cases hs
  · unfold qpop at hs
    split at hs
    · cases hs
      exact QTri.stack h fun p e R s mid args below meth c T locs cells slots C target hx hZ hby hown X hR hL k => XT.pop X.here hx rfl (hb hby hd) rfl rfl k
    · cases hs
      exact QTri.stack h fun p e R s mid args below meth c T locs cells slots C target hx hZ hby hown X hR hL k => XT.pop X.here hx rfl (hb hby hd) rfl rfl k
    · cases hs
  · exact QTri.getfield W h hc hs
  · exact QTri.putfield Ad W h hc hs
  · exact QTri.iaload h hc hs
  · exact QTri.baload h hc hs
  · exact QTri.laload h hc hs
  · exact QTri.iastore Ad h hc hs
  · exact QTri.bastore Ad h hc hs
  · exact QTri.lastore Ad h hc hs
  · exact QTri.alen h hc hs
  · -- newarray
    unfold qnewA at hs
    split at hs
    · split at hs
      · obtain ⟨k, hk, hs⟩ := Option.bind_eq_some_iff.mp hs
        cases hs
        exact QTri.newArr (c := .inr (.inl (.int, List.replicate k 0))) Ad W hk hc (by simp [qsz]) (fun h' a cA A => ⟨_, A, by simp [newA, (qnew_inv hk).2.1]; exact Or.inr rfl⟩) h
      · obtain ⟨k, hk, hs⟩ := Option.bind_eq_some_iff.mp hs
        cases hs
        exact QTri.newArr (c := .inr (.inl (.boolean, List.replicate k 0))) Ad W hk hc (by simp [qsz]) (fun h' a cA A => ⟨_, A, by simp [newA, (qnew_inv hk).2.1]; exact Or.inr rfl⟩) h
      · obtain ⟨k, hk, hs⟩ := Option.bind_eq_some_iff.mp hs
        cases hs
        exact QTri.newArr (c := .inr (.inl (.byte, List.replicate k 0))) Ad W hk hc (by simp [qsz]) (fun h' a cA A => ⟨_, A, by simp [newA, (qnew_inv hk).2.1]; exact Or.inr rfl⟩) h
      · obtain ⟨k, hk, hs⟩ := Option.bind_eq_some_iff.mp hs
        cases hs
        exact QTri.newArr (c := .inr (.inr (List.replicate k 0))) Ad W hk hc (by simp [qsz]) (fun h' a cA A => ⟨_, A, by simp [newA, (qnew_inv hk).2.1]; exact Or.inr rfl⟩) h
      · cases hs
    · cases hs
  · cases hs; exact QTri.newObj Ad W h hc
  · cases hs
theorem QTri.steps (Ad : QAd n0 ad) (W : QW Z a0) : ∀ (n : Nat) {st st' : QSt}, qsteps m n st = some st' → QTri l Z n0 ad m st' v σ' → QTri l Z n0 ad m st v σ'
  | 0, st, st', h, k => by cases h; exact k
  | n + 1, st, st', h, k => by
    simp only [qsteps] at h
    split at h
    · rename_i st₁ h1
      exact QTri.step Ad W (QTri.steps Ad W n h k) h1
    · cases h
/-! ## returns, masks, calls -/
def lmask : List Bool → QLoc → QLoc
  | b :: t, x :: u => (bif b then x else none) :: lmask t u
  | _, L => L.map fun _ => none
theorem lmask_len : ∀ (b : List Bool) (L : QLoc), (lmask b L).length = L.length
  | [], L => by simp [lmask]
  | _ :: _, [] => by simp [lmask]
  | _ :: t, _ :: u => by simp [lmask, lmask_len t u]
theorem lmask_get : ∀ (b : List Bool) (L : QLoc) (k : Nat) (v : Value), lget (lmask b L) k = some v → lget L k = some v
  | [], L, k, v, h => by
    simp only [lmask, lget_eq, List.getElem?_map] at h
    cases hq : L[k]? <;> simp [hq] at h
  | _ :: _, [], k, v, h => by simp [lmask, lget] at h
  | b :: t, x :: u, 0, v, h => by
    simp only [lmask, lget] at h ⊢
    cases b
    · cases h
    · exact h
  | b :: t, x :: u, k + 1, v, h => by
    simp only [lmask, lget] at h ⊢
    exact lmask_get t u k v h
theorem QTri.mask {pc : Nat} {L : QLoc} {S : List Value} {σ : QHeap} (b : List Bool) (h : QTri l Z n0 ad m (pc, lmask b L, S, σ) v σ') : QTri l Z n0 ad m (pc, L, S, σ) v σ' :=
  QTri.frame h fun p e R s mid args below meth c T locs cells slots C hcx X hR hL hC => ⟨C, ⟨by rw [lmask_len]; exact hL.1, fun k u hk => hL.2.1 k u (lmask_get b L k u hk), hL.2.2⟩, hC, fun target k => k⟩
theorem QTri.ret0 {pc aux : Nat} {L : QLoc} {σ : QHeap} (hc : pCode m pc = some (.return_, aux)) (hr : pRet m = none) : QTri l Z n0 ad m (pc, L, [], σ) none σ :=
  have hd : decode (pBytes m) pc = .ok (.return_, 1) := pDecN hc rfl
  ⟨Nat.le_refl _, Nat.le_refl _, fun p e R s mid args below meth c T locs cells slots C hcx X hR hF hL hC hn hc1 hsl => ⟨T, locs, by simpa using X, hR, hF, fun fs hf => X.returnOut hcx.1 (hcx.2.2.2.2.1.trans hr) (hb hcx.2.2.1 hd) hf⟩⟩
theorem QTri.retI {pc aux : Nat} {L : QLoc} {S : List Value} {σ : QHeap} {x : Int32} (hc : pCode m pc = some (.ireturn, aux)) (hr : pRet m = some .int) : QTri l Z n0 ad m (pc, L, .int x :: S, σ) (some (.int x)) σ :=
  have hd : decode (pBytes m) pc = .ok (.ireturn, 1) := pDecN hc rfl
  ⟨Nat.le_refl _, Nat.le_refl _, fun p e R s mid args below meth c T locs cells slots C hcx X hR hF hL hC hn hc1 hsl => ⟨T, locs, by simpa using X, hR, hF, fun fs hf => Jvm.RoadKit.retI X hcx.1 (hcx.2.2.2.2.1.trans hr) (hb hcx.2.2.1 hd) hf⟩⟩
theorem QTri.retZ {pc aux : Nat} {L : QLoc} {S : List Value} {σ : QHeap} {x : Int32} (hc : pCode m pc = some (.ireturn, aux)) (hr : pRet m = some .boolean) : QTri l Z n0 ad m (pc, L, .int x :: S, σ) (some (.int (x &&& 1))) σ :=
  have hd : decode (pBytes m) pc = .ok (.ireturn, 1) := pDecN hc rfl
  ⟨Nat.le_refl _, Nat.le_refl _, fun p e R s mid args below meth c T locs cells slots C hcx X hR hF hL hC hn hc1 hsl => ⟨T, locs, by simpa using X, hR, hF, fun fs hf => retN X hcx.1 (t := .boolean) (hcx.2.2.2.2.1.trans hr) (by simp) (hb hcx.2.2.1 hd) hf⟩⟩
theorem QTri.retJ {pc aux : Nat} {L : QLoc} {S : List Value} {σ : QHeap} {x : Int64} (hc : pCode m pc = some (.lreturn, aux)) (hr : pRet m = some .long) : QTri l Z n0 ad m (pc, L, .long x :: S, σ) (some (.long x)) σ :=
  have hd : decode (pBytes m) pc = .ok (.lreturn, 1) := pDecN hc rfl
  ⟨Nat.le_refl _, Nat.le_refl _, fun p e R s mid args below meth c T locs cells slots C hcx X hR hF hL hC hn hc1 hsl => ⟨T, locs, by simpa using X, hR, hF, fun fs hf => retOut X hcx.1 (t := .long) (hcx.2.2.2.2.1.trans hr) rfl (Or.inr (Or.inl ⟨rfl, rfl, _, rfl⟩)) (hb hcx.2.2.1 hd) hf⟩⟩
def LOk (ad : Nat → Addr) (L : QLoc) (C : List Slot) : Prop :=
  L.length = C.length ∧ (∀ k v, lget L k = some v → C[k]? = some (.val (qv ad v))) ∧ (∀ k w, C[k]? = some (.val w) → w.category = 2 → C[k + 1]? = some .second) ∧ ∀ k, C[k]? = some .second → ∃ j w, k = j + 1 ∧ C[j]? = some (.val w) ∧ w.category = 2
theorem LOk.base (ad : Nat → Addr) (n : Nat) : LOk ad (List.replicate n none) (List.replicate n .unset) := by
  refine ⟨by simp, fun k u h => ?_, fun k w h => ?_, fun k h => ?_⟩
  · rw [lget_eq] at h
    rcases Nat.lt_or_ge k n with q | q
    · simp [List.getElem?_replicate, q] at h
    · simp [List.getElem?_eq_none, q] at h
  · rcases Nat.lt_or_ge k n with q | q
    · simp [List.getElem?_replicate, q] at h
    · simp [List.getElem?_eq_none, q] at h
  · rcases Nat.lt_or_ge k n with q | q
    · simp [List.getElem?_replicate, q] at h
    · simp [List.getElem?_eq_none, q] at h
theorem LOk.one {L : QLoc} {C : List Slot} (H : LOk ad L C) {u : Value} (hu : u.category = 1) : LOk ad (some u :: L) (.val (qv ad u) :: C) := by
  obtain ⟨h1, h2, h3, h4⟩ := H
  refine ⟨by simp [h1], fun k w h => ?_, fun k w h hw => ?_, fun k h => ?_⟩
  · cases k with
    | zero => simp only [lget] at h; cases h; simp
    | succ k => simp only [lget] at h; simpa using h2 k w h
  · cases k with
    | zero => simp at h; rw [← h, qv_cat, hu] at hw; cases hw
    | succ k => simpa using h3 k w (by simpa using h) hw
  · cases k with
    | zero => simp at h
    | succ k =>
      obtain ⟨j, w, z1, z2, z3⟩ := h4 k (by simpa using h)
      exact ⟨j + 1, w, by omega, by simpa using z2, z3⟩
theorem LOk.two {L : QLoc} {C : List Slot} (H : LOk ad L C) {u : Value} (hu : u.category = 2) : LOk ad (some u :: none :: L) (.val (qv ad u) :: .second :: C) := by
  obtain ⟨h1, h2, h3, h4⟩ := H
  refine ⟨by simp [h1], fun k w h => ?_, fun k w h hw => ?_, fun k h => ?_⟩
  · rcases k with _ | _ | k
    · simp only [lget] at h; cases h; simp
    · simp [lget] at h
    · simp only [lget] at h; simpa using h2 k w h
  · rcases k with _ | _ | k
    · simp
    · simp at h
    · simpa using h3 k w (by simpa using h) hw
  · rcases k with _ | _ | k
    · simp at h
    · exact ⟨0, qv ad u, rfl, by simp, by rw [qv_cat]; exact hu⟩
    · obtain ⟨j, w, z1, z2, z3⟩ := h4 k (by simpa using h)
      exact ⟨j + 2, w, by omega, by simpa using z2, z3⟩
def slotsOf (u : Value) : List Slot := if u.category = 2 then [.val u, .second] else [.val u]
theorem fold_slots : ∀ (as : List Value) (acc : Array Slot), (as.foldl (fun acc v => if v.category = 2 then (acc.push (.val v)).push .second else acc.push (.val v)) acc).toList = acc.toList ++ as.flatMap slotsOf
  | [], acc => by simp
  | u :: t, acc => by
    rw [List.foldl_cons, fold_slots t]
    by_cases hc : u.category = 2 <;> simp [slotsOf, hc]
theorem slots_len : ∀ (as : List Value), (as.flatMap slotsOf).length = (as.map fun v => v.category).sum
  | [] => rfl
  | u :: t => by
    rw [List.flatMap_cons, List.length_append, slots_len t, List.map_cons, List.sum_cons]
    cases u <;> simp [slotsOf, Value.category]
theorem cats_qv (as : List Value) : ((as.map (qv ad)).map fun v => v.category).sum = (as.map fun v => v.category).sum := by
  rw [List.map_map]
  congr 1
  exact List.map_congr_left fun x _ => qv_cat ad x
theorem entry_list : ∀ (as : List Value) (n : Nat), LOk ad ((as.flatMap fun v => match v with | .long x => [some (.long x), none] | .double x => [some (.double x), none] | v => [some v]) ++ List.replicate n none) ((as.map (qv ad)).flatMap slotsOf ++ List.replicate n .unset)
  | [], n => by simpa using LOk.base ad n
  | u :: t, n => by
    have ih := entry_list t n
    cases u with
    | long x => exact LOk.two ih rfl
    | double x => exact LOk.two ih rfl
    | int x => exact LOk.one ih rfl
    | float x => exact LOk.one ih rfl
    | null => exact LOk.one ih rfl
    | ref x => exact LOk.one ih rfl
    | retAddr x => exact LOk.one ih rfl
theorem qentry_ok (as : List Value) (mx : Nat) (h : (as.map fun v => v.category).sum ≤ mx) : QLocOk ad (qentry as mx) (argsToLocals (as.map (qv ad)).toArray mx) ∧ (argsToLocals (as.map (qv ad)).toArray mx).size = mx := by
  have e : (argsToLocals (as.map (qv ad)).toArray mx).toList = (as.map (qv ad)).flatMap slotsOf ++ List.replicate (mx - (as.map fun v => v.category).sum) .unset := by
    unfold argsToLocals
    have q := fold_slots (as.map (qv ad)) #[]
    simp only [List.foldl_toArray', Array.toList_append, Array.toList_replicate]
    have q2 : ((as.map (qv ad)).foldl (fun (acc : Array Slot) (v : Value) => if v.category = 2 then (acc.push (.val v)).push .second else acc.push (.val v)) #[]).size = (as.map fun v => v.category).sum := by
      rw [← Array.length_toList, q]
      simp only [List.nil_append]
      rw [slots_len, cats_qv]
    rw [q, q2]
    simp
  have H := entry_list (ad := ad) as (mx - (as.map fun v => v.category).sum)
  rw [← e] at H
  obtain ⟨h1, h2, h3, h4⟩ := H
  have hs : (argsToLocals (as.map (qv ad)).toArray mx).size = mx := by
    rw [← Array.length_toList, e, List.length_append, slots_len, cats_qv, List.length_replicate]
    omega
  refine ⟨⟨h1.trans Array.length_toList, fun k u hk => ?_, fun k w hk hw => ?_, fun k hk => ?_⟩, hs⟩
  · have := h2 k u hk; rwa [Array.getElem?_toList] at this
  · have := h3 k w (by rw [Array.getElem?_toList]; exact hk) hw; rwa [Array.getElem?_toList] at this
  · obtain ⟨j, w, z1, z2, z3⟩ := h4 k (by rw [Array.getElem?_toList]; exact hk)
    exact ⟨j, w, z1, by rwa [Array.getElem?_toList] at z2, z3⟩
set_option maxHeartbeats 4000000 in
theorem QTri.met {k : Nat} {as : List Value} {σ σ₁ : QHeap} {w : Option Value} {h0 : Heap} (hk : k < pN) (h : QTri l Z n0 ad k (0, qentry as (pMaxL k), [], σ) w σ₁) (hR : QRep Z n0 ad h0 σ) (hlen : (as.map fun v => v.category).sum ≤ pMaxL k) (hret : pRet k = none → w = none) (ws : List Jvm.Cond) {rm : Room}
    (r1 : pFr k ≤ rm.frames) (r2 : pLo k ≤ rm.locals) (r3 : σ₁.length - σ.length ≤ rm.cells) (r4 : qhs σ₁ - qhs σ ≤ rm.slots) :
    MetFree l (pName k) (head1 (Jvm.Cond.code (pName k) (pBytes k) (pMaxL k) (pRet k) :: ws) rm) (fun a U => a = (as.map (qv ad)).toArray ∧ Z.Warmed39 U.vm ∧ U.heap = h0) (fun _ _ _ _ _ => True)
      (fun _ U o U' => ∃ v L, o = .returned v ∧ (v = w.map (qv ad) ∧ QRep Z n0 ad U'.heap σ₁ ∧ Fr n0 L) ∧ FrameEnd U o U' L (σ₁.length - σ.length) (qhs σ₁ - qhs σ)) := by
  refine MetFree.of_bodySF (plainFor_of_name (kPlain _ (pKlt k hk))) hisR ?_
  intro p e s mid args below meth c s₁ Bd hml0 hP hK
  obtain ⟨rfl, hZ, hh⟩ := hP
  have e0 : s₁.heap = h0 := by rw [← hh, Bd.state]; rfl
  obtain ⟨hl1, hl2⟩ := qentry_ok (ad := ad) as (pMaxL k) hlen
  have hX : Stand p l e rm s mid (as.map (qv ad)).toArray below meth c s₁ [] 0 0 := Stand.of_body Bd
  obtain ⟨T', locs', X', R', F', S'⟩ := h.2.2 p e rm s mid _ below meth c s₁ [] 0 0 _ ⟨Bd.exec, hZ, Bd.bytes, hml0, Bd.returns, findClass_of_methodNamed Bd.named, (name_of_methodNamed Bd.named Bd.method).1, r1, r2⟩ hX (by rw [e0]; exact hR) (Fr.nil _) hl1 (hl2.trans hml0.symm) (by rw [hh, Nat.add_zero]; exact hR.2.1.symm) (by rw [Nat.zero_add]; exact r3) (by rw [Nat.zero_add]; exact r4)
  obtain ⟨fs, hr, hrun, hended, hW, hsame⟩ := X'.leave (v := w.map (qv ad)) (fun q => by rw [hret (Bd.returns.symm.trans q)]; rfl)
  refine ⟨_, _, S' fs hr, hrun, hended, _, _, rfl, ⟨rfl, R', F'⟩, ⟨_, rfl⟩, hW, ?_⟩
  simp only [Nat.zero_add] at hsame
  exact hsame
theorem QTri.room {k : Nat} {σ σ₁ : QHeap} {rest : List Value} {R : Room} (hroom : (Nat.ble (pFr k + 1) (pFr m) && Nat.ble ((rest.map fun v => v.category).sum + (pMaxL k + 11) + pLo k) (pLo m)) = true) (hfr : pFr m ≤ R.frames) (hlo : pLo m ≤ R.locals) :
    pFr k + 1 ≤ R.frames ∧ (rest.map fun v => v.category).sum + (pMaxL k + 11) + pLo k ≤ R.locals := by
  obtain ⟨q1, q2⟩ := Bool.and_eq_true_iff.mp hroom
  exact ⟨Nat.le_trans (Nat.le_of_ble_eq_true q1) hfr, Nat.le_trans (Nat.le_of_ble_eq_true q2) hlo⟩
theorem sig_len {k : Nat} (hk : k < pN) {as : List Value} (hna : as.length = pNA k) : ∀ sig, parseMethodDescriptor (pName k).desc = some sig → (as.map (qv ad)).length = sig.parameters.length := fun sig hs => by
  have q := pSig k hk
  rw [show parseMethodDescriptor (pDs k) = some sig from hs] at q
  simp at q
  simp [hna, q]
theorem ret_map (w : Option Value) (rest : List Value) : (w.toList ++ rest).map (qv ad) = (w.map (qv ad)).toList ++ rest.map (qv ad) := by cases w <;> simp
theorem QTri.after {as0 : List Value} {pc : Nat} {L : QLoc} {S rest : List Value} {σ σ₁ : QHeap} {w : Option Value} {k : Nat} (hcal : QTri l Z n0 ad k (0, qentry as0 (pMaxL k), [], σ) w σ₁) (h : QTri l Z n0 ad m (pc + 3, L, w.toList ++ rest, σ₁) v σ')
    (hs : ∀ (p : Program) (e : Env) (R : Room) (s : State) (mid : MethodId) (args : Array Value) (below : List Frame) (meth : Method) (c : Code) (T : State) (locs : List Loc) (cells slots : Nat) (C : Array Slot),
      QCx Z p R s mid meth c m → Stand p l e R s mid args below meth c T locs cells slots → QRep Z n0 ad T.heap σ → C.size = c.maxLocals → cells + (σ₁.length - σ.length) ≤ R.cells → slots + (qhs σ₁ - qhs σ) ≤ R.slots →
      ∃ T₁ Lc, Stand p l e R s mid args below meth c T₁ (locs ++ Lc) (cells + (σ₁.length - σ.length)) (slots + (qhs σ₁ - qhs σ)) ∧ QRep Z n0 ad T₁.heap σ₁ ∧ Fr n0 Lc ∧
        ∀ target, Steps p.tables e below (T₁.setTop (mkF mid (pc + 3) C ((w.map (qv ad)).toList ++ rest.map (qv ad)))) target → Steps p.tables e below (T.setTop (mkF mid pc C (S.map (qv ad)))) target) :
    QTri l Z n0 ad m (pc, L, S, σ) v σ' := by
  refine QTri.gen h hcal.1 hcal.2.1 fun p e R s mid args below meth c T locs cells slots C hcx X hR hF hL hC hn hc1 hsl => ?_
  obtain ⟨T₁, Lc, X₁, R₁, F₁, st⟩ := hs p e R s mid args below meth c T locs cells slots C hcx X hR hC hc1 hsl
  refine ⟨T₁, locs ++ Lc, C, X₁, R₁, hF.app F₁, hL, hC, fun target q => st target ?_⟩
  rw [← ret_map]
  exact q
set_option maxHeartbeats 4000000 in
theorem QTri.callV (W : QW Z a0) {pc idx k a : Nat} {L : QLoc} {S as rest vs : List Value} {σ σ₁ : QHeap} {w : Option Value} (hc : pCode m pc = some (.invokevirtual idx, k)) (hm : (lkV.contains (pK m, idx, k) && mV.contains k) = true) (hcell : hget σ a = some (.inl vs)) (hS : S = as.reverse ++ .ref a :: rest)
    (hna : as.length = pNA k) (hlen : Nat.ble (((Value.ref a :: as).map fun v => v.category).sum) (pMaxL k) = true) (hroom : (Nat.ble (pFr k + 1) (pFr m) && Nat.ble ((rest.map fun v => v.category).sum + (pMaxL k + 11) + pLo k) (pLo m)) = true) (hrb : (w.isNone || (pRet k).isSome) = true)
    (hcal : QTri l Z n0 ad k (0, qentry (.ref a :: as) (pMaxL k), [], σ) w σ₁) (h : QTri l Z n0 ad m (pc + 3, L, w.toList ++ rest, σ₁) v σ') : QTri l Z n0 ad m (pc, L, S, σ) v σ' := by
  have hd : decode (pBytes m) pc = .ok (.invokevirtual idx, 3) := pDecN hc rfl
  subst hS
  obtain ⟨m1, m2⟩ := Bool.and_eq_true_iff.mp hm
  have m1 := mem_of_contains m1
  have m2 := mem_of_contains m2
  have hkA := (mVlt k m2).1
  have hkN := mAlt k hkA
  have hret : pRet k = none → w = none := fun q => by
    rw [q] at hrb
    cases w with
    | none => rfl
    | some w => simp at hrb
  refine QTri.after hcal h fun p e R s mid args below meth c T locs cells slots C hcx X hR hC hc1 hsl => ?_
  obtain ⟨hx, hZ, hby, hml, hret', hown, hnm, hfr, hlo⟩ := hcx
  have hd2 : decode c.code pc = .ok (.invokevirtual idx, 3) := by rw [hby]; exact hd
  obtain ⟨f1, f2⟩ := QTri.room (σ := σ) (σ₁ := σ₁) hroom hfr hlo
  obtain ⟨cq, kq, q1, q2, q3⟩ := isOf hZ rfl (hR.2.2 _ _ hcell).1
  obtain ⟨w1, w2, w3⟩ := (qw_vi W) k m2
  obtain ⟨c1, c2⟩ := (qw_cod W) k hkA
  obtain ⟨_, _, ⟨T₁, L₁, k₁, n₁⟩, -, X₁, ⟨Lc, ⟨rfl, hR1, hF1⟩, l₁, y₁, z₁⟩, st⟩ := X.virtualBack hx (own := kName (pK m)) (index := idx) (y := pName k) (z := pName k) hown (mvT hZ (qw_ml W (pK m, idx, k) m1)) (mvT hZ w1) (notFace_of_selects (args := #[]) (mvT hZ w2)) (mvT hZ w2) (mvT hZ w3) (pOwn _ (pKlt k hkN))
    (backOf (W := (rest.map fun v => v.category).sum) (rm := ⟨pFr k, σ₁.length - σ.length, qhs σ₁ - qhs σ, pLo k⟩) (Q := fun v h L => v = Option.map (qv ad) w ∧ QRep Z n0 ad h σ₁ ∧ Fr n0 L) (QTri.met hkN hcal hR (Nat.le_of_ble_eq_true hlen) hret [] (Nat.le_refl _) (Nat.le_refl _) (Nat.le_refl _) (Nat.le_refl _)) hZ c1 c2 f1 f2) q1 q3 (g := mkF mid pc C (List.map (qv ad) (as.reverse ++ .ref a :: rest))) rfl hC (Steps.refl _) (argsL := as.map (qv ad)) (rest := rest.map (qv ad)) (sig_len hkN hna) (by simp [qv]) (by show 2 * 0 + _ ≤ _; rw [cats_qv]; omega) hd2 (fun _ _ => ⟨rfl, rfl, hc1, hsl⟩)
  dsimp only [Pt.U, Pt.locs, Pt.cells, Pt.slots] at X₁ l₁ y₁ z₁ st hR1
  subst l₁ y₁ z₁
  exact ⟨T₁, Lc, X₁, hR1, hF1, fun target q => st.trans q⟩
set_option maxHeartbeats 4000000 in
theorem QTri.callI (W : QW Z a0) {pc idx k a : Nat} {L : QLoc} {S as rest : List Value} {σ σ₁ : QHeap} (hc : pCode m pc = some (.invokespecial idx, k)) (hm : (lkV.contains (pK m, idx, k) && mI.contains k) = true) (hS : S = as.reverse ++ .ref a :: rest)
    (hna : as.length = pNA k) (hlen : Nat.ble (((Value.ref a :: as).map fun v => v.category).sum) (pMaxL k) = true) (hroom : (Nat.ble (pFr k + 1) (pFr m) && Nat.ble ((rest.map fun v => v.category).sum + (pMaxL k + 11) + pLo k) (pLo m)) = true)
    (hcal : QTri l Z n0 ad k (0, qentry (.ref a :: as) (pMaxL k), [], σ) none σ₁) (h : QTri l Z n0 ad m (pc + 3, L, rest, σ₁) v σ') : QTri l Z n0 ad m (pc, L, S, σ) v σ' := by
  have hd : decode (pBytes m) pc = .ok (.invokespecial idx, 3) := pDecN hc rfl
  subst hS
  obtain ⟨m1, m2⟩ := Bool.and_eq_true_iff.mp hm
  have m1 := mem_of_contains m1
  have m2 := mem_of_contains m2
  obtain ⟨hkA, -, hin, hrt⟩ := mIlt k m2
  have hkN := mAlt k hkA
  refine QTri.after (w := none) hcal h fun p e R s mid args below meth c T locs cells slots C hcx X hR hC hc1 hsl => ?_
  obtain ⟨hx, hZ, hby, hml, hret', hown, hnm, hfr, hlo⟩ := hcx
  have hd2 : decode c.code pc = .ok (.invokespecial idx, 3) := by rw [hby]; exact hd
  obtain ⟨f1, f2⟩ := QTri.room (σ := σ) (σ₁ := σ₁) hroom hfr hlo
  obtain ⟨c1, c2⟩ := (qw_cod W) k hkA
  have c1' := c1
  rw [hrt] at c1'
  obtain ⟨_, _, ⟨T₁, L₁, k₁, n₁⟩, -, X₁, ⟨Lc, ⟨rfl, hR1, hF1⟩, l₁, y₁, z₁⟩, st⟩ := X.specialBack hx (own := kName (pK m)) (index := idx) (y := pName k) hin hown (mvT hZ (qw_ml W (pK m, idx, k) m1)) (mvT hZ ((qw_ini W) k m2)) (mvT hZ c1') (pOwn _ (pKlt k hkN))
    (backOf (W := (rest.map fun v => v.category).sum) (rm := ⟨pFr k, σ₁.length - σ.length, qhs σ₁ - qhs σ, pLo k⟩) (Q := fun v h L => v = Option.map (qv ad) none ∧ QRep Z n0 ad h σ₁ ∧ Fr n0 L) (QTri.met hkN hcal hR (Nat.le_of_ble_eq_true hlen) (fun _ => rfl) [] (Nat.le_refl _) (Nat.le_refl _) (Nat.le_refl _) (Nat.le_refl _)) hZ c1 c2 f1 f2) (g := mkF mid pc C (List.map (qv ad) (as.reverse ++ .ref a :: rest))) rfl hC (Steps.refl _) (a := ad a) (argsL := as.map (qv ad)) (rest := rest.map (qv ad)) (sig_len hkN hna) (by simp [qv]) (by show 2 * 0 + _ ≤ _; rw [cats_qv]; omega) hd2 (fun _ _ => ⟨rfl, rfl, hc1, hsl⟩)
  dsimp only [Pt.U, Pt.locs, Pt.cells, Pt.slots] at X₁ l₁ y₁ z₁ st hR1
  subst l₁ y₁ z₁
  exact ⟨T₁, Lc, X₁, hR1, hF1, fun target q => st.trans q⟩
set_option maxHeartbeats 4000000 in
theorem QTri.callP (W : QW Z a0) {pc idx k a : Nat} {L : QLoc} {S as rest vs : List Value} {σ σ₁ : QHeap} {w : Option Value} (hc : pCode m pc = some (.invokevirtual idx, k)) (hm : (lkV.contains (pK m, idx, k) && mP.contains k) = true) (hcell : hget σ a = some (.inl vs)) (hS : S = as.reverse ++ .ref a :: rest)
    (hna : as.length = pNA k) (hlen : Nat.ble (((Value.ref a :: as).map fun v => v.category).sum) (pMaxL k) = true) (hroom : (Nat.ble (pFr k + 1) (pFr m) && Nat.ble ((rest.map fun v => v.category).sum + (pMaxL k + 11) + pLo k) (pLo m)) = true) (hrb : (w.isNone || (pRet k).isSome) = true)
    (hcal : QTri l Z n0 ad k (0, qentry (.ref a :: as) (pMaxL k), [], σ) w σ₁) (h : QTri l Z n0 ad m (pc + 3, L, w.toList ++ rest, σ₁) v σ') : QTri l Z n0 ad m (pc, L, S, σ) v σ' := by
  have hd : decode (pBytes m) pc = .ok (.invokevirtual idx, 3) := pDecN hc rfl
  subst hS
  obtain ⟨m1, m2⟩ := Bool.and_eq_true_iff.mp hm
  have m1 := mem_of_contains m1
  have m2 := mem_of_contains m2
  obtain ⟨hkA, hk1⟩ := mPlt k m2
  have hkN := mAlt k hkA
  have hret : pRet k = none → w = none := fun q => by
    rw [q] at hrb
    cases w with
    | none => rfl
    | some w => simp at hrb
  refine QTri.after hcal h fun p e R s mid args below meth c T locs cells slots C hcx X hR hC hc1 hsl => ?_
  obtain ⟨hx, hZ, hby, hml, hret', hown, hnm, hfr, hlo⟩ := hcx
  have hd2 : decode c.code pc = .ok (.invokevirtual idx, 3) := by rw [hby]; exact hd
  obtain ⟨f1, f2⟩ := QTri.room (σ := σ) (σ₁ := σ₁) hroom hfr hlo
  obtain ⟨cell, h1, h2⟩ := (hR.2.2 _ _ hcell).1.cell
  obtain ⟨w1, w2⟩ := (qw_pr W) k m2
  obtain ⟨c1, c2⟩ := (qw_cod W) k hkA
  have hpr : s.PrivateAt (pName k) := Cond.privateMethod_at (mvP hZ w2 (args := #[]))
  obtain ⟨cC, kC, i1, i2, i3, i4⟩ := Cond.instantiable_spec (args := #[]) (mvT hZ (qw_inst W))
  have hsel : (Cond.selects (pName k).cls (pName k) (pName k)).before args s = true := selects_self_of_private (c := cC) (k := kC) (by show s.vm.findClass (kName (pK k)) = _; rw [hk1]; exact i1) i2 (by have q := i4.1; cases hq : kC.isInterface with | false => rfl | true => rw [hq] at q; simp at q) hpr (mvT hZ w1) (pOwn _ (pKlt k hkN))
  obtain ⟨_, _, ⟨T₁, L₁, k₁, n₁⟩, -, X₁, ⟨Lc, ⟨rfl, hR1, hF1⟩, l₁, y₁, z₁⟩, st⟩ := X.privateBack hx (own := kName (pK m)) (index := idx) (y := pName k) hown (mvT hZ (qw_ml W (pK m, idx, k) m1)) (mvT hZ w1) hsel hpr (mvT hZ c1) (pOwn _ (pKlt k hkN))
    (backOf (W := (rest.map fun v => v.category).sum) (rm := ⟨pFr k, σ₁.length - σ.length, qhs σ₁ - qhs σ, pLo k⟩) (Q := fun v h L => v = Option.map (qv ad) w ∧ QRep Z n0 ad h σ₁ ∧ Fr n0 L) (QTri.met hkN hcal hR (Nat.le_of_ble_eq_true hlen) hret [] (Nat.le_refl _) (Nat.le_refl _) (Nat.le_refl _) (Nat.le_refl _)) hZ c1 c2 f1 f2) (g := mkF mid pc C (List.map (qv ad) (as.reverse ++ .ref a :: rest))) rfl hC (Steps.refl _) (a := ad a) h1 h2 (argsL := as.map (qv ad)) (rest := rest.map (qv ad)) (sig_len hkN hna) (by simp [qv]) (by show 2 * 0 + _ ≤ _; rw [cats_qv]; omega) hd2 (fun _ _ => ⟨rfl, rfl, hc1, hsl⟩)
  dsimp only [Pt.U, Pt.locs, Pt.cells, Pt.slots] at X₁ l₁ y₁ z₁ st hR1
  subst l₁ y₁ z₁
  exact ⟨T₁, Lc, X₁, hR1, hF1, fun target q => st.trans q⟩
set_option maxHeartbeats 4000000 in
theorem QTri.callS (W : QW Z a0) {pc idx k : Nat} {L : QLoc} {S as rest : List Value} {σ σ₁ : QHeap} {w : Option Value} (hc : pCode m pc = some (.invokestatic idx, k)) (hm : (lkV.contains (pK m, idx, k) && mS.contains k) = true) (hS : S = as.reverse ++ rest)
    (hna : as.length = pNA k) (hlen : Nat.ble ((as.map fun v => v.category).sum) (pMaxL k) = true) (hroom : (Nat.ble (pFr k + 1) (pFr m) && Nat.ble ((rest.map fun v => v.category).sum + (pMaxL k + 11) + pLo k) (pLo m)) = true) (hrb : (w.isNone || (pRet k).isSome) = true)
    (hcal : QTri l Z n0 ad k (0, qentry as (pMaxL k), [], σ) w σ₁) (h : QTri l Z n0 ad m (pc + 3, L, w.toList ++ rest, σ₁) v σ') : QTri l Z n0 ad m (pc, L, S, σ) v σ' := by
  have hd : decode (pBytes m) pc = .ok (.invokestatic idx, 3) := pDecN hc rfl
  subst hS
  obtain ⟨m1, m2⟩ := Bool.and_eq_true_iff.mp hm
  have m1 := mem_of_contains m1
  have m2 := mem_of_contains m2
  have hkA := mSlt k m2
  have hkN := mAlt k hkA
  have hret : pRet k = none → w = none := fun q => by
    rw [q] at hrb
    cases w with
    | none => rfl
    | some w => simp at hrb
  refine QTri.after hcal h fun p e R s mid args below meth c T locs cells slots C hcx X hR hC hc1 hsl => ?_
  obtain ⟨hx, hZ, hby, hml, hret', hown, hnm, hfr, hlo⟩ := hcx
  have hd2 : decode c.code pc = .ok (.invokestatic idx, 3) := by rw [hby]; exact hd
  obtain ⟨f1, f2⟩ := QTri.room (σ := σ) (σ₁ := σ₁) hroom hfr hlo
  obtain ⟨c1, c2⟩ := (qw_cod W) k hkA
  obtain ⟨_, _, ⟨T₁, L₁, k₁, n₁⟩, -, X₁, ⟨Lc, ⟨rfl, hR1, hF1⟩, l₁, y₁, z₁⟩, st⟩ := Jvm.LawKit.callS X hx (own := kName (pK m)) (index := idx) (y := pName k) hown (mvT hZ (qw_ml W (pK m, idx, k) m1)) (mvT hZ ((qw_st W) k m2)) (mvT hZ c2) (mvT hZ c1) (pOwn _ (pKlt k hkN))
    (backOf (W := (rest.map fun v => v.category).sum) (rm := ⟨pFr k, σ₁.length - σ.length, qhs σ₁ - qhs σ, pLo k⟩) (Q := fun v h L => v = Option.map (qv ad) w ∧ QRep Z n0 ad h σ₁ ∧ Fr n0 L) (QTri.met hkN hcal hR (Nat.le_of_ble_eq_true hlen) hret [] (Nat.le_refl _) (Nat.le_refl _) (Nat.le_refl _) (Nat.le_refl _)) hZ c1 c2 f1 f2) (g := mkF mid pc C (List.map (qv ad) (as.reverse ++ rest))) rfl hC (argsL := as.map (qv ad)) (rest := rest.map (qv ad)) (sig_len hkN hna) (by simp) (by show 2 * 0 + _ ≤ _; rw [cats_qv]; omega) hd2 (fun _ _ => ⟨rfl, rfl, hc1, hsl⟩)
  dsimp only [Pt.U, Pt.locs, Pt.cells, Pt.slots] at X₁ l₁ y₁ z₁ st hR1
  subst l₁ y₁ z₁
  exact ⟨T₁, Lc, X₁, hR1, hF1, fun target q => st target q⟩
set_option maxHeartbeats 4000000 in
theorem QTri.callO (W : QW Z a0) {pc idx k a : Nat} {L : QLoc} {rest : List Value} {σ : QHeap} (hc : pCode m pc = some (.invokespecial idx, k)) (hm : lkO.contains (pK m, idx) = true) (hroom : (Nat.ble 1 (pFr m) && Nat.ble ((rest.map fun v => v.category).sum + 12) (pLo m)) = true)
    (h : QTri l Z n0 ad m (pc + 3, L, rest, σ) v σ') : QTri l Z n0 ad m (pc, L, .ref a :: rest, σ) v σ' :=
  have hd : decode (pBytes m) pc = .ok (.invokespecial idx, 3) := pDecN hc rfl
  QTri.pure h rfl fun p e R s mid args below meth c T locs cells slots C hcx X hR hL hC => by
    obtain ⟨hx, hZ, hby, hml, hret', hown, hnm, hfr, hlo⟩ := hcx
    have hd2 : decode c.code pc = .ok (.invokespecial idx, 3) := by rw [hby]; exact hd
    obtain ⟨q1, q2⟩ := Bool.and_eq_true_iff.mp hroom
    obtain ⟨T₁, X₁, e₁, st⟩ := initO X hx hZ hown (idx := idx) (qw_mo W (pK m, idx) (mem_of_contains hm)) ((qw_oi W)) ((qw_oc W)) rfl (g := mkF mid pc C (List.map (qv ad) (.ref a :: rest))) rfl hC rfl hd2 (Nat.le_trans (Nat.le_of_ble_eq_true q1) hfr) (W := (rest.map fun v => v.category).sum) (by show 2 * 0 + _ ≤ _; rw [cats_qv]; omega) (Nat.le_trans (Nat.le_of_ble_eq_true q2) hlo)
    exact ⟨T₁, C, X₁, e₁, hL, hC, st⟩
theorem QTri.brT (Ad : QAd n0 ad) (W : QW Z a0) {st : QSt} {t f : Nat} {L : QLoc} {S : List Value} {σ : QHeap} {b : Bool} (hs : qstep m st = some (bif b then t else f, L, S, σ)) (hb : b = true) (h : QTri l Z n0 ad m (t, L, S, σ) v σ') : QTri l Z n0 ad m st v σ' := by
  subst hb; exact QTri.step Ad W h hs
theorem QTri.brF (Ad : QAd n0 ad) (W : QW Z a0) {st : QSt} {t f : Nat} {L : QLoc} {S : List Value} {σ : QHeap} {b : Bool} (hs : qstep m st = some (bif b then t else f, L, S, σ)) (hb : b = false) (h : QTri l Z n0 ad m (f, L, S, σ) v σ') : QTri l Z n0 ad m st v σ' := by
  subst hb; exact QTri.step Ad W h hs
theorem QTri.bnd {α : Type} (Ad : QAd n0 ad) (W : QW Z a0) {st : QSt} {x : Option α} {f : α → QSt} {a : α} (hs : qstep m st = x.bind fun v => some (f v)) (hx : x = some a) (h : QTri l Z n0 ad m (f a) v σ') : QTri l Z n0 ad m st v σ' :=
  QTri.step Ad W h (by rw [hs, hx]; rfl)
theorem QTri.bndB (Ad : QAd n0 ad) (W : QW Z a0) {st : QSt} {x y : Int32} {g : Value → QSt} (hs : qstep m st = ((qboo x).bind fun y => some (Value.int y)).bind fun w => some (g w)) (hx : qboo x = some y) (h : QTri l Z n0 ad m (g (.int y)) v σ') : QTri l Z n0 ad m st v σ' :=
  QTri.step Ad W h (by rw [hs, hx]; rfl)
end Triples
/-! ## plain: branches and loops -/
theorem qite {α : Type} {c : Prop} [Decidable c] {a b : Option α} {r : α} (h : (if c then a else b) = some r) : (c ∧ a = some r) ∨ (¬ c ∧ b = some r) := by
  by_cases hc : c
  · exact Or.inl ⟨hc, by rwa [if_pos hc] at h⟩
  · exact Or.inr ⟨hc, by rwa [if_neg hc] at h⟩
def qN : Nat := 4000
def loopN {V E : Type} (B : V → Option (E ⊕ V)) : Nat → V → Option E
  | 0, _ => none
  | n + 1, v => match B v with
    | none => none
    | some (.inl e) => some e
    | some (.inr v') => loopN B n v'
theorem loopN_tri {V E : Type} {B : V → Option (E ⊕ V)} {T : V → Prop} {KE : E → Prop} (hB : ∀ v r, B v = some r → (∀ e, r = .inl e → KE e) → (∀ v', r = .inr v' → T v') → T v) : ∀ (n : Nat) (v : V) (e : E), loopN B n v = some e → KE e → T v
  | 0, _, _, h, _ => by cases h
  | n + 1, v, e, h, k => by
    simp only [loopN] at h
    split at h
    · cases h
    · rename_i e' he
      cases h
      exact hB v _ he (fun e q => by cases q; exact k) (fun v' q => by cases q)
    · rename_i v' he
      exact hB v _ he (fun e q => by cases q) (fun v'' q => by cases q; exact loopN_tri hB n v' e h k)
/-- a loop: an invariant, a measure -/
theorem loopN_inv {V E : Type} {B : V → Option (E ⊕ V)} (I : V → Prop) (P : E → Prop) (μ : V → Nat) (hB : ∀ v, I v → (∃ e, B v = some (.inl e) ∧ P e) ∨ ∃ v', B v = some (.inr v') ∧ I v' ∧ μ v' < μ v) : ∀ (n : Nat) (v : V), I v → μ v < n → ∃ e, loopN B n v = some e ∧ P e
  | 0, _, _, h => absurd h (Nat.not_lt_zero _)
  | n + 1, v, hv, hm => by
    rcases hB v hv with ⟨e, h1, h2⟩ | ⟨v', h1, h2, h3⟩
    · exact ⟨e, by simp only [loopN, h1], h2⟩
    · obtain ⟨e, g1, g2⟩ := loopN_inv I P μ hB n v' h2 (by omega)
      exact ⟨e, by simp only [loopN, h1]; exact g1, g2⟩
theorem qfn {α : Type} {P : α → Prop} : ∀ t ∈ ([] : List α), P t := fun _ h => nomatch h
theorem qfc {α : Type} {P : α → Prop} {a : α} {t : List α} (h : P a) (ht : ∀ x ∈ t, P x) : ∀ x ∈ a :: t, P x := fun x hx => by rcases List.mem_cons.mp hx with rfl | q; exact h; exact ht x q
theorem QW_ok {Z : State} {a0 : Array Value} (hw : ∀ d ∈ tables_1, d.before a0 Z = true) : QW Z a0 := by
  have w0 : ∀ k ∈ List.range nF, bif fFin k then (Jvm.Cond.laysFinal cName cName (fNm k) (fDs k)).before a0 Z = true else (Jvm.Cond.lays cName cName (fNm k) (fDs k)).before a0 Z = true :=
    show ∀ k ∈ [0, 1, 2, 3, 4, 5, 6, 7, 8, 9, 10, 11, 12, 13, 14, 15, 16, 17, 18], bif fFin k then (Jvm.Cond.laysFinal cName cName (fNm k) (fDs k)).before a0 Z = true else (Jvm.Cond.lays cName cName (fNm k) (fDs k)).before a0 Z = true from
    (qfc (hw _ (List.mem_of_getElem? (i := 11) rfl)) (qfc (hw _ (List.mem_of_getElem? (i := 13) rfl)) (qfc (hw _ (List.mem_of_getElem? (i := 16) rfl)) (qfc (hw _ (List.mem_of_getElem? (i := 18) rfl)) (qfc (hw _ (List.mem_of_getElem? (i := 20) rfl)) (qfc (hw _ (List.mem_of_getElem? (i := 22) rfl)) (qfc (hw _ (List.mem_of_getElem? (i := 24) rfl)) (qfc (hw _ (List.mem_of_getElem? (i := 26) rfl)) (qfc (hw _ (List.mem_of_getElem? (i := 29) rfl)) (qfc (hw _ (List.mem_of_getElem? (i := 35) rfl)) (qfc (hw _ (List.mem_of_getElem? (i := 37) rfl)) (qfc (hw _ (List.mem_of_getElem? (i := 39) rfl)) (qfc (hw _ (List.mem_of_getElem? (i := 41) rfl)) (qfc (hw _ (List.mem_of_getElem? (i := 43) rfl)) (qfc (hw _ (List.mem_of_getElem? (i := 45) rfl)) (qfc (hw _ (List.mem_of_getElem? (i := 47) rfl)) (qfc (hw _ (List.mem_of_getElem? (i := 49) rfl)) (qfc (hw _ (List.mem_of_getElem? (i := 51) rfl)) (qfc (hw _ (List.mem_of_getElem? (i := 53) rfl)) qfn)))))))))))))))))))
  refine ⟨?_, ?_, ?_, ?_, ?_, ?_, ?_, ?_, ?_, ?_, ?_, ?_, ?_, (fun k hk => w0 k (List.mem_range.mpr hk)), ?_, ?_, ?_⟩
  · exact (qfc (hw _ (List.mem_of_getElem? (i := 10) rfl)) (qfc (hw _ (List.mem_of_getElem? (i := 12) rfl)) (qfc (hw _ (List.mem_of_getElem? (i := 15) rfl)) (qfc (hw _ (List.mem_of_getElem? (i := 17) rfl)) (qfc (hw _ (List.mem_of_getElem? (i := 19) rfl)) (qfc (hw _ (List.mem_of_getElem? (i := 21) rfl)) (qfc (hw _ (List.mem_of_getElem? (i := 23) rfl)) (qfc (hw _ (List.mem_of_getElem? (i := 25) rfl)) (qfc (hw _ (List.mem_of_getElem? (i := 28) rfl)) (qfc (hw _ (List.mem_of_getElem? (i := 34) rfl)) (qfc (hw _ (List.mem_of_getElem? (i := 36) rfl)) (qfc (hw _ (List.mem_of_getElem? (i := 38) rfl)) (qfc (hw _ (List.mem_of_getElem? (i := 40) rfl)) (qfc (hw _ (List.mem_of_getElem? (i := 42) rfl)) (qfc (hw _ (List.mem_of_getElem? (i := 44) rfl)) (qfc (hw _ (List.mem_of_getElem? (i := 46) rfl)) (qfc (hw _ (List.mem_of_getElem? (i := 48) rfl)) (qfc (hw _ (List.mem_of_getElem? (i := 50) rfl)) (qfc (hw _ (List.mem_of_getElem? (i := 52) rfl)) qfn)))))))))))))))))))
  · exact (qfc (hw _ (List.mem_of_getElem? (i := 0) rfl)) qfn)
  · exact (qfc ⟨_, rfl, (hw _ (List.mem_of_getElem? (i := 138) rfl))⟩ qfn)
  · exact (qfc ⟨_, rfl, (hw _ (List.mem_of_getElem? (i := 58) rfl))⟩ (qfc ⟨_, rfl, (hw _ (List.mem_of_getElem? (i := 59) rfl))⟩ (qfc ⟨_, rfl, (hw _ (List.mem_of_getElem? (i := 118) rfl))⟩ qfn)))
  · exact (qfc (hw _ (List.mem_of_getElem? (i := 3) rfl)) (qfc (hw _ (List.mem_of_getElem? (i := 30) rfl)) (qfc (hw _ (List.mem_of_getElem? (i := 54) rfl)) (qfc (hw _ (List.mem_of_getElem? (i := 60) rfl)) (qfc (hw _ (List.mem_of_getElem? (i := 65) rfl)) (qfc (hw _ (List.mem_of_getElem? (i := 70) rfl)) (qfc (hw _ (List.mem_of_getElem? (i := 75) rfl)) (qfc (hw _ (List.mem_of_getElem? (i := 80) rfl)) (qfc (hw _ (List.mem_of_getElem? (i := 85) rfl)) (qfc (hw _ (List.mem_of_getElem? (i := 90) rfl)) (qfc (hw _ (List.mem_of_getElem? (i := 94) rfl)) (qfc (hw _ (List.mem_of_getElem? (i := 98) rfl)) (qfc (hw _ (List.mem_of_getElem? (i := 103) rfl)) (qfc (hw _ (List.mem_of_getElem? (i := 108) rfl)) (qfc (hw _ (List.mem_of_getElem? (i := 113) rfl)) (qfc (hw _ (List.mem_of_getElem? (i := 119) rfl)) (qfc (hw _ (List.mem_of_getElem? (i := 124) rfl)) (qfc (hw _ (List.mem_of_getElem? (i := 128) rfl)) (qfc (hw _ (List.mem_of_getElem? (i := 133) rfl)) (qfc (hw _ (List.mem_of_getElem? (i := 139) rfl)) (qfc (hw _ (List.mem_of_getElem? (i := 143) rfl)) (qfc (hw _ (List.mem_of_getElem? (i := 148) rfl)) (qfc (hw _ (List.mem_of_getElem? (i := 153) rfl)) (qfc (hw _ (List.mem_of_getElem? (i := 157) rfl)) (qfc (hw _ (List.mem_of_getElem? (i := 161) rfl)) (qfc (hw _ (List.mem_of_getElem? (i := 165) rfl)) (qfc (hw _ (List.mem_of_getElem? (i := 169) rfl)) (qfc (hw _ (List.mem_of_getElem? (i := 173) rfl)) (qfc (hw _ (List.mem_of_getElem? (i := 177) rfl)) (qfc (hw _ (List.mem_of_getElem? (i := 181) rfl)) (qfc (hw _ (List.mem_of_getElem? (i := 185) rfl)) (qfc (hw _ (List.mem_of_getElem? (i := 189) rfl)) (qfc (hw _ (List.mem_of_getElem? (i := 193) rfl)) qfn)))))))))))))))))))))))))))))))))
  · exact (qfc (hw _ (List.mem_of_getElem? (i := 6) rfl)) qfn)
  · exact (qfc ⟨(hw _ (List.mem_of_getElem? (i := 61) rfl)), (hw _ (List.mem_of_getElem? (i := 63) rfl)), (hw _ (List.mem_of_getElem? (i := 62) rfl))⟩ (qfc ⟨(hw _ (List.mem_of_getElem? (i := 66) rfl)), (hw _ (List.mem_of_getElem? (i := 68) rfl)), (hw _ (List.mem_of_getElem? (i := 67) rfl))⟩ (qfc ⟨(hw _ (List.mem_of_getElem? (i := 71) rfl)), (hw _ (List.mem_of_getElem? (i := 73) rfl)), (hw _ (List.mem_of_getElem? (i := 72) rfl))⟩ (qfc ⟨(hw _ (List.mem_of_getElem? (i := 76) rfl)), (hw _ (List.mem_of_getElem? (i := 78) rfl)), (hw _ (List.mem_of_getElem? (i := 77) rfl))⟩ (qfc ⟨(hw _ (List.mem_of_getElem? (i := 81) rfl)), (hw _ (List.mem_of_getElem? (i := 83) rfl)), (hw _ (List.mem_of_getElem? (i := 82) rfl))⟩ (qfc ⟨(hw _ (List.mem_of_getElem? (i := 86) rfl)), (hw _ (List.mem_of_getElem? (i := 88) rfl)), (hw _ (List.mem_of_getElem? (i := 87) rfl))⟩ (qfc ⟨(hw _ (List.mem_of_getElem? (i := 99) rfl)), (hw _ (List.mem_of_getElem? (i := 101) rfl)), (hw _ (List.mem_of_getElem? (i := 100) rfl))⟩ (qfc ⟨(hw _ (List.mem_of_getElem? (i := 104) rfl)), (hw _ (List.mem_of_getElem? (i := 106) rfl)), (hw _ (List.mem_of_getElem? (i := 105) rfl))⟩ (qfc ⟨(hw _ (List.mem_of_getElem? (i := 109) rfl)), (hw _ (List.mem_of_getElem? (i := 111) rfl)), (hw _ (List.mem_of_getElem? (i := 110) rfl))⟩ (qfc ⟨(hw _ (List.mem_of_getElem? (i := 114) rfl)), (hw _ (List.mem_of_getElem? (i := 116) rfl)), (hw _ (List.mem_of_getElem? (i := 115) rfl))⟩ (qfc ⟨(hw _ (List.mem_of_getElem? (i := 120) rfl)), (hw _ (List.mem_of_getElem? (i := 122) rfl)), (hw _ (List.mem_of_getElem? (i := 121) rfl))⟩ (qfc ⟨(hw _ (List.mem_of_getElem? (i := 129) rfl)), (hw _ (List.mem_of_getElem? (i := 131) rfl)), (hw _ (List.mem_of_getElem? (i := 130) rfl))⟩ (qfc ⟨(hw _ (List.mem_of_getElem? (i := 134) rfl)), (hw _ (List.mem_of_getElem? (i := 136) rfl)), (hw _ (List.mem_of_getElem? (i := 135) rfl))⟩ (qfc ⟨(hw _ (List.mem_of_getElem? (i := 144) rfl)), (hw _ (List.mem_of_getElem? (i := 146) rfl)), (hw _ (List.mem_of_getElem? (i := 145) rfl))⟩ (qfc ⟨(hw _ (List.mem_of_getElem? (i := 149) rfl)), (hw _ (List.mem_of_getElem? (i := 151) rfl)), (hw _ (List.mem_of_getElem? (i := 150) rfl))⟩ qfn)))))))))))))))
  · exact (qfc ⟨(hw _ (List.mem_of_getElem? (i := 31) rfl)), (hw _ (List.mem_of_getElem? (i := 32) rfl))⟩ (qfc ⟨(hw _ (List.mem_of_getElem? (i := 91) rfl)), (hw _ (List.mem_of_getElem? (i := 92) rfl))⟩ (qfc ⟨(hw _ (List.mem_of_getElem? (i := 95) rfl)), (hw _ (List.mem_of_getElem? (i := 96) rfl))⟩ (qfc ⟨(hw _ (List.mem_of_getElem? (i := 125) rfl)), (hw _ (List.mem_of_getElem? (i := 126) rfl))⟩ (qfc ⟨(hw _ (List.mem_of_getElem? (i := 140) rfl)), (hw _ (List.mem_of_getElem? (i := 141) rfl))⟩ (qfc ⟨(hw _ (List.mem_of_getElem? (i := 154) rfl)), (hw _ (List.mem_of_getElem? (i := 155) rfl))⟩ (qfc ⟨(hw _ (List.mem_of_getElem? (i := 158) rfl)), (hw _ (List.mem_of_getElem? (i := 159) rfl))⟩ (qfc ⟨(hw _ (List.mem_of_getElem? (i := 162) rfl)), (hw _ (List.mem_of_getElem? (i := 163) rfl))⟩ (qfc ⟨(hw _ (List.mem_of_getElem? (i := 166) rfl)), (hw _ (List.mem_of_getElem? (i := 167) rfl))⟩ (qfc ⟨(hw _ (List.mem_of_getElem? (i := 170) rfl)), (hw _ (List.mem_of_getElem? (i := 171) rfl))⟩ (qfc ⟨(hw _ (List.mem_of_getElem? (i := 174) rfl)), (hw _ (List.mem_of_getElem? (i := 175) rfl))⟩ (qfc ⟨(hw _ (List.mem_of_getElem? (i := 178) rfl)), (hw _ (List.mem_of_getElem? (i := 179) rfl))⟩ (qfc ⟨(hw _ (List.mem_of_getElem? (i := 182) rfl)), (hw _ (List.mem_of_getElem? (i := 183) rfl))⟩ (qfc ⟨(hw _ (List.mem_of_getElem? (i := 186) rfl)), (hw _ (List.mem_of_getElem? (i := 187) rfl))⟩ (qfc ⟨(hw _ (List.mem_of_getElem? (i := 190) rfl)), (hw _ (List.mem_of_getElem? (i := 191) rfl))⟩ (qfc ⟨(hw _ (List.mem_of_getElem? (i := 194) rfl)), (hw _ (List.mem_of_getElem? (i := 195) rfl))⟩ qfn))))))))))))))))
  · exact (qfc (hw _ (List.mem_of_getElem? (i := 55) rfl)) qfn)
  · exact (qfc (hw _ (List.mem_of_getElem? (i := 4) rfl)) qfn)
  · exact (qfc ⟨(hw _ (List.mem_of_getElem? (i := 5) rfl)), (hw _ (List.mem_of_getElem? (i := 2) rfl))⟩ (qfc ⟨(hw _ (List.mem_of_getElem? (i := 33) rfl)), (hw _ (List.mem_of_getElem? (i := 2) rfl))⟩ (qfc ⟨(hw _ (List.mem_of_getElem? (i := 57) rfl)), (hw _ (List.mem_of_getElem? (i := 56) rfl))⟩ (qfc ⟨(hw _ (List.mem_of_getElem? (i := 64) rfl)), (hw _ (List.mem_of_getElem? (i := 2) rfl))⟩ (qfc ⟨(hw _ (List.mem_of_getElem? (i := 69) rfl)), (hw _ (List.mem_of_getElem? (i := 2) rfl))⟩ (qfc ⟨(hw _ (List.mem_of_getElem? (i := 74) rfl)), (hw _ (List.mem_of_getElem? (i := 2) rfl))⟩ (qfc ⟨(hw _ (List.mem_of_getElem? (i := 79) rfl)), (hw _ (List.mem_of_getElem? (i := 2) rfl))⟩ (qfc ⟨(hw _ (List.mem_of_getElem? (i := 84) rfl)), (hw _ (List.mem_of_getElem? (i := 2) rfl))⟩ (qfc ⟨(hw _ (List.mem_of_getElem? (i := 89) rfl)), (hw _ (List.mem_of_getElem? (i := 2) rfl))⟩ (qfc ⟨(hw _ (List.mem_of_getElem? (i := 93) rfl)), (hw _ (List.mem_of_getElem? (i := 2) rfl))⟩ (qfc ⟨(hw _ (List.mem_of_getElem? (i := 97) rfl)), (hw _ (List.mem_of_getElem? (i := 2) rfl))⟩ (qfc ⟨(hw _ (List.mem_of_getElem? (i := 102) rfl)), (hw _ (List.mem_of_getElem? (i := 2) rfl))⟩ (qfc ⟨(hw _ (List.mem_of_getElem? (i := 107) rfl)), (hw _ (List.mem_of_getElem? (i := 2) rfl))⟩ (qfc ⟨(hw _ (List.mem_of_getElem? (i := 112) rfl)), (hw _ (List.mem_of_getElem? (i := 2) rfl))⟩ (qfc ⟨(hw _ (List.mem_of_getElem? (i := 117) rfl)), (hw _ (List.mem_of_getElem? (i := 2) rfl))⟩ (qfc ⟨(hw _ (List.mem_of_getElem? (i := 123) rfl)), (hw _ (List.mem_of_getElem? (i := 2) rfl))⟩ (qfc ⟨(hw _ (List.mem_of_getElem? (i := 127) rfl)), (hw _ (List.mem_of_getElem? (i := 2) rfl))⟩ (qfc ⟨(hw _ (List.mem_of_getElem? (i := 132) rfl)), (hw _ (List.mem_of_getElem? (i := 2) rfl))⟩ (qfc ⟨(hw _ (List.mem_of_getElem? (i := 137) rfl)), (hw _ (List.mem_of_getElem? (i := 2) rfl))⟩ (qfc ⟨(hw _ (List.mem_of_getElem? (i := 142) rfl)), (hw _ (List.mem_of_getElem? (i := 2) rfl))⟩ (qfc ⟨(hw _ (List.mem_of_getElem? (i := 147) rfl)), (hw _ (List.mem_of_getElem? (i := 2) rfl))⟩ (qfc ⟨(hw _ (List.mem_of_getElem? (i := 152) rfl)), (hw _ (List.mem_of_getElem? (i := 2) rfl))⟩ (qfc ⟨(hw _ (List.mem_of_getElem? (i := 156) rfl)), (hw _ (List.mem_of_getElem? (i := 2) rfl))⟩ (qfc ⟨(hw _ (List.mem_of_getElem? (i := 160) rfl)), (hw _ (List.mem_of_getElem? (i := 2) rfl))⟩ (qfc ⟨(hw _ (List.mem_of_getElem? (i := 164) rfl)), (hw _ (List.mem_of_getElem? (i := 2) rfl))⟩ (qfc ⟨(hw _ (List.mem_of_getElem? (i := 168) rfl)), (hw _ (List.mem_of_getElem? (i := 2) rfl))⟩ (qfc ⟨(hw _ (List.mem_of_getElem? (i := 172) rfl)), (hw _ (List.mem_of_getElem? (i := 2) rfl))⟩ (qfc ⟨(hw _ (List.mem_of_getElem? (i := 176) rfl)), (hw _ (List.mem_of_getElem? (i := 2) rfl))⟩ (qfc ⟨(hw _ (List.mem_of_getElem? (i := 180) rfl)), (hw _ (List.mem_of_getElem? (i := 2) rfl))⟩ (qfc ⟨(hw _ (List.mem_of_getElem? (i := 184) rfl)), (hw _ (List.mem_of_getElem? (i := 2) rfl))⟩ (qfc ⟨(hw _ (List.mem_of_getElem? (i := 188) rfl)), (hw _ (List.mem_of_getElem? (i := 2) rfl))⟩ (qfc ⟨(hw _ (List.mem_of_getElem? (i := 192) rfl)), (hw _ (List.mem_of_getElem? (i := 2) rfl))⟩ (qfc ⟨(hw _ (List.mem_of_getElem? (i := 196) rfl)), (hw _ (List.mem_of_getElem? (i := 2) rfl))⟩ qfn)))))))))))))))))))))))))))))))))
  · exact (hw _ (List.mem_of_getElem? (i := 7) rfl))
  · exact (hw _ (List.mem_of_getElem? (i := 8) rfl))
  · exact (hw _ (List.mem_of_getElem? (i := 1) rfl))
  · exact (hw _ (List.mem_of_getElem? (i := 2) rfl))
  · exact (qfc (hw _ (List.mem_of_getElem? (i := 9) rfl)) (qfc (hw _ (List.mem_of_getElem? (i := 14) rfl)) (qfc (hw _ (List.mem_of_getElem? (i := 27) rfl)) qfn)))
abbrev Ob := List Int32 × List Int32 × List Int32 × List Int32 × List Int32 × List Int32 × List Int32 × List Int32 × List Int64 × Int32 × Int32 × Int32 × Int32 × Int32 × Int32 × Int32 × Int32 × Int32 × Int32
def f_live (o : Ob) : List Int32 := o.1
def f_used (o : Ob) : List Int32 := o.2.1
def f_freedAt (o : Ob) : List Int32 := o.2.2.1
def f_protoOf (o : Ob) : List Int32 := o.2.2.2.1
def f_hostOf (o : Ob) : List Int32 := o.2.2.2.2.1
def f_iportOf (o : Ob) : List Int32 := o.2.2.2.2.2.1
def f_stateAt (o : Ob) : List Int32 := o.2.2.2.2.2.2.1
def f_deadlineAt (o : Ob) : List Int32 := o.2.2.2.2.2.2.2.1
def f_perm (o : Ob) : List Int64 := o.2.2.2.2.2.2.2.2.1
def f_poolSize (o : Ob) : Int32 := o.2.2.2.2.2.2.2.2.2.1
def f_udpTimeout (o : Ob) : Int32 := o.2.2.2.2.2.2.2.2.2.2.1
def f_tcpTimeout (o : Ob) : Int32 := o.2.2.2.2.2.2.2.2.2.2.2.1
def f_cooldown (o : Ob) : Int32 := o.2.2.2.2.2.2.2.2.2.2.2.2.1
def f_clock (o : Ob) : Int32 := o.2.2.2.2.2.2.2.2.2.2.2.2.2.1
def f_remAddr (o : Ob) : Int32 := o.2.2.2.2.2.2.2.2.2.2.2.2.2.2.1
def f_remPort (o : Ob) : Int32 := o.2.2.2.2.2.2.2.2.2.2.2.2.2.2.2.1
def f_regHost (o : Ob) : Int32 := o.2.2.2.2.2.2.2.2.2.2.2.2.2.2.2.2.1
def f_regPort (o : Ob) : Int32 := o.2.2.2.2.2.2.2.2.2.2.2.2.2.2.2.2.2.1
def f_regExt (o : Ob) : Int32 := o.2.2.2.2.2.2.2.2.2.2.2.2.2.2.2.2.2.2
def s_live (o : Ob) (v : List Int32) : Ob := (v, o.2.1, o.2.2.1, o.2.2.2.1, o.2.2.2.2.1, o.2.2.2.2.2.1, o.2.2.2.2.2.2.1, o.2.2.2.2.2.2.2.1, o.2.2.2.2.2.2.2.2.1, o.2.2.2.2.2.2.2.2.2.1, o.2.2.2.2.2.2.2.2.2.2.1, o.2.2.2.2.2.2.2.2.2.2.2.1, o.2.2.2.2.2.2.2.2.2.2.2.2.1, o.2.2.2.2.2.2.2.2.2.2.2.2.2.1, o.2.2.2.2.2.2.2.2.2.2.2.2.2.2.1, o.2.2.2.2.2.2.2.2.2.2.2.2.2.2.2.1, o.2.2.2.2.2.2.2.2.2.2.2.2.2.2.2.2.1, o.2.2.2.2.2.2.2.2.2.2.2.2.2.2.2.2.2.1, o.2.2.2.2.2.2.2.2.2.2.2.2.2.2.2.2.2.2)
def s_used (o : Ob) (v : List Int32) : Ob := (o.1, v, o.2.2.1, o.2.2.2.1, o.2.2.2.2.1, o.2.2.2.2.2.1, o.2.2.2.2.2.2.1, o.2.2.2.2.2.2.2.1, o.2.2.2.2.2.2.2.2.1, o.2.2.2.2.2.2.2.2.2.1, o.2.2.2.2.2.2.2.2.2.2.1, o.2.2.2.2.2.2.2.2.2.2.2.1, o.2.2.2.2.2.2.2.2.2.2.2.2.1, o.2.2.2.2.2.2.2.2.2.2.2.2.2.1, o.2.2.2.2.2.2.2.2.2.2.2.2.2.2.1, o.2.2.2.2.2.2.2.2.2.2.2.2.2.2.2.1, o.2.2.2.2.2.2.2.2.2.2.2.2.2.2.2.2.1, o.2.2.2.2.2.2.2.2.2.2.2.2.2.2.2.2.2.1, o.2.2.2.2.2.2.2.2.2.2.2.2.2.2.2.2.2.2)
def s_freedAt (o : Ob) (v : List Int32) : Ob := (o.1, o.2.1, v, o.2.2.2.1, o.2.2.2.2.1, o.2.2.2.2.2.1, o.2.2.2.2.2.2.1, o.2.2.2.2.2.2.2.1, o.2.2.2.2.2.2.2.2.1, o.2.2.2.2.2.2.2.2.2.1, o.2.2.2.2.2.2.2.2.2.2.1, o.2.2.2.2.2.2.2.2.2.2.2.1, o.2.2.2.2.2.2.2.2.2.2.2.2.1, o.2.2.2.2.2.2.2.2.2.2.2.2.2.1, o.2.2.2.2.2.2.2.2.2.2.2.2.2.2.1, o.2.2.2.2.2.2.2.2.2.2.2.2.2.2.2.1, o.2.2.2.2.2.2.2.2.2.2.2.2.2.2.2.2.1, o.2.2.2.2.2.2.2.2.2.2.2.2.2.2.2.2.2.1, o.2.2.2.2.2.2.2.2.2.2.2.2.2.2.2.2.2.2)
def s_protoOf (o : Ob) (v : List Int32) : Ob := (o.1, o.2.1, o.2.2.1, v, o.2.2.2.2.1, o.2.2.2.2.2.1, o.2.2.2.2.2.2.1, o.2.2.2.2.2.2.2.1, o.2.2.2.2.2.2.2.2.1, o.2.2.2.2.2.2.2.2.2.1, o.2.2.2.2.2.2.2.2.2.2.1, o.2.2.2.2.2.2.2.2.2.2.2.1, o.2.2.2.2.2.2.2.2.2.2.2.2.1, o.2.2.2.2.2.2.2.2.2.2.2.2.2.1, o.2.2.2.2.2.2.2.2.2.2.2.2.2.2.1, o.2.2.2.2.2.2.2.2.2.2.2.2.2.2.2.1, o.2.2.2.2.2.2.2.2.2.2.2.2.2.2.2.2.1, o.2.2.2.2.2.2.2.2.2.2.2.2.2.2.2.2.2.1, o.2.2.2.2.2.2.2.2.2.2.2.2.2.2.2.2.2.2)
def s_hostOf (o : Ob) (v : List Int32) : Ob := (o.1, o.2.1, o.2.2.1, o.2.2.2.1, v, o.2.2.2.2.2.1, o.2.2.2.2.2.2.1, o.2.2.2.2.2.2.2.1, o.2.2.2.2.2.2.2.2.1, o.2.2.2.2.2.2.2.2.2.1, o.2.2.2.2.2.2.2.2.2.2.1, o.2.2.2.2.2.2.2.2.2.2.2.1, o.2.2.2.2.2.2.2.2.2.2.2.2.1, o.2.2.2.2.2.2.2.2.2.2.2.2.2.1, o.2.2.2.2.2.2.2.2.2.2.2.2.2.2.1, o.2.2.2.2.2.2.2.2.2.2.2.2.2.2.2.1, o.2.2.2.2.2.2.2.2.2.2.2.2.2.2.2.2.1, o.2.2.2.2.2.2.2.2.2.2.2.2.2.2.2.2.2.1, o.2.2.2.2.2.2.2.2.2.2.2.2.2.2.2.2.2.2)
def s_iportOf (o : Ob) (v : List Int32) : Ob := (o.1, o.2.1, o.2.2.1, o.2.2.2.1, o.2.2.2.2.1, v, o.2.2.2.2.2.2.1, o.2.2.2.2.2.2.2.1, o.2.2.2.2.2.2.2.2.1, o.2.2.2.2.2.2.2.2.2.1, o.2.2.2.2.2.2.2.2.2.2.1, o.2.2.2.2.2.2.2.2.2.2.2.1, o.2.2.2.2.2.2.2.2.2.2.2.2.1, o.2.2.2.2.2.2.2.2.2.2.2.2.2.1, o.2.2.2.2.2.2.2.2.2.2.2.2.2.2.1, o.2.2.2.2.2.2.2.2.2.2.2.2.2.2.2.1, o.2.2.2.2.2.2.2.2.2.2.2.2.2.2.2.2.1, o.2.2.2.2.2.2.2.2.2.2.2.2.2.2.2.2.2.1, o.2.2.2.2.2.2.2.2.2.2.2.2.2.2.2.2.2.2)
def s_stateAt (o : Ob) (v : List Int32) : Ob := (o.1, o.2.1, o.2.2.1, o.2.2.2.1, o.2.2.2.2.1, o.2.2.2.2.2.1, v, o.2.2.2.2.2.2.2.1, o.2.2.2.2.2.2.2.2.1, o.2.2.2.2.2.2.2.2.2.1, o.2.2.2.2.2.2.2.2.2.2.1, o.2.2.2.2.2.2.2.2.2.2.2.1, o.2.2.2.2.2.2.2.2.2.2.2.2.1, o.2.2.2.2.2.2.2.2.2.2.2.2.2.1, o.2.2.2.2.2.2.2.2.2.2.2.2.2.2.1, o.2.2.2.2.2.2.2.2.2.2.2.2.2.2.2.1, o.2.2.2.2.2.2.2.2.2.2.2.2.2.2.2.2.1, o.2.2.2.2.2.2.2.2.2.2.2.2.2.2.2.2.2.1, o.2.2.2.2.2.2.2.2.2.2.2.2.2.2.2.2.2.2)
def s_deadlineAt (o : Ob) (v : List Int32) : Ob := (o.1, o.2.1, o.2.2.1, o.2.2.2.1, o.2.2.2.2.1, o.2.2.2.2.2.1, o.2.2.2.2.2.2.1, v, o.2.2.2.2.2.2.2.2.1, o.2.2.2.2.2.2.2.2.2.1, o.2.2.2.2.2.2.2.2.2.2.1, o.2.2.2.2.2.2.2.2.2.2.2.1, o.2.2.2.2.2.2.2.2.2.2.2.2.1, o.2.2.2.2.2.2.2.2.2.2.2.2.2.1, o.2.2.2.2.2.2.2.2.2.2.2.2.2.2.1, o.2.2.2.2.2.2.2.2.2.2.2.2.2.2.2.1, o.2.2.2.2.2.2.2.2.2.2.2.2.2.2.2.2.1, o.2.2.2.2.2.2.2.2.2.2.2.2.2.2.2.2.2.1, o.2.2.2.2.2.2.2.2.2.2.2.2.2.2.2.2.2.2)
def s_perm (o : Ob) (v : List Int64) : Ob := (o.1, o.2.1, o.2.2.1, o.2.2.2.1, o.2.2.2.2.1, o.2.2.2.2.2.1, o.2.2.2.2.2.2.1, o.2.2.2.2.2.2.2.1, v, o.2.2.2.2.2.2.2.2.2.1, o.2.2.2.2.2.2.2.2.2.2.1, o.2.2.2.2.2.2.2.2.2.2.2.1, o.2.2.2.2.2.2.2.2.2.2.2.2.1, o.2.2.2.2.2.2.2.2.2.2.2.2.2.1, o.2.2.2.2.2.2.2.2.2.2.2.2.2.2.1, o.2.2.2.2.2.2.2.2.2.2.2.2.2.2.2.1, o.2.2.2.2.2.2.2.2.2.2.2.2.2.2.2.2.1, o.2.2.2.2.2.2.2.2.2.2.2.2.2.2.2.2.2.1, o.2.2.2.2.2.2.2.2.2.2.2.2.2.2.2.2.2.2)
def s_poolSize (o : Ob) (v : Int32) : Ob := (o.1, o.2.1, o.2.2.1, o.2.2.2.1, o.2.2.2.2.1, o.2.2.2.2.2.1, o.2.2.2.2.2.2.1, o.2.2.2.2.2.2.2.1, o.2.2.2.2.2.2.2.2.1, v, o.2.2.2.2.2.2.2.2.2.2.1, o.2.2.2.2.2.2.2.2.2.2.2.1, o.2.2.2.2.2.2.2.2.2.2.2.2.1, o.2.2.2.2.2.2.2.2.2.2.2.2.2.1, o.2.2.2.2.2.2.2.2.2.2.2.2.2.2.1, o.2.2.2.2.2.2.2.2.2.2.2.2.2.2.2.1, o.2.2.2.2.2.2.2.2.2.2.2.2.2.2.2.2.1, o.2.2.2.2.2.2.2.2.2.2.2.2.2.2.2.2.2.1, o.2.2.2.2.2.2.2.2.2.2.2.2.2.2.2.2.2.2)
def s_udpTimeout (o : Ob) (v : Int32) : Ob := (o.1, o.2.1, o.2.2.1, o.2.2.2.1, o.2.2.2.2.1, o.2.2.2.2.2.1, o.2.2.2.2.2.2.1, o.2.2.2.2.2.2.2.1, o.2.2.2.2.2.2.2.2.1, o.2.2.2.2.2.2.2.2.2.1, v, o.2.2.2.2.2.2.2.2.2.2.2.1, o.2.2.2.2.2.2.2.2.2.2.2.2.1, o.2.2.2.2.2.2.2.2.2.2.2.2.2.1, o.2.2.2.2.2.2.2.2.2.2.2.2.2.2.1, o.2.2.2.2.2.2.2.2.2.2.2.2.2.2.2.1, o.2.2.2.2.2.2.2.2.2.2.2.2.2.2.2.2.1, o.2.2.2.2.2.2.2.2.2.2.2.2.2.2.2.2.2.1, o.2.2.2.2.2.2.2.2.2.2.2.2.2.2.2.2.2.2)
def s_tcpTimeout (o : Ob) (v : Int32) : Ob := (o.1, o.2.1, o.2.2.1, o.2.2.2.1, o.2.2.2.2.1, o.2.2.2.2.2.1, o.2.2.2.2.2.2.1, o.2.2.2.2.2.2.2.1, o.2.2.2.2.2.2.2.2.1, o.2.2.2.2.2.2.2.2.2.1, o.2.2.2.2.2.2.2.2.2.2.1, v, o.2.2.2.2.2.2.2.2.2.2.2.2.1, o.2.2.2.2.2.2.2.2.2.2.2.2.2.1, o.2.2.2.2.2.2.2.2.2.2.2.2.2.2.1, o.2.2.2.2.2.2.2.2.2.2.2.2.2.2.2.1, o.2.2.2.2.2.2.2.2.2.2.2.2.2.2.2.2.1, o.2.2.2.2.2.2.2.2.2.2.2.2.2.2.2.2.2.1, o.2.2.2.2.2.2.2.2.2.2.2.2.2.2.2.2.2.2)
def s_cooldown (o : Ob) (v : Int32) : Ob := (o.1, o.2.1, o.2.2.1, o.2.2.2.1, o.2.2.2.2.1, o.2.2.2.2.2.1, o.2.2.2.2.2.2.1, o.2.2.2.2.2.2.2.1, o.2.2.2.2.2.2.2.2.1, o.2.2.2.2.2.2.2.2.2.1, o.2.2.2.2.2.2.2.2.2.2.1, o.2.2.2.2.2.2.2.2.2.2.2.1, v, o.2.2.2.2.2.2.2.2.2.2.2.2.2.1, o.2.2.2.2.2.2.2.2.2.2.2.2.2.2.1, o.2.2.2.2.2.2.2.2.2.2.2.2.2.2.2.1, o.2.2.2.2.2.2.2.2.2.2.2.2.2.2.2.2.1, o.2.2.2.2.2.2.2.2.2.2.2.2.2.2.2.2.2.1, o.2.2.2.2.2.2.2.2.2.2.2.2.2.2.2.2.2.2)
def s_clock (o : Ob) (v : Int32) : Ob := (o.1, o.2.1, o.2.2.1, o.2.2.2.1, o.2.2.2.2.1, o.2.2.2.2.2.1, o.2.2.2.2.2.2.1, o.2.2.2.2.2.2.2.1, o.2.2.2.2.2.2.2.2.1, o.2.2.2.2.2.2.2.2.2.1, o.2.2.2.2.2.2.2.2.2.2.1, o.2.2.2.2.2.2.2.2.2.2.2.1, o.2.2.2.2.2.2.2.2.2.2.2.2.1, v, o.2.2.2.2.2.2.2.2.2.2.2.2.2.2.1, o.2.2.2.2.2.2.2.2.2.2.2.2.2.2.2.1, o.2.2.2.2.2.2.2.2.2.2.2.2.2.2.2.2.1, o.2.2.2.2.2.2.2.2.2.2.2.2.2.2.2.2.2.1, o.2.2.2.2.2.2.2.2.2.2.2.2.2.2.2.2.2.2)
def s_remAddr (o : Ob) (v : Int32) : Ob := (o.1, o.2.1, o.2.2.1, o.2.2.2.1, o.2.2.2.2.1, o.2.2.2.2.2.1, o.2.2.2.2.2.2.1, o.2.2.2.2.2.2.2.1, o.2.2.2.2.2.2.2.2.1, o.2.2.2.2.2.2.2.2.2.1, o.2.2.2.2.2.2.2.2.2.2.1, o.2.2.2.2.2.2.2.2.2.2.2.1, o.2.2.2.2.2.2.2.2.2.2.2.2.1, o.2.2.2.2.2.2.2.2.2.2.2.2.2.1, v, o.2.2.2.2.2.2.2.2.2.2.2.2.2.2.2.1, o.2.2.2.2.2.2.2.2.2.2.2.2.2.2.2.2.1, o.2.2.2.2.2.2.2.2.2.2.2.2.2.2.2.2.2.1, o.2.2.2.2.2.2.2.2.2.2.2.2.2.2.2.2.2.2)
def s_remPort (o : Ob) (v : Int32) : Ob := (o.1, o.2.1, o.2.2.1, o.2.2.2.1, o.2.2.2.2.1, o.2.2.2.2.2.1, o.2.2.2.2.2.2.1, o.2.2.2.2.2.2.2.1, o.2.2.2.2.2.2.2.2.1, o.2.2.2.2.2.2.2.2.2.1, o.2.2.2.2.2.2.2.2.2.2.1, o.2.2.2.2.2.2.2.2.2.2.2.1, o.2.2.2.2.2.2.2.2.2.2.2.2.1, o.2.2.2.2.2.2.2.2.2.2.2.2.2.1, o.2.2.2.2.2.2.2.2.2.2.2.2.2.2.1, v, o.2.2.2.2.2.2.2.2.2.2.2.2.2.2.2.2.1, o.2.2.2.2.2.2.2.2.2.2.2.2.2.2.2.2.2.1, o.2.2.2.2.2.2.2.2.2.2.2.2.2.2.2.2.2.2)
def s_regHost (o : Ob) (v : Int32) : Ob := (o.1, o.2.1, o.2.2.1, o.2.2.2.1, o.2.2.2.2.1, o.2.2.2.2.2.1, o.2.2.2.2.2.2.1, o.2.2.2.2.2.2.2.1, o.2.2.2.2.2.2.2.2.1, o.2.2.2.2.2.2.2.2.2.1, o.2.2.2.2.2.2.2.2.2.2.1, o.2.2.2.2.2.2.2.2.2.2.2.1, o.2.2.2.2.2.2.2.2.2.2.2.2.1, o.2.2.2.2.2.2.2.2.2.2.2.2.2.1, o.2.2.2.2.2.2.2.2.2.2.2.2.2.2.1, o.2.2.2.2.2.2.2.2.2.2.2.2.2.2.2.1, v, o.2.2.2.2.2.2.2.2.2.2.2.2.2.2.2.2.2.1, o.2.2.2.2.2.2.2.2.2.2.2.2.2.2.2.2.2.2)
def s_regPort (o : Ob) (v : Int32) : Ob := (o.1, o.2.1, o.2.2.1, o.2.2.2.1, o.2.2.2.2.1, o.2.2.2.2.2.1, o.2.2.2.2.2.2.1, o.2.2.2.2.2.2.2.1, o.2.2.2.2.2.2.2.2.1, o.2.2.2.2.2.2.2.2.2.1, o.2.2.2.2.2.2.2.2.2.2.1, o.2.2.2.2.2.2.2.2.2.2.2.1, o.2.2.2.2.2.2.2.2.2.2.2.2.1, o.2.2.2.2.2.2.2.2.2.2.2.2.2.1, o.2.2.2.2.2.2.2.2.2.2.2.2.2.2.1, o.2.2.2.2.2.2.2.2.2.2.2.2.2.2.2.1, o.2.2.2.2.2.2.2.2.2.2.2.2.2.2.2.2.1, v, o.2.2.2.2.2.2.2.2.2.2.2.2.2.2.2.2.2.2)
def s_regExt (o : Ob) (v : Int32) : Ob := (o.1, o.2.1, o.2.2.1, o.2.2.2.1, o.2.2.2.2.1, o.2.2.2.2.2.1, o.2.2.2.2.2.2.1, o.2.2.2.2.2.2.2.1, o.2.2.2.2.2.2.2.2.1, o.2.2.2.2.2.2.2.2.2.1, o.2.2.2.2.2.2.2.2.2.2.1, o.2.2.2.2.2.2.2.2.2.2.2.1, o.2.2.2.2.2.2.2.2.2.2.2.2.1, o.2.2.2.2.2.2.2.2.2.2.2.2.2.1, o.2.2.2.2.2.2.2.2.2.2.2.2.2.2.1, o.2.2.2.2.2.2.2.2.2.2.2.2.2.2.2.1, o.2.2.2.2.2.2.2.2.2.2.2.2.2.2.2.2.1, o.2.2.2.2.2.2.2.2.2.2.2.2.2.2.2.2.2.1, v)
def ob0 : Ob := ([], [], [], [], [], [], [], [], [], 0, 0, 0, 0, 0, 0, 0, 0, 0, 0)
section Walks
variable {l : Launch} {Z : State} {n0 : Nat} {ad : Nat → Addr} {a0 : Array Value}
set_option maxRecDepth 20000
def H0 (s : List Int32) (o0 : Ob) : QHeap := [.inr (.inl (.int, s)), .inl [.ref 2, .ref 3, .ref 4, .ref 5, .ref 6, .ref 7, .ref 8, .ref 9, .ref 10, .int (f_poolSize o0), .int (f_udpTimeout o0), .int (f_tcpTimeout o0), .int (f_cooldown o0), .int (f_clock o0), .int (f_remAddr o0), .int (f_remPort o0), .int (f_regHost o0), .int (f_regPort o0), .int (f_regExt o0)], .inr (.inl (.boolean, (f_live o0))), .inr (.inl (.boolean, (f_used o0))), .inr (.inl (.int, (f_freedAt o0))), .inr (.inl (.int, (f_protoOf o0))), .inr (.inl (.int, (f_hostOf o0))), .inr (.inl (.int, (f_iportOf o0))), .inr (.inl (.int, (f_stateAt o0))), .inr (.inl (.int, (f_deadlineAt o0))), .inr (.inr (f_perm o0))]
/-- clamp(III)I -/
def F2 (x1 : Int32) (x2 : Int32) (x3 : Int32) : Option (Int32) :=
  (if x1 < x2 then some x2 else (if x3 < x1 then some x3 else some x1))
theorem tF2 (Ad : QAd n0 ad) (W : QW Z a0) {a : Nat} {σ : QHeap} (x1 : Int32) (x2 : Int32) (x3 : Int32) {r : Int32} (h : F2 x1 x2 x3 = some r) : QTri l Z n0 ad 2 (0, qentry [.ref a, .int x1, .int x2, .int x3] (pMaxL 2), [], σ) (some (Value.int r)) σ := by
  unfold F2 at h
  refine QTri.steps Ad W 2 (st' := (2, [some (.ref a), some (.int x1), some (.int x2), some (.int x3)], [.int x2, .int x1], σ)) rfl ?_
  rcases qite h with ⟨hc1, h⟩ | ⟨hc1, h⟩
  · refine QTri.brF Ad W (t := 7) (f := 5) (L := [some (.ref a), some (.int x1), some (.int x2), some (.int x3)]) (S := []) (σ := σ) rfl (XT.ii_ge_f hc1) ?_
    refine QTri.steps Ad W 1 (st' := (6, [some (.ref a), some (.int x1), some (.int x2), some (.int x3)], [.int x2], σ)) rfl ?_
    obtain rfl := Option.some.inj h
    exact QTri.retI rfl rfl
  · refine QTri.brT Ad W (t := 7) (f := 5) (L := [some (.ref a), some (.int x1), some (.int x2), some (.int x3)]) (S := []) (σ := σ) rfl (XT.ii_ge_t hc1) ?_
    refine QTri.steps Ad W 2 (st' := (9, [some (.ref a), some (.int x1), some (.int x2), some (.int x3)], [.int x3, .int x1], σ)) rfl ?_
    rcases qite h with ⟨hc2, h⟩ | ⟨hc2, h⟩
    · refine QTri.brF Ad W (t := 14) (f := 12) (L := [some (.ref a), some (.int x1), some (.int x2), some (.int x3)]) (S := []) (σ := σ) rfl (XT.ii_le_f hc2) ?_
      refine QTri.steps Ad W 1 (st' := (13, [some (.ref a), some (.int x1), some (.int x2), some (.int x3)], [.int x3], σ)) rfl ?_
      obtain rfl := Option.some.inj h
      exact QTri.retI rfl rfl
    · refine QTri.brT Ad W (t := 14) (f := 12) (L := [some (.ref a), some (.int x1), some (.int x2), some (.int x3)]) (S := []) (σ := σ) rfl (XT.ii_le_t hc2) ?_
      refine QTri.steps Ad W 1 (st' := (15, [some (.ref a), some (.int x1), some (.int x2), some (.int x3)], [.int x1], σ)) rfl ?_
      obtain rfl := Option.some.inj h
      exact QTri.retI rfl rfl
/-- init(IIII)V -/
def F1 (x1 : Int32) (x2 : Int32) (x3 : Int32) (x4 : Int32) : Option (Ob) :=
  (F2 x1 (2 : Int32) (16 : Int32)).bind fun r3 => (F2 x2 (1 : Int32) (1000 : Int32)).bind fun r4 => (F2 x3 (1 : Int32) (1000 : Int32)).bind fun r5 => (F2 x4 (0 : Int32) (1000 : Int32)).bind fun r6 => some (s_regExt (s_regPort (s_regHost (s_remPort (s_remAddr (s_clock (s_cooldown (s_tcpTimeout (s_udpTimeout (s_poolSize (s_perm (s_deadlineAt (s_stateAt (s_iportOf (s_hostOf (s_protoOf (s_freedAt (s_used (s_live ob0 (List.replicate 16 0)) (List.replicate 16 0)) (List.replicate 16 0)) (List.replicate 16 0)) (List.replicate 16 0)) (List.replicate 16 0)) (List.replicate 16 0)) (List.replicate 16 0)) (List.replicate 64 0)) r3) r4) r5) r6) (0 : Int32)) (0 : Int32)) (0 : Int32)) (-1 : Int32)) (-1 : Int32)) (-1 : Int32))
theorem tF1 (Ad : QAd n0 ad) (W : QW Z a0) (s : List Int32) (x1 : Int32) (x2 : Int32) (x3 : Int32) (x4 : Int32) {r : Ob} (h : F1 x1 x2 x3 x4 = some r) : QTri l Z n0 ad 1 (0, qentry [.ref 1, .int x1, .int x2, .int x3, .int x4] (pMaxL 1), [], [.inr (.inl (.int, s)), .inl [.null, .null, .null, .null, .null, .null, .null, .null, .null, .int (f_poolSize ob0), .int (f_udpTimeout ob0), .int (f_tcpTimeout ob0), .int (f_cooldown ob0), .int (f_clock ob0), .int (f_remAddr ob0), .int (f_remPort ob0), .int (f_regHost ob0), .int (f_regPort ob0), .int (f_regExt ob0)]]) (none : Option Value) (H0 s r) := by
  unfold F1 at h
  refine QTri.steps Ad W 1 (st' := (1, [some (.ref 1), some (.int x1), some (.int x2), some (.int x3), some (.int x4)], [.ref 1], [.inr (.inl (.int, s)), .inl [.null, .null, .null, .null, .null, .null, .null, .null, .null, .int (f_poolSize ob0), .int (f_udpTimeout ob0), .int (f_tcpTimeout ob0), .int (f_cooldown ob0), .int (f_clock ob0), .int (f_remAddr ob0), .int (f_remPort ob0), .int (f_regHost ob0), .int (f_regPort ob0), .int (f_regExt ob0)]])) rfl ?_
  refine QTri.callO W rfl rfl rfl ?_
  refine QTri.steps Ad W 3 (st' := (9, [some (.ref 1), some (.int x1), some (.int x2), some (.int x3), some (.int x4)], [.ref 2, .ref 1], [.inr (.inl (.int, s)), .inl [.null, .null, .null, .null, .null, .null, .null, .null, .null, .int (f_poolSize ob0), .int (f_udpTimeout ob0), .int (f_tcpTimeout ob0), .int (f_cooldown ob0), .int (f_clock ob0), .int (f_remAddr ob0), .int (f_remPort ob0), .int (f_regHost ob0), .int (f_regPort ob0), .int (f_regExt ob0)], .inr (.inl (.boolean, (List.replicate 16 0)))])) rfl ?_
  refine QTri.steps Ad W 1 (st' := (12, [some (.ref 1), some (.int x1), some (.int x2), some (.int x3), some (.int x4)], [], [.inr (.inl (.int, s)), .inl [.ref 2, .null, .null, .null, .null, .null, .null, .null, .null, .int (f_poolSize ob0), .int (f_udpTimeout ob0), .int (f_tcpTimeout ob0), .int (f_cooldown ob0), .int (f_clock ob0), .int (f_remAddr ob0), .int (f_remPort ob0), .int (f_regHost ob0), .int (f_regPort ob0), .int (f_regExt ob0)], .inr (.inl (.boolean, (List.replicate 16 0)))])) rfl ?_
  refine QTri.steps Ad W 3 (st' := (17, [some (.ref 1), some (.int x1), some (.int x2), some (.int x3), some (.int x4)], [.ref 3, .ref 1], [.inr (.inl (.int, s)), .inl [.ref 2, .null, .null, .null, .null, .null, .null, .null, .null, .int (f_poolSize ob0), .int (f_udpTimeout ob0), .int (f_tcpTimeout ob0), .int (f_cooldown ob0), .int (f_clock ob0), .int (f_remAddr ob0), .int (f_remPort ob0), .int (f_regHost ob0), .int (f_regPort ob0), .int (f_regExt ob0)], .inr (.inl (.boolean, (List.replicate 16 0))), .inr (.inl (.boolean, (List.replicate 16 0)))])) rfl ?_
  refine QTri.steps Ad W 1 (st' := (20, [some (.ref 1), some (.int x1), some (.int x2), some (.int x3), some (.int x4)], [], [.inr (.inl (.int, s)), .inl [.ref 2, .ref 3, .null, .null, .null, .null, .null, .null, .null, .int (f_poolSize ob0), .int (f_udpTimeout ob0), .int (f_tcpTimeout ob0), .int (f_cooldown ob0), .int (f_clock ob0), .int (f_remAddr ob0), .int (f_remPort ob0), .int (f_regHost ob0), .int (f_regPort ob0), .int (f_regExt ob0)], .inr (.inl (.boolean, (List.replicate 16 0))), .inr (.inl (.boolean, (List.replicate 16 0)))])) rfl ?_
  refine QTri.steps Ad W 3 (st' := (25, [some (.ref 1), some (.int x1), some (.int x2), some (.int x3), some (.int x4)], [.ref 4, .ref 1], [.inr (.inl (.int, s)), .inl [.ref 2, .ref 3, .null, .null, .null, .null, .null, .null, .null, .int (f_poolSize ob0), .int (f_udpTimeout ob0), .int (f_tcpTimeout ob0), .int (f_cooldown ob0), .int (f_clock ob0), .int (f_remAddr ob0), .int (f_remPort ob0), .int (f_regHost ob0), .int (f_regPort ob0), .int (f_regExt ob0)], .inr (.inl (.boolean, (List.replicate 16 0))), .inr (.inl (.boolean, (List.replicate 16 0))), .inr (.inl (.int, (List.replicate 16 0)))])) rfl ?_
  refine QTri.steps Ad W 1 (st' := (28, [some (.ref 1), some (.int x1), some (.int x2), some (.int x3), some (.int x4)], [], [.inr (.inl (.int, s)), .inl [.ref 2, .ref 3, .ref 4, .null, .null, .null, .null, .null, .null, .int (f_poolSize ob0), .int (f_udpTimeout ob0), .int (f_tcpTimeout ob0), .int (f_cooldown ob0), .int (f_clock ob0), .int (f_remAddr ob0), .int (f_remPort ob0), .int (f_regHost ob0), .int (f_regPort ob0), .int (f_regExt ob0)], .inr (.inl (.boolean, (List.replicate 16 0))), .inr (.inl (.boolean, (List.replicate 16 0))), .inr (.inl (.int, (List.replicate 16 0)))])) rfl ?_
  refine QTri.steps Ad W 3 (st' := (33, [some (.ref 1), some (.int x1), some (.int x2), some (.int x3), some (.int x4)], [.ref 5, .ref 1], [.inr (.inl (.int, s)), .inl [.ref 2, .ref 3, .ref 4, .null, .null, .null, .null, .null, .null, .int (f_poolSize ob0), .int (f_udpTimeout ob0), .int (f_tcpTimeout ob0), .int (f_cooldown ob0), .int (f_clock ob0), .int (f_remAddr ob0), .int (f_remPort ob0), .int (f_regHost ob0), .int (f_regPort ob0), .int (f_regExt ob0)], .inr (.inl (.boolean, (List.replicate 16 0))), .inr (.inl (.boolean, (List.replicate 16 0))), .inr (.inl (.int, (List.replicate 16 0))), .inr (.inl (.int, (List.replicate 16 0)))])) rfl ?_
  refine QTri.steps Ad W 1 (st' := (36, [some (.ref 1), some (.int x1), some (.int x2), some (.int x3), some (.int x4)], [], [.inr (.inl (.int, s)), .inl [.ref 2, .ref 3, .ref 4, .ref 5, .null, .null, .null, .null, .null, .int (f_poolSize ob0), .int (f_udpTimeout ob0), .int (f_tcpTimeout ob0), .int (f_cooldown ob0), .int (f_clock ob0), .int (f_remAddr ob0), .int (f_remPort ob0), .int (f_regHost ob0), .int (f_regPort ob0), .int (f_regExt ob0)], .inr (.inl (.boolean, (List.replicate 16 0))), .inr (.inl (.boolean, (List.replicate 16 0))), .inr (.inl (.int, (List.replicate 16 0))), .inr (.inl (.int, (List.replicate 16 0)))])) rfl ?_
  refine QTri.steps Ad W 3 (st' := (41, [some (.ref 1), some (.int x1), some (.int x2), some (.int x3), some (.int x4)], [.ref 6, .ref 1], [.inr (.inl (.int, s)), .inl [.ref 2, .ref 3, .ref 4, .ref 5, .null, .null, .null, .null, .null, .int (f_poolSize ob0), .int (f_udpTimeout ob0), .int (f_tcpTimeout ob0), .int (f_cooldown ob0), .int (f_clock ob0), .int (f_remAddr ob0), .int (f_remPort ob0), .int (f_regHost ob0), .int (f_regPort ob0), .int (f_regExt ob0)], .inr (.inl (.boolean, (List.replicate 16 0))), .inr (.inl (.boolean, (List.replicate 16 0))), .inr (.inl (.int, (List.replicate 16 0))), .inr (.inl (.int, (List.replicate 16 0))), .inr (.inl (.int, (List.replicate 16 0)))])) rfl ?_
  refine QTri.steps Ad W 1 (st' := (44, [some (.ref 1), some (.int x1), some (.int x2), some (.int x3), some (.int x4)], [], [.inr (.inl (.int, s)), .inl [.ref 2, .ref 3, .ref 4, .ref 5, .ref 6, .null, .null, .null, .null, .int (f_poolSize ob0), .int (f_udpTimeout ob0), .int (f_tcpTimeout ob0), .int (f_cooldown ob0), .int (f_clock ob0), .int (f_remAddr ob0), .int (f_remPort ob0), .int (f_regHost ob0), .int (f_regPort ob0), .int (f_regExt ob0)], .inr (.inl (.boolean, (List.replicate 16 0))), .inr (.inl (.boolean, (List.replicate 16 0))), .inr (.inl (.int, (List.replicate 16 0))), .inr (.inl (.int, (List.replicate 16 0))), .inr (.inl (.int, (List.replicate 16 0)))])) rfl ?_
  refine QTri.steps Ad W 3 (st' := (49, [some (.ref 1), some (.int x1), some (.int x2), some (.int x3), some (.int x4)], [.ref 7, .ref 1], [.inr (.inl (.int, s)), .inl [.ref 2, .ref 3, .ref 4, .ref 5, .ref 6, .null, .null, .null, .null, .int (f_poolSize ob0), .int (f_udpTimeout ob0), .int (f_tcpTimeout ob0), .int (f_cooldown ob0), .int (f_clock ob0), .int (f_remAddr ob0), .int (f_remPort ob0), .int (f_regHost ob0), .int (f_regPort ob0), .int (f_regExt ob0)], .inr (.inl (.boolean, (List.replicate 16 0))), .inr (.inl (.boolean, (List.replicate 16 0))), .inr (.inl (.int, (List.replicate 16 0))), .inr (.inl (.int, (List.replicate 16 0))), .inr (.inl (.int, (List.replicate 16 0))), .inr (.inl (.int, (List.replicate 16 0)))])) rfl ?_
  refine QTri.steps Ad W 1 (st' := (52, [some (.ref 1), some (.int x1), some (.int x2), some (.int x3), some (.int x4)], [], [.inr (.inl (.int, s)), .inl [.ref 2, .ref 3, .ref 4, .ref 5, .ref 6, .ref 7, .null, .null, .null, .int (f_poolSize ob0), .int (f_udpTimeout ob0), .int (f_tcpTimeout ob0), .int (f_cooldown ob0), .int (f_clock ob0), .int (f_remAddr ob0), .int (f_remPort ob0), .int (f_regHost ob0), .int (f_regPort ob0), .int (f_regExt ob0)], .inr (.inl (.boolean, (List.replicate 16 0))), .inr (.inl (.boolean, (List.replicate 16 0))), .inr (.inl (.int, (List.replicate 16 0))), .inr (.inl (.int, (List.replicate 16 0))), .inr (.inl (.int, (List.replicate 16 0))), .inr (.inl (.int, (List.replicate 16 0)))])) rfl ?_
  refine QTri.steps Ad W 3 (st' := (57, [some (.ref 1), some (.int x1), some (.int x2), some (.int x3), some (.int x4)], [.ref 8, .ref 1], [.inr (.inl (.int, s)), .inl [.ref 2, .ref 3, .ref 4, .ref 5, .ref 6, .ref 7, .null, .null, .null, .int (f_poolSize ob0), .int (f_udpTimeout ob0), .int (f_tcpTimeout ob0), .int (f_cooldown ob0), .int (f_clock ob0), .int (f_remAddr ob0), .int (f_remPort ob0), .int (f_regHost ob0), .int (f_regPort ob0), .int (f_regExt ob0)], .inr (.inl (.boolean, (List.replicate 16 0))), .inr (.inl (.boolean, (List.replicate 16 0))), .inr (.inl (.int, (List.replicate 16 0))), .inr (.inl (.int, (List.replicate 16 0))), .inr (.inl (.int, (List.replicate 16 0))), .inr (.inl (.int, (List.replicate 16 0))), .inr (.inl (.int, (List.replicate 16 0)))])) rfl ?_
  refine QTri.steps Ad W 1 (st' := (60, [some (.ref 1), some (.int x1), some (.int x2), some (.int x3), some (.int x4)], [], [.inr (.inl (.int, s)), .inl [.ref 2, .ref 3, .ref 4, .ref 5, .ref 6, .ref 7, .ref 8, .null, .null, .int (f_poolSize ob0), .int (f_udpTimeout ob0), .int (f_tcpTimeout ob0), .int (f_cooldown ob0), .int (f_clock ob0), .int (f_remAddr ob0), .int (f_remPort ob0), .int (f_regHost ob0), .int (f_regPort ob0), .int (f_regExt ob0)], .inr (.inl (.boolean, (List.replicate 16 0))), .inr (.inl (.boolean, (List.replicate 16 0))), .inr (.inl (.int, (List.replicate 16 0))), .inr (.inl (.int, (List.replicate 16 0))), .inr (.inl (.int, (List.replicate 16 0))), .inr (.inl (.int, (List.replicate 16 0))), .inr (.inl (.int, (List.replicate 16 0)))])) rfl ?_
  refine QTri.steps Ad W 3 (st' := (65, [some (.ref 1), some (.int x1), some (.int x2), some (.int x3), some (.int x4)], [.ref 9, .ref 1], [.inr (.inl (.int, s)), .inl [.ref 2, .ref 3, .ref 4, .ref 5, .ref 6, .ref 7, .ref 8, .null, .null, .int (f_poolSize ob0), .int (f_udpTimeout ob0), .int (f_tcpTimeout ob0), .int (f_cooldown ob0), .int (f_clock ob0), .int (f_remAddr ob0), .int (f_remPort ob0), .int (f_regHost ob0), .int (f_regPort ob0), .int (f_regExt ob0)], .inr (.inl (.boolean, (List.replicate 16 0))), .inr (.inl (.boolean, (List.replicate 16 0))), .inr (.inl (.int, (List.replicate 16 0))), .inr (.inl (.int, (List.replicate 16 0))), .inr (.inl (.int, (List.replicate 16 0))), .inr (.inl (.int, (List.replicate 16 0))), .inr (.inl (.int, (List.replicate 16 0))), .inr (.inl (.int, (List.replicate 16 0)))])) rfl ?_
  refine QTri.steps Ad W 1 (st' := (68, [some (.ref 1), some (.int x1), some (.int x2), some (.int x3), some (.int x4)], [], [.inr (.inl (.int, s)), .inl [.ref 2, .ref 3, .ref 4, .ref 5, .ref 6, .ref 7, .ref 8, .ref 9, .null, .int (f_poolSize ob0), .int (f_udpTimeout ob0), .int (f_tcpTimeout ob0), .int (f_cooldown ob0), .int (f_clock ob0), .int (f_remAddr ob0), .int (f_remPort ob0), .int (f_regHost ob0), .int (f_regPort ob0), .int (f_regExt ob0)], .inr (.inl (.boolean, (List.replicate 16 0))), .inr (.inl (.boolean, (List.replicate 16 0))), .inr (.inl (.int, (List.replicate 16 0))), .inr (.inl (.int, (List.replicate 16 0))), .inr (.inl (.int, (List.replicate 16 0))), .inr (.inl (.int, (List.replicate 16 0))), .inr (.inl (.int, (List.replicate 16 0))), .inr (.inl (.int, (List.replicate 16 0)))])) rfl ?_
  refine QTri.steps Ad W 3 (st' := (73, [some (.ref 1), some (.int x1), some (.int x2), some (.int x3), some (.int x4)], [.ref 10, .ref 1], [.inr (.inl (.int, s)), .inl [.ref 2, .ref 3, .ref 4, .ref 5, .ref 6, .ref 7, .ref 8, .ref 9, .null, .int (f_poolSize ob0), .int (f_udpTimeout ob0), .int (f_tcpTimeout ob0), .int (f_cooldown ob0), .int (f_clock ob0), .int (f_remAddr ob0), .int (f_remPort ob0), .int (f_regHost ob0), .int (f_regPort ob0), .int (f_regExt ob0)], .inr (.inl (.boolean, (List.replicate 16 0))), .inr (.inl (.boolean, (List.replicate 16 0))), .inr (.inl (.int, (List.replicate 16 0))), .inr (.inl (.int, (List.replicate 16 0))), .inr (.inl (.int, (List.replicate 16 0))), .inr (.inl (.int, (List.replicate 16 0))), .inr (.inl (.int, (List.replicate 16 0))), .inr (.inl (.int, (List.replicate 16 0))), .inr (.inr (List.replicate 64 0))])) rfl ?_
  refine QTri.steps Ad W 1 (st' := (76, [some (.ref 1), some (.int x1), some (.int x2), some (.int x3), some (.int x4)], [], [.inr (.inl (.int, s)), .inl [.ref 2, .ref 3, .ref 4, .ref 5, .ref 6, .ref 7, .ref 8, .ref 9, .ref 10, .int (f_poolSize ob0), .int (f_udpTimeout ob0), .int (f_tcpTimeout ob0), .int (f_cooldown ob0), .int (f_clock ob0), .int (f_remAddr ob0), .int (f_remPort ob0), .int (f_regHost ob0), .int (f_regPort ob0), .int (f_regExt ob0)], .inr (.inl (.boolean, (List.replicate 16 0))), .inr (.inl (.boolean, (List.replicate 16 0))), .inr (.inl (.int, (List.replicate 16 0))), .inr (.inl (.int, (List.replicate 16 0))), .inr (.inl (.int, (List.replicate 16 0))), .inr (.inl (.int, (List.replicate 16 0))), .inr (.inl (.int, (List.replicate 16 0))), .inr (.inl (.int, (List.replicate 16 0))), .inr (.inr (List.replicate 64 0))])) rfl ?_
  refine QTri.steps Ad W 5 (st' := (82, [some (.ref 1), some (.int x1), some (.int x2), some (.int x3), some (.int x4)], [.int (16 : Int32), .int (2 : Int32), .int x1, .ref 1, .ref 1], [.inr (.inl (.int, s)), .inl [.ref 2, .ref 3, .ref 4, .ref 5, .ref 6, .ref 7, .ref 8, .ref 9, .ref 10, .int (f_poolSize ob0), .int (f_udpTimeout ob0), .int (f_tcpTimeout ob0), .int (f_cooldown ob0), .int (f_clock ob0), .int (f_remAddr ob0), .int (f_remPort ob0), .int (f_regHost ob0), .int (f_regPort ob0), .int (f_regExt ob0)], .inr (.inl (.boolean, (List.replicate 16 0))), .inr (.inl (.boolean, (List.replicate 16 0))), .inr (.inl (.int, (List.replicate 16 0))), .inr (.inl (.int, (List.replicate 16 0))), .inr (.inl (.int, (List.replicate 16 0))), .inr (.inl (.int, (List.replicate 16 0))), .inr (.inl (.int, (List.replicate 16 0))), .inr (.inl (.int, (List.replicate 16 0))), .inr (.inr (List.replicate 64 0))])) rfl ?_
  obtain ⟨r3, hr3, h⟩ := Option.bind_eq_some_iff.mp h
  refine QTri.callP W (a := 1) (as := [.int x1, .int (2 : Int32), .int (16 : Int32)]) (rest := [.ref 1]) (w := (some (.int r3))) (σ₁ := [.inr (.inl (.int, s)), .inl [.ref 2, .ref 3, .ref 4, .ref 5, .ref 6, .ref 7, .ref 8, .ref 9, .ref 10, .int (f_poolSize ob0), .int (f_udpTimeout ob0), .int (f_tcpTimeout ob0), .int (f_cooldown ob0), .int (f_clock ob0), .int (f_remAddr ob0), .int (f_remPort ob0), .int (f_regHost ob0), .int (f_regPort ob0), .int (f_regExt ob0)], .inr (.inl (.boolean, (List.replicate 16 0))), .inr (.inl (.boolean, (List.replicate 16 0))), .inr (.inl (.int, (List.replicate 16 0))), .inr (.inl (.int, (List.replicate 16 0))), .inr (.inl (.int, (List.replicate 16 0))), .inr (.inl (.int, (List.replicate 16 0))), .inr (.inl (.int, (List.replicate 16 0))), .inr (.inl (.int, (List.replicate 16 0))), .inr (.inr (List.replicate 64 0))]) rfl rfl rfl rfl rfl rfl rfl rfl (tF2 Ad W x1 (2 : Int32) (16 : Int32) hr3) ?_
  refine QTri.steps Ad W 1 (st' := (88, [some (.ref 1), some (.int x1), some (.int x2), some (.int x3), some (.int x4)], [], [.inr (.inl (.int, s)), .inl [.ref 2, .ref 3, .ref 4, .ref 5, .ref 6, .ref 7, .ref 8, .ref 9, .ref 10, .int r3, .int (f_udpTimeout ob0), .int (f_tcpTimeout ob0), .int (f_cooldown ob0), .int (f_clock ob0), .int (f_remAddr ob0), .int (f_remPort ob0), .int (f_regHost ob0), .int (f_regPort ob0), .int (f_regExt ob0)], .inr (.inl (.boolean, (List.replicate 16 0))), .inr (.inl (.boolean, (List.replicate 16 0))), .inr (.inl (.int, (List.replicate 16 0))), .inr (.inl (.int, (List.replicate 16 0))), .inr (.inl (.int, (List.replicate 16 0))), .inr (.inl (.int, (List.replicate 16 0))), .inr (.inl (.int, (List.replicate 16 0))), .inr (.inl (.int, (List.replicate 16 0))), .inr (.inr (List.replicate 64 0))])) rfl ?_
  refine QTri.steps Ad W 5 (st' := (95, [some (.ref 1), some (.int x1), some (.int x2), some (.int x3), some (.int x4)], [.int (1000 : Int32), .int (1 : Int32), .int x2, .ref 1, .ref 1], [.inr (.inl (.int, s)), .inl [.ref 2, .ref 3, .ref 4, .ref 5, .ref 6, .ref 7, .ref 8, .ref 9, .ref 10, .int r3, .int (f_udpTimeout ob0), .int (f_tcpTimeout ob0), .int (f_cooldown ob0), .int (f_clock ob0), .int (f_remAddr ob0), .int (f_remPort ob0), .int (f_regHost ob0), .int (f_regPort ob0), .int (f_regExt ob0)], .inr (.inl (.boolean, (List.replicate 16 0))), .inr (.inl (.boolean, (List.replicate 16 0))), .inr (.inl (.int, (List.replicate 16 0))), .inr (.inl (.int, (List.replicate 16 0))), .inr (.inl (.int, (List.replicate 16 0))), .inr (.inl (.int, (List.replicate 16 0))), .inr (.inl (.int, (List.replicate 16 0))), .inr (.inl (.int, (List.replicate 16 0))), .inr (.inr (List.replicate 64 0))])) rfl ?_
  obtain ⟨r4, hr4, h⟩ := Option.bind_eq_some_iff.mp h
  refine QTri.callP W (a := 1) (as := [.int x2, .int (1 : Int32), .int (1000 : Int32)]) (rest := [.ref 1]) (w := (some (.int r4))) (σ₁ := [.inr (.inl (.int, s)), .inl [.ref 2, .ref 3, .ref 4, .ref 5, .ref 6, .ref 7, .ref 8, .ref 9, .ref 10, .int r3, .int (f_udpTimeout ob0), .int (f_tcpTimeout ob0), .int (f_cooldown ob0), .int (f_clock ob0), .int (f_remAddr ob0), .int (f_remPort ob0), .int (f_regHost ob0), .int (f_regPort ob0), .int (f_regExt ob0)], .inr (.inl (.boolean, (List.replicate 16 0))), .inr (.inl (.boolean, (List.replicate 16 0))), .inr (.inl (.int, (List.replicate 16 0))), .inr (.inl (.int, (List.replicate 16 0))), .inr (.inl (.int, (List.replicate 16 0))), .inr (.inl (.int, (List.replicate 16 0))), .inr (.inl (.int, (List.replicate 16 0))), .inr (.inl (.int, (List.replicate 16 0))), .inr (.inr (List.replicate 64 0))]) rfl rfl rfl rfl rfl rfl rfl rfl (tF2 Ad W x2 (1 : Int32) (1000 : Int32) hr4) ?_
  refine QTri.steps Ad W 1 (st' := (101, [some (.ref 1), some (.int x1), some (.int x2), some (.int x3), some (.int x4)], [], [.inr (.inl (.int, s)), .inl [.ref 2, .ref 3, .ref 4, .ref 5, .ref 6, .ref 7, .ref 8, .ref 9, .ref 10, .int r3, .int r4, .int (f_tcpTimeout ob0), .int (f_cooldown ob0), .int (f_clock ob0), .int (f_remAddr ob0), .int (f_remPort ob0), .int (f_regHost ob0), .int (f_regPort ob0), .int (f_regExt ob0)], .inr (.inl (.boolean, (List.replicate 16 0))), .inr (.inl (.boolean, (List.replicate 16 0))), .inr (.inl (.int, (List.replicate 16 0))), .inr (.inl (.int, (List.replicate 16 0))), .inr (.inl (.int, (List.replicate 16 0))), .inr (.inl (.int, (List.replicate 16 0))), .inr (.inl (.int, (List.replicate 16 0))), .inr (.inl (.int, (List.replicate 16 0))), .inr (.inr (List.replicate 64 0))])) rfl ?_
  refine QTri.steps Ad W 5 (st' := (108, [some (.ref 1), some (.int x1), some (.int x2), some (.int x3), some (.int x4)], [.int (1000 : Int32), .int (1 : Int32), .int x3, .ref 1, .ref 1], [.inr (.inl (.int, s)), .inl [.ref 2, .ref 3, .ref 4, .ref 5, .ref 6, .ref 7, .ref 8, .ref 9, .ref 10, .int r3, .int r4, .int (f_tcpTimeout ob0), .int (f_cooldown ob0), .int (f_clock ob0), .int (f_remAddr ob0), .int (f_remPort ob0), .int (f_regHost ob0), .int (f_regPort ob0), .int (f_regExt ob0)], .inr (.inl (.boolean, (List.replicate 16 0))), .inr (.inl (.boolean, (List.replicate 16 0))), .inr (.inl (.int, (List.replicate 16 0))), .inr (.inl (.int, (List.replicate 16 0))), .inr (.inl (.int, (List.replicate 16 0))), .inr (.inl (.int, (List.replicate 16 0))), .inr (.inl (.int, (List.replicate 16 0))), .inr (.inl (.int, (List.replicate 16 0))), .inr (.inr (List.replicate 64 0))])) rfl ?_
  obtain ⟨r5, hr5, h⟩ := Option.bind_eq_some_iff.mp h
  refine QTri.callP W (a := 1) (as := [.int x3, .int (1 : Int32), .int (1000 : Int32)]) (rest := [.ref 1]) (w := (some (.int r5))) (σ₁ := [.inr (.inl (.int, s)), .inl [.ref 2, .ref 3, .ref 4, .ref 5, .ref 6, .ref 7, .ref 8, .ref 9, .ref 10, .int r3, .int r4, .int (f_tcpTimeout ob0), .int (f_cooldown ob0), .int (f_clock ob0), .int (f_remAddr ob0), .int (f_remPort ob0), .int (f_regHost ob0), .int (f_regPort ob0), .int (f_regExt ob0)], .inr (.inl (.boolean, (List.replicate 16 0))), .inr (.inl (.boolean, (List.replicate 16 0))), .inr (.inl (.int, (List.replicate 16 0))), .inr (.inl (.int, (List.replicate 16 0))), .inr (.inl (.int, (List.replicate 16 0))), .inr (.inl (.int, (List.replicate 16 0))), .inr (.inl (.int, (List.replicate 16 0))), .inr (.inl (.int, (List.replicate 16 0))), .inr (.inr (List.replicate 64 0))]) rfl rfl rfl rfl rfl rfl rfl rfl (tF2 Ad W x3 (1 : Int32) (1000 : Int32) hr5) ?_
  refine QTri.steps Ad W 1 (st' := (114, [some (.ref 1), some (.int x1), some (.int x2), some (.int x3), some (.int x4)], [], [.inr (.inl (.int, s)), .inl [.ref 2, .ref 3, .ref 4, .ref 5, .ref 6, .ref 7, .ref 8, .ref 9, .ref 10, .int r3, .int r4, .int r5, .int (f_cooldown ob0), .int (f_clock ob0), .int (f_remAddr ob0), .int (f_remPort ob0), .int (f_regHost ob0), .int (f_regPort ob0), .int (f_regExt ob0)], .inr (.inl (.boolean, (List.replicate 16 0))), .inr (.inl (.boolean, (List.replicate 16 0))), .inr (.inl (.int, (List.replicate 16 0))), .inr (.inl (.int, (List.replicate 16 0))), .inr (.inl (.int, (List.replicate 16 0))), .inr (.inl (.int, (List.replicate 16 0))), .inr (.inl (.int, (List.replicate 16 0))), .inr (.inl (.int, (List.replicate 16 0))), .inr (.inr (List.replicate 64 0))])) rfl ?_
  refine QTri.steps Ad W 5 (st' := (122, [some (.ref 1), some (.int x1), some (.int x2), some (.int x3), some (.int x4)], [.int (1000 : Int32), .int (0 : Int32), .int x4, .ref 1, .ref 1], [.inr (.inl (.int, s)), .inl [.ref 2, .ref 3, .ref 4, .ref 5, .ref 6, .ref 7, .ref 8, .ref 9, .ref 10, .int r3, .int r4, .int r5, .int (f_cooldown ob0), .int (f_clock ob0), .int (f_remAddr ob0), .int (f_remPort ob0), .int (f_regHost ob0), .int (f_regPort ob0), .int (f_regExt ob0)], .inr (.inl (.boolean, (List.replicate 16 0))), .inr (.inl (.boolean, (List.replicate 16 0))), .inr (.inl (.int, (List.replicate 16 0))), .inr (.inl (.int, (List.replicate 16 0))), .inr (.inl (.int, (List.replicate 16 0))), .inr (.inl (.int, (List.replicate 16 0))), .inr (.inl (.int, (List.replicate 16 0))), .inr (.inl (.int, (List.replicate 16 0))), .inr (.inr (List.replicate 64 0))])) rfl ?_
  obtain ⟨r6, hr6, h⟩ := Option.bind_eq_some_iff.mp h
  refine QTri.callP W (a := 1) (as := [.int x4, .int (0 : Int32), .int (1000 : Int32)]) (rest := [.ref 1]) (w := (some (.int r6))) (σ₁ := [.inr (.inl (.int, s)), .inl [.ref 2, .ref 3, .ref 4, .ref 5, .ref 6, .ref 7, .ref 8, .ref 9, .ref 10, .int r3, .int r4, .int r5, .int (f_cooldown ob0), .int (f_clock ob0), .int (f_remAddr ob0), .int (f_remPort ob0), .int (f_regHost ob0), .int (f_regPort ob0), .int (f_regExt ob0)], .inr (.inl (.boolean, (List.replicate 16 0))), .inr (.inl (.boolean, (List.replicate 16 0))), .inr (.inl (.int, (List.replicate 16 0))), .inr (.inl (.int, (List.replicate 16 0))), .inr (.inl (.int, (List.replicate 16 0))), .inr (.inl (.int, (List.replicate 16 0))), .inr (.inl (.int, (List.replicate 16 0))), .inr (.inl (.int, (List.replicate 16 0))), .inr (.inr (List.replicate 64 0))]) rfl rfl rfl rfl rfl rfl rfl rfl (tF2 Ad W x4 (0 : Int32) (1000 : Int32) hr6) ?_
  refine QTri.steps Ad W 1 (st' := (128, [some (.ref 1), some (.int x1), some (.int x2), some (.int x3), some (.int x4)], [], [.inr (.inl (.int, s)), .inl [.ref 2, .ref 3, .ref 4, .ref 5, .ref 6, .ref 7, .ref 8, .ref 9, .ref 10, .int r3, .int r4, .int r5, .int r6, .int (f_clock ob0), .int (f_remAddr ob0), .int (f_remPort ob0), .int (f_regHost ob0), .int (f_regPort ob0), .int (f_regExt ob0)], .inr (.inl (.boolean, (List.replicate 16 0))), .inr (.inl (.boolean, (List.replicate 16 0))), .inr (.inl (.int, (List.replicate 16 0))), .inr (.inl (.int, (List.replicate 16 0))), .inr (.inl (.int, (List.replicate 16 0))), .inr (.inl (.int, (List.replicate 16 0))), .inr (.inl (.int, (List.replicate 16 0))), .inr (.inl (.int, (List.replicate 16 0))), .inr (.inr (List.replicate 64 0))])) rfl ?_
  refine QTri.steps Ad W 3 (st' := (133, [some (.ref 1), some (.int x1), some (.int x2), some (.int x3), some (.int x4)], [], [.inr (.inl (.int, s)), .inl [.ref 2, .ref 3, .ref 4, .ref 5, .ref 6, .ref 7, .ref 8, .ref 9, .ref 10, .int r3, .int r4, .int r5, .int r6, .int (0 : Int32), .int (f_remAddr ob0), .int (f_remPort ob0), .int (f_regHost ob0), .int (f_regPort ob0), .int (f_regExt ob0)], .inr (.inl (.boolean, (List.replicate 16 0))), .inr (.inl (.boolean, (List.replicate 16 0))), .inr (.inl (.int, (List.replicate 16 0))), .inr (.inl (.int, (List.replicate 16 0))), .inr (.inl (.int, (List.replicate 16 0))), .inr (.inl (.int, (List.replicate 16 0))), .inr (.inl (.int, (List.replicate 16 0))), .inr (.inl (.int, (List.replicate 16 0))), .inr (.inr (List.replicate 64 0))])) rfl ?_
  refine QTri.steps Ad W 3 (st' := (138, [some (.ref 1), some (.int x1), some (.int x2), some (.int x3), some (.int x4)], [], [.inr (.inl (.int, s)), .inl [.ref 2, .ref 3, .ref 4, .ref 5, .ref 6, .ref 7, .ref 8, .ref 9, .ref 10, .int r3, .int r4, .int r5, .int r6, .int (0 : Int32), .int (0 : Int32), .int (f_remPort ob0), .int (f_regHost ob0), .int (f_regPort ob0), .int (f_regExt ob0)], .inr (.inl (.boolean, (List.replicate 16 0))), .inr (.inl (.boolean, (List.replicate 16 0))), .inr (.inl (.int, (List.replicate 16 0))), .inr (.inl (.int, (List.replicate 16 0))), .inr (.inl (.int, (List.replicate 16 0))), .inr (.inl (.int, (List.replicate 16 0))), .inr (.inl (.int, (List.replicate 16 0))), .inr (.inl (.int, (List.replicate 16 0))), .inr (.inr (List.replicate 64 0))])) rfl ?_
  refine QTri.steps Ad W 3 (st' := (143, [some (.ref 1), some (.int x1), some (.int x2), some (.int x3), some (.int x4)], [], [.inr (.inl (.int, s)), .inl [.ref 2, .ref 3, .ref 4, .ref 5, .ref 6, .ref 7, .ref 8, .ref 9, .ref 10, .int r3, .int r4, .int r5, .int r6, .int (0 : Int32), .int (0 : Int32), .int (0 : Int32), .int (f_regHost ob0), .int (f_regPort ob0), .int (f_regExt ob0)], .inr (.inl (.boolean, (List.replicate 16 0))), .inr (.inl (.boolean, (List.replicate 16 0))), .inr (.inl (.int, (List.replicate 16 0))), .inr (.inl (.int, (List.replicate 16 0))), .inr (.inl (.int, (List.replicate 16 0))), .inr (.inl (.int, (List.replicate 16 0))), .inr (.inl (.int, (List.replicate 16 0))), .inr (.inl (.int, (List.replicate 16 0))), .inr (.inr (List.replicate 64 0))])) rfl ?_
  refine QTri.steps Ad W 3 (st' := (148, [some (.ref 1), some (.int x1), some (.int x2), some (.int x3), some (.int x4)], [], [.inr (.inl (.int, s)), .inl [.ref 2, .ref 3, .ref 4, .ref 5, .ref 6, .ref 7, .ref 8, .ref 9, .ref 10, .int r3, .int r4, .int r5, .int r6, .int (0 : Int32), .int (0 : Int32), .int (0 : Int32), .int (-1 : Int32), .int (f_regPort ob0), .int (f_regExt ob0)], .inr (.inl (.boolean, (List.replicate 16 0))), .inr (.inl (.boolean, (List.replicate 16 0))), .inr (.inl (.int, (List.replicate 16 0))), .inr (.inl (.int, (List.replicate 16 0))), .inr (.inl (.int, (List.replicate 16 0))), .inr (.inl (.int, (List.replicate 16 0))), .inr (.inl (.int, (List.replicate 16 0))), .inr (.inl (.int, (List.replicate 16 0))), .inr (.inr (List.replicate 64 0))])) rfl ?_
  refine QTri.steps Ad W 3 (st' := (153, [some (.ref 1), some (.int x1), some (.int x2), some (.int x3), some (.int x4)], [], [.inr (.inl (.int, s)), .inl [.ref 2, .ref 3, .ref 4, .ref 5, .ref 6, .ref 7, .ref 8, .ref 9, .ref 10, .int r3, .int r4, .int r5, .int r6, .int (0 : Int32), .int (0 : Int32), .int (0 : Int32), .int (-1 : Int32), .int (-1 : Int32), .int (f_regExt ob0)], .inr (.inl (.boolean, (List.replicate 16 0))), .inr (.inl (.boolean, (List.replicate 16 0))), .inr (.inl (.int, (List.replicate 16 0))), .inr (.inl (.int, (List.replicate 16 0))), .inr (.inl (.int, (List.replicate 16 0))), .inr (.inl (.int, (List.replicate 16 0))), .inr (.inl (.int, (List.replicate 16 0))), .inr (.inl (.int, (List.replicate 16 0))), .inr (.inr (List.replicate 64 0))])) rfl ?_
  refine QTri.steps Ad W 3 (st' := (158, [some (.ref 1), some (.int x1), some (.int x2), some (.int x3), some (.int x4)], [], [.inr (.inl (.int, s)), .inl [.ref 2, .ref 3, .ref 4, .ref 5, .ref 6, .ref 7, .ref 8, .ref 9, .ref 10, .int r3, .int r4, .int r5, .int r6, .int (0 : Int32), .int (0 : Int32), .int (0 : Int32), .int (-1 : Int32), .int (-1 : Int32), .int (-1 : Int32)], .inr (.inl (.boolean, (List.replicate 16 0))), .inr (.inl (.boolean, (List.replicate 16 0))), .inr (.inl (.int, (List.replicate 16 0))), .inr (.inl (.int, (List.replicate 16 0))), .inr (.inl (.int, (List.replicate 16 0))), .inr (.inl (.int, (List.replicate 16 0))), .inr (.inl (.int, (List.replicate 16 0))), .inr (.inl (.int, (List.replicate 16 0))), .inr (.inr (List.replicate 64 0))])) rfl ?_
  have E7 : ([.inr (.inl (.int, s)), .inl [.ref 2, .ref 3, .ref 4, .ref 5, .ref 6, .ref 7, .ref 8, .ref 9, .ref 10, .int r3, .int r4, .int r5, .int r6, .int (0 : Int32), .int (0 : Int32), .int (0 : Int32), .int (-1 : Int32), .int (-1 : Int32), .int (-1 : Int32)], .inr (.inl (.boolean, (List.replicate 16 0))), .inr (.inl (.boolean, (List.replicate 16 0))), .inr (.inl (.int, (List.replicate 16 0))), .inr (.inl (.int, (List.replicate 16 0))), .inr (.inl (.int, (List.replicate 16 0))), .inr (.inl (.int, (List.replicate 16 0))), .inr (.inl (.int, (List.replicate 16 0))), .inr (.inl (.int, (List.replicate 16 0))), .inr (.inr (List.replicate 64 0))] : QHeap) = (H0 s (s_regExt (s_regPort (s_regHost (s_remPort (s_remAddr (s_clock (s_cooldown (s_tcpTimeout (s_udpTimeout (s_poolSize (s_perm (s_deadlineAt (s_stateAt (s_iportOf (s_hostOf (s_protoOf (s_freedAt (s_used (s_live ob0 (List.replicate 16 0)) (List.replicate 16 0)) (List.replicate 16 0)) (List.replicate 16 0)) (List.replicate 16 0)) (List.replicate 16 0)) (List.replicate 16 0)) (List.replicate 16 0)) (List.replicate 64 0)) r3) r4) r5) r6) (0 : Int32)) (0 : Int32)) (0 : Int32)) (-1 : Int32)) (-1 : Int32)) (-1 : Int32))) := by dsimp only [H0, f_live, f_used, f_freedAt, f_protoOf, f_hostOf, f_iportOf, f_stateAt, f_deadlineAt, f_perm, f_poolSize, f_udpTimeout, f_tcpTimeout, f_cooldown, f_clock, f_remAddr, f_remPort, f_regHost, f_regPort, f_regExt, s_live, s_used, s_freedAt, s_protoOf, s_hostOf, s_iportOf, s_stateAt, s_deadlineAt, s_perm, s_poolSize, s_udpTimeout, s_tcpTimeout, s_cooldown, s_clock, s_remAddr, s_remPort, s_regHost, s_regPort, s_regExt, ob0]
  rw [E7]
  obtain rfl := Option.some.inj h
  exact QTri.ret0 rfl rfl
/-- now()I -/
def F4 (o : Ob) : Option (Int32) :=
  some (f_clock o)
theorem tF4 (Ad : QAd n0 ad) (W : QW Z a0) (s : List Int32) (o : Ob) {r : Int32} (h : F4 o = some r) : QTri l Z n0 ad 4 (0, qentry [.ref 1] (pMaxL 4), [], (H0 s o)) (some (Value.int r)) (H0 s o) := by
  unfold F4 at h
  refine QTri.steps Ad W 2 (st' := (4, [some (.ref 1)], [.int (f_clock o)], (H0 s o))) rfl ?_
  obtain rfl := Option.some.inj h
  exact QTri.retI rfl rfl
def B5_4 (o : Ob) (v : Int32 × Int32) : Option (((Int32)) ⊕ (Int32 × Int32)) :=
  (if v.2 < (f_poolSize o) then (aget (f_live o) v.2).bind fun y23 => some (.inr ((if y23 = (0 : Int32) then v.1 else (v.1 + (1 : Int32))), (v.2 + (1 : Int32)))) else some (.inl v.1))
theorem tB5_4 (Ad : QAd n0 ad) (W : QW Z a0) (s : List Int32) (o : Ob) (v : Int32 × Int32) {r : ((Int32)) ⊕ (Int32 × Int32)} {u : Option Value} {τ : QHeap} (h : B5_4 o v = some r) (hx0 : ∀ x : Int32, r = .inl x → u = (some (Value.int x)) ∧ τ = (H0 s o)) (hc : ∀ x : Int32 × Int32, r = .inr x → QTri l Z n0 ad 5 (4, [some (.ref 1), some (.int x.1), some (.int x.2)], [], (H0 s o)) u τ) : QTri l Z n0 ad 5 (4, [some (.ref 1), some (.int v.1), some (.int v.2)], [], (H0 s o)) u τ := by
  unfold B5_4 at h
  refine QTri.steps Ad W 3 (st' := (9, [some (.ref 1), some (.int v.1), some (.int v.2)], [.int (f_poolSize o), .int v.2], (H0 s o))) rfl ?_
  rcases qite h with ⟨hc22, h⟩ | ⟨hc22, h⟩
  · refine QTri.brF Ad W (t := 30) (f := 12) (L := [some (.ref 1), some (.int v.1), some (.int v.2)]) (S := []) (σ := (H0 s o)) rfl (XT.ii_ge_f hc22) ?_
    refine QTri.steps Ad W 3 (st' := (17, [some (.ref 1), some (.int v.1), some (.int v.2)], [.int v.2, .ref 2], (H0 s o))) rfl ?_
    obtain ⟨y23, hy23, h⟩ := Option.bind_eq_some_iff.mp h
    refine QTri.bnd Ad W (f := fun y23 => (18, [some (.ref 1), some (.int v.1), some (.int v.2)], [.int y23], (H0 s o))) rfl hy23 ?_
    have K25 : ∀ z24 : Int32, z24 = (if y23 = (0 : Int32) then v.1 else (v.1 + (1 : Int32))) → QTri l Z n0 ad 5 (24, [some (.ref 1), some (.int z24), some (.int v.2)], [], (H0 s o)) u τ := by
      intro z24 ez24
      subst ez24
      refine QTri.steps Ad W 2 (st' := (4, [some (.ref 1), some (.int (if y23 = (0 : Int32) then v.1 else (v.1 + (1 : Int32)))), some (.int (v.2 + (1 : Int32)))], [], (H0 s o))) rfl ?_
      obtain rfl := Option.some.inj h
      exact QTri.mask [true, true, true] (hc ((if y23 = (0 : Int32) then v.1 else (v.1 + (1 : Int32))), (v.2 + (1 : Int32))) rfl)
    rcases Classical.em (y23 = (0 : Int32)) with hc26 | hc26
    · refine QTri.brT Ad W (t := 24) (f := 21) (L := [some (.ref 1), some (.int v.1), some (.int v.2)]) (S := []) (σ := (H0 s o)) rfl (XT.i0_eq_t hc26) ?_
      exact QTri.mask [true, true, true] (K25 _ (if_pos hc26).symm)
    · refine QTri.brF Ad W (t := 24) (f := 21) (L := [some (.ref 1), some (.int v.1), some (.int v.2)]) (S := []) (σ := (H0 s o)) rfl (XT.i0_eq_f hc26) ?_
      refine QTri.steps Ad W 1 (st' := (24, [some (.ref 1), some (.int (v.1 + (1 : Int32))), some (.int v.2)], [], (H0 s o))) rfl ?_
      exact QTri.mask [true, true, true] (K25 _ (if_neg hc26).symm)
  · refine QTri.brT Ad W (t := 30) (f := 12) (L := [some (.ref 1), some (.int v.1), some (.int v.2)]) (S := []) (σ := (H0 s o)) rfl (XT.ii_ge_t hc22) ?_
    refine QTri.steps Ad W 1 (st' := (31, [some (.ref 1), some (.int v.1), some (.int v.2)], [.int v.1], (H0 s o))) rfl ?_
    obtain rfl := Option.some.inj h
    obtain ⟨rfl, rfl⟩ := hx0 v.1 rfl
    exact QTri.retI rfl rfl
/-- liveCount()I -/
def F5 (o : Ob) : Option (Int32) :=
  (loopN (B5_4 o) qN ((0 : Int32), (0 : Int32))).bind fun e27 => some e27
theorem tF5 (Ad : QAd n0 ad) (W : QW Z a0) (s : List Int32) (o : Ob) {r : Int32} (h : F5 o = some r) : QTri l Z n0 ad 5 (0, qentry [.ref 1] (pMaxL 5), [], (H0 s o)) (some (Value.int r)) (H0 s o) := by
  unfold F5 at h
  refine QTri.steps Ad W 4 (st' := (4, [some (.ref 1), some (.int (0 : Int32)), some (.int (0 : Int32))], [], (H0 s o))) rfl ?_
  obtain ⟨e27, he27, h⟩ := Option.bind_eq_some_iff.mp h
  refine QTri.mask [true, true, true] (loopN_tri (B := B5_4 o) (T := fun lv28 => QTri l Z n0 ad 5 (4, [some (.ref 1), some (.int lv28.1), some (.int lv28.2)], [], (H0 s o)) (some (Value.int r)) (H0 s o)) (KE := fun e27a => (some (Value.int r)) = (some (Value.int e27a)) ∧ (H0 s o) = (H0 s o)) (fun lv28 r hB hE hC => tB5_4 Ad W s o lv28 hB (fun x q => hE _ q) (fun x q => hC x q)) qN ((0 : Int32), (0 : Int32)) e27 he27 ?_)
  obtain rfl := Option.some.inj h
  exact ⟨rfl, rfl⟩
/-- resultHost()I -/
def F6 (o : Ob) : Option (Int32) :=
  some (f_regHost o)
theorem tF6 (Ad : QAd n0 ad) (W : QW Z a0) (s : List Int32) (o : Ob) {r : Int32} (h : F6 o = some r) : QTri l Z n0 ad 6 (0, qentry [.ref 1] (pMaxL 6), [], (H0 s o)) (some (Value.int r)) (H0 s o) := by
  unfold F6 at h
  refine QTri.steps Ad W 2 (st' := (4, [some (.ref 1)], [.int (f_regHost o)], (H0 s o))) rfl ?_
  obtain rfl := Option.some.inj h
  exact QTri.retI rfl rfl
/-- resultPort()I -/
def F7 (o : Ob) : Option (Int32) :=
  some (f_regPort o)
theorem tF7 (Ad : QAd n0 ad) (W : QW Z a0) (s : List Int32) (o : Ob) {r : Int32} (h : F7 o = some r) : QTri l Z n0 ad 7 (0, qentry [.ref 1] (pMaxL 7), [], (H0 s o)) (some (Value.int r)) (H0 s o) := by
  unfold F7 at h
  refine QTri.steps Ad W 2 (st' := (4, [some (.ref 1)], [.int (f_regPort o)], (H0 s o))) rfl ?_
  obtain rfl := Option.some.inj h
  exact QTri.retI rfl rfl
/-- resultExt()I -/
def F8 (o : Ob) : Option (Int32) :=
  some (f_regExt o)
theorem tF8 (Ad : QAd n0 ad) (W : QW Z a0) (s : List Int32) (o : Ob) {r : Int32} (h : F8 o = some r) : QTri l Z n0 ad 8 (0, qentry [.ref 1] (pMaxL 8), [], (H0 s o)) (some (Value.int r)) (H0 s o) := by
  unfold F8 at h
  refine QTri.steps Ad W 2 (st' := (4, [some (.ref 1)], [.int (f_regExt o)], (H0 s o))) rfl ?_
  obtain rfl := Option.some.inj h
  exact QTri.retI rfl rfl
/-- slotOf(I)I -/
def F11 (o : Ob) (x1 : Int32) : Option (Int32) :=
  (if x1 < (5000 : Int32) then some (-1 : Int32) else (if x1 < ((5000 : Int32) + (f_poolSize o)) then some (x1 - (5000 : Int32)) else some (-1 : Int32)))
theorem tF11 (Ad : QAd n0 ad) (W : QW Z a0) (s : List Int32) (o : Ob) (x1 : Int32) {r : Int32} (h : F11 o x1 = some r) : QTri l Z n0 ad 11 (0, qentry [.ref 1, .int x1] (pMaxL 11), [], (H0 s o)) (some (Value.int r)) (H0 s o) := by
  unfold F11 at h
  refine QTri.steps Ad W 2 (st' := (4, [some (.ref 1), some (.int x1)], [.int (5000 : Int32), .int x1], (H0 s o))) rfl ?_
  rcases qite h with ⟨hc34, h⟩ | ⟨hc34, h⟩
  · refine QTri.brT Ad W (t := 19) (f := 7) (L := [some (.ref 1), some (.int x1)]) (S := []) (σ := (H0 s o)) rfl (XT.ii_lt_t hc34) ?_
    refine QTri.steps Ad W 1 (st' := (20, [some (.ref 1), some (.int x1)], [.int (-1 : Int32)], (H0 s o))) rfl ?_
    obtain rfl := Option.some.inj h
    exact QTri.retI rfl rfl
  · refine QTri.brF Ad W (t := 19) (f := 7) (L := [some (.ref 1), some (.int x1)]) (S := []) (σ := (H0 s o)) rfl (XT.ii_lt_f hc34) ?_
    refine QTri.steps Ad W 5 (st' := (16, [some (.ref 1), some (.int x1)], [.int ((5000 : Int32) + (f_poolSize o)), .int x1], (H0 s o))) rfl ?_
    rcases qite h with ⟨hc35, h⟩ | ⟨hc35, h⟩
    · refine QTri.brT Ad W (t := 21) (f := 19) (L := [some (.ref 1), some (.int x1)]) (S := []) (σ := (H0 s o)) rfl (XT.ii_lt_t hc35) ?_
      refine QTri.steps Ad W 3 (st' := (26, [some (.ref 1), some (.int x1)], [.int (x1 - (5000 : Int32))], (H0 s o))) rfl ?_
      obtain rfl := Option.some.inj h
      exact QTri.retI rfl rfl
    · refine QTri.brF Ad W (t := 21) (f := 19) (L := [some (.ref 1), some (.int x1)]) (S := []) (σ := (H0 s o)) rfl (XT.ii_lt_f hc35) ?_
      refine QTri.steps Ad W 1 (st' := (20, [some (.ref 1), some (.int x1)], [.int (-1 : Int32)], (H0 s o))) rfl ?_
      obtain rfl := Option.some.inj h
      exact QTri.retI rfl rfl
/-- liveAt(I)I -/
def F10 (o : Ob) (x1 : Int32) : Option (Int32) :=
  (F11 o x1).bind fun r36 => (if r36 < (0 : Int32) then some (-1 : Int32) else (aget (f_live o) r36).bind fun y38 => (if y38 = (0 : Int32) then some (-1 : Int32) else some r36))
theorem tF10 (Ad : QAd n0 ad) (W : QW Z a0) (s : List Int32) (o : Ob) (x1 : Int32) {r : Int32} (h : F10 o x1 = some r) : QTri l Z n0 ad 10 (0, qentry [.ref 1, .int x1] (pMaxL 10), [], (H0 s o)) (some (Value.int r)) (H0 s o) := by
  unfold F10 at h
  refine QTri.steps Ad W 2 (st' := (2, [some (.ref 1), some (.int x1), none], [.int x1, .ref 1], (H0 s o))) rfl ?_
  obtain ⟨r36, hr36, h⟩ := Option.bind_eq_some_iff.mp h
  refine QTri.callP W (a := 1) (as := [.int x1]) (rest := []) (w := (some (.int r36))) (σ₁ := (H0 s o)) rfl rfl rfl rfl rfl rfl rfl rfl (tF11 Ad W s o x1 hr36) ?_
  refine QTri.steps Ad W 2 (st' := (7, [some (.ref 1), some (.int x1), some (.int r36)], [.int r36], (H0 s o))) rfl ?_
  rcases qite h with ⟨hc37, h⟩ | ⟨hc37, h⟩
  · refine QTri.brT Ad W (t := 19) (f := 10) (L := [some (.ref 1), some (.int x1), some (.int r36)]) (S := []) (σ := (H0 s o)) rfl (XT.i0_lt_t hc37) ?_
    refine QTri.steps Ad W 1 (st' := (20, [some (.ref 1), some (.int x1), some (.int r36)], [.int (-1 : Int32)], (H0 s o))) rfl ?_
    obtain rfl := Option.some.inj h
    exact QTri.retI rfl rfl
  · refine QTri.brF Ad W (t := 19) (f := 10) (L := [some (.ref 1), some (.int x1), some (.int r36)]) (S := []) (σ := (H0 s o)) rfl (XT.i0_lt_f hc37) ?_
    refine QTri.steps Ad W 3 (st' := (15, [some (.ref 1), some (.int x1), some (.int r36)], [.int r36, .ref 2], (H0 s o))) rfl ?_
    obtain ⟨y38, hy38, h⟩ := Option.bind_eq_some_iff.mp h
    refine QTri.bnd Ad W (f := fun y38 => (16, [some (.ref 1), some (.int x1), some (.int r36)], [.int y38], (H0 s o))) rfl hy38 ?_
    rcases qite h with ⟨hc39, h⟩ | ⟨hc39, h⟩
    · refine QTri.brF Ad W (t := 21) (f := 19) (L := [some (.ref 1), some (.int x1), some (.int r36)]) (S := []) (σ := (H0 s o)) rfl (XT.i0_ne_f hc39) ?_
      refine QTri.steps Ad W 1 (st' := (20, [some (.ref 1), some (.int x1), some (.int r36)], [.int (-1 : Int32)], (H0 s o))) rfl ?_
      obtain rfl := Option.some.inj h
      exact QTri.retI rfl rfl
    · refine QTri.brT Ad W (t := 21) (f := 19) (L := [some (.ref 1), some (.int x1), some (.int r36)]) (S := []) (σ := (H0 s o)) rfl (XT.i0_ne_t hc39) ?_
      refine QTri.steps Ad W 1 (st' := (22, [some (.ref 1), some (.int x1), some (.int r36)], [.int r36], (H0 s o))) rfl ?_
      obtain rfl := Option.some.inj h
      exact QTri.retI rfl rfl
/-- insideHostOf(I)I -/
def F9 (o : Ob) (x1 : Int32) : Option (Int32) :=
  (F10 o x1).bind fun r40 => (if r40 < (0 : Int32) then some (-1 : Int32) else (aget (f_hostOf o) r40).bind fun y42 => some y42)
theorem tF9 (Ad : QAd n0 ad) (W : QW Z a0) (s : List Int32) (o : Ob) (x1 : Int32) {r : Int32} (h : F9 o x1 = some r) : QTri l Z n0 ad 9 (0, qentry [.ref 1, .int x1] (pMaxL 9), [], (H0 s o)) (some (Value.int r)) (H0 s o) := by
  unfold F9 at h
  refine QTri.steps Ad W 2 (st' := (2, [some (.ref 1), some (.int x1), none], [.int x1, .ref 1], (H0 s o))) rfl ?_
  obtain ⟨r40, hr40, h⟩ := Option.bind_eq_some_iff.mp h
  refine QTri.callP W (a := 1) (as := [.int x1]) (rest := []) (w := (some (.int r40))) (σ₁ := (H0 s o)) rfl rfl rfl rfl rfl rfl rfl rfl (tF10 Ad W s o x1 hr40) ?_
  refine QTri.steps Ad W 2 (st' := (7, [some (.ref 1), some (.int x1), some (.int r40)], [.int r40], (H0 s o))) rfl ?_
  rcases qite h with ⟨hc41, h⟩ | ⟨hc41, h⟩
  · refine QTri.brF Ad W (t := 12) (f := 10) (L := [some (.ref 1), some (.int x1), some (.int r40)]) (S := []) (σ := (H0 s o)) rfl (XT.i0_ge_f hc41) ?_
    refine QTri.steps Ad W 1 (st' := (11, [some (.ref 1), some (.int x1), some (.int r40)], [.int (-1 : Int32)], (H0 s o))) rfl ?_
    obtain rfl := Option.some.inj h
    exact QTri.retI rfl rfl
  · refine QTri.brT Ad W (t := 12) (f := 10) (L := [some (.ref 1), some (.int x1), some (.int r40)]) (S := []) (σ := (H0 s o)) rfl (XT.i0_ge_t hc41) ?_
    refine QTri.steps Ad W 3 (st' := (17, [some (.ref 1), some (.int x1), some (.int r40)], [.int r40, .ref 6], (H0 s o))) rfl ?_
    obtain ⟨y42, hy42, h⟩ := Option.bind_eq_some_iff.mp h
    refine QTri.bnd Ad W (f := fun y42 => (18, [some (.ref 1), some (.int x1), some (.int r40)], [.int y42], (H0 s o))) rfl hy42 ?_
    obtain rfl := Option.some.inj h
    exact QTri.retI rfl rfl
/-- insidePortOf(I)I -/
def F12 (o : Ob) (x1 : Int32) : Option (Int32) :=
  (F10 o x1).bind fun r44 => (if r44 < (0 : Int32) then some (-1 : Int32) else (aget (f_iportOf o) r44).bind fun y46 => some y46)
theorem tF12 (Ad : QAd n0 ad) (W : QW Z a0) (s : List Int32) (o : Ob) (x1 : Int32) {r : Int32} (h : F12 o x1 = some r) : QTri l Z n0 ad 12 (0, qentry [.ref 1, .int x1] (pMaxL 12), [], (H0 s o)) (some (Value.int r)) (H0 s o) := by
  unfold F12 at h
  refine QTri.steps Ad W 2 (st' := (2, [some (.ref 1), some (.int x1), none], [.int x1, .ref 1], (H0 s o))) rfl ?_
  obtain ⟨r44, hr44, h⟩ := Option.bind_eq_some_iff.mp h
  refine QTri.callP W (a := 1) (as := [.int x1]) (rest := []) (w := (some (.int r44))) (σ₁ := (H0 s o)) rfl rfl rfl rfl rfl rfl rfl rfl (tF10 Ad W s o x1 hr44) ?_
  refine QTri.steps Ad W 2 (st' := (7, [some (.ref 1), some (.int x1), some (.int r44)], [.int r44], (H0 s o))) rfl ?_
  rcases qite h with ⟨hc45, h⟩ | ⟨hc45, h⟩
  · refine QTri.brF Ad W (t := 12) (f := 10) (L := [some (.ref 1), some (.int x1), some (.int r44)]) (S := []) (σ := (H0 s o)) rfl (XT.i0_ge_f hc45) ?_
    refine QTri.steps Ad W 1 (st' := (11, [some (.ref 1), some (.int x1), some (.int r44)], [.int (-1 : Int32)], (H0 s o))) rfl ?_
    obtain rfl := Option.some.inj h
    exact QTri.retI rfl rfl
  · refine QTri.brT Ad W (t := 12) (f := 10) (L := [some (.ref 1), some (.int x1), some (.int r44)]) (S := []) (σ := (H0 s o)) rfl (XT.i0_ge_t hc45) ?_
    refine QTri.steps Ad W 3 (st' := (17, [some (.ref 1), some (.int x1), some (.int r44)], [.int r44, .ref 7], (H0 s o))) rfl ?_
    obtain ⟨y46, hy46, h⟩ := Option.bind_eq_some_iff.mp h
    refine QTri.bnd Ad W (f := fun y46 => (18, [some (.ref 1), some (.int x1), some (.int r44)], [.int y46], (H0 s o))) rfl hy46 ?_
    obtain rfl := Option.some.inj h
    exact QTri.retI rfl rfl
/-- stateOf(I)I -/
def F13 (o : Ob) (x1 : Int32) : Option (Int32) :=
  (F10 o x1).bind fun r48 => (if r48 < (0 : Int32) then some (-1 : Int32) else (aget (f_stateAt o) r48).bind fun y50 => some y50)
theorem tF13 (Ad : QAd n0 ad) (W : QW Z a0) (s : List Int32) (o : Ob) (x1 : Int32) {r : Int32} (h : F13 o x1 = some r) : QTri l Z n0 ad 13 (0, qentry [.ref 1, .int x1] (pMaxL 13), [], (H0 s o)) (some (Value.int r)) (H0 s o) := by
  unfold F13 at h
  refine QTri.steps Ad W 2 (st' := (2, [some (.ref 1), some (.int x1), none], [.int x1, .ref 1], (H0 s o))) rfl ?_
  obtain ⟨r48, hr48, h⟩ := Option.bind_eq_some_iff.mp h
  refine QTri.callP W (a := 1) (as := [.int x1]) (rest := []) (w := (some (.int r48))) (σ₁ := (H0 s o)) rfl rfl rfl rfl rfl rfl rfl rfl (tF10 Ad W s o x1 hr48) ?_
  refine QTri.steps Ad W 2 (st' := (7, [some (.ref 1), some (.int x1), some (.int r48)], [.int r48], (H0 s o))) rfl ?_
  rcases qite h with ⟨hc49, h⟩ | ⟨hc49, h⟩
  · refine QTri.brF Ad W (t := 12) (f := 10) (L := [some (.ref 1), some (.int x1), some (.int r48)]) (S := []) (σ := (H0 s o)) rfl (XT.i0_ge_f hc49) ?_
    refine QTri.steps Ad W 1 (st' := (11, [some (.ref 1), some (.int x1), some (.int r48)], [.int (-1 : Int32)], (H0 s o))) rfl ?_
    obtain rfl := Option.some.inj h
    exact QTri.retI rfl rfl
  · refine QTri.brT Ad W (t := 12) (f := 10) (L := [some (.ref 1), some (.int x1), some (.int r48)]) (S := []) (σ := (H0 s o)) rfl (XT.i0_ge_t hc49) ?_
    refine QTri.steps Ad W 3 (st' := (17, [some (.ref 1), some (.int x1), some (.int r48)], [.int r48, .ref 8], (H0 s o))) rfl ?_
    obtain ⟨y50, hy50, h⟩ := Option.bind_eq_some_iff.mp h
    refine QTri.bnd Ad W (f := fun y50 => (18, [some (.ref 1), some (.int x1), some (.int r48)], [.int y50], (H0 s o))) rfl hy50 ?_
    obtain rfl := Option.some.inj h
    exact QTri.retI rfl rfl
/-- deadlineOf(I)I -/
def F14 (o : Ob) (x1 : Int32) : Option (Int32) :=
  (F10 o x1).bind fun r52 => (if r52 < (0 : Int32) then some (-1 : Int32) else (aget (f_deadlineAt o) r52).bind fun y54 => some y54)
theorem tF14 (Ad : QAd n0 ad) (W : QW Z a0) (s : List Int32) (o : Ob) (x1 : Int32) {r : Int32} (h : F14 o x1 = some r) : QTri l Z n0 ad 14 (0, qentry [.ref 1, .int x1] (pMaxL 14), [], (H0 s o)) (some (Value.int r)) (H0 s o) := by
  unfold F14 at h
  refine QTri.steps Ad W 2 (st' := (2, [some (.ref 1), some (.int x1), none], [.int x1, .ref 1], (H0 s o))) rfl ?_
  obtain ⟨r52, hr52, h⟩ := Option.bind_eq_some_iff.mp h
  refine QTri.callP W (a := 1) (as := [.int x1]) (rest := []) (w := (some (.int r52))) (σ₁ := (H0 s o)) rfl rfl rfl rfl rfl rfl rfl rfl (tF10 Ad W s o x1 hr52) ?_
  refine QTri.steps Ad W 2 (st' := (7, [some (.ref 1), some (.int x1), some (.int r52)], [.int r52], (H0 s o))) rfl ?_
  rcases qite h with ⟨hc53, h⟩ | ⟨hc53, h⟩
  · refine QTri.brF Ad W (t := 12) (f := 10) (L := [some (.ref 1), some (.int x1), some (.int r52)]) (S := []) (σ := (H0 s o)) rfl (XT.i0_ge_f hc53) ?_
    refine QTri.steps Ad W 1 (st' := (11, [some (.ref 1), some (.int x1), some (.int r52)], [.int (-1 : Int32)], (H0 s o))) rfl ?_
    obtain rfl := Option.some.inj h
    exact QTri.retI rfl rfl
  · refine QTri.brT Ad W (t := 12) (f := 10) (L := [some (.ref 1), some (.int x1), some (.int r52)]) (S := []) (σ := (H0 s o)) rfl (XT.i0_ge_t hc53) ?_
    refine QTri.steps Ad W 3 (st' := (17, [some (.ref 1), some (.int x1), some (.int r52)], [.int r52, .ref 9], (H0 s o))) rfl ?_
    obtain ⟨y54, hy54, h⟩ := Option.bind_eq_some_iff.mp h
    refine QTri.bnd Ad W (f := fun y54 => (18, [some (.ref 1), some (.int x1), some (.int r52)], [.int y54], (H0 s o))) rfl hy54 ?_
    obtain rfl := Option.some.inj h
    exact QTri.retI rfl rfl
/-- availTime(I)I -/
def F17 (o : Ob) (x1 : Int32) : Option (Int32) :=
  (aget (f_used o) x1).bind fun y60 => (if y60 = (0 : Int32) then some (0 : Int32) else (aget (f_freedAt o) x1).bind fun y62 => some (y62 + (f_cooldown o)))
theorem tF17 (Ad : QAd n0 ad) (W : QW Z a0) (s : List Int32) (o : Ob) (x1 : Int32) {r : Int32} (h : F17 o x1 = some r) : QTri l Z n0 ad 17 (0, qentry [.ref 1, .int x1] (pMaxL 17), [], (H0 s o)) (some (Value.int r)) (H0 s o) := by
  unfold F17 at h
  refine QTri.steps Ad W 3 (st' := (5, [some (.ref 1), some (.int x1)], [.int x1, .ref 3], (H0 s o))) rfl ?_
  obtain ⟨y60, hy60, h⟩ := Option.bind_eq_some_iff.mp h
  refine QTri.bnd Ad W (f := fun y60 => (6, [some (.ref 1), some (.int x1)], [.int y60], (H0 s o))) rfl hy60 ?_
  rcases qite h with ⟨hc61, h⟩ | ⟨hc61, h⟩
  · refine QTri.brF Ad W (t := 11) (f := 9) (L := [some (.ref 1), some (.int x1)]) (S := []) (σ := (H0 s o)) rfl (XT.i0_ne_f hc61) ?_
    refine QTri.steps Ad W 1 (st' := (10, [some (.ref 1), some (.int x1)], [.int (0 : Int32)], (H0 s o))) rfl ?_
    obtain rfl := Option.some.inj h
    exact QTri.retI rfl rfl
  · refine QTri.brT Ad W (t := 11) (f := 9) (L := [some (.ref 1), some (.int x1)]) (S := []) (σ := (H0 s o)) rfl (XT.i0_ne_t hc61) ?_
    refine QTri.steps Ad W 3 (st' := (16, [some (.ref 1), some (.int x1)], [.int x1, .ref 4], (H0 s o))) rfl ?_
    obtain ⟨y62, hy62, h⟩ := Option.bind_eq_some_iff.mp h
    refine QTri.bnd Ad W (f := fun y62 => (17, [some (.ref 1), some (.int x1)], [.int y62], (H0 s o))) rfl hy62 ?_
    refine QTri.steps Ad W 3 (st' := (22, [some (.ref 1), some (.int x1)], [.int (y62 + (f_cooldown o))], (H0 s o))) rfl ?_
    obtain rfl := Option.some.inj h
    exact QTri.retI rfl rfl
/-- availableFrom(I)I -/
def F15 (o : Ob) (x1 : Int32) : Option (Int32) :=
  (F11 o x1).bind fun r56 => (if r56 < (0 : Int32) then some (-1 : Int32) else (aget (f_live o) r56).bind fun y58 => (if y58 = (0 : Int32) then (F17 o r56).bind fun r63 => some r63 else some (-1 : Int32)))
theorem tF15 (Ad : QAd n0 ad) (W : QW Z a0) (s : List Int32) (o : Ob) (x1 : Int32) {r : Int32} (h : F15 o x1 = some r) : QTri l Z n0 ad 15 (0, qentry [.ref 1, .int x1] (pMaxL 15), [], (H0 s o)) (some (Value.int r)) (H0 s o) := by
  unfold F15 at h
  refine QTri.steps Ad W 2 (st' := (2, [some (.ref 1), some (.int x1), none], [.int x1, .ref 1], (H0 s o))) rfl ?_
  obtain ⟨r56, hr56, h⟩ := Option.bind_eq_some_iff.mp h
  refine QTri.callP W (a := 1) (as := [.int x1]) (rest := []) (w := (some (.int r56))) (σ₁ := (H0 s o)) rfl rfl rfl rfl rfl rfl rfl rfl (tF11 Ad W s o x1 hr56) ?_
  refine QTri.steps Ad W 2 (st' := (7, [some (.ref 1), some (.int x1), some (.int r56)], [.int r56], (H0 s o))) rfl ?_
  rcases qite h with ⟨hc57, h⟩ | ⟨hc57, h⟩
  · refine QTri.brT Ad W (t := 19) (f := 10) (L := [some (.ref 1), some (.int x1), some (.int r56)]) (S := []) (σ := (H0 s o)) rfl (XT.i0_lt_t hc57) ?_
    refine QTri.steps Ad W 1 (st' := (20, [some (.ref 1), some (.int x1), some (.int r56)], [.int (-1 : Int32)], (H0 s o))) rfl ?_
    obtain rfl := Option.some.inj h
    exact QTri.retI rfl rfl
  · refine QTri.brF Ad W (t := 19) (f := 10) (L := [some (.ref 1), some (.int x1), some (.int r56)]) (S := []) (σ := (H0 s o)) rfl (XT.i0_lt_f hc57) ?_
    refine QTri.steps Ad W 3 (st' := (15, [some (.ref 1), some (.int x1), some (.int r56)], [.int r56, .ref 2], (H0 s o))) rfl ?_
    obtain ⟨y58, hy58, h⟩ := Option.bind_eq_some_iff.mp h
    refine QTri.bnd Ad W (f := fun y58 => (16, [some (.ref 1), some (.int x1), some (.int r56)], [.int y58], (H0 s o))) rfl hy58 ?_
    rcases qite h with ⟨hc59, h⟩ | ⟨hc59, h⟩
    · refine QTri.brT Ad W (t := 21) (f := 19) (L := [some (.ref 1), some (.int x1), some (.int r56)]) (S := []) (σ := (H0 s o)) rfl (XT.i0_eq_t hc59) ?_
      refine QTri.steps Ad W 2 (st' := (23, [some (.ref 1), some (.int x1), some (.int r56)], [.int r56, .ref 1], (H0 s o))) rfl ?_
      obtain ⟨r63, hr63, h⟩ := Option.bind_eq_some_iff.mp h
      refine QTri.callP W (a := 1) (as := [.int r56]) (rest := []) (w := (some (.int r63))) (σ₁ := (H0 s o)) rfl rfl rfl rfl rfl rfl rfl rfl (tF17 Ad W s o r56 hr63) ?_
      obtain rfl := Option.some.inj h
      exact QTri.retI rfl rfl
    · refine QTri.brF Ad W (t := 21) (f := 19) (L := [some (.ref 1), some (.int x1), some (.int r56)]) (S := []) (σ := (H0 s o)) rfl (XT.i0_eq_f hc59) ?_
      refine QTri.steps Ad W 1 (st' := (20, [some (.ref 1), some (.int x1), some (.int r56)], [.int (-1 : Int32)], (H0 s o))) rfl ?_
      obtain rfl := Option.some.inj h
      exact QTri.retI rfl rfl
/-- hasPerm(II)Z -/
def F31 (o : Ob) (x1 : Int32) (x2 : Int32) : Option (Int32) :=
  (aget (f_perm o) ((x1 * (4 : Int32)) + ((x2 >>> ((6 : Int32) &&& 31)) &&& (3 : Int32)))).bind fun y70 => (if (y70 &&& ((1 : Int64) <<< ((x2 &&& (63 : Int32)).toInt64 &&& 63))) = (0 : Int64) then some (0 : Int32) else some (1 : Int32))
theorem tF31 (Ad : QAd n0 ad) (W : QW Z a0) (s : List Int32) (o : Ob) (x1 : Int32) (x2 : Int32) {r : Int32} (h : F31 o x1 x2 = some r) : QTri l Z n0 ad 31 (0, qentry [.ref 1, .int x1, .int x2] (pMaxL 31), [], (H0 s o)) (some (Value.int r)) (H0 s o) := by
  unfold F31 at h
  refine QTri.steps Ad W 12 (st' := (15, [some (.ref 1), some (.int x1), some (.int x2), some (.int ((x1 * (4 : Int32)) + ((x2 >>> ((6 : Int32) &&& 31)) &&& (3 : Int32))))], [.ref 10], (H0 s o))) rfl ?_
  refine QTri.steps Ad W 1 (st' := (16, [some (.ref 1), some (.int x1), some (.int x2), some (.int ((x1 * (4 : Int32)) + ((x2 >>> ((6 : Int32) &&& 31)) &&& (3 : Int32))))], [.int ((x1 * (4 : Int32)) + ((x2 >>> ((6 : Int32) &&& 31)) &&& (3 : Int32))), .ref 10], (H0 s o))) rfl ?_
  obtain ⟨y70, hy70, h⟩ := Option.bind_eq_some_iff.mp h
  refine QTri.bnd Ad W (f := fun y70 => (17, [some (.ref 1), some (.int x1), some (.int x2), some (.int ((x1 * (4 : Int32)) + ((x2 >>> ((6 : Int32) &&& 31)) &&& (3 : Int32))))], [.long y70], (H0 s o))) rfl hy70 ?_
  refine QTri.steps Ad W 8 (st' := (26, [some (.ref 1), some (.int x1), some (.int x2), some (.int ((x1 * (4 : Int32)) + ((x2 >>> ((6 : Int32) &&& 31)) &&& (3 : Int32))))], [.int (XT.cmpL (y70 &&& ((1 : Int64) <<< ((x2 &&& (63 : Int32)).toInt64 &&& 63))) (0 : Int64))], (H0 s o))) rfl ?_
  rcases qite h with ⟨hc71, h⟩ | ⟨hc71, h⟩
  · refine QTri.brT Ad W (t := 33) (f := 29) (L := [some (.ref 1), some (.int x1), some (.int x2), some (.int ((x1 * (4 : Int32)) + ((x2 >>> ((6 : Int32) &&& 31)) &&& (3 : Int32))))]) (S := []) (σ := (H0 s o)) rfl (XT.ll_eq_t hc71) ?_
    refine QTri.steps Ad W 1 (st' := (34, [some (.ref 1), some (.int x1), some (.int x2), some (.int ((x1 * (4 : Int32)) + ((x2 >>> ((6 : Int32) &&& 31)) &&& (3 : Int32))))], [.int (0 : Int32)], (H0 s o))) rfl ?_
    obtain rfl := Option.some.inj h
    exact QTri.retZ rfl rfl
  · refine QTri.brF Ad W (t := 33) (f := 29) (L := [some (.ref 1), some (.int x1), some (.int x2), some (.int ((x1 * (4 : Int32)) + ((x2 >>> ((6 : Int32) &&& 31)) &&& (3 : Int32))))]) (S := []) (σ := (H0 s o)) rfl (XT.ll_eq_f hc71) ?_
    refine QTri.steps Ad W 2 (st' := (34, [some (.ref 1), some (.int x1), some (.int x2), some (.int ((x1 * (4 : Int32)) + ((x2 >>> ((6 : Int32) &&& 31)) &&& (3 : Int32))))], [.int (1 : Int32)], (H0 s o))) rfl ?_
    obtain rfl := Option.some.inj h
    exact QTri.retZ rfl rfl
/-- permits(II)Z -/
def F16 (o : Ob) (x1 : Int32) (x2 : Int32) : Option (Int32) :=
  (F10 o x1).bind fun r66 => (if r66 < (0 : Int32) then some (0 : Int32) else (if x2 < (1 : Int32) then some (0 : Int32) else (if (255 : Int32) < x2 then some (0 : Int32) else (F31 o r66 x2).bind fun r72 => some (r72 &&& 1))))
theorem tF16 (Ad : QAd n0 ad) (W : QW Z a0) (s : List Int32) (o : Ob) (x1 : Int32) (x2 : Int32) {r : Int32} (h : F16 o x1 x2 = some r) : QTri l Z n0 ad 16 (0, qentry [.ref 1, .int x1, .int x2] (pMaxL 16), [], (H0 s o)) (some (Value.int r)) (H0 s o) := by
  unfold F16 at h
  refine QTri.steps Ad W 2 (st' := (2, [some (.ref 1), some (.int x1), some (.int x2), none], [.int x1, .ref 1], (H0 s o))) rfl ?_
  obtain ⟨r66, hr66, h⟩ := Option.bind_eq_some_iff.mp h
  refine QTri.callP W (a := 1) (as := [.int x1]) (rest := []) (w := (some (.int r66))) (σ₁ := (H0 s o)) rfl rfl rfl rfl rfl rfl rfl rfl (tF10 Ad W s o x1 hr66) ?_
  refine QTri.steps Ad W 2 (st' := (7, [some (.ref 1), some (.int x1), some (.int x2), some (.int r66)], [.int r66], (H0 s o))) rfl ?_
  rcases qite h with ⟨hc67, h⟩ | ⟨hc67, h⟩
  · refine QTri.brT Ad W (t := 22) (f := 10) (L := [some (.ref 1), some (.int x1), some (.int x2), some (.int r66)]) (S := []) (σ := (H0 s o)) rfl (XT.i0_lt_t hc67) ?_
    refine QTri.steps Ad W 1 (st' := (23, [some (.ref 1), some (.int x1), some (.int x2), some (.int r66)], [.int (0 : Int32)], (H0 s o))) rfl ?_
    obtain rfl := Option.some.inj h
    exact QTri.retZ rfl rfl
  · refine QTri.brF Ad W (t := 22) (f := 10) (L := [some (.ref 1), some (.int x1), some (.int x2), some (.int r66)]) (S := []) (σ := (H0 s o)) rfl (XT.i0_lt_f hc67) ?_
    refine QTri.steps Ad W 2 (st' := (12, [some (.ref 1), some (.int x1), some (.int x2), some (.int r66)], [.int (1 : Int32), .int x2], (H0 s o))) rfl ?_
    rcases qite h with ⟨hc68, h⟩ | ⟨hc68, h⟩
    · refine QTri.brT Ad W (t := 22) (f := 15) (L := [some (.ref 1), some (.int x1), some (.int x2), some (.int r66)]) (S := []) (σ := (H0 s o)) rfl (XT.ii_lt_t hc68) ?_
      refine QTri.steps Ad W 1 (st' := (23, [some (.ref 1), some (.int x1), some (.int x2), some (.int r66)], [.int (0 : Int32)], (H0 s o))) rfl ?_
      obtain rfl := Option.some.inj h
      exact QTri.retZ rfl rfl
    · refine QTri.brF Ad W (t := 22) (f := 15) (L := [some (.ref 1), some (.int x1), some (.int x2), some (.int r66)]) (S := []) (σ := (H0 s o)) rfl (XT.ii_lt_f hc68) ?_
      refine QTri.steps Ad W 2 (st' := (19, [some (.ref 1), some (.int x1), some (.int x2), some (.int r66)], [.int (255 : Int32), .int x2], (H0 s o))) rfl ?_
      rcases qite h with ⟨hc69, h⟩ | ⟨hc69, h⟩
      · refine QTri.brF Ad W (t := 24) (f := 22) (L := [some (.ref 1), some (.int x1), some (.int x2), some (.int r66)]) (S := []) (σ := (H0 s o)) rfl (XT.ii_le_f hc69) ?_
        refine QTri.steps Ad W 1 (st' := (23, [some (.ref 1), some (.int x1), some (.int x2), some (.int r66)], [.int (0 : Int32)], (H0 s o))) rfl ?_
        obtain rfl := Option.some.inj h
        exact QTri.retZ rfl rfl
      · refine QTri.brT Ad W (t := 24) (f := 22) (L := [some (.ref 1), some (.int x1), some (.int x2), some (.int r66)]) (S := []) (σ := (H0 s o)) rfl (XT.ii_le_t hc69) ?_
        refine QTri.steps Ad W 3 (st' := (27, [some (.ref 1), some (.int x1), some (.int x2), some (.int r66)], [.int x2, .int r66, .ref 1], (H0 s o))) rfl ?_
        obtain ⟨r72, hr72, h⟩ := Option.bind_eq_some_iff.mp h
        refine QTri.callP W (a := 1) (as := [.int r66, .int x2]) (rest := []) (w := (some (.int r72))) (σ₁ := (H0 s o)) rfl rfl rfl rfl rfl rfl rfl rfl (tF31 Ad W s o r66 x2 hr72) ?_
        obtain rfl := Option.some.inj h
        exact QTri.retZ rfl rfl
def B3_145 (o : Ob) (x3 : Int32) (v : Int64 × Int32) : Option (((Int64)) ⊕ (Int64 × Int32)) :=
  (if (255 : Int32) < v.2 then some (.inl v.1) else (F16 o x3 v.2).bind fun r73 => some (.inr (((v.1 * (3 : Int64)) + ((if r73 = (0 : Int32) then (0 : Int32) else (1 : Int32)).toInt64)), (v.2 + (1 : Int32)))))
theorem tB3_145 (Ad : QAd n0 ad) (W : QW Z a0) (s : List Int32) (o : Ob) (x3 : Int32) (v : Int64 × Int32) {r : ((Int64)) ⊕ (Int64 × Int32)} {u : Option Value} {τ : QHeap} (h : B3_145 o x3 v = some r) (hx0 : ∀ x : Int64, r = .inl x → QTri l Z n0 ad 3 (182, [some (.ref 1), some (.long x), none, some (.int x3), none], [], (H0 s o)) u τ) (hc : ∀ x : Int64 × Int32, r = .inr x → QTri l Z n0 ad 3 (145, [some (.ref 1), some (.long x.1), none, some (.int x3), some (.int x.2)], [], (H0 s o)) u τ) : QTri l Z n0 ad 3 (145, [some (.ref 1), some (.long v.1), none, some (.int x3), some (.int v.2)], [], (H0 s o)) u τ := by
  unfold B3_145 at h
  refine QTri.steps Ad W 2 (st' := (150, [some (.ref 1), some (.long v.1), none, some (.int x3), some (.int v.2)], [.int (255 : Int32), .int v.2], (H0 s o))) rfl ?_
  rcases qite h with ⟨hc65, h⟩ | ⟨hc65, h⟩
  · refine QTri.brT Ad W (t := 182) (f := 153) (L := [some (.ref 1), some (.long v.1), none, some (.int x3), some (.int v.2)]) (S := []) (σ := (H0 s o)) rfl (XT.ii_gt_t hc65) ?_
    obtain rfl := Option.some.inj h
    exact QTri.mask [true, true, false, true, false] (hx0 v.1 rfl)
  · refine QTri.brF Ad W (t := 182) (f := 153) (L := [some (.ref 1), some (.long v.1), none, some (.int x3), some (.int v.2)]) (S := []) (σ := (H0 s o)) rfl (XT.ii_gt_f hc65) ?_
    refine QTri.steps Ad W 6 (st' := (162, [some (.ref 1), some (.long v.1), none, some (.int x3), some (.int v.2)], [.int v.2, .int x3, .ref 1, .long (v.1 * (3 : Int64))], (H0 s o))) rfl ?_
    obtain ⟨r73, hr73, h⟩ := Option.bind_eq_some_iff.mp h
    refine QTri.callV W (a := 1) (as := [.int x3, .int v.2]) (rest := [.long (v.1 * (3 : Int64))]) (w := (some (.int r73))) (σ₁ := (H0 s o)) rfl rfl rfl rfl rfl rfl rfl rfl (tF16 Ad W s o x3 v.2 hr73) ?_
    have K75 : ∀ z74 : Int32, z74 = (if r73 = (0 : Int32) then (0 : Int32) else (1 : Int32)) → QTri l Z n0 ad 3 (173, [some (.ref 1), none, none, some (.int x3), some (.int v.2)], [.int z74, .long (v.1 * (3 : Int64))], (H0 s o)) u τ := by
      intro z74 ez74
      subst ez74
      refine QTri.steps Ad W 4 (st' := (179, [some (.ref 1), some (.long ((v.1 * (3 : Int64)) + ((if r73 = (0 : Int32) then (0 : Int32) else (1 : Int32)).toInt64))), none, some (.int x3), some (.int (v.2 + (1 : Int32)))], [], (H0 s o))) rfl ?_
      refine QTri.steps Ad W 1 (st' := (145, [some (.ref 1), some (.long ((v.1 * (3 : Int64)) + ((if r73 = (0 : Int32) then (0 : Int32) else (1 : Int32)).toInt64))), none, some (.int x3), some (.int (v.2 + (1 : Int32)))], [], (H0 s o))) rfl ?_
      obtain rfl := Option.some.inj h
      exact QTri.mask [true, true, false, true, true] (hc (((v.1 * (3 : Int64)) + ((if r73 = (0 : Int32) then (0 : Int32) else (1 : Int32)).toInt64)), (v.2 + (1 : Int32))) rfl)
    rcases Classical.em (r73 = (0 : Int32)) with hc76 | hc76
    · refine QTri.brT Ad W (t := 172) (f := 168) (L := [some (.ref 1), some (.long v.1), none, some (.int x3), some (.int v.2)]) (S := [.long (v.1 * (3 : Int64))]) (σ := (H0 s o)) rfl (XT.i0_eq_t hc76) ?_
      refine QTri.steps Ad W 1 (st' := (173, [some (.ref 1), some (.long v.1), none, some (.int x3), some (.int v.2)], [.int (0 : Int32), .long (v.1 * (3 : Int64))], (H0 s o))) rfl ?_
      exact QTri.mask [true, false, false, true, true] (K75 _ (if_pos hc76).symm)
    · refine QTri.brF Ad W (t := 172) (f := 168) (L := [some (.ref 1), some (.long v.1), none, some (.int x3), some (.int v.2)]) (S := [.long (v.1 * (3 : Int64))]) (σ := (H0 s o)) rfl (XT.i0_eq_f hc76) ?_
      refine QTri.steps Ad W 2 (st' := (173, [some (.ref 1), some (.long v.1), none, some (.int x3), some (.int v.2)], [.int (1 : Int32), .long (v.1 * (3 : Int64))], (H0 s o))) rfl ?_
      exact QTri.mask [true, false, false, true, true] (K75 _ (if_neg hc76).symm)
def B3_68 (o : Ob) (v : Int64 × Int32) : Option (((Int64)) ⊕ (Int64 × Int32)) :=
  (if (5004 : Int32) < v.2 then some (.inl v.1) else (F9 o v.2).bind fun r43 => (F12 o v.2).bind fun r47 => (F13 o v.2).bind fun r51 => (F14 o v.2).bind fun r55 => (F15 o v.2).bind fun r64 => (loopN (B3_145 o v.2) qN (((((((((((v.1 * (1000003 : Int64)) + (r43.toInt64)) * (1000003 : Int64)) + (r47.toInt64)) * (1000003 : Int64)) + (r51.toInt64)) * (1000003 : Int64)) + (r55.toInt64)) * (1000003 : Int64)) + (r64.toInt64)), (250 : Int32))).bind fun e77 => some (.inr (e77, (v.2 + (1 : Int32)))))
theorem tB3_68 (Ad : QAd n0 ad) (W : QW Z a0) (s : List Int32) (o : Ob) (v : Int64 × Int32) {r : ((Int64)) ⊕ (Int64 × Int32)} {u : Option Value} {τ : QHeap} (h : B3_68 o v = some r) (hx0 : ∀ x : Int64, r = .inl x → u = (some (Value.long x)) ∧ τ = (H0 s o)) (hc : ∀ x : Int64 × Int32, r = .inr x → QTri l Z n0 ad 3 (68, [some (.ref 1), some (.long x.1), none, some (.int x.2), none], [], (H0 s o)) u τ) : QTri l Z n0 ad 3 (68, [some (.ref 1), some (.long v.1), none, some (.int v.2), none], [], (H0 s o)) u τ := by
  unfold B3_68 at h
  refine QTri.steps Ad W 2 (st' := (72, [some (.ref 1), some (.long v.1), none, some (.int v.2), none], [.int (5004 : Int32), .int v.2], (H0 s o))) rfl ?_
  rcases qite h with ⟨hc33, h⟩ | ⟨hc33, h⟩
  · refine QTri.brT Ad W (t := 188) (f := 75) (L := [some (.ref 1), some (.long v.1), none, some (.int v.2), none]) (S := []) (σ := (H0 s o)) rfl (XT.ii_gt_t hc33) ?_
    refine QTri.steps Ad W 1 (st' := (189, [some (.ref 1), some (.long v.1), none, some (.int v.2), none], [.long v.1], (H0 s o))) rfl ?_
    obtain rfl := Option.some.inj h
    obtain ⟨rfl, rfl⟩ := hx0 v.1 rfl
    exact QTri.retJ rfl rfl
  · refine QTri.brF Ad W (t := 188) (f := 75) (L := [some (.ref 1), some (.long v.1), none, some (.int v.2), none]) (S := []) (σ := (H0 s o)) rfl (XT.ii_gt_f hc33) ?_
    refine QTri.steps Ad W 5 (st' := (82, [some (.ref 1), some (.long v.1), none, some (.int v.2), none], [.int v.2, .ref 1, .long (v.1 * (1000003 : Int64))], (H0 s o))) rfl ?_
    obtain ⟨r43, hr43, h⟩ := Option.bind_eq_some_iff.mp h
    refine QTri.callV W (a := 1) (as := [.int v.2]) (rest := [.long (v.1 * (1000003 : Int64))]) (w := (some (.int r43))) (σ₁ := (H0 s o)) rfl rfl rfl rfl rfl rfl rfl rfl (tF9 Ad W s o v.2 hr43) ?_
    refine QTri.steps Ad W 8 (st' := (95, [some (.ref 1), some (.long ((v.1 * (1000003 : Int64)) + (r43.toInt64))), none, some (.int v.2), none], [.int v.2, .ref 1, .long (((v.1 * (1000003 : Int64)) + (r43.toInt64)) * (1000003 : Int64))], (H0 s o))) rfl ?_
    obtain ⟨r47, hr47, h⟩ := Option.bind_eq_some_iff.mp h
    refine QTri.callV W (a := 1) (as := [.int v.2]) (rest := [.long (((v.1 * (1000003 : Int64)) + (r43.toInt64)) * (1000003 : Int64))]) (w := (some (.int r47))) (σ₁ := (H0 s o)) rfl rfl rfl rfl rfl rfl rfl rfl (tF12 Ad W s o v.2 hr47) ?_
    refine QTri.steps Ad W 8 (st' := (108, [some (.ref 1), some (.long ((((v.1 * (1000003 : Int64)) + (r43.toInt64)) * (1000003 : Int64)) + (r47.toInt64))), none, some (.int v.2), none], [.int v.2, .ref 1, .long (((((v.1 * (1000003 : Int64)) + (r43.toInt64)) * (1000003 : Int64)) + (r47.toInt64)) * (1000003 : Int64))], (H0 s o))) rfl ?_
    obtain ⟨r51, hr51, h⟩ := Option.bind_eq_some_iff.mp h
    refine QTri.callV W (a := 1) (as := [.int v.2]) (rest := [.long (((((v.1 * (1000003 : Int64)) + (r43.toInt64)) * (1000003 : Int64)) + (r47.toInt64)) * (1000003 : Int64))]) (w := (some (.int r51))) (σ₁ := (H0 s o)) rfl rfl rfl rfl rfl rfl rfl rfl (tF13 Ad W s o v.2 hr51) ?_
    refine QTri.steps Ad W 8 (st' := (121, [some (.ref 1), some (.long ((((((v.1 * (1000003 : Int64)) + (r43.toInt64)) * (1000003 : Int64)) + (r47.toInt64)) * (1000003 : Int64)) + (r51.toInt64))), none, some (.int v.2), none], [.int v.2, .ref 1, .long (((((((v.1 * (1000003 : Int64)) + (r43.toInt64)) * (1000003 : Int64)) + (r47.toInt64)) * (1000003 : Int64)) + (r51.toInt64)) * (1000003 : Int64))], (H0 s o))) rfl ?_
    obtain ⟨r55, hr55, h⟩ := Option.bind_eq_some_iff.mp h
    refine QTri.callV W (a := 1) (as := [.int v.2]) (rest := [.long (((((((v.1 * (1000003 : Int64)) + (r43.toInt64)) * (1000003 : Int64)) + (r47.toInt64)) * (1000003 : Int64)) + (r51.toInt64)) * (1000003 : Int64))]) (w := (some (.int r55))) (σ₁ := (H0 s o)) rfl rfl rfl rfl rfl rfl rfl rfl (tF14 Ad W s o v.2 hr55) ?_
    refine QTri.steps Ad W 8 (st' := (134, [some (.ref 1), some (.long ((((((((v.1 * (1000003 : Int64)) + (r43.toInt64)) * (1000003 : Int64)) + (r47.toInt64)) * (1000003 : Int64)) + (r51.toInt64)) * (1000003 : Int64)) + (r55.toInt64))), none, some (.int v.2), none], [.int v.2, .ref 1, .long (((((((((v.1 * (1000003 : Int64)) + (r43.toInt64)) * (1000003 : Int64)) + (r47.toInt64)) * (1000003 : Int64)) + (r51.toInt64)) * (1000003 : Int64)) + (r55.toInt64)) * (1000003 : Int64))], (H0 s o))) rfl ?_
    obtain ⟨r64, hr64, h⟩ := Option.bind_eq_some_iff.mp h
    refine QTri.callV W (a := 1) (as := [.int v.2]) (rest := [.long (((((((((v.1 * (1000003 : Int64)) + (r43.toInt64)) * (1000003 : Int64)) + (r47.toInt64)) * (1000003 : Int64)) + (r51.toInt64)) * (1000003 : Int64)) + (r55.toInt64)) * (1000003 : Int64))]) (w := (some (.int r64))) (σ₁ := (H0 s o)) rfl rfl rfl rfl rfl rfl rfl rfl (tF15 Ad W s o v.2 hr64) ?_
    refine QTri.steps Ad W 5 (st' := (145, [some (.ref 1), some (.long ((((((((((v.1 * (1000003 : Int64)) + (r43.toInt64)) * (1000003 : Int64)) + (r47.toInt64)) * (1000003 : Int64)) + (r51.toInt64)) * (1000003 : Int64)) + (r55.toInt64)) * (1000003 : Int64)) + (r64.toInt64))), none, some (.int v.2), some (.int (250 : Int32))], [], (H0 s o))) rfl ?_
    obtain ⟨e77, he77, h⟩ := Option.bind_eq_some_iff.mp h
    refine QTri.mask [true, true, false, true, true] (loopN_tri (B := B3_145 o v.2) (T := fun lv78 => QTri l Z n0 ad 3 (145, [some (.ref 1), some (.long lv78.1), none, some (.int v.2), some (.int lv78.2)], [], (H0 s o)) u τ) (KE := fun e77a => QTri l Z n0 ad 3 (182, [some (.ref 1), some (.long e77a), none, some (.int v.2), none], [], (H0 s o)) u τ) (fun lv78 r hB hE hC => tB3_145 Ad W s o v.2 lv78 hB (fun x q => hE _ q) (fun x q => hC x q)) qN (((((((((((v.1 * (1000003 : Int64)) + (r43.toInt64)) * (1000003 : Int64)) + (r47.toInt64)) * (1000003 : Int64)) + (r51.toInt64)) * (1000003 : Int64)) + (r55.toInt64)) * (1000003 : Int64)) + (r64.toInt64)), (250 : Int32)) e77 he77 ?_)
    refine QTri.steps Ad W 2 (st' := (68, [some (.ref 1), some (.long e77), none, some (.int (v.2 + (1 : Int32))), none], [], (H0 s o))) rfl ?_
    obtain rfl := Option.some.inj h
    exact QTri.mask [true, true, false, true, false] (hc (e77, (v.2 + (1 : Int32))) rfl)
/-- fp(LPortTranslator;)J -/
def F3 (o : Ob) : Option (Int64) :=
  (F4 o).bind fun r21 => (F5 o).bind fun r29 => (F6 o).bind fun r30 => (F7 o).bind fun r31 => (F8 o).bind fun r32 => (loopN (B3_68 o) qN ((((((((((((17 : Int64) * (1000003 : Int64)) + (r21.toInt64)) * (1000003 : Int64)) + (r29.toInt64)) * (1000003 : Int64)) + (r30.toInt64)) * (1000003 : Int64)) + (r31.toInt64)) * (1000003 : Int64)) + (r32.toInt64)), (4999 : Int32))).bind fun e79 => some e79
theorem tF3 (Ad : QAd n0 ad) (W : QW Z a0) (s : List Int32) (o : Ob) {r : Int64} (h : F3 o = some r) : QTri l Z n0 ad 3 (0, qentry [.ref 1] (pMaxL 3), [], (H0 s o)) (some (Value.long r)) (H0 s o) := by
  unfold F3 at h
  refine QTri.steps Ad W 6 (st' := (10, [some (.ref 1), some (.long (17 : Int64)), none, none, none], [.ref 1, .long ((17 : Int64) * (1000003 : Int64))], (H0 s o))) rfl ?_
  obtain ⟨r21, hr21, h⟩ := Option.bind_eq_some_iff.mp h
  refine QTri.callV W (a := 1) (as := []) (rest := [.long ((17 : Int64) * (1000003 : Int64))]) (w := (some (.int r21))) (σ₁ := (H0 s o)) rfl rfl rfl rfl rfl rfl rfl rfl (tF4 Ad W s o hr21) ?_
  refine QTri.steps Ad W 7 (st' := (22, [some (.ref 1), some (.long (((17 : Int64) * (1000003 : Int64)) + (r21.toInt64))), none, none, none], [.ref 1, .long ((((17 : Int64) * (1000003 : Int64)) + (r21.toInt64)) * (1000003 : Int64))], (H0 s o))) rfl ?_
  obtain ⟨r29, hr29, h⟩ := Option.bind_eq_some_iff.mp h
  refine QTri.callV W (a := 1) (as := []) (rest := [.long ((((17 : Int64) * (1000003 : Int64)) + (r21.toInt64)) * (1000003 : Int64))]) (w := (some (.int r29))) (σ₁ := (H0 s o)) rfl rfl rfl rfl rfl rfl rfl rfl (tF5 Ad W s o hr29) ?_
  refine QTri.steps Ad W 7 (st' := (34, [some (.ref 1), some (.long (((((17 : Int64) * (1000003 : Int64)) + (r21.toInt64)) * (1000003 : Int64)) + (r29.toInt64))), none, none, none], [.ref 1, .long ((((((17 : Int64) * (1000003 : Int64)) + (r21.toInt64)) * (1000003 : Int64)) + (r29.toInt64)) * (1000003 : Int64))], (H0 s o))) rfl ?_
  obtain ⟨r30, hr30, h⟩ := Option.bind_eq_some_iff.mp h
  refine QTri.callV W (a := 1) (as := []) (rest := [.long ((((((17 : Int64) * (1000003 : Int64)) + (r21.toInt64)) * (1000003 : Int64)) + (r29.toInt64)) * (1000003 : Int64))]) (w := (some (.int r30))) (σ₁ := (H0 s o)) rfl rfl rfl rfl rfl rfl rfl rfl (tF6 Ad W s o hr30) ?_
  refine QTri.steps Ad W 7 (st' := (46, [some (.ref 1), some (.long (((((((17 : Int64) * (1000003 : Int64)) + (r21.toInt64)) * (1000003 : Int64)) + (r29.toInt64)) * (1000003 : Int64)) + (r30.toInt64))), none, none, none], [.ref 1, .long ((((((((17 : Int64) * (1000003 : Int64)) + (r21.toInt64)) * (1000003 : Int64)) + (r29.toInt64)) * (1000003 : Int64)) + (r30.toInt64)) * (1000003 : Int64))], (H0 s o))) rfl ?_
  obtain ⟨r31, hr31, h⟩ := Option.bind_eq_some_iff.mp h
  refine QTri.callV W (a := 1) (as := []) (rest := [.long ((((((((17 : Int64) * (1000003 : Int64)) + (r21.toInt64)) * (1000003 : Int64)) + (r29.toInt64)) * (1000003 : Int64)) + (r30.toInt64)) * (1000003 : Int64))]) (w := (some (.int r31))) (σ₁ := (H0 s o)) rfl rfl rfl rfl rfl rfl rfl rfl (tF7 Ad W s o hr31) ?_
  refine QTri.steps Ad W 7 (st' := (58, [some (.ref 1), some (.long (((((((((17 : Int64) * (1000003 : Int64)) + (r21.toInt64)) * (1000003 : Int64)) + (r29.toInt64)) * (1000003 : Int64)) + (r30.toInt64)) * (1000003 : Int64)) + (r31.toInt64))), none, none, none], [.ref 1, .long ((((((((((17 : Int64) * (1000003 : Int64)) + (r21.toInt64)) * (1000003 : Int64)) + (r29.toInt64)) * (1000003 : Int64)) + (r30.toInt64)) * (1000003 : Int64)) + (r31.toInt64)) * (1000003 : Int64))], (H0 s o))) rfl ?_
  obtain ⟨r32, hr32, h⟩ := Option.bind_eq_some_iff.mp h
  refine QTri.callV W (a := 1) (as := []) (rest := [.long ((((((((((17 : Int64) * (1000003 : Int64)) + (r21.toInt64)) * (1000003 : Int64)) + (r29.toInt64)) * (1000003 : Int64)) + (r30.toInt64)) * (1000003 : Int64)) + (r31.toInt64)) * (1000003 : Int64))]) (w := (some (.int r32))) (σ₁ := (H0 s o)) rfl rfl rfl rfl rfl rfl rfl rfl (tF8 Ad W s o hr32) ?_
  refine QTri.steps Ad W 5 (st' := (68, [some (.ref 1), some (.long (((((((((((17 : Int64) * (1000003 : Int64)) + (r21.toInt64)) * (1000003 : Int64)) + (r29.toInt64)) * (1000003 : Int64)) + (r30.toInt64)) * (1000003 : Int64)) + (r31.toInt64)) * (1000003 : Int64)) + (r32.toInt64))), none, some (.int (4999 : Int32)), none], [], (H0 s o))) rfl ?_
  obtain ⟨e79, he79, h⟩ := Option.bind_eq_some_iff.mp h
  refine QTri.mask [true, true, false, true, false] (loopN_tri (B := B3_68 o) (T := fun lv80 => QTri l Z n0 ad 3 (68, [some (.ref 1), some (.long lv80.1), none, some (.int lv80.2), none], [], (H0 s o)) (some (Value.long r)) (H0 s o)) (KE := fun e79a => (some (Value.long r)) = (some (Value.long e79a)) ∧ (H0 s o) = (H0 s o)) (fun lv80 r hB hE hC => tB3_68 Ad W s o lv80 hB (fun x q => hE _ q) (fun x q => hC x q)) qN ((((((((((((17 : Int64) * (1000003 : Int64)) + (r21.toInt64)) * (1000003 : Int64)) + (r29.toInt64)) * (1000003 : Int64)) + (r30.toInt64)) * (1000003 : Int64)) + (r31.toInt64)) * (1000003 : Int64)) + (r32.toInt64)), (4999 : Int32)) e79 he79 ?_)
  obtain rfl := Option.some.inj h
  exact ⟨rfl, rfl⟩
/-- setRemote(II)Z -/
def F21 (o : Ob) (x1 : Int32) (x2 : Int32) : Option (Int32 × Ob) :=
  (if x1 < (1 : Int32) then some ((0 : Int32), o) else (if (255 : Int32) < x1 then some ((0 : Int32), o) else (if x2 < (1 : Int32) then some ((0 : Int32), o) else (if (65535 : Int32) < x2 then some ((0 : Int32), o) else some ((1 : Int32), (s_remPort (s_remAddr o x1) x2))))))
theorem tF21 (Ad : QAd n0 ad) (W : QW Z a0) (s : List Int32) (o : Ob) (x1 : Int32) (x2 : Int32) {r : Int32 × Ob} (h : F21 o x1 x2 = some r) : QTri l Z n0 ad 21 (0, qentry [.ref 1, .int x1, .int x2] (pMaxL 21), [], (H0 s o)) (some (Value.int r.1)) (H0 s r.2) := by
  unfold F21 at h
  refine QTri.steps Ad W 2 (st' := (2, [some (.ref 1), some (.int x1), some (.int x2)], [.int (1 : Int32), .int x1], (H0 s o))) rfl ?_
  rcases qite h with ⟨hc83, h⟩ | ⟨hc83, h⟩
  · refine QTri.brT Ad W (t := 23) (f := 5) (L := [some (.ref 1), some (.int x1), some (.int x2)]) (S := []) (σ := (H0 s o)) rfl (XT.ii_lt_t hc83) ?_
    refine QTri.steps Ad W 1 (st' := (24, [some (.ref 1), some (.int x1), some (.int x2)], [.int (0 : Int32)], (H0 s o))) rfl ?_
    obtain rfl := Option.some.inj h
    exact QTri.retZ rfl rfl
  · refine QTri.brF Ad W (t := 23) (f := 5) (L := [some (.ref 1), some (.int x1), some (.int x2)]) (S := []) (σ := (H0 s o)) rfl (XT.ii_lt_f hc83) ?_
    refine QTri.steps Ad W 2 (st' := (9, [some (.ref 1), some (.int x1), some (.int x2)], [.int (255 : Int32), .int x1], (H0 s o))) rfl ?_
    rcases qite h with ⟨hc84, h⟩ | ⟨hc84, h⟩
    · refine QTri.brT Ad W (t := 23) (f := 12) (L := [some (.ref 1), some (.int x1), some (.int x2)]) (S := []) (σ := (H0 s o)) rfl (XT.ii_gt_t hc84) ?_
      refine QTri.steps Ad W 1 (st' := (24, [some (.ref 1), some (.int x1), some (.int x2)], [.int (0 : Int32)], (H0 s o))) rfl ?_
      obtain rfl := Option.some.inj h
      exact QTri.retZ rfl rfl
    · refine QTri.brF Ad W (t := 23) (f := 12) (L := [some (.ref 1), some (.int x1), some (.int x2)]) (S := []) (σ := (H0 s o)) rfl (XT.ii_gt_f hc84) ?_
      refine QTri.steps Ad W 2 (st' := (14, [some (.ref 1), some (.int x1), some (.int x2)], [.int (1 : Int32), .int x2], (H0 s o))) rfl ?_
      rcases qite h with ⟨hc85, h⟩ | ⟨hc85, h⟩
      · refine QTri.brT Ad W (t := 23) (f := 17) (L := [some (.ref 1), some (.int x1), some (.int x2)]) (S := []) (σ := (H0 s o)) rfl (XT.ii_lt_t hc85) ?_
        refine QTri.steps Ad W 1 (st' := (24, [some (.ref 1), some (.int x1), some (.int x2)], [.int (0 : Int32)], (H0 s o))) rfl ?_
        obtain rfl := Option.some.inj h
        exact QTri.retZ rfl rfl
      · refine QTri.brF Ad W (t := 23) (f := 17) (L := [some (.ref 1), some (.int x1), some (.int x2)]) (S := []) (σ := (H0 s o)) rfl (XT.ii_lt_f hc85) ?_
        refine QTri.steps Ad W 2 (st' := (20, [some (.ref 1), some (.int x1), some (.int x2)], [.int (65535 : Int32), .int x2], (H0 s o))) rfl ?_
        rcases qite h with ⟨hc86, h⟩ | ⟨hc86, h⟩
        · refine QTri.brF Ad W (t := 25) (f := 23) (L := [some (.ref 1), some (.int x1), some (.int x2)]) (S := []) (σ := (H0 s o)) rfl (XT.ii_le_f hc86) ?_
          refine QTri.steps Ad W 1 (st' := (24, [some (.ref 1), some (.int x1), some (.int x2)], [.int (0 : Int32)], (H0 s o))) rfl ?_
          obtain rfl := Option.some.inj h
          exact QTri.retZ rfl rfl
        · refine QTri.brT Ad W (t := 25) (f := 23) (L := [some (.ref 1), some (.int x1), some (.int x2)]) (S := []) (σ := (H0 s o)) rfl (XT.ii_le_t hc86) ?_
          refine QTri.steps Ad W 3 (st' := (30, [some (.ref 1), some (.int x1), some (.int x2)], [], [.inr (.inl (.int, s)), .inl [.ref 2, .ref 3, .ref 4, .ref 5, .ref 6, .ref 7, .ref 8, .ref 9, .ref 10, .int (f_poolSize o), .int (f_udpTimeout o), .int (f_tcpTimeout o), .int (f_cooldown o), .int (f_clock o), .int x1, .int (f_remPort o), .int (f_regHost o), .int (f_regPort o), .int (f_regExt o)], .inr (.inl (.boolean, (f_live o))), .inr (.inl (.boolean, (f_used o))), .inr (.inl (.int, (f_freedAt o))), .inr (.inl (.int, (f_protoOf o))), .inr (.inl (.int, (f_hostOf o))), .inr (.inl (.int, (f_iportOf o))), .inr (.inl (.int, (f_stateAt o))), .inr (.inl (.int, (f_deadlineAt o))), .inr (.inr (f_perm o))])) rfl ?_
          refine QTri.steps Ad W 3 (st' := (35, [some (.ref 1), some (.int x1), some (.int x2)], [], [.inr (.inl (.int, s)), .inl [.ref 2, .ref 3, .ref 4, .ref 5, .ref 6, .ref 7, .ref 8, .ref 9, .ref 10, .int (f_poolSize o), .int (f_udpTimeout o), .int (f_tcpTimeout o), .int (f_cooldown o), .int (f_clock o), .int x1, .int x2, .int (f_regHost o), .int (f_regPort o), .int (f_regExt o)], .inr (.inl (.boolean, (f_live o))), .inr (.inl (.boolean, (f_used o))), .inr (.inl (.int, (f_freedAt o))), .inr (.inl (.int, (f_protoOf o))), .inr (.inl (.int, (f_hostOf o))), .inr (.inl (.int, (f_iportOf o))), .inr (.inl (.int, (f_stateAt o))), .inr (.inl (.int, (f_deadlineAt o))), .inr (.inr (f_perm o))])) rfl ?_
          refine QTri.steps Ad W 1 (st' := (36, [some (.ref 1), some (.int x1), some (.int x2)], [.int (1 : Int32)], [.inr (.inl (.int, s)), .inl [.ref 2, .ref 3, .ref 4, .ref 5, .ref 6, .ref 7, .ref 8, .ref 9, .ref 10, .int (f_poolSize o), .int (f_udpTimeout o), .int (f_tcpTimeout o), .int (f_cooldown o), .int (f_clock o), .int x1, .int x2, .int (f_regHost o), .int (f_regPort o), .int (f_regExt o)], .inr (.inl (.boolean, (f_live o))), .inr (.inl (.boolean, (f_used o))), .inr (.inl (.int, (f_freedAt o))), .inr (.inl (.int, (f_protoOf o))), .inr (.inl (.int, (f_hostOf o))), .inr (.inl (.int, (f_iportOf o))), .inr (.inl (.int, (f_stateAt o))), .inr (.inl (.int, (f_deadlineAt o))), .inr (.inr (f_perm o))])) rfl ?_
          have E87 : ([.inr (.inl (.int, s)), .inl [.ref 2, .ref 3, .ref 4, .ref 5, .ref 6, .ref 7, .ref 8, .ref 9, .ref 10, .int (f_poolSize o), .int (f_udpTimeout o), .int (f_tcpTimeout o), .int (f_cooldown o), .int (f_clock o), .int x1, .int x2, .int (f_regHost o), .int (f_regPort o), .int (f_regExt o)], .inr (.inl (.boolean, (f_live o))), .inr (.inl (.boolean, (f_used o))), .inr (.inl (.int, (f_freedAt o))), .inr (.inl (.int, (f_protoOf o))), .inr (.inl (.int, (f_hostOf o))), .inr (.inl (.int, (f_iportOf o))), .inr (.inl (.int, (f_stateAt o))), .inr (.inl (.int, (f_deadlineAt o))), .inr (.inr (f_perm o))] : QHeap) = (H0 s (s_remPort (s_remAddr o x1) x2)) := by dsimp only [H0, f_live, f_used, f_freedAt, f_protoOf, f_hostOf, f_iportOf, f_stateAt, f_deadlineAt, f_perm, f_poolSize, f_udpTimeout, f_tcpTimeout, f_cooldown, f_clock, f_remAddr, f_remPort, f_regHost, f_regPort, f_regExt, s_remAddr, s_remPort]
          rw [E87]
          obtain rfl := Option.some.inj h
          exact QTri.retZ rfl rfl
def J0_262 (s : List Int32) (p0 : Ob) (x2 : Int32) : Option (((Int32 × QHeap)) ⊕ (Int32 × Ob)) :=
  some (.inr ((x2 + (4 : Int32)), p0))
theorem tJ0_262 (Ad : QAd n0 ad) (W : QW Z a0) (s : List Int32) (p0 : Ob) (x2 : Int32) {r : ((Int32 × QHeap)) ⊕ (Int32 × Ob)} {u : Option Value} {τ : QHeap} (h : J0_262 s p0 x2 = some r) (hx0 : ∀ x : Int32 × QHeap, r = .inl x → u = (some (Value.int x.1)) ∧ τ = x.2) (hc : ∀ x : Int32 × Ob, r = .inr x → QTri l Z n0 ad 0 (16, [some (.ref 0), some (.ref 1), some (.int x.1), none, none, none, none, none, none, none, none, none, none], [], (H0 s x.2)) u τ) : QTri l Z n0 ad 0 (262, [some (.ref 0), some (.ref 1), some (.int x2), none, none, none, none, none, none, none, none, none, none], [], (H0 s p0)) u τ := by
  unfold J0_262 at h
  refine QTri.steps Ad W 2 (st' := (16, [some (.ref 0), some (.ref 1), some (.int (x2 + (4 : Int32))), none, none, none, none, none, none, none, none, none, none], [], (H0 s p0))) rfl ?_
  obtain rfl := Option.some.inj h
  exact QTri.mask [true, true, true, false, false, false, false, false, false, false, false, false, false] (hc ((x2 + (4 : Int32)), p0) rfl)
def J0_245 (s : List Int32) (p0 : Ob) (x2 : Int32) (x10 : Int64) (x12 : Int32) : Option (((Int32 × QHeap)) ⊕ (Int32 × Ob)) :=
  (if x12 = (0 : Int32) then (J0_262 s p0 x2) else (F3 p0).bind fun r93 => (if r93 = x10 then (J0_262 s p0 x2) else some (.inl ((0 : Int32), (H0 s p0)))))
theorem tJ0_245 (Ad : QAd n0 ad) (W : QW Z a0) (s : List Int32) (p0 : Ob) (x2 : Int32) (x10 : Int64) (x12 : Int32) {r : ((Int32 × QHeap)) ⊕ (Int32 × Ob)} {u : Option Value} {τ : QHeap} (h : J0_245 s p0 x2 x10 x12 = some r) (hx0 : ∀ x : Int32 × QHeap, r = .inl x → u = (some (Value.int x.1)) ∧ τ = x.2) (hc : ∀ x : Int32 × Ob, r = .inr x → QTri l Z n0 ad 0 (16, [some (.ref 0), some (.ref 1), some (.int x.1), none, none, none, none, none, none, none, none, none, none], [], (H0 s x.2)) u τ) : QTri l Z n0 ad 0 (245, [some (.ref 0), some (.ref 1), some (.int x2), none, none, none, none, none, none, none, some (.long x10), none, some (.int x12)], [], (H0 s p0)) u τ := by
  unfold J0_245 at h
  refine QTri.steps Ad W 1 (st' := (247, [some (.ref 0), some (.ref 1), some (.int x2), none, none, none, none, none, none, none, some (.long x10), none, some (.int x12)], [.int x12], (H0 s p0))) rfl ?_
  rcases qite h with ⟨hc92, h⟩ | ⟨hc92, h⟩
  · refine QTri.brT Ad W (t := 262) (f := 250) (L := [some (.ref 0), some (.ref 1), some (.int x2), none, none, none, none, none, none, none, some (.long x10), none, some (.int x12)]) (S := []) (σ := (H0 s p0)) rfl (XT.i0_eq_t hc92) ?_
    exact QTri.mask [true, true, true, false, false, false, false, false, false, false, false, false, false] (tJ0_262 Ad W s p0 x2 h hx0 hc)
  · refine QTri.brF Ad W (t := 262) (f := 250) (L := [some (.ref 0), some (.ref 1), some (.int x2), none, none, none, none, none, none, none, some (.long x10), none, some (.int x12)]) (S := []) (σ := (H0 s p0)) rfl (XT.i0_eq_f hc92) ?_
    refine QTri.steps Ad W 1 (st' := (251, [some (.ref 0), some (.ref 1), some (.int x2), none, none, none, none, none, none, none, some (.long x10), none, some (.int x12)], [.ref 1], (H0 s p0))) rfl ?_
    obtain ⟨r93, hr93, h⟩ := Option.bind_eq_some_iff.mp h
    refine QTri.callS W (as := [.ref 1]) (rest := []) (w := (some (.long r93))) (σ₁ := (H0 s p0)) rfl rfl rfl rfl rfl rfl rfl (tF3 Ad W s p0 hr93) ?_
    refine QTri.steps Ad W 2 (st' := (257, [some (.ref 0), some (.ref 1), some (.int x2), none, none, none, none, none, none, none, some (.long x10), none, some (.int x12)], [.int (XT.cmpL r93 x10)], (H0 s p0))) rfl ?_
    rcases qite h with ⟨hc94, h⟩ | ⟨hc94, h⟩
    · refine QTri.brT Ad W (t := 262) (f := 260) (L := [some (.ref 0), some (.ref 1), some (.int x2), none, none, none, none, none, none, none, some (.long x10), none, some (.int x12)]) (S := []) (σ := (H0 s p0)) rfl (XT.ll_eq_t hc94) ?_
      exact QTri.mask [true, true, true, false, false, false, false, false, false, false, false, false, false] (tJ0_262 Ad W s p0 x2 h hx0 hc)
    · refine QTri.brF Ad W (t := 262) (f := 260) (L := [some (.ref 0), some (.ref 1), some (.int x2), none, none, none, none, none, none, none, some (.long x10), none, some (.int x12)]) (S := []) (σ := (H0 s p0)) rfl (XT.ll_eq_f hc94) ?_
      refine QTri.steps Ad W 1 (st' := (261, [some (.ref 0), some (.ref 1), some (.int x2), none, none, none, none, none, none, none, some (.long x10), none, some (.int x12)], [.int (0 : Int32)], (H0 s p0))) rfl ?_
      obtain rfl := Option.some.inj h
      obtain ⟨rfl, rfl⟩ := hx0 ((0 : Int32), (H0 s p0)) rfl
      exact QTri.retZ rfl rfl
def J20_14 (x1 : Int32) (x2 : Int32) : Option (Int32) :=
  (if x2 < (0 : Int32) then some (0 : Int32) else (if (15 : Int32) < x2 then some (0 : Int32) else (if x1 = (17 : Int32) then (if x2 = (0 : Int32) then some (1 : Int32) else some (0 : Int32)) else some (1 : Int32))))
theorem tJ20_14 (Ad : QAd n0 ad) (W : QW Z a0) {σ : QHeap} (x1 : Int32) (x2 : Int32) {r : Int32} (h : J20_14 x1 x2 = some r) : QTri l Z n0 ad 20 (14, [none, some (.int x1), some (.int x2)], [], σ) (some (Value.int r)) σ := by
  unfold J20_14 at h
  refine QTri.steps Ad W 1 (st' := (15, [none, some (.int x1), some (.int x2)], [.int x2], σ)) rfl ?_
  rcases qite h with ⟨hc101, h⟩ | ⟨hc101, h⟩
  · refine QTri.brT Ad W (t := 24) (f := 18) (L := [none, some (.int x1), some (.int x2)]) (S := []) (σ := σ) rfl (XT.i0_lt_t hc101) ?_
    refine QTri.steps Ad W 1 (st' := (25, [none, some (.int x1), some (.int x2)], [.int (0 : Int32)], σ)) rfl ?_
    obtain rfl := Option.some.inj h
    exact QTri.retZ rfl rfl
  · refine QTri.brF Ad W (t := 24) (f := 18) (L := [none, some (.int x1), some (.int x2)]) (S := []) (σ := σ) rfl (XT.i0_lt_f hc101) ?_
    refine QTri.steps Ad W 2 (st' := (21, [none, some (.int x1), some (.int x2)], [.int (15 : Int32), .int x2], σ)) rfl ?_
    rcases qite h with ⟨hc102, h⟩ | ⟨hc102, h⟩
    · refine QTri.brF Ad W (t := 26) (f := 24) (L := [none, some (.int x1), some (.int x2)]) (S := []) (σ := σ) rfl (XT.ii_le_f hc102) ?_
      refine QTri.steps Ad W 1 (st' := (25, [none, some (.int x1), some (.int x2)], [.int (0 : Int32)], σ)) rfl ?_
      obtain rfl := Option.some.inj h
      exact QTri.retZ rfl rfl
    · refine QTri.brT Ad W (t := 26) (f := 24) (L := [none, some (.int x1), some (.int x2)]) (S := []) (σ := σ) rfl (XT.ii_le_t hc102) ?_
      refine QTri.steps Ad W 2 (st' := (29, [none, some (.int x1), some (.int x2)], [.int (17 : Int32), .int x1], σ)) rfl ?_
      rcases qite h with ⟨hc103, h⟩ | ⟨hc103, h⟩
      · refine QTri.brF Ad W (t := 36) (f := 32) (L := [none, some (.int x1), some (.int x2)]) (S := []) (σ := σ) rfl (XT.ii_ne_f hc103) ?_
        refine QTri.steps Ad W 1 (st' := (33, [none, some (.int x1), some (.int x2)], [.int x2], σ)) rfl ?_
        rcases qite h with ⟨hc104, h⟩ | ⟨hc104, h⟩
        · refine QTri.brF Ad W (t := 40) (f := 36) (L := [none, some (.int x1), some (.int x2)]) (S := []) (σ := σ) rfl (XT.i0_ne_f hc104) ?_
          refine QTri.steps Ad W 2 (st' := (41, [none, some (.int x1), some (.int x2)], [.int (1 : Int32)], σ)) rfl ?_
          obtain rfl := Option.some.inj h
          exact QTri.retZ rfl rfl
        · refine QTri.brT Ad W (t := 40) (f := 36) (L := [none, some (.int x1), some (.int x2)]) (S := []) (σ := σ) rfl (XT.i0_ne_t hc104) ?_
          refine QTri.steps Ad W 1 (st' := (41, [none, some (.int x1), some (.int x2)], [.int (0 : Int32)], σ)) rfl ?_
          obtain rfl := Option.some.inj h
          exact QTri.retZ rfl rfl
      · refine QTri.brT Ad W (t := 36) (f := 32) (L := [none, some (.int x1), some (.int x2)]) (S := []) (σ := σ) rfl (XT.ii_ne_t hc103) ?_
        refine QTri.steps Ad W 2 (st' := (41, [none, some (.int x1), some (.int x2)], [.int (1 : Int32)], σ)) rfl ?_
        obtain rfl := Option.some.inj h
        exact QTri.retZ rfl rfl
/-- validProtoFlags(II)Z -/
def F20 (x1 : Int32) (x2 : Int32) : Option (Int32) :=
  (if x1 = (17 : Int32) then (J20_14 x1 x2) else (if x1 = (6 : Int32) then (J20_14 x1 x2) else some (0 : Int32)))
theorem tF20 (Ad : QAd n0 ad) (W : QW Z a0) {a : Nat} {σ : QHeap} (x1 : Int32) (x2 : Int32) {r : Int32} (h : F20 x1 x2 = some r) : QTri l Z n0 ad 20 (0, qentry [.ref a, .int x1, .int x2] (pMaxL 20), [], σ) (some (Value.int r)) σ := by
  unfold F20 at h
  refine QTri.steps Ad W 2 (st' := (3, [some (.ref a), some (.int x1), some (.int x2)], [.int (17 : Int32), .int x1], σ)) rfl ?_
  rcases qite h with ⟨hc100, h⟩ | ⟨hc100, h⟩
  · refine QTri.brT Ad W (t := 14) (f := 6) (L := [some (.ref a), some (.int x1), some (.int x2)]) (S := []) (σ := σ) rfl (XT.ii_eq_t hc100) ?_
    exact QTri.mask [false, true, true] (tJ20_14 Ad W x1 x2 h)
  · refine QTri.brF Ad W (t := 14) (f := 6) (L := [some (.ref a), some (.int x1), some (.int x2)]) (S := []) (σ := σ) rfl (XT.ii_eq_f hc100) ?_
    refine QTri.steps Ad W 2 (st' := (9, [some (.ref a), some (.int x1), some (.int x2)], [.int (6 : Int32), .int x1], σ)) rfl ?_
    rcases qite h with ⟨hc105, h⟩ | ⟨hc105, h⟩
    · refine QTri.brT Ad W (t := 14) (f := 12) (L := [some (.ref a), some (.int x1), some (.int x2)]) (S := []) (σ := σ) rfl (XT.ii_eq_t hc105) ?_
      exact QTri.mask [false, true, true] (tJ20_14 Ad W x1 x2 h)
    · refine QTri.brF Ad W (t := 14) (f := 12) (L := [some (.ref a), some (.int x1), some (.int x2)]) (S := []) (σ := σ) rfl (XT.ii_eq_f hc105) ?_
      refine QTri.steps Ad W 1 (st' := (13, [some (.ref a), some (.int x1), some (.int x2)], [.int (0 : Int32)], σ)) rfl ?_
      obtain rfl := Option.some.inj h
      exact QTri.retZ rfl rfl
def J24_58 (o : Ob) (x1 : Int32) (x2 : Int32) (x3 : Int32) (x4 : Int32) : Option (((Int32)) ⊕ (Int32)) :=
  some (.inr (x4 + (1 : Int32)))
theorem tJ24_58 (Ad : QAd n0 ad) (W : QW Z a0) (s : List Int32) (o : Ob) (x1 : Int32) (x2 : Int32) (x3 : Int32) (x4 : Int32) {r : ((Int32)) ⊕ (Int32)} {u : Option Value} {τ : QHeap} (h : J24_58 o x1 x2 x3 x4 = some r) (hx0 : ∀ x : Int32, r = .inl x → u = (some (Value.int x)) ∧ τ = (H0 s o)) (hc : ∀ x : Int32, r = .inr x → QTri l Z n0 ad 24 (3, [some (.ref 1), some (.int x1), some (.int x2), some (.int x3), some (.int x)], [], (H0 s o)) u τ) : QTri l Z n0 ad 24 (58, [some (.ref 1), some (.int x1), some (.int x2), some (.int x3), some (.int x4)], [], (H0 s o)) u τ := by
  unfold J24_58 at h
  refine QTri.steps Ad W 2 (st' := (3, [some (.ref 1), some (.int x1), some (.int x2), some (.int x3), some (.int (x4 + (1 : Int32)))], [], (H0 s o))) rfl ?_
  obtain rfl := Option.some.inj h
  exact QTri.mask [true, true, true, true, true] (hc (x4 + (1 : Int32)) rfl)
def B24_3 (o : Ob) (x1 : Int32) (x2 : Int32) (x3 : Int32) (v : Int32) : Option (((Int32)) ⊕ (Int32)) :=
  (if v < (f_poolSize o) then (aget (f_live o) v).bind fun y110 => (if y110 = (0 : Int32) then (J24_58 o x1 x2 x3 v) else (aget (f_protoOf o) v).bind fun y112 => (if y112 = x1 then (aget (f_hostOf o) v).bind fun y114 => (if y114 = x2 then (aget (f_iportOf o) v).bind fun y116 => (if y116 = x3 then some (.inl v) else (J24_58 o x1 x2 x3 v)) else (J24_58 o x1 x2 x3 v)) else (J24_58 o x1 x2 x3 v))) else some (.inl (-1 : Int32)))
theorem tB24_3 (Ad : QAd n0 ad) (W : QW Z a0) (s : List Int32) (o : Ob) (x1 : Int32) (x2 : Int32) (x3 : Int32) (v : Int32) {r : ((Int32)) ⊕ (Int32)} {u : Option Value} {τ : QHeap} (h : B24_3 o x1 x2 x3 v = some r) (hx0 : ∀ x : Int32, r = .inl x → u = (some (Value.int x)) ∧ τ = (H0 s o)) (hc : ∀ x : Int32, r = .inr x → QTri l Z n0 ad 24 (3, [some (.ref 1), some (.int x1), some (.int x2), some (.int x3), some (.int x)], [], (H0 s o)) u τ) : QTri l Z n0 ad 24 (3, [some (.ref 1), some (.int x1), some (.int x2), some (.int x3), some (.int v)], [], (H0 s o)) u τ := by
  unfold B24_3 at h
  refine QTri.steps Ad W 3 (st' := (9, [some (.ref 1), some (.int x1), some (.int x2), some (.int x3), some (.int v)], [.int (f_poolSize o), .int v], (H0 s o))) rfl ?_
  rcases qite h with ⟨hc109, h⟩ | ⟨hc109, h⟩
  · refine QTri.brF Ad W (t := 64) (f := 12) (L := [some (.ref 1), some (.int x1), some (.int x2), some (.int x3), some (.int v)]) (S := []) (σ := (H0 s o)) rfl (XT.ii_ge_f hc109) ?_
    refine QTri.steps Ad W 3 (st' := (18, [some (.ref 1), some (.int x1), some (.int x2), some (.int x3), some (.int v)], [.int v, .ref 2], (H0 s o))) rfl ?_
    obtain ⟨y110, hy110, h⟩ := Option.bind_eq_some_iff.mp h
    refine QTri.bnd Ad W (f := fun y110 => (19, [some (.ref 1), some (.int x1), some (.int x2), some (.int x3), some (.int v)], [.int y110], (H0 s o))) rfl hy110 ?_
    rcases qite h with ⟨hc111, h⟩ | ⟨hc111, h⟩
    · refine QTri.brT Ad W (t := 58) (f := 22) (L := [some (.ref 1), some (.int x1), some (.int x2), some (.int x3), some (.int v)]) (S := []) (σ := (H0 s o)) rfl (XT.i0_eq_t hc111) ?_
      exact QTri.mask [true, true, true, true, true] (tJ24_58 Ad W s o x1 x2 x3 v h hx0 hc)
    · refine QTri.brF Ad W (t := 58) (f := 22) (L := [some (.ref 1), some (.int x1), some (.int x2), some (.int x3), some (.int v)]) (S := []) (σ := (H0 s o)) rfl (XT.i0_eq_f hc111) ?_
      refine QTri.steps Ad W 3 (st' := (28, [some (.ref 1), some (.int x1), some (.int x2), some (.int x3), some (.int v)], [.int v, .ref 5], (H0 s o))) rfl ?_
      obtain ⟨y112, hy112, h⟩ := Option.bind_eq_some_iff.mp h
      refine QTri.bnd Ad W (f := fun y112 => (29, [some (.ref 1), some (.int x1), some (.int x2), some (.int x3), some (.int v)], [.int y112], (H0 s o))) rfl hy112 ?_
      refine QTri.steps Ad W 1 (st' := (30, [some (.ref 1), some (.int x1), some (.int x2), some (.int x3), some (.int v)], [.int x1, .int y112], (H0 s o))) rfl ?_
      rcases qite h with ⟨hc113, h⟩ | ⟨hc113, h⟩
      · refine QTri.brF Ad W (t := 58) (f := 33) (L := [some (.ref 1), some (.int x1), some (.int x2), some (.int x3), some (.int v)]) (S := []) (σ := (H0 s o)) rfl (XT.ii_ne_f hc113) ?_
        refine QTri.steps Ad W 3 (st' := (39, [some (.ref 1), some (.int x1), some (.int x2), some (.int x3), some (.int v)], [.int v, .ref 6], (H0 s o))) rfl ?_
        obtain ⟨y114, hy114, h⟩ := Option.bind_eq_some_iff.mp h
        refine QTri.bnd Ad W (f := fun y114 => (40, [some (.ref 1), some (.int x1), some (.int x2), some (.int x3), some (.int v)], [.int y114], (H0 s o))) rfl hy114 ?_
        refine QTri.steps Ad W 1 (st' := (41, [some (.ref 1), some (.int x1), some (.int x2), some (.int x3), some (.int v)], [.int x2, .int y114], (H0 s o))) rfl ?_
        rcases qite h with ⟨hc115, h⟩ | ⟨hc115, h⟩
        · refine QTri.brF Ad W (t := 58) (f := 44) (L := [some (.ref 1), some (.int x1), some (.int x2), some (.int x3), some (.int v)]) (S := []) (σ := (H0 s o)) rfl (XT.ii_ne_f hc115) ?_
          refine QTri.steps Ad W 3 (st' := (50, [some (.ref 1), some (.int x1), some (.int x2), some (.int x3), some (.int v)], [.int v, .ref 7], (H0 s o))) rfl ?_
          obtain ⟨y116, hy116, h⟩ := Option.bind_eq_some_iff.mp h
          refine QTri.bnd Ad W (f := fun y116 => (51, [some (.ref 1), some (.int x1), some (.int x2), some (.int x3), some (.int v)], [.int y116], (H0 s o))) rfl hy116 ?_
          refine QTri.steps Ad W 1 (st' := (52, [some (.ref 1), some (.int x1), some (.int x2), some (.int x3), some (.int v)], [.int x3, .int y116], (H0 s o))) rfl ?_
          rcases qite h with ⟨hc117, h⟩ | ⟨hc117, h⟩
          · refine QTri.brF Ad W (t := 58) (f := 55) (L := [some (.ref 1), some (.int x1), some (.int x2), some (.int x3), some (.int v)]) (S := []) (σ := (H0 s o)) rfl (XT.ii_ne_f hc117) ?_
            refine QTri.steps Ad W 1 (st' := (57, [some (.ref 1), some (.int x1), some (.int x2), some (.int x3), some (.int v)], [.int v], (H0 s o))) rfl ?_
            obtain rfl := Option.some.inj h
            obtain ⟨rfl, rfl⟩ := hx0 v rfl
            exact QTri.retI rfl rfl
          · refine QTri.brT Ad W (t := 58) (f := 55) (L := [some (.ref 1), some (.int x1), some (.int x2), some (.int x3), some (.int v)]) (S := []) (σ := (H0 s o)) rfl (XT.ii_ne_t hc117) ?_
            exact QTri.mask [true, true, true, true, true] (tJ24_58 Ad W s o x1 x2 x3 v h hx0 hc)
        · refine QTri.brT Ad W (t := 58) (f := 44) (L := [some (.ref 1), some (.int x1), some (.int x2), some (.int x3), some (.int v)]) (S := []) (σ := (H0 s o)) rfl (XT.ii_ne_t hc115) ?_
          exact QTri.mask [true, true, true, true, true] (tJ24_58 Ad W s o x1 x2 x3 v h hx0 hc)
      · refine QTri.brT Ad W (t := 58) (f := 33) (L := [some (.ref 1), some (.int x1), some (.int x2), some (.int x3), some (.int v)]) (S := []) (σ := (H0 s o)) rfl (XT.ii_ne_t hc113) ?_
        exact QTri.mask [true, true, true, true, true] (tJ24_58 Ad W s o x1 x2 x3 v h hx0 hc)
  · refine QTri.brT Ad W (t := 64) (f := 12) (L := [some (.ref 1), some (.int x1), some (.int x2), some (.int x3), some (.int v)]) (S := []) (σ := (H0 s o)) rfl (XT.ii_ge_t hc109) ?_
    refine QTri.steps Ad W 1 (st' := (65, [some (.ref 1), some (.int x1), some (.int x2), some (.int x3), some (.int v)], [.int (-1 : Int32)], (H0 s o))) rfl ?_
    obtain rfl := Option.some.inj h
    obtain ⟨rfl, rfl⟩ := hx0 (-1 : Int32) rfl
    exact QTri.retI rfl rfl
/-- findKey(III)I -/
def F24 (o : Ob) (x1 : Int32) (x2 : Int32) (x3 : Int32) : Option (Int32) :=
  (loopN (B24_3 o x1 x2 x3) qN (0 : Int32)).bind fun e118 => some e118
theorem tF24 (Ad : QAd n0 ad) (W : QW Z a0) (s : List Int32) (o : Ob) (x1 : Int32) (x2 : Int32) (x3 : Int32) {r : Int32} (h : F24 o x1 x2 x3 = some r) : QTri l Z n0 ad 24 (0, qentry [.ref 1, .int x1, .int x2, .int x3] (pMaxL 24), [], (H0 s o)) (some (Value.int r)) (H0 s o) := by
  unfold F24 at h
  refine QTri.steps Ad W 2 (st' := (3, [some (.ref 1), some (.int x1), some (.int x2), some (.int x3), some (.int (0 : Int32))], [], (H0 s o))) rfl ?_
  obtain ⟨e118, he118, h⟩ := Option.bind_eq_some_iff.mp h
  refine QTri.mask [true, true, true, true, true] (loopN_tri (B := B24_3 o x1 x2 x3) (T := fun lv119 => QTri l Z n0 ad 24 (3, [some (.ref 1), some (.int x1), some (.int x2), some (.int x3), some (.int lv119)], [], (H0 s o)) (some (Value.int r)) (H0 s o)) (KE := fun e118a => (some (Value.int r)) = (some (Value.int e118a)) ∧ (H0 s o) = (H0 s o)) (fun lv119 r hB hE hC => tB24_3 Ad W s o x1 x2 x3 lv119 hB (fun x q => hE _ q) (fun x q => hC x q)) qN (0 : Int32) e118 he118 ?_)
  obtain rfl := Option.some.inj h
  exact ⟨rfl, rfl⟩
def J25_33 (o : Ob) (x1 : Int32) : Option (((Int32)) ⊕ (Int32)) :=
  some (.inr (x1 + (1 : Int32)))
theorem tJ25_33 (Ad : QAd n0 ad) (W : QW Z a0) (s : List Int32) (o : Ob) (x1 : Int32) {r : ((Int32)) ⊕ (Int32)} {u : Option Value} {τ : QHeap} (h : J25_33 o x1 = some r) (hx0 : ∀ x : Int32, r = .inl x → u = (some (Value.int x)) ∧ τ = (H0 s o)) (hc : ∀ x : Int32, r = .inr x → QTri l Z n0 ad 25 (2, [some (.ref 1), some (.int x)], [], (H0 s o)) u τ) : QTri l Z n0 ad 25 (33, [some (.ref 1), some (.int x1)], [], (H0 s o)) u τ := by
  unfold J25_33 at h
  refine QTri.steps Ad W 2 (st' := (2, [some (.ref 1), some (.int (x1 + (1 : Int32)))], [], (H0 s o))) rfl ?_
  obtain rfl := Option.some.inj h
  exact QTri.mask [true, true] (hc (x1 + (1 : Int32)) rfl)
def B25_2 (o : Ob) (v : Int32) : Option (((Int32)) ⊕ (Int32)) :=
  (if v < (f_poolSize o) then (aget (f_live o) v).bind fun y126 => (if y126 = (0 : Int32) then (F17 o v).bind fun r128 => (if (f_clock o) < r128 then (J25_33 o v) else some (.inl v)) else (J25_33 o v)) else some (.inl (-1 : Int32)))
theorem tB25_2 (Ad : QAd n0 ad) (W : QW Z a0) (s : List Int32) (o : Ob) (v : Int32) {r : ((Int32)) ⊕ (Int32)} {u : Option Value} {τ : QHeap} (h : B25_2 o v = some r) (hx0 : ∀ x : Int32, r = .inl x → u = (some (Value.int x)) ∧ τ = (H0 s o)) (hc : ∀ x : Int32, r = .inr x → QTri l Z n0 ad 25 (2, [some (.ref 1), some (.int x)], [], (H0 s o)) u τ) : QTri l Z n0 ad 25 (2, [some (.ref 1), some (.int v)], [], (H0 s o)) u τ := by
  unfold B25_2 at h
  refine QTri.steps Ad W 3 (st' := (7, [some (.ref 1), some (.int v)], [.int (f_poolSize o), .int v], (H0 s o))) rfl ?_
  rcases qite h with ⟨hc125, h⟩ | ⟨hc125, h⟩
  · refine QTri.brF Ad W (t := 39) (f := 10) (L := [some (.ref 1), some (.int v)]) (S := []) (σ := (H0 s o)) rfl (XT.ii_ge_f hc125) ?_
    refine QTri.steps Ad W 3 (st' := (15, [some (.ref 1), some (.int v)], [.int v, .ref 2], (H0 s o))) rfl ?_
    obtain ⟨y126, hy126, h⟩ := Option.bind_eq_some_iff.mp h
    refine QTri.bnd Ad W (f := fun y126 => (16, [some (.ref 1), some (.int v)], [.int y126], (H0 s o))) rfl hy126 ?_
    rcases qite h with ⟨hc127, h⟩ | ⟨hc127, h⟩
    · refine QTri.brF Ad W (t := 33) (f := 19) (L := [some (.ref 1), some (.int v)]) (S := []) (σ := (H0 s o)) rfl (XT.i0_ne_f hc127) ?_
      refine QTri.steps Ad W 2 (st' := (21, [some (.ref 1), some (.int v)], [.int v, .ref 1], (H0 s o))) rfl ?_
      obtain ⟨r128, hr128, h⟩ := Option.bind_eq_some_iff.mp h
      refine QTri.callP W (a := 1) (as := [.int v]) (rest := []) (w := (some (.int r128))) (σ₁ := (H0 s o)) rfl rfl rfl rfl rfl rfl rfl rfl (tF17 Ad W s o v hr128) ?_
      refine QTri.steps Ad W 2 (st' := (28, [some (.ref 1), some (.int v)], [.int (f_clock o), .int r128], (H0 s o))) rfl ?_
      rcases qite h with ⟨hc129, h⟩ | ⟨hc129, h⟩
      · refine QTri.brT Ad W (t := 33) (f := 31) (L := [some (.ref 1), some (.int v)]) (S := []) (σ := (H0 s o)) rfl (XT.ii_gt_t hc129) ?_
        exact QTri.mask [true, true] (tJ25_33 Ad W s o v h hx0 hc)
      · refine QTri.brF Ad W (t := 33) (f := 31) (L := [some (.ref 1), some (.int v)]) (S := []) (σ := (H0 s o)) rfl (XT.ii_gt_f hc129) ?_
        refine QTri.steps Ad W 1 (st' := (32, [some (.ref 1), some (.int v)], [.int v], (H0 s o))) rfl ?_
        obtain rfl := Option.some.inj h
        obtain ⟨rfl, rfl⟩ := hx0 v rfl
        exact QTri.retI rfl rfl
    · refine QTri.brT Ad W (t := 33) (f := 19) (L := [some (.ref 1), some (.int v)]) (S := []) (σ := (H0 s o)) rfl (XT.i0_ne_t hc127) ?_
      exact QTri.mask [true, true] (tJ25_33 Ad W s o v h hx0 hc)
  · refine QTri.brT Ad W (t := 39) (f := 10) (L := [some (.ref 1), some (.int v)]) (S := []) (σ := (H0 s o)) rfl (XT.ii_ge_t hc125) ?_
    refine QTri.steps Ad W 1 (st' := (40, [some (.ref 1), some (.int v)], [.int (-1 : Int32)], (H0 s o))) rfl ?_
    obtain rfl := Option.some.inj h
    obtain ⟨rfl, rfl⟩ := hx0 (-1 : Int32) rfl
    exact QTri.retI rfl rfl
/-- allocatableSlot()I -/
def F25 (o : Ob) : Option (Int32) :=
  (loopN (B25_2 o) qN (0 : Int32)).bind fun e130 => some e130
theorem tF25 (Ad : QAd n0 ad) (W : QW Z a0) (s : List Int32) (o : Ob) {r : Int32} (h : F25 o = some r) : QTri l Z n0 ad 25 (0, qentry [.ref 1] (pMaxL 25), [], (H0 s o)) (some (Value.int r)) (H0 s o) := by
  unfold F25 at h
  refine QTri.steps Ad W 2 (st' := (2, [some (.ref 1), some (.int (0 : Int32))], [], (H0 s o))) rfl ?_
  obtain ⟨e130, he130, h⟩ := Option.bind_eq_some_iff.mp h
  refine QTri.mask [true, true] (loopN_tri (B := B25_2 o) (T := fun lv131 => QTri l Z n0 ad 25 (2, [some (.ref 1), some (.int lv131)], [], (H0 s o)) (some (Value.int r)) (H0 s o)) (KE := fun e130a => (some (Value.int r)) = (some (Value.int e130a)) ∧ (H0 s o) = (H0 s o)) (fun lv131 r hB hE hC => tB25_2 Ad W s o lv131 hB (fun x q => hE _ q) (fun x q => hC x q)) qN (0 : Int32) e130 he130 ?_)
  obtain rfl := Option.some.inj h
  exact ⟨rfl, rfl⟩
def B27_6 (x2 : Int32) (v : Int32 × Ob) : Option (((Ob)) ⊕ (Int32 × Ob)) :=
  (if v.1 < (4 : Int32) then (aset (f_perm v.2) (x2 + v.1) (0 : Int64)).bind fun y145 => some (.inr ((v.1 + (1 : Int32)), (s_perm v.2 y145))) else some (.inl v.2))
theorem tB27_6 (Ad : QAd n0 ad) (W : QW Z a0) (s : List Int32) (x2 : Int32) (v : Int32 × Ob) {r : ((Ob)) ⊕ (Int32 × Ob)} {u : Option Value} {τ : QHeap} (h : B27_6 x2 v = some r) (hx0 : ∀ x : Ob, r = .inl x → u = (none : Option Value) ∧ τ = (H0 s x)) (hc : ∀ x : Int32 × Ob, r = .inr x → QTri l Z n0 ad 27 (6, [some (.ref 1), none, some (.int x2), some (.int x.1)], [], (H0 s x.2)) u τ) : QTri l Z n0 ad 27 (6, [some (.ref 1), none, some (.int x2), some (.int v.1)], [], (H0 s v.2)) u τ := by
  unfold B27_6 at h
  refine QTri.steps Ad W 2 (st' := (8, [some (.ref 1), none, some (.int x2), some (.int v.1)], [.int (4 : Int32), .int v.1], (H0 s v.2))) rfl ?_
  rcases qite h with ⟨hc144, h⟩ | ⟨hc144, h⟩
  · refine QTri.brF Ad W (t := 26) (f := 11) (L := [some (.ref 1), none, some (.int x2), some (.int v.1)]) (S := []) (σ := (H0 s v.2)) rfl (XT.ii_ge_f hc144) ?_
    refine QTri.steps Ad W 6 (st' := (19, [some (.ref 1), none, some (.int x2), some (.int v.1)], [.long (0 : Int64), .int (x2 + v.1), .ref 10], (H0 s v.2))) rfl ?_
    obtain ⟨y145, hy145, h⟩ := Option.bind_eq_some_iff.mp h
    refine QTri.bnd Ad W (f := fun y145 => (20, [some (.ref 1), none, some (.int x2), some (.int v.1)], [], [.inr (.inl (.int, s)), .inl [.ref 2, .ref 3, .ref 4, .ref 5, .ref 6, .ref 7, .ref 8, .ref 9, .ref 10, .int (f_poolSize v.2), .int (f_udpTimeout v.2), .int (f_tcpTimeout v.2), .int (f_cooldown v.2), .int (f_clock v.2), .int (f_remAddr v.2), .int (f_remPort v.2), .int (f_regHost v.2), .int (f_regPort v.2), .int (f_regExt v.2)], .inr (.inl (.boolean, (f_live v.2))), .inr (.inl (.boolean, (f_used v.2))), .inr (.inl (.int, (f_freedAt v.2))), .inr (.inl (.int, (f_protoOf v.2))), .inr (.inl (.int, (f_hostOf v.2))), .inr (.inl (.int, (f_iportOf v.2))), .inr (.inl (.int, (f_stateAt v.2))), .inr (.inl (.int, (f_deadlineAt v.2))), .inr (.inr y145)])) rfl hy145 ?_
    refine QTri.steps Ad W 2 (st' := (6, [some (.ref 1), none, some (.int x2), some (.int (v.1 + (1 : Int32)))], [], [.inr (.inl (.int, s)), .inl [.ref 2, .ref 3, .ref 4, .ref 5, .ref 6, .ref 7, .ref 8, .ref 9, .ref 10, .int (f_poolSize v.2), .int (f_udpTimeout v.2), .int (f_tcpTimeout v.2), .int (f_cooldown v.2), .int (f_clock v.2), .int (f_remAddr v.2), .int (f_remPort v.2), .int (f_regHost v.2), .int (f_regPort v.2), .int (f_regExt v.2)], .inr (.inl (.boolean, (f_live v.2))), .inr (.inl (.boolean, (f_used v.2))), .inr (.inl (.int, (f_freedAt v.2))), .inr (.inl (.int, (f_protoOf v.2))), .inr (.inl (.int, (f_hostOf v.2))), .inr (.inl (.int, (f_iportOf v.2))), .inr (.inl (.int, (f_stateAt v.2))), .inr (.inl (.int, (f_deadlineAt v.2))), .inr (.inr y145)])) rfl ?_
    have E146 : ([.inr (.inl (.int, s)), .inl [.ref 2, .ref 3, .ref 4, .ref 5, .ref 6, .ref 7, .ref 8, .ref 9, .ref 10, .int (f_poolSize v.2), .int (f_udpTimeout v.2), .int (f_tcpTimeout v.2), .int (f_cooldown v.2), .int (f_clock v.2), .int (f_remAddr v.2), .int (f_remPort v.2), .int (f_regHost v.2), .int (f_regPort v.2), .int (f_regExt v.2)], .inr (.inl (.boolean, (f_live v.2))), .inr (.inl (.boolean, (f_used v.2))), .inr (.inl (.int, (f_freedAt v.2))), .inr (.inl (.int, (f_protoOf v.2))), .inr (.inl (.int, (f_hostOf v.2))), .inr (.inl (.int, (f_iportOf v.2))), .inr (.inl (.int, (f_stateAt v.2))), .inr (.inl (.int, (f_deadlineAt v.2))), .inr (.inr y145)] : QHeap) = (H0 s (s_perm v.2 y145)) := by dsimp only [H0, f_live, f_used, f_freedAt, f_protoOf, f_hostOf, f_iportOf, f_stateAt, f_deadlineAt, f_perm, f_poolSize, f_udpTimeout, f_tcpTimeout, f_cooldown, f_clock, f_remAddr, f_remPort, f_regHost, f_regPort, f_regExt, s_perm]
    rw [E146]
    obtain rfl := Option.some.inj h
    exact QTri.mask [true, false, true, true] (hc ((v.1 + (1 : Int32)), (s_perm v.2 y145)) rfl)
  · refine QTri.brT Ad W (t := 26) (f := 11) (L := [some (.ref 1), none, some (.int x2), some (.int v.1)]) (S := []) (σ := (H0 s v.2)) rfl (XT.ii_ge_t hc144) ?_
    obtain rfl := Option.some.inj h
    obtain ⟨rfl, rfl⟩ := hx0 v.2 rfl
    exact QTri.ret0 rfl rfl
/-- clearPerm(I)V -/
def F27 (o : Ob) (x1 : Int32) : Option (Ob) :=
  (loopN (B27_6 (x1 * (4 : Int32))) qN ((0 : Int32), o)).bind fun e147 => some e147
theorem tF27 (Ad : QAd n0 ad) (W : QW Z a0) (s : List Int32) (o : Ob) (x1 : Int32) {r : Ob} (h : F27 o x1 = some r) : QTri l Z n0 ad 27 (0, qentry [.ref 1, .int x1] (pMaxL 27), [], (H0 s o)) (none : Option Value) (H0 s r) := by
  unfold F27 at h
  refine QTri.steps Ad W 6 (st' := (6, [some (.ref 1), some (.int x1), some (.int (x1 * (4 : Int32))), some (.int (0 : Int32))], [], (H0 s o))) rfl ?_
  obtain ⟨e147, he147, h⟩ := Option.bind_eq_some_iff.mp h
  refine QTri.mask [true, false, true, true] (loopN_tri (B := B27_6 (x1 * (4 : Int32))) (T := fun lv148 => QTri l Z n0 ad 27 (6, [some (.ref 1), none, some (.int (x1 * (4 : Int32))), some (.int lv148.1)], [], (H0 s lv148.2)) (none : Option Value) (H0 s r)) (KE := fun e147a => (none : Option Value) = (none : Option Value) ∧ (H0 s r) = (H0 s e147a)) (fun lv148 r hB hE hC => tB27_6 Ad W s (x1 * (4 : Int32)) lv148 hB (fun x q => hE _ q) (fun x q => hC x q)) qN ((0 : Int32), o) e147 he147 ?_)
  obtain rfl := Option.some.inj h
  exact ⟨rfl, rfl⟩
/-- openMapping(IIII)V -/
def F26 (o : Ob) (x1 : Int32) (x2 : Int32) (x3 : Int32) (x4 : Int32) : Option (Ob) :=
  (aset (f_live o) x1 (1 : Int32)).bind fun y134 => (aset (f_protoOf o) x1 x2).bind fun y135 => (aset (f_hostOf o) x1 x3).bind fun y136 => (aset (f_iportOf o) x1 x4).bind fun y137 => (aset (f_stateAt o) x1 (if x2 = (17 : Int32) then (0 : Int32) else (1 : Int32))).bind fun y141 => (aset (f_deadlineAt o) x1 (f_clock o)).bind fun y142 => (F27 (s_deadlineAt (s_stateAt (s_iportOf (s_hostOf (s_protoOf (s_live o y134) y135) y136) y137) y141) y142) x1).bind fun r149 => some r149
theorem tF26 (Ad : QAd n0 ad) (W : QW Z a0) (s : List Int32) (o : Ob) (x1 : Int32) (x2 : Int32) (x3 : Int32) (x4 : Int32) {r : Ob} (h : F26 o x1 x2 x3 x4 = some r) : QTri l Z n0 ad 26 (0, qentry [.ref 1, .int x1, .int x2, .int x3, .int x4] (pMaxL 26), [], (H0 s o)) (none : Option Value) (H0 s r) := by
  unfold F26 at h
  refine QTri.steps Ad W 4 (st' := (6, [some (.ref 1), some (.int x1), some (.int x2), some (.int x3), some (.int x4)], [.int (1 : Int32), .int x1, .ref 2], (H0 s o))) rfl ?_
  obtain ⟨y134, hy134, h⟩ := Option.bind_eq_some_iff.mp h
  refine QTri.bnd Ad W (f := fun y134 => (7, [some (.ref 1), some (.int x1), some (.int x2), some (.int x3), some (.int x4)], [], [.inr (.inl (.int, s)), .inl [.ref 2, .ref 3, .ref 4, .ref 5, .ref 6, .ref 7, .ref 8, .ref 9, .ref 10, .int (f_poolSize o), .int (f_udpTimeout o), .int (f_tcpTimeout o), .int (f_cooldown o), .int (f_clock o), .int (f_remAddr o), .int (f_remPort o), .int (f_regHost o), .int (f_regPort o), .int (f_regExt o)], .inr (.inl (.boolean, y134)), .inr (.inl (.boolean, (f_used o))), .inr (.inl (.int, (f_freedAt o))), .inr (.inl (.int, (f_protoOf o))), .inr (.inl (.int, (f_hostOf o))), .inr (.inl (.int, (f_iportOf o))), .inr (.inl (.int, (f_stateAt o))), .inr (.inl (.int, (f_deadlineAt o))), .inr (.inr (f_perm o))])) rfl hy134 ?_
  refine QTri.steps Ad W 4 (st' := (13, [some (.ref 1), some (.int x1), some (.int x2), some (.int x3), some (.int x4)], [.int x2, .int x1, .ref 5], [.inr (.inl (.int, s)), .inl [.ref 2, .ref 3, .ref 4, .ref 5, .ref 6, .ref 7, .ref 8, .ref 9, .ref 10, .int (f_poolSize o), .int (f_udpTimeout o), .int (f_tcpTimeout o), .int (f_cooldown o), .int (f_clock o), .int (f_remAddr o), .int (f_remPort o), .int (f_regHost o), .int (f_regPort o), .int (f_regExt o)], .inr (.inl (.boolean, y134)), .inr (.inl (.boolean, (f_used o))), .inr (.inl (.int, (f_freedAt o))), .inr (.inl (.int, (f_protoOf o))), .inr (.inl (.int, (f_hostOf o))), .inr (.inl (.int, (f_iportOf o))), .inr (.inl (.int, (f_stateAt o))), .inr (.inl (.int, (f_deadlineAt o))), .inr (.inr (f_perm o))])) rfl ?_
  obtain ⟨y135, hy135, h⟩ := Option.bind_eq_some_iff.mp h
  refine QTri.bnd Ad W (f := fun y135 => (14, [some (.ref 1), some (.int x1), some (.int x2), some (.int x3), some (.int x4)], [], [.inr (.inl (.int, s)), .inl [.ref 2, .ref 3, .ref 4, .ref 5, .ref 6, .ref 7, .ref 8, .ref 9, .ref 10, .int (f_poolSize o), .int (f_udpTimeout o), .int (f_tcpTimeout o), .int (f_cooldown o), .int (f_clock o), .int (f_remAddr o), .int (f_remPort o), .int (f_regHost o), .int (f_regPort o), .int (f_regExt o)], .inr (.inl (.boolean, y134)), .inr (.inl (.boolean, (f_used o))), .inr (.inl (.int, (f_freedAt o))), .inr (.inl (.int, y135)), .inr (.inl (.int, (f_hostOf o))), .inr (.inl (.int, (f_iportOf o))), .inr (.inl (.int, (f_stateAt o))), .inr (.inl (.int, (f_deadlineAt o))), .inr (.inr (f_perm o))])) rfl hy135 ?_
  refine QTri.steps Ad W 4 (st' := (20, [some (.ref 1), some (.int x1), some (.int x2), some (.int x3), some (.int x4)], [.int x3, .int x1, .ref 6], [.inr (.inl (.int, s)), .inl [.ref 2, .ref 3, .ref 4, .ref 5, .ref 6, .ref 7, .ref 8, .ref 9, .ref 10, .int (f_poolSize o), .int (f_udpTimeout o), .int (f_tcpTimeout o), .int (f_cooldown o), .int (f_clock o), .int (f_remAddr o), .int (f_remPort o), .int (f_regHost o), .int (f_regPort o), .int (f_regExt o)], .inr (.inl (.boolean, y134)), .inr (.inl (.boolean, (f_used o))), .inr (.inl (.int, (f_freedAt o))), .inr (.inl (.int, y135)), .inr (.inl (.int, (f_hostOf o))), .inr (.inl (.int, (f_iportOf o))), .inr (.inl (.int, (f_stateAt o))), .inr (.inl (.int, (f_deadlineAt o))), .inr (.inr (f_perm o))])) rfl ?_
  obtain ⟨y136, hy136, h⟩ := Option.bind_eq_some_iff.mp h
  refine QTri.bnd Ad W (f := fun y136 => (21, [some (.ref 1), some (.int x1), some (.int x2), some (.int x3), some (.int x4)], [], [.inr (.inl (.int, s)), .inl [.ref 2, .ref 3, .ref 4, .ref 5, .ref 6, .ref 7, .ref 8, .ref 9, .ref 10, .int (f_poolSize o), .int (f_udpTimeout o), .int (f_tcpTimeout o), .int (f_cooldown o), .int (f_clock o), .int (f_remAddr o), .int (f_remPort o), .int (f_regHost o), .int (f_regPort o), .int (f_regExt o)], .inr (.inl (.boolean, y134)), .inr (.inl (.boolean, (f_used o))), .inr (.inl (.int, (f_freedAt o))), .inr (.inl (.int, y135)), .inr (.inl (.int, y136)), .inr (.inl (.int, (f_iportOf o))), .inr (.inl (.int, (f_stateAt o))), .inr (.inl (.int, (f_deadlineAt o))), .inr (.inr (f_perm o))])) rfl hy136 ?_
  refine QTri.steps Ad W 4 (st' := (28, [some (.ref 1), some (.int x1), some (.int x2), some (.int x3), some (.int x4)], [.int x4, .int x1, .ref 7], [.inr (.inl (.int, s)), .inl [.ref 2, .ref 3, .ref 4, .ref 5, .ref 6, .ref 7, .ref 8, .ref 9, .ref 10, .int (f_poolSize o), .int (f_udpTimeout o), .int (f_tcpTimeout o), .int (f_cooldown o), .int (f_clock o), .int (f_remAddr o), .int (f_remPort o), .int (f_regHost o), .int (f_regPort o), .int (f_regExt o)], .inr (.inl (.boolean, y134)), .inr (.inl (.boolean, (f_used o))), .inr (.inl (.int, (f_freedAt o))), .inr (.inl (.int, y135)), .inr (.inl (.int, y136)), .inr (.inl (.int, (f_iportOf o))), .inr (.inl (.int, (f_stateAt o))), .inr (.inl (.int, (f_deadlineAt o))), .inr (.inr (f_perm o))])) rfl ?_
  obtain ⟨y137, hy137, h⟩ := Option.bind_eq_some_iff.mp h
  refine QTri.bnd Ad W (f := fun y137 => (29, [some (.ref 1), some (.int x1), some (.int x2), some (.int x3), some (.int x4)], [], [.inr (.inl (.int, s)), .inl [.ref 2, .ref 3, .ref 4, .ref 5, .ref 6, .ref 7, .ref 8, .ref 9, .ref 10, .int (f_poolSize o), .int (f_udpTimeout o), .int (f_tcpTimeout o), .int (f_cooldown o), .int (f_clock o), .int (f_remAddr o), .int (f_remPort o), .int (f_regHost o), .int (f_regPort o), .int (f_regExt o)], .inr (.inl (.boolean, y134)), .inr (.inl (.boolean, (f_used o))), .inr (.inl (.int, (f_freedAt o))), .inr (.inl (.int, y135)), .inr (.inl (.int, y136)), .inr (.inl (.int, y137)), .inr (.inl (.int, (f_stateAt o))), .inr (.inl (.int, (f_deadlineAt o))), .inr (.inr (f_perm o))])) rfl hy137 ?_
  refine QTri.steps Ad W 5 (st' := (37, [some (.ref 1), some (.int x1), some (.int x2), some (.int x3), some (.int x4)], [.int (17 : Int32), .int x2, .int x1, .ref 8], [.inr (.inl (.int, s)), .inl [.ref 2, .ref 3, .ref 4, .ref 5, .ref 6, .ref 7, .ref 8, .ref 9, .ref 10, .int (f_poolSize o), .int (f_udpTimeout o), .int (f_tcpTimeout o), .int (f_cooldown o), .int (f_clock o), .int (f_remAddr o), .int (f_remPort o), .int (f_regHost o), .int (f_regPort o), .int (f_regExt o)], .inr (.inl (.boolean, y134)), .inr (.inl (.boolean, (f_used o))), .inr (.inl (.int, (f_freedAt o))), .inr (.inl (.int, y135)), .inr (.inl (.int, y136)), .inr (.inl (.int, y137)), .inr (.inl (.int, (f_stateAt o))), .inr (.inl (.int, (f_deadlineAt o))), .inr (.inr (f_perm o))])) rfl ?_
  have K139 : ∀ z138 : Int32, z138 = (if x2 = (17 : Int32) then (0 : Int32) else (1 : Int32)) → QTri l Z n0 ad 26 (45, [some (.ref 1), some (.int x1), none, none, none], [.int z138, .int x1, .ref 8], [.inr (.inl (.int, s)), .inl [.ref 2, .ref 3, .ref 4, .ref 5, .ref 6, .ref 7, .ref 8, .ref 9, .ref 10, .int (f_poolSize o), .int (f_udpTimeout o), .int (f_tcpTimeout o), .int (f_cooldown o), .int (f_clock o), .int (f_remAddr o), .int (f_remPort o), .int (f_regHost o), .int (f_regPort o), .int (f_regExt o)], .inr (.inl (.boolean, y134)), .inr (.inl (.boolean, (f_used o))), .inr (.inl (.int, (f_freedAt o))), .inr (.inl (.int, y135)), .inr (.inl (.int, y136)), .inr (.inl (.int, y137)), .inr (.inl (.int, (f_stateAt o))), .inr (.inl (.int, (f_deadlineAt o))), .inr (.inr (f_perm o))]) (none : Option Value) (H0 s r) := by
    intro z138 ez138
    subst ez138
    obtain ⟨y141, hy141, h⟩ := Option.bind_eq_some_iff.mp h
    refine QTri.bnd Ad W (f := fun y141 => (46, [some (.ref 1), some (.int x1), none, none, none], [], [.inr (.inl (.int, s)), .inl [.ref 2, .ref 3, .ref 4, .ref 5, .ref 6, .ref 7, .ref 8, .ref 9, .ref 10, .int (f_poolSize o), .int (f_udpTimeout o), .int (f_tcpTimeout o), .int (f_cooldown o), .int (f_clock o), .int (f_remAddr o), .int (f_remPort o), .int (f_regHost o), .int (f_regPort o), .int (f_regExt o)], .inr (.inl (.boolean, y134)), .inr (.inl (.boolean, (f_used o))), .inr (.inl (.int, (f_freedAt o))), .inr (.inl (.int, y135)), .inr (.inl (.int, y136)), .inr (.inl (.int, y137)), .inr (.inl (.int, y141)), .inr (.inl (.int, (f_deadlineAt o))), .inr (.inr (f_perm o))])) rfl hy141 ?_
    refine QTri.steps Ad W 5 (st' := (55, [some (.ref 1), some (.int x1), none, none, none], [.int (f_clock o), .int x1, .ref 9], [.inr (.inl (.int, s)), .inl [.ref 2, .ref 3, .ref 4, .ref 5, .ref 6, .ref 7, .ref 8, .ref 9, .ref 10, .int (f_poolSize o), .int (f_udpTimeout o), .int (f_tcpTimeout o), .int (f_cooldown o), .int (f_clock o), .int (f_remAddr o), .int (f_remPort o), .int (f_regHost o), .int (f_regPort o), .int (f_regExt o)], .inr (.inl (.boolean, y134)), .inr (.inl (.boolean, (f_used o))), .inr (.inl (.int, (f_freedAt o))), .inr (.inl (.int, y135)), .inr (.inl (.int, y136)), .inr (.inl (.int, y137)), .inr (.inl (.int, y141)), .inr (.inl (.int, (f_deadlineAt o))), .inr (.inr (f_perm o))])) rfl ?_
    obtain ⟨y142, hy142, h⟩ := Option.bind_eq_some_iff.mp h
    refine QTri.bnd Ad W (f := fun y142 => (56, [some (.ref 1), some (.int x1), none, none, none], [], [.inr (.inl (.int, s)), .inl [.ref 2, .ref 3, .ref 4, .ref 5, .ref 6, .ref 7, .ref 8, .ref 9, .ref 10, .int (f_poolSize o), .int (f_udpTimeout o), .int (f_tcpTimeout o), .int (f_cooldown o), .int (f_clock o), .int (f_remAddr o), .int (f_remPort o), .int (f_regHost o), .int (f_regPort o), .int (f_regExt o)], .inr (.inl (.boolean, y134)), .inr (.inl (.boolean, (f_used o))), .inr (.inl (.int, (f_freedAt o))), .inr (.inl (.int, y135)), .inr (.inl (.int, y136)), .inr (.inl (.int, y137)), .inr (.inl (.int, y141)), .inr (.inl (.int, y142)), .inr (.inr (f_perm o))])) rfl hy142 ?_
    refine QTri.steps Ad W 2 (st' := (58, [some (.ref 1), some (.int x1), none, none, none], [.int x1, .ref 1], [.inr (.inl (.int, s)), .inl [.ref 2, .ref 3, .ref 4, .ref 5, .ref 6, .ref 7, .ref 8, .ref 9, .ref 10, .int (f_poolSize o), .int (f_udpTimeout o), .int (f_tcpTimeout o), .int (f_cooldown o), .int (f_clock o), .int (f_remAddr o), .int (f_remPort o), .int (f_regHost o), .int (f_regPort o), .int (f_regExt o)], .inr (.inl (.boolean, y134)), .inr (.inl (.boolean, (f_used o))), .inr (.inl (.int, (f_freedAt o))), .inr (.inl (.int, y135)), .inr (.inl (.int, y136)), .inr (.inl (.int, y137)), .inr (.inl (.int, y141)), .inr (.inl (.int, y142)), .inr (.inr (f_perm o))])) rfl ?_
    have E143 : ([.inr (.inl (.int, s)), .inl [.ref 2, .ref 3, .ref 4, .ref 5, .ref 6, .ref 7, .ref 8, .ref 9, .ref 10, .int (f_poolSize o), .int (f_udpTimeout o), .int (f_tcpTimeout o), .int (f_cooldown o), .int (f_clock o), .int (f_remAddr o), .int (f_remPort o), .int (f_regHost o), .int (f_regPort o), .int (f_regExt o)], .inr (.inl (.boolean, y134)), .inr (.inl (.boolean, (f_used o))), .inr (.inl (.int, (f_freedAt o))), .inr (.inl (.int, y135)), .inr (.inl (.int, y136)), .inr (.inl (.int, y137)), .inr (.inl (.int, y141)), .inr (.inl (.int, y142)), .inr (.inr (f_perm o))] : QHeap) = (H0 s (s_deadlineAt (s_stateAt (s_iportOf (s_hostOf (s_protoOf (s_live o y134) y135) y136) y137) y141) y142)) := by dsimp only [H0, f_live, f_used, f_freedAt, f_protoOf, f_hostOf, f_iportOf, f_stateAt, f_deadlineAt, f_perm, f_poolSize, f_udpTimeout, f_tcpTimeout, f_cooldown, f_clock, f_remAddr, f_remPort, f_regHost, f_regPort, f_regExt, s_live, s_protoOf, s_hostOf, s_iportOf, s_stateAt, s_deadlineAt]
    rw [E143]
    obtain ⟨r149, hr149, h⟩ := Option.bind_eq_some_iff.mp h
    refine QTri.callP W (a := 1) (as := [.int x1]) (rest := []) (w := none) (σ₁ := (H0 s r149)) rfl rfl rfl rfl rfl rfl rfl rfl (tF27 Ad W s (s_deadlineAt (s_stateAt (s_iportOf (s_hostOf (s_protoOf (s_live o y134) y135) y136) y137) y141) y142) x1 hr149) ?_
    obtain rfl := Option.some.inj h
    exact QTri.ret0 rfl rfl
  rcases Classical.em (x2 = (17 : Int32)) with hc140 | hc140
  · refine QTri.brF Ad W (t := 44) (f := 40) (L := [some (.ref 1), some (.int x1), some (.int x2), some (.int x3), some (.int x4)]) (S := [.int x1, .ref 8]) (σ := [.inr (.inl (.int, s)), .inl [.ref 2, .ref 3, .ref 4, .ref 5, .ref 6, .ref 7, .ref 8, .ref 9, .ref 10, .int (f_poolSize o), .int (f_udpTimeout o), .int (f_tcpTimeout o), .int (f_cooldown o), .int (f_clock o), .int (f_remAddr o), .int (f_remPort o), .int (f_regHost o), .int (f_regPort o), .int (f_regExt o)], .inr (.inl (.boolean, y134)), .inr (.inl (.boolean, (f_used o))), .inr (.inl (.int, (f_freedAt o))), .inr (.inl (.int, y135)), .inr (.inl (.int, y136)), .inr (.inl (.int, y137)), .inr (.inl (.int, (f_stateAt o))), .inr (.inl (.int, (f_deadlineAt o))), .inr (.inr (f_perm o))]) rfl (XT.ii_ne_f hc140) ?_
    refine QTri.steps Ad W 2 (st' := (45, [some (.ref 1), some (.int x1), some (.int x2), some (.int x3), some (.int x4)], [.int (0 : Int32), .int x1, .ref 8], [.inr (.inl (.int, s)), .inl [.ref 2, .ref 3, .ref 4, .ref 5, .ref 6, .ref 7, .ref 8, .ref 9, .ref 10, .int (f_poolSize o), .int (f_udpTimeout o), .int (f_tcpTimeout o), .int (f_cooldown o), .int (f_clock o), .int (f_remAddr o), .int (f_remPort o), .int (f_regHost o), .int (f_regPort o), .int (f_regExt o)], .inr (.inl (.boolean, y134)), .inr (.inl (.boolean, (f_used o))), .inr (.inl (.int, (f_freedAt o))), .inr (.inl (.int, y135)), .inr (.inl (.int, y136)), .inr (.inl (.int, y137)), .inr (.inl (.int, (f_stateAt o))), .inr (.inl (.int, (f_deadlineAt o))), .inr (.inr (f_perm o))])) rfl ?_
    exact QTri.mask [true, true, false, false, false] (K139 _ (if_pos hc140).symm)
  · refine QTri.brT Ad W (t := 44) (f := 40) (L := [some (.ref 1), some (.int x1), some (.int x2), some (.int x3), some (.int x4)]) (S := [.int x1, .ref 8]) (σ := [.inr (.inl (.int, s)), .inl [.ref 2, .ref 3, .ref 4, .ref 5, .ref 6, .ref 7, .ref 8, .ref 9, .ref 10, .int (f_poolSize o), .int (f_udpTimeout o), .int (f_tcpTimeout o), .int (f_cooldown o), .int (f_clock o), .int (f_remAddr o), .int (f_remPort o), .int (f_regHost o), .int (f_regPort o), .int (f_regExt o)], .inr (.inl (.boolean, y134)), .inr (.inl (.boolean, (f_used o))), .inr (.inl (.int, (f_freedAt o))), .inr (.inl (.int, y135)), .inr (.inl (.int, y136)), .inr (.inl (.int, y137)), .inr (.inl (.int, (f_stateAt o))), .inr (.inl (.int, (f_deadlineAt o))), .inr (.inr (f_perm o))]) rfl (XT.ii_ne_t hc140) ?_
    refine QTri.steps Ad W 1 (st' := (45, [some (.ref 1), some (.int x1), some (.int x2), some (.int x3), some (.int x4)], [.int (1 : Int32), .int x1, .ref 8], [.inr (.inl (.int, s)), .inl [.ref 2, .ref 3, .ref 4, .ref 5, .ref 6, .ref 7, .ref 8, .ref 9, .ref 10, .int (f_poolSize o), .int (f_udpTimeout o), .int (f_tcpTimeout o), .int (f_cooldown o), .int (f_clock o), .int (f_remAddr o), .int (f_remPort o), .int (f_regHost o), .int (f_regPort o), .int (f_regExt o)], .inr (.inl (.boolean, y134)), .inr (.inl (.boolean, (f_used o))), .inr (.inl (.int, (f_freedAt o))), .inr (.inl (.int, y135)), .inr (.inl (.int, y136)), .inr (.inl (.int, y137)), .inr (.inl (.int, (f_stateAt o))), .inr (.inl (.int, (f_deadlineAt o))), .inr (.inr (f_perm o))])) rfl ?_
    exact QTri.mask [true, true, false, false, false] (K139 _ (if_neg hc140).symm)
/-- addPerm(II)V -/
def F28 (o : Ob) (x1 : Int32) (x2 : Int32) : Option (Ob) :=
  (aget (f_perm o) ((x1 * (4 : Int32)) + ((x2 >>> ((6 : Int32) &&& 31)) &&& (3 : Int32)))).bind fun y151 => (aset (f_perm o) ((x1 * (4 : Int32)) + ((x2 >>> ((6 : Int32) &&& 31)) &&& (3 : Int32))) (y151 ||| ((1 : Int64) <<< ((x2 &&& (63 : Int32)).toInt64 &&& 63)))).bind fun y152 => some (s_perm o y152)
theorem tF28 (Ad : QAd n0 ad) (W : QW Z a0) (s : List Int32) (o : Ob) (x1 : Int32) (x2 : Int32) {r : Ob} (h : F28 o x1 x2 = some r) : QTri l Z n0 ad 28 (0, qentry [.ref 1, .int x1, .int x2] (pMaxL 28), [], (H0 s o)) (none : Option Value) (H0 s r) := by
  unfold F28 at h
  refine QTri.steps Ad W 12 (st' := (15, [some (.ref 1), some (.int x1), some (.int x2), some (.int ((x1 * (4 : Int32)) + ((x2 >>> ((6 : Int32) &&& 31)) &&& (3 : Int32))))], [.ref 10], (H0 s o))) rfl ?_
  refine QTri.steps Ad W 4 (st' := (21, [some (.ref 1), some (.int x1), some (.int x2), some (.int ((x1 * (4 : Int32)) + ((x2 >>> ((6 : Int32) &&& 31)) &&& (3 : Int32))))], [.int ((x1 * (4 : Int32)) + ((x2 >>> ((6 : Int32) &&& 31)) &&& (3 : Int32))), .ref 10, .int ((x1 * (4 : Int32)) + ((x2 >>> ((6 : Int32) &&& 31)) &&& (3 : Int32))), .ref 10], (H0 s o))) rfl ?_
  obtain ⟨y151, hy151, h⟩ := Option.bind_eq_some_iff.mp h
  refine QTri.bnd Ad W (f := fun y151 => (22, [some (.ref 1), some (.int x1), some (.int x2), some (.int ((x1 * (4 : Int32)) + ((x2 >>> ((6 : Int32) &&& 31)) &&& (3 : Int32))))], [.long y151, .int ((x1 * (4 : Int32)) + ((x2 >>> ((6 : Int32) &&& 31)) &&& (3 : Int32))), .ref 10], (H0 s o))) rfl hy151 ?_
  refine QTri.steps Ad W 6 (st' := (29, [some (.ref 1), some (.int x1), some (.int x2), some (.int ((x1 * (4 : Int32)) + ((x2 >>> ((6 : Int32) &&& 31)) &&& (3 : Int32))))], [.long (y151 ||| ((1 : Int64) <<< ((x2 &&& (63 : Int32)).toInt64 &&& 63))), .int ((x1 * (4 : Int32)) + ((x2 >>> ((6 : Int32) &&& 31)) &&& (3 : Int32))), .ref 10], (H0 s o))) rfl ?_
  obtain ⟨y152, hy152, h⟩ := Option.bind_eq_some_iff.mp h
  refine QTri.bnd Ad W (f := fun y152 => (30, [some (.ref 1), some (.int x1), some (.int x2), some (.int ((x1 * (4 : Int32)) + ((x2 >>> ((6 : Int32) &&& 31)) &&& (3 : Int32))))], [], [.inr (.inl (.int, s)), .inl [.ref 2, .ref 3, .ref 4, .ref 5, .ref 6, .ref 7, .ref 8, .ref 9, .ref 10, .int (f_poolSize o), .int (f_udpTimeout o), .int (f_tcpTimeout o), .int (f_cooldown o), .int (f_clock o), .int (f_remAddr o), .int (f_remPort o), .int (f_regHost o), .int (f_regPort o), .int (f_regExt o)], .inr (.inl (.boolean, (f_live o))), .inr (.inl (.boolean, (f_used o))), .inr (.inl (.int, (f_freedAt o))), .inr (.inl (.int, (f_protoOf o))), .inr (.inl (.int, (f_hostOf o))), .inr (.inl (.int, (f_iportOf o))), .inr (.inl (.int, (f_stateAt o))), .inr (.inl (.int, (f_deadlineAt o))), .inr (.inr y152)])) rfl hy152 ?_
  have E153 : ([.inr (.inl (.int, s)), .inl [.ref 2, .ref 3, .ref 4, .ref 5, .ref 6, .ref 7, .ref 8, .ref 9, .ref 10, .int (f_poolSize o), .int (f_udpTimeout o), .int (f_tcpTimeout o), .int (f_cooldown o), .int (f_clock o), .int (f_remAddr o), .int (f_remPort o), .int (f_regHost o), .int (f_regPort o), .int (f_regExt o)], .inr (.inl (.boolean, (f_live o))), .inr (.inl (.boolean, (f_used o))), .inr (.inl (.int, (f_freedAt o))), .inr (.inl (.int, (f_protoOf o))), .inr (.inl (.int, (f_hostOf o))), .inr (.inl (.int, (f_iportOf o))), .inr (.inl (.int, (f_stateAt o))), .inr (.inl (.int, (f_deadlineAt o))), .inr (.inr y152)] : QHeap) = (H0 s (s_perm o y152)) := by dsimp only [H0, f_live, f_used, f_freedAt, f_protoOf, f_hostOf, f_iportOf, f_stateAt, f_deadlineAt, f_perm, f_poolSize, f_udpTimeout, f_tcpTimeout, f_cooldown, f_clock, f_remAddr, f_remPort, f_regHost, f_regPort, f_regExt, s_perm]
  rw [E153]
  obtain rfl := Option.some.inj h
  exact QTri.ret0 rfl rfl
/-- timeoutOf(I)I -/
def F30 (o : Ob) (x1 : Int32) : Option (Int32) :=
  (if x1 = (0 : Int32) then some (f_udpTimeout o) else (if x1 = (2 : Int32) then some (f_tcpTimeout o) else some (10 : Int32)))
theorem tF30 (Ad : QAd n0 ad) (W : QW Z a0) (s : List Int32) (o : Ob) (x1 : Int32) {r : Int32} (h : F30 o x1 = some r) : QTri l Z n0 ad 30 (0, qentry [.ref 1, .int x1] (pMaxL 30), [], (H0 s o)) (some (Value.int r)) (H0 s o) := by
  unfold F30 at h
  refine QTri.steps Ad W 1 (st' := (1, [some (.ref 1), some (.int x1)], [.int x1], (H0 s o))) rfl ?_
  rcases qite h with ⟨hc173, h⟩ | ⟨hc173, h⟩
  · refine QTri.brF Ad W (t := 9) (f := 4) (L := [some (.ref 1), some (.int x1)]) (S := []) (σ := (H0 s o)) rfl (XT.i0_ne_f hc173) ?_
    refine QTri.steps Ad W 2 (st' := (8, [some (.ref 1), some (.int x1)], [.int (f_udpTimeout o)], (H0 s o))) rfl ?_
    obtain rfl := Option.some.inj h
    exact QTri.retI rfl rfl
  · refine QTri.brT Ad W (t := 9) (f := 4) (L := [some (.ref 1), some (.int x1)]) (S := []) (σ := (H0 s o)) rfl (XT.i0_ne_t hc173) ?_
    refine QTri.steps Ad W 2 (st' := (11, [some (.ref 1), some (.int x1)], [.int (2 : Int32), .int x1], (H0 s o))) rfl ?_
    rcases qite h with ⟨hc174, h⟩ | ⟨hc174, h⟩
    · refine QTri.brF Ad W (t := 19) (f := 14) (L := [some (.ref 1), some (.int x1)]) (S := []) (σ := (H0 s o)) rfl (XT.ii_ne_f hc174) ?_
      refine QTri.steps Ad W 2 (st' := (18, [some (.ref 1), some (.int x1)], [.int (f_tcpTimeout o)], (H0 s o))) rfl ?_
      obtain rfl := Option.some.inj h
      exact QTri.retI rfl rfl
    · refine QTri.brT Ad W (t := 19) (f := 14) (L := [some (.ref 1), some (.int x1)]) (S := []) (σ := (H0 s o)) rfl (XT.ii_ne_t hc174) ?_
      refine QTri.steps Ad W 1 (st' := (21, [some (.ref 1), some (.int x1)], [.int (10 : Int32)], (H0 s o))) rfl ?_
      obtain rfl := Option.some.inj h
      exact QTri.retI rfl rfl
def J29_112 (o : Ob) (x1 : Int32) (x4 : Int32) : Option (Ob) :=
  (aset (f_stateAt o) x1 x4).bind fun y171 => (F30 (s_stateAt o y171) x4).bind fun r175 => (aset (f_deadlineAt (s_stateAt o y171)) x1 ((f_clock o) + r175)).bind fun y176 => some (s_deadlineAt (s_stateAt o y171) y176)
theorem tJ29_112 (Ad : QAd n0 ad) (W : QW Z a0) (s : List Int32) (o : Ob) (x1 : Int32) (x4 : Int32) {r : Ob} (h : J29_112 o x1 x4 = some r) : QTri l Z n0 ad 29 (112, [some (.ref 1), some (.int x1), none, none, some (.int x4), none, none], [], (H0 s o)) (none : Option Value) (H0 s r) := by
  unfold J29_112 at h
  refine QTri.steps Ad W 4 (st' := (119, [some (.ref 1), some (.int x1), none, none, some (.int x4), none, none], [.int x4, .int x1, .ref 8], (H0 s o))) rfl ?_
  obtain ⟨y171, hy171, h⟩ := Option.bind_eq_some_iff.mp h
  refine QTri.bnd Ad W (f := fun y171 => (120, [some (.ref 1), some (.int x1), none, none, some (.int x4), none, none], [], [.inr (.inl (.int, s)), .inl [.ref 2, .ref 3, .ref 4, .ref 5, .ref 6, .ref 7, .ref 8, .ref 9, .ref 10, .int (f_poolSize o), .int (f_udpTimeout o), .int (f_tcpTimeout o), .int (f_cooldown o), .int (f_clock o), .int (f_remAddr o), .int (f_remPort o), .int (f_regHost o), .int (f_regPort o), .int (f_regExt o)], .inr (.inl (.boolean, (f_live o))), .inr (.inl (.boolean, (f_used o))), .inr (.inl (.int, (f_freedAt o))), .inr (.inl (.int, (f_protoOf o))), .inr (.inl (.int, (f_hostOf o))), .inr (.inl (.int, (f_iportOf o))), .inr (.inl (.int, y171)), .inr (.inl (.int, (f_deadlineAt o))), .inr (.inr (f_perm o))])) rfl hy171 ?_
  refine QTri.steps Ad W 7 (st' := (132, [some (.ref 1), some (.int x1), none, none, some (.int x4), none, none], [.int x4, .ref 1, .int (f_clock o), .int x1, .ref 9], [.inr (.inl (.int, s)), .inl [.ref 2, .ref 3, .ref 4, .ref 5, .ref 6, .ref 7, .ref 8, .ref 9, .ref 10, .int (f_poolSize o), .int (f_udpTimeout o), .int (f_tcpTimeout o), .int (f_cooldown o), .int (f_clock o), .int (f_remAddr o), .int (f_remPort o), .int (f_regHost o), .int (f_regPort o), .int (f_regExt o)], .inr (.inl (.boolean, (f_live o))), .inr (.inl (.boolean, (f_used o))), .inr (.inl (.int, (f_freedAt o))), .inr (.inl (.int, (f_protoOf o))), .inr (.inl (.int, (f_hostOf o))), .inr (.inl (.int, (f_iportOf o))), .inr (.inl (.int, y171)), .inr (.inl (.int, (f_deadlineAt o))), .inr (.inr (f_perm o))])) rfl ?_
  have E172 : ([.inr (.inl (.int, s)), .inl [.ref 2, .ref 3, .ref 4, .ref 5, .ref 6, .ref 7, .ref 8, .ref 9, .ref 10, .int (f_poolSize o), .int (f_udpTimeout o), .int (f_tcpTimeout o), .int (f_cooldown o), .int (f_clock o), .int (f_remAddr o), .int (f_remPort o), .int (f_regHost o), .int (f_regPort o), .int (f_regExt o)], .inr (.inl (.boolean, (f_live o))), .inr (.inl (.boolean, (f_used o))), .inr (.inl (.int, (f_freedAt o))), .inr (.inl (.int, (f_protoOf o))), .inr (.inl (.int, (f_hostOf o))), .inr (.inl (.int, (f_iportOf o))), .inr (.inl (.int, y171)), .inr (.inl (.int, (f_deadlineAt o))), .inr (.inr (f_perm o))] : QHeap) = (H0 s (s_stateAt o y171)) := by dsimp only [H0, f_live, f_used, f_freedAt, f_protoOf, f_hostOf, f_iportOf, f_stateAt, f_deadlineAt, f_perm, f_poolSize, f_udpTimeout, f_tcpTimeout, f_cooldown, f_clock, f_remAddr, f_remPort, f_regHost, f_regPort, f_regExt, s_stateAt]
  rw [E172]
  obtain ⟨r175, hr175, h⟩ := Option.bind_eq_some_iff.mp h
  refine QTri.callP W (a := 1) (as := [.int x4]) (rest := [.int (f_clock o), .int x1, .ref 9]) (w := (some (.int r175))) (σ₁ := (H0 s (s_stateAt o y171))) rfl rfl rfl rfl rfl rfl rfl rfl (tF30 Ad W s (s_stateAt o y171) x4 hr175) ?_
  refine QTri.steps Ad W 1 (st' := (136, [some (.ref 1), some (.int x1), none, none, some (.int x4), none, none], [.int ((f_clock o) + r175), .int x1, .ref 9], (H0 s (s_stateAt o y171)))) rfl ?_
  obtain ⟨y176, hy176, h⟩ := Option.bind_eq_some_iff.mp h
  refine QTri.bnd Ad W (f := fun y176 => (137, [some (.ref 1), some (.int x1), none, none, some (.int x4), none, none], [], [.inr (.inl (.int, s)), .inl [.ref 2, .ref 3, .ref 4, .ref 5, .ref 6, .ref 7, .ref 8, .ref 9, .ref 10, .int (f_poolSize (s_stateAt o y171)), .int (f_udpTimeout (s_stateAt o y171)), .int (f_tcpTimeout (s_stateAt o y171)), .int (f_cooldown (s_stateAt o y171)), .int (f_clock (s_stateAt o y171)), .int (f_remAddr (s_stateAt o y171)), .int (f_remPort (s_stateAt o y171)), .int (f_regHost (s_stateAt o y171)), .int (f_regPort (s_stateAt o y171)), .int (f_regExt (s_stateAt o y171))], .inr (.inl (.boolean, (f_live (s_stateAt o y171)))), .inr (.inl (.boolean, (f_used (s_stateAt o y171)))), .inr (.inl (.int, (f_freedAt (s_stateAt o y171)))), .inr (.inl (.int, (f_protoOf (s_stateAt o y171)))), .inr (.inl (.int, (f_hostOf (s_stateAt o y171)))), .inr (.inl (.int, (f_iportOf (s_stateAt o y171)))), .inr (.inl (.int, (f_stateAt (s_stateAt o y171)))), .inr (.inl (.int, y176)), .inr (.inr (f_perm (s_stateAt o y171)))])) rfl hy176 ?_
  have E177 : ([.inr (.inl (.int, s)), .inl [.ref 2, .ref 3, .ref 4, .ref 5, .ref 6, .ref 7, .ref 8, .ref 9, .ref 10, .int (f_poolSize (s_stateAt o y171)), .int (f_udpTimeout (s_stateAt o y171)), .int (f_tcpTimeout (s_stateAt o y171)), .int (f_cooldown (s_stateAt o y171)), .int (f_clock (s_stateAt o y171)), .int (f_remAddr (s_stateAt o y171)), .int (f_remPort (s_stateAt o y171)), .int (f_regHost (s_stateAt o y171)), .int (f_regPort (s_stateAt o y171)), .int (f_regExt (s_stateAt o y171))], .inr (.inl (.boolean, (f_live (s_stateAt o y171)))), .inr (.inl (.boolean, (f_used (s_stateAt o y171)))), .inr (.inl (.int, (f_freedAt (s_stateAt o y171)))), .inr (.inl (.int, (f_protoOf (s_stateAt o y171)))), .inr (.inl (.int, (f_hostOf (s_stateAt o y171)))), .inr (.inl (.int, (f_iportOf (s_stateAt o y171)))), .inr (.inl (.int, (f_stateAt (s_stateAt o y171)))), .inr (.inl (.int, y176)), .inr (.inr (f_perm (s_stateAt o y171)))] : QHeap) = (H0 s (s_deadlineAt (s_stateAt o y171) y176)) := by dsimp only [H0, f_live, f_used, f_freedAt, f_protoOf, f_hostOf, f_iportOf, f_stateAt, f_deadlineAt, f_perm, f_poolSize, f_udpTimeout, f_tcpTimeout, f_cooldown, f_clock, f_remAddr, f_remPort, f_regHost, f_regPort, f_regExt, s_deadlineAt]
  rw [E177]
  obtain rfl := Option.some.inj h
  exact QTri.ret0 rfl rfl
def J29_89 (o : Ob) (x1 : Int32) (x3 : Int32) (x4 : Int32) (x5 : Int32) (x6 : Int32) : Option (Ob) :=
  (J29_112 o x1 (if x3 = (0 : Int32) then (if x4 = (3 : Int32) then (if x5 = (0 : Int32) then x4 else (if x6 = (0 : Int32) then (1 : Int32) else x4)) else x4) else x4))
theorem tJ29_89 (Ad : QAd n0 ad) (W : QW Z a0) (s : List Int32) (o : Ob) (x1 : Int32) (x3 : Int32) (x4 : Int32) (x5 : Int32) (x6 : Int32) {r : Ob} (h : J29_89 o x1 x3 x4 x5 x6 = some r) : QTri l Z n0 ad 29 (89, [some (.ref 1), some (.int x1), none, some (.int x3), some (.int x4), some (.int x5), some (.int x6)], [], (H0 s o)) (none : Option Value) (H0 s r) := by
  unfold J29_89 at h
  refine QTri.steps Ad W 1 (st' := (90, [some (.ref 1), some (.int x1), none, some (.int x3), some (.int x4), some (.int x5), some (.int x6)], [.int x3], (H0 s o))) rfl ?_
  have K166 : ∀ z165 : Int32, z165 = (if x3 = (0 : Int32) then (if x4 = (3 : Int32) then (if x5 = (0 : Int32) then x4 else (if x6 = (0 : Int32) then (1 : Int32) else x4)) else x4) else x4) → QTri l Z n0 ad 29 (112, [some (.ref 1), some (.int x1), none, none, some (.int z165), none, none], [], (H0 s o)) (none : Option Value) (H0 s r) := by
    intro z165 ez165
    subst ez165
    exact QTri.mask [true, true, false, false, true, false, false] (tJ29_112 Ad W s o x1 (if x3 = (0 : Int32) then (if x4 = (3 : Int32) then (if x5 = (0 : Int32) then x4 else (if x6 = (0 : Int32) then (1 : Int32) else x4)) else x4) else x4) h)
  rcases Classical.em (x3 = (0 : Int32)) with hc167 | hc167
  · refine QTri.brF Ad W (t := 112) (f := 93) (L := [some (.ref 1), some (.int x1), none, some (.int x3), some (.int x4), some (.int x5), some (.int x6)]) (S := []) (σ := (H0 s o)) rfl (XT.i0_ne_f hc167) ?_
    refine QTri.steps Ad W 2 (st' := (96, [some (.ref 1), some (.int x1), none, some (.int x3), some (.int x4), some (.int x5), some (.int x6)], [.int (3 : Int32), .int x4], (H0 s o))) rfl ?_
    rcases Classical.em (x4 = (3 : Int32)) with hc168 | hc168
    · refine QTri.brF Ad W (t := 112) (f := 99) (L := [some (.ref 1), some (.int x1), none, some (.int x3), some (.int x4), some (.int x5), some (.int x6)]) (S := []) (σ := (H0 s o)) rfl (XT.ii_ne_f hc168) ?_
      refine QTri.steps Ad W 1 (st' := (101, [some (.ref 1), some (.int x1), none, some (.int x3), some (.int x4), some (.int x5), some (.int x6)], [.int x5], (H0 s o))) rfl ?_
      rcases Classical.em (x5 = (0 : Int32)) with hc169 | hc169
      · refine QTri.brT Ad W (t := 112) (f := 104) (L := [some (.ref 1), some (.int x1), none, some (.int x3), some (.int x4), some (.int x5), some (.int x6)]) (S := []) (σ := (H0 s o)) rfl (XT.i0_eq_t hc169) ?_
        exact QTri.mask [true, true, false, false, true, false, false] (K166 _ ((if_pos hc167).trans ((if_pos hc168).trans (if_pos hc169))).symm)
      · refine QTri.brF Ad W (t := 112) (f := 104) (L := [some (.ref 1), some (.int x1), none, some (.int x3), some (.int x4), some (.int x5), some (.int x6)]) (S := []) (σ := (H0 s o)) rfl (XT.i0_eq_f hc169) ?_
        refine QTri.steps Ad W 1 (st' := (106, [some (.ref 1), some (.int x1), none, some (.int x3), some (.int x4), some (.int x5), some (.int x6)], [.int x6], (H0 s o))) rfl ?_
        rcases Classical.em (x6 = (0 : Int32)) with hc170 | hc170
        · refine QTri.brF Ad W (t := 112) (f := 109) (L := [some (.ref 1), some (.int x1), none, some (.int x3), some (.int x4), some (.int x5), some (.int x6)]) (S := []) (σ := (H0 s o)) rfl (XT.i0_ne_f hc170) ?_
          refine QTri.steps Ad W 2 (st' := (112, [some (.ref 1), some (.int x1), none, some (.int x3), some (.int (1 : Int32)), some (.int x5), some (.int x6)], [], (H0 s o))) rfl ?_
          exact QTri.mask [true, true, false, false, true, false, false] (K166 _ ((if_pos hc167).trans ((if_pos hc168).trans ((if_neg hc169).trans (if_pos hc170)))).symm)
        · refine QTri.brT Ad W (t := 112) (f := 109) (L := [some (.ref 1), some (.int x1), none, some (.int x3), some (.int x4), some (.int x5), some (.int x6)]) (S := []) (σ := (H0 s o)) rfl (XT.i0_ne_t hc170) ?_
          exact QTri.mask [true, true, false, false, true, false, false] (K166 _ ((if_pos hc167).trans ((if_pos hc168).trans ((if_neg hc169).trans (if_neg hc170)))).symm)
    · refine QTri.brT Ad W (t := 112) (f := 99) (L := [some (.ref 1), some (.int x1), none, some (.int x3), some (.int x4), some (.int x5), some (.int x6)]) (S := []) (σ := (H0 s o)) rfl (XT.ii_ne_t hc168) ?_
      exact QTri.mask [true, true, false, false, true, false, false] (K166 _ ((if_pos hc167).trans (if_neg hc168)).symm)
  · refine QTri.brT Ad W (t := 112) (f := 93) (L := [some (.ref 1), some (.int x1), none, some (.int x3), some (.int x4), some (.int x5), some (.int x6)]) (S := []) (σ := (H0 s o)) rfl (XT.i0_ne_t hc167) ?_
    exact QTri.mask [true, true, false, false, true, false, false] (K166 _ (if_neg hc167).symm)
/-- release(II)V -/
def F32 (o : Ob) (x1 : Int32) (x2 : Int32) : Option (Ob) :=
  (aset (f_live o) x1 (0 : Int32)).bind fun y191 => (aset (f_used o) x1 (1 : Int32)).bind fun y192 => (aset (f_freedAt o) x1 x2).bind fun y193 => (F27 (s_freedAt (s_used (s_live o y191) y192) y193) x1).bind fun r195 => some r195
theorem tF32 (Ad : QAd n0 ad) (W : QW Z a0) (s : List Int32) (o : Ob) (x1 : Int32) (x2 : Int32) {r : Ob} (h : F32 o x1 x2 = some r) : QTri l Z n0 ad 32 (0, qentry [.ref 1, .int x1, .int x2] (pMaxL 32), [], (H0 s o)) (none : Option Value) (H0 s r) := by
  unfold F32 at h
  refine QTri.steps Ad W 4 (st' := (6, [some (.ref 1), some (.int x1), some (.int x2)], [.int (0 : Int32), .int x1, .ref 2], (H0 s o))) rfl ?_
  obtain ⟨y191, hy191, h⟩ := Option.bind_eq_some_iff.mp h
  refine QTri.bnd Ad W (f := fun y191 => (7, [some (.ref 1), some (.int x1), some (.int x2)], [], [.inr (.inl (.int, s)), .inl [.ref 2, .ref 3, .ref 4, .ref 5, .ref 6, .ref 7, .ref 8, .ref 9, .ref 10, .int (f_poolSize o), .int (f_udpTimeout o), .int (f_tcpTimeout o), .int (f_cooldown o), .int (f_clock o), .int (f_remAddr o), .int (f_remPort o), .int (f_regHost o), .int (f_regPort o), .int (f_regExt o)], .inr (.inl (.boolean, y191)), .inr (.inl (.boolean, (f_used o))), .inr (.inl (.int, (f_freedAt o))), .inr (.inl (.int, (f_protoOf o))), .inr (.inl (.int, (f_hostOf o))), .inr (.inl (.int, (f_iportOf o))), .inr (.inl (.int, (f_stateAt o))), .inr (.inl (.int, (f_deadlineAt o))), .inr (.inr (f_perm o))])) rfl hy191 ?_
  refine QTri.steps Ad W 4 (st' := (13, [some (.ref 1), some (.int x1), some (.int x2)], [.int (1 : Int32), .int x1, .ref 3], [.inr (.inl (.int, s)), .inl [.ref 2, .ref 3, .ref 4, .ref 5, .ref 6, .ref 7, .ref 8, .ref 9, .ref 10, .int (f_poolSize o), .int (f_udpTimeout o), .int (f_tcpTimeout o), .int (f_cooldown o), .int (f_clock o), .int (f_remAddr o), .int (f_remPort o), .int (f_regHost o), .int (f_regPort o), .int (f_regExt o)], .inr (.inl (.boolean, y191)), .inr (.inl (.boolean, (f_used o))), .inr (.inl (.int, (f_freedAt o))), .inr (.inl (.int, (f_protoOf o))), .inr (.inl (.int, (f_hostOf o))), .inr (.inl (.int, (f_iportOf o))), .inr (.inl (.int, (f_stateAt o))), .inr (.inl (.int, (f_deadlineAt o))), .inr (.inr (f_perm o))])) rfl ?_
  obtain ⟨y192, hy192, h⟩ := Option.bind_eq_some_iff.mp h
  refine QTri.bnd Ad W (f := fun y192 => (14, [some (.ref 1), some (.int x1), some (.int x2)], [], [.inr (.inl (.int, s)), .inl [.ref 2, .ref 3, .ref 4, .ref 5, .ref 6, .ref 7, .ref 8, .ref 9, .ref 10, .int (f_poolSize o), .int (f_udpTimeout o), .int (f_tcpTimeout o), .int (f_cooldown o), .int (f_clock o), .int (f_remAddr o), .int (f_remPort o), .int (f_regHost o), .int (f_regPort o), .int (f_regExt o)], .inr (.inl (.boolean, y191)), .inr (.inl (.boolean, y192)), .inr (.inl (.int, (f_freedAt o))), .inr (.inl (.int, (f_protoOf o))), .inr (.inl (.int, (f_hostOf o))), .inr (.inl (.int, (f_iportOf o))), .inr (.inl (.int, (f_stateAt o))), .inr (.inl (.int, (f_deadlineAt o))), .inr (.inr (f_perm o))])) rfl hy192 ?_
  refine QTri.steps Ad W 4 (st' := (20, [some (.ref 1), some (.int x1), some (.int x2)], [.int x2, .int x1, .ref 4], [.inr (.inl (.int, s)), .inl [.ref 2, .ref 3, .ref 4, .ref 5, .ref 6, .ref 7, .ref 8, .ref 9, .ref 10, .int (f_poolSize o), .int (f_udpTimeout o), .int (f_tcpTimeout o), .int (f_cooldown o), .int (f_clock o), .int (f_remAddr o), .int (f_remPort o), .int (f_regHost o), .int (f_regPort o), .int (f_regExt o)], .inr (.inl (.boolean, y191)), .inr (.inl (.boolean, y192)), .inr (.inl (.int, (f_freedAt o))), .inr (.inl (.int, (f_protoOf o))), .inr (.inl (.int, (f_hostOf o))), .inr (.inl (.int, (f_iportOf o))), .inr (.inl (.int, (f_stateAt o))), .inr (.inl (.int, (f_deadlineAt o))), .inr (.inr (f_perm o))])) rfl ?_
  obtain ⟨y193, hy193, h⟩ := Option.bind_eq_some_iff.mp h
  refine QTri.bnd Ad W (f := fun y193 => (21, [some (.ref 1), some (.int x1), some (.int x2)], [], [.inr (.inl (.int, s)), .inl [.ref 2, .ref 3, .ref 4, .ref 5, .ref 6, .ref 7, .ref 8, .ref 9, .ref 10, .int (f_poolSize o), .int (f_udpTimeout o), .int (f_tcpTimeout o), .int (f_cooldown o), .int (f_clock o), .int (f_remAddr o), .int (f_remPort o), .int (f_regHost o), .int (f_regPort o), .int (f_regExt o)], .inr (.inl (.boolean, y191)), .inr (.inl (.boolean, y192)), .inr (.inl (.int, y193)), .inr (.inl (.int, (f_protoOf o))), .inr (.inl (.int, (f_hostOf o))), .inr (.inl (.int, (f_iportOf o))), .inr (.inl (.int, (f_stateAt o))), .inr (.inl (.int, (f_deadlineAt o))), .inr (.inr (f_perm o))])) rfl hy193 ?_
  refine QTri.steps Ad W 2 (st' := (23, [some (.ref 1), some (.int x1), some (.int x2)], [.int x1, .ref 1], [.inr (.inl (.int, s)), .inl [.ref 2, .ref 3, .ref 4, .ref 5, .ref 6, .ref 7, .ref 8, .ref 9, .ref 10, .int (f_poolSize o), .int (f_udpTimeout o), .int (f_tcpTimeout o), .int (f_cooldown o), .int (f_clock o), .int (f_remAddr o), .int (f_remPort o), .int (f_regHost o), .int (f_regPort o), .int (f_regExt o)], .inr (.inl (.boolean, y191)), .inr (.inl (.boolean, y192)), .inr (.inl (.int, y193)), .inr (.inl (.int, (f_protoOf o))), .inr (.inl (.int, (f_hostOf o))), .inr (.inl (.int, (f_iportOf o))), .inr (.inl (.int, (f_stateAt o))), .inr (.inl (.int, (f_deadlineAt o))), .inr (.inr (f_perm o))])) rfl ?_
  have E194 : ([.inr (.inl (.int, s)), .inl [.ref 2, .ref 3, .ref 4, .ref 5, .ref 6, .ref 7, .ref 8, .ref 9, .ref 10, .int (f_poolSize o), .int (f_udpTimeout o), .int (f_tcpTimeout o), .int (f_cooldown o), .int (f_clock o), .int (f_remAddr o), .int (f_remPort o), .int (f_regHost o), .int (f_regPort o), .int (f_regExt o)], .inr (.inl (.boolean, y191)), .inr (.inl (.boolean, y192)), .inr (.inl (.int, y193)), .inr (.inl (.int, (f_protoOf o))), .inr (.inl (.int, (f_hostOf o))), .inr (.inl (.int, (f_iportOf o))), .inr (.inl (.int, (f_stateAt o))), .inr (.inl (.int, (f_deadlineAt o))), .inr (.inr (f_perm o))] : QHeap) = (H0 s (s_freedAt (s_used (s_live o y191) y192) y193)) := by dsimp only [H0, f_live, f_used, f_freedAt, f_protoOf, f_hostOf, f_iportOf, f_stateAt, f_deadlineAt, f_perm, f_poolSize, f_udpTimeout, f_tcpTimeout, f_cooldown, f_clock, f_remAddr, f_remPort, f_regHost, f_regPort, f_regExt, s_live, s_used, s_freedAt]
  rw [E194]
  obtain ⟨r195, hr195, h⟩ := Option.bind_eq_some_iff.mp h
  refine QTri.callP W (a := 1) (as := [.int x1]) (rest := []) (w := none) (σ₁ := (H0 s r195)) rfl rfl rfl rfl rfl rfl rfl rfl (tF27 Ad W s (s_freedAt (s_used (s_live o y191) y192) y193) x1 hr195) ?_
  obtain rfl := Option.some.inj h
  exact QTri.ret0 rfl rfl
/-- update(IIZ)V -/
def F29 (o : Ob) (x1 : Int32) (x2 : Int32) (x3 : Int32) : Option (Ob) :=
  (if (x2 &&& (8 : Int32)) = (0 : Int32) then (aget (f_stateAt o) x1).bind fun y156 => (if (x2 &&& (4 : Int32)) = (0 : Int32) then (if x3 = (0 : Int32) then (J29_89 o x1 x3 y156 (if (x2 &&& (1 : Int32)) = (0 : Int32) then (0 : Int32) else (1 : Int32)) (if (x2 &&& (2 : Int32)) = (0 : Int32) then (0 : Int32) else (1 : Int32))) else (if y156 = (1 : Int32) then (J29_112 o x1 (if (if (x2 &&& (1 : Int32)) = (0 : Int32) then (0 : Int32) else (1 : Int32)) = (0 : Int32) then (if x3 = (0 : Int32) then (if y156 = (3 : Int32) then (if (if (x2 &&& (1 : Int32)) = (0 : Int32) then (0 : Int32) else (1 : Int32)) = (0 : Int32) then y156 else (if (if (x2 &&& (2 : Int32)) = (0 : Int32) then (0 : Int32) else (1 : Int32)) = (0 : Int32) then (1 : Int32) else y156)) else y156) else y156) else (if (if (x2 &&& (2 : Int32)) = (0 : Int32) then (0 : Int32) else (1 : Int32)) = (0 : Int32) then (if x3 = (0 : Int32) then (if y156 = (3 : Int32) then (if (if (x2 &&& (1 : Int32)) = (0 : Int32) then (0 : Int32) else (1 : Int32)) = (0 : Int32) then y156 else (if (if (x2 &&& (2 : Int32)) = (0 : Int32) then (0 : Int32) else (1 : Int32)) = (0 : Int32) then (1 : Int32) else y156)) else y156) else y156) else (2 : Int32)))) else (J29_89 o x1 x3 y156 (if (x2 &&& (1 : Int32)) = (0 : Int32) then (0 : Int32) else (1 : Int32)) (if (x2 &&& (2 : Int32)) = (0 : Int32) then (0 : Int32) else (1 : Int32))))) else (J29_112 o x1 (3 : Int32))) else (F32 o x1 (f_clock o)).bind fun r196 => some r196)
theorem tF29 (Ad : QAd n0 ad) (W : QW Z a0) (s : List Int32) (o : Ob) (x1 : Int32) (x2 : Int32) (x3 : Int32) {r : Ob} (h : F29 o x1 x2 x3 = some r) : QTri l Z n0 ad 29 (0, qentry [.ref 1, .int x1, .int x2, .int x3] (pMaxL 29), [], (H0 s o)) (none : Option Value) (H0 s r) := by
  unfold F29 at h
  refine QTri.steps Ad W 3 (st' := (4, [some (.ref 1), some (.int x1), some (.int x2), some (.int x3), none, none, none], [.int (x2 &&& (8 : Int32))], (H0 s o))) rfl ?_
  rcases qite h with ⟨hc155, h⟩ | ⟨hc155, h⟩
  · refine QTri.brT Ad W (t := 17) (f := 7) (L := [some (.ref 1), some (.int x1), some (.int x2), some (.int x3), none, none, none]) (S := []) (σ := (H0 s o)) rfl (XT.i0_eq_t hc155) ?_
    refine QTri.steps Ad W 3 (st' := (22, [some (.ref 1), some (.int x1), some (.int x2), some (.int x3), none, none, none], [.int x1, .ref 8], (H0 s o))) rfl ?_
    obtain ⟨y156, hy156, h⟩ := Option.bind_eq_some_iff.mp h
    refine QTri.bnd Ad W (f := fun y156 => (23, [some (.ref 1), some (.int x1), some (.int x2), some (.int x3), none, none, none], [.int y156], (H0 s o))) rfl hy156 ?_
    refine QTri.steps Ad W 4 (st' := (28, [some (.ref 1), some (.int x1), some (.int x2), some (.int x3), some (.int y156), none, none], [.int (x2 &&& (1 : Int32))], (H0 s o))) rfl ?_
    have K158 : ∀ z157 : Int32, z157 = (if (x2 &&& (1 : Int32)) = (0 : Int32) then (0 : Int32) else (1 : Int32)) → QTri l Z n0 ad 29 (36, [some (.ref 1), some (.int x1), some (.int x2), some (.int x3), some (.int y156), none, none], [.int z157], (H0 s o)) (none : Option Value) (H0 s r) := by
      intro z157 ez157
      subst ez157
      refine QTri.steps Ad W 4 (st' := (41, [some (.ref 1), some (.int x1), some (.int x2), some (.int x3), some (.int y156), some (.int (if (x2 &&& (1 : Int32)) = (0 : Int32) then (0 : Int32) else (1 : Int32))), none], [.int (x2 &&& (2 : Int32))], (H0 s o))) rfl ?_
      have K161 : ∀ z160 : Int32, z160 = (if (x2 &&& (2 : Int32)) = (0 : Int32) then (0 : Int32) else (1 : Int32)) → QTri l Z n0 ad 29 (49, [some (.ref 1), some (.int x1), some (.int x2), some (.int x3), some (.int y156), some (.int (if (x2 &&& (1 : Int32)) = (0 : Int32) then (0 : Int32) else (1 : Int32))), none], [.int z160], (H0 s o)) (none : Option Value) (H0 s r) := by
        intro z160 ez160
        subst ez160
        refine QTri.steps Ad W 4 (st' := (54, [some (.ref 1), some (.int x1), some (.int x2), some (.int x3), some (.int y156), some (.int (if (x2 &&& (1 : Int32)) = (0 : Int32) then (0 : Int32) else (1 : Int32))), some (.int (if (x2 &&& (2 : Int32)) = (0 : Int32) then (0 : Int32) else (1 : Int32)))], [.int (x2 &&& (4 : Int32))], (H0 s o))) rfl ?_
        rcases qite h with ⟨hc163, h⟩ | ⟨hc163, h⟩
        · refine QTri.brT Ad W (t := 63) (f := 57) (L := [some (.ref 1), some (.int x1), some (.int x2), some (.int x3), some (.int y156), some (.int (if (x2 &&& (1 : Int32)) = (0 : Int32) then (0 : Int32) else (1 : Int32))), some (.int (if (x2 &&& (2 : Int32)) = (0 : Int32) then (0 : Int32) else (1 : Int32)))]) (S := []) (σ := (H0 s o)) rfl (XT.i0_eq_t hc163) ?_
          refine QTri.steps Ad W 1 (st' := (64, [some (.ref 1), some (.int x1), some (.int x2), some (.int x3), some (.int y156), some (.int (if (x2 &&& (1 : Int32)) = (0 : Int32) then (0 : Int32) else (1 : Int32))), some (.int (if (x2 &&& (2 : Int32)) = (0 : Int32) then (0 : Int32) else (1 : Int32)))], [.int x3], (H0 s o))) rfl ?_
          rcases qite h with ⟨hc164, h⟩ | ⟨hc164, h⟩
          · refine QTri.brT Ad W (t := 89) (f := 67) (L := [some (.ref 1), some (.int x1), some (.int x2), some (.int x3), some (.int y156), some (.int (if (x2 &&& (1 : Int32)) = (0 : Int32) then (0 : Int32) else (1 : Int32))), some (.int (if (x2 &&& (2 : Int32)) = (0 : Int32) then (0 : Int32) else (1 : Int32)))]) (S := []) (σ := (H0 s o)) rfl (XT.i0_eq_t hc164) ?_
            exact QTri.mask [true, true, false, true, true, true, true] (tJ29_89 Ad W s o x1 x3 y156 (if (x2 &&& (1 : Int32)) = (0 : Int32) then (0 : Int32) else (1 : Int32)) (if (x2 &&& (2 : Int32)) = (0 : Int32) then (0 : Int32) else (1 : Int32)) h)
          · refine QTri.brF Ad W (t := 89) (f := 67) (L := [some (.ref 1), some (.int x1), some (.int x2), some (.int x3), some (.int y156), some (.int (if (x2 &&& (1 : Int32)) = (0 : Int32) then (0 : Int32) else (1 : Int32))), some (.int (if (x2 &&& (2 : Int32)) = (0 : Int32) then (0 : Int32) else (1 : Int32)))]) (S := []) (σ := (H0 s o)) rfl (XT.i0_eq_f hc164) ?_
            refine QTri.steps Ad W 2 (st' := (70, [some (.ref 1), some (.int x1), some (.int x2), some (.int x3), some (.int y156), some (.int (if (x2 &&& (1 : Int32)) = (0 : Int32) then (0 : Int32) else (1 : Int32))), some (.int (if (x2 &&& (2 : Int32)) = (0 : Int32) then (0 : Int32) else (1 : Int32)))], [.int (1 : Int32), .int y156], (H0 s o))) rfl ?_
            rcases qite h with ⟨hc178, h⟩ | ⟨hc178, h⟩
            · refine QTri.brF Ad W (t := 89) (f := 73) (L := [some (.ref 1), some (.int x1), some (.int x2), some (.int x3), some (.int y156), some (.int (if (x2 &&& (1 : Int32)) = (0 : Int32) then (0 : Int32) else (1 : Int32))), some (.int (if (x2 &&& (2 : Int32)) = (0 : Int32) then (0 : Int32) else (1 : Int32)))]) (S := []) (σ := (H0 s o)) rfl (XT.ii_ne_f hc178) ?_
              refine QTri.steps Ad W 1 (st' := (75, [some (.ref 1), some (.int x1), some (.int x2), some (.int x3), some (.int y156), some (.int (if (x2 &&& (1 : Int32)) = (0 : Int32) then (0 : Int32) else (1 : Int32))), some (.int (if (x2 &&& (2 : Int32)) = (0 : Int32) then (0 : Int32) else (1 : Int32)))], [.int (if (x2 &&& (1 : Int32)) = (0 : Int32) then (0 : Int32) else (1 : Int32))], (H0 s o))) rfl ?_
              have K180 : ∀ z179 : Int32, z179 = (if (if (x2 &&& (1 : Int32)) = (0 : Int32) then (0 : Int32) else (1 : Int32)) = (0 : Int32) then (if x3 = (0 : Int32) then (if y156 = (3 : Int32) then (if (if (x2 &&& (1 : Int32)) = (0 : Int32) then (0 : Int32) else (1 : Int32)) = (0 : Int32) then y156 else (if (if (x2 &&& (2 : Int32)) = (0 : Int32) then (0 : Int32) else (1 : Int32)) = (0 : Int32) then (1 : Int32) else y156)) else y156) else y156) else (if (if (x2 &&& (2 : Int32)) = (0 : Int32) then (0 : Int32) else (1 : Int32)) = (0 : Int32) then (if x3 = (0 : Int32) then (if y156 = (3 : Int32) then (if (if (x2 &&& (1 : Int32)) = (0 : Int32) then (0 : Int32) else (1 : Int32)) = (0 : Int32) then y156 else (if (if (x2 &&& (2 : Int32)) = (0 : Int32) then (0 : Int32) else (1 : Int32)) = (0 : Int32) then (1 : Int32) else y156)) else y156) else y156) else (2 : Int32))) → QTri l Z n0 ad 29 (112, [some (.ref 1), some (.int x1), none, none, some (.int z179), none, none], [], (H0 s o)) (none : Option Value) (H0 s r) := by
                intro z179 ez179
                subst ez179
                exact QTri.mask [true, true, false, false, true, false, false] (tJ29_112 Ad W s o x1 (if (if (x2 &&& (1 : Int32)) = (0 : Int32) then (0 : Int32) else (1 : Int32)) = (0 : Int32) then (if x3 = (0 : Int32) then (if y156 = (3 : Int32) then (if (if (x2 &&& (1 : Int32)) = (0 : Int32) then (0 : Int32) else (1 : Int32)) = (0 : Int32) then y156 else (if (if (x2 &&& (2 : Int32)) = (0 : Int32) then (0 : Int32) else (1 : Int32)) = (0 : Int32) then (1 : Int32) else y156)) else y156) else y156) else (if (if (x2 &&& (2 : Int32)) = (0 : Int32) then (0 : Int32) else (1 : Int32)) = (0 : Int32) then (if x3 = (0 : Int32) then (if y156 = (3 : Int32) then (if (if (x2 &&& (1 : Int32)) = (0 : Int32) then (0 : Int32) else (1 : Int32)) = (0 : Int32) then y156 else (if (if (x2 &&& (2 : Int32)) = (0 : Int32) then (0 : Int32) else (1 : Int32)) = (0 : Int32) then (1 : Int32) else y156)) else y156) else y156) else (2 : Int32))) h)
              rcases Classical.em ((if (x2 &&& (1 : Int32)) = (0 : Int32) then (0 : Int32) else (1 : Int32)) = (0 : Int32)) with hc181 | hc181
              · refine QTri.brT Ad W (t := 89) (f := 78) (L := [some (.ref 1), some (.int x1), some (.int x2), some (.int x3), some (.int y156), some (.int (if (x2 &&& (1 : Int32)) = (0 : Int32) then (0 : Int32) else (1 : Int32))), some (.int (if (x2 &&& (2 : Int32)) = (0 : Int32) then (0 : Int32) else (1 : Int32)))]) (S := []) (σ := (H0 s o)) rfl (XT.i0_eq_t hc181) ?_
                refine QTri.steps Ad W 1 (st' := (90, [some (.ref 1), some (.int x1), some (.int x2), some (.int x3), some (.int y156), some (.int (if (x2 &&& (1 : Int32)) = (0 : Int32) then (0 : Int32) else (1 : Int32))), some (.int (if (x2 &&& (2 : Int32)) = (0 : Int32) then (0 : Int32) else (1 : Int32)))], [.int x3], (H0 s o))) rfl ?_
                rcases Classical.em (x3 = (0 : Int32)) with hc182 | hc182
                · refine QTri.brF Ad W (t := 112) (f := 93) (L := [some (.ref 1), some (.int x1), some (.int x2), some (.int x3), some (.int y156), some (.int (if (x2 &&& (1 : Int32)) = (0 : Int32) then (0 : Int32) else (1 : Int32))), some (.int (if (x2 &&& (2 : Int32)) = (0 : Int32) then (0 : Int32) else (1 : Int32)))]) (S := []) (σ := (H0 s o)) rfl (XT.i0_ne_f hc182) ?_
                  refine QTri.steps Ad W 2 (st' := (96, [some (.ref 1), some (.int x1), some (.int x2), some (.int x3), some (.int y156), some (.int (if (x2 &&& (1 : Int32)) = (0 : Int32) then (0 : Int32) else (1 : Int32))), some (.int (if (x2 &&& (2 : Int32)) = (0 : Int32) then (0 : Int32) else (1 : Int32)))], [.int (3 : Int32), .int y156], (H0 s o))) rfl ?_
                  rcases Classical.em (y156 = (3 : Int32)) with hc183 | hc183
                  · refine QTri.brF Ad W (t := 112) (f := 99) (L := [some (.ref 1), some (.int x1), some (.int x2), some (.int x3), some (.int y156), some (.int (if (x2 &&& (1 : Int32)) = (0 : Int32) then (0 : Int32) else (1 : Int32))), some (.int (if (x2 &&& (2 : Int32)) = (0 : Int32) then (0 : Int32) else (1 : Int32)))]) (S := []) (σ := (H0 s o)) rfl (XT.ii_ne_f hc183) ?_
                    refine QTri.steps Ad W 1 (st' := (101, [some (.ref 1), some (.int x1), some (.int x2), some (.int x3), some (.int y156), some (.int (if (x2 &&& (1 : Int32)) = (0 : Int32) then (0 : Int32) else (1 : Int32))), some (.int (if (x2 &&& (2 : Int32)) = (0 : Int32) then (0 : Int32) else (1 : Int32)))], [.int (if (x2 &&& (1 : Int32)) = (0 : Int32) then (0 : Int32) else (1 : Int32))], (H0 s o))) rfl ?_
                    rcases Classical.em ((if (x2 &&& (1 : Int32)) = (0 : Int32) then (0 : Int32) else (1 : Int32)) = (0 : Int32)) with hc184 | hc184
                    · refine QTri.brT Ad W (t := 112) (f := 104) (L := [some (.ref 1), some (.int x1), some (.int x2), some (.int x3), some (.int y156), some (.int (if (x2 &&& (1 : Int32)) = (0 : Int32) then (0 : Int32) else (1 : Int32))), some (.int (if (x2 &&& (2 : Int32)) = (0 : Int32) then (0 : Int32) else (1 : Int32)))]) (S := []) (σ := (H0 s o)) rfl (XT.i0_eq_t hc184) ?_
                      exact QTri.mask [true, true, false, false, true, false, false] (K180 _ ((if_pos hc181).trans ((if_pos hc182).trans ((if_pos hc183).trans (if_pos hc184)))).symm)
                    · refine QTri.brF Ad W (t := 112) (f := 104) (L := [some (.ref 1), some (.int x1), some (.int x2), some (.int x3), some (.int y156), some (.int (if (x2 &&& (1 : Int32)) = (0 : Int32) then (0 : Int32) else (1 : Int32))), some (.int (if (x2 &&& (2 : Int32)) = (0 : Int32) then (0 : Int32) else (1 : Int32)))]) (S := []) (σ := (H0 s o)) rfl (XT.i0_eq_f hc184) ?_
                      refine QTri.steps Ad W 1 (st' := (106, [some (.ref 1), some (.int x1), some (.int x2), some (.int x3), some (.int y156), some (.int (if (x2 &&& (1 : Int32)) = (0 : Int32) then (0 : Int32) else (1 : Int32))), some (.int (if (x2 &&& (2 : Int32)) = (0 : Int32) then (0 : Int32) else (1 : Int32)))], [.int (if (x2 &&& (2 : Int32)) = (0 : Int32) then (0 : Int32) else (1 : Int32))], (H0 s o))) rfl ?_
                      rcases Classical.em ((if (x2 &&& (2 : Int32)) = (0 : Int32) then (0 : Int32) else (1 : Int32)) = (0 : Int32)) with hc185 | hc185
                      · refine QTri.brF Ad W (t := 112) (f := 109) (L := [some (.ref 1), some (.int x1), some (.int x2), some (.int x3), some (.int y156), some (.int (if (x2 &&& (1 : Int32)) = (0 : Int32) then (0 : Int32) else (1 : Int32))), some (.int (if (x2 &&& (2 : Int32)) = (0 : Int32) then (0 : Int32) else (1 : Int32)))]) (S := []) (σ := (H0 s o)) rfl (XT.i0_ne_f hc185) ?_
                        refine QTri.steps Ad W 2 (st' := (112, [some (.ref 1), some (.int x1), some (.int x2), some (.int x3), some (.int (1 : Int32)), some (.int (if (x2 &&& (1 : Int32)) = (0 : Int32) then (0 : Int32) else (1 : Int32))), some (.int (if (x2 &&& (2 : Int32)) = (0 : Int32) then (0 : Int32) else (1 : Int32)))], [], (H0 s o))) rfl ?_
                        exact QTri.mask [true, true, false, false, true, false, false] (K180 _ ((if_pos hc181).trans ((if_pos hc182).trans ((if_pos hc183).trans ((if_neg hc184).trans (if_pos hc185))))).symm)
                      · refine QTri.brT Ad W (t := 112) (f := 109) (L := [some (.ref 1), some (.int x1), some (.int x2), some (.int x3), some (.int y156), some (.int (if (x2 &&& (1 : Int32)) = (0 : Int32) then (0 : Int32) else (1 : Int32))), some (.int (if (x2 &&& (2 : Int32)) = (0 : Int32) then (0 : Int32) else (1 : Int32)))]) (S := []) (σ := (H0 s o)) rfl (XT.i0_ne_t hc185) ?_
                        exact QTri.mask [true, true, false, false, true, false, false] (K180 _ ((if_pos hc181).trans ((if_pos hc182).trans ((if_pos hc183).trans ((if_neg hc184).trans (if_neg hc185))))).symm)
                  · refine QTri.brT Ad W (t := 112) (f := 99) (L := [some (.ref 1), some (.int x1), some (.int x2), some (.int x3), some (.int y156), some (.int (if (x2 &&& (1 : Int32)) = (0 : Int32) then (0 : Int32) else (1 : Int32))), some (.int (if (x2 &&& (2 : Int32)) = (0 : Int32) then (0 : Int32) else (1 : Int32)))]) (S := []) (σ := (H0 s o)) rfl (XT.ii_ne_t hc183) ?_
                    exact QTri.mask [true, true, false, false, true, false, false] (K180 _ ((if_pos hc181).trans ((if_pos hc182).trans (if_neg hc183))).symm)
                · refine QTri.brT Ad W (t := 112) (f := 93) (L := [some (.ref 1), some (.int x1), some (.int x2), some (.int x3), some (.int y156), some (.int (if (x2 &&& (1 : Int32)) = (0 : Int32) then (0 : Int32) else (1 : Int32))), some (.int (if (x2 &&& (2 : Int32)) = (0 : Int32) then (0 : Int32) else (1 : Int32)))]) (S := []) (σ := (H0 s o)) rfl (XT.i0_ne_t hc182) ?_
                  exact QTri.mask [true, true, false, false, true, false, false] (K180 _ ((if_pos hc181).trans (if_neg hc182)).symm)
              · refine QTri.brF Ad W (t := 89) (f := 78) (L := [some (.ref 1), some (.int x1), some (.int x2), some (.int x3), some (.int y156), some (.int (if (x2 &&& (1 : Int32)) = (0 : Int32) then (0 : Int32) else (1 : Int32))), some (.int (if (x2 &&& (2 : Int32)) = (0 : Int32) then (0 : Int32) else (1 : Int32)))]) (S := []) (σ := (H0 s o)) rfl (XT.i0_eq_f hc181) ?_
                refine QTri.steps Ad W 1 (st' := (80, [some (.ref 1), some (.int x1), some (.int x2), some (.int x3), some (.int y156), some (.int (if (x2 &&& (1 : Int32)) = (0 : Int32) then (0 : Int32) else (1 : Int32))), some (.int (if (x2 &&& (2 : Int32)) = (0 : Int32) then (0 : Int32) else (1 : Int32)))], [.int (if (x2 &&& (2 : Int32)) = (0 : Int32) then (0 : Int32) else (1 : Int32))], (H0 s o))) rfl ?_
                rcases Classical.em ((if (x2 &&& (2 : Int32)) = (0 : Int32) then (0 : Int32) else (1 : Int32)) = (0 : Int32)) with hc186 | hc186
                · refine QTri.brT Ad W (t := 89) (f := 83) (L := [some (.ref 1), some (.int x1), some (.int x2), some (.int x3), some (.int y156), some (.int (if (x2 &&& (1 : Int32)) = (0 : Int32) then (0 : Int32) else (1 : Int32))), some (.int (if (x2 &&& (2 : Int32)) = (0 : Int32) then (0 : Int32) else (1 : Int32)))]) (S := []) (σ := (H0 s o)) rfl (XT.i0_eq_t hc186) ?_
                  refine QTri.steps Ad W 1 (st' := (90, [some (.ref 1), some (.int x1), some (.int x2), some (.int x3), some (.int y156), some (.int (if (x2 &&& (1 : Int32)) = (0 : Int32) then (0 : Int32) else (1 : Int32))), some (.int (if (x2 &&& (2 : Int32)) = (0 : Int32) then (0 : Int32) else (1 : Int32)))], [.int x3], (H0 s o))) rfl ?_
                  rcases Classical.em (x3 = (0 : Int32)) with hc187 | hc187
                  · refine QTri.brF Ad W (t := 112) (f := 93) (L := [some (.ref 1), some (.int x1), some (.int x2), some (.int x3), some (.int y156), some (.int (if (x2 &&& (1 : Int32)) = (0 : Int32) then (0 : Int32) else (1 : Int32))), some (.int (if (x2 &&& (2 : Int32)) = (0 : Int32) then (0 : Int32) else (1 : Int32)))]) (S := []) (σ := (H0 s o)) rfl (XT.i0_ne_f hc187) ?_
                    refine QTri.steps Ad W 2 (st' := (96, [some (.ref 1), some (.int x1), some (.int x2), some (.int x3), some (.int y156), some (.int (if (x2 &&& (1 : Int32)) = (0 : Int32) then (0 : Int32) else (1 : Int32))), some (.int (if (x2 &&& (2 : Int32)) = (0 : Int32) then (0 : Int32) else (1 : Int32)))], [.int (3 : Int32), .int y156], (H0 s o))) rfl ?_
                    rcases Classical.em (y156 = (3 : Int32)) with hc188 | hc188
                    · refine QTri.brF Ad W (t := 112) (f := 99) (L := [some (.ref 1), some (.int x1), some (.int x2), some (.int x3), some (.int y156), some (.int (if (x2 &&& (1 : Int32)) = (0 : Int32) then (0 : Int32) else (1 : Int32))), some (.int (if (x2 &&& (2 : Int32)) = (0 : Int32) then (0 : Int32) else (1 : Int32)))]) (S := []) (σ := (H0 s o)) rfl (XT.ii_ne_f hc188) ?_
                      refine QTri.steps Ad W 1 (st' := (101, [some (.ref 1), some (.int x1), some (.int x2), some (.int x3), some (.int y156), some (.int (if (x2 &&& (1 : Int32)) = (0 : Int32) then (0 : Int32) else (1 : Int32))), some (.int (if (x2 &&& (2 : Int32)) = (0 : Int32) then (0 : Int32) else (1 : Int32)))], [.int (if (x2 &&& (1 : Int32)) = (0 : Int32) then (0 : Int32) else (1 : Int32))], (H0 s o))) rfl ?_
                      rcases Classical.em ((if (x2 &&& (1 : Int32)) = (0 : Int32) then (0 : Int32) else (1 : Int32)) = (0 : Int32)) with hc189 | hc189
                      · refine QTri.brT Ad W (t := 112) (f := 104) (L := [some (.ref 1), some (.int x1), some (.int x2), some (.int x3), some (.int y156), some (.int (if (x2 &&& (1 : Int32)) = (0 : Int32) then (0 : Int32) else (1 : Int32))), some (.int (if (x2 &&& (2 : Int32)) = (0 : Int32) then (0 : Int32) else (1 : Int32)))]) (S := []) (σ := (H0 s o)) rfl (XT.i0_eq_t hc189) ?_
                        exact QTri.mask [true, true, false, false, true, false, false] (K180 _ ((if_neg hc181).trans ((if_pos hc186).trans ((if_pos hc187).trans ((if_pos hc188).trans (if_pos hc189))))).symm)
                      · refine QTri.brF Ad W (t := 112) (f := 104) (L := [some (.ref 1), some (.int x1), some (.int x2), some (.int x3), some (.int y156), some (.int (if (x2 &&& (1 : Int32)) = (0 : Int32) then (0 : Int32) else (1 : Int32))), some (.int (if (x2 &&& (2 : Int32)) = (0 : Int32) then (0 : Int32) else (1 : Int32)))]) (S := []) (σ := (H0 s o)) rfl (XT.i0_eq_f hc189) ?_
                        refine QTri.steps Ad W 1 (st' := (106, [some (.ref 1), some (.int x1), some (.int x2), some (.int x3), some (.int y156), some (.int (if (x2 &&& (1 : Int32)) = (0 : Int32) then (0 : Int32) else (1 : Int32))), some (.int (if (x2 &&& (2 : Int32)) = (0 : Int32) then (0 : Int32) else (1 : Int32)))], [.int (if (x2 &&& (2 : Int32)) = (0 : Int32) then (0 : Int32) else (1 : Int32))], (H0 s o))) rfl ?_
                        rcases Classical.em ((if (x2 &&& (2 : Int32)) = (0 : Int32) then (0 : Int32) else (1 : Int32)) = (0 : Int32)) with hc190 | hc190
                        · refine QTri.brF Ad W (t := 112) (f := 109) (L := [some (.ref 1), some (.int x1), some (.int x2), some (.int x3), some (.int y156), some (.int (if (x2 &&& (1 : Int32)) = (0 : Int32) then (0 : Int32) else (1 : Int32))), some (.int (if (x2 &&& (2 : Int32)) = (0 : Int32) then (0 : Int32) else (1 : Int32)))]) (S := []) (σ := (H0 s o)) rfl (XT.i0_ne_f hc190) ?_
                          refine QTri.steps Ad W 2 (st' := (112, [some (.ref 1), some (.int x1), some (.int x2), some (.int x3), some (.int (1 : Int32)), some (.int (if (x2 &&& (1 : Int32)) = (0 : Int32) then (0 : Int32) else (1 : Int32))), some (.int (if (x2 &&& (2 : Int32)) = (0 : Int32) then (0 : Int32) else (1 : Int32)))], [], (H0 s o))) rfl ?_
                          exact QTri.mask [true, true, false, false, true, false, false] (K180 _ ((if_neg hc181).trans ((if_pos hc186).trans ((if_pos hc187).trans ((if_pos hc188).trans ((if_neg hc189).trans (if_pos hc190)))))).symm)
                        · refine QTri.brT Ad W (t := 112) (f := 109) (L := [some (.ref 1), some (.int x1), some (.int x2), some (.int x3), some (.int y156), some (.int (if (x2 &&& (1 : Int32)) = (0 : Int32) then (0 : Int32) else (1 : Int32))), some (.int (if (x2 &&& (2 : Int32)) = (0 : Int32) then (0 : Int32) else (1 : Int32)))]) (S := []) (σ := (H0 s o)) rfl (XT.i0_ne_t hc190) ?_
                          exact QTri.mask [true, true, false, false, true, false, false] (K180 _ ((if_neg hc181).trans ((if_pos hc186).trans ((if_pos hc187).trans ((if_pos hc188).trans ((if_neg hc189).trans (if_neg hc190)))))).symm)
                    · refine QTri.brT Ad W (t := 112) (f := 99) (L := [some (.ref 1), some (.int x1), some (.int x2), some (.int x3), some (.int y156), some (.int (if (x2 &&& (1 : Int32)) = (0 : Int32) then (0 : Int32) else (1 : Int32))), some (.int (if (x2 &&& (2 : Int32)) = (0 : Int32) then (0 : Int32) else (1 : Int32)))]) (S := []) (σ := (H0 s o)) rfl (XT.ii_ne_t hc188) ?_
                      exact QTri.mask [true, true, false, false, true, false, false] (K180 _ ((if_neg hc181).trans ((if_pos hc186).trans ((if_pos hc187).trans (if_neg hc188)))).symm)
                  · refine QTri.brT Ad W (t := 112) (f := 93) (L := [some (.ref 1), some (.int x1), some (.int x2), some (.int x3), some (.int y156), some (.int (if (x2 &&& (1 : Int32)) = (0 : Int32) then (0 : Int32) else (1 : Int32))), some (.int (if (x2 &&& (2 : Int32)) = (0 : Int32) then (0 : Int32) else (1 : Int32)))]) (S := []) (σ := (H0 s o)) rfl (XT.i0_ne_t hc187) ?_
                    exact QTri.mask [true, true, false, false, true, false, false] (K180 _ ((if_neg hc181).trans ((if_pos hc186).trans (if_neg hc187))).symm)
                · refine QTri.brF Ad W (t := 89) (f := 83) (L := [some (.ref 1), some (.int x1), some (.int x2), some (.int x3), some (.int y156), some (.int (if (x2 &&& (1 : Int32)) = (0 : Int32) then (0 : Int32) else (1 : Int32))), some (.int (if (x2 &&& (2 : Int32)) = (0 : Int32) then (0 : Int32) else (1 : Int32)))]) (S := []) (σ := (H0 s o)) rfl (XT.i0_eq_f hc186) ?_
                  refine QTri.steps Ad W 3 (st' := (112, [some (.ref 1), some (.int x1), some (.int x2), some (.int x3), some (.int (2 : Int32)), some (.int (if (x2 &&& (1 : Int32)) = (0 : Int32) then (0 : Int32) else (1 : Int32))), some (.int (if (x2 &&& (2 : Int32)) = (0 : Int32) then (0 : Int32) else (1 : Int32)))], [], (H0 s o))) rfl ?_
                  exact QTri.mask [true, true, false, false, true, false, false] (K180 _ ((if_neg hc181).trans (if_neg hc186)).symm)
            · refine QTri.brT Ad W (t := 89) (f := 73) (L := [some (.ref 1), some (.int x1), some (.int x2), some (.int x3), some (.int y156), some (.int (if (x2 &&& (1 : Int32)) = (0 : Int32) then (0 : Int32) else (1 : Int32))), some (.int (if (x2 &&& (2 : Int32)) = (0 : Int32) then (0 : Int32) else (1 : Int32)))]) (S := []) (σ := (H0 s o)) rfl (XT.ii_ne_t hc178) ?_
              exact QTri.mask [true, true, false, true, true, true, true] (tJ29_89 Ad W s o x1 x3 y156 (if (x2 &&& (1 : Int32)) = (0 : Int32) then (0 : Int32) else (1 : Int32)) (if (x2 &&& (2 : Int32)) = (0 : Int32) then (0 : Int32) else (1 : Int32)) h)
        · refine QTri.brF Ad W (t := 63) (f := 57) (L := [some (.ref 1), some (.int x1), some (.int x2), some (.int x3), some (.int y156), some (.int (if (x2 &&& (1 : Int32)) = (0 : Int32) then (0 : Int32) else (1 : Int32))), some (.int (if (x2 &&& (2 : Int32)) = (0 : Int32) then (0 : Int32) else (1 : Int32)))]) (S := []) (σ := (H0 s o)) rfl (XT.i0_eq_f hc163) ?_
          refine QTri.steps Ad W 3 (st' := (112, [some (.ref 1), some (.int x1), some (.int x2), some (.int x3), some (.int (3 : Int32)), some (.int (if (x2 &&& (1 : Int32)) = (0 : Int32) then (0 : Int32) else (1 : Int32))), some (.int (if (x2 &&& (2 : Int32)) = (0 : Int32) then (0 : Int32) else (1 : Int32)))], [], (H0 s o))) rfl ?_
          exact QTri.mask [true, true, false, false, true, false, false] (tJ29_112 Ad W s o x1 (3 : Int32) h)
      rcases Classical.em ((x2 &&& (2 : Int32)) = (0 : Int32)) with hc162 | hc162
      · refine QTri.brT Ad W (t := 48) (f := 44) (L := [some (.ref 1), some (.int x1), some (.int x2), some (.int x3), some (.int y156), some (.int (if (x2 &&& (1 : Int32)) = (0 : Int32) then (0 : Int32) else (1 : Int32))), none]) (S := []) (σ := (H0 s o)) rfl (XT.i0_eq_t hc162) ?_
        refine QTri.steps Ad W 1 (st' := (49, [some (.ref 1), some (.int x1), some (.int x2), some (.int x3), some (.int y156), some (.int (if (x2 &&& (1 : Int32)) = (0 : Int32) then (0 : Int32) else (1 : Int32))), none], [.int (0 : Int32)], (H0 s o))) rfl ?_
        exact QTri.mask [true, true, true, true, true, true, false] (K161 _ (if_pos hc162).symm)
      · refine QTri.brF Ad W (t := 48) (f := 44) (L := [some (.ref 1), some (.int x1), some (.int x2), some (.int x3), some (.int y156), some (.int (if (x2 &&& (1 : Int32)) = (0 : Int32) then (0 : Int32) else (1 : Int32))), none]) (S := []) (σ := (H0 s o)) rfl (XT.i0_eq_f hc162) ?_
        refine QTri.steps Ad W 2 (st' := (49, [some (.ref 1), some (.int x1), some (.int x2), some (.int x3), some (.int y156), some (.int (if (x2 &&& (1 : Int32)) = (0 : Int32) then (0 : Int32) else (1 : Int32))), none], [.int (1 : Int32)], (H0 s o))) rfl ?_
        exact QTri.mask [true, true, true, true, true, true, false] (K161 _ (if_neg hc162).symm)
    rcases Classical.em ((x2 &&& (1 : Int32)) = (0 : Int32)) with hc159 | hc159
    · refine QTri.brT Ad W (t := 35) (f := 31) (L := [some (.ref 1), some (.int x1), some (.int x2), some (.int x3), some (.int y156), none, none]) (S := []) (σ := (H0 s o)) rfl (XT.i0_eq_t hc159) ?_
      refine QTri.steps Ad W 1 (st' := (36, [some (.ref 1), some (.int x1), some (.int x2), some (.int x3), some (.int y156), none, none], [.int (0 : Int32)], (H0 s o))) rfl ?_
      exact QTri.mask [true, true, true, true, true, false, false] (K158 _ (if_pos hc159).symm)
    · refine QTri.brF Ad W (t := 35) (f := 31) (L := [some (.ref 1), some (.int x1), some (.int x2), some (.int x3), some (.int y156), none, none]) (S := []) (σ := (H0 s o)) rfl (XT.i0_eq_f hc159) ?_
      refine QTri.steps Ad W 2 (st' := (36, [some (.ref 1), some (.int x1), some (.int x2), some (.int x3), some (.int y156), none, none], [.int (1 : Int32)], (H0 s o))) rfl ?_
      exact QTri.mask [true, true, true, true, true, false, false] (K158 _ (if_neg hc159).symm)
  · refine QTri.brF Ad W (t := 17) (f := 7) (L := [some (.ref 1), some (.int x1), some (.int x2), some (.int x3), none, none, none]) (S := []) (σ := (H0 s o)) rfl (XT.i0_eq_f hc155) ?_
    refine QTri.steps Ad W 4 (st' := (13, [some (.ref 1), some (.int x1), some (.int x2), some (.int x3), none, none, none], [.int (f_clock o), .int x1, .ref 1], (H0 s o))) rfl ?_
    obtain ⟨r196, hr196, h⟩ := Option.bind_eq_some_iff.mp h
    refine QTri.callP W (a := 1) (as := [.int x1, .int (f_clock o)]) (rest := []) (w := none) (σ₁ := (H0 s r196)) rfl rfl rfl rfl rfl rfl rfl rfl (tF32 Ad W s o x1 (f_clock o) hr196) ?_
    obtain rfl := Option.some.inj h
    exact QTri.ret0 rfl rfl
/-- liveSlot(II)I -/
def F23 (o : Ob) (x1 : Int32) (x2 : Int32) : Option (Int32) :=
  (F10 o x1).bind fun r200 => (if r200 < (0 : Int32) then some (-1 : Int32) else (aget (f_protoOf o) r200).bind fun y202 => (if y202 = x2 then some r200 else some (-1 : Int32)))
theorem tF23 (Ad : QAd n0 ad) (W : QW Z a0) (s : List Int32) (o : Ob) (x1 : Int32) (x2 : Int32) {r : Int32} (h : F23 o x1 x2 = some r) : QTri l Z n0 ad 23 (0, qentry [.ref 1, .int x1, .int x2] (pMaxL 23), [], (H0 s o)) (some (Value.int r)) (H0 s o) := by
  unfold F23 at h
  refine QTri.steps Ad W 2 (st' := (2, [some (.ref 1), some (.int x1), some (.int x2), none], [.int x1, .ref 1], (H0 s o))) rfl ?_
  obtain ⟨r200, hr200, h⟩ := Option.bind_eq_some_iff.mp h
  refine QTri.callP W (a := 1) (as := [.int x1]) (rest := []) (w := (some (.int r200))) (σ₁ := (H0 s o)) rfl rfl rfl rfl rfl rfl rfl rfl (tF10 Ad W s o x1 hr200) ?_
  refine QTri.steps Ad W 2 (st' := (7, [some (.ref 1), some (.int x1), some (.int x2), some (.int r200)], [.int r200], (H0 s o))) rfl ?_
  rcases qite h with ⟨hc201, h⟩ | ⟨hc201, h⟩
  · refine QTri.brT Ad W (t := 20) (f := 10) (L := [some (.ref 1), some (.int x1), some (.int x2), some (.int r200)]) (S := []) (σ := (H0 s o)) rfl (XT.i0_lt_t hc201) ?_
    refine QTri.steps Ad W 1 (st' := (21, [some (.ref 1), some (.int x1), some (.int x2), some (.int r200)], [.int (-1 : Int32)], (H0 s o))) rfl ?_
    obtain rfl := Option.some.inj h
    exact QTri.retI rfl rfl
  · refine QTri.brF Ad W (t := 20) (f := 10) (L := [some (.ref 1), some (.int x1), some (.int x2), some (.int r200)]) (S := []) (σ := (H0 s o)) rfl (XT.i0_lt_f hc201) ?_
    refine QTri.steps Ad W 3 (st' := (15, [some (.ref 1), some (.int x1), some (.int x2), some (.int r200)], [.int r200, .ref 5], (H0 s o))) rfl ?_
    obtain ⟨y202, hy202, h⟩ := Option.bind_eq_some_iff.mp h
    refine QTri.bnd Ad W (f := fun y202 => (16, [some (.ref 1), some (.int x1), some (.int x2), some (.int r200)], [.int y202], (H0 s o))) rfl hy202 ?_
    refine QTri.steps Ad W 1 (st' := (17, [some (.ref 1), some (.int x1), some (.int x2), some (.int r200)], [.int x2, .int y202], (H0 s o))) rfl ?_
    rcases qite h with ⟨hc203, h⟩ | ⟨hc203, h⟩
    · refine QTri.brT Ad W (t := 22) (f := 20) (L := [some (.ref 1), some (.int x1), some (.int x2), some (.int r200)]) (S := []) (σ := (H0 s o)) rfl (XT.ii_eq_t hc203) ?_
      refine QTri.steps Ad W 1 (st' := (23, [some (.ref 1), some (.int x1), some (.int x2), some (.int r200)], [.int r200], (H0 s o))) rfl ?_
      obtain rfl := Option.some.inj h
      exact QTri.retI rfl rfl
    · refine QTri.brF Ad W (t := 22) (f := 20) (L := [some (.ref 1), some (.int x1), some (.int x2), some (.int r200)]) (S := []) (σ := (H0 s o)) rfl (XT.ii_eq_f hc203) ?_
      refine QTri.steps Ad W 1 (st' := (21, [some (.ref 1), some (.int x1), some (.int x2), some (.int r200)], [.int (-1 : Int32)], (H0 s o))) rfl ?_
      obtain rfl := Option.some.inj h
      exact QTri.retI rfl rfl
def J33_25 (o : Ob) : Option (Int32 × Ob) :=
  some ((4 : Int32), (s_regPort (s_regHost o (-1 : Int32)) (-1 : Int32)))
theorem tJ33_25 (Ad : QAd n0 ad) (W : QW Z a0) (s : List Int32) (o : Ob) {r : Int32 × Ob} (h : J33_25 o = some r) : QTri l Z n0 ad 33 (25, [some (.ref 1), none, none, none], [], (H0 s o)) (some (Value.int r.1)) (H0 s r.2) := by
  unfold J33_25 at h
  refine QTri.steps Ad W 3 (st' := (30, [some (.ref 1), none, none, none], [], [.inr (.inl (.int, s)), .inl [.ref 2, .ref 3, .ref 4, .ref 5, .ref 6, .ref 7, .ref 8, .ref 9, .ref 10, .int (f_poolSize o), .int (f_udpTimeout o), .int (f_tcpTimeout o), .int (f_cooldown o), .int (f_clock o), .int (f_remAddr o), .int (f_remPort o), .int (-1 : Int32), .int (f_regPort o), .int (f_regExt o)], .inr (.inl (.boolean, (f_live o))), .inr (.inl (.boolean, (f_used o))), .inr (.inl (.int, (f_freedAt o))), .inr (.inl (.int, (f_protoOf o))), .inr (.inl (.int, (f_hostOf o))), .inr (.inl (.int, (f_iportOf o))), .inr (.inl (.int, (f_stateAt o))), .inr (.inl (.int, (f_deadlineAt o))), .inr (.inr (f_perm o))])) rfl ?_
  refine QTri.steps Ad W 3 (st' := (35, [some (.ref 1), none, none, none], [], [.inr (.inl (.int, s)), .inl [.ref 2, .ref 3, .ref 4, .ref 5, .ref 6, .ref 7, .ref 8, .ref 9, .ref 10, .int (f_poolSize o), .int (f_udpTimeout o), .int (f_tcpTimeout o), .int (f_cooldown o), .int (f_clock o), .int (f_remAddr o), .int (f_remPort o), .int (-1 : Int32), .int (-1 : Int32), .int (f_regExt o)], .inr (.inl (.boolean, (f_live o))), .inr (.inl (.boolean, (f_used o))), .inr (.inl (.int, (f_freedAt o))), .inr (.inl (.int, (f_protoOf o))), .inr (.inl (.int, (f_hostOf o))), .inr (.inl (.int, (f_iportOf o))), .inr (.inl (.int, (f_stateAt o))), .inr (.inl (.int, (f_deadlineAt o))), .inr (.inr (f_perm o))])) rfl ?_
  refine QTri.steps Ad W 1 (st' := (36, [some (.ref 1), none, none, none], [.int (4 : Int32)], [.inr (.inl (.int, s)), .inl [.ref 2, .ref 3, .ref 4, .ref 5, .ref 6, .ref 7, .ref 8, .ref 9, .ref 10, .int (f_poolSize o), .int (f_udpTimeout o), .int (f_tcpTimeout o), .int (f_cooldown o), .int (f_clock o), .int (f_remAddr o), .int (f_remPort o), .int (-1 : Int32), .int (-1 : Int32), .int (f_regExt o)], .inr (.inl (.boolean, (f_live o))), .inr (.inl (.boolean, (f_used o))), .inr (.inl (.int, (f_freedAt o))), .inr (.inl (.int, (f_protoOf o))), .inr (.inl (.int, (f_hostOf o))), .inr (.inl (.int, (f_iportOf o))), .inr (.inl (.int, (f_stateAt o))), .inr (.inl (.int, (f_deadlineAt o))), .inr (.inr (f_perm o))])) rfl ?_
  have E206 : ([.inr (.inl (.int, s)), .inl [.ref 2, .ref 3, .ref 4, .ref 5, .ref 6, .ref 7, .ref 8, .ref 9, .ref 10, .int (f_poolSize o), .int (f_udpTimeout o), .int (f_tcpTimeout o), .int (f_cooldown o), .int (f_clock o), .int (f_remAddr o), .int (f_remPort o), .int (-1 : Int32), .int (-1 : Int32), .int (f_regExt o)], .inr (.inl (.boolean, (f_live o))), .inr (.inl (.boolean, (f_used o))), .inr (.inl (.int, (f_freedAt o))), .inr (.inl (.int, (f_protoOf o))), .inr (.inl (.int, (f_hostOf o))), .inr (.inl (.int, (f_iportOf o))), .inr (.inl (.int, (f_stateAt o))), .inr (.inl (.int, (f_deadlineAt o))), .inr (.inr (f_perm o))] : QHeap) = (H0 s (s_regPort (s_regHost o (-1 : Int32)) (-1 : Int32))) := by dsimp only [H0, f_live, f_used, f_freedAt, f_protoOf, f_hostOf, f_iportOf, f_stateAt, f_deadlineAt, f_perm, f_poolSize, f_udpTimeout, f_tcpTimeout, f_cooldown, f_clock, f_remAddr, f_remPort, f_regHost, f_regPort, f_regExt, s_regHost, s_regPort]
  rw [E206]
  obtain rfl := Option.some.inj h
  exact QTri.retI rfl rfl
/-- hairpin(II)I -/
def F33 (o : Ob) (x1 : Int32) (x2 : Int32) : Option (Int32 × Ob) :=
  (F23 o (f_remPort o) x1).bind fun r204 => (if r204 < (0 : Int32) then (J33_25 o) else (F31 o r204 (255 : Int32)).bind fun r207 => (if r207 = (0 : Int32) then (J33_25 o) else (aget (f_hostOf o) r204).bind fun y209 => (aget (f_iportOf o) r204).bind fun y210 => (F29 (s_regPort (s_regHost o y209) y210) r204 x2 (1 : Int32)).bind fun r212 => some ((3 : Int32), r212)))
theorem tF33 (Ad : QAd n0 ad) (W : QW Z a0) (s : List Int32) (o : Ob) (x1 : Int32) (x2 : Int32) {r : Int32 × Ob} (h : F33 o x1 x2 = some r) : QTri l Z n0 ad 33 (0, qentry [.ref 1, .int x1, .int x2] (pMaxL 33), [], (H0 s o)) (some (Value.int r.1)) (H0 s r.2) := by
  unfold F33 at h
  refine QTri.steps Ad W 4 (st' := (6, [some (.ref 1), some (.int x1), some (.int x2), none], [.int x1, .int (f_remPort o), .ref 1], (H0 s o))) rfl ?_
  obtain ⟨r204, hr204, h⟩ := Option.bind_eq_some_iff.mp h
  refine QTri.callP W (a := 1) (as := [.int (f_remPort o), .int x1]) (rest := []) (w := (some (.int r204))) (σ₁ := (H0 s o)) rfl rfl rfl rfl rfl rfl rfl rfl (tF23 Ad W s o (f_remPort o) x1 hr204) ?_
  refine QTri.steps Ad W 2 (st' := (11, [some (.ref 1), some (.int x1), some (.int x2), some (.int r204)], [.int r204], (H0 s o))) rfl ?_
  rcases qite h with ⟨hc205, h⟩ | ⟨hc205, h⟩
  · refine QTri.brT Ad W (t := 25) (f := 14) (L := [some (.ref 1), some (.int x1), some (.int x2), some (.int r204)]) (S := []) (σ := (H0 s o)) rfl (XT.i0_lt_t hc205) ?_
    exact QTri.mask [true, false, false, false] (tJ33_25 Ad W s o h)
  · refine QTri.brF Ad W (t := 25) (f := 14) (L := [some (.ref 1), some (.int x1), some (.int x2), some (.int r204)]) (S := []) (σ := (H0 s o)) rfl (XT.i0_lt_f hc205) ?_
    refine QTri.steps Ad W 3 (st' := (19, [some (.ref 1), some (.int x1), some (.int x2), some (.int r204)], [.int (255 : Int32), .int r204, .ref 1], (H0 s o))) rfl ?_
    obtain ⟨r207, hr207, h⟩ := Option.bind_eq_some_iff.mp h
    refine QTri.callP W (a := 1) (as := [.int r204, .int (255 : Int32)]) (rest := []) (w := (some (.int r207))) (σ₁ := (H0 s o)) rfl rfl rfl rfl rfl rfl rfl rfl (tF31 Ad W s o r204 (255 : Int32) hr207) ?_
    rcases qite h with ⟨hc208, h⟩ | ⟨hc208, h⟩
    · refine QTri.brF Ad W (t := 37) (f := 25) (L := [some (.ref 1), some (.int x1), some (.int x2), some (.int r204)]) (S := []) (σ := (H0 s o)) rfl (XT.i0_ne_f hc208) ?_
      exact QTri.mask [true, false, false, false] (tJ33_25 Ad W s o h)
    · refine QTri.brT Ad W (t := 37) (f := 25) (L := [some (.ref 1), some (.int x1), some (.int x2), some (.int r204)]) (S := []) (σ := (H0 s o)) rfl (XT.i0_ne_t hc208) ?_
      refine QTri.steps Ad W 4 (st' := (43, [some (.ref 1), some (.int x1), some (.int x2), some (.int r204)], [.int r204, .ref 6, .ref 1], (H0 s o))) rfl ?_
      obtain ⟨y209, hy209, h⟩ := Option.bind_eq_some_iff.mp h
      refine QTri.bnd Ad W (f := fun y209 => (44, [some (.ref 1), some (.int x1), some (.int x2), some (.int r204)], [.int y209, .ref 1], (H0 s o))) rfl hy209 ?_
      refine QTri.steps Ad W 1 (st' := (47, [some (.ref 1), some (.int x1), some (.int x2), some (.int r204)], [], [.inr (.inl (.int, s)), .inl [.ref 2, .ref 3, .ref 4, .ref 5, .ref 6, .ref 7, .ref 8, .ref 9, .ref 10, .int (f_poolSize o), .int (f_udpTimeout o), .int (f_tcpTimeout o), .int (f_cooldown o), .int (f_clock o), .int (f_remAddr o), .int (f_remPort o), .int y209, .int (f_regPort o), .int (f_regExt o)], .inr (.inl (.boolean, (f_live o))), .inr (.inl (.boolean, (f_used o))), .inr (.inl (.int, (f_freedAt o))), .inr (.inl (.int, (f_protoOf o))), .inr (.inl (.int, (f_hostOf o))), .inr (.inl (.int, (f_iportOf o))), .inr (.inl (.int, (f_stateAt o))), .inr (.inl (.int, (f_deadlineAt o))), .inr (.inr (f_perm o))])) rfl ?_
      refine QTri.steps Ad W 4 (st' := (53, [some (.ref 1), some (.int x1), some (.int x2), some (.int r204)], [.int r204, .ref 7, .ref 1], [.inr (.inl (.int, s)), .inl [.ref 2, .ref 3, .ref 4, .ref 5, .ref 6, .ref 7, .ref 8, .ref 9, .ref 10, .int (f_poolSize o), .int (f_udpTimeout o), .int (f_tcpTimeout o), .int (f_cooldown o), .int (f_clock o), .int (f_remAddr o), .int (f_remPort o), .int y209, .int (f_regPort o), .int (f_regExt o)], .inr (.inl (.boolean, (f_live o))), .inr (.inl (.boolean, (f_used o))), .inr (.inl (.int, (f_freedAt o))), .inr (.inl (.int, (f_protoOf o))), .inr (.inl (.int, (f_hostOf o))), .inr (.inl (.int, (f_iportOf o))), .inr (.inl (.int, (f_stateAt o))), .inr (.inl (.int, (f_deadlineAt o))), .inr (.inr (f_perm o))])) rfl ?_
      obtain ⟨y210, hy210, h⟩ := Option.bind_eq_some_iff.mp h
      refine QTri.bnd Ad W (f := fun y210 => (54, [some (.ref 1), some (.int x1), some (.int x2), some (.int r204)], [.int y210, .ref 1], [.inr (.inl (.int, s)), .inl [.ref 2, .ref 3, .ref 4, .ref 5, .ref 6, .ref 7, .ref 8, .ref 9, .ref 10, .int (f_poolSize o), .int (f_udpTimeout o), .int (f_tcpTimeout o), .int (f_cooldown o), .int (f_clock o), .int (f_remAddr o), .int (f_remPort o), .int y209, .int (f_regPort o), .int (f_regExt o)], .inr (.inl (.boolean, (f_live o))), .inr (.inl (.boolean, (f_used o))), .inr (.inl (.int, (f_freedAt o))), .inr (.inl (.int, (f_protoOf o))), .inr (.inl (.int, (f_hostOf o))), .inr (.inl (.int, (f_iportOf o))), .inr (.inl (.int, (f_stateAt o))), .inr (.inl (.int, (f_deadlineAt o))), .inr (.inr (f_perm o))])) rfl hy210 ?_
      refine QTri.steps Ad W 1 (st' := (57, [some (.ref 1), some (.int x1), some (.int x2), some (.int r204)], [], [.inr (.inl (.int, s)), .inl [.ref 2, .ref 3, .ref 4, .ref 5, .ref 6, .ref 7, .ref 8, .ref 9, .ref 10, .int (f_poolSize o), .int (f_udpTimeout o), .int (f_tcpTimeout o), .int (f_cooldown o), .int (f_clock o), .int (f_remAddr o), .int (f_remPort o), .int y209, .int y210, .int (f_regExt o)], .inr (.inl (.boolean, (f_live o))), .inr (.inl (.boolean, (f_used o))), .inr (.inl (.int, (f_freedAt o))), .inr (.inl (.int, (f_protoOf o))), .inr (.inl (.int, (f_hostOf o))), .inr (.inl (.int, (f_iportOf o))), .inr (.inl (.int, (f_stateAt o))), .inr (.inl (.int, (f_deadlineAt o))), .inr (.inr (f_perm o))])) rfl ?_
      refine QTri.steps Ad W 4 (st' := (61, [some (.ref 1), some (.int x1), some (.int x2), some (.int r204)], [.int (1 : Int32), .int x2, .int r204, .ref 1], [.inr (.inl (.int, s)), .inl [.ref 2, .ref 3, .ref 4, .ref 5, .ref 6, .ref 7, .ref 8, .ref 9, .ref 10, .int (f_poolSize o), .int (f_udpTimeout o), .int (f_tcpTimeout o), .int (f_cooldown o), .int (f_clock o), .int (f_remAddr o), .int (f_remPort o), .int y209, .int y210, .int (f_regExt o)], .inr (.inl (.boolean, (f_live o))), .inr (.inl (.boolean, (f_used o))), .inr (.inl (.int, (f_freedAt o))), .inr (.inl (.int, (f_protoOf o))), .inr (.inl (.int, (f_hostOf o))), .inr (.inl (.int, (f_iportOf o))), .inr (.inl (.int, (f_stateAt o))), .inr (.inl (.int, (f_deadlineAt o))), .inr (.inr (f_perm o))])) rfl ?_
      have E211 : ([.inr (.inl (.int, s)), .inl [.ref 2, .ref 3, .ref 4, .ref 5, .ref 6, .ref 7, .ref 8, .ref 9, .ref 10, .int (f_poolSize o), .int (f_udpTimeout o), .int (f_tcpTimeout o), .int (f_cooldown o), .int (f_clock o), .int (f_remAddr o), .int (f_remPort o), .int y209, .int y210, .int (f_regExt o)], .inr (.inl (.boolean, (f_live o))), .inr (.inl (.boolean, (f_used o))), .inr (.inl (.int, (f_freedAt o))), .inr (.inl (.int, (f_protoOf o))), .inr (.inl (.int, (f_hostOf o))), .inr (.inl (.int, (f_iportOf o))), .inr (.inl (.int, (f_stateAt o))), .inr (.inl (.int, (f_deadlineAt o))), .inr (.inr (f_perm o))] : QHeap) = (H0 s (s_regPort (s_regHost o y209) y210)) := by dsimp only [H0, f_live, f_used, f_freedAt, f_protoOf, f_hostOf, f_iportOf, f_stateAt, f_deadlineAt, f_perm, f_poolSize, f_udpTimeout, f_tcpTimeout, f_cooldown, f_clock, f_remAddr, f_remPort, f_regHost, f_regPort, f_regExt, s_regHost, s_regPort]
      rw [E211]
      obtain ⟨r212, hr212, h⟩ := Option.bind_eq_some_iff.mp h
      refine QTri.callP W (a := 1) (as := [.int r204, .int x2, .int (1 : Int32)]) (rest := []) (w := none) (σ₁ := (H0 s r212)) rfl rfl rfl rfl rfl rfl rfl rfl (tF29 Ad W s (s_regPort (s_regHost o y209) y210) r204 x2 (1 : Int32) hr212) ?_
      refine QTri.steps Ad W 1 (st' := (65, [some (.ref 1), some (.int x1), some (.int x2), some (.int r204)], [.int (3 : Int32)], (H0 s r212))) rfl ?_
      obtain rfl := Option.some.inj h
      exact QTri.retI rfl rfl
def J19_103 (o : Ob) (x3 : Int32) (x4 : Int32) (x5 : Int32) : Option (Int32 × Ob) :=
  (F28 o x5 (f_remAddr o)).bind fun r154 => (F29 r154 x5 x4 (0 : Int32)).bind fun r197 => (if (f_remAddr r197) = (255 : Int32) then (F33 (s_regExt r197 ((5000 : Int32) + x5)) x3 x4).bind fun r213 => some (r213.1, r213.2) else some ((1 : Int32), (s_regPort (s_regHost (s_regExt r197 ((5000 : Int32) + x5)) (-1 : Int32)) (-1 : Int32))))
theorem tJ19_103 (Ad : QAd n0 ad) (W : QW Z a0) (s : List Int32) (o : Ob) (x3 : Int32) (x4 : Int32) (x5 : Int32) {r : Int32 × Ob} (h : J19_103 o x3 x4 x5 = some r) : QTri l Z n0 ad 19 (103, [some (.ref 1), none, none, some (.int x3), some (.int x4), some (.int x5)], [], (H0 s o)) (some (Value.int r.1)) (H0 s r.2) := by
  unfold J19_103 at h
  refine QTri.steps Ad W 4 (st' := (110, [some (.ref 1), none, none, some (.int x3), some (.int x4), some (.int x5)], [.int (f_remAddr o), .int x5, .ref 1], (H0 s o))) rfl ?_
  obtain ⟨r154, hr154, h⟩ := Option.bind_eq_some_iff.mp h
  refine QTri.callP W (a := 1) (as := [.int x5, .int (f_remAddr o)]) (rest := []) (w := none) (σ₁ := (H0 s r154)) rfl rfl rfl rfl rfl rfl rfl rfl (tF28 Ad W s o x5 (f_remAddr o) hr154) ?_
  refine QTri.steps Ad W 4 (st' := (119, [some (.ref 1), none, none, some (.int x3), some (.int x4), some (.int x5)], [.int (0 : Int32), .int x4, .int x5, .ref 1], (H0 s r154))) rfl ?_
  obtain ⟨r197, hr197, h⟩ := Option.bind_eq_some_iff.mp h
  refine QTri.callP W (a := 1) (as := [.int x5, .int x4, .int (0 : Int32)]) (rest := []) (w := none) (σ₁ := (H0 s r197)) rfl rfl rfl rfl rfl rfl rfl rfl (tF29 Ad W s r154 x5 x4 (0 : Int32) hr197) ?_
  refine QTri.steps Ad W 5 (st' := (132, [some (.ref 1), none, none, some (.int x3), some (.int x4), some (.int x5)], [], [.inr (.inl (.int, s)), .inl [.ref 2, .ref 3, .ref 4, .ref 5, .ref 6, .ref 7, .ref 8, .ref 9, .ref 10, .int (f_poolSize r197), .int (f_udpTimeout r197), .int (f_tcpTimeout r197), .int (f_cooldown r197), .int (f_clock r197), .int (f_remAddr r197), .int (f_remPort r197), .int (f_regHost r197), .int (f_regPort r197), .int ((5000 : Int32) + x5)], .inr (.inl (.boolean, (f_live r197))), .inr (.inl (.boolean, (f_used r197))), .inr (.inl (.int, (f_freedAt r197))), .inr (.inl (.int, (f_protoOf r197))), .inr (.inl (.int, (f_hostOf r197))), .inr (.inl (.int, (f_iportOf r197))), .inr (.inl (.int, (f_stateAt r197))), .inr (.inl (.int, (f_deadlineAt r197))), .inr (.inr (f_perm r197))])) rfl ?_
  refine QTri.steps Ad W 3 (st' := (139, [some (.ref 1), none, none, some (.int x3), some (.int x4), some (.int x5)], [.int (255 : Int32), .int (f_remAddr r197)], [.inr (.inl (.int, s)), .inl [.ref 2, .ref 3, .ref 4, .ref 5, .ref 6, .ref 7, .ref 8, .ref 9, .ref 10, .int (f_poolSize r197), .int (f_udpTimeout r197), .int (f_tcpTimeout r197), .int (f_cooldown r197), .int (f_clock r197), .int (f_remAddr r197), .int (f_remPort r197), .int (f_regHost r197), .int (f_regPort r197), .int ((5000 : Int32) + x5)], .inr (.inl (.boolean, (f_live r197))), .inr (.inl (.boolean, (f_used r197))), .inr (.inl (.int, (f_freedAt r197))), .inr (.inl (.int, (f_protoOf r197))), .inr (.inl (.int, (f_hostOf r197))), .inr (.inl (.int, (f_iportOf r197))), .inr (.inl (.int, (f_stateAt r197))), .inr (.inl (.int, (f_deadlineAt r197))), .inr (.inr (f_perm r197))])) rfl ?_
  rcases qite h with ⟨hc198, h⟩ | ⟨hc198, h⟩
  · refine QTri.brT Ad W (t := 154) (f := 142) (L := [some (.ref 1), none, none, some (.int x3), some (.int x4), some (.int x5)]) (S := []) (σ := [.inr (.inl (.int, s)), .inl [.ref 2, .ref 3, .ref 4, .ref 5, .ref 6, .ref 7, .ref 8, .ref 9, .ref 10, .int (f_poolSize r197), .int (f_udpTimeout r197), .int (f_tcpTimeout r197), .int (f_cooldown r197), .int (f_clock r197), .int (f_remAddr r197), .int (f_remPort r197), .int (f_regHost r197), .int (f_regPort r197), .int ((5000 : Int32) + x5)], .inr (.inl (.boolean, (f_live r197))), .inr (.inl (.boolean, (f_used r197))), .inr (.inl (.int, (f_freedAt r197))), .inr (.inl (.int, (f_protoOf r197))), .inr (.inl (.int, (f_hostOf r197))), .inr (.inl (.int, (f_iportOf r197))), .inr (.inl (.int, (f_stateAt r197))), .inr (.inl (.int, (f_deadlineAt r197))), .inr (.inr (f_perm r197))]) rfl (XT.ii_eq_t hc198) ?_
    refine QTri.steps Ad W 3 (st' := (158, [some (.ref 1), none, none, some (.int x3), some (.int x4), some (.int x5)], [.int x4, .int x3, .ref 1], [.inr (.inl (.int, s)), .inl [.ref 2, .ref 3, .ref 4, .ref 5, .ref 6, .ref 7, .ref 8, .ref 9, .ref 10, .int (f_poolSize r197), .int (f_udpTimeout r197), .int (f_tcpTimeout r197), .int (f_cooldown r197), .int (f_clock r197), .int (f_remAddr r197), .int (f_remPort r197), .int (f_regHost r197), .int (f_regPort r197), .int ((5000 : Int32) + x5)], .inr (.inl (.boolean, (f_live r197))), .inr (.inl (.boolean, (f_used r197))), .inr (.inl (.int, (f_freedAt r197))), .inr (.inl (.int, (f_protoOf r197))), .inr (.inl (.int, (f_hostOf r197))), .inr (.inl (.int, (f_iportOf r197))), .inr (.inl (.int, (f_stateAt r197))), .inr (.inl (.int, (f_deadlineAt r197))), .inr (.inr (f_perm r197))])) rfl ?_
    have E199 : ([.inr (.inl (.int, s)), .inl [.ref 2, .ref 3, .ref 4, .ref 5, .ref 6, .ref 7, .ref 8, .ref 9, .ref 10, .int (f_poolSize r197), .int (f_udpTimeout r197), .int (f_tcpTimeout r197), .int (f_cooldown r197), .int (f_clock r197), .int (f_remAddr r197), .int (f_remPort r197), .int (f_regHost r197), .int (f_regPort r197), .int ((5000 : Int32) + x5)], .inr (.inl (.boolean, (f_live r197))), .inr (.inl (.boolean, (f_used r197))), .inr (.inl (.int, (f_freedAt r197))), .inr (.inl (.int, (f_protoOf r197))), .inr (.inl (.int, (f_hostOf r197))), .inr (.inl (.int, (f_iportOf r197))), .inr (.inl (.int, (f_stateAt r197))), .inr (.inl (.int, (f_deadlineAt r197))), .inr (.inr (f_perm r197))] : QHeap) = (H0 s (s_regExt r197 ((5000 : Int32) + x5))) := by dsimp only [H0, f_live, f_used, f_freedAt, f_protoOf, f_hostOf, f_iportOf, f_stateAt, f_deadlineAt, f_perm, f_poolSize, f_udpTimeout, f_tcpTimeout, f_cooldown, f_clock, f_remAddr, f_remPort, f_regHost, f_regPort, f_regExt, s_regExt]
    rw [E199]
    obtain ⟨r213, hr213, h⟩ := Option.bind_eq_some_iff.mp h
    refine QTri.callP W (a := 1) (as := [.int x3, .int x4]) (rest := []) (w := (some (.int r213.1))) (σ₁ := (H0 s r213.2)) rfl rfl rfl rfl rfl rfl rfl rfl (tF33 Ad W s (s_regExt r197 ((5000 : Int32) + x5)) x3 x4 hr213) ?_
    obtain rfl := Option.some.inj h
    exact QTri.retI rfl rfl
  · refine QTri.brF Ad W (t := 154) (f := 142) (L := [some (.ref 1), none, none, some (.int x3), some (.int x4), some (.int x5)]) (S := []) (σ := [.inr (.inl (.int, s)), .inl [.ref 2, .ref 3, .ref 4, .ref 5, .ref 6, .ref 7, .ref 8, .ref 9, .ref 10, .int (f_poolSize r197), .int (f_udpTimeout r197), .int (f_tcpTimeout r197), .int (f_cooldown r197), .int (f_clock r197), .int (f_remAddr r197), .int (f_remPort r197), .int (f_regHost r197), .int (f_regPort r197), .int ((5000 : Int32) + x5)], .inr (.inl (.boolean, (f_live r197))), .inr (.inl (.boolean, (f_used r197))), .inr (.inl (.int, (f_freedAt r197))), .inr (.inl (.int, (f_protoOf r197))), .inr (.inl (.int, (f_hostOf r197))), .inr (.inl (.int, (f_iportOf r197))), .inr (.inl (.int, (f_stateAt r197))), .inr (.inl (.int, (f_deadlineAt r197))), .inr (.inr (f_perm r197))]) rfl (XT.ii_eq_f hc198) ?_
    refine QTri.steps Ad W 3 (st' := (147, [some (.ref 1), none, none, some (.int x3), some (.int x4), some (.int x5)], [], [.inr (.inl (.int, s)), .inl [.ref 2, .ref 3, .ref 4, .ref 5, .ref 6, .ref 7, .ref 8, .ref 9, .ref 10, .int (f_poolSize r197), .int (f_udpTimeout r197), .int (f_tcpTimeout r197), .int (f_cooldown r197), .int (f_clock r197), .int (f_remAddr r197), .int (f_remPort r197), .int (-1 : Int32), .int (f_regPort r197), .int ((5000 : Int32) + x5)], .inr (.inl (.boolean, (f_live r197))), .inr (.inl (.boolean, (f_used r197))), .inr (.inl (.int, (f_freedAt r197))), .inr (.inl (.int, (f_protoOf r197))), .inr (.inl (.int, (f_hostOf r197))), .inr (.inl (.int, (f_iportOf r197))), .inr (.inl (.int, (f_stateAt r197))), .inr (.inl (.int, (f_deadlineAt r197))), .inr (.inr (f_perm r197))])) rfl ?_
    refine QTri.steps Ad W 3 (st' := (152, [some (.ref 1), none, none, some (.int x3), some (.int x4), some (.int x5)], [], [.inr (.inl (.int, s)), .inl [.ref 2, .ref 3, .ref 4, .ref 5, .ref 6, .ref 7, .ref 8, .ref 9, .ref 10, .int (f_poolSize r197), .int (f_udpTimeout r197), .int (f_tcpTimeout r197), .int (f_cooldown r197), .int (f_clock r197), .int (f_remAddr r197), .int (f_remPort r197), .int (-1 : Int32), .int (-1 : Int32), .int ((5000 : Int32) + x5)], .inr (.inl (.boolean, (f_live r197))), .inr (.inl (.boolean, (f_used r197))), .inr (.inl (.int, (f_freedAt r197))), .inr (.inl (.int, (f_protoOf r197))), .inr (.inl (.int, (f_hostOf r197))), .inr (.inl (.int, (f_iportOf r197))), .inr (.inl (.int, (f_stateAt r197))), .inr (.inl (.int, (f_deadlineAt r197))), .inr (.inr (f_perm r197))])) rfl ?_
    refine QTri.steps Ad W 1 (st' := (153, [some (.ref 1), none, none, some (.int x3), some (.int x4), some (.int x5)], [.int (1 : Int32)], [.inr (.inl (.int, s)), .inl [.ref 2, .ref 3, .ref 4, .ref 5, .ref 6, .ref 7, .ref 8, .ref 9, .ref 10, .int (f_poolSize r197), .int (f_udpTimeout r197), .int (f_tcpTimeout r197), .int (f_cooldown r197), .int (f_clock r197), .int (f_remAddr r197), .int (f_remPort r197), .int (-1 : Int32), .int (-1 : Int32), .int ((5000 : Int32) + x5)], .inr (.inl (.boolean, (f_live r197))), .inr (.inl (.boolean, (f_used r197))), .inr (.inl (.int, (f_freedAt r197))), .inr (.inl (.int, (f_protoOf r197))), .inr (.inl (.int, (f_hostOf r197))), .inr (.inl (.int, (f_iportOf r197))), .inr (.inl (.int, (f_stateAt r197))), .inr (.inl (.int, (f_deadlineAt r197))), .inr (.inr (f_perm r197))])) rfl ?_
    have E214 : ([.inr (.inl (.int, s)), .inl [.ref 2, .ref 3, .ref 4, .ref 5, .ref 6, .ref 7, .ref 8, .ref 9, .ref 10, .int (f_poolSize r197), .int (f_udpTimeout r197), .int (f_tcpTimeout r197), .int (f_cooldown r197), .int (f_clock r197), .int (f_remAddr r197), .int (f_remPort r197), .int (-1 : Int32), .int (-1 : Int32), .int ((5000 : Int32) + x5)], .inr (.inl (.boolean, (f_live r197))), .inr (.inl (.boolean, (f_used r197))), .inr (.inl (.int, (f_freedAt r197))), .inr (.inl (.int, (f_protoOf r197))), .inr (.inl (.int, (f_hostOf r197))), .inr (.inl (.int, (f_iportOf r197))), .inr (.inl (.int, (f_stateAt r197))), .inr (.inl (.int, (f_deadlineAt r197))), .inr (.inr (f_perm r197))] : QHeap) = (H0 s (s_regPort (s_regHost (s_regExt r197 ((5000 : Int32) + x5)) (-1 : Int32)) (-1 : Int32))) := by dsimp only [H0, f_live, f_used, f_freedAt, f_protoOf, f_hostOf, f_iportOf, f_stateAt, f_deadlineAt, f_perm, f_poolSize, f_udpTimeout, f_tcpTimeout, f_cooldown, f_clock, f_remAddr, f_remPort, f_regHost, f_regPort, f_regExt, s_regHost, s_regPort, s_regExt]
    rw [E214]
    obtain rfl := Option.some.inj h
    exact QTri.retI rfl rfl
def J19_80 (o : Ob) (x1 : Int32) (x2 : Int32) (x3 : Int32) (x4 : Int32) : Option (Int32 × Ob) :=
  (F25 o).bind fun r132 => (if r132 < (0 : Int32) then some ((-2 : Int32), o) else (F26 o r132 x3 x1 x2).bind fun r150 => (J19_103 r150 x3 x4 r132))
theorem tJ19_80 (Ad : QAd n0 ad) (W : QW Z a0) (s : List Int32) (o : Ob) (x1 : Int32) (x2 : Int32) (x3 : Int32) (x4 : Int32) {r : Int32 × Ob} (h : J19_80 o x1 x2 x3 x4 = some r) : QTri l Z n0 ad 19 (80, [some (.ref 1), some (.int x1), some (.int x2), some (.int x3), some (.int x4), none], [], (H0 s o)) (some (Value.int r.1)) (H0 s r.2) := by
  unfold J19_80 at h
  refine QTri.steps Ad W 1 (st' := (81, [some (.ref 1), some (.int x1), some (.int x2), some (.int x3), some (.int x4), none], [.ref 1], (H0 s o))) rfl ?_
  obtain ⟨r132, hr132, h⟩ := Option.bind_eq_some_iff.mp h
  refine QTri.callP W (a := 1) (as := []) (rest := []) (w := (some (.int r132))) (σ₁ := (H0 s o)) rfl rfl rfl rfl rfl rfl rfl rfl (tF25 Ad W s o hr132) ?_
  refine QTri.steps Ad W 2 (st' := (88, [some (.ref 1), some (.int x1), some (.int x2), some (.int x3), some (.int x4), some (.int r132)], [.int r132], (H0 s o))) rfl ?_
  rcases qite h with ⟨hc133, h⟩ | ⟨hc133, h⟩
  · refine QTri.brF Ad W (t := 94) (f := 91) (L := [some (.ref 1), some (.int x1), some (.int x2), some (.int x3), some (.int x4), some (.int r132)]) (S := []) (σ := (H0 s o)) rfl (XT.i0_ge_f hc133) ?_
    refine QTri.steps Ad W 1 (st' := (93, [some (.ref 1), some (.int x1), some (.int x2), some (.int x3), some (.int x4), some (.int r132)], [.int (-2 : Int32)], (H0 s o))) rfl ?_
    obtain rfl := Option.some.inj h
    exact QTri.retI rfl rfl
  · refine QTri.brT Ad W (t := 94) (f := 91) (L := [some (.ref 1), some (.int x1), some (.int x2), some (.int x3), some (.int x4), some (.int r132)]) (S := []) (σ := (H0 s o)) rfl (XT.i0_ge_t hc133) ?_
    refine QTri.steps Ad W 5 (st' := (100, [some (.ref 1), some (.int x1), some (.int x2), some (.int x3), some (.int x4), some (.int r132)], [.int x2, .int x1, .int x3, .int r132, .ref 1], (H0 s o))) rfl ?_
    obtain ⟨r150, hr150, h⟩ := Option.bind_eq_some_iff.mp h
    refine QTri.callP W (a := 1) (as := [.int r132, .int x3, .int x1, .int x2]) (rest := []) (w := none) (σ₁ := (H0 s r150)) rfl rfl rfl rfl rfl rfl rfl rfl (tF26 Ad W s o r132 x3 x1 x2 hr150) ?_
    exact QTri.mask [true, false, false, true, true, true] (tJ19_103 Ad W s r150 x3 x4 r132 h)
/-- outbound(IIII)I -/
def F19 (o : Ob) (x1 : Int32) (x2 : Int32) (x3 : Int32) (x4 : Int32) : Option (Int32 × Ob) :=
  (if x1 < (0 : Int32) then some ((-1 : Int32), o) else (if x1 < (8 : Int32) then (if x2 < (1 : Int32) then some ((-1 : Int32), o) else (if (65535 : Int32) < x2 then some ((-1 : Int32), o) else (F20 x3 x4).bind fun r106 => (if r106 = (0 : Int32) then some ((-1 : Int32), o) else (if (f_remAddr o) = (0 : Int32) then some ((-1 : Int32), o) else (F24 o x3 x1 x2).bind fun r120 => (if r120 < (0 : Int32) then (if x3 = (6 : Int32) then (if (x4 &&& (1 : Int32)) = (0 : Int32) then some ((-3 : Int32), o) else (if (x4 &&& (8 : Int32)) = (0 : Int32) then (J19_80 o x1 x2 x3 x4) else some ((-3 : Int32), o))) else (J19_80 o x1 x2 x3 x4)) else (J19_103 o x3 x4 r120)))))) else some ((-1 : Int32), o)))
theorem tF19 (Ad : QAd n0 ad) (W : QW Z a0) (s : List Int32) (o : Ob) (x1 : Int32) (x2 : Int32) (x3 : Int32) (x4 : Int32) {r : Int32 × Ob} (h : F19 o x1 x2 x3 x4 = some r) : QTri l Z n0 ad 19 (0, qentry [.ref 1, .int x1, .int x2, .int x3, .int x4] (pMaxL 19), [], (H0 s o)) (some (Value.int r.1)) (H0 s r.2) := by
  unfold F19 at h
  refine QTri.steps Ad W 1 (st' := (1, [some (.ref 1), some (.int x1), some (.int x2), some (.int x3), some (.int x4), none], [.int x1], (H0 s o))) rfl ?_
  rcases qite h with ⟨hc96, h⟩ | ⟨hc96, h⟩
  · refine QTri.brT Ad W (t := 21) (f := 4) (L := [some (.ref 1), some (.int x1), some (.int x2), some (.int x3), some (.int x4), none]) (S := []) (σ := (H0 s o)) rfl (XT.i0_lt_t hc96) ?_
    refine QTri.steps Ad W 1 (st' := (22, [some (.ref 1), some (.int x1), some (.int x2), some (.int x3), some (.int x4), none], [.int (-1 : Int32)], (H0 s o))) rfl ?_
    obtain rfl := Option.some.inj h
    exact QTri.retI rfl rfl
  · refine QTri.brF Ad W (t := 21) (f := 4) (L := [some (.ref 1), some (.int x1), some (.int x2), some (.int x3), some (.int x4), none]) (S := []) (σ := (H0 s o)) rfl (XT.i0_lt_f hc96) ?_
    refine QTri.steps Ad W 2 (st' := (7, [some (.ref 1), some (.int x1), some (.int x2), some (.int x3), some (.int x4), none], [.int (8 : Int32), .int x1], (H0 s o))) rfl ?_
    rcases qite h with ⟨hc97, h⟩ | ⟨hc97, h⟩
    · refine QTri.brF Ad W (t := 21) (f := 10) (L := [some (.ref 1), some (.int x1), some (.int x2), some (.int x3), some (.int x4), none]) (S := []) (σ := (H0 s o)) rfl (XT.ii_ge_f hc97) ?_
      refine QTri.steps Ad W 2 (st' := (12, [some (.ref 1), some (.int x1), some (.int x2), some (.int x3), some (.int x4), none], [.int (1 : Int32), .int x2], (H0 s o))) rfl ?_
      rcases qite h with ⟨hc98, h⟩ | ⟨hc98, h⟩
      · refine QTri.brT Ad W (t := 21) (f := 15) (L := [some (.ref 1), some (.int x1), some (.int x2), some (.int x3), some (.int x4), none]) (S := []) (σ := (H0 s o)) rfl (XT.ii_lt_t hc98) ?_
        refine QTri.steps Ad W 1 (st' := (22, [some (.ref 1), some (.int x1), some (.int x2), some (.int x3), some (.int x4), none], [.int (-1 : Int32)], (H0 s o))) rfl ?_
        obtain rfl := Option.some.inj h
        exact QTri.retI rfl rfl
      · refine QTri.brF Ad W (t := 21) (f := 15) (L := [some (.ref 1), some (.int x1), some (.int x2), some (.int x3), some (.int x4), none]) (S := []) (σ := (H0 s o)) rfl (XT.ii_lt_f hc98) ?_
        refine QTri.steps Ad W 2 (st' := (18, [some (.ref 1), some (.int x1), some (.int x2), some (.int x3), some (.int x4), none], [.int (65535 : Int32), .int x2], (H0 s o))) rfl ?_
        rcases qite h with ⟨hc99, h⟩ | ⟨hc99, h⟩
        · refine QTri.brF Ad W (t := 23) (f := 21) (L := [some (.ref 1), some (.int x1), some (.int x2), some (.int x3), some (.int x4), none]) (S := []) (σ := (H0 s o)) rfl (XT.ii_le_f hc99) ?_
          refine QTri.steps Ad W 1 (st' := (22, [some (.ref 1), some (.int x1), some (.int x2), some (.int x3), some (.int x4), none], [.int (-1 : Int32)], (H0 s o))) rfl ?_
          obtain rfl := Option.some.inj h
          exact QTri.retI rfl rfl
        · refine QTri.brT Ad W (t := 23) (f := 21) (L := [some (.ref 1), some (.int x1), some (.int x2), some (.int x3), some (.int x4), none]) (S := []) (σ := (H0 s o)) rfl (XT.ii_le_t hc99) ?_
          refine QTri.steps Ad W 3 (st' := (27, [some (.ref 1), some (.int x1), some (.int x2), some (.int x3), some (.int x4), none], [.int x4, .int x3, .ref 1], (H0 s o))) rfl ?_
          obtain ⟨r106, hr106, h⟩ := Option.bind_eq_some_iff.mp h
          refine QTri.callP W (a := 1) (as := [.int x3, .int x4]) (rest := []) (w := (some (.int r106))) (σ₁ := (H0 s o)) rfl rfl rfl rfl rfl rfl rfl rfl (tF20 Ad W x3 x4 hr106) ?_
          rcases qite h with ⟨hc107, h⟩ | ⟨hc107, h⟩
          · refine QTri.brT Ad W (t := 40) (f := 33) (L := [some (.ref 1), some (.int x1), some (.int x2), some (.int x3), some (.int x4), none]) (S := []) (σ := (H0 s o)) rfl (XT.i0_eq_t hc107) ?_
            refine QTri.steps Ad W 1 (st' := (41, [some (.ref 1), some (.int x1), some (.int x2), some (.int x3), some (.int x4), none], [.int (-1 : Int32)], (H0 s o))) rfl ?_
            obtain rfl := Option.some.inj h
            exact QTri.retI rfl rfl
          · refine QTri.brF Ad W (t := 40) (f := 33) (L := [some (.ref 1), some (.int x1), some (.int x2), some (.int x3), some (.int x4), none]) (S := []) (σ := (H0 s o)) rfl (XT.i0_eq_f hc107) ?_
            refine QTri.steps Ad W 2 (st' := (37, [some (.ref 1), some (.int x1), some (.int x2), some (.int x3), some (.int x4), none], [.int (f_remAddr o)], (H0 s o))) rfl ?_
            rcases qite h with ⟨hc108, h⟩ | ⟨hc108, h⟩
            · refine QTri.brF Ad W (t := 42) (f := 40) (L := [some (.ref 1), some (.int x1), some (.int x2), some (.int x3), some (.int x4), none]) (S := []) (σ := (H0 s o)) rfl (XT.i0_ne_f hc108) ?_
              refine QTri.steps Ad W 1 (st' := (41, [some (.ref 1), some (.int x1), some (.int x2), some (.int x3), some (.int x4), none], [.int (-1 : Int32)], (H0 s o))) rfl ?_
              obtain rfl := Option.some.inj h
              exact QTri.retI rfl rfl
            · refine QTri.brT Ad W (t := 42) (f := 40) (L := [some (.ref 1), some (.int x1), some (.int x2), some (.int x3), some (.int x4), none]) (S := []) (σ := (H0 s o)) rfl (XT.i0_ne_t hc108) ?_
              refine QTri.steps Ad W 4 (st' := (46, [some (.ref 1), some (.int x1), some (.int x2), some (.int x3), some (.int x4), none], [.int x2, .int x1, .int x3, .ref 1], (H0 s o))) rfl ?_
              obtain ⟨r120, hr120, h⟩ := Option.bind_eq_some_iff.mp h
              refine QTri.callP W (a := 1) (as := [.int x3, .int x1, .int x2]) (rest := []) (w := (some (.int r120))) (σ₁ := (H0 s o)) rfl rfl rfl rfl rfl rfl rfl rfl (tF24 Ad W s o x3 x1 x2 hr120) ?_
              refine QTri.steps Ad W 2 (st' := (53, [some (.ref 1), some (.int x1), some (.int x2), some (.int x3), some (.int x4), some (.int r120)], [.int r120], (H0 s o))) rfl ?_
              rcases qite h with ⟨hc121, h⟩ | ⟨hc121, h⟩
              · refine QTri.brF Ad W (t := 103) (f := 56) (L := [some (.ref 1), some (.int x1), some (.int x2), some (.int x3), some (.int x4), some (.int r120)]) (S := []) (σ := (H0 s o)) rfl (XT.i0_ge_f hc121) ?_
                refine QTri.steps Ad W 2 (st' := (59, [some (.ref 1), some (.int x1), some (.int x2), some (.int x3), some (.int x4), some (.int r120)], [.int (6 : Int32), .int x3], (H0 s o))) rfl ?_
                rcases qite h with ⟨hc122, h⟩ | ⟨hc122, h⟩
                · refine QTri.brF Ad W (t := 80) (f := 62) (L := [some (.ref 1), some (.int x1), some (.int x2), some (.int x3), some (.int x4), some (.int r120)]) (S := []) (σ := (H0 s o)) rfl (XT.ii_ne_f hc122) ?_
                  refine QTri.steps Ad W 3 (st' := (66, [some (.ref 1), some (.int x1), some (.int x2), some (.int x3), some (.int x4), some (.int r120)], [.int (x4 &&& (1 : Int32))], (H0 s o))) rfl ?_
                  rcases qite h with ⟨hc123, h⟩ | ⟨hc123, h⟩
                  · refine QTri.brT Ad W (t := 77) (f := 69) (L := [some (.ref 1), some (.int x1), some (.int x2), some (.int x3), some (.int x4), some (.int r120)]) (S := []) (σ := (H0 s o)) rfl (XT.i0_eq_t hc123) ?_
                    refine QTri.steps Ad W 1 (st' := (79, [some (.ref 1), some (.int x1), some (.int x2), some (.int x3), some (.int x4), some (.int r120)], [.int (-3 : Int32)], (H0 s o))) rfl ?_
                    obtain rfl := Option.some.inj h
                    exact QTri.retI rfl rfl
                  · refine QTri.brF Ad W (t := 77) (f := 69) (L := [some (.ref 1), some (.int x1), some (.int x2), some (.int x3), some (.int x4), some (.int r120)]) (S := []) (σ := (H0 s o)) rfl (XT.i0_eq_f hc123) ?_
                    refine QTri.steps Ad W 3 (st' := (74, [some (.ref 1), some (.int x1), some (.int x2), some (.int x3), some (.int x4), some (.int r120)], [.int (x4 &&& (8 : Int32))], (H0 s o))) rfl ?_
                    rcases qite h with ⟨hc124, h⟩ | ⟨hc124, h⟩
                    · refine QTri.brT Ad W (t := 80) (f := 77) (L := [some (.ref 1), some (.int x1), some (.int x2), some (.int x3), some (.int x4), some (.int r120)]) (S := []) (σ := (H0 s o)) rfl (XT.i0_eq_t hc124) ?_
                      exact QTri.mask [true, true, true, true, true, false] (tJ19_80 Ad W s o x1 x2 x3 x4 h)
                    · refine QTri.brF Ad W (t := 80) (f := 77) (L := [some (.ref 1), some (.int x1), some (.int x2), some (.int x3), some (.int x4), some (.int r120)]) (S := []) (σ := (H0 s o)) rfl (XT.i0_eq_f hc124) ?_
                      refine QTri.steps Ad W 1 (st' := (79, [some (.ref 1), some (.int x1), some (.int x2), some (.int x3), some (.int x4), some (.int r120)], [.int (-3 : Int32)], (H0 s o))) rfl ?_
                      obtain rfl := Option.some.inj h
                      exact QTri.retI rfl rfl
                · refine QTri.brT Ad W (t := 80) (f := 62) (L := [some (.ref 1), some (.int x1), some (.int x2), some (.int x3), some (.int x4), some (.int r120)]) (S := []) (σ := (H0 s o)) rfl (XT.ii_ne_t hc122) ?_
                  exact QTri.mask [true, true, true, true, true, false] (tJ19_80 Ad W s o x1 x2 x3 x4 h)
              · refine QTri.brT Ad W (t := 103) (f := 56) (L := [some (.ref 1), some (.int x1), some (.int x2), some (.int x3), some (.int x4), some (.int r120)]) (S := []) (σ := (H0 s o)) rfl (XT.i0_ge_t hc121) ?_
                exact QTri.mask [true, false, false, true, true, true] (tJ19_103 Ad W s o x3 x4 r120 h)
    · refine QTri.brT Ad W (t := 21) (f := 10) (L := [some (.ref 1), some (.int x1), some (.int x2), some (.int x3), some (.int x4), none]) (S := []) (σ := (H0 s o)) rfl (XT.ii_ge_t hc97) ?_
      refine QTri.steps Ad W 1 (st' := (22, [some (.ref 1), some (.int x1), some (.int x2), some (.int x3), some (.int x4), none], [.int (-1 : Int32)], (H0 s o))) rfl ?_
      obtain rfl := Option.some.inj h
      exact QTri.retI rfl rfl
/-- inbound(III)I -/
def F22 (o : Ob) (x1 : Int32) (x2 : Int32) (x3 : Int32) : Option (Int32 × Ob) :=
  (F20 x2 x3).bind fun r220 => (if r220 = (0 : Int32) then some ((-1 : Int32), o) else (if (f_remAddr o) = (0 : Int32) then some ((-1 : Int32), o) else (if (f_remAddr o) = (255 : Int32) then some ((-1 : Int32), o) else (F23 o x1 x2).bind fun r224 => (if r224 < (0 : Int32) then some ((-4 : Int32), o) else (F31 o r224 (f_remAddr o)).bind fun r226 => (if r226 = (0 : Int32) then some ((-5 : Int32), o) else (aget (f_hostOf o) r224).bind fun y228 => (aget (f_iportOf o) r224).bind fun y229 => (F29 (s_regExt (s_regPort (s_regHost o y228) y229) x1) r224 x3 (1 : Int32)).bind fun r231 => some ((2 : Int32), r231))))))
theorem tF22 (Ad : QAd n0 ad) (W : QW Z a0) (s : List Int32) (o : Ob) (x1 : Int32) (x2 : Int32) (x3 : Int32) {r : Int32 × Ob} (h : F22 o x1 x2 x3 = some r) : QTri l Z n0 ad 22 (0, qentry [.ref 1, .int x1, .int x2, .int x3] (pMaxL 22), [], (H0 s o)) (some (Value.int r.1)) (H0 s r.2) := by
  unfold F22 at h
  refine QTri.steps Ad W 3 (st' := (3, [some (.ref 1), some (.int x1), some (.int x2), some (.int x3), none], [.int x3, .int x2, .ref 1], (H0 s o))) rfl ?_
  obtain ⟨r220, hr220, h⟩ := Option.bind_eq_some_iff.mp h
  refine QTri.callP W (a := 1) (as := [.int x2, .int x3]) (rest := []) (w := (some (.int r220))) (σ₁ := (H0 s o)) rfl rfl rfl rfl rfl rfl rfl rfl (tF20 Ad W x2 x3 hr220) ?_
  rcases qite h with ⟨hc221, h⟩ | ⟨hc221, h⟩
  · refine QTri.brT Ad W (t := 26) (f := 9) (L := [some (.ref 1), some (.int x1), some (.int x2), some (.int x3), none]) (S := []) (σ := (H0 s o)) rfl (XT.i0_eq_t hc221) ?_
    refine QTri.steps Ad W 1 (st' := (27, [some (.ref 1), some (.int x1), some (.int x2), some (.int x3), none], [.int (-1 : Int32)], (H0 s o))) rfl ?_
    obtain rfl := Option.some.inj h
    exact QTri.retI rfl rfl
  · refine QTri.brF Ad W (t := 26) (f := 9) (L := [some (.ref 1), some (.int x1), some (.int x2), some (.int x3), none]) (S := []) (σ := (H0 s o)) rfl (XT.i0_eq_f hc221) ?_
    refine QTri.steps Ad W 2 (st' := (13, [some (.ref 1), some (.int x1), some (.int x2), some (.int x3), none], [.int (f_remAddr o)], (H0 s o))) rfl ?_
    rcases qite h with ⟨hc222, h⟩ | ⟨hc222, h⟩
    · refine QTri.brT Ad W (t := 26) (f := 16) (L := [some (.ref 1), some (.int x1), some (.int x2), some (.int x3), none]) (S := []) (σ := (H0 s o)) rfl (XT.i0_eq_t hc222) ?_
      refine QTri.steps Ad W 1 (st' := (27, [some (.ref 1), some (.int x1), some (.int x2), some (.int x3), none], [.int (-1 : Int32)], (H0 s o))) rfl ?_
      obtain rfl := Option.some.inj h
      exact QTri.retI rfl rfl
    · refine QTri.brF Ad W (t := 26) (f := 16) (L := [some (.ref 1), some (.int x1), some (.int x2), some (.int x3), none]) (S := []) (σ := (H0 s o)) rfl (XT.i0_eq_f hc222) ?_
      refine QTri.steps Ad W 3 (st' := (23, [some (.ref 1), some (.int x1), some (.int x2), some (.int x3), none], [.int (255 : Int32), .int (f_remAddr o)], (H0 s o))) rfl ?_
      rcases qite h with ⟨hc223, h⟩ | ⟨hc223, h⟩
      · refine QTri.brF Ad W (t := 28) (f := 26) (L := [some (.ref 1), some (.int x1), some (.int x2), some (.int x3), none]) (S := []) (σ := (H0 s o)) rfl (XT.ii_ne_f hc223) ?_
        refine QTri.steps Ad W 1 (st' := (27, [some (.ref 1), some (.int x1), some (.int x2), some (.int x3), none], [.int (-1 : Int32)], (H0 s o))) rfl ?_
        obtain rfl := Option.some.inj h
        exact QTri.retI rfl rfl
      · refine QTri.brT Ad W (t := 28) (f := 26) (L := [some (.ref 1), some (.int x1), some (.int x2), some (.int x3), none]) (S := []) (σ := (H0 s o)) rfl (XT.ii_ne_t hc223) ?_
        refine QTri.steps Ad W 3 (st' := (31, [some (.ref 1), some (.int x1), some (.int x2), some (.int x3), none], [.int x2, .int x1, .ref 1], (H0 s o))) rfl ?_
        obtain ⟨r224, hr224, h⟩ := Option.bind_eq_some_iff.mp h
        refine QTri.callP W (a := 1) (as := [.int x1, .int x2]) (rest := []) (w := (some (.int r224))) (σ₁ := (H0 s o)) rfl rfl rfl rfl rfl rfl rfl rfl (tF23 Ad W s o x1 x2 hr224) ?_
        refine QTri.steps Ad W 2 (st' := (38, [some (.ref 1), some (.int x1), some (.int x2), some (.int x3), some (.int r224)], [.int r224], (H0 s o))) rfl ?_
        rcases qite h with ⟨hc225, h⟩ | ⟨hc225, h⟩
        · refine QTri.brF Ad W (t := 44) (f := 41) (L := [some (.ref 1), some (.int x1), some (.int x2), some (.int x3), some (.int r224)]) (S := []) (σ := (H0 s o)) rfl (XT.i0_ge_f hc225) ?_
          refine QTri.steps Ad W 1 (st' := (43, [some (.ref 1), some (.int x1), some (.int x2), some (.int x3), some (.int r224)], [.int (-4 : Int32)], (H0 s o))) rfl ?_
          obtain rfl := Option.some.inj h
          exact QTri.retI rfl rfl
        · refine QTri.brT Ad W (t := 44) (f := 41) (L := [some (.ref 1), some (.int x1), some (.int x2), some (.int x3), some (.int r224)]) (S := []) (σ := (H0 s o)) rfl (XT.i0_ge_t hc225) ?_
          refine QTri.steps Ad W 4 (st' := (51, [some (.ref 1), some (.int x1), some (.int x2), some (.int x3), some (.int r224)], [.int (f_remAddr o), .int r224, .ref 1], (H0 s o))) rfl ?_
          obtain ⟨r226, hr226, h⟩ := Option.bind_eq_some_iff.mp h
          refine QTri.callP W (a := 1) (as := [.int r224, .int (f_remAddr o)]) (rest := []) (w := (some (.int r226))) (σ₁ := (H0 s o)) rfl rfl rfl rfl rfl rfl rfl rfl (tF31 Ad W s o r224 (f_remAddr o) hr226) ?_
          rcases qite h with ⟨hc227, h⟩ | ⟨hc227, h⟩
          · refine QTri.brF Ad W (t := 60) (f := 57) (L := [some (.ref 1), some (.int x1), some (.int x2), some (.int x3), some (.int r224)]) (S := []) (σ := (H0 s o)) rfl (XT.i0_ne_f hc227) ?_
            refine QTri.steps Ad W 1 (st' := (59, [some (.ref 1), some (.int x1), some (.int x2), some (.int x3), some (.int r224)], [.int (-5 : Int32)], (H0 s o))) rfl ?_
            obtain rfl := Option.some.inj h
            exact QTri.retI rfl rfl
          · refine QTri.brT Ad W (t := 60) (f := 57) (L := [some (.ref 1), some (.int x1), some (.int x2), some (.int x3), some (.int r224)]) (S := []) (σ := (H0 s o)) rfl (XT.i0_ne_t hc227) ?_
            refine QTri.steps Ad W 4 (st' := (67, [some (.ref 1), some (.int x1), some (.int x2), some (.int x3), some (.int r224)], [.int r224, .ref 6, .ref 1], (H0 s o))) rfl ?_
            obtain ⟨y228, hy228, h⟩ := Option.bind_eq_some_iff.mp h
            refine QTri.bnd Ad W (f := fun y228 => (68, [some (.ref 1), some (.int x1), some (.int x2), some (.int x3), some (.int r224)], [.int y228, .ref 1], (H0 s o))) rfl hy228 ?_
            refine QTri.steps Ad W 1 (st' := (71, [some (.ref 1), some (.int x1), some (.int x2), some (.int x3), some (.int r224)], [], [.inr (.inl (.int, s)), .inl [.ref 2, .ref 3, .ref 4, .ref 5, .ref 6, .ref 7, .ref 8, .ref 9, .ref 10, .int (f_poolSize o), .int (f_udpTimeout o), .int (f_tcpTimeout o), .int (f_cooldown o), .int (f_clock o), .int (f_remAddr o), .int (f_remPort o), .int y228, .int (f_regPort o), .int (f_regExt o)], .inr (.inl (.boolean, (f_live o))), .inr (.inl (.boolean, (f_used o))), .inr (.inl (.int, (f_freedAt o))), .inr (.inl (.int, (f_protoOf o))), .inr (.inl (.int, (f_hostOf o))), .inr (.inl (.int, (f_iportOf o))), .inr (.inl (.int, (f_stateAt o))), .inr (.inl (.int, (f_deadlineAt o))), .inr (.inr (f_perm o))])) rfl ?_
            refine QTri.steps Ad W 4 (st' := (78, [some (.ref 1), some (.int x1), some (.int x2), some (.int x3), some (.int r224)], [.int r224, .ref 7, .ref 1], [.inr (.inl (.int, s)), .inl [.ref 2, .ref 3, .ref 4, .ref 5, .ref 6, .ref 7, .ref 8, .ref 9, .ref 10, .int (f_poolSize o), .int (f_udpTimeout o), .int (f_tcpTimeout o), .int (f_cooldown o), .int (f_clock o), .int (f_remAddr o), .int (f_remPort o), .int y228, .int (f_regPort o), .int (f_regExt o)], .inr (.inl (.boolean, (f_live o))), .inr (.inl (.boolean, (f_used o))), .inr (.inl (.int, (f_freedAt o))), .inr (.inl (.int, (f_protoOf o))), .inr (.inl (.int, (f_hostOf o))), .inr (.inl (.int, (f_iportOf o))), .inr (.inl (.int, (f_stateAt o))), .inr (.inl (.int, (f_deadlineAt o))), .inr (.inr (f_perm o))])) rfl ?_
            obtain ⟨y229, hy229, h⟩ := Option.bind_eq_some_iff.mp h
            refine QTri.bnd Ad W (f := fun y229 => (79, [some (.ref 1), some (.int x1), some (.int x2), some (.int x3), some (.int r224)], [.int y229, .ref 1], [.inr (.inl (.int, s)), .inl [.ref 2, .ref 3, .ref 4, .ref 5, .ref 6, .ref 7, .ref 8, .ref 9, .ref 10, .int (f_poolSize o), .int (f_udpTimeout o), .int (f_tcpTimeout o), .int (f_cooldown o), .int (f_clock o), .int (f_remAddr o), .int (f_remPort o), .int y228, .int (f_regPort o), .int (f_regExt o)], .inr (.inl (.boolean, (f_live o))), .inr (.inl (.boolean, (f_used o))), .inr (.inl (.int, (f_freedAt o))), .inr (.inl (.int, (f_protoOf o))), .inr (.inl (.int, (f_hostOf o))), .inr (.inl (.int, (f_iportOf o))), .inr (.inl (.int, (f_stateAt o))), .inr (.inl (.int, (f_deadlineAt o))), .inr (.inr (f_perm o))])) rfl hy229 ?_
            refine QTri.steps Ad W 1 (st' := (82, [some (.ref 1), some (.int x1), some (.int x2), some (.int x3), some (.int r224)], [], [.inr (.inl (.int, s)), .inl [.ref 2, .ref 3, .ref 4, .ref 5, .ref 6, .ref 7, .ref 8, .ref 9, .ref 10, .int (f_poolSize o), .int (f_udpTimeout o), .int (f_tcpTimeout o), .int (f_cooldown o), .int (f_clock o), .int (f_remAddr o), .int (f_remPort o), .int y228, .int y229, .int (f_regExt o)], .inr (.inl (.boolean, (f_live o))), .inr (.inl (.boolean, (f_used o))), .inr (.inl (.int, (f_freedAt o))), .inr (.inl (.int, (f_protoOf o))), .inr (.inl (.int, (f_hostOf o))), .inr (.inl (.int, (f_iportOf o))), .inr (.inl (.int, (f_stateAt o))), .inr (.inl (.int, (f_deadlineAt o))), .inr (.inr (f_perm o))])) rfl ?_
            refine QTri.steps Ad W 3 (st' := (87, [some (.ref 1), some (.int x1), some (.int x2), some (.int x3), some (.int r224)], [], [.inr (.inl (.int, s)), .inl [.ref 2, .ref 3, .ref 4, .ref 5, .ref 6, .ref 7, .ref 8, .ref 9, .ref 10, .int (f_poolSize o), .int (f_udpTimeout o), .int (f_tcpTimeout o), .int (f_cooldown o), .int (f_clock o), .int (f_remAddr o), .int (f_remPort o), .int y228, .int y229, .int x1], .inr (.inl (.boolean, (f_live o))), .inr (.inl (.boolean, (f_used o))), .inr (.inl (.int, (f_freedAt o))), .inr (.inl (.int, (f_protoOf o))), .inr (.inl (.int, (f_hostOf o))), .inr (.inl (.int, (f_iportOf o))), .inr (.inl (.int, (f_stateAt o))), .inr (.inl (.int, (f_deadlineAt o))), .inr (.inr (f_perm o))])) rfl ?_
            refine QTri.steps Ad W 4 (st' := (92, [some (.ref 1), some (.int x1), some (.int x2), some (.int x3), some (.int r224)], [.int (1 : Int32), .int x3, .int r224, .ref 1], [.inr (.inl (.int, s)), .inl [.ref 2, .ref 3, .ref 4, .ref 5, .ref 6, .ref 7, .ref 8, .ref 9, .ref 10, .int (f_poolSize o), .int (f_udpTimeout o), .int (f_tcpTimeout o), .int (f_cooldown o), .int (f_clock o), .int (f_remAddr o), .int (f_remPort o), .int y228, .int y229, .int x1], .inr (.inl (.boolean, (f_live o))), .inr (.inl (.boolean, (f_used o))), .inr (.inl (.int, (f_freedAt o))), .inr (.inl (.int, (f_protoOf o))), .inr (.inl (.int, (f_hostOf o))), .inr (.inl (.int, (f_iportOf o))), .inr (.inl (.int, (f_stateAt o))), .inr (.inl (.int, (f_deadlineAt o))), .inr (.inr (f_perm o))])) rfl ?_
            have E230 : ([.inr (.inl (.int, s)), .inl [.ref 2, .ref 3, .ref 4, .ref 5, .ref 6, .ref 7, .ref 8, .ref 9, .ref 10, .int (f_poolSize o), .int (f_udpTimeout o), .int (f_tcpTimeout o), .int (f_cooldown o), .int (f_clock o), .int (f_remAddr o), .int (f_remPort o), .int y228, .int y229, .int x1], .inr (.inl (.boolean, (f_live o))), .inr (.inl (.boolean, (f_used o))), .inr (.inl (.int, (f_freedAt o))), .inr (.inl (.int, (f_protoOf o))), .inr (.inl (.int, (f_hostOf o))), .inr (.inl (.int, (f_iportOf o))), .inr (.inl (.int, (f_stateAt o))), .inr (.inl (.int, (f_deadlineAt o))), .inr (.inr (f_perm o))] : QHeap) = (H0 s (s_regExt (s_regPort (s_regHost o y228) y229) x1)) := by dsimp only [H0, f_live, f_used, f_freedAt, f_protoOf, f_hostOf, f_iportOf, f_stateAt, f_deadlineAt, f_perm, f_poolSize, f_udpTimeout, f_tcpTimeout, f_cooldown, f_clock, f_remAddr, f_remPort, f_regHost, f_regPort, f_regExt, s_regHost, s_regPort, s_regExt]
            rw [E230]
            obtain ⟨r231, hr231, h⟩ := Option.bind_eq_some_iff.mp h
            refine QTri.callP W (a := 1) (as := [.int r224, .int x3, .int (1 : Int32)]) (rest := []) (w := none) (σ₁ := (H0 s r231)) rfl rfl rfl rfl rfl rfl rfl rfl (tF29 Ad W s (s_regExt (s_regPort (s_regHost o y228) y229) x1) r224 x3 (1 : Int32) hr231) ?_
            refine QTri.steps Ad W 1 (st' := (96, [some (.ref 1), some (.int x1), some (.int x2), some (.int x3), some (.int r224)], [.int (2 : Int32)], (H0 s r231))) rfl ?_
            obtain rfl := Option.some.inj h
            exact QTri.retI rfl rfl
def J18_66 (o : Ob) (x2 : Int32) : Option (((Int32 × Ob)) ⊕ (Int32 × Ob)) :=
  some (.inr ((x2 + (1 : Int32)), o))
theorem tJ18_66 (Ad : QAd n0 ad) (W : QW Z a0) (s : List Int32) (o : Ob) (x2 : Int32) {r : ((Int32 × Ob)) ⊕ (Int32 × Ob)} {u : Option Value} {τ : QHeap} (h : J18_66 o x2 = some r) (hx0 : ∀ x : Int32 × Ob, r = .inl x → u = (some (Value.int x.1)) ∧ τ = (H0 s x.2)) (hc : ∀ x : Int32 × Ob, r = .inr x → QTri l Z n0 ad 18 (25, [some (.ref 1), none, some (.int x.1)], [], (H0 s x.2)) u τ) : QTri l Z n0 ad 18 (66, [some (.ref 1), none, some (.int x2)], [], (H0 s o)) u τ := by
  unfold J18_66 at h
  refine QTri.steps Ad W 2 (st' := (25, [some (.ref 1), none, some (.int (x2 + (1 : Int32)))], [], (H0 s o))) rfl ?_
  obtain rfl := Option.some.inj h
  exact QTri.mask [true, false, true] (hc ((x2 + (1 : Int32)), o) rfl)
def B18_25 (v : Int32 × Ob) : Option (((Int32 × Ob)) ⊕ (Int32 × Ob)) :=
  (if v.1 < (f_poolSize v.2) then (aget (f_live v.2) v.1).bind fun y240 => (if y240 = (0 : Int32) then (J18_66 v.2 v.1) else (aget (f_deadlineAt v.2) v.1).bind fun y242 => (if (f_clock v.2) < y242 then (J18_66 v.2 v.1) else (aget (f_deadlineAt v.2) v.1).bind fun y244 => (F32 v.2 v.1 y244).bind fun r245 => (J18_66 r245 v.1))) else some (.inl ((1 : Int32), v.2)))
theorem tB18_25 (Ad : QAd n0 ad) (W : QW Z a0) (s : List Int32) (v : Int32 × Ob) {r : ((Int32 × Ob)) ⊕ (Int32 × Ob)} {u : Option Value} {τ : QHeap} (h : B18_25 v = some r) (hx0 : ∀ x : Int32 × Ob, r = .inl x → u = (some (Value.int x.1)) ∧ τ = (H0 s x.2)) (hc : ∀ x : Int32 × Ob, r = .inr x → QTri l Z n0 ad 18 (25, [some (.ref 1), none, some (.int x.1)], [], (H0 s x.2)) u τ) : QTri l Z n0 ad 18 (25, [some (.ref 1), none, some (.int v.1)], [], (H0 s v.2)) u τ := by
  unfold B18_25 at h
  refine QTri.steps Ad W 3 (st' := (30, [some (.ref 1), none, some (.int v.1)], [.int (f_poolSize v.2), .int v.1], (H0 s v.2))) rfl ?_
  rcases qite h with ⟨hc239, h⟩ | ⟨hc239, h⟩
  · refine QTri.brF Ad W (t := 72) (f := 33) (L := [some (.ref 1), none, some (.int v.1)]) (S := []) (σ := (H0 s v.2)) rfl (XT.ii_ge_f hc239) ?_
    refine QTri.steps Ad W 3 (st' := (38, [some (.ref 1), none, some (.int v.1)], [.int v.1, .ref 2], (H0 s v.2))) rfl ?_
    obtain ⟨y240, hy240, h⟩ := Option.bind_eq_some_iff.mp h
    refine QTri.bnd Ad W (f := fun y240 => (39, [some (.ref 1), none, some (.int v.1)], [.int y240], (H0 s v.2))) rfl hy240 ?_
    rcases qite h with ⟨hc241, h⟩ | ⟨hc241, h⟩
    · refine QTri.brT Ad W (t := 66) (f := 42) (L := [some (.ref 1), none, some (.int v.1)]) (S := []) (σ := (H0 s v.2)) rfl (XT.i0_eq_t hc241) ?_
      exact QTri.mask [true, false, true] (tJ18_66 Ad W s v.2 v.1 h hx0 hc)
    · refine QTri.brF Ad W (t := 66) (f := 42) (L := [some (.ref 1), none, some (.int v.1)]) (S := []) (σ := (H0 s v.2)) rfl (XT.i0_eq_f hc241) ?_
      refine QTri.steps Ad W 3 (st' := (47, [some (.ref 1), none, some (.int v.1)], [.int v.1, .ref 9], (H0 s v.2))) rfl ?_
      obtain ⟨y242, hy242, h⟩ := Option.bind_eq_some_iff.mp h
      refine QTri.bnd Ad W (f := fun y242 => (48, [some (.ref 1), none, some (.int v.1)], [.int y242], (H0 s v.2))) rfl hy242 ?_
      refine QTri.steps Ad W 2 (st' := (52, [some (.ref 1), none, some (.int v.1)], [.int (f_clock v.2), .int y242], (H0 s v.2))) rfl ?_
      rcases qite h with ⟨hc243, h⟩ | ⟨hc243, h⟩
      · refine QTri.brT Ad W (t := 66) (f := 55) (L := [some (.ref 1), none, some (.int v.1)]) (S := []) (σ := (H0 s v.2)) rfl (XT.ii_gt_t hc243) ?_
        exact QTri.mask [true, false, true] (tJ18_66 Ad W s v.2 v.1 h hx0 hc)
      · refine QTri.brF Ad W (t := 66) (f := 55) (L := [some (.ref 1), none, some (.int v.1)]) (S := []) (σ := (H0 s v.2)) rfl (XT.ii_gt_f hc243) ?_
        refine QTri.steps Ad W 5 (st' := (62, [some (.ref 1), none, some (.int v.1)], [.int v.1, .ref 9, .int v.1, .ref 1], (H0 s v.2))) rfl ?_
        obtain ⟨y244, hy244, h⟩ := Option.bind_eq_some_iff.mp h
        refine QTri.bnd Ad W (f := fun y244 => (63, [some (.ref 1), none, some (.int v.1)], [.int y244, .int v.1, .ref 1], (H0 s v.2))) rfl hy244 ?_
        obtain ⟨r245, hr245, h⟩ := Option.bind_eq_some_iff.mp h
        refine QTri.callP W (a := 1) (as := [.int v.1, .int y244]) (rest := []) (w := none) (σ₁ := (H0 s r245)) rfl rfl rfl rfl rfl rfl rfl rfl (tF32 Ad W s v.2 v.1 y244 hr245) ?_
        exact QTri.mask [true, false, true] (tJ18_66 Ad W s r245 v.1 h hx0 hc)
  · refine QTri.brT Ad W (t := 72) (f := 33) (L := [some (.ref 1), none, some (.int v.1)]) (S := []) (σ := (H0 s v.2)) rfl (XT.ii_ge_t hc239) ?_
    refine QTri.steps Ad W 1 (st' := (73, [some (.ref 1), none, some (.int v.1)], [.int (1 : Int32)], (H0 s v.2))) rfl ?_
    obtain rfl := Option.some.inj h
    obtain ⟨rfl, rfl⟩ := hx0 ((1 : Int32), v.2) rfl
    exact QTri.retZ rfl rfl
/-- advance(I)Z -/
def F18 (o : Ob) (x1 : Int32) : Option (Int32 × Ob) :=
  (if x1 < (0 : Int32) then some ((0 : Int32), o) else (if (1000 : Int32) < x1 then some ((0 : Int32), o) else (loopN (B18_25) qN ((0 : Int32), (s_clock o ((f_clock o) + x1)))).bind fun e246 => some e246))
theorem tF18 (Ad : QAd n0 ad) (W : QW Z a0) (s : List Int32) (o : Ob) (x1 : Int32) {r : Int32 × Ob} (h : F18 o x1 = some r) : QTri l Z n0 ad 18 (0, qentry [.ref 1, .int x1] (pMaxL 18), [], (H0 s o)) (some (Value.int r.1)) (H0 s r.2) := by
  unfold F18 at h
  refine QTri.steps Ad W 1 (st' := (1, [some (.ref 1), some (.int x1), none], [.int x1], (H0 s o))) rfl ?_
  rcases qite h with ⟨hc236, h⟩ | ⟨hc236, h⟩
  · refine QTri.brT Ad W (t := 11) (f := 4) (L := [some (.ref 1), some (.int x1), none]) (S := []) (σ := (H0 s o)) rfl (XT.i0_lt_t hc236) ?_
    refine QTri.steps Ad W 1 (st' := (12, [some (.ref 1), some (.int x1), none], [.int (0 : Int32)], (H0 s o))) rfl ?_
    obtain rfl := Option.some.inj h
    exact QTri.retZ rfl rfl
  · refine QTri.brF Ad W (t := 11) (f := 4) (L := [some (.ref 1), some (.int x1), none]) (S := []) (σ := (H0 s o)) rfl (XT.i0_lt_f hc236) ?_
    refine QTri.steps Ad W 2 (st' := (8, [some (.ref 1), some (.int x1), none], [.int (1000 : Int32), .int x1], (H0 s o))) rfl ?_
    rcases qite h with ⟨hc237, h⟩ | ⟨hc237, h⟩
    · refine QTri.brF Ad W (t := 13) (f := 11) (L := [some (.ref 1), some (.int x1), none]) (S := []) (σ := (H0 s o)) rfl (XT.ii_le_f hc237) ?_
      refine QTri.steps Ad W 1 (st' := (12, [some (.ref 1), some (.int x1), none], [.int (0 : Int32)], (H0 s o))) rfl ?_
      obtain rfl := Option.some.inj h
      exact QTri.retZ rfl rfl
    · refine QTri.brT Ad W (t := 13) (f := 11) (L := [some (.ref 1), some (.int x1), none]) (S := []) (σ := (H0 s o)) rfl (XT.ii_le_t hc237) ?_
      refine QTri.steps Ad W 6 (st' := (23, [some (.ref 1), some (.int x1), none], [], [.inr (.inl (.int, s)), .inl [.ref 2, .ref 3, .ref 4, .ref 5, .ref 6, .ref 7, .ref 8, .ref 9, .ref 10, .int (f_poolSize o), .int (f_udpTimeout o), .int (f_tcpTimeout o), .int (f_cooldown o), .int ((f_clock o) + x1), .int (f_remAddr o), .int (f_remPort o), .int (f_regHost o), .int (f_regPort o), .int (f_regExt o)], .inr (.inl (.boolean, (f_live o))), .inr (.inl (.boolean, (f_used o))), .inr (.inl (.int, (f_freedAt o))), .inr (.inl (.int, (f_protoOf o))), .inr (.inl (.int, (f_hostOf o))), .inr (.inl (.int, (f_iportOf o))), .inr (.inl (.int, (f_stateAt o))), .inr (.inl (.int, (f_deadlineAt o))), .inr (.inr (f_perm o))])) rfl ?_
      refine QTri.steps Ad W 2 (st' := (25, [some (.ref 1), some (.int x1), some (.int (0 : Int32))], [], [.inr (.inl (.int, s)), .inl [.ref 2, .ref 3, .ref 4, .ref 5, .ref 6, .ref 7, .ref 8, .ref 9, .ref 10, .int (f_poolSize o), .int (f_udpTimeout o), .int (f_tcpTimeout o), .int (f_cooldown o), .int ((f_clock o) + x1), .int (f_remAddr o), .int (f_remPort o), .int (f_regHost o), .int (f_regPort o), .int (f_regExt o)], .inr (.inl (.boolean, (f_live o))), .inr (.inl (.boolean, (f_used o))), .inr (.inl (.int, (f_freedAt o))), .inr (.inl (.int, (f_protoOf o))), .inr (.inl (.int, (f_hostOf o))), .inr (.inl (.int, (f_iportOf o))), .inr (.inl (.int, (f_stateAt o))), .inr (.inl (.int, (f_deadlineAt o))), .inr (.inr (f_perm o))])) rfl ?_
      have E238 : ([.inr (.inl (.int, s)), .inl [.ref 2, .ref 3, .ref 4, .ref 5, .ref 6, .ref 7, .ref 8, .ref 9, .ref 10, .int (f_poolSize o), .int (f_udpTimeout o), .int (f_tcpTimeout o), .int (f_cooldown o), .int ((f_clock o) + x1), .int (f_remAddr o), .int (f_remPort o), .int (f_regHost o), .int (f_regPort o), .int (f_regExt o)], .inr (.inl (.boolean, (f_live o))), .inr (.inl (.boolean, (f_used o))), .inr (.inl (.int, (f_freedAt o))), .inr (.inl (.int, (f_protoOf o))), .inr (.inl (.int, (f_hostOf o))), .inr (.inl (.int, (f_iportOf o))), .inr (.inl (.int, (f_stateAt o))), .inr (.inl (.int, (f_deadlineAt o))), .inr (.inr (f_perm o))] : QHeap) = (H0 s (s_clock o ((f_clock o) + x1))) := by dsimp only [H0, f_live, f_used, f_freedAt, f_protoOf, f_hostOf, f_iportOf, f_stateAt, f_deadlineAt, f_perm, f_poolSize, f_udpTimeout, f_tcpTimeout, f_cooldown, f_clock, f_remAddr, f_remPort, f_regHost, f_regPort, f_regExt, s_clock]
      rw [E238]
      obtain ⟨e246, he246, h⟩ := Option.bind_eq_some_iff.mp h
      refine QTri.mask [true, false, true] (loopN_tri (B := B18_25) (T := fun lv247 => QTri l Z n0 ad 18 (25, [some (.ref 1), none, some (.int lv247.1)], [], (H0 s lv247.2)) (some (Value.int r.1)) (H0 s r.2)) (KE := fun e246a => (some (Value.int r.1)) = (some (Value.int e246a.1)) ∧ (H0 s r.2) = (H0 s e246a.2)) (fun lv247 r hB hE hC => tB18_25 Ad W s lv247 hB (fun x q => hE _ q) (fun x q => hC x q)) qN ((0 : Int32), (s_clock o ((f_clock o) + x1))) e246 he246 ?_)
      obtain rfl := Option.some.inj h
      exact ⟨rfl, rfl⟩
def B0_16 (s : List Int32) (v : Int32 × Ob) : Option (((Int32 × QHeap)) ⊕ (Int32 × Ob)) :=
  (if (v.1 + (3 : Int32)) < (s.length.toInt32) then (aget s v.1).bind fun y10 => (aget s (v.1 + (1 : Int32))).bind fun y11 => (aget s (v.1 + (2 : Int32))).bind fun y12 => (aget s (v.1 + (3 : Int32))).bind fun y13 => (F3 v.2).bind fun r81 => (if (y10 &&& (3 : Int32)) = (0 : Int32) then (F21 v.2 ((250 : Int32) + (y11 &&& (7 : Int32))) ((4998 : Int32) + (y12 &&& (7 : Int32)))).bind fun r88 => (J0_245 s r88.2 v.1 r81 (if r88.1 = (0 : Int32) then (1 : Int32) else (0 : Int32))) else (if (y10 &&& (3 : Int32)) = (1 : Int32) then (F19 v.2 (y11 &&& (7 : Int32)) ((1000 : Int32) + (y12 &&& (3 : Int32))) (if ((XT.ushr y12 (8 : Int32)) &&& (7 : Int32)) = (0 : Int32) then (5 : Int32) else (if (((XT.ushr y12 (8 : Int32)) &&& (7 : Int32)) &&& (1 : Int32)) = (1 : Int32) then (17 : Int32) else (6 : Int32))) (if (if ((XT.ushr y12 (8 : Int32)) &&& (7 : Int32)) = (0 : Int32) then (5 : Int32) else (if (((XT.ushr y12 (8 : Int32)) &&& (7 : Int32)) &&& (1 : Int32)) = (1 : Int32) then (17 : Int32) else (6 : Int32))) = (6 : Int32) then (y13 &&& (15 : Int32)) else (0 : Int32))).bind fun r215 => (J0_245 s r215.2 v.1 r81 (if r215.1 < (0 : Int32) then (1 : Int32) else (0 : Int32))) else (if (y10 &&& (3 : Int32)) = (2 : Int32) then (F22 v.2 ((4999 : Int32) + (y11 &&& (7 : Int32))) (if ((XT.ushr y12 (8 : Int32)) &&& (7 : Int32)) = (0 : Int32) then (5 : Int32) else (if (((XT.ushr y12 (8 : Int32)) &&& (7 : Int32)) &&& (1 : Int32)) = (1 : Int32) then (17 : Int32) else (6 : Int32))) (if (if ((XT.ushr y12 (8 : Int32)) &&& (7 : Int32)) = (0 : Int32) then (5 : Int32) else (if (((XT.ushr y12 (8 : Int32)) &&& (7 : Int32)) &&& (1 : Int32)) = (1 : Int32) then (17 : Int32) else (6 : Int32))) = (6 : Int32) then (y13 &&& (15 : Int32)) else (0 : Int32))).bind fun r232 => (J0_245 s r232.2 v.1 r81 (if r232.1 < (0 : Int32) then (1 : Int32) else (0 : Int32))) else (F18 v.2 ((y11 &&& (63 : Int32)) - (4 : Int32))).bind fun r248 => (J0_245 s r248.2 v.1 r81 (if r248.1 = (0 : Int32) then (1 : Int32) else (0 : Int32)))))) else some (.inl ((1 : Int32), (H0 s v.2))))
theorem tB0_16 (Ad : QAd n0 ad) (W : QW Z a0) (s : List Int32) (v : Int32 × Ob) {r : ((Int32 × QHeap)) ⊕ (Int32 × Ob)} {u : Option Value} {τ : QHeap} (h : B0_16 s v = some r) (hx0 : ∀ x : Int32 × QHeap, r = .inl x → u = (some (Value.int x.1)) ∧ τ = x.2) (hc : ∀ x : Int32 × Ob, r = .inr x → QTri l Z n0 ad 0 (16, [some (.ref 0), some (.ref 1), some (.int x.1), none, none, none, none, none, none, none, none, none, none], [], (H0 s x.2)) u τ) : QTri l Z n0 ad 0 (16, [some (.ref 0), some (.ref 1), some (.int v.1), none, none, none, none, none, none, none, none, none, none], [], (H0 s v.2)) u τ := by
  unfold B0_16 at h
  refine QTri.steps Ad W 5 (st' := (21, [some (.ref 0), some (.ref 1), some (.int v.1), none, none, none, none, none, none, none, none, none, none], [.int (s.length.toInt32), .int (v.1 + (3 : Int32))], (H0 s v.2))) rfl ?_
  rcases qite h with ⟨hc9, h⟩ | ⟨hc9, h⟩
  · refine QTri.brF Ad W (t := 268) (f := 24) (L := [some (.ref 0), some (.ref 1), some (.int v.1), none, none, none, none, none, none, none, none, none, none]) (S := []) (σ := (H0 s v.2)) rfl (XT.ii_ge_f hc9) ?_
    refine QTri.steps Ad W 2 (st' := (26, [some (.ref 0), some (.ref 1), some (.int v.1), none, none, none, none, none, none, none, none, none, none], [.int v.1, .ref 0], (H0 s v.2))) rfl ?_
    obtain ⟨y10, hy10, h⟩ := Option.bind_eq_some_iff.mp h
    refine QTri.bnd Ad W (f := fun y10 => (27, [some (.ref 0), some (.ref 1), some (.int v.1), none, none, none, none, none, none, none, none, none, none], [.int y10], (H0 s v.2))) rfl hy10 ?_
    refine QTri.steps Ad W 7 (st' := (34, [some (.ref 0), some (.ref 1), some (.int v.1), some (.int (y10 &&& (3 : Int32))), none, none, none, none, none, none, none, none, none], [.int (v.1 + (1 : Int32)), .ref 0], (H0 s v.2))) rfl ?_
    obtain ⟨y11, hy11, h⟩ := Option.bind_eq_some_iff.mp h
    refine QTri.bnd Ad W (f := fun y11 => (35, [some (.ref 0), some (.ref 1), some (.int v.1), some (.int (y10 &&& (3 : Int32))), none, none, none, none, none, none, none, none, none], [.int y11], (H0 s v.2))) rfl hy11 ?_
    refine QTri.steps Ad W 5 (st' := (41, [some (.ref 0), some (.ref 1), some (.int v.1), some (.int (y10 &&& (3 : Int32))), some (.int y11), none, none, none, none, none, none, none, none], [.int (v.1 + (2 : Int32)), .ref 0], (H0 s v.2))) rfl ?_
    obtain ⟨y12, hy12, h⟩ := Option.bind_eq_some_iff.mp h
    refine QTri.bnd Ad W (f := fun y12 => (42, [some (.ref 0), some (.ref 1), some (.int v.1), some (.int (y10 &&& (3 : Int32))), some (.int y11), none, none, none, none, none, none, none, none], [.int y12], (H0 s v.2))) rfl hy12 ?_
    refine QTri.steps Ad W 5 (st' := (48, [some (.ref 0), some (.ref 1), some (.int v.1), some (.int (y10 &&& (3 : Int32))), some (.int y11), some (.int y12), none, none, none, none, none, none, none], [.int (v.1 + (3 : Int32)), .ref 0], (H0 s v.2))) rfl ?_
    obtain ⟨y13, hy13, h⟩ := Option.bind_eq_some_iff.mp h
    refine QTri.bnd Ad W (f := fun y13 => (49, [some (.ref 0), some (.ref 1), some (.int v.1), some (.int (y10 &&& (3 : Int32))), some (.int y11), some (.int y12), none, none, none, none, none, none, none], [.int y13], (H0 s v.2))) rfl hy13 ?_
    refine QTri.steps Ad W 7 (st' := (61, [some (.ref 0), some (.ref 1), some (.int v.1), some (.int (y10 &&& (3 : Int32))), some (.int y11), some (.int y12), some (.int y13), some (.int ((XT.ushr y12 (8 : Int32)) &&& (7 : Int32))), none, none, none, none, none], [], (H0 s v.2))) rfl ?_
    refine QTri.steps Ad W 1 (st' := (63, [some (.ref 0), some (.ref 1), some (.int v.1), some (.int (y10 &&& (3 : Int32))), some (.int y11), some (.int y12), some (.int y13), some (.int ((XT.ushr y12 (8 : Int32)) &&& (7 : Int32))), none, none, none, none, none], [.int ((XT.ushr y12 (8 : Int32)) &&& (7 : Int32))], (H0 s v.2))) rfl ?_
    have K15 : ∀ z14 : Int32, z14 = (if ((XT.ushr y12 (8 : Int32)) &&& (7 : Int32)) = (0 : Int32) then (5 : Int32) else (if (((XT.ushr y12 (8 : Int32)) &&& (7 : Int32)) &&& (1 : Int32)) = (1 : Int32) then (17 : Int32) else (6 : Int32))) → QTri l Z n0 ad 0 (85, [some (.ref 0), some (.ref 1), some (.int v.1), some (.int (y10 &&& (3 : Int32))), some (.int y11), some (.int y12), some (.int y13), none, none, none, none, none, none], [.int z14], (H0 s v.2)) u τ := by
      intro z14 ez14
      subst ez14
      refine QTri.steps Ad W 3 (st' := (91, [some (.ref 0), some (.ref 1), some (.int v.1), some (.int (y10 &&& (3 : Int32))), some (.int y11), some (.int y12), some (.int y13), none, some (.int (if ((XT.ushr y12 (8 : Int32)) &&& (7 : Int32)) = (0 : Int32) then (5 : Int32) else (if (((XT.ushr y12 (8 : Int32)) &&& (7 : Int32)) &&& (1 : Int32)) = (1 : Int32) then (17 : Int32) else (6 : Int32)))), none, none, none, none], [.int (6 : Int32), .int (if ((XT.ushr y12 (8 : Int32)) &&& (7 : Int32)) = (0 : Int32) then (5 : Int32) else (if (((XT.ushr y12 (8 : Int32)) &&& (7 : Int32)) &&& (1 : Int32)) = (1 : Int32) then (17 : Int32) else (6 : Int32)))], (H0 s v.2))) rfl ?_
      have K19 : ∀ z18 : Int32, z18 = (if (if ((XT.ushr y12 (8 : Int32)) &&& (7 : Int32)) = (0 : Int32) then (5 : Int32) else (if (((XT.ushr y12 (8 : Int32)) &&& (7 : Int32)) &&& (1 : Int32)) = (1 : Int32) then (17 : Int32) else (6 : Int32))) = (6 : Int32) then (y13 &&& (15 : Int32)) else (0 : Int32)) → QTri l Z n0 ad 0 (103, [some (.ref 0), some (.ref 1), some (.int v.1), some (.int (y10 &&& (3 : Int32))), some (.int y11), some (.int y12), none, none, some (.int (if ((XT.ushr y12 (8 : Int32)) &&& (7 : Int32)) = (0 : Int32) then (5 : Int32) else (if (((XT.ushr y12 (8 : Int32)) &&& (7 : Int32)) &&& (1 : Int32)) = (1 : Int32) then (17 : Int32) else (6 : Int32)))), none, none, none, none], [.int z18], (H0 s v.2)) u τ := by
        intro z18 ez18
        subst ez18
        refine QTri.steps Ad W 2 (st' := (106, [some (.ref 0), some (.ref 1), some (.int v.1), some (.int (y10 &&& (3 : Int32))), some (.int y11), some (.int y12), none, none, some (.int (if ((XT.ushr y12 (8 : Int32)) &&& (7 : Int32)) = (0 : Int32) then (5 : Int32) else (if (((XT.ushr y12 (8 : Int32)) &&& (7 : Int32)) &&& (1 : Int32)) = (1 : Int32) then (17 : Int32) else (6 : Int32)))), some (.int (if (if ((XT.ushr y12 (8 : Int32)) &&& (7 : Int32)) = (0 : Int32) then (5 : Int32) else (if (((XT.ushr y12 (8 : Int32)) &&& (7 : Int32)) &&& (1 : Int32)) = (1 : Int32) then (17 : Int32) else (6 : Int32))) = (6 : Int32) then (y13 &&& (15 : Int32)) else (0 : Int32))), none, none, none], [.ref 1], (H0 s v.2))) rfl ?_
        obtain ⟨r81, hr81, h⟩ := Option.bind_eq_some_iff.mp h
        refine QTri.callS W (as := [.ref 1]) (rest := []) (w := (some (.long r81))) (σ₁ := (H0 s v.2)) rfl rfl rfl rfl rfl rfl rfl (tF3 Ad W s v.2 hr81) ?_
        refine QTri.steps Ad W 2 (st' := (112, [some (.ref 0), some (.ref 1), some (.int v.1), some (.int (y10 &&& (3 : Int32))), some (.int y11), some (.int y12), none, none, some (.int (if ((XT.ushr y12 (8 : Int32)) &&& (7 : Int32)) = (0 : Int32) then (5 : Int32) else (if (((XT.ushr y12 (8 : Int32)) &&& (7 : Int32)) &&& (1 : Int32)) = (1 : Int32) then (17 : Int32) else (6 : Int32)))), some (.int (if (if ((XT.ushr y12 (8 : Int32)) &&& (7 : Int32)) = (0 : Int32) then (5 : Int32) else (if (((XT.ushr y12 (8 : Int32)) &&& (7 : Int32)) &&& (1 : Int32)) = (1 : Int32) then (17 : Int32) else (6 : Int32))) = (6 : Int32) then (y13 &&& (15 : Int32)) else (0 : Int32))), some (.long r81), none, none], [.int (y10 &&& (3 : Int32))], (H0 s v.2))) rfl ?_
        rcases qite h with ⟨hc82, h⟩ | ⟨hc82, h⟩
        · refine QTri.brF Ad W (t := 150) (f := 115) (L := [some (.ref 0), some (.ref 1), some (.int v.1), some (.int (y10 &&& (3 : Int32))), some (.int y11), some (.int y12), none, none, some (.int (if ((XT.ushr y12 (8 : Int32)) &&& (7 : Int32)) = (0 : Int32) then (5 : Int32) else (if (((XT.ushr y12 (8 : Int32)) &&& (7 : Int32)) &&& (1 : Int32)) = (1 : Int32) then (17 : Int32) else (6 : Int32)))), some (.int (if (if ((XT.ushr y12 (8 : Int32)) &&& (7 : Int32)) = (0 : Int32) then (5 : Int32) else (if (((XT.ushr y12 (8 : Int32)) &&& (7 : Int32)) &&& (1 : Int32)) = (1 : Int32) then (17 : Int32) else (6 : Int32))) = (6 : Int32) then (y13 &&& (15 : Int32)) else (0 : Int32))), some (.long r81), none, none]) (S := []) (σ := (H0 s v.2)) rfl (XT.i0_ne_f hc82) ?_
          refine QTri.steps Ad W 11 (st' := (134, [some (.ref 0), some (.ref 1), some (.int v.1), some (.int (y10 &&& (3 : Int32))), some (.int y11), some (.int y12), none, none, some (.int (if ((XT.ushr y12 (8 : Int32)) &&& (7 : Int32)) = (0 : Int32) then (5 : Int32) else (if (((XT.ushr y12 (8 : Int32)) &&& (7 : Int32)) &&& (1 : Int32)) = (1 : Int32) then (17 : Int32) else (6 : Int32)))), some (.int (if (if ((XT.ushr y12 (8 : Int32)) &&& (7 : Int32)) = (0 : Int32) then (5 : Int32) else (if (((XT.ushr y12 (8 : Int32)) &&& (7 : Int32)) &&& (1 : Int32)) = (1 : Int32) then (17 : Int32) else (6 : Int32))) = (6 : Int32) then (y13 &&& (15 : Int32)) else (0 : Int32))), some (.long r81), none, none], [.int ((4998 : Int32) + (y12 &&& (7 : Int32))), .int ((250 : Int32) + (y11 &&& (7 : Int32))), .ref 1], (H0 s v.2))) rfl ?_
          obtain ⟨r88, hr88, h⟩ := Option.bind_eq_some_iff.mp h
          refine QTri.callV W (a := 1) (as := [.int ((250 : Int32) + (y11 &&& (7 : Int32))), .int ((4998 : Int32) + (y12 &&& (7 : Int32)))]) (rest := []) (w := (some (.int r88.1))) (σ₁ := (H0 s r88.2)) rfl rfl rfl rfl rfl rfl rfl rfl (tF21 Ad W s v.2 ((250 : Int32) + (y11 &&& (7 : Int32))) ((4998 : Int32) + (y12 &&& (7 : Int32))) hr88) ?_
          have K90 : ∀ z89 : Int32, z89 = (if r88.1 = (0 : Int32) then (1 : Int32) else (0 : Int32)) → QTri l Z n0 ad 0 (145, [some (.ref 0), some (.ref 1), some (.int v.1), none, none, none, none, none, none, none, some (.long r81), none, none], [.int z89], (H0 s r88.2)) u τ := by
            intro z89 ez89
            subst ez89
            refine QTri.steps Ad W 2 (st' := (245, [some (.ref 0), some (.ref 1), some (.int v.1), none, none, none, none, none, none, none, some (.long r81), none, some (.int (if r88.1 = (0 : Int32) then (1 : Int32) else (0 : Int32)))], [], (H0 s r88.2))) rfl ?_
            exact QTri.mask [true, true, true, false, false, false, false, false, false, false, true, false, true] (tJ0_245 Ad W s r88.2 v.1 r81 (if r88.1 = (0 : Int32) then (1 : Int32) else (0 : Int32)) h hx0 hc)
          rcases Classical.em (r88.1 = (0 : Int32)) with hc91 | hc91
          · refine QTri.brF Ad W (t := 144) (f := 140) (L := [some (.ref 0), some (.ref 1), some (.int v.1), some (.int (y10 &&& (3 : Int32))), some (.int y11), some (.int y12), none, none, some (.int (if ((XT.ushr y12 (8 : Int32)) &&& (7 : Int32)) = (0 : Int32) then (5 : Int32) else (if (((XT.ushr y12 (8 : Int32)) &&& (7 : Int32)) &&& (1 : Int32)) = (1 : Int32) then (17 : Int32) else (6 : Int32)))), some (.int (if (if ((XT.ushr y12 (8 : Int32)) &&& (7 : Int32)) = (0 : Int32) then (5 : Int32) else (if (((XT.ushr y12 (8 : Int32)) &&& (7 : Int32)) &&& (1 : Int32)) = (1 : Int32) then (17 : Int32) else (6 : Int32))) = (6 : Int32) then (y13 &&& (15 : Int32)) else (0 : Int32))), some (.long r81), none, none]) (S := []) (σ := (H0 s r88.2)) rfl (XT.i0_ne_f hc91) ?_
            refine QTri.steps Ad W 2 (st' := (145, [some (.ref 0), some (.ref 1), some (.int v.1), some (.int (y10 &&& (3 : Int32))), some (.int y11), some (.int y12), none, none, some (.int (if ((XT.ushr y12 (8 : Int32)) &&& (7 : Int32)) = (0 : Int32) then (5 : Int32) else (if (((XT.ushr y12 (8 : Int32)) &&& (7 : Int32)) &&& (1 : Int32)) = (1 : Int32) then (17 : Int32) else (6 : Int32)))), some (.int (if (if ((XT.ushr y12 (8 : Int32)) &&& (7 : Int32)) = (0 : Int32) then (5 : Int32) else (if (((XT.ushr y12 (8 : Int32)) &&& (7 : Int32)) &&& (1 : Int32)) = (1 : Int32) then (17 : Int32) else (6 : Int32))) = (6 : Int32) then (y13 &&& (15 : Int32)) else (0 : Int32))), some (.long r81), none, none], [.int (1 : Int32)], (H0 s r88.2))) rfl ?_
            exact QTri.mask [true, true, true, false, false, false, false, false, false, false, true, false, false] (K90 _ (if_pos hc91).symm)
          · refine QTri.brT Ad W (t := 144) (f := 140) (L := [some (.ref 0), some (.ref 1), some (.int v.1), some (.int (y10 &&& (3 : Int32))), some (.int y11), some (.int y12), none, none, some (.int (if ((XT.ushr y12 (8 : Int32)) &&& (7 : Int32)) = (0 : Int32) then (5 : Int32) else (if (((XT.ushr y12 (8 : Int32)) &&& (7 : Int32)) &&& (1 : Int32)) = (1 : Int32) then (17 : Int32) else (6 : Int32)))), some (.int (if (if ((XT.ushr y12 (8 : Int32)) &&& (7 : Int32)) = (0 : Int32) then (5 : Int32) else (if (((XT.ushr y12 (8 : Int32)) &&& (7 : Int32)) &&& (1 : Int32)) = (1 : Int32) then (17 : Int32) else (6 : Int32))) = (6 : Int32) then (y13 &&& (15 : Int32)) else (0 : Int32))), some (.long r81), none, none]) (S := []) (σ := (H0 s r88.2)) rfl (XT.i0_ne_t hc91) ?_
            refine QTri.steps Ad W 1 (st' := (145, [some (.ref 0), some (.ref 1), some (.int v.1), some (.int (y10 &&& (3 : Int32))), some (.int y11), some (.int y12), none, none, some (.int (if ((XT.ushr y12 (8 : Int32)) &&& (7 : Int32)) = (0 : Int32) then (5 : Int32) else (if (((XT.ushr y12 (8 : Int32)) &&& (7 : Int32)) &&& (1 : Int32)) = (1 : Int32) then (17 : Int32) else (6 : Int32)))), some (.int (if (if ((XT.ushr y12 (8 : Int32)) &&& (7 : Int32)) = (0 : Int32) then (5 : Int32) else (if (((XT.ushr y12 (8 : Int32)) &&& (7 : Int32)) &&& (1 : Int32)) = (1 : Int32) then (17 : Int32) else (6 : Int32))) = (6 : Int32) then (y13 &&& (15 : Int32)) else (0 : Int32))), some (.long r81), none, none], [.int (0 : Int32)], (H0 s r88.2))) rfl ?_
            exact QTri.mask [true, true, true, false, false, false, false, false, false, false, true, false, false] (K90 _ (if_neg hc91).symm)
        · refine QTri.brT Ad W (t := 150) (f := 115) (L := [some (.ref 0), some (.ref 1), some (.int v.1), some (.int (y10 &&& (3 : Int32))), some (.int y11), some (.int y12), none, none, some (.int (if ((XT.ushr y12 (8 : Int32)) &&& (7 : Int32)) = (0 : Int32) then (5 : Int32) else (if (((XT.ushr y12 (8 : Int32)) &&& (7 : Int32)) &&& (1 : Int32)) = (1 : Int32) then (17 : Int32) else (6 : Int32)))), some (.int (if (if ((XT.ushr y12 (8 : Int32)) &&& (7 : Int32)) = (0 : Int32) then (5 : Int32) else (if (((XT.ushr y12 (8 : Int32)) &&& (7 : Int32)) &&& (1 : Int32)) = (1 : Int32) then (17 : Int32) else (6 : Int32))) = (6 : Int32) then (y13 &&& (15 : Int32)) else (0 : Int32))), some (.long r81), none, none]) (S := []) (σ := (H0 s v.2)) rfl (XT.i0_ne_t hc82) ?_
          refine QTri.steps Ad W 2 (st' := (152, [some (.ref 0), some (.ref 1), some (.int v.1), some (.int (y10 &&& (3 : Int32))), some (.int y11), some (.int y12), none, none, some (.int (if ((XT.ushr y12 (8 : Int32)) &&& (7 : Int32)) = (0 : Int32) then (5 : Int32) else (if (((XT.ushr y12 (8 : Int32)) &&& (7 : Int32)) &&& (1 : Int32)) = (1 : Int32) then (17 : Int32) else (6 : Int32)))), some (.int (if (if ((XT.ushr y12 (8 : Int32)) &&& (7 : Int32)) = (0 : Int32) then (5 : Int32) else (if (((XT.ushr y12 (8 : Int32)) &&& (7 : Int32)) &&& (1 : Int32)) = (1 : Int32) then (17 : Int32) else (6 : Int32))) = (6 : Int32) then (y13 &&& (15 : Int32)) else (0 : Int32))), some (.long r81), none, none], [.int (1 : Int32), .int (y10 &&& (3 : Int32))], (H0 s v.2))) rfl ?_
          rcases qite h with ⟨hc95, h⟩ | ⟨hc95, h⟩
          · refine QTri.brF Ad W (t := 189) (f := 155) (L := [some (.ref 0), some (.ref 1), some (.int v.1), some (.int (y10 &&& (3 : Int32))), some (.int y11), some (.int y12), none, none, some (.int (if ((XT.ushr y12 (8 : Int32)) &&& (7 : Int32)) = (0 : Int32) then (5 : Int32) else (if (((XT.ushr y12 (8 : Int32)) &&& (7 : Int32)) &&& (1 : Int32)) = (1 : Int32) then (17 : Int32) else (6 : Int32)))), some (.int (if (if ((XT.ushr y12 (8 : Int32)) &&& (7 : Int32)) = (0 : Int32) then (5 : Int32) else (if (((XT.ushr y12 (8 : Int32)) &&& (7 : Int32)) &&& (1 : Int32)) = (1 : Int32) then (17 : Int32) else (6 : Int32))) = (6 : Int32) then (y13 &&& (15 : Int32)) else (0 : Int32))), some (.long r81), none, none]) (S := []) (σ := (H0 s v.2)) rfl (XT.ii_ne_f hc95) ?_
            refine QTri.steps Ad W 11 (st' := (173, [some (.ref 0), some (.ref 1), some (.int v.1), some (.int (y10 &&& (3 : Int32))), some (.int y11), some (.int y12), none, none, some (.int (if ((XT.ushr y12 (8 : Int32)) &&& (7 : Int32)) = (0 : Int32) then (5 : Int32) else (if (((XT.ushr y12 (8 : Int32)) &&& (7 : Int32)) &&& (1 : Int32)) = (1 : Int32) then (17 : Int32) else (6 : Int32)))), some (.int (if (if ((XT.ushr y12 (8 : Int32)) &&& (7 : Int32)) = (0 : Int32) then (5 : Int32) else (if (((XT.ushr y12 (8 : Int32)) &&& (7 : Int32)) &&& (1 : Int32)) = (1 : Int32) then (17 : Int32) else (6 : Int32))) = (6 : Int32) then (y13 &&& (15 : Int32)) else (0 : Int32))), some (.long r81), none, none], [.int (if (if ((XT.ushr y12 (8 : Int32)) &&& (7 : Int32)) = (0 : Int32) then (5 : Int32) else (if (((XT.ushr y12 (8 : Int32)) &&& (7 : Int32)) &&& (1 : Int32)) = (1 : Int32) then (17 : Int32) else (6 : Int32))) = (6 : Int32) then (y13 &&& (15 : Int32)) else (0 : Int32)), .int (if ((XT.ushr y12 (8 : Int32)) &&& (7 : Int32)) = (0 : Int32) then (5 : Int32) else (if (((XT.ushr y12 (8 : Int32)) &&& (7 : Int32)) &&& (1 : Int32)) = (1 : Int32) then (17 : Int32) else (6 : Int32))), .int ((1000 : Int32) + (y12 &&& (3 : Int32))), .int (y11 &&& (7 : Int32)), .ref 1], (H0 s v.2))) rfl ?_
            obtain ⟨r215, hr215, h⟩ := Option.bind_eq_some_iff.mp h
            refine QTri.callV W (a := 1) (as := [.int (y11 &&& (7 : Int32)), .int ((1000 : Int32) + (y12 &&& (3 : Int32))), .int (if ((XT.ushr y12 (8 : Int32)) &&& (7 : Int32)) = (0 : Int32) then (5 : Int32) else (if (((XT.ushr y12 (8 : Int32)) &&& (7 : Int32)) &&& (1 : Int32)) = (1 : Int32) then (17 : Int32) else (6 : Int32))), .int (if (if ((XT.ushr y12 (8 : Int32)) &&& (7 : Int32)) = (0 : Int32) then (5 : Int32) else (if (((XT.ushr y12 (8 : Int32)) &&& (7 : Int32)) &&& (1 : Int32)) = (1 : Int32) then (17 : Int32) else (6 : Int32))) = (6 : Int32) then (y13 &&& (15 : Int32)) else (0 : Int32))]) (rest := []) (w := (some (.int r215.1))) (σ₁ := (H0 s r215.2)) rfl rfl rfl rfl rfl rfl rfl rfl (tF19 Ad W s v.2 (y11 &&& (7 : Int32)) ((1000 : Int32) + (y12 &&& (3 : Int32))) (if ((XT.ushr y12 (8 : Int32)) &&& (7 : Int32)) = (0 : Int32) then (5 : Int32) else (if (((XT.ushr y12 (8 : Int32)) &&& (7 : Int32)) &&& (1 : Int32)) = (1 : Int32) then (17 : Int32) else (6 : Int32))) (if (if ((XT.ushr y12 (8 : Int32)) &&& (7 : Int32)) = (0 : Int32) then (5 : Int32) else (if (((XT.ushr y12 (8 : Int32)) &&& (7 : Int32)) &&& (1 : Int32)) = (1 : Int32) then (17 : Int32) else (6 : Int32))) = (6 : Int32) then (y13 &&& (15 : Int32)) else (0 : Int32)) hr215) ?_
            have K217 : ∀ z216 : Int32, z216 = (if r215.1 < (0 : Int32) then (1 : Int32) else (0 : Int32)) → QTri l Z n0 ad 0 (184, [some (.ref 0), some (.ref 1), some (.int v.1), none, none, none, none, none, none, none, some (.long r81), none, none], [.int z216], (H0 s r215.2)) u τ := by
              intro z216 ez216
              subst ez216
              refine QTri.steps Ad W 2 (st' := (245, [some (.ref 0), some (.ref 1), some (.int v.1), none, none, none, none, none, none, none, some (.long r81), none, some (.int (if r215.1 < (0 : Int32) then (1 : Int32) else (0 : Int32)))], [], (H0 s r215.2))) rfl ?_
              exact QTri.mask [true, true, true, false, false, false, false, false, false, false, true, false, true] (tJ0_245 Ad W s r215.2 v.1 r81 (if r215.1 < (0 : Int32) then (1 : Int32) else (0 : Int32)) h hx0 hc)
            rcases Classical.em (r215.1 < (0 : Int32)) with hc218 | hc218
            · refine QTri.brF Ad W (t := 183) (f := 179) (L := [some (.ref 0), some (.ref 1), some (.int v.1), some (.int (y10 &&& (3 : Int32))), some (.int y11), some (.int y12), none, none, some (.int (if ((XT.ushr y12 (8 : Int32)) &&& (7 : Int32)) = (0 : Int32) then (5 : Int32) else (if (((XT.ushr y12 (8 : Int32)) &&& (7 : Int32)) &&& (1 : Int32)) = (1 : Int32) then (17 : Int32) else (6 : Int32)))), some (.int (if (if ((XT.ushr y12 (8 : Int32)) &&& (7 : Int32)) = (0 : Int32) then (5 : Int32) else (if (((XT.ushr y12 (8 : Int32)) &&& (7 : Int32)) &&& (1 : Int32)) = (1 : Int32) then (17 : Int32) else (6 : Int32))) = (6 : Int32) then (y13 &&& (15 : Int32)) else (0 : Int32))), some (.long r81), none, none]) (S := []) (σ := (H0 s r215.2)) rfl (XT.i0_ge_f hc218) ?_
              refine QTri.steps Ad W 2 (st' := (184, [some (.ref 0), some (.ref 1), some (.int v.1), some (.int (y10 &&& (3 : Int32))), some (.int y11), some (.int y12), none, none, some (.int (if ((XT.ushr y12 (8 : Int32)) &&& (7 : Int32)) = (0 : Int32) then (5 : Int32) else (if (((XT.ushr y12 (8 : Int32)) &&& (7 : Int32)) &&& (1 : Int32)) = (1 : Int32) then (17 : Int32) else (6 : Int32)))), some (.int (if (if ((XT.ushr y12 (8 : Int32)) &&& (7 : Int32)) = (0 : Int32) then (5 : Int32) else (if (((XT.ushr y12 (8 : Int32)) &&& (7 : Int32)) &&& (1 : Int32)) = (1 : Int32) then (17 : Int32) else (6 : Int32))) = (6 : Int32) then (y13 &&& (15 : Int32)) else (0 : Int32))), some (.long r81), none, none], [.int (1 : Int32)], (H0 s r215.2))) rfl ?_
              exact QTri.mask [true, true, true, false, false, false, false, false, false, false, true, false, false] (K217 _ (if_pos hc218).symm)
            · refine QTri.brT Ad W (t := 183) (f := 179) (L := [some (.ref 0), some (.ref 1), some (.int v.1), some (.int (y10 &&& (3 : Int32))), some (.int y11), some (.int y12), none, none, some (.int (if ((XT.ushr y12 (8 : Int32)) &&& (7 : Int32)) = (0 : Int32) then (5 : Int32) else (if (((XT.ushr y12 (8 : Int32)) &&& (7 : Int32)) &&& (1 : Int32)) = (1 : Int32) then (17 : Int32) else (6 : Int32)))), some (.int (if (if ((XT.ushr y12 (8 : Int32)) &&& (7 : Int32)) = (0 : Int32) then (5 : Int32) else (if (((XT.ushr y12 (8 : Int32)) &&& (7 : Int32)) &&& (1 : Int32)) = (1 : Int32) then (17 : Int32) else (6 : Int32))) = (6 : Int32) then (y13 &&& (15 : Int32)) else (0 : Int32))), some (.long r81), none, none]) (S := []) (σ := (H0 s r215.2)) rfl (XT.i0_ge_t hc218) ?_
              refine QTri.steps Ad W 1 (st' := (184, [some (.ref 0), some (.ref 1), some (.int v.1), some (.int (y10 &&& (3 : Int32))), some (.int y11), some (.int y12), none, none, some (.int (if ((XT.ushr y12 (8 : Int32)) &&& (7 : Int32)) = (0 : Int32) then (5 : Int32) else (if (((XT.ushr y12 (8 : Int32)) &&& (7 : Int32)) &&& (1 : Int32)) = (1 : Int32) then (17 : Int32) else (6 : Int32)))), some (.int (if (if ((XT.ushr y12 (8 : Int32)) &&& (7 : Int32)) = (0 : Int32) then (5 : Int32) else (if (((XT.ushr y12 (8 : Int32)) &&& (7 : Int32)) &&& (1 : Int32)) = (1 : Int32) then (17 : Int32) else (6 : Int32))) = (6 : Int32) then (y13 &&& (15 : Int32)) else (0 : Int32))), some (.long r81), none, none], [.int (0 : Int32)], (H0 s r215.2))) rfl ?_
              exact QTri.mask [true, true, true, false, false, false, false, false, false, false, true, false, false] (K217 _ (if_neg hc218).symm)
          · refine QTri.brT Ad W (t := 189) (f := 155) (L := [some (.ref 0), some (.ref 1), some (.int v.1), some (.int (y10 &&& (3 : Int32))), some (.int y11), some (.int y12), none, none, some (.int (if ((XT.ushr y12 (8 : Int32)) &&& (7 : Int32)) = (0 : Int32) then (5 : Int32) else (if (((XT.ushr y12 (8 : Int32)) &&& (7 : Int32)) &&& (1 : Int32)) = (1 : Int32) then (17 : Int32) else (6 : Int32)))), some (.int (if (if ((XT.ushr y12 (8 : Int32)) &&& (7 : Int32)) = (0 : Int32) then (5 : Int32) else (if (((XT.ushr y12 (8 : Int32)) &&& (7 : Int32)) &&& (1 : Int32)) = (1 : Int32) then (17 : Int32) else (6 : Int32))) = (6 : Int32) then (y13 &&& (15 : Int32)) else (0 : Int32))), some (.long r81), none, none]) (S := []) (σ := (H0 s v.2)) rfl (XT.ii_ne_t hc95) ?_
            refine QTri.steps Ad W 2 (st' := (191, [some (.ref 0), some (.ref 1), some (.int v.1), some (.int (y10 &&& (3 : Int32))), some (.int y11), some (.int y12), none, none, some (.int (if ((XT.ushr y12 (8 : Int32)) &&& (7 : Int32)) = (0 : Int32) then (5 : Int32) else (if (((XT.ushr y12 (8 : Int32)) &&& (7 : Int32)) &&& (1 : Int32)) = (1 : Int32) then (17 : Int32) else (6 : Int32)))), some (.int (if (if ((XT.ushr y12 (8 : Int32)) &&& (7 : Int32)) = (0 : Int32) then (5 : Int32) else (if (((XT.ushr y12 (8 : Int32)) &&& (7 : Int32)) &&& (1 : Int32)) = (1 : Int32) then (17 : Int32) else (6 : Int32))) = (6 : Int32) then (y13 &&& (15 : Int32)) else (0 : Int32))), some (.long r81), none, none], [.int (2 : Int32), .int (y10 &&& (3 : Int32))], (H0 s v.2))) rfl ?_
            rcases qite h with ⟨hc219, h⟩ | ⟨hc219, h⟩
            · refine QTri.brF Ad W (t := 224) (f := 194) (L := [some (.ref 0), some (.ref 1), some (.int v.1), some (.int (y10 &&& (3 : Int32))), some (.int y11), some (.int y12), none, none, some (.int (if ((XT.ushr y12 (8 : Int32)) &&& (7 : Int32)) = (0 : Int32) then (5 : Int32) else (if (((XT.ushr y12 (8 : Int32)) &&& (7 : Int32)) &&& (1 : Int32)) = (1 : Int32) then (17 : Int32) else (6 : Int32)))), some (.int (if (if ((XT.ushr y12 (8 : Int32)) &&& (7 : Int32)) = (0 : Int32) then (5 : Int32) else (if (((XT.ushr y12 (8 : Int32)) &&& (7 : Int32)) &&& (1 : Int32)) = (1 : Int32) then (17 : Int32) else (6 : Int32))) = (6 : Int32) then (y13 &&& (15 : Int32)) else (0 : Int32))), some (.long r81), none, none]) (S := []) (σ := (H0 s v.2)) rfl (XT.ii_ne_f hc219) ?_
              refine QTri.steps Ad W 8 (st' := (208, [some (.ref 0), some (.ref 1), some (.int v.1), some (.int (y10 &&& (3 : Int32))), some (.int y11), some (.int y12), none, none, some (.int (if ((XT.ushr y12 (8 : Int32)) &&& (7 : Int32)) = (0 : Int32) then (5 : Int32) else (if (((XT.ushr y12 (8 : Int32)) &&& (7 : Int32)) &&& (1 : Int32)) = (1 : Int32) then (17 : Int32) else (6 : Int32)))), some (.int (if (if ((XT.ushr y12 (8 : Int32)) &&& (7 : Int32)) = (0 : Int32) then (5 : Int32) else (if (((XT.ushr y12 (8 : Int32)) &&& (7 : Int32)) &&& (1 : Int32)) = (1 : Int32) then (17 : Int32) else (6 : Int32))) = (6 : Int32) then (y13 &&& (15 : Int32)) else (0 : Int32))), some (.long r81), none, none], [.int (if (if ((XT.ushr y12 (8 : Int32)) &&& (7 : Int32)) = (0 : Int32) then (5 : Int32) else (if (((XT.ushr y12 (8 : Int32)) &&& (7 : Int32)) &&& (1 : Int32)) = (1 : Int32) then (17 : Int32) else (6 : Int32))) = (6 : Int32) then (y13 &&& (15 : Int32)) else (0 : Int32)), .int (if ((XT.ushr y12 (8 : Int32)) &&& (7 : Int32)) = (0 : Int32) then (5 : Int32) else (if (((XT.ushr y12 (8 : Int32)) &&& (7 : Int32)) &&& (1 : Int32)) = (1 : Int32) then (17 : Int32) else (6 : Int32))), .int ((4999 : Int32) + (y11 &&& (7 : Int32))), .ref 1], (H0 s v.2))) rfl ?_
              obtain ⟨r232, hr232, h⟩ := Option.bind_eq_some_iff.mp h
              refine QTri.callV W (a := 1) (as := [.int ((4999 : Int32) + (y11 &&& (7 : Int32))), .int (if ((XT.ushr y12 (8 : Int32)) &&& (7 : Int32)) = (0 : Int32) then (5 : Int32) else (if (((XT.ushr y12 (8 : Int32)) &&& (7 : Int32)) &&& (1 : Int32)) = (1 : Int32) then (17 : Int32) else (6 : Int32))), .int (if (if ((XT.ushr y12 (8 : Int32)) &&& (7 : Int32)) = (0 : Int32) then (5 : Int32) else (if (((XT.ushr y12 (8 : Int32)) &&& (7 : Int32)) &&& (1 : Int32)) = (1 : Int32) then (17 : Int32) else (6 : Int32))) = (6 : Int32) then (y13 &&& (15 : Int32)) else (0 : Int32))]) (rest := []) (w := (some (.int r232.1))) (σ₁ := (H0 s r232.2)) rfl rfl rfl rfl rfl rfl rfl rfl (tF22 Ad W s v.2 ((4999 : Int32) + (y11 &&& (7 : Int32))) (if ((XT.ushr y12 (8 : Int32)) &&& (7 : Int32)) = (0 : Int32) then (5 : Int32) else (if (((XT.ushr y12 (8 : Int32)) &&& (7 : Int32)) &&& (1 : Int32)) = (1 : Int32) then (17 : Int32) else (6 : Int32))) (if (if ((XT.ushr y12 (8 : Int32)) &&& (7 : Int32)) = (0 : Int32) then (5 : Int32) else (if (((XT.ushr y12 (8 : Int32)) &&& (7 : Int32)) &&& (1 : Int32)) = (1 : Int32) then (17 : Int32) else (6 : Int32))) = (6 : Int32) then (y13 &&& (15 : Int32)) else (0 : Int32)) hr232) ?_
              have K234 : ∀ z233 : Int32, z233 = (if r232.1 < (0 : Int32) then (1 : Int32) else (0 : Int32)) → QTri l Z n0 ad 0 (219, [some (.ref 0), some (.ref 1), some (.int v.1), none, none, none, none, none, none, none, some (.long r81), none, none], [.int z233], (H0 s r232.2)) u τ := by
                intro z233 ez233
                subst ez233
                refine QTri.steps Ad W 2 (st' := (245, [some (.ref 0), some (.ref 1), some (.int v.1), none, none, none, none, none, none, none, some (.long r81), none, some (.int (if r232.1 < (0 : Int32) then (1 : Int32) else (0 : Int32)))], [], (H0 s r232.2))) rfl ?_
                exact QTri.mask [true, true, true, false, false, false, false, false, false, false, true, false, true] (tJ0_245 Ad W s r232.2 v.1 r81 (if r232.1 < (0 : Int32) then (1 : Int32) else (0 : Int32)) h hx0 hc)
              rcases Classical.em (r232.1 < (0 : Int32)) with hc235 | hc235
              · refine QTri.brF Ad W (t := 218) (f := 214) (L := [some (.ref 0), some (.ref 1), some (.int v.1), some (.int (y10 &&& (3 : Int32))), some (.int y11), some (.int y12), none, none, some (.int (if ((XT.ushr y12 (8 : Int32)) &&& (7 : Int32)) = (0 : Int32) then (5 : Int32) else (if (((XT.ushr y12 (8 : Int32)) &&& (7 : Int32)) &&& (1 : Int32)) = (1 : Int32) then (17 : Int32) else (6 : Int32)))), some (.int (if (if ((XT.ushr y12 (8 : Int32)) &&& (7 : Int32)) = (0 : Int32) then (5 : Int32) else (if (((XT.ushr y12 (8 : Int32)) &&& (7 : Int32)) &&& (1 : Int32)) = (1 : Int32) then (17 : Int32) else (6 : Int32))) = (6 : Int32) then (y13 &&& (15 : Int32)) else (0 : Int32))), some (.long r81), none, none]) (S := []) (σ := (H0 s r232.2)) rfl (XT.i0_ge_f hc235) ?_
                refine QTri.steps Ad W 2 (st' := (219, [some (.ref 0), some (.ref 1), some (.int v.1), some (.int (y10 &&& (3 : Int32))), some (.int y11), some (.int y12), none, none, some (.int (if ((XT.ushr y12 (8 : Int32)) &&& (7 : Int32)) = (0 : Int32) then (5 : Int32) else (if (((XT.ushr y12 (8 : Int32)) &&& (7 : Int32)) &&& (1 : Int32)) = (1 : Int32) then (17 : Int32) else (6 : Int32)))), some (.int (if (if ((XT.ushr y12 (8 : Int32)) &&& (7 : Int32)) = (0 : Int32) then (5 : Int32) else (if (((XT.ushr y12 (8 : Int32)) &&& (7 : Int32)) &&& (1 : Int32)) = (1 : Int32) then (17 : Int32) else (6 : Int32))) = (6 : Int32) then (y13 &&& (15 : Int32)) else (0 : Int32))), some (.long r81), none, none], [.int (1 : Int32)], (H0 s r232.2))) rfl ?_
                exact QTri.mask [true, true, true, false, false, false, false, false, false, false, true, false, false] (K234 _ (if_pos hc235).symm)
              · refine QTri.brT Ad W (t := 218) (f := 214) (L := [some (.ref 0), some (.ref 1), some (.int v.1), some (.int (y10 &&& (3 : Int32))), some (.int y11), some (.int y12), none, none, some (.int (if ((XT.ushr y12 (8 : Int32)) &&& (7 : Int32)) = (0 : Int32) then (5 : Int32) else (if (((XT.ushr y12 (8 : Int32)) &&& (7 : Int32)) &&& (1 : Int32)) = (1 : Int32) then (17 : Int32) else (6 : Int32)))), some (.int (if (if ((XT.ushr y12 (8 : Int32)) &&& (7 : Int32)) = (0 : Int32) then (5 : Int32) else (if (((XT.ushr y12 (8 : Int32)) &&& (7 : Int32)) &&& (1 : Int32)) = (1 : Int32) then (17 : Int32) else (6 : Int32))) = (6 : Int32) then (y13 &&& (15 : Int32)) else (0 : Int32))), some (.long r81), none, none]) (S := []) (σ := (H0 s r232.2)) rfl (XT.i0_ge_t hc235) ?_
                refine QTri.steps Ad W 1 (st' := (219, [some (.ref 0), some (.ref 1), some (.int v.1), some (.int (y10 &&& (3 : Int32))), some (.int y11), some (.int y12), none, none, some (.int (if ((XT.ushr y12 (8 : Int32)) &&& (7 : Int32)) = (0 : Int32) then (5 : Int32) else (if (((XT.ushr y12 (8 : Int32)) &&& (7 : Int32)) &&& (1 : Int32)) = (1 : Int32) then (17 : Int32) else (6 : Int32)))), some (.int (if (if ((XT.ushr y12 (8 : Int32)) &&& (7 : Int32)) = (0 : Int32) then (5 : Int32) else (if (((XT.ushr y12 (8 : Int32)) &&& (7 : Int32)) &&& (1 : Int32)) = (1 : Int32) then (17 : Int32) else (6 : Int32))) = (6 : Int32) then (y13 &&& (15 : Int32)) else (0 : Int32))), some (.long r81), none, none], [.int (0 : Int32)], (H0 s r232.2))) rfl ?_
                exact QTri.mask [true, true, true, false, false, false, false, false, false, false, true, false, false] (K234 _ (if_neg hc235).symm)
            · refine QTri.brT Ad W (t := 224) (f := 194) (L := [some (.ref 0), some (.ref 1), some (.int v.1), some (.int (y10 &&& (3 : Int32))), some (.int y11), some (.int y12), none, none, some (.int (if ((XT.ushr y12 (8 : Int32)) &&& (7 : Int32)) = (0 : Int32) then (5 : Int32) else (if (((XT.ushr y12 (8 : Int32)) &&& (7 : Int32)) &&& (1 : Int32)) = (1 : Int32) then (17 : Int32) else (6 : Int32)))), some (.int (if (if ((XT.ushr y12 (8 : Int32)) &&& (7 : Int32)) = (0 : Int32) then (5 : Int32) else (if (((XT.ushr y12 (8 : Int32)) &&& (7 : Int32)) &&& (1 : Int32)) = (1 : Int32) then (17 : Int32) else (6 : Int32))) = (6 : Int32) then (y13 &&& (15 : Int32)) else (0 : Int32))), some (.long r81), none, none]) (S := []) (σ := (H0 s v.2)) rfl (XT.ii_ne_t hc219) ?_
              refine QTri.steps Ad W 6 (st' := (232, [some (.ref 0), some (.ref 1), some (.int v.1), some (.int (y10 &&& (3 : Int32))), some (.int y11), some (.int y12), none, none, some (.int (if ((XT.ushr y12 (8 : Int32)) &&& (7 : Int32)) = (0 : Int32) then (5 : Int32) else (if (((XT.ushr y12 (8 : Int32)) &&& (7 : Int32)) &&& (1 : Int32)) = (1 : Int32) then (17 : Int32) else (6 : Int32)))), some (.int (if (if ((XT.ushr y12 (8 : Int32)) &&& (7 : Int32)) = (0 : Int32) then (5 : Int32) else (if (((XT.ushr y12 (8 : Int32)) &&& (7 : Int32)) &&& (1 : Int32)) = (1 : Int32) then (17 : Int32) else (6 : Int32))) = (6 : Int32) then (y13 &&& (15 : Int32)) else (0 : Int32))), some (.long r81), none, none], [.int ((y11 &&& (63 : Int32)) - (4 : Int32)), .ref 1], (H0 s v.2))) rfl ?_
              obtain ⟨r248, hr248, h⟩ := Option.bind_eq_some_iff.mp h
              refine QTri.callV W (a := 1) (as := [.int ((y11 &&& (63 : Int32)) - (4 : Int32))]) (rest := []) (w := (some (.int r248.1))) (σ₁ := (H0 s r248.2)) rfl rfl rfl rfl rfl rfl rfl rfl (tF18 Ad W s v.2 ((y11 &&& (63 : Int32)) - (4 : Int32)) hr248) ?_
              have K250 : ∀ z249 : Int32, z249 = (if r248.1 = (0 : Int32) then (1 : Int32) else (0 : Int32)) → QTri l Z n0 ad 0 (243, [some (.ref 0), some (.ref 1), some (.int v.1), none, none, none, none, none, none, none, some (.long r81), none, none], [.int z249], (H0 s r248.2)) u τ := by
                intro z249 ez249
                subst ez249
                refine QTri.steps Ad W 1 (st' := (245, [some (.ref 0), some (.ref 1), some (.int v.1), none, none, none, none, none, none, none, some (.long r81), none, some (.int (if r248.1 = (0 : Int32) then (1 : Int32) else (0 : Int32)))], [], (H0 s r248.2))) rfl ?_
                exact QTri.mask [true, true, true, false, false, false, false, false, false, false, true, false, true] (tJ0_245 Ad W s r248.2 v.1 r81 (if r248.1 = (0 : Int32) then (1 : Int32) else (0 : Int32)) h hx0 hc)
              rcases Classical.em (r248.1 = (0 : Int32)) with hc251 | hc251
              · refine QTri.brF Ad W (t := 242) (f := 238) (L := [some (.ref 0), some (.ref 1), some (.int v.1), some (.int (y10 &&& (3 : Int32))), some (.int y11), some (.int y12), none, none, some (.int (if ((XT.ushr y12 (8 : Int32)) &&& (7 : Int32)) = (0 : Int32) then (5 : Int32) else (if (((XT.ushr y12 (8 : Int32)) &&& (7 : Int32)) &&& (1 : Int32)) = (1 : Int32) then (17 : Int32) else (6 : Int32)))), some (.int (if (if ((XT.ushr y12 (8 : Int32)) &&& (7 : Int32)) = (0 : Int32) then (5 : Int32) else (if (((XT.ushr y12 (8 : Int32)) &&& (7 : Int32)) &&& (1 : Int32)) = (1 : Int32) then (17 : Int32) else (6 : Int32))) = (6 : Int32) then (y13 &&& (15 : Int32)) else (0 : Int32))), some (.long r81), none, none]) (S := []) (σ := (H0 s r248.2)) rfl (XT.i0_ne_f hc251) ?_
                refine QTri.steps Ad W 2 (st' := (243, [some (.ref 0), some (.ref 1), some (.int v.1), some (.int (y10 &&& (3 : Int32))), some (.int y11), some (.int y12), none, none, some (.int (if ((XT.ushr y12 (8 : Int32)) &&& (7 : Int32)) = (0 : Int32) then (5 : Int32) else (if (((XT.ushr y12 (8 : Int32)) &&& (7 : Int32)) &&& (1 : Int32)) = (1 : Int32) then (17 : Int32) else (6 : Int32)))), some (.int (if (if ((XT.ushr y12 (8 : Int32)) &&& (7 : Int32)) = (0 : Int32) then (5 : Int32) else (if (((XT.ushr y12 (8 : Int32)) &&& (7 : Int32)) &&& (1 : Int32)) = (1 : Int32) then (17 : Int32) else (6 : Int32))) = (6 : Int32) then (y13 &&& (15 : Int32)) else (0 : Int32))), some (.long r81), none, none], [.int (1 : Int32)], (H0 s r248.2))) rfl ?_
                exact QTri.mask [true, true, true, false, false, false, false, false, false, false, true, false, false] (K250 _ (if_pos hc251).symm)
              · refine QTri.brT Ad W (t := 242) (f := 238) (L := [some (.ref 0), some (.ref 1), some (.int v.1), some (.int (y10 &&& (3 : Int32))), some (.int y11), some (.int y12), none, none, some (.int (if ((XT.ushr y12 (8 : Int32)) &&& (7 : Int32)) = (0 : Int32) then (5 : Int32) else (if (((XT.ushr y12 (8 : Int32)) &&& (7 : Int32)) &&& (1 : Int32)) = (1 : Int32) then (17 : Int32) else (6 : Int32)))), some (.int (if (if ((XT.ushr y12 (8 : Int32)) &&& (7 : Int32)) = (0 : Int32) then (5 : Int32) else (if (((XT.ushr y12 (8 : Int32)) &&& (7 : Int32)) &&& (1 : Int32)) = (1 : Int32) then (17 : Int32) else (6 : Int32))) = (6 : Int32) then (y13 &&& (15 : Int32)) else (0 : Int32))), some (.long r81), none, none]) (S := []) (σ := (H0 s r248.2)) rfl (XT.i0_ne_t hc251) ?_
                refine QTri.steps Ad W 1 (st' := (243, [some (.ref 0), some (.ref 1), some (.int v.1), some (.int (y10 &&& (3 : Int32))), some (.int y11), some (.int y12), none, none, some (.int (if ((XT.ushr y12 (8 : Int32)) &&& (7 : Int32)) = (0 : Int32) then (5 : Int32) else (if (((XT.ushr y12 (8 : Int32)) &&& (7 : Int32)) &&& (1 : Int32)) = (1 : Int32) then (17 : Int32) else (6 : Int32)))), some (.int (if (if ((XT.ushr y12 (8 : Int32)) &&& (7 : Int32)) = (0 : Int32) then (5 : Int32) else (if (((XT.ushr y12 (8 : Int32)) &&& (7 : Int32)) &&& (1 : Int32)) = (1 : Int32) then (17 : Int32) else (6 : Int32))) = (6 : Int32) then (y13 &&& (15 : Int32)) else (0 : Int32))), some (.long r81), none, none], [.int (0 : Int32)], (H0 s r248.2))) rfl ?_
                exact QTri.mask [true, true, true, false, false, false, false, false, false, false, true, false, false] (K250 _ (if_neg hc251).symm)
      rcases Classical.em ((if ((XT.ushr y12 (8 : Int32)) &&& (7 : Int32)) = (0 : Int32) then (5 : Int32) else (if (((XT.ushr y12 (8 : Int32)) &&& (7 : Int32)) &&& (1 : Int32)) = (1 : Int32) then (17 : Int32) else (6 : Int32))) = (6 : Int32)) with hc20 | hc20
      · refine QTri.brF Ad W (t := 102) (f := 94) (L := [some (.ref 0), some (.ref 1), some (.int v.1), some (.int (y10 &&& (3 : Int32))), some (.int y11), some (.int y12), some (.int y13), none, some (.int (if ((XT.ushr y12 (8 : Int32)) &&& (7 : Int32)) = (0 : Int32) then (5 : Int32) else (if (((XT.ushr y12 (8 : Int32)) &&& (7 : Int32)) &&& (1 : Int32)) = (1 : Int32) then (17 : Int32) else (6 : Int32)))), none, none, none, none]) (S := []) (σ := (H0 s v.2)) rfl (XT.ii_ne_f hc20) ?_
        refine QTri.steps Ad W 4 (st' := (103, [some (.ref 0), some (.ref 1), some (.int v.1), some (.int (y10 &&& (3 : Int32))), some (.int y11), some (.int y12), some (.int y13), none, some (.int (if ((XT.ushr y12 (8 : Int32)) &&& (7 : Int32)) = (0 : Int32) then (5 : Int32) else (if (((XT.ushr y12 (8 : Int32)) &&& (7 : Int32)) &&& (1 : Int32)) = (1 : Int32) then (17 : Int32) else (6 : Int32)))), none, none, none, none], [.int (y13 &&& (15 : Int32))], (H0 s v.2))) rfl ?_
        exact QTri.mask [true, true, true, true, true, true, false, false, true, false, false, false, false] (K19 _ (if_pos hc20).symm)
      · refine QTri.brT Ad W (t := 102) (f := 94) (L := [some (.ref 0), some (.ref 1), some (.int v.1), some (.int (y10 &&& (3 : Int32))), some (.int y11), some (.int y12), some (.int y13), none, some (.int (if ((XT.ushr y12 (8 : Int32)) &&& (7 : Int32)) = (0 : Int32) then (5 : Int32) else (if (((XT.ushr y12 (8 : Int32)) &&& (7 : Int32)) &&& (1 : Int32)) = (1 : Int32) then (17 : Int32) else (6 : Int32)))), none, none, none, none]) (S := []) (σ := (H0 s v.2)) rfl (XT.ii_ne_t hc20) ?_
        refine QTri.steps Ad W 1 (st' := (103, [some (.ref 0), some (.ref 1), some (.int v.1), some (.int (y10 &&& (3 : Int32))), some (.int y11), some (.int y12), some (.int y13), none, some (.int (if ((XT.ushr y12 (8 : Int32)) &&& (7 : Int32)) = (0 : Int32) then (5 : Int32) else (if (((XT.ushr y12 (8 : Int32)) &&& (7 : Int32)) &&& (1 : Int32)) = (1 : Int32) then (17 : Int32) else (6 : Int32)))), none, none, none, none], [.int (0 : Int32)], (H0 s v.2))) rfl ?_
        exact QTri.mask [true, true, true, true, true, true, false, false, true, false, false, false, false] (K19 _ (if_neg hc20).symm)
    rcases Classical.em (((XT.ushr y12 (8 : Int32)) &&& (7 : Int32)) = (0 : Int32)) with hc16 | hc16
    · refine QTri.brF Ad W (t := 70) (f := 66) (L := [some (.ref 0), some (.ref 1), some (.int v.1), some (.int (y10 &&& (3 : Int32))), some (.int y11), some (.int y12), some (.int y13), some (.int ((XT.ushr y12 (8 : Int32)) &&& (7 : Int32))), none, none, none, none, none]) (S := []) (σ := (H0 s v.2)) rfl (XT.i0_ne_f hc16) ?_
      refine QTri.steps Ad W 2 (st' := (85, [some (.ref 0), some (.ref 1), some (.int v.1), some (.int (y10 &&& (3 : Int32))), some (.int y11), some (.int y12), some (.int y13), some (.int ((XT.ushr y12 (8 : Int32)) &&& (7 : Int32))), none, none, none, none, none], [.int (5 : Int32)], (H0 s v.2))) rfl ?_
      exact QTri.mask [true, true, true, true, true, true, true, false, false, false, false, false, false] (K15 _ (if_pos hc16).symm)
    · refine QTri.brT Ad W (t := 70) (f := 66) (L := [some (.ref 0), some (.ref 1), some (.int v.1), some (.int (y10 &&& (3 : Int32))), some (.int y11), some (.int y12), some (.int y13), some (.int ((XT.ushr y12 (8 : Int32)) &&& (7 : Int32))), none, none, none, none, none]) (S := []) (σ := (H0 s v.2)) rfl (XT.i0_ne_t hc16) ?_
      refine QTri.steps Ad W 4 (st' := (75, [some (.ref 0), some (.ref 1), some (.int v.1), some (.int (y10 &&& (3 : Int32))), some (.int y11), some (.int y12), some (.int y13), some (.int ((XT.ushr y12 (8 : Int32)) &&& (7 : Int32))), none, none, none, none, none], [.int (1 : Int32), .int (((XT.ushr y12 (8 : Int32)) &&& (7 : Int32)) &&& (1 : Int32))], (H0 s v.2))) rfl ?_
      rcases Classical.em ((((XT.ushr y12 (8 : Int32)) &&& (7 : Int32)) &&& (1 : Int32)) = (1 : Int32)) with hc17 | hc17
      · refine QTri.brF Ad W (t := 83) (f := 78) (L := [some (.ref 0), some (.ref 1), some (.int v.1), some (.int (y10 &&& (3 : Int32))), some (.int y11), some (.int y12), some (.int y13), some (.int ((XT.ushr y12 (8 : Int32)) &&& (7 : Int32))), none, none, none, none, none]) (S := []) (σ := (H0 s v.2)) rfl (XT.ii_ne_f hc17) ?_
        refine QTri.steps Ad W 2 (st' := (85, [some (.ref 0), some (.ref 1), some (.int v.1), some (.int (y10 &&& (3 : Int32))), some (.int y11), some (.int y12), some (.int y13), some (.int ((XT.ushr y12 (8 : Int32)) &&& (7 : Int32))), none, none, none, none, none], [.int (17 : Int32)], (H0 s v.2))) rfl ?_
        exact QTri.mask [true, true, true, true, true, true, true, false, false, false, false, false, false] (K15 _ ((if_neg hc16).trans (if_pos hc17)).symm)
      · refine QTri.brT Ad W (t := 83) (f := 78) (L := [some (.ref 0), some (.ref 1), some (.int v.1), some (.int (y10 &&& (3 : Int32))), some (.int y11), some (.int y12), some (.int y13), some (.int ((XT.ushr y12 (8 : Int32)) &&& (7 : Int32))), none, none, none, none, none]) (S := []) (σ := (H0 s v.2)) rfl (XT.ii_ne_t hc17) ?_
        refine QTri.steps Ad W 1 (st' := (85, [some (.ref 0), some (.ref 1), some (.int v.1), some (.int (y10 &&& (3 : Int32))), some (.int y11), some (.int y12), some (.int y13), some (.int ((XT.ushr y12 (8 : Int32)) &&& (7 : Int32))), none, none, none, none, none], [.int (6 : Int32)], (H0 s v.2))) rfl ?_
        exact QTri.mask [true, true, true, true, true, true, true, false, false, false, false, false, false] (K15 _ ((if_neg hc16).trans (if_neg hc17)).symm)
  · refine QTri.brT Ad W (t := 268) (f := 24) (L := [some (.ref 0), some (.ref 1), some (.int v.1), none, none, none, none, none, none, none, none, none, none]) (S := []) (σ := (H0 s v.2)) rfl (XT.ii_ge_t hc9) ?_
    refine QTri.steps Ad W 1 (st' := (269, [some (.ref 0), some (.ref 1), some (.int v.1), none, none, none, none, none, none, none, none, none, none], [.int (1 : Int32)], (H0 s v.2))) rfl ?_
    obtain rfl := Option.some.inj h
    obtain ⟨rfl, rfl⟩ := hx0 ((1 : Int32), (H0 s v.2)) rfl
    exact QTri.retZ rfl rfl
/-- the law -/
def F0 (s : List Int32) : Option (Int32 × QHeap) :=
  (F1 (4 : Int32) (50 : Int32) (100 : Int32) (5 : Int32)).bind fun r8 => (loopN (B0_16 s) qN ((0 : Int32), r8)).bind fun e252 => some e252
theorem tF0 (Ad : QAd n0 ad) (W : QW Z a0) (s : List Int32) {r : Int32 × QHeap} (h : F0 s = some r) : QTri l Z n0 ad 0 (0, qentry [.ref 0] (pMaxL 0), [], [.inr (.inl (.int, s))]) (some (Value.int r.1)) r.2 := by
  unfold F0 at h
  refine QTri.steps Ad W 1 (st' := (3, [some (.ref 0), none, none, none, none, none, none, none, none, none, none, none, none], [.ref 1], [.inr (.inl (.int, s)), .inl [.null, .null, .null, .null, .null, .null, .null, .null, .null, .int (f_poolSize ob0), .int (f_udpTimeout ob0), .int (f_tcpTimeout ob0), .int (f_cooldown ob0), .int (f_clock ob0), .int (f_remAddr ob0), .int (f_remPort ob0), .int (f_regHost ob0), .int (f_regPort ob0), .int (f_regExt ob0)]])) rfl ?_
  refine QTri.steps Ad W 5 (st' := (10, [some (.ref 0), none, none, none, none, none, none, none, none, none, none, none, none], [.int (5 : Int32), .int (100 : Int32), .int (50 : Int32), .int (4 : Int32), .ref 1, .ref 1], [.inr (.inl (.int, s)), .inl [.null, .null, .null, .null, .null, .null, .null, .null, .null, .int (f_poolSize ob0), .int (f_udpTimeout ob0), .int (f_tcpTimeout ob0), .int (f_cooldown ob0), .int (f_clock ob0), .int (f_remAddr ob0), .int (f_remPort ob0), .int (f_regHost ob0), .int (f_regPort ob0), .int (f_regExt ob0)]])) rfl ?_
  obtain ⟨r8, hr8, h⟩ := Option.bind_eq_some_iff.mp h
  refine QTri.callI W (a := 1) (as := [.int (4 : Int32), .int (50 : Int32), .int (100 : Int32), .int (5 : Int32)]) (rest := [.ref 1]) (σ₁ := (H0 s r8)) rfl rfl rfl rfl rfl rfl (tF1 Ad W s (4 : Int32) (50 : Int32) (100 : Int32) (5 : Int32) hr8) ?_
  refine QTri.steps Ad W 3 (st' := (16, [some (.ref 0), some (.ref 1), some (.int (0 : Int32)), none, none, none, none, none, none, none, none, none, none], [], (H0 s r8))) rfl ?_
  obtain ⟨e252, he252, h⟩ := Option.bind_eq_some_iff.mp h
  refine QTri.mask [true, true, true, false, false, false, false, false, false, false, false, false, false] (loopN_tri (B := B0_16 s) (T := fun lv253 => QTri l Z n0 ad 0 (16, [some (.ref 0), some (.ref 1), some (.int lv253.1), none, none, none, none, none, none, none, none, none, none], [], (H0 s lv253.2)) (some (Value.int r.1)) r.2) (KE := fun e252a => (some (Value.int r.1)) = (some (Value.int e252a.1)) ∧ r.2 = e252a.2) (fun lv253 r hB hE hC => tB0_16 Ad W s lv253 hB (fun x q => hE _ q) (fun x q => hC x q)) qN ((0 : Int32), r8) e252 he252 ?_)
  obtain rfl := Option.some.inj h
  exact ⟨rfl, rfl⟩
end Walks
theorem script_ok {s : State} {w : Value} (hfit : Fit s) (h1 : (Jvm.Cond.arrayOf (Jvm.Term.arg 0) Jvm.ClassFile.FieldType.int).value #[w] s none s [] = some true) (h2 : (Jvm.Cond.le (Jvm.Term.length (Jvm.Term.arg 0)) (Jvm.Term.int 260)).value #[w] s none s [] = some true) :
    ∃ (a : Addr) (c : Cell) (xs : List Int32), w = .ref a ∧ Arr s s.heap a c .int ∧ c.slots = (xs.map Value.int).toArray ∧ xs.length ≤ 260 := by
  obtain ⟨a, ha⟩ := arr_v h1
  obtain ⟨c, A⟩ := Arr.start ha h1
  have hw : w = .ref a := by simpa [Term.eval] using ha
  subst hw
  have hel : ∀ i, i < c.slots.size → ∃ x, c.slots[i]? = some (.int x) := fun i hi => by
    have q := hfit A.1 hi
    obtain ⟨hs, k, hk, comp, hkind⟩ := A.2.1
    have e : s.slotType? c.cls c.vm i = some .int := by
      cases hq : c.vm <;> first | exact absurd hq (hs _) | simp [State.slotType?, hk, hkind]
    have q2 : fits .int c.slots[i] = true := by simpa [State.fitsSlot, e] using q
    obtain ⟨x, hx⟩ := fit_I q2 (Or.inl rfl)
    exact ⟨x, by rw [Array.getElem?_eq_getElem hi, hx]⟩
  refine ⟨a, c, c.slots.toList.map (fun v => match v with | .int x => x | _ => 0), rfl, A, ?_, ?_⟩
  · apply Array.ext'
    rw [List.map_map]
    have : c.slots.toList.map (Value.int ∘ fun v => match v with | .int x => x | _ => 0) = c.slots.toList := by
      conv => rhs; rw [← List.map_id c.slots.toList]
      refine List.map_congr_left fun v hv => ?_
      obtain ⟨i, hi⟩ := List.mem_iff_getElem?.mp hv
      rw [Array.getElem?_toList] at hi
      obtain ⟨x, hx⟩ := hel i (Array.getElem?_eq_some_iff.mp hi).1
      rw [hi] at hx
      cases hx
      rfl
    exact this.symm
  · have hl := A.fin (Vm.Alike.refl _)
    simp only [List.length_map, Array.length_toList]
    simp only [Cond.value, Term.eval] at h2
    simp [hl] at h2
    by_cases hs : c.slots.size < 2147483648
    · rw [if_pos hs] at h2
      have h3 : c.slots.size.toInt32 ≤ 260 := by simpa using h2
      rw [Int32.le_iff_toInt_le] at h3
      have h4 : (c.slots.size.toInt32).toInt = c.slots.size := Int32.toInt_ofNat_of_lt (by omega)
      rw [h4] at h3
      have h5 : (260 : Int32).toInt = 260 := rfl
      rw [h5] at h3
      omega
    · rw [if_neg hs] at h2
      simp at h2
/-! ## ints, plainly -/
theorem i_lt {x y : Int32} : x < y ↔ x.toInt < y.toInt := Int32.lt_iff_toInt_lt
theorem i_eq {x y : Int32} : x = y ↔ x.toInt = y.toInt := Int32.toInt_inj.symm
theorem i_lo (x : Int32) : -2147483648 ≤ x.toInt := Int32.le_toInt x
theorem i_hi (x : Int32) : x.toInt < 2147483648 := Int32.toInt_lt x
theorem i_add {x y : Int32} (h1 : -2147483648 ≤ x.toInt + y.toInt) (h2 : x.toInt + y.toInt < 2147483648) : (x + y).toInt = x.toInt + y.toInt := XT.add32 ⟨h1, by omega⟩
theorem i_sub {x y : Int32} (h1 : -2147483648 ≤ x.toInt - y.toInt) (h2 : x.toInt - y.toInt < 2147483648) : (x - y).toInt = x.toInt - y.toInt := XT.sub32 ⟨h1, by omega⟩
theorem i_mul {x y : Int32} (h1 : -2147483648 ≤ x.toInt * y.toInt) (h2 : x.toInt * y.toInt < 2147483648) : (x * y).toInt = x.toInt * y.toInt := XT.mul32 ⟨h1, by omega⟩
theorem i_nat (x : Int32) : x.toNatClampNeg = x.toInt.toNat := rfl
theorem aget_at {α : Type} {xs : List α} {j : Int32} {n : Nat} (hj : j.toInt = n) (hn : n < xs.length) : aget xs j = some xs[n] := by
  have h0 : ¬ j < 0 := by rw [i_lt]; show ¬ j.toInt < 0; omega
  unfold aget
  rw [if_neg h0, i_nat, hj]
  simp [hn]
theorem aget_rep {α : Type} {m : Nat} {a : α} {j : Int32} (h0 : 0 ≤ j.toInt) (h1 : j.toInt < m) : aget (List.replicate m a) j = some a := by
  rw [aget_at (n := j.toInt.toNat) (by omega) (by rw [List.length_replicate]; omega)]
  simp
theorem aset_at {α : Type} {xs : List α} {j : Int32} {n : Nat} {v : α} (hj : j.toInt = n) (hn : n < xs.length) : aset xs j v = some (xs.set n v) := by
  have h0 : ¬ j < 0 := by rw [i_lt]; show ¬ j.toInt < 0; omega
  unfold aset
  have e : j.toNatClampNeg = n := by rw [i_nat, hj]; simp
  rw [if_neg h0, e, if_pos hn]
theorem rep_set {α : Type} (m k : Nat) (a : α) : (List.replicate m a).set k a = List.replicate m a := by
  apply List.ext_getElem (by simp)
  intro i h1 h2
  rw [List.getElem_set]
  split <;> simp
theorem small_cases {x : Int32} (h0 : 0 ≤ x.toInt) {n : Nat} (h1 : x.toInt < n) {P : Int32 → Prop} (h : ∀ m : Nat, m < n → P (Int32.ofInt m)) : P x := by
  have e : Int32.ofInt (x.toInt.toNat : Nat) = x := by
    rw [Int.toNat_of_nonneg h0, Int32.ofInt_toInt]
  rw [← e]
  exact h _ (by omega)
theorem bit_ne {x : Int32} (h0 : 0 ≤ x.toInt) (h1 : x.toInt < 32) : ¬ (((1 : Int32) <<< (x &&& 31)) &&& ((1 : Int32) <<< (x &&& 31))) = 0 :=
  small_cases (P := fun x => ¬ (((1 : Int32) <<< (x &&& 31)) &&& ((1 : Int32) <<< (x &&& 31))) = 0) h0 (n := 32) h1 (by decide)
/-! ## a plain run that succeeds, and what it gives -/
def okP {α : Type} (m : Option α) (P : α → Prop) : Prop := ∃ a, m = some a ∧ P a
theorem okP.some {α : Type} {a : α} {P : α → Prop} (h : P a) : okP (some a) P := ⟨a, rfl, h⟩
theorem okP.bind {α β : Type} {m : Option α} {f : α → Option β} {P : β → Prop} (h : okP m fun a => okP (f a) P) : okP (m.bind f) P := by
  obtain ⟨a, e, b, e2, h2⟩ := h
  exact ⟨b, by rw [e]; exact e2, h2⟩
theorem okP.ite {α : Type} {c : Prop} [Decidable c] {a b : Option α} {P : α → Prop} (h1 : c → okP a P) (h2 : ¬ c → okP b P) : okP (if c then a else b) P := by
  by_cases h : c
  · rw [if_pos h]; exact h1 h
  · rw [if_neg h]; exact h2 h
theorem okP.mono {α : Type} {m : Option α} {P Q : α → Prop} (h : okP m P) (k : ∀ a, P a → Q a) : okP m Q := by
  obtain ⟨a, e, h⟩ := h
  exact ⟨a, e, k a h⟩
theorem okP.of {α : Type} {m : Option α} {a : α} {P : α → Prop} (e : m = Option.some a) (h : P a) : okP m P := ⟨a, e, h⟩
theorem okP.aget {α : Type} {xs : List α} {j : Int32} {P : α → Prop} (h0 : 0 ≤ j.toInt) (h1 : j.toInt < xs.length) (k : ∀ v, xs[j.toInt.toNat]? = Option.some v → P v) : okP (aget xs j) P :=
  ⟨_, aget_at (n := j.toInt.toNat) (by omega) (by omega), k _ (List.getElem?_eq_getElem _)⟩
theorem okP.aset {α : Type} {xs : List α} {j : Int32} {v : α} {P : List α → Prop} (h0 : 0 ≤ j.toInt) (h1 : j.toInt < xs.length) (k : P (xs.set j.toInt.toNat v)) : okP (aset xs j v) P :=
  ⟨_, aset_at (n := j.toInt.toNat) (by omega) (by omega), k⟩
theorem okP.loop {V E : Type} {B : V → Option (E ⊕ V)} {P : E → Prop} {n : Nat} {v : V} (I : V → Prop) (μ : V → Nat) (hv : I v) (hm : μ v < n) (hB : ∀ v, I v → okP (B v) (fun r => Sum.elim P (fun v' => I v' ∧ μ v' < μ v) r)) : okP (loopN B n v) P := by
  refine loopN_inv I P μ ?_ n v hv hm
  intro v hv
  obtain ⟨r, e, h⟩ := hB v hv
  cases r with
  | inl x => exact Or.inl ⟨x, e, h⟩
  | inr x => exact Or.inr ⟨x, e, h⟩
theorem len_i {n : Nat} (h : n ≤ 1000) : (n.toInt32).toInt = n := by
  have e : n.toInt32 = Int32.ofInt n := rfl
  rw [e, Int32.toInt_ofInt_of_le (by show _ ≤ (n : Int); omega) (by show (n : Int) < _; omega)]
theorem and1 (x : Int32) : x &&& 1 = 0 ∨ x &&& 1 = 1 := by
  have e : (x &&& 1).toBitVec = x.toBitVec &&& 1#32 := rfl
  have h := BitVec.and_one_eq_setWidth_ofBool_getLsbD (x := x.toBitVec)
  cases g : x.toBitVec.getLsbD 0
  · left; apply Int32.toBitVec_inj.1; rw [e, h, g]; rfl
  · right; apply Int32.toBitVec_inj.1; rw [e, h, g]; rfl
theorem okP.not {α : Type} {m : Option α} {a : α} {P : α → Prop} (h : okP m P) (e : m = Option.some a) : P a := by
  obtain ⟨b, e2, h⟩ := h
  rw [e] at e2
  exact (Option.some.inj e2) ▸ h
theorem and_rng {x m : Int32} (hm : 0 ≤ m.toInt) : 0 ≤ (x &&& m).toInt ∧ (x &&& m).toInt ≤ m.toInt := by
  have e : (x &&& m).toBitVec.toNat = x.toBitVec.toNat &&& m.toBitVec.toNat := BitVec.toNat_and ..
  have l : (x &&& m).toBitVec.toNat ≤ m.toBitVec.toNat := by rw [e]; exact Nat.and_le_right
  have c1 : m.toInt = if 2 * m.toBitVec.toNat < 2 ^ 32 then (m.toBitVec.toNat : Int) else m.toBitVec.toNat - (2 ^ 32 : Nat) := BitVec.toInt_eq_toNat_cond m.toBitVec
  have c2 : (x &&& m).toInt = if 2 * (x &&& m).toBitVec.toNat < 2 ^ 32 then ((x &&& m).toBitVec.toNat : Int) else (x &&& m).toBitVec.toNat - (2 ^ 32 : Nat) := BitVec.toInt_eq_toNat_cond (x &&& m).toBitVec
  have b : m.toBitVec.toNat < 2 ^ 32 := m.toBitVec.isLt
  by_cases h : 2 * m.toBitVec.toNat < 2 ^ 32
  · rw [if_pos h] at c1
    rw [if_pos (by omega)] at c2
    omega
  · rw [if_neg h] at c1
    omega
theorem mod_rng {x m : Int32} (hx : 0 ≤ x.toInt) (hm : 0 < m.toInt) : 0 ≤ (x % m).toInt ∧ (x % m).toInt < m.toInt := by
  rw [Int32.toInt_mod, Int.tmod_eq_emod_of_nonneg hx]
  exact ⟨Int.emod_nonneg _ (by omega), Int.emod_lt_of_pos _ hm⟩
/-- the law's own room, over the script's array -/
def sFit (s : List Int32) (τ : QHeap) : Prop := τ.length - List.length ([Sum.inr (Sum.inl (FieldType.int, s))] : QHeap) ≤ room_1.cells ∧ qhs τ - qhs [Sum.inr (Sum.inl (FieldType.int, s))] ≤ room_1.slots
def Sh (n : Int32) (o : Ob) : Prop := (f_live o).length = 16 ∧ (f_used o).length = 16 ∧ (f_freedAt o).length = 16 ∧ (f_protoOf o).length = 16 ∧ (f_hostOf o).length = 16 ∧ (f_iportOf o).length = 16 ∧ (f_stateAt o).length = 16 ∧ (f_deadlineAt o).length = 16 ∧ (f_perm o).length = 64 ∧ f_poolSize o = n
theorem Sh_live {n : Int32} {o : Ob} {x : List Int32} (h : Sh n o) (hx : x.length = 16) : Sh n (s_live o x) := by
  dsimp only [Sh, f_live, f_used, f_freedAt, f_protoOf, f_hostOf, f_iportOf, f_stateAt, f_deadlineAt, f_perm, f_poolSize, s_live] at h ⊢
  exact ⟨hx, h.2.1, h.2.2.1, h.2.2.2.1, h.2.2.2.2.1, h.2.2.2.2.2.1, h.2.2.2.2.2.2.1, h.2.2.2.2.2.2.2.1, h.2.2.2.2.2.2.2.2.1, h.2.2.2.2.2.2.2.2.2⟩
theorem Sh_l_live {n : Int32} {o : Ob} (h : Sh n o) : (f_live o).length = 16 := h.1
theorem Sh_used {n : Int32} {o : Ob} {x : List Int32} (h : Sh n o) (hx : x.length = 16) : Sh n (s_used o x) := by
  dsimp only [Sh, f_live, f_used, f_freedAt, f_protoOf, f_hostOf, f_iportOf, f_stateAt, f_deadlineAt, f_perm, f_poolSize, s_used] at h ⊢
  exact ⟨h.1, hx, h.2.2.1, h.2.2.2.1, h.2.2.2.2.1, h.2.2.2.2.2.1, h.2.2.2.2.2.2.1, h.2.2.2.2.2.2.2.1, h.2.2.2.2.2.2.2.2.1, h.2.2.2.2.2.2.2.2.2⟩
theorem Sh_l_used {n : Int32} {o : Ob} (h : Sh n o) : (f_used o).length = 16 := h.2.1
theorem Sh_freedAt {n : Int32} {o : Ob} {x : List Int32} (h : Sh n o) (hx : x.length = 16) : Sh n (s_freedAt o x) := by
  dsimp only [Sh, f_live, f_used, f_freedAt, f_protoOf, f_hostOf, f_iportOf, f_stateAt, f_deadlineAt, f_perm, f_poolSize, s_freedAt] at h ⊢
  exact ⟨h.1, h.2.1, hx, h.2.2.2.1, h.2.2.2.2.1, h.2.2.2.2.2.1, h.2.2.2.2.2.2.1, h.2.2.2.2.2.2.2.1, h.2.2.2.2.2.2.2.2.1, h.2.2.2.2.2.2.2.2.2⟩
theorem Sh_l_freedAt {n : Int32} {o : Ob} (h : Sh n o) : (f_freedAt o).length = 16 := h.2.2.1
theorem Sh_protoOf {n : Int32} {o : Ob} {x : List Int32} (h : Sh n o) (hx : x.length = 16) : Sh n (s_protoOf o x) := by
  dsimp only [Sh, f_live, f_used, f_freedAt, f_protoOf, f_hostOf, f_iportOf, f_stateAt, f_deadlineAt, f_perm, f_poolSize, s_protoOf] at h ⊢
  exact ⟨h.1, h.2.1, h.2.2.1, hx, h.2.2.2.2.1, h.2.2.2.2.2.1, h.2.2.2.2.2.2.1, h.2.2.2.2.2.2.2.1, h.2.2.2.2.2.2.2.2.1, h.2.2.2.2.2.2.2.2.2⟩
theorem Sh_l_protoOf {n : Int32} {o : Ob} (h : Sh n o) : (f_protoOf o).length = 16 := h.2.2.2.1
theorem Sh_hostOf {n : Int32} {o : Ob} {x : List Int32} (h : Sh n o) (hx : x.length = 16) : Sh n (s_hostOf o x) := by
  dsimp only [Sh, f_live, f_used, f_freedAt, f_protoOf, f_hostOf, f_iportOf, f_stateAt, f_deadlineAt, f_perm, f_poolSize, s_hostOf] at h ⊢
  exact ⟨h.1, h.2.1, h.2.2.1, h.2.2.2.1, hx, h.2.2.2.2.2.1, h.2.2.2.2.2.2.1, h.2.2.2.2.2.2.2.1, h.2.2.2.2.2.2.2.2.1, h.2.2.2.2.2.2.2.2.2⟩
theorem Sh_l_hostOf {n : Int32} {o : Ob} (h : Sh n o) : (f_hostOf o).length = 16 := h.2.2.2.2.1
theorem Sh_iportOf {n : Int32} {o : Ob} {x : List Int32} (h : Sh n o) (hx : x.length = 16) : Sh n (s_iportOf o x) := by
  dsimp only [Sh, f_live, f_used, f_freedAt, f_protoOf, f_hostOf, f_iportOf, f_stateAt, f_deadlineAt, f_perm, f_poolSize, s_iportOf] at h ⊢
  exact ⟨h.1, h.2.1, h.2.2.1, h.2.2.2.1, h.2.2.2.2.1, hx, h.2.2.2.2.2.2.1, h.2.2.2.2.2.2.2.1, h.2.2.2.2.2.2.2.2.1, h.2.2.2.2.2.2.2.2.2⟩
theorem Sh_l_iportOf {n : Int32} {o : Ob} (h : Sh n o) : (f_iportOf o).length = 16 := h.2.2.2.2.2.1
theorem Sh_stateAt {n : Int32} {o : Ob} {x : List Int32} (h : Sh n o) (hx : x.length = 16) : Sh n (s_stateAt o x) := by
  dsimp only [Sh, f_live, f_used, f_freedAt, f_protoOf, f_hostOf, f_iportOf, f_stateAt, f_deadlineAt, f_perm, f_poolSize, s_stateAt] at h ⊢
  exact ⟨h.1, h.2.1, h.2.2.1, h.2.2.2.1, h.2.2.2.2.1, h.2.2.2.2.2.1, hx, h.2.2.2.2.2.2.2.1, h.2.2.2.2.2.2.2.2.1, h.2.2.2.2.2.2.2.2.2⟩
theorem Sh_l_stateAt {n : Int32} {o : Ob} (h : Sh n o) : (f_stateAt o).length = 16 := h.2.2.2.2.2.2.1
theorem Sh_deadlineAt {n : Int32} {o : Ob} {x : List Int32} (h : Sh n o) (hx : x.length = 16) : Sh n (s_deadlineAt o x) := by
  dsimp only [Sh, f_live, f_used, f_freedAt, f_protoOf, f_hostOf, f_iportOf, f_stateAt, f_deadlineAt, f_perm, f_poolSize, s_deadlineAt] at h ⊢
  exact ⟨h.1, h.2.1, h.2.2.1, h.2.2.2.1, h.2.2.2.2.1, h.2.2.2.2.2.1, h.2.2.2.2.2.2.1, hx, h.2.2.2.2.2.2.2.2.1, h.2.2.2.2.2.2.2.2.2⟩
theorem Sh_l_deadlineAt {n : Int32} {o : Ob} (h : Sh n o) : (f_deadlineAt o).length = 16 := h.2.2.2.2.2.2.2.1
theorem Sh_perm {n : Int32} {o : Ob} {x : List Int64} (h : Sh n o) (hx : x.length = 64) : Sh n (s_perm o x) := by
  dsimp only [Sh, f_live, f_used, f_freedAt, f_protoOf, f_hostOf, f_iportOf, f_stateAt, f_deadlineAt, f_perm, f_poolSize, s_perm] at h ⊢
  exact ⟨h.1, h.2.1, h.2.2.1, h.2.2.2.1, h.2.2.2.2.1, h.2.2.2.2.2.1, h.2.2.2.2.2.2.1, h.2.2.2.2.2.2.2.1, hx, h.2.2.2.2.2.2.2.2.2⟩
theorem Sh_l_perm {n : Int32} {o : Ob} (h : Sh n o) : (f_perm o).length = 64 := h.2.2.2.2.2.2.2.2.1
theorem Sh_udpTimeout {n : Int32} {o : Ob} {x : Int32} (h : Sh n o) : Sh n (s_udpTimeout o x) := by
  dsimp only [Sh, f_live, f_used, f_freedAt, f_protoOf, f_hostOf, f_iportOf, f_stateAt, f_deadlineAt, f_perm, f_poolSize, s_udpTimeout] at h ⊢
  exact h
theorem Sh_tcpTimeout {n : Int32} {o : Ob} {x : Int32} (h : Sh n o) : Sh n (s_tcpTimeout o x) := by
  dsimp only [Sh, f_live, f_used, f_freedAt, f_protoOf, f_hostOf, f_iportOf, f_stateAt, f_deadlineAt, f_perm, f_poolSize, s_tcpTimeout] at h ⊢
  exact h
theorem Sh_cooldown {n : Int32} {o : Ob} {x : Int32} (h : Sh n o) : Sh n (s_cooldown o x) := by
  dsimp only [Sh, f_live, f_used, f_freedAt, f_protoOf, f_hostOf, f_iportOf, f_stateAt, f_deadlineAt, f_perm, f_poolSize, s_cooldown] at h ⊢
  exact h
theorem Sh_clock {n : Int32} {o : Ob} {x : Int32} (h : Sh n o) : Sh n (s_clock o x) := by
  dsimp only [Sh, f_live, f_used, f_freedAt, f_protoOf, f_hostOf, f_iportOf, f_stateAt, f_deadlineAt, f_perm, f_poolSize, s_clock] at h ⊢
  exact h
theorem Sh_remAddr {n : Int32} {o : Ob} {x : Int32} (h : Sh n o) : Sh n (s_remAddr o x) := by
  dsimp only [Sh, f_live, f_used, f_freedAt, f_protoOf, f_hostOf, f_iportOf, f_stateAt, f_deadlineAt, f_perm, f_poolSize, s_remAddr] at h ⊢
  exact h
theorem Sh_remPort {n : Int32} {o : Ob} {x : Int32} (h : Sh n o) : Sh n (s_remPort o x) := by
  dsimp only [Sh, f_live, f_used, f_freedAt, f_protoOf, f_hostOf, f_iportOf, f_stateAt, f_deadlineAt, f_perm, f_poolSize, s_remPort] at h ⊢
  exact h
theorem Sh_regHost {n : Int32} {o : Ob} {x : Int32} (h : Sh n o) : Sh n (s_regHost o x) := by
  dsimp only [Sh, f_live, f_used, f_freedAt, f_protoOf, f_hostOf, f_iportOf, f_stateAt, f_deadlineAt, f_perm, f_poolSize, s_regHost] at h ⊢
  exact h
theorem Sh_regPort {n : Int32} {o : Ob} {x : Int32} (h : Sh n o) : Sh n (s_regPort o x) := by
  dsimp only [Sh, f_live, f_used, f_freedAt, f_protoOf, f_hostOf, f_iportOf, f_stateAt, f_deadlineAt, f_perm, f_poolSize, s_regPort] at h ⊢
  exact h
theorem Sh_regExt {n : Int32} {o : Ob} {x : Int32} (h : Sh n o) : Sh n (s_regExt o x) := by
  dsimp only [Sh, f_live, f_used, f_freedAt, f_protoOf, f_hostOf, f_iportOf, f_stateAt, f_deadlineAt, f_perm, f_poolSize, s_regExt] at h ⊢
  exact h
theorem inc1 {x : Int32} (h : x.toInt < 2147483647) : (x + 1).toInt = x.toInt + 1 := by
  have := i_lo x
  have e1 : (1 : Int32).toInt = 1 := rfl
  rw [i_add (by omega) (by omega), e1]
/-- the index of a permission's word -/
theorem pidx {x y : Int32} (hx : 0 ≤ x.toInt) (hx8 : x.toInt < 16) : 0 ≤ (x * (4 : Int32) + ((y >>> ((6 : Int32) &&& 31)) &&& (3 : Int32)) : Int32).toInt ∧ (x * (4 : Int32) + ((y >>> ((6 : Int32) &&& 31)) &&& (3 : Int32)) : Int32).toInt < 64 := by
  have m := and_rng (x := y >>> (6 &&& 31)) (m := 3) (by decide)
  obtain ⟨w, hw⟩ : ∃ w, w = (y >>> (6 &&& 31)) &&& 3 := ⟨_, rfl⟩
  rw [← hw] at m ⊢
  have e3 : (3 : Int32).toInt = 3 := rfl
  have e4 : (x * 4).toInt = x.toInt * 4 := i_mul (x := x) (y := 4) (by show _ ≤ x.toInt * 4; omega) (by show x.toInt * 4 < _; omega)
  rw [i_add (by omega) (by omega), e4]
  omega
theorem slot_ok {n : Int32} {o : Ob} (h : Sh n o) (h0 : 0 ≤ n.toInt) (h16 : n.toInt ≤ 16) (x : Int32) : okP (F11 o x) (fun r => r = -1 ∨ (0 ≤ r.toInt ∧ r.toInt < n.toInt ∧ r.toInt = x.toInt - 5000)) := by
  obtain ⟨h1, h2, h3, h4, h5, h6, h7, h8, h9, h10⟩ := h
  unfold F11
  rw [h10]
  have e5 : (5000 : Int32).toInt = 5000 := rfl
  have e : (5000 + n).toInt = 5000 + n.toInt := by rw [i_add (by omega) (by omega), e5]
  repeat' with_reducible (first | apply okP.bind | apply okP.some | (apply okP.ite <;> intro _) | refine okP.aget ?_ ?_ (fun v hv => ?_) | refine okP.aset ?_ ?_ ?_)
  · exact Or.inl rfl
  · rename_i c1 c2
    rw [i_lt] at c1 c2
    have e6 : (x - 5000).toInt = x.toInt - 5000 := by rw [i_sub (by omega) (by omega), e5]
    exact Or.inr ⟨by omega, by omega, e6⟩
  · exact Or.inl rfl
theorem liveAt_ok {n : Int32} {o : Ob} (h : Sh n o) (h0 : 0 ≤ n.toInt) (h16 : n.toInt ≤ 16) (x : Int32) : okP (F10 o x) (fun r => r = -1 ∨ (0 ≤ r.toInt ∧ r.toInt < n.toInt)) := by
  unfold F10
  apply okP.bind
  refine okP.mono (slot_ok h h0 h16 x) ?_
  obtain ⟨h1, h2, h3, h4, h5, h6, h7, h8, h9, h10⟩ := h
  rintro r (rfl | ⟨q1, q2, _⟩)
  · rw [if_pos (by decide)]; exact okP.some (Or.inl rfl)
  rw [if_neg (by rw [i_lt]; show ¬ r.toInt < 0; omega)]
  repeat' with_reducible (first | apply okP.bind | apply okP.some | (apply okP.ite <;> intro _) | refine okP.aget ?_ ?_ (fun v hv => ?_) | refine okP.aset ?_ ?_ ?_)
  · exact q1
  · omega
  · exact Or.inl rfl
  · exact Or.inr ⟨q1, q2⟩
theorem iho_ok {n : Int32} {o : Ob} (h : Sh n o) (h0 : 0 ≤ n.toInt) (h16 : n.toInt ≤ 16) (x : Int32) : okP (F9 o x) (fun _ => True) := by
  unfold F9
  apply okP.bind
  refine okP.mono (liveAt_ok h h0 h16 x) ?_
  obtain ⟨h1, h2, h3, h4, h5, h6, h7, h8, h9, h10⟩ := h
  rintro r (rfl | ⟨q1, q2⟩)
  · rw [if_pos (by decide)]; exact okP.some trivial
  rw [if_neg (by rw [i_lt]; show ¬ r.toInt < 0; omega)]
  repeat' with_reducible (first | apply okP.bind | apply okP.some | (apply okP.ite <;> intro _) | refine okP.aget ?_ ?_ (fun v hv => ?_) | refine okP.aset ?_ ?_ ?_)
  · exact q1
  · omega
  · trivial
theorem ipo_ok {n : Int32} {o : Ob} (h : Sh n o) (h0 : 0 ≤ n.toInt) (h16 : n.toInt ≤ 16) (x : Int32) : okP (F12 o x) (fun _ => True) := by
  unfold F12
  apply okP.bind
  refine okP.mono (liveAt_ok h h0 h16 x) ?_
  obtain ⟨h1, h2, h3, h4, h5, h6, h7, h8, h9, h10⟩ := h
  rintro r (rfl | ⟨q1, q2⟩)
  · rw [if_pos (by decide)]; exact okP.some trivial
  rw [if_neg (by rw [i_lt]; show ¬ r.toInt < 0; omega)]
  repeat' with_reducible (first | apply okP.bind | apply okP.some | (apply okP.ite <;> intro _) | refine okP.aget ?_ ?_ (fun v hv => ?_) | refine okP.aset ?_ ?_ ?_)
  · exact q1
  · omega
  · trivial
theorem sto_ok {n : Int32} {o : Ob} (h : Sh n o) (h0 : 0 ≤ n.toInt) (h16 : n.toInt ≤ 16) (x : Int32) : okP (F13 o x) (fun _ => True) := by
  unfold F13
  apply okP.bind
  refine okP.mono (liveAt_ok h h0 h16 x) ?_
  obtain ⟨h1, h2, h3, h4, h5, h6, h7, h8, h9, h10⟩ := h
  rintro r (rfl | ⟨q1, q2⟩)
  · rw [if_pos (by decide)]; exact okP.some trivial
  rw [if_neg (by rw [i_lt]; show ¬ r.toInt < 0; omega)]
  repeat' with_reducible (first | apply okP.bind | apply okP.some | (apply okP.ite <;> intro _) | refine okP.aget ?_ ?_ (fun v hv => ?_) | refine okP.aset ?_ ?_ ?_)
  · exact q1
  · omega
  · trivial
theorem dlo_ok {n : Int32} {o : Ob} (h : Sh n o) (h0 : 0 ≤ n.toInt) (h16 : n.toInt ≤ 16) (x : Int32) : okP (F14 o x) (fun _ => True) := by
  unfold F14
  apply okP.bind
  refine okP.mono (liveAt_ok h h0 h16 x) ?_
  obtain ⟨h1, h2, h3, h4, h5, h6, h7, h8, h9, h10⟩ := h
  rintro r (rfl | ⟨q1, q2⟩)
  · rw [if_pos (by decide)]; exact okP.some trivial
  rw [if_neg (by rw [i_lt]; show ¬ r.toInt < 0; omega)]
  repeat' with_reducible (first | apply okP.bind | apply okP.some | (apply okP.ite <;> intro _) | refine okP.aget ?_ ?_ (fun v hv => ?_) | refine okP.aset ?_ ?_ ?_)
  · exact q1
  · omega
  · trivial
theorem avt_ok {n : Int32} {o : Ob} (h : Sh n o) {x : Int32} (hx : 0 ≤ x.toInt) (hx16 : x.toInt < 16) : okP (F17 o x) (fun _ => True) := by
  obtain ⟨h1, h2, h3, h4, h5, h6, h7, h8, h9, h10⟩ := h
  unfold F17
  repeat' with_reducible (first | apply okP.bind | apply okP.some | (apply okP.ite <;> intro _) | refine okP.aget ?_ ?_ (fun v hv => ?_) | refine okP.aset ?_ ?_ ?_)
  · exact hx
  · omega
  · trivial
  · exact hx
  · omega
  · trivial
theorem avf_ok {n : Int32} {o : Ob} (h : Sh n o) (h0 : 0 ≤ n.toInt) (h16 : n.toInt ≤ 16) (x : Int32) : okP (F15 o x) (fun _ => True) := by
  unfold F15
  apply okP.bind
  refine okP.mono (slot_ok h h0 h16 x) ?_
  rintro r (rfl | ⟨q1, q2, _⟩)
  · rw [if_pos (by decide)]; exact okP.some trivial
  rw [if_neg (by rw [i_lt]; show ¬ r.toInt < 0; omega)]
  have t := avt_ok h q1 (by omega)
  obtain ⟨h1, h2, h3, h4, h5, h6, h7, h8, h9, h10⟩ := h
  repeat' with_reducible (first | apply okP.bind | apply okP.some | (apply okP.ite <;> intro _) | refine okP.aget ?_ ?_ (fun v hv => ?_) | refine okP.aset ?_ ?_ ?_)
  · exact q1
  · omega
  · exact okP.mono t (fun _ _ => okP.some trivial)
  · trivial
theorem hasPerm_ok {n : Int32} {o : Ob} (h : Sh n o) {x : Int32} (hx : 0 ≤ x.toInt) (hx16 : x.toInt < 16) (y : Int32) : okP (F31 o x y) (fun _ => True) := by
  have p := pidx (y := y) hx hx16
  obtain ⟨h1, h2, h3, h4, h5, h6, h7, h8, h9, h10⟩ := h
  unfold F31
  repeat' with_reducible (first | apply okP.bind | apply okP.some | (apply okP.ite <;> intro _) | refine okP.aget ?_ ?_ (fun v hv => ?_) | refine okP.aset ?_ ?_ ?_)
  · exact p.1
  · omega
  · trivial
  · trivial
theorem permits_ok {n : Int32} {o : Ob} (h : Sh n o) (h0 : 0 ≤ n.toInt) (h16 : n.toInt ≤ 16) (x y : Int32) : okP (F16 o x y) (fun _ => True) := by
  unfold F16
  apply okP.bind
  refine okP.mono (liveAt_ok h h0 h16 x) ?_
  rintro r (rfl | ⟨q1, q2⟩)
  · rw [if_pos (by decide)]; exact okP.some trivial
  rw [if_neg (by rw [i_lt]; show ¬ r.toInt < 0; omega)]
  repeat' with_reducible (first | apply okP.bind | apply okP.some | (apply okP.ite <;> intro _) | refine okP.aget ?_ ?_ (fun v hv => ?_) | refine okP.aset ?_ ?_ ?_)
  · trivial
  · trivial
  · exact okP.mono (hasPerm_ok h q1 (by omega) _) (fun _ _ => okP.some trivial)
theorem liveCount_ok {n : Int32} {o : Ob} (h : Sh n o) (h0 : 0 ≤ n.toInt) (h16 : n.toInt ≤ 16) : okP (F5 o) (fun _ => True) := by
  obtain ⟨h1, h2, h3, h4, h5, h6, h7, h8, h9, h10⟩ := h
  unfold F5
  apply okP.bind
  refine okP.loop (fun w => 0 ≤ w.2.toInt ∧ w.2.toInt ≤ n.toInt) (fun w => (16 - w.2.toInt).toNat) ⟨by show (0 : Int) ≤ 0; decide, h0⟩ (by show (16 - (0 : Int)).toNat < 4000; decide) ?_
  rintro ⟨a, w⟩ ⟨a1, a2⟩
  simp only at a1 a2
  unfold B5_4
  rw [h10]
  apply okP.ite
  · intro c
    rw [i_lt] at c
    simp only at c
    have e2 : (w + 1).toInt = w.toInt + 1 := inc1 (by omega)
    apply okP.bind
    refine okP.aget a1 (by simp only; omega) (fun v hv => ?_)
    apply okP.some
    exact ⟨⟨by simp only; omega, by simp only; omega⟩, by simp only; omega⟩
  · intro _
    apply okP.some
    exact okP.some trivial
theorem find_ok {n : Int32} {o : Ob} (h : Sh n o) (h0 : 0 ≤ n.toInt) (h16 : n.toInt ≤ 16) (x y z : Int32) : okP (F24 o x y z) (fun r => r = -1 ∨ (0 ≤ r.toInt ∧ r.toInt < n.toInt)) := by
  obtain ⟨h1, h2, h3, h4, h5, h6, h7, h8, h9, h10⟩ := h
  unfold F24
  apply okP.bind
  refine okP.loop (fun w => 0 ≤ w.toInt ∧ w.toInt ≤ n.toInt) (fun w => (16 - w.toInt).toNat) ⟨by show (0 : Int) ≤ 0; decide, h0⟩ (by show (16 - (0 : Int)).toNat < 4000; decide) ?_
  intro w ⟨a1, a2⟩
  unfold B24_3 J24_58
  rw [h10]
  apply okP.ite
  · intro c
    rw [i_lt] at c
    have e2 : (w + 1).toInt = w.toInt + 1 := inc1 (by omega)
    have nx : (0 ≤ (w + 1).toInt ∧ (w + 1).toInt ≤ n.toInt) ∧ (16 - (w + 1).toInt).toNat < (16 - w.toInt).toNat := ⟨⟨by omega, by omega⟩, by omega⟩
    repeat' with_reducible (first | apply okP.bind | apply okP.some | (apply okP.ite <;> intro _) | refine okP.aget ?_ ?_ (fun v hv => ?_) | refine okP.aset ?_ ?_ ?_)
    all_goals first | exact nx | exact a1 | omega | exact okP.some (Or.inr ⟨a1, c⟩)
  · intro _
    apply okP.some
    exact okP.some (Or.inl rfl)
theorem alloc_ok {n : Int32} {o : Ob} (h : Sh n o) (h0 : 0 ≤ n.toInt) (h16 : n.toInt ≤ 16) : okP (F25 o) (fun r => r = -1 ∨ (0 ≤ r.toInt ∧ r.toInt < n.toInt)) := by
  unfold F25
  apply okP.bind
  refine okP.loop (fun w => 0 ≤ w.toInt ∧ w.toInt ≤ n.toInt) (fun w => (16 - w.toInt).toNat) ⟨by show (0 : Int) ≤ 0; decide, h0⟩ (by show (16 - (0 : Int)).toNat < 4000; decide) ?_
  intro w ⟨a1, a2⟩
  unfold B25_2 J25_33
  rw [h.2.2.2.2.2.2.2.2.2]
  apply okP.ite
  · intro c
    rw [i_lt] at c
    have e2 : (w + 1).toInt = w.toInt + 1 := inc1 (by omega)
    have nx : (0 ≤ (w + 1).toInt ∧ (w + 1).toInt ≤ n.toInt) ∧ (16 - (w + 1).toInt).toNat < (16 - w.toInt).toNat := ⟨⟨by omega, by omega⟩, by omega⟩
    apply okP.bind
    refine okP.aget a1 (by rw [h.1]; omega) (fun v hv => ?_)
    apply okP.ite
    · intro _
      apply okP.bind
      refine okP.mono (avt_ok h a1 (by omega)) (fun _ _ => ?_)
      apply okP.ite
      · intro _; exact okP.some nx
      · intro _; exact okP.some (okP.some (Or.inr ⟨a1, c⟩))
    · intro _; exact okP.some nx
  · intro _
    apply okP.some
    exact okP.some (Or.inl rfl)
theorem clearPerm_ok {n : Int32} {o : Ob} (h : Sh n o) {x : Int32} (hx : 0 ≤ x.toInt) (hx16 : x.toInt < 16) : okP (F27 o x) (fun r => ∃ p, p.length = 64 ∧ r = s_perm o p) := by
  unfold F27
  have e4 : (x * 4).toInt = x.toInt * 4 := i_mul (x := x) (y := 4) (by show _ ≤ x.toInt * 4; omega) (by show x.toInt * 4 < _; omega)
  have z4 : (4 : Int32).toInt = 4 := rfl
  apply okP.bind
  refine okP.loop (fun w => 0 ≤ w.1.toInt ∧ w.1.toInt ≤ 4 ∧ ∃ p, p.length = 64 ∧ w.2 = s_perm o p) (fun w => (4 - w.1.toInt).toNat) ⟨by show (0 : Int) ≤ 0; decide, by show (0 : Int) ≤ 4; decide, f_perm o, Sh_l_perm h, rfl⟩ (by show (4 - (0 : Int)).toNat < 4000; decide) ?_
  rintro ⟨w, p⟩ ⟨a1, a2, b, a3, a4⟩
  simp only at a1 a2 a4
  subst a4
  unfold B27_6
  apply okP.ite
  · intro c
    rw [i_lt, z4] at c
    simp only at c
    have e2 : (w + 1).toInt = w.toInt + 1 := inc1 (by omega)
    have e5 : (x * 4 + w).toInt = x.toInt * 4 + w.toInt := by rw [i_add (by omega) (by omega), e4]
    apply okP.bind
    refine okP.aset (by simp only; omega) (by show _ < (b.length : Int); simp only; omega) ?_
    apply okP.some
    exact ⟨⟨by simp only; omega, by simp only; omega, _, by rw [List.length_set]; exact a3, rfl⟩, by simp only; omega⟩
  · intro _
    apply okP.some
    exact okP.some ⟨b, a3, rfl⟩
theorem open_ok {n : Int32} {o : Ob} (h : Sh n o) {x : Int32} (hx : 0 ≤ x.toInt) (hx16 : x.toInt < 16) (a b c : Int32) : okP (F26 o x a b c) (fun r => Sh n r) := by
  obtain ⟨h1, h2, h3, h4, h5, h6, h7, h8, h9, h10⟩ := id h
  unfold F26
  repeat' with_reducible (first | apply okP.bind | apply okP.some | (apply okP.ite <;> intro _) | refine okP.aget ?_ ?_ (fun v hv => ?_) | refine okP.aset ?_ ?_ ?_)
  · exact hx
  · omega
  · exact hx
  · omega
  · exact hx
  · omega
  · exact hx
  · omega
  · exact hx
  · omega
  · exact hx
  · omega
  have g : Sh n (s_deadlineAt (s_stateAt (s_iportOf (s_hostOf (s_protoOf (s_live o ((f_live o).set x.toInt.toNat 1)) ((f_protoOf o).set x.toInt.toNat a)) ((f_hostOf o).set x.toInt.toNat b)) ((f_iportOf o).set x.toInt.toNat c)) ((f_stateAt o).set x.toInt.toNat (if a = 17 then 0 else 1))) ((f_deadlineAt o).set x.toInt.toNat (f_clock o))) := by
    repeat' with_reducible (first | assumption | apply Sh_live | apply Sh_used | apply Sh_freedAt | apply Sh_protoOf | apply Sh_hostOf | apply Sh_iportOf | apply Sh_stateAt | apply Sh_deadlineAt | apply Sh_perm | apply Sh_udpTimeout | apply Sh_tcpTimeout | apply Sh_cooldown | apply Sh_clock | apply Sh_remAddr | apply Sh_remPort | apply Sh_regHost | apply Sh_regPort | apply Sh_regExt)
    all_goals rw [List.length_set]; assumption
  refine okP.mono (clearPerm_ok g hx hx16) ?_
  rintro _ ⟨p, hp, rfl⟩
  apply okP.some
  exact Sh_perm g hp
theorem addPerm_ok {n : Int32} {o : Ob} (h : Sh n o) {x : Int32} (hx : 0 ≤ x.toInt) (hx16 : x.toInt < 16) (y : Int32) : okP (F28 o x y) (fun r => Sh n r) := by
  have p := pidx (y := y) hx hx16
  have h9 := Sh_l_perm h
  unfold F28
  repeat' with_reducible (first | apply okP.bind | apply okP.some | (apply okP.ite <;> intro _) | refine okP.aget ?_ ?_ (fun v hv => ?_) | refine okP.aset ?_ ?_ ?_)
  · exact p.1
  · omega
  · exact p.1
  · omega
  · exact Sh_perm h (by rw [List.length_set]; exact h9)
theorem release_ok {n : Int32} {o : Ob} (h : Sh n o) {x : Int32} (hx : 0 ≤ x.toInt) (hx16 : x.toInt < 16) (y : Int32) : okP (F32 o x y) (fun r => Sh n r) := by
  obtain ⟨h1, h2, h3, h4, h5, h6, h7, h8, h9, h10⟩ := id h
  unfold F32
  repeat' with_reducible (first | apply okP.bind | apply okP.some | (apply okP.ite <;> intro _) | refine okP.aget ?_ ?_ (fun v hv => ?_) | refine okP.aset ?_ ?_ ?_)
  · exact hx
  · omega
  · exact hx
  · omega
  · exact hx
  · omega
  have g : Sh n (s_freedAt (s_used (s_live o ((f_live o).set x.toInt.toNat 0)) ((f_used o).set x.toInt.toNat 1)) ((f_freedAt o).set x.toInt.toNat y)) := by
    repeat' with_reducible (first | assumption | apply Sh_live | apply Sh_used | apply Sh_freedAt | apply Sh_protoOf | apply Sh_hostOf | apply Sh_iportOf | apply Sh_stateAt | apply Sh_deadlineAt | apply Sh_perm | apply Sh_udpTimeout | apply Sh_tcpTimeout | apply Sh_cooldown | apply Sh_clock | apply Sh_remAddr | apply Sh_remPort | apply Sh_regHost | apply Sh_regPort | apply Sh_regExt)
    all_goals rw [List.length_set]; assumption
  refine okP.mono (clearPerm_ok g hx hx16) ?_
  rintro _ ⟨p, hp, rfl⟩
  apply okP.some
  exact Sh_perm g hp
theorem upd1_ok {n : Int32} {o : Ob} (h : Sh n o) {x : Int32} (hx : 0 ≤ x.toInt) (hx16 : x.toInt < 16) (y : Int32) : okP (J29_112 o x y) (fun r => Sh n r) := by
  obtain ⟨h1, h2, h3, h4, h5, h6, h7, h8, h9, h10⟩ := id h
  have h8' : ∀ z : List Int32, f_deadlineAt (s_stateAt o z) = f_deadlineAt o := fun _ => rfl
  unfold J29_112 F30
  apply okP.bind
  refine okP.aset hx (by omega) ?_
  obtain ⟨p, hp⟩ : ∃ p, p = s_stateAt o ((f_stateAt o).set x.toInt.toNat y) := ⟨_, rfl⟩
  have g : Sh n p := by rw [hp]; exact Sh_stateAt h (by rw [List.length_set]; exact h7)
  rw [← hp]
  have g8 := Sh_l_deadlineAt g
  apply okP.bind
  have fin : ∀ w : Int32, okP (Option.some w) fun a => okP ((aset (f_deadlineAt p) x (f_clock o + a)).bind fun y176 => some (s_deadlineAt p y176)) fun r => Sh n r := by
    intro w
    apply okP.some
    apply okP.bind
    refine okP.aset hx (by omega) ?_
    apply okP.some
    exact Sh_deadlineAt g (by rw [List.length_set]; exact g8)
  apply okP.ite <;> intro _
  · exact fin _
  apply okP.ite <;> intro _
  · exact fin _
  · exact fin _
theorem update_ok {n : Int32} {o : Ob} (h : Sh n o) {x : Int32} (hx : 0 ≤ x.toInt) (hx16 : x.toInt < 16) (y z : Int32) : okP (F29 o x y z) (fun r => Sh n r) := by
  have h7 := Sh_l_stateAt h
  unfold F29 J29_89
  apply okP.ite <;> intro _
  · apply okP.bind
    refine okP.aget hx (by omega) (fun v hv => ?_)
    apply okP.ite <;> intro _
    · apply okP.ite <;> intro _
      · exact upd1_ok h hx hx16 _
      · apply okP.ite <;> intro _
        · exact upd1_ok h hx hx16 _
        · exact upd1_ok h hx hx16 _
    · exact upd1_ok h hx hx16 _
  · apply okP.bind
    exact okP.mono (release_ok h hx hx16 _) (fun _ q => okP.some q)
theorem liveSlot_ok {n : Int32} {o : Ob} (h : Sh n o) (h0 : 0 ≤ n.toInt) (h16 : n.toInt ≤ 16) (x y : Int32) : okP (F23 o x y) (fun r => r = -1 ∨ (0 ≤ r.toInt ∧ r.toInt < n.toInt)) := by
  unfold F23
  apply okP.bind
  refine okP.mono (liveAt_ok h h0 h16 x) ?_
  rintro r (rfl | ⟨q1, q2⟩)
  · rw [if_pos (by decide)]; exact okP.some (Or.inl rfl)
  rw [if_neg (by rw [i_lt]; show ¬ r.toInt < 0; omega)]
  obtain ⟨h1, h2, h3, h4, h5, h6, h7, h8, h9, h10⟩ := id h
  repeat' with_reducible (first | apply okP.bind | apply okP.some | (apply okP.ite <;> intro _) | refine okP.aget ?_ ?_ (fun v hv => ?_) | refine okP.aset ?_ ?_ ?_)
  · exact q1
  · omega
  · exact Or.inr ⟨q1, q2⟩
  · exact Or.inl rfl
theorem hairpin_ok {n : Int32} {o : Ob} (h : Sh n o) (h0 : 0 ≤ n.toInt) (h16 : n.toInt ≤ 16) (x y : Int32) : okP (F33 o x y) (fun r => Sh n r.2 ∧ 0 ≤ r.1.toInt) := by
  unfold F33 J33_25
  have dr : okP (some ((4 : Int32), s_regPort (s_regHost o (-1)) (-1))) (fun r => Sh n r.2 ∧ 0 ≤ r.1.toInt) := okP.some ⟨Sh_regPort (Sh_regHost h), by show (0 : Int) ≤ 4; decide⟩
  apply okP.bind
  refine okP.mono (liveSlot_ok h h0 h16 _ _) ?_
  rintro r (rfl | ⟨q1, q2⟩)
  · rw [if_pos (by decide)]; exact dr
  rw [if_neg (by rw [i_lt]; show ¬ r.toInt < 0; omega)]
  obtain ⟨h1, h2, h3, h4, h5, h6, h7, h8, h9, h10⟩ := id h
  apply okP.bind
  refine okP.mono (hasPerm_ok h q1 (by omega) _) (fun _ _ => ?_)
  apply okP.ite <;> intro _
  · exact dr
  apply okP.bind
  refine okP.aget q1 (by omega) (fun v hv => ?_)
  apply okP.bind
  refine okP.aget q1 (by omega) (fun w hw => ?_)
  apply okP.bind
  refine okP.mono (update_ok (Sh_regPort (Sh_regHost h)) q1 (by omega) _ _) (fun _ q => ?_)
  exact okP.some ⟨q, by show (0 : Int) ≤ 3; decide⟩
theorem out3_ok {n : Int32} {o : Ob} (h : Sh n o) (h0 : 0 ≤ n.toInt) (h16 : n.toInt ≤ 16) {x : Int32} (hx : 0 ≤ x.toInt) (hx16 : x.toInt < n.toInt) (y z : Int32) : okP (J19_103 o y z x) (fun r => Sh n r.2 ∧ 0 ≤ r.1.toInt) := by
  unfold J19_103
  apply okP.bind
  refine okP.mono (addPerm_ok h hx (by omega) _) (fun p hp => ?_)
  apply okP.bind
  refine okP.mono (update_ok hp hx (by omega) _ _) (fun q hq => ?_)
  apply okP.ite <;> intro _
  · apply okP.bind
    refine okP.mono (hairpin_ok (Sh_regExt hq) h0 h16 _ _) (fun r hr => ?_)
    exact okP.some hr
  · exact okP.some ⟨Sh_regPort (Sh_regHost (Sh_regExt hq)), by show (0 : Int) ≤ 1; decide⟩
theorem outbound_ok {n : Int32} {o : Ob} (h : Sh n o) (h0 : 0 ≤ n.toInt) (h16 : n.toInt ≤ 16) (x y z w : Int32) : okP (F19 o x y z w) (fun r => Sh n r.2 ∧ (r.1.toInt < 0 → r.2 = o)) := by
  have ref : ∀ c : Int32, okP (some (c, o)) (fun r => Sh n r.2 ∧ (r.1.toInt < 0 → r.2 = o)) := fun c => okP.some ⟨h, fun _ => rfl⟩
  have j3 : ∀ p : Ob, Sh n p → ∀ s : Int32, 0 ≤ s.toInt → s.toInt < n.toInt → okP (J19_103 p z w s) (fun r => Sh n r.2 ∧ (r.1.toInt < 0 → r.2 = o)) := fun p hp s s0 s1 => okP.mono (out3_ok hp h0 h16 s0 s1 _ _) (fun r hr => ⟨hr.1, fun q => by have := hr.2; omega⟩)
  have j8 : okP (J19_80 o x y z w) (fun r => Sh n r.2 ∧ (r.1.toInt < 0 → r.2 = o)) := by
    unfold J19_80
    apply okP.bind
    refine okP.mono (alloc_ok h h0 h16) ?_
    rintro r (rfl | ⟨q1, q2⟩)
    · rw [if_pos (by decide)]; exact ref _
    rw [if_neg (by rw [i_lt]; show ¬ r.toInt < 0; omega)]
    apply okP.bind
    exact okP.mono (open_ok h q1 (by omega) _ _ _) (fun p hp => j3 p hp r q1 q2)
  have pf : okP (F20 z w) (fun _ => True) := by
    unfold F20 J20_14
    repeat' with_reducible (first | apply okP.bind | apply okP.some | (apply okP.ite <;> intro _) | refine okP.aget ?_ ?_ (fun v hv => ?_) | refine okP.aset ?_ ?_ ?_)
    all_goals trivial
  unfold F19
  apply okP.ite <;> intro _
  · exact ref _
  refine okP.ite ?_ (fun _ => ref _)
  intro _
  apply okP.ite <;> intro _
  · exact ref _
  apply okP.ite <;> intro _
  · exact ref _
  apply okP.bind
  refine okP.mono pf (fun _ _ => ?_)
  apply okP.ite <;> intro _
  · exact ref _
  apply okP.ite <;> intro _
  · exact ref _
  apply okP.bind
  refine okP.mono (find_ok h h0 h16 _ _ _) ?_
  rintro r (rfl | ⟨q1, q2⟩)
  · rw [if_pos (by decide)]
    apply okP.ite <;> intro _
    · apply okP.ite <;> intro _
      · exact ref _
      apply okP.ite <;> intro _
      · exact j8
      · exact ref _
    · exact j8
  · rw [if_neg (by rw [i_lt]; show ¬ r.toInt < 0; omega)]
    exact j3 o h r q1 q2
theorem inbound_ok {n : Int32} {o : Ob} (h : Sh n o) (h0 : 0 ≤ n.toInt) (h16 : n.toInt ≤ 16) (x y z : Int32) : okP (F22 o x y z) (fun r => Sh n r.2 ∧ (r.1.toInt < 0 → r.2 = o)) := by
  have ref : ∀ c : Int32, okP (some (c, o)) (fun r => Sh n r.2 ∧ (r.1.toInt < 0 → r.2 = o)) := fun c => okP.some ⟨h, fun _ => rfl⟩
  have pf : okP (F20 y z) (fun _ => True) := by
    unfold F20 J20_14
    repeat' with_reducible (first | apply okP.bind | apply okP.some | (apply okP.ite <;> intro _) | refine okP.aget ?_ ?_ (fun v hv => ?_) | refine okP.aset ?_ ?_ ?_)
    all_goals trivial
  unfold F22
  apply okP.bind
  refine okP.mono pf (fun _ _ => ?_)
  apply okP.ite <;> intro _
  · exact ref _
  apply okP.ite <;> intro _
  · exact ref _
  apply okP.ite <;> intro _
  · exact ref _
  apply okP.bind
  refine okP.mono (liveSlot_ok h h0 h16 _ _) ?_
  rintro r (rfl | ⟨q1, q2⟩)
  · rw [if_pos (by decide)]; exact ref _
  rw [if_neg (by rw [i_lt]; show ¬ r.toInt < 0; omega)]
  obtain ⟨h1, h2, h3, h4, h5, h6, h7, h8, h9, h10⟩ := id h
  apply okP.bind
  refine okP.mono (hasPerm_ok h q1 (by omega) _) (fun _ _ => ?_)
  apply okP.ite <;> intro _
  · exact ref _
  apply okP.bind
  refine okP.aget q1 (by omega) (fun v hv => ?_)
  apply okP.bind
  refine okP.aget q1 (by omega) (fun w hw => ?_)
  apply okP.bind
  refine okP.mono (update_ok (Sh_regExt (Sh_regPort (Sh_regHost h))) q1 (by omega) _ _) (fun _ q => ?_)
  exact okP.some ⟨q, fun q => absurd q (by show ¬ (2 : Int) < 0; decide)⟩
theorem advance_ok {n : Int32} {o : Ob} (h : Sh n o) (h0 : 0 ≤ n.toInt) (h16 : n.toInt ≤ 16) (x : Int32) : okP (F18 o x) (fun r => Sh n r.2 ∧ (r.1 = 0 → r.2 = o)) := by
  unfold F18
  apply okP.ite <;> intro _
  · exact okP.some ⟨h, fun _ => rfl⟩
  apply okP.ite <;> intro _
  · exact okP.some ⟨h, fun _ => rfl⟩
  apply okP.bind
  have g : Sh n (s_clock o (f_clock o + x)) := Sh_clock h
  obtain ⟨p, hp⟩ : ∃ p, p = s_clock o (f_clock o + x) := ⟨_, rfl⟩
  rw [← hp] at g ⊢
  refine okP.loop (fun w => 0 ≤ w.1.toInt ∧ w.1.toInt ≤ n.toInt ∧ Sh n w.2) (fun w => (16 - w.1.toInt).toNat) ⟨by show (0 : Int) ≤ 0; decide, h0, g⟩ (by show (16 - (0 : Int)).toNat < 4000; decide) ?_
  rintro ⟨w, q⟩ ⟨a1, a2, a3⟩
  simp only at a1 a2 a3
  unfold B18_25 J18_66
  simp only
  obtain ⟨h1, h2, h3, h4, h5, h6, h7, h8, h9, h10⟩ := id a3
  rw [h10]
  apply okP.ite
  · intro c
    rw [i_lt] at c
    have e2 : (w + 1).toInt = w.toInt + 1 := inc1 (by omega)
    have nx : ∀ r : Ob, Sh n r → (0 ≤ (w + 1).toInt ∧ (w + 1).toInt ≤ n.toInt ∧ Sh n r) ∧ (16 - (w + 1).toInt).toNat < (16 - w.toInt).toNat := fun r hr => ⟨⟨by omega, by omega, hr⟩, by omega⟩
    apply okP.bind
    refine okP.aget a1 (by omega) (fun v hv => ?_)
    apply okP.ite <;> intro _
    · exact okP.some (nx _ a3)
    apply okP.bind
    refine okP.aget a1 (by omega) (fun v hv => ?_)
    apply okP.ite <;> intro _
    · exact okP.some (nx _ a3)
    apply okP.bind
    refine okP.aget a1 (by omega) (fun v hv => ?_)
    apply okP.bind
    exact okP.mono (release_ok a3 a1 (by omega) _) (fun r hr => okP.some (nx _ hr))
  · intro _
    apply okP.some
    exact okP.some ⟨a3, fun q => absurd q (by show ¬ (1 : Int32) = 0; decide)⟩

theorem fp_ok {n : Int32} {o : Ob} (h : Sh n o) (h0 : 0 ≤ n.toInt) (h16 : n.toInt ≤ 16) : okP (F3 o) (fun _ => True) := by
  unfold F3 F4 F6 F7 F8
  simp only [Option.bind_some]
  apply okP.bind
  refine okP.mono (liveCount_ok h h0 h16) (fun _ _ => ?_)
  apply okP.bind
  have z1 : (255 : Int32).toInt = 255 := rfl
  have z2 : (5004 : Int32).toInt = 5004 := rfl
  refine okP.loop (fun w => 4999 ≤ w.2.toInt ∧ w.2.toInt ≤ 5005) (fun w => (5005 - w.2.toInt).toNat) ⟨by show (4999 : Int) ≤ 4999; decide, by show (4999 : Int) ≤ 5005; decide⟩ (by show (5005 - (4999 : Int)).toNat < 4000; decide) ?_
  rintro ⟨a, w⟩ ⟨a1, a2⟩
  simp only at a1 a2
  unfold B3_68
  simp only
  apply okP.ite
  · intro _
    apply okP.some
    exact okP.some trivial
  intro c
  rw [i_lt, z2] at c
  have e2 : (w + 1).toInt = w.toInt + 1 := inc1 (by omega)
  apply okP.bind
  refine okP.mono (iho_ok h h0 h16 _) (fun _ _ => ?_)
  apply okP.bind
  refine okP.mono (ipo_ok h h0 h16 _) (fun _ _ => ?_)
  apply okP.bind
  refine okP.mono (sto_ok h h0 h16 _) (fun _ _ => ?_)
  apply okP.bind
  refine okP.mono (dlo_ok h h0 h16 _) (fun _ _ => ?_)
  apply okP.bind
  refine okP.mono (avf_ok h h0 h16 _) (fun _ _ => ?_)
  apply okP.bind
  refine okP.loop (fun w => 250 ≤ w.2.toInt ∧ w.2.toInt ≤ 256) (fun w => (256 - w.2.toInt).toNat) ⟨by show (250 : Int) ≤ 250; decide, by show (250 : Int) ≤ 256; decide⟩ (by show (256 - (250 : Int)).toNat < 4000; decide) ?_
  rintro ⟨b, u⟩ ⟨b1, b2⟩
  simp only at b1 b2
  unfold B3_145
  simp only
  apply okP.ite
  · intro _
    apply okP.some
    apply okP.some
    exact ⟨⟨by simp only; omega, by simp only; omega⟩, by simp only; omega⟩
  intro c
  rw [i_lt, z1] at c
  have e3 : (u + 1).toInt = u.toInt + 1 := inc1 (by omega)
  apply okP.bind
  refine okP.mono (permits_ok h h0 h16 _ _) (fun _ _ => ?_)
  apply okP.some
  exact ⟨⟨by simp only; omega, by simp only; omega⟩, by simp only; omega⟩
theorem law_ok (s : List Int32) (hs : s.length ≤ 260) : ∃ τ, F0 s = some (1, τ) ∧ τ.length - List.length ([Sum.inr (Sum.inl (FieldType.int, s))] : QHeap) ≤ room_1.cells ∧ qhs τ - qhs [Sum.inr (Sum.inl (FieldType.int, s))] ≤ room_1.slots := by
  have h4 : (4 : Int32).toInt ≤ 16 := by decide
  have h40 : 0 ≤ (4 : Int32).toInt := by decide
  obtain ⟨o, ho, hS⟩ : ∃ o, F1 4 50 100 5 = some o ∧ Sh 4 o := ⟨_, rfl, by refine ⟨?_, ?_, ?_, ?_, ?_, ?_, ?_, ?_, ?_, rfl⟩ <;> exact List.length_replicate⟩
  have hl := len_i (n := s.length) (by omega)
  have key : okP (loopN (B0_16 s) qN (0, o)) (fun e => e.1 = 1 ∧ sFit s e.2) := by
    refine okP.loop (fun v => 0 ≤ v.1.toInt ∧ v.1.toInt ≤ 260 ∧ Sh 4 v.2) (fun v => (264 - v.1.toInt).toNat) ⟨by show (0 : Int) ≤ 0; decide, by show (0 : Int) ≤ 260; decide, hS⟩ (by show (264 - (0 : Int)).toNat < 4000; decide) ?_
    rintro ⟨i, o⟩ ⟨a1, a2, a4⟩
    simp only at a1 a2 a4
    unfold B0_16
    have e1 : (1 : Int32).toInt = 1 := rfl
    have e2 : (2 : Int32).toInt = 2 := rfl
    have e3 : (3 : Int32).toInt = 3 := rfl
    have e4 : (4 : Int32).toInt = 4 := rfl
    have i1 : (i + 1).toInt = i.toInt + 1 := by rw [i_add (by omega) (by omega), e1]
    have i2 : (i + 2).toInt = i.toInt + 2 := by rw [i_add (by omega) (by omega), e2]
    have i3 : (i + 3).toInt = i.toInt + 3 := by rw [i_add (by omega) (by omega), e3]
    have i4 : (i + 4).toInt = i.toInt + 4 := by rw [i_add (by omega) (by omega), e4]
    simp only
    apply okP.ite
    · intro c
      rw [i_lt, hl] at c
      obtain ⟨f, hf, _⟩ := fp_ok a4 h40 h4
      have rest : ∀ (p : Ob) (g : Int32), Sh 4 p → (g ≠ 0 → p = o) → okP (J0_245 s p i f g) (fun r => Sum.elim (fun e => e.1 = 1 ∧ sFit s e.2) (fun v' => (0 ≤ v'.1.toInt ∧ v'.1.toInt ≤ 260 ∧ Sh 4 v'.2) ∧ (264 - v'.1.toInt).toNat < (264 - i.toInt).toNat) r) := by
        intro p g hp hg
        have fin : okP (J0_262 s p i) (fun r => Sum.elim (fun e => e.1 = 1 ∧ sFit s e.2) (fun v' => (0 ≤ v'.1.toInt ∧ v'.1.toInt ≤ 260 ∧ Sh 4 v'.2) ∧ (264 - v'.1.toInt).toNat < (264 - i.toInt).toNat) r) := by
          unfold J0_262
          apply okP.some
          exact ⟨⟨by simp only; omega, by simp only; omega, hp⟩, by simp only; omega⟩
        unfold J0_245
        apply okP.ite
        · intro _; exact fin
        · intro g0
          rw [hg g0] at fin ⊢
          rw [hf]
          simp only [Option.bind_some, if_true]
          exact fin
      apply okP.bind
      refine okP.aget (by omega) (by omega) (fun y0 _ => ?_)
      apply okP.bind
      refine okP.aget (by omega) (by omega) (fun y1 _ => ?_)
      apply okP.bind
      refine okP.aget (by omega) (by omega) (fun y2 _ => ?_)
      apply okP.bind
      refine okP.aget (by omega) (by omega) (fun y3 _ => ?_)
      apply okP.bind
      refine okP.of hf ?_
      apply okP.ite
      · intro _
        apply okP.bind
        generalize (250 : Int32) + (y1 &&& 7) = u
        generalize (4998 : Int32) + (y2 &&& 7) = w
        have : okP (F21 o u w) (fun r => Sh 4 r.2 ∧ (r.1 = 0 → r.2 = o)) := by
          unfold F21
          have ref : okP (some ((0 : Int32), o)) (fun r => Sh 4 r.2 ∧ (r.1 = 0 → r.2 = o)) := okP.some ⟨a4, fun _ => rfl⟩
          apply okP.ite <;> intro _
          · exact ref
          apply okP.ite <;> intro _
          · exact ref
          apply okP.ite <;> intro _
          · exact ref
          apply okP.ite <;> intro _
          · exact ref
          exact okP.some ⟨Sh_remPort (Sh_remAddr a4), fun q => absurd q (by show ¬ (1 : Int32) = 0; decide)⟩
        refine okP.mono this (fun r hr => rest _ _ hr.1 (fun q => hr.2 ?_))
        by_cases z : r.1 = 0
        · exact z
        · rw [if_neg z] at q; exact absurd rfl q
      intro _
      apply okP.ite
      · intro _
        apply okP.bind
        refine okP.mono (outbound_ok a4 h40 h4 _ _ _ _) (fun r hr => rest _ _ hr.1 (fun q => hr.2 ?_))
        by_cases z : r.1 < 0
        · rw [i_lt] at z; exact z
        · rw [if_neg z] at q; exact absurd rfl q
      intro _
      apply okP.ite
      · intro _
        apply okP.bind
        refine okP.mono (inbound_ok a4 h40 h4 _ _ _) (fun r hr => rest _ _ hr.1 (fun q => hr.2 ?_))
        by_cases z : r.1 < 0
        · rw [i_lt] at z; exact z
        · rw [if_neg z] at q; exact absurd rfl q
      · intro _
        apply okP.bind
        refine okP.mono (advance_ok a4 h40 h4 _) (fun r hr => rest _ _ hr.1 (fun q => hr.2 ?_))
        by_cases z : r.1 = 0
        · exact z
        · rw [if_neg z] at q; exact absurd rfl q
    · intro c
      apply okP.some
      obtain ⟨z1, z2, z3, z4, z5, z6, z7, z8, z9, _⟩ := a4
      refine ⟨rfl, by show 11 - 1 ≤ _; decide, ?_⟩
      simp only [H0, qhs, qsz, z1, z2, z3, z4, z5, z6, z7, z8, z9]
      show _ ≤ _
      simp only [cN, room_1]
      omega
  unfold F0
  rw [ho]
  simp only [Option.bind_some]
  obtain ⟨⟨r, τ⟩, q1, q2, q3⟩ := key
  rw [q1]
  simp only at q2
  subst q2
  exact ⟨τ, rfl, q3⟩
set_option maxRecDepth 65536 in
theorem comes_1 {Post : Tables → Env → Array Value → State → Outcome → State → Prop} (hpost : ∀ tb e args s v u, (limb_1_1.after args s (.returned v) u = true ∧ limb_1_2.after args s (.returned v) u = true ∧ True) → FrameEnd s (.returned v) u (Jvm.fieldLocs frame_1_writes args s ++ Jvm.arrayLocs frame_1_arrays args s ++ Jvm.staticLocs frame_1_statics s) 32 512 → Post tb e args s (.returned v) u) :
    ArmFor flags0 classFile x code maxLocals ret World_1 tables_1 room_1 Calls_1 rest_1 Pre_1 Post := by
  intro l hfl _ _ p e ha hc hk s m args below hf hA hF happ hP
  obtain ⟨hcalls, hrest, hpre⟩ := hP
  obtain ⟨-, -, -, hnamed, -, -, -, hat⟩ := (Spec.applies_iff hf).mp happ
  obtain ⟨hg, hn⟩ := and_e (Cond.before_iff.mp (show (Jvm.Cond.and given_1 narrow_1).before args s = true from hpre))
  obtain ⟨g0, g1⟩ := and_e hg
  obtain ⟨w0, rfl⟩ : ∃ w0 : Value, args = #[w0] := by
    have hs : args.size = 1 := by simpa [Cond.value, given_1] using g0
    obtain ⟨L⟩ := args
    match L, hs with
    | [w0], _ => exact ⟨w0, rfl⟩
  have hw := fun d (hd : d ∈ tables_1) => atoms_spec (ws := Jvm.Cond.code x code maxLocals ret :: tables_1) hat d (List.mem_cons_of_mem _ hd)
  have hfit : Fit s := fun {y c} hc i hi => by
    obtain ⟨ha, rfl⟩ := Array.getElem?_eq_some_iff.mp hc
    have q := List.all_eq_true.mp ((Array.all_eq_true_iff_forall_mem.mp hF) _ (Array.getElem_mem ha)) i (List.mem_range.mpr hi)
    simpa [Array.getElem?_eq_getElem hi] using q
  obtain ⟨n1, n2⟩ := and_e hn
  obtain ⟨a, cl, xs, rfl, hA1, hA2, hlen⟩ := script_ok hfit n1 n2
  obtain ⟨τ, hF0, hc1, hs1⟩ := law_ok xs hlen
  have hlt := hA1.lt
  have Ad : QAd s.heap.size (fun k => match k with | 0 => a | k + 1 => s.heap.size + k) := ⟨fun k hk => by cases k with | zero => exact absurd hk (by decide) | succ k => rfl, fun i j h => by
    cases i with
    | zero => cases j with
      | zero => rfl
      | succ j => have h' : a = s.heap.size + j := h; exact absurd hA1.lt (by rw [h']; exact Nat.not_lt.mpr (Nat.le_add_right _ _))
    | succ i => cases j with
      | zero => have h' : s.heap.size + i = a := h; exact absurd hA1.lt (by rw [← h']; exact Nat.not_lt.mpr (Nat.le_add_right _ _))
      | succ j => have h' : s.heap.size + i = s.heap.size + j := h; omega⟩
  have hR : QRep s s.heap.size (fun k => match k with | 0 => a | k + 1 => s.heap.size + k) s.heap [.inr (.inl (.int, xs))] := ⟨Nat.le_refl _, rfl, fun k c h => by
    cases k with
    | zero => cases h; exact ⟨cl, hA1, hA2⟩
    | succ k => cases h⟩
  have T := tF0 (l := l) (Z := s) Ad (QW_ok hw) xs hF0
  have M := QTri.met (k := 0) (as := [.ref 0]) (by decide) T hR (Nat.le_of_ble_eq_true rfl) (fun q => by cases q) tables_1 (rm := room_1) (by decide) (by decide) hc1 hs1
  obtain ⟨n, o, h1, h2, h3, _, L, rfl, ⟨rfl, R', N⟩, hq⟩ := M p e ha hc hk s m _ below hf ((Spec.applies_iff_loose hf).mp happ).1 ⟨rfl, State.Warmed39.refl s, rfl⟩ trivial
  refine ⟨n, _, h1, h2, h3, hpost _ _ _ _ _ _ ⟨Cond.after_iff.mpr rfl, Cond.after_iff.mpr (eq_i res_at (Term.int_eval (1)) rfl), trivial⟩ ⟨hq.1, hq.2.1, (hq.2.2.sift fun y hy => Or.inr (N y hy)).mono hc1 hs1⟩⟩
theorem main_1_1 : Claimed_1_1 := comes_1 fun _ _ _ _ _ _ h hF => ⟨h.1, hF⟩
theorem main_1_2 : Claimed_1_2 := comes_1 fun _ _ _ _ _ _ h hF => ⟨h.2.1, hF⟩
end Jvm.Pilot.@@N@@
namespace Jvm.Pilot.@@N@@
open Jvm Jvm.ClassFile Sem Op Lib Jvm.Free Jvm.Stand Jvm.Pilot.@@N@@.Jvm.D
/-! MADE BY PROGRAM (witnessworld.py) out of the Statement's table words and the real class files: 13 classes; the members and pool entries that the words name. The judged class is class 1, her method 2. -/
namespace start1
open Jvm.ClassFile
def u (s : String) : CpInfo := .utf8 (stringToUtf16 s)
/-- a pool by its gaps: so many unusable entries, then the entry; so many at the end -/
def gap : Nat → List CpInfo → List CpInfo
  | 0, r => r
  | n + 1, r => .unusable :: gap n r
def poolList (es : List (Nat × CpInfo)) (last : Nat) : List CpInfo := es.foldr (fun e r => gap e.1 (e.2 :: r)) (gap last [])
def pool (es : List (Nat × CpInfo)) (last : Nat) : Array CpInfo := ⟨poolList es last⟩
def fileOf (pool : Array CpInfo) (this : Nat) (attrs : Array Attribute := #[]) (ms : Array MethodInfo := #[]) (fl : Nat := 33) (sup : Nat := 0) (ifs : Array Nat := #[]) (fds : Array FieldInfo := #[]) : ClassFile where
  minorVersion := 0
  majorVersion := 65
  constantPool := pool
  accessFlags := fl
  thisClass := this
  superClass := sup
  interfaces := ifs
  fields := fds
  methods := ms
  attributes := attrs
def plain (name : String) (sup : Option ClassId) : Class where
  name := name
  kind := .ordinary
  loader := none
  accessFlags := 33
  super := sup
  interfaces := #[]
  cf := none
  fields := #[]
  methods := #[]
  instanceTypes := #[]
  staticTypes := #[]
  resolved := #[]
  callSites := []
  init := .initialized
  statics := none
  mirror := none

def pool0 : Array CpInfo := pool [(5, u "<init>"), (0, u "()V"), (1, .class_ 10), (1, u "java/lang/Object")] 113

def k0c0 : Code := { maxStack := 0, maxLocals := 1, code := object_method_1_code, exceptionTable := #[], attributes := #[] }
def k0m0 : Method := { name := "<init>", desc := "()V", sig := { parameters := [], returnType := none }, accessFlags := 1, code := some k0c0 }
/-- java/lang/Object -/
def k0 : Class := { plain "java/lang/Object" none with
  accessFlags := 33
  interfaces := #[]
  cf := some (fileOf pool0 8 #[] #[{ accessFlags := 1, nameIndex := 5, descriptorIndex := 6, attributes := #[] }] 33 0 #[] #[])
  fields := #[]
  methods := #[k0m0]
  instanceTypes := #[]
  staticTypes := #[]
  resolved := Array.replicate 124 none
  statics := none }

def pool1 : Array CpInfo := pool [(2, .class_ 4), (1, u "java/lang/Object"), (0, u "<init>"), (0, u "()V"), (0, .long 17), (1, .long 1000003), (1, .methodref 12 13), (0, .class_ 14), (0, .nameAndType 15 16), (0, u "PortTranslator"), (0, u "now"), (0, u "()I"), (0, .methodref 12 18), (0, .nameAndType 19 16), (0, u "liveCount"), (0, .methodref 12 21), (0, .nameAndType 22 16), (0, u "resultHost"), (0, .methodref 12 24), (0, .nameAndType 25 16), (0, u "resultPort"), (0, .methodref 12 27), (0, .nameAndType 28 16), (0, u "resultExt"), (0, .methodref 12 30), (0, .nameAndType 31 32), (0, u "insideHostOf"), (0, u "(I)I"), (0, .methodref 12 34), (0, .nameAndType 35 32), (0, u "insidePortOf"), (0, .methodref 12 37), (0, .nameAndType 38 32), (0, u "stateOf"), (0, .methodref 12 40), (0, .nameAndType 41 32), (0, u "deadlineOf"), (0, .methodref 12 43), (0, .nameAndType 44 32), (0, u "availableFrom"), (0, .long 3), (1, .methodref 12 48), (0, .nameAndType 49 50), (0, u "permits"), (0, u "(II)Z"), (0, .methodref 12 52), (0, .nameAndType 5 53), (0, u "(IIII)V"), (0, .methodref 55 56), (0, .class_ 57), (0, .nameAndType 58 59), (0, u "PortTranslatorL7"), (0, u "fp"), (0, u "(LPortTranslator;)J"), (0, .methodref 12 61), (0, .nameAndType 62 50), (0, u "setRemote"), (0, .methodref 12 64), (0, .nameAndType 65 66), (0, u "outbound"), (0, u "(IIII)I"), (0, .methodref 12 68), (0, .nameAndType 69 70), (0, u "inbound"), (0, u "(III)I"), (0, .methodref 12 72), (0, .nameAndType 73 74), (0, u "advance"), (0, u "(I)Z"), (3, u "law"), (0, u "([I)Z")] 4

def k1m0 : Method := { name := "<init>", desc := "()V", sig := { parameters := [], returnType := none }, accessFlags := 1, code := none }
def k1c1 : Code := { maxStack := 5, maxLocals := 5, code := method_2_code, exceptionTable := #[], attributes := #[] }
def k1m1 : Method := { name := "fp", desc := "(LPortTranslator;)J", sig := { parameters := [(.object "PortTranslator")], returnType := some .long }, accessFlags := 10, code := some k1c1 }
def k1c2 : Code := { maxStack := 6, maxLocals := 13, code := code, exceptionTable := #[], attributes := #[] }
def k1m2 : Method := { name := "law", desc := "([I)Z", sig := { parameters := [(.array .int)], returnType := some .boolean }, accessFlags := 9, code := some k1c2 }
/-- PortTranslatorL7 -/
def k1 : Class := { plain "PortTranslatorL7" (some 0) with
  accessFlags := 33
  interfaces := #[]
  cf := some (fileOf pool1 55 #[] #[{ accessFlags := 1, nameIndex := 5, descriptorIndex := 6, attributes := #[] }, { accessFlags := 10, nameIndex := 58, descriptorIndex := 59, attributes := #[] }, { accessFlags := 9, nameIndex := 78, descriptorIndex := 79, attributes := #[] }] 33 2 #[] #[])
  fields := #[]
  methods := #[k1m0, k1m1, k1m2]
  instanceTypes := #[]
  staticTypes := #[]
  resolved := Array.replicate 84 none
  statics := none }

def pool2 : Array CpInfo := pool [(1, .methodref 2 3), (0, .class_ 4), (0, .nameAndType 5 6), (0, u "java/lang/Object"), (0, u "<init>"), (0, u "()V"), (0, .fieldref 8 9), (0, .class_ 10), (0, .nameAndType 11 12), (0, u "PortTranslator"), (0, u "live"), (0, u "[Z"), (0, .fieldref 8 14), (0, .nameAndType 15 12), (0, u "used"), (0, .fieldref 8 17), (0, .nameAndType 18 19), (0, u "freedAt"), (0, u "[I"), (0, .fieldref 8 21), (0, .nameAndType 22 19), (0, u "protoOf"), (0, .fieldref 8 24), (0, .nameAndType 25 19), (0, u "hostOf"), (0, .fieldref 8 27), (0, .nameAndType 28 19), (0, u "iportOf"), (0, .fieldref 8 30), (0, .nameAndType 31 19), (0, u "stateAt"), (0, .fieldref 8 33), (0, .nameAndType 34 19), (0, u "deadlineAt"), (0, .fieldref 8 36), (0, .nameAndType 37 38), (0, u "perm"), (0, u "[J"), (0, .methodref 8 40), (0, .nameAndType 41 42), (0, u "clamp"), (0, u "(III)I"), (0, .fieldref 8 44), (0, .nameAndType 45 46), (0, u "poolSize"), (0, u "I"), (0, .fieldref 8 48), (0, .nameAndType 49 46), (0, u "udpTimeout"), (0, .fieldref 8 51), (0, .nameAndType 52 46), (0, u "tcpTimeout"), (0, .fieldref 8 54), (0, .nameAndType 55 46), (0, u "cooldown"), (0, .fieldref 8 57), (0, .nameAndType 58 46), (0, u "clock"), (0, .fieldref 8 60), (0, .nameAndType 61 46), (0, u "remAddr"), (0, .fieldref 8 63), (0, .nameAndType 64 46), (0, u "remPort"), (0, .fieldref 8 66), (0, .nameAndType 67 46), (0, u "regHost"), (0, .fieldref 8 69), (0, .nameAndType 70 46), (0, u "regPort"), (0, .fieldref 8 72), (0, .nameAndType 73 46), (0, u "regExt"), (0, .integer 65535), (0, .methodref 8 76), (0, .nameAndType 77 78), (0, u "validProtoFlags"), (0, u "(II)Z"), (0, .methodref 8 80), (0, .nameAndType 81 42), (0, u "findKey"), (0, .methodref 8 83), (0, .nameAndType 84 85), (0, u "allocatableSlot"), (0, u "()I"), (0, .methodref 8 87), (0, .nameAndType 88 89), (0, u "openMapping"), (0, u "(IIII)V"), (0, .methodref 8 91), (0, .nameAndType 92 93), (0, u "addPerm"), (0, u "(II)V"), (0, .methodref 8 95), (0, .nameAndType 96 97), (0, u "update"), (0, u "(IIZ)V"), (0, .methodref 8 99), (0, .nameAndType 100 101), (0, u "hairpin"), (0, u "(II)I"), (0, .methodref 8 103), (0, .nameAndType 104 101), (0, u "liveSlot"), (0, .methodref 8 106), (0, .nameAndType 107 78), (0, u "hasPerm"), (0, .methodref 8 109), (0, .nameAndType 110 93), (0, u "release"), (0, .methodref 8 112), (0, .nameAndType 113 114), (0, u "liveAt"), (0, u "(I)I"), (0, .methodref 8 116), (0, .nameAndType 117 114), (0, u "slotOf"), (0, .methodref 8 119), (0, .nameAndType 120 114), (0, u "availTime"), (0, .methodref 8 122), (0, .nameAndType 123 124), (0, u "clearPerm"), (0, u "(I)V"), (0, .methodref 8 126), (0, .nameAndType 127 114), (0, u "timeoutOf"), (0, u "UDP"), (2, u "TCP"), (1, u "SYN"), (1, u "ACK"), (1, u "FIN"), (1, u "RST"), (1, u "PORT_BASE"), (1, u "EXTERNAL_ADDR"), (1, u "HOSTS"), (0, u "TRANSITORY"), (1, u "STATE_UDP"), (1, u "OPENING"), (0, u "ESTABLISHED"), (0, u "CLOSING"), (1, u "OK_OUT"), (0, u "OK_IN"), (0, u "OK_HAIRPIN"), (0, u "HAIRPIN_DROPPED"), (0, u "ERR_ARG"), (1, u "ERR_POOL"), (1, u "ERR_TCP"), (1, u "DROP_NOMAP"), (1, u "DROP_FILTER"), (1, u "MAX_POOL"), (1, u "PERM_WORDS"), (2, u "setRemote"), (1, u "outbound"), (0, u "(IIII)I"), (0, u "inbound"), (0, u "advance"), (0, u "(I)Z"), (0, u "now"), (0, u "resultHost"), (0, u "resultPort"), (0, u "resultExt"), (0, u "liveCount"), (1, u "insideHostOf"), (0, u "insidePortOf"), (0, u "stateOf"), (0, u "deadlineOf"), (0, u "permits"), (0, u "availableFrom")] 3

def k2c0 : Code := { maxStack := 5, maxLocals := 5, code := prog_1_method_1_code, exceptionTable := #[], attributes := #[] }
def k2m0 : Method := { name := "<init>", desc := "(IIII)V", sig := { parameters := [.int, .int, .int, .int], returnType := none }, accessFlags := 1, code := some k2c0 }
def k2c1 : Code := { maxStack := 2, maxLocals := 3, code := prog_1_method_2_code, exceptionTable := #[], attributes := #[] }
def k2m1 : Method := { name := "setRemote", desc := "(II)Z", sig := { parameters := [.int, .int], returnType := some .boolean }, accessFlags := 1, code := some k2c1 }
def k2c2 : Code := { maxStack := 5, maxLocals := 6, code := prog_1_method_3_code, exceptionTable := #[], attributes := #[] }
def k2m2 : Method := { name := "outbound", desc := "(IIII)I", sig := { parameters := [.int, .int, .int, .int], returnType := some .int }, accessFlags := 1, code := some k2c2 }
def k2c3 : Code := { maxStack := 4, maxLocals := 5, code := prog_1_method_4_code, exceptionTable := #[], attributes := #[] }
def k2m3 : Method := { name := "inbound", desc := "(III)I", sig := { parameters := [.int, .int, .int], returnType := some .int }, accessFlags := 1, code := some k2c3 }
def k2c4 : Code := { maxStack := 4, maxLocals := 3, code := prog_1_method_5_code, exceptionTable := #[], attributes := #[] }
def k2m4 : Method := { name := "advance", desc := "(I)Z", sig := { parameters := [.int], returnType := some .boolean }, accessFlags := 1, code := some k2c4 }
def k2c5 : Code := { maxStack := 1, maxLocals := 1, code := prog_1_method_6_code, exceptionTable := #[], attributes := #[] }
def k2m5 : Method := { name := "now", desc := "()I", sig := { parameters := [], returnType := some .int }, accessFlags := 1, code := some k2c5 }
def k2c6 : Code := { maxStack := 1, maxLocals := 1, code := prog_1_method_7_code, exceptionTable := #[], attributes := #[] }
def k2m6 : Method := { name := "resultHost", desc := "()I", sig := { parameters := [], returnType := some .int }, accessFlags := 1, code := some k2c6 }
def k2c7 : Code := { maxStack := 1, maxLocals := 1, code := prog_1_method_8_code, exceptionTable := #[], attributes := #[] }
def k2m7 : Method := { name := "resultPort", desc := "()I", sig := { parameters := [], returnType := some .int }, accessFlags := 1, code := some k2c7 }
def k2c8 : Code := { maxStack := 1, maxLocals := 1, code := prog_1_method_9_code, exceptionTable := #[], attributes := #[] }
def k2m8 : Method := { name := "resultExt", desc := "()I", sig := { parameters := [], returnType := some .int }, accessFlags := 1, code := some k2c8 }
def k2c9 : Code := { maxStack := 2, maxLocals := 3, code := prog_1_method_10_code, exceptionTable := #[], attributes := #[] }
def k2m9 : Method := { name := "liveCount", desc := "()I", sig := { parameters := [], returnType := some .int }, accessFlags := 1, code := some k2c9 }
def k2c10 : Code := { maxStack := 2, maxLocals := 3, code := prog_1_method_12_code, exceptionTable := #[], attributes := #[] }
def k2m10 : Method := { name := "insideHostOf", desc := "(I)I", sig := { parameters := [.int], returnType := some .int }, accessFlags := 1, code := some k2c10 }
def k2c11 : Code := { maxStack := 2, maxLocals := 3, code := prog_1_method_13_code, exceptionTable := #[], attributes := #[] }
def k2m11 : Method := { name := "insidePortOf", desc := "(I)I", sig := { parameters := [.int], returnType := some .int }, accessFlags := 1, code := some k2c11 }
def k2c12 : Code := { maxStack := 2, maxLocals := 3, code := prog_1_method_14_code, exceptionTable := #[], attributes := #[] }
def k2m12 : Method := { name := "stateOf", desc := "(I)I", sig := { parameters := [.int], returnType := some .int }, accessFlags := 1, code := some k2c12 }
def k2c13 : Code := { maxStack := 2, maxLocals := 3, code := prog_1_method_15_code, exceptionTable := #[], attributes := #[] }
def k2m13 : Method := { name := "deadlineOf", desc := "(I)I", sig := { parameters := [.int], returnType := some .int }, accessFlags := 1, code := some k2c13 }
def k2c14 : Code := { maxStack := 3, maxLocals := 4, code := prog_1_method_16_code, exceptionTable := #[], attributes := #[] }
def k2m14 : Method := { name := "permits", desc := "(II)Z", sig := { parameters := [.int, .int], returnType := some .boolean }, accessFlags := 1, code := some k2c14 }
def k2c15 : Code := { maxStack := 2, maxLocals := 3, code := prog_1_method_17_code, exceptionTable := #[], attributes := #[] }
def k2m15 : Method := { name := "availableFrom", desc := "(I)I", sig := { parameters := [.int], returnType := some .int }, accessFlags := 1, code := some k2c15 }
def k2c16 : Code := { maxStack := 2, maxLocals := 4, code := prog_1_method_18_code, exceptionTable := #[], attributes := #[] }
def k2m16 : Method := { name := "clamp", desc := "(III)I", sig := { parameters := [.int, .int, .int], returnType := some .int }, accessFlags := 2, code := some k2c16 }
def k2c17 : Code := { maxStack := 2, maxLocals := 3, code := prog_1_method_19_code, exceptionTable := #[], attributes := #[] }
def k2m17 : Method := { name := "validProtoFlags", desc := "(II)Z", sig := { parameters := [.int, .int], returnType := some .boolean }, accessFlags := 2, code := some k2c17 }
def k2c18 : Code := { maxStack := 3, maxLocals := 2, code := prog_1_method_20_code, exceptionTable := #[], attributes := #[] }
def k2m18 : Method := { name := "slotOf", desc := "(I)I", sig := { parameters := [.int], returnType := some .int }, accessFlags := 2, code := some k2c18 }
def k2c19 : Code := { maxStack := 2, maxLocals := 3, code := prog_1_method_21_code, exceptionTable := #[], attributes := #[] }
def k2m19 : Method := { name := "liveAt", desc := "(I)I", sig := { parameters := [.int], returnType := some .int }, accessFlags := 2, code := some k2c19 }
def k2c20 : Code := { maxStack := 2, maxLocals := 4, code := prog_1_method_22_code, exceptionTable := #[], attributes := #[] }
def k2m20 : Method := { name := "liveSlot", desc := "(II)I", sig := { parameters := [.int, .int], returnType := some .int }, accessFlags := 2, code := some k2c20 }
def k2c21 : Code := { maxStack := 2, maxLocals := 5, code := prog_1_method_23_code, exceptionTable := #[], attributes := #[] }
def k2m21 : Method := { name := "findKey", desc := "(III)I", sig := { parameters := [.int, .int, .int], returnType := some .int }, accessFlags := 2, code := some k2c21 }
def k2c22 : Code := { maxStack := 2, maxLocals := 2, code := prog_1_method_24_code, exceptionTable := #[], attributes := #[] }
def k2m22 : Method := { name := "availTime", desc := "(I)I", sig := { parameters := [.int], returnType := some .int }, accessFlags := 2, code := some k2c22 }
def k2c23 : Code := { maxStack := 2, maxLocals := 2, code := prog_1_method_25_code, exceptionTable := #[], attributes := #[] }
def k2m23 : Method := { name := "allocatableSlot", desc := "()I", sig := { parameters := [], returnType := some .int }, accessFlags := 2, code := some k2c23 }
def k2c24 : Code := { maxStack := 4, maxLocals := 5, code := prog_1_method_26_code, exceptionTable := #[], attributes := #[] }
def k2m24 : Method := { name := "openMapping", desc := "(IIII)V", sig := { parameters := [.int, .int, .int, .int], returnType := none }, accessFlags := 2, code := some k2c24 }
def k2c25 : Code := { maxStack := 3, maxLocals := 3, code := prog_1_method_27_code, exceptionTable := #[], attributes := #[] }
def k2m25 : Method := { name := "release", desc := "(II)V", sig := { parameters := [.int, .int], returnType := none }, accessFlags := 2, code := some k2c25 }
def k2c26 : Code := { maxStack := 4, maxLocals := 4, code := prog_1_method_28_code, exceptionTable := #[], attributes := #[] }
def k2m26 : Method := { name := "clearPerm", desc := "(I)V", sig := { parameters := [.int], returnType := none }, accessFlags := 2, code := some k2c26 }
def k2c27 : Code := { maxStack := 8, maxLocals := 4, code := prog_1_method_29_code, exceptionTable := #[], attributes := #[] }
def k2m27 : Method := { name := "addPerm", desc := "(II)V", sig := { parameters := [.int, .int], returnType := none }, accessFlags := 2, code := some k2c27 }
def k2c28 : Code := { maxStack := 6, maxLocals := 4, code := prog_1_method_30_code, exceptionTable := #[], attributes := #[] }
def k2m28 : Method := { name := "hasPerm", desc := "(II)Z", sig := { parameters := [.int, .int], returnType := some .boolean }, accessFlags := 2, code := some k2c28 }
def k2c29 : Code := { maxStack := 2, maxLocals := 2, code := prog_1_method_31_code, exceptionTable := #[], attributes := #[] }
def k2m29 : Method := { name := "timeoutOf", desc := "(I)I", sig := { parameters := [.int], returnType := some .int }, accessFlags := 2, code := some k2c29 }
def k2c30 : Code := { maxStack := 5, maxLocals := 7, code := prog_1_method_32_code, exceptionTable := #[], attributes := #[] }
def k2m30 : Method := { name := "update", desc := "(IIZ)V", sig := { parameters := [.int, .int, .boolean], returnType := none }, accessFlags := 2, code := some k2c30 }
def k2c31 : Code := { maxStack := 4, maxLocals := 4, code := prog_1_method_33_code, exceptionTable := #[], attributes := #[] }
def k2m31 : Method := { name := "hairpin", desc := "(II)I", sig := { parameters := [.int, .int], returnType := some .int }, accessFlags := 2, code := some k2c31 }
/-- PortTranslator -/
def k2 : Class := { plain "PortTranslator" (some 0) with
  accessFlags := 49
  interfaces := #[]
  cf := some (fileOf pool2 8 #[] #[{ accessFlags := 1, nameIndex := 5, descriptorIndex := 89, attributes := #[] }, { accessFlags := 1, nameIndex := 173, descriptorIndex := 78, attributes := #[] }, { accessFlags := 1, nameIndex := 175, descriptorIndex := 176, attributes := #[] }, { accessFlags := 1, nameIndex := 177, descriptorIndex := 42, attributes := #[] }, { accessFlags := 1, nameIndex := 178, descriptorIndex := 179, attributes := #[] }, { accessFlags := 1, nameIndex := 180, descriptorIndex := 85, attributes := #[] }, { accessFlags := 1, nameIndex := 181, descriptorIndex := 85, attributes := #[] }, { accessFlags := 1, nameIndex := 182, descriptorIndex := 85, attributes := #[] }, { accessFlags := 1, nameIndex := 183, descriptorIndex := 85, attributes := #[] }, { accessFlags := 1, nameIndex := 184, descriptorIndex := 85, attributes := #[] }, { accessFlags := 1, nameIndex := 186, descriptorIndex := 114, attributes := #[] }, { accessFlags := 1, nameIndex := 187, descriptorIndex := 114, attributes := #[] }, { accessFlags := 1, nameIndex := 188, descriptorIndex := 114, attributes := #[] }, { accessFlags := 1, nameIndex := 189, descriptorIndex := 114, attributes := #[] }, { accessFlags := 1, nameIndex := 190, descriptorIndex := 78, attributes := #[] }, { accessFlags := 1, nameIndex := 191, descriptorIndex := 114, attributes := #[] }, { accessFlags := 2, nameIndex := 41, descriptorIndex := 42, attributes := #[] }, { accessFlags := 2, nameIndex := 77, descriptorIndex := 78, attributes := #[] }, { accessFlags := 2, nameIndex := 117, descriptorIndex := 114, attributes := #[] }, { accessFlags := 2, nameIndex := 113, descriptorIndex := 114, attributes := #[] }, { accessFlags := 2, nameIndex := 104, descriptorIndex := 101, attributes := #[] }, { accessFlags := 2, nameIndex := 81, descriptorIndex := 42, attributes := #[] }, { accessFlags := 2, nameIndex := 120, descriptorIndex := 114, attributes := #[] }, { accessFlags := 2, nameIndex := 84, descriptorIndex := 85, attributes := #[] }, { accessFlags := 2, nameIndex := 88, descriptorIndex := 89, attributes := #[] }, { accessFlags := 2, nameIndex := 110, descriptorIndex := 93, attributes := #[] }, { accessFlags := 2, nameIndex := 123, descriptorIndex := 124, attributes := #[] }, { accessFlags := 2, nameIndex := 92, descriptorIndex := 93, attributes := #[] }, { accessFlags := 2, nameIndex := 107, descriptorIndex := 78, attributes := #[] }, { accessFlags := 2, nameIndex := 127, descriptorIndex := 114, attributes := #[] }, { accessFlags := 2, nameIndex := 96, descriptorIndex := 97, attributes := #[] }, { accessFlags := 2, nameIndex := 100, descriptorIndex := 101, attributes := #[] }] 49 2 #[] #[{ accessFlags := 25, nameIndex := 128, descriptorIndex := 46, attributes := #[] }, { accessFlags := 25, nameIndex := 131, descriptorIndex := 46, attributes := #[] }, { accessFlags := 25, nameIndex := 133, descriptorIndex := 46, attributes := #[] }, { accessFlags := 25, nameIndex := 135, descriptorIndex := 46, attributes := #[] }, { accessFlags := 25, nameIndex := 137, descriptorIndex := 46, attributes := #[] }, { accessFlags := 25, nameIndex := 139, descriptorIndex := 46, attributes := #[] }, { accessFlags := 25, nameIndex := 141, descriptorIndex := 46, attributes := #[] }, { accessFlags := 25, nameIndex := 143, descriptorIndex := 46, attributes := #[] }, { accessFlags := 25, nameIndex := 145, descriptorIndex := 46, attributes := #[] }, { accessFlags := 25, nameIndex := 146, descriptorIndex := 46, attributes := #[] }, { accessFlags := 25, nameIndex := 148, descriptorIndex := 46, attributes := #[] }, { accessFlags := 25, nameIndex := 150, descriptorIndex := 46, attributes := #[] }, { accessFlags := 25, nameIndex := 151, descriptorIndex := 46, attributes := #[] }, { accessFlags := 25, nameIndex := 152, descriptorIndex := 46, attributes := #[] }, { accessFlags := 25, nameIndex := 154, descriptorIndex := 46, attributes := #[] }, { accessFlags := 25, nameIndex := 155, descriptorIndex := 46, attributes := #[] }, { accessFlags := 25, nameIndex := 156, descriptorIndex := 46, attributes := #[] }, { accessFlags := 25, nameIndex := 157, descriptorIndex := 46, attributes := #[] }, { accessFlags := 25, nameIndex := 158, descriptorIndex := 46, attributes := #[] }, { accessFlags := 25, nameIndex := 160, descriptorIndex := 46, attributes := #[] }, { accessFlags := 25, nameIndex := 162, descriptorIndex := 46, attributes := #[] }, { accessFlags := 25, nameIndex := 164, descriptorIndex := 46, attributes := #[] }, { accessFlags := 25, nameIndex := 166, descriptorIndex := 46, attributes := #[] }, { accessFlags := 26, nameIndex := 168, descriptorIndex := 46, attributes := #[] }, { accessFlags := 26, nameIndex := 170, descriptorIndex := 46, attributes := #[] }, { accessFlags := 2, nameIndex := 45, descriptorIndex := 46, attributes := #[] }, { accessFlags := 2, nameIndex := 49, descriptorIndex := 46, attributes := #[] }, { accessFlags := 2, nameIndex := 52, descriptorIndex := 46, attributes := #[] }, { accessFlags := 2, nameIndex := 55, descriptorIndex := 46, attributes := #[] }, { accessFlags := 2, nameIndex := 58, descriptorIndex := 46, attributes := #[] }, { accessFlags := 2, nameIndex := 61, descriptorIndex := 46, attributes := #[] }, { accessFlags := 2, nameIndex := 64, descriptorIndex := 46, attributes := #[] }, { accessFlags := 2, nameIndex := 67, descriptorIndex := 46, attributes := #[] }, { accessFlags := 2, nameIndex := 70, descriptorIndex := 46, attributes := #[] }, { accessFlags := 2, nameIndex := 73, descriptorIndex := 46, attributes := #[] }, { accessFlags := 2, nameIndex := 11, descriptorIndex := 12, attributes := #[] }, { accessFlags := 2, nameIndex := 15, descriptorIndex := 12, attributes := #[] }, { accessFlags := 2, nameIndex := 18, descriptorIndex := 19, attributes := #[] }, { accessFlags := 2, nameIndex := 22, descriptorIndex := 19, attributes := #[] }, { accessFlags := 2, nameIndex := 25, descriptorIndex := 19, attributes := #[] }, { accessFlags := 2, nameIndex := 28, descriptorIndex := 19, attributes := #[] }, { accessFlags := 2, nameIndex := 31, descriptorIndex := 19, attributes := #[] }, { accessFlags := 2, nameIndex := 34, descriptorIndex := 19, attributes := #[] }, { accessFlags := 2, nameIndex := 37, descriptorIndex := 38, attributes := #[] }])
  fields := #[{ name := "UDP", type := .int, accessFlags := 25, slot := 0, constantValue := 0 }, { name := "TCP", type := .int, accessFlags := 25, slot := 1, constantValue := 0 }, { name := "SYN", type := .int, accessFlags := 25, slot := 2, constantValue := 0 }, { name := "ACK", type := .int, accessFlags := 25, slot := 3, constantValue := 0 }, { name := "FIN", type := .int, accessFlags := 25, slot := 4, constantValue := 0 }, { name := "RST", type := .int, accessFlags := 25, slot := 5, constantValue := 0 }, { name := "PORT_BASE", type := .int, accessFlags := 25, slot := 6, constantValue := 0 }, { name := "EXTERNAL_ADDR", type := .int, accessFlags := 25, slot := 7, constantValue := 0 }, { name := "HOSTS", type := .int, accessFlags := 25, slot := 8, constantValue := 0 }, { name := "TRANSITORY", type := .int, accessFlags := 25, slot := 9, constantValue := 0 }, { name := "STATE_UDP", type := .int, accessFlags := 25, slot := 10, constantValue := 0 }, { name := "OPENING", type := .int, accessFlags := 25, slot := 11, constantValue := 0 }, { name := "ESTABLISHED", type := .int, accessFlags := 25, slot := 12, constantValue := 0 }, { name := "CLOSING", type := .int, accessFlags := 25, slot := 13, constantValue := 0 }, { name := "OK_OUT", type := .int, accessFlags := 25, slot := 14, constantValue := 0 }, { name := "OK_IN", type := .int, accessFlags := 25, slot := 15, constantValue := 0 }, { name := "OK_HAIRPIN", type := .int, accessFlags := 25, slot := 16, constantValue := 0 }, { name := "HAIRPIN_DROPPED", type := .int, accessFlags := 25, slot := 17, constantValue := 0 }, { name := "ERR_ARG", type := .int, accessFlags := 25, slot := 18, constantValue := 0 }, { name := "ERR_POOL", type := .int, accessFlags := 25, slot := 19, constantValue := 0 }, { name := "ERR_TCP", type := .int, accessFlags := 25, slot := 20, constantValue := 0 }, { name := "DROP_NOMAP", type := .int, accessFlags := 25, slot := 21, constantValue := 0 }, { name := "DROP_FILTER", type := .int, accessFlags := 25, slot := 22, constantValue := 0 }, { name := "MAX_POOL", type := .int, accessFlags := 26, slot := 23, constantValue := 0 }, { name := "PERM_WORDS", type := .int, accessFlags := 26, slot := 24, constantValue := 0 }, { name := "poolSize", type := .int, accessFlags := 2, slot := 0, constantValue := 0 }, { name := "udpTimeout", type := .int, accessFlags := 2, slot := 1, constantValue := 0 }, { name := "tcpTimeout", type := .int, accessFlags := 2, slot := 2, constantValue := 0 }, { name := "cooldown", type := .int, accessFlags := 2, slot := 3, constantValue := 0 }, { name := "clock", type := .int, accessFlags := 2, slot := 4, constantValue := 0 }, { name := "remAddr", type := .int, accessFlags := 2, slot := 5, constantValue := 0 }, { name := "remPort", type := .int, accessFlags := 2, slot := 6, constantValue := 0 }, { name := "regHost", type := .int, accessFlags := 2, slot := 7, constantValue := 0 }, { name := "regPort", type := .int, accessFlags := 2, slot := 8, constantValue := 0 }, { name := "regExt", type := .int, accessFlags := 2, slot := 9, constantValue := 0 }, { name := "live", type := (.array .boolean), accessFlags := 2, slot := 10, constantValue := 0 }, { name := "used", type := (.array .boolean), accessFlags := 2, slot := 11, constantValue := 0 }, { name := "freedAt", type := (.array .int), accessFlags := 2, slot := 12, constantValue := 0 }, { name := "protoOf", type := (.array .int), accessFlags := 2, slot := 13, constantValue := 0 }, { name := "hostOf", type := (.array .int), accessFlags := 2, slot := 14, constantValue := 0 }, { name := "iportOf", type := (.array .int), accessFlags := 2, slot := 15, constantValue := 0 }, { name := "stateAt", type := (.array .int), accessFlags := 2, slot := 16, constantValue := 0 }, { name := "deadlineAt", type := (.array .int), accessFlags := 2, slot := 17, constantValue := 0 }, { name := "perm", type := (.array .long), accessFlags := 2, slot := 18, constantValue := 0 }]
  methods := #[k2m0, k2m1, k2m2, k2m3, k2m4, k2m5, k2m6, k2m7, k2m8, k2m9, k2m10, k2m11, k2m12, k2m13, k2m14, k2m15, k2m16, k2m17, k2m18, k2m19, k2m20, k2m21, k2m22, k2m23, k2m24, k2m25, k2m26, k2m27, k2m28, k2m29, k2m30, k2m31]
  instanceTypes := #[.int, .int, .int, .int, .int, .int, .int, .int, .int, .int, (.array .boolean), (.array .boolean), (.array .int), (.array .int), (.array .int), (.array .int), (.array .int), (.array .int), (.array .long)]
  staticTypes := #[.int, .int, .int, .int, .int, .int, .int, .int, .int, .int, .int, .int, .int, .int, .int, .int, .int, .int, .int, .int, .int, .int, .int, .int, .int]
  resolved := Array.replicate 195 none
  statics := none }

def pool3 : Array CpInfo := pool [(1, u "java/lang/Cloneable"), (0, .class_ 1), (0, u "java/lang/Object"), (0, .class_ 3)] 3

/-- java/lang/Cloneable -/
def k3 : Class := { plain "java/lang/Cloneable" (some 0) with
  accessFlags := 1537
  interfaces := #[]
  cf := some (fileOf pool3 2 #[] #[] 1537 4 #[] #[])
  fields := #[]
  methods := #[]
  instanceTypes := #[]
  staticTypes := #[]
  resolved := Array.replicate 8 none
  statics := none }

def pool4 : Array CpInfo := pool [(1, u "java/io/Serializable"), (0, .class_ 1), (0, u "java/lang/Object"), (0, .class_ 3)] 3

/-- java/io/Serializable -/
def k4 : Class := { plain "java/io/Serializable" (some 0) with
  accessFlags := 1537
  interfaces := #[]
  cf := some (fileOf pool4 2 #[] #[] 1537 4 #[] #[])
  fields := #[]
  methods := #[]
  instanceTypes := #[]
  staticTypes := #[]
  resolved := Array.replicate 8 none
  statics := none }

/-- the primitive boolean -/
def k5 : Class := { plain "boolean" none with kind := .primitive 'Z', accessFlags := 0x411 }
/-- [Z -/
def k6 : Class := { plain "[Z" (some 0) with kind := .array 5 .boolean, interfaces := #[3, 4], accessFlags := 1041 }

/-- the primitive byte -/
def k7 : Class := { plain "byte" none with kind := .primitive 'B', accessFlags := 0x411 }
/-- [B -/
def k8 : Class := { plain "[B" (some 0) with kind := .array 7 .byte, interfaces := #[3, 4], accessFlags := 1041 }

/-- the primitive int -/
def k9 : Class := { plain "int" none with kind := .primitive 'I', accessFlags := 0x411 }
/-- [I -/
def k10 : Class := { plain "[I" (some 0) with kind := .array 9 .int, interfaces := #[3, 4], accessFlags := 1041 }

/-- the primitive long -/
def k11 : Class := { plain "long" none with kind := .primitive 'J', accessFlags := 0x411 }
/-- [J -/
def k12 : Class := { plain "[J" (some 0) with kind := .array 11 .long, interfaces := #[3, 4], accessFlags := 1041 }

def heap : Heap := #[{ cls := 10, slots := #[.int 1, .int 2, .int 3], vm := .none }]
def classes : Array Class := #[k0, k1, k2, k3, k4, k5, k6, k7, k8, k9, k10, k11, k12]
def interned : List (Array UInt16 × Addr) := []
def slotsUsed : Nat := 3
def theMethod : MethodId := ⟨1, 2⟩
def args0 : Array Value := #[.ref 0]
def aboutOver (below : List Frame) : State where
  vm := { classes := classes, interned := interned.toArray }
  heap := heap
  slotsUsed := slotsUsed
  threads := #[{ frames := .invoking theMethod args0 :: below }]
def below0 : List Frame := [.native { method := ⟨0, 0⟩, args := #[] }]
def about1 : State := aboutOver below0
def p0 : Program := .bare "" "" ""
def e0 : Env := launch0.env 0 0 0
theorem w_frames : about1.frames = Frame.invoking theMethod args0 :: below0 := rfl
set_option maxRecDepth 65536 in
theorem w_args : argsFit about1.vm theMethod args0 = true := by decide +kernel
set_option maxRecDepth 65536 in
theorem w_heap : heapFits about1 = true := by decide +kernel
set_option maxRecDepth 65536 in
theorem w_runnable : about1.curStatus? = some .runnable := by decide +kernel
set_option maxRecDepth 65536 in
theorem w_alone : about1.alone = true := by decide +kernel
set_option maxRecDepth 65536 in
theorem w_named : about1.methodNamed? x = some theMethod := by decide +kernel
set_option maxRecDepth 65536 in
theorem w_hears : about1.hears theMethod below0 = true := by decide +kernel
set_option maxRecDepth 65536 in
theorem w_ripe : about1.ripe theMethod args0 below0 = true := by decide +kernel
theorem w_running : about1.status = .running := rfl
set_option maxRecDepth 65536 in
theorem w_room : about1.hasRoom e0.platform room_1 = true :=
  launch0.hasRoom_least _ room_1 (by decide +kernel) (by decide +kernel) (by decide +kernel) (by decide +kernel) (by decide +kernel) (by decide +kernel)
theorem allAtoms_all (ts : List Jvm.Cond) (a : Array Jvm.Value) (st : Jvm.State) : (allAtoms ts).before a st = ts.all (fun c => c.before a st) := by
  induction ts with
  | nil => rfl
  | cons c t ih =>
    show (Jvm.Cond.and c (allAtoms t)).before a st = _
    rw [Jvm.Cond.before_and, ih, List.all_cons]
def words1 : List Jvm.Cond := Jvm.Cond.code x code maxLocals ret :: tables_1
/-- a 'code' word, met by the world's own term for the bytes: nothing is compared byte by byte -/
theorem code_word {y : MethodName} {bytes : ByteArray} {mx : Nat} {rt : Option FieldType} {a : Array Value} {s : State} {m : MethodId} {meth : Method} {c : Code} (h1 : s.methodNamed? y = some m) (h2 : s.vm.method? m = some meth) (h3 : meth.code = some c) (h4 : c.code = bytes)
    (h5 : (c.maxLocals == mx && c.exceptionTable.isEmpty && decide (c.maxStack ≤ mostOperands) && decide (meth.sig.returnType = rt) && !meth.locks && decide (parseMethodDescriptor y.desc = some meth.sig)) = true) : (Jvm.Cond.code y bytes mx rt).before a s = true := by
  simp only [Bool.and_eq_true, beq_iff_eq, Bool.not_eq_true', decide_eq_true_eq] at h5
  obtain ⟨⟨⟨⟨⟨g1, g2⟩, g3⟩, g4⟩, g5⟩, g6⟩ := h5
  simp [Cond.before, Cond.holds, Cond.value, h1, h2, h3, h4, g1, g2, g3, g4, g5, g6]
def isCode : Jvm.Cond → Bool
  | .code _ _ _ _ => true
  | _ => false
theorem all_split {L : List Jvm.Cond} {P : Jvm.Cond → Bool} (h1 : L.all (fun c => isCode c || P c) = true) (h2 : ∀ c ∈ L.filter isCode, P c = true) : L.all P = true := by
  refine List.all_eq_true.mpr fun c hc => ?_
  have h := List.all_eq_true.mp h1 c hc
  rcases Bool.eq_false_or_eq_true (isCode c) with hi | hi
  · exact h2 c (List.mem_filter.mpr ⟨hc, hi⟩)
  · simpa [hi] using h
set_option maxRecDepth 65536 in
theorem w_c0 : (Jvm.Cond.code x code maxLocals ret).before args0 about1 = true := code_word (m := ⟨1, 2⟩) (meth := k1m2) (c := k1c2) (by decide +kernel) rfl rfl rfl (by decide +kernel)
set_option maxRecDepth 65536 in
theorem w_c1 : (Jvm.Cond.code ({ cls := "PortTranslator", name := "<init>", desc := "(IIII)V" } : Jvm.MethodName) prog_1_method_1_code (5 : Nat) (Option.none : Option Jvm.ClassFile.FieldType)).before args0 about1 = true := code_word (m := ⟨2, 0⟩) (meth := k2m0) (c := k2c0) (by decide +kernel) rfl rfl rfl (by decide +kernel)
set_option maxRecDepth 65536 in
theorem w_c2 : (Jvm.Cond.code ({ cls := "java/lang/Object", name := "<init>", desc := "()V" } : Jvm.MethodName) object_method_1_code (1 : Nat) (Option.none : Option Jvm.ClassFile.FieldType)).before args0 about1 = true := code_word (m := ⟨0, 0⟩) (meth := k0m0) (c := k0c0) (by decide +kernel) rfl rfl rfl (by decide +kernel)
set_option maxRecDepth 65536 in
theorem w_c3 : (Jvm.Cond.code ({ cls := "PortTranslator", name := "clamp", desc := "(III)I" } : Jvm.MethodName) prog_1_method_18_code (4 : Nat) (Option.some Jvm.ClassFile.FieldType.int)).before args0 about1 = true := code_word (m := ⟨2, 16⟩) (meth := k2m16) (c := k2c16) (by decide +kernel) rfl rfl rfl (by decide +kernel)
set_option maxRecDepth 65536 in
theorem w_c4 : (Jvm.Cond.code ({ cls := "PortTranslatorL7", name := "fp", desc := "(LPortTranslator;)J" } : Jvm.MethodName) method_2_code (5 : Nat) (Option.some Jvm.ClassFile.FieldType.long)).before args0 about1 = true := code_word (m := ⟨1, 1⟩) (meth := k1m1) (c := k1c1) (by decide +kernel) rfl rfl rfl (by decide +kernel)
set_option maxRecDepth 65536 in
theorem w_c5 : (Jvm.Cond.code ({ cls := "PortTranslator", name := "now", desc := "()I" } : Jvm.MethodName) prog_1_method_6_code (1 : Nat) (Option.some Jvm.ClassFile.FieldType.int)).before args0 about1 = true := code_word (m := ⟨2, 5⟩) (meth := k2m5) (c := k2c5) (by decide +kernel) rfl rfl rfl (by decide +kernel)
set_option maxRecDepth 65536 in
theorem w_c6 : (Jvm.Cond.code ({ cls := "PortTranslator", name := "liveCount", desc := "()I" } : Jvm.MethodName) prog_1_method_10_code (3 : Nat) (Option.some Jvm.ClassFile.FieldType.int)).before args0 about1 = true := code_word (m := ⟨2, 9⟩) (meth := k2m9) (c := k2c9) (by decide +kernel) rfl rfl rfl (by decide +kernel)
set_option maxRecDepth 65536 in
theorem w_c7 : (Jvm.Cond.code ({ cls := "PortTranslator", name := "resultHost", desc := "()I" } : Jvm.MethodName) prog_1_method_7_code (1 : Nat) (Option.some Jvm.ClassFile.FieldType.int)).before args0 about1 = true := code_word (m := ⟨2, 6⟩) (meth := k2m6) (c := k2c6) (by decide +kernel) rfl rfl rfl (by decide +kernel)
set_option maxRecDepth 65536 in
theorem w_c8 : (Jvm.Cond.code ({ cls := "PortTranslator", name := "resultPort", desc := "()I" } : Jvm.MethodName) prog_1_method_8_code (1 : Nat) (Option.some Jvm.ClassFile.FieldType.int)).before args0 about1 = true := code_word (m := ⟨2, 7⟩) (meth := k2m7) (c := k2c7) (by decide +kernel) rfl rfl rfl (by decide +kernel)
set_option maxRecDepth 65536 in
theorem w_c9 : (Jvm.Cond.code ({ cls := "PortTranslator", name := "resultExt", desc := "()I" } : Jvm.MethodName) prog_1_method_9_code (1 : Nat) (Option.some Jvm.ClassFile.FieldType.int)).before args0 about1 = true := code_word (m := ⟨2, 8⟩) (meth := k2m8) (c := k2c8) (by decide +kernel) rfl rfl rfl (by decide +kernel)
set_option maxRecDepth 65536 in
theorem w_c10 : (Jvm.Cond.code ({ cls := "PortTranslator", name := "insideHostOf", desc := "(I)I" } : Jvm.MethodName) prog_1_method_12_code (3 : Nat) (Option.some Jvm.ClassFile.FieldType.int)).before args0 about1 = true := code_word (m := ⟨2, 10⟩) (meth := k2m10) (c := k2c10) (by decide +kernel) rfl rfl rfl (by decide +kernel)
set_option maxRecDepth 65536 in
theorem w_c11 : (Jvm.Cond.code ({ cls := "PortTranslator", name := "liveAt", desc := "(I)I" } : Jvm.MethodName) prog_1_method_21_code (3 : Nat) (Option.some Jvm.ClassFile.FieldType.int)).before args0 about1 = true := code_word (m := ⟨2, 19⟩) (meth := k2m19) (c := k2c19) (by decide +kernel) rfl rfl rfl (by decide +kernel)
set_option maxRecDepth 65536 in
theorem w_c12 : (Jvm.Cond.code ({ cls := "PortTranslator", name := "slotOf", desc := "(I)I" } : Jvm.MethodName) prog_1_method_20_code (2 : Nat) (Option.some Jvm.ClassFile.FieldType.int)).before args0 about1 = true := code_word (m := ⟨2, 18⟩) (meth := k2m18) (c := k2c18) (by decide +kernel) rfl rfl rfl (by decide +kernel)
set_option maxRecDepth 65536 in
theorem w_c13 : (Jvm.Cond.code ({ cls := "PortTranslator", name := "insidePortOf", desc := "(I)I" } : Jvm.MethodName) prog_1_method_13_code (3 : Nat) (Option.some Jvm.ClassFile.FieldType.int)).before args0 about1 = true := code_word (m := ⟨2, 11⟩) (meth := k2m11) (c := k2c11) (by decide +kernel) rfl rfl rfl (by decide +kernel)
set_option maxRecDepth 65536 in
theorem w_c14 : (Jvm.Cond.code ({ cls := "PortTranslator", name := "stateOf", desc := "(I)I" } : Jvm.MethodName) prog_1_method_14_code (3 : Nat) (Option.some Jvm.ClassFile.FieldType.int)).before args0 about1 = true := code_word (m := ⟨2, 12⟩) (meth := k2m12) (c := k2c12) (by decide +kernel) rfl rfl rfl (by decide +kernel)
set_option maxRecDepth 65536 in
theorem w_c15 : (Jvm.Cond.code ({ cls := "PortTranslator", name := "deadlineOf", desc := "(I)I" } : Jvm.MethodName) prog_1_method_15_code (3 : Nat) (Option.some Jvm.ClassFile.FieldType.int)).before args0 about1 = true := code_word (m := ⟨2, 13⟩) (meth := k2m13) (c := k2c13) (by decide +kernel) rfl rfl rfl (by decide +kernel)
set_option maxRecDepth 65536 in
theorem w_c16 : (Jvm.Cond.code ({ cls := "PortTranslator", name := "availableFrom", desc := "(I)I" } : Jvm.MethodName) prog_1_method_17_code (3 : Nat) (Option.some Jvm.ClassFile.FieldType.int)).before args0 about1 = true := code_word (m := ⟨2, 15⟩) (meth := k2m15) (c := k2c15) (by decide +kernel) rfl rfl rfl (by decide +kernel)
set_option maxRecDepth 65536 in
theorem w_c17 : (Jvm.Cond.code ({ cls := "PortTranslator", name := "permits", desc := "(II)Z" } : Jvm.MethodName) prog_1_method_16_code (4 : Nat) (Option.some Jvm.ClassFile.FieldType.boolean)).before args0 about1 = true := code_word (m := ⟨2, 14⟩) (meth := k2m14) (c := k2c14) (by decide +kernel) rfl rfl rfl (by decide +kernel)
set_option maxRecDepth 65536 in
theorem w_c18 : (Jvm.Cond.code ({ cls := "PortTranslator", name := "availTime", desc := "(I)I" } : Jvm.MethodName) prog_1_method_24_code (2 : Nat) (Option.some Jvm.ClassFile.FieldType.int)).before args0 about1 = true := code_word (m := ⟨2, 22⟩) (meth := k2m22) (c := k2c22) (by decide +kernel) rfl rfl rfl (by decide +kernel)
set_option maxRecDepth 65536 in
theorem w_c19 : (Jvm.Cond.code ({ cls := "PortTranslator", name := "advance", desc := "(I)Z" } : Jvm.MethodName) prog_1_method_5_code (3 : Nat) (Option.some Jvm.ClassFile.FieldType.boolean)).before args0 about1 = true := code_word (m := ⟨2, 4⟩) (meth := k2m4) (c := k2c4) (by decide +kernel) rfl rfl rfl (by decide +kernel)
set_option maxRecDepth 65536 in
theorem w_c20 : (Jvm.Cond.code ({ cls := "PortTranslator", name := "outbound", desc := "(IIII)I" } : Jvm.MethodName) prog_1_method_3_code (6 : Nat) (Option.some Jvm.ClassFile.FieldType.int)).before args0 about1 = true := code_word (m := ⟨2, 2⟩) (meth := k2m2) (c := k2c2) (by decide +kernel) rfl rfl rfl (by decide +kernel)
set_option maxRecDepth 65536 in
theorem w_c21 : (Jvm.Cond.code ({ cls := "PortTranslator", name := "validProtoFlags", desc := "(II)Z" } : Jvm.MethodName) prog_1_method_19_code (3 : Nat) (Option.some Jvm.ClassFile.FieldType.boolean)).before args0 about1 = true := code_word (m := ⟨2, 17⟩) (meth := k2m17) (c := k2c17) (by decide +kernel) rfl rfl rfl (by decide +kernel)
set_option maxRecDepth 65536 in
theorem w_c22 : (Jvm.Cond.code ({ cls := "PortTranslator", name := "setRemote", desc := "(II)Z" } : Jvm.MethodName) prog_1_method_2_code (3 : Nat) (Option.some Jvm.ClassFile.FieldType.boolean)).before args0 about1 = true := code_word (m := ⟨2, 1⟩) (meth := k2m1) (c := k2c1) (by decide +kernel) rfl rfl rfl (by decide +kernel)
set_option maxRecDepth 65536 in
theorem w_c23 : (Jvm.Cond.code ({ cls := "PortTranslator", name := "inbound", desc := "(III)I" } : Jvm.MethodName) prog_1_method_4_code (5 : Nat) (Option.some Jvm.ClassFile.FieldType.int)).before args0 about1 = true := code_word (m := ⟨2, 3⟩) (meth := k2m3) (c := k2c3) (by decide +kernel) rfl rfl rfl (by decide +kernel)
set_option maxRecDepth 65536 in
theorem w_c24 : (Jvm.Cond.code ({ cls := "PortTranslator", name := "liveSlot", desc := "(II)I" } : Jvm.MethodName) prog_1_method_22_code (4 : Nat) (Option.some Jvm.ClassFile.FieldType.int)).before args0 about1 = true := code_word (m := ⟨2, 20⟩) (meth := k2m20) (c := k2c20) (by decide +kernel) rfl rfl rfl (by decide +kernel)
set_option maxRecDepth 65536 in
theorem w_c25 : (Jvm.Cond.code ({ cls := "PortTranslator", name := "findKey", desc := "(III)I" } : Jvm.MethodName) prog_1_method_23_code (5 : Nat) (Option.some Jvm.ClassFile.FieldType.int)).before args0 about1 = true := code_word (m := ⟨2, 21⟩) (meth := k2m21) (c := k2c21) (by decide +kernel) rfl rfl rfl (by decide +kernel)
set_option maxRecDepth 65536 in
theorem w_c26 : (Jvm.Cond.code ({ cls := "PortTranslator", name := "allocatableSlot", desc := "()I" } : Jvm.MethodName) prog_1_method_25_code (2 : Nat) (Option.some Jvm.ClassFile.FieldType.int)).before args0 about1 = true := code_word (m := ⟨2, 23⟩) (meth := k2m23) (c := k2c23) (by decide +kernel) rfl rfl rfl (by decide +kernel)
set_option maxRecDepth 65536 in
theorem w_c27 : (Jvm.Cond.code ({ cls := "PortTranslator", name := "openMapping", desc := "(IIII)V" } : Jvm.MethodName) prog_1_method_26_code (5 : Nat) (Option.none : Option Jvm.ClassFile.FieldType)).before args0 about1 = true := code_word (m := ⟨2, 24⟩) (meth := k2m24) (c := k2c24) (by decide +kernel) rfl rfl rfl (by decide +kernel)
set_option maxRecDepth 65536 in
theorem w_c28 : (Jvm.Cond.code ({ cls := "PortTranslator", name := "clearPerm", desc := "(I)V" } : Jvm.MethodName) prog_1_method_28_code (4 : Nat) (Option.none : Option Jvm.ClassFile.FieldType)).before args0 about1 = true := code_word (m := ⟨2, 26⟩) (meth := k2m26) (c := k2c26) (by decide +kernel) rfl rfl rfl (by decide +kernel)
set_option maxRecDepth 65536 in
theorem w_c29 : (Jvm.Cond.code ({ cls := "PortTranslator", name := "addPerm", desc := "(II)V" } : Jvm.MethodName) prog_1_method_29_code (4 : Nat) (Option.none : Option Jvm.ClassFile.FieldType)).before args0 about1 = true := code_word (m := ⟨2, 27⟩) (meth := k2m27) (c := k2c27) (by decide +kernel) rfl rfl rfl (by decide +kernel)
set_option maxRecDepth 65536 in
theorem w_c30 : (Jvm.Cond.code ({ cls := "PortTranslator", name := "update", desc := "(IIZ)V" } : Jvm.MethodName) prog_1_method_32_code (7 : Nat) (Option.none : Option Jvm.ClassFile.FieldType)).before args0 about1 = true := code_word (m := ⟨2, 30⟩) (meth := k2m30) (c := k2c30) (by decide +kernel) rfl rfl rfl (by decide +kernel)
set_option maxRecDepth 65536 in
theorem w_c31 : (Jvm.Cond.code ({ cls := "PortTranslator", name := "timeoutOf", desc := "(I)I" } : Jvm.MethodName) prog_1_method_31_code (2 : Nat) (Option.some Jvm.ClassFile.FieldType.int)).before args0 about1 = true := code_word (m := ⟨2, 29⟩) (meth := k2m29) (c := k2c29) (by decide +kernel) rfl rfl rfl (by decide +kernel)
set_option maxRecDepth 65536 in
theorem w_c32 : (Jvm.Cond.code ({ cls := "PortTranslator", name := "hasPerm", desc := "(II)Z" } : Jvm.MethodName) prog_1_method_30_code (4 : Nat) (Option.some Jvm.ClassFile.FieldType.boolean)).before args0 about1 = true := code_word (m := ⟨2, 28⟩) (meth := k2m28) (c := k2c28) (by decide +kernel) rfl rfl rfl (by decide +kernel)
set_option maxRecDepth 65536 in
theorem w_c33 : (Jvm.Cond.code ({ cls := "PortTranslator", name := "release", desc := "(II)V" } : Jvm.MethodName) prog_1_method_27_code (3 : Nat) (Option.none : Option Jvm.ClassFile.FieldType)).before args0 about1 = true := code_word (m := ⟨2, 25⟩) (meth := k2m25) (c := k2c25) (by decide +kernel) rfl rfl rfl (by decide +kernel)
set_option maxRecDepth 65536 in
theorem w_c34 : (Jvm.Cond.code ({ cls := "PortTranslator", name := "hairpin", desc := "(II)I" } : Jvm.MethodName) prog_1_method_33_code (4 : Nat) (Option.some Jvm.ClassFile.FieldType.int)).before args0 about1 = true := code_word (m := ⟨2, 31⟩) (meth := k2m31) (c := k2c31) (by decide +kernel) rfl rfl rfl (by decide +kernel)
def codes1 : List Jvm.Cond := [Jvm.Cond.code x code maxLocals ret, Jvm.Cond.code ({ cls := "PortTranslator", name := "<init>", desc := "(IIII)V" } : Jvm.MethodName) prog_1_method_1_code (5 : Nat) (Option.none : Option Jvm.ClassFile.FieldType), Jvm.Cond.code ({ cls := "java/lang/Object", name := "<init>", desc := "()V" } : Jvm.MethodName) object_method_1_code (1 : Nat) (Option.none : Option Jvm.ClassFile.FieldType), Jvm.Cond.code ({ cls := "PortTranslator", name := "clamp", desc := "(III)I" } : Jvm.MethodName) prog_1_method_18_code (4 : Nat) (Option.some Jvm.ClassFile.FieldType.int), Jvm.Cond.code ({ cls := "PortTranslatorL7", name := "fp", desc := "(LPortTranslator;)J" } : Jvm.MethodName) method_2_code (5 : Nat) (Option.some Jvm.ClassFile.FieldType.long), Jvm.Cond.code ({ cls := "PortTranslator", name := "now", desc := "()I" } : Jvm.MethodName) prog_1_method_6_code (1 : Nat) (Option.some Jvm.ClassFile.FieldType.int), Jvm.Cond.code ({ cls := "PortTranslator", name := "liveCount", desc := "()I" } : Jvm.MethodName) prog_1_method_10_code (3 : Nat) (Option.some Jvm.ClassFile.FieldType.int), Jvm.Cond.code ({ cls := "PortTranslator", name := "resultHost", desc := "()I" } : Jvm.MethodName) prog_1_method_7_code (1 : Nat) (Option.some Jvm.ClassFile.FieldType.int), Jvm.Cond.code ({ cls := "PortTranslator", name := "resultPort", desc := "()I" } : Jvm.MethodName) prog_1_method_8_code (1 : Nat) (Option.some Jvm.ClassFile.FieldType.int), Jvm.Cond.code ({ cls := "PortTranslator", name := "resultExt", desc := "()I" } : Jvm.MethodName) prog_1_method_9_code (1 : Nat) (Option.some Jvm.ClassFile.FieldType.int), Jvm.Cond.code ({ cls := "PortTranslator", name := "insideHostOf", desc := "(I)I" } : Jvm.MethodName) prog_1_method_12_code (3 : Nat) (Option.some Jvm.ClassFile.FieldType.int), Jvm.Cond.code ({ cls := "PortTranslator", name := "liveAt", desc := "(I)I" } : Jvm.MethodName) prog_1_method_21_code (3 : Nat) (Option.some Jvm.ClassFile.FieldType.int), Jvm.Cond.code ({ cls := "PortTranslator", name := "slotOf", desc := "(I)I" } : Jvm.MethodName) prog_1_method_20_code (2 : Nat) (Option.some Jvm.ClassFile.FieldType.int), Jvm.Cond.code ({ cls := "PortTranslator", name := "insidePortOf", desc := "(I)I" } : Jvm.MethodName) prog_1_method_13_code (3 : Nat) (Option.some Jvm.ClassFile.FieldType.int), Jvm.Cond.code ({ cls := "PortTranslator", name := "stateOf", desc := "(I)I" } : Jvm.MethodName) prog_1_method_14_code (3 : Nat) (Option.some Jvm.ClassFile.FieldType.int), Jvm.Cond.code ({ cls := "PortTranslator", name := "deadlineOf", desc := "(I)I" } : Jvm.MethodName) prog_1_method_15_code (3 : Nat) (Option.some Jvm.ClassFile.FieldType.int), Jvm.Cond.code ({ cls := "PortTranslator", name := "availableFrom", desc := "(I)I" } : Jvm.MethodName) prog_1_method_17_code (3 : Nat) (Option.some Jvm.ClassFile.FieldType.int), Jvm.Cond.code ({ cls := "PortTranslator", name := "permits", desc := "(II)Z" } : Jvm.MethodName) prog_1_method_16_code (4 : Nat) (Option.some Jvm.ClassFile.FieldType.boolean), Jvm.Cond.code ({ cls := "PortTranslator", name := "availTime", desc := "(I)I" } : Jvm.MethodName) prog_1_method_24_code (2 : Nat) (Option.some Jvm.ClassFile.FieldType.int), Jvm.Cond.code ({ cls := "PortTranslator", name := "advance", desc := "(I)Z" } : Jvm.MethodName) prog_1_method_5_code (3 : Nat) (Option.some Jvm.ClassFile.FieldType.boolean), Jvm.Cond.code ({ cls := "PortTranslator", name := "outbound", desc := "(IIII)I" } : Jvm.MethodName) prog_1_method_3_code (6 : Nat) (Option.some Jvm.ClassFile.FieldType.int), Jvm.Cond.code ({ cls := "PortTranslator", name := "validProtoFlags", desc := "(II)Z" } : Jvm.MethodName) prog_1_method_19_code (3 : Nat) (Option.some Jvm.ClassFile.FieldType.boolean), Jvm.Cond.code ({ cls := "PortTranslator", name := "setRemote", desc := "(II)Z" } : Jvm.MethodName) prog_1_method_2_code (3 : Nat) (Option.some Jvm.ClassFile.FieldType.boolean), Jvm.Cond.code ({ cls := "PortTranslator", name := "inbound", desc := "(III)I" } : Jvm.MethodName) prog_1_method_4_code (5 : Nat) (Option.some Jvm.ClassFile.FieldType.int), Jvm.Cond.code ({ cls := "PortTranslator", name := "liveSlot", desc := "(II)I" } : Jvm.MethodName) prog_1_method_22_code (4 : Nat) (Option.some Jvm.ClassFile.FieldType.int), Jvm.Cond.code ({ cls := "PortTranslator", name := "findKey", desc := "(III)I" } : Jvm.MethodName) prog_1_method_23_code (5 : Nat) (Option.some Jvm.ClassFile.FieldType.int), Jvm.Cond.code ({ cls := "PortTranslator", name := "allocatableSlot", desc := "()I" } : Jvm.MethodName) prog_1_method_25_code (2 : Nat) (Option.some Jvm.ClassFile.FieldType.int), Jvm.Cond.code ({ cls := "PortTranslator", name := "openMapping", desc := "(IIII)V" } : Jvm.MethodName) prog_1_method_26_code (5 : Nat) (Option.none : Option Jvm.ClassFile.FieldType), Jvm.Cond.code ({ cls := "PortTranslator", name := "clearPerm", desc := "(I)V" } : Jvm.MethodName) prog_1_method_28_code (4 : Nat) (Option.none : Option Jvm.ClassFile.FieldType), Jvm.Cond.code ({ cls := "PortTranslator", name := "addPerm", desc := "(II)V" } : Jvm.MethodName) prog_1_method_29_code (4 : Nat) (Option.none : Option Jvm.ClassFile.FieldType), Jvm.Cond.code ({ cls := "PortTranslator", name := "update", desc := "(IIZ)V" } : Jvm.MethodName) prog_1_method_32_code (7 : Nat) (Option.none : Option Jvm.ClassFile.FieldType), Jvm.Cond.code ({ cls := "PortTranslator", name := "timeoutOf", desc := "(I)I" } : Jvm.MethodName) prog_1_method_31_code (2 : Nat) (Option.some Jvm.ClassFile.FieldType.int), Jvm.Cond.code ({ cls := "PortTranslator", name := "hasPerm", desc := "(II)Z" } : Jvm.MethodName) prog_1_method_30_code (4 : Nat) (Option.some Jvm.ClassFile.FieldType.boolean), Jvm.Cond.code ({ cls := "PortTranslator", name := "release", desc := "(II)V" } : Jvm.MethodName) prog_1_method_27_code (3 : Nat) (Option.none : Option Jvm.ClassFile.FieldType), Jvm.Cond.code ({ cls := "PortTranslator", name := "hairpin", desc := "(II)I" } : Jvm.MethodName) prog_1_method_33_code (4 : Nat) (Option.some Jvm.ClassFile.FieldType.int)]
set_option maxRecDepth 65536 in
theorem codes_eq : words1.filter isCode = codes1 := rfl
theorem w_codes : ∀ c ∈ words1.filter isCode, c.before args0 about1 = true := by
  rw [codes_eq]
  intro c hc
  simp only [codes1, List.mem_cons, List.not_mem_nil, or_false] at hc
  rcases hc with rfl | rfl | rfl | rfl | rfl | rfl | rfl | rfl | rfl | rfl | rfl | rfl | rfl | rfl | rfl | rfl | rfl | rfl | rfl | rfl | rfl | rfl | rfl | rfl | rfl | rfl | rfl | rfl | rfl | rfl | rfl | rfl | rfl | rfl | rfl
  · exact w_c0
  · exact w_c1
  · exact w_c2
  · exact w_c3
  · exact w_c4
  · exact w_c5
  · exact w_c6
  · exact w_c7
  · exact w_c8
  · exact w_c9
  · exact w_c10
  · exact w_c11
  · exact w_c12
  · exact w_c13
  · exact w_c14
  · exact w_c15
  · exact w_c16
  · exact w_c17
  · exact w_c18
  · exact w_c19
  · exact w_c20
  · exact w_c21
  · exact w_c22
  · exact w_c23
  · exact w_c24
  · exact w_c25
  · exact w_c26
  · exact w_c27
  · exact w_c28
  · exact w_c29
  · exact w_c30
  · exact w_c31
  · exact w_c32
  · exact w_c33
  · exact w_c34
set_option maxRecDepth 65536 in
theorem w_t1 : (words1.take 24).all (fun c => isCode c || c.before args0 about1) = true := by decide +kernel
set_option maxRecDepth 65536 in
theorem w_t2 : ((words1.drop 24).take 24).all (fun c => isCode c || c.before args0 about1) = true := by decide +kernel
set_option maxRecDepth 65536 in
theorem w_t3 : (((words1.drop 24).drop 24).take 24).all (fun c => isCode c || c.before args0 about1) = true := by decide +kernel
set_option maxRecDepth 65536 in
theorem w_t4 : ((((words1.drop 24).drop 24).drop 24).take 24).all (fun c => isCode c || c.before args0 about1) = true := by decide +kernel
set_option maxRecDepth 65536 in
theorem w_t5 : (((((words1.drop 24).drop 24).drop 24).drop 24).take 24).all (fun c => isCode c || c.before args0 about1) = true := by decide +kernel
set_option maxRecDepth 65536 in
theorem w_t6 : ((((((words1.drop 24).drop 24).drop 24).drop 24).drop 24).take 24).all (fun c => isCode c || c.before args0 about1) = true := by decide +kernel
set_option maxRecDepth 65536 in
theorem w_t7 : (((((((words1.drop 24).drop 24).drop 24).drop 24).drop 24).drop 24).take 24).all (fun c => isCode c || c.before args0 about1) = true := by decide +kernel
set_option maxRecDepth 65536 in
theorem w_t8 : ((((((((words1.drop 24).drop 24).drop 24).drop 24).drop 24).drop 24).drop 24).take 24).all (fun c => isCode c || c.before args0 about1) = true := by decide +kernel
set_option maxRecDepth 65536 in
theorem w_t9 : ((((((((words1.drop 24).drop 24).drop 24).drop 24).drop 24).drop 24).drop 24).drop 24).all (fun c => isCode c || c.before args0 about1) = true := by decide +kernel
theorem w_tables : (allAtoms (Jvm.Cond.code x code maxLocals ret :: tables_1)).before args0 about1 = true := by
  rw [allAtoms_all]
  show words1.all (fun c => c.before args0 about1) = true
  refine all_split ?_ w_codes
  rw [← List.take_append_drop 24 words1, List.all_append, w_t1, ← List.take_append_drop 24 (words1.drop 24), List.all_append, w_t2, ← List.take_append_drop 24 ((words1.drop 24).drop 24), List.all_append, w_t3, ← List.take_append_drop 24 (((words1.drop 24).drop 24).drop 24), List.all_append, w_t4, ← List.take_append_drop 24 ((((words1.drop 24).drop 24).drop 24).drop 24), List.all_append, w_t5, ← List.take_append_drop 24 (((((words1.drop 24).drop 24).drop 24).drop 24).drop 24), List.all_append, w_t6, ← List.take_append_drop 24 ((((((words1.drop 24).drop 24).drop 24).drop 24).drop 24).drop 24), List.all_append, w_t7, ← List.take_append_drop 24 (((((((words1.drop 24).drop 24).drop 24).drop 24).drop 24).drop 24).drop 24), List.all_append, w_t8, w_t9]
  rfl
set_option maxRecDepth 65536 in
theorem w_rest : rest_1_c.before args0 about1 = true := by decide +kernel
set_option maxRecDepth 65536 in
theorem w_case : (Jvm.Cond.and given_1 narrow_1).before args0 about1 = true := by decide +kernel
theorem w_applies : (headSpec (Jvm.Cond.code x code maxLocals ret :: tables_1) room_1).applies x e0.platform about1 = true :=
  (Spec.applies_iff w_frames).mpr ⟨w_running, w_runnable, w_alone, w_named, w_hears, w_ripe, w_room, w_tables⟩
theorem atStart : AtStart classFile x code maxLocals ret World_1 tables_1 room_1 Calls_1 rest_1 Pre_1 launch0 p0 e0 about1 theMethod args0 below0 :=
  ⟨lists_1, trivial, launch0.admits_env _ _ _, launch0.least_env, fairChoices_fair.cas, fairChoices_fair.clock, w_frames, w_args, w_heap, w_applies, trivial, w_rest, w_case⟩
end start1
theorem witness_1 : WitnessClaimed_1 := ⟨start1.p0, start1.e0, start1.about1, start1.theMethod, start1.args0, start1.below0, start1.atStart⟩
end Jvm.Pilot.@@N@@
