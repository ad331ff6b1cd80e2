import JvmDerived
import JvmDerived.Pilot.@@N@@Statement
import JvmDerived.Pilot.@@N@@Code
set_option linter.unusedVariables false
set_option linter.unusedSimpArgs false
namespace Jvm.RoadKit
open Sem ClassFile Op Lib Jvm.Stand Jvm.Free Jvm.LawKit
section New
variable {p : Program} {l : Launch} {e : Env} {R : Room} {s : State} {m : MethodId} {args : Array Value} {below : List Frame} {meth : Method} {c : Code} {T : State} {locs : List Loc} {cells slots : Nat}
theorem retI (X : Stand p l e R s m args below meth c T locs cells slots) (hx : p.tables.exec = Jvm.exec) {pc : Nat} {Ls : Array Slot} {z : Int32} {rest : List Value} (hret : meth.sig.returnType = some .int) (hd : decode c.code pc = .ok (.ireturn, 1)) {fs : List Frame}
    (hl : ∀ (f : JFrame) (acts : List Action), f.method = m → f.locked = none → f.entered = [] → (doReturn e (T.setTop f) acts (some (.int z))).1 = T.setFrames fs) : Steps p.tables e below (T.setTop (mkF m pc Ls (.int z :: rest))) (T.setFrames fs) := by
  have hm' : T.vm.method? m = some meth := X.method'
  have hn : narrow .int (.int z) = .int z := rfl
  show Steps p.tables e below (T.setTop { method := m, pc := pc, locals := Ls, stack := _ :: rest, locked := none }) _
  jvm_step X.here [X.here.top, hx, hd, hm', hret, hn]
  first | (intro acts; rw [hl _ acts rfl rfl rfl]) | rw [hl _ _ rfl rfl rfl]
  exact Steps.refl _
end New
end Jvm.RoadKit
namespace Jvm.Pilot.@@N@@
open Jvm Jvm.ClassFile Sem Op Lib Jvm.Free Jvm.Stand Jvm.LawKit Jvm.RoadKit Bundle Jvm.Pilot.@@N@@.Jvm.D
/-! TABLES of this claim: printed by claim.py -/
def k0 : Nat := 1
def cName : String := "PortTranslator"
def cN : Nat := 19
def nF : Nat := 19
def kName (k : Nat) : String := bif Nat.beq k 0 then "PortTranslatorOwnLaw" else "PortTranslator"
def fNm (k : Nat) : String := (bif Nat.ble 9 k then (bif Nat.ble 14 k then (bif Nat.ble 16 k then (bif Nat.ble 17 k then (bif Nat.ble 18 k then "regExt" else "regPort") else "regHost") else (bif Nat.ble 15 k then "remPort" else "remAddr")) else (bif Nat.ble 11 k then (bif Nat.ble 12 k then (bif Nat.ble 13 k then "clock" else "cooldown") else "tcpTimeout") else (bif Nat.ble 10 k then "udpTimeout" else "poolSize"))) else (bif Nat.ble 4 k then (bif Nat.ble 6 k then (bif Nat.ble 7 k then (bif Nat.ble 8 k then "perm" else "deadlineAt") else "stateAt") else (bif Nat.ble 5 k then "iportOf" else "hostOf")) else (bif Nat.ble 2 k then (bif Nat.ble 3 k then "protoOf" else "freedAt") else (bif Nat.ble 1 k then "used" else "live"))))
def fDs (k : Nat) : String := (bif Nat.ble 9 k then (bif Nat.ble 14 k then (bif Nat.ble 16 k then (bif Nat.ble 17 k then (bif Nat.ble 18 k then "I" else "I") else "I") else (bif Nat.ble 15 k then "I" else "I")) else (bif Nat.ble 11 k then (bif Nat.ble 12 k then (bif Nat.ble 13 k then "I" else "I") else "I") else (bif Nat.ble 10 k then "I" else "I"))) else (bif Nat.ble 4 k then (bif Nat.ble 6 k then (bif Nat.ble 7 k then (bif Nat.ble 8 k then "[J" else "[I") else "[I") else (bif Nat.ble 5 k then "[I" else "[I")) else (bif Nat.ble 2 k then (bif Nat.ble 3 k then "[I" else "[I") else (bif Nat.ble 1 k then "[Z" else "[Z"))))
def fTy (k : Nat) : FieldType := (bif Nat.ble 9 k then (bif Nat.ble 14 k then (bif Nat.ble 16 k then (bif Nat.ble 17 k then (bif Nat.ble 18 k then .int else .int) else .int) else (bif Nat.ble 15 k then .int else .int)) else (bif Nat.ble 11 k then (bif Nat.ble 12 k then (bif Nat.ble 13 k then .int else .int) else .int) else (bif Nat.ble 10 k then .int else .int))) else (bif Nat.ble 4 k then (bif Nat.ble 6 k then (bif Nat.ble 7 k then (bif Nat.ble 8 k then (.array .long) else (.array .int)) else (.array .int)) else (bif Nat.ble 5 k then (.array .int) else (.array .int))) else (bif Nat.ble 2 k then (bif Nat.ble 3 k then (.array .int) else (.array .int)) else (bif Nat.ble 1 k then (.array .boolean) else (.array .boolean)))))
def fFin (k : Nat) : Bool := (bif Nat.ble 9 k then (bif Nat.ble 14 k then (bif Nat.ble 16 k then (bif Nat.ble 17 k then (bif Nat.ble 18 k then false else false) else false) else (bif Nat.ble 15 k then false else false)) else (bif Nat.ble 11 k then (bif Nat.ble 12 k then (bif Nat.ble 13 k then false else false) else false) else (bif Nat.ble 10 k then false else false))) else (bif Nat.ble 4 k then (bif Nat.ble 6 k then (bif Nat.ble 7 k then (bif Nat.ble 8 k then false else false) else false) else (bif Nat.ble 5 k then false else false)) else (bif Nat.ble 2 k then (bif Nat.ble 3 k then false else false) else (bif Nat.ble 1 k then false else false))))
def cDef : List Value := [.null, .null, .null, .null, .null, .null, .null, .null, .null, .int 0, .int 0, .int 0, .int 0, .int 0, .int 0, .int 0, .int 0, .int 0, .int 0]
def cK : List Value := [.int (65535), .long (65535), .long (255), .long (-1)]
def pN : Nat := 37
def pTop (m : Nat) : Nat := (bif Nat.ble 18 m then (bif Nat.ble 27 m then (bif Nat.ble 32 m then (bif Nat.ble 34 m then (bif Nat.ble 35 m then (bif Nat.ble 36 m then 66 else 27) else 12) else (bif Nat.ble 33 m then 59 else 5)) else (bif Nat.ble 29 m then (bif Nat.ble 30 m then (bif Nat.ble 31 m then 5 else 35) else 24) else (bif Nat.ble 28 m then 31 else 19))) else (bif Nat.ble 22 m then (bif Nat.ble 24 m then (bif Nat.ble 25 m then (bif Nat.ble 26 m then 19 else 19) else 31) else (bif Nat.ble 23 m then 12 else 5)) else (bif Nat.ble 20 m then (bif Nat.ble 21 m then 22 else 138) else (bif Nat.ble 19 m then 31 else 27)))) else (bif Nat.ble 9 m then (bif Nat.ble 13 m then (bif Nat.ble 15 m then (bif Nat.ble 16 m then (bif Nat.ble 17 m then 62 else 23) else 41) else (bif Nat.ble 14 m then 37 else 97)) else (bif Nat.ble 11 m then (bif Nat.ble 12 m then 74 else 5) else (bif Nat.ble 10 m then 42 else 162))) else (bif Nat.ble 4 m then (bif Nat.ble 6 m then (bif Nat.ble 7 m then (bif Nat.ble 8 m then 66 else 23) else 27) else (bif Nat.ble 5 m then 23 else 19)) else (bif Nat.ble 2 m then (bif Nat.ble 3 m then 16 else 159) else (bif Nat.ble 1 m then 14 else 780)))))
def pK (m : Nat) : Nat := (bif Nat.ble 18 m then (bif Nat.ble 27 m then (bif Nat.ble 32 m then (bif Nat.ble 34 m then (bif Nat.ble 35 m then (bif Nat.ble 36 m then 1 else 1) else 0) else (bif Nat.ble 33 m then 0 else 1)) else (bif Nat.ble 29 m then (bif Nat.ble 30 m then (bif Nat.ble 31 m then 1 else 1) else 1) else (bif Nat.ble 28 m then 0 else 1))) else (bif Nat.ble 22 m then (bif Nat.ble 24 m then (bif Nat.ble 25 m then (bif Nat.ble 26 m then 1 else 1) else 0) else (bif Nat.ble 23 m then 0 else 1)) else (bif Nat.ble 20 m then (bif Nat.ble 21 m then 1 else 1) else (bif Nat.ble 19 m then 1 else 1)))) else (bif Nat.ble 9 m then (bif Nat.ble 13 m then (bif Nat.ble 15 m then (bif Nat.ble 16 m then (bif Nat.ble 17 m then 1 else 1) else 1) else (bif Nat.ble 14 m then 1 else 1)) else (bif Nat.ble 11 m then (bif Nat.ble 12 m then 1 else 1) else (bif Nat.ble 10 m then 1 else 1))) else (bif Nat.ble 4 m then (bif Nat.ble 6 m then (bif Nat.ble 7 m then (bif Nat.ble 8 m then 1 else 1) else 1) else (bif Nat.ble 5 m then 1 else 1)) else (bif Nat.ble 2 m then (bif Nat.ble 3 m then 1 else 1) else (bif Nat.ble 1 m then 0 else 0)))))
def pNm (m : Nat) : String := (bif Nat.ble 18 m then (bif Nat.ble 27 m then (bif Nat.ble 32 m then (bif Nat.ble 34 m then (bif Nat.ble 35 m then (bif Nat.ble 36 m then "hairpin" else "release") else "get8") else (bif Nat.ble 33 m then "ownerMatches" else "resultPort")) else (bif Nat.ble 29 m then (bif Nat.ble 30 m then (bif Nat.ble 31 m then "resultHost" else "hasPerm") else "liveSlot") else (bif Nat.ble 28 m then "set16" else "deadlineOf"))) else (bif Nat.ble 22 m then (bif Nat.ble 24 m then (bif Nat.ble 25 m then (bif Nat.ble 26 m then "insidePortOf" else "stateOf") else "set8") else (bif Nat.ble 23 m then "get16" else "resultExt")) else (bif Nat.ble 20 m then (bif Nat.ble 21 m then "timeoutOf" else "update") else (bif Nat.ble 19 m then "addPerm" else "clearPerm")))) else (bif Nat.ble 9 m then (bif Nat.ble 13 m then (bif Nat.ble 15 m then (bif Nat.ble 16 m then (bif Nat.ble 17 m then "openMapping" else "availTime") else "allocatableSlot") else (bif Nat.ble 14 m then "setRemote" else "inbound")) else (bif Nat.ble 11 m then (bif Nat.ble 12 m then "advance" else "now") else (bif Nat.ble 10 m then "validProtoFlags" else "outbound"))) else (bif Nat.ble 4 m then (bif Nat.ble 6 m then (bif Nat.ble 7 m then (bif Nat.ble 8 m then "findKey" else "externalPortOf") else "slotOf") else (bif Nat.ble 5 m then "liveAt" else "insideHostOf")) else (bif Nat.ble 2 m then (bif Nat.ble 3 m then "clamp" else "<init>") else (bif Nat.ble 1 m then "cell" else "law")))))
def pDs (m : Nat) : String := (bif Nat.ble 18 m then (bif Nat.ble 27 m then (bif Nat.ble 32 m then (bif Nat.ble 34 m then (bif Nat.ble 35 m then (bif Nat.ble 36 m then "(II)I" else "(II)V") else "(JI)I") else (bif Nat.ble 33 m then "(JIIII)Z" else "()I")) else (bif Nat.ble 29 m then (bif Nat.ble 30 m then (bif Nat.ble 31 m then "()I" else "(II)Z") else "(II)I") else (bif Nat.ble 28 m then "(JII)J" else "(I)I"))) else (bif Nat.ble 22 m then (bif Nat.ble 24 m then (bif Nat.ble 25 m then (bif Nat.ble 26 m then "(I)I" else "(I)I") else "(JII)J") else (bif Nat.ble 23 m then "(JI)I" else "()I")) else (bif Nat.ble 20 m then (bif Nat.ble 21 m then "(I)I" else "(IIZ)V") else (bif Nat.ble 19 m then "(II)V" else "(I)V")))) else (bif Nat.ble 9 m then (bif Nat.ble 13 m then (bif Nat.ble 15 m then (bif Nat.ble 16 m then (bif Nat.ble 17 m then "(IIII)V" else "(I)I") else "()I") else (bif Nat.ble 14 m then "(II)Z" else "(III)I")) else (bif Nat.ble 11 m then (bif Nat.ble 12 m then "(I)Z" else "()I") else (bif Nat.ble 10 m then "(II)Z" else "(IIII)I"))) else (bif Nat.ble 4 m then (bif Nat.ble 6 m then (bif Nat.ble 7 m then (bif Nat.ble 8 m then "(III)I" else "(III)I") else "(I)I") else (bif Nat.ble 5 m then "(I)I" else "(I)I")) else (bif Nat.ble 2 m then (bif Nat.ble 3 m then "(III)I" else "(IIII)V") else (bif Nat.ble 1 m then "([II)I" else "([I)Z")))))
def pName (m : Nat) : MethodName := ⟨kName (pK m), pNm m, pDs m⟩
def pBytes (m : Nat) : ByteArray := (bif Nat.ble 18 m then (bif Nat.ble 27 m then (bif Nat.ble 32 m then (bif Nat.ble 34 m then (bif Nat.ble 35 m then (bif Nat.ble 36 m then prog_1_method_33_code else prog_1_method_27_code) else method_5_code) else (bif Nat.ble 33 m then method_7_code else prog_1_method_8_code)) else (bif Nat.ble 29 m then (bif Nat.ble 30 m then (bif Nat.ble 31 m then prog_1_method_7_code else prog_1_method_30_code) else prog_1_method_22_code) else (bif Nat.ble 28 m then method_4_code else prog_1_method_15_code))) else (bif Nat.ble 22 m then (bif Nat.ble 24 m then (bif Nat.ble 25 m then (bif Nat.ble 26 m then prog_1_method_13_code else prog_1_method_14_code) else method_6_code) else (bif Nat.ble 23 m then method_3_code else prog_1_method_9_code)) else (bif Nat.ble 20 m then (bif Nat.ble 21 m then prog_1_method_31_code else prog_1_method_32_code) else (bif Nat.ble 19 m then prog_1_method_29_code else prog_1_method_28_code)))) else (bif Nat.ble 9 m then (bif Nat.ble 13 m then (bif Nat.ble 15 m then (bif Nat.ble 16 m then (bif Nat.ble 17 m then prog_1_method_26_code else prog_1_method_24_code) else prog_1_method_25_code) else (bif Nat.ble 14 m then prog_1_method_2_code else prog_1_method_4_code)) else (bif Nat.ble 11 m then (bif Nat.ble 12 m then prog_1_method_5_code else prog_1_method_6_code) else (bif Nat.ble 10 m then prog_1_method_19_code else prog_1_method_3_code))) else (bif Nat.ble 4 m then (bif Nat.ble 6 m then (bif Nat.ble 7 m then (bif Nat.ble 8 m then prog_1_method_23_code else prog_1_method_11_code) else prog_1_method_20_code) else (bif Nat.ble 5 m then prog_1_method_21_code else prog_1_method_12_code)) else (bif Nat.ble 2 m then (bif Nat.ble 3 m then prog_1_method_18_code else prog_1_method_1_code) else (bif Nat.ble 1 m then method_2_code else code)))))
def pMaxL (m : Nat) : Nat := (bif Nat.ble 18 m then (bif Nat.ble 27 m then (bif Nat.ble 32 m then (bif Nat.ble 34 m then (bif Nat.ble 35 m then (bif Nat.ble 36 m then 4 else 3) else 3) else (bif Nat.ble 33 m then 7 else 1)) else (bif Nat.ble 29 m then (bif Nat.ble 30 m then (bif Nat.ble 31 m then 1 else 4) else 4) else (bif Nat.ble 28 m then 6 else 3))) else (bif Nat.ble 22 m then (bif Nat.ble 24 m then (bif Nat.ble 25 m then (bif Nat.ble 26 m then 3 else 3) else 6) else (bif Nat.ble 23 m then 3 else 1)) else (bif Nat.ble 20 m then (bif Nat.ble 21 m then 2 else 7) else (bif Nat.ble 19 m then 4 else 4)))) else (bif Nat.ble 9 m then (bif Nat.ble 13 m then (bif Nat.ble 15 m then (bif Nat.ble 16 m then (bif Nat.ble 17 m then 5 else 2) else 2) else (bif Nat.ble 14 m then 3 else 5)) else (bif Nat.ble 11 m then (bif Nat.ble 12 m then 3 else 1) else (bif Nat.ble 10 m then 3 else 6))) else (bif Nat.ble 4 m then (bif Nat.ble 6 m then (bif Nat.ble 7 m then (bif Nat.ble 8 m then 5 else 5) else 2) else (bif Nat.ble 5 m then 3 else 3)) else (bif Nat.ble 2 m then (bif Nat.ble 3 m then 4 else 5) else (bif Nat.ble 1 m then 2 else 28)))))
def pRet (m : Nat) : Option FieldType := (bif Nat.ble 18 m then (bif Nat.ble 27 m then (bif Nat.ble 32 m then (bif Nat.ble 34 m then (bif Nat.ble 35 m then (bif Nat.ble 36 m then (some .int) else none) else (some .int)) else (bif Nat.ble 33 m then (some .boolean) else (some .int))) else (bif Nat.ble 29 m then (bif Nat.ble 30 m then (bif Nat.ble 31 m then (some .int) else (some .boolean)) else (some .int)) else (bif Nat.ble 28 m then (some .long) else (some .int)))) else (bif Nat.ble 22 m then (bif Nat.ble 24 m then (bif Nat.ble 25 m then (bif Nat.ble 26 m then (some .int) else (some .int)) else (some .long)) else (bif Nat.ble 23 m then (some .int) else (some .int))) else (bif Nat.ble 20 m then (bif Nat.ble 21 m then (some .int) else none) else (bif Nat.ble 19 m then none else none)))) else (bif Nat.ble 9 m then (bif Nat.ble 13 m then (bif Nat.ble 15 m then (bif Nat.ble 16 m then (bif Nat.ble 17 m then none else (some .int)) else (some .int)) else (bif Nat.ble 14 m then (some .boolean) else (some .int))) else (bif Nat.ble 11 m then (bif Nat.ble 12 m then (some .boolean) else (some .int)) else (bif Nat.ble 10 m then (some .boolean) else (some .int)))) else (bif Nat.ble 4 m then (bif Nat.ble 6 m then (bif Nat.ble 7 m then (bif Nat.ble 8 m then (some .int) else (some .int)) else (some .int)) else (bif Nat.ble 5 m then (some .int) else (some .int))) else (bif Nat.ble 2 m then (bif Nat.ble 3 m then (some .int) else none) else (bif Nat.ble 1 m then (some .int) else (some .boolean))))))
def pNA (m : Nat) : Nat := (bif Nat.ble 18 m then (bif Nat.ble 27 m then (bif Nat.ble 32 m then (bif Nat.ble 34 m then (bif Nat.ble 35 m then (bif Nat.ble 36 m then 2 else 2) else 2) else (bif Nat.ble 33 m then 5 else 0)) else (bif Nat.ble 29 m then (bif Nat.ble 30 m then (bif Nat.ble 31 m then 0 else 2) else 2) else (bif Nat.ble 28 m then 3 else 1))) else (bif Nat.ble 22 m then (bif Nat.ble 24 m then (bif Nat.ble 25 m then (bif Nat.ble 26 m then 1 else 1) else 3) else (bif Nat.ble 23 m then 2 else 0)) else (bif Nat.ble 20 m then (bif Nat.ble 21 m then 1 else 3) else (bif Nat.ble 19 m then 2 else 1)))) else (bif Nat.ble 9 m then (bif Nat.ble 13 m then (bif Nat.ble 15 m then (bif Nat.ble 16 m then (bif Nat.ble 17 m then 4 else 1) else 0) else (bif Nat.ble 14 m then 2 else 3)) else (bif Nat.ble 11 m then (bif Nat.ble 12 m then 1 else 0) else (bif Nat.ble 10 m then 2 else 4))) else (bif Nat.ble 4 m then (bif Nat.ble 6 m then (bif Nat.ble 7 m then (bif Nat.ble 8 m then 3 else 3) else 1) else (bif Nat.ble 5 m then 1 else 1)) else (bif Nat.ble 2 m then (bif Nat.ble 3 m then 3 else 4) else (bif Nat.ble 1 m then 2 else 1)))))
def pFr (m : Nat) : Nat := (bif Nat.ble 18 m then (bif Nat.ble 27 m then (bif Nat.ble 32 m then (bif Nat.ble 34 m then (bif Nat.ble 35 m then (bif Nat.ble 36 m then 3 else 1) else 0) else (bif Nat.ble 33 m then 1 else 0)) else (bif Nat.ble 29 m then (bif Nat.ble 30 m then (bif Nat.ble 31 m then 0 else 0) else 2) else (bif Nat.ble 28 m then 0 else 2))) else (bif Nat.ble 22 m then (bif Nat.ble 24 m then (bif Nat.ble 25 m then (bif Nat.ble 26 m then 2 else 2) else 0) else (bif Nat.ble 23 m then 0 else 0)) else (bif Nat.ble 20 m then (bif Nat.ble 21 m then 0 else 2) else (bif Nat.ble 19 m then 0 else 0)))) else (bif Nat.ble 9 m then (bif Nat.ble 13 m then (bif Nat.ble 15 m then (bif Nat.ble 16 m then (bif Nat.ble 17 m then 1 else 0) else 1) else (bif Nat.ble 14 m then 0 else 3)) else (bif Nat.ble 11 m then (bif Nat.ble 12 m then 2 else 0) else (bif Nat.ble 10 m then 0 else 4))) else (bif Nat.ble 4 m then (bif Nat.ble 6 m then (bif Nat.ble 7 m then (bif Nat.ble 8 m then 0 else 1) else 0) else (bif Nat.ble 5 m then 1 else 2)) else (bif Nat.ble 2 m then (bif Nat.ble 3 m then 0 else 1) else (bif Nat.ble 1 m then 0 else 5)))))
def pLo (m : Nat) : Nat := (bif Nat.ble 18 m then (bif Nat.ble 27 m then (bif Nat.ble 32 m then (bif Nat.ble 34 m then (bif Nat.ble 35 m then (bif Nat.ble 36 m then 47 else 15) else 0) else (bif Nat.ble 33 m then 14 else 0)) else (bif Nat.ble 29 m then (bif Nat.ble 30 m then (bif Nat.ble 31 m then 0 else 0) else 27) else (bif Nat.ble 28 m then 0 else 27))) else (bif Nat.ble 22 m then (bif Nat.ble 24 m then (bif Nat.ble 25 m then (bif Nat.ble 26 m then 27 else 27) else 0) else (bif Nat.ble 23 m then 0 else 0)) else (bif Nat.ble 20 m then (bif Nat.ble 21 m then 0 else 29) else (bif Nat.ble 19 m then 0 else 0)))) else (bif Nat.ble 9 m then (bif Nat.ble 13 m then (bif Nat.ble 15 m then (bif Nat.ble 16 m then (bif Nat.ble 17 m then 15 else 0) else 13) else (bif Nat.ble 14 m then 0 else 47)) else (bif Nat.ble 11 m then (bif Nat.ble 12 m then 29 else 0) else (bif Nat.ble 10 m then 0 else 62))) else (bif Nat.ble 4 m then (bif Nat.ble 6 m then (bif Nat.ble 7 m then (bif Nat.ble 8 m then 0 else 16) else 0) else (bif Nat.ble 5 m then 13 else 27)) else (bif Nat.ble 2 m then (bif Nat.ble 3 m then 0 else 16) else (bif Nat.ble 1 m then 0 else 79)))))
def tB (k p : Nat) (a b : Option (Instr × Nat)) : Option (Instr × Nat) := bif Nat.ble k p then a else b
def tL (k p : Nat) (i : Instr) (x : Nat) : Option (Instr × Nat) := bif Nat.beq p k then some (i, x) else none
set_option maxHeartbeats 4000000 in
def cd0 (p : Nat) : Option (Instr × Nat) := (tB 366 p (tB 566 p (tB 668 p (tB 723 p (tB 751 p (tB 765 p (tB 772 p (tB 778 p (tB 779 p (tL 779 p .ireturn 0) (tL 778 p (.iconst 1) 0)) (tB 775 p (tL 775 p (.goto (-695)) 80) (tL 772 p (.iinc 13 2) 0))) (tB 766 p (tB 769 p (tL 769 p (.goto (-74)) 695) (tL 766 p (.iinc 21 1) 0)) (tL 765 p .ireturn 0))) (tB 759 p (tB 761 p (tB 764 p (tL 764 p (.iconst 0) 0) (tL 761 p (.if_icmp .eq 5) 766)) (tL 759 p (.iload 22) 0)) (tB 754 p (tB 756 p (tL 756 p (.invokevirtual 43) 7) (tL 754 p (.iload 24) 0)) (tL 751 p (.invokevirtual 84) 26)))) (tB 736 p (tB 743 p (tB 747 p (tB 749 p (tL 749 p (.iload 22) 0) (tL 747 p (.aload 7) 0)) (tB 745 p (tL 745 p (.iload 23) 0) (tL 743 p (.aload 7) 0))) (tB 739 p (tB 741 p (tL 741 p (.istore 24) 0) (tL 739 p (.bipush 17) 0)) (tL 736 p (.goto 5) 741))) (tB 730 p (tB 731 p (tB 734 p (tL 734 p (.bipush 6) 0) (tL 731 p (.if_icmp .lt 8) 739)) (tL 730 p (.iconst 1) 0)) (tB 725 p (tB 727 p (tL 727 p (.invokevirtual 81) 25) (tL 725 p (.iload 22) 0)) (tL 723 p (.aload 7) 0))))) (tB 695 p (tB 707 p (tB 713 p (tB 718 p (tB 720 p (tL 720 p (.ifCond .lt 46) 766) (tL 718 p (.iload 23) 0)) (tB 716 p (tL 716 p (.istore 23) 0) (tL 713 p (.invokevirtual 28) 4))) (tB 709 p (tB 711 p (tL 711 p (.iload 22) 0) (tL 709 p (.aload 7) 0)) (tL 707 p (.istore 22) 0))) (tB 701 p (tB 704 p (tB 706 p (tL 706 p .iadd 0) (tL 704 p (.iload 21) 0)) (tL 701 p (.sipush 5000) 0)) (tB 697 p (tB 698 p (tL 698 p (.if_icmp .ge 74) 772) (tL 697 p (.iload_n 3) 0)) (tL 695 p (.iload 21) 0)))) (tB 680 p (tB 686 p (tB 692 p (tB 693 p (tL 693 p (.istore 21) 0) (tL 692 p (.iconst 0) 0)) (tB 689 p (tL 689 p (.goto (-77)) 612) (tL 686 p (.iinc 21 1) 0))) (tB 681 p (tB 684 p (tL 684 p (.lstore 10) 0) (tL 681 p (.invokestatic 35) 28)) (tL 680 p .iadd 0))) (tB 674 p (tB 676 p (tB 678 p (tL 678 p (.iload 6) 0) (tL 676 p (.iload 22) 0)) (tL 674 p (.iload 21) 0)) (tB 670 p (tB 672 p (tL 672 p (.lload 10) 0) (tL 670 p (.istore 22) 0)) (tL 668 p (.iload 20) 0)))))) (tB 614 p (tB 639 p (tB 652 p (tB 658 p (tB 662 p (tB 665 p (tL 665 p (.goto 5) 670) (tL 662 p (.invokestatic 58) 23)) (tB 660 p (tL 660 p (.iload 21) 0) (tL 658 p (.lload 18) 0))) (tB 654 p (tB 655 p (tL 655 p (.if_icmp .ne 13) 668) (tL 654 p (.iconst 3) 0)) (tL 652 p (.iload 16) 0))) (tB 646 p (tB 647 p (tB 650 p (tL 650 p (.lstore 8) 0) (tL 647 p (.invokestatic 61) 24)) (tL 646 p (.iconst 0) 0)) (tB 642 p (tB 644 p (tL 644 p (.iload 21) 0) (tL 642 p (.lload 8) 0)) (tL 639 p (.ifCond .ge 47) 686)))) (tB 624 p (tB 630 p (tB 635 p (tB 636 p (tL 636 p (.invokevirtual 28) 4) (tL 635 p .iadd 0)) (tB 633 p (tL 633 p (.iload 21) 0) (tL 630 p (.sipush 5000) 0))) (tB 625 p (tB 628 p (tL 628 p (.aload 7) 0) (tL 625 p (.ifCond .eq 61) 686)) (tL 624 p .iand 0))) (tB 620 p (tB 622 p (tB 623 p (tL 623 p (.iconst 1) 0) (tL 622 p .iushr 0)) (tL 620 p (.iload 21) 0)) (tB 615 p (tB 618 p (tL 618 p (.iload 17) 0) (tL 615 p (.if_icmp .ge 77) 692)) (tL 614 p (.iload_n 3) 0))))) (tB 591 p (tB 601 p (tB 607 p (tB 610 p (tB 612 p (tL 612 p (.iload 21) 0) (tL 610 p (.istore 21) 0)) (tB 609 p (tL 609 p (.iconst 0) 0) (tL 607 p (.istore 20) 0))) (tB 602 p (tB 604 p (tL 604 p (.invokevirtual 55) 11) (tL 602 p (.aload 7) 0)) (tL 601 p .pop 0))) (tB 595 p (tB 597 p (tB 598 p (tL 598 p (.invokevirtual 77) 12) (tL 597 p .iand 0)) (tL 595 p (.bipush 15) 0)) (tB 593 p (tB 594 p (tL 594 p .iushr 0) (tL 593 p (.iconst 2) 0)) (tL 591 p (.iload 14) 0)))) (tB 578 p (tB 585 p (tB 586 p (tB 589 p (tL 589 p (.aload 7) 0) (tL 586 p (.goto 16) 602)) (tL 585 p .ireturn 0)) (tB 581 p (tB 584 p (tL 584 p (.iconst 0) 0) (tL 581 p (.ifCond .ne 5) 586)) (tL 578 p (.invokestatic 70) 33))) (tB 570 p (tB 573 p (tB 575 p (tL 575 p (.invokevirtual 67) 32) (tL 573 p (.aload 7) 0)) (tL 570 p (.invokevirtual 64) 31)) (tB 567 p (tB 568 p (tL 568 p (.aload 7) 0) (tL 567 p (.iload_n 3) 0)) (tL 566 p .isub 0))))))) (tB 469 p (tB 510 p (tB 538 p (tB 551 p (tB 556 p (tB 561 p (tB 563 p (tL 563 p (.sipush 5000) 0) (tL 561 p (.iload 20) 0)) (tB 559 p (tL 559 p (.lload 8) 0) (tL 556 p (.if_icmp .ne 30) 586))) (tB 553 p (tB 555 p (tL 555 p (.iconst 2) 0) (tL 553 p (.iload 24) 0)) (tL 551 p (.istore 24) 0))) (tB 544 p (tB 546 p (tB 548 p (tL 548 p (.invokevirtual 74) 13) (tL 546 p (.iload 23) 0)) (tL 544 p (.iload 22) 0)) (tB 540 p (tB 542 p (tL 542 p (.iload 20) 0) (tL 540 p (.aload 7) 0)) (tL 538 p (.istore 23) 0)))) (tB 524 p (tB 531 p (tB 534 p (tB 537 p (tL 537 p (.iconst 0) 0) (tL 534 p (.goto 4) 538)) (tB 533 p (tL 533 p .iand 0) (tL 531 p (.bipush 15) 0))) (tB 526 p (tB 529 p (tL 529 p (.iload 15) 0) (tL 526 p (.ifCond .eq 11) 537)) (tL 524 p (.iload 21) 0))) (tB 517 p (tB 520 p (tB 522 p (tL 522 p (.istore 22) 0) (tL 520 p (.bipush 17) 0)) (tL 517 p (.goto 5) 522)) (tB 512 p (tB 515 p (tL 515 p (.bipush 6) 0) (tL 512 p (.ifCond .eq 8) 520)) (tL 510 p (.iload 21) 0))))) (tB 490 p (tB 498 p (tB 503 p (tB 507 p (tB 508 p (tL 508 p (.istore 21) 0) (tL 507 p (.iconst 0) 0)) (tB 504 p (tL 504 p (.goto 4) 508) (tL 503 p (.iconst 1) 0))) (tB 499 p (tB 500 p (tL 500 p (.if_icmp .ne 7) 507) (tL 499 p (.iconst 1) 0)) (tL 498 p .iand 0))) (tB 495 p (tB 496 p (tB 497 p (tL 497 p (.iconst 1) 0) (tL 496 p .iushr 0)) (tL 495 p (.iconst 5) 0)) (tB 491 p (tB 493 p (tL 493 p (.iload 14) 0) (tL 491 p (.istore 20) 0)) (tL 490 p .iadd 0)))) (tB 480 p (tB 486 p (tB 487 p (tB 489 p (tL 489 p .iand 0) (tL 487 p (.bipush 7) 0)) (tL 486 p .iushr 0)) (tB 483 p (tB 485 p (tL 485 p (.iconst 2) 0) (tL 483 p (.iload 14) 0)) (tL 480 p (.sipush 5000) 0))) (tB 474 p (tB 476 p (tB 477 p (tL 477 p (.if_icmp .ne 112) 589) (tL 476 p (.iconst 2) 0)) (tL 474 p (.iload 16) 0)) (tB 470 p (tB 471 p (tL 471 p (.goto 131) 602) (tL 470 p .ireturn 0)) (tL 469 p (.iconst 0) 0)))))) (tB 418 p (tB 440 p (tB 452 p (tB 458 p (tB 463 p (tB 466 p (tL 466 p (.ifCond .ne 5) 471) (tL 463 p (.invokestatic 70) 33)) (tB 460 p (tL 460 p (.invokevirtual 67) 32) (tL 458 p (.aload 7) 0))) (tB 453 p (tB 455 p (tL 455 p (.invokevirtual 64) 31) (tL 453 p (.aload 7) 0)) (tL 452 p (.iload_n 3) 0))) (tB 446 p (tB 448 p (tB 451 p (tL 451 p .isub 0) (tL 448 p (.sipush 5000) 0)) (tL 446 p (.iload 12) 0)) (tB 441 p (tB 444 p (tL 444 p (.lload 8) 0) (tL 441 p (.if_icmp .ne 30) 471)) (tL 440 p (.iconst 3) 0)))) (tB 428 p (tB 432 p (tB 436 p (tB 438 p (tL 438 p (.iload 26) 0) (tL 436 p (.lstore 8) 0)) (tB 433 p (tL 433 p (.invokestatic 61) 24) (tL 432 p .ior 0))) (tB 430 p (tB 431 p (tL 431 p .isub 0) (tL 430 p (.iconst 1) 0)) (tL 428 p (.iload 21) 0))) (tB 425 p (tB 426 p (tB 427 p (tL 427 p .ior 0) (tL 426 p .ishl 0)) (tL 425 p (.iconst 3) 0)) (tB 420 p (tB 423 p (tL 423 p (.iload 20) 0) (tL 420 p (.sipush 128) 0)) (tL 418 p (.iload 27) 0))))) (tB 393 p (tB 404 p (tB 411 p (tB 415 p (tB 416 p (tL 416 p (.lload 8) 0) (tL 415 p .ireturn 0)) (tB 414 p (tL 414 p (.iconst 0) 0) (tL 411 p (.if_icmp .ge 5) 416))) (tB 406 p (tB 408 p (tL 408 p (.invokestatic 58) 23) (tL 406 p (.iload 27) 0)) (tL 404 p (.lload 10) 0))) (tB 398 p (tB 399 p (tB 401 p (tL 401 p (.invokevirtual 55) 11) (tL 399 p (.aload 7) 0)) (tL 398 p .ireturn 0)) (tB 394 p (tB 397 p (tL 397 p (.iconst 0) 0) (tL 394 p (.if_icmp .lt 5) 399)) (tL 393 p (.iload_n 3) 0)))) (tB 380 p (tB 386 p (tB 388 p (tB 391 p (tL 391 p (.iload 27) 0) (tL 388 p (.ifCond .lt 9) 397)) (tL 386 p (.iload 27) 0)) (tB 383 p (tB 384 p (tL 384 p (.istore 27) 0) (tL 383 p .isub 0)) (tL 380 p (.sipush 5000) 0))) (tB 372 p (tB 375 p (tB 377 p (tL 377 p (.invokevirtual 51) 22) (tL 375 p (.aload 7) 0)) (tL 372 p (.if_icmp .ne 66) 438)) (tB 369 p (tB 371 p (tL 371 p (.iconst 4) 0) (tL 369 p (.iload 26) 0)) (tL 366 p (.if_icmp .eq 9) 375)))))))) (tB 165 p (tB 264 p (tB 313 p (tB 339 p (tB 352 p (tB 359 p (tB 363 p (tB 365 p (tL 365 p (.iconst 3) 0) (tL 363 p (.iload 26) 0)) (tB 360 p (tL 360 p (.if_icmp .eq 15) 375) (tL 359 p (.iconst 1) 0))) (tB 354 p (tB 357 p (tL 357 p (.iload 26) 0) (tL 354 p (.ifCond .ne 84) 438)) (tL 352 p (.iload 25) 0))) (tB 345 p (tB 347 p (tB 350 p (tL 350 p (.istore 26) 0) (tL 347 p (.invokevirtual 47) 9)) (tL 345 p (.iload 24) 0)) (tB 341 p (tB 343 p (tL 343 p (.iload 23) 0) (tL 341 p (.iload 21) 0)) (tL 339 p (.iload 20) 0)))) (tB 324 p (tB 331 p (tB 335 p (tB 337 p (tL 337 p (.aload 7) 0) (tL 335 p (.istore 25) 0)) (tB 334 p (tL 334 p (.iconst 0) 0) (tL 331 p (.goto 4) 335))) (tB 327 p (tB 330 p (tL 330 p (.iconst 1) 0) (tL 327 p (.ifCond .lt 7) 334)) (tL 324 p (.invokevirtual 43) 7))) (tB 318 p (tB 320 p (tB 322 p (tL 322 p (.iload 23) 0) (tL 320 p (.iload 21) 0)) (tL 318 p (.iload 20) 0)) (tB 314 p (tB 316 p (tL 316 p (.aload 7) 0) (tL 314 p (.istore 24) 0)) (tL 313 p (.iconst 0) 0))))) (tB 284 p (tB 298 p (tB 305 p (tB 309 p (tB 310 p (tL 310 p (.goto 4) 314) (tL 309 p .iand 0)) (tB 307 p (tL 307 p (.bipush 15) 0) (tL 305 p (.iload 15) 0))) (tB 300 p (tB 302 p (tL 302 p (.ifCond .eq 11) 313) (tL 300 p (.iload 22) 0)) (tL 298 p (.istore 23) 0))) (tB 291 p (tB 293 p (tB 296 p (tL 296 p (.bipush 17) 0) (tL 293 p (.goto 5) 298)) (tL 291 p (.bipush 6) 0)) (tB 286 p (tB 288 p (tL 288 p (.ifCond .eq 8) 296) (tL 286 p (.iload 22) 0)) (tL 284 p (.istore 22) 0)))) (tB 273 p (tB 276 p (tB 280 p (tB 283 p (tL 283 p (.iconst 0) 0) (tL 280 p (.goto 4) 284)) (tB 279 p (tL 279 p (.iconst 1) 0) (tL 276 p (.if_icmp .ne 7) 283))) (tB 274 p (tB 275 p (tL 275 p (.iconst 1) 0) (tL 274 p .iand 0)) (tL 273 p (.iconst 1) 0))) (tB 268 p (tB 270 p (tB 272 p (tL 272 p .iushr 0) (tL 270 p (.bipush 8) 0)) (tL 268 p (.iload 14) 0)) (tB 265 p (tB 266 p (tL 266 p (.istore 21) 0) (tL 265 p .iadd 0)) (tL 264 p (.iconst 1) 0)))))) (tB 217 p (tB 244 p (tB 254 p (tB 259 p (tB 261 p (tB 263 p (tL 263 p .iand 0) (tL 261 p (.bipush 7) 0)) (tB 260 p (tL 260 p .iushr 0) (tL 259 p (.iconst 5) 0))) (tB 255 p (tB 257 p (tL 257 p (.iload 14) 0) (tL 255 p (.istore 20) 0)) (tL 254 p .iand 0))) (tB 250 p (tB 251 p (tB 252 p (tL 252 p (.bipush 7) 0) (tL 251 p .iushr 0)) (tL 250 p (.iconst 2) 0)) (tB 245 p (tB 248 p (tL 248 p (.iload 14) 0) (tL 245 p (.if_icmp .ne 229) 474)) (tL 244 p (.iconst 1) 0)))) (tB 227 p (tB 235 p (tB 239 p (tB 242 p (tL 242 p (.iload 16) 0) (tL 239 p (.goto 363) 602)) (tB 237 p (tL 237 p (.istore 12) 0) (tL 235 p (.iload 22) 0))) (tB 229 p (tB 232 p (tL 232 p (.ifCond .eq 7) 239) (tL 229 p (.invokevirtual 39) 14)) (tL 227 p (.iload 22) 0))) (tB 221 p (tB 223 p (tB 225 p (tL 225 p (.iload 21) 0) (tL 223 p (.aload 7) 0)) (tL 221 p (.istore 22) 0)) (tB 219 p (tB 220 p (tL 220 p .iadd 0) (tL 219 p .iand 0)) (tL 217 p (.bipush 7) 0))))) (tB 191 p (tB 203 p (tB 209 p (tB 212 p (tB 215 p (tL 215 p (.iload 15) 0) (tL 212 p (.sipush 5000) 0)) (tB 210 p (tL 210 p (.istore 21) 0) (tL 209 p .iadd 0))) (tB 206 p (tB 208 p (tL 208 p (.iconst 1) 0) (tL 206 p (.iload 20) 0)) (tL 203 p (.goto 7) 210))) (tB 196 p (tB 197 p (tB 200 p (tL 200 p (.sipush 255) 0) (tL 197 p (.if_icmp .ne 9) 206)) (tL 196 p (.iconst 3) 0)) (tB 192 p (tB 194 p (tL 194 p (.iload 20) 0) (tL 192 p (.istore 20) 0)) (tL 191 p .iand 0)))) (tB 181 p (tB 188 p (tB 189 p (tB 190 p (tL 190 p (.iconst 3) 0) (tL 189 p .iushr 0)) (tL 188 p (.iconst 2) 0)) (tB 183 p (tB 186 p (tL 186 p (.iload 14) 0) (tL 183 p (.ifCond .ne 59) 242)) (tL 181 p (.iload 16) 0))) (tB 173 p (tB 175 p (tB 178 p (tL 178 p (.goto (-52)) 126) (tL 175 p (.iinc 20 1) 0)) (tL 173 p (.lstore 18) 0)) (tB 167 p (tB 170 p (tL 170 p (.invokestatic 35) 28) (tL 167 p (.invokevirtual 32) 27)) (tL 165 p (.iload 21) 0))))))) (tB 74 p (tB 117 p (tB 140 p (tB 153 p (tB 157 p (tB 161 p (tB 163 p (tL 163 p (.aload 7) 0) (tL 161 p (.iload 20) 0)) (tB 159 p (tL 159 p (.lload 18) 0) (tL 157 p (.istore 17) 0))) (tB 155 p (tB 156 p (tL 156 p .ior 0) (tL 155 p .ishl 0)) (tL 153 p (.iload 20) 0))) (tB 147 p (tB 150 p (tB 152 p (tL 152 p (.iconst 1) 0) (tL 150 p (.iload 17) 0)) (tL 147 p (.ifCond .lt 28) 175)) (tB 142 p (tB 144 p (tL 144 p (.invokevirtual 28) 4) (tL 142 p (.iload 21) 0)) (tL 140 p (.aload 7) 0)))) (tB 126 p (tB 132 p (tB 137 p (tB 138 p (tL 138 p (.istore 21) 0) (tL 137 p .iadd 0)) (tB 135 p (tL 135 p (.iload 20) 0) (tL 132 p (.sipush 5000) 0))) (tB 128 p (tB 129 p (tL 129 p (.if_icmp .ge 52) 181) (tL 128 p (.iload_n 3) 0)) (tL 126 p (.iload 20) 0))) (tB 121 p (tB 123 p (tB 124 p (tL 124 p (.istore 20) 0) (tL 123 p (.iconst 0) 0)) (tL 121 p (.lstore 18) 0)) (tB 118 p (tB 120 p (tL 120 p (.lconst 0) 0) (tL 118 p (.istore 17) 0)) (tL 117 p (.iconst 0) 0))))) (tB 96 p (tB 105 p (tB 111 p (tB 114 p (tB 115 p (tL 115 p (.istore 16) 0) (tL 114 p .iand 0)) (tB 113 p (tL 113 p (.iconst 3) 0) (tL 111 p (.iload 14) 0))) (tB 106 p (tB 109 p (tL 109 p (.istore 15) 0) (tL 106 p (.invokestatic 19) 1)) (tL 105 p .iadd 0))) (tB 101 p (tB 102 p (tB 104 p (tL 104 p (.iconst 1) 0) (tL 102 p (.iload 13) 0)) (tL 101 p (.aload_n 0) 0)) (tB 98 p (tB 99 p (tL 99 p (.istore 14) 0) (tL 98 p .iaload 0)) (tL 96 p (.iload 13) 0)))) (tB 83 p (tB 89 p (tB 92 p (tB 95 p (tL 95 p (.aload_n 0) 0) (tL 92 p (.if_icmp .ge 686) 778)) (tL 89 p (.sipush 2002) 0)) (tB 84 p (tB 87 p (tL 87 p (.iload 13) 0) (tL 84 p (.if_icmp .ge 694) 778)) (tL 83 p .arraylength 0))) (tB 78 p (tB 80 p (tB 82 p (tL 82 p (.aload_n 0) 0) (tL 80 p (.iload 13) 0)) (tL 78 p (.istore 13) 0)) (tB 75 p (tB 77 p (tL 77 p (.iconst 2) 0) (tL 75 p (.istore 12) 0)) (tL 74 p (.iconst 0) 0)))))) (tB 33 p (tB 50 p (tB 61 p (tB 68 p (tB 71 p (tB 72 p (tL 72 p (.lstore 10) 0) (tL 71 p (.lconst 0) 0)) (tB 69 p (tL 69 p (.lstore 8) 0) (tL 68 p (.lconst 0) 0))) (tB 63 p (tB 66 p (tL 66 p (.astore 7) 0) (tL 63 p (.invokespecial 25) 2)) (tL 61 p (.iload 6) 0))) (tB 56 p (tB 57 p (tB 59 p (tL 59 p (.iload 5) 0) (tL 57 p (.iload 4) 0)) (tL 56 p (.iload_n 3) 0)) (tB 52 p (tB 55 p (tL 55 p .dup 0) (tL 52 p (.new 23) 0)) (tL 50 p (.istore 6) 0)))) (tB 40 p (tB 44 p (tB 47 p (tB 49 p (tL 49 p .iand 0) (tL 47 p (.bipush 31) 0)) (tB 46 p (tL 46 p .iushr 0) (tL 44 p (.bipush 10) 0))) (tB 41 p (tB 43 p (tL 43 p (.iload_n 2) 0) (tL 41 p (.istore 5) 0)) (tL 40 p .iadd 0))) (tB 36 p (tB 37 p (tB 39 p (tL 39 p .iand 0) (tL 37 p (.bipush 31) 0)) (tL 36 p .iushr 0)) (tB 34 p (tB 35 p (tL 35 p (.iconst 5) 0) (tL 34 p (.iload_n 2) 0)) (tL 33 p (.iconst 1) 0))))) (tB 16 p (tB 24 p (tB 27 p (tB 30 p (tB 31 p (tL 31 p (.istore 4) 0) (tL 30 p .iadd 0)) (tB 29 p (tL 29 p .iand 0) (tL 27 p (.bipush 31) 0))) (tB 25 p (tB 26 p (tL 26 p (.iload_n 2) 0) (tL 25 p (.iconst 1) 0)) (tL 24 p (.istore_n 3) 0))) (tB 19 p (tB 20 p (tB 23 p (tL 23 p (.iconst 4) 0) (tL 20 p (.if_icmp .le 5) 25)) (tL 19 p (.iconst 4) 0)) (tB 17 p (tB 18 p (tL 18 p (.iload_n 3) 0) (tL 17 p (.istore_n 3) 0)) (tL 16 p .iadd 0)))) (tB 8 p (tB 13 p (tB 14 p (tB 15 p (tL 15 p .iand 0) (tL 14 p (.iconst 3) 0)) (tL 13 p (.iload_n 1) 0)) (tB 11 p (tB 12 p (tL 12 p (.iconst 2) 0) (tL 11 p (.istore_n 2) 0)) (tL 8 p (.invokestatic 19) 1))) (tB 5 p (tB 6 p (tB 7 p (tL 7 p (.iconst 1) 0) (tL 6 p (.aload_n 0) 0)) (tL 5 p (.istore_n 1) 0)) (tB 1 p (tB 2 p (tL 2 p (.invokestatic 19) 1) (tL 1 p (.iconst 0) 0)) (tL 0 p (.aload_n 0) 0)))))))))
set_option maxHeartbeats 4000000 in
def cd1 (p : Nat) : Option (Instr × Nat) := (tB 7 p (tB 9 p (tB 12 p (tB 13 p (tL 13 p .ireturn 0) (tL 12 p (.iconst 0) 0)) (tL 9 p (.goto 4) 13)) (tB 8 p (tL 8 p .iaload 0) (tL 7 p (.iload_n 1) 0))) (tB 2 p (tB 3 p (tB 6 p (tL 6 p (.aload_n 0) 0) (tL 3 p (.if_icmp .ge 9) 12)) (tL 2 p .arraylength 0)) (tB 1 p (tL 1 p (.aload_n 0) 0) (tL 0 p (.iload_n 1) 0))))
set_option maxHeartbeats 4000000 in
def cd2 (p : Nat) : Option (Instr × Nat) := (tB 80 p (tB 119 p (tB 140 p (tB 149 p (tB 154 p (tB 155 p (tB 158 p (tL 158 p .return_ 0) (tL 155 p (.putfield 71) 18)) (tL 154 p (.iconst (-1)) 0)) (tB 150 p (tB 153 p (tL 153 p (.aload_n 0) 0) (tL 150 p (.putfield 68) 17)) (tL 149 p (.iconst (-1)) 0))) (tB 144 p (tB 145 p (tB 148 p (tL 148 p (.aload_n 0) 0) (tL 145 p (.putfield 65) 16)) (tL 144 p (.iconst (-1)) 0)) (tB 143 p (tL 143 p (.aload_n 0) 0) (tL 140 p (.putfield 62) 15)))) (tB 130 p (tB 135 p (tB 138 p (tB 139 p (tL 139 p (.iconst 0) 0) (tL 138 p (.aload_n 0) 0)) (tL 135 p (.putfield 59) 14)) (tB 133 p (tB 134 p (tL 134 p (.iconst 0) 0) (tL 133 p (.aload_n 0) 0)) (tL 130 p (.putfield 56) 13))) (tB 125 p (tB 128 p (tB 129 p (tL 129 p (.iconst 0) 0) (tL 128 p (.aload_n 0) 0)) (tL 125 p (.putfield 53) 12)) (tB 122 p (tL 122 p (.invokevirtual 39) 3) (tL 119 p (.sipush 1000) 0))))) (tB 101 p (tB 108 p (tB 115 p (tB 116 p (tB 118 p (tL 118 p (.iconst 0) 0) (tL 116 p (.iload 4) 0)) (tL 115 p (.aload_n 0) 0)) (tB 111 p (tB 114 p (tL 114 p (.aload_n 0) 0) (tL 111 p (.putfield 50) 11)) (tL 108 p (.invokevirtual 39) 3))) (tB 103 p (tB 104 p (tB 105 p (tL 105 p (.sipush 1000) 0) (tL 104 p (.iconst 1) 0)) (tL 103 p (.iload_n 3) 0)) (tB 102 p (tL 102 p (.aload_n 0) 0) (tL 101 p (.aload_n 0) 0)))) (tB 90 p (tB 92 p (tB 95 p (tB 98 p (tL 98 p (.putfield 47) 10) (tL 95 p (.invokevirtual 39) 3)) (tL 92 p (.sipush 1000) 0)) (tB 91 p (tL 91 p (.iconst 1) 0) (tL 90 p (.iload_n 2) 0))) (tB 85 p (tB 88 p (tB 89 p (tL 89 p (.aload_n 0) 0) (tL 88 p (.aload_n 0) 0)) (tL 85 p (.putfield 43) 9)) (tB 82 p (tL 82 p (.invokevirtual 39) 3) (tL 80 p (.bipush 16) 0)))))) (tB 41 p (tB 61 p (tB 71 p (tB 77 p (tB 78 p (tB 79 p (tL 79 p (.iconst 2) 0) (tL 78 p (.iload_n 1) 0)) (tL 77 p (.aload_n 0) 0)) (tB 73 p (tB 76 p (tL 76 p (.aload_n 0) 0) (tL 73 p (.putfield 35) 8)) (tL 71 p (.newarray .long) 0))) (tB 65 p (tB 68 p (tB 69 p (tL 69 p (.bipush 64) 0) (tL 68 p (.aload_n 0) 0)) (tL 65 p (.putfield 32) 7)) (tB 63 p (tL 63 p (.newarray .int) 0) (tL 61 p (.bipush 16) 0)))) (tB 52 p (tB 55 p (tB 57 p (tB 60 p (tL 60 p (.aload_n 0) 0) (tL 57 p (.putfield 29) 6)) (tL 55 p (.newarray .int) 0)) (tB 53 p (tL 53 p (.bipush 16) 0) (tL 52 p (.aload_n 0) 0))) (tB 45 p (tB 47 p (tB 49 p (tL 49 p (.putfield 26) 5) (tL 47 p (.newarray .int) 0)) (tL 45 p (.bipush 16) 0)) (tB 44 p (tL 44 p (.aload_n 0) 0) (tL 41 p (.putfield 23) 4))))) (tB 20 p (tB 29 p (tB 36 p (tB 37 p (tB 39 p (tL 39 p (.newarray .int) 0) (tL 37 p (.bipush 16) 0)) (tL 36 p (.aload_n 0) 0)) (tB 31 p (tB 33 p (tL 33 p (.putfield 20) 3) (tL 31 p (.newarray .int) 0)) (tL 29 p (.bipush 16) 0))) (tB 23 p (tB 25 p (tB 28 p (tL 28 p (.aload_n 0) 0) (tL 25 p (.putfield 16) 2)) (tL 23 p (.newarray .int) 0)) (tB 21 p (tL 21 p (.bipush 16) 0) (tL 20 p (.aload_n 0) 0)))) (tB 9 p (tB 13 p (tB 15 p (tB 17 p (tL 17 p (.putfield 13) 1) (tL 15 p (.newarray .boolean) 0)) (tL 13 p (.bipush 16) 0)) (tB 12 p (tL 12 p (.aload_n 0) 0) (tL 9 p (.putfield 7) 0))) (tB 4 p (tB 5 p (tB 7 p (tL 7 p (.newarray .boolean) 0) (tL 5 p (.bipush 16) 0)) (tL 4 p (.aload_n 0) 0)) (tB 1 p (tL 1 p (.invokespecial 1) 0) (tL 0 p (.aload_n 0) 0)))))))
set_option maxHeartbeats 4000000 in
def cd3 (p : Nat) : Option (Instr × Nat) := (tB 8 p (tB 13 p (tB 14 p (tB 15 p (tL 15 p .ireturn 0) (tL 14 p (.iload_n 1) 0)) (tL 13 p .ireturn 0)) (tB 9 p (tB 12 p (tL 12 p (.iload_n 3) 0) (tL 9 p (.if_icmp .le 5) 14)) (tL 8 p (.iload_n 3) 0))) (tB 5 p (tB 6 p (tB 7 p (tL 7 p (.iload_n 1) 0) (tL 6 p .ireturn 0)) (tL 5 p (.iload_n 2) 0)) (tB 1 p (tB 2 p (tL 2 p (.if_icmp .ge 5) 7) (tL 1 p (.iload_n 2) 0)) (tL 0 p (.iload_n 1) 0))))
set_option maxHeartbeats 4000000 in
def cd4 (p : Nat) : Option (Instr × Nat) := (tB 10 p (tB 13 p (tB 17 p (tB 18 p (tL 18 p .ireturn 0) (tL 17 p .iaload 0)) (tB 16 p (tL 16 p (.iload_n 2) 0) (tL 13 p (.getfield 23) 4))) (tB 11 p (tB 12 p (tL 12 p (.aload_n 0) 0) (tL 11 p .ireturn 0)) (tL 10 p (.iconst (-1)) 0))) (tB 5 p (tB 6 p (tB 7 p (tL 7 p (.ifCond .ge 5) 12) (tL 6 p (.iload_n 2) 0)) (tL 5 p (.istore_n 2) 0)) (tB 1 p (tB 2 p (tL 2 p (.invokevirtual 111) 5) (tL 1 p (.iload_n 1) 0)) (tL 0 p (.aload_n 0) 0))))
set_option maxHeartbeats 4000000 in
def cd5 (p : Nat) : Option (Instr × Nat) := (tB 11 p (tB 19 p (tB 21 p (tB 22 p (tL 22 p .ireturn 0) (tL 21 p (.iload_n 2) 0)) (tB 20 p (tL 20 p .ireturn 0) (tL 19 p (.iconst (-1)) 0))) (tB 15 p (tB 16 p (tL 16 p (.ifCond .ne 5) 21) (tL 15 p .baload 0)) (tB 14 p (tL 14 p (.iload_n 2) 0) (tL 11 p (.getfield 7) 0)))) (tB 5 p (tB 7 p (tB 10 p (tL 10 p (.aload_n 0) 0) (tL 7 p (.ifCond .lt 12) 19)) (tB 6 p (tL 6 p (.iload_n 2) 0) (tL 5 p (.istore_n 2) 0))) (tB 1 p (tB 2 p (tL 2 p (.invokevirtual 115) 6) (tL 1 p (.iload_n 1) 0)) (tL 0 p (.aload_n 0) 0))))
set_option maxHeartbeats 4000000 in
def cd6 (p : Nat) : Option (Instr × Nat) := (tB 15 p (tB 21 p (tB 25 p (tB 26 p (tL 26 p .ireturn 0) (tL 25 p .isub 0)) (tB 22 p (tL 22 p (.sipush 5000) 0) (tL 21 p (.iload_n 1) 0))) (tB 19 p (tB 20 p (tL 20 p .ireturn 0) (tL 19 p (.iconst (-1)) 0)) (tB 16 p (tL 16 p (.if_icmp .lt 5) 21) (tL 15 p .iadd 0)))) (tB 7 p (tB 11 p (tB 12 p (tL 12 p (.getfield 43) 9) (tL 11 p (.aload_n 0) 0)) (tB 8 p (tL 8 p (.sipush 5000) 0) (tL 7 p (.iload_n 1) 0))) (tB 1 p (tB 4 p (tL 4 p (.if_icmp .lt 15) 19) (tL 1 p (.sipush 5000) 0)) (tL 0 p (.iload_n 1) 0))))
set_option maxHeartbeats 4000000 in
def cd7 (p : Nat) : Option (Instr × Nat) := (tB 11 p (tB 16 p (tB 21 p (tB 22 p (tL 22 p .ireturn 0) (tL 21 p .iadd 0)) (tB 19 p (tL 19 p (.iload 4) 0) (tL 16 p (.sipush 5000) 0))) (tB 14 p (tB 15 p (tL 15 p .ireturn 0) (tL 14 p (.iconst (-1)) 0)) (tL 11 p (.ifCond .ge 5) 16))) (tB 3 p (tB 7 p (tB 9 p (tL 9 p (.iload 4) 0) (tL 7 p (.istore 4) 0)) (tB 4 p (tL 4 p (.invokevirtual 79) 8) (tL 3 p (.iload_n 2) 0))) (tB 1 p (tB 2 p (tL 2 p (.iload_n 1) 0) (tL 1 p (.iload_n 3) 0)) (tL 0 p (.aload_n 0) 0))))
set_option maxHeartbeats 4000000 in
def cd8 (p : Nat) : Option (Instr × Nat) := (tB 33 p (tB 50 p (tB 57 p (tB 61 p (tB 64 p (tB 65 p (tL 65 p .ireturn 0) (tL 64 p (.iconst (-1)) 0)) (tL 61 p (.goto (-58)) 3)) (tB 58 p (tL 58 p (.iinc 4 1) 0) (tL 57 p .ireturn 0))) (tB 52 p (tB 55 p (tL 55 p (.iload 4) 0) (tL 52 p (.if_icmp .ne 6) 58)) (tB 51 p (tL 51 p (.iload_n 3) 0) (tL 50 p .iaload 0)))) (tB 40 p (tB 44 p (tB 45 p (tB 48 p (tL 48 p (.iload 4) 0) (tL 45 p (.getfield 26) 5)) (tL 44 p (.aload_n 0) 0)) (tB 41 p (tL 41 p (.if_icmp .ne 17) 58) (tL 40 p (.iload_n 2) 0))) (tB 37 p (tB 39 p (tL 39 p .iaload 0) (tL 37 p (.iload 4) 0)) (tB 34 p (tL 34 p (.getfield 23) 4) (tL 33 p (.aload_n 0) 0))))) (tB 16 p (tB 23 p (tB 28 p (tB 29 p (tB 30 p (tL 30 p (.if_icmp .ne 28) 58) (tL 29 p (.iload_n 1) 0)) (tL 28 p .iaload 0)) (tB 26 p (tL 26 p (.iload 4) 0) (tL 23 p (.getfield 20) 3))) (tB 19 p (tB 22 p (tL 22 p (.aload_n 0) 0) (tL 19 p (.ifCond .eq 39) 58)) (tB 18 p (tL 18 p .baload 0) (tL 16 p (.iload 4) 0)))) (tB 6 p (tB 12 p (tB 13 p (tL 13 p (.getfield 7) 0) (tL 12 p (.aload_n 0) 0)) (tB 9 p (tL 9 p (.if_icmp .ge 55) 64) (tL 6 p (.getfield 43) 9))) (tB 3 p (tB 5 p (tL 5 p (.aload_n 0) 0) (tL 3 p (.iload 4) 0)) (tB 1 p (tL 1 p (.istore 4) 0) (tL 0 p (.iconst 0) 0))))))
set_option maxHeartbeats 4000000 in
def cd9 (p : Nat) : Option (Instr × Nat) := (tB 80 p (tB 119 p (tB 143 p (tB 153 p (tB 156 p (tB 158 p (tB 161 p (tL 161 p .ireturn 0) (tL 158 p (.invokevirtual 98) 36)) (tL 156 p (.iload 4) 0)) (tB 154 p (tB 155 p (tL 155 p (.iload_n 3) 0) (tL 154 p (.aload_n 0) 0)) (tL 153 p .ireturn 0))) (tB 148 p (tB 149 p (tB 152 p (tL 152 p (.iconst 1) 0) (tL 149 p (.putfield 68) 17)) (tL 148 p (.iconst (-1)) 0)) (tB 144 p (tB 147 p (tL 147 p (.aload_n 0) 0) (tL 144 p (.putfield 65) 16)) (tL 143 p (.iconst (-1)) 0)))) (tB 129 p (tB 136 p (tB 139 p (tB 142 p (tL 142 p (.aload_n 0) 0) (tL 139 p (.if_icmp .eq 15) 154)) (tL 136 p (.sipush 255) 0)) (tB 132 p (tB 133 p (tL 133 p (.getfield 59) 14) (tL 132 p (.aload_n 0) 0)) (tL 129 p (.putfield 71) 18))) (tB 123 p (tB 126 p (tB 128 p (tL 128 p .iadd 0) (tL 126 p (.iload 5) 0)) (tL 123 p (.sipush 5000) 0)) (tB 122 p (tL 122 p (.aload_n 0) 0) (tL 119 p (.invokevirtual 94) 20))))) (tB 99 p (tB 107 p (tB 114 p (tB 116 p (tB 118 p (tL 118 p (.iconst 0) 0) (tL 116 p (.iload 4) 0)) (tL 114 p (.iload 5) 0)) (tB 110 p (tB 113 p (tL 113 p (.aload_n 0) 0) (tL 110 p (.invokevirtual 90) 19)) (tL 107 p (.getfield 59) 14))) (tB 103 p (tB 104 p (tB 106 p (tL 106 p (.aload_n 0) 0) (tL 104 p (.iload 5) 0)) (tL 103 p (.aload_n 0) 0)) (tB 100 p (tL 100 p (.invokevirtual 86) 17) (tL 99 p (.iload_n 2) 0)))) (tB 91 p (tB 95 p (tB 97 p (tB 98 p (tL 98 p (.iload_n 1) 0) (tL 97 p (.iload_n 3) 0)) (tL 95 p (.iload 5) 0)) (tB 93 p (tB 94 p (tL 94 p (.aload_n 0) 0) (tL 93 p .ireturn 0)) (tL 91 p (.bipush (-2)) 0))) (tB 84 p (tB 86 p (tB 88 p (tL 88 p (.ifCond .ge 6) 94) (tL 86 p (.iload 5) 0)) (tL 84 p (.istore 5) 0)) (tB 81 p (tL 81 p (.invokevirtual 82) 15) (tL 80 p (.aload_n 0) 0)))))) (tB 41 p (tB 59 p (tB 69 p (tB 74 p (tB 77 p (tB 79 p (tL 79 p .ireturn 0) (tL 77 p (.bipush (-3)) 0)) (tL 74 p (.ifCond .eq 6) 80)) (tB 71 p (tB 73 p (tL 73 p .iand 0) (tL 71 p (.bipush 8) 0)) (tL 69 p (.iload 4) 0))) (tB 64 p (tB 65 p (tB 66 p (tL 66 p (.ifCond .eq 11) 77) (tL 65 p .iand 0)) (tL 64 p (.iconst 1) 0)) (tB 62 p (tL 62 p (.iload 4) 0) (tL 59 p (.if_icmp .ne 21) 80)))) (tB 46 p (tB 53 p (tB 56 p (tB 57 p (tL 57 p (.bipush 6) 0) (tL 56 p (.iload_n 3) 0)) (tL 53 p (.ifCond .ge 50) 103)) (tB 49 p (tB 51 p (tL 51 p (.iload 5) 0) (tL 49 p (.istore 5) 0)) (tL 46 p (.invokevirtual 79) 8))) (tB 43 p (tB 44 p (tB 45 p (tL 45 p (.iload_n 2) 0) (tL 44 p (.iload_n 1) 0)) (tL 43 p (.iload_n 3) 0)) (tB 42 p (tL 42 p (.aload_n 0) 0) (tL 41 p .ireturn 0))))) (tB 21 p (tB 27 p (tB 34 p (tB 37 p (tB 40 p (tL 40 p (.iconst (-1)) 0) (tL 37 p (.ifCond .ne 5) 42)) (tL 34 p (.getfield 59) 14)) (tB 30 p (tB 33 p (tL 33 p (.aload_n 0) 0) (tL 30 p (.ifCond .eq 10) 40)) (tL 27 p (.invokevirtual 75) 10))) (tB 23 p (tB 24 p (tB 25 p (tL 25 p (.iload 4) 0) (tL 24 p (.iload_n 3) 0)) (tL 23 p (.aload_n 0) 0)) (tB 22 p (tL 22 p .ireturn 0) (tL 21 p (.iconst (-1)) 0)))) (tB 10 p (tB 15 p (tB 16 p (tB 18 p (tL 18 p (.if_icmp .le 5) 23) (tL 16 p (.ldc 74) 0)) (tL 15 p (.iload_n 2) 0)) (tB 11 p (tB 12 p (tL 12 p (.if_icmp .lt 9) 21) (tL 11 p (.iconst 1) 0)) (tL 10 p (.iload_n 2) 0))) (tB 4 p (tB 5 p (tB 7 p (tL 7 p (.if_icmp .ge 14) 21) (tL 5 p (.bipush 8) 0)) (tL 4 p (.iload_n 1) 0)) (tB 1 p (tL 1 p (.ifCond .lt 20) 21) (tL 0 p (.iload_n 1) 0)))))))
set_option maxHeartbeats 4000000 in
def cd10 (p : Nat) : Option (Instr × Nat) := (tB 21 p (tB 32 p (tB 37 p (tB 40 p (tB 41 p (tL 41 p .ireturn 0) (tL 40 p (.iconst 0) 0)) (tL 37 p (.goto 4) 41)) (tB 33 p (tB 36 p (tL 36 p (.iconst 1) 0) (tL 33 p (.ifCond .ne 7) 40)) (tL 32 p (.iload_n 2) 0))) (tB 26 p (tB 27 p (tB 29 p (tL 29 p (.if_icmp .ne 7) 36) (tL 27 p (.bipush 17) 0)) (tL 26 p (.iload_n 1) 0)) (tB 24 p (tB 25 p (tL 25 p .ireturn 0) (tL 24 p (.iconst 0) 0)) (tL 21 p (.if_icmp .le 5) 26)))) (tB 12 p (tB 15 p (tB 18 p (tB 19 p (tL 19 p (.bipush 15) 0) (tL 18 p (.iload_n 2) 0)) (tL 15 p (.ifCond .lt 9) 24)) (tB 13 p (tB 14 p (tL 14 p (.iload_n 2) 0) (tL 13 p .ireturn 0)) (tL 12 p (.iconst 0) 0))) (tB 6 p (tB 7 p (tB 9 p (tL 9 p (.if_icmp .eq 5) 14) (tL 7 p (.bipush 6) 0)) (tL 6 p (.iload_n 1) 0)) (tB 1 p (tB 3 p (tL 3 p (.if_icmp .eq 11) 14) (tL 1 p (.bipush 17) 0)) (tL 0 p (.iload_n 1) 0)))))
set_option maxHeartbeats 4000000 in
def cd11 (p : Nat) : Option (Instr × Nat) := (tB 1 p (tB 4 p (tL 4 p .ireturn 0) (tL 1 p (.getfield 56) 13)) (tL 0 p (.aload_n 0) 0))
set_option maxHeartbeats 4000000 in
def cd12 (p : Nat) : Option (Instr × Nat) := (tB 37 p (tB 55 p (tB 62 p (tB 69 p (tB 72 p (tB 73 p (tL 73 p .ireturn 0) (tL 72 p (.iconst 1) 0)) (tL 69 p (.goto (-44)) 25)) (tB 63 p (tB 66 p (tL 66 p (.iinc 2 1) 0) (tL 63 p (.invokevirtual 108) 35)) (tL 62 p .iaload 0))) (tB 57 p (tB 58 p (tB 61 p (tL 61 p (.iload_n 2) 0) (tL 58 p (.getfield 32) 7)) (tL 57 p (.aload_n 0) 0)) (tB 56 p (tL 56 p (.iload_n 2) 0) (tL 55 p (.aload_n 0) 0)))) (tB 46 p (tB 48 p (tB 49 p (tB 52 p (tL 52 p (.if_icmp .gt 14) 66) (tL 49 p (.getfield 56) 13)) (tL 48 p (.aload_n 0) 0)) (tB 47 p (tL 47 p .iaload 0) (tL 46 p (.iload_n 2) 0))) (tB 39 p (tB 42 p (tB 43 p (tL 43 p (.getfield 32) 7) (tL 42 p (.aload_n 0) 0)) (tL 39 p (.ifCond .eq 27) 66)) (tB 38 p (tL 38 p .baload 0) (tL 37 p (.iload_n 2) 0))))) (tB 18 p (tB 25 p (tB 30 p (tB 33 p (tB 34 p (tL 34 p (.getfield 7) 0) (tL 33 p (.aload_n 0) 0)) (tL 30 p (.if_icmp .ge 42) 72)) (tB 26 p (tB 27 p (tL 27 p (.getfield 43) 9) (tL 26 p (.aload_n 0) 0)) (tL 25 p (.iload_n 2) 0))) (tB 20 p (tB 23 p (tB 24 p (tL 24 p (.istore_n 2) 0) (tL 23 p (.iconst 0) 0)) (tL 20 p (.putfield 56) 13)) (tB 19 p (tL 19 p .iadd 0) (tL 18 p (.iload_n 1) 0)))) (tB 11 p (tB 13 p (tB 14 p (tB 15 p (tL 15 p (.getfield 56) 13) (tL 14 p .dup 0)) (tL 13 p (.aload_n 0) 0)) (tB 12 p (tL 12 p .ireturn 0) (tL 11 p (.iconst 0) 0))) (tB 4 p (tB 5 p (tB 8 p (tL 8 p (.if_icmp .le 5) 13) (tL 5 p (.sipush 1000) 0)) (tL 4 p (.iload_n 1) 0)) (tB 1 p (tL 1 p (.ifCond .lt 10) 11) (tL 0 p (.iload_n 1) 0))))))
set_option maxHeartbeats 4000000 in
def cd13 (p : Nat) : Option (Instr × Nat) := (tB 48 p (tB 73 p (tB 87 p (tB 91 p (tB 95 p (tB 96 p (tL 96 p .ireturn 0) (tL 95 p (.iconst 2) 0)) (tB 92 p (tL 92 p (.invokevirtual 94) 20) (tL 91 p (.iconst 1) 0))) (tB 88 p (tB 90 p (tL 90 p (.iload_n 3) 0) (tL 88 p (.iload 4) 0)) (tL 87 p (.aload_n 0) 0))) (tB 79 p (tB 83 p (tB 84 p (tL 84 p (.putfield 71) 18) (tL 83 p (.iload_n 1) 0)) (tB 82 p (tL 82 p (.aload_n 0) 0) (tL 79 p (.putfield 68) 17))) (tB 76 p (tB 78 p (tL 78 p .iaload 0) (tL 76 p (.iload 4) 0)) (tL 73 p (.getfield 26) 5)))) (tB 61 p (tB 67 p (tB 71 p (tB 72 p (tL 72 p (.aload_n 0) 0) (tL 71 p (.aload_n 0) 0)) (tB 68 p (tL 68 p (.putfield 65) 16) (tL 67 p .iaload 0))) (tB 62 p (tB 65 p (tL 65 p (.iload 4) 0) (tL 62 p (.getfield 23) 4)) (tL 61 p (.aload_n 0) 0))) (tB 57 p (tB 59 p (tB 60 p (tL 60 p (.aload_n 0) 0) (tL 59 p .ireturn 0)) (tL 57 p (.bipush (-5)) 0)) (tB 51 p (tB 54 p (tL 54 p (.ifCond .ne 6) 60) (tL 51 p (.invokevirtual 105) 30)) (tL 48 p (.getfield 59) 14))))) (tB 27 p (tB 36 p (tB 43 p (tB 45 p (tB 47 p (tL 47 p (.aload_n 0) 0) (tL 45 p (.iload 4) 0)) (tB 44 p (tL 44 p (.aload_n 0) 0) (tL 43 p .ireturn 0))) (tB 38 p (tB 41 p (tL 41 p (.bipush (-4)) 0) (tL 38 p (.ifCond .ge 6) 44)) (tL 36 p (.iload 4) 0))) (tB 30 p (tB 31 p (tB 34 p (tL 34 p (.istore 4) 0) (tL 31 p (.invokevirtual 102) 29)) (tL 30 p (.iload_n 2) 0)) (tB 28 p (tB 29 p (tL 29 p (.iload_n 1) 0) (tL 28 p (.aload_n 0) 0)) (tL 27 p .ireturn 0)))) (tB 10 p (tB 17 p (tB 23 p (tB 26 p (tL 26 p (.iconst (-1)) 0) (tL 23 p (.if_icmp .ne 5) 28)) (tB 20 p (tL 20 p (.sipush 255) 0) (tL 17 p (.getfield 59) 14))) (tB 13 p (tB 16 p (tL 16 p (.aload_n 0) 0) (tL 13 p (.ifCond .eq 13) 26)) (tL 10 p (.getfield 59) 14))) (tB 3 p (tB 6 p (tB 9 p (tL 9 p (.aload_n 0) 0) (tL 6 p (.ifCond .eq 20) 26)) (tL 3 p (.invokevirtual 75) 10)) (tB 1 p (tB 2 p (tL 2 p (.iload_n 3) 0) (tL 1 p (.iload_n 2) 0)) (tL 0 p (.aload_n 0) 0))))))
set_option maxHeartbeats 4000000 in
def cd14 (p : Nat) : Option (Instr × Nat) := (tB 20 p (tB 27 p (tB 32 p (tB 35 p (tB 36 p (tL 36 p .ireturn 0) (tL 35 p (.iconst 1) 0)) (tL 32 p (.putfield 62) 15)) (tB 30 p (tB 31 p (tL 31 p (.iload_n 2) 0) (tL 30 p (.aload_n 0) 0)) (tL 27 p (.putfield 59) 14))) (tB 24 p (tB 25 p (tB 26 p (tL 26 p (.iload_n 1) 0) (tL 25 p (.aload_n 0) 0)) (tL 24 p .ireturn 0)) (tB 23 p (tL 23 p (.iconst 0) 0) (tL 20 p (.if_icmp .le 5) 25)))) (tB 9 p (tB 14 p (tB 17 p (tB 18 p (tL 18 p (.ldc 74) 0) (tL 17 p (.iload_n 2) 0)) (tL 14 p (.if_icmp .lt 9) 23)) (tB 12 p (tB 13 p (tL 13 p (.iconst 1) 0) (tL 12 p (.iload_n 2) 0)) (tL 9 p (.if_icmp .gt 14) 23))) (tB 2 p (tB 5 p (tB 6 p (tL 6 p (.sipush 255) 0) (tL 5 p (.iload_n 1) 0)) (tL 2 p (.if_icmp .lt 21) 23)) (tB 1 p (tL 1 p (.iconst 1) 0) (tL 0 p (.iload_n 1) 0)))))
set_option maxHeartbeats 4000000 in
def cd15 (p : Nat) : Option (Instr × Nat) := (tB 19 p (tB 31 p (tB 36 p (tB 39 p (tB 40 p (tL 40 p .ireturn 0) (tL 39 p (.iconst (-1)) 0)) (tL 36 p (.goto (-34)) 2)) (tB 32 p (tB 33 p (tL 33 p (.iinc 1 1) 0) (tL 32 p .ireturn 0)) (tL 31 p (.iload_n 1) 0))) (tB 24 p (tB 25 p (tB 28 p (tL 28 p (.if_icmp .gt 5) 33) (tL 25 p (.getfield 56) 13)) (tL 24 p (.aload_n 0) 0)) (tB 20 p (tB 21 p (tL 21 p (.invokevirtual 118) 16) (tL 20 p (.iload_n 1) 0)) (tL 19 p (.aload_n 0) 0)))) (tB 7 p (tB 14 p (tB 15 p (tB 16 p (tL 16 p (.ifCond .ne 17) 33) (tL 15 p .baload 0)) (tL 14 p (.iload_n 1) 0)) (tB 10 p (tB 11 p (tL 11 p (.getfield 7) 0) (tL 10 p (.aload_n 0) 0)) (tL 7 p (.if_icmp .ge 32) 39))) (tB 2 p (tB 3 p (tB 4 p (tL 4 p (.getfield 43) 9) (tL 3 p (.aload_n 0) 0)) (tL 2 p (.iload_n 1) 0)) (tB 1 p (tL 1 p (.istore_n 1) 0) (tL 0 p (.iconst 0) 0)))))
set_option maxHeartbeats 4000000 in
def cd16 (p : Nat) : Option (Instr × Nat) := (tB 11 p (tB 17 p (tB 21 p (tB 22 p (tL 22 p .ireturn 0) (tL 21 p .iadd 0)) (tB 18 p (tL 18 p (.getfield 53) 12) (tL 17 p (.aload_n 0) 0))) (tB 15 p (tB 16 p (tL 16 p .iaload 0) (tL 15 p (.iload_n 1) 0)) (tB 12 p (tL 12 p (.getfield 16) 2) (tL 11 p (.aload_n 0) 0)))) (tB 5 p (tB 9 p (tB 10 p (tL 10 p .ireturn 0) (tL 9 p (.iconst 0) 0)) (tB 6 p (tL 6 p (.ifCond .ne 5) 11) (tL 5 p .baload 0))) (tB 1 p (tB 4 p (tL 4 p (.iload_n 1) 0) (tL 1 p (.getfield 13) 1)) (tL 0 p (.aload_n 0) 0))))
set_option maxHeartbeats 4000000 in
def cd17 (p : Nat) : Option (Instr × Nat) := (tB 29 p (tB 46 p (tB 55 p (tB 57 p (tB 58 p (tB 61 p (tL 61 p .return_ 0) (tL 58 p (.invokevirtual 121) 18)) (tL 57 p (.iload_n 1) 0)) (tB 56 p (tL 56 p (.aload_n 0) 0) (tL 55 p .iastore 0))) (tB 50 p (tB 51 p (tB 52 p (tL 52 p (.getfield 56) 13) (tL 51 p (.aload_n 0) 0)) (tL 50 p (.iload_n 1) 0)) (tB 47 p (tL 47 p (.getfield 32) 7) (tL 46 p (.aload_n 0) 0)))) (tB 37 p (tB 41 p (tB 44 p (tB 45 p (tL 45 p .iastore 0) (tL 44 p (.iconst 1) 0)) (tL 41 p (.goto 4) 45)) (tB 40 p (tL 40 p (.iconst 0) 0) (tL 37 p (.if_icmp .ne 7) 44))) (tB 33 p (tB 34 p (tB 35 p (tL 35 p (.bipush 17) 0) (tL 34 p (.iload_n 2) 0)) (tL 33 p (.iload_n 1) 0)) (tB 30 p (tL 30 p (.getfield 29) 6) (tL 29 p (.aload_n 0) 0))))) (tB 14 p (tB 21 p (tB 25 p (tB 26 p (tB 28 p (tL 28 p .iastore 0) (tL 26 p (.iload 4) 0)) (tL 25 p (.iload_n 1) 0)) (tB 22 p (tL 22 p (.getfield 26) 5) (tL 21 p (.aload_n 0) 0))) (tB 18 p (tB 19 p (tB 20 p (tL 20 p .iastore 0) (tL 19 p (.iload_n 3) 0)) (tL 18 p (.iload_n 1) 0)) (tB 15 p (tL 15 p (.getfield 23) 4) (tL 14 p (.aload_n 0) 0)))) (tB 7 p (tB 11 p (tB 12 p (tB 13 p (tL 13 p .iastore 0) (tL 12 p (.iload_n 2) 0)) (tL 11 p (.iload_n 1) 0)) (tB 8 p (tL 8 p (.getfield 20) 3) (tL 7 p (.aload_n 0) 0))) (tB 4 p (tB 5 p (tB 6 p (tL 6 p .bastore 0) (tL 5 p (.iconst 1) 0)) (tL 4 p (.iload_n 1) 0)) (tB 1 p (tL 1 p (.getfield 7) 0) (tL 0 p (.aload_n 0) 0))))))
set_option maxHeartbeats 4000000 in
def cd18 (p : Nat) : Option (Instr × Nat) := (tB 11 p (tB 18 p (tB 20 p (tB 23 p (tB 26 p (tL 26 p .return_ 0) (tL 23 p (.goto (-17)) 6)) (tL 20 p (.iinc 3 1) 0)) (tB 19 p (tL 19 p .lastore 0) (tL 18 p (.lconst 0) 0))) (tB 15 p (tB 16 p (tB 17 p (tL 17 p .iadd 0) (tL 16 p (.iload_n 3) 0)) (tL 15 p (.iload_n 2) 0)) (tB 12 p (tL 12 p (.getfield 35) 8) (tL 11 p (.aload_n 0) 0)))) (tB 4 p (tB 6 p (tB 7 p (tB 8 p (tL 8 p (.if_icmp .ge 18) 26) (tL 7 p (.iconst 4) 0)) (tL 6 p (.iload_n 3) 0)) (tB 5 p (tL 5 p (.istore_n 3) 0) (tL 4 p (.iconst 0) 0))) (tB 2 p (tB 3 p (tL 3 p (.istore_n 2) 0) (tL 2 p .imul 0)) (tB 1 p (tL 1 p (.iconst 4) 0) (tL 0 p (.iload_n 1) 0)))))
set_option maxHeartbeats 4000000 in
def cd19 (p : Nat) : Option (Instr × Nat) := (tB 15 p (tB 23 p (tB 27 p (tB 29 p (tB 30 p (tL 30 p .return_ 0) (tL 29 p .lastore 0)) (tB 28 p (tL 28 p .lor 0) (tL 27 p .lshl 0))) (tB 24 p (tB 26 p (tL 26 p .iand 0) (tL 24 p (.bipush 63) 0)) (tL 23 p (.iload_n 2) 0))) (tB 20 p (tB 21 p (tB 22 p (tL 22 p (.lconst 1) 0) (tL 21 p .laload 0)) (tL 20 p (.iload_n 3) 0)) (tB 16 p (tB 17 p (tL 17 p (.getfield 35) 8) (tL 16 p (.aload_n 0) 0)) (tL 15 p (.iload_n 3) 0)))) (tB 7 p (tB 10 p (tB 11 p (tB 12 p (tL 12 p (.getfield 35) 8) (tL 11 p (.aload_n 0) 0)) (tL 10 p (.istore_n 3) 0)) (tB 8 p (tB 9 p (tL 9 p .iadd 0) (tL 8 p .iand 0)) (tL 7 p (.iconst 3) 0))) (tB 3 p (tB 4 p (tB 6 p (tL 6 p .ishr 0) (tL 4 p (.bipush 6) 0)) (tL 3 p (.iload_n 2) 0)) (tB 1 p (tB 2 p (tL 2 p .imul 0) (tL 1 p (.iconst 4) 0)) (tL 0 p (.iload_n 1) 0)))))
set_option maxHeartbeats 4000000 in
def cd20 (p : Nat) : Option (Instr × Nat) := (tB 63 p (tB 104 p (tB 121 p (tB 130 p (tB 135 p (tB 136 p (tB 137 p (tL 137 p .return_ 0) (tL 136 p .iastore 0)) (tL 135 p .iadd 0)) (tB 132 p (tL 132 p (.invokevirtual 125) 21) (tL 130 p (.iload 4) 0))) (tB 125 p (tB 126 p (tB 129 p (tL 129 p (.aload_n 0) 0) (tL 126 p (.getfield 56) 13)) (tL 125 p (.aload_n 0) 0)) (tB 124 p (tL 124 p (.iload_n 1) 0) (tL 121 p (.getfield 32) 7)))) (tB 113 p (tB 117 p (tB 119 p (tB 120 p (tL 120 p (.aload_n 0) 0) (tL 119 p .iastore 0)) (tL 117 p (.iload 4) 0)) (tB 116 p (tL 116 p (.iload_n 1) 0) (tL 113 p (.getfield 29) 6))) (tB 109 p (tB 110 p (tB 112 p (tL 112 p (.aload_n 0) 0) (tL 110 p (.istore 4) 0)) (tL 109 p (.iconst 1) 0)) (tB 106 p (tL 106 p (.ifCond .ne 6) 112) (tL 104 p (.iload 6) 0))))) (tB 83 p (tB 93 p (tB 96 p (tB 99 p (tB 101 p (tL 101 p (.ifCond .eq 11) 112) (tL 99 p (.iload 5) 0)) (tL 96 p (.if_icmp .ne 16) 112)) (tB 95 p (tL 95 p (.iconst 3) 0) (tL 93 p (.iload 4) 0))) (tB 86 p (tB 89 p (tB 90 p (tL 90 p (.ifCond .ne 22) 112) (tL 89 p (.iload_n 3) 0)) (tL 86 p (.goto 26) 112)) (tB 84 p (tL 84 p (.istore 4) 0) (tL 83 p (.iconst 2) 0)))) (tB 70 p (tB 75 p (tB 78 p (tB 80 p (tL 80 p (.ifCond .eq 9) 89) (tL 78 p (.iload 6) 0)) (tL 75 p (.ifCond .eq 14) 89)) (tB 73 p (tL 73 p (.iload 5) 0) (tL 70 p (.if_icmp .ne 19) 89))) (tB 67 p (tB 69 p (tL 69 p (.iconst 1) 0) (tL 67 p (.iload 4) 0)) (tB 64 p (tL 64 p (.ifCond .eq 25) 89) (tL 63 p (.iload_n 3) 0)))))) (tB 31 p (tB 45 p (tB 53 p (tB 57 p (tB 58 p (tB 60 p (tL 60 p (.goto 52) 112) (tL 58 p (.istore 4) 0)) (tL 57 p (.iconst 3) 0)) (tB 54 p (tL 54 p (.ifCond .eq 9) 63) (tL 53 p .iand 0))) (tB 49 p (tB 51 p (tB 52 p (tL 52 p (.iconst 4) 0) (tL 51 p (.iload_n 2) 0)) (tL 49 p (.istore 6) 0)) (tB 48 p (tL 48 p (.iconst 0) 0) (tL 45 p (.goto 4) 49)))) (tB 38 p (tB 40 p (tB 41 p (tB 44 p (tL 44 p (.iconst 1) 0) (tL 41 p (.ifCond .eq 7) 48)) (tL 40 p .iand 0)) (tB 39 p (tL 39 p (.iconst 2) 0) (tL 38 p (.iload_n 2) 0))) (tB 35 p (tB 36 p (tL 36 p (.istore 5) 0) (tL 35 p (.iconst 0) 0)) (tB 32 p (tL 32 p (.goto 4) 36) (tL 31 p (.iconst 1) 0))))) (tB 16 p (tB 23 p (tB 26 p (tB 27 p (tB 28 p (tL 28 p (.ifCond .eq 7) 35) (tL 27 p .iand 0)) (tL 26 p (.iconst 1) 0)) (tB 25 p (tL 25 p (.iload_n 2) 0) (tL 23 p (.istore 4) 0))) (tB 18 p (tB 21 p (tB 22 p (tL 22 p .iaload 0) (tL 21 p (.iload_n 1) 0)) (tL 18 p (.getfield 29) 6)) (tB 17 p (tL 17 p (.aload_n 0) 0) (tL 16 p .return_ 0)))) (tB 7 p (tB 9 p (tB 10 p (tB 13 p (tL 13 p (.invokevirtual 108) 35) (tL 10 p (.getfield 56) 13)) (tL 9 p (.aload_n 0) 0)) (tB 8 p (tL 8 p (.iload_n 1) 0) (tL 7 p (.aload_n 0) 0))) (tB 3 p (tB 4 p (tL 4 p (.ifCond .eq 13) 17) (tL 3 p .iand 0)) (tB 1 p (tL 1 p (.bipush 8) 0) (tL 0 p (.iload_n 2) 0)))))))
set_option maxHeartbeats 4000000 in
def cd21 (p : Nat) : Option (Instr × Nat) := (tB 10 p (tB 15 p (tB 19 p (tB 21 p (tL 21 p .ireturn 0) (tL 19 p (.bipush 10) 0)) (tB 18 p (tL 18 p .ireturn 0) (tL 15 p (.getfield 50) 11))) (tB 11 p (tB 14 p (tL 14 p (.aload_n 0) 0) (tL 11 p (.if_icmp .ne 8) 19)) (tL 10 p (.iconst 2) 0))) (tB 5 p (tB 8 p (tB 9 p (tL 9 p (.iload_n 1) 0) (tL 8 p .ireturn 0)) (tL 5 p (.getfield 47) 10)) (tB 1 p (tB 4 p (tL 4 p (.aload_n 0) 0) (tL 1 p (.ifCond .ne 8) 9)) (tL 0 p (.iload_n 1) 0))))
set_option maxHeartbeats 4000000 in
def cd22 (p : Nat) : Option (Instr × Nat) := (tB 1 p (tB 4 p (tL 4 p .ireturn 0) (tL 1 p (.getfield 71) 18)) (tL 0 p (.aload_n 0) 0))
set_option maxHeartbeats 4000000 in
def cd23 (p : Nat) : Option (Instr × Nat) := (tB 5 p (tB 9 p (tB 10 p (tB 11 p (tL 11 p .ireturn 0) (tL 10 p .l2i 0)) (tL 9 p .land 0)) (tB 6 p (tL 6 p (.ldc2_w 7) 1) (tL 5 p .lushr 0))) (tB 3 p (tB 4 p (tL 4 p .imul 0) (tL 3 p (.iload_n 2) 0)) (tB 1 p (tL 1 p (.bipush 16) 0) (tL 0 p (.lload_n 0) 0))))
set_option maxHeartbeats 4000000 in
def cd24 (p : Nat) : Option (Instr × Nat) := (tB 17 p (tB 24 p (tB 28 p (tB 29 p (tB 30 p (tL 30 p .lreturn 0) (tL 29 p .lor 0)) (tL 28 p .lshl 0)) (tB 26 p (tB 27 p (tL 27 p .imul 0) (tL 26 p (.iload_n 2) 0)) (tL 24 p (.bipush 8) 0))) (tB 19 p (tB 20 p (tB 23 p (tL 23 p .land 0) (tL 20 p (.ldc2_w 11) 2)) (tL 19 p .i2l 0)) (tB 18 p (tL 18 p (.iload_n 3) 0) (tL 17 p .land 0)))) (tB 8 p (tB 11 p (tB 13 p (tB 16 p (tL 16 p .lxor 0) (tL 13 p (.ldc2_w 9) 3)) (tL 11 p (.lload 4) 0)) (tB 10 p (tL 10 p (.lload_n 0) 0) (tL 8 p (.lstore 4) 0))) (tB 5 p (tB 6 p (tB 7 p (tL 7 p .lshl 0) (tL 6 p .imul 0)) (tL 5 p (.iload_n 2) 0)) (tB 3 p (tL 3 p (.bipush 8) 0) (tL 0 p (.ldc2_w 11) 2)))))
set_option maxHeartbeats 4000000 in
def cd25 (p : Nat) : Option (Instr × Nat) := (tB 10 p (tB 13 p (tB 17 p (tB 18 p (tL 18 p .ireturn 0) (tL 17 p .iaload 0)) (tB 16 p (tL 16 p (.iload_n 2) 0) (tL 13 p (.getfield 29) 6))) (tB 11 p (tB 12 p (tL 12 p (.aload_n 0) 0) (tL 11 p .ireturn 0)) (tL 10 p (.iconst (-1)) 0))) (tB 5 p (tB 6 p (tB 7 p (tL 7 p (.ifCond .ge 5) 12) (tL 6 p (.iload_n 2) 0)) (tL 5 p (.istore_n 2) 0)) (tB 1 p (tB 2 p (tL 2 p (.invokevirtual 111) 5) (tL 1 p (.iload_n 1) 0)) (tL 0 p (.aload_n 0) 0))))
set_option maxHeartbeats 4000000 in
def cd26 (p : Nat) : Option (Instr × Nat) := (tB 10 p (tB 13 p (tB 17 p (tB 18 p (tL 18 p .ireturn 0) (tL 17 p .iaload 0)) (tB 16 p (tL 16 p (.iload_n 2) 0) (tL 13 p (.getfield 26) 5))) (tB 11 p (tB 12 p (tL 12 p (.aload_n 0) 0) (tL 11 p .ireturn 0)) (tL 10 p (.iconst (-1)) 0))) (tB 5 p (tB 6 p (tB 7 p (tL 7 p (.ifCond .ge 5) 12) (tL 6 p (.iload_n 2) 0)) (tL 5 p (.istore_n 2) 0)) (tB 1 p (tB 2 p (tL 2 p (.invokevirtual 111) 5) (tL 1 p (.iload_n 1) 0)) (tL 0 p (.aload_n 0) 0))))
set_option maxHeartbeats 4000000 in
def cd27 (p : Nat) : Option (Instr × Nat) := (tB 10 p (tB 13 p (tB 17 p (tB 18 p (tL 18 p .ireturn 0) (tL 17 p .iaload 0)) (tB 16 p (tL 16 p (.iload_n 2) 0) (tL 13 p (.getfield 32) 7))) (tB 11 p (tB 12 p (tL 12 p (.aload_n 0) 0) (tL 11 p .ireturn 0)) (tL 10 p (.iconst (-1)) 0))) (tB 5 p (tB 6 p (tB 7 p (tL 7 p (.ifCond .ge 5) 12) (tL 6 p (.iload_n 2) 0)) (tL 5 p (.istore_n 2) 0)) (tB 1 p (tB 2 p (tL 2 p (.invokevirtual 111) 5) (tL 1 p (.iload_n 1) 0)) (tL 0 p (.aload_n 0) 0))))
set_option maxHeartbeats 4000000 in
def cd28 (p : Nat) : Option (Instr × Nat) := (tB 17 p (tB 24 p (tB 28 p (tB 29 p (tB 30 p (tL 30 p .lreturn 0) (tL 29 p .lor 0)) (tL 28 p .lshl 0)) (tB 26 p (tB 27 p (tL 27 p .imul 0) (tL 26 p (.iload_n 2) 0)) (tL 24 p (.bipush 16) 0))) (tB 19 p (tB 20 p (tB 23 p (tL 23 p .land 0) (tL 20 p (.ldc2_w 7) 1)) (tL 19 p .i2l 0)) (tB 18 p (tL 18 p (.iload_n 3) 0) (tL 17 p .land 0)))) (tB 8 p (tB 11 p (tB 13 p (tB 16 p (tL 16 p .lxor 0) (tL 13 p (.ldc2_w 9) 3)) (tL 11 p (.lload 4) 0)) (tB 10 p (tL 10 p (.lload_n 0) 0) (tL 8 p (.lstore 4) 0))) (tB 5 p (tB 6 p (tB 7 p (tL 7 p .lshl 0) (tL 6 p .imul 0)) (tL 5 p (.iload_n 2) 0)) (tB 3 p (tL 3 p (.bipush 16) 0) (tL 0 p (.ldc2_w 7) 1)))))
set_option maxHeartbeats 4000000 in
def cd29 (p : Nat) : Option (Instr × Nat) := (tB 14 p (tB 20 p (tB 22 p (tB 23 p (tL 23 p .ireturn 0) (tL 22 p (.iload_n 3) 0)) (tB 21 p (tL 21 p .ireturn 0) (tL 20 p (.iconst (-1)) 0))) (tB 16 p (tB 17 p (tL 17 p (.if_icmp .eq 5) 22) (tL 16 p (.iload_n 2) 0)) (tB 15 p (tL 15 p .iaload 0) (tL 14 p (.iload_n 3) 0)))) (tB 6 p (tB 10 p (tB 11 p (tL 11 p (.getfield 20) 3) (tL 10 p (.aload_n 0) 0)) (tB 7 p (tL 7 p (.ifCond .lt 13) 20) (tL 6 p (.iload_n 3) 0))) (tB 2 p (tB 5 p (tL 5 p (.istore_n 3) 0) (tL 2 p (.invokevirtual 111) 5)) (tB 1 p (tL 1 p (.iload_n 1) 0) (tL 0 p (.aload_n 0) 0)))))
set_option maxHeartbeats 4000000 in
def cd30 (p : Nat) : Option (Instr × Nat) := (tB 16 p (tB 24 p (tB 29 p (tB 33 p (tB 34 p (tL 34 p .ireturn 0) (tL 33 p (.iconst 0) 0)) (tB 30 p (tL 30 p (.goto 4) 34) (tL 29 p (.iconst 1) 0))) (tB 25 p (tB 26 p (tL 26 p (.ifCond .eq 7) 33) (tL 25 p .lcmp 0)) (tL 24 p (.lconst 0) 0))) (tB 19 p (tB 22 p (tB 23 p (tL 23 p .land 0) (tL 22 p .lshl 0)) (tB 21 p (tL 21 p .iand 0) (tL 19 p (.bipush 63) 0))) (tB 17 p (tB 18 p (tL 18 p (.iload_n 2) 0) (tL 17 p (.lconst 1) 0)) (tL 16 p .laload 0)))) (tB 7 p (tB 10 p (tB 12 p (tB 15 p (tL 15 p (.iload_n 3) 0) (tL 12 p (.getfield 35) 8)) (tB 11 p (tL 11 p (.aload_n 0) 0) (tL 10 p (.istore_n 3) 0))) (tB 8 p (tB 9 p (tL 9 p .iadd 0) (tL 8 p .iand 0)) (tL 7 p (.iconst 3) 0))) (tB 3 p (tB 4 p (tB 6 p (tL 6 p .ishr 0) (tL 4 p (.bipush 6) 0)) (tL 3 p (.iload_n 2) 0)) (tB 1 p (tB 2 p (tL 2 p .imul 0) (tL 1 p (.iconst 4) 0)) (tL 0 p (.iload_n 1) 0)))))
set_option maxHeartbeats 4000000 in
def cd31 (p : Nat) : Option (Instr × Nat) := (tB 1 p (tB 4 p (tL 4 p .ireturn 0) (tL 1 p (.getfield 65) 16)) (tL 0 p (.aload_n 0) 0))
set_option maxHeartbeats 4000000 in
def cd32 (p : Nat) : Option (Instr × Nat) := (tB 1 p (tB 4 p (tL 4 p .ireturn 0) (tL 1 p (.getfield 68) 17)) (tL 0 p (.aload_n 0) 0))
set_option maxHeartbeats 4000000 in
def cd33 (p : Nat) : Option (Instr × Nat) := (tB 29 p (tB 45 p (tB 50 p (tB 54 p (tB 57 p (tB 58 p (tL 58 p .ireturn 0) (tL 57 p (.iconst 0) 0)) (tL 54 p (.goto 4) 58)) (tB 53 p (tL 53 p (.iconst 1) 0) (tL 50 p (.if_icmp .ne 7) 57))) (tB 47 p (tB 48 p (tL 48 p (.iload 5) 0) (tL 47 p .iadd 0)) (tB 46 p (tL 46 p (.iconst 1) 0) (tL 45 p .iand 0)))) (tB 35 p (tB 38 p (tB 41 p (tB 43 p (tL 43 p (.bipush 7) 0) (tL 41 p (.iload 6) 0)) (tL 38 p (.if_icmp .ne 19) 57)) (tB 36 p (tL 36 p (.iload 4) 0) (tL 35 p .iand 0))) (tB 32 p (tB 33 p (tL 33 p (.bipush 7) 0) (tL 32 p .iushr 0)) (tB 31 p (tL 31 p (.iconst 3) 0) (tL 29 p (.iload 6) 0))))) (tB 12 p (tB 20 p (tB 24 p (tB 27 p (tB 28 p (tL 28 p .ireturn 0) (tL 27 p (.iconst 0) 0)) (tL 24 p (.ifCond .ne 5) 29)) (tB 23 p (tL 23 p .iand 0) (tL 20 p (.sipush 128) 0))) (tB 16 p (tB 18 p (tL 18 p (.iload 6) 0) (tL 16 p (.istore 6) 0)) (tB 13 p (tL 13 p (.invokestatic 13) 34) (tL 12 p (.iload_n 2) 0)))) (tB 6 p (tB 10 p (tB 11 p (tL 11 p (.lload_n 0) 0) (tL 10 p .ireturn 0)) (tB 9 p (tL 9 p (.iconst 0) 0) (tL 6 p (.if_icmp .lt 5) 11))) (tB 4 p (tB 5 p (tL 5 p (.iload_n 3) 0) (tL 4 p (.iload_n 2) 0)) (tB 1 p (tL 1 p (.ifCond .lt 8) 9) (tL 0 p (.iload_n 2) 0))))))
set_option maxHeartbeats 4000000 in
def cd34 (p : Nat) : Option (Instr × Nat) := (tB 5 p (tB 9 p (tB 10 p (tB 11 p (tL 11 p .ireturn 0) (tL 10 p .l2i 0)) (tL 9 p .land 0)) (tB 6 p (tL 6 p (.ldc2_w 11) 2) (tL 5 p .lushr 0))) (tB 3 p (tB 4 p (tL 4 p .imul 0) (tL 3 p (.iload_n 2) 0)) (tB 1 p (tL 1 p (.bipush 8) 0) (tL 0 p (.lload_n 0) 0))))
set_option maxHeartbeats 4000000 in
def cd35 (p : Nat) : Option (Instr × Nat) := (tB 13 p (tB 20 p (tB 22 p (tB 23 p (tB 26 p (tL 26 p .return_ 0) (tL 23 p (.invokevirtual 121) 18)) (tL 22 p (.iload_n 1) 0)) (tB 21 p (tL 21 p (.aload_n 0) 0) (tL 20 p .iastore 0))) (tB 15 p (tB 18 p (tB 19 p (tL 19 p (.iload_n 2) 0) (tL 18 p (.iload_n 1) 0)) (tL 15 p (.getfield 16) 2)) (tB 14 p (tL 14 p (.aload_n 0) 0) (tL 13 p .bastore 0)))) (tB 6 p (tB 8 p (tB 11 p (tB 12 p (tL 12 p (.iconst 1) 0) (tL 11 p (.iload_n 1) 0)) (tL 8 p (.getfield 13) 1)) (tB 7 p (tL 7 p (.aload_n 0) 0) (tL 6 p .bastore 0))) (tB 4 p (tB 5 p (tL 5 p (.iconst 0) 0) (tL 4 p (.iload_n 1) 0)) (tB 1 p (tL 1 p (.getfield 7) 0) (tL 0 p (.aload_n 0) 0)))))
set_option maxHeartbeats 4000000 in
def cd36 (p : Nat) : Option (Instr × Nat) := (tB 36 p (tB 52 p (tB 59 p (tB 61 p (tB 64 p (tB 65 p (tL 65 p .ireturn 0) (tL 64 p (.iconst 3) 0)) (tL 61 p (.invokevirtual 94) 20)) (tB 60 p (tL 60 p (.iconst 1) 0) (tL 59 p (.iload_n 2) 0))) (tB 54 p (tB 57 p (tB 58 p (tL 58 p (.iload_n 3) 0) (tL 57 p (.aload_n 0) 0)) (tL 54 p (.putfield 68) 17)) (tB 53 p (tL 53 p .iaload 0) (tL 52 p (.iload_n 3) 0)))) (tB 43 p (tB 47 p (tB 48 p (tB 49 p (tL 49 p (.getfield 26) 5) (tL 48 p (.aload_n 0) 0)) (tL 47 p (.aload_n 0) 0)) (tB 44 p (tL 44 p (.putfield 65) 16) (tL 43 p .iaload 0))) (tB 38 p (tB 39 p (tB 42 p (tL 42 p (.iload_n 3) 0) (tL 39 p (.getfield 23) 4)) (tL 38 p (.aload_n 0) 0)) (tB 37 p (tL 37 p (.aload_n 0) 0) (tL 36 p .ireturn 0))))) (tB 16 p (tB 27 p (tB 31 p (tB 32 p (tB 35 p (tL 35 p (.iconst 4) 0) (tL 32 p (.putfield 68) 17)) (tL 31 p (.iconst (-1)) 0)) (tB 30 p (tL 30 p (.aload_n 0) 0) (tL 27 p (.putfield 65) 16))) (tB 22 p (tB 25 p (tB 26 p (tL 26 p (.iconst (-1)) 0) (tL 25 p (.aload_n 0) 0)) (tL 22 p (.ifCond .ne 15) 37)) (tB 19 p (tL 19 p (.invokevirtual 105) 30) (tL 16 p (.sipush 255) 0)))) (tB 9 p (tB 11 p (tB 14 p (tB 15 p (tL 15 p (.iload_n 3) 0) (tL 14 p (.aload_n 0) 0)) (tL 11 p (.ifCond .lt 14) 25)) (tB 10 p (tL 10 p (.iload_n 3) 0) (tL 9 p (.istore_n 3) 0))) (tB 2 p (tB 5 p (tB 6 p (tL 6 p (.invokevirtual 102) 29) (tL 5 p (.iload_n 1) 0)) (tL 2 p (.getfield 62) 15)) (tB 1 p (tL 1 p (.aload_n 0) 0) (tL 0 p (.aload_n 0) 0))))))
def pCode (m pc : Nat) : Option (Instr × Nat) := bif Nat.ble pN m then none else bif Nat.ble (pTop m) pc then none else (bif Nat.ble 18 m then (bif Nat.ble 27 m then (bif Nat.ble 32 m then (bif Nat.ble 34 m then (bif Nat.ble 35 m then (bif Nat.ble 36 m then cd36 pc else cd35 pc) else cd34 pc) else (bif Nat.ble 33 m then cd33 pc else cd32 pc)) else (bif Nat.ble 29 m then (bif Nat.ble 30 m then (bif Nat.ble 31 m then cd31 pc else cd30 pc) else cd29 pc) else (bif Nat.ble 28 m then cd28 pc else cd27 pc))) else (bif Nat.ble 22 m then (bif Nat.ble 24 m then (bif Nat.ble 25 m then (bif Nat.ble 26 m then cd26 pc else cd25 pc) else cd24 pc) else (bif Nat.ble 23 m then cd23 pc else cd22 pc)) else (bif Nat.ble 20 m then (bif Nat.ble 21 m then cd21 pc else cd20 pc) else (bif Nat.ble 19 m then cd19 pc else cd18 pc)))) else (bif Nat.ble 9 m then (bif Nat.ble 13 m then (bif Nat.ble 15 m then (bif Nat.ble 16 m then (bif Nat.ble 17 m then cd17 pc else cd16 pc) else cd15 pc) else (bif Nat.ble 14 m then cd14 pc else cd13 pc)) else (bif Nat.ble 11 m then (bif Nat.ble 12 m then cd12 pc else cd11 pc) else (bif Nat.ble 10 m then cd10 pc else cd9 pc))) else (bif Nat.ble 4 m then (bif Nat.ble 6 m then (bif Nat.ble 7 m then (bif Nat.ble 8 m then cd8 pc else cd7 pc) else cd6 pc) else (bif Nat.ble 5 m then cd5 pc else cd4 pc)) else (bif Nat.ble 2 m then (bif Nat.ble 3 m then cd3 pc else cd2 pc) else (bif Nat.ble 1 m then cd1 pc else cd0 pc)))))
def lkF : List (Nat × Nat × Nat) := [(1, 7, 0), (1, 13, 1), (1, 16, 2), (1, 20, 3), (1, 23, 4), (1, 26, 5), (1, 29, 6), (1, 32, 7), (1, 35, 8), (1, 43, 9), (1, 47, 10), (1, 50, 11), (1, 53, 12), (1, 56, 13), (1, 59, 14), (1, 62, 15), (1, 65, 16), (1, 68, 17), (1, 71, 18)]
def lkN : List (Nat × Nat) := [(0, 23)]
def lkC : List (Nat × Nat × Nat) := [(1, 74, 0)]
def lkD : List (Nat × Nat × Nat) := [(0, 7, 1), (0, 11, 2), (0, 9, 3)]
def lkV : List (Nat × Nat × Nat) := [(0, 19, 1), (0, 25, 2), (1, 39, 3), (0, 28, 4), (1, 111, 5), (1, 115, 6), (0, 43, 7), (1, 79, 8), (0, 47, 9), (1, 75, 10), (0, 55, 11), (0, 77, 12), (0, 74, 13), (0, 39, 14), (1, 82, 15), (1, 118, 16), (1, 86, 17), (1, 121, 18), (1, 90, 19), (1, 94, 20), (1, 125, 21), (0, 51, 22), (0, 58, 23), (0, 61, 24), (0, 81, 25), (0, 84, 26), (0, 32, 27), (0, 35, 28), (1, 102, 29), (1, 105, 30), (0, 64, 31), (0, 67, 32), (0, 70, 33), (0, 13, 34), (1, 108, 35), (1, 98, 36)]
def lkO : List (Nat × Nat) := [(1, 1)]
def mV : List Nat := [4, 7, 9, 11, 12, 13, 14, 22, 25, 26, 27, 31, 32]
def mP : List Nat := [3, 5, 6, 8, 10, 15, 16, 17, 18, 19, 20, 21, 29, 30, 35, 36]
def mS : List Nat := [1, 23, 24, 28, 33, 34]
def mI : List Nat := [2]
def mA : List Nat := [1, 2, 3, 4, 5, 6, 7, 8, 9, 10, 11, 12, 13, 14, 15, 16, 17, 18, 19, 20, 21, 22, 23, 24, 25, 26, 27, 28, 29, 30, 31, 32, 33, 34, 35, 36]
def aTys : List FieldType := [.boolean, .int, .long]
abbrev QCell := List Value ⊕ ((FieldType × List Int32) ⊕ List Int64)
abbrev QHeap := List QCell
abbrev QLoc := List (Option Value)
abbrev vI (x : Int32) : Option Value := some (.int x)
abbrev vR (a : Addr) : Option Value := some (.ref a)
abbrev vL (x : Int64) : Option Value := some (.long x)
abbrev QSt := Nat × QLoc × List Value × QHeap
def qv (ad : Nat → Addr) : Value → Value
 | .ref k => .ref (ad k)
 | v => v
def qsz : QCell → Nat
 | .inl _ => cN
 | .inr (.inl x) => x.2.length
 | .inr (.inr x) => x.length
def qhs : QHeap → Nat
 | [] => 0
 | c :: t => qsz c + qhs t
def aget {α : Type} (xs : List α) (j : Int32) : Option α := if j < 0 then none else xs[j.toNatClampNeg]?
def aset {α : Type} (xs : List α) (j : Int32) (v : α) : Option (List α) := if j < 0 then none else if j.toNatClampNeg < xs.length then some (xs.set j.toNatClampNeg v) else none
def qnew (n : Int32) : Option Nat := if n < 0 then none else if n.toNatClampNeg ≤ 67108864 then some n.toNatClampNeg else none
def qdiv (x y : Int32) : Option Int32 := if y = 0 then none else some (x / y)
def qrem (x y : Int32) : Option Int32 := if y = 0 then none else some (x % y)
def qboo (x : Int32) : Option Int32 := if x = 0 then some x else if x = 1 then some x else none
def lget : QLoc → Nat → Option Value
 | [], _ => none
 | v :: _, 0 => v
 | _ :: t, k + 1 => lget t k
def hget : QHeap → Nat → Option QCell
 | [], _ => none
 | v :: _, 0 => some v
 | _ :: t, k + 1 => hget t k
def vget : List Value → Nat → Option Value
 | [], _ => none
 | v :: _, 0 => some v
 | _ :: t, k + 1 => vget t k
def lkill (L : QLoc) : Nat → QLoc
 | 0 => L
 | k + 1 => match lget L k with
  | some (.long _) => L.set k none
  | some (.double _) => L.set k none
  | _ => L
def lput (L : QLoc) (k : Nat) (v : Value) : Option QLoc :=
 match v with
 | .long x => bif Nat.ble (k + 2) L.length then some (((lkill L k).set k (some (.long x))).set (k + 1) none) else none
 | .double _ => none
 | v => bif Nat.ble (k + 1) L.length then some ((lkill L k).set k (some v)) else none
def qload (pc : Nat) (L : QLoc) (S : List Value) (σ : QHeap) (k : Nat) (ok : Value → Bool) : Option QSt :=
 match lget L k with
 | some v => bif ok v then some (pc, L, v :: S, σ) else none
 | none => none
def isI : Value → Bool | .int _ => true | _ => false
def isJ : Value → Bool | .long _ => true | _ => false
def isR : Value → Bool | .ref _ => true | _ => false
def qstore (pc : Nat) (L : QLoc) (S : List Value) (σ : QHeap) (k : Nat) (ok : Value → Bool) : Option QSt :=
 match S with
 | v :: S' => bif ok v then (match lput L k v with | some L' => some (pc, L', S', σ) | none => none) else none
 | [] => none
def qbin (pc : Nat) (L : QLoc) (S : List Value) (σ : QHeap) (f : Int32 → Int32 → Int32) : Option QSt :=
 match S with
 | .int y :: .int x :: S' => some (pc, L, .int (f x y) :: S', σ)
 | _ => none
def qbino (pc : Nat) (L : QLoc) (S : List Value) (σ : QHeap) (f : Int32 → Int32 → Option Int32) : Option QSt :=
 match S with
 | .int y :: .int x :: S' => (f x y).bind fun z => some (pc, L, .int z :: S', σ)
 | _ => none
def qbinJ (pc : Nat) (L : QLoc) (S : List Value) (σ : QHeap) (f : Int64 → Int64 → Int64) : Option QSt :=
 match S with
 | .long y :: .long x :: S' => some (pc, L, .long (f x y) :: S', σ)
 | _ => none
def qshJ (pc : Nat) (L : QLoc) (S : List Value) (σ : QHeap) (f : Int64 → Int32 → Int64) : Option QSt :=
 match S with
 | .int y :: .long x :: S' => some (pc, L, .long (f x y) :: S', σ)
 | _ => none
def quni (pc : Nat) (L : QLoc) (S : List Value) (σ : QHeap) (f : Int32 → Value) : Option QSt :=
 match S with
 | .int x :: S' => some (pc, L, f x :: S', σ)
 | _ => none
def quniJ (pc : Nat) (L : QLoc) (S : List Value) (σ : QHeap) (f : Int64 → Value) : Option QSt :=
 match S with
 | .long x :: S' => some (pc, L, f x :: S', σ)
 | _ => none
def qald (pc : Nat) (L : QLoc) (S : List Value) (σ : QHeap) (ok : FieldType → Bool) : Option QSt :=
 match S with
 | .int j :: .ref a :: S' => (match hget σ a with
  | some (.inr (.inl x)) => bif ok x.1 then (aget x.2 j).bind fun v => some (pc, L, .int v :: S', σ) else none
  | _ => none)
 | _ => none
def qaldJ (pc : Nat) (L : QLoc) (S : List Value) (σ : QHeap) : Option QSt :=
 match S with
 | .int j :: .ref a :: S' => (match hget σ a with
  | some (.inr (.inr x)) => (aget x j).bind fun v => some (pc, L, .long v :: S', σ)
  | _ => none)
 | _ => none
def qnar : FieldType → Int32 → Int32
 | .boolean, x => x &&& 1
 | .byte, x => x.toInt8.toInt32
 | _, x => x
def qast (pc : Nat) (L : QLoc) (S : List Value) (σ : QHeap) (ok : FieldType → Bool) : Option QSt :=
 match S with
 | .int v :: .int j :: .ref a :: S' => (match hget σ a with
  | some (.inr (.inl x)) => bif ok x.1 && Nat.ble k0 a then (aset x.2 j (qnar x.1 v)).bind fun y => some (pc, L, S', σ.set a (.inr (.inl (x.1, y)))) else none
  | _ => none)
 | _ => none
def qastJ (pc : Nat) (L : QLoc) (S : List Value) (σ : QHeap) : Option QSt :=
 match S with
 | .long v :: .int j :: .ref a :: S' => (match hget σ a with
  | some (.inr (.inr x)) => bif Nat.ble k0 a then (aset x j v).bind fun y => some (pc, L, S', σ.set a (.inr (.inr y))) else none
  | _ => none)
 | _ => none
def tyI : FieldType → Bool | .int => true | _ => false
def tyB : FieldType → Bool | .boolean => true | .byte => true | _ => false
def qfit : FieldType → Value → Option Value
 | .int, .int x => some (.int x)
 | .boolean, .int x => (qboo x).bind fun y => some (.int y)
 | .long, .long x => some (.long x)
 | .array t, .ref a => some (.ref a)
 | _, _ => none
def qget (pc : Nat) (L : QLoc) (S : List Value) (σ : QHeap) (k : Nat) : Option QSt :=
 match S with
 | .ref a :: S' => (match hget σ a with
  | some (.inl vs) => (match vget vs k with | some v => some (pc, L, v :: S', σ) | none => none)
  | _ => none)
 | _ => none
def qput (pc : Nat) (L : QLoc) (S : List Value) (σ : QHeap) (k : Nat) : Option QSt :=
 match S with
 | v :: .ref a :: S' => (match hget σ a with
  | some (.inl vs) => bif Nat.ble k0 a && Nat.ble (k + 1) vs.length then (qfit (fTy k) v).bind fun w => some (pc, L, S', σ.set a (.inl (vs.set k w))) else none
  | _ => none)
 | _ => none
def qnewA (pc : Nat) (L : QLoc) (S : List Value) (σ : QHeap) (t : ArrayType) : Option QSt :=
 match S with
 | .int n :: S' => (match t with
  | .int => (qnew n).bind fun k => some (pc, L, .ref σ.length :: S', σ ++ [.inr (.inl (.int, List.replicate k 0))])
  | .boolean => (qnew n).bind fun k => some (pc, L, .ref σ.length :: S', σ ++ [.inr (.inl (.boolean, List.replicate k 0))])
  | .byte => (qnew n).bind fun k => some (pc, L, .ref σ.length :: S', σ ++ [.inr (.inl (.byte, List.replicate k 0))])
  | .long => (qnew n).bind fun k => some (pc, L, .ref σ.length :: S', σ ++ [.inr (.inr (List.replicate k 0))])
  | _ => none)
 | _ => none
def qlen (pc : Nat) (L : QLoc) (S : List Value) (σ : QHeap) : Option QSt :=
 match S with
 | .ref a :: S' => (match hget σ a with
  | some (.inr (.inl x)) => some (pc, L, .int x.2.length.toInt32 :: S', σ)
  | some (.inr (.inr x)) => some (pc, L, .int x.length.toInt32 :: S', σ)
  | _ => none)
 | _ => none
def qdup (pc : Nat) (L : QLoc) (S : List Value) (σ : QHeap) : Option QSt :=
 match S with
 | .int x :: S' => some (pc, L, .int x :: .int x :: S', σ)
 | .ref x :: S' => some (pc, L, .ref x :: .ref x :: S', σ)
 | _ => none
def qdup2 (pc : Nat) (L : QLoc) (S : List Value) (σ : QHeap) : Option QSt :=
 match S with
 | .int x :: .ref y :: S' => some (pc, L, .int x :: .ref y :: .int x :: .ref y :: S', σ)
 | .int x :: .int y :: S' => some (pc, L, .int x :: .int y :: .int x :: .int y :: S', σ)
 | .long x :: S' => some (pc, L, .long x :: .long x :: S', σ)
 | _ => none
def qpop (pc : Nat) (L : QLoc) (S : List Value) (σ : QHeap) : Option QSt :=
 match S with
 | .int _ :: S' => some (pc, L, S', σ)
 | .ref _ :: S' => some (pc, L, S', σ)
 | _ => none
def qif (pc : Nat) (L : QLoc) (S : List Value) (σ : QHeap) (cd : ClassFile.Cond) (tgt : Nat) : Option QSt :=
 match S with
 | .int x :: S' => some (bif ifCond.holds cd x then tgt else pc, L, S', σ)
 | _ => none
def qicmp (pc : Nat) (L : QLoc) (S : List Value) (σ : QHeap) (cd : ClassFile.Cond) (tgt : Nat) : Option QSt :=
 match S with
 | .int y :: .int x :: S' => some (bif if_icmp.holds cd x y then tgt else pc, L, S', σ)
 | _ => none
def qinc (pc : Nat) (L : QLoc) (S : List Value) (σ : QHeap) (k : Nat) (i : Int) : Option QSt :=
 match lget L k with
 | some (.int x) => (match lput L k (.int (x + Int32.ofInt i)) with | some L' => some (pc, L', S, σ) | none => none)
 | _ => none
def qldc (pc : Nat) (L : QLoc) (S : List Value) (σ : QHeap) (k : Nat) : Option QSt :=
 match vget cK k with
 | some v => some (pc, L, v :: S, σ)
 | none => none
def qexec (pc : Nat) (L : QLoc) (S : List Value) (σ : QHeap) (aux : Nat) : Instr → Option QSt
 | .aload_n k => qload (pc + 1) L S σ k.val isR
 | .aload k => qload (pc + 2) L S σ k isR
 | .iload_n k => qload (pc + 1) L S σ k.val isI
 | .iload k => qload (pc + 2) L S σ k isI
 | .lload_n k => qload (pc + 1) L S σ k.val isJ
 | .lload k => qload (pc + 2) L S σ k isJ
 | .iconst i => some (pc + 1, L, .int (Int32.ofInt i) :: S, σ)
 | .bipush i => some (pc + 2, L, .int (Int8.ofInt i).toInt32 :: S, σ)
 | .sipush i => some (pc + 3, L, .int (Int16.ofInt i).toInt32 :: S, σ)
 | .lconst k => some (pc + 1, L, .long (Int64.ofNat k.val) :: S, σ)
 | .ldc _ => qldc (pc + 2) L S σ aux
 | .ldc2_w _ => qldc (pc + 3) L S σ aux
 | .istore_n k => qstore (pc + 1) L S σ k.val isI
 | .istore k => qstore (pc + 2) L S σ k isI
 | .lstore_n k => qstore (pc + 1) L S σ k.val isJ
 | .lstore k => qstore (pc + 2) L S σ k isJ
 | .astore_n k => qstore (pc + 1) L S σ k.val isR
 | .astore k => qstore (pc + 2) L S σ k isR
 | .iinc k i => qinc (pc + 3) L S σ k i
 | .iadd => qbin (pc + 1) L S σ fun x y => x + y
 | .isub => qbin (pc + 1) L S σ fun x y => x - y
 | .imul => qbin (pc + 1) L S σ fun x y => x * y
 | .iand => qbin (pc + 1) L S σ fun x y => x &&& y
 | .ior => qbin (pc + 1) L S σ fun x y => x ||| y
 | .ixor => qbin (pc + 1) L S σ fun x y => x ^^^ y
 | .ishl => qbin (pc + 1) L S σ fun x y => x <<< (y &&& 31)
 | .ishr => qbin (pc + 1) L S σ fun x y => x >>> (y &&& 31)
 | .iushr => qbin (pc + 1) L S σ fun x y => XT.ushr x y
 | .idiv => qbino (pc + 1) L S σ qdiv
 | .irem => qbino (pc + 1) L S σ qrem
 | .ineg => quni (pc + 1) L S σ fun x => .int (-x)
 | .i2l => quni (pc + 1) L S σ fun x => .long x.toInt64
 | .i2b => quni (pc + 1) L S σ fun x => .int x.toInt8.toInt32
 | .l2i => quniJ (pc + 1) L S σ fun x => .int x.toInt32
 | .lneg => quniJ (pc + 1) L S σ fun x => .long (-x)
 | .ladd => qbinJ (pc + 1) L S σ fun x y => x + y
 | .lsub => qbinJ (pc + 1) L S σ fun x y => x - y
 | .lmul => qbinJ (pc + 1) L S σ fun x y => x * y
 | .land => qbinJ (pc + 1) L S σ fun x y => x &&& y
 | .lor => qbinJ (pc + 1) L S σ fun x y => x ||| y
 | .lxor => qbinJ (pc + 1) L S σ fun x y => x ^^^ y
 | .lshl => qshJ (pc + 1) L S σ fun x y => x <<< (y.toInt64 &&& 63)
 | .lshr => qshJ (pc + 1) L S σ fun x y => x >>> (y.toInt64 &&& 63)
 | .lushr => qshJ (pc + 1) L S σ fun x y => XT.ushrL x y
 | .lcmp => (match S with
  | .long y :: .long x :: S' => some (pc + 1, L, .int (XT.cmpL x y) :: S', σ)
  | _ => none)
 | .goto _ => some (aux, L, S, σ)
 | .ifCond cd _ => qif (pc + 3) L S σ cd aux
 | .if_icmp cd _ => qicmp (pc + 3) L S σ cd aux
 | .dup => qdup (pc + 1) L S σ
 | .dup2 => qdup2 (pc + 1) L S σ
 | .pop => qpop (pc + 1) L S σ
 | .getfield _ => qget (pc + 3) L S σ aux
 | .putfield _ => qput (pc + 3) L S σ aux
 | .iaload => qald (pc + 1) L S σ tyI
 | .baload => qald (pc + 1) L S σ tyB
 | .laload => qaldJ (pc + 1) L S σ
 | .iastore => qast (pc + 1) L S σ tyI
 | .bastore => qast (pc + 1) L S σ tyB
 | .lastore => qastJ (pc + 1) L S σ
 | .arraylength => qlen (pc + 1) L S σ
 | .newarray t => qnewA (pc + 2) L S σ t
 | .new _ => some (pc + 3, L, .ref σ.length :: S, σ ++ [.inl cDef])
 | _ => none
def qstep (m : Nat) (st : QSt) : Option QSt :=
 match pCode m st.1 with
 | some (i, aux) => qexec st.1 st.2.1 st.2.2.1 st.2.2.2 aux i
 | none => none
def qsteps (m : Nat) : Nat → QSt → Option QSt
 | 0, st => some st
 | n + 1, st => match qstep m st with | some st' => qsteps m n st' | none => none
def qentry (args : List Value) (mx : Nat) : QLoc := (args.flatMap fun v => match v with | .long x => [some (.long x), none] | .double x => [some (.double x), none] | v => [some v]) ++ List.replicate (mx - (args.map fun v => v.category).sum) none
def ilen : Instr → Nat
 | .aload _ | .iload _ | .lload _ | .istore _ | .lstore _ | .astore _ | .bipush _ | .ldc _ | .newarray _ => 2
 | .sipush _ | .ldc2_w _ | .iinc _ _ | .goto _ | .ifCond _ _ | .if_icmp _ _ | .getfield _ | .putfield _ | .new _ | .invokevirtual _ | .invokespecial _ | .invokestatic _ => 3
 | _ => 1
def qtgt (pc : Nat) (o : Int) (aux : Nat) : Bool := decide (0 ≤ (pc : Int) + o) && decide (((pc : Int) + o).toNat = aux)
def qlk (m pc : Nat) (i : Instr) (aux : Nat) : Bool :=
 match i with
 | .goto o => qtgt pc o aux
 | .ifCond _ o => qtgt pc o aux
 | .if_icmp _ o => qtgt pc o aux
 | .getfield idx => lkF.contains (pK m, idx, aux)
 | .putfield idx => lkF.contains (pK m, idx, aux) && (!fFin aux || (pK m == 1 && pNm m == "<init>"))
 | .new idx => lkN.contains (pK m, idx)
 | .newarray t => aTys.contains (newarray.typeOf t)
 | .ldc idx => lkC.contains (pK m, idx, aux)
 | .ldc2_w idx => lkD.contains (pK m, idx, aux)
 | _ => true
def qchk (m pc : Nat) (i : Instr) (aux : Nat) : Bool := decide (decode (pBytes m) pc = .ok (i, ilen i)) && qlk m pc i aux
def QCellOk (Z : State) (ad : Nat → Addr) (h : Heap) (a : Addr) : QCell → Prop
 | .inl vs => Exa Z h a cName ∧ vs.length = nF ∧ ∀ (k : Nat) (v : Value), k < nF → vget vs k = some v → Fld Z h a cName (fNm k) (fDs k) (qv ad v)
 | .inr (.inl x) => ∃ c : Cell, Arr Z h a c x.1 ∧ c.slots = (x.2.map Value.int).toArray
 | .inr (.inr x) => ∃ c : Cell, Arr Z h a c .long ∧ c.slots = (x.map Value.long).toArray
def QAd (n0 : Nat) (ad : Nat → Addr) : Prop := (∀ k, k0 ≤ k → ad k = n0 + (k - k0)) ∧ ∀ i j, ad i = ad j → i = j
def QRep (Z : State) (n0 : Nat) (ad : Nat → Addr) (h : Heap) (σ : QHeap) : Prop := k0 ≤ σ.length ∧ h.size = n0 + (σ.length - k0) ∧ ∀ k c, hget σ k = some c → QCellOk Z ad h (ad k) c
def QLocOk (ad : Nat → Addr) (L : QLoc) (C : Array Slot) : Prop :=
 L.length = C.size ∧ (∀ k v, lget L k = some v → C[k]? = some (.val (qv ad v))) ∧ (∀ k w, C[k]? = some (.val w) → w.category = 2 → C[k + 1]? = some .second) ∧ ∀ k, C[k]? = some .second → ∃ j w, k = j + 1 ∧ C[j]? = some (.val w) ∧ w.category = 2
def QW (Z : State) (a0 : Array Value) : Prop :=
 (∀ t ∈ lkF, (Cond.fieldLink (kName t.1) t.2.1 cName (fNm t.2.2) (fDs t.2.2)).before a0 Z = true) ∧
 (∀ t ∈ lkN, (Cond.classLink (kName t.1) t.2 cName).before a0 Z = true) ∧
 (∀ t ∈ lkC, ∃ v, vget cK t.2.2 = some (.int v) ∧ (Cond.constant (kName t.1) t.2.1 v).before a0 Z = true) ∧
 (∀ t ∈ lkD, ∃ v, vget cK t.2.2 = some (.long v) ∧ (Cond.constantLong (kName t.1) t.2.1 v).before a0 Z = true) ∧
 (∀ t ∈ lkV, (Cond.methodLink (kName t.1) t.2.1 (pName t.2.2)).before a0 Z = true) ∧
 (∀ t ∈ lkO, (Cond.methodLink (kName t.1) t.2 Lib.objectInit).before a0 Z = true) ∧
 (∀ m ∈ mV, (Cond.declares (pName m)).before a0 Z = true ∧ (Cond.selects cName (pName m) (pName m)).before a0 Z = true ∧ (Cond.instanceMethod (pName m)).before a0 Z = true) ∧
 (∀ m ∈ mP, (Cond.instanceMethod (pName m)).before a0 Z = true ∧ (Cond.privateMethod (pName m)).before a0 Z = true) ∧
 (∀ m ∈ mS, (Cond.static (pName m)).before a0 Z = true) ∧
 (∀ m ∈ mI, (Cond.instanceMethod (pName m)).before a0 Z = true) ∧
 (∀ m ∈ mA, (Cond.code (pName m) (pBytes m) (pMaxL m) (pRet m)).before a0 Z = true ∧ (Cond.initialized (kName (pK m))).before a0 Z = true) ∧
 (Cond.instanceMethod Lib.objectInit).before a0 Z = true ∧ (Cond.code Lib.objectInit ⟨#[0xb1]⟩ 1 none).before a0 Z = true ∧
 (∀ k, k < nF → bif fFin k then (Cond.laysFinal cName cName (fNm k) (fDs k)).before a0 Z = true else (Cond.lays cName cName (fNm k) (fDs k)).before a0 Z = true) ∧
 (Cond.instantiable cName cN).before a0 Z = true ∧ (Cond.initialized cName).before a0 Z = true ∧
 ∀ ty ∈ aTys, (Cond.arrayClass ty).before a0 Z = true
section Words
variable {Z : State} {a0 : Array Value}
theorem qw_fl (W : QW Z a0) : ∀ t ∈ lkF, (Cond.fieldLink (kName t.1) t.2.1 cName (fNm t.2.2) (fDs t.2.2)).before a0 Z = true := W.1
theorem qw_nw (W : QW Z a0) : ∀ t ∈ lkN, (Cond.classLink (kName t.1) t.2 cName).before a0 Z = true := W.2.1
theorem qw_cI (W : QW Z a0) : ∀ t ∈ lkC, ∃ v, vget cK t.2.2 = some (.int v) ∧ (Cond.constant (kName t.1) t.2.1 v).before a0 Z = true := W.2.2.1
theorem qw_cJ (W : QW Z a0) : ∀ t ∈ lkD, ∃ v, vget cK t.2.2 = some (.long v) ∧ (Cond.constantLong (kName t.1) t.2.1 v).before a0 Z = true := W.2.2.2.1
theorem qw_ml (W : QW Z a0) : ∀ t ∈ lkV, (Cond.methodLink (kName t.1) t.2.1 (pName t.2.2)).before a0 Z = true := W.2.2.2.2.1
theorem qw_mo (W : QW Z a0) : ∀ t ∈ lkO, (Cond.methodLink (kName t.1) t.2 Lib.objectInit).before a0 Z = true := W.2.2.2.2.2.1
theorem qw_vi (W : QW Z a0) : ∀ m ∈ mV, (Cond.declares (pName m)).before a0 Z = true ∧ (Cond.selects cName (pName m) (pName m)).before a0 Z = true ∧ (Cond.instanceMethod (pName m)).before a0 Z = true := W.2.2.2.2.2.2.1
theorem qw_pr (W : QW Z a0) : ∀ m ∈ mP, (Cond.instanceMethod (pName m)).before a0 Z = true ∧ (Cond.privateMethod (pName m)).before a0 Z = true := W.2.2.2.2.2.2.2.1
theorem qw_st (W : QW Z a0) : ∀ m ∈ mS, (Cond.static (pName m)).before a0 Z = true := W.2.2.2.2.2.2.2.2.1
theorem qw_ini (W : QW Z a0) : ∀ m ∈ mI, (Cond.instanceMethod (pName m)).before a0 Z = true := W.2.2.2.2.2.2.2.2.2.1
theorem qw_cod (W : QW Z a0) : ∀ m ∈ mA, (Cond.code (pName m) (pBytes m) (pMaxL m) (pRet m)).before a0 Z = true ∧ (Cond.initialized (kName (pK m))).before a0 Z = true := W.2.2.2.2.2.2.2.2.2.2.1
theorem qw_oi (W : QW Z a0) : (Cond.instanceMethod Lib.objectInit).before a0 Z = true := W.2.2.2.2.2.2.2.2.2.2.2.1
theorem qw_oc (W : QW Z a0) : (Cond.code Lib.objectInit ⟨#[0xb1]⟩ 1 none).before a0 Z = true := W.2.2.2.2.2.2.2.2.2.2.2.2.1
theorem qw_lay (W : QW Z a0) : ∀ k, k < nF → bif fFin k then (Cond.laysFinal cName cName (fNm k) (fDs k)).before a0 Z = true else (Cond.lays cName cName (fNm k) (fDs k)).before a0 Z = true := W.2.2.2.2.2.2.2.2.2.2.2.2.2.1
theorem qw_inst (W : QW Z a0) : (Cond.instantiable cName cN).before a0 Z = true := W.2.2.2.2.2.2.2.2.2.2.2.2.2.2.1
theorem qw_init (W : QW Z a0) : (Cond.initialized cName).before a0 Z = true := W.2.2.2.2.2.2.2.2.2.2.2.2.2.2.2.1
theorem qw_arr (W : QW Z a0) : ∀ ty ∈ aTys, (Cond.arrayClass ty).before a0 Z = true := W.2.2.2.2.2.2.2.2.2.2.2.2.2.2.2.2
end Words
theorem hget_eq : ∀ (σ : QHeap) k, hget σ k = σ[k]?
 | [], _ => by simp [hget]
 | _ :: _, 0 => by simp [hget]
 | _ :: t, k + 1 => by simp [hget, hget_eq t k]
theorem vget_eq : ∀ (σ : List Value) k, vget σ k = σ[k]?
 | [], _ => by simp [vget]
 | _ :: _, 0 => by simp [vget]
 | _ :: t, k + 1 => by simp [vget, vget_eq t k]
theorem lget_eq : ∀ (L : QLoc) k, lget L k = (L[k]?).getD none
 | [], _ => by simp [lget]
 | _ :: _, 0 => by simp [lget]
 | _ :: t, k + 1 => by simp [lget, lget_eq t k]
theorem lget_lt {L : QLoc} {k : Nat} {v : Value} (h : lget L k = some v) : k < L.length := by
 rw [lget_eq] at h
 rcases Nat.lt_or_ge k L.length with q | q
 ·exact q
 ·simp [List.getElem?_eq_none q] at h
theorem lget_set {L : QLoc} {k j : Nat} {o : Option Value} (hk : k < L.length) : lget (L.set k o) j = if j = k then o else lget L j := by
 simp only [lget_eq, List.getElem?_set]
 by_cases e : k = j
 ·subst e; simp [hk]
 ·simp [e, Ne.symm e]
theorem qhs_app (σ τ : QHeap) : qhs (σ ++ τ) = qhs σ + qhs τ := by
 induction σ with
 | nil => simp [qhs]
 | cons c t ih => simp [qhs, ih, Nat.add_assoc]
theorem qhs_set {σ : QHeap} {k : Nat} {c d : QCell} (h : hget σ k = some c) (hs : qsz d = qsz c) : qhs (σ.set k d) = qhs σ := by
 induction σ generalizing k with
 | nil => simp [hget] at h
 | cons x t ih =>
  cases k with
  | zero => simp only [hget, Option.some.injEq] at h; subst h; simp [qhs, hs]
  | succ k => simp only [hget] at h; simp [qhs, ih h]
theorem hget_set {σ : QHeap} {k j : Nat} {c d : QCell} (h : hget σ k = some c) : hget (σ.set k d) j = if j = k then some d else hget σ j := by
 rw [hget_eq] at h
 have hk := (List.getElem?_eq_some_iff.mp h).1
 simp only [hget_eq, List.getElem?_set]
 by_cases e : k = j
 ·subst e; simp [hk]
 ·simp [e, Ne.symm e]
theorem lkill_len (L : QLoc) (k : Nat) : (lkill L k).length = L.length := by
 cases k with
 | zero => rfl
 | succ k => simp only [lkill]; split <;> simp
theorem lget_kill {L : QLoc} {k j : Nat} {v : Value} (h : lget (lkill L k) j = some v) : lget L j = some v ∧ (k = j + 1 → v.category ≠ 2) := by
 cases k with
 | zero => exact ⟨h, fun e => by omega⟩
 | succ k =>
  simp only [lkill] at h
  split at h
  ·rename_i x q
   rw [lget_set (lget_lt q)] at h
   split at h
   ·cases h
   ·rename_i ne; exact ⟨h, fun e => absurd (by omega) ne⟩
  ·rename_i x q
   rw [lget_set (lget_lt q)] at h
   split at h
   ·cases h
   ·rename_i ne; exact ⟨h, fun e => absurd (by omega) ne⟩
  ·rename_i q1 q2
   refine ⟨h, fun e hc => ?_⟩
   obtain rfl : j = k := by omega
   cases v with
   | long x => exact q1 _ h
   | double x => exact q2 _ h
   | _ => simp [Value.category] at hc
theorem qv_cat (ad : Nat → Addr) (v : Value) : (qv ad v).category = v.category := by cases v <;> rfl
def kA (C : Array Slot) (k j : Nat) : Prop := k = j + 1 ∧ C[k]? = some .second
def kB (C : Array Slot) (k j : Nat) : Prop := j = k + 1 ∧ ∃ u, C[k]? = some (.val u) ∧ u.category = 2
def kD (C : Array Slot) (k j : Nat) : Prop := j = k + 2 ∧ ∃ u, C[k + 1]? = some (.val u) ∧ u.category = 2
theorem set1_at {C D : Array Slot} {k : Nat} {w : Value} (hk : k < C.size) (hw : w.category = 1) (h : storeLocals C k w = some D) :
  D.size = C.size ∧ D[k]? = some (.val w) ∧ ∀ j, j ≠ k → (D[j]? = C[j]? ∧ ¬ kA C k j ∧ ¬ kB C k j) ∨ D[j]? = some .unset ∧ (kA C k j ∨ kB C k j) := by
 have hck : C[k]? = some C[k] := Array.getElem?_eq_getElem hk
 unfold storeLocals at h
 simp only [hck, Option.bind_eq_bind, Option.bind_some] at h
 have self : ∀ {E : Array Slot}, k < E.size → storeSelf E k w = some D → D = E.setIfInBounds k (.val w) := by
  intro E hE q
  simp only [storeSelf, setAt, hE, if_true, Option.bind_eq_bind, Option.bind_some, hw] at q
  simpa using q.symm
 split at h
 ·rename_i q
  have hk1 : k - 1 < C.size := by omega
  simp only [setAt, hk1, if_true, Option.bind_some] at h
  have e := self (by simpa using hk) h
  subst e
  refine ⟨by simp, by simp [hk], fun j hj => ?_⟩
  by_cases ej : k = j + 1
  ·refine Or.inr ⟨?_, Or.inl ⟨ej, by rw [hck, q]⟩⟩
   rw [Array.getElem?_setIfInBounds_ne (Ne.symm hj), show j = k - 1 by omega]
   simp [hk1]
  ·refine Or.inl ⟨?_, fun x => ej x.1, fun x => ?_⟩
   ·rw [Array.getElem?_setIfInBounds_ne (Ne.symm hj), Array.getElem?_setIfInBounds_ne (by omega)]
   ·obtain ⟨-, u, x1, -⟩ := x
    rw [hck, q] at x1; cases x1
 ·rename_i u q
  split at h
  ·rename_i hu
   by_cases hk1 : k + 1 < C.size
   ·simp only [setAt, hk1, if_true, Option.bind_some] at h
    have e := self (by simpa using hk) h
    subst e
    refine ⟨by simp, by simp [hk], fun j hj => ?_⟩
    by_cases ej : j = k + 1
    ·refine Or.inr ⟨?_, Or.inr ⟨ej, u, by rw [hck, q], hu⟩⟩
     rw [Array.getElem?_setIfInBounds_ne (Ne.symm hj), ej]
     simp [hk1]
    ·refine Or.inl ⟨?_, fun x => ?_, fun x => ej x.1⟩
     ·rw [Array.getElem?_setIfInBounds_ne (Ne.symm hj), Array.getElem?_setIfInBounds_ne (by omega)]
     ·obtain ⟨-, x1⟩ := x
      rw [hck, q] at x1; cases x1
   ·simp [setAt, hk1] at h
  ·rename_i hu
   have e := self hk h
   subst e
   refine ⟨by simp, by simp [hk], fun j hj => Or.inl ⟨Array.getElem?_setIfInBounds_ne (Ne.symm hj), fun x => ?_, fun x => ?_⟩⟩
   ·obtain ⟨-, x1⟩ := x
    rw [hck, q] at x1; cases x1
   ·obtain ⟨-, u', x1, x2⟩ := x
    rw [hck, q] at x1; cases x1; exact hu x2
 ·rename_i q
  have e := self hk h
  subst e
  refine ⟨by simp, by simp [hk], fun j hj => Or.inl ⟨Array.getElem?_setIfInBounds_ne (Ne.symm hj), fun x => ?_, fun x => ?_⟩⟩
  ·obtain ⟨-, x1⟩ := x
   rw [hck, q] at x1; cases x1
  ·obtain ⟨-, u', x1, x2⟩ := x
   rw [hck, q] at x1; cases x1
theorem set2_at {C D : Array Slot} {k : Nat} {w : Value} (hk : k + 1 < C.size) (hw : w.category = 2) (wf : ∀ k w, C[k]? = some (.val w) → w.category = 2 → C[k + 1]? = some .second) (h : storeLocals C k w = some D) :
  D.size = C.size ∧ D[k]? = some (.val w) ∧ D[k + 1]? = some .second ∧ ∀ j, j ≠ k → j ≠ k + 1 → (D[j]? = C[j]? ∧ ¬ kA C k j ∧ ¬ kD C k j) ∨ D[j]? = some .unset ∧ (kA C k j ∨ kD C k j) := by
 have hk0 : k < C.size := by omega
 have hck : C[k]? = some C[k] := Array.getElem?_eq_getElem hk0
 unfold storeLocals at h
 simp only [hck, Option.bind_eq_bind, Option.bind_some] at h
 have self : ∀ {E : Array Slot}, E.size = C.size → storeSelf E k w = some D → D.size = C.size ∧ D[k]? = some (.val w) ∧ D[k + 1]? = some .second ∧ ∀ j, j ≠ k → j ≠ k + 1 → (D[j]? = E[j]? ∧ ¬ kD E k j) ∨ D[j]? = some .unset ∧ kD E k j := by
  intro E hs q
  have h1 : k < E.size := by omega
  have h2 : k + 1 < E.size := by omega
  have h3 : (E.setIfInBounds k (.val w))[k + 1]? = some E[k + 1] := by rw [Array.getElem?_setIfInBounds_ne (by omega)]; exact Array.getElem?_eq_getElem h2
  simp only [storeSelf, setAt, h1, if_true, Option.bind_eq_bind, Option.bind_some, hw, h3] at q
  have plain : (¬ ∃ u, E[k + 1]? = some (.val u) ∧ u.category = 2) → some ((E.setIfInBounds k (.val w)).setIfInBounds (k + 1) .second) = some D → D.size = C.size ∧ D[k]? = some (.val w) ∧ D[k + 1]? = some .second ∧ ∀ j, j ≠ k → j ≠ k + 1 → (D[j]? = E[j]? ∧ ¬ kD E k j) ∨ D[j]? = some .unset ∧ kD E k j := by
   intro no q
   cases q
   refine ⟨by simp [hs], ?_, ?_, fun j hj hj1 => Or.inl ⟨?_, fun x => no x.2⟩⟩
   ·rw [Array.getElem?_setIfInBounds_ne (by omega)]; simp [h1]
   ·simp [h2]
   ·rw [Array.getElem?_setIfInBounds_ne (by omega), Array.getElem?_setIfInBounds_ne (by omega)]
  split at q
  ·rename_i u hu
   split at q
   ·rename_i hu2
    by_cases h5 : k + 2 < E.size
    ·simp [h5, h2] at q
     cases q
     refine ⟨by simp [hs], ?_, ?_, fun j hj hj1 => ?_⟩
     ·rw [Array.getElem?_setIfInBounds_ne (by omega), Array.getElem?_setIfInBounds_ne (by omega)]; simp [h1]
     ·simp [h2]
     ·by_cases e : j = k + 2
      ·refine Or.inr ⟨?_, e, u, by rw [Array.getElem?_eq_getElem h2, hu], hu2⟩
       rw [Array.getElem?_setIfInBounds_ne (by omega), e]
       simp [h5]
      ·refine Or.inl ⟨?_, fun x => e x.1⟩
       rw [Array.getElem?_setIfInBounds_ne (by omega), Array.getElem?_setIfInBounds_ne (by omega), Array.getElem?_setIfInBounds_ne (by omega)]
    ·simp [h5] at q
   ·rename_i hu2
    refine plain ?_ (by simpa [h2] using q)
    rintro ⟨u', x1, x2⟩
    rw [Array.getElem?_eq_getElem h2, hu] at x1; cases x1; exact hu2 x2
  ·rename_i hu
   refine plain ?_ (by simpa [h2] using q)
   rintro ⟨u', x1, x2⟩
   rw [Array.getElem?_eq_getElem h2] at x1; exact hu _ (Option.some.inj x1)
 split at h
 ·rename_i q
  have hk1 : k - 1 < C.size := by omega
  simp only [setAt, hk1, if_true, Option.bind_some] at h
  obtain ⟨e1, e2, e3, e4⟩ := self (by simp) h
  refine ⟨e1, e2, e3, fun j hj hj1 => ?_⟩
  have h6 : ∀ i, i + 1 ≠ k ∨ k = 0 → i ≠ k ∨ k ≠ 0 → (C.setIfInBounds (k - 1) Slot.unset)[i]? = C[i]? := fun i hi hi2 => Array.getElem?_setIfInBounds_ne (by omega)
  have h7 : (C.setIfInBounds (k - 1) Slot.unset)[k + 1]? = C[k + 1]? := Array.getElem?_setIfInBounds_ne (by omega)
  rcases e4 j hj hj1 with ⟨r, r'⟩ | ⟨r, r1, u, r2, r3⟩
  ·by_cases ej : k = j + 1
   ·refine Or.inr ⟨?_, Or.inl ⟨ej, by rw [hck, q]⟩⟩
    rw [r, show j = k - 1 by omega]; simp [hk1]
   ·refine Or.inl ⟨by rw [r]; exact h6 _ (by omega) (by omega), fun x => ej x.1, fun x => r' ⟨x.1, ?_⟩⟩
    rw [h7]; exact x.2
  ·exact Or.inr ⟨r, Or.inr ⟨r1, u, by rw [← h7]; exact r2, r3⟩⟩
 ·rename_i u q
  split at h
  ·rename_i hu
   simp only [setAt, hk, if_true, Option.bind_some] at h
   obtain ⟨e1, e2, e3, e4⟩ := self (by simp) h
   have hsec := wf k u (by rw [hck, q]) hu
   refine ⟨e1, e2, e3, fun j hj hj1 => ?_⟩
   rcases e4 j hj hj1 with ⟨r, r'⟩ | ⟨r, r1, u', r2, r3⟩
   ·refine Or.inl ⟨by rw [r]; exact Array.getElem?_setIfInBounds_ne (by omega), fun x => ?_, fun x => ?_⟩
    ·obtain ⟨-, x1⟩ := x
     rw [hck, q] at x1; cases x1
    ·obtain ⟨-, u', x1, x2⟩ := x
     rw [hsec] at x1; cases x1
   ·simp [hk] at r2
  ·rename_i hu
   obtain ⟨e1, e2, e3, e4⟩ := self rfl h
   refine ⟨e1, e2, e3, fun j hj hj1 => ?_⟩
   rcases e4 j hj hj1 with ⟨r, r'⟩ | ⟨r, r'⟩
   ·refine Or.inl ⟨r, fun x => ?_, r'⟩
    obtain ⟨-, x1⟩ := x
    rw [hck, q] at x1; cases x1
   ·exact Or.inr ⟨r, Or.inr r'⟩
 ·rename_i q
  obtain ⟨e1, e2, e3, e4⟩ := self rfl h
  refine ⟨e1, e2, e3, fun j hj hj1 => ?_⟩
  rcases e4 j hj hj1 with ⟨r, r'⟩ | ⟨r, r'⟩
  ·refine Or.inl ⟨r, fun x => ?_, r'⟩
   obtain ⟨-, x1⟩ := x
   rw [hck, q] at x1; cases x1
  ·exact Or.inr ⟨r, Or.inr r'⟩
theorem store_some {C : Array Slot} {k : Nat} {w : Value} (hk : k + (w.category - 1) < C.size) (hc : w.category = 1 ∨ w.category = 2) (wf : ∀ k w, C[k]? = some (.val w) → w.category = 2 → C[k + 1]? = some .second) :
  ∃ D, storeLocals C k w = some D := by
 have hk0 : k < C.size := by omega
 have hck : C[k]? = some C[k] := Array.getElem?_eq_getElem hk0
 have self : ∀ {E : Array Slot}, E.size = C.size → (∀ u, E[k + 1]? = some (.val u) → u.category = 2 → k + 2 < E.size) → ∃ D, storeSelf E k w = some D := by
  intro E hs hn
  have h1 : k < E.size := by omega
  simp only [storeSelf, setAt, h1, if_true, Option.bind_eq_bind, Option.bind_some]
  rcases hc with hc | hc
  ·exact ⟨E.setIfInBounds k (.val w), by simp [hc]⟩
  ·have h2 : k + 1 < E.size := by omega
   have h3 : (E.setIfInBounds k (.val w))[k + 1]? = some E[k + 1] := by rw [Array.getElem?_setIfInBounds_ne (by omega)]; exact Array.getElem?_eq_getElem h2
   simp only [hc, if_true, h3, Option.bind_some]
   split
   ·rename_i u hu
    split
    ·rename_i hu2
     have h5 := hn u (by rw [Array.getElem?_eq_getElem h2, hu]) hu2
     exact ⟨_, by simp [h5, h2]; rfl⟩
    ·exact ⟨_, by simp [h2]; rfl⟩
   ·exact ⟨_, by simp [h2]; rfl⟩
 have next : ∀ u, C[k + 1]? = some (.val u) → u.category = 2 → k + 2 < C.size := fun u h1 h2 => (Array.getElem?_eq_some_iff.mp (wf _ _ h1 h2)).1
 unfold storeLocals
 simp only [hck, Option.bind_eq_bind, Option.bind_some]
 split
 ·have hk1 : k - 1 < C.size := by omega
  simp only [setAt, hk1, if_true, Option.bind_some]
  refine self (by simp) fun u h1 h2 => ?_
  rw [Array.getElem?_setIfInBounds_ne (by omega)] at h1
  simpa using next u h1 h2
 ·rename_i u q
  split
  ·rename_i hu
   have h5 := (Array.getElem?_eq_some_iff.mp (wf k u (by rw [hck, q]) hu)).1
   simp only [setAt, h5, if_true, Option.bind_some]
   refine self (by simp) fun u h1 h2 => ?_
   simp [h5] at h1
  ·exact self rfl next
 ·exact self rfl next
theorem store_ok1 {ad : Nat → Addr} {L : QLoc} {C : Array Slot} {k : Nat} {v : Value} (H : QLocOk ad L C) (hv : v.category = 1) (hk : k < L.length) :
  ∃ D, storeLocals C k (qv ad v) = some D ∧ QLocOk ad ((lkill L k).set k (some v)) D ∧ D.size = C.size := by
 obtain ⟨H1, H2, H3, H4⟩ := H
 have hc : (qv ad v).category = 1 := by rw [qv_cat, hv]
 obtain ⟨D, hD⟩ := store_some (C := C) (k := k) (w := qv ad v) (by rw [hc]; omega) (Or.inl hc) H3
 obtain ⟨d1, d2, d3⟩ := set1_at (by omega) hc hD
 refine ⟨D, hD, ⟨by simp [lkill_len, H1, d1], fun j u hj => ?_, fun j w hj hw => ?_, fun j hj => ?_⟩, d1⟩
 ·rw [lget_set (by rw [lkill_len]; exact hk)] at hj
  split at hj
  ·rename_i e; cases hj; rw [e]; exact d2
  ·rename_i ne
   obtain ⟨g1, g2⟩ := lget_kill hj
   have g3 := H2 j u g1
   rcases d3 j ne with ⟨r, -, -⟩ | ⟨-, ⟨r1, r2⟩ | ⟨r1, w, r2, r3⟩⟩
   ·rw [r]; exact g3
   ·obtain ⟨i, w, z1, z2, z3⟩ := H4 k r2
    obtain rfl : i = j := by omega
    rw [g3] at z2
    cases z2
    rw [qv_cat] at z3
    exact absurd z3 (g2 r1)
   ·have := H3 k w r2 r3
    rw [← r1, g3] at this
    cases this
 ·by_cases e : j = k
  ·subst e; rw [d2] at hj; cases hj; rw [hc] at hw; cases hw
  ·rcases d3 j e with ⟨r, nA, nB⟩ | ⟨r, -⟩
   ·rw [r] at hj
    have g := H3 j w hj hw
    have e2 : j + 1 ≠ k := fun q => nA ⟨q.symm, by rw [← q]; exact g⟩
    rcases d3 (j + 1) e2 with ⟨z, -, -⟩ | ⟨-, ⟨z1, z2⟩ | ⟨z1, -⟩⟩
    ·rw [z]; exact g
    ·obtain ⟨i, u, y1, y2, y3⟩ := H4 k z2
     obtain rfl : i = j + 1 := by omega
     rw [g] at y2; cases y2
    ·omega
   ·rw [r] at hj; cases hj
 ·by_cases e : j = k
  ·subst e; rw [d2] at hj; cases hj
  ·rcases d3 j e with ⟨r, nA, nB⟩ | ⟨r, -⟩
   ·rw [r] at hj
    obtain ⟨i, w, y1, y2, y3⟩ := H4 j hj
    refine ⟨i, w, y1, ?_, y3⟩
    have ei : i ≠ k := fun q => nB ⟨by omega, w, by rw [← q]; exact y2, y3⟩
    rcases d3 i ei with ⟨z, -, -⟩ | ⟨-, ⟨z1, z2⟩ | ⟨z1, u, z2, z3⟩⟩
    ·rw [z]; exact y2
    ·omega
    ·have := H3 k u z2 z3
     rw [← z1, y2] at this; cases this
   ·rw [r] at hj; cases hj
theorem store_ok2 {ad : Nat → Addr} {L : QLoc} {C : Array Slot} {k : Nat} {x : Int64} (H : QLocOk ad L C) (hk : k + 1 < L.length) :
  ∃ D, storeLocals C k (.long x) = some D ∧ QLocOk ad (((lkill L k).set k (some (.long x))).set (k + 1) none) D ∧ D.size = C.size := by
 obtain ⟨H1, H2, H3, H4⟩ := H
 have hc : (Value.long x).category = 2 := rfl
 obtain ⟨D, hD⟩ := store_some (C := C) (k := k) (w := .long x) (by rw [hc]; omega) (Or.inr hc) H3
 obtain ⟨d1, d2, d2', d3⟩ := set2_at (by omega) hc H3 hD
 refine ⟨D, hD, ⟨by simp [lkill_len, H1, d1], fun j u hj => ?_, fun j w hj hw => ?_, fun j hj => ?_⟩, d1⟩
 ·rw [lget_set (by simp [lkill_len]; exact hk)] at hj
  split at hj
  ·cases hj
  ·rename_i ne1
   rw [lget_set (by rw [lkill_len]; omega)] at hj
   split at hj
   ·rename_i e; cases hj; rw [e]; exact d2
   ·rename_i ne
    obtain ⟨g1, g2⟩ := lget_kill hj
    have g3 := H2 j u g1
    rcases d3 j ne ne1 with ⟨r, -, -⟩ | ⟨-, ⟨r1, r2⟩ | ⟨r1, w, r2, r3⟩⟩
    ·rw [r]; exact g3
    ·obtain ⟨i, w, z1, z2, z3⟩ := H4 k r2
     obtain rfl : i = j := by omega
     rw [g3] at z2
     cases z2
     rw [qv_cat] at z3
     exact absurd z3 (g2 r1)
    ·have := H3 (k + 1) w r2 r3
     rw [show k + 1 + 1 = j by omega, g3] at this
     cases this
 ·by_cases e : j = k
  ·rw [e]; exact d2'
  ·by_cases e1 : j = k + 1
   ·rw [e1, d2'] at hj; cases hj
   ·rcases d3 j e e1 with ⟨r, nA, nB⟩ | ⟨r, -⟩
    ·rw [r] at hj
     have g := H3 j w hj hw
     have e2 : j + 1 ≠ k := fun q => nA ⟨q.symm, by rw [← q]; exact g⟩
     rcases d3 (j + 1) e2 (by omega) with ⟨z, -, -⟩ | ⟨-, ⟨z1, z2⟩ | ⟨z1, -⟩⟩
     ·rw [z]; exact g
     ·obtain ⟨i, u, y1, y2, y3⟩ := H4 k z2
      obtain rfl : i = j + 1 := by omega
      rw [g] at y2; cases y2
     ·omega
    ·rw [r] at hj; cases hj
 ·by_cases e : j = k
  ·rw [e, d2] at hj; cases hj
  ·by_cases e1 : j = k + 1
   ·exact ⟨k, _, e1, d2, hc⟩
   ·rcases d3 j e e1 with ⟨r, nA, nB⟩ | ⟨r, -⟩
    ·rw [r] at hj
     obtain ⟨i, w, y1, y2, y3⟩ := H4 j hj
     refine ⟨i, w, y1, ?_, y3⟩
     have ei : i ≠ k := fun q => e1 (by omega)
     have ei1 : i ≠ k + 1 := fun q => nB ⟨by omega, w, by rw [← q]; exact y2, y3⟩
     rcases d3 i ei ei1 with ⟨z, -, -⟩ | ⟨-, ⟨z1, z2⟩ | ⟨z1, u, z2, z3⟩⟩
     ·rw [z]; exact y2
     ·omega
     ·have := H3 (k + 1) u z2 z3
      rw [show k + 1 + 1 = i by omega, y2] at this; cases this
    ·rw [r] at hj; cases hj
theorem store_ok {ad : Nat → Addr} {L L' : QLoc} {C : Array Slot} {k : Nat} {v : Value} (H : QLocOk ad L C) (h : lput L k v = some L') :
  ∃ D, storeLocals C k (qv ad v) = some D ∧ QLocOk ad L' D ∧ D.size = C.size := by
 have one : v.category = 1 → (bif Nat.ble (k + 1) L.length then some ((lkill L k).set k (some v)) else none) = some L' → ∃ D, storeLocals C k (qv ad v) = some D ∧ QLocOk ad L' D ∧ D.size = C.size := by
  intro hv h
  cases hb : Nat.ble (k + 1) L.length with
  | false => rw [hb] at h; cases h
  | true => rw [hb] at h; cases h; exact store_ok1 H hv (Nat.le_of_ble_eq_true hb)
 cases v with
 | long x =>
  simp only [lput] at h
  cases hb : Nat.ble (k + 2) L.length with
  | false => rw [hb] at h; cases h
  | true => rw [hb] at h; cases h; exact store_ok2 H (Nat.le_of_ble_eq_true hb)
 | double x => simp [lput] at h
 | int x => exact one rfl h
 | float x => exact one rfl h
 | null => exact one rfl h
 | ref x => exact one rfl h
 | retAddr x => exact one rfl h
theorem fInj : ∀ i, i < nF → ∀ j, j < nF → fNm i = fNm j → i = j := by decide +kernel
theorem fPrs : ∀ i, i < nF → parseFieldDescriptor (fDs i) = some (fTy i) := by decide +kernel
theorem cDefs : ∀ i, i < nF → vget cDef i = some (defaultValue (fTy i)) := by decide +kernel
theorem cDefL : cDef.length = nF := by decide +kernel
theorem fDef : ∀ i, i < nF → ∀ a, defaultValue (fTy i) ≠ .ref a := by
 intro i _ a
 cases fTy i <;> simp [defaultValue]
theorem kPlain : ∀ k, k < 2 → plainName (kName k) = true := by
 intro k hk
 rcases k with _ | _ | k
 ·first | decide +kernel | (simp [kName, plainName, overriddenIn]; done)
 ·first | decide +kernel | (simp [kName, plainName, overriddenIn]; done)
 ·omega
theorem pKlt : ∀ m, m < pN → pK m < 2 := by decide +kernel
theorem pSig : ∀ m, m < pN → (parseMethodDescriptor (pDs m)).map (fun sg => sg.parameters.length) = some (pNA m) := by decide +kernel
theorem pOwn : ∀ k, k < 2 → kName k ≠ "java/lang/invoke/MethodHandle" ∧ kName k ≠ "java/lang/invoke/VarHandle" := by decide +kernel
theorem mAlt : ∀ m ∈ mA, m < pN := by decide +kernel
theorem mVlt : ∀ m ∈ mV, m ∈ mA ∧ pK m = 1 := by decide +kernel
theorem mPlt : ∀ m ∈ mP, m ∈ mA ∧ pK m = 1 := by decide +kernel
theorem mSlt : ∀ m ∈ mS, m ∈ mA := by decide +kernel
theorem mIlt : ∀ m ∈ mI, m ∈ mA ∧ pK m = 1 ∧ pNm m = "<init>" ∧ pRet m = none := by decide +kernel
theorem kOne : kName 1 = cName := rfl
def pX (m pc : Nat) : Bool := match pCode m pc with | some t => qchk m pc t.1 t.2 | none => true
set_option maxRecDepth 100000 in
set_option maxHeartbeats 4000000 in
theorem pC0_0 : ∀ q, q < 128 → pX 0 (0 + q) = true := by decide +kernel
set_option maxRecDepth 100000 in
set_option maxHeartbeats 4000000 in
theorem pC0_128 : ∀ q, q < 128 → pX 0 (128 + q) = true := by decide +kernel
set_option maxRecDepth 100000 in
set_option maxHeartbeats 4000000 in
theorem pC0_256 : ∀ q, q < 128 → pX 0 (256 + q) = true := by decide +kernel
set_option maxRecDepth 100000 in
set_option maxHeartbeats 4000000 in
theorem pC0_384 : ∀ q, q < 128 → pX 0 (384 + q) = true := by decide +kernel
set_option maxRecDepth 100000 in
set_option maxHeartbeats 4000000 in
theorem pC0_512 : ∀ q, q < 128 → pX 0 (512 + q) = true := by decide +kernel
set_option maxRecDepth 100000 in
set_option maxHeartbeats 4000000 in
theorem pC0_640 : ∀ q, q < 128 → pX 0 (640 + q) = true := by decide +kernel
set_option maxRecDepth 100000 in
set_option maxHeartbeats 4000000 in
theorem pC0_768 : ∀ q, q < 12 → pX 0 (768 + q) = true := by decide +kernel
theorem pCm0 (pc : Nat) (h : pc < pTop 0) : pX 0 pc = true := by
 replace h : pc < 780 := h
 by_cases h0 : pc < 128
 ·have q := pC0_0 (pc - 0) (by omega)
  rwa [show 0 + (pc - 0) = pc from by omega] at q
 by_cases h128 : pc < 256
 ·have q := pC0_128 (pc - 128) (by omega)
  rwa [show 128 + (pc - 128) = pc from by omega] at q
 by_cases h256 : pc < 384
 ·have q := pC0_256 (pc - 256) (by omega)
  rwa [show 256 + (pc - 256) = pc from by omega] at q
 by_cases h384 : pc < 512
 ·have q := pC0_384 (pc - 384) (by omega)
  rwa [show 384 + (pc - 384) = pc from by omega] at q
 by_cases h512 : pc < 640
 ·have q := pC0_512 (pc - 512) (by omega)
  rwa [show 512 + (pc - 512) = pc from by omega] at q
 by_cases h640 : pc < 768
 ·have q := pC0_640 (pc - 640) (by omega)
  rwa [show 640 + (pc - 640) = pc from by omega] at q
 have q := pC0_768 (pc - 768) (by omega)
 rwa [show 768 + (pc - 768) = pc from by omega] at q
set_option maxRecDepth 100000 in
set_option maxHeartbeats 4000000 in
theorem pC1_0 : ∀ q, q < 14 → pX 1 (0 + q) = true := by decide +kernel
theorem pCm1 (pc : Nat) (h : pc < pTop 1) : pX 1 pc = true := by
 replace h : pc < 14 := h
 have q := pC1_0 (pc - 0) (by omega)
 rwa [show 0 + (pc - 0) = pc from by omega] at q
set_option maxRecDepth 100000 in
set_option maxHeartbeats 4000000 in
theorem pC2_0 : ∀ q, q < 128 → pX 2 (0 + q) = true := by decide +kernel
set_option maxRecDepth 100000 in
set_option maxHeartbeats 4000000 in
theorem pC2_128 : ∀ q, q < 31 → pX 2 (128 + q) = true := by decide +kernel
theorem pCm2 (pc : Nat) (h : pc < pTop 2) : pX 2 pc = true := by
 replace h : pc < 159 := h
 by_cases h0 : pc < 128
 ·have q := pC2_0 (pc - 0) (by omega)
  rwa [show 0 + (pc - 0) = pc from by omega] at q
 have q := pC2_128 (pc - 128) (by omega)
 rwa [show 128 + (pc - 128) = pc from by omega] at q
set_option maxRecDepth 100000 in
set_option maxHeartbeats 4000000 in
theorem pC3_0 : ∀ q, q < 16 → pX 3 (0 + q) = true := by decide +kernel
theorem pCm3 (pc : Nat) (h : pc < pTop 3) : pX 3 pc = true := by
 replace h : pc < 16 := h
 have q := pC3_0 (pc - 0) (by omega)
 rwa [show 0 + (pc - 0) = pc from by omega] at q
set_option maxRecDepth 100000 in
set_option maxHeartbeats 4000000 in
theorem pC4_0 : ∀ q, q < 19 → pX 4 (0 + q) = true := by decide +kernel
theorem pCm4 (pc : Nat) (h : pc < pTop 4) : pX 4 pc = true := by
 replace h : pc < 19 := h
 have q := pC4_0 (pc - 0) (by omega)
 rwa [show 0 + (pc - 0) = pc from by omega] at q
set_option maxRecDepth 100000 in
set_option maxHeartbeats 4000000 in
theorem pC5_0 : ∀ q, q < 23 → pX 5 (0 + q) = true := by decide +kernel
theorem pCm5 (pc : Nat) (h : pc < pTop 5) : pX 5 pc = true := by
 replace h : pc < 23 := h
 have q := pC5_0 (pc - 0) (by omega)
 rwa [show 0 + (pc - 0) = pc from by omega] at q
set_option maxRecDepth 100000 in
set_option maxHeartbeats 4000000 in
theorem pC6_0 : ∀ q, q < 27 → pX 6 (0 + q) = true := by decide +kernel
theorem pCm6 (pc : Nat) (h : pc < pTop 6) : pX 6 pc = true := by
 replace h : pc < 27 := h
 have q := pC6_0 (pc - 0) (by omega)
 rwa [show 0 + (pc - 0) = pc from by omega] at q
set_option maxRecDepth 100000 in
set_option maxHeartbeats 4000000 in
theorem pC7_0 : ∀ q, q < 23 → pX 7 (0 + q) = true := by decide +kernel
theorem pCm7 (pc : Nat) (h : pc < pTop 7) : pX 7 pc = true := by
 replace h : pc < 23 := h
 have q := pC7_0 (pc - 0) (by omega)
 rwa [show 0 + (pc - 0) = pc from by omega] at q
set_option maxRecDepth 100000 in
set_option maxHeartbeats 4000000 in
theorem pC8_0 : ∀ q, q < 66 → pX 8 (0 + q) = true := by decide +kernel
theorem pCm8 (pc : Nat) (h : pc < pTop 8) : pX 8 pc = true := by
 replace h : pc < 66 := h
 have q := pC8_0 (pc - 0) (by omega)
 rwa [show 0 + (pc - 0) = pc from by omega] at q
set_option maxRecDepth 100000 in
set_option maxHeartbeats 4000000 in
theorem pC9_0 : ∀ q, q < 128 → pX 9 (0 + q) = true := by decide +kernel
set_option maxRecDepth 100000 in
set_option maxHeartbeats 4000000 in
theorem pC9_128 : ∀ q, q < 34 → pX 9 (128 + q) = true := by decide +kernel
theorem pCm9 (pc : Nat) (h : pc < pTop 9) : pX 9 pc = true := by
 replace h : pc < 162 := h
 by_cases h0 : pc < 128
 ·have q := pC9_0 (pc - 0) (by omega)
  rwa [show 0 + (pc - 0) = pc from by omega] at q
 have q := pC9_128 (pc - 128) (by omega)
 rwa [show 128 + (pc - 128) = pc from by omega] at q
set_option maxRecDepth 100000 in
set_option maxHeartbeats 4000000 in
theorem pC10_0 : ∀ q, q < 42 → pX 10 (0 + q) = true := by decide +kernel
theorem pCm10 (pc : Nat) (h : pc < pTop 10) : pX 10 pc = true := by
 replace h : pc < 42 := h
 have q := pC10_0 (pc - 0) (by omega)
 rwa [show 0 + (pc - 0) = pc from by omega] at q
set_option maxRecDepth 100000 in
set_option maxHeartbeats 4000000 in
theorem pC11_0 : ∀ q, q < 5 → pX 11 (0 + q) = true := by decide +kernel
theorem pCm11 (pc : Nat) (h : pc < pTop 11) : pX 11 pc = true := by
 replace h : pc < 5 := h
 have q := pC11_0 (pc - 0) (by omega)
 rwa [show 0 + (pc - 0) = pc from by omega] at q
set_option maxRecDepth 100000 in
set_option maxHeartbeats 4000000 in
theorem pC12_0 : ∀ q, q < 74 → pX 12 (0 + q) = true := by decide +kernel
theorem pCm12 (pc : Nat) (h : pc < pTop 12) : pX 12 pc = true := by
 replace h : pc < 74 := h
 have q := pC12_0 (pc - 0) (by omega)
 rwa [show 0 + (pc - 0) = pc from by omega] at q
set_option maxRecDepth 100000 in
set_option maxHeartbeats 4000000 in
theorem pC13_0 : ∀ q, q < 97 → pX 13 (0 + q) = true := by decide +kernel
theorem pCm13 (pc : Nat) (h : pc < pTop 13) : pX 13 pc = true := by
 replace h : pc < 97 := h
 have q := pC13_0 (pc - 0) (by omega)
 rwa [show 0 + (pc - 0) = pc from by omega] at q
set_option maxRecDepth 100000 in
set_option maxHeartbeats 4000000 in
theorem pC14_0 : ∀ q, q < 37 → pX 14 (0 + q) = true := by decide +kernel
theorem pCm14 (pc : Nat) (h : pc < pTop 14) : pX 14 pc = true := by
 replace h : pc < 37 := h
 have q := pC14_0 (pc - 0) (by omega)
 rwa [show 0 + (pc - 0) = pc from by omega] at q
set_option maxRecDepth 100000 in
set_option maxHeartbeats 4000000 in
theorem pC15_0 : ∀ q, q < 41 → pX 15 (0 + q) = true := by decide +kernel
theorem pCm15 (pc : Nat) (h : pc < pTop 15) : pX 15 pc = true := by
 replace h : pc < 41 := h
 have q := pC15_0 (pc - 0) (by omega)
 rwa [show 0 + (pc - 0) = pc from by omega] at q
set_option maxRecDepth 100000 in
set_option maxHeartbeats 4000000 in
theorem pC16_0 : ∀ q, q < 23 → pX 16 (0 + q) = true := by decide +kernel
theorem pCm16 (pc : Nat) (h : pc < pTop 16) : pX 16 pc = true := by
 replace h : pc < 23 := h
 have q := pC16_0 (pc - 0) (by omega)
 rwa [show 0 + (pc - 0) = pc from by omega] at q
set_option maxRecDepth 100000 in
set_option maxHeartbeats 4000000 in
theorem pC17_0 : ∀ q, q < 62 → pX 17 (0 + q) = true := by decide +kernel
theorem pCm17 (pc : Nat) (h : pc < pTop 17) : pX 17 pc = true := by
 replace h : pc < 62 := h
 have q := pC17_0 (pc - 0) (by omega)
 rwa [show 0 + (pc - 0) = pc from by omega] at q
set_option maxRecDepth 100000 in
set_option maxHeartbeats 4000000 in
theorem pC18_0 : ∀ q, q < 27 → pX 18 (0 + q) = true := by decide +kernel
theorem pCm18 (pc : Nat) (h : pc < pTop 18) : pX 18 pc = true := by
 replace h : pc < 27 := h
 have q := pC18_0 (pc - 0) (by omega)
 rwa [show 0 + (pc - 0) = pc from by omega] at q
set_option maxRecDepth 100000 in
set_option maxHeartbeats 4000000 in
theorem pC19_0 : ∀ q, q < 31 → pX 19 (0 + q) = true := by decide +kernel
theorem pCm19 (pc : Nat) (h : pc < pTop 19) : pX 19 pc = true := by
 replace h : pc < 31 := h
 have q := pC19_0 (pc - 0) (by omega)
 rwa [show 0 + (pc - 0) = pc from by omega] at q
set_option maxRecDepth 100000 in
set_option maxHeartbeats 4000000 in
theorem pC20_0 : ∀ q, q < 128 → pX 20 (0 + q) = true := by decide +kernel
set_option maxRecDepth 100000 in
set_option maxHeartbeats 4000000 in
theorem pC20_128 : ∀ q, q < 10 → pX 20 (128 + q) = true := by decide +kernel
theorem pCm20 (pc : Nat) (h : pc < pTop 20) : pX 20 pc = true := by
 replace h : pc < 138 := h
 by_cases h0 : pc < 128
 ·have q := pC20_0 (pc - 0) (by omega)
  rwa [show 0 + (pc - 0) = pc from by omega] at q
 have q := pC20_128 (pc - 128) (by omega)
 rwa [show 128 + (pc - 128) = pc from by omega] at q
set_option maxRecDepth 100000 in
set_option maxHeartbeats 4000000 in
theorem pC21_0 : ∀ q, q < 22 → pX 21 (0 + q) = true := by decide +kernel
theorem pCm21 (pc : Nat) (h : pc < pTop 21) : pX 21 pc = true := by
 replace h : pc < 22 := h
 have q := pC21_0 (pc - 0) (by omega)
 rwa [show 0 + (pc - 0) = pc from by omega] at q
set_option maxRecDepth 100000 in
set_option maxHeartbeats 4000000 in
theorem pC22_0 : ∀ q, q < 5 → pX 22 (0 + q) = true := by decide +kernel
theorem pCm22 (pc : Nat) (h : pc < pTop 22) : pX 22 pc = true := by
 replace h : pc < 5 := h
 have q := pC22_0 (pc - 0) (by omega)
 rwa [show 0 + (pc - 0) = pc from by omega] at q
set_option maxRecDepth 100000 in
set_option maxHeartbeats 4000000 in
theorem pC23_0 : ∀ q, q < 12 → pX 23 (0 + q) = true := by decide +kernel
theorem pCm23 (pc : Nat) (h : pc < pTop 23) : pX 23 pc = true := by
 replace h : pc < 12 := h
 have q := pC23_0 (pc - 0) (by omega)
 rwa [show 0 + (pc - 0) = pc from by omega] at q
set_option maxRecDepth 100000 in
set_option maxHeartbeats 4000000 in
theorem pC24_0 : ∀ q, q < 31 → pX 24 (0 + q) = true := by decide +kernel
theorem pCm24 (pc : Nat) (h : pc < pTop 24) : pX 24 pc = true := by
 replace h : pc < 31 := h
 have q := pC24_0 (pc - 0) (by omega)
 rwa [show 0 + (pc - 0) = pc from by omega] at q
set_option maxRecDepth 100000 in
set_option maxHeartbeats 4000000 in
theorem pC25_0 : ∀ q, q < 19 → pX 25 (0 + q) = true := by decide +kernel
theorem pCm25 (pc : Nat) (h : pc < pTop 25) : pX 25 pc = true := by
 replace h : pc < 19 := h
 have q := pC25_0 (pc - 0) (by omega)
 rwa [show 0 + (pc - 0) = pc from by omega] at q
set_option maxRecDepth 100000 in
set_option maxHeartbeats 4000000 in
theorem pC26_0 : ∀ q, q < 19 → pX 26 (0 + q) = true := by decide +kernel
theorem pCm26 (pc : Nat) (h : pc < pTop 26) : pX 26 pc = true := by
 replace h : pc < 19 := h
 have q := pC26_0 (pc - 0) (by omega)
 rwa [show 0 + (pc - 0) = pc from by omega] at q
set_option maxRecDepth 100000 in
set_option maxHeartbeats 4000000 in
theorem pC27_0 : ∀ q, q < 19 → pX 27 (0 + q) = true := by decide +kernel
theorem pCm27 (pc : Nat) (h : pc < pTop 27) : pX 27 pc = true := by
 replace h : pc < 19 := h
 have q := pC27_0 (pc - 0) (by omega)
 rwa [show 0 + (pc - 0) = pc from by omega] at q
set_option maxRecDepth 100000 in
set_option maxHeartbeats 4000000 in
theorem pC28_0 : ∀ q, q < 31 → pX 28 (0 + q) = true := by decide +kernel
theorem pCm28 (pc : Nat) (h : pc < pTop 28) : pX 28 pc = true := by
 replace h : pc < 31 := h
 have q := pC28_0 (pc - 0) (by omega)
 rwa [show 0 + (pc - 0) = pc from by omega] at q
set_option maxRecDepth 100000 in
set_option maxHeartbeats 4000000 in
theorem pC29_0 : ∀ q, q < 24 → pX 29 (0 + q) = true := by decide +kernel
theorem pCm29 (pc : Nat) (h : pc < pTop 29) : pX 29 pc = true := by
 replace h : pc < 24 := h
 have q := pC29_0 (pc - 0) (by omega)
 rwa [show 0 + (pc - 0) = pc from by omega] at q
set_option maxRecDepth 100000 in
set_option maxHeartbeats 4000000 in
theorem pC30_0 : ∀ q, q < 35 → pX 30 (0 + q) = true := by decide +kernel
theorem pCm30 (pc : Nat) (h : pc < pTop 30) : pX 30 pc = true := by
 replace h : pc < 35 := h
 have q := pC30_0 (pc - 0) (by omega)
 rwa [show 0 + (pc - 0) = pc from by omega] at q
set_option maxRecDepth 100000 in
set_option maxHeartbeats 4000000 in
theorem pC31_0 : ∀ q, q < 5 → pX 31 (0 + q) = true := by decide +kernel
theorem pCm31 (pc : Nat) (h : pc < pTop 31) : pX 31 pc = true := by
 replace h : pc < 5 := h
 have q := pC31_0 (pc - 0) (by omega)
 rwa [show 0 + (pc - 0) = pc from by omega] at q
set_option maxRecDepth 100000 in
set_option maxHeartbeats 4000000 in
theorem pC32_0 : ∀ q, q < 5 → pX 32 (0 + q) = true := by decide +kernel
theorem pCm32 (pc : Nat) (h : pc < pTop 32) : pX 32 pc = true := by
 replace h : pc < 5 := h
 have q := pC32_0 (pc - 0) (by omega)
 rwa [show 0 + (pc - 0) = pc from by omega] at q
set_option maxRecDepth 100000 in
set_option maxHeartbeats 4000000 in
theorem pC33_0 : ∀ q, q < 59 → pX 33 (0 + q) = true := by decide +kernel
theorem pCm33 (pc : Nat) (h : pc < pTop 33) : pX 33 pc = true := by
 replace h : pc < 59 := h
 have q := pC33_0 (pc - 0) (by omega)
 rwa [show 0 + (pc - 0) = pc from by omega] at q
set_option maxRecDepth 100000 in
set_option maxHeartbeats 4000000 in
theorem pC34_0 : ∀ q, q < 12 → pX 34 (0 + q) = true := by decide +kernel
theorem pCm34 (pc : Nat) (h : pc < pTop 34) : pX 34 pc = true := by
 replace h : pc < 12 := h
 have q := pC34_0 (pc - 0) (by omega)
 rwa [show 0 + (pc - 0) = pc from by omega] at q
set_option maxRecDepth 100000 in
set_option maxHeartbeats 4000000 in
theorem pC35_0 : ∀ q, q < 27 → pX 35 (0 + q) = true := by decide +kernel
theorem pCm35 (pc : Nat) (h : pc < pTop 35) : pX 35 pc = true := by
 replace h : pc < 27 := h
 have q := pC35_0 (pc - 0) (by omega)
 rwa [show 0 + (pc - 0) = pc from by omega] at q
set_option maxRecDepth 100000 in
set_option maxHeartbeats 4000000 in
theorem pC36_0 : ∀ q, q < 66 → pX 36 (0 + q) = true := by decide +kernel
theorem pCm36 (pc : Nat) (h : pc < pTop 36) : pX 36 pc = true := by
 replace h : pc < 66 := h
 have q := pC36_0 (pc - 0) (by omega)
 rwa [show 0 + (pc - 0) = pc from by omega] at q
theorem pChk0 : ∀ m, m < pN → ∀ pc, pc < pTop m → (match pCode m pc with | some t => qchk m pc t.1 t.2 | none => true) = true := by
 intro m hm pc hp
 change pX m pc = true
 match m, hm, hp with
 | 0, _, hp => exact pCm0 pc hp
 | 1, _, hp => exact pCm1 pc hp
 | 2, _, hp => exact pCm2 pc hp
 | 3, _, hp => exact pCm3 pc hp
 | 4, _, hp => exact pCm4 pc hp
 | 5, _, hp => exact pCm5 pc hp
 | 6, _, hp => exact pCm6 pc hp
 | 7, _, hp => exact pCm7 pc hp
 | 8, _, hp => exact pCm8 pc hp
 | 9, _, hp => exact pCm9 pc hp
 | 10, _, hp => exact pCm10 pc hp
 | 11, _, hp => exact pCm11 pc hp
 | 12, _, hp => exact pCm12 pc hp
 | 13, _, hp => exact pCm13 pc hp
 | 14, _, hp => exact pCm14 pc hp
 | 15, _, hp => exact pCm15 pc hp
 | 16, _, hp => exact pCm16 pc hp
 | 17, _, hp => exact pCm17 pc hp
 | 18, _, hp => exact pCm18 pc hp
 | 19, _, hp => exact pCm19 pc hp
 | 20, _, hp => exact pCm20 pc hp
 | 21, _, hp => exact pCm21 pc hp
 | 22, _, hp => exact pCm22 pc hp
 | 23, _, hp => exact pCm23 pc hp
 | 24, _, hp => exact pCm24 pc hp
 | 25, _, hp => exact pCm25 pc hp
 | 26, _, hp => exact pCm26 pc hp
 | 27, _, hp => exact pCm27 pc hp
 | 28, _, hp => exact pCm28 pc hp
 | 29, _, hp => exact pCm29 pc hp
 | 30, _, hp => exact pCm30 pc hp
 | 31, _, hp => exact pCm31 pc hp
 | 32, _, hp => exact pCm32 pc hp
 | 33, _, hp => exact pCm33 pc hp
 | 34, _, hp => exact pCm34 pc hp
 | 35, _, hp => exact pCm35 pc hp
 | 36, _, hp => exact pCm36 pc hp
 | m + 37, hm, _ => exact absurd hm (by unfold pN; omega)
theorem pIn {m pc : Nat} {t : Instr × Nat} (h : pCode m pc = some t) : m < pN ∧ pc < pTop m := by
 unfold pCode at h
 cases h1 : Nat.ble pN m with
 | true => rw [h1] at h; cases h
 | false =>
  cases h2 : Nat.ble (pTop m) pc with
  | true => rw [h1, h2] at h; cases h
  | false => exact ⟨Nat.lt_of_not_le (fun q => by rw [Nat.ble_eq_true_of_le q] at h1; cases h1), Nat.lt_of_not_le (fun q => by rw [Nat.ble_eq_true_of_le q] at h2; cases h2)⟩
theorem pChk {m pc : Nat} {i : Instr} {aux : Nat} (h : pCode m pc = some (i, aux)) : qchk m pc i aux = true := by
 have q := pChk0 m (pIn h).1 pc (pIn h).2
 rw [h] at q
 exact q
theorem pDec {m pc : Nat} {i : Instr} {aux : Nat} (h : pCode m pc = some (i, aux)) : decode (pBytes m) pc = .ok (i, ilen i) := by
 have q := pChk h
 unfold qchk at q
 exact of_decide_eq_true (Bool.and_eq_true_iff.mp q).1
theorem pDecN {m pc n : Nat} {i : Instr} {aux : Nat} (h : pCode m pc = some (i, aux)) (hn : ilen i = n) : decode (pBytes m) pc = .ok (i, n) := by
 rw [← hn]; exact pDec h
theorem pRest {m pc : Nat} {i : Instr} {aux : Nat} (h : pCode m pc = some (i, aux)) : qlk m pc i aux = true := by
 have q := pChk h
 unfold qchk at q
 exact (Bool.and_eq_true_iff.mp q).2
theorem qtgt_spec {pc : Nat} {o : Int} {aux : Nat} (h : qtgt pc o aux = true) : 0 ≤ (pc : Int) + o ∧ ((pc : Int) + o).toNat = aux := by
 unfold qtgt at h
 have h2 := Bool.and_eq_true_iff.mp h
 exact ⟨of_decide_eq_true h2.1, of_decide_eq_true h2.2⟩
def QCx (Z : State) (p : Program) (R : Room) (s : State) (mid : MethodId) (meth : Method) (c : Code) (m : Nat) : Prop :=
 p.tables.exec = Jvm.exec ∧ Z.Warmed39 s.vm ∧ c.code = pBytes m ∧ c.maxLocals = pMaxL m ∧ meth.sig.returnType = pRet m ∧ s.vm.findClass (kName (pK m)) = some mid.cls ∧ meth.name = pNm m ∧ pFr m ≤ R.frames ∧ pLo m ≤ R.locals
def QTri (l : Launch) (Z : State) (n0 : Nat) (ad : Nat → Addr) (m : Nat) (st : QSt) (v : Option Value) (σ' : QHeap) : Prop :=
 st.2.2.2.length ≤ σ'.length ∧ qhs st.2.2.2 ≤ qhs σ' ∧
 ∀ (p : Program) (e : Env) (R : Room) (s : State) (mid : MethodId) (args : Array Value) (below : List Frame) (meth : Method) (c : Code) (T : State) (locs : List Loc) (cells slots : Nat) (C : Array Slot),
  QCx Z p R s mid meth c m → Stand p l e R s mid args below meth c T locs cells slots → QRep Z n0 ad T.heap st.2.2.2 → Fr n0 locs → QLocOk ad st.2.1 C → C.size = c.maxLocals →
  n0 + (st.2.2.2.length - k0) = s.heap.size + cells → cells + (σ'.length - st.2.2.2.length) ≤ R.cells → slots + (qhs σ' - qhs st.2.2.2) ≤ R.slots →
  ∃ T' locs', Stand p l e R s mid args below meth c T' locs' (cells + (σ'.length - st.2.2.2.length)) (slots + (qhs σ' - qhs st.2.2.2)) ∧ QRep Z n0 ad T'.heap σ' ∧ Fr n0 locs' ∧
   ∀ fs, (∀ (f : JFrame) (acts : List Action), f.method = mid → f.locked = none → f.entered = [] → (doReturn e (T'.setTop f) acts (v.map (qv ad))).1 = T'.setFrames fs) →
    Steps p.tables e below (T.setTop (mkF mid st.1 C (st.2.2.1.map (qv ad)))) (T'.setFrames fs)
section Triples
variable {l : Launch} {Z : State} {n0 : Nat} {ad : Nat → Addr} {a0 : Array Value} {m : Nat} {v : Option Value} {σ' : QHeap}
theorem QTri.gen {st st' : QSt} (h : QTri l Z n0 ad m st' v σ') (g1 : st.2.2.2.length ≤ st'.2.2.2.length) (g2 : qhs st.2.2.2 ≤ qhs st'.2.2.2)
  (hs : ∀ (p : Program) (e : Env) (R : Room) (s : State) (mid : MethodId) (args : Array Value) (below : List Frame) (meth : Method) (c : Code) (T : State) (locs : List Loc) (cells slots : Nat) (C : Array Slot),
   QCx Z p R s mid meth c m → Stand p l e R s mid args below meth c T locs cells slots → QRep Z n0 ad T.heap st.2.2.2 → Fr n0 locs → QLocOk ad st.2.1 C → C.size = c.maxLocals →
   n0 + (st.2.2.2.length - k0) = s.heap.size + cells → cells + (st'.2.2.2.length - st.2.2.2.length) ≤ R.cells → slots + (qhs st'.2.2.2 - qhs st.2.2.2) ≤ R.slots →
   ∃ T₁ locs₁ C₁, Stand p l e R s mid args below meth c T₁ locs₁ (cells + (st'.2.2.2.length - st.2.2.2.length)) (slots + (qhs st'.2.2.2 - qhs st.2.2.2)) ∧ QRep Z n0 ad T₁.heap st'.2.2.2 ∧ Fr n0 locs₁ ∧ QLocOk ad st'.2.1 C₁ ∧ C₁.size = c.maxLocals ∧
    ∀ target, Steps p.tables e below (T₁.setTop (mkF mid st'.1 C₁ (st'.2.2.1.map (qv ad)))) target → Steps p.tables e below (T.setTop (mkF mid st.1 C (st.2.2.1.map (qv ad)))) target) :
  QTri l Z n0 ad m st v σ' := by
 obtain ⟨h1, h2, h3⟩ := h
 refine ⟨Nat.le_trans g1 h1, Nat.le_trans g2 h2, fun p e R s mid args below meth c T locs cells slots C hcx X hR hF hL hC hn hc hsl => ?_⟩
 obtain ⟨T₁, locs₁, C₁, X₁, R₁, F₁, L₁, C1, S₁⟩ := hs p e R s mid args below meth c T locs cells slots C hcx X hR hF hL hC hn (by omega) (by omega)
 have hk := hR.1
 obtain ⟨T', locs', X', R', F', S'⟩ := h3 p e R s mid args below meth c T₁ locs₁ _ _ C₁ hcx X₁ R₁ F₁ L₁ C1 (by omega) (by omega) (by omega)
 have e1 : cells + (st'.2.2.2.length - st.2.2.2.length) + (σ'.length - st'.2.2.2.length) = cells + (σ'.length - st.2.2.2.length) := by omega
 have e2 : slots + (qhs st'.2.2.2 - qhs st.2.2.2) + (qhs σ' - qhs st'.2.2.2) = slots + (qhs σ' - qhs st.2.2.2) := by omega
 rw [e1, e2] at X'
 exact ⟨T', locs', X', R', F', fun fs hf => S₁ _ (S' fs hf)⟩
theorem QTri.pure {st st' : QSt} (h : QTri l Z n0 ad m st' v σ') (hσ : st'.2.2.2 = st.2.2.2)
  (hs : ∀ (p : Program) (e : Env) (R : Room) (s : State) (mid : MethodId) (args : Array Value) (below : List Frame) (meth : Method) (c : Code) (T : State) (locs : List Loc) (cells slots : Nat) (C : Array Slot),
   QCx Z p R s mid meth c m → Stand p l e R s mid args below meth c T locs cells slots → QRep Z n0 ad T.heap st.2.2.2 → QLocOk ad st.2.1 C → C.size = c.maxLocals →
   ∃ T₁ C₁, Stand p l e R s mid args below meth c T₁ locs cells slots ∧ T₁.heap = T.heap ∧ QLocOk ad st'.2.1 C₁ ∧ C₁.size = c.maxLocals ∧
    ∀ target, Steps p.tables e below (T₁.setTop (mkF mid st'.1 C₁ (st'.2.2.1.map (qv ad)))) target → Steps p.tables e below (T.setTop (mkF mid st.1 C (st.2.2.1.map (qv ad)))) target) :
  QTri l Z n0 ad m st v σ' := by
 refine QTri.gen h (by rw [hσ]; exact Nat.le_refl _) (by rw [hσ]; exact Nat.le_refl _) fun p e R s mid args below meth c T locs cells slots C hcx X hR hF hL hC hn hc hsl => ?_
 obtain ⟨T₁, C₁, X₁, hh, L₁, C1, S₁⟩ := hs p e R s mid args below meth c T locs cells slots C hcx X hR hL hC
 refine ⟨T₁, locs, C₁, ?_, by rw [hσ, hh]; exact hR, hF, L₁, C1, S₁⟩
 rw [hσ, Nat.sub_self, Nat.sub_self]
 exact X₁
theorem QTri.frame {pc pc' : Nat} {L L' : QLoc} {S S' : List Value} {σ : QHeap} (h : QTri l Z n0 ad m (pc', L', S', σ) v σ')
  (hs : ∀ (p : Program) (e : Env) (R : Room) (s : State) (mid : MethodId) (args : Array Value) (below : List Frame) (meth : Method) (c : Code) (T : State) (locs : List Loc) (cells slots : Nat) (C : Array Slot),
   QCx Z p R s mid meth c m → Stand p l e R s mid args below meth c T locs cells slots → QRep Z n0 ad T.heap σ → QLocOk ad L C → C.size = c.maxLocals →
   ∃ C₁, QLocOk ad L' C₁ ∧ C₁.size = c.maxLocals ∧ ∀ target, Steps p.tables e below (T.setTop (mkF mid pc' C₁ (S'.map (qv ad)))) target → Steps p.tables e below (T.setTop (mkF mid pc C (S.map (qv ad)))) target) :
  QTri l Z n0 ad m (pc, L, S, σ) v σ' :=
 QTri.pure h rfl fun p e R s mid args below meth c T locs cells slots C hcx X hR hL hC => by
  obtain ⟨C₁, h1, h2, h3⟩ := hs p e R s mid args below meth c T locs cells slots C hcx X hR hL hC
  exact ⟨T, C₁, X, rfl, h1, h2, h3⟩
theorem QTri.stack {pc pc' : Nat} {L : QLoc} {S S' : List Value} {σ : QHeap} (h : QTri l Z n0 ad m (pc', L, S', σ) v σ')
  (hs : ∀ (p : Program) (e : Env) (R : Room) (s : State) (mid : MethodId) (args : Array Value) (below : List Frame) (meth : Method) (c : Code) (T : State) (locs : List Loc) (cells slots : Nat) (C : Array Slot) (target : State),
   p.tables.exec = Jvm.exec → Z.Warmed39 s.vm → c.code = pBytes m → s.vm.findClass (kName (pK m)) = some mid.cls → Stand p l e R s mid args below meth c T locs cells slots → QRep Z n0 ad T.heap σ → QLocOk ad L C →
   Steps p.tables e below (T.setTop (mkF mid pc' C (S'.map (qv ad)))) target → Steps p.tables e below (T.setTop (mkF mid pc C (S.map (qv ad)))) target) :
  QTri l Z n0 ad m (pc, L, S, σ) v σ' :=
 QTri.frame h fun p e R s mid args below meth c T locs cells slots C hcx X hR hL hC => ⟨C, hL, hC, fun target k => hs p e R s mid args below meth c T locs cells slots C target hcx.1 hcx.2.1 hcx.2.2.1 hcx.2.2.2.2.2.1 X hR hL k⟩
theorem qload_inv {pc : Nat} {L : QLoc} {S : List Value} {σ : QHeap} {k : Nat} {ok : Value → Bool} {st' : QSt} (h : qload pc L S σ k ok = some st') : ∃ v, lget L k = some v ∧ ok v = true ∧ st' = (pc, L, v :: S, σ) := by
 unfold qload at h
 split at h
 ·rename_i v hv
  cases ho : ok v with
  | true => rw [ho] at h; cases h; exact ⟨v, hv, ho, rfl⟩
  | false => rw [ho] at h; cases h
 ·cases h
theorem qstore_inv {pc : Nat} {L : QLoc} {S : List Value} {σ : QHeap} {k : Nat} {ok : Value → Bool} {st' : QSt} (h : qstore pc L S σ k ok = some st') : ∃ v S' L', S = v :: S' ∧ ok v = true ∧ lput L k v = some L' ∧ st' = (pc, L', S', σ) := by
 unfold qstore at h
 split at h
 ·rename_i v S'
  cases ho : ok v with
  | true =>
   rw [ho] at h
   simp only [cond_true] at h
   split at h
   ·rename_i L' hL'
    cases h; exact ⟨v, S', L', rfl, ho, hL', rfl⟩
   ·cases h
  | false => rw [ho] at h; cases h
 ·cases h
theorem qbin_inv {pc : Nat} {L : QLoc} {S : List Value} {σ : QHeap} {f : Int32 → Int32 → Int32} {st' : QSt} (h : qbin pc L S σ f = some st') : ∃ x y S', S = .int y :: .int x :: S' ∧ st' = (pc, L, .int (f x y) :: S', σ) := by
 unfold qbin at h
 split at h
 ·cases h; exact ⟨_, _, _, rfl, rfl⟩
 ·cases h
theorem qbino_inv {pc : Nat} {L : QLoc} {S : List Value} {σ : QHeap} {f : Int32 → Int32 → Option Int32} {st' : QSt} (h : qbino pc L S σ f = some st') : ∃ x y z S', S = .int y :: .int x :: S' ∧ f x y = some z ∧ st' = (pc, L, .int z :: S', σ) := by
 unfold qbino at h
 split at h
 ·obtain ⟨z, hz, h⟩ := Option.bind_eq_some_iff.mp h
  cases h; exact ⟨_, _, _, _, rfl, hz, rfl⟩
 ·cases h
theorem qbinJ_inv {pc : Nat} {L : QLoc} {S : List Value} {σ : QHeap} {f : Int64 → Int64 → Int64} {st' : QSt} (h : qbinJ pc L S σ f = some st') : ∃ x y S', S = .long y :: .long x :: S' ∧ st' = (pc, L, .long (f x y) :: S', σ) := by
 unfold qbinJ at h
 split at h
 ·cases h; exact ⟨_, _, _, rfl, rfl⟩
 ·cases h
theorem qshJ_inv {pc : Nat} {L : QLoc} {S : List Value} {σ : QHeap} {f : Int64 → Int32 → Int64} {st' : QSt} (h : qshJ pc L S σ f = some st') : ∃ x y S', S = .int y :: .long x :: S' ∧ st' = (pc, L, .long (f x y) :: S', σ) := by
 unfold qshJ at h
 split at h
 ·cases h; exact ⟨_, _, _, rfl, rfl⟩
 ·cases h
theorem quni_inv {pc : Nat} {L : QLoc} {S : List Value} {σ : QHeap} {f : Int32 → Value} {st' : QSt} (h : quni pc L S σ f = some st') : ∃ x S', S = .int x :: S' ∧ st' = (pc, L, f x :: S', σ) := by
 unfold quni at h
 split at h
 ·cases h; exact ⟨_, _, rfl, rfl⟩
 ·cases h
theorem quniJ_inv {pc : Nat} {L : QLoc} {S : List Value} {σ : QHeap} {f : Int64 → Value} {st' : QSt} (h : quniJ pc L S σ f = some st') : ∃ x S', S = .long x :: S' ∧ st' = (pc, L, f x :: S', σ) := by
 unfold quniJ at h
 split at h
 ·cases h; exact ⟨_, _, rfl, rfl⟩
 ·cases h
theorem qif_inv {pc : Nat} {L : QLoc} {S : List Value} {σ : QHeap} {cd : ClassFile.Cond} {t : Nat} {st' : QSt} (h : qif pc L S σ cd t = some st') : ∃ x S', S = .int x :: S' ∧ st' = (bif ifCond.holds cd x then t else pc, L, S', σ) := by
 unfold qif at h
 split at h
 ·cases h; exact ⟨_, _, rfl, rfl⟩
 ·cases h
theorem qicmp_inv {pc : Nat} {L : QLoc} {S : List Value} {σ : QHeap} {cd : ClassFile.Cond} {t : Nat} {st' : QSt} (h : qicmp pc L S σ cd t = some st') : ∃ x y S', S = .int y :: .int x :: S' ∧ st' = (bif if_icmp.holds cd x y then t else pc, L, S', σ) := by
 unfold qicmp at h
 split at h
 ·cases h; exact ⟨_, _, _, rfl, rfl⟩
 ·cases h
theorem qget_inv {pc : Nat} {L : QLoc} {S : List Value} {σ : QHeap} {k : Nat} {st' : QSt} (h : qget pc L S σ k = some st') : ∃ a S' vs v, S = .ref a :: S' ∧ hget σ a = some (.inl vs) ∧ vget vs k = some v ∧ st' = (pc, L, v :: S', σ) := by
 unfold qget at h
 split at h
 ·split at h
  ·split at h
   ·cases h; exact ⟨_, _, _, _, rfl, by assumption, by assumption, rfl⟩
   ·cases h
  ·cases h
 ·cases h
theorem qput_inv {pc : Nat} {L : QLoc} {S : List Value} {σ : QHeap} {k : Nat} {st' : QSt} (h : qput pc L S σ k = some st') : ∃ v a S' vs w, S = v :: .ref a :: S' ∧ hget σ a = some (.inl vs) ∧ k0 ≤ a ∧ k < vs.length ∧ qfit (fTy k) v = some w ∧ st' = (pc, L, S', σ.set a (.inl (vs.set k w))) := by
 unfold qput at h
 split at h
 ·rename_i v a S'
  split at h
  ·rename_i vs hvs
   cases hbb : (Nat.ble k0 a && Nat.ble (k + 1) vs.length) with
   | false => rw [hbb] at h; cases h
   | true =>
    rw [hbb] at h
    simp only [cond_true] at h
    obtain ⟨u, hu, h⟩ := Option.bind_eq_some_iff.mp h
    cases h
    obtain ⟨b1, b2⟩ := Bool.and_eq_true_iff.mp hbb
    exact ⟨v, a, S', vs, u, rfl, hvs, Nat.le_of_ble_eq_true b1, Nat.le_of_ble_eq_true b2, hu, rfl⟩
  ·cases h
 ·cases h
theorem qald_inv {pc : Nat} {L : QLoc} {S : List Value} {σ : QHeap} {ok : FieldType → Bool} {st' : QSt} (h : qald pc L S σ ok = some st') : ∃ j a S' ty xs v, S = .int j :: .ref a :: S' ∧ hget σ a = some (.inr (.inl (ty, xs))) ∧ ok ty = true ∧ aget xs j = some v ∧ st' = (pc, L, .int v :: S', σ) := by
 unfold qald at h
 split at h
 ·rename_i j a S'
  split at h
  ·rename_i x hx
   cases ht : ok x.1 with
   | false => rw [ht] at h; cases h
   | true =>
    rw [ht] at h
    simp only [cond_true] at h
    obtain ⟨u, hu, h⟩ := Option.bind_eq_some_iff.mp h
    cases h
    exact ⟨j, a, S', x.1, x.2, u, rfl, hx, ht, hu, rfl⟩
  ·cases h
 ·cases h
theorem qaldJ_inv {pc : Nat} {L : QLoc} {S : List Value} {σ : QHeap} {st' : QSt} (h : qaldJ pc L S σ = some st') : ∃ j a S' xs v, S = .int j :: .ref a :: S' ∧ hget σ a = some (.inr (.inr xs)) ∧ aget xs j = some v ∧ st' = (pc, L, .long v :: S', σ) := by
 unfold qaldJ at h
 split at h
 ·rename_i j a S'
  split at h
  ·rename_i x hx
   obtain ⟨u, hu, h⟩ := Option.bind_eq_some_iff.mp h
   cases h
   exact ⟨j, a, S', x, u, rfl, hx, hu, rfl⟩
  ·cases h
 ·cases h
theorem qast_inv {pc : Nat} {L : QLoc} {S : List Value} {σ : QHeap} {ok : FieldType → Bool} {st' : QSt} (h : qast pc L S σ ok = some st') : ∃ v j a S' ty xs ys, S = .int v :: .int j :: .ref a :: S' ∧ hget σ a = some (.inr (.inl (ty, xs))) ∧ ok ty = true ∧ k0 ≤ a ∧ aset xs j (qnar ty v) = some ys ∧ st' = (pc, L, S', σ.set a (.inr (.inl (ty, ys)))) := by
 unfold qast at h
 split at h
 ·rename_i v j a S'
  split at h
  ·rename_i x hx
   cases ht : (ok x.1 && Nat.ble k0 a) with
   | false => rw [ht] at h; cases h
   | true =>
    rw [ht] at h
    simp only [cond_true] at h
    obtain ⟨u, hu, h⟩ := Option.bind_eq_some_iff.mp h
    cases h
    obtain ⟨b1, b2⟩ := Bool.and_eq_true_iff.mp ht
    exact ⟨v, j, a, S', x.1, x.2, u, rfl, hx, b1, Nat.le_of_ble_eq_true b2, hu, rfl⟩
  ·cases h
 ·cases h
theorem qastJ_inv {pc : Nat} {L : QLoc} {S : List Value} {σ : QHeap} {st' : QSt} (h : qastJ pc L S σ = some st') : ∃ v j a S' xs ys, S = .long v :: .int j :: .ref a :: S' ∧ hget σ a = some (.inr (.inr xs)) ∧ k0 ≤ a ∧ aset xs j v = some ys ∧ st' = (pc, L, S', σ.set a (.inr (.inr ys))) := by
 unfold qastJ at h
 split at h
 ·rename_i v j a S'
  split at h
  ·rename_i x hx
   cases ht : (Nat.ble k0 a) with
   | false => rw [ht] at h; cases h
   | true =>
    rw [ht] at h
    simp only [cond_true] at h
    obtain ⟨u, hu, h⟩ := Option.bind_eq_some_iff.mp h
    cases h
    exact ⟨v, j, a, S', x, u, rfl, hx, Nat.le_of_ble_eq_true ht, hu, rfl⟩
  ·cases h
 ·cases h
theorem qlen_inv {pc : Nat} {L : QLoc} {S : List Value} {σ : QHeap} {st' : QSt} (h : qlen pc L S σ = some st') : ∃ a S' n, S = .ref a :: S' ∧ ((∃ ty xs, hget σ a = some (.inr (.inl (ty, xs))) ∧ n = xs.length) ∨ ∃ xs, hget σ a = some (.inr (.inr xs)) ∧ n = xs.length) ∧ st' = (pc, L, .int n.toInt32 :: S', σ) := by
 unfold qlen at h
 split at h
 ·rename_i a S'
  split at h
  ·rename_i x hx
   cases h; exact ⟨a, S', _, rfl, Or.inl ⟨x.1, x.2, hx, rfl⟩, rfl⟩
  ·rename_i x hx
   cases h; exact ⟨a, S', _, rfl, Or.inr ⟨x, hx, rfl⟩, rfl⟩
  ·cases h
 ·cases h
theorem isI_inv {v : Value} (h : isI v = true) : ∃ x, v = .int x := by cases v <;> simp [isI] at h; exact ⟨_, rfl⟩
theorem isJ_inv {v : Value} (h : isJ v = true) : ∃ x, v = .long x := by cases v <;> simp [isJ] at h; exact ⟨_, rfl⟩
theorem isR_inv {v : Value} (h : isR v = true) : ∃ x, v = .ref x := by cases v <;> simp [isR] at h; exact ⟨_, rfl⟩
theorem aget_inv {α : Type} {xs : List α} {j : Int32} {x : α} (h : aget xs j = some x) : ¬ j < 0 ∧ xs[j.toNatClampNeg]? = some x := by
 unfold aget at h
 split at h
 ·cases h
 ·rename_i q; exact ⟨q, h⟩
theorem aset_inv {α : Type} {xs ys : List α} {j : Int32} {x : α} (h : aset xs j x = some ys) : ¬ j < 0 ∧ j.toNatClampNeg < xs.length ∧ ys = xs.set j.toNatClampNeg x := by
 unfold aset at h
 split at h
 ·cases h
 ·rename_i q
  split at h
  ·rename_i q2; cases h; exact ⟨q, q2, rfl⟩
  ·cases h
theorem qnew_inv {n : Int32} {k : Nat} (h : qnew n = some k) : ¬ n < 0 ∧ n.toNatClampNeg = k ∧ k ≤ 67108864 := by
 unfold qnew at h
 split at h
 ·cases h
 ·rename_i q
  split at h
  ·rename_i q2; cases h; exact ⟨q, rfl, q2⟩
  ·cases h
theorem QCellOk.other {h h' : Heap} {a b : Addr} {sl : Nat} {w : Value} {c : QCell} (H : QCellOk Z ad h b c) (W : Wr h h' a sl w) (ne : b ≠ a) : QCellOk Z ad h' b c := by
 rcases c with vs | ⟨ty, xs⟩ | xs
 ·obtain ⟨h1, h2, h3⟩ := H
  exact ⟨h1.wr W, h2, fun k u hk hu => (h3 k u hk hu).other W (Or.inl ne)⟩
 ·obtain ⟨c, h1, h2⟩ := H
  exact ⟨c, h1.other W ne, h2⟩
 ·obtain ⟨c, h1, h2⟩ := H
  exact ⟨c, h1.other W ne, h2⟩
theorem QCellOk.ext {h h' : Heap} {b : Addr} {c : QCell} (H : QCellOk Z ad h b c) (E : Ext h h') : QCellOk Z ad h' b c := by
 rcases c with vs | ⟨ty, xs⟩ | xs
 ·obtain ⟨h1, h2, h3⟩ := H
  exact ⟨h1.ext E, h2, fun k u hk hu => (h3 k u hk hu).ext E⟩
 ·obtain ⟨c, h1, h2⟩ := H
  exact ⟨c, h1.ext E, h2⟩
 ·obtain ⟨c, h1, h2⟩ := H
  exact ⟨c, h1.ext E, h2⟩
theorem QRep.set {h h' : Heap} {σ : QHeap} {a : Nat} {sl : Nat} {w : Value} {c d : QCell} (H : QRep Z n0 ad h σ) (Ad : QAd n0 ad) (W : Wr h h' (ad a) sl w) (hc : hget σ a = some c) (hd : QCellOk Z ad h' (ad a) d) : QRep Z n0 ad h' (σ.set a d) := by
 obtain ⟨h1, h2, h3⟩ := H
 refine ⟨by simpa using h1, by rw [W.size, h2]; simp, fun k e he => ?_⟩
 rw [hget_set hc] at he
 split at he
 ·rename_i q; cases he; rw [q]; exact hd
 ·rename_i q; exact (h3 k e he).other W fun z => q (Ad.2 _ _ z)
theorem QRep.push {h h' : Heap} {σ : QHeap} {c : QCell} (H : QRep Z n0 ad h σ) (Ad : QAd n0 ad) (E : Ext h h') (hs : h'.size = h.size + 1) (hc : QCellOk Z ad h' h.size c) : QRep Z n0 ad h' (σ ++ [c]) := by
 obtain ⟨h1, h2, h3⟩ := H
 refine ⟨by simp; omega, by rw [hs, h2]; simp; omega, fun k e he => ?_⟩
 rw [hget_eq] at he
 rcases Nat.lt_or_ge k σ.length with q | q
 ·rw [List.getElem?_append_left q, ← hget_eq] at he
  exact (h3 k e he).ext E
 ·rw [List.getElem?_append_right q] at he
  obtain rfl : k = σ.length := by
   rcases Nat.lt_or_ge (k - σ.length) 1 with z | z
   ·omega
   ·rw [List.getElem?_eq_none (by simpa using z)] at he; cases he
  simp at he
  rw [← he, Ad.1 _ h1, ← h2]
  exact hc
theorem mem_of_contains {α : Type} [BEq α] [LawfulBEq α] {L : List α} {a : α} (h : L.contains a = true) : a ∈ L := by simpa using h
theorem lkF_lt : ∀ t ∈ lkF, t.2.2 < nF := by decide +kernel
theorem laid_of (W : QW Z a0) {k : Nat} (hk : k < nF) : Laid Z a0 cName cName (fNm k) (fDs k) := by
 have q := (qw_lay W) k hk
 cases hf : fFin k with
 | true => rw [hf] at q; exact Or.inr q
 | false => rw [hf] at q; exact Or.inl q
theorem qfit_inv {ty : FieldType} {v w : Value} (h : qfit ty v = some w) : v = w ∧ narrow ty (qv ad w) = qv ad w ∧ fits ty (qv ad w) = true := by
 unfold qfit at h
 split at h
 ·cases h; exact ⟨rfl, rfl, rfl⟩
 ·rename_i x
  obtain ⟨y, hy, h⟩ := Option.bind_eq_some_iff.mp h
  cases h
  unfold qboo at hy
  split at hy
  ·rename_i e; cases hy; subst e; exact ⟨rfl, rfl, rfl⟩
  ·split at hy
   ·rename_i e; cases hy; subst e; exact ⟨rfl, rfl, rfl⟩
   ·cases hy
 ·cases h; exact ⟨rfl, rfl, rfl⟩
 ·cases h; exact ⟨rfl, rfl, rfl⟩
 ·cases h
theorem vget_set {vs : List Value} {k j : Nat} {w : Value} (hk : k < vs.length) : vget (vs.set k w) j = if j = k then some w else vget vs j := by
 simp only [vget_eq, List.getElem?_set]
 by_cases e : k = j
 ·subst e; simp [hk]
 ·simp [e, Ne.symm e]
theorem ald_in {α : Type} {f : α → Value} {xs : List α} {c : Cell} {j : Int32} {x : α} (hc : c.slots = (xs.map f).toArray) (h : aget xs j = some x) : ¬ (j < 0 ∨ c.slots.size ≤ j.toNatClampNeg) ∧ c.slots[j.toNatClampNeg]? = some (f x) := by
 obtain ⟨h1, h2⟩ := aget_inv h
 have h3 := (List.getElem?_eq_some_iff.mp h2).1
 refine ⟨fun q => ?_, by rw [hc]; simp [h2]⟩
 rcases q with q | q
 ·exact h1 q
 ·rw [hc] at q; simp at q; omega
theorem ast_in {α : Type} {f : α → Value} {xs ys : List α} {c : Cell} {j : Int32} {x : α} (hc : c.slots = (xs.map f).toArray) (h : aset xs j x = some ys) : ¬ (j < 0 ∨ c.slots.size ≤ j.toNatClampNeg) ∧ (c.setSlot j.toNatClampNeg (f x)).slots = (ys.map f).toArray := by
 obtain ⟨h1, h2, rfl⟩ := aset_inv h
 refine ⟨fun q => ?_, by simp [Cell.setSlot, hc, List.map_set]⟩
 rcases q with q | q
 ·exact h1 q
 ·rw [hc] at q; simp at q; omega
theorem qgrow {σ : QHeap} {c : QCell} : qhs (σ ++ [c]) - qhs σ = qsz c := by rw [qhs_app]; simp [qhs]
set_option maxHeartbeats 4000000 in
theorem QTri.newArr (Ad : QAd n0 ad) (W : QW Z a0) {pc aux : Nat} {L : QLoc} {S : List Value} {σ : QHeap} {aty : ArrayType} {n : Int32} {k : Nat} {c : QCell} (hk : qnew n = some k) (hc : pCode m pc = some (.newarray aty, aux)) (hz : qsz c = k)
  (hq : ∀ (h' : Heap) (a : Addr) (cA : ClassId), Arr Z h' a (newA cA (newarray.typeOf aty) n) (newarray.typeOf aty) → QCellOk Z ad h' a c)
  (h : QTri l Z n0 ad m (pc + 2, L, .ref σ.length :: S, σ ++ [c]) v σ') : QTri l Z n0 ad m (pc, L, .int n :: S, σ) v σ' := by
 have hd : decode (pBytes m) pc = .ok (.newarray aty, 2) := pDecN hc rfl
 obtain ⟨n1, n2, n3⟩ := qnew_inv hk
 refine QTri.gen h (by simp) (by simp [qhs_app]) fun p e R s mid args below meth c' T locs cells slots C hcx X hR hF hL hC hn hc1 hsl => ?_
 obtain ⟨hx, hZ, hby, hml, hret, hown, hnm, hfr, hlo⟩ := hcx
 have hd2 : decode c'.code pc = .ok (.newarray aty, 2) := by rw [hby]; exact hd
 simp only [List.length_append, List.length_singleton, Nat.add_sub_cancel_left, qgrow, hz] at hc1 hsl ⊢
 obtain ⟨T₁, h₁, cA, X₁, e₁, E₁, A₁, st⟩ := newP X hx hZ (aty := aty) (qw_arr W (newarray.typeOf aty) (mem_of_contains (show aTys.contains (newarray.typeOf aty) = true from pRest hc))) rfl (g := mkF mid pc C (.int n :: S.map (qv ad))) rfl hd2 rfl n1 (cap := k) (by omega) (by omega) hc1 hsl
 have hsz : h₁.size = T.heap.size + 1 := by
  have q1 := X₁.heapSize
  have q2 : T.heap.size < h₁.size := A₁.lt
  have q3 := hR.2.1
  rw [e₁] at q1
  have : n0 + (σ.length - k0) = s.heap.size + cells := hn
  have q3' : T.heap.size = n0 + (σ.length - k0) := q3
  omega
 refine ⟨T₁, locs, C, X₁, ?_, hF, hL, hC, fun target q => ?_⟩
 ·rw [e₁]; exact QRep.push hR Ad E₁ hsz (hq _ _ _ A₁)
 ·refine st _ ?_
  have e2 : ad σ.length = T.heap.size := by rw [Ad.1 _ hR.1]; exact hR.2.1.symm
  simp only [List.map_cons, qv, e2] at q
  exact q
set_option maxHeartbeats 4000000 in
theorem QTri.getfield (W : QW Z a0) {pc idx aux : Nat} {L : QLoc} {S : List Value} {σ : QHeap} {st' : QSt} (h : QTri l Z n0 ad m st' v σ') (hc : pCode m pc = some (.getfield idx, aux)) (hs : qget (pc + 3) L S σ aux = some st') : QTri l Z n0 ad m (pc, L, S, σ) v σ' := by
 have hd : decode (pBytes m) pc = .ok (.getfield idx, 3) := pDecN hc rfl
 obtain ⟨a, S', vs, w, rfl, hvs, hw, rfl⟩ := qget_inv hs
 have hm := mem_of_contains (show lkF.contains (pK m, idx, aux) = true from pRest hc)
 have hlt := lkF_lt _ hm
 refine QTri.pure h rfl fun p e R s mid args below meth c T locs cells slots C hcx X hR hL hC => ?_
 obtain ⟨hx, hZ, hby, hml, hret, hown, hnm, hfr, hlo⟩ := hcx
 have hd2 : decode c.code pc = .ok (.getfield idx, 3) := by rw [hby]; exact hd
 have F := (hR.2.2 _ _ hvs).2.2 aux w hlt hw
 obtain ⟨T₁, X₁, e₁, st⟩ := getF X hx hZ hown (host := "") (index := idx) (Or.inl (qw_fl W (pK m, idx, aux) hm)) Via.refl rfl F (g := mkF mid pc C (List.map (qv ad) (.ref a :: S'))) rfl rfl hd2
 exact ⟨T₁, C, X₁, e₁, hL, hC, st⟩
set_option maxHeartbeats 4000000 in
theorem QTri.putfield (Ad : QAd n0 ad) (W : QW Z a0) {pc idx aux : Nat} {L : QLoc} {S : List Value} {σ : QHeap} {st' : QSt} (h : QTri l Z n0 ad m st' v σ') (hc : pCode m pc = some (.putfield idx, aux)) (hs : qput (pc + 3) L S σ aux = some st') : QTri l Z n0 ad m (pc, L, S, σ) v σ' := by
 have hd : decode (pBytes m) pc = .ok (.putfield idx, 3) := pDecN hc rfl
 obtain ⟨w, a, S', vs, u, rfl, hvs, b1, b2, hu, rfl⟩ := qput_inv hs
 obtain ⟨r1, r2⟩ := Bool.and_eq_true_iff.mp (show (lkF.contains (pK m, idx, aux) && (!fFin aux || (pK m == 1 && pNm m == "<init>"))) = true from pRest hc)
 have hm := mem_of_contains r1
 have hlt := lkF_lt _ hm
 obtain ⟨rfl, q2, q3⟩ := qfit_inv (ad := ad) hu
 have hsz : qhs (σ.set a (Sum.inl (vs.set aux w))) = qhs σ := qhs_set hvs rfl
 refine QTri.gen h (by simp) (by show qhs σ ≤ qhs (σ.set a (Sum.inl (vs.set aux w))); rw [hsz]; exact Nat.le_refl _) fun p e R s mid args below meth c T locs cells slots C hcx X hR hF hL hC hn hc1 hsl => ?_
 obtain ⟨hx, hZ, hby, hml, hret, hown, hnm, hfr, hlo⟩ := hcx
 have hd2 : decode c.code pc = .ok (.putfield idx, 3) := by rw [hby]; exact hd
 obtain ⟨E, l1, Fs⟩ := hR.2.2 _ _ hvs
 obtain ⟨old, hold⟩ : ∃ old, vget vs aux = some old := by rw [vget_eq]; exact ⟨_, List.getElem?_eq_getElem b2⟩
 have lay : (Cond.lays cName cName (fNm aux) (fDs aux)).before a0 Z = true ∨ ((Cond.laysFinal cName cName (fNm aux) (fDs aux)).before a0 Z = true ∧ kName (pK m) = cName ∧ meth.name = "<init>") := by
  have q := (qw_lay W) aux hlt
  cases hf : fFin aux with
  | false => rw [hf] at q; exact Or.inl q
  | true =>
   rw [hf] at q r2
   simp at r2
   exact Or.inr ⟨q, by rw [r2.1]; exact kOne, by rw [hnm]; exact r2.2⟩
 obtain ⟨T₁, h₁, X₁, e₁, W₁, st⟩ := putF X hx hZ hown (host := "") (index := idx) (Or.inl (qw_fl W (pK m, idx, aux) hm)) Via.refl rfl (Fs aux old hlt hold) E lay ((qw_inst W)) (fPrs aux hlt) q2 q3 (g := mkF mid pc C (List.map (qv ad) (w :: .ref a :: S'))) rfl rfl hd2
 refine ⟨T₁, _, C, ?_, ?_, Fr.snoc X₁ hF (by rw [Ad.1 a b1]; exact Nat.le_add_right _ _), hL, hC, st⟩
 ·show Stand _ _ _ _ _ _ _ _ _ _ _ _ (cells + ((σ.set a (Sum.inl (vs.set aux w))).length - σ.length)) (slots + (qhs (σ.set a (Sum.inl (vs.set aux w))) - qhs σ))
  rw [hsz, Nat.sub_self, List.length_set, Nat.sub_self]
  exact X₁
 ·rw [e₁]
  refine QRep.set hR Ad W₁ hvs ⟨E.wr W₁, by simpa using l1, fun k u hk hu => ?_⟩
  rw [vget_set b2] at hu
  split at hu
  ·rename_i e; cases hu; rw [e]; exact (Fs aux old hlt hold).same W₁
  ·rename_i ne
   exact (Fs k u hk hu).other W₁ (Or.inr (slot_ne (laid_of W hk) (laid_of W hlt) (fun z => ne (fInj _ hk _ hlt z)) (fPrs _ hk) (fPrs _ hlt)))
theorem tyI_inv {ty : FieldType} (h : tyI ty = true) : ty = .int := by cases ty <;> simp [tyI] at h; rfl
theorem tyB_inv {ty : FieldType} (h : tyB ty = true) : ty = .boolean ∨ ty = .byte := by cases ty <;> simp [tyB] at h <;> simp
set_option maxHeartbeats 4000000 in
theorem QTri.iaload {pc aux : Nat} {L : QLoc} {S : List Value} {σ : QHeap} {st' : QSt} (h : QTri l Z n0 ad m st' v σ') (hc : pCode m pc = some (.iaload, aux)) (hs : qald (pc + 1) L S σ tyI = some st') : QTri l Z n0 ad m (pc, L, S, σ) v σ' := by
 have hd : decode (pBytes m) pc = .ok (.iaload, 1) := pDecN hc rfl
 obtain ⟨j, a, S', ty, xs, w, rfl, hx1, ht, hw, rfl⟩ := qald_inv hs
 obtain rfl := tyI_inv ht
 refine QTri.stack h fun p e R s mid args below meth c T locs cells slots C target hx hZ hby hown X hR hL k => ?_
 have hd2 : decode c.code pc = .ok (.iaload, 1) := by rw [hby]; exact hd
 obtain ⟨cl, A, hsl⟩ := hR.2.2 _ _ hx1
 obtain ⟨i1, i2⟩ := ald_in hsl hw
 exact X.iaload hx A.1 (State.isArrayOf_alike hZ.alike A.2.1) A.2.2 i1 i2 (g := mkF mid pc C (List.map (qv ad) (.int j :: .ref a :: S'))) rfl rfl hd2 _ k
set_option maxHeartbeats 4000000 in
theorem QTri.baload {pc aux : Nat} {L : QLoc} {S : List Value} {σ : QHeap} {st' : QSt} (h : QTri l Z n0 ad m st' v σ') (hc : pCode m pc = some (.baload, aux)) (hs : qald (pc + 1) L S σ tyB = some st') : QTri l Z n0 ad m (pc, L, S, σ) v σ' := by
 have hd : decode (pBytes m) pc = .ok (.baload, 1) := pDecN hc rfl
 obtain ⟨j, a, S', ty, xs, w, rfl, hx1, ht, hw, rfl⟩ := qald_inv hs
 refine QTri.stack h fun p e R s mid args below meth c T locs cells slots C target hx hZ hby hown X hR hL k => ?_
 have hd2 : decode c.code pc = .ok (.baload, 1) := by rw [hby]; exact hd
 obtain ⟨cl, A, hsl⟩ := hR.2.2 _ _ hx1
 obtain ⟨i1, i2⟩ := ald_in hsl hw
 rcases tyB_inv ht with rfl | rfl
 ·exact X.baloadBooleans hx A.1 (State.isArrayOf_alike hZ.alike A.2.1) A.2.2 i1 i2 (g := mkF mid pc C (List.map (qv ad) (.int j :: .ref a :: S'))) rfl rfl hd2 _ k
 ·exact X.baloadBytes hx A.1 (State.isArrayOf_alike hZ.alike A.2.1) A.2.2 i1 i2 (g := mkF mid pc C (List.map (qv ad) (.int j :: .ref a :: S'))) rfl rfl hd2 _ k
set_option maxHeartbeats 4000000 in
theorem QTri.laload {pc aux : Nat} {L : QLoc} {S : List Value} {σ : QHeap} {st' : QSt} (h : QTri l Z n0 ad m st' v σ') (hc : pCode m pc = some (.laload, aux)) (hs : qaldJ (pc + 1) L S σ = some st') : QTri l Z n0 ad m (pc, L, S, σ) v σ' := by
 have hd : decode (pBytes m) pc = .ok (.laload, 1) := pDecN hc rfl
 obtain ⟨j, a, S', xs, w, rfl, hx1, hw, rfl⟩ := qaldJ_inv hs
 refine QTri.stack h fun p e R s mid args below meth c T locs cells slots C target hx hZ hby hown X hR hL k => ?_
 have hd2 : decode c.code pc = .ok (.laload, 1) := by rw [hby]; exact hd
 obtain ⟨cl, A, hsl⟩ := hR.2.2 _ _ hx1
 obtain ⟨i1, i2⟩ := ald_in hsl hw
 exact X.laload hx A.1 (State.isArrayOf_alike hZ.alike A.2.1) A.2.2 i1 i2 (g := mkF mid pc C (List.map (qv ad) (.int j :: .ref a :: S'))) rfl rfl hd2 _ k
theorem QTri.stored (Ad : QAd n0 ad) {pc : Nat} {L : QLoc} {S S' : List Value} {σ : QHeap} {a j : Nat} {w : Value} {c d : QCell} (hx1 : hget σ a = some c) (b1 : k0 ≤ a) (hz : qsz d = qsz c) (h : QTri l Z n0 ad m (pc + 1, L, S', σ.set a d) v σ')
  (hs : ∀ (p : Program) (e : Env) (R : Room) (s : State) (mid : MethodId) (args : Array Value) (below : List Frame) (meth : Method) (c : Code) (T : State) (locs : List Loc) (cells slots : Nat) (C : Array Slot),
   QCx Z p R s mid meth c m → Stand p l e R s mid args below meth c T locs cells slots → QRep Z n0 ad T.heap σ →
   ∃ T' h', Stand p l e R s mid args below meth c T' (locs ++ [⟨ad a, j⟩]) cells slots ∧ T'.heap = h' ∧ Wr T.heap h' (ad a) j w ∧ QCellOk Z ad h' (ad a) d ∧ ∀ target, Steps p.tables e below (T'.setTop (mkF mid (pc + 1) C (S'.map (qv ad)))) target → Steps p.tables e below (T.setTop (mkF mid pc C (S.map (qv ad)))) target) :
  QTri l Z n0 ad m (pc, L, S, σ) v σ' := by
 have hsz : qhs (σ.set a d) = qhs σ := qhs_set hx1 hz
 refine QTri.gen h (by simp) (by show qhs σ ≤ qhs (σ.set a d); rw [hsz]; exact Nat.le_refl _) fun p e R s mid args below meth c T locs cells slots C hcx X hR hF hL hC hn hc1 hsl => ?_
 obtain ⟨T₁, h₁, X₁, e₁, W₁, Q₁, st⟩ := hs p e R s mid args below meth c T locs cells slots C hcx X hR
 refine ⟨T₁, _, C, ?_, ?_, Fr.snoc X₁ hF (by rw [Ad.1 a b1]; exact Nat.le_add_right _ _), hL, hC, st⟩
 ·show Stand _ _ _ _ _ _ _ _ _ _ _ _ (cells + ((σ.set a d).length - σ.length)) (slots + (qhs (σ.set a d) - qhs σ))
  rw [hsz, Nat.sub_self, List.length_set, Nat.sub_self]
  exact X₁
 ·rw [e₁]
  exact QRep.set hR Ad W₁ hx1 Q₁
set_option maxHeartbeats 4000000 in
theorem QTri.iastore (Ad : QAd n0 ad) {pc aux : Nat} {L : QLoc} {S : List Value} {σ : QHeap} {st' : QSt} (h : QTri l Z n0 ad m st' v σ') (hc : pCode m pc = some (.iastore, aux)) (hs : qast (pc + 1) L S σ tyI = some st') : QTri l Z n0 ad m (pc, L, S, σ) v σ' := by
 have hd : decode (pBytes m) pc = .ok (.iastore, 1) := pDecN hc rfl
 obtain ⟨w, j, a, S', ty, xs, ys, rfl, hx1, ht, b1, hw, rfl⟩ := qast_inv hs
 obtain rfl := tyI_inv ht
 refine QTri.stored Ad (j := j.toNatClampNeg) (w := .int w) hx1 b1 (by rw [(aset_inv hw).2.2]; simp [qsz]) h fun p e R s mid args below meth c T locs cells slots C hcx X hR => ?_
 have hd2 : decode c.code pc = .ok (.iastore, 1) := by rw [hcx.2.2.1]; exact hd
 obtain ⟨cl, A, hsl⟩ := hR.2.2 _ _ hx1
 obtain ⟨i1, i2⟩ := ast_in hsl hw
 obtain ⟨T₁, h₁, X₁, e₁, W₁, st⟩ := stI X hcx.1 hcx.2.1 rfl A i1 (g := mkF mid pc C (List.map (qv ad) (.int w :: .int j :: .ref a :: S'))) rfl rfl hd2
 exact ⟨T₁, h₁, X₁, e₁, W₁, ⟨_, A.same W₁, i2⟩, st⟩
set_option maxHeartbeats 4000000 in
theorem QTri.bastore (Ad : QAd n0 ad) {pc aux : Nat} {L : QLoc} {S : List Value} {σ : QHeap} {st' : QSt} (h : QTri l Z n0 ad m st' v σ') (hc : pCode m pc = some (.bastore, aux)) (hs : qast (pc + 1) L S σ tyB = some st') : QTri l Z n0 ad m (pc, L, S, σ) v σ' := by
 have hd : decode (pBytes m) pc = .ok (.bastore, 1) := pDecN hc rfl
 obtain ⟨w, j, a, S', ty, xs, ys, rfl, hx1, ht, b1, hw, rfl⟩ := qast_inv hs
 refine QTri.stored Ad (j := j.toNatClampNeg) (w := .int (qnar ty w)) hx1 b1 (by rw [(aset_inv hw).2.2]; simp [qsz]) h fun p e R s mid args below meth c T locs cells slots C hcx X hR => ?_
 have hd2 : decode c.code pc = .ok (.bastore, 1) := by rw [hcx.2.2.1]; exact hd
 obtain ⟨cl, A, hsl⟩ := hR.2.2 _ _ hx1
 obtain ⟨i1, i2⟩ := ast_in hsl hw
 rcases tyB_inv ht with rfl | rfl
 ·obtain ⟨T₁, h₁, X₁, e₁, W₁, st⟩ := stZ X hcx.1 hcx.2.1 rfl A i1 (g := mkF mid pc C (List.map (qv ad) (.int w :: .int j :: .ref a :: S'))) rfl rfl hd2
  exact ⟨T₁, h₁, X₁, e₁, W₁, ⟨_, A.same W₁, i2⟩, st⟩
 ·obtain ⟨T₁, h₁, X₁, e₁, W₁, st⟩ := stB X hcx.1 hcx.2.1 rfl A i1 (g := mkF mid pc C (List.map (qv ad) (.int w :: .int j :: .ref a :: S'))) rfl rfl hd2
  exact ⟨T₁, h₁, X₁, e₁, W₁, ⟨_, A.same W₁, i2⟩, st⟩
set_option maxHeartbeats 4000000 in
theorem QTri.lastore (Ad : QAd n0 ad) {pc aux : Nat} {L : QLoc} {S : List Value} {σ : QHeap} {st' : QSt} (h : QTri l Z n0 ad m st' v σ') (hc : pCode m pc = some (.lastore, aux)) (hs : qastJ (pc + 1) L S σ = some st') : QTri l Z n0 ad m (pc, L, S, σ) v σ' := by
 have hd : decode (pBytes m) pc = .ok (.lastore, 1) := pDecN hc rfl
 obtain ⟨w, j, a, S', xs, ys, rfl, hx1, b1, hw, rfl⟩ := qastJ_inv hs
 refine QTri.stored Ad (j := j.toNatClampNeg) (w := .long w) hx1 b1 (by rw [(aset_inv hw).2.2]; simp [qsz]) h fun p e R s mid args below meth c T locs cells slots C hcx X hR => ?_
 have hd2 : decode c.code pc = .ok (.lastore, 1) := by rw [hcx.2.2.1]; exact hd
 obtain ⟨cl, A, hsl⟩ := hR.2.2 _ _ hx1
 obtain ⟨i1, i2⟩ := ast_in hsl hw
 obtain ⟨T₁, h₁, X₁, e₁, W₁, st⟩ := stJ X hcx.1 hcx.2.1 rfl A i1 (g := mkF mid pc C (List.map (qv ad) (.long w :: .int j :: .ref a :: S'))) rfl rfl hd2
 exact ⟨T₁, h₁, X₁, e₁, W₁, ⟨_, A.same W₁, i2⟩, st⟩
set_option maxHeartbeats 4000000 in
theorem QTri.alen {pc aux : Nat} {L : QLoc} {S : List Value} {σ : QHeap} {st' : QSt} (h : QTri l Z n0 ad m st' v σ') (hc : pCode m pc = some (.arraylength, aux)) (hs : qlen (pc + 1) L S σ = some st') : QTri l Z n0 ad m (pc, L, S, σ) v σ' := by
 have hd : decode (pBytes m) pc = .ok (.arraylength, 1) := pDecN hc rfl
 obtain ⟨a, S', n, rfl, hx1, rfl⟩ := qlen_inv hs
 refine QTri.stack h fun p e R s mid args below meth c T locs cells slots C target hx hZ hby hown X hR hL k => ?_
 have hd2 : decode c.code pc = .ok (.arraylength, 1) := by rw [hby]; exact hd
 rcases hx1 with ⟨ty, xs, hx1, rfl⟩ | ⟨xs, hx1, rfl⟩
 ·obtain ⟨cl, A, hsl⟩ := hR.2.2 _ _ hx1
  have e1 : cl.slots.size = xs.length := by rw [hsl]; simp
  rw [← e1] at k
  exact X.arraylength hx A.1 (State.isArrayOf_alike hZ.alike A.2.1) (g := mkF mid pc C (List.map (qv ad) (.ref a :: S'))) rfl rfl hd2 _ k
 ·obtain ⟨cl, A, hsl⟩ := hR.2.2 _ _ hx1
  have e1 : cl.slots.size = xs.length := by rw [hsl]; simp
  rw [← e1] at k
  exact X.arraylength hx A.1 (State.isArrayOf_alike hZ.alike A.2.1) (g := mkF mid pc C (List.map (qv ad) (.ref a :: S'))) rfl rfl hd2 _ k
set_option maxHeartbeats 4000000 in
theorem QTri.newObj (Ad : QAd n0 ad) (W : QW Z a0) {pc idx aux : Nat} {L : QLoc} {S : List Value} {σ : QHeap} (h : QTri l Z n0 ad m (pc + 3, L, .ref σ.length :: S, σ ++ [.inl cDef]) v σ') (hc : pCode m pc = some (.new idx, aux)) : QTri l Z n0 ad m (pc, L, S, σ) v σ' := by
 have hd : decode (pBytes m) pc = .ok (.new idx, 3) := pDecN hc rfl
 have hm := mem_of_contains (show lkN.contains (pK m, idx) = true from pRest hc)
 refine QTri.gen h (by simp) (by simp [qhs_app]) fun p e R s mid args below meth c T locs cells slots C hcx X hR hF hL hC hn hc1 hsl => ?_
 obtain ⟨hx, hZ, hby, hml, hret, hown, hnm, hfr, hlo⟩ := hcx
 have hd2 : decode c.code pc = .ok (.new idx, 3) := by rw [hby]; exact hd
 simp only [List.length_append, List.length_singleton, Nat.add_sub_cancel_left, qgrow, qsz] at hc1 hsl ⊢
 obtain ⟨T₁, h₁, X₁, e₁, E₁, A₁, D₁, -, st⟩ := newO X hx hZ hown (index := idx) (qw_nw W (pK m, idx) hm) ((qw_inst W)) ((qw_init W)) rfl (g := mkF mid pc C (S.map (qv ad))) rfl hd2 hc1 hsl
 have hsz : h₁.size = T.heap.size + 1 := by
  have q1 := X₁.heapSize
  have q2 : T.heap.size < h₁.size := A₁.lt
  have q3 : T.heap.size = n0 + (σ.length - k0) := hR.2.1
  rw [e₁] at q1
  have : n0 + (σ.length - k0) = s.heap.size + cells := hn
  omega
 refine ⟨T₁, locs, C, X₁, ?_, hF, hL, hC, fun target q => ?_⟩
 ·rw [e₁]
  refine QRep.push hR Ad E₁ hsz ⟨A₁, cDefL, fun k u hk hu => ?_⟩
  rw [cDefs k hk] at hu
  cases hu
  have e3 : qv ad (defaultValue (fTy k)) = defaultValue (fTy k) := by
   cases hq : defaultValue (fTy k) with
   | ref a => exact absurd hq (fDef k hk a)
   | _ => rfl
  rw [e3]
  exact D₁ (laid_of W hk) (fPrs k hk)
 ·refine st _ ?_
  have e2 : ad σ.length = T.heap.size := by rw [Ad.1 _ hR.1]; exact hR.2.1.symm
  simp only [List.map_cons, qv, e2] at q
  exact q
set_option maxHeartbeats 8000000 in
theorem QTri.step (Ad : QAd n0 ad) (W : QW Z a0) {st st' : QSt} (h : QTri l Z n0 ad m st' v σ') (hs : qstep m st = some st') : QTri l Z n0 ad m st v σ' := by
 obtain ⟨pc, L, S, σ⟩ := st
 unfold qstep at hs
 dsimp only at hs
 split at hs
 rotate_left
 ·cases hs
 rename_i i aux hc
 have hd := pDecN hc rfl
 have hr := pRest hc
 unfold qexec at hs
 split at hs
 ·-- aload_n
  obtain ⟨w, h1, h2, rfl⟩ := qload_inv hs
  obtain ⟨a, rfl⟩ := isR_inv h2
  exact QTri.stack h fun p e R s mid args below meth c T locs cells slots C target hx hZ hby hown X hR hL k => XS.aloadN X.here hx rfl (hb hby hd) (hL.2.1 _ _ h1) rfl k
 ·obtain ⟨w, h1, h2, rfl⟩ := qload_inv hs
  obtain ⟨a, rfl⟩ := isR_inv h2
  exact QTri.stack h fun p e R s mid args below meth c T locs cells slots C target hx hZ hby hown X hR hL k => XS.aload X.here hx rfl (hb hby hd) (hL.2.1 _ _ h1) rfl k
 ·obtain ⟨w, h1, h2, rfl⟩ := qload_inv hs
  obtain ⟨a, rfl⟩ := isI_inv h2
  exact QTri.stack h fun p e R s mid args below meth c T locs cells slots C target hx hZ hby hown X hR hL k => XS.iloadN X.here hx rfl (hb hby hd) (hL.2.1 _ _ h1) k
 ·obtain ⟨w, h1, h2, rfl⟩ := qload_inv hs
  obtain ⟨a, rfl⟩ := isI_inv h2
  exact QTri.stack h fun p e R s mid args below meth c T locs cells slots C target hx hZ hby hown X hR hL k => XS.iload X.here hx rfl (hb hby hd) (hL.2.1 _ _ h1) k
 ·obtain ⟨w, h1, h2, rfl⟩ := qload_inv hs
  obtain ⟨a, rfl⟩ := isJ_inv h2
  exact QTri.stack h fun p e R s mid args below meth c T locs cells slots C target hx hZ hby hown X hR hL k => XT.lloadN X.here hx rfl (hb hby hd) (hL.2.1 _ _ h1) k
 ·obtain ⟨w, h1, h2, rfl⟩ := qload_inv hs
  obtain ⟨a, rfl⟩ := isJ_inv h2
  exact QTri.stack h fun p e R s mid args below meth c T locs cells slots C target hx hZ hby hown X hR hL k => XT.lload X.here hx rfl (hb hby hd) (hL.2.1 _ _ h1) k
 ·cases hs -- iconst
  exact QTri.stack h fun p e R s mid args below meth c T locs cells slots C target hx hZ hby hown X hR hL k => XS.iconst X.here hx rfl (hb hby hd) k
 ·cases hs
  exact QTri.stack h fun p e R s mid args below meth c T locs cells slots C target hx hZ hby hown X hR hL k => XS.bipush X.here hx rfl (hb hby hd) k
 ·cases hs
  exact QTri.stack h fun p e R s mid args below meth c T locs cells slots C target hx hZ hby hown X hR hL k => XS.sipush X.here hx rfl (hb hby hd) k
 ·cases hs
  exact QTri.stack h fun p e R s mid args below meth c T locs cells slots C target hx hZ hby hown X hR hL k => XT.lconst X.here hx rfl (hb hby hd) k
 ·-- ldc
  unfold qldc at hs
  split at hs
  ·rename_i w hw
   cases hs
   obtain ⟨x, hx1, hx2⟩ := qw_cI W (pK m, _, aux) (mem_of_contains (show lkC.contains (pK m, _, aux) = true from hr))
   rw [show vget cK aux = some w from hw] at hx1
   cases hx1
   exact QTri.stack h fun p e R s mid args below meth c T locs cells slots C target hx hZ hby hown X hR hL k => X.ldcI hx hown (mv hZ hx2) rfl (hb hby hd) k
  ·cases hs
 ·unfold qldc at hs
  split at hs
  ·rename_i w hw
   cases hs
   obtain ⟨x, hx1, hx2⟩ := qw_cJ W (pK m, _, aux) (mem_of_contains (show lkD.contains (pK m, _, aux) = true from hr))
   rw [show vget cK aux = some w from hw] at hx1
   cases hx1
   exact QTri.stack h fun p e R s mid args below meth c T locs cells slots C target hx hZ hby hown X hR hL k => X.ldc2J hx hown (mv hZ hx2) rfl (hb hby hd) k
  ·cases hs
 ·-- istore_n
  obtain ⟨w, S', L', rfl, h2, h3, rfl⟩ := qstore_inv hs
  obtain ⟨a, rfl⟩ := isI_inv h2
  exact QTri.frame h fun p e R s mid args below meth c T locs cells slots C hcx X hR hL hC => by
   obtain ⟨D, d1, d2, d3⟩ := store_ok hL h3
   exact ⟨D, d2, d3.trans hC, fun target k => XS.istoreN X.here hcx.1 rfl (hb hcx.2.2.1 hd) rfl d1 k⟩
 ·obtain ⟨w, S', L', rfl, h2, h3, rfl⟩ := qstore_inv hs
  obtain ⟨a, rfl⟩ := isI_inv h2
  exact QTri.frame h fun p e R s mid args below meth c T locs cells slots C hcx X hR hL hC => by
   obtain ⟨D, d1, d2, d3⟩ := store_ok hL h3
   exact ⟨D, d2, d3.trans hC, fun target k => XS.istore X.here hcx.1 rfl (hb hcx.2.2.1 hd) rfl d1 k⟩
 ·obtain ⟨w, S', L', rfl, h2, h3, rfl⟩ := qstore_inv hs
  obtain ⟨a, rfl⟩ := isJ_inv h2
  exact QTri.frame h fun p e R s mid args below meth c T locs cells slots C hcx X hR hL hC => by
   obtain ⟨D, d1, d2, d3⟩ := store_ok hL h3
   exact ⟨D, d2, d3.trans hC, fun target k => XT.lstoreN X.here hcx.1 rfl (hb hcx.2.2.1 hd) rfl d1 k⟩
 ·obtain ⟨w, S', L', rfl, h2, h3, rfl⟩ := qstore_inv hs
  obtain ⟨a, rfl⟩ := isJ_inv h2
  exact QTri.frame h fun p e R s mid args below meth c T locs cells slots C hcx X hR hL hC => by
   obtain ⟨D, d1, d2, d3⟩ := store_ok hL h3
   exact ⟨D, d2, d3.trans hC, fun target k => XT.lstore X.here hcx.1 rfl (hb hcx.2.2.1 hd) rfl d1 k⟩
 ·obtain ⟨w, S', L', rfl, h2, h3, rfl⟩ := qstore_inv hs
  obtain ⟨a, rfl⟩ := isR_inv h2
  exact QTri.frame h fun p e R s mid args below meth c T locs cells slots C hcx X hR hL hC => by
   obtain ⟨D, d1, d2, d3⟩ := store_ok hL h3
   exact ⟨D, d2, d3.trans hC, fun target k => XS.astoreN X.here hcx.1 rfl (hb hcx.2.2.1 hd) rfl rfl d1 k⟩
 ·obtain ⟨w, S', L', rfl, h2, h3, rfl⟩ := qstore_inv hs
  obtain ⟨a, rfl⟩ := isR_inv h2
  exact QTri.frame h fun p e R s mid args below meth c T locs cells slots C hcx X hR hL hC => by
   obtain ⟨D, d1, d2, d3⟩ := store_ok hL h3
   exact ⟨D, d2, d3.trans hC, fun target k => XS.astore X.here hcx.1 rfl (hb hcx.2.2.1 hd) rfl rfl d1 k⟩
 ·-- iinc
  unfold qinc at hs
  split at hs
  ·rename_i x hx1
   split at hs
   ·rename_i L' hL'
    cases hs
    exact QTri.frame h fun p e R s mid args below meth c T locs cells slots C hcx X hR hL hC => by
     obtain ⟨D, d1, d2, d3⟩ := store_ok hL hL'
     exact ⟨D, d2, d3.trans hC, fun target k => XS.iinc X.here hcx.1 rfl (hb hcx.2.2.1 hd) (hL.2.1 _ _ hx1) d1 k⟩
   ·cases hs
  ·cases hs
 ·obtain ⟨x, y, S', rfl, rfl⟩ := qbin_inv hs -- iadd
  exact QTri.stack h fun p e R s mid args below meth c T locs cells slots C target hx hZ hby hown X hR hL k => XS.iadd X.here hx rfl (hb hby hd) rfl k
 ·obtain ⟨x, y, S', rfl, rfl⟩ := qbin_inv hs
  exact QTri.stack h fun p e R s mid args below meth c T locs cells slots C target hx hZ hby hown X hR hL k => XS.isub X.here hx rfl (hb hby hd) rfl k
 ·obtain ⟨x, y, S', rfl, rfl⟩ := qbin_inv hs
  exact QTri.stack h fun p e R s mid args below meth c T locs cells slots C target hx hZ hby hown X hR hL k => XS.imul X.here hx rfl (hb hby hd) rfl k
 ·obtain ⟨x, y, S', rfl, rfl⟩ := qbin_inv hs
  exact QTri.stack h fun p e R s mid args below meth c T locs cells slots C target hx hZ hby hown X hR hL k => XS.iand X.here hx rfl (hb hby hd) rfl k
 ·obtain ⟨x, y, S', rfl, rfl⟩ := qbin_inv hs
  exact QTri.stack h fun p e R s mid args below meth c T locs cells slots C target hx hZ hby hown X hR hL k => XT.ior X.here hx rfl (hb hby hd) rfl k
 ·obtain ⟨x, y, S', rfl, rfl⟩ := qbin_inv hs
  exact QTri.stack h fun p e R s mid args below meth c T locs cells slots C target hx hZ hby hown X hR hL k => XT.ixor X.here hx rfl (hb hby hd) rfl k
 ·obtain ⟨x, y, S', rfl, rfl⟩ := qbin_inv hs
  exact QTri.stack h fun p e R s mid args below meth c T locs cells slots C target hx hZ hby hown X hR hL k => XT.ishl X.here hx rfl (hb hby hd) rfl k
 ·obtain ⟨x, y, S', rfl, rfl⟩ := qbin_inv hs
  exact QTri.stack h fun p e R s mid args below meth c T locs cells slots C target hx hZ hby hown X hR hL k => XT.ishr X.here hx rfl (hb hby hd) rfl k
 ·obtain ⟨x, y, S', rfl, rfl⟩ := qbin_inv hs
  exact QTri.stack h fun p e R s mid args below meth c T locs cells slots C target hx hZ hby hown X hR hL k => XT.iushr X.here hx rfl (hb hby hd) rfl k
 ·obtain ⟨x, y, z, S', rfl, hz, rfl⟩ := qbino_inv hs -- idiv
  unfold qdiv at hz
  split at hz
  ·cases hz
  ·rename_i hy
   cases hz
   exact QTri.stack h fun p e R s mid args below meth c T locs cells slots C target hx hZ hby hown X hR hL k => XS.idiv X.here hx rfl (hb hby hd) rfl hy k
 ·obtain ⟨x, y, z, S', rfl, hz, rfl⟩ := qbino_inv hs
  unfold qrem at hz
  split at hz
  ·cases hz
  ·rename_i hy
   cases hz
   exact QTri.stack h fun p e R s mid args below meth c T locs cells slots C target hx hZ hby hown X hR hL k => iremM X hx rfl (hb hby hd) rfl hy k
 ·obtain ⟨x, S', rfl, rfl⟩ := quni_inv hs -- ineg
  exact QTri.stack h fun p e R s mid args below meth c T locs cells slots C target hx hZ hby hown X hR hL k => XS.ineg X.here hx rfl (hb hby hd) rfl k
 ·obtain ⟨x, S', rfl, rfl⟩ := quni_inv hs
  exact QTri.stack h fun p e R s mid args below meth c T locs cells slots C target hx hZ hby hown X hR hL k => XT.i2l X.here hx rfl (hb hby hd) rfl k
 ·obtain ⟨x, S', rfl, rfl⟩ := quni_inv hs
  exact QTri.stack h fun p e R s mid args below meth c T locs cells slots C target hx hZ hby hown X hR hL k => XT.i2b X.here hx rfl (hb hby hd) rfl k
 ·obtain ⟨x, S', rfl, rfl⟩ := quniJ_inv hs
  exact QTri.stack h fun p e R s mid args below meth c T locs cells slots C target hx hZ hby hown X hR hL k => XT.l2i X.here hx rfl (hb hby hd) rfl k
 ·obtain ⟨x, S', rfl, rfl⟩ := quniJ_inv hs
  exact QTri.stack h fun p e R s mid args below meth c T locs cells slots C target hx hZ hby hown X hR hL k => XT.lneg X.here hx rfl (hb hby hd) rfl k
 ·obtain ⟨x, y, S', rfl, rfl⟩ := qbinJ_inv hs
  exact QTri.stack h fun p e R s mid args below meth c T locs cells slots C target hx hZ hby hown X hR hL k => XT.ladd X.here hx rfl (hb hby hd) rfl k
 ·obtain ⟨x, y, S', rfl, rfl⟩ := qbinJ_inv hs
  exact QTri.stack h fun p e R s mid args below meth c T locs cells slots C target hx hZ hby hown X hR hL k => XT.lsub X.here hx rfl (hb hby hd) rfl k
 ·obtain ⟨x, y, S', rfl, rfl⟩ := qbinJ_inv hs
  exact QTri.stack h fun p e R s mid args below meth c T locs cells slots C target hx hZ hby hown X hR hL k => XT.lmul X.here hx rfl (hb hby hd) rfl k
 ·obtain ⟨x, y, S', rfl, rfl⟩ := qbinJ_inv hs
  exact QTri.stack h fun p e R s mid args below meth c T locs cells slots C target hx hZ hby hown X hR hL k => XT.land X.here hx rfl (hb hby hd) rfl k
 ·obtain ⟨x, y, S', rfl, rfl⟩ := qbinJ_inv hs
  exact QTri.stack h fun p e R s mid args below meth c T locs cells slots C target hx hZ hby hown X hR hL k => XT.lor X.here hx rfl (hb hby hd) rfl k
 ·obtain ⟨x, y, S', rfl, rfl⟩ := qbinJ_inv hs
  exact QTri.stack h fun p e R s mid args below meth c T locs cells slots C target hx hZ hby hown X hR hL k => XT.lxor X.here hx rfl (hb hby hd) rfl k
 ·obtain ⟨x, y, S', rfl, rfl⟩ := qshJ_inv hs
  exact QTri.stack h fun p e R s mid args below meth c T locs cells slots C target hx hZ hby hown X hR hL k => XT.lshl X.here hx rfl (hb hby hd) rfl k
 ·obtain ⟨x, y, S', rfl, rfl⟩ := qshJ_inv hs
  exact QTri.stack h fun p e R s mid args below meth c T locs cells slots C target hx hZ hby hown X hR hL k => XT.lshr X.here hx rfl (hb hby hd) rfl k
 ·obtain ⟨x, y, S', rfl, rfl⟩ := qshJ_inv hs
  exact QTri.stack h fun p e R s mid args below meth c T locs cells slots C target hx hZ hby hown X hR hL k => XT.lushr X.here hx rfl (hb hby hd) rfl k
 ·split at hs -- lcmp
  ·cases hs
   exact QTri.stack h fun p e R s mid args below meth c T locs cells slots C target hx hZ hby hown X hR hL k => XT.lcmp X.here hx rfl (hb hby hd) rfl k
  ·cases hs
 ·cases hs -- goto
  obtain ⟨t1, t2⟩ := qtgt_spec hr
  exact QTri.stack h fun p e R s mid args below meth c T locs cells slots C target hx hZ hby hown X hR hL k => XS.goto X.here hx rfl rfl (hb hby hd) t1 t2 k
 ·obtain ⟨x, S', rfl, rfl⟩ := qif_inv hs
  obtain ⟨t1, t2⟩ := qtgt_spec hr
  cases hh : ifCond.holds _ x with
  | true => rw [hh] at h; exact QTri.stack h fun p e R s mid args below meth c T locs cells slots C target hx hZ hby hown X hR hL k => XS.ifYes X.here hx rfl rfl (hb hby hd) rfl hh t1 t2 k
  | false => rw [hh] at h; exact QTri.stack h fun p e R s mid args below meth c T locs cells slots C target hx hZ hby hown X hR hL k => XS.ifNo X.here hx rfl (hb hby hd) rfl hh k
 ·obtain ⟨x, y, S', rfl, rfl⟩ := qicmp_inv hs
  obtain ⟨t1, t2⟩ := qtgt_spec hr
  cases hh : if_icmp.holds _ x y with
  | true => rw [hh] at h; exact QTri.stack h fun p e R s mid args below meth c T locs cells slots C target hx hZ hby hown X hR hL k => XS.icmpYes X.here hx rfl rfl (hb hby hd) rfl hh t1 t2 k
  | false => rw [hh] at h; exact QTri.stack h fun p e R s mid args below meth c T locs cells slots C target hx hZ hby hown X hR hL k => XS.icmpNo X.here hx rfl (hb hby hd) rfl hh k
 ·unfold qdup at hs
  split at hs
  ·cases hs
   exact QTri.stack h fun p e R s mid args below meth c T locs cells slots C target hx hZ hby hown X hR hL k => XS.dup X.here hx rfl (hb hby hd) rfl rfl k
  ·cases hs
   exact QTri.stack h fun p e R s mid args below meth c T locs cells slots C target hx hZ hby hown X hR hL k => XS.dup X.here hx rfl (hb hby hd) rfl rfl k
  ·cases hs
 ·unfold qdup2 at hs
  split at hs
  ·cases hs
   exact QTri.stack h fun p e R s mid args below meth c T locs cells slots C target hx hZ hby hown X hR hL k => XT.dup2 X.here hx rfl (hb hby hd) rfl rfl rfl k
  ·cases hs
   exact QTri.stack h fun p e R s mid args below meth c T locs cells slots C target hx hZ hby hown X hR hL k => XT.dup2 X.here hx rfl (hb hby hd) rfl rfl rfl k
  ·cases hs
   exact QTri.stack h fun p e R s mid args below meth c T locs cells slots C target hx hZ hby hown X hR hL k => XT.dup2L X.here hx rfl (hb hby hd) rfl k
  ·cases hs
 ·unfold qpop at hs
  split at hs
  ·cases hs
   exact QTri.stack h fun p e R s mid args below meth c T locs cells slots C target hx hZ hby hown X hR hL k => XT.pop X.here hx rfl (hb hby hd) rfl rfl k
  ·cases hs
   exact QTri.stack h fun p e R s mid args below meth c T locs cells slots C target hx hZ hby hown X hR hL k => XT.pop X.here hx rfl (hb hby hd) rfl rfl k
  ·cases hs
 ·exact QTri.getfield W h hc hs
 ·exact QTri.putfield Ad W h hc hs
 ·exact QTri.iaload h hc hs
 ·exact QTri.baload h hc hs
 ·exact QTri.laload h hc hs
 ·exact QTri.iastore Ad h hc hs
 ·exact QTri.bastore Ad h hc hs
 ·exact QTri.lastore Ad h hc hs
 ·exact QTri.alen h hc hs
 ·-- newarray
  unfold qnewA at hs
  split at hs
  ·split at hs
   ·obtain ⟨k, hk, hs⟩ := Option.bind_eq_some_iff.mp hs
    cases hs
    exact QTri.newArr (c := .inr (.inl (.int, List.replicate k 0))) Ad W hk hc (by simp [qsz]) (fun h' a cA A => ⟨_, A, by simp [newA, (qnew_inv hk).2.1]; exact Or.inr rfl⟩) h
   ·obtain ⟨k, hk, hs⟩ := Option.bind_eq_some_iff.mp hs
    cases hs
    exact QTri.newArr (c := .inr (.inl (.boolean, List.replicate k 0))) Ad W hk hc (by simp [qsz]) (fun h' a cA A => ⟨_, A, by simp [newA, (qnew_inv hk).2.1]; exact Or.inr rfl⟩) h
   ·obtain ⟨k, hk, hs⟩ := Option.bind_eq_some_iff.mp hs
    cases hs
    exact QTri.newArr (c := .inr (.inl (.byte, List.replicate k 0))) Ad W hk hc (by simp [qsz]) (fun h' a cA A => ⟨_, A, by simp [newA, (qnew_inv hk).2.1]; exact Or.inr rfl⟩) h
   ·obtain ⟨k, hk, hs⟩ := Option.bind_eq_some_iff.mp hs
    cases hs
    exact QTri.newArr (c := .inr (.inr (List.replicate k 0))) Ad W hk hc (by simp [qsz]) (fun h' a cA A => ⟨_, A, by simp [newA, (qnew_inv hk).2.1]; exact Or.inr rfl⟩) h
   ·cases hs
  ·cases hs
 ·cases hs; exact QTri.newObj Ad W h hc
 ·cases hs
theorem QTri.steps (Ad : QAd n0 ad) (W : QW Z a0) : ∀ (n : Nat) {st st' : QSt}, qsteps m n st = some st' → QTri l Z n0 ad m st' v σ' → QTri l Z n0 ad m st v σ'
 | 0, st, st', h, k => by cases h; exact k
 | n + 1, st, st', h, k => by
  simp only [qsteps] at h
  split at h
  ·rename_i st₁ h1
   exact QTri.step Ad W (QTri.steps Ad W n h k) h1
  ·cases h
def lmask : List Bool → QLoc → QLoc
 | b :: t, x :: u => (bif b then x else none) :: lmask t u
 | _, L => L.map fun _ => none
theorem lmask_len : ∀ (b : List Bool) (L : QLoc), (lmask b L).length = L.length
 | [], L => by simp [lmask]
 | _ :: _, [] => by simp [lmask]
 | _ :: t, _ :: u => by simp [lmask, lmask_len t u]
theorem lmask_get : ∀ (b : List Bool) (L : QLoc) (k : Nat) (v : Value), lget (lmask b L) k = some v → lget L k = some v
 | [], L, k, v, h => by
  simp only [lmask, lget_eq, List.getElem?_map] at h
  cases hq : L[k]? <;> simp [hq] at h
 | _ :: _, [], k, v, h => by simp [lmask, lget] at h
 | b :: t, x :: u, 0, v, h => by
  simp only [lmask, lget] at h ⊢
  cases b
  ·cases h
  ·exact h
 | b :: t, x :: u, k + 1, v, h => by
  simp only [lmask, lget] at h ⊢
  exact lmask_get t u k v h
theorem QTri.mask {pc : Nat} {L : QLoc} {S : List Value} {σ : QHeap} (b : List Bool) (h : QTri l Z n0 ad m (pc, lmask b L, S, σ) v σ') : QTri l Z n0 ad m (pc, L, S, σ) v σ' :=
 QTri.frame h fun p e R s mid args below meth c T locs cells slots C hcx X hR hL hC => ⟨C, ⟨by rw [lmask_len]; exact hL.1, fun k u hk => hL.2.1 k u (lmask_get b L k u hk), hL.2.2⟩, hC, fun target k => k⟩
theorem QTri.ret0 {pc aux : Nat} {L : QLoc} {σ : QHeap} (hc : pCode m pc = some (.return_, aux)) (hr : pRet m = none) : QTri l Z n0 ad m (pc, L, [], σ) none σ :=
 have hd : decode (pBytes m) pc = .ok (.return_, 1) := pDecN hc rfl
 ⟨Nat.le_refl _, Nat.le_refl _, fun p e R s mid args below meth c T locs cells slots C hcx X hR hF hL hC hn hc1 hsl => ⟨T, locs, by simpa using X, hR, hF, fun fs hf => X.returnOut hcx.1 (hcx.2.2.2.2.1.trans hr) (hb hcx.2.2.1 hd) hf⟩⟩
theorem QTri.retI {pc aux : Nat} {L : QLoc} {S : List Value} {σ : QHeap} {x : Int32} (hc : pCode m pc = some (.ireturn, aux)) (hr : pRet m = some .int) : QTri l Z n0 ad m (pc, L, .int x :: S, σ) (some (.int x)) σ :=
 have hd : decode (pBytes m) pc = .ok (.ireturn, 1) := pDecN hc rfl
 ⟨Nat.le_refl _, Nat.le_refl _, fun p e R s mid args below meth c T locs cells slots C hcx X hR hF hL hC hn hc1 hsl => ⟨T, locs, by simpa using X, hR, hF, fun fs hf => Jvm.RoadKit.retI X hcx.1 (hcx.2.2.2.2.1.trans hr) (hb hcx.2.2.1 hd) hf⟩⟩
theorem QTri.retZ {pc aux : Nat} {L : QLoc} {S : List Value} {σ : QHeap} {x : Int32} (hc : pCode m pc = some (.ireturn, aux)) (hr : pRet m = some .boolean) : QTri l Z n0 ad m (pc, L, .int x :: S, σ) (some (.int (x &&& 1))) σ :=
 have hd : decode (pBytes m) pc = .ok (.ireturn, 1) := pDecN hc rfl
 ⟨Nat.le_refl _, Nat.le_refl _, fun p e R s mid args below meth c T locs cells slots C hcx X hR hF hL hC hn hc1 hsl => ⟨T, locs, by simpa using X, hR, hF, fun fs hf => retN X hcx.1 (t := .boolean) (hcx.2.2.2.2.1.trans hr) (by simp) (hb hcx.2.2.1 hd) hf⟩⟩
theorem QTri.retJ {pc aux : Nat} {L : QLoc} {S : List Value} {σ : QHeap} {x : Int64} (hc : pCode m pc = some (.lreturn, aux)) (hr : pRet m = some .long) : QTri l Z n0 ad m (pc, L, .long x :: S, σ) (some (.long x)) σ :=
 have hd : decode (pBytes m) pc = .ok (.lreturn, 1) := pDecN hc rfl
 ⟨Nat.le_refl _, Nat.le_refl _, fun p e R s mid args below meth c T locs cells slots C hcx X hR hF hL hC hn hc1 hsl => ⟨T, locs, by simpa using X, hR, hF, fun fs hf => retOut X hcx.1 (t := .long) (hcx.2.2.2.2.1.trans hr) rfl (Or.inr (Or.inl ⟨rfl, rfl, _, rfl⟩)) (hb hcx.2.2.1 hd) hf⟩⟩
def LOk (ad : Nat → Addr) (L : QLoc) (C : List Slot) : Prop :=
 L.length = C.length ∧ (∀ k v, lget L k = some v → C[k]? = some (.val (qv ad v))) ∧ (∀ k w, C[k]? = some (.val w) → w.category = 2 → C[k + 1]? = some .second) ∧ ∀ k, C[k]? = some .second → ∃ j w, k = j + 1 ∧ C[j]? = some (.val w) ∧ w.category = 2
theorem LOk.base (ad : Nat → Addr) (n : Nat) : LOk ad (List.replicate n none) (List.replicate n .unset) := by
 refine ⟨by simp, fun k u h => ?_, fun k w h => ?_, fun k h => ?_⟩
 ·rw [lget_eq] at h
  rcases Nat.lt_or_ge k n with q | q
  ·simp [List.getElem?_replicate, q] at h
  ·simp [List.getElem?_eq_none, q] at h
 ·rcases Nat.lt_or_ge k n with q | q
  ·simp [List.getElem?_replicate, q] at h
  ·simp [List.getElem?_eq_none, q] at h
 ·rcases Nat.lt_or_ge k n with q | q
  ·simp [List.getElem?_replicate, q] at h
  ·simp [List.getElem?_eq_none, q] at h
theorem LOk.one {L : QLoc} {C : List Slot} (H : LOk ad L C) {u : Value} (hu : u.category = 1) : LOk ad (some u :: L) (.val (qv ad u) :: C) := by
 obtain ⟨h1, h2, h3, h4⟩ := H
 refine ⟨by simp [h1], fun k w h => ?_, fun k w h hw => ?_, fun k h => ?_⟩
 ·cases k with
  | zero => simp only [lget] at h; cases h; simp
  | succ k => simp only [lget] at h; simpa using h2 k w h
 ·cases k with
  | zero => simp at h; rw [← h, qv_cat, hu] at hw; cases hw
  | succ k => simpa using h3 k w (by simpa using h) hw
 ·cases k with
  | zero => simp at h
  | succ k =>
   obtain ⟨j, w, z1, z2, z3⟩ := h4 k (by simpa using h)
   exact ⟨j + 1, w, by omega, by simpa using z2, z3⟩
theorem LOk.two {L : QLoc} {C : List Slot} (H : LOk ad L C) {u : Value} (hu : u.category = 2) : LOk ad (some u :: none :: L) (.val (qv ad u) :: .second :: C) := by
 obtain ⟨h1, h2, h3, h4⟩ := H
 refine ⟨by simp [h1], fun k w h => ?_, fun k w h hw => ?_, fun k h => ?_⟩
 ·rcases k with _ | _ | k
  ·simp only [lget] at h; cases h; simp
  ·simp [lget] at h
  ·simp only [lget] at h; simpa using h2 k w h
 ·rcases k with _ | _ | k
  ·simp
  ·simp at h
  ·simpa using h3 k w (by simpa using h) hw
 ·rcases k with _ | _ | k
  ·simp at h
  ·exact ⟨0, qv ad u, rfl, by simp, by rw [qv_cat]; exact hu⟩
  ·obtain ⟨j, w, z1, z2, z3⟩ := h4 k (by simpa using h)
   exact ⟨j + 2, w, by omega, by simpa using z2, z3⟩
def slotsOf (u : Value) : List Slot := if u.category = 2 then [.val u, .second] else [.val u]
theorem fold_slots : ∀ (as : List Value) (acc : Array Slot), (as.foldl (fun acc v => if v.category = 2 then (acc.push (.val v)).push .second else acc.push (.val v)) acc).toList = acc.toList ++ as.flatMap slotsOf
 | [], acc => by simp
 | u :: t, acc => by
  rw [List.foldl_cons, fold_slots t]
  by_cases hc : u.category = 2 <;> simp [slotsOf, hc]
theorem slots_len : ∀ (as : List Value), (as.flatMap slotsOf).length = (as.map fun v => v.category).sum
 | [] => rfl
 | u :: t => by
  rw [List.flatMap_cons, List.length_append, slots_len t, List.map_cons, List.sum_cons]
  cases u <;> simp [slotsOf, Value.category]
theorem cats_qv (as : List Value) : ((as.map (qv ad)).map fun v => v.category).sum = (as.map fun v => v.category).sum := by
 rw [List.map_map]
 congr 1
 exact List.map_congr_left fun x _ => qv_cat ad x
theorem entry_list : ∀ (as : List Value) (n : Nat), LOk ad ((as.flatMap fun v => match v with | .long x => [some (.long x), none] | .double x => [some (.double x), none] | v => [some v]) ++ List.replicate n none) ((as.map (qv ad)).flatMap slotsOf ++ List.replicate n .unset)
 | [], n => by simpa using LOk.base ad n
 | u :: t, n => by
  have ih := entry_list t n
  cases u with
  | long x => exact LOk.two ih rfl
  | double x => exact LOk.two ih rfl
  | int x => exact LOk.one ih rfl
  | float x => exact LOk.one ih rfl
  | null => exact LOk.one ih rfl
  | ref x => exact LOk.one ih rfl
  | retAddr x => exact LOk.one ih rfl
theorem qentry_ok (as : List Value) (mx : Nat) (h : (as.map fun v => v.category).sum ≤ mx) : QLocOk ad (qentry as mx) (argsToLocals (as.map (qv ad)).toArray mx) ∧ (argsToLocals (as.map (qv ad)).toArray mx).size = mx := by
 have e : (argsToLocals (as.map (qv ad)).toArray mx).toList = (as.map (qv ad)).flatMap slotsOf ++ List.replicate (mx - (as.map fun v => v.category).sum) .unset := by
  unfold argsToLocals
  have q := fold_slots (as.map (qv ad)) #[]
  simp only [List.foldl_toArray', Array.toList_append, Array.toList_replicate]
  have q2 : ((as.map (qv ad)).foldl (fun (acc : Array Slot) (v : Value) => if v.category = 2 then (acc.push (.val v)).push .second else acc.push (.val v)) #[]).size = (as.map fun v => v.category).sum := by
   rw [← Array.length_toList, q]
   simp only [List.nil_append]
   rw [slots_len, cats_qv]
  rw [q, q2]
  simp
 have H := entry_list (ad := ad) as (mx - (as.map fun v => v.category).sum)
 rw [← e] at H
 obtain ⟨h1, h2, h3, h4⟩ := H
 have hs : (argsToLocals (as.map (qv ad)).toArray mx).size = mx := by
  rw [← Array.length_toList, e, List.length_append, slots_len, cats_qv, List.length_replicate]
  omega
 refine ⟨⟨h1.trans Array.length_toList, fun k u hk => ?_, fun k w hk hw => ?_, fun k hk => ?_⟩, hs⟩
 ·have := h2 k u hk; rwa [Array.getElem?_toList] at this
 ·have := h3 k w (by rw [Array.getElem?_toList]; exact hk) hw; rwa [Array.getElem?_toList] at this
 ·obtain ⟨j, w, z1, z2, z3⟩ := h4 k (by rw [Array.getElem?_toList]; exact hk)
  exact ⟨j, w, z1, by rwa [Array.getElem?_toList] at z2, z3⟩
set_option maxHeartbeats 4000000 in
theorem QTri.met {k : Nat} {as : List Value} {σ σ₁ : QHeap} {w : Option Value} {h0 : Heap} (hk : k < pN) (h : QTri l Z n0 ad k (0, qentry as (pMaxL k), [], σ) w σ₁) (hR : QRep Z n0 ad h0 σ) (hlen : (as.map fun v => v.category).sum ≤ pMaxL k) (hret : pRet k = none → w = none) (ws : List Jvm.Cond) {rm : Room}
  (r1 : pFr k ≤ rm.frames) (r2 : pLo k ≤ rm.locals) (r3 : σ₁.length - σ.length ≤ rm.cells) (r4 : qhs σ₁ - qhs σ ≤ rm.slots) :
  MetFree l (pName k) (head1 (Jvm.Cond.code (pName k) (pBytes k) (pMaxL k) (pRet k) :: ws) rm) (fun a U => a = (as.map (qv ad)).toArray ∧ Z.Warmed39 U.vm ∧ U.heap = h0) (fun _ _ _ _ _ => True)
   (fun _ U o U' => ∃ v L, o = .returned v ∧ (v = w.map (qv ad) ∧ QRep Z n0 ad U'.heap σ₁ ∧ Fr n0 L) ∧ FrameEnd U o U' L (σ₁.length - σ.length) (qhs σ₁ - qhs σ)) := by
 refine MetFree.of_bodySF (plainFor_of_name (kPlain _ (pKlt k hk))) hisR ?_
 intro p e s mid args below meth c s₁ Bd hml0 hP hK
 obtain ⟨rfl, hZ, hh⟩ := hP
 have e0 : s₁.heap = h0 := by rw [← hh, Bd.state]; rfl
 obtain ⟨hl1, hl2⟩ := qentry_ok (ad := ad) as (pMaxL k) hlen
 have hX : Stand p l e rm s mid (as.map (qv ad)).toArray below meth c s₁ [] 0 0 := Stand.of_body Bd
 obtain ⟨T', locs', X', R', F', S'⟩ := h.2.2 p e rm s mid _ below meth c s₁ [] 0 0 _ ⟨Bd.exec, hZ, Bd.bytes, hml0, Bd.returns, findClass_of_methodNamed Bd.named, (name_of_methodNamed Bd.named Bd.method).1, r1, r2⟩ hX (by rw [e0]; exact hR) (Fr.nil _) hl1 (hl2.trans hml0.symm) (by rw [hh, Nat.add_zero]; exact hR.2.1.symm) (by rw [Nat.zero_add]; exact r3) (by rw [Nat.zero_add]; exact r4)
 obtain ⟨fs, hr, hrun, hended, hW, hsame⟩ := X'.leave (v := w.map (qv ad)) (fun q => by rw [hret (Bd.returns.symm.trans q)]; rfl)
 refine ⟨_, _, S' fs hr, hrun, hended, _, _, rfl, ⟨rfl, R', F'⟩, ⟨_, rfl⟩, hW, ?_⟩
 simp only [Nat.zero_add] at hsame
 exact hsame
theorem QTri.room {k : Nat} {σ σ₁ : QHeap} {rest : List Value} {R : Room} (hroom : (Nat.ble (pFr k + 1) (pFr m) && Nat.ble ((rest.map fun v => v.category).sum + (pMaxL k + 11) + pLo k) (pLo m)) = true) (hfr : pFr m ≤ R.frames) (hlo : pLo m ≤ R.locals) :
  pFr k + 1 ≤ R.frames ∧ (rest.map fun v => v.category).sum + (pMaxL k + 11) + pLo k ≤ R.locals := by
 obtain ⟨q1, q2⟩ := Bool.and_eq_true_iff.mp hroom
 exact ⟨Nat.le_trans (Nat.le_of_ble_eq_true q1) hfr, Nat.le_trans (Nat.le_of_ble_eq_true q2) hlo⟩
theorem sig_len {k : Nat} (hk : k < pN) {as : List Value} (hna : as.length = pNA k) : ∀ sig, parseMethodDescriptor (pName k).desc = some sig → (as.map (qv ad)).length = sig.parameters.length := fun sig hs => by
 have q := pSig k hk
 rw [show parseMethodDescriptor (pDs k) = some sig from hs] at q
 simp at q
 simp [hna, q]
theorem ret_map (w : Option Value) (rest : List Value) : (w.toList ++ rest).map (qv ad) = (w.map (qv ad)).toList ++ rest.map (qv ad) := by cases w <;> simp
theorem QTri.after {as0 : List Value} {pc : Nat} {L : QLoc} {S rest : List Value} {σ σ₁ : QHeap} {w : Option Value} {k : Nat} (hcal : QTri l Z n0 ad k (0, qentry as0 (pMaxL k), [], σ) w σ₁) (h : QTri l Z n0 ad m (pc + 3, L, w.toList ++ rest, σ₁) v σ')
  (hs : ∀ (p : Program) (e : Env) (R : Room) (s : State) (mid : MethodId) (args : Array Value) (below : List Frame) (meth : Method) (c : Code) (T : State) (locs : List Loc) (cells slots : Nat) (C : Array Slot),
   QCx Z p R s mid meth c m → Stand p l e R s mid args below meth c T locs cells slots → QRep Z n0 ad T.heap σ → C.size = c.maxLocals → cells + (σ₁.length - σ.length) ≤ R.cells → slots + (qhs σ₁ - qhs σ) ≤ R.slots →
   ∃ T₁ Lc, Stand p l e R s mid args below meth c T₁ (locs ++ Lc) (cells + (σ₁.length - σ.length)) (slots + (qhs σ₁ - qhs σ)) ∧ QRep Z n0 ad T₁.heap σ₁ ∧ Fr n0 Lc ∧
    ∀ target, Steps p.tables e below (T₁.setTop (mkF mid (pc + 3) C ((w.map (qv ad)).toList ++ rest.map (qv ad)))) target → Steps p.tables e below (T.setTop (mkF mid pc C (S.map (qv ad)))) target) :
  QTri l Z n0 ad m (pc, L, S, σ) v σ' := by
 refine QTri.gen h hcal.1 hcal.2.1 fun p e R s mid args below meth c T locs cells slots C hcx X hR hF hL hC hn hc1 hsl => ?_
 obtain ⟨T₁, Lc, X₁, R₁, F₁, st⟩ := hs p e R s mid args below meth c T locs cells slots C hcx X hR hC hc1 hsl
 refine ⟨T₁, locs ++ Lc, C, X₁, R₁, hF.app F₁, hL, hC, fun target q => st target ?_⟩
 rw [← ret_map]
 exact q
set_option maxHeartbeats 4000000 in
theorem QTri.callV (W : QW Z a0) {pc idx k a : Nat} {L : QLoc} {S as rest vs : List Value} {σ σ₁ : QHeap} {w : Option Value} (hc : pCode m pc = some (.invokevirtual idx, k)) (hm : (lkV.contains (pK m, idx, k) && mV.contains k) = true) (hcell : hget σ a = some (.inl vs)) (hS : S = as.reverse ++ .ref a :: rest)
  (hna : as.length = pNA k) (hlen : Nat.ble (((Value.ref a :: as).map fun v => v.category).sum) (pMaxL k) = true) (hroom : (Nat.ble (pFr k + 1) (pFr m) && Nat.ble ((rest.map fun v => v.category).sum + (pMaxL k + 11) + pLo k) (pLo m)) = true) (hrb : (w.isNone || (pRet k).isSome) = true)
  (hcal : QTri l Z n0 ad k (0, qentry (.ref a :: as) (pMaxL k), [], σ) w σ₁) (h : QTri l Z n0 ad m (pc + 3, L, w.toList ++ rest, σ₁) v σ') : QTri l Z n0 ad m (pc, L, S, σ) v σ' := by
 have hd : decode (pBytes m) pc = .ok (.invokevirtual idx, 3) := pDecN hc rfl
 subst hS
 obtain ⟨m1, m2⟩ := Bool.and_eq_true_iff.mp hm
 have m1 := mem_of_contains m1
 have m2 := mem_of_contains m2
 have hkA := (mVlt k m2).1
 have hkN := mAlt k hkA
 have hret : pRet k = none → w = none := fun q => by
  rw [q] at hrb
  cases w with
  | none => rfl
  | some w => simp at hrb
 refine QTri.after hcal h fun p e R s mid args below meth c T locs cells slots C hcx X hR hC hc1 hsl => ?_
 obtain ⟨hx, hZ, hby, hml, hret', hown, hnm, hfr, hlo⟩ := hcx
 have hd2 : decode c.code pc = .ok (.invokevirtual idx, 3) := by rw [hby]; exact hd
 obtain ⟨f1, f2⟩ := QTri.room (σ := σ) (σ₁ := σ₁) hroom hfr hlo
 obtain ⟨cq, kq, q1, q2, q3⟩ := isOf hZ rfl (hR.2.2 _ _ hcell).1
 obtain ⟨w1, w2, w3⟩ := (qw_vi W) k m2
 obtain ⟨c1, c2⟩ := (qw_cod W) k hkA
 obtain ⟨_, _, ⟨T₁, L₁, k₁, n₁⟩, -, X₁, ⟨Lc, ⟨rfl, hR1, hF1⟩, l₁, y₁, z₁⟩, st⟩ := X.virtualBack hx (own := kName (pK m)) (index := idx) (y := pName k) (z := pName k) hown (mvT hZ (qw_ml W (pK m, idx, k) m1)) (mvT hZ w1) (notFace_of_selects (args := #[]) (mvT hZ w2)) (mvT hZ w2) (mvT hZ w3) (pOwn _ (pKlt k hkN))
  (backOf (W := (rest.map fun v => v.category).sum) (rm := ⟨pFr k, σ₁.length - σ.length, qhs σ₁ - qhs σ, pLo k⟩) (Q := fun v h L => v = Option.map (qv ad) w ∧ QRep Z n0 ad h σ₁ ∧ Fr n0 L) (QTri.met hkN hcal hR (Nat.le_of_ble_eq_true hlen) hret [] (Nat.le_refl _) (Nat.le_refl _) (Nat.le_refl _) (Nat.le_refl _)) hZ c1 c2 f1 f2) q1 q3 (g := mkF mid pc C (List.map (qv ad) (as.reverse ++ .ref a :: rest))) rfl hC (Steps.refl _) (argsL := as.map (qv ad)) (rest := rest.map (qv ad)) (sig_len hkN hna) (by simp [qv]) (by show 2 * 0 + _ ≤ _; rw [cats_qv]; omega) hd2 (fun _ _ => ⟨rfl, rfl, hc1, hsl⟩)
 dsimp only [Pt.U, Pt.locs, Pt.cells, Pt.slots] at X₁ l₁ y₁ z₁ st hR1
 subst l₁ y₁ z₁
 exact ⟨T₁, Lc, X₁, hR1, hF1, fun target q => st.trans q⟩
set_option maxHeartbeats 4000000 in
theorem QTri.callI (W : QW Z a0) {pc idx k a : Nat} {L : QLoc} {S as rest : List Value} {σ σ₁ : QHeap} (hc : pCode m pc = some (.invokespecial idx, k)) (hm : (lkV.contains (pK m, idx, k) && mI.contains k) = true) (hS : S = as.reverse ++ .ref a :: rest)
  (hna : as.length = pNA k) (hlen : Nat.ble (((Value.ref a :: as).map fun v => v.category).sum) (pMaxL k) = true) (hroom : (Nat.ble (pFr k + 1) (pFr m) && Nat.ble ((rest.map fun v => v.category).sum + (pMaxL k + 11) + pLo k) (pLo m)) = true)
  (hcal : QTri l Z n0 ad k (0, qentry (.ref a :: as) (pMaxL k), [], σ) none σ₁) (h : QTri l Z n0 ad m (pc + 3, L, rest, σ₁) v σ') : QTri l Z n0 ad m (pc, L, S, σ) v σ' := by
 have hd : decode (pBytes m) pc = .ok (.invokespecial idx, 3) := pDecN hc rfl
 subst hS
 obtain ⟨m1, m2⟩ := Bool.and_eq_true_iff.mp hm
 have m1 := mem_of_contains m1
 have m2 := mem_of_contains m2
 obtain ⟨hkA, -, hin, hrt⟩ := mIlt k m2
 have hkN := mAlt k hkA
 refine QTri.after (w := none) hcal h fun p e R s mid args below meth c T locs cells slots C hcx X hR hC hc1 hsl => ?_
 obtain ⟨hx, hZ, hby, hml, hret', hown, hnm, hfr, hlo⟩ := hcx
 have hd2 : decode c.code pc = .ok (.invokespecial idx, 3) := by rw [hby]; exact hd
 obtain ⟨f1, f2⟩ := QTri.room (σ := σ) (σ₁ := σ₁) hroom hfr hlo
 obtain ⟨c1, c2⟩ := (qw_cod W) k hkA
 have c1' := c1
 rw [hrt] at c1'
 obtain ⟨_, _, ⟨T₁, L₁, k₁, n₁⟩, -, X₁, ⟨Lc, ⟨rfl, hR1, hF1⟩, l₁, y₁, z₁⟩, st⟩ := X.specialBack hx (own := kName (pK m)) (index := idx) (y := pName k) hin hown (mvT hZ (qw_ml W (pK m, idx, k) m1)) (mvT hZ ((qw_ini W) k m2)) (mvT hZ c1') (pOwn _ (pKlt k hkN))
  (backOf (W := (rest.map fun v => v.category).sum) (rm := ⟨pFr k, σ₁.length - σ.length, qhs σ₁ - qhs σ, pLo k⟩) (Q := fun v h L => v = Option.map (qv ad) none ∧ QRep Z n0 ad h σ₁ ∧ Fr n0 L) (QTri.met hkN hcal hR (Nat.le_of_ble_eq_true hlen) (fun _ => rfl) [] (Nat.le_refl _) (Nat.le_refl _) (Nat.le_refl _) (Nat.le_refl _)) hZ c1 c2 f1 f2) (g := mkF mid pc C (List.map (qv ad) (as.reverse ++ .ref a :: rest))) rfl hC (Steps.refl _) (a := ad a) (argsL := as.map (qv ad)) (rest := rest.map (qv ad)) (sig_len hkN hna) (by simp [qv]) (by show 2 * 0 + _ ≤ _; rw [cats_qv]; omega) hd2 (fun _ _ => ⟨rfl, rfl, hc1, hsl⟩)
 dsimp only [Pt.U, Pt.locs, Pt.cells, Pt.slots] at X₁ l₁ y₁ z₁ st hR1
 subst l₁ y₁ z₁
 exact ⟨T₁, Lc, X₁, hR1, hF1, fun target q => st.trans q⟩
set_option maxHeartbeats 4000000 in
theorem QTri.callP (W : QW Z a0) {pc idx k a : Nat} {L : QLoc} {S as rest vs : List Value} {σ σ₁ : QHeap} {w : Option Value} (hc : pCode m pc = some (.invokevirtual idx, k)) (hm : (lkV.contains (pK m, idx, k) && mP.contains k) = true) (hcell : hget σ a = some (.inl vs)) (hS : S = as.reverse ++ .ref a :: rest)
  (hna : as.length = pNA k) (hlen : Nat.ble (((Value.ref a :: as).map fun v => v.category).sum) (pMaxL k) = true) (hroom : (Nat.ble (pFr k + 1) (pFr m) && Nat.ble ((rest.map fun v => v.category).sum + (pMaxL k + 11) + pLo k) (pLo m)) = true) (hrb : (w.isNone || (pRet k).isSome) = true)
  (hcal : QTri l Z n0 ad k (0, qentry (.ref a :: as) (pMaxL k), [], σ) w σ₁) (h : QTri l Z n0 ad m (pc + 3, L, w.toList ++ rest, σ₁) v σ') : QTri l Z n0 ad m (pc, L, S, σ) v σ' := by
 have hd : decode (pBytes m) pc = .ok (.invokevirtual idx, 3) := pDecN hc rfl
 subst hS
 obtain ⟨m1, m2⟩ := Bool.and_eq_true_iff.mp hm
 have m1 := mem_of_contains m1
 have m2 := mem_of_contains m2
 obtain ⟨hkA, hk1⟩ := mPlt k m2
 have hkN := mAlt k hkA
 have hret : pRet k = none → w = none := fun q => by
  rw [q] at hrb
  cases w with
  | none => rfl
  | some w => simp at hrb
 refine QTri.after hcal h fun p e R s mid args below meth c T locs cells slots C hcx X hR hC hc1 hsl => ?_
 obtain ⟨hx, hZ, hby, hml, hret', hown, hnm, hfr, hlo⟩ := hcx
 have hd2 : decode c.code pc = .ok (.invokevirtual idx, 3) := by rw [hby]; exact hd
 obtain ⟨f1, f2⟩ := QTri.room (σ := σ) (σ₁ := σ₁) hroom hfr hlo
 obtain ⟨cell, h1, h2⟩ := (hR.2.2 _ _ hcell).1.cell
 obtain ⟨w1, w2⟩ := (qw_pr W) k m2
 obtain ⟨c1, c2⟩ := (qw_cod W) k hkA
 have hpr : s.PrivateAt (pName k) := Cond.privateMethod_at (mvP hZ w2 (args := #[]))
 obtain ⟨cC, kC, i1, i2, i3, i4⟩ := Cond.instantiable_spec (args := #[]) (mvT hZ (qw_inst W))
 have hsel : (Cond.selects (pName k).cls (pName k) (pName k)).before args s = true := selects_self_of_private (c := cC) (k := kC) (by show s.vm.findClass (kName (pK k)) = _; rw [hk1]; exact i1) i2 (by have q := i4.1; cases hq : kC.isInterface with | false => rfl | true => rw [hq] at q; simp at q) hpr (mvT hZ w1) (pOwn _ (pKlt k hkN))
 obtain ⟨_, _, ⟨T₁, L₁, k₁, n₁⟩, -, X₁, ⟨Lc, ⟨rfl, hR1, hF1⟩, l₁, y₁, z₁⟩, st⟩ := X.privateBack hx (own := kName (pK m)) (index := idx) (y := pName k) hown (mvT hZ (qw_ml W (pK m, idx, k) m1)) (mvT hZ w1) hsel hpr (mvT hZ c1) (pOwn _ (pKlt k hkN))
  (backOf (W := (rest.map fun v => v.category).sum) (rm := ⟨pFr k, σ₁.length - σ.length, qhs σ₁ - qhs σ, pLo k⟩) (Q := fun v h L => v = Option.map (qv ad) w ∧ QRep Z n0 ad h σ₁ ∧ Fr n0 L) (QTri.met hkN hcal hR (Nat.le_of_ble_eq_true hlen) hret [] (Nat.le_refl _) (Nat.le_refl _) (Nat.le_refl _) (Nat.le_refl _)) hZ c1 c2 f1 f2) (g := mkF mid pc C (List.map (qv ad) (as.reverse ++ .ref a :: rest))) rfl hC (Steps.refl _) (a := ad a) h1 h2 (argsL := as.map (qv ad)) (rest := rest.map (qv ad)) (sig_len hkN hna) (by simp [qv]) (by show 2 * 0 + _ ≤ _; rw [cats_qv]; omega) hd2 (fun _ _ => ⟨rfl, rfl, hc1, hsl⟩)
 dsimp only [Pt.U, Pt.locs, Pt.cells, Pt.slots] at X₁ l₁ y₁ z₁ st hR1
 subst l₁ y₁ z₁
 exact ⟨T₁, Lc, X₁, hR1, hF1, fun target q => st.trans q⟩
set_option maxHeartbeats 4000000 in
theorem QTri.callS (W : QW Z a0) {pc idx k : Nat} {L : QLoc} {S as rest : List Value} {σ σ₁ : QHeap} {w : Option Value} (hc : pCode m pc = some (.invokestatic idx, k)) (hm : (lkV.contains (pK m, idx, k) && mS.contains k) = true) (hS : S = as.reverse ++ rest)
  (hna : as.length = pNA k) (hlen : Nat.ble ((as.map fun v => v.category).sum) (pMaxL k) = true) (hroom : (Nat.ble (pFr k + 1) (pFr m) && Nat.ble ((rest.map fun v => v.category).sum + (pMaxL k + 11) + pLo k) (pLo m)) = true) (hrb : (w.isNone || (pRet k).isSome) = true)
  (hcal : QTri l Z n0 ad k (0, qentry as (pMaxL k), [], σ) w σ₁) (h : QTri l Z n0 ad m (pc + 3, L, w.toList ++ rest, σ₁) v σ') : QTri l Z n0 ad m (pc, L, S, σ) v σ' := by
 have hd : decode (pBytes m) pc = .ok (.invokestatic idx, 3) := pDecN hc rfl
 subst hS
 obtain ⟨m1, m2⟩ := Bool.and_eq_true_iff.mp hm
 have m1 := mem_of_contains m1
 have m2 := mem_of_contains m2
 have hkA := mSlt k m2
 have hkN := mAlt k hkA
 have hret : pRet k = none → w = none := fun q => by
  rw [q] at hrb
  cases w with
  | none => rfl
  | some w => simp at hrb
 refine QTri.after hcal h fun p e R s mid args below meth c T locs cells slots C hcx X hR hC hc1 hsl => ?_
 obtain ⟨hx, hZ, hby, hml, hret', hown, hnm, hfr, hlo⟩ := hcx
 have hd2 : decode c.code pc = .ok (.invokestatic idx, 3) := by rw [hby]; exact hd
 obtain ⟨f1, f2⟩ := QTri.room (σ := σ) (σ₁ := σ₁) hroom hfr hlo
 obtain ⟨c1, c2⟩ := (qw_cod W) k hkA
 obtain ⟨_, _, ⟨T₁, L₁, k₁, n₁⟩, -, X₁, ⟨Lc, ⟨rfl, hR1, hF1⟩, l₁, y₁, z₁⟩, st⟩ := Jvm.LawKit.callS X hx (own := kName (pK m)) (index := idx) (y := pName k) hown (mvT hZ (qw_ml W (pK m, idx, k) m1)) (mvT hZ ((qw_st W) k m2)) (mvT hZ c2) (mvT hZ c1) (pOwn _ (pKlt k hkN))
  (backOf (W := (rest.map fun v => v.category).sum) (rm := ⟨pFr k, σ₁.length - σ.length, qhs σ₁ - qhs σ, pLo k⟩) (Q := fun v h L => v = Option.map (qv ad) w ∧ QRep Z n0 ad h σ₁ ∧ Fr n0 L) (QTri.met hkN hcal hR (Nat.le_of_ble_eq_true hlen) hret [] (Nat.le_refl _) (Nat.le_refl _) (Nat.le_refl _) (Nat.le_refl _)) hZ c1 c2 f1 f2) (g := mkF mid pc C (List.map (qv ad) (as.reverse ++ rest))) rfl hC (argsL := as.map (qv ad)) (rest := rest.map (qv ad)) (sig_len hkN hna) (by simp) (by show 2 * 0 + _ ≤ _; rw [cats_qv]; omega) hd2 (fun _ _ => ⟨rfl, rfl, hc1, hsl⟩)
 dsimp only [Pt.U, Pt.locs, Pt.cells, Pt.slots] at X₁ l₁ y₁ z₁ st hR1
 subst l₁ y₁ z₁
 exact ⟨T₁, Lc, X₁, hR1, hF1, fun target q => st target q⟩
set_option maxHeartbeats 4000000 in
theorem QTri.callO (W : QW Z a0) {pc idx k a : Nat} {L : QLoc} {rest : List Value} {σ : QHeap} (hc : pCode m pc = some (.invokespecial idx, k)) (hm : lkO.contains (pK m, idx) = true) (hroom : (Nat.ble 1 (pFr m) && Nat.ble ((rest.map fun v => v.category).sum + 12) (pLo m)) = true)
  (h : QTri l Z n0 ad m (pc + 3, L, rest, σ) v σ') : QTri l Z n0 ad m (pc, L, .ref a :: rest, σ) v σ' :=
 have hd : decode (pBytes m) pc = .ok (.invokespecial idx, 3) := pDecN hc rfl
 QTri.pure h rfl fun p e R s mid args below meth c T locs cells slots C hcx X hR hL hC => by
  obtain ⟨hx, hZ, hby, hml, hret', hown, hnm, hfr, hlo⟩ := hcx
  have hd2 : decode c.code pc = .ok (.invokespecial idx, 3) := by rw [hby]; exact hd
  obtain ⟨q1, q2⟩ := Bool.and_eq_true_iff.mp hroom
  obtain ⟨T₁, X₁, e₁, st⟩ := initO X hx hZ hown (idx := idx) (qw_mo W (pK m, idx) (mem_of_contains hm)) ((qw_oi W)) ((qw_oc W)) rfl (g := mkF mid pc C (List.map (qv ad) (.ref a :: rest))) rfl hC rfl hd2 (Nat.le_trans (Nat.le_of_ble_eq_true q1) hfr) (W := (rest.map fun v => v.category).sum) (by show 2 * 0 + _ ≤ _; rw [cats_qv]; omega) (Nat.le_trans (Nat.le_of_ble_eq_true q2) hlo)
  exact ⟨T₁, C, X₁, e₁, hL, hC, st⟩
theorem QTri.brT (Ad : QAd n0 ad) (W : QW Z a0) {st : QSt} {t f : Nat} {L : QLoc} {S : List Value} {σ : QHeap} {b : Bool} (hs : qstep m st = some (bif b then t else f, L, S, σ)) (hb : b = true) (h : QTri l Z n0 ad m (t, L, S, σ) v σ') : QTri l Z n0 ad m st v σ' := by
 subst hb; exact QTri.step Ad W h hs
theorem QTri.brF (Ad : QAd n0 ad) (W : QW Z a0) {st : QSt} {t f : Nat} {L : QLoc} {S : List Value} {σ : QHeap} {b : Bool} (hs : qstep m st = some (bif b then t else f, L, S, σ)) (hb : b = false) (h : QTri l Z n0 ad m (f, L, S, σ) v σ') : QTri l Z n0 ad m st v σ' := by
 subst hb; exact QTri.step Ad W h hs
theorem QTri.bnd {α : Type} (Ad : QAd n0 ad) (W : QW Z a0) {st : QSt} {x : Option α} {f : α → QSt} {a : α} (hs : qstep m st = x.bind fun v => some (f v)) (hx : x = some a) (h : QTri l Z n0 ad m (f a) v σ') : QTri l Z n0 ad m st v σ' :=
 QTri.step Ad W h (by rw [hs, hx]; rfl)
theorem QTri.bndB (Ad : QAd n0 ad) (W : QW Z a0) {st : QSt} {x y : Int32} {g : Value → QSt} (hs : qstep m st = ((qboo x).bind fun y => some (Value.int y)).bind fun w => some (g w)) (hx : qboo x = some y) (h : QTri l Z n0 ad m (g (.int y)) v σ') : QTri l Z n0 ad m st v σ' :=
 QTri.step Ad W h (by rw [hs, hx]; rfl)
end Triples
theorem qite {α : Type} {c : Prop} [Decidable c] {a b : Option α} {r : α} (h : (if c then a else b) = some r) : (c ∧ a = some r) ∨ (¬ c ∧ b = some r) := by
 by_cases hc : c
 ·exact Or.inl ⟨hc, by rwa [if_pos hc] at h⟩
 ·exact Or.inr ⟨hc, by rwa [if_neg hc] at h⟩
def qN : Nat := 4000
def loopN {V E : Type} (B : V → Option (E ⊕ V)) : Nat → V → Option E
 | 0, _ => none
 | n + 1, v => match B v with
  | none => none
  | some (.inl e) => some e
  | some (.inr v') => loopN B n v'
theorem loopN_tri {V E : Type} {B : V → Option (E ⊕ V)} {T : V → Prop} {KE : E → Prop} (hB : ∀ v r, B v = some r → (∀ e, r = .inl e → KE e) → (∀ v', r = .inr v' → T v') → T v) : ∀ (n : Nat) (v : V) (e : E), loopN B n v = some e → KE e → T v
 | 0, _, _, h, _ => by cases h
 | n + 1, v, e, h, k => by
  simp only [loopN] at h
  split at h
  ·cases h
  ·rename_i e' he
   cases h
   exact hB v _ he (fun e q => by cases q; exact k) (fun v' q => by cases q)
  ·rename_i v' he
   exact hB v _ he (fun e q => by cases q) (fun v'' q => by cases q; exact loopN_tri hB n v' e h k)
theorem loopN_inv {V E : Type} {B : V → Option (E ⊕ V)} (I : V → Prop) (P : E → Prop) (μ : V → Nat) (hB : ∀ v, I v → (∃ e, B v = some (.inl e) ∧ P e) ∨ ∃ v', B v = some (.inr v') ∧ I v' ∧ μ v' < μ v) : ∀ (n : Nat) (v : V), I v → μ v < n → ∃ e, loopN B n v = some e ∧ P e
 | 0, _, _, h => absurd h (Nat.not_lt_zero _)
 | n + 1, v, hv, hm => by
  rcases hB v hv with ⟨e, h1, h2⟩ | ⟨v', h1, h2, h3⟩
  ·exact ⟨e, by simp only [loopN, h1], h2⟩
  ·obtain ⟨e, g1, g2⟩ := loopN_inv I P μ hB n v' h2 (by omega)
   exact ⟨e, by simp only [loopN, h1]; exact g1, g2⟩
theorem qfn {α : Type} {P : α → Prop} : ∀ t ∈ ([] : List α), P t := fun _ h => nomatch h
theorem qfc {α : Type} {P : α → Prop} {a : α} {t : List α} (h : P a) (ht : ∀ x ∈ t, P x) : ∀ x ∈ a :: t, P x := fun x hx => by rcases List.mem_cons.mp hx with rfl | q; exact h; exact ht x q
theorem QW_ok {Z : State} {a0 : Array Value} (hw : ∀ d ∈ tables_1, d.before a0 Z = true) : QW Z a0 := by
  have w0 : ∀ k ∈ List.range nF, bif fFin k then (Jvm.Cond.laysFinal cName cName (fNm k) (fDs k)).before a0 Z = true else (Jvm.Cond.lays cName cName (fNm k) (fDs k)).before a0 Z = true :=
    show ∀ k ∈ [0, 1, 2, 3, 4, 5, 6, 7, 8, 9, 10, 11, 12, 13, 14, 15, 16, 17, 18], bif fFin k then (Jvm.Cond.laysFinal cName cName (fNm k) (fDs k)).before a0 Z = true else (Jvm.Cond.lays cName cName (fNm k) (fDs k)).before a0 Z = true from
    (qfc (hw _ (List.mem_of_getElem? (i := 15) rfl)) (qfc (hw _ (List.mem_of_getElem? (i := 17) rfl)) (qfc (hw _ (List.mem_of_getElem? (i := 20) rfl)) (qfc (hw _ (List.mem_of_getElem? (i := 22) rfl)) (qfc (hw _ (List.mem_of_getElem? (i := 24) rfl)) (qfc (hw _ (List.mem_of_getElem? (i := 26) rfl)) (qfc (hw _ (List.mem_of_getElem? (i := 28) rfl)) (qfc (hw _ (List.mem_of_getElem? (i := 30) rfl)) (qfc (hw _ (List.mem_of_getElem? (i := 33) rfl)) (qfc (hw _ (List.mem_of_getElem? (i := 39) rfl)) (qfc (hw _ (List.mem_of_getElem? (i := 41) rfl)) (qfc (hw _ (List.mem_of_getElem? (i := 43) rfl)) (qfc (hw _ (List.mem_of_getElem? (i := 45) rfl)) (qfc (hw _ (List.mem_of_getElem? (i := 47) rfl)) (qfc (hw _ (List.mem_of_getElem? (i := 49) rfl)) (qfc (hw _ (List.mem_of_getElem? (i := 51) rfl)) (qfc (hw _ (List.mem_of_getElem? (i := 53) rfl)) (qfc (hw _ (List.mem_of_getElem? (i := 55) rfl)) (qfc (hw _ (List.mem_of_getElem? (i := 57) rfl)) qfn)))))))))))))))))))
  refine ⟨?_, ?_, ?_, ?_, ?_, ?_, ?_, ?_, ?_, ?_, ?_, ?_, ?_, (fun k hk => w0 k (List.mem_range.mpr hk)), ?_, ?_, ?_⟩
  · exact (qfc (hw _ (List.mem_of_getElem? (i := 14) rfl)) (qfc (hw _ (List.mem_of_getElem? (i := 16) rfl)) (qfc (hw _ (List.mem_of_getElem? (i := 19) rfl)) (qfc (hw _ (List.mem_of_getElem? (i := 21) rfl)) (qfc (hw _ (List.mem_of_getElem? (i := 23) rfl)) (qfc (hw _ (List.mem_of_getElem? (i := 25) rfl)) (qfc (hw _ (List.mem_of_getElem? (i := 27) rfl)) (qfc (hw _ (List.mem_of_getElem? (i := 29) rfl)) (qfc (hw _ (List.mem_of_getElem? (i := 32) rfl)) (qfc (hw _ (List.mem_of_getElem? (i := 38) rfl)) (qfc (hw _ (List.mem_of_getElem? (i := 40) rfl)) (qfc (hw _ (List.mem_of_getElem? (i := 42) rfl)) (qfc (hw _ (List.mem_of_getElem? (i := 44) rfl)) (qfc (hw _ (List.mem_of_getElem? (i := 46) rfl)) (qfc (hw _ (List.mem_of_getElem? (i := 48) rfl)) (qfc (hw _ (List.mem_of_getElem? (i := 50) rfl)) (qfc (hw _ (List.mem_of_getElem? (i := 52) rfl)) (qfc (hw _ (List.mem_of_getElem? (i := 54) rfl)) (qfc (hw _ (List.mem_of_getElem? (i := 56) rfl)) qfn)))))))))))))))))))
  · exact (qfc (hw _ (List.mem_of_getElem? (i := 4) rfl)) qfn)
  · exact (qfc ⟨_, rfl, (hw _ (List.mem_of_getElem? (i := 85) rfl))⟩ qfn)
  · exact (qfc ⟨_, rfl, (hw _ (List.mem_of_getElem? (i := 146) rfl))⟩ (qfc ⟨_, rfl, (hw _ (List.mem_of_getElem? (i := 150) rfl))⟩ (qfc ⟨_, rfl, (hw _ (List.mem_of_getElem? (i := 151) rfl))⟩ qfn)))
  · exact (qfc (hw _ (List.mem_of_getElem? (i := 0) rfl)) (qfc (hw _ (List.mem_of_getElem? (i := 7) rfl)) (qfc (hw _ (List.mem_of_getElem? (i := 34) rfl)) (qfc (hw _ (List.mem_of_getElem? (i := 58) rfl)) (qfc (hw _ (List.mem_of_getElem? (i := 63) rfl)) (qfc (hw _ (List.mem_of_getElem? (i := 67) rfl)) (qfc (hw _ (List.mem_of_getElem? (i := 71) rfl)) (qfc (hw _ (List.mem_of_getElem? (i := 76) rfl)) (qfc (hw _ (List.mem_of_getElem? (i := 80) rfl)) (qfc (hw _ (List.mem_of_getElem? (i := 86) rfl)) (qfc (hw _ (List.mem_of_getElem? (i := 90) rfl)) (qfc (hw _ (List.mem_of_getElem? (i := 95) rfl)) (qfc (hw _ (List.mem_of_getElem? (i := 100) rfl)) (qfc (hw _ (List.mem_of_getElem? (i := 105) rfl)) (qfc (hw _ (List.mem_of_getElem? (i := 110) rfl)) (qfc (hw _ (List.mem_of_getElem? (i := 114) rfl)) (qfc (hw _ (List.mem_of_getElem? (i := 118) rfl)) (qfc (hw _ (List.mem_of_getElem? (i := 122) rfl)) (qfc (hw _ (List.mem_of_getElem? (i := 126) rfl)) (qfc (hw _ (List.mem_of_getElem? (i := 130) rfl)) (qfc (hw _ (List.mem_of_getElem? (i := 134) rfl)) (qfc (hw _ (List.mem_of_getElem? (i := 138) rfl)) (qfc (hw _ (List.mem_of_getElem? (i := 143) rfl)) (qfc (hw _ (List.mem_of_getElem? (i := 147) rfl)) (qfc (hw _ (List.mem_of_getElem? (i := 152) rfl)) (qfc (hw _ (List.mem_of_getElem? (i := 157) rfl)) (qfc (hw _ (List.mem_of_getElem? (i := 162) rfl)) (qfc (hw _ (List.mem_of_getElem? (i := 167) rfl)) (qfc (hw _ (List.mem_of_getElem? (i := 170) rfl)) (qfc (hw _ (List.mem_of_getElem? (i := 174) rfl)) (qfc (hw _ (List.mem_of_getElem? (i := 178) rfl)) (qfc (hw _ (List.mem_of_getElem? (i := 183) rfl)) (qfc (hw _ (List.mem_of_getElem? (i := 188) rfl)) (qfc (hw _ (List.mem_of_getElem? (i := 191) rfl)) (qfc (hw _ (List.mem_of_getElem? (i := 194) rfl)) (qfc (hw _ (List.mem_of_getElem? (i := 198) rfl)) qfn))))))))))))))))))))))))))))))))))))
  · exact (qfc (hw _ (List.mem_of_getElem? (i := 10) rfl)) qfn)
  · exact (qfc ⟨(hw _ (List.mem_of_getElem? (i := 59) rfl)), (hw _ (List.mem_of_getElem? (i := 61) rfl)), (hw _ (List.mem_of_getElem? (i := 60) rfl))⟩ (qfc ⟨(hw _ (List.mem_of_getElem? (i := 72) rfl)), (hw _ (List.mem_of_getElem? (i := 74) rfl)), (hw _ (List.mem_of_getElem? (i := 73) rfl))⟩ (qfc ⟨(hw _ (List.mem_of_getElem? (i := 81) rfl)), (hw _ (List.mem_of_getElem? (i := 83) rfl)), (hw _ (List.mem_of_getElem? (i := 82) rfl))⟩ (qfc ⟨(hw _ (List.mem_of_getElem? (i := 91) rfl)), (hw _ (List.mem_of_getElem? (i := 93) rfl)), (hw _ (List.mem_of_getElem? (i := 92) rfl))⟩ (qfc ⟨(hw _ (List.mem_of_getElem? (i := 96) rfl)), (hw _ (List.mem_of_getElem? (i := 98) rfl)), (hw _ (List.mem_of_getElem? (i := 97) rfl))⟩ (qfc ⟨(hw _ (List.mem_of_getElem? (i := 101) rfl)), (hw _ (List.mem_of_getElem? (i := 103) rfl)), (hw _ (List.mem_of_getElem? (i := 102) rfl))⟩ (qfc ⟨(hw _ (List.mem_of_getElem? (i := 106) rfl)), (hw _ (List.mem_of_getElem? (i := 108) rfl)), (hw _ (List.mem_of_getElem? (i := 107) rfl))⟩ (qfc ⟨(hw _ (List.mem_of_getElem? (i := 139) rfl)), (hw _ (List.mem_of_getElem? (i := 141) rfl)), (hw _ (List.mem_of_getElem? (i := 140) rfl))⟩ (qfc ⟨(hw _ (List.mem_of_getElem? (i := 153) rfl)), (hw _ (List.mem_of_getElem? (i := 155) rfl)), (hw _ (List.mem_of_getElem? (i := 154) rfl))⟩ (qfc ⟨(hw _ (List.mem_of_getElem? (i := 158) rfl)), (hw _ (List.mem_of_getElem? (i := 160) rfl)), (hw _ (List.mem_of_getElem? (i := 159) rfl))⟩ (qfc ⟨(hw _ (List.mem_of_getElem? (i := 163) rfl)), (hw _ (List.mem_of_getElem? (i := 165) rfl)), (hw _ (List.mem_of_getElem? (i := 164) rfl))⟩ (qfc ⟨(hw _ (List.mem_of_getElem? (i := 179) rfl)), (hw _ (List.mem_of_getElem? (i := 181) rfl)), (hw _ (List.mem_of_getElem? (i := 180) rfl))⟩ (qfc ⟨(hw _ (List.mem_of_getElem? (i := 184) rfl)), (hw _ (List.mem_of_getElem? (i := 186) rfl)), (hw _ (List.mem_of_getElem? (i := 185) rfl))⟩ qfn)))))))))))))
  · exact (qfc ⟨(hw _ (List.mem_of_getElem? (i := 35) rfl)), (hw _ (List.mem_of_getElem? (i := 36) rfl))⟩ (qfc ⟨(hw _ (List.mem_of_getElem? (i := 64) rfl)), (hw _ (List.mem_of_getElem? (i := 65) rfl))⟩ (qfc ⟨(hw _ (List.mem_of_getElem? (i := 68) rfl)), (hw _ (List.mem_of_getElem? (i := 69) rfl))⟩ (qfc ⟨(hw _ (List.mem_of_getElem? (i := 77) rfl)), (hw _ (List.mem_of_getElem? (i := 78) rfl))⟩ (qfc ⟨(hw _ (List.mem_of_getElem? (i := 87) rfl)), (hw _ (List.mem_of_getElem? (i := 88) rfl))⟩ (qfc ⟨(hw _ (List.mem_of_getElem? (i := 111) rfl)), (hw _ (List.mem_of_getElem? (i := 112) rfl))⟩ (qfc ⟨(hw _ (List.mem_of_getElem? (i := 115) rfl)), (hw _ (List.mem_of_getElem? (i := 116) rfl))⟩ (qfc ⟨(hw _ (List.mem_of_getElem? (i := 119) rfl)), (hw _ (List.mem_of_getElem? (i := 120) rfl))⟩ (qfc ⟨(hw _ (List.mem_of_getElem? (i := 123) rfl)), (hw _ (List.mem_of_getElem? (i := 124) rfl))⟩ (qfc ⟨(hw _ (List.mem_of_getElem? (i := 127) rfl)), (hw _ (List.mem_of_getElem? (i := 128) rfl))⟩ (qfc ⟨(hw _ (List.mem_of_getElem? (i := 131) rfl)), (hw _ (List.mem_of_getElem? (i := 132) rfl))⟩ (qfc ⟨(hw _ (List.mem_of_getElem? (i := 135) rfl)), (hw _ (List.mem_of_getElem? (i := 136) rfl))⟩ (qfc ⟨(hw _ (List.mem_of_getElem? (i := 171) rfl)), (hw _ (List.mem_of_getElem? (i := 172) rfl))⟩ (qfc ⟨(hw _ (List.mem_of_getElem? (i := 175) rfl)), (hw _ (List.mem_of_getElem? (i := 176) rfl))⟩ (qfc ⟨(hw _ (List.mem_of_getElem? (i := 195) rfl)), (hw _ (List.mem_of_getElem? (i := 196) rfl))⟩ (qfc ⟨(hw _ (List.mem_of_getElem? (i := 199) rfl)), (hw _ (List.mem_of_getElem? (i := 200) rfl))⟩ qfn))))))))))))))))
  · exact (qfc (hw _ (List.mem_of_getElem? (i := 1) rfl)) (qfc (hw _ (List.mem_of_getElem? (i := 144) rfl)) (qfc (hw _ (List.mem_of_getElem? (i := 148) rfl)) (qfc (hw _ (List.mem_of_getElem? (i := 168) rfl)) (qfc (hw _ (List.mem_of_getElem? (i := 189) rfl)) (qfc (hw _ (List.mem_of_getElem? (i := 192) rfl)) qfn))))))
  · exact (qfc (hw _ (List.mem_of_getElem? (i := 8) rfl)) qfn)
  · exact (qfc ⟨(hw _ (List.mem_of_getElem? (i := 3) rfl)), (hw _ (List.mem_of_getElem? (i := 2) rfl))⟩ (qfc ⟨(hw _ (List.mem_of_getElem? (i := 9) rfl)), (hw _ (List.mem_of_getElem? (i := 6) rfl))⟩ (qfc ⟨(hw _ (List.mem_of_getElem? (i := 37) rfl)), (hw _ (List.mem_of_getElem? (i := 6) rfl))⟩ (qfc ⟨(hw _ (List.mem_of_getElem? (i := 62) rfl)), (hw _ (List.mem_of_getElem? (i := 6) rfl))⟩ (qfc ⟨(hw _ (List.mem_of_getElem? (i := 66) rfl)), (hw _ (List.mem_of_getElem? (i := 6) rfl))⟩ (qfc ⟨(hw _ (List.mem_of_getElem? (i := 70) rfl)), (hw _ (List.mem_of_getElem? (i := 6) rfl))⟩ (qfc ⟨(hw _ (List.mem_of_getElem? (i := 75) rfl)), (hw _ (List.mem_of_getElem? (i := 6) rfl))⟩ (qfc ⟨(hw _ (List.mem_of_getElem? (i := 79) rfl)), (hw _ (List.mem_of_getElem? (i := 6) rfl))⟩ (qfc ⟨(hw _ (List.mem_of_getElem? (i := 84) rfl)), (hw _ (List.mem_of_getElem? (i := 6) rfl))⟩ (qfc ⟨(hw _ (List.mem_of_getElem? (i := 89) rfl)), (hw _ (List.mem_of_getElem? (i := 6) rfl))⟩ (qfc ⟨(hw _ (List.mem_of_getElem? (i := 94) rfl)), (hw _ (List.mem_of_getElem? (i := 6) rfl))⟩ (qfc ⟨(hw _ (List.mem_of_getElem? (i := 99) rfl)), (hw _ (List.mem_of_getElem? (i := 6) rfl))⟩ (qfc ⟨(hw _ (List.mem_of_getElem? (i := 104) rfl)), (hw _ (List.mem_of_getElem? (i := 6) rfl))⟩ (qfc ⟨(hw _ (List.mem_of_getElem? (i := 109) rfl)), (hw _ (List.mem_of_getElem? (i := 6) rfl))⟩ (qfc ⟨(hw _ (List.mem_of_getElem? (i := 113) rfl)), (hw _ (List.mem_of_getElem? (i := 6) rfl))⟩ (qfc ⟨(hw _ (List.mem_of_getElem? (i := 117) rfl)), (hw _ (List.mem_of_getElem? (i := 6) rfl))⟩ (qfc ⟨(hw _ (List.mem_of_getElem? (i := 121) rfl)), (hw _ (List.mem_of_getElem? (i := 6) rfl))⟩ (qfc ⟨(hw _ (List.mem_of_getElem? (i := 125) rfl)), (hw _ (List.mem_of_getElem? (i := 6) rfl))⟩ (qfc ⟨(hw _ (List.mem_of_getElem? (i := 129) rfl)), (hw _ (List.mem_of_getElem? (i := 6) rfl))⟩ (qfc ⟨(hw _ (List.mem_of_getElem? (i := 133) rfl)), (hw _ (List.mem_of_getElem? (i := 6) rfl))⟩ (qfc ⟨(hw _ (List.mem_of_getElem? (i := 137) rfl)), (hw _ (List.mem_of_getElem? (i := 6) rfl))⟩ (qfc ⟨(hw _ (List.mem_of_getElem? (i := 142) rfl)), (hw _ (List.mem_of_getElem? (i := 6) rfl))⟩ (qfc ⟨(hw _ (List.mem_of_getElem? (i := 145) rfl)), (hw _ (List.mem_of_getElem? (i := 2) rfl))⟩ (qfc ⟨(hw _ (List.mem_of_getElem? (i := 149) rfl)), (hw _ (List.mem_of_getElem? (i := 2) rfl))⟩ (qfc ⟨(hw _ (List.mem_of_getElem? (i := 156) rfl)), (hw _ (List.mem_of_getElem? (i := 6) rfl))⟩ (qfc ⟨(hw _ (List.mem_of_getElem? (i := 161) rfl)), (hw _ (List.mem_of_getElem? (i := 6) rfl))⟩ (qfc ⟨(hw _ (List.mem_of_getElem? (i := 166) rfl)), (hw _ (List.mem_of_getElem? (i := 6) rfl))⟩ (qfc ⟨(hw _ (List.mem_of_getElem? (i := 169) rfl)), (hw _ (List.mem_of_getElem? (i := 2) rfl))⟩ (qfc ⟨(hw _ (List.mem_of_getElem? (i := 173) rfl)), (hw _ (List.mem_of_getElem? (i := 6) rfl))⟩ (qfc ⟨(hw _ (List.mem_of_getElem? (i := 177) rfl)), (hw _ (List.mem_of_getElem? (i := 6) rfl))⟩ (qfc ⟨(hw _ (List.mem_of_getElem? (i := 182) rfl)), (hw _ (List.mem_of_getElem? (i := 6) rfl))⟩ (qfc ⟨(hw _ (List.mem_of_getElem? (i := 187) rfl)), (hw _ (List.mem_of_getElem? (i := 6) rfl))⟩ (qfc ⟨(hw _ (List.mem_of_getElem? (i := 190) rfl)), (hw _ (List.mem_of_getElem? (i := 2) rfl))⟩ (qfc ⟨(hw _ (List.mem_of_getElem? (i := 193) rfl)), (hw _ (List.mem_of_getElem? (i := 2) rfl))⟩ (qfc ⟨(hw _ (List.mem_of_getElem? (i := 197) rfl)), (hw _ (List.mem_of_getElem? (i := 6) rfl))⟩ (qfc ⟨(hw _ (List.mem_of_getElem? (i := 201) rfl)), (hw _ (List.mem_of_getElem? (i := 6) rfl))⟩ qfn))))))))))))))))))))))))))))))))))))
  · exact (hw _ (List.mem_of_getElem? (i := 11) rfl))
  · exact (hw _ (List.mem_of_getElem? (i := 12) rfl))
  · exact (hw _ (List.mem_of_getElem? (i := 5) rfl))
  · exact (hw _ (List.mem_of_getElem? (i := 6) rfl))
  · exact (qfc (hw _ (List.mem_of_getElem? (i := 13) rfl)) (qfc (hw _ (List.mem_of_getElem? (i := 18) rfl)) (qfc (hw _ (List.mem_of_getElem? (i := 31) rfl)) qfn)))
abbrev Ob := List Int32 × List Int32 × List Int32 × List Int32 × List Int32 × List Int32 × List Int32 × List Int32 × List Int64 × Int32 × Int32 × Int32 × Int32 × Int32 × Int32 × Int32 × Int32 × Int32 × Int32
def f_live (o : Ob) : List Int32 := o.1
def f_used (o : Ob) : List Int32 := o.2.1
def f_freedAt (o : Ob) : List Int32 := o.2.2.1
def f_protoOf (o : Ob) : List Int32 := o.2.2.2.1
def f_hostOf (o : Ob) : List Int32 := o.2.2.2.2.1
def f_iportOf (o : Ob) : List Int32 := o.2.2.2.2.2.1
def f_stateAt (o : Ob) : List Int32 := o.2.2.2.2.2.2.1
def f_deadlineAt (o : Ob) : List Int32 := o.2.2.2.2.2.2.2.1
def f_perm (o : Ob) : List Int64 := o.2.2.2.2.2.2.2.2.1
def f_poolSize (o : Ob) : Int32 := o.2.2.2.2.2.2.2.2.2.1
def f_udpTimeout (o : Ob) : Int32 := o.2.2.2.2.2.2.2.2.2.2.1
def f_tcpTimeout (o : Ob) : Int32 := o.2.2.2.2.2.2.2.2.2.2.2.1
def f_cooldown (o : Ob) : Int32 := o.2.2.2.2.2.2.2.2.2.2.2.2.1
def f_clock (o : Ob) : Int32 := o.2.2.2.2.2.2.2.2.2.2.2.2.2.1
def f_remAddr (o : Ob) : Int32 := o.2.2.2.2.2.2.2.2.2.2.2.2.2.2.1
def f_remPort (o : Ob) : Int32 := o.2.2.2.2.2.2.2.2.2.2.2.2.2.2.2.1
def f_regHost (o : Ob) : Int32 := o.2.2.2.2.2.2.2.2.2.2.2.2.2.2.2.2.1
def f_regPort (o : Ob) : Int32 := o.2.2.2.2.2.2.2.2.2.2.2.2.2.2.2.2.2.1
def f_regExt (o : Ob) : Int32 := o.2.2.2.2.2.2.2.2.2.2.2.2.2.2.2.2.2.2
def s_live (o : Ob) (v : List Int32) : Ob := (v, o.2.1, o.2.2.1, o.2.2.2.1, o.2.2.2.2.1, o.2.2.2.2.2.1, o.2.2.2.2.2.2.1, o.2.2.2.2.2.2.2.1, o.2.2.2.2.2.2.2.2.1, o.2.2.2.2.2.2.2.2.2.1, o.2.2.2.2.2.2.2.2.2.2.1, o.2.2.2.2.2.2.2.2.2.2.2.1, o.2.2.2.2.2.2.2.2.2.2.2.2.1, o.2.2.2.2.2.2.2.2.2.2.2.2.2.1, o.2.2.2.2.2.2.2.2.2.2.2.2.2.2.1, o.2.2.2.2.2.2.2.2.2.2.2.2.2.2.2.1, o.2.2.2.2.2.2.2.2.2.2.2.2.2.2.2.2.1, o.2.2.2.2.2.2.2.2.2.2.2.2.2.2.2.2.2.1, o.2.2.2.2.2.2.2.2.2.2.2.2.2.2.2.2.2.2)
def s_used (o : Ob) (v : List Int32) : Ob := (o.1, v, o.2.2.1, o.2.2.2.1, o.2.2.2.2.1, o.2.2.2.2.2.1, o.2.2.2.2.2.2.1, o.2.2.2.2.2.2.2.1, o.2.2.2.2.2.2.2.2.1, o.2.2.2.2.2.2.2.2.2.1, o.2.2.2.2.2.2.2.2.2.2.1, o.2.2.2.2.2.2.2.2.2.2.2.1, o.2.2.2.2.2.2.2.2.2.2.2.2.1, o.2.2.2.2.2.2.2.2.2.2.2.2.2.1, o.2.2.2.2.2.2.2.2.2.2.2.2.2.2.1, o.2.2.2.2.2.2.2.2.2.2.2.2.2.2.2.1, o.2.2.2.2.2.2.2.2.2.2.2.2.2.2.2.2.1, o.2.2.2.2.2.2.2.2.2.2.2.2.2.2.2.2.2.1, o.2.2.2.2.2.2.2.2.2.2.2.2.2.2.2.2.2.2)
def s_freedAt (o : Ob) (v : List Int32) : Ob := (o.1, o.2.1, v, o.2.2.2.1, o.2.2.2.2.1, o.2.2.2.2.2.1, o.2.2.2.2.2.2.1, o.2.2.2.2.2.2.2.1, o.2.2.2.2.2.2.2.2.1, o.2.2.2.2.2.2.2.2.2.1, o.2.2.2.2.2.2.2.2.2.2.1, o.2.2.2.2.2.2.2.2.2.2.2.1, o.2.2.2.2.2.2.2.2.2.2.2.2.1, o.2.2.2.2.2.2.2.2.2.2.2.2.2.1, o.2.2.2.2.2.2.2.2.2.2.2.2.2.2.1, o.2.2.2.2.2.2.2.2.2.2.2.2.2.2.2.1, o.2.2.2.2.2.2.2.2.2.2.2.2.2.2.2.2.1, o.2.2.2.2.2.2.2.2.2.2.2.2.2.2.2.2.2.1, o.2.2.2.2.2.2.2.2.2.2.2.2.2.2.2.2.2.2)
def s_protoOf (o : Ob) (v : List Int32) : Ob := (o.1, o.2.1, o.2.2.1, v, o.2.2.2.2.1, o.2.2.2.2.2.1, o.2.2.2.2.2.2.1, o.2.2.2.2.2.2.2.1, o.2.2.2.2.2.2.2.2.1, o.2.2.2.2.2.2.2.2.2.1, o.2.2.2.2.2.2.2.2.2.2.1, o.2.2.2.2.2.2.2.2.2.2.2.1, o.2.2.2.2.2.2.2.2.2.2.2.2.1, o.2.2.2.2.2.2.2.2.2.2.2.2.2.1, o.2.2.2.2.2.2.2.2.2.2.2.2.2.2.1, o.2.2.2.2.2.2.2.2.2.2.2.2.2.2.2.1, o.2.2.2.2.2.2.2.2.2.2.2.2.2.2.2.2.1, o.2.2.2.2.2.2.2.2.2.2.2.2.2.2.2.2.2.1, o.2.2.2.2.2.2.2.2.2.2.2.2.2.2.2.2.2.2)
def s_hostOf (o : Ob) (v : List Int32) : Ob := (o.1, o.2.1, o.2.2.1, o.2.2.2.1, v, o.2.2.2.2.2.1, o.2.2.2.2.2.2.1, o.2.2.2.2.2.2.2.1, o.2.2.2.2.2.2.2.2.1, o.2.2.2.2.2.2.2.2.2.1, o.2.2.2.2.2.2.2.2.2.2.1, o.2.2.2.2.2.2.2.2.2.2.2.1, o.2.2.2.2.2.2.2.2.2.2.2.2.1, o.2.2.2.2.2.2.2.2.2.2.2.2.2.1, o.2.2.2.2.2.2.2.2.2.2.2.2.2.2.1, o.2.2.2.2.2.2.2.2.2.2.2.2.2.2.2.1, o.2.2.2.2.2.2.2.2.2.2.2.2.2.2.2.2.1, o.2.2.2.2.2.2.2.2.2.2.2.2.2.2.2.2.2.1, o.2.2.2.2.2.2.2.2.2.2.2.2.2.2.2.2.2.2)
def s_iportOf (o : Ob) (v : List Int32) : Ob := (o.1, o.2.1, o.2.2.1, o.2.2.2.1, o.2.2.2.2.1, v, o.2.2.2.2.2.2.1, o.2.2.2.2.2.2.2.1, o.2.2.2.2.2.2.2.2.1, o.2.2.2.2.2.2.2.2.2.1, o.2.2.2.2.2.2.2.2.2.2.1, o.2.2.2.2.2.2.2.2.2.2.2.1, o.2.2.2.2.2.2.2.2.2.2.2.2.1, o.2.2.2.2.2.2.2.2.2.2.2.2.2.1, o.2.2.2.2.2.2.2.2.2.2.2.2.2.2.1, o.2.2.2.2.2.2.2.2.2.2.2.2.2.2.2.1, o.2.2.2.2.2.2.2.2.2.2.2.2.2.2.2.2.1, o.2.2.2.2.2.2.2.2.2.2.2.2.2.2.2.2.2.1, o.2.2.2.2.2.2.2.2.2.2.2.2.2.2.2.2.2.2)
def s_stateAt (o : Ob) (v : List Int32) : Ob := (o.1, o.2.1, o.2.2.1, o.2.2.2.1, o.2.2.2.2.1, o.2.2.2.2.2.1, v, o.2.2.2.2.2.2.2.1, o.2.2.2.2.2.2.2.2.1, o.2.2.2.2.2.2.2.2.2.1, o.2.2.2.2.2.2.2.2.2.2.1, o.2.2.2.2.2.2.2.2.2.2.2.1, o.2.2.2.2.2.2.2.2.2.2.2.2.1, o.2.2.2.2.2.2.2.2.2.2.2.2.2.1, o.2.2.2.2.2.2.2.2.2.2.2.2.2.2.1, o.2.2.2.2.2.2.2.2.2.2.2.2.2.2.2.1, o.2.2.2.2.2.2.2.2.2.2.2.2.2.2.2.2.1, o.2.2.2.2.2.2.2.2.2.2.2.2.2.2.2.2.2.1, o.2.2.2.2.2.2.2.2.2.2.2.2.2.2.2.2.2.2)
def s_deadlineAt (o : Ob) (v : List Int32) : Ob := (o.1, o.2.1, o.2.2.1, o.2.2.2.1, o.2.2.2.2.1, o.2.2.2.2.2.1, o.2.2.2.2.2.2.1, v, o.2.2.2.2.2.2.2.2.1, o.2.2.2.2.2.2.2.2.2.1, o.2.2.2.2.2.2.2.2.2.2.1, o.2.2.2.2.2.2.2.2.2.2.2.1, o.2.2.2.2.2.2.2.2.2.2.2.2.1, o.2.2.2.2.2.2.2.2.2.2.2.2.2.1, o.2.2.2.2.2.2.2.2.2.2.2.2.2.2.1, o.2.2.2.2.2.2.2.2.2.2.2.2.2.2.2.1, o.2.2.2.2.2.2.2.2.2.2.2.2.2.2.2.2.1, o.2.2.2.2.2.2.2.2.2.2.2.2.2.2.2.2.2.1, o.2.2.2.2.2.2.2.2.2.2.2.2.2.2.2.2.2.2)
def s_perm (o : Ob) (v : List Int64) : Ob := (o.1, o.2.1, o.2.2.1, o.2.2.2.1, o.2.2.2.2.1, o.2.2.2.2.2.1, o.2.2.2.2.2.2.1, o.2.2.2.2.2.2.2.1, v, o.2.2.2.2.2.2.2.2.2.1, o.2.2.2.2.2.2.2.2.2.2.1, o.2.2.2.2.2.2.2.2.2.2.2.1, o.2.2.2.2.2.2.2.2.2.2.2.2.1, o.2.2.2.2.2.2.2.2.2.2.2.2.2.1, o.2.2.2.2.2.2.2.2.2.2.2.2.2.2.1, o.2.2.2.2.2.2.2.2.2.2.2.2.2.2.2.1, o.2.2.2.2.2.2.2.2.2.2.2.2.2.2.2.2.1, o.2.2.2.2.2.2.2.2.2.2.2.2.2.2.2.2.2.1, o.2.2.2.2.2.2.2.2.2.2.2.2.2.2.2.2.2.2)
def s_poolSize (o : Ob) (v : Int32) : Ob := (o.1, o.2.1, o.2.2.1, o.2.2.2.1, o.2.2.2.2.1, o.2.2.2.2.2.1, o.2.2.2.2.2.2.1, o.2.2.2.2.2.2.2.1, o.2.2.2.2.2.2.2.2.1, v, o.2.2.2.2.2.2.2.2.2.2.1, o.2.2.2.2.2.2.2.2.2.2.2.1, o.2.2.2.2.2.2.2.2.2.2.2.2.1, o.2.2.2.2.2.2.2.2.2.2.2.2.2.1, o.2.2.2.2.2.2.2.2.2.2.2.2.2.2.1, o.2.2.2.2.2.2.2.2.2.2.2.2.2.2.2.1, o.2.2.2.2.2.2.2.2.2.2.2.2.2.2.2.2.1, o.2.2.2.2.2.2.2.2.2.2.2.2.2.2.2.2.2.1, o.2.2.2.2.2.2.2.2.2.2.2.2.2.2.2.2.2.2)
def s_udpTimeout (o : Ob) (v : Int32) : Ob := (o.1, o.2.1, o.2.2.1, o.2.2.2.1, o.2.2.2.2.1, o.2.2.2.2.2.1, o.2.2.2.2.2.2.1, o.2.2.2.2.2.2.2.1, o.2.2.2.2.2.2.2.2.1, o.2.2.2.2.2.2.2.2.2.1, v, o.2.2.2.2.2.2.2.2.2.2.2.1, o.2.2.2.2.2.2.2.2.2.2.2.2.1, o.2.2.2.2.2.2.2.2.2.2.2.2.2.1, o.2.2.2.2.2.2.2.2.2.2.2.2.2.2.1, o.2.2.2.2.2.2.2.2.2.2.2.2.2.2.2.1, o.2.2.2.2.2.2.2.2.2.2.2.2.2.2.2.2.1, o.2.2.2.2.2.2.2.2.2.2.2.2.2.2.2.2.2.1, o.2.2.2.2.2.2.2.2.2.2.2.2.2.2.2.2.2.2)
def s_tcpTimeout (o : Ob) (v : Int32) : Ob := (o.1, o.2.1, o.2.2.1, o.2.2.2.1, o.2.2.2.2.1, o.2.2.2.2.2.1, o.2.2.2.2.2.2.1, o.2.2.2.2.2.2.2.1, o.2.2.2.2.2.2.2.2.1, o.2.2.2.2.2.2.2.2.2.1, o.2.2.2.2.2.2.2.2.2.2.1, v, o.2.2.2.2.2.2.2.2.2.2.2.2.1, o.2.2.2.2.2.2.2.2.2.2.2.2.2.1, o.2.2.2.2.2.2.2.2.2.2.2.2.2.2.1, o.2.2.2.2.2.2.2.2.2.2.2.2.2.2.2.1, o.2.2.2.2.2.2.2.2.2.2.2.2.2.2.2.2.1, o.2.2.2.2.2.2.2.2.2.2.2.2.2.2.2.2.2.1, o.2.2.2.2.2.2.2.2.2.2.2.2.2.2.2.2.2.2)
def s_cooldown (o : Ob) (v : Int32) : Ob := (o.1, o.2.1, o.2.2.1, o.2.2.2.1, o.2.2.2.2.1, o.2.2.2.2.2.1, o.2.2.2.2.2.2.1, o.2.2.2.2.2.2.2.1, o.2.2.2.2.2.2.2.2.1, o.2.2.2.2.2.2.2.2.2.1, o.2.2.2.2.2.2.2.2.2.2.1, o.2.2.2.2.2.2.2.2.2.2.2.1, v, o.2.2.2.2.2.2.2.2.2.2.2.2.2.1, o.2.2.2.2.2.2.2.2.2.2.2.2.2.2.1, o.2.2.2.2.2.2.2.2.2.2.2.2.2.2.2.1, o.2.2.2.2.2.2.2.2.2.2.2.2.2.2.2.2.1, o.2.2.2.2.2.2.2.2.2.2.2.2.2.2.2.2.2.1, o.2.2.2.2.2.2.2.2.2.2.2.2.2.2.2.2.2.2)
def s_clock (o : Ob) (v : Int32) : Ob := (o.1, o.2.1, o.2.2.1, o.2.2.2.1, o.2.2.2.2.1, o.2.2.2.2.2.1, o.2.2.2.2.2.2.1, o.2.2.2.2.2.2.2.1, o.2.2.2.2.2.2.2.2.1, o.2.2.2.2.2.2.2.2.2.1, o.2.2.2.2.2.2.2.2.2.2.1, o.2.2.2.2.2.2.2.2.2.2.2.1, o.2.2.2.2.2.2.2.2.2.2.2.2.1, v, o.2.2.2.2.2.2.2.2.2.2.2.2.2.2.1, o.2.2.2.2.2.2.2.2.2.2.2.2.2.2.2.1, o.2.2.2.2.2.2.2.2.2.2.2.2.2.2.2.2.1, o.2.2.2.2.2.2.2.2.2.2.2.2.2.2.2.2.2.1, o.2.2.2.2.2.2.2.2.2.2.2.2.2.2.2.2.2.2)
def s_remAddr (o : Ob) (v : Int32) : Ob := (o.1, o.2.1, o.2.2.1, o.2.2.2.1, o.2.2.2.2.1, o.2.2.2.2.2.1, o.2.2.2.2.2.2.1, o.2.2.2.2.2.2.2.1, o.2.2.2.2.2.2.2.2.1, o.2.2.2.2.2.2.2.2.2.1, o.2.2.2.2.2.2.2.2.2.2.1, o.2.2.2.2.2.2.2.2.2.2.2.1, o.2.2.2.2.2.2.2.2.2.2.2.2.1, o.2.2.2.2.2.2.2.2.2.2.2.2.2.1, v, o.2.2.2.2.2.2.2.2.2.2.2.2.2.2.2.1, o.2.2.2.2.2.2.2.2.2.2.2.2.2.2.2.2.1, o.2.2.2.2.2.2.2.2.2.2.2.2.2.2.2.2.2.1, o.2.2.2.2.2.2.2.2.2.2.2.2.2.2.2.2.2.2)
def s_remPort (o : Ob) (v : Int32) : Ob := (o.1, o.2.1, o.2.2.1, o.2.2.2.1, o.2.2.2.2.1, o.2.2.2.2.2.1, o.2.2.2.2.2.2.1, o.2.2.2.2.2.2.2.1, o.2.2.2.2.2.2.2.2.1, o.2.2.2.2.2.2.2.2.2.1, o.2.2.2.2.2.2.2.2.2.2.1, o.2.2.2.2.2.2.2.2.2.2.2.1, o.2.2.2.2.2.2.2.2.2.2.2.2.1, o.2.2.2.2.2.2.2.2.2.2.2.2.2.1, o.2.2.2.2.2.2.2.2.2.2.2.2.2.2.1, v, o.2.2.2.2.2.2.2.2.2.2.2.2.2.2.2.2.1, o.2.2.2.2.2.2.2.2.2.2.2.2.2.2.2.2.2.1, o.2.2.2.2.2.2.2.2.2.2.2.2.2.2.2.2.2.2)
def s_regHost (o : Ob) (v : Int32) : Ob := (o.1, o.2.1, o.2.2.1, o.2.2.2.1, o.2.2.2.2.1, o.2.2.2.2.2.1, o.2.2.2.2.2.2.1, o.2.2.2.2.2.2.2.1, o.2.2.2.2.2.2.2.2.1, o.2.2.2.2.2.2.2.2.2.1, o.2.2.2.2.2.2.2.2.2.2.1, o.2.2.2.2.2.2.2.2.2.2.2.1, o.2.2.2.2.2.2.2.2.2.2.2.2.1, o.2.2.2.2.2.2.2.2.2.2.2.2.2.1, o.2.2.2.2.2.2.2.2.2.2.2.2.2.2.1, o.2.2.2.2.2.2.2.2.2.2.2.2.2.2.2.1, v, o.2.2.2.2.2.2.2.2.2.2.2.2.2.2.2.2.2.1, o.2.2.2.2.2.2.2.2.2.2.2.2.2.2.2.2.2.2)
def s_regPort (o : Ob) (v : Int32) : Ob := (o.1, o.2.1, o.2.2.1, o.2.2.2.1, o.2.2.2.2.1, o.2.2.2.2.2.1, o.2.2.2.2.2.2.1, o.2.2.2.2.2.2.2.1, o.2.2.2.2.2.2.2.2.1, o.2.2.2.2.2.2.2.2.2.1, o.2.2.2.2.2.2.2.2.2.2.1, o.2.2.2.2.2.2.2.2.2.2.2.1, o.2.2.2.2.2.2.2.2.2.2.2.2.1, o.2.2.2.2.2.2.2.2.2.2.2.2.2.1, o.2.2.2.2.2.2.2.2.2.2.2.2.2.2.1, o.2.2.2.2.2.2.2.2.2.2.2.2.2.2.2.1, o.2.2.2.2.2.2.2.2.2.2.2.2.2.2.2.2.1, v, o.2.2.2.2.2.2.2.2.2.2.2.2.2.2.2.2.2.2)
def s_regExt (o : Ob) (v : Int32) : Ob := (o.1, o.2.1, o.2.2.1, o.2.2.2.1, o.2.2.2.2.1, o.2.2.2.2.2.1, o.2.2.2.2.2.2.1, o.2.2.2.2.2.2.2.1, o.2.2.2.2.2.2.2.2.1, o.2.2.2.2.2.2.2.2.2.1, o.2.2.2.2.2.2.2.2.2.2.1, o.2.2.2.2.2.2.2.2.2.2.2.1, o.2.2.2.2.2.2.2.2.2.2.2.2.1, o.2.2.2.2.2.2.2.2.2.2.2.2.2.1, o.2.2.2.2.2.2.2.2.2.2.2.2.2.2.1, o.2.2.2.2.2.2.2.2.2.2.2.2.2.2.2.1, o.2.2.2.2.2.2.2.2.2.2.2.2.2.2.2.2.1, o.2.2.2.2.2.2.2.2.2.2.2.2.2.2.2.2.2.1, v)
theorem fs (o : Ob) : f_live o = o.1 ∧ f_used o = o.2.1 ∧ f_freedAt o = o.2.2.1 ∧ f_protoOf o = o.2.2.2.1 ∧ f_hostOf o = o.2.2.2.2.1 ∧ f_iportOf o = o.2.2.2.2.2.1 ∧ f_stateAt o = o.2.2.2.2.2.2.1 ∧ f_deadlineAt o = o.2.2.2.2.2.2.2.1 ∧ f_perm o = o.2.2.2.2.2.2.2.2.1 ∧ f_poolSize o = o.2.2.2.2.2.2.2.2.2.1 ∧ f_udpTimeout o = o.2.2.2.2.2.2.2.2.2.2.1 ∧ f_tcpTimeout o = o.2.2.2.2.2.2.2.2.2.2.2.1 ∧ f_cooldown o = o.2.2.2.2.2.2.2.2.2.2.2.2.1 ∧ f_clock o = o.2.2.2.2.2.2.2.2.2.2.2.2.2.1 ∧ f_remAddr o = o.2.2.2.2.2.2.2.2.2.2.2.2.2.2.1 ∧ f_remPort o = o.2.2.2.2.2.2.2.2.2.2.2.2.2.2.2.1 ∧ f_regHost o = o.2.2.2.2.2.2.2.2.2.2.2.2.2.2.2.2.1 ∧ f_regPort o = o.2.2.2.2.2.2.2.2.2.2.2.2.2.2.2.2.2.1 ∧ f_regExt o = o.2.2.2.2.2.2.2.2.2.2.2.2.2.2.2.2.2.2 := by simp only [f_live, f_used, f_freedAt, f_protoOf, f_hostOf, f_iportOf, f_stateAt, f_deadlineAt, f_perm, f_poolSize, f_udpTimeout, f_tcpTimeout, f_cooldown, f_clock, f_remAddr, f_remPort, f_regHost, f_regPort, f_regExt, and_self]
def ob0 : Ob := ([], [], [], [], [], [], [], [], [], 0, 0, 0, 0, 0, 0, 0, 0, 0, 0)
section Walks
variable {l : Launch} {Z : State} {n0 : Nat} {ad : Nat → Addr} {a0 : Array Value}
set_option maxRecDepth 20000
set_option maxHeartbeats 2000000
abbrev tt : Bool := true
abbrev ff : Bool := false
open QTri renaming steps → zS, brT → zT, brF → zF, bnd → zB, mask → zM
open Option (bind_eq_some_iff)
open Classical (em)
/-- cell([II)I -/
def F1 (s : List Int32) (x1 : Int32) : Option (Int32) :=
 (if x1 < (s.length.toInt32) then (aget s x1).bind fun y2 => some y2 else some (0:Int32))
theorem tF1 (Ad : QAd n0 ad) (W : QW Z a0) (s : List Int32) (x1 : Int32) {r : Int32} (h : F1 s x1 = some r) : QTri l Z n0 ad 1 (0, qentry [.ref 0, .int x1] (pMaxL 1), [], [.inr (.inl (.int, s))]) (some (Value.int r)) [.inr (.inl (.int, s))] := by
 unfold F1 at h
 refine zS Ad W 3 (st' := (3, [vR 0, vI x1], [.int (s.length.toInt32), .int x1], [.inr (.inl (.int, s))])) rfl ?_
 rcases qite h with ⟨hc1, h⟩ | ⟨hc1, h⟩
 ·refine zF Ad W (t := 12) (f := 6) rfl (XT.ii_ge_f hc1) ?_
  refine zS Ad W 2 (st' := (8, [vR 0, vI x1], [.int x1, .ref 0], [.inr (.inl (.int, s))])) rfl ?_
  obtain ⟨y2, hy2, h⟩ := bind_eq_some_iff.mp h
  refine zB Ad W (f := fun y2 => (9, [vR 0, vI x1], [.int y2], [.inr (.inl (.int, s))])) rfl hy2 ?_
  refine zS Ad W 1 (st' := (13, [vR 0, vI x1], [.int y2], [.inr (.inl (.int, s))])) rfl ?_
  obtain rfl := Option.some.inj h
  exact QTri.retI rfl rfl
 ·refine zT Ad W (t := 12) (f := 6) rfl (XT.ii_ge_t hc1) ?_
  refine zS Ad W 1 (st' := (13, [vR 0, vI x1], [.int (0:Int32)], [.inr (.inl (.int, s))])) rfl ?_
  obtain rfl := Option.some.inj h
  exact QTri.retI rfl rfl
def H0 (s : List Int32) (o0 : Ob) : QHeap := [.inr (.inl (.int, s)), .inl [.ref 2, .ref 3, .ref 4, .ref 5, .ref 6, .ref 7, .ref 8, .ref 9, .ref 10, .int (f_poolSize o0), .int (f_udpTimeout o0), .int (f_tcpTimeout o0), .int (f_cooldown o0), .int (f_clock o0), .int (f_remAddr o0), .int (f_remPort o0), .int (f_regHost o0), .int (f_regPort o0), .int (f_regExt o0)], .inr (.inl (.boolean, (f_live o0))), .inr (.inl (.boolean, (f_used o0))), .inr (.inl (.int, (f_freedAt o0))), .inr (.inl (.int, (f_protoOf o0))), .inr (.inl (.int, (f_hostOf o0))), .inr (.inl (.int, (f_iportOf o0))), .inr (.inl (.int, (f_stateAt o0))), .inr (.inl (.int, (f_deadlineAt o0))), .inr (.inr (f_perm o0))]
def H0v (s : List Int32) (a0_0 : List Int32) (a0_1 : List Int32) (a0_2 : List Int32) (a0_3 : List Int32) (a0_4 : List Int32) (a0_5 : List Int32) (a0_6 : List Int32) (a0_7 : List Int32) (a0_8 : List Int64) (a0_9 : Int32) (a0_10 : Int32) (a0_11 : Int32) (a0_12 : Int32) (a0_13 : Int32) (a0_14 : Int32) (a0_15 : Int32) (a0_16 : Int32) (a0_17 : Int32) (a0_18 : Int32) : QHeap := [.inr (.inl (.int, s)), .inl [.ref 2, .ref 3, .ref 4, .ref 5, .ref 6, .ref 7, .ref 8, .ref 9, .ref 10, .int a0_9, .int a0_10, .int a0_11, .int a0_12, .int a0_13, .int a0_14, .int a0_15, .int a0_16, .int a0_17, .int a0_18], .inr (.inl (.boolean, a0_0)), .inr (.inl (.boolean, a0_1)), .inr (.inl (.int, a0_2)), .inr (.inl (.int, a0_3)), .inr (.inl (.int, a0_4)), .inr (.inl (.int, a0_5)), .inr (.inl (.int, a0_6)), .inr (.inl (.int, a0_7)), .inr (.inr a0_8)]
def H0x0 (s : List Int32) (o0 : Ob) (a0_0 : List Int32) (a0_1 : List Int32) (a0_2 : List Int32) (a0_3 : List Int32) (a0_4 : List Int32) (a0_5 : List Int32) (a0_6 : List Int32) (a0_7 : List Int32) (a0_8 : List Int64) : QHeap := H0v s a0_0 a0_1 a0_2 a0_3 a0_4 a0_5 a0_6 a0_7 a0_8 (f_poolSize o0) (f_udpTimeout o0) (f_tcpTimeout o0) (f_cooldown o0) (f_clock o0) (f_remAddr o0) (f_remPort o0) (f_regHost o0) (f_regPort o0) (f_regExt o0)
/-- clamp(III)I -/
def F3 (x1 : Int32) (x2 : Int32) (x3 : Int32) : Option (Int32) :=
 (if x1 < x2 then some x2 else (if x3 < x1 then some x3 else some x1))
theorem tF3 (Ad : QAd n0 ad) (W : QW Z a0) {a : Nat} {σ : QHeap} (x1 : Int32) (x2 : Int32) (x3 : Int32) {r : Int32} (h : F3 x1 x2 x3 = some r) : QTri l Z n0 ad 3 (0, qentry [.ref a, .int x1, .int x2, .int x3] (pMaxL 3), [], σ) (some (Value.int r)) σ := by
 unfold F3 at h
 refine zS Ad W 2 (st' := (2, [vR a, vI x1, vI x2, vI x3], [.int x2, .int x1], σ)) rfl ?_
 rcases qite h with ⟨hc8, h⟩ | ⟨hc8, h⟩
 ·refine zF Ad W (t := 7) (f := 5) rfl (XT.ii_ge_f hc8) ?_
  refine zS Ad W 1 (st' := (6, [vR a, vI x1, vI x2, vI x3], [.int x2], σ)) rfl ?_
  obtain rfl := Option.some.inj h
  exact QTri.retI rfl rfl
 ·refine zT Ad W (t := 7) (f := 5) rfl (XT.ii_ge_t hc8) ?_
  refine zS Ad W 2 (st' := (9, [vR a, vI x1, vI x2, vI x3], [.int x3, .int x1], σ)) rfl ?_
  rcases qite h with ⟨hc9, h⟩ | ⟨hc9, h⟩
  ·refine zF Ad W (t := 14) (f := 12) rfl (XT.ii_le_f hc9) ?_
   refine zS Ad W 1 (st' := (13, [vR a, vI x1, vI x2, vI x3], [.int x3], σ)) rfl ?_
   obtain rfl := Option.some.inj h
   exact QTri.retI rfl rfl
  ·refine zT Ad W (t := 14) (f := 12) rfl (XT.ii_le_t hc9) ?_
   refine zS Ad W 1 (st' := (15, [vR a, vI x1, vI x2, vI x3], [.int x1], σ)) rfl ?_
   obtain rfl := Option.some.inj h
   exact QTri.retI rfl rfl
def H0x1 (s : List Int32) (o0 : Ob) (a0_0 : List Int32) (a0_1 : List Int32) (a0_2 : List Int32) (a0_3 : List Int32) (a0_4 : List Int32) (a0_5 : List Int32) (a0_6 : List Int32) (a0_7 : List Int32) (a0_8 : List Int64) (a0_9 : Int32) : QHeap := H0v s a0_0 a0_1 a0_2 a0_3 a0_4 a0_5 a0_6 a0_7 a0_8 a0_9 (f_udpTimeout o0) (f_tcpTimeout o0) (f_cooldown o0) (f_clock o0) (f_remAddr o0) (f_remPort o0) (f_regHost o0) (f_regPort o0) (f_regExt o0)
def H0x2 (s : List Int32) (o0 : Ob) (a0_0 : List Int32) (a0_1 : List Int32) (a0_2 : List Int32) (a0_3 : List Int32) (a0_4 : List Int32) (a0_5 : List Int32) (a0_6 : List Int32) (a0_7 : List Int32) (a0_8 : List Int64) (a0_9 : Int32) (a0_10 : Int32) : QHeap := H0v s a0_0 a0_1 a0_2 a0_3 a0_4 a0_5 a0_6 a0_7 a0_8 a0_9 a0_10 (f_tcpTimeout o0) (f_cooldown o0) (f_clock o0) (f_remAddr o0) (f_remPort o0) (f_regHost o0) (f_regPort o0) (f_regExt o0)
def H0x3 (s : List Int32) (o0 : Ob) (a0_0 : List Int32) (a0_1 : List Int32) (a0_2 : List Int32) (a0_3 : List Int32) (a0_4 : List Int32) (a0_5 : List Int32) (a0_6 : List Int32) (a0_7 : List Int32) (a0_8 : List Int64) (a0_9 : Int32) (a0_10 : Int32) (a0_11 : Int32) : QHeap := H0v s a0_0 a0_1 a0_2 a0_3 a0_4 a0_5 a0_6 a0_7 a0_8 a0_9 a0_10 a0_11 (f_cooldown o0) (f_clock o0) (f_remAddr o0) (f_remPort o0) (f_regHost o0) (f_regPort o0) (f_regExt o0)
def H0x4 (s : List Int32) (o0 : Ob) (a0_0 : List Int32) (a0_1 : List Int32) (a0_2 : List Int32) (a0_3 : List Int32) (a0_4 : List Int32) (a0_5 : List Int32) (a0_6 : List Int32) (a0_7 : List Int32) (a0_8 : List Int64) (a0_9 : Int32) (a0_10 : Int32) (a0_11 : Int32) (a0_12 : Int32) : QHeap := H0v s a0_0 a0_1 a0_2 a0_3 a0_4 a0_5 a0_6 a0_7 a0_8 a0_9 a0_10 a0_11 a0_12 (f_clock o0) (f_remAddr o0) (f_remPort o0) (f_regHost o0) (f_regPort o0) (f_regExt o0)
def H0x5 (s : List Int32) (o0 : Ob) (a0_0 : List Int32) (a0_1 : List Int32) (a0_2 : List Int32) (a0_3 : List Int32) (a0_4 : List Int32) (a0_5 : List Int32) (a0_6 : List Int32) (a0_7 : List Int32) (a0_8 : List Int64) (a0_9 : Int32) (a0_10 : Int32) (a0_11 : Int32) (a0_12 : Int32) (a0_13 : Int32) : QHeap := H0v s a0_0 a0_1 a0_2 a0_3 a0_4 a0_5 a0_6 a0_7 a0_8 a0_9 a0_10 a0_11 a0_12 a0_13 (f_remAddr o0) (f_remPort o0) (f_regHost o0) (f_regPort o0) (f_regExt o0)
def H0x6 (s : List Int32) (o0 : Ob) (a0_0 : List Int32) (a0_1 : List Int32) (a0_2 : List Int32) (a0_3 : List Int32) (a0_4 : List Int32) (a0_5 : List Int32) (a0_6 : List Int32) (a0_7 : List Int32) (a0_8 : List Int64) (a0_9 : Int32) (a0_10 : Int32) (a0_11 : Int32) (a0_12 : Int32) (a0_13 : Int32) (a0_14 : Int32) : QHeap := H0v s a0_0 a0_1 a0_2 a0_3 a0_4 a0_5 a0_6 a0_7 a0_8 a0_9 a0_10 a0_11 a0_12 a0_13 a0_14 (f_remPort o0) (f_regHost o0) (f_regPort o0) (f_regExt o0)
def H0x7 (s : List Int32) (o0 : Ob) (a0_0 : List Int32) (a0_1 : List Int32) (a0_2 : List Int32) (a0_3 : List Int32) (a0_4 : List Int32) (a0_5 : List Int32) (a0_6 : List Int32) (a0_7 : List Int32) (a0_8 : List Int64) (a0_9 : Int32) (a0_10 : Int32) (a0_11 : Int32) (a0_12 : Int32) (a0_13 : Int32) (a0_14 : Int32) (a0_15 : Int32) : QHeap := H0v s a0_0 a0_1 a0_2 a0_3 a0_4 a0_5 a0_6 a0_7 a0_8 a0_9 a0_10 a0_11 a0_12 a0_13 a0_14 a0_15 (f_regHost o0) (f_regPort o0) (f_regExt o0)
def H0x8 (s : List Int32) (o0 : Ob) (a0_0 : List Int32) (a0_1 : List Int32) (a0_2 : List Int32) (a0_3 : List Int32) (a0_4 : List Int32) (a0_5 : List Int32) (a0_6 : List Int32) (a0_7 : List Int32) (a0_8 : List Int64) (a0_9 : Int32) (a0_10 : Int32) (a0_11 : Int32) (a0_12 : Int32) (a0_13 : Int32) (a0_14 : Int32) (a0_15 : Int32) (a0_16 : Int32) : QHeap := H0v s a0_0 a0_1 a0_2 a0_3 a0_4 a0_5 a0_6 a0_7 a0_8 a0_9 a0_10 a0_11 a0_12 a0_13 a0_14 a0_15 a0_16 (f_regPort o0) (f_regExt o0)
def H0x9 (s : List Int32) (o0 : Ob) (a0_0 : List Int32) (a0_1 : List Int32) (a0_2 : List Int32) (a0_3 : List Int32) (a0_4 : List Int32) (a0_5 : List Int32) (a0_6 : List Int32) (a0_7 : List Int32) (a0_8 : List Int64) (a0_9 : Int32) (a0_10 : Int32) (a0_11 : Int32) (a0_12 : Int32) (a0_13 : Int32) (a0_14 : Int32) (a0_15 : Int32) (a0_16 : Int32) (a0_17 : Int32) : QHeap := H0v s a0_0 a0_1 a0_2 a0_3 a0_4 a0_5 a0_6 a0_7 a0_8 a0_9 a0_10 a0_11 a0_12 a0_13 a0_14 a0_15 a0_16 a0_17 (f_regExt o0)
def H0x10 (s : List Int32) (o0 : Ob) (a0_0 : List Int32) (a0_1 : List Int32) (a0_2 : List Int32) (a0_3 : List Int32) (a0_4 : List Int32) (a0_5 : List Int32) (a0_6 : List Int32) (a0_7 : List Int32) (a0_8 : List Int64) (a0_9 : Int32) (a0_10 : Int32) (a0_11 : Int32) (a0_12 : Int32) (a0_13 : Int32) (a0_14 : Int32) (a0_15 : Int32) (a0_16 : Int32) (a0_17 : Int32) (a0_18 : Int32) : QHeap := H0v s a0_0 a0_1 a0_2 a0_3 a0_4 a0_5 a0_6 a0_7 a0_8 a0_9 a0_10 a0_11 a0_12 a0_13 a0_14 a0_15 a0_16 a0_17 a0_18
/-- init(IIII)V -/
def F2 (x1 : Int32) (x2 : Int32) (x3 : Int32) (x4 : Int32) : Option (Ob) :=
 (F3 x1 (2:Int32) (16:Int32)).bind fun r10 => (F3 x2 (1:Int32) (1000:Int32)).bind fun r11 => (F3 x3 (1:Int32) (1000:Int32)).bind fun r12 => (F3 x4 (0:Int32) (1000:Int32)).bind fun r13 => some (s_regExt (s_regPort (s_regHost (s_remPort (s_remAddr (s_clock (s_cooldown (s_tcpTimeout (s_udpTimeout (s_poolSize (s_perm (s_deadlineAt (s_stateAt (s_iportOf (s_hostOf (s_protoOf (s_freedAt (s_used (s_live ob0 (List.replicate 16 0)) (List.replicate 16 0)) (List.replicate 16 0)) (List.replicate 16 0)) (List.replicate 16 0)) (List.replicate 16 0)) (List.replicate 16 0)) (List.replicate 16 0)) (List.replicate 64 0)) r10) r11) r12) r13) (0:Int32)) (0:Int32)) (0:Int32)) (-1:Int32)) (-1:Int32)) (-1:Int32))
theorem tF2 (Ad : QAd n0 ad) (W : QW Z a0) (s : List Int32) (x1 : Int32) (x2 : Int32) (x3 : Int32) (x4 : Int32) {r : Ob} (h : F2 x1 x2 x3 x4 = some r) : QTri l Z n0 ad 2 (0, qentry [.ref 1, .int x1, .int x2, .int x3, .int x4] (pMaxL 2), [], [.inr (.inl (.int, s)), .inl [.null, .null, .null, .null, .null, .null, .null, .null, .null, .int (f_poolSize ob0), .int (f_udpTimeout ob0), .int (f_tcpTimeout ob0), .int (f_cooldown ob0), .int (f_clock ob0), .int (f_remAddr ob0), .int (f_remPort ob0), .int (f_regHost ob0), .int (f_regPort ob0), .int (f_regExt ob0)]]) (none : Option Value) (H0 s r) := by
 unfold F2 at h
 refine zS Ad W 1 (st' := (1, [vR 1, vI x1, vI x2, vI x3, vI x4], [.ref 1], [.inr (.inl (.int, s)), .inl [.null, .null, .null, .null, .null, .null, .null, .null, .null, .int (f_poolSize ob0), .int (f_udpTimeout ob0), .int (f_tcpTimeout ob0), .int (f_cooldown ob0), .int (f_clock ob0), .int (f_remAddr ob0), .int (f_remPort ob0), .int (f_regHost ob0), .int (f_regPort ob0), .int (f_regExt ob0)]])) rfl ?_
 refine QTri.callO W rfl rfl rfl ?_
 refine zS Ad W 3 (st' := (9, [vR 1, vI x1, vI x2, vI x3, vI x4], [.ref 2, .ref 1], [.inr (.inl (.int, s)), .inl [.null, .null, .null, .null, .null, .null, .null, .null, .null, .int (f_poolSize ob0), .int (f_udpTimeout ob0), .int (f_tcpTimeout ob0), .int (f_cooldown ob0), .int (f_clock ob0), .int (f_remAddr ob0), .int (f_remPort ob0), .int (f_regHost ob0), .int (f_regPort ob0), .int (f_regExt ob0)], .inr (.inl (.boolean, (List.replicate 16 0)))])) rfl ?_
 refine zS Ad W 1 (st' := (12, [vR 1, vI x1, vI x2, vI x3, vI x4], [], [.inr (.inl (.int, s)), .inl [.ref 2, .null, .null, .null, .null, .null, .null, .null, .null, .int (f_poolSize ob0), .int (f_udpTimeout ob0), .int (f_tcpTimeout ob0), .int (f_cooldown ob0), .int (f_clock ob0), .int (f_remAddr ob0), .int (f_remPort ob0), .int (f_regHost ob0), .int (f_regPort ob0), .int (f_regExt ob0)], .inr (.inl (.boolean, (List.replicate 16 0)))])) rfl ?_
 refine zS Ad W 3 (st' := (17, [vR 1, vI x1, vI x2, vI x3, vI x4], [.ref 3, .ref 1], [.inr (.inl (.int, s)), .inl [.ref 2, .null, .null, .null, .null, .null, .null, .null, .null, .int (f_poolSize ob0), .int (f_udpTimeout ob0), .int (f_tcpTimeout ob0), .int (f_cooldown ob0), .int (f_clock ob0), .int (f_remAddr ob0), .int (f_remPort ob0), .int (f_regHost ob0), .int (f_regPort ob0), .int (f_regExt ob0)], .inr (.inl (.boolean, (List.replicate 16 0))), .inr (.inl (.boolean, (List.replicate 16 0)))])) rfl ?_
 refine zS Ad W 1 (st' := (20, [vR 1, vI x1, vI x2, vI x3, vI x4], [], [.inr (.inl (.int, s)), .inl [.ref 2, .ref 3, .null, .null, .null, .null, .null, .null, .null, .int (f_poolSize ob0), .int (f_udpTimeout ob0), .int (f_tcpTimeout ob0), .int (f_cooldown ob0), .int (f_clock ob0), .int (f_remAddr ob0), .int (f_remPort ob0), .int (f_regHost ob0), .int (f_regPort ob0), .int (f_regExt ob0)], .inr (.inl (.boolean, (List.replicate 16 0))), .inr (.inl (.boolean, (List.replicate 16 0)))])) rfl ?_
 refine zS Ad W 3 (st' := (25, [vR 1, vI x1, vI x2, vI x3, vI x4], [.ref 4, .ref 1], [.inr (.inl (.int, s)), .inl [.ref 2, .ref 3, .null, .null, .null, .null, .null, .null, .null, .int (f_poolSize ob0), .int (f_udpTimeout ob0), .int (f_tcpTimeout ob0), .int (f_cooldown ob0), .int (f_clock ob0), .int (f_remAddr ob0), .int (f_remPort ob0), .int (f_regHost ob0), .int (f_regPort ob0), .int (f_regExt ob0)], .inr (.inl (.boolean, (List.replicate 16 0))), .inr (.inl (.boolean, (List.replicate 16 0))), .inr (.inl (.int, (List.replicate 16 0)))])) rfl ?_
 refine zS Ad W 1 (st' := (28, [vR 1, vI x1, vI x2, vI x3, vI x4], [], [.inr (.inl (.int, s)), .inl [.ref 2, .ref 3, .ref 4, .null, .null, .null, .null, .null, .null, .int (f_poolSize ob0), .int (f_udpTimeout ob0), .int (f_tcpTimeout ob0), .int (f_cooldown ob0), .int (f_clock ob0), .int (f_remAddr ob0), .int (f_remPort ob0), .int (f_regHost ob0), .int (f_regPort ob0), .int (f_regExt ob0)], .inr (.inl (.boolean, (List.replicate 16 0))), .inr (.inl (.boolean, (List.replicate 16 0))), .inr (.inl (.int, (List.replicate 16 0)))])) rfl ?_
 refine zS Ad W 3 (st' := (33, [vR 1, vI x1, vI x2, vI x3, vI x4], [.ref 5, .ref 1], [.inr (.inl (.int, s)), .inl [.ref 2, .ref 3, .ref 4, .null, .null, .null, .null, .null, .null, .int (f_poolSize ob0), .int (f_udpTimeout ob0), .int (f_tcpTimeout ob0), .int (f_cooldown ob0), .int (f_clock ob0), .int (f_remAddr ob0), .int (f_remPort ob0), .int (f_regHost ob0), .int (f_regPort ob0), .int (f_regExt ob0)], .inr (.inl (.boolean, (List.replicate 16 0))), .inr (.inl (.boolean, (List.replicate 16 0))), .inr (.inl (.int, (List.replicate 16 0))), .inr (.inl (.int, (List.replicate 16 0)))])) rfl ?_
 refine zS Ad W 1 (st' := (36, [vR 1, vI x1, vI x2, vI x3, vI x4], [], [.inr (.inl (.int, s)), .inl [.ref 2, .ref 3, .ref 4, .ref 5, .null, .null, .null, .null, .null, .int (f_poolSize ob0), .int (f_udpTimeout ob0), .int (f_tcpTimeout ob0), .int (f_cooldown ob0), .int (f_clock ob0), .int (f_remAddr ob0), .int (f_remPort ob0), .int (f_regHost ob0), .int (f_regPort ob0), .int (f_regExt ob0)], .inr (.inl (.boolean, (List.replicate 16 0))), .inr (.inl (.boolean, (List.replicate 16 0))), .inr (.inl (.int, (List.replicate 16 0))), .inr (.inl (.int, (List.replicate 16 0)))])) rfl ?_
 refine zS Ad W 3 (st' := (41, [vR 1, vI x1, vI x2, vI x3, vI x4], [.ref 6, .ref 1], [.inr (.inl (.int, s)), .inl [.ref 2, .ref 3, .ref 4, .ref 5, .null, .null, .null, .null, .null, .int (f_poolSize ob0), .int (f_udpTimeout ob0), .int (f_tcpTimeout ob0), .int (f_cooldown ob0), .int (f_clock ob0), .int (f_remAddr ob0), .int (f_remPort ob0), .int (f_regHost ob0), .int (f_regPort ob0), .int (f_regExt ob0)], .inr (.inl (.boolean, (List.replicate 16 0))), .inr (.inl (.boolean, (List.replicate 16 0))), .inr (.inl (.int, (List.replicate 16 0))), .inr (.inl (.int, (List.replicate 16 0))), .inr (.inl (.int, (List.replicate 16 0)))])) rfl ?_
 refine zS Ad W 1 (st' := (44, [vR 1, vI x1, vI x2, vI x3, vI x4], [], [.inr (.inl (.int, s)), .inl [.ref 2, .ref 3, .ref 4, .ref 5, .ref 6, .null, .null, .null, .null, .int (f_poolSize ob0), .int (f_udpTimeout ob0), .int (f_tcpTimeout ob0), .int (f_cooldown ob0), .int (f_clock ob0), .int (f_remAddr ob0), .int (f_remPort ob0), .int (f_regHost ob0), .int (f_regPort ob0), .int (f_regExt ob0)], .inr (.inl (.boolean, (List.replicate 16 0))), .inr (.inl (.boolean, (List.replicate 16 0))), .inr (.inl (.int, (List.replicate 16 0))), .inr (.inl (.int, (List.replicate 16 0))), .inr (.inl (.int, (List.replicate 16 0)))])) rfl ?_
 refine zS Ad W 3 (st' := (49, [vR 1, vI x1, vI x2, vI x3, vI x4], [.ref 7, .ref 1], [.inr (.inl (.int, s)), .inl [.ref 2, .ref 3, .ref 4, .ref 5, .ref 6, .null, .null, .null, .null, .int (f_poolSize ob0), .int (f_udpTimeout ob0), .int (f_tcpTimeout ob0), .int (f_cooldown ob0), .int (f_clock ob0), .int (f_remAddr ob0), .int (f_remPort ob0), .int (f_regHost ob0), .int (f_regPort ob0), .int (f_regExt ob0)], .inr (.inl (.boolean, (List.replicate 16 0))), .inr (.inl (.boolean, (List.replicate 16 0))), .inr (.inl (.int, (List.replicate 16 0))), .inr (.inl (.int, (List.replicate 16 0))), .inr (.inl (.int, (List.replicate 16 0))), .inr (.inl (.int, (List.replicate 16 0)))])) rfl ?_
 refine zS Ad W 1 (st' := (52, [vR 1, vI x1, vI x2, vI x3, vI x4], [], [.inr (.inl (.int, s)), .inl [.ref 2, .ref 3, .ref 4, .ref 5, .ref 6, .ref 7, .null, .null, .null, .int (f_poolSize ob0), .int (f_udpTimeout ob0), .int (f_tcpTimeout ob0), .int (f_cooldown ob0), .int (f_clock ob0), .int (f_remAddr ob0), .int (f_remPort ob0), .int (f_regHost ob0), .int (f_regPort ob0), .int (f_regExt ob0)], .inr (.inl (.boolean, (List.replicate 16 0))), .inr (.inl (.boolean, (List.replicate 16 0))), .inr (.inl (.int, (List.replicate 16 0))), .inr (.inl (.int, (List.replicate 16 0))), .inr (.inl (.int, (List.replicate 16 0))), .inr (.inl (.int, (List.replicate 16 0)))])) rfl ?_
 refine zS Ad W 3 (st' := (57, [vR 1, vI x1, vI x2, vI x3, vI x4], [.ref 8, .ref 1], [.inr (.inl (.int, s)), .inl [.ref 2, .ref 3, .ref 4, .ref 5, .ref 6, .ref 7, .null, .null, .null, .int (f_poolSize ob0), .int (f_udpTimeout ob0), .int (f_tcpTimeout ob0), .int (f_cooldown ob0), .int (f_clock ob0), .int (f_remAddr ob0), .int (f_remPort ob0), .int (f_regHost ob0), .int (f_regPort ob0), .int (f_regExt ob0)], .inr (.inl (.boolean, (List.replicate 16 0))), .inr (.inl (.boolean, (List.replicate 16 0))), .inr (.inl (.int, (List.replicate 16 0))), .inr (.inl (.int, (List.replicate 16 0))), .inr (.inl (.int, (List.replicate 16 0))), .inr (.inl (.int, (List.replicate 16 0))), .inr (.inl (.int, (List.replicate 16 0)))])) rfl ?_
 refine zS Ad W 1 (st' := (60, [vR 1, vI x1, vI x2, vI x3, vI x4], [], [.inr (.inl (.int, s)), .inl [.ref 2, .ref 3, .ref 4, .ref 5, .ref 6, .ref 7, .ref 8, .null, .null, .int (f_poolSize ob0), .int (f_udpTimeout ob0), .int (f_tcpTimeout ob0), .int (f_cooldown ob0), .int (f_clock ob0), .int (f_remAddr ob0), .int (f_remPort ob0), .int (f_regHost ob0), .int (f_regPort ob0), .int (f_regExt ob0)], .inr (.inl (.boolean, (List.replicate 16 0))), .inr (.inl (.boolean, (List.replicate 16 0))), .inr (.inl (.int, (List.replicate 16 0))), .inr (.inl (.int, (List.replicate 16 0))), .inr (.inl (.int, (List.replicate 16 0))), .inr (.inl (.int, (List.replicate 16 0))), .inr (.inl (.int, (List.replicate 16 0)))])) rfl ?_
 refine zS Ad W 3 (st' := (65, [vR 1, vI x1, vI x2, vI x3, vI x4], [.ref 9, .ref 1], [.inr (.inl (.int, s)), .inl [.ref 2, .ref 3, .ref 4, .ref 5, .ref 6, .ref 7, .ref 8, .null, .null, .int (f_poolSize ob0), .int (f_udpTimeout ob0), .int (f_tcpTimeout ob0), .int (f_cooldown ob0), .int (f_clock ob0), .int (f_remAddr ob0), .int (f_remPort ob0), .int (f_regHost ob0), .int (f_regPort ob0), .int (f_regExt ob0)], .inr (.inl (.boolean, (List.replicate 16 0))), .inr (.inl (.boolean, (List.replicate 16 0))), .inr (.inl (.int, (List.replicate 16 0))), .inr (.inl (.int, (List.replicate 16 0))), .inr (.inl (.int, (List.replicate 16 0))), .inr (.inl (.int, (List.replicate 16 0))), .inr (.inl (.int, (List.replicate 16 0))), .inr (.inl (.int, (List.replicate 16 0)))])) rfl ?_
 refine zS Ad W 1 (st' := (68, [vR 1, vI x1, vI x2, vI x3, vI x4], [], [.inr (.inl (.int, s)), .inl [.ref 2, .ref 3, .ref 4, .ref 5, .ref 6, .ref 7, .ref 8, .ref 9, .null, .int (f_poolSize ob0), .int (f_udpTimeout ob0), .int (f_tcpTimeout ob0), .int (f_cooldown ob0), .int (f_clock ob0), .int (f_remAddr ob0), .int (f_remPort ob0), .int (f_regHost ob0), .int (f_regPort ob0), .int (f_regExt ob0)], .inr (.inl (.boolean, (List.replicate 16 0))), .inr (.inl (.boolean, (List.replicate 16 0))), .inr (.inl (.int, (List.replicate 16 0))), .inr (.inl (.int, (List.replicate 16 0))), .inr (.inl (.int, (List.replicate 16 0))), .inr (.inl (.int, (List.replicate 16 0))), .inr (.inl (.int, (List.replicate 16 0))), .inr (.inl (.int, (List.replicate 16 0)))])) rfl ?_
 refine zS Ad W 3 (st' := (73, [vR 1, vI x1, vI x2, vI x3, vI x4], [.ref 10, .ref 1], [.inr (.inl (.int, s)), .inl [.ref 2, .ref 3, .ref 4, .ref 5, .ref 6, .ref 7, .ref 8, .ref 9, .null, .int (f_poolSize ob0), .int (f_udpTimeout ob0), .int (f_tcpTimeout ob0), .int (f_cooldown ob0), .int (f_clock ob0), .int (f_remAddr ob0), .int (f_remPort ob0), .int (f_regHost ob0), .int (f_regPort ob0), .int (f_regExt ob0)], .inr (.inl (.boolean, (List.replicate 16 0))), .inr (.inl (.boolean, (List.replicate 16 0))), .inr (.inl (.int, (List.replicate 16 0))), .inr (.inl (.int, (List.replicate 16 0))), .inr (.inl (.int, (List.replicate 16 0))), .inr (.inl (.int, (List.replicate 16 0))), .inr (.inl (.int, (List.replicate 16 0))), .inr (.inl (.int, (List.replicate 16 0))), .inr (.inr (List.replicate 64 0))])) rfl ?_
 refine zS Ad W 1 (st' := (76, [vR 1, vI x1, vI x2, vI x3, vI x4], [], (H0x0 s ob0 (List.replicate 16 0) (List.replicate 16 0) (List.replicate 16 0) (List.replicate 16 0) (List.replicate 16 0) (List.replicate 16 0) (List.replicate 16 0) (List.replicate 16 0) (List.replicate 64 0)))) rfl ?_
 refine zS Ad W 5 (st' := (82, [vR 1, vI x1, vI x2, vI x3, vI x4], [.int (16:Int32), .int (2:Int32), .int x1, .ref 1, .ref 1], (H0x0 s ob0 (List.replicate 16 0) (List.replicate 16 0) (List.replicate 16 0) (List.replicate 16 0) (List.replicate 16 0) (List.replicate 16 0) (List.replicate 16 0) (List.replicate 16 0) (List.replicate 64 0)))) rfl ?_
 obtain ⟨r10, hr10, h⟩ := bind_eq_some_iff.mp h
 refine QTri.callP W (a := 1) (as := [.int x1, .int (2:Int32), .int (16:Int32)]) (rest := [.ref 1]) (w := (some (.int r10))) (σ₁ := (H0x0 s ob0 (List.replicate 16 0) (List.replicate 16 0) (List.replicate 16 0) (List.replicate 16 0) (List.replicate 16 0) (List.replicate 16 0) (List.replicate 16 0) (List.replicate 16 0) (List.replicate 64 0))) rfl rfl rfl rfl rfl rfl rfl rfl (tF3 Ad W x1 (2:Int32) (16:Int32) hr10) ?_
 refine zS Ad W 1 (st' := (88, [vR 1, vI x1, vI x2, vI x3, vI x4], [], (H0x1 s ob0 (List.replicate 16 0) (List.replicate 16 0) (List.replicate 16 0) (List.replicate 16 0) (List.replicate 16 0) (List.replicate 16 0) (List.replicate 16 0) (List.replicate 16 0) (List.replicate 64 0) r10))) rfl ?_
 refine zS Ad W 5 (st' := (95, [vR 1, vI x1, vI x2, vI x3, vI x4], [.int (1000:Int32), .int (1:Int32), .int x2, .ref 1, .ref 1], (H0x1 s ob0 (List.replicate 16 0) (List.replicate 16 0) (List.replicate 16 0) (List.replicate 16 0) (List.replicate 16 0) (List.replicate 16 0) (List.replicate 16 0) (List.replicate 16 0) (List.replicate 64 0) r10))) rfl ?_
 obtain ⟨r11, hr11, h⟩ := bind_eq_some_iff.mp h
 refine QTri.callP W (a := 1) (as := [.int x2, .int (1:Int32), .int (1000:Int32)]) (rest := [.ref 1]) (w := (some (.int r11))) (σ₁ := (H0x1 s ob0 (List.replicate 16 0) (List.replicate 16 0) (List.replicate 16 0) (List.replicate 16 0) (List.replicate 16 0) (List.replicate 16 0) (List.replicate 16 0) (List.replicate 16 0) (List.replicate 64 0) r10)) rfl rfl rfl rfl rfl rfl rfl rfl (tF3 Ad W x2 (1:Int32) (1000:Int32) hr11) ?_
 refine zS Ad W 1 (st' := (101, [vR 1, vI x1, vI x2, vI x3, vI x4], [], (H0x2 s ob0 (List.replicate 16 0) (List.replicate 16 0) (List.replicate 16 0) (List.replicate 16 0) (List.replicate 16 0) (List.replicate 16 0) (List.replicate 16 0) (List.replicate 16 0) (List.replicate 64 0) r10 r11))) rfl ?_
 refine zS Ad W 5 (st' := (108, [vR 1, vI x1, vI x2, vI x3, vI x4], [.int (1000:Int32), .int (1:Int32), .int x3, .ref 1, .ref 1], (H0x2 s ob0 (List.replicate 16 0) (List.replicate 16 0) (List.replicate 16 0) (List.replicate 16 0) (List.replicate 16 0) (List.replicate 16 0) (List.replicate 16 0) (List.replicate 16 0) (List.replicate 64 0) r10 r11))) rfl ?_
 obtain ⟨r12, hr12, h⟩ := bind_eq_some_iff.mp h
 refine QTri.callP W (a := 1) (as := [.int x3, .int (1:Int32), .int (1000:Int32)]) (rest := [.ref 1]) (w := (some (.int r12))) (σ₁ := (H0x2 s ob0 (List.replicate 16 0) (List.replicate 16 0) (List.replicate 16 0) (List.replicate 16 0) (List.replicate 16 0) (List.replicate 16 0) (List.replicate 16 0) (List.replicate 16 0) (List.replicate 64 0) r10 r11)) rfl rfl rfl rfl rfl rfl rfl rfl (tF3 Ad W x3 (1:Int32) (1000:Int32) hr12) ?_
 refine zS Ad W 1 (st' := (114, [vR 1, vI x1, vI x2, vI x3, vI x4], [], (H0x3 s ob0 (List.replicate 16 0) (List.replicate 16 0) (List.replicate 16 0) (List.replicate 16 0) (List.replicate 16 0) (List.replicate 16 0) (List.replicate 16 0) (List.replicate 16 0) (List.replicate 64 0) r10 r11 r12))) rfl ?_
 refine zS Ad W 5 (st' := (122, [vR 1, vI x1, vI x2, vI x3, vI x4], [.int (1000:Int32), .int (0:Int32), .int x4, .ref 1, .ref 1], (H0x3 s ob0 (List.replicate 16 0) (List.replicate 16 0) (List.replicate 16 0) (List.replicate 16 0) (List.replicate 16 0) (List.replicate 16 0) (List.replicate 16 0) (List.replicate 16 0) (List.replicate 64 0) r10 r11 r12))) rfl ?_
 obtain ⟨r13, hr13, h⟩ := bind_eq_some_iff.mp h
 refine QTri.callP W (a := 1) (as := [.int x4, .int (0:Int32), .int (1000:Int32)]) (rest := [.ref 1]) (w := (some (.int r13))) (σ₁ := (H0x3 s ob0 (List.replicate 16 0) (List.replicate 16 0) (List.replicate 16 0) (List.replicate 16 0) (List.replicate 16 0) (List.replicate 16 0) (List.replicate 16 0) (List.replicate 16 0) (List.replicate 64 0) r10 r11 r12)) rfl rfl rfl rfl rfl rfl rfl rfl (tF3 Ad W x4 (0:Int32) (1000:Int32) hr13) ?_
 refine zS Ad W 1 (st' := (128, [vR 1, vI x1, vI x2, vI x3, vI x4], [], (H0x4 s ob0 (List.replicate 16 0) (List.replicate 16 0) (List.replicate 16 0) (List.replicate 16 0) (List.replicate 16 0) (List.replicate 16 0) (List.replicate 16 0) (List.replicate 16 0) (List.replicate 64 0) r10 r11 r12 r13))) rfl ?_
 refine zS Ad W 3 (st' := (133, [vR 1, vI x1, vI x2, vI x3, vI x4], [], (H0x5 s ob0 (List.replicate 16 0) (List.replicate 16 0) (List.replicate 16 0) (List.replicate 16 0) (List.replicate 16 0) (List.replicate 16 0) (List.replicate 16 0) (List.replicate 16 0) (List.replicate 64 0) r10 r11 r12 r13 (0:Int32)))) rfl ?_
 refine zS Ad W 3 (st' := (138, [vR 1, vI x1, vI x2, vI x3, vI x4], [], (H0x6 s ob0 (List.replicate 16 0) (List.replicate 16 0) (List.replicate 16 0) (List.replicate 16 0) (List.replicate 16 0) (List.replicate 16 0) (List.replicate 16 0) (List.replicate 16 0) (List.replicate 64 0) r10 r11 r12 r13 (0:Int32) (0:Int32)))) rfl ?_
 refine zS Ad W 3 (st' := (143, [vR 1, vI x1, vI x2, vI x3, vI x4], [], (H0x7 s ob0 (List.replicate 16 0) (List.replicate 16 0) (List.replicate 16 0) (List.replicate 16 0) (List.replicate 16 0) (List.replicate 16 0) (List.replicate 16 0) (List.replicate 16 0) (List.replicate 64 0) r10 r11 r12 r13 (0:Int32) (0:Int32) (0:Int32)))) rfl ?_
 refine zS Ad W 3 (st' := (148, [vR 1, vI x1, vI x2, vI x3, vI x4], [], (H0x8 s ob0 (List.replicate 16 0) (List.replicate 16 0) (List.replicate 16 0) (List.replicate 16 0) (List.replicate 16 0) (List.replicate 16 0) (List.replicate 16 0) (List.replicate 16 0) (List.replicate 64 0) r10 r11 r12 r13 (0:Int32) (0:Int32) (0:Int32) (-1:Int32)))) rfl ?_
 refine zS Ad W 3 (st' := (153, [vR 1, vI x1, vI x2, vI x3, vI x4], [], (H0x9 s ob0 (List.replicate 16 0) (List.replicate 16 0) (List.replicate 16 0) (List.replicate 16 0) (List.replicate 16 0) (List.replicate 16 0) (List.replicate 16 0) (List.replicate 16 0) (List.replicate 64 0) r10 r11 r12 r13 (0:Int32) (0:Int32) (0:Int32) (-1:Int32) (-1:Int32)))) rfl ?_
 refine zS Ad W 3 (st' := (158, [vR 1, vI x1, vI x2, vI x3, vI x4], [], (H0x10 s ob0 (List.replicate 16 0) (List.replicate 16 0) (List.replicate 16 0) (List.replicate 16 0) (List.replicate 16 0) (List.replicate 16 0) (List.replicate 16 0) (List.replicate 16 0) (List.replicate 64 0) r10 r11 r12 r13 (0:Int32) (0:Int32) (0:Int32) (-1:Int32) (-1:Int32) (-1:Int32)))) rfl ?_
 have E14 : ((H0x10 s ob0 (List.replicate 16 0) (List.replicate 16 0) (List.replicate 16 0) (List.replicate 16 0) (List.replicate 16 0) (List.replicate 16 0) (List.replicate 16 0) (List.replicate 16 0) (List.replicate 64 0) r10 r11 r12 r13 (0:Int32) (0:Int32) (0:Int32) (-1:Int32) (-1:Int32) (-1:Int32)) : QHeap) = (H0 s (s_regExt (s_regPort (s_regHost (s_remPort (s_remAddr (s_clock (s_cooldown (s_tcpTimeout (s_udpTimeout (s_poolSize (s_perm (s_deadlineAt (s_stateAt (s_iportOf (s_hostOf (s_protoOf (s_freedAt (s_used (s_live ob0 (List.replicate 16 0)) (List.replicate 16 0)) (List.replicate 16 0)) (List.replicate 16 0)) (List.replicate 16 0)) (List.replicate 16 0)) (List.replicate 16 0)) (List.replicate 16 0)) (List.replicate 64 0)) r10) r11) r12) r13) (0:Int32)) (0:Int32)) (0:Int32)) (-1:Int32)) (-1:Int32)) (-1:Int32))) := by simp only [fs, H0, H0v, H0x10, s_live, s_used, s_freedAt, s_protoOf, s_hostOf, s_iportOf, s_stateAt, s_deadlineAt, s_perm, s_poolSize, s_udpTimeout, s_tcpTimeout, s_cooldown, s_clock, s_remAddr, s_remPort, s_regHost, s_regPort, s_regExt, ob0]
 rw [E14]
 obtain rfl := Option.some.inj h
 exact QTri.ret0 rfl rfl
theorem tF1a1 (Ad : QAd n0 ad) (W : QW Z a0) (e0 : Ob) (s : List Int32) (x1 : Int32) {r : Int32} (h : F1 s x1 = some r) : QTri l Z n0 ad 1 (0, qentry [.ref 0, .int x1] (pMaxL 1), [], (H0 s e0)) (some (Value.int r)) (H0 s e0) := by
 unfold F1 at h
 refine zS Ad W 3 (st' := (3, [vR 0, vI x1], [.int (s.length.toInt32), .int x1], (H0 s e0))) rfl ?_
 rcases qite h with ⟨hc19, h⟩ | ⟨hc19, h⟩
 ·refine zF Ad W (t := 12) (f := 6) rfl (XT.ii_ge_f hc19) ?_
  refine zS Ad W 2 (st' := (8, [vR 0, vI x1], [.int x1, .ref 0], (H0 s e0))) rfl ?_
  obtain ⟨y20, hy20, h⟩ := bind_eq_some_iff.mp h
  refine zB Ad W (f := fun y20 => (9, [vR 0, vI x1], [.int y20], (H0 s e0))) rfl hy20 ?_
  refine zS Ad W 1 (st' := (13, [vR 0, vI x1], [.int y20], (H0 s e0))) rfl ?_
  obtain rfl := Option.some.inj h
  exact QTri.retI rfl rfl
 ·refine zT Ad W (t := 12) (f := 6) rfl (XT.ii_ge_t hc19) ?_
  refine zS Ad W 1 (st' := (13, [vR 0, vI x1], [.int (0:Int32)], (H0 s e0))) rfl ?_
  obtain rfl := Option.some.inj h
  exact QTri.retI rfl rfl
/-- slotOf(I)I -/
def F6 (o : Ob) (x1 : Int32) : Option (Int32) :=
 (if x1 < (5000:Int32) then some (-1:Int32) else (if x1 < ((5000:Int32) + (f_poolSize o)) then some (x1 - (5000:Int32)) else some (-1:Int32)))
theorem tF6 (Ad : QAd n0 ad) (W : QW Z a0) (s : List Int32) (o : Ob) (x1 : Int32) {r : Int32} (h : F6 o x1 = some r) : QTri l Z n0 ad 6 (0, qentry [.ref 1, .int x1] (pMaxL 6), [], (H0 s o)) (some (Value.int r)) (H0 s o) := by
 unfold F6 at h
 refine zS Ad W 2 (st' := (4, [vR 1, vI x1], [.int (5000:Int32), .int x1], (H0 s o))) rfl ?_
 rcases qite h with ⟨hc23, h⟩ | ⟨hc23, h⟩
 ·refine zT Ad W (t := 19) (f := 7) rfl (XT.ii_lt_t hc23) ?_
  refine zS Ad W 1 (st' := (20, [vR 1, vI x1], [.int (-1:Int32)], (H0 s o))) rfl ?_
  obtain rfl := Option.some.inj h
  exact QTri.retI rfl rfl
 ·refine zF Ad W (t := 19) (f := 7) rfl (XT.ii_lt_f hc23) ?_
  refine zS Ad W 5 (st' := (16, [vR 1, vI x1], [.int ((5000:Int32) + (f_poolSize o)), .int x1], (H0 s o))) rfl ?_
  rcases qite h with ⟨hc24, h⟩ | ⟨hc24, h⟩
  ·refine zT Ad W (t := 21) (f := 19) rfl (XT.ii_lt_t hc24) ?_
   refine zS Ad W 3 (st' := (26, [vR 1, vI x1], [.int (x1 - (5000:Int32))], (H0 s o))) rfl ?_
   obtain rfl := Option.some.inj h
   exact QTri.retI rfl rfl
  ·refine zF Ad W (t := 21) (f := 19) rfl (XT.ii_lt_f hc24) ?_
   refine zS Ad W 1 (st' := (20, [vR 1, vI x1], [.int (-1:Int32)], (H0 s o))) rfl ?_
   obtain rfl := Option.some.inj h
   exact QTri.retI rfl rfl
/-- liveAt(I)I -/
def F5 (o : Ob) (x1 : Int32) : Option (Int32) :=
 (F6 o x1).bind fun r25 => (if r25 < (0:Int32) then some (-1:Int32) else (aget (f_live o) r25).bind fun y27 => (if y27 = (0:Int32) then some (-1:Int32) else some r25))
theorem tF5 (Ad : QAd n0 ad) (W : QW Z a0) (s : List Int32) (o : Ob) (x1 : Int32) {r : Int32} (h : F5 o x1 = some r) : QTri l Z n0 ad 5 (0, qentry [.ref 1, .int x1] (pMaxL 5), [], (H0 s o)) (some (Value.int r)) (H0 s o) := by
 unfold F5 at h
 refine zS Ad W 2 (st' := (2, [vR 1, vI x1, none], [.int x1, .ref 1], (H0 s o))) rfl ?_
 obtain ⟨r25, hr25, h⟩ := bind_eq_some_iff.mp h
 refine QTri.callP W (a := 1) (as := [.int x1]) (rest := []) (w := (some (.int r25))) (σ₁ := (H0 s o)) rfl rfl rfl rfl rfl rfl rfl rfl (tF6 Ad W s o x1 hr25) ?_
 refine zS Ad W 2 (st' := (7, [vR 1, vI x1, vI r25], [.int r25], (H0 s o))) rfl ?_
 rcases qite h with ⟨hc26, h⟩ | ⟨hc26, h⟩
 ·refine zT Ad W (t := 19) (f := 10) rfl (XT.i0_lt_t hc26) ?_
  refine zS Ad W 1 (st' := (20, [vR 1, vI x1, vI r25], [.int (-1:Int32)], (H0 s o))) rfl ?_
  obtain rfl := Option.some.inj h
  exact QTri.retI rfl rfl
 ·refine zF Ad W (t := 19) (f := 10) rfl (XT.i0_lt_f hc26) ?_
  refine zS Ad W 3 (st' := (15, [vR 1, vI x1, vI r25], [.int r25, .ref 2], (H0 s o))) rfl ?_
  obtain ⟨y27, hy27, h⟩ := bind_eq_some_iff.mp h
  refine zB Ad W (f := fun y27 => (16, [vR 1, vI x1, vI r25], [.int y27], (H0 s o))) rfl hy27 ?_
  rcases qite h with ⟨hc28, h⟩ | ⟨hc28, h⟩
  ·refine zF Ad W (t := 21) (f := 19) rfl (XT.i0_ne_f hc28) ?_
   refine zS Ad W 1 (st' := (20, [vR 1, vI x1, vI r25], [.int (-1:Int32)], (H0 s o))) rfl ?_
   obtain rfl := Option.some.inj h
   exact QTri.retI rfl rfl
  ·refine zT Ad W (t := 21) (f := 19) rfl (XT.i0_ne_t hc28) ?_
   refine zS Ad W 1 (st' := (22, [vR 1, vI x1, vI r25], [.int r25], (H0 s o))) rfl ?_
   obtain rfl := Option.some.inj h
   exact QTri.retI rfl rfl
/-- insideHostOf(I)I -/
def F4 (o : Ob) (x1 : Int32) : Option (Int32) :=
 (F5 o x1).bind fun r29 => (if r29 < (0:Int32) then some (-1:Int32) else (aget (f_hostOf o) r29).bind fun y31 => some y31)
theorem tF4 (Ad : QAd n0 ad) (W : QW Z a0) (s : List Int32) (o : Ob) (x1 : Int32) {r : Int32} (h : F4 o x1 = some r) : QTri l Z n0 ad 4 (0, qentry [.ref 1, .int x1] (pMaxL 4), [], (H0 s o)) (some (Value.int r)) (H0 s o) := by
 unfold F4 at h
 refine zS Ad W 2 (st' := (2, [vR 1, vI x1, none], [.int x1, .ref 1], (H0 s o))) rfl ?_
 obtain ⟨r29, hr29, h⟩ := bind_eq_some_iff.mp h
 refine QTri.callP W (a := 1) (as := [.int x1]) (rest := []) (w := (some (.int r29))) (σ₁ := (H0 s o)) rfl rfl rfl rfl rfl rfl rfl rfl (tF5 Ad W s o x1 hr29) ?_
 refine zS Ad W 2 (st' := (7, [vR 1, vI x1, vI r29], [.int r29], (H0 s o))) rfl ?_
 rcases qite h with ⟨hc30, h⟩ | ⟨hc30, h⟩
 ·refine zF Ad W (t := 12) (f := 10) rfl (XT.i0_ge_f hc30) ?_
  refine zS Ad W 1 (st' := (11, [vR 1, vI x1, vI r29], [.int (-1:Int32)], (H0 s o))) rfl ?_
  obtain rfl := Option.some.inj h
  exact QTri.retI rfl rfl
 ·refine zT Ad W (t := 12) (f := 10) rfl (XT.i0_ge_t hc30) ?_
  refine zS Ad W 3 (st' := (17, [vR 1, vI x1, vI r29], [.int r29, .ref 6], (H0 s o))) rfl ?_
  obtain ⟨y31, hy31, h⟩ := bind_eq_some_iff.mp h
  refine zB Ad W (f := fun y31 => (18, [vR 1, vI x1, vI r29], [.int y31], (H0 s o))) rfl hy31 ?_
  obtain rfl := Option.some.inj h
  exact QTri.retI rfl rfl
def J0_175 (s : List Int32) (p0 : Ob) (x3 : Int32) (x6 : Int32) (x8 : Int64) (x10 : Int64) (x12 : Int32) (x13 : Int32) (x14 : Int32) (x15 : Int32) (x16 : Int32) (x17 : Int32) (x18 : Int64) (x20 : Int32) : Option (((Int32 × Int64)) ⊕ (Int32 × Int64 × Int32)) :=
  some (.inr (x17, x18, (x20 + (1 : Int32))))
theorem tJ0_175 (Ad : QAd n0 ad) (W : QW Z a0) (s : List Int32) (p0 : Ob) (x3 : Int32) (x6 : Int32) (x8 : Int64) (x10 : Int64) (x12 : Int32) (x13 : Int32) (x14 : Int32) (x15 : Int32) (x16 : Int32) (x17 : Int32) (x18 : Int64) (x20 : Int32) {r : ((Int32 × Int64)) ⊕ (Int32 × Int64 × Int32)} {u : Option Value} {τ : QHeap} (h : J0_175 s p0 x3 x6 x8 x10 x12 x13 x14 x15 x16 x17 x18 x20 = some r) (hx0 : ∀ x : Int32 × Int64, r = .inl x → QTri l Z n0 ad 0 (181, [vR 0, none, none, vI x3, none, none, vI x6, vR 1, vL x8, none, vL x10, none, vI x12, vI x13, vI x14, vI x15, vI x16, vI x.1, vL x.2, none, none, none, none, none, none, none, none, none], [], (H0 s p0)) u τ) (hc : ∀ x : Int32 × Int64 × Int32, r = .inr x → QTri l Z n0 ad 0 (126, [vR 0, none, none, vI x3, none, none, vI x6, vR 1, vL x8, none, vL x10, none, vI x12, vI x13, vI x14, vI x15, vI x16, vI x.1, vL x.2.1, none, vI x.2.2, none, none, none, none, none, none, none], [], (H0 s p0)) u τ) : QTri l Z n0 ad 0 (175, [vR 0, none, none, vI x3, none, none, vI x6, vR 1, vL x8, none, vL x10, none, vI x12, vI x13, vI x14, vI x15, vI x16, vI x17, vL x18, none, vI x20, none, none, none, none, none, none, none], [], (H0 s p0)) u τ := by
 unfold J0_175 at h
 refine zS Ad W 2 (st' := (126, [vR 0, none, none, vI x3, none, none, vI x6, vR 1, vL x8, none, vL x10, none, vI x12, vI x13, vI x14, vI x15, vI x16, vI x17, vL x18, none, vI (x20 + (1:Int32)), none, none, none, none, none, none, none], [], (H0 s p0))) rfl ?_
 obtain rfl := Option.some.inj h
 exact zM [tt,ff,ff,tt,ff,ff,tt,tt,tt,ff,tt,ff,tt,tt,tt,tt,tt,tt,tt,ff,tt,ff,ff,ff,ff,ff,ff,ff] (hc (x17, x18, (x20 + (1:Int32))) rfl)
/-- deadlineOf(I)I -/
def F27 (o : Ob) (x1 : Int32) : Option (Int32) :=
 (F5 o x1).bind fun r34 => (if r34 < (0:Int32) then some (-1:Int32) else (aget (f_deadlineAt o) r34).bind fun y36 => some y36)
theorem tF27 (Ad : QAd n0 ad) (W : QW Z a0) (s : List Int32) (o : Ob) (x1 : Int32) {r : Int32} (h : F27 o x1 = some r) : QTri l Z n0 ad 27 (0, qentry [.ref 1, .int x1] (pMaxL 27), [], (H0 s o)) (some (Value.int r)) (H0 s o) := by
 unfold F27 at h
 refine zS Ad W 2 (st' := (2, [vR 1, vI x1, none], [.int x1, .ref 1], (H0 s o))) rfl ?_
 obtain ⟨r34, hr34, h⟩ := bind_eq_some_iff.mp h
 refine QTri.callP W (a := 1) (as := [.int x1]) (rest := []) (w := (some (.int r34))) (σ₁ := (H0 s o)) rfl rfl rfl rfl rfl rfl rfl rfl (tF5 Ad W s o x1 hr34) ?_
 refine zS Ad W 2 (st' := (7, [vR 1, vI x1, vI r34], [.int r34], (H0 s o))) rfl ?_
 rcases qite h with ⟨hc35, h⟩ | ⟨hc35, h⟩
 ·refine zF Ad W (t := 12) (f := 10) rfl (XT.i0_ge_f hc35) ?_
  refine zS Ad W 1 (st' := (11, [vR 1, vI x1, vI r34], [.int (-1:Int32)], (H0 s o))) rfl ?_
  obtain rfl := Option.some.inj h
  exact QTri.retI rfl rfl
 ·refine zT Ad W (t := 12) (f := 10) rfl (XT.i0_ge_t hc35) ?_
  refine zS Ad W 3 (st' := (17, [vR 1, vI x1, vI r34], [.int r34, .ref 9], (H0 s o))) rfl ?_
  obtain ⟨y36, hy36, h⟩ := bind_eq_some_iff.mp h
  refine zB Ad W (f := fun y36 => (18, [vR 1, vI x1, vI r34], [.int y36], (H0 s o))) rfl hy36 ?_
  obtain rfl := Option.some.inj h
  exact QTri.retI rfl rfl
/-- set16(JII)J -/
def F28 (x0 : Int64) (x2 : Int32) (x3 : Int32) : Option (Int64) :=
 some ((x0 &&& (((65535 : Int64) <<< (((16:Int32) * x2).toInt64 &&& 63)) ^^^ (-1 : Int64))) ||| (((x3.toInt64) &&& (65535 : Int64)) <<< (((16:Int32) * x2).toInt64 &&& 63)))
theorem tF28 (Ad : QAd n0 ad) (W : QW Z a0) {σ : QHeap} (x0 : Int64) (x2 : Int32) (x3 : Int32) {r : Int64} (h : F28 x0 x2 x3 = some r) : QTri l Z n0 ad 28 (0, qentry [.long x0, .int x2, .int x3] (pMaxL 28), [], σ) (some (Value.long r)) σ := by
 unfold F28 at h
 refine zS Ad W 12 (st' := (19, [vL x0, none, vI x2, vI x3, vL ((65535 : Int64) <<< (((16:Int32) * x2).toInt64 &&& 63)), none], [.int x3, .long (x0 &&& (((65535 : Int64) <<< (((16:Int32) * x2).toInt64 &&& 63)) ^^^ (-1 : Int64)))], σ)) rfl ?_
 refine zS Ad W 8 (st' := (30, [vL x0, none, vI x2, vI x3, vL ((65535 : Int64) <<< (((16:Int32) * x2).toInt64 &&& 63)), none], [.long ((x0 &&& (((65535 : Int64) <<< (((16:Int32) * x2).toInt64 &&& 63)) ^^^ (-1 : Int64))) ||| (((x3.toInt64) &&& (65535 : Int64)) <<< (((16:Int32) * x2).toInt64 &&& 63)))], σ)) rfl ?_
 obtain rfl := Option.some.inj h
 exact QTri.retJ rfl rfl
def B0_126 (s : List Int32) (p0 : Ob) (x3 : Int32) (x6 : Int32) (x8 : Int64) (x10 : Int64) (x12 : Int32) (x13 : Int32) (x14 : Int32) (x15 : Int32) (x16 : Int32) (v : Int32 × Int64 × Int32) : Option (((Int32 × Int64)) ⊕ (Int32 × Int64 × Int32)) :=
  (if v.2.2 < x3 then (F4 p0 ((5000 : Int32) + v.2.2)).bind fun r32 => (if r32 < (0 : Int32) then (J0_175 s p0 x3 x6 x8 x10 x12 x13 x14 x15 x16 v.1 v.2.1 v.2.2) else (F27 p0 ((5000 : Int32) + v.2.2)).bind fun r37 => (F28 v.2.1 v.2.2 r37).bind fun r38 => (J0_175 s p0 x3 x6 x8 x10 x12 x13 x14 x15 x16 (v.1 ||| ((1 : Int32) <<< (v.2.2 &&& 31))) r38 v.2.2)) else some (.inl (v.1, v.2.1)))
theorem tB0_126 (Ad : QAd n0 ad) (W : QW Z a0) (s : List Int32) (p0 : Ob) (x3 : Int32) (x6 : Int32) (x8 : Int64) (x10 : Int64) (x12 : Int32) (x13 : Int32) (x14 : Int32) (x15 : Int32) (x16 : Int32) (v : Int32 × Int64 × Int32) {r : ((Int32 × Int64)) ⊕ (Int32 × Int64 × Int32)} {u : Option Value} {τ : QHeap} (h : B0_126 s p0 x3 x6 x8 x10 x12 x13 x14 x15 x16 v = some r) (hx0 : ∀ x : Int32 × Int64, r = .inl x → QTri l Z n0 ad 0 (181, [vR 0, none, none, vI x3, none, none, vI x6, vR 1, vL x8, none, vL x10, none, vI x12, vI x13, vI x14, vI x15, vI x16, vI x.1, vL x.2, none, none, none, none, none, none, none, none, none], [], (H0 s p0)) u τ) (hc : ∀ x : Int32 × Int64 × Int32, r = .inr x → QTri l Z n0 ad 0 (126, [vR 0, none, none, vI x3, none, none, vI x6, vR 1, vL x8, none, vL x10, none, vI x12, vI x13, vI x14, vI x15, vI x16, vI x.1, vL x.2.1, none, vI x.2.2, none, none, none, none, none, none, none], [], (H0 s p0)) u τ) : QTri l Z n0 ad 0 (126, [vR 0, none, none, vI x3, none, none, vI x6, vR 1, vL x8, none, vL x10, none, vI x12, vI x13, vI x14, vI x15, vI x16, vI v.1, vL v.2.1, none, vI v.2.2, none, none, none, none, none, none, none], [], (H0 s p0)) u τ := by
 unfold B0_126 at h
 refine zS Ad W 2 (st' := (129, [vR 0, none, none, vI x3, none, none, vI x6, vR 1, vL x8, none, vL x10, none, vI x12, vI x13, vI x14, vI x15, vI x16, vI v.1, vL v.2.1, none, vI v.2.2, none, none, none, none, none, none, none], [.int x3, .int v.2.2], (H0 s p0))) rfl ?_
 rcases qite h with ⟨hc22, h⟩ | ⟨hc22, h⟩
 ·refine zF Ad W (t := 181) (f := 132) rfl (XT.ii_ge_f hc22) ?_
  refine zS Ad W 6 (st' := (144, [vR 0, none, none, vI x3, none, none, vI x6, vR 1, vL x8, none, vL x10, none, vI x12, vI x13, vI x14, vI x15, vI x16, vI v.1, vL v.2.1, none, vI v.2.2, vI ((5000:Int32) + v.2.2), none, none, none, none, none, none], [.int ((5000:Int32) + v.2.2), .ref 1], (H0 s p0))) rfl ?_
  obtain ⟨r32, hr32, h⟩ := bind_eq_some_iff.mp h
  refine QTri.callV W (a := 1) (as := [.int ((5000:Int32) + v.2.2)]) (rest := []) (w := (some (.int r32))) (σ₁ := (H0 s p0)) rfl rfl rfl rfl rfl rfl rfl rfl (tF4 Ad W s p0 ((5000:Int32) + v.2.2) hr32) ?_
  rcases qite h with ⟨hc33, h⟩ | ⟨hc33, h⟩
  ·refine zT Ad W (t := 175) (f := 150) rfl (XT.i0_lt_t hc33) ?_
   exact zM [tt,ff,ff,tt,ff,ff,tt,tt,tt,ff,tt,ff,tt,tt,tt,tt,tt,tt,tt,ff,tt,ff,ff,ff,ff,ff,ff,ff] (tJ0_175 Ad W s p0 x3 x6 x8 x10 x12 x13 x14 x15 x16 v.1 v.2.1 v.2.2 h hx0 hc)
  ·refine zF Ad W (t := 175) (f := 150) rfl (XT.i0_lt_f hc33) ?_
   refine zS Ad W 10 (st' := (167, [vR 0, none, none, vI x3, none, none, vI x6, vR 1, vL x8, none, vL x10, none, vI x12, vI x13, vI x14, vI x15, vI x16, vI (v.1 ||| ((1:Int32) <<< (v.2.2 &&& 31))), vL v.2.1, none, vI v.2.2, vI ((5000:Int32) + v.2.2), none, none, none, none, none, none], [.int ((5000:Int32) + v.2.2), .ref 1, .int v.2.2, .long v.2.1], (H0 s p0))) rfl ?_
   obtain ⟨r37, hr37, h⟩ := bind_eq_some_iff.mp h
   refine QTri.callV W (a := 1) (as := [.int ((5000:Int32) + v.2.2)]) (rest := [.int v.2.2, .long v.2.1]) (w := (some (.int r37))) (σ₁ := (H0 s p0)) rfl rfl rfl rfl rfl rfl rfl rfl (tF27 Ad W s p0 ((5000:Int32) + v.2.2) hr37) ?_
   obtain ⟨r38, hr38, h⟩ := bind_eq_some_iff.mp h
   refine QTri.callS W (as := [.long v.2.1, .int v.2.2, .int r37]) (rest := []) (w := (some (.long r38))) (σ₁ := (H0 s p0)) rfl rfl rfl rfl rfl rfl rfl (tF28 Ad W v.2.1 v.2.2 r37 hr38) ?_
   refine zS Ad W 1 (st' := (175, [vR 0, none, none, vI x3, none, none, vI x6, vR 1, vL x8, none, vL x10, none, vI x12, vI x13, vI x14, vI x15, vI x16, vI (v.1 ||| ((1:Int32) <<< (v.2.2 &&& 31))), vL r38, none, vI v.2.2, vI ((5000:Int32) + v.2.2), none, none, none, none, none, none], [], (H0 s p0))) rfl ?_
   exact zM [tt,ff,ff,tt,ff,ff,tt,tt,tt,ff,tt,ff,tt,tt,tt,tt,tt,tt,tt,ff,tt,ff,ff,ff,ff,ff,ff,ff] (tJ0_175 Ad W s p0 x3 x6 x8 x10 x12 x13 x14 x15 x16 (v.1 ||| ((1:Int32) <<< (v.2.2 &&& 31))) r38 v.2.2 h hx0 hc)
 ·refine zT Ad W (t := 181) (f := 132) rfl (XT.ii_ge_t hc22) ?_
  obtain rfl := Option.some.inj h
  exact zM [tt,ff,ff,tt,ff,ff,tt,tt,tt,ff,tt,ff,tt,tt,tt,tt,tt,tt,tt,ff,ff,ff,ff,ff,ff,ff,ff,ff] (hx0 (v.1, v.2.1) rfl)
def H0x11 (s : List Int32) (o0 : Ob) (a0_14 : Int32) : QHeap := H0v s (f_live o0) (f_used o0) (f_freedAt o0) (f_protoOf o0) (f_hostOf o0) (f_iportOf o0) (f_stateAt o0) (f_deadlineAt o0) (f_perm o0) (f_poolSize o0) (f_udpTimeout o0) (f_tcpTimeout o0) (f_cooldown o0) (f_clock o0) a0_14 (f_remPort o0) (f_regHost o0) (f_regPort o0) (f_regExt o0)
def H0x12 (s : List Int32) (o0 : Ob) (a0_14 : Int32) (a0_15 : Int32) : QHeap := H0v s (f_live o0) (f_used o0) (f_freedAt o0) (f_protoOf o0) (f_hostOf o0) (f_iportOf o0) (f_stateAt o0) (f_deadlineAt o0) (f_perm o0) (f_poolSize o0) (f_udpTimeout o0) (f_tcpTimeout o0) (f_cooldown o0) (f_clock o0) a0_14 a0_15 (f_regHost o0) (f_regPort o0) (f_regExt o0)
/-- setRemote(II)Z -/
def F14 (o : Ob) (x1 : Int32) (x2 : Int32) : Option (Int32 × Ob) :=
 (if x1 < (1:Int32) then some ((0:Int32), o) else (if (255:Int32) < x1 then some ((0:Int32), o) else (if x2 < (1:Int32) then some ((0:Int32), o) else (if (65535:Int32) < x2 then some ((0:Int32), o) else some ((1:Int32), (s_remPort (s_remAddr o x1) x2))))))
theorem tF14 (Ad : QAd n0 ad) (W : QW Z a0) (s : List Int32) (o : Ob) (x1 : Int32) (x2 : Int32) {r : Int32 × Ob} (h : F14 o x1 x2 = some r) : QTri l Z n0 ad 14 (0, qentry [.ref 1, .int x1, .int x2] (pMaxL 14), [], (H0 s o)) (some (Value.int r.1)) (H0 s r.2) := by
 unfold F14 at h
 refine zS Ad W 2 (st' := (2, [vR 1, vI x1, vI x2], [.int (1:Int32), .int x1], (H0 s o))) rfl ?_
 rcases qite h with ⟨hc45, h⟩ | ⟨hc45, h⟩
 ·refine zT Ad W (t := 23) (f := 5) rfl (XT.ii_lt_t hc45) ?_
  refine zS Ad W 1 (st' := (24, [vR 1, vI x1, vI x2], [.int (0:Int32)], (H0 s o))) rfl ?_
  obtain rfl := Option.some.inj h
  exact QTri.retZ rfl rfl
 ·refine zF Ad W (t := 23) (f := 5) rfl (XT.ii_lt_f hc45) ?_
  refine zS Ad W 2 (st' := (9, [vR 1, vI x1, vI x2], [.int (255:Int32), .int x1], (H0 s o))) rfl ?_
  rcases qite h with ⟨hc46, h⟩ | ⟨hc46, h⟩
  ·refine zT Ad W (t := 23) (f := 12) rfl (XT.ii_gt_t hc46) ?_
   refine zS Ad W 1 (st' := (24, [vR 1, vI x1, vI x2], [.int (0:Int32)], (H0 s o))) rfl ?_
   obtain rfl := Option.some.inj h
   exact QTri.retZ rfl rfl
  ·refine zF Ad W (t := 23) (f := 12) rfl (XT.ii_gt_f hc46) ?_
   refine zS Ad W 2 (st' := (14, [vR 1, vI x1, vI x2], [.int (1:Int32), .int x2], (H0 s o))) rfl ?_
   rcases qite h with ⟨hc47, h⟩ | ⟨hc47, h⟩
   ·refine zT Ad W (t := 23) (f := 17) rfl (XT.ii_lt_t hc47) ?_
    refine zS Ad W 1 (st' := (24, [vR 1, vI x1, vI x2], [.int (0:Int32)], (H0 s o))) rfl ?_
    obtain rfl := Option.some.inj h
    exact QTri.retZ rfl rfl
   ·refine zF Ad W (t := 23) (f := 17) rfl (XT.ii_lt_f hc47) ?_
    refine zS Ad W 2 (st' := (20, [vR 1, vI x1, vI x2], [.int (65535:Int32), .int x2], (H0 s o))) rfl ?_
    rcases qite h with ⟨hc48, h⟩ | ⟨hc48, h⟩
    ·refine zF Ad W (t := 25) (f := 23) rfl (XT.ii_le_f hc48) ?_
     refine zS Ad W 1 (st' := (24, [vR 1, vI x1, vI x2], [.int (0:Int32)], (H0 s o))) rfl ?_
     obtain rfl := Option.some.inj h
     exact QTri.retZ rfl rfl
    ·refine zT Ad W (t := 25) (f := 23) rfl (XT.ii_le_t hc48) ?_
     refine zS Ad W 3 (st' := (30, [vR 1, vI x1, vI x2], [], (H0x11 s o x1))) rfl ?_
     refine zS Ad W 3 (st' := (35, [vR 1, vI x1, vI x2], [], (H0x12 s o x1 x2))) rfl ?_
     refine zS Ad W 1 (st' := (36, [vR 1, vI x1, vI x2], [.int (1:Int32)], (H0x12 s o x1 x2))) rfl ?_
     have E49 : ((H0x12 s o x1 x2) : QHeap) = (H0 s (s_remPort (s_remAddr o x1) x2)) := by simp only [fs, H0, H0v, H0x12, s_remAddr, s_remPort]
     rw [E49]
     obtain rfl := Option.some.inj h
     exact QTri.retZ rfl rfl
/-- now()I -/
def F11 (o : Ob) : Option (Int32) :=
 some (f_clock o)
theorem tF11 (Ad : QAd n0 ad) (W : QW Z a0) (s : List Int32) (o : Ob) {r : Int32} (h : F11 o = some r) : QTri l Z n0 ad 11 (0, qentry [.ref 1] (pMaxL 11), [], (H0 s o)) (some (Value.int r)) (H0 s o) := by
 unfold F11 at h
 refine zS Ad W 2 (st' := (4, [vR 1], [.int (f_clock o)], (H0 s o))) rfl ?_
 obtain rfl := Option.some.inj h
 exact QTri.retI rfl rfl
def J0_686 (s : List Int32) (p0 : Ob) (x3 : Int32) (x6 : Int32) (x8 : Int64) (x10 : Int64) (x12 : Int32) (x13 : Int32) (x16 : Int32) (x17 : Int32) (x18 : Int64) (x20 : Int32) (x21 : Int32) : Option (((Int64 × Int64)) ⊕ (Int64 × Int64 × Int32)) :=
  some (.inr (x8, x10, (x21 + (1 : Int32))))
theorem tJ0_686 (Ad : QAd n0 ad) (W : QW Z a0) (s : List Int32) (p0 : Ob) (x3 : Int32) (x6 : Int32) (x8 : Int64) (x10 : Int64) (x12 : Int32) (x13 : Int32) (x16 : Int32) (x17 : Int32) (x18 : Int64) (x20 : Int32) (x21 : Int32) {r : ((Int64 × Int64)) ⊕ (Int64 × Int64 × Int32)} {u : Option Value} {τ : QHeap} (h : J0_686 s p0 x3 x6 x8 x10 x12 x13 x16 x17 x18 x20 x21 = some r) (hx0 : ∀ x : Int64 × Int64, r = .inl x → QTri l Z n0 ad 0 (692, [vR 0, none, none, vI x3, none, none, vI x6, vR 1, vL x.1, none, vL x.2, none, vI x12, vI x13, none, none, none, none, none, none, none, none, none, none, none, none, none, none], [], (H0 s p0)) u τ) (hc : ∀ x : Int64 × Int64 × Int32, r = .inr x → QTri l Z n0 ad 0 (612, [vR 0, none, none, vI x3, none, none, vI x6, vR 1, vL x.1, none, vL x.2.1, none, vI x12, vI x13, none, none, vI x16, vI x17, vL x18, none, vI x20, vI x.2.2, none, none, none, none, none, none], [], (H0 s p0)) u τ) : QTri l Z n0 ad 0 (686, [vR 0, none, none, vI x3, none, none, vI x6, vR 1, vL x8, none, vL x10, none, vI x12, vI x13, none, none, vI x16, vI x17, vL x18, none, vI x20, vI x21, none, none, none, none, none, none], [], (H0 s p0)) u τ := by
 unfold J0_686 at h
 refine zS Ad W 2 (st' := (612, [vR 0, none, none, vI x3, none, none, vI x6, vR 1, vL x8, none, vL x10, none, vI x12, vI x13, none, none, vI x16, vI x17, vL x18, none, vI x20, vI (x21 + (1:Int32)), none, none, none, none, none, none], [], (H0 s p0))) rfl ?_
 obtain rfl := Option.some.inj h
 exact zM [tt,ff,ff,tt,ff,ff,tt,tt,tt,ff,tt,ff,tt,tt,ff,ff,tt,tt,tt,ff,tt,tt,ff,ff,ff,ff,ff,ff] (hc (x8, x10, (x21 + (1:Int32))) rfl)
/-- set8(JII)J -/
def F24 (x0 : Int64) (x2 : Int32) (x3 : Int32) : Option (Int64) :=
 some ((x0 &&& (((255 : Int64) <<< (((8:Int32) * x2).toInt64 &&& 63)) ^^^ (-1 : Int64))) ||| (((x3.toInt64) &&& (255 : Int64)) <<< (((8:Int32) * x2).toInt64 &&& 63)))
theorem tF24 (Ad : QAd n0 ad) (W : QW Z a0) {σ : QHeap} (x0 : Int64) (x2 : Int32) (x3 : Int32) {r : Int64} (h : F24 x0 x2 x3 = some r) : QTri l Z n0 ad 24 (0, qentry [.long x0, .int x2, .int x3] (pMaxL 24), [], σ) (some (Value.long r)) σ := by
 unfold F24 at h
 refine zS Ad W 12 (st' := (19, [vL x0, none, vI x2, vI x3, vL ((255 : Int64) <<< (((8:Int32) * x2).toInt64 &&& 63)), none], [.int x3, .long (x0 &&& (((255 : Int64) <<< (((8:Int32) * x2).toInt64 &&& 63)) ^^^ (-1 : Int64)))], σ)) rfl ?_
 refine zS Ad W 8 (st' := (30, [vL x0, none, vI x2, vI x3, vL ((255 : Int64) <<< (((8:Int32) * x2).toInt64 &&& 63)), none], [.long ((x0 &&& (((255 : Int64) <<< (((8:Int32) * x2).toInt64 &&& 63)) ^^^ (-1 : Int64))) ||| (((x3.toInt64) &&& (255 : Int64)) <<< (((8:Int32) * x2).toInt64 &&& 63)))], σ)) rfl ?_
 obtain rfl := Option.some.inj h
 exact QTri.retJ rfl rfl
/-- get16(JI)I -/
def F23 (x0 : Int64) (x2 : Int32) : Option (Int32) :=
 some (((XT.ushrL x0 ((16:Int32) * x2)) &&& (65535 : Int64)).toInt32)
theorem tF23 (Ad : QAd n0 ad) (W : QW Z a0) {σ : QHeap} (x0 : Int64) (x2 : Int32) {r : Int32} (h : F23 x0 x2 = some r) : QTri l Z n0 ad 23 (0, qentry [.long x0, .int x2] (pMaxL 23), [], σ) (some (Value.int r)) σ := by
 unfold F23 at h
 refine zS Ad W 8 (st' := (11, [vL x0, none, vI x2], [.int (((XT.ushrL x0 ((16:Int32) * x2)) &&& (65535 : Int64)).toInt32)], σ)) rfl ?_
 obtain rfl := Option.some.inj h
 exact QTri.retI rfl rfl
def J0_670 (s : List Int32) (p0 : Ob) (x3 : Int32) (x6 : Int32) (x8 : Int64) (x10 : Int64) (x12 : Int32) (x13 : Int32) (x16 : Int32) (x17 : Int32) (x18 : Int64) (x20 : Int32) (x21 : Int32) (w0 : Int32) : Option (((Int64 × Int64)) ⊕ (Int64 × Int64 × Int32)) :=
  (F28 x10 x21 (w0 + x6)).bind fun r62 => (J0_686 s p0 x3 x6 x8 r62 x12 x13 x16 x17 x18 x20 x21)
theorem tJ0_670 (Ad : QAd n0 ad) (W : QW Z a0) (s : List Int32) (p0 : Ob) (x3 : Int32) (x6 : Int32) (x8 : Int64) (x10 : Int64) (x12 : Int32) (x13 : Int32) (x16 : Int32) (x17 : Int32) (x18 : Int64) (x20 : Int32) (x21 : Int32) (w0 : Int32) {r : ((Int64 × Int64)) ⊕ (Int64 × Int64 × Int32)} {u : Option Value} {τ : QHeap} (h : J0_670 s p0 x3 x6 x8 x10 x12 x13 x16 x17 x18 x20 x21 w0 = some r) (hx0 : ∀ x : Int64 × Int64, r = .inl x → QTri l Z n0 ad 0 (692, [vR 0, none, none, vI x3, none, none, vI x6, vR 1, vL x.1, none, vL x.2, none, vI x12, vI x13, none, none, none, none, none, none, none, none, none, none, none, none, none, none], [], (H0 s p0)) u τ) (hc : ∀ x : Int64 × Int64 × Int32, r = .inr x → QTri l Z n0 ad 0 (612, [vR 0, none, none, vI x3, none, none, vI x6, vR 1, vL x.1, none, vL x.2.1, none, vI x12, vI x13, none, none, vI x16, vI x17, vL x18, none, vI x20, vI x.2.2, none, none, none, none, none, none], [], (H0 s p0)) u τ) : QTri l Z n0 ad 0 (670, [vR 0, none, none, vI x3, none, none, vI x6, vR 1, vL x8, none, vL x10, none, vI x12, vI x13, none, none, vI x16, vI x17, vL x18, none, vI x20, vI x21, none, none, none, none, none, none], [.int w0], (H0 s p0)) u τ := by
 unfold J0_670 at h
 refine zS Ad W 6 (st' := (681, [vR 0, none, none, vI x3, none, none, vI x6, vR 1, vL x8, none, vL x10, none, vI x12, vI x13, none, none, vI x16, vI x17, vL x18, none, vI x20, vI x21, vI w0, none, none, none, none, none], [.int (w0 + x6), .int x21, .long x10], (H0 s p0))) rfl ?_
 obtain ⟨r62, hr62, h⟩ := bind_eq_some_iff.mp h
 refine QTri.callS W (as := [.long x10, .int x21, .int (w0 + x6)]) (rest := []) (w := (some (.long r62))) (σ₁ := (H0 s p0)) rfl rfl rfl rfl rfl rfl rfl (tF28 Ad W x10 x21 (w0 + x6) hr62) ?_
 refine zS Ad W 1 (st' := (686, [vR 0, none, none, vI x3, none, none, vI x6, vR 1, vL x8, none, vL r62, none, vI x12, vI x13, none, none, vI x16, vI x17, vL x18, none, vI x20, vI x21, vI w0, none, none, none, none, none], [], (H0 s p0))) rfl ?_
 exact zM [tt,ff,ff,tt,ff,ff,tt,tt,tt,ff,tt,ff,tt,tt,ff,ff,tt,tt,tt,ff,tt,tt,ff,ff,ff,ff,ff,ff] (tJ0_686 Ad W s p0 x3 x6 x8 r62 x12 x13 x16 x17 x18 x20 x21 h hx0 hc)
def B0_612 (s : List Int32) (p0 : Ob) (x3 : Int32) (x6 : Int32) (x12 : Int32) (x13 : Int32) (x16 : Int32) (x17 : Int32) (x18 : Int64) (x20 : Int32) (v : Int64 × Int64 × Int32) : Option (((Int64 × Int64)) ⊕ (Int64 × Int64 × Int32)) :=
  (if v.2.2 < x3 then (if ((XT.ushr x17 v.2.2) &&& (1 : Int32)) = (0 : Int32) then (J0_686 s p0 x3 x6 v.1 v.2.1 x12 x13 x16 x17 x18 x20 v.2.2) else (F4 p0 ((5000 : Int32) + v.2.2)).bind fun r57 => (if r57 < (0 : Int32) then (F24 v.1 v.2.2 (0 : Int32)).bind fun r59 => (if x16 = (3 : Int32) then (F23 x18 v.2.2).bind fun r61 => (J0_670 s p0 x3 x6 r59 v.2.1 x12 x13 x16 x17 x18 x20 v.2.2 r61) else (J0_670 s p0 x3 x6 r59 v.2.1 x12 x13 x16 x17 x18 x20 v.2.2 x20)) else (J0_686 s p0 x3 x6 v.1 v.2.1 x12 x13 x16 x17 x18 x20 v.2.2))) else some (.inl (v.1, v.2.1)))
theorem tB0_612 (Ad : QAd n0 ad) (W : QW Z a0) (s : List Int32) (p0 : Ob) (x3 : Int32) (x6 : Int32) (x12 : Int32) (x13 : Int32) (x16 : Int32) (x17 : Int32) (x18 : Int64) (x20 : Int32) (v : Int64 × Int64 × Int32) {r : ((Int64 × Int64)) ⊕ (Int64 × Int64 × Int32)} {u : Option Value} {τ : QHeap} (h : B0_612 s p0 x3 x6 x12 x13 x16 x17 x18 x20 v = some r) (hx0 : ∀ x : Int64 × Int64, r = .inl x → QTri l Z n0 ad 0 (692, [vR 0, none, none, vI x3, none, none, vI x6, vR 1, vL x.1, none, vL x.2, none, vI x12, vI x13, none, none, none, none, none, none, none, none, none, none, none, none, none, none], [], (H0 s p0)) u τ) (hc : ∀ x : Int64 × Int64 × Int32, r = .inr x → QTri l Z n0 ad 0 (612, [vR 0, none, none, vI x3, none, none, vI x6, vR 1, vL x.1, none, vL x.2.1, none, vI x12, vI x13, none, none, vI x16, vI x17, vL x18, none, vI x20, vI x.2.2, none, none, none, none, none, none], [], (H0 s p0)) u τ) : QTri l Z n0 ad 0 (612, [vR 0, none, none, vI x3, none, none, vI x6, vR 1, vL v.1, none, vL v.2.1, none, vI x12, vI x13, none, none, vI x16, vI x17, vL x18, none, vI x20, vI v.2.2, none, none, none, none, none, none], [], (H0 s p0)) u τ := by
 unfold B0_612 at h
 refine zS Ad W 2 (st' := (615, [vR 0, none, none, vI x3, none, none, vI x6, vR 1, vL v.1, none, vL v.2.1, none, vI x12, vI x13, none, none, vI x16, vI x17, vL x18, none, vI x20, vI v.2.2, none, none, none, none, none, none], [.int x3, .int v.2.2], (H0 s p0))) rfl ?_
 rcases qite h with ⟨hc55, h⟩ | ⟨hc55, h⟩
 ·refine zF Ad W (t := 692) (f := 618) rfl (XT.ii_ge_f hc55) ?_
  refine zS Ad W 5 (st' := (625, [vR 0, none, none, vI x3, none, none, vI x6, vR 1, vL v.1, none, vL v.2.1, none, vI x12, vI x13, none, none, vI x16, vI x17, vL x18, none, vI x20, vI v.2.2, none, none, none, none, none, none], [.int ((XT.ushr x17 v.2.2) &&& (1:Int32))], (H0 s p0))) rfl ?_
  rcases qite h with ⟨hc56, h⟩ | ⟨hc56, h⟩
  ·refine zT Ad W (t := 686) (f := 628) rfl (XT.i0_eq_t hc56) ?_
   exact zM [tt,ff,ff,tt,ff,ff,tt,tt,tt,ff,tt,ff,tt,tt,ff,ff,tt,tt,tt,ff,tt,tt,ff,ff,ff,ff,ff,ff] (tJ0_686 Ad W s p0 x3 x6 v.1 v.2.1 x12 x13 x16 x17 x18 x20 v.2.2 h hx0 hc)
  ·refine zF Ad W (t := 686) (f := 628) rfl (XT.i0_eq_f hc56) ?_
   refine zS Ad W 4 (st' := (636, [vR 0, none, none, vI x3, none, none, vI x6, vR 1, vL v.1, none, vL v.2.1, none, vI x12, vI x13, none, none, vI x16, vI x17, vL x18, none, vI x20, vI v.2.2, none, none, none, none, none, none], [.int ((5000:Int32) + v.2.2), .ref 1], (H0 s p0))) rfl ?_
   obtain ⟨r57, hr57, h⟩ := bind_eq_some_iff.mp h
   refine QTri.callV W (a := 1) (as := [.int ((5000:Int32) + v.2.2)]) (rest := []) (w := (some (.int r57))) (σ₁ := (H0 s p0)) rfl rfl rfl rfl rfl rfl rfl rfl (tF4 Ad W s p0 ((5000:Int32) + v.2.2) hr57) ?_
   rcases qite h with ⟨hc58, h⟩ | ⟨hc58, h⟩
   ·refine zF Ad W (t := 686) (f := 642) rfl (XT.i0_ge_f hc58) ?_
    refine zS Ad W 3 (st' := (647, [vR 0, none, none, vI x3, none, none, vI x6, vR 1, vL v.1, none, vL v.2.1, none, vI x12, vI x13, none, none, vI x16, vI x17, vL x18, none, vI x20, vI v.2.2, none, none, none, none, none, none], [.int (0:Int32), .int v.2.2, .long v.1], (H0 s p0))) rfl ?_
    obtain ⟨r59, hr59, h⟩ := bind_eq_some_iff.mp h
    refine QTri.callS W (as := [.long v.1, .int v.2.2, .int (0:Int32)]) (rest := []) (w := (some (.long r59))) (σ₁ := (H0 s p0)) rfl rfl rfl rfl rfl rfl rfl (tF24 Ad W v.1 v.2.2 (0:Int32) hr59) ?_
    refine zS Ad W 3 (st' := (655, [vR 0, none, none, vI x3, none, none, vI x6, vR 1, vL r59, none, vL v.2.1, none, vI x12, vI x13, none, none, vI x16, vI x17, vL x18, none, vI x20, vI v.2.2, none, none, none, none, none, none], [.int (3:Int32), .int x16], (H0 s p0))) rfl ?_
    rcases qite h with ⟨hc60, h⟩ | ⟨hc60, h⟩
    ·refine zF Ad W (t := 668) (f := 658) rfl (XT.ii_ne_f hc60) ?_
     refine zS Ad W 2 (st' := (662, [vR 0, none, none, vI x3, none, none, vI x6, vR 1, vL r59, none, vL v.2.1, none, vI x12, vI x13, none, none, vI x16, vI x17, vL x18, none, vI x20, vI v.2.2, none, none, none, none, none, none], [.int v.2.2, .long x18], (H0 s p0))) rfl ?_
     obtain ⟨r61, hr61, h⟩ := bind_eq_some_iff.mp h
     refine QTri.callS W (as := [.long x18, .int v.2.2]) (rest := []) (w := (some (.int r61))) (σ₁ := (H0 s p0)) rfl rfl rfl rfl rfl rfl rfl (tF23 Ad W x18 v.2.2 hr61) ?_
     refine zS Ad W 1 (st' := (670, [vR 0, none, none, vI x3, none, none, vI x6, vR 1, vL r59, none, vL v.2.1, none, vI x12, vI x13, none, none, vI x16, vI x17, vL x18, none, vI x20, vI v.2.2, none, none, none, none, none, none], [.int r61], (H0 s p0))) rfl ?_
     exact zM [tt,ff,ff,tt,ff,ff,tt,tt,tt,ff,tt,ff,tt,tt,ff,ff,tt,tt,tt,ff,tt,tt,ff,ff,ff,ff,ff,ff] (tJ0_670 Ad W s p0 x3 x6 r59 v.2.1 x12 x13 x16 x17 x18 x20 v.2.2 r61 h hx0 hc)
    ·refine zT Ad W (t := 668) (f := 658) rfl (XT.ii_ne_t hc60) ?_
     refine zS Ad W 1 (st' := (670, [vR 0, none, none, vI x3, none, none, vI x6, vR 1, vL r59, none, vL v.2.1, none, vI x12, vI x13, none, none, vI x16, vI x17, vL x18, none, vI x20, vI v.2.2, none, none, none, none, none, none], [.int x20], (H0 s p0))) rfl ?_
     exact zM [tt,ff,ff,tt,ff,ff,tt,tt,tt,ff,tt,ff,tt,tt,ff,ff,tt,tt,tt,ff,tt,tt,ff,ff,ff,ff,ff,ff] (tJ0_670 Ad W s p0 x3 x6 r59 v.2.1 x12 x13 x16 x17 x18 x20 v.2.2 x20 h hx0 hc)
   ·refine zT Ad W (t := 686) (f := 642) rfl (XT.i0_ge_t hc58) ?_
    exact zM [tt,ff,ff,tt,ff,ff,tt,tt,tt,ff,tt,ff,tt,tt,ff,ff,tt,tt,tt,ff,tt,tt,ff,ff,ff,ff,ff,ff] (tJ0_686 Ad W s p0 x3 x6 v.1 v.2.1 x12 x13 x16 x17 x18 x20 v.2.2 h hx0 hc)
 ·refine zT Ad W (t := 692) (f := 618) rfl (XT.ii_ge_t hc55) ?_
  obtain rfl := Option.some.inj h
  exact zM [tt,ff,ff,tt,ff,ff,tt,tt,tt,ff,tt,ff,tt,tt,ff,ff,ff,ff,ff,ff,ff,ff,ff,ff,ff,ff,ff,ff] (hx0 (v.1, v.2.1) rfl)
def J0_766 (s : List Int32) (p0 : Ob) (x3 : Int32) (x6 : Int32) (x8 : Int64) (x10 : Int64) (x12 : Int32) (x13 : Int32) (x21 : Int32) : Option (((Unit) ⊕ (Int32 × QHeap)) ⊕ (Int32)) :=
  some (.inr (x21 + (1 : Int32)))
theorem tJ0_766 (Ad : QAd n0 ad) (W : QW Z a0) (s : List Int32) (p0 : Ob) (x3 : Int32) (x6 : Int32) (x8 : Int64) (x10 : Int64) (x12 : Int32) (x13 : Int32) (x21 : Int32) {r : ((Unit) ⊕ (Int32 × QHeap)) ⊕ (Int32)} {u : Option Value} {τ : QHeap} (h : J0_766 s p0 x3 x6 x8 x10 x12 x13 x21 = some r) (hx0 : ∀ x : Unit, r = .inl (Sum.inl x) → QTri l Z n0 ad 0 (772, [vR 0, none, none, vI x3, none, none, vI x6, vR 1, vL x8, none, vL x10, none, vI x12, vI x13, none, none, none, none, none, none, none, none, none, none, none, none, none, none], [], (H0 s p0)) u τ) (hx1 : ∀ x : Int32 × QHeap, r = .inl (Sum.inr x) → u = (some (Value.int x.1)) ∧ τ = x.2) (hc : ∀ x : Int32, r = .inr x → QTri l Z n0 ad 0 (695, [vR 0, none, none, vI x3, none, none, vI x6, vR 1, vL x8, none, vL x10, none, vI x12, vI x13, none, none, none, none, none, none, none, vI x, none, none, none, none, none, none], [], (H0 s p0)) u τ) : QTri l Z n0 ad 0 (766, [vR 0, none, none, vI x3, none, none, vI x6, vR 1, vL x8, none, vL x10, none, vI x12, vI x13, none, none, none, none, none, none, none, vI x21, none, none, none, none, none, none], [], (H0 s p0)) u τ := by
 unfold J0_766 at h
 refine zS Ad W 2 (st' := (695, [vR 0, none, none, vI x3, none, none, vI x6, vR 1, vL x8, none, vL x10, none, vI x12, vI x13, none, none, none, none, none, none, none, vI (x21 + (1:Int32)), none, none, none, none, none, none], [], (H0 s p0))) rfl ?_
 obtain rfl := Option.some.inj h
 exact zM [tt,ff,ff,tt,ff,ff,tt,tt,tt,ff,tt,ff,tt,tt,ff,ff,ff,ff,ff,ff,ff,tt,ff,ff,ff,ff,ff,ff] (hc (x21 + (1:Int32)) rfl)
/-- stateOf(I)I -/
def F25 (o : Ob) (x1 : Int32) : Option (Int32) :=
 (F5 o x1).bind fun r68 => (if r68 < (0:Int32) then some (-1:Int32) else (aget (f_stateAt o) r68).bind fun y70 => some y70)
theorem tF25 (Ad : QAd n0 ad) (W : QW Z a0) (s : List Int32) (o : Ob) (x1 : Int32) {r : Int32} (h : F25 o x1 = some r) : QTri l Z n0 ad 25 (0, qentry [.ref 1, .int x1] (pMaxL 25), [], (H0 s o)) (some (Value.int r)) (H0 s o) := by
 unfold F25 at h
 refine zS Ad W 2 (st' := (2, [vR 1, vI x1, none], [.int x1, .ref 1], (H0 s o))) rfl ?_
 obtain ⟨r68, hr68, h⟩ := bind_eq_some_iff.mp h
 refine QTri.callP W (a := 1) (as := [.int x1]) (rest := []) (w := (some (.int r68))) (σ₁ := (H0 s o)) rfl rfl rfl rfl rfl rfl rfl rfl (tF5 Ad W s o x1 hr68) ?_
 refine zS Ad W 2 (st' := (7, [vR 1, vI x1, vI r68], [.int r68], (H0 s o))) rfl ?_
 rcases qite h with ⟨hc69, h⟩ | ⟨hc69, h⟩
 ·refine zF Ad W (t := 12) (f := 10) rfl (XT.i0_ge_f hc69) ?_
  refine zS Ad W 1 (st' := (11, [vR 1, vI x1, vI r68], [.int (-1:Int32)], (H0 s o))) rfl ?_
  obtain rfl := Option.some.inj h
  exact QTri.retI rfl rfl
 ·refine zT Ad W (t := 12) (f := 10) rfl (XT.i0_ge_t hc69) ?_
  refine zS Ad W 3 (st' := (17, [vR 1, vI x1, vI r68], [.int r68, .ref 8], (H0 s o))) rfl ?_
  obtain ⟨y70, hy70, h⟩ := bind_eq_some_iff.mp h
  refine zB Ad W (f := fun y70 => (18, [vR 1, vI x1, vI r68], [.int y70], (H0 s o))) rfl hy70 ?_
  obtain rfl := Option.some.inj h
  exact QTri.retI rfl rfl
/-- insidePortOf(I)I -/
def F26 (o : Ob) (x1 : Int32) : Option (Int32) :=
 (F5 o x1).bind fun r75 => (if r75 < (0:Int32) then some (-1:Int32) else (aget (f_iportOf o) r75).bind fun y77 => some y77)
theorem tF26 (Ad : QAd n0 ad) (W : QW Z a0) (s : List Int32) (o : Ob) (x1 : Int32) {r : Int32} (h : F26 o x1 = some r) : QTri l Z n0 ad 26 (0, qentry [.ref 1, .int x1] (pMaxL 26), [], (H0 s o)) (some (Value.int r)) (H0 s o) := by
 unfold F26 at h
 refine zS Ad W 2 (st' := (2, [vR 1, vI x1, none], [.int x1, .ref 1], (H0 s o))) rfl ?_
 obtain ⟨r75, hr75, h⟩ := bind_eq_some_iff.mp h
 refine QTri.callP W (a := 1) (as := [.int x1]) (rest := []) (w := (some (.int r75))) (σ₁ := (H0 s o)) rfl rfl rfl rfl rfl rfl rfl rfl (tF5 Ad W s o x1 hr75) ?_
 refine zS Ad W 2 (st' := (7, [vR 1, vI x1, vI r75], [.int r75], (H0 s o))) rfl ?_
 rcases qite h with ⟨hc76, h⟩ | ⟨hc76, h⟩
 ·refine zF Ad W (t := 12) (f := 10) rfl (XT.i0_ge_f hc76) ?_
  refine zS Ad W 1 (st' := (11, [vR 1, vI x1, vI r75], [.int (-1:Int32)], (H0 s o))) rfl ?_
  obtain rfl := Option.some.inj h
  exact QTri.retI rfl rfl
 ·refine zT Ad W (t := 12) (f := 10) rfl (XT.i0_ge_t hc76) ?_
  refine zS Ad W 3 (st' := (17, [vR 1, vI x1, vI r75], [.int r75, .ref 7], (H0 s o))) rfl ?_
  obtain ⟨y77, hy77, h⟩ := bind_eq_some_iff.mp h
  refine zB Ad W (f := fun y77 => (18, [vR 1, vI x1, vI r75], [.int y77], (H0 s o))) rfl hy77 ?_
  obtain rfl := Option.some.inj h
  exact QTri.retI rfl rfl
def J8_58 (o : Ob) (x1 : Int32) (x2 : Int32) (x3 : Int32) (x4 : Int32) : Option (((Int32)) ⊕ (Int32)) :=
  some (.inr (x4 + (1 : Int32)))
theorem tJ8_58 (Ad : QAd n0 ad) (W : QW Z a0) (s : List Int32) (o : Ob) (x1 : Int32) (x2 : Int32) (x3 : Int32) (x4 : Int32) {r : ((Int32)) ⊕ (Int32)} {u : Option Value} {τ : QHeap} (h : J8_58 o x1 x2 x3 x4 = some r) (hx0 : ∀ x : Int32, r = .inl x → u = (some (Value.int x)) ∧ τ = (H0 s o)) (hc : ∀ x : Int32, r = .inr x → QTri l Z n0 ad 8 (3, [vR 1, vI x1, vI x2, vI x3, vI x], [], (H0 s o)) u τ) : QTri l Z n0 ad 8 (58, [vR 1, vI x1, vI x2, vI x3, vI x4], [], (H0 s o)) u τ := by
 unfold J8_58 at h
 refine zS Ad W 2 (st' := (3, [vR 1, vI x1, vI x2, vI x3, vI (x4 + (1:Int32))], [], (H0 s o))) rfl ?_
 obtain rfl := Option.some.inj h
 exact zM [tt,tt,tt,tt,tt] (hc (x4 + (1:Int32)) rfl)
def B8_3 (o : Ob) (x1 : Int32) (x2 : Int32) (x3 : Int32) (v : Int32) : Option (((Int32)) ⊕ (Int32)) :=
  (if v < (f_poolSize o) then (aget (f_live o) v).bind fun y80 => (if y80 = (0 : Int32) then (J8_58 o x1 x2 x3 v) else (aget (f_protoOf o) v).bind fun y82 => (if y82 = x1 then (aget (f_hostOf o) v).bind fun y84 => (if y84 = x2 then (aget (f_iportOf o) v).bind fun y86 => (if y86 = x3 then some (.inl v) else (J8_58 o x1 x2 x3 v)) else (J8_58 o x1 x2 x3 v)) else (J8_58 o x1 x2 x3 v))) else some (.inl (-1 : Int32)))
theorem tB8_3 (Ad : QAd n0 ad) (W : QW Z a0) (s : List Int32) (o : Ob) (x1 : Int32) (x2 : Int32) (x3 : Int32) (v : Int32) {r : ((Int32)) ⊕ (Int32)} {u : Option Value} {τ : QHeap} (h : B8_3 o x1 x2 x3 v = some r) (hx0 : ∀ x : Int32, r = .inl x → u = (some (Value.int x)) ∧ τ = (H0 s o)) (hc : ∀ x : Int32, r = .inr x → QTri l Z n0 ad 8 (3, [vR 1, vI x1, vI x2, vI x3, vI x], [], (H0 s o)) u τ) : QTri l Z n0 ad 8 (3, [vR 1, vI x1, vI x2, vI x3, vI v], [], (H0 s o)) u τ := by
 unfold B8_3 at h
 refine zS Ad W 3 (st' := (9, [vR 1, vI x1, vI x2, vI x3, vI v], [.int (f_poolSize o), .int v], (H0 s o))) rfl ?_
 rcases qite h with ⟨hc79, h⟩ | ⟨hc79, h⟩
 ·refine zF Ad W (t := 64) (f := 12) rfl (XT.ii_ge_f hc79) ?_
  refine zS Ad W 3 (st' := (18, [vR 1, vI x1, vI x2, vI x3, vI v], [.int v, .ref 2], (H0 s o))) rfl ?_
  obtain ⟨y80, hy80, h⟩ := bind_eq_some_iff.mp h
  refine zB Ad W (f := fun y80 => (19, [vR 1, vI x1, vI x2, vI x3, vI v], [.int y80], (H0 s o))) rfl hy80 ?_
  rcases qite h with ⟨hc81, h⟩ | ⟨hc81, h⟩
  ·refine zT Ad W (t := 58) (f := 22) rfl (XT.i0_eq_t hc81) ?_
   exact zM [tt,tt,tt,tt,tt] (tJ8_58 Ad W s o x1 x2 x3 v h hx0 hc)
  ·refine zF Ad W (t := 58) (f := 22) rfl (XT.i0_eq_f hc81) ?_
   refine zS Ad W 3 (st' := (28, [vR 1, vI x1, vI x2, vI x3, vI v], [.int v, .ref 5], (H0 s o))) rfl ?_
   obtain ⟨y82, hy82, h⟩ := bind_eq_some_iff.mp h
   refine zB Ad W (f := fun y82 => (29, [vR 1, vI x1, vI x2, vI x3, vI v], [.int y82], (H0 s o))) rfl hy82 ?_
   refine zS Ad W 1 (st' := (30, [vR 1, vI x1, vI x2, vI x3, vI v], [.int x1, .int y82], (H0 s o))) rfl ?_
   rcases qite h with ⟨hc83, h⟩ | ⟨hc83, h⟩
   ·refine zF Ad W (t := 58) (f := 33) rfl (XT.ii_ne_f hc83) ?_
    refine zS Ad W 3 (st' := (39, [vR 1, vI x1, vI x2, vI x3, vI v], [.int v, .ref 6], (H0 s o))) rfl ?_
    obtain ⟨y84, hy84, h⟩ := bind_eq_some_iff.mp h
    refine zB Ad W (f := fun y84 => (40, [vR 1, vI x1, vI x2, vI x3, vI v], [.int y84], (H0 s o))) rfl hy84 ?_
    refine zS Ad W 1 (st' := (41, [vR 1, vI x1, vI x2, vI x3, vI v], [.int x2, .int y84], (H0 s o))) rfl ?_
    rcases qite h with ⟨hc85, h⟩ | ⟨hc85, h⟩
    ·refine zF Ad W (t := 58) (f := 44) rfl (XT.ii_ne_f hc85) ?_
     refine zS Ad W 3 (st' := (50, [vR 1, vI x1, vI x2, vI x3, vI v], [.int v, .ref 7], (H0 s o))) rfl ?_
     obtain ⟨y86, hy86, h⟩ := bind_eq_some_iff.mp h
     refine zB Ad W (f := fun y86 => (51, [vR 1, vI x1, vI x2, vI x3, vI v], [.int y86], (H0 s o))) rfl hy86 ?_
     refine zS Ad W 1 (st' := (52, [vR 1, vI x1, vI x2, vI x3, vI v], [.int x3, .int y86], (H0 s o))) rfl ?_
     rcases qite h with ⟨hc87, h⟩ | ⟨hc87, h⟩
     ·refine zF Ad W (t := 58) (f := 55) rfl (XT.ii_ne_f hc87) ?_
      refine zS Ad W 1 (st' := (57, [vR 1, vI x1, vI x2, vI x3, vI v], [.int v], (H0 s o))) rfl ?_
      obtain rfl := Option.some.inj h
      obtain ⟨rfl, rfl⟩ := hx0 v rfl
      exact QTri.retI rfl rfl
     ·refine zT Ad W (t := 58) (f := 55) rfl (XT.ii_ne_t hc87) ?_
      exact zM [tt,tt,tt,tt,tt] (tJ8_58 Ad W s o x1 x2 x3 v h hx0 hc)
    ·refine zT Ad W (t := 58) (f := 44) rfl (XT.ii_ne_t hc85) ?_
     exact zM [tt,tt,tt,tt,tt] (tJ8_58 Ad W s o x1 x2 x3 v h hx0 hc)
   ·refine zT Ad W (t := 58) (f := 33) rfl (XT.ii_ne_t hc83) ?_
    exact zM [tt,tt,tt,tt,tt] (tJ8_58 Ad W s o x1 x2 x3 v h hx0 hc)
 ·refine zT Ad W (t := 64) (f := 12) rfl (XT.ii_ge_t hc79) ?_
  refine zS Ad W 1 (st' := (65, [vR 1, vI x1, vI x2, vI x3, vI v], [.int (-1:Int32)], (H0 s o))) rfl ?_
  obtain rfl := Option.some.inj h
  obtain ⟨rfl, rfl⟩ := hx0 (-1:Int32) rfl
  exact QTri.retI rfl rfl
/-- findKey(III)I -/
def F8 (o : Ob) (x1 : Int32) (x2 : Int32) (x3 : Int32) : Option (Int32) :=
 (loopN (B8_3 o x1 x2 x3) qN (0:Int32)).bind fun e88 => some e88
theorem tF8 (Ad : QAd n0 ad) (W : QW Z a0) (s : List Int32) (o : Ob) (x1 : Int32) (x2 : Int32) (x3 : Int32) {r : Int32} (h : F8 o x1 x2 x3 = some r) : QTri l Z n0 ad 8 (0, qentry [.ref 1, .int x1, .int x2, .int x3] (pMaxL 8), [], (H0 s o)) (some (Value.int r)) (H0 s o) := by
 unfold F8 at h
 refine zS Ad W 2 (st' := (3, [vR 1, vI x1, vI x2, vI x3, vI (0:Int32)], [], (H0 s o))) rfl ?_
 obtain ⟨e88, he88, h⟩ := bind_eq_some_iff.mp h
 refine zM [tt,tt,tt,tt,tt] (loopN_tri (B := B8_3 o x1 x2 x3) (T := fun lv89 => QTri l Z n0 ad 8 (3, [vR 1, vI x1, vI x2, vI x3, vI lv89], [], (H0 s o)) (some (Value.int r)) (H0 s o)) (KE := fun e88a => (some (Value.int r)) = (some (Value.int e88a)) ∧ (H0 s o) = (H0 s o)) (fun lv89 r hB hE hC => tB8_3 Ad W s o x1 x2 x3 lv89 hB (fun x q => hE _ q) (fun x q => hC x q)) qN (0:Int32) e88 he88 ?_)
 obtain rfl := Option.some.inj h
 exact ⟨rfl, rfl⟩
/-- externalPortOf(III)I -/
def F7 (o : Ob) (x1 : Int32) (x2 : Int32) (x3 : Int32) : Option (Int32) :=
 (F8 o x3 x1 x2).bind fun r90 => (if r90 < (0:Int32) then some (-1:Int32) else some ((5000:Int32) + r90))
theorem tF7 (Ad : QAd n0 ad) (W : QW Z a0) (s : List Int32) (o : Ob) (x1 : Int32) (x2 : Int32) (x3 : Int32) {r : Int32} (h : F7 o x1 x2 x3 = some r) : QTri l Z n0 ad 7 (0, qentry [.ref 1, .int x1, .int x2, .int x3] (pMaxL 7), [], (H0 s o)) (some (Value.int r)) (H0 s o) := by
 unfold F7 at h
 refine zS Ad W 4 (st' := (4, [vR 1, vI x1, vI x2, vI x3, none], [.int x2, .int x1, .int x3, .ref 1], (H0 s o))) rfl ?_
 obtain ⟨r90, hr90, h⟩ := bind_eq_some_iff.mp h
 refine QTri.callP W (a := 1) (as := [.int x3, .int x1, .int x2]) (rest := []) (w := (some (.int r90))) (σ₁ := (H0 s o)) rfl rfl rfl rfl rfl rfl rfl rfl (tF8 Ad W s o x3 x1 x2 hr90) ?_
 refine zS Ad W 2 (st' := (11, [vR 1, vI x1, vI x2, vI x3, vI r90], [.int r90], (H0 s o))) rfl ?_
 rcases qite h with ⟨hc91, h⟩ | ⟨hc91, h⟩
 ·refine zF Ad W (t := 16) (f := 14) rfl (XT.i0_ge_f hc91) ?_
  refine zS Ad W 1 (st' := (15, [vR 1, vI x1, vI x2, vI x3, vI r90], [.int (-1:Int32)], (H0 s o))) rfl ?_
  obtain rfl := Option.some.inj h
  exact QTri.retI rfl rfl
 ·refine zT Ad W (t := 16) (f := 14) rfl (XT.i0_ge_t hc91) ?_
  refine zS Ad W 3 (st' := (22, [vR 1, vI x1, vI x2, vI x3, vI r90], [.int ((5000:Int32) + r90)], (H0 s o))) rfl ?_
  obtain rfl := Option.some.inj h
  exact QTri.retI rfl rfl
def B0_695 (s : List Int32) (p0 : Ob) (x3 : Int32) (x6 : Int32) (x8 : Int64) (x10 : Int64) (x12 : Int32) (x13 : Int32) (v : Int32) : Option (((Unit) ⊕ (Int32 × QHeap)) ⊕ (Int32)) :=
  (if v < x3 then (F4 p0 ((5000 : Int32) + v)).bind fun r66 => (if r66 < (0 : Int32) then (J0_766 s p0 x3 x6 x8 x10 x12 x13 v) else (F25 p0 ((5000 : Int32) + v)).bind fun r71 => (F26 p0 ((5000 : Int32) + v)).bind fun r78 => (F7 p0 r66 r78 (if r71 < (1 : Int32) then (17 : Int32) else (6 : Int32))).bind fun r92 => (if r92 = ((5000 : Int32) + v) then (J0_766 s p0 x3 x6 x8 x10 x12 x13 v) else some (.inl (Sum.inr ((0 : Int32), (H0 s p0)))))) else some (.inl (Sum.inl ())))
theorem tB0_695 (Ad : QAd n0 ad) (W : QW Z a0) (s : List Int32) (p0 : Ob) (x3 : Int32) (x6 : Int32) (x8 : Int64) (x10 : Int64) (x12 : Int32) (x13 : Int32) (v : Int32) {r : ((Unit) ⊕ (Int32 × QHeap)) ⊕ (Int32)} {u : Option Value} {τ : QHeap} (h : B0_695 s p0 x3 x6 x8 x10 x12 x13 v = some r) (hx0 : ∀ x : Unit, r = .inl (Sum.inl x) → QTri l Z n0 ad 0 (772, [vR 0, none, none, vI x3, none, none, vI x6, vR 1, vL x8, none, vL x10, none, vI x12, vI x13, none, none, none, none, none, none, none, none, none, none, none, none, none, none], [], (H0 s p0)) u τ) (hx1 : ∀ x : Int32 × QHeap, r = .inl (Sum.inr x) → u = (some (Value.int x.1)) ∧ τ = x.2) (hc : ∀ x : Int32, r = .inr x → QTri l Z n0 ad 0 (695, [vR 0, none, none, vI x3, none, none, vI x6, vR 1, vL x8, none, vL x10, none, vI x12, vI x13, none, none, none, none, none, none, none, vI x, none, none, none, none, none, none], [], (H0 s p0)) u τ) : QTri l Z n0 ad 0 (695, [vR 0, none, none, vI x3, none, none, vI x6, vR 1, vL x8, none, vL x10, none, vI x12, vI x13, none, none, none, none, none, none, none, vI v, none, none, none, none, none, none], [], (H0 s p0)) u τ := by
 unfold B0_695 at h
 refine zS Ad W 2 (st' := (698, [vR 0, none, none, vI x3, none, none, vI x6, vR 1, vL x8, none, vL x10, none, vI x12, vI x13, none, none, none, none, none, none, none, vI v, none, none, none, none, none, none], [.int x3, .int v], (H0 s p0))) rfl ?_
 rcases qite h with ⟨hc65, h⟩ | ⟨hc65, h⟩
 ·refine zF Ad W (t := 772) (f := 701) rfl (XT.ii_ge_f hc65) ?_
  refine zS Ad W 6 (st' := (713, [vR 0, none, none, vI x3, none, none, vI x6, vR 1, vL x8, none, vL x10, none, vI x12, vI x13, none, none, none, none, none, none, none, vI v, vI ((5000:Int32) + v), none, none, none, none, none], [.int ((5000:Int32) + v), .ref 1], (H0 s p0))) rfl ?_
  obtain ⟨r66, hr66, h⟩ := bind_eq_some_iff.mp h
  refine QTri.callV W (a := 1) (as := [.int ((5000:Int32) + v)]) (rest := []) (w := (some (.int r66))) (σ₁ := (H0 s p0)) rfl rfl rfl rfl rfl rfl rfl rfl (tF4 Ad W s p0 ((5000:Int32) + v) hr66) ?_
  refine zS Ad W 2 (st' := (720, [vR 0, none, none, vI x3, none, none, vI x6, vR 1, vL x8, none, vL x10, none, vI x12, vI x13, none, none, none, none, none, none, none, vI v, vI ((5000:Int32) + v), vI r66, none, none, none, none], [.int r66], (H0 s p0))) rfl ?_
  rcases qite h with ⟨hc67, h⟩ | ⟨hc67, h⟩
  ·refine zT Ad W (t := 766) (f := 723) rfl (XT.i0_lt_t hc67) ?_
   exact zM [tt,ff,ff,tt,ff,ff,tt,tt,tt,ff,tt,ff,tt,tt,ff,ff,ff,ff,ff,ff,ff,tt,ff,ff,ff,ff,ff,ff] (tJ0_766 Ad W s p0 x3 x6 x8 x10 x12 x13 v h hx0 hx1 hc)
  ·refine zF Ad W (t := 766) (f := 723) rfl (XT.i0_lt_f hc67) ?_
   refine zS Ad W 2 (st' := (727, [vR 0, none, none, vI x3, none, none, vI x6, vR 1, vL x8, none, vL x10, none, vI x12, vI x13, none, none, none, none, none, none, none, vI v, vI ((5000:Int32) + v), vI r66, none, none, none, none], [.int ((5000:Int32) + v), .ref 1], (H0 s p0))) rfl ?_
   obtain ⟨r71, hr71, h⟩ := bind_eq_some_iff.mp h
   refine QTri.callV W (a := 1) (as := [.int ((5000:Int32) + v)]) (rest := []) (w := (some (.int r71))) (σ₁ := (H0 s p0)) rfl rfl rfl rfl rfl rfl rfl rfl (tF25 Ad W s p0 ((5000:Int32) + v) hr71) ?_
   refine zS Ad W 1 (st' := (731, [vR 0, none, none, vI x3, none, none, vI x6, vR 1, vL x8, none, vL x10, none, vI x12, vI x13, none, none, none, none, none, none, none, vI v, vI ((5000:Int32) + v), vI r66, none, none, none, none], [.int (1:Int32), .int r71], (H0 s p0))) rfl ?_
   have K73 : ∀ z72 : Int32, z72 = (if r71 < (1:Int32) then (17:Int32) else (6:Int32)) → QTri l Z n0 ad 0 (741, [vR 0, none, none, vI x3, none, none, vI x6, vR 1, vL x8, none, vL x10, none, vI x12, vI x13, none, none, none, none, none, none, none, vI v, vI ((5000:Int32) + v), vI r66, none, none, none, none], [.int z72], (H0 s p0)) u τ := by
    intro z72 ez72
    subst ez72
    refine zS Ad W 5 (st' := (751, [vR 0, none, none, vI x3, none, none, vI x6, vR 1, vL x8, none, vL x10, none, vI x12, vI x13, none, none, none, none, none, none, none, vI v, vI ((5000:Int32) + v), vI r66, vI (if r71 < (1:Int32) then (17:Int32) else (6:Int32)), none, none, none], [.int ((5000:Int32) + v), .ref 1, .int r66, .ref 1], (H0 s p0))) rfl ?_
    obtain ⟨r78, hr78, h⟩ := bind_eq_some_iff.mp h
    refine QTri.callV W (a := 1) (as := [.int ((5000:Int32) + v)]) (rest := [.int r66, .ref 1]) (w := (some (.int r78))) (σ₁ := (H0 s p0)) rfl rfl rfl rfl rfl rfl rfl rfl (tF26 Ad W s p0 ((5000:Int32) + v) hr78) ?_
    refine zS Ad W 1 (st' := (756, [vR 0, none, none, vI x3, none, none, vI x6, vR 1, vL x8, none, vL x10, none, vI x12, vI x13, none, none, none, none, none, none, none, vI v, vI ((5000:Int32) + v), vI r66, vI (if r71 < (1:Int32) then (17:Int32) else (6:Int32)), none, none, none], [.int (if r71 < (1:Int32) then (17:Int32) else (6:Int32)), .int r78, .int r66, .ref 1], (H0 s p0))) rfl ?_
    obtain ⟨r92, hr92, h⟩ := bind_eq_some_iff.mp h
    refine QTri.callV W (a := 1) (as := [.int r66, .int r78, .int (if r71 < (1:Int32) then (17:Int32) else (6:Int32))]) (rest := []) (w := (some (.int r92))) (σ₁ := (H0 s p0)) rfl rfl rfl rfl rfl rfl rfl rfl (tF7 Ad W s p0 r66 r78 (if r71 < (1:Int32) then (17:Int32) else (6:Int32)) hr92) ?_
    refine zS Ad W 1 (st' := (761, [vR 0, none, none, vI x3, none, none, vI x6, vR 1, vL x8, none, vL x10, none, vI x12, vI x13, none, none, none, none, none, none, none, vI v, vI ((5000:Int32) + v), vI r66, vI (if r71 < (1:Int32) then (17:Int32) else (6:Int32)), none, none, none], [.int ((5000:Int32) + v), .int r92], (H0 s p0))) rfl ?_
    rcases qite h with ⟨hc93, h⟩ | ⟨hc93, h⟩
    ·refine zT Ad W (t := 766) (f := 764) rfl (XT.ii_eq_t hc93) ?_
     exact zM [tt,ff,ff,tt,ff,ff,tt,tt,tt,ff,tt,ff,tt,tt,ff,ff,ff,ff,ff,ff,ff,tt,ff,ff,ff,ff,ff,ff] (tJ0_766 Ad W s p0 x3 x6 x8 x10 x12 x13 v h hx0 hx1 hc)
    ·refine zF Ad W (t := 766) (f := 764) rfl (XT.ii_eq_f hc93) ?_
     refine zS Ad W 1 (st' := (765, [vR 0, none, none, vI x3, none, none, vI x6, vR 1, vL x8, none, vL x10, none, vI x12, vI x13, none, none, none, none, none, none, none, vI v, vI ((5000:Int32) + v), vI r66, vI (if r71 < (1:Int32) then (17:Int32) else (6:Int32)), none, none, none], [.int (0:Int32)], (H0 s p0))) rfl ?_
     obtain rfl := Option.some.inj h
     obtain ⟨rfl, rfl⟩ := hx1 ((0:Int32), (H0 s p0)) rfl
     exact QTri.retZ rfl rfl
   rcases em (r71 < (1:Int32)) with hc74 | hc74
   ·refine zT Ad W (t := 739) (f := 734) rfl (XT.ii_lt_t hc74) ?_
    refine zS Ad W 1 (st' := (741, [vR 0, none, none, vI x3, none, none, vI x6, vR 1, vL x8, none, vL x10, none, vI x12, vI x13, none, none, none, none, none, none, none, vI v, vI ((5000:Int32) + v), vI r66, none, none, none, none], [.int (17:Int32)], (H0 s p0))) rfl ?_
    exact zM [tt,ff,ff,tt,ff,ff,tt,tt,tt,ff,tt,ff,tt,tt,ff,ff,ff,ff,ff,ff,ff,tt,tt,tt,ff,ff,ff,ff] (K73 _ (if_pos hc74).symm)
   ·refine zF Ad W (t := 739) (f := 734) rfl (XT.ii_lt_f hc74) ?_
    refine zS Ad W 2 (st' := (741, [vR 0, none, none, vI x3, none, none, vI x6, vR 1, vL x8, none, vL x10, none, vI x12, vI x13, none, none, none, none, none, none, none, vI v, vI ((5000:Int32) + v), vI r66, none, none, none, none], [.int (6:Int32)], (H0 s p0))) rfl ?_
    exact zM [tt,ff,ff,tt,ff,ff,tt,tt,tt,ff,tt,ff,tt,tt,ff,ff,ff,ff,ff,ff,ff,tt,tt,tt,ff,ff,ff,ff] (K73 _ (if_neg hc74).symm)
 ·refine zT Ad W (t := 772) (f := 701) rfl (XT.ii_ge_t hc65) ?_
  obtain rfl := Option.some.inj h
  exact zM [tt,ff,ff,tt,ff,ff,tt,tt,tt,ff,tt,ff,tt,tt,ff,ff,ff,ff,ff,ff,ff,ff,ff,ff,ff,ff,ff,ff] (hx0 () rfl)
def J0_602 (s : List Int32) (p0 : Ob) (x3 : Int32) (x6 : Int32) (x8 : Int64) (x10 : Int64) (x12 : Int32) (x13 : Int32) (x16 : Int32) (x17 : Int32) (x18 : Int64) : Option (((Int32 × QHeap)) ⊕ (Int64 × Int64 × Int32 × Int32 × Ob)) :=
  (F11 p0).bind fun r54 => (loopN (B0_612 s p0 x3 x6 x12 x13 x16 x17 x18 r54) qN (x8, x10, (0 : Int32))).bind fun e63 => ((loopN (B0_695 s p0 x3 x6 e63.1 e63.2 x12 x13) qN (0 : Int32)).bind fun e94 => match e94 with | .inl e94a => some (.inr (e63.1, e63.2, x12, (x13 + (2 : Int32)), p0)) | .inr e94a => some (.inl e94a))
theorem tJ0_602 (Ad : QAd n0 ad) (W : QW Z a0) (s : List Int32) (p0 : Ob) (x3 : Int32) (x6 : Int32) (x8 : Int64) (x10 : Int64) (x12 : Int32) (x13 : Int32) (x16 : Int32) (x17 : Int32) (x18 : Int64) {r : ((Int32 × QHeap)) ⊕ (Int64 × Int64 × Int32 × Int32 × Ob)} {u : Option Value} {τ : QHeap} (h : J0_602 s p0 x3 x6 x8 x10 x12 x13 x16 x17 x18 = some r) (hx0 : ∀ x : Int32 × QHeap, r = .inl x → u = (some (Value.int x.1)) ∧ τ = x.2) (hc : ∀ x : Int64 × Int64 × Int32 × Int32 × Ob, r = .inr x → QTri l Z n0 ad 0 (80, [vR 0, none, none, vI x3, none, none, vI x6, vR 1, vL x.1, none, vL x.2.1, none, vI x.2.2.1, vI x.2.2.2.1, none, none, none, none, none, none, none, none, none, none, none, none, none, none], [], (H0 s x.2.2.2.2)) u τ) : QTri l Z n0 ad 0 (602, [vR 0, none, none, vI x3, none, none, vI x6, vR 1, vL x8, none, vL x10, none, vI x12, vI x13, none, none, vI x16, vI x17, vL x18, none, none, none, none, none, none, none, none, none], [], (H0 s p0)) u τ := by
 unfold J0_602 at h
 refine zS Ad W 1 (st' := (604, [vR 0, none, none, vI x3, none, none, vI x6, vR 1, vL x8, none, vL x10, none, vI x12, vI x13, none, none, vI x16, vI x17, vL x18, none, none, none, none, none, none, none, none, none], [.ref 1], (H0 s p0))) rfl ?_
 obtain ⟨r54, hr54, h⟩ := bind_eq_some_iff.mp h
 refine QTri.callV W (a := 1) (as := []) (rest := []) (w := (some (.int r54))) (σ₁ := (H0 s p0)) rfl rfl rfl rfl rfl rfl rfl rfl (tF11 Ad W s p0 hr54) ?_
 refine zS Ad W 3 (st' := (612, [vR 0, none, none, vI x3, none, none, vI x6, vR 1, vL x8, none, vL x10, none, vI x12, vI x13, none, none, vI x16, vI x17, vL x18, none, vI r54, vI (0:Int32), none, none, none, none, none, none], [], (H0 s p0))) rfl ?_
 obtain ⟨e63, he63, h⟩ := bind_eq_some_iff.mp h
 refine zM [tt,ff,ff,tt,ff,ff,tt,tt,tt,ff,tt,ff,tt,tt,ff,ff,tt,tt,tt,ff,tt,tt,ff,ff,ff,ff,ff,ff] (loopN_tri (B := B0_612 s p0 x3 x6 x12 x13 x16 x17 x18 r54) (T := fun lv64 => QTri l Z n0 ad 0 (612, [vR 0, none, none, vI x3, none, none, vI x6, vR 1, vL lv64.1, none, vL lv64.2.1, none, vI x12, vI x13, none, none, vI x16, vI x17, vL x18, none, vI r54, vI lv64.2.2, none, none, none, none, none, none], [], (H0 s p0)) u τ) (KE := fun e63a => QTri l Z n0 ad 0 (692, [vR 0, none, none, vI x3, none, none, vI x6, vR 1, vL e63a.1, none, vL e63a.2, none, vI x12, vI x13, none, none, none, none, none, none, none, none, none, none, none, none, none, none], [], (H0 s p0)) u τ) (fun lv64 r hB hE hC => tB0_612 Ad W s p0 x3 x6 x12 x13 x16 x17 x18 r54 lv64 hB (fun x q => hE _ q) (fun x q => hC x q)) qN (x8, x10, (0:Int32)) e63 he63 ?_)
 refine zS Ad W 2 (st' := (695, [vR 0, none, none, vI x3, none, none, vI x6, vR 1, vL e63.1, none, vL e63.2, none, vI x12, vI x13, none, none, none, none, none, none, none, vI (0:Int32), none, none, none, none, none, none], [], (H0 s p0))) rfl ?_
 obtain ⟨e94, he94, h⟩ := bind_eq_some_iff.mp h
 refine zM [tt,ff,ff,tt,ff,ff,tt,tt,tt,ff,tt,ff,tt,tt,ff,ff,ff,ff,ff,ff,ff,tt,ff,ff,ff,ff,ff,ff] (loopN_tri (B := B0_695 s p0 x3 x6 e63.1 e63.2 x12 x13) (T := fun lv95 => QTri l Z n0 ad 0 (695, [vR 0, none, none, vI x3, none, none, vI x6, vR 1, vL e63.1, none, vL e63.2, none, vI x12, vI x13, none, none, none, none, none, none, none, vI lv95, none, none, none, none, none, none], [], (H0 s p0)) u τ) (KE := fun e => match e with | .inl e94a => QTri l Z n0 ad 0 (772, [vR 0, none, none, vI x3, none, none, vI x6, vR 1, vL e63.1, none, vL e63.2, none, vI x12, vI x13, none, none, none, none, none, none, none, none, none, none, none, none, none, none], [], (H0 s p0)) u τ | .inr e94a => u = (some (Value.int e94a.1)) ∧ τ = e94a.2) (fun lv95 r hB hE hC => tB0_695 Ad W s p0 x3 x6 e63.1 e63.2 x12 x13 lv95 hB (fun x q => hE _ q) (fun x q => hE _ q) (fun x q => hC x q)) qN (0:Int32) e94 he94 ?_)
 rcases e94 with e94a | e94a
 ·refine zS Ad W 2 (st' := (80, [vR 0, none, none, vI x3, none, none, vI x6, vR 1, vL e63.1, none, vL e63.2, none, vI x12, vI (x13 + (2:Int32)), none, none, none, none, none, none, none, none, none, none, none, none, none, none], [], (H0 s p0))) rfl ?_
  obtain rfl := Option.some.inj h
  exact zM [tt,ff,ff,tt,ff,ff,tt,tt,tt,ff,tt,ff,tt,tt,ff,ff,ff,ff,ff,ff,ff,ff,ff,ff,ff,ff,ff,ff] (hc (e63.1, e63.2, x12, (x13 + (2:Int32)), p0) rfl)
 ·obtain rfl := Option.some.inj h
  exact hx0 e94a rfl
def J10_14 (x1 : Int32) (x2 : Int32) : Option (Int32) :=
  (if x2 < (0 : Int32) then some (0 : Int32) else (if (15 : Int32) < x2 then some (0 : Int32) else (if x1 = (17 : Int32) then (if x2 = (0 : Int32) then some (1 : Int32) else some (0 : Int32)) else some (1 : Int32))))
theorem tJ10_14 (Ad : QAd n0 ad) (W : QW Z a0) {σ : QHeap} (x1 : Int32) (x2 : Int32) {r : Int32} (h : J10_14 x1 x2 = some r) : QTri l Z n0 ad 10 (14, [none, vI x1, vI x2], [], σ) (some (Value.int r)) σ := by
 unfold J10_14 at h
 refine zS Ad W 1 (st' := (15, [none, vI x1, vI x2], [.int x2], σ)) rfl ?_
 rcases qite h with ⟨hc115, h⟩ | ⟨hc115, h⟩
 ·refine zT Ad W (t := 24) (f := 18) rfl (XT.i0_lt_t hc115) ?_
  refine zS Ad W 1 (st' := (25, [none, vI x1, vI x2], [.int (0:Int32)], σ)) rfl ?_
  obtain rfl := Option.some.inj h
  exact QTri.retZ rfl rfl
 ·refine zF Ad W (t := 24) (f := 18) rfl (XT.i0_lt_f hc115) ?_
  refine zS Ad W 2 (st' := (21, [none, vI x1, vI x2], [.int (15:Int32), .int x2], σ)) rfl ?_
  rcases qite h with ⟨hc116, h⟩ | ⟨hc116, h⟩
  ·refine zF Ad W (t := 26) (f := 24) rfl (XT.ii_le_f hc116) ?_
   refine zS Ad W 1 (st' := (25, [none, vI x1, vI x2], [.int (0:Int32)], σ)) rfl ?_
   obtain rfl := Option.some.inj h
   exact QTri.retZ rfl rfl
  ·refine zT Ad W (t := 26) (f := 24) rfl (XT.ii_le_t hc116) ?_
   refine zS Ad W 2 (st' := (29, [none, vI x1, vI x2], [.int (17:Int32), .int x1], σ)) rfl ?_
   rcases qite h with ⟨hc117, h⟩ | ⟨hc117, h⟩
   ·refine zF Ad W (t := 36) (f := 32) rfl (XT.ii_ne_f hc117) ?_
    refine zS Ad W 1 (st' := (33, [none, vI x1, vI x2], [.int x2], σ)) rfl ?_
    rcases qite h with ⟨hc118, h⟩ | ⟨hc118, h⟩
    ·refine zF Ad W (t := 40) (f := 36) rfl (XT.i0_ne_f hc118) ?_
     refine zS Ad W 2 (st' := (41, [none, vI x1, vI x2], [.int (1:Int32)], σ)) rfl ?_
     obtain rfl := Option.some.inj h
     exact QTri.retZ rfl rfl
    ·refine zT Ad W (t := 40) (f := 36) rfl (XT.i0_ne_t hc118) ?_
     refine zS Ad W 1 (st' := (41, [none, vI x1, vI x2], [.int (0:Int32)], σ)) rfl ?_
     obtain rfl := Option.some.inj h
     exact QTri.retZ rfl rfl
   ·refine zT Ad W (t := 36) (f := 32) rfl (XT.ii_ne_t hc117) ?_
    refine zS Ad W 2 (st' := (41, [none, vI x1, vI x2], [.int (1:Int32)], σ)) rfl ?_
    obtain rfl := Option.some.inj h
    exact QTri.retZ rfl rfl
/-- validProtoFlags(II)Z -/
def F10 (x1 : Int32) (x2 : Int32) : Option (Int32) :=
 (if x1 = (17:Int32) then (J10_14 x1 x2) else (if x1 = (6:Int32) then (J10_14 x1 x2) else some (0:Int32)))
theorem tF10 (Ad : QAd n0 ad) (W : QW Z a0) {a : Nat} {σ : QHeap} (x1 : Int32) (x2 : Int32) {r : Int32} (h : F10 x1 x2 = some r) : QTri l Z n0 ad 10 (0, qentry [.ref a, .int x1, .int x2] (pMaxL 10), [], σ) (some (Value.int r)) σ := by
 unfold F10 at h
 refine zS Ad W 2 (st' := (3, [vR a, vI x1, vI x2], [.int (17:Int32), .int x1], σ)) rfl ?_
 rcases qite h with ⟨hc114, h⟩ | ⟨hc114, h⟩
 ·refine zT Ad W (t := 14) (f := 6) rfl (XT.ii_eq_t hc114) ?_
  exact zM [ff,tt,tt] (tJ10_14 Ad W x1 x2 h)
 ·refine zF Ad W (t := 14) (f := 6) rfl (XT.ii_eq_f hc114) ?_
  refine zS Ad W 2 (st' := (9, [vR a, vI x1, vI x2], [.int (6:Int32), .int x1], σ)) rfl ?_
  rcases qite h with ⟨hc119, h⟩ | ⟨hc119, h⟩
  ·refine zT Ad W (t := 14) (f := 12) rfl (XT.ii_eq_t hc119) ?_
   exact zM [ff,tt,tt] (tJ10_14 Ad W x1 x2 h)
  ·refine zF Ad W (t := 14) (f := 12) rfl (XT.ii_eq_f hc119) ?_
   refine zS Ad W 1 (st' := (13, [vR a, vI x1, vI x2], [.int (0:Int32)], σ)) rfl ?_
   obtain rfl := Option.some.inj h
   exact QTri.retZ rfl rfl
/-- availTime(I)I -/
def F16 (o : Ob) (x1 : Int32) : Option (Int32) :=
 (aget (f_used o) x1).bind fun y131 => (if y131 = (0:Int32) then some (0:Int32) else (aget (f_freedAt o) x1).bind fun y133 => some (y133 + (f_cooldown o)))
theorem tF16 (Ad : QAd n0 ad) (W : QW Z a0) (s : List Int32) (o : Ob) (x1 : Int32) {r : Int32} (h : F16 o x1 = some r) : QTri l Z n0 ad 16 (0, qentry [.ref 1, .int x1] (pMaxL 16), [], (H0 s o)) (some (Value.int r)) (H0 s o) := by
 unfold F16 at h
 refine zS Ad W 3 (st' := (5, [vR 1, vI x1], [.int x1, .ref 3], (H0 s o))) rfl ?_
 obtain ⟨y131, hy131, h⟩ := bind_eq_some_iff.mp h
 refine zB Ad W (f := fun y131 => (6, [vR 1, vI x1], [.int y131], (H0 s o))) rfl hy131 ?_
 rcases qite h with ⟨hc132, h⟩ | ⟨hc132, h⟩
 ·refine zF Ad W (t := 11) (f := 9) rfl (XT.i0_ne_f hc132) ?_
  refine zS Ad W 1 (st' := (10, [vR 1, vI x1], [.int (0:Int32)], (H0 s o))) rfl ?_
  obtain rfl := Option.some.inj h
  exact QTri.retI rfl rfl
 ·refine zT Ad W (t := 11) (f := 9) rfl (XT.i0_ne_t hc132) ?_
  refine zS Ad W 3 (st' := (16, [vR 1, vI x1], [.int x1, .ref 4], (H0 s o))) rfl ?_
  obtain ⟨y133, hy133, h⟩ := bind_eq_some_iff.mp h
  refine zB Ad W (f := fun y133 => (17, [vR 1, vI x1], [.int y133], (H0 s o))) rfl hy133 ?_
  refine zS Ad W 3 (st' := (22, [vR 1, vI x1], [.int (y133 + (f_cooldown o))], (H0 s o))) rfl ?_
  obtain rfl := Option.some.inj h
  exact QTri.retI rfl rfl
def J15_33 (o : Ob) (x1 : Int32) : Option (((Int32)) ⊕ (Int32)) :=
  some (.inr (x1 + (1 : Int32)))
theorem tJ15_33 (Ad : QAd n0 ad) (W : QW Z a0) (s : List Int32) (o : Ob) (x1 : Int32) {r : ((Int32)) ⊕ (Int32)} {u : Option Value} {τ : QHeap} (h : J15_33 o x1 = some r) (hx0 : ∀ x : Int32, r = .inl x → u = (some (Value.int x)) ∧ τ = (H0 s o)) (hc : ∀ x : Int32, r = .inr x → QTri l Z n0 ad 15 (2, [vR 1, vI x], [], (H0 s o)) u τ) : QTri l Z n0 ad 15 (33, [vR 1, vI x1], [], (H0 s o)) u τ := by
 unfold J15_33 at h
 refine zS Ad W 2 (st' := (2, [vR 1, vI (x1 + (1:Int32))], [], (H0 s o))) rfl ?_
 obtain rfl := Option.some.inj h
 exact zM [tt,tt] (hc (x1 + (1:Int32)) rfl)
def B15_2 (o : Ob) (v : Int32) : Option (((Int32)) ⊕ (Int32)) :=
  (if v < (f_poolSize o) then (aget (f_live o) v).bind fun y129 => (if y129 = (0 : Int32) then (F16 o v).bind fun r134 => (if (f_clock o) < r134 then (J15_33 o v) else some (.inl v)) else (J15_33 o v)) else some (.inl (-1 : Int32)))
theorem tB15_2 (Ad : QAd n0 ad) (W : QW Z a0) (s : List Int32) (o : Ob) (v : Int32) {r : ((Int32)) ⊕ (Int32)} {u : Option Value} {τ : QHeap} (h : B15_2 o v = some r) (hx0 : ∀ x : Int32, r = .inl x → u = (some (Value.int x)) ∧ τ = (H0 s o)) (hc : ∀ x : Int32, r = .inr x → QTri l Z n0 ad 15 (2, [vR 1, vI x], [], (H0 s o)) u τ) : QTri l Z n0 ad 15 (2, [vR 1, vI v], [], (H0 s o)) u τ := by
 unfold B15_2 at h
 refine zS Ad W 3 (st' := (7, [vR 1, vI v], [.int (f_poolSize o), .int v], (H0 s o))) rfl ?_
 rcases qite h with ⟨hc128, h⟩ | ⟨hc128, h⟩
 ·refine zF Ad W (t := 39) (f := 10) rfl (XT.ii_ge_f hc128) ?_
  refine zS Ad W 3 (st' := (15, [vR 1, vI v], [.int v, .ref 2], (H0 s o))) rfl ?_
  obtain ⟨y129, hy129, h⟩ := bind_eq_some_iff.mp h
  refine zB Ad W (f := fun y129 => (16, [vR 1, vI v], [.int y129], (H0 s o))) rfl hy129 ?_
  rcases qite h with ⟨hc130, h⟩ | ⟨hc130, h⟩
  ·refine zF Ad W (t := 33) (f := 19) rfl (XT.i0_ne_f hc130) ?_
   refine zS Ad W 2 (st' := (21, [vR 1, vI v], [.int v, .ref 1], (H0 s o))) rfl ?_
   obtain ⟨r134, hr134, h⟩ := bind_eq_some_iff.mp h
   refine QTri.callP W (a := 1) (as := [.int v]) (rest := []) (w := (some (.int r134))) (σ₁ := (H0 s o)) rfl rfl rfl rfl rfl rfl rfl rfl (tF16 Ad W s o v hr134) ?_
   refine zS Ad W 2 (st' := (28, [vR 1, vI v], [.int (f_clock o), .int r134], (H0 s o))) rfl ?_
   rcases qite h with ⟨hc135, h⟩ | ⟨hc135, h⟩
   ·refine zT Ad W (t := 33) (f := 31) rfl (XT.ii_gt_t hc135) ?_
    exact zM [tt,tt] (tJ15_33 Ad W s o v h hx0 hc)
   ·refine zF Ad W (t := 33) (f := 31) rfl (XT.ii_gt_f hc135) ?_
    refine zS Ad W 1 (st' := (32, [vR 1, vI v], [.int v], (H0 s o))) rfl ?_
    obtain rfl := Option.some.inj h
    obtain ⟨rfl, rfl⟩ := hx0 v rfl
    exact QTri.retI rfl rfl
  ·refine zT Ad W (t := 33) (f := 19) rfl (XT.i0_ne_t hc130) ?_
   exact zM [tt,tt] (tJ15_33 Ad W s o v h hx0 hc)
 ·refine zT Ad W (t := 39) (f := 10) rfl (XT.ii_ge_t hc128) ?_
  refine zS Ad W 1 (st' := (40, [vR 1, vI v], [.int (-1:Int32)], (H0 s o))) rfl ?_
  obtain rfl := Option.some.inj h
  obtain ⟨rfl, rfl⟩ := hx0 (-1:Int32) rfl
  exact QTri.retI rfl rfl
/-- allocatableSlot()I -/
def F15 (o : Ob) : Option (Int32) :=
 (loopN (B15_2 o) qN (0:Int32)).bind fun e136 => some e136
theorem tF15 (Ad : QAd n0 ad) (W : QW Z a0) (s : List Int32) (o : Ob) {r : Int32} (h : F15 o = some r) : QTri l Z n0 ad 15 (0, qentry [.ref 1] (pMaxL 15), [], (H0 s o)) (some (Value.int r)) (H0 s o) := by
 unfold F15 at h
 refine zS Ad W 2 (st' := (2, [vR 1, vI (0:Int32)], [], (H0 s o))) rfl ?_
 obtain ⟨e136, he136, h⟩ := bind_eq_some_iff.mp h
 refine zM [tt,tt] (loopN_tri (B := B15_2 o) (T := fun lv137 => QTri l Z n0 ad 15 (2, [vR 1, vI lv137], [], (H0 s o)) (some (Value.int r)) (H0 s o)) (KE := fun e136a => (some (Value.int r)) = (some (Value.int e136a)) ∧ (H0 s o) = (H0 s o)) (fun lv137 r hB hE hC => tB15_2 Ad W s o lv137 hB (fun x q => hE _ q) (fun x q => hC x q)) qN (0:Int32) e136 he136 ?_)
 obtain rfl := Option.some.inj h
 exact ⟨rfl, rfl⟩
def H0x13 (s : List Int32) (o0 : Ob) (a0_0 : List Int32) : QHeap := H0v s a0_0 (f_used o0) (f_freedAt o0) (f_protoOf o0) (f_hostOf o0) (f_iportOf o0) (f_stateAt o0) (f_deadlineAt o0) (f_perm o0) (f_poolSize o0) (f_udpTimeout o0) (f_tcpTimeout o0) (f_cooldown o0) (f_clock o0) (f_remAddr o0) (f_remPort o0) (f_regHost o0) (f_regPort o0) (f_regExt o0)
def H0x14 (s : List Int32) (o0 : Ob) (a0_0 : List Int32) (a0_3 : List Int32) : QHeap := H0v s a0_0 (f_used o0) (f_freedAt o0) a0_3 (f_hostOf o0) (f_iportOf o0) (f_stateAt o0) (f_deadlineAt o0) (f_perm o0) (f_poolSize o0) (f_udpTimeout o0) (f_tcpTimeout o0) (f_cooldown o0) (f_clock o0) (f_remAddr o0) (f_remPort o0) (f_regHost o0) (f_regPort o0) (f_regExt o0)
def H0x15 (s : List Int32) (o0 : Ob) (a0_0 : List Int32) (a0_3 : List Int32) (a0_4 : List Int32) : QHeap := H0v s a0_0 (f_used o0) (f_freedAt o0) a0_3 a0_4 (f_iportOf o0) (f_stateAt o0) (f_deadlineAt o0) (f_perm o0) (f_poolSize o0) (f_udpTimeout o0) (f_tcpTimeout o0) (f_cooldown o0) (f_clock o0) (f_remAddr o0) (f_remPort o0) (f_regHost o0) (f_regPort o0) (f_regExt o0)
def H0x16 (s : List Int32) (o0 : Ob) (a0_0 : List Int32) (a0_3 : List Int32) (a0_4 : List Int32) (a0_5 : List Int32) : QHeap := H0v s a0_0 (f_used o0) (f_freedAt o0) a0_3 a0_4 a0_5 (f_stateAt o0) (f_deadlineAt o0) (f_perm o0) (f_poolSize o0) (f_udpTimeout o0) (f_tcpTimeout o0) (f_cooldown o0) (f_clock o0) (f_remAddr o0) (f_remPort o0) (f_regHost o0) (f_regPort o0) (f_regExt o0)
def H0x17 (s : List Int32) (o0 : Ob) (a0_0 : List Int32) (a0_3 : List Int32) (a0_4 : List Int32) (a0_5 : List Int32) (a0_6 : List Int32) : QHeap := H0v s a0_0 (f_used o0) (f_freedAt o0) a0_3 a0_4 a0_5 a0_6 (f_deadlineAt o0) (f_perm o0) (f_poolSize o0) (f_udpTimeout o0) (f_tcpTimeout o0) (f_cooldown o0) (f_clock o0) (f_remAddr o0) (f_remPort o0) (f_regHost o0) (f_regPort o0) (f_regExt o0)
def H0x18 (s : List Int32) (o0 : Ob) (a0_0 : List Int32) (a0_3 : List Int32) (a0_4 : List Int32) (a0_5 : List Int32) (a0_6 : List Int32) (a0_7 : List Int32) : QHeap := H0v s a0_0 (f_used o0) (f_freedAt o0) a0_3 a0_4 a0_5 a0_6 a0_7 (f_perm o0) (f_poolSize o0) (f_udpTimeout o0) (f_tcpTimeout o0) (f_cooldown o0) (f_clock o0) (f_remAddr o0) (f_remPort o0) (f_regHost o0) (f_regPort o0) (f_regExt o0)
def H0x19 (s : List Int32) (o0 : Ob) (a0_8 : List Int64) : QHeap := H0v s (f_live o0) (f_used o0) (f_freedAt o0) (f_protoOf o0) (f_hostOf o0) (f_iportOf o0) (f_stateAt o0) (f_deadlineAt o0) a0_8 (f_poolSize o0) (f_udpTimeout o0) (f_tcpTimeout o0) (f_cooldown o0) (f_clock o0) (f_remAddr o0) (f_remPort o0) (f_regHost o0) (f_regPort o0) (f_regExt o0)
def B18_6 (x2 : Int32) (v : Int32 × Ob) : Option (((Ob)) ⊕ (Int32 × Ob)) :=
  (if v.1 < (4 : Int32) then (aset (f_perm v.2) (x2 + v.1) (0 : Int64)).bind fun y151 => some (.inr ((v.1 + (1 : Int32)), (s_perm v.2 y151))) else some (.inl v.2))
theorem tB18_6 (Ad : QAd n0 ad) (W : QW Z a0) (s : List Int32) (x2 : Int32) (v : Int32 × Ob) {r : ((Ob)) ⊕ (Int32 × Ob)} {u : Option Value} {τ : QHeap} (h : B18_6 x2 v = some r) (hx0 : ∀ x : Ob, r = .inl x → u = (none : Option Value) ∧ τ = (H0 s x)) (hc : ∀ x : Int32 × Ob, r = .inr x → QTri l Z n0 ad 18 (6, [vR 1, none, vI x2, vI x.1], [], (H0 s x.2)) u τ) : QTri l Z n0 ad 18 (6, [vR 1, none, vI x2, vI v.1], [], (H0 s v.2)) u τ := by
 unfold B18_6 at h
 refine zS Ad W 2 (st' := (8, [vR 1, none, vI x2, vI v.1], [.int (4:Int32), .int v.1], (H0 s v.2))) rfl ?_
 rcases qite h with ⟨hc150, h⟩ | ⟨hc150, h⟩
 ·refine zF Ad W (t := 26) (f := 11) rfl (XT.ii_ge_f hc150) ?_
  refine zS Ad W 6 (st' := (19, [vR 1, none, vI x2, vI v.1], [.long (0 : Int64), .int (x2 + v.1), .ref 10], (H0 s v.2))) rfl ?_
  obtain ⟨y151, hy151, h⟩ := bind_eq_some_iff.mp h
  refine zB Ad W (f := fun y151 => (20, [vR 1, none, vI x2, vI v.1], [], (H0x19 s v.2 y151))) rfl hy151 ?_
  refine zS Ad W 2 (st' := (6, [vR 1, none, vI x2, vI (v.1 + (1:Int32))], [], (H0x19 s v.2 y151))) rfl ?_
  have E152 : ((H0x19 s v.2 y151) : QHeap) = (H0 s (s_perm v.2 y151)) := by simp only [fs, H0, H0v, H0x19, s_perm]
  rw [E152]
  obtain rfl := Option.some.inj h
  exact zM [tt,ff,tt,tt] (hc ((v.1 + (1:Int32)), (s_perm v.2 y151)) rfl)
 ·refine zT Ad W (t := 26) (f := 11) rfl (XT.ii_ge_t hc150) ?_
  obtain rfl := Option.some.inj h
  obtain ⟨rfl, rfl⟩ := hx0 v.2 rfl
  exact QTri.ret0 rfl rfl
/-- clearPerm(I)V -/
def F18 (o : Ob) (x1 : Int32) : Option (Ob) :=
 (loopN (B18_6 (x1 * (4:Int32))) qN ((0:Int32), o)).bind fun e153 => some e153
theorem tF18 (Ad : QAd n0 ad) (W : QW Z a0) (s : List Int32) (o : Ob) (x1 : Int32) {r : Ob} (h : F18 o x1 = some r) : QTri l Z n0 ad 18 (0, qentry [.ref 1, .int x1] (pMaxL 18), [], (H0 s o)) (none : Option Value) (H0 s r) := by
 unfold F18 at h
 refine zS Ad W 6 (st' := (6, [vR 1, vI x1, vI (x1 * (4:Int32)), vI (0:Int32)], [], (H0 s o))) rfl ?_
 obtain ⟨e153, he153, h⟩ := bind_eq_some_iff.mp h
 refine zM [tt,ff,tt,tt] (loopN_tri (B := B18_6 (x1 * (4:Int32))) (T := fun lv154 => QTri l Z n0 ad 18 (6, [vR 1, none, vI (x1 * (4:Int32)), vI lv154.1], [], (H0 s lv154.2)) (none : Option Value) (H0 s r)) (KE := fun e153a => (none : Option Value) = (none : Option Value) ∧ (H0 s r) = (H0 s e153a)) (fun lv154 r hB hE hC => tB18_6 Ad W s (x1 * (4:Int32)) lv154 hB (fun x q => hE _ q) (fun x q => hC x q)) qN ((0:Int32), o) e153 he153 ?_)
 obtain rfl := Option.some.inj h
 exact ⟨rfl, rfl⟩
/-- openMapping(IIII)V -/
def F17 (o : Ob) (x1 : Int32) (x2 : Int32) (x3 : Int32) (x4 : Int32) : Option (Ob) :=
 (aset (f_live o) x1 (1:Int32)).bind fun y140 => (aset (f_protoOf o) x1 x2).bind fun y141 => (aset (f_hostOf o) x1 x3).bind fun y142 => (aset (f_iportOf o) x1 x4).bind fun y143 => (aset (f_stateAt o) x1 (if x2 = (17:Int32) then (0:Int32) else (1:Int32))).bind fun y147 => (aset (f_deadlineAt o) x1 (f_clock o)).bind fun y148 => (F18 (s_deadlineAt (s_stateAt (s_iportOf (s_hostOf (s_protoOf (s_live o y140) y141) y142) y143) y147) y148) x1).bind fun r155 => some r155
theorem tF17 (Ad : QAd n0 ad) (W : QW Z a0) (s : List Int32) (o : Ob) (x1 : Int32) (x2 : Int32) (x3 : Int32) (x4 : Int32) {r : Ob} (h : F17 o x1 x2 x3 x4 = some r) : QTri l Z n0 ad 17 (0, qentry [.ref 1, .int x1, .int x2, .int x3, .int x4] (pMaxL 17), [], (H0 s o)) (none : Option Value) (H0 s r) := by
 unfold F17 at h
 refine zS Ad W 4 (st' := (6, [vR 1, vI x1, vI x2, vI x3, vI x4], [.int (1:Int32), .int x1, .ref 2], (H0 s o))) rfl ?_
 obtain ⟨y140, hy140, h⟩ := bind_eq_some_iff.mp h
 refine zB Ad W (f := fun y140 => (7, [vR 1, vI x1, vI x2, vI x3, vI x4], [], (H0x13 s o y140))) rfl hy140 ?_
 refine zS Ad W 4 (st' := (13, [vR 1, vI x1, vI x2, vI x3, vI x4], [.int x2, .int x1, .ref 5], (H0x13 s o y140))) rfl ?_
 obtain ⟨y141, hy141, h⟩ := bind_eq_some_iff.mp h
 refine zB Ad W (f := fun y141 => (14, [vR 1, vI x1, vI x2, vI x3, vI x4], [], (H0x14 s o y140 y141))) rfl hy141 ?_
 refine zS Ad W 4 (st' := (20, [vR 1, vI x1, vI x2, vI x3, vI x4], [.int x3, .int x1, .ref 6], (H0x14 s o y140 y141))) rfl ?_
 obtain ⟨y142, hy142, h⟩ := bind_eq_some_iff.mp h
 refine zB Ad W (f := fun y142 => (21, [vR 1, vI x1, vI x2, vI x3, vI x4], [], (H0x15 s o y140 y141 y142))) rfl hy142 ?_
 refine zS Ad W 4 (st' := (28, [vR 1, vI x1, vI x2, vI x3, vI x4], [.int x4, .int x1, .ref 7], (H0x15 s o y140 y141 y142))) rfl ?_
 obtain ⟨y143, hy143, h⟩ := bind_eq_some_iff.mp h
 refine zB Ad W (f := fun y143 => (29, [vR 1, vI x1, vI x2, vI x3, vI x4], [], (H0x16 s o y140 y141 y142 y143))) rfl hy143 ?_
 refine zS Ad W 5 (st' := (37, [vR 1, vI x1, vI x2, vI x3, vI x4], [.int (17:Int32), .int x2, .int x1, .ref 8], (H0x16 s o y140 y141 y142 y143))) rfl ?_
 have K145 : ∀ z144 : Int32, z144 = (if x2 = (17:Int32) then (0:Int32) else (1:Int32)) → QTri l Z n0 ad 17 (45, [vR 1, vI x1, none, none, none], [.int z144, .int x1, .ref 8], (H0x16 s o y140 y141 y142 y143)) (none : Option Value) (H0 s r) := by
  intro z144 ez144
  subst ez144
  obtain ⟨y147, hy147, h⟩ := bind_eq_some_iff.mp h
  refine zB Ad W (f := fun y147 => (46, [vR 1, vI x1, none, none, none], [], (H0x17 s o y140 y141 y142 y143 y147))) rfl hy147 ?_
  refine zS Ad W 5 (st' := (55, [vR 1, vI x1, none, none, none], [.int (f_clock o), .int x1, .ref 9], (H0x17 s o y140 y141 y142 y143 y147))) rfl ?_
  obtain ⟨y148, hy148, h⟩ := bind_eq_some_iff.mp h
  refine zB Ad W (f := fun y148 => (56, [vR 1, vI x1, none, none, none], [], (H0x18 s o y140 y141 y142 y143 y147 y148))) rfl hy148 ?_
  refine zS Ad W 2 (st' := (58, [vR 1, vI x1, none, none, none], [.int x1, .ref 1], (H0x18 s o y140 y141 y142 y143 y147 y148))) rfl ?_
  have E149 : ((H0x18 s o y140 y141 y142 y143 y147 y148) : QHeap) = (H0 s (s_deadlineAt (s_stateAt (s_iportOf (s_hostOf (s_protoOf (s_live o y140) y141) y142) y143) y147) y148)) := by simp only [fs, H0, H0v, H0x18, s_live, s_protoOf, s_hostOf, s_iportOf, s_stateAt, s_deadlineAt]
  rw [E149]
  obtain ⟨r155, hr155, h⟩ := bind_eq_some_iff.mp h
  refine QTri.callP W (a := 1) (as := [.int x1]) (rest := []) (w := none) (σ₁ := (H0 s r155)) rfl rfl rfl rfl rfl rfl rfl rfl (tF18 Ad W s (s_deadlineAt (s_stateAt (s_iportOf (s_hostOf (s_protoOf (s_live o y140) y141) y142) y143) y147) y148) x1 hr155) ?_
  obtain rfl := Option.some.inj h
  exact QTri.ret0 rfl rfl
 rcases em (x2 = (17:Int32)) with hc146 | hc146
 ·refine zF Ad W (t := 44) (f := 40) rfl (XT.ii_ne_f hc146) ?_
  refine zS Ad W 2 (st' := (45, [vR 1, vI x1, vI x2, vI x3, vI x4], [.int (0:Int32), .int x1, .ref 8], (H0x16 s o y140 y141 y142 y143))) rfl ?_
  exact zM [tt,tt,ff,ff,ff] (K145 _ (if_pos hc146).symm)
 ·refine zT Ad W (t := 44) (f := 40) rfl (XT.ii_ne_t hc146) ?_
  refine zS Ad W 1 (st' := (45, [vR 1, vI x1, vI x2, vI x3, vI x4], [.int (1:Int32), .int x1, .ref 8], (H0x16 s o y140 y141 y142 y143))) rfl ?_
  exact zM [tt,tt,ff,ff,ff] (K145 _ (if_neg hc146).symm)
/-- addPerm(II)V -/
def F19 (o : Ob) (x1 : Int32) (x2 : Int32) : Option (Ob) :=
 (aget (f_perm o) ((x1 * (4:Int32)) + ((x2 >>> ((6:Int32) &&& 31)) &&& (3:Int32)))).bind fun y157 => (aset (f_perm o) ((x1 * (4:Int32)) + ((x2 >>> ((6:Int32) &&& 31)) &&& (3:Int32))) (y157 ||| ((1 : Int64) <<< ((x2 &&& (63:Int32)).toInt64 &&& 63)))).bind fun y158 => some (s_perm o y158)
theorem tF19 (Ad : QAd n0 ad) (W : QW Z a0) (s : List Int32) (o : Ob) (x1 : Int32) (x2 : Int32) {r : Ob} (h : F19 o x1 x2 = some r) : QTri l Z n0 ad 19 (0, qentry [.ref 1, .int x1, .int x2] (pMaxL 19), [], (H0 s o)) (none : Option Value) (H0 s r) := by
 unfold F19 at h
 refine zS Ad W 12 (st' := (15, [vR 1, vI x1, vI x2, vI ((x1 * (4:Int32)) + ((x2 >>> ((6:Int32) &&& 31)) &&& (3:Int32)))], [.ref 10], (H0 s o))) rfl ?_
 refine zS Ad W 4 (st' := (21, [vR 1, vI x1, vI x2, vI ((x1 * (4:Int32)) + ((x2 >>> ((6:Int32) &&& 31)) &&& (3:Int32)))], [.int ((x1 * (4:Int32)) + ((x2 >>> ((6:Int32) &&& 31)) &&& (3:Int32))), .ref 10, .int ((x1 * (4:Int32)) + ((x2 >>> ((6:Int32) &&& 31)) &&& (3:Int32))), .ref 10], (H0 s o))) rfl ?_
 obtain ⟨y157, hy157, h⟩ := bind_eq_some_iff.mp h
 refine zB Ad W (f := fun y157 => (22, [vR 1, vI x1, vI x2, vI ((x1 * (4:Int32)) + ((x2 >>> ((6:Int32) &&& 31)) &&& (3:Int32)))], [.long y157, .int ((x1 * (4:Int32)) + ((x2 >>> ((6:Int32) &&& 31)) &&& (3:Int32))), .ref 10], (H0 s o))) rfl hy157 ?_
 refine zS Ad W 6 (st' := (29, [vR 1, vI x1, vI x2, vI ((x1 * (4:Int32)) + ((x2 >>> ((6:Int32) &&& 31)) &&& (3:Int32)))], [.long (y157 ||| ((1 : Int64) <<< ((x2 &&& (63:Int32)).toInt64 &&& 63))), .int ((x1 * (4:Int32)) + ((x2 >>> ((6:Int32) &&& 31)) &&& (3:Int32))), .ref 10], (H0 s o))) rfl ?_
 obtain ⟨y158, hy158, h⟩ := bind_eq_some_iff.mp h
 refine zB Ad W (f := fun y158 => (30, [vR 1, vI x1, vI x2, vI ((x1 * (4:Int32)) + ((x2 >>> ((6:Int32) &&& 31)) &&& (3:Int32)))], [], (H0x19 s o y158))) rfl hy158 ?_
 have E159 : ((H0x19 s o y158) : QHeap) = (H0 s (s_perm o y158)) := by simp only [fs, H0, H0v, H0x19, s_perm]
 rw [E159]
 obtain rfl := Option.some.inj h
 exact QTri.ret0 rfl rfl
def H0x20 (s : List Int32) (o0 : Ob) (a0_6 : List Int32) : QHeap := H0v s (f_live o0) (f_used o0) (f_freedAt o0) (f_protoOf o0) (f_hostOf o0) (f_iportOf o0) a0_6 (f_deadlineAt o0) (f_perm o0) (f_poolSize o0) (f_udpTimeout o0) (f_tcpTimeout o0) (f_cooldown o0) (f_clock o0) (f_remAddr o0) (f_remPort o0) (f_regHost o0) (f_regPort o0) (f_regExt o0)
/-- timeoutOf(I)I -/
def F21 (o : Ob) (x1 : Int32) : Option (Int32) :=
 (if x1 = (0:Int32) then some (f_udpTimeout o) else (if x1 = (2:Int32) then some (f_tcpTimeout o) else some (10:Int32)))
theorem tF21 (Ad : QAd n0 ad) (W : QW Z a0) (s : List Int32) (o : Ob) (x1 : Int32) {r : Int32} (h : F21 o x1 = some r) : QTri l Z n0 ad 21 (0, qentry [.ref 1, .int x1] (pMaxL 21), [], (H0 s o)) (some (Value.int r)) (H0 s o) := by
 unfold F21 at h
 refine zS Ad W 1 (st' := (1, [vR 1, vI x1], [.int x1], (H0 s o))) rfl ?_
 rcases qite h with ⟨hc179, h⟩ | ⟨hc179, h⟩
 ·refine zF Ad W (t := 9) (f := 4) rfl (XT.i0_ne_f hc179) ?_
  refine zS Ad W 2 (st' := (8, [vR 1, vI x1], [.int (f_udpTimeout o)], (H0 s o))) rfl ?_
  obtain rfl := Option.some.inj h
  exact QTri.retI rfl rfl
 ·refine zT Ad W (t := 9) (f := 4) rfl (XT.i0_ne_t hc179) ?_
  refine zS Ad W 2 (st' := (11, [vR 1, vI x1], [.int (2:Int32), .int x1], (H0 s o))) rfl ?_
  rcases qite h with ⟨hc180, h⟩ | ⟨hc180, h⟩
  ·refine zF Ad W (t := 19) (f := 14) rfl (XT.ii_ne_f hc180) ?_
   refine zS Ad W 2 (st' := (18, [vR 1, vI x1], [.int (f_tcpTimeout o)], (H0 s o))) rfl ?_
   obtain rfl := Option.some.inj h
   exact QTri.retI rfl rfl
  ·refine zT Ad W (t := 19) (f := 14) rfl (XT.ii_ne_t hc180) ?_
   refine zS Ad W 1 (st' := (21, [vR 1, vI x1], [.int (10:Int32)], (H0 s o))) rfl ?_
   obtain rfl := Option.some.inj h
   exact QTri.retI rfl rfl
def H0x21 (s : List Int32) (o0 : Ob) (a0_7 : List Int32) : QHeap := H0v s (f_live o0) (f_used o0) (f_freedAt o0) (f_protoOf o0) (f_hostOf o0) (f_iportOf o0) (f_stateAt o0) a0_7 (f_perm o0) (f_poolSize o0) (f_udpTimeout o0) (f_tcpTimeout o0) (f_cooldown o0) (f_clock o0) (f_remAddr o0) (f_remPort o0) (f_regHost o0) (f_regPort o0) (f_regExt o0)
def J20_112 (o : Ob) (x1 : Int32) (x4 : Int32) : Option (Ob) :=
  (aset (f_stateAt o) x1 x4).bind fun y177 => (F21 (s_stateAt o y177) x4).bind fun r181 => (aset (f_deadlineAt (s_stateAt o y177)) x1 ((f_clock o) + r181)).bind fun y182 => some (s_deadlineAt (s_stateAt o y177) y182)
theorem tJ20_112 (Ad : QAd n0 ad) (W : QW Z a0) (s : List Int32) (o : Ob) (x1 : Int32) (x4 : Int32) {r : Ob} (h : J20_112 o x1 x4 = some r) : QTri l Z n0 ad 20 (112, [vR 1, vI x1, none, none, vI x4, none, none], [], (H0 s o)) (none : Option Value) (H0 s r) := by
 unfold J20_112 at h
 refine zS Ad W 4 (st' := (119, [vR 1, vI x1, none, none, vI x4, none, none], [.int x4, .int x1, .ref 8], (H0 s o))) rfl ?_
 obtain ⟨y177, hy177, h⟩ := bind_eq_some_iff.mp h
 refine zB Ad W (f := fun y177 => (120, [vR 1, vI x1, none, none, vI x4, none, none], [], (H0x20 s o y177))) rfl hy177 ?_
 refine zS Ad W 7 (st' := (132, [vR 1, vI x1, none, none, vI x4, none, none], [.int x4, .ref 1, .int (f_clock o), .int x1, .ref 9], (H0x20 s o y177))) rfl ?_
 have E178 : ((H0x20 s o y177) : QHeap) = (H0 s (s_stateAt o y177)) := by simp only [fs, H0, H0v, H0x20, s_stateAt]
 rw [E178]
 obtain ⟨r181, hr181, h⟩ := bind_eq_some_iff.mp h
 refine QTri.callP W (a := 1) (as := [.int x4]) (rest := [.int (f_clock o), .int x1, .ref 9]) (w := (some (.int r181))) (σ₁ := (H0 s (s_stateAt o y177))) rfl rfl rfl rfl rfl rfl rfl rfl (tF21 Ad W s (s_stateAt o y177) x4 hr181) ?_
 refine zS Ad W 1 (st' := (136, [vR 1, vI x1, none, none, vI x4, none, none], [.int ((f_clock o) + r181), .int x1, .ref 9], (H0 s (s_stateAt o y177)))) rfl ?_
 obtain ⟨y182, hy182, h⟩ := bind_eq_some_iff.mp h
 refine zB Ad W (f := fun y182 => (137, [vR 1, vI x1, none, none, vI x4, none, none], [], (H0x21 s (s_stateAt o y177) y182))) rfl hy182 ?_
 have E183 : ((H0x21 s (s_stateAt o y177) y182) : QHeap) = (H0 s (s_deadlineAt (s_stateAt o y177) y182)) := (show ∀ b0 : Ob, ((H0x21 s b0 y182) : QHeap) = (H0 s (s_deadlineAt b0 y182)) from fun b0 => by simp only [fs, H0, H0v, H0x21, s_deadlineAt]) (s_stateAt o y177)
 rw [E183]
 obtain rfl := Option.some.inj h
 exact QTri.ret0 rfl rfl
def J20_89 (o : Ob) (x1 : Int32) (x3 : Int32) (x4 : Int32) (x5 : Int32) (x6 : Int32) : Option (Ob) :=
  (J20_112 o x1 (if x3 = (0 : Int32) then (if x4 = (3 : Int32) then (if x5 = (0 : Int32) then x4 else (if x6 = (0 : Int32) then (1 : Int32) else x4)) else x4) else x4))
theorem tJ20_89 (Ad : QAd n0 ad) (W : QW Z a0) (s : List Int32) (o : Ob) (x1 : Int32) (x3 : Int32) (x4 : Int32) (x5 : Int32) (x6 : Int32) {r : Ob} (h : J20_89 o x1 x3 x4 x5 x6 = some r) : QTri l Z n0 ad 20 (89, [vR 1, vI x1, none, vI x3, vI x4, vI x5, vI x6], [], (H0 s o)) (none : Option Value) (H0 s r) := by
 unfold J20_89 at h
 refine zS Ad W 1 (st' := (90, [vR 1, vI x1, none, vI x3, vI x4, vI x5, vI x6], [.int x3], (H0 s o))) rfl ?_
 have K172 : ∀ z171 : Int32, z171 = (if x3 = (0:Int32) then (if x4 = (3:Int32) then (if x5 = (0:Int32) then x4 else (if x6 = (0:Int32) then (1:Int32) else x4)) else x4) else x4) → QTri l Z n0 ad 20 (112, [vR 1, vI x1, none, none, vI z171, none, none], [], (H0 s o)) (none : Option Value) (H0 s r) := by
  intro z171 ez171
  subst ez171
  exact zM [tt,tt,ff,ff,tt,ff,ff] (tJ20_112 Ad W s o x1 (if x3 = (0:Int32) then (if x4 = (3:Int32) then (if x5 = (0:Int32) then x4 else (if x6 = (0:Int32) then (1:Int32) else x4)) else x4) else x4) h)
 rcases em (x3 = (0:Int32)) with hc173 | hc173
 ·refine zF Ad W (t := 112) (f := 93) rfl (XT.i0_ne_f hc173) ?_
  refine zS Ad W 2 (st' := (96, [vR 1, vI x1, none, vI x3, vI x4, vI x5, vI x6], [.int (3:Int32), .int x4], (H0 s o))) rfl ?_
  rcases em (x4 = (3:Int32)) with hc174 | hc174
  ·refine zF Ad W (t := 112) (f := 99) rfl (XT.ii_ne_f hc174) ?_
   refine zS Ad W 1 (st' := (101, [vR 1, vI x1, none, vI x3, vI x4, vI x5, vI x6], [.int x5], (H0 s o))) rfl ?_
   rcases em (x5 = (0:Int32)) with hc175 | hc175
   ·refine zT Ad W (t := 112) (f := 104) rfl (XT.i0_eq_t hc175) ?_
    exact zM [tt,tt,ff,ff,tt,ff,ff] (K172 _ ((if_pos hc173).trans ((if_pos hc174).trans (if_pos hc175))).symm)
   ·refine zF Ad W (t := 112) (f := 104) rfl (XT.i0_eq_f hc175) ?_
    refine zS Ad W 1 (st' := (106, [vR 1, vI x1, none, vI x3, vI x4, vI x5, vI x6], [.int x6], (H0 s o))) rfl ?_
    rcases em (x6 = (0:Int32)) with hc176 | hc176
    ·refine zF Ad W (t := 112) (f := 109) rfl (XT.i0_ne_f hc176) ?_
     refine zS Ad W 2 (st' := (112, [vR 1, vI x1, none, vI x3, vI (1:Int32), vI x5, vI x6], [], (H0 s o))) rfl ?_
     exact zM [tt,tt,ff,ff,tt,ff,ff] (K172 _ ((if_pos hc173).trans ((if_pos hc174).trans ((if_neg hc175).trans (if_pos hc176)))).symm)
    ·refine zT Ad W (t := 112) (f := 109) rfl (XT.i0_ne_t hc176) ?_
     exact zM [tt,tt,ff,ff,tt,ff,ff] (K172 _ ((if_pos hc173).trans ((if_pos hc174).trans ((if_neg hc175).trans (if_neg hc176)))).symm)
  ·refine zT Ad W (t := 112) (f := 99) rfl (XT.ii_ne_t hc174) ?_
   exact zM [tt,tt,ff,ff,tt,ff,ff] (K172 _ ((if_pos hc173).trans (if_neg hc174)).symm)
 ·refine zT Ad W (t := 112) (f := 93) rfl (XT.i0_ne_t hc173) ?_
  exact zM [tt,tt,ff,ff,tt,ff,ff] (K172 _ (if_neg hc173).symm)
def H0x22 (s : List Int32) (o0 : Ob) (a0_0 : List Int32) (a0_1 : List Int32) : QHeap := H0v s a0_0 a0_1 (f_freedAt o0) (f_protoOf o0) (f_hostOf o0) (f_iportOf o0) (f_stateAt o0) (f_deadlineAt o0) (f_perm o0) (f_poolSize o0) (f_udpTimeout o0) (f_tcpTimeout o0) (f_cooldown o0) (f_clock o0) (f_remAddr o0) (f_remPort o0) (f_regHost o0) (f_regPort o0) (f_regExt o0)
def H0x23 (s : List Int32) (o0 : Ob) (a0_0 : List Int32) (a0_1 : List Int32) (a0_2 : List Int32) : QHeap := H0v s a0_0 a0_1 a0_2 (f_protoOf o0) (f_hostOf o0) (f_iportOf o0) (f_stateAt o0) (f_deadlineAt o0) (f_perm o0) (f_poolSize o0) (f_udpTimeout o0) (f_tcpTimeout o0) (f_cooldown o0) (f_clock o0) (f_remAddr o0) (f_remPort o0) (f_regHost o0) (f_regPort o0) (f_regExt o0)
/-- release(II)V -/
def F35 (o : Ob) (x1 : Int32) (x2 : Int32) : Option (Ob) :=
 (aset (f_live o) x1 (0:Int32)).bind fun y197 => (aset (f_used o) x1 (1:Int32)).bind fun y198 => (aset (f_freedAt o) x1 x2).bind fun y199 => (F18 (s_freedAt (s_used (s_live o y197) y198) y199) x1).bind fun r201 => some r201
theorem tF35 (Ad : QAd n0 ad) (W : QW Z a0) (s : List Int32) (o : Ob) (x1 : Int32) (x2 : Int32) {r : Ob} (h : F35 o x1 x2 = some r) : QTri l Z n0 ad 35 (0, qentry [.ref 1, .int x1, .int x2] (pMaxL 35), [], (H0 s o)) (none : Option Value) (H0 s r) := by
 unfold F35 at h
 refine zS Ad W 4 (st' := (6, [vR 1, vI x1, vI x2], [.int (0:Int32), .int x1, .ref 2], (H0 s o))) rfl ?_
 obtain ⟨y197, hy197, h⟩ := bind_eq_some_iff.mp h
 refine zB Ad W (f := fun y197 => (7, [vR 1, vI x1, vI x2], [], (H0x13 s o y197))) rfl hy197 ?_
 refine zS Ad W 4 (st' := (13, [vR 1, vI x1, vI x2], [.int (1:Int32), .int x1, .ref 3], (H0x13 s o y197))) rfl ?_
 obtain ⟨y198, hy198, h⟩ := bind_eq_some_iff.mp h
 refine zB Ad W (f := fun y198 => (14, [vR 1, vI x1, vI x2], [], (H0x22 s o y197 y198))) rfl hy198 ?_
 refine zS Ad W 4 (st' := (20, [vR 1, vI x1, vI x2], [.int x2, .int x1, .ref 4], (H0x22 s o y197 y198))) rfl ?_
 obtain ⟨y199, hy199, h⟩ := bind_eq_some_iff.mp h
 refine zB Ad W (f := fun y199 => (21, [vR 1, vI x1, vI x2], [], (H0x23 s o y197 y198 y199))) rfl hy199 ?_
 refine zS Ad W 2 (st' := (23, [vR 1, vI x1, vI x2], [.int x1, .ref 1], (H0x23 s o y197 y198 y199))) rfl ?_
 have E200 : ((H0x23 s o y197 y198 y199) : QHeap) = (H0 s (s_freedAt (s_used (s_live o y197) y198) y199)) := by simp only [fs, H0, H0v, H0x23, s_live, s_used, s_freedAt]
 rw [E200]
 obtain ⟨r201, hr201, h⟩ := bind_eq_some_iff.mp h
 refine QTri.callP W (a := 1) (as := [.int x1]) (rest := []) (w := none) (σ₁ := (H0 s r201)) rfl rfl rfl rfl rfl rfl rfl rfl (tF18 Ad W s (s_freedAt (s_used (s_live o y197) y198) y199) x1 hr201) ?_
 obtain rfl := Option.some.inj h
 exact QTri.ret0 rfl rfl
/-- update(IIZ)V -/
def F20 (o : Ob) (x1 : Int32) (x2 : Int32) (x3 : Int32) : Option (Ob) :=
 (if (x2 &&& (8:Int32)) = (0:Int32) then (aget (f_stateAt o) x1).bind fun y162 => (if (x2 &&& (4:Int32)) = (0:Int32) then (if x3 = (0:Int32) then (J20_89 o x1 x3 y162 (if (x2 &&& (1:Int32)) = (0:Int32) then (0:Int32) else (1:Int32)) (if (x2 &&& (2:Int32)) = (0:Int32) then (0:Int32) else (1:Int32))) else (if y162 = (1:Int32) then (J20_112 o x1 (if (if (x2 &&& (1:Int32)) = (0:Int32) then (0:Int32) else (1:Int32)) = (0:Int32) then (if x3 = (0:Int32) then (if y162 = (3:Int32) then (if (if (x2 &&& (1:Int32)) = (0:Int32) then (0:Int32) else (1:Int32)) = (0:Int32) then y162 else (if (if (x2 &&& (2:Int32)) = (0:Int32) then (0:Int32) else (1:Int32)) = (0:Int32) then (1:Int32) else y162)) else y162) else y162) else (if (if (x2 &&& (2:Int32)) = (0:Int32) then (0:Int32) else (1:Int32)) = (0:Int32) then (if x3 = (0:Int32) then (if y162 = (3:Int32) then (if (if (x2 &&& (1:Int32)) = (0:Int32) then (0:Int32) else (1:Int32)) = (0:Int32) then y162 else (if (if (x2 &&& (2:Int32)) = (0:Int32) then (0:Int32) else (1:Int32)) = (0:Int32) then (1:Int32) else y162)) else y162) else y162) else (2:Int32)))) else (J20_89 o x1 x3 y162 (if (x2 &&& (1:Int32)) = (0:Int32) then (0:Int32) else (1:Int32)) (if (x2 &&& (2:Int32)) = (0:Int32) then (0:Int32) else (1:Int32))))) else (J20_112 o x1 (3:Int32))) else (F35 o x1 (f_clock o)).bind fun r202 => some r202)
theorem tF20 (Ad : QAd n0 ad) (W : QW Z a0) (s : List Int32) (o : Ob) (x1 : Int32) (x2 : Int32) (x3 : Int32) {r : Ob} (h : F20 o x1 x2 x3 = some r) : QTri l Z n0 ad 20 (0, qentry [.ref 1, .int x1, .int x2, .int x3] (pMaxL 20), [], (H0 s o)) (none : Option Value) (H0 s r) := by
 unfold F20 at h
 refine zS Ad W 3 (st' := (4, [vR 1, vI x1, vI x2, vI x3, none, none, none], [.int (x2 &&& (8:Int32))], (H0 s o))) rfl ?_
 rcases qite h with ⟨hc161, h⟩ | ⟨hc161, h⟩
 ·refine zT Ad W (t := 17) (f := 7) rfl (XT.i0_eq_t hc161) ?_
  refine zS Ad W 3 (st' := (22, [vR 1, vI x1, vI x2, vI x3, none, none, none], [.int x1, .ref 8], (H0 s o))) rfl ?_
  obtain ⟨y162, hy162, h⟩ := bind_eq_some_iff.mp h
  refine zB Ad W (f := fun y162 => (23, [vR 1, vI x1, vI x2, vI x3, none, none, none], [.int y162], (H0 s o))) rfl hy162 ?_
  refine zS Ad W 4 (st' := (28, [vR 1, vI x1, vI x2, vI x3, vI y162, none, none], [.int (x2 &&& (1:Int32))], (H0 s o))) rfl ?_
  have K164 : ∀ z163 : Int32, z163 = (if (x2 &&& (1:Int32)) = (0:Int32) then (0:Int32) else (1:Int32)) → QTri l Z n0 ad 20 (36, [vR 1, vI x1, vI x2, vI x3, vI y162, none, none], [.int z163], (H0 s o)) (none : Option Value) (H0 s r) := by
   intro z163 ez163
   subst ez163
   refine zS Ad W 4 (st' := (41, [vR 1, vI x1, vI x2, vI x3, vI y162, vI (if (x2 &&& (1:Int32)) = (0:Int32) then (0:Int32) else (1:Int32)), none], [.int (x2 &&& (2:Int32))], (H0 s o))) rfl ?_
   have K167 : ∀ z166 : Int32, z166 = (if (x2 &&& (2:Int32)) = (0:Int32) then (0:Int32) else (1:Int32)) → QTri l Z n0 ad 20 (49, [vR 1, vI x1, vI x2, vI x3, vI y162, vI (if (x2 &&& (1:Int32)) = (0:Int32) then (0:Int32) else (1:Int32)), none], [.int z166], (H0 s o)) (none : Option Value) (H0 s r) := by
    intro z166 ez166
    subst ez166
    refine zS Ad W 4 (st' := (54, [vR 1, vI x1, vI x2, vI x3, vI y162, vI (if (x2 &&& (1:Int32)) = (0:Int32) then (0:Int32) else (1:Int32)), vI (if (x2 &&& (2:Int32)) = (0:Int32) then (0:Int32) else (1:Int32))], [.int (x2 &&& (4:Int32))], (H0 s o))) rfl ?_
    rcases qite h with ⟨hc169, h⟩ | ⟨hc169, h⟩
    ·refine zT Ad W (t := 63) (f := 57) rfl (XT.i0_eq_t hc169) ?_
     refine zS Ad W 1 (st' := (64, [vR 1, vI x1, vI x2, vI x3, vI y162, vI (if (x2 &&& (1:Int32)) = (0:Int32) then (0:Int32) else (1:Int32)), vI (if (x2 &&& (2:Int32)) = (0:Int32) then (0:Int32) else (1:Int32))], [.int x3], (H0 s o))) rfl ?_
     rcases qite h with ⟨hc170, h⟩ | ⟨hc170, h⟩
     ·refine zT Ad W (t := 89) (f := 67) rfl (XT.i0_eq_t hc170) ?_
      exact zM [tt,tt,ff,tt,tt,tt,tt] (tJ20_89 Ad W s o x1 x3 y162 (if (x2 &&& (1:Int32)) = (0:Int32) then (0:Int32) else (1:Int32)) (if (x2 &&& (2:Int32)) = (0:Int32) then (0:Int32) else (1:Int32)) h)
     ·refine zF Ad W (t := 89) (f := 67) rfl (XT.i0_eq_f hc170) ?_
      refine zS Ad W 2 (st' := (70, [vR 1, vI x1, vI x2, vI x3, vI y162, vI (if (x2 &&& (1:Int32)) = (0:Int32) then (0:Int32) else (1:Int32)), vI (if (x2 &&& (2:Int32)) = (0:Int32) then (0:Int32) else (1:Int32))], [.int (1:Int32), .int y162], (H0 s o))) rfl ?_
      rcases qite h with ⟨hc184, h⟩ | ⟨hc184, h⟩
      ·refine zF Ad W (t := 89) (f := 73) rfl (XT.ii_ne_f hc184) ?_
       refine zS Ad W 1 (st' := (75, [vR 1, vI x1, vI x2, vI x3, vI y162, vI (if (x2 &&& (1:Int32)) = (0:Int32) then (0:Int32) else (1:Int32)), vI (if (x2 &&& (2:Int32)) = (0:Int32) then (0:Int32) else (1:Int32))], [.int (if (x2 &&& (1:Int32)) = (0:Int32) then (0:Int32) else (1:Int32))], (H0 s o))) rfl ?_
       have K186 : ∀ z185 : Int32, z185 = (if (if (x2 &&& (1:Int32)) = (0:Int32) then (0:Int32) else (1:Int32)) = (0:Int32) then (if x3 = (0:Int32) then (if y162 = (3:Int32) then (if (if (x2 &&& (1:Int32)) = (0:Int32) then (0:Int32) else (1:Int32)) = (0:Int32) then y162 else (if (if (x2 &&& (2:Int32)) = (0:Int32) then (0:Int32) else (1:Int32)) = (0:Int32) then (1:Int32) else y162)) else y162) else y162) else (if (if (x2 &&& (2:Int32)) = (0:Int32) then (0:Int32) else (1:Int32)) = (0:Int32) then (if x3 = (0:Int32) then (if y162 = (3:Int32) then (if (if (x2 &&& (1:Int32)) = (0:Int32) then (0:Int32) else (1:Int32)) = (0:Int32) then y162 else (if (if (x2 &&& (2:Int32)) = (0:Int32) then (0:Int32) else (1:Int32)) = (0:Int32) then (1:Int32) else y162)) else y162) else y162) else (2:Int32))) → QTri l Z n0 ad 20 (112, [vR 1, vI x1, none, none, vI z185, none, none], [], (H0 s o)) (none : Option Value) (H0 s r) := by
        intro z185 ez185
        subst ez185
        exact zM [tt,tt,ff,ff,tt,ff,ff] (tJ20_112 Ad W s o x1 (if (if (x2 &&& (1:Int32)) = (0:Int32) then (0:Int32) else (1:Int32)) = (0:Int32) then (if x3 = (0:Int32) then (if y162 = (3:Int32) then (if (if (x2 &&& (1:Int32)) = (0:Int32) then (0:Int32) else (1:Int32)) = (0:Int32) then y162 else (if (if (x2 &&& (2:Int32)) = (0:Int32) then (0:Int32) else (1:Int32)) = (0:Int32) then (1:Int32) else y162)) else y162) else y162) else (if (if (x2 &&& (2:Int32)) = (0:Int32) then (0:Int32) else (1:Int32)) = (0:Int32) then (if x3 = (0:Int32) then (if y162 = (3:Int32) then (if (if (x2 &&& (1:Int32)) = (0:Int32) then (0:Int32) else (1:Int32)) = (0:Int32) then y162 else (if (if (x2 &&& (2:Int32)) = (0:Int32) then (0:Int32) else (1:Int32)) = (0:Int32) then (1:Int32) else y162)) else y162) else y162) else (2:Int32))) h)
       rcases em ((if (x2 &&& (1:Int32)) = (0:Int32) then (0:Int32) else (1:Int32)) = (0:Int32)) with hc187 | hc187
       ·refine zT Ad W (t := 89) (f := 78) rfl (XT.i0_eq_t hc187) ?_
        refine zS Ad W 1 (st' := (90, [vR 1, vI x1, vI x2, vI x3, vI y162, vI (if (x2 &&& (1:Int32)) = (0:Int32) then (0:Int32) else (1:Int32)), vI (if (x2 &&& (2:Int32)) = (0:Int32) then (0:Int32) else (1:Int32))], [.int x3], (H0 s o))) rfl ?_
        rcases em (x3 = (0:Int32)) with hc188 | hc188
        ·refine zF Ad W (t := 112) (f := 93) rfl (XT.i0_ne_f hc188) ?_
         refine zS Ad W 2 (st' := (96, [vR 1, vI x1, vI x2, vI x3, vI y162, vI (if (x2 &&& (1:Int32)) = (0:Int32) then (0:Int32) else (1:Int32)), vI (if (x2 &&& (2:Int32)) = (0:Int32) then (0:Int32) else (1:Int32))], [.int (3:Int32), .int y162], (H0 s o))) rfl ?_
         rcases em (y162 = (3:Int32)) with hc189 | hc189
         ·refine zF Ad W (t := 112) (f := 99) rfl (XT.ii_ne_f hc189) ?_
          refine zS Ad W 1 (st' := (101, [vR 1, vI x1, vI x2, vI x3, vI y162, vI (if (x2 &&& (1:Int32)) = (0:Int32) then (0:Int32) else (1:Int32)), vI (if (x2 &&& (2:Int32)) = (0:Int32) then (0:Int32) else (1:Int32))], [.int (if (x2 &&& (1:Int32)) = (0:Int32) then (0:Int32) else (1:Int32))], (H0 s o))) rfl ?_
          rcases em ((if (x2 &&& (1:Int32)) = (0:Int32) then (0:Int32) else (1:Int32)) = (0:Int32)) with hc190 | hc190
          ·refine zT Ad W (t := 112) (f := 104) rfl (XT.i0_eq_t hc190) ?_
           exact zM [tt,tt,ff,ff,tt,ff,ff] (K186 _ ((if_pos hc187).trans ((if_pos hc188).trans ((if_pos hc189).trans (if_pos hc190)))).symm)
          ·refine zF Ad W (t := 112) (f := 104) rfl (XT.i0_eq_f hc190) ?_
           refine zS Ad W 1 (st' := (106, [vR 1, vI x1, vI x2, vI x3, vI y162, vI (if (x2 &&& (1:Int32)) = (0:Int32) then (0:Int32) else (1:Int32)), vI (if (x2 &&& (2:Int32)) = (0:Int32) then (0:Int32) else (1:Int32))], [.int (if (x2 &&& (2:Int32)) = (0:Int32) then (0:Int32) else (1:Int32))], (H0 s o))) rfl ?_
           rcases em ((if (x2 &&& (2:Int32)) = (0:Int32) then (0:Int32) else (1:Int32)) = (0:Int32)) with hc191 | hc191
           ·refine zF Ad W (t := 112) (f := 109) rfl (XT.i0_ne_f hc191) ?_
            refine zS Ad W 2 (st' := (112, [vR 1, vI x1, vI x2, vI x3, vI (1:Int32), vI (if (x2 &&& (1:Int32)) = (0:Int32) then (0:Int32) else (1:Int32)), vI (if (x2 &&& (2:Int32)) = (0:Int32) then (0:Int32) else (1:Int32))], [], (H0 s o))) rfl ?_
            exact zM [tt,tt,ff,ff,tt,ff,ff] (K186 _ ((if_pos hc187).trans ((if_pos hc188).trans ((if_pos hc189).trans ((if_neg hc190).trans (if_pos hc191))))).symm)
           ·refine zT Ad W (t := 112) (f := 109) rfl (XT.i0_ne_t hc191) ?_
            exact zM [tt,tt,ff,ff,tt,ff,ff] (K186 _ ((if_pos hc187).trans ((if_pos hc188).trans ((if_pos hc189).trans ((if_neg hc190).trans (if_neg hc191))))).symm)
         ·refine zT Ad W (t := 112) (f := 99) rfl (XT.ii_ne_t hc189) ?_
          exact zM [tt,tt,ff,ff,tt,ff,ff] (K186 _ ((if_pos hc187).trans ((if_pos hc188).trans (if_neg hc189))).symm)
        ·refine zT Ad W (t := 112) (f := 93) rfl (XT.i0_ne_t hc188) ?_
         exact zM [tt,tt,ff,ff,tt,ff,ff] (K186 _ ((if_pos hc187).trans (if_neg hc188)).symm)
       ·refine zF Ad W (t := 89) (f := 78) rfl (XT.i0_eq_f hc187) ?_
        refine zS Ad W 1 (st' := (80, [vR 1, vI x1, vI x2, vI x3, vI y162, vI (if (x2 &&& (1:Int32)) = (0:Int32) then (0:Int32) else (1:Int32)), vI (if (x2 &&& (2:Int32)) = (0:Int32) then (0:Int32) else (1:Int32))], [.int (if (x2 &&& (2:Int32)) = (0:Int32) then (0:Int32) else (1:Int32))], (H0 s o))) rfl ?_
        rcases em ((if (x2 &&& (2:Int32)) = (0:Int32) then (0:Int32) else (1:Int32)) = (0:Int32)) with hc192 | hc192
        ·refine zT Ad W (t := 89) (f := 83) rfl (XT.i0_eq_t hc192) ?_
         refine zS Ad W 1 (st' := (90, [vR 1, vI x1, vI x2, vI x3, vI y162, vI (if (x2 &&& (1:Int32)) = (0:Int32) then (0:Int32) else (1:Int32)), vI (if (x2 &&& (2:Int32)) = (0:Int32) then (0:Int32) else (1:Int32))], [.int x3], (H0 s o))) rfl ?_
         rcases em (x3 = (0:Int32)) with hc193 | hc193
         ·refine zF Ad W (t := 112) (f := 93) rfl (XT.i0_ne_f hc193) ?_
          refine zS Ad W 2 (st' := (96, [vR 1, vI x1, vI x2, vI x3, vI y162, vI (if (x2 &&& (1:Int32)) = (0:Int32) then (0:Int32) else (1:Int32)), vI (if (x2 &&& (2:Int32)) = (0:Int32) then (0:Int32) else (1:Int32))], [.int (3:Int32), .int y162], (H0 s o))) rfl ?_
          rcases em (y162 = (3:Int32)) with hc194 | hc194
          ·refine zF Ad W (t := 112) (f := 99) rfl (XT.ii_ne_f hc194) ?_
           refine zS Ad W 1 (st' := (101, [vR 1, vI x1, vI x2, vI x3, vI y162, vI (if (x2 &&& (1:Int32)) = (0:Int32) then (0:Int32) else (1:Int32)), vI (if (x2 &&& (2:Int32)) = (0:Int32) then (0:Int32) else (1:Int32))], [.int (if (x2 &&& (1:Int32)) = (0:Int32) then (0:Int32) else (1:Int32))], (H0 s o))) rfl ?_
           rcases em ((if (x2 &&& (1:Int32)) = (0:Int32) then (0:Int32) else (1:Int32)) = (0:Int32)) with hc195 | hc195
           ·refine zT Ad W (t := 112) (f := 104) rfl (XT.i0_eq_t hc195) ?_
            exact zM [tt,tt,ff,ff,tt,ff,ff] (K186 _ ((if_neg hc187).trans ((if_pos hc192).trans ((if_pos hc193).trans ((if_pos hc194).trans (if_pos hc195))))).symm)
           ·refine zF Ad W (t := 112) (f := 104) rfl (XT.i0_eq_f hc195) ?_
            refine zS Ad W 1 (st' := (106, [vR 1, vI x1, vI x2, vI x3, vI y162, vI (if (x2 &&& (1:Int32)) = (0:Int32) then (0:Int32) else (1:Int32)), vI (if (x2 &&& (2:Int32)) = (0:Int32) then (0:Int32) else (1:Int32))], [.int (if (x2 &&& (2:Int32)) = (0:Int32) then (0:Int32) else (1:Int32))], (H0 s o))) rfl ?_
            rcases em ((if (x2 &&& (2:Int32)) = (0:Int32) then (0:Int32) else (1:Int32)) = (0:Int32)) with hc196 | hc196
            ·refine zF Ad W (t := 112) (f := 109) rfl (XT.i0_ne_f hc196) ?_
             refine zS Ad W 2 (st' := (112, [vR 1, vI x1, vI x2, vI x3, vI (1:Int32), vI (if (x2 &&& (1:Int32)) = (0:Int32) then (0:Int32) else (1:Int32)), vI (if (x2 &&& (2:Int32)) = (0:Int32) then (0:Int32) else (1:Int32))], [], (H0 s o))) rfl ?_
             exact zM [tt,tt,ff,ff,tt,ff,ff] (K186 _ ((if_neg hc187).trans ((if_pos hc192).trans ((if_pos hc193).trans ((if_pos hc194).trans ((if_neg hc195).trans (if_pos hc196)))))).symm)
            ·refine zT Ad W (t := 112) (f := 109) rfl (XT.i0_ne_t hc196) ?_
             exact zM [tt,tt,ff,ff,tt,ff,ff] (K186 _ ((if_neg hc187).trans ((if_pos hc192).trans ((if_pos hc193).trans ((if_pos hc194).trans ((if_neg hc195).trans (if_neg hc196)))))).symm)
          ·refine zT Ad W (t := 112) (f := 99) rfl (XT.ii_ne_t hc194) ?_
           exact zM [tt,tt,ff,ff,tt,ff,ff] (K186 _ ((if_neg hc187).trans ((if_pos hc192).trans ((if_pos hc193).trans (if_neg hc194)))).symm)
         ·refine zT Ad W (t := 112) (f := 93) rfl (XT.i0_ne_t hc193) ?_
          exact zM [tt,tt,ff,ff,tt,ff,ff] (K186 _ ((if_neg hc187).trans ((if_pos hc192).trans (if_neg hc193))).symm)
        ·refine zF Ad W (t := 89) (f := 83) rfl (XT.i0_eq_f hc192) ?_
         refine zS Ad W 3 (st' := (112, [vR 1, vI x1, vI x2, vI x3, vI (2:Int32), vI (if (x2 &&& (1:Int32)) = (0:Int32) then (0:Int32) else (1:Int32)), vI (if (x2 &&& (2:Int32)) = (0:Int32) then (0:Int32) else (1:Int32))], [], (H0 s o))) rfl ?_
         exact zM [tt,tt,ff,ff,tt,ff,ff] (K186 _ ((if_neg hc187).trans (if_neg hc192)).symm)
      ·refine zT Ad W (t := 89) (f := 73) rfl (XT.ii_ne_t hc184) ?_
       exact zM [tt,tt,ff,tt,tt,tt,tt] (tJ20_89 Ad W s o x1 x3 y162 (if (x2 &&& (1:Int32)) = (0:Int32) then (0:Int32) else (1:Int32)) (if (x2 &&& (2:Int32)) = (0:Int32) then (0:Int32) else (1:Int32)) h)
    ·refine zF Ad W (t := 63) (f := 57) rfl (XT.i0_eq_f hc169) ?_
     refine zS Ad W 3 (st' := (112, [vR 1, vI x1, vI x2, vI x3, vI (3:Int32), vI (if (x2 &&& (1:Int32)) = (0:Int32) then (0:Int32) else (1:Int32)), vI (if (x2 &&& (2:Int32)) = (0:Int32) then (0:Int32) else (1:Int32))], [], (H0 s o))) rfl ?_
     exact zM [tt,tt,ff,ff,tt,ff,ff] (tJ20_112 Ad W s o x1 (3:Int32) h)
   rcases em ((x2 &&& (2:Int32)) = (0:Int32)) with hc168 | hc168
   ·refine zT Ad W (t := 48) (f := 44) rfl (XT.i0_eq_t hc168) ?_
    refine zS Ad W 1 (st' := (49, [vR 1, vI x1, vI x2, vI x3, vI y162, vI (if (x2 &&& (1:Int32)) = (0:Int32) then (0:Int32) else (1:Int32)), none], [.int (0:Int32)], (H0 s o))) rfl ?_
    exact zM [tt,tt,tt,tt,tt,tt,ff] (K167 _ (if_pos hc168).symm)
   ·refine zF Ad W (t := 48) (f := 44) rfl (XT.i0_eq_f hc168) ?_
    refine zS Ad W 2 (st' := (49, [vR 1, vI x1, vI x2, vI x3, vI y162, vI (if (x2 &&& (1:Int32)) = (0:Int32) then (0:Int32) else (1:Int32)), none], [.int (1:Int32)], (H0 s o))) rfl ?_
    exact zM [tt,tt,tt,tt,tt,tt,ff] (K167 _ (if_neg hc168).symm)
  rcases em ((x2 &&& (1:Int32)) = (0:Int32)) with hc165 | hc165
  ·refine zT Ad W (t := 35) (f := 31) rfl (XT.i0_eq_t hc165) ?_
   refine zS Ad W 1 (st' := (36, [vR 1, vI x1, vI x2, vI x3, vI y162, none, none], [.int (0:Int32)], (H0 s o))) rfl ?_
   exact zM [tt,tt,tt,tt,tt,ff,ff] (K164 _ (if_pos hc165).symm)
  ·refine zF Ad W (t := 35) (f := 31) rfl (XT.i0_eq_f hc165) ?_
   refine zS Ad W 2 (st' := (36, [vR 1, vI x1, vI x2, vI x3, vI y162, none, none], [.int (1:Int32)], (H0 s o))) rfl ?_
   exact zM [tt,tt,tt,tt,tt,ff,ff] (K164 _ (if_neg hc165).symm)
 ·refine zF Ad W (t := 17) (f := 7) rfl (XT.i0_eq_f hc161) ?_
  refine zS Ad W 4 (st' := (13, [vR 1, vI x1, vI x2, vI x3, none, none, none], [.int (f_clock o), .int x1, .ref 1], (H0 s o))) rfl ?_
  obtain ⟨r202, hr202, h⟩ := bind_eq_some_iff.mp h
  refine QTri.callP W (a := 1) (as := [.int x1, .int (f_clock o)]) (rest := []) (w := none) (σ₁ := (H0 s r202)) rfl rfl rfl rfl rfl rfl rfl rfl (tF35 Ad W s o x1 (f_clock o) hr202) ?_
  obtain rfl := Option.some.inj h
  exact QTri.ret0 rfl rfl
def H0x24 (s : List Int32) (o0 : Ob) (a0_18 : Int32) : QHeap := H0v s (f_live o0) (f_used o0) (f_freedAt o0) (f_protoOf o0) (f_hostOf o0) (f_iportOf o0) (f_stateAt o0) (f_deadlineAt o0) (f_perm o0) (f_poolSize o0) (f_udpTimeout o0) (f_tcpTimeout o0) (f_cooldown o0) (f_clock o0) (f_remAddr o0) (f_remPort o0) (f_regHost o0) (f_regPort o0) a0_18
/-- liveSlot(II)I -/
def F29 (o : Ob) (x1 : Int32) (x2 : Int32) : Option (Int32) :=
 (F5 o x1).bind fun r206 => (if r206 < (0:Int32) then some (-1:Int32) else (aget (f_protoOf o) r206).bind fun y208 => (if y208 = x2 then some r206 else some (-1:Int32)))
theorem tF29 (Ad : QAd n0 ad) (W : QW Z a0) (s : List Int32) (o : Ob) (x1 : Int32) (x2 : Int32) {r : Int32} (h : F29 o x1 x2 = some r) : QTri l Z n0 ad 29 (0, qentry [.ref 1, .int x1, .int x2] (pMaxL 29), [], (H0 s o)) (some (Value.int r)) (H0 s o) := by
 unfold F29 at h
 refine zS Ad W 2 (st' := (2, [vR 1, vI x1, vI x2, none], [.int x1, .ref 1], (H0 s o))) rfl ?_
 obtain ⟨r206, hr206, h⟩ := bind_eq_some_iff.mp h
 refine QTri.callP W (a := 1) (as := [.int x1]) (rest := []) (w := (some (.int r206))) (σ₁ := (H0 s o)) rfl rfl rfl rfl rfl rfl rfl rfl (tF5 Ad W s o x1 hr206) ?_
 refine zS Ad W 2 (st' := (7, [vR 1, vI x1, vI x2, vI r206], [.int r206], (H0 s o))) rfl ?_
 rcases qite h with ⟨hc207, h⟩ | ⟨hc207, h⟩
 ·refine zT Ad W (t := 20) (f := 10) rfl (XT.i0_lt_t hc207) ?_
  refine zS Ad W 1 (st' := (21, [vR 1, vI x1, vI x2, vI r206], [.int (-1:Int32)], (H0 s o))) rfl ?_
  obtain rfl := Option.some.inj h
  exact QTri.retI rfl rfl
 ·refine zF Ad W (t := 20) (f := 10) rfl (XT.i0_lt_f hc207) ?_
  refine zS Ad W 3 (st' := (15, [vR 1, vI x1, vI x2, vI r206], [.int r206, .ref 5], (H0 s o))) rfl ?_
  obtain ⟨y208, hy208, h⟩ := bind_eq_some_iff.mp h
  refine zB Ad W (f := fun y208 => (16, [vR 1, vI x1, vI x2, vI r206], [.int y208], (H0 s o))) rfl hy208 ?_
  refine zS Ad W 1 (st' := (17, [vR 1, vI x1, vI x2, vI r206], [.int x2, .int y208], (H0 s o))) rfl ?_
  rcases qite h with ⟨hc209, h⟩ | ⟨hc209, h⟩
  ·refine zT Ad W (t := 22) (f := 20) rfl (XT.ii_eq_t hc209) ?_
   refine zS Ad W 1 (st' := (23, [vR 1, vI x1, vI x2, vI r206], [.int r206], (H0 s o))) rfl ?_
   obtain rfl := Option.some.inj h
   exact QTri.retI rfl rfl
  ·refine zF Ad W (t := 22) (f := 20) rfl (XT.ii_eq_f hc209) ?_
   refine zS Ad W 1 (st' := (21, [vR 1, vI x1, vI x2, vI r206], [.int (-1:Int32)], (H0 s o))) rfl ?_
   obtain rfl := Option.some.inj h
   exact QTri.retI rfl rfl
def H0x25 (s : List Int32) (o0 : Ob) (a0_16 : Int32) : QHeap := H0v s (f_live o0) (f_used o0) (f_freedAt o0) (f_protoOf o0) (f_hostOf o0) (f_iportOf o0) (f_stateAt o0) (f_deadlineAt o0) (f_perm o0) (f_poolSize o0) (f_udpTimeout o0) (f_tcpTimeout o0) (f_cooldown o0) (f_clock o0) (f_remAddr o0) (f_remPort o0) a0_16 (f_regPort o0) (f_regExt o0)
def H0x26 (s : List Int32) (o0 : Ob) (a0_16 : Int32) (a0_17 : Int32) : QHeap := H0v s (f_live o0) (f_used o0) (f_freedAt o0) (f_protoOf o0) (f_hostOf o0) (f_iportOf o0) (f_stateAt o0) (f_deadlineAt o0) (f_perm o0) (f_poolSize o0) (f_udpTimeout o0) (f_tcpTimeout o0) (f_cooldown o0) (f_clock o0) (f_remAddr o0) (f_remPort o0) a0_16 a0_17 (f_regExt o0)
def J36_25 (o : Ob) : Option (Int32 × Ob) :=
  some ((4 : Int32), (s_regPort (s_regHost o (-1 : Int32)) (-1 : Int32)))
theorem tJ36_25 (Ad : QAd n0 ad) (W : QW Z a0) (s : List Int32) (o : Ob) {r : Int32 × Ob} (h : J36_25 o = some r) : QTri l Z n0 ad 36 (25, [vR 1, none, none, none], [], (H0 s o)) (some (Value.int r.1)) (H0 s r.2) := by
 unfold J36_25 at h
 refine zS Ad W 3 (st' := (30, [vR 1, none, none, none], [], (H0x25 s o (-1:Int32)))) rfl ?_
 refine zS Ad W 3 (st' := (35, [vR 1, none, none, none], [], (H0x26 s o (-1:Int32) (-1:Int32)))) rfl ?_
 refine zS Ad W 1 (st' := (36, [vR 1, none, none, none], [.int (4:Int32)], (H0x26 s o (-1:Int32) (-1:Int32)))) rfl ?_
 have E212 : ((H0x26 s o (-1:Int32) (-1:Int32)) : QHeap) = (H0 s (s_regPort (s_regHost o (-1:Int32)) (-1:Int32))) := by simp only [fs, H0, H0v, H0x26, s_regHost, s_regPort]
 rw [E212]
 obtain rfl := Option.some.inj h
 exact QTri.retI rfl rfl
/-- hasPerm(II)Z -/
def F30 (o : Ob) (x1 : Int32) (x2 : Int32) : Option (Int32) :=
 (aget (f_perm o) ((x1 * (4:Int32)) + ((x2 >>> ((6:Int32) &&& 31)) &&& (3:Int32)))).bind fun y213 => (if (y213 &&& ((1 : Int64) <<< ((x2 &&& (63:Int32)).toInt64 &&& 63))) = (0 : Int64) then some (0:Int32) else some (1:Int32))
theorem tF30 (Ad : QAd n0 ad) (W : QW Z a0) (s : List Int32) (o : Ob) (x1 : Int32) (x2 : Int32) {r : Int32} (h : F30 o x1 x2 = some r) : QTri l Z n0 ad 30 (0, qentry [.ref 1, .int x1, .int x2] (pMaxL 30), [], (H0 s o)) (some (Value.int r)) (H0 s o) := by
 unfold F30 at h
 refine zS Ad W 12 (st' := (15, [vR 1, vI x1, vI x2, vI ((x1 * (4:Int32)) + ((x2 >>> ((6:Int32) &&& 31)) &&& (3:Int32)))], [.ref 10], (H0 s o))) rfl ?_
 refine zS Ad W 1 (st' := (16, [vR 1, vI x1, vI x2, vI ((x1 * (4:Int32)) + ((x2 >>> ((6:Int32) &&& 31)) &&& (3:Int32)))], [.int ((x1 * (4:Int32)) + ((x2 >>> ((6:Int32) &&& 31)) &&& (3:Int32))), .ref 10], (H0 s o))) rfl ?_
 obtain ⟨y213, hy213, h⟩ := bind_eq_some_iff.mp h
 refine zB Ad W (f := fun y213 => (17, [vR 1, vI x1, vI x2, vI ((x1 * (4:Int32)) + ((x2 >>> ((6:Int32) &&& 31)) &&& (3:Int32)))], [.long y213], (H0 s o))) rfl hy213 ?_
 refine zS Ad W 8 (st' := (26, [vR 1, vI x1, vI x2, vI ((x1 * (4:Int32)) + ((x2 >>> ((6:Int32) &&& 31)) &&& (3:Int32)))], [.int (XT.cmpL (y213 &&& ((1 : Int64) <<< ((x2 &&& (63:Int32)).toInt64 &&& 63))) (0 : Int64))], (H0 s o))) rfl ?_
 rcases qite h with ⟨hc214, h⟩ | ⟨hc214, h⟩
 ·refine zT Ad W (t := 33) (f := 29) rfl (XT.ll_eq_t hc214) ?_
  refine zS Ad W 1 (st' := (34, [vR 1, vI x1, vI x2, vI ((x1 * (4:Int32)) + ((x2 >>> ((6:Int32) &&& 31)) &&& (3:Int32)))], [.int (0:Int32)], (H0 s o))) rfl ?_
  obtain rfl := Option.some.inj h
  exact QTri.retZ rfl rfl
 ·refine zF Ad W (t := 33) (f := 29) rfl (XT.ll_eq_f hc214) ?_
  refine zS Ad W 2 (st' := (34, [vR 1, vI x1, vI x2, vI ((x1 * (4:Int32)) + ((x2 >>> ((6:Int32) &&& 31)) &&& (3:Int32)))], [.int (1:Int32)], (H0 s o))) rfl ?_
  obtain rfl := Option.some.inj h
  exact QTri.retZ rfl rfl
/-- hairpin(II)I -/
def F36 (o : Ob) (x1 : Int32) (x2 : Int32) : Option (Int32 × Ob) :=
 (F29 o (f_remPort o) x1).bind fun r210 => (if r210 < (0:Int32) then (J36_25 o) else (F30 o r210 (255:Int32)).bind fun r215 => (if r215 = (0:Int32) then (J36_25 o) else (aget (f_hostOf o) r210).bind fun y217 => (aget (f_iportOf o) r210).bind fun y218 => (F20 (s_regPort (s_regHost o y217) y218) r210 x2 (1:Int32)).bind fun r220 => some ((3:Int32), r220)))
theorem tF36 (Ad : QAd n0 ad) (W : QW Z a0) (s : List Int32) (o : Ob) (x1 : Int32) (x2 : Int32) {r : Int32 × Ob} (h : F36 o x1 x2 = some r) : QTri l Z n0 ad 36 (0, qentry [.ref 1, .int x1, .int x2] (pMaxL 36), [], (H0 s o)) (some (Value.int r.1)) (H0 s r.2) := by
 unfold F36 at h
 refine zS Ad W 4 (st' := (6, [vR 1, vI x1, vI x2, none], [.int x1, .int (f_remPort o), .ref 1], (H0 s o))) rfl ?_
 obtain ⟨r210, hr210, h⟩ := bind_eq_some_iff.mp h
 refine QTri.callP W (a := 1) (as := [.int (f_remPort o), .int x1]) (rest := []) (w := (some (.int r210))) (σ₁ := (H0 s o)) rfl rfl rfl rfl rfl rfl rfl rfl (tF29 Ad W s o (f_remPort o) x1 hr210) ?_
 refine zS Ad W 2 (st' := (11, [vR 1, vI x1, vI x2, vI r210], [.int r210], (H0 s o))) rfl ?_
 rcases qite h with ⟨hc211, h⟩ | ⟨hc211, h⟩
 ·refine zT Ad W (t := 25) (f := 14) rfl (XT.i0_lt_t hc211) ?_
  exact zM [tt,ff,ff,ff] (tJ36_25 Ad W s o h)
 ·refine zF Ad W (t := 25) (f := 14) rfl (XT.i0_lt_f hc211) ?_
  refine zS Ad W 3 (st' := (19, [vR 1, vI x1, vI x2, vI r210], [.int (255:Int32), .int r210, .ref 1], (H0 s o))) rfl ?_
  obtain ⟨r215, hr215, h⟩ := bind_eq_some_iff.mp h
  refine QTri.callP W (a := 1) (as := [.int r210, .int (255:Int32)]) (rest := []) (w := (some (.int r215))) (σ₁ := (H0 s o)) rfl rfl rfl rfl rfl rfl rfl rfl (tF30 Ad W s o r210 (255:Int32) hr215) ?_
  rcases qite h with ⟨hc216, h⟩ | ⟨hc216, h⟩
  ·refine zF Ad W (t := 37) (f := 25) rfl (XT.i0_ne_f hc216) ?_
   exact zM [tt,ff,ff,ff] (tJ36_25 Ad W s o h)
  ·refine zT Ad W (t := 37) (f := 25) rfl (XT.i0_ne_t hc216) ?_
   refine zS Ad W 4 (st' := (43, [vR 1, vI x1, vI x2, vI r210], [.int r210, .ref 6, .ref 1], (H0 s o))) rfl ?_
   obtain ⟨y217, hy217, h⟩ := bind_eq_some_iff.mp h
   refine zB Ad W (f := fun y217 => (44, [vR 1, vI x1, vI x2, vI r210], [.int y217, .ref 1], (H0 s o))) rfl hy217 ?_
   refine zS Ad W 1 (st' := (47, [vR 1, vI x1, vI x2, vI r210], [], (H0x25 s o y217))) rfl ?_
   refine zS Ad W 4 (st' := (53, [vR 1, vI x1, vI x2, vI r210], [.int r210, .ref 7, .ref 1], (H0x25 s o y217))) rfl ?_
   obtain ⟨y218, hy218, h⟩ := bind_eq_some_iff.mp h
   refine zB Ad W (f := fun y218 => (54, [vR 1, vI x1, vI x2, vI r210], [.int y218, .ref 1], (H0x25 s o y217))) rfl hy218 ?_
   refine zS Ad W 1 (st' := (57, [vR 1, vI x1, vI x2, vI r210], [], (H0x26 s o y217 y218))) rfl ?_
   refine zS Ad W 4 (st' := (61, [vR 1, vI x1, vI x2, vI r210], [.int (1:Int32), .int x2, .int r210, .ref 1], (H0x26 s o y217 y218))) rfl ?_
   have E219 : ((H0x26 s o y217 y218) : QHeap) = (H0 s (s_regPort (s_regHost o y217) y218)) := by simp only [fs, H0, H0v, H0x26, s_regHost, s_regPort]
   rw [E219]
   obtain ⟨r220, hr220, h⟩ := bind_eq_some_iff.mp h
   refine QTri.callP W (a := 1) (as := [.int r210, .int x2, .int (1:Int32)]) (rest := []) (w := none) (σ₁ := (H0 s r220)) rfl rfl rfl rfl rfl rfl rfl rfl (tF20 Ad W s (s_regPort (s_regHost o y217) y218) r210 x2 (1:Int32) hr220) ?_
   refine zS Ad W 1 (st' := (65, [vR 1, vI x1, vI x2, vI r210], [.int (3:Int32)], (H0 s r220))) rfl ?_
   obtain rfl := Option.some.inj h
   exact QTri.retI rfl rfl
def H0x27 (s : List Int32) (o0 : Ob) (a0_16 : Int32) (a0_18 : Int32) : QHeap := H0v s (f_live o0) (f_used o0) (f_freedAt o0) (f_protoOf o0) (f_hostOf o0) (f_iportOf o0) (f_stateAt o0) (f_deadlineAt o0) (f_perm o0) (f_poolSize o0) (f_udpTimeout o0) (f_tcpTimeout o0) (f_cooldown o0) (f_clock o0) (f_remAddr o0) (f_remPort o0) a0_16 (f_regPort o0) a0_18
def H0x28 (s : List Int32) (o0 : Ob) (a0_16 : Int32) (a0_17 : Int32) (a0_18 : Int32) : QHeap := H0v s (f_live o0) (f_used o0) (f_freedAt o0) (f_protoOf o0) (f_hostOf o0) (f_iportOf o0) (f_stateAt o0) (f_deadlineAt o0) (f_perm o0) (f_poolSize o0) (f_udpTimeout o0) (f_tcpTimeout o0) (f_cooldown o0) (f_clock o0) (f_remAddr o0) (f_remPort o0) a0_16 a0_17 a0_18
def J9_103 (o : Ob) (x3 : Int32) (x4 : Int32) (x5 : Int32) : Option (Int32 × Ob) :=
  (F19 o x5 (f_remAddr o)).bind fun r160 => (F20 r160 x5 x4 (0 : Int32)).bind fun r203 => (if (f_remAddr r203) = (255 : Int32) then (F36 (s_regExt r203 ((5000 : Int32) + x5)) x3 x4).bind fun r221 => some (r221.1, r221.2) else some ((1 : Int32), (s_regPort (s_regHost (s_regExt r203 ((5000 : Int32) + x5)) (-1 : Int32)) (-1 : Int32))))
theorem tJ9_103 (Ad : QAd n0 ad) (W : QW Z a0) (s : List Int32) (o : Ob) (x3 : Int32) (x4 : Int32) (x5 : Int32) {r : Int32 × Ob} (h : J9_103 o x3 x4 x5 = some r) : QTri l Z n0 ad 9 (103, [vR 1, none, none, vI x3, vI x4, vI x5], [], (H0 s o)) (some (Value.int r.1)) (H0 s r.2) := by
 unfold J9_103 at h
 refine zS Ad W 4 (st' := (110, [vR 1, none, none, vI x3, vI x4, vI x5], [.int (f_remAddr o), .int x5, .ref 1], (H0 s o))) rfl ?_
 obtain ⟨r160, hr160, h⟩ := bind_eq_some_iff.mp h
 refine QTri.callP W (a := 1) (as := [.int x5, .int (f_remAddr o)]) (rest := []) (w := none) (σ₁ := (H0 s r160)) rfl rfl rfl rfl rfl rfl rfl rfl (tF19 Ad W s o x5 (f_remAddr o) hr160) ?_
 refine zS Ad W 4 (st' := (119, [vR 1, none, none, vI x3, vI x4, vI x5], [.int (0:Int32), .int x4, .int x5, .ref 1], (H0 s r160))) rfl ?_
 obtain ⟨r203, hr203, h⟩ := bind_eq_some_iff.mp h
 refine QTri.callP W (a := 1) (as := [.int x5, .int x4, .int (0:Int32)]) (rest := []) (w := none) (σ₁ := (H0 s r203)) rfl rfl rfl rfl rfl rfl rfl rfl (tF20 Ad W s r160 x5 x4 (0:Int32) hr203) ?_
 refine zS Ad W 5 (st' := (132, [vR 1, none, none, vI x3, vI x4, vI x5], [], (H0x24 s r203 ((5000:Int32) + x5)))) rfl ?_
 refine zS Ad W 3 (st' := (139, [vR 1, none, none, vI x3, vI x4, vI x5], [.int (255:Int32), .int (f_remAddr r203)], (H0x24 s r203 ((5000:Int32) + x5)))) rfl ?_
 rcases qite h with ⟨hc204, h⟩ | ⟨hc204, h⟩
 ·refine zT Ad W (t := 154) (f := 142) rfl (XT.ii_eq_t hc204) ?_
  refine zS Ad W 3 (st' := (158, [vR 1, none, none, vI x3, vI x4, vI x5], [.int x4, .int x3, .ref 1], (H0x24 s r203 ((5000:Int32) + x5)))) rfl ?_
  have E205 : ((H0x24 s r203 ((5000:Int32) + x5)) : QHeap) = (H0 s (s_regExt r203 ((5000:Int32) + x5))) := by simp only [fs, H0, H0v, H0x24, s_regExt]
  rw [E205]
  obtain ⟨r221, hr221, h⟩ := bind_eq_some_iff.mp h
  refine QTri.callP W (a := 1) (as := [.int x3, .int x4]) (rest := []) (w := (some (.int r221.1))) (σ₁ := (H0 s r221.2)) rfl rfl rfl rfl rfl rfl rfl rfl (tF36 Ad W s (s_regExt r203 ((5000:Int32) + x5)) x3 x4 hr221) ?_
  obtain rfl := Option.some.inj h
  exact QTri.retI rfl rfl
 ·refine zF Ad W (t := 154) (f := 142) rfl (XT.ii_eq_f hc204) ?_
  refine zS Ad W 3 (st' := (147, [vR 1, none, none, vI x3, vI x4, vI x5], [], (H0x27 s r203 (-1:Int32) ((5000:Int32) + x5)))) rfl ?_
  refine zS Ad W 3 (st' := (152, [vR 1, none, none, vI x3, vI x4, vI x5], [], (H0x28 s r203 (-1:Int32) (-1:Int32) ((5000:Int32) + x5)))) rfl ?_
  refine zS Ad W 1 (st' := (153, [vR 1, none, none, vI x3, vI x4, vI x5], [.int (1:Int32)], (H0x28 s r203 (-1:Int32) (-1:Int32) ((5000:Int32) + x5)))) rfl ?_
  have E222 : ((H0x28 s r203 (-1:Int32) (-1:Int32) ((5000:Int32) + x5)) : QHeap) = (H0 s (s_regPort (s_regHost (s_regExt r203 ((5000:Int32) + x5)) (-1:Int32)) (-1:Int32))) := by simp only [fs, H0, H0v, H0x28, s_regHost, s_regPort, s_regExt]
  rw [E222]
  obtain rfl := Option.some.inj h
  exact QTri.retI rfl rfl
def J9_80 (o : Ob) (x1 : Int32) (x2 : Int32) (x3 : Int32) (x4 : Int32) : Option (Int32 × Ob) :=
  (F15 o).bind fun r138 => (if r138 < (0 : Int32) then some ((-2 : Int32), o) else (F17 o r138 x3 x1 x2).bind fun r156 => (J9_103 r156 x3 x4 r138))
theorem tJ9_80 (Ad : QAd n0 ad) (W : QW Z a0) (s : List Int32) (o : Ob) (x1 : Int32) (x2 : Int32) (x3 : Int32) (x4 : Int32) {r : Int32 × Ob} (h : J9_80 o x1 x2 x3 x4 = some r) : QTri l Z n0 ad 9 (80, [vR 1, vI x1, vI x2, vI x3, vI x4, none], [], (H0 s o)) (some (Value.int r.1)) (H0 s r.2) := by
 unfold J9_80 at h
 refine zS Ad W 1 (st' := (81, [vR 1, vI x1, vI x2, vI x3, vI x4, none], [.ref 1], (H0 s o))) rfl ?_
 obtain ⟨r138, hr138, h⟩ := bind_eq_some_iff.mp h
 refine QTri.callP W (a := 1) (as := []) (rest := []) (w := (some (.int r138))) (σ₁ := (H0 s o)) rfl rfl rfl rfl rfl rfl rfl rfl (tF15 Ad W s o hr138) ?_
 refine zS Ad W 2 (st' := (88, [vR 1, vI x1, vI x2, vI x3, vI x4, vI r138], [.int r138], (H0 s o))) rfl ?_
 rcases qite h with ⟨hc139, h⟩ | ⟨hc139, h⟩
 ·refine zF Ad W (t := 94) (f := 91) rfl (XT.i0_ge_f hc139) ?_
  refine zS Ad W 1 (st' := (93, [vR 1, vI x1, vI x2, vI x3, vI x4, vI r138], [.int (-2:Int32)], (H0 s o))) rfl ?_
  obtain rfl := Option.some.inj h
  exact QTri.retI rfl rfl
 ·refine zT Ad W (t := 94) (f := 91) rfl (XT.i0_ge_t hc139) ?_
  refine zS Ad W 5 (st' := (100, [vR 1, vI x1, vI x2, vI x3, vI x4, vI r138], [.int x2, .int x1, .int x3, .int r138, .ref 1], (H0 s o))) rfl ?_
  obtain ⟨r156, hr156, h⟩ := bind_eq_some_iff.mp h
  refine QTri.callP W (a := 1) (as := [.int r138, .int x3, .int x1, .int x2]) (rest := []) (w := none) (σ₁ := (H0 s r156)) rfl rfl rfl rfl rfl rfl rfl rfl (tF17 Ad W s o r138 x3 x1 x2 hr156) ?_
  exact zM [tt,ff,ff,tt,tt,tt] (tJ9_103 Ad W s r156 x3 x4 r138 h)
/-- outbound(IIII)I -/
def F9 (o : Ob) (x1 : Int32) (x2 : Int32) (x3 : Int32) (x4 : Int32) : Option (Int32 × Ob) :=
 (if x1 < (0:Int32) then some ((-1:Int32), o) else (if x1 < (8:Int32) then (if x2 < (1:Int32) then some ((-1:Int32), o) else (if (65535:Int32) < x2 then some ((-1:Int32), o) else (F10 x3 x4).bind fun r120 => (if r120 = (0:Int32) then some ((-1:Int32), o) else (if (f_remAddr o) = (0:Int32) then some ((-1:Int32), o) else (F8 o x3 x1 x2).bind fun r123 => (if r123 < (0:Int32) then (if x3 = (6:Int32) then (if (x4 &&& (1:Int32)) = (0:Int32) then some ((-3:Int32), o) else (if (x4 &&& (8:Int32)) = (0:Int32) then (J9_80 o x1 x2 x3 x4) else some ((-3:Int32), o))) else (J9_80 o x1 x2 x3 x4)) else (J9_103 o x3 x4 r123)))))) else some ((-1:Int32), o)))
theorem tF9 (Ad : QAd n0 ad) (W : QW Z a0) (s : List Int32) (o : Ob) (x1 : Int32) (x2 : Int32) (x3 : Int32) (x4 : Int32) {r : Int32 × Ob} (h : F9 o x1 x2 x3 x4 = some r) : QTri l Z n0 ad 9 (0, qentry [.ref 1, .int x1, .int x2, .int x3, .int x4] (pMaxL 9), [], (H0 s o)) (some (Value.int r.1)) (H0 s r.2) := by
 unfold F9 at h
 refine zS Ad W 1 (st' := (1, [vR 1, vI x1, vI x2, vI x3, vI x4, none], [.int x1], (H0 s o))) rfl ?_
 rcases qite h with ⟨hc110, h⟩ | ⟨hc110, h⟩
 ·refine zT Ad W (t := 21) (f := 4) rfl (XT.i0_lt_t hc110) ?_
  refine zS Ad W 1 (st' := (22, [vR 1, vI x1, vI x2, vI x3, vI x4, none], [.int (-1:Int32)], (H0 s o))) rfl ?_
  obtain rfl := Option.some.inj h
  exact QTri.retI rfl rfl
 ·refine zF Ad W (t := 21) (f := 4) rfl (XT.i0_lt_f hc110) ?_
  refine zS Ad W 2 (st' := (7, [vR 1, vI x1, vI x2, vI x3, vI x4, none], [.int (8:Int32), .int x1], (H0 s o))) rfl ?_
  rcases qite h with ⟨hc111, h⟩ | ⟨hc111, h⟩
  ·refine zF Ad W (t := 21) (f := 10) rfl (XT.ii_ge_f hc111) ?_
   refine zS Ad W 2 (st' := (12, [vR 1, vI x1, vI x2, vI x3, vI x4, none], [.int (1:Int32), .int x2], (H0 s o))) rfl ?_
   rcases qite h with ⟨hc112, h⟩ | ⟨hc112, h⟩
   ·refine zT Ad W (t := 21) (f := 15) rfl (XT.ii_lt_t hc112) ?_
    refine zS Ad W 1 (st' := (22, [vR 1, vI x1, vI x2, vI x3, vI x4, none], [.int (-1:Int32)], (H0 s o))) rfl ?_
    obtain rfl := Option.some.inj h
    exact QTri.retI rfl rfl
   ·refine zF Ad W (t := 21) (f := 15) rfl (XT.ii_lt_f hc112) ?_
    refine zS Ad W 2 (st' := (18, [vR 1, vI x1, vI x2, vI x3, vI x4, none], [.int (65535:Int32), .int x2], (H0 s o))) rfl ?_
    rcases qite h with ⟨hc113, h⟩ | ⟨hc113, h⟩
    ·refine zF Ad W (t := 23) (f := 21) rfl (XT.ii_le_f hc113) ?_
     refine zS Ad W 1 (st' := (22, [vR 1, vI x1, vI x2, vI x3, vI x4, none], [.int (-1:Int32)], (H0 s o))) rfl ?_
     obtain rfl := Option.some.inj h
     exact QTri.retI rfl rfl
    ·refine zT Ad W (t := 23) (f := 21) rfl (XT.ii_le_t hc113) ?_
     refine zS Ad W 3 (st' := (27, [vR 1, vI x1, vI x2, vI x3, vI x4, none], [.int x4, .int x3, .ref 1], (H0 s o))) rfl ?_
     obtain ⟨r120, hr120, h⟩ := bind_eq_some_iff.mp h
     refine QTri.callP W (a := 1) (as := [.int x3, .int x4]) (rest := []) (w := (some (.int r120))) (σ₁ := (H0 s o)) rfl rfl rfl rfl rfl rfl rfl rfl (tF10 Ad W x3 x4 hr120) ?_
     rcases qite h with ⟨hc121, h⟩ | ⟨hc121, h⟩
     ·refine zT Ad W (t := 40) (f := 33) rfl (XT.i0_eq_t hc121) ?_
      refine zS Ad W 1 (st' := (41, [vR 1, vI x1, vI x2, vI x3, vI x4, none], [.int (-1:Int32)], (H0 s o))) rfl ?_
      obtain rfl := Option.some.inj h
      exact QTri.retI rfl rfl
     ·refine zF Ad W (t := 40) (f := 33) rfl (XT.i0_eq_f hc121) ?_
      refine zS Ad W 2 (st' := (37, [vR 1, vI x1, vI x2, vI x3, vI x4, none], [.int (f_remAddr o)], (H0 s o))) rfl ?_
      rcases qite h with ⟨hc122, h⟩ | ⟨hc122, h⟩
      ·refine zF Ad W (t := 42) (f := 40) rfl (XT.i0_ne_f hc122) ?_
       refine zS Ad W 1 (st' := (41, [vR 1, vI x1, vI x2, vI x3, vI x4, none], [.int (-1:Int32)], (H0 s o))) rfl ?_
       obtain rfl := Option.some.inj h
       exact QTri.retI rfl rfl
      ·refine zT Ad W (t := 42) (f := 40) rfl (XT.i0_ne_t hc122) ?_
       refine zS Ad W 4 (st' := (46, [vR 1, vI x1, vI x2, vI x3, vI x4, none], [.int x2, .int x1, .int x3, .ref 1], (H0 s o))) rfl ?_
       obtain ⟨r123, hr123, h⟩ := bind_eq_some_iff.mp h
       refine QTri.callP W (a := 1) (as := [.int x3, .int x1, .int x2]) (rest := []) (w := (some (.int r123))) (σ₁ := (H0 s o)) rfl rfl rfl rfl rfl rfl rfl rfl (tF8 Ad W s o x3 x1 x2 hr123) ?_
       refine zS Ad W 2 (st' := (53, [vR 1, vI x1, vI x2, vI x3, vI x4, vI r123], [.int r123], (H0 s o))) rfl ?_
       rcases qite h with ⟨hc124, h⟩ | ⟨hc124, h⟩
       ·refine zF Ad W (t := 103) (f := 56) rfl (XT.i0_ge_f hc124) ?_
        refine zS Ad W 2 (st' := (59, [vR 1, vI x1, vI x2, vI x3, vI x4, vI r123], [.int (6:Int32), .int x3], (H0 s o))) rfl ?_
        rcases qite h with ⟨hc125, h⟩ | ⟨hc125, h⟩
        ·refine zF Ad W (t := 80) (f := 62) rfl (XT.ii_ne_f hc125) ?_
         refine zS Ad W 3 (st' := (66, [vR 1, vI x1, vI x2, vI x3, vI x4, vI r123], [.int (x4 &&& (1:Int32))], (H0 s o))) rfl ?_
         rcases qite h with ⟨hc126, h⟩ | ⟨hc126, h⟩
         ·refine zT Ad W (t := 77) (f := 69) rfl (XT.i0_eq_t hc126) ?_
          refine zS Ad W 1 (st' := (79, [vR 1, vI x1, vI x2, vI x3, vI x4, vI r123], [.int (-3:Int32)], (H0 s o))) rfl ?_
          obtain rfl := Option.some.inj h
          exact QTri.retI rfl rfl
         ·refine zF Ad W (t := 77) (f := 69) rfl (XT.i0_eq_f hc126) ?_
          refine zS Ad W 3 (st' := (74, [vR 1, vI x1, vI x2, vI x3, vI x4, vI r123], [.int (x4 &&& (8:Int32))], (H0 s o))) rfl ?_
          rcases qite h with ⟨hc127, h⟩ | ⟨hc127, h⟩
          ·refine zT Ad W (t := 80) (f := 77) rfl (XT.i0_eq_t hc127) ?_
           exact zM [tt,tt,tt,tt,tt,ff] (tJ9_80 Ad W s o x1 x2 x3 x4 h)
          ·refine zF Ad W (t := 80) (f := 77) rfl (XT.i0_eq_f hc127) ?_
           refine zS Ad W 1 (st' := (79, [vR 1, vI x1, vI x2, vI x3, vI x4, vI r123], [.int (-3:Int32)], (H0 s o))) rfl ?_
           obtain rfl := Option.some.inj h
           exact QTri.retI rfl rfl
        ·refine zT Ad W (t := 80) (f := 62) rfl (XT.ii_ne_t hc125) ?_
         exact zM [tt,tt,tt,tt,tt,ff] (tJ9_80 Ad W s o x1 x2 x3 x4 h)
       ·refine zT Ad W (t := 103) (f := 56) rfl (XT.i0_ge_t hc124) ?_
        exact zM [tt,ff,ff,tt,tt,tt] (tJ9_103 Ad W s o x3 x4 r123 h)
  ·refine zT Ad W (t := 21) (f := 10) rfl (XT.ii_ge_t hc111) ?_
   refine zS Ad W 1 (st' := (22, [vR 1, vI x1, vI x2, vI x3, vI x4, none], [.int (-1:Int32)], (H0 s o))) rfl ?_
   obtain rfl := Option.some.inj h
   exact QTri.retI rfl rfl
/-- resultExt()I -/
def F22 (o : Ob) : Option (Int32) :=
 some (f_regExt o)
theorem tF22 (Ad : QAd n0 ad) (W : QW Z a0) (s : List Int32) (o : Ob) {r : Int32} (h : F22 o = some r) : QTri l Z n0 ad 22 (0, qentry [.ref 1] (pMaxL 22), [], (H0 s o)) (some (Value.int r)) (H0 s o) := by
 unfold F22 at h
 refine zS Ad W 2 (st' := (4, [vR 1], [.int (f_regExt o)], (H0 s o))) rfl ?_
 obtain rfl := Option.some.inj h
 exact QTri.retI rfl rfl
/-- resultHost()I -/
def F31 (o : Ob) : Option (Int32) :=
 some (f_regHost o)
theorem tF31 (Ad : QAd n0 ad) (W : QW Z a0) (s : List Int32) (o : Ob) {r : Int32} (h : F31 o = some r) : QTri l Z n0 ad 31 (0, qentry [.ref 1] (pMaxL 31), [], (H0 s o)) (some (Value.int r)) (H0 s o) := by
 unfold F31 at h
 refine zS Ad W 2 (st' := (4, [vR 1], [.int (f_regHost o)], (H0 s o))) rfl ?_
 obtain rfl := Option.some.inj h
 exact QTri.retI rfl rfl
/-- resultPort()I -/
def F32 (o : Ob) : Option (Int32) :=
 some (f_regPort o)
theorem tF32 (Ad : QAd n0 ad) (W : QW Z a0) (s : List Int32) (o : Ob) {r : Int32} (h : F32 o = some r) : QTri l Z n0 ad 32 (0, qentry [.ref 1] (pMaxL 32), [], (H0 s o)) (some (Value.int r)) (H0 s o) := by
 unfold F32 at h
 refine zS Ad W 2 (st' := (4, [vR 1], [.int (f_regPort o)], (H0 s o))) rfl ?_
 obtain rfl := Option.some.inj h
 exact QTri.retI rfl rfl
/-- get8(JI)I -/
def F34 (x0 : Int64) (x2 : Int32) : Option (Int32) :=
 some (((XT.ushrL x0 ((8:Int32) * x2)) &&& (255 : Int64)).toInt32)
theorem tF34 (Ad : QAd n0 ad) (W : QW Z a0) {σ : QHeap} (x0 : Int64) (x2 : Int32) {r : Int32} (h : F34 x0 x2 = some r) : QTri l Z n0 ad 34 (0, qentry [.long x0, .int x2] (pMaxL 34), [], σ) (some (Value.int r)) σ := by
 unfold F34 at h
 refine zS Ad W 8 (st' := (11, [vL x0, none, vI x2], [.int (((XT.ushrL x0 ((8:Int32) * x2)) &&& (255 : Int64)).toInt32)], σ)) rfl ?_
 obtain rfl := Option.some.inj h
 exact QTri.retI rfl rfl
/-- ownerMatches(JIIII)Z -/
def F33 (x0 : Int64) (x2 : Int32) (x3 : Int32) (x4 : Int32) (x5 : Int32) : Option (Int32) :=
 (if x2 < (0:Int32) then some (0:Int32) else (if x2 < x3 then (F34 x0 x2).bind fun r238 => (if (r238 &&& (128:Int32)) = (0:Int32) then some (0:Int32) else (if ((XT.ushr r238 (3:Int32)) &&& (7:Int32)) = x4 then (if ((r238 &&& (7:Int32)) + (1:Int32)) = x5 then some (1:Int32) else some (0:Int32)) else some (0:Int32))) else some (0:Int32)))
theorem tF33 (Ad : QAd n0 ad) (W : QW Z a0) {σ : QHeap} (x0 : Int64) (x2 : Int32) (x3 : Int32) (x4 : Int32) (x5 : Int32) {r : Int32} (h : F33 x0 x2 x3 x4 x5 = some r) : QTri l Z n0 ad 33 (0, qentry [.long x0, .int x2, .int x3, .int x4, .int x5] (pMaxL 33), [], σ) (some (Value.int r)) σ := by
 unfold F33 at h
 refine zS Ad W 1 (st' := (1, [vL x0, none, vI x2, vI x3, vI x4, vI x5, none], [.int x2], σ)) rfl ?_
 rcases qite h with ⟨hc236, h⟩ | ⟨hc236, h⟩
 ·refine zT Ad W (t := 9) (f := 4) rfl (XT.i0_lt_t hc236) ?_
  refine zS Ad W 1 (st' := (10, [vL x0, none, vI x2, vI x3, vI x4, vI x5, none], [.int (0:Int32)], σ)) rfl ?_
  obtain rfl := Option.some.inj h
  exact QTri.retZ rfl rfl
 ·refine zF Ad W (t := 9) (f := 4) rfl (XT.i0_lt_f hc236) ?_
  refine zS Ad W 2 (st' := (6, [vL x0, none, vI x2, vI x3, vI x4, vI x5, none], [.int x3, .int x2], σ)) rfl ?_
  rcases qite h with ⟨hc237, h⟩ | ⟨hc237, h⟩
  ·refine zT Ad W (t := 11) (f := 9) rfl (XT.ii_lt_t hc237) ?_
   refine zS Ad W 2 (st' := (13, [vL x0, none, vI x2, vI x3, vI x4, vI x5, none], [.int x2, .long x0], σ)) rfl ?_
   obtain ⟨r238, hr238, h⟩ := bind_eq_some_iff.mp h
   refine QTri.callS W (as := [.long x0, .int x2]) (rest := []) (w := (some (.int r238))) (σ₁ := σ) rfl rfl rfl rfl rfl rfl rfl (tF34 Ad W x0 x2 hr238) ?_
   refine zS Ad W 4 (st' := (24, [vL x0, none, vI x2, vI x3, vI x4, vI x5, vI r238], [.int (r238 &&& (128:Int32))], σ)) rfl ?_
   rcases qite h with ⟨hc239, h⟩ | ⟨hc239, h⟩
   ·refine zF Ad W (t := 29) (f := 27) rfl (XT.i0_ne_f hc239) ?_
    refine zS Ad W 1 (st' := (28, [vL x0, none, vI x2, vI x3, vI x4, vI x5, vI r238], [.int (0:Int32)], σ)) rfl ?_
    obtain rfl := Option.some.inj h
    exact QTri.retZ rfl rfl
   ·refine zT Ad W (t := 29) (f := 27) rfl (XT.i0_ne_t hc239) ?_
    refine zS Ad W 6 (st' := (38, [vL x0, none, vI x2, vI x3, vI x4, vI x5, vI r238], [.int x4, .int ((XT.ushr r238 (3:Int32)) &&& (7:Int32))], σ)) rfl ?_
    rcases qite h with ⟨hc240, h⟩ | ⟨hc240, h⟩
    ·refine zF Ad W (t := 57) (f := 41) rfl (XT.ii_ne_f hc240) ?_
     refine zS Ad W 6 (st' := (50, [vL x0, none, vI x2, vI x3, vI x4, vI x5, vI r238], [.int x5, .int ((r238 &&& (7:Int32)) + (1:Int32))], σ)) rfl ?_
     rcases qite h with ⟨hc241, h⟩ | ⟨hc241, h⟩
     ·refine zF Ad W (t := 57) (f := 53) rfl (XT.ii_ne_f hc241) ?_
      refine zS Ad W 2 (st' := (58, [vL x0, none, vI x2, vI x3, vI x4, vI x5, vI r238], [.int (1:Int32)], σ)) rfl ?_
      obtain rfl := Option.some.inj h
      exact QTri.retZ rfl rfl
     ·refine zT Ad W (t := 57) (f := 53) rfl (XT.ii_ne_t hc241) ?_
      refine zS Ad W 1 (st' := (58, [vL x0, none, vI x2, vI x3, vI x4, vI x5, vI r238], [.int (0:Int32)], σ)) rfl ?_
      obtain rfl := Option.some.inj h
      exact QTri.retZ rfl rfl
    ·refine zT Ad W (t := 57) (f := 41) rfl (XT.ii_ne_t hc240) ?_
     refine zS Ad W 1 (st' := (58, [vL x0, none, vI x2, vI x3, vI x4, vI x5, vI r238], [.int (0:Int32)], σ)) rfl ?_
     obtain rfl := Option.some.inj h
     exact QTri.retZ rfl rfl
  ·refine zF Ad W (t := 11) (f := 9) rfl (XT.ii_lt_f hc237) ?_
   refine zS Ad W 1 (st' := (10, [vL x0, none, vI x2, vI x3, vI x4, vI x5, none], [.int (0:Int32)], σ)) rfl ?_
   obtain rfl := Option.some.inj h
   exact QTri.retZ rfl rfl
def J0_471 (s : List Int32) (p0 : Ob) (x3 : Int32) (x6 : Int32) (x8 : Int64) (x10 : Int64) (x12 : Int32) (x13 : Int32) (x16 : Int32) (x17 : Int32) (x18 : Int64) : Option (((Int32 × QHeap)) ⊕ (Int64 × Int64 × Int32 × Int32 × Ob)) :=
  (J0_602 s p0 x3 x6 x8 x10 x12 x13 x16 x17 x18)
theorem tJ0_471 (Ad : QAd n0 ad) (W : QW Z a0) (s : List Int32) (p0 : Ob) (x3 : Int32) (x6 : Int32) (x8 : Int64) (x10 : Int64) (x12 : Int32) (x13 : Int32) (x16 : Int32) (x17 : Int32) (x18 : Int64) {r : ((Int32 × QHeap)) ⊕ (Int64 × Int64 × Int32 × Int32 × Ob)} {u : Option Value} {τ : QHeap} (h : J0_471 s p0 x3 x6 x8 x10 x12 x13 x16 x17 x18 = some r) (hx0 : ∀ x : Int32 × QHeap, r = .inl x → u = (some (Value.int x.1)) ∧ τ = x.2) (hc : ∀ x : Int64 × Int64 × Int32 × Int32 × Ob, r = .inr x → QTri l Z n0 ad 0 (80, [vR 0, none, none, vI x3, none, none, vI x6, vR 1, vL x.1, none, vL x.2.1, none, vI x.2.2.1, vI x.2.2.2.1, none, none, none, none, none, none, none, none, none, none, none, none, none, none], [], (H0 s x.2.2.2.2)) u τ) : QTri l Z n0 ad 0 (471, [vR 0, none, none, vI x3, none, none, vI x6, vR 1, vL x8, none, vL x10, none, vI x12, vI x13, none, none, vI x16, vI x17, vL x18, none, none, none, none, none, none, none, none, none], [], (H0 s p0)) u τ := by
 unfold J0_471 at h
 refine zS Ad W 1 (st' := (602, [vR 0, none, none, vI x3, none, none, vI x6, vR 1, vL x8, none, vL x10, none, vI x12, vI x13, none, none, vI x16, vI x17, vL x18, none, none, none, none, none, none, none, none, none], [], (H0 s p0))) rfl ?_
 exact zM [tt,ff,ff,tt,ff,ff,tt,tt,tt,ff,tt,ff,tt,tt,ff,ff,tt,tt,tt,ff,ff,ff,ff,ff,ff,ff,ff,ff] (tJ0_602 Ad W s p0 x3 x6 x8 x10 x12 x13 x16 x17 x18 h hx0 hc)
def J0_438 (s : List Int32) (p0 : Ob) (x3 : Int32) (x6 : Int32) (x8 : Int64) (x10 : Int64) (x12 : Int32) (x13 : Int32) (x16 : Int32) (x17 : Int32) (x18 : Int64) (x26 : Int32) : Option (((Int32 × QHeap)) ⊕ (Int64 × Int64 × Int32 × Int32 × Ob)) :=
  (if x26 = (3 : Int32) then (F31 p0).bind fun r234 => (F32 p0).bind fun r235 => (F33 x8 (x12 - (5000 : Int32)) x3 r234 r235).bind fun r242 => (if r242 = (0 : Int32) then some (.inl ((0 : Int32), (H0 s p0))) else (J0_471 s p0 x3 x6 x8 x10 x12 x13 x16 x17 x18)) else (J0_471 s p0 x3 x6 x8 x10 x12 x13 x16 x17 x18))
theorem tJ0_438 (Ad : QAd n0 ad) (W : QW Z a0) (s : List Int32) (p0 : Ob) (x3 : Int32) (x6 : Int32) (x8 : Int64) (x10 : Int64) (x12 : Int32) (x13 : Int32) (x16 : Int32) (x17 : Int32) (x18 : Int64) (x26 : Int32) {r : ((Int32 × QHeap)) ⊕ (Int64 × Int64 × Int32 × Int32 × Ob)} {u : Option Value} {τ : QHeap} (h : J0_438 s p0 x3 x6 x8 x10 x12 x13 x16 x17 x18 x26 = some r) (hx0 : ∀ x : Int32 × QHeap, r = .inl x → u = (some (Value.int x.1)) ∧ τ = x.2) (hc : ∀ x : Int64 × Int64 × Int32 × Int32 × Ob, r = .inr x → QTri l Z n0 ad 0 (80, [vR 0, none, none, vI x3, none, none, vI x6, vR 1, vL x.1, none, vL x.2.1, none, vI x.2.2.1, vI x.2.2.2.1, none, none, none, none, none, none, none, none, none, none, none, none, none, none], [], (H0 s x.2.2.2.2)) u τ) : QTri l Z n0 ad 0 (438, [vR 0, none, none, vI x3, none, none, vI x6, vR 1, vL x8, none, vL x10, none, vI x12, vI x13, none, none, vI x16, vI x17, vL x18, none, none, none, none, none, none, none, vI x26, none], [], (H0 s p0)) u τ := by
 unfold J0_438 at h
 refine zS Ad W 2 (st' := (441, [vR 0, none, none, vI x3, none, none, vI x6, vR 1, vL x8, none, vL x10, none, vI x12, vI x13, none, none, vI x16, vI x17, vL x18, none, none, none, none, none, none, none, vI x26, none], [.int (3:Int32), .int x26], (H0 s p0))) rfl ?_
 rcases qite h with ⟨hc233, h⟩ | ⟨hc233, h⟩
 ·refine zF Ad W (t := 471) (f := 444) rfl (XT.ii_ne_f hc233) ?_
  refine zS Ad W 6 (st' := (455, [vR 0, none, none, vI x3, none, none, vI x6, vR 1, vL x8, none, vL x10, none, vI x12, vI x13, none, none, vI x16, vI x17, vL x18, none, none, none, none, none, none, none, vI x26, none], [.ref 1, .int x3, .int (x12 - (5000:Int32)), .long x8], (H0 s p0))) rfl ?_
  obtain ⟨r234, hr234, h⟩ := bind_eq_some_iff.mp h
  refine QTri.callV W (a := 1) (as := []) (rest := [.int x3, .int (x12 - (5000:Int32)), .long x8]) (w := (some (.int r234))) (σ₁ := (H0 s p0)) rfl rfl rfl rfl rfl rfl rfl rfl (tF31 Ad W s p0 hr234) ?_
  refine zS Ad W 1 (st' := (460, [vR 0, none, none, vI x3, none, none, vI x6, vR 1, vL x8, none, vL x10, none, vI x12, vI x13, none, none, vI x16, vI x17, vL x18, none, none, none, none, none, none, none, vI x26, none], [.ref 1, .int r234, .int x3, .int (x12 - (5000:Int32)), .long x8], (H0 s p0))) rfl ?_
  obtain ⟨r235, hr235, h⟩ := bind_eq_some_iff.mp h
  refine QTri.callV W (a := 1) (as := []) (rest := [.int r234, .int x3, .int (x12 - (5000:Int32)), .long x8]) (w := (some (.int r235))) (σ₁ := (H0 s p0)) rfl rfl rfl rfl rfl rfl rfl rfl (tF32 Ad W s p0 hr235) ?_
  obtain ⟨r242, hr242, h⟩ := bind_eq_some_iff.mp h
  refine QTri.callS W (as := [.long x8, .int (x12 - (5000:Int32)), .int x3, .int r234, .int r235]) (rest := []) (w := (some (.int r242))) (σ₁ := (H0 s p0)) rfl rfl rfl rfl rfl rfl rfl (tF33 Ad W x8 (x12 - (5000:Int32)) x3 r234 r235 hr242) ?_
  rcases qite h with ⟨hc243, h⟩ | ⟨hc243, h⟩
  ·refine zF Ad W (t := 471) (f := 469) rfl (XT.i0_ne_f hc243) ?_
   refine zS Ad W 1 (st' := (470, [vR 0, none, none, vI x3, none, none, vI x6, vR 1, vL x8, none, vL x10, none, vI x12, vI x13, none, none, vI x16, vI x17, vL x18, none, none, none, none, none, none, none, vI x26, none], [.int (0:Int32)], (H0 s p0))) rfl ?_
   obtain rfl := Option.some.inj h
   obtain ⟨rfl, rfl⟩ := hx0 ((0:Int32), (H0 s p0)) rfl
   exact QTri.retZ rfl rfl
  ·refine zT Ad W (t := 471) (f := 469) rfl (XT.i0_ne_t hc243) ?_
   exact zM [tt,ff,ff,tt,ff,ff,tt,tt,tt,ff,tt,ff,tt,tt,ff,ff,tt,tt,tt,ff,ff,ff,ff,ff,ff,ff,ff,ff] (tJ0_471 Ad W s p0 x3 x6 x8 x10 x12 x13 x16 x17 x18 h hx0 hc)
 ·refine zT Ad W (t := 471) (f := 444) rfl (XT.ii_ne_t hc233) ?_
  exact zM [tt,ff,ff,tt,ff,ff,tt,tt,tt,ff,tt,ff,tt,tt,ff,ff,tt,tt,tt,ff,ff,ff,ff,ff,ff,ff,ff,ff] (tJ0_471 Ad W s p0 x3 x6 x8 x10 x12 x13 x16 x17 x18 h hx0 hc)
def J0_375 (s : List Int32) (p0 : Ob) (x3 : Int32) (x6 : Int32) (x8 : Int64) (x10 : Int64) (x12 : Int32) (x13 : Int32) (x16 : Int32) (x17 : Int32) (x18 : Int64) (x20 : Int32) (x21 : Int32) (x26 : Int32) : Option (((Int32 × QHeap)) ⊕ (Int64 × Int64 × Int32 × Int32 × Ob)) :=
  (F22 p0).bind fun r226 => (if (r226 - (5000 : Int32)) < (0 : Int32) then some (.inl ((0 : Int32), (H0 s p0))) else (if (r226 - (5000 : Int32)) < x3 then (F11 p0).bind fun r229 => (F23 x10 (r226 - (5000 : Int32))).bind fun r230 => (if r229 < r230 then some (.inl ((0 : Int32), (H0 s p0))) else (F24 x8 (r226 - (5000 : Int32)) (((128 : Int32) ||| (x20 <<< ((3 : Int32) &&& 31))) ||| (x21 - (1 : Int32)))).bind fun r232 => (J0_438 s p0 x3 x6 r232 x10 x12 x13 x16 x17 x18 x26)) else some (.inl ((0 : Int32), (H0 s p0)))))
theorem tJ0_375 (Ad : QAd n0 ad) (W : QW Z a0) (s : List Int32) (p0 : Ob) (x3 : Int32) (x6 : Int32) (x8 : Int64) (x10 : Int64) (x12 : Int32) (x13 : Int32) (x16 : Int32) (x17 : Int32) (x18 : Int64) (x20 : Int32) (x21 : Int32) (x26 : Int32) {r : ((Int32 × QHeap)) ⊕ (Int64 × Int64 × Int32 × Int32 × Ob)} {u : Option Value} {τ : QHeap} (h : J0_375 s p0 x3 x6 x8 x10 x12 x13 x16 x17 x18 x20 x21 x26 = some r) (hx0 : ∀ x : Int32 × QHeap, r = .inl x → u = (some (Value.int x.1)) ∧ τ = x.2) (hc : ∀ x : Int64 × Int64 × Int32 × Int32 × Ob, r = .inr x → QTri l Z n0 ad 0 (80, [vR 0, none, none, vI x3, none, none, vI x6, vR 1, vL x.1, none, vL x.2.1, none, vI x.2.2.1, vI x.2.2.2.1, none, none, none, none, none, none, none, none, none, none, none, none, none, none], [], (H0 s x.2.2.2.2)) u τ) : QTri l Z n0 ad 0 (375, [vR 0, none, none, vI x3, none, none, vI x6, vR 1, vL x8, none, vL x10, none, vI x12, vI x13, none, none, vI x16, vI x17, vL x18, none, vI x20, vI x21, none, none, none, none, vI x26, none], [], (H0 s p0)) u τ := by
 unfold J0_375 at h
 refine zS Ad W 1 (st' := (377, [vR 0, none, none, vI x3, none, none, vI x6, vR 1, vL x8, none, vL x10, none, vI x12, vI x13, none, none, vI x16, vI x17, vL x18, none, vI x20, vI x21, none, none, none, none, vI x26, none], [.ref 1], (H0 s p0))) rfl ?_
 obtain ⟨r226, hr226, h⟩ := bind_eq_some_iff.mp h
 refine QTri.callV W (a := 1) (as := []) (rest := []) (w := (some (.int r226))) (σ₁ := (H0 s p0)) rfl rfl rfl rfl rfl rfl rfl rfl (tF22 Ad W s p0 hr226) ?_
 refine zS Ad W 4 (st' := (388, [vR 0, none, none, vI x3, none, none, vI x6, vR 1, vL x8, none, vL x10, none, vI x12, vI x13, none, none, vI x16, vI x17, vL x18, none, vI x20, vI x21, none, none, none, none, vI x26, vI (r226 - (5000:Int32))], [.int (r226 - (5000:Int32))], (H0 s p0))) rfl ?_
 rcases qite h with ⟨hc227, h⟩ | ⟨hc227, h⟩
 ·refine zT Ad W (t := 397) (f := 391) rfl (XT.i0_lt_t hc227) ?_
  refine zS Ad W 1 (st' := (398, [vR 0, none, none, vI x3, none, none, vI x6, vR 1, vL x8, none, vL x10, none, vI x12, vI x13, none, none, vI x16, vI x17, vL x18, none, vI x20, vI x21, none, none, none, none, vI x26, vI (r226 - (5000:Int32))], [.int (0:Int32)], (H0 s p0))) rfl ?_
  obtain rfl := Option.some.inj h
  obtain ⟨rfl, rfl⟩ := hx0 ((0:Int32), (H0 s p0)) rfl
  exact QTri.retZ rfl rfl
 ·refine zF Ad W (t := 397) (f := 391) rfl (XT.i0_lt_f hc227) ?_
  refine zS Ad W 2 (st' := (394, [vR 0, none, none, vI x3, none, none, vI x6, vR 1, vL x8, none, vL x10, none, vI x12, vI x13, none, none, vI x16, vI x17, vL x18, none, vI x20, vI x21, none, none, none, none, vI x26, vI (r226 - (5000:Int32))], [.int x3, .int (r226 - (5000:Int32))], (H0 s p0))) rfl ?_
  rcases qite h with ⟨hc228, h⟩ | ⟨hc228, h⟩
  ·refine zT Ad W (t := 399) (f := 397) rfl (XT.ii_lt_t hc228) ?_
   refine zS Ad W 1 (st' := (401, [vR 0, none, none, vI x3, none, none, vI x6, vR 1, vL x8, none, vL x10, none, vI x12, vI x13, none, none, vI x16, vI x17, vL x18, none, vI x20, vI x21, none, none, none, none, vI x26, vI (r226 - (5000:Int32))], [.ref 1], (H0 s p0))) rfl ?_
   obtain ⟨r229, hr229, h⟩ := bind_eq_some_iff.mp h
   refine QTri.callV W (a := 1) (as := []) (rest := []) (w := (some (.int r229))) (σ₁ := (H0 s p0)) rfl rfl rfl rfl rfl rfl rfl rfl (tF11 Ad W s p0 hr229) ?_
   refine zS Ad W 2 (st' := (408, [vR 0, none, none, vI x3, none, none, vI x6, vR 1, vL x8, none, vL x10, none, vI x12, vI x13, none, none, vI x16, vI x17, vL x18, none, vI x20, vI x21, none, none, none, none, vI x26, vI (r226 - (5000:Int32))], [.int (r226 - (5000:Int32)), .long x10, .int r229], (H0 s p0))) rfl ?_
   obtain ⟨r230, hr230, h⟩ := bind_eq_some_iff.mp h
   refine QTri.callS W (as := [.long x10, .int (r226 - (5000:Int32))]) (rest := [.int r229]) (w := (some (.int r230))) (σ₁ := (H0 s p0)) rfl rfl rfl rfl rfl rfl rfl (tF23 Ad W x10 (r226 - (5000:Int32)) hr230) ?_
   rcases qite h with ⟨hc231, h⟩ | ⟨hc231, h⟩
   ·refine zF Ad W (t := 416) (f := 414) rfl (XT.ii_ge_f hc231) ?_
    refine zS Ad W 1 (st' := (415, [vR 0, none, none, vI x3, none, none, vI x6, vR 1, vL x8, none, vL x10, none, vI x12, vI x13, none, none, vI x16, vI x17, vL x18, none, vI x20, vI x21, none, none, none, none, vI x26, vI (r226 - (5000:Int32))], [.int (0:Int32)], (H0 s p0))) rfl ?_
    obtain rfl := Option.some.inj h
    obtain ⟨rfl, rfl⟩ := hx0 ((0:Int32), (H0 s p0)) rfl
    exact QTri.retZ rfl rfl
   ·refine zT Ad W (t := 416) (f := 414) rfl (XT.ii_ge_t hc231) ?_
    refine zS Ad W 11 (st' := (433, [vR 0, none, none, vI x3, none, none, vI x6, vR 1, vL x8, none, vL x10, none, vI x12, vI x13, none, none, vI x16, vI x17, vL x18, none, vI x20, vI x21, none, none, none, none, vI x26, vI (r226 - (5000:Int32))], [.int (((128:Int32) ||| (x20 <<< ((3:Int32) &&& 31))) ||| (x21 - (1:Int32))), .int (r226 - (5000:Int32)), .long x8], (H0 s p0))) rfl ?_
    obtain ⟨r232, hr232, h⟩ := bind_eq_some_iff.mp h
    refine QTri.callS W (as := [.long x8, .int (r226 - (5000:Int32)), .int (((128:Int32) ||| (x20 <<< ((3:Int32) &&& 31))) ||| (x21 - (1:Int32)))]) (rest := []) (w := (some (.long r232))) (σ₁ := (H0 s p0)) rfl rfl rfl rfl rfl rfl rfl (tF24 Ad W x8 (r226 - (5000:Int32)) (((128:Int32) ||| (x20 <<< ((3:Int32) &&& 31))) ||| (x21 - (1:Int32))) hr232) ?_
    refine zS Ad W 1 (st' := (438, [vR 0, none, none, vI x3, none, none, vI x6, vR 1, vL r232, none, vL x10, none, vI x12, vI x13, none, none, vI x16, vI x17, vL x18, none, vI x20, vI x21, none, none, none, none, vI x26, vI (r226 - (5000:Int32))], [], (H0 s p0))) rfl ?_
    exact zM [tt,ff,ff,tt,ff,ff,tt,tt,tt,ff,tt,ff,tt,tt,ff,ff,tt,tt,tt,ff,ff,ff,ff,ff,ff,ff,tt,ff] (tJ0_438 Ad W s p0 x3 x6 r232 x10 x12 x13 x16 x17 x18 x26 h hx0 hc)
  ·refine zF Ad W (t := 399) (f := 397) rfl (XT.ii_lt_f hc228) ?_
   refine zS Ad W 1 (st' := (398, [vR 0, none, none, vI x3, none, none, vI x6, vR 1, vL x8, none, vL x10, none, vI x12, vI x13, none, none, vI x16, vI x17, vL x18, none, vI x20, vI x21, none, none, none, none, vI x26, vI (r226 - (5000:Int32))], [.int (0:Int32)], (H0 s p0))) rfl ?_
   obtain rfl := Option.some.inj h
   obtain ⟨rfl, rfl⟩ := hx0 ((0:Int32), (H0 s p0)) rfl
   exact QTri.retZ rfl rfl
/-- inbound(III)I -/
def F13 (o : Ob) (x1 : Int32) (x2 : Int32) (x3 : Int32) : Option (Int32 × Ob) :=
 (F10 x2 x3).bind fun r256 => (if r256 = (0:Int32) then some ((-1:Int32), o) else (if (f_remAddr o) = (0:Int32) then some ((-1:Int32), o) else (if (f_remAddr o) = (255:Int32) then some ((-1:Int32), o) else (F29 o x1 x2).bind fun r260 => (if r260 < (0:Int32) then some ((-4:Int32), o) else (F30 o r260 (f_remAddr o)).bind fun r262 => (if r262 = (0:Int32) then some ((-5:Int32), o) else (aget (f_hostOf o) r260).bind fun y264 => (aget (f_iportOf o) r260).bind fun y265 => (F20 (s_regExt (s_regPort (s_regHost o y264) y265) x1) r260 x3 (1:Int32)).bind fun r267 => some ((2:Int32), r267))))))
theorem tF13 (Ad : QAd n0 ad) (W : QW Z a0) (s : List Int32) (o : Ob) (x1 : Int32) (x2 : Int32) (x3 : Int32) {r : Int32 × Ob} (h : F13 o x1 x2 x3 = some r) : QTri l Z n0 ad 13 (0, qentry [.ref 1, .int x1, .int x2, .int x3] (pMaxL 13), [], (H0 s o)) (some (Value.int r.1)) (H0 s r.2) := by
 unfold F13 at h
 refine zS Ad W 3 (st' := (3, [vR 1, vI x1, vI x2, vI x3, none], [.int x3, .int x2, .ref 1], (H0 s o))) rfl ?_
 obtain ⟨r256, hr256, h⟩ := bind_eq_some_iff.mp h
 refine QTri.callP W (a := 1) (as := [.int x2, .int x3]) (rest := []) (w := (some (.int r256))) (σ₁ := (H0 s o)) rfl rfl rfl rfl rfl rfl rfl rfl (tF10 Ad W x2 x3 hr256) ?_
 rcases qite h with ⟨hc257, h⟩ | ⟨hc257, h⟩
 ·refine zT Ad W (t := 26) (f := 9) rfl (XT.i0_eq_t hc257) ?_
  refine zS Ad W 1 (st' := (27, [vR 1, vI x1, vI x2, vI x3, none], [.int (-1:Int32)], (H0 s o))) rfl ?_
  obtain rfl := Option.some.inj h
  exact QTri.retI rfl rfl
 ·refine zF Ad W (t := 26) (f := 9) rfl (XT.i0_eq_f hc257) ?_
  refine zS Ad W 2 (st' := (13, [vR 1, vI x1, vI x2, vI x3, none], [.int (f_remAddr o)], (H0 s o))) rfl ?_
  rcases qite h with ⟨hc258, h⟩ | ⟨hc258, h⟩
  ·refine zT Ad W (t := 26) (f := 16) rfl (XT.i0_eq_t hc258) ?_
   refine zS Ad W 1 (st' := (27, [vR 1, vI x1, vI x2, vI x3, none], [.int (-1:Int32)], (H0 s o))) rfl ?_
   obtain rfl := Option.some.inj h
   exact QTri.retI rfl rfl
  ·refine zF Ad W (t := 26) (f := 16) rfl (XT.i0_eq_f hc258) ?_
   refine zS Ad W 3 (st' := (23, [vR 1, vI x1, vI x2, vI x3, none], [.int (255:Int32), .int (f_remAddr o)], (H0 s o))) rfl ?_
   rcases qite h with ⟨hc259, h⟩ | ⟨hc259, h⟩
   ·refine zF Ad W (t := 28) (f := 26) rfl (XT.ii_ne_f hc259) ?_
    refine zS Ad W 1 (st' := (27, [vR 1, vI x1, vI x2, vI x3, none], [.int (-1:Int32)], (H0 s o))) rfl ?_
    obtain rfl := Option.some.inj h
    exact QTri.retI rfl rfl
   ·refine zT Ad W (t := 28) (f := 26) rfl (XT.ii_ne_t hc259) ?_
    refine zS Ad W 3 (st' := (31, [vR 1, vI x1, vI x2, vI x3, none], [.int x2, .int x1, .ref 1], (H0 s o))) rfl ?_
    obtain ⟨r260, hr260, h⟩ := bind_eq_some_iff.mp h
    refine QTri.callP W (a := 1) (as := [.int x1, .int x2]) (rest := []) (w := (some (.int r260))) (σ₁ := (H0 s o)) rfl rfl rfl rfl rfl rfl rfl rfl (tF29 Ad W s o x1 x2 hr260) ?_
    refine zS Ad W 2 (st' := (38, [vR 1, vI x1, vI x2, vI x3, vI r260], [.int r260], (H0 s o))) rfl ?_
    rcases qite h with ⟨hc261, h⟩ | ⟨hc261, h⟩
    ·refine zF Ad W (t := 44) (f := 41) rfl (XT.i0_ge_f hc261) ?_
     refine zS Ad W 1 (st' := (43, [vR 1, vI x1, vI x2, vI x3, vI r260], [.int (-4:Int32)], (H0 s o))) rfl ?_
     obtain rfl := Option.some.inj h
     exact QTri.retI rfl rfl
    ·refine zT Ad W (t := 44) (f := 41) rfl (XT.i0_ge_t hc261) ?_
     refine zS Ad W 4 (st' := (51, [vR 1, vI x1, vI x2, vI x3, vI r260], [.int (f_remAddr o), .int r260, .ref 1], (H0 s o))) rfl ?_
     obtain ⟨r262, hr262, h⟩ := bind_eq_some_iff.mp h
     refine QTri.callP W (a := 1) (as := [.int r260, .int (f_remAddr o)]) (rest := []) (w := (some (.int r262))) (σ₁ := (H0 s o)) rfl rfl rfl rfl rfl rfl rfl rfl (tF30 Ad W s o r260 (f_remAddr o) hr262) ?_
     rcases qite h with ⟨hc263, h⟩ | ⟨hc263, h⟩
     ·refine zF Ad W (t := 60) (f := 57) rfl (XT.i0_ne_f hc263) ?_
      refine zS Ad W 1 (st' := (59, [vR 1, vI x1, vI x2, vI x3, vI r260], [.int (-5:Int32)], (H0 s o))) rfl ?_
      obtain rfl := Option.some.inj h
      exact QTri.retI rfl rfl
     ·refine zT Ad W (t := 60) (f := 57) rfl (XT.i0_ne_t hc263) ?_
      refine zS Ad W 4 (st' := (67, [vR 1, vI x1, vI x2, vI x3, vI r260], [.int r260, .ref 6, .ref 1], (H0 s o))) rfl ?_
      obtain ⟨y264, hy264, h⟩ := bind_eq_some_iff.mp h
      refine zB Ad W (f := fun y264 => (68, [vR 1, vI x1, vI x2, vI x3, vI r260], [.int y264, .ref 1], (H0 s o))) rfl hy264 ?_
      refine zS Ad W 1 (st' := (71, [vR 1, vI x1, vI x2, vI x3, vI r260], [], (H0x25 s o y264))) rfl ?_
      refine zS Ad W 4 (st' := (78, [vR 1, vI x1, vI x2, vI x3, vI r260], [.int r260, .ref 7, .ref 1], (H0x25 s o y264))) rfl ?_
      obtain ⟨y265, hy265, h⟩ := bind_eq_some_iff.mp h
      refine zB Ad W (f := fun y265 => (79, [vR 1, vI x1, vI x2, vI x3, vI r260], [.int y265, .ref 1], (H0x25 s o y264))) rfl hy265 ?_
      refine zS Ad W 1 (st' := (82, [vR 1, vI x1, vI x2, vI x3, vI r260], [], (H0x26 s o y264 y265))) rfl ?_
      refine zS Ad W 3 (st' := (87, [vR 1, vI x1, vI x2, vI x3, vI r260], [], (H0x28 s o y264 y265 x1))) rfl ?_
      refine zS Ad W 4 (st' := (92, [vR 1, vI x1, vI x2, vI x3, vI r260], [.int (1:Int32), .int x3, .int r260, .ref 1], (H0x28 s o y264 y265 x1))) rfl ?_
      have E266 : ((H0x28 s o y264 y265 x1) : QHeap) = (H0 s (s_regExt (s_regPort (s_regHost o y264) y265) x1)) := by simp only [fs, H0, H0v, H0x28, s_regHost, s_regPort, s_regExt]
      rw [E266]
      obtain ⟨r267, hr267, h⟩ := bind_eq_some_iff.mp h
      refine QTri.callP W (a := 1) (as := [.int r260, .int x3, .int (1:Int32)]) (rest := []) (w := none) (σ₁ := (H0 s r267)) rfl rfl rfl rfl rfl rfl rfl rfl (tF20 Ad W s (s_regExt (s_regPort (s_regHost o y264) y265) x1) r260 x3 (1:Int32) hr267) ?_
      refine zS Ad W 1 (st' := (96, [vR 1, vI x1, vI x2, vI x3, vI r260], [.int (2:Int32)], (H0 s r267))) rfl ?_
      obtain rfl := Option.some.inj h
      exact QTri.retI rfl rfl
def J0_586 (s : List Int32) (p0 : Ob) (x3 : Int32) (x6 : Int32) (x8 : Int64) (x10 : Int64) (x12 : Int32) (x13 : Int32) (x16 : Int32) (x17 : Int32) (x18 : Int64) : Option (((Int32 × QHeap)) ⊕ (Int64 × Int64 × Int32 × Int32 × Ob)) :=
  (J0_602 s p0 x3 x6 x8 x10 x12 x13 x16 x17 x18)
theorem tJ0_586 (Ad : QAd n0 ad) (W : QW Z a0) (s : List Int32) (p0 : Ob) (x3 : Int32) (x6 : Int32) (x8 : Int64) (x10 : Int64) (x12 : Int32) (x13 : Int32) (x16 : Int32) (x17 : Int32) (x18 : Int64) {r : ((Int32 × QHeap)) ⊕ (Int64 × Int64 × Int32 × Int32 × Ob)} {u : Option Value} {τ : QHeap} (h : J0_586 s p0 x3 x6 x8 x10 x12 x13 x16 x17 x18 = some r) (hx0 : ∀ x : Int32 × QHeap, r = .inl x → u = (some (Value.int x.1)) ∧ τ = x.2) (hc : ∀ x : Int64 × Int64 × Int32 × Int32 × Ob, r = .inr x → QTri l Z n0 ad 0 (80, [vR 0, none, none, vI x3, none, none, vI x6, vR 1, vL x.1, none, vL x.2.1, none, vI x.2.2.1, vI x.2.2.2.1, none, none, none, none, none, none, none, none, none, none, none, none, none, none], [], (H0 s x.2.2.2.2)) u τ) : QTri l Z n0 ad 0 (586, [vR 0, none, none, vI x3, none, none, vI x6, vR 1, vL x8, none, vL x10, none, vI x12, vI x13, none, none, vI x16, vI x17, vL x18, none, none, none, none, none, none, none, none, none], [], (H0 s p0)) u τ := by
 unfold J0_586 at h
 refine zS Ad W 1 (st' := (602, [vR 0, none, none, vI x3, none, none, vI x6, vR 1, vL x8, none, vL x10, none, vI x12, vI x13, none, none, vI x16, vI x17, vL x18, none, none, none, none, none, none, none, none, none], [], (H0 s p0))) rfl ?_
 exact zM [tt,ff,ff,tt,ff,ff,tt,tt,tt,ff,tt,ff,tt,tt,ff,ff,tt,tt,tt,ff,ff,ff,ff,ff,ff,ff,ff,ff] (tJ0_602 Ad W s p0 x3 x6 x8 x10 x12 x13 x16 x17 x18 h hx0 hc)
def H0x29 (s : List Int32) (o0 : Ob) (a0_13 : Int32) : QHeap := H0v s (f_live o0) (f_used o0) (f_freedAt o0) (f_protoOf o0) (f_hostOf o0) (f_iportOf o0) (f_stateAt o0) (f_deadlineAt o0) (f_perm o0) (f_poolSize o0) (f_udpTimeout o0) (f_tcpTimeout o0) (f_cooldown o0) a0_13 (f_remAddr o0) (f_remPort o0) (f_regHost o0) (f_regPort o0) (f_regExt o0)
def J12_66 (o : Ob) (x2 : Int32) : Option (((Int32 × Ob)) ⊕ (Int32 × Ob)) :=
  some (.inr ((x2 + (1 : Int32)), o))
theorem tJ12_66 (Ad : QAd n0 ad) (W : QW Z a0) (s : List Int32) (o : Ob) (x2 : Int32) {r : ((Int32 × Ob)) ⊕ (Int32 × Ob)} {u : Option Value} {τ : QHeap} (h : J12_66 o x2 = some r) (hx0 : ∀ x : Int32 × Ob, r = .inl x → u = (some (Value.int x.1)) ∧ τ = (H0 s x.2)) (hc : ∀ x : Int32 × Ob, r = .inr x → QTri l Z n0 ad 12 (25, [vR 1, none, vI x.1], [], (H0 s x.2)) u τ) : QTri l Z n0 ad 12 (66, [vR 1, none, vI x2], [], (H0 s o)) u τ := by
 unfold J12_66 at h
 refine zS Ad W 2 (st' := (25, [vR 1, none, vI (x2 + (1:Int32))], [], (H0 s o))) rfl ?_
 obtain rfl := Option.some.inj h
 exact zM [tt,ff,tt] (hc ((x2 + (1:Int32)), o) rfl)
def B12_25 (v : Int32 × Ob) : Option (((Int32 × Ob)) ⊕ (Int32 × Ob)) :=
  (if v.1 < (f_poolSize v.2) then (aget (f_live v.2) v.1).bind fun y278 => (if y278 = (0 : Int32) then (J12_66 v.2 v.1) else (aget (f_deadlineAt v.2) v.1).bind fun y280 => (if (f_clock v.2) < y280 then (J12_66 v.2 v.1) else (aget (f_deadlineAt v.2) v.1).bind fun y282 => (F35 v.2 v.1 y282).bind fun r283 => (J12_66 r283 v.1))) else some (.inl ((1 : Int32), v.2)))
theorem tB12_25 (Ad : QAd n0 ad) (W : QW Z a0) (s : List Int32) (v : Int32 × Ob) {r : ((Int32 × Ob)) ⊕ (Int32 × Ob)} {u : Option Value} {τ : QHeap} (h : B12_25 v = some r) (hx0 : ∀ x : Int32 × Ob, r = .inl x → u = (some (Value.int x.1)) ∧ τ = (H0 s x.2)) (hc : ∀ x : Int32 × Ob, r = .inr x → QTri l Z n0 ad 12 (25, [vR 1, none, vI x.1], [], (H0 s x.2)) u τ) : QTri l Z n0 ad 12 (25, [vR 1, none, vI v.1], [], (H0 s v.2)) u τ := by
 unfold B12_25 at h
 refine zS Ad W 3 (st' := (30, [vR 1, none, vI v.1], [.int (f_poolSize v.2), .int v.1], (H0 s v.2))) rfl ?_
 rcases qite h with ⟨hc277, h⟩ | ⟨hc277, h⟩
 ·refine zF Ad W (t := 72) (f := 33) rfl (XT.ii_ge_f hc277) ?_
  refine zS Ad W 3 (st' := (38, [vR 1, none, vI v.1], [.int v.1, .ref 2], (H0 s v.2))) rfl ?_
  obtain ⟨y278, hy278, h⟩ := bind_eq_some_iff.mp h
  refine zB Ad W (f := fun y278 => (39, [vR 1, none, vI v.1], [.int y278], (H0 s v.2))) rfl hy278 ?_
  rcases qite h with ⟨hc279, h⟩ | ⟨hc279, h⟩
  ·refine zT Ad W (t := 66) (f := 42) rfl (XT.i0_eq_t hc279) ?_
   exact zM [tt,ff,tt] (tJ12_66 Ad W s v.2 v.1 h hx0 hc)
  ·refine zF Ad W (t := 66) (f := 42) rfl (XT.i0_eq_f hc279) ?_
   refine zS Ad W 3 (st' := (47, [vR 1, none, vI v.1], [.int v.1, .ref 9], (H0 s v.2))) rfl ?_
   obtain ⟨y280, hy280, h⟩ := bind_eq_some_iff.mp h
   refine zB Ad W (f := fun y280 => (48, [vR 1, none, vI v.1], [.int y280], (H0 s v.2))) rfl hy280 ?_
   refine zS Ad W 2 (st' := (52, [vR 1, none, vI v.1], [.int (f_clock v.2), .int y280], (H0 s v.2))) rfl ?_
   rcases qite h with ⟨hc281, h⟩ | ⟨hc281, h⟩
   ·refine zT Ad W (t := 66) (f := 55) rfl (XT.ii_gt_t hc281) ?_
    exact zM [tt,ff,tt] (tJ12_66 Ad W s v.2 v.1 h hx0 hc)
   ·refine zF Ad W (t := 66) (f := 55) rfl (XT.ii_gt_f hc281) ?_
    refine zS Ad W 5 (st' := (62, [vR 1, none, vI v.1], [.int v.1, .ref 9, .int v.1, .ref 1], (H0 s v.2))) rfl ?_
    obtain ⟨y282, hy282, h⟩ := bind_eq_some_iff.mp h
    refine zB Ad W (f := fun y282 => (63, [vR 1, none, vI v.1], [.int y282, .int v.1, .ref 1], (H0 s v.2))) rfl hy282 ?_
    obtain ⟨r283, hr283, h⟩ := bind_eq_some_iff.mp h
    refine QTri.callP W (a := 1) (as := [.int v.1, .int y282]) (rest := []) (w := none) (σ₁ := (H0 s r283)) rfl rfl rfl rfl rfl rfl rfl rfl (tF35 Ad W s v.2 v.1 y282 hr283) ?_
    exact zM [tt,ff,tt] (tJ12_66 Ad W s r283 v.1 h hx0 hc)
 ·refine zT Ad W (t := 72) (f := 33) rfl (XT.ii_ge_t hc277) ?_
  refine zS Ad W 1 (st' := (73, [vR 1, none, vI v.1], [.int (1:Int32)], (H0 s v.2))) rfl ?_
  obtain rfl := Option.some.inj h
  obtain ⟨rfl, rfl⟩ := hx0 ((1:Int32), v.2) rfl
  exact QTri.retZ rfl rfl
/-- advance(I)Z -/
def F12 (o : Ob) (x1 : Int32) : Option (Int32 × Ob) :=
 (if x1 < (0:Int32) then some ((0:Int32), o) else (if (1000:Int32) < x1 then some ((0:Int32), o) else (loopN (B12_25) qN ((0:Int32), (s_clock o ((f_clock o) + x1)))).bind fun e284 => some e284))
theorem tF12 (Ad : QAd n0 ad) (W : QW Z a0) (s : List Int32) (o : Ob) (x1 : Int32) {r : Int32 × Ob} (h : F12 o x1 = some r) : QTri l Z n0 ad 12 (0, qentry [.ref 1, .int x1] (pMaxL 12), [], (H0 s o)) (some (Value.int r.1)) (H0 s r.2) := by
 unfold F12 at h
 refine zS Ad W 1 (st' := (1, [vR 1, vI x1, none], [.int x1], (H0 s o))) rfl ?_
 rcases qite h with ⟨hc274, h⟩ | ⟨hc274, h⟩
 ·refine zT Ad W (t := 11) (f := 4) rfl (XT.i0_lt_t hc274) ?_
  refine zS Ad W 1 (st' := (12, [vR 1, vI x1, none], [.int (0:Int32)], (H0 s o))) rfl ?_
  obtain rfl := Option.some.inj h
  exact QTri.retZ rfl rfl
 ·refine zF Ad W (t := 11) (f := 4) rfl (XT.i0_lt_f hc274) ?_
  refine zS Ad W 2 (st' := (8, [vR 1, vI x1, none], [.int (1000:Int32), .int x1], (H0 s o))) rfl ?_
  rcases qite h with ⟨hc275, h⟩ | ⟨hc275, h⟩
  ·refine zF Ad W (t := 13) (f := 11) rfl (XT.ii_le_f hc275) ?_
   refine zS Ad W 1 (st' := (12, [vR 1, vI x1, none], [.int (0:Int32)], (H0 s o))) rfl ?_
   obtain rfl := Option.some.inj h
   exact QTri.retZ rfl rfl
  ·refine zT Ad W (t := 13) (f := 11) rfl (XT.ii_le_t hc275) ?_
   refine zS Ad W 6 (st' := (23, [vR 1, vI x1, none], [], (H0x29 s o ((f_clock o) + x1)))) rfl ?_
   refine zS Ad W 2 (st' := (25, [vR 1, vI x1, vI (0:Int32)], [], (H0x29 s o ((f_clock o) + x1)))) rfl ?_
   have E276 : ((H0x29 s o ((f_clock o) + x1)) : QHeap) = (H0 s (s_clock o ((f_clock o) + x1))) := by simp only [fs, H0, H0v, H0x29, s_clock]
   rw [E276]
   obtain ⟨e284, he284, h⟩ := bind_eq_some_iff.mp h
   refine zM [tt,ff,tt] (loopN_tri (B := B12_25) (T := fun lv285 => QTri l Z n0 ad 12 (25, [vR 1, none, vI lv285.1], [], (H0 s lv285.2)) (some (Value.int r.1)) (H0 s r.2)) (KE := fun e284a => (some (Value.int r.1)) = (some (Value.int e284a.1)) ∧ (H0 s r.2) = (H0 s e284a.2)) (fun lv285 r hB hE hC => tB12_25 Ad W s lv285 hB (fun x q => hE _ q) (fun x q => hC x q)) qN ((0:Int32), (s_clock o ((f_clock o) + x1))) e284 he284 ?_)
   obtain rfl := Option.some.inj h
   exact ⟨rfl, rfl⟩
def B0_80 (s : List Int32) (x3 : Int32) (x6 : Int32) (v : Int64 × Int64 × Int32 × Int32 × Ob) : Option (((Int32 × QHeap)) ⊕ (Int64 × Int64 × Int32 × Int32 × Ob)) :=
  (if v.2.2.2.1 < (s.length.toInt32) then (if v.2.2.2.1 < (2002 : Int32) then (aget s v.2.2.2.1).bind fun y18 => (F1 s (v.2.2.2.1 + (1 : Int32))).bind fun r21 => (loopN (B0_126 s v.2.2.2.2 x3 x6 v.1 v.2.1 v.2.2.1 v.2.2.2.1 y18 r21 (y18 &&& (3 : Int32))) qN ((0 : Int32), (0 : Int64), (0 : Int32))).bind fun e39 => (if (y18 &&& (3 : Int32)) = (0 : Int32) then (F14 v.2.2.2.2 (if ((XT.ushr y18 (2 : Int32)) &&& (3 : Int32)) = (3 : Int32) then (255 : Int32) else (((XT.ushr y18 (2 : Int32)) &&& (3 : Int32)) + (1 : Int32))) ((5000 : Int32) + (r21 &&& (7 : Int32)))).bind fun r50 => (J0_602 s r50.2 x3 x6 v.1 v.2.1 (if r50.1 = (0 : Int32) then v.2.2.1 else ((5000 : Int32) + (r21 &&& (7 : Int32)))) v.2.2.2.1 (y18 &&& (3 : Int32)) e39.1 e39.2) else (if (y18 &&& (3 : Int32)) = (1 : Int32) then (F7 v.2.2.2.2 ((XT.ushr y18 (2 : Int32)) &&& (7 : Int32)) (((XT.ushr y18 (5 : Int32)) &&& (7 : Int32)) + (1 : Int32)) (if (if ((XT.ushr y18 (8 : Int32)) &&& (1 : Int32)) = (1 : Int32) then (1 : Int32) else (0 : Int32)) = (0 : Int32) then (17 : Int32) else (6 : Int32))).bind fun r106 => (F9 v.2.2.2.2 ((XT.ushr y18 (2 : Int32)) &&& (7 : Int32)) (((XT.ushr y18 (5 : Int32)) &&& (7 : Int32)) + (1 : Int32)) (if (if ((XT.ushr y18 (8 : Int32)) &&& (1 : Int32)) = (1 : Int32) then (1 : Int32) else (0 : Int32)) = (0 : Int32) then (17 : Int32) else (6 : Int32)) (if (if ((XT.ushr y18 (8 : Int32)) &&& (1 : Int32)) = (1 : Int32) then (1 : Int32) else (0 : Int32)) = (0 : Int32) then (0 : Int32) else (r21 &&& (15 : Int32)))).bind fun r223 => (if (if r106 < (0 : Int32) then (0 : Int32) else (1 : Int32)) = (0 : Int32) then (if r223.1 = (1 : Int32) then (J0_375 s r223.2 x3 x6 v.1 v.2.1 v.2.2.1 v.2.2.2.1 (y18 &&& (3 : Int32)) e39.1 e39.2 ((XT.ushr y18 (2 : Int32)) &&& (7 : Int32)) (((XT.ushr y18 (5 : Int32)) &&& (7 : Int32)) + (1 : Int32)) r223.1) else (if r223.1 = (3 : Int32) then (J0_375 s r223.2 x3 x6 v.1 v.2.1 v.2.2.1 v.2.2.2.1 (y18 &&& (3 : Int32)) e39.1 e39.2 ((XT.ushr y18 (2 : Int32)) &&& (7 : Int32)) (((XT.ushr y18 (5 : Int32)) &&& (7 : Int32)) + (1 : Int32)) r223.1) else (if r223.1 = (4 : Int32) then (J0_375 s r223.2 x3 x6 v.1 v.2.1 v.2.2.1 v.2.2.2.1 (y18 &&& (3 : Int32)) e39.1 e39.2 ((XT.ushr y18 (2 : Int32)) &&& (7 : Int32)) (((XT.ushr y18 (5 : Int32)) &&& (7 : Int32)) + (1 : Int32)) r223.1) else (J0_438 s r223.2 x3 x6 v.1 v.2.1 v.2.2.1 v.2.2.2.1 (y18 &&& (3 : Int32)) e39.1 e39.2 r223.1)))) else (J0_438 s r223.2 x3 x6 v.1 v.2.1 v.2.2.1 v.2.2.2.1 (y18 &&& (3 : Int32)) e39.1 e39.2 r223.1)) else (if (y18 &&& (3 : Int32)) = (2 : Int32) then (F13 v.2.2.2.2 ((5000 : Int32) + ((XT.ushr y18 (2 : Int32)) &&& (7 : Int32))) (if (if ((XT.ushr y18 (5 : Int32)) &&& (1 : Int32)) = (1 : Int32) then (1 : Int32) else (0 : Int32)) = (0 : Int32) then (17 : Int32) else (6 : Int32)) (if (if ((XT.ushr y18 (5 : Int32)) &&& (1 : Int32)) = (1 : Int32) then (1 : Int32) else (0 : Int32)) = (0 : Int32) then (0 : Int32) else (r21 &&& (15 : Int32)))).bind fun r268 => (if r268.1 = (2 : Int32) then (F31 r268.2).bind fun r270 => (F32 r268.2).bind fun r271 => (F33 v.1 (((5000 : Int32) + ((XT.ushr y18 (2 : Int32)) &&& (7 : Int32))) - (5000 : Int32)) x3 r270 r271).bind fun r272 => (if r272 = (0 : Int32) then some (.inl ((0 : Int32), (H0 s r268.2))) else (J0_586 s r268.2 x3 x6 v.1 v.2.1 v.2.2.1 v.2.2.2.1 (y18 &&& (3 : Int32)) e39.1 e39.2)) else (J0_586 s r268.2 x3 x6 v.1 v.2.1 v.2.2.1 v.2.2.2.1 (y18 &&& (3 : Int32)) e39.1 e39.2)) else (F12 v.2.2.2.2 ((XT.ushr y18 (2 : Int32)) &&& (15 : Int32))).bind fun r286 => (J0_602 s r286.2 x3 x6 v.1 v.2.1 v.2.2.1 v.2.2.2.1 (y18 &&& (3 : Int32)) e39.1 e39.2)))) else some (.inl ((1 : Int32), (H0 s v.2.2.2.2)))) else some (.inl ((1 : Int32), (H0 s v.2.2.2.2))))
theorem tB0_80 (Ad : QAd n0 ad) (W : QW Z a0) (s : List Int32) (x3 : Int32) (x6 : Int32) (v : Int64 × Int64 × Int32 × Int32 × Ob) {r : ((Int32 × QHeap)) ⊕ (Int64 × Int64 × Int32 × Int32 × Ob)} {u : Option Value} {τ : QHeap} (h : B0_80 s x3 x6 v = some r) (hx0 : ∀ x : Int32 × QHeap, r = .inl x → u = (some (Value.int x.1)) ∧ τ = x.2) (hc : ∀ x : Int64 × Int64 × Int32 × Int32 × Ob, r = .inr x → QTri l Z n0 ad 0 (80, [vR 0, none, none, vI x3, none, none, vI x6, vR 1, vL x.1, none, vL x.2.1, none, vI x.2.2.1, vI x.2.2.2.1, none, none, none, none, none, none, none, none, none, none, none, none, none, none], [], (H0 s x.2.2.2.2)) u τ) : QTri l Z n0 ad 0 (80, [vR 0, none, none, vI x3, none, none, vI x6, vR 1, vL v.1, none, vL v.2.1, none, vI v.2.2.1, vI v.2.2.2.1, none, none, none, none, none, none, none, none, none, none, none, none, none, none], [], (H0 s v.2.2.2.2)) u τ := by
 unfold B0_80 at h
 refine zS Ad W 3 (st' := (84, [vR 0, none, none, vI x3, none, none, vI x6, vR 1, vL v.1, none, vL v.2.1, none, vI v.2.2.1, vI v.2.2.2.1, none, none, none, none, none, none, none, none, none, none, none, none, none, none], [.int (s.length.toInt32), .int v.2.2.2.1], (H0 s v.2.2.2.2))) rfl ?_
 rcases qite h with ⟨hc16, h⟩ | ⟨hc16, h⟩
 ·refine zF Ad W (t := 778) (f := 87) rfl (XT.ii_ge_f hc16) ?_
  refine zS Ad W 2 (st' := (92, [vR 0, none, none, vI x3, none, none, vI x6, vR 1, vL v.1, none, vL v.2.1, none, vI v.2.2.1, vI v.2.2.2.1, none, none, none, none, none, none, none, none, none, none, none, none, none, none], [.int (2002:Int32), .int v.2.2.2.1], (H0 s v.2.2.2.2))) rfl ?_
  rcases qite h with ⟨hc17, h⟩ | ⟨hc17, h⟩
  ·refine zF Ad W (t := 778) (f := 95) rfl (XT.ii_ge_f hc17) ?_
   refine zS Ad W 2 (st' := (98, [vR 0, none, none, vI x3, none, none, vI x6, vR 1, vL v.1, none, vL v.2.1, none, vI v.2.2.1, vI v.2.2.2.1, none, none, none, none, none, none, none, none, none, none, none, none, none, none], [.int v.2.2.2.1, .ref 0], (H0 s v.2.2.2.2))) rfl ?_
   obtain ⟨y18, hy18, h⟩ := bind_eq_some_iff.mp h
   refine zB Ad W (f := fun y18 => (99, [vR 0, none, none, vI x3, none, none, vI x6, vR 1, vL v.1, none, vL v.2.1, none, vI v.2.2.1, vI v.2.2.2.1, none, none, none, none, none, none, none, none, none, none, none, none, none, none], [.int y18], (H0 s v.2.2.2.2))) rfl hy18 ?_
   refine zS Ad W 5 (st' := (106, [vR 0, none, none, vI x3, none, none, vI x6, vR 1, vL v.1, none, vL v.2.1, none, vI v.2.2.1, vI v.2.2.2.1, vI y18, none, none, none, none, none, none, none, none, none, none, none, none, none], [.int (v.2.2.2.1 + (1:Int32)), .ref 0], (H0 s v.2.2.2.2))) rfl ?_
   obtain ⟨r21, hr21, h⟩ := bind_eq_some_iff.mp h
   refine QTri.callS W (as := [.ref 0, .int (v.2.2.2.1 + (1:Int32))]) (rest := []) (w := (some (.int r21))) (σ₁ := (H0 s v.2.2.2.2)) rfl rfl rfl rfl rfl rfl rfl (tF1a1 Ad W v.2.2.2.2 s (v.2.2.2.1 + (1:Int32)) hr21) ?_
   refine zS Ad W 5 (st' := (117, [vR 0, none, none, vI x3, none, none, vI x6, vR 1, vL v.1, none, vL v.2.1, none, vI v.2.2.1, vI v.2.2.2.1, vI y18, vI r21, vI (y18 &&& (3:Int32)), none, none, none, none, none, none, none, none, none, none, none], [], (H0 s v.2.2.2.2))) rfl ?_
   refine zS Ad W 4 (st' := (123, [vR 0, none, none, vI x3, none, none, vI x6, vR 1, vL v.1, none, vL v.2.1, none, vI v.2.2.1, vI v.2.2.2.1, vI y18, vI r21, vI (y18 &&& (3:Int32)), vI (0:Int32), vL (0 : Int64), none, none, none, none, none, none, none, none, none], [], (H0 s v.2.2.2.2))) rfl ?_
   refine zS Ad W 2 (st' := (126, [vR 0, none, none, vI x3, none, none, vI x6, vR 1, vL v.1, none, vL v.2.1, none, vI v.2.2.1, vI v.2.2.2.1, vI y18, vI r21, vI (y18 &&& (3:Int32)), vI (0:Int32), vL (0 : Int64), none, vI (0:Int32), none, none, none, none, none, none, none], [], (H0 s v.2.2.2.2))) rfl ?_
   obtain ⟨e39, he39, h⟩ := bind_eq_some_iff.mp h
   refine zM [tt,ff,ff,tt,ff,ff,tt,tt,tt,ff,tt,ff,tt,tt,tt,tt,tt,tt,tt,ff,tt,ff,ff,ff,ff,ff,ff,ff] (loopN_tri (B := B0_126 s v.2.2.2.2 x3 x6 v.1 v.2.1 v.2.2.1 v.2.2.2.1 y18 r21 (y18 &&& (3:Int32))) (T := fun lv40 => QTri l Z n0 ad 0 (126, [vR 0, none, none, vI x3, none, none, vI x6, vR 1, vL v.1, none, vL v.2.1, none, vI v.2.2.1, vI v.2.2.2.1, vI y18, vI r21, vI (y18 &&& (3:Int32)), vI lv40.1, vL lv40.2.1, none, vI lv40.2.2, none, none, none, none, none, none, none], [], (H0 s v.2.2.2.2)) u τ) (KE := fun e39a => QTri l Z n0 ad 0 (181, [vR 0, none, none, vI x3, none, none, vI x6, vR 1, vL v.1, none, vL v.2.1, none, vI v.2.2.1, vI v.2.2.2.1, vI y18, vI r21, vI (y18 &&& (3:Int32)), vI e39a.1, vL e39a.2, none, none, none, none, none, none, none, none, none], [], (H0 s v.2.2.2.2)) u τ) (fun lv40 r hB hE hC => tB0_126 Ad W s v.2.2.2.2 x3 x6 v.1 v.2.1 v.2.2.1 v.2.2.2.1 y18 r21 (y18 &&& (3:Int32)) lv40 hB (fun x q => hE _ q) (fun x q => hC x q)) qN ((0:Int32), (0 : Int64), (0:Int32)) e39 he39 ?_)
   refine zS Ad W 1 (st' := (183, [vR 0, none, none, vI x3, none, none, vI x6, vR 1, vL v.1, none, vL v.2.1, none, vI v.2.2.1, vI v.2.2.2.1, vI y18, vI r21, vI (y18 &&& (3:Int32)), vI e39.1, vL e39.2, none, none, none, none, none, none, none, none, none], [.int (y18 &&& (3:Int32))], (H0 s v.2.2.2.2))) rfl ?_
   rcases qite h with ⟨hc41, h⟩ | ⟨hc41, h⟩
   ·refine zF Ad W (t := 242) (f := 186) rfl (XT.i0_ne_f hc41) ?_
    refine zS Ad W 8 (st' := (197, [vR 0, none, none, vI x3, none, none, vI x6, vR 1, vL v.1, none, vL v.2.1, none, vI v.2.2.1, vI v.2.2.2.1, vI y18, vI r21, vI (y18 &&& (3:Int32)), vI e39.1, vL e39.2, none, vI ((XT.ushr y18 (2:Int32)) &&& (3:Int32)), none, none, none, none, none, none, none], [.int (3:Int32), .int ((XT.ushr y18 (2:Int32)) &&& (3:Int32))], (H0 s v.2.2.2.2))) rfl ?_
    have K43 : ∀ z42 : Int32, z42 = (if ((XT.ushr y18 (2:Int32)) &&& (3:Int32)) = (3:Int32) then (255:Int32) else (((XT.ushr y18 (2:Int32)) &&& (3:Int32)) + (1:Int32))) → QTri l Z n0 ad 0 (210, [vR 0, none, none, vI x3, none, none, vI x6, vR 1, vL v.1, none, vL v.2.1, none, vI v.2.2.1, vI v.2.2.2.1, none, vI r21, vI (y18 &&& (3:Int32)), vI e39.1, vL e39.2, none, none, none, none, none, none, none, none, none], [.int z42], (H0 s v.2.2.2.2)) u τ := by
     intro z42 ez42
     subst ez42
     refine zS Ad W 7 (st' := (223, [vR 0, none, none, vI x3, none, none, vI x6, vR 1, vL v.1, none, vL v.2.1, none, vI v.2.2.1, vI v.2.2.2.1, none, vI r21, vI (y18 &&& (3:Int32)), vI e39.1, vL e39.2, none, none, vI (if ((XT.ushr y18 (2:Int32)) &&& (3:Int32)) = (3:Int32) then (255:Int32) else (((XT.ushr y18 (2:Int32)) &&& (3:Int32)) + (1:Int32))), vI ((5000:Int32) + (r21 &&& (7:Int32))), none, none, none, none, none], [], (H0 s v.2.2.2.2))) rfl ?_
     refine zS Ad W 3 (st' := (229, [vR 0, none, none, vI x3, none, none, vI x6, vR 1, vL v.1, none, vL v.2.1, none, vI v.2.2.1, vI v.2.2.2.1, none, vI r21, vI (y18 &&& (3:Int32)), vI e39.1, vL e39.2, none, none, vI (if ((XT.ushr y18 (2:Int32)) &&& (3:Int32)) = (3:Int32) then (255:Int32) else (((XT.ushr y18 (2:Int32)) &&& (3:Int32)) + (1:Int32))), vI ((5000:Int32) + (r21 &&& (7:Int32))), none, none, none, none, none], [.int ((5000:Int32) + (r21 &&& (7:Int32))), .int (if ((XT.ushr y18 (2:Int32)) &&& (3:Int32)) = (3:Int32) then (255:Int32) else (((XT.ushr y18 (2:Int32)) &&& (3:Int32)) + (1:Int32))), .ref 1], (H0 s v.2.2.2.2))) rfl ?_
     obtain ⟨r50, hr50, h⟩ := bind_eq_some_iff.mp h
     refine QTri.callV W (a := 1) (as := [.int (if ((XT.ushr y18 (2:Int32)) &&& (3:Int32)) = (3:Int32) then (255:Int32) else (((XT.ushr y18 (2:Int32)) &&& (3:Int32)) + (1:Int32))), .int ((5000:Int32) + (r21 &&& (7:Int32)))]) (rest := []) (w := (some (.int r50.1))) (σ₁ := (H0 s r50.2)) rfl rfl rfl rfl rfl rfl rfl rfl (tF14 Ad W s v.2.2.2.2 (if ((XT.ushr y18 (2:Int32)) &&& (3:Int32)) = (3:Int32) then (255:Int32) else (((XT.ushr y18 (2:Int32)) &&& (3:Int32)) + (1:Int32))) ((5000:Int32) + (r21 &&& (7:Int32))) hr50) ?_
     have K52 : ∀ z51 : Int32, z51 = (if r50.1 = (0:Int32) then v.2.2.1 else ((5000:Int32) + (r21 &&& (7:Int32)))) → QTri l Z n0 ad 0 (239, [vR 0, none, none, vI x3, none, none, vI x6, vR 1, vL v.1, none, vL v.2.1, none, vI z51, vI v.2.2.2.1, none, none, vI (y18 &&& (3:Int32)), vI e39.1, vL e39.2, none, none, none, none, none, none, none, none, none], [], (H0 s r50.2)) u τ := by
      intro z51 ez51
      subst ez51
      refine zS Ad W 1 (st' := (602, [vR 0, none, none, vI x3, none, none, vI x6, vR 1, vL v.1, none, vL v.2.1, none, vI (if r50.1 = (0:Int32) then v.2.2.1 else ((5000:Int32) + (r21 &&& (7:Int32)))), vI v.2.2.2.1, none, none, vI (y18 &&& (3:Int32)), vI e39.1, vL e39.2, none, none, none, none, none, none, none, none, none], [], (H0 s r50.2))) rfl ?_
      exact zM [tt,ff,ff,tt,ff,ff,tt,tt,tt,ff,tt,ff,tt,tt,ff,ff,tt,tt,tt,ff,ff,ff,ff,ff,ff,ff,ff,ff] (tJ0_602 Ad W s r50.2 x3 x6 v.1 v.2.1 (if r50.1 = (0:Int32) then v.2.2.1 else ((5000:Int32) + (r21 &&& (7:Int32)))) v.2.2.2.1 (y18 &&& (3:Int32)) e39.1 e39.2 h hx0 hc)
     rcases em (r50.1 = (0:Int32)) with hc53 | hc53
     ·refine zT Ad W (t := 239) (f := 235) rfl (XT.i0_eq_t hc53) ?_
      exact zM [tt,ff,ff,tt,ff,ff,tt,tt,tt,ff,tt,ff,tt,tt,ff,ff,tt,tt,tt,ff,ff,ff,ff,ff,ff,ff,ff,ff] (K52 _ (if_pos hc53).symm)
     ·refine zF Ad W (t := 239) (f := 235) rfl (XT.i0_eq_f hc53) ?_
      refine zS Ad W 2 (st' := (239, [vR 0, none, none, vI x3, none, none, vI x6, vR 1, vL v.1, none, vL v.2.1, none, vI ((5000:Int32) + (r21 &&& (7:Int32))), vI v.2.2.2.1, none, vI r21, vI (y18 &&& (3:Int32)), vI e39.1, vL e39.2, none, none, vI (if ((XT.ushr y18 (2:Int32)) &&& (3:Int32)) = (3:Int32) then (255:Int32) else (((XT.ushr y18 (2:Int32)) &&& (3:Int32)) + (1:Int32))), vI ((5000:Int32) + (r21 &&& (7:Int32))), none, none, none, none, none], [], (H0 s r50.2))) rfl ?_
      exact zM [tt,ff,ff,tt,ff,ff,tt,tt,tt,ff,tt,ff,tt,tt,ff,ff,tt,tt,tt,ff,ff,ff,ff,ff,ff,ff,ff,ff] (K52 _ (if_neg hc53).symm)
    rcases em (((XT.ushr y18 (2:Int32)) &&& (3:Int32)) = (3:Int32)) with hc44 | hc44
    ·refine zF Ad W (t := 206) (f := 200) rfl (XT.ii_ne_f hc44) ?_
     refine zS Ad W 2 (st' := (210, [vR 0, none, none, vI x3, none, none, vI x6, vR 1, vL v.1, none, vL v.2.1, none, vI v.2.2.1, vI v.2.2.2.1, vI y18, vI r21, vI (y18 &&& (3:Int32)), vI e39.1, vL e39.2, none, vI ((XT.ushr y18 (2:Int32)) &&& (3:Int32)), none, none, none, none, none, none, none], [.int (255:Int32)], (H0 s v.2.2.2.2))) rfl ?_
     exact zM [tt,ff,ff,tt,ff,ff,tt,tt,tt,ff,tt,ff,tt,tt,ff,tt,tt,tt,tt,ff,ff,ff,ff,ff,ff,ff,ff,ff] (K43 _ (if_pos hc44).symm)
    ·refine zT Ad W (t := 206) (f := 200) rfl (XT.ii_ne_t hc44) ?_
     refine zS Ad W 3 (st' := (210, [vR 0, none, none, vI x3, none, none, vI x6, vR 1, vL v.1, none, vL v.2.1, none, vI v.2.2.1, vI v.2.2.2.1, vI y18, vI r21, vI (y18 &&& (3:Int32)), vI e39.1, vL e39.2, none, vI ((XT.ushr y18 (2:Int32)) &&& (3:Int32)), none, none, none, none, none, none, none], [.int (((XT.ushr y18 (2:Int32)) &&& (3:Int32)) + (1:Int32))], (H0 s v.2.2.2.2))) rfl ?_
     exact zM [tt,ff,ff,tt,ff,ff,tt,tt,tt,ff,tt,ff,tt,tt,ff,tt,tt,tt,tt,ff,ff,ff,ff,ff,ff,ff,ff,ff] (K43 _ (if_neg hc44).symm)
   ·refine zT Ad W (t := 242) (f := 186) rfl (XT.i0_ne_t hc41) ?_
    refine zS Ad W 2 (st' := (245, [vR 0, none, none, vI x3, none, none, vI x6, vR 1, vL v.1, none, vL v.2.1, none, vI v.2.2.1, vI v.2.2.2.1, vI y18, vI r21, vI (y18 &&& (3:Int32)), vI e39.1, vL e39.2, none, none, none, none, none, none, none, none, none], [.int (1:Int32), .int (y18 &&& (3:Int32))], (H0 s v.2.2.2.2))) rfl ?_
    rcases qite h with ⟨hc96, h⟩ | ⟨hc96, h⟩
    ·refine zF Ad W (t := 474) (f := 248) rfl (XT.ii_ne_f hc96) ?_
     refine zS Ad W 12 (st' := (265, [vR 0, none, none, vI x3, none, none, vI x6, vR 1, vL v.1, none, vL v.2.1, none, vI v.2.2.1, vI v.2.2.2.1, vI y18, vI r21, vI (y18 &&& (3:Int32)), vI e39.1, vL e39.2, none, vI ((XT.ushr y18 (2:Int32)) &&& (7:Int32)), none, none, none, none, none, none, none], [.int (1:Int32), .int ((XT.ushr y18 (5:Int32)) &&& (7:Int32))], (H0 s v.2.2.2.2))) rfl ?_
     refine zS Ad W 8 (st' := (276, [vR 0, none, none, vI x3, none, none, vI x6, vR 1, vL v.1, none, vL v.2.1, none, vI v.2.2.1, vI v.2.2.2.1, vI y18, vI r21, vI (y18 &&& (3:Int32)), vI e39.1, vL e39.2, none, vI ((XT.ushr y18 (2:Int32)) &&& (7:Int32)), vI (((XT.ushr y18 (5:Int32)) &&& (7:Int32)) + (1:Int32)), none, none, none, none, none, none], [.int (1:Int32), .int ((XT.ushr y18 (8:Int32)) &&& (1:Int32))], (H0 s v.2.2.2.2))) rfl ?_
     have K98 : ∀ z97 : Int32, z97 = (if ((XT.ushr y18 (8:Int32)) &&& (1:Int32)) = (1:Int32) then (1:Int32) else (0:Int32)) → QTri l Z n0 ad 0 (284, [vR 0, none, none, vI x3, none, none, vI x6, vR 1, vL v.1, none, vL v.2.1, none, vI v.2.2.1, vI v.2.2.2.1, none, vI r21, vI (y18 &&& (3:Int32)), vI e39.1, vL e39.2, none, vI ((XT.ushr y18 (2:Int32)) &&& (7:Int32)), vI (((XT.ushr y18 (5:Int32)) &&& (7:Int32)) + (1:Int32)), none, none, none, none, none, none], [.int z97], (H0 s v.2.2.2.2)) u τ := by
      intro z97 ez97
      subst ez97
      refine zS Ad W 2 (st' := (288, [vR 0, none, none, vI x3, none, none, vI x6, vR 1, vL v.1, none, vL v.2.1, none, vI v.2.2.1, vI v.2.2.2.1, none, vI r21, vI (y18 &&& (3:Int32)), vI e39.1, vL e39.2, none, vI ((XT.ushr y18 (2:Int32)) &&& (7:Int32)), vI (((XT.ushr y18 (5:Int32)) &&& (7:Int32)) + (1:Int32)), vI (if ((XT.ushr y18 (8:Int32)) &&& (1:Int32)) = (1:Int32) then (1:Int32) else (0:Int32)), none, none, none, none, none], [.int (if ((XT.ushr y18 (8:Int32)) &&& (1:Int32)) = (1:Int32) then (1:Int32) else (0:Int32))], (H0 s v.2.2.2.2))) rfl ?_
      have K101 : ∀ z100 : Int32, z100 = (if (if ((XT.ushr y18 (8:Int32)) &&& (1:Int32)) = (1:Int32) then (1:Int32) else (0:Int32)) = (0:Int32) then (17:Int32) else (6:Int32)) → QTri l Z n0 ad 0 (298, [vR 0, none, none, vI x3, none, none, vI x6, vR 1, vL v.1, none, vL v.2.1, none, vI v.2.2.1, vI v.2.2.2.1, none, vI r21, vI (y18 &&& (3:Int32)), vI e39.1, vL e39.2, none, vI ((XT.ushr y18 (2:Int32)) &&& (7:Int32)), vI (((XT.ushr y18 (5:Int32)) &&& (7:Int32)) + (1:Int32)), vI (if ((XT.ushr y18 (8:Int32)) &&& (1:Int32)) = (1:Int32) then (1:Int32) else (0:Int32)), none, none, none, none, none], [.int z100], (H0 s v.2.2.2.2)) u τ := by
       intro z100 ez100
       subst ez100
       refine zS Ad W 2 (st' := (302, [vR 0, none, none, vI x3, none, none, vI x6, vR 1, vL v.1, none, vL v.2.1, none, vI v.2.2.1, vI v.2.2.2.1, none, vI r21, vI (y18 &&& (3:Int32)), vI e39.1, vL e39.2, none, vI ((XT.ushr y18 (2:Int32)) &&& (7:Int32)), vI (((XT.ushr y18 (5:Int32)) &&& (7:Int32)) + (1:Int32)), vI (if ((XT.ushr y18 (8:Int32)) &&& (1:Int32)) = (1:Int32) then (1:Int32) else (0:Int32)), vI (if (if ((XT.ushr y18 (8:Int32)) &&& (1:Int32)) = (1:Int32) then (1:Int32) else (0:Int32)) = (0:Int32) then (17:Int32) else (6:Int32)), none, none, none, none], [.int (if ((XT.ushr y18 (8:Int32)) &&& (1:Int32)) = (1:Int32) then (1:Int32) else (0:Int32))], (H0 s v.2.2.2.2))) rfl ?_
       have K104 : ∀ z103 : Int32, z103 = (if (if ((XT.ushr y18 (8:Int32)) &&& (1:Int32)) = (1:Int32) then (1:Int32) else (0:Int32)) = (0:Int32) then (0:Int32) else (r21 &&& (15:Int32))) → QTri l Z n0 ad 0 (314, [vR 0, none, none, vI x3, none, none, vI x6, vR 1, vL v.1, none, vL v.2.1, none, vI v.2.2.1, vI v.2.2.2.1, none, none, vI (y18 &&& (3:Int32)), vI e39.1, vL e39.2, none, vI ((XT.ushr y18 (2:Int32)) &&& (7:Int32)), vI (((XT.ushr y18 (5:Int32)) &&& (7:Int32)) + (1:Int32)), none, vI (if (if ((XT.ushr y18 (8:Int32)) &&& (1:Int32)) = (1:Int32) then (1:Int32) else (0:Int32)) = (0:Int32) then (17:Int32) else (6:Int32)), none, none, none, none], [.int z103], (H0 s v.2.2.2.2)) u τ := by
        intro z103 ez103
        subst ez103
        refine zS Ad W 5 (st' := (324, [vR 0, none, none, vI x3, none, none, vI x6, vR 1, vL v.1, none, vL v.2.1, none, vI v.2.2.1, vI v.2.2.2.1, none, none, vI (y18 &&& (3:Int32)), vI e39.1, vL e39.2, none, vI ((XT.ushr y18 (2:Int32)) &&& (7:Int32)), vI (((XT.ushr y18 (5:Int32)) &&& (7:Int32)) + (1:Int32)), none, vI (if (if ((XT.ushr y18 (8:Int32)) &&& (1:Int32)) = (1:Int32) then (1:Int32) else (0:Int32)) = (0:Int32) then (17:Int32) else (6:Int32)), vI (if (if ((XT.ushr y18 (8:Int32)) &&& (1:Int32)) = (1:Int32) then (1:Int32) else (0:Int32)) = (0:Int32) then (0:Int32) else (r21 &&& (15:Int32))), none, none, none], [.int (if (if ((XT.ushr y18 (8:Int32)) &&& (1:Int32)) = (1:Int32) then (1:Int32) else (0:Int32)) = (0:Int32) then (17:Int32) else (6:Int32)), .int (((XT.ushr y18 (5:Int32)) &&& (7:Int32)) + (1:Int32)), .int ((XT.ushr y18 (2:Int32)) &&& (7:Int32)), .ref 1], (H0 s v.2.2.2.2))) rfl ?_
        obtain ⟨r106, hr106, h⟩ := bind_eq_some_iff.mp h
        refine QTri.callV W (a := 1) (as := [.int ((XT.ushr y18 (2:Int32)) &&& (7:Int32)), .int (((XT.ushr y18 (5:Int32)) &&& (7:Int32)) + (1:Int32)), .int (if (if ((XT.ushr y18 (8:Int32)) &&& (1:Int32)) = (1:Int32) then (1:Int32) else (0:Int32)) = (0:Int32) then (17:Int32) else (6:Int32))]) (rest := []) (w := (some (.int r106))) (σ₁ := (H0 s v.2.2.2.2)) rfl rfl rfl rfl rfl rfl rfl rfl (tF7 Ad W s v.2.2.2.2 ((XT.ushr y18 (2:Int32)) &&& (7:Int32)) (((XT.ushr y18 (5:Int32)) &&& (7:Int32)) + (1:Int32)) (if (if ((XT.ushr y18 (8:Int32)) &&& (1:Int32)) = (1:Int32) then (1:Int32) else (0:Int32)) = (0:Int32) then (17:Int32) else (6:Int32)) hr106) ?_
        have K108 : ∀ z107 : Int32, z107 = (if r106 < (0:Int32) then (0:Int32) else (1:Int32)) → QTri l Z n0 ad 0 (335, [vR 0, none, none, vI x3, none, none, vI x6, vR 1, vL v.1, none, vL v.2.1, none, vI v.2.2.1, vI v.2.2.2.1, none, none, vI (y18 &&& (3:Int32)), vI e39.1, vL e39.2, none, vI ((XT.ushr y18 (2:Int32)) &&& (7:Int32)), vI (((XT.ushr y18 (5:Int32)) &&& (7:Int32)) + (1:Int32)), none, vI (if (if ((XT.ushr y18 (8:Int32)) &&& (1:Int32)) = (1:Int32) then (1:Int32) else (0:Int32)) = (0:Int32) then (17:Int32) else (6:Int32)), vI (if (if ((XT.ushr y18 (8:Int32)) &&& (1:Int32)) = (1:Int32) then (1:Int32) else (0:Int32)) = (0:Int32) then (0:Int32) else (r21 &&& (15:Int32))), none, none, none], [.int z107], (H0 s v.2.2.2.2)) u τ := by
         intro z107 ez107
         subst ez107
         refine zS Ad W 6 (st' := (347, [vR 0, none, none, vI x3, none, none, vI x6, vR 1, vL v.1, none, vL v.2.1, none, vI v.2.2.1, vI v.2.2.2.1, none, none, vI (y18 &&& (3:Int32)), vI e39.1, vL e39.2, none, vI ((XT.ushr y18 (2:Int32)) &&& (7:Int32)), vI (((XT.ushr y18 (5:Int32)) &&& (7:Int32)) + (1:Int32)), none, vI (if (if ((XT.ushr y18 (8:Int32)) &&& (1:Int32)) = (1:Int32) then (1:Int32) else (0:Int32)) = (0:Int32) then (17:Int32) else (6:Int32)), vI (if (if ((XT.ushr y18 (8:Int32)) &&& (1:Int32)) = (1:Int32) then (1:Int32) else (0:Int32)) = (0:Int32) then (0:Int32) else (r21 &&& (15:Int32))), vI (if r106 < (0:Int32) then (0:Int32) else (1:Int32)), none, none], [.int (if (if ((XT.ushr y18 (8:Int32)) &&& (1:Int32)) = (1:Int32) then (1:Int32) else (0:Int32)) = (0:Int32) then (0:Int32) else (r21 &&& (15:Int32))), .int (if (if ((XT.ushr y18 (8:Int32)) &&& (1:Int32)) = (1:Int32) then (1:Int32) else (0:Int32)) = (0:Int32) then (17:Int32) else (6:Int32)), .int (((XT.ushr y18 (5:Int32)) &&& (7:Int32)) + (1:Int32)), .int ((XT.ushr y18 (2:Int32)) &&& (7:Int32)), .ref 1], (H0 s v.2.2.2.2))) rfl ?_
         obtain ⟨r223, hr223, h⟩ := bind_eq_some_iff.mp h
         refine QTri.callV W (a := 1) (as := [.int ((XT.ushr y18 (2:Int32)) &&& (7:Int32)), .int (((XT.ushr y18 (5:Int32)) &&& (7:Int32)) + (1:Int32)), .int (if (if ((XT.ushr y18 (8:Int32)) &&& (1:Int32)) = (1:Int32) then (1:Int32) else (0:Int32)) = (0:Int32) then (17:Int32) else (6:Int32)), .int (if (if ((XT.ushr y18 (8:Int32)) &&& (1:Int32)) = (1:Int32) then (1:Int32) else (0:Int32)) = (0:Int32) then (0:Int32) else (r21 &&& (15:Int32)))]) (rest := []) (w := (some (.int r223.1))) (σ₁ := (H0 s r223.2)) rfl rfl rfl rfl rfl rfl rfl rfl (tF9 Ad W s v.2.2.2.2 ((XT.ushr y18 (2:Int32)) &&& (7:Int32)) (((XT.ushr y18 (5:Int32)) &&& (7:Int32)) + (1:Int32)) (if (if ((XT.ushr y18 (8:Int32)) &&& (1:Int32)) = (1:Int32) then (1:Int32) else (0:Int32)) = (0:Int32) then (17:Int32) else (6:Int32)) (if (if ((XT.ushr y18 (8:Int32)) &&& (1:Int32)) = (1:Int32) then (1:Int32) else (0:Int32)) = (0:Int32) then (0:Int32) else (r21 &&& (15:Int32))) hr223) ?_
         refine zS Ad W 2 (st' := (354, [vR 0, none, none, vI x3, none, none, vI x6, vR 1, vL v.1, none, vL v.2.1, none, vI v.2.2.1, vI v.2.2.2.1, none, none, vI (y18 &&& (3:Int32)), vI e39.1, vL e39.2, none, vI ((XT.ushr y18 (2:Int32)) &&& (7:Int32)), vI (((XT.ushr y18 (5:Int32)) &&& (7:Int32)) + (1:Int32)), none, vI (if (if ((XT.ushr y18 (8:Int32)) &&& (1:Int32)) = (1:Int32) then (1:Int32) else (0:Int32)) = (0:Int32) then (17:Int32) else (6:Int32)), vI (if (if ((XT.ushr y18 (8:Int32)) &&& (1:Int32)) = (1:Int32) then (1:Int32) else (0:Int32)) = (0:Int32) then (0:Int32) else (r21 &&& (15:Int32))), vI (if r106 < (0:Int32) then (0:Int32) else (1:Int32)), vI r223.1, none], [.int (if r106 < (0:Int32) then (0:Int32) else (1:Int32))], (H0 s r223.2))) rfl ?_
         rcases qite h with ⟨hc224, h⟩ | ⟨hc224, h⟩
         ·refine zF Ad W (t := 438) (f := 357) rfl (XT.i0_ne_f hc224) ?_
          refine zS Ad W 2 (st' := (360, [vR 0, none, none, vI x3, none, none, vI x6, vR 1, vL v.1, none, vL v.2.1, none, vI v.2.2.1, vI v.2.2.2.1, none, none, vI (y18 &&& (3:Int32)), vI e39.1, vL e39.2, none, vI ((XT.ushr y18 (2:Int32)) &&& (7:Int32)), vI (((XT.ushr y18 (5:Int32)) &&& (7:Int32)) + (1:Int32)), none, vI (if (if ((XT.ushr y18 (8:Int32)) &&& (1:Int32)) = (1:Int32) then (1:Int32) else (0:Int32)) = (0:Int32) then (17:Int32) else (6:Int32)), vI (if (if ((XT.ushr y18 (8:Int32)) &&& (1:Int32)) = (1:Int32) then (1:Int32) else (0:Int32)) = (0:Int32) then (0:Int32) else (r21 &&& (15:Int32))), vI (if r106 < (0:Int32) then (0:Int32) else (1:Int32)), vI r223.1, none], [.int (1:Int32), .int r223.1], (H0 s r223.2))) rfl ?_
          rcases qite h with ⟨hc225, h⟩ | ⟨hc225, h⟩
          ·refine zT Ad W (t := 375) (f := 363) rfl (XT.ii_eq_t hc225) ?_
           exact zM [tt,ff,ff,tt,ff,ff,tt,tt,tt,ff,tt,ff,tt,tt,ff,ff,tt,tt,tt,ff,tt,tt,ff,ff,ff,ff,tt,ff] (tJ0_375 Ad W s r223.2 x3 x6 v.1 v.2.1 v.2.2.1 v.2.2.2.1 (y18 &&& (3:Int32)) e39.1 e39.2 ((XT.ushr y18 (2:Int32)) &&& (7:Int32)) (((XT.ushr y18 (5:Int32)) &&& (7:Int32)) + (1:Int32)) r223.1 h hx0 hc)
          ·refine zF Ad W (t := 375) (f := 363) rfl (XT.ii_eq_f hc225) ?_
           refine zS Ad W 2 (st' := (366, [vR 0, none, none, vI x3, none, none, vI x6, vR 1, vL v.1, none, vL v.2.1, none, vI v.2.2.1, vI v.2.2.2.1, none, none, vI (y18 &&& (3:Int32)), vI e39.1, vL e39.2, none, vI ((XT.ushr y18 (2:Int32)) &&& (7:Int32)), vI (((XT.ushr y18 (5:Int32)) &&& (7:Int32)) + (1:Int32)), none, vI (if (if ((XT.ushr y18 (8:Int32)) &&& (1:Int32)) = (1:Int32) then (1:Int32) else (0:Int32)) = (0:Int32) then (17:Int32) else (6:Int32)), vI (if (if ((XT.ushr y18 (8:Int32)) &&& (1:Int32)) = (1:Int32) then (1:Int32) else (0:Int32)) = (0:Int32) then (0:Int32) else (r21 &&& (15:Int32))), vI (if r106 < (0:Int32) then (0:Int32) else (1:Int32)), vI r223.1, none], [.int (3:Int32), .int r223.1], (H0 s r223.2))) rfl ?_
           rcases qite h with ⟨hc244, h⟩ | ⟨hc244, h⟩
           ·refine zT Ad W (t := 375) (f := 369) rfl (XT.ii_eq_t hc244) ?_
            exact zM [tt,ff,ff,tt,ff,ff,tt,tt,tt,ff,tt,ff,tt,tt,ff,ff,tt,tt,tt,ff,tt,tt,ff,ff,ff,ff,tt,ff] (tJ0_375 Ad W s r223.2 x3 x6 v.1 v.2.1 v.2.2.1 v.2.2.2.1 (y18 &&& (3:Int32)) e39.1 e39.2 ((XT.ushr y18 (2:Int32)) &&& (7:Int32)) (((XT.ushr y18 (5:Int32)) &&& (7:Int32)) + (1:Int32)) r223.1 h hx0 hc)
           ·refine zF Ad W (t := 375) (f := 369) rfl (XT.ii_eq_f hc244) ?_
            refine zS Ad W 2 (st' := (372, [vR 0, none, none, vI x3, none, none, vI x6, vR 1, vL v.1, none, vL v.2.1, none, vI v.2.2.1, vI v.2.2.2.1, none, none, vI (y18 &&& (3:Int32)), vI e39.1, vL e39.2, none, vI ((XT.ushr y18 (2:Int32)) &&& (7:Int32)), vI (((XT.ushr y18 (5:Int32)) &&& (7:Int32)) + (1:Int32)), none, vI (if (if ((XT.ushr y18 (8:Int32)) &&& (1:Int32)) = (1:Int32) then (1:Int32) else (0:Int32)) = (0:Int32) then (17:Int32) else (6:Int32)), vI (if (if ((XT.ushr y18 (8:Int32)) &&& (1:Int32)) = (1:Int32) then (1:Int32) else (0:Int32)) = (0:Int32) then (0:Int32) else (r21 &&& (15:Int32))), vI (if r106 < (0:Int32) then (0:Int32) else (1:Int32)), vI r223.1, none], [.int (4:Int32), .int r223.1], (H0 s r223.2))) rfl ?_
            rcases qite h with ⟨hc245, h⟩ | ⟨hc245, h⟩
            ·refine zF Ad W (t := 438) (f := 375) rfl (XT.ii_ne_f hc245) ?_
             exact zM [tt,ff,ff,tt,ff,ff,tt,tt,tt,ff,tt,ff,tt,tt,ff,ff,tt,tt,tt,ff,tt,tt,ff,ff,ff,ff,tt,ff] (tJ0_375 Ad W s r223.2 x3 x6 v.1 v.2.1 v.2.2.1 v.2.2.2.1 (y18 &&& (3:Int32)) e39.1 e39.2 ((XT.ushr y18 (2:Int32)) &&& (7:Int32)) (((XT.ushr y18 (5:Int32)) &&& (7:Int32)) + (1:Int32)) r223.1 h hx0 hc)
            ·refine zT Ad W (t := 438) (f := 375) rfl (XT.ii_ne_t hc245) ?_
             exact zM [tt,ff,ff,tt,ff,ff,tt,tt,tt,ff,tt,ff,tt,tt,ff,ff,tt,tt,tt,ff,ff,ff,ff,ff,ff,ff,tt,ff] (tJ0_438 Ad W s r223.2 x3 x6 v.1 v.2.1 v.2.2.1 v.2.2.2.1 (y18 &&& (3:Int32)) e39.1 e39.2 r223.1 h hx0 hc)
         ·refine zT Ad W (t := 438) (f := 357) rfl (XT.i0_ne_t hc224) ?_
          exact zM [tt,ff,ff,tt,ff,ff,tt,tt,tt,ff,tt,ff,tt,tt,ff,ff,tt,tt,tt,ff,ff,ff,ff,ff,ff,ff,tt,ff] (tJ0_438 Ad W s r223.2 x3 x6 v.1 v.2.1 v.2.2.1 v.2.2.2.1 (y18 &&& (3:Int32)) e39.1 e39.2 r223.1 h hx0 hc)
        rcases em (r106 < (0:Int32)) with hc109 | hc109
        ·refine zT Ad W (t := 334) (f := 330) rfl (XT.i0_lt_t hc109) ?_
         refine zS Ad W 1 (st' := (335, [vR 0, none, none, vI x3, none, none, vI x6, vR 1, vL v.1, none, vL v.2.1, none, vI v.2.2.1, vI v.2.2.2.1, none, none, vI (y18 &&& (3:Int32)), vI e39.1, vL e39.2, none, vI ((XT.ushr y18 (2:Int32)) &&& (7:Int32)), vI (((XT.ushr y18 (5:Int32)) &&& (7:Int32)) + (1:Int32)), none, vI (if (if ((XT.ushr y18 (8:Int32)) &&& (1:Int32)) = (1:Int32) then (1:Int32) else (0:Int32)) = (0:Int32) then (17:Int32) else (6:Int32)), vI (if (if ((XT.ushr y18 (8:Int32)) &&& (1:Int32)) = (1:Int32) then (1:Int32) else (0:Int32)) = (0:Int32) then (0:Int32) else (r21 &&& (15:Int32))), none, none, none], [.int (0:Int32)], (H0 s v.2.2.2.2))) rfl ?_
         exact zM [tt,ff,ff,tt,ff,ff,tt,tt,tt,ff,tt,ff,tt,tt,ff,ff,tt,tt,tt,ff,tt,tt,ff,tt,tt,ff,ff,ff] (K108 _ (if_pos hc109).symm)
        ·refine zF Ad W (t := 334) (f := 330) rfl (XT.i0_lt_f hc109) ?_
         refine zS Ad W 2 (st' := (335, [vR 0, none, none, vI x3, none, none, vI x6, vR 1, vL v.1, none, vL v.2.1, none, vI v.2.2.1, vI v.2.2.2.1, none, none, vI (y18 &&& (3:Int32)), vI e39.1, vL e39.2, none, vI ((XT.ushr y18 (2:Int32)) &&& (7:Int32)), vI (((XT.ushr y18 (5:Int32)) &&& (7:Int32)) + (1:Int32)), none, vI (if (if ((XT.ushr y18 (8:Int32)) &&& (1:Int32)) = (1:Int32) then (1:Int32) else (0:Int32)) = (0:Int32) then (17:Int32) else (6:Int32)), vI (if (if ((XT.ushr y18 (8:Int32)) &&& (1:Int32)) = (1:Int32) then (1:Int32) else (0:Int32)) = (0:Int32) then (0:Int32) else (r21 &&& (15:Int32))), none, none, none], [.int (1:Int32)], (H0 s v.2.2.2.2))) rfl ?_
         exact zM [tt,ff,ff,tt,ff,ff,tt,tt,tt,ff,tt,ff,tt,tt,ff,ff,tt,tt,tt,ff,tt,tt,ff,tt,tt,ff,ff,ff] (K108 _ (if_neg hc109).symm)
       rcases em ((if ((XT.ushr y18 (8:Int32)) &&& (1:Int32)) = (1:Int32) then (1:Int32) else (0:Int32)) = (0:Int32)) with hc105 | hc105
       ·refine zT Ad W (t := 313) (f := 305) rfl (XT.i0_eq_t hc105) ?_
        refine zS Ad W 1 (st' := (314, [vR 0, none, none, vI x3, none, none, vI x6, vR 1, vL v.1, none, vL v.2.1, none, vI v.2.2.1, vI v.2.2.2.1, none, vI r21, vI (y18 &&& (3:Int32)), vI e39.1, vL e39.2, none, vI ((XT.ushr y18 (2:Int32)) &&& (7:Int32)), vI (((XT.ushr y18 (5:Int32)) &&& (7:Int32)) + (1:Int32)), vI (if ((XT.ushr y18 (8:Int32)) &&& (1:Int32)) = (1:Int32) then (1:Int32) else (0:Int32)), vI (if (if ((XT.ushr y18 (8:Int32)) &&& (1:Int32)) = (1:Int32) then (1:Int32) else (0:Int32)) = (0:Int32) then (17:Int32) else (6:Int32)), none, none, none, none], [.int (0:Int32)], (H0 s v.2.2.2.2))) rfl ?_
        exact zM [tt,ff,ff,tt,ff,ff,tt,tt,tt,ff,tt,ff,tt,tt,ff,ff,tt,tt,tt,ff,tt,tt,ff,tt,ff,ff,ff,ff] (K104 _ (if_pos hc105).symm)
       ·refine zF Ad W (t := 313) (f := 305) rfl (XT.i0_eq_f hc105) ?_
        refine zS Ad W 4 (st' := (314, [vR 0, none, none, vI x3, none, none, vI x6, vR 1, vL v.1, none, vL v.2.1, none, vI v.2.2.1, vI v.2.2.2.1, none, vI r21, vI (y18 &&& (3:Int32)), vI e39.1, vL e39.2, none, vI ((XT.ushr y18 (2:Int32)) &&& (7:Int32)), vI (((XT.ushr y18 (5:Int32)) &&& (7:Int32)) + (1:Int32)), vI (if ((XT.ushr y18 (8:Int32)) &&& (1:Int32)) = (1:Int32) then (1:Int32) else (0:Int32)), vI (if (if ((XT.ushr y18 (8:Int32)) &&& (1:Int32)) = (1:Int32) then (1:Int32) else (0:Int32)) = (0:Int32) then (17:Int32) else (6:Int32)), none, none, none, none], [.int (r21 &&& (15:Int32))], (H0 s v.2.2.2.2))) rfl ?_
        exact zM [tt,ff,ff,tt,ff,ff,tt,tt,tt,ff,tt,ff,tt,tt,ff,ff,tt,tt,tt,ff,tt,tt,ff,tt,ff,ff,ff,ff] (K104 _ (if_neg hc105).symm)
      rcases em ((if ((XT.ushr y18 (8:Int32)) &&& (1:Int32)) = (1:Int32) then (1:Int32) else (0:Int32)) = (0:Int32)) with hc102 | hc102
      ·refine zT Ad W (t := 296) (f := 291) rfl (XT.i0_eq_t hc102) ?_
       refine zS Ad W 1 (st' := (298, [vR 0, none, none, vI x3, none, none, vI x6, vR 1, vL v.1, none, vL v.2.1, none, vI v.2.2.1, vI v.2.2.2.1, none, vI r21, vI (y18 &&& (3:Int32)), vI e39.1, vL e39.2, none, vI ((XT.ushr y18 (2:Int32)) &&& (7:Int32)), vI (((XT.ushr y18 (5:Int32)) &&& (7:Int32)) + (1:Int32)), vI (if ((XT.ushr y18 (8:Int32)) &&& (1:Int32)) = (1:Int32) then (1:Int32) else (0:Int32)), none, none, none, none, none], [.int (17:Int32)], (H0 s v.2.2.2.2))) rfl ?_
       exact zM [tt,ff,ff,tt,ff,ff,tt,tt,tt,ff,tt,ff,tt,tt,ff,tt,tt,tt,tt,ff,tt,tt,tt,ff,ff,ff,ff,ff] (K101 _ (if_pos hc102).symm)
      ·refine zF Ad W (t := 296) (f := 291) rfl (XT.i0_eq_f hc102) ?_
       refine zS Ad W 2 (st' := (298, [vR 0, none, none, vI x3, none, none, vI x6, vR 1, vL v.1, none, vL v.2.1, none, vI v.2.2.1, vI v.2.2.2.1, none, vI r21, vI (y18 &&& (3:Int32)), vI e39.1, vL e39.2, none, vI ((XT.ushr y18 (2:Int32)) &&& (7:Int32)), vI (((XT.ushr y18 (5:Int32)) &&& (7:Int32)) + (1:Int32)), vI (if ((XT.ushr y18 (8:Int32)) &&& (1:Int32)) = (1:Int32) then (1:Int32) else (0:Int32)), none, none, none, none, none], [.int (6:Int32)], (H0 s v.2.2.2.2))) rfl ?_
       exact zM [tt,ff,ff,tt,ff,ff,tt,tt,tt,ff,tt,ff,tt,tt,ff,tt,tt,tt,tt,ff,tt,tt,tt,ff,ff,ff,ff,ff] (K101 _ (if_neg hc102).symm)
     rcases em (((XT.ushr y18 (8:Int32)) &&& (1:Int32)) = (1:Int32)) with hc99 | hc99
     ·refine zF Ad W (t := 283) (f := 279) rfl (XT.ii_ne_f hc99) ?_
      refine zS Ad W 2 (st' := (284, [vR 0, none, none, vI x3, none, none, vI x6, vR 1, vL v.1, none, vL v.2.1, none, vI v.2.2.1, vI v.2.2.2.1, vI y18, vI r21, vI (y18 &&& (3:Int32)), vI e39.1, vL e39.2, none, vI ((XT.ushr y18 (2:Int32)) &&& (7:Int32)), vI (((XT.ushr y18 (5:Int32)) &&& (7:Int32)) + (1:Int32)), none, none, none, none, none, none], [.int (1:Int32)], (H0 s v.2.2.2.2))) rfl ?_
      exact zM [tt,ff,ff,tt,ff,ff,tt,tt,tt,ff,tt,ff,tt,tt,ff,tt,tt,tt,tt,ff,tt,tt,ff,ff,ff,ff,ff,ff] (K98 _ (if_pos hc99).symm)
     ·refine zT Ad W (t := 283) (f := 279) rfl (XT.ii_ne_t hc99) ?_
      refine zS Ad W 1 (st' := (284, [vR 0, none, none, vI x3, none, none, vI x6, vR 1, vL v.1, none, vL v.2.1, none, vI v.2.2.1, vI v.2.2.2.1, vI y18, vI r21, vI (y18 &&& (3:Int32)), vI e39.1, vL e39.2, none, vI ((XT.ushr y18 (2:Int32)) &&& (7:Int32)), vI (((XT.ushr y18 (5:Int32)) &&& (7:Int32)) + (1:Int32)), none, none, none, none, none, none], [.int (0:Int32)], (H0 s v.2.2.2.2))) rfl ?_
      exact zM [tt,ff,ff,tt,ff,ff,tt,tt,tt,ff,tt,ff,tt,tt,ff,tt,tt,tt,tt,ff,tt,tt,ff,ff,ff,ff,ff,ff] (K98 _ (if_neg hc99).symm)
    ·refine zT Ad W (t := 474) (f := 248) rfl (XT.ii_ne_t hc96) ?_
     refine zS Ad W 2 (st' := (477, [vR 0, none, none, vI x3, none, none, vI x6, vR 1, vL v.1, none, vL v.2.1, none, vI v.2.2.1, vI v.2.2.2.1, vI y18, vI r21, vI (y18 &&& (3:Int32)), vI e39.1, vL e39.2, none, none, none, none, none, none, none, none, none], [.int (2:Int32), .int (y18 &&& (3:Int32))], (H0 s v.2.2.2.2))) rfl ?_
     rcases qite h with ⟨hc246, h⟩ | ⟨hc246, h⟩
     ·refine zF Ad W (t := 589) (f := 480) rfl (XT.ii_ne_f hc246) ?_
      refine zS Ad W 12 (st' := (498, [vR 0, none, none, vI x3, none, none, vI x6, vR 1, vL v.1, none, vL v.2.1, none, vI v.2.2.1, vI v.2.2.2.1, vI y18, vI r21, vI (y18 &&& (3:Int32)), vI e39.1, vL e39.2, none, vI ((5000:Int32) + ((XT.ushr y18 (2:Int32)) &&& (7:Int32))), none, none, none, none, none, none, none], [.int (1:Int32), .int (XT.ushr y18 (5:Int32))], (H0 s v.2.2.2.2))) rfl ?_
      refine zS Ad W 2 (st' := (500, [vR 0, none, none, vI x3, none, none, vI x6, vR 1, vL v.1, none, vL v.2.1, none, vI v.2.2.1, vI v.2.2.2.1, vI y18, vI r21, vI (y18 &&& (3:Int32)), vI e39.1, vL e39.2, none, vI ((5000:Int32) + ((XT.ushr y18 (2:Int32)) &&& (7:Int32))), none, none, none, none, none, none, none], [.int (1:Int32), .int ((XT.ushr y18 (5:Int32)) &&& (1:Int32))], (H0 s v.2.2.2.2))) rfl ?_
      have K248 : ∀ z247 : Int32, z247 = (if ((XT.ushr y18 (5:Int32)) &&& (1:Int32)) = (1:Int32) then (1:Int32) else (0:Int32)) → QTri l Z n0 ad 0 (508, [vR 0, none, none, vI x3, none, none, vI x6, vR 1, vL v.1, none, vL v.2.1, none, vI v.2.2.1, vI v.2.2.2.1, none, vI r21, vI (y18 &&& (3:Int32)), vI e39.1, vL e39.2, none, vI ((5000:Int32) + ((XT.ushr y18 (2:Int32)) &&& (7:Int32))), none, none, none, none, none, none, none], [.int z247], (H0 s v.2.2.2.2)) u τ := by
       intro z247 ez247
       subst ez247
       refine zS Ad W 2 (st' := (512, [vR 0, none, none, vI x3, none, none, vI x6, vR 1, vL v.1, none, vL v.2.1, none, vI v.2.2.1, vI v.2.2.2.1, none, vI r21, vI (y18 &&& (3:Int32)), vI e39.1, vL e39.2, none, vI ((5000:Int32) + ((XT.ushr y18 (2:Int32)) &&& (7:Int32))), vI (if ((XT.ushr y18 (5:Int32)) &&& (1:Int32)) = (1:Int32) then (1:Int32) else (0:Int32)), none, none, none, none, none, none], [.int (if ((XT.ushr y18 (5:Int32)) &&& (1:Int32)) = (1:Int32) then (1:Int32) else (0:Int32))], (H0 s v.2.2.2.2))) rfl ?_
       have K251 : ∀ z250 : Int32, z250 = (if (if ((XT.ushr y18 (5:Int32)) &&& (1:Int32)) = (1:Int32) then (1:Int32) else (0:Int32)) = (0:Int32) then (17:Int32) else (6:Int32)) → QTri l Z n0 ad 0 (522, [vR 0, none, none, vI x3, none, none, vI x6, vR 1, vL v.1, none, vL v.2.1, none, vI v.2.2.1, vI v.2.2.2.1, none, vI r21, vI (y18 &&& (3:Int32)), vI e39.1, vL e39.2, none, vI ((5000:Int32) + ((XT.ushr y18 (2:Int32)) &&& (7:Int32))), vI (if ((XT.ushr y18 (5:Int32)) &&& (1:Int32)) = (1:Int32) then (1:Int32) else (0:Int32)), none, none, none, none, none, none], [.int z250], (H0 s v.2.2.2.2)) u τ := by
        intro z250 ez250
        subst ez250
        refine zS Ad W 2 (st' := (526, [vR 0, none, none, vI x3, none, none, vI x6, vR 1, vL v.1, none, vL v.2.1, none, vI v.2.2.1, vI v.2.2.2.1, none, vI r21, vI (y18 &&& (3:Int32)), vI e39.1, vL e39.2, none, vI ((5000:Int32) + ((XT.ushr y18 (2:Int32)) &&& (7:Int32))), vI (if ((XT.ushr y18 (5:Int32)) &&& (1:Int32)) = (1:Int32) then (1:Int32) else (0:Int32)), vI (if (if ((XT.ushr y18 (5:Int32)) &&& (1:Int32)) = (1:Int32) then (1:Int32) else (0:Int32)) = (0:Int32) then (17:Int32) else (6:Int32)), none, none, none, none, none], [.int (if ((XT.ushr y18 (5:Int32)) &&& (1:Int32)) = (1:Int32) then (1:Int32) else (0:Int32))], (H0 s v.2.2.2.2))) rfl ?_
        have K254 : ∀ z253 : Int32, z253 = (if (if ((XT.ushr y18 (5:Int32)) &&& (1:Int32)) = (1:Int32) then (1:Int32) else (0:Int32)) = (0:Int32) then (0:Int32) else (r21 &&& (15:Int32))) → QTri l Z n0 ad 0 (538, [vR 0, none, none, vI x3, none, none, vI x6, vR 1, vL v.1, none, vL v.2.1, none, vI v.2.2.1, vI v.2.2.2.1, none, none, vI (y18 &&& (3:Int32)), vI e39.1, vL e39.2, none, vI ((5000:Int32) + ((XT.ushr y18 (2:Int32)) &&& (7:Int32))), none, vI (if (if ((XT.ushr y18 (5:Int32)) &&& (1:Int32)) = (1:Int32) then (1:Int32) else (0:Int32)) = (0:Int32) then (17:Int32) else (6:Int32)), none, none, none, none, none], [.int z253], (H0 s v.2.2.2.2)) u τ := by
         intro z253 ez253
         subst ez253
         refine zS Ad W 5 (st' := (548, [vR 0, none, none, vI x3, none, none, vI x6, vR 1, vL v.1, none, vL v.2.1, none, vI v.2.2.1, vI v.2.2.2.1, none, none, vI (y18 &&& (3:Int32)), vI e39.1, vL e39.2, none, vI ((5000:Int32) + ((XT.ushr y18 (2:Int32)) &&& (7:Int32))), none, vI (if (if ((XT.ushr y18 (5:Int32)) &&& (1:Int32)) = (1:Int32) then (1:Int32) else (0:Int32)) = (0:Int32) then (17:Int32) else (6:Int32)), vI (if (if ((XT.ushr y18 (5:Int32)) &&& (1:Int32)) = (1:Int32) then (1:Int32) else (0:Int32)) = (0:Int32) then (0:Int32) else (r21 &&& (15:Int32))), none, none, none, none], [.int (if (if ((XT.ushr y18 (5:Int32)) &&& (1:Int32)) = (1:Int32) then (1:Int32) else (0:Int32)) = (0:Int32) then (0:Int32) else (r21 &&& (15:Int32))), .int (if (if ((XT.ushr y18 (5:Int32)) &&& (1:Int32)) = (1:Int32) then (1:Int32) else (0:Int32)) = (0:Int32) then (17:Int32) else (6:Int32)), .int ((5000:Int32) + ((XT.ushr y18 (2:Int32)) &&& (7:Int32))), .ref 1], (H0 s v.2.2.2.2))) rfl ?_
         obtain ⟨r268, hr268, h⟩ := bind_eq_some_iff.mp h
         refine QTri.callV W (a := 1) (as := [.int ((5000:Int32) + ((XT.ushr y18 (2:Int32)) &&& (7:Int32))), .int (if (if ((XT.ushr y18 (5:Int32)) &&& (1:Int32)) = (1:Int32) then (1:Int32) else (0:Int32)) = (0:Int32) then (17:Int32) else (6:Int32)), .int (if (if ((XT.ushr y18 (5:Int32)) &&& (1:Int32)) = (1:Int32) then (1:Int32) else (0:Int32)) = (0:Int32) then (0:Int32) else (r21 &&& (15:Int32)))]) (rest := []) (w := (some (.int r268.1))) (σ₁ := (H0 s r268.2)) rfl rfl rfl rfl rfl rfl rfl rfl (tF13 Ad W s v.2.2.2.2 ((5000:Int32) + ((XT.ushr y18 (2:Int32)) &&& (7:Int32))) (if (if ((XT.ushr y18 (5:Int32)) &&& (1:Int32)) = (1:Int32) then (1:Int32) else (0:Int32)) = (0:Int32) then (17:Int32) else (6:Int32)) (if (if ((XT.ushr y18 (5:Int32)) &&& (1:Int32)) = (1:Int32) then (1:Int32) else (0:Int32)) = (0:Int32) then (0:Int32) else (r21 &&& (15:Int32))) hr268) ?_
         refine zS Ad W 3 (st' := (556, [vR 0, none, none, vI x3, none, none, vI x6, vR 1, vL v.1, none, vL v.2.1, none, vI v.2.2.1, vI v.2.2.2.1, none, none, vI (y18 &&& (3:Int32)), vI e39.1, vL e39.2, none, vI ((5000:Int32) + ((XT.ushr y18 (2:Int32)) &&& (7:Int32))), none, vI (if (if ((XT.ushr y18 (5:Int32)) &&& (1:Int32)) = (1:Int32) then (1:Int32) else (0:Int32)) = (0:Int32) then (17:Int32) else (6:Int32)), vI (if (if ((XT.ushr y18 (5:Int32)) &&& (1:Int32)) = (1:Int32) then (1:Int32) else (0:Int32)) = (0:Int32) then (0:Int32) else (r21 &&& (15:Int32))), vI r268.1, none, none, none], [.int (2:Int32), .int r268.1], (H0 s r268.2))) rfl ?_
         rcases qite h with ⟨hc269, h⟩ | ⟨hc269, h⟩
         ·refine zF Ad W (t := 586) (f := 559) rfl (XT.ii_ne_f hc269) ?_
          refine zS Ad W 6 (st' := (570, [vR 0, none, none, vI x3, none, none, vI x6, vR 1, vL v.1, none, vL v.2.1, none, vI v.2.2.1, vI v.2.2.2.1, none, none, vI (y18 &&& (3:Int32)), vI e39.1, vL e39.2, none, vI ((5000:Int32) + ((XT.ushr y18 (2:Int32)) &&& (7:Int32))), none, vI (if (if ((XT.ushr y18 (5:Int32)) &&& (1:Int32)) = (1:Int32) then (1:Int32) else (0:Int32)) = (0:Int32) then (17:Int32) else (6:Int32)), vI (if (if ((XT.ushr y18 (5:Int32)) &&& (1:Int32)) = (1:Int32) then (1:Int32) else (0:Int32)) = (0:Int32) then (0:Int32) else (r21 &&& (15:Int32))), vI r268.1, none, none, none], [.ref 1, .int x3, .int (((5000:Int32) + ((XT.ushr y18 (2:Int32)) &&& (7:Int32))) - (5000:Int32)), .long v.1], (H0 s r268.2))) rfl ?_
          obtain ⟨r270, hr270, h⟩ := bind_eq_some_iff.mp h
          refine QTri.callV W (a := 1) (as := []) (rest := [.int x3, .int (((5000:Int32) + ((XT.ushr y18 (2:Int32)) &&& (7:Int32))) - (5000:Int32)), .long v.1]) (w := (some (.int r270))) (σ₁ := (H0 s r268.2)) rfl rfl rfl rfl rfl rfl rfl rfl (tF31 Ad W s r268.2 hr270) ?_
          refine zS Ad W 1 (st' := (575, [vR 0, none, none, vI x3, none, none, vI x6, vR 1, vL v.1, none, vL v.2.1, none, vI v.2.2.1, vI v.2.2.2.1, none, none, vI (y18 &&& (3:Int32)), vI e39.1, vL e39.2, none, vI ((5000:Int32) + ((XT.ushr y18 (2:Int32)) &&& (7:Int32))), none, vI (if (if ((XT.ushr y18 (5:Int32)) &&& (1:Int32)) = (1:Int32) then (1:Int32) else (0:Int32)) = (0:Int32) then (17:Int32) else (6:Int32)), vI (if (if ((XT.ushr y18 (5:Int32)) &&& (1:Int32)) = (1:Int32) then (1:Int32) else (0:Int32)) = (0:Int32) then (0:Int32) else (r21 &&& (15:Int32))), vI r268.1, none, none, none], [.ref 1, .int r270, .int x3, .int (((5000:Int32) + ((XT.ushr y18 (2:Int32)) &&& (7:Int32))) - (5000:Int32)), .long v.1], (H0 s r268.2))) rfl ?_
          obtain ⟨r271, hr271, h⟩ := bind_eq_some_iff.mp h
          refine QTri.callV W (a := 1) (as := []) (rest := [.int r270, .int x3, .int (((5000:Int32) + ((XT.ushr y18 (2:Int32)) &&& (7:Int32))) - (5000:Int32)), .long v.1]) (w := (some (.int r271))) (σ₁ := (H0 s r268.2)) rfl rfl rfl rfl rfl rfl rfl rfl (tF32 Ad W s r268.2 hr271) ?_
          obtain ⟨r272, hr272, h⟩ := bind_eq_some_iff.mp h
          refine QTri.callS W (as := [.long v.1, .int (((5000:Int32) + ((XT.ushr y18 (2:Int32)) &&& (7:Int32))) - (5000:Int32)), .int x3, .int r270, .int r271]) (rest := []) (w := (some (.int r272))) (σ₁ := (H0 s r268.2)) rfl rfl rfl rfl rfl rfl rfl (tF33 Ad W v.1 (((5000:Int32) + ((XT.ushr y18 (2:Int32)) &&& (7:Int32))) - (5000:Int32)) x3 r270 r271 hr272) ?_
          rcases qite h with ⟨hc273, h⟩ | ⟨hc273, h⟩
          ·refine zF Ad W (t := 586) (f := 584) rfl (XT.i0_ne_f hc273) ?_
           refine zS Ad W 1 (st' := (585, [vR 0, none, none, vI x3, none, none, vI x6, vR 1, vL v.1, none, vL v.2.1, none, vI v.2.2.1, vI v.2.2.2.1, none, none, vI (y18 &&& (3:Int32)), vI e39.1, vL e39.2, none, vI ((5000:Int32) + ((XT.ushr y18 (2:Int32)) &&& (7:Int32))), none, vI (if (if ((XT.ushr y18 (5:Int32)) &&& (1:Int32)) = (1:Int32) then (1:Int32) else (0:Int32)) = (0:Int32) then (17:Int32) else (6:Int32)), vI (if (if ((XT.ushr y18 (5:Int32)) &&& (1:Int32)) = (1:Int32) then (1:Int32) else (0:Int32)) = (0:Int32) then (0:Int32) else (r21 &&& (15:Int32))), vI r268.1, none, none, none], [.int (0:Int32)], (H0 s r268.2))) rfl ?_
           obtain rfl := Option.some.inj h
           obtain ⟨rfl, rfl⟩ := hx0 ((0:Int32), (H0 s r268.2)) rfl
           exact QTri.retZ rfl rfl
          ·refine zT Ad W (t := 586) (f := 584) rfl (XT.i0_ne_t hc273) ?_
           exact zM [tt,ff,ff,tt,ff,ff,tt,tt,tt,ff,tt,ff,tt,tt,ff,ff,tt,tt,tt,ff,ff,ff,ff,ff,ff,ff,ff,ff] (tJ0_586 Ad W s r268.2 x3 x6 v.1 v.2.1 v.2.2.1 v.2.2.2.1 (y18 &&& (3:Int32)) e39.1 e39.2 h hx0 hc)
         ·refine zT Ad W (t := 586) (f := 559) rfl (XT.ii_ne_t hc269) ?_
          exact zM [tt,ff,ff,tt,ff,ff,tt,tt,tt,ff,tt,ff,tt,tt,ff,ff,tt,tt,tt,ff,ff,ff,ff,ff,ff,ff,ff,ff] (tJ0_586 Ad W s r268.2 x3 x6 v.1 v.2.1 v.2.2.1 v.2.2.2.1 (y18 &&& (3:Int32)) e39.1 e39.2 h hx0 hc)
        rcases em ((if ((XT.ushr y18 (5:Int32)) &&& (1:Int32)) = (1:Int32) then (1:Int32) else (0:Int32)) = (0:Int32)) with hc255 | hc255
        ·refine zT Ad W (t := 537) (f := 529) rfl (XT.i0_eq_t hc255) ?_
         refine zS Ad W 1 (st' := (538, [vR 0, none, none, vI x3, none, none, vI x6, vR 1, vL v.1, none, vL v.2.1, none, vI v.2.2.1, vI v.2.2.2.1, none, vI r21, vI (y18 &&& (3:Int32)), vI e39.1, vL e39.2, none, vI ((5000:Int32) + ((XT.ushr y18 (2:Int32)) &&& (7:Int32))), vI (if ((XT.ushr y18 (5:Int32)) &&& (1:Int32)) = (1:Int32) then (1:Int32) else (0:Int32)), vI (if (if ((XT.ushr y18 (5:Int32)) &&& (1:Int32)) = (1:Int32) then (1:Int32) else (0:Int32)) = (0:Int32) then (17:Int32) else (6:Int32)), none, none, none, none, none], [.int (0:Int32)], (H0 s v.2.2.2.2))) rfl ?_
         exact zM [tt,ff,ff,tt,ff,ff,tt,tt,tt,ff,tt,ff,tt,tt,ff,ff,tt,tt,tt,ff,tt,ff,tt,ff,ff,ff,ff,ff] (K254 _ (if_pos hc255).symm)
        ·refine zF Ad W (t := 537) (f := 529) rfl (XT.i0_eq_f hc255) ?_
         refine zS Ad W 4 (st' := (538, [vR 0, none, none, vI x3, none, none, vI x6, vR 1, vL v.1, none, vL v.2.1, none, vI v.2.2.1, vI v.2.2.2.1, none, vI r21, vI (y18 &&& (3:Int32)), vI e39.1, vL e39.2, none, vI ((5000:Int32) + ((XT.ushr y18 (2:Int32)) &&& (7:Int32))), vI (if ((XT.ushr y18 (5:Int32)) &&& (1:Int32)) = (1:Int32) then (1:Int32) else (0:Int32)), vI (if (if ((XT.ushr y18 (5:Int32)) &&& (1:Int32)) = (1:Int32) then (1:Int32) else (0:Int32)) = (0:Int32) then (17:Int32) else (6:Int32)), none, none, none, none, none], [.int (r21 &&& (15:Int32))], (H0 s v.2.2.2.2))) rfl ?_
         exact zM [tt,ff,ff,tt,ff,ff,tt,tt,tt,ff,tt,ff,tt,tt,ff,ff,tt,tt,tt,ff,tt,ff,tt,ff,ff,ff,ff,ff] (K254 _ (if_neg hc255).symm)
       rcases em ((if ((XT.ushr y18 (5:Int32)) &&& (1:Int32)) = (1:Int32) then (1:Int32) else (0:Int32)) = (0:Int32)) with hc252 | hc252
       ·refine zT Ad W (t := 520) (f := 515) rfl (XT.i0_eq_t hc252) ?_
        refine zS Ad W 1 (st' := (522, [vR 0, none, none, vI x3, none, none, vI x6, vR 1, vL v.1, none, vL v.2.1, none, vI v.2.2.1, vI v.2.2.2.1, none, vI r21, vI (y18 &&& (3:Int32)), vI e39.1, vL e39.2, none, vI ((5000:Int32) + ((XT.ushr y18 (2:Int32)) &&& (7:Int32))), vI (if ((XT.ushr y18 (5:Int32)) &&& (1:Int32)) = (1:Int32) then (1:Int32) else (0:Int32)), none, none, none, none, none, none], [.int (17:Int32)], (H0 s v.2.2.2.2))) rfl ?_
        exact zM [tt,ff,ff,tt,ff,ff,tt,tt,tt,ff,tt,ff,tt,tt,ff,tt,tt,tt,tt,ff,tt,tt,ff,ff,ff,ff,ff,ff] (K251 _ (if_pos hc252).symm)
       ·refine zF Ad W (t := 520) (f := 515) rfl (XT.i0_eq_f hc252) ?_
        refine zS Ad W 2 (st' := (522, [vR 0, none, none, vI x3, none, none, vI x6, vR 1, vL v.1, none, vL v.2.1, none, vI v.2.2.1, vI v.2.2.2.1, none, vI r21, vI (y18 &&& (3:Int32)), vI e39.1, vL e39.2, none, vI ((5000:Int32) + ((XT.ushr y18 (2:Int32)) &&& (7:Int32))), vI (if ((XT.ushr y18 (5:Int32)) &&& (1:Int32)) = (1:Int32) then (1:Int32) else (0:Int32)), none, none, none, none, none, none], [.int (6:Int32)], (H0 s v.2.2.2.2))) rfl ?_
        exact zM [tt,ff,ff,tt,ff,ff,tt,tt,tt,ff,tt,ff,tt,tt,ff,tt,tt,tt,tt,ff,tt,tt,ff,ff,ff,ff,ff,ff] (K251 _ (if_neg hc252).symm)
      rcases em (((XT.ushr y18 (5:Int32)) &&& (1:Int32)) = (1:Int32)) with hc249 | hc249
      ·refine zF Ad W (t := 507) (f := 503) rfl (XT.ii_ne_f hc249) ?_
       refine zS Ad W 2 (st' := (508, [vR 0, none, none, vI x3, none, none, vI x6, vR 1, vL v.1, none, vL v.2.1, none, vI v.2.2.1, vI v.2.2.2.1, vI y18, vI r21, vI (y18 &&& (3:Int32)), vI e39.1, vL e39.2, none, vI ((5000:Int32) + ((XT.ushr y18 (2:Int32)) &&& (7:Int32))), none, none, none, none, none, none, none], [.int (1:Int32)], (H0 s v.2.2.2.2))) rfl ?_
       exact zM [tt,ff,ff,tt,ff,ff,tt,tt,tt,ff,tt,ff,tt,tt,ff,tt,tt,tt,tt,ff,tt,ff,ff,ff,ff,ff,ff,ff] (K248 _ (if_pos hc249).symm)
      ·refine zT Ad W (t := 507) (f := 503) rfl (XT.ii_ne_t hc249) ?_
       refine zS Ad W 1 (st' := (508, [vR 0, none, none, vI x3, none, none, vI x6, vR 1, vL v.1, none, vL v.2.1, none, vI v.2.2.1, vI v.2.2.2.1, vI y18, vI r21, vI (y18 &&& (3:Int32)), vI e39.1, vL e39.2, none, vI ((5000:Int32) + ((XT.ushr y18 (2:Int32)) &&& (7:Int32))), none, none, none, none, none, none, none], [.int (0:Int32)], (H0 s v.2.2.2.2))) rfl ?_
       exact zM [tt,ff,ff,tt,ff,ff,tt,tt,tt,ff,tt,ff,tt,tt,ff,tt,tt,tt,tt,ff,tt,ff,ff,ff,ff,ff,ff,ff] (K248 _ (if_neg hc249).symm)
     ·refine zT Ad W (t := 589) (f := 480) rfl (XT.ii_ne_t hc246) ?_
      refine zS Ad W 6 (st' := (598, [vR 0, none, none, vI x3, none, none, vI x6, vR 1, vL v.1, none, vL v.2.1, none, vI v.2.2.1, vI v.2.2.2.1, vI y18, vI r21, vI (y18 &&& (3:Int32)), vI e39.1, vL e39.2, none, none, none, none, none, none, none, none, none], [.int ((XT.ushr y18 (2:Int32)) &&& (15:Int32)), .ref 1], (H0 s v.2.2.2.2))) rfl ?_
      obtain ⟨r286, hr286, h⟩ := bind_eq_some_iff.mp h
      refine QTri.callV W (a := 1) (as := [.int ((XT.ushr y18 (2:Int32)) &&& (15:Int32))]) (rest := []) (w := (some (.int r286.1))) (σ₁ := (H0 s r286.2)) rfl rfl rfl rfl rfl rfl rfl rfl (tF12 Ad W s v.2.2.2.2 ((XT.ushr y18 (2:Int32)) &&& (15:Int32)) hr286) ?_
      refine zS Ad W 1 (st' := (602, [vR 0, none, none, vI x3, none, none, vI x6, vR 1, vL v.1, none, vL v.2.1, none, vI v.2.2.1, vI v.2.2.2.1, vI y18, vI r21, vI (y18 &&& (3:Int32)), vI e39.1, vL e39.2, none, none, none, none, none, none, none, none, none], [], (H0 s r286.2))) rfl ?_
      exact zM [tt,ff,ff,tt,ff,ff,tt,tt,tt,ff,tt,ff,tt,tt,ff,ff,tt,tt,tt,ff,ff,ff,ff,ff,ff,ff,ff,ff] (tJ0_602 Ad W s r286.2 x3 x6 v.1 v.2.1 v.2.2.1 v.2.2.2.1 (y18 &&& (3:Int32)) e39.1 e39.2 h hx0 hc)
  ·refine zT Ad W (t := 778) (f := 95) rfl (XT.ii_ge_t hc17) ?_
   refine zS Ad W 1 (st' := (779, [vR 0, none, none, vI x3, none, none, vI x6, vR 1, vL v.1, none, vL v.2.1, none, vI v.2.2.1, vI v.2.2.2.1, none, none, none, none, none, none, none, none, none, none, none, none, none, none], [.int (1:Int32)], (H0 s v.2.2.2.2))) rfl ?_
   obtain rfl := Option.some.inj h
   obtain ⟨rfl, rfl⟩ := hx0 ((1:Int32), (H0 s v.2.2.2.2)) rfl
   exact QTri.retZ rfl rfl
 ·refine zT Ad W (t := 778) (f := 87) rfl (XT.ii_ge_t hc16) ?_
  refine zS Ad W 1 (st' := (779, [vR 0, none, none, vI x3, none, none, vI x6, vR 1, vL v.1, none, vL v.2.1, none, vI v.2.2.1, vI v.2.2.2.1, none, none, none, none, none, none, none, none, none, none, none, none, none, none], [.int (1:Int32)], (H0 s v.2.2.2.2))) rfl ?_
  obtain rfl := Option.some.inj h
  obtain ⟨rfl, rfl⟩ := hx0 ((1:Int32), (H0 s v.2.2.2.2)) rfl
  exact QTri.retZ rfl rfl
/-- the law -/
def F0 (s : List Int32) : Option (Int32 × QHeap) :=
 (F1 s (0:Int32)).bind fun r3 => (F1 s (1:Int32)).bind fun r4 => (F2 (if (4:Int32) < ((2:Int32) + (r3 &&& (3:Int32))) then (4:Int32) else ((2:Int32) + (r3 &&& (3:Int32)))) ((1:Int32) + (r4 &&& (31:Int32))) ((1:Int32) + ((XT.ushr r4 (5:Int32)) &&& (31:Int32))) ((XT.ushr r4 (10:Int32)) &&& (31:Int32))).bind fun r15 => (loopN (B0_80 s (if (4:Int32) < ((2:Int32) + (r3 &&& (3:Int32))) then (4:Int32) else ((2:Int32) + (r3 &&& (3:Int32)))) ((XT.ushr r4 (10:Int32)) &&& (31:Int32))) qN ((0 : Int64), (0 : Int64), (0:Int32), (2:Int32), r15)).bind fun e287 => some e287
theorem tF0 (Ad : QAd n0 ad) (W : QW Z a0) (s : List Int32) {r : Int32 × QHeap} (h : F0 s = some r) : QTri l Z n0 ad 0 (0, qentry [.ref 0] (pMaxL 0), [], [.inr (.inl (.int, s))]) (some (Value.int r.1)) r.2 := by
 unfold F0 at h
 refine zS Ad W 2 (st' := (2, [vR 0, none, none, none, none, none, none, none, none, none, none, none, none, none, none, none, none, none, none, none, none, none, none, none, none, none, none, none], [.int (0:Int32), .ref 0], [.inr (.inl (.int, s))])) rfl ?_
 obtain ⟨r3, hr3, h⟩ := bind_eq_some_iff.mp h
 refine QTri.callS W (as := [.ref 0, .int (0:Int32)]) (rest := []) (w := (some (.int r3))) (σ₁ := [.inr (.inl (.int, s))]) rfl rfl rfl rfl rfl rfl rfl (tF1 Ad W s (0:Int32) hr3) ?_
 refine zS Ad W 3 (st' := (8, [vR 0, vI r3, none, none, none, none, none, none, none, none, none, none, none, none, none, none, none, none, none, none, none, none, none, none, none, none, none, none], [.int (1:Int32), .ref 0], [.inr (.inl (.int, s))])) rfl ?_
 obtain ⟨r4, hr4, h⟩ := bind_eq_some_iff.mp h
 refine QTri.callS W (as := [.ref 0, .int (1:Int32)]) (rest := []) (w := (some (.int r4))) (σ₁ := [.inr (.inl (.int, s))]) rfl rfl rfl rfl rfl rfl rfl (tF1 Ad W s (1:Int32) hr4) ?_
 refine zS Ad W 7 (st' := (18, [vR 0, vI r3, vI r4, vI ((2:Int32) + (r3 &&& (3:Int32))), none, none, none, none, none, none, none, none, none, none, none, none, none, none, none, none, none, none, none, none, none, none, none, none], [], [.inr (.inl (.int, s))])) rfl ?_
 refine zS Ad W 2 (st' := (20, [vR 0, vI r3, vI r4, vI ((2:Int32) + (r3 &&& (3:Int32))), none, none, none, none, none, none, none, none, none, none, none, none, none, none, none, none, none, none, none, none, none, none, none, none], [.int (4:Int32), .int ((2:Int32) + (r3 &&& (3:Int32)))], [.inr (.inl (.int, s))])) rfl ?_
 have K6 : ∀ z5 : Int32, z5 = (if (4:Int32) < ((2:Int32) + (r3 &&& (3:Int32))) then (4:Int32) else ((2:Int32) + (r3 &&& (3:Int32)))) → QTri l Z n0 ad 0 (25, [vR 0, none, vI r4, vI z5, none, none, none, none, none, none, none, none, none, none, none, none, none, none, none, none, none, none, none, none, none, none, none, none], [], [.inr (.inl (.int, s))]) (some (Value.int r.1)) r.2 := by
  intro z5 ez5
  subst ez5
  refine zS Ad W 12 (st' := (40, [vR 0, none, vI r4, vI (if (4:Int32) < ((2:Int32) + (r3 &&& (3:Int32))) then (4:Int32) else ((2:Int32) + (r3 &&& (3:Int32)))), vI ((1:Int32) + (r4 &&& (31:Int32))), none, none, none, none, none, none, none, none, none, none, none, none, none, none, none, none, none, none, none, none, none, none, none], [.int ((XT.ushr r4 (5:Int32)) &&& (31:Int32)), .int (1:Int32)], [.inr (.inl (.int, s))])) rfl ?_
  refine zS Ad W 8 (st' := (52, [vR 0, none, vI r4, vI (if (4:Int32) < ((2:Int32) + (r3 &&& (3:Int32))) then (4:Int32) else ((2:Int32) + (r3 &&& (3:Int32)))), vI ((1:Int32) + (r4 &&& (31:Int32))), vI ((1:Int32) + ((XT.ushr r4 (5:Int32)) &&& (31:Int32))), vI ((XT.ushr r4 (10:Int32)) &&& (31:Int32)), none, none, none, none, none, none, none, none, none, none, none, none, none, none, none, none, none, none, none, none, none], [], [.inr (.inl (.int, s))])) rfl ?_
  refine zS Ad W 1 (st' := (55, [vR 0, none, vI r4, vI (if (4:Int32) < ((2:Int32) + (r3 &&& (3:Int32))) then (4:Int32) else ((2:Int32) + (r3 &&& (3:Int32)))), vI ((1:Int32) + (r4 &&& (31:Int32))), vI ((1:Int32) + ((XT.ushr r4 (5:Int32)) &&& (31:Int32))), vI ((XT.ushr r4 (10:Int32)) &&& (31:Int32)), none, none, none, none, none, none, none, none, none, none, none, none, none, none, none, none, none, none, none, none, none], [.ref 1], [.inr (.inl (.int, s)), .inl [.null, .null, .null, .null, .null, .null, .null, .null, .null, .int (f_poolSize ob0), .int (f_udpTimeout ob0), .int (f_tcpTimeout ob0), .int (f_cooldown ob0), .int (f_clock ob0), .int (f_remAddr ob0), .int (f_remPort ob0), .int (f_regHost ob0), .int (f_regPort ob0), .int (f_regExt ob0)]])) rfl ?_
  refine zS Ad W 5 (st' := (63, [vR 0, none, vI r4, vI (if (4:Int32) < ((2:Int32) + (r3 &&& (3:Int32))) then (4:Int32) else ((2:Int32) + (r3 &&& (3:Int32)))), vI ((1:Int32) + (r4 &&& (31:Int32))), vI ((1:Int32) + ((XT.ushr r4 (5:Int32)) &&& (31:Int32))), vI ((XT.ushr r4 (10:Int32)) &&& (31:Int32)), none, none, none, none, none, none, none, none, none, none, none, none, none, none, none, none, none, none, none, none, none], [.int ((XT.ushr r4 (10:Int32)) &&& (31:Int32)), .int ((1:Int32) + ((XT.ushr r4 (5:Int32)) &&& (31:Int32))), .int ((1:Int32) + (r4 &&& (31:Int32))), .int (if (4:Int32) < ((2:Int32) + (r3 &&& (3:Int32))) then (4:Int32) else ((2:Int32) + (r3 &&& (3:Int32)))), .ref 1, .ref 1], [.inr (.inl (.int, s)), .inl [.null, .null, .null, .null, .null, .null, .null, .null, .null, .int (f_poolSize ob0), .int (f_udpTimeout ob0), .int (f_tcpTimeout ob0), .int (f_cooldown ob0), .int (f_clock ob0), .int (f_remAddr ob0), .int (f_remPort ob0), .int (f_regHost ob0), .int (f_regPort ob0), .int (f_regExt ob0)]])) rfl ?_
  obtain ⟨r15, hr15, h⟩ := bind_eq_some_iff.mp h
  refine QTri.callI W (a := 1) (as := [.int (if (4:Int32) < ((2:Int32) + (r3 &&& (3:Int32))) then (4:Int32) else ((2:Int32) + (r3 &&& (3:Int32)))), .int ((1:Int32) + (r4 &&& (31:Int32))), .int ((1:Int32) + ((XT.ushr r4 (5:Int32)) &&& (31:Int32))), .int ((XT.ushr r4 (10:Int32)) &&& (31:Int32))]) (rest := [.ref 1]) (σ₁ := (H0 s r15)) rfl rfl rfl rfl rfl rfl (tF2 Ad W s (if (4:Int32) < ((2:Int32) + (r3 &&& (3:Int32))) then (4:Int32) else ((2:Int32) + (r3 &&& (3:Int32)))) ((1:Int32) + (r4 &&& (31:Int32))) ((1:Int32) + ((XT.ushr r4 (5:Int32)) &&& (31:Int32))) ((XT.ushr r4 (10:Int32)) &&& (31:Int32)) hr15) ?_
  refine zS Ad W 3 (st' := (71, [vR 0, none, vI r4, vI (if (4:Int32) < ((2:Int32) + (r3 &&& (3:Int32))) then (4:Int32) else ((2:Int32) + (r3 &&& (3:Int32)))), vI ((1:Int32) + (r4 &&& (31:Int32))), vI ((1:Int32) + ((XT.ushr r4 (5:Int32)) &&& (31:Int32))), vI ((XT.ushr r4 (10:Int32)) &&& (31:Int32)), vR 1, vL (0 : Int64), none, none, none, none, none, none, none, none, none, none, none, none, none, none, none, none, none, none, none], [], (H0 s r15))) rfl ?_
  refine zS Ad W 4 (st' := (77, [vR 0, none, vI r4, vI (if (4:Int32) < ((2:Int32) + (r3 &&& (3:Int32))) then (4:Int32) else ((2:Int32) + (r3 &&& (3:Int32)))), vI ((1:Int32) + (r4 &&& (31:Int32))), vI ((1:Int32) + ((XT.ushr r4 (5:Int32)) &&& (31:Int32))), vI ((XT.ushr r4 (10:Int32)) &&& (31:Int32)), vR 1, vL (0 : Int64), none, vL (0 : Int64), none, vI (0:Int32), none, none, none, none, none, none, none, none, none, none, none, none, none, none, none], [], (H0 s r15))) rfl ?_
  refine zS Ad W 2 (st' := (80, [vR 0, none, vI r4, vI (if (4:Int32) < ((2:Int32) + (r3 &&& (3:Int32))) then (4:Int32) else ((2:Int32) + (r3 &&& (3:Int32)))), vI ((1:Int32) + (r4 &&& (31:Int32))), vI ((1:Int32) + ((XT.ushr r4 (5:Int32)) &&& (31:Int32))), vI ((XT.ushr r4 (10:Int32)) &&& (31:Int32)), vR 1, vL (0 : Int64), none, vL (0 : Int64), none, vI (0:Int32), vI (2:Int32), none, none, none, none, none, none, none, none, none, none, none, none, none, none], [], (H0 s r15))) rfl ?_
  obtain ⟨e287, he287, h⟩ := bind_eq_some_iff.mp h
  refine zM [tt,ff,ff,tt,ff,ff,tt,tt,tt,ff,tt,ff,tt,tt,ff,ff,ff,ff,ff,ff,ff,ff,ff,ff,ff,ff,ff,ff] (loopN_tri (B := B0_80 s (if (4:Int32) < ((2:Int32) + (r3 &&& (3:Int32))) then (4:Int32) else ((2:Int32) + (r3 &&& (3:Int32)))) ((XT.ushr r4 (10:Int32)) &&& (31:Int32))) (T := fun lv288 => QTri l Z n0 ad 0 (80, [vR 0, none, none, vI (if (4:Int32) < ((2:Int32) + (r3 &&& (3:Int32))) then (4:Int32) else ((2:Int32) + (r3 &&& (3:Int32)))), none, none, vI ((XT.ushr r4 (10:Int32)) &&& (31:Int32)), vR 1, vL lv288.1, none, vL lv288.2.1, none, vI lv288.2.2.1, vI lv288.2.2.2.1, none, none, none, none, none, none, none, none, none, none, none, none, none, none], [], (H0 s lv288.2.2.2.2)) (some (Value.int r.1)) r.2) (KE := fun e287a => (some (Value.int r.1)) = (some (Value.int e287a.1)) ∧ r.2 = e287a.2) (fun lv288 r hB hE hC => tB0_80 Ad W s (if (4:Int32) < ((2:Int32) + (r3 &&& (3:Int32))) then (4:Int32) else ((2:Int32) + (r3 &&& (3:Int32)))) ((XT.ushr r4 (10:Int32)) &&& (31:Int32)) lv288 hB (fun x q => hE _ q) (fun x q => hC x q)) qN ((0 : Int64), (0 : Int64), (0:Int32), (2:Int32), r15) e287 he287 ?_)
  obtain rfl := Option.some.inj h
  exact ⟨rfl, rfl⟩
 rcases em ((4:Int32) < ((2:Int32) + (r3 &&& (3:Int32)))) with hc7 | hc7
 ·refine zF Ad W (t := 25) (f := 23) rfl (XT.ii_le_f hc7) ?_
  refine zS Ad W 2 (st' := (25, [vR 0, vI r3, vI r4, vI (4:Int32), none, none, none, none, none, none, none, none, none, none, none, none, none, none, none, none, none, none, none, none, none, none, none, none], [], [.inr (.inl (.int, s))])) rfl ?_
  exact zM [tt,ff,tt,tt,ff,ff,ff,ff,ff,ff,ff,ff,ff,ff,ff,ff,ff,ff,ff,ff,ff,ff,ff,ff,ff,ff,ff,ff] (K6 _ (if_pos hc7).symm)
 ·refine zT Ad W (t := 25) (f := 23) rfl (XT.ii_le_t hc7) ?_
  exact zM [tt,ff,tt,tt,ff,ff,ff,ff,ff,ff,ff,ff,ff,ff,ff,ff,ff,ff,ff,ff,ff,ff,ff,ff,ff,ff,ff,ff] (K6 _ (if_neg hc7).symm)
end Walks
theorem script_ok {s : State} {w : Value} (hfit : Fit s) (h1 : (Jvm.Cond.arrayOf (Jvm.Term.arg 0) Jvm.ClassFile.FieldType.int).value #[w] s none s [] = some true) (h2 : (Jvm.Cond.le (Jvm.Term.length (Jvm.Term.arg 0)) (Jvm.Term.int 260)).value #[w] s none s [] = some true) :
    ∃ (a : Addr) (c : Cell) (xs : List Int32), w = .ref a ∧ Arr s s.heap a c .int ∧ c.slots = (xs.map Value.int).toArray ∧ xs.length ≤ 260 := by
  obtain ⟨a, ha⟩ := arr_v h1
  obtain ⟨c, A⟩ := Arr.start ha h1
  have hw : w = .ref a := by simpa [Term.eval] using ha
  subst hw
  have hel : ∀ i, i < c.slots.size → ∃ x, c.slots[i]? = some (.int x) := fun i hi => by
    have q := hfit A.1 hi
    obtain ⟨hs, k, hk, comp, hkind⟩ := A.2.1
    have e : s.slotType? c.cls c.vm i = some .int := by
      cases hq : c.vm <;> first | exact absurd hq (hs _) | simp [State.slotType?, hk, hkind]
    have q2 : fits .int c.slots[i] = true := by simpa [State.fitsSlot, e] using q
    obtain ⟨x, hx⟩ := fit_I q2 (Or.inl rfl)
    exact ⟨x, by rw [Array.getElem?_eq_getElem hi, hx]⟩
  refine ⟨a, c, c.slots.toList.map (fun v => match v with | .int x => x | _ => 0), rfl, A, ?_, ?_⟩
  · apply Array.ext'
    rw [List.map_map]
    have : c.slots.toList.map (Value.int ∘ fun v => match v with | .int x => x | _ => 0) = c.slots.toList := by
      conv => rhs; rw [← List.map_id c.slots.toList]
      refine List.map_congr_left fun v hv => ?_
      obtain ⟨i, hi⟩ := List.mem_iff_getElem?.mp hv
      rw [Array.getElem?_toList] at hi
      obtain ⟨x, hx⟩ := hel i (Array.getElem?_eq_some_iff.mp hi).1
      rw [hi] at hx
      cases hx
      rfl
    exact this.symm
  · have hl := A.fin (Vm.Alike.refl _)
    simp only [List.length_map, Array.length_toList]
    simp only [Cond.value, Term.eval] at h2
    simp [hl] at h2
    by_cases hs : c.slots.size < 2147483648
    · rw [if_pos hs] at h2
      have h3 : c.slots.size.toInt32 ≤ 260 := by simpa using h2
      rw [Int32.le_iff_toInt_le] at h3
      have h4 : (c.slots.size.toInt32).toInt = c.slots.size := Int32.toInt_ofNat_of_lt (by omega)
      rw [h4] at h3
      have h5 : (260 : Int32).toInt = 260 := rfl
      rw [h5] at h3
      omega
    · rw [if_neg hs] at h2
      simp at h2
set_option maxHeartbeats 4000000
theorem i_lt {x y : Int32} : x < y ↔ x.toInt < y.toInt := Int32.lt_iff_toInt_lt
theorem i_eq {x y : Int32} : x = y ↔ x.toInt = y.toInt := Int32.toInt_inj.symm
theorem i_lo (x : Int32) : -2147483648 ≤ x.toInt := Int32.le_toInt x
theorem i_hi (x : Int32) : x.toInt < 2147483648 := Int32.toInt_lt x
theorem i_add {x y : Int32} (h1 : -2147483648 ≤ x.toInt + y.toInt) (h2 : x.toInt + y.toInt < 2147483648) : (x + y).toInt = x.toInt + y.toInt := XT.add32 ⟨h1, by omega⟩
theorem i_sub {x y : Int32} (h1 : -2147483648 ≤ x.toInt - y.toInt) (h2 : x.toInt - y.toInt < 2147483648) : (x - y).toInt = x.toInt - y.toInt := XT.sub32 ⟨h1, by omega⟩
theorem i_mul {x y : Int32} (h1 : -2147483648 ≤ x.toInt * y.toInt) (h2 : x.toInt * y.toInt < 2147483648) : (x * y).toInt = x.toInt * y.toInt := XT.mul32 ⟨h1, by omega⟩
theorem i_nat (x : Int32) : x.toNatClampNeg = x.toInt.toNat := rfl
theorem aget_at {α : Type} {xs : List α} {j : Int32} {n : Nat} (hj : j.toInt = n) (hn : n < xs.length) : aget xs j = some xs[n] := by
 have h0 : ¬ j < 0 := by rw [i_lt]; show ¬ j.toInt < 0; omega
 unfold aget
 rw [if_neg h0, i_nat, hj]
 simp [hn]
theorem aget_rep {α : Type} {m : Nat} {a : α} {j : Int32} (h0 : 0 ≤ j.toInt) (h1 : j.toInt < m) : aget (List.replicate m a) j = some a := by
 rw [aget_at (n := j.toInt.toNat) (by omega) (by rw [List.length_replicate]; omega)]
 simp
theorem aset_at {α : Type} {xs : List α} {j : Int32} {n : Nat} {v : α} (hj : j.toInt = n) (hn : n < xs.length) : aset xs j v = some (xs.set n v) := by
 have h0 : ¬ j < 0 := by rw [i_lt]; show ¬ j.toInt < 0; omega
 unfold aset
 have e : j.toNatClampNeg = n := by rw [i_nat, hj]; simp
 rw [if_neg h0, e, if_pos hn]
theorem rep_set {α : Type} (m k : Nat) (a : α) : (List.replicate m a).set k a = List.replicate m a := by
 apply List.ext_getElem (by simp)
 intro i h1 h2
 rw [List.getElem_set]
 split <;> simp
theorem small_cases {x : Int32} (h0 : 0 ≤ x.toInt) {n : Nat} (h1 : x.toInt < n) {P : Int32 → Prop} (h : ∀ m : Nat, m < n → P (Int32.ofInt m)) : P x := by
 have e : Int32.ofInt (x.toInt.toNat : Nat) = x := by
  rw [Int.toNat_of_nonneg h0, Int32.ofInt_toInt]
 rw [← e]
 exact h _ (by omega)
theorem bit_ne {x : Int32} (h0 : 0 ≤ x.toInt) (h1 : x.toInt < 32) : ¬ (((1 : Int32) <<< (x &&& 31)) &&& ((1 : Int32) <<< (x &&& 31))) = 0 :=
 small_cases (P := fun x => ¬ (((1 : Int32) <<< (x &&& 31)) &&& ((1 : Int32) <<< (x &&& 31))) = 0) h0 (n := 32) h1 (by decide)
def okP {α : Type} (m : Option α) (P : α → Prop) : Prop := ∃ a, m = some a ∧ P a
theorem okP.some {α : Type} {a : α} {P : α → Prop} (h : P a) : okP (some a) P := ⟨a, rfl, h⟩
theorem okP.bind {α β : Type} {m : Option α} {f : α → Option β} {P : β → Prop} (h : okP m fun a => okP (f a) P) : okP (m.bind f) P := by
 obtain ⟨a, e, b, e2, h2⟩ := h
 exact ⟨b, by rw [e]; exact e2, h2⟩
theorem okP.ite {α : Type} {c : Prop} [Decidable c] {a b : Option α} {P : α → Prop} (h1 : c → okP a P) (h2 : ¬ c → okP b P) : okP (if c then a else b) P := by
 by_cases h : c
 ·rw [if_pos h]; exact h1 h
 ·rw [if_neg h]; exact h2 h
theorem okP.mono {α : Type} {m : Option α} {P Q : α → Prop} (h : okP m P) (k : ∀ a, P a → Q a) : okP m Q := by
 obtain ⟨a, e, h⟩ := h
 exact ⟨a, e, k a h⟩
theorem okP.of {α : Type} {m : Option α} {a : α} {P : α → Prop} (e : m = Option.some a) (h : P a) : okP m P := ⟨a, e, h⟩
theorem okP.aget {α : Type} {xs : List α} {j : Int32} {P : α → Prop} (h0 : 0 ≤ j.toInt) (h1 : j.toInt < xs.length) (k : ∀ v, xs[j.toInt.toNat]? = Option.some v → P v) : okP (aget xs j) P :=
 ⟨_, aget_at (n := j.toInt.toNat) (by omega) (by omega), k _ (List.getElem?_eq_getElem _)⟩
theorem okP.aset {α : Type} {xs : List α} {j : Int32} {v : α} {P : List α → Prop} (h0 : 0 ≤ j.toInt) (h1 : j.toInt < xs.length) (k : P (xs.set j.toInt.toNat v)) : okP (aset xs j v) P :=
 ⟨_, aset_at (n := j.toInt.toNat) (by omega) (by omega), k⟩
theorem okP.loop {V E : Type} {B : V → Option (E ⊕ V)} {P : E → Prop} {n : Nat} {v : V} (I : V → Prop) (μ : V → Nat) (hv : I v) (hm : μ v < n) (hB : ∀ v, I v → okP (B v) (fun r => Sum.elim P (fun v' => I v' ∧ μ v' < μ v) r)) : okP (loopN B n v) P := by
 refine loopN_inv I P μ ?_ n v hv hm
 intro v hv
 obtain ⟨r, e, h⟩ := hB v hv
 cases r with
 | inl x => exact Or.inl ⟨x, e, h⟩
 | inr x => exact Or.inr ⟨x, e, h⟩
theorem len_i {n : Nat} (h : n ≤ 1000) : (n.toInt32).toInt = n := by
 have e : n.toInt32 = Int32.ofInt n := rfl
 rw [e, Int32.toInt_ofInt_of_le (by show _ ≤ (n : Int); omega) (by show (n : Int) < _; omega)]
theorem and1 (x : Int32) : x &&& 1 = 0 ∨ x &&& 1 = 1 := by
 have e : (x &&& 1).toBitVec = x.toBitVec &&& 1#32 := rfl
 have h := BitVec.and_one_eq_setWidth_ofBool_getLsbD (x := x.toBitVec)
 cases g : x.toBitVec.getLsbD 0
 ·left; apply Int32.toBitVec_inj.1; rw [e, h, g]; rfl
 ·right; apply Int32.toBitVec_inj.1; rw [e, h, g]; rfl
theorem okP.not {α : Type} {m : Option α} {a : α} {P : α → Prop} (h : okP m P) (e : m = Option.some a) : P a := by
 obtain ⟨b, e2, h⟩ := h
 rw [e] at e2
 exact (Option.some.inj e2) ▸ h
theorem and_rng {x m : Int32} (hm : 0 ≤ m.toInt) : 0 ≤ (x &&& m).toInt ∧ (x &&& m).toInt ≤ m.toInt := by
 have e : (x &&& m).toBitVec.toNat = x.toBitVec.toNat &&& m.toBitVec.toNat := BitVec.toNat_and ..
 have l : (x &&& m).toBitVec.toNat ≤ m.toBitVec.toNat := by rw [e]; exact Nat.and_le_right
 have c1 : m.toInt = if 2 * m.toBitVec.toNat < 2 ^ 32 then (m.toBitVec.toNat : Int) else m.toBitVec.toNat - (2 ^ 32 : Nat) := BitVec.toInt_eq_toNat_cond m.toBitVec
 have c2 : (x &&& m).toInt = if 2 * (x &&& m).toBitVec.toNat < 2 ^ 32 then ((x &&& m).toBitVec.toNat : Int) else (x &&& m).toBitVec.toNat - (2 ^ 32 : Nat) := BitVec.toInt_eq_toNat_cond (x &&& m).toBitVec
 have b : m.toBitVec.toNat < 2 ^ 32 := m.toBitVec.isLt
 by_cases h : 2 * m.toBitVec.toNat < 2 ^ 32
 ·rw [if_pos h] at c1
  rw [if_pos (by omega)] at c2
  omega
 ·rw [if_neg h] at c1
  omega
theorem mod_rng {x m : Int32} (hx : 0 ≤ x.toInt) (hm : 0 < m.toInt) : 0 ≤ (x % m).toInt ∧ (x % m).toInt < m.toInt := by
 rw [Int32.toInt_mod, Int.tmod_eq_emod_of_nonneg hx]
 exact ⟨Int.emod_nonneg _ (by omega), Int.emod_lt_of_pos _ hm⟩
def sFit (s : List Int32) (τ : QHeap) : Prop := τ.length - List.length ([Sum.inr (Sum.inl (FieldType.int, s))] : QHeap) ≤ room_1.cells ∧ qhs τ - qhs [Sum.inr (Sum.inl (FieldType.int, s))] ≤ room_1.slots
theorem mskbit {w : Nat} (hw : w < 64) (i : Nat) : (BitVec.ofNat 64 (2 ^ w - 1)).getLsbD i = decide (i < w) := by
 rw [BitVec.getLsbD_ofNat, Nat.testBit_two_pow_sub_one]
 by_cases h : i < w
 ·have : i < 64 := by omega
  simp [h, this]
 ·simp [h]
theorem small_bit {V : BitVec 64} {w : Nat} (h : V.toNat < 2 ^ w) {i : Nat} (hi : w ≤ i) : V.getLsbD i = false := by
 rw [BitVec.getLsbD]
 exact Nat.testBit_lt_two_pow (Nat.lt_of_lt_of_le h (Nat.pow_le_pow_right (by decide) hi))
theorem onesbit (i : Nat) : (-1#64).getLsbD i = decide (i < 64) := by
 by_cases h : i < 64
 ·have : ∀ j : Fin 64, (-1#64).getLsbD j.1 = decide (j.1 < 64) := by decide
  exact this ⟨i, h⟩
 ·rw [BitVec.getLsbD_of_ge _ _ (by omega)]
  simp; omega
theorem putB (w : Nat) (X V : BitVec 64) (hV : V.toNat < 2 ^ w) (s t : Nat) (hw : w < 64) (hs : s + w ≤ 64) (ht : t + w ≤ 64) (d : s = t ∨ s + w ≤ t ∨ t + w ≤ s) :
  (((X &&& ((BitVec.ofNat 64 (2 ^ w - 1) <<< s) ^^^ (-1#64))) ||| (V <<< s)) >>> t) &&& BitVec.ofNat 64 (2 ^ w - 1) = if s = t then V else (X >>> t) &&& BitVec.ofNat 64 (2 ^ w - 1) := by
 have mb := mskbit hw
 apply BitVec.eq_of_getLsbD_eq
 intro i hi
 by_cases e : s = t
 ·subst e
  rw [if_pos rfl]
  simp only [BitVec.getLsbD_and, BitVec.getLsbD_or, BitVec.getLsbD_xor, BitVec.getLsbD_shiftLeft, BitVec.getLsbD_ushiftRight, mb, onesbit]
  by_cases c : i < w
  ·have a1 : s + i < 64 := by omega
   have a2 : ¬ (s + i < s) := by omega
   have a3 : s + i - s = i := by omega
   simp [a1, a2, a3, c]
  ·have := small_bit (w := w) hV (i := i) (by omega)
   simp [c, this]
 ·rw [if_neg e]
  simp only [BitVec.getLsbD_and, BitVec.getLsbD_or, BitVec.getLsbD_xor, BitVec.getLsbD_shiftLeft, BitVec.getLsbD_ushiftRight, mb, onesbit]
  by_cases c : i < w
  ·have a1 : t + i < 64 := by omega
   by_cases a2 : t + i < s
   ·simp [a1, a2, c]
   ·have a3 : ¬ (t + i - s < w) := by omega
    have := small_bit (w := w) hV (i := t + i - s) (by omega)
    simp [a1, a2, a3, c, this]
  ·simp [c]
theorem ofI {x : Int32} {n : Nat} (h : x.toInt = n) : x = Int32.ofInt n := by rw [← h, Int32.ofInt_toInt]
theorem shl64 (v : Int64) {y : Int32} {n : Nat} (h : y.toInt = n) (hn : n < 64) : (v <<< (y.toInt64 &&& 63)).toBitVec = v.toBitVec <<< n := by
 have : ∀ n : Fin 64, (((Int32.ofInt n.1).toInt64 &&& 63).toBitVec.smod 64) = BitVec.ofNat 64 n.1 := by decide
 rw [ofI h]
 show v.toBitVec <<< (((Int32.ofInt n).toInt64 &&& 63).toBitVec.smod 64) = _
 rw [this ⟨n, hn⟩, BitVec.shiftLeft_eq']
 congr 1
 simp; omega
theorem ushr64 (v : Int64) {y : Int32} {n : Nat} (h : y.toInt = n) (hn : n < 64) : (XT.ushrL v y).toBitVec = v.toBitVec >>> n := by
 have : ∀ n : Fin 64, (((Int32.ofInt n.1).toInt64.toUInt64 &&& Int64.toUInt64 63) % 64).toBitVec = BitVec.ofNat 64 n.1 := by decide
 rw [ofI h]
 show v.toBitVec >>> (((Int32.ofInt n).toInt64.toUInt64 &&& Int64.toUInt64 63) % 64).toBitVec = _
 rw [this ⟨n, hn⟩, BitVec.ushiftRight_eq']
 congr 1
 simp; omega
theorem clrB (w v : Nat) (X : BitVec 64) (s t : Nat) (hw : w < 64) (hv : v < 64) (hs : s + w ≤ 64) (ht : t + v ≤ 64) (d : (s ≤ t ∧ t + v ≤ s + w) ∨ s + w ≤ t ∨ t + v ≤ s) :
  ((X &&& ((BitVec.ofNat 64 (2 ^ w - 1) <<< s) ^^^ (-1#64))) >>> t) &&& BitVec.ofNat 64 (2 ^ v - 1) = if s ≤ t ∧ t + v ≤ s + w then 0#64 else (X >>> t) &&& BitVec.ofNat 64 (2 ^ v - 1) := by
 have mb := mskbit hw
 have mv := mskbit hv
 apply BitVec.eq_of_getLsbD_eq
 intro i hi
 by_cases e : s ≤ t ∧ t + v ≤ s + w
 ·rw [if_pos e]
  simp only [BitVec.getLsbD_and, BitVec.getLsbD_xor, BitVec.getLsbD_shiftLeft, BitVec.getLsbD_ushiftRight, mb, mv, onesbit]
  by_cases c : i < v
  ·have a1 : t + i < 64 := by omega
   have a2 : ¬ (t + i < s) := by omega
   have a3 : t + i - s < w := by omega
   simp [a1, a2, a3, c]
  ·simp [c]
 ·rw [if_neg e]
  simp only [BitVec.getLsbD_and, BitVec.getLsbD_xor, BitVec.getLsbD_shiftLeft, BitVec.getLsbD_ushiftRight, mb, mv, onesbit]
  by_cases c : i < v
  ·have a1 : t + i < 64 := by omega
   by_cases a2 : t + i < s
   ·simp [a1, a2, c]
   ·have a3 : ¬ (t + i - s < w) := by omega
    simp [a1, a2, a3, c]
  ·simp [c]
theorem shl32 (v : Int32) {y : Int32} {n : Nat} (h : y.toInt = n) (hn : n < 32) : (v <<< (y &&& 31)).toBitVec = v.toBitVec <<< n := by
 have : ∀ n : Fin 32, ((Int32.ofInt n.1 &&& 31).toBitVec.smod 32) = BitVec.ofNat 32 n.1 := by decide
 rw [ofI h]
 show v.toBitVec <<< ((Int32.ofInt n &&& 31).toBitVec.smod 32) = _
 rw [this ⟨n, hn⟩, BitVec.shiftLeft_eq']
 congr 1
 simp; omega
theorem shr32 (v : Int32) {y : Int32} {n : Nat} (h : y.toInt = n) (hn : n < 32) : (v >>> (y &&& 31)).toBitVec = v.toBitVec.sshiftRight n := by
 have : ∀ n : Fin 32, ((Int32.ofInt n.1 &&& 31).toBitVec.smod 32) = BitVec.ofNat 32 n.1 := by decide
 rw [ofI h]
 show v.toBitVec.sshiftRight' ((Int32.ofInt n &&& 31).toBitVec.smod 32) = _
 rw [this ⟨n, hn⟩, BitVec.sshiftRight_eq']
 congr 1
 simp; omega
def bt (x : Int32) (n : Nat) : Bool := x.toBitVec.getLsbD n
theorem bt_shr (x : Int32) {y : Int32} {n : Nat} (h : y.toInt = n) (hn : n < 32) : (x >>> (y &&& 31)) &&& 1 = if bt x n then 1 else 0 := by
 apply Int32.toBitVec_inj.1
 show (x >>> (y &&& 31)).toBitVec &&& 1#32 = _
 rw [shr32 x h hn, BitVec.and_one_eq_setWidth_ofBool_getLsbD]
 have e : (x.toBitVec.sshiftRight n).getLsbD 0 = bt x n := by
  rw [BitVec.getLsbD_sshiftRight]
  simp [hn, bt]
 rw [e]
 cases bt x n <;> rfl
theorem bt_or (x y : Int32) (n : Nat) : bt (x ||| y) n = (bt x n || bt y n) := by
 show (x.toBitVec ||| y.toBitVec).getLsbD n = _
 rw [BitVec.getLsbD_or]; rfl
theorem bt_andn (x y : Int32) {n : Nat} (hn : n < 32) : bt (x &&& (y ^^^ (-1))) n = (bt x n && !bt y n) := by
 show (x.toBitVec &&& (y.toBitVec ^^^ (-1#32))).getLsbD n = _
 have : ∀ i : Fin 32, (-1#32).getLsbD i.1 = true := by decide
 rw [BitVec.getLsbD_and, BitVec.getLsbD_xor, this ⟨n, hn⟩, Bool.xor_true]; rfl
theorem bt_one {y : Int32} {k : Nat} (h : y.toInt = k) (hk : k < 32) {n : Nat} (hn : n < 32) : bt ((1 : Int32) <<< (y &&& 31)) n = decide (n = k) := by
 have : ∀ k : Fin 32, ∀ n : Fin 32, bt ((1 : Int32) <<< (Int32.ofInt k.1 &&& 31)) n.1 = decide (n.1 = k.1) := by decide +kernel
 rw [ofI h]
 exact this ⟨k, hk⟩ ⟨n, hn⟩
theorem bt_0 (n : Nat) : bt 0 n = false := by
 show (0#32).getLsbD n = false
 simp
theorem mskbit32 {w : Nat} (hw : w < 32) (i : Nat) : (BitVec.ofNat 32 (2 ^ w - 1)).getLsbD i = decide (i < w) := by
 rw [BitVec.getLsbD_ofNat, Nat.testBit_two_pow_sub_one]
 by_cases h : i < w
 ·have : i < 32 := by omega
  simp [h, this]
 ·simp [h]
theorem onesbit32 (i : Nat) : (-1#32).getLsbD i = decide (i < 32) := by
 by_cases h : i < 32
 ·have : ∀ j : Fin 32, (-1#32).getLsbD j.1 = decide (j.1 < 32) := by decide
  exact this ⟨i, h⟩
 ·rw [BitVec.getLsbD_of_ge _ _ (by omega)]
  simp; omega
theorem small_bit32 {V : BitVec 32} {w : Nat} (h : V.toNat < 2 ^ w) {i : Nat} (hi : w ≤ i) : V.getLsbD i = false := by
 rw [BitVec.getLsbD]
 exact Nat.testBit_lt_two_pow (Nat.lt_of_lt_of_le h (Nat.pow_le_pow_right (by decide) hi))
theorem putB32 (w : Nat) (X V : BitVec 32) (hV : V.toNat < 2 ^ w) (s t : Nat) (hw : w < 32) (hs : s + w ≤ 32) (ht : t + w ≤ 32) (d : s = t ∨ s + w ≤ t ∨ t + w ≤ s) :
  (((X &&& ((BitVec.ofNat 32 (2 ^ w - 1) <<< s) ^^^ (-1#32))) ||| (V <<< s)).sshiftRight t) &&& BitVec.ofNat 32 (2 ^ w - 1) = if s = t then V else (X.sshiftRight t) &&& BitVec.ofNat 32 (2 ^ w - 1) := by
 have mb := mskbit32 hw
 apply BitVec.eq_of_getLsbD_eq
 intro i hi
 by_cases e : s = t
 ·subst e
  rw [if_pos rfl]
  simp only [BitVec.getLsbD_and, BitVec.getLsbD_or, BitVec.getLsbD_xor, BitVec.getLsbD_shiftLeft, BitVec.getLsbD_sshiftRight, mb, onesbit32]
  by_cases c : i < w
  ·have a1 : s + i < 32 := by omega
   have a2 : ¬ (s + i < s) := by omega
   have a3 : s + i - s = i := by omega
   have a4 : ¬ (32 ≤ i) := by omega
   simp [a1, a2, a3, a4, c]
  ·have := small_bit32 (w := w) hV (i := i) (by omega)
   simp [c, this]
 ·rw [if_neg e]
  simp only [BitVec.getLsbD_and, BitVec.getLsbD_or, BitVec.getLsbD_xor, BitVec.getLsbD_shiftLeft, BitVec.getLsbD_sshiftRight, mb, onesbit32]
  by_cases c : i < w
  ·have a1 : t + i < 32 := by omega
   have a4 : ¬ (32 ≤ i) := by omega
   by_cases a2 : t + i < s
   ·simp [a1, a2, a4, c]
   ·have a3 : ¬ (t + i - s < w) := by omega
    have := small_bit32 (w := w) hV (i := t + i - s) (by omega)
    simp [a1, a2, a3, a4, c, this]
  ·simp [c]
theorem fput (w : Nat) (M : Int64) (hM : M.toBitVec = BitVec.ofNat 64 (2 ^ w - 1)) (x V : Int64) (hV : V.toBitVec.toNat < 2 ^ w) {a b : Int32} {s t : Nat} (ha : a.toInt = s) (hb : b.toInt = t) (hw : w < 64) (hw0 : 0 < w) (hs : s + w ≤ 64) (ht : t + w ≤ 64) (d : s = t ∨ s + w ≤ t ∨ t + w ≤ s) : (XT.ushrL ((x &&& ((M <<< (a.toInt64 &&& 63)) ^^^ (-1 : Int64))) ||| (V <<< (a.toInt64 &&& 63))) b) &&& M = if s = t then V else (XT.ushrL x b) &&& M := by
 apply Int64.toBitVec_inj.1
 have e1 : ((XT.ushrL ((x &&& ((M <<< (a.toInt64 &&& 63)) ^^^ (-1 : Int64))) ||| (V <<< (a.toInt64 &&& 63))) b) &&& M).toBitVec = ((((x.toBitVec &&& ((BitVec.ofNat 64 (2 ^ w - 1) <<< s) ^^^ (-1#64))) ||| (V.toBitVec <<< s)) >>> t) &&& BitVec.ofNat 64 (2 ^ w - 1)) := by
  show (XT.ushrL ((x &&& ((M <<< (a.toInt64 &&& 63)) ^^^ (-1 : Int64))) ||| (V <<< (a.toInt64 &&& 63))) b).toBitVec &&& M.toBitVec = _
  rw [ushr64 _ hb (by omega), hM]
  show (((x.toBitVec &&& ((M <<< (a.toInt64 &&& 63)).toBitVec ^^^ (-1#64))) ||| (V <<< (a.toInt64 &&& 63)).toBitVec) >>> t) &&& _ = _
  rw [shl64 _ ha (by omega), shl64 _ ha (by omega), hM]
 rw [e1, putB w x.toBitVec V.toBitVec hV s t hw hs ht d]
 by_cases c : s = t
 ·rw [if_pos c, if_pos c]
 ·rw [if_neg c, if_neg c]
  show _ = (XT.ushrL x b).toBitVec &&& M.toBitVec
  rw [ushr64 _ hb (by omega), hM]
theorem ushr32 (v : Int32) {y : Int32} {n : Nat} (h : y.toInt = n) (hn : n < 32) : (XT.ushr v y).toBitVec = v.toBitVec >>> n := by
 have : ∀ n : Fin 32, ((Int32.ofInt n.1 &&& 31).toUInt32 % 32).toBitVec = BitVec.ofNat 32 n.1 := by decide
 rw [ofI h]
 show v.toBitVec >>> ((Int32.ofInt n &&& 31).toUInt32 % 32).toBitVec = _
 rw [this ⟨n, hn⟩, BitVec.ushiftRight_eq']
 congr 1
 simp; omega
theorem bt_ushr (x : Int32) {y : Int32} {n : Nat} (h : y.toInt = n) (hn : n < 32) : XT.ushr x y &&& 1 = if bt x n then 1 else 0 := by
 apply Int32.toBitVec_inj.1
 show (XT.ushr x y).toBitVec &&& 1#32 = _
 rw [ushr32 x h hn, BitVec.and_one_eq_setWidth_ofBool_getLsbD]
 have e : (x.toBitVec >>> n).getLsbD 0 = bt x n := by
  rw [BitVec.getLsbD_ushiftRight]; rfl
 rw [e]
 cases bt x n <;> rfl
theorem bt_ext {x y : Int32} (h : ∀ n, n < 32 → bt x n = bt y n) : x = y := by
 apply Int32.toBitVec_inj.1
 apply BitVec.eq_of_getLsbD_eq
 intro i hi
 exact h i hi
theorem bt_and (x y : Int32) (n : Nat) : bt (x &&& y) n = (bt x n && bt y n) := by
 show (x.toBitVec &&& y.toBitVec).getLsbD n = _
 rw [BitVec.getLsbD_and]; rfl
theorem bt_test (x : Int32) {y : Int32} {k : Nat} (h : y.toInt = k) (hk : k < 32) : (x &&& ((1 : Int32) <<< (y &&& 31))) = 0 ↔ bt x k = false := by
 constructor
 ·intro e
  have := congrArg (fun z => bt z k) e
  simp only [bt_and, bt_one h hk hk, bt_0, decide_true, Bool.and_true] at this
  exact this
 ·intro e
  apply bt_ext
  intro n hn
  rw [bt_and, bt_one h hk hn, bt_0]
  by_cases c : n = k
  ·rw [c, e, Bool.false_and]
  ·rw [decide_eq_false c, Bool.and_false]
theorem bt_same {x y : Int32} {k : Nat} (h : y.toInt = k) (hk : k < 32) (e : bt x k = true) : x ||| ((1 : Int32) <<< (y &&& 31)) = x := by
 apply bt_ext
 intro n hn
 rw [bt_or, bt_one h hk hn]
 by_cases c : n = k
 ·rw [c, e, Bool.true_or]
 ·rw [decide_eq_false c, Bool.or_false]

def bt6 (x : Int64) (n : Nat) : Bool := x.toBitVec.getLsbD n
theorem bt6_or (x y : Int64) (n : Nat) : bt6 (x ||| y) n = (bt6 x n || bt6 y n) := by
 show (x.toBitVec ||| y.toBitVec).getLsbD n = _
 rw [BitVec.getLsbD_or]; rfl
theorem bt6_and (x y : Int64) (n : Nat) : bt6 (x &&& y) n = (bt6 x n && bt6 y n) := by
 show (x.toBitVec &&& y.toBitVec).getLsbD n = _
 rw [BitVec.getLsbD_and]; rfl
theorem bt6_0 (n : Nat) : bt6 0 n = false := by
 show (0#64).getLsbD n = false
 simp
theorem bt6_one {y : Int32} {k : Nat} (h : y.toInt = k) (hk : k < 64) {n : Nat} (hn : n < 64) : bt6 ((1 : Int64) <<< (y.toInt64 &&& 63)) n = decide (n = k) := by
 unfold bt6
 rw [shl64 1 h hk]
 show (1#64 <<< k).getLsbD n = _
 rw [BitVec.getLsbD_shiftLeft]
 by_cases c : n < k
 ·have : ¬ n = k := by omega
  simp [c, this]
 ·by_cases e : n = k
  ·subst e; simp [hn]
  ·have : ¬ (n - k = 0) := by omega
   simp [hn, c, e, this]
theorem bt6_ext {x y : Int64} (h : ∀ n, n < 64 → bt6 x n = bt6 y n) : x = y := by
 apply Int64.toBitVec_inj.1
 apply BitVec.eq_of_getLsbD_eq
 intro i hi
 exact h i hi
theorem bt6_test (x : Int64) {y : Int32} {k : Nat} (h : y.toInt = k) (hk : k < 64) : (x &&& ((1 : Int64) <<< (y.toInt64 &&& 63))) = 0 ↔ bt6 x k = false := by
 constructor
 ·intro e
  have := congrArg (fun z => bt6 z k) e
  simp only [bt6_and, bt6_one h hk hk, bt6_0, decide_true, Bool.and_true] at this
  exact this
 ·intro e
  apply bt6_ext
  intro n hn
  rw [bt6_and, bt6_one h hk hn, bt6_0]
  by_cases c : n = k
  ·rw [c, e, Bool.false_and]
  ·rw [decide_eq_false c, Bool.and_false]

theorem inc1 {x : Int32} (h : x.toInt < 2147483647) : (x + 1).toInt = x.toInt + 1 := by
 have := i_lo x
 have e1 : (1 : Int32).toInt = 1 := rfl
 rw [i_add (by omega) (by omega), e1]
theorem g1 {α : Type} {l : List α} {x : Int32} {v : α} {n : Nat} (h0 : x.toInt = n) (h : l[n]? = some v) : aget l x = some v := by
 obtain ⟨a, b⟩ := List.getElem?_eq_some_iff.1 h
 rw [aget_at h0 a, b]
theorem set_same {α : Type} {l : List α} {n : Nat} {v : α} (h : l[n]? = some v) : l.set n v = l := by
 apply List.ext_getElem?
 intro i
 by_cases e : n = i
 ·subst e
  obtain ⟨a, b⟩ := List.getElem?_eq_some_iff.1 h
  rw [List.getElem?_set_self a, h]
 ·rw [List.getElem?_set_ne e]
abbrev Sl := Int32 × Int32 × Int32 × Int32 × Int32 × Int32 × Int32 × Int32 × (Nat → Bool)
def sLv (x : Sl) : Int32 := x.1
def sUs (x : Sl) : Int32 := x.2.1
def sFr (x : Sl) : Int32 := x.2.2.1
def sPr (x : Sl) : Int32 := x.2.2.2.1
def sHo (x : Sl) : Int32 := x.2.2.2.2.1
def sPo (x : Sl) : Int32 := x.2.2.2.2.2.1
def sSt (x : Sl) : Int32 := x.2.2.2.2.2.2.1
def sDl (x : Sl) : Int32 := x.2.2.2.2.2.2.2.1
def sPm (x : Sl) : Nat → Bool := x.2.2.2.2.2.2.2.2
abbrev Sc := Int32 × Int32 × Int32 × Int32 × Int32 × Int32 × Int32 × Int32 × Int32 × Int32
def cN' (c : Sc) : Int32 := c.1
def cU (c : Sc) : Int32 := c.2.1
def cT (c : Sc) : Int32 := c.2.2.1
def cO (c : Sc) : Int32 := c.2.2.2.1
def cC (c : Sc) : Int32 := c.2.2.2.2.1
def cA (c : Sc) : Int32 := c.2.2.2.2.2.1
def cP (c : Sc) : Int32 := c.2.2.2.2.2.2.1
def cH (c : Sc) : Int32 := c.2.2.2.2.2.2.2.1
def cR (c : Sc) : Int32 := c.2.2.2.2.2.2.2.2.1
def cX (c : Sc) : Int32 := c.2.2.2.2.2.2.2.2.2
def scal (o : Ob) : Sc := (f_poolSize o, f_udpTimeout o, f_tcpTimeout o, f_cooldown o, f_clock o, f_remAddr o, f_remPort o, f_regHost o, f_regPort o, f_regExt o)
def Pm (l : List Int64) (i : Nat) (f : Nat → Bool) : Prop := ∀ a, a < 256 → ∃ w, l[i * 4 + a / 64]? = some w ∧ bt6 w (a % 64) = f a
def Sh (c : Sc) (m : Nat → Sl) (o : Ob) : Prop := scal o = c ∧ ((f_live o).length = 16 ∧ (f_used o).length = 16 ∧ (f_freedAt o).length = 16 ∧ (f_protoOf o).length = 16 ∧ (f_hostOf o).length = 16 ∧ (f_iportOf o).length = 16 ∧ (f_stateAt o).length = 16 ∧ (f_deadlineAt o).length = 16 ∧ (f_perm o).length = 64) ∧ ∀ i, i < 16 → (f_live o)[i]? = some (sLv (m i)) ∧ (f_used o)[i]? = some (sUs (m i)) ∧ (f_freedAt o)[i]? = some (sFr (m i)) ∧ (f_protoOf o)[i]? = some (sPr (m i)) ∧ (f_hostOf o)[i]? = some (sHo (m i)) ∧ (f_iportOf o)[i]? = some (sPo (m i)) ∧ (f_stateAt o)[i]? = some (sSt (m i)) ∧ (f_deadlineAt o)[i]? = some (sDl (m i)) ∧ Pm (f_perm o) i (sPm (m i))
def upS (m : Nat → Sl) (s : Nat) (x : Sl) : Nat → Sl := fun i => if s = i then x else m i
theorem upS_self (m : Nat → Sl) (s : Nat) (x : Sl) : upS m s x s = x := if_pos rfl
theorem upS_ne {m : Nat → Sl} {s i : Nat} {x : Sl} (h : s ≠ i) : upS m s x i = m i := if_neg h
theorem upS_upS (m : Nat → Sl) (s : Nat) (x y : Sl) : upS (upS m s x) s y = upS m s y := by
 funext i
 unfold upS
 split <;> rfl
theorem Sh.sc {c : Sc} {m : Nat → Sl} {o : Ob} (h : Sh c m o) : f_poolSize o = cN' c ∧ f_udpTimeout o = cU c ∧ f_tcpTimeout o = cT c ∧ f_cooldown o = cO c ∧ f_clock o = cC c ∧ f_remAddr o = cA c ∧ f_remPort o = cP c ∧ f_regHost o = cH c ∧ f_regPort o = cR c ∧ f_regExt o = cX c := by
 obtain ⟨h, _⟩ := h
 subst h
 exact ⟨rfl, rfl, rfl, rfl, rfl, rfl, rfl, rfl, rfl, rfl⟩
theorem set_at {l : List Int32} {n i : Nat} {v w : Int32} (hl : n < l.length) (h : l[i]? = some w) : (l.set n v)[i]? = some (if n = i then v else w) := by
 by_cases e : n = i
 ·subst e; rw [List.getElem?_set_self hl, if_pos rfl]
 ·rw [List.getElem?_set_ne e, if_neg e, h]
theorem Sh.set {c c' : Sc} {m : Nat → Sl} {o p : Ob} (h : Sh c m o) {s : Nat} (hs : s < 16) {x : Sl} (hc : scal p = c') (h1 : f_live p = (f_live o).set s (sLv x)) (h2 : f_used p = (f_used o).set s (sUs x)) (h3 : f_freedAt p = (f_freedAt o).set s (sFr x)) (h4 : f_protoOf p = (f_protoOf o).set s (sPr x)) (h5 : f_hostOf p = (f_hostOf o).set s (sHo x)) (h6 : f_iportOf p = (f_iportOf o).set s (sPo x)) (h7 : f_stateAt p = (f_stateAt o).set s (sSt x)) (h8 : f_deadlineAt p = (f_deadlineAt o).set s (sDl x)) (h9 : (f_perm p).length = 64) (h10 : ∀ k, (k < s * 4 ∨ s * 4 + 4 ≤ k) → (f_perm p)[k]? = (f_perm o)[k]?) (h11 : Pm (f_perm p) s (sPm x)) : Sh c' (upS m s x) p := by
 obtain ⟨_, ⟨l1, l2, l3, l4, l5, l6, l7, l8, l9⟩, hi⟩ := h
 refine ⟨hc, ⟨by rw [h1, List.length_set]; exact l1, by rw [h2, List.length_set]; exact l2, by rw [h3, List.length_set]; exact l3, by rw [h4, List.length_set]; exact l4, by rw [h5, List.length_set]; exact l5, by rw [h6, List.length_set]; exact l6, by rw [h7, List.length_set]; exact l7, by rw [h8, List.length_set]; exact l8, h9⟩, fun i i16 => ?_⟩
 obtain ⟨a1, a2, a3, a4, a5, a6, a7, a8, a9⟩ := hi i i16
 rw [h1, h2, h3, h4, h5, h6, h7, h8, set_at (by omega) a1, set_at (by omega) a2, set_at (by omega) a3, set_at (by omega) a4, set_at (by omega) a5, set_at (by omega) a6, set_at (by omega) a7, set_at (by omega) a8]
 by_cases e : s = i
 ·subst e
  simp only [if_true, upS_self]
  exact ⟨trivial, trivial, trivial, trivial, trivial, trivial, trivial, trivial, h11⟩
 ·simp only [if_neg e, upS_ne e]
  refine ⟨trivial, trivial, trivial, trivial, trivial, trivial, trivial, trivial, fun a ha => ?_⟩
  obtain ⟨w, b1, b2⟩ := a9 a ha
  exact ⟨w, by rw [h10 _ (by omega)]; exact b1, b2⟩
theorem Sh.sca {c c' : Sc} {m : Nat → Sl} {o p : Ob} (h : Sh c m o) (hc : scal p = c') (e : (f_live p, f_used p, f_freedAt p, f_protoOf p, f_hostOf p, f_iportOf p, f_stateAt p, f_deadlineAt p, f_perm p) = (f_live o, f_used o, f_freedAt o, f_protoOf o, f_hostOf o, f_iportOf o, f_stateAt o, f_deadlineAt o, f_perm o)) : Sh c' m p := by
 simp only [Prod.mk.injEq] at e
 obtain ⟨e1, e2, e3, e4, e5, e6, e7, e8, e9⟩ := e
 unfold Sh
 rw [e1, e2, e3, e4, e5, e6, e7, e8, e9]
 exact ⟨hc, h.2⟩
theorem x4i {x : Int32} {s : Nat} (hx : x.toInt = s) (hs : s < 16) {k : Int32} {n : Nat} (hk : k.toInt = n) (hn : n < 4) : (x * 4 + k).toInt = (s * 4 + n : Nat) := by
 have z4 : (4 : Int32).toInt = 4 := rfl
 have e : (x * 4).toInt = x.toInt * 4 := i_mul (by rw [z4]; omega) (by rw [z4]; omega)
 rw [i_add (by omega) (by omega), e]; omega
theorem clr_m {o : Ob} (hl : (f_perm o).length = 64) {x : Int32} {s : Nat} (hx : x.toInt = s) (hs : s < 16) : okP (F18 o x) (fun p => ∃ W, p = s_perm o W ∧ W.length = 64 ∧ (∀ k, (k < s * 4 ∨ s * 4 + 4 ≤ k) → W[k]? = (f_perm o)[k]?) ∧ ∀ k, s * 4 ≤ k → k < s * 4 + 4 → W[k]? = some 0) := by
 have z4 : (4 : Int32).toInt = 4 := rfl
 unfold F18
 apply okP.bind
 refine okP.mono (P := fun p => ∃ W, p = s_perm o W ∧ W.length = 64 ∧ (∀ k, (k < s * 4 ∨ s * 4 + 4 ≤ k) → W[k]? = (f_perm o)[k]?) ∧ ∀ k, s * 4 ≤ k → k < s * 4 + 4 → W[k]? = some 0) ?_ (fun p hp => okP.some hp)
 refine okP.loop (fun v => ∃ n : Nat, v.1.toInt = n ∧ n ≤ 4 ∧ ∃ W, v.2 = s_perm o W ∧ W.length = 64 ∧ (∀ k, (k < s * 4 ∨ s * 4 + 4 ≤ k) → W[k]? = (f_perm o)[k]?) ∧ ∀ k, s * 4 ≤ k → k < s * 4 + n → W[k]? = some 0) (fun v => (4 - v.1.toInt).toNat) ⟨0, rfl, by omega, f_perm o, by dsimp only [f_live, f_used, f_freedAt, f_protoOf, f_hostOf, f_iportOf, f_stateAt, f_deadlineAt, f_perm, f_poolSize, f_udpTimeout, f_tcpTimeout, f_cooldown, f_clock, f_remAddr, f_remPort, f_regHost, f_regPort, f_regExt, s_live, s_used, s_freedAt, s_protoOf, s_hostOf, s_iportOf, s_stateAt, s_deadlineAt, s_perm, s_poolSize, s_udpTimeout, s_tcpTimeout, s_cooldown, s_clock, s_remAddr, s_remPort, s_regHost, s_regPort, s_regExt], hl, fun _ _ => rfl, fun k a b => absurd b (by omega)⟩ (by show (4 - (0 : Int)).toNat < 4000; decide) ?_
 rintro ⟨v, p⟩ ⟨n, hv, n4, W, hp, w1, w2, w3⟩
 simp only at hv hp
 subst hp
 unfold B18_6
 simp only
 refine okP.ite (fun cc => ?_) (fun cc => ?_)
 ·rw [i_lt, z4] at cc
  have e1 : (v + 1).toInt = v.toInt + 1 := inc1 (by omega)
  have e := x4i hx hs hv (by omega)
  have pe : f_perm (s_perm o W) = W := by dsimp only [f_live, f_used, f_freedAt, f_protoOf, f_hostOf, f_iportOf, f_stateAt, f_deadlineAt, f_perm, f_poolSize, f_udpTimeout, f_tcpTimeout, f_cooldown, f_clock, f_remAddr, f_remPort, f_regHost, f_regPort, f_regExt, s_live, s_used, s_freedAt, s_protoOf, s_hostOf, s_iportOf, s_stateAt, s_deadlineAt, s_perm, s_poolSize, s_udpTimeout, s_tcpTimeout, s_cooldown, s_clock, s_remAddr, s_remPort, s_regHost, s_regPort, s_regExt]
  rw [pe, aset_at e (by omega)]
  simp only [Option.bind_some]
  refine okP.some ⟨⟨n + 1, by simp only; omega, by omega, W.set (s * 4 + n) 0, by dsimp only [f_live, f_used, f_freedAt, f_protoOf, f_hostOf, f_iportOf, f_stateAt, f_deadlineAt, f_perm, f_poolSize, f_udpTimeout, f_tcpTimeout, f_cooldown, f_clock, f_remAddr, f_remPort, f_regHost, f_regPort, f_regExt, s_live, s_used, s_freedAt, s_protoOf, s_hostOf, s_iportOf, s_stateAt, s_deadlineAt, s_perm, s_poolSize, s_udpTimeout, s_tcpTimeout, s_cooldown, s_clock, s_remAddr, s_remPort, s_regHost, s_regPort, s_regExt], by rw [List.length_set]; exact w1, fun k hk => ?_, fun k a b => ?_⟩, by simp only; omega⟩
  ·rw [List.getElem?_set_ne (by omega)]; exact w2 k hk
  ·by_cases e : s * 4 + n = k
   ·subst e; rw [List.getElem?_set_self (by omega)]
   ·rw [List.getElem?_set_ne e]; exact w3 k a (by omega)
 ·rw [i_lt, z4] at cc
  have : n = 4 := by omega
  subst this
  exact okP.some ⟨W, rfl, w1, w2, w3⟩
theorem Pm_0 {W : List Int64} {s : Nat} (h : ∀ k, s * 4 ≤ k → k < s * 4 + 4 → W[k]? = some 0) : Pm W s (fun _ => false) :=
 fun a ha => ⟨0, h _ (by omega) (by omega), bt6_0 _⟩
def rl (x : Sl) (t : Int32) : Sl := (0, 1, t, sPr x, sHo x, sPo x, sSt x, sDl x, fun _ => false)
def opn (x : Sl) (pr ho po t : Int32) : Sl := (1, sUs x, sFr x, pr, ho, po, if pr = 17 then 0 else 1, t, fun _ => false)
def adp (x : Sl) (a : Nat) : Sl := (sLv x, sUs x, sFr x, sPr x, sHo x, sPo x, sSt x, sDl x, fun b => sPm x b || decide (b = a))
def sst (x : Sl) (st t : Int32) : Sl := (sLv x, sUs x, sFr x, sPr x, sHo x, sPo x, st, t, sPm x)
theorem rel_m {c : Sc} {m : Nat → Sl} {o : Ob} (h : Sh c m o) {x : Int32} {s : Nat} (hx : x.toInt = s) (hs : s < 16) (t : Int32) : okP (F35 o x t) (fun p => Sh c (upS m s (rl (m s) t)) p) := by
 obtain ⟨h0, ⟨l1, l2, l3, l4, l5, l6, l7, l8, l9⟩, hi⟩ := id h
 obtain ⟨a1, a2, a3, a4, a5, a6, a7, a8, a9⟩ := hi s hs
 unfold F35
 rw [aset_at hx (by omega), aset_at hx (by omega), aset_at hx (by omega)]
 simp only [Option.bind_some]
 obtain ⟨q, hq⟩ : ∃ q, q = s_freedAt (s_used (s_live o ((f_live o).set s 0)) ((f_used o).set s 1)) ((f_freedAt o).set s t) := ⟨_, rfl⟩
 rw [← hq]
 have q1 : (f_live q, f_used q, f_freedAt q) = ((f_live o).set s 0, (f_used o).set s 1, (f_freedAt o).set s t) := by rw [hq]; dsimp only [f_live, f_used, f_freedAt, f_protoOf, f_hostOf, f_iportOf, f_stateAt, f_deadlineAt, f_perm, f_poolSize, f_udpTimeout, f_tcpTimeout, f_cooldown, f_clock, f_remAddr, f_remPort, f_regHost, f_regPort, f_regExt, s_live, s_used, s_freedAt, s_protoOf, s_hostOf, s_iportOf, s_stateAt, s_deadlineAt, s_perm, s_poolSize, s_udpTimeout, s_tcpTimeout, s_cooldown, s_clock, s_remAddr, s_remPort, s_regHost, s_regPort, s_regExt]
 have q2 : (f_protoOf q, f_hostOf q, f_iportOf q, f_stateAt q, f_deadlineAt q, f_perm q) = (f_protoOf o, f_hostOf o, f_iportOf o, f_stateAt o, f_deadlineAt o, f_perm o) := by rw [hq]; dsimp only [f_live, f_used, f_freedAt, f_protoOf, f_hostOf, f_iportOf, f_stateAt, f_deadlineAt, f_perm, f_poolSize, f_udpTimeout, f_tcpTimeout, f_cooldown, f_clock, f_remAddr, f_remPort, f_regHost, f_regPort, f_regExt, s_live, s_used, s_freedAt, s_protoOf, s_hostOf, s_iportOf, s_stateAt, s_deadlineAt, s_perm, s_poolSize, s_udpTimeout, s_tcpTimeout, s_cooldown, s_clock, s_remAddr, s_remPort, s_regHost, s_regPort, s_regExt]
 have q3 : scal q = scal o := by rw [hq]; dsimp only [scal, f_live, f_used, f_freedAt, f_protoOf, f_hostOf, f_iportOf, f_stateAt, f_deadlineAt, f_perm, f_poolSize, f_udpTimeout, f_tcpTimeout, f_cooldown, f_clock, f_remAddr, f_remPort, f_regHost, f_regPort, f_regExt, s_live, s_used, s_freedAt, s_protoOf, s_hostOf, s_iportOf, s_stateAt, s_deadlineAt, s_perm, s_poolSize, s_udpTimeout, s_tcpTimeout, s_cooldown, s_clock, s_remAddr, s_remPort, s_regHost, s_regPort, s_regExt]
 clear hq
 simp only [Prod.mk.injEq] at q1 q2
 obtain ⟨b1, b2, b3⟩ := q1
 obtain ⟨b4, b5, b6, b7, b8, b9⟩ := q2
 apply okP.bind
 refine okP.mono (clr_m (by rw [b9]; exact l9) hx hs) ?_
 rintro p ⟨W, hp, w1, w2, w3⟩
 rw [b9] at w2
 have p1 : (f_live p, f_used p, f_freedAt p, f_protoOf p, f_hostOf p, f_iportOf p, f_stateAt p, f_deadlineAt p, f_perm p) = (f_live q, f_used q, f_freedAt q, f_protoOf q, f_hostOf q, f_iportOf q, f_stateAt q, f_deadlineAt q, W) := by rw [hp]; dsimp only [f_live, f_used, f_freedAt, f_protoOf, f_hostOf, f_iportOf, f_stateAt, f_deadlineAt, f_perm, f_poolSize, f_udpTimeout, f_tcpTimeout, f_cooldown, f_clock, f_remAddr, f_remPort, f_regHost, f_regPort, f_regExt, s_live, s_used, s_freedAt, s_protoOf, s_hostOf, s_iportOf, s_stateAt, s_deadlineAt, s_perm, s_poolSize, s_udpTimeout, s_tcpTimeout, s_cooldown, s_clock, s_remAddr, s_remPort, s_regHost, s_regPort, s_regExt]
 have p2 : scal p = scal q := by rw [hp]; dsimp only [scal, f_live, f_used, f_freedAt, f_protoOf, f_hostOf, f_iportOf, f_stateAt, f_deadlineAt, f_perm, f_poolSize, f_udpTimeout, f_tcpTimeout, f_cooldown, f_clock, f_remAddr, f_remPort, f_regHost, f_regPort, f_regExt, s_live, s_used, s_freedAt, s_protoOf, s_hostOf, s_iportOf, s_stateAt, s_deadlineAt, s_perm, s_poolSize, s_udpTimeout, s_tcpTimeout, s_cooldown, s_clock, s_remAddr, s_remPort, s_regHost, s_regPort, s_regExt]
 clear hp
 simp only [Prod.mk.injEq] at p1
 obtain ⟨d1, d2, d3, d4, d5, d6, d7, d8, d9⟩ := p1
 refine okP.some (h.set hs (x := rl (m s) t) (by rw [p2, q3]; exact h0) (by rw [d1, b1]; rfl) (by rw [d2, b2]; rfl) (by rw [d3, b3]; rfl) ?_ ?_ ?_ ?_ ?_ (by rw [d9]; exact w1) (by rw [d9]; exact w2) (by rw [d9]; exact Pm_0 w3))
 ·rw [d4, b4]; exact (set_same a4).symm
 ·rw [d5, b5]; exact (set_same a5).symm
 ·rw [d6, b6]; exact (set_same a6).symm
 ·rw [d7, b7]; exact (set_same a7).symm
 ·rw [d8, b8]; exact (set_same a8).symm
theorem open_m {c : Sc} {m : Nat → Sl} {o : Ob} (h : Sh c m o) {x : Int32} {s : Nat} (hx : x.toInt = s) (hs : s < 16) (pr ho po : Int32) : okP (F17 o x pr ho po) (fun p => Sh c (upS m s (opn (m s) pr ho po (cC c))) p) := by
 obtain ⟨h0, ⟨l1, l2, l3, l4, l5, l6, l7, l8, l9⟩, hi⟩ := id h
 obtain ⟨a1, a2, a3, a4, a5, a6, a7, a8, a9⟩ := hi s hs
 unfold F17
 rw [aset_at hx (by omega), aset_at hx (by omega), aset_at hx (by omega), aset_at hx (by omega), aset_at hx (by omega), aset_at hx (by omega), h.sc.2.2.2.2.1]
 simp only [Option.bind_some]
 obtain ⟨q, hq⟩ : ∃ q, q = s_deadlineAt (s_stateAt (s_iportOf (s_hostOf (s_protoOf (s_live o ((f_live o).set s 1)) ((f_protoOf o).set s pr)) ((f_hostOf o).set s ho)) ((f_iportOf o).set s po)) ((f_stateAt o).set s (if pr = 17 then 0 else 1))) ((f_deadlineAt o).set s (cC c)) := ⟨_, rfl⟩
 rw [← hq]
 have q1 : (f_live q, f_protoOf q, f_hostOf q, f_iportOf q, f_stateAt q, f_deadlineAt q) = ((f_live o).set s 1, (f_protoOf o).set s pr, (f_hostOf o).set s ho, (f_iportOf o).set s po, (f_stateAt o).set s (if pr = 17 then 0 else 1), (f_deadlineAt o).set s (cC c)) := by rw [hq]; dsimp only [f_live, f_used, f_freedAt, f_protoOf, f_hostOf, f_iportOf, f_stateAt, f_deadlineAt, f_perm, f_poolSize, f_udpTimeout, f_tcpTimeout, f_cooldown, f_clock, f_remAddr, f_remPort, f_regHost, f_regPort, f_regExt, s_live, s_used, s_freedAt, s_protoOf, s_hostOf, s_iportOf, s_stateAt, s_deadlineAt, s_perm, s_poolSize, s_udpTimeout, s_tcpTimeout, s_cooldown, s_clock, s_remAddr, s_remPort, s_regHost, s_regPort, s_regExt]
 have q2 : (f_used q, f_freedAt q, f_perm q) = (f_used o, f_freedAt o, f_perm o) := by rw [hq]; dsimp only [f_live, f_used, f_freedAt, f_protoOf, f_hostOf, f_iportOf, f_stateAt, f_deadlineAt, f_perm, f_poolSize, f_udpTimeout, f_tcpTimeout, f_cooldown, f_clock, f_remAddr, f_remPort, f_regHost, f_regPort, f_regExt, s_live, s_used, s_freedAt, s_protoOf, s_hostOf, s_iportOf, s_stateAt, s_deadlineAt, s_perm, s_poolSize, s_udpTimeout, s_tcpTimeout, s_cooldown, s_clock, s_remAddr, s_remPort, s_regHost, s_regPort, s_regExt]
 have q3 : scal q = scal o := by rw [hq]; dsimp only [scal, f_live, f_used, f_freedAt, f_protoOf, f_hostOf, f_iportOf, f_stateAt, f_deadlineAt, f_perm, f_poolSize, f_udpTimeout, f_tcpTimeout, f_cooldown, f_clock, f_remAddr, f_remPort, f_regHost, f_regPort, f_regExt, s_live, s_used, s_freedAt, s_protoOf, s_hostOf, s_iportOf, s_stateAt, s_deadlineAt, s_perm, s_poolSize, s_udpTimeout, s_tcpTimeout, s_cooldown, s_clock, s_remAddr, s_remPort, s_regHost, s_regPort, s_regExt]
 clear hq
 simp only [Prod.mk.injEq] at q1 q2
 obtain ⟨b1, b4, b5, b6, b7, b8⟩ := q1
 obtain ⟨b2, b3, b9⟩ := q2
 apply okP.bind
 refine okP.mono (clr_m (by rw [b9]; exact l9) hx hs) ?_
 rintro p ⟨W, hp, w1, w2, w3⟩
 rw [b9] at w2
 have p1 : (f_live p, f_used p, f_freedAt p, f_protoOf p, f_hostOf p, f_iportOf p, f_stateAt p, f_deadlineAt p, f_perm p) = (f_live q, f_used q, f_freedAt q, f_protoOf q, f_hostOf q, f_iportOf q, f_stateAt q, f_deadlineAt q, W) := by rw [hp]; dsimp only [f_live, f_used, f_freedAt, f_protoOf, f_hostOf, f_iportOf, f_stateAt, f_deadlineAt, f_perm, f_poolSize, f_udpTimeout, f_tcpTimeout, f_cooldown, f_clock, f_remAddr, f_remPort, f_regHost, f_regPort, f_regExt, s_live, s_used, s_freedAt, s_protoOf, s_hostOf, s_iportOf, s_stateAt, s_deadlineAt, s_perm, s_poolSize, s_udpTimeout, s_tcpTimeout, s_cooldown, s_clock, s_remAddr, s_remPort, s_regHost, s_regPort, s_regExt]
 have p2 : scal p = scal q := by rw [hp]; dsimp only [scal, f_live, f_used, f_freedAt, f_protoOf, f_hostOf, f_iportOf, f_stateAt, f_deadlineAt, f_perm, f_poolSize, f_udpTimeout, f_tcpTimeout, f_cooldown, f_clock, f_remAddr, f_remPort, f_regHost, f_regPort, f_regExt, s_live, s_used, s_freedAt, s_protoOf, s_hostOf, s_iportOf, s_stateAt, s_deadlineAt, s_perm, s_poolSize, s_udpTimeout, s_tcpTimeout, s_cooldown, s_clock, s_remAddr, s_remPort, s_regHost, s_regPort, s_regExt]
 clear hp
 simp only [Prod.mk.injEq] at p1
 obtain ⟨d1, d2, d3, d4, d5, d6, d7, d8, d9⟩ := p1
 refine okP.some (h.set hs (x := opn (m s) pr ho po (cC c)) (by rw [p2, q3]; exact h0) (by rw [d1, b1]; rfl) ?_ ?_ (by rw [d4, b4]; rfl) (by rw [d5, b5]; rfl) (by rw [d6, b6]; rfl) (by rw [d7, b7]; rfl) (by rw [d8, b8]; rfl) (by rw [d9]; exact w1) (by rw [d9]; exact w2) (by rw [d9]; exact Pm_0 w3))
 ·rw [d2, b2]; exact (set_same a2).symm
 ·rw [d3, b3]; exact (set_same a3).symm
theorem a6 {y : Int32} {a : Nat} (hy : y.toInt = a) (ha : a < 256) : ((y >>> ((6 : Int32) &&& 31)) &&& 3).toInt = (a / 64 : Nat) ∧ (y &&& 63).toInt = (a % 64 : Nat) := by
 have k1 : ∀ n : Fin 256, ((Int32.ofInt n.1 >>> ((6 : Int32) &&& 31)) &&& 3).toInt = (n.1 / 64 : Nat) := by decide +kernel
 have k2 : ∀ n : Fin 256, (Int32.ofInt n.1 &&& 63).toInt = (n.1 % 64 : Nat) := by decide +kernel
 rw [ofI hy]
 exact ⟨k1 ⟨a, ha⟩, k2 ⟨a, ha⟩⟩
theorem add_m {c : Sc} {m : Nat → Sl} {o : Ob} (h : Sh c m o) {x : Int32} {s : Nat} (hx : x.toInt = s) (hs : s < 16) {y : Int32} {a : Nat} (hy : y.toInt = a) (ha : a < 256) : okP (F19 o x y) (fun p => Sh c (upS m s (adp (m s) a)) p) := by
 obtain ⟨h0, ⟨l1, l2, l3, l4, l5, l6, l7, l8, l9⟩, hi⟩ := id h
 obtain ⟨a1, a2, a3, a4, a5, a6', a7, a8, a9⟩ := hi s hs
 obtain ⟨e1, e2⟩ := a6 hy ha
 have e := x4i hx hs e1 (by omega)
 obtain ⟨w, hw, bw⟩ := a9 a ha
 unfold F19
 rw [g1 e hw]
 simp only [Option.bind_some]
 rw [aset_at e (by omega)]
 simp only [Option.bind_some]
 refine okP.some (h.set hs (x := adp (m s) a) ?_ ?_ ?_ ?_ ?_ ?_ ?_ ?_ ?_ ?_ ?_ ?_)
 ·rw [← h0]; dsimp only [scal, f_live, f_used, f_freedAt, f_protoOf, f_hostOf, f_iportOf, f_stateAt, f_deadlineAt, f_perm, f_poolSize, f_udpTimeout, f_tcpTimeout, f_cooldown, f_clock, f_remAddr, f_remPort, f_regHost, f_regPort, f_regExt, s_live, s_used, s_freedAt, s_protoOf, s_hostOf, s_iportOf, s_stateAt, s_deadlineAt, s_perm, s_poolSize, s_udpTimeout, s_tcpTimeout, s_cooldown, s_clock, s_remAddr, s_remPort, s_regHost, s_regPort, s_regExt]
 ·exact (set_same a1).symm
 ·exact (set_same a2).symm
 ·exact (set_same a3).symm
 ·exact (set_same a4).symm
 ·exact (set_same a5).symm
 ·exact (set_same a6').symm
 ·exact (set_same a7).symm
 ·exact (set_same a8).symm
 ·show ((f_perm o).set _ _).length = 64
  rw [List.length_set]; exact l9
 ·intro k hk
  show ((f_perm o).set _ _)[k]? = _
  rw [List.getElem?_set_ne (by omega)]
 ·intro b hb
  show ∃ w', ((f_perm o).set _ _)[s * 4 + b / 64]? = some w' ∧ bt6 w' (b % 64) = (sPm (m s) b || decide (b = a))
  obtain ⟨w2, b1, b2⟩ := a9 b hb
  by_cases q : s * 4 + a / 64 = s * 4 + b / 64
  ·rw [q, List.getElem?_set_self (by omega)]
   refine ⟨_, rfl, ?_⟩
   have : w2 = w := by
    rw [← q, hw] at b1
    exact (Option.some.inj b1).symm
   subst this
   rw [bt6_or, bt6_one e2 (by omega) (by omega), b2]
   congr 1
   by_cases r : b = a
   ·subst r; simp
   ·rw [decide_eq_false r, decide_eq_false (by omega)]
  ·rw [List.getElem?_set_ne q]
   refine ⟨w2, b1, ?_⟩
   rw [b2, decide_eq_false (by intro r; subst r; exact q rfl), Bool.or_false]
theorem has_m {c : Sc} {m : Nat → Sl} {o : Ob} (h : Sh c m o) {x : Int32} {s : Nat} (hx : x.toInt = s) (hs : s < 16) {y : Int32} {a : Nat} (hy : y.toInt = a) (ha : a < 256) : F30 o x y = some (if sPm (m s) a then 1 else 0) := by
 obtain ⟨h0, ⟨l1, l2, l3, l4, l5, l6, l7, l8, l9⟩, hi⟩ := id h
 obtain ⟨a1, a2, a3, a4, a5, a6', a7, a8, a9⟩ := hi s hs
 obtain ⟨e1, e2⟩ := a6 hy ha
 have e := x4i hx hs e1 (by omega)
 obtain ⟨w, hw, bw⟩ := a9 a ha
 unfold F30
 rw [g1 e hw]
 simp only [Option.bind_some]
 rw [← bw]
 cases q : bt6 w (a % 64)
 ·rw [if_pos ((bt6_test w e2 (by omega)).2 q)]; rfl
 ·rw [if_neg (fun k => absurd ((bt6_test w e2 (by omega)).1 k) (by rw [q]; decide))]; rfl
def tmo' (c : Sc) (st : Int32) : Int32 := if st = 0 then cU c else if st = 2 then cT c else 10
def nst (st fl ib : Int32) : Int32 := if fl &&& 4 = 0 then (if ib = 0 then (if st = 3 then (if fl &&& 1 = 0 then st else if fl &&& 2 = 0 then 1 else st) else st) else (if st = 1 then (if fl &&& 1 = 0 then st else if fl &&& 2 = 0 then st else 2) else st)) else 3
def upd (c : Sc) (x : Sl) (fl ib : Int32) : Sl := if fl &&& 8 = 0 then sst x (nst (sSt x) fl ib) (cC c + tmo' c (nst (sSt x) fl ib)) else rl x (cC c)
theorem j112 {c : Sc} {m : Nat → Sl} {o : Ob} (h : Sh c m o) {x : Int32} {s : Nat} (hx : x.toInt = s) (hs : s < 16) (st : Int32) : okP (J20_112 o x st) (fun p => Sh c (upS m s (sst (m s) st (cC c + tmo' c st))) p) := by
 obtain ⟨h0, ⟨l1, l2, l3, l4, l5, l6, l7, l8, l9⟩, hi⟩ := id h
 obtain ⟨a1, a2, a3, a4, a5, a6', a7, a8, a9⟩ := hi s hs
 have k := h.sc
 unfold J20_112
 rw [aset_at hx (by omega)]
 simp only [Option.bind_some]
 have tm : F21 (s_stateAt o ((f_stateAt o).set s st)) st = some (tmo' c st) := by
  unfold F21 tmo'
  rw [← k.2.1, ← k.2.2.1]
  by_cases q : st = 0
  ·rw [if_pos q, if_pos q]; dsimp only [f_live, f_used, f_freedAt, f_protoOf, f_hostOf, f_iportOf, f_stateAt, f_deadlineAt, f_perm, f_poolSize, f_udpTimeout, f_tcpTimeout, f_cooldown, f_clock, f_remAddr, f_remPort, f_regHost, f_regPort, f_regExt, s_live, s_used, s_freedAt, s_protoOf, s_hostOf, s_iportOf, s_stateAt, s_deadlineAt, s_perm, s_poolSize, s_udpTimeout, s_tcpTimeout, s_cooldown, s_clock, s_remAddr, s_remPort, s_regHost, s_regPort, s_regExt]
  ·rw [if_neg q, if_neg q]
   by_cases q : st = 2
   ·rw [if_pos q, if_pos q]; dsimp only [f_live, f_used, f_freedAt, f_protoOf, f_hostOf, f_iportOf, f_stateAt, f_deadlineAt, f_perm, f_poolSize, f_udpTimeout, f_tcpTimeout, f_cooldown, f_clock, f_remAddr, f_remPort, f_regHost, f_regPort, f_regExt, s_live, s_used, s_freedAt, s_protoOf, s_hostOf, s_iportOf, s_stateAt, s_deadlineAt, s_perm, s_poolSize, s_udpTimeout, s_tcpTimeout, s_cooldown, s_clock, s_remAddr, s_remPort, s_regHost, s_regPort, s_regExt]
   ·rw [if_neg q, if_neg q]
 rw [tm]
 simp only [Option.bind_some]
 have dl : f_deadlineAt (s_stateAt o ((f_stateAt o).set s st)) = f_deadlineAt o := by dsimp only [f_live, f_used, f_freedAt, f_protoOf, f_hostOf, f_iportOf, f_stateAt, f_deadlineAt, f_perm, f_poolSize, f_udpTimeout, f_tcpTimeout, f_cooldown, f_clock, f_remAddr, f_remPort, f_regHost, f_regPort, f_regExt, s_live, s_used, s_freedAt, s_protoOf, s_hostOf, s_iportOf, s_stateAt, s_deadlineAt, s_perm, s_poolSize, s_udpTimeout, s_tcpTimeout, s_cooldown, s_clock, s_remAddr, s_remPort, s_regHost, s_regPort, s_regExt]
 rw [dl, aset_at hx (by omega), k.2.2.2.2.1]
 simp only [Option.bind_some]
 refine okP.some (h.set hs (x := sst (m s) st (cC c + tmo' c st)) ?_ ?_ ?_ ?_ ?_ ?_ ?_ ?_ ?_ ?_ ?_ ?_)
 ·rw [← h0]; dsimp only [scal, f_live, f_used, f_freedAt, f_protoOf, f_hostOf, f_iportOf, f_stateAt, f_deadlineAt, f_perm, f_poolSize, f_udpTimeout, f_tcpTimeout, f_cooldown, f_clock, f_remAddr, f_remPort, f_regHost, f_regPort, f_regExt, s_live, s_used, s_freedAt, s_protoOf, s_hostOf, s_iportOf, s_stateAt, s_deadlineAt, s_perm, s_poolSize, s_udpTimeout, s_tcpTimeout, s_cooldown, s_clock, s_remAddr, s_remPort, s_regHost, s_regPort, s_regExt]
 ·exact (set_same a1).symm
 ·exact (set_same a2).symm
 ·exact (set_same a3).symm
 ·exact (set_same a4).symm
 ·exact (set_same a5).symm
 ·exact (set_same a6').symm
 ·dsimp only [f_live, f_used, f_freedAt, f_protoOf, f_hostOf, f_iportOf, f_stateAt, f_deadlineAt, f_perm, f_poolSize, f_udpTimeout, f_tcpTimeout, f_cooldown, f_clock, f_remAddr, f_remPort, f_regHost, f_regPort, f_regExt, s_live, s_used, s_freedAt, s_protoOf, s_hostOf, s_iportOf, s_stateAt, s_deadlineAt, s_perm, s_poolSize, s_udpTimeout, s_tcpTimeout, s_cooldown, s_clock, s_remAddr, s_remPort, s_regHost, s_regPort, s_regExt]; rfl
 ·dsimp only [f_live, f_used, f_freedAt, f_protoOf, f_hostOf, f_iportOf, f_stateAt, f_deadlineAt, f_perm, f_poolSize, f_udpTimeout, f_tcpTimeout, f_cooldown, f_clock, f_remAddr, f_remPort, f_regHost, f_regPort, f_regExt, s_live, s_used, s_freedAt, s_protoOf, s_hostOf, s_iportOf, s_stateAt, s_deadlineAt, s_perm, s_poolSize, s_udpTimeout, s_tcpTimeout, s_cooldown, s_clock, s_remAddr, s_remPort, s_regHost, s_regPort, s_regExt]; rfl
 ·exact l9
 ·intro k hk; rfl
 ·exact a9
theorem upd_m {c : Sc} {m : Nat → Sl} {o : Ob} (h : Sh c m o) {x : Int32} {s : Nat} (hx : x.toInt = s) (hs : s < 16) (fl : Int32) {ib : Int32} (hb : ib = 0 ∨ ib = 1) : okP (F20 o x fl ib) (fun p => Sh c (upS m s (upd c (m s) fl ib)) p) := by
 obtain ⟨h0, ⟨l1, l2, l3, l4, l5, l6, l7, l8, l9⟩, hi⟩ := id h
 obtain ⟨a1, a2, a3, a4, a5, a6', a7, a8, a9⟩ := hi s hs
 unfold F20 upd
 by_cases q8 : fl &&& 8 = 0
 ·rw [if_pos q8, if_pos q8, g1 hx a7]
  simp only [Option.bind_some]
  have key : ∀ st, st = nst (sSt (m s)) fl ib → okP (J20_112 o x st) (fun p => Sh c (upS m s (sst (m s) (nst (sSt (m s)) fl ib) (cC c + tmo' c (nst (sSt (m s)) fl ib)))) p) := by
   intro st e
   subst e
   exact j112 h hx hs _
  unfold J20_89
  rcases hb with e | e <;> subst e
  ·refine okP.ite (fun q4 => ?_) (fun q4 => key _ ?_)
   ·rw [if_pos rfl]
    refine key _ ?_
    unfold nst
    rw [if_pos q4, if_pos rfl, if_pos rfl]
    by_cases q1 : fl &&& 1 = 0 <;> by_cases q2 : fl &&& 2 = 0 <;> simp [q1, q2]
   ·unfold nst
    rw [if_neg q4]
  ·refine okP.ite (fun q4 => ?_) (fun q4 => key _ ?_)
   ·rw [if_neg (show ¬ (1 : Int32) = 0 by decide)]
    refine okP.ite (fun q => key _ ?_) (fun q => key _ ?_)
    ·unfold nst
     by_cases q1 : fl &&& 1 = 0 <;> by_cases q2 : fl &&& 2 = 0 <;> simp [q1, q2, q4, q]
    ·unfold nst
     by_cases q1 : fl &&& 1 = 0 <;> by_cases q2 : fl &&& 2 = 0 <;> simp [q1, q2, q4, q]
   ·unfold nst
    rw [if_neg q4]
 ·rw [if_neg q8, if_neg q8]
  apply okP.bind
  rw [h.sc.2.2.2.2.1]
  exact okP.mono (rel_m h hx hs (cC c)) (fun p hp => okP.some hp)
def Key (pr ho po : Int32) (x : Sl) : Prop := sLv x ≠ 0 ∧ sPr x = pr ∧ sHo x = ho ∧ sPo x = po
theorem find_m {c : Sc} {m : Nat → Sl} {o : Ob} (h : Sh c m o) {P : Nat} (hP : (cN' c).toInt = P) (h16 : P ≤ 16) (pr ho po : Int32) : okP (F8 o pr ho po) (fun r => (r = -1 ∧ ∀ i, i < P → ¬ Key pr ho po (m i)) ∨ ∃ i, i < P ∧ r = Int32.ofInt (i : Nat) ∧ Key pr ho po (m i)) := by
 have k := h.sc
 unfold F8
 apply okP.bind
 refine okP.mono (P := fun r => (r = -1 ∧ ∀ i, i < P → ¬ Key pr ho po (m i)) ∨ ∃ i, i < P ∧ r = Int32.ofInt (i : Nat) ∧ Key pr ho po (m i)) ?_ (fun r hr => okP.some hr)
 refine okP.loop (fun v => ∃ n : Nat, v.toInt = n ∧ n ≤ P ∧ ∀ i, i < n → ¬ Key pr ho po (m i)) (fun v => (P - v.toInt).toNat) ⟨0, rfl, Nat.zero_le _, fun i hi => absurd hi (Nat.not_lt_zero _)⟩ (by show ((P : Int) - 0).toNat < 4000; omega) ?_
 rintro v ⟨n, hv, nP, hn⟩
 unfold B8_3
 rw [k.1]
 refine okP.ite (fun cc => ?_) (fun cc => ?_)
 ·rw [i_lt, hP] at cc
  have n16 : n < 16 := by omega
  have e1 : (v + 1).toInt = v.toInt + 1 := inc1 (by omega)
  obtain ⟨a1, a2, a3, a4, a5, a6, a7, a8, a9⟩ := h.2.2 n n16
  have no : ¬ Key pr ho po (m n) → okP (J8_58 o pr ho po v) (fun r => Sum.elim (fun r => (r = -1 ∧ ∀ i, i < P → ¬ Key pr ho po (m i)) ∨ ∃ i, i < P ∧ r = Int32.ofInt (i : Nat) ∧ Key pr ho po (m i)) (fun v' : Int32 => (∃ n : Nat, v'.toInt = (n : Int) ∧ n ≤ P ∧ ∀ i, i < n → ¬ Key pr ho po (m i)) ∧ ((P : Int) - v'.toInt).toNat < ((P : Int) - v.toInt).toNat) r) := by
   intro nk
   refine okP.some ⟨⟨n + 1, by omega, by omega, fun i hi => ?_⟩, by omega⟩
   by_cases e : i = n
   ·subst e; exact nk
   ·exact hn i (by omega)
  rw [g1 hv a1, g1 hv a4, g1 hv a5, g1 hv a6]
  simp only [Option.bind_some]
  refine okP.ite (fun q => no (fun kk => kk.1 q)) (fun q1 => ?_)
  refine okP.ite (fun q2 => ?_) (fun q => no (fun kk => q kk.2.1))
  refine okP.ite (fun q3 => ?_) (fun q => no (fun kk => q kk.2.2.1))
  refine okP.ite (fun q4 => ?_) (fun q => no (fun kk => q kk.2.2.2))
  exact okP.some (Or.inr ⟨n, by omega, ofI hv, q1, q2, q3, q4⟩)
 ·rw [i_lt, hP] at cc
  have : n = P := by omega
  subst this
  exact okP.some (Or.inl ⟨rfl, hn⟩)
def Uq (m : Nat → Sl) (P : Nat) : Prop := ∀ i j, i < P → j < P → sLv (m i) ≠ 0 → sLv (m j) ≠ 0 → sPr (m i) = sPr (m j) → sHo (m i) = sHo (m j) → sPo (m i) = sPo (m j) → i = j
theorem find_yes {c : Sc} {m : Nat → Sl} {o : Ob} (h : Sh c m o) {P : Nat} (hP : (cN' c).toInt = P) (h16 : P ≤ 16) (u : Uq m P) {pr ho po : Int32} {i : Nat} (hi : i < P) (ki : Key pr ho po (m i)) : F8 o pr ho po = some (Int32.ofInt (i : Nat)) := by
 obtain ⟨r, hr, q⟩ := find_m h hP h16 pr ho po
 rw [hr]
 rcases q with ⟨_, q⟩ | ⟨j, hj, e, kj⟩
 ·exact absurd ki (q i hi)
 ·rw [e, u i j hi hj ki.1 kj.1 (ki.2.1.trans kj.2.1.symm) (ki.2.2.1.trans kj.2.2.1.symm) (ki.2.2.2.trans kj.2.2.2.symm)]
theorem find_no {c : Sc} {m : Nat → Sl} {o : Ob} (h : Sh c m o) {P : Nat} (hP : (cN' c).toInt = P) (h16 : P ≤ 16) {pr ho po : Int32} (no : ∀ i, i < P → ¬ Key pr ho po (m i)) : F8 o pr ho po = some (-1) := by
 obtain ⟨r, hr, q⟩ := find_m h hP h16 pr ho po
 rw [hr]
 rcases q with ⟨q, _⟩ | ⟨j, hj, e, kj⟩
 ·rw [q]
 ·exact absurd kj (no j hj)
theorem of_n {i : Nat} (h : i < 16) : (Int32.ofInt (i : Nat)).toInt = i ∧ ¬ Int32.ofInt (i : Nat) < 0 ∧ (5000 + Int32.ofInt (i : Nat)).toInt = 5000 + (i : Int) := by
 have : ∀ i : Fin 16, (Int32.ofInt (i.1 : Nat)).toInt = i.1 ∧ ¬ Int32.ofInt (i.1 : Nat) < 0 ∧ (5000 + Int32.ofInt (i.1 : Nat)).toInt = 5000 + (i.1 : Int) := by decide
 exact this ⟨i, h⟩
theorem ext_yes {c : Sc} {m : Nat → Sl} {o : Ob} (h : Sh c m o) {P : Nat} (hP : (cN' c).toInt = P) (h16 : P ≤ 16) (u : Uq m P) {pr ho po : Int32} {i : Nat} (hi : i < P) (ki : Key pr ho po (m i)) : F7 o ho po pr = some (5000 + Int32.ofInt (i : Nat)) := by
 unfold F7
 rw [find_yes h hP h16 u hi ki, Option.bind_some, if_neg (of_n (by omega)).2.1]
theorem ext_no {c : Sc} {m : Nat → Sl} {o : Ob} (h : Sh c m o) {P : Nat} (hP : (cN' c).toInt = P) (h16 : P ≤ 16) {pr ho po : Int32} (no : ∀ i, i < P → ¬ Key pr ho po (m i)) : F7 o ho po pr = some (-1) := by
 unfold F7
 rw [find_no h hP h16 no, Option.bind_some, if_pos (by decide)]
def avl (c : Sc) (x : Sl) : Int32 := if sUs x = 0 then 0 else sFr x + cO c
theorem avt_m {c : Sc} {m : Nat → Sl} {o : Ob} (h : Sh c m o) {x : Int32} {s : Nat} (hx : x.toInt = s) (hs : s < 16) : F16 o x = some (avl c (m s)) := by
 obtain ⟨a1, a2, a3, a4, a5, a6, a7, a8, a9⟩ := h.2.2 s hs
 unfold F16 avl
 rw [g1 hx a2, g1 hx a3, h.sc.2.2.2.1]
 simp only [Option.bind_some]
 split <;> rfl
theorem alloc_m {c : Sc} {m : Nat → Sl} {o : Ob} (h : Sh c m o) {P : Nat} (hP : (cN' c).toInt = P) (h16 : P ≤ 16) : okP (F15 o) (fun r => (r = -1 ∧ ∀ i, i < P → sLv (m i) ≠ 0 ∨ cC c < avl c (m i)) ∨ ∃ i, i < P ∧ r = Int32.ofInt (i : Nat) ∧ sLv (m i) = 0 ∧ ¬ cC c < avl c (m i) ∧ ∀ j, j < i → sLv (m j) ≠ 0 ∨ cC c < avl c (m j)) := by
 have k := h.sc
 unfold F15
 apply okP.bind
 refine okP.mono (P := fun r => (r = -1 ∧ ∀ i, i < P → sLv (m i) ≠ 0 ∨ cC c < avl c (m i)) ∨ ∃ i, i < P ∧ r = Int32.ofInt (i : Nat) ∧ sLv (m i) = 0 ∧ ¬ cC c < avl c (m i) ∧ ∀ j, j < i → sLv (m j) ≠ 0 ∨ cC c < avl c (m j)) ?_ (fun r hr => okP.some hr)
 refine okP.loop (fun v => ∃ n : Nat, v.toInt = n ∧ n ≤ P ∧ ∀ i, i < n → sLv (m i) ≠ 0 ∨ cC c < avl c (m i)) (fun v => (P - v.toInt).toNat) ⟨0, rfl, Nat.zero_le _, fun i hi => absurd hi (Nat.not_lt_zero _)⟩ (by show ((P : Int) - 0).toNat < 4000; omega) ?_
 rintro v ⟨n, hv, nP, hn⟩
 unfold B15_2
 rw [k.1, k.2.2.2.2.1]
 refine okP.ite (fun cc => ?_) (fun cc => ?_)
 ·rw [i_lt, hP] at cc
  have n16 : n < 16 := by omega
  have e1 : (v + 1).toInt = v.toInt + 1 := inc1 (by omega)
  obtain ⟨a1, a2, a3, a4, a5, a6, a7, a8, a9⟩ := h.2.2 n n16
  have no : (sLv (m n) ≠ 0 ∨ cC c < avl c (m n)) → okP (J15_33 o v) (fun r => Sum.elim (fun r => (r = -1 ∧ ∀ i, i < P → sLv (m i) ≠ 0 ∨ cC c < avl c (m i)) ∨ ∃ i, i < P ∧ r = Int32.ofInt (i : Nat) ∧ sLv (m i) = 0 ∧ ¬ cC c < avl c (m i) ∧ ∀ j, j < i → sLv (m j) ≠ 0 ∨ cC c < avl c (m j)) (fun v' : Int32 => (∃ n : Nat, v'.toInt = (n : Int) ∧ n ≤ P ∧ ∀ i, i < n → sLv (m i) ≠ 0 ∨ cC c < avl c (m i)) ∧ ((P : Int) - v'.toInt).toNat < ((P : Int) - v.toInt).toNat) r) := by
   intro nk
   refine okP.some ⟨⟨n + 1, by omega, by omega, fun i hi => ?_⟩, by omega⟩
   by_cases e : i = n
   ·subst e; exact nk
   ·exact hn i (by omega)
  rw [g1 hv a1, avt_m h hv n16]
  simp only [Option.bind_some]
  refine okP.ite (fun q1 => ?_) (fun q => no (Or.inl q))
  refine okP.ite (fun q2 => no (Or.inr q2)) (fun q2 => ?_)
  exact okP.some (Or.inr ⟨n, by omega, ofI hv, q1, q2, hn⟩)
 ·rw [i_lt, hP] at cc
  have : n = P := by omega
  subst this
  exact okP.some (Or.inl ⟨rfl, hn⟩)
def lb (x : Sl) : Nat := if sLv x = 0 then 0 else 1
def lc (m : Nat → Sl) : Nat → Nat
 | 0 => 0
 | n + 1 => lc m n + lb (m n)
theorem lb_le (x : Sl) : lb x ≤ 1 := by unfold lb; split <;> omega
theorem lc_le (m : Nat → Sl) : ∀ n, lc m n ≤ n
 | 0 => Nat.le_refl _
 | n + 1 => by
  have := lc_le m n
  have := lb_le (m n)
  show lc m n + lb (m n) ≤ n + 1
  omega
theorem lc_full {m : Nat → Sl} : ∀ {n : Nat}, lc m n = n → ∀ i, i < n → sLv (m i) ≠ 0
 | 0, _, i, hi => absurd hi (Nat.not_lt_zero _)
 | n + 1, h, i, hi => by
  have a := lc_le m n
  have b := lb_le (m n)
  have h : lc m n + lb (m n) = n + 1 := h
  by_cases e : i = n
  ·subst e
   intro q
   unfold lb at h
   rw [if_pos q] at h
   omega
  ·exact lc_full (n := n) (by omega) i (by omega)
theorem lc_congr {m m' : Nat → Sl} : ∀ {n : Nat}, (∀ i, i < n → lb (m i) = lb (m' i)) → lc m n = lc m' n
 | 0, _ => rfl
 | n + 1, h => by
  show lc m n + lb (m n) = lc m' n + lb (m' n)
  rw [lc_congr (n := n) (fun i hi => h i (by omega)), h n (by omega)]
theorem lc_mono {m m' : Nat → Sl} : ∀ {n : Nat}, (∀ i, i < n → lb (m i) ≤ lb (m' i)) → lc m n ≤ lc m' n
 | 0, _ => Nat.le_refl _
 | n + 1, h => by
  show lc m n + lb (m n) ≤ lc m' n + lb (m' n)
  have := lc_mono (n := n) (fun i hi => h i (by omega))
  have := h n (by omega)
  omega
theorem lc_up {m : Nat → Sl} {s : Nat} {x : Sl} : ∀ {n : Nat}, s < n → lc (upS m s x) n + lb (m s) = lc m n + lb x
 | 0, h => absurd h (Nat.not_lt_zero _)
 | n + 1, h => by
  show lc (upS m s x) n + lb (upS m s x n) + lb (m s) = lc m n + lb (m n) + lb x
  by_cases e : s = n
  ·subst e
   rw [upS_self, lc_congr (m := upS m s x) (m' := m) (fun i hi => by rw [upS_ne (by omega)])]
   omega
  ·rw [upS_ne e]
   have := lc_up (m := m) (s := s) (x := x) (n := n) (by omega)
   omega
theorem slot_m {c : Sc} {m : Nat → Sl} {o : Ob} (h : Sh c m o) {P : Nat} (hP : (cN' c).toInt = P) (h16 : P ≤ 16) (y : Int32) : okP (F6 o y) (fun r => (r = -1 ∧ ¬ (5000 ≤ y.toInt ∧ y.toInt < 5000 + P)) ∨ ∃ i : Nat, i < P ∧ r = Int32.ofInt (i : Nat) ∧ y.toInt = 5000 + i) := by
 have k := h.sc
 have z5 : (5000 : Int32).toInt = 5000 := rfl
 have e : (5000 + cN' c).toInt = 5000 + P := by rw [i_add (by omega) (by omega), z5, hP]
 unfold F6
 rw [k.1]
 refine okP.ite (fun q => ?_) (fun q => ?_)
 ·rw [i_lt, z5] at q
  exact okP.some (Or.inl ⟨rfl, by omega⟩)
 rw [i_lt, z5] at q
 refine okP.ite (fun q2 => ?_) (fun q2 => ?_)
 ·rw [i_lt, e] at q2
  have e2 : (y - 5000).toInt = ((y.toInt - 5000).toNat : Nat) := by rw [i_sub (by omega) (by omega), z5]; omega
  exact okP.some (Or.inr ⟨(y.toInt - 5000).toNat, by omega, ofI e2, by omega⟩)
 ·rw [i_lt, e] at q2
  exact okP.some (Or.inl ⟨rfl, by omega⟩)
def Gone (m : Nat → Sl) (P : Nat) (y : Int32) : Prop := ∀ i : Nat, i < P → y.toInt = 5000 + i → sLv (m i) = 0
theorem lat_m {c : Sc} {m : Nat → Sl} {o : Ob} (h : Sh c m o) {P : Nat} (hP : (cN' c).toInt = P) (h16 : P ≤ 16) (y : Int32) : okP (F5 o y) (fun r => (r = -1 ∧ Gone m P y) ∨ ∃ i : Nat, i < P ∧ r = Int32.ofInt (i : Nat) ∧ y.toInt = 5000 + i ∧ sLv (m i) ≠ 0) := by
 unfold F5
 apply okP.bind
 refine okP.mono (slot_m h hP h16 y) ?_
 rintro r (⟨q, nq⟩ | ⟨i, hi, q, yi⟩)
 ·subst q
  rw [if_pos (by decide)]
  exact okP.some (Or.inl ⟨rfl, fun i hi e => absurd ⟨by omega, by omega⟩ nq⟩)
 ·obtain ⟨b1, b2, _⟩ := of_n (i := i) (by omega)
  rw [q, if_neg b2, g1 b1 (h.2.2 i (by omega)).1]
  simp only [Option.bind_some]
  refine okP.ite (fun q1 => okP.some (Or.inl ⟨rfl, fun j hj e => ?_⟩)) (fun q1 => okP.some (Or.inr ⟨i, hi, rfl, yi, q1⟩))
  have : j = i := by omega
  rw [this]; exact q1
theorem lat_yes {c : Sc} {m : Nat → Sl} {o : Ob} (h : Sh c m o) {P : Nat} (hP : (cN' c).toInt = P) (h16 : P ≤ 16) {y : Int32} {i : Nat} (hi : i < P) (hy : y.toInt = 5000 + i) (hv : sLv (m i) ≠ 0) : F5 o y = some (Int32.ofInt (i : Nat)) := by
 obtain ⟨r, hr, q⟩ := lat_m h hP h16 y
 rw [hr]
 rcases q with ⟨_, q⟩ | ⟨j, hj, e, yj, _⟩
 ·exact absurd (q i hi hy) hv
 ·have : j = i := by omega
  rw [e, this]
theorem lat_no {c : Sc} {m : Nat → Sl} {o : Ob} (h : Sh c m o) {P : Nat} (hP : (cN' c).toInt = P) (h16 : P ≤ 16) {y : Int32} (g : Gone m P y) : F5 o y = some (-1) := by
 obtain ⟨r, hr, q⟩ := lat_m h hP h16 y
 rw [hr]
 rcases q with ⟨q, _⟩ | ⟨j, hj, e, yj, k⟩
 ·rw [q]
 ·exact absurd (g j hj yj) k
theorem iho_yes {c : Sc} {m : Nat → Sl} {o : Ob} (h : Sh c m o) {P : Nat} (hP : (cN' c).toInt = P) (h16 : P ≤ 16) {y : Int32} {i : Nat} (hi : i < P) (hy : y.toInt = 5000 + i) (hv : sLv (m i) ≠ 0) : F4 o y = some (sHo (m i)) := by
 unfold F4
 rw [lat_yes h hP h16 hi hy hv, Option.bind_some, if_neg (of_n (by omega)).2.1]
 obtain ⟨a1, a2, a3, a4, a5, a6, a7, a8, a9⟩ := h.2.2 i (by omega)
 rw [g1 (of_n (by omega)).1 a5]; rfl
theorem iho_no {c : Sc} {m : Nat → Sl} {o : Ob} (h : Sh c m o) {P : Nat} (hP : (cN' c).toInt = P) (h16 : P ≤ 16) {y : Int32} (g : Gone m P y) : F4 o y = some (-1) := by
 unfold F4
 rw [lat_no h hP h16 g, Option.bind_some, if_pos (by decide)]
theorem ipo_yes {c : Sc} {m : Nat → Sl} {o : Ob} (h : Sh c m o) {P : Nat} (hP : (cN' c).toInt = P) (h16 : P ≤ 16) {y : Int32} {i : Nat} (hi : i < P) (hy : y.toInt = 5000 + i) (hv : sLv (m i) ≠ 0) : F26 o y = some (sPo (m i)) := by
 unfold F26
 rw [lat_yes h hP h16 hi hy hv, Option.bind_some, if_neg (of_n (by omega)).2.1]
 obtain ⟨a1, a2, a3, a4, a5, a6, a7, a8, a9⟩ := h.2.2 i (by omega)
 rw [g1 (of_n (by omega)).1 a6]; rfl
theorem ipo_no {c : Sc} {m : Nat → Sl} {o : Ob} (h : Sh c m o) {P : Nat} (hP : (cN' c).toInt = P) (h16 : P ≤ 16) {y : Int32} (g : Gone m P y) : F26 o y = some (-1) := by
 unfold F26
 rw [lat_no h hP h16 g, Option.bind_some, if_pos (by decide)]
theorem sto_yes {c : Sc} {m : Nat → Sl} {o : Ob} (h : Sh c m o) {P : Nat} (hP : (cN' c).toInt = P) (h16 : P ≤ 16) {y : Int32} {i : Nat} (hi : i < P) (hy : y.toInt = 5000 + i) (hv : sLv (m i) ≠ 0) : F25 o y = some (sSt (m i)) := by
 unfold F25
 rw [lat_yes h hP h16 hi hy hv, Option.bind_some, if_neg (of_n (by omega)).2.1]
 obtain ⟨a1, a2, a3, a4, a5, a6, a7, a8, a9⟩ := h.2.2 i (by omega)
 rw [g1 (of_n (by omega)).1 a7]; rfl
theorem sto_no {c : Sc} {m : Nat → Sl} {o : Ob} (h : Sh c m o) {P : Nat} (hP : (cN' c).toInt = P) (h16 : P ≤ 16) {y : Int32} (g : Gone m P y) : F25 o y = some (-1) := by
 unfold F25
 rw [lat_no h hP h16 g, Option.bind_some, if_pos (by decide)]
theorem dlo_yes {c : Sc} {m : Nat → Sl} {o : Ob} (h : Sh c m o) {P : Nat} (hP : (cN' c).toInt = P) (h16 : P ≤ 16) {y : Int32} {i : Nat} (hi : i < P) (hy : y.toInt = 5000 + i) (hv : sLv (m i) ≠ 0) : F27 o y = some (sDl (m i)) := by
 unfold F27
 rw [lat_yes h hP h16 hi hy hv, Option.bind_some, if_neg (of_n (by omega)).2.1]
 obtain ⟨a1, a2, a3, a4, a5, a6, a7, a8, a9⟩ := h.2.2 i (by omega)
 rw [g1 (of_n (by omega)).1 a8]; rfl
theorem dlo_no {c : Sc} {m : Nat → Sl} {o : Ob} (h : Sh c m o) {P : Nat} (hP : (cN' c).toInt = P) (h16 : P ≤ 16) {y : Int32} (g : Gone m P y) : F27 o y = some (-1) := by
 unfold F27
 rw [lat_no h hP h16 g, Option.bind_some, if_pos (by decide)]
theorem lsl_m {c : Sc} {m : Nat → Sl} {o : Ob} (h : Sh c m o) {P : Nat} (hP : (cN' c).toInt = P) (h16 : P ≤ 16) (y pr : Int32) : okP (F29 o y pr) (fun r => (r = -1 ∧ ∀ i : Nat, i < P → y.toInt = 5000 + i → sLv (m i) = 0 ∨ sPr (m i) ≠ pr) ∨ ∃ i : Nat, i < P ∧ r = Int32.ofInt (i : Nat) ∧ y.toInt = 5000 + i ∧ sLv (m i) ≠ 0 ∧ sPr (m i) = pr) := by
 unfold F29
 apply okP.bind
 refine okP.mono (lat_m h hP h16 y) ?_
 rintro r (⟨q, nq⟩ | ⟨i, hi, q, yi, lv⟩)
 ·subst q
  rw [if_pos (by decide)]
  exact okP.some (Or.inl ⟨rfl, fun i hi e => Or.inl (nq i hi e)⟩)
 ·obtain ⟨b1, b2, _⟩ := of_n (i := i) (by omega)
  rw [q, if_neg b2, g1 b1 (h.2.2 i (by omega)).2.2.2.1]
  simp only [Option.bind_some]
  refine okP.ite (fun q1 => okP.some (Or.inr ⟨i, hi, rfl, yi, lv, q1⟩)) (fun q1 => okP.some (Or.inl ⟨rfl, fun j hj e => ?_⟩))
  have : j = i := by omega
  rw [this]; exact Or.inr q1
def wA (c : Sc) (a p : Int32) : Sc := (cN' c, cU c, cT c, cO c, cC c, a, p, cH c, cR c, cX c)
def wC (c : Sc) (t : Int32) : Sc := (cN' c, cU c, cT c, cO c, t, cA c, cP c, cH c, cR c, cX c)
def wR (c : Sc) (a b x : Int32) : Sc := (cN' c, cU c, cT c, cO c, cC c, cA c, cP c, a, b, x)
theorem rem_m {c : Sc} {m : Nat → Sl} {o : Ob} (h : Sh c m o) (a p : Int32) : okP (F14 o a p) (fun z => if (1 ≤ a.toInt ∧ a.toInt ≤ 255) ∧ 1 ≤ p.toInt ∧ p.toInt ≤ 65535 then z.1 = 1 ∧ Sh (wA c a p) m z.2 else z = (0, o)) := by
 have z1 : (1 : Int32).toInt = 1 := rfl
 have z2 : (255 : Int32).toInt = 255 := rfl
 have z3 : (65535 : Int32).toInt = 65535 := rfl
 unfold F14
 refine okP.ite (fun q => okP.some ?_) (fun q1 => ?_)
 ·rw [i_lt, z1] at q; rw [if_neg (by omega)]
 refine okP.ite (fun q => okP.some ?_) (fun q2 => ?_)
 ·rw [i_lt, z2] at q; rw [if_neg (by omega)]
 refine okP.ite (fun q => okP.some ?_) (fun q3 => ?_)
 ·rw [i_lt, z1] at q; rw [if_neg (by omega)]
 refine okP.ite (fun q => okP.some ?_) (fun q4 => okP.some ?_)
 ·rw [i_lt, z3] at q; rw [if_neg (by omega)]
 rw [i_lt] at q1 q2 q3 q4
 rw [if_pos (by omega)]
 refine ⟨rfl, h.sca ?_ (by dsimp only [f_live, f_used, f_freedAt, f_protoOf, f_hostOf, f_iportOf, f_stateAt, f_deadlineAt, f_perm, f_poolSize, f_udpTimeout, f_tcpTimeout, f_cooldown, f_clock, f_remAddr, f_remPort, f_regHost, f_regPort, f_regExt, s_live, s_used, s_freedAt, s_protoOf, s_hostOf, s_iportOf, s_stateAt, s_deadlineAt, s_perm, s_poolSize, s_udpTimeout, s_tcpTimeout, s_cooldown, s_clock, s_remAddr, s_remPort, s_regHost, s_regPort, s_regExt])⟩
 rw [← h.1]; dsimp only [scal, wA, cN', cU, cT, cO, cC, cH, cR, cX, f_live, f_used, f_freedAt, f_protoOf, f_hostOf, f_iportOf, f_stateAt, f_deadlineAt, f_perm, f_poolSize, f_udpTimeout, f_tcpTimeout, f_cooldown, f_clock, f_remAddr, f_remPort, f_regHost, f_regPort, f_regExt, s_live, s_used, s_freedAt, s_protoOf, s_hostOf, s_iportOf, s_stateAt, s_deadlineAt, s_perm, s_poolSize, s_udpTimeout, s_tcpTimeout, s_cooldown, s_clock, s_remAddr, s_remPort, s_regHost, s_regPort, s_regExt]
def adv (c : Sc) (m : Nat → Sl) (P : Nat) : Nat → Sl := fun i => if i < P ∧ sLv (m i) ≠ 0 ∧ ¬ cC c < sDl (m i) then rl (m i) (sDl (m i)) else m i
theorem adv_m {c : Sc} {m : Nat → Sl} {o : Ob} (h : Sh c m o) {P : Nat} (hP : (cN' c).toInt = P) (h16 : P ≤ 16) (k : Int32) : okP (F12 o k) (fun z => if 0 ≤ k.toInt ∧ k.toInt ≤ 1000 then z.1 = 1 ∧ Sh (wC c (cC c + k)) (adv (wC c (cC c + k)) m P) z.2 else z = (0, o)) := by
 have z0 : (0 : Int32).toInt = 0 := rfl
 have z3 : (1000 : Int32).toInt = 1000 := rfl
 unfold F12
 refine okP.ite (fun q => okP.some ?_) (fun q1 => ?_)
 ·rw [i_lt, z0] at q; rw [if_neg (by omega)]
 refine okP.ite (fun q => okP.some ?_) (fun q2 => ?_)
 ·rw [i_lt, z3] at q; rw [if_neg (by omega)]
 rw [i_lt] at q1 q2
 simp only [if_pos (show 0 ≤ k.toInt ∧ k.toInt ≤ 1000 by omega)]
 rw [h.sc.2.2.2.2.1]
 obtain ⟨d, hd⟩ : ∃ d, d = wC c (cC c + k) := ⟨_, rfl⟩
 have h' : Sh d m (s_clock o (cC c + k)) := h.sca (by rw [hd, ← h.1]; dsimp only [scal, wC, cN', cU, cT, cO, cC, cA, cP, cH, cR, cX, f_live, f_used, f_freedAt, f_protoOf, f_hostOf, f_iportOf, f_stateAt, f_deadlineAt, f_perm, f_poolSize, f_udpTimeout, f_tcpTimeout, f_cooldown, f_clock, f_remAddr, f_remPort, f_regHost, f_regPort, f_regExt, s_live, s_used, s_freedAt, s_protoOf, s_hostOf, s_iportOf, s_stateAt, s_deadlineAt, s_perm, s_poolSize, s_udpTimeout, s_tcpTimeout, s_cooldown, s_clock, s_remAddr, s_remPort, s_regHost, s_regPort, s_regExt]) (by dsimp only [f_live, f_used, f_freedAt, f_protoOf, f_hostOf, f_iportOf, f_stateAt, f_deadlineAt, f_perm, f_poolSize, f_udpTimeout, f_tcpTimeout, f_cooldown, f_clock, f_remAddr, f_remPort, f_regHost, f_regPort, f_regExt, s_live, s_used, s_freedAt, s_protoOf, s_hostOf, s_iportOf, s_stateAt, s_deadlineAt, s_perm, s_poolSize, s_udpTimeout, s_tcpTimeout, s_cooldown, s_clock, s_remAddr, s_remPort, s_regHost, s_regPort, s_regExt])
 have hP' : (cN' d).toInt = P := by rw [hd]; exact hP
 have dC : cC d = cC c + k := by rw [hd]; rfl
 rw [← hd]
 obtain ⟨o', ho'⟩ : ∃ o', o' = s_clock o (cC c + k) := ⟨_, rfl⟩
 rw [← ho'] at h' ⊢
 clear ho' hd h
 apply okP.bind
 refine okP.mono (P := fun z => z.1 = 1 ∧ Sh d (adv d m P) z.2) ?_ (fun z hz => okP.some hz)
 refine okP.loop (fun v => ∃ n : Nat, v.1.toInt = n ∧ n ≤ P ∧ Sh d (adv d m n) v.2) (fun v => (P - v.1.toInt).toNat) ⟨0, rfl, Nat.zero_le _, ?_⟩ (by show ((P : Int) - 0).toNat < 4000; omega) ?_
 ·have : adv d m 0 = m := by
   funext i
   unfold adv
   rw [if_neg (fun w => Nat.not_lt_zero _ w.1)]
  rw [this]; exact h'
 rintro ⟨v, p⟩ ⟨n, hv, nP, hp⟩
 simp only at hv hp
 unfold B12_25
 simp only
 rw [hp.sc.1, hp.sc.2.2.2.2.1]
 refine okP.ite (fun cc => ?_) (fun cc => ?_)
 ·rw [i_lt, hP'] at cc
  have n16 : n < 16 := by omega
  have e1 : (v + 1).toInt = v.toInt + 1 := inc1 (by omega)
  obtain ⟨a1, a2, a3, a4, a5, a6, a7, a8, a9⟩ := hp.2.2 n n16
  have en : adv d m n n = m n := by
   unfold adv
   rw [if_neg (fun w => absurd w.1 (by omega))]
  rw [en] at a1 a8
  have stay : ¬ (sLv (m n) ≠ 0 ∧ ¬ cC d < sDl (m n)) → adv d m (n + 1) = adv d m n := by
   intro q
   funext i
   unfold adv
   by_cases e : i = n
   ·subst e
    rw [if_neg (fun w => q w.2), if_neg (fun w => q w.2)]
   ·by_cases w : i < n ∧ sLv (m i) ≠ 0 ∧ ¬ cC d < sDl (m i)
    ·rw [if_pos w, if_pos ⟨by omega, w.2⟩]
    ·rw [if_neg w, if_neg (fun w' => w ⟨by omega, w'.2⟩)]
  rw [g1 hv a1, g1 hv a8]
  simp only [Option.bind_some]
  have fin : ∀ u, Sh d (adv d m (n + 1)) u → okP (J12_66 u v) (fun r => Sum.elim (fun z : Int32 × Ob => z.1 = 1 ∧ Sh d (adv d m P) z.2) (fun v' : Int32 × Ob => (∃ n : Nat, v'.1.toInt = (n : Int) ∧ n ≤ P ∧ Sh d (adv d m n) v'.2) ∧ ((P : Int) - v'.1.toInt).toNat < ((P : Int) - v.toInt).toNat) r) := fun u hu => okP.some ⟨⟨n + 1, by simp only; omega, by omega, hu⟩, by simp only; omega⟩
  refine okP.ite (fun q => fin p ?_) (fun q1 => ?_)
  ·rw [stay (fun w => w.1 q)]; exact hp
  refine okP.ite (fun q => fin p ?_) (fun q2 => ?_)
  ·rw [stay (fun w => w.2 q)]; exact hp
  apply okP.bind
  refine okP.mono (rel_m hp hv n16 _) (fun u hu => fin u ?_)
  rw [en] at hu
  have : adv d m (n + 1) = upS (adv d m n) n (rl (m n) (sDl (m n))) := by
   funext i
   by_cases e : i = n
   ·subst e
    rw [upS_self]
    unfold adv
    rw [if_pos ⟨by omega, q1, q2⟩]
   ·rw [upS_ne (by omega)]
    unfold adv
    by_cases w : i < n ∧ sLv (m i) ≠ 0 ∧ ¬ cC d < sDl (m i)
    ·rw [if_pos w, if_pos ⟨by omega, w.2⟩]
    ·rw [if_neg w, if_neg (fun w' => w ⟨by omega, w'.2⟩)]
  rw [this]; exact hu
 ·rw [i_lt, hP'] at cc
  have : n = P := by omega
  subst this
  exact okP.some ⟨rfl, hp⟩
def Vp (pr fl : Int32) : Prop := (pr = 17 ∧ fl = 0) ∨ (pr = 6 ∧ 0 ≤ fl.toInt ∧ fl.toInt ≤ 15)
theorem vpf_m (pr fl : Int32) : F10 pr fl = some 1 ∧ Vp pr fl ∨ F10 pr fl = some 0 ∧ ¬ Vp pr fl := by
 have z0 : (0 : Int32).toInt = 0 := rfl
 have z15 : (15 : Int32).toInt = 15 := rfl
 unfold F10 J10_14 Vp
 by_cases a : pr = 17
 ·subst a
  rw [if_pos rfl]
  by_cases b : fl = 0
  ·subst b
   exact Or.inl ⟨by decide, Or.inl ⟨rfl, rfl⟩⟩
  ·refine Or.inr ⟨?_, ?_⟩
   ·split
    ·rfl
    split
    ·rfl
    rfl
   ·rintro (w | w)
    ·exact b w.2
    ·exact absurd w.1 (by decide)
 ·rw [if_neg a]
  by_cases a6 : pr = 6
  ·rw [if_pos a6]
   by_cases c1 : fl < 0
   ·rw [if_pos c1]
    rw [i_lt, z0] at c1
    exact Or.inr ⟨rfl, by rintro (w | w); exact a w.1; omega⟩
   ·rw [if_neg c1]
    by_cases c2 : 15 < fl
    ·rw [if_pos c2]
     rw [i_lt, z15] at c2
     exact Or.inr ⟨rfl, by rintro (w | w); exact a w.1; omega⟩
    ·rw [if_neg c2, if_neg a]
     rw [i_lt] at c1 c2
     exact Or.inl ⟨rfl, Or.inr ⟨a6, by omega, by omega⟩⟩
  ·rw [if_neg a6]
   exact Or.inr ⟨rfl, by rintro (w | w); exact a w.1; exact a6 w.1⟩
theorem scal_wR {c : Sc} {o : Ob} (h : scal o = c) (a b x : Int32) {p : Ob} (e : (f_poolSize p, f_udpTimeout p, f_tcpTimeout p, f_cooldown p, f_clock p, f_remAddr p, f_remPort p) = (f_poolSize o, f_udpTimeout o, f_tcpTimeout o, f_cooldown o, f_clock o, f_remAddr o, f_remPort o)) (e2 : f_regHost p = a ∧ f_regPort p = b ∧ f_regExt p = x) : scal p = wR c a b x := by
 subst h
 simp only [Prod.mk.injEq] at e
 obtain ⟨e1, e2', e3, e4, e5, e6, e7⟩ := e
 unfold scal wR
 rw [e1, e2', e3, e4, e5, e6, e7, e2.1, e2.2.1, e2.2.2]
 rfl
theorem inb_m {c : Sc} {m : Nat → Sl} {o : Ob} (h : Sh c m o) {P : Nat} (hP : (cN' c).toInt = P) (h16 : P ≤ 16) {A : Nat} (hA : (cA c).toInt = A) (hA2 : A ≤ 255) (y pr fl : Int32) : okP (F13 o y pr fl) (fun z => (z = (-1, o) ∧ ¬ (Vp pr fl ∧ A ≠ 0 ∧ A ≠ 255)) ∨ ((Vp pr fl ∧ A ≠ 0 ∧ A ≠ 255) ∧ ((z = (-4, o) ∧ ∀ i : Nat, i < P → y.toInt = 5000 + i → sLv (m i) = 0 ∨ sPr (m i) ≠ pr) ∨ ∃ i : Nat, i < P ∧ y.toInt = 5000 + i ∧ sLv (m i) ≠ 0 ∧ sPr (m i) = pr ∧ ((z = (-5, o) ∧ sPm (m i) A = false) ∨ (z.1 = 2 ∧ sPm (m i) A = true ∧ Sh (wR c (sHo (m i)) (sPo (m i)) y) (upS m i (upd c (m i) fl 1)) z.2))))) := by
 have k := h.sc
 have z0 : (0 : Int32).toInt = 0 := rfl
 have z255 : (255 : Int32).toInt = 255 := rfl
 unfold F13
 rcases vpf_m pr fl with ⟨q, v⟩ | ⟨q, v⟩
 rotate_left
 ·rw [q, Option.bind_some, if_pos rfl]
  exact okP.some (Or.inl ⟨rfl, fun w => v w.1⟩)
 rw [q, Option.bind_some, if_neg (by decide), k.2.2.2.2.2.1]
 refine okP.ite (fun q1 => okP.some (Or.inl ⟨rfl, fun w => ?_⟩)) (fun q1 => ?_)
 ·rw [q1, z0] at hA; omega
 refine okP.ite (fun q2 => okP.some (Or.inl ⟨rfl, fun w => ?_⟩)) (fun q2 => ?_)
 ·rw [q2, z255] at hA; omega
 have ok : Vp pr fl ∧ A ≠ 0 ∧ A ≠ 255 := by
  refine ⟨v, fun e => q1 ?_, fun e => q2 ?_⟩
  ·rw [i_eq, z0, hA, e]; rfl
  ·rw [i_eq, z255, hA, e]; rfl
 apply okP.bind
 refine okP.mono (lsl_m h hP h16 y pr) ?_
 rintro r (⟨r1, nq⟩ | ⟨i, hi, r1, yi, lv, hp⟩)
 ·subst r1
  rw [if_pos (by decide)]
  exact okP.some (Or.inr ⟨ok, Or.inl ⟨rfl, nq⟩⟩)
 obtain ⟨b1, b2, _⟩ := of_n (i := i) (by omega)
 rw [r1, if_neg b2, has_m h b1 (by omega) hA (by omega), Option.bind_some]
 cases pm : sPm (m i) A
 ·rw [if_pos (by simp)]
  exact okP.some (Or.inr ⟨ok, Or.inr ⟨i, hi, yi, lv, hp, Or.inl ⟨rfl, pm⟩⟩⟩)
 rw [if_neg (by simp)]
 obtain ⟨a1, a2, a3, a4, a5, a6, a7, a8, a9⟩ := h.2.2 i (by omega)
 rw [g1 b1 a5, g1 b1 a6]
 simp only [Option.bind_some]
 have hq : Sh (wR c (sHo (m i)) (sPo (m i)) y) m (s_regExt (s_regPort (s_regHost o (sHo (m i))) (sPo (m i))) y) := h.sca (scal_wR h.1 _ _ _ (by dsimp only [f_live, f_used, f_freedAt, f_protoOf, f_hostOf, f_iportOf, f_stateAt, f_deadlineAt, f_perm, f_poolSize, f_udpTimeout, f_tcpTimeout, f_cooldown, f_clock, f_remAddr, f_remPort, f_regHost, f_regPort, f_regExt, s_live, s_used, s_freedAt, s_protoOf, s_hostOf, s_iportOf, s_stateAt, s_deadlineAt, s_perm, s_poolSize, s_udpTimeout, s_tcpTimeout, s_cooldown, s_clock, s_remAddr, s_remPort, s_regHost, s_regPort, s_regExt]) (by dsimp only [f_live, f_used, f_freedAt, f_protoOf, f_hostOf, f_iportOf, f_stateAt, f_deadlineAt, f_perm, f_poolSize, f_udpTimeout, f_tcpTimeout, f_cooldown, f_clock, f_remAddr, f_remPort, f_regHost, f_regPort, f_regExt, s_live, s_used, s_freedAt, s_protoOf, s_hostOf, s_iportOf, s_stateAt, s_deadlineAt, s_perm, s_poolSize, s_udpTimeout, s_tcpTimeout, s_cooldown, s_clock, s_remAddr, s_remPort, s_regHost, s_regPort, s_regExt]; exact ⟨rfl, rfl, rfl⟩)) (by dsimp only [f_live, f_used, f_freedAt, f_protoOf, f_hostOf, f_iportOf, f_stateAt, f_deadlineAt, f_perm, f_poolSize, f_udpTimeout, f_tcpTimeout, f_cooldown, f_clock, f_remAddr, f_remPort, f_regHost, f_regPort, f_regExt, s_live, s_used, s_freedAt, s_protoOf, s_hostOf, s_iportOf, s_stateAt, s_deadlineAt, s_perm, s_poolSize, s_udpTimeout, s_tcpTimeout, s_cooldown, s_clock, s_remAddr, s_remPort, s_regHost, s_regPort, s_regExt])
 apply okP.bind
 refine okP.mono (upd_m hq b1 (by omega) fl (Or.inr rfl)) (fun p hp' => okP.some (Or.inr ⟨ok, Or.inr ⟨i, hi, yi, lv, hp, Or.inr ⟨rfl, pm, hp'⟩⟩⟩))
def Hp (c : Sc) (m : Nat → Sl) (P : Nat) (pr fl : Int32) (z : Int32 × Ob) : Prop :=
 (z.1 = 4 ∧ Sh (wR c (-1) (-1) (cX c)) m z.2) ∨ (z.1 = 3 ∧ ∃ i : Nat, i < P ∧ (cP c).toInt = 5000 + i ∧ sLv (m i) ≠ 0 ∧ sPr (m i) = pr ∧ sPm (m i) 255 = true ∧ Sh (wR c (sHo (m i)) (sPo (m i)) (cX c)) (upS m i (upd c (m i) fl 1)) z.2)
def HA (A : Nat) : Prop := A = A
theorem hair_m {c : Sc} {m : Nat → Sl} {o : Ob} (h : Sh c m o) {P : Nat} (hP : (cN' c).toInt = P) (h16 : P ≤ 16) (pr fl : Int32) : okP (F36 o pr fl) (Hp c m P pr fl) := by
 have k := h.sc
 have z255 : (255 : Int32).toInt = (255 : Nat) := rfl
 unfold F36
 rw [k.2.2.2.2.2.2.1]
 have no : okP (J36_25 o) (Hp c m P pr fl) := okP.some (Or.inl ⟨rfl, h.sca (scal_wR h.1 _ _ _ (by dsimp only [f_live, f_used, f_freedAt, f_protoOf, f_hostOf, f_iportOf, f_stateAt, f_deadlineAt, f_perm, f_poolSize, f_udpTimeout, f_tcpTimeout, f_cooldown, f_clock, f_remAddr, f_remPort, f_regHost, f_regPort, f_regExt, s_live, s_used, s_freedAt, s_protoOf, s_hostOf, s_iportOf, s_stateAt, s_deadlineAt, s_perm, s_poolSize, s_udpTimeout, s_tcpTimeout, s_cooldown, s_clock, s_remAddr, s_remPort, s_regHost, s_regPort, s_regExt]) (by rw [← k.2.2.2.2.2.2.2.2.2]; dsimp only [f_live, f_used, f_freedAt, f_protoOf, f_hostOf, f_iportOf, f_stateAt, f_deadlineAt, f_perm, f_poolSize, f_udpTimeout, f_tcpTimeout, f_cooldown, f_clock, f_remAddr, f_remPort, f_regHost, f_regPort, f_regExt, s_live, s_used, s_freedAt, s_protoOf, s_hostOf, s_iportOf, s_stateAt, s_deadlineAt, s_perm, s_poolSize, s_udpTimeout, s_tcpTimeout, s_cooldown, s_clock, s_remAddr, s_remPort, s_regHost, s_regPort, s_regExt]; exact ⟨rfl, rfl, rfl⟩)) (by dsimp only [f_live, f_used, f_freedAt, f_protoOf, f_hostOf, f_iportOf, f_stateAt, f_deadlineAt, f_perm, f_poolSize, f_udpTimeout, f_tcpTimeout, f_cooldown, f_clock, f_remAddr, f_remPort, f_regHost, f_regPort, f_regExt, s_live, s_used, s_freedAt, s_protoOf, s_hostOf, s_iportOf, s_stateAt, s_deadlineAt, s_perm, s_poolSize, s_udpTimeout, s_tcpTimeout, s_cooldown, s_clock, s_remAddr, s_remPort, s_regHost, s_regPort, s_regExt])⟩)
 apply okP.bind
 refine okP.mono (lsl_m h hP h16 (cP c) pr) ?_
 rintro r (⟨r1, nq⟩ | ⟨i, hi, r1, yi, lv, hp⟩)
 ·subst r1
  rw [if_pos (by decide)]
  exact no
 obtain ⟨b1, b2, _⟩ := of_n (i := i) (by omega)
 rw [r1, if_neg b2, has_m h b1 (by omega) z255 (by omega), Option.bind_some]
 cases pm : sPm (m i) 255
 ·rw [if_pos (by simp)]
  exact no
 rw [if_neg (by simp)]
 obtain ⟨a1, a2, a3, a4, a5, a6, a7, a8, a9⟩ := h.2.2 i (by omega)
 rw [g1 b1 a5, g1 b1 a6]
 simp only [Option.bind_some]
 have hq : Sh (wR c (sHo (m i)) (sPo (m i)) (cX c)) m (s_regPort (s_regHost o (sHo (m i))) (sPo (m i))) := h.sca (scal_wR h.1 _ _ _ (by dsimp only [f_live, f_used, f_freedAt, f_protoOf, f_hostOf, f_iportOf, f_stateAt, f_deadlineAt, f_perm, f_poolSize, f_udpTimeout, f_tcpTimeout, f_cooldown, f_clock, f_remAddr, f_remPort, f_regHost, f_regPort, f_regExt, s_live, s_used, s_freedAt, s_protoOf, s_hostOf, s_iportOf, s_stateAt, s_deadlineAt, s_perm, s_poolSize, s_udpTimeout, s_tcpTimeout, s_cooldown, s_clock, s_remAddr, s_remPort, s_regHost, s_regPort, s_regExt]) (by rw [← k.2.2.2.2.2.2.2.2.2]; dsimp only [f_live, f_used, f_freedAt, f_protoOf, f_hostOf, f_iportOf, f_stateAt, f_deadlineAt, f_perm, f_poolSize, f_udpTimeout, f_tcpTimeout, f_cooldown, f_clock, f_remAddr, f_remPort, f_regHost, f_regPort, f_regExt, s_live, s_used, s_freedAt, s_protoOf, s_hostOf, s_iportOf, s_stateAt, s_deadlineAt, s_perm, s_poolSize, s_udpTimeout, s_tcpTimeout, s_cooldown, s_clock, s_remAddr, s_remPort, s_regHost, s_regPort, s_regExt]; exact ⟨rfl, rfl, rfl⟩)) (by dsimp only [f_live, f_used, f_freedAt, f_protoOf, f_hostOf, f_iportOf, f_stateAt, f_deadlineAt, f_perm, f_poolSize, f_udpTimeout, f_tcpTimeout, f_cooldown, f_clock, f_remAddr, f_remPort, f_regHost, f_regPort, f_regExt, s_live, s_used, s_freedAt, s_protoOf, s_hostOf, s_iportOf, s_stateAt, s_deadlineAt, s_perm, s_poolSize, s_udpTimeout, s_tcpTimeout, s_cooldown, s_clock, s_remAddr, s_remPort, s_regHost, s_regPort, s_regExt])
 apply okP.bind
 refine okP.mono (upd_m hq b1 (by omega) fl (Or.inr rfl)) (fun p hp' => okP.some (Or.inr ⟨rfl, i, hi, yi, lv, hp, pm, hp'⟩))
def Os (c : Sc) (m : Nat → Sl) (P A s : Nat) (pr fl : Int32) (z : Int32 × Ob) : Prop :=
 (A ≠ 255 ∧ z.1 = 1 ∧ Sh (wR c (-1) (-1) (5000 + Int32.ofInt (s : Nat))) (upS m s (upd c (adp (m s) A) fl 0)) z.2) ∨ (A = 255 ∧ Hp (wR c (cH c) (cR c) (5000 + Int32.ofInt (s : Nat))) (upS m s (upd c (adp (m s) A) fl 0)) P pr fl z)
theorem j103 {c : Sc} {m : Nat → Sl} {o : Ob} (h : Sh c m o) {P : Nat} (hP : (cN' c).toInt = P) (h16 : P ≤ 16) {A : Nat} (hA : (cA c).toInt = A) (hA2 : A ≤ 255) (hA3 : HA A) {s : Nat} (hs : s < P) (pr fl : Int32) : okP (J9_103 o pr fl (Int32.ofInt (s : Nat))) (Os c m P A s pr fl) := by
 have z255 : (255 : Int32).toInt = 255 := rfl
 obtain ⟨b1, b2, _⟩ := of_n (i := s) (by omega)
 unfold J9_103
 rw [h.sc.2.2.2.2.2.1]
 apply okP.bind
 refine okP.mono (add_m h b1 (by omega) hA (by omega)) (fun p hp => ?_)
 apply okP.bind
 refine okP.mono (upd_m hp b1 (by omega) fl (Or.inl rfl)) (fun q hq => ?_)
 rw [upS_self, upS_upS] at hq
 rw [hq.sc.2.2.2.2.2.1]
 have kq := hq.sc
 refine okP.ite (fun e => ?_) (fun e => ?_)
 ·have A255 : A = 255 := by rw [e, z255] at hA; omega
  have hr : Sh (wR c (cH c) (cR c) (5000 + Int32.ofInt (s : Nat))) (upS m s (upd c (adp (m s) A) fl 0)) (s_regExt q (5000 + Int32.ofInt (s : Nat))) := hq.sca (scal_wR hq.1 _ _ _ (by dsimp only [f_live, f_used, f_freedAt, f_protoOf, f_hostOf, f_iportOf, f_stateAt, f_deadlineAt, f_perm, f_poolSize, f_udpTimeout, f_tcpTimeout, f_cooldown, f_clock, f_remAddr, f_remPort, f_regHost, f_regPort, f_regExt, s_live, s_used, s_freedAt, s_protoOf, s_hostOf, s_iportOf, s_stateAt, s_deadlineAt, s_perm, s_poolSize, s_udpTimeout, s_tcpTimeout, s_cooldown, s_clock, s_remAddr, s_remPort, s_regHost, s_regPort, s_regExt]) (by rw [← kq.2.2.2.2.2.2.2.1, ← kq.2.2.2.2.2.2.2.2.1]; dsimp only [f_live, f_used, f_freedAt, f_protoOf, f_hostOf, f_iportOf, f_stateAt, f_deadlineAt, f_perm, f_poolSize, f_udpTimeout, f_tcpTimeout, f_cooldown, f_clock, f_remAddr, f_remPort, f_regHost, f_regPort, f_regExt, s_live, s_used, s_freedAt, s_protoOf, s_hostOf, s_iportOf, s_stateAt, s_deadlineAt, s_perm, s_poolSize, s_udpTimeout, s_tcpTimeout, s_cooldown, s_clock, s_remAddr, s_remPort, s_regHost, s_regPort, s_regExt]; exact ⟨rfl, rfl, rfl⟩)) (by dsimp only [f_live, f_used, f_freedAt, f_protoOf, f_hostOf, f_iportOf, f_stateAt, f_deadlineAt, f_perm, f_poolSize, f_udpTimeout, f_tcpTimeout, f_cooldown, f_clock, f_remAddr, f_remPort, f_regHost, f_regPort, f_regExt, s_live, s_used, s_freedAt, s_protoOf, s_hostOf, s_iportOf, s_stateAt, s_deadlineAt, s_perm, s_poolSize, s_udpTimeout, s_tcpTimeout, s_cooldown, s_clock, s_remAddr, s_remPort, s_regHost, s_regPort, s_regExt])
  apply okP.bind
  exact okP.mono (hair_m hr hP h16 pr fl) (fun z hz => okP.some (Or.inr ⟨A255, hz⟩))
 ·have A255 : A ≠ 255 := fun w => e (by rw [i_eq, z255, hA, w]; rfl)
  exact okP.some (Or.inl ⟨A255, rfl, hq.sca (scal_wR hq.1 _ _ _ (by dsimp only [f_live, f_used, f_freedAt, f_protoOf, f_hostOf, f_iportOf, f_stateAt, f_deadlineAt, f_perm, f_poolSize, f_udpTimeout, f_tcpTimeout, f_cooldown, f_clock, f_remAddr, f_remPort, f_regHost, f_regPort, f_regExt, s_live, s_used, s_freedAt, s_protoOf, s_hostOf, s_iportOf, s_stateAt, s_deadlineAt, s_perm, s_poolSize, s_udpTimeout, s_tcpTimeout, s_cooldown, s_clock, s_remAddr, s_remPort, s_regHost, s_regPort, s_regExt]) (by dsimp only [f_live, f_used, f_freedAt, f_protoOf, f_hostOf, f_iportOf, f_stateAt, f_deadlineAt, f_perm, f_poolSize, f_udpTimeout, f_tcpTimeout, f_cooldown, f_clock, f_remAddr, f_remPort, f_regHost, f_regPort, f_regExt, s_live, s_used, s_freedAt, s_protoOf, s_hostOf, s_iportOf, s_stateAt, s_deadlineAt, s_perm, s_poolSize, s_udpTimeout, s_tcpTimeout, s_cooldown, s_clock, s_remAddr, s_remPort, s_regHost, s_regPort, s_regExt]; exact ⟨rfl, rfl, rfl⟩)) (by dsimp only [f_live, f_used, f_freedAt, f_protoOf, f_hostOf, f_iportOf, f_stateAt, f_deadlineAt, f_perm, f_poolSize, f_udpTimeout, f_tcpTimeout, f_cooldown, f_clock, f_remAddr, f_remPort, f_regHost, f_regPort, f_regExt, s_live, s_used, s_freedAt, s_protoOf, s_hostOf, s_iportOf, s_stateAt, s_deadlineAt, s_perm, s_poolSize, s_udpTimeout, s_tcpTimeout, s_cooldown, s_clock, s_remAddr, s_remPort, s_regHost, s_regPort, s_regExt])⟩)
def Out (c : Sc) (m : Nat → Sl) (o : Ob) (P A : Nat) (ho po pr fl : Int32) (z : Int32 × Ob) : Prop :=
 (∃ s, s < P ∧ Key pr ho po (m s) ∧ Os c m P A s pr fl z) ∨ ((∀ i, i < P → ¬ Key pr ho po (m i)) ∧ ((pr = 6 ∧ (fl &&& 1 = 0 ∨ ¬ fl &&& 8 = 0) ∧ z = (-3, o)) ∨ (¬ (pr = 6 ∧ (fl &&& 1 = 0 ∨ ¬ fl &&& 8 = 0)) ∧ ((z = (-2, o) ∧ ∀ i, i < P → sLv (m i) ≠ 0 ∨ cC c < avl c (m i)) ∨ ∃ s, s < P ∧ sLv (m s) = 0 ∧ ¬ cC c < avl c (m s) ∧ (∀ j, j < s → sLv (m j) ≠ 0 ∨ cC c < avl c (m j)) ∧ Os c (upS m s (opn (m s) pr ho po (cC c))) P A s pr fl z))))
theorem out_m {c : Sc} {m : Nat → Sl} {o : Ob} (h : Sh c m o) {P : Nat} (hP : (cN' c).toInt = P) (h16 : P ≤ 16) {A : Nat} (hA : (cA c).toInt = A) (hA2 : A ≤ 255) (hA3 : HA A) {ho po : Int32} (h0 : 0 ≤ ho.toInt) (h8 : ho.toInt < 8) (p1 : 1 ≤ po.toInt) (p2 : po.toInt ≤ 65535) (pr fl : Int32) : okP (F9 o ho po pr fl) (fun z => (z = (-1, o) ∧ ¬ (Vp pr fl ∧ A ≠ 0)) ∨ ((Vp pr fl ∧ A ≠ 0) ∧ Out c m o P A ho po pr fl z)) := by
 have k := h.sc
 have z0 : (0 : Int32).toInt = 0 := rfl
 have z1 : (1 : Int32).toInt = 1 := rfl
 have z8 : (8 : Int32).toInt = 8 := rfl
 have z65 : (65535 : Int32).toInt = 65535 := rfl
 unfold F9
 rw [if_neg (by rw [i_lt, z0]; omega), if_pos (by rw [i_lt, z8]; omega), if_neg (by rw [i_lt, z1]; omega), if_neg (by rw [i_lt, z65]; omega)]
 rcases vpf_m pr fl with ⟨q, v⟩ | ⟨q, v⟩
 rotate_left
 ·rw [q, Option.bind_some, if_pos rfl]
  exact okP.some (Or.inl ⟨rfl, fun w => v w.1⟩)
 rw [q, Option.bind_some, if_neg (by decide), k.2.2.2.2.2.1]
 refine okP.ite (fun q1 => okP.some (Or.inl ⟨rfl, fun w => ?_⟩)) (fun q1 => ?_)
 ·rw [q1, z0] at hA; omega
 have ok : Vp pr fl ∧ A ≠ 0 := by
  refine ⟨v, fun e => q1 ?_⟩
  rw [i_eq, z0, hA, e]; rfl
 apply okP.bind
 refine okP.mono (find_m h hP h16 pr ho po) ?_
 rintro r (⟨r1, nq⟩ | ⟨i, hi, r1, ki⟩)
 rotate_left
 ·obtain ⟨b1, b2, _⟩ := of_n (i := i) (by omega)
  rw [r1, if_neg b2]
  exact okP.mono (j103 h hP h16 hA hA2 hA3 hi pr fl) (fun z hz => Or.inr ⟨ok, Or.inl ⟨i, hi, ki, hz⟩⟩)
 subst r1
 rw [if_pos (by decide)]
 have go : ¬ (pr = 6 ∧ (fl &&& 1 = 0 ∨ ¬ fl &&& 8 = 0)) → okP (J9_80 o ho po pr fl) (fun z => (z = (-1, o) ∧ ¬ (Vp pr fl ∧ A ≠ 0)) ∨ ((Vp pr fl ∧ A ≠ 0) ∧ Out c m o P A ho po pr fl z)) := by
  intro nt
  unfold J9_80
  apply okP.bind
  refine okP.mono (alloc_m h hP h16) ?_
  rintro r (⟨r1, na⟩ | ⟨i, hi, r1, l0, av, lo⟩)
  ·subst r1
   rw [if_pos (by decide)]
   exact okP.some (Or.inr ⟨ok, Or.inr ⟨nq, Or.inr ⟨nt, Or.inl ⟨rfl, na⟩⟩⟩⟩)
  ·obtain ⟨b1, b2, _⟩ := of_n (i := i) (by omega)
   rw [r1, if_neg b2]
   apply okP.bind
   refine okP.mono (open_m h b1 (by omega) pr ho po) (fun p hp => ?_)
   exact okP.mono (j103 hp hP h16 hA hA2 hA3 hi pr fl) (fun z hz => Or.inr ⟨ok, Or.inr ⟨nq, Or.inr ⟨nt, Or.inr ⟨i, hi, l0, av, lo, hz⟩⟩⟩⟩)
 refine okP.ite (fun e6 => ?_) (fun e6 => go (fun w => e6 w.1))
 refine okP.ite (fun e1 => ?_) (fun e1 => ?_)
 ·exact okP.some (Or.inr ⟨ok, Or.inr ⟨nq, Or.inl ⟨e6, Or.inl e1, rfl⟩⟩⟩)
 refine okP.ite (fun e8 => go ?_) (fun e8 => ?_)
 ·rintro ⟨_, w | w⟩
  ·exact e1 w
  ·exact w e8
 ·exact okP.some (Or.inr ⟨ok, Or.inr ⟨nq, Or.inl ⟨e6, Or.inr e8, rfl⟩⟩⟩)
def sl0 : Sl := (0, 0, 0, 0, 0, 0, 0, 0, fun _ => false)
theorem clamp_m {a b d : Int32} (hbd : b.toInt ≤ d.toInt) : ∃ v, F3 a b d = some v ∧ v = (if a < b then b else if d < a then d else a) ∧ b.toInt ≤ v.toInt ∧ v.toInt ≤ d.toInt := by
 unfold F3
 by_cases q1 : a < b
 ·rw [if_pos q1, if_pos q1]; exact ⟨b, rfl, rfl, by omega, hbd⟩
 ·rw [if_neg q1, if_neg q1]
  by_cases q2 : d < a
  ·rw [if_pos q2, if_pos q2]; exact ⟨d, rfl, rfl, hbd, by omega⟩
  ·rw [if_neg q2, if_neg q2]
   rw [i_lt] at q1 q2
   exact ⟨a, rfl, rfl, by omega, by omega⟩
theorem init_m {a b d e : Int32} : okP (F2 a b d e) (fun o => ∃ n u t w : Int32, Sh (n, u, t, w, 0, 0, 0, -1, -1, -1) (fun _ => sl0) o ∧ n = (if a < 2 then 2 else if 16 < a then 16 else a) ∧ u = (if b < 1 then 1 else if 1000 < b then 1000 else b) ∧ t = (if d < 1 then 1 else if 1000 < d then 1000 else d) ∧ w = (if e < 0 then 0 else if 1000 < e then 1000 else e)) := by
 unfold F2
 obtain ⟨n, hn, n1, _⟩ := clamp_m (a := a) (b := 2) (d := 16) (by decide)
 obtain ⟨u, hu, u1, _⟩ := clamp_m (a := b) (b := 1) (d := 1000) (by decide)
 obtain ⟨t, ht, t1, _⟩ := clamp_m (a := d) (b := 1) (d := 1000) (by decide)
 obtain ⟨w, hw, w1, _⟩ := clamp_m (a := e) (b := 0) (d := 1000) (by decide)
 rw [hn, hu, ht, hw]
 simp only [Option.bind_some]
 refine okP.some ⟨n, u, t, w, ⟨?_, ?_, ?_⟩, n1, u1, t1, w1⟩
 ·dsimp only [scal, f_live, f_used, f_freedAt, f_protoOf, f_hostOf, f_iportOf, f_stateAt, f_deadlineAt, f_perm, f_poolSize, f_udpTimeout, f_tcpTimeout, f_cooldown, f_clock, f_remAddr, f_remPort, f_regHost, f_regPort, f_regExt, s_live, s_used, s_freedAt, s_protoOf, s_hostOf, s_iportOf, s_stateAt, s_deadlineAt, s_perm, s_poolSize, s_udpTimeout, s_tcpTimeout, s_cooldown, s_clock, s_remAddr, s_remPort, s_regHost, s_regPort, s_regExt]
 ·dsimp only [f_live, f_used, f_freedAt, f_protoOf, f_hostOf, f_iportOf, f_stateAt, f_deadlineAt, f_perm, f_poolSize, f_udpTimeout, f_tcpTimeout, f_cooldown, f_clock, f_remAddr, f_remPort, f_regHost, f_regPort, f_regExt, s_live, s_used, s_freedAt, s_protoOf, s_hostOf, s_iportOf, s_stateAt, s_deadlineAt, s_perm, s_poolSize, s_udpTimeout, s_tcpTimeout, s_cooldown, s_clock, s_remAddr, s_remPort, s_regHost, s_regPort, s_regExt]
  exact ⟨List.length_replicate, List.length_replicate, List.length_replicate, List.length_replicate, List.length_replicate, List.length_replicate, List.length_replicate, List.length_replicate, List.length_replicate⟩
 ·intro i hi
  dsimp only [f_live, f_used, f_freedAt, f_protoOf, f_hostOf, f_iportOf, f_stateAt, f_deadlineAt, f_perm, f_poolSize, f_udpTimeout, f_tcpTimeout, f_cooldown, f_clock, f_remAddr, f_remPort, f_regHost, f_regPort, f_regExt, s_live, s_used, s_freedAt, s_protoOf, s_hostOf, s_iportOf, s_stateAt, s_deadlineAt, s_perm, s_poolSize, s_udpTimeout, s_tcpTimeout, s_cooldown, s_clock, s_remAddr, s_remPort, s_regHost, s_regPort, s_regExt]
  have z : (List.replicate 16 (0 : Int32))[i]? = some 0 := by rw [List.getElem?_replicate, if_pos hi]
  rw [z]
  refine ⟨rfl, rfl, rfl, rfl, rfl, rfl, rfl, rfl, fun a ha => ⟨0, ?_, bt6_0 _⟩⟩
  rw [List.getElem?_replicate, if_pos (by omega)]
theorem Sh.fit {c : Sc} {m : Nat → Sl} {o : Ob} (h : Sh c m o) : (f_live o).length = 16 ∧ (f_used o).length = 16 ∧ (f_freedAt o).length = 16 ∧ (f_protoOf o).length = 16 ∧ (f_hostOf o).length = 16 ∧ (f_iportOf o).length = 16 ∧ (f_stateAt o).length = 16 ∧ (f_deadlineAt o).length = 16 ∧ (f_perm o).length = 64 := h.2.1
def Sub (x y : Sl) : Prop := sLv x ≠ 0 → sLv y ≠ 0 ∧ sPr x = sPr y ∧ sHo x = sHo y ∧ sPo x = sPo y
theorem Sub.refl (x : Sl) : Sub x x := fun h => ⟨h, rfl, rfl, rfl⟩
theorem Sub.trans {x y z : Sl} (a : Sub x y) (b : Sub y z) : Sub x z := by
 intro h
 obtain ⟨a1, a2, a3, a4⟩ := a h
 obtain ⟨b1, b2, b3, b4⟩ := b a1
 exact ⟨b1, a2.trans b2, a3.trans b3, a4.trans b4⟩
theorem rl_sub (x : Sl) (t : Int32) (y : Sl) : Sub (rl x t) y := fun h => absurd rfl h
theorem adp_sub (x : Sl) (a : Nat) : Sub (adp x a) x := Sub.refl x
theorem upd_sub (c : Sc) (x : Sl) (fl ib : Int32) : Sub (upd c x fl ib) x := by
 unfold upd
 split
 ·exact Sub.refl x
 ·exact rl_sub _ _ _
theorem adv_sub (c : Sc) (m : Nat → Sl) (P i : Nat) : Sub (adv c m P i) (m i) := by
 unfold adv
 split
 ·exact rl_sub _ _ _
 ·exact Sub.refl _
theorem upS_sub {m : Nat → Sl} {s : Nat} {x : Sl} (h : Sub x (m s)) (i : Nat) : Sub (upS m s x i) (m i) := by
 by_cases e : s = i
 ·subst e; rw [upS_self]; exact h
 ·rw [upS_ne e]; exact Sub.refl _
theorem Sub_lb {x y : Sl} (h : Sub x y) : lb x ≤ lb y := by
 unfold lb
 by_cases a : sLv x = 0
 ·rw [if_pos a]; exact Nat.zero_le _
 ·rw [if_neg a, if_neg (h a).1]; exact Nat.le_refl _
theorem Uq.sub {m m' : Nat → Sl} {P : Nat} (u : Uq m P) (h : ∀ i, i < P → Sub (m' i) (m i)) : Uq m' P := by
 intro i j hi hj a b e1 e2 e3
 obtain ⟨a1, a2, a3, a4⟩ := h i hi a
 obtain ⟨b1, b2, b3, b4⟩ := h j hj b
 exact u i j hi hj a1 b1 (a2.symm.trans (e1.trans b2)) (a3.symm.trans (e2.trans b3)) (a4.symm.trans (e3.trans b4))
theorem Uq.open {m : Nat → Sl} {P s : Nat} (u : Uq m P) {pr ho po t : Int32} (no : ∀ i, i < P → ¬ Key pr ho po (m i)) : Uq (upS m s (opn (m s) pr ho po t)) P := by
 intro i j hi hj a b e1 e2 e3
 by_cases x : s = i
 ·by_cases y : s = j
  ·omega
  ·subst x
   rw [upS_self, upS_ne y] at e1 e2 e3
   rw [upS_ne y] at b
   exact absurd ⟨b, e1.symm, e2.symm, e3.symm⟩ (no j hj)
 ·by_cases y : s = j
  ·subst y
   rw [upS_self, upS_ne x] at e1 e2 e3
   rw [upS_ne x] at a
   exact absurd ⟨a, e1, e2, e3⟩ (no i hi)
  ·rw [upS_ne x] at a e1 e2 e3
   rw [upS_ne y] at b e1 e2 e3
   exact u i j hi hj a b e1 e2 e3
theorem upd_0 {c : Sc} {x : Sl} {fl ib : Int32} (h : fl &&& 8 = 0) : upd c x fl ib = sst x (nst (sSt x) fl ib) (cC c + tmo' c (nst (sSt x) fl ib)) := if_pos h
theorem upd_1 {c : Sc} {x : Sl} {fl ib : Int32} (h : ¬ fl &&& 8 = 0) : upd c x fl ib = rl x (cC c) := if_neg h

def Fl8 (w : Int64) (k : Nat) (v : Int32) : Prop := ∀ b : Int32, b.toInt = (8 * k : Nat) → (XT.ushrL w b) &&& 255 = v.toInt64
def Fl6 (w : Int64) (k : Nat) (v : Int32) : Prop := ∀ b : Int32, b.toInt = (16 * k : Nat) → (XT.ushrL w b) &&& 65535 = v.toInt64
theorem toN {v : Int32} {n : Nat} (h : v.toInt = n) : v.toInt64.toBitVec.toNat = n := by
 have e : v.toInt64.toInt = n := by rw [Int32.toInt_toInt64, h]
 have c : v.toInt64.toInt = if 2 * v.toInt64.toBitVec.toNat < 2 ^ 64 then (v.toInt64.toBitVec.toNat : Int) else v.toInt64.toBitVec.toNat - (2 ^ 64 : Nat) := BitVec.toInt_eq_toNat_cond v.toInt64.toBitVec
 have l : v.toInt64.toBitVec.toNat < 2 ^ 64 := v.toInt64.toBitVec.isLt
 split at c <;> omega
theorem mk {v : Int32} {n : Nat} (h : v.toInt = n) {w : Nat} (hw : n < 2 ^ w) {M : Int64} (hM : M.toBitVec.toNat = 2 ^ w - 1) : v.toInt64 &&& M = v.toInt64 := by
 apply Int64.toBitVec_inj.1
 apply BitVec.eq_of_toNat_eq
 show (v.toInt64.toBitVec &&& M.toBitVec).toNat = _
 rw [BitVec.toNat_and, hM, toN h, Nat.and_two_pow_sub_one_eq_mod, Nat.mod_eq_of_lt hw]
theorem mul_i {a : Int32} {n : Nat} (ha : a.toInt = n) (hn : n ≤ 16) {x : Int32} {i : Nat} (h : x.toInt = i) (hi : i < 4) : (a * x).toInt = (n * i : Nat) := by
 have b : (n : Int) * (i : Int) ≤ 16 * 4 := Int.mul_le_mul (by omega) (by omega) (by omega) (by omega)
 have b0 : 0 ≤ (n : Int) * (i : Int) := Int.mul_nonneg (by omega) (by omega)
 rw [i_mul (by rw [ha, h]; omega) (by rw [ha, h]; omega), ha, h, Int.natCast_mul]
theorem set8_m (w : Int64) {x v : Int32} {i : Nat} (h : x.toInt = i) (hi : i < 4) {n : Nat} (hv : v.toInt = n) (h1 : n < 256) : ∃ w', F24 w x v = some w' ∧ Fl8 w' i v ∧ ∀ k, k < 4 → k ≠ i → ∀ u, Fl8 w k u → Fl8 w' k u := by
 have a1 := mul_i (a := 8) (n := 8) rfl (by decide) h hi
 have b2 : v.toInt64.toBitVec.toNat < 2 ^ 8 := by rw [toN hv]; exact h1
 unfold F24
 rw [mk hv (w := 8) (by omega) (M := 255) rfl]
 refine ⟨_, rfl, fun b hb => ?_, fun k hk nk u hu b hb => ?_⟩
 ·rw [fput 8 255 rfl w v.toInt64 b2 a1 hb (by decide) (by decide) (by omega) (by omega) (Or.inl rfl), if_pos rfl]
 ·rw [fput 8 255 rfl w v.toInt64 b2 a1 hb (by decide) (by decide) (by omega) (by omega) (by omega), if_neg (by omega)]
  exact hu b hb
theorem set6_m (w : Int64) {x v : Int32} {i : Nat} (h : x.toInt = i) (hi : i < 4) {n : Nat} (hv : v.toInt = n) (h1 : n < 65536) : ∃ w', F28 w x v = some w' ∧ Fl6 w' i v ∧ ∀ k, k < 4 → k ≠ i → ∀ u, Fl6 w k u → Fl6 w' k u := by
 have a1 := mul_i (a := 16) (n := 16) rfl (by decide) h hi
 have b2 : v.toInt64.toBitVec.toNat < 2 ^ 16 := by rw [toN hv]; exact h1
 unfold F28
 rw [mk hv (w := 16) (by omega) (M := 65535) rfl]
 refine ⟨_, rfl, fun b hb => ?_, fun k hk nk u hu b hb => ?_⟩
 ·rw [fput 16 65535 rfl w v.toInt64 b2 a1 hb (by decide) (by decide) (by omega) (by omega) (Or.inl rfl), if_pos rfl]
 ·rw [fput 16 65535 rfl w v.toInt64 b2 a1 hb (by decide) (by decide) (by omega) (by omega) (by omega), if_neg (by omega)]
  exact hu b hb
theorem get8_m {w : Int64} {x v : Int32} {i : Nat} (h : x.toInt = i) (hi : i < 4) (f : Fl8 w i v) : F34 w x = some v := by
 unfold F34
 rw [f _ (mul_i (a := 8) (n := 8) rfl (by decide) h hi), Int32.toInt32_toInt64]
theorem get6_m {w : Int64} {x v : Int32} {i : Nat} (h : x.toInt = i) (hi : i < 4) (f : Fl6 w i v) : F23 w x = some v := by
 unfold F23
 rw [f _ (mul_i (a := 16) (n := 16) rfl (by decide) h hi), Int32.toInt32_toInt64]
def cod (h p : Int32) : Int32 := ((128 : Int32) ||| (h <<< ((3 : Int32) &&& 31))) ||| (p - 1)
theorem cod_m {h p : Int32} (h0 : 0 ≤ h.toInt) (h7 : h.toInt ≤ 7) (p1 : 1 ≤ p.toInt) (p8 : p.toInt ≤ 8) : (∃ n : Nat, (cod h p).toInt = n ∧ n < 256) ∧ ¬ cod h p &&& 128 = 0 ∧ (XT.ushr (cod h p) 3) &&& 7 = h ∧ (cod h p &&& 7) + 1 = p := by
 have k1 : ∀ a : Fin 8, ∀ b : Fin 9, b.1 = 0 ∨ (0 ≤ (cod (Int32.ofInt a.1) (Int32.ofInt b.1)).toInt ∧ (cod (Int32.ofInt a.1) (Int32.ofInt b.1)).toInt < 256) := by decide +kernel
 have k2 : ∀ a : Fin 8, ∀ b : Fin 9, b.1 = 0 ∨ ¬ cod (Int32.ofInt a.1) (Int32.ofInt b.1) &&& 128 = 0 := by decide +kernel
 have k3 : ∀ a : Fin 8, ∀ b : Fin 9, b.1 = 0 ∨ (XT.ushr (cod (Int32.ofInt a.1) (Int32.ofInt b.1)) 3) &&& 7 = Int32.ofInt a.1 := by decide +kernel
 have k4 : ∀ a : Fin 8, ∀ b : Fin 9, b.1 = 0 ∨ (cod (Int32.ofInt a.1) (Int32.ofInt b.1) &&& 7) + 1 = Int32.ofInt b.1 := by decide +kernel
 have eh : h = Int32.ofInt (h.toInt.toNat : Nat) := ofI (by omega)
 have ep : p = Int32.ofInt (p.toInt.toNat : Nat) := ofI (by omega)
 rw [eh, ep]
 obtain ⟨a, ha⟩ : ∃ a : Fin 8, a.1 = h.toInt.toNat := ⟨⟨h.toInt.toNat, by omega⟩, rfl⟩
 obtain ⟨b, hb⟩ : ∃ b : Fin 9, b.1 = p.toInt.toNat := ⟨⟨p.toInt.toNat, by omega⟩, rfl⟩
 have nb : ¬ b.1 = 0 := by omega
 rw [← ha, ← hb]
 have w := (k1 a b).resolve_left nb
 exact ⟨⟨_, (Int.toNat_of_nonneg w.1).symm, by omega⟩, (k2 a b).resolve_left nb, (k3 a b).resolve_left nb, (k4 a b).resolve_left nb⟩
def LP (t : Int32) (x : Sl) : Prop := sLv x ≠ 0 → (0 ≤ (sHo x).toInt ∧ (sHo x).toInt ≤ 7) ∧ (1 ≤ (sPo x).toInt ∧ (sPo x).toInt ≤ 8) ∧ ((sPr x = 17 ∧ sSt x = 0) ∨ (sPr x = 6 ∧ (sSt x = 1 ∨ sSt x = 2 ∨ sSt x = 3))) ∧ 0 ≤ (sDl x).toInt ∧ (sDl x).toInt ≤ t.toInt + 32
def Cf (c : Sc) (P : Nat) : Prop := ((cN' c).toInt = P ∧ 2 ≤ P ∧ P ≤ 4) ∧ (1 ≤ (cU c).toInt ∧ (cU c).toInt ≤ 32) ∧ (1 ≤ (cT c).toInt ∧ (cT c).toInt ≤ 32) ∧ (0 ≤ (cO c).toInt ∧ (cO c).toInt ≤ 31) ∧ 0 ≤ (cC c).toInt ∧ (cC c).toInt ≤ 3000
theorem tmo_r {c : Sc} {P : Nat} (h : Cf c P) (st : Int32) : 1 ≤ (tmo' c st).toInt ∧ (tmo' c st).toInt ≤ 32 := by
 unfold tmo'
 split
 ·exact h.2.1
 split
 ·exact h.2.2.1
 ·decide
theorem lp_upd {c : Sc} {P : Nat} (h : Cf c P) {x : Sl} (l : LP (cC c) x) {fl ib : Int32} (v : Vp (sPr x) fl) (hb : ib = 0 ∨ ib = 1) : LP (cC c) (upd c x fl ib) := by
 by_cases f8 : fl &&& 8 = 0
 ·rw [upd_0 f8]
  intro lv
  obtain ⟨l1, l2, l3, l4⟩ := l lv
  have tr := tmo_r h (nst (sSt x) fl ib)
  have tc := h.2.2.2.2
  refine ⟨l1, l2, ?_, ?_⟩
  ·show (sPr x = 17 ∧ nst (sSt x) fl ib = 0) ∨ (sPr x = 6 ∧ (nst (sSt x) fl ib = 1 ∨ nst (sSt x) fl ib = 2 ∨ nst (sSt x) fl ib = 3))
   rcases l3 with ⟨p, s⟩ | ⟨p, s⟩
   ·left
    refine ⟨p, ?_⟩
    rcases v with ⟨_, f⟩ | ⟨f, _⟩
    ·rw [f, s]
     rcases hb with e | e <;> rw [e] <;> decide
    ·rw [p] at f; exact absurd f (by decide)
   ·right
    refine ⟨p, ?_⟩
    unfold nst
    rcases s with s | s | s <;> rw [s] <;> (repeat' split) <;> simp
  ·show 0 ≤ (cC c + tmo' c _).toInt ∧ (cC c + tmo' c _).toInt ≤ (cC c).toInt + 32
   rw [i_add (by omega) (by omega)]; omega
 ·rw [upd_1 f8]
  exact fun w => absurd rfl w
def Rl (t : Int32) (x y : Sl) : Prop := Sub x y ∧ (sLv x = 0 → (sLv y = 0 ∧ sUs x = sUs y ∧ sFr x = sFr y) ∨ (sLv y ≠ 0 ∧ sUs x = 1 ∧ sFr x = t))
theorem Rl.refl (t : Int32) (x : Sl) : Rl t x x := ⟨Sub.refl x, fun h => Or.inl ⟨h, rfl, rfl⟩⟩
theorem Rl.trans {t : Int32} {x y z : Sl} (a : Rl t x y) (b : Rl t y z) : Rl t x z := by
 refine ⟨a.1.trans b.1, fun h => ?_⟩
 rcases a.2 h with ⟨y0, u, f⟩ | ⟨y1, u, f⟩
 ·rcases b.2 y0 with ⟨z0, u2, f2⟩ | ⟨z1, u2, f2⟩
  ·exact Or.inl ⟨z0, u.trans u2, f.trans f2⟩
  ·exact Or.inr ⟨z1, u.trans u2, f.trans f2⟩
 ·exact Or.inr ⟨(b.1 y1).1, u, f⟩
theorem rl_upd {c : Sc} {x y : Sl} (lv : sLv x ≠ 0) (hx : Rl (cC c) x y) (fl ib : Int32) : Rl (cC c) (upd c x fl ib) y := by
 refine Rl.trans (y := x) ⟨upd_sub _ _ _ _, fun h => ?_⟩ hx
 by_cases f8 : fl &&& 8 = 0
 ·rw [upd_0 f8] at h
  exact absurd h lv
 ·rw [upd_1 f8]
  exact Or.inr ⟨lv, rfl, rfl⟩
theorem rl_up {t : Int32} {m m0 : Nat → Sl} {s : Nat} {x : Sl} (h : ∀ i, Rl t (m i) (m0 i)) (hx : Rl t x (m0 s)) (i : Nat) : Rl t (upS m s x i) (m0 i) := by
 by_cases e : s = i
 ·subst e; rw [upS_self]; exact hx
 ·rw [upS_ne e]; exact h i
theorem os_m {N U T C t a q h p e pr fl : Int32} {m : Nat → Sl} {P A s : Nat} {r : Int32} {z : Ob} (cf : Cf (N, U, T, C, t, a, q, h, p, e) P) (hs : s < P) (lv : sLv (m s) ≠ 0) (hp : sPr (m s) = pr) (v : Vp pr fl) (lp : ∀ i, i < P → LP t (m i)) (os : Os (N, U, T, C, t, a, q, h, p, e) m P A s pr fl (r, z)) : ∃ m2 h' p', Sh (N, U, T, C, t, a, q, h', p', 5000 + Int32.ofInt (s : Nat)) m2 z ∧ (∀ i, Rl t (m2 i) (m i)) ∧ (∀ i, i < P → LP t (m2 i)) ∧ (fl &&& 8 = 0 → ∀ i, sLv (m i) ≠ 0 → sLv (m2 i) ≠ 0) ∧ (r = 1 ∨ r = 3 ∨ r = 4) ∧ (r = 3 → ∃ i : Nat, i < P ∧ q.toInt = 5000 + i ∧ sLv (m i) ≠ 0 ∧ h' = sHo (m i) ∧ p' = sPo (m i)) := by
 have lp1 : LP t (upd (N, U, T, C, t, a, q, h, p, e) (adp (m s) A) fl 0) := lp_upd cf (x := adp (m s) A) (lp s hs) (by show Vp (sPr (m s)) fl; rw [hp]; exact v) (Or.inl rfl)
 have rl1 : Rl t (upd (N, U, T, C, t, a, q, h, p, e) (adp (m s) A) fl 0) (m s) := rl_upd (c := (N, U, T, C, t, a, q, h, p, e)) (x := adp (m s) A) lv ⟨Sub.refl _, fun h => absurd h lv⟩ fl 0
 have rls := rl_up (m := m) (m0 := m) (fun i => Rl.refl t (m i)) rl1
 have lps : ∀ i, i < P → LP t (upS m s (upd (N, U, T, C, t, a, q, h, p, e) (adp (m s) A) fl 0) i) := by
  intro i hi
  by_cases e : s = i
  ·subst e; rw [upS_self]; exact lp1
  ·rw [upS_ne e]; exact lp i hi
 have kps : fl &&& 8 = 0 → ∀ i, sLv (m i) ≠ 0 → sLv (upS m s (upd (N, U, T, C, t, a, q, h, p, e) (adp (m s) A) fl 0) i) ≠ 0 := by
  intro f8 i li
  by_cases e : s = i
  ·subst e; rw [upS_self, upd_0 f8]; exact li
  ·rw [upS_ne e]; exact li
 rcases os with ⟨_, r1, S⟩ | ⟨_, hz⟩
 ·exact ⟨_, _, _, S, rls, lps, kps, Or.inl r1, fun w => by rw [show r = 1 from r1] at w; exact absurd w (by decide)⟩
 ·rcases hz with ⟨r1, S⟩ | ⟨r1, i, hi, qi, li, pi, _, S⟩
  ·exact ⟨_, _, _, S, rls, lps, kps, Or.inr (Or.inr r1), fun w => by rw [show r = 4 from r1] at w; exact absurd w (by decide)⟩
  ·generalize upS m s (upd (N, U, T, C, t, a, q, h, p, e) (adp (m s) A) fl 0) = m1 at *
   have sb := (rls i).1 li
   refine ⟨_, _, _, S, rl_up rls (rl_upd (c := wR (N, U, T, C, t, a, q, h, p, e) (cH (N, U, T, C, t, a, q, h, p, e)) (cR (N, U, T, C, t, a, q, h, p, e)) (5000 + Int32.ofInt (s : Nat))) li (rls i) fl 1), ?_, ?_, Or.inr (Or.inl r1), fun _ => ⟨i, hi, qi, sb.1, sb.2.2.1, sb.2.2.2⟩⟩
   ·intro j hj
    by_cases e : i = j
    ·subst e
     rw [upS_self]
     exact lp_upd (c := wR (N, U, T, C, t, a, q, h, p, e) (cH (N, U, T, C, t, a, q, h, p, e)) (cR (N, U, T, C, t, a, q, h, p, e)) (5000 + Int32.ofInt (s : Nat))) cf (lps i hi) (by rw [pi]; exact v) (Or.inr rfl)
    ·rw [upS_ne e]; exact lps j hj
   ·intro f8 j lj
    by_cases e : i = j
    ·subst e; rw [upS_self, upd_0 f8]; exact kps f8 i lj
    ·rw [upS_ne e]; exact kps f8 j lj
def Ow (w : Int64) (m : Nat → Sl) (P : Nat) : Prop := ∀ i, i < P → sLv (m i) ≠ 0 → Fl8 w i (cod (sHo (m i)) (sPo (m i)))
def Al (w : Int64) (c : Sc) (m : Nat → Sl) (P : Nat) : Prop := ∀ i, i < P → sLv (m i) = 0 → Fl6 w i (avl c (m i))
theorem Ow.sub {w : Int64} {m m' : Nat → Sl} {P : Nat} (h : Ow w m P) (s : ∀ i, i < P → Sub (m' i) (m i)) : Ow w m' P := by
 intro i hi li
 obtain ⟨a1, a2, a3, a4⟩ := s i hi li
 rw [a3, a4]
 exact h i hi a1
theorem own_m {w : Int64} {m : Nat → Sl} {P : Nat} (P4 : P ≤ 4) (h : Ow w m P) {t : Int32} (lp : ∀ i, i < P → LP t (m i)) {i : Nat} (hi : i < P) (li : sLv (m i) ≠ 0) {x n : Int32} (hx : x.toInt = i) (hn : n.toInt = P) : F33 w x n (sHo (m i)) (sPo (m i)) = some 1 := by
 have z0 : (0 : Int32).toInt = 0 := rfl
 obtain ⟨l1, l2, _⟩ := lp i hi li
 obtain ⟨_, k2, k3, k4⟩ := cod_m l1.1 l1.2 l2.1 l2.2
 unfold F33
 rw [if_neg (by rw [i_lt, z0]; omega), if_pos (by rw [i_lt]; omega), get8_m hx (by omega) (h i hi li), Option.bind_some, if_neg k2, if_pos k3, if_pos k4]
def Acc (N U T C : Int32) (P : Nat) (ow al : Int64) (q k : Int32) (o : Ob) : Prop := ∃ t a h p e m, Sh (N, U, T, C, t, a, q, h, p, e) m o ∧ Cf (N, U, T, C, t, a, q, h, p, e) P ∧ t.toInt ≤ 8 * k.toInt ∧ (0 ≤ a.toInt ∧ a.toInt ≤ 255) ∧ Uq m P ∧ (∀ i, i < P → LP t (m i)) ∧ Ow ow m P ∧ Al al (N, U, T, C, t, a, q, h, p, e) m P
abbrev QV := Int64 × Int64 × Int32 × Int32 × Ob
def Po (s : List Int32) (N U T C : Int32) (P : Nat) (k : Int32) (r : (Int32 × QHeap) ⊕ QV) : Prop := Sum.elim (fun e => e.1 = 1 ∧ sFit s e.2) (fun w : QV => (0 ≤ w.2.2.2.1.toInt ∧ w.2.2.2.1.toInt ≤ 262 ∧ Acc N U T C P w.1 w.2.1 w.2.2.1 w.2.2.2.1 w.2.2.2.2) ∧ (300 - w.2.2.2.1.toInt).toNat < (300 - k.toInt).toNat) r
def Mk (m : Nat → Sl) (P : Nat) (lv : Int32) (dl : Int64) : Prop := ∀ i, i < P → bt lv i = !decide (sLv (m i) = 0) ∧ (sLv (m i) ≠ 0 → Fl6 dl i (sDl (m i)))
theorem p5 {v : Int32} {i : Nat} (h : v.toInt = i) (hi : i < 16) : ((5000 : Int32) + v).toInt = 5000 + i ∧ (5000 : Int32) + v = 5000 + Int32.ofInt (i : Nat) := by
 have z5 : (5000 : Int32).toInt = 5000 := rfl
 exact ⟨by rw [i_add (by omega) (by omega), z5, h], by rw [← ofI h]⟩
theorem marks {s : List Int32} {c : Sc} {m : Nat → Sl} {o : Ob} (S : Sh c m o) {P : Nat} (hP : (cN' c).toInt = P) (P4 : P ≤ 4) {t : Int32} (t1 : t.toInt ≤ 3000) (lp : ∀ i, i < P → LP t (m i)) {N x6 : Int32} (hN : N.toInt = P) {x8 x10 : Int64} {x12 x13 x14 x15 x16 : Int32} : okP (loopN (B0_126 s o N x6 x8 x10 x12 x13 x14 x15 x16) qN (0, 0, 0)) (fun e => Mk m P e.1 e.2) := by
 have z0 : (0 : Int32).toInt = 0 := rfl
 refine okP.loop (fun v => ∃ n : Nat, v.2.2.toInt = n ∧ n ≤ P ∧ Mk m n v.1 v.2.1 ∧ ∀ j, n ≤ j → j < 32 → bt v.1 j = false) (fun v => (P - v.2.2.toInt).toNat) ⟨0, rfl, Nat.zero_le _, fun i hi => absurd hi (Nat.not_lt_zero _), fun j _ _ => bt_0 j⟩ (by show ((P : Int) - 0).toNat < 4000; omega) ?_
 rintro ⟨lv, dl, v⟩ ⟨n, hv, nP, mk', hb⟩
 simp only at hv mk' hb
 unfold B0_126
 simp only
 refine okP.ite (fun cc => ?_) (fun cc => ?_)
 ·rw [i_lt, hN] at cc
  have e1 : (v + 1).toInt = v.toInt + 1 := inc1 (by omega)
  obtain ⟨y5, _⟩ := p5 hv (by omega)
  by_cases ln : sLv (m n) = 0
  ·have g : Gone m P (5000 + v) := by
    intro j hj yj
    have : j = n := by omega
    rw [this]; exact ln
   rw [iho_no S hP (by omega) g, Option.bind_some, if_pos (by decide)]
   refine okP.some ⟨⟨n + 1, by simp only; omega, by omega, fun i hi => ?_, fun j hj h32 => hb j (by omega) h32⟩, by simp only; omega⟩
   by_cases e : i = n
   ·subst e
    exact ⟨by simp only; rw [hb i (Nat.le_refl _) (by omega), ln]; rfl, fun w => absurd ln w⟩
   ·exact mk' i (by omega)
  ·obtain ⟨l1, l2, l3, l4⟩ := lp n (by omega) ln
   rw [iho_yes S hP (by omega) (i := n) (by omega) y5 ln, Option.bind_some, if_neg (by rw [i_lt, z0]; omega), dlo_yes S hP (by omega) (i := n) (by omega) y5 ln, Option.bind_some]
   obtain ⟨w, w1, w2, w3⟩ := set6_m dl hv (by omega) (v := sDl (m n)) (n := (sDl (m n)).toInt.toNat) (by omega) (by omega)
   rw [w1, Option.bind_some]
   refine okP.some ⟨⟨n + 1, by simp only; omega, by omega, fun i hi => ?_, fun j hj h32 => ?_⟩, by simp only; omega⟩
   ·simp only
    rw [bt_or, bt_one hv (by omega) (by omega)]
    by_cases e : i = n
    ·subst e
     exact ⟨by simp [ln], fun _ => w2⟩
    ·obtain ⟨b1, b2⟩ := mk' i (by omega)
     exact ⟨by rw [b1, decide_eq_false e, Bool.or_false], fun li => w3 i (by omega) e _ (b2 li)⟩
   ·simp only
    rw [bt_or, bt_one hv (by omega) h32, hb j (by omega) h32, decide_eq_false (by omega)]; rfl
 ·rw [i_lt, hN] at cc
  have : n = P := by omega
  subst this
  exact okP.some mk'
theorem j602 {s : List Int32} {N U T C t a q h p e : Int32} {P : Nat} {m m' : Nat → Sl} {o : Ob} {ow al dl : Int64} {k op lv : Int32} (S : Sh (N, U, T, C, t, a, q, h, p, e) m' o) (cf : Cf (N, U, T, C, t, a, q, h, p, e) P) (tk : t.toInt ≤ 8 * k.toInt + 15) (ha : 0 ≤ a.toInt ∧ a.toInt ≤ 255) (u : Uq m' P) (lp : ∀ i, i < P → LP t (m' i)) (ho : Ow ow m' P) (hal : ∀ i, i < P → sLv (m i) = 0 → Fl6 al i (if sUs (m i) = 0 then 0 else sFr (m i) + C)) (mk' : Mk m P lv dl) (lp0 : ∀ i, i < P → LP t (m i)) (fr : ∀ i, i < P → sLv (m' i) = 0 → (sLv (m i) = 0 ∧ sUs (m' i) = sUs (m i) ∧ sFr (m' i) = sFr (m i)) ∨ (sLv (m i) ≠ 0 ∧ sUs (m' i) = 1 ∧ sFr (m' i) = (if op = 3 then sDl (m i) else t))) (k0 : 0 ≤ k.toInt) (k1 : k.toInt ≤ 260) : okP (J0_602 s o N C ow al q k op lv dl) (Po s N U T C P k) := by
 obtain ⟨⟨hN, P2, P4⟩, cU', cT', cC', ct⟩ := id cf
 have hN' : N.toInt = P := hN
 have hC : 0 ≤ C.toInt ∧ C.toInt ≤ 31 := cC'
 have ht : 0 ≤ t.toInt ∧ t.toInt ≤ 3000 := ct
 have z0 : (0 : Int32).toInt = 0 := rfl
 have z2 : (2 : Int32).toInt = 2 := rfl
 unfold J0_602 F11
 rw [Option.bind_some, show f_clock o = t from S.sc.2.2.2.2.1]
 apply okP.bind
 refine okP.mono (P := fun z => Ow z.1 m' P ∧ Al z.2 (N, U, T, C, t, a, q, h, p, e) m' P) ?_ ?_
 ·refine okP.loop (fun v => ∃ n : Nat, v.2.2.toInt = n ∧ n ≤ P ∧ Ow v.1 m' P ∧ (∀ i, i < n → sLv (m' i) = 0 → Fl6 v.2.1 i (avl (N, U, T, C, t, a, q, h, p, e) (m' i))) ∧ ∀ i, n ≤ i → i < P → sLv (m i) = 0 → Fl6 v.2.1 i (if sUs (m i) = 0 then 0 else sFr (m i) + C)) (fun v => (P - v.2.2.toInt).toNat) ⟨0, rfl, Nat.zero_le _, ho, fun i hi => absurd hi (Nat.not_lt_zero _), fun i _ hi => hal i hi⟩ (by show ((P : Int) - 0).toNat < 4000; omega) ?_
  rintro ⟨w, al', v⟩ ⟨n, hv, nP, ho', h1, h2⟩
  simp only at hv ho' h1 h2
  unfold B0_612
  simp only
  refine okP.ite (fun cc => ?_) (fun cc => ?_)
  ·rw [i_lt, hN'] at cc
   have e1 : (v + 1).toInt = v.toInt + 1 := inc1 (by omega)
   obtain ⟨y5, _⟩ := p5 hv (by omega)
   obtain ⟨b1, b2⟩ := mk' n (by omega)
   rw [bt_ushr lv hv (by omega), b1]
   have stay : (sLv (m' n) = 0 → sLv (m n) = 0) → okP (J0_686 s o N C w al' q k op lv dl t v) (fun r => Sum.elim (fun z : Int64 × Int64 => Ow z.1 m' P ∧ Al z.2 (N, U, T, C, t, a, q, h, p, e) m' P) (fun v' : Int64 × Int64 × Int32 => (∃ n : Nat, v'.2.2.toInt = (n : Int) ∧ n ≤ P ∧ Ow v'.1 m' P ∧ (∀ i, i < n → sLv (m' i) = 0 → Fl6 v'.2.1 i (avl (N, U, T, C, t, a, q, h, p, e) (m' i))) ∧ ∀ i, n ≤ i → i < P → sLv (m i) = 0 → Fl6 v'.2.1 i (if sUs (m i) = 0 then 0 else sFr (m i) + C)) ∧ ((P : Int) - v'.2.2.toInt).toNat < ((P : Int) - v.toInt).toNat) r) := by
    intro imp
    refine okP.some ⟨⟨n + 1, by simp only; omega, by omega, ho', fun i hi l0 => ?_, fun i hi hp' => h2 i (by omega) hp'⟩, by simp only; omega⟩
    by_cases e : i = n
    ·subst e
     have m0 := imp l0
     rcases fr i (by omega) l0 with ⟨_, u1, f1⟩ | ⟨w', _⟩
     ·unfold avl
      rw [u1, f1]
      exact h2 i (Nat.le_refl _) (by omega) m0
     ·exact absurd m0 w'
    ·exact h1 i (by omega) l0
   by_cases ln : sLv (m n) = 0
   ·rw [decide_eq_true ln, if_pos (by decide)]
    exact stay (fun _ => ln)
   ·rw [decide_eq_false ln, if_neg (by decide)]
    by_cases ln' : sLv (m' n) = 0
    ·have g : Gone m' P (5000 + v) := by
      intro j hj yj
      have : j = n := by omega
      rw [this]; exact ln'
     rw [iho_no S hN (by omega) g, Option.bind_some, if_pos (by decide)]
     obtain ⟨w', w1, w2, w3⟩ := set8_m w hv (by omega) (v := 0) (n := 0) rfl (by decide)
     rw [w1, Option.bind_some]
     obtain ⟨us, fz⟩ := (fr n (by omega) ln').resolve_left (fun x => ln x.1) |>.2
     have go : ∀ f : Int32, f = sFr (m' n) → 0 ≤ f.toInt → f.toInt ≤ 4000 → okP (J0_670 s o N C w' al' q k op lv dl t v f) (fun r => Sum.elim (fun z : Int64 × Int64 => Ow z.1 m' P ∧ Al z.2 (N, U, T, C, t, a, q, h, p, e) m' P) (fun v' : Int64 × Int64 × Int32 => (∃ n : Nat, v'.2.2.toInt = (n : Int) ∧ n ≤ P ∧ Ow v'.1 m' P ∧ (∀ i, i < n → sLv (m' i) = 0 → Fl6 v'.2.1 i (avl (N, U, T, C, t, a, q, h, p, e) (m' i))) ∧ ∀ i, n ≤ i → i < P → sLv (m i) = 0 → Fl6 v'.2.1 i (if sUs (m i) = 0 then 0 else sFr (m i) + C)) ∧ ((P : Int) - v'.2.2.toInt).toNat < ((P : Int) - v.toInt).toNat) r) := by
      intro f hf f0 f1
      have fc : (f + C).toInt = f.toInt + C.toInt := i_add (by omega) (by omega)
      obtain ⟨x', x1, x2, x3⟩ := set6_m al' hv (by omega) (v := f + C) (n := (f + C).toInt.toNat) (by omega) (by omega)
      unfold J0_670
      rw [x1, Option.bind_some]
      refine okP.some ⟨⟨n + 1, by simp only; omega, by omega, fun i hi li => ?_, fun i hi l0 => ?_, fun i hi hp' l0 => ?_⟩, by simp only; omega⟩
      ·by_cases e : i = n
       ·subst e; exact absurd ln' li
       ·exact w3 i (by omega) e _ (ho' i hi li)
      ·by_cases e : i = n
       ·subst e
        have : avl (N, U, T, C, t, a, q, h, p, e) (m' i) = f + C := by
         unfold avl
         rw [us, if_neg (by decide), hf]; rfl
        simp only
        rw [this]; exact x2
       ·exact x3 i (by omega) e _ (h1 i (by omega) l0)
      ·exact x3 i (by omega) (by omega) _ (h2 i (by omega) hp' l0)
     by_cases o3 : op = 3
     ·rw [if_pos o3] at fz ⊢
      obtain ⟨_, _, _, d0, d1⟩ := lp0 n (by omega) ln
      rw [get6_m hv (by omega) (b2 ln), Option.bind_some]
      exact go _ fz.symm d0 (by omega)
     ·rw [if_neg o3] at fz ⊢
      exact go _ fz.symm ht.1 (by omega)
    ·obtain ⟨l1, _⟩ := lp n (by omega) ln'
     rw [iho_yes S hN (by omega) (i := n) (by omega) y5 ln', Option.bind_some, if_neg (by rw [i_lt, z0]; omega)]
     exact stay (fun x => absurd x ln')
  ·rw [i_lt, hN'] at cc
   have : n = P := by omega
   subst this
   exact okP.some ⟨ho', h1⟩
 ·rintro ⟨w, al'⟩ ⟨ho', h1⟩
  simp only at ho' h1 ⊢
  apply okP.bind
  refine okP.mono (P := fun z => z = .inl ()) ?_ ?_
  ·refine okP.loop (fun v => ∃ n : Nat, v.toInt = n ∧ n ≤ P) (fun v => (P - v.toInt).toNat) ⟨0, rfl, Nat.zero_le _⟩ (by show ((P : Int) - 0).toNat < 4000; omega) ?_
   rintro v ⟨n, hv, nP⟩
   unfold B0_695
   refine okP.ite (fun cc => ?_) (fun _ => okP.some rfl)
   rw [i_lt, hN'] at cc
   have e1 : (v + 1).toInt = v.toInt + 1 := inc1 (by omega)
   obtain ⟨y5, y6⟩ := p5 hv (by omega)
   have fin : okP (J0_766 s o N C w al' q k v) (fun r => Sum.elim (fun z : Unit ⊕ (Int32 × QHeap) => z = .inl ()) (fun v' : Int32 => (∃ n : Nat, v'.toInt = (n : Int) ∧ n ≤ P) ∧ ((P : Int) - v'.toInt).toNat < ((P : Int) - v.toInt).toNat) r) := okP.some ⟨⟨n + 1, by omega, by omega⟩, by omega⟩
   by_cases ln : sLv (m' n) = 0
   ·have g : Gone m' P (5000 + v) := by
     intro j hj yj
     have : j = n := by omega
     rw [this]; exact ln
    rw [iho_no S hN (by omega) g, Option.bind_some, if_pos (by decide)]
    exact fin
   ·obtain ⟨l1, l2, l3, _⟩ := lp n (by omega) ln
    rw [iho_yes S hN (by omega) (i := n) (by omega) y5 ln, Option.bind_some, if_neg (by rw [i_lt, z0]; omega), sto_yes S hN (by omega) (i := n) (by omega) y5 ln, Option.bind_some, ipo_yes S hN (by omega) (i := n) (by omega) y5 ln, Option.bind_some]
    have pe : (if sSt (m' n) < 1 then (17 : Int32) else 6) = sPr (m' n) := by
     rcases l3 with ⟨a1, a2⟩ | ⟨a1, a2⟩
     ·rw [a2, a1, if_pos (by decide)]
     ·rw [a1]
      rcases a2 with a2 | a2 | a2 <;> rw [a2, if_neg (by decide)]
    rw [pe, ext_yes S hN (by omega) u (i := n) (by omega) ⟨ln, rfl, rfl, rfl⟩, Option.bind_some, if_pos y6.symm]
    exact fin
  ·rintro _ rfl
   have k2 : (k + 2).toInt = k.toInt + 2 := by rw [i_add (by omega) (by omega), z2]
   refine okP.some ?_
   show (0 ≤ (k + 2).toInt ∧ (k + 2).toInt ≤ 262 ∧ Acc N U T C P w al' q (k + 2) o) ∧ (300 - (k + 2).toInt).toNat < (300 - k.toInt).toNat
   exact ⟨⟨by omega, by omega, t, a, h, p, e, m', S, cf, by omega, ha, u, lp, ho', h1⟩, by omega⟩
theorem j438 {s : List Int32} {N U T C t a q h p e : Int32} {P : Nat} {m m0 m2 : Nat → Sl} {o : Ob} {ow al dl : Int64} {k op lv r : Int32} (S : Sh (N, U, T, C, t, a, q, h, p, e) m2 o) (cf : Cf (N, U, T, C, t, a, q, h, p, e) P) (tk : t.toInt ≤ 8 * k.toInt + 15) (ha : 0 ≤ a.toInt ∧ a.toInt ≤ 255) (u : Uq m0 P) (lp2 : ∀ i, i < P → LP t (m2 i)) (ho : Ow ow m0 P) (lp0 : ∀ i, i < P → LP t (m0 i)) (sub : ∀ i, i < P → Sub (m2 i) (m0 i)) (hal : ∀ i, i < P → sLv (m i) = 0 → Fl6 al i (if sUs (m i) = 0 then 0 else sFr (m i) + C)) (mk' : Mk m P lv dl) (lp : ∀ i, i < P → LP t (m i)) (fr : ∀ i, i < P → sLv (m2 i) = 0 → (sLv (m i) = 0 ∧ sUs (m2 i) = sUs (m i) ∧ sFr (m2 i) = sFr (m i)) ∨ (sLv (m i) ≠ 0 ∧ sUs (m2 i) = 1 ∧ sFr (m2 i) = (if op = 3 then sDl (m i) else t))) (r3 : r = 3 → ∃ i : Nat, i < P ∧ q.toInt = 5000 + i ∧ sLv (m0 i) ≠ 0 ∧ h = sHo (m0 i) ∧ p = sPo (m0 i)) (k0 : 0 ≤ k.toInt) (k1 : k.toInt ≤ 260) : okP (J0_438 s o N C ow al q k op lv dl r) (Po s N U T C P k) := by
 have z5 : (5000 : Int32).toInt = 5000 := rfl
 have fin := j602 (s := s) S cf tk ha (u.sub sub) lp2 (ho.sub sub) hal mk' lp fr k0 k1
 unfold J0_438 J0_471 F31 F32
 refine okP.ite (fun w => ?_) (fun _ => fin)
 obtain ⟨i, hi, qi, li, eh, ep⟩ := r3 w
 obtain ⟨⟨hN, P2, P4⟩, _⟩ := id cf
 have e8 : f_regHost o = h := S.sc.2.2.2.2.2.2.2.1
 have e9 : f_regPort o = p := S.sc.2.2.2.2.2.2.2.2.1
 rw [Option.bind_some, Option.bind_some, e8, e9, eh, ep, own_m P4 ho lp0 hi li (x := q - 5000) (n := N) (by rw [i_sub (by omega) (by omega), z5]; omega) hN, Option.bind_some, if_neg (by decide)]
 exact fin
theorem cell_m {s : List Int32} (hs : s.length ≤ 260) {x : Int32} (hx : 0 ≤ x.toInt) : okP (F1 s x) (fun _ => True) := by
 have hl := len_i (n := s.length) (by omega)
 unfold F1
 refine okP.ite (fun c => ?_) (fun _ => okP.some trivial)
 rw [i_lt, hl] at c
 apply okP.bind
 exact okP.aget hx c (fun v _ => okP.some trivial)
theorem vp_of {b y pr fl : Int32} (hp : pr = (if (if b = (1 : Int32) then (1 : Int32) else (0 : Int32)) = (0 : Int32) then (17 : Int32) else (6 : Int32))) (hf : fl = (if (if b = (1 : Int32) then (1 : Int32) else (0 : Int32)) = (0 : Int32) then (0 : Int32) else (y &&& (15 : Int32)))) : Vp pr fl := by
 have z15 : (15 : Int32).toInt = 15 := rfl
 have f := and_rng (x := y) (m := 15) (by decide)
 rw [z15] at f
 by_cases c : b = 1
 ·rw [if_pos c, if_neg (by decide)] at hp hf
  exact Or.inr ⟨hp, by rw [hf]; exact f⟩
 ·rw [if_neg c, if_pos rfl] at hp hf
  exact Or.inl ⟨hp, hf⟩
theorem turn {s : List Int32} (hs : s.length ≤ 260) {N U T C : Int32} {P : Nat} {ow al : Int64} {q k : Int32} {o : Ob} (I : Acc N U T C P ow al q k o) (k0 : 0 ≤ k.toInt) (k1 : k.toInt ≤ 262) : okP (B0_80 s N C (ow, al, q, k, o)) (Po s N U T C P k) := by
 have hl := len_i (n := s.length) (by omega)
 have z0 : (0 : Int32).toInt = 0 := rfl
 have z1 : (1 : Int32).toInt = 1 := rfl
 have z3 : (3 : Int32).toInt = 3 := rfl
 have z7 : (7 : Int32).toInt = 7 := rfl
 have z15 : (15 : Int32).toInt = 15 := rfl
 have z5 : (5000 : Int32).toInt = 5000 := rfl
 have z2002 : (2002 : Int32).toInt = 2002 := rfl
 obtain ⟨t, a, h, p, e, m, S, cf, tk, ha, u, lp, ho, hal⟩ := id I
 obtain ⟨⟨hN, P2, P4⟩, cU', cT', cC', ct⟩ := id cf
 have hN' : N.toInt = P := hN
 have ht : 0 ≤ t.toInt ∧ t.toInt ≤ 3000 := ct
 have hal' : ∀ i, i < P → sLv (m i) = 0 → Fl6 al i (if sUs (m i) = 0 then 0 else sFr (m i) + C) := fun i hi l => hal i hi l
 have fn : sFit s (H0 s o) := by
  obtain ⟨b1, b2, b3, b4, b5, b6, b7, b8, b9⟩ := S.fit
  refine ⟨by show 11 - 1 ≤ _; decide, ?_⟩
  simp only [H0, H0v, qhs, qsz, b1, b2, b3, b4, b5, b6, b7, b8, b9]
  simp only [cN, room_1]
  omega
 unfold B0_80
 simp only
 refine okP.ite (fun c => ?_) (fun _ => okP.some ⟨rfl, fn⟩)
 rw [i_lt, hl] at c
 rw [if_pos (show k < 2002 by rw [i_lt, z2002]; omega)]
 have k260 : k.toInt ≤ 260 := by omega
 have t2k : t.toInt ≤ 2080 := by omega
 have a1 : (k + 1).toInt = k.toInt + 1 := inc1 (by omega)
 apply okP.bind; refine okP.aget (by omega) (by omega) (fun y0 _ => ?_)
 apply okP.bind; refine okP.mono (cell_m hs (by omega)) (fun y1 _ => ?_)
 apply okP.bind
 refine okP.mono (marks S hN P4 (by omega) lp hN') ?_
 rintro ⟨lv, dl⟩ mk'
 simp only at mk' ⊢
 have op3 := and_rng (x := y0) (m := 3) (by decide)
 rw [z3] at op3
 obtain ⟨op, hop⟩ : ∃ op, op = y0 &&& 3 := ⟨_, rfl⟩
 simp only [← hop]
 rw [← hop] at op3
 clear hop
 have same : ∀ r : Int32, r ≠ 3 → okP (J0_438 s o N C ow al q k op lv dl r) (Po s N U T C P k) := fun r hr => j438 S cf (by omega) ha u lp ho lp (fun i _ => Sub.refl _) hal' mk' lp (fun i _ l => Or.inl ⟨l, rfl, rfl⟩) (fun w => absurd w hr) k0 k260
 have same' : okP (J0_602 s o N C ow al q k op lv dl) (Po s N U T C P k) := j602 S cf (by omega) ha u lp ho hal' mk' lp (fun i _ l => Or.inl ⟨l, rfl, rfl⟩) k0 k260
 obtain ⟨A, hA, A255⟩ : ∃ A : Nat, a.toInt = A ∧ A ≤ 255 := ⟨a.toInt.toNat, by omega, by omega⟩
 refine okP.ite (fun _ => ?_) (fun _ => ?_)
 ·-- the remote
  have r1 := and_rng (x := XT.ushr y0 2) (m := 3) (by decide)
  have r2 := and_rng (x := y1) (m := 7) (by decide)
  rw [z3] at r1
  rw [z7] at r2
  have e2 : (5000 + (y1 &&& 7)).toInt = 5000 + (y1 &&& 7).toInt := by rw [i_add (by omega) (by omega), z5]
  obtain ⟨a', ha'⟩ : ∃ a' : Int32, a' = (if (XT.ushr y0 2) &&& 3 = 3 then 255 else ((XT.ushr y0 2) &&& 3) + 1) := ⟨_, rfl⟩
  obtain ⟨q', hq'⟩ : ∃ q', q' = 5000 + (y1 &&& 7) := ⟨_, rfl⟩
  simp only [← ha', ← hq']
  rw [← hq'] at e2
  have ra : 1 ≤ a'.toInt ∧ a'.toInt ≤ 255 := by
   rw [ha']
   split
   ·decide
   ·rw [i_add (by rw [z1]; omega) (by rw [z1]; omega), z1]; omega
  clear ha' hq'
  apply okP.bind
  refine okP.mono (rem_m S a' q') ?_
  rintro ⟨r, z⟩ hz
  rw [if_pos (by omega)] at hz
  obtain ⟨hz, S2⟩ := hz
  simp only at hz S2 ⊢
  subst hz
  rw [if_neg (by decide)]
  have S2 : Sh (N, U, T, C, t, a', q', h, p, e) m z := S2
  exact j602 S2 cf (by omega) (by omega) u lp ho hal' mk' lp (fun i _ l => Or.inl ⟨l, rfl, rfl⟩) k0 k260
 refine okP.ite (fun o1 => ?_) (fun _ => ?_)
 ·-- from inside
  have on3 : ¬ op = 3 := by rw [o1]; decide
  have r1 := and_rng (x := XT.ushr y0 2) (m := 7) (by decide)
  have r2 := and_rng (x := XT.ushr y0 5) (m := 7) (by decide)
  rw [z7] at r1 r2
  have e2 : (((XT.ushr y0 5) &&& 7) + 1).toInt = ((XT.ushr y0 5) &&& 7).toInt + 1 := inc1 (by omega)
  obtain ⟨hh, hhh⟩ : ∃ hh, hh = (XT.ushr y0 2) &&& 7 := ⟨_, rfl⟩
  obtain ⟨pp, hpp⟩ : ∃ pp, pp = ((XT.ushr y0 5) &&& 7) + 1 := ⟨_, rfl⟩
  simp only [← hhh, ← hpp]
  rw [← hhh] at r1
  rw [← hpp] at e2
  clear hhh hpp
  obtain ⟨pr, hpr⟩ : ∃ pr : Int32, pr = (if (if (XT.ushr y0 8) &&& 1 = 1 then (1 : Int32) else 0) = 0 then 17 else 6) := ⟨_, rfl⟩
  obtain ⟨fl, hfl⟩ : ∃ fl : Int32, fl = (if (if (XT.ushr y0 8) &&& 1 = 1 then (1 : Int32) else 0) = 0 then 0 else (y1 &&& 15)) := ⟨_, rfl⟩
  simp only [← hpr, ← hfl]
  have vp := vp_of hpr hfl
  clear hpr hfl
  have ext : okP (F7 o hh pp pr) (fun r => (r = -1 ∧ ∀ i, i < P → ¬ Key pr hh pp (m i)) ∨ ∃ k : Nat, k < P ∧ r = 5000 + Int32.ofInt (k : Nat) ∧ Key pr hh pp (m k)) := by
   by_cases x : ∃ k, k < P ∧ Key pr hh pp (m k)
   ·obtain ⟨k, hk, kk⟩ := x
    exact okP.of (ext_yes S hN (by omega) u hk kk) (Or.inr ⟨k, hk, rfl, kk⟩)
   ·have no : ∀ i, i < P → ¬ Key pr hh pp (m i) := fun i hi kk => x ⟨i, hi, kk⟩
    exact okP.of (ext_no S hN (by omega) no) (Or.inl ⟨rfl, no⟩)
  obtain ⟨pre, hpre, ext⟩ := ext
  rw [hpre, Option.bind_some]
  apply okP.bind
  refine okP.mono (out_m S hN (by omega) hA A255 rfl r1.1 (by omega) (by omega) (by omega) pr fl) ?_
  rintro ⟨r, z⟩ hz
  have neg : r < 0 → z = o → okP (J0_438 s z N C ow al q k op lv dl r) (Po s N U T C P k) ∧ ¬ r = 1 ∧ ¬ r = 3 ∧ ¬ r = 4 := by
   intro r0 zo
   subst zo
   have n1 : ¬ r = 1 := fun w => by rw [w] at r0; exact absurd r0 (by decide)
   have n3 : ¬ r = 3 := fun w => by rw [w] at r0; exact absurd r0 (by decide)
   have n4 : ¬ r = 4 := fun w => by rw [w] at r0; exact absurd r0 (by decide)
   exact ⟨same r n3, n1, n3, n4⟩
  have negs : r < 0 → z = o → okP (if (if pre < 0 then (0 : Int32) else 1) = 0 then (if r = 1 then (J0_375 s z N C ow al q k op lv dl hh pp r) else (if r = 3 then (J0_375 s z N C ow al q k op lv dl hh pp r) else (if r = 4 then (J0_375 s z N C ow al q k op lv dl hh pp r) else (J0_438 s z N C ow al q k op lv dl r)))) else (J0_438 s z N C ow al q k op lv dl r)) (Po s N U T C P k) := by
   intro r0 zo
   obtain ⟨f, n1, n3, n4⟩ := neg r0 zo
   rw [if_neg n1, if_neg n3, if_neg n4]
   split <;> exact f
  rcases hz with ⟨hz, _⟩ | ⟨_, hz⟩
  ·cases hz
   exact negs (by decide) rfl
  rcases hz with ⟨i, hi, ki, os⟩ | ⟨no, hz⟩
  ·-- its mapping stands
   obtain ⟨j, hj, ej⟩ : ∃ j : Nat, j < P ∧ pre = 5000 + Int32.ofInt (j : Nat) := by
    rcases ext with ⟨_, w⟩ | ⟨j, hj, w, _⟩
    ·exact absurd ki (w i hi)
    ·exact ⟨j, hj, w⟩
   obtain ⟨_, _, jp⟩ := of_n (i := j) (by omega)
   obtain ⟨m2, h', p', S2, rls, lps, _, _, r3⟩ := os_m cf hi ki.1 ki.2.1 vp lp os
   have fin := j438 (s := s) (r := r) S2 cf (by omega) ha u lps ho lp (fun i _ => (rls i).1) hal' mk' lp (fun i hi l => by rw [if_neg on3]; exact (rls i).2 l) r3 k0 k260
   have np : ¬ pre < 0 := by rw [ej, i_lt, jp, z0]; omega
   simp only
   rw [if_neg np, if_neg (by decide)]
   exact fin
  have pn : pre = -1 := by
   rcases ext with ⟨w, _⟩ | ⟨j, hj, _, kj⟩
   ·exact w
   ·exact absurd kj (no j hj)
  rcases hz with ⟨_, _, hz⟩ | ⟨nb, hz⟩
  ·cases hz
   exact negs (by decide) rfl
  rcases hz with ⟨hz, _⟩ | ⟨i, hi, l0, av, _, os⟩
  ·cases hz
   exact negs (by decide) rfl
  ·-- a new mapping
   have f8 : fl &&& 8 = 0 := by
    rcases vp with ⟨_, f⟩ | ⟨p6, _⟩
    ·rw [f]; decide
    ·by_cases w : fl &&& 8 = 0
     ·exact w
     ·exact absurd ⟨p6, Or.inr w⟩ nb
   have lp0 : ∀ j, j < P → LP t (upS m i (opn (m i) pr hh pp t) j) := by
    intro j hj
    by_cases x : i = j
    ·subst x
     rw [upS_self]
     intro _
     refine ⟨r1, ?_, ?_, ht.1, ?_⟩
     ·show 1 ≤ pp.toInt ∧ pp.toInt ≤ 8
      omega
     ·show (pr = 17 ∧ (if pr = 17 then (0 : Int32) else 1) = 0) ∨ (pr = 6 ∧ ((if pr = 17 then (0 : Int32) else 1) = 1 ∨ (if pr = 17 then (0 : Int32) else 1) = 2 ∨ (if pr = 17 then (0 : Int32) else 1) = 3))
      rcases vp with ⟨f, _⟩ | ⟨p6, _⟩
      ·exact Or.inl ⟨f, if_pos f⟩
      ·exact Or.inr ⟨p6, Or.inl (if_neg (by rw [p6]; decide))⟩
     ·show t.toInt ≤ t.toInt + 32
      omega
    ·rw [upS_ne x]; exact lp j hj
   obtain ⟨m2, h', p', S2, rls, lps, kps, rc, r3⟩ := os_m cf hi (m := upS m i (opn (m i) pr hh pp t)) (by rw [upS_self]; exact (show ¬ (1 : Int32) = 0 by decide)) (by rw [upS_self]; rfl) vp lp0 os
   obtain ⟨b1, b2, b3⟩ := of_n (i := i) (by omega)
   have ei : (5000 + Int32.ofInt (i : Nat) - 5000).toInt = i := by rw [i_sub (by omega) (by omega), b3, z5]; omega
   obtain ⟨⟨n, cn, c256⟩, _⟩ := cod_m (h := hh) (p := pp) r1.1 r1.2 (by omega) (by omega)
   obtain ⟨w', w1, w2, w3⟩ := set8_m ow ei (by omega) cn c256
   have ho' : Ow w' (upS m i (opn (m i) pr hh pp t)) P := by
    intro j hj lj
    by_cases x : i = j
    ·subst x
     rw [upS_self]
     exact w2
    ·rw [upS_ne x] at lj ⊢
     exact w3 j (by omega) (fun y => x y.symm) _ (ho j hj lj)
   have fin := j438 (s := s) (r := r) S2 cf (by omega) ha (u.open no (s := i) (t := t)) lps ho' lp0 (fun j _ => (rls j).1) hal' mk' lp (fun j hj l => by
    by_cases x : i = j
    ·subst x
     exact absurd l (kps f8 i (by rw [upS_self]; exact (show ¬ (1 : Int32) = 0 by decide)))
    ·have := (rls j).2 l
     rw [upS_ne x] at this
     rw [if_neg on3]; exact this) r3 k0 k260
   have j375 : okP (J0_375 s z N C ow al q k op lv dl hh pp r) (Po s N U T C P k) := by
    unfold J0_375 F22 F11
    have e10 : f_regExt z = 5000 + Int32.ofInt (i : Nat) := S2.sc.2.2.2.2.2.2.2.2.2
    have e5 : f_clock z = t := S2.sc.2.2.2.2.1
    rw [Option.bind_some, e10, if_neg (by rw [i_lt, z0]; omega), if_pos (by rw [i_lt]; omega), Option.bind_some, e5, get6_m ei (by omega) (hal i hi l0), Option.bind_some, if_neg (show ¬ t < avl (N, U, T, C, t, a, q, h, p, e) (m i) from av)]
    have w1' : F24 ow (5000 + Int32.ofInt (i : Nat) - 5000) (((128 : Int32) ||| (hh <<< ((3 : Int32) &&& 31))) ||| (pp - (1 : Int32))) = some w' := w1
    rw [w1', Option.bind_some]
    exact fin
   simp only
   rw [pn, if_pos (by decide)]
   rcases rc with rc | rc | rc
   ·rw [if_pos rc]; exact j375
   ·rw [if_neg (by rw [rc]; decide), if_pos rc]; exact j375
   ·rw [if_neg (by rw [rc]; decide), if_neg (by rw [rc]; decide), if_pos rc]; exact j375
 refine okP.ite (fun o2 => ?_) (fun o3 => ?_)
 ·-- from outside
  have on3 : ¬ op = 3 := by rw [o2]; decide
  have r1 := and_rng (x := XT.ushr y0 2) (m := 7) (by decide)
  rw [z7] at r1
  have e1 : (5000 + ((XT.ushr y0 2) &&& 7)).toInt = 5000 + ((XT.ushr y0 2) &&& 7).toInt := by rw [i_add (by omega) (by omega), z5]
  obtain ⟨y, hy⟩ : ∃ y, y = 5000 + ((XT.ushr y0 2) &&& 7) := ⟨_, rfl⟩
  simp only [← hy]
  rw [← hy] at e1
  clear hy
  obtain ⟨pr, hpr⟩ : ∃ pr : Int32, pr = (if (if (XT.ushr y0 5) &&& 1 = 1 then (1 : Int32) else 0) = 0 then 17 else 6) := ⟨_, rfl⟩
  obtain ⟨fl, hfl⟩ : ∃ fl : Int32, fl = (if (if (XT.ushr y0 5) &&& 1 = 1 then (1 : Int32) else 0) = 0 then 0 else (y1 &&& 15)) := ⟨_, rfl⟩
  simp only [← hpr, ← hfl]
  have vp := vp_of hpr hfl
  clear hpr hfl
  unfold J0_586
  apply okP.bind
  refine okP.mono (inb_m S hN (by omega) hA A255 y pr fl) ?_
  rintro ⟨r, z⟩ hz
  rcases hz with ⟨hz, _⟩ | ⟨_, hz⟩
  ·cases hz
   rw [if_neg (show ¬ (-1 : Int32) = 2 by decide)]
   exact same'
  rcases hz with ⟨hz, _⟩ | ⟨i, hi, yi, li, pi, hz⟩
  ·cases hz
   rw [if_neg (show ¬ (-4 : Int32) = 2 by decide)]
   exact same'
  rcases hz with ⟨hz, _⟩ | ⟨r2, _, S2⟩
  ·cases hz
   rw [if_neg (show ¬ (-5 : Int32) = 2 by decide)]
   exact same'
  simp only at r2 S2 ⊢
  subst r2
  have S2 : Sh (N, U, T, C, t, a, q, sHo (m i), sPo (m i), y) (upS m i (upd (N, U, T, C, t, a, q, h, p, e) (m i) fl 1)) z := S2
  have e8 : f_regHost z = sHo (m i) := S2.sc.2.2.2.2.2.2.2.1
  have e9 : f_regPort z = sPo (m i) := S2.sc.2.2.2.2.2.2.2.2.1
  unfold F31 F32
  rw [if_pos rfl, Option.bind_some, Option.bind_some, e8, e9, own_m P4 ho lp hi li (x := y - 5000) (by rw [i_sub (by omega) (by omega), z5]; omega) hN', Option.bind_some, if_neg (by decide)]
  have rls := rl_up (m := m) (m0 := m) (fun i => Rl.refl t (m i)) (rl_upd (c := (N, U, T, C, t, a, q, h, p, e)) li (Rl.refl t (m i)) fl 1)
  refine j602 S2 cf (by omega) ha (u.sub (fun i _ => (rls i).1)) ?_ (ho.sub (fun i _ => (rls i).1)) hal' mk' lp (fun i hi l => by rw [if_neg on3]; exact (rls i).2 l) k0 k260
  intro j hj
  by_cases x : i = j
  ·subst x
   rw [upS_self]
   exact lp_upd cf (lp i hi) (by rw [pi]; exact vp) (Or.inr rfl)
  ·rw [upS_ne x]; exact lp j hj
 ·-- the clock
  have oe : op = 3 := by
   have four : op = 0 ∨ op = 1 ∨ op = 2 ∨ op = 3 := small_cases (P := fun k => k = 0 ∨ k = 1 ∨ k = 2 ∨ k = 3) op3.1 (n := 4) (by omega) (by decide)
   rcases four with w | w | w | w
   ·contradiction
   ·contradiction
   ·contradiction
   ·exact w
  have r1 := and_rng (x := XT.ushr y0 2) (m := 15) (by decide)
  rw [z15] at r1
  obtain ⟨d, hd⟩ : ∃ d, d = (XT.ushr y0 2) &&& 15 := ⟨_, rfl⟩
  simp only [← hd]
  rw [← hd] at r1
  clear hd
  apply okP.bind
  refine okP.mono (adv_m S hN (by omega) d) ?_
  rintro ⟨r, z⟩ hz
  rw [if_pos (by omega)] at hz
  obtain ⟨_, S2⟩ := hz
  simp only at S2 ⊢
  have td : (t + d).toInt = t.toInt + d.toInt := i_add (by omega) (by omega)
  obtain ⟨c', hc'⟩ : ∃ c', c' = wC (N, U, T, C, t, a, q, h, p, e) (cC (N, U, T, C, t, a, q, h, p, e) + d) := ⟨_, rfl⟩
  rw [← hc'] at S2
  have S3 : Sh (N, U, T, C, t + d, a, q, h, p, e) (adv c' m P) z := by rw [hc'] at S2 ⊢; exact S2
  have lpt : ∀ i, i < P → LP (t + d) (m i) := by
   intro i hi li
   obtain ⟨l1, l2, l3, l4, l5⟩ := lp i hi li
   exact ⟨l1, l2, l3, l4, by omega⟩
  have cf' : Cf (N, U, T, C, t + d, a, q, h, p, e) P := ⟨⟨hN, P2, P4⟩, cU', cT', cC', by show 0 ≤ (t + d).toInt ∧ (t + d).toInt ≤ 3000; omega⟩
  have sb : ∀ i, i < P → Sub (adv c' m P i) (m i) := fun i _ => adv_sub _ _ _ _
  refine j602 S3 cf' (by omega) ha (u.sub sb) ?_ (ho.sub sb) hal' mk' lpt ?_ k0 k260
  ·intro i hi li
   obtain ⟨s1, _⟩ := sb i hi li
   have : adv c' m P i = m i := by
    unfold adv at li ⊢
    split at li
    ·exact absurd rfl li
    ·rename_i w
     rw [if_neg w]
   rw [this]
   exact lpt i hi s1
  ·intro i hi l0
   rw [if_pos oe]
   unfold adv at l0 ⊢
   split at l0
   ·rename_i w
    rw [if_pos w]
    exact Or.inr ⟨w.2.1, rfl, rfl⟩
   ·rename_i w
    rw [if_neg w]
    exact Or.inl ⟨l0, rfl, rfl⟩
theorem law_ok (s : List Int32) (hs : s.length ≤ 260) : ∃ τ, F0 s = some (1, τ) ∧ τ.length - List.length ([Sum.inr (Sum.inl (FieldType.int, s))] : QHeap) ≤ room_1.cells ∧ qhs τ - qhs [Sum.inr (Sum.inl (FieldType.int, s))] ≤ room_1.slots := by
 have z1 : (1 : Int32).toInt = 1 := rfl
 have z2 : (2 : Int32).toInt = 2 := rfl
 have z3 : (3 : Int32).toInt = 3 := rfl
 have z4 : (4 : Int32).toInt = 4 := rfl
 have z16 : (16 : Int32).toInt = 16 := rfl
 have z31 : (31 : Int32).toInt = 31 := rfl
 have z0 : (0 : Int32).toInt = 0 := rfl
 have z1000 : (1000 : Int32).toInt = 1000 := rfl
 have : okP (F0 s) (fun e => e.1 = 1 ∧ sFit s e.2) := by
  unfold F0
  apply okP.bind; refine okP.mono (cell_m hs (by decide)) (fun y0 _ => ?_)
  apply okP.bind; refine okP.mono (cell_m hs (by decide)) (fun y1 _ => ?_)
  have r0 := and_rng (x := y0) (m := 3) (by decide)
  have r1 := and_rng (x := y1) (m := 31) (by decide)
  have r2 := and_rng (x := XT.ushr y1 5) (m := 31) (by decide)
  have r3 := and_rng (x := XT.ushr y1 10) (m := 31) (by decide)
  rw [z3] at r0
  rw [z31] at r1 r2 r3
  have e0 : (2 + (y0 &&& 3)).toInt = 2 + (y0 &&& 3).toInt := by rw [i_add (by omega) (by omega), z2]
  have e1 : (1 + (y1 &&& 31)).toInt = 1 + (y1 &&& 31).toInt := by rw [i_add (by omega) (by omega), z1]
  have e2 : (1 + ((XT.ushr y1 5) &&& 31)).toInt = 1 + ((XT.ushr y1 5) &&& 31).toInt := by rw [i_add (by omega) (by omega), z1]
  obtain ⟨N, hN⟩ : ∃ N : Int32, N = (if 4 < 2 + (y0 &&& 3) then 4 else 2 + (y0 &&& 3)) := ⟨_, rfl⟩
  obtain ⟨U, hU⟩ : ∃ U : Int32, U = 1 + (y1 &&& 31) := ⟨_, rfl⟩
  obtain ⟨T, hT⟩ : ∃ T : Int32, T = 1 + ((XT.ushr y1 5) &&& 31) := ⟨_, rfl⟩
  obtain ⟨C, hC⟩ : ∃ C : Int32, C = (XT.ushr y1 10) &&& 31 := ⟨_, rfl⟩
  simp only [← hN, ← hU, ← hT, ← hC]
  have rN : 2 ≤ N.toInt ∧ N.toInt ≤ 4 := by
   rw [hN]
   by_cases w : 4 < 2 + (y0 &&& 3)
   ·rw [if_pos w]; decide
   ·rw [if_neg w]
    rw [i_lt, z4] at w
    omega
  rw [← hU] at e1
  rw [← hT] at e2
  rw [← hC] at r3
  clear hN hU hT hC
  apply okP.bind
  refine okP.mono init_m ?_
  rintro o ⟨n, u, t, w, S, hn, hu, ht, hw⟩
  have en : n = N := by rw [hn, if_neg (by rw [i_lt, z2]; omega), if_neg (by rw [i_lt, z16]; omega)]
  have eu : u = U := by rw [hu, if_neg (by rw [i_lt, z1]; omega), if_neg (by rw [i_lt, z1000]; omega)]
  have eT : t = T := by rw [ht, if_neg (by rw [i_lt, z1]; omega), if_neg (by rw [i_lt, z1000]; omega)]
  have eC : w = C := by rw [hw, if_neg (by rw [i_lt, z0]; omega), if_neg (by rw [i_lt, z1000]; omega)]
  subst en eu eT eC
  clear hn hu ht hw
  obtain ⟨P, hP⟩ : ∃ P : Nat, n.toInt = P := ⟨n.toInt.toNat, by omega⟩
  have I0 : Acc n u t w P 0 0 0 2 o := by
   refine ⟨0, 0, -1, -1, -1, _, S, ⟨⟨hP, by omega, by omega⟩, ?_, ?_, r3, ?_⟩, by decide, by decide, fun i j _ _ a => absurd rfl a, fun i _ a => absurd rfl a, fun i _ a => absurd rfl a, fun i hi _ b hb => ?_⟩
   ·show 1 ≤ u.toInt ∧ u.toInt ≤ 32
    omega
   ·show 1 ≤ t.toInt ∧ t.toInt ≤ 32
    omega
   ·show 0 ≤ (0 : Int32).toInt ∧ (0 : Int32).toInt ≤ 3000
    decide
   ·show (XT.ushrL 0 b) &&& 65535 = 0
    apply Int64.toBitVec_inj.1
    show (XT.ushrL 0 b).toBitVec &&& 65535#64 = 0#64
    rw [ushr64 0 hb (by omega)]
    show (0#64 >>> (16 * i)) &&& 65535#64 = 0#64
    simp
  apply okP.bind
  refine okP.mono (P := fun e => e.1 = 1 ∧ sFit s e.2) ?_ (fun e he => okP.some he)
  refine okP.loop (fun w' : QV => 0 ≤ w'.2.2.2.1.toInt ∧ w'.2.2.2.1.toInt ≤ 262 ∧ Acc n u t w P w'.1 w'.2.1 w'.2.2.1 w'.2.2.2.1 w'.2.2.2.2) (fun w' => (300 - w'.2.2.2.1.toInt).toNat) ⟨by show (0 : Int) ≤ 2; decide, by show (2 : Int) ≤ 262; decide, I0⟩ (by show (300 - (2 : Int)).toNat < 4000; decide) ?_
  rintro ⟨ow, al, q, k, o⟩ ⟨h1, h2, h3⟩
  exact turn hs h3 h1 h2
 obtain ⟨⟨r, τ⟩, q1, q2, q3⟩ := this
 simp only at q2
 subst q2
 exact ⟨τ, q1, q3⟩
set_option maxRecDepth 65536 in
theorem comes_1 {Post : Tables → Env → Array Value → State → Outcome → State → Prop} (hpost : ∀ tb e args s v u, (limb_1_1.after args s (.returned v) u = true ∧ limb_1_2.after args s (.returned v) u = true ∧ True) → FrameEnd s (.returned v) u (Jvm.fieldLocs frame_1_writes args s ++ Jvm.arrayLocs frame_1_arrays args s ++ Jvm.staticLocs frame_1_statics s) 32 512 → Post tb e args s (.returned v) u) :
    ArmFor flags0 classFile x code maxLocals ret World_1 tables_1 room_1 Calls_1 rest_1 Pre_1 Post := by
  intro l hfl _ _ p e ha hc hk s m args below hf hA hF happ hP
  obtain ⟨hcalls, hrest, hpre⟩ := hP
  obtain ⟨-, -, -, hnamed, -, -, -, hat⟩ := (Spec.applies_iff hf).mp happ
  obtain ⟨hg, hn⟩ := and_e (Cond.before_iff.mp (show (Jvm.Cond.and given_1 narrow_1).before args s = true from hpre))
  obtain ⟨g0, g1⟩ := and_e hg
  obtain ⟨w0, rfl⟩ : ∃ w0 : Value, args = #[w0] := by
    have hs : args.size = 1 := by simpa [Cond.value, given_1] using g0
    obtain ⟨L⟩ := args
    match L, hs with
    | [w0], _ => exact ⟨w0, rfl⟩
  have hw := fun d (hd : d ∈ tables_1) => atoms_spec (ws := Jvm.Cond.code x code maxLocals ret :: tables_1) hat d (List.mem_cons_of_mem _ hd)
  have hfit : Fit s := fun {y c} hc i hi => by
    obtain ⟨ha, rfl⟩ := Array.getElem?_eq_some_iff.mp hc
    have q := List.all_eq_true.mp ((Array.all_eq_true_iff_forall_mem.mp hF) _ (Array.getElem_mem ha)) i (List.mem_range.mpr hi)
    simpa [Array.getElem?_eq_getElem hi] using q
  obtain ⟨n1, n2⟩ := and_e hn
  obtain ⟨a, cl, xs, rfl, hA1, hA2, hlen⟩ := script_ok hfit n1 n2
  obtain ⟨τ, hF0, hc1, hs1⟩ := law_ok xs hlen
  have hlt := hA1.lt
  have Ad : QAd s.heap.size (fun k => match k with | 0 => a | k + 1 => s.heap.size + k) := ⟨fun k hk => by cases k with | zero => exact absurd hk (by decide) | succ k => rfl, fun i j h => by
    cases i with
    | zero => cases j with
      | zero => rfl
      | succ j => have h' : a = s.heap.size + j := h; exact absurd hA1.lt (by rw [h']; exact Nat.not_lt.mpr (Nat.le_add_right _ _))
    | succ i => cases j with
      | zero => have h' : s.heap.size + i = a := h; exact absurd hA1.lt (by rw [← h']; exact Nat.not_lt.mpr (Nat.le_add_right _ _))
      | succ j => have h' : s.heap.size + i = s.heap.size + j := h; omega⟩
  have hR : QRep s s.heap.size (fun k => match k with | 0 => a | k + 1 => s.heap.size + k) s.heap [.inr (.inl (.int, xs))] := ⟨Nat.le_refl _, rfl, fun k c h => by
    cases k with
    | zero => cases h; exact ⟨cl, hA1, hA2⟩
    | succ k => cases h⟩
  have T := tF0 (l := l) (Z := s) Ad (QW_ok hw) xs hF0
  have M := QTri.met (k := 0) (as := [.ref 0]) (by decide) T hR (Nat.le_of_ble_eq_true rfl) (fun q => by cases q) tables_1 (rm := room_1) (by decide) (by decide) hc1 hs1
  obtain ⟨n, o, h1, h2, h3, _, L, rfl, ⟨rfl, R', N⟩, hq⟩ := M p e ha hc hk s m _ below hf ((Spec.applies_iff_loose hf).mp happ).1 ⟨rfl, State.Warmed39.refl s, rfl⟩ trivial
  refine ⟨n, _, h1, h2, h3, hpost _ _ _ _ _ _ ⟨Cond.after_iff.mpr rfl, Cond.after_iff.mpr (eq_i res_at (Term.int_eval (1)) rfl), trivial⟩ ⟨hq.1, hq.2.1, (hq.2.2.sift fun y hy => Or.inr (N y hy)).mono hc1 hs1⟩⟩
theorem main_1_1 : Claimed_1_1 := comes_1 fun _ _ _ _ _ _ h hF => ⟨h.1, hF⟩
theorem main_1_2 : Claimed_1_2 := comes_1 fun _ _ _ _ _ _ h hF => ⟨h.2.1, hF⟩
end Jvm.Pilot.@@N@@
namespace Jvm.Pilot.@@N@@
open Jvm Jvm.ClassFile Sem Op Lib Jvm.Free Jvm.Stand Jvm.Pilot.@@N@@.Jvm.D
/-! MADE BY PROGRAM (witnessworld.py) out of the Statement's table words and the real class files: 13 classes; the members and pool entries that the words name. The judged class is class 1, her method 7. -/
namespace start1
open Jvm.ClassFile
def u (s : String) : CpInfo := .utf8 (stringToUtf16 s)
/-- a pool by its gaps: so many unusable entries, then the entry; so many at the end -/
def gap : Nat → List CpInfo → List CpInfo
  | 0, r => r
  | n + 1, r => .unusable :: gap n r
def poolList (es : List (Nat × CpInfo)) (last : Nat) : List CpInfo := es.foldr (fun e r => gap e.1 (e.2 :: r)) (gap last [])
def pool (es : List (Nat × CpInfo)) (last : Nat) : Array CpInfo := ⟨poolList es last⟩
def fileOf (pool : Array CpInfo) (this : Nat) (attrs : Array Attribute := #[]) (ms : Array MethodInfo := #[]) (fl : Nat := 33) (sup : Nat := 0) (ifs : Array Nat := #[]) (fds : Array FieldInfo := #[]) : ClassFile where
  minorVersion := 0
  majorVersion := 65
  constantPool := pool
  accessFlags := fl
  thisClass := this
  superClass := sup
  interfaces := ifs
  fields := fds
  methods := ms
  attributes := attrs
def plain (name : String) (sup : Option ClassId) : Class where
  name := name
  kind := .ordinary
  loader := none
  accessFlags := 33
  super := sup
  interfaces := #[]
  cf := none
  fields := #[]
  methods := #[]
  instanceTypes := #[]
  staticTypes := #[]
  resolved := #[]
  callSites := []
  init := .initialized
  statics := none
  mirror := none

def pool0 : Array CpInfo := pool [(5, u "<init>"), (0, u "()V"), (1, .class_ 10), (1, u "java/lang/Object")] 113

def k0c0 : Code := { maxStack := 0, maxLocals := 1, code := object_method_1_code, exceptionTable := #[], attributes := #[] }
def k0m0 : Method := { name := "<init>", desc := "()V", sig := { parameters := [], returnType := none }, accessFlags := 1, code := some k0c0 }
/-- java/lang/Object -/
def k0 : Class := { plain "java/lang/Object" none with
  accessFlags := 33
  interfaces := #[]
  cf := some (fileOf pool0 8 #[] #[{ accessFlags := 1, nameIndex := 5, descriptorIndex := 6, attributes := #[] }] 33 0 #[] #[])
  fields := #[]
  methods := #[k0m0]
  instanceTypes := #[]
  staticTypes := #[]
  resolved := Array.replicate 124 none
  statics := none }

def pool1 : Array CpInfo := pool [(2, .class_ 4), (1, u "java/lang/Object"), (0, u "<init>"), (0, u "()V"), (0, .long 65535), (1, .long 18446744073709551615), (1, .long 255), (1, .methodref 14 15), (0, .class_ 16), (0, .nameAndType 17 18), (0, u "PortTranslatorOwnLaw"), (0, u "get8"), (0, u "(JI)I"), (0, .methodref 14 20), (0, .nameAndType 21 22), (0, u "cell"), (0, u "([II)I"), (0, .class_ 24), (0, u "PortTranslator"), (0, .methodref 23 26), (0, .nameAndType 5 27), (0, u "(IIII)V"), (0, .methodref 23 29), (0, .nameAndType 30 31), (0, u "insideHostOf"), (0, u "(I)I"), (0, .methodref 23 33), (0, .nameAndType 34 31), (0, u "deadlineOf"), (0, .methodref 14 36), (0, .nameAndType 37 38), (0, u "set16"), (0, u "(JII)J"), (0, .methodref 23 40), (0, .nameAndType 41 42), (0, u "setRemote"), (0, u "(II)Z"), (0, .methodref 23 44), (0, .nameAndType 45 46), (0, u "externalPortOf"), (0, u "(III)I"), (0, .methodref 23 48), (0, .nameAndType 49 50), (0, u "outbound"), (0, u "(IIII)I"), (0, .methodref 23 52), (0, .nameAndType 53 54), (0, u "resultExt"), (0, u "()I"), (0, .methodref 23 56), (0, .nameAndType 57 54), (0, u "now"), (0, .methodref 14 59), (0, .nameAndType 60 18), (0, u "get16"), (0, .methodref 14 62), (0, .nameAndType 63 38), (0, u "set8"), (0, .methodref 23 65), (0, .nameAndType 66 54), (0, u "resultHost"), (0, .methodref 23 68), (0, .nameAndType 69 54), (0, u "resultPort"), (0, .methodref 14 71), (0, .nameAndType 72 73), (0, u "ownerMatches"), (0, u "(JIIII)Z"), (0, .methodref 23 75), (0, .nameAndType 76 46), (0, u "inbound"), (0, .methodref 23 78), (0, .nameAndType 79 80), (0, u "advance"), (0, u "(I)Z"), (0, .methodref 23 82), (0, .nameAndType 83 31), (0, u "stateOf"), (0, .methodref 23 85), (0, .nameAndType 86 31), (0, u "insidePortOf"), (3, u "law"), (0, u "([I)Z")] 4

def k1m0 : Method := { name := "<init>", desc := "()V", sig := { parameters := [], returnType := none }, accessFlags := 1, code := none }
def k1c1 : Code := { maxStack := 2, maxLocals := 2, code := method_2_code, exceptionTable := #[], attributes := #[] }
def k1m1 : Method := { name := "cell", desc := "([II)I", sig := { parameters := [(.array .int), .int], returnType := some .int }, accessFlags := 10, code := some k1c1 }
def k1c2 : Code := { maxStack := 4, maxLocals := 3, code := method_3_code, exceptionTable := #[], attributes := #[] }
def k1m2 : Method := { name := "get16", desc := "(JI)I", sig := { parameters := [.long, .int], returnType := some .int }, accessFlags := 10, code := some k1c2 }
def k1c3 : Code := { maxStack := 6, maxLocals := 6, code := method_4_code, exceptionTable := #[], attributes := #[] }
def k1m3 : Method := { name := "set16", desc := "(JII)J", sig := { parameters := [.long, .int, .int], returnType := some .long }, accessFlags := 10, code := some k1c3 }
def k1c4 : Code := { maxStack := 4, maxLocals := 3, code := method_5_code, exceptionTable := #[], attributes := #[] }
def k1m4 : Method := { name := "get8", desc := "(JI)I", sig := { parameters := [.long, .int], returnType := some .int }, accessFlags := 10, code := some k1c4 }
def k1c5 : Code := { maxStack := 6, maxLocals := 6, code := method_6_code, exceptionTable := #[], attributes := #[] }
def k1m5 : Method := { name := "set8", desc := "(JII)J", sig := { parameters := [.long, .int, .int], returnType := some .long }, accessFlags := 10, code := some k1c5 }
def k1c6 : Code := { maxStack := 3, maxLocals := 7, code := method_7_code, exceptionTable := #[], attributes := #[] }
def k1m6 : Method := { name := "ownerMatches", desc := "(JIIII)Z", sig := { parameters := [.long, .int, .int, .int, .int], returnType := some .boolean }, accessFlags := 10, code := some k1c6 }
def k1c7 : Code := { maxStack := 6, maxLocals := 28, code := code, exceptionTable := #[], attributes := #[] }
def k1m7 : Method := { name := "law", desc := "([I)Z", sig := { parameters := [(.array .int)], returnType := some .boolean }, accessFlags := 9, code := some k1c7 }
/-- PortTranslatorOwnLaw -/
def k1 : Class := { plain "PortTranslatorOwnLaw" (some 0) with
  accessFlags := 49
  interfaces := #[]
  cf := some (fileOf pool1 14 #[] #[{ accessFlags := 1, nameIndex := 5, descriptorIndex := 6, attributes := #[] }, { accessFlags := 10, nameIndex := 21, descriptorIndex := 22, attributes := #[] }, { accessFlags := 10, nameIndex := 60, descriptorIndex := 18, attributes := #[] }, { accessFlags := 10, nameIndex := 37, descriptorIndex := 38, attributes := #[] }, { accessFlags := 10, nameIndex := 17, descriptorIndex := 18, attributes := #[] }, { accessFlags := 10, nameIndex := 63, descriptorIndex := 38, attributes := #[] }, { accessFlags := 10, nameIndex := 72, descriptorIndex := 73, attributes := #[] }, { accessFlags := 9, nameIndex := 90, descriptorIndex := 91, attributes := #[] }] 49 2 #[] #[])
  fields := #[]
  methods := #[k1m0, k1m1, k1m2, k1m3, k1m4, k1m5, k1m6, k1m7]
  instanceTypes := #[]
  staticTypes := #[]
  resolved := Array.replicate 96 none
  statics := none }

def pool2 : Array CpInfo := pool [(1, .methodref 2 3), (0, .class_ 4), (0, .nameAndType 5 6), (0, u "java/lang/Object"), (0, u "<init>"), (0, u "()V"), (0, .fieldref 8 9), (0, .class_ 10), (0, .nameAndType 11 12), (0, u "PortTranslator"), (0, u "live"), (0, u "[Z"), (0, .fieldref 8 14), (0, .nameAndType 15 12), (0, u "used"), (0, .fieldref 8 17), (0, .nameAndType 18 19), (0, u "freedAt"), (0, u "[I"), (0, .fieldref 8 21), (0, .nameAndType 22 19), (0, u "protoOf"), (0, .fieldref 8 24), (0, .nameAndType 25 19), (0, u "hostOf"), (0, .fieldref 8 27), (0, .nameAndType 28 19), (0, u "iportOf"), (0, .fieldref 8 30), (0, .nameAndType 31 19), (0, u "stateAt"), (0, .fieldref 8 33), (0, .nameAndType 34 19), (0, u "deadlineAt"), (0, .fieldref 8 36), (0, .nameAndType 37 38), (0, u "perm"), (0, u "[J"), (0, .methodref 8 40), (0, .nameAndType 41 42), (0, u "clamp"), (0, u "(III)I"), (0, .fieldref 8 44), (0, .nameAndType 45 46), (0, u "poolSize"), (0, u "I"), (0, .fieldref 8 48), (0, .nameAndType 49 46), (0, u "udpTimeout"), (0, .fieldref 8 51), (0, .nameAndType 52 46), (0, u "tcpTimeout"), (0, .fieldref 8 54), (0, .nameAndType 55 46), (0, u "cooldown"), (0, .fieldref 8 57), (0, .nameAndType 58 46), (0, u "clock"), (0, .fieldref 8 60), (0, .nameAndType 61 46), (0, u "remAddr"), (0, .fieldref 8 63), (0, .nameAndType 64 46), (0, u "remPort"), (0, .fieldref 8 66), (0, .nameAndType 67 46), (0, u "regHost"), (0, .fieldref 8 69), (0, .nameAndType 70 46), (0, u "regPort"), (0, .fieldref 8 72), (0, .nameAndType 73 46), (0, u "regExt"), (0, .integer 65535), (0, .methodref 8 76), (0, .nameAndType 77 78), (0, u "validProtoFlags"), (0, u "(II)Z"), (0, .methodref 8 80), (0, .nameAndType 81 42), (0, u "findKey"), (0, .methodref 8 83), (0, .nameAndType 84 85), (0, u "allocatableSlot"), (0, u "()I"), (0, .methodref 8 87), (0, .nameAndType 88 89), (0, u "openMapping"), (0, u "(IIII)V"), (0, .methodref 8 91), (0, .nameAndType 92 93), (0, u "addPerm"), (0, u "(II)V"), (0, .methodref 8 95), (0, .nameAndType 96 97), (0, u "update"), (0, u "(IIZ)V"), (0, .methodref 8 99), (0, .nameAndType 100 101), (0, u "hairpin"), (0, u "(II)I"), (0, .methodref 8 103), (0, .nameAndType 104 101), (0, u "liveSlot"), (0, .methodref 8 106), (0, .nameAndType 107 78), (0, u "hasPerm"), (0, .methodref 8 109), (0, .nameAndType 110 93), (0, u "release"), (0, .methodref 8 112), (0, .nameAndType 113 114), (0, u "liveAt"), (0, u "(I)I"), (0, .methodref 8 116), (0, .nameAndType 117 114), (0, u "slotOf"), (0, .methodref 8 119), (0, .nameAndType 120 114), (0, u "availTime"), (0, .methodref 8 122), (0, .nameAndType 123 124), (0, u "clearPerm"), (0, u "(I)V"), (0, .methodref 8 126), (0, .nameAndType 127 114), (0, u "timeoutOf"), (0, u "UDP"), (2, u "TCP"), (1, u "SYN"), (1, u "ACK"), (1, u "FIN"), (1, u "RST"), (1, u "PORT_BASE"), (1, u "EXTERNAL_ADDR"), (1, u "HOSTS"), (0, u "TRANSITORY"), (1, u "STATE_UDP"), (1, u "OPENING"), (0, u "ESTABLISHED"), (0, u "CLOSING"), (1, u "OK_OUT"), (0, u "OK_IN"), (0, u "OK_HAIRPIN"), (0, u "HAIRPIN_DROPPED"), (0, u "ERR_ARG"), (1, u "ERR_POOL"), (1, u "ERR_TCP"), (1, u "DROP_NOMAP"), (1, u "DROP_FILTER"), (1, u "MAX_POOL"), (1, u "PERM_WORDS"), (2, u "setRemote"), (1, u "outbound"), (0, u "(IIII)I"), (0, u "inbound"), (0, u "advance"), (0, u "(I)Z"), (0, u "now"), (0, u "resultHost"), (0, u "resultPort"), (0, u "resultExt"), (1, u "externalPortOf"), (0, u "insideHostOf"), (0, u "insidePortOf"), (0, u "stateOf"), (0, u "deadlineOf")] 5

def k2c0 : Code := { maxStack := 5, maxLocals := 5, code := prog_1_method_1_code, exceptionTable := #[], attributes := #[] }
def k2m0 : Method := { name := "<init>", desc := "(IIII)V", sig := { parameters := [.int, .int, .int, .int], returnType := none }, accessFlags := 1, code := some k2c0 }
def k2c1 : Code := { maxStack := 2, maxLocals := 3, code := prog_1_method_2_code, exceptionTable := #[], attributes := #[] }
def k2m1 : Method := { name := "setRemote", desc := "(II)Z", sig := { parameters := [.int, .int], returnType := some .boolean }, accessFlags := 1, code := some k2c1 }
def k2c2 : Code := { maxStack := 5, maxLocals := 6, code := prog_1_method_3_code, exceptionTable := #[], attributes := #[] }
def k2m2 : Method := { name := "outbound", desc := "(IIII)I", sig := { parameters := [.int, .int, .int, .int], returnType := some .int }, accessFlags := 1, code := some k2c2 }
def k2c3 : Code := { maxStack := 4, maxLocals := 5, code := prog_1_method_4_code, exceptionTable := #[], attributes := #[] }
def k2m3 : Method := { name := "inbound", desc := "(III)I", sig := { parameters := [.int, .int, .int], returnType := some .int }, accessFlags := 1, code := some k2c3 }
def k2c4 : Code := { maxStack := 4, maxLocals := 3, code := prog_1_method_5_code, exceptionTable := #[], attributes := #[] }
def k2m4 : Method := { name := "advance", desc := "(I)Z", sig := { parameters := [.int], returnType := some .boolean }, accessFlags := 1, code := some k2c4 }
def k2c5 : Code := { maxStack := 1, maxLocals := 1, code := prog_1_method_6_code, exceptionTable := #[], attributes := #[] }
def k2m5 : Method := { name := "now", desc := "()I", sig := { parameters := [], returnType := some .int }, accessFlags := 1, code := some k2c5 }
def k2c6 : Code := { maxStack := 1, maxLocals := 1, code := prog_1_method_7_code, exceptionTable := #[], attributes := #[] }
def k2m6 : Method := { name := "resultHost", desc := "()I", sig := { parameters := [], returnType := some .int }, accessFlags := 1, code := some k2c6 }
def k2c7 : Code := { maxStack := 1, maxLocals := 1, code := prog_1_method_8_code, exceptionTable := #[], attributes := #[] }
def k2m7 : Method := { name := "resultPort", desc := "()I", sig := { parameters := [], returnType := some .int }, accessFlags := 1, code := some k2c7 }
def k2c8 : Code := { maxStack := 1, maxLocals := 1, code := prog_1_method_9_code, exceptionTable := #[], attributes := #[] }
def k2m8 : Method := { name := "resultExt", desc := "()I", sig := { parameters := [], returnType := some .int }, accessFlags := 1, code := some k2c8 }
def k2c9 : Code := { maxStack := 4, maxLocals := 5, code := prog_1_method_11_code, exceptionTable := #[], attributes := #[] }
def k2m9 : Method := { name := "externalPortOf", desc := "(III)I", sig := { parameters := [.int, .int, .int], returnType := some .int }, accessFlags := 1, code := some k2c9 }
def k2c10 : Code := { maxStack := 2, maxLocals := 3, code := prog_1_method_12_code, exceptionTable := #[], attributes := #[] }
def k2m10 : Method := { name := "insideHostOf", desc := "(I)I", sig := { parameters := [.int], returnType := some .int }, accessFlags := 1, code := some k2c10 }
def k2c11 : Code := { maxStack := 2, maxLocals := 3, code := prog_1_method_13_code, exceptionTable := #[], attributes := #[] }
def k2m11 : Method := { name := "insidePortOf", desc := "(I)I", sig := { parameters := [.int], returnType := some .int }, accessFlags := 1, code := some k2c11 }
def k2c12 : Code := { maxStack := 2, maxLocals := 3, code := prog_1_method_14_code, exceptionTable := #[], attributes := #[] }
def k2m12 : Method := { name := "stateOf", desc := "(I)I", sig := { parameters := [.int], returnType := some .int }, accessFlags := 1, code := some k2c12 }
def k2c13 : Code := { maxStack := 2, maxLocals := 3, code := prog_1_method_15_code, exceptionTable := #[], attributes := #[] }
def k2m13 : Method := { name := "deadlineOf", desc := "(I)I", sig := { parameters := [.int], returnType := some .int }, accessFlags := 1, code := some k2c13 }
def k2c14 : Code := { maxStack := 2, maxLocals := 4, code := prog_1_method_18_code, exceptionTable := #[], attributes := #[] }
def k2m14 : Method := { name := "clamp", desc := "(III)I", sig := { parameters := [.int, .int, .int], returnType := some .int }, accessFlags := 2, code := some k2c14 }
def k2c15 : Code := { maxStack := 2, maxLocals := 3, code := prog_1_method_19_code, exceptionTable := #[], attributes := #[] }
def k2m15 : Method := { name := "validProtoFlags", desc := "(II)Z", sig := { parameters := [.int, .int], returnType := some .boolean }, accessFlags := 2, code := some k2c15 }
def k2c16 : Code := { maxStack := 3, maxLocals := 2, code := prog_1_method_20_code, exceptionTable := #[], attributes := #[] }
def k2m16 : Method := { name := "slotOf", desc := "(I)I", sig := { parameters := [.int], returnType := some .int }, accessFlags := 2, code := some k2c16 }
def k2c17 : Code := { maxStack := 2, maxLocals := 3, code := prog_1_method_21_code, exceptionTable := #[], attributes := #[] }
def k2m17 : Method := { name := "liveAt", desc := "(I)I", sig := { parameters := [.int], returnType := some .int }, accessFlags := 2, code := some k2c17 }
def k2c18 : Code := { maxStack := 2, maxLocals := 4, code := prog_1_method_22_code, exceptionTable := #[], attributes := #[] }
def k2m18 : Method := { name := "liveSlot", desc := "(II)I", sig := { parameters := [.int, .int], returnType := some .int }, accessFlags := 2, code := some k2c18 }
def k2c19 : Code := { maxStack := 2, maxLocals := 5, code := prog_1_method_23_code, exceptionTable := #[], attributes := #[] }
def k2m19 : Method := { name := "findKey", desc := "(III)I", sig := { parameters := [.int, .int, .int], returnType := some .int }, accessFlags := 2, code := some k2c19 }
def k2c20 : Code := { maxStack := 2, maxLocals := 2, code := prog_1_method_24_code, exceptionTable := #[], attributes := #[] }
def k2m20 : Method := { name := "availTime", desc := "(I)I", sig := { parameters := [.int], returnType := some .int }, accessFlags := 2, code := some k2c20 }
def k2c21 : Code := { maxStack := 2, maxLocals := 2, code := prog_1_method_25_code, exceptionTable := #[], attributes := #[] }
def k2m21 : Method := { name := "allocatableSlot", desc := "()I", sig := { parameters := [], returnType := some .int }, accessFlags := 2, code := some k2c21 }
def k2c22 : Code := { maxStack := 4, maxLocals := 5, code := prog_1_method_26_code, exceptionTable := #[], attributes := #[] }
def k2m22 : Method := { name := "openMapping", desc := "(IIII)V", sig := { parameters := [.int, .int, .int, .int], returnType := none }, accessFlags := 2, code := some k2c22 }
def k2c23 : Code := { maxStack := 3, maxLocals := 3, code := prog_1_method_27_code, exceptionTable := #[], attributes := #[] }
def k2m23 : Method := { name := "release", desc := "(II)V", sig := { parameters := [.int, .int], returnType := none }, accessFlags := 2, code := some k2c23 }
def k2c24 : Code := { maxStack := 4, maxLocals := 4, code := prog_1_method_28_code, exceptionTable := #[], attributes := #[] }
def k2m24 : Method := { name := "clearPerm", desc := "(I)V", sig := { parameters := [.int], returnType := none }, accessFlags := 2, code := some k2c24 }
def k2c25 : Code := { maxStack := 8, maxLocals := 4, code := prog_1_method_29_code, exceptionTable := #[], attributes := #[] }
def k2m25 : Method := { name := "addPerm", desc := "(II)V", sig := { parameters := [.int, .int], returnType := none }, accessFlags := 2, code := some k2c25 }
def k2c26 : Code := { maxStack := 6, maxLocals := 4, code := prog_1_method_30_code, exceptionTable := #[], attributes := #[] }
def k2m26 : Method := { name := "hasPerm", desc := "(II)Z", sig := { parameters := [.int, .int], returnType := some .boolean }, accessFlags := 2, code := some k2c26 }
def k2c27 : Code := { maxStack := 2, maxLocals := 2, code := prog_1_method_31_code, exceptionTable := #[], attributes := #[] }
def k2m27 : Method := { name := "timeoutOf", desc := "(I)I", sig := { parameters := [.int], returnType := some .int }, accessFlags := 2, code := some k2c27 }
def k2c28 : Code := { maxStack := 5, maxLocals := 7, code := prog_1_method_32_code, exceptionTable := #[], attributes := #[] }
def k2m28 : Method := { name := "update", desc := "(IIZ)V", sig := { parameters := [.int, .int, .boolean], returnType := none }, accessFlags := 2, code := some k2c28 }
def k2c29 : Code := { maxStack := 4, maxLocals := 4, code := prog_1_method_33_code, exceptionTable := #[], attributes := #[] }
def k2m29 : Method := { name := "hairpin", desc := "(II)I", sig := { parameters := [.int, .int], returnType := some .int }, accessFlags := 2, code := some k2c29 }
/-- PortTranslator -/
def k2 : Class := { plain "PortTranslator" (some 0) with
  accessFlags := 49
  interfaces := #[]
  cf := some (fileOf pool2 8 #[] #[{ accessFlags := 1, nameIndex := 5, descriptorIndex := 89, attributes := #[] }, { accessFlags := 1, nameIndex := 173, descriptorIndex := 78, attributes := #[] }, { accessFlags := 1, nameIndex := 175, descriptorIndex := 176, attributes := #[] }, { accessFlags := 1, nameIndex := 177, descriptorIndex := 42, attributes := #[] }, { accessFlags := 1, nameIndex := 178, descriptorIndex := 179, attributes := #[] }, { accessFlags := 1, nameIndex := 180, descriptorIndex := 85, attributes := #[] }, { accessFlags := 1, nameIndex := 181, descriptorIndex := 85, attributes := #[] }, { accessFlags := 1, nameIndex := 182, descriptorIndex := 85, attributes := #[] }, { accessFlags := 1, nameIndex := 183, descriptorIndex := 85, attributes := #[] }, { accessFlags := 1, nameIndex := 185, descriptorIndex := 42, attributes := #[] }, { accessFlags := 1, nameIndex := 186, descriptorIndex := 114, attributes := #[] }, { accessFlags := 1, nameIndex := 187, descriptorIndex := 114, attributes := #[] }, { accessFlags := 1, nameIndex := 188, descriptorIndex := 114, attributes := #[] }, { accessFlags := 1, nameIndex := 189, descriptorIndex := 114, attributes := #[] }, { accessFlags := 2, nameIndex := 41, descriptorIndex := 42, attributes := #[] }, { accessFlags := 2, nameIndex := 77, descriptorIndex := 78, attributes := #[] }, { accessFlags := 2, nameIndex := 117, descriptorIndex := 114, attributes := #[] }, { accessFlags := 2, nameIndex := 113, descriptorIndex := 114, attributes := #[] }, { accessFlags := 2, nameIndex := 104, descriptorIndex := 101, attributes := #[] }, { accessFlags := 2, nameIndex := 81, descriptorIndex := 42, attributes := #[] }, { accessFlags := 2, nameIndex := 120, descriptorIndex := 114, attributes := #[] }, { accessFlags := 2, nameIndex := 84, descriptorIndex := 85, attributes := #[] }, { accessFlags := 2, nameIndex := 88, descriptorIndex := 89, attributes := #[] }, { accessFlags := 2, nameIndex := 110, descriptorIndex := 93, attributes := #[] }, { accessFlags := 2, nameIndex := 123, descriptorIndex := 124, attributes := #[] }, { accessFlags := 2, nameIndex := 92, descriptorIndex := 93, attributes := #[] }, { accessFlags := 2, nameIndex := 107, descriptorIndex := 78, attributes := #[] }, { accessFlags := 2, nameIndex := 127, descriptorIndex := 114, attributes := #[] }, { accessFlags := 2, nameIndex := 96, descriptorIndex := 97, attributes := #[] }, { accessFlags := 2, nameIndex := 100, descriptorIndex := 101, attributes := #[] }] 49 2 #[] #[{ accessFlags := 25, nameIndex := 128, descriptorIndex := 46, attributes := #[] }, { accessFlags := 25, nameIndex := 131, descriptorIndex := 46, attributes := #[] }, { accessFlags := 25, nameIndex := 133, descriptorIndex := 46, attributes := #[] }, { accessFlags := 25, nameIndex := 135, descriptorIndex := 46, attributes := #[] }, { accessFlags := 25, nameIndex := 137, descriptorIndex := 46, attributes := #[] }, { accessFlags := 25, nameIndex := 139, descriptorIndex := 46, attributes := #[] }, { accessFlags := 25, nameIndex := 141, descriptorIndex := 46, attributes := #[] }, { accessFlags := 25, nameIndex := 143, descriptorIndex := 46, attributes := #[] }, { accessFlags := 25, nameIndex := 145, descriptorIndex := 46, attributes := #[] }, { accessFlags := 25, nameIndex := 146, descriptorIndex := 46, attributes := #[] }, { accessFlags := 25, nameIndex := 148, descriptorIndex := 46, attributes := #[] }, { accessFlags := 25, nameIndex := 150, descriptorIndex := 46, attributes := #[] }, { accessFlags := 25, nameIndex := 151, descriptorIndex := 46, attributes := #[] }, { accessFlags := 25, nameIndex := 152, descriptorIndex := 46, attributes := #[] }, { accessFlags := 25, nameIndex := 154, descriptorIndex := 46, attributes := #[] }, { accessFlags := 25, nameIndex := 155, descriptorIndex := 46, attributes := #[] }, { accessFlags := 25, nameIndex := 156, descriptorIndex := 46, attributes := #[] }, { accessFlags := 25, nameIndex := 157, descriptorIndex := 46, attributes := #[] }, { accessFlags := 25, nameIndex := 158, descriptorIndex := 46, attributes := #[] }, { accessFlags := 25, nameIndex := 160, descriptorIndex := 46, attributes := #[] }, { accessFlags := 25, nameIndex := 162, descriptorIndex := 46, attributes := #[] }, { accessFlags := 25, nameIndex := 164, descriptorIndex := 46, attributes := #[] }, { accessFlags := 25, nameIndex := 166, descriptorIndex := 46, attributes := #[] }, { accessFlags := 26, nameIndex := 168, descriptorIndex := 46, attributes := #[] }, { accessFlags := 26, nameIndex := 170, descriptorIndex := 46, attributes := #[] }, { accessFlags := 2, nameIndex := 45, descriptorIndex := 46, attributes := #[] }, { accessFlags := 2, nameIndex := 49, descriptorIndex := 46, attributes := #[] }, { accessFlags := 2, nameIndex := 52, descriptorIndex := 46, attributes := #[] }, { accessFlags := 2, nameIndex := 55, descriptorIndex := 46, attributes := #[] }, { accessFlags := 2, nameIndex := 58, descriptorIndex := 46, attributes := #[] }, { accessFlags := 2, nameIndex := 61, descriptorIndex := 46, attributes := #[] }, { accessFlags := 2, nameIndex := 64, descriptorIndex := 46, attributes := #[] }, { accessFlags := 2, nameIndex := 67, descriptorIndex := 46, attributes := #[] }, { accessFlags := 2, nameIndex := 70, descriptorIndex := 46, attributes := #[] }, { accessFlags := 2, nameIndex := 73, descriptorIndex := 46, attributes := #[] }, { accessFlags := 2, nameIndex := 11, descriptorIndex := 12, attributes := #[] }, { accessFlags := 2, nameIndex := 15, descriptorIndex := 12, attributes := #[] }, { accessFlags := 2, nameIndex := 18, descriptorIndex := 19, attributes := #[] }, { accessFlags := 2, nameIndex := 22, descriptorIndex := 19, attributes := #[] }, { accessFlags := 2, nameIndex := 25, descriptorIndex := 19, attributes := #[] }, { accessFlags := 2, nameIndex := 28, descriptorIndex := 19, attributes := #[] }, { accessFlags := 2, nameIndex := 31, descriptorIndex := 19, attributes := #[] }, { accessFlags := 2, nameIndex := 34, descriptorIndex := 19, attributes := #[] }, { accessFlags := 2, nameIndex := 37, descriptorIndex := 38, attributes := #[] }])
  fields := #[{ name := "UDP", type := .int, accessFlags := 25, slot := 0, constantValue := 0 }, { name := "TCP", type := .int, accessFlags := 25, slot := 1, constantValue := 0 }, { name := "SYN", type := .int, accessFlags := 25, slot := 2, constantValue := 0 }, { name := "ACK", type := .int, accessFlags := 25, slot := 3, constantValue := 0 }, { name := "FIN", type := .int, accessFlags := 25, slot := 4, constantValue := 0 }, { name := "RST", type := .int, accessFlags := 25, slot := 5, constantValue := 0 }, { name := "PORT_BASE", type := .int, accessFlags := 25, slot := 6, constantValue := 0 }, { name := "EXTERNAL_ADDR", type := .int, accessFlags := 25, slot := 7, constantValue := 0 }, { name := "HOSTS", type := .int, accessFlags := 25, slot := 8, constantValue := 0 }, { name := "TRANSITORY", type := .int, accessFlags := 25, slot := 9, constantValue := 0 }, { name := "STATE_UDP", type := .int, accessFlags := 25, slot := 10, constantValue := 0 }, { name := "OPENING", type := .int, accessFlags := 25, slot := 11, constantValue := 0 }, { name := "ESTABLISHED", type := .int, accessFlags := 25, slot := 12, constantValue := 0 }, { name := "CLOSING", type := .int, accessFlags := 25, slot := 13, constantValue := 0 }, { name := "OK_OUT", type := .int, accessFlags := 25, slot := 14, constantValue := 0 }, { name := "OK_IN", type := .int, accessFlags := 25, slot := 15, constantValue := 0 }, { name := "OK_HAIRPIN", type := .int, accessFlags := 25, slot := 16, constantValue := 0 }, { name := "HAIRPIN_DROPPED", type := .int, accessFlags := 25, slot := 17, constantValue := 0 }, { name := "ERR_ARG", type := .int, accessFlags := 25, slot := 18, constantValue := 0 }, { name := "ERR_POOL", type := .int, accessFlags := 25, slot := 19, constantValue := 0 }, { name := "ERR_TCP", type := .int, accessFlags := 25, slot := 20, constantValue := 0 }, { name := "DROP_NOMAP", type := .int, accessFlags := 25, slot := 21, constantValue := 0 }, { name := "DROP_FILTER", type := .int, accessFlags := 25, slot := 22, constantValue := 0 }, { name := "MAX_POOL", type := .int, accessFlags := 26, slot := 23, constantValue := 0 }, { name := "PERM_WORDS", type := .int, accessFlags := 26, slot := 24, constantValue := 0 }, { name := "poolSize", type := .int, accessFlags := 2, slot := 0, constantValue := 0 }, { name := "udpTimeout", type := .int, accessFlags := 2, slot := 1, constantValue := 0 }, { name := "tcpTimeout", type := .int, accessFlags := 2, slot := 2, constantValue := 0 }, { name := "cooldown", type := .int, accessFlags := 2, slot := 3, constantValue := 0 }, { name := "clock", type := .int, accessFlags := 2, slot := 4, constantValue := 0 }, { name := "remAddr", type := .int, accessFlags := 2, slot := 5, constantValue := 0 }, { name := "remPort", type := .int, accessFlags := 2, slot := 6, constantValue := 0 }, { name := "regHost", type := .int, accessFlags := 2, slot := 7, constantValue := 0 }, { name := "regPort", type := .int, accessFlags := 2, slot := 8, constantValue := 0 }, { name := "regExt", type := .int, accessFlags := 2, slot := 9, constantValue := 0 }, { name := "live", type := (.array .boolean), accessFlags := 2, slot := 10, constantValue := 0 }, { name := "used", type := (.array .boolean), accessFlags := 2, slot := 11, constantValue := 0 }, { name := "freedAt", type := (.array .int), accessFlags := 2, slot := 12, constantValue := 0 }, { name := "protoOf", type := (.array .int), accessFlags := 2, slot := 13, constantValue := 0 }, { name := "hostOf", type := (.array .int), accessFlags := 2, slot := 14, constantValue := 0 }, { name := "iportOf", type := (.array .int), accessFlags := 2, slot := 15, constantValue := 0 }, { name := "stateAt", type := (.array .int), accessFlags := 2, slot := 16, constantValue := 0 }, { name := "deadlineAt", type := (.array .int), accessFlags := 2, slot := 17, constantValue := 0 }, { name := "perm", type := (.array .long), accessFlags := 2, slot := 18, constantValue := 0 }]
  methods := #[k2m0, k2m1, k2m2, k2m3, k2m4, k2m5, k2m6, k2m7, k2m8, k2m9, k2m10, k2m11, k2m12, k2m13, k2m14, k2m15, k2m16, k2m17, k2m18, k2m19, k2m20, k2m21, k2m22, k2m23, k2m24, k2m25, k2m26, k2m27, k2m28, k2m29]
  instanceTypes := #[.int, .int, .int, .int, .int, .int, .int, .int, .int, .int, (.array .boolean), (.array .boolean), (.array .int), (.array .int), (.array .int), (.array .int), (.array .int), (.array .int), (.array .long)]
  staticTypes := #[.int, .int, .int, .int, .int, .int, .int, .int, .int, .int, .int, .int, .int, .int, .int, .int, .int, .int, .int, .int, .int, .int, .int, .int, .int]
  resolved := Array.replicate 195 none
  statics := none }

def pool3 : Array CpInfo := pool [(1, u "java/lang/Cloneable"), (0, .class_ 1), (0, u "java/lang/Object"), (0, .class_ 3)] 3

/-- java/lang/Cloneable -/
def k3 : Class := { plain "java/lang/Cloneable" (some 0) with
  accessFlags := 1537
  interfaces := #[]
  cf := some (fileOf pool3 2 #[] #[] 1537 4 #[] #[])
  fields := #[]
  methods := #[]
  instanceTypes := #[]
  staticTypes := #[]
  resolved := Array.replicate 8 none
  statics := none }

def pool4 : Array CpInfo := pool [(1, u "java/io/Serializable"), (0, .class_ 1), (0, u "java/lang/Object"), (0, .class_ 3)] 3

/-- java/io/Serializable -/
def k4 : Class := { plain "java/io/Serializable" (some 0) with
  accessFlags := 1537
  interfaces := #[]
  cf := some (fileOf pool4 2 #[] #[] 1537 4 #[] #[])
  fields := #[]
  methods := #[]
  instanceTypes := #[]
  staticTypes := #[]
  resolved := Array.replicate 8 none
  statics := none }

/-- the primitive boolean -/
def k5 : Class := { plain "boolean" none with kind := .primitive 'Z', accessFlags := 0x411 }
/-- [Z -/
def k6 : Class := { plain "[Z" (some 0) with kind := .array 5 .boolean, interfaces := #[3, 4], accessFlags := 1041 }

/-- the primitive byte -/
def k7 : Class := { plain "byte" none with kind := .primitive 'B', accessFlags := 0x411 }
/-- [B -/
def k8 : Class := { plain "[B" (some 0) with kind := .array 7 .byte, interfaces := #[3, 4], accessFlags := 1041 }

/-- the primitive int -/
def k9 : Class := { plain "int" none with kind := .primitive 'I', accessFlags := 0x411 }
/-- [I -/
def k10 : Class := { plain "[I" (some 0) with kind := .array 9 .int, interfaces := #[3, 4], accessFlags := 1041 }

/-- the primitive long -/
def k11 : Class := { plain "long" none with kind := .primitive 'J', accessFlags := 0x411 }
/-- [J -/
def k12 : Class := { plain "[J" (some 0) with kind := .array 11 .long, interfaces := #[3, 4], accessFlags := 1041 }

def heap : Heap := #[{ cls := 10, slots := #[.int 1, .int 2, .int 3], vm := .none }]
def classes : Array Class := #[k0, k1, k2, k3, k4, k5, k6, k7, k8, k9, k10, k11, k12]
def interned : List (Array UInt16 × Addr) := []
def slotsUsed : Nat := 3
def theMethod : MethodId := ⟨1, 7⟩
def args0 : Array Value := #[.ref 0]
def aboutOver (below : List Frame) : State where
  vm := { classes := classes, interned := interned.toArray }
  heap := heap
  slotsUsed := slotsUsed
  threads := #[{ frames := .invoking theMethod args0 :: below }]
def below0 : List Frame := [.native { method := ⟨0, 0⟩, args := #[] }]
def about1 : State := aboutOver below0
def p0 : Program := .bare "" "" ""
def e0 : Env := launch0.env 0 0 0
theorem w_frames : about1.frames = Frame.invoking theMethod args0 :: below0 := rfl
set_option maxRecDepth 65536 in
theorem w_args : argsFit about1.vm theMethod args0 = true := by decide +kernel
set_option maxRecDepth 65536 in
theorem w_heap : heapFits about1 = true := by decide +kernel
set_option maxRecDepth 65536 in
theorem w_runnable : about1.curStatus? = some .runnable := by decide +kernel
set_option maxRecDepth 65536 in
theorem w_alone : about1.alone = true := by decide +kernel
set_option maxRecDepth 65536 in
theorem w_named : about1.methodNamed? x = some theMethod := by decide +kernel
set_option maxRecDepth 65536 in
theorem w_hears : about1.hears theMethod below0 = true := by decide +kernel
set_option maxRecDepth 65536 in
theorem w_ripe : about1.ripe theMethod args0 below0 = true := by decide +kernel
theorem w_running : about1.status = .running := rfl
set_option maxRecDepth 65536 in
theorem w_room : about1.hasRoom e0.platform room_1 = true :=
  launch0.hasRoom_least _ room_1 (by decide +kernel) (by decide +kernel) (by decide +kernel) (by decide +kernel) (by decide +kernel) (by decide +kernel)
theorem allAtoms_all (ts : List Jvm.Cond) (a : Array Jvm.Value) (st : Jvm.State) : (allAtoms ts).before a st = ts.all (fun c => c.before a st) := by
  induction ts with
  | nil => rfl
  | cons c t ih =>
    show (Jvm.Cond.and c (allAtoms t)).before a st = _
    rw [Jvm.Cond.before_and, ih, List.all_cons]
def words1 : List Jvm.Cond := Jvm.Cond.code x code maxLocals ret :: tables_1
/-- a 'code' word, met by the world's own term for the bytes: nothing is compared byte by byte -/
theorem code_word {y : MethodName} {bytes : ByteArray} {mx : Nat} {rt : Option FieldType} {a : Array Value} {s : State} {m : MethodId} {meth : Method} {c : Code} (h1 : s.methodNamed? y = some m) (h2 : s.vm.method? m = some meth) (h3 : meth.code = some c) (h4 : c.code = bytes)
    (h5 : (c.maxLocals == mx && c.exceptionTable.isEmpty && decide (c.maxStack ≤ mostOperands) && decide (meth.sig.returnType = rt) && !meth.locks && decide (parseMethodDescriptor y.desc = some meth.sig)) = true) : (Jvm.Cond.code y bytes mx rt).before a s = true := by
  simp only [Bool.and_eq_true, beq_iff_eq, Bool.not_eq_true', decide_eq_true_eq] at h5
  obtain ⟨⟨⟨⟨⟨g1, g2⟩, g3⟩, g4⟩, g5⟩, g6⟩ := h5
  simp [Cond.before, Cond.holds, Cond.value, h1, h2, h3, h4, g1, g2, g3, g4, g5, g6]
def isCode : Jvm.Cond → Bool
  | .code _ _ _ _ => true
  | _ => false
theorem all_split {L : List Jvm.Cond} {P : Jvm.Cond → Bool} (h1 : L.all (fun c => isCode c || P c) = true) (h2 : ∀ c ∈ L.filter isCode, P c = true) : L.all P = true := by
  refine List.all_eq_true.mpr fun c hc => ?_
  have h := List.all_eq_true.mp h1 c hc
  rcases Bool.eq_false_or_eq_true (isCode c) with hi | hi
  · exact h2 c (List.mem_filter.mpr ⟨hc, hi⟩)
  · simpa [hi] using h
set_option maxRecDepth 65536 in
theorem w_c0 : (Jvm.Cond.code x code maxLocals ret).before args0 about1 = true := code_word (m := ⟨1, 7⟩) (meth := k1m7) (c := k1c7) (by decide +kernel) rfl rfl rfl (by decide +kernel)
set_option maxRecDepth 65536 in
theorem w_c1 : (Jvm.Cond.code ({ cls := "PortTranslatorOwnLaw", name := "cell", desc := "([II)I" } : Jvm.MethodName) method_2_code (2 : Nat) (Option.some Jvm.ClassFile.FieldType.int)).before args0 about1 = true := code_word (m := ⟨1, 1⟩) (meth := k1m1) (c := k1c1) (by decide +kernel) rfl rfl rfl (by decide +kernel)
set_option maxRecDepth 65536 in
theorem w_c2 : (Jvm.Cond.code ({ cls := "PortTranslator", name := "<init>", desc := "(IIII)V" } : Jvm.MethodName) prog_1_method_1_code (5 : Nat) (Option.none : Option Jvm.ClassFile.FieldType)).before args0 about1 = true := code_word (m := ⟨2, 0⟩) (meth := k2m0) (c := k2c0) (by decide +kernel) rfl rfl rfl (by decide +kernel)
set_option maxRecDepth 65536 in
theorem w_c3 : (Jvm.Cond.code ({ cls := "java/lang/Object", name := "<init>", desc := "()V" } : Jvm.MethodName) object_method_1_code (1 : Nat) (Option.none : Option Jvm.ClassFile.FieldType)).before args0 about1 = true := code_word (m := ⟨0, 0⟩) (meth := k0m0) (c := k0c0) (by decide +kernel) rfl rfl rfl (by decide +kernel)
set_option maxRecDepth 65536 in
theorem w_c4 : (Jvm.Cond.code ({ cls := "PortTranslator", name := "clamp", desc := "(III)I" } : Jvm.MethodName) prog_1_method_18_code (4 : Nat) (Option.some Jvm.ClassFile.FieldType.int)).before args0 about1 = true := code_word (m := ⟨2, 14⟩) (meth := k2m14) (c := k2c14) (by decide +kernel) rfl rfl rfl (by decide +kernel)
set_option maxRecDepth 65536 in
theorem w_c5 : (Jvm.Cond.code ({ cls := "PortTranslator", name := "insideHostOf", desc := "(I)I" } : Jvm.MethodName) prog_1_method_12_code (3 : Nat) (Option.some Jvm.ClassFile.FieldType.int)).before args0 about1 = true := code_word (m := ⟨2, 10⟩) (meth := k2m10) (c := k2c10) (by decide +kernel) rfl rfl rfl (by decide +kernel)
set_option maxRecDepth 65536 in
theorem w_c6 : (Jvm.Cond.code ({ cls := "PortTranslator", name := "liveAt", desc := "(I)I" } : Jvm.MethodName) prog_1_method_21_code (3 : Nat) (Option.some Jvm.ClassFile.FieldType.int)).before args0 about1 = true := code_word (m := ⟨2, 17⟩) (meth := k2m17) (c := k2c17) (by decide +kernel) rfl rfl rfl (by decide +kernel)
set_option maxRecDepth 65536 in
theorem w_c7 : (Jvm.Cond.code ({ cls := "PortTranslator", name := "slotOf", desc := "(I)I" } : Jvm.MethodName) prog_1_method_20_code (2 : Nat) (Option.some Jvm.ClassFile.FieldType.int)).before args0 about1 = true := code_word (m := ⟨2, 16⟩) (meth := k2m16) (c := k2c16) (by decide +kernel) rfl rfl rfl (by decide +kernel)
set_option maxRecDepth 65536 in
theorem w_c8 : (Jvm.Cond.code ({ cls := "PortTranslator", name := "externalPortOf", desc := "(III)I" } : Jvm.MethodName) prog_1_method_11_code (5 : Nat) (Option.some Jvm.ClassFile.FieldType.int)).before args0 about1 = true := code_word (m := ⟨2, 9⟩) (meth := k2m9) (c := k2c9) (by decide +kernel) rfl rfl rfl (by decide +kernel)
set_option maxRecDepth 65536 in
theorem w_c9 : (Jvm.Cond.code ({ cls := "PortTranslator", name := "findKey", desc := "(III)I" } : Jvm.MethodName) prog_1_method_23_code (5 : Nat) (Option.some Jvm.ClassFile.FieldType.int)).before args0 about1 = true := code_word (m := ⟨2, 19⟩) (meth := k2m19) (c := k2c19) (by decide +kernel) rfl rfl rfl (by decide +kernel)
set_option maxRecDepth 65536 in
theorem w_c10 : (Jvm.Cond.code ({ cls := "PortTranslator", name := "outbound", desc := "(IIII)I" } : Jvm.MethodName) prog_1_method_3_code (6 : Nat) (Option.some Jvm.ClassFile.FieldType.int)).before args0 about1 = true := code_word (m := ⟨2, 2⟩) (meth := k2m2) (c := k2c2) (by decide +kernel) rfl rfl rfl (by decide +kernel)
set_option maxRecDepth 65536 in
theorem w_c11 : (Jvm.Cond.code ({ cls := "PortTranslator", name := "validProtoFlags", desc := "(II)Z" } : Jvm.MethodName) prog_1_method_19_code (3 : Nat) (Option.some Jvm.ClassFile.FieldType.boolean)).before args0 about1 = true := code_word (m := ⟨2, 15⟩) (meth := k2m15) (c := k2c15) (by decide +kernel) rfl rfl rfl (by decide +kernel)
set_option maxRecDepth 65536 in
theorem w_c12 : (Jvm.Cond.code ({ cls := "PortTranslator", name := "now", desc := "()I" } : Jvm.MethodName) prog_1_method_6_code (1 : Nat) (Option.some Jvm.ClassFile.FieldType.int)).before args0 about1 = true := code_word (m := ⟨2, 5⟩) (meth := k2m5) (c := k2c5) (by decide +kernel) rfl rfl rfl (by decide +kernel)
set_option maxRecDepth 65536 in
theorem w_c13 : (Jvm.Cond.code ({ cls := "PortTranslator", name := "advance", desc := "(I)Z" } : Jvm.MethodName) prog_1_method_5_code (3 : Nat) (Option.some Jvm.ClassFile.FieldType.boolean)).before args0 about1 = true := code_word (m := ⟨2, 4⟩) (meth := k2m4) (c := k2c4) (by decide +kernel) rfl rfl rfl (by decide +kernel)
set_option maxRecDepth 65536 in
theorem w_c14 : (Jvm.Cond.code ({ cls := "PortTranslator", name := "inbound", desc := "(III)I" } : Jvm.MethodName) prog_1_method_4_code (5 : Nat) (Option.some Jvm.ClassFile.FieldType.int)).before args0 about1 = true := code_word (m := ⟨2, 3⟩) (meth := k2m3) (c := k2c3) (by decide +kernel) rfl rfl rfl (by decide +kernel)
set_option maxRecDepth 65536 in
theorem w_c15 : (Jvm.Cond.code ({ cls := "PortTranslator", name := "setRemote", desc := "(II)Z" } : Jvm.MethodName) prog_1_method_2_code (3 : Nat) (Option.some Jvm.ClassFile.FieldType.boolean)).before args0 about1 = true := code_word (m := ⟨2, 1⟩) (meth := k2m1) (c := k2c1) (by decide +kernel) rfl rfl rfl (by decide +kernel)
set_option maxRecDepth 65536 in
theorem w_c16 : (Jvm.Cond.code ({ cls := "PortTranslator", name := "allocatableSlot", desc := "()I" } : Jvm.MethodName) prog_1_method_25_code (2 : Nat) (Option.some Jvm.ClassFile.FieldType.int)).before args0 about1 = true := code_word (m := ⟨2, 21⟩) (meth := k2m21) (c := k2c21) (by decide +kernel) rfl rfl rfl (by decide +kernel)
set_option maxRecDepth 65536 in
theorem w_c17 : (Jvm.Cond.code ({ cls := "PortTranslator", name := "availTime", desc := "(I)I" } : Jvm.MethodName) prog_1_method_24_code (2 : Nat) (Option.some Jvm.ClassFile.FieldType.int)).before args0 about1 = true := code_word (m := ⟨2, 20⟩) (meth := k2m20) (c := k2c20) (by decide +kernel) rfl rfl rfl (by decide +kernel)
set_option maxRecDepth 65536 in
theorem w_c18 : (Jvm.Cond.code ({ cls := "PortTranslator", name := "openMapping", desc := "(IIII)V" } : Jvm.MethodName) prog_1_method_26_code (5 : Nat) (Option.none : Option Jvm.ClassFile.FieldType)).before args0 about1 = true := code_word (m := ⟨2, 22⟩) (meth := k2m22) (c := k2c22) (by decide +kernel) rfl rfl rfl (by decide +kernel)
set_option maxRecDepth 65536 in
theorem w_c19 : (Jvm.Cond.code ({ cls := "PortTranslator", name := "clearPerm", desc := "(I)V" } : Jvm.MethodName) prog_1_method_28_code (4 : Nat) (Option.none : Option Jvm.ClassFile.FieldType)).before args0 about1 = true := code_word (m := ⟨2, 24⟩) (meth := k2m24) (c := k2c24) (by decide +kernel) rfl rfl rfl (by decide +kernel)
set_option maxRecDepth 65536 in
theorem w_c20 : (Jvm.Cond.code ({ cls := "PortTranslator", name := "addPerm", desc := "(II)V" } : Jvm.MethodName) prog_1_method_29_code (4 : Nat) (Option.none : Option Jvm.ClassFile.FieldType)).before args0 about1 = true := code_word (m := ⟨2, 25⟩) (meth := k2m25) (c := k2c25) (by decide +kernel) rfl rfl rfl (by decide +kernel)
set_option maxRecDepth 65536 in
theorem w_c21 : (Jvm.Cond.code ({ cls := "PortTranslator", name := "update", desc := "(IIZ)V" } : Jvm.MethodName) prog_1_method_32_code (7 : Nat) (Option.none : Option Jvm.ClassFile.FieldType)).before args0 about1 = true := code_word (m := ⟨2, 28⟩) (meth := k2m28) (c := k2c28) (by decide +kernel) rfl rfl rfl (by decide +kernel)
set_option maxRecDepth 65536 in
theorem w_c22 : (Jvm.Cond.code ({ cls := "PortTranslator", name := "timeoutOf", desc := "(I)I" } : Jvm.MethodName) prog_1_method_31_code (2 : Nat) (Option.some Jvm.ClassFile.FieldType.int)).before args0 about1 = true := code_word (m := ⟨2, 27⟩) (meth := k2m27) (c := k2c27) (by decide +kernel) rfl rfl rfl (by decide +kernel)
set_option maxRecDepth 65536 in
theorem w_c23 : (Jvm.Cond.code ({ cls := "PortTranslator", name := "resultExt", desc := "()I" } : Jvm.MethodName) prog_1_method_9_code (1 : Nat) (Option.some Jvm.ClassFile.FieldType.int)).before args0 about1 = true := code_word (m := ⟨2, 8⟩) (meth := k2m8) (c := k2c8) (by decide +kernel) rfl rfl rfl (by decide +kernel)
set_option maxRecDepth 65536 in
theorem w_c24 : (Jvm.Cond.code ({ cls := "PortTranslatorOwnLaw", name := "get16", desc := "(JI)I" } : Jvm.MethodName) method_3_code (3 : Nat) (Option.some Jvm.ClassFile.FieldType.int)).before args0 about1 = true := code_word (m := ⟨1, 2⟩) (meth := k1m2) (c := k1c2) (by decide +kernel) rfl rfl rfl (by decide +kernel)
set_option maxRecDepth 65536 in
theorem w_c25 : (Jvm.Cond.code ({ cls := "PortTranslatorOwnLaw", name := "set8", desc := "(JII)J" } : Jvm.MethodName) method_6_code (6 : Nat) (Option.some Jvm.ClassFile.FieldType.long)).before args0 about1 = true := code_word (m := ⟨1, 5⟩) (meth := k1m5) (c := k1c5) (by decide +kernel) rfl rfl rfl (by decide +kernel)
set_option maxRecDepth 65536 in
theorem w_c26 : (Jvm.Cond.code ({ cls := "PortTranslator", name := "stateOf", desc := "(I)I" } : Jvm.MethodName) prog_1_method_14_code (3 : Nat) (Option.some Jvm.ClassFile.FieldType.int)).before args0 about1 = true := code_word (m := ⟨2, 12⟩) (meth := k2m12) (c := k2c12) (by decide +kernel) rfl rfl rfl (by decide +kernel)
set_option maxRecDepth 65536 in
theorem w_c27 : (Jvm.Cond.code ({ cls := "PortTranslator", name := "insidePortOf", desc := "(I)I" } : Jvm.MethodName) prog_1_method_13_code (3 : Nat) (Option.some Jvm.ClassFile.FieldType.int)).before args0 about1 = true := code_word (m := ⟨2, 11⟩) (meth := k2m11) (c := k2c11) (by decide +kernel) rfl rfl rfl (by decide +kernel)
set_option maxRecDepth 65536 in
theorem w_c28 : (Jvm.Cond.code ({ cls := "PortTranslator", name := "deadlineOf", desc := "(I)I" } : Jvm.MethodName) prog_1_method_15_code (3 : Nat) (Option.some Jvm.ClassFile.FieldType.int)).before args0 about1 = true := code_word (m := ⟨2, 13⟩) (meth := k2m13) (c := k2c13) (by decide +kernel) rfl rfl rfl (by decide +kernel)
set_option maxRecDepth 65536 in
theorem w_c29 : (Jvm.Cond.code ({ cls := "PortTranslatorOwnLaw", name := "set16", desc := "(JII)J" } : Jvm.MethodName) method_4_code (6 : Nat) (Option.some Jvm.ClassFile.FieldType.long)).before args0 about1 = true := code_word (m := ⟨1, 3⟩) (meth := k1m3) (c := k1c3) (by decide +kernel) rfl rfl rfl (by decide +kernel)
set_option maxRecDepth 65536 in
theorem w_c30 : (Jvm.Cond.code ({ cls := "PortTranslator", name := "liveSlot", desc := "(II)I" } : Jvm.MethodName) prog_1_method_22_code (4 : Nat) (Option.some Jvm.ClassFile.FieldType.int)).before args0 about1 = true := code_word (m := ⟨2, 18⟩) (meth := k2m18) (c := k2c18) (by decide +kernel) rfl rfl rfl (by decide +kernel)
set_option maxRecDepth 65536 in
theorem w_c31 : (Jvm.Cond.code ({ cls := "PortTranslator", name := "hasPerm", desc := "(II)Z" } : Jvm.MethodName) prog_1_method_30_code (4 : Nat) (Option.some Jvm.ClassFile.FieldType.boolean)).before args0 about1 = true := code_word (m := ⟨2, 26⟩) (meth := k2m26) (c := k2c26) (by decide +kernel) rfl rfl rfl (by decide +kernel)
set_option maxRecDepth 65536 in
theorem w_c32 : (Jvm.Cond.code ({ cls := "PortTranslator", name := "resultHost", desc := "()I" } : Jvm.MethodName) prog_1_method_7_code (1 : Nat) (Option.some Jvm.ClassFile.FieldType.int)).before args0 about1 = true := code_word (m := ⟨2, 6⟩) (meth := k2m6) (c := k2c6) (by decide +kernel) rfl rfl rfl (by decide +kernel)
set_option maxRecDepth 65536 in
theorem w_c33 : (Jvm.Cond.code ({ cls := "PortTranslator", name := "resultPort", desc := "()I" } : Jvm.MethodName) prog_1_method_8_code (1 : Nat) (Option.some Jvm.ClassFile.FieldType.int)).before args0 about1 = true := code_word (m := ⟨2, 7⟩) (meth := k2m7) (c := k2c7) (by decide +kernel) rfl rfl rfl (by decide +kernel)
set_option maxRecDepth 65536 in
theorem w_c34 : (Jvm.Cond.code ({ cls := "PortTranslatorOwnLaw", name := "ownerMatches", desc := "(JIIII)Z" } : Jvm.MethodName) method_7_code (7 : Nat) (Option.some Jvm.ClassFile.FieldType.boolean)).before args0 about1 = true := code_word (m := ⟨1, 6⟩) (meth := k1m6) (c := k1c6) (by decide +kernel) rfl rfl rfl (by decide +kernel)
set_option maxRecDepth 65536 in
theorem w_c35 : (Jvm.Cond.code ({ cls := "PortTranslatorOwnLaw", name := "get8", desc := "(JI)I" } : Jvm.MethodName) method_5_code (3 : Nat) (Option.some Jvm.ClassFile.FieldType.int)).before args0 about1 = true := code_word (m := ⟨1, 4⟩) (meth := k1m4) (c := k1c4) (by decide +kernel) rfl rfl rfl (by decide +kernel)
set_option maxRecDepth 65536 in
theorem w_c36 : (Jvm.Cond.code ({ cls := "PortTranslator", name := "release", desc := "(II)V" } : Jvm.MethodName) prog_1_method_27_code (3 : Nat) (Option.none : Option Jvm.ClassFile.FieldType)).before args0 about1 = true := code_word (m := ⟨2, 23⟩) (meth := k2m23) (c := k2c23) (by decide +kernel) rfl rfl rfl (by decide +kernel)
set_option maxRecDepth 65536 in
theorem w_c37 : (Jvm.Cond.code ({ cls := "PortTranslator", name := "hairpin", desc := "(II)I" } : Jvm.MethodName) prog_1_method_33_code (4 : Nat) (Option.some Jvm.ClassFile.FieldType.int)).before args0 about1 = true := code_word (m := ⟨2, 29⟩) (meth := k2m29) (c := k2c29) (by decide +kernel) rfl rfl rfl (by decide +kernel)
def codes1 : List Jvm.Cond := [Jvm.Cond.code x code maxLocals ret, Jvm.Cond.code ({ cls := "PortTranslatorOwnLaw", name := "cell", desc := "([II)I" } : Jvm.MethodName) method_2_code (2 : Nat) (Option.some Jvm.ClassFile.FieldType.int), Jvm.Cond.code ({ cls := "PortTranslator", name := "<init>", desc := "(IIII)V" } : Jvm.MethodName) prog_1_method_1_code (5 : Nat) (Option.none : Option Jvm.ClassFile.FieldType), Jvm.Cond.code ({ cls := "java/lang/Object", name := "<init>", desc := "()V" } : Jvm.MethodName) object_method_1_code (1 : Nat) (Option.none : Option Jvm.ClassFile.FieldType), Jvm.Cond.code ({ cls := "PortTranslator", name := "clamp", desc := "(III)I" } : Jvm.MethodName) prog_1_method_18_code (4 : Nat) (Option.some Jvm.ClassFile.FieldType.int), Jvm.Cond.code ({ cls := "PortTranslator", name := "insideHostOf", desc := "(I)I" } : Jvm.MethodName) prog_1_method_12_code (3 : Nat) (Option.some Jvm.ClassFile.FieldType.int), Jvm.Cond.code ({ cls := "PortTranslator", name := "liveAt", desc := "(I)I" } : Jvm.MethodName) prog_1_method_21_code (3 : Nat) (Option.some Jvm.ClassFile.FieldType.int), Jvm.Cond.code ({ cls := "PortTranslator", name := "slotOf", desc := "(I)I" } : Jvm.MethodName) prog_1_method_20_code (2 : Nat) (Option.some Jvm.ClassFile.FieldType.int), Jvm.Cond.code ({ cls := "PortTranslator", name := "externalPortOf", desc := "(III)I" } : Jvm.MethodName) prog_1_method_11_code (5 : Nat) (Option.some Jvm.ClassFile.FieldType.int), Jvm.Cond.code ({ cls := "PortTranslator", name := "findKey", desc := "(III)I" } : Jvm.MethodName) prog_1_method_23_code (5 : Nat) (Option.some Jvm.ClassFile.FieldType.int), Jvm.Cond.code ({ cls := "PortTranslator", name := "outbound", desc := "(IIII)I" } : Jvm.MethodName) prog_1_method_3_code (6 : Nat) (Option.some Jvm.ClassFile.FieldType.int), Jvm.Cond.code ({ cls := "PortTranslator", name := "validProtoFlags", desc := "(II)Z" } : Jvm.MethodName) prog_1_method_19_code (3 : Nat) (Option.some Jvm.ClassFile.FieldType.boolean), Jvm.Cond.code ({ cls := "PortTranslator", name := "now", desc := "()I" } : Jvm.MethodName) prog_1_method_6_code (1 : Nat) (Option.some Jvm.ClassFile.FieldType.int), Jvm.Cond.code ({ cls := "PortTranslator", name := "advance", desc := "(I)Z" } : Jvm.MethodName) prog_1_method_5_code (3 : Nat) (Option.some Jvm.ClassFile.FieldType.boolean), Jvm.Cond.code ({ cls := "PortTranslator", name := "inbound", desc := "(III)I" } : Jvm.MethodName) prog_1_method_4_code (5 : Nat) (Option.some Jvm.ClassFile.FieldType.int), Jvm.Cond.code ({ cls := "PortTranslator", name := "setRemote", desc := "(II)Z" } : Jvm.MethodName) prog_1_method_2_code (3 : Nat) (Option.some Jvm.ClassFile.FieldType.boolean), Jvm.Cond.code ({ cls := "PortTranslator", name := "allocatableSlot", desc := "()I" } : Jvm.MethodName) prog_1_method_25_code (2 : Nat) (Option.some Jvm.ClassFile.FieldType.int), Jvm.Cond.code ({ cls := "PortTranslator", name := "availTime", desc := "(I)I" } : Jvm.MethodName) prog_1_method_24_code (2 : Nat) (Option.some Jvm.ClassFile.FieldType.int), Jvm.Cond.code ({ cls := "PortTranslator", name := "openMapping", desc := "(IIII)V" } : Jvm.MethodName) prog_1_method_26_code (5 : Nat) (Option.none : Option Jvm.ClassFile.FieldType), Jvm.Cond.code ({ cls := "PortTranslator", name := "clearPerm", desc := "(I)V" } : Jvm.MethodName) prog_1_method_28_code (4 : Nat) (Option.none : Option Jvm.ClassFile.FieldType), Jvm.Cond.code ({ cls := "PortTranslator", name := "addPerm", desc := "(II)V" } : Jvm.MethodName) prog_1_method_29_code (4 : Nat) (Option.none : Option Jvm.ClassFile.FieldType), Jvm.Cond.code ({ cls := "PortTranslator", name := "update", desc := "(IIZ)V" } : Jvm.MethodName) prog_1_method_32_code (7 : Nat) (Option.none : Option Jvm.ClassFile.FieldType), Jvm.Cond.code ({ cls := "PortTranslator", name := "timeoutOf", desc := "(I)I" } : Jvm.MethodName) prog_1_method_31_code (2 : Nat) (Option.some Jvm.ClassFile.FieldType.int), Jvm.Cond.code ({ cls := "PortTranslator", name := "resultExt", desc := "()I" } : Jvm.MethodName) prog_1_method_9_code (1 : Nat) (Option.some Jvm.ClassFile.FieldType.int), Jvm.Cond.code ({ cls := "PortTranslatorOwnLaw", name := "get16", desc := "(JI)I" } : Jvm.MethodName) method_3_code (3 : Nat) (Option.some Jvm.ClassFile.FieldType.int), Jvm.Cond.code ({ cls := "PortTranslatorOwnLaw", name := "set8", desc := "(JII)J" } : Jvm.MethodName) method_6_code (6 : Nat) (Option.some Jvm.ClassFile.FieldType.long), Jvm.Cond.code ({ cls := "PortTranslator", name := "stateOf", desc := "(I)I" } : Jvm.MethodName) prog_1_method_14_code (3 : Nat) (Option.some Jvm.ClassFile.FieldType.int), Jvm.Cond.code ({ cls := "PortTranslator", name := "insidePortOf", desc := "(I)I" } : Jvm.MethodName) prog_1_method_13_code (3 : Nat) (Option.some Jvm.ClassFile.FieldType.int), Jvm.Cond.code ({ cls := "PortTranslator", name := "deadlineOf", desc := "(I)I" } : Jvm.MethodName) prog_1_method_15_code (3 : Nat) (Option.some Jvm.ClassFile.FieldType.int), Jvm.Cond.code ({ cls := "PortTranslatorOwnLaw", name := "set16", desc := "(JII)J" } : Jvm.MethodName) method_4_code (6 : Nat) (Option.some Jvm.ClassFile.FieldType.long), Jvm.Cond.code ({ cls := "PortTranslator", name := "liveSlot", desc := "(II)I" } : Jvm.MethodName) prog_1_method_22_code (4 : Nat) (Option.some Jvm.ClassFile.FieldType.int), Jvm.Cond.code ({ cls := "PortTranslator", name := "hasPerm", desc := "(II)Z" } : Jvm.MethodName) prog_1_method_30_code (4 : Nat) (Option.some Jvm.ClassFile.FieldType.boolean), Jvm.Cond.code ({ cls := "PortTranslator", name := "resultHost", desc := "()I" } : Jvm.MethodName) prog_1_method_7_code (1 : Nat) (Option.some Jvm.ClassFile.FieldType.int), Jvm.Cond.code ({ cls := "PortTranslator", name := "resultPort", desc := "()I" } : Jvm.MethodName) prog_1_method_8_code (1 : Nat) (Option.some Jvm.ClassFile.FieldType.int), Jvm.Cond.code ({ cls := "PortTranslatorOwnLaw", name := "ownerMatches", desc := "(JIIII)Z" } : Jvm.MethodName) method_7_code (7 : Nat) (Option.some Jvm.ClassFile.FieldType.boolean), Jvm.Cond.code ({ cls := "PortTranslatorOwnLaw", name := "get8", desc := "(JI)I" } : Jvm.MethodName) method_5_code (3 : Nat) (Option.some Jvm.ClassFile.FieldType.int), Jvm.Cond.code ({ cls := "PortTranslator", name := "release", desc := "(II)V" } : Jvm.MethodName) prog_1_method_27_code (3 : Nat) (Option.none : Option Jvm.ClassFile.FieldType), Jvm.Cond.code ({ cls := "PortTranslator", name := "hairpin", desc := "(II)I" } : Jvm.MethodName) prog_1_method_33_code (4 : Nat) (Option.some Jvm.ClassFile.FieldType.int)]
set_option maxRecDepth 65536 in
theorem codes_eq : words1.filter isCode = codes1 := rfl
theorem w_codes : ∀ c ∈ words1.filter isCode, c.before args0 about1 = true := by
  rw [codes_eq]
  intro c hc
  simp only [codes1, List.mem_cons, List.not_mem_nil, or_false] at hc
  rcases hc with rfl | rfl | rfl | rfl | rfl | rfl | rfl | rfl | rfl | rfl | rfl | rfl | rfl | rfl | rfl | rfl | rfl | rfl | rfl | rfl | rfl | rfl | rfl | rfl | rfl | rfl | rfl | rfl | rfl | rfl | rfl | rfl | rfl | rfl | rfl | rfl | rfl | rfl
  · exact w_c0
  · exact w_c1
  · exact w_c2
  · exact w_c3
  · exact w_c4
  · exact w_c5
  · exact w_c6
  · exact w_c7
  · exact w_c8
  · exact w_c9
  · exact w_c10
  · exact w_c11
  · exact w_c12
  · exact w_c13
  · exact w_c14
  · exact w_c15
  · exact w_c16
  · exact w_c17
  · exact w_c18
  · exact w_c19
  · exact w_c20
  · exact w_c21
  · exact w_c22
  · exact w_c23
  · exact w_c24
  · exact w_c25
  · exact w_c26
  · exact w_c27
  · exact w_c28
  · exact w_c29
  · exact w_c30
  · exact w_c31
  · exact w_c32
  · exact w_c33
  · exact w_c34
  · exact w_c35
  · exact w_c36
  · exact w_c37
set_option maxRecDepth 65536 in
theorem w_t1 : (words1.take 24).all (fun c => isCode c || c.before args0 about1) = true := by decide +kernel
set_option maxRecDepth 65536 in
theorem w_t2 : ((words1.drop 24).take 24).all (fun c => isCode c || c.before args0 about1) = true := by decide +kernel
set_option maxRecDepth 65536 in
theorem w_t3 : (((words1.drop 24).drop 24).take 24).all (fun c => isCode c || c.before args0 about1) = true := by decide +kernel
set_option maxRecDepth 65536 in
theorem w_t4 : ((((words1.drop 24).drop 24).drop 24).take 24).all (fun c => isCode c || c.before args0 about1) = true := by decide +kernel
set_option maxRecDepth 65536 in
theorem w_t5 : (((((words1.drop 24).drop 24).drop 24).drop 24).take 24).all (fun c => isCode c || c.before args0 about1) = true := by decide +kernel
set_option maxRecDepth 65536 in
theorem w_t6 : ((((((words1.drop 24).drop 24).drop 24).drop 24).drop 24).take 24).all (fun c => isCode c || c.before args0 about1) = true := by decide +kernel
set_option maxRecDepth 65536 in
theorem w_t7 : (((((((words1.drop 24).drop 24).drop 24).drop 24).drop 24).drop 24).take 24).all (fun c => isCode c || c.before args0 about1) = true := by decide +kernel
set_option maxRecDepth 65536 in
theorem w_t8 : ((((((((words1.drop 24).drop 24).drop 24).drop 24).drop 24).drop 24).drop 24).take 24).all (fun c => isCode c || c.before args0 about1) = true := by decide +kernel
set_option maxRecDepth 65536 in
theorem w_t9 : ((((((((words1.drop 24).drop 24).drop 24).drop 24).drop 24).drop 24).drop 24).drop 24).all (fun c => isCode c || c.before args0 about1) = true := by decide +kernel
theorem w_tables : (allAtoms (Jvm.Cond.code x code maxLocals ret :: tables_1)).before args0 about1 = true := by
  rw [allAtoms_all]
  show words1.all (fun c => c.before args0 about1) = true
  refine all_split ?_ w_codes
  rw [← List.take_append_drop 24 words1, List.all_append, w_t1, ← List.take_append_drop 24 (words1.drop 24), List.all_append, w_t2, ← List.take_append_drop 24 ((words1.drop 24).drop 24), List.all_append, w_t3, ← List.take_append_drop 24 (((words1.drop 24).drop 24).drop 24), List.all_append, w_t4, ← List.take_append_drop 24 ((((words1.drop 24).drop 24).drop 24).drop 24), List.all_append, w_t5, ← List.take_append_drop 24 (((((words1.drop 24).drop 24).drop 24).drop 24).drop 24), List.all_append, w_t6, ← List.take_append_drop 24 ((((((words1.drop 24).drop 24).drop 24).drop 24).drop 24).drop 24), List.all_append, w_t7, ← List.take_append_drop 24 (((((((words1.drop 24).drop 24).drop 24).drop 24).drop 24).drop 24).drop 24), List.all_append, w_t8, w_t9]
  rfl
set_option maxRecDepth 65536 in
theorem w_rest : rest_1_c.before args0 about1 = true := by decide +kernel
set_option maxRecDepth 65536 in
theorem w_case : (Jvm.Cond.and given_1 narrow_1).before args0 about1 = true := by decide +kernel
theorem w_applies : (headSpec (Jvm.Cond.code x code maxLocals ret :: tables_1) room_1).applies x e0.platform about1 = true :=
  (Spec.applies_iff w_frames).mpr ⟨w_running, w_runnable, w_alone, w_named, w_hears, w_ripe, w_room, w_tables⟩
theorem atStart : AtStart classFile x code maxLocals ret World_1 tables_1 room_1 Calls_1 rest_1 Pre_1 launch0 p0 e0 about1 theMethod args0 below0 :=
  ⟨lists_1, trivial, launch0.admits_env _ _ _, launch0.least_env, fairChoices_fair.cas, fairChoices_fair.clock, w_frames, w_args, w_heap, w_applies, trivial, w_rest, w_case⟩
end start1
theorem witness_1 : WitnessClaimed_1 := ⟨start1.p0, start1.e0, start1.about1, start1.theMethod, start1.args0, start1.below0, start1.atStart⟩
end Jvm.Pilot.@@N@@
