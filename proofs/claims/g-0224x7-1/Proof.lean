import JvmDerived
import JvmDerived.Pilot.@@N@@Statement
import JvmDerived.Pilot.@@N@@Code
set_option linter.unusedVariables false
set_option linter.unusedSimpArgs false
namespace Jvm.RoadKit
open Sem ClassFile Op Lib Jvm.Stand Jvm.Free Jvm.LawKit
section New
variable {p : Program} {l : Launch} {e : Env} {R : Room} {s : State} {m : MethodId} {args : Array Value} {below : List Frame} {meth : Method} {c : Code} {T : State} {locs : List Loc} {cells slots : Nat}
theorem retI (X : Stand p l e R s m args below meth c T locs cells slots) (hx : p.tables.exec = Jvm.exec) {pc : Nat} {Ls : Array Slot} {z : Int32} {rest : List Value} (hret : meth.sig.returnType = some .int) (hd : decode c.code pc = .ok (.ireturn, 1)) {fs : List Frame}
    (hl : ∀ (f : JFrame) (acts : List Action), f.method = m → f.locked = none → f.entered = [] → (doReturn e (T.setTop f) acts (some (.int z))).1 = T.setFrames fs) : Steps p.tables e below (T.setTop (mkF m pc Ls (.int z :: rest))) (T.setFrames fs) := by
  have hm' : T.vm.method? m = some meth := X.method'
  have hn : narrow .int (.int z) = .int z := rfl
  show Steps p.tables e below (T.setTop { method := m, pc := pc, locals := Ls, stack := _ :: rest, locked := none }) _
  jvm_step X.here [X.here.top, hx, hd, hm', hret, hn]
  first | (intro acts; rw [hl _ acts rfl rfl rfl]) | rw [hl _ _ rfl rfl rfl]
  exact Steps.refl _
end New
end Jvm.RoadKit
namespace Jvm.Pilot.@@N@@
open Jvm Jvm.ClassFile Sem Op Lib Jvm.Free Jvm.Stand Jvm.LawKit Jvm.RoadKit Bundle Jvm.Pilot.@@N@@.Jvm.D
/-! TABLES of this claim: printed by claim.py -/
def k0 : Nat := 1
def cName : String := "OccValidator"
def cN : Nat := 13
def nF : Nat := 13
def kName (k : Nat) : String := bif Nat.beq k 0 then "OccValidatorL5" else "OccValidator"
def fNm (k : Nat) : String := (bif Nat.ble 6 k then (bif Nat.ble 9 k then (bif Nat.ble 11 k then (bif Nat.ble 12 k then "lastConflict" else "abortCount") else (bif Nat.ble 10 k then "commitCount" else "window")) else (bif Nat.ble 7 k then (bif Nat.ble 8 k then "slotCount" else "keyCount") else "buffered")) else (bif Nat.ble 3 k then (bif Nat.ble 4 k then (bif Nat.ble 5 k then "writeSet" else "readSet") else "start") else (bif Nat.ble 1 k then (bif Nat.ble 2 k then "active" else "version") else "value")))
def fDs (k : Nat) : String := (bif Nat.ble 6 k then (bif Nat.ble 9 k then (bif Nat.ble 11 k then (bif Nat.ble 12 k then "I" else "I") else (bif Nat.ble 10 k then "I" else "I")) else (bif Nat.ble 7 k then (bif Nat.ble 8 k then "I" else "I") else "[I")) else (bif Nat.ble 3 k then (bif Nat.ble 4 k then (bif Nat.ble 5 k then "[I" else "[I") else "[I") else (bif Nat.ble 1 k then (bif Nat.ble 2 k then "[Z" else "[I") else "[I")))
def fTy (k : Nat) : FieldType := (bif Nat.ble 6 k then (bif Nat.ble 9 k then (bif Nat.ble 11 k then (bif Nat.ble 12 k then .int else .int) else (bif Nat.ble 10 k then .int else .int)) else (bif Nat.ble 7 k then (bif Nat.ble 8 k then .int else .int) else (.array .int))) else (bif Nat.ble 3 k then (bif Nat.ble 4 k then (bif Nat.ble 5 k then (.array .int) else (.array .int)) else (.array .int)) else (bif Nat.ble 1 k then (bif Nat.ble 2 k then (.array .boolean) else (.array .int)) else (.array .int))))
def fFin (k : Nat) : Bool := (bif Nat.ble 6 k then (bif Nat.ble 9 k then (bif Nat.ble 11 k then (bif Nat.ble 12 k then false else false) else (bif Nat.ble 10 k then false else false)) else (bif Nat.ble 7 k then (bif Nat.ble 8 k then false else false) else false)) else (bif Nat.ble 3 k then (bif Nat.ble 4 k then (bif Nat.ble 5 k then false else false) else false) else (bif Nat.ble 1 k then (bif Nat.ble 2 k then false else false) else false)))
def cDef : List Value := [.null, .null, .null, .null, .null, .null, .null, .int 0, .int 0, .int 0, .int 0, .int 0, .int 0]
def cK : List Value := [.int (2147483647)]
def pN : Nat := 31
def pTop : Nat := 313
def pK (m : Nat) : Nat := (bif Nat.ble 15 m then (bif Nat.ble 23 m then (bif Nat.ble 27 m then (bif Nat.ble 29 m then (bif Nat.ble 30 m then 1 else 1) else (bif Nat.ble 28 m then 1 else 1)) else (bif Nat.ble 25 m then (bif Nat.ble 26 m then 1 else 1) else (bif Nat.ble 24 m then 1 else 1))) else (bif Nat.ble 19 m then (bif Nat.ble 21 m then (bif Nat.ble 22 m then 1 else 1) else (bif Nat.ble 20 m then 1 else 1)) else (bif Nat.ble 17 m then (bif Nat.ble 18 m then 1 else 1) else (bif Nat.ble 16 m then 1 else 1)))) else (bif Nat.ble 7 m then (bif Nat.ble 11 m then (bif Nat.ble 13 m then (bif Nat.ble 14 m then 1 else 1) else (bif Nat.ble 12 m then 1 else 1)) else (bif Nat.ble 9 m then (bif Nat.ble 10 m then 1 else 1) else (bif Nat.ble 8 m then 1 else 1))) else (bif Nat.ble 3 m then (bif Nat.ble 5 m then (bif Nat.ble 6 m then 0 else 1) else (bif Nat.ble 4 m then 1 else 1)) else (bif Nat.ble 1 m then (bif Nat.ble 2 m then 1 else 1) else 0))))
def pNm (m : Nat) : String := (bif Nat.ble 15 m then (bif Nat.ble 23 m then (bif Nat.ble 27 m then (bif Nat.ble 29 m then (bif Nat.ble 30 m then "failCommit" else "abort") else (bif Nat.ble 28 m then "bufIndex" else "write")) else (bif Nat.ble 25 m then (bif Nat.ble 26 m then "endTx" else "install") else (bif Nat.ble 24 m then "leastConflict" else "isStale"))) else (bif Nat.ble 19 m then (bif Nat.ble 21 m then (bif Nat.ble 22 m then "bit" else "clearSlot") else (bif Nat.ble 20 m then "openSlot" else "findFreeSlot")) else (bif Nat.ble 17 m then (bif Nat.ble 18 m then "begin" else "read") else (bif Nat.ble 16 m then "getBuffered" else "getWriteSet")))) else (bif Nat.ble 7 m then (bif Nat.ble 11 m then (bif Nat.ble 13 m then (bif Nat.ble 14 m then "getReadSet" else "getStart") else (bif Nat.ble 12 m then "getVersion" else "isValidKey")) else (bif Nat.ble 9 m then (bif Nat.ble 10 m then "getValue" else "getLastConflictKey") else (bif Nat.ble 8 m then "getAbortCount" else "getCommitCount"))) else (bif Nat.ble 3 m then (bif Nat.ble 5 m then (bif Nat.ble 6 m then "same" else "commit") else (bif Nat.ble 4 m then "isValidTx" else "isActive")) else (bif Nat.ble 1 m then (bif Nat.ble 2 m then "clamp" else "<init>") else "law"))))
def pDs (m : Nat) : String := (bif Nat.ble 15 m then (bif Nat.ble 23 m then (bif Nat.ble 27 m then (bif Nat.ble 29 m then (bif Nat.ble 30 m then "(III)I" else "(I)I") else (bif Nat.ble 28 m then "(II)I" else "(III)I")) else (bif Nat.ble 25 m then (bif Nat.ble 26 m then "(I)V" else "(I)I") else (bif Nat.ble 24 m then "(I)I" else "(I)Z"))) else (bif Nat.ble 19 m then (bif Nat.ble 21 m then (bif Nat.ble 22 m then "(I)I" else "(I)V") else (bif Nat.ble 20 m then "(I)V" else "()I")) else (bif Nat.ble 17 m then (bif Nat.ble 18 m then "()I" else "(II)I") else (bif Nat.ble 16 m then "(II)I" else "(I)I")))) else (bif Nat.ble 7 m then (bif Nat.ble 11 m then (bif Nat.ble 13 m then (bif Nat.ble 14 m then "(I)I" else "(I)I") else (bif Nat.ble 12 m then "(I)I" else "(I)Z")) else (bif Nat.ble 9 m then (bif Nat.ble 10 m then "(I)I" else "()I") else (bif Nat.ble 8 m then "()I" else "()I"))) else (bif Nat.ble 3 m then (bif Nat.ble 5 m then (bif Nat.ble 6 m then "(LOccValidator;LOccValidator;)Z" else "(I)I") else (bif Nat.ble 4 m then "(I)Z" else "(I)Z")) else (bif Nat.ble 1 m then (bif Nat.ble 2 m then "(III)I" else "(III)V") else "([I)Z"))))
def pName (m : Nat) : MethodName := ⟨kName (pK m), pNm m, pDs m⟩
def pBytes (m : Nat) : ByteArray := (bif Nat.ble 15 m then (bif Nat.ble 23 m then (bif Nat.ble 27 m then (bif Nat.ble 29 m then (bif Nat.ble 30 m then prog_1_method_28_code else prog_1_method_6_code) else (bif Nat.ble 28 m then prog_1_method_21_code else prog_1_method_4_code)) else (bif Nat.ble 25 m then (bif Nat.ble 26 m then prog_1_method_25_code else prog_1_method_29_code) else (bif Nat.ble 24 m then prog_1_method_27_code else prog_1_method_26_code))) else (bif Nat.ble 19 m then (bif Nat.ble 21 m then (bif Nat.ble 22 m then prog_1_method_20_code else prog_1_method_24_code) else (bif Nat.ble 20 m then prog_1_method_23_code else prog_1_method_22_code)) else (bif Nat.ble 17 m then (bif Nat.ble 18 m then prog_1_method_2_code else prog_1_method_3_code) else (bif Nat.ble 16 m then prog_1_method_16_code else prog_1_method_15_code)))) else (bif Nat.ble 7 m then (bif Nat.ble 11 m then (bif Nat.ble 13 m then (bif Nat.ble 14 m then prog_1_method_14_code else prog_1_method_13_code) else (bif Nat.ble 12 m then prog_1_method_8_code else prog_1_method_19_code)) else (bif Nat.ble 9 m then (bif Nat.ble 10 m then prog_1_method_7_code else prog_1_method_11_code) else (bif Nat.ble 8 m then prog_1_method_10_code else prog_1_method_9_code))) else (bif Nat.ble 3 m then (bif Nat.ble 5 m then (bif Nat.ble 6 m then method_2_code else prog_1_method_5_code) else (bif Nat.ble 4 m then prog_1_method_18_code else prog_1_method_12_code)) else (bif Nat.ble 1 m then (bif Nat.ble 2 m then prog_1_method_17_code else prog_1_method_1_code) else code))))
def pMaxL (m : Nat) : Nat := (bif Nat.ble 15 m then (bif Nat.ble 23 m then (bif Nat.ble 27 m then (bif Nat.ble 29 m then (bif Nat.ble 30 m then 4 else 2) else (bif Nat.ble 28 m then 3 else 4)) else (bif Nat.ble 25 m then (bif Nat.ble 26 m then 2 else 5) else (bif Nat.ble 24 m then 5 else 2))) else (bif Nat.ble 19 m then (bif Nat.ble 21 m then (bif Nat.ble 22 m then 2 else 4) else (bif Nat.ble 20 m then 2 else 2)) else (bif Nat.ble 17 m then (bif Nat.ble 18 m then 2 else 4) else (bif Nat.ble 16 m then 3 else 2)))) else (bif Nat.ble 7 m then (bif Nat.ble 11 m then (bif Nat.ble 13 m then (bif Nat.ble 14 m then 2 else 2) else (bif Nat.ble 12 m then 2 else 2)) else (bif Nat.ble 9 m then (bif Nat.ble 10 m then 2 else 1) else (bif Nat.ble 8 m then 1 else 1))) else (bif Nat.ble 3 m then (bif Nat.ble 5 m then (bif Nat.ble 6 m then 4 else 3) else (bif Nat.ble 4 m then 2 else 2)) else (bif Nat.ble 1 m then (bif Nat.ble 2 m then 4 else 4) else 11))))
def pRet (m : Nat) : Option FieldType := (bif Nat.ble 15 m then (bif Nat.ble 23 m then (bif Nat.ble 27 m then (bif Nat.ble 29 m then (bif Nat.ble 30 m then (some .int) else (some .int)) else (bif Nat.ble 28 m then (some .int) else (some .int))) else (bif Nat.ble 25 m then (bif Nat.ble 26 m then none else (some .int)) else (bif Nat.ble 24 m then (some .int) else (some .boolean)))) else (bif Nat.ble 19 m then (bif Nat.ble 21 m then (bif Nat.ble 22 m then (some .int) else none) else (bif Nat.ble 20 m then none else (some .int))) else (bif Nat.ble 17 m then (bif Nat.ble 18 m then (some .int) else (some .int)) else (bif Nat.ble 16 m then (some .int) else (some .int))))) else (bif Nat.ble 7 m then (bif Nat.ble 11 m then (bif Nat.ble 13 m then (bif Nat.ble 14 m then (some .int) else (some .int)) else (bif Nat.ble 12 m then (some .int) else (some .boolean))) else (bif Nat.ble 9 m then (bif Nat.ble 10 m then (some .int) else (some .int)) else (bif Nat.ble 8 m then (some .int) else (some .int)))) else (bif Nat.ble 3 m then (bif Nat.ble 5 m then (bif Nat.ble 6 m then (some .boolean) else (some .int)) else (bif Nat.ble 4 m then (some .boolean) else (some .boolean))) else (bif Nat.ble 1 m then (bif Nat.ble 2 m then (some .int) else none) else (some .boolean)))))
def pNA (m : Nat) : Nat := (bif Nat.ble 15 m then (bif Nat.ble 23 m then (bif Nat.ble 27 m then (bif Nat.ble 29 m then (bif Nat.ble 30 m then 3 else 1) else (bif Nat.ble 28 m then 2 else 3)) else (bif Nat.ble 25 m then (bif Nat.ble 26 m then 1 else 1) else (bif Nat.ble 24 m then 1 else 1))) else (bif Nat.ble 19 m then (bif Nat.ble 21 m then (bif Nat.ble 22 m then 1 else 1) else (bif Nat.ble 20 m then 1 else 0)) else (bif Nat.ble 17 m then (bif Nat.ble 18 m then 0 else 2) else (bif Nat.ble 16 m then 2 else 1)))) else (bif Nat.ble 7 m then (bif Nat.ble 11 m then (bif Nat.ble 13 m then (bif Nat.ble 14 m then 1 else 1) else (bif Nat.ble 12 m then 1 else 1)) else (bif Nat.ble 9 m then (bif Nat.ble 10 m then 1 else 0) else (bif Nat.ble 8 m then 0 else 0))) else (bif Nat.ble 3 m then (bif Nat.ble 5 m then (bif Nat.ble 6 m then 2 else 1) else (bif Nat.ble 4 m then 1 else 1)) else (bif Nat.ble 1 m then (bif Nat.ble 2 m then 3 else 3) else 1))))
def pFr (m : Nat) : Nat := (bif Nat.ble 15 m then (bif Nat.ble 23 m then (bif Nat.ble 27 m then (bif Nat.ble 29 m then (bif Nat.ble 30 m then 2 else 2) else (bif Nat.ble 28 m then 0 else 1)) else (bif Nat.ble 25 m then (bif Nat.ble 26 m then 1 else 2) else (bif Nat.ble 24 m then 1 else 0))) else (bif Nat.ble 19 m then (bif Nat.ble 21 m then (bif Nat.ble 22 m then 0 else 0) else (bif Nat.ble 20 m then 1 else 0)) else (bif Nat.ble 17 m then (bif Nat.ble 18 m then 2 else 1) else (bif Nat.ble 16 m then 1 else 1)))) else (bif Nat.ble 7 m then (bif Nat.ble 11 m then (bif Nat.ble 13 m then (bif Nat.ble 14 m then 1 else 1) else (bif Nat.ble 12 m then 1 else 0)) else (bif Nat.ble 9 m then (bif Nat.ble 10 m then 1 else 0) else (bif Nat.ble 8 m then 0 else 0))) else (bif Nat.ble 3 m then (bif Nat.ble 5 m then (bif Nat.ble 6 m then 2 else 3) else (bif Nat.ble 4 m then 0 else 1)) else (bif Nat.ble 1 m then (bif Nat.ble 2 m then 0 else 1) else 4))))
def pLo (m : Nat) : Nat := (bif Nat.ble 15 m then (bif Nat.ble 23 m then (bif Nat.ble 27 m then (bif Nat.ble 29 m then (bif Nat.ble 30 m then 28 else 28) else (bif Nat.ble 28 m then 0 else 16)) else (bif Nat.ble 25 m then (bif Nat.ble 26 m then 15 else 28) else (bif Nat.ble 24 m then 14 else 0))) else (bif Nat.ble 19 m then (bif Nat.ble 21 m then (bif Nat.ble 22 m then 0 else 0) else (bif Nat.ble 20 m then 15 else 0)) else (bif Nat.ble 17 m then (bif Nat.ble 18 m then 28 else 15) else (bif Nat.ble 16 m then 15 else 13)))) else (bif Nat.ble 7 m then (bif Nat.ble 11 m then (bif Nat.ble 13 m then (bif Nat.ble 14 m then 13 else 13) else (bif Nat.ble 12 m then 13 else 0)) else (bif Nat.ble 9 m then (bif Nat.ble 10 m then 13 else 0) else (bif Nat.ble 8 m then 0 else 0))) else (bif Nat.ble 3 m then (bif Nat.ble 5 m then (bif Nat.ble 6 m then 30 else 44) else (bif Nat.ble 4 m then 0 else 13)) else (bif Nat.ble 1 m then (bif Nat.ble 2 m then 0 else 16) else 58))))
def cd0 (pc : Nat) : Option (Instr × Nat) := (bif Nat.ble 141 pc then (bif Nat.ble 228 pc then (bif Nat.ble 273 pc then (bif Nat.ble 294 pc then (bif Nat.ble 303 pc then (bif Nat.ble 308 pc then (bif Nat.ble 311 pc then (bif Nat.ble 312 pc then (bif Nat.beq pc 312 then some (.ireturn, 0) else none) else (bif Nat.beq pc 311 then some (.iconst 1, 0) else none)) else (bif Nat.beq pc 308 then some (.goto (-282), 26) else none)) else (bif Nat.ble 304 pc then (bif Nat.ble 305 pc then (bif Nat.beq pc 305 then some (.iinc 3 4, 0) else none) else (bif Nat.beq pc 304 then some (.ireturn, 0) else none)) else (bif Nat.beq pc 303 then some (.iconst 0, 0) else none))) else (bif Nat.ble 296 pc then (bif Nat.ble 297 pc then (bif Nat.ble 300 pc then (bif Nat.beq pc 300 then some (.ifCond .ne 5, 305) else none) else (bif Nat.beq pc 297 then some (.invokestatic 63, 6) else none)) else (bif Nat.beq pc 296 then some (.aload_n 2, 0) else none)) else (bif Nat.ble 295 pc then (bif Nat.beq pc 295 then some (.aload_n 1, 0) else none) else (bif Nat.beq pc 294 then some (.ireturn, 0) else none)))) else (bif Nat.ble 284 pc then (bif Nat.ble 288 pc then (bif Nat.ble 290 pc then (bif Nat.ble 293 pc then (bif Nat.beq pc 293 then some (.iconst 0, 0) else none) else (bif Nat.beq pc 290 then some (.if_icmp .eq 5, 295) else none)) else (bif Nat.beq pc 288 then some (.iload 10, 0) else none)) else (bif Nat.ble 286 pc then (bif Nat.beq pc 286 then some (.iload 9, 0) else none) else (bif Nat.beq pc 284 then some (.istore 10, 0) else none))) else (bif Nat.ble 278 pc then (bif Nat.ble 279 pc then (bif Nat.ble 281 pc then (bif Nat.beq pc 281 then some (.invokevirtual 60, 29) else none) else (bif Nat.beq pc 279 then some (.iload 5, 0) else none)) else (bif Nat.beq pc 278 then some (.aload_n 2, 0) else none)) else (bif Nat.ble 275 pc then (bif Nat.beq pc 275 then some (.goto 11, 286) else none) else (bif Nat.beq pc 273 then some (.istore 10, 0) else none))))) else (bif Nat.ble 249 pc then (bif Nat.ble 261 pc then (bif Nat.ble 267 pc then (bif Nat.ble 268 pc then (bif Nat.ble 270 pc then (bif Nat.beq pc 270 then some (.invokevirtual 57, 5) else none) else (bif Nat.beq pc 268 then some (.iload 5, 0) else none)) else (bif Nat.beq pc 267 then some (.aload_n 2, 0) else none)) else (bif Nat.ble 263 pc then (bif Nat.ble 264 pc then (bif Nat.beq pc 264 then some (.if_icmp .ne 14, 278) else none) else (bif Nat.beq pc 263 then some (.iconst 3, 0) else none)) else (bif Nat.beq pc 261 then some (.iload 4, 0) else none))) else (bif Nat.ble 253 pc then (bif Nat.ble 256 pc then (bif Nat.ble 258 pc then (bif Nat.beq pc 258 then some (.goto 28, 286) else none) else (bif Nat.beq pc 256 then some (.istore 10, 0) else none)) else (bif Nat.beq pc 253 then some (.invokevirtual 53, 27) else none)) else (bif Nat.ble 251 pc then (bif Nat.beq pc 251 then some (.iload 7, 0) else none) else (bif Nat.beq pc 249 then some (.iload 6, 0) else none)))) else (bif Nat.ble 240 pc then (bif Nat.ble 243 pc then (bif Nat.ble 246 pc then (bif Nat.ble 247 pc then (bif Nat.beq pc 247 then some (.iload 5, 0) else none) else (bif Nat.beq pc 246 then some (.aload_n 2, 0) else none)) else (bif Nat.beq pc 243 then some (.if_icmp .ne 18, 261) else none)) else (bif Nat.ble 242 pc then (bif Nat.beq pc 242 then some (.iconst 2, 0) else none) else (bif Nat.beq pc 240 then some (.iload 4, 0) else none))) else (bif Nat.ble 232 pc then (bif Nat.ble 235 pc then (bif Nat.ble 237 pc then (bif Nat.beq pc 237 then some (.goto 49, 286) else none) else (bif Nat.beq pc 235 then some (.istore 10, 0) else none)) else (bif Nat.beq pc 232 then some (.invokevirtual 50, 17) else none)) else (bif Nat.ble 230 pc then (bif Nat.beq pc 230 then some (.iload 6, 0) else none) else (bif Nat.beq pc 228 then some (.iload 5, 0) else none)))))) else (bif Nat.ble 185 pc then (bif Nat.ble 206 pc then (bif Nat.ble 216 pc then (bif Nat.ble 223 pc then (bif Nat.ble 224 pc then (bif Nat.ble 227 pc then (bif Nat.beq pc 227 then some (.aload_n 2, 0) else none) else (bif Nat.beq pc 224 then some (.if_icmp .ne 16, 240) else none)) else (bif Nat.beq pc 223 then some (.iconst 1, 0) else none)) else (bif Nat.ble 218 pc then (bif Nat.ble 221 pc then (bif Nat.beq pc 221 then some (.iload 4, 0) else none) else (bif Nat.beq pc 218 then some (.goto 68, 286) else none)) else (bif Nat.beq pc 216 then some (.istore 10, 0) else none))) else (bif Nat.ble 209 pc then (bif Nat.ble 212 pc then (bif Nat.ble 213 pc then (bif Nat.beq pc 213 then some (.invokevirtual 47, 18) else none) else (bif Nat.beq pc 212 then some (.aload_n 2, 0) else none)) else (bif Nat.beq pc 209 then some (.ifCond .ne 12, 221) else none)) else (bif Nat.ble 207 pc then (bif Nat.beq pc 207 then some (.iload 4, 0) else none) else (bif Nat.beq pc 206 then some (.ireturn, 0) else none)))) else (bif Nat.ble 197 pc then (bif Nat.ble 199 pc then (bif Nat.ble 202 pc then (bif Nat.ble 205 pc then (bif Nat.beq pc 205 then some (.iconst 0, 0) else none) else (bif Nat.beq pc 202 then some (.ifCond .ne 103, 305) else none)) else (bif Nat.beq pc 199 then some (.invokestatic 63, 6) else none)) else (bif Nat.ble 198 pc then (bif Nat.beq pc 198 then some (.aload_n 2, 0) else none) else (bif Nat.beq pc 197 then some (.aload_n 1, 0) else none))) else (bif Nat.ble 190 pc then (bif Nat.ble 192 pc then (bif Nat.ble 194 pc then (bif Nat.beq pc 194 then some (.ifCond .eq 13, 207) else none) else (bif Nat.beq pc 192 then some (.iload 8, 0) else none)) else (bif Nat.beq pc 190 then some (.istore 9, 0) else none)) else (bif Nat.ble 187 pc then (bif Nat.beq pc 187 then some (.invokevirtual 60, 29) else none) else (bif Nat.beq pc 185 then some (.iload 5, 0) else none))))) else (bif Nat.ble 162 pc then (bif Nat.ble 173 pc then (bif Nat.ble 179 pc then (bif Nat.ble 181 pc then (bif Nat.ble 184 pc then (bif Nat.beq pc 184 then some (.aload_n 1, 0) else none) else (bif Nat.beq pc 181 then some (.goto 11, 192) else none)) else (bif Nat.beq pc 179 then some (.istore 9, 0) else none)) else (bif Nat.ble 174 pc then (bif Nat.ble 176 pc then (bif Nat.beq pc 176 then some (.invokevirtual 57, 5) else none) else (bif Nat.beq pc 174 then some (.iload 5, 0) else none)) else (bif Nat.beq pc 173 then some (.aload_n 1, 0) else none))) else (bif Nat.ble 167 pc then (bif Nat.ble 169 pc then (bif Nat.ble 170 pc then (bif Nat.beq pc 170 then some (.if_icmp .ne 14, 184) else none) else (bif Nat.beq pc 169 then some (.iconst 3, 0) else none)) else (bif Nat.beq pc 167 then some (.iload 4, 0) else none)) else (bif Nat.ble 164 pc then (bif Nat.beq pc 164 then some (.goto 28, 192) else none) else (bif Nat.beq pc 162 then some (.istore 9, 0) else none)))) else (bif Nat.ble 152 pc then (bif Nat.ble 155 pc then (bif Nat.ble 157 pc then (bif Nat.ble 159 pc then (bif Nat.beq pc 159 then some (.invokevirtual 53, 27) else none) else (bif Nat.beq pc 157 then some (.iload 7, 0) else none)) else (bif Nat.beq pc 155 then some (.iload 6, 0) else none)) else (bif Nat.ble 153 pc then (bif Nat.beq pc 153 then some (.iload 5, 0) else none) else (bif Nat.beq pc 152 then some (.aload_n 1, 0) else none))) else (bif Nat.ble 146 pc then (bif Nat.ble 148 pc then (bif Nat.ble 149 pc then (bif Nat.beq pc 149 then some (.if_icmp .ne 18, 167) else none) else (bif Nat.beq pc 148 then some (.iconst 2, 0) else none)) else (bif Nat.beq pc 146 then some (.iload 4, 0) else none)) else (bif Nat.ble 143 pc then (bif Nat.beq pc 143 then some (.goto 49, 192) else none) else (bif Nat.beq pc 141 then some (.istore 9, 0) else none))))))) else (bif Nat.ble 58 pc then (bif Nat.ble 97 pc then (bif Nat.ble 118 pc then (bif Nat.ble 129 pc then (bif Nat.ble 134 pc then (bif Nat.ble 136 pc then (bif Nat.ble 138 pc then (bif Nat.beq pc 138 then some (.invokevirtual 50, 17) else none) else (bif Nat.beq pc 136 then some (.iload 6, 0) else none)) else (bif Nat.beq pc 134 then some (.iload 5, 0) else none)) else (bif Nat.ble 130 pc then (bif Nat.ble 133 pc then (bif Nat.beq pc 133 then some (.aload_n 1, 0) else none) else (bif Nat.beq pc 130 then some (.if_icmp .ne 16, 146) else none)) else (bif Nat.beq pc 129 then some (.iconst 1, 0) else none))) else (bif Nat.ble 122 pc then (bif Nat.ble 124 pc then (bif Nat.ble 127 pc then (bif Nat.beq pc 127 then some (.iload 4, 0) else none) else (bif Nat.beq pc 124 then some (.goto 68, 192) else none)) else (bif Nat.beq pc 122 then some (.istore 8, 0) else none)) else (bif Nat.ble 121 pc then (bif Nat.beq pc 121 then some (.iconst 0, 0) else none) else (bif Nat.beq pc 118 then some (.goto 4, 122) else none)))) else (bif Nat.ble 108 pc then (bif Nat.ble 112 pc then (bif Nat.ble 114 pc then (bif Nat.ble 117 pc then (bif Nat.beq pc 117 then some (.iconst 1, 0) else none) else (bif Nat.beq pc 114 then some (.if_icmp .ne 7, 121) else none)) else (bif Nat.beq pc 112 then some (.bipush (-5), 0) else none)) else (bif Nat.ble 110 pc then (bif Nat.beq pc 110 then some (.iload 9, 0) else none) else (bif Nat.beq pc 108 then some (.istore 9, 0) else none))) else (bif Nat.ble 101 pc then (bif Nat.ble 104 pc then (bif Nat.ble 105 pc then (bif Nat.beq pc 105 then some (.invokevirtual 47, 18) else none) else (bif Nat.beq pc 104 then some (.aload_n 1, 0) else none)) else (bif Nat.beq pc 101 then some (.ifCond .ne 26, 127) else none)) else (bif Nat.ble 99 pc then (bif Nat.beq pc 99 then some (.iload 4, 0) else none) else (bif Nat.beq pc 97 then some (.istore 8, 0) else none))))) else (bif Nat.ble 74 pc then (bif Nat.ble 85 pc then (bif Nat.ble 92 pc then (bif Nat.ble 93 pc then (bif Nat.ble 96 pc then (bif Nat.beq pc 96 then some (.iconst 0, 0) else none) else (bif Nat.beq pc 93 then some (.goto 4, 97) else none)) else (bif Nat.beq pc 92 then some (.iconst 1, 0) else none)) else (bif Nat.ble 87 pc then (bif Nat.ble 89 pc then (bif Nat.beq pc 89 then some (.if_icmp .lt 7, 96) else none) else (bif Nat.beq pc 87 then some (.bipush 8, 0) else none)) else (bif Nat.beq pc 85 then some (.iload 6, 0) else none))) else (bif Nat.ble 77 pc then (bif Nat.ble 80 pc then (bif Nat.ble 82 pc then (bif Nat.beq pc 82 then some (.ifCond .lt 10, 92) else none) else (bif Nat.beq pc 80 then some (.iload 6, 0) else none)) else (bif Nat.beq pc 77 then some (.if_icmp .gt 19, 96) else none)) else (bif Nat.ble 76 pc then (bif Nat.beq pc 76 then some (.iconst 2, 0) else none) else (bif Nat.beq pc 74 then some (.iload 4, 0) else none)))) else (bif Nat.ble 63 pc then (bif Nat.ble 66 pc then (bif Nat.ble 68 pc then (bif Nat.ble 71 pc then (bif Nat.beq pc 71 then some (.ifCond .eq 21, 92) else none) else (bif Nat.beq pc 68 then some (.invokevirtual 26, 3) else none)) else (bif Nat.beq pc 66 then some (.iload 5, 0) else none)) else (bif Nat.ble 65 pc then (bif Nat.beq pc 65 then some (.aload_n 1, 0) else none) else (bif Nat.beq pc 63 then some (.istore 7, 0) else none))) else (bif Nat.ble 60 pc then (bif Nat.ble 61 pc then (bif Nat.ble 62 pc then (bif Nat.beq pc 62 then some (.iaload, 0) else none) else (bif Nat.beq pc 61 then some (.iadd, 0) else none)) else (bif Nat.beq pc 60 then some (.iconst 3, 0) else none)) else (bif Nat.ble 59 pc then (bif Nat.beq pc 59 then some (.iload_n 3, 0) else none) else (bif Nat.beq pc 58 then some (.aload_n 0, 0) else none)))))) else (bif Nat.ble 31 pc then (bif Nat.ble 45 pc then (bif Nat.ble 51 pc then (bif Nat.ble 54 pc then (bif Nat.ble 55 pc then (bif Nat.ble 56 pc then (bif Nat.beq pc 56 then some (.istore 6, 0) else none) else (bif Nat.beq pc 55 then some (.iaload, 0) else none)) else (bif Nat.beq pc 54 then some (.iadd, 0) else none)) else (bif Nat.ble 52 pc then (bif Nat.ble 53 pc then (bif Nat.beq pc 53 then some (.iconst 2, 0) else none) else (bif Nat.beq pc 52 then some (.iload_n 3, 0) else none)) else (bif Nat.beq pc 51 then some (.aload_n 0, 0) else none))) else (bif Nat.ble 47 pc then (bif Nat.ble 48 pc then (bif Nat.ble 49 pc then (bif Nat.beq pc 49 then some (.istore 5, 0) else none) else (bif Nat.beq pc 48 then some (.iaload, 0) else none)) else (bif Nat.beq pc 47 then some (.iadd, 0) else none)) else (bif Nat.ble 46 pc then (bif Nat.beq pc 46 then some (.iconst 1, 0) else none) else (bif Nat.beq pc 45 then some (.iload_n 3, 0) else none)))) else (bif Nat.ble 39 pc then (bif Nat.ble 41 pc then (bif Nat.ble 42 pc then (bif Nat.ble 44 pc then (bif Nat.beq pc 44 then some (.aload_n 0, 0) else none) else (bif Nat.beq pc 42 then some (.istore 4, 0) else none)) else (bif Nat.beq pc 41 then some (.irem, 0) else none)) else (bif Nat.ble 40 pc then (bif Nat.beq pc 40 then some (.iconst 5, 0) else none) else (bif Nat.beq pc 39 then some (.iand, 0) else none))) else (bif Nat.ble 35 pc then (bif Nat.ble 36 pc then (bif Nat.ble 37 pc then (bif Nat.beq pc 37 then some (.ldc 46, 0) else none) else (bif Nat.beq pc 36 then some (.iaload, 0) else none)) else (bif Nat.beq pc 35 then some (.iload_n 3, 0) else none)) else (bif Nat.ble 34 pc then (bif Nat.beq pc 34 then some (.aload_n 0, 0) else none) else (bif Nat.beq pc 31 then some (.if_icmp .ge 280, 311) else none))))) else (bif Nat.ble 18 pc then (bif Nat.ble 25 pc then (bif Nat.ble 28 pc then (bif Nat.ble 29 pc then (bif Nat.ble 30 pc then (bif Nat.beq pc 30 then some (.arraylength, 0) else none) else (bif Nat.beq pc 29 then some (.aload_n 0, 0) else none)) else (bif Nat.beq pc 28 then some (.iadd, 0) else none)) else (bif Nat.ble 26 pc then (bif Nat.ble 27 pc then (bif Nat.beq pc 27 then some (.iconst 3, 0) else none) else (bif Nat.beq pc 26 then some (.iload_n 3, 0) else none)) else (bif Nat.beq pc 25 then some (.istore_n 3, 0) else none))) else (bif Nat.ble 20 pc then (bif Nat.ble 23 pc then (bif Nat.ble 24 pc then (bif Nat.beq pc 24 then some (.iconst 0, 0) else none) else (bif Nat.beq pc 23 then some (.astore_n 2, 0) else none)) else (bif Nat.beq pc 20 then some (.invokespecial 43, 1) else none)) else (bif Nat.ble 19 pc then (bif Nat.beq pc 19 then some (.iconst 3, 0) else none) else (bif Nat.beq pc 18 then some (.iconst 4, 0) else none)))) else (bif Nat.ble 8 pc then (bif Nat.ble 12 pc then (bif Nat.ble 15 pc then (bif Nat.ble 16 pc then (bif Nat.beq pc 16 then some (.bipush 8, 0) else none) else (bif Nat.beq pc 15 then some (.dup, 0) else none)) else (bif Nat.beq pc 12 then some (.new 8, 0) else none)) else (bif Nat.ble 11 pc then (bif Nat.beq pc 11 then some (.astore_n 1, 0) else none) else (bif Nat.beq pc 8 then some (.invokespecial 43, 1) else none))) else (bif Nat.ble 4 pc then (bif Nat.ble 6 pc then (bif Nat.ble 7 pc then (bif Nat.beq pc 7 then some (.iconst 3, 0) else none) else (bif Nat.beq pc 6 then some (.iconst 4, 0) else none)) else (bif Nat.beq pc 4 then some (.bipush 8, 0) else none)) else (bif Nat.ble 3 pc then (bif Nat.beq pc 3 then some (.dup, 0) else none) else (bif Nat.beq pc 0 then some (.new 8, 0) else none))))))))
def cd1 (pc : Nat) : Option (Instr × Nat) := (bif Nat.ble 61 pc then (bif Nat.ble 87 pc then (bif Nat.ble 100 pc then (bif Nat.ble 108 pc then (bif Nat.ble 110 pc then (bif Nat.ble 113 pc then (bif Nat.beq pc 113 then some (.return_, 0) else none) else (bif Nat.beq pc 110 then some (.putfield 52, 12) else none)) else (bif Nat.ble 109 pc then (bif Nat.beq pc 109 then some (.iconst (-1), 0) else none) else (bif Nat.beq pc 108 then some (.aload_n 0, 0) else none))) else (bif Nat.ble 104 pc then (bif Nat.ble 105 pc then (bif Nat.beq pc 105 then some (.putfield 49, 11) else none) else (bif Nat.beq pc 104 then some (.iconst 0, 0) else none)) else (bif Nat.ble 103 pc then (bif Nat.beq pc 103 then some (.aload_n 0, 0) else none) else (bif Nat.beq pc 100 then some (.putfield 46, 10) else none)))) else (bif Nat.ble 92 pc then (bif Nat.ble 98 pc then (bif Nat.ble 99 pc then (bif Nat.beq pc 99 then some (.iconst 0, 0) else none) else (bif Nat.beq pc 98 then some (.aload_n 0, 0) else none)) else (bif Nat.ble 95 pc then (bif Nat.beq pc 95 then some (.putfield 43, 9) else none) else (bif Nat.beq pc 92 then some (.invokevirtual 32, 2) else none))) else (bif Nat.ble 89 pc then (bif Nat.ble 90 pc then (bif Nat.beq pc 90 then some (.bipush 16, 0) else none) else (bif Nat.beq pc 89 then some (.iconst 2, 0) else none)) else (bif Nat.ble 88 pc then (bif Nat.beq pc 88 then some (.iload_n 3, 0) else none) else (bif Nat.beq pc 87 then some (.aload_n 0, 0) else none))))) else (bif Nat.ble 74 pc then (bif Nat.ble 78 pc then (bif Nat.ble 83 pc then (bif Nat.ble 86 pc then (bif Nat.beq pc 86 then some (.aload_n 0, 0) else none) else (bif Nat.beq pc 83 then some (.putfield 40, 8) else none)) else (bif Nat.ble 80 pc then (bif Nat.beq pc 80 then some (.invokevirtual 32, 2) else none) else (bif Nat.beq pc 78 then some (.bipush 8, 0) else none))) else (bif Nat.ble 76 pc then (bif Nat.ble 77 pc then (bif Nat.beq pc 77 then some (.iconst 2, 0) else none) else (bif Nat.beq pc 76 then some (.iload_n 2, 0) else none)) else (bif Nat.ble 75 pc then (bif Nat.beq pc 75 then some (.aload_n 0, 0) else none) else (bif Nat.beq pc 74 then some (.aload_n 0, 0) else none)))) else (bif Nat.ble 64 pc then (bif Nat.ble 68 pc then (bif Nat.ble 71 pc then (bif Nat.beq pc 71 then some (.putfield 36, 7) else none) else (bif Nat.beq pc 68 then some (.invokevirtual 32, 2) else none)) else (bif Nat.ble 66 pc then (bif Nat.beq pc 66 then some (.bipush 32, 0) else none) else (bif Nat.beq pc 64 then some (.bipush 8, 0) else none))) else (bif Nat.ble 62 pc then (bif Nat.ble 63 pc then (bif Nat.beq pc 63 then some (.iload_n 1, 0) else none) else (bif Nat.beq pc 62 then some (.aload_n 0, 0) else none)) else (bif Nat.beq pc 61 then some (.aload_n 0, 0) else none))))) else (bif Nat.ble 29 pc then (bif Nat.ble 44 pc then (bif Nat.ble 52 pc then (bif Nat.ble 56 pc then (bif Nat.ble 58 pc then (bif Nat.beq pc 58 then some (.putfield 29, 6) else none) else (bif Nat.beq pc 56 then some (.newarray .int, 0) else none)) else (bif Nat.ble 53 pc then (bif Nat.beq pc 53 then some (.sipush 256, 0) else none) else (bif Nat.beq pc 52 then some (.aload_n 0, 0) else none))) else (bif Nat.ble 47 pc then (bif Nat.ble 49 pc then (bif Nat.beq pc 49 then some (.putfield 26, 5) else none) else (bif Nat.beq pc 47 then some (.newarray .int, 0) else none)) else (bif Nat.ble 45 pc then (bif Nat.beq pc 45 then some (.bipush 8, 0) else none) else (bif Nat.beq pc 44 then some (.aload_n 0, 0) else none)))) else (bif Nat.ble 36 pc then (bif Nat.ble 39 pc then (bif Nat.ble 41 pc then (bif Nat.beq pc 41 then some (.putfield 23, 4) else none) else (bif Nat.beq pc 39 then some (.newarray .int, 0) else none)) else (bif Nat.ble 37 pc then (bif Nat.beq pc 37 then some (.bipush 8, 0) else none) else (bif Nat.beq pc 36 then some (.aload_n 0, 0) else none))) else (bif Nat.ble 31 pc then (bif Nat.ble 33 pc then (bif Nat.beq pc 33 then some (.putfield 20, 3) else none) else (bif Nat.beq pc 31 then some (.newarray .int, 0) else none)) else (bif Nat.beq pc 29 then some (.bipush 8, 0) else none)))) else (bif Nat.ble 13 pc then (bif Nat.ble 21 pc then (bif Nat.ble 25 pc then (bif Nat.ble 28 pc then (bif Nat.beq pc 28 then some (.aload_n 0, 0) else none) else (bif Nat.beq pc 25 then some (.putfield 16, 2) else none)) else (bif Nat.ble 23 pc then (bif Nat.beq pc 23 then some (.newarray .boolean, 0) else none) else (bif Nat.beq pc 21 then some (.bipush 8, 0) else none))) else (bif Nat.ble 17 pc then (bif Nat.ble 20 pc then (bif Nat.beq pc 20 then some (.aload_n 0, 0) else none) else (bif Nat.beq pc 17 then some (.putfield 13, 1) else none)) else (bif Nat.ble 15 pc then (bif Nat.beq pc 15 then some (.newarray .int, 0) else none) else (bif Nat.beq pc 13 then some (.bipush 32, 0) else none)))) else (bif Nat.ble 5 pc then (bif Nat.ble 9 pc then (bif Nat.ble 12 pc then (bif Nat.beq pc 12 then some (.aload_n 0, 0) else none) else (bif Nat.beq pc 9 then some (.putfield 7, 0) else none)) else (bif Nat.ble 7 pc then (bif Nat.beq pc 7 then some (.newarray .int, 0) else none) else (bif Nat.beq pc 5 then some (.bipush 32, 0) else none))) else (bif Nat.ble 1 pc then (bif Nat.ble 4 pc then (bif Nat.beq pc 4 then some (.aload_n 0, 0) else none) else (bif Nat.beq pc 1 then some (.invokespecial 1, 0) else none)) else (bif Nat.beq pc 0 then some (.aload_n 0, 0) else none))))))
def cd2 (pc : Nat) : Option (Instr × Nat) := (bif Nat.ble 8 pc then (bif Nat.ble 13 pc then (bif Nat.ble 14 pc then (bif Nat.ble 15 pc then (bif Nat.beq pc 15 then some (.ireturn, 0) else none) else (bif Nat.beq pc 14 then some (.iload_n 1, 0) else none)) else (bif Nat.beq pc 13 then some (.ireturn, 0) else none)) else (bif Nat.ble 9 pc then (bif Nat.ble 12 pc then (bif Nat.beq pc 12 then some (.iload_n 3, 0) else none) else (bif Nat.beq pc 9 then some (.if_icmp .le 5, 14) else none)) else (bif Nat.beq pc 8 then some (.iload_n 3, 0) else none))) else (bif Nat.ble 5 pc then (bif Nat.ble 6 pc then (bif Nat.ble 7 pc then (bif Nat.beq pc 7 then some (.iload_n 1, 0) else none) else (bif Nat.beq pc 6 then some (.ireturn, 0) else none)) else (bif Nat.beq pc 5 then some (.iload_n 2, 0) else none)) else (bif Nat.ble 1 pc then (bif Nat.ble 2 pc then (bif Nat.beq pc 2 then some (.if_icmp .ge 5, 7) else none) else (bif Nat.beq pc 1 then some (.iload_n 2, 0) else none)) else (bif Nat.beq pc 0 then some (.iload_n 1, 0) else none))))
def cd3 (pc : Nat) : Option (Instr × Nat) := (bif Nat.ble 2 pc then (bif Nat.ble 5 pc then (bif Nat.beq pc 5 then some (.ireturn, 0) else none) else (bif Nat.beq pc 2 then some (.invokevirtual 63, 4) else none)) else (bif Nat.ble 1 pc then (bif Nat.beq pc 1 then some (.iload_n 1, 0) else none) else (bif Nat.beq pc 0 then some (.aload_n 0, 0) else none)))
def cd4 (pc : Nat) : Option (Instr × Nat) := (bif Nat.ble 15 pc then (bif Nat.ble 21 pc then (bif Nat.ble 25 pc then (bif Nat.ble 26 pc then (bif Nat.beq pc 26 then some (.ireturn, 0) else none) else (bif Nat.beq pc 25 then some (.baload, 0) else none)) else (bif Nat.ble 24 pc then (bif Nat.beq pc 24 then some (.iload_n 1, 0) else none) else (bif Nat.beq pc 21 then some (.getfield 16, 2) else none))) else (bif Nat.ble 19 pc then (bif Nat.ble 20 pc then (bif Nat.beq pc 20 then some (.aload_n 0, 0) else none) else (bif Nat.beq pc 19 then some (.ireturn, 0) else none)) else (bif Nat.ble 18 pc then (bif Nat.beq pc 18 then some (.iconst 0, 0) else none) else (bif Nat.beq pc 15 then some (.if_icmp .lt 5, 20) else none)))) else (bif Nat.ble 6 pc then (bif Nat.ble 12 pc then (bif Nat.ble 13 pc then (bif Nat.beq pc 13 then some (.bipush 8, 0) else none) else (bif Nat.beq pc 12 then some (.iload_n 1, 0) else none)) else (bif Nat.ble 9 pc then (bif Nat.beq pc 9 then some (.if_icmp .ge 9, 18) else none) else (bif Nat.beq pc 6 then some (.getfield 40, 8) else none))) else (bif Nat.ble 4 pc then (bif Nat.ble 5 pc then (bif Nat.beq pc 5 then some (.aload_n 0, 0) else none) else (bif Nat.beq pc 4 then some (.iload_n 1, 0) else none)) else (bif Nat.ble 1 pc then (bif Nat.beq pc 1 then some (.ifCond .lt 17, 18) else none) else (bif Nat.beq pc 0 then some (.iload_n 1, 0) else none)))))
def cd5 (pc : Nat) : Option (Instr × Nat) := (bif Nat.ble 27 pc then (bif Nat.ble 39 pc then (bif Nat.ble 46 pc then (bif Nat.ble 48 pc then (bif Nat.ble 51 pc then (bif Nat.beq pc 51 then some (.ireturn, 0) else none) else (bif Nat.beq pc 48 then some (.invokevirtual 87, 25) else none)) else (bif Nat.ble 47 pc then (bif Nat.beq pc 47 then some (.iload_n 1, 0) else none) else (bif Nat.beq pc 46 then some (.aload_n 0, 0) else none))) else (bif Nat.ble 42 pc then (bif Nat.ble 45 pc then (bif Nat.beq pc 45 then some (.ireturn, 0) else none) else (bif Nat.beq pc 42 then some (.invokevirtual 81, 30) else none)) else (bif Nat.ble 40 pc then (bif Nat.beq pc 40 then some (.bipush (-3), 0) else none) else (bif Nat.beq pc 39 then some (.iload_n 2, 0) else none)))) else (bif Nat.ble 33 pc then (bif Nat.ble 37 pc then (bif Nat.ble 38 pc then (bif Nat.beq pc 38 then some (.iload_n 1, 0) else none) else (bif Nat.beq pc 37 then some (.aload_n 0, 0) else none)) else (bif Nat.ble 34 pc then (bif Nat.beq pc 34 then some (.ifCond .lt 12, 46) else none) else (bif Nat.beq pc 33 then some (.iload_n 2, 0) else none))) else (bif Nat.ble 29 pc then (bif Nat.ble 32 pc then (bif Nat.beq pc 32 then some (.istore_n 2, 0) else none) else (bif Nat.beq pc 29 then some (.invokevirtual 84, 24) else none)) else (bif Nat.ble 28 pc then (bif Nat.beq pc 28 then some (.iload_n 1, 0) else none) else (bif Nat.beq pc 27 then some (.aload_n 0, 0) else none))))) else (bif Nat.ble 12 pc then (bif Nat.ble 20 pc then (bif Nat.ble 23 pc then (bif Nat.ble 26 pc then (bif Nat.beq pc 26 then some (.ireturn, 0) else none) else (bif Nat.beq pc 23 then some (.invokevirtual 81, 30) else none)) else (bif Nat.ble 21 pc then (bif Nat.beq pc 21 then some (.bipush (-4), 0) else none) else (bif Nat.beq pc 20 then some (.iconst (-1), 0) else none))) else (bif Nat.ble 18 pc then (bif Nat.ble 19 pc then (bif Nat.beq pc 19 then some (.iload_n 1, 0) else none) else (bif Nat.beq pc 18 then some (.aload_n 0, 0) else none)) else (bif Nat.ble 15 pc then (bif Nat.beq pc 15 then some (.ifCond .eq 12, 27) else none) else (bif Nat.beq pc 12 then some (.invokevirtual 78, 23) else none)))) else (bif Nat.ble 8 pc then (bif Nat.ble 10 pc then (bif Nat.ble 11 pc then (bif Nat.beq pc 11 then some (.iload_n 1, 0) else none) else (bif Nat.beq pc 10 then some (.aload_n 0, 0) else none)) else (bif Nat.ble 9 pc then (bif Nat.beq pc 9 then some (.ireturn, 0) else none) else (bif Nat.beq pc 8 then some (.iconst (-1), 0) else none))) else (bif Nat.ble 2 pc then (bif Nat.ble 5 pc then (bif Nat.beq pc 5 then some (.ifCond .ne 5, 10) else none) else (bif Nat.beq pc 2 then some (.invokevirtual 63, 4) else none)) else (bif Nat.ble 1 pc then (bif Nat.beq pc 1 then some (.iload_n 1, 0) else none) else (bif Nat.beq pc 0 then some (.aload_n 0, 0) else none))))))
def cd6 (pc : Nat) : Option (Instr × Nat) := (bif Nat.ble 95 pc then (bif Nat.ble 140 pc then (bif Nat.ble 161 pc then (bif Nat.ble 174 pc then (bif Nat.ble 181 pc then (bif Nat.ble 187 pc then (bif Nat.ble 188 pc then (bif Nat.beq pc 188 then some (.ireturn, 0) else none) else (bif Nat.beq pc 187 then some (.iconst 1, 0) else none)) else (bif Nat.ble 184 pc then (bif Nat.beq pc 184 then some (.goto (-99), 85) else none) else (bif Nat.beq pc 181 then some (.iinc 2 1, 0) else none))) else (bif Nat.ble 175 pc then (bif Nat.ble 178 pc then (bif Nat.beq pc 178 then some (.goto (-26), 152) else none) else (bif Nat.beq pc 175 then some (.iinc 3 1, 0) else none)) else (bif Nat.beq pc 174 then some (.ireturn, 0) else none))) else (bif Nat.ble 166 pc then (bif Nat.ble 170 pc then (bif Nat.ble 173 pc then (bif Nat.beq pc 173 then some (.iconst 0, 0) else none) else (bif Nat.beq pc 170 then some (.if_icmp .eq 5, 175) else none)) else (bif Nat.ble 167 pc then (bif Nat.beq pc 167 then some (.invokevirtual 39, 16) else none) else (bif Nat.beq pc 166 then some (.iload_n 3, 0) else none))) else (bif Nat.ble 164 pc then (bif Nat.ble 165 pc then (bif Nat.beq pc 165 then some (.iload_n 2, 0) else none) else (bif Nat.beq pc 164 then some (.aload_n 1, 0) else none)) else (bif Nat.beq pc 161 then some (.invokevirtual 39, 16) else none)))) else (bif Nat.ble 151 pc then (bif Nat.ble 155 pc then (bif Nat.ble 159 pc then (bif Nat.ble 160 pc then (bif Nat.beq pc 160 then some (.iload_n 3, 0) else none) else (bif Nat.beq pc 159 then some (.iload_n 2, 0) else none)) else (bif Nat.ble 158 pc then (bif Nat.beq pc 158 then some (.aload_n 0, 0) else none) else (bif Nat.beq pc 155 then some (.if_icmp .ge 26, 181) else none))) else (bif Nat.ble 152 pc then (bif Nat.ble 153 pc then (bif Nat.beq pc 153 then some (.bipush 8, 0) else none) else (bif Nat.beq pc 152 then some (.iload_n 3, 0) else none)) else (bif Nat.beq pc 151 then some (.istore_n 3, 0) else none))) else (bif Nat.ble 145 pc then (bif Nat.ble 149 pc then (bif Nat.ble 150 pc then (bif Nat.beq pc 150 then some (.iconst 0, 0) else none) else (bif Nat.beq pc 149 then some (.ireturn, 0) else none)) else (bif Nat.ble 148 pc then (bif Nat.beq pc 148 then some (.iconst 0, 0) else none) else (bif Nat.beq pc 145 then some (.if_icmp .eq 5, 150) else none))) else (bif Nat.ble 141 pc then (bif Nat.ble 142 pc then (bif Nat.beq pc 142 then some (.invokevirtual 36, 15) else none) else (bif Nat.beq pc 141 then some (.iload_n 2, 0) else none)) else (bif Nat.beq pc 140 then some (.aload_n 1, 0) else none))))) else (bif Nat.ble 118 pc then (bif Nat.ble 127 pc then (bif Nat.ble 134 pc then (bif Nat.ble 136 pc then (bif Nat.ble 137 pc then (bif Nat.beq pc 137 then some (.invokevirtual 36, 15) else none) else (bif Nat.beq pc 136 then some (.iload_n 2, 0) else none)) else (bif Nat.ble 135 pc then (bif Nat.beq pc 135 then some (.aload_n 0, 0) else none) else (bif Nat.beq pc 134 then some (.ireturn, 0) else none))) else (bif Nat.ble 130 pc then (bif Nat.ble 133 pc then (bif Nat.beq pc 133 then some (.iconst 0, 0) else none) else (bif Nat.beq pc 130 then some (.if_icmp .eq 5, 135) else none)) else (bif Nat.beq pc 127 then some (.invokevirtual 33, 14) else none))) else (bif Nat.ble 121 pc then (bif Nat.ble 125 pc then (bif Nat.ble 126 pc then (bif Nat.beq pc 126 then some (.iload_n 2, 0) else none) else (bif Nat.beq pc 125 then some (.aload_n 1, 0) else none)) else (bif Nat.ble 122 pc then (bif Nat.beq pc 122 then some (.invokevirtual 33, 14) else none) else (bif Nat.beq pc 121 then some (.iload_n 2, 0) else none))) else (bif Nat.ble 119 pc then (bif Nat.ble 120 pc then (bif Nat.beq pc 120 then some (.aload_n 0, 0) else none) else (bif Nat.beq pc 119 then some (.ireturn, 0) else none)) else (bif Nat.beq pc 118 then some (.iconst 0, 0) else none)))) else (bif Nat.ble 105 pc then (bif Nat.ble 110 pc then (bif Nat.ble 112 pc then (bif Nat.ble 115 pc then (bif Nat.beq pc 115 then some (.if_icmp .eq 5, 120) else none) else (bif Nat.beq pc 112 then some (.invokevirtual 30, 13) else none)) else (bif Nat.ble 111 pc then (bif Nat.beq pc 111 then some (.iload_n 2, 0) else none) else (bif Nat.beq pc 110 then some (.aload_n 1, 0) else none))) else (bif Nat.ble 106 pc then (bif Nat.ble 107 pc then (bif Nat.beq pc 107 then some (.invokevirtual 30, 13) else none) else (bif Nat.beq pc 106 then some (.iload_n 2, 0) else none)) else (bif Nat.beq pc 105 then some (.aload_n 0, 0) else none))) else (bif Nat.ble 100 pc then (bif Nat.ble 103 pc then (bif Nat.ble 104 pc then (bif Nat.beq pc 104 then some (.ireturn, 0) else none) else (bif Nat.beq pc 103 then some (.iconst 0, 0) else none)) else (bif Nat.beq pc 100 then some (.if_icmp .eq 5, 105) else none)) else (bif Nat.ble 96 pc then (bif Nat.ble 97 pc then (bif Nat.beq pc 97 then some (.invokevirtual 26, 3) else none) else (bif Nat.beq pc 96 then some (.iload_n 2, 0) else none)) else (bif Nat.beq pc 95 then some (.aload_n 1, 0) else none)))))) else (bif Nat.ble 48 pc then (bif Nat.ble 69 pc then (bif Nat.ble 84 pc then (bif Nat.ble 87 pc then (bif Nat.ble 91 pc then (bif Nat.ble 92 pc then (bif Nat.beq pc 92 then some (.invokevirtual 26, 3) else none) else (bif Nat.beq pc 91 then some (.iload_n 2, 0) else none)) else (bif Nat.ble 90 pc then (bif Nat.beq pc 90 then some (.aload_n 0, 0) else none) else (bif Nat.beq pc 87 then some (.if_icmp .ge 100, 187) else none))) else (bif Nat.ble 85 pc then (bif Nat.ble 86 pc then (bif Nat.beq pc 86 then some (.iconst 4, 0) else none) else (bif Nat.beq pc 85 then some (.iload_n 2, 0) else none)) else (bif Nat.beq pc 84 then some (.istore_n 2, 0) else none))) else (bif Nat.ble 76 pc then (bif Nat.ble 80 pc then (bif Nat.ble 83 pc then (bif Nat.beq pc 83 then some (.iconst 0, 0) else none) else (bif Nat.beq pc 80 then some (.goto (-39), 41) else none)) else (bif Nat.ble 77 pc then (bif Nat.beq pc 77 then some (.iinc 2 1, 0) else none) else (bif Nat.beq pc 76 then some (.ireturn, 0) else none))) else (bif Nat.ble 72 pc then (bif Nat.ble 75 pc then (bif Nat.beq pc 75 then some (.iconst 0, 0) else none) else (bif Nat.beq pc 72 then some (.if_icmp .eq 5, 77) else none)) else (bif Nat.beq pc 69 then some (.invokevirtual 23, 12) else none)))) else (bif Nat.ble 60 pc then (bif Nat.ble 63 pc then (bif Nat.ble 67 pc then (bif Nat.ble 68 pc then (bif Nat.beq pc 68 then some (.iload_n 2, 0) else none) else (bif Nat.beq pc 67 then some (.aload_n 1, 0) else none)) else (bif Nat.ble 64 pc then (bif Nat.beq pc 64 then some (.invokevirtual 23, 12) else none) else (bif Nat.beq pc 63 then some (.iload_n 2, 0) else none))) else (bif Nat.ble 61 pc then (bif Nat.ble 62 pc then (bif Nat.beq pc 62 then some (.aload_n 0, 0) else none) else (bif Nat.beq pc 61 then some (.ireturn, 0) else none)) else (bif Nat.beq pc 60 then some (.iconst 0, 0) else none))) else (bif Nat.ble 53 pc then (bif Nat.ble 54 pc then (bif Nat.ble 57 pc then (bif Nat.beq pc 57 then some (.if_icmp .eq 5, 62) else none) else (bif Nat.beq pc 54 then some (.invokevirtual 19, 10) else none)) else (bif Nat.beq pc 53 then some (.iload_n 2, 0) else none)) else (bif Nat.ble 49 pc then (bif Nat.ble 52 pc then (bif Nat.beq pc 52 then some (.aload_n 1, 0) else none) else (bif Nat.beq pc 49 then some (.invokevirtual 19, 10) else none)) else (bif Nat.beq pc 48 then some (.iload_n 2, 0) else none))))) else (bif Nat.ble 25 pc then (bif Nat.ble 38 pc then (bif Nat.ble 41 pc then (bif Nat.ble 44 pc then (bif Nat.ble 47 pc then (bif Nat.beq pc 47 then some (.aload_n 0, 0) else none) else (bif Nat.beq pc 44 then some (.if_icmp .ge 39, 83) else none)) else (bif Nat.ble 42 pc then (bif Nat.beq pc 42 then some (.bipush 8, 0) else none) else (bif Nat.beq pc 41 then some (.iload_n 2, 0) else none))) else (bif Nat.ble 39 pc then (bif Nat.ble 40 pc then (bif Nat.beq pc 40 then some (.istore_n 2, 0) else none) else (bif Nat.beq pc 39 then some (.iconst 0, 0) else none)) else (bif Nat.beq pc 38 then some (.ireturn, 0) else none))) else (bif Nat.ble 30 pc then (bif Nat.ble 34 pc then (bif Nat.ble 37 pc then (bif Nat.beq pc 37 then some (.iconst 0, 0) else none) else (bif Nat.beq pc 34 then some (.if_icmp .eq 5, 39) else none)) else (bif Nat.ble 31 pc then (bif Nat.beq pc 31 then some (.invokevirtual 16, 9) else none) else (bif Nat.beq pc 30 then some (.aload_n 1, 0) else none))) else (bif Nat.ble 26 pc then (bif Nat.ble 27 pc then (bif Nat.beq pc 27 then some (.invokevirtual 16, 9) else none) else (bif Nat.beq pc 26 then some (.aload_n 0, 0) else none)) else (bif Nat.beq pc 25 then some (.ireturn, 0) else none)))) else (bif Nat.ble 12 pc then (bif Nat.ble 17 pc then (bif Nat.ble 21 pc then (bif Nat.ble 24 pc then (bif Nat.beq pc 24 then some (.iconst 0, 0) else none) else (bif Nat.beq pc 21 then some (.if_icmp .eq 5, 26) else none)) else (bif Nat.ble 18 pc then (bif Nat.beq pc 18 then some (.invokevirtual 13, 8) else none) else (bif Nat.beq pc 17 then some (.aload_n 1, 0) else none))) else (bif Nat.ble 13 pc then (bif Nat.ble 14 pc then (bif Nat.beq pc 14 then some (.invokevirtual 13, 8) else none) else (bif Nat.beq pc 13 then some (.aload_n 0, 0) else none)) else (bif Nat.beq pc 12 then some (.ireturn, 0) else none))) else (bif Nat.ble 5 pc then (bif Nat.ble 8 pc then (bif Nat.ble 11 pc then (bif Nat.beq pc 11 then some (.iconst 0, 0) else none) else (bif Nat.beq pc 8 then some (.if_icmp .eq 5, 13) else none)) else (bif Nat.beq pc 5 then some (.invokevirtual 7, 7) else none)) else (bif Nat.ble 1 pc then (bif Nat.ble 4 pc then (bif Nat.beq pc 4 then some (.aload_n 1, 0) else none) else (bif Nat.beq pc 1 then some (.invokevirtual 7, 7) else none)) else (bif Nat.beq pc 0 then some (.aload_n 0, 0) else none)))))))
def cd7 (pc : Nat) : Option (Instr × Nat) := (bif Nat.ble 1 pc then (bif Nat.ble 4 pc then (bif Nat.beq pc 4 then some (.ireturn, 0) else none) else (bif Nat.beq pc 1 then some (.getfield 46, 10) else none)) else (bif Nat.beq pc 0 then some (.aload_n 0, 0) else none))
def cd8 (pc : Nat) : Option (Instr × Nat) := (bif Nat.ble 1 pc then (bif Nat.ble 4 pc then (bif Nat.beq pc 4 then some (.ireturn, 0) else none) else (bif Nat.beq pc 1 then some (.getfield 49, 11) else none)) else (bif Nat.beq pc 0 then some (.aload_n 0, 0) else none))
def cd9 (pc : Nat) : Option (Instr × Nat) := (bif Nat.ble 1 pc then (bif Nat.ble 4 pc then (bif Nat.beq pc 4 then some (.ireturn, 0) else none) else (bif Nat.beq pc 1 then some (.getfield 52, 12) else none)) else (bif Nat.beq pc 0 then some (.aload_n 0, 0) else none))
def cd10 (pc : Nat) : Option (Instr × Nat) := (bif Nat.ble 9 pc then (bif Nat.ble 14 pc then (bif Nat.ble 15 pc then (bif Nat.ble 16 pc then (bif Nat.beq pc 16 then some (.ireturn, 0) else none) else (bif Nat.beq pc 15 then some (.iaload, 0) else none)) else (bif Nat.beq pc 14 then some (.iload_n 1, 0) else none)) else (bif Nat.ble 10 pc then (bif Nat.ble 11 pc then (bif Nat.beq pc 11 then some (.getfield 7, 0) else none) else (bif Nat.beq pc 10 then some (.aload_n 0, 0) else none)) else (bif Nat.beq pc 9 then some (.ireturn, 0) else none))) else (bif Nat.ble 2 pc then (bif Nat.ble 5 pc then (bif Nat.ble 8 pc then (bif Nat.beq pc 8 then some (.iconst 0, 0) else none) else (bif Nat.beq pc 5 then some (.ifCond .ne 5, 10) else none)) else (bif Nat.beq pc 2 then some (.invokevirtual 67, 11) else none)) else (bif Nat.ble 1 pc then (bif Nat.beq pc 1 then some (.iload_n 1, 0) else none) else (bif Nat.beq pc 0 then some (.aload_n 0, 0) else none))))
def cd11 (pc : Nat) : Option (Instr × Nat) := (bif Nat.ble 12 pc then (bif Nat.ble 18 pc then (bif Nat.ble 22 pc then (bif Nat.ble 23 pc then (bif Nat.beq pc 23 then some (.ireturn, 0) else none) else (bif Nat.beq pc 22 then some (.iconst 0, 0) else none)) else (bif Nat.ble 19 pc then (bif Nat.beq pc 19 then some (.goto 4, 23) else none) else (bif Nat.beq pc 18 then some (.iconst 1, 0) else none))) else (bif Nat.ble 13 pc then (bif Nat.ble 15 pc then (bif Nat.beq pc 15 then some (.if_icmp .ge 7, 22) else none) else (bif Nat.beq pc 13 then some (.bipush 32, 0) else none)) else (bif Nat.beq pc 12 then some (.iload_n 1, 0) else none))) else (bif Nat.ble 5 pc then (bif Nat.ble 6 pc then (bif Nat.ble 9 pc then (bif Nat.beq pc 9 then some (.if_icmp .ge 13, 22) else none) else (bif Nat.beq pc 6 then some (.getfield 36, 7) else none)) else (bif Nat.beq pc 5 then some (.aload_n 0, 0) else none)) else (bif Nat.ble 1 pc then (bif Nat.ble 4 pc then (bif Nat.beq pc 4 then some (.iload_n 1, 0) else none) else (bif Nat.beq pc 1 then some (.ifCond .lt 21, 22) else none)) else (bif Nat.beq pc 0 then some (.iload_n 1, 0) else none))))
def cd12 (pc : Nat) : Option (Instr × Nat) := (bif Nat.ble 9 pc then (bif Nat.ble 14 pc then (bif Nat.ble 15 pc then (bif Nat.ble 16 pc then (bif Nat.beq pc 16 then some (.ireturn, 0) else none) else (bif Nat.beq pc 15 then some (.iaload, 0) else none)) else (bif Nat.beq pc 14 then some (.iload_n 1, 0) else none)) else (bif Nat.ble 10 pc then (bif Nat.ble 11 pc then (bif Nat.beq pc 11 then some (.getfield 13, 1) else none) else (bif Nat.beq pc 10 then some (.aload_n 0, 0) else none)) else (bif Nat.beq pc 9 then some (.ireturn, 0) else none))) else (bif Nat.ble 2 pc then (bif Nat.ble 5 pc then (bif Nat.ble 8 pc then (bif Nat.beq pc 8 then some (.iconst 0, 0) else none) else (bif Nat.beq pc 5 then some (.ifCond .ne 5, 10) else none)) else (bif Nat.beq pc 2 then some (.invokevirtual 67, 11) else none)) else (bif Nat.ble 1 pc then (bif Nat.beq pc 1 then some (.iload_n 1, 0) else none) else (bif Nat.beq pc 0 then some (.aload_n 0, 0) else none))))
def cd13 (pc : Nat) : Option (Instr × Nat) := (bif Nat.ble 9 pc then (bif Nat.ble 14 pc then (bif Nat.ble 15 pc then (bif Nat.ble 16 pc then (bif Nat.beq pc 16 then some (.ireturn, 0) else none) else (bif Nat.beq pc 15 then some (.iaload, 0) else none)) else (bif Nat.beq pc 14 then some (.iload_n 1, 0) else none)) else (bif Nat.ble 10 pc then (bif Nat.ble 11 pc then (bif Nat.beq pc 11 then some (.getfield 20, 3) else none) else (bif Nat.beq pc 10 then some (.aload_n 0, 0) else none)) else (bif Nat.beq pc 9 then some (.ireturn, 0) else none))) else (bif Nat.ble 2 pc then (bif Nat.ble 5 pc then (bif Nat.ble 8 pc then (bif Nat.beq pc 8 then some (.iconst (-1), 0) else none) else (bif Nat.beq pc 5 then some (.ifCond .ne 5, 10) else none)) else (bif Nat.beq pc 2 then some (.invokevirtual 63, 4) else none)) else (bif Nat.ble 1 pc then (bif Nat.beq pc 1 then some (.iload_n 1, 0) else none) else (bif Nat.beq pc 0 then some (.aload_n 0, 0) else none))))
def cd14 (pc : Nat) : Option (Instr × Nat) := (bif Nat.ble 9 pc then (bif Nat.ble 14 pc then (bif Nat.ble 15 pc then (bif Nat.ble 16 pc then (bif Nat.beq pc 16 then some (.ireturn, 0) else none) else (bif Nat.beq pc 15 then some (.iaload, 0) else none)) else (bif Nat.beq pc 14 then some (.iload_n 1, 0) else none)) else (bif Nat.ble 10 pc then (bif Nat.ble 11 pc then (bif Nat.beq pc 11 then some (.getfield 23, 4) else none) else (bif Nat.beq pc 10 then some (.aload_n 0, 0) else none)) else (bif Nat.beq pc 9 then some (.ireturn, 0) else none))) else (bif Nat.ble 2 pc then (bif Nat.ble 5 pc then (bif Nat.ble 8 pc then (bif Nat.beq pc 8 then some (.iconst 0, 0) else none) else (bif Nat.beq pc 5 then some (.ifCond .ne 5, 10) else none)) else (bif Nat.beq pc 2 then some (.invokevirtual 63, 4) else none)) else (bif Nat.ble 1 pc then (bif Nat.beq pc 1 then some (.iload_n 1, 0) else none) else (bif Nat.beq pc 0 then some (.aload_n 0, 0) else none))))
def cd15 (pc : Nat) : Option (Instr × Nat) := (bif Nat.ble 9 pc then (bif Nat.ble 14 pc then (bif Nat.ble 15 pc then (bif Nat.ble 16 pc then (bif Nat.beq pc 16 then some (.ireturn, 0) else none) else (bif Nat.beq pc 15 then some (.iaload, 0) else none)) else (bif Nat.beq pc 14 then some (.iload_n 1, 0) else none)) else (bif Nat.ble 10 pc then (bif Nat.ble 11 pc then (bif Nat.beq pc 11 then some (.getfield 26, 5) else none) else (bif Nat.beq pc 10 then some (.aload_n 0, 0) else none)) else (bif Nat.beq pc 9 then some (.ireturn, 0) else none))) else (bif Nat.ble 2 pc then (bif Nat.ble 5 pc then (bif Nat.ble 8 pc then (bif Nat.beq pc 8 then some (.iconst 0, 0) else none) else (bif Nat.beq pc 5 then some (.ifCond .ne 5, 10) else none)) else (bif Nat.beq pc 2 then some (.invokevirtual 63, 4) else none)) else (bif Nat.ble 1 pc then (bif Nat.beq pc 1 then some (.iload_n 1, 0) else none) else (bif Nat.beq pc 0 then some (.aload_n 0, 0) else none))))
def cd16 (pc : Nat) : Option (Instr × Nat) := (bif Nat.ble 25 pc then (bif Nat.ble 37 pc then (bif Nat.ble 43 pc then (bif Nat.ble 47 pc then (bif Nat.ble 48 pc then (bif Nat.beq pc 48 then some (.ireturn, 0) else none) else (bif Nat.beq pc 47 then some (.iaload, 0) else none)) else (bif Nat.ble 44 pc then (bif Nat.beq pc 44 then some (.invokevirtual 74, 28) else none) else (bif Nat.beq pc 43 then some (.iload_n 2, 0) else none))) else (bif Nat.ble 41 pc then (bif Nat.ble 42 pc then (bif Nat.beq pc 42 then some (.iload_n 1, 0) else none) else (bif Nat.beq pc 41 then some (.aload_n 0, 0) else none)) else (bif Nat.ble 38 pc then (bif Nat.beq pc 38 then some (.getfield 29, 6) else none) else (bif Nat.beq pc 37 then some (.aload_n 0, 0) else none)))) else (bif Nat.ble 31 pc then (bif Nat.ble 35 pc then (bif Nat.ble 36 pc then (bif Nat.beq pc 36 then some (.ireturn, 0) else none) else (bif Nat.beq pc 35 then some (.iconst 0, 0) else none)) else (bif Nat.ble 32 pc then (bif Nat.beq pc 32 then some (.ifCond .ne 5, 37) else none) else (bif Nat.beq pc 31 then some (.iand, 0) else none))) else (bif Nat.ble 27 pc then (bif Nat.ble 28 pc then (bif Nat.beq pc 28 then some (.invokevirtual 70, 22) else none) else (bif Nat.beq pc 27 then some (.iload_n 2, 0) else none)) else (bif Nat.ble 26 pc then (bif Nat.beq pc 26 then some (.aload_n 0, 0) else none) else (bif Nat.beq pc 25 then some (.iaload, 0) else none))))) else (bif Nat.ble 11 pc then (bif Nat.ble 19 pc then (bif Nat.ble 21 pc then (bif Nat.ble 24 pc then (bif Nat.beq pc 24 then some (.iload_n 1, 0) else none) else (bif Nat.beq pc 21 then some (.getfield 26, 5) else none)) else (bif Nat.ble 20 pc then (bif Nat.beq pc 20 then some (.aload_n 0, 0) else none) else (bif Nat.beq pc 19 then some (.ireturn, 0) else none))) else (bif Nat.ble 15 pc then (bif Nat.ble 18 pc then (bif Nat.beq pc 18 then some (.iconst 0, 0) else none) else (bif Nat.beq pc 15 then some (.ifCond .ne 5, 20) else none)) else (bif Nat.ble 12 pc then (bif Nat.beq pc 12 then some (.invokevirtual 67, 11) else none) else (bif Nat.beq pc 11 then some (.iload_n 2, 0) else none)))) else (bif Nat.ble 5 pc then (bif Nat.ble 9 pc then (bif Nat.ble 10 pc then (bif Nat.beq pc 10 then some (.aload_n 0, 0) else none) else (bif Nat.beq pc 9 then some (.ireturn, 0) else none)) else (bif Nat.ble 8 pc then (bif Nat.beq pc 8 then some (.iconst 0, 0) else none) else (bif Nat.beq pc 5 then some (.ifCond .ne 5, 10) else none))) else (bif Nat.ble 1 pc then (bif Nat.ble 2 pc then (bif Nat.beq pc 2 then some (.invokevirtual 63, 4) else none) else (bif Nat.beq pc 1 then some (.iload_n 1, 0) else none)) else (bif Nat.beq pc 0 then some (.aload_n 0, 0) else none)))))
def cd17 (pc : Nat) : Option (Instr × Nat) := (bif Nat.ble 37 pc then (bif Nat.ble 54 pc then (bif Nat.ble 62 pc then (bif Nat.ble 67 pc then (bif Nat.ble 68 pc then (bif Nat.ble 69 pc then (bif Nat.beq pc 69 then some (.ireturn, 0) else none) else (bif Nat.beq pc 68 then some (.iaload, 0) else none)) else (bif Nat.beq pc 67 then some (.iload_n 2, 0) else none)) else (bif Nat.ble 63 pc then (bif Nat.ble 64 pc then (bif Nat.beq pc 64 then some (.getfield 7, 0) else none) else (bif Nat.beq pc 63 then some (.aload_n 0, 0) else none)) else (bif Nat.beq pc 62 then some (.iastore, 0) else none))) else (bif Nat.ble 59 pc then (bif Nat.ble 60 pc then (bif Nat.ble 61 pc then (bif Nat.beq pc 61 then some (.ior, 0) else none) else (bif Nat.beq pc 60 then some (.iload_n 3, 0) else none)) else (bif Nat.beq pc 59 then some (.iaload, 0) else none)) else (bif Nat.ble 55 pc then (bif Nat.ble 58 pc then (bif Nat.beq pc 58 then some (.iload_n 1, 0) else none) else (bif Nat.beq pc 55 then some (.getfield 23, 4) else none)) else (bif Nat.beq pc 54 then some (.aload_n 0, 0) else none)))) else (bif Nat.ble 44 pc then (bif Nat.ble 49 pc then (bif Nat.ble 50 pc then (bif Nat.ble 53 pc then (bif Nat.beq pc 53 then some (.iload_n 1, 0) else none) else (bif Nat.beq pc 50 then some (.getfield 23, 4) else none)) else (bif Nat.beq pc 49 then some (.aload_n 0, 0) else none)) else (bif Nat.ble 47 pc then (bif Nat.ble 48 pc then (bif Nat.beq pc 48 then some (.ireturn, 0) else none) else (bif Nat.beq pc 47 then some (.iaload, 0) else none)) else (bif Nat.beq pc 44 then some (.invokevirtual 74, 28) else none))) else (bif Nat.ble 41 pc then (bif Nat.ble 42 pc then (bif Nat.ble 43 pc then (bif Nat.beq pc 43 then some (.iload_n 2, 0) else none) else (bif Nat.beq pc 42 then some (.iload_n 1, 0) else none)) else (bif Nat.beq pc 41 then some (.aload_n 0, 0) else none)) else (bif Nat.ble 38 pc then (bif Nat.beq pc 38 then some (.getfield 29, 6) else none) else (bif Nat.beq pc 37 then some (.aload_n 0, 0) else none))))) else (bif Nat.ble 19 pc then (bif Nat.ble 27 pc then (bif Nat.ble 32 pc then (bif Nat.ble 33 pc then (bif Nat.ble 34 pc then (bif Nat.beq pc 34 then some (.ifCond .eq 15, 49) else none) else (bif Nat.beq pc 33 then some (.iand, 0) else none)) else (bif Nat.beq pc 32 then some (.iload_n 3, 0) else none)) else (bif Nat.ble 30 pc then (bif Nat.ble 31 pc then (bif Nat.beq pc 31 then some (.iaload, 0) else none) else (bif Nat.beq pc 30 then some (.iload_n 1, 0) else none)) else (bif Nat.beq pc 27 then some (.getfield 26, 5) else none))) else (bif Nat.ble 22 pc then (bif Nat.ble 25 pc then (bif Nat.ble 26 pc then (bif Nat.beq pc 26 then some (.aload_n 0, 0) else none) else (bif Nat.beq pc 25 then some (.istore_n 3, 0) else none)) else (bif Nat.beq pc 22 then some (.invokevirtual 70, 22) else none)) else (bif Nat.ble 20 pc then (bif Nat.ble 21 pc then (bif Nat.beq pc 21 then some (.iload_n 2, 0) else none) else (bif Nat.beq pc 20 then some (.aload_n 0, 0) else none)) else (bif Nat.beq pc 19 then some (.ireturn, 0) else none)))) else (bif Nat.ble 9 pc then (bif Nat.ble 12 pc then (bif Nat.ble 15 pc then (bif Nat.ble 18 pc then (bif Nat.beq pc 18 then some (.iconst 0, 0) else none) else (bif Nat.beq pc 15 then some (.ifCond .ne 5, 20) else none)) else (bif Nat.beq pc 12 then some (.invokevirtual 67, 11) else none)) else (bif Nat.ble 10 pc then (bif Nat.ble 11 pc then (bif Nat.beq pc 11 then some (.iload_n 2, 0) else none) else (bif Nat.beq pc 10 then some (.aload_n 0, 0) else none)) else (bif Nat.beq pc 9 then some (.ireturn, 0) else none))) else (bif Nat.ble 2 pc then (bif Nat.ble 5 pc then (bif Nat.ble 8 pc then (bif Nat.beq pc 8 then some (.iconst 0, 0) else none) else (bif Nat.beq pc 5 then some (.ifCond .ne 5, 10) else none)) else (bif Nat.beq pc 2 then some (.invokevirtual 63, 4) else none)) else (bif Nat.ble 1 pc then (bif Nat.beq pc 1 then some (.iload_n 1, 0) else none) else (bif Nat.beq pc 0 then some (.aload_n 0, 0) else none))))))
def cd18 (pc : Nat) : Option (Instr × Nat) := (bif Nat.ble 11 pc then (bif Nat.ble 14 pc then (bif Nat.ble 17 pc then (bif Nat.ble 18 pc then (bif Nat.beq pc 18 then some (.ireturn, 0) else none) else (bif Nat.beq pc 17 then some (.iload_n 1, 0) else none)) else (bif Nat.beq pc 14 then some (.invokevirtual 59, 20) else none)) else (bif Nat.ble 12 pc then (bif Nat.ble 13 pc then (bif Nat.beq pc 13 then some (.iload_n 1, 0) else none) else (bif Nat.beq pc 12 then some (.aload_n 0, 0) else none)) else (bif Nat.beq pc 11 then some (.ireturn, 0) else none))) else (bif Nat.ble 5 pc then (bif Nat.ble 6 pc then (bif Nat.ble 9 pc then (bif Nat.beq pc 9 then some (.bipush (-5), 0) else none) else (bif Nat.beq pc 6 then some (.ifCond .ge 6, 12) else none)) else (bif Nat.beq pc 5 then some (.iload_n 1, 0) else none)) else (bif Nat.ble 1 pc then (bif Nat.ble 4 pc then (bif Nat.beq pc 4 then some (.istore_n 1, 0) else none) else (bif Nat.beq pc 1 then some (.invokevirtual 55, 19) else none)) else (bif Nat.beq pc 0 then some (.aload_n 0, 0) else none))))
def cd19 (pc : Nat) : Option (Instr × Nat) := (bif Nat.ble 17 pc then (bif Nat.ble 26 pc then (bif Nat.ble 30 pc then (bif Nat.ble 33 pc then (bif Nat.ble 34 pc then (bif Nat.beq pc 34 then some (.ireturn, 0) else none) else (bif Nat.beq pc 33 then some (.iconst (-1), 0) else none)) else (bif Nat.beq pc 30 then some (.goto (-28), 2) else none)) else (bif Nat.ble 27 pc then (bif Nat.beq pc 27 then some (.iinc 1 1, 0) else none) else (bif Nat.beq pc 26 then some (.ireturn, 0) else none))) else (bif Nat.ble 21 pc then (bif Nat.ble 22 pc then (bif Nat.ble 25 pc then (bif Nat.beq pc 25 then some (.iload_n 1, 0) else none) else (bif Nat.beq pc 22 then some (.ifCond .ne 5, 27) else none)) else (bif Nat.beq pc 21 then some (.baload, 0) else none)) else (bif Nat.ble 20 pc then (bif Nat.beq pc 20 then some (.iload_n 1, 0) else none) else (bif Nat.beq pc 17 then some (.getfield 16, 2) else none)))) else (bif Nat.ble 7 pc then (bif Nat.ble 11 pc then (bif Nat.ble 13 pc then (bif Nat.ble 16 pc then (bif Nat.beq pc 16 then some (.aload_n 0, 0) else none) else (bif Nat.beq pc 13 then some (.if_icmp .ge 20, 33) else none)) else (bif Nat.beq pc 11 then some (.bipush 8, 0) else none)) else (bif Nat.ble 10 pc then (bif Nat.beq pc 10 then some (.iload_n 1, 0) else none) else (bif Nat.beq pc 7 then some (.if_icmp .ge 26, 33) else none))) else (bif Nat.ble 2 pc then (bif Nat.ble 3 pc then (bif Nat.ble 4 pc then (bif Nat.beq pc 4 then some (.getfield 40, 8) else none) else (bif Nat.beq pc 3 then some (.aload_n 0, 0) else none)) else (bif Nat.beq pc 2 then some (.iload_n 1, 0) else none)) else (bif Nat.ble 1 pc then (bif Nat.beq pc 1 then some (.istore_n 1, 0) else none) else (bif Nat.beq pc 0 then some (.iconst 0, 0) else none)))))
def cd20 (pc : Nat) : Option (Instr × Nat) := (bif Nat.ble 11 pc then (bif Nat.ble 17 pc then (bif Nat.ble 21 pc then (bif Nat.ble 22 pc then (bif Nat.beq pc 22 then some (.return_, 0) else none) else (bif Nat.beq pc 21 then some (.iastore, 0) else none)) else (bif Nat.ble 18 pc then (bif Nat.beq pc 18 then some (.getfield 46, 10) else none) else (bif Nat.beq pc 17 then some (.aload_n 0, 0) else none))) else (bif Nat.ble 13 pc then (bif Nat.ble 16 pc then (bif Nat.beq pc 16 then some (.iload_n 1, 0) else none) else (bif Nat.beq pc 13 then some (.getfield 20, 3) else none)) else (bif Nat.ble 12 pc then (bif Nat.beq pc 12 then some (.aload_n 0, 0) else none) else (bif Nat.beq pc 11 then some (.bastore, 0) else none)))) else (bif Nat.ble 5 pc then (bif Nat.ble 9 pc then (bif Nat.ble 10 pc then (bif Nat.beq pc 10 then some (.iconst 1, 0) else none) else (bif Nat.beq pc 9 then some (.iload_n 1, 0) else none)) else (bif Nat.ble 6 pc then (bif Nat.beq pc 6 then some (.getfield 16, 2) else none) else (bif Nat.beq pc 5 then some (.aload_n 0, 0) else none))) else (bif Nat.ble 1 pc then (bif Nat.ble 2 pc then (bif Nat.beq pc 2 then some (.invokevirtual 93, 21) else none) else (bif Nat.beq pc 1 then some (.iload_n 1, 0) else none)) else (bif Nat.beq pc 0 then some (.aload_n 0, 0) else none))))
def cd21 (pc : Nat) : Option (Instr × Nat) := (bif Nat.ble 27 pc then (bif Nat.ble 41 pc then (bif Nat.ble 48 pc then (bif Nat.ble 50 pc then (bif Nat.ble 53 pc then (bif Nat.ble 56 pc then (bif Nat.beq pc 56 then some (.return_, 0) else none) else (bif Nat.beq pc 53 then some (.goto (-18), 35) else none)) else (bif Nat.beq pc 50 then some (.iinc 3 1, 0) else none)) else (bif Nat.ble 49 pc then (bif Nat.beq pc 49 then some (.iastore, 0) else none) else (bif Nat.beq pc 48 then some (.iconst 0, 0) else none))) else (bif Nat.ble 45 pc then (bif Nat.ble 46 pc then (bif Nat.ble 47 pc then (bif Nat.beq pc 47 then some (.iadd, 0) else none) else (bif Nat.beq pc 46 then some (.iload_n 3, 0) else none)) else (bif Nat.beq pc 45 then some (.iload_n 2, 0) else none)) else (bif Nat.ble 42 pc then (bif Nat.beq pc 42 then some (.getfield 29, 6) else none) else (bif Nat.beq pc 41 then some (.aload_n 0, 0) else none)))) else (bif Nat.ble 33 pc then (bif Nat.ble 35 pc then (bif Nat.ble 36 pc then (bif Nat.ble 38 pc then (bif Nat.beq pc 38 then some (.if_icmp .ge 18, 56) else none) else (bif Nat.beq pc 36 then some (.bipush 32, 0) else none)) else (bif Nat.beq pc 35 then some (.iload_n 3, 0) else none)) else (bif Nat.ble 34 pc then (bif Nat.beq pc 34 then some (.istore_n 3, 0) else none) else (bif Nat.beq pc 33 then some (.iconst 0, 0) else none))) else (bif Nat.ble 29 pc then (bif Nat.ble 31 pc then (bif Nat.ble 32 pc then (bif Nat.beq pc 32 then some (.istore_n 2, 0) else none) else (bif Nat.beq pc 31 then some (.imul, 0) else none)) else (bif Nat.beq pc 29 then some (.bipush 32, 0) else none)) else (bif Nat.ble 28 pc then (bif Nat.beq pc 28 then some (.iload_n 1, 0) else none) else (bif Nat.beq pc 27 then some (.iastore, 0) else none))))) else (bif Nat.ble 13 pc then (bif Nat.ble 20 pc then (bif Nat.ble 22 pc then (bif Nat.ble 25 pc then (bif Nat.ble 26 pc then (bif Nat.beq pc 26 then some (.iconst 0, 0) else none) else (bif Nat.beq pc 25 then some (.iload_n 1, 0) else none)) else (bif Nat.beq pc 22 then some (.getfield 26, 5) else none)) else (bif Nat.ble 21 pc then (bif Nat.beq pc 21 then some (.aload_n 0, 0) else none) else (bif Nat.beq pc 20 then some (.iastore, 0) else none))) else (bif Nat.ble 15 pc then (bif Nat.ble 18 pc then (bif Nat.ble 19 pc then (bif Nat.beq pc 19 then some (.iconst 0, 0) else none) else (bif Nat.beq pc 18 then some (.iload_n 1, 0) else none)) else (bif Nat.beq pc 15 then some (.getfield 23, 4) else none)) else (bif Nat.ble 14 pc then (bif Nat.beq pc 14 then some (.aload_n 0, 0) else none) else (bif Nat.beq pc 13 then some (.iastore, 0) else none)))) else (bif Nat.ble 6 pc then (bif Nat.ble 8 pc then (bif Nat.ble 11 pc then (bif Nat.ble 12 pc then (bif Nat.beq pc 12 then some (.iconst 0, 0) else none) else (bif Nat.beq pc 11 then some (.iload_n 1, 0) else none)) else (bif Nat.beq pc 8 then some (.getfield 20, 3) else none)) else (bif Nat.ble 7 pc then (bif Nat.beq pc 7 then some (.aload_n 0, 0) else none) else (bif Nat.beq pc 6 then some (.bastore, 0) else none))) else (bif Nat.ble 4 pc then (bif Nat.ble 5 pc then (bif Nat.beq pc 5 then some (.iconst 0, 0) else none) else (bif Nat.beq pc 4 then some (.iload_n 1, 0) else none)) else (bif Nat.ble 1 pc then (bif Nat.beq pc 1 then some (.getfield 16, 2) else none) else (bif Nat.beq pc 0 then some (.aload_n 0, 0) else none))))))
def cd22 (pc : Nat) : Option (Instr × Nat) := (bif Nat.ble 2 pc then (bif Nat.ble 3 pc then (bif Nat.beq pc 3 then some (.ireturn, 0) else none) else (bif Nat.beq pc 2 then some (.ishl, 0) else none)) else (bif Nat.ble 1 pc then (bif Nat.beq pc 1 then some (.iload_n 1, 0) else none) else (bif Nat.beq pc 0 then some (.iconst 1, 0) else none)))
def cd23 (pc : Nat) : Option (Instr × Nat) := (bif Nat.ble 11 pc then (bif Nat.ble 18 pc then (bif Nat.ble 22 pc then (bif Nat.ble 23 pc then (bif Nat.beq pc 23 then some (.ireturn, 0) else none) else (bif Nat.beq pc 22 then some (.iconst 0, 0) else none)) else (bif Nat.ble 19 pc then (bif Nat.beq pc 19 then some (.goto 4, 23) else none) else (bif Nat.beq pc 18 then some (.iconst 1, 0) else none))) else (bif Nat.ble 12 pc then (bif Nat.ble 15 pc then (bif Nat.beq pc 15 then some (.if_icmp .le 7, 22) else none) else (bif Nat.beq pc 12 then some (.getfield 43, 9) else none)) else (bif Nat.beq pc 11 then some (.aload_n 0, 0) else none))) else (bif Nat.ble 5 pc then (bif Nat.ble 9 pc then (bif Nat.ble 10 pc then (bif Nat.beq pc 10 then some (.isub, 0) else none) else (bif Nat.beq pc 9 then some (.iaload, 0) else none)) else (bif Nat.ble 8 pc then (bif Nat.beq pc 8 then some (.iload_n 1, 0) else none) else (bif Nat.beq pc 5 then some (.getfield 20, 3) else none))) else (bif Nat.ble 1 pc then (bif Nat.ble 4 pc then (bif Nat.beq pc 4 then some (.aload_n 0, 0) else none) else (bif Nat.beq pc 1 then some (.getfield 46, 10) else none)) else (bif Nat.beq pc 0 then some (.aload_n 0, 0) else none))))
def cd24 (pc : Nat) : Option (Instr × Nat) := (bif Nat.ble 30 pc then (bif Nat.ble 48 pc then (bif Nat.ble 57 pc then (bif Nat.ble 61 pc then (bif Nat.ble 64 pc then (bif Nat.ble 65 pc then (bif Nat.beq pc 65 then some (.ireturn, 0) else none) else (bif Nat.beq pc 64 then some (.iconst (-1), 0) else none)) else (bif Nat.beq pc 61 then some (.goto (-44), 17) else none)) else (bif Nat.ble 58 pc then (bif Nat.beq pc 58 then some (.iinc 4 1, 0) else none) else (bif Nat.beq pc 57 then some (.ireturn, 0) else none))) else (bif Nat.ble 51 pc then (bif Nat.ble 52 pc then (bif Nat.ble 55 pc then (bif Nat.beq pc 55 then some (.iload 4, 0) else none) else (bif Nat.beq pc 52 then some (.if_icmp .le 6, 58) else none)) else (bif Nat.beq pc 51 then some (.iload_n 3, 0) else none)) else (bif Nat.ble 50 pc then (bif Nat.beq pc 50 then some (.iaload, 0) else none) else (bif Nat.beq pc 48 then some (.iload 4, 0) else none)))) else (bif Nat.ble 37 pc then (bif Nat.ble 41 pc then (bif Nat.ble 44 pc then (bif Nat.ble 45 pc then (bif Nat.beq pc 45 then some (.getfield 13, 1) else none) else (bif Nat.beq pc 44 then some (.aload_n 0, 0) else none)) else (bif Nat.beq pc 41 then some (.ifCond .eq 17, 58) else none)) else (bif Nat.ble 40 pc then (bif Nat.beq pc 40 then some (.iand, 0) else none) else (bif Nat.beq pc 37 then some (.invokevirtual 70, 22) else none))) else (bif Nat.ble 34 pc then (bif Nat.ble 35 pc then (bif Nat.beq pc 35 then some (.iload 4, 0) else none) else (bif Nat.beq pc 34 then some (.aload_n 0, 0) else none)) else (bif Nat.ble 33 pc then (bif Nat.beq pc 33 then some (.iload_n 2, 0) else none) else (bif Nat.beq pc 30 then some (.if_icmp .ge 34, 64) else none))))) else (bif Nat.ble 13 pc then (bif Nat.ble 19 pc then (bif Nat.ble 23 pc then (bif Nat.ble 26 pc then (bif Nat.ble 28 pc then (bif Nat.beq pc 28 then some (.bipush 32, 0) else none) else (bif Nat.beq pc 26 then some (.iload 4, 0) else none)) else (bif Nat.beq pc 23 then some (.if_icmp .ge 41, 64) else none)) else (bif Nat.ble 20 pc then (bif Nat.beq pc 20 then some (.getfield 36, 7) else none) else (bif Nat.beq pc 19 then some (.aload_n 0, 0) else none))) else (bif Nat.ble 15 pc then (bif Nat.ble 17 pc then (bif Nat.beq pc 17 then some (.iload 4, 0) else none) else (bif Nat.beq pc 15 then some (.istore 4, 0) else none)) else (bif Nat.ble 14 pc then (bif Nat.beq pc 14 then some (.iconst 0, 0) else none) else (bif Nat.beq pc 13 then some (.istore_n 3, 0) else none)))) else (bif Nat.ble 6 pc then (bif Nat.ble 8 pc then (bif Nat.ble 11 pc then (bif Nat.ble 12 pc then (bif Nat.beq pc 12 then some (.iaload, 0) else none) else (bif Nat.beq pc 11 then some (.iload_n 1, 0) else none)) else (bif Nat.beq pc 8 then some (.getfield 20, 3) else none)) else (bif Nat.ble 7 pc then (bif Nat.beq pc 7 then some (.aload_n 0, 0) else none) else (bif Nat.beq pc 6 then some (.istore_n 2, 0) else none))) else (bif Nat.ble 4 pc then (bif Nat.ble 5 pc then (bif Nat.beq pc 5 then some (.iaload, 0) else none) else (bif Nat.beq pc 4 then some (.iload_n 1, 0) else none)) else (bif Nat.ble 1 pc then (bif Nat.beq pc 1 then some (.getfield 23, 4) else none) else (bif Nat.beq pc 0 then some (.aload_n 0, 0) else none))))))
def cd25 (pc : Nat) : Option (Instr × Nat) := (bif Nat.ble 48 pc then (bif Nat.ble 72 pc then (bif Nat.ble 86 pc then (bif Nat.ble 91 pc then (bif Nat.ble 95 pc then (bif Nat.ble 96 pc then (bif Nat.beq pc 96 then some (.ireturn, 0) else none) else (bif Nat.beq pc 95 then some (.iload_n 2, 0) else none)) else (bif Nat.ble 92 pc then (bif Nat.beq pc 92 then some (.putfield 52, 12) else none) else (bif Nat.beq pc 91 then some (.iconst (-1), 0) else none))) else (bif Nat.ble 87 pc then (bif Nat.ble 90 pc then (bif Nat.beq pc 90 then some (.aload_n 0, 0) else none) else (bif Nat.beq pc 87 then some (.invokevirtual 90, 26) else none)) else (bif Nat.beq pc 86 then some (.iload_n 1, 0) else none))) else (bif Nat.ble 78 pc then (bif Nat.ble 82 pc then (bif Nat.ble 85 pc then (bif Nat.beq pc 85 then some (.aload_n 0, 0) else none) else (bif Nat.beq pc 82 then some (.goto (-57), 25) else none)) else (bif Nat.ble 79 pc then (bif Nat.beq pc 79 then some (.iinc 4 1, 0) else none) else (bif Nat.beq pc 78 then some (.iastore, 0) else none))) else (bif Nat.ble 75 pc then (bif Nat.ble 77 pc then (bif Nat.beq pc 77 then some (.iload_n 2, 0) else none) else (bif Nat.beq pc 75 then some (.iload 4, 0) else none)) else (bif Nat.beq pc 72 then some (.getfield 13, 1) else none)))) else (bif Nat.ble 62 pc then (bif Nat.ble 66 pc then (bif Nat.ble 70 pc then (bif Nat.ble 71 pc then (bif Nat.beq pc 71 then some (.aload_n 0, 0) else none) else (bif Nat.beq pc 70 then some (.iastore, 0) else none)) else (bif Nat.ble 69 pc then (bif Nat.beq pc 69 then some (.iaload, 0) else none) else (bif Nat.beq pc 66 then some (.invokevirtual 74, 28) else none))) else (bif Nat.ble 63 pc then (bif Nat.ble 64 pc then (bif Nat.beq pc 64 then some (.iload 4, 0) else none) else (bif Nat.beq pc 63 then some (.iload_n 1, 0) else none)) else (bif Nat.beq pc 62 then some (.aload_n 0, 0) else none))) else (bif Nat.ble 53 pc then (bif Nat.ble 58 pc then (bif Nat.ble 59 pc then (bif Nat.beq pc 59 then some (.getfield 29, 6) else none) else (bif Nat.beq pc 58 then some (.aload_n 0, 0) else none)) else (bif Nat.ble 56 pc then (bif Nat.beq pc 56 then some (.iload 4, 0) else none) else (bif Nat.beq pc 53 then some (.getfield 7, 0) else none))) else (bif Nat.ble 49 pc then (bif Nat.ble 52 pc then (bif Nat.beq pc 52 then some (.aload_n 0, 0) else none) else (bif Nat.beq pc 49 then some (.ifCond .eq 30, 79) else none)) else (bif Nat.beq pc 48 then some (.iand, 0) else none))))) else (bif Nat.ble 21 pc then (bif Nat.ble 34 pc then (bif Nat.ble 41 pc then (bif Nat.ble 43 pc then (bif Nat.ble 45 pc then (bif Nat.beq pc 45 then some (.invokevirtual 70, 22) else none) else (bif Nat.beq pc 43 then some (.iload 4, 0) else none)) else (bif Nat.ble 42 pc then (bif Nat.beq pc 42 then some (.aload_n 0, 0) else none) else (bif Nat.beq pc 41 then some (.iload_n 3, 0) else none))) else (bif Nat.ble 36 pc then (bif Nat.ble 38 pc then (bif Nat.beq pc 38 then some (.if_icmp .ge 47, 85) else none) else (bif Nat.beq pc 36 then some (.bipush 32, 0) else none)) else (bif Nat.beq pc 34 then some (.iload 4, 0) else none))) else (bif Nat.ble 25 pc then (bif Nat.ble 28 pc then (bif Nat.ble 31 pc then (bif Nat.beq pc 31 then some (.if_icmp .ge 54, 85) else none) else (bif Nat.beq pc 28 then some (.getfield 36, 7) else none)) else (bif Nat.ble 27 pc then (bif Nat.beq pc 27 then some (.aload_n 0, 0) else none) else (bif Nat.beq pc 25 then some (.iload 4, 0) else none))) else (bif Nat.ble 22 pc then (bif Nat.ble 23 pc then (bif Nat.beq pc 23 then some (.istore 4, 0) else none) else (bif Nat.beq pc 22 then some (.iconst 0, 0) else none)) else (bif Nat.beq pc 21 then some (.istore_n 3, 0) else none)))) else (bif Nat.ble 10 pc then (bif Nat.ble 15 pc then (bif Nat.ble 19 pc then (bif Nat.ble 20 pc then (bif Nat.beq pc 20 then some (.iaload, 0) else none) else (bif Nat.beq pc 19 then some (.iload_n 1, 0) else none)) else (bif Nat.ble 16 pc then (bif Nat.beq pc 16 then some (.getfield 26, 5) else none) else (bif Nat.beq pc 15 then some (.aload_n 0, 0) else none))) else (bif Nat.ble 11 pc then (bif Nat.ble 14 pc then (bif Nat.beq pc 14 then some (.istore_n 2, 0) else none) else (bif Nat.beq pc 11 then some (.getfield 46, 10) else none)) else (bif Nat.beq pc 10 then some (.aload_n 0, 0) else none))) else (bif Nat.ble 5 pc then (bif Nat.ble 6 pc then (bif Nat.ble 7 pc then (bif Nat.beq pc 7 then some (.putfield 46, 10) else none) else (bif Nat.beq pc 6 then some (.iadd, 0) else none)) else (bif Nat.beq pc 5 then some (.iconst 1, 0) else none)) else (bif Nat.ble 1 pc then (bif Nat.ble 2 pc then (bif Nat.beq pc 2 then some (.getfield 46, 10) else none) else (bif Nat.beq pc 1 then some (.aload_n 0, 0) else none)) else (bif Nat.beq pc 0 then some (.aload_n 0, 0) else none))))))
def cd26 (pc : Nat) : Option (Instr × Nat) := (bif Nat.ble 2 pc then (bif Nat.ble 5 pc then (bif Nat.beq pc 5 then some (.return_, 0) else none) else (bif Nat.beq pc 2 then some (.invokevirtual 93, 21) else none)) else (bif Nat.ble 1 pc then (bif Nat.beq pc 1 then some (.iload_n 1, 0) else none) else (bif Nat.beq pc 0 then some (.aload_n 0, 0) else none)))
def cd27 (pc : Nat) : Option (Instr × Nat) := (bif Nat.ble 30 pc then (bif Nat.ble 40 pc then (bif Nat.ble 46 pc then (bif Nat.ble 50 pc then (bif Nat.ble 51 pc then (bif Nat.ble 52 pc then (bif Nat.beq pc 52 then some (.ireturn, 0) else none) else (bif Nat.beq pc 51 then some (.iconst 0, 0) else none)) else (bif Nat.beq pc 50 then some (.iastore, 0) else none)) else (bif Nat.ble 49 pc then (bif Nat.beq pc 49 then some (.iload_n 3, 0) else none) else (bif Nat.beq pc 46 then some (.invokevirtual 74, 28) else none))) else (bif Nat.ble 44 pc then (bif Nat.ble 45 pc then (bif Nat.beq pc 45 then some (.iload_n 2, 0) else none) else (bif Nat.beq pc 44 then some (.iload_n 1, 0) else none)) else (bif Nat.ble 43 pc then (bif Nat.beq pc 43 then some (.aload_n 0, 0) else none) else (bif Nat.beq pc 40 then some (.getfield 29, 6) else none)))) else (bif Nat.ble 34 pc then (bif Nat.ble 38 pc then (bif Nat.ble 39 pc then (bif Nat.beq pc 39 then some (.aload_n 0, 0) else none) else (bif Nat.beq pc 38 then some (.iastore, 0) else none)) else (bif Nat.ble 37 pc then (bif Nat.beq pc 37 then some (.ior, 0) else none) else (bif Nat.beq pc 34 then some (.invokevirtual 70, 22) else none))) else (bif Nat.ble 32 pc then (bif Nat.ble 33 pc then (bif Nat.beq pc 33 then some (.iload_n 2, 0) else none) else (bif Nat.beq pc 32 then some (.aload_n 0, 0) else none)) else (bif Nat.ble 31 pc then (bif Nat.beq pc 31 then some (.iaload, 0) else none) else (bif Nat.beq pc 30 then some (.iload_n 1, 0) else none))))) else (bif Nat.ble 12 pc then (bif Nat.ble 21 pc then (bif Nat.ble 25 pc then (bif Nat.ble 26 pc then (bif Nat.ble 27 pc then (bif Nat.beq pc 27 then some (.getfield 26, 5) else none) else (bif Nat.beq pc 26 then some (.aload_n 0, 0) else none)) else (bif Nat.beq pc 25 then some (.iload_n 1, 0) else none)) else (bif Nat.ble 22 pc then (bif Nat.beq pc 22 then some (.getfield 26, 5) else none) else (bif Nat.beq pc 21 then some (.aload_n 0, 0) else none))) else (bif Nat.ble 18 pc then (bif Nat.ble 20 pc then (bif Nat.beq pc 20 then some (.ireturn, 0) else none) else (bif Nat.beq pc 18 then some (.bipush (-2), 0) else none)) else (bif Nat.ble 15 pc then (bif Nat.beq pc 15 then some (.ifCond .ne 6, 21) else none) else (bif Nat.beq pc 12 then some (.invokevirtual 67, 11) else none)))) else (bif Nat.ble 8 pc then (bif Nat.ble 10 pc then (bif Nat.ble 11 pc then (bif Nat.beq pc 11 then some (.iload_n 2, 0) else none) else (bif Nat.beq pc 10 then some (.aload_n 0, 0) else none)) else (bif Nat.ble 9 pc then (bif Nat.beq pc 9 then some (.ireturn, 0) else none) else (bif Nat.beq pc 8 then some (.iconst (-1), 0) else none))) else (bif Nat.ble 2 pc then (bif Nat.ble 5 pc then (bif Nat.beq pc 5 then some (.ifCond .ne 5, 10) else none) else (bif Nat.beq pc 2 then some (.invokevirtual 63, 4) else none)) else (bif Nat.ble 1 pc then (bif Nat.beq pc 1 then some (.iload_n 1, 0) else none) else (bif Nat.beq pc 0 then some (.aload_n 0, 0) else none))))))
def cd28 (pc : Nat) : Option (Instr × Nat) := (bif Nat.ble 4 pc then (bif Nat.ble 5 pc then (bif Nat.ble 6 pc then (bif Nat.beq pc 6 then some (.ireturn, 0) else none) else (bif Nat.beq pc 5 then some (.iadd, 0) else none)) else (bif Nat.beq pc 4 then some (.iload_n 2, 0) else none)) else (bif Nat.ble 1 pc then (bif Nat.ble 3 pc then (bif Nat.beq pc 3 then some (.imul, 0) else none) else (bif Nat.beq pc 1 then some (.bipush 32, 0) else none)) else (bif Nat.beq pc 0 then some (.iload_n 1, 0) else none)))
def cd29 (pc : Nat) : Option (Instr × Nat) := (bif Nat.ble 12 pc then (bif Nat.ble 20 pc then (bif Nat.ble 22 pc then (bif Nat.ble 25 pc then (bif Nat.ble 26 pc then (bif Nat.beq pc 26 then some (.ireturn, 0) else none) else (bif Nat.beq pc 25 then some (.iconst 0, 0) else none)) else (bif Nat.beq pc 22 then some (.putfield 49, 11) else none)) else (bif Nat.ble 21 pc then (bif Nat.beq pc 21 then some (.iadd, 0) else none) else (bif Nat.beq pc 20 then some (.iconst 1, 0) else none))) else (bif Nat.ble 16 pc then (bif Nat.ble 17 pc then (bif Nat.beq pc 17 then some (.getfield 49, 11) else none) else (bif Nat.beq pc 16 then some (.aload_n 0, 0) else none)) else (bif Nat.ble 15 pc then (bif Nat.beq pc 15 then some (.aload_n 0, 0) else none) else (bif Nat.beq pc 12 then some (.invokevirtual 90, 26) else none)))) else (bif Nat.ble 8 pc then (bif Nat.ble 10 pc then (bif Nat.ble 11 pc then (bif Nat.beq pc 11 then some (.iload_n 1, 0) else none) else (bif Nat.beq pc 10 then some (.aload_n 0, 0) else none)) else (bif Nat.ble 9 pc then (bif Nat.beq pc 9 then some (.ireturn, 0) else none) else (bif Nat.beq pc 8 then some (.iconst (-1), 0) else none))) else (bif Nat.ble 2 pc then (bif Nat.ble 5 pc then (bif Nat.beq pc 5 then some (.ifCond .ne 5, 10) else none) else (bif Nat.beq pc 2 then some (.invokevirtual 63, 4) else none)) else (bif Nat.ble 1 pc then (bif Nat.beq pc 1 then some (.iload_n 1, 0) else none) else (bif Nat.beq pc 0 then some (.aload_n 0, 0) else none)))))
def cd30 (pc : Nat) : Option (Instr × Nat) := (bif Nat.ble 11 pc then (bif Nat.ble 16 pc then (bif Nat.ble 20 pc then (bif Nat.ble 21 pc then (bif Nat.beq pc 21 then some (.ireturn, 0) else none) else (bif Nat.beq pc 20 then some (.iload_n 3, 0) else none)) else (bif Nat.ble 17 pc then (bif Nat.beq pc 17 then some (.putfield 52, 12) else none) else (bif Nat.beq pc 16 then some (.iload_n 2, 0) else none))) else (bif Nat.ble 12 pc then (bif Nat.ble 15 pc then (bif Nat.beq pc 15 then some (.aload_n 0, 0) else none) else (bif Nat.beq pc 12 then some (.putfield 49, 11) else none)) else (bif Nat.beq pc 11 then some (.iadd, 0) else none))) else (bif Nat.ble 5 pc then (bif Nat.ble 7 pc then (bif Nat.ble 10 pc then (bif Nat.beq pc 10 then some (.iconst 1, 0) else none) else (bif Nat.beq pc 7 then some (.getfield 49, 11) else none)) else (bif Nat.ble 6 pc then (bif Nat.beq pc 6 then some (.aload_n 0, 0) else none) else (bif Nat.beq pc 5 then some (.aload_n 0, 0) else none))) else (bif Nat.ble 1 pc then (bif Nat.ble 2 pc then (bif Nat.beq pc 2 then some (.invokevirtual 90, 26) else none) else (bif Nat.beq pc 1 then some (.iload_n 1, 0) else none)) else (bif Nat.beq pc 0 then some (.aload_n 0, 0) else none))))
def pCode (m pc : Nat) : Option (Instr × Nat) := bif Nat.ble pN m then none else bif Nat.ble pTop pc then none else (bif Nat.ble 15 m then (bif Nat.ble 23 m then (bif Nat.ble 27 m then (bif Nat.ble 29 m then (bif Nat.ble 30 m then cd30 pc else cd29 pc) else (bif Nat.ble 28 m then cd28 pc else cd27 pc)) else (bif Nat.ble 25 m then (bif Nat.ble 26 m then cd26 pc else cd25 pc) else (bif Nat.ble 24 m then cd24 pc else cd23 pc))) else (bif Nat.ble 19 m then (bif Nat.ble 21 m then (bif Nat.ble 22 m then cd22 pc else cd21 pc) else (bif Nat.ble 20 m then cd20 pc else cd19 pc)) else (bif Nat.ble 17 m then (bif Nat.ble 18 m then cd18 pc else cd17 pc) else (bif Nat.ble 16 m then cd16 pc else cd15 pc)))) else (bif Nat.ble 7 m then (bif Nat.ble 11 m then (bif Nat.ble 13 m then (bif Nat.ble 14 m then cd14 pc else cd13 pc) else (bif Nat.ble 12 m then cd12 pc else cd11 pc)) else (bif Nat.ble 9 m then (bif Nat.ble 10 m then cd10 pc else cd9 pc) else (bif Nat.ble 8 m then cd8 pc else cd7 pc))) else (bif Nat.ble 3 m then (bif Nat.ble 5 m then (bif Nat.ble 6 m then cd6 pc else cd5 pc) else (bif Nat.ble 4 m then cd4 pc else cd3 pc)) else (bif Nat.ble 1 m then (bif Nat.ble 2 m then cd2 pc else cd1 pc) else cd0 pc))))
def lkF : List (Nat × Nat × Nat) := [(1, 7, 0), (1, 13, 1), (1, 16, 2), (1, 20, 3), (1, 23, 4), (1, 26, 5), (1, 29, 6), (1, 36, 7), (1, 40, 8), (1, 43, 9), (1, 46, 10), (1, 49, 11), (1, 52, 12)]
def lkN : List (Nat × Nat) := [(0, 8)]
def lkC : List (Nat × Nat × Nat) := [(0, 46, 0)]
def lkD : List (Nat × Nat × Nat) := []
def lkV : List (Nat × Nat × Nat) := [(0, 43, 1), (1, 32, 2), (0, 26, 3), (1, 63, 4), (0, 57, 5), (0, 63, 6), (0, 7, 7), (0, 13, 8), (0, 16, 9), (0, 19, 10), (1, 67, 11), (0, 23, 12), (0, 30, 13), (0, 33, 14), (0, 36, 15), (0, 39, 16), (0, 50, 17), (0, 47, 18), (1, 55, 19), (1, 59, 20), (1, 93, 21), (1, 70, 22), (1, 78, 23), (1, 84, 24), (1, 87, 25), (1, 90, 26), (0, 53, 27), (1, 74, 28), (0, 60, 29), (1, 81, 30)]
def lkO : List (Nat × Nat) := [(1, 1)]
def mV : List Nat := [3, 5, 7, 8, 9, 10, 12, 13, 14, 15, 16, 17, 18, 27, 29]
def mP : List Nat := [2, 4, 11, 19, 20, 21, 22, 23, 24, 25, 26, 28, 30]
def mS : List Nat := [6]
def mI : List Nat := [1]
def mA : List Nat := [1, 2, 3, 4, 5, 6, 7, 8, 9, 10, 11, 12, 13, 14, 15, 16, 17, 18, 19, 20, 21, 22, 23, 24, 25, 26, 27, 28, 29, 30]
def aTys : List FieldType := [.int, .boolean]
/-! ENGINE: abstract cells, locals, one-step function, and what a triple says of the model. -/
abbrev QCell := List Value ⊕ ((FieldType × List Int32) ⊕ List Int64)
abbrev QHeap := List QCell
abbrev QLoc := List (Option Value)
abbrev vI (x : Int32) : Option Value := some (.int x)
abbrev QSt := Nat × QLoc × List Value × QHeap
def qv (ad : Nat → Addr) : Value → Value
  | .ref k => .ref (ad k)
  | v => v
def qsz : QCell → Nat
  | .inl _ => cN
  | .inr (.inl x) => x.2.length
  | .inr (.inr x) => x.length
def qhs : QHeap → Nat
  | [] => 0
  | c :: t => qsz c + qhs t
def aget {α : Type} (xs : List α) (j : Int32) : Option α := if j < 0 then none else xs[j.toNatClampNeg]?
def aset {α : Type} (xs : List α) (j : Int32) (v : α) : Option (List α) := if j < 0 then none else if j.toNatClampNeg < xs.length then some (xs.set j.toNatClampNeg v) else none
def qnew (n : Int32) : Option Nat := if n < 0 then none else if n.toNatClampNeg ≤ 67108864 then some n.toNatClampNeg else none
def qdiv (x y : Int32) : Option Int32 := if y = 0 then none else some (x / y)
def qrem (x y : Int32) : Option Int32 := if y = 0 then none else some (x % y)
def qboo (x : Int32) : Option Int32 := if x = 0 then some x else if x = 1 then some x else none
def lget : QLoc → Nat → Option Value
  | [], _ => none
  | v :: _, 0 => v
  | _ :: t, k + 1 => lget t k
def hget : QHeap → Nat → Option QCell
  | [], _ => none
  | v :: _, 0 => some v
  | _ :: t, k + 1 => hget t k
def vget : List Value → Nat → Option Value
  | [], _ => none
  | v :: _, 0 => some v
  | _ :: t, k + 1 => vget t k
def lkill (L : QLoc) : Nat → QLoc
  | 0 => L
  | k + 1 => match lget L k with
    | some (.long _) => L.set k none
    | some (.double _) => L.set k none
    | _ => L
def lput (L : QLoc) (k : Nat) (v : Value) : Option QLoc :=
  match v with
  | .long x => bif Nat.ble (k + 2) L.length then some (((lkill L k).set k (some (.long x))).set (k + 1) none) else none
  | .double _ => none
  | v => bif Nat.ble (k + 1) L.length then some ((lkill L k).set k (some v)) else none
/-- push what a local holds, if it is of the kind -/
def qload (pc : Nat) (L : QLoc) (S : List Value) (σ : QHeap) (k : Nat) (ok : Value → Bool) : Option QSt :=
  match lget L k with
  | some v => bif ok v then some (pc, L, v :: S, σ) else none
  | none => none
def isI : Value → Bool | .int _ => true | _ => false
def isJ : Value → Bool | .long _ => true | _ => false
def isR : Value → Bool | .ref _ => true | _ => false
def qstore (pc : Nat) (L : QLoc) (S : List Value) (σ : QHeap) (k : Nat) (ok : Value → Bool) : Option QSt :=
  match S with
  | v :: S' => bif ok v then (match lput L k v with | some L' => some (pc, L', S', σ) | none => none) else none
  | [] => none
def qbin (pc : Nat) (L : QLoc) (S : List Value) (σ : QHeap) (f : Int32 → Int32 → Int32) : Option QSt :=
  match S with
  | .int y :: .int x :: S' => some (pc, L, .int (f x y) :: S', σ)
  | _ => none
def qbino (pc : Nat) (L : QLoc) (S : List Value) (σ : QHeap) (f : Int32 → Int32 → Option Int32) : Option QSt :=
  match S with
  | .int y :: .int x :: S' => (f x y).bind fun z => some (pc, L, .int z :: S', σ)
  | _ => none
def qbinJ (pc : Nat) (L : QLoc) (S : List Value) (σ : QHeap) (f : Int64 → Int64 → Int64) : Option QSt :=
  match S with
  | .long y :: .long x :: S' => some (pc, L, .long (f x y) :: S', σ)
  | _ => none
def qshJ (pc : Nat) (L : QLoc) (S : List Value) (σ : QHeap) (f : Int64 → Int32 → Int64) : Option QSt :=
  match S with
  | .int y :: .long x :: S' => some (pc, L, .long (f x y) :: S', σ)
  | _ => none
def quni (pc : Nat) (L : QLoc) (S : List Value) (σ : QHeap) (f : Int32 → Value) : Option QSt :=
  match S with
  | .int x :: S' => some (pc, L, f x :: S', σ)
  | _ => none
def quniJ (pc : Nat) (L : QLoc) (S : List Value) (σ : QHeap) (f : Int64 → Value) : Option QSt :=
  match S with
  | .long x :: S' => some (pc, L, f x :: S', σ)
  | _ => none
def qald (pc : Nat) (L : QLoc) (S : List Value) (σ : QHeap) (ok : FieldType → Bool) : Option QSt :=
  match S with
  | .int j :: .ref a :: S' => (match hget σ a with
    | some (.inr (.inl x)) => bif ok x.1 then (aget x.2 j).bind fun v => some (pc, L, .int v :: S', σ) else none
    | _ => none)
  | _ => none
def qaldJ (pc : Nat) (L : QLoc) (S : List Value) (σ : QHeap) : Option QSt :=
  match S with
  | .int j :: .ref a :: S' => (match hget σ a with
    | some (.inr (.inr x)) => (aget x j).bind fun v => some (pc, L, .long v :: S', σ)
    | _ => none)
  | _ => none
def qnar : FieldType → Int32 → Int32
  | .boolean, x => x &&& 1
  | .byte, x => x.toInt8.toInt32
  | _, x => x
def qast (pc : Nat) (L : QLoc) (S : List Value) (σ : QHeap) (ok : FieldType → Bool) : Option QSt :=
  match S with
  | .int v :: .int j :: .ref a :: S' => (match hget σ a with
    | some (.inr (.inl x)) => bif ok x.1 && Nat.ble k0 a then (aset x.2 j (qnar x.1 v)).bind fun y => some (pc, L, S', σ.set a (.inr (.inl (x.1, y)))) else none
    | _ => none)
  | _ => none
def qastJ (pc : Nat) (L : QLoc) (S : List Value) (σ : QHeap) : Option QSt :=
  match S with
  | .long v :: .int j :: .ref a :: S' => (match hget σ a with
    | some (.inr (.inr x)) => bif Nat.ble k0 a then (aset x j v).bind fun y => some (pc, L, S', σ.set a (.inr (.inr y))) else none
    | _ => none)
  | _ => none
def tyI : FieldType → Bool | .int => true | _ => false
def tyB : FieldType → Bool | .boolean => true | .byte => true | _ => false
/-- what a value becomes in a field of the type (none: it doesn't fit) -/
def qfit : FieldType → Value → Option Value
  | .int, .int x => some (.int x)
  | .boolean, .int x => (qboo x).bind fun y => some (.int y)
  | .long, .long x => some (.long x)
  | .array t, .ref a => some (.ref a)
  | _, _ => none
def qget (pc : Nat) (L : QLoc) (S : List Value) (σ : QHeap) (k : Nat) : Option QSt :=
  match S with
  | .ref a :: S' => (match hget σ a with
    | some (.inl vs) => (match vget vs k with | some v => some (pc, L, v :: S', σ) | none => none)
    | _ => none)
  | _ => none
def qput (pc : Nat) (L : QLoc) (S : List Value) (σ : QHeap) (k : Nat) : Option QSt :=
  match S with
  | v :: .ref a :: S' => (match hget σ a with
    | some (.inl vs) => bif Nat.ble k0 a && Nat.ble (k + 1) vs.length then (qfit (fTy k) v).bind fun w => some (pc, L, S', σ.set a (.inl (vs.set k w))) else none
    | _ => none)
  | _ => none
def qnewA (pc : Nat) (L : QLoc) (S : List Value) (σ : QHeap) (t : ArrayType) : Option QSt :=
  match S with
  | .int n :: S' => (match t with
    | .int => (qnew n).bind fun k => some (pc, L, .ref σ.length :: S', σ ++ [.inr (.inl (.int, List.replicate k 0))])
    | .boolean => (qnew n).bind fun k => some (pc, L, .ref σ.length :: S', σ ++ [.inr (.inl (.boolean, List.replicate k 0))])
    | .byte => (qnew n).bind fun k => some (pc, L, .ref σ.length :: S', σ ++ [.inr (.inl (.byte, List.replicate k 0))])
    | .long => (qnew n).bind fun k => some (pc, L, .ref σ.length :: S', σ ++ [.inr (.inr (List.replicate k 0))])
    | _ => none)
  | _ => none
def qlen (pc : Nat) (L : QLoc) (S : List Value) (σ : QHeap) : Option QSt :=
  match S with
  | .ref a :: S' => (match hget σ a with
    | some (.inr (.inl x)) => some (pc, L, .int x.2.length.toInt32 :: S', σ)
    | some (.inr (.inr x)) => some (pc, L, .int x.length.toInt32 :: S', σ)
    | _ => none)
  | _ => none
def qdup (pc : Nat) (L : QLoc) (S : List Value) (σ : QHeap) : Option QSt :=
  match S with
  | .int x :: S' => some (pc, L, .int x :: .int x :: S', σ)
  | .ref x :: S' => some (pc, L, .ref x :: .ref x :: S', σ)
  | _ => none
def qdup2 (pc : Nat) (L : QLoc) (S : List Value) (σ : QHeap) : Option QSt :=
  match S with
  | .int x :: .ref y :: S' => some (pc, L, .int x :: .ref y :: .int x :: .ref y :: S', σ)
  | .int x :: .int y :: S' => some (pc, L, .int x :: .int y :: .int x :: .int y :: S', σ)
  | .long x :: S' => some (pc, L, .long x :: .long x :: S', σ)
  | _ => none
def qpop (pc : Nat) (L : QLoc) (S : List Value) (σ : QHeap) : Option QSt :=
  match S with
  | .int _ :: S' => some (pc, L, S', σ)
  | .ref _ :: S' => some (pc, L, S', σ)
  | _ => none
def qif (pc : Nat) (L : QLoc) (S : List Value) (σ : QHeap) (cd : ClassFile.Cond) (tgt : Nat) : Option QSt :=
  match S with
  | .int x :: S' => some (bif ifCond.holds cd x then tgt else pc, L, S', σ)
  | _ => none
def qicmp (pc : Nat) (L : QLoc) (S : List Value) (σ : QHeap) (cd : ClassFile.Cond) (tgt : Nat) : Option QSt :=
  match S with
  | .int y :: .int x :: S' => some (bif if_icmp.holds cd x y then tgt else pc, L, S', σ)
  | _ => none
def qinc (pc : Nat) (L : QLoc) (S : List Value) (σ : QHeap) (k : Nat) (i : Int) : Option QSt :=
  match lget L k with
  | some (.int x) => (match lput L k (.int (x + Int32.ofInt i)) with | some L' => some (pc, L', S, σ) | none => none)
  | _ => none
def qldc (pc : Nat) (L : QLoc) (S : List Value) (σ : QHeap) (k : Nat) : Option QSt :=
  match vget cK k with
  | some v => some (pc, L, v :: S, σ)
  | none => none
def qexec (pc : Nat) (L : QLoc) (S : List Value) (σ : QHeap) (aux : Nat) : Instr → Option QSt
  | .aload_n k => qload (pc + 1) L S σ k.val isR
  | .aload k => qload (pc + 2) L S σ k isR
  | .iload_n k => qload (pc + 1) L S σ k.val isI
  | .iload k => qload (pc + 2) L S σ k isI
  | .lload_n k => qload (pc + 1) L S σ k.val isJ
  | .lload k => qload (pc + 2) L S σ k isJ
  | .iconst i => some (pc + 1, L, .int (Int32.ofInt i) :: S, σ)
  | .bipush i => some (pc + 2, L, .int (Int8.ofInt i).toInt32 :: S, σ)
  | .sipush i => some (pc + 3, L, .int (Int16.ofInt i).toInt32 :: S, σ)
  | .lconst k => some (pc + 1, L, .long (Int64.ofNat k.val) :: S, σ)
  | .ldc _ => qldc (pc + 2) L S σ aux
  | .ldc2_w _ => qldc (pc + 3) L S σ aux
  | .istore_n k => qstore (pc + 1) L S σ k.val isI
  | .istore k => qstore (pc + 2) L S σ k isI
  | .lstore_n k => qstore (pc + 1) L S σ k.val isJ
  | .lstore k => qstore (pc + 2) L S σ k isJ
  | .astore_n k => qstore (pc + 1) L S σ k.val isR
  | .astore k => qstore (pc + 2) L S σ k isR
  | .iinc k i => qinc (pc + 3) L S σ k i
  | .iadd => qbin (pc + 1) L S σ fun x y => x + y
  | .isub => qbin (pc + 1) L S σ fun x y => x - y
  | .imul => qbin (pc + 1) L S σ fun x y => x * y
  | .iand => qbin (pc + 1) L S σ fun x y => x &&& y
  | .ior => qbin (pc + 1) L S σ fun x y => x ||| y
  | .ixor => qbin (pc + 1) L S σ fun x y => x ^^^ y
  | .ishl => qbin (pc + 1) L S σ fun x y => x <<< (y &&& 31)
  | .ishr => qbin (pc + 1) L S σ fun x y => x >>> (y &&& 31)
  | .iushr => qbin (pc + 1) L S σ fun x y => XT.ushr x y
  | .idiv => qbino (pc + 1) L S σ qdiv
  | .irem => qbino (pc + 1) L S σ qrem
  | .ineg => quni (pc + 1) L S σ fun x => .int (-x)
  | .i2l => quni (pc + 1) L S σ fun x => .long x.toInt64
  | .i2b => quni (pc + 1) L S σ fun x => .int x.toInt8.toInt32
  | .l2i => quniJ (pc + 1) L S σ fun x => .int x.toInt32
  | .lneg => quniJ (pc + 1) L S σ fun x => .long (-x)
  | .ladd => qbinJ (pc + 1) L S σ fun x y => x + y
  | .lsub => qbinJ (pc + 1) L S σ fun x y => x - y
  | .lmul => qbinJ (pc + 1) L S σ fun x y => x * y
  | .land => qbinJ (pc + 1) L S σ fun x y => x &&& y
  | .lor => qbinJ (pc + 1) L S σ fun x y => x ||| y
  | .lxor => qbinJ (pc + 1) L S σ fun x y => x ^^^ y
  | .lshl => qshJ (pc + 1) L S σ fun x y => x <<< (y.toInt64 &&& 63)
  | .lshr => qshJ (pc + 1) L S σ fun x y => x >>> (y.toInt64 &&& 63)
  | .lushr => qshJ (pc + 1) L S σ fun x y => XT.ushrL x y
  | .lcmp => (match S with
    | .long y :: .long x :: S' => some (pc + 1, L, .int (XT.cmpL x y) :: S', σ)
    | _ => none)
  | .goto _ => some (aux, L, S, σ)
  | .ifCond cd _ => qif (pc + 3) L S σ cd aux
  | .if_icmp cd _ => qicmp (pc + 3) L S σ cd aux
  | .dup => qdup (pc + 1) L S σ
  | .dup2 => qdup2 (pc + 1) L S σ
  | .pop => qpop (pc + 1) L S σ
  | .getfield _ => qget (pc + 3) L S σ aux
  | .putfield _ => qput (pc + 3) L S σ aux
  | .iaload => qald (pc + 1) L S σ tyI
  | .baload => qald (pc + 1) L S σ tyB
  | .laload => qaldJ (pc + 1) L S σ
  | .iastore => qast (pc + 1) L S σ tyI
  | .bastore => qast (pc + 1) L S σ tyB
  | .lastore => qastJ (pc + 1) L S σ
  | .arraylength => qlen (pc + 1) L S σ
  | .newarray t => qnewA (pc + 2) L S σ t
  | .new _ => some (pc + 3, L, .ref σ.length :: S, σ ++ [.inl cDef])
  | _ => none
def qstep (m : Nat) (st : QSt) : Option QSt :=
  match pCode m st.1 with
  | some (i, aux) => qexec st.1 st.2.1 st.2.2.1 st.2.2.2 aux i
  | none => none
def qsteps (m : Nat) : Nat → QSt → Option QSt
  | 0, st => some st
  | n + 1, st => match qstep m st with | some st' => qsteps m n st' | none => none
def qentry (args : List Value) (mx : Nat) : QLoc := (args.flatMap fun v => match v with | .long x => [some (.long x), none] | .double x => [some (.double x), none] | v => [some v]) ++ List.replicate (mx - (args.map fun v => v.category).sum) none
/-! ## what the abstract state says of the model's -/
def ilen : Instr → Nat
  | .aload _ | .iload _ | .lload _ | .istore _ | .lstore _ | .astore _ | .bipush _ | .ldc _ | .newarray _ => 2
  | .sipush _ | .ldc2_w _ | .iinc _ _ | .goto _ | .ifCond _ _ | .if_icmp _ _ | .getfield _ | .putfield _ | .new _ | .invokevirtual _ | .invokespecial _ | .invokestatic _ => 3
  | _ => 1
def qtgt (pc : Nat) (o : Int) (aux : Nat) : Bool := decide (0 ≤ (pc : Int) + o) && decide (((pc : Int) + o).toNat = aux)
def qlk (m pc : Nat) (i : Instr) (aux : Nat) : Bool :=
  match i with
  | .goto o => qtgt pc o aux
  | .ifCond _ o => qtgt pc o aux
  | .if_icmp _ o => qtgt pc o aux
  | .getfield idx => lkF.contains (pK m, idx, aux)
  | .putfield idx => lkF.contains (pK m, idx, aux) && (!fFin aux || (pK m == 1 && pNm m == "<init>"))
  | .new idx => lkN.contains (pK m, idx)
  | .newarray t => aTys.contains (newarray.typeOf t)
  | .ldc idx => lkC.contains (pK m, idx, aux)
  | .ldc2_w idx => lkD.contains (pK m, idx, aux)
  | _ => true
def qchk (m pc : Nat) (i : Instr) (aux : Nat) : Bool := decide (decode (pBytes m) pc = .ok (i, ilen i)) && qlk m pc i aux
def QCellOk (Z : State) (ad : Nat → Addr) (h : Heap) (a : Addr) : QCell → Prop
  | .inl vs => Exa Z h a cName ∧ vs.length = nF ∧ ∀ (k : Nat) (v : Value), k < nF → vget vs k = some v → Fld Z h a cName (fNm k) (fDs k) (qv ad v)
  | .inr (.inl x) => ∃ c : Cell, Arr Z h a c x.1 ∧ c.slots = (x.2.map Value.int).toArray
  | .inr (.inr x) => ∃ c : Cell, Arr Z h a c .long ∧ c.slots = (x.map Value.long).toArray
def QAd (n0 : Nat) (ad : Nat → Addr) : Prop := (∀ k, k0 ≤ k → ad k = n0 + (k - k0)) ∧ ∀ i j, ad i = ad j → i = j
def QRep (Z : State) (n0 : Nat) (ad : Nat → Addr) (h : Heap) (σ : QHeap) : Prop := k0 ≤ σ.length ∧ h.size = n0 + (σ.length - k0) ∧ ∀ k c, hget σ k = some c → QCellOk Z ad h (ad k) c
def QLocOk (ad : Nat → Addr) (L : QLoc) (C : Array Slot) : Prop :=
  L.length = C.size ∧ (∀ k v, lget L k = some v → C[k]? = some (.val (qv ad v))) ∧ (∀ k w, C[k]? = some (.val w) → w.category = 2 → C[k + 1]? = some .second) ∧ ∀ k, C[k]? = some .second → ∃ j w, k = j + 1 ∧ C[j]? = some (.val w) ∧ w.category = 2
/-- the words of the sheet, as the engine uses them -/
def QW (Z : State) (a0 : Array Value) : Prop :=
  (∀ t ∈ lkF, (Cond.fieldLink (kName t.1) t.2.1 cName (fNm t.2.2) (fDs t.2.2)).before a0 Z = true) ∧
  (∀ t ∈ lkN, (Cond.classLink (kName t.1) t.2 cName).before a0 Z = true) ∧
  (∀ t ∈ lkC, ∃ v, vget cK t.2.2 = some (.int v) ∧ (Cond.constant (kName t.1) t.2.1 v).before a0 Z = true) ∧
  (∀ t ∈ lkD, ∃ v, vget cK t.2.2 = some (.long v) ∧ (Cond.constantLong (kName t.1) t.2.1 v).before a0 Z = true) ∧
  (∀ t ∈ lkV, (Cond.methodLink (kName t.1) t.2.1 (pName t.2.2)).before a0 Z = true) ∧
  (∀ t ∈ lkO, (Cond.methodLink (kName t.1) t.2 Lib.objectInit).before a0 Z = true) ∧
  (∀ m ∈ mV, (Cond.declares (pName m)).before a0 Z = true ∧ (Cond.selects cName (pName m) (pName m)).before a0 Z = true ∧ (Cond.instanceMethod (pName m)).before a0 Z = true) ∧
  (∀ m ∈ mP, (Cond.instanceMethod (pName m)).before a0 Z = true ∧ (Cond.privateMethod (pName m)).before a0 Z = true) ∧
  (∀ m ∈ mS, (Cond.static (pName m)).before a0 Z = true) ∧
  (∀ m ∈ mI, (Cond.instanceMethod (pName m)).before a0 Z = true) ∧
  (∀ m ∈ mA, (Cond.code (pName m) (pBytes m) (pMaxL m) (pRet m)).before a0 Z = true ∧ (Cond.initialized (kName (pK m))).before a0 Z = true) ∧
  (Cond.instanceMethod Lib.objectInit).before a0 Z = true ∧ (Cond.code Lib.objectInit ⟨#[0xb1]⟩ 1 none).before a0 Z = true ∧
  (∀ k, k < nF → bif fFin k then (Cond.laysFinal cName cName (fNm k) (fDs k)).before a0 Z = true else (Cond.lays cName cName (fNm k) (fDs k)).before a0 Z = true) ∧
  (Cond.instantiable cName cN).before a0 Z = true ∧ (Cond.initialized cName).before a0 Z = true ∧
  ∀ ty ∈ aTys, (Cond.arrayClass ty).before a0 Z = true
section Words
variable {Z : State} {a0 : Array Value}
theorem qw_fl (W : QW Z a0) : ∀ t ∈ lkF, (Cond.fieldLink (kName t.1) t.2.1 cName (fNm t.2.2) (fDs t.2.2)).before a0 Z = true := W.1
theorem qw_nw (W : QW Z a0) : ∀ t ∈ lkN, (Cond.classLink (kName t.1) t.2 cName).before a0 Z = true := W.2.1
theorem qw_cI (W : QW Z a0) : ∀ t ∈ lkC, ∃ v, vget cK t.2.2 = some (.int v) ∧ (Cond.constant (kName t.1) t.2.1 v).before a0 Z = true := W.2.2.1
theorem qw_cJ (W : QW Z a0) : ∀ t ∈ lkD, ∃ v, vget cK t.2.2 = some (.long v) ∧ (Cond.constantLong (kName t.1) t.2.1 v).before a0 Z = true := W.2.2.2.1
theorem qw_ml (W : QW Z a0) : ∀ t ∈ lkV, (Cond.methodLink (kName t.1) t.2.1 (pName t.2.2)).before a0 Z = true := W.2.2.2.2.1
theorem qw_mo (W : QW Z a0) : ∀ t ∈ lkO, (Cond.methodLink (kName t.1) t.2 Lib.objectInit).before a0 Z = true := W.2.2.2.2.2.1
theorem qw_vi (W : QW Z a0) : ∀ m ∈ mV, (Cond.declares (pName m)).before a0 Z = true ∧ (Cond.selects cName (pName m) (pName m)).before a0 Z = true ∧ (Cond.instanceMethod (pName m)).before a0 Z = true := W.2.2.2.2.2.2.1
theorem qw_pr (W : QW Z a0) : ∀ m ∈ mP, (Cond.instanceMethod (pName m)).before a0 Z = true ∧ (Cond.privateMethod (pName m)).before a0 Z = true := W.2.2.2.2.2.2.2.1
theorem qw_st (W : QW Z a0) : ∀ m ∈ mS, (Cond.static (pName m)).before a0 Z = true := W.2.2.2.2.2.2.2.2.1
theorem qw_ini (W : QW Z a0) : ∀ m ∈ mI, (Cond.instanceMethod (pName m)).before a0 Z = true := W.2.2.2.2.2.2.2.2.2.1
theorem qw_cod (W : QW Z a0) : ∀ m ∈ mA, (Cond.code (pName m) (pBytes m) (pMaxL m) (pRet m)).before a0 Z = true ∧ (Cond.initialized (kName (pK m))).before a0 Z = true := W.2.2.2.2.2.2.2.2.2.2.1
theorem qw_oi (W : QW Z a0) : (Cond.instanceMethod Lib.objectInit).before a0 Z = true := W.2.2.2.2.2.2.2.2.2.2.2.1
theorem qw_oc (W : QW Z a0) : (Cond.code Lib.objectInit ⟨#[0xb1]⟩ 1 none).before a0 Z = true := W.2.2.2.2.2.2.2.2.2.2.2.2.1
theorem qw_lay (W : QW Z a0) : ∀ k, k < nF → bif fFin k then (Cond.laysFinal cName cName (fNm k) (fDs k)).before a0 Z = true else (Cond.lays cName cName (fNm k) (fDs k)).before a0 Z = true := W.2.2.2.2.2.2.2.2.2.2.2.2.2.1
theorem qw_inst (W : QW Z a0) : (Cond.instantiable cName cN).before a0 Z = true := W.2.2.2.2.2.2.2.2.2.2.2.2.2.2.1
theorem qw_init (W : QW Z a0) : (Cond.initialized cName).before a0 Z = true := W.2.2.2.2.2.2.2.2.2.2.2.2.2.2.2.1
theorem qw_arr (W : QW Z a0) : ∀ ty ∈ aTys, (Cond.arrayClass ty).before a0 Z = true := W.2.2.2.2.2.2.2.2.2.2.2.2.2.2.2.2
end Words
/-! ## small laws of lists -/
theorem hget_eq : ∀ (σ : QHeap) k, hget σ k = σ[k]?
  | [], _ => by simp [hget]
  | _ :: _, 0 => by simp [hget]
  | _ :: t, k + 1 => by simp [hget, hget_eq t k]
theorem vget_eq : ∀ (σ : List Value) k, vget σ k = σ[k]?
  | [], _ => by simp [vget]
  | _ :: _, 0 => by simp [vget]
  | _ :: t, k + 1 => by simp [vget, vget_eq t k]
theorem lget_eq : ∀ (L : QLoc) k, lget L k = (L[k]?).getD none
  | [], _ => by simp [lget]
  | _ :: _, 0 => by simp [lget]
  | _ :: t, k + 1 => by simp [lget, lget_eq t k]
theorem lget_lt {L : QLoc} {k : Nat} {v : Value} (h : lget L k = some v) : k < L.length := by
  rw [lget_eq] at h
  rcases Nat.lt_or_ge k L.length with q | q
  · exact q
  · simp [List.getElem?_eq_none q] at h
theorem lget_set {L : QLoc} {k j : Nat} {o : Option Value} (hk : k < L.length) : lget (L.set k o) j = if j = k then o else lget L j := by
  simp only [lget_eq, List.getElem?_set]
  by_cases e : k = j
  · subst e; simp [hk]
  · simp [e, Ne.symm e]
theorem qhs_app (σ τ : QHeap) : qhs (σ ++ τ) = qhs σ + qhs τ := by
  induction σ with
  | nil => simp [qhs]
  | cons c t ih => simp [qhs, ih, Nat.add_assoc]
theorem qhs_set {σ : QHeap} {k : Nat} {c d : QCell} (h : hget σ k = some c) (hs : qsz d = qsz c) : qhs (σ.set k d) = qhs σ := by
  induction σ generalizing k with
  | nil => simp [hget] at h
  | cons x t ih =>
    cases k with
    | zero => simp only [hget, Option.some.injEq] at h; subst h; simp [qhs, hs]
    | succ k => simp only [hget] at h; simp [qhs, ih h]
theorem hget_set {σ : QHeap} {k j : Nat} {c d : QCell} (h : hget σ k = some c) : hget (σ.set k d) j = if j = k then some d else hget σ j := by
  rw [hget_eq] at h
  have hk := (List.getElem?_eq_some_iff.mp h).1
  simp only [hget_eq, List.getElem?_set]
  by_cases e : k = j
  · subst e; simp [hk]
  · simp [e, Ne.symm e]
theorem lkill_len (L : QLoc) (k : Nat) : (lkill L k).length = L.length := by
  cases k with
  | zero => rfl
  | succ k => simp only [lkill]; split <;> simp
theorem lget_kill {L : QLoc} {k j : Nat} {v : Value} (h : lget (lkill L k) j = some v) : lget L j = some v ∧ (k = j + 1 → v.category ≠ 2) := by
  cases k with
  | zero => exact ⟨h, fun e => by omega⟩
  | succ k =>
    simp only [lkill] at h
    split at h
    · rename_i x q
      rw [lget_set (lget_lt q)] at h
      split at h
      · cases h
      · rename_i ne; exact ⟨h, fun e => absurd (by omega) ne⟩
    · rename_i x q
      rw [lget_set (lget_lt q)] at h
      split at h
      · cases h
      · rename_i ne; exact ⟨h, fun e => absurd (by omega) ne⟩
    · rename_i q1 q2
      refine ⟨h, fun e hc => ?_⟩
      obtain rfl : j = k := by omega
      cases v with
      | long x => exact q1 _ h
      | double x => exact q2 _ h
      | _ => simp [Value.category] at hc
theorem qv_cat (ad : Nat → Addr) (v : Value) : (qv ad v).category = v.category := by cases v <;> rfl
/-! ## storing into a local -/
def kA (C : Array Slot) (k j : Nat) : Prop := k = j + 1 ∧ C[k]? = some .second
def kB (C : Array Slot) (k j : Nat) : Prop := j = k + 1 ∧ ∃ u, C[k]? = some (.val u) ∧ u.category = 2
def kD (C : Array Slot) (k j : Nat) : Prop := j = k + 2 ∧ ∃ u, C[k + 1]? = some (.val u) ∧ u.category = 2
theorem set1_at {C D : Array Slot} {k : Nat} {w : Value} (hk : k < C.size) (hw : w.category = 1) (h : storeLocals C k w = some D) :
    D.size = C.size ∧ D[k]? = some (.val w) ∧ ∀ j, j ≠ k → (D[j]? = C[j]? ∧ ¬ kA C k j ∧ ¬ kB C k j) ∨ D[j]? = some .unset ∧ (kA C k j ∨ kB C k j) := by
  have hck : C[k]? = some C[k] := Array.getElem?_eq_getElem hk
  unfold storeLocals at h
  simp only [hck, Option.bind_eq_bind, Option.bind_some] at h
  have self : ∀ {E : Array Slot}, k < E.size → storeSelf E k w = some D → D = E.setIfInBounds k (.val w) := by
    intro E hE q
    simp only [storeSelf, setAt, hE, if_true, Option.bind_eq_bind, Option.bind_some, hw] at q
    simpa using q.symm
  split at h
  · rename_i q
    have hk1 : k - 1 < C.size := by omega
    simp only [setAt, hk1, if_true, Option.bind_some] at h
    have e := self (by simpa using hk) h
    subst e
    refine ⟨by simp, by simp [hk], fun j hj => ?_⟩
    by_cases ej : k = j + 1
    · refine Or.inr ⟨?_, Or.inl ⟨ej, by rw [hck, q]⟩⟩
      rw [Array.getElem?_setIfInBounds_ne (Ne.symm hj), show j = k - 1 by omega]
      simp [hk1]
    · refine Or.inl ⟨?_, fun x => ej x.1, fun x => ?_⟩
      · rw [Array.getElem?_setIfInBounds_ne (Ne.symm hj), Array.getElem?_setIfInBounds_ne (by omega)]
      · obtain ⟨-, u, x1, -⟩ := x
        rw [hck, q] at x1; cases x1
  · rename_i u q
    split at h
    · rename_i hu
      by_cases hk1 : k + 1 < C.size
      · simp only [setAt, hk1, if_true, Option.bind_some] at h
        have e := self (by simpa using hk) h
        subst e
        refine ⟨by simp, by simp [hk], fun j hj => ?_⟩
        by_cases ej : j = k + 1
        · refine Or.inr ⟨?_, Or.inr ⟨ej, u, by rw [hck, q], hu⟩⟩
          rw [Array.getElem?_setIfInBounds_ne (Ne.symm hj), ej]
          simp [hk1]
        · refine Or.inl ⟨?_, fun x => ?_, fun x => ej x.1⟩
          · rw [Array.getElem?_setIfInBounds_ne (Ne.symm hj), Array.getElem?_setIfInBounds_ne (by omega)]
          · obtain ⟨-, x1⟩ := x
            rw [hck, q] at x1; cases x1
      · simp [setAt, hk1] at h
    · rename_i hu
      have e := self hk h
      subst e
      refine ⟨by simp, by simp [hk], fun j hj => Or.inl ⟨Array.getElem?_setIfInBounds_ne (Ne.symm hj), fun x => ?_, fun x => ?_⟩⟩
      · obtain ⟨-, x1⟩ := x
        rw [hck, q] at x1; cases x1
      · obtain ⟨-, u', x1, x2⟩ := x
        rw [hck, q] at x1; cases x1; exact hu x2
  · rename_i q
    have e := self hk h
    subst e
    refine ⟨by simp, by simp [hk], fun j hj => Or.inl ⟨Array.getElem?_setIfInBounds_ne (Ne.symm hj), fun x => ?_, fun x => ?_⟩⟩
    · obtain ⟨-, x1⟩ := x
      rw [hck, q] at x1; cases x1
    · obtain ⟨-, u', x1, x2⟩ := x
      rw [hck, q] at x1; cases x1
theorem set2_at {C D : Array Slot} {k : Nat} {w : Value} (hk : k + 1 < C.size) (hw : w.category = 2) (wf : ∀ k w, C[k]? = some (.val w) → w.category = 2 → C[k + 1]? = some .second) (h : storeLocals C k w = some D) :
    D.size = C.size ∧ D[k]? = some (.val w) ∧ D[k + 1]? = some .second ∧ ∀ j, j ≠ k → j ≠ k + 1 → (D[j]? = C[j]? ∧ ¬ kA C k j ∧ ¬ kD C k j) ∨ D[j]? = some .unset ∧ (kA C k j ∨ kD C k j) := by
  have hk0 : k < C.size := by omega
  have hck : C[k]? = some C[k] := Array.getElem?_eq_getElem hk0
  unfold storeLocals at h
  simp only [hck, Option.bind_eq_bind, Option.bind_some] at h
  have self : ∀ {E : Array Slot}, E.size = C.size → storeSelf E k w = some D → D.size = C.size ∧ D[k]? = some (.val w) ∧ D[k + 1]? = some .second ∧ ∀ j, j ≠ k → j ≠ k + 1 → (D[j]? = E[j]? ∧ ¬ kD E k j) ∨ D[j]? = some .unset ∧ kD E k j := by
    intro E hs q
    have h1 : k < E.size := by omega
    have h2 : k + 1 < E.size := by omega
    have h3 : (E.setIfInBounds k (.val w))[k + 1]? = some E[k + 1] := by rw [Array.getElem?_setIfInBounds_ne (by omega)]; exact Array.getElem?_eq_getElem h2
    simp only [storeSelf, setAt, h1, if_true, Option.bind_eq_bind, Option.bind_some, hw, h3] at q
    have plain : (¬ ∃ u, E[k + 1]? = some (.val u) ∧ u.category = 2) → some ((E.setIfInBounds k (.val w)).setIfInBounds (k + 1) .second) = some D → D.size = C.size ∧ D[k]? = some (.val w) ∧ D[k + 1]? = some .second ∧ ∀ j, j ≠ k → j ≠ k + 1 → (D[j]? = E[j]? ∧ ¬ kD E k j) ∨ D[j]? = some .unset ∧ kD E k j := by
      intro no q
      cases q
      refine ⟨by simp [hs], ?_, ?_, fun j hj hj1 => Or.inl ⟨?_, fun x => no x.2⟩⟩
      · rw [Array.getElem?_setIfInBounds_ne (by omega)]; simp [h1]
      · simp [h2]
      · rw [Array.getElem?_setIfInBounds_ne (by omega), Array.getElem?_setIfInBounds_ne (by omega)]
    split at q
    · rename_i u hu
      split at q
      · rename_i hu2
        by_cases h5 : k + 2 < E.size
        · simp [h5, h2] at q
          cases q
          refine ⟨by simp [hs], ?_, ?_, fun j hj hj1 => ?_⟩
          · rw [Array.getElem?_setIfInBounds_ne (by omega), Array.getElem?_setIfInBounds_ne (by omega)]; simp [h1]
          · simp [h2]
          · by_cases e : j = k + 2
            · refine Or.inr ⟨?_, e, u, by rw [Array.getElem?_eq_getElem h2, hu], hu2⟩
              rw [Array.getElem?_setIfInBounds_ne (by omega), e]
              simp [h5]
            · refine Or.inl ⟨?_, fun x => e x.1⟩
              rw [Array.getElem?_setIfInBounds_ne (by omega), Array.getElem?_setIfInBounds_ne (by omega), Array.getElem?_setIfInBounds_ne (by omega)]
        · simp [h5] at q
      · rename_i hu2
        refine plain ?_ (by simpa [h2] using q)
        rintro ⟨u', x1, x2⟩
        rw [Array.getElem?_eq_getElem h2, hu] at x1; cases x1; exact hu2 x2
    · rename_i hu
      refine plain ?_ (by simpa [h2] using q)
      rintro ⟨u', x1, x2⟩
      rw [Array.getElem?_eq_getElem h2] at x1; exact hu _ (Option.some.inj x1)
  split at h
  · rename_i q
    have hk1 : k - 1 < C.size := by omega
    simp only [setAt, hk1, if_true, Option.bind_some] at h
    obtain ⟨e1, e2, e3, e4⟩ := self (by simp) h
    refine ⟨e1, e2, e3, fun j hj hj1 => ?_⟩
    have h6 : ∀ i, i + 1 ≠ k ∨ k = 0 → i ≠ k ∨ k ≠ 0 → (C.setIfInBounds (k - 1) Slot.unset)[i]? = C[i]? := fun i hi hi2 => Array.getElem?_setIfInBounds_ne (by omega)
    have h7 : (C.setIfInBounds (k - 1) Slot.unset)[k + 1]? = C[k + 1]? := Array.getElem?_setIfInBounds_ne (by omega)
    rcases e4 j hj hj1 with ⟨r, r'⟩ | ⟨r, r1, u, r2, r3⟩
    · by_cases ej : k = j + 1
      · refine Or.inr ⟨?_, Or.inl ⟨ej, by rw [hck, q]⟩⟩
        rw [r, show j = k - 1 by omega]; simp [hk1]
      · refine Or.inl ⟨by rw [r]; exact h6 _ (by omega) (by omega), fun x => ej x.1, fun x => r' ⟨x.1, ?_⟩⟩
        rw [h7]; exact x.2
    · exact Or.inr ⟨r, Or.inr ⟨r1, u, by rw [← h7]; exact r2, r3⟩⟩
  · rename_i u q
    split at h
    · rename_i hu
      simp only [setAt, hk, if_true, Option.bind_some] at h
      obtain ⟨e1, e2, e3, e4⟩ := self (by simp) h
      have hsec := wf k u (by rw [hck, q]) hu
      refine ⟨e1, e2, e3, fun j hj hj1 => ?_⟩
      rcases e4 j hj hj1 with ⟨r, r'⟩ | ⟨r, r1, u', r2, r3⟩
      · refine Or.inl ⟨by rw [r]; exact Array.getElem?_setIfInBounds_ne (by omega), fun x => ?_, fun x => ?_⟩
        · obtain ⟨-, x1⟩ := x
          rw [hck, q] at x1; cases x1
        · obtain ⟨-, u', x1, x2⟩ := x
          rw [hsec] at x1; cases x1
      · simp [hk] at r2
    · rename_i hu
      obtain ⟨e1, e2, e3, e4⟩ := self rfl h
      refine ⟨e1, e2, e3, fun j hj hj1 => ?_⟩
      rcases e4 j hj hj1 with ⟨r, r'⟩ | ⟨r, r'⟩
      · refine Or.inl ⟨r, fun x => ?_, r'⟩
        obtain ⟨-, x1⟩ := x
        rw [hck, q] at x1; cases x1
      · exact Or.inr ⟨r, Or.inr r'⟩
  · rename_i q
    obtain ⟨e1, e2, e3, e4⟩ := self rfl h
    refine ⟨e1, e2, e3, fun j hj hj1 => ?_⟩
    rcases e4 j hj hj1 with ⟨r, r'⟩ | ⟨r, r'⟩
    · refine Or.inl ⟨r, fun x => ?_, r'⟩
      obtain ⟨-, x1⟩ := x
      rw [hck, q] at x1; cases x1
    · exact Or.inr ⟨r, Or.inr r'⟩
/-- a store succeeds: in a well kept array of locals -/
theorem store_some {C : Array Slot} {k : Nat} {w : Value} (hk : k + (w.category - 1) < C.size) (hc : w.category = 1 ∨ w.category = 2) (wf : ∀ k w, C[k]? = some (.val w) → w.category = 2 → C[k + 1]? = some .second) :
    ∃ D, storeLocals C k w = some D := by
  have hk0 : k < C.size := by omega
  have hck : C[k]? = some C[k] := Array.getElem?_eq_getElem hk0
  have self : ∀ {E : Array Slot}, E.size = C.size → (∀ u, E[k + 1]? = some (.val u) → u.category = 2 → k + 2 < E.size) → ∃ D, storeSelf E k w = some D := by
    intro E hs hn
    have h1 : k < E.size := by omega
    simp only [storeSelf, setAt, h1, if_true, Option.bind_eq_bind, Option.bind_some]
    rcases hc with hc | hc
    · exact ⟨E.setIfInBounds k (.val w), by simp [hc]⟩
    · have h2 : k + 1 < E.size := by omega
      have h3 : (E.setIfInBounds k (.val w))[k + 1]? = some E[k + 1] := by rw [Array.getElem?_setIfInBounds_ne (by omega)]; exact Array.getElem?_eq_getElem h2
      simp only [hc, if_true, h3, Option.bind_some]
      split
      · rename_i u hu
        split
        · rename_i hu2
          have h5 := hn u (by rw [Array.getElem?_eq_getElem h2, hu]) hu2
          exact ⟨_, by simp [h5, h2]; rfl⟩
        · exact ⟨_, by simp [h2]; rfl⟩
      · exact ⟨_, by simp [h2]; rfl⟩
  have next : ∀ u, C[k + 1]? = some (.val u) → u.category = 2 → k + 2 < C.size := fun u h1 h2 => (Array.getElem?_eq_some_iff.mp (wf _ _ h1 h2)).1
  unfold storeLocals
  simp only [hck, Option.bind_eq_bind, Option.bind_some]
  split
  · have hk1 : k - 1 < C.size := by omega
    simp only [setAt, hk1, if_true, Option.bind_some]
    refine self (by simp) fun u h1 h2 => ?_
    rw [Array.getElem?_setIfInBounds_ne (by omega)] at h1
    simpa using next u h1 h2
  · rename_i u q
    split
    · rename_i hu
      have h5 := (Array.getElem?_eq_some_iff.mp (wf k u (by rw [hck, q]) hu)).1
      simp only [setAt, h5, if_true, Option.bind_some]
      refine self (by simp) fun u h1 h2 => ?_
      simp [h5] at h1
    · exact self rfl next
  · exact self rfl next
theorem store_ok1 {ad : Nat → Addr} {L : QLoc} {C : Array Slot} {k : Nat} {v : Value} (H : QLocOk ad L C) (hv : v.category = 1) (hk : k < L.length) :
    ∃ D, storeLocals C k (qv ad v) = some D ∧ QLocOk ad ((lkill L k).set k (some v)) D ∧ D.size = C.size := by
  obtain ⟨H1, H2, H3, H4⟩ := H
  have hc : (qv ad v).category = 1 := by rw [qv_cat, hv]
  obtain ⟨D, hD⟩ := store_some (C := C) (k := k) (w := qv ad v) (by rw [hc]; omega) (Or.inl hc) H3
  obtain ⟨d1, d2, d3⟩ := set1_at (by omega) hc hD
  refine ⟨D, hD, ⟨by simp [lkill_len, H1, d1], fun j u hj => ?_, fun j w hj hw => ?_, fun j hj => ?_⟩, d1⟩
  · rw [lget_set (by rw [lkill_len]; exact hk)] at hj
    split at hj
    · rename_i e; cases hj; rw [e]; exact d2
    · rename_i ne
      obtain ⟨g1, g2⟩ := lget_kill hj
      have g3 := H2 j u g1
      rcases d3 j ne with ⟨r, -, -⟩ | ⟨-, ⟨r1, r2⟩ | ⟨r1, w, r2, r3⟩⟩
      · rw [r]; exact g3
      · obtain ⟨i, w, z1, z2, z3⟩ := H4 k r2
        obtain rfl : i = j := by omega
        rw [g3] at z2
        cases z2
        rw [qv_cat] at z3
        exact absurd z3 (g2 r1)
      · have := H3 k w r2 r3
        rw [← r1, g3] at this
        cases this
  · by_cases e : j = k
    · subst e; rw [d2] at hj; cases hj; rw [hc] at hw; cases hw
    · rcases d3 j e with ⟨r, nA, nB⟩ | ⟨r, -⟩
      · rw [r] at hj
        have g := H3 j w hj hw
        have e2 : j + 1 ≠ k := fun q => nA ⟨q.symm, by rw [← q]; exact g⟩
        rcases d3 (j + 1) e2 with ⟨z, -, -⟩ | ⟨-, ⟨z1, z2⟩ | ⟨z1, -⟩⟩
        · rw [z]; exact g
        · obtain ⟨i, u, y1, y2, y3⟩ := H4 k z2
          obtain rfl : i = j + 1 := by omega
          rw [g] at y2; cases y2
        · omega
      · rw [r] at hj; cases hj
  · by_cases e : j = k
    · subst e; rw [d2] at hj; cases hj
    · rcases d3 j e with ⟨r, nA, nB⟩ | ⟨r, -⟩
      · rw [r] at hj
        obtain ⟨i, w, y1, y2, y3⟩ := H4 j hj
        refine ⟨i, w, y1, ?_, y3⟩
        have ei : i ≠ k := fun q => nB ⟨by omega, w, by rw [← q]; exact y2, y3⟩
        rcases d3 i ei with ⟨z, -, -⟩ | ⟨-, ⟨z1, z2⟩ | ⟨z1, u, z2, z3⟩⟩
        · rw [z]; exact y2
        · omega
        · have := H3 k u z2 z3
          rw [← z1, y2] at this; cases this
      · rw [r] at hj; cases hj
theorem store_ok2 {ad : Nat → Addr} {L : QLoc} {C : Array Slot} {k : Nat} {x : Int64} (H : QLocOk ad L C) (hk : k + 1 < L.length) :
    ∃ D, storeLocals C k (.long x) = some D ∧ QLocOk ad (((lkill L k).set k (some (.long x))).set (k + 1) none) D ∧ D.size = C.size := by
  obtain ⟨H1, H2, H3, H4⟩ := H
  have hc : (Value.long x).category = 2 := rfl
  obtain ⟨D, hD⟩ := store_some (C := C) (k := k) (w := .long x) (by rw [hc]; omega) (Or.inr hc) H3
  obtain ⟨d1, d2, d2', d3⟩ := set2_at (by omega) hc H3 hD
  refine ⟨D, hD, ⟨by simp [lkill_len, H1, d1], fun j u hj => ?_, fun j w hj hw => ?_, fun j hj => ?_⟩, d1⟩
  · rw [lget_set (by simp [lkill_len]; exact hk)] at hj
    split at hj
    · cases hj
    · rename_i ne1
      rw [lget_set (by rw [lkill_len]; omega)] at hj
      split at hj
      · rename_i e; cases hj; rw [e]; exact d2
      · rename_i ne
        obtain ⟨g1, g2⟩ := lget_kill hj
        have g3 := H2 j u g1
        rcases d3 j ne ne1 with ⟨r, -, -⟩ | ⟨-, ⟨r1, r2⟩ | ⟨r1, w, r2, r3⟩⟩
        · rw [r]; exact g3
        · obtain ⟨i, w, z1, z2, z3⟩ := H4 k r2
          obtain rfl : i = j := by omega
          rw [g3] at z2
          cases z2
          rw [qv_cat] at z3
          exact absurd z3 (g2 r1)
        · have := H3 (k + 1) w r2 r3
          rw [show k + 1 + 1 = j by omega, g3] at this
          cases this
  · by_cases e : j = k
    · rw [e]; exact d2'
    · by_cases e1 : j = k + 1
      · rw [e1, d2'] at hj; cases hj
      · rcases d3 j e e1 with ⟨r, nA, nB⟩ | ⟨r, -⟩
        · rw [r] at hj
          have g := H3 j w hj hw
          have e2 : j + 1 ≠ k := fun q => nA ⟨q.symm, by rw [← q]; exact g⟩
          rcases d3 (j + 1) e2 (by omega) with ⟨z, -, -⟩ | ⟨-, ⟨z1, z2⟩ | ⟨z1, -⟩⟩
          · rw [z]; exact g
          · obtain ⟨i, u, y1, y2, y3⟩ := H4 k z2
            obtain rfl : i = j + 1 := by omega
            rw [g] at y2; cases y2
          · omega
        · rw [r] at hj; cases hj
  · by_cases e : j = k
    · rw [e, d2] at hj; cases hj
    · by_cases e1 : j = k + 1
      · exact ⟨k, _, e1, d2, hc⟩
      · rcases d3 j e e1 with ⟨r, nA, nB⟩ | ⟨r, -⟩
        · rw [r] at hj
          obtain ⟨i, w, y1, y2, y3⟩ := H4 j hj
          refine ⟨i, w, y1, ?_, y3⟩
          have ei : i ≠ k := fun q => e1 (by omega)
          have ei1 : i ≠ k + 1 := fun q => nB ⟨by omega, w, by rw [← q]; exact y2, y3⟩
          rcases d3 i ei ei1 with ⟨z, -, -⟩ | ⟨-, ⟨z1, z2⟩ | ⟨z1, u, z2, z3⟩⟩
          · rw [z]; exact y2
          · omega
          · have := H3 (k + 1) u z2 z3
            rw [show k + 1 + 1 = i by omega, y2] at this; cases this
        · rw [r] at hj; cases hj
theorem store_ok {ad : Nat → Addr} {L L' : QLoc} {C : Array Slot} {k : Nat} {v : Value} (H : QLocOk ad L C) (h : lput L k v = some L') :
    ∃ D, storeLocals C k (qv ad v) = some D ∧ QLocOk ad L' D ∧ D.size = C.size := by
  have one : v.category = 1 → (bif Nat.ble (k + 1) L.length then some ((lkill L k).set k (some v)) else none) = some L' → ∃ D, storeLocals C k (qv ad v) = some D ∧ QLocOk ad L' D ∧ D.size = C.size := by
    intro hv h
    cases hb : Nat.ble (k + 1) L.length with
    | false => rw [hb] at h; cases h
    | true => rw [hb] at h; cases h; exact store_ok1 H hv (Nat.le_of_ble_eq_true hb)
  cases v with
  | long x =>
    simp only [lput] at h
    cases hb : Nat.ble (k + 2) L.length with
    | false => rw [hb] at h; cases h
    | true => rw [hb] at h; cases h; exact store_ok2 H (Nat.le_of_ble_eq_true hb)
  | double x => simp [lput] at h
  | int x => exact one rfl h
  | float x => exact one rfl h
  | null => exact one rfl h
  | ref x => exact one rfl h
  | retAddr x => exact one rfl h
/-! ## facts of the tables, by evaluation -/
theorem fInj : ∀ i, i < nF → ∀ j, j < nF → fNm i = fNm j → i = j := by decide +kernel
theorem fPrs : ∀ i, i < nF → parseFieldDescriptor (fDs i) = some (fTy i) := by decide +kernel
theorem cDefs : ∀ i, i < nF → vget cDef i = some (defaultValue (fTy i)) := by decide +kernel
theorem cDefL : cDef.length = nF := by decide +kernel
theorem fDef : ∀ i, i < nF → ∀ a, defaultValue (fTy i) ≠ .ref a := by
  intro i _ a
  cases fTy i <;> simp [defaultValue]
theorem kPlain : ∀ k, k < 2 → plainName (kName k) = true := by
  intro k hk
  rcases k with _ | _ | k
  · first | decide +kernel | (simp [kName, plainName, overriddenIn]; done)
  · first | decide +kernel | (simp [kName, plainName, overriddenIn]; done)
  · omega
theorem pKlt : ∀ m, m < pN → pK m < 2 := by decide +kernel
theorem pSig : ∀ m, m < pN → (parseMethodDescriptor (pDs m)).map (fun sg => sg.parameters.length) = some (pNA m) := by decide +kernel
theorem pOwn : ∀ k, k < 2 → kName k ≠ "java/lang/invoke/MethodHandle" ∧ kName k ≠ "java/lang/invoke/VarHandle" := by decide +kernel
theorem mAlt : ∀ m ∈ mA, m < pN := by decide +kernel
theorem mVlt : ∀ m ∈ mV, m ∈ mA ∧ pK m = 1 := by decide +kernel
theorem mPlt : ∀ m ∈ mP, m ∈ mA ∧ pK m = 1 := by decide +kernel
theorem mSlt : ∀ m ∈ mS, m ∈ mA := by decide +kernel
theorem mIlt : ∀ m ∈ mI, m ∈ mA ∧ pK m = 1 ∧ pNm m = "<init>" ∧ pRet m = none := by decide +kernel
theorem kOne : kName 1 = cName := rfl
set_option maxRecDepth 100000 in
theorem pChk0 : ∀ m, m < pN → ∀ pc, pc < pTop → (match pCode m pc with | some t => qchk m pc t.1 t.2 | none => true) = true := by decide +kernel
theorem pIn {m pc : Nat} {t : Instr × Nat} (h : pCode m pc = some t) : m < pN ∧ pc < pTop := by
  unfold pCode at h
  cases h1 : Nat.ble pN m with
  | true => rw [h1] at h; cases h
  | false =>
    cases h2 : Nat.ble pTop pc with
    | true => rw [h1, h2] at h; cases h
    | false => exact ⟨Nat.lt_of_not_le (fun q => by rw [Nat.ble_eq_true_of_le q] at h1; cases h1), Nat.lt_of_not_le (fun q => by rw [Nat.ble_eq_true_of_le q] at h2; cases h2)⟩
theorem pChk {m pc : Nat} {i : Instr} {aux : Nat} (h : pCode m pc = some (i, aux)) : qchk m pc i aux = true := by
  have q := pChk0 m (pIn h).1 pc (pIn h).2
  rw [h] at q
  exact q
theorem pDec {m pc : Nat} {i : Instr} {aux : Nat} (h : pCode m pc = some (i, aux)) : decode (pBytes m) pc = .ok (i, ilen i) := by
  have q := pChk h
  unfold qchk at q
  exact of_decide_eq_true (Bool.and_eq_true_iff.mp q).1
theorem pDecN {m pc n : Nat} {i : Instr} {aux : Nat} (h : pCode m pc = some (i, aux)) (hn : ilen i = n) : decode (pBytes m) pc = .ok (i, n) := by
  rw [← hn]; exact pDec h
theorem pRest {m pc : Nat} {i : Instr} {aux : Nat} (h : pCode m pc = some (i, aux)) : qlk m pc i aux = true := by
  have q := pChk h
  unfold qchk at q
  exact (Bool.and_eq_true_iff.mp q).2
theorem qtgt_spec {pc : Nat} {o : Int} {aux : Nat} (h : qtgt pc o aux = true) : 0 ≤ (pc : Int) + o ∧ ((pc : Int) + o).toNat = aux := by
  unfold qtgt at h
  have h2 := Bool.and_eq_true_iff.mp h
  exact ⟨of_decide_eq_true h2.1, of_decide_eq_true h2.2⟩
/-! ## triples -/
def QCx (Z : State) (p : Program) (R : Room) (s : State) (mid : MethodId) (meth : Method) (c : Code) (m : Nat) : Prop :=
  p.tables.exec = Jvm.exec ∧ Z.Warmed39 s.vm ∧ c.code = pBytes m ∧ c.maxLocals = pMaxL m ∧ meth.sig.returnType = pRet m ∧ s.vm.findClass (kName (pK m)) = some mid.cls ∧ meth.name = pNm m ∧ pFr m ≤ R.frames ∧ pLo m ≤ R.locals
def QTri (l : Launch) (Z : State) (n0 : Nat) (ad : Nat → Addr) (m : Nat) (st : QSt) (v : Option Value) (σ' : QHeap) : Prop :=
  st.2.2.2.length ≤ σ'.length ∧ qhs st.2.2.2 ≤ qhs σ' ∧
  ∀ (p : Program) (e : Env) (R : Room) (s : State) (mid : MethodId) (args : Array Value) (below : List Frame) (meth : Method) (c : Code) (T : State) (locs : List Loc) (cells slots : Nat) (C : Array Slot),
    QCx Z p R s mid meth c m → Stand p l e R s mid args below meth c T locs cells slots → QRep Z n0 ad T.heap st.2.2.2 → Fr n0 locs → QLocOk ad st.2.1 C → C.size = c.maxLocals →
    n0 + (st.2.2.2.length - k0) = s.heap.size + cells → cells + (σ'.length - st.2.2.2.length) ≤ R.cells → slots + (qhs σ' - qhs st.2.2.2) ≤ R.slots →
    ∃ T' locs', Stand p l e R s mid args below meth c T' locs' (cells + (σ'.length - st.2.2.2.length)) (slots + (qhs σ' - qhs st.2.2.2)) ∧ QRep Z n0 ad T'.heap σ' ∧ Fr n0 locs' ∧
      ∀ fs, (∀ (f : JFrame) (acts : List Action), f.method = mid → f.locked = none → f.entered = [] → (doReturn e (T'.setTop f) acts (v.map (qv ad))).1 = T'.setFrames fs) →
        Steps p.tables e below (T.setTop (mkF mid st.1 C (st.2.2.1.map (qv ad)))) (T'.setFrames fs)
section Triples
variable {l : Launch} {Z : State} {n0 : Nat} {ad : Nat → Addr} {a0 : Array Value} {m : Nat} {v : Option Value} {σ' : QHeap}
theorem QTri.gen {st st' : QSt} (h : QTri l Z n0 ad m st' v σ') (g1 : st.2.2.2.length ≤ st'.2.2.2.length) (g2 : qhs st.2.2.2 ≤ qhs st'.2.2.2)
    (hs : ∀ (p : Program) (e : Env) (R : Room) (s : State) (mid : MethodId) (args : Array Value) (below : List Frame) (meth : Method) (c : Code) (T : State) (locs : List Loc) (cells slots : Nat) (C : Array Slot),
      QCx Z p R s mid meth c m → Stand p l e R s mid args below meth c T locs cells slots → QRep Z n0 ad T.heap st.2.2.2 → Fr n0 locs → QLocOk ad st.2.1 C → C.size = c.maxLocals →
      n0 + (st.2.2.2.length - k0) = s.heap.size + cells → cells + (st'.2.2.2.length - st.2.2.2.length) ≤ R.cells → slots + (qhs st'.2.2.2 - qhs st.2.2.2) ≤ R.slots →
      ∃ T₁ locs₁ C₁, Stand p l e R s mid args below meth c T₁ locs₁ (cells + (st'.2.2.2.length - st.2.2.2.length)) (slots + (qhs st'.2.2.2 - qhs st.2.2.2)) ∧ QRep Z n0 ad T₁.heap st'.2.2.2 ∧ Fr n0 locs₁ ∧ QLocOk ad st'.2.1 C₁ ∧ C₁.size = c.maxLocals ∧
        ∀ target, Steps p.tables e below (T₁.setTop (mkF mid st'.1 C₁ (st'.2.2.1.map (qv ad)))) target → Steps p.tables e below (T.setTop (mkF mid st.1 C (st.2.2.1.map (qv ad)))) target) :
    QTri l Z n0 ad m st v σ' := by
  obtain ⟨h1, h2, h3⟩ := h
  refine ⟨Nat.le_trans g1 h1, Nat.le_trans g2 h2, fun p e R s mid args below meth c T locs cells slots C hcx X hR hF hL hC hn hc hsl => ?_⟩
  obtain ⟨T₁, locs₁, C₁, X₁, R₁, F₁, L₁, C1, S₁⟩ := hs p e R s mid args below meth c T locs cells slots C hcx X hR hF hL hC hn (by omega) (by omega)
  have hk := hR.1
  obtain ⟨T', locs', X', R', F', S'⟩ := h3 p e R s mid args below meth c T₁ locs₁ _ _ C₁ hcx X₁ R₁ F₁ L₁ C1 (by omega) (by omega) (by omega)
  have e1 : cells + (st'.2.2.2.length - st.2.2.2.length) + (σ'.length - st'.2.2.2.length) = cells + (σ'.length - st.2.2.2.length) := by omega
  have e2 : slots + (qhs st'.2.2.2 - qhs st.2.2.2) + (qhs σ' - qhs st'.2.2.2) = slots + (qhs σ' - qhs st.2.2.2) := by omega
  rw [e1, e2] at X'
  exact ⟨T', locs', X', R', F', fun fs hf => S₁ _ (S' fs hf)⟩
theorem QTri.pure {st st' : QSt} (h : QTri l Z n0 ad m st' v σ') (hσ : st'.2.2.2 = st.2.2.2)
    (hs : ∀ (p : Program) (e : Env) (R : Room) (s : State) (mid : MethodId) (args : Array Value) (below : List Frame) (meth : Method) (c : Code) (T : State) (locs : List Loc) (cells slots : Nat) (C : Array Slot),
      QCx Z p R s mid meth c m → Stand p l e R s mid args below meth c T locs cells slots → QRep Z n0 ad T.heap st.2.2.2 → QLocOk ad st.2.1 C → C.size = c.maxLocals →
      ∃ T₁ C₁, Stand p l e R s mid args below meth c T₁ locs cells slots ∧ T₁.heap = T.heap ∧ QLocOk ad st'.2.1 C₁ ∧ C₁.size = c.maxLocals ∧
        ∀ target, Steps p.tables e below (T₁.setTop (mkF mid st'.1 C₁ (st'.2.2.1.map (qv ad)))) target → Steps p.tables e below (T.setTop (mkF mid st.1 C (st.2.2.1.map (qv ad)))) target) :
    QTri l Z n0 ad m st v σ' := by
  refine QTri.gen h (by rw [hσ]; exact Nat.le_refl _) (by rw [hσ]; exact Nat.le_refl _) fun p e R s mid args below meth c T locs cells slots C hcx X hR hF hL hC hn hc hsl => ?_
  obtain ⟨T₁, C₁, X₁, hh, L₁, C1, S₁⟩ := hs p e R s mid args below meth c T locs cells slots C hcx X hR hL hC
  refine ⟨T₁, locs, C₁, ?_, by rw [hσ, hh]; exact hR, hF, L₁, C1, S₁⟩
  rw [hσ, Nat.sub_self, Nat.sub_self]
  exact X₁
/-- a step of the frame alone -/
theorem QTri.frame {pc pc' : Nat} {L L' : QLoc} {S S' : List Value} {σ : QHeap} (h : QTri l Z n0 ad m (pc', L', S', σ) v σ')
    (hs : ∀ (p : Program) (e : Env) (R : Room) (s : State) (mid : MethodId) (args : Array Value) (below : List Frame) (meth : Method) (c : Code) (T : State) (locs : List Loc) (cells slots : Nat) (C : Array Slot),
      QCx Z p R s mid meth c m → Stand p l e R s mid args below meth c T locs cells slots → QRep Z n0 ad T.heap σ → QLocOk ad L C → C.size = c.maxLocals →
      ∃ C₁, QLocOk ad L' C₁ ∧ C₁.size = c.maxLocals ∧ ∀ target, Steps p.tables e below (T.setTop (mkF mid pc' C₁ (S'.map (qv ad)))) target → Steps p.tables e below (T.setTop (mkF mid pc C (S.map (qv ad)))) target) :
    QTri l Z n0 ad m (pc, L, S, σ) v σ' :=
  QTri.pure h rfl fun p e R s mid args below meth c T locs cells slots C hcx X hR hL hC => by
    obtain ⟨C₁, h1, h2, h3⟩ := hs p e R s mid args below meth c T locs cells slots C hcx X hR hL hC
    exact ⟨T, C₁, X, rfl, h1, h2, h3⟩
/-- a step of pc and stack alone -/
theorem QTri.stack {pc pc' : Nat} {L : QLoc} {S S' : List Value} {σ : QHeap} (h : QTri l Z n0 ad m (pc', L, S', σ) v σ')
    (hs : ∀ (p : Program) (e : Env) (R : Room) (s : State) (mid : MethodId) (args : Array Value) (below : List Frame) (meth : Method) (c : Code) (T : State) (locs : List Loc) (cells slots : Nat) (C : Array Slot) (target : State),
      p.tables.exec = Jvm.exec → Z.Warmed39 s.vm → c.code = pBytes m → s.vm.findClass (kName (pK m)) = some mid.cls → Stand p l e R s mid args below meth c T locs cells slots → QRep Z n0 ad T.heap σ → QLocOk ad L C →
      Steps p.tables e below (T.setTop (mkF mid pc' C (S'.map (qv ad)))) target → Steps p.tables e below (T.setTop (mkF mid pc C (S.map (qv ad)))) target) :
    QTri l Z n0 ad m (pc, L, S, σ) v σ' :=
  QTri.frame h fun p e R s mid args below meth c T locs cells slots C hcx X hR hL hC => ⟨C, hL, hC, fun target k => hs p e R s mid args below meth c T locs cells slots C target hcx.1 hcx.2.1 hcx.2.2.1 hcx.2.2.2.2.2.1 X hR hL k⟩
/-! ### what each helper says -/
theorem qload_inv {pc : Nat} {L : QLoc} {S : List Value} {σ : QHeap} {k : Nat} {ok : Value → Bool} {st' : QSt} (h : qload pc L S σ k ok = some st') : ∃ v, lget L k = some v ∧ ok v = true ∧ st' = (pc, L, v :: S, σ) := by
  unfold qload at h
  split at h
  · rename_i v hv
    cases ho : ok v with
    | true => rw [ho] at h; cases h; exact ⟨v, hv, ho, rfl⟩
    | false => rw [ho] at h; cases h
  · cases h
theorem qstore_inv {pc : Nat} {L : QLoc} {S : List Value} {σ : QHeap} {k : Nat} {ok : Value → Bool} {st' : QSt} (h : qstore pc L S σ k ok = some st') : ∃ v S' L', S = v :: S' ∧ ok v = true ∧ lput L k v = some L' ∧ st' = (pc, L', S', σ) := by
  unfold qstore at h
  split at h
  · rename_i v S'
    cases ho : ok v with
    | true =>
      rw [ho] at h
      simp only [cond_true] at h
      split at h
      · rename_i L' hL'
        cases h; exact ⟨v, S', L', rfl, ho, hL', rfl⟩
      · cases h
    | false => rw [ho] at h; cases h
  · cases h
theorem qbin_inv {pc : Nat} {L : QLoc} {S : List Value} {σ : QHeap} {f : Int32 → Int32 → Int32} {st' : QSt} (h : qbin pc L S σ f = some st') : ∃ x y S', S = .int y :: .int x :: S' ∧ st' = (pc, L, .int (f x y) :: S', σ) := by
  unfold qbin at h
  split at h
  · cases h; exact ⟨_, _, _, rfl, rfl⟩
  · cases h
theorem qbino_inv {pc : Nat} {L : QLoc} {S : List Value} {σ : QHeap} {f : Int32 → Int32 → Option Int32} {st' : QSt} (h : qbino pc L S σ f = some st') : ∃ x y z S', S = .int y :: .int x :: S' ∧ f x y = some z ∧ st' = (pc, L, .int z :: S', σ) := by
  unfold qbino at h
  split at h
  · obtain ⟨z, hz, h⟩ := Option.bind_eq_some_iff.mp h
    cases h; exact ⟨_, _, _, _, rfl, hz, rfl⟩
  · cases h
theorem qbinJ_inv {pc : Nat} {L : QLoc} {S : List Value} {σ : QHeap} {f : Int64 → Int64 → Int64} {st' : QSt} (h : qbinJ pc L S σ f = some st') : ∃ x y S', S = .long y :: .long x :: S' ∧ st' = (pc, L, .long (f x y) :: S', σ) := by
  unfold qbinJ at h
  split at h
  · cases h; exact ⟨_, _, _, rfl, rfl⟩
  · cases h
theorem qshJ_inv {pc : Nat} {L : QLoc} {S : List Value} {σ : QHeap} {f : Int64 → Int32 → Int64} {st' : QSt} (h : qshJ pc L S σ f = some st') : ∃ x y S', S = .int y :: .long x :: S' ∧ st' = (pc, L, .long (f x y) :: S', σ) := by
  unfold qshJ at h
  split at h
  · cases h; exact ⟨_, _, _, rfl, rfl⟩
  · cases h
theorem quni_inv {pc : Nat} {L : QLoc} {S : List Value} {σ : QHeap} {f : Int32 → Value} {st' : QSt} (h : quni pc L S σ f = some st') : ∃ x S', S = .int x :: S' ∧ st' = (pc, L, f x :: S', σ) := by
  unfold quni at h
  split at h
  · cases h; exact ⟨_, _, rfl, rfl⟩
  · cases h
theorem quniJ_inv {pc : Nat} {L : QLoc} {S : List Value} {σ : QHeap} {f : Int64 → Value} {st' : QSt} (h : quniJ pc L S σ f = some st') : ∃ x S', S = .long x :: S' ∧ st' = (pc, L, f x :: S', σ) := by
  unfold quniJ at h
  split at h
  · cases h; exact ⟨_, _, rfl, rfl⟩
  · cases h
theorem qif_inv {pc : Nat} {L : QLoc} {S : List Value} {σ : QHeap} {cd : ClassFile.Cond} {t : Nat} {st' : QSt} (h : qif pc L S σ cd t = some st') : ∃ x S', S = .int x :: S' ∧ st' = (bif ifCond.holds cd x then t else pc, L, S', σ) := by
  unfold qif at h
  split at h
  · cases h; exact ⟨_, _, rfl, rfl⟩
  · cases h
theorem qicmp_inv {pc : Nat} {L : QLoc} {S : List Value} {σ : QHeap} {cd : ClassFile.Cond} {t : Nat} {st' : QSt} (h : qicmp pc L S σ cd t = some st') : ∃ x y S', S = .int y :: .int x :: S' ∧ st' = (bif if_icmp.holds cd x y then t else pc, L, S', σ) := by
  unfold qicmp at h
  split at h
  · cases h; exact ⟨_, _, _, rfl, rfl⟩
  · cases h
theorem qget_inv {pc : Nat} {L : QLoc} {S : List Value} {σ : QHeap} {k : Nat} {st' : QSt} (h : qget pc L S σ k = some st') : ∃ a S' vs v, S = .ref a :: S' ∧ hget σ a = some (.inl vs) ∧ vget vs k = some v ∧ st' = (pc, L, v :: S', σ) := by
  unfold qget at h
  split at h
  · split at h
    · split at h
      · cases h; exact ⟨_, _, _, _, rfl, by assumption, by assumption, rfl⟩
      · cases h
    · cases h
  · cases h
theorem qput_inv {pc : Nat} {L : QLoc} {S : List Value} {σ : QHeap} {k : Nat} {st' : QSt} (h : qput pc L S σ k = some st') : ∃ v a S' vs w, S = v :: .ref a :: S' ∧ hget σ a = some (.inl vs) ∧ k0 ≤ a ∧ k < vs.length ∧ qfit (fTy k) v = some w ∧ st' = (pc, L, S', σ.set a (.inl (vs.set k w))) := by
  unfold qput at h
  split at h
  · rename_i v a S'
    split at h
    · rename_i vs hvs
      cases hbb : (Nat.ble k0 a && Nat.ble (k + 1) vs.length) with
      | false => rw [hbb] at h; cases h
      | true =>
        rw [hbb] at h
        simp only [cond_true] at h
        obtain ⟨u, hu, h⟩ := Option.bind_eq_some_iff.mp h
        cases h
        obtain ⟨b1, b2⟩ := Bool.and_eq_true_iff.mp hbb
        exact ⟨v, a, S', vs, u, rfl, hvs, Nat.le_of_ble_eq_true b1, Nat.le_of_ble_eq_true b2, hu, rfl⟩
    · cases h
  · cases h
theorem qald_inv {pc : Nat} {L : QLoc} {S : List Value} {σ : QHeap} {ok : FieldType → Bool} {st' : QSt} (h : qald pc L S σ ok = some st') : ∃ j a S' ty xs v, S = .int j :: .ref a :: S' ∧ hget σ a = some (.inr (.inl (ty, xs))) ∧ ok ty = true ∧ aget xs j = some v ∧ st' = (pc, L, .int v :: S', σ) := by
  unfold qald at h
  split at h
  · rename_i j a S'
    split at h
    · rename_i x hx
      cases ht : ok x.1 with
      | false => rw [ht] at h; cases h
      | true =>
        rw [ht] at h
        simp only [cond_true] at h
        obtain ⟨u, hu, h⟩ := Option.bind_eq_some_iff.mp h
        cases h
        exact ⟨j, a, S', x.1, x.2, u, rfl, hx, ht, hu, rfl⟩
    · cases h
  · cases h
theorem qaldJ_inv {pc : Nat} {L : QLoc} {S : List Value} {σ : QHeap} {st' : QSt} (h : qaldJ pc L S σ = some st') : ∃ j a S' xs v, S = .int j :: .ref a :: S' ∧ hget σ a = some (.inr (.inr xs)) ∧ aget xs j = some v ∧ st' = (pc, L, .long v :: S', σ) := by
  unfold qaldJ at h
  split at h
  · rename_i j a S'
    split at h
    · rename_i x hx
      obtain ⟨u, hu, h⟩ := Option.bind_eq_some_iff.mp h
      cases h
      exact ⟨j, a, S', x, u, rfl, hx, hu, rfl⟩
    · cases h
  · cases h
theorem qast_inv {pc : Nat} {L : QLoc} {S : List Value} {σ : QHeap} {ok : FieldType → Bool} {st' : QSt} (h : qast pc L S σ ok = some st') : ∃ v j a S' ty xs ys, S = .int v :: .int j :: .ref a :: S' ∧ hget σ a = some (.inr (.inl (ty, xs))) ∧ ok ty = true ∧ k0 ≤ a ∧ aset xs j (qnar ty v) = some ys ∧ st' = (pc, L, S', σ.set a (.inr (.inl (ty, ys)))) := by
  unfold qast at h
  split at h
  · rename_i v j a S'
    split at h
    · rename_i x hx
      cases ht : (ok x.1 && Nat.ble k0 a) with
      | false => rw [ht] at h; cases h
      | true =>
        rw [ht] at h
        simp only [cond_true] at h
        obtain ⟨u, hu, h⟩ := Option.bind_eq_some_iff.mp h
        cases h
        obtain ⟨b1, b2⟩ := Bool.and_eq_true_iff.mp ht
        exact ⟨v, j, a, S', x.1, x.2, u, rfl, hx, b1, Nat.le_of_ble_eq_true b2, hu, rfl⟩
    · cases h
  · cases h
theorem qastJ_inv {pc : Nat} {L : QLoc} {S : List Value} {σ : QHeap} {st' : QSt} (h : qastJ pc L S σ = some st') : ∃ v j a S' xs ys, S = .long v :: .int j :: .ref a :: S' ∧ hget σ a = some (.inr (.inr xs)) ∧ k0 ≤ a ∧ aset xs j v = some ys ∧ st' = (pc, L, S', σ.set a (.inr (.inr ys))) := by
  unfold qastJ at h
  split at h
  · rename_i v j a S'
    split at h
    · rename_i x hx
      cases ht : (Nat.ble k0 a) with
      | false => rw [ht] at h; cases h
      | true =>
        rw [ht] at h
        simp only [cond_true] at h
        obtain ⟨u, hu, h⟩ := Option.bind_eq_some_iff.mp h
        cases h
        exact ⟨v, j, a, S', x, u, rfl, hx, Nat.le_of_ble_eq_true ht, hu, rfl⟩
    · cases h
  · cases h
theorem qlen_inv {pc : Nat} {L : QLoc} {S : List Value} {σ : QHeap} {st' : QSt} (h : qlen pc L S σ = some st') : ∃ a S' n, S = .ref a :: S' ∧ ((∃ ty xs, hget σ a = some (.inr (.inl (ty, xs))) ∧ n = xs.length) ∨ ∃ xs, hget σ a = some (.inr (.inr xs)) ∧ n = xs.length) ∧ st' = (pc, L, .int n.toInt32 :: S', σ) := by
  unfold qlen at h
  split at h
  · rename_i a S'
    split at h
    · rename_i x hx
      cases h; exact ⟨a, S', _, rfl, Or.inl ⟨x.1, x.2, hx, rfl⟩, rfl⟩
    · rename_i x hx
      cases h; exact ⟨a, S', _, rfl, Or.inr ⟨x, hx, rfl⟩, rfl⟩
    · cases h
  · cases h
theorem isI_inv {v : Value} (h : isI v = true) : ∃ x, v = .int x := by cases v <;> simp [isI] at h; exact ⟨_, rfl⟩
theorem isJ_inv {v : Value} (h : isJ v = true) : ∃ x, v = .long x := by cases v <;> simp [isJ] at h; exact ⟨_, rfl⟩
theorem isR_inv {v : Value} (h : isR v = true) : ∃ x, v = .ref x := by cases v <;> simp [isR] at h; exact ⟨_, rfl⟩
theorem aget_inv {α : Type} {xs : List α} {j : Int32} {x : α} (h : aget xs j = some x) : ¬ j < 0 ∧ xs[j.toNatClampNeg]? = some x := by
  unfold aget at h
  split at h
  · cases h
  · rename_i q; exact ⟨q, h⟩
theorem aset_inv {α : Type} {xs ys : List α} {j : Int32} {x : α} (h : aset xs j x = some ys) : ¬ j < 0 ∧ j.toNatClampNeg < xs.length ∧ ys = xs.set j.toNatClampNeg x := by
  unfold aset at h
  split at h
  · cases h
  · rename_i q
    split at h
    · rename_i q2; cases h; exact ⟨q, q2, rfl⟩
    · cases h
theorem qnew_inv {n : Int32} {k : Nat} (h : qnew n = some k) : ¬ n < 0 ∧ n.toNatClampNeg = k ∧ k ≤ 67108864 := by
  unfold qnew at h
  split at h
  · cases h
  · rename_i q
    split at h
    · rename_i q2; cases h; exact ⟨q, rfl, q2⟩
    · cases h
/-! ### the heap's facts over a step -/
theorem QCellOk.other {h h' : Heap} {a b : Addr} {sl : Nat} {w : Value} {c : QCell} (H : QCellOk Z ad h b c) (W : Wr h h' a sl w) (ne : b ≠ a) : QCellOk Z ad h' b c := by
  rcases c with vs | ⟨ty, xs⟩ | xs
  · obtain ⟨h1, h2, h3⟩ := H
    exact ⟨h1.wr W, h2, fun k u hk hu => (h3 k u hk hu).other W (Or.inl ne)⟩
  · obtain ⟨c, h1, h2⟩ := H
    exact ⟨c, h1.other W ne, h2⟩
  · obtain ⟨c, h1, h2⟩ := H
    exact ⟨c, h1.other W ne, h2⟩
theorem QCellOk.ext {h h' : Heap} {b : Addr} {c : QCell} (H : QCellOk Z ad h b c) (E : Ext h h') : QCellOk Z ad h' b c := by
  rcases c with vs | ⟨ty, xs⟩ | xs
  · obtain ⟨h1, h2, h3⟩ := H
    exact ⟨h1.ext E, h2, fun k u hk hu => (h3 k u hk hu).ext E⟩
  · obtain ⟨c, h1, h2⟩ := H
    exact ⟨c, h1.ext E, h2⟩
  · obtain ⟨c, h1, h2⟩ := H
    exact ⟨c, h1.ext E, h2⟩
theorem QRep.set {h h' : Heap} {σ : QHeap} {a : Nat} {sl : Nat} {w : Value} {c d : QCell} (H : QRep Z n0 ad h σ) (Ad : QAd n0 ad) (W : Wr h h' (ad a) sl w) (hc : hget σ a = some c) (hd : QCellOk Z ad h' (ad a) d) : QRep Z n0 ad h' (σ.set a d) := by
  obtain ⟨h1, h2, h3⟩ := H
  refine ⟨by simpa using h1, by rw [W.size, h2]; simp, fun k e he => ?_⟩
  rw [hget_set hc] at he
  split at he
  · rename_i q; cases he; rw [q]; exact hd
  · rename_i q; exact (h3 k e he).other W fun z => q (Ad.2 _ _ z)
theorem QRep.push {h h' : Heap} {σ : QHeap} {c : QCell} (H : QRep Z n0 ad h σ) (Ad : QAd n0 ad) (E : Ext h h') (hs : h'.size = h.size + 1) (hc : QCellOk Z ad h' h.size c) : QRep Z n0 ad h' (σ ++ [c]) := by
  obtain ⟨h1, h2, h3⟩ := H
  refine ⟨by simp; omega, by rw [hs, h2]; simp; omega, fun k e he => ?_⟩
  rw [hget_eq] at he
  rcases Nat.lt_or_ge k σ.length with q | q
  · rw [List.getElem?_append_left q, ← hget_eq] at he
    exact (h3 k e he).ext E
  · rw [List.getElem?_append_right q] at he
    obtain rfl : k = σ.length := by
      rcases Nat.lt_or_ge (k - σ.length) 1 with z | z
      · omega
      · rw [List.getElem?_eq_none (by simpa using z)] at he; cases he
    simp at he
    rw [← he, Ad.1 _ h1, ← h2]
    exact hc
theorem mem_of_contains {α : Type} [BEq α] [LawfulBEq α] {L : List α} {a : α} (h : L.contains a = true) : a ∈ L := by simpa using h
theorem lkF_lt : ∀ t ∈ lkF, t.2.2 < nF := by decide +kernel
theorem laid_of (W : QW Z a0) {k : Nat} (hk : k < nF) : Laid Z a0 cName cName (fNm k) (fDs k) := by
  have q := (qw_lay W) k hk
  cases hf : fFin k with
  | true => rw [hf] at q; exact Or.inr q
  | false => rw [hf] at q; exact Or.inl q
theorem qfit_inv {ty : FieldType} {v w : Value} (h : qfit ty v = some w) : v = w ∧ narrow ty (qv ad w) = qv ad w ∧ fits ty (qv ad w) = true := by
  unfold qfit at h
  split at h
  · cases h; exact ⟨rfl, rfl, rfl⟩
  · rename_i x
    obtain ⟨y, hy, h⟩ := Option.bind_eq_some_iff.mp h
    cases h
    unfold qboo at hy
    split at hy
    · rename_i e; cases hy; subst e; exact ⟨rfl, rfl, rfl⟩
    · split at hy
      · rename_i e; cases hy; subst e; exact ⟨rfl, rfl, rfl⟩
      · cases hy
  · cases h; exact ⟨rfl, rfl, rfl⟩
  · cases h; exact ⟨rfl, rfl, rfl⟩
  · cases h
theorem vget_set {vs : List Value} {k j : Nat} {w : Value} (hk : k < vs.length) : vget (vs.set k w) j = if j = k then some w else vget vs j := by
  simp only [vget_eq, List.getElem?_set]
  by_cases e : k = j
  · subst e; simp [hk]
  · simp [e, Ne.symm e]
theorem ald_in {α : Type} {f : α → Value} {xs : List α} {c : Cell} {j : Int32} {x : α} (hc : c.slots = (xs.map f).toArray) (h : aget xs j = some x) : ¬ (j < 0 ∨ c.slots.size ≤ j.toNatClampNeg) ∧ c.slots[j.toNatClampNeg]? = some (f x) := by
  obtain ⟨h1, h2⟩ := aget_inv h
  have h3 := (List.getElem?_eq_some_iff.mp h2).1
  refine ⟨fun q => ?_, by rw [hc]; simp [h2]⟩
  rcases q with q | q
  · exact h1 q
  · rw [hc] at q; simp at q; omega
theorem ast_in {α : Type} {f : α → Value} {xs ys : List α} {c : Cell} {j : Int32} {x : α} (hc : c.slots = (xs.map f).toArray) (h : aset xs j x = some ys) : ¬ (j < 0 ∨ c.slots.size ≤ j.toNatClampNeg) ∧ (c.setSlot j.toNatClampNeg (f x)).slots = (ys.map f).toArray := by
  obtain ⟨h1, h2, rfl⟩ := aset_inv h
  refine ⟨fun q => ?_, by simp [Cell.setSlot, hc, List.map_set]⟩
  rcases q with q | q
  · exact h1 q
  · rw [hc] at q; simp at q; omega
theorem qgrow {σ : QHeap} {c : QCell} : qhs (σ ++ [c]) - qhs σ = qsz c := by rw [qhs_app]; simp [qhs]
set_option maxHeartbeats 4000000 in
theorem QTri.newArr (Ad : QAd n0 ad) (W : QW Z a0) {pc aux : Nat} {L : QLoc} {S : List Value} {σ : QHeap} {aty : ArrayType} {n : Int32} {k : Nat} {c : QCell} (hk : qnew n = some k) (hc : pCode m pc = some (.newarray aty, aux)) (hz : qsz c = k)
    (hq : ∀ (h' : Heap) (a : Addr) (cA : ClassId), Arr Z h' a (newA cA (newarray.typeOf aty) n) (newarray.typeOf aty) → QCellOk Z ad h' a c)
    (h : QTri l Z n0 ad m (pc + 2, L, .ref σ.length :: S, σ ++ [c]) v σ') : QTri l Z n0 ad m (pc, L, .int n :: S, σ) v σ' := by
  have hd : decode (pBytes m) pc = .ok (.newarray aty, 2) := pDecN hc rfl
  obtain ⟨n1, n2, n3⟩ := qnew_inv hk
  refine QTri.gen h (by simp) (by simp [qhs_app]) fun p e R s mid args below meth c' T locs cells slots C hcx X hR hF hL hC hn hc1 hsl => ?_
  obtain ⟨hx, hZ, hby, hml, hret, hown, hnm, hfr, hlo⟩ := hcx
  have hd2 : decode c'.code pc = .ok (.newarray aty, 2) := by rw [hby]; exact hd
  simp only [List.length_append, List.length_singleton, Nat.add_sub_cancel_left, qgrow, hz] at hc1 hsl ⊢
  obtain ⟨T₁, h₁, cA, X₁, e₁, E₁, A₁, st⟩ := newP X hx hZ (aty := aty) (qw_arr W (newarray.typeOf aty) (mem_of_contains (show aTys.contains (newarray.typeOf aty) = true from pRest hc))) rfl (g := mkF mid pc C (.int n :: S.map (qv ad))) rfl hd2 rfl n1 (cap := k) (by omega) (by omega) hc1 hsl
  have hsz : h₁.size = T.heap.size + 1 := by
    have q1 := X₁.heapSize
    have q2 : T.heap.size < h₁.size := A₁.lt
    have q3 := hR.2.1
    rw [e₁] at q1
    have : n0 + (σ.length - k0) = s.heap.size + cells := hn
    have q3' : T.heap.size = n0 + (σ.length - k0) := q3
    omega
  refine ⟨T₁, locs, C, X₁, ?_, hF, hL, hC, fun target q => ?_⟩
  · rw [e₁]; exact QRep.push hR Ad E₁ hsz (hq _ _ _ A₁)
  · refine st _ ?_
    have e2 : ad σ.length = T.heap.size := by rw [Ad.1 _ hR.1]; exact hR.2.1.symm
    simp only [List.map_cons, qv, e2] at q
    exact q
set_option maxHeartbeats 4000000 in
theorem QTri.getfield (W : QW Z a0) {pc idx aux : Nat} {L : QLoc} {S : List Value} {σ : QHeap} {st' : QSt} (h : QTri l Z n0 ad m st' v σ') (hc : pCode m pc = some (.getfield idx, aux)) (hs : qget (pc + 3) L S σ aux = some st') : QTri l Z n0 ad m (pc, L, S, σ) v σ' := by
  have hd : decode (pBytes m) pc = .ok (.getfield idx, 3) := pDecN hc rfl
  obtain ⟨a, S', vs, w, rfl, hvs, hw, rfl⟩ := qget_inv hs
  have hm := mem_of_contains (show lkF.contains (pK m, idx, aux) = true from pRest hc)
  have hlt := lkF_lt _ hm
  refine QTri.pure h rfl fun p e R s mid args below meth c T locs cells slots C hcx X hR hL hC => ?_
  obtain ⟨hx, hZ, hby, hml, hret, hown, hnm, hfr, hlo⟩ := hcx
  have hd2 : decode c.code pc = .ok (.getfield idx, 3) := by rw [hby]; exact hd
  have F := (hR.2.2 _ _ hvs).2.2 aux w hlt hw
  obtain ⟨T₁, X₁, e₁, st⟩ := getF X hx hZ hown (host := "") (index := idx) (Or.inl (qw_fl W (pK m, idx, aux) hm)) Via.refl rfl F (g := mkF mid pc C (List.map (qv ad) (.ref a :: S'))) rfl rfl hd2
  exact ⟨T₁, C, X₁, e₁, hL, hC, st⟩
set_option maxHeartbeats 4000000 in
theorem QTri.putfield (Ad : QAd n0 ad) (W : QW Z a0) {pc idx aux : Nat} {L : QLoc} {S : List Value} {σ : QHeap} {st' : QSt} (h : QTri l Z n0 ad m st' v σ') (hc : pCode m pc = some (.putfield idx, aux)) (hs : qput (pc + 3) L S σ aux = some st') : QTri l Z n0 ad m (pc, L, S, σ) v σ' := by
  have hd : decode (pBytes m) pc = .ok (.putfield idx, 3) := pDecN hc rfl
  obtain ⟨w, a, S', vs, u, rfl, hvs, b1, b2, hu, rfl⟩ := qput_inv hs
  obtain ⟨r1, r2⟩ := Bool.and_eq_true_iff.mp (show (lkF.contains (pK m, idx, aux) && (!fFin aux || (pK m == 1 && pNm m == "<init>"))) = true from pRest hc)
  have hm := mem_of_contains r1
  have hlt := lkF_lt _ hm
  obtain ⟨rfl, q2, q3⟩ := qfit_inv (ad := ad) hu
  have hsz : qhs (σ.set a (Sum.inl (vs.set aux w))) = qhs σ := qhs_set hvs rfl
  refine QTri.gen h (by simp) (by show qhs σ ≤ qhs (σ.set a (Sum.inl (vs.set aux w))); rw [hsz]; exact Nat.le_refl _) fun p e R s mid args below meth c T locs cells slots C hcx X hR hF hL hC hn hc1 hsl => ?_
  obtain ⟨hx, hZ, hby, hml, hret, hown, hnm, hfr, hlo⟩ := hcx
  have hd2 : decode c.code pc = .ok (.putfield idx, 3) := by rw [hby]; exact hd
  obtain ⟨E, l1, Fs⟩ := hR.2.2 _ _ hvs
  obtain ⟨old, hold⟩ : ∃ old, vget vs aux = some old := by rw [vget_eq]; exact ⟨_, List.getElem?_eq_getElem b2⟩
  have lay : (Cond.lays cName cName (fNm aux) (fDs aux)).before a0 Z = true ∨ ((Cond.laysFinal cName cName (fNm aux) (fDs aux)).before a0 Z = true ∧ kName (pK m) = cName ∧ meth.name = "<init>") := by
    have q := (qw_lay W) aux hlt
    cases hf : fFin aux with
    | false => rw [hf] at q; exact Or.inl q
    | true =>
      rw [hf] at q r2
      simp at r2
      exact Or.inr ⟨q, by rw [r2.1]; exact kOne, by rw [hnm]; exact r2.2⟩
  obtain ⟨T₁, h₁, X₁, e₁, W₁, st⟩ := putF X hx hZ hown (host := "") (index := idx) (Or.inl (qw_fl W (pK m, idx, aux) hm)) Via.refl rfl (Fs aux old hlt hold) E lay ((qw_inst W)) (fPrs aux hlt) q2 q3 (g := mkF mid pc C (List.map (qv ad) (w :: .ref a :: S'))) rfl rfl hd2
  refine ⟨T₁, _, C, ?_, ?_, Fr.snoc X₁ hF (by rw [Ad.1 a b1]; exact Nat.le_add_right _ _), hL, hC, st⟩
  · show Stand _ _ _ _ _ _ _ _ _ _ _ _ (cells + ((σ.set a (Sum.inl (vs.set aux w))).length - σ.length)) (slots + (qhs (σ.set a (Sum.inl (vs.set aux w))) - qhs σ))
    rw [hsz, Nat.sub_self, List.length_set, Nat.sub_self]
    exact X₁
  · rw [e₁]
    refine QRep.set hR Ad W₁ hvs ⟨E.wr W₁, by simpa using l1, fun k u hk hu => ?_⟩
    rw [vget_set b2] at hu
    split at hu
    · rename_i e; cases hu; rw [e]; exact (Fs aux old hlt hold).same W₁
    · rename_i ne
      exact (Fs k u hk hu).other W₁ (Or.inr (slot_ne (laid_of W hk) (laid_of W hlt) (fun z => ne (fInj _ hk _ hlt z)) (fPrs _ hk) (fPrs _ hlt)))
theorem tyI_inv {ty : FieldType} (h : tyI ty = true) : ty = .int := by cases ty <;> simp [tyI] at h; rfl
theorem tyB_inv {ty : FieldType} (h : tyB ty = true) : ty = .boolean ∨ ty = .byte := by cases ty <;> simp [tyB] at h <;> simp
set_option maxHeartbeats 4000000 in
theorem QTri.iaload {pc aux : Nat} {L : QLoc} {S : List Value} {σ : QHeap} {st' : QSt} (h : QTri l Z n0 ad m st' v σ') (hc : pCode m pc = some (.iaload, aux)) (hs : qald (pc + 1) L S σ tyI = some st') : QTri l Z n0 ad m (pc, L, S, σ) v σ' := by
  have hd : decode (pBytes m) pc = .ok (.iaload, 1) := pDecN hc rfl
  obtain ⟨j, a, S', ty, xs, w, rfl, hx1, ht, hw, rfl⟩ := qald_inv hs
  obtain rfl := tyI_inv ht
  refine QTri.stack h fun p e R s mid args below meth c T locs cells slots C target hx hZ hby hown X hR hL k => ?_
  have hd2 : decode c.code pc = .ok (.iaload, 1) := by rw [hby]; exact hd
  obtain ⟨cl, A, hsl⟩ := hR.2.2 _ _ hx1
  obtain ⟨i1, i2⟩ := ald_in hsl hw
  exact X.iaload hx A.1 (State.isArrayOf_alike hZ.alike A.2.1) A.2.2 i1 i2 (g := mkF mid pc C (List.map (qv ad) (.int j :: .ref a :: S'))) rfl rfl hd2 _ k
set_option maxHeartbeats 4000000 in
theorem QTri.baload {pc aux : Nat} {L : QLoc} {S : List Value} {σ : QHeap} {st' : QSt} (h : QTri l Z n0 ad m st' v σ') (hc : pCode m pc = some (.baload, aux)) (hs : qald (pc + 1) L S σ tyB = some st') : QTri l Z n0 ad m (pc, L, S, σ) v σ' := by
  have hd : decode (pBytes m) pc = .ok (.baload, 1) := pDecN hc rfl
  obtain ⟨j, a, S', ty, xs, w, rfl, hx1, ht, hw, rfl⟩ := qald_inv hs
  refine QTri.stack h fun p e R s mid args below meth c T locs cells slots C target hx hZ hby hown X hR hL k => ?_
  have hd2 : decode c.code pc = .ok (.baload, 1) := by rw [hby]; exact hd
  obtain ⟨cl, A, hsl⟩ := hR.2.2 _ _ hx1
  obtain ⟨i1, i2⟩ := ald_in hsl hw
  rcases tyB_inv ht with rfl | rfl
  · exact X.baloadBooleans hx A.1 (State.isArrayOf_alike hZ.alike A.2.1) A.2.2 i1 i2 (g := mkF mid pc C (List.map (qv ad) (.int j :: .ref a :: S'))) rfl rfl hd2 _ k
  · exact X.baloadBytes hx A.1 (State.isArrayOf_alike hZ.alike A.2.1) A.2.2 i1 i2 (g := mkF mid pc C (List.map (qv ad) (.int j :: .ref a :: S'))) rfl rfl hd2 _ k
set_option maxHeartbeats 4000000 in
theorem QTri.laload {pc aux : Nat} {L : QLoc} {S : List Value} {σ : QHeap} {st' : QSt} (h : QTri l Z n0 ad m st' v σ') (hc : pCode m pc = some (.laload, aux)) (hs : qaldJ (pc + 1) L S σ = some st') : QTri l Z n0 ad m (pc, L, S, σ) v σ' := by
  have hd : decode (pBytes m) pc = .ok (.laload, 1) := pDecN hc rfl
  obtain ⟨j, a, S', xs, w, rfl, hx1, hw, rfl⟩ := qaldJ_inv hs
  refine QTri.stack h fun p e R s mid args below meth c T locs cells slots C target hx hZ hby hown X hR hL k => ?_
  have hd2 : decode c.code pc = .ok (.laload, 1) := by rw [hby]; exact hd
  obtain ⟨cl, A, hsl⟩ := hR.2.2 _ _ hx1
  obtain ⟨i1, i2⟩ := ald_in hsl hw
  exact X.laload hx A.1 (State.isArrayOf_alike hZ.alike A.2.1) A.2.2 i1 i2 (g := mkF mid pc C (List.map (qv ad) (.int j :: .ref a :: S'))) rfl rfl hd2 _ k
/-- behind a store into an array -/
theorem QTri.stored (Ad : QAd n0 ad) {pc : Nat} {L : QLoc} {S S' : List Value} {σ : QHeap} {a j : Nat} {w : Value} {c d : QCell} (hx1 : hget σ a = some c) (b1 : k0 ≤ a) (hz : qsz d = qsz c) (h : QTri l Z n0 ad m (pc + 1, L, S', σ.set a d) v σ')
    (hs : ∀ (p : Program) (e : Env) (R : Room) (s : State) (mid : MethodId) (args : Array Value) (below : List Frame) (meth : Method) (c : Code) (T : State) (locs : List Loc) (cells slots : Nat) (C : Array Slot),
      QCx Z p R s mid meth c m → Stand p l e R s mid args below meth c T locs cells slots → QRep Z n0 ad T.heap σ →
      ∃ T' h', Stand p l e R s mid args below meth c T' (locs ++ [⟨ad a, j⟩]) cells slots ∧ T'.heap = h' ∧ Wr T.heap h' (ad a) j w ∧ QCellOk Z ad h' (ad a) d ∧ ∀ target, Steps p.tables e below (T'.setTop (mkF mid (pc + 1) C (S'.map (qv ad)))) target → Steps p.tables e below (T.setTop (mkF mid pc C (S.map (qv ad)))) target) :
    QTri l Z n0 ad m (pc, L, S, σ) v σ' := by
  have hsz : qhs (σ.set a d) = qhs σ := qhs_set hx1 hz
  refine QTri.gen h (by simp) (by show qhs σ ≤ qhs (σ.set a d); rw [hsz]; exact Nat.le_refl _) fun p e R s mid args below meth c T locs cells slots C hcx X hR hF hL hC hn hc1 hsl => ?_
  obtain ⟨T₁, h₁, X₁, e₁, W₁, Q₁, st⟩ := hs p e R s mid args below meth c T locs cells slots C hcx X hR
  refine ⟨T₁, _, C, ?_, ?_, Fr.snoc X₁ hF (by rw [Ad.1 a b1]; exact Nat.le_add_right _ _), hL, hC, st⟩
  · show Stand _ _ _ _ _ _ _ _ _ _ _ _ (cells + ((σ.set a d).length - σ.length)) (slots + (qhs (σ.set a d) - qhs σ))
    rw [hsz, Nat.sub_self, List.length_set, Nat.sub_self]
    exact X₁
  · rw [e₁]
    exact QRep.set hR Ad W₁ hx1 Q₁
set_option maxHeartbeats 4000000 in
theorem QTri.iastore (Ad : QAd n0 ad) {pc aux : Nat} {L : QLoc} {S : List Value} {σ : QHeap} {st' : QSt} (h : QTri l Z n0 ad m st' v σ') (hc : pCode m pc = some (.iastore, aux)) (hs : qast (pc + 1) L S σ tyI = some st') : QTri l Z n0 ad m (pc, L, S, σ) v σ' := by
  have hd : decode (pBytes m) pc = .ok (.iastore, 1) := pDecN hc rfl
  obtain ⟨w, j, a, S', ty, xs, ys, rfl, hx1, ht, b1, hw, rfl⟩ := qast_inv hs
  obtain rfl := tyI_inv ht
  refine QTri.stored Ad (j := j.toNatClampNeg) (w := .int w) hx1 b1 (by rw [(aset_inv hw).2.2]; simp [qsz]) h fun p e R s mid args below meth c T locs cells slots C hcx X hR => ?_
  have hd2 : decode c.code pc = .ok (.iastore, 1) := by rw [hcx.2.2.1]; exact hd
  obtain ⟨cl, A, hsl⟩ := hR.2.2 _ _ hx1
  obtain ⟨i1, i2⟩ := ast_in hsl hw
  obtain ⟨T₁, h₁, X₁, e₁, W₁, st⟩ := stI X hcx.1 hcx.2.1 rfl A i1 (g := mkF mid pc C (List.map (qv ad) (.int w :: .int j :: .ref a :: S'))) rfl rfl hd2
  exact ⟨T₁, h₁, X₁, e₁, W₁, ⟨_, A.same W₁, i2⟩, st⟩
set_option maxHeartbeats 4000000 in
theorem QTri.bastore (Ad : QAd n0 ad) {pc aux : Nat} {L : QLoc} {S : List Value} {σ : QHeap} {st' : QSt} (h : QTri l Z n0 ad m st' v σ') (hc : pCode m pc = some (.bastore, aux)) (hs : qast (pc + 1) L S σ tyB = some st') : QTri l Z n0 ad m (pc, L, S, σ) v σ' := by
  have hd : decode (pBytes m) pc = .ok (.bastore, 1) := pDecN hc rfl
  obtain ⟨w, j, a, S', ty, xs, ys, rfl, hx1, ht, b1, hw, rfl⟩ := qast_inv hs
  refine QTri.stored Ad (j := j.toNatClampNeg) (w := .int (qnar ty w)) hx1 b1 (by rw [(aset_inv hw).2.2]; simp [qsz]) h fun p e R s mid args below meth c T locs cells slots C hcx X hR => ?_
  have hd2 : decode c.code pc = .ok (.bastore, 1) := by rw [hcx.2.2.1]; exact hd
  obtain ⟨cl, A, hsl⟩ := hR.2.2 _ _ hx1
  obtain ⟨i1, i2⟩ := ast_in hsl hw
  rcases tyB_inv ht with rfl | rfl
  · obtain ⟨T₁, h₁, X₁, e₁, W₁, st⟩ := stZ X hcx.1 hcx.2.1 rfl A i1 (g := mkF mid pc C (List.map (qv ad) (.int w :: .int j :: .ref a :: S'))) rfl rfl hd2
    exact ⟨T₁, h₁, X₁, e₁, W₁, ⟨_, A.same W₁, i2⟩, st⟩
  · obtain ⟨T₁, h₁, X₁, e₁, W₁, st⟩ := stB X hcx.1 hcx.2.1 rfl A i1 (g := mkF mid pc C (List.map (qv ad) (.int w :: .int j :: .ref a :: S'))) rfl rfl hd2
    exact ⟨T₁, h₁, X₁, e₁, W₁, ⟨_, A.same W₁, i2⟩, st⟩
set_option maxHeartbeats 4000000 in
theorem QTri.lastore (Ad : QAd n0 ad) {pc aux : Nat} {L : QLoc} {S : List Value} {σ : QHeap} {st' : QSt} (h : QTri l Z n0 ad m st' v σ') (hc : pCode m pc = some (.lastore, aux)) (hs : qastJ (pc + 1) L S σ = some st') : QTri l Z n0 ad m (pc, L, S, σ) v σ' := by
  have hd : decode (pBytes m) pc = .ok (.lastore, 1) := pDecN hc rfl
  obtain ⟨w, j, a, S', xs, ys, rfl, hx1, b1, hw, rfl⟩ := qastJ_inv hs
  refine QTri.stored Ad (j := j.toNatClampNeg) (w := .long w) hx1 b1 (by rw [(aset_inv hw).2.2]; simp [qsz]) h fun p e R s mid args below meth c T locs cells slots C hcx X hR => ?_
  have hd2 : decode c.code pc = .ok (.lastore, 1) := by rw [hcx.2.2.1]; exact hd
  obtain ⟨cl, A, hsl⟩ := hR.2.2 _ _ hx1
  obtain ⟨i1, i2⟩ := ast_in hsl hw
  obtain ⟨T₁, h₁, X₁, e₁, W₁, st⟩ := stJ X hcx.1 hcx.2.1 rfl A i1 (g := mkF mid pc C (List.map (qv ad) (.long w :: .int j :: .ref a :: S'))) rfl rfl hd2
  exact ⟨T₁, h₁, X₁, e₁, W₁, ⟨_, A.same W₁, i2⟩, st⟩
set_option maxHeartbeats 4000000 in
theorem QTri.alen {pc aux : Nat} {L : QLoc} {S : List Value} {σ : QHeap} {st' : QSt} (h : QTri l Z n0 ad m st' v σ') (hc : pCode m pc = some (.arraylength, aux)) (hs : qlen (pc + 1) L S σ = some st') : QTri l Z n0 ad m (pc, L, S, σ) v σ' := by
  have hd : decode (pBytes m) pc = .ok (.arraylength, 1) := pDecN hc rfl
  obtain ⟨a, S', n, rfl, hx1, rfl⟩ := qlen_inv hs
  refine QTri.stack h fun p e R s mid args below meth c T locs cells slots C target hx hZ hby hown X hR hL k => ?_
  have hd2 : decode c.code pc = .ok (.arraylength, 1) := by rw [hby]; exact hd
  rcases hx1 with ⟨ty, xs, hx1, rfl⟩ | ⟨xs, hx1, rfl⟩
  · obtain ⟨cl, A, hsl⟩ := hR.2.2 _ _ hx1
    have e1 : cl.slots.size = xs.length := by rw [hsl]; simp
    rw [← e1] at k
    exact X.arraylength hx A.1 (State.isArrayOf_alike hZ.alike A.2.1) (g := mkF mid pc C (List.map (qv ad) (.ref a :: S'))) rfl rfl hd2 _ k
  · obtain ⟨cl, A, hsl⟩ := hR.2.2 _ _ hx1
    have e1 : cl.slots.size = xs.length := by rw [hsl]; simp
    rw [← e1] at k
    exact X.arraylength hx A.1 (State.isArrayOf_alike hZ.alike A.2.1) (g := mkF mid pc C (List.map (qv ad) (.ref a :: S'))) rfl rfl hd2 _ k
set_option maxHeartbeats 4000000 in
theorem QTri.newObj (Ad : QAd n0 ad) (W : QW Z a0) {pc idx aux : Nat} {L : QLoc} {S : List Value} {σ : QHeap} (h : QTri l Z n0 ad m (pc + 3, L, .ref σ.length :: S, σ ++ [.inl cDef]) v σ') (hc : pCode m pc = some (.new idx, aux)) : QTri l Z n0 ad m (pc, L, S, σ) v σ' := by
  have hd : decode (pBytes m) pc = .ok (.new idx, 3) := pDecN hc rfl
  have hm := mem_of_contains (show lkN.contains (pK m, idx) = true from pRest hc)
  refine QTri.gen h (by simp) (by simp [qhs_app]) fun p e R s mid args below meth c T locs cells slots C hcx X hR hF hL hC hn hc1 hsl => ?_
  obtain ⟨hx, hZ, hby, hml, hret, hown, hnm, hfr, hlo⟩ := hcx
  have hd2 : decode c.code pc = .ok (.new idx, 3) := by rw [hby]; exact hd
  simp only [List.length_append, List.length_singleton, Nat.add_sub_cancel_left, qgrow, qsz] at hc1 hsl ⊢
  obtain ⟨T₁, h₁, X₁, e₁, E₁, A₁, D₁, -, st⟩ := newO X hx hZ hown (index := idx) (qw_nw W (pK m, idx) hm) ((qw_inst W)) ((qw_init W)) rfl (g := mkF mid pc C (S.map (qv ad))) rfl hd2 hc1 hsl
  have hsz : h₁.size = T.heap.size + 1 := by
    have q1 := X₁.heapSize
    have q2 : T.heap.size < h₁.size := A₁.lt
    have q3 : T.heap.size = n0 + (σ.length - k0) := hR.2.1
    rw [e₁] at q1
    have : n0 + (σ.length - k0) = s.heap.size + cells := hn
    omega
  refine ⟨T₁, locs, C, X₁, ?_, hF, hL, hC, fun target q => ?_⟩
  · rw [e₁]
    refine QRep.push hR Ad E₁ hsz ⟨A₁, cDefL, fun k u hk hu => ?_⟩
    rw [cDefs k hk] at hu
    cases hu
    have e3 : qv ad (defaultValue (fTy k)) = defaultValue (fTy k) := by
      cases hq : defaultValue (fTy k) with
      | ref a => exact absurd hq (fDef k hk a)
      | _ => rfl
    rw [e3]
    exact D₁ (laid_of W hk) (fPrs k hk)
  · refine st _ ?_
    have e2 : ad σ.length = T.heap.size := by rw [Ad.1 _ hR.1]; exact hR.2.1.symm
    simp only [List.map_cons, qv, e2] at q
    exact q
set_option maxHeartbeats 8000000 in
theorem QTri.step (Ad : QAd n0 ad) (W : QW Z a0) {st st' : QSt} (h : QTri l Z n0 ad m st' v σ') (hs : qstep m st = some st') : QTri l Z n0 ad m st v σ' := by
  obtain ⟨pc, L, S, σ⟩ := st
  unfold qstep at hs
  dsimp only at hs
  split at hs
  rotate_left
  · cases hs
  rename_i i aux hc
  have hd := pDecN hc rfl
  have hr := pRest hc
  unfold qexec at hs
  split at hs
  · -- aload_n
    obtain ⟨w, h1, h2, rfl⟩ := qload_inv hs
    obtain ⟨a, rfl⟩ := isR_inv h2
    exact QTri.stack h fun p e R s mid args below meth c T locs cells slots C target hx hZ hby hown X hR hL k => XS.aloadN X.here hx rfl (hb hby hd) (hL.2.1 _ _ h1) rfl k
  · obtain ⟨w, h1, h2, rfl⟩ := qload_inv hs
    obtain ⟨a, rfl⟩ := isR_inv h2
    exact QTri.stack h fun p e R s mid args below meth c T locs cells slots C target hx hZ hby hown X hR hL k => XS.aload X.here hx rfl (hb hby hd) (hL.2.1 _ _ h1) rfl k
  · obtain ⟨w, h1, h2, rfl⟩ := qload_inv hs
    obtain ⟨a, rfl⟩ := isI_inv h2
    exact QTri.stack h fun p e R s mid args below meth c T locs cells slots C target hx hZ hby hown X hR hL k => XS.iloadN X.here hx rfl (hb hby hd) (hL.2.1 _ _ h1) k
  · obtain ⟨w, h1, h2, rfl⟩ := qload_inv hs
    obtain ⟨a, rfl⟩ := isI_inv h2
    exact QTri.stack h fun p e R s mid args below meth c T locs cells slots C target hx hZ hby hown X hR hL k => XS.iload X.here hx rfl (hb hby hd) (hL.2.1 _ _ h1) k
  · obtain ⟨w, h1, h2, rfl⟩ := qload_inv hs
    obtain ⟨a, rfl⟩ := isJ_inv h2
    exact QTri.stack h fun p e R s mid args below meth c T locs cells slots C target hx hZ hby hown X hR hL k => XT.lloadN X.here hx rfl (hb hby hd) (hL.2.1 _ _ h1) k
  · obtain ⟨w, h1, h2, rfl⟩ := qload_inv hs
    obtain ⟨a, rfl⟩ := isJ_inv h2
    exact QTri.stack h fun p e R s mid args below meth c T locs cells slots C target hx hZ hby hown X hR hL k => XT.lload X.here hx rfl (hb hby hd) (hL.2.1 _ _ h1) k
  · cases hs -- iconst
    exact QTri.stack h fun p e R s mid args below meth c T locs cells slots C target hx hZ hby hown X hR hL k => XS.iconst X.here hx rfl (hb hby hd) k
  · cases hs
    exact QTri.stack h fun p e R s mid args below meth c T locs cells slots C target hx hZ hby hown X hR hL k => XS.bipush X.here hx rfl (hb hby hd) k
  · cases hs
    exact QTri.stack h fun p e R s mid args below meth c T locs cells slots C target hx hZ hby hown X hR hL k => XS.sipush X.here hx rfl (hb hby hd) k
  · cases hs
    exact QTri.stack h fun p e R s mid args below meth c T locs cells slots C target hx hZ hby hown X hR hL k => XT.lconst X.here hx rfl (hb hby hd) k
  · -- ldc
    unfold qldc at hs
    split at hs
    · rename_i w hw
      cases hs
      obtain ⟨x, hx1, hx2⟩ := qw_cI W (pK m, _, aux) (mem_of_contains (show lkC.contains (pK m, _, aux) = true from hr))
      rw [show vget cK aux = some w from hw] at hx1
      cases hx1
      exact QTri.stack h fun p e R s mid args below meth c T locs cells slots C target hx hZ hby hown X hR hL k => X.ldcI hx hown (mv hZ hx2) rfl (hb hby hd) k
    · cases hs
  · unfold qldc at hs
    split at hs
    · rename_i w hw
      cases hs
      obtain ⟨x, hx1, hx2⟩ := qw_cJ W (pK m, _, aux) (mem_of_contains (show lkD.contains (pK m, _, aux) = true from hr))
      rw [show vget cK aux = some w from hw] at hx1
      cases hx1
      exact QTri.stack h fun p e R s mid args below meth c T locs cells slots C target hx hZ hby hown X hR hL k => X.ldc2J hx hown (mv hZ hx2) rfl (hb hby hd) k
    · cases hs
  · -- istore_n
    obtain ⟨w, S', L', rfl, h2, h3, rfl⟩ := qstore_inv hs
    obtain ⟨a, rfl⟩ := isI_inv h2
    exact QTri.frame h fun p e R s mid args below meth c T locs cells slots C hcx X hR hL hC => by
      obtain ⟨D, d1, d2, d3⟩ := store_ok hL h3
      exact ⟨D, d2, d3.trans hC, fun target k => XS.istoreN X.here hcx.1 rfl (hb hcx.2.2.1 hd) rfl d1 k⟩
  · obtain ⟨w, S', L', rfl, h2, h3, rfl⟩ := qstore_inv hs
    obtain ⟨a, rfl⟩ := isI_inv h2
    exact QTri.frame h fun p e R s mid args below meth c T locs cells slots C hcx X hR hL hC => by
      obtain ⟨D, d1, d2, d3⟩ := store_ok hL h3
      exact ⟨D, d2, d3.trans hC, fun target k => XS.istore X.here hcx.1 rfl (hb hcx.2.2.1 hd) rfl d1 k⟩
  · obtain ⟨w, S', L', rfl, h2, h3, rfl⟩ := qstore_inv hs
    obtain ⟨a, rfl⟩ := isJ_inv h2
    exact QTri.frame h fun p e R s mid args below meth c T locs cells slots C hcx X hR hL hC => by
      obtain ⟨D, d1, d2, d3⟩ := store_ok hL h3
      exact ⟨D, d2, d3.trans hC, fun target k => XT.lstoreN X.here hcx.1 rfl (hb hcx.2.2.1 hd) rfl d1 k⟩
  · obtain ⟨w, S', L', rfl, h2, h3, rfl⟩ := qstore_inv hs
    obtain ⟨a, rfl⟩ := isJ_inv h2
    exact QTri.frame h fun p e R s mid args below meth c T locs cells slots C hcx X hR hL hC => by
      obtain ⟨D, d1, d2, d3⟩ := store_ok hL h3
      exact ⟨D, d2, d3.trans hC, fun target k => XT.lstore X.here hcx.1 rfl (hb hcx.2.2.1 hd) rfl d1 k⟩
  · obtain ⟨w, S', L', rfl, h2, h3, rfl⟩ := qstore_inv hs
    obtain ⟨a, rfl⟩ := isR_inv h2
    exact QTri.frame h fun p e R s mid args below meth c T locs cells slots C hcx X hR hL hC => by
      obtain ⟨D, d1, d2, d3⟩ := store_ok hL h3
      exact ⟨D, d2, d3.trans hC, fun target k => XS.astoreN X.here hcx.1 rfl (hb hcx.2.2.1 hd) rfl rfl d1 k⟩
  · obtain ⟨w, S', L', rfl, h2, h3, rfl⟩ := qstore_inv hs
    obtain ⟨a, rfl⟩ := isR_inv h2
    exact QTri.frame h fun p e R s mid args below meth c T locs cells slots C hcx X hR hL hC => by
      obtain ⟨D, d1, d2, d3⟩ := store_ok hL h3
      exact ⟨D, d2, d3.trans hC, fun target k => XS.astore X.here hcx.1 rfl (hb hcx.2.2.1 hd) rfl rfl d1 k⟩
  · -- iinc
    unfold qinc at hs
    split at hs
    · rename_i x hx1
      split at hs
      · rename_i L' hL'
        cases hs
        exact QTri.frame h fun p e R s mid args below meth c T locs cells slots C hcx X hR hL hC => by
          obtain ⟨D, d1, d2, d3⟩ := store_ok hL hL'
          exact ⟨D, d2, d3.trans hC, fun target k => XS.iinc X.here hcx.1 rfl (hb hcx.2.2.1 hd) (hL.2.1 _ _ hx1) d1 k⟩
      · cases hs
    · cases hs
  · obtain ⟨x, y, S', rfl, rfl⟩ := qbin_inv hs -- iadd
    exact QTri.stack h fun p e R s mid args below meth c T locs cells slots C target hx hZ hby hown X hR hL k => XS.iadd X.here hx rfl (hb hby hd) rfl k
  · obtain ⟨x, y, S', rfl, rfl⟩ := qbin_inv hs
    exact QTri.stack h fun p e R s mid args below meth c T locs cells slots C target hx hZ hby hown X hR hL k => XS.isub X.here hx rfl (hb hby hd) rfl k
  · obtain ⟨x, y, S', rfl, rfl⟩ := qbin_inv hs
    exact QTri.stack h fun p e R s mid args below meth c T locs cells slots C target hx hZ hby hown X hR hL k => XS.imul X.here hx rfl (hb hby hd) rfl k
  · obtain ⟨x, y, S', rfl, rfl⟩ := qbin_inv hs
    exact QTri.stack h fun p e R s mid args below meth c T locs cells slots C target hx hZ hby hown X hR hL k => XS.iand X.here hx rfl (hb hby hd) rfl k
  · obtain ⟨x, y, S', rfl, rfl⟩ := qbin_inv hs
    exact QTri.stack h fun p e R s mid args below meth c T locs cells slots C target hx hZ hby hown X hR hL k => XT.ior X.here hx rfl (hb hby hd) rfl k
  · obtain ⟨x, y, S', rfl, rfl⟩ := qbin_inv hs
    exact QTri.stack h fun p e R s mid args below meth c T locs cells slots C target hx hZ hby hown X hR hL k => XT.ixor X.here hx rfl (hb hby hd) rfl k
  · obtain ⟨x, y, S', rfl, rfl⟩ := qbin_inv hs
    exact QTri.stack h fun p e R s mid args below meth c T locs cells slots C target hx hZ hby hown X hR hL k => XT.ishl X.here hx rfl (hb hby hd) rfl k
  · obtain ⟨x, y, S', rfl, rfl⟩ := qbin_inv hs
    exact QTri.stack h fun p e R s mid args below meth c T locs cells slots C target hx hZ hby hown X hR hL k => XT.ishr X.here hx rfl (hb hby hd) rfl k
  · obtain ⟨x, y, S', rfl, rfl⟩ := qbin_inv hs
    exact QTri.stack h fun p e R s mid args below meth c T locs cells slots C target hx hZ hby hown X hR hL k => XT.iushr X.here hx rfl (hb hby hd) rfl k
  · obtain ⟨x, y, z, S', rfl, hz, rfl⟩ := qbino_inv hs -- idiv
    unfold qdiv at hz
    split at hz
    · cases hz
    · rename_i hy
      cases hz
      exact QTri.stack h fun p e R s mid args below meth c T locs cells slots C target hx hZ hby hown X hR hL k => XS.idiv X.here hx rfl (hb hby hd) rfl hy k
  · obtain ⟨x, y, z, S', rfl, hz, rfl⟩ := qbino_inv hs
    unfold qrem at hz
    split at hz
    · cases hz
    · rename_i hy
      cases hz
      exact QTri.stack h fun p e R s mid args below meth c T locs cells slots C target hx hZ hby hown X hR hL k => iremM X hx rfl (hb hby hd) rfl hy k
  · obtain ⟨x, S', rfl, rfl⟩ := quni_inv hs -- ineg
    exact QTri.stack h fun p e R s mid args below meth c T locs cells slots C target hx hZ hby hown X hR hL k => XS.ineg X.here hx rfl (hb hby hd) rfl k
  · obtain ⟨x, S', rfl, rfl⟩ := quni_inv hs
    exact QTri.stack h fun p e R s mid args below meth c T locs cells slots C target hx hZ hby hown X hR hL k => XT.i2l X.here hx rfl (hb hby hd) rfl k
  · obtain ⟨x, S', rfl, rfl⟩ := quni_inv hs
    exact QTri.stack h fun p e R s mid args below meth c T locs cells slots C target hx hZ hby hown X hR hL k => XT.i2b X.here hx rfl (hb hby hd) rfl k
  · obtain ⟨x, S', rfl, rfl⟩ := quniJ_inv hs
    exact QTri.stack h fun p e R s mid args below meth c T locs cells slots C target hx hZ hby hown X hR hL k => XT.l2i X.here hx rfl (hb hby hd) rfl k
  · obtain ⟨x, S', rfl, rfl⟩ := quniJ_inv hs
    exact QTri.stack h fun p e R s mid args below meth c T locs cells slots C target hx hZ hby hown X hR hL k => XT.lneg X.here hx rfl (hb hby hd) rfl k
  · obtain ⟨x, y, S', rfl, rfl⟩ := qbinJ_inv hs
    exact QTri.stack h fun p e R s mid args below meth c T locs cells slots C target hx hZ hby hown X hR hL k => XT.ladd X.here hx rfl (hb hby hd) rfl k
  · obtain ⟨x, y, S', rfl, rfl⟩ := qbinJ_inv hs
    exact QTri.stack h fun p e R s mid args below meth c T locs cells slots C target hx hZ hby hown X hR hL k => XT.lsub X.here hx rfl (hb hby hd) rfl k
  · obtain ⟨x, y, S', rfl, rfl⟩ := qbinJ_inv hs
    exact QTri.stack h fun p e R s mid args below meth c T locs cells slots C target hx hZ hby hown X hR hL k => XT.lmul X.here hx rfl (hb hby hd) rfl k
  · obtain ⟨x, y, S', rfl, rfl⟩ := qbinJ_inv hs
    exact QTri.stack h fun p e R s mid args below meth c T locs cells slots C target hx hZ hby hown X hR hL k => XT.land X.here hx rfl (hb hby hd) rfl k
  · obtain ⟨x, y, S', rfl, rfl⟩ := qbinJ_inv hs
    exact QTri.stack h fun p e R s mid args below meth c T locs cells slots C target hx hZ hby hown X hR hL k => XT.lor X.here hx rfl (hb hby hd) rfl k
  · obtain ⟨x, y, S', rfl, rfl⟩ := qbinJ_inv hs
    exact QTri.stack h fun p e R s mid args below meth c T locs cells slots C target hx hZ hby hown X hR hL k => XT.lxor X.here hx rfl (hb hby hd) rfl k
  · obtain ⟨x, y, S', rfl, rfl⟩ := qshJ_inv hs
    exact QTri.stack h fun p e R s mid args below meth c T locs cells slots C target hx hZ hby hown X hR hL k => XT.lshl X.here hx rfl (hb hby hd) rfl k
  · obtain ⟨x, y, S', rfl, rfl⟩ := qshJ_inv hs
    exact QTri.stack h fun p e R s mid args below meth c T locs cells slots C target hx hZ hby hown X hR hL k => XT.lshr X.here hx rfl (hb hby hd) rfl k
  · obtain ⟨x, y, S', rfl, rfl⟩ := qshJ_inv hs
    exact QTri.stack h fun p e R s mid args below meth c T locs cells slots C target hx hZ hby hown X hR hL k => XT.lushr X.here hx rfl (hb hby hd) rfl k
  · split at hs -- lcmp
    · cases hs
      exact QTri.stack h fun p e R s mid args below meth c T locs cells slots C target hx hZ hby hown X hR hL k => XT.lcmp X.here hx rfl (hb hby hd) rfl k
    · cases hs
  · cases hs -- goto
    obtain ⟨t1, t2⟩ := qtgt_spec hr
    exact QTri.stack h fun p e R s mid args below meth c T locs cells slots C target hx hZ hby hown X hR hL k => XS.goto X.here hx rfl rfl (hb hby hd) t1 t2 k
  · obtain ⟨x, S', rfl, rfl⟩ := qif_inv hs
    obtain ⟨t1, t2⟩ := qtgt_spec hr
    cases hh : ifCond.holds _ x with
    | true => rw [hh] at h; exact QTri.stack h fun p e R s mid args below meth c T locs cells slots C target hx hZ hby hown X hR hL k => XS.ifYes X.here hx rfl rfl (hb hby hd) rfl hh t1 t2 k
    | false => rw [hh] at h; exact QTri.stack h fun p e R s mid args below meth c T locs cells slots C target hx hZ hby hown X hR hL k => XS.ifNo X.here hx rfl (hb hby hd) rfl hh k
  · obtain ⟨x, y, S', rfl, rfl⟩ := qicmp_inv hs
    obtain ⟨t1, t2⟩ := qtgt_spec hr
    cases hh : if_icmp.holds _ x y with
    | true => rw [hh] at h; exact QTri.stack h fun p e R s mid args below meth c T locs cells slots C target hx hZ hby hown X hR hL k => XS.icmpYes X.here hx rfl rfl (hb hby hd) rfl hh t1 t2 k
    | false => rw [hh] at h; exact QTri.stack h fun p e R s mid args below meth c T locs cells slots C target hx hZ hby hown X hR hL k => XS.icmpNo X.here hx rfl (hb hby hd) rfl hh k
  · unfold qdup at hs
    split at hs
    · cases hs
      exact QTri.stack h fun p e R s mid args below meth c T locs cells slots C target hx hZ hby hown X hR hL k => XS.dup X.here hx rfl (hb hby hd) rfl rfl k
    · cases hs
      exact QTri.stack h fun p e R s mid args below meth c T locs cells slots C target hx hZ hby hown X hR hL k => XS.dup X.here hx rfl (hb hby hd) rfl rfl k
    · cases hs
  · unfold qdup2 at hs
    split at hs
    · cases hs
      exact QTri.stack h fun p e R s mid args below meth c T locs cells slots C target hx hZ hby hown X hR hL k => XT.dup2 X.here hx rfl (hb hby hd) rfl rfl rfl k
    · cases hs
      exact QTri.stack h fun p e R s mid args below meth c T locs cells slots C target hx hZ hby hown X hR hL k => XT.dup2 X.here hx rfl (hb hby hd) rfl rfl rfl k
    · cases hs
      exact QTri.stack h fun p e R s mid args below meth c T locs cells slots C target hx hZ hby hown X hR hL k => XT.dup2L X.here hx rfl (hb hby hd) rfl k
    · cases hs
  · unfold qpop at hs
    split at hs
    · cases hs
      exact QTri.stack h fun p e R s mid args below meth c T locs cells slots C target hx hZ hby hown X hR hL k => XT.pop X.here hx rfl (hb hby hd) rfl rfl k
    · cases hs
      exact QTri.stack h fun p e R s mid args below meth c T locs cells slots C target hx hZ hby hown X hR hL k => XT.pop X.here hx rfl (hb hby hd) rfl rfl k
    · cases hs
  · exact QTri.getfield W h hc hs
  · exact QTri.putfield Ad W h hc hs
  · exact QTri.iaload h hc hs
  · exact QTri.baload h hc hs
  · exact QTri.laload h hc hs
  · exact QTri.iastore Ad h hc hs
  · exact QTri.bastore Ad h hc hs
  · exact QTri.lastore Ad h hc hs
  · exact QTri.alen h hc hs
  · -- newarray
    unfold qnewA at hs
    split at hs
    · split at hs
      · obtain ⟨k, hk, hs⟩ := Option.bind_eq_some_iff.mp hs
        cases hs
        exact QTri.newArr (c := .inr (.inl (.int, List.replicate k 0))) Ad W hk hc (by simp [qsz]) (fun h' a cA A => ⟨_, A, by simp [newA, (qnew_inv hk).2.1]; exact Or.inr rfl⟩) h
      · obtain ⟨k, hk, hs⟩ := Option.bind_eq_some_iff.mp hs
        cases hs
        exact QTri.newArr (c := .inr (.inl (.boolean, List.replicate k 0))) Ad W hk hc (by simp [qsz]) (fun h' a cA A => ⟨_, A, by simp [newA, (qnew_inv hk).2.1]; exact Or.inr rfl⟩) h
      · obtain ⟨k, hk, hs⟩ := Option.bind_eq_some_iff.mp hs
        cases hs
        exact QTri.newArr (c := .inr (.inl (.byte, List.replicate k 0))) Ad W hk hc (by simp [qsz]) (fun h' a cA A => ⟨_, A, by simp [newA, (qnew_inv hk).2.1]; exact Or.inr rfl⟩) h
      · obtain ⟨k, hk, hs⟩ := Option.bind_eq_some_iff.mp hs
        cases hs
        exact QTri.newArr (c := .inr (.inr (List.replicate k 0))) Ad W hk hc (by simp [qsz]) (fun h' a cA A => ⟨_, A, by simp [newA, (qnew_inv hk).2.1]; exact Or.inr rfl⟩) h
      · cases hs
    · cases hs
  · cases hs; exact QTri.newObj Ad W h hc
  · cases hs
theorem QTri.steps (Ad : QAd n0 ad) (W : QW Z a0) : ∀ (n : Nat) {st st' : QSt}, qsteps m n st = some st' → QTri l Z n0 ad m st' v σ' → QTri l Z n0 ad m st v σ'
  | 0, st, st', h, k => by cases h; exact k
  | n + 1, st, st', h, k => by
    simp only [qsteps] at h
    split at h
    · rename_i st₁ h1
      exact QTri.step Ad W (QTri.steps Ad W n h k) h1
    · cases h
/-! ## returns, masks, calls -/
def lmask : List Bool → QLoc → QLoc
  | b :: t, x :: u => (bif b then x else none) :: lmask t u
  | _, L => L.map fun _ => none
theorem lmask_len : ∀ (b : List Bool) (L : QLoc), (lmask b L).length = L.length
  | [], L => by simp [lmask]
  | _ :: _, [] => by simp [lmask]
  | _ :: t, _ :: u => by simp [lmask, lmask_len t u]
theorem lmask_get : ∀ (b : List Bool) (L : QLoc) (k : Nat) (v : Value), lget (lmask b L) k = some v → lget L k = some v
  | [], L, k, v, h => by
    simp only [lmask, lget_eq, List.getElem?_map] at h
    cases hq : L[k]? <;> simp [hq] at h
  | _ :: _, [], k, v, h => by simp [lmask, lget] at h
  | b :: t, x :: u, 0, v, h => by
    simp only [lmask, lget] at h ⊢
    cases b
    · cases h
    · exact h
  | b :: t, x :: u, k + 1, v, h => by
    simp only [lmask, lget] at h ⊢
    exact lmask_get t u k v h
theorem QTri.mask {pc : Nat} {L : QLoc} {S : List Value} {σ : QHeap} (b : List Bool) (h : QTri l Z n0 ad m (pc, lmask b L, S, σ) v σ') : QTri l Z n0 ad m (pc, L, S, σ) v σ' :=
  QTri.frame h fun p e R s mid args below meth c T locs cells slots C hcx X hR hL hC => ⟨C, ⟨by rw [lmask_len]; exact hL.1, fun k u hk => hL.2.1 k u (lmask_get b L k u hk), hL.2.2⟩, hC, fun target k => k⟩
theorem QTri.ret0 {pc aux : Nat} {L : QLoc} {σ : QHeap} (hc : pCode m pc = some (.return_, aux)) (hr : pRet m = none) : QTri l Z n0 ad m (pc, L, [], σ) none σ :=
  have hd : decode (pBytes m) pc = .ok (.return_, 1) := pDecN hc rfl
  ⟨Nat.le_refl _, Nat.le_refl _, fun p e R s mid args below meth c T locs cells slots C hcx X hR hF hL hC hn hc1 hsl => ⟨T, locs, by simpa using X, hR, hF, fun fs hf => X.returnOut hcx.1 (hcx.2.2.2.2.1.trans hr) (hb hcx.2.2.1 hd) hf⟩⟩
theorem QTri.retI {pc aux : Nat} {L : QLoc} {S : List Value} {σ : QHeap} {x : Int32} (hc : pCode m pc = some (.ireturn, aux)) (hr : pRet m = some .int) : QTri l Z n0 ad m (pc, L, .int x :: S, σ) (some (.int x)) σ :=
  have hd : decode (pBytes m) pc = .ok (.ireturn, 1) := pDecN hc rfl
  ⟨Nat.le_refl _, Nat.le_refl _, fun p e R s mid args below meth c T locs cells slots C hcx X hR hF hL hC hn hc1 hsl => ⟨T, locs, by simpa using X, hR, hF, fun fs hf => Jvm.RoadKit.retI X hcx.1 (hcx.2.2.2.2.1.trans hr) (hb hcx.2.2.1 hd) hf⟩⟩
theorem QTri.retZ {pc aux : Nat} {L : QLoc} {S : List Value} {σ : QHeap} {x : Int32} (hc : pCode m pc = some (.ireturn, aux)) (hr : pRet m = some .boolean) : QTri l Z n0 ad m (pc, L, .int x :: S, σ) (some (.int (x &&& 1))) σ :=
  have hd : decode (pBytes m) pc = .ok (.ireturn, 1) := pDecN hc rfl
  ⟨Nat.le_refl _, Nat.le_refl _, fun p e R s mid args below meth c T locs cells slots C hcx X hR hF hL hC hn hc1 hsl => ⟨T, locs, by simpa using X, hR, hF, fun fs hf => retN X hcx.1 (t := .boolean) (hcx.2.2.2.2.1.trans hr) (by simp) (hb hcx.2.2.1 hd) hf⟩⟩
theorem QTri.retJ {pc aux : Nat} {L : QLoc} {S : List Value} {σ : QHeap} {x : Int64} (hc : pCode m pc = some (.lreturn, aux)) (hr : pRet m = some .long) : QTri l Z n0 ad m (pc, L, .long x :: S, σ) (some (.long x)) σ :=
  have hd : decode (pBytes m) pc = .ok (.lreturn, 1) := pDecN hc rfl
  ⟨Nat.le_refl _, Nat.le_refl _, fun p e R s mid args below meth c T locs cells slots C hcx X hR hF hL hC hn hc1 hsl => ⟨T, locs, by simpa using X, hR, hF, fun fs hf => retOut X hcx.1 (t := .long) (hcx.2.2.2.2.1.trans hr) rfl (Or.inr (Or.inl ⟨rfl, rfl, _, rfl⟩)) (hb hcx.2.2.1 hd) hf⟩⟩
def LOk (ad : Nat → Addr) (L : QLoc) (C : List Slot) : Prop :=
  L.length = C.length ∧ (∀ k v, lget L k = some v → C[k]? = some (.val (qv ad v))) ∧ (∀ k w, C[k]? = some (.val w) → w.category = 2 → C[k + 1]? = some .second) ∧ ∀ k, C[k]? = some .second → ∃ j w, k = j + 1 ∧ C[j]? = some (.val w) ∧ w.category = 2
theorem LOk.base (ad : Nat → Addr) (n : Nat) : LOk ad (List.replicate n none) (List.replicate n .unset) := by
  refine ⟨by simp, fun k u h => ?_, fun k w h => ?_, fun k h => ?_⟩
  · rw [lget_eq] at h
    rcases Nat.lt_or_ge k n with q | q
    · simp [List.getElem?_replicate, q] at h
    · simp [List.getElem?_eq_none, q] at h
  · rcases Nat.lt_or_ge k n with q | q
    · simp [List.getElem?_replicate, q] at h
    · simp [List.getElem?_eq_none, q] at h
  · rcases Nat.lt_or_ge k n with q | q
    · simp [List.getElem?_replicate, q] at h
    · simp [List.getElem?_eq_none, q] at h
theorem LOk.one {L : QLoc} {C : List Slot} (H : LOk ad L C) {u : Value} (hu : u.category = 1) : LOk ad (some u :: L) (.val (qv ad u) :: C) := by
  obtain ⟨h1, h2, h3, h4⟩ := H
  refine ⟨by simp [h1], fun k w h => ?_, fun k w h hw => ?_, fun k h => ?_⟩
  · cases k with
    | zero => simp only [lget] at h; cases h; simp
    | succ k => simp only [lget] at h; simpa using h2 k w h
  · cases k with
    | zero => simp at h; rw [← h, qv_cat, hu] at hw; cases hw
    | succ k => simpa using h3 k w (by simpa using h) hw
  · cases k with
    | zero => simp at h
    | succ k =>
      obtain ⟨j, w, z1, z2, z3⟩ := h4 k (by simpa using h)
      exact ⟨j + 1, w, by omega, by simpa using z2, z3⟩
theorem LOk.two {L : QLoc} {C : List Slot} (H : LOk ad L C) {u : Value} (hu : u.category = 2) : LOk ad (some u :: none :: L) (.val (qv ad u) :: .second :: C) := by
  obtain ⟨h1, h2, h3, h4⟩ := H
  refine ⟨by simp [h1], fun k w h => ?_, fun k w h hw => ?_, fun k h => ?_⟩
  · rcases k with _ | _ | k
    · simp only [lget] at h; cases h; simp
    · simp [lget] at h
    · simp only [lget] at h; simpa using h2 k w h
  · rcases k with _ | _ | k
    · simp
    · simp at h
    · simpa using h3 k w (by simpa using h) hw
  · rcases k with _ | _ | k
    · simp at h
    · exact ⟨0, qv ad u, rfl, by simp, by rw [qv_cat]; exact hu⟩
    · obtain ⟨j, w, z1, z2, z3⟩ := h4 k (by simpa using h)
      exact ⟨j + 2, w, by omega, by simpa using z2, z3⟩
def slotsOf (u : Value) : List Slot := if u.category = 2 then [.val u, .second] else [.val u]
theorem fold_slots : ∀ (as : List Value) (acc : Array Slot), (as.foldl (fun acc v => if v.category = 2 then (acc.push (.val v)).push .second else acc.push (.val v)) acc).toList = acc.toList ++ as.flatMap slotsOf
  | [], acc => by simp
  | u :: t, acc => by
    rw [List.foldl_cons, fold_slots t]
    by_cases hc : u.category = 2 <;> simp [slotsOf, hc]
theorem slots_len : ∀ (as : List Value), (as.flatMap slotsOf).length = (as.map fun v => v.category).sum
  | [] => rfl
  | u :: t => by
    rw [List.flatMap_cons, List.length_append, slots_len t, List.map_cons, List.sum_cons]
    cases u <;> simp [slotsOf, Value.category]
theorem cats_qv (as : List Value) : ((as.map (qv ad)).map fun v => v.category).sum = (as.map fun v => v.category).sum := by
  rw [List.map_map]
  congr 1
  exact List.map_congr_left fun x _ => qv_cat ad x
theorem entry_list : ∀ (as : List Value) (n : Nat), LOk ad ((as.flatMap fun v => match v with | .long x => [some (.long x), none] | .double x => [some (.double x), none] | v => [some v]) ++ List.replicate n none) ((as.map (qv ad)).flatMap slotsOf ++ List.replicate n .unset)
  | [], n => by simpa using LOk.base ad n
  | u :: t, n => by
    have ih := entry_list t n
    cases u with
    | long x => exact LOk.two ih rfl
    | double x => exact LOk.two ih rfl
    | int x => exact LOk.one ih rfl
    | float x => exact LOk.one ih rfl
    | null => exact LOk.one ih rfl
    | ref x => exact LOk.one ih rfl
    | retAddr x => exact LOk.one ih rfl
theorem qentry_ok (as : List Value) (mx : Nat) (h : (as.map fun v => v.category).sum ≤ mx) : QLocOk ad (qentry as mx) (argsToLocals (as.map (qv ad)).toArray mx) ∧ (argsToLocals (as.map (qv ad)).toArray mx).size = mx := by
  have e : (argsToLocals (as.map (qv ad)).toArray mx).toList = (as.map (qv ad)).flatMap slotsOf ++ List.replicate (mx - (as.map fun v => v.category).sum) .unset := by
    unfold argsToLocals
    have q := fold_slots (as.map (qv ad)) #[]
    simp only [List.foldl_toArray', Array.toList_append, Array.toList_replicate]
    have q2 : ((as.map (qv ad)).foldl (fun (acc : Array Slot) (v : Value) => if v.category = 2 then (acc.push (.val v)).push .second else acc.push (.val v)) #[]).size = (as.map fun v => v.category).sum := by
      rw [← Array.length_toList, q]
      simp only [List.nil_append]
      rw [slots_len, cats_qv]
    rw [q, q2]
    simp
  have H := entry_list (ad := ad) as (mx - (as.map fun v => v.category).sum)
  rw [← e] at H
  obtain ⟨h1, h2, h3, h4⟩ := H
  have hs : (argsToLocals (as.map (qv ad)).toArray mx).size = mx := by
    rw [← Array.length_toList, e, List.length_append, slots_len, cats_qv, List.length_replicate]
    omega
  refine ⟨⟨h1.trans Array.length_toList, fun k u hk => ?_, fun k w hk hw => ?_, fun k hk => ?_⟩, hs⟩
  · have := h2 k u hk; rwa [Array.getElem?_toList] at this
  · have := h3 k w (by rw [Array.getElem?_toList]; exact hk) hw; rwa [Array.getElem?_toList] at this
  · obtain ⟨j, w, z1, z2, z3⟩ := h4 k (by rw [Array.getElem?_toList]; exact hk)
    exact ⟨j, w, z1, by rwa [Array.getElem?_toList] at z2, z3⟩
set_option maxHeartbeats 4000000 in
theorem QTri.met {k : Nat} {as : List Value} {σ σ₁ : QHeap} {w : Option Value} {h0 : Heap} (hk : k < pN) (h : QTri l Z n0 ad k (0, qentry as (pMaxL k), [], σ) w σ₁) (hR : QRep Z n0 ad h0 σ) (hlen : (as.map fun v => v.category).sum ≤ pMaxL k) (hret : pRet k = none → w = none) (ws : List Jvm.Cond) {rm : Room}
    (r1 : pFr k ≤ rm.frames) (r2 : pLo k ≤ rm.locals) (r3 : σ₁.length - σ.length ≤ rm.cells) (r4 : qhs σ₁ - qhs σ ≤ rm.slots) :
    MetFree l (pName k) (head1 (Jvm.Cond.code (pName k) (pBytes k) (pMaxL k) (pRet k) :: ws) rm) (fun a U => a = (as.map (qv ad)).toArray ∧ Z.Warmed39 U.vm ∧ U.heap = h0) (fun _ _ _ _ _ => True)
      (fun _ U o U' => ∃ v L, o = .returned v ∧ (v = w.map (qv ad) ∧ QRep Z n0 ad U'.heap σ₁ ∧ Fr n0 L) ∧ FrameEnd U o U' L (σ₁.length - σ.length) (qhs σ₁ - qhs σ)) := by
  refine MetFree.of_bodySF (plainFor_of_name (kPlain _ (pKlt k hk))) hisR ?_
  intro p e s mid args below meth c s₁ Bd hml0 hP hK
  obtain ⟨rfl, hZ, hh⟩ := hP
  have e0 : s₁.heap = h0 := by rw [← hh, Bd.state]; rfl
  obtain ⟨hl1, hl2⟩ := qentry_ok (ad := ad) as (pMaxL k) hlen
  have hX : Stand p l e rm s mid (as.map (qv ad)).toArray below meth c s₁ [] 0 0 := Stand.of_body Bd
  obtain ⟨T', locs', X', R', F', S'⟩ := h.2.2 p e rm s mid _ below meth c s₁ [] 0 0 _ ⟨Bd.exec, hZ, Bd.bytes, hml0, Bd.returns, findClass_of_methodNamed Bd.named, (name_of_methodNamed Bd.named Bd.method).1, r1, r2⟩ hX (by rw [e0]; exact hR) (Fr.nil _) hl1 (hl2.trans hml0.symm) (by rw [hh, Nat.add_zero]; exact hR.2.1.symm) (by rw [Nat.zero_add]; exact r3) (by rw [Nat.zero_add]; exact r4)
  obtain ⟨fs, hr, hrun, hended, hW, hsame⟩ := X'.leave (v := w.map (qv ad)) (fun q => by rw [hret (Bd.returns.symm.trans q)]; rfl)
  refine ⟨_, _, S' fs hr, hrun, hended, _, _, rfl, ⟨rfl, R', F'⟩, ⟨_, rfl⟩, hW, ?_⟩
  simp only [Nat.zero_add] at hsame
  exact hsame
theorem QTri.room {k : Nat} {σ σ₁ : QHeap} {rest : List Value} {R : Room} (hroom : (Nat.ble (pFr k + 1) (pFr m) && Nat.ble ((rest.map fun v => v.category).sum + (pMaxL k + 11) + pLo k) (pLo m)) = true) (hfr : pFr m ≤ R.frames) (hlo : pLo m ≤ R.locals) :
    pFr k + 1 ≤ R.frames ∧ (rest.map fun v => v.category).sum + (pMaxL k + 11) + pLo k ≤ R.locals := by
  obtain ⟨q1, q2⟩ := Bool.and_eq_true_iff.mp hroom
  exact ⟨Nat.le_trans (Nat.le_of_ble_eq_true q1) hfr, Nat.le_trans (Nat.le_of_ble_eq_true q2) hlo⟩
theorem sig_len {k : Nat} (hk : k < pN) {as : List Value} (hna : as.length = pNA k) : ∀ sig, parseMethodDescriptor (pName k).desc = some sig → (as.map (qv ad)).length = sig.parameters.length := fun sig hs => by
  have q := pSig k hk
  rw [show parseMethodDescriptor (pDs k) = some sig from hs] at q
  simp at q
  simp [hna, q]
theorem ret_map (w : Option Value) (rest : List Value) : (w.toList ++ rest).map (qv ad) = (w.map (qv ad)).toList ++ rest.map (qv ad) := by cases w <;> simp
theorem QTri.after {as0 : List Value} {pc : Nat} {L : QLoc} {S rest : List Value} {σ σ₁ : QHeap} {w : Option Value} {k : Nat} (hcal : QTri l Z n0 ad k (0, qentry as0 (pMaxL k), [], σ) w σ₁) (h : QTri l Z n0 ad m (pc + 3, L, w.toList ++ rest, σ₁) v σ')
    (hs : ∀ (p : Program) (e : Env) (R : Room) (s : State) (mid : MethodId) (args : Array Value) (below : List Frame) (meth : Method) (c : Code) (T : State) (locs : List Loc) (cells slots : Nat) (C : Array Slot),
      QCx Z p R s mid meth c m → Stand p l e R s mid args below meth c T locs cells slots → QRep Z n0 ad T.heap σ → C.size = c.maxLocals → cells + (σ₁.length - σ.length) ≤ R.cells → slots + (qhs σ₁ - qhs σ) ≤ R.slots →
      ∃ T₁ Lc, Stand p l e R s mid args below meth c T₁ (locs ++ Lc) (cells + (σ₁.length - σ.length)) (slots + (qhs σ₁ - qhs σ)) ∧ QRep Z n0 ad T₁.heap σ₁ ∧ Fr n0 Lc ∧
        ∀ target, Steps p.tables e below (T₁.setTop (mkF mid (pc + 3) C ((w.map (qv ad)).toList ++ rest.map (qv ad)))) target → Steps p.tables e below (T.setTop (mkF mid pc C (S.map (qv ad)))) target) :
    QTri l Z n0 ad m (pc, L, S, σ) v σ' := by
  refine QTri.gen h hcal.1 hcal.2.1 fun p e R s mid args below meth c T locs cells slots C hcx X hR hF hL hC hn hc1 hsl => ?_
  obtain ⟨T₁, Lc, X₁, R₁, F₁, st⟩ := hs p e R s mid args below meth c T locs cells slots C hcx X hR hC hc1 hsl
  refine ⟨T₁, locs ++ Lc, C, X₁, R₁, hF.app F₁, hL, hC, fun target q => st target ?_⟩
  rw [← ret_map]
  exact q
set_option maxHeartbeats 4000000 in
theorem QTri.callV (W : QW Z a0) {pc idx k a : Nat} {L : QLoc} {S as rest vs : List Value} {σ σ₁ : QHeap} {w : Option Value} (hc : pCode m pc = some (.invokevirtual idx, k)) (hm : (lkV.contains (pK m, idx, k) && mV.contains k) = true) (hcell : hget σ a = some (.inl vs)) (hS : S = as.reverse ++ .ref a :: rest)
    (hna : as.length = pNA k) (hlen : Nat.ble (((Value.ref a :: as).map fun v => v.category).sum) (pMaxL k) = true) (hroom : (Nat.ble (pFr k + 1) (pFr m) && Nat.ble ((rest.map fun v => v.category).sum + (pMaxL k + 11) + pLo k) (pLo m)) = true) (hrb : (w.isNone || (pRet k).isSome) = true)
    (hcal : QTri l Z n0 ad k (0, qentry (.ref a :: as) (pMaxL k), [], σ) w σ₁) (h : QTri l Z n0 ad m (pc + 3, L, w.toList ++ rest, σ₁) v σ') : QTri l Z n0 ad m (pc, L, S, σ) v σ' := by
  have hd : decode (pBytes m) pc = .ok (.invokevirtual idx, 3) := pDecN hc rfl
  subst hS
  obtain ⟨m1, m2⟩ := Bool.and_eq_true_iff.mp hm
  have m1 := mem_of_contains m1
  have m2 := mem_of_contains m2
  have hkA := (mVlt k m2).1
  have hkN := mAlt k hkA
  have hret : pRet k = none → w = none := fun q => by
    rw [q] at hrb
    cases w with
    | none => rfl
    | some w => simp at hrb
  refine QTri.after hcal h fun p e R s mid args below meth c T locs cells slots C hcx X hR hC hc1 hsl => ?_
  obtain ⟨hx, hZ, hby, hml, hret', hown, hnm, hfr, hlo⟩ := hcx
  have hd2 : decode c.code pc = .ok (.invokevirtual idx, 3) := by rw [hby]; exact hd
  obtain ⟨f1, f2⟩ := QTri.room (σ := σ) (σ₁ := σ₁) hroom hfr hlo
  obtain ⟨cq, kq, q1, q2, q3⟩ := isOf hZ rfl (hR.2.2 _ _ hcell).1
  obtain ⟨w1, w2, w3⟩ := (qw_vi W) k m2
  obtain ⟨c1, c2⟩ := (qw_cod W) k hkA
  obtain ⟨_, _, ⟨T₁, L₁, k₁, n₁⟩, -, X₁, ⟨Lc, ⟨rfl, hR1, hF1⟩, l₁, y₁, z₁⟩, st⟩ := X.virtualBack hx (own := kName (pK m)) (index := idx) (y := pName k) (z := pName k) hown (mvT hZ (qw_ml W (pK m, idx, k) m1)) (mvT hZ w1) (notFace_of_selects (args := #[]) (mvT hZ w2)) (mvT hZ w2) (mvT hZ w3) (pOwn _ (pKlt k hkN))
    (backOf (W := (rest.map fun v => v.category).sum) (rm := ⟨pFr k, σ₁.length - σ.length, qhs σ₁ - qhs σ, pLo k⟩) (Q := fun v h L => v = Option.map (qv ad) w ∧ QRep Z n0 ad h σ₁ ∧ Fr n0 L) (QTri.met hkN hcal hR (Nat.le_of_ble_eq_true hlen) hret [] (Nat.le_refl _) (Nat.le_refl _) (Nat.le_refl _) (Nat.le_refl _)) hZ c1 c2 f1 f2) q1 q3 (g := mkF mid pc C (List.map (qv ad) (as.reverse ++ .ref a :: rest))) rfl hC (Steps.refl _) (argsL := as.map (qv ad)) (rest := rest.map (qv ad)) (sig_len hkN hna) (by simp [qv]) (by show 2 * 0 + _ ≤ _; rw [cats_qv]; omega) hd2 (fun _ _ => ⟨rfl, rfl, hc1, hsl⟩)
  dsimp only [Pt.U, Pt.locs, Pt.cells, Pt.slots] at X₁ l₁ y₁ z₁ st hR1
  subst l₁ y₁ z₁
  exact ⟨T₁, Lc, X₁, hR1, hF1, fun target q => st.trans q⟩
set_option maxHeartbeats 4000000 in
theorem QTri.callI (W : QW Z a0) {pc idx k a : Nat} {L : QLoc} {S as rest : List Value} {σ σ₁ : QHeap} (hc : pCode m pc = some (.invokespecial idx, k)) (hm : (lkV.contains (pK m, idx, k) && mI.contains k) = true) (hS : S = as.reverse ++ .ref a :: rest)
    (hna : as.length = pNA k) (hlen : Nat.ble (((Value.ref a :: as).map fun v => v.category).sum) (pMaxL k) = true) (hroom : (Nat.ble (pFr k + 1) (pFr m) && Nat.ble ((rest.map fun v => v.category).sum + (pMaxL k + 11) + pLo k) (pLo m)) = true)
    (hcal : QTri l Z n0 ad k (0, qentry (.ref a :: as) (pMaxL k), [], σ) none σ₁) (h : QTri l Z n0 ad m (pc + 3, L, rest, σ₁) v σ') : QTri l Z n0 ad m (pc, L, S, σ) v σ' := by
  have hd : decode (pBytes m) pc = .ok (.invokespecial idx, 3) := pDecN hc rfl
  subst hS
  obtain ⟨m1, m2⟩ := Bool.and_eq_true_iff.mp hm
  have m1 := mem_of_contains m1
  have m2 := mem_of_contains m2
  obtain ⟨hkA, -, hin, hrt⟩ := mIlt k m2
  have hkN := mAlt k hkA
  refine QTri.after (w := none) hcal h fun p e R s mid args below meth c T locs cells slots C hcx X hR hC hc1 hsl => ?_
  obtain ⟨hx, hZ, hby, hml, hret', hown, hnm, hfr, hlo⟩ := hcx
  have hd2 : decode c.code pc = .ok (.invokespecial idx, 3) := by rw [hby]; exact hd
  obtain ⟨f1, f2⟩ := QTri.room (σ := σ) (σ₁ := σ₁) hroom hfr hlo
  obtain ⟨c1, c2⟩ := (qw_cod W) k hkA
  have c1' := c1
  rw [hrt] at c1'
  obtain ⟨_, _, ⟨T₁, L₁, k₁, n₁⟩, -, X₁, ⟨Lc, ⟨rfl, hR1, hF1⟩, l₁, y₁, z₁⟩, st⟩ := X.specialBack hx (own := kName (pK m)) (index := idx) (y := pName k) hin hown (mvT hZ (qw_ml W (pK m, idx, k) m1)) (mvT hZ ((qw_ini W) k m2)) (mvT hZ c1') (pOwn _ (pKlt k hkN))
    (backOf (W := (rest.map fun v => v.category).sum) (rm := ⟨pFr k, σ₁.length - σ.length, qhs σ₁ - qhs σ, pLo k⟩) (Q := fun v h L => v = Option.map (qv ad) none ∧ QRep Z n0 ad h σ₁ ∧ Fr n0 L) (QTri.met hkN hcal hR (Nat.le_of_ble_eq_true hlen) (fun _ => rfl) [] (Nat.le_refl _) (Nat.le_refl _) (Nat.le_refl _) (Nat.le_refl _)) hZ c1 c2 f1 f2) (g := mkF mid pc C (List.map (qv ad) (as.reverse ++ .ref a :: rest))) rfl hC (Steps.refl _) (a := ad a) (argsL := as.map (qv ad)) (rest := rest.map (qv ad)) (sig_len hkN hna) (by simp [qv]) (by show 2 * 0 + _ ≤ _; rw [cats_qv]; omega) hd2 (fun _ _ => ⟨rfl, rfl, hc1, hsl⟩)
  dsimp only [Pt.U, Pt.locs, Pt.cells, Pt.slots] at X₁ l₁ y₁ z₁ st hR1
  subst l₁ y₁ z₁
  exact ⟨T₁, Lc, X₁, hR1, hF1, fun target q => st.trans q⟩
set_option maxHeartbeats 4000000 in
theorem QTri.callP (W : QW Z a0) {pc idx k a : Nat} {L : QLoc} {S as rest vs : List Value} {σ σ₁ : QHeap} {w : Option Value} (hc : pCode m pc = some (.invokevirtual idx, k)) (hm : (lkV.contains (pK m, idx, k) && mP.contains k) = true) (hcell : hget σ a = some (.inl vs)) (hS : S = as.reverse ++ .ref a :: rest)
    (hna : as.length = pNA k) (hlen : Nat.ble (((Value.ref a :: as).map fun v => v.category).sum) (pMaxL k) = true) (hroom : (Nat.ble (pFr k + 1) (pFr m) && Nat.ble ((rest.map fun v => v.category).sum + (pMaxL k + 11) + pLo k) (pLo m)) = true) (hrb : (w.isNone || (pRet k).isSome) = true)
    (hcal : QTri l Z n0 ad k (0, qentry (.ref a :: as) (pMaxL k), [], σ) w σ₁) (h : QTri l Z n0 ad m (pc + 3, L, w.toList ++ rest, σ₁) v σ') : QTri l Z n0 ad m (pc, L, S, σ) v σ' := by
  have hd : decode (pBytes m) pc = .ok (.invokevirtual idx, 3) := pDecN hc rfl
  subst hS
  obtain ⟨m1, m2⟩ := Bool.and_eq_true_iff.mp hm
  have m1 := mem_of_contains m1
  have m2 := mem_of_contains m2
  obtain ⟨hkA, hk1⟩ := mPlt k m2
  have hkN := mAlt k hkA
  have hret : pRet k = none → w = none := fun q => by
    rw [q] at hrb
    cases w with
    | none => rfl
    | some w => simp at hrb
  refine QTri.after hcal h fun p e R s mid args below meth c T locs cells slots C hcx X hR hC hc1 hsl => ?_
  obtain ⟨hx, hZ, hby, hml, hret', hown, hnm, hfr, hlo⟩ := hcx
  have hd2 : decode c.code pc = .ok (.invokevirtual idx, 3) := by rw [hby]; exact hd
  obtain ⟨f1, f2⟩ := QTri.room (σ := σ) (σ₁ := σ₁) hroom hfr hlo
  obtain ⟨cell, h1, h2⟩ := (hR.2.2 _ _ hcell).1.cell
  obtain ⟨w1, w2⟩ := (qw_pr W) k m2
  obtain ⟨c1, c2⟩ := (qw_cod W) k hkA
  have hpr : s.PrivateAt (pName k) := Cond.privateMethod_at (mvP hZ w2 (args := #[]))
  obtain ⟨cC, kC, i1, i2, i3, i4⟩ := Cond.instantiable_spec (args := #[]) (mvT hZ (qw_inst W))
  have hsel : (Cond.selects (pName k).cls (pName k) (pName k)).before args s = true := selects_self_of_private (c := cC) (k := kC) (by show s.vm.findClass (kName (pK k)) = _; rw [hk1]; exact i1) i2 (by have q := i4.1; cases hq : kC.isInterface with | false => rfl | true => rw [hq] at q; simp at q) hpr (mvT hZ w1) (pOwn _ (pKlt k hkN))
  obtain ⟨_, _, ⟨T₁, L₁, k₁, n₁⟩, -, X₁, ⟨Lc, ⟨rfl, hR1, hF1⟩, l₁, y₁, z₁⟩, st⟩ := X.privateBack hx (own := kName (pK m)) (index := idx) (y := pName k) hown (mvT hZ (qw_ml W (pK m, idx, k) m1)) (mvT hZ w1) hsel hpr (mvT hZ c1) (pOwn _ (pKlt k hkN))
    (backOf (W := (rest.map fun v => v.category).sum) (rm := ⟨pFr k, σ₁.length - σ.length, qhs σ₁ - qhs σ, pLo k⟩) (Q := fun v h L => v = Option.map (qv ad) w ∧ QRep Z n0 ad h σ₁ ∧ Fr n0 L) (QTri.met hkN hcal hR (Nat.le_of_ble_eq_true hlen) hret [] (Nat.le_refl _) (Nat.le_refl _) (Nat.le_refl _) (Nat.le_refl _)) hZ c1 c2 f1 f2) (g := mkF mid pc C (List.map (qv ad) (as.reverse ++ .ref a :: rest))) rfl hC (Steps.refl _) (a := ad a) h1 h2 (argsL := as.map (qv ad)) (rest := rest.map (qv ad)) (sig_len hkN hna) (by simp [qv]) (by show 2 * 0 + _ ≤ _; rw [cats_qv]; omega) hd2 (fun _ _ => ⟨rfl, rfl, hc1, hsl⟩)
  dsimp only [Pt.U, Pt.locs, Pt.cells, Pt.slots] at X₁ l₁ y₁ z₁ st hR1
  subst l₁ y₁ z₁
  exact ⟨T₁, Lc, X₁, hR1, hF1, fun target q => st.trans q⟩
set_option maxHeartbeats 4000000 in
theorem QTri.callS (W : QW Z a0) {pc idx k : Nat} {L : QLoc} {S as rest : List Value} {σ σ₁ : QHeap} {w : Option Value} (hc : pCode m pc = some (.invokestatic idx, k)) (hm : (lkV.contains (pK m, idx, k) && mS.contains k) = true) (hS : S = as.reverse ++ rest)
    (hna : as.length = pNA k) (hlen : Nat.ble ((as.map fun v => v.category).sum) (pMaxL k) = true) (hroom : (Nat.ble (pFr k + 1) (pFr m) && Nat.ble ((rest.map fun v => v.category).sum + (pMaxL k + 11) + pLo k) (pLo m)) = true) (hrb : (w.isNone || (pRet k).isSome) = true)
    (hcal : QTri l Z n0 ad k (0, qentry as (pMaxL k), [], σ) w σ₁) (h : QTri l Z n0 ad m (pc + 3, L, w.toList ++ rest, σ₁) v σ') : QTri l Z n0 ad m (pc, L, S, σ) v σ' := by
  have hd : decode (pBytes m) pc = .ok (.invokestatic idx, 3) := pDecN hc rfl
  subst hS
  obtain ⟨m1, m2⟩ := Bool.and_eq_true_iff.mp hm
  have m1 := mem_of_contains m1
  have m2 := mem_of_contains m2
  have hkA := mSlt k m2
  have hkN := mAlt k hkA
  have hret : pRet k = none → w = none := fun q => by
    rw [q] at hrb
    cases w with
    | none => rfl
    | some w => simp at hrb
  refine QTri.after hcal h fun p e R s mid args below meth c T locs cells slots C hcx X hR hC hc1 hsl => ?_
  obtain ⟨hx, hZ, hby, hml, hret', hown, hnm, hfr, hlo⟩ := hcx
  have hd2 : decode c.code pc = .ok (.invokestatic idx, 3) := by rw [hby]; exact hd
  obtain ⟨f1, f2⟩ := QTri.room (σ := σ) (σ₁ := σ₁) hroom hfr hlo
  obtain ⟨c1, c2⟩ := (qw_cod W) k hkA
  obtain ⟨_, _, ⟨T₁, L₁, k₁, n₁⟩, -, X₁, ⟨Lc, ⟨rfl, hR1, hF1⟩, l₁, y₁, z₁⟩, st⟩ := Jvm.LawKit.callS X hx (own := kName (pK m)) (index := idx) (y := pName k) hown (mvT hZ (qw_ml W (pK m, idx, k) m1)) (mvT hZ ((qw_st W) k m2)) (mvT hZ c2) (mvT hZ c1) (pOwn _ (pKlt k hkN))
    (backOf (W := (rest.map fun v => v.category).sum) (rm := ⟨pFr k, σ₁.length - σ.length, qhs σ₁ - qhs σ, pLo k⟩) (Q := fun v h L => v = Option.map (qv ad) w ∧ QRep Z n0 ad h σ₁ ∧ Fr n0 L) (QTri.met hkN hcal hR (Nat.le_of_ble_eq_true hlen) hret [] (Nat.le_refl _) (Nat.le_refl _) (Nat.le_refl _) (Nat.le_refl _)) hZ c1 c2 f1 f2) (g := mkF mid pc C (List.map (qv ad) (as.reverse ++ rest))) rfl hC (argsL := as.map (qv ad)) (rest := rest.map (qv ad)) (sig_len hkN hna) (by simp) (by show 2 * 0 + _ ≤ _; rw [cats_qv]; omega) hd2 (fun _ _ => ⟨rfl, rfl, hc1, hsl⟩)
  dsimp only [Pt.U, Pt.locs, Pt.cells, Pt.slots] at X₁ l₁ y₁ z₁ st hR1
  subst l₁ y₁ z₁
  exact ⟨T₁, Lc, X₁, hR1, hF1, fun target q => st target q⟩
set_option maxHeartbeats 4000000 in
theorem QTri.callO (W : QW Z a0) {pc idx k a : Nat} {L : QLoc} {rest : List Value} {σ : QHeap} (hc : pCode m pc = some (.invokespecial idx, k)) (hm : lkO.contains (pK m, idx) = true) (hroom : (Nat.ble 1 (pFr m) && Nat.ble ((rest.map fun v => v.category).sum + 12) (pLo m)) = true)
    (h : QTri l Z n0 ad m (pc + 3, L, rest, σ) v σ') : QTri l Z n0 ad m (pc, L, .ref a :: rest, σ) v σ' :=
  have hd : decode (pBytes m) pc = .ok (.invokespecial idx, 3) := pDecN hc rfl
  QTri.pure h rfl fun p e R s mid args below meth c T locs cells slots C hcx X hR hL hC => by
    obtain ⟨hx, hZ, hby, hml, hret', hown, hnm, hfr, hlo⟩ := hcx
    have hd2 : decode c.code pc = .ok (.invokespecial idx, 3) := by rw [hby]; exact hd
    obtain ⟨q1, q2⟩ := Bool.and_eq_true_iff.mp hroom
    obtain ⟨T₁, X₁, e₁, st⟩ := initO X hx hZ hown (idx := idx) (qw_mo W (pK m, idx) (mem_of_contains hm)) ((qw_oi W)) ((qw_oc W)) rfl (g := mkF mid pc C (List.map (qv ad) (.ref a :: rest))) rfl hC rfl hd2 (Nat.le_trans (Nat.le_of_ble_eq_true q1) hfr) (W := (rest.map fun v => v.category).sum) (by show 2 * 0 + _ ≤ _; rw [cats_qv]; omega) (Nat.le_trans (Nat.le_of_ble_eq_true q2) hlo)
    exact ⟨T₁, C, X₁, e₁, hL, hC, st⟩
theorem QTri.brT (Ad : QAd n0 ad) (W : QW Z a0) {st : QSt} {t f : Nat} {L : QLoc} {S : List Value} {σ : QHeap} {b : Bool} (hs : qstep m st = some (bif b then t else f, L, S, σ)) (hb : b = true) (h : QTri l Z n0 ad m (t, L, S, σ) v σ') : QTri l Z n0 ad m st v σ' := by
  subst hb; exact QTri.step Ad W h hs
theorem QTri.brF (Ad : QAd n0 ad) (W : QW Z a0) {st : QSt} {t f : Nat} {L : QLoc} {S : List Value} {σ : QHeap} {b : Bool} (hs : qstep m st = some (bif b then t else f, L, S, σ)) (hb : b = false) (h : QTri l Z n0 ad m (f, L, S, σ) v σ') : QTri l Z n0 ad m st v σ' := by
  subst hb; exact QTri.step Ad W h hs
theorem QTri.bnd {α : Type} (Ad : QAd n0 ad) (W : QW Z a0) {st : QSt} {x : Option α} {f : α → QSt} {a : α} (hs : qstep m st = x.bind fun v => some (f v)) (hx : x = some a) (h : QTri l Z n0 ad m (f a) v σ') : QTri l Z n0 ad m st v σ' :=
  QTri.step Ad W h (by rw [hs, hx]; rfl)
theorem QTri.bndB (Ad : QAd n0 ad) (W : QW Z a0) {st : QSt} {x y : Int32} {g : Value → QSt} (hs : qstep m st = ((qboo x).bind fun y => some (Value.int y)).bind fun w => some (g w)) (hx : qboo x = some y) (h : QTri l Z n0 ad m (g (.int y)) v σ') : QTri l Z n0 ad m st v σ' :=
  QTri.step Ad W h (by rw [hs, hx]; rfl)
end Triples
/-! ## plain: branches and loops -/
theorem qite {α : Type} {c : Prop} [Decidable c] {a b : Option α} {r : α} (h : (if c then a else b) = some r) : (c ∧ a = some r) ∨ (¬ c ∧ b = some r) := by
  by_cases hc : c
  · exact Or.inl ⟨hc, by rwa [if_pos hc] at h⟩
  · exact Or.inr ⟨hc, by rwa [if_neg hc] at h⟩
def qN : Nat := 4000
def loopN {V E : Type} (B : V → Option (E ⊕ V)) : Nat → V → Option E
  | 0, _ => none
  | n + 1, v => match B v with
    | none => none
    | some (.inl e) => some e
    | some (.inr v') => loopN B n v'
theorem loopN_tri {V E : Type} {B : V → Option (E ⊕ V)} {T : V → Prop} {KE : E → Prop} (hB : ∀ v r, B v = some r → (∀ e, r = .inl e → KE e) → (∀ v', r = .inr v' → T v') → T v) : ∀ (n : Nat) (v : V) (e : E), loopN B n v = some e → KE e → T v
  | 0, _, _, h, _ => by cases h
  | n + 1, v, e, h, k => by
    simp only [loopN] at h
    split at h
    · cases h
    · rename_i e' he
      cases h
      exact hB v _ he (fun e q => by cases q; exact k) (fun v' q => by cases q)
    · rename_i v' he
      exact hB v _ he (fun e q => by cases q) (fun v'' q => by cases q; exact loopN_tri hB n v' e h k)
/-- a loop: an invariant, a measure -/
theorem loopN_inv {V E : Type} {B : V → Option (E ⊕ V)} (I : V → Prop) (P : E → Prop) (μ : V → Nat) (hB : ∀ v, I v → (∃ e, B v = some (.inl e) ∧ P e) ∨ ∃ v', B v = some (.inr v') ∧ I v' ∧ μ v' < μ v) : ∀ (n : Nat) (v : V), I v → μ v < n → ∃ e, loopN B n v = some e ∧ P e
  | 0, _, _, h => absurd h (Nat.not_lt_zero _)
  | n + 1, v, hv, hm => by
    rcases hB v hv with ⟨e, h1, h2⟩ | ⟨v', h1, h2, h3⟩
    · exact ⟨e, by simp only [loopN, h1], h2⟩
    · obtain ⟨e, g1, g2⟩ := loopN_inv I P μ hB n v' h2 (by omega)
      exact ⟨e, by simp only [loopN, h1]; exact g1, g2⟩
theorem qfn {α : Type} {P : α → Prop} : ∀ t ∈ ([] : List α), P t := fun _ h => nomatch h
theorem qfc {α : Type} {P : α → Prop} {a : α} {t : List α} (h : P a) (ht : ∀ x ∈ t, P x) : ∀ x ∈ a :: t, P x := fun x hx => by rcases List.mem_cons.mp hx with rfl | q; exact h; exact ht x q
theorem QW_ok {Z : State} {a0 : Array Value} (hw : ∀ d ∈ tables_1, d.before a0 Z = true) : QW Z a0 := by
  have w0 : ∀ k ∈ List.range nF, bif fFin k then (Jvm.Cond.laysFinal cName cName (fNm k) (fDs k)).before a0 Z = true else (Jvm.Cond.lays cName cName (fNm k) (fDs k)).before a0 Z = true :=
    show ∀ k ∈ [0, 1, 2, 3, 4, 5, 6, 7, 8, 9, 10, 11, 12], bif fFin k then (Jvm.Cond.laysFinal cName cName (fNm k) (fDs k)).before a0 Z = true else (Jvm.Cond.lays cName cName (fNm k) (fDs k)).before a0 Z = true from
    (qfc (hw _ (List.mem_of_getElem? (i := 11) rfl)) (qfc (hw _ (List.mem_of_getElem? (i := 13) rfl)) (qfc (hw _ (List.mem_of_getElem? (i := 16) rfl)) (qfc (hw _ (List.mem_of_getElem? (i := 18) rfl)) (qfc (hw _ (List.mem_of_getElem? (i := 20) rfl)) (qfc (hw _ (List.mem_of_getElem? (i := 22) rfl)) (qfc (hw _ (List.mem_of_getElem? (i := 24) rfl)) (qfc (hw _ (List.mem_of_getElem? (i := 30) rfl)) (qfc (hw _ (List.mem_of_getElem? (i := 32) rfl)) (qfc (hw _ (List.mem_of_getElem? (i := 34) rfl)) (qfc (hw _ (List.mem_of_getElem? (i := 36) rfl)) (qfc (hw _ (List.mem_of_getElem? (i := 38) rfl)) (qfc (hw _ (List.mem_of_getElem? (i := 40) rfl)) qfn)))))))))))))
  refine ⟨?_, ?_, ?_, ?_, ?_, ?_, ?_, ?_, ?_, ?_, ?_, ?_, ?_, (fun k hk => w0 k (List.mem_range.mpr hk)), ?_, ?_, ?_⟩
  · exact (qfc (hw _ (List.mem_of_getElem? (i := 10) rfl)) (qfc (hw _ (List.mem_of_getElem? (i := 12) rfl)) (qfc (hw _ (List.mem_of_getElem? (i := 15) rfl)) (qfc (hw _ (List.mem_of_getElem? (i := 17) rfl)) (qfc (hw _ (List.mem_of_getElem? (i := 19) rfl)) (qfc (hw _ (List.mem_of_getElem? (i := 21) rfl)) (qfc (hw _ (List.mem_of_getElem? (i := 23) rfl)) (qfc (hw _ (List.mem_of_getElem? (i := 29) rfl)) (qfc (hw _ (List.mem_of_getElem? (i := 31) rfl)) (qfc (hw _ (List.mem_of_getElem? (i := 33) rfl)) (qfc (hw _ (List.mem_of_getElem? (i := 35) rfl)) (qfc (hw _ (List.mem_of_getElem? (i := 37) rfl)) (qfc (hw _ (List.mem_of_getElem? (i := 39) rfl)) qfn)))))))))))))
  · exact (qfc (hw _ (List.mem_of_getElem? (i := 0) rfl)) qfn)
  · exact (qfc ⟨_, rfl, (hw _ (List.mem_of_getElem? (i := 41) rfl))⟩ qfn)
  · exact qfn
  · exact (qfc (hw _ (List.mem_of_getElem? (i := 3) rfl)) (qfc (hw _ (List.mem_of_getElem? (i := 25) rfl)) (qfc (hw _ (List.mem_of_getElem? (i := 42) rfl)) (qfc (hw _ (List.mem_of_getElem? (i := 47) rfl)) (qfc (hw _ (List.mem_of_getElem? (i := 51) rfl)) (qfc (hw _ (List.mem_of_getElem? (i := 56) rfl)) (qfc (hw _ (List.mem_of_getElem? (i := 60) rfl)) (qfc (hw _ (List.mem_of_getElem? (i := 65) rfl)) (qfc (hw _ (List.mem_of_getElem? (i := 70) rfl)) (qfc (hw _ (List.mem_of_getElem? (i := 75) rfl)) (qfc (hw _ (List.mem_of_getElem? (i := 80) rfl)) (qfc (hw _ (List.mem_of_getElem? (i := 84) rfl)) (qfc (hw _ (List.mem_of_getElem? (i := 89) rfl)) (qfc (hw _ (List.mem_of_getElem? (i := 94) rfl)) (qfc (hw _ (List.mem_of_getElem? (i := 99) rfl)) (qfc (hw _ (List.mem_of_getElem? (i := 104) rfl)) (qfc (hw _ (List.mem_of_getElem? (i := 109) rfl)) (qfc (hw _ (List.mem_of_getElem? (i := 114) rfl)) (qfc (hw _ (List.mem_of_getElem? (i := 119) rfl)) (qfc (hw _ (List.mem_of_getElem? (i := 123) rfl)) (qfc (hw _ (List.mem_of_getElem? (i := 127) rfl)) (qfc (hw _ (List.mem_of_getElem? (i := 131) rfl)) (qfc (hw _ (List.mem_of_getElem? (i := 135) rfl)) (qfc (hw _ (List.mem_of_getElem? (i := 139) rfl)) (qfc (hw _ (List.mem_of_getElem? (i := 143) rfl)) (qfc (hw _ (List.mem_of_getElem? (i := 147) rfl)) (qfc (hw _ (List.mem_of_getElem? (i := 151) rfl)) (qfc (hw _ (List.mem_of_getElem? (i := 156) rfl)) (qfc (hw _ (List.mem_of_getElem? (i := 160) rfl)) (qfc (hw _ (List.mem_of_getElem? (i := 165) rfl)) qfn))))))))))))))))))))))))))))))
  · exact (qfc (hw _ (List.mem_of_getElem? (i := 6) rfl)) qfn)
  · exact (qfc ⟨(hw _ (List.mem_of_getElem? (i := 43) rfl)), (hw _ (List.mem_of_getElem? (i := 45) rfl)), (hw _ (List.mem_of_getElem? (i := 44) rfl))⟩ (qfc ⟨(hw _ (List.mem_of_getElem? (i := 52) rfl)), (hw _ (List.mem_of_getElem? (i := 54) rfl)), (hw _ (List.mem_of_getElem? (i := 53) rfl))⟩ (qfc ⟨(hw _ (List.mem_of_getElem? (i := 61) rfl)), (hw _ (List.mem_of_getElem? (i := 63) rfl)), (hw _ (List.mem_of_getElem? (i := 62) rfl))⟩ (qfc ⟨(hw _ (List.mem_of_getElem? (i := 66) rfl)), (hw _ (List.mem_of_getElem? (i := 68) rfl)), (hw _ (List.mem_of_getElem? (i := 67) rfl))⟩ (qfc ⟨(hw _ (List.mem_of_getElem? (i := 71) rfl)), (hw _ (List.mem_of_getElem? (i := 73) rfl)), (hw _ (List.mem_of_getElem? (i := 72) rfl))⟩ (qfc ⟨(hw _ (List.mem_of_getElem? (i := 76) rfl)), (hw _ (List.mem_of_getElem? (i := 78) rfl)), (hw _ (List.mem_of_getElem? (i := 77) rfl))⟩ (qfc ⟨(hw _ (List.mem_of_getElem? (i := 85) rfl)), (hw _ (List.mem_of_getElem? (i := 87) rfl)), (hw _ (List.mem_of_getElem? (i := 86) rfl))⟩ (qfc ⟨(hw _ (List.mem_of_getElem? (i := 90) rfl)), (hw _ (List.mem_of_getElem? (i := 92) rfl)), (hw _ (List.mem_of_getElem? (i := 91) rfl))⟩ (qfc ⟨(hw _ (List.mem_of_getElem? (i := 95) rfl)), (hw _ (List.mem_of_getElem? (i := 97) rfl)), (hw _ (List.mem_of_getElem? (i := 96) rfl))⟩ (qfc ⟨(hw _ (List.mem_of_getElem? (i := 100) rfl)), (hw _ (List.mem_of_getElem? (i := 102) rfl)), (hw _ (List.mem_of_getElem? (i := 101) rfl))⟩ (qfc ⟨(hw _ (List.mem_of_getElem? (i := 105) rfl)), (hw _ (List.mem_of_getElem? (i := 107) rfl)), (hw _ (List.mem_of_getElem? (i := 106) rfl))⟩ (qfc ⟨(hw _ (List.mem_of_getElem? (i := 110) rfl)), (hw _ (List.mem_of_getElem? (i := 112) rfl)), (hw _ (List.mem_of_getElem? (i := 111) rfl))⟩ (qfc ⟨(hw _ (List.mem_of_getElem? (i := 115) rfl)), (hw _ (List.mem_of_getElem? (i := 117) rfl)), (hw _ (List.mem_of_getElem? (i := 116) rfl))⟩ (qfc ⟨(hw _ (List.mem_of_getElem? (i := 152) rfl)), (hw _ (List.mem_of_getElem? (i := 154) rfl)), (hw _ (List.mem_of_getElem? (i := 153) rfl))⟩ (qfc ⟨(hw _ (List.mem_of_getElem? (i := 161) rfl)), (hw _ (List.mem_of_getElem? (i := 163) rfl)), (hw _ (List.mem_of_getElem? (i := 162) rfl))⟩ qfn)))))))))))))))
  · exact (qfc ⟨(hw _ (List.mem_of_getElem? (i := 26) rfl)), (hw _ (List.mem_of_getElem? (i := 27) rfl))⟩ (qfc ⟨(hw _ (List.mem_of_getElem? (i := 48) rfl)), (hw _ (List.mem_of_getElem? (i := 49) rfl))⟩ (qfc ⟨(hw _ (List.mem_of_getElem? (i := 81) rfl)), (hw _ (List.mem_of_getElem? (i := 82) rfl))⟩ (qfc ⟨(hw _ (List.mem_of_getElem? (i := 120) rfl)), (hw _ (List.mem_of_getElem? (i := 121) rfl))⟩ (qfc ⟨(hw _ (List.mem_of_getElem? (i := 124) rfl)), (hw _ (List.mem_of_getElem? (i := 125) rfl))⟩ (qfc ⟨(hw _ (List.mem_of_getElem? (i := 128) rfl)), (hw _ (List.mem_of_getElem? (i := 129) rfl))⟩ (qfc ⟨(hw _ (List.mem_of_getElem? (i := 132) rfl)), (hw _ (List.mem_of_getElem? (i := 133) rfl))⟩ (qfc ⟨(hw _ (List.mem_of_getElem? (i := 136) rfl)), (hw _ (List.mem_of_getElem? (i := 137) rfl))⟩ (qfc ⟨(hw _ (List.mem_of_getElem? (i := 140) rfl)), (hw _ (List.mem_of_getElem? (i := 141) rfl))⟩ (qfc ⟨(hw _ (List.mem_of_getElem? (i := 144) rfl)), (hw _ (List.mem_of_getElem? (i := 145) rfl))⟩ (qfc ⟨(hw _ (List.mem_of_getElem? (i := 148) rfl)), (hw _ (List.mem_of_getElem? (i := 149) rfl))⟩ (qfc ⟨(hw _ (List.mem_of_getElem? (i := 157) rfl)), (hw _ (List.mem_of_getElem? (i := 158) rfl))⟩ (qfc ⟨(hw _ (List.mem_of_getElem? (i := 166) rfl)), (hw _ (List.mem_of_getElem? (i := 167) rfl))⟩ qfn)))))))))))))
  · exact (qfc (hw _ (List.mem_of_getElem? (i := 57) rfl)) qfn)
  · exact (qfc (hw _ (List.mem_of_getElem? (i := 4) rfl)) qfn)
  · exact (qfc ⟨(hw _ (List.mem_of_getElem? (i := 5) rfl)), (hw _ (List.mem_of_getElem? (i := 2) rfl))⟩ (qfc ⟨(hw _ (List.mem_of_getElem? (i := 28) rfl)), (hw _ (List.mem_of_getElem? (i := 2) rfl))⟩ (qfc ⟨(hw _ (List.mem_of_getElem? (i := 46) rfl)), (hw _ (List.mem_of_getElem? (i := 2) rfl))⟩ (qfc ⟨(hw _ (List.mem_of_getElem? (i := 50) rfl)), (hw _ (List.mem_of_getElem? (i := 2) rfl))⟩ (qfc ⟨(hw _ (List.mem_of_getElem? (i := 55) rfl)), (hw _ (List.mem_of_getElem? (i := 2) rfl))⟩ (qfc ⟨(hw _ (List.mem_of_getElem? (i := 59) rfl)), (hw _ (List.mem_of_getElem? (i := 58) rfl))⟩ (qfc ⟨(hw _ (List.mem_of_getElem? (i := 64) rfl)), (hw _ (List.mem_of_getElem? (i := 2) rfl))⟩ (qfc ⟨(hw _ (List.mem_of_getElem? (i := 69) rfl)), (hw _ (List.mem_of_getElem? (i := 2) rfl))⟩ (qfc ⟨(hw _ (List.mem_of_getElem? (i := 74) rfl)), (hw _ (List.mem_of_getElem? (i := 2) rfl))⟩ (qfc ⟨(hw _ (List.mem_of_getElem? (i := 79) rfl)), (hw _ (List.mem_of_getElem? (i := 2) rfl))⟩ (qfc ⟨(hw _ (List.mem_of_getElem? (i := 83) rfl)), (hw _ (List.mem_of_getElem? (i := 2) rfl))⟩ (qfc ⟨(hw _ (List.mem_of_getElem? (i := 88) rfl)), (hw _ (List.mem_of_getElem? (i := 2) rfl))⟩ (qfc ⟨(hw _ (List.mem_of_getElem? (i := 93) rfl)), (hw _ (List.mem_of_getElem? (i := 2) rfl))⟩ (qfc ⟨(hw _ (List.mem_of_getElem? (i := 98) rfl)), (hw _ (List.mem_of_getElem? (i := 2) rfl))⟩ (qfc ⟨(hw _ (List.mem_of_getElem? (i := 103) rfl)), (hw _ (List.mem_of_getElem? (i := 2) rfl))⟩ (qfc ⟨(hw _ (List.mem_of_getElem? (i := 108) rfl)), (hw _ (List.mem_of_getElem? (i := 2) rfl))⟩ (qfc ⟨(hw _ (List.mem_of_getElem? (i := 113) rfl)), (hw _ (List.mem_of_getElem? (i := 2) rfl))⟩ (qfc ⟨(hw _ (List.mem_of_getElem? (i := 118) rfl)), (hw _ (List.mem_of_getElem? (i := 2) rfl))⟩ (qfc ⟨(hw _ (List.mem_of_getElem? (i := 122) rfl)), (hw _ (List.mem_of_getElem? (i := 2) rfl))⟩ (qfc ⟨(hw _ (List.mem_of_getElem? (i := 126) rfl)), (hw _ (List.mem_of_getElem? (i := 2) rfl))⟩ (qfc ⟨(hw _ (List.mem_of_getElem? (i := 130) rfl)), (hw _ (List.mem_of_getElem? (i := 2) rfl))⟩ (qfc ⟨(hw _ (List.mem_of_getElem? (i := 134) rfl)), (hw _ (List.mem_of_getElem? (i := 2) rfl))⟩ (qfc ⟨(hw _ (List.mem_of_getElem? (i := 138) rfl)), (hw _ (List.mem_of_getElem? (i := 2) rfl))⟩ (qfc ⟨(hw _ (List.mem_of_getElem? (i := 142) rfl)), (hw _ (List.mem_of_getElem? (i := 2) rfl))⟩ (qfc ⟨(hw _ (List.mem_of_getElem? (i := 146) rfl)), (hw _ (List.mem_of_getElem? (i := 2) rfl))⟩ (qfc ⟨(hw _ (List.mem_of_getElem? (i := 150) rfl)), (hw _ (List.mem_of_getElem? (i := 2) rfl))⟩ (qfc ⟨(hw _ (List.mem_of_getElem? (i := 155) rfl)), (hw _ (List.mem_of_getElem? (i := 2) rfl))⟩ (qfc ⟨(hw _ (List.mem_of_getElem? (i := 159) rfl)), (hw _ (List.mem_of_getElem? (i := 2) rfl))⟩ (qfc ⟨(hw _ (List.mem_of_getElem? (i := 164) rfl)), (hw _ (List.mem_of_getElem? (i := 2) rfl))⟩ (qfc ⟨(hw _ (List.mem_of_getElem? (i := 168) rfl)), (hw _ (List.mem_of_getElem? (i := 2) rfl))⟩ qfn))))))))))))))))))))))))))))))
  · exact (hw _ (List.mem_of_getElem? (i := 7) rfl))
  · exact (hw _ (List.mem_of_getElem? (i := 8) rfl))
  · exact (hw _ (List.mem_of_getElem? (i := 1) rfl))
  · exact (hw _ (List.mem_of_getElem? (i := 2) rfl))
  · exact (qfc (hw _ (List.mem_of_getElem? (i := 9) rfl)) (qfc (hw _ (List.mem_of_getElem? (i := 14) rfl)) qfn))
abbrev Ob := List Int32 × List Int32 × List Int32 × List Int32 × List Int32 × List Int32 × List Int32 × Int32 × Int32 × Int32 × Int32 × Int32 × Int32
def f_value (o : Ob) : List Int32 := o.1
def f_version (o : Ob) : List Int32 := o.2.1
def f_active (o : Ob) : List Int32 := o.2.2.1
def f_start (o : Ob) : List Int32 := o.2.2.2.1
def f_readSet (o : Ob) : List Int32 := o.2.2.2.2.1
def f_writeSet (o : Ob) : List Int32 := o.2.2.2.2.2.1
def f_buffered (o : Ob) : List Int32 := o.2.2.2.2.2.2.1
def f_keyCount (o : Ob) : Int32 := o.2.2.2.2.2.2.2.1
def f_slotCount (o : Ob) : Int32 := o.2.2.2.2.2.2.2.2.1
def f_window (o : Ob) : Int32 := o.2.2.2.2.2.2.2.2.2.1
def f_commitCount (o : Ob) : Int32 := o.2.2.2.2.2.2.2.2.2.2.1
def f_abortCount (o : Ob) : Int32 := o.2.2.2.2.2.2.2.2.2.2.2.1
def f_lastConflict (o : Ob) : Int32 := o.2.2.2.2.2.2.2.2.2.2.2.2
def s_value (o : Ob) (v : List Int32) : Ob := (v, o.2.1, o.2.2.1, o.2.2.2.1, o.2.2.2.2.1, o.2.2.2.2.2.1, o.2.2.2.2.2.2.1, o.2.2.2.2.2.2.2.1, o.2.2.2.2.2.2.2.2.1, o.2.2.2.2.2.2.2.2.2.1, o.2.2.2.2.2.2.2.2.2.2.1, o.2.2.2.2.2.2.2.2.2.2.2.1, o.2.2.2.2.2.2.2.2.2.2.2.2)
def s_version (o : Ob) (v : List Int32) : Ob := (o.1, v, o.2.2.1, o.2.2.2.1, o.2.2.2.2.1, o.2.2.2.2.2.1, o.2.2.2.2.2.2.1, o.2.2.2.2.2.2.2.1, o.2.2.2.2.2.2.2.2.1, o.2.2.2.2.2.2.2.2.2.1, o.2.2.2.2.2.2.2.2.2.2.1, o.2.2.2.2.2.2.2.2.2.2.2.1, o.2.2.2.2.2.2.2.2.2.2.2.2)
def s_active (o : Ob) (v : List Int32) : Ob := (o.1, o.2.1, v, o.2.2.2.1, o.2.2.2.2.1, o.2.2.2.2.2.1, o.2.2.2.2.2.2.1, o.2.2.2.2.2.2.2.1, o.2.2.2.2.2.2.2.2.1, o.2.2.2.2.2.2.2.2.2.1, o.2.2.2.2.2.2.2.2.2.2.1, o.2.2.2.2.2.2.2.2.2.2.2.1, o.2.2.2.2.2.2.2.2.2.2.2.2)
def s_start (o : Ob) (v : List Int32) : Ob := (o.1, o.2.1, o.2.2.1, v, o.2.2.2.2.1, o.2.2.2.2.2.1, o.2.2.2.2.2.2.1, o.2.2.2.2.2.2.2.1, o.2.2.2.2.2.2.2.2.1, o.2.2.2.2.2.2.2.2.2.1, o.2.2.2.2.2.2.2.2.2.2.1, o.2.2.2.2.2.2.2.2.2.2.2.1, o.2.2.2.2.2.2.2.2.2.2.2.2)
def s_readSet (o : Ob) (v : List Int32) : Ob := (o.1, o.2.1, o.2.2.1, o.2.2.2.1, v, o.2.2.2.2.2.1, o.2.2.2.2.2.2.1, o.2.2.2.2.2.2.2.1, o.2.2.2.2.2.2.2.2.1, o.2.2.2.2.2.2.2.2.2.1, o.2.2.2.2.2.2.2.2.2.2.1, o.2.2.2.2.2.2.2.2.2.2.2.1, o.2.2.2.2.2.2.2.2.2.2.2.2)
def s_writeSet (o : Ob) (v : List Int32) : Ob := (o.1, o.2.1, o.2.2.1, o.2.2.2.1, o.2.2.2.2.1, v, o.2.2.2.2.2.2.1, o.2.2.2.2.2.2.2.1, o.2.2.2.2.2.2.2.2.1, o.2.2.2.2.2.2.2.2.2.1, o.2.2.2.2.2.2.2.2.2.2.1, o.2.2.2.2.2.2.2.2.2.2.2.1, o.2.2.2.2.2.2.2.2.2.2.2.2)
def s_buffered (o : Ob) (v : List Int32) : Ob := (o.1, o.2.1, o.2.2.1, o.2.2.2.1, o.2.2.2.2.1, o.2.2.2.2.2.1, v, o.2.2.2.2.2.2.2.1, o.2.2.2.2.2.2.2.2.1, o.2.2.2.2.2.2.2.2.2.1, o.2.2.2.2.2.2.2.2.2.2.1, o.2.2.2.2.2.2.2.2.2.2.2.1, o.2.2.2.2.2.2.2.2.2.2.2.2)
def s_keyCount (o : Ob) (v : Int32) : Ob := (o.1, o.2.1, o.2.2.1, o.2.2.2.1, o.2.2.2.2.1, o.2.2.2.2.2.1, o.2.2.2.2.2.2.1, v, o.2.2.2.2.2.2.2.2.1, o.2.2.2.2.2.2.2.2.2.1, o.2.2.2.2.2.2.2.2.2.2.1, o.2.2.2.2.2.2.2.2.2.2.2.1, o.2.2.2.2.2.2.2.2.2.2.2.2)
def s_slotCount (o : Ob) (v : Int32) : Ob := (o.1, o.2.1, o.2.2.1, o.2.2.2.1, o.2.2.2.2.1, o.2.2.2.2.2.1, o.2.2.2.2.2.2.1, o.2.2.2.2.2.2.2.1, v, o.2.2.2.2.2.2.2.2.2.1, o.2.2.2.2.2.2.2.2.2.2.1, o.2.2.2.2.2.2.2.2.2.2.2.1, o.2.2.2.2.2.2.2.2.2.2.2.2)
def s_window (o : Ob) (v : Int32) : Ob := (o.1, o.2.1, o.2.2.1, o.2.2.2.1, o.2.2.2.2.1, o.2.2.2.2.2.1, o.2.2.2.2.2.2.1, o.2.2.2.2.2.2.2.1, o.2.2.2.2.2.2.2.2.1, v, o.2.2.2.2.2.2.2.2.2.2.1, o.2.2.2.2.2.2.2.2.2.2.2.1, o.2.2.2.2.2.2.2.2.2.2.2.2)
def s_commitCount (o : Ob) (v : Int32) : Ob := (o.1, o.2.1, o.2.2.1, o.2.2.2.1, o.2.2.2.2.1, o.2.2.2.2.2.1, o.2.2.2.2.2.2.1, o.2.2.2.2.2.2.2.1, o.2.2.2.2.2.2.2.2.1, o.2.2.2.2.2.2.2.2.2.1, v, o.2.2.2.2.2.2.2.2.2.2.2.1, o.2.2.2.2.2.2.2.2.2.2.2.2)
def s_abortCount (o : Ob) (v : Int32) : Ob := (o.1, o.2.1, o.2.2.1, o.2.2.2.1, o.2.2.2.2.1, o.2.2.2.2.2.1, o.2.2.2.2.2.2.1, o.2.2.2.2.2.2.2.1, o.2.2.2.2.2.2.2.2.1, o.2.2.2.2.2.2.2.2.2.1, o.2.2.2.2.2.2.2.2.2.2.1, v, o.2.2.2.2.2.2.2.2.2.2.2.2)
def s_lastConflict (o : Ob) (v : Int32) : Ob := (o.1, o.2.1, o.2.2.1, o.2.2.2.1, o.2.2.2.2.1, o.2.2.2.2.2.1, o.2.2.2.2.2.2.1, o.2.2.2.2.2.2.2.1, o.2.2.2.2.2.2.2.2.1, o.2.2.2.2.2.2.2.2.2.1, o.2.2.2.2.2.2.2.2.2.2.1, o.2.2.2.2.2.2.2.2.2.2.2.1, v)
def ob0 : Ob := ([], [], [], [], [], [], [], 0, 0, 0, 0, 0, 0)
section Walks
variable {l : Launch} {Z : State} {n0 : Nat} {ad : Nat → Addr} {a0 : Array Value}
set_option maxRecDepth 20000
def H0 (s : List Int32) (o0 : Ob) : QHeap := [.inr (.inl (.int, s)), .inl [.ref 2, .ref 3, .ref 4, .ref 5, .ref 6, .ref 7, .ref 8, .int (f_keyCount o0), .int (f_slotCount o0), .int (f_window o0), .int (f_commitCount o0), .int (f_abortCount o0), .int (f_lastConflict o0)], .inr (.inl (.int, (f_value o0))), .inr (.inl (.int, (f_version o0))), .inr (.inl (.boolean, (f_active o0))), .inr (.inl (.int, (f_start o0))), .inr (.inl (.int, (f_readSet o0))), .inr (.inl (.int, (f_writeSet o0))), .inr (.inl (.int, (f_buffered o0)))]
/-- clamp(III)I -/
def F2 (x1 : Int32) (x2 : Int32) (x3 : Int32) : Option (Int32) :=
  (if x1 < x2 then some x2 else (if x3 < x1 then some x3 else some x1))
theorem tF2 (Ad : QAd n0 ad) (W : QW Z a0) {a : Nat} {σ : QHeap} (x1 : Int32) (x2 : Int32) (x3 : Int32) {r : Int32} (h : F2 x1 x2 x3 = some r) : QTri l Z n0 ad 2 (0, qentry [.ref a, .int x1, .int x2, .int x3] (pMaxL 2), [], σ) (some (Value.int r)) σ := by
  unfold F2 at h
  refine QTri.steps Ad W 2 (st' := (2, [some (.ref a), some (.int x1), some (.int x2), some (.int x3)], [.int x2, .int x1], σ)) rfl ?_
  rcases qite h with ⟨hc1, h⟩ | ⟨hc1, h⟩
  · refine QTri.brF Ad W (t := 7) (f := 5) (L := [some (.ref a), some (.int x1), some (.int x2), some (.int x3)]) (S := []) (σ := σ) rfl (XT.ii_ge_f hc1) ?_
    refine QTri.steps Ad W 1 (st' := (6, [some (.ref a), some (.int x1), some (.int x2), some (.int x3)], [.int x2], σ)) rfl ?_
    obtain rfl := Option.some.inj h
    exact QTri.retI rfl rfl
  · refine QTri.brT Ad W (t := 7) (f := 5) (L := [some (.ref a), some (.int x1), some (.int x2), some (.int x3)]) (S := []) (σ := σ) rfl (XT.ii_ge_t hc1) ?_
    refine QTri.steps Ad W 2 (st' := (9, [some (.ref a), some (.int x1), some (.int x2), some (.int x3)], [.int x3, .int x1], σ)) rfl ?_
    rcases qite h with ⟨hc2, h⟩ | ⟨hc2, h⟩
    · refine QTri.brF Ad W (t := 14) (f := 12) (L := [some (.ref a), some (.int x1), some (.int x2), some (.int x3)]) (S := []) (σ := σ) rfl (XT.ii_le_f hc2) ?_
      refine QTri.steps Ad W 1 (st' := (13, [some (.ref a), some (.int x1), some (.int x2), some (.int x3)], [.int x3], σ)) rfl ?_
      obtain rfl := Option.some.inj h
      exact QTri.retI rfl rfl
    · refine QTri.brT Ad W (t := 14) (f := 12) (L := [some (.ref a), some (.int x1), some (.int x2), some (.int x3)]) (S := []) (σ := σ) rfl (XT.ii_le_t hc2) ?_
      refine QTri.steps Ad W 1 (st' := (15, [some (.ref a), some (.int x1), some (.int x2), some (.int x3)], [.int x1], σ)) rfl ?_
      obtain rfl := Option.some.inj h
      exact QTri.retI rfl rfl
/-- init(III)V -/
def F1 (x1 : Int32) (x2 : Int32) (x3 : Int32) : Option (Ob) :=
  (F2 x1 (8 : Int32) (32 : Int32)).bind fun r3 => (F2 x2 (2 : Int32) (8 : Int32)).bind fun r4 => (F2 x3 (2 : Int32) (16 : Int32)).bind fun r5 => some (s_lastConflict (s_abortCount (s_commitCount (s_window (s_slotCount (s_keyCount (s_buffered (s_writeSet (s_readSet (s_start (s_active (s_version (s_value ob0 (List.replicate 32 0)) (List.replicate 32 0)) (List.replicate 8 0)) (List.replicate 8 0)) (List.replicate 8 0)) (List.replicate 8 0)) (List.replicate 256 0)) r3) r4) r5) (0 : Int32)) (0 : Int32)) (-1 : Int32))
theorem tF1 (Ad : QAd n0 ad) (W : QW Z a0) (s : List Int32) (x1 : Int32) (x2 : Int32) (x3 : Int32) {r : Ob} (h : F1 x1 x2 x3 = some r) : QTri l Z n0 ad 1 (0, qentry [.ref 1, .int x1, .int x2, .int x3] (pMaxL 1), [], [.inr (.inl (.int, s)), .inl [.null, .null, .null, .null, .null, .null, .null, .int (f_keyCount ob0), .int (f_slotCount ob0), .int (f_window ob0), .int (f_commitCount ob0), .int (f_abortCount ob0), .int (f_lastConflict ob0)]]) (none : Option Value) (H0 s r) := by
  unfold F1 at h
  refine QTri.steps Ad W 1 (st' := (1, [some (.ref 1), some (.int x1), some (.int x2), some (.int x3)], [.ref 1], [.inr (.inl (.int, s)), .inl [.null, .null, .null, .null, .null, .null, .null, .int (f_keyCount ob0), .int (f_slotCount ob0), .int (f_window ob0), .int (f_commitCount ob0), .int (f_abortCount ob0), .int (f_lastConflict ob0)]])) rfl ?_
  refine QTri.callO W rfl rfl rfl ?_
  refine QTri.steps Ad W 3 (st' := (9, [some (.ref 1), some (.int x1), some (.int x2), some (.int x3)], [.ref 2, .ref 1], [.inr (.inl (.int, s)), .inl [.null, .null, .null, .null, .null, .null, .null, .int (f_keyCount ob0), .int (f_slotCount ob0), .int (f_window ob0), .int (f_commitCount ob0), .int (f_abortCount ob0), .int (f_lastConflict ob0)], .inr (.inl (.int, (List.replicate 32 0)))])) rfl ?_
  refine QTri.steps Ad W 1 (st' := (12, [some (.ref 1), some (.int x1), some (.int x2), some (.int x3)], [], [.inr (.inl (.int, s)), .inl [.ref 2, .null, .null, .null, .null, .null, .null, .int (f_keyCount ob0), .int (f_slotCount ob0), .int (f_window ob0), .int (f_commitCount ob0), .int (f_abortCount ob0), .int (f_lastConflict ob0)], .inr (.inl (.int, (List.replicate 32 0)))])) rfl ?_
  refine QTri.steps Ad W 3 (st' := (17, [some (.ref 1), some (.int x1), some (.int x2), some (.int x3)], [.ref 3, .ref 1], [.inr (.inl (.int, s)), .inl [.ref 2, .null, .null, .null, .null, .null, .null, .int (f_keyCount ob0), .int (f_slotCount ob0), .int (f_window ob0), .int (f_commitCount ob0), .int (f_abortCount ob0), .int (f_lastConflict ob0)], .inr (.inl (.int, (List.replicate 32 0))), .inr (.inl (.int, (List.replicate 32 0)))])) rfl ?_
  refine QTri.steps Ad W 1 (st' := (20, [some (.ref 1), some (.int x1), some (.int x2), some (.int x3)], [], [.inr (.inl (.int, s)), .inl [.ref 2, .ref 3, .null, .null, .null, .null, .null, .int (f_keyCount ob0), .int (f_slotCount ob0), .int (f_window ob0), .int (f_commitCount ob0), .int (f_abortCount ob0), .int (f_lastConflict ob0)], .inr (.inl (.int, (List.replicate 32 0))), .inr (.inl (.int, (List.replicate 32 0)))])) rfl ?_
  refine QTri.steps Ad W 3 (st' := (25, [some (.ref 1), some (.int x1), some (.int x2), some (.int x3)], [.ref 4, .ref 1], [.inr (.inl (.int, s)), .inl [.ref 2, .ref 3, .null, .null, .null, .null, .null, .int (f_keyCount ob0), .int (f_slotCount ob0), .int (f_window ob0), .int (f_commitCount ob0), .int (f_abortCount ob0), .int (f_lastConflict ob0)], .inr (.inl (.int, (List.replicate 32 0))), .inr (.inl (.int, (List.replicate 32 0))), .inr (.inl (.boolean, (List.replicate 8 0)))])) rfl ?_
  refine QTri.steps Ad W 1 (st' := (28, [some (.ref 1), some (.int x1), some (.int x2), some (.int x3)], [], [.inr (.inl (.int, s)), .inl [.ref 2, .ref 3, .ref 4, .null, .null, .null, .null, .int (f_keyCount ob0), .int (f_slotCount ob0), .int (f_window ob0), .int (f_commitCount ob0), .int (f_abortCount ob0), .int (f_lastConflict ob0)], .inr (.inl (.int, (List.replicate 32 0))), .inr (.inl (.int, (List.replicate 32 0))), .inr (.inl (.boolean, (List.replicate 8 0)))])) rfl ?_
  refine QTri.steps Ad W 3 (st' := (33, [some (.ref 1), some (.int x1), some (.int x2), some (.int x3)], [.ref 5, .ref 1], [.inr (.inl (.int, s)), .inl [.ref 2, .ref 3, .ref 4, .null, .null, .null, .null, .int (f_keyCount ob0), .int (f_slotCount ob0), .int (f_window ob0), .int (f_commitCount ob0), .int (f_abortCount ob0), .int (f_lastConflict ob0)], .inr (.inl (.int, (List.replicate 32 0))), .inr (.inl (.int, (List.replicate 32 0))), .inr (.inl (.boolean, (List.replicate 8 0))), .inr (.inl (.int, (List.replicate 8 0)))])) rfl ?_
  refine QTri.steps Ad W 1 (st' := (36, [some (.ref 1), some (.int x1), some (.int x2), some (.int x3)], [], [.inr (.inl (.int, s)), .inl [.ref 2, .ref 3, .ref 4, .ref 5, .null, .null, .null, .int (f_keyCount ob0), .int (f_slotCount ob0), .int (f_window ob0), .int (f_commitCount ob0), .int (f_abortCount ob0), .int (f_lastConflict ob0)], .inr (.inl (.int, (List.replicate 32 0))), .inr (.inl (.int, (List.replicate 32 0))), .inr (.inl (.boolean, (List.replicate 8 0))), .inr (.inl (.int, (List.replicate 8 0)))])) rfl ?_
  refine QTri.steps Ad W 3 (st' := (41, [some (.ref 1), some (.int x1), some (.int x2), some (.int x3)], [.ref 6, .ref 1], [.inr (.inl (.int, s)), .inl [.ref 2, .ref 3, .ref 4, .ref 5, .null, .null, .null, .int (f_keyCount ob0), .int (f_slotCount ob0), .int (f_window ob0), .int (f_commitCount ob0), .int (f_abortCount ob0), .int (f_lastConflict ob0)], .inr (.inl (.int, (List.replicate 32 0))), .inr (.inl (.int, (List.replicate 32 0))), .inr (.inl (.boolean, (List.replicate 8 0))), .inr (.inl (.int, (List.replicate 8 0))), .inr (.inl (.int, (List.replicate 8 0)))])) rfl ?_
  refine QTri.steps Ad W 1 (st' := (44, [some (.ref 1), some (.int x1), some (.int x2), some (.int x3)], [], [.inr (.inl (.int, s)), .inl [.ref 2, .ref 3, .ref 4, .ref 5, .ref 6, .null, .null, .int (f_keyCount ob0), .int (f_slotCount ob0), .int (f_window ob0), .int (f_commitCount ob0), .int (f_abortCount ob0), .int (f_lastConflict ob0)], .inr (.inl (.int, (List.replicate 32 0))), .inr (.inl (.int, (List.replicate 32 0))), .inr (.inl (.boolean, (List.replicate 8 0))), .inr (.inl (.int, (List.replicate 8 0))), .inr (.inl (.int, (List.replicate 8 0)))])) rfl ?_
  refine QTri.steps Ad W 3 (st' := (49, [some (.ref 1), some (.int x1), some (.int x2), some (.int x3)], [.ref 7, .ref 1], [.inr (.inl (.int, s)), .inl [.ref 2, .ref 3, .ref 4, .ref 5, .ref 6, .null, .null, .int (f_keyCount ob0), .int (f_slotCount ob0), .int (f_window ob0), .int (f_commitCount ob0), .int (f_abortCount ob0), .int (f_lastConflict ob0)], .inr (.inl (.int, (List.replicate 32 0))), .inr (.inl (.int, (List.replicate 32 0))), .inr (.inl (.boolean, (List.replicate 8 0))), .inr (.inl (.int, (List.replicate 8 0))), .inr (.inl (.int, (List.replicate 8 0))), .inr (.inl (.int, (List.replicate 8 0)))])) rfl ?_
  refine QTri.steps Ad W 1 (st' := (52, [some (.ref 1), some (.int x1), some (.int x2), some (.int x3)], [], [.inr (.inl (.int, s)), .inl [.ref 2, .ref 3, .ref 4, .ref 5, .ref 6, .ref 7, .null, .int (f_keyCount ob0), .int (f_slotCount ob0), .int (f_window ob0), .int (f_commitCount ob0), .int (f_abortCount ob0), .int (f_lastConflict ob0)], .inr (.inl (.int, (List.replicate 32 0))), .inr (.inl (.int, (List.replicate 32 0))), .inr (.inl (.boolean, (List.replicate 8 0))), .inr (.inl (.int, (List.replicate 8 0))), .inr (.inl (.int, (List.replicate 8 0))), .inr (.inl (.int, (List.replicate 8 0)))])) rfl ?_
  refine QTri.steps Ad W 3 (st' := (58, [some (.ref 1), some (.int x1), some (.int x2), some (.int x3)], [.ref 8, .ref 1], [.inr (.inl (.int, s)), .inl [.ref 2, .ref 3, .ref 4, .ref 5, .ref 6, .ref 7, .null, .int (f_keyCount ob0), .int (f_slotCount ob0), .int (f_window ob0), .int (f_commitCount ob0), .int (f_abortCount ob0), .int (f_lastConflict ob0)], .inr (.inl (.int, (List.replicate 32 0))), .inr (.inl (.int, (List.replicate 32 0))), .inr (.inl (.boolean, (List.replicate 8 0))), .inr (.inl (.int, (List.replicate 8 0))), .inr (.inl (.int, (List.replicate 8 0))), .inr (.inl (.int, (List.replicate 8 0))), .inr (.inl (.int, (List.replicate 256 0)))])) rfl ?_
  refine QTri.steps Ad W 1 (st' := (61, [some (.ref 1), some (.int x1), some (.int x2), some (.int x3)], [], [.inr (.inl (.int, s)), .inl [.ref 2, .ref 3, .ref 4, .ref 5, .ref 6, .ref 7, .ref 8, .int (f_keyCount ob0), .int (f_slotCount ob0), .int (f_window ob0), .int (f_commitCount ob0), .int (f_abortCount ob0), .int (f_lastConflict ob0)], .inr (.inl (.int, (List.replicate 32 0))), .inr (.inl (.int, (List.replicate 32 0))), .inr (.inl (.boolean, (List.replicate 8 0))), .inr (.inl (.int, (List.replicate 8 0))), .inr (.inl (.int, (List.replicate 8 0))), .inr (.inl (.int, (List.replicate 8 0))), .inr (.inl (.int, (List.replicate 256 0)))])) rfl ?_
  refine QTri.steps Ad W 5 (st' := (68, [some (.ref 1), some (.int x1), some (.int x2), some (.int x3)], [.int (32 : Int32), .int (8 : Int32), .int x1, .ref 1, .ref 1], [.inr (.inl (.int, s)), .inl [.ref 2, .ref 3, .ref 4, .ref 5, .ref 6, .ref 7, .ref 8, .int (f_keyCount ob0), .int (f_slotCount ob0), .int (f_window ob0), .int (f_commitCount ob0), .int (f_abortCount ob0), .int (f_lastConflict ob0)], .inr (.inl (.int, (List.replicate 32 0))), .inr (.inl (.int, (List.replicate 32 0))), .inr (.inl (.boolean, (List.replicate 8 0))), .inr (.inl (.int, (List.replicate 8 0))), .inr (.inl (.int, (List.replicate 8 0))), .inr (.inl (.int, (List.replicate 8 0))), .inr (.inl (.int, (List.replicate 256 0)))])) rfl ?_
  obtain ⟨r3, hr3, h⟩ := Option.bind_eq_some_iff.mp h
  refine QTri.callP W (a := 1) (as := [.int x1, .int (8 : Int32), .int (32 : Int32)]) (rest := [.ref 1]) (w := (some (.int r3))) (σ₁ := [.inr (.inl (.int, s)), .inl [.ref 2, .ref 3, .ref 4, .ref 5, .ref 6, .ref 7, .ref 8, .int (f_keyCount ob0), .int (f_slotCount ob0), .int (f_window ob0), .int (f_commitCount ob0), .int (f_abortCount ob0), .int (f_lastConflict ob0)], .inr (.inl (.int, (List.replicate 32 0))), .inr (.inl (.int, (List.replicate 32 0))), .inr (.inl (.boolean, (List.replicate 8 0))), .inr (.inl (.int, (List.replicate 8 0))), .inr (.inl (.int, (List.replicate 8 0))), .inr (.inl (.int, (List.replicate 8 0))), .inr (.inl (.int, (List.replicate 256 0)))]) rfl rfl rfl rfl rfl rfl rfl rfl (tF2 Ad W x1 (8 : Int32) (32 : Int32) hr3) ?_
  refine QTri.steps Ad W 1 (st' := (74, [some (.ref 1), some (.int x1), some (.int x2), some (.int x3)], [], [.inr (.inl (.int, s)), .inl [.ref 2, .ref 3, .ref 4, .ref 5, .ref 6, .ref 7, .ref 8, .int r3, .int (f_slotCount ob0), .int (f_window ob0), .int (f_commitCount ob0), .int (f_abortCount ob0), .int (f_lastConflict ob0)], .inr (.inl (.int, (List.replicate 32 0))), .inr (.inl (.int, (List.replicate 32 0))), .inr (.inl (.boolean, (List.replicate 8 0))), .inr (.inl (.int, (List.replicate 8 0))), .inr (.inl (.int, (List.replicate 8 0))), .inr (.inl (.int, (List.replicate 8 0))), .inr (.inl (.int, (List.replicate 256 0)))])) rfl ?_
  refine QTri.steps Ad W 5 (st' := (80, [some (.ref 1), some (.int x1), some (.int x2), some (.int x3)], [.int (8 : Int32), .int (2 : Int32), .int x2, .ref 1, .ref 1], [.inr (.inl (.int, s)), .inl [.ref 2, .ref 3, .ref 4, .ref 5, .ref 6, .ref 7, .ref 8, .int r3, .int (f_slotCount ob0), .int (f_window ob0), .int (f_commitCount ob0), .int (f_abortCount ob0), .int (f_lastConflict ob0)], .inr (.inl (.int, (List.replicate 32 0))), .inr (.inl (.int, (List.replicate 32 0))), .inr (.inl (.boolean, (List.replicate 8 0))), .inr (.inl (.int, (List.replicate 8 0))), .inr (.inl (.int, (List.replicate 8 0))), .inr (.inl (.int, (List.replicate 8 0))), .inr (.inl (.int, (List.replicate 256 0)))])) rfl ?_
  obtain ⟨r4, hr4, h⟩ := Option.bind_eq_some_iff.mp h
  refine QTri.callP W (a := 1) (as := [.int x2, .int (2 : Int32), .int (8 : Int32)]) (rest := [.ref 1]) (w := (some (.int r4))) (σ₁ := [.inr (.inl (.int, s)), .inl [.ref 2, .ref 3, .ref 4, .ref 5, .ref 6, .ref 7, .ref 8, .int r3, .int (f_slotCount ob0), .int (f_window ob0), .int (f_commitCount ob0), .int (f_abortCount ob0), .int (f_lastConflict ob0)], .inr (.inl (.int, (List.replicate 32 0))), .inr (.inl (.int, (List.replicate 32 0))), .inr (.inl (.boolean, (List.replicate 8 0))), .inr (.inl (.int, (List.replicate 8 0))), .inr (.inl (.int, (List.replicate 8 0))), .inr (.inl (.int, (List.replicate 8 0))), .inr (.inl (.int, (List.replicate 256 0)))]) rfl rfl rfl rfl rfl rfl rfl rfl (tF2 Ad W x2 (2 : Int32) (8 : Int32) hr4) ?_
  refine QTri.steps Ad W 1 (st' := (86, [some (.ref 1), some (.int x1), some (.int x2), some (.int x3)], [], [.inr (.inl (.int, s)), .inl [.ref 2, .ref 3, .ref 4, .ref 5, .ref 6, .ref 7, .ref 8, .int r3, .int r4, .int (f_window ob0), .int (f_commitCount ob0), .int (f_abortCount ob0), .int (f_lastConflict ob0)], .inr (.inl (.int, (List.replicate 32 0))), .inr (.inl (.int, (List.replicate 32 0))), .inr (.inl (.boolean, (List.replicate 8 0))), .inr (.inl (.int, (List.replicate 8 0))), .inr (.inl (.int, (List.replicate 8 0))), .inr (.inl (.int, (List.replicate 8 0))), .inr (.inl (.int, (List.replicate 256 0)))])) rfl ?_
  refine QTri.steps Ad W 5 (st' := (92, [some (.ref 1), some (.int x1), some (.int x2), some (.int x3)], [.int (16 : Int32), .int (2 : Int32), .int x3, .ref 1, .ref 1], [.inr (.inl (.int, s)), .inl [.ref 2, .ref 3, .ref 4, .ref 5, .ref 6, .ref 7, .ref 8, .int r3, .int r4, .int (f_window ob0), .int (f_commitCount ob0), .int (f_abortCount ob0), .int (f_lastConflict ob0)], .inr (.inl (.int, (List.replicate 32 0))), .inr (.inl (.int, (List.replicate 32 0))), .inr (.inl (.boolean, (List.replicate 8 0))), .inr (.inl (.int, (List.replicate 8 0))), .inr (.inl (.int, (List.replicate 8 0))), .inr (.inl (.int, (List.replicate 8 0))), .inr (.inl (.int, (List.replicate 256 0)))])) rfl ?_
  obtain ⟨r5, hr5, h⟩ := Option.bind_eq_some_iff.mp h
  refine QTri.callP W (a := 1) (as := [.int x3, .int (2 : Int32), .int (16 : Int32)]) (rest := [.ref 1]) (w := (some (.int r5))) (σ₁ := [.inr (.inl (.int, s)), .inl [.ref 2, .ref 3, .ref 4, .ref 5, .ref 6, .ref 7, .ref 8, .int r3, .int r4, .int (f_window ob0), .int (f_commitCount ob0), .int (f_abortCount ob0), .int (f_lastConflict ob0)], .inr (.inl (.int, (List.replicate 32 0))), .inr (.inl (.int, (List.replicate 32 0))), .inr (.inl (.boolean, (List.replicate 8 0))), .inr (.inl (.int, (List.replicate 8 0))), .inr (.inl (.int, (List.replicate 8 0))), .inr (.inl (.int, (List.replicate 8 0))), .inr (.inl (.int, (List.replicate 256 0)))]) rfl rfl rfl rfl rfl rfl rfl rfl (tF2 Ad W x3 (2 : Int32) (16 : Int32) hr5) ?_
  refine QTri.steps Ad W 1 (st' := (98, [some (.ref 1), some (.int x1), some (.int x2), some (.int x3)], [], [.inr (.inl (.int, s)), .inl [.ref 2, .ref 3, .ref 4, .ref 5, .ref 6, .ref 7, .ref 8, .int r3, .int r4, .int r5, .int (f_commitCount ob0), .int (f_abortCount ob0), .int (f_lastConflict ob0)], .inr (.inl (.int, (List.replicate 32 0))), .inr (.inl (.int, (List.replicate 32 0))), .inr (.inl (.boolean, (List.replicate 8 0))), .inr (.inl (.int, (List.replicate 8 0))), .inr (.inl (.int, (List.replicate 8 0))), .inr (.inl (.int, (List.replicate 8 0))), .inr (.inl (.int, (List.replicate 256 0)))])) rfl ?_
  refine QTri.steps Ad W 3 (st' := (103, [some (.ref 1), some (.int x1), some (.int x2), some (.int x3)], [], [.inr (.inl (.int, s)), .inl [.ref 2, .ref 3, .ref 4, .ref 5, .ref 6, .ref 7, .ref 8, .int r3, .int r4, .int r5, .int (0 : Int32), .int (f_abortCount ob0), .int (f_lastConflict ob0)], .inr (.inl (.int, (List.replicate 32 0))), .inr (.inl (.int, (List.replicate 32 0))), .inr (.inl (.boolean, (List.replicate 8 0))), .inr (.inl (.int, (List.replicate 8 0))), .inr (.inl (.int, (List.replicate 8 0))), .inr (.inl (.int, (List.replicate 8 0))), .inr (.inl (.int, (List.replicate 256 0)))])) rfl ?_
  refine QTri.steps Ad W 3 (st' := (108, [some (.ref 1), some (.int x1), some (.int x2), some (.int x3)], [], [.inr (.inl (.int, s)), .inl [.ref 2, .ref 3, .ref 4, .ref 5, .ref 6, .ref 7, .ref 8, .int r3, .int r4, .int r5, .int (0 : Int32), .int (0 : Int32), .int (f_lastConflict ob0)], .inr (.inl (.int, (List.replicate 32 0))), .inr (.inl (.int, (List.replicate 32 0))), .inr (.inl (.boolean, (List.replicate 8 0))), .inr (.inl (.int, (List.replicate 8 0))), .inr (.inl (.int, (List.replicate 8 0))), .inr (.inl (.int, (List.replicate 8 0))), .inr (.inl (.int, (List.replicate 256 0)))])) rfl ?_
  refine QTri.steps Ad W 3 (st' := (113, [some (.ref 1), some (.int x1), some (.int x2), some (.int x3)], [], [.inr (.inl (.int, s)), .inl [.ref 2, .ref 3, .ref 4, .ref 5, .ref 6, .ref 7, .ref 8, .int r3, .int r4, .int r5, .int (0 : Int32), .int (0 : Int32), .int (-1 : Int32)], .inr (.inl (.int, (List.replicate 32 0))), .inr (.inl (.int, (List.replicate 32 0))), .inr (.inl (.boolean, (List.replicate 8 0))), .inr (.inl (.int, (List.replicate 8 0))), .inr (.inl (.int, (List.replicate 8 0))), .inr (.inl (.int, (List.replicate 8 0))), .inr (.inl (.int, (List.replicate 256 0)))])) rfl ?_
  have E6 : ([.inr (.inl (.int, s)), .inl [.ref 2, .ref 3, .ref 4, .ref 5, .ref 6, .ref 7, .ref 8, .int r3, .int r4, .int r5, .int (0 : Int32), .int (0 : Int32), .int (-1 : Int32)], .inr (.inl (.int, (List.replicate 32 0))), .inr (.inl (.int, (List.replicate 32 0))), .inr (.inl (.boolean, (List.replicate 8 0))), .inr (.inl (.int, (List.replicate 8 0))), .inr (.inl (.int, (List.replicate 8 0))), .inr (.inl (.int, (List.replicate 8 0))), .inr (.inl (.int, (List.replicate 256 0)))] : QHeap) = (H0 s (s_lastConflict (s_abortCount (s_commitCount (s_window (s_slotCount (s_keyCount (s_buffered (s_writeSet (s_readSet (s_start (s_active (s_version (s_value ob0 (List.replicate 32 0)) (List.replicate 32 0)) (List.replicate 8 0)) (List.replicate 8 0)) (List.replicate 8 0)) (List.replicate 8 0)) (List.replicate 256 0)) r3) r4) r5) (0 : Int32)) (0 : Int32)) (-1 : Int32))) := by dsimp only [H0, f_value, f_version, f_active, f_start, f_readSet, f_writeSet, f_buffered, f_keyCount, f_slotCount, f_window, f_commitCount, f_abortCount, f_lastConflict, s_value, s_version, s_active, s_start, s_readSet, s_writeSet, s_buffered, s_keyCount, s_slotCount, s_window, s_commitCount, s_abortCount, s_lastConflict, ob0]
  rw [E6]
  obtain rfl := Option.some.inj h
  exact QTri.ret0 rfl rfl
def H1 (s : List Int32) (o0 o1 : Ob) : QHeap := [.inr (.inl (.int, s)), .inl [.ref 2, .ref 3, .ref 4, .ref 5, .ref 6, .ref 7, .ref 8, .int (f_keyCount o0), .int (f_slotCount o0), .int (f_window o0), .int (f_commitCount o0), .int (f_abortCount o0), .int (f_lastConflict o0)], .inr (.inl (.int, (f_value o0))), .inr (.inl (.int, (f_version o0))), .inr (.inl (.boolean, (f_active o0))), .inr (.inl (.int, (f_start o0))), .inr (.inl (.int, (f_readSet o0))), .inr (.inl (.int, (f_writeSet o0))), .inr (.inl (.int, (f_buffered o0))), .inl [.ref 10, .ref 11, .ref 12, .ref 13, .ref 14, .ref 15, .ref 16, .int (f_keyCount o1), .int (f_slotCount o1), .int (f_window o1), .int (f_commitCount o1), .int (f_abortCount o1), .int (f_lastConflict o1)], .inr (.inl (.int, (f_value o1))), .inr (.inl (.int, (f_version o1))), .inr (.inl (.boolean, (f_active o1))), .inr (.inl (.int, (f_start o1))), .inr (.inl (.int, (f_readSet o1))), .inr (.inl (.int, (f_writeSet o1))), .inr (.inl (.int, (f_buffered o1)))]
theorem tF1a1 (Ad : QAd n0 ad) (W : QW Z a0) (s : List Int32) (e0 : Ob) (x1 : Int32) (x2 : Int32) (x3 : Int32) {r : Ob} (h : F1 x1 x2 x3 = some r) : QTri l Z n0 ad 1 (0, qentry [.ref 9, .int x1, .int x2, .int x3] (pMaxL 1), [], [.inr (.inl (.int, s)), .inl [.ref 2, .ref 3, .ref 4, .ref 5, .ref 6, .ref 7, .ref 8, .int (f_keyCount e0), .int (f_slotCount e0), .int (f_window e0), .int (f_commitCount e0), .int (f_abortCount e0), .int (f_lastConflict e0)], .inr (.inl (.int, (f_value e0))), .inr (.inl (.int, (f_version e0))), .inr (.inl (.boolean, (f_active e0))), .inr (.inl (.int, (f_start e0))), .inr (.inl (.int, (f_readSet e0))), .inr (.inl (.int, (f_writeSet e0))), .inr (.inl (.int, (f_buffered e0))), .inl [.null, .null, .null, .null, .null, .null, .null, .int (f_keyCount ob0), .int (f_slotCount ob0), .int (f_window ob0), .int (f_commitCount ob0), .int (f_abortCount ob0), .int (f_lastConflict ob0)]]) (none : Option Value) (H1 s e0 r) := by
  unfold F1 at h
  refine QTri.steps Ad W 1 (st' := (1, [some (.ref 9), some (.int x1), some (.int x2), some (.int x3)], [.ref 9], [.inr (.inl (.int, s)), .inl [.ref 2, .ref 3, .ref 4, .ref 5, .ref 6, .ref 7, .ref 8, .int (f_keyCount e0), .int (f_slotCount e0), .int (f_window e0), .int (f_commitCount e0), .int (f_abortCount e0), .int (f_lastConflict e0)], .inr (.inl (.int, (f_value e0))), .inr (.inl (.int, (f_version e0))), .inr (.inl (.boolean, (f_active e0))), .inr (.inl (.int, (f_start e0))), .inr (.inl (.int, (f_readSet e0))), .inr (.inl (.int, (f_writeSet e0))), .inr (.inl (.int, (f_buffered e0))), .inl [.null, .null, .null, .null, .null, .null, .null, .int (f_keyCount ob0), .int (f_slotCount ob0), .int (f_window ob0), .int (f_commitCount ob0), .int (f_abortCount ob0), .int (f_lastConflict ob0)]])) rfl ?_
  refine QTri.callO W rfl rfl rfl ?_
  refine QTri.steps Ad W 3 (st' := (9, [some (.ref 9), some (.int x1), some (.int x2), some (.int x3)], [.ref 10, .ref 9], [.inr (.inl (.int, s)), .inl [.ref 2, .ref 3, .ref 4, .ref 5, .ref 6, .ref 7, .ref 8, .int (f_keyCount e0), .int (f_slotCount e0), .int (f_window e0), .int (f_commitCount e0), .int (f_abortCount e0), .int (f_lastConflict e0)], .inr (.inl (.int, (f_value e0))), .inr (.inl (.int, (f_version e0))), .inr (.inl (.boolean, (f_active e0))), .inr (.inl (.int, (f_start e0))), .inr (.inl (.int, (f_readSet e0))), .inr (.inl (.int, (f_writeSet e0))), .inr (.inl (.int, (f_buffered e0))), .inl [.null, .null, .null, .null, .null, .null, .null, .int (f_keyCount ob0), .int (f_slotCount ob0), .int (f_window ob0), .int (f_commitCount ob0), .int (f_abortCount ob0), .int (f_lastConflict ob0)], .inr (.inl (.int, (List.replicate 32 0)))])) rfl ?_
  refine QTri.steps Ad W 1 (st' := (12, [some (.ref 9), some (.int x1), some (.int x2), some (.int x3)], [], [.inr (.inl (.int, s)), .inl [.ref 2, .ref 3, .ref 4, .ref 5, .ref 6, .ref 7, .ref 8, .int (f_keyCount e0), .int (f_slotCount e0), .int (f_window e0), .int (f_commitCount e0), .int (f_abortCount e0), .int (f_lastConflict e0)], .inr (.inl (.int, (f_value e0))), .inr (.inl (.int, (f_version e0))), .inr (.inl (.boolean, (f_active e0))), .inr (.inl (.int, (f_start e0))), .inr (.inl (.int, (f_readSet e0))), .inr (.inl (.int, (f_writeSet e0))), .inr (.inl (.int, (f_buffered e0))), .inl [.ref 10, .null, .null, .null, .null, .null, .null, .int (f_keyCount ob0), .int (f_slotCount ob0), .int (f_window ob0), .int (f_commitCount ob0), .int (f_abortCount ob0), .int (f_lastConflict ob0)], .inr (.inl (.int, (List.replicate 32 0)))])) rfl ?_
  refine QTri.steps Ad W 3 (st' := (17, [some (.ref 9), some (.int x1), some (.int x2), some (.int x3)], [.ref 11, .ref 9], [.inr (.inl (.int, s)), .inl [.ref 2, .ref 3, .ref 4, .ref 5, .ref 6, .ref 7, .ref 8, .int (f_keyCount e0), .int (f_slotCount e0), .int (f_window e0), .int (f_commitCount e0), .int (f_abortCount e0), .int (f_lastConflict e0)], .inr (.inl (.int, (f_value e0))), .inr (.inl (.int, (f_version e0))), .inr (.inl (.boolean, (f_active e0))), .inr (.inl (.int, (f_start e0))), .inr (.inl (.int, (f_readSet e0))), .inr (.inl (.int, (f_writeSet e0))), .inr (.inl (.int, (f_buffered e0))), .inl [.ref 10, .null, .null, .null, .null, .null, .null, .int (f_keyCount ob0), .int (f_slotCount ob0), .int (f_window ob0), .int (f_commitCount ob0), .int (f_abortCount ob0), .int (f_lastConflict ob0)], .inr (.inl (.int, (List.replicate 32 0))), .inr (.inl (.int, (List.replicate 32 0)))])) rfl ?_
  refine QTri.steps Ad W 1 (st' := (20, [some (.ref 9), some (.int x1), some (.int x2), some (.int x3)], [], [.inr (.inl (.int, s)), .inl [.ref 2, .ref 3, .ref 4, .ref 5, .ref 6, .ref 7, .ref 8, .int (f_keyCount e0), .int (f_slotCount e0), .int (f_window e0), .int (f_commitCount e0), .int (f_abortCount e0), .int (f_lastConflict e0)], .inr (.inl (.int, (f_value e0))), .inr (.inl (.int, (f_version e0))), .inr (.inl (.boolean, (f_active e0))), .inr (.inl (.int, (f_start e0))), .inr (.inl (.int, (f_readSet e0))), .inr (.inl (.int, (f_writeSet e0))), .inr (.inl (.int, (f_buffered e0))), .inl [.ref 10, .ref 11, .null, .null, .null, .null, .null, .int (f_keyCount ob0), .int (f_slotCount ob0), .int (f_window ob0), .int (f_commitCount ob0), .int (f_abortCount ob0), .int (f_lastConflict ob0)], .inr (.inl (.int, (List.replicate 32 0))), .inr (.inl (.int, (List.replicate 32 0)))])) rfl ?_
  refine QTri.steps Ad W 3 (st' := (25, [some (.ref 9), some (.int x1), some (.int x2), some (.int x3)], [.ref 12, .ref 9], [.inr (.inl (.int, s)), .inl [.ref 2, .ref 3, .ref 4, .ref 5, .ref 6, .ref 7, .ref 8, .int (f_keyCount e0), .int (f_slotCount e0), .int (f_window e0), .int (f_commitCount e0), .int (f_abortCount e0), .int (f_lastConflict e0)], .inr (.inl (.int, (f_value e0))), .inr (.inl (.int, (f_version e0))), .inr (.inl (.boolean, (f_active e0))), .inr (.inl (.int, (f_start e0))), .inr (.inl (.int, (f_readSet e0))), .inr (.inl (.int, (f_writeSet e0))), .inr (.inl (.int, (f_buffered e0))), .inl [.ref 10, .ref 11, .null, .null, .null, .null, .null, .int (f_keyCount ob0), .int (f_slotCount ob0), .int (f_window ob0), .int (f_commitCount ob0), .int (f_abortCount ob0), .int (f_lastConflict ob0)], .inr (.inl (.int, (List.replicate 32 0))), .inr (.inl (.int, (List.replicate 32 0))), .inr (.inl (.boolean, (List.replicate 8 0)))])) rfl ?_
  refine QTri.steps Ad W 1 (st' := (28, [some (.ref 9), some (.int x1), some (.int x2), some (.int x3)], [], [.inr (.inl (.int, s)), .inl [.ref 2, .ref 3, .ref 4, .ref 5, .ref 6, .ref 7, .ref 8, .int (f_keyCount e0), .int (f_slotCount e0), .int (f_window e0), .int (f_commitCount e0), .int (f_abortCount e0), .int (f_lastConflict e0)], .inr (.inl (.int, (f_value e0))), .inr (.inl (.int, (f_version e0))), .inr (.inl (.boolean, (f_active e0))), .inr (.inl (.int, (f_start e0))), .inr (.inl (.int, (f_readSet e0))), .inr (.inl (.int, (f_writeSet e0))), .inr (.inl (.int, (f_buffered e0))), .inl [.ref 10, .ref 11, .ref 12, .null, .null, .null, .null, .int (f_keyCount ob0), .int (f_slotCount ob0), .int (f_window ob0), .int (f_commitCount ob0), .int (f_abortCount ob0), .int (f_lastConflict ob0)], .inr (.inl (.int, (List.replicate 32 0))), .inr (.inl (.int, (List.replicate 32 0))), .inr (.inl (.boolean, (List.replicate 8 0)))])) rfl ?_
  refine QTri.steps Ad W 3 (st' := (33, [some (.ref 9), some (.int x1), some (.int x2), some (.int x3)], [.ref 13, .ref 9], [.inr (.inl (.int, s)), .inl [.ref 2, .ref 3, .ref 4, .ref 5, .ref 6, .ref 7, .ref 8, .int (f_keyCount e0), .int (f_slotCount e0), .int (f_window e0), .int (f_commitCount e0), .int (f_abortCount e0), .int (f_lastConflict e0)], .inr (.inl (.int, (f_value e0))), .inr (.inl (.int, (f_version e0))), .inr (.inl (.boolean, (f_active e0))), .inr (.inl (.int, (f_start e0))), .inr (.inl (.int, (f_readSet e0))), .inr (.inl (.int, (f_writeSet e0))), .inr (.inl (.int, (f_buffered e0))), .inl [.ref 10, .ref 11, .ref 12, .null, .null, .null, .null, .int (f_keyCount ob0), .int (f_slotCount ob0), .int (f_window ob0), .int (f_commitCount ob0), .int (f_abortCount ob0), .int (f_lastConflict ob0)], .inr (.inl (.int, (List.replicate 32 0))), .inr (.inl (.int, (List.replicate 32 0))), .inr (.inl (.boolean, (List.replicate 8 0))), .inr (.inl (.int, (List.replicate 8 0)))])) rfl ?_
  refine QTri.steps Ad W 1 (st' := (36, [some (.ref 9), some (.int x1), some (.int x2), some (.int x3)], [], [.inr (.inl (.int, s)), .inl [.ref 2, .ref 3, .ref 4, .ref 5, .ref 6, .ref 7, .ref 8, .int (f_keyCount e0), .int (f_slotCount e0), .int (f_window e0), .int (f_commitCount e0), .int (f_abortCount e0), .int (f_lastConflict e0)], .inr (.inl (.int, (f_value e0))), .inr (.inl (.int, (f_version e0))), .inr (.inl (.boolean, (f_active e0))), .inr (.inl (.int, (f_start e0))), .inr (.inl (.int, (f_readSet e0))), .inr (.inl (.int, (f_writeSet e0))), .inr (.inl (.int, (f_buffered e0))), .inl [.ref 10, .ref 11, .ref 12, .ref 13, .null, .null, .null, .int (f_keyCount ob0), .int (f_slotCount ob0), .int (f_window ob0), .int (f_commitCount ob0), .int (f_abortCount ob0), .int (f_lastConflict ob0)], .inr (.inl (.int, (List.replicate 32 0))), .inr (.inl (.int, (List.replicate 32 0))), .inr (.inl (.boolean, (List.replicate 8 0))), .inr (.inl (.int, (List.replicate 8 0)))])) rfl ?_
  refine QTri.steps Ad W 3 (st' := (41, [some (.ref 9), some (.int x1), some (.int x2), some (.int x3)], [.ref 14, .ref 9], [.inr (.inl (.int, s)), .inl [.ref 2, .ref 3, .ref 4, .ref 5, .ref 6, .ref 7, .ref 8, .int (f_keyCount e0), .int (f_slotCount e0), .int (f_window e0), .int (f_commitCount e0), .int (f_abortCount e0), .int (f_lastConflict e0)], .inr (.inl (.int, (f_value e0))), .inr (.inl (.int, (f_version e0))), .inr (.inl (.boolean, (f_active e0))), .inr (.inl (.int, (f_start e0))), .inr (.inl (.int, (f_readSet e0))), .inr (.inl (.int, (f_writeSet e0))), .inr (.inl (.int, (f_buffered e0))), .inl [.ref 10, .ref 11, .ref 12, .ref 13, .null, .null, .null, .int (f_keyCount ob0), .int (f_slotCount ob0), .int (f_window ob0), .int (f_commitCount ob0), .int (f_abortCount ob0), .int (f_lastConflict ob0)], .inr (.inl (.int, (List.replicate 32 0))), .inr (.inl (.int, (List.replicate 32 0))), .inr (.inl (.boolean, (List.replicate 8 0))), .inr (.inl (.int, (List.replicate 8 0))), .inr (.inl (.int, (List.replicate 8 0)))])) rfl ?_
  refine QTri.steps Ad W 1 (st' := (44, [some (.ref 9), some (.int x1), some (.int x2), some (.int x3)], [], [.inr (.inl (.int, s)), .inl [.ref 2, .ref 3, .ref 4, .ref 5, .ref 6, .ref 7, .ref 8, .int (f_keyCount e0), .int (f_slotCount e0), .int (f_window e0), .int (f_commitCount e0), .int (f_abortCount e0), .int (f_lastConflict e0)], .inr (.inl (.int, (f_value e0))), .inr (.inl (.int, (f_version e0))), .inr (.inl (.boolean, (f_active e0))), .inr (.inl (.int, (f_start e0))), .inr (.inl (.int, (f_readSet e0))), .inr (.inl (.int, (f_writeSet e0))), .inr (.inl (.int, (f_buffered e0))), .inl [.ref 10, .ref 11, .ref 12, .ref 13, .ref 14, .null, .null, .int (f_keyCount ob0), .int (f_slotCount ob0), .int (f_window ob0), .int (f_commitCount ob0), .int (f_abortCount ob0), .int (f_lastConflict ob0)], .inr (.inl (.int, (List.replicate 32 0))), .inr (.inl (.int, (List.replicate 32 0))), .inr (.inl (.boolean, (List.replicate 8 0))), .inr (.inl (.int, (List.replicate 8 0))), .inr (.inl (.int, (List.replicate 8 0)))])) rfl ?_
  refine QTri.steps Ad W 3 (st' := (49, [some (.ref 9), some (.int x1), some (.int x2), some (.int x3)], [.ref 15, .ref 9], [.inr (.inl (.int, s)), .inl [.ref 2, .ref 3, .ref 4, .ref 5, .ref 6, .ref 7, .ref 8, .int (f_keyCount e0), .int (f_slotCount e0), .int (f_window e0), .int (f_commitCount e0), .int (f_abortCount e0), .int (f_lastConflict e0)], .inr (.inl (.int, (f_value e0))), .inr (.inl (.int, (f_version e0))), .inr (.inl (.boolean, (f_active e0))), .inr (.inl (.int, (f_start e0))), .inr (.inl (.int, (f_readSet e0))), .inr (.inl (.int, (f_writeSet e0))), .inr (.inl (.int, (f_buffered e0))), .inl [.ref 10, .ref 11, .ref 12, .ref 13, .ref 14, .null, .null, .int (f_keyCount ob0), .int (f_slotCount ob0), .int (f_window ob0), .int (f_commitCount ob0), .int (f_abortCount ob0), .int (f_lastConflict ob0)], .inr (.inl (.int, (List.replicate 32 0))), .inr (.inl (.int, (List.replicate 32 0))), .inr (.inl (.boolean, (List.replicate 8 0))), .inr (.inl (.int, (List.replicate 8 0))), .inr (.inl (.int, (List.replicate 8 0))), .inr (.inl (.int, (List.replicate 8 0)))])) rfl ?_
  refine QTri.steps Ad W 1 (st' := (52, [some (.ref 9), some (.int x1), some (.int x2), some (.int x3)], [], [.inr (.inl (.int, s)), .inl [.ref 2, .ref 3, .ref 4, .ref 5, .ref 6, .ref 7, .ref 8, .int (f_keyCount e0), .int (f_slotCount e0), .int (f_window e0), .int (f_commitCount e0), .int (f_abortCount e0), .int (f_lastConflict e0)], .inr (.inl (.int, (f_value e0))), .inr (.inl (.int, (f_version e0))), .inr (.inl (.boolean, (f_active e0))), .inr (.inl (.int, (f_start e0))), .inr (.inl (.int, (f_readSet e0))), .inr (.inl (.int, (f_writeSet e0))), .inr (.inl (.int, (f_buffered e0))), .inl [.ref 10, .ref 11, .ref 12, .ref 13, .ref 14, .ref 15, .null, .int (f_keyCount ob0), .int (f_slotCount ob0), .int (f_window ob0), .int (f_commitCount ob0), .int (f_abortCount ob0), .int (f_lastConflict ob0)], .inr (.inl (.int, (List.replicate 32 0))), .inr (.inl (.int, (List.replicate 32 0))), .inr (.inl (.boolean, (List.replicate 8 0))), .inr (.inl (.int, (List.replicate 8 0))), .inr (.inl (.int, (List.replicate 8 0))), .inr (.inl (.int, (List.replicate 8 0)))])) rfl ?_
  refine QTri.steps Ad W 3 (st' := (58, [some (.ref 9), some (.int x1), some (.int x2), some (.int x3)], [.ref 16, .ref 9], [.inr (.inl (.int, s)), .inl [.ref 2, .ref 3, .ref 4, .ref 5, .ref 6, .ref 7, .ref 8, .int (f_keyCount e0), .int (f_slotCount e0), .int (f_window e0), .int (f_commitCount e0), .int (f_abortCount e0), .int (f_lastConflict e0)], .inr (.inl (.int, (f_value e0))), .inr (.inl (.int, (f_version e0))), .inr (.inl (.boolean, (f_active e0))), .inr (.inl (.int, (f_start e0))), .inr (.inl (.int, (f_readSet e0))), .inr (.inl (.int, (f_writeSet e0))), .inr (.inl (.int, (f_buffered e0))), .inl [.ref 10, .ref 11, .ref 12, .ref 13, .ref 14, .ref 15, .null, .int (f_keyCount ob0), .int (f_slotCount ob0), .int (f_window ob0), .int (f_commitCount ob0), .int (f_abortCount ob0), .int (f_lastConflict ob0)], .inr (.inl (.int, (List.replicate 32 0))), .inr (.inl (.int, (List.replicate 32 0))), .inr (.inl (.boolean, (List.replicate 8 0))), .inr (.inl (.int, (List.replicate 8 0))), .inr (.inl (.int, (List.replicate 8 0))), .inr (.inl (.int, (List.replicate 8 0))), .inr (.inl (.int, (List.replicate 256 0)))])) rfl ?_
  refine QTri.steps Ad W 1 (st' := (61, [some (.ref 9), some (.int x1), some (.int x2), some (.int x3)], [], [.inr (.inl (.int, s)), .inl [.ref 2, .ref 3, .ref 4, .ref 5, .ref 6, .ref 7, .ref 8, .int (f_keyCount e0), .int (f_slotCount e0), .int (f_window e0), .int (f_commitCount e0), .int (f_abortCount e0), .int (f_lastConflict e0)], .inr (.inl (.int, (f_value e0))), .inr (.inl (.int, (f_version e0))), .inr (.inl (.boolean, (f_active e0))), .inr (.inl (.int, (f_start e0))), .inr (.inl (.int, (f_readSet e0))), .inr (.inl (.int, (f_writeSet e0))), .inr (.inl (.int, (f_buffered e0))), .inl [.ref 10, .ref 11, .ref 12, .ref 13, .ref 14, .ref 15, .ref 16, .int (f_keyCount ob0), .int (f_slotCount ob0), .int (f_window ob0), .int (f_commitCount ob0), .int (f_abortCount ob0), .int (f_lastConflict ob0)], .inr (.inl (.int, (List.replicate 32 0))), .inr (.inl (.int, (List.replicate 32 0))), .inr (.inl (.boolean, (List.replicate 8 0))), .inr (.inl (.int, (List.replicate 8 0))), .inr (.inl (.int, (List.replicate 8 0))), .inr (.inl (.int, (List.replicate 8 0))), .inr (.inl (.int, (List.replicate 256 0)))])) rfl ?_
  refine QTri.steps Ad W 5 (st' := (68, [some (.ref 9), some (.int x1), some (.int x2), some (.int x3)], [.int (32 : Int32), .int (8 : Int32), .int x1, .ref 9, .ref 9], [.inr (.inl (.int, s)), .inl [.ref 2, .ref 3, .ref 4, .ref 5, .ref 6, .ref 7, .ref 8, .int (f_keyCount e0), .int (f_slotCount e0), .int (f_window e0), .int (f_commitCount e0), .int (f_abortCount e0), .int (f_lastConflict e0)], .inr (.inl (.int, (f_value e0))), .inr (.inl (.int, (f_version e0))), .inr (.inl (.boolean, (f_active e0))), .inr (.inl (.int, (f_start e0))), .inr (.inl (.int, (f_readSet e0))), .inr (.inl (.int, (f_writeSet e0))), .inr (.inl (.int, (f_buffered e0))), .inl [.ref 10, .ref 11, .ref 12, .ref 13, .ref 14, .ref 15, .ref 16, .int (f_keyCount ob0), .int (f_slotCount ob0), .int (f_window ob0), .int (f_commitCount ob0), .int (f_abortCount ob0), .int (f_lastConflict ob0)], .inr (.inl (.int, (List.replicate 32 0))), .inr (.inl (.int, (List.replicate 32 0))), .inr (.inl (.boolean, (List.replicate 8 0))), .inr (.inl (.int, (List.replicate 8 0))), .inr (.inl (.int, (List.replicate 8 0))), .inr (.inl (.int, (List.replicate 8 0))), .inr (.inl (.int, (List.replicate 256 0)))])) rfl ?_
  obtain ⟨r8, hr8, h⟩ := Option.bind_eq_some_iff.mp h
  refine QTri.callP W (a := 9) (as := [.int x1, .int (8 : Int32), .int (32 : Int32)]) (rest := [.ref 9]) (w := (some (.int r8))) (σ₁ := [.inr (.inl (.int, s)), .inl [.ref 2, .ref 3, .ref 4, .ref 5, .ref 6, .ref 7, .ref 8, .int (f_keyCount e0), .int (f_slotCount e0), .int (f_window e0), .int (f_commitCount e0), .int (f_abortCount e0), .int (f_lastConflict e0)], .inr (.inl (.int, (f_value e0))), .inr (.inl (.int, (f_version e0))), .inr (.inl (.boolean, (f_active e0))), .inr (.inl (.int, (f_start e0))), .inr (.inl (.int, (f_readSet e0))), .inr (.inl (.int, (f_writeSet e0))), .inr (.inl (.int, (f_buffered e0))), .inl [.ref 10, .ref 11, .ref 12, .ref 13, .ref 14, .ref 15, .ref 16, .int (f_keyCount ob0), .int (f_slotCount ob0), .int (f_window ob0), .int (f_commitCount ob0), .int (f_abortCount ob0), .int (f_lastConflict ob0)], .inr (.inl (.int, (List.replicate 32 0))), .inr (.inl (.int, (List.replicate 32 0))), .inr (.inl (.boolean, (List.replicate 8 0))), .inr (.inl (.int, (List.replicate 8 0))), .inr (.inl (.int, (List.replicate 8 0))), .inr (.inl (.int, (List.replicate 8 0))), .inr (.inl (.int, (List.replicate 256 0)))]) rfl rfl rfl rfl rfl rfl rfl rfl (tF2 Ad W x1 (8 : Int32) (32 : Int32) hr8) ?_
  refine QTri.steps Ad W 1 (st' := (74, [some (.ref 9), some (.int x1), some (.int x2), some (.int x3)], [], [.inr (.inl (.int, s)), .inl [.ref 2, .ref 3, .ref 4, .ref 5, .ref 6, .ref 7, .ref 8, .int (f_keyCount e0), .int (f_slotCount e0), .int (f_window e0), .int (f_commitCount e0), .int (f_abortCount e0), .int (f_lastConflict e0)], .inr (.inl (.int, (f_value e0))), .inr (.inl (.int, (f_version e0))), .inr (.inl (.boolean, (f_active e0))), .inr (.inl (.int, (f_start e0))), .inr (.inl (.int, (f_readSet e0))), .inr (.inl (.int, (f_writeSet e0))), .inr (.inl (.int, (f_buffered e0))), .inl [.ref 10, .ref 11, .ref 12, .ref 13, .ref 14, .ref 15, .ref 16, .int r8, .int (f_slotCount ob0), .int (f_window ob0), .int (f_commitCount ob0), .int (f_abortCount ob0), .int (f_lastConflict ob0)], .inr (.inl (.int, (List.replicate 32 0))), .inr (.inl (.int, (List.replicate 32 0))), .inr (.inl (.boolean, (List.replicate 8 0))), .inr (.inl (.int, (List.replicate 8 0))), .inr (.inl (.int, (List.replicate 8 0))), .inr (.inl (.int, (List.replicate 8 0))), .inr (.inl (.int, (List.replicate 256 0)))])) rfl ?_
  refine QTri.steps Ad W 5 (st' := (80, [some (.ref 9), some (.int x1), some (.int x2), some (.int x3)], [.int (8 : Int32), .int (2 : Int32), .int x2, .ref 9, .ref 9], [.inr (.inl (.int, s)), .inl [.ref 2, .ref 3, .ref 4, .ref 5, .ref 6, .ref 7, .ref 8, .int (f_keyCount e0), .int (f_slotCount e0), .int (f_window e0), .int (f_commitCount e0), .int (f_abortCount e0), .int (f_lastConflict e0)], .inr (.inl (.int, (f_value e0))), .inr (.inl (.int, (f_version e0))), .inr (.inl (.boolean, (f_active e0))), .inr (.inl (.int, (f_start e0))), .inr (.inl (.int, (f_readSet e0))), .inr (.inl (.int, (f_writeSet e0))), .inr (.inl (.int, (f_buffered e0))), .inl [.ref 10, .ref 11, .ref 12, .ref 13, .ref 14, .ref 15, .ref 16, .int r8, .int (f_slotCount ob0), .int (f_window ob0), .int (f_commitCount ob0), .int (f_abortCount ob0), .int (f_lastConflict ob0)], .inr (.inl (.int, (List.replicate 32 0))), .inr (.inl (.int, (List.replicate 32 0))), .inr (.inl (.boolean, (List.replicate 8 0))), .inr (.inl (.int, (List.replicate 8 0))), .inr (.inl (.int, (List.replicate 8 0))), .inr (.inl (.int, (List.replicate 8 0))), .inr (.inl (.int, (List.replicate 256 0)))])) rfl ?_
  obtain ⟨r9, hr9, h⟩ := Option.bind_eq_some_iff.mp h
  refine QTri.callP W (a := 9) (as := [.int x2, .int (2 : Int32), .int (8 : Int32)]) (rest := [.ref 9]) (w := (some (.int r9))) (σ₁ := [.inr (.inl (.int, s)), .inl [.ref 2, .ref 3, .ref 4, .ref 5, .ref 6, .ref 7, .ref 8, .int (f_keyCount e0), .int (f_slotCount e0), .int (f_window e0), .int (f_commitCount e0), .int (f_abortCount e0), .int (f_lastConflict e0)], .inr (.inl (.int, (f_value e0))), .inr (.inl (.int, (f_version e0))), .inr (.inl (.boolean, (f_active e0))), .inr (.inl (.int, (f_start e0))), .inr (.inl (.int, (f_readSet e0))), .inr (.inl (.int, (f_writeSet e0))), .inr (.inl (.int, (f_buffered e0))), .inl [.ref 10, .ref 11, .ref 12, .ref 13, .ref 14, .ref 15, .ref 16, .int r8, .int (f_slotCount ob0), .int (f_window ob0), .int (f_commitCount ob0), .int (f_abortCount ob0), .int (f_lastConflict ob0)], .inr (.inl (.int, (List.replicate 32 0))), .inr (.inl (.int, (List.replicate 32 0))), .inr (.inl (.boolean, (List.replicate 8 0))), .inr (.inl (.int, (List.replicate 8 0))), .inr (.inl (.int, (List.replicate 8 0))), .inr (.inl (.int, (List.replicate 8 0))), .inr (.inl (.int, (List.replicate 256 0)))]) rfl rfl rfl rfl rfl rfl rfl rfl (tF2 Ad W x2 (2 : Int32) (8 : Int32) hr9) ?_
  refine QTri.steps Ad W 1 (st' := (86, [some (.ref 9), some (.int x1), some (.int x2), some (.int x3)], [], [.inr (.inl (.int, s)), .inl [.ref 2, .ref 3, .ref 4, .ref 5, .ref 6, .ref 7, .ref 8, .int (f_keyCount e0), .int (f_slotCount e0), .int (f_window e0), .int (f_commitCount e0), .int (f_abortCount e0), .int (f_lastConflict e0)], .inr (.inl (.int, (f_value e0))), .inr (.inl (.int, (f_version e0))), .inr (.inl (.boolean, (f_active e0))), .inr (.inl (.int, (f_start e0))), .inr (.inl (.int, (f_readSet e0))), .inr (.inl (.int, (f_writeSet e0))), .inr (.inl (.int, (f_buffered e0))), .inl [.ref 10, .ref 11, .ref 12, .ref 13, .ref 14, .ref 15, .ref 16, .int r8, .int r9, .int (f_window ob0), .int (f_commitCount ob0), .int (f_abortCount ob0), .int (f_lastConflict ob0)], .inr (.inl (.int, (List.replicate 32 0))), .inr (.inl (.int, (List.replicate 32 0))), .inr (.inl (.boolean, (List.replicate 8 0))), .inr (.inl (.int, (List.replicate 8 0))), .inr (.inl (.int, (List.replicate 8 0))), .inr (.inl (.int, (List.replicate 8 0))), .inr (.inl (.int, (List.replicate 256 0)))])) rfl ?_
  refine QTri.steps Ad W 5 (st' := (92, [some (.ref 9), some (.int x1), some (.int x2), some (.int x3)], [.int (16 : Int32), .int (2 : Int32), .int x3, .ref 9, .ref 9], [.inr (.inl (.int, s)), .inl [.ref 2, .ref 3, .ref 4, .ref 5, .ref 6, .ref 7, .ref 8, .int (f_keyCount e0), .int (f_slotCount e0), .int (f_window e0), .int (f_commitCount e0), .int (f_abortCount e0), .int (f_lastConflict e0)], .inr (.inl (.int, (f_value e0))), .inr (.inl (.int, (f_version e0))), .inr (.inl (.boolean, (f_active e0))), .inr (.inl (.int, (f_start e0))), .inr (.inl (.int, (f_readSet e0))), .inr (.inl (.int, (f_writeSet e0))), .inr (.inl (.int, (f_buffered e0))), .inl [.ref 10, .ref 11, .ref 12, .ref 13, .ref 14, .ref 15, .ref 16, .int r8, .int r9, .int (f_window ob0), .int (f_commitCount ob0), .int (f_abortCount ob0), .int (f_lastConflict ob0)], .inr (.inl (.int, (List.replicate 32 0))), .inr (.inl (.int, (List.replicate 32 0))), .inr (.inl (.boolean, (List.replicate 8 0))), .inr (.inl (.int, (List.replicate 8 0))), .inr (.inl (.int, (List.replicate 8 0))), .inr (.inl (.int, (List.replicate 8 0))), .inr (.inl (.int, (List.replicate 256 0)))])) rfl ?_
  obtain ⟨r10, hr10, h⟩ := Option.bind_eq_some_iff.mp h
  refine QTri.callP W (a := 9) (as := [.int x3, .int (2 : Int32), .int (16 : Int32)]) (rest := [.ref 9]) (w := (some (.int r10))) (σ₁ := [.inr (.inl (.int, s)), .inl [.ref 2, .ref 3, .ref 4, .ref 5, .ref 6, .ref 7, .ref 8, .int (f_keyCount e0), .int (f_slotCount e0), .int (f_window e0), .int (f_commitCount e0), .int (f_abortCount e0), .int (f_lastConflict e0)], .inr (.inl (.int, (f_value e0))), .inr (.inl (.int, (f_version e0))), .inr (.inl (.boolean, (f_active e0))), .inr (.inl (.int, (f_start e0))), .inr (.inl (.int, (f_readSet e0))), .inr (.inl (.int, (f_writeSet e0))), .inr (.inl (.int, (f_buffered e0))), .inl [.ref 10, .ref 11, .ref 12, .ref 13, .ref 14, .ref 15, .ref 16, .int r8, .int r9, .int (f_window ob0), .int (f_commitCount ob0), .int (f_abortCount ob0), .int (f_lastConflict ob0)], .inr (.inl (.int, (List.replicate 32 0))), .inr (.inl (.int, (List.replicate 32 0))), .inr (.inl (.boolean, (List.replicate 8 0))), .inr (.inl (.int, (List.replicate 8 0))), .inr (.inl (.int, (List.replicate 8 0))), .inr (.inl (.int, (List.replicate 8 0))), .inr (.inl (.int, (List.replicate 256 0)))]) rfl rfl rfl rfl rfl rfl rfl rfl (tF2 Ad W x3 (2 : Int32) (16 : Int32) hr10) ?_
  refine QTri.steps Ad W 1 (st' := (98, [some (.ref 9), some (.int x1), some (.int x2), some (.int x3)], [], [.inr (.inl (.int, s)), .inl [.ref 2, .ref 3, .ref 4, .ref 5, .ref 6, .ref 7, .ref 8, .int (f_keyCount e0), .int (f_slotCount e0), .int (f_window e0), .int (f_commitCount e0), .int (f_abortCount e0), .int (f_lastConflict e0)], .inr (.inl (.int, (f_value e0))), .inr (.inl (.int, (f_version e0))), .inr (.inl (.boolean, (f_active e0))), .inr (.inl (.int, (f_start e0))), .inr (.inl (.int, (f_readSet e0))), .inr (.inl (.int, (f_writeSet e0))), .inr (.inl (.int, (f_buffered e0))), .inl [.ref 10, .ref 11, .ref 12, .ref 13, .ref 14, .ref 15, .ref 16, .int r8, .int r9, .int r10, .int (f_commitCount ob0), .int (f_abortCount ob0), .int (f_lastConflict ob0)], .inr (.inl (.int, (List.replicate 32 0))), .inr (.inl (.int, (List.replicate 32 0))), .inr (.inl (.boolean, (List.replicate 8 0))), .inr (.inl (.int, (List.replicate 8 0))), .inr (.inl (.int, (List.replicate 8 0))), .inr (.inl (.int, (List.replicate 8 0))), .inr (.inl (.int, (List.replicate 256 0)))])) rfl ?_
  refine QTri.steps Ad W 3 (st' := (103, [some (.ref 9), some (.int x1), some (.int x2), some (.int x3)], [], [.inr (.inl (.int, s)), .inl [.ref 2, .ref 3, .ref 4, .ref 5, .ref 6, .ref 7, .ref 8, .int (f_keyCount e0), .int (f_slotCount e0), .int (f_window e0), .int (f_commitCount e0), .int (f_abortCount e0), .int (f_lastConflict e0)], .inr (.inl (.int, (f_value e0))), .inr (.inl (.int, (f_version e0))), .inr (.inl (.boolean, (f_active e0))), .inr (.inl (.int, (f_start e0))), .inr (.inl (.int, (f_readSet e0))), .inr (.inl (.int, (f_writeSet e0))), .inr (.inl (.int, (f_buffered e0))), .inl [.ref 10, .ref 11, .ref 12, .ref 13, .ref 14, .ref 15, .ref 16, .int r8, .int r9, .int r10, .int (0 : Int32), .int (f_abortCount ob0), .int (f_lastConflict ob0)], .inr (.inl (.int, (List.replicate 32 0))), .inr (.inl (.int, (List.replicate 32 0))), .inr (.inl (.boolean, (List.replicate 8 0))), .inr (.inl (.int, (List.replicate 8 0))), .inr (.inl (.int, (List.replicate 8 0))), .inr (.inl (.int, (List.replicate 8 0))), .inr (.inl (.int, (List.replicate 256 0)))])) rfl ?_
  refine QTri.steps Ad W 3 (st' := (108, [some (.ref 9), some (.int x1), some (.int x2), some (.int x3)], [], [.inr (.inl (.int, s)), .inl [.ref 2, .ref 3, .ref 4, .ref 5, .ref 6, .ref 7, .ref 8, .int (f_keyCount e0), .int (f_slotCount e0), .int (f_window e0), .int (f_commitCount e0), .int (f_abortCount e0), .int (f_lastConflict e0)], .inr (.inl (.int, (f_value e0))), .inr (.inl (.int, (f_version e0))), .inr (.inl (.boolean, (f_active e0))), .inr (.inl (.int, (f_start e0))), .inr (.inl (.int, (f_readSet e0))), .inr (.inl (.int, (f_writeSet e0))), .inr (.inl (.int, (f_buffered e0))), .inl [.ref 10, .ref 11, .ref 12, .ref 13, .ref 14, .ref 15, .ref 16, .int r8, .int r9, .int r10, .int (0 : Int32), .int (0 : Int32), .int (f_lastConflict ob0)], .inr (.inl (.int, (List.replicate 32 0))), .inr (.inl (.int, (List.replicate 32 0))), .inr (.inl (.boolean, (List.replicate 8 0))), .inr (.inl (.int, (List.replicate 8 0))), .inr (.inl (.int, (List.replicate 8 0))), .inr (.inl (.int, (List.replicate 8 0))), .inr (.inl (.int, (List.replicate 256 0)))])) rfl ?_
  refine QTri.steps Ad W 3 (st' := (113, [some (.ref 9), some (.int x1), some (.int x2), some (.int x3)], [], [.inr (.inl (.int, s)), .inl [.ref 2, .ref 3, .ref 4, .ref 5, .ref 6, .ref 7, .ref 8, .int (f_keyCount e0), .int (f_slotCount e0), .int (f_window e0), .int (f_commitCount e0), .int (f_abortCount e0), .int (f_lastConflict e0)], .inr (.inl (.int, (f_value e0))), .inr (.inl (.int, (f_version e0))), .inr (.inl (.boolean, (f_active e0))), .inr (.inl (.int, (f_start e0))), .inr (.inl (.int, (f_readSet e0))), .inr (.inl (.int, (f_writeSet e0))), .inr (.inl (.int, (f_buffered e0))), .inl [.ref 10, .ref 11, .ref 12, .ref 13, .ref 14, .ref 15, .ref 16, .int r8, .int r9, .int r10, .int (0 : Int32), .int (0 : Int32), .int (-1 : Int32)], .inr (.inl (.int, (List.replicate 32 0))), .inr (.inl (.int, (List.replicate 32 0))), .inr (.inl (.boolean, (List.replicate 8 0))), .inr (.inl (.int, (List.replicate 8 0))), .inr (.inl (.int, (List.replicate 8 0))), .inr (.inl (.int, (List.replicate 8 0))), .inr (.inl (.int, (List.replicate 256 0)))])) rfl ?_
  have E11 : ([.inr (.inl (.int, s)), .inl [.ref 2, .ref 3, .ref 4, .ref 5, .ref 6, .ref 7, .ref 8, .int (f_keyCount e0), .int (f_slotCount e0), .int (f_window e0), .int (f_commitCount e0), .int (f_abortCount e0), .int (f_lastConflict e0)], .inr (.inl (.int, (f_value e0))), .inr (.inl (.int, (f_version e0))), .inr (.inl (.boolean, (f_active e0))), .inr (.inl (.int, (f_start e0))), .inr (.inl (.int, (f_readSet e0))), .inr (.inl (.int, (f_writeSet e0))), .inr (.inl (.int, (f_buffered e0))), .inl [.ref 10, .ref 11, .ref 12, .ref 13, .ref 14, .ref 15, .ref 16, .int r8, .int r9, .int r10, .int (0 : Int32), .int (0 : Int32), .int (-1 : Int32)], .inr (.inl (.int, (List.replicate 32 0))), .inr (.inl (.int, (List.replicate 32 0))), .inr (.inl (.boolean, (List.replicate 8 0))), .inr (.inl (.int, (List.replicate 8 0))), .inr (.inl (.int, (List.replicate 8 0))), .inr (.inl (.int, (List.replicate 8 0))), .inr (.inl (.int, (List.replicate 256 0)))] : QHeap) = (H1 s e0 (s_lastConflict (s_abortCount (s_commitCount (s_window (s_slotCount (s_keyCount (s_buffered (s_writeSet (s_readSet (s_start (s_active (s_version (s_value ob0 (List.replicate 32 0)) (List.replicate 32 0)) (List.replicate 8 0)) (List.replicate 8 0)) (List.replicate 8 0)) (List.replicate 8 0)) (List.replicate 256 0)) r8) r9) r10) (0 : Int32)) (0 : Int32)) (-1 : Int32))) := by dsimp only [H0, H1, f_value, f_version, f_active, f_start, f_readSet, f_writeSet, f_buffered, f_keyCount, f_slotCount, f_window, f_commitCount, f_abortCount, f_lastConflict, s_value, s_version, s_active, s_start, s_readSet, s_writeSet, s_buffered, s_keyCount, s_slotCount, s_window, s_commitCount, s_abortCount, s_lastConflict, ob0]
  rw [E11]
  obtain rfl := Option.some.inj h
  exact QTri.ret0 rfl rfl
/-- isValidTx(I)Z -/
def F4 (o : Ob) (x1 : Int32) : Option (Int32) :=
  (if x1 < (0 : Int32) then some (0 : Int32) else (if x1 < (f_slotCount o) then (if x1 < (8 : Int32) then (aget (f_active o) x1).bind fun y22 => some (y22 &&& 1) else some (0 : Int32)) else some (0 : Int32)))
theorem tF4 (Ad : QAd n0 ad) (W : QW Z a0) (s : List Int32) (e0 : Ob) (o : Ob) (x1 : Int32) {r : Int32} (h : F4 o x1 = some r) : QTri l Z n0 ad 4 (0, qentry [.ref 1, .int x1] (pMaxL 4), [], (H1 s o e0)) (some (Value.int r)) (H1 s o e0) := by
  unfold F4 at h
  refine QTri.steps Ad W 1 (st' := (1, [some (.ref 1), some (.int x1)], [.int x1], (H1 s o e0))) rfl ?_
  rcases qite h with ⟨hc19, h⟩ | ⟨hc19, h⟩
  · refine QTri.brT Ad W (t := 18) (f := 4) (L := [some (.ref 1), some (.int x1)]) (S := []) (σ := (H1 s o e0)) rfl (XT.i0_lt_t hc19) ?_
    refine QTri.steps Ad W 1 (st' := (19, [some (.ref 1), some (.int x1)], [.int (0 : Int32)], (H1 s o e0))) rfl ?_
    obtain rfl := Option.some.inj h
    exact QTri.retZ rfl rfl
  · refine QTri.brF Ad W (t := 18) (f := 4) (L := [some (.ref 1), some (.int x1)]) (S := []) (σ := (H1 s o e0)) rfl (XT.i0_lt_f hc19) ?_
    refine QTri.steps Ad W 3 (st' := (9, [some (.ref 1), some (.int x1)], [.int (f_slotCount o), .int x1], (H1 s o e0))) rfl ?_
    rcases qite h with ⟨hc20, h⟩ | ⟨hc20, h⟩
    · refine QTri.brF Ad W (t := 18) (f := 12) (L := [some (.ref 1), some (.int x1)]) (S := []) (σ := (H1 s o e0)) rfl (XT.ii_ge_f hc20) ?_
      refine QTri.steps Ad W 2 (st' := (15, [some (.ref 1), some (.int x1)], [.int (8 : Int32), .int x1], (H1 s o e0))) rfl ?_
      rcases qite h with ⟨hc21, h⟩ | ⟨hc21, h⟩
      · refine QTri.brT Ad W (t := 20) (f := 18) (L := [some (.ref 1), some (.int x1)]) (S := []) (σ := (H1 s o e0)) rfl (XT.ii_lt_t hc21) ?_
        refine QTri.steps Ad W 3 (st' := (25, [some (.ref 1), some (.int x1)], [.int x1, .ref 4], (H1 s o e0))) rfl ?_
        obtain ⟨y22, hy22, h⟩ := Option.bind_eq_some_iff.mp h
        refine QTri.bnd Ad W (f := fun y22 => (26, [some (.ref 1), some (.int x1)], [.int y22], (H1 s o e0))) rfl hy22 ?_
        obtain rfl := Option.some.inj h
        exact QTri.retZ rfl rfl
      · refine QTri.brF Ad W (t := 20) (f := 18) (L := [some (.ref 1), some (.int x1)]) (S := []) (σ := (H1 s o e0)) rfl (XT.ii_lt_f hc21) ?_
        refine QTri.steps Ad W 1 (st' := (19, [some (.ref 1), some (.int x1)], [.int (0 : Int32)], (H1 s o e0))) rfl ?_
        obtain rfl := Option.some.inj h
        exact QTri.retZ rfl rfl
    · refine QTri.brT Ad W (t := 18) (f := 12) (L := [some (.ref 1), some (.int x1)]) (S := []) (σ := (H1 s o e0)) rfl (XT.ii_ge_t hc20) ?_
      refine QTri.steps Ad W 1 (st' := (19, [some (.ref 1), some (.int x1)], [.int (0 : Int32)], (H1 s o e0))) rfl ?_
      obtain rfl := Option.some.inj h
      exact QTri.retZ rfl rfl
/-- isActive(I)Z -/
def F3 (o : Ob) (x1 : Int32) : Option (Int32) :=
  (F4 o x1).bind fun r23 => some (r23 &&& 1)
theorem tF3 (Ad : QAd n0 ad) (W : QW Z a0) (s : List Int32) (e0 : Ob) (o : Ob) (x1 : Int32) {r : Int32} (h : F3 o x1 = some r) : QTri l Z n0 ad 3 (0, qentry [.ref 1, .int x1] (pMaxL 3), [], (H1 s o e0)) (some (Value.int r)) (H1 s o e0) := by
  unfold F3 at h
  refine QTri.steps Ad W 2 (st' := (2, [some (.ref 1), some (.int x1)], [.int x1, .ref 1], (H1 s o e0))) rfl ?_
  obtain ⟨r23, hr23, h⟩ := Option.bind_eq_some_iff.mp h
  refine QTri.callP W (a := 1) (as := [.int x1]) (rest := []) (w := (some (.int r23))) (σ₁ := (H1 s o e0)) rfl rfl rfl rfl rfl rfl rfl rfl (tF4 Ad W s e0 o x1 hr23) ?_
  obtain rfl := Option.some.inj h
  exact QTri.retZ rfl rfl
def B19_2 (o : Ob) (v : Int32) : Option (((Int32)) ⊕ (Int32)) :=
  (if v < (f_slotCount o) then (if v < (8 : Int32) then (aget (f_active o) v).bind fun y34 => (if y34 = (0 : Int32) then some (.inl v) else some (.inr (v + (1 : Int32)))) else some (.inl (-1 : Int32))) else some (.inl (-1 : Int32)))
theorem tB19_2 (Ad : QAd n0 ad) (W : QW Z a0) (s : List Int32) (e0 : Ob) (o : Ob) (v : Int32) {r : ((Int32)) ⊕ (Int32)} {u : Option Value} {τ : QHeap} (h : B19_2 o v = some r) (hx0 : ∀ x : Int32, r = .inl x → u = (some (Value.int x)) ∧ τ = (H1 s o e0)) (hc : ∀ x : Int32, r = .inr x → QTri l Z n0 ad 19 (2, [some (.ref 1), some (.int x)], [], (H1 s o e0)) u τ) : QTri l Z n0 ad 19 (2, [some (.ref 1), some (.int v)], [], (H1 s o e0)) u τ := by
  unfold B19_2 at h
  refine QTri.steps Ad W 3 (st' := (7, [some (.ref 1), some (.int v)], [.int (f_slotCount o), .int v], (H1 s o e0))) rfl ?_
  rcases qite h with ⟨hc32, h⟩ | ⟨hc32, h⟩
  · refine QTri.brF Ad W (t := 33) (f := 10) (L := [some (.ref 1), some (.int v)]) (S := []) (σ := (H1 s o e0)) rfl (XT.ii_ge_f hc32) ?_
    refine QTri.steps Ad W 2 (st' := (13, [some (.ref 1), some (.int v)], [.int (8 : Int32), .int v], (H1 s o e0))) rfl ?_
    rcases qite h with ⟨hc33, h⟩ | ⟨hc33, h⟩
    · refine QTri.brF Ad W (t := 33) (f := 16) (L := [some (.ref 1), some (.int v)]) (S := []) (σ := (H1 s o e0)) rfl (XT.ii_ge_f hc33) ?_
      refine QTri.steps Ad W 3 (st' := (21, [some (.ref 1), some (.int v)], [.int v, .ref 4], (H1 s o e0))) rfl ?_
      obtain ⟨y34, hy34, h⟩ := Option.bind_eq_some_iff.mp h
      refine QTri.bnd Ad W (f := fun y34 => (22, [some (.ref 1), some (.int v)], [.int y34], (H1 s o e0))) rfl hy34 ?_
      rcases qite h with ⟨hc35, h⟩ | ⟨hc35, h⟩
      · refine QTri.brF Ad W (t := 27) (f := 25) (L := [some (.ref 1), some (.int v)]) (S := []) (σ := (H1 s o e0)) rfl (XT.i0_ne_f hc35) ?_
        refine QTri.steps Ad W 1 (st' := (26, [some (.ref 1), some (.int v)], [.int v], (H1 s o e0))) rfl ?_
        obtain rfl := Option.some.inj h
        obtain ⟨rfl, rfl⟩ := hx0 v rfl
        exact QTri.retI rfl rfl
      · refine QTri.brT Ad W (t := 27) (f := 25) (L := [some (.ref 1), some (.int v)]) (S := []) (σ := (H1 s o e0)) rfl (XT.i0_ne_t hc35) ?_
        refine QTri.steps Ad W 2 (st' := (2, [some (.ref 1), some (.int (v + (1 : Int32)))], [], (H1 s o e0))) rfl ?_
        obtain rfl := Option.some.inj h
        exact QTri.mask [true, true] (hc (v + (1 : Int32)) rfl)
    · refine QTri.brT Ad W (t := 33) (f := 16) (L := [some (.ref 1), some (.int v)]) (S := []) (σ := (H1 s o e0)) rfl (XT.ii_ge_t hc33) ?_
      refine QTri.steps Ad W 1 (st' := (34, [some (.ref 1), some (.int v)], [.int (-1 : Int32)], (H1 s o e0))) rfl ?_
      obtain rfl := Option.some.inj h
      obtain ⟨rfl, rfl⟩ := hx0 (-1 : Int32) rfl
      exact QTri.retI rfl rfl
  · refine QTri.brT Ad W (t := 33) (f := 10) (L := [some (.ref 1), some (.int v)]) (S := []) (σ := (H1 s o e0)) rfl (XT.ii_ge_t hc32) ?_
    refine QTri.steps Ad W 1 (st' := (34, [some (.ref 1), some (.int v)], [.int (-1 : Int32)], (H1 s o e0))) rfl ?_
    obtain rfl := Option.some.inj h
    obtain ⟨rfl, rfl⟩ := hx0 (-1 : Int32) rfl
    exact QTri.retI rfl rfl
/-- findFreeSlot()I -/
def F19 (o : Ob) : Option (Int32) :=
  (loopN (B19_2 o) qN (0 : Int32)).bind fun e36 => some e36
theorem tF19 (Ad : QAd n0 ad) (W : QW Z a0) (s : List Int32) (e0 : Ob) (o : Ob) {r : Int32} (h : F19 o = some r) : QTri l Z n0 ad 19 (0, qentry [.ref 1] (pMaxL 19), [], (H1 s o e0)) (some (Value.int r)) (H1 s o e0) := by
  unfold F19 at h
  refine QTri.steps Ad W 2 (st' := (2, [some (.ref 1), some (.int (0 : Int32))], [], (H1 s o e0))) rfl ?_
  obtain ⟨e36, he36, h⟩ := Option.bind_eq_some_iff.mp h
  refine QTri.mask [true, true] (loopN_tri (B := B19_2 o) (T := fun lv37 => QTri l Z n0 ad 19 (2, [some (.ref 1), some (.int lv37)], [], (H1 s o e0)) (some (Value.int r)) (H1 s o e0)) (KE := fun e36a => (some (Value.int r)) = (some (Value.int e36a)) ∧ (H1 s o e0) = (H1 s o e0)) (fun lv37 r hB hE hC => tB19_2 Ad W s e0 o lv37 hB (fun x q => hE _ q) (fun x q => hC x q)) qN (0 : Int32) e36 he36 ?_)
  obtain rfl := Option.some.inj h
  exact ⟨rfl, rfl⟩
def B21_35 (x2 : Int32) (v : Int32 × Ob) : Option (((Ob)) ⊕ (Int32 × Ob)) :=
  (if v.1 < (32 : Int32) then (aset (f_buffered v.2) (x2 + v.1) (0 : Int32)).bind fun y46 => some (.inr ((v.1 + (1 : Int32)), (s_buffered v.2 y46))) else some (.inl v.2))
theorem tB21_35 (Ad : QAd n0 ad) (W : QW Z a0) (s : List Int32) (e0 : Ob) (x2 : Int32) (v : Int32 × Ob) {r : ((Ob)) ⊕ (Int32 × Ob)} {u : Option Value} {τ : QHeap} (h : B21_35 x2 v = some r) (hx0 : ∀ x : Ob, r = .inl x → u = (none : Option Value) ∧ τ = (H1 s x e0)) (hc : ∀ x : Int32 × Ob, r = .inr x → QTri l Z n0 ad 21 (35, [some (.ref 1), none, some (.int x2), some (.int x.1)], [], (H1 s x.2 e0)) u τ) : QTri l Z n0 ad 21 (35, [some (.ref 1), none, some (.int x2), some (.int v.1)], [], (H1 s v.2 e0)) u τ := by
  unfold B21_35 at h
  refine QTri.steps Ad W 2 (st' := (38, [some (.ref 1), none, some (.int x2), some (.int v.1)], [.int (32 : Int32), .int v.1], (H1 s v.2 e0))) rfl ?_
  rcases qite h with ⟨hc45, h⟩ | ⟨hc45, h⟩
  · refine QTri.brF Ad W (t := 56) (f := 41) (L := [some (.ref 1), none, some (.int x2), some (.int v.1)]) (S := []) (σ := (H1 s v.2 e0)) rfl (XT.ii_ge_f hc45) ?_
    refine QTri.steps Ad W 6 (st' := (49, [some (.ref 1), none, some (.int x2), some (.int v.1)], [.int (0 : Int32), .int (x2 + v.1), .ref 8], (H1 s v.2 e0))) rfl ?_
    obtain ⟨y46, hy46, h⟩ := Option.bind_eq_some_iff.mp h
    refine QTri.bnd Ad W (f := fun y46 => (50, [some (.ref 1), none, some (.int x2), some (.int v.1)], [], [.inr (.inl (.int, s)), .inl [.ref 2, .ref 3, .ref 4, .ref 5, .ref 6, .ref 7, .ref 8, .int (f_keyCount v.2), .int (f_slotCount v.2), .int (f_window v.2), .int (f_commitCount v.2), .int (f_abortCount v.2), .int (f_lastConflict v.2)], .inr (.inl (.int, (f_value v.2))), .inr (.inl (.int, (f_version v.2))), .inr (.inl (.boolean, (f_active v.2))), .inr (.inl (.int, (f_start v.2))), .inr (.inl (.int, (f_readSet v.2))), .inr (.inl (.int, (f_writeSet v.2))), .inr (.inl (.int, y46)), .inl [.ref 10, .ref 11, .ref 12, .ref 13, .ref 14, .ref 15, .ref 16, .int (f_keyCount e0), .int (f_slotCount e0), .int (f_window e0), .int (f_commitCount e0), .int (f_abortCount e0), .int (f_lastConflict e0)], .inr (.inl (.int, (f_value e0))), .inr (.inl (.int, (f_version e0))), .inr (.inl (.boolean, (f_active e0))), .inr (.inl (.int, (f_start e0))), .inr (.inl (.int, (f_readSet e0))), .inr (.inl (.int, (f_writeSet e0))), .inr (.inl (.int, (f_buffered e0)))])) rfl hy46 ?_
    refine QTri.steps Ad W 2 (st' := (35, [some (.ref 1), none, some (.int x2), some (.int (v.1 + (1 : Int32)))], [], [.inr (.inl (.int, s)), .inl [.ref 2, .ref 3, .ref 4, .ref 5, .ref 6, .ref 7, .ref 8, .int (f_keyCount v.2), .int (f_slotCount v.2), .int (f_window v.2), .int (f_commitCount v.2), .int (f_abortCount v.2), .int (f_lastConflict v.2)], .inr (.inl (.int, (f_value v.2))), .inr (.inl (.int, (f_version v.2))), .inr (.inl (.boolean, (f_active v.2))), .inr (.inl (.int, (f_start v.2))), .inr (.inl (.int, (f_readSet v.2))), .inr (.inl (.int, (f_writeSet v.2))), .inr (.inl (.int, y46)), .inl [.ref 10, .ref 11, .ref 12, .ref 13, .ref 14, .ref 15, .ref 16, .int (f_keyCount e0), .int (f_slotCount e0), .int (f_window e0), .int (f_commitCount e0), .int (f_abortCount e0), .int (f_lastConflict e0)], .inr (.inl (.int, (f_value e0))), .inr (.inl (.int, (f_version e0))), .inr (.inl (.boolean, (f_active e0))), .inr (.inl (.int, (f_start e0))), .inr (.inl (.int, (f_readSet e0))), .inr (.inl (.int, (f_writeSet e0))), .inr (.inl (.int, (f_buffered e0)))])) rfl ?_
    have E47 : ([.inr (.inl (.int, s)), .inl [.ref 2, .ref 3, .ref 4, .ref 5, .ref 6, .ref 7, .ref 8, .int (f_keyCount v.2), .int (f_slotCount v.2), .int (f_window v.2), .int (f_commitCount v.2), .int (f_abortCount v.2), .int (f_lastConflict v.2)], .inr (.inl (.int, (f_value v.2))), .inr (.inl (.int, (f_version v.2))), .inr (.inl (.boolean, (f_active v.2))), .inr (.inl (.int, (f_start v.2))), .inr (.inl (.int, (f_readSet v.2))), .inr (.inl (.int, (f_writeSet v.2))), .inr (.inl (.int, y46)), .inl [.ref 10, .ref 11, .ref 12, .ref 13, .ref 14, .ref 15, .ref 16, .int (f_keyCount e0), .int (f_slotCount e0), .int (f_window e0), .int (f_commitCount e0), .int (f_abortCount e0), .int (f_lastConflict e0)], .inr (.inl (.int, (f_value e0))), .inr (.inl (.int, (f_version e0))), .inr (.inl (.boolean, (f_active e0))), .inr (.inl (.int, (f_start e0))), .inr (.inl (.int, (f_readSet e0))), .inr (.inl (.int, (f_writeSet e0))), .inr (.inl (.int, (f_buffered e0)))] : QHeap) = (H1 s (s_buffered v.2 y46) e0) := by dsimp only [H0, H1, f_value, f_version, f_active, f_start, f_readSet, f_writeSet, f_buffered, f_keyCount, f_slotCount, f_window, f_commitCount, f_abortCount, f_lastConflict, s_buffered]
    rw [E47]
    obtain rfl := Option.some.inj h
    exact QTri.mask [true, false, true, true] (hc ((v.1 + (1 : Int32)), (s_buffered v.2 y46)) rfl)
  · refine QTri.brT Ad W (t := 56) (f := 41) (L := [some (.ref 1), none, some (.int x2), some (.int v.1)]) (S := []) (σ := (H1 s v.2 e0)) rfl (XT.ii_ge_t hc45) ?_
    obtain rfl := Option.some.inj h
    obtain ⟨rfl, rfl⟩ := hx0 v.2 rfl
    exact QTri.ret0 rfl rfl
/-- clearSlot(I)V -/
def F21 (o : Ob) (x1 : Int32) : Option (Ob) :=
  (aset (f_active o) x1 (0 : Int32)).bind fun y40 => (aset (f_start o) x1 (0 : Int32)).bind fun y41 => (aset (f_readSet o) x1 (0 : Int32)).bind fun y42 => (aset (f_writeSet o) x1 (0 : Int32)).bind fun y43 => (loopN (B21_35 (x1 * (32 : Int32))) qN ((0 : Int32), (s_writeSet (s_readSet (s_start (s_active o y40) y41) y42) y43))).bind fun e48 => some e48
theorem tF21 (Ad : QAd n0 ad) (W : QW Z a0) (s : List Int32) (e0 : Ob) (o : Ob) (x1 : Int32) {r : Ob} (h : F21 o x1 = some r) : QTri l Z n0 ad 21 (0, qentry [.ref 1, .int x1] (pMaxL 21), [], (H1 s o e0)) (none : Option Value) (H1 s r e0) := by
  unfold F21 at h
  refine QTri.steps Ad W 4 (st' := (6, [some (.ref 1), some (.int x1), none, none], [.int (0 : Int32), .int x1, .ref 4], (H1 s o e0))) rfl ?_
  obtain ⟨y40, hy40, h⟩ := Option.bind_eq_some_iff.mp h
  refine QTri.bnd Ad W (f := fun y40 => (7, [some (.ref 1), some (.int x1), none, none], [], [.inr (.inl (.int, s)), .inl [.ref 2, .ref 3, .ref 4, .ref 5, .ref 6, .ref 7, .ref 8, .int (f_keyCount o), .int (f_slotCount o), .int (f_window o), .int (f_commitCount o), .int (f_abortCount o), .int (f_lastConflict o)], .inr (.inl (.int, (f_value o))), .inr (.inl (.int, (f_version o))), .inr (.inl (.boolean, y40)), .inr (.inl (.int, (f_start o))), .inr (.inl (.int, (f_readSet o))), .inr (.inl (.int, (f_writeSet o))), .inr (.inl (.int, (f_buffered o))), .inl [.ref 10, .ref 11, .ref 12, .ref 13, .ref 14, .ref 15, .ref 16, .int (f_keyCount e0), .int (f_slotCount e0), .int (f_window e0), .int (f_commitCount e0), .int (f_abortCount e0), .int (f_lastConflict e0)], .inr (.inl (.int, (f_value e0))), .inr (.inl (.int, (f_version e0))), .inr (.inl (.boolean, (f_active e0))), .inr (.inl (.int, (f_start e0))), .inr (.inl (.int, (f_readSet e0))), .inr (.inl (.int, (f_writeSet e0))), .inr (.inl (.int, (f_buffered e0)))])) rfl hy40 ?_
  refine QTri.steps Ad W 4 (st' := (13, [some (.ref 1), some (.int x1), none, none], [.int (0 : Int32), .int x1, .ref 5], [.inr (.inl (.int, s)), .inl [.ref 2, .ref 3, .ref 4, .ref 5, .ref 6, .ref 7, .ref 8, .int (f_keyCount o), .int (f_slotCount o), .int (f_window o), .int (f_commitCount o), .int (f_abortCount o), .int (f_lastConflict o)], .inr (.inl (.int, (f_value o))), .inr (.inl (.int, (f_version o))), .inr (.inl (.boolean, y40)), .inr (.inl (.int, (f_start o))), .inr (.inl (.int, (f_readSet o))), .inr (.inl (.int, (f_writeSet o))), .inr (.inl (.int, (f_buffered o))), .inl [.ref 10, .ref 11, .ref 12, .ref 13, .ref 14, .ref 15, .ref 16, .int (f_keyCount e0), .int (f_slotCount e0), .int (f_window e0), .int (f_commitCount e0), .int (f_abortCount e0), .int (f_lastConflict e0)], .inr (.inl (.int, (f_value e0))), .inr (.inl (.int, (f_version e0))), .inr (.inl (.boolean, (f_active e0))), .inr (.inl (.int, (f_start e0))), .inr (.inl (.int, (f_readSet e0))), .inr (.inl (.int, (f_writeSet e0))), .inr (.inl (.int, (f_buffered e0)))])) rfl ?_
  obtain ⟨y41, hy41, h⟩ := Option.bind_eq_some_iff.mp h
  refine QTri.bnd Ad W (f := fun y41 => (14, [some (.ref 1), some (.int x1), none, none], [], [.inr (.inl (.int, s)), .inl [.ref 2, .ref 3, .ref 4, .ref 5, .ref 6, .ref 7, .ref 8, .int (f_keyCount o), .int (f_slotCount o), .int (f_window o), .int (f_commitCount o), .int (f_abortCount o), .int (f_lastConflict o)], .inr (.inl (.int, (f_value o))), .inr (.inl (.int, (f_version o))), .inr (.inl (.boolean, y40)), .inr (.inl (.int, y41)), .inr (.inl (.int, (f_readSet o))), .inr (.inl (.int, (f_writeSet o))), .inr (.inl (.int, (f_buffered o))), .inl [.ref 10, .ref 11, .ref 12, .ref 13, .ref 14, .ref 15, .ref 16, .int (f_keyCount e0), .int (f_slotCount e0), .int (f_window e0), .int (f_commitCount e0), .int (f_abortCount e0), .int (f_lastConflict e0)], .inr (.inl (.int, (f_value e0))), .inr (.inl (.int, (f_version e0))), .inr (.inl (.boolean, (f_active e0))), .inr (.inl (.int, (f_start e0))), .inr (.inl (.int, (f_readSet e0))), .inr (.inl (.int, (f_writeSet e0))), .inr (.inl (.int, (f_buffered e0)))])) rfl hy41 ?_
  refine QTri.steps Ad W 4 (st' := (20, [some (.ref 1), some (.int x1), none, none], [.int (0 : Int32), .int x1, .ref 6], [.inr (.inl (.int, s)), .inl [.ref 2, .ref 3, .ref 4, .ref 5, .ref 6, .ref 7, .ref 8, .int (f_keyCount o), .int (f_slotCount o), .int (f_window o), .int (f_commitCount o), .int (f_abortCount o), .int (f_lastConflict o)], .inr (.inl (.int, (f_value o))), .inr (.inl (.int, (f_version o))), .inr (.inl (.boolean, y40)), .inr (.inl (.int, y41)), .inr (.inl (.int, (f_readSet o))), .inr (.inl (.int, (f_writeSet o))), .inr (.inl (.int, (f_buffered o))), .inl [.ref 10, .ref 11, .ref 12, .ref 13, .ref 14, .ref 15, .ref 16, .int (f_keyCount e0), .int (f_slotCount e0), .int (f_window e0), .int (f_commitCount e0), .int (f_abortCount e0), .int (f_lastConflict e0)], .inr (.inl (.int, (f_value e0))), .inr (.inl (.int, (f_version e0))), .inr (.inl (.boolean, (f_active e0))), .inr (.inl (.int, (f_start e0))), .inr (.inl (.int, (f_readSet e0))), .inr (.inl (.int, (f_writeSet e0))), .inr (.inl (.int, (f_buffered e0)))])) rfl ?_
  obtain ⟨y42, hy42, h⟩ := Option.bind_eq_some_iff.mp h
  refine QTri.bnd Ad W (f := fun y42 => (21, [some (.ref 1), some (.int x1), none, none], [], [.inr (.inl (.int, s)), .inl [.ref 2, .ref 3, .ref 4, .ref 5, .ref 6, .ref 7, .ref 8, .int (f_keyCount o), .int (f_slotCount o), .int (f_window o), .int (f_commitCount o), .int (f_abortCount o), .int (f_lastConflict o)], .inr (.inl (.int, (f_value o))), .inr (.inl (.int, (f_version o))), .inr (.inl (.boolean, y40)), .inr (.inl (.int, y41)), .inr (.inl (.int, y42)), .inr (.inl (.int, (f_writeSet o))), .inr (.inl (.int, (f_buffered o))), .inl [.ref 10, .ref 11, .ref 12, .ref 13, .ref 14, .ref 15, .ref 16, .int (f_keyCount e0), .int (f_slotCount e0), .int (f_window e0), .int (f_commitCount e0), .int (f_abortCount e0), .int (f_lastConflict e0)], .inr (.inl (.int, (f_value e0))), .inr (.inl (.int, (f_version e0))), .inr (.inl (.boolean, (f_active e0))), .inr (.inl (.int, (f_start e0))), .inr (.inl (.int, (f_readSet e0))), .inr (.inl (.int, (f_writeSet e0))), .inr (.inl (.int, (f_buffered e0)))])) rfl hy42 ?_
  refine QTri.steps Ad W 4 (st' := (27, [some (.ref 1), some (.int x1), none, none], [.int (0 : Int32), .int x1, .ref 7], [.inr (.inl (.int, s)), .inl [.ref 2, .ref 3, .ref 4, .ref 5, .ref 6, .ref 7, .ref 8, .int (f_keyCount o), .int (f_slotCount o), .int (f_window o), .int (f_commitCount o), .int (f_abortCount o), .int (f_lastConflict o)], .inr (.inl (.int, (f_value o))), .inr (.inl (.int, (f_version o))), .inr (.inl (.boolean, y40)), .inr (.inl (.int, y41)), .inr (.inl (.int, y42)), .inr (.inl (.int, (f_writeSet o))), .inr (.inl (.int, (f_buffered o))), .inl [.ref 10, .ref 11, .ref 12, .ref 13, .ref 14, .ref 15, .ref 16, .int (f_keyCount e0), .int (f_slotCount e0), .int (f_window e0), .int (f_commitCount e0), .int (f_abortCount e0), .int (f_lastConflict e0)], .inr (.inl (.int, (f_value e0))), .inr (.inl (.int, (f_version e0))), .inr (.inl (.boolean, (f_active e0))), .inr (.inl (.int, (f_start e0))), .inr (.inl (.int, (f_readSet e0))), .inr (.inl (.int, (f_writeSet e0))), .inr (.inl (.int, (f_buffered e0)))])) rfl ?_
  obtain ⟨y43, hy43, h⟩ := Option.bind_eq_some_iff.mp h
  refine QTri.bnd Ad W (f := fun y43 => (28, [some (.ref 1), some (.int x1), none, none], [], [.inr (.inl (.int, s)), .inl [.ref 2, .ref 3, .ref 4, .ref 5, .ref 6, .ref 7, .ref 8, .int (f_keyCount o), .int (f_slotCount o), .int (f_window o), .int (f_commitCount o), .int (f_abortCount o), .int (f_lastConflict o)], .inr (.inl (.int, (f_value o))), .inr (.inl (.int, (f_version o))), .inr (.inl (.boolean, y40)), .inr (.inl (.int, y41)), .inr (.inl (.int, y42)), .inr (.inl (.int, y43)), .inr (.inl (.int, (f_buffered o))), .inl [.ref 10, .ref 11, .ref 12, .ref 13, .ref 14, .ref 15, .ref 16, .int (f_keyCount e0), .int (f_slotCount e0), .int (f_window e0), .int (f_commitCount e0), .int (f_abortCount e0), .int (f_lastConflict e0)], .inr (.inl (.int, (f_value e0))), .inr (.inl (.int, (f_version e0))), .inr (.inl (.boolean, (f_active e0))), .inr (.inl (.int, (f_start e0))), .inr (.inl (.int, (f_readSet e0))), .inr (.inl (.int, (f_writeSet e0))), .inr (.inl (.int, (f_buffered e0)))])) rfl hy43 ?_
  refine QTri.steps Ad W 6 (st' := (35, [some (.ref 1), some (.int x1), some (.int (x1 * (32 : Int32))), some (.int (0 : Int32))], [], [.inr (.inl (.int, s)), .inl [.ref 2, .ref 3, .ref 4, .ref 5, .ref 6, .ref 7, .ref 8, .int (f_keyCount o), .int (f_slotCount o), .int (f_window o), .int (f_commitCount o), .int (f_abortCount o), .int (f_lastConflict o)], .inr (.inl (.int, (f_value o))), .inr (.inl (.int, (f_version o))), .inr (.inl (.boolean, y40)), .inr (.inl (.int, y41)), .inr (.inl (.int, y42)), .inr (.inl (.int, y43)), .inr (.inl (.int, (f_buffered o))), .inl [.ref 10, .ref 11, .ref 12, .ref 13, .ref 14, .ref 15, .ref 16, .int (f_keyCount e0), .int (f_slotCount e0), .int (f_window e0), .int (f_commitCount e0), .int (f_abortCount e0), .int (f_lastConflict e0)], .inr (.inl (.int, (f_value e0))), .inr (.inl (.int, (f_version e0))), .inr (.inl (.boolean, (f_active e0))), .inr (.inl (.int, (f_start e0))), .inr (.inl (.int, (f_readSet e0))), .inr (.inl (.int, (f_writeSet e0))), .inr (.inl (.int, (f_buffered e0)))])) rfl ?_
  have E44 : ([.inr (.inl (.int, s)), .inl [.ref 2, .ref 3, .ref 4, .ref 5, .ref 6, .ref 7, .ref 8, .int (f_keyCount o), .int (f_slotCount o), .int (f_window o), .int (f_commitCount o), .int (f_abortCount o), .int (f_lastConflict o)], .inr (.inl (.int, (f_value o))), .inr (.inl (.int, (f_version o))), .inr (.inl (.boolean, y40)), .inr (.inl (.int, y41)), .inr (.inl (.int, y42)), .inr (.inl (.int, y43)), .inr (.inl (.int, (f_buffered o))), .inl [.ref 10, .ref 11, .ref 12, .ref 13, .ref 14, .ref 15, .ref 16, .int (f_keyCount e0), .int (f_slotCount e0), .int (f_window e0), .int (f_commitCount e0), .int (f_abortCount e0), .int (f_lastConflict e0)], .inr (.inl (.int, (f_value e0))), .inr (.inl (.int, (f_version e0))), .inr (.inl (.boolean, (f_active e0))), .inr (.inl (.int, (f_start e0))), .inr (.inl (.int, (f_readSet e0))), .inr (.inl (.int, (f_writeSet e0))), .inr (.inl (.int, (f_buffered e0)))] : QHeap) = (H1 s (s_writeSet (s_readSet (s_start (s_active o y40) y41) y42) y43) e0) := by dsimp only [H0, H1, f_value, f_version, f_active, f_start, f_readSet, f_writeSet, f_buffered, f_keyCount, f_slotCount, f_window, f_commitCount, f_abortCount, f_lastConflict, s_active, s_start, s_readSet, s_writeSet]
  rw [E44]
  obtain ⟨e48, he48, h⟩ := Option.bind_eq_some_iff.mp h
  refine QTri.mask [true, false, true, true] (loopN_tri (B := B21_35 (x1 * (32 : Int32))) (T := fun lv49 => QTri l Z n0 ad 21 (35, [some (.ref 1), none, some (.int (x1 * (32 : Int32))), some (.int lv49.1)], [], (H1 s lv49.2 e0)) (none : Option Value) (H1 s r e0)) (KE := fun e48a => (none : Option Value) = (none : Option Value) ∧ (H1 s r e0) = (H1 s e48a e0)) (fun lv49 r hB hE hC => tB21_35 Ad W s e0 (x1 * (32 : Int32)) lv49 hB (fun x q => hE _ q) (fun x q => hC x q)) qN ((0 : Int32), (s_writeSet (s_readSet (s_start (s_active o y40) y41) y42) y43)) e48 he48 ?_)
  obtain rfl := Option.some.inj h
  exact ⟨rfl, rfl⟩
/-- openSlot(I)V -/
def F20 (o : Ob) (x1 : Int32) : Option (Ob) :=
  (F21 o x1).bind fun r50 => (aset (f_active r50) x1 (1 : Int32)).bind fun y51 => (aset (f_start r50) x1 (f_commitCount r50)).bind fun y52 => some (s_start (s_active r50 y51) y52)
theorem tF20 (Ad : QAd n0 ad) (W : QW Z a0) (s : List Int32) (e0 : Ob) (o : Ob) (x1 : Int32) {r : Ob} (h : F20 o x1 = some r) : QTri l Z n0 ad 20 (0, qentry [.ref 1, .int x1] (pMaxL 20), [], (H1 s o e0)) (none : Option Value) (H1 s r e0) := by
  unfold F20 at h
  refine QTri.steps Ad W 2 (st' := (2, [some (.ref 1), some (.int x1)], [.int x1, .ref 1], (H1 s o e0))) rfl ?_
  obtain ⟨r50, hr50, h⟩ := Option.bind_eq_some_iff.mp h
  refine QTri.callP W (a := 1) (as := [.int x1]) (rest := []) (w := none) (σ₁ := (H1 s r50 e0)) rfl rfl rfl rfl rfl rfl rfl rfl (tF21 Ad W s e0 o x1 hr50) ?_
  refine QTri.steps Ad W 4 (st' := (11, [some (.ref 1), some (.int x1)], [.int (1 : Int32), .int x1, .ref 4], (H1 s r50 e0))) rfl ?_
  obtain ⟨y51, hy51, h⟩ := Option.bind_eq_some_iff.mp h
  refine QTri.bnd Ad W (f := fun y51 => (12, [some (.ref 1), some (.int x1)], [], [.inr (.inl (.int, s)), .inl [.ref 2, .ref 3, .ref 4, .ref 5, .ref 6, .ref 7, .ref 8, .int (f_keyCount r50), .int (f_slotCount r50), .int (f_window r50), .int (f_commitCount r50), .int (f_abortCount r50), .int (f_lastConflict r50)], .inr (.inl (.int, (f_value r50))), .inr (.inl (.int, (f_version r50))), .inr (.inl (.boolean, y51)), .inr (.inl (.int, (f_start r50))), .inr (.inl (.int, (f_readSet r50))), .inr (.inl (.int, (f_writeSet r50))), .inr (.inl (.int, (f_buffered r50))), .inl [.ref 10, .ref 11, .ref 12, .ref 13, .ref 14, .ref 15, .ref 16, .int (f_keyCount e0), .int (f_slotCount e0), .int (f_window e0), .int (f_commitCount e0), .int (f_abortCount e0), .int (f_lastConflict e0)], .inr (.inl (.int, (f_value e0))), .inr (.inl (.int, (f_version e0))), .inr (.inl (.boolean, (f_active e0))), .inr (.inl (.int, (f_start e0))), .inr (.inl (.int, (f_readSet e0))), .inr (.inl (.int, (f_writeSet e0))), .inr (.inl (.int, (f_buffered e0)))])) rfl hy51 ?_
  refine QTri.steps Ad W 5 (st' := (21, [some (.ref 1), some (.int x1)], [.int (f_commitCount r50), .int x1, .ref 5], [.inr (.inl (.int, s)), .inl [.ref 2, .ref 3, .ref 4, .ref 5, .ref 6, .ref 7, .ref 8, .int (f_keyCount r50), .int (f_slotCount r50), .int (f_window r50), .int (f_commitCount r50), .int (f_abortCount r50), .int (f_lastConflict r50)], .inr (.inl (.int, (f_value r50))), .inr (.inl (.int, (f_version r50))), .inr (.inl (.boolean, y51)), .inr (.inl (.int, (f_start r50))), .inr (.inl (.int, (f_readSet r50))), .inr (.inl (.int, (f_writeSet r50))), .inr (.inl (.int, (f_buffered r50))), .inl [.ref 10, .ref 11, .ref 12, .ref 13, .ref 14, .ref 15, .ref 16, .int (f_keyCount e0), .int (f_slotCount e0), .int (f_window e0), .int (f_commitCount e0), .int (f_abortCount e0), .int (f_lastConflict e0)], .inr (.inl (.int, (f_value e0))), .inr (.inl (.int, (f_version e0))), .inr (.inl (.boolean, (f_active e0))), .inr (.inl (.int, (f_start e0))), .inr (.inl (.int, (f_readSet e0))), .inr (.inl (.int, (f_writeSet e0))), .inr (.inl (.int, (f_buffered e0)))])) rfl ?_
  obtain ⟨y52, hy52, h⟩ := Option.bind_eq_some_iff.mp h
  refine QTri.bnd Ad W (f := fun y52 => (22, [some (.ref 1), some (.int x1)], [], [.inr (.inl (.int, s)), .inl [.ref 2, .ref 3, .ref 4, .ref 5, .ref 6, .ref 7, .ref 8, .int (f_keyCount r50), .int (f_slotCount r50), .int (f_window r50), .int (f_commitCount r50), .int (f_abortCount r50), .int (f_lastConflict r50)], .inr (.inl (.int, (f_value r50))), .inr (.inl (.int, (f_version r50))), .inr (.inl (.boolean, y51)), .inr (.inl (.int, y52)), .inr (.inl (.int, (f_readSet r50))), .inr (.inl (.int, (f_writeSet r50))), .inr (.inl (.int, (f_buffered r50))), .inl [.ref 10, .ref 11, .ref 12, .ref 13, .ref 14, .ref 15, .ref 16, .int (f_keyCount e0), .int (f_slotCount e0), .int (f_window e0), .int (f_commitCount e0), .int (f_abortCount e0), .int (f_lastConflict e0)], .inr (.inl (.int, (f_value e0))), .inr (.inl (.int, (f_version e0))), .inr (.inl (.boolean, (f_active e0))), .inr (.inl (.int, (f_start e0))), .inr (.inl (.int, (f_readSet e0))), .inr (.inl (.int, (f_writeSet e0))), .inr (.inl (.int, (f_buffered e0)))])) rfl hy52 ?_
  have E53 : ([.inr (.inl (.int, s)), .inl [.ref 2, .ref 3, .ref 4, .ref 5, .ref 6, .ref 7, .ref 8, .int (f_keyCount r50), .int (f_slotCount r50), .int (f_window r50), .int (f_commitCount r50), .int (f_abortCount r50), .int (f_lastConflict r50)], .inr (.inl (.int, (f_value r50))), .inr (.inl (.int, (f_version r50))), .inr (.inl (.boolean, y51)), .inr (.inl (.int, y52)), .inr (.inl (.int, (f_readSet r50))), .inr (.inl (.int, (f_writeSet r50))), .inr (.inl (.int, (f_buffered r50))), .inl [.ref 10, .ref 11, .ref 12, .ref 13, .ref 14, .ref 15, .ref 16, .int (f_keyCount e0), .int (f_slotCount e0), .int (f_window e0), .int (f_commitCount e0), .int (f_abortCount e0), .int (f_lastConflict e0)], .inr (.inl (.int, (f_value e0))), .inr (.inl (.int, (f_version e0))), .inr (.inl (.boolean, (f_active e0))), .inr (.inl (.int, (f_start e0))), .inr (.inl (.int, (f_readSet e0))), .inr (.inl (.int, (f_writeSet e0))), .inr (.inl (.int, (f_buffered e0)))] : QHeap) = (H1 s (s_start (s_active r50 y51) y52) e0) := by dsimp only [H0, H1, f_value, f_version, f_active, f_start, f_readSet, f_writeSet, f_buffered, f_keyCount, f_slotCount, f_window, f_commitCount, f_abortCount, f_lastConflict, s_active, s_start]
  rw [E53]
  obtain rfl := Option.some.inj h
  exact QTri.ret0 rfl rfl
/-- begin()I -/
def F18 (o : Ob) : Option (Int32 × Ob) :=
  (F19 o).bind fun r38 => (if r38 < (0 : Int32) then some ((-5 : Int32), o) else (F20 o r38).bind fun r54 => some (r38, r54))
theorem tF18 (Ad : QAd n0 ad) (W : QW Z a0) (s : List Int32) (e0 : Ob) (o : Ob) {r : Int32 × Ob} (h : F18 o = some r) : QTri l Z n0 ad 18 (0, qentry [.ref 1] (pMaxL 18), [], (H1 s o e0)) (some (Value.int r.1)) (H1 s r.2 e0) := by
  unfold F18 at h
  refine QTri.steps Ad W 1 (st' := (1, [some (.ref 1), none], [.ref 1], (H1 s o e0))) rfl ?_
  obtain ⟨r38, hr38, h⟩ := Option.bind_eq_some_iff.mp h
  refine QTri.callP W (a := 1) (as := []) (rest := []) (w := (some (.int r38))) (σ₁ := (H1 s o e0)) rfl rfl rfl rfl rfl rfl rfl rfl (tF19 Ad W s e0 o hr38) ?_
  refine QTri.steps Ad W 2 (st' := (6, [some (.ref 1), some (.int r38)], [.int r38], (H1 s o e0))) rfl ?_
  rcases qite h with ⟨hc39, h⟩ | ⟨hc39, h⟩
  · refine QTri.brF Ad W (t := 12) (f := 9) (L := [some (.ref 1), some (.int r38)]) (S := []) (σ := (H1 s o e0)) rfl (XT.i0_ge_f hc39) ?_
    refine QTri.steps Ad W 1 (st' := (11, [some (.ref 1), some (.int r38)], [.int (-5 : Int32)], (H1 s o e0))) rfl ?_
    obtain rfl := Option.some.inj h
    exact QTri.retI rfl rfl
  · refine QTri.brT Ad W (t := 12) (f := 9) (L := [some (.ref 1), some (.int r38)]) (S := []) (σ := (H1 s o e0)) rfl (XT.i0_ge_t hc39) ?_
    refine QTri.steps Ad W 2 (st' := (14, [some (.ref 1), some (.int r38)], [.int r38, .ref 1], (H1 s o e0))) rfl ?_
    obtain ⟨r54, hr54, h⟩ := Option.bind_eq_some_iff.mp h
    refine QTri.callP W (a := 1) (as := [.int r38]) (rest := []) (w := none) (σ₁ := (H1 s r54 e0)) rfl rfl rfl rfl rfl rfl rfl rfl (tF20 Ad W s e0 o r38 hr54) ?_
    refine QTri.steps Ad W 1 (st' := (18, [some (.ref 1), some (.int r38)], [.int r38], (H1 s r54 e0))) rfl ?_
    obtain rfl := Option.some.inj h
    exact QTri.retI rfl rfl
theorem tB19_2a1 (Ad : QAd n0 ad) (W : QW Z a0) (s : List Int32) (e0 : Ob) (o : Ob) (v : Int32) {r : ((Int32)) ⊕ (Int32)} {u : Option Value} {τ : QHeap} (h : B19_2 o v = some r) (hx0 : ∀ x : Int32, r = .inl x → u = (some (Value.int x)) ∧ τ = (H1 s e0 o)) (hc : ∀ x : Int32, r = .inr x → QTri l Z n0 ad 19 (2, [some (.ref 9), some (.int x)], [], (H1 s e0 o)) u τ) : QTri l Z n0 ad 19 (2, [some (.ref 9), some (.int v)], [], (H1 s e0 o)) u τ := by
  unfold B19_2 at h
  refine QTri.steps Ad W 3 (st' := (7, [some (.ref 9), some (.int v)], [.int (f_slotCount o), .int v], (H1 s e0 o))) rfl ?_
  rcases qite h with ⟨hc61, h⟩ | ⟨hc61, h⟩
  · refine QTri.brF Ad W (t := 33) (f := 10) (L := [some (.ref 9), some (.int v)]) (S := []) (σ := (H1 s e0 o)) rfl (XT.ii_ge_f hc61) ?_
    refine QTri.steps Ad W 2 (st' := (13, [some (.ref 9), some (.int v)], [.int (8 : Int32), .int v], (H1 s e0 o))) rfl ?_
    rcases qite h with ⟨hc62, h⟩ | ⟨hc62, h⟩
    · refine QTri.brF Ad W (t := 33) (f := 16) (L := [some (.ref 9), some (.int v)]) (S := []) (σ := (H1 s e0 o)) rfl (XT.ii_ge_f hc62) ?_
      refine QTri.steps Ad W 3 (st' := (21, [some (.ref 9), some (.int v)], [.int v, .ref 12], (H1 s e0 o))) rfl ?_
      obtain ⟨y63, hy63, h⟩ := Option.bind_eq_some_iff.mp h
      refine QTri.bnd Ad W (f := fun y63 => (22, [some (.ref 9), some (.int v)], [.int y63], (H1 s e0 o))) rfl hy63 ?_
      rcases qite h with ⟨hc64, h⟩ | ⟨hc64, h⟩
      · refine QTri.brF Ad W (t := 27) (f := 25) (L := [some (.ref 9), some (.int v)]) (S := []) (σ := (H1 s e0 o)) rfl (XT.i0_ne_f hc64) ?_
        refine QTri.steps Ad W 1 (st' := (26, [some (.ref 9), some (.int v)], [.int v], (H1 s e0 o))) rfl ?_
        obtain rfl := Option.some.inj h
        obtain ⟨rfl, rfl⟩ := hx0 v rfl
        exact QTri.retI rfl rfl
      · refine QTri.brT Ad W (t := 27) (f := 25) (L := [some (.ref 9), some (.int v)]) (S := []) (σ := (H1 s e0 o)) rfl (XT.i0_ne_t hc64) ?_
        refine QTri.steps Ad W 2 (st' := (2, [some (.ref 9), some (.int (v + (1 : Int32)))], [], (H1 s e0 o))) rfl ?_
        obtain rfl := Option.some.inj h
        exact QTri.mask [true, true] (hc (v + (1 : Int32)) rfl)
    · refine QTri.brT Ad W (t := 33) (f := 16) (L := [some (.ref 9), some (.int v)]) (S := []) (σ := (H1 s e0 o)) rfl (XT.ii_ge_t hc62) ?_
      refine QTri.steps Ad W 1 (st' := (34, [some (.ref 9), some (.int v)], [.int (-1 : Int32)], (H1 s e0 o))) rfl ?_
      obtain rfl := Option.some.inj h
      obtain ⟨rfl, rfl⟩ := hx0 (-1 : Int32) rfl
      exact QTri.retI rfl rfl
  · refine QTri.brT Ad W (t := 33) (f := 10) (L := [some (.ref 9), some (.int v)]) (S := []) (σ := (H1 s e0 o)) rfl (XT.ii_ge_t hc61) ?_
    refine QTri.steps Ad W 1 (st' := (34, [some (.ref 9), some (.int v)], [.int (-1 : Int32)], (H1 s e0 o))) rfl ?_
    obtain rfl := Option.some.inj h
    obtain ⟨rfl, rfl⟩ := hx0 (-1 : Int32) rfl
    exact QTri.retI rfl rfl
theorem tF19a1 (Ad : QAd n0 ad) (W : QW Z a0) (s : List Int32) (e0 : Ob) (o : Ob) {r : Int32} (h : F19 o = some r) : QTri l Z n0 ad 19 (0, qentry [.ref 9] (pMaxL 19), [], (H1 s e0 o)) (some (Value.int r)) (H1 s e0 o) := by
  unfold F19 at h
  refine QTri.steps Ad W 2 (st' := (2, [some (.ref 9), some (.int (0 : Int32))], [], (H1 s e0 o))) rfl ?_
  obtain ⟨e65, he65, h⟩ := Option.bind_eq_some_iff.mp h
  refine QTri.mask [true, true] (loopN_tri (B := B19_2 o) (T := fun lv66 => QTri l Z n0 ad 19 (2, [some (.ref 9), some (.int lv66)], [], (H1 s e0 o)) (some (Value.int r)) (H1 s e0 o)) (KE := fun e65a => (some (Value.int r)) = (some (Value.int e65a)) ∧ (H1 s e0 o) = (H1 s e0 o)) (fun lv66 r hB hE hC => tB19_2a1 Ad W s e0 o lv66 hB (fun x q => hE _ q) (fun x q => hC x q)) qN (0 : Int32) e65 he65 ?_)
  obtain rfl := Option.some.inj h
  exact ⟨rfl, rfl⟩
theorem tB21_35a1 (Ad : QAd n0 ad) (W : QW Z a0) (s : List Int32) (e0 : Ob) (x2 : Int32) (v : Int32 × Ob) {r : ((Ob)) ⊕ (Int32 × Ob)} {u : Option Value} {τ : QHeap} (h : B21_35 x2 v = some r) (hx0 : ∀ x : Ob, r = .inl x → u = (none : Option Value) ∧ τ = (H1 s e0 x)) (hc : ∀ x : Int32 × Ob, r = .inr x → QTri l Z n0 ad 21 (35, [some (.ref 9), none, some (.int x2), some (.int x.1)], [], (H1 s e0 x.2)) u τ) : QTri l Z n0 ad 21 (35, [some (.ref 9), none, some (.int x2), some (.int v.1)], [], (H1 s e0 v.2)) u τ := by
  unfold B21_35 at h
  refine QTri.steps Ad W 2 (st' := (38, [some (.ref 9), none, some (.int x2), some (.int v.1)], [.int (32 : Int32), .int v.1], (H1 s e0 v.2))) rfl ?_
  rcases qite h with ⟨hc74, h⟩ | ⟨hc74, h⟩
  · refine QTri.brF Ad W (t := 56) (f := 41) (L := [some (.ref 9), none, some (.int x2), some (.int v.1)]) (S := []) (σ := (H1 s e0 v.2)) rfl (XT.ii_ge_f hc74) ?_
    refine QTri.steps Ad W 6 (st' := (49, [some (.ref 9), none, some (.int x2), some (.int v.1)], [.int (0 : Int32), .int (x2 + v.1), .ref 16], (H1 s e0 v.2))) rfl ?_
    obtain ⟨y75, hy75, h⟩ := Option.bind_eq_some_iff.mp h
    refine QTri.bnd Ad W (f := fun y75 => (50, [some (.ref 9), none, some (.int x2), some (.int v.1)], [], [.inr (.inl (.int, s)), .inl [.ref 2, .ref 3, .ref 4, .ref 5, .ref 6, .ref 7, .ref 8, .int (f_keyCount e0), .int (f_slotCount e0), .int (f_window e0), .int (f_commitCount e0), .int (f_abortCount e0), .int (f_lastConflict e0)], .inr (.inl (.int, (f_value e0))), .inr (.inl (.int, (f_version e0))), .inr (.inl (.boolean, (f_active e0))), .inr (.inl (.int, (f_start e0))), .inr (.inl (.int, (f_readSet e0))), .inr (.inl (.int, (f_writeSet e0))), .inr (.inl (.int, (f_buffered e0))), .inl [.ref 10, .ref 11, .ref 12, .ref 13, .ref 14, .ref 15, .ref 16, .int (f_keyCount v.2), .int (f_slotCount v.2), .int (f_window v.2), .int (f_commitCount v.2), .int (f_abortCount v.2), .int (f_lastConflict v.2)], .inr (.inl (.int, (f_value v.2))), .inr (.inl (.int, (f_version v.2))), .inr (.inl (.boolean, (f_active v.2))), .inr (.inl (.int, (f_start v.2))), .inr (.inl (.int, (f_readSet v.2))), .inr (.inl (.int, (f_writeSet v.2))), .inr (.inl (.int, y75))])) rfl hy75 ?_
    refine QTri.steps Ad W 2 (st' := (35, [some (.ref 9), none, some (.int x2), some (.int (v.1 + (1 : Int32)))], [], [.inr (.inl (.int, s)), .inl [.ref 2, .ref 3, .ref 4, .ref 5, .ref 6, .ref 7, .ref 8, .int (f_keyCount e0), .int (f_slotCount e0), .int (f_window e0), .int (f_commitCount e0), .int (f_abortCount e0), .int (f_lastConflict e0)], .inr (.inl (.int, (f_value e0))), .inr (.inl (.int, (f_version e0))), .inr (.inl (.boolean, (f_active e0))), .inr (.inl (.int, (f_start e0))), .inr (.inl (.int, (f_readSet e0))), .inr (.inl (.int, (f_writeSet e0))), .inr (.inl (.int, (f_buffered e0))), .inl [.ref 10, .ref 11, .ref 12, .ref 13, .ref 14, .ref 15, .ref 16, .int (f_keyCount v.2), .int (f_slotCount v.2), .int (f_window v.2), .int (f_commitCount v.2), .int (f_abortCount v.2), .int (f_lastConflict v.2)], .inr (.inl (.int, (f_value v.2))), .inr (.inl (.int, (f_version v.2))), .inr (.inl (.boolean, (f_active v.2))), .inr (.inl (.int, (f_start v.2))), .inr (.inl (.int, (f_readSet v.2))), .inr (.inl (.int, (f_writeSet v.2))), .inr (.inl (.int, y75))])) rfl ?_
    have E76 : ([.inr (.inl (.int, s)), .inl [.ref 2, .ref 3, .ref 4, .ref 5, .ref 6, .ref 7, .ref 8, .int (f_keyCount e0), .int (f_slotCount e0), .int (f_window e0), .int (f_commitCount e0), .int (f_abortCount e0), .int (f_lastConflict e0)], .inr (.inl (.int, (f_value e0))), .inr (.inl (.int, (f_version e0))), .inr (.inl (.boolean, (f_active e0))), .inr (.inl (.int, (f_start e0))), .inr (.inl (.int, (f_readSet e0))), .inr (.inl (.int, (f_writeSet e0))), .inr (.inl (.int, (f_buffered e0))), .inl [.ref 10, .ref 11, .ref 12, .ref 13, .ref 14, .ref 15, .ref 16, .int (f_keyCount v.2), .int (f_slotCount v.2), .int (f_window v.2), .int (f_commitCount v.2), .int (f_abortCount v.2), .int (f_lastConflict v.2)], .inr (.inl (.int, (f_value v.2))), .inr (.inl (.int, (f_version v.2))), .inr (.inl (.boolean, (f_active v.2))), .inr (.inl (.int, (f_start v.2))), .inr (.inl (.int, (f_readSet v.2))), .inr (.inl (.int, (f_writeSet v.2))), .inr (.inl (.int, y75))] : QHeap) = (H1 s e0 (s_buffered v.2 y75)) := by dsimp only [H0, H1, f_value, f_version, f_active, f_start, f_readSet, f_writeSet, f_buffered, f_keyCount, f_slotCount, f_window, f_commitCount, f_abortCount, f_lastConflict, s_buffered]
    rw [E76]
    obtain rfl := Option.some.inj h
    exact QTri.mask [true, false, true, true] (hc ((v.1 + (1 : Int32)), (s_buffered v.2 y75)) rfl)
  · refine QTri.brT Ad W (t := 56) (f := 41) (L := [some (.ref 9), none, some (.int x2), some (.int v.1)]) (S := []) (σ := (H1 s e0 v.2)) rfl (XT.ii_ge_t hc74) ?_
    obtain rfl := Option.some.inj h
    obtain ⟨rfl, rfl⟩ := hx0 v.2 rfl
    exact QTri.ret0 rfl rfl
theorem tF21a1 (Ad : QAd n0 ad) (W : QW Z a0) (s : List Int32) (e0 : Ob) (o : Ob) (x1 : Int32) {r : Ob} (h : F21 o x1 = some r) : QTri l Z n0 ad 21 (0, qentry [.ref 9, .int x1] (pMaxL 21), [], (H1 s e0 o)) (none : Option Value) (H1 s e0 r) := by
  unfold F21 at h
  refine QTri.steps Ad W 4 (st' := (6, [some (.ref 9), some (.int x1), none, none], [.int (0 : Int32), .int x1, .ref 12], (H1 s e0 o))) rfl ?_
  obtain ⟨y69, hy69, h⟩ := Option.bind_eq_some_iff.mp h
  refine QTri.bnd Ad W (f := fun y69 => (7, [some (.ref 9), some (.int x1), none, none], [], [.inr (.inl (.int, s)), .inl [.ref 2, .ref 3, .ref 4, .ref 5, .ref 6, .ref 7, .ref 8, .int (f_keyCount e0), .int (f_slotCount e0), .int (f_window e0), .int (f_commitCount e0), .int (f_abortCount e0), .int (f_lastConflict e0)], .inr (.inl (.int, (f_value e0))), .inr (.inl (.int, (f_version e0))), .inr (.inl (.boolean, (f_active e0))), .inr (.inl (.int, (f_start e0))), .inr (.inl (.int, (f_readSet e0))), .inr (.inl (.int, (f_writeSet e0))), .inr (.inl (.int, (f_buffered e0))), .inl [.ref 10, .ref 11, .ref 12, .ref 13, .ref 14, .ref 15, .ref 16, .int (f_keyCount o), .int (f_slotCount o), .int (f_window o), .int (f_commitCount o), .int (f_abortCount o), .int (f_lastConflict o)], .inr (.inl (.int, (f_value o))), .inr (.inl (.int, (f_version o))), .inr (.inl (.boolean, y69)), .inr (.inl (.int, (f_start o))), .inr (.inl (.int, (f_readSet o))), .inr (.inl (.int, (f_writeSet o))), .inr (.inl (.int, (f_buffered o)))])) rfl hy69 ?_
  refine QTri.steps Ad W 4 (st' := (13, [some (.ref 9), some (.int x1), none, none], [.int (0 : Int32), .int x1, .ref 13], [.inr (.inl (.int, s)), .inl [.ref 2, .ref 3, .ref 4, .ref 5, .ref 6, .ref 7, .ref 8, .int (f_keyCount e0), .int (f_slotCount e0), .int (f_window e0), .int (f_commitCount e0), .int (f_abortCount e0), .int (f_lastConflict e0)], .inr (.inl (.int, (f_value e0))), .inr (.inl (.int, (f_version e0))), .inr (.inl (.boolean, (f_active e0))), .inr (.inl (.int, (f_start e0))), .inr (.inl (.int, (f_readSet e0))), .inr (.inl (.int, (f_writeSet e0))), .inr (.inl (.int, (f_buffered e0))), .inl [.ref 10, .ref 11, .ref 12, .ref 13, .ref 14, .ref 15, .ref 16, .int (f_keyCount o), .int (f_slotCount o), .int (f_window o), .int (f_commitCount o), .int (f_abortCount o), .int (f_lastConflict o)], .inr (.inl (.int, (f_value o))), .inr (.inl (.int, (f_version o))), .inr (.inl (.boolean, y69)), .inr (.inl (.int, (f_start o))), .inr (.inl (.int, (f_readSet o))), .inr (.inl (.int, (f_writeSet o))), .inr (.inl (.int, (f_buffered o)))])) rfl ?_
  obtain ⟨y70, hy70, h⟩ := Option.bind_eq_some_iff.mp h
  refine QTri.bnd Ad W (f := fun y70 => (14, [some (.ref 9), some (.int x1), none, none], [], [.inr (.inl (.int, s)), .inl [.ref 2, .ref 3, .ref 4, .ref 5, .ref 6, .ref 7, .ref 8, .int (f_keyCount e0), .int (f_slotCount e0), .int (f_window e0), .int (f_commitCount e0), .int (f_abortCount e0), .int (f_lastConflict e0)], .inr (.inl (.int, (f_value e0))), .inr (.inl (.int, (f_version e0))), .inr (.inl (.boolean, (f_active e0))), .inr (.inl (.int, (f_start e0))), .inr (.inl (.int, (f_readSet e0))), .inr (.inl (.int, (f_writeSet e0))), .inr (.inl (.int, (f_buffered e0))), .inl [.ref 10, .ref 11, .ref 12, .ref 13, .ref 14, .ref 15, .ref 16, .int (f_keyCount o), .int (f_slotCount o), .int (f_window o), .int (f_commitCount o), .int (f_abortCount o), .int (f_lastConflict o)], .inr (.inl (.int, (f_value o))), .inr (.inl (.int, (f_version o))), .inr (.inl (.boolean, y69)), .inr (.inl (.int, y70)), .inr (.inl (.int, (f_readSet o))), .inr (.inl (.int, (f_writeSet o))), .inr (.inl (.int, (f_buffered o)))])) rfl hy70 ?_
  refine QTri.steps Ad W 4 (st' := (20, [some (.ref 9), some (.int x1), none, none], [.int (0 : Int32), .int x1, .ref 14], [.inr (.inl (.int, s)), .inl [.ref 2, .ref 3, .ref 4, .ref 5, .ref 6, .ref 7, .ref 8, .int (f_keyCount e0), .int (f_slotCount e0), .int (f_window e0), .int (f_commitCount e0), .int (f_abortCount e0), .int (f_lastConflict e0)], .inr (.inl (.int, (f_value e0))), .inr (.inl (.int, (f_version e0))), .inr (.inl (.boolean, (f_active e0))), .inr (.inl (.int, (f_start e0))), .inr (.inl (.int, (f_readSet e0))), .inr (.inl (.int, (f_writeSet e0))), .inr (.inl (.int, (f_buffered e0))), .inl [.ref 10, .ref 11, .ref 12, .ref 13, .ref 14, .ref 15, .ref 16, .int (f_keyCount o), .int (f_slotCount o), .int (f_window o), .int (f_commitCount o), .int (f_abortCount o), .int (f_lastConflict o)], .inr (.inl (.int, (f_value o))), .inr (.inl (.int, (f_version o))), .inr (.inl (.boolean, y69)), .inr (.inl (.int, y70)), .inr (.inl (.int, (f_readSet o))), .inr (.inl (.int, (f_writeSet o))), .inr (.inl (.int, (f_buffered o)))])) rfl ?_
  obtain ⟨y71, hy71, h⟩ := Option.bind_eq_some_iff.mp h
  refine QTri.bnd Ad W (f := fun y71 => (21, [some (.ref 9), some (.int x1), none, none], [], [.inr (.inl (.int, s)), .inl [.ref 2, .ref 3, .ref 4, .ref 5, .ref 6, .ref 7, .ref 8, .int (f_keyCount e0), .int (f_slotCount e0), .int (f_window e0), .int (f_commitCount e0), .int (f_abortCount e0), .int (f_lastConflict e0)], .inr (.inl (.int, (f_value e0))), .inr (.inl (.int, (f_version e0))), .inr (.inl (.boolean, (f_active e0))), .inr (.inl (.int, (f_start e0))), .inr (.inl (.int, (f_readSet e0))), .inr (.inl (.int, (f_writeSet e0))), .inr (.inl (.int, (f_buffered e0))), .inl [.ref 10, .ref 11, .ref 12, .ref 13, .ref 14, .ref 15, .ref 16, .int (f_keyCount o), .int (f_slotCount o), .int (f_window o), .int (f_commitCount o), .int (f_abortCount o), .int (f_lastConflict o)], .inr (.inl (.int, (f_value o))), .inr (.inl (.int, (f_version o))), .inr (.inl (.boolean, y69)), .inr (.inl (.int, y70)), .inr (.inl (.int, y71)), .inr (.inl (.int, (f_writeSet o))), .inr (.inl (.int, (f_buffered o)))])) rfl hy71 ?_
  refine QTri.steps Ad W 4 (st' := (27, [some (.ref 9), some (.int x1), none, none], [.int (0 : Int32), .int x1, .ref 15], [.inr (.inl (.int, s)), .inl [.ref 2, .ref 3, .ref 4, .ref 5, .ref 6, .ref 7, .ref 8, .int (f_keyCount e0), .int (f_slotCount e0), .int (f_window e0), .int (f_commitCount e0), .int (f_abortCount e0), .int (f_lastConflict e0)], .inr (.inl (.int, (f_value e0))), .inr (.inl (.int, (f_version e0))), .inr (.inl (.boolean, (f_active e0))), .inr (.inl (.int, (f_start e0))), .inr (.inl (.int, (f_readSet e0))), .inr (.inl (.int, (f_writeSet e0))), .inr (.inl (.int, (f_buffered e0))), .inl [.ref 10, .ref 11, .ref 12, .ref 13, .ref 14, .ref 15, .ref 16, .int (f_keyCount o), .int (f_slotCount o), .int (f_window o), .int (f_commitCount o), .int (f_abortCount o), .int (f_lastConflict o)], .inr (.inl (.int, (f_value o))), .inr (.inl (.int, (f_version o))), .inr (.inl (.boolean, y69)), .inr (.inl (.int, y70)), .inr (.inl (.int, y71)), .inr (.inl (.int, (f_writeSet o))), .inr (.inl (.int, (f_buffered o)))])) rfl ?_
  obtain ⟨y72, hy72, h⟩ := Option.bind_eq_some_iff.mp h
  refine QTri.bnd Ad W (f := fun y72 => (28, [some (.ref 9), some (.int x1), none, none], [], [.inr (.inl (.int, s)), .inl [.ref 2, .ref 3, .ref 4, .ref 5, .ref 6, .ref 7, .ref 8, .int (f_keyCount e0), .int (f_slotCount e0), .int (f_window e0), .int (f_commitCount e0), .int (f_abortCount e0), .int (f_lastConflict e0)], .inr (.inl (.int, (f_value e0))), .inr (.inl (.int, (f_version e0))), .inr (.inl (.boolean, (f_active e0))), .inr (.inl (.int, (f_start e0))), .inr (.inl (.int, (f_readSet e0))), .inr (.inl (.int, (f_writeSet e0))), .inr (.inl (.int, (f_buffered e0))), .inl [.ref 10, .ref 11, .ref 12, .ref 13, .ref 14, .ref 15, .ref 16, .int (f_keyCount o), .int (f_slotCount o), .int (f_window o), .int (f_commitCount o), .int (f_abortCount o), .int (f_lastConflict o)], .inr (.inl (.int, (f_value o))), .inr (.inl (.int, (f_version o))), .inr (.inl (.boolean, y69)), .inr (.inl (.int, y70)), .inr (.inl (.int, y71)), .inr (.inl (.int, y72)), .inr (.inl (.int, (f_buffered o)))])) rfl hy72 ?_
  refine QTri.steps Ad W 6 (st' := (35, [some (.ref 9), some (.int x1), some (.int (x1 * (32 : Int32))), some (.int (0 : Int32))], [], [.inr (.inl (.int, s)), .inl [.ref 2, .ref 3, .ref 4, .ref 5, .ref 6, .ref 7, .ref 8, .int (f_keyCount e0), .int (f_slotCount e0), .int (f_window e0), .int (f_commitCount e0), .int (f_abortCount e0), .int (f_lastConflict e0)], .inr (.inl (.int, (f_value e0))), .inr (.inl (.int, (f_version e0))), .inr (.inl (.boolean, (f_active e0))), .inr (.inl (.int, (f_start e0))), .inr (.inl (.int, (f_readSet e0))), .inr (.inl (.int, (f_writeSet e0))), .inr (.inl (.int, (f_buffered e0))), .inl [.ref 10, .ref 11, .ref 12, .ref 13, .ref 14, .ref 15, .ref 16, .int (f_keyCount o), .int (f_slotCount o), .int (f_window o), .int (f_commitCount o), .int (f_abortCount o), .int (f_lastConflict o)], .inr (.inl (.int, (f_value o))), .inr (.inl (.int, (f_version o))), .inr (.inl (.boolean, y69)), .inr (.inl (.int, y70)), .inr (.inl (.int, y71)), .inr (.inl (.int, y72)), .inr (.inl (.int, (f_buffered o)))])) rfl ?_
  have E73 : ([.inr (.inl (.int, s)), .inl [.ref 2, .ref 3, .ref 4, .ref 5, .ref 6, .ref 7, .ref 8, .int (f_keyCount e0), .int (f_slotCount e0), .int (f_window e0), .int (f_commitCount e0), .int (f_abortCount e0), .int (f_lastConflict e0)], .inr (.inl (.int, (f_value e0))), .inr (.inl (.int, (f_version e0))), .inr (.inl (.boolean, (f_active e0))), .inr (.inl (.int, (f_start e0))), .inr (.inl (.int, (f_readSet e0))), .inr (.inl (.int, (f_writeSet e0))), .inr (.inl (.int, (f_buffered e0))), .inl [.ref 10, .ref 11, .ref 12, .ref 13, .ref 14, .ref 15, .ref 16, .int (f_keyCount o), .int (f_slotCount o), .int (f_window o), .int (f_commitCount o), .int (f_abortCount o), .int (f_lastConflict o)], .inr (.inl (.int, (f_value o))), .inr (.inl (.int, (f_version o))), .inr (.inl (.boolean, y69)), .inr (.inl (.int, y70)), .inr (.inl (.int, y71)), .inr (.inl (.int, y72)), .inr (.inl (.int, (f_buffered o)))] : QHeap) = (H1 s e0 (s_writeSet (s_readSet (s_start (s_active o y69) y70) y71) y72)) := by dsimp only [H0, H1, f_value, f_version, f_active, f_start, f_readSet, f_writeSet, f_buffered, f_keyCount, f_slotCount, f_window, f_commitCount, f_abortCount, f_lastConflict, s_active, s_start, s_readSet, s_writeSet]
  rw [E73]
  obtain ⟨e77, he77, h⟩ := Option.bind_eq_some_iff.mp h
  refine QTri.mask [true, false, true, true] (loopN_tri (B := B21_35 (x1 * (32 : Int32))) (T := fun lv78 => QTri l Z n0 ad 21 (35, [some (.ref 9), none, some (.int (x1 * (32 : Int32))), some (.int lv78.1)], [], (H1 s e0 lv78.2)) (none : Option Value) (H1 s e0 r)) (KE := fun e77a => (none : Option Value) = (none : Option Value) ∧ (H1 s e0 r) = (H1 s e0 e77a)) (fun lv78 r hB hE hC => tB21_35a1 Ad W s e0 (x1 * (32 : Int32)) lv78 hB (fun x q => hE _ q) (fun x q => hC x q)) qN ((0 : Int32), (s_writeSet (s_readSet (s_start (s_active o y69) y70) y71) y72)) e77 he77 ?_)
  obtain rfl := Option.some.inj h
  exact ⟨rfl, rfl⟩
theorem tF20a1 (Ad : QAd n0 ad) (W : QW Z a0) (s : List Int32) (e0 : Ob) (o : Ob) (x1 : Int32) {r : Ob} (h : F20 o x1 = some r) : QTri l Z n0 ad 20 (0, qentry [.ref 9, .int x1] (pMaxL 20), [], (H1 s e0 o)) (none : Option Value) (H1 s e0 r) := by
  unfold F20 at h
  refine QTri.steps Ad W 2 (st' := (2, [some (.ref 9), some (.int x1)], [.int x1, .ref 9], (H1 s e0 o))) rfl ?_
  obtain ⟨r79, hr79, h⟩ := Option.bind_eq_some_iff.mp h
  refine QTri.callP W (a := 9) (as := [.int x1]) (rest := []) (w := none) (σ₁ := (H1 s e0 r79)) rfl rfl rfl rfl rfl rfl rfl rfl (tF21a1 Ad W s e0 o x1 hr79) ?_
  refine QTri.steps Ad W 4 (st' := (11, [some (.ref 9), some (.int x1)], [.int (1 : Int32), .int x1, .ref 12], (H1 s e0 r79))) rfl ?_
  obtain ⟨y80, hy80, h⟩ := Option.bind_eq_some_iff.mp h
  refine QTri.bnd Ad W (f := fun y80 => (12, [some (.ref 9), some (.int x1)], [], [.inr (.inl (.int, s)), .inl [.ref 2, .ref 3, .ref 4, .ref 5, .ref 6, .ref 7, .ref 8, .int (f_keyCount e0), .int (f_slotCount e0), .int (f_window e0), .int (f_commitCount e0), .int (f_abortCount e0), .int (f_lastConflict e0)], .inr (.inl (.int, (f_value e0))), .inr (.inl (.int, (f_version e0))), .inr (.inl (.boolean, (f_active e0))), .inr (.inl (.int, (f_start e0))), .inr (.inl (.int, (f_readSet e0))), .inr (.inl (.int, (f_writeSet e0))), .inr (.inl (.int, (f_buffered e0))), .inl [.ref 10, .ref 11, .ref 12, .ref 13, .ref 14, .ref 15, .ref 16, .int (f_keyCount r79), .int (f_slotCount r79), .int (f_window r79), .int (f_commitCount r79), .int (f_abortCount r79), .int (f_lastConflict r79)], .inr (.inl (.int, (f_value r79))), .inr (.inl (.int, (f_version r79))), .inr (.inl (.boolean, y80)), .inr (.inl (.int, (f_start r79))), .inr (.inl (.int, (f_readSet r79))), .inr (.inl (.int, (f_writeSet r79))), .inr (.inl (.int, (f_buffered r79)))])) rfl hy80 ?_
  refine QTri.steps Ad W 5 (st' := (21, [some (.ref 9), some (.int x1)], [.int (f_commitCount r79), .int x1, .ref 13], [.inr (.inl (.int, s)), .inl [.ref 2, .ref 3, .ref 4, .ref 5, .ref 6, .ref 7, .ref 8, .int (f_keyCount e0), .int (f_slotCount e0), .int (f_window e0), .int (f_commitCount e0), .int (f_abortCount e0), .int (f_lastConflict e0)], .inr (.inl (.int, (f_value e0))), .inr (.inl (.int, (f_version e0))), .inr (.inl (.boolean, (f_active e0))), .inr (.inl (.int, (f_start e0))), .inr (.inl (.int, (f_readSet e0))), .inr (.inl (.int, (f_writeSet e0))), .inr (.inl (.int, (f_buffered e0))), .inl [.ref 10, .ref 11, .ref 12, .ref 13, .ref 14, .ref 15, .ref 16, .int (f_keyCount r79), .int (f_slotCount r79), .int (f_window r79), .int (f_commitCount r79), .int (f_abortCount r79), .int (f_lastConflict r79)], .inr (.inl (.int, (f_value r79))), .inr (.inl (.int, (f_version r79))), .inr (.inl (.boolean, y80)), .inr (.inl (.int, (f_start r79))), .inr (.inl (.int, (f_readSet r79))), .inr (.inl (.int, (f_writeSet r79))), .inr (.inl (.int, (f_buffered r79)))])) rfl ?_
  obtain ⟨y81, hy81, h⟩ := Option.bind_eq_some_iff.mp h
  refine QTri.bnd Ad W (f := fun y81 => (22, [some (.ref 9), some (.int x1)], [], [.inr (.inl (.int, s)), .inl [.ref 2, .ref 3, .ref 4, .ref 5, .ref 6, .ref 7, .ref 8, .int (f_keyCount e0), .int (f_slotCount e0), .int (f_window e0), .int (f_commitCount e0), .int (f_abortCount e0), .int (f_lastConflict e0)], .inr (.inl (.int, (f_value e0))), .inr (.inl (.int, (f_version e0))), .inr (.inl (.boolean, (f_active e0))), .inr (.inl (.int, (f_start e0))), .inr (.inl (.int, (f_readSet e0))), .inr (.inl (.int, (f_writeSet e0))), .inr (.inl (.int, (f_buffered e0))), .inl [.ref 10, .ref 11, .ref 12, .ref 13, .ref 14, .ref 15, .ref 16, .int (f_keyCount r79), .int (f_slotCount r79), .int (f_window r79), .int (f_commitCount r79), .int (f_abortCount r79), .int (f_lastConflict r79)], .inr (.inl (.int, (f_value r79))), .inr (.inl (.int, (f_version r79))), .inr (.inl (.boolean, y80)), .inr (.inl (.int, y81)), .inr (.inl (.int, (f_readSet r79))), .inr (.inl (.int, (f_writeSet r79))), .inr (.inl (.int, (f_buffered r79)))])) rfl hy81 ?_
  have E82 : ([.inr (.inl (.int, s)), .inl [.ref 2, .ref 3, .ref 4, .ref 5, .ref 6, .ref 7, .ref 8, .int (f_keyCount e0), .int (f_slotCount e0), .int (f_window e0), .int (f_commitCount e0), .int (f_abortCount e0), .int (f_lastConflict e0)], .inr (.inl (.int, (f_value e0))), .inr (.inl (.int, (f_version e0))), .inr (.inl (.boolean, (f_active e0))), .inr (.inl (.int, (f_start e0))), .inr (.inl (.int, (f_readSet e0))), .inr (.inl (.int, (f_writeSet e0))), .inr (.inl (.int, (f_buffered e0))), .inl [.ref 10, .ref 11, .ref 12, .ref 13, .ref 14, .ref 15, .ref 16, .int (f_keyCount r79), .int (f_slotCount r79), .int (f_window r79), .int (f_commitCount r79), .int (f_abortCount r79), .int (f_lastConflict r79)], .inr (.inl (.int, (f_value r79))), .inr (.inl (.int, (f_version r79))), .inr (.inl (.boolean, y80)), .inr (.inl (.int, y81)), .inr (.inl (.int, (f_readSet r79))), .inr (.inl (.int, (f_writeSet r79))), .inr (.inl (.int, (f_buffered r79)))] : QHeap) = (H1 s e0 (s_start (s_active r79 y80) y81)) := by dsimp only [H0, H1, f_value, f_version, f_active, f_start, f_readSet, f_writeSet, f_buffered, f_keyCount, f_slotCount, f_window, f_commitCount, f_abortCount, f_lastConflict, s_active, s_start]
  rw [E82]
  obtain rfl := Option.some.inj h
  exact QTri.ret0 rfl rfl
theorem tF18a1 (Ad : QAd n0 ad) (W : QW Z a0) (s : List Int32) (e0 : Ob) (o : Ob) {r : Int32 × Ob} (h : F18 o = some r) : QTri l Z n0 ad 18 (0, qentry [.ref 9] (pMaxL 18), [], (H1 s e0 o)) (some (Value.int r.1)) (H1 s e0 r.2) := by
  unfold F18 at h
  refine QTri.steps Ad W 1 (st' := (1, [some (.ref 9), none], [.ref 9], (H1 s e0 o))) rfl ?_
  obtain ⟨r67, hr67, h⟩ := Option.bind_eq_some_iff.mp h
  refine QTri.callP W (a := 9) (as := []) (rest := []) (w := (some (.int r67))) (σ₁ := (H1 s e0 o)) rfl rfl rfl rfl rfl rfl rfl rfl (tF19a1 Ad W s e0 o hr67) ?_
  refine QTri.steps Ad W 2 (st' := (6, [some (.ref 9), some (.int r67)], [.int r67], (H1 s e0 o))) rfl ?_
  rcases qite h with ⟨hc68, h⟩ | ⟨hc68, h⟩
  · refine QTri.brF Ad W (t := 12) (f := 9) (L := [some (.ref 9), some (.int r67)]) (S := []) (σ := (H1 s e0 o)) rfl (XT.i0_ge_f hc68) ?_
    refine QTri.steps Ad W 1 (st' := (11, [some (.ref 9), some (.int r67)], [.int (-5 : Int32)], (H1 s e0 o))) rfl ?_
    obtain rfl := Option.some.inj h
    exact QTri.retI rfl rfl
  · refine QTri.brT Ad W (t := 12) (f := 9) (L := [some (.ref 9), some (.int r67)]) (S := []) (σ := (H1 s e0 o)) rfl (XT.i0_ge_t hc68) ?_
    refine QTri.steps Ad W 2 (st' := (14, [some (.ref 9), some (.int r67)], [.int r67, .ref 9], (H1 s e0 o))) rfl ?_
    obtain ⟨r83, hr83, h⟩ := Option.bind_eq_some_iff.mp h
    refine QTri.callP W (a := 9) (as := [.int r67]) (rest := []) (w := none) (σ₁ := (H1 s e0 r83)) rfl rfl rfl rfl rfl rfl rfl rfl (tF20a1 Ad W s e0 o r67 hr83) ?_
    refine QTri.steps Ad W 1 (st' := (18, [some (.ref 9), some (.int r67)], [.int r67], (H1 s e0 r83))) rfl ?_
    obtain rfl := Option.some.inj h
    exact QTri.retI rfl rfl
/-- getCommitCount()I -/
def F7 (o : Ob) : Option (Int32) :=
  some (f_commitCount o)
theorem tF7 (Ad : QAd n0 ad) (W : QW Z a0) (s : List Int32) (e0 : Ob) (o : Ob) {r : Int32} (h : F7 o = some r) : QTri l Z n0 ad 7 (0, qentry [.ref 1] (pMaxL 7), [], (H1 s o e0)) (some (Value.int r)) (H1 s o e0) := by
  unfold F7 at h
  refine QTri.steps Ad W 2 (st' := (4, [some (.ref 1)], [.int (f_commitCount o)], (H1 s o e0))) rfl ?_
  obtain rfl := Option.some.inj h
  exact QTri.retI rfl rfl
theorem tF7a1 (Ad : QAd n0 ad) (W : QW Z a0) (s : List Int32) (e0 : Ob) (o : Ob) {r : Int32} (h : F7 o = some r) : QTri l Z n0 ad 7 (0, qentry [.ref 9] (pMaxL 7), [], (H1 s e0 o)) (some (Value.int r)) (H1 s e0 o) := by
  unfold F7 at h
  refine QTri.steps Ad W 2 (st' := (4, [some (.ref 9)], [.int (f_commitCount o)], (H1 s e0 o))) rfl ?_
  obtain rfl := Option.some.inj h
  exact QTri.retI rfl rfl
/-- getAbortCount()I -/
def F8 (o : Ob) : Option (Int32) :=
  some (f_abortCount o)
theorem tF8 (Ad : QAd n0 ad) (W : QW Z a0) (s : List Int32) (e0 : Ob) (o : Ob) {r : Int32} (h : F8 o = some r) : QTri l Z n0 ad 8 (0, qentry [.ref 1] (pMaxL 8), [], (H1 s o e0)) (some (Value.int r)) (H1 s o e0) := by
  unfold F8 at h
  refine QTri.steps Ad W 2 (st' := (4, [some (.ref 1)], [.int (f_abortCount o)], (H1 s o e0))) rfl ?_
  obtain rfl := Option.some.inj h
  exact QTri.retI rfl rfl
theorem tF8a1 (Ad : QAd n0 ad) (W : QW Z a0) (s : List Int32) (e0 : Ob) (o : Ob) {r : Int32} (h : F8 o = some r) : QTri l Z n0 ad 8 (0, qentry [.ref 9] (pMaxL 8), [], (H1 s e0 o)) (some (Value.int r)) (H1 s e0 o) := by
  unfold F8 at h
  refine QTri.steps Ad W 2 (st' := (4, [some (.ref 9)], [.int (f_abortCount o)], (H1 s e0 o))) rfl ?_
  obtain rfl := Option.some.inj h
  exact QTri.retI rfl rfl
/-- getLastConflictKey()I -/
def F9 (o : Ob) : Option (Int32) :=
  some (f_lastConflict o)
theorem tF9 (Ad : QAd n0 ad) (W : QW Z a0) (s : List Int32) (e0 : Ob) (o : Ob) {r : Int32} (h : F9 o = some r) : QTri l Z n0 ad 9 (0, qentry [.ref 1] (pMaxL 9), [], (H1 s o e0)) (some (Value.int r)) (H1 s o e0) := by
  unfold F9 at h
  refine QTri.steps Ad W 2 (st' := (4, [some (.ref 1)], [.int (f_lastConflict o)], (H1 s o e0))) rfl ?_
  obtain rfl := Option.some.inj h
  exact QTri.retI rfl rfl
theorem tF9a1 (Ad : QAd n0 ad) (W : QW Z a0) (s : List Int32) (e0 : Ob) (o : Ob) {r : Int32} (h : F9 o = some r) : QTri l Z n0 ad 9 (0, qentry [.ref 9] (pMaxL 9), [], (H1 s e0 o)) (some (Value.int r)) (H1 s e0 o) := by
  unfold F9 at h
  refine QTri.steps Ad W 2 (st' := (4, [some (.ref 9)], [.int (f_lastConflict o)], (H1 s e0 o))) rfl ?_
  obtain rfl := Option.some.inj h
  exact QTri.retI rfl rfl
/-- isValidKey(I)Z -/
def F11 (o : Ob) (x1 : Int32) : Option (Int32) :=
  (if x1 < (0 : Int32) then some (0 : Int32) else (if x1 < (f_keyCount o) then (if x1 < (32 : Int32) then some (1 : Int32) else some (0 : Int32)) else some (0 : Int32)))
theorem tF11 (Ad : QAd n0 ad) (W : QW Z a0) (s : List Int32) (e0 : Ob) (o : Ob) (x1 : Int32) {r : Int32} (h : F11 o x1 = some r) : QTri l Z n0 ad 11 (0, qentry [.ref 1, .int x1] (pMaxL 11), [], (H1 s o e0)) (some (Value.int r)) (H1 s o e0) := by
  unfold F11 at h
  refine QTri.steps Ad W 1 (st' := (1, [some (.ref 1), some (.int x1)], [.int x1], (H1 s o e0))) rfl ?_
  rcases qite h with ⟨hc96, h⟩ | ⟨hc96, h⟩
  · refine QTri.brT Ad W (t := 22) (f := 4) (L := [some (.ref 1), some (.int x1)]) (S := []) (σ := (H1 s o e0)) rfl (XT.i0_lt_t hc96) ?_
    refine QTri.steps Ad W 1 (st' := (23, [some (.ref 1), some (.int x1)], [.int (0 : Int32)], (H1 s o e0))) rfl ?_
    obtain rfl := Option.some.inj h
    exact QTri.retZ rfl rfl
  · refine QTri.brF Ad W (t := 22) (f := 4) (L := [some (.ref 1), some (.int x1)]) (S := []) (σ := (H1 s o e0)) rfl (XT.i0_lt_f hc96) ?_
    refine QTri.steps Ad W 3 (st' := (9, [some (.ref 1), some (.int x1)], [.int (f_keyCount o), .int x1], (H1 s o e0))) rfl ?_
    rcases qite h with ⟨hc97, h⟩ | ⟨hc97, h⟩
    · refine QTri.brF Ad W (t := 22) (f := 12) (L := [some (.ref 1), some (.int x1)]) (S := []) (σ := (H1 s o e0)) rfl (XT.ii_ge_f hc97) ?_
      refine QTri.steps Ad W 2 (st' := (15, [some (.ref 1), some (.int x1)], [.int (32 : Int32), .int x1], (H1 s o e0))) rfl ?_
      rcases qite h with ⟨hc98, h⟩ | ⟨hc98, h⟩
      · refine QTri.brF Ad W (t := 22) (f := 18) (L := [some (.ref 1), some (.int x1)]) (S := []) (σ := (H1 s o e0)) rfl (XT.ii_ge_f hc98) ?_
        refine QTri.steps Ad W 2 (st' := (23, [some (.ref 1), some (.int x1)], [.int (1 : Int32)], (H1 s o e0))) rfl ?_
        obtain rfl := Option.some.inj h
        exact QTri.retZ rfl rfl
      · refine QTri.brT Ad W (t := 22) (f := 18) (L := [some (.ref 1), some (.int x1)]) (S := []) (σ := (H1 s o e0)) rfl (XT.ii_ge_t hc98) ?_
        refine QTri.steps Ad W 1 (st' := (23, [some (.ref 1), some (.int x1)], [.int (0 : Int32)], (H1 s o e0))) rfl ?_
        obtain rfl := Option.some.inj h
        exact QTri.retZ rfl rfl
    · refine QTri.brT Ad W (t := 22) (f := 12) (L := [some (.ref 1), some (.int x1)]) (S := []) (σ := (H1 s o e0)) rfl (XT.ii_ge_t hc97) ?_
      refine QTri.steps Ad W 1 (st' := (23, [some (.ref 1), some (.int x1)], [.int (0 : Int32)], (H1 s o e0))) rfl ?_
      obtain rfl := Option.some.inj h
      exact QTri.retZ rfl rfl
/-- getValue(I)I -/
def F10 (o : Ob) (x1 : Int32) : Option (Int32) :=
  (F11 o x1).bind fun r99 => (if r99 = (0 : Int32) then some (0 : Int32) else (aget (f_value o) x1).bind fun y101 => some y101)
theorem tF10 (Ad : QAd n0 ad) (W : QW Z a0) (s : List Int32) (e0 : Ob) (o : Ob) (x1 : Int32) {r : Int32} (h : F10 o x1 = some r) : QTri l Z n0 ad 10 (0, qentry [.ref 1, .int x1] (pMaxL 10), [], (H1 s o e0)) (some (Value.int r)) (H1 s o e0) := by
  unfold F10 at h
  refine QTri.steps Ad W 2 (st' := (2, [some (.ref 1), some (.int x1)], [.int x1, .ref 1], (H1 s o e0))) rfl ?_
  obtain ⟨r99, hr99, h⟩ := Option.bind_eq_some_iff.mp h
  refine QTri.callP W (a := 1) (as := [.int x1]) (rest := []) (w := (some (.int r99))) (σ₁ := (H1 s o e0)) rfl rfl rfl rfl rfl rfl rfl rfl (tF11 Ad W s e0 o x1 hr99) ?_
  rcases qite h with ⟨hc100, h⟩ | ⟨hc100, h⟩
  · refine QTri.brF Ad W (t := 10) (f := 8) (L := [some (.ref 1), some (.int x1)]) (S := []) (σ := (H1 s o e0)) rfl (XT.i0_ne_f hc100) ?_
    refine QTri.steps Ad W 1 (st' := (9, [some (.ref 1), some (.int x1)], [.int (0 : Int32)], (H1 s o e0))) rfl ?_
    obtain rfl := Option.some.inj h
    exact QTri.retI rfl rfl
  · refine QTri.brT Ad W (t := 10) (f := 8) (L := [some (.ref 1), some (.int x1)]) (S := []) (σ := (H1 s o e0)) rfl (XT.i0_ne_t hc100) ?_
    refine QTri.steps Ad W 3 (st' := (15, [some (.ref 1), some (.int x1)], [.int x1, .ref 2], (H1 s o e0))) rfl ?_
    obtain ⟨y101, hy101, h⟩ := Option.bind_eq_some_iff.mp h
    refine QTri.bnd Ad W (f := fun y101 => (16, [some (.ref 1), some (.int x1)], [.int y101], (H1 s o e0))) rfl hy101 ?_
    obtain rfl := Option.some.inj h
    exact QTri.retI rfl rfl
theorem tF11a1 (Ad : QAd n0 ad) (W : QW Z a0) (s : List Int32) (e0 : Ob) (o : Ob) (x1 : Int32) {r : Int32} (h : F11 o x1 = some r) : QTri l Z n0 ad 11 (0, qentry [.ref 9, .int x1] (pMaxL 11), [], (H1 s e0 o)) (some (Value.int r)) (H1 s e0 o) := by
  unfold F11 at h
  refine QTri.steps Ad W 1 (st' := (1, [some (.ref 9), some (.int x1)], [.int x1], (H1 s e0 o))) rfl ?_
  rcases qite h with ⟨hc103, h⟩ | ⟨hc103, h⟩
  · refine QTri.brT Ad W (t := 22) (f := 4) (L := [some (.ref 9), some (.int x1)]) (S := []) (σ := (H1 s e0 o)) rfl (XT.i0_lt_t hc103) ?_
    refine QTri.steps Ad W 1 (st' := (23, [some (.ref 9), some (.int x1)], [.int (0 : Int32)], (H1 s e0 o))) rfl ?_
    obtain rfl := Option.some.inj h
    exact QTri.retZ rfl rfl
  · refine QTri.brF Ad W (t := 22) (f := 4) (L := [some (.ref 9), some (.int x1)]) (S := []) (σ := (H1 s e0 o)) rfl (XT.i0_lt_f hc103) ?_
    refine QTri.steps Ad W 3 (st' := (9, [some (.ref 9), some (.int x1)], [.int (f_keyCount o), .int x1], (H1 s e0 o))) rfl ?_
    rcases qite h with ⟨hc104, h⟩ | ⟨hc104, h⟩
    · refine QTri.brF Ad W (t := 22) (f := 12) (L := [some (.ref 9), some (.int x1)]) (S := []) (σ := (H1 s e0 o)) rfl (XT.ii_ge_f hc104) ?_
      refine QTri.steps Ad W 2 (st' := (15, [some (.ref 9), some (.int x1)], [.int (32 : Int32), .int x1], (H1 s e0 o))) rfl ?_
      rcases qite h with ⟨hc105, h⟩ | ⟨hc105, h⟩
      · refine QTri.brF Ad W (t := 22) (f := 18) (L := [some (.ref 9), some (.int x1)]) (S := []) (σ := (H1 s e0 o)) rfl (XT.ii_ge_f hc105) ?_
        refine QTri.steps Ad W 2 (st' := (23, [some (.ref 9), some (.int x1)], [.int (1 : Int32)], (H1 s e0 o))) rfl ?_
        obtain rfl := Option.some.inj h
        exact QTri.retZ rfl rfl
      · refine QTri.brT Ad W (t := 22) (f := 18) (L := [some (.ref 9), some (.int x1)]) (S := []) (σ := (H1 s e0 o)) rfl (XT.ii_ge_t hc105) ?_
        refine QTri.steps Ad W 1 (st' := (23, [some (.ref 9), some (.int x1)], [.int (0 : Int32)], (H1 s e0 o))) rfl ?_
        obtain rfl := Option.some.inj h
        exact QTri.retZ rfl rfl
    · refine QTri.brT Ad W (t := 22) (f := 12) (L := [some (.ref 9), some (.int x1)]) (S := []) (σ := (H1 s e0 o)) rfl (XT.ii_ge_t hc104) ?_
      refine QTri.steps Ad W 1 (st' := (23, [some (.ref 9), some (.int x1)], [.int (0 : Int32)], (H1 s e0 o))) rfl ?_
      obtain rfl := Option.some.inj h
      exact QTri.retZ rfl rfl
theorem tF10a1 (Ad : QAd n0 ad) (W : QW Z a0) (s : List Int32) (e0 : Ob) (o : Ob) (x1 : Int32) {r : Int32} (h : F10 o x1 = some r) : QTri l Z n0 ad 10 (0, qentry [.ref 9, .int x1] (pMaxL 10), [], (H1 s e0 o)) (some (Value.int r)) (H1 s e0 o) := by
  unfold F10 at h
  refine QTri.steps Ad W 2 (st' := (2, [some (.ref 9), some (.int x1)], [.int x1, .ref 9], (H1 s e0 o))) rfl ?_
  obtain ⟨r106, hr106, h⟩ := Option.bind_eq_some_iff.mp h
  refine QTri.callP W (a := 9) (as := [.int x1]) (rest := []) (w := (some (.int r106))) (σ₁ := (H1 s e0 o)) rfl rfl rfl rfl rfl rfl rfl rfl (tF11a1 Ad W s e0 o x1 hr106) ?_
  rcases qite h with ⟨hc107, h⟩ | ⟨hc107, h⟩
  · refine QTri.brF Ad W (t := 10) (f := 8) (L := [some (.ref 9), some (.int x1)]) (S := []) (σ := (H1 s e0 o)) rfl (XT.i0_ne_f hc107) ?_
    refine QTri.steps Ad W 1 (st' := (9, [some (.ref 9), some (.int x1)], [.int (0 : Int32)], (H1 s e0 o))) rfl ?_
    obtain rfl := Option.some.inj h
    exact QTri.retI rfl rfl
  · refine QTri.brT Ad W (t := 10) (f := 8) (L := [some (.ref 9), some (.int x1)]) (S := []) (σ := (H1 s e0 o)) rfl (XT.i0_ne_t hc107) ?_
    refine QTri.steps Ad W 3 (st' := (15, [some (.ref 9), some (.int x1)], [.int x1, .ref 10], (H1 s e0 o))) rfl ?_
    obtain ⟨y108, hy108, h⟩ := Option.bind_eq_some_iff.mp h
    refine QTri.bnd Ad W (f := fun y108 => (16, [some (.ref 9), some (.int x1)], [.int y108], (H1 s e0 o))) rfl hy108 ?_
    obtain rfl := Option.some.inj h
    exact QTri.retI rfl rfl
/-- getVersion(I)I -/
def F12 (o : Ob) (x1 : Int32) : Option (Int32) :=
  (F11 o x1).bind fun r111 => (if r111 = (0 : Int32) then some (0 : Int32) else (aget (f_version o) x1).bind fun y113 => some y113)
theorem tF12 (Ad : QAd n0 ad) (W : QW Z a0) (s : List Int32) (e0 : Ob) (o : Ob) (x1 : Int32) {r : Int32} (h : F12 o x1 = some r) : QTri l Z n0 ad 12 (0, qentry [.ref 1, .int x1] (pMaxL 12), [], (H1 s o e0)) (some (Value.int r)) (H1 s o e0) := by
  unfold F12 at h
  refine QTri.steps Ad W 2 (st' := (2, [some (.ref 1), some (.int x1)], [.int x1, .ref 1], (H1 s o e0))) rfl ?_
  obtain ⟨r111, hr111, h⟩ := Option.bind_eq_some_iff.mp h
  refine QTri.callP W (a := 1) (as := [.int x1]) (rest := []) (w := (some (.int r111))) (σ₁ := (H1 s o e0)) rfl rfl rfl rfl rfl rfl rfl rfl (tF11 Ad W s e0 o x1 hr111) ?_
  rcases qite h with ⟨hc112, h⟩ | ⟨hc112, h⟩
  · refine QTri.brF Ad W (t := 10) (f := 8) (L := [some (.ref 1), some (.int x1)]) (S := []) (σ := (H1 s o e0)) rfl (XT.i0_ne_f hc112) ?_
    refine QTri.steps Ad W 1 (st' := (9, [some (.ref 1), some (.int x1)], [.int (0 : Int32)], (H1 s o e0))) rfl ?_
    obtain rfl := Option.some.inj h
    exact QTri.retI rfl rfl
  · refine QTri.brT Ad W (t := 10) (f := 8) (L := [some (.ref 1), some (.int x1)]) (S := []) (σ := (H1 s o e0)) rfl (XT.i0_ne_t hc112) ?_
    refine QTri.steps Ad W 3 (st' := (15, [some (.ref 1), some (.int x1)], [.int x1, .ref 3], (H1 s o e0))) rfl ?_
    obtain ⟨y113, hy113, h⟩ := Option.bind_eq_some_iff.mp h
    refine QTri.bnd Ad W (f := fun y113 => (16, [some (.ref 1), some (.int x1)], [.int y113], (H1 s o e0))) rfl hy113 ?_
    obtain rfl := Option.some.inj h
    exact QTri.retI rfl rfl
theorem tF12a1 (Ad : QAd n0 ad) (W : QW Z a0) (s : List Int32) (e0 : Ob) (o : Ob) (x1 : Int32) {r : Int32} (h : F12 o x1 = some r) : QTri l Z n0 ad 12 (0, qentry [.ref 9, .int x1] (pMaxL 12), [], (H1 s e0 o)) (some (Value.int r)) (H1 s e0 o) := by
  unfold F12 at h
  refine QTri.steps Ad W 2 (st' := (2, [some (.ref 9), some (.int x1)], [.int x1, .ref 9], (H1 s e0 o))) rfl ?_
  obtain ⟨r115, hr115, h⟩ := Option.bind_eq_some_iff.mp h
  refine QTri.callP W (a := 9) (as := [.int x1]) (rest := []) (w := (some (.int r115))) (σ₁ := (H1 s e0 o)) rfl rfl rfl rfl rfl rfl rfl rfl (tF11a1 Ad W s e0 o x1 hr115) ?_
  rcases qite h with ⟨hc116, h⟩ | ⟨hc116, h⟩
  · refine QTri.brF Ad W (t := 10) (f := 8) (L := [some (.ref 9), some (.int x1)]) (S := []) (σ := (H1 s e0 o)) rfl (XT.i0_ne_f hc116) ?_
    refine QTri.steps Ad W 1 (st' := (9, [some (.ref 9), some (.int x1)], [.int (0 : Int32)], (H1 s e0 o))) rfl ?_
    obtain rfl := Option.some.inj h
    exact QTri.retI rfl rfl
  · refine QTri.brT Ad W (t := 10) (f := 8) (L := [some (.ref 9), some (.int x1)]) (S := []) (σ := (H1 s e0 o)) rfl (XT.i0_ne_t hc116) ?_
    refine QTri.steps Ad W 3 (st' := (15, [some (.ref 9), some (.int x1)], [.int x1, .ref 11], (H1 s e0 o))) rfl ?_
    obtain ⟨y117, hy117, h⟩ := Option.bind_eq_some_iff.mp h
    refine QTri.bnd Ad W (f := fun y117 => (16, [some (.ref 9), some (.int x1)], [.int y117], (H1 s e0 o))) rfl hy117 ?_
    obtain rfl := Option.some.inj h
    exact QTri.retI rfl rfl
def B6_41 (o1 : Ob) (o2 : Ob) (v : Int32) : Option (((Unit) ⊕ (Int32)) ⊕ (Int32)) :=
  (if v < (8 : Int32) then (F10 o1 v).bind fun r102 => (F10 o2 v).bind fun r109 => (if r102 = r109 then (F12 o1 v).bind fun r114 => (F12 o2 v).bind fun r118 => (if r114 = r118 then some (.inr (v + (1 : Int32))) else some (.inl (Sum.inr (0 : Int32)))) else some (.inl (Sum.inr (0 : Int32)))) else some (.inl (Sum.inl ())))
theorem tB6_41 (Ad : QAd n0 ad) (W : QW Z a0) (s : List Int32) (o1 : Ob) (o2 : Ob) (v : Int32) {r : ((Unit) ⊕ (Int32)) ⊕ (Int32)} {u : Option Value} {τ : QHeap} (h : B6_41 o1 o2 v = some r) (hx0 : ∀ x : Unit, r = .inl (Sum.inl x) → QTri l Z n0 ad 6 (83, [some (.ref 1), some (.ref 9), none, none], [], (H1 s o1 o2)) u τ) (hx1 : ∀ x : Int32, r = .inl (Sum.inr x) → u = (some (Value.int x)) ∧ τ = (H1 s o1 o2)) (hc : ∀ x : Int32, r = .inr x → QTri l Z n0 ad 6 (41, [some (.ref 1), some (.ref 9), some (.int x), none], [], (H1 s o1 o2)) u τ) : QTri l Z n0 ad 6 (41, [some (.ref 1), some (.ref 9), some (.int v), none], [], (H1 s o1 o2)) u τ := by
  unfold B6_41 at h
  refine QTri.steps Ad W 2 (st' := (44, [some (.ref 1), some (.ref 9), some (.int v), none], [.int (8 : Int32), .int v], (H1 s o1 o2))) rfl ?_
  rcases qite h with ⟨hc95, h⟩ | ⟨hc95, h⟩
  · refine QTri.brF Ad W (t := 83) (f := 47) (L := [some (.ref 1), some (.ref 9), some (.int v), none]) (S := []) (σ := (H1 s o1 o2)) rfl (XT.ii_ge_f hc95) ?_
    refine QTri.steps Ad W 2 (st' := (49, [some (.ref 1), some (.ref 9), some (.int v), none], [.int v, .ref 1], (H1 s o1 o2))) rfl ?_
    obtain ⟨r102, hr102, h⟩ := Option.bind_eq_some_iff.mp h
    refine QTri.callV W (a := 1) (as := [.int v]) (rest := []) (w := (some (.int r102))) (σ₁ := (H1 s o1 o2)) rfl rfl rfl rfl rfl rfl rfl rfl (tF10 Ad W s o2 o1 v hr102) ?_
    refine QTri.steps Ad W 2 (st' := (54, [some (.ref 1), some (.ref 9), some (.int v), none], [.int v, .ref 9, .int r102], (H1 s o1 o2))) rfl ?_
    obtain ⟨r109, hr109, h⟩ := Option.bind_eq_some_iff.mp h
    refine QTri.callV W (a := 9) (as := [.int v]) (rest := [.int r102]) (w := (some (.int r109))) (σ₁ := (H1 s o1 o2)) rfl rfl rfl rfl rfl rfl rfl rfl (tF10a1 Ad W s o1 o2 v hr109) ?_
    rcases qite h with ⟨hc110, h⟩ | ⟨hc110, h⟩
    · refine QTri.brT Ad W (t := 62) (f := 60) (L := [some (.ref 1), some (.ref 9), some (.int v), none]) (S := []) (σ := (H1 s o1 o2)) rfl (XT.ii_eq_t hc110) ?_
      refine QTri.steps Ad W 2 (st' := (64, [some (.ref 1), some (.ref 9), some (.int v), none], [.int v, .ref 1], (H1 s o1 o2))) rfl ?_
      obtain ⟨r114, hr114, h⟩ := Option.bind_eq_some_iff.mp h
      refine QTri.callV W (a := 1) (as := [.int v]) (rest := []) (w := (some (.int r114))) (σ₁ := (H1 s o1 o2)) rfl rfl rfl rfl rfl rfl rfl rfl (tF12 Ad W s o2 o1 v hr114) ?_
      refine QTri.steps Ad W 2 (st' := (69, [some (.ref 1), some (.ref 9), some (.int v), none], [.int v, .ref 9, .int r114], (H1 s o1 o2))) rfl ?_
      obtain ⟨r118, hr118, h⟩ := Option.bind_eq_some_iff.mp h
      refine QTri.callV W (a := 9) (as := [.int v]) (rest := [.int r114]) (w := (some (.int r118))) (σ₁ := (H1 s o1 o2)) rfl rfl rfl rfl rfl rfl rfl rfl (tF12a1 Ad W s o1 o2 v hr118) ?_
      rcases qite h with ⟨hc119, h⟩ | ⟨hc119, h⟩
      · refine QTri.brT Ad W (t := 77) (f := 75) (L := [some (.ref 1), some (.ref 9), some (.int v), none]) (S := []) (σ := (H1 s o1 o2)) rfl (XT.ii_eq_t hc119) ?_
        refine QTri.steps Ad W 2 (st' := (41, [some (.ref 1), some (.ref 9), some (.int (v + (1 : Int32))), none], [], (H1 s o1 o2))) rfl ?_
        obtain rfl := Option.some.inj h
        exact QTri.mask [true, true, true, false] (hc (v + (1 : Int32)) rfl)
      · refine QTri.brF Ad W (t := 77) (f := 75) (L := [some (.ref 1), some (.ref 9), some (.int v), none]) (S := []) (σ := (H1 s o1 o2)) rfl (XT.ii_eq_f hc119) ?_
        refine QTri.steps Ad W 1 (st' := (76, [some (.ref 1), some (.ref 9), some (.int v), none], [.int (0 : Int32)], (H1 s o1 o2))) rfl ?_
        obtain rfl := Option.some.inj h
        obtain ⟨rfl, rfl⟩ := hx1 (0 : Int32) rfl
        exact QTri.retZ rfl rfl
    · refine QTri.brF Ad W (t := 62) (f := 60) (L := [some (.ref 1), some (.ref 9), some (.int v), none]) (S := []) (σ := (H1 s o1 o2)) rfl (XT.ii_eq_f hc110) ?_
      refine QTri.steps Ad W 1 (st' := (61, [some (.ref 1), some (.ref 9), some (.int v), none], [.int (0 : Int32)], (H1 s o1 o2))) rfl ?_
      obtain rfl := Option.some.inj h
      obtain ⟨rfl, rfl⟩ := hx1 (0 : Int32) rfl
      exact QTri.retZ rfl rfl
  · refine QTri.brT Ad W (t := 83) (f := 47) (L := [some (.ref 1), some (.ref 9), some (.int v), none]) (S := []) (σ := (H1 s o1 o2)) rfl (XT.ii_ge_t hc95) ?_
    obtain rfl := Option.some.inj h
    exact QTri.mask [true, true, false, false] (hx0 () rfl)
theorem tF4a1 (Ad : QAd n0 ad) (W : QW Z a0) (s : List Int32) (e0 : Ob) (o : Ob) (x1 : Int32) {r : Int32} (h : F4 o x1 = some r) : QTri l Z n0 ad 4 (0, qentry [.ref 9, .int x1] (pMaxL 4), [], (H1 s e0 o)) (some (Value.int r)) (H1 s e0 o) := by
  unfold F4 at h
  refine QTri.steps Ad W 1 (st' := (1, [some (.ref 9), some (.int x1)], [.int x1], (H1 s e0 o))) rfl ?_
  rcases qite h with ⟨hc124, h⟩ | ⟨hc124, h⟩
  · refine QTri.brT Ad W (t := 18) (f := 4) (L := [some (.ref 9), some (.int x1)]) (S := []) (σ := (H1 s e0 o)) rfl (XT.i0_lt_t hc124) ?_
    refine QTri.steps Ad W 1 (st' := (19, [some (.ref 9), some (.int x1)], [.int (0 : Int32)], (H1 s e0 o))) rfl ?_
    obtain rfl := Option.some.inj h
    exact QTri.retZ rfl rfl
  · refine QTri.brF Ad W (t := 18) (f := 4) (L := [some (.ref 9), some (.int x1)]) (S := []) (σ := (H1 s e0 o)) rfl (XT.i0_lt_f hc124) ?_
    refine QTri.steps Ad W 3 (st' := (9, [some (.ref 9), some (.int x1)], [.int (f_slotCount o), .int x1], (H1 s e0 o))) rfl ?_
    rcases qite h with ⟨hc125, h⟩ | ⟨hc125, h⟩
    · refine QTri.brF Ad W (t := 18) (f := 12) (L := [some (.ref 9), some (.int x1)]) (S := []) (σ := (H1 s e0 o)) rfl (XT.ii_ge_f hc125) ?_
      refine QTri.steps Ad W 2 (st' := (15, [some (.ref 9), some (.int x1)], [.int (8 : Int32), .int x1], (H1 s e0 o))) rfl ?_
      rcases qite h with ⟨hc126, h⟩ | ⟨hc126, h⟩
      · refine QTri.brT Ad W (t := 20) (f := 18) (L := [some (.ref 9), some (.int x1)]) (S := []) (σ := (H1 s e0 o)) rfl (XT.ii_lt_t hc126) ?_
        refine QTri.steps Ad W 3 (st' := (25, [some (.ref 9), some (.int x1)], [.int x1, .ref 12], (H1 s e0 o))) rfl ?_
        obtain ⟨y127, hy127, h⟩ := Option.bind_eq_some_iff.mp h
        refine QTri.bnd Ad W (f := fun y127 => (26, [some (.ref 9), some (.int x1)], [.int y127], (H1 s e0 o))) rfl hy127 ?_
        obtain rfl := Option.some.inj h
        exact QTri.retZ rfl rfl
      · refine QTri.brF Ad W (t := 20) (f := 18) (L := [some (.ref 9), some (.int x1)]) (S := []) (σ := (H1 s e0 o)) rfl (XT.ii_lt_f hc126) ?_
        refine QTri.steps Ad W 1 (st' := (19, [some (.ref 9), some (.int x1)], [.int (0 : Int32)], (H1 s e0 o))) rfl ?_
        obtain rfl := Option.some.inj h
        exact QTri.retZ rfl rfl
    · refine QTri.brT Ad W (t := 18) (f := 12) (L := [some (.ref 9), some (.int x1)]) (S := []) (σ := (H1 s e0 o)) rfl (XT.ii_ge_t hc125) ?_
      refine QTri.steps Ad W 1 (st' := (19, [some (.ref 9), some (.int x1)], [.int (0 : Int32)], (H1 s e0 o))) rfl ?_
      obtain rfl := Option.some.inj h
      exact QTri.retZ rfl rfl
theorem tF3a1 (Ad : QAd n0 ad) (W : QW Z a0) (s : List Int32) (e0 : Ob) (o : Ob) (x1 : Int32) {r : Int32} (h : F3 o x1 = some r) : QTri l Z n0 ad 3 (0, qentry [.ref 9, .int x1] (pMaxL 3), [], (H1 s e0 o)) (some (Value.int r)) (H1 s e0 o) := by
  unfold F3 at h
  refine QTri.steps Ad W 2 (st' := (2, [some (.ref 9), some (.int x1)], [.int x1, .ref 9], (H1 s e0 o))) rfl ?_
  obtain ⟨r128, hr128, h⟩ := Option.bind_eq_some_iff.mp h
  refine QTri.callP W (a := 9) (as := [.int x1]) (rest := []) (w := (some (.int r128))) (σ₁ := (H1 s e0 o)) rfl rfl rfl rfl rfl rfl rfl rfl (tF4a1 Ad W s e0 o x1 hr128) ?_
  obtain rfl := Option.some.inj h
  exact QTri.retZ rfl rfl
/-- getStart(I)I -/
def F13 (o : Ob) (x1 : Int32) : Option (Int32) :=
  (F4 o x1).bind fun r131 => (if r131 = (0 : Int32) then some (-1 : Int32) else (aget (f_start o) x1).bind fun y133 => some y133)
theorem tF13 (Ad : QAd n0 ad) (W : QW Z a0) (s : List Int32) (e0 : Ob) (o : Ob) (x1 : Int32) {r : Int32} (h : F13 o x1 = some r) : QTri l Z n0 ad 13 (0, qentry [.ref 1, .int x1] (pMaxL 13), [], (H1 s o e0)) (some (Value.int r)) (H1 s o e0) := by
  unfold F13 at h
  refine QTri.steps Ad W 2 (st' := (2, [some (.ref 1), some (.int x1)], [.int x1, .ref 1], (H1 s o e0))) rfl ?_
  obtain ⟨r131, hr131, h⟩ := Option.bind_eq_some_iff.mp h
  refine QTri.callP W (a := 1) (as := [.int x1]) (rest := []) (w := (some (.int r131))) (σ₁ := (H1 s o e0)) rfl rfl rfl rfl rfl rfl rfl rfl (tF4 Ad W s e0 o x1 hr131) ?_
  rcases qite h with ⟨hc132, h⟩ | ⟨hc132, h⟩
  · refine QTri.brF Ad W (t := 10) (f := 8) (L := [some (.ref 1), some (.int x1)]) (S := []) (σ := (H1 s o e0)) rfl (XT.i0_ne_f hc132) ?_
    refine QTri.steps Ad W 1 (st' := (9, [some (.ref 1), some (.int x1)], [.int (-1 : Int32)], (H1 s o e0))) rfl ?_
    obtain rfl := Option.some.inj h
    exact QTri.retI rfl rfl
  · refine QTri.brT Ad W (t := 10) (f := 8) (L := [some (.ref 1), some (.int x1)]) (S := []) (σ := (H1 s o e0)) rfl (XT.i0_ne_t hc132) ?_
    refine QTri.steps Ad W 3 (st' := (15, [some (.ref 1), some (.int x1)], [.int x1, .ref 5], (H1 s o e0))) rfl ?_
    obtain ⟨y133, hy133, h⟩ := Option.bind_eq_some_iff.mp h
    refine QTri.bnd Ad W (f := fun y133 => (16, [some (.ref 1), some (.int x1)], [.int y133], (H1 s o e0))) rfl hy133 ?_
    obtain rfl := Option.some.inj h
    exact QTri.retI rfl rfl
theorem tF13a1 (Ad : QAd n0 ad) (W : QW Z a0) (s : List Int32) (e0 : Ob) (o : Ob) (x1 : Int32) {r : Int32} (h : F13 o x1 = some r) : QTri l Z n0 ad 13 (0, qentry [.ref 9, .int x1] (pMaxL 13), [], (H1 s e0 o)) (some (Value.int r)) (H1 s e0 o) := by
  unfold F13 at h
  refine QTri.steps Ad W 2 (st' := (2, [some (.ref 9), some (.int x1)], [.int x1, .ref 9], (H1 s e0 o))) rfl ?_
  obtain ⟨r135, hr135, h⟩ := Option.bind_eq_some_iff.mp h
  refine QTri.callP W (a := 9) (as := [.int x1]) (rest := []) (w := (some (.int r135))) (σ₁ := (H1 s e0 o)) rfl rfl rfl rfl rfl rfl rfl rfl (tF4a1 Ad W s e0 o x1 hr135) ?_
  rcases qite h with ⟨hc136, h⟩ | ⟨hc136, h⟩
  · refine QTri.brF Ad W (t := 10) (f := 8) (L := [some (.ref 9), some (.int x1)]) (S := []) (σ := (H1 s e0 o)) rfl (XT.i0_ne_f hc136) ?_
    refine QTri.steps Ad W 1 (st' := (9, [some (.ref 9), some (.int x1)], [.int (-1 : Int32)], (H1 s e0 o))) rfl ?_
    obtain rfl := Option.some.inj h
    exact QTri.retI rfl rfl
  · refine QTri.brT Ad W (t := 10) (f := 8) (L := [some (.ref 9), some (.int x1)]) (S := []) (σ := (H1 s e0 o)) rfl (XT.i0_ne_t hc136) ?_
    refine QTri.steps Ad W 3 (st' := (15, [some (.ref 9), some (.int x1)], [.int x1, .ref 13], (H1 s e0 o))) rfl ?_
    obtain ⟨y137, hy137, h⟩ := Option.bind_eq_some_iff.mp h
    refine QTri.bnd Ad W (f := fun y137 => (16, [some (.ref 9), some (.int x1)], [.int y137], (H1 s e0 o))) rfl hy137 ?_
    obtain rfl := Option.some.inj h
    exact QTri.retI rfl rfl
/-- getReadSet(I)I -/
def F14 (o : Ob) (x1 : Int32) : Option (Int32) :=
  (F4 o x1).bind fun r140 => (if r140 = (0 : Int32) then some (0 : Int32) else (aget (f_readSet o) x1).bind fun y142 => some y142)
theorem tF14 (Ad : QAd n0 ad) (W : QW Z a0) (s : List Int32) (e0 : Ob) (o : Ob) (x1 : Int32) {r : Int32} (h : F14 o x1 = some r) : QTri l Z n0 ad 14 (0, qentry [.ref 1, .int x1] (pMaxL 14), [], (H1 s o e0)) (some (Value.int r)) (H1 s o e0) := by
  unfold F14 at h
  refine QTri.steps Ad W 2 (st' := (2, [some (.ref 1), some (.int x1)], [.int x1, .ref 1], (H1 s o e0))) rfl ?_
  obtain ⟨r140, hr140, h⟩ := Option.bind_eq_some_iff.mp h
  refine QTri.callP W (a := 1) (as := [.int x1]) (rest := []) (w := (some (.int r140))) (σ₁ := (H1 s o e0)) rfl rfl rfl rfl rfl rfl rfl rfl (tF4 Ad W s e0 o x1 hr140) ?_
  rcases qite h with ⟨hc141, h⟩ | ⟨hc141, h⟩
  · refine QTri.brF Ad W (t := 10) (f := 8) (L := [some (.ref 1), some (.int x1)]) (S := []) (σ := (H1 s o e0)) rfl (XT.i0_ne_f hc141) ?_
    refine QTri.steps Ad W 1 (st' := (9, [some (.ref 1), some (.int x1)], [.int (0 : Int32)], (H1 s o e0))) rfl ?_
    obtain rfl := Option.some.inj h
    exact QTri.retI rfl rfl
  · refine QTri.brT Ad W (t := 10) (f := 8) (L := [some (.ref 1), some (.int x1)]) (S := []) (σ := (H1 s o e0)) rfl (XT.i0_ne_t hc141) ?_
    refine QTri.steps Ad W 3 (st' := (15, [some (.ref 1), some (.int x1)], [.int x1, .ref 6], (H1 s o e0))) rfl ?_
    obtain ⟨y142, hy142, h⟩ := Option.bind_eq_some_iff.mp h
    refine QTri.bnd Ad W (f := fun y142 => (16, [some (.ref 1), some (.int x1)], [.int y142], (H1 s o e0))) rfl hy142 ?_
    obtain rfl := Option.some.inj h
    exact QTri.retI rfl rfl
theorem tF14a1 (Ad : QAd n0 ad) (W : QW Z a0) (s : List Int32) (e0 : Ob) (o : Ob) (x1 : Int32) {r : Int32} (h : F14 o x1 = some r) : QTri l Z n0 ad 14 (0, qentry [.ref 9, .int x1] (pMaxL 14), [], (H1 s e0 o)) (some (Value.int r)) (H1 s e0 o) := by
  unfold F14 at h
  refine QTri.steps Ad W 2 (st' := (2, [some (.ref 9), some (.int x1)], [.int x1, .ref 9], (H1 s e0 o))) rfl ?_
  obtain ⟨r144, hr144, h⟩ := Option.bind_eq_some_iff.mp h
  refine QTri.callP W (a := 9) (as := [.int x1]) (rest := []) (w := (some (.int r144))) (σ₁ := (H1 s e0 o)) rfl rfl rfl rfl rfl rfl rfl rfl (tF4a1 Ad W s e0 o x1 hr144) ?_
  rcases qite h with ⟨hc145, h⟩ | ⟨hc145, h⟩
  · refine QTri.brF Ad W (t := 10) (f := 8) (L := [some (.ref 9), some (.int x1)]) (S := []) (σ := (H1 s e0 o)) rfl (XT.i0_ne_f hc145) ?_
    refine QTri.steps Ad W 1 (st' := (9, [some (.ref 9), some (.int x1)], [.int (0 : Int32)], (H1 s e0 o))) rfl ?_
    obtain rfl := Option.some.inj h
    exact QTri.retI rfl rfl
  · refine QTri.brT Ad W (t := 10) (f := 8) (L := [some (.ref 9), some (.int x1)]) (S := []) (σ := (H1 s e0 o)) rfl (XT.i0_ne_t hc145) ?_
    refine QTri.steps Ad W 3 (st' := (15, [some (.ref 9), some (.int x1)], [.int x1, .ref 14], (H1 s e0 o))) rfl ?_
    obtain ⟨y146, hy146, h⟩ := Option.bind_eq_some_iff.mp h
    refine QTri.bnd Ad W (f := fun y146 => (16, [some (.ref 9), some (.int x1)], [.int y146], (H1 s e0 o))) rfl hy146 ?_
    obtain rfl := Option.some.inj h
    exact QTri.retI rfl rfl
/-- getWriteSet(I)I -/
def F15 (o : Ob) (x1 : Int32) : Option (Int32) :=
  (F4 o x1).bind fun r149 => (if r149 = (0 : Int32) then some (0 : Int32) else (aget (f_writeSet o) x1).bind fun y151 => some y151)
theorem tF15 (Ad : QAd n0 ad) (W : QW Z a0) (s : List Int32) (e0 : Ob) (o : Ob) (x1 : Int32) {r : Int32} (h : F15 o x1 = some r) : QTri l Z n0 ad 15 (0, qentry [.ref 1, .int x1] (pMaxL 15), [], (H1 s o e0)) (some (Value.int r)) (H1 s o e0) := by
  unfold F15 at h
  refine QTri.steps Ad W 2 (st' := (2, [some (.ref 1), some (.int x1)], [.int x1, .ref 1], (H1 s o e0))) rfl ?_
  obtain ⟨r149, hr149, h⟩ := Option.bind_eq_some_iff.mp h
  refine QTri.callP W (a := 1) (as := [.int x1]) (rest := []) (w := (some (.int r149))) (σ₁ := (H1 s o e0)) rfl rfl rfl rfl rfl rfl rfl rfl (tF4 Ad W s e0 o x1 hr149) ?_
  rcases qite h with ⟨hc150, h⟩ | ⟨hc150, h⟩
  · refine QTri.brF Ad W (t := 10) (f := 8) (L := [some (.ref 1), some (.int x1)]) (S := []) (σ := (H1 s o e0)) rfl (XT.i0_ne_f hc150) ?_
    refine QTri.steps Ad W 1 (st' := (9, [some (.ref 1), some (.int x1)], [.int (0 : Int32)], (H1 s o e0))) rfl ?_
    obtain rfl := Option.some.inj h
    exact QTri.retI rfl rfl
  · refine QTri.brT Ad W (t := 10) (f := 8) (L := [some (.ref 1), some (.int x1)]) (S := []) (σ := (H1 s o e0)) rfl (XT.i0_ne_t hc150) ?_
    refine QTri.steps Ad W 3 (st' := (15, [some (.ref 1), some (.int x1)], [.int x1, .ref 7], (H1 s o e0))) rfl ?_
    obtain ⟨y151, hy151, h⟩ := Option.bind_eq_some_iff.mp h
    refine QTri.bnd Ad W (f := fun y151 => (16, [some (.ref 1), some (.int x1)], [.int y151], (H1 s o e0))) rfl hy151 ?_
    obtain rfl := Option.some.inj h
    exact QTri.retI rfl rfl
theorem tF15a1 (Ad : QAd n0 ad) (W : QW Z a0) (s : List Int32) (e0 : Ob) (o : Ob) (x1 : Int32) {r : Int32} (h : F15 o x1 = some r) : QTri l Z n0 ad 15 (0, qentry [.ref 9, .int x1] (pMaxL 15), [], (H1 s e0 o)) (some (Value.int r)) (H1 s e0 o) := by
  unfold F15 at h
  refine QTri.steps Ad W 2 (st' := (2, [some (.ref 9), some (.int x1)], [.int x1, .ref 9], (H1 s e0 o))) rfl ?_
  obtain ⟨r153, hr153, h⟩ := Option.bind_eq_some_iff.mp h
  refine QTri.callP W (a := 9) (as := [.int x1]) (rest := []) (w := (some (.int r153))) (σ₁ := (H1 s e0 o)) rfl rfl rfl rfl rfl rfl rfl rfl (tF4a1 Ad W s e0 o x1 hr153) ?_
  rcases qite h with ⟨hc154, h⟩ | ⟨hc154, h⟩
  · refine QTri.brF Ad W (t := 10) (f := 8) (L := [some (.ref 9), some (.int x1)]) (S := []) (σ := (H1 s e0 o)) rfl (XT.i0_ne_f hc154) ?_
    refine QTri.steps Ad W 1 (st' := (9, [some (.ref 9), some (.int x1)], [.int (0 : Int32)], (H1 s e0 o))) rfl ?_
    obtain rfl := Option.some.inj h
    exact QTri.retI rfl rfl
  · refine QTri.brT Ad W (t := 10) (f := 8) (L := [some (.ref 9), some (.int x1)]) (S := []) (σ := (H1 s e0 o)) rfl (XT.i0_ne_t hc154) ?_
    refine QTri.steps Ad W 3 (st' := (15, [some (.ref 9), some (.int x1)], [.int x1, .ref 15], (H1 s e0 o))) rfl ?_
    obtain ⟨y155, hy155, h⟩ := Option.bind_eq_some_iff.mp h
    refine QTri.bnd Ad W (f := fun y155 => (16, [some (.ref 9), some (.int x1)], [.int y155], (H1 s e0 o))) rfl hy155 ?_
    obtain rfl := Option.some.inj h
    exact QTri.retI rfl rfl
/-- bit(I)I -/
def F22 (x1 : Int32) : Option (Int32) :=
  some ((1 : Int32) <<< (x1 &&& 31))
theorem tF22 (Ad : QAd n0 ad) (W : QW Z a0) {a : Nat} {σ : QHeap} (x1 : Int32) {r : Int32} (h : F22 x1 = some r) : QTri l Z n0 ad 22 (0, qentry [.ref a, .int x1] (pMaxL 22), [], σ) (some (Value.int r)) σ := by
  unfold F22 at h
  refine QTri.steps Ad W 3 (st' := (3, [some (.ref a), some (.int x1)], [.int ((1 : Int32) <<< (x1 &&& 31))], σ)) rfl ?_
  obtain rfl := Option.some.inj h
  exact QTri.retI rfl rfl
/-- bufIndex(II)I -/
def F28 (x1 : Int32) (x2 : Int32) : Option (Int32) :=
  some ((x1 * (32 : Int32)) + x2)
theorem tF28 (Ad : QAd n0 ad) (W : QW Z a0) {a : Nat} {σ : QHeap} (x1 : Int32) (x2 : Int32) {r : Int32} (h : F28 x1 x2 = some r) : QTri l Z n0 ad 28 (0, qentry [.ref a, .int x1, .int x2] (pMaxL 28), [], σ) (some (Value.int r)) σ := by
  unfold F28 at h
  refine QTri.steps Ad W 5 (st' := (6, [some (.ref a), some (.int x1), some (.int x2)], [.int ((x1 * (32 : Int32)) + x2)], σ)) rfl ?_
  obtain rfl := Option.some.inj h
  exact QTri.retI rfl rfl
/-- getBuffered(II)I -/
def F16 (o : Ob) (x1 : Int32) (x2 : Int32) : Option (Int32) :=
  (F4 o x1).bind fun r159 => (if r159 = (0 : Int32) then some (0 : Int32) else (F11 o x2).bind fun r161 => (if r161 = (0 : Int32) then some (0 : Int32) else (aget (f_writeSet o) x1).bind fun y163 => (F22 x2).bind fun r164 => (if (y163 &&& r164) = (0 : Int32) then some (0 : Int32) else (F28 x1 x2).bind fun r166 => (aget (f_buffered o) r166).bind fun y167 => some y167)))
theorem tF16 (Ad : QAd n0 ad) (W : QW Z a0) (s : List Int32) (e0 : Ob) (o : Ob) (x1 : Int32) (x2 : Int32) {r : Int32} (h : F16 o x1 x2 = some r) : QTri l Z n0 ad 16 (0, qentry [.ref 1, .int x1, .int x2] (pMaxL 16), [], (H1 s o e0)) (some (Value.int r)) (H1 s o e0) := by
  unfold F16 at h
  refine QTri.steps Ad W 2 (st' := (2, [some (.ref 1), some (.int x1), some (.int x2)], [.int x1, .ref 1], (H1 s o e0))) rfl ?_
  obtain ⟨r159, hr159, h⟩ := Option.bind_eq_some_iff.mp h
  refine QTri.callP W (a := 1) (as := [.int x1]) (rest := []) (w := (some (.int r159))) (σ₁ := (H1 s o e0)) rfl rfl rfl rfl rfl rfl rfl rfl (tF4 Ad W s e0 o x1 hr159) ?_
  rcases qite h with ⟨hc160, h⟩ | ⟨hc160, h⟩
  · refine QTri.brF Ad W (t := 10) (f := 8) (L := [some (.ref 1), some (.int x1), some (.int x2)]) (S := []) (σ := (H1 s o e0)) rfl (XT.i0_ne_f hc160) ?_
    refine QTri.steps Ad W 1 (st' := (9, [some (.ref 1), some (.int x1), some (.int x2)], [.int (0 : Int32)], (H1 s o e0))) rfl ?_
    obtain rfl := Option.some.inj h
    exact QTri.retI rfl rfl
  · refine QTri.brT Ad W (t := 10) (f := 8) (L := [some (.ref 1), some (.int x1), some (.int x2)]) (S := []) (σ := (H1 s o e0)) rfl (XT.i0_ne_t hc160) ?_
    refine QTri.steps Ad W 2 (st' := (12, [some (.ref 1), some (.int x1), some (.int x2)], [.int x2, .ref 1], (H1 s o e0))) rfl ?_
    obtain ⟨r161, hr161, h⟩ := Option.bind_eq_some_iff.mp h
    refine QTri.callP W (a := 1) (as := [.int x2]) (rest := []) (w := (some (.int r161))) (σ₁ := (H1 s o e0)) rfl rfl rfl rfl rfl rfl rfl rfl (tF11 Ad W s e0 o x2 hr161) ?_
    rcases qite h with ⟨hc162, h⟩ | ⟨hc162, h⟩
    · refine QTri.brF Ad W (t := 20) (f := 18) (L := [some (.ref 1), some (.int x1), some (.int x2)]) (S := []) (σ := (H1 s o e0)) rfl (XT.i0_ne_f hc162) ?_
      refine QTri.steps Ad W 1 (st' := (19, [some (.ref 1), some (.int x1), some (.int x2)], [.int (0 : Int32)], (H1 s o e0))) rfl ?_
      obtain rfl := Option.some.inj h
      exact QTri.retI rfl rfl
    · refine QTri.brT Ad W (t := 20) (f := 18) (L := [some (.ref 1), some (.int x1), some (.int x2)]) (S := []) (σ := (H1 s o e0)) rfl (XT.i0_ne_t hc162) ?_
      refine QTri.steps Ad W 3 (st' := (25, [some (.ref 1), some (.int x1), some (.int x2)], [.int x1, .ref 7], (H1 s o e0))) rfl ?_
      obtain ⟨y163, hy163, h⟩ := Option.bind_eq_some_iff.mp h
      refine QTri.bnd Ad W (f := fun y163 => (26, [some (.ref 1), some (.int x1), some (.int x2)], [.int y163], (H1 s o e0))) rfl hy163 ?_
      refine QTri.steps Ad W 2 (st' := (28, [some (.ref 1), some (.int x1), some (.int x2)], [.int x2, .ref 1, .int y163], (H1 s o e0))) rfl ?_
      obtain ⟨r164, hr164, h⟩ := Option.bind_eq_some_iff.mp h
      refine QTri.callP W (a := 1) (as := [.int x2]) (rest := [.int y163]) (w := (some (.int r164))) (σ₁ := (H1 s o e0)) rfl rfl rfl rfl rfl rfl rfl rfl (tF22 Ad W x2 hr164) ?_
      refine QTri.steps Ad W 1 (st' := (32, [some (.ref 1), some (.int x1), some (.int x2)], [.int (y163 &&& r164)], (H1 s o e0))) rfl ?_
      rcases qite h with ⟨hc165, h⟩ | ⟨hc165, h⟩
      · refine QTri.brF Ad W (t := 37) (f := 35) (L := [some (.ref 1), some (.int x1), some (.int x2)]) (S := []) (σ := (H1 s o e0)) rfl (XT.i0_ne_f hc165) ?_
        refine QTri.steps Ad W 1 (st' := (36, [some (.ref 1), some (.int x1), some (.int x2)], [.int (0 : Int32)], (H1 s o e0))) rfl ?_
        obtain rfl := Option.some.inj h
        exact QTri.retI rfl rfl
      · refine QTri.brT Ad W (t := 37) (f := 35) (L := [some (.ref 1), some (.int x1), some (.int x2)]) (S := []) (σ := (H1 s o e0)) rfl (XT.i0_ne_t hc165) ?_
        refine QTri.steps Ad W 5 (st' := (44, [some (.ref 1), some (.int x1), some (.int x2)], [.int x2, .int x1, .ref 1, .ref 8], (H1 s o e0))) rfl ?_
        obtain ⟨r166, hr166, h⟩ := Option.bind_eq_some_iff.mp h
        refine QTri.callP W (a := 1) (as := [.int x1, .int x2]) (rest := [.ref 8]) (w := (some (.int r166))) (σ₁ := (H1 s o e0)) rfl rfl rfl rfl rfl rfl rfl rfl (tF28 Ad W x1 x2 hr166) ?_
        obtain ⟨y167, hy167, h⟩ := Option.bind_eq_some_iff.mp h
        refine QTri.bnd Ad W (f := fun y167 => (48, [some (.ref 1), some (.int x1), some (.int x2)], [.int y167], (H1 s o e0))) rfl hy167 ?_
        obtain rfl := Option.some.inj h
        exact QTri.retI rfl rfl
theorem tF16a1 (Ad : QAd n0 ad) (W : QW Z a0) (s : List Int32) (e0 : Ob) (o : Ob) (x1 : Int32) (x2 : Int32) {r : Int32} (h : F16 o x1 x2 = some r) : QTri l Z n0 ad 16 (0, qentry [.ref 9, .int x1, .int x2] (pMaxL 16), [], (H1 s e0 o)) (some (Value.int r)) (H1 s e0 o) := by
  unfold F16 at h
  refine QTri.steps Ad W 2 (st' := (2, [some (.ref 9), some (.int x1), some (.int x2)], [.int x1, .ref 9], (H1 s e0 o))) rfl ?_
  obtain ⟨r169, hr169, h⟩ := Option.bind_eq_some_iff.mp h
  refine QTri.callP W (a := 9) (as := [.int x1]) (rest := []) (w := (some (.int r169))) (σ₁ := (H1 s e0 o)) rfl rfl rfl rfl rfl rfl rfl rfl (tF4a1 Ad W s e0 o x1 hr169) ?_
  rcases qite h with ⟨hc170, h⟩ | ⟨hc170, h⟩
  · refine QTri.brF Ad W (t := 10) (f := 8) (L := [some (.ref 9), some (.int x1), some (.int x2)]) (S := []) (σ := (H1 s e0 o)) rfl (XT.i0_ne_f hc170) ?_
    refine QTri.steps Ad W 1 (st' := (9, [some (.ref 9), some (.int x1), some (.int x2)], [.int (0 : Int32)], (H1 s e0 o))) rfl ?_
    obtain rfl := Option.some.inj h
    exact QTri.retI rfl rfl
  · refine QTri.brT Ad W (t := 10) (f := 8) (L := [some (.ref 9), some (.int x1), some (.int x2)]) (S := []) (σ := (H1 s e0 o)) rfl (XT.i0_ne_t hc170) ?_
    refine QTri.steps Ad W 2 (st' := (12, [some (.ref 9), some (.int x1), some (.int x2)], [.int x2, .ref 9], (H1 s e0 o))) rfl ?_
    obtain ⟨r171, hr171, h⟩ := Option.bind_eq_some_iff.mp h
    refine QTri.callP W (a := 9) (as := [.int x2]) (rest := []) (w := (some (.int r171))) (σ₁ := (H1 s e0 o)) rfl rfl rfl rfl rfl rfl rfl rfl (tF11a1 Ad W s e0 o x2 hr171) ?_
    rcases qite h with ⟨hc172, h⟩ | ⟨hc172, h⟩
    · refine QTri.brF Ad W (t := 20) (f := 18) (L := [some (.ref 9), some (.int x1), some (.int x2)]) (S := []) (σ := (H1 s e0 o)) rfl (XT.i0_ne_f hc172) ?_
      refine QTri.steps Ad W 1 (st' := (19, [some (.ref 9), some (.int x1), some (.int x2)], [.int (0 : Int32)], (H1 s e0 o))) rfl ?_
      obtain rfl := Option.some.inj h
      exact QTri.retI rfl rfl
    · refine QTri.brT Ad W (t := 20) (f := 18) (L := [some (.ref 9), some (.int x1), some (.int x2)]) (S := []) (σ := (H1 s e0 o)) rfl (XT.i0_ne_t hc172) ?_
      refine QTri.steps Ad W 3 (st' := (25, [some (.ref 9), some (.int x1), some (.int x2)], [.int x1, .ref 15], (H1 s e0 o))) rfl ?_
      obtain ⟨y173, hy173, h⟩ := Option.bind_eq_some_iff.mp h
      refine QTri.bnd Ad W (f := fun y173 => (26, [some (.ref 9), some (.int x1), some (.int x2)], [.int y173], (H1 s e0 o))) rfl hy173 ?_
      refine QTri.steps Ad W 2 (st' := (28, [some (.ref 9), some (.int x1), some (.int x2)], [.int x2, .ref 9, .int y173], (H1 s e0 o))) rfl ?_
      obtain ⟨r174, hr174, h⟩ := Option.bind_eq_some_iff.mp h
      refine QTri.callP W (a := 9) (as := [.int x2]) (rest := [.int y173]) (w := (some (.int r174))) (σ₁ := (H1 s e0 o)) rfl rfl rfl rfl rfl rfl rfl rfl (tF22 Ad W x2 hr174) ?_
      refine QTri.steps Ad W 1 (st' := (32, [some (.ref 9), some (.int x1), some (.int x2)], [.int (y173 &&& r174)], (H1 s e0 o))) rfl ?_
      rcases qite h with ⟨hc175, h⟩ | ⟨hc175, h⟩
      · refine QTri.brF Ad W (t := 37) (f := 35) (L := [some (.ref 9), some (.int x1), some (.int x2)]) (S := []) (σ := (H1 s e0 o)) rfl (XT.i0_ne_f hc175) ?_
        refine QTri.steps Ad W 1 (st' := (36, [some (.ref 9), some (.int x1), some (.int x2)], [.int (0 : Int32)], (H1 s e0 o))) rfl ?_
        obtain rfl := Option.some.inj h
        exact QTri.retI rfl rfl
      · refine QTri.brT Ad W (t := 37) (f := 35) (L := [some (.ref 9), some (.int x1), some (.int x2)]) (S := []) (σ := (H1 s e0 o)) rfl (XT.i0_ne_t hc175) ?_
        refine QTri.steps Ad W 5 (st' := (44, [some (.ref 9), some (.int x1), some (.int x2)], [.int x2, .int x1, .ref 9, .ref 16], (H1 s e0 o))) rfl ?_
        obtain ⟨r176, hr176, h⟩ := Option.bind_eq_some_iff.mp h
        refine QTri.callP W (a := 9) (as := [.int x1, .int x2]) (rest := [.ref 16]) (w := (some (.int r176))) (σ₁ := (H1 s e0 o)) rfl rfl rfl rfl rfl rfl rfl rfl (tF28 Ad W x1 x2 hr176) ?_
        obtain ⟨y177, hy177, h⟩ := Option.bind_eq_some_iff.mp h
        refine QTri.bnd Ad W (f := fun y177 => (48, [some (.ref 9), some (.int x1), some (.int x2)], [.int y177], (H1 s e0 o))) rfl hy177 ?_
        obtain rfl := Option.some.inj h
        exact QTri.retI rfl rfl
def B6_152 (o1 : Ob) (o2 : Ob) (x2 : Int32) (v : Int32) : Option (((Unit) ⊕ (Int32)) ⊕ (Int32)) :=
  (if v < (8 : Int32) then (F16 o1 x2 v).bind fun r168 => (F16 o2 x2 v).bind fun r178 => (if r168 = r178 then some (.inr (v + (1 : Int32))) else some (.inl (Sum.inr (0 : Int32)))) else some (.inl (Sum.inl ())))
theorem tB6_152 (Ad : QAd n0 ad) (W : QW Z a0) (s : List Int32) (o1 : Ob) (o2 : Ob) (x2 : Int32) (v : Int32) {r : ((Unit) ⊕ (Int32)) ⊕ (Int32)} {u : Option Value} {τ : QHeap} (h : B6_152 o1 o2 x2 v = some r) (hx0 : ∀ x : Unit, r = .inl (Sum.inl x) → QTri l Z n0 ad 6 (181, [some (.ref 1), some (.ref 9), some (.int x2), none], [], (H1 s o1 o2)) u τ) (hx1 : ∀ x : Int32, r = .inl (Sum.inr x) → u = (some (Value.int x)) ∧ τ = (H1 s o1 o2)) (hc : ∀ x : Int32, r = .inr x → QTri l Z n0 ad 6 (152, [some (.ref 1), some (.ref 9), some (.int x2), some (.int x)], [], (H1 s o1 o2)) u τ) : QTri l Z n0 ad 6 (152, [some (.ref 1), some (.ref 9), some (.int x2), some (.int v)], [], (H1 s o1 o2)) u τ := by
  unfold B6_152 at h
  refine QTri.steps Ad W 2 (st' := (155, [some (.ref 1), some (.ref 9), some (.int x2), some (.int v)], [.int (8 : Int32), .int v], (H1 s o1 o2))) rfl ?_
  rcases qite h with ⟨hc158, h⟩ | ⟨hc158, h⟩
  · refine QTri.brF Ad W (t := 181) (f := 158) (L := [some (.ref 1), some (.ref 9), some (.int x2), some (.int v)]) (S := []) (σ := (H1 s o1 o2)) rfl (XT.ii_ge_f hc158) ?_
    refine QTri.steps Ad W 3 (st' := (161, [some (.ref 1), some (.ref 9), some (.int x2), some (.int v)], [.int v, .int x2, .ref 1], (H1 s o1 o2))) rfl ?_
    obtain ⟨r168, hr168, h⟩ := Option.bind_eq_some_iff.mp h
    refine QTri.callV W (a := 1) (as := [.int x2, .int v]) (rest := []) (w := (some (.int r168))) (σ₁ := (H1 s o1 o2)) rfl rfl rfl rfl rfl rfl rfl rfl (tF16 Ad W s o2 o1 x2 v hr168) ?_
    refine QTri.steps Ad W 3 (st' := (167, [some (.ref 1), some (.ref 9), some (.int x2), some (.int v)], [.int v, .int x2, .ref 9, .int r168], (H1 s o1 o2))) rfl ?_
    obtain ⟨r178, hr178, h⟩ := Option.bind_eq_some_iff.mp h
    refine QTri.callV W (a := 9) (as := [.int x2, .int v]) (rest := [.int r168]) (w := (some (.int r178))) (σ₁ := (H1 s o1 o2)) rfl rfl rfl rfl rfl rfl rfl rfl (tF16a1 Ad W s o1 o2 x2 v hr178) ?_
    rcases qite h with ⟨hc179, h⟩ | ⟨hc179, h⟩
    · refine QTri.brT Ad W (t := 175) (f := 173) (L := [some (.ref 1), some (.ref 9), some (.int x2), some (.int v)]) (S := []) (σ := (H1 s o1 o2)) rfl (XT.ii_eq_t hc179) ?_
      refine QTri.steps Ad W 2 (st' := (152, [some (.ref 1), some (.ref 9), some (.int x2), some (.int (v + (1 : Int32)))], [], (H1 s o1 o2))) rfl ?_
      obtain rfl := Option.some.inj h
      exact QTri.mask [true, true, true, true] (hc (v + (1 : Int32)) rfl)
    · refine QTri.brF Ad W (t := 175) (f := 173) (L := [some (.ref 1), some (.ref 9), some (.int x2), some (.int v)]) (S := []) (σ := (H1 s o1 o2)) rfl (XT.ii_eq_f hc179) ?_
      refine QTri.steps Ad W 1 (st' := (174, [some (.ref 1), some (.ref 9), some (.int x2), some (.int v)], [.int (0 : Int32)], (H1 s o1 o2))) rfl ?_
      obtain rfl := Option.some.inj h
      obtain ⟨rfl, rfl⟩ := hx1 (0 : Int32) rfl
      exact QTri.retZ rfl rfl
  · refine QTri.brT Ad W (t := 181) (f := 158) (L := [some (.ref 1), some (.ref 9), some (.int x2), some (.int v)]) (S := []) (σ := (H1 s o1 o2)) rfl (XT.ii_ge_t hc158) ?_
    obtain rfl := Option.some.inj h
    exact QTri.mask [true, true, true, false] (hx0 () rfl)
def B6_85 (o1 : Ob) (o2 : Ob) (v : Int32) : Option (((Int32)) ⊕ (Int32)) :=
  (if v < (4 : Int32) then (F3 o1 v).bind fun r123 => (F3 o2 v).bind fun r129 => (if r123 = r129 then (F13 o1 v).bind fun r134 => (F13 o2 v).bind fun r138 => (if r134 = r138 then (F14 o1 v).bind fun r143 => (F14 o2 v).bind fun r147 => (if r143 = r147 then (F15 o1 v).bind fun r152 => (F15 o2 v).bind fun r156 => (if r152 = r156 then ((loopN (B6_152 o1 o2 v) qN (0 : Int32)).bind fun e180 => match e180 with | .inl e180a => some (.inr (v + (1 : Int32))) | .inr e180a => some (.inl e180a)) else some (.inl (0 : Int32))) else some (.inl (0 : Int32))) else some (.inl (0 : Int32))) else some (.inl (0 : Int32))) else some (.inl (1 : Int32)))
theorem tB6_85 (Ad : QAd n0 ad) (W : QW Z a0) (s : List Int32) (o1 : Ob) (o2 : Ob) (v : Int32) {r : ((Int32)) ⊕ (Int32)} {u : Option Value} {τ : QHeap} (h : B6_85 o1 o2 v = some r) (hx0 : ∀ x : Int32, r = .inl x → u = (some (Value.int x)) ∧ τ = (H1 s o1 o2)) (hc : ∀ x : Int32, r = .inr x → QTri l Z n0 ad 6 (85, [some (.ref 1), some (.ref 9), some (.int x), none], [], (H1 s o1 o2)) u τ) : QTri l Z n0 ad 6 (85, [some (.ref 1), some (.ref 9), some (.int v), none], [], (H1 s o1 o2)) u τ := by
  unfold B6_85 at h
  refine QTri.steps Ad W 2 (st' := (87, [some (.ref 1), some (.ref 9), some (.int v), none], [.int (4 : Int32), .int v], (H1 s o1 o2))) rfl ?_
  rcases qite h with ⟨hc122, h⟩ | ⟨hc122, h⟩
  · refine QTri.brF Ad W (t := 187) (f := 90) (L := [some (.ref 1), some (.ref 9), some (.int v), none]) (S := []) (σ := (H1 s o1 o2)) rfl (XT.ii_ge_f hc122) ?_
    refine QTri.steps Ad W 2 (st' := (92, [some (.ref 1), some (.ref 9), some (.int v), none], [.int v, .ref 1], (H1 s o1 o2))) rfl ?_
    obtain ⟨r123, hr123, h⟩ := Option.bind_eq_some_iff.mp h
    refine QTri.callV W (a := 1) (as := [.int v]) (rest := []) (w := (some (.int r123))) (σ₁ := (H1 s o1 o2)) rfl rfl rfl rfl rfl rfl rfl rfl (tF3 Ad W s o2 o1 v hr123) ?_
    refine QTri.steps Ad W 2 (st' := (97, [some (.ref 1), some (.ref 9), some (.int v), none], [.int v, .ref 9, .int r123], (H1 s o1 o2))) rfl ?_
    obtain ⟨r129, hr129, h⟩ := Option.bind_eq_some_iff.mp h
    refine QTri.callV W (a := 9) (as := [.int v]) (rest := [.int r123]) (w := (some (.int r129))) (σ₁ := (H1 s o1 o2)) rfl rfl rfl rfl rfl rfl rfl rfl (tF3a1 Ad W s o1 o2 v hr129) ?_
    rcases qite h with ⟨hc130, h⟩ | ⟨hc130, h⟩
    · refine QTri.brT Ad W (t := 105) (f := 103) (L := [some (.ref 1), some (.ref 9), some (.int v), none]) (S := []) (σ := (H1 s o1 o2)) rfl (XT.ii_eq_t hc130) ?_
      refine QTri.steps Ad W 2 (st' := (107, [some (.ref 1), some (.ref 9), some (.int v), none], [.int v, .ref 1], (H1 s o1 o2))) rfl ?_
      obtain ⟨r134, hr134, h⟩ := Option.bind_eq_some_iff.mp h
      refine QTri.callV W (a := 1) (as := [.int v]) (rest := []) (w := (some (.int r134))) (σ₁ := (H1 s o1 o2)) rfl rfl rfl rfl rfl rfl rfl rfl (tF13 Ad W s o2 o1 v hr134) ?_
      refine QTri.steps Ad W 2 (st' := (112, [some (.ref 1), some (.ref 9), some (.int v), none], [.int v, .ref 9, .int r134], (H1 s o1 o2))) rfl ?_
      obtain ⟨r138, hr138, h⟩ := Option.bind_eq_some_iff.mp h
      refine QTri.callV W (a := 9) (as := [.int v]) (rest := [.int r134]) (w := (some (.int r138))) (σ₁ := (H1 s o1 o2)) rfl rfl rfl rfl rfl rfl rfl rfl (tF13a1 Ad W s o1 o2 v hr138) ?_
      rcases qite h with ⟨hc139, h⟩ | ⟨hc139, h⟩
      · refine QTri.brT Ad W (t := 120) (f := 118) (L := [some (.ref 1), some (.ref 9), some (.int v), none]) (S := []) (σ := (H1 s o1 o2)) rfl (XT.ii_eq_t hc139) ?_
        refine QTri.steps Ad W 2 (st' := (122, [some (.ref 1), some (.ref 9), some (.int v), none], [.int v, .ref 1], (H1 s o1 o2))) rfl ?_
        obtain ⟨r143, hr143, h⟩ := Option.bind_eq_some_iff.mp h
        refine QTri.callV W (a := 1) (as := [.int v]) (rest := []) (w := (some (.int r143))) (σ₁ := (H1 s o1 o2)) rfl rfl rfl rfl rfl rfl rfl rfl (tF14 Ad W s o2 o1 v hr143) ?_
        refine QTri.steps Ad W 2 (st' := (127, [some (.ref 1), some (.ref 9), some (.int v), none], [.int v, .ref 9, .int r143], (H1 s o1 o2))) rfl ?_
        obtain ⟨r147, hr147, h⟩ := Option.bind_eq_some_iff.mp h
        refine QTri.callV W (a := 9) (as := [.int v]) (rest := [.int r143]) (w := (some (.int r147))) (σ₁ := (H1 s o1 o2)) rfl rfl rfl rfl rfl rfl rfl rfl (tF14a1 Ad W s o1 o2 v hr147) ?_
        rcases qite h with ⟨hc148, h⟩ | ⟨hc148, h⟩
        · refine QTri.brT Ad W (t := 135) (f := 133) (L := [some (.ref 1), some (.ref 9), some (.int v), none]) (S := []) (σ := (H1 s o1 o2)) rfl (XT.ii_eq_t hc148) ?_
          refine QTri.steps Ad W 2 (st' := (137, [some (.ref 1), some (.ref 9), some (.int v), none], [.int v, .ref 1], (H1 s o1 o2))) rfl ?_
          obtain ⟨r152, hr152, h⟩ := Option.bind_eq_some_iff.mp h
          refine QTri.callV W (a := 1) (as := [.int v]) (rest := []) (w := (some (.int r152))) (σ₁ := (H1 s o1 o2)) rfl rfl rfl rfl rfl rfl rfl rfl (tF15 Ad W s o2 o1 v hr152) ?_
          refine QTri.steps Ad W 2 (st' := (142, [some (.ref 1), some (.ref 9), some (.int v), none], [.int v, .ref 9, .int r152], (H1 s o1 o2))) rfl ?_
          obtain ⟨r156, hr156, h⟩ := Option.bind_eq_some_iff.mp h
          refine QTri.callV W (a := 9) (as := [.int v]) (rest := [.int r152]) (w := (some (.int r156))) (σ₁ := (H1 s o1 o2)) rfl rfl rfl rfl rfl rfl rfl rfl (tF15a1 Ad W s o1 o2 v hr156) ?_
          rcases qite h with ⟨hc157, h⟩ | ⟨hc157, h⟩
          · refine QTri.brT Ad W (t := 150) (f := 148) (L := [some (.ref 1), some (.ref 9), some (.int v), none]) (S := []) (σ := (H1 s o1 o2)) rfl (XT.ii_eq_t hc157) ?_
            refine QTri.steps Ad W 2 (st' := (152, [some (.ref 1), some (.ref 9), some (.int v), some (.int (0 : Int32))], [], (H1 s o1 o2))) rfl ?_
            obtain ⟨e180, he180, h⟩ := Option.bind_eq_some_iff.mp h
            refine QTri.mask [true, true, true, true] (loopN_tri (B := B6_152 o1 o2 v) (T := fun lv181 => QTri l Z n0 ad 6 (152, [some (.ref 1), some (.ref 9), some (.int v), some (.int lv181)], [], (H1 s o1 o2)) u τ) (KE := fun e => match e with | .inl e180a => QTri l Z n0 ad 6 (181, [some (.ref 1), some (.ref 9), some (.int v), none], [], (H1 s o1 o2)) u τ | .inr e180a => u = (some (Value.int e180a)) ∧ τ = (H1 s o1 o2)) (fun lv181 r hB hE hC => tB6_152 Ad W s o1 o2 v lv181 hB (fun x q => hE _ q) (fun x q => hE _ q) (fun x q => hC x q)) qN (0 : Int32) e180 he180 ?_)
            rcases e180 with e180a | e180a
            · refine QTri.steps Ad W 2 (st' := (85, [some (.ref 1), some (.ref 9), some (.int (v + (1 : Int32))), none], [], (H1 s o1 o2))) rfl ?_
              obtain rfl := Option.some.inj h
              exact QTri.mask [true, true, true, false] (hc (v + (1 : Int32)) rfl)
            · obtain rfl := Option.some.inj h
              exact hx0 e180a rfl
          · refine QTri.brF Ad W (t := 150) (f := 148) (L := [some (.ref 1), some (.ref 9), some (.int v), none]) (S := []) (σ := (H1 s o1 o2)) rfl (XT.ii_eq_f hc157) ?_
            refine QTri.steps Ad W 1 (st' := (149, [some (.ref 1), some (.ref 9), some (.int v), none], [.int (0 : Int32)], (H1 s o1 o2))) rfl ?_
            obtain rfl := Option.some.inj h
            obtain ⟨rfl, rfl⟩ := hx0 (0 : Int32) rfl
            exact QTri.retZ rfl rfl
        · refine QTri.brF Ad W (t := 135) (f := 133) (L := [some (.ref 1), some (.ref 9), some (.int v), none]) (S := []) (σ := (H1 s o1 o2)) rfl (XT.ii_eq_f hc148) ?_
          refine QTri.steps Ad W 1 (st' := (134, [some (.ref 1), some (.ref 9), some (.int v), none], [.int (0 : Int32)], (H1 s o1 o2))) rfl ?_
          obtain rfl := Option.some.inj h
          obtain ⟨rfl, rfl⟩ := hx0 (0 : Int32) rfl
          exact QTri.retZ rfl rfl
      · refine QTri.brF Ad W (t := 120) (f := 118) (L := [some (.ref 1), some (.ref 9), some (.int v), none]) (S := []) (σ := (H1 s o1 o2)) rfl (XT.ii_eq_f hc139) ?_
        refine QTri.steps Ad W 1 (st' := (119, [some (.ref 1), some (.ref 9), some (.int v), none], [.int (0 : Int32)], (H1 s o1 o2))) rfl ?_
        obtain rfl := Option.some.inj h
        obtain ⟨rfl, rfl⟩ := hx0 (0 : Int32) rfl
        exact QTri.retZ rfl rfl
    · refine QTri.brF Ad W (t := 105) (f := 103) (L := [some (.ref 1), some (.ref 9), some (.int v), none]) (S := []) (σ := (H1 s o1 o2)) rfl (XT.ii_eq_f hc130) ?_
      refine QTri.steps Ad W 1 (st' := (104, [some (.ref 1), some (.ref 9), some (.int v), none], [.int (0 : Int32)], (H1 s o1 o2))) rfl ?_
      obtain rfl := Option.some.inj h
      obtain ⟨rfl, rfl⟩ := hx0 (0 : Int32) rfl
      exact QTri.retZ rfl rfl
  · refine QTri.brT Ad W (t := 187) (f := 90) (L := [some (.ref 1), some (.ref 9), some (.int v), none]) (S := []) (σ := (H1 s o1 o2)) rfl (XT.ii_ge_t hc122) ?_
    refine QTri.steps Ad W 1 (st' := (188, [some (.ref 1), some (.ref 9), some (.int v), none], [.int (1 : Int32)], (H1 s o1 o2))) rfl ?_
    obtain rfl := Option.some.inj h
    obtain ⟨rfl, rfl⟩ := hx0 (1 : Int32) rfl
    exact QTri.retZ rfl rfl
/-- same(LOccValidator;LOccValidator;)Z -/
def F6 (o1 : Ob) (o2 : Ob) : Option (Int32) :=
  (F7 o1).bind fun r86 => (F7 o2).bind fun r87 => (if r86 = r87 then (F8 o1).bind fun r89 => (F8 o2).bind fun r90 => (if r89 = r90 then (F9 o1).bind fun r92 => (F9 o2).bind fun r93 => (if r92 = r93 then ((loopN (B6_41 o1 o2) qN (0 : Int32)).bind fun e120 => match e120 with | .inl e120a => (loopN (B6_85 o1 o2) qN (0 : Int32)).bind fun e182 => some e182 | .inr e120a => some e120a) else some (0 : Int32)) else some (0 : Int32)) else some (0 : Int32))
theorem tF6 (Ad : QAd n0 ad) (W : QW Z a0) (s : List Int32) (o1 : Ob) (o2 : Ob) {r : Int32} (h : F6 o1 o2 = some r) : QTri l Z n0 ad 6 (0, qentry [.ref 1, .ref 9] (pMaxL 6), [], (H1 s o1 o2)) (some (Value.int r)) (H1 s o1 o2) := by
  unfold F6 at h
  refine QTri.steps Ad W 1 (st' := (1, [some (.ref 1), some (.ref 9), none, none], [.ref 1], (H1 s o1 o2))) rfl ?_
  obtain ⟨r86, hr86, h⟩ := Option.bind_eq_some_iff.mp h
  refine QTri.callV W (a := 1) (as := []) (rest := []) (w := (some (.int r86))) (σ₁ := (H1 s o1 o2)) rfl rfl rfl rfl rfl rfl rfl rfl (tF7 Ad W s o2 o1 hr86) ?_
  refine QTri.steps Ad W 1 (st' := (5, [some (.ref 1), some (.ref 9), none, none], [.ref 9, .int r86], (H1 s o1 o2))) rfl ?_
  obtain ⟨r87, hr87, h⟩ := Option.bind_eq_some_iff.mp h
  refine QTri.callV W (a := 9) (as := []) (rest := [.int r86]) (w := (some (.int r87))) (σ₁ := (H1 s o1 o2)) rfl rfl rfl rfl rfl rfl rfl rfl (tF7a1 Ad W s o1 o2 hr87) ?_
  rcases qite h with ⟨hc88, h⟩ | ⟨hc88, h⟩
  · refine QTri.brT Ad W (t := 13) (f := 11) (L := [some (.ref 1), some (.ref 9), none, none]) (S := []) (σ := (H1 s o1 o2)) rfl (XT.ii_eq_t hc88) ?_
    refine QTri.steps Ad W 1 (st' := (14, [some (.ref 1), some (.ref 9), none, none], [.ref 1], (H1 s o1 o2))) rfl ?_
    obtain ⟨r89, hr89, h⟩ := Option.bind_eq_some_iff.mp h
    refine QTri.callV W (a := 1) (as := []) (rest := []) (w := (some (.int r89))) (σ₁ := (H1 s o1 o2)) rfl rfl rfl rfl rfl rfl rfl rfl (tF8 Ad W s o2 o1 hr89) ?_
    refine QTri.steps Ad W 1 (st' := (18, [some (.ref 1), some (.ref 9), none, none], [.ref 9, .int r89], (H1 s o1 o2))) rfl ?_
    obtain ⟨r90, hr90, h⟩ := Option.bind_eq_some_iff.mp h
    refine QTri.callV W (a := 9) (as := []) (rest := [.int r89]) (w := (some (.int r90))) (σ₁ := (H1 s o1 o2)) rfl rfl rfl rfl rfl rfl rfl rfl (tF8a1 Ad W s o1 o2 hr90) ?_
    rcases qite h with ⟨hc91, h⟩ | ⟨hc91, h⟩
    · refine QTri.brT Ad W (t := 26) (f := 24) (L := [some (.ref 1), some (.ref 9), none, none]) (S := []) (σ := (H1 s o1 o2)) rfl (XT.ii_eq_t hc91) ?_
      refine QTri.steps Ad W 1 (st' := (27, [some (.ref 1), some (.ref 9), none, none], [.ref 1], (H1 s o1 o2))) rfl ?_
      obtain ⟨r92, hr92, h⟩ := Option.bind_eq_some_iff.mp h
      refine QTri.callV W (a := 1) (as := []) (rest := []) (w := (some (.int r92))) (σ₁ := (H1 s o1 o2)) rfl rfl rfl rfl rfl rfl rfl rfl (tF9 Ad W s o2 o1 hr92) ?_
      refine QTri.steps Ad W 1 (st' := (31, [some (.ref 1), some (.ref 9), none, none], [.ref 9, .int r92], (H1 s o1 o2))) rfl ?_
      obtain ⟨r93, hr93, h⟩ := Option.bind_eq_some_iff.mp h
      refine QTri.callV W (a := 9) (as := []) (rest := [.int r92]) (w := (some (.int r93))) (σ₁ := (H1 s o1 o2)) rfl rfl rfl rfl rfl rfl rfl rfl (tF9a1 Ad W s o1 o2 hr93) ?_
      rcases qite h with ⟨hc94, h⟩ | ⟨hc94, h⟩
      · refine QTri.brT Ad W (t := 39) (f := 37) (L := [some (.ref 1), some (.ref 9), none, none]) (S := []) (σ := (H1 s o1 o2)) rfl (XT.ii_eq_t hc94) ?_
        refine QTri.steps Ad W 2 (st' := (41, [some (.ref 1), some (.ref 9), some (.int (0 : Int32)), none], [], (H1 s o1 o2))) rfl ?_
        obtain ⟨e120, he120, h⟩ := Option.bind_eq_some_iff.mp h
        refine QTri.mask [true, true, true, false] (loopN_tri (B := B6_41 o1 o2) (T := fun lv121 => QTri l Z n0 ad 6 (41, [some (.ref 1), some (.ref 9), some (.int lv121), none], [], (H1 s o1 o2)) (some (Value.int r)) (H1 s o1 o2)) (KE := fun e => match e with | .inl e120a => QTri l Z n0 ad 6 (83, [some (.ref 1), some (.ref 9), none, none], [], (H1 s o1 o2)) (some (Value.int r)) (H1 s o1 o2) | .inr e120a => (some (Value.int r)) = (some (Value.int e120a)) ∧ (H1 s o1 o2) = (H1 s o1 o2)) (fun lv121 r hB hE hC => tB6_41 Ad W s o1 o2 lv121 hB (fun x q => hE _ q) (fun x q => hE _ q) (fun x q => hC x q)) qN (0 : Int32) e120 he120 ?_)
        rcases e120 with e120a | e120a
        · refine QTri.steps Ad W 2 (st' := (85, [some (.ref 1), some (.ref 9), some (.int (0 : Int32)), none], [], (H1 s o1 o2))) rfl ?_
          obtain ⟨e182, he182, h⟩ := Option.bind_eq_some_iff.mp h
          refine QTri.mask [true, true, true, false] (loopN_tri (B := B6_85 o1 o2) (T := fun lv183 => QTri l Z n0 ad 6 (85, [some (.ref 1), some (.ref 9), some (.int lv183), none], [], (H1 s o1 o2)) (some (Value.int r)) (H1 s o1 o2)) (KE := fun e182a => (some (Value.int r)) = (some (Value.int e182a)) ∧ (H1 s o1 o2) = (H1 s o1 o2)) (fun lv183 r hB hE hC => tB6_85 Ad W s o1 o2 lv183 hB (fun x q => hE _ q) (fun x q => hC x q)) qN (0 : Int32) e182 he182 ?_)
          obtain rfl := Option.some.inj h
          exact ⟨rfl, rfl⟩
        · obtain rfl := Option.some.inj h
          exact ⟨rfl, rfl⟩
      · refine QTri.brF Ad W (t := 39) (f := 37) (L := [some (.ref 1), some (.ref 9), none, none]) (S := []) (σ := (H1 s o1 o2)) rfl (XT.ii_eq_f hc94) ?_
        refine QTri.steps Ad W 1 (st' := (38, [some (.ref 1), some (.ref 9), none, none], [.int (0 : Int32)], (H1 s o1 o2))) rfl ?_
        obtain rfl := Option.some.inj h
        exact QTri.retZ rfl rfl
    · refine QTri.brF Ad W (t := 26) (f := 24) (L := [some (.ref 1), some (.ref 9), none, none]) (S := []) (σ := (H1 s o1 o2)) rfl (XT.ii_eq_f hc91) ?_
      refine QTri.steps Ad W 1 (st' := (25, [some (.ref 1), some (.ref 9), none, none], [.int (0 : Int32)], (H1 s o1 o2))) rfl ?_
      obtain rfl := Option.some.inj h
      exact QTri.retZ rfl rfl
  · refine QTri.brF Ad W (t := 13) (f := 11) (L := [some (.ref 1), some (.ref 9), none, none]) (S := []) (σ := (H1 s o1 o2)) rfl (XT.ii_eq_f hc88) ?_
    refine QTri.steps Ad W 1 (st' := (12, [some (.ref 1), some (.ref 9), none, none], [.int (0 : Int32)], (H1 s o1 o2))) rfl ?_
    obtain rfl := Option.some.inj h
    exact QTri.retZ rfl rfl
def J0_305 (s : List Int32) (p0 : Ob) (p1 : Ob) (x3 : Int32) : Option (((Int32 × QHeap)) ⊕ (Int32 × Ob × Ob)) :=
  some (.inr ((x3 + (4 : Int32)), p0, p1))
theorem tJ0_305 (Ad : QAd n0 ad) (W : QW Z a0) (s : List Int32) (p0 : Ob) (p1 : Ob) (x3 : Int32) {r : ((Int32 × QHeap)) ⊕ (Int32 × Ob × Ob)} {u : Option Value} {τ : QHeap} (h : J0_305 s p0 p1 x3 = some r) (hx0 : ∀ x : Int32 × QHeap, r = .inl x → u = (some (Value.int x.1)) ∧ τ = x.2) (hc : ∀ x : Int32 × Ob × Ob, r = .inr x → QTri l Z n0 ad 0 (26, [some (.ref 0), some (.ref 1), some (.ref 9), some (.int x.1), none, none, none, none, none, none, none], [], (H1 s x.2.1 x.2.2)) u τ) : QTri l Z n0 ad 0 (305, [some (.ref 0), some (.ref 1), some (.ref 9), some (.int x3), none, none, none, none, none, none, none], [], (H1 s p0 p1)) u τ := by
  unfold J0_305 at h
  refine QTri.steps Ad W 2 (st' := (26, [some (.ref 0), some (.ref 1), some (.ref 9), some (.int (x3 + (4 : Int32))), none, none, none, none, none, none, none], [], (H1 s p0 p1))) rfl ?_
  obtain rfl := Option.some.inj h
  exact QTri.mask [true, true, true, true, false, false, false, false, false, false, false] (hc ((x3 + (4 : Int32)), p0, p1) rfl)
def J0_286 (s : List Int32) (p0 : Ob) (p1 : Ob) (x3 : Int32) (x9 : Int32) (x10 : Int32) : Option (((Int32 × QHeap)) ⊕ (Int32 × Ob × Ob)) :=
  (if x9 = x10 then (F6 p0 p1).bind fun r184 => (if r184 = (0 : Int32) then some (.inl ((0 : Int32), (H1 s p0 p1))) else (J0_305 s p0 p1 x3)) else some (.inl ((0 : Int32), (H1 s p0 p1))))
theorem tJ0_286 (Ad : QAd n0 ad) (W : QW Z a0) (s : List Int32) (p0 : Ob) (p1 : Ob) (x3 : Int32) (x9 : Int32) (x10 : Int32) {r : ((Int32 × QHeap)) ⊕ (Int32 × Ob × Ob)} {u : Option Value} {τ : QHeap} (h : J0_286 s p0 p1 x3 x9 x10 = some r) (hx0 : ∀ x : Int32 × QHeap, r = .inl x → u = (some (Value.int x.1)) ∧ τ = x.2) (hc : ∀ x : Int32 × Ob × Ob, r = .inr x → QTri l Z n0 ad 0 (26, [some (.ref 0), some (.ref 1), some (.ref 9), some (.int x.1), none, none, none, none, none, none, none], [], (H1 s x.2.1 x.2.2)) u τ) : QTri l Z n0 ad 0 (286, [some (.ref 0), some (.ref 1), some (.ref 9), some (.int x3), none, none, none, none, none, some (.int x9), some (.int x10)], [], (H1 s p0 p1)) u τ := by
  unfold J0_286 at h
  refine QTri.steps Ad W 2 (st' := (290, [some (.ref 0), some (.ref 1), some (.ref 9), some (.int x3), none, none, none, none, none, some (.int x9), some (.int x10)], [.int x10, .int x9], (H1 s p0 p1))) rfl ?_
  rcases qite h with ⟨hc85, h⟩ | ⟨hc85, h⟩
  · refine QTri.brT Ad W (t := 295) (f := 293) (L := [some (.ref 0), some (.ref 1), some (.ref 9), some (.int x3), none, none, none, none, none, some (.int x9), some (.int x10)]) (S := []) (σ := (H1 s p0 p1)) rfl (XT.ii_eq_t hc85) ?_
    refine QTri.steps Ad W 2 (st' := (297, [some (.ref 0), some (.ref 1), some (.ref 9), some (.int x3), none, none, none, none, none, some (.int x9), some (.int x10)], [.ref 9, .ref 1], (H1 s p0 p1))) rfl ?_
    obtain ⟨r184, hr184, h⟩ := Option.bind_eq_some_iff.mp h
    refine QTri.callS W (as := [.ref 1, .ref 9]) (rest := []) (w := (some (.int r184))) (σ₁ := (H1 s p0 p1)) rfl rfl rfl rfl rfl rfl rfl (tF6 Ad W s p0 p1 hr184) ?_
    rcases qite h with ⟨hc185, h⟩ | ⟨hc185, h⟩
    · refine QTri.brF Ad W (t := 305) (f := 303) (L := [some (.ref 0), some (.ref 1), some (.ref 9), some (.int x3), none, none, none, none, none, some (.int x9), some (.int x10)]) (S := []) (σ := (H1 s p0 p1)) rfl (XT.i0_ne_f hc185) ?_
      refine QTri.steps Ad W 1 (st' := (304, [some (.ref 0), some (.ref 1), some (.ref 9), some (.int x3), none, none, none, none, none, some (.int x9), some (.int x10)], [.int (0 : Int32)], (H1 s p0 p1))) rfl ?_
      obtain rfl := Option.some.inj h
      obtain ⟨rfl, rfl⟩ := hx0 ((0 : Int32), (H1 s p0 p1)) rfl
      exact QTri.retZ rfl rfl
    · refine QTri.brT Ad W (t := 305) (f := 303) (L := [some (.ref 0), some (.ref 1), some (.ref 9), some (.int x3), none, none, none, none, none, some (.int x9), some (.int x10)]) (S := []) (σ := (H1 s p0 p1)) rfl (XT.i0_ne_t hc185) ?_
      exact QTri.mask [true, true, true, true, false, false, false, false, false, false, false] (tJ0_305 Ad W s p0 p1 x3 h hx0 hc)
  · refine QTri.brF Ad W (t := 295) (f := 293) (L := [some (.ref 0), some (.ref 1), some (.ref 9), some (.int x3), none, none, none, none, none, some (.int x9), some (.int x10)]) (S := []) (σ := (H1 s p0 p1)) rfl (XT.ii_eq_f hc85) ?_
    refine QTri.steps Ad W 1 (st' := (294, [some (.ref 0), some (.ref 1), some (.ref 9), some (.int x3), none, none, none, none, none, some (.int x9), some (.int x10)], [.int (0 : Int32)], (H1 s p0 p1))) rfl ?_
    obtain rfl := Option.some.inj h
    obtain ⟨rfl, rfl⟩ := hx0 ((0 : Int32), (H1 s p0 p1)) rfl
    exact QTri.retZ rfl rfl
/-- read(II)I -/
def F17 (o : Ob) (x1 : Int32) (x2 : Int32) : Option (Int32 × Ob) :=
  (F4 o x1).bind fun r187 => (if r187 = (0 : Int32) then some ((0 : Int32), o) else (F11 o x2).bind fun r189 => (if r189 = (0 : Int32) then some ((0 : Int32), o) else (F22 x2).bind fun r191 => (aget (f_writeSet o) x1).bind fun y192 => (if (y192 &&& r191) = (0 : Int32) then (aget (f_readSet o) x1).bind fun y194 => (aset (f_readSet o) x1 (y194 ||| r191)).bind fun y195 => (aget (f_value o) x2).bind fun y196 => some (y196, (s_readSet o y195)) else (F28 x1 x2).bind fun r198 => (aget (f_buffered o) r198).bind fun y199 => some (y199, o))))
theorem tF17 (Ad : QAd n0 ad) (W : QW Z a0) (s : List Int32) (e0 : Ob) (o : Ob) (x1 : Int32) (x2 : Int32) {r : Int32 × Ob} (h : F17 o x1 x2 = some r) : QTri l Z n0 ad 17 (0, qentry [.ref 9, .int x1, .int x2] (pMaxL 17), [], (H1 s e0 o)) (some (Value.int r.1)) (H1 s e0 r.2) := by
  unfold F17 at h
  refine QTri.steps Ad W 2 (st' := (2, [some (.ref 9), some (.int x1), some (.int x2), none], [.int x1, .ref 9], (H1 s e0 o))) rfl ?_
  obtain ⟨r187, hr187, h⟩ := Option.bind_eq_some_iff.mp h
  refine QTri.callP W (a := 9) (as := [.int x1]) (rest := []) (w := (some (.int r187))) (σ₁ := (H1 s e0 o)) rfl rfl rfl rfl rfl rfl rfl rfl (tF4a1 Ad W s e0 o x1 hr187) ?_
  rcases qite h with ⟨hc188, h⟩ | ⟨hc188, h⟩
  · refine QTri.brF Ad W (t := 10) (f := 8) (L := [some (.ref 9), some (.int x1), some (.int x2), none]) (S := []) (σ := (H1 s e0 o)) rfl (XT.i0_ne_f hc188) ?_
    refine QTri.steps Ad W 1 (st' := (9, [some (.ref 9), some (.int x1), some (.int x2), none], [.int (0 : Int32)], (H1 s e0 o))) rfl ?_
    obtain rfl := Option.some.inj h
    exact QTri.retI rfl rfl
  · refine QTri.brT Ad W (t := 10) (f := 8) (L := [some (.ref 9), some (.int x1), some (.int x2), none]) (S := []) (σ := (H1 s e0 o)) rfl (XT.i0_ne_t hc188) ?_
    refine QTri.steps Ad W 2 (st' := (12, [some (.ref 9), some (.int x1), some (.int x2), none], [.int x2, .ref 9], (H1 s e0 o))) rfl ?_
    obtain ⟨r189, hr189, h⟩ := Option.bind_eq_some_iff.mp h
    refine QTri.callP W (a := 9) (as := [.int x2]) (rest := []) (w := (some (.int r189))) (σ₁ := (H1 s e0 o)) rfl rfl rfl rfl rfl rfl rfl rfl (tF11a1 Ad W s e0 o x2 hr189) ?_
    rcases qite h with ⟨hc190, h⟩ | ⟨hc190, h⟩
    · refine QTri.brF Ad W (t := 20) (f := 18) (L := [some (.ref 9), some (.int x1), some (.int x2), none]) (S := []) (σ := (H1 s e0 o)) rfl (XT.i0_ne_f hc190) ?_
      refine QTri.steps Ad W 1 (st' := (19, [some (.ref 9), some (.int x1), some (.int x2), none], [.int (0 : Int32)], (H1 s e0 o))) rfl ?_
      obtain rfl := Option.some.inj h
      exact QTri.retI rfl rfl
    · refine QTri.brT Ad W (t := 20) (f := 18) (L := [some (.ref 9), some (.int x1), some (.int x2), none]) (S := []) (σ := (H1 s e0 o)) rfl (XT.i0_ne_t hc190) ?_
      refine QTri.steps Ad W 2 (st' := (22, [some (.ref 9), some (.int x1), some (.int x2), none], [.int x2, .ref 9], (H1 s e0 o))) rfl ?_
      obtain ⟨r191, hr191, h⟩ := Option.bind_eq_some_iff.mp h
      refine QTri.callP W (a := 9) (as := [.int x2]) (rest := []) (w := (some (.int r191))) (σ₁ := (H1 s e0 o)) rfl rfl rfl rfl rfl rfl rfl rfl (tF22 Ad W x2 hr191) ?_
      refine QTri.steps Ad W 4 (st' := (31, [some (.ref 9), some (.int x1), some (.int x2), some (.int r191)], [.int x1, .ref 15], (H1 s e0 o))) rfl ?_
      obtain ⟨y192, hy192, h⟩ := Option.bind_eq_some_iff.mp h
      refine QTri.bnd Ad W (f := fun y192 => (32, [some (.ref 9), some (.int x1), some (.int x2), some (.int r191)], [.int y192], (H1 s e0 o))) rfl hy192 ?_
      refine QTri.steps Ad W 2 (st' := (34, [some (.ref 9), some (.int x1), some (.int x2), some (.int r191)], [.int (y192 &&& r191)], (H1 s e0 o))) rfl ?_
      rcases qite h with ⟨hc193, h⟩ | ⟨hc193, h⟩
      · refine QTri.brT Ad W (t := 49) (f := 37) (L := [some (.ref 9), some (.int x1), some (.int x2), some (.int r191)]) (S := []) (σ := (H1 s e0 o)) rfl (XT.i0_eq_t hc193) ?_
        refine QTri.steps Ad W 6 (st' := (59, [some (.ref 9), some (.int x1), some (.int x2), some (.int r191)], [.int x1, .ref 14, .int x1, .ref 14], (H1 s e0 o))) rfl ?_
        obtain ⟨y194, hy194, h⟩ := Option.bind_eq_some_iff.mp h
        refine QTri.bnd Ad W (f := fun y194 => (60, [some (.ref 9), some (.int x1), some (.int x2), some (.int r191)], [.int y194, .int x1, .ref 14], (H1 s e0 o))) rfl hy194 ?_
        refine QTri.steps Ad W 2 (st' := (62, [some (.ref 9), some (.int x1), some (.int x2), some (.int r191)], [.int (y194 ||| r191), .int x1, .ref 14], (H1 s e0 o))) rfl ?_
        obtain ⟨y195, hy195, h⟩ := Option.bind_eq_some_iff.mp h
        refine QTri.bnd Ad W (f := fun y195 => (63, [some (.ref 9), some (.int x1), some (.int x2), some (.int r191)], [], [.inr (.inl (.int, s)), .inl [.ref 2, .ref 3, .ref 4, .ref 5, .ref 6, .ref 7, .ref 8, .int (f_keyCount e0), .int (f_slotCount e0), .int (f_window e0), .int (f_commitCount e0), .int (f_abortCount e0), .int (f_lastConflict e0)], .inr (.inl (.int, (f_value e0))), .inr (.inl (.int, (f_version e0))), .inr (.inl (.boolean, (f_active e0))), .inr (.inl (.int, (f_start e0))), .inr (.inl (.int, (f_readSet e0))), .inr (.inl (.int, (f_writeSet e0))), .inr (.inl (.int, (f_buffered e0))), .inl [.ref 10, .ref 11, .ref 12, .ref 13, .ref 14, .ref 15, .ref 16, .int (f_keyCount o), .int (f_slotCount o), .int (f_window o), .int (f_commitCount o), .int (f_abortCount o), .int (f_lastConflict o)], .inr (.inl (.int, (f_value o))), .inr (.inl (.int, (f_version o))), .inr (.inl (.boolean, (f_active o))), .inr (.inl (.int, (f_start o))), .inr (.inl (.int, y195)), .inr (.inl (.int, (f_writeSet o))), .inr (.inl (.int, (f_buffered o)))])) rfl hy195 ?_
        refine QTri.steps Ad W 3 (st' := (68, [some (.ref 9), some (.int x1), some (.int x2), some (.int r191)], [.int x2, .ref 10], [.inr (.inl (.int, s)), .inl [.ref 2, .ref 3, .ref 4, .ref 5, .ref 6, .ref 7, .ref 8, .int (f_keyCount e0), .int (f_slotCount e0), .int (f_window e0), .int (f_commitCount e0), .int (f_abortCount e0), .int (f_lastConflict e0)], .inr (.inl (.int, (f_value e0))), .inr (.inl (.int, (f_version e0))), .inr (.inl (.boolean, (f_active e0))), .inr (.inl (.int, (f_start e0))), .inr (.inl (.int, (f_readSet e0))), .inr (.inl (.int, (f_writeSet e0))), .inr (.inl (.int, (f_buffered e0))), .inl [.ref 10, .ref 11, .ref 12, .ref 13, .ref 14, .ref 15, .ref 16, .int (f_keyCount o), .int (f_slotCount o), .int (f_window o), .int (f_commitCount o), .int (f_abortCount o), .int (f_lastConflict o)], .inr (.inl (.int, (f_value o))), .inr (.inl (.int, (f_version o))), .inr (.inl (.boolean, (f_active o))), .inr (.inl (.int, (f_start o))), .inr (.inl (.int, y195)), .inr (.inl (.int, (f_writeSet o))), .inr (.inl (.int, (f_buffered o)))])) rfl ?_
        obtain ⟨y196, hy196, h⟩ := Option.bind_eq_some_iff.mp h
        refine QTri.bnd Ad W (f := fun y196 => (69, [some (.ref 9), some (.int x1), some (.int x2), some (.int r191)], [.int y196], [.inr (.inl (.int, s)), .inl [.ref 2, .ref 3, .ref 4, .ref 5, .ref 6, .ref 7, .ref 8, .int (f_keyCount e0), .int (f_slotCount e0), .int (f_window e0), .int (f_commitCount e0), .int (f_abortCount e0), .int (f_lastConflict e0)], .inr (.inl (.int, (f_value e0))), .inr (.inl (.int, (f_version e0))), .inr (.inl (.boolean, (f_active e0))), .inr (.inl (.int, (f_start e0))), .inr (.inl (.int, (f_readSet e0))), .inr (.inl (.int, (f_writeSet e0))), .inr (.inl (.int, (f_buffered e0))), .inl [.ref 10, .ref 11, .ref 12, .ref 13, .ref 14, .ref 15, .ref 16, .int (f_keyCount o), .int (f_slotCount o), .int (f_window o), .int (f_commitCount o), .int (f_abortCount o), .int (f_lastConflict o)], .inr (.inl (.int, (f_value o))), .inr (.inl (.int, (f_version o))), .inr (.inl (.boolean, (f_active o))), .inr (.inl (.int, (f_start o))), .inr (.inl (.int, y195)), .inr (.inl (.int, (f_writeSet o))), .inr (.inl (.int, (f_buffered o)))])) rfl hy196 ?_
        have E197 : ([.inr (.inl (.int, s)), .inl [.ref 2, .ref 3, .ref 4, .ref 5, .ref 6, .ref 7, .ref 8, .int (f_keyCount e0), .int (f_slotCount e0), .int (f_window e0), .int (f_commitCount e0), .int (f_abortCount e0), .int (f_lastConflict e0)], .inr (.inl (.int, (f_value e0))), .inr (.inl (.int, (f_version e0))), .inr (.inl (.boolean, (f_active e0))), .inr (.inl (.int, (f_start e0))), .inr (.inl (.int, (f_readSet e0))), .inr (.inl (.int, (f_writeSet e0))), .inr (.inl (.int, (f_buffered e0))), .inl [.ref 10, .ref 11, .ref 12, .ref 13, .ref 14, .ref 15, .ref 16, .int (f_keyCount o), .int (f_slotCount o), .int (f_window o), .int (f_commitCount o), .int (f_abortCount o), .int (f_lastConflict o)], .inr (.inl (.int, (f_value o))), .inr (.inl (.int, (f_version o))), .inr (.inl (.boolean, (f_active o))), .inr (.inl (.int, (f_start o))), .inr (.inl (.int, y195)), .inr (.inl (.int, (f_writeSet o))), .inr (.inl (.int, (f_buffered o)))] : QHeap) = (H1 s e0 (s_readSet o y195)) := by dsimp only [H0, H1, f_value, f_version, f_active, f_start, f_readSet, f_writeSet, f_buffered, f_keyCount, f_slotCount, f_window, f_commitCount, f_abortCount, f_lastConflict, s_readSet]
        rw [E197]
        obtain rfl := Option.some.inj h
        exact QTri.retI rfl rfl
      · refine QTri.brF Ad W (t := 49) (f := 37) (L := [some (.ref 9), some (.int x1), some (.int x2), some (.int r191)]) (S := []) (σ := (H1 s e0 o)) rfl (XT.i0_eq_f hc193) ?_
        refine QTri.steps Ad W 5 (st' := (44, [some (.ref 9), some (.int x1), some (.int x2), some (.int r191)], [.int x2, .int x1, .ref 9, .ref 16], (H1 s e0 o))) rfl ?_
        obtain ⟨r198, hr198, h⟩ := Option.bind_eq_some_iff.mp h
        refine QTri.callP W (a := 9) (as := [.int x1, .int x2]) (rest := [.ref 16]) (w := (some (.int r198))) (σ₁ := (H1 s e0 o)) rfl rfl rfl rfl rfl rfl rfl rfl (tF28 Ad W x1 x2 hr198) ?_
        obtain ⟨y199, hy199, h⟩ := Option.bind_eq_some_iff.mp h
        refine QTri.bnd Ad W (f := fun y199 => (48, [some (.ref 9), some (.int x1), some (.int x2), some (.int r191)], [.int y199], (H1 s e0 o))) rfl hy199 ?_
        obtain rfl := Option.some.inj h
        exact QTri.retI rfl rfl
/-- write(III)I -/
def F27 (o : Ob) (x1 : Int32) (x2 : Int32) (x3 : Int32) : Option (Int32 × Ob) :=
  (F4 o x1).bind fun r202 => (if r202 = (0 : Int32) then some ((-1 : Int32), o) else (F11 o x2).bind fun r204 => (if r204 = (0 : Int32) then some ((-2 : Int32), o) else (aget (f_writeSet o) x1).bind fun y206 => (F22 x2).bind fun r207 => (aset (f_writeSet o) x1 (y206 ||| r207)).bind fun y208 => (F28 x1 x2).bind fun r209 => (aset (f_buffered o) r209 x3).bind fun y210 => some ((0 : Int32), (s_buffered (s_writeSet o y208) y210))))
theorem tF27 (Ad : QAd n0 ad) (W : QW Z a0) (s : List Int32) (e0 : Ob) (o : Ob) (x1 : Int32) (x2 : Int32) (x3 : Int32) {r : Int32 × Ob} (h : F27 o x1 x2 x3 = some r) : QTri l Z n0 ad 27 (0, qentry [.ref 9, .int x1, .int x2, .int x3] (pMaxL 27), [], (H1 s e0 o)) (some (Value.int r.1)) (H1 s e0 r.2) := by
  unfold F27 at h
  refine QTri.steps Ad W 2 (st' := (2, [some (.ref 9), some (.int x1), some (.int x2), some (.int x3)], [.int x1, .ref 9], (H1 s e0 o))) rfl ?_
  obtain ⟨r202, hr202, h⟩ := Option.bind_eq_some_iff.mp h
  refine QTri.callP W (a := 9) (as := [.int x1]) (rest := []) (w := (some (.int r202))) (σ₁ := (H1 s e0 o)) rfl rfl rfl rfl rfl rfl rfl rfl (tF4a1 Ad W s e0 o x1 hr202) ?_
  rcases qite h with ⟨hc203, h⟩ | ⟨hc203, h⟩
  · refine QTri.brF Ad W (t := 10) (f := 8) (L := [some (.ref 9), some (.int x1), some (.int x2), some (.int x3)]) (S := []) (σ := (H1 s e0 o)) rfl (XT.i0_ne_f hc203) ?_
    refine QTri.steps Ad W 1 (st' := (9, [some (.ref 9), some (.int x1), some (.int x2), some (.int x3)], [.int (-1 : Int32)], (H1 s e0 o))) rfl ?_
    obtain rfl := Option.some.inj h
    exact QTri.retI rfl rfl
  · refine QTri.brT Ad W (t := 10) (f := 8) (L := [some (.ref 9), some (.int x1), some (.int x2), some (.int x3)]) (S := []) (σ := (H1 s e0 o)) rfl (XT.i0_ne_t hc203) ?_
    refine QTri.steps Ad W 2 (st' := (12, [some (.ref 9), some (.int x1), some (.int x2), some (.int x3)], [.int x2, .ref 9], (H1 s e0 o))) rfl ?_
    obtain ⟨r204, hr204, h⟩ := Option.bind_eq_some_iff.mp h
    refine QTri.callP W (a := 9) (as := [.int x2]) (rest := []) (w := (some (.int r204))) (σ₁ := (H1 s e0 o)) rfl rfl rfl rfl rfl rfl rfl rfl (tF11a1 Ad W s e0 o x2 hr204) ?_
    rcases qite h with ⟨hc205, h⟩ | ⟨hc205, h⟩
    · refine QTri.brF Ad W (t := 21) (f := 18) (L := [some (.ref 9), some (.int x1), some (.int x2), some (.int x3)]) (S := []) (σ := (H1 s e0 o)) rfl (XT.i0_ne_f hc205) ?_
      refine QTri.steps Ad W 1 (st' := (20, [some (.ref 9), some (.int x1), some (.int x2), some (.int x3)], [.int (-2 : Int32)], (H1 s e0 o))) rfl ?_
      obtain rfl := Option.some.inj h
      exact QTri.retI rfl rfl
    · refine QTri.brT Ad W (t := 21) (f := 18) (L := [some (.ref 9), some (.int x1), some (.int x2), some (.int x3)]) (S := []) (σ := (H1 s e0 o)) rfl (XT.i0_ne_t hc205) ?_
      refine QTri.steps Ad W 6 (st' := (31, [some (.ref 9), some (.int x1), some (.int x2), some (.int x3)], [.int x1, .ref 15, .int x1, .ref 15], (H1 s e0 o))) rfl ?_
      obtain ⟨y206, hy206, h⟩ := Option.bind_eq_some_iff.mp h
      refine QTri.bnd Ad W (f := fun y206 => (32, [some (.ref 9), some (.int x1), some (.int x2), some (.int x3)], [.int y206, .int x1, .ref 15], (H1 s e0 o))) rfl hy206 ?_
      refine QTri.steps Ad W 2 (st' := (34, [some (.ref 9), some (.int x1), some (.int x2), some (.int x3)], [.int x2, .ref 9, .int y206, .int x1, .ref 15], (H1 s e0 o))) rfl ?_
      obtain ⟨r207, hr207, h⟩ := Option.bind_eq_some_iff.mp h
      refine QTri.callP W (a := 9) (as := [.int x2]) (rest := [.int y206, .int x1, .ref 15]) (w := (some (.int r207))) (σ₁ := (H1 s e0 o)) rfl rfl rfl rfl rfl rfl rfl rfl (tF22 Ad W x2 hr207) ?_
      refine QTri.steps Ad W 1 (st' := (38, [some (.ref 9), some (.int x1), some (.int x2), some (.int x3)], [.int (y206 ||| r207), .int x1, .ref 15], (H1 s e0 o))) rfl ?_
      obtain ⟨y208, hy208, h⟩ := Option.bind_eq_some_iff.mp h
      refine QTri.bnd Ad W (f := fun y208 => (39, [some (.ref 9), some (.int x1), some (.int x2), some (.int x3)], [], [.inr (.inl (.int, s)), .inl [.ref 2, .ref 3, .ref 4, .ref 5, .ref 6, .ref 7, .ref 8, .int (f_keyCount e0), .int (f_slotCount e0), .int (f_window e0), .int (f_commitCount e0), .int (f_abortCount e0), .int (f_lastConflict e0)], .inr (.inl (.int, (f_value e0))), .inr (.inl (.int, (f_version e0))), .inr (.inl (.boolean, (f_active e0))), .inr (.inl (.int, (f_start e0))), .inr (.inl (.int, (f_readSet e0))), .inr (.inl (.int, (f_writeSet e0))), .inr (.inl (.int, (f_buffered e0))), .inl [.ref 10, .ref 11, .ref 12, .ref 13, .ref 14, .ref 15, .ref 16, .int (f_keyCount o), .int (f_slotCount o), .int (f_window o), .int (f_commitCount o), .int (f_abortCount o), .int (f_lastConflict o)], .inr (.inl (.int, (f_value o))), .inr (.inl (.int, (f_version o))), .inr (.inl (.boolean, (f_active o))), .inr (.inl (.int, (f_start o))), .inr (.inl (.int, (f_readSet o))), .inr (.inl (.int, y208)), .inr (.inl (.int, (f_buffered o)))])) rfl hy208 ?_
      refine QTri.steps Ad W 5 (st' := (46, [some (.ref 9), some (.int x1), some (.int x2), some (.int x3)], [.int x2, .int x1, .ref 9, .ref 16], [.inr (.inl (.int, s)), .inl [.ref 2, .ref 3, .ref 4, .ref 5, .ref 6, .ref 7, .ref 8, .int (f_keyCount e0), .int (f_slotCount e0), .int (f_window e0), .int (f_commitCount e0), .int (f_abortCount e0), .int (f_lastConflict e0)], .inr (.inl (.int, (f_value e0))), .inr (.inl (.int, (f_version e0))), .inr (.inl (.boolean, (f_active e0))), .inr (.inl (.int, (f_start e0))), .inr (.inl (.int, (f_readSet e0))), .inr (.inl (.int, (f_writeSet e0))), .inr (.inl (.int, (f_buffered e0))), .inl [.ref 10, .ref 11, .ref 12, .ref 13, .ref 14, .ref 15, .ref 16, .int (f_keyCount o), .int (f_slotCount o), .int (f_window o), .int (f_commitCount o), .int (f_abortCount o), .int (f_lastConflict o)], .inr (.inl (.int, (f_value o))), .inr (.inl (.int, (f_version o))), .inr (.inl (.boolean, (f_active o))), .inr (.inl (.int, (f_start o))), .inr (.inl (.int, (f_readSet o))), .inr (.inl (.int, y208)), .inr (.inl (.int, (f_buffered o)))])) rfl ?_
      obtain ⟨r209, hr209, h⟩ := Option.bind_eq_some_iff.mp h
      refine QTri.callP W (a := 9) (as := [.int x1, .int x2]) (rest := [.ref 16]) (w := (some (.int r209))) (σ₁ := [.inr (.inl (.int, s)), .inl [.ref 2, .ref 3, .ref 4, .ref 5, .ref 6, .ref 7, .ref 8, .int (f_keyCount e0), .int (f_slotCount e0), .int (f_window e0), .int (f_commitCount e0), .int (f_abortCount e0), .int (f_lastConflict e0)], .inr (.inl (.int, (f_value e0))), .inr (.inl (.int, (f_version e0))), .inr (.inl (.boolean, (f_active e0))), .inr (.inl (.int, (f_start e0))), .inr (.inl (.int, (f_readSet e0))), .inr (.inl (.int, (f_writeSet e0))), .inr (.inl (.int, (f_buffered e0))), .inl [.ref 10, .ref 11, .ref 12, .ref 13, .ref 14, .ref 15, .ref 16, .int (f_keyCount o), .int (f_slotCount o), .int (f_window o), .int (f_commitCount o), .int (f_abortCount o), .int (f_lastConflict o)], .inr (.inl (.int, (f_value o))), .inr (.inl (.int, (f_version o))), .inr (.inl (.boolean, (f_active o))), .inr (.inl (.int, (f_start o))), .inr (.inl (.int, (f_readSet o))), .inr (.inl (.int, y208)), .inr (.inl (.int, (f_buffered o)))]) rfl rfl rfl rfl rfl rfl rfl rfl (tF28 Ad W x1 x2 hr209) ?_
      refine QTri.steps Ad W 1 (st' := (50, [some (.ref 9), some (.int x1), some (.int x2), some (.int x3)], [.int x3, .int r209, .ref 16], [.inr (.inl (.int, s)), .inl [.ref 2, .ref 3, .ref 4, .ref 5, .ref 6, .ref 7, .ref 8, .int (f_keyCount e0), .int (f_slotCount e0), .int (f_window e0), .int (f_commitCount e0), .int (f_abortCount e0), .int (f_lastConflict e0)], .inr (.inl (.int, (f_value e0))), .inr (.inl (.int, (f_version e0))), .inr (.inl (.boolean, (f_active e0))), .inr (.inl (.int, (f_start e0))), .inr (.inl (.int, (f_readSet e0))), .inr (.inl (.int, (f_writeSet e0))), .inr (.inl (.int, (f_buffered e0))), .inl [.ref 10, .ref 11, .ref 12, .ref 13, .ref 14, .ref 15, .ref 16, .int (f_keyCount o), .int (f_slotCount o), .int (f_window o), .int (f_commitCount o), .int (f_abortCount o), .int (f_lastConflict o)], .inr (.inl (.int, (f_value o))), .inr (.inl (.int, (f_version o))), .inr (.inl (.boolean, (f_active o))), .inr (.inl (.int, (f_start o))), .inr (.inl (.int, (f_readSet o))), .inr (.inl (.int, y208)), .inr (.inl (.int, (f_buffered o)))])) rfl ?_
      obtain ⟨y210, hy210, h⟩ := Option.bind_eq_some_iff.mp h
      refine QTri.bnd Ad W (f := fun y210 => (51, [some (.ref 9), some (.int x1), some (.int x2), some (.int x3)], [], [.inr (.inl (.int, s)), .inl [.ref 2, .ref 3, .ref 4, .ref 5, .ref 6, .ref 7, .ref 8, .int (f_keyCount e0), .int (f_slotCount e0), .int (f_window e0), .int (f_commitCount e0), .int (f_abortCount e0), .int (f_lastConflict e0)], .inr (.inl (.int, (f_value e0))), .inr (.inl (.int, (f_version e0))), .inr (.inl (.boolean, (f_active e0))), .inr (.inl (.int, (f_start e0))), .inr (.inl (.int, (f_readSet e0))), .inr (.inl (.int, (f_writeSet e0))), .inr (.inl (.int, (f_buffered e0))), .inl [.ref 10, .ref 11, .ref 12, .ref 13, .ref 14, .ref 15, .ref 16, .int (f_keyCount o), .int (f_slotCount o), .int (f_window o), .int (f_commitCount o), .int (f_abortCount o), .int (f_lastConflict o)], .inr (.inl (.int, (f_value o))), .inr (.inl (.int, (f_version o))), .inr (.inl (.boolean, (f_active o))), .inr (.inl (.int, (f_start o))), .inr (.inl (.int, (f_readSet o))), .inr (.inl (.int, y208)), .inr (.inl (.int, y210))])) rfl hy210 ?_
      refine QTri.steps Ad W 1 (st' := (52, [some (.ref 9), some (.int x1), some (.int x2), some (.int x3)], [.int (0 : Int32)], [.inr (.inl (.int, s)), .inl [.ref 2, .ref 3, .ref 4, .ref 5, .ref 6, .ref 7, .ref 8, .int (f_keyCount e0), .int (f_slotCount e0), .int (f_window e0), .int (f_commitCount e0), .int (f_abortCount e0), .int (f_lastConflict e0)], .inr (.inl (.int, (f_value e0))), .inr (.inl (.int, (f_version e0))), .inr (.inl (.boolean, (f_active e0))), .inr (.inl (.int, (f_start e0))), .inr (.inl (.int, (f_readSet e0))), .inr (.inl (.int, (f_writeSet e0))), .inr (.inl (.int, (f_buffered e0))), .inl [.ref 10, .ref 11, .ref 12, .ref 13, .ref 14, .ref 15, .ref 16, .int (f_keyCount o), .int (f_slotCount o), .int (f_window o), .int (f_commitCount o), .int (f_abortCount o), .int (f_lastConflict o)], .inr (.inl (.int, (f_value o))), .inr (.inl (.int, (f_version o))), .inr (.inl (.boolean, (f_active o))), .inr (.inl (.int, (f_start o))), .inr (.inl (.int, (f_readSet o))), .inr (.inl (.int, y208)), .inr (.inl (.int, y210))])) rfl ?_
      have E211 : ([.inr (.inl (.int, s)), .inl [.ref 2, .ref 3, .ref 4, .ref 5, .ref 6, .ref 7, .ref 8, .int (f_keyCount e0), .int (f_slotCount e0), .int (f_window e0), .int (f_commitCount e0), .int (f_abortCount e0), .int (f_lastConflict e0)], .inr (.inl (.int, (f_value e0))), .inr (.inl (.int, (f_version e0))), .inr (.inl (.boolean, (f_active e0))), .inr (.inl (.int, (f_start e0))), .inr (.inl (.int, (f_readSet e0))), .inr (.inl (.int, (f_writeSet e0))), .inr (.inl (.int, (f_buffered e0))), .inl [.ref 10, .ref 11, .ref 12, .ref 13, .ref 14, .ref 15, .ref 16, .int (f_keyCount o), .int (f_slotCount o), .int (f_window o), .int (f_commitCount o), .int (f_abortCount o), .int (f_lastConflict o)], .inr (.inl (.int, (f_value o))), .inr (.inl (.int, (f_version o))), .inr (.inl (.boolean, (f_active o))), .inr (.inl (.int, (f_start o))), .inr (.inl (.int, (f_readSet o))), .inr (.inl (.int, y208)), .inr (.inl (.int, y210))] : QHeap) = (H1 s e0 (s_buffered (s_writeSet o y208) y210)) := by dsimp only [H0, H1, f_value, f_version, f_active, f_start, f_readSet, f_writeSet, f_buffered, f_keyCount, f_slotCount, f_window, f_commitCount, f_abortCount, f_lastConflict, s_writeSet, s_buffered]
      rw [E211]
      obtain rfl := Option.some.inj h
      exact QTri.retI rfl rfl
/-- isStale(I)Z -/
def F23 (o : Ob) (x1 : Int32) : Option (Int32) :=
  (aget (f_start o) x1).bind fun y216 => (if (f_window o) < ((f_commitCount o) - y216) then some (1 : Int32) else some (0 : Int32))
theorem tF23 (Ad : QAd n0 ad) (W : QW Z a0) (s : List Int32) (e0 : Ob) (o : Ob) (x1 : Int32) {r : Int32} (h : F23 o x1 = some r) : QTri l Z n0 ad 23 (0, qentry [.ref 9, .int x1] (pMaxL 23), [], (H1 s e0 o)) (some (Value.int r)) (H1 s e0 o) := by
  unfold F23 at h
  refine QTri.steps Ad W 5 (st' := (9, [some (.ref 9), some (.int x1)], [.int x1, .ref 13, .int (f_commitCount o)], (H1 s e0 o))) rfl ?_
  obtain ⟨y216, hy216, h⟩ := Option.bind_eq_some_iff.mp h
  refine QTri.bnd Ad W (f := fun y216 => (10, [some (.ref 9), some (.int x1)], [.int y216, .int (f_commitCount o)], (H1 s e0 o))) rfl hy216 ?_
  refine QTri.steps Ad W 3 (st' := (15, [some (.ref 9), some (.int x1)], [.int (f_window o), .int ((f_commitCount o) - y216)], (H1 s e0 o))) rfl ?_
  rcases qite h with ⟨hc217, h⟩ | ⟨hc217, h⟩
  · refine QTri.brF Ad W (t := 22) (f := 18) (L := [some (.ref 9), some (.int x1)]) (S := []) (σ := (H1 s e0 o)) rfl (XT.ii_le_f hc217) ?_
    refine QTri.steps Ad W 2 (st' := (23, [some (.ref 9), some (.int x1)], [.int (1 : Int32)], (H1 s e0 o))) rfl ?_
    obtain rfl := Option.some.inj h
    exact QTri.retZ rfl rfl
  · refine QTri.brT Ad W (t := 22) (f := 18) (L := [some (.ref 9), some (.int x1)]) (S := []) (σ := (H1 s e0 o)) rfl (XT.ii_le_t hc217) ?_
    refine QTri.steps Ad W 1 (st' := (23, [some (.ref 9), some (.int x1)], [.int (0 : Int32)], (H1 s e0 o))) rfl ?_
    obtain rfl := Option.some.inj h
    exact QTri.retZ rfl rfl
def J24_58 (o : Ob) (x2 : Int32) (x3 : Int32) (x4 : Int32) : Option (((Int32)) ⊕ (Int32)) :=
  some (.inr (x4 + (1 : Int32)))
theorem tJ24_58 (Ad : QAd n0 ad) (W : QW Z a0) (s : List Int32) (e0 : Ob) (o : Ob) (x2 : Int32) (x3 : Int32) (x4 : Int32) {r : ((Int32)) ⊕ (Int32)} {u : Option Value} {τ : QHeap} (h : J24_58 o x2 x3 x4 = some r) (hx0 : ∀ x : Int32, r = .inl x → u = (some (Value.int x)) ∧ τ = (H1 s e0 o)) (hc : ∀ x : Int32, r = .inr x → QTri l Z n0 ad 24 (17, [some (.ref 9), none, some (.int x2), some (.int x3), some (.int x)], [], (H1 s e0 o)) u τ) : QTri l Z n0 ad 24 (58, [some (.ref 9), none, some (.int x2), some (.int x3), some (.int x4)], [], (H1 s e0 o)) u τ := by
  unfold J24_58 at h
  refine QTri.steps Ad W 2 (st' := (17, [some (.ref 9), none, some (.int x2), some (.int x3), some (.int (x4 + (1 : Int32)))], [], (H1 s e0 o))) rfl ?_
  obtain rfl := Option.some.inj h
  exact QTri.mask [true, false, true, true, true] (hc (x4 + (1 : Int32)) rfl)
def B24_17 (o : Ob) (x2 : Int32) (x3 : Int32) (v : Int32) : Option (((Int32)) ⊕ (Int32)) :=
  (if v < (f_keyCount o) then (if v < (32 : Int32) then (F22 v).bind fun r224 => (if (x2 &&& r224) = (0 : Int32) then (J24_58 o x2 x3 v) else (aget (f_version o) v).bind fun y226 => (if x3 < y226 then some (.inl v) else (J24_58 o x2 x3 v))) else some (.inl (-1 : Int32))) else some (.inl (-1 : Int32)))
theorem tB24_17 (Ad : QAd n0 ad) (W : QW Z a0) (s : List Int32) (e0 : Ob) (o : Ob) (x2 : Int32) (x3 : Int32) (v : Int32) {r : ((Int32)) ⊕ (Int32)} {u : Option Value} {τ : QHeap} (h : B24_17 o x2 x3 v = some r) (hx0 : ∀ x : Int32, r = .inl x → u = (some (Value.int x)) ∧ τ = (H1 s e0 o)) (hc : ∀ x : Int32, r = .inr x → QTri l Z n0 ad 24 (17, [some (.ref 9), none, some (.int x2), some (.int x3), some (.int x)], [], (H1 s e0 o)) u τ) : QTri l Z n0 ad 24 (17, [some (.ref 9), none, some (.int x2), some (.int x3), some (.int v)], [], (H1 s e0 o)) u τ := by
  unfold B24_17 at h
  refine QTri.steps Ad W 3 (st' := (23, [some (.ref 9), none, some (.int x2), some (.int x3), some (.int v)], [.int (f_keyCount o), .int v], (H1 s e0 o))) rfl ?_
  rcases qite h with ⟨hc222, h⟩ | ⟨hc222, h⟩
  · refine QTri.brF Ad W (t := 64) (f := 26) (L := [some (.ref 9), none, some (.int x2), some (.int x3), some (.int v)]) (S := []) (σ := (H1 s e0 o)) rfl (XT.ii_ge_f hc222) ?_
    refine QTri.steps Ad W 2 (st' := (30, [some (.ref 9), none, some (.int x2), some (.int x3), some (.int v)], [.int (32 : Int32), .int v], (H1 s e0 o))) rfl ?_
    rcases qite h with ⟨hc223, h⟩ | ⟨hc223, h⟩
    · refine QTri.brF Ad W (t := 64) (f := 33) (L := [some (.ref 9), none, some (.int x2), some (.int x3), some (.int v)]) (S := []) (σ := (H1 s e0 o)) rfl (XT.ii_ge_f hc223) ?_
      refine QTri.steps Ad W 3 (st' := (37, [some (.ref 9), none, some (.int x2), some (.int x3), some (.int v)], [.int v, .ref 9, .int x2], (H1 s e0 o))) rfl ?_
      obtain ⟨r224, hr224, h⟩ := Option.bind_eq_some_iff.mp h
      refine QTri.callP W (a := 9) (as := [.int v]) (rest := [.int x2]) (w := (some (.int r224))) (σ₁ := (H1 s e0 o)) rfl rfl rfl rfl rfl rfl rfl rfl (tF22 Ad W v hr224) ?_
      refine QTri.steps Ad W 1 (st' := (41, [some (.ref 9), none, some (.int x2), some (.int x3), some (.int v)], [.int (x2 &&& r224)], (H1 s e0 o))) rfl ?_
      rcases qite h with ⟨hc225, h⟩ | ⟨hc225, h⟩
      · refine QTri.brT Ad W (t := 58) (f := 44) (L := [some (.ref 9), none, some (.int x2), some (.int x3), some (.int v)]) (S := []) (σ := (H1 s e0 o)) rfl (XT.i0_eq_t hc225) ?_
        exact QTri.mask [true, false, true, true, true] (tJ24_58 Ad W s e0 o x2 x3 v h hx0 hc)
      · refine QTri.brF Ad W (t := 58) (f := 44) (L := [some (.ref 9), none, some (.int x2), some (.int x3), some (.int v)]) (S := []) (σ := (H1 s e0 o)) rfl (XT.i0_eq_f hc225) ?_
        refine QTri.steps Ad W 3 (st' := (50, [some (.ref 9), none, some (.int x2), some (.int x3), some (.int v)], [.int v, .ref 11], (H1 s e0 o))) rfl ?_
        obtain ⟨y226, hy226, h⟩ := Option.bind_eq_some_iff.mp h
        refine QTri.bnd Ad W (f := fun y226 => (51, [some (.ref 9), none, some (.int x2), some (.int x3), some (.int v)], [.int y226], (H1 s e0 o))) rfl hy226 ?_
        refine QTri.steps Ad W 1 (st' := (52, [some (.ref 9), none, some (.int x2), some (.int x3), some (.int v)], [.int x3, .int y226], (H1 s e0 o))) rfl ?_
        rcases qite h with ⟨hc227, h⟩ | ⟨hc227, h⟩
        · refine QTri.brF Ad W (t := 58) (f := 55) (L := [some (.ref 9), none, some (.int x2), some (.int x3), some (.int v)]) (S := []) (σ := (H1 s e0 o)) rfl (XT.ii_le_f hc227) ?_
          refine QTri.steps Ad W 1 (st' := (57, [some (.ref 9), none, some (.int x2), some (.int x3), some (.int v)], [.int v], (H1 s e0 o))) rfl ?_
          obtain rfl := Option.some.inj h
          obtain ⟨rfl, rfl⟩ := hx0 v rfl
          exact QTri.retI rfl rfl
        · refine QTri.brT Ad W (t := 58) (f := 55) (L := [some (.ref 9), none, some (.int x2), some (.int x3), some (.int v)]) (S := []) (σ := (H1 s e0 o)) rfl (XT.ii_le_t hc227) ?_
          exact QTri.mask [true, false, true, true, true] (tJ24_58 Ad W s e0 o x2 x3 v h hx0 hc)
    · refine QTri.brT Ad W (t := 64) (f := 33) (L := [some (.ref 9), none, some (.int x2), some (.int x3), some (.int v)]) (S := []) (σ := (H1 s e0 o)) rfl (XT.ii_ge_t hc223) ?_
      refine QTri.steps Ad W 1 (st' := (65, [some (.ref 9), none, some (.int x2), some (.int x3), some (.int v)], [.int (-1 : Int32)], (H1 s e0 o))) rfl ?_
      obtain rfl := Option.some.inj h
      obtain ⟨rfl, rfl⟩ := hx0 (-1 : Int32) rfl
      exact QTri.retI rfl rfl
  · refine QTri.brT Ad W (t := 64) (f := 26) (L := [some (.ref 9), none, some (.int x2), some (.int x3), some (.int v)]) (S := []) (σ := (H1 s e0 o)) rfl (XT.ii_ge_t hc222) ?_
    refine QTri.steps Ad W 1 (st' := (65, [some (.ref 9), none, some (.int x2), some (.int x3), some (.int v)], [.int (-1 : Int32)], (H1 s e0 o))) rfl ?_
    obtain rfl := Option.some.inj h
    obtain ⟨rfl, rfl⟩ := hx0 (-1 : Int32) rfl
    exact QTri.retI rfl rfl
/-- leastConflict(I)I -/
def F24 (o : Ob) (x1 : Int32) : Option (Int32) :=
  (aget (f_readSet o) x1).bind fun y220 => (aget (f_start o) x1).bind fun y221 => (loopN (B24_17 o y220 y221) qN (0 : Int32)).bind fun e228 => some e228
theorem tF24 (Ad : QAd n0 ad) (W : QW Z a0) (s : List Int32) (e0 : Ob) (o : Ob) (x1 : Int32) {r : Int32} (h : F24 o x1 = some r) : QTri l Z n0 ad 24 (0, qentry [.ref 9, .int x1] (pMaxL 24), [], (H1 s e0 o)) (some (Value.int r)) (H1 s e0 o) := by
  unfold F24 at h
  refine QTri.steps Ad W 3 (st' := (5, [some (.ref 9), some (.int x1), none, none, none], [.int x1, .ref 14], (H1 s e0 o))) rfl ?_
  obtain ⟨y220, hy220, h⟩ := Option.bind_eq_some_iff.mp h
  refine QTri.bnd Ad W (f := fun y220 => (6, [some (.ref 9), some (.int x1), none, none, none], [.int y220], (H1 s e0 o))) rfl hy220 ?_
  refine QTri.steps Ad W 4 (st' := (12, [some (.ref 9), some (.int x1), some (.int y220), none, none], [.int x1, .ref 13], (H1 s e0 o))) rfl ?_
  obtain ⟨y221, hy221, h⟩ := Option.bind_eq_some_iff.mp h
  refine QTri.bnd Ad W (f := fun y221 => (13, [some (.ref 9), some (.int x1), some (.int y220), none, none], [.int y221], (H1 s e0 o))) rfl hy221 ?_
  refine QTri.steps Ad W 3 (st' := (17, [some (.ref 9), some (.int x1), some (.int y220), some (.int y221), some (.int (0 : Int32))], [], (H1 s e0 o))) rfl ?_
  obtain ⟨e228, he228, h⟩ := Option.bind_eq_some_iff.mp h
  refine QTri.mask [true, false, true, true, true] (loopN_tri (B := B24_17 o y220 y221) (T := fun lv229 => QTri l Z n0 ad 24 (17, [some (.ref 9), none, some (.int y220), some (.int y221), some (.int lv229)], [], (H1 s e0 o)) (some (Value.int r)) (H1 s e0 o)) (KE := fun e228a => (some (Value.int r)) = (some (Value.int e228a)) ∧ (H1 s e0 o) = (H1 s e0 o)) (fun lv229 r hB hE hC => tB24_17 Ad W s e0 o y220 y221 lv229 hB (fun x q => hE _ q) (fun x q => hC x q)) qN (0 : Int32) e228 he228 ?_)
  obtain rfl := Option.some.inj h
  exact ⟨rfl, rfl⟩
def J25_79 (o : Ob) (x1 : Int32) (x2 : Int32) (x3 : Int32) (x4 : Int32) : Option (((Ob)) ⊕ (Int32 × Ob)) :=
  some (.inr ((x4 + (1 : Int32)), o))
theorem tJ25_79 (Ad : QAd n0 ad) (W : QW Z a0) (s : List Int32) (e0 : Ob) (o : Ob) (x1 : Int32) (x2 : Int32) (x3 : Int32) (x4 : Int32) {r : ((Ob)) ⊕ (Int32 × Ob)} {u : Option Value} {τ : QHeap} (h : J25_79 o x1 x2 x3 x4 = some r) (hx0 : ∀ x : Ob, r = .inl x → QTri l Z n0 ad 25 (85, [some (.ref 9), some (.int x1), some (.int x2), none, none], [], (H1 s e0 x)) u τ) (hc : ∀ x : Int32 × Ob, r = .inr x → QTri l Z n0 ad 25 (25, [some (.ref 9), some (.int x1), some (.int x2), some (.int x3), some (.int x.1)], [], (H1 s e0 x.2)) u τ) : QTri l Z n0 ad 25 (79, [some (.ref 9), some (.int x1), some (.int x2), some (.int x3), some (.int x4)], [], (H1 s e0 o)) u τ := by
  unfold J25_79 at h
  refine QTri.steps Ad W 2 (st' := (25, [some (.ref 9), some (.int x1), some (.int x2), some (.int x3), some (.int (x4 + (1 : Int32)))], [], (H1 s e0 o))) rfl ?_
  obtain rfl := Option.some.inj h
  exact QTri.mask [true, true, true, true, true] (hc ((x4 + (1 : Int32)), o) rfl)
def B25_25 (x1 : Int32) (x2 : Int32) (x3 : Int32) (v : Int32 × Ob) : Option (((Ob)) ⊕ (Int32 × Ob)) :=
  (if v.1 < (f_keyCount v.2) then (if v.1 < (32 : Int32) then (F22 v.1).bind fun r236 => (if (x3 &&& r236) = (0 : Int32) then (J25_79 v.2 x1 x2 x3 v.1) else (F28 x1 v.1).bind fun r238 => (aget (f_buffered v.2) r238).bind fun y239 => (aset (f_value v.2) v.1 y239).bind fun y240 => (aset (f_version v.2) v.1 x2).bind fun y241 => (J25_79 (s_version (s_value v.2 y240) y241) x1 x2 x3 v.1)) else some (.inl v.2)) else some (.inl v.2))
theorem tB25_25 (Ad : QAd n0 ad) (W : QW Z a0) (s : List Int32) (e0 : Ob) (x1 : Int32) (x2 : Int32) (x3 : Int32) (v : Int32 × Ob) {r : ((Ob)) ⊕ (Int32 × Ob)} {u : Option Value} {τ : QHeap} (h : B25_25 x1 x2 x3 v = some r) (hx0 : ∀ x : Ob, r = .inl x → QTri l Z n0 ad 25 (85, [some (.ref 9), some (.int x1), some (.int x2), none, none], [], (H1 s e0 x)) u τ) (hc : ∀ x : Int32 × Ob, r = .inr x → QTri l Z n0 ad 25 (25, [some (.ref 9), some (.int x1), some (.int x2), some (.int x3), some (.int x.1)], [], (H1 s e0 x.2)) u τ) : QTri l Z n0 ad 25 (25, [some (.ref 9), some (.int x1), some (.int x2), some (.int x3), some (.int v.1)], [], (H1 s e0 v.2)) u τ := by
  unfold B25_25 at h
  refine QTri.steps Ad W 3 (st' := (31, [some (.ref 9), some (.int x1), some (.int x2), some (.int x3), some (.int v.1)], [.int (f_keyCount v.2), .int v.1], (H1 s e0 v.2))) rfl ?_
  rcases qite h with ⟨hc234, h⟩ | ⟨hc234, h⟩
  · refine QTri.brF Ad W (t := 85) (f := 34) (L := [some (.ref 9), some (.int x1), some (.int x2), some (.int x3), some (.int v.1)]) (S := []) (σ := (H1 s e0 v.2)) rfl (XT.ii_ge_f hc234) ?_
    refine QTri.steps Ad W 2 (st' := (38, [some (.ref 9), some (.int x1), some (.int x2), some (.int x3), some (.int v.1)], [.int (32 : Int32), .int v.1], (H1 s e0 v.2))) rfl ?_
    rcases qite h with ⟨hc235, h⟩ | ⟨hc235, h⟩
    · refine QTri.brF Ad W (t := 85) (f := 41) (L := [some (.ref 9), some (.int x1), some (.int x2), some (.int x3), some (.int v.1)]) (S := []) (σ := (H1 s e0 v.2)) rfl (XT.ii_ge_f hc235) ?_
      refine QTri.steps Ad W 3 (st' := (45, [some (.ref 9), some (.int x1), some (.int x2), some (.int x3), some (.int v.1)], [.int v.1, .ref 9, .int x3], (H1 s e0 v.2))) rfl ?_
      obtain ⟨r236, hr236, h⟩ := Option.bind_eq_some_iff.mp h
      refine QTri.callP W (a := 9) (as := [.int v.1]) (rest := [.int x3]) (w := (some (.int r236))) (σ₁ := (H1 s e0 v.2)) rfl rfl rfl rfl rfl rfl rfl rfl (tF22 Ad W v.1 hr236) ?_
      refine QTri.steps Ad W 1 (st' := (49, [some (.ref 9), some (.int x1), some (.int x2), some (.int x3), some (.int v.1)], [.int (x3 &&& r236)], (H1 s e0 v.2))) rfl ?_
      rcases qite h with ⟨hc237, h⟩ | ⟨hc237, h⟩
      · refine QTri.brT Ad W (t := 79) (f := 52) (L := [some (.ref 9), some (.int x1), some (.int x2), some (.int x3), some (.int v.1)]) (S := []) (σ := (H1 s e0 v.2)) rfl (XT.i0_eq_t hc237) ?_
        exact QTri.mask [true, true, true, true, true] (tJ25_79 Ad W s e0 v.2 x1 x2 x3 v.1 h hx0 hc)
      · refine QTri.brF Ad W (t := 79) (f := 52) (L := [some (.ref 9), some (.int x1), some (.int x2), some (.int x3), some (.int v.1)]) (S := []) (σ := (H1 s e0 v.2)) rfl (XT.i0_eq_f hc237) ?_
        refine QTri.steps Ad W 8 (st' := (66, [some (.ref 9), some (.int x1), some (.int x2), some (.int x3), some (.int v.1)], [.int v.1, .int x1, .ref 9, .ref 16, .int v.1, .ref 10], (H1 s e0 v.2))) rfl ?_
        obtain ⟨r238, hr238, h⟩ := Option.bind_eq_some_iff.mp h
        refine QTri.callP W (a := 9) (as := [.int x1, .int v.1]) (rest := [.ref 16, .int v.1, .ref 10]) (w := (some (.int r238))) (σ₁ := (H1 s e0 v.2)) rfl rfl rfl rfl rfl rfl rfl rfl (tF28 Ad W x1 v.1 hr238) ?_
        obtain ⟨y239, hy239, h⟩ := Option.bind_eq_some_iff.mp h
        refine QTri.bnd Ad W (f := fun y239 => (70, [some (.ref 9), some (.int x1), some (.int x2), some (.int x3), some (.int v.1)], [.int y239, .int v.1, .ref 10], (H1 s e0 v.2))) rfl hy239 ?_
        obtain ⟨y240, hy240, h⟩ := Option.bind_eq_some_iff.mp h
        refine QTri.bnd Ad W (f := fun y240 => (71, [some (.ref 9), some (.int x1), some (.int x2), some (.int x3), some (.int v.1)], [], [.inr (.inl (.int, s)), .inl [.ref 2, .ref 3, .ref 4, .ref 5, .ref 6, .ref 7, .ref 8, .int (f_keyCount e0), .int (f_slotCount e0), .int (f_window e0), .int (f_commitCount e0), .int (f_abortCount e0), .int (f_lastConflict e0)], .inr (.inl (.int, (f_value e0))), .inr (.inl (.int, (f_version e0))), .inr (.inl (.boolean, (f_active e0))), .inr (.inl (.int, (f_start e0))), .inr (.inl (.int, (f_readSet e0))), .inr (.inl (.int, (f_writeSet e0))), .inr (.inl (.int, (f_buffered e0))), .inl [.ref 10, .ref 11, .ref 12, .ref 13, .ref 14, .ref 15, .ref 16, .int (f_keyCount v.2), .int (f_slotCount v.2), .int (f_window v.2), .int (f_commitCount v.2), .int (f_abortCount v.2), .int (f_lastConflict v.2)], .inr (.inl (.int, y240)), .inr (.inl (.int, (f_version v.2))), .inr (.inl (.boolean, (f_active v.2))), .inr (.inl (.int, (f_start v.2))), .inr (.inl (.int, (f_readSet v.2))), .inr (.inl (.int, (f_writeSet v.2))), .inr (.inl (.int, (f_buffered v.2)))])) rfl hy240 ?_
        refine QTri.steps Ad W 4 (st' := (78, [some (.ref 9), some (.int x1), some (.int x2), some (.int x3), some (.int v.1)], [.int x2, .int v.1, .ref 11], [.inr (.inl (.int, s)), .inl [.ref 2, .ref 3, .ref 4, .ref 5, .ref 6, .ref 7, .ref 8, .int (f_keyCount e0), .int (f_slotCount e0), .int (f_window e0), .int (f_commitCount e0), .int (f_abortCount e0), .int (f_lastConflict e0)], .inr (.inl (.int, (f_value e0))), .inr (.inl (.int, (f_version e0))), .inr (.inl (.boolean, (f_active e0))), .inr (.inl (.int, (f_start e0))), .inr (.inl (.int, (f_readSet e0))), .inr (.inl (.int, (f_writeSet e0))), .inr (.inl (.int, (f_buffered e0))), .inl [.ref 10, .ref 11, .ref 12, .ref 13, .ref 14, .ref 15, .ref 16, .int (f_keyCount v.2), .int (f_slotCount v.2), .int (f_window v.2), .int (f_commitCount v.2), .int (f_abortCount v.2), .int (f_lastConflict v.2)], .inr (.inl (.int, y240)), .inr (.inl (.int, (f_version v.2))), .inr (.inl (.boolean, (f_active v.2))), .inr (.inl (.int, (f_start v.2))), .inr (.inl (.int, (f_readSet v.2))), .inr (.inl (.int, (f_writeSet v.2))), .inr (.inl (.int, (f_buffered v.2)))])) rfl ?_
        obtain ⟨y241, hy241, h⟩ := Option.bind_eq_some_iff.mp h
        refine QTri.bnd Ad W (f := fun y241 => (79, [some (.ref 9), some (.int x1), some (.int x2), some (.int x3), some (.int v.1)], [], [.inr (.inl (.int, s)), .inl [.ref 2, .ref 3, .ref 4, .ref 5, .ref 6, .ref 7, .ref 8, .int (f_keyCount e0), .int (f_slotCount e0), .int (f_window e0), .int (f_commitCount e0), .int (f_abortCount e0), .int (f_lastConflict e0)], .inr (.inl (.int, (f_value e0))), .inr (.inl (.int, (f_version e0))), .inr (.inl (.boolean, (f_active e0))), .inr (.inl (.int, (f_start e0))), .inr (.inl (.int, (f_readSet e0))), .inr (.inl (.int, (f_writeSet e0))), .inr (.inl (.int, (f_buffered e0))), .inl [.ref 10, .ref 11, .ref 12, .ref 13, .ref 14, .ref 15, .ref 16, .int (f_keyCount v.2), .int (f_slotCount v.2), .int (f_window v.2), .int (f_commitCount v.2), .int (f_abortCount v.2), .int (f_lastConflict v.2)], .inr (.inl (.int, y240)), .inr (.inl (.int, y241)), .inr (.inl (.boolean, (f_active v.2))), .inr (.inl (.int, (f_start v.2))), .inr (.inl (.int, (f_readSet v.2))), .inr (.inl (.int, (f_writeSet v.2))), .inr (.inl (.int, (f_buffered v.2)))])) rfl hy241 ?_
        have E242 : ([.inr (.inl (.int, s)), .inl [.ref 2, .ref 3, .ref 4, .ref 5, .ref 6, .ref 7, .ref 8, .int (f_keyCount e0), .int (f_slotCount e0), .int (f_window e0), .int (f_commitCount e0), .int (f_abortCount e0), .int (f_lastConflict e0)], .inr (.inl (.int, (f_value e0))), .inr (.inl (.int, (f_version e0))), .inr (.inl (.boolean, (f_active e0))), .inr (.inl (.int, (f_start e0))), .inr (.inl (.int, (f_readSet e0))), .inr (.inl (.int, (f_writeSet e0))), .inr (.inl (.int, (f_buffered e0))), .inl [.ref 10, .ref 11, .ref 12, .ref 13, .ref 14, .ref 15, .ref 16, .int (f_keyCount v.2), .int (f_slotCount v.2), .int (f_window v.2), .int (f_commitCount v.2), .int (f_abortCount v.2), .int (f_lastConflict v.2)], .inr (.inl (.int, y240)), .inr (.inl (.int, y241)), .inr (.inl (.boolean, (f_active v.2))), .inr (.inl (.int, (f_start v.2))), .inr (.inl (.int, (f_readSet v.2))), .inr (.inl (.int, (f_writeSet v.2))), .inr (.inl (.int, (f_buffered v.2)))] : QHeap) = (H1 s e0 (s_version (s_value v.2 y240) y241)) := by dsimp only [H0, H1, f_value, f_version, f_active, f_start, f_readSet, f_writeSet, f_buffered, f_keyCount, f_slotCount, f_window, f_commitCount, f_abortCount, f_lastConflict, s_value, s_version]
        rw [E242]
        exact QTri.mask [true, true, true, true, true] (tJ25_79 Ad W s e0 (s_version (s_value v.2 y240) y241) x1 x2 x3 v.1 h hx0 hc)
    · refine QTri.brT Ad W (t := 85) (f := 41) (L := [some (.ref 9), some (.int x1), some (.int x2), some (.int x3), some (.int v.1)]) (S := []) (σ := (H1 s e0 v.2)) rfl (XT.ii_ge_t hc235) ?_
      obtain rfl := Option.some.inj h
      exact QTri.mask [true, true, true, false, false] (hx0 v.2 rfl)
  · refine QTri.brT Ad W (t := 85) (f := 34) (L := [some (.ref 9), some (.int x1), some (.int x2), some (.int x3), some (.int v.1)]) (S := []) (σ := (H1 s e0 v.2)) rfl (XT.ii_ge_t hc234) ?_
    obtain rfl := Option.some.inj h
    exact QTri.mask [true, true, true, false, false] (hx0 v.2 rfl)
/-- endTx(I)V -/
def F26 (o : Ob) (x1 : Int32) : Option (Ob) :=
  (F21 o x1).bind fun r245 => some r245
theorem tF26 (Ad : QAd n0 ad) (W : QW Z a0) (s : List Int32) (e0 : Ob) (o : Ob) (x1 : Int32) {r : Ob} (h : F26 o x1 = some r) : QTri l Z n0 ad 26 (0, qentry [.ref 9, .int x1] (pMaxL 26), [], (H1 s e0 o)) (none : Option Value) (H1 s e0 r) := by
  unfold F26 at h
  refine QTri.steps Ad W 2 (st' := (2, [some (.ref 9), some (.int x1)], [.int x1, .ref 9], (H1 s e0 o))) rfl ?_
  obtain ⟨r245, hr245, h⟩ := Option.bind_eq_some_iff.mp h
  refine QTri.callP W (a := 9) (as := [.int x1]) (rest := []) (w := none) (σ₁ := (H1 s e0 r245)) rfl rfl rfl rfl rfl rfl rfl rfl (tF21a1 Ad W s e0 o x1 hr245) ?_
  obtain rfl := Option.some.inj h
  exact QTri.ret0 rfl rfl
def J25_85 (o : Ob) (x1 : Int32) (x2 : Int32) : Option (Int32 × Ob) :=
  (F26 o x1).bind fun r246 => some (x2, (s_lastConflict r246 (-1 : Int32)))
theorem tJ25_85 (Ad : QAd n0 ad) (W : QW Z a0) (s : List Int32) (e0 : Ob) (o : Ob) (x1 : Int32) (x2 : Int32) {r : Int32 × Ob} (h : J25_85 o x1 x2 = some r) : QTri l Z n0 ad 25 (85, [some (.ref 9), some (.int x1), some (.int x2), none, none], [], (H1 s e0 o)) (some (Value.int r.1)) (H1 s e0 r.2) := by
  unfold J25_85 at h
  refine QTri.steps Ad W 2 (st' := (87, [some (.ref 9), some (.int x1), some (.int x2), none, none], [.int x1, .ref 9], (H1 s e0 o))) rfl ?_
  obtain ⟨r246, hr246, h⟩ := Option.bind_eq_some_iff.mp h
  refine QTri.callP W (a := 9) (as := [.int x1]) (rest := []) (w := none) (σ₁ := (H1 s e0 r246)) rfl rfl rfl rfl rfl rfl rfl rfl (tF26 Ad W s e0 o x1 hr246) ?_
  refine QTri.steps Ad W 3 (st' := (95, [some (.ref 9), some (.int x1), some (.int x2), none, none], [], [.inr (.inl (.int, s)), .inl [.ref 2, .ref 3, .ref 4, .ref 5, .ref 6, .ref 7, .ref 8, .int (f_keyCount e0), .int (f_slotCount e0), .int (f_window e0), .int (f_commitCount e0), .int (f_abortCount e0), .int (f_lastConflict e0)], .inr (.inl (.int, (f_value e0))), .inr (.inl (.int, (f_version e0))), .inr (.inl (.boolean, (f_active e0))), .inr (.inl (.int, (f_start e0))), .inr (.inl (.int, (f_readSet e0))), .inr (.inl (.int, (f_writeSet e0))), .inr (.inl (.int, (f_buffered e0))), .inl [.ref 10, .ref 11, .ref 12, .ref 13, .ref 14, .ref 15, .ref 16, .int (f_keyCount r246), .int (f_slotCount r246), .int (f_window r246), .int (f_commitCount r246), .int (f_abortCount r246), .int (-1 : Int32)], .inr (.inl (.int, (f_value r246))), .inr (.inl (.int, (f_version r246))), .inr (.inl (.boolean, (f_active r246))), .inr (.inl (.int, (f_start r246))), .inr (.inl (.int, (f_readSet r246))), .inr (.inl (.int, (f_writeSet r246))), .inr (.inl (.int, (f_buffered r246)))])) rfl ?_
  refine QTri.steps Ad W 1 (st' := (96, [some (.ref 9), some (.int x1), some (.int x2), none, none], [.int x2], [.inr (.inl (.int, s)), .inl [.ref 2, .ref 3, .ref 4, .ref 5, .ref 6, .ref 7, .ref 8, .int (f_keyCount e0), .int (f_slotCount e0), .int (f_window e0), .int (f_commitCount e0), .int (f_abortCount e0), .int (f_lastConflict e0)], .inr (.inl (.int, (f_value e0))), .inr (.inl (.int, (f_version e0))), .inr (.inl (.boolean, (f_active e0))), .inr (.inl (.int, (f_start e0))), .inr (.inl (.int, (f_readSet e0))), .inr (.inl (.int, (f_writeSet e0))), .inr (.inl (.int, (f_buffered e0))), .inl [.ref 10, .ref 11, .ref 12, .ref 13, .ref 14, .ref 15, .ref 16, .int (f_keyCount r246), .int (f_slotCount r246), .int (f_window r246), .int (f_commitCount r246), .int (f_abortCount r246), .int (-1 : Int32)], .inr (.inl (.int, (f_value r246))), .inr (.inl (.int, (f_version r246))), .inr (.inl (.boolean, (f_active r246))), .inr (.inl (.int, (f_start r246))), .inr (.inl (.int, (f_readSet r246))), .inr (.inl (.int, (f_writeSet r246))), .inr (.inl (.int, (f_buffered r246)))])) rfl ?_
  have E247 : ([.inr (.inl (.int, s)), .inl [.ref 2, .ref 3, .ref 4, .ref 5, .ref 6, .ref 7, .ref 8, .int (f_keyCount e0), .int (f_slotCount e0), .int (f_window e0), .int (f_commitCount e0), .int (f_abortCount e0), .int (f_lastConflict e0)], .inr (.inl (.int, (f_value e0))), .inr (.inl (.int, (f_version e0))), .inr (.inl (.boolean, (f_active e0))), .inr (.inl (.int, (f_start e0))), .inr (.inl (.int, (f_readSet e0))), .inr (.inl (.int, (f_writeSet e0))), .inr (.inl (.int, (f_buffered e0))), .inl [.ref 10, .ref 11, .ref 12, .ref 13, .ref 14, .ref 15, .ref 16, .int (f_keyCount r246), .int (f_slotCount r246), .int (f_window r246), .int (f_commitCount r246), .int (f_abortCount r246), .int (-1 : Int32)], .inr (.inl (.int, (f_value r246))), .inr (.inl (.int, (f_version r246))), .inr (.inl (.boolean, (f_active r246))), .inr (.inl (.int, (f_start r246))), .inr (.inl (.int, (f_readSet r246))), .inr (.inl (.int, (f_writeSet r246))), .inr (.inl (.int, (f_buffered r246)))] : QHeap) = (H1 s e0 (s_lastConflict r246 (-1 : Int32))) := by dsimp only [H0, H1, f_value, f_version, f_active, f_start, f_readSet, f_writeSet, f_buffered, f_keyCount, f_slotCount, f_window, f_commitCount, f_abortCount, f_lastConflict, s_lastConflict]
  rw [E247]
  obtain rfl := Option.some.inj h
  exact QTri.retI rfl rfl
/-- install(I)I -/
def F25 (o : Ob) (x1 : Int32) : Option (Int32 × Ob) :=
  (aget (f_writeSet o) x1).bind fun y232 => (loopN (B25_25 x1 ((f_commitCount o) + (1 : Int32)) y232) qN ((0 : Int32), (s_commitCount o ((f_commitCount o) + (1 : Int32))))).bind fun e243 => (J25_85 e243 x1 ((f_commitCount o) + (1 : Int32)))
theorem tF25 (Ad : QAd n0 ad) (W : QW Z a0) (s : List Int32) (e0 : Ob) (o : Ob) (x1 : Int32) {r : Int32 × Ob} (h : F25 o x1 = some r) : QTri l Z n0 ad 25 (0, qentry [.ref 9, .int x1] (pMaxL 25), [], (H1 s e0 o)) (some (Value.int r.1)) (H1 s e0 r.2) := by
  unfold F25 at h
  refine QTri.steps Ad W 6 (st' := (10, [some (.ref 9), some (.int x1), none, none, none], [], [.inr (.inl (.int, s)), .inl [.ref 2, .ref 3, .ref 4, .ref 5, .ref 6, .ref 7, .ref 8, .int (f_keyCount e0), .int (f_slotCount e0), .int (f_window e0), .int (f_commitCount e0), .int (f_abortCount e0), .int (f_lastConflict e0)], .inr (.inl (.int, (f_value e0))), .inr (.inl (.int, (f_version e0))), .inr (.inl (.boolean, (f_active e0))), .inr (.inl (.int, (f_start e0))), .inr (.inl (.int, (f_readSet e0))), .inr (.inl (.int, (f_writeSet e0))), .inr (.inl (.int, (f_buffered e0))), .inl [.ref 10, .ref 11, .ref 12, .ref 13, .ref 14, .ref 15, .ref 16, .int (f_keyCount o), .int (f_slotCount o), .int (f_window o), .int ((f_commitCount o) + (1 : Int32)), .int (f_abortCount o), .int (f_lastConflict o)], .inr (.inl (.int, (f_value o))), .inr (.inl (.int, (f_version o))), .inr (.inl (.boolean, (f_active o))), .inr (.inl (.int, (f_start o))), .inr (.inl (.int, (f_readSet o))), .inr (.inl (.int, (f_writeSet o))), .inr (.inl (.int, (f_buffered o)))])) rfl ?_
  refine QTri.steps Ad W 6 (st' := (20, [some (.ref 9), some (.int x1), some (.int ((f_commitCount o) + (1 : Int32))), none, none], [.int x1, .ref 15], [.inr (.inl (.int, s)), .inl [.ref 2, .ref 3, .ref 4, .ref 5, .ref 6, .ref 7, .ref 8, .int (f_keyCount e0), .int (f_slotCount e0), .int (f_window e0), .int (f_commitCount e0), .int (f_abortCount e0), .int (f_lastConflict e0)], .inr (.inl (.int, (f_value e0))), .inr (.inl (.int, (f_version e0))), .inr (.inl (.boolean, (f_active e0))), .inr (.inl (.int, (f_start e0))), .inr (.inl (.int, (f_readSet e0))), .inr (.inl (.int, (f_writeSet e0))), .inr (.inl (.int, (f_buffered e0))), .inl [.ref 10, .ref 11, .ref 12, .ref 13, .ref 14, .ref 15, .ref 16, .int (f_keyCount o), .int (f_slotCount o), .int (f_window o), .int ((f_commitCount o) + (1 : Int32)), .int (f_abortCount o), .int (f_lastConflict o)], .inr (.inl (.int, (f_value o))), .inr (.inl (.int, (f_version o))), .inr (.inl (.boolean, (f_active o))), .inr (.inl (.int, (f_start o))), .inr (.inl (.int, (f_readSet o))), .inr (.inl (.int, (f_writeSet o))), .inr (.inl (.int, (f_buffered o)))])) rfl ?_
  obtain ⟨y232, hy232, h⟩ := Option.bind_eq_some_iff.mp h
  refine QTri.bnd Ad W (f := fun y232 => (21, [some (.ref 9), some (.int x1), some (.int ((f_commitCount o) + (1 : Int32))), none, none], [.int y232], [.inr (.inl (.int, s)), .inl [.ref 2, .ref 3, .ref 4, .ref 5, .ref 6, .ref 7, .ref 8, .int (f_keyCount e0), .int (f_slotCount e0), .int (f_window e0), .int (f_commitCount e0), .int (f_abortCount e0), .int (f_lastConflict e0)], .inr (.inl (.int, (f_value e0))), .inr (.inl (.int, (f_version e0))), .inr (.inl (.boolean, (f_active e0))), .inr (.inl (.int, (f_start e0))), .inr (.inl (.int, (f_readSet e0))), .inr (.inl (.int, (f_writeSet e0))), .inr (.inl (.int, (f_buffered e0))), .inl [.ref 10, .ref 11, .ref 12, .ref 13, .ref 14, .ref 15, .ref 16, .int (f_keyCount o), .int (f_slotCount o), .int (f_window o), .int ((f_commitCount o) + (1 : Int32)), .int (f_abortCount o), .int (f_lastConflict o)], .inr (.inl (.int, (f_value o))), .inr (.inl (.int, (f_version o))), .inr (.inl (.boolean, (f_active o))), .inr (.inl (.int, (f_start o))), .inr (.inl (.int, (f_readSet o))), .inr (.inl (.int, (f_writeSet o))), .inr (.inl (.int, (f_buffered o)))])) rfl hy232 ?_
  refine QTri.steps Ad W 3 (st' := (25, [some (.ref 9), some (.int x1), some (.int ((f_commitCount o) + (1 : Int32))), some (.int y232), some (.int (0 : Int32))], [], [.inr (.inl (.int, s)), .inl [.ref 2, .ref 3, .ref 4, .ref 5, .ref 6, .ref 7, .ref 8, .int (f_keyCount e0), .int (f_slotCount e0), .int (f_window e0), .int (f_commitCount e0), .int (f_abortCount e0), .int (f_lastConflict e0)], .inr (.inl (.int, (f_value e0))), .inr (.inl (.int, (f_version e0))), .inr (.inl (.boolean, (f_active e0))), .inr (.inl (.int, (f_start e0))), .inr (.inl (.int, (f_readSet e0))), .inr (.inl (.int, (f_writeSet e0))), .inr (.inl (.int, (f_buffered e0))), .inl [.ref 10, .ref 11, .ref 12, .ref 13, .ref 14, .ref 15, .ref 16, .int (f_keyCount o), .int (f_slotCount o), .int (f_window o), .int ((f_commitCount o) + (1 : Int32)), .int (f_abortCount o), .int (f_lastConflict o)], .inr (.inl (.int, (f_value o))), .inr (.inl (.int, (f_version o))), .inr (.inl (.boolean, (f_active o))), .inr (.inl (.int, (f_start o))), .inr (.inl (.int, (f_readSet o))), .inr (.inl (.int, (f_writeSet o))), .inr (.inl (.int, (f_buffered o)))])) rfl ?_
  have E233 : ([.inr (.inl (.int, s)), .inl [.ref 2, .ref 3, .ref 4, .ref 5, .ref 6, .ref 7, .ref 8, .int (f_keyCount e0), .int (f_slotCount e0), .int (f_window e0), .int (f_commitCount e0), .int (f_abortCount e0), .int (f_lastConflict e0)], .inr (.inl (.int, (f_value e0))), .inr (.inl (.int, (f_version e0))), .inr (.inl (.boolean, (f_active e0))), .inr (.inl (.int, (f_start e0))), .inr (.inl (.int, (f_readSet e0))), .inr (.inl (.int, (f_writeSet e0))), .inr (.inl (.int, (f_buffered e0))), .inl [.ref 10, .ref 11, .ref 12, .ref 13, .ref 14, .ref 15, .ref 16, .int (f_keyCount o), .int (f_slotCount o), .int (f_window o), .int ((f_commitCount o) + (1 : Int32)), .int (f_abortCount o), .int (f_lastConflict o)], .inr (.inl (.int, (f_value o))), .inr (.inl (.int, (f_version o))), .inr (.inl (.boolean, (f_active o))), .inr (.inl (.int, (f_start o))), .inr (.inl (.int, (f_readSet o))), .inr (.inl (.int, (f_writeSet o))), .inr (.inl (.int, (f_buffered o)))] : QHeap) = (H1 s e0 (s_commitCount o ((f_commitCount o) + (1 : Int32)))) := by dsimp only [H0, H1, f_value, f_version, f_active, f_start, f_readSet, f_writeSet, f_buffered, f_keyCount, f_slotCount, f_window, f_commitCount, f_abortCount, f_lastConflict, s_commitCount]
  rw [E233]
  obtain ⟨e243, he243, h⟩ := Option.bind_eq_some_iff.mp h
  refine QTri.mask [true, true, true, true, true] (loopN_tri (B := B25_25 x1 ((f_commitCount o) + (1 : Int32)) y232) (T := fun lv244 => QTri l Z n0 ad 25 (25, [some (.ref 9), some (.int x1), some (.int ((f_commitCount o) + (1 : Int32))), some (.int y232), some (.int lv244.1)], [], (H1 s e0 lv244.2)) (some (Value.int r.1)) (H1 s e0 r.2)) (KE := fun e243a => QTri l Z n0 ad 25 (85, [some (.ref 9), some (.int x1), some (.int ((f_commitCount o) + (1 : Int32))), none, none], [], (H1 s e0 e243a)) (some (Value.int r.1)) (H1 s e0 r.2)) (fun lv244 r hB hE hC => tB25_25 Ad W s e0 x1 ((f_commitCount o) + (1 : Int32)) y232 lv244 hB (fun x q => hE _ q) (fun x q => hC x q)) qN ((0 : Int32), (s_commitCount o ((f_commitCount o) + (1 : Int32)))) e243 he243 ?_)
  exact QTri.mask [true, true, true, false, false] (tJ25_85 Ad W s e0 e243 x1 ((f_commitCount o) + (1 : Int32)) h)
/-- failCommit(III)I -/
def F30 (o : Ob) (x1 : Int32) (x2 : Int32) (x3 : Int32) : Option (Int32 × Ob) :=
  (F26 o x1).bind fun r249 => some (x3, (s_lastConflict (s_abortCount r249 ((f_abortCount r249) + (1 : Int32))) x2))
theorem tF30 (Ad : QAd n0 ad) (W : QW Z a0) (s : List Int32) (e0 : Ob) (o : Ob) (x1 : Int32) (x2 : Int32) (x3 : Int32) {r : Int32 × Ob} (h : F30 o x1 x2 x3 = some r) : QTri l Z n0 ad 30 (0, qentry [.ref 9, .int x1, .int x2, .int x3] (pMaxL 30), [], (H1 s e0 o)) (some (Value.int r.1)) (H1 s e0 r.2) := by
  unfold F30 at h
  refine QTri.steps Ad W 2 (st' := (2, [some (.ref 9), some (.int x1), some (.int x2), some (.int x3)], [.int x1, .ref 9], (H1 s e0 o))) rfl ?_
  obtain ⟨r249, hr249, h⟩ := Option.bind_eq_some_iff.mp h
  refine QTri.callP W (a := 9) (as := [.int x1]) (rest := []) (w := none) (σ₁ := (H1 s e0 r249)) rfl rfl rfl rfl rfl rfl rfl rfl (tF26 Ad W s e0 o x1 hr249) ?_
  refine QTri.steps Ad W 6 (st' := (15, [some (.ref 9), some (.int x1), some (.int x2), some (.int x3)], [], [.inr (.inl (.int, s)), .inl [.ref 2, .ref 3, .ref 4, .ref 5, .ref 6, .ref 7, .ref 8, .int (f_keyCount e0), .int (f_slotCount e0), .int (f_window e0), .int (f_commitCount e0), .int (f_abortCount e0), .int (f_lastConflict e0)], .inr (.inl (.int, (f_value e0))), .inr (.inl (.int, (f_version e0))), .inr (.inl (.boolean, (f_active e0))), .inr (.inl (.int, (f_start e0))), .inr (.inl (.int, (f_readSet e0))), .inr (.inl (.int, (f_writeSet e0))), .inr (.inl (.int, (f_buffered e0))), .inl [.ref 10, .ref 11, .ref 12, .ref 13, .ref 14, .ref 15, .ref 16, .int (f_keyCount r249), .int (f_slotCount r249), .int (f_window r249), .int (f_commitCount r249), .int ((f_abortCount r249) + (1 : Int32)), .int (f_lastConflict r249)], .inr (.inl (.int, (f_value r249))), .inr (.inl (.int, (f_version r249))), .inr (.inl (.boolean, (f_active r249))), .inr (.inl (.int, (f_start r249))), .inr (.inl (.int, (f_readSet r249))), .inr (.inl (.int, (f_writeSet r249))), .inr (.inl (.int, (f_buffered r249)))])) rfl ?_
  refine QTri.steps Ad W 3 (st' := (20, [some (.ref 9), some (.int x1), some (.int x2), some (.int x3)], [], [.inr (.inl (.int, s)), .inl [.ref 2, .ref 3, .ref 4, .ref 5, .ref 6, .ref 7, .ref 8, .int (f_keyCount e0), .int (f_slotCount e0), .int (f_window e0), .int (f_commitCount e0), .int (f_abortCount e0), .int (f_lastConflict e0)], .inr (.inl (.int, (f_value e0))), .inr (.inl (.int, (f_version e0))), .inr (.inl (.boolean, (f_active e0))), .inr (.inl (.int, (f_start e0))), .inr (.inl (.int, (f_readSet e0))), .inr (.inl (.int, (f_writeSet e0))), .inr (.inl (.int, (f_buffered e0))), .inl [.ref 10, .ref 11, .ref 12, .ref 13, .ref 14, .ref 15, .ref 16, .int (f_keyCount r249), .int (f_slotCount r249), .int (f_window r249), .int (f_commitCount r249), .int ((f_abortCount r249) + (1 : Int32)), .int x2], .inr (.inl (.int, (f_value r249))), .inr (.inl (.int, (f_version r249))), .inr (.inl (.boolean, (f_active r249))), .inr (.inl (.int, (f_start r249))), .inr (.inl (.int, (f_readSet r249))), .inr (.inl (.int, (f_writeSet r249))), .inr (.inl (.int, (f_buffered r249)))])) rfl ?_
  refine QTri.steps Ad W 1 (st' := (21, [some (.ref 9), some (.int x1), some (.int x2), some (.int x3)], [.int x3], [.inr (.inl (.int, s)), .inl [.ref 2, .ref 3, .ref 4, .ref 5, .ref 6, .ref 7, .ref 8, .int (f_keyCount e0), .int (f_slotCount e0), .int (f_window e0), .int (f_commitCount e0), .int (f_abortCount e0), .int (f_lastConflict e0)], .inr (.inl (.int, (f_value e0))), .inr (.inl (.int, (f_version e0))), .inr (.inl (.boolean, (f_active e0))), .inr (.inl (.int, (f_start e0))), .inr (.inl (.int, (f_readSet e0))), .inr (.inl (.int, (f_writeSet e0))), .inr (.inl (.int, (f_buffered e0))), .inl [.ref 10, .ref 11, .ref 12, .ref 13, .ref 14, .ref 15, .ref 16, .int (f_keyCount r249), .int (f_slotCount r249), .int (f_window r249), .int (f_commitCount r249), .int ((f_abortCount r249) + (1 : Int32)), .int x2], .inr (.inl (.int, (f_value r249))), .inr (.inl (.int, (f_version r249))), .inr (.inl (.boolean, (f_active r249))), .inr (.inl (.int, (f_start r249))), .inr (.inl (.int, (f_readSet r249))), .inr (.inl (.int, (f_writeSet r249))), .inr (.inl (.int, (f_buffered r249)))])) rfl ?_
  have E250 : ([.inr (.inl (.int, s)), .inl [.ref 2, .ref 3, .ref 4, .ref 5, .ref 6, .ref 7, .ref 8, .int (f_keyCount e0), .int (f_slotCount e0), .int (f_window e0), .int (f_commitCount e0), .int (f_abortCount e0), .int (f_lastConflict e0)], .inr (.inl (.int, (f_value e0))), .inr (.inl (.int, (f_version e0))), .inr (.inl (.boolean, (f_active e0))), .inr (.inl (.int, (f_start e0))), .inr (.inl (.int, (f_readSet e0))), .inr (.inl (.int, (f_writeSet e0))), .inr (.inl (.int, (f_buffered e0))), .inl [.ref 10, .ref 11, .ref 12, .ref 13, .ref 14, .ref 15, .ref 16, .int (f_keyCount r249), .int (f_slotCount r249), .int (f_window r249), .int (f_commitCount r249), .int ((f_abortCount r249) + (1 : Int32)), .int x2], .inr (.inl (.int, (f_value r249))), .inr (.inl (.int, (f_version r249))), .inr (.inl (.boolean, (f_active r249))), .inr (.inl (.int, (f_start r249))), .inr (.inl (.int, (f_readSet r249))), .inr (.inl (.int, (f_writeSet r249))), .inr (.inl (.int, (f_buffered r249)))] : QHeap) = (H1 s e0 (s_lastConflict (s_abortCount r249 ((f_abortCount r249) + (1 : Int32))) x2)) := by dsimp only [H0, H1, f_value, f_version, f_active, f_start, f_readSet, f_writeSet, f_buffered, f_keyCount, f_slotCount, f_window, f_commitCount, f_abortCount, f_lastConflict, s_abortCount, s_lastConflict]
  rw [E250]
  obtain rfl := Option.some.inj h
  exact QTri.retI rfl rfl
/-- commit(I)I -/
def F5 (o : Ob) (x1 : Int32) : Option (Int32 × Ob) :=
  (F4 o x1).bind fun r214 => (if r214 = (0 : Int32) then some ((-1 : Int32), o) else (F23 o x1).bind fun r218 => (if r218 = (0 : Int32) then (F24 o x1).bind fun r230 => (if r230 < (0 : Int32) then (F25 o x1).bind fun r248 => some (r248.1, r248.2) else (F30 o x1 r230 (-3 : Int32)).bind fun r251 => some (r251.1, r251.2)) else (F30 o x1 (-1 : Int32) (-4 : Int32)).bind fun r252 => some (r252.1, r252.2)))
theorem tF5 (Ad : QAd n0 ad) (W : QW Z a0) (s : List Int32) (e0 : Ob) (o : Ob) (x1 : Int32) {r : Int32 × Ob} (h : F5 o x1 = some r) : QTri l Z n0 ad 5 (0, qentry [.ref 9, .int x1] (pMaxL 5), [], (H1 s e0 o)) (some (Value.int r.1)) (H1 s e0 r.2) := by
  unfold F5 at h
  refine QTri.steps Ad W 2 (st' := (2, [some (.ref 9), some (.int x1), none], [.int x1, .ref 9], (H1 s e0 o))) rfl ?_
  obtain ⟨r214, hr214, h⟩ := Option.bind_eq_some_iff.mp h
  refine QTri.callP W (a := 9) (as := [.int x1]) (rest := []) (w := (some (.int r214))) (σ₁ := (H1 s e0 o)) rfl rfl rfl rfl rfl rfl rfl rfl (tF4a1 Ad W s e0 o x1 hr214) ?_
  rcases qite h with ⟨hc215, h⟩ | ⟨hc215, h⟩
  · refine QTri.brF Ad W (t := 10) (f := 8) (L := [some (.ref 9), some (.int x1), none]) (S := []) (σ := (H1 s e0 o)) rfl (XT.i0_ne_f hc215) ?_
    refine QTri.steps Ad W 1 (st' := (9, [some (.ref 9), some (.int x1), none], [.int (-1 : Int32)], (H1 s e0 o))) rfl ?_
    obtain rfl := Option.some.inj h
    exact QTri.retI rfl rfl
  · refine QTri.brT Ad W (t := 10) (f := 8) (L := [some (.ref 9), some (.int x1), none]) (S := []) (σ := (H1 s e0 o)) rfl (XT.i0_ne_t hc215) ?_
    refine QTri.steps Ad W 2 (st' := (12, [some (.ref 9), some (.int x1), none], [.int x1, .ref 9], (H1 s e0 o))) rfl ?_
    obtain ⟨r218, hr218, h⟩ := Option.bind_eq_some_iff.mp h
    refine QTri.callP W (a := 9) (as := [.int x1]) (rest := []) (w := (some (.int r218))) (σ₁ := (H1 s e0 o)) rfl rfl rfl rfl rfl rfl rfl rfl (tF23 Ad W s e0 o x1 hr218) ?_
    rcases qite h with ⟨hc219, h⟩ | ⟨hc219, h⟩
    · refine QTri.brT Ad W (t := 27) (f := 18) (L := [some (.ref 9), some (.int x1), none]) (S := []) (σ := (H1 s e0 o)) rfl (XT.i0_eq_t hc219) ?_
      refine QTri.steps Ad W 2 (st' := (29, [some (.ref 9), some (.int x1), none], [.int x1, .ref 9], (H1 s e0 o))) rfl ?_
      obtain ⟨r230, hr230, h⟩ := Option.bind_eq_some_iff.mp h
      refine QTri.callP W (a := 9) (as := [.int x1]) (rest := []) (w := (some (.int r230))) (σ₁ := (H1 s e0 o)) rfl rfl rfl rfl rfl rfl rfl rfl (tF24 Ad W s e0 o x1 hr230) ?_
      refine QTri.steps Ad W 2 (st' := (34, [some (.ref 9), some (.int x1), some (.int r230)], [.int r230], (H1 s e0 o))) rfl ?_
      rcases qite h with ⟨hc231, h⟩ | ⟨hc231, h⟩
      · refine QTri.brT Ad W (t := 46) (f := 37) (L := [some (.ref 9), some (.int x1), some (.int r230)]) (S := []) (σ := (H1 s e0 o)) rfl (XT.i0_lt_t hc231) ?_
        refine QTri.steps Ad W 2 (st' := (48, [some (.ref 9), some (.int x1), some (.int r230)], [.int x1, .ref 9], (H1 s e0 o))) rfl ?_
        obtain ⟨r248, hr248, h⟩ := Option.bind_eq_some_iff.mp h
        refine QTri.callP W (a := 9) (as := [.int x1]) (rest := []) (w := (some (.int r248.1))) (σ₁ := (H1 s e0 r248.2)) rfl rfl rfl rfl rfl rfl rfl rfl (tF25 Ad W s e0 o x1 hr248) ?_
        obtain rfl := Option.some.inj h
        exact QTri.retI rfl rfl
      · refine QTri.brF Ad W (t := 46) (f := 37) (L := [some (.ref 9), some (.int x1), some (.int r230)]) (S := []) (σ := (H1 s e0 o)) rfl (XT.i0_lt_f hc231) ?_
        refine QTri.steps Ad W 4 (st' := (42, [some (.ref 9), some (.int x1), some (.int r230)], [.int (-3 : Int32), .int r230, .int x1, .ref 9], (H1 s e0 o))) rfl ?_
        obtain ⟨r251, hr251, h⟩ := Option.bind_eq_some_iff.mp h
        refine QTri.callP W (a := 9) (as := [.int x1, .int r230, .int (-3 : Int32)]) (rest := []) (w := (some (.int r251.1))) (σ₁ := (H1 s e0 r251.2)) rfl rfl rfl rfl rfl rfl rfl rfl (tF30 Ad W s e0 o x1 r230 (-3 : Int32) hr251) ?_
        obtain rfl := Option.some.inj h
        exact QTri.retI rfl rfl
    · refine QTri.brF Ad W (t := 27) (f := 18) (L := [some (.ref 9), some (.int x1), none]) (S := []) (σ := (H1 s e0 o)) rfl (XT.i0_eq_f hc219) ?_
      refine QTri.steps Ad W 4 (st' := (23, [some (.ref 9), some (.int x1), none], [.int (-4 : Int32), .int (-1 : Int32), .int x1, .ref 9], (H1 s e0 o))) rfl ?_
      obtain ⟨r252, hr252, h⟩ := Option.bind_eq_some_iff.mp h
      refine QTri.callP W (a := 9) (as := [.int x1, .int (-1 : Int32), .int (-4 : Int32)]) (rest := []) (w := (some (.int r252.1))) (σ₁ := (H1 s e0 r252.2)) rfl rfl rfl rfl rfl rfl rfl rfl (tF30 Ad W s e0 o x1 (-1 : Int32) (-4 : Int32) hr252) ?_
      obtain rfl := Option.some.inj h
      exact QTri.retI rfl rfl
/-- abort(I)I -/
def F29 (o : Ob) (x1 : Int32) : Option (Int32 × Ob) :=
  (F4 o x1).bind fun r254 => (if r254 = (0 : Int32) then some ((-1 : Int32), o) else (F26 o x1).bind fun r256 => some ((0 : Int32), (s_abortCount r256 ((f_abortCount r256) + (1 : Int32)))))
theorem tF29 (Ad : QAd n0 ad) (W : QW Z a0) (s : List Int32) (e0 : Ob) (o : Ob) (x1 : Int32) {r : Int32 × Ob} (h : F29 o x1 = some r) : QTri l Z n0 ad 29 (0, qentry [.ref 9, .int x1] (pMaxL 29), [], (H1 s e0 o)) (some (Value.int r.1)) (H1 s e0 r.2) := by
  unfold F29 at h
  refine QTri.steps Ad W 2 (st' := (2, [some (.ref 9), some (.int x1)], [.int x1, .ref 9], (H1 s e0 o))) rfl ?_
  obtain ⟨r254, hr254, h⟩ := Option.bind_eq_some_iff.mp h
  refine QTri.callP W (a := 9) (as := [.int x1]) (rest := []) (w := (some (.int r254))) (σ₁ := (H1 s e0 o)) rfl rfl rfl rfl rfl rfl rfl rfl (tF4a1 Ad W s e0 o x1 hr254) ?_
  rcases qite h with ⟨hc255, h⟩ | ⟨hc255, h⟩
  · refine QTri.brF Ad W (t := 10) (f := 8) (L := [some (.ref 9), some (.int x1)]) (S := []) (σ := (H1 s e0 o)) rfl (XT.i0_ne_f hc255) ?_
    refine QTri.steps Ad W 1 (st' := (9, [some (.ref 9), some (.int x1)], [.int (-1 : Int32)], (H1 s e0 o))) rfl ?_
    obtain rfl := Option.some.inj h
    exact QTri.retI rfl rfl
  · refine QTri.brT Ad W (t := 10) (f := 8) (L := [some (.ref 9), some (.int x1)]) (S := []) (σ := (H1 s e0 o)) rfl (XT.i0_ne_t hc255) ?_
    refine QTri.steps Ad W 2 (st' := (12, [some (.ref 9), some (.int x1)], [.int x1, .ref 9], (H1 s e0 o))) rfl ?_
    obtain ⟨r256, hr256, h⟩ := Option.bind_eq_some_iff.mp h
    refine QTri.callP W (a := 9) (as := [.int x1]) (rest := []) (w := none) (σ₁ := (H1 s e0 r256)) rfl rfl rfl rfl rfl rfl rfl rfl (tF26 Ad W s e0 o x1 hr256) ?_
    refine QTri.steps Ad W 6 (st' := (25, [some (.ref 9), some (.int x1)], [], [.inr (.inl (.int, s)), .inl [.ref 2, .ref 3, .ref 4, .ref 5, .ref 6, .ref 7, .ref 8, .int (f_keyCount e0), .int (f_slotCount e0), .int (f_window e0), .int (f_commitCount e0), .int (f_abortCount e0), .int (f_lastConflict e0)], .inr (.inl (.int, (f_value e0))), .inr (.inl (.int, (f_version e0))), .inr (.inl (.boolean, (f_active e0))), .inr (.inl (.int, (f_start e0))), .inr (.inl (.int, (f_readSet e0))), .inr (.inl (.int, (f_writeSet e0))), .inr (.inl (.int, (f_buffered e0))), .inl [.ref 10, .ref 11, .ref 12, .ref 13, .ref 14, .ref 15, .ref 16, .int (f_keyCount r256), .int (f_slotCount r256), .int (f_window r256), .int (f_commitCount r256), .int ((f_abortCount r256) + (1 : Int32)), .int (f_lastConflict r256)], .inr (.inl (.int, (f_value r256))), .inr (.inl (.int, (f_version r256))), .inr (.inl (.boolean, (f_active r256))), .inr (.inl (.int, (f_start r256))), .inr (.inl (.int, (f_readSet r256))), .inr (.inl (.int, (f_writeSet r256))), .inr (.inl (.int, (f_buffered r256)))])) rfl ?_
    refine QTri.steps Ad W 1 (st' := (26, [some (.ref 9), some (.int x1)], [.int (0 : Int32)], [.inr (.inl (.int, s)), .inl [.ref 2, .ref 3, .ref 4, .ref 5, .ref 6, .ref 7, .ref 8, .int (f_keyCount e0), .int (f_slotCount e0), .int (f_window e0), .int (f_commitCount e0), .int (f_abortCount e0), .int (f_lastConflict e0)], .inr (.inl (.int, (f_value e0))), .inr (.inl (.int, (f_version e0))), .inr (.inl (.boolean, (f_active e0))), .inr (.inl (.int, (f_start e0))), .inr (.inl (.int, (f_readSet e0))), .inr (.inl (.int, (f_writeSet e0))), .inr (.inl (.int, (f_buffered e0))), .inl [.ref 10, .ref 11, .ref 12, .ref 13, .ref 14, .ref 15, .ref 16, .int (f_keyCount r256), .int (f_slotCount r256), .int (f_window r256), .int (f_commitCount r256), .int ((f_abortCount r256) + (1 : Int32)), .int (f_lastConflict r256)], .inr (.inl (.int, (f_value r256))), .inr (.inl (.int, (f_version r256))), .inr (.inl (.boolean, (f_active r256))), .inr (.inl (.int, (f_start r256))), .inr (.inl (.int, (f_readSet r256))), .inr (.inl (.int, (f_writeSet r256))), .inr (.inl (.int, (f_buffered r256)))])) rfl ?_
    have E257 : ([.inr (.inl (.int, s)), .inl [.ref 2, .ref 3, .ref 4, .ref 5, .ref 6, .ref 7, .ref 8, .int (f_keyCount e0), .int (f_slotCount e0), .int (f_window e0), .int (f_commitCount e0), .int (f_abortCount e0), .int (f_lastConflict e0)], .inr (.inl (.int, (f_value e0))), .inr (.inl (.int, (f_version e0))), .inr (.inl (.boolean, (f_active e0))), .inr (.inl (.int, (f_start e0))), .inr (.inl (.int, (f_readSet e0))), .inr (.inl (.int, (f_writeSet e0))), .inr (.inl (.int, (f_buffered e0))), .inl [.ref 10, .ref 11, .ref 12, .ref 13, .ref 14, .ref 15, .ref 16, .int (f_keyCount r256), .int (f_slotCount r256), .int (f_window r256), .int (f_commitCount r256), .int ((f_abortCount r256) + (1 : Int32)), .int (f_lastConflict r256)], .inr (.inl (.int, (f_value r256))), .inr (.inl (.int, (f_version r256))), .inr (.inl (.boolean, (f_active r256))), .inr (.inl (.int, (f_start r256))), .inr (.inl (.int, (f_readSet r256))), .inr (.inl (.int, (f_writeSet r256))), .inr (.inl (.int, (f_buffered r256)))] : QHeap) = (H1 s e0 (s_abortCount r256 ((f_abortCount r256) + (1 : Int32)))) := by dsimp only [H0, H1, f_value, f_version, f_active, f_start, f_readSet, f_writeSet, f_buffered, f_keyCount, f_slotCount, f_window, f_commitCount, f_abortCount, f_lastConflict, s_abortCount]
    rw [E257]
    obtain rfl := Option.some.inj h
    exact QTri.retI rfl rfl
def J0_192 (s : List Int32) (p0 : Ob) (p1 : Ob) (x3 : Int32) (x4 : Int32) (x5 : Int32) (x6 : Int32) (x7 : Int32) (x8 : Int32) (x9 : Int32) : Option (((Int32 × QHeap)) ⊕ (Int32 × Ob × Ob)) :=
  (if x8 = (0 : Int32) then (if x4 = (0 : Int32) then (F18 p1).bind fun r84 => (J0_286 s p0 r84.2 x3 x9 r84.1) else (if x4 = (1 : Int32) then (F17 p1 x5 x6).bind fun r200 => (J0_286 s p0 r200.2 x3 x9 r200.1) else (if x4 = (2 : Int32) then (F27 p1 x5 x6 x7).bind fun r212 => (J0_286 s p0 r212.2 x3 x9 r212.1) else (if x4 = (3 : Int32) then (F5 p1 x5).bind fun r253 => (J0_286 s p0 r253.2 x3 x9 r253.1) else (F29 p1 x5).bind fun r258 => (J0_286 s p0 r258.2 x3 x9 r258.1))))) else (F6 p0 p1).bind fun r259 => (if r259 = (0 : Int32) then some (.inl ((0 : Int32), (H1 s p0 p1))) else (J0_305 s p0 p1 x3)))
theorem tJ0_192 (Ad : QAd n0 ad) (W : QW Z a0) (s : List Int32) (p0 : Ob) (p1 : Ob) (x3 : Int32) (x4 : Int32) (x5 : Int32) (x6 : Int32) (x7 : Int32) (x8 : Int32) (x9 : Int32) {r : ((Int32 × QHeap)) ⊕ (Int32 × Ob × Ob)} {u : Option Value} {τ : QHeap} (h : J0_192 s p0 p1 x3 x4 x5 x6 x7 x8 x9 = some r) (hx0 : ∀ x : Int32 × QHeap, r = .inl x → u = (some (Value.int x.1)) ∧ τ = x.2) (hc : ∀ x : Int32 × Ob × Ob, r = .inr x → QTri l Z n0 ad 0 (26, [some (.ref 0), some (.ref 1), some (.ref 9), some (.int x.1), none, none, none, none, none, none, none], [], (H1 s x.2.1 x.2.2)) u τ) : QTri l Z n0 ad 0 (192, [some (.ref 0), some (.ref 1), some (.ref 9), some (.int x3), some (.int x4), some (.int x5), some (.int x6), some (.int x7), some (.int x8), some (.int x9), none], [], (H1 s p0 p1)) u τ := by
  unfold J0_192 at h
  refine QTri.steps Ad W 1 (st' := (194, [some (.ref 0), some (.ref 1), some (.ref 9), some (.int x3), some (.int x4), some (.int x5), some (.int x6), some (.int x7), some (.int x8), some (.int x9), none], [.int x8], (H1 s p0 p1))) rfl ?_
  rcases qite h with ⟨hc59, h⟩ | ⟨hc59, h⟩
  · refine QTri.brT Ad W (t := 207) (f := 197) (L := [some (.ref 0), some (.ref 1), some (.ref 9), some (.int x3), some (.int x4), some (.int x5), some (.int x6), some (.int x7), some (.int x8), some (.int x9), none]) (S := []) (σ := (H1 s p0 p1)) rfl (XT.i0_eq_t hc59) ?_
    refine QTri.steps Ad W 1 (st' := (209, [some (.ref 0), some (.ref 1), some (.ref 9), some (.int x3), some (.int x4), some (.int x5), some (.int x6), some (.int x7), some (.int x8), some (.int x9), none], [.int x4], (H1 s p0 p1))) rfl ?_
    rcases qite h with ⟨hc60, h⟩ | ⟨hc60, h⟩
    · refine QTri.brF Ad W (t := 221) (f := 212) (L := [some (.ref 0), some (.ref 1), some (.ref 9), some (.int x3), some (.int x4), some (.int x5), some (.int x6), some (.int x7), some (.int x8), some (.int x9), none]) (S := []) (σ := (H1 s p0 p1)) rfl (XT.i0_ne_f hc60) ?_
      refine QTri.steps Ad W 1 (st' := (213, [some (.ref 0), some (.ref 1), some (.ref 9), some (.int x3), some (.int x4), some (.int x5), some (.int x6), some (.int x7), some (.int x8), some (.int x9), none], [.ref 9], (H1 s p0 p1))) rfl ?_
      obtain ⟨r84, hr84, h⟩ := Option.bind_eq_some_iff.mp h
      refine QTri.callV W (a := 9) (as := []) (rest := []) (w := (some (.int r84.1))) (σ₁ := (H1 s p0 r84.2)) rfl rfl rfl rfl rfl rfl rfl rfl (tF18a1 Ad W s p0 p1 hr84) ?_
      refine QTri.steps Ad W 2 (st' := (286, [some (.ref 0), some (.ref 1), some (.ref 9), some (.int x3), some (.int x4), some (.int x5), some (.int x6), some (.int x7), some (.int x8), some (.int x9), some (.int r84.1)], [], (H1 s p0 r84.2))) rfl ?_
      exact QTri.mask [true, true, true, true, false, false, false, false, false, true, true] (tJ0_286 Ad W s p0 r84.2 x3 x9 r84.1 h hx0 hc)
    · refine QTri.brT Ad W (t := 221) (f := 212) (L := [some (.ref 0), some (.ref 1), some (.ref 9), some (.int x3), some (.int x4), some (.int x5), some (.int x6), some (.int x7), some (.int x8), some (.int x9), none]) (S := []) (σ := (H1 s p0 p1)) rfl (XT.i0_ne_t hc60) ?_
      refine QTri.steps Ad W 2 (st' := (224, [some (.ref 0), some (.ref 1), some (.ref 9), some (.int x3), some (.int x4), some (.int x5), some (.int x6), some (.int x7), some (.int x8), some (.int x9), none], [.int (1 : Int32), .int x4], (H1 s p0 p1))) rfl ?_
      rcases qite h with ⟨hc186, h⟩ | ⟨hc186, h⟩
      · refine QTri.brF Ad W (t := 240) (f := 227) (L := [some (.ref 0), some (.ref 1), some (.ref 9), some (.int x3), some (.int x4), some (.int x5), some (.int x6), some (.int x7), some (.int x8), some (.int x9), none]) (S := []) (σ := (H1 s p0 p1)) rfl (XT.ii_ne_f hc186) ?_
        refine QTri.steps Ad W 3 (st' := (232, [some (.ref 0), some (.ref 1), some (.ref 9), some (.int x3), some (.int x4), some (.int x5), some (.int x6), some (.int x7), some (.int x8), some (.int x9), none], [.int x6, .int x5, .ref 9], (H1 s p0 p1))) rfl ?_
        obtain ⟨r200, hr200, h⟩ := Option.bind_eq_some_iff.mp h
        refine QTri.callV W (a := 9) (as := [.int x5, .int x6]) (rest := []) (w := (some (.int r200.1))) (σ₁ := (H1 s p0 r200.2)) rfl rfl rfl rfl rfl rfl rfl rfl (tF17 Ad W s p0 p1 x5 x6 hr200) ?_
        refine QTri.steps Ad W 2 (st' := (286, [some (.ref 0), some (.ref 1), some (.ref 9), some (.int x3), some (.int x4), some (.int x5), some (.int x6), some (.int x7), some (.int x8), some (.int x9), some (.int r200.1)], [], (H1 s p0 r200.2))) rfl ?_
        exact QTri.mask [true, true, true, true, false, false, false, false, false, true, true] (tJ0_286 Ad W s p0 r200.2 x3 x9 r200.1 h hx0 hc)
      · refine QTri.brT Ad W (t := 240) (f := 227) (L := [some (.ref 0), some (.ref 1), some (.ref 9), some (.int x3), some (.int x4), some (.int x5), some (.int x6), some (.int x7), some (.int x8), some (.int x9), none]) (S := []) (σ := (H1 s p0 p1)) rfl (XT.ii_ne_t hc186) ?_
        refine QTri.steps Ad W 2 (st' := (243, [some (.ref 0), some (.ref 1), some (.ref 9), some (.int x3), some (.int x4), some (.int x5), some (.int x6), some (.int x7), some (.int x8), some (.int x9), none], [.int (2 : Int32), .int x4], (H1 s p0 p1))) rfl ?_
        rcases qite h with ⟨hc201, h⟩ | ⟨hc201, h⟩
        · refine QTri.brF Ad W (t := 261) (f := 246) (L := [some (.ref 0), some (.ref 1), some (.ref 9), some (.int x3), some (.int x4), some (.int x5), some (.int x6), some (.int x7), some (.int x8), some (.int x9), none]) (S := []) (σ := (H1 s p0 p1)) rfl (XT.ii_ne_f hc201) ?_
          refine QTri.steps Ad W 4 (st' := (253, [some (.ref 0), some (.ref 1), some (.ref 9), some (.int x3), some (.int x4), some (.int x5), some (.int x6), some (.int x7), some (.int x8), some (.int x9), none], [.int x7, .int x6, .int x5, .ref 9], (H1 s p0 p1))) rfl ?_
          obtain ⟨r212, hr212, h⟩ := Option.bind_eq_some_iff.mp h
          refine QTri.callV W (a := 9) (as := [.int x5, .int x6, .int x7]) (rest := []) (w := (some (.int r212.1))) (σ₁ := (H1 s p0 r212.2)) rfl rfl rfl rfl rfl rfl rfl rfl (tF27 Ad W s p0 p1 x5 x6 x7 hr212) ?_
          refine QTri.steps Ad W 2 (st' := (286, [some (.ref 0), some (.ref 1), some (.ref 9), some (.int x3), some (.int x4), some (.int x5), some (.int x6), some (.int x7), some (.int x8), some (.int x9), some (.int r212.1)], [], (H1 s p0 r212.2))) rfl ?_
          exact QTri.mask [true, true, true, true, false, false, false, false, false, true, true] (tJ0_286 Ad W s p0 r212.2 x3 x9 r212.1 h hx0 hc)
        · refine QTri.brT Ad W (t := 261) (f := 246) (L := [some (.ref 0), some (.ref 1), some (.ref 9), some (.int x3), some (.int x4), some (.int x5), some (.int x6), some (.int x7), some (.int x8), some (.int x9), none]) (S := []) (σ := (H1 s p0 p1)) rfl (XT.ii_ne_t hc201) ?_
          refine QTri.steps Ad W 2 (st' := (264, [some (.ref 0), some (.ref 1), some (.ref 9), some (.int x3), some (.int x4), some (.int x5), some (.int x6), some (.int x7), some (.int x8), some (.int x9), none], [.int (3 : Int32), .int x4], (H1 s p0 p1))) rfl ?_
          rcases qite h with ⟨hc213, h⟩ | ⟨hc213, h⟩
          · refine QTri.brF Ad W (t := 278) (f := 267) (L := [some (.ref 0), some (.ref 1), some (.ref 9), some (.int x3), some (.int x4), some (.int x5), some (.int x6), some (.int x7), some (.int x8), some (.int x9), none]) (S := []) (σ := (H1 s p0 p1)) rfl (XT.ii_ne_f hc213) ?_
            refine QTri.steps Ad W 2 (st' := (270, [some (.ref 0), some (.ref 1), some (.ref 9), some (.int x3), some (.int x4), some (.int x5), some (.int x6), some (.int x7), some (.int x8), some (.int x9), none], [.int x5, .ref 9], (H1 s p0 p1))) rfl ?_
            obtain ⟨r253, hr253, h⟩ := Option.bind_eq_some_iff.mp h
            refine QTri.callV W (a := 9) (as := [.int x5]) (rest := []) (w := (some (.int r253.1))) (σ₁ := (H1 s p0 r253.2)) rfl rfl rfl rfl rfl rfl rfl rfl (tF5 Ad W s p0 p1 x5 hr253) ?_
            refine QTri.steps Ad W 2 (st' := (286, [some (.ref 0), some (.ref 1), some (.ref 9), some (.int x3), some (.int x4), some (.int x5), some (.int x6), some (.int x7), some (.int x8), some (.int x9), some (.int r253.1)], [], (H1 s p0 r253.2))) rfl ?_
            exact QTri.mask [true, true, true, true, false, false, false, false, false, true, true] (tJ0_286 Ad W s p0 r253.2 x3 x9 r253.1 h hx0 hc)
          · refine QTri.brT Ad W (t := 278) (f := 267) (L := [some (.ref 0), some (.ref 1), some (.ref 9), some (.int x3), some (.int x4), some (.int x5), some (.int x6), some (.int x7), some (.int x8), some (.int x9), none]) (S := []) (σ := (H1 s p0 p1)) rfl (XT.ii_ne_t hc213) ?_
            refine QTri.steps Ad W 2 (st' := (281, [some (.ref 0), some (.ref 1), some (.ref 9), some (.int x3), some (.int x4), some (.int x5), some (.int x6), some (.int x7), some (.int x8), some (.int x9), none], [.int x5, .ref 9], (H1 s p0 p1))) rfl ?_
            obtain ⟨r258, hr258, h⟩ := Option.bind_eq_some_iff.mp h
            refine QTri.callV W (a := 9) (as := [.int x5]) (rest := []) (w := (some (.int r258.1))) (σ₁ := (H1 s p0 r258.2)) rfl rfl rfl rfl rfl rfl rfl rfl (tF29 Ad W s p0 p1 x5 hr258) ?_
            refine QTri.steps Ad W 1 (st' := (286, [some (.ref 0), some (.ref 1), some (.ref 9), some (.int x3), some (.int x4), some (.int x5), some (.int x6), some (.int x7), some (.int x8), some (.int x9), some (.int r258.1)], [], (H1 s p0 r258.2))) rfl ?_
            exact QTri.mask [true, true, true, true, false, false, false, false, false, true, true] (tJ0_286 Ad W s p0 r258.2 x3 x9 r258.1 h hx0 hc)
  · refine QTri.brF Ad W (t := 207) (f := 197) (L := [some (.ref 0), some (.ref 1), some (.ref 9), some (.int x3), some (.int x4), some (.int x5), some (.int x6), some (.int x7), some (.int x8), some (.int x9), none]) (S := []) (σ := (H1 s p0 p1)) rfl (XT.i0_eq_f hc59) ?_
    refine QTri.steps Ad W 2 (st' := (199, [some (.ref 0), some (.ref 1), some (.ref 9), some (.int x3), some (.int x4), some (.int x5), some (.int x6), some (.int x7), some (.int x8), some (.int x9), none], [.ref 9, .ref 1], (H1 s p0 p1))) rfl ?_
    obtain ⟨r259, hr259, h⟩ := Option.bind_eq_some_iff.mp h
    refine QTri.callS W (as := [.ref 1, .ref 9]) (rest := []) (w := (some (.int r259))) (σ₁ := (H1 s p0 p1)) rfl rfl rfl rfl rfl rfl rfl (tF6 Ad W s p0 p1 hr259) ?_
    rcases qite h with ⟨hc260, h⟩ | ⟨hc260, h⟩
    · refine QTri.brF Ad W (t := 305) (f := 205) (L := [some (.ref 0), some (.ref 1), some (.ref 9), some (.int x3), some (.int x4), some (.int x5), some (.int x6), some (.int x7), some (.int x8), some (.int x9), none]) (S := []) (σ := (H1 s p0 p1)) rfl (XT.i0_ne_f hc260) ?_
      refine QTri.steps Ad W 1 (st' := (206, [some (.ref 0), some (.ref 1), some (.ref 9), some (.int x3), some (.int x4), some (.int x5), some (.int x6), some (.int x7), some (.int x8), some (.int x9), none], [.int (0 : Int32)], (H1 s p0 p1))) rfl ?_
      obtain rfl := Option.some.inj h
      obtain ⟨rfl, rfl⟩ := hx0 ((0 : Int32), (H1 s p0 p1)) rfl
      exact QTri.retZ rfl rfl
    · refine QTri.brT Ad W (t := 305) (f := 205) (L := [some (.ref 0), some (.ref 1), some (.ref 9), some (.int x3), some (.int x4), some (.int x5), some (.int x6), some (.int x7), some (.int x8), some (.int x9), none]) (S := []) (σ := (H1 s p0 p1)) rfl (XT.i0_ne_t hc260) ?_
      exact QTri.mask [true, true, true, true, false, false, false, false, false, false, false] (tJ0_305 Ad W s p0 p1 x3 h hx0 hc)
theorem tF17a1 (Ad : QAd n0 ad) (W : QW Z a0) (s : List Int32) (e0 : Ob) (o : Ob) (x1 : Int32) (x2 : Int32) {r : Int32 × Ob} (h : F17 o x1 x2 = some r) : QTri l Z n0 ad 17 (0, qentry [.ref 1, .int x1, .int x2] (pMaxL 17), [], (H1 s o e0)) (some (Value.int r.1)) (H1 s r.2 e0) := by
  unfold F17 at h
  refine QTri.steps Ad W 2 (st' := (2, [some (.ref 1), some (.int x1), some (.int x2), none], [.int x1, .ref 1], (H1 s o e0))) rfl ?_
  obtain ⟨r262, hr262, h⟩ := Option.bind_eq_some_iff.mp h
  refine QTri.callP W (a := 1) (as := [.int x1]) (rest := []) (w := (some (.int r262))) (σ₁ := (H1 s o e0)) rfl rfl rfl rfl rfl rfl rfl rfl (tF4 Ad W s e0 o x1 hr262) ?_
  rcases qite h with ⟨hc263, h⟩ | ⟨hc263, h⟩
  · refine QTri.brF Ad W (t := 10) (f := 8) (L := [some (.ref 1), some (.int x1), some (.int x2), none]) (S := []) (σ := (H1 s o e0)) rfl (XT.i0_ne_f hc263) ?_
    refine QTri.steps Ad W 1 (st' := (9, [some (.ref 1), some (.int x1), some (.int x2), none], [.int (0 : Int32)], (H1 s o e0))) rfl ?_
    obtain rfl := Option.some.inj h
    exact QTri.retI rfl rfl
  · refine QTri.brT Ad W (t := 10) (f := 8) (L := [some (.ref 1), some (.int x1), some (.int x2), none]) (S := []) (σ := (H1 s o e0)) rfl (XT.i0_ne_t hc263) ?_
    refine QTri.steps Ad W 2 (st' := (12, [some (.ref 1), some (.int x1), some (.int x2), none], [.int x2, .ref 1], (H1 s o e0))) rfl ?_
    obtain ⟨r264, hr264, h⟩ := Option.bind_eq_some_iff.mp h
    refine QTri.callP W (a := 1) (as := [.int x2]) (rest := []) (w := (some (.int r264))) (σ₁ := (H1 s o e0)) rfl rfl rfl rfl rfl rfl rfl rfl (tF11 Ad W s e0 o x2 hr264) ?_
    rcases qite h with ⟨hc265, h⟩ | ⟨hc265, h⟩
    · refine QTri.brF Ad W (t := 20) (f := 18) (L := [some (.ref 1), some (.int x1), some (.int x2), none]) (S := []) (σ := (H1 s o e0)) rfl (XT.i0_ne_f hc265) ?_
      refine QTri.steps Ad W 1 (st' := (19, [some (.ref 1), some (.int x1), some (.int x2), none], [.int (0 : Int32)], (H1 s o e0))) rfl ?_
      obtain rfl := Option.some.inj h
      exact QTri.retI rfl rfl
    · refine QTri.brT Ad W (t := 20) (f := 18) (L := [some (.ref 1), some (.int x1), some (.int x2), none]) (S := []) (σ := (H1 s o e0)) rfl (XT.i0_ne_t hc265) ?_
      refine QTri.steps Ad W 2 (st' := (22, [some (.ref 1), some (.int x1), some (.int x2), none], [.int x2, .ref 1], (H1 s o e0))) rfl ?_
      obtain ⟨r266, hr266, h⟩ := Option.bind_eq_some_iff.mp h
      refine QTri.callP W (a := 1) (as := [.int x2]) (rest := []) (w := (some (.int r266))) (σ₁ := (H1 s o e0)) rfl rfl rfl rfl rfl rfl rfl rfl (tF22 Ad W x2 hr266) ?_
      refine QTri.steps Ad W 4 (st' := (31, [some (.ref 1), some (.int x1), some (.int x2), some (.int r266)], [.int x1, .ref 7], (H1 s o e0))) rfl ?_
      obtain ⟨y267, hy267, h⟩ := Option.bind_eq_some_iff.mp h
      refine QTri.bnd Ad W (f := fun y267 => (32, [some (.ref 1), some (.int x1), some (.int x2), some (.int r266)], [.int y267], (H1 s o e0))) rfl hy267 ?_
      refine QTri.steps Ad W 2 (st' := (34, [some (.ref 1), some (.int x1), some (.int x2), some (.int r266)], [.int (y267 &&& r266)], (H1 s o e0))) rfl ?_
      rcases qite h with ⟨hc268, h⟩ | ⟨hc268, h⟩
      · refine QTri.brT Ad W (t := 49) (f := 37) (L := [some (.ref 1), some (.int x1), some (.int x2), some (.int r266)]) (S := []) (σ := (H1 s o e0)) rfl (XT.i0_eq_t hc268) ?_
        refine QTri.steps Ad W 6 (st' := (59, [some (.ref 1), some (.int x1), some (.int x2), some (.int r266)], [.int x1, .ref 6, .int x1, .ref 6], (H1 s o e0))) rfl ?_
        obtain ⟨y269, hy269, h⟩ := Option.bind_eq_some_iff.mp h
        refine QTri.bnd Ad W (f := fun y269 => (60, [some (.ref 1), some (.int x1), some (.int x2), some (.int r266)], [.int y269, .int x1, .ref 6], (H1 s o e0))) rfl hy269 ?_
        refine QTri.steps Ad W 2 (st' := (62, [some (.ref 1), some (.int x1), some (.int x2), some (.int r266)], [.int (y269 ||| r266), .int x1, .ref 6], (H1 s o e0))) rfl ?_
        obtain ⟨y270, hy270, h⟩ := Option.bind_eq_some_iff.mp h
        refine QTri.bnd Ad W (f := fun y270 => (63, [some (.ref 1), some (.int x1), some (.int x2), some (.int r266)], [], [.inr (.inl (.int, s)), .inl [.ref 2, .ref 3, .ref 4, .ref 5, .ref 6, .ref 7, .ref 8, .int (f_keyCount o), .int (f_slotCount o), .int (f_window o), .int (f_commitCount o), .int (f_abortCount o), .int (f_lastConflict o)], .inr (.inl (.int, (f_value o))), .inr (.inl (.int, (f_version o))), .inr (.inl (.boolean, (f_active o))), .inr (.inl (.int, (f_start o))), .inr (.inl (.int, y270)), .inr (.inl (.int, (f_writeSet o))), .inr (.inl (.int, (f_buffered o))), .inl [.ref 10, .ref 11, .ref 12, .ref 13, .ref 14, .ref 15, .ref 16, .int (f_keyCount e0), .int (f_slotCount e0), .int (f_window e0), .int (f_commitCount e0), .int (f_abortCount e0), .int (f_lastConflict e0)], .inr (.inl (.int, (f_value e0))), .inr (.inl (.int, (f_version e0))), .inr (.inl (.boolean, (f_active e0))), .inr (.inl (.int, (f_start e0))), .inr (.inl (.int, (f_readSet e0))), .inr (.inl (.int, (f_writeSet e0))), .inr (.inl (.int, (f_buffered e0)))])) rfl hy270 ?_
        refine QTri.steps Ad W 3 (st' := (68, [some (.ref 1), some (.int x1), some (.int x2), some (.int r266)], [.int x2, .ref 2], [.inr (.inl (.int, s)), .inl [.ref 2, .ref 3, .ref 4, .ref 5, .ref 6, .ref 7, .ref 8, .int (f_keyCount o), .int (f_slotCount o), .int (f_window o), .int (f_commitCount o), .int (f_abortCount o), .int (f_lastConflict o)], .inr (.inl (.int, (f_value o))), .inr (.inl (.int, (f_version o))), .inr (.inl (.boolean, (f_active o))), .inr (.inl (.int, (f_start o))), .inr (.inl (.int, y270)), .inr (.inl (.int, (f_writeSet o))), .inr (.inl (.int, (f_buffered o))), .inl [.ref 10, .ref 11, .ref 12, .ref 13, .ref 14, .ref 15, .ref 16, .int (f_keyCount e0), .int (f_slotCount e0), .int (f_window e0), .int (f_commitCount e0), .int (f_abortCount e0), .int (f_lastConflict e0)], .inr (.inl (.int, (f_value e0))), .inr (.inl (.int, (f_version e0))), .inr (.inl (.boolean, (f_active e0))), .inr (.inl (.int, (f_start e0))), .inr (.inl (.int, (f_readSet e0))), .inr (.inl (.int, (f_writeSet e0))), .inr (.inl (.int, (f_buffered e0)))])) rfl ?_
        obtain ⟨y271, hy271, h⟩ := Option.bind_eq_some_iff.mp h
        refine QTri.bnd Ad W (f := fun y271 => (69, [some (.ref 1), some (.int x1), some (.int x2), some (.int r266)], [.int y271], [.inr (.inl (.int, s)), .inl [.ref 2, .ref 3, .ref 4, .ref 5, .ref 6, .ref 7, .ref 8, .int (f_keyCount o), .int (f_slotCount o), .int (f_window o), .int (f_commitCount o), .int (f_abortCount o), .int (f_lastConflict o)], .inr (.inl (.int, (f_value o))), .inr (.inl (.int, (f_version o))), .inr (.inl (.boolean, (f_active o))), .inr (.inl (.int, (f_start o))), .inr (.inl (.int, y270)), .inr (.inl (.int, (f_writeSet o))), .inr (.inl (.int, (f_buffered o))), .inl [.ref 10, .ref 11, .ref 12, .ref 13, .ref 14, .ref 15, .ref 16, .int (f_keyCount e0), .int (f_slotCount e0), .int (f_window e0), .int (f_commitCount e0), .int (f_abortCount e0), .int (f_lastConflict e0)], .inr (.inl (.int, (f_value e0))), .inr (.inl (.int, (f_version e0))), .inr (.inl (.boolean, (f_active e0))), .inr (.inl (.int, (f_start e0))), .inr (.inl (.int, (f_readSet e0))), .inr (.inl (.int, (f_writeSet e0))), .inr (.inl (.int, (f_buffered e0)))])) rfl hy271 ?_
        have E272 : ([.inr (.inl (.int, s)), .inl [.ref 2, .ref 3, .ref 4, .ref 5, .ref 6, .ref 7, .ref 8, .int (f_keyCount o), .int (f_slotCount o), .int (f_window o), .int (f_commitCount o), .int (f_abortCount o), .int (f_lastConflict o)], .inr (.inl (.int, (f_value o))), .inr (.inl (.int, (f_version o))), .inr (.inl (.boolean, (f_active o))), .inr (.inl (.int, (f_start o))), .inr (.inl (.int, y270)), .inr (.inl (.int, (f_writeSet o))), .inr (.inl (.int, (f_buffered o))), .inl [.ref 10, .ref 11, .ref 12, .ref 13, .ref 14, .ref 15, .ref 16, .int (f_keyCount e0), .int (f_slotCount e0), .int (f_window e0), .int (f_commitCount e0), .int (f_abortCount e0), .int (f_lastConflict e0)], .inr (.inl (.int, (f_value e0))), .inr (.inl (.int, (f_version e0))), .inr (.inl (.boolean, (f_active e0))), .inr (.inl (.int, (f_start e0))), .inr (.inl (.int, (f_readSet e0))), .inr (.inl (.int, (f_writeSet e0))), .inr (.inl (.int, (f_buffered e0)))] : QHeap) = (H1 s (s_readSet o y270) e0) := by dsimp only [H0, H1, f_value, f_version, f_active, f_start, f_readSet, f_writeSet, f_buffered, f_keyCount, f_slotCount, f_window, f_commitCount, f_abortCount, f_lastConflict, s_readSet]
        rw [E272]
        obtain rfl := Option.some.inj h
        exact QTri.retI rfl rfl
      · refine QTri.brF Ad W (t := 49) (f := 37) (L := [some (.ref 1), some (.int x1), some (.int x2), some (.int r266)]) (S := []) (σ := (H1 s o e0)) rfl (XT.i0_eq_f hc268) ?_
        refine QTri.steps Ad W 5 (st' := (44, [some (.ref 1), some (.int x1), some (.int x2), some (.int r266)], [.int x2, .int x1, .ref 1, .ref 8], (H1 s o e0))) rfl ?_
        obtain ⟨r273, hr273, h⟩ := Option.bind_eq_some_iff.mp h
        refine QTri.callP W (a := 1) (as := [.int x1, .int x2]) (rest := [.ref 8]) (w := (some (.int r273))) (σ₁ := (H1 s o e0)) rfl rfl rfl rfl rfl rfl rfl rfl (tF28 Ad W x1 x2 hr273) ?_
        obtain ⟨y274, hy274, h⟩ := Option.bind_eq_some_iff.mp h
        refine QTri.bnd Ad W (f := fun y274 => (48, [some (.ref 1), some (.int x1), some (.int x2), some (.int r266)], [.int y274], (H1 s o e0))) rfl hy274 ?_
        obtain rfl := Option.some.inj h
        exact QTri.retI rfl rfl
theorem tF27a1 (Ad : QAd n0 ad) (W : QW Z a0) (s : List Int32) (e0 : Ob) (o : Ob) (x1 : Int32) (x2 : Int32) (x3 : Int32) {r : Int32 × Ob} (h : F27 o x1 x2 x3 = some r) : QTri l Z n0 ad 27 (0, qentry [.ref 1, .int x1, .int x2, .int x3] (pMaxL 27), [], (H1 s o e0)) (some (Value.int r.1)) (H1 s r.2 e0) := by
  unfold F27 at h
  refine QTri.steps Ad W 2 (st' := (2, [some (.ref 1), some (.int x1), some (.int x2), some (.int x3)], [.int x1, .ref 1], (H1 s o e0))) rfl ?_
  obtain ⟨r277, hr277, h⟩ := Option.bind_eq_some_iff.mp h
  refine QTri.callP W (a := 1) (as := [.int x1]) (rest := []) (w := (some (.int r277))) (σ₁ := (H1 s o e0)) rfl rfl rfl rfl rfl rfl rfl rfl (tF4 Ad W s e0 o x1 hr277) ?_
  rcases qite h with ⟨hc278, h⟩ | ⟨hc278, h⟩
  · refine QTri.brF Ad W (t := 10) (f := 8) (L := [some (.ref 1), some (.int x1), some (.int x2), some (.int x3)]) (S := []) (σ := (H1 s o e0)) rfl (XT.i0_ne_f hc278) ?_
    refine QTri.steps Ad W 1 (st' := (9, [some (.ref 1), some (.int x1), some (.int x2), some (.int x3)], [.int (-1 : Int32)], (H1 s o e0))) rfl ?_
    obtain rfl := Option.some.inj h
    exact QTri.retI rfl rfl
  · refine QTri.brT Ad W (t := 10) (f := 8) (L := [some (.ref 1), some (.int x1), some (.int x2), some (.int x3)]) (S := []) (σ := (H1 s o e0)) rfl (XT.i0_ne_t hc278) ?_
    refine QTri.steps Ad W 2 (st' := (12, [some (.ref 1), some (.int x1), some (.int x2), some (.int x3)], [.int x2, .ref 1], (H1 s o e0))) rfl ?_
    obtain ⟨r279, hr279, h⟩ := Option.bind_eq_some_iff.mp h
    refine QTri.callP W (a := 1) (as := [.int x2]) (rest := []) (w := (some (.int r279))) (σ₁ := (H1 s o e0)) rfl rfl rfl rfl rfl rfl rfl rfl (tF11 Ad W s e0 o x2 hr279) ?_
    rcases qite h with ⟨hc280, h⟩ | ⟨hc280, h⟩
    · refine QTri.brF Ad W (t := 21) (f := 18) (L := [some (.ref 1), some (.int x1), some (.int x2), some (.int x3)]) (S := []) (σ := (H1 s o e0)) rfl (XT.i0_ne_f hc280) ?_
      refine QTri.steps Ad W 1 (st' := (20, [some (.ref 1), some (.int x1), some (.int x2), some (.int x3)], [.int (-2 : Int32)], (H1 s o e0))) rfl ?_
      obtain rfl := Option.some.inj h
      exact QTri.retI rfl rfl
    · refine QTri.brT Ad W (t := 21) (f := 18) (L := [some (.ref 1), some (.int x1), some (.int x2), some (.int x3)]) (S := []) (σ := (H1 s o e0)) rfl (XT.i0_ne_t hc280) ?_
      refine QTri.steps Ad W 6 (st' := (31, [some (.ref 1), some (.int x1), some (.int x2), some (.int x3)], [.int x1, .ref 7, .int x1, .ref 7], (H1 s o e0))) rfl ?_
      obtain ⟨y281, hy281, h⟩ := Option.bind_eq_some_iff.mp h
      refine QTri.bnd Ad W (f := fun y281 => (32, [some (.ref 1), some (.int x1), some (.int x2), some (.int x3)], [.int y281, .int x1, .ref 7], (H1 s o e0))) rfl hy281 ?_
      refine QTri.steps Ad W 2 (st' := (34, [some (.ref 1), some (.int x1), some (.int x2), some (.int x3)], [.int x2, .ref 1, .int y281, .int x1, .ref 7], (H1 s o e0))) rfl ?_
      obtain ⟨r282, hr282, h⟩ := Option.bind_eq_some_iff.mp h
      refine QTri.callP W (a := 1) (as := [.int x2]) (rest := [.int y281, .int x1, .ref 7]) (w := (some (.int r282))) (σ₁ := (H1 s o e0)) rfl rfl rfl rfl rfl rfl rfl rfl (tF22 Ad W x2 hr282) ?_
      refine QTri.steps Ad W 1 (st' := (38, [some (.ref 1), some (.int x1), some (.int x2), some (.int x3)], [.int (y281 ||| r282), .int x1, .ref 7], (H1 s o e0))) rfl ?_
      obtain ⟨y283, hy283, h⟩ := Option.bind_eq_some_iff.mp h
      refine QTri.bnd Ad W (f := fun y283 => (39, [some (.ref 1), some (.int x1), some (.int x2), some (.int x3)], [], [.inr (.inl (.int, s)), .inl [.ref 2, .ref 3, .ref 4, .ref 5, .ref 6, .ref 7, .ref 8, .int (f_keyCount o), .int (f_slotCount o), .int (f_window o), .int (f_commitCount o), .int (f_abortCount o), .int (f_lastConflict o)], .inr (.inl (.int, (f_value o))), .inr (.inl (.int, (f_version o))), .inr (.inl (.boolean, (f_active o))), .inr (.inl (.int, (f_start o))), .inr (.inl (.int, (f_readSet o))), .inr (.inl (.int, y283)), .inr (.inl (.int, (f_buffered o))), .inl [.ref 10, .ref 11, .ref 12, .ref 13, .ref 14, .ref 15, .ref 16, .int (f_keyCount e0), .int (f_slotCount e0), .int (f_window e0), .int (f_commitCount e0), .int (f_abortCount e0), .int (f_lastConflict e0)], .inr (.inl (.int, (f_value e0))), .inr (.inl (.int, (f_version e0))), .inr (.inl (.boolean, (f_active e0))), .inr (.inl (.int, (f_start e0))), .inr (.inl (.int, (f_readSet e0))), .inr (.inl (.int, (f_writeSet e0))), .inr (.inl (.int, (f_buffered e0)))])) rfl hy283 ?_
      refine QTri.steps Ad W 5 (st' := (46, [some (.ref 1), some (.int x1), some (.int x2), some (.int x3)], [.int x2, .int x1, .ref 1, .ref 8], [.inr (.inl (.int, s)), .inl [.ref 2, .ref 3, .ref 4, .ref 5, .ref 6, .ref 7, .ref 8, .int (f_keyCount o), .int (f_slotCount o), .int (f_window o), .int (f_commitCount o), .int (f_abortCount o), .int (f_lastConflict o)], .inr (.inl (.int, (f_value o))), .inr (.inl (.int, (f_version o))), .inr (.inl (.boolean, (f_active o))), .inr (.inl (.int, (f_start o))), .inr (.inl (.int, (f_readSet o))), .inr (.inl (.int, y283)), .inr (.inl (.int, (f_buffered o))), .inl [.ref 10, .ref 11, .ref 12, .ref 13, .ref 14, .ref 15, .ref 16, .int (f_keyCount e0), .int (f_slotCount e0), .int (f_window e0), .int (f_commitCount e0), .int (f_abortCount e0), .int (f_lastConflict e0)], .inr (.inl (.int, (f_value e0))), .inr (.inl (.int, (f_version e0))), .inr (.inl (.boolean, (f_active e0))), .inr (.inl (.int, (f_start e0))), .inr (.inl (.int, (f_readSet e0))), .inr (.inl (.int, (f_writeSet e0))), .inr (.inl (.int, (f_buffered e0)))])) rfl ?_
      obtain ⟨r284, hr284, h⟩ := Option.bind_eq_some_iff.mp h
      refine QTri.callP W (a := 1) (as := [.int x1, .int x2]) (rest := [.ref 8]) (w := (some (.int r284))) (σ₁ := [.inr (.inl (.int, s)), .inl [.ref 2, .ref 3, .ref 4, .ref 5, .ref 6, .ref 7, .ref 8, .int (f_keyCount o), .int (f_slotCount o), .int (f_window o), .int (f_commitCount o), .int (f_abortCount o), .int (f_lastConflict o)], .inr (.inl (.int, (f_value o))), .inr (.inl (.int, (f_version o))), .inr (.inl (.boolean, (f_active o))), .inr (.inl (.int, (f_start o))), .inr (.inl (.int, (f_readSet o))), .inr (.inl (.int, y283)), .inr (.inl (.int, (f_buffered o))), .inl [.ref 10, .ref 11, .ref 12, .ref 13, .ref 14, .ref 15, .ref 16, .int (f_keyCount e0), .int (f_slotCount e0), .int (f_window e0), .int (f_commitCount e0), .int (f_abortCount e0), .int (f_lastConflict e0)], .inr (.inl (.int, (f_value e0))), .inr (.inl (.int, (f_version e0))), .inr (.inl (.boolean, (f_active e0))), .inr (.inl (.int, (f_start e0))), .inr (.inl (.int, (f_readSet e0))), .inr (.inl (.int, (f_writeSet e0))), .inr (.inl (.int, (f_buffered e0)))]) rfl rfl rfl rfl rfl rfl rfl rfl (tF28 Ad W x1 x2 hr284) ?_
      refine QTri.steps Ad W 1 (st' := (50, [some (.ref 1), some (.int x1), some (.int x2), some (.int x3)], [.int x3, .int r284, .ref 8], [.inr (.inl (.int, s)), .inl [.ref 2, .ref 3, .ref 4, .ref 5, .ref 6, .ref 7, .ref 8, .int (f_keyCount o), .int (f_slotCount o), .int (f_window o), .int (f_commitCount o), .int (f_abortCount o), .int (f_lastConflict o)], .inr (.inl (.int, (f_value o))), .inr (.inl (.int, (f_version o))), .inr (.inl (.boolean, (f_active o))), .inr (.inl (.int, (f_start o))), .inr (.inl (.int, (f_readSet o))), .inr (.inl (.int, y283)), .inr (.inl (.int, (f_buffered o))), .inl [.ref 10, .ref 11, .ref 12, .ref 13, .ref 14, .ref 15, .ref 16, .int (f_keyCount e0), .int (f_slotCount e0), .int (f_window e0), .int (f_commitCount e0), .int (f_abortCount e0), .int (f_lastConflict e0)], .inr (.inl (.int, (f_value e0))), .inr (.inl (.int, (f_version e0))), .inr (.inl (.boolean, (f_active e0))), .inr (.inl (.int, (f_start e0))), .inr (.inl (.int, (f_readSet e0))), .inr (.inl (.int, (f_writeSet e0))), .inr (.inl (.int, (f_buffered e0)))])) rfl ?_
      obtain ⟨y285, hy285, h⟩ := Option.bind_eq_some_iff.mp h
      refine QTri.bnd Ad W (f := fun y285 => (51, [some (.ref 1), some (.int x1), some (.int x2), some (.int x3)], [], [.inr (.inl (.int, s)), .inl [.ref 2, .ref 3, .ref 4, .ref 5, .ref 6, .ref 7, .ref 8, .int (f_keyCount o), .int (f_slotCount o), .int (f_window o), .int (f_commitCount o), .int (f_abortCount o), .int (f_lastConflict o)], .inr (.inl (.int, (f_value o))), .inr (.inl (.int, (f_version o))), .inr (.inl (.boolean, (f_active o))), .inr (.inl (.int, (f_start o))), .inr (.inl (.int, (f_readSet o))), .inr (.inl (.int, y283)), .inr (.inl (.int, y285)), .inl [.ref 10, .ref 11, .ref 12, .ref 13, .ref 14, .ref 15, .ref 16, .int (f_keyCount e0), .int (f_slotCount e0), .int (f_window e0), .int (f_commitCount e0), .int (f_abortCount e0), .int (f_lastConflict e0)], .inr (.inl (.int, (f_value e0))), .inr (.inl (.int, (f_version e0))), .inr (.inl (.boolean, (f_active e0))), .inr (.inl (.int, (f_start e0))), .inr (.inl (.int, (f_readSet e0))), .inr (.inl (.int, (f_writeSet e0))), .inr (.inl (.int, (f_buffered e0)))])) rfl hy285 ?_
      refine QTri.steps Ad W 1 (st' := (52, [some (.ref 1), some (.int x1), some (.int x2), some (.int x3)], [.int (0 : Int32)], [.inr (.inl (.int, s)), .inl [.ref 2, .ref 3, .ref 4, .ref 5, .ref 6, .ref 7, .ref 8, .int (f_keyCount o), .int (f_slotCount o), .int (f_window o), .int (f_commitCount o), .int (f_abortCount o), .int (f_lastConflict o)], .inr (.inl (.int, (f_value o))), .inr (.inl (.int, (f_version o))), .inr (.inl (.boolean, (f_active o))), .inr (.inl (.int, (f_start o))), .inr (.inl (.int, (f_readSet o))), .inr (.inl (.int, y283)), .inr (.inl (.int, y285)), .inl [.ref 10, .ref 11, .ref 12, .ref 13, .ref 14, .ref 15, .ref 16, .int (f_keyCount e0), .int (f_slotCount e0), .int (f_window e0), .int (f_commitCount e0), .int (f_abortCount e0), .int (f_lastConflict e0)], .inr (.inl (.int, (f_value e0))), .inr (.inl (.int, (f_version e0))), .inr (.inl (.boolean, (f_active e0))), .inr (.inl (.int, (f_start e0))), .inr (.inl (.int, (f_readSet e0))), .inr (.inl (.int, (f_writeSet e0))), .inr (.inl (.int, (f_buffered e0)))])) rfl ?_
      have E286 : ([.inr (.inl (.int, s)), .inl [.ref 2, .ref 3, .ref 4, .ref 5, .ref 6, .ref 7, .ref 8, .int (f_keyCount o), .int (f_slotCount o), .int (f_window o), .int (f_commitCount o), .int (f_abortCount o), .int (f_lastConflict o)], .inr (.inl (.int, (f_value o))), .inr (.inl (.int, (f_version o))), .inr (.inl (.boolean, (f_active o))), .inr (.inl (.int, (f_start o))), .inr (.inl (.int, (f_readSet o))), .inr (.inl (.int, y283)), .inr (.inl (.int, y285)), .inl [.ref 10, .ref 11, .ref 12, .ref 13, .ref 14, .ref 15, .ref 16, .int (f_keyCount e0), .int (f_slotCount e0), .int (f_window e0), .int (f_commitCount e0), .int (f_abortCount e0), .int (f_lastConflict e0)], .inr (.inl (.int, (f_value e0))), .inr (.inl (.int, (f_version e0))), .inr (.inl (.boolean, (f_active e0))), .inr (.inl (.int, (f_start e0))), .inr (.inl (.int, (f_readSet e0))), .inr (.inl (.int, (f_writeSet e0))), .inr (.inl (.int, (f_buffered e0)))] : QHeap) = (H1 s (s_buffered (s_writeSet o y283) y285) e0) := by dsimp only [H0, H1, f_value, f_version, f_active, f_start, f_readSet, f_writeSet, f_buffered, f_keyCount, f_slotCount, f_window, f_commitCount, f_abortCount, f_lastConflict, s_writeSet, s_buffered]
      rw [E286]
      obtain rfl := Option.some.inj h
      exact QTri.retI rfl rfl
theorem tF23a1 (Ad : QAd n0 ad) (W : QW Z a0) (s : List Int32) (e0 : Ob) (o : Ob) (x1 : Int32) {r : Int32} (h : F23 o x1 = some r) : QTri l Z n0 ad 23 (0, qentry [.ref 1, .int x1] (pMaxL 23), [], (H1 s o e0)) (some (Value.int r)) (H1 s o e0) := by
  unfold F23 at h
  refine QTri.steps Ad W 5 (st' := (9, [some (.ref 1), some (.int x1)], [.int x1, .ref 5, .int (f_commitCount o)], (H1 s o e0))) rfl ?_
  obtain ⟨y291, hy291, h⟩ := Option.bind_eq_some_iff.mp h
  refine QTri.bnd Ad W (f := fun y291 => (10, [some (.ref 1), some (.int x1)], [.int y291, .int (f_commitCount o)], (H1 s o e0))) rfl hy291 ?_
  refine QTri.steps Ad W 3 (st' := (15, [some (.ref 1), some (.int x1)], [.int (f_window o), .int ((f_commitCount o) - y291)], (H1 s o e0))) rfl ?_
  rcases qite h with ⟨hc292, h⟩ | ⟨hc292, h⟩
  · refine QTri.brF Ad W (t := 22) (f := 18) (L := [some (.ref 1), some (.int x1)]) (S := []) (σ := (H1 s o e0)) rfl (XT.ii_le_f hc292) ?_
    refine QTri.steps Ad W 2 (st' := (23, [some (.ref 1), some (.int x1)], [.int (1 : Int32)], (H1 s o e0))) rfl ?_
    obtain rfl := Option.some.inj h
    exact QTri.retZ rfl rfl
  · refine QTri.brT Ad W (t := 22) (f := 18) (L := [some (.ref 1), some (.int x1)]) (S := []) (σ := (H1 s o e0)) rfl (XT.ii_le_t hc292) ?_
    refine QTri.steps Ad W 1 (st' := (23, [some (.ref 1), some (.int x1)], [.int (0 : Int32)], (H1 s o e0))) rfl ?_
    obtain rfl := Option.some.inj h
    exact QTri.retZ rfl rfl
theorem tJ24_58a1 (Ad : QAd n0 ad) (W : QW Z a0) (s : List Int32) (e0 : Ob) (o : Ob) (x2 : Int32) (x3 : Int32) (x4 : Int32) {r : ((Int32)) ⊕ (Int32)} {u : Option Value} {τ : QHeap} (h : J24_58 o x2 x3 x4 = some r) (hx0 : ∀ x : Int32, r = .inl x → u = (some (Value.int x)) ∧ τ = (H1 s o e0)) (hc : ∀ x : Int32, r = .inr x → QTri l Z n0 ad 24 (17, [some (.ref 1), none, some (.int x2), some (.int x3), some (.int x)], [], (H1 s o e0)) u τ) : QTri l Z n0 ad 24 (58, [some (.ref 1), none, some (.int x2), some (.int x3), some (.int x4)], [], (H1 s o e0)) u τ := by
  unfold J24_58 at h
  refine QTri.steps Ad W 2 (st' := (17, [some (.ref 1), none, some (.int x2), some (.int x3), some (.int (x4 + (1 : Int32)))], [], (H1 s o e0))) rfl ?_
  obtain rfl := Option.some.inj h
  exact QTri.mask [true, false, true, true, true] (hc (x4 + (1 : Int32)) rfl)
theorem tB24_17a1 (Ad : QAd n0 ad) (W : QW Z a0) (s : List Int32) (e0 : Ob) (o : Ob) (x2 : Int32) (x3 : Int32) (v : Int32) {r : ((Int32)) ⊕ (Int32)} {u : Option Value} {τ : QHeap} (h : B24_17 o x2 x3 v = some r) (hx0 : ∀ x : Int32, r = .inl x → u = (some (Value.int x)) ∧ τ = (H1 s o e0)) (hc : ∀ x : Int32, r = .inr x → QTri l Z n0 ad 24 (17, [some (.ref 1), none, some (.int x2), some (.int x3), some (.int x)], [], (H1 s o e0)) u τ) : QTri l Z n0 ad 24 (17, [some (.ref 1), none, some (.int x2), some (.int x3), some (.int v)], [], (H1 s o e0)) u τ := by
  unfold B24_17 at h
  refine QTri.steps Ad W 3 (st' := (23, [some (.ref 1), none, some (.int x2), some (.int x3), some (.int v)], [.int (f_keyCount o), .int v], (H1 s o e0))) rfl ?_
  rcases qite h with ⟨hc297, h⟩ | ⟨hc297, h⟩
  · refine QTri.brF Ad W (t := 64) (f := 26) (L := [some (.ref 1), none, some (.int x2), some (.int x3), some (.int v)]) (S := []) (σ := (H1 s o e0)) rfl (XT.ii_ge_f hc297) ?_
    refine QTri.steps Ad W 2 (st' := (30, [some (.ref 1), none, some (.int x2), some (.int x3), some (.int v)], [.int (32 : Int32), .int v], (H1 s o e0))) rfl ?_
    rcases qite h with ⟨hc298, h⟩ | ⟨hc298, h⟩
    · refine QTri.brF Ad W (t := 64) (f := 33) (L := [some (.ref 1), none, some (.int x2), some (.int x3), some (.int v)]) (S := []) (σ := (H1 s o e0)) rfl (XT.ii_ge_f hc298) ?_
      refine QTri.steps Ad W 3 (st' := (37, [some (.ref 1), none, some (.int x2), some (.int x3), some (.int v)], [.int v, .ref 1, .int x2], (H1 s o e0))) rfl ?_
      obtain ⟨r299, hr299, h⟩ := Option.bind_eq_some_iff.mp h
      refine QTri.callP W (a := 1) (as := [.int v]) (rest := [.int x2]) (w := (some (.int r299))) (σ₁ := (H1 s o e0)) rfl rfl rfl rfl rfl rfl rfl rfl (tF22 Ad W v hr299) ?_
      refine QTri.steps Ad W 1 (st' := (41, [some (.ref 1), none, some (.int x2), some (.int x3), some (.int v)], [.int (x2 &&& r299)], (H1 s o e0))) rfl ?_
      rcases qite h with ⟨hc300, h⟩ | ⟨hc300, h⟩
      · refine QTri.brT Ad W (t := 58) (f := 44) (L := [some (.ref 1), none, some (.int x2), some (.int x3), some (.int v)]) (S := []) (σ := (H1 s o e0)) rfl (XT.i0_eq_t hc300) ?_
        exact QTri.mask [true, false, true, true, true] (tJ24_58a1 Ad W s e0 o x2 x3 v h hx0 hc)
      · refine QTri.brF Ad W (t := 58) (f := 44) (L := [some (.ref 1), none, some (.int x2), some (.int x3), some (.int v)]) (S := []) (σ := (H1 s o e0)) rfl (XT.i0_eq_f hc300) ?_
        refine QTri.steps Ad W 3 (st' := (50, [some (.ref 1), none, some (.int x2), some (.int x3), some (.int v)], [.int v, .ref 3], (H1 s o e0))) rfl ?_
        obtain ⟨y301, hy301, h⟩ := Option.bind_eq_some_iff.mp h
        refine QTri.bnd Ad W (f := fun y301 => (51, [some (.ref 1), none, some (.int x2), some (.int x3), some (.int v)], [.int y301], (H1 s o e0))) rfl hy301 ?_
        refine QTri.steps Ad W 1 (st' := (52, [some (.ref 1), none, some (.int x2), some (.int x3), some (.int v)], [.int x3, .int y301], (H1 s o e0))) rfl ?_
        rcases qite h with ⟨hc302, h⟩ | ⟨hc302, h⟩
        · refine QTri.brF Ad W (t := 58) (f := 55) (L := [some (.ref 1), none, some (.int x2), some (.int x3), some (.int v)]) (S := []) (σ := (H1 s o e0)) rfl (XT.ii_le_f hc302) ?_
          refine QTri.steps Ad W 1 (st' := (57, [some (.ref 1), none, some (.int x2), some (.int x3), some (.int v)], [.int v], (H1 s o e0))) rfl ?_
          obtain rfl := Option.some.inj h
          obtain ⟨rfl, rfl⟩ := hx0 v rfl
          exact QTri.retI rfl rfl
        · refine QTri.brT Ad W (t := 58) (f := 55) (L := [some (.ref 1), none, some (.int x2), some (.int x3), some (.int v)]) (S := []) (σ := (H1 s o e0)) rfl (XT.ii_le_t hc302) ?_
          exact QTri.mask [true, false, true, true, true] (tJ24_58a1 Ad W s e0 o x2 x3 v h hx0 hc)
    · refine QTri.brT Ad W (t := 64) (f := 33) (L := [some (.ref 1), none, some (.int x2), some (.int x3), some (.int v)]) (S := []) (σ := (H1 s o e0)) rfl (XT.ii_ge_t hc298) ?_
      refine QTri.steps Ad W 1 (st' := (65, [some (.ref 1), none, some (.int x2), some (.int x3), some (.int v)], [.int (-1 : Int32)], (H1 s o e0))) rfl ?_
      obtain rfl := Option.some.inj h
      obtain ⟨rfl, rfl⟩ := hx0 (-1 : Int32) rfl
      exact QTri.retI rfl rfl
  · refine QTri.brT Ad W (t := 64) (f := 26) (L := [some (.ref 1), none, some (.int x2), some (.int x3), some (.int v)]) (S := []) (σ := (H1 s o e0)) rfl (XT.ii_ge_t hc297) ?_
    refine QTri.steps Ad W 1 (st' := (65, [some (.ref 1), none, some (.int x2), some (.int x3), some (.int v)], [.int (-1 : Int32)], (H1 s o e0))) rfl ?_
    obtain rfl := Option.some.inj h
    obtain ⟨rfl, rfl⟩ := hx0 (-1 : Int32) rfl
    exact QTri.retI rfl rfl
theorem tF24a1 (Ad : QAd n0 ad) (W : QW Z a0) (s : List Int32) (e0 : Ob) (o : Ob) (x1 : Int32) {r : Int32} (h : F24 o x1 = some r) : QTri l Z n0 ad 24 (0, qentry [.ref 1, .int x1] (pMaxL 24), [], (H1 s o e0)) (some (Value.int r)) (H1 s o e0) := by
  unfold F24 at h
  refine QTri.steps Ad W 3 (st' := (5, [some (.ref 1), some (.int x1), none, none, none], [.int x1, .ref 6], (H1 s o e0))) rfl ?_
  obtain ⟨y295, hy295, h⟩ := Option.bind_eq_some_iff.mp h
  refine QTri.bnd Ad W (f := fun y295 => (6, [some (.ref 1), some (.int x1), none, none, none], [.int y295], (H1 s o e0))) rfl hy295 ?_
  refine QTri.steps Ad W 4 (st' := (12, [some (.ref 1), some (.int x1), some (.int y295), none, none], [.int x1, .ref 5], (H1 s o e0))) rfl ?_
  obtain ⟨y296, hy296, h⟩ := Option.bind_eq_some_iff.mp h
  refine QTri.bnd Ad W (f := fun y296 => (13, [some (.ref 1), some (.int x1), some (.int y295), none, none], [.int y296], (H1 s o e0))) rfl hy296 ?_
  refine QTri.steps Ad W 3 (st' := (17, [some (.ref 1), some (.int x1), some (.int y295), some (.int y296), some (.int (0 : Int32))], [], (H1 s o e0))) rfl ?_
  obtain ⟨e303, he303, h⟩ := Option.bind_eq_some_iff.mp h
  refine QTri.mask [true, false, true, true, true] (loopN_tri (B := B24_17 o y295 y296) (T := fun lv304 => QTri l Z n0 ad 24 (17, [some (.ref 1), none, some (.int y295), some (.int y296), some (.int lv304)], [], (H1 s o e0)) (some (Value.int r)) (H1 s o e0)) (KE := fun e303a => (some (Value.int r)) = (some (Value.int e303a)) ∧ (H1 s o e0) = (H1 s o e0)) (fun lv304 r hB hE hC => tB24_17a1 Ad W s e0 o y295 y296 lv304 hB (fun x q => hE _ q) (fun x q => hC x q)) qN (0 : Int32) e303 he303 ?_)
  obtain rfl := Option.some.inj h
  exact ⟨rfl, rfl⟩
theorem tJ25_79a1 (Ad : QAd n0 ad) (W : QW Z a0) (s : List Int32) (e0 : Ob) (o : Ob) (x1 : Int32) (x2 : Int32) (x3 : Int32) (x4 : Int32) {r : ((Ob)) ⊕ (Int32 × Ob)} {u : Option Value} {τ : QHeap} (h : J25_79 o x1 x2 x3 x4 = some r) (hx0 : ∀ x : Ob, r = .inl x → QTri l Z n0 ad 25 (85, [some (.ref 1), some (.int x1), some (.int x2), none, none], [], (H1 s x e0)) u τ) (hc : ∀ x : Int32 × Ob, r = .inr x → QTri l Z n0 ad 25 (25, [some (.ref 1), some (.int x1), some (.int x2), some (.int x3), some (.int x.1)], [], (H1 s x.2 e0)) u τ) : QTri l Z n0 ad 25 (79, [some (.ref 1), some (.int x1), some (.int x2), some (.int x3), some (.int x4)], [], (H1 s o e0)) u τ := by
  unfold J25_79 at h
  refine QTri.steps Ad W 2 (st' := (25, [some (.ref 1), some (.int x1), some (.int x2), some (.int x3), some (.int (x4 + (1 : Int32)))], [], (H1 s o e0))) rfl ?_
  obtain rfl := Option.some.inj h
  exact QTri.mask [true, true, true, true, true] (hc ((x4 + (1 : Int32)), o) rfl)
theorem tB25_25a1 (Ad : QAd n0 ad) (W : QW Z a0) (s : List Int32) (e0 : Ob) (x1 : Int32) (x2 : Int32) (x3 : Int32) (v : Int32 × Ob) {r : ((Ob)) ⊕ (Int32 × Ob)} {u : Option Value} {τ : QHeap} (h : B25_25 x1 x2 x3 v = some r) (hx0 : ∀ x : Ob, r = .inl x → QTri l Z n0 ad 25 (85, [some (.ref 1), some (.int x1), some (.int x2), none, none], [], (H1 s x e0)) u τ) (hc : ∀ x : Int32 × Ob, r = .inr x → QTri l Z n0 ad 25 (25, [some (.ref 1), some (.int x1), some (.int x2), some (.int x3), some (.int x.1)], [], (H1 s x.2 e0)) u τ) : QTri l Z n0 ad 25 (25, [some (.ref 1), some (.int x1), some (.int x2), some (.int x3), some (.int v.1)], [], (H1 s v.2 e0)) u τ := by
  unfold B25_25 at h
  refine QTri.steps Ad W 3 (st' := (31, [some (.ref 1), some (.int x1), some (.int x2), some (.int x3), some (.int v.1)], [.int (f_keyCount v.2), .int v.1], (H1 s v.2 e0))) rfl ?_
  rcases qite h with ⟨hc309, h⟩ | ⟨hc309, h⟩
  · refine QTri.brF Ad W (t := 85) (f := 34) (L := [some (.ref 1), some (.int x1), some (.int x2), some (.int x3), some (.int v.1)]) (S := []) (σ := (H1 s v.2 e0)) rfl (XT.ii_ge_f hc309) ?_
    refine QTri.steps Ad W 2 (st' := (38, [some (.ref 1), some (.int x1), some (.int x2), some (.int x3), some (.int v.1)], [.int (32 : Int32), .int v.1], (H1 s v.2 e0))) rfl ?_
    rcases qite h with ⟨hc310, h⟩ | ⟨hc310, h⟩
    · refine QTri.brF Ad W (t := 85) (f := 41) (L := [some (.ref 1), some (.int x1), some (.int x2), some (.int x3), some (.int v.1)]) (S := []) (σ := (H1 s v.2 e0)) rfl (XT.ii_ge_f hc310) ?_
      refine QTri.steps Ad W 3 (st' := (45, [some (.ref 1), some (.int x1), some (.int x2), some (.int x3), some (.int v.1)], [.int v.1, .ref 1, .int x3], (H1 s v.2 e0))) rfl ?_
      obtain ⟨r311, hr311, h⟩ := Option.bind_eq_some_iff.mp h
      refine QTri.callP W (a := 1) (as := [.int v.1]) (rest := [.int x3]) (w := (some (.int r311))) (σ₁ := (H1 s v.2 e0)) rfl rfl rfl rfl rfl rfl rfl rfl (tF22 Ad W v.1 hr311) ?_
      refine QTri.steps Ad W 1 (st' := (49, [some (.ref 1), some (.int x1), some (.int x2), some (.int x3), some (.int v.1)], [.int (x3 &&& r311)], (H1 s v.2 e0))) rfl ?_
      rcases qite h with ⟨hc312, h⟩ | ⟨hc312, h⟩
      · refine QTri.brT Ad W (t := 79) (f := 52) (L := [some (.ref 1), some (.int x1), some (.int x2), some (.int x3), some (.int v.1)]) (S := []) (σ := (H1 s v.2 e0)) rfl (XT.i0_eq_t hc312) ?_
        exact QTri.mask [true, true, true, true, true] (tJ25_79a1 Ad W s e0 v.2 x1 x2 x3 v.1 h hx0 hc)
      · refine QTri.brF Ad W (t := 79) (f := 52) (L := [some (.ref 1), some (.int x1), some (.int x2), some (.int x3), some (.int v.1)]) (S := []) (σ := (H1 s v.2 e0)) rfl (XT.i0_eq_f hc312) ?_
        refine QTri.steps Ad W 8 (st' := (66, [some (.ref 1), some (.int x1), some (.int x2), some (.int x3), some (.int v.1)], [.int v.1, .int x1, .ref 1, .ref 8, .int v.1, .ref 2], (H1 s v.2 e0))) rfl ?_
        obtain ⟨r313, hr313, h⟩ := Option.bind_eq_some_iff.mp h
        refine QTri.callP W (a := 1) (as := [.int x1, .int v.1]) (rest := [.ref 8, .int v.1, .ref 2]) (w := (some (.int r313))) (σ₁ := (H1 s v.2 e0)) rfl rfl rfl rfl rfl rfl rfl rfl (tF28 Ad W x1 v.1 hr313) ?_
        obtain ⟨y314, hy314, h⟩ := Option.bind_eq_some_iff.mp h
        refine QTri.bnd Ad W (f := fun y314 => (70, [some (.ref 1), some (.int x1), some (.int x2), some (.int x3), some (.int v.1)], [.int y314, .int v.1, .ref 2], (H1 s v.2 e0))) rfl hy314 ?_
        obtain ⟨y315, hy315, h⟩ := Option.bind_eq_some_iff.mp h
        refine QTri.bnd Ad W (f := fun y315 => (71, [some (.ref 1), some (.int x1), some (.int x2), some (.int x3), some (.int v.1)], [], [.inr (.inl (.int, s)), .inl [.ref 2, .ref 3, .ref 4, .ref 5, .ref 6, .ref 7, .ref 8, .int (f_keyCount v.2), .int (f_slotCount v.2), .int (f_window v.2), .int (f_commitCount v.2), .int (f_abortCount v.2), .int (f_lastConflict v.2)], .inr (.inl (.int, y315)), .inr (.inl (.int, (f_version v.2))), .inr (.inl (.boolean, (f_active v.2))), .inr (.inl (.int, (f_start v.2))), .inr (.inl (.int, (f_readSet v.2))), .inr (.inl (.int, (f_writeSet v.2))), .inr (.inl (.int, (f_buffered v.2))), .inl [.ref 10, .ref 11, .ref 12, .ref 13, .ref 14, .ref 15, .ref 16, .int (f_keyCount e0), .int (f_slotCount e0), .int (f_window e0), .int (f_commitCount e0), .int (f_abortCount e0), .int (f_lastConflict e0)], .inr (.inl (.int, (f_value e0))), .inr (.inl (.int, (f_version e0))), .inr (.inl (.boolean, (f_active e0))), .inr (.inl (.int, (f_start e0))), .inr (.inl (.int, (f_readSet e0))), .inr (.inl (.int, (f_writeSet e0))), .inr (.inl (.int, (f_buffered e0)))])) rfl hy315 ?_
        refine QTri.steps Ad W 4 (st' := (78, [some (.ref 1), some (.int x1), some (.int x2), some (.int x3), some (.int v.1)], [.int x2, .int v.1, .ref 3], [.inr (.inl (.int, s)), .inl [.ref 2, .ref 3, .ref 4, .ref 5, .ref 6, .ref 7, .ref 8, .int (f_keyCount v.2), .int (f_slotCount v.2), .int (f_window v.2), .int (f_commitCount v.2), .int (f_abortCount v.2), .int (f_lastConflict v.2)], .inr (.inl (.int, y315)), .inr (.inl (.int, (f_version v.2))), .inr (.inl (.boolean, (f_active v.2))), .inr (.inl (.int, (f_start v.2))), .inr (.inl (.int, (f_readSet v.2))), .inr (.inl (.int, (f_writeSet v.2))), .inr (.inl (.int, (f_buffered v.2))), .inl [.ref 10, .ref 11, .ref 12, .ref 13, .ref 14, .ref 15, .ref 16, .int (f_keyCount e0), .int (f_slotCount e0), .int (f_window e0), .int (f_commitCount e0), .int (f_abortCount e0), .int (f_lastConflict e0)], .inr (.inl (.int, (f_value e0))), .inr (.inl (.int, (f_version e0))), .inr (.inl (.boolean, (f_active e0))), .inr (.inl (.int, (f_start e0))), .inr (.inl (.int, (f_readSet e0))), .inr (.inl (.int, (f_writeSet e0))), .inr (.inl (.int, (f_buffered e0)))])) rfl ?_
        obtain ⟨y316, hy316, h⟩ := Option.bind_eq_some_iff.mp h
        refine QTri.bnd Ad W (f := fun y316 => (79, [some (.ref 1), some (.int x1), some (.int x2), some (.int x3), some (.int v.1)], [], [.inr (.inl (.int, s)), .inl [.ref 2, .ref 3, .ref 4, .ref 5, .ref 6, .ref 7, .ref 8, .int (f_keyCount v.2), .int (f_slotCount v.2), .int (f_window v.2), .int (f_commitCount v.2), .int (f_abortCount v.2), .int (f_lastConflict v.2)], .inr (.inl (.int, y315)), .inr (.inl (.int, y316)), .inr (.inl (.boolean, (f_active v.2))), .inr (.inl (.int, (f_start v.2))), .inr (.inl (.int, (f_readSet v.2))), .inr (.inl (.int, (f_writeSet v.2))), .inr (.inl (.int, (f_buffered v.2))), .inl [.ref 10, .ref 11, .ref 12, .ref 13, .ref 14, .ref 15, .ref 16, .int (f_keyCount e0), .int (f_slotCount e0), .int (f_window e0), .int (f_commitCount e0), .int (f_abortCount e0), .int (f_lastConflict e0)], .inr (.inl (.int, (f_value e0))), .inr (.inl (.int, (f_version e0))), .inr (.inl (.boolean, (f_active e0))), .inr (.inl (.int, (f_start e0))), .inr (.inl (.int, (f_readSet e0))), .inr (.inl (.int, (f_writeSet e0))), .inr (.inl (.int, (f_buffered e0)))])) rfl hy316 ?_
        have E317 : ([.inr (.inl (.int, s)), .inl [.ref 2, .ref 3, .ref 4, .ref 5, .ref 6, .ref 7, .ref 8, .int (f_keyCount v.2), .int (f_slotCount v.2), .int (f_window v.2), .int (f_commitCount v.2), .int (f_abortCount v.2), .int (f_lastConflict v.2)], .inr (.inl (.int, y315)), .inr (.inl (.int, y316)), .inr (.inl (.boolean, (f_active v.2))), .inr (.inl (.int, (f_start v.2))), .inr (.inl (.int, (f_readSet v.2))), .inr (.inl (.int, (f_writeSet v.2))), .inr (.inl (.int, (f_buffered v.2))), .inl [.ref 10, .ref 11, .ref 12, .ref 13, .ref 14, .ref 15, .ref 16, .int (f_keyCount e0), .int (f_slotCount e0), .int (f_window e0), .int (f_commitCount e0), .int (f_abortCount e0), .int (f_lastConflict e0)], .inr (.inl (.int, (f_value e0))), .inr (.inl (.int, (f_version e0))), .inr (.inl (.boolean, (f_active e0))), .inr (.inl (.int, (f_start e0))), .inr (.inl (.int, (f_readSet e0))), .inr (.inl (.int, (f_writeSet e0))), .inr (.inl (.int, (f_buffered e0)))] : QHeap) = (H1 s (s_version (s_value v.2 y315) y316) e0) := by dsimp only [H0, H1, f_value, f_version, f_active, f_start, f_readSet, f_writeSet, f_buffered, f_keyCount, f_slotCount, f_window, f_commitCount, f_abortCount, f_lastConflict, s_value, s_version]
        rw [E317]
        exact QTri.mask [true, true, true, true, true] (tJ25_79a1 Ad W s e0 (s_version (s_value v.2 y315) y316) x1 x2 x3 v.1 h hx0 hc)
    · refine QTri.brT Ad W (t := 85) (f := 41) (L := [some (.ref 1), some (.int x1), some (.int x2), some (.int x3), some (.int v.1)]) (S := []) (σ := (H1 s v.2 e0)) rfl (XT.ii_ge_t hc310) ?_
      obtain rfl := Option.some.inj h
      exact QTri.mask [true, true, true, false, false] (hx0 v.2 rfl)
  · refine QTri.brT Ad W (t := 85) (f := 34) (L := [some (.ref 1), some (.int x1), some (.int x2), some (.int x3), some (.int v.1)]) (S := []) (σ := (H1 s v.2 e0)) rfl (XT.ii_ge_t hc309) ?_
    obtain rfl := Option.some.inj h
    exact QTri.mask [true, true, true, false, false] (hx0 v.2 rfl)
theorem tF26a1 (Ad : QAd n0 ad) (W : QW Z a0) (s : List Int32) (e0 : Ob) (o : Ob) (x1 : Int32) {r : Ob} (h : F26 o x1 = some r) : QTri l Z n0 ad 26 (0, qentry [.ref 1, .int x1] (pMaxL 26), [], (H1 s o e0)) (none : Option Value) (H1 s r e0) := by
  unfold F26 at h
  refine QTri.steps Ad W 2 (st' := (2, [some (.ref 1), some (.int x1)], [.int x1, .ref 1], (H1 s o e0))) rfl ?_
  obtain ⟨r320, hr320, h⟩ := Option.bind_eq_some_iff.mp h
  refine QTri.callP W (a := 1) (as := [.int x1]) (rest := []) (w := none) (σ₁ := (H1 s r320 e0)) rfl rfl rfl rfl rfl rfl rfl rfl (tF21 Ad W s e0 o x1 hr320) ?_
  obtain rfl := Option.some.inj h
  exact QTri.ret0 rfl rfl
theorem tJ25_85a1 (Ad : QAd n0 ad) (W : QW Z a0) (s : List Int32) (e0 : Ob) (o : Ob) (x1 : Int32) (x2 : Int32) {r : Int32 × Ob} (h : J25_85 o x1 x2 = some r) : QTri l Z n0 ad 25 (85, [some (.ref 1), some (.int x1), some (.int x2), none, none], [], (H1 s o e0)) (some (Value.int r.1)) (H1 s r.2 e0) := by
  unfold J25_85 at h
  refine QTri.steps Ad W 2 (st' := (87, [some (.ref 1), some (.int x1), some (.int x2), none, none], [.int x1, .ref 1], (H1 s o e0))) rfl ?_
  obtain ⟨r321, hr321, h⟩ := Option.bind_eq_some_iff.mp h
  refine QTri.callP W (a := 1) (as := [.int x1]) (rest := []) (w := none) (σ₁ := (H1 s r321 e0)) rfl rfl rfl rfl rfl rfl rfl rfl (tF26a1 Ad W s e0 o x1 hr321) ?_
  refine QTri.steps Ad W 3 (st' := (95, [some (.ref 1), some (.int x1), some (.int x2), none, none], [], [.inr (.inl (.int, s)), .inl [.ref 2, .ref 3, .ref 4, .ref 5, .ref 6, .ref 7, .ref 8, .int (f_keyCount r321), .int (f_slotCount r321), .int (f_window r321), .int (f_commitCount r321), .int (f_abortCount r321), .int (-1 : Int32)], .inr (.inl (.int, (f_value r321))), .inr (.inl (.int, (f_version r321))), .inr (.inl (.boolean, (f_active r321))), .inr (.inl (.int, (f_start r321))), .inr (.inl (.int, (f_readSet r321))), .inr (.inl (.int, (f_writeSet r321))), .inr (.inl (.int, (f_buffered r321))), .inl [.ref 10, .ref 11, .ref 12, .ref 13, .ref 14, .ref 15, .ref 16, .int (f_keyCount e0), .int (f_slotCount e0), .int (f_window e0), .int (f_commitCount e0), .int (f_abortCount e0), .int (f_lastConflict e0)], .inr (.inl (.int, (f_value e0))), .inr (.inl (.int, (f_version e0))), .inr (.inl (.boolean, (f_active e0))), .inr (.inl (.int, (f_start e0))), .inr (.inl (.int, (f_readSet e0))), .inr (.inl (.int, (f_writeSet e0))), .inr (.inl (.int, (f_buffered e0)))])) rfl ?_
  refine QTri.steps Ad W 1 (st' := (96, [some (.ref 1), some (.int x1), some (.int x2), none, none], [.int x2], [.inr (.inl (.int, s)), .inl [.ref 2, .ref 3, .ref 4, .ref 5, .ref 6, .ref 7, .ref 8, .int (f_keyCount r321), .int (f_slotCount r321), .int (f_window r321), .int (f_commitCount r321), .int (f_abortCount r321), .int (-1 : Int32)], .inr (.inl (.int, (f_value r321))), .inr (.inl (.int, (f_version r321))), .inr (.inl (.boolean, (f_active r321))), .inr (.inl (.int, (f_start r321))), .inr (.inl (.int, (f_readSet r321))), .inr (.inl (.int, (f_writeSet r321))), .inr (.inl (.int, (f_buffered r321))), .inl [.ref 10, .ref 11, .ref 12, .ref 13, .ref 14, .ref 15, .ref 16, .int (f_keyCount e0), .int (f_slotCount e0), .int (f_window e0), .int (f_commitCount e0), .int (f_abortCount e0), .int (f_lastConflict e0)], .inr (.inl (.int, (f_value e0))), .inr (.inl (.int, (f_version e0))), .inr (.inl (.boolean, (f_active e0))), .inr (.inl (.int, (f_start e0))), .inr (.inl (.int, (f_readSet e0))), .inr (.inl (.int, (f_writeSet e0))), .inr (.inl (.int, (f_buffered e0)))])) rfl ?_
  have E322 : ([.inr (.inl (.int, s)), .inl [.ref 2, .ref 3, .ref 4, .ref 5, .ref 6, .ref 7, .ref 8, .int (f_keyCount r321), .int (f_slotCount r321), .int (f_window r321), .int (f_commitCount r321), .int (f_abortCount r321), .int (-1 : Int32)], .inr (.inl (.int, (f_value r321))), .inr (.inl (.int, (f_version r321))), .inr (.inl (.boolean, (f_active r321))), .inr (.inl (.int, (f_start r321))), .inr (.inl (.int, (f_readSet r321))), .inr (.inl (.int, (f_writeSet r321))), .inr (.inl (.int, (f_buffered r321))), .inl [.ref 10, .ref 11, .ref 12, .ref 13, .ref 14, .ref 15, .ref 16, .int (f_keyCount e0), .int (f_slotCount e0), .int (f_window e0), .int (f_commitCount e0), .int (f_abortCount e0), .int (f_lastConflict e0)], .inr (.inl (.int, (f_value e0))), .inr (.inl (.int, (f_version e0))), .inr (.inl (.boolean, (f_active e0))), .inr (.inl (.int, (f_start e0))), .inr (.inl (.int, (f_readSet e0))), .inr (.inl (.int, (f_writeSet e0))), .inr (.inl (.int, (f_buffered e0)))] : QHeap) = (H1 s (s_lastConflict r321 (-1 : Int32)) e0) := by dsimp only [H0, H1, f_value, f_version, f_active, f_start, f_readSet, f_writeSet, f_buffered, f_keyCount, f_slotCount, f_window, f_commitCount, f_abortCount, f_lastConflict, s_lastConflict]
  rw [E322]
  obtain rfl := Option.some.inj h
  exact QTri.retI rfl rfl
theorem tF25a1 (Ad : QAd n0 ad) (W : QW Z a0) (s : List Int32) (e0 : Ob) (o : Ob) (x1 : Int32) {r : Int32 × Ob} (h : F25 o x1 = some r) : QTri l Z n0 ad 25 (0, qentry [.ref 1, .int x1] (pMaxL 25), [], (H1 s o e0)) (some (Value.int r.1)) (H1 s r.2 e0) := by
  unfold F25 at h
  refine QTri.steps Ad W 6 (st' := (10, [some (.ref 1), some (.int x1), none, none, none], [], [.inr (.inl (.int, s)), .inl [.ref 2, .ref 3, .ref 4, .ref 5, .ref 6, .ref 7, .ref 8, .int (f_keyCount o), .int (f_slotCount o), .int (f_window o), .int ((f_commitCount o) + (1 : Int32)), .int (f_abortCount o), .int (f_lastConflict o)], .inr (.inl (.int, (f_value o))), .inr (.inl (.int, (f_version o))), .inr (.inl (.boolean, (f_active o))), .inr (.inl (.int, (f_start o))), .inr (.inl (.int, (f_readSet o))), .inr (.inl (.int, (f_writeSet o))), .inr (.inl (.int, (f_buffered o))), .inl [.ref 10, .ref 11, .ref 12, .ref 13, .ref 14, .ref 15, .ref 16, .int (f_keyCount e0), .int (f_slotCount e0), .int (f_window e0), .int (f_commitCount e0), .int (f_abortCount e0), .int (f_lastConflict e0)], .inr (.inl (.int, (f_value e0))), .inr (.inl (.int, (f_version e0))), .inr (.inl (.boolean, (f_active e0))), .inr (.inl (.int, (f_start e0))), .inr (.inl (.int, (f_readSet e0))), .inr (.inl (.int, (f_writeSet e0))), .inr (.inl (.int, (f_buffered e0)))])) rfl ?_
  refine QTri.steps Ad W 6 (st' := (20, [some (.ref 1), some (.int x1), some (.int ((f_commitCount o) + (1 : Int32))), none, none], [.int x1, .ref 7], [.inr (.inl (.int, s)), .inl [.ref 2, .ref 3, .ref 4, .ref 5, .ref 6, .ref 7, .ref 8, .int (f_keyCount o), .int (f_slotCount o), .int (f_window o), .int ((f_commitCount o) + (1 : Int32)), .int (f_abortCount o), .int (f_lastConflict o)], .inr (.inl (.int, (f_value o))), .inr (.inl (.int, (f_version o))), .inr (.inl (.boolean, (f_active o))), .inr (.inl (.int, (f_start o))), .inr (.inl (.int, (f_readSet o))), .inr (.inl (.int, (f_writeSet o))), .inr (.inl (.int, (f_buffered o))), .inl [.ref 10, .ref 11, .ref 12, .ref 13, .ref 14, .ref 15, .ref 16, .int (f_keyCount e0), .int (f_slotCount e0), .int (f_window e0), .int (f_commitCount e0), .int (f_abortCount e0), .int (f_lastConflict e0)], .inr (.inl (.int, (f_value e0))), .inr (.inl (.int, (f_version e0))), .inr (.inl (.boolean, (f_active e0))), .inr (.inl (.int, (f_start e0))), .inr (.inl (.int, (f_readSet e0))), .inr (.inl (.int, (f_writeSet e0))), .inr (.inl (.int, (f_buffered e0)))])) rfl ?_
  obtain ⟨y307, hy307, h⟩ := Option.bind_eq_some_iff.mp h
  refine QTri.bnd Ad W (f := fun y307 => (21, [some (.ref 1), some (.int x1), some (.int ((f_commitCount o) + (1 : Int32))), none, none], [.int y307], [.inr (.inl (.int, s)), .inl [.ref 2, .ref 3, .ref 4, .ref 5, .ref 6, .ref 7, .ref 8, .int (f_keyCount o), .int (f_slotCount o), .int (f_window o), .int ((f_commitCount o) + (1 : Int32)), .int (f_abortCount o), .int (f_lastConflict o)], .inr (.inl (.int, (f_value o))), .inr (.inl (.int, (f_version o))), .inr (.inl (.boolean, (f_active o))), .inr (.inl (.int, (f_start o))), .inr (.inl (.int, (f_readSet o))), .inr (.inl (.int, (f_writeSet o))), .inr (.inl (.int, (f_buffered o))), .inl [.ref 10, .ref 11, .ref 12, .ref 13, .ref 14, .ref 15, .ref 16, .int (f_keyCount e0), .int (f_slotCount e0), .int (f_window e0), .int (f_commitCount e0), .int (f_abortCount e0), .int (f_lastConflict e0)], .inr (.inl (.int, (f_value e0))), .inr (.inl (.int, (f_version e0))), .inr (.inl (.boolean, (f_active e0))), .inr (.inl (.int, (f_start e0))), .inr (.inl (.int, (f_readSet e0))), .inr (.inl (.int, (f_writeSet e0))), .inr (.inl (.int, (f_buffered e0)))])) rfl hy307 ?_
  refine QTri.steps Ad W 3 (st' := (25, [some (.ref 1), some (.int x1), some (.int ((f_commitCount o) + (1 : Int32))), some (.int y307), some (.int (0 : Int32))], [], [.inr (.inl (.int, s)), .inl [.ref 2, .ref 3, .ref 4, .ref 5, .ref 6, .ref 7, .ref 8, .int (f_keyCount o), .int (f_slotCount o), .int (f_window o), .int ((f_commitCount o) + (1 : Int32)), .int (f_abortCount o), .int (f_lastConflict o)], .inr (.inl (.int, (f_value o))), .inr (.inl (.int, (f_version o))), .inr (.inl (.boolean, (f_active o))), .inr (.inl (.int, (f_start o))), .inr (.inl (.int, (f_readSet o))), .inr (.inl (.int, (f_writeSet o))), .inr (.inl (.int, (f_buffered o))), .inl [.ref 10, .ref 11, .ref 12, .ref 13, .ref 14, .ref 15, .ref 16, .int (f_keyCount e0), .int (f_slotCount e0), .int (f_window e0), .int (f_commitCount e0), .int (f_abortCount e0), .int (f_lastConflict e0)], .inr (.inl (.int, (f_value e0))), .inr (.inl (.int, (f_version e0))), .inr (.inl (.boolean, (f_active e0))), .inr (.inl (.int, (f_start e0))), .inr (.inl (.int, (f_readSet e0))), .inr (.inl (.int, (f_writeSet e0))), .inr (.inl (.int, (f_buffered e0)))])) rfl ?_
  have E308 : ([.inr (.inl (.int, s)), .inl [.ref 2, .ref 3, .ref 4, .ref 5, .ref 6, .ref 7, .ref 8, .int (f_keyCount o), .int (f_slotCount o), .int (f_window o), .int ((f_commitCount o) + (1 : Int32)), .int (f_abortCount o), .int (f_lastConflict o)], .inr (.inl (.int, (f_value o))), .inr (.inl (.int, (f_version o))), .inr (.inl (.boolean, (f_active o))), .inr (.inl (.int, (f_start o))), .inr (.inl (.int, (f_readSet o))), .inr (.inl (.int, (f_writeSet o))), .inr (.inl (.int, (f_buffered o))), .inl [.ref 10, .ref 11, .ref 12, .ref 13, .ref 14, .ref 15, .ref 16, .int (f_keyCount e0), .int (f_slotCount e0), .int (f_window e0), .int (f_commitCount e0), .int (f_abortCount e0), .int (f_lastConflict e0)], .inr (.inl (.int, (f_value e0))), .inr (.inl (.int, (f_version e0))), .inr (.inl (.boolean, (f_active e0))), .inr (.inl (.int, (f_start e0))), .inr (.inl (.int, (f_readSet e0))), .inr (.inl (.int, (f_writeSet e0))), .inr (.inl (.int, (f_buffered e0)))] : QHeap) = (H1 s (s_commitCount o ((f_commitCount o) + (1 : Int32))) e0) := by dsimp only [H0, H1, f_value, f_version, f_active, f_start, f_readSet, f_writeSet, f_buffered, f_keyCount, f_slotCount, f_window, f_commitCount, f_abortCount, f_lastConflict, s_commitCount]
  rw [E308]
  obtain ⟨e318, he318, h⟩ := Option.bind_eq_some_iff.mp h
  refine QTri.mask [true, true, true, true, true] (loopN_tri (B := B25_25 x1 ((f_commitCount o) + (1 : Int32)) y307) (T := fun lv319 => QTri l Z n0 ad 25 (25, [some (.ref 1), some (.int x1), some (.int ((f_commitCount o) + (1 : Int32))), some (.int y307), some (.int lv319.1)], [], (H1 s lv319.2 e0)) (some (Value.int r.1)) (H1 s r.2 e0)) (KE := fun e318a => QTri l Z n0 ad 25 (85, [some (.ref 1), some (.int x1), some (.int ((f_commitCount o) + (1 : Int32))), none, none], [], (H1 s e318a e0)) (some (Value.int r.1)) (H1 s r.2 e0)) (fun lv319 r hB hE hC => tB25_25a1 Ad W s e0 x1 ((f_commitCount o) + (1 : Int32)) y307 lv319 hB (fun x q => hE _ q) (fun x q => hC x q)) qN ((0 : Int32), (s_commitCount o ((f_commitCount o) + (1 : Int32)))) e318 he318 ?_)
  exact QTri.mask [true, true, true, false, false] (tJ25_85a1 Ad W s e0 e318 x1 ((f_commitCount o) + (1 : Int32)) h)
theorem tF30a1 (Ad : QAd n0 ad) (W : QW Z a0) (s : List Int32) (e0 : Ob) (o : Ob) (x1 : Int32) (x2 : Int32) (x3 : Int32) {r : Int32 × Ob} (h : F30 o x1 x2 x3 = some r) : QTri l Z n0 ad 30 (0, qentry [.ref 1, .int x1, .int x2, .int x3] (pMaxL 30), [], (H1 s o e0)) (some (Value.int r.1)) (H1 s r.2 e0) := by
  unfold F30 at h
  refine QTri.steps Ad W 2 (st' := (2, [some (.ref 1), some (.int x1), some (.int x2), some (.int x3)], [.int x1, .ref 1], (H1 s o e0))) rfl ?_
  obtain ⟨r324, hr324, h⟩ := Option.bind_eq_some_iff.mp h
  refine QTri.callP W (a := 1) (as := [.int x1]) (rest := []) (w := none) (σ₁ := (H1 s r324 e0)) rfl rfl rfl rfl rfl rfl rfl rfl (tF26a1 Ad W s e0 o x1 hr324) ?_
  refine QTri.steps Ad W 6 (st' := (15, [some (.ref 1), some (.int x1), some (.int x2), some (.int x3)], [], [.inr (.inl (.int, s)), .inl [.ref 2, .ref 3, .ref 4, .ref 5, .ref 6, .ref 7, .ref 8, .int (f_keyCount r324), .int (f_slotCount r324), .int (f_window r324), .int (f_commitCount r324), .int ((f_abortCount r324) + (1 : Int32)), .int (f_lastConflict r324)], .inr (.inl (.int, (f_value r324))), .inr (.inl (.int, (f_version r324))), .inr (.inl (.boolean, (f_active r324))), .inr (.inl (.int, (f_start r324))), .inr (.inl (.int, (f_readSet r324))), .inr (.inl (.int, (f_writeSet r324))), .inr (.inl (.int, (f_buffered r324))), .inl [.ref 10, .ref 11, .ref 12, .ref 13, .ref 14, .ref 15, .ref 16, .int (f_keyCount e0), .int (f_slotCount e0), .int (f_window e0), .int (f_commitCount e0), .int (f_abortCount e0), .int (f_lastConflict e0)], .inr (.inl (.int, (f_value e0))), .inr (.inl (.int, (f_version e0))), .inr (.inl (.boolean, (f_active e0))), .inr (.inl (.int, (f_start e0))), .inr (.inl (.int, (f_readSet e0))), .inr (.inl (.int, (f_writeSet e0))), .inr (.inl (.int, (f_buffered e0)))])) rfl ?_
  refine QTri.steps Ad W 3 (st' := (20, [some (.ref 1), some (.int x1), some (.int x2), some (.int x3)], [], [.inr (.inl (.int, s)), .inl [.ref 2, .ref 3, .ref 4, .ref 5, .ref 6, .ref 7, .ref 8, .int (f_keyCount r324), .int (f_slotCount r324), .int (f_window r324), .int (f_commitCount r324), .int ((f_abortCount r324) + (1 : Int32)), .int x2], .inr (.inl (.int, (f_value r324))), .inr (.inl (.int, (f_version r324))), .inr (.inl (.boolean, (f_active r324))), .inr (.inl (.int, (f_start r324))), .inr (.inl (.int, (f_readSet r324))), .inr (.inl (.int, (f_writeSet r324))), .inr (.inl (.int, (f_buffered r324))), .inl [.ref 10, .ref 11, .ref 12, .ref 13, .ref 14, .ref 15, .ref 16, .int (f_keyCount e0), .int (f_slotCount e0), .int (f_window e0), .int (f_commitCount e0), .int (f_abortCount e0), .int (f_lastConflict e0)], .inr (.inl (.int, (f_value e0))), .inr (.inl (.int, (f_version e0))), .inr (.inl (.boolean, (f_active e0))), .inr (.inl (.int, (f_start e0))), .inr (.inl (.int, (f_readSet e0))), .inr (.inl (.int, (f_writeSet e0))), .inr (.inl (.int, (f_buffered e0)))])) rfl ?_
  refine QTri.steps Ad W 1 (st' := (21, [some (.ref 1), some (.int x1), some (.int x2), some (.int x3)], [.int x3], [.inr (.inl (.int, s)), .inl [.ref 2, .ref 3, .ref 4, .ref 5, .ref 6, .ref 7, .ref 8, .int (f_keyCount r324), .int (f_slotCount r324), .int (f_window r324), .int (f_commitCount r324), .int ((f_abortCount r324) + (1 : Int32)), .int x2], .inr (.inl (.int, (f_value r324))), .inr (.inl (.int, (f_version r324))), .inr (.inl (.boolean, (f_active r324))), .inr (.inl (.int, (f_start r324))), .inr (.inl (.int, (f_readSet r324))), .inr (.inl (.int, (f_writeSet r324))), .inr (.inl (.int, (f_buffered r324))), .inl [.ref 10, .ref 11, .ref 12, .ref 13, .ref 14, .ref 15, .ref 16, .int (f_keyCount e0), .int (f_slotCount e0), .int (f_window e0), .int (f_commitCount e0), .int (f_abortCount e0), .int (f_lastConflict e0)], .inr (.inl (.int, (f_value e0))), .inr (.inl (.int, (f_version e0))), .inr (.inl (.boolean, (f_active e0))), .inr (.inl (.int, (f_start e0))), .inr (.inl (.int, (f_readSet e0))), .inr (.inl (.int, (f_writeSet e0))), .inr (.inl (.int, (f_buffered e0)))])) rfl ?_
  have E325 : ([.inr (.inl (.int, s)), .inl [.ref 2, .ref 3, .ref 4, .ref 5, .ref 6, .ref 7, .ref 8, .int (f_keyCount r324), .int (f_slotCount r324), .int (f_window r324), .int (f_commitCount r324), .int ((f_abortCount r324) + (1 : Int32)), .int x2], .inr (.inl (.int, (f_value r324))), .inr (.inl (.int, (f_version r324))), .inr (.inl (.boolean, (f_active r324))), .inr (.inl (.int, (f_start r324))), .inr (.inl (.int, (f_readSet r324))), .inr (.inl (.int, (f_writeSet r324))), .inr (.inl (.int, (f_buffered r324))), .inl [.ref 10, .ref 11, .ref 12, .ref 13, .ref 14, .ref 15, .ref 16, .int (f_keyCount e0), .int (f_slotCount e0), .int (f_window e0), .int (f_commitCount e0), .int (f_abortCount e0), .int (f_lastConflict e0)], .inr (.inl (.int, (f_value e0))), .inr (.inl (.int, (f_version e0))), .inr (.inl (.boolean, (f_active e0))), .inr (.inl (.int, (f_start e0))), .inr (.inl (.int, (f_readSet e0))), .inr (.inl (.int, (f_writeSet e0))), .inr (.inl (.int, (f_buffered e0)))] : QHeap) = (H1 s (s_lastConflict (s_abortCount r324 ((f_abortCount r324) + (1 : Int32))) x2) e0) := by dsimp only [H0, H1, f_value, f_version, f_active, f_start, f_readSet, f_writeSet, f_buffered, f_keyCount, f_slotCount, f_window, f_commitCount, f_abortCount, f_lastConflict, s_abortCount, s_lastConflict]
  rw [E325]
  obtain rfl := Option.some.inj h
  exact QTri.retI rfl rfl
theorem tF5a1 (Ad : QAd n0 ad) (W : QW Z a0) (s : List Int32) (e0 : Ob) (o : Ob) (x1 : Int32) {r : Int32 × Ob} (h : F5 o x1 = some r) : QTri l Z n0 ad 5 (0, qentry [.ref 1, .int x1] (pMaxL 5), [], (H1 s o e0)) (some (Value.int r.1)) (H1 s r.2 e0) := by
  unfold F5 at h
  refine QTri.steps Ad W 2 (st' := (2, [some (.ref 1), some (.int x1), none], [.int x1, .ref 1], (H1 s o e0))) rfl ?_
  obtain ⟨r289, hr289, h⟩ := Option.bind_eq_some_iff.mp h
  refine QTri.callP W (a := 1) (as := [.int x1]) (rest := []) (w := (some (.int r289))) (σ₁ := (H1 s o e0)) rfl rfl rfl rfl rfl rfl rfl rfl (tF4 Ad W s e0 o x1 hr289) ?_
  rcases qite h with ⟨hc290, h⟩ | ⟨hc290, h⟩
  · refine QTri.brF Ad W (t := 10) (f := 8) (L := [some (.ref 1), some (.int x1), none]) (S := []) (σ := (H1 s o e0)) rfl (XT.i0_ne_f hc290) ?_
    refine QTri.steps Ad W 1 (st' := (9, [some (.ref 1), some (.int x1), none], [.int (-1 : Int32)], (H1 s o e0))) rfl ?_
    obtain rfl := Option.some.inj h
    exact QTri.retI rfl rfl
  · refine QTri.brT Ad W (t := 10) (f := 8) (L := [some (.ref 1), some (.int x1), none]) (S := []) (σ := (H1 s o e0)) rfl (XT.i0_ne_t hc290) ?_
    refine QTri.steps Ad W 2 (st' := (12, [some (.ref 1), some (.int x1), none], [.int x1, .ref 1], (H1 s o e0))) rfl ?_
    obtain ⟨r293, hr293, h⟩ := Option.bind_eq_some_iff.mp h
    refine QTri.callP W (a := 1) (as := [.int x1]) (rest := []) (w := (some (.int r293))) (σ₁ := (H1 s o e0)) rfl rfl rfl rfl rfl rfl rfl rfl (tF23a1 Ad W s e0 o x1 hr293) ?_
    rcases qite h with ⟨hc294, h⟩ | ⟨hc294, h⟩
    · refine QTri.brT Ad W (t := 27) (f := 18) (L := [some (.ref 1), some (.int x1), none]) (S := []) (σ := (H1 s o e0)) rfl (XT.i0_eq_t hc294) ?_
      refine QTri.steps Ad W 2 (st' := (29, [some (.ref 1), some (.int x1), none], [.int x1, .ref 1], (H1 s o e0))) rfl ?_
      obtain ⟨r305, hr305, h⟩ := Option.bind_eq_some_iff.mp h
      refine QTri.callP W (a := 1) (as := [.int x1]) (rest := []) (w := (some (.int r305))) (σ₁ := (H1 s o e0)) rfl rfl rfl rfl rfl rfl rfl rfl (tF24a1 Ad W s e0 o x1 hr305) ?_
      refine QTri.steps Ad W 2 (st' := (34, [some (.ref 1), some (.int x1), some (.int r305)], [.int r305], (H1 s o e0))) rfl ?_
      rcases qite h with ⟨hc306, h⟩ | ⟨hc306, h⟩
      · refine QTri.brT Ad W (t := 46) (f := 37) (L := [some (.ref 1), some (.int x1), some (.int r305)]) (S := []) (σ := (H1 s o e0)) rfl (XT.i0_lt_t hc306) ?_
        refine QTri.steps Ad W 2 (st' := (48, [some (.ref 1), some (.int x1), some (.int r305)], [.int x1, .ref 1], (H1 s o e0))) rfl ?_
        obtain ⟨r323, hr323, h⟩ := Option.bind_eq_some_iff.mp h
        refine QTri.callP W (a := 1) (as := [.int x1]) (rest := []) (w := (some (.int r323.1))) (σ₁ := (H1 s r323.2 e0)) rfl rfl rfl rfl rfl rfl rfl rfl (tF25a1 Ad W s e0 o x1 hr323) ?_
        obtain rfl := Option.some.inj h
        exact QTri.retI rfl rfl
      · refine QTri.brF Ad W (t := 46) (f := 37) (L := [some (.ref 1), some (.int x1), some (.int r305)]) (S := []) (σ := (H1 s o e0)) rfl (XT.i0_lt_f hc306) ?_
        refine QTri.steps Ad W 4 (st' := (42, [some (.ref 1), some (.int x1), some (.int r305)], [.int (-3 : Int32), .int r305, .int x1, .ref 1], (H1 s o e0))) rfl ?_
        obtain ⟨r326, hr326, h⟩ := Option.bind_eq_some_iff.mp h
        refine QTri.callP W (a := 1) (as := [.int x1, .int r305, .int (-3 : Int32)]) (rest := []) (w := (some (.int r326.1))) (σ₁ := (H1 s r326.2 e0)) rfl rfl rfl rfl rfl rfl rfl rfl (tF30a1 Ad W s e0 o x1 r305 (-3 : Int32) hr326) ?_
        obtain rfl := Option.some.inj h
        exact QTri.retI rfl rfl
    · refine QTri.brF Ad W (t := 27) (f := 18) (L := [some (.ref 1), some (.int x1), none]) (S := []) (σ := (H1 s o e0)) rfl (XT.i0_eq_f hc294) ?_
      refine QTri.steps Ad W 4 (st' := (23, [some (.ref 1), some (.int x1), none], [.int (-4 : Int32), .int (-1 : Int32), .int x1, .ref 1], (H1 s o e0))) rfl ?_
      obtain ⟨r327, hr327, h⟩ := Option.bind_eq_some_iff.mp h
      refine QTri.callP W (a := 1) (as := [.int x1, .int (-1 : Int32), .int (-4 : Int32)]) (rest := []) (w := (some (.int r327.1))) (σ₁ := (H1 s r327.2 e0)) rfl rfl rfl rfl rfl rfl rfl rfl (tF30a1 Ad W s e0 o x1 (-1 : Int32) (-4 : Int32) hr327) ?_
      obtain rfl := Option.some.inj h
      exact QTri.retI rfl rfl
theorem tF29a1 (Ad : QAd n0 ad) (W : QW Z a0) (s : List Int32) (e0 : Ob) (o : Ob) (x1 : Int32) {r : Int32 × Ob} (h : F29 o x1 = some r) : QTri l Z n0 ad 29 (0, qentry [.ref 1, .int x1] (pMaxL 29), [], (H1 s o e0)) (some (Value.int r.1)) (H1 s r.2 e0) := by
  unfold F29 at h
  refine QTri.steps Ad W 2 (st' := (2, [some (.ref 1), some (.int x1)], [.int x1, .ref 1], (H1 s o e0))) rfl ?_
  obtain ⟨r329, hr329, h⟩ := Option.bind_eq_some_iff.mp h
  refine QTri.callP W (a := 1) (as := [.int x1]) (rest := []) (w := (some (.int r329))) (σ₁ := (H1 s o e0)) rfl rfl rfl rfl rfl rfl rfl rfl (tF4 Ad W s e0 o x1 hr329) ?_
  rcases qite h with ⟨hc330, h⟩ | ⟨hc330, h⟩
  · refine QTri.brF Ad W (t := 10) (f := 8) (L := [some (.ref 1), some (.int x1)]) (S := []) (σ := (H1 s o e0)) rfl (XT.i0_ne_f hc330) ?_
    refine QTri.steps Ad W 1 (st' := (9, [some (.ref 1), some (.int x1)], [.int (-1 : Int32)], (H1 s o e0))) rfl ?_
    obtain rfl := Option.some.inj h
    exact QTri.retI rfl rfl
  · refine QTri.brT Ad W (t := 10) (f := 8) (L := [some (.ref 1), some (.int x1)]) (S := []) (σ := (H1 s o e0)) rfl (XT.i0_ne_t hc330) ?_
    refine QTri.steps Ad W 2 (st' := (12, [some (.ref 1), some (.int x1)], [.int x1, .ref 1], (H1 s o e0))) rfl ?_
    obtain ⟨r331, hr331, h⟩ := Option.bind_eq_some_iff.mp h
    refine QTri.callP W (a := 1) (as := [.int x1]) (rest := []) (w := none) (σ₁ := (H1 s r331 e0)) rfl rfl rfl rfl rfl rfl rfl rfl (tF26a1 Ad W s e0 o x1 hr331) ?_
    refine QTri.steps Ad W 6 (st' := (25, [some (.ref 1), some (.int x1)], [], [.inr (.inl (.int, s)), .inl [.ref 2, .ref 3, .ref 4, .ref 5, .ref 6, .ref 7, .ref 8, .int (f_keyCount r331), .int (f_slotCount r331), .int (f_window r331), .int (f_commitCount r331), .int ((f_abortCount r331) + (1 : Int32)), .int (f_lastConflict r331)], .inr (.inl (.int, (f_value r331))), .inr (.inl (.int, (f_version r331))), .inr (.inl (.boolean, (f_active r331))), .inr (.inl (.int, (f_start r331))), .inr (.inl (.int, (f_readSet r331))), .inr (.inl (.int, (f_writeSet r331))), .inr (.inl (.int, (f_buffered r331))), .inl [.ref 10, .ref 11, .ref 12, .ref 13, .ref 14, .ref 15, .ref 16, .int (f_keyCount e0), .int (f_slotCount e0), .int (f_window e0), .int (f_commitCount e0), .int (f_abortCount e0), .int (f_lastConflict e0)], .inr (.inl (.int, (f_value e0))), .inr (.inl (.int, (f_version e0))), .inr (.inl (.boolean, (f_active e0))), .inr (.inl (.int, (f_start e0))), .inr (.inl (.int, (f_readSet e0))), .inr (.inl (.int, (f_writeSet e0))), .inr (.inl (.int, (f_buffered e0)))])) rfl ?_
    refine QTri.steps Ad W 1 (st' := (26, [some (.ref 1), some (.int x1)], [.int (0 : Int32)], [.inr (.inl (.int, s)), .inl [.ref 2, .ref 3, .ref 4, .ref 5, .ref 6, .ref 7, .ref 8, .int (f_keyCount r331), .int (f_slotCount r331), .int (f_window r331), .int (f_commitCount r331), .int ((f_abortCount r331) + (1 : Int32)), .int (f_lastConflict r331)], .inr (.inl (.int, (f_value r331))), .inr (.inl (.int, (f_version r331))), .inr (.inl (.boolean, (f_active r331))), .inr (.inl (.int, (f_start r331))), .inr (.inl (.int, (f_readSet r331))), .inr (.inl (.int, (f_writeSet r331))), .inr (.inl (.int, (f_buffered r331))), .inl [.ref 10, .ref 11, .ref 12, .ref 13, .ref 14, .ref 15, .ref 16, .int (f_keyCount e0), .int (f_slotCount e0), .int (f_window e0), .int (f_commitCount e0), .int (f_abortCount e0), .int (f_lastConflict e0)], .inr (.inl (.int, (f_value e0))), .inr (.inl (.int, (f_version e0))), .inr (.inl (.boolean, (f_active e0))), .inr (.inl (.int, (f_start e0))), .inr (.inl (.int, (f_readSet e0))), .inr (.inl (.int, (f_writeSet e0))), .inr (.inl (.int, (f_buffered e0)))])) rfl ?_
    have E332 : ([.inr (.inl (.int, s)), .inl [.ref 2, .ref 3, .ref 4, .ref 5, .ref 6, .ref 7, .ref 8, .int (f_keyCount r331), .int (f_slotCount r331), .int (f_window r331), .int (f_commitCount r331), .int ((f_abortCount r331) + (1 : Int32)), .int (f_lastConflict r331)], .inr (.inl (.int, (f_value r331))), .inr (.inl (.int, (f_version r331))), .inr (.inl (.boolean, (f_active r331))), .inr (.inl (.int, (f_start r331))), .inr (.inl (.int, (f_readSet r331))), .inr (.inl (.int, (f_writeSet r331))), .inr (.inl (.int, (f_buffered r331))), .inl [.ref 10, .ref 11, .ref 12, .ref 13, .ref 14, .ref 15, .ref 16, .int (f_keyCount e0), .int (f_slotCount e0), .int (f_window e0), .int (f_commitCount e0), .int (f_abortCount e0), .int (f_lastConflict e0)], .inr (.inl (.int, (f_value e0))), .inr (.inl (.int, (f_version e0))), .inr (.inl (.boolean, (f_active e0))), .inr (.inl (.int, (f_start e0))), .inr (.inl (.int, (f_readSet e0))), .inr (.inl (.int, (f_writeSet e0))), .inr (.inl (.int, (f_buffered e0)))] : QHeap) = (H1 s (s_abortCount r331 ((f_abortCount r331) + (1 : Int32))) e0) := by dsimp only [H0, H1, f_value, f_version, f_active, f_start, f_readSet, f_writeSet, f_buffered, f_keyCount, f_slotCount, f_window, f_commitCount, f_abortCount, f_lastConflict, s_abortCount]
    rw [E332]
    obtain rfl := Option.some.inj h
    exact QTri.retI rfl rfl
def B0_26 (s : List Int32) (v : Int32 × Ob × Ob) : Option (((Int32 × QHeap)) ⊕ (Int32 × Ob × Ob)) :=
  (if (v.1 + (3 : Int32)) < (s.length.toInt32) then (aget s v.1).bind fun y14 => (aget s (v.1 + (1 : Int32))).bind fun y16 => (aget s (v.1 + (2 : Int32))).bind fun y17 => (aget s (v.1 + (3 : Int32))).bind fun y18 => (F3 v.2.1 y16).bind fun r24 => (if ((y14 &&& (2147483647 : Int32)) % (5 : Int32)) = (0 : Int32) then (F18 v.2.1).bind fun r55 => (J0_192 s r55.2 v.2.2 v.1 ((y14 &&& (2147483647 : Int32)) % (5 : Int32)) y16 y17 y18 (if r55.1 = (-5 : Int32) then (1 : Int32) else (0 : Int32)) r55.1) else (if ((y14 &&& (2147483647 : Int32)) % (5 : Int32)) = (1 : Int32) then (F17 v.2.1 y16 y17).bind fun r275 => (J0_192 s r275.2 v.2.2 v.1 ((y14 &&& (2147483647 : Int32)) % (5 : Int32)) y16 y17 y18 (if r24 = (0 : Int32) then (1 : Int32) else (if (2 : Int32) < ((y14 &&& (2147483647 : Int32)) % (5 : Int32)) then (0 : Int32) else (if y17 < (0 : Int32) then (1 : Int32) else (if y17 < (8 : Int32) then (0 : Int32) else (1 : Int32))))) r275.1) else (if ((y14 &&& (2147483647 : Int32)) % (5 : Int32)) = (2 : Int32) then (F27 v.2.1 y16 y17 y18).bind fun r287 => (J0_192 s r287.2 v.2.2 v.1 ((y14 &&& (2147483647 : Int32)) % (5 : Int32)) y16 y17 y18 (if r24 = (0 : Int32) then (1 : Int32) else (if (2 : Int32) < ((y14 &&& (2147483647 : Int32)) % (5 : Int32)) then (0 : Int32) else (if y17 < (0 : Int32) then (1 : Int32) else (if y17 < (8 : Int32) then (0 : Int32) else (1 : Int32))))) r287.1) else (if ((y14 &&& (2147483647 : Int32)) % (5 : Int32)) = (3 : Int32) then (F5 v.2.1 y16).bind fun r328 => (J0_192 s r328.2 v.2.2 v.1 ((y14 &&& (2147483647 : Int32)) % (5 : Int32)) y16 y17 y18 (if r24 = (0 : Int32) then (1 : Int32) else (if (2 : Int32) < ((y14 &&& (2147483647 : Int32)) % (5 : Int32)) then (0 : Int32) else (if y17 < (0 : Int32) then (1 : Int32) else (if y17 < (8 : Int32) then (0 : Int32) else (1 : Int32))))) r328.1) else (F29 v.2.1 y16).bind fun r333 => (J0_192 s r333.2 v.2.2 v.1 ((y14 &&& (2147483647 : Int32)) % (5 : Int32)) y16 y17 y18 (if r24 = (0 : Int32) then (1 : Int32) else (if (2 : Int32) < ((y14 &&& (2147483647 : Int32)) % (5 : Int32)) then (0 : Int32) else (if y17 < (0 : Int32) then (1 : Int32) else (if y17 < (8 : Int32) then (0 : Int32) else (1 : Int32))))) r333.1))))) else some (.inl ((1 : Int32), (H1 s v.2.1 v.2.2))))
theorem tB0_26 (Ad : QAd n0 ad) (W : QW Z a0) (s : List Int32) (v : Int32 × Ob × Ob) {r : ((Int32 × QHeap)) ⊕ (Int32 × Ob × Ob)} {u : Option Value} {τ : QHeap} (h : B0_26 s v = some r) (hx0 : ∀ x : Int32 × QHeap, r = .inl x → u = (some (Value.int x.1)) ∧ τ = x.2) (hc : ∀ x : Int32 × Ob × Ob, r = .inr x → QTri l Z n0 ad 0 (26, [some (.ref 0), some (.ref 1), some (.ref 9), some (.int x.1), none, none, none, none, none, none, none], [], (H1 s x.2.1 x.2.2)) u τ) : QTri l Z n0 ad 0 (26, [some (.ref 0), some (.ref 1), some (.ref 9), some (.int v.1), none, none, none, none, none, none, none], [], (H1 s v.2.1 v.2.2)) u τ := by
  unfold B0_26 at h
  refine QTri.steps Ad W 5 (st' := (31, [some (.ref 0), some (.ref 1), some (.ref 9), some (.int v.1), none, none, none, none, none, none, none], [.int (s.length.toInt32), .int (v.1 + (3 : Int32))], (H1 s v.2.1 v.2.2))) rfl ?_
  rcases qite h with ⟨hc13, h⟩ | ⟨hc13, h⟩
  · refine QTri.brF Ad W (t := 311) (f := 34) (L := [some (.ref 0), some (.ref 1), some (.ref 9), some (.int v.1), none, none, none, none, none, none, none]) (S := []) (σ := (H1 s v.2.1 v.2.2)) rfl (XT.ii_ge_f hc13) ?_
    refine QTri.steps Ad W 2 (st' := (36, [some (.ref 0), some (.ref 1), some (.ref 9), some (.int v.1), none, none, none, none, none, none, none], [.int v.1, .ref 0], (H1 s v.2.1 v.2.2))) rfl ?_
    obtain ⟨y14, hy14, h⟩ := Option.bind_eq_some_iff.mp h
    refine QTri.bnd Ad W (f := fun y14 => (37, [some (.ref 0), some (.ref 1), some (.ref 9), some (.int v.1), none, none, none, none, none, none, none], [.int y14], (H1 s v.2.1 v.2.2))) rfl hy14 ?_
    refine QTri.steps Ad W 9 (st' := (48, [some (.ref 0), some (.ref 1), some (.ref 9), some (.int v.1), some (.int ((y14 &&& (2147483647 : Int32)) % (5 : Int32))), none, none, none, none, none, none], [.int (v.1 + (1 : Int32)), .ref 0], (H1 s v.2.1 v.2.2))) rfl ?_
    obtain ⟨y16, hy16, h⟩ := Option.bind_eq_some_iff.mp h
    refine QTri.bnd Ad W (f := fun y16 => (49, [some (.ref 0), some (.ref 1), some (.ref 9), some (.int v.1), some (.int ((y14 &&& (2147483647 : Int32)) % (5 : Int32))), none, none, none, none, none, none], [.int y16], (H1 s v.2.1 v.2.2))) rfl hy16 ?_
    refine QTri.steps Ad W 5 (st' := (55, [some (.ref 0), some (.ref 1), some (.ref 9), some (.int v.1), some (.int ((y14 &&& (2147483647 : Int32)) % (5 : Int32))), some (.int y16), none, none, none, none, none], [.int (v.1 + (2 : Int32)), .ref 0], (H1 s v.2.1 v.2.2))) rfl ?_
    obtain ⟨y17, hy17, h⟩ := Option.bind_eq_some_iff.mp h
    refine QTri.bnd Ad W (f := fun y17 => (56, [some (.ref 0), some (.ref 1), some (.ref 9), some (.int v.1), some (.int ((y14 &&& (2147483647 : Int32)) % (5 : Int32))), some (.int y16), none, none, none, none, none], [.int y17], (H1 s v.2.1 v.2.2))) rfl hy17 ?_
    refine QTri.steps Ad W 5 (st' := (62, [some (.ref 0), some (.ref 1), some (.ref 9), some (.int v.1), some (.int ((y14 &&& (2147483647 : Int32)) % (5 : Int32))), some (.int y16), some (.int y17), none, none, none, none], [.int (v.1 + (3 : Int32)), .ref 0], (H1 s v.2.1 v.2.2))) rfl ?_
    obtain ⟨y18, hy18, h⟩ := Option.bind_eq_some_iff.mp h
    refine QTri.bnd Ad W (f := fun y18 => (63, [some (.ref 0), some (.ref 1), some (.ref 9), some (.int v.1), some (.int ((y14 &&& (2147483647 : Int32)) % (5 : Int32))), some (.int y16), some (.int y17), none, none, none, none], [.int y18], (H1 s v.2.1 v.2.2))) rfl hy18 ?_
    refine QTri.steps Ad W 3 (st' := (68, [some (.ref 0), some (.ref 1), some (.ref 9), some (.int v.1), some (.int ((y14 &&& (2147483647 : Int32)) % (5 : Int32))), some (.int y16), some (.int y17), some (.int y18), none, none, none], [.int y16, .ref 1], (H1 s v.2.1 v.2.2))) rfl ?_
    obtain ⟨r24, hr24, h⟩ := Option.bind_eq_some_iff.mp h
    refine QTri.callV W (a := 1) (as := [.int y16]) (rest := []) (w := (some (.int r24))) (σ₁ := (H1 s v.2.1 v.2.2)) rfl rfl rfl rfl rfl rfl rfl rfl (tF3 Ad W s v.2.2 v.2.1 y16 hr24) ?_
    have K26 : ∀ z25 : Int32, z25 = (if r24 = (0 : Int32) then (1 : Int32) else (if (2 : Int32) < ((y14 &&& (2147483647 : Int32)) % (5 : Int32)) then (0 : Int32) else (if y17 < (0 : Int32) then (1 : Int32) else (if y17 < (8 : Int32) then (0 : Int32) else (1 : Int32))))) → QTri l Z n0 ad 0 (97, [some (.ref 0), some (.ref 1), some (.ref 9), some (.int v.1), some (.int ((y14 &&& (2147483647 : Int32)) % (5 : Int32))), some (.int y16), some (.int y17), some (.int y18), none, none, none], [.int z25], (H1 s v.2.1 v.2.2)) u τ := by
      intro z25 ez25
      subst ez25
      refine QTri.steps Ad W 2 (st' := (101, [some (.ref 0), some (.ref 1), some (.ref 9), some (.int v.1), some (.int ((y14 &&& (2147483647 : Int32)) % (5 : Int32))), some (.int y16), some (.int y17), some (.int y18), some (.int (if r24 = (0 : Int32) then (1 : Int32) else (if (2 : Int32) < ((y14 &&& (2147483647 : Int32)) % (5 : Int32)) then (0 : Int32) else (if y17 < (0 : Int32) then (1 : Int32) else (if y17 < (8 : Int32) then (0 : Int32) else (1 : Int32)))))), none, none], [.int ((y14 &&& (2147483647 : Int32)) % (5 : Int32))], (H1 s v.2.1 v.2.2))) rfl ?_
      rcases qite h with ⟨hc31, h⟩ | ⟨hc31, h⟩
      · refine QTri.brF Ad W (t := 127) (f := 104) (L := [some (.ref 0), some (.ref 1), some (.ref 9), some (.int v.1), some (.int ((y14 &&& (2147483647 : Int32)) % (5 : Int32))), some (.int y16), some (.int y17), some (.int y18), some (.int (if r24 = (0 : Int32) then (1 : Int32) else (if (2 : Int32) < ((y14 &&& (2147483647 : Int32)) % (5 : Int32)) then (0 : Int32) else (if y17 < (0 : Int32) then (1 : Int32) else (if y17 < (8 : Int32) then (0 : Int32) else (1 : Int32)))))), none, none]) (S := []) (σ := (H1 s v.2.1 v.2.2)) rfl (XT.i0_ne_f hc31) ?_
        refine QTri.steps Ad W 1 (st' := (105, [some (.ref 0), some (.ref 1), some (.ref 9), some (.int v.1), some (.int ((y14 &&& (2147483647 : Int32)) % (5 : Int32))), some (.int y16), some (.int y17), some (.int y18), some (.int (if r24 = (0 : Int32) then (1 : Int32) else (if (2 : Int32) < ((y14 &&& (2147483647 : Int32)) % (5 : Int32)) then (0 : Int32) else (if y17 < (0 : Int32) then (1 : Int32) else (if y17 < (8 : Int32) then (0 : Int32) else (1 : Int32)))))), none, none], [.ref 1], (H1 s v.2.1 v.2.2))) rfl ?_
        obtain ⟨r55, hr55, h⟩ := Option.bind_eq_some_iff.mp h
        refine QTri.callV W (a := 1) (as := []) (rest := []) (w := (some (.int r55.1))) (σ₁ := (H1 s r55.2 v.2.2)) rfl rfl rfl rfl rfl rfl rfl rfl (tF18 Ad W s v.2.2 v.2.1 hr55) ?_
        refine QTri.steps Ad W 3 (st' := (114, [some (.ref 0), some (.ref 1), some (.ref 9), some (.int v.1), some (.int ((y14 &&& (2147483647 : Int32)) % (5 : Int32))), some (.int y16), some (.int y17), some (.int y18), some (.int (if r24 = (0 : Int32) then (1 : Int32) else (if (2 : Int32) < ((y14 &&& (2147483647 : Int32)) % (5 : Int32)) then (0 : Int32) else (if y17 < (0 : Int32) then (1 : Int32) else (if y17 < (8 : Int32) then (0 : Int32) else (1 : Int32)))))), some (.int r55.1), none], [.int (-5 : Int32), .int r55.1], (H1 s r55.2 v.2.2))) rfl ?_
        have K57 : ∀ z56 : Int32, z56 = (if r55.1 = (-5 : Int32) then (1 : Int32) else (0 : Int32)) → QTri l Z n0 ad 0 (122, [some (.ref 0), some (.ref 1), some (.ref 9), some (.int v.1), some (.int ((y14 &&& (2147483647 : Int32)) % (5 : Int32))), some (.int y16), some (.int y17), some (.int y18), none, some (.int r55.1), none], [.int z56], (H1 s r55.2 v.2.2)) u τ := by
          intro z56 ez56
          subst ez56
          refine QTri.steps Ad W 2 (st' := (192, [some (.ref 0), some (.ref 1), some (.ref 9), some (.int v.1), some (.int ((y14 &&& (2147483647 : Int32)) % (5 : Int32))), some (.int y16), some (.int y17), some (.int y18), some (.int (if r55.1 = (-5 : Int32) then (1 : Int32) else (0 : Int32))), some (.int r55.1), none], [], (H1 s r55.2 v.2.2))) rfl ?_
          exact QTri.mask [true, true, true, true, true, true, true, true, true, true, false] (tJ0_192 Ad W s r55.2 v.2.2 v.1 ((y14 &&& (2147483647 : Int32)) % (5 : Int32)) y16 y17 y18 (if r55.1 = (-5 : Int32) then (1 : Int32) else (0 : Int32)) r55.1 h hx0 hc)
        rcases Classical.em (r55.1 = (-5 : Int32)) with hc58 | hc58
        · refine QTri.brF Ad W (t := 121) (f := 117) (L := [some (.ref 0), some (.ref 1), some (.ref 9), some (.int v.1), some (.int ((y14 &&& (2147483647 : Int32)) % (5 : Int32))), some (.int y16), some (.int y17), some (.int y18), some (.int (if r24 = (0 : Int32) then (1 : Int32) else (if (2 : Int32) < ((y14 &&& (2147483647 : Int32)) % (5 : Int32)) then (0 : Int32) else (if y17 < (0 : Int32) then (1 : Int32) else (if y17 < (8 : Int32) then (0 : Int32) else (1 : Int32)))))), some (.int r55.1), none]) (S := []) (σ := (H1 s r55.2 v.2.2)) rfl (XT.ii_ne_f hc58) ?_
          refine QTri.steps Ad W 2 (st' := (122, [some (.ref 0), some (.ref 1), some (.ref 9), some (.int v.1), some (.int ((y14 &&& (2147483647 : Int32)) % (5 : Int32))), some (.int y16), some (.int y17), some (.int y18), some (.int (if r24 = (0 : Int32) then (1 : Int32) else (if (2 : Int32) < ((y14 &&& (2147483647 : Int32)) % (5 : Int32)) then (0 : Int32) else (if y17 < (0 : Int32) then (1 : Int32) else (if y17 < (8 : Int32) then (0 : Int32) else (1 : Int32)))))), some (.int r55.1), none], [.int (1 : Int32)], (H1 s r55.2 v.2.2))) rfl ?_
          exact QTri.mask [true, true, true, true, true, true, true, true, false, true, false] (K57 _ (if_pos hc58).symm)
        · refine QTri.brT Ad W (t := 121) (f := 117) (L := [some (.ref 0), some (.ref 1), some (.ref 9), some (.int v.1), some (.int ((y14 &&& (2147483647 : Int32)) % (5 : Int32))), some (.int y16), some (.int y17), some (.int y18), some (.int (if r24 = (0 : Int32) then (1 : Int32) else (if (2 : Int32) < ((y14 &&& (2147483647 : Int32)) % (5 : Int32)) then (0 : Int32) else (if y17 < (0 : Int32) then (1 : Int32) else (if y17 < (8 : Int32) then (0 : Int32) else (1 : Int32)))))), some (.int r55.1), none]) (S := []) (σ := (H1 s r55.2 v.2.2)) rfl (XT.ii_ne_t hc58) ?_
          refine QTri.steps Ad W 1 (st' := (122, [some (.ref 0), some (.ref 1), some (.ref 9), some (.int v.1), some (.int ((y14 &&& (2147483647 : Int32)) % (5 : Int32))), some (.int y16), some (.int y17), some (.int y18), some (.int (if r24 = (0 : Int32) then (1 : Int32) else (if (2 : Int32) < ((y14 &&& (2147483647 : Int32)) % (5 : Int32)) then (0 : Int32) else (if y17 < (0 : Int32) then (1 : Int32) else (if y17 < (8 : Int32) then (0 : Int32) else (1 : Int32)))))), some (.int r55.1), none], [.int (0 : Int32)], (H1 s r55.2 v.2.2))) rfl ?_
          exact QTri.mask [true, true, true, true, true, true, true, true, false, true, false] (K57 _ (if_neg hc58).symm)
      · refine QTri.brT Ad W (t := 127) (f := 104) (L := [some (.ref 0), some (.ref 1), some (.ref 9), some (.int v.1), some (.int ((y14 &&& (2147483647 : Int32)) % (5 : Int32))), some (.int y16), some (.int y17), some (.int y18), some (.int (if r24 = (0 : Int32) then (1 : Int32) else (if (2 : Int32) < ((y14 &&& (2147483647 : Int32)) % (5 : Int32)) then (0 : Int32) else (if y17 < (0 : Int32) then (1 : Int32) else (if y17 < (8 : Int32) then (0 : Int32) else (1 : Int32)))))), none, none]) (S := []) (σ := (H1 s v.2.1 v.2.2)) rfl (XT.i0_ne_t hc31) ?_
        refine QTri.steps Ad W 2 (st' := (130, [some (.ref 0), some (.ref 1), some (.ref 9), some (.int v.1), some (.int ((y14 &&& (2147483647 : Int32)) % (5 : Int32))), some (.int y16), some (.int y17), some (.int y18), some (.int (if r24 = (0 : Int32) then (1 : Int32) else (if (2 : Int32) < ((y14 &&& (2147483647 : Int32)) % (5 : Int32)) then (0 : Int32) else (if y17 < (0 : Int32) then (1 : Int32) else (if y17 < (8 : Int32) then (0 : Int32) else (1 : Int32)))))), none, none], [.int (1 : Int32), .int ((y14 &&& (2147483647 : Int32)) % (5 : Int32))], (H1 s v.2.1 v.2.2))) rfl ?_
        rcases qite h with ⟨hc261, h⟩ | ⟨hc261, h⟩
        · refine QTri.brF Ad W (t := 146) (f := 133) (L := [some (.ref 0), some (.ref 1), some (.ref 9), some (.int v.1), some (.int ((y14 &&& (2147483647 : Int32)) % (5 : Int32))), some (.int y16), some (.int y17), some (.int y18), some (.int (if r24 = (0 : Int32) then (1 : Int32) else (if (2 : Int32) < ((y14 &&& (2147483647 : Int32)) % (5 : Int32)) then (0 : Int32) else (if y17 < (0 : Int32) then (1 : Int32) else (if y17 < (8 : Int32) then (0 : Int32) else (1 : Int32)))))), none, none]) (S := []) (σ := (H1 s v.2.1 v.2.2)) rfl (XT.ii_ne_f hc261) ?_
          refine QTri.steps Ad W 3 (st' := (138, [some (.ref 0), some (.ref 1), some (.ref 9), some (.int v.1), some (.int ((y14 &&& (2147483647 : Int32)) % (5 : Int32))), some (.int y16), some (.int y17), some (.int y18), some (.int (if r24 = (0 : Int32) then (1 : Int32) else (if (2 : Int32) < ((y14 &&& (2147483647 : Int32)) % (5 : Int32)) then (0 : Int32) else (if y17 < (0 : Int32) then (1 : Int32) else (if y17 < (8 : Int32) then (0 : Int32) else (1 : Int32)))))), none, none], [.int y17, .int y16, .ref 1], (H1 s v.2.1 v.2.2))) rfl ?_
          obtain ⟨r275, hr275, h⟩ := Option.bind_eq_some_iff.mp h
          refine QTri.callV W (a := 1) (as := [.int y16, .int y17]) (rest := []) (w := (some (.int r275.1))) (σ₁ := (H1 s r275.2 v.2.2)) rfl rfl rfl rfl rfl rfl rfl rfl (tF17a1 Ad W s v.2.2 v.2.1 y16 y17 hr275) ?_
          refine QTri.steps Ad W 2 (st' := (192, [some (.ref 0), some (.ref 1), some (.ref 9), some (.int v.1), some (.int ((y14 &&& (2147483647 : Int32)) % (5 : Int32))), some (.int y16), some (.int y17), some (.int y18), some (.int (if r24 = (0 : Int32) then (1 : Int32) else (if (2 : Int32) < ((y14 &&& (2147483647 : Int32)) % (5 : Int32)) then (0 : Int32) else (if y17 < (0 : Int32) then (1 : Int32) else (if y17 < (8 : Int32) then (0 : Int32) else (1 : Int32)))))), some (.int r275.1), none], [], (H1 s r275.2 v.2.2))) rfl ?_
          exact QTri.mask [true, true, true, true, true, true, true, true, true, true, false] (tJ0_192 Ad W s r275.2 v.2.2 v.1 ((y14 &&& (2147483647 : Int32)) % (5 : Int32)) y16 y17 y18 (if r24 = (0 : Int32) then (1 : Int32) else (if (2 : Int32) < ((y14 &&& (2147483647 : Int32)) % (5 : Int32)) then (0 : Int32) else (if y17 < (0 : Int32) then (1 : Int32) else (if y17 < (8 : Int32) then (0 : Int32) else (1 : Int32))))) r275.1 h hx0 hc)
        · refine QTri.brT Ad W (t := 146) (f := 133) (L := [some (.ref 0), some (.ref 1), some (.ref 9), some (.int v.1), some (.int ((y14 &&& (2147483647 : Int32)) % (5 : Int32))), some (.int y16), some (.int y17), some (.int y18), some (.int (if r24 = (0 : Int32) then (1 : Int32) else (if (2 : Int32) < ((y14 &&& (2147483647 : Int32)) % (5 : Int32)) then (0 : Int32) else (if y17 < (0 : Int32) then (1 : Int32) else (if y17 < (8 : Int32) then (0 : Int32) else (1 : Int32)))))), none, none]) (S := []) (σ := (H1 s v.2.1 v.2.2)) rfl (XT.ii_ne_t hc261) ?_
          refine QTri.steps Ad W 2 (st' := (149, [some (.ref 0), some (.ref 1), some (.ref 9), some (.int v.1), some (.int ((y14 &&& (2147483647 : Int32)) % (5 : Int32))), some (.int y16), some (.int y17), some (.int y18), some (.int (if r24 = (0 : Int32) then (1 : Int32) else (if (2 : Int32) < ((y14 &&& (2147483647 : Int32)) % (5 : Int32)) then (0 : Int32) else (if y17 < (0 : Int32) then (1 : Int32) else (if y17 < (8 : Int32) then (0 : Int32) else (1 : Int32)))))), none, none], [.int (2 : Int32), .int ((y14 &&& (2147483647 : Int32)) % (5 : Int32))], (H1 s v.2.1 v.2.2))) rfl ?_
          rcases qite h with ⟨hc276, h⟩ | ⟨hc276, h⟩
          · refine QTri.brF Ad W (t := 167) (f := 152) (L := [some (.ref 0), some (.ref 1), some (.ref 9), some (.int v.1), some (.int ((y14 &&& (2147483647 : Int32)) % (5 : Int32))), some (.int y16), some (.int y17), some (.int y18), some (.int (if r24 = (0 : Int32) then (1 : Int32) else (if (2 : Int32) < ((y14 &&& (2147483647 : Int32)) % (5 : Int32)) then (0 : Int32) else (if y17 < (0 : Int32) then (1 : Int32) else (if y17 < (8 : Int32) then (0 : Int32) else (1 : Int32)))))), none, none]) (S := []) (σ := (H1 s v.2.1 v.2.2)) rfl (XT.ii_ne_f hc276) ?_
            refine QTri.steps Ad W 4 (st' := (159, [some (.ref 0), some (.ref 1), some (.ref 9), some (.int v.1), some (.int ((y14 &&& (2147483647 : Int32)) % (5 : Int32))), some (.int y16), some (.int y17), some (.int y18), some (.int (if r24 = (0 : Int32) then (1 : Int32) else (if (2 : Int32) < ((y14 &&& (2147483647 : Int32)) % (5 : Int32)) then (0 : Int32) else (if y17 < (0 : Int32) then (1 : Int32) else (if y17 < (8 : Int32) then (0 : Int32) else (1 : Int32)))))), none, none], [.int y18, .int y17, .int y16, .ref 1], (H1 s v.2.1 v.2.2))) rfl ?_
            obtain ⟨r287, hr287, h⟩ := Option.bind_eq_some_iff.mp h
            refine QTri.callV W (a := 1) (as := [.int y16, .int y17, .int y18]) (rest := []) (w := (some (.int r287.1))) (σ₁ := (H1 s r287.2 v.2.2)) rfl rfl rfl rfl rfl rfl rfl rfl (tF27a1 Ad W s v.2.2 v.2.1 y16 y17 y18 hr287) ?_
            refine QTri.steps Ad W 2 (st' := (192, [some (.ref 0), some (.ref 1), some (.ref 9), some (.int v.1), some (.int ((y14 &&& (2147483647 : Int32)) % (5 : Int32))), some (.int y16), some (.int y17), some (.int y18), some (.int (if r24 = (0 : Int32) then (1 : Int32) else (if (2 : Int32) < ((y14 &&& (2147483647 : Int32)) % (5 : Int32)) then (0 : Int32) else (if y17 < (0 : Int32) then (1 : Int32) else (if y17 < (8 : Int32) then (0 : Int32) else (1 : Int32)))))), some (.int r287.1), none], [], (H1 s r287.2 v.2.2))) rfl ?_
            exact QTri.mask [true, true, true, true, true, true, true, true, true, true, false] (tJ0_192 Ad W s r287.2 v.2.2 v.1 ((y14 &&& (2147483647 : Int32)) % (5 : Int32)) y16 y17 y18 (if r24 = (0 : Int32) then (1 : Int32) else (if (2 : Int32) < ((y14 &&& (2147483647 : Int32)) % (5 : Int32)) then (0 : Int32) else (if y17 < (0 : Int32) then (1 : Int32) else (if y17 < (8 : Int32) then (0 : Int32) else (1 : Int32))))) r287.1 h hx0 hc)
          · refine QTri.brT Ad W (t := 167) (f := 152) (L := [some (.ref 0), some (.ref 1), some (.ref 9), some (.int v.1), some (.int ((y14 &&& (2147483647 : Int32)) % (5 : Int32))), some (.int y16), some (.int y17), some (.int y18), some (.int (if r24 = (0 : Int32) then (1 : Int32) else (if (2 : Int32) < ((y14 &&& (2147483647 : Int32)) % (5 : Int32)) then (0 : Int32) else (if y17 < (0 : Int32) then (1 : Int32) else (if y17 < (8 : Int32) then (0 : Int32) else (1 : Int32)))))), none, none]) (S := []) (σ := (H1 s v.2.1 v.2.2)) rfl (XT.ii_ne_t hc276) ?_
            refine QTri.steps Ad W 2 (st' := (170, [some (.ref 0), some (.ref 1), some (.ref 9), some (.int v.1), some (.int ((y14 &&& (2147483647 : Int32)) % (5 : Int32))), some (.int y16), some (.int y17), some (.int y18), some (.int (if r24 = (0 : Int32) then (1 : Int32) else (if (2 : Int32) < ((y14 &&& (2147483647 : Int32)) % (5 : Int32)) then (0 : Int32) else (if y17 < (0 : Int32) then (1 : Int32) else (if y17 < (8 : Int32) then (0 : Int32) else (1 : Int32)))))), none, none], [.int (3 : Int32), .int ((y14 &&& (2147483647 : Int32)) % (5 : Int32))], (H1 s v.2.1 v.2.2))) rfl ?_
            rcases qite h with ⟨hc288, h⟩ | ⟨hc288, h⟩
            · refine QTri.brF Ad W (t := 184) (f := 173) (L := [some (.ref 0), some (.ref 1), some (.ref 9), some (.int v.1), some (.int ((y14 &&& (2147483647 : Int32)) % (5 : Int32))), some (.int y16), some (.int y17), some (.int y18), some (.int (if r24 = (0 : Int32) then (1 : Int32) else (if (2 : Int32) < ((y14 &&& (2147483647 : Int32)) % (5 : Int32)) then (0 : Int32) else (if y17 < (0 : Int32) then (1 : Int32) else (if y17 < (8 : Int32) then (0 : Int32) else (1 : Int32)))))), none, none]) (S := []) (σ := (H1 s v.2.1 v.2.2)) rfl (XT.ii_ne_f hc288) ?_
              refine QTri.steps Ad W 2 (st' := (176, [some (.ref 0), some (.ref 1), some (.ref 9), some (.int v.1), some (.int ((y14 &&& (2147483647 : Int32)) % (5 : Int32))), some (.int y16), some (.int y17), some (.int y18), some (.int (if r24 = (0 : Int32) then (1 : Int32) else (if (2 : Int32) < ((y14 &&& (2147483647 : Int32)) % (5 : Int32)) then (0 : Int32) else (if y17 < (0 : Int32) then (1 : Int32) else (if y17 < (8 : Int32) then (0 : Int32) else (1 : Int32)))))), none, none], [.int y16, .ref 1], (H1 s v.2.1 v.2.2))) rfl ?_
              obtain ⟨r328, hr328, h⟩ := Option.bind_eq_some_iff.mp h
              refine QTri.callV W (a := 1) (as := [.int y16]) (rest := []) (w := (some (.int r328.1))) (σ₁ := (H1 s r328.2 v.2.2)) rfl rfl rfl rfl rfl rfl rfl rfl (tF5a1 Ad W s v.2.2 v.2.1 y16 hr328) ?_
              refine QTri.steps Ad W 2 (st' := (192, [some (.ref 0), some (.ref 1), some (.ref 9), some (.int v.1), some (.int ((y14 &&& (2147483647 : Int32)) % (5 : Int32))), some (.int y16), some (.int y17), some (.int y18), some (.int (if r24 = (0 : Int32) then (1 : Int32) else (if (2 : Int32) < ((y14 &&& (2147483647 : Int32)) % (5 : Int32)) then (0 : Int32) else (if y17 < (0 : Int32) then (1 : Int32) else (if y17 < (8 : Int32) then (0 : Int32) else (1 : Int32)))))), some (.int r328.1), none], [], (H1 s r328.2 v.2.2))) rfl ?_
              exact QTri.mask [true, true, true, true, true, true, true, true, true, true, false] (tJ0_192 Ad W s r328.2 v.2.2 v.1 ((y14 &&& (2147483647 : Int32)) % (5 : Int32)) y16 y17 y18 (if r24 = (0 : Int32) then (1 : Int32) else (if (2 : Int32) < ((y14 &&& (2147483647 : Int32)) % (5 : Int32)) then (0 : Int32) else (if y17 < (0 : Int32) then (1 : Int32) else (if y17 < (8 : Int32) then (0 : Int32) else (1 : Int32))))) r328.1 h hx0 hc)
            · refine QTri.brT Ad W (t := 184) (f := 173) (L := [some (.ref 0), some (.ref 1), some (.ref 9), some (.int v.1), some (.int ((y14 &&& (2147483647 : Int32)) % (5 : Int32))), some (.int y16), some (.int y17), some (.int y18), some (.int (if r24 = (0 : Int32) then (1 : Int32) else (if (2 : Int32) < ((y14 &&& (2147483647 : Int32)) % (5 : Int32)) then (0 : Int32) else (if y17 < (0 : Int32) then (1 : Int32) else (if y17 < (8 : Int32) then (0 : Int32) else (1 : Int32)))))), none, none]) (S := []) (σ := (H1 s v.2.1 v.2.2)) rfl (XT.ii_ne_t hc288) ?_
              refine QTri.steps Ad W 2 (st' := (187, [some (.ref 0), some (.ref 1), some (.ref 9), some (.int v.1), some (.int ((y14 &&& (2147483647 : Int32)) % (5 : Int32))), some (.int y16), some (.int y17), some (.int y18), some (.int (if r24 = (0 : Int32) then (1 : Int32) else (if (2 : Int32) < ((y14 &&& (2147483647 : Int32)) % (5 : Int32)) then (0 : Int32) else (if y17 < (0 : Int32) then (1 : Int32) else (if y17 < (8 : Int32) then (0 : Int32) else (1 : Int32)))))), none, none], [.int y16, .ref 1], (H1 s v.2.1 v.2.2))) rfl ?_
              obtain ⟨r333, hr333, h⟩ := Option.bind_eq_some_iff.mp h
              refine QTri.callV W (a := 1) (as := [.int y16]) (rest := []) (w := (some (.int r333.1))) (σ₁ := (H1 s r333.2 v.2.2)) rfl rfl rfl rfl rfl rfl rfl rfl (tF29a1 Ad W s v.2.2 v.2.1 y16 hr333) ?_
              refine QTri.steps Ad W 1 (st' := (192, [some (.ref 0), some (.ref 1), some (.ref 9), some (.int v.1), some (.int ((y14 &&& (2147483647 : Int32)) % (5 : Int32))), some (.int y16), some (.int y17), some (.int y18), some (.int (if r24 = (0 : Int32) then (1 : Int32) else (if (2 : Int32) < ((y14 &&& (2147483647 : Int32)) % (5 : Int32)) then (0 : Int32) else (if y17 < (0 : Int32) then (1 : Int32) else (if y17 < (8 : Int32) then (0 : Int32) else (1 : Int32)))))), some (.int r333.1), none], [], (H1 s r333.2 v.2.2))) rfl ?_
              exact QTri.mask [true, true, true, true, true, true, true, true, true, true, false] (tJ0_192 Ad W s r333.2 v.2.2 v.1 ((y14 &&& (2147483647 : Int32)) % (5 : Int32)) y16 y17 y18 (if r24 = (0 : Int32) then (1 : Int32) else (if (2 : Int32) < ((y14 &&& (2147483647 : Int32)) % (5 : Int32)) then (0 : Int32) else (if y17 < (0 : Int32) then (1 : Int32) else (if y17 < (8 : Int32) then (0 : Int32) else (1 : Int32))))) r333.1 h hx0 hc)
    rcases Classical.em (r24 = (0 : Int32)) with hc27 | hc27
    · refine QTri.brT Ad W (t := 92) (f := 74) (L := [some (.ref 0), some (.ref 1), some (.ref 9), some (.int v.1), some (.int ((y14 &&& (2147483647 : Int32)) % (5 : Int32))), some (.int y16), some (.int y17), some (.int y18), none, none, none]) (S := []) (σ := (H1 s v.2.1 v.2.2)) rfl (XT.i0_eq_t hc27) ?_
      refine QTri.steps Ad W 2 (st' := (97, [some (.ref 0), some (.ref 1), some (.ref 9), some (.int v.1), some (.int ((y14 &&& (2147483647 : Int32)) % (5 : Int32))), some (.int y16), some (.int y17), some (.int y18), none, none, none], [.int (1 : Int32)], (H1 s v.2.1 v.2.2))) rfl ?_
      exact QTri.mask [true, true, true, true, true, true, true, true, false, false, false] (K26 _ (if_pos hc27).symm)
    · refine QTri.brF Ad W (t := 92) (f := 74) (L := [some (.ref 0), some (.ref 1), some (.ref 9), some (.int v.1), some (.int ((y14 &&& (2147483647 : Int32)) % (5 : Int32))), some (.int y16), some (.int y17), some (.int y18), none, none, none]) (S := []) (σ := (H1 s v.2.1 v.2.2)) rfl (XT.i0_eq_f hc27) ?_
      refine QTri.steps Ad W 2 (st' := (77, [some (.ref 0), some (.ref 1), some (.ref 9), some (.int v.1), some (.int ((y14 &&& (2147483647 : Int32)) % (5 : Int32))), some (.int y16), some (.int y17), some (.int y18), none, none, none], [.int (2 : Int32), .int ((y14 &&& (2147483647 : Int32)) % (5 : Int32))], (H1 s v.2.1 v.2.2))) rfl ?_
      rcases Classical.em ((2 : Int32) < ((y14 &&& (2147483647 : Int32)) % (5 : Int32))) with hc28 | hc28
      · refine QTri.brT Ad W (t := 96) (f := 80) (L := [some (.ref 0), some (.ref 1), some (.ref 9), some (.int v.1), some (.int ((y14 &&& (2147483647 : Int32)) % (5 : Int32))), some (.int y16), some (.int y17), some (.int y18), none, none, none]) (S := []) (σ := (H1 s v.2.1 v.2.2)) rfl (XT.ii_gt_t hc28) ?_
        refine QTri.steps Ad W 1 (st' := (97, [some (.ref 0), some (.ref 1), some (.ref 9), some (.int v.1), some (.int ((y14 &&& (2147483647 : Int32)) % (5 : Int32))), some (.int y16), some (.int y17), some (.int y18), none, none, none], [.int (0 : Int32)], (H1 s v.2.1 v.2.2))) rfl ?_
        exact QTri.mask [true, true, true, true, true, true, true, true, false, false, false] (K26 _ ((if_neg hc27).trans (if_pos hc28)).symm)
      · refine QTri.brF Ad W (t := 96) (f := 80) (L := [some (.ref 0), some (.ref 1), some (.ref 9), some (.int v.1), some (.int ((y14 &&& (2147483647 : Int32)) % (5 : Int32))), some (.int y16), some (.int y17), some (.int y18), none, none, none]) (S := []) (σ := (H1 s v.2.1 v.2.2)) rfl (XT.ii_gt_f hc28) ?_
        refine QTri.steps Ad W 1 (st' := (82, [some (.ref 0), some (.ref 1), some (.ref 9), some (.int v.1), some (.int ((y14 &&& (2147483647 : Int32)) % (5 : Int32))), some (.int y16), some (.int y17), some (.int y18), none, none, none], [.int y17], (H1 s v.2.1 v.2.2))) rfl ?_
        rcases Classical.em (y17 < (0 : Int32)) with hc29 | hc29
        · refine QTri.brT Ad W (t := 92) (f := 85) (L := [some (.ref 0), some (.ref 1), some (.ref 9), some (.int v.1), some (.int ((y14 &&& (2147483647 : Int32)) % (5 : Int32))), some (.int y16), some (.int y17), some (.int y18), none, none, none]) (S := []) (σ := (H1 s v.2.1 v.2.2)) rfl (XT.i0_lt_t hc29) ?_
          refine QTri.steps Ad W 2 (st' := (97, [some (.ref 0), some (.ref 1), some (.ref 9), some (.int v.1), some (.int ((y14 &&& (2147483647 : Int32)) % (5 : Int32))), some (.int y16), some (.int y17), some (.int y18), none, none, none], [.int (1 : Int32)], (H1 s v.2.1 v.2.2))) rfl ?_
          exact QTri.mask [true, true, true, true, true, true, true, true, false, false, false] (K26 _ ((if_neg hc27).trans ((if_neg hc28).trans (if_pos hc29))).symm)
        · refine QTri.brF Ad W (t := 92) (f := 85) (L := [some (.ref 0), some (.ref 1), some (.ref 9), some (.int v.1), some (.int ((y14 &&& (2147483647 : Int32)) % (5 : Int32))), some (.int y16), some (.int y17), some (.int y18), none, none, none]) (S := []) (σ := (H1 s v.2.1 v.2.2)) rfl (XT.i0_lt_f hc29) ?_
          refine QTri.steps Ad W 2 (st' := (89, [some (.ref 0), some (.ref 1), some (.ref 9), some (.int v.1), some (.int ((y14 &&& (2147483647 : Int32)) % (5 : Int32))), some (.int y16), some (.int y17), some (.int y18), none, none, none], [.int (8 : Int32), .int y17], (H1 s v.2.1 v.2.2))) rfl ?_
          rcases Classical.em (y17 < (8 : Int32)) with hc30 | hc30
          · refine QTri.brT Ad W (t := 96) (f := 92) (L := [some (.ref 0), some (.ref 1), some (.ref 9), some (.int v.1), some (.int ((y14 &&& (2147483647 : Int32)) % (5 : Int32))), some (.int y16), some (.int y17), some (.int y18), none, none, none]) (S := []) (σ := (H1 s v.2.1 v.2.2)) rfl (XT.ii_lt_t hc30) ?_
            refine QTri.steps Ad W 1 (st' := (97, [some (.ref 0), some (.ref 1), some (.ref 9), some (.int v.1), some (.int ((y14 &&& (2147483647 : Int32)) % (5 : Int32))), some (.int y16), some (.int y17), some (.int y18), none, none, none], [.int (0 : Int32)], (H1 s v.2.1 v.2.2))) rfl ?_
            exact QTri.mask [true, true, true, true, true, true, true, true, false, false, false] (K26 _ ((if_neg hc27).trans ((if_neg hc28).trans ((if_neg hc29).trans (if_pos hc30)))).symm)
          · refine QTri.brF Ad W (t := 96) (f := 92) (L := [some (.ref 0), some (.ref 1), some (.ref 9), some (.int v.1), some (.int ((y14 &&& (2147483647 : Int32)) % (5 : Int32))), some (.int y16), some (.int y17), some (.int y18), none, none, none]) (S := []) (σ := (H1 s v.2.1 v.2.2)) rfl (XT.ii_lt_f hc30) ?_
            refine QTri.steps Ad W 2 (st' := (97, [some (.ref 0), some (.ref 1), some (.ref 9), some (.int v.1), some (.int ((y14 &&& (2147483647 : Int32)) % (5 : Int32))), some (.int y16), some (.int y17), some (.int y18), none, none, none], [.int (1 : Int32)], (H1 s v.2.1 v.2.2))) rfl ?_
            exact QTri.mask [true, true, true, true, true, true, true, true, false, false, false] (K26 _ ((if_neg hc27).trans ((if_neg hc28).trans ((if_neg hc29).trans (if_neg hc30)))).symm)
  · refine QTri.brT Ad W (t := 311) (f := 34) (L := [some (.ref 0), some (.ref 1), some (.ref 9), some (.int v.1), none, none, none, none, none, none, none]) (S := []) (σ := (H1 s v.2.1 v.2.2)) rfl (XT.ii_ge_t hc13) ?_
    refine QTri.steps Ad W 1 (st' := (312, [some (.ref 0), some (.ref 1), some (.ref 9), some (.int v.1), none, none, none, none, none, none, none], [.int (1 : Int32)], (H1 s v.2.1 v.2.2))) rfl ?_
    obtain rfl := Option.some.inj h
    obtain ⟨rfl, rfl⟩ := hx0 ((1 : Int32), (H1 s v.2.1 v.2.2)) rfl
    exact QTri.retZ rfl rfl
/-- the law -/
def F0 (s : List Int32) : Option (Int32 × QHeap) :=
  (F1 (8 : Int32) (4 : Int32) (3 : Int32)).bind fun r7 => (F1 (8 : Int32) (4 : Int32) (3 : Int32)).bind fun r12 => (loopN (B0_26 s) qN ((0 : Int32), r7, r12)).bind fun e334 => some e334
theorem tF0 (Ad : QAd n0 ad) (W : QW Z a0) (s : List Int32) {r : Int32 × QHeap} (h : F0 s = some r) : QTri l Z n0 ad 0 (0, qentry [.ref 0] (pMaxL 0), [], [.inr (.inl (.int, s))]) (some (Value.int r.1)) r.2 := by
  unfold F0 at h
  refine QTri.steps Ad W 1 (st' := (3, [some (.ref 0), none, none, none, none, none, none, none, none, none, none], [.ref 1], [.inr (.inl (.int, s)), .inl [.null, .null, .null, .null, .null, .null, .null, .int (f_keyCount ob0), .int (f_slotCount ob0), .int (f_window ob0), .int (f_commitCount ob0), .int (f_abortCount ob0), .int (f_lastConflict ob0)]])) rfl ?_
  refine QTri.steps Ad W 4 (st' := (8, [some (.ref 0), none, none, none, none, none, none, none, none, none, none], [.int (3 : Int32), .int (4 : Int32), .int (8 : Int32), .ref 1, .ref 1], [.inr (.inl (.int, s)), .inl [.null, .null, .null, .null, .null, .null, .null, .int (f_keyCount ob0), .int (f_slotCount ob0), .int (f_window ob0), .int (f_commitCount ob0), .int (f_abortCount ob0), .int (f_lastConflict ob0)]])) rfl ?_
  obtain ⟨r7, hr7, h⟩ := Option.bind_eq_some_iff.mp h
  refine QTri.callI W (a := 1) (as := [.int (8 : Int32), .int (4 : Int32), .int (3 : Int32)]) (rest := [.ref 1]) (σ₁ := (H0 s r7)) rfl rfl rfl rfl rfl rfl (tF1 Ad W s (8 : Int32) (4 : Int32) (3 : Int32) hr7) ?_
  refine QTri.steps Ad W 2 (st' := (15, [some (.ref 0), some (.ref 1), none, none, none, none, none, none, none, none, none], [.ref 9], [.inr (.inl (.int, s)), .inl [.ref 2, .ref 3, .ref 4, .ref 5, .ref 6, .ref 7, .ref 8, .int (f_keyCount r7), .int (f_slotCount r7), .int (f_window r7), .int (f_commitCount r7), .int (f_abortCount r7), .int (f_lastConflict r7)], .inr (.inl (.int, (f_value r7))), .inr (.inl (.int, (f_version r7))), .inr (.inl (.boolean, (f_active r7))), .inr (.inl (.int, (f_start r7))), .inr (.inl (.int, (f_readSet r7))), .inr (.inl (.int, (f_writeSet r7))), .inr (.inl (.int, (f_buffered r7))), .inl [.null, .null, .null, .null, .null, .null, .null, .int (f_keyCount ob0), .int (f_slotCount ob0), .int (f_window ob0), .int (f_commitCount ob0), .int (f_abortCount ob0), .int (f_lastConflict ob0)]])) rfl ?_
  refine QTri.steps Ad W 4 (st' := (20, [some (.ref 0), some (.ref 1), none, none, none, none, none, none, none, none, none], [.int (3 : Int32), .int (4 : Int32), .int (8 : Int32), .ref 9, .ref 9], [.inr (.inl (.int, s)), .inl [.ref 2, .ref 3, .ref 4, .ref 5, .ref 6, .ref 7, .ref 8, .int (f_keyCount r7), .int (f_slotCount r7), .int (f_window r7), .int (f_commitCount r7), .int (f_abortCount r7), .int (f_lastConflict r7)], .inr (.inl (.int, (f_value r7))), .inr (.inl (.int, (f_version r7))), .inr (.inl (.boolean, (f_active r7))), .inr (.inl (.int, (f_start r7))), .inr (.inl (.int, (f_readSet r7))), .inr (.inl (.int, (f_writeSet r7))), .inr (.inl (.int, (f_buffered r7))), .inl [.null, .null, .null, .null, .null, .null, .null, .int (f_keyCount ob0), .int (f_slotCount ob0), .int (f_window ob0), .int (f_commitCount ob0), .int (f_abortCount ob0), .int (f_lastConflict ob0)]])) rfl ?_
  obtain ⟨r12, hr12, h⟩ := Option.bind_eq_some_iff.mp h
  refine QTri.callI W (a := 9) (as := [.int (8 : Int32), .int (4 : Int32), .int (3 : Int32)]) (rest := [.ref 9]) (σ₁ := (H1 s r7 r12)) rfl rfl rfl rfl rfl rfl (tF1a1 Ad W s r7 (8 : Int32) (4 : Int32) (3 : Int32) hr12) ?_
  refine QTri.steps Ad W 3 (st' := (26, [some (.ref 0), some (.ref 1), some (.ref 9), some (.int (0 : Int32)), none, none, none, none, none, none, none], [], (H1 s r7 r12))) rfl ?_
  obtain ⟨e334, he334, h⟩ := Option.bind_eq_some_iff.mp h
  refine QTri.mask [true, true, true, true, false, false, false, false, false, false, false] (loopN_tri (B := B0_26 s) (T := fun lv335 => QTri l Z n0 ad 0 (26, [some (.ref 0), some (.ref 1), some (.ref 9), some (.int lv335.1), none, none, none, none, none, none, none], [], (H1 s lv335.2.1 lv335.2.2)) (some (Value.int r.1)) r.2) (KE := fun e334a => (some (Value.int r.1)) = (some (Value.int e334a.1)) ∧ r.2 = e334a.2) (fun lv335 r hB hE hC => tB0_26 Ad W s lv335 hB (fun x q => hE _ q) (fun x q => hC x q)) qN ((0 : Int32), r7, r12) e334 he334 ?_)
  obtain rfl := Option.some.inj h
  exact ⟨rfl, rfl⟩
end Walks
theorem script_ok {s : State} {w : Value} (hfit : Fit s) (h1 : (Jvm.Cond.arrayOf (Jvm.Term.arg 0) Jvm.ClassFile.FieldType.int).value #[w] s none s [] = some true) (h2 : (Jvm.Cond.le (Jvm.Term.length (Jvm.Term.arg 0)) (Jvm.Term.int 260)).value #[w] s none s [] = some true) :
    ∃ (a : Addr) (c : Cell) (xs : List Int32), w = .ref a ∧ Arr s s.heap a c .int ∧ c.slots = (xs.map Value.int).toArray ∧ xs.length ≤ 260 := by
  obtain ⟨a, ha⟩ := arr_v h1
  obtain ⟨c, A⟩ := Arr.start ha h1
  have hw : w = .ref a := by simpa [Term.eval] using ha
  subst hw
  have hel : ∀ i, i < c.slots.size → ∃ x, c.slots[i]? = some (.int x) := fun i hi => by
    have q := hfit A.1 hi
    obtain ⟨hs, k, hk, comp, hkind⟩ := A.2.1
    have e : s.slotType? c.cls c.vm i = some .int := by
      cases hq : c.vm <;> first | exact absurd hq (hs _) | simp [State.slotType?, hk, hkind]
    have q2 : fits .int c.slots[i] = true := by simpa [State.fitsSlot, e] using q
    obtain ⟨x, hx⟩ := fit_I q2 (Or.inl rfl)
    exact ⟨x, by rw [Array.getElem?_eq_getElem hi, hx]⟩
  refine ⟨a, c, c.slots.toList.map (fun v => match v with | .int x => x | _ => 0), rfl, A, ?_, ?_⟩
  · apply Array.ext'
    rw [List.map_map]
    have : c.slots.toList.map (Value.int ∘ fun v => match v with | .int x => x | _ => 0) = c.slots.toList := by
      conv => rhs; rw [← List.map_id c.slots.toList]
      refine List.map_congr_left fun v hv => ?_
      obtain ⟨i, hi⟩ := List.mem_iff_getElem?.mp hv
      rw [Array.getElem?_toList] at hi
      obtain ⟨x, hx⟩ := hel i (Array.getElem?_eq_some_iff.mp hi).1
      rw [hi] at hx
      cases hx
      rfl
    exact this.symm
  · have hl := A.fin (Vm.Alike.refl _)
    simp only [List.length_map, Array.length_toList]
    simp only [Cond.value, Term.eval] at h2
    simp [hl] at h2
    by_cases hs : c.slots.size < 2147483648
    · rw [if_pos hs] at h2
      have h3 : c.slots.size.toInt32 ≤ 260 := by simpa using h2
      rw [Int32.le_iff_toInt_le] at h3
      have h4 : (c.slots.size.toInt32).toInt = c.slots.size := Int32.toInt_ofNat_of_lt (by omega)
      rw [h4] at h3
      have h5 : (260 : Int32).toInt = 260 := rfl
      rw [h5] at h3
      omega
    · rw [if_neg hs] at h2
      simp at h2
/-! ## ints, plainly -/
theorem i_lt {x y : Int32} : x < y ↔ x.toInt < y.toInt := Int32.lt_iff_toInt_lt
theorem i_eq {x y : Int32} : x = y ↔ x.toInt = y.toInt := Int32.toInt_inj.symm
theorem i_lo (x : Int32) : -2147483648 ≤ x.toInt := Int32.le_toInt x
theorem i_hi (x : Int32) : x.toInt < 2147483648 := Int32.toInt_lt x
theorem i_add {x y : Int32} (h1 : -2147483648 ≤ x.toInt + y.toInt) (h2 : x.toInt + y.toInt < 2147483648) : (x + y).toInt = x.toInt + y.toInt := XT.add32 ⟨h1, by omega⟩
theorem i_sub {x y : Int32} (h1 : -2147483648 ≤ x.toInt - y.toInt) (h2 : x.toInt - y.toInt < 2147483648) : (x - y).toInt = x.toInt - y.toInt := XT.sub32 ⟨h1, by omega⟩
theorem i_mul {x y : Int32} (h1 : -2147483648 ≤ x.toInt * y.toInt) (h2 : x.toInt * y.toInt < 2147483648) : (x * y).toInt = x.toInt * y.toInt := XT.mul32 ⟨h1, by omega⟩
theorem i_nat (x : Int32) : x.toNatClampNeg = x.toInt.toNat := rfl
theorem aget_at {α : Type} {xs : List α} {j : Int32} {n : Nat} (hj : j.toInt = n) (hn : n < xs.length) : aget xs j = some xs[n] := by
  have h0 : ¬ j < 0 := by rw [i_lt]; show ¬ j.toInt < 0; omega
  unfold aget
  rw [if_neg h0, i_nat, hj]
  simp [hn]
theorem aget_rep {α : Type} {m : Nat} {a : α} {j : Int32} (h0 : 0 ≤ j.toInt) (h1 : j.toInt < m) : aget (List.replicate m a) j = some a := by
  rw [aget_at (n := j.toInt.toNat) (by omega) (by rw [List.length_replicate]; omega)]
  simp
theorem aset_at {α : Type} {xs : List α} {j : Int32} {n : Nat} {v : α} (hj : j.toInt = n) (hn : n < xs.length) : aset xs j v = some (xs.set n v) := by
  have h0 : ¬ j < 0 := by rw [i_lt]; show ¬ j.toInt < 0; omega
  unfold aset
  have e : j.toNatClampNeg = n := by rw [i_nat, hj]; simp
  rw [if_neg h0, e, if_pos hn]
theorem rep_set {α : Type} (m k : Nat) (a : α) : (List.replicate m a).set k a = List.replicate m a := by
  apply List.ext_getElem (by simp)
  intro i h1 h2
  rw [List.getElem_set]
  split <;> simp
theorem small_cases {x : Int32} (h0 : 0 ≤ x.toInt) {n : Nat} (h1 : x.toInt < n) {P : Int32 → Prop} (h : ∀ m : Nat, m < n → P (Int32.ofInt m)) : P x := by
  have e : Int32.ofInt (x.toInt.toNat : Nat) = x := by
    rw [Int.toNat_of_nonneg h0, Int32.ofInt_toInt]
  rw [← e]
  exact h _ (by omega)
theorem bit_ne {x : Int32} (h0 : 0 ≤ x.toInt) (h1 : x.toInt < 32) : ¬ (((1 : Int32) <<< (x &&& 31)) &&& ((1 : Int32) <<< (x &&& 31))) = 0 :=
  small_cases (P := fun x => ¬ (((1 : Int32) <<< (x &&& 31)) &&& ((1 : Int32) <<< (x &&& 31))) = 0) h0 (n := 32) h1 (by decide)
/-! ## a plain run that succeeds, and what it gives -/
def okP {α : Type} (m : Option α) (P : α → Prop) : Prop := ∃ a, m = some a ∧ P a
theorem okP.some {α : Type} {a : α} {P : α → Prop} (h : P a) : okP (some a) P := ⟨a, rfl, h⟩
theorem okP.bind {α β : Type} {m : Option α} {f : α → Option β} {P : β → Prop} (h : okP m fun a => okP (f a) P) : okP (m.bind f) P := by
  obtain ⟨a, e, b, e2, h2⟩ := h
  exact ⟨b, by rw [e]; exact e2, h2⟩
theorem okP.ite {α : Type} {c : Prop} [Decidable c] {a b : Option α} {P : α → Prop} (h1 : c → okP a P) (h2 : ¬ c → okP b P) : okP (if c then a else b) P := by
  by_cases h : c
  · rw [if_pos h]; exact h1 h
  · rw [if_neg h]; exact h2 h
theorem okP.mono {α : Type} {m : Option α} {P Q : α → Prop} (h : okP m P) (k : ∀ a, P a → Q a) : okP m Q := by
  obtain ⟨a, e, h⟩ := h
  exact ⟨a, e, k a h⟩
theorem okP.of {α : Type} {m : Option α} {a : α} {P : α → Prop} (e : m = Option.some a) (h : P a) : okP m P := ⟨a, e, h⟩
theorem okP.aget {α : Type} {xs : List α} {j : Int32} {P : α → Prop} (h0 : 0 ≤ j.toInt) (h1 : j.toInt < xs.length) (k : ∀ v, xs[j.toInt.toNat]? = Option.some v → P v) : okP (aget xs j) P :=
  ⟨_, aget_at (n := j.toInt.toNat) (by omega) (by omega), k _ (List.getElem?_eq_getElem _)⟩
theorem okP.aset {α : Type} {xs : List α} {j : Int32} {v : α} {P : List α → Prop} (h0 : 0 ≤ j.toInt) (h1 : j.toInt < xs.length) (k : P (xs.set j.toInt.toNat v)) : okP (aset xs j v) P :=
  ⟨_, aset_at (n := j.toInt.toNat) (by omega) (by omega), k⟩
theorem okP.loop {V E : Type} {B : V → Option (E ⊕ V)} {P : E → Prop} {n : Nat} {v : V} (I : V → Prop) (μ : V → Nat) (hv : I v) (hm : μ v < n) (hB : ∀ v, I v → okP (B v) (fun r => Sum.elim P (fun v' => I v' ∧ μ v' < μ v) r)) : okP (loopN B n v) P := by
  refine loopN_inv I P μ ?_ n v hv hm
  intro v hv
  obtain ⟨r, e, h⟩ := hB v hv
  cases r with
  | inl x => exact Or.inl ⟨x, e, h⟩
  | inr x => exact Or.inr ⟨x, e, h⟩
theorem len_i {n : Nat} (h : n ≤ 1000) : (n.toInt32).toInt = n := by
  have e : n.toInt32 = Int32.ofInt n := rfl
  rw [e, Int32.toInt_ofInt_of_le (by show _ ≤ (n : Int); omega) (by show (n : Int) < _; omega)]
theorem and1 (x : Int32) : x &&& 1 = 0 ∨ x &&& 1 = 1 := by
  have e : (x &&& 1).toBitVec = x.toBitVec &&& 1#32 := rfl
  have h := BitVec.and_one_eq_setWidth_ofBool_getLsbD (x := x.toBitVec)
  cases g : x.toBitVec.getLsbD 0
  · left; apply Int32.toBitVec_inj.1; rw [e, h, g]; rfl
  · right; apply Int32.toBitVec_inj.1; rw [e, h, g]; rfl
theorem okP.not {α : Type} {m : Option α} {a : α} {P : α → Prop} (h : okP m P) (e : m = Option.some a) : P a := by
  obtain ⟨b, e2, h⟩ := h
  rw [e] at e2
  exact (Option.some.inj e2) ▸ h
theorem and_rng {x m : Int32} (hm : 0 ≤ m.toInt) : 0 ≤ (x &&& m).toInt ∧ (x &&& m).toInt ≤ m.toInt := by
  have e : (x &&& m).toBitVec.toNat = x.toBitVec.toNat &&& m.toBitVec.toNat := BitVec.toNat_and ..
  have l : (x &&& m).toBitVec.toNat ≤ m.toBitVec.toNat := by rw [e]; exact Nat.and_le_right
  have c1 : m.toInt = if 2 * m.toBitVec.toNat < 2 ^ 32 then (m.toBitVec.toNat : Int) else m.toBitVec.toNat - (2 ^ 32 : Nat) := BitVec.toInt_eq_toNat_cond m.toBitVec
  have c2 : (x &&& m).toInt = if 2 * (x &&& m).toBitVec.toNat < 2 ^ 32 then ((x &&& m).toBitVec.toNat : Int) else (x &&& m).toBitVec.toNat - (2 ^ 32 : Nat) := BitVec.toInt_eq_toNat_cond (x &&& m).toBitVec
  have b : m.toBitVec.toNat < 2 ^ 32 := m.toBitVec.isLt
  by_cases h : 2 * m.toBitVec.toNat < 2 ^ 32
  · rw [if_pos h] at c1
    rw [if_pos (by omega)] at c2
    omega
  · rw [if_neg h] at c1
    omega
theorem mod_rng {x m : Int32} (hx : 0 ≤ x.toInt) (hm : 0 < m.toInt) : 0 ≤ (x % m).toInt ∧ (x % m).toInt < m.toInt := by
  rw [Int32.toInt_mod, Int.tmod_eq_emod_of_nonneg hx]
  exact ⟨Int.emod_nonneg _ (by omega), Int.emod_lt_of_pos _ hm⟩
/-- the law's own room, over the script's array -/
def sFit (s : List Int32) (τ : QHeap) : Prop := τ.length - List.length ([Sum.inr (Sum.inl (FieldType.int, s))] : QHeap) ≤ room_1.cells ∧ qhs τ - qhs [Sum.inr (Sum.inl (FieldType.int, s))] ≤ room_1.slots
def Sh (K n : Int32) (o : Ob) : Prop := (f_value o).length = 32 ∧ (f_version o).length = 32 ∧ (f_active o).length = 8 ∧ (f_start o).length = 8 ∧ (f_readSet o).length = 8 ∧ (f_writeSet o).length = 8 ∧ (f_buffered o).length = 256 ∧ f_keyCount o = K ∧ f_slotCount o = n
theorem Sh_buf {K n : Int32} {o : Ob} (h : Sh K n o) {x : List Int32} (hx : x.length = 256) : Sh K n (s_buffered o x) := ⟨h.1, h.2.1, h.2.2.1, h.2.2.2.1, h.2.2.2.2.1, h.2.2.2.2.2.1, hx, h.2.2.2.2.2.2.2⟩
theorem Sh_wr {K n : Int32} {o : Ob} (h : Sh K n o) {x : List Int32} (hx : x.length = 8) : Sh K n (s_writeSet o x) := ⟨h.1, h.2.1, h.2.2.1, h.2.2.2.1, h.2.2.2.2.1, hx, h.2.2.2.2.2.2.1, h.2.2.2.2.2.2.2⟩
theorem Sh_rd {K n : Int32} {o : Ob} (h : Sh K n o) {x : List Int32} (hx : x.length = 8) : Sh K n (s_readSet o x) := ⟨h.1, h.2.1, h.2.2.1, h.2.2.2.1, hx, h.2.2.2.2.2.1, h.2.2.2.2.2.2.1, h.2.2.2.2.2.2.2⟩
theorem Sh_st {K n : Int32} {o : Ob} (h : Sh K n o) {x : List Int32} (hx : x.length = 8) : Sh K n (s_start o x) := ⟨h.1, h.2.1, h.2.2.1, hx, h.2.2.2.2.1, h.2.2.2.2.2.1, h.2.2.2.2.2.2.1, h.2.2.2.2.2.2.2⟩
theorem Sh_ac {K n : Int32} {o : Ob} (h : Sh K n o) {x : List Int32} (hx : x.length = 8) : Sh K n (s_active o x) := ⟨h.1, h.2.1, hx, h.2.2.2.1, h.2.2.2.2.1, h.2.2.2.2.2.1, h.2.2.2.2.2.2.1, h.2.2.2.2.2.2.2⟩
theorem Sh_ve {K n : Int32} {o : Ob} (h : Sh K n o) {x : List Int32} (hx : x.length = 32) : Sh K n (s_version o x) := ⟨h.1, hx, h.2.2.1, h.2.2.2.1, h.2.2.2.2.1, h.2.2.2.2.2.1, h.2.2.2.2.2.2.1, h.2.2.2.2.2.2.2⟩
theorem Sh_va {K n : Int32} {o : Ob} (h : Sh K n o) {x : List Int32} (hx : x.length = 32) : Sh K n (s_value o x) := ⟨hx, h.2.1, h.2.2.1, h.2.2.2.1, h.2.2.2.2.1, h.2.2.2.2.2.1, h.2.2.2.2.2.2.1, h.2.2.2.2.2.2.2⟩
theorem Sh_cc {K n : Int32} {o : Ob} (h : Sh K n o) (x : Int32) : Sh K n (s_commitCount o x) := h
theorem Sh_ab {K n : Int32} {o : Ob} (h : Sh K n o) (x : Int32) : Sh K n (s_abortCount o x) := h
theorem Sh_lc {K n : Int32} {o : Ob} (h : Sh K n o) (x : Int32) : Sh K n (s_lastConflict o x) := h
/-- the checks of a transaction's and a key's number -/
theorem vtx {K n : Int32} {o : Ob} (h : Sh K n o) (hn : n.toInt ≤ 8) (x : Int32) : okP (F4 o x) (fun r => r = 0 ∨ (r ≠ 0 ∧ 0 ≤ x.toInt ∧ x.toInt < n.toInt)) := by
  obtain ⟨h1, h2, h3, h4, h5, h6, h7, h8, h9⟩ := h
  unfold F4
  rw [h9]
  repeat' with_reducible (first | apply okP.bind | apply okP.some | (apply okP.ite <;> intro _) | refine okP.aget ?_ ?_ (fun v hv => ?_) | refine okP.aset ?_ ?_ ?_)
  · exact Or.inl rfl
  · (simp only [i_lt, Int32.reduceToInt] at *; omega)
  · (simp only [i_lt, Int32.reduceToInt] at *; omega)
  · by_cases e : v &&& 1 = 0
    · exact Or.inl e
    · exact Or.inr ⟨e, by (simp only [i_lt, Int32.reduceToInt] at *; omega), by (simp only [i_lt, Int32.reduceToInt] at *; omega)⟩
  · exact Or.inl rfl
  · exact Or.inl rfl
theorem vkey {K n : Int32} {o : Ob} (h : Sh K n o) (hK : K.toInt ≤ 32) (x : Int32) : okP (F11 o x) (fun r => (r = 0 ∧ ¬ (0 ≤ x.toInt ∧ x.toInt < K.toInt)) ∨ (r ≠ 0 ∧ 0 ≤ x.toInt ∧ x.toInt < K.toInt)) := by
  obtain ⟨h1, h2, h3, h4, h5, h6, h7, h8, h9⟩ := h
  unfold F11
  rw [h8]
  repeat' with_reducible (first | apply okP.bind | apply okP.some | (apply okP.ite <;> intro _) | refine okP.aget ?_ ?_ (fun v hv => ?_) | refine okP.aset ?_ ?_ ?_)
  · exact Or.inl ⟨rfl, by (simp only [i_lt, Int32.reduceToInt] at *; omega)⟩
  · exact Or.inr ⟨by decide, by (simp only [i_lt, Int32.reduceToInt] at *; omega)⟩
  · exact Or.inl ⟨rfl, by (simp only [i_lt, Int32.reduceToInt] at *; omega)⟩
  · exact Or.inl ⟨rfl, by (simp only [i_lt, Int32.reduceToInt] at *; omega)⟩

def clr (o : Ob) (x : Nat) (b : List Int32) : Ob := s_buffered (s_writeSet (s_readSet (s_start (s_active o ((f_active o).set x 0)) ((f_start o).set x 0)) ((f_readSet o).set x 0)) ((f_writeSet o).set x 0)) b
theorem Sh_clr {K n : Int32} {o : Ob} (h : Sh K n o) (x : Nat) {b : List Int32} (hb : b.length = 256) : Sh K n (clr o x b) := by
  obtain ⟨h1, h2, h3, h4, h5, h6, h7, h8, h9⟩ := h
  exact ⟨h1, h2, by show (List.set _ _ _).length = _; rw [List.length_set]; exact h3, by show (List.set _ _ _).length = _; rw [List.length_set]; exact h4, by show (List.set _ _ _).length = _; rw [List.length_set]; exact h5, by show (List.set _ _ _).length = _; rw [List.length_set]; exact h6, hb, h8, h9⟩
theorem clear_ok {K n : Int32} {o : Ob} (h : Sh K n o) {x : Int32} (hx : 0 ≤ x.toInt) (hx8 : x.toInt < 8) : okP (F21 o x) (fun r => ∃ b : List Int32, b.length = 256 ∧ r = clr o x.toInt.toNat b) := by
  obtain ⟨h1, h2, h3, h4, h5, h6, h7, h8, h9⟩ := h
  unfold F21
  have e32 : (x * 32).toInt = x.toInt * 32 := i_mul (x := x) (y := 32) (by show _ ≤ x.toInt * 32; omega) (by show x.toInt * 32 < _; omega)
  repeat' with_reducible (first | apply okP.bind | apply okP.some | (apply okP.ite <;> intro _) | refine okP.aget ?_ ?_ (fun v hv => ?_) | refine okP.aset ?_ ?_ ?_)
  · exact hx
  · omega
  · exact hx
  · omega
  · exact hx
  · omega
  · exact hx
  · omega
  obtain ⟨p, hp⟩ : ∃ p, p = s_writeSet (s_readSet (s_start (s_active o ((f_active o).set x.toInt.toNat 0)) ((f_start o).set x.toInt.toNat 0)) ((f_readSet o).set x.toInt.toNat 0)) ((f_writeSet o).set x.toInt.toNat 0) := ⟨_, rfl⟩
  rw [← hp]
  refine okP.loop (fun w => 0 ≤ w.1.toInt ∧ w.1.toInt ≤ 32 ∧ ∃ b : List Int32, b.length = 256 ∧ w.2 = s_buffered p b) (fun w => (32 - w.1.toInt).toNat) ⟨by show (0 : Int) ≤ 0; decide, by show (0 : Int) ≤ 32; decide, f_buffered o, h7, by rw [hp]; rfl⟩ (by show (32 - (0 : Int)).toNat < 4000; decide) ?_
  intro w ⟨a1, a2, b, a3, a4⟩
  unfold B21_35
  rw [a4]
  have e1 : (1 : Int32).toInt = 1 := rfl
  apply okP.ite
  · intro c
    have c' : w.1.toInt < 32 := by rw [i_lt] at c; exact c
    have ej : (x * 32 + w.1).toInt = x.toInt * 32 + w.1.toInt := by rw [i_add (by omega) (by omega), e32]
    have e2 : (w.1 + 1).toInt = w.1.toInt + 1 := by rw [i_add (by omega) (by omega), e1]
    apply okP.bind
    refine okP.aset (by omega) (by show _ < (b.length : Int); omega) ?_
    apply okP.some
    refine ⟨⟨?_, ?_, (b.set (x * 32 + w.1).toInt.toNat 0), by rw [List.length_set]; exact a3, rfl⟩, ?_⟩
    · show 0 ≤ (w.1 + 1).toInt; omega
    · show (w.1 + 1).toInt ≤ 32; omega
    · show (32 - (w.1 + 1).toInt).toNat < (32 - w.1.toInt).toNat; omega
  · intro c
    apply okP.some
    show okP (some (s_buffered p b)) _
    apply okP.some
    exact ⟨b, a3, by rw [hp]; rfl⟩
theorem bufi {x y : Int32} (hx : 0 ≤ x.toInt) (hx8 : x.toInt < 8) (hy : 0 ≤ y.toInt) (hy32 : y.toInt < 32) : (x * 32 + y).toInt = x.toInt * 32 + y.toInt := by
  have e32 : (x * 32).toInt = x.toInt * 32 := i_mul (x := x) (y := 32) (by show _ ≤ x.toInt * 32; omega) (by show x.toInt * 32 < _; omega)
  rw [i_add (by omega) (by omega), e32]
theorem inc1 {x : Int32} (h : x.toInt < 2147483647) : (x + 1).toInt = x.toInt + 1 := by
  have := i_lo x
  have e1 : (1 : Int32).toInt = 1 := rfl
  rw [i_add (by omega) (by omega), e1]
theorem free_ok {K n : Int32} {o : Ob} (h : Sh K n o) (hn0 : 0 ≤ n.toInt) (hn : n.toInt ≤ 8) : okP (F19 o) (fun r => (r = -1 ∧ ∀ i : Nat, i < n.toInt.toNat → (f_active o)[i]? ≠ some 0) ∨ (0 ≤ r.toInt ∧ r.toInt < n.toInt ∧ (f_active o)[r.toInt.toNat]? = some 0)) := by
  obtain ⟨h1, h2, h3, h4, h5, h6, h7, h8, h9⟩ := h
  unfold F19
  apply okP.bind
  refine okP.loop (fun w => 0 ≤ w.toInt ∧ w.toInt ≤ n.toInt ∧ ∀ i : Nat, i < w.toInt.toNat → (f_active o)[i]? ≠ some 0) (fun w => (8 - w.toInt).toNat) ⟨by show (0 : Int) ≤ 0; decide, hn0, fun i hi => absurd hi (Nat.not_lt_zero _)⟩ (by show (8 - (0 : Int)).toNat < 4000; decide) ?_
  intro w ⟨a1, a2, a3⟩
  unfold B19_2
  rw [h9]
  repeat' with_reducible (first | apply okP.bind | apply okP.some | (apply okP.ite <;> intro _) | refine okP.aget ?_ ?_ (fun v hv => ?_) | refine okP.aset ?_ ?_ ?_)
  · exact a1
  · (simp only [i_lt, Int32.reduceToInt] at *; omega)
  · rename_i c
    have : v = 0 := c
    subst this
    exact okP.some (Or.inr ⟨a1, by (simp only [i_lt, Int32.reduceToInt] at *; omega), hv⟩)
  · rename_i c1 c2 c3
    have e2 : (w + 1).toInt = w.toInt + 1 := inc1 (by rw [i_lt] at c2; have : (8 : Int32).toInt = 8 := rfl; omega)
    rw [i_lt] at c1 c2
    have e8 : (8 : Int32).toInt = 8 := rfl
    refine ⟨⟨by omega, by omega, ?_⟩, by omega⟩
    intro i hi
    rw [e2] at hi
    by_cases hj : i < w.toInt.toNat
    · exact a3 i hj
    · have : i = w.toInt.toNat := by omega
      rw [this, hv]
      intro q
      exact c3 (Option.some.inj q)
  · rename_i c1 c2
    exfalso
    rw [i_lt] at c1 c2
    have e8 : (8 : Int32).toInt = 8 := rfl
    omega
  · rename_i c1
    apply okP.some
    refine Or.inl ⟨rfl, fun i hi => a3 i ?_⟩
    rw [i_lt] at c1
    omega
/-- what opening a slot leaves -/
def opn (o : Ob) (x : Nat) (b : List Int32) : Ob := s_start (s_active (clr o x b) ((f_active (clr o x b)).set x 1)) ((f_start (clr o x b)).set x (f_commitCount (clr o x b)))
theorem Sh_opn {K n : Int32} {o : Ob} (h : Sh K n o) (x : Nat) {b : List Int32} (hb : b.length = 256) : Sh K n (opn o x b) := by
  have g := Sh_clr h x hb
  unfold opn
  obtain ⟨q, hq⟩ : ∃ q, q = clr o x b := ⟨_, rfl⟩
  rw [← hq] at g ⊢
  exact Sh_st (Sh_ac g (by rw [List.length_set]; exact g.2.2.1)) (by rw [List.length_set]; exact g.2.2.2.1)
theorem begin_ok {K n : Int32} {o : Ob} (h : Sh K n o) (hn0 : 0 ≤ n.toInt) (hn : n.toInt ≤ 8) : okP (F18 o) (fun r => (r = (-5, o) ∧ ∀ i : Nat, i < n.toInt.toNat → (f_active o)[i]? ≠ some 0) ∨ (0 ≤ r.1.toInt ∧ r.1.toInt < n.toInt ∧ (f_active o)[r.1.toInt.toNat]? = some 0 ∧ ∃ b : List Int32, b.length = 256 ∧ r.2 = opn o r.1.toInt.toNat b)) := by
  unfold F18
  apply okP.bind
  refine okP.mono (free_ok h hn0 hn) ?_
  rintro r (⟨rfl, q⟩ | ⟨q1, q2, q3⟩)
  · rw [if_pos (by decide)]
    apply okP.some
    exact Or.inl ⟨rfl, q⟩
  · rw [if_neg (by rw [i_lt]; show ¬ r.toInt < 0; omega)]
    apply okP.bind
    unfold F20
    apply okP.bind
    refine okP.mono (clear_ok h q1 (by omega)) ?_
    rintro _ ⟨b, hb, rfl⟩
    have g := Sh_clr h r.toInt.toNat hb
    repeat' with_reducible (first | apply okP.bind | apply okP.some | (apply okP.ite <;> intro _) | refine okP.aget ?_ ?_ (fun v hv => ?_) | refine okP.aset ?_ ?_ ?_)
    · exact q1
    · rw [g.2.2.1]; omega
    · exact q1
    · rw [g.2.2.2.1]; omega
    · exact Or.inr ⟨q1, q2, q3, b, hb, rfl⟩
theorem read_ok {K n : Int32} {o : Ob} (h : Sh K n o) (hn : n.toInt ≤ 8) (hK : K.toInt ≤ 32) (x y : Int32) : okP (F17 o x y) (fun r => r.2 = o ∨ (0 ≤ x.toInt ∧ x.toInt < n.toInt ∧ ∃ w, r.2 = s_readSet o ((f_readSet o).set x.toInt.toNat w))) := by
  unfold F17
  apply okP.bind
  refine okP.mono (vtx h hn x) ?_
  rintro r (rfl | ⟨q0, q1, q2⟩)
  · rw [if_pos rfl]; exact okP.some (Or.inl rfl)
  rw [if_neg q0]
  apply okP.bind
  refine okP.mono (vkey h hK y) ?_
  rintro r' (⟨rfl, _⟩ | ⟨q3, q4, q5⟩)
  · rw [if_pos rfl]; exact okP.some (Or.inl rfl)
  rw [if_neg q3]
  obtain ⟨h1, h2, h3, h4, h5, h6, h7, h8, h9⟩ := h
  have eb := bufi q1 (by omega) q4 (by omega)
  unfold F22 F28
  repeat' with_reducible (first | apply okP.bind | apply okP.some | (apply okP.ite <;> intro _) | refine okP.aget ?_ ?_ (fun v hv => ?_) | refine okP.aset ?_ ?_ ?_)
  · exact q1
  · omega
  · exact q1
  · omega
  · exact q1
  · omega
  · exact q4
  · omega
  · exact Or.inr ⟨q1, q2, _, rfl⟩
  · omega
  · omega
  · exact Or.inl rfl
theorem write_ok {K n : Int32} {o : Ob} (h : Sh K n o) (hn : n.toInt ≤ 8) (hK : K.toInt ≤ 32) (x y z : Int32) : okP (F27 o x y z) (fun r => r.2 = o ∨ (0 ≤ x.toInt ∧ x.toInt < n.toInt ∧ ∃ w b, b.length = 256 ∧ r.2 = s_buffered (s_writeSet o ((f_writeSet o).set x.toInt.toNat w)) b)) := by
  unfold F27
  apply okP.bind
  refine okP.mono (vtx h hn x) ?_
  rintro r (rfl | ⟨q0, q1, q2⟩)
  · rw [if_pos rfl]; exact okP.some (Or.inl rfl)
  rw [if_neg q0]
  apply okP.bind
  refine okP.mono (vkey h hK y) ?_
  rintro r' (⟨rfl, _⟩ | ⟨q3, q4, q5⟩)
  · rw [if_pos rfl]; exact okP.some (Or.inl rfl)
  rw [if_neg q3]
  obtain ⟨h1, h2, h3, h4, h5, h6, h7, h8, h9⟩ := h
  have eb := bufi q1 (by omega) q4 (by omega)
  unfold F22 F28
  repeat' with_reducible (first | apply okP.bind | apply okP.some | (apply okP.ite <;> intro _) | refine okP.aget ?_ ?_ (fun v hv => ?_) | refine okP.aset ?_ ?_ ?_)
  · exact q1
  · omega
  · exact q1
  · omega
  · omega
  · omega
  · exact Or.inr ⟨q1, q2, _, _, by rw [List.length_set]; exact h7, rfl⟩
theorem stale_ok {K n : Int32} {o : Ob} (h : Sh K n o) {x : Int32} (hx : 0 ≤ x.toInt) (hx8 : x.toInt < 8) : okP (F23 o x) (fun _ => True) := by
  obtain ⟨h1, h2, h3, h4, h5, h6, h7, h8, h9⟩ := h
  unfold F23
  repeat' with_reducible (first | apply okP.bind | apply okP.some | (apply okP.ite <;> intro _) | refine okP.aget ?_ ?_ (fun v hv => ?_) | refine okP.aset ?_ ?_ ?_)
  · exact hx
  · omega
  · trivial
  · trivial
theorem least_ok {K n : Int32} {o : Ob} (h : Sh K n o) (hK0 : 0 ≤ K.toInt) (hK : K.toInt ≤ 32) {x : Int32} (hx : 0 ≤ x.toInt) (hx8 : x.toInt < 8) : okP (F24 o x) (fun _ => True) := by
  obtain ⟨h1, h2, h3, h4, h5, h6, h7, h8, h9⟩ := h
  unfold F24
  repeat' with_reducible (first | apply okP.bind | apply okP.some | (apply okP.ite <;> intro _) | refine okP.aget ?_ ?_ (fun v hv => ?_) | refine okP.aset ?_ ?_ ?_)
  · exact hx
  · omega
  · exact hx
  · omega
  refine okP.loop (fun w => 0 ≤ w.toInt ∧ w.toInt ≤ 32) (fun w => (32 - w.toInt).toNat) ⟨by show (0 : Int) ≤ 0; decide, by show (0 : Int) ≤ 32; decide⟩ (by show (32 - (0 : Int)).toNat < 4000; decide) ?_
  intro w ⟨a1, a2⟩
  unfold B24_17 F22 J24_58
  rw [h8]
  have e32 : (32 : Int32).toInt = 32 := rfl
  have fin : w < 32 → Sum.elim (fun a => okP (some a) fun _ => True) (fun v' => (0 ≤ v'.toInt ∧ v'.toInt ≤ 32) ∧ (32 - v'.toInt).toNat < (32 - w.toInt).toNat) (Sum.inr (w + 1) : Int32 ⊕ Int32) := by
    intro c
    rw [i_lt, e32] at c
    have e2 : (w + 1).toInt = w.toInt + 1 := inc1 (by omega)
    exact ⟨⟨by omega, by omega⟩, by omega⟩
  repeat' with_reducible (first | apply okP.bind | apply okP.some | (apply okP.ite <;> intro _) | refine okP.aget ?_ ?_ (fun v hv => ?_) | refine okP.aset ?_ ?_ ?_)
  all_goals first | exact fin (by assumption) | exact okP.some trivial | exact a1 | (simp only [i_lt, Int32.reduceToInt] at *; omega)
theorem install_ok {K n : Int32} {o : Ob} (h : Sh K n o) (hK0 : 0 ≤ K.toInt) (hK : K.toInt ≤ 32) {x : Int32} (hx : 0 ≤ x.toInt) (hx8 : x.toInt < 8) (Q : List Int32 → List Int32 → Prop) (hQ0 : Q (f_value o) (f_version o)) (hQ : ∀ va ve i y, va.length = 32 → ve.length = 32 → i < 32 → Q va ve → Q (va.set i y) (ve.set i (f_commitCount o + 1))) : okP (F25 o x) (fun r => r.1 = f_commitCount o + 1 ∧ ∃ va ve b, Q va ve ∧ va.length = 32 ∧ ve.length = 32 ∧ b.length = 256 ∧ r.2 = s_lastConflict (clr (s_version (s_value (s_commitCount o (f_commitCount o + 1)) va) ve) x.toInt.toNat b) (-1)) := by
  unfold F25
  obtain ⟨c, hc⟩ : ∃ c, c = f_commitCount o + 1 := ⟨_, rfl⟩
  rw [← hc] at hQ ⊢
  obtain ⟨p, hp⟩ : ∃ p, p = s_commitCount o c := ⟨_, rfl⟩
  rw [← hp]
  have g : Sh K n p := by rw [hp]; exact h
  have gv : f_value p = f_value o := by rw [hp]; rfl
  have gw : f_version p = f_version o := by rw [hp]; rfl
  obtain ⟨h1, h2, h3, h4, h5, h6, h7, h8, h9⟩ := h
  apply okP.bind
  refine okP.aget hx (by omega) (fun y hy => ?_)
  apply okP.bind
  refine okP.loop (fun w => 0 ≤ w.1.toInt ∧ w.1.toInt ≤ 32 ∧ ∃ va ve, Q va ve ∧ va.length = 32 ∧ ve.length = 32 ∧ w.2 = s_version (s_value p va) ve) (fun w => (32 - w.1.toInt).toNat) ⟨by show (0 : Int) ≤ 0; decide, by show (0 : Int) ≤ 32; decide, f_value o, f_version o, hQ0, h1, h2, by rw [← gv, ← gw]; rfl⟩ (by show (32 - (0 : Int)).toNat < 4000; decide) ?_
  intro w ⟨a1, a2, va, ve, a3, a4, a5, a6⟩
  unfold B25_25 F22 J25_79
  rw [a6]
  have g8 : f_keyCount (s_version (s_value p va) ve) = K := g.2.2.2.2.2.2.2.1
  have gb : (f_buffered (s_version (s_value p va) ve)).length = 256 := g.2.2.2.2.2.2.1
  rw [g8]
  have e32 : (32 : Int32).toInt = 32 := rfl
  have exi : okP (some (s_version (s_value p va) ve)) fun a => okP (J25_85 a x c) fun r => r.1 = c ∧ ∃ va ve b, Q va ve ∧ va.length = 32 ∧ ve.length = 32 ∧ b.length = 256 ∧ r.2 = s_lastConflict (clr (s_version (s_value p va) ve) x.toInt.toNat b) (-1) := by
    apply okP.some
    unfold J25_85 F26
    have g2 : Sh K n (s_version (s_value p va) ve) := Sh_ve (Sh_va g a4) a5
    apply okP.bind
    apply okP.bind
    refine okP.mono (clear_ok g2 hx hx8) ?_
    rintro _ ⟨b, hb, rfl⟩
    apply okP.some
    apply okP.some
    exact ⟨rfl, va, ve, b, a3, a4, a5, hb, rfl⟩
  obtain ⟨_, he, exi⟩ := exi
  cases he
  apply okP.ite
  · intro c1
    apply okP.ite
    · intro c2
      rw [i_lt, e32] at c2
      have e2 : (w.1 + 1).toInt = w.1.toInt + 1 := inc1 (by omega)
      have ej := bufi hx hx8 a1 c2
      apply okP.bind
      apply okP.some
      apply okP.ite
      · intro _
        apply okP.some
        exact ⟨⟨by show 0 ≤ (w.1 + 1).toInt; omega, by show (w.1 + 1).toInt ≤ 32; omega, va, ve, a3, a4, a5, rfl⟩, by show (32 - (w.1 + 1).toInt).toNat < (32 - w.1.toInt).toNat; omega⟩
      · intro _
        unfold F28
        apply okP.bind
        apply okP.some
        apply okP.bind
        refine okP.aget (by omega) (by omega) (fun v hv => ?_)
        apply okP.bind
        refine okP.aset a1 (by show _ < (va.length : Int); omega) ?_
        apply okP.bind
        refine okP.aset a1 (by show _ < (ve.length : Int); omega) ?_
        apply okP.some
        refine ⟨⟨by show 0 ≤ (w.1 + 1).toInt; omega, by show (w.1 + 1).toInt ≤ 32; omega, va.set w.1.toInt.toNat v, ve.set w.1.toInt.toNat c, hQ _ _ _ _ a4 a5 (by omega) a3, by rw [List.length_set]; exact a4, by rw [List.length_set]; exact a5, rfl⟩, by show (32 - (w.1 + 1).toInt).toNat < (32 - w.1.toInt).toNat; omega⟩
    · intro c2
      exact okP.some exi
  · intro c1
    exact okP.some exi
/-- what a commit that fails leaves, and an abort -/
theorem commit_ok {K n : Int32} {o : Ob} (h : Sh K n o) (hn : n.toInt ≤ 8) (hK0 : 0 ≤ K.toInt) (hK : K.toInt ≤ 32) (x : Int32) (Q : List Int32 → List Int32 → Prop) (hQ0 : Q (f_value o) (f_version o)) (hQ : ∀ va ve i y, va.length = 32 → ve.length = 32 → i < 32 → Q va ve → Q (va.set i y) (ve.set i (f_commitCount o + 1))) : okP (F5 o x) (fun r => (F4 o x = some 0 ∧ r = (-1, o)) ∨ (0 ≤ x.toInt ∧ x.toInt < n.toInt ∧ (∃ w, w ≠ 0 ∧ F4 o x = some w) ∧ ((∃ va ve b, Q va ve ∧ va.length = 32 ∧ ve.length = 32 ∧ b.length = 256 ∧ r = (f_commitCount o + 1, s_lastConflict (clr (s_version (s_value (s_commitCount o (f_commitCount o + 1)) va) ve) x.toInt.toNat b) (-1))) ∨ ∃ b k, b.length = 256 ∧ r.2 = s_lastConflict (s_abortCount (clr o x.toInt.toNat b) (f_abortCount o + 1)) k))) := by
  unfold F5
  apply okP.bind
  obtain ⟨w, hw, q⟩ := vtx h hn x
  refine okP.of hw ?_
  rcases q with rfl | ⟨q0, q1, q2⟩
  · rw [if_pos rfl]; exact okP.some (Or.inl ⟨hw, rfl⟩)
  rw [if_neg q0]
  have q8 : x.toInt < 8 := by omega
  have fail : ∀ k c : Int32, okP (F30 o x k c) (fun r => ∃ b k, b.length = 256 ∧ r.2 = s_lastConflict (s_abortCount (clr o x.toInt.toNat b) (f_abortCount o + 1)) k) := by
    intro k c
    unfold F30 F26
    apply okP.bind
    apply okP.bind
    refine okP.mono (clear_ok h q1 q8) ?_
    rintro _ ⟨b, hb, rfl⟩
    apply okP.some
    apply okP.some
    exact ⟨b, k, hb, rfl⟩
  apply okP.bind
  refine okP.mono (stale_ok h q1 q8) (fun r1 _ => ?_)
  apply okP.ite <;> intro _
  · apply okP.bind
    refine okP.mono (least_ok h hK0 hK q1 q8) (fun r2 _ => ?_)
    apply okP.ite <;> intro _
    · apply okP.bind
      refine okP.mono (install_ok h hK0 hK q1 q8 Q hQ0 hQ) ?_
      rintro r ⟨e, va, ve, b, e1, e2, e3, e4, e5⟩
      apply okP.some
      exact Or.inr ⟨q1, q2, ⟨w, q0, hw⟩, Or.inl ⟨va, ve, b, e1, e2, e3, e4, by rw [e, e5]⟩⟩
    · apply okP.bind
      refine okP.mono (fail _ _) (fun r hr => okP.some (Or.inr ⟨q1, q2, ⟨w, q0, hw⟩, Or.inr hr⟩))
  · apply okP.bind
    refine okP.mono (fail _ _) (fun r hr => okP.some (Or.inr ⟨q1, q2, ⟨w, q0, hw⟩, Or.inr hr⟩))
theorem abort_ok {K n : Int32} {o : Ob} (h : Sh K n o) (hn : n.toInt ≤ 8) (x : Int32) : okP (F29 o x) (fun r => (F4 o x = some 0 ∧ r = (-1, o)) ∨ (0 ≤ x.toInt ∧ x.toInt < n.toInt ∧ (∃ w, w ≠ 0 ∧ F4 o x = some w) ∧ ∃ b, b.length = 256 ∧ r = (0, s_abortCount (clr o x.toInt.toNat b) (f_abortCount o + 1)))) := by
  unfold F29
  apply okP.bind
  obtain ⟨w, hw, q⟩ := vtx h hn x
  refine okP.of hw ?_
  rcases q with rfl | ⟨q0, q1, q2⟩
  · rw [if_pos rfl]; exact okP.some (Or.inl ⟨hw, rfl⟩)
  rw [if_neg q0]
  have q8 : x.toInt < 8 := by omega
  unfold F26
  apply okP.bind
  apply okP.bind
  refine okP.mono (clear_ok h q1 q8) ?_
  rintro _ ⟨b, hb, rfl⟩
  apply okP.some
  apply okP.some
  exact Or.inr ⟨q1, q2, ⟨w, q0, hw⟩, b, hb, rfl⟩
/-- the getters -/
theorem getValue_ok {K n : Int32} {o : Ob} (h : Sh K n o) (hK : K.toInt ≤ 32) (x : Int32) : okP (F10 o x) (fun _ => True) := by
  unfold F10
  apply okP.bind
  refine okP.mono (vkey h hK x) ?_
  rintro r (⟨rfl, _⟩ | ⟨q3, q4, q5⟩)
  · rw [if_pos rfl]; exact okP.some trivial
  rw [if_neg q3]
  have := h.1
  repeat' with_reducible (first | apply okP.bind | apply okP.some | (apply okP.ite <;> intro _) | refine okP.aget ?_ ?_ (fun v hv => ?_) | refine okP.aset ?_ ?_ ?_)
  · exact q4
  · omega
  · trivial
theorem getVersion_ok {K n : Int32} {o : Ob} (h : Sh K n o) (hK : K.toInt ≤ 32) (x : Int32) : okP (F12 o x) (fun _ => True) := by
  unfold F12
  apply okP.bind
  refine okP.mono (vkey h hK x) ?_
  rintro r (⟨rfl, _⟩ | ⟨q3, q4, q5⟩)
  · rw [if_pos rfl]; exact okP.some trivial
  rw [if_neg q3]
  have := h.2.1
  repeat' with_reducible (first | apply okP.bind | apply okP.some | (apply okP.ite <;> intro _) | refine okP.aget ?_ ?_ (fun v hv => ?_) | refine okP.aset ?_ ?_ ?_)
  · exact q4
  · omega
  · trivial
theorem getStart_ok {K n : Int32} {o : Ob} (h : Sh K n o) (hn : n.toInt ≤ 8) (x : Int32) : okP (F13 o x) (fun _ => True) := by
  unfold F13
  apply okP.bind
  refine okP.mono (vtx h hn x) ?_
  rintro r (rfl | ⟨q3, q4, q5⟩)
  · rw [if_pos rfl]; exact okP.some trivial
  rw [if_neg q3]
  have := h.2.2.2.1
  repeat' with_reducible (first | apply okP.bind | apply okP.some | (apply okP.ite <;> intro _) | refine okP.aget ?_ ?_ (fun v hv => ?_) | refine okP.aset ?_ ?_ ?_)
  · exact q4
  · omega
  · trivial
theorem getReadSet_ok {K n : Int32} {o : Ob} (h : Sh K n o) (hn : n.toInt ≤ 8) (x : Int32) : okP (F14 o x) (fun _ => True) := by
  unfold F14
  apply okP.bind
  refine okP.mono (vtx h hn x) ?_
  rintro r (rfl | ⟨q3, q4, q5⟩)
  · rw [if_pos rfl]; exact okP.some trivial
  rw [if_neg q3]
  have := h.2.2.2.2.1
  repeat' with_reducible (first | apply okP.bind | apply okP.some | (apply okP.ite <;> intro _) | refine okP.aget ?_ ?_ (fun v hv => ?_) | refine okP.aset ?_ ?_ ?_)
  · exact q4
  · omega
  · trivial
theorem getWriteSet_ok {K n : Int32} {o : Ob} (h : Sh K n o) (hn : n.toInt ≤ 8) (x : Int32) : okP (F15 o x) (fun _ => True) := by
  unfold F15
  apply okP.bind
  refine okP.mono (vtx h hn x) ?_
  rintro r (rfl | ⟨q3, q4, q5⟩)
  · rw [if_pos rfl]; exact okP.some trivial
  rw [if_neg q3]
  have := h.2.2.2.2.2.1
  repeat' with_reducible (first | apply okP.bind | apply okP.some | (apply okP.ite <;> intro _) | refine okP.aget ?_ ?_ (fun v hv => ?_) | refine okP.aset ?_ ?_ ?_)
  · exact q4
  · omega
  · trivial
theorem getBuffered_ok {K n : Int32} {o : Ob} (h : Sh K n o) (hn : n.toInt ≤ 8) (hK : K.toInt ≤ 32) (x y : Int32) : okP (F16 o x y) (fun _ => True) := by
  unfold F16
  apply okP.bind
  refine okP.mono (vtx h hn x) ?_
  rintro r (rfl | ⟨q3, q4, q5⟩)
  · rw [if_pos rfl]; exact okP.some trivial
  rw [if_neg q3]
  apply okP.bind
  refine okP.mono (vkey h hK y) ?_
  rintro r' (⟨rfl, _⟩ | ⟨q6, q7, q8⟩)
  · rw [if_pos rfl]; exact okP.some trivial
  rw [if_neg q6]
  have := h.2.2.2.2.2.1
  have := h.2.2.2.2.2.2.1
  have eb := bufi q4 (by omega) q7 (by omega)
  unfold F22 F28
  repeat' with_reducible (first | apply okP.bind | apply okP.some | (apply okP.ite <;> intro _) | refine okP.aget ?_ ?_ (fun v hv => ?_) | refine okP.aset ?_ ?_ ?_)
  · exact q4
  · omega
  · trivial
  · omega
  · omega
  · trivial
theorem vtx1 {K n : Int32} {o : Ob} (h : Sh K n o) (hn : n.toInt ≤ 8) (x : Int32) : F4 o x = some 0 ∨ F4 o x = some 1 := by
  obtain ⟨h1, h2, h3, h4, h5, h6, h7, h8, h9⟩ := h
  have : okP (F4 o x) (fun r => r = 0 ∨ r = 1) := by
    unfold F4
    rw [h9]
    repeat' with_reducible (first | apply okP.bind | apply okP.some | (apply okP.ite <;> intro _) | refine okP.aget ?_ ?_ (fun v hv => ?_) | refine okP.aset ?_ ?_ ?_)
    · exact Or.inl rfl
    · (simp only [i_lt, Int32.reduceToInt] at *; omega)
    · (simp only [i_lt, Int32.reduceToInt] at *; omega)
    · exact and1 v
    · exact Or.inl rfl
    · exact Or.inl rfl
  obtain ⟨r, e, rfl | rfl⟩ := this
  · exact Or.inl e
  · exact Or.inr e
theorem read_ref {K n : Int32} {o : Ob} (h : Sh K n o) (hn : n.toInt ≤ 8) (hK : K.toInt ≤ 32) {x y : Int32} (hr : F4 o x = some 0 ∨ ¬ (0 ≤ y.toInt ∧ y.toInt < K.toInt)) : F17 o x y = some (0, o) := by
  unfold F17
  rcases vtx1 h hn x with e | e
  · rw [e]; rfl
  · rcases hr with q | q
    · rw [q] at e; cases e
    · obtain ⟨r, e2, ⟨rfl, _⟩ | ⟨_, q2⟩⟩ := vkey h hK y
      · rw [e, e2]; rfl
      · exact absurd q2 q
theorem write_ref {K n : Int32} {o : Ob} (h : Sh K n o) (hn : n.toInt ≤ 8) (hK : K.toInt ≤ 32) {x y z : Int32} (hr : F4 o x = some 0 ∨ ¬ (0 ≤ y.toInt ∧ y.toInt < K.toInt)) : ∃ r, F27 o x y z = some (r, o) := by
  unfold F27
  rcases vtx1 h hn x with e | e
  · rw [e]; exact ⟨_, rfl⟩
  · rcases hr with q | q
    · rw [q] at e; cases e
    · obtain ⟨r, e2, ⟨rfl, _⟩ | ⟨_, q2⟩⟩ := vkey h hK y
      · rw [e, e2]; exact ⟨_, rfl⟩
      · exact absurd q2 q

theorem same_ok {K n : Int32} {o : Ob} (h : Sh K n o) (hn : n.toInt ≤ 8) (hK : K.toInt ≤ 32) : F6 o o = some 1 := by
  have e8 : (8 : Int32).toInt = 8 := rfl
  have e4 : (4 : Int32).toInt = 4 := rfl
  have l1 : okP (loopN (B6_41 o o) qN 0) (fun r => r = Sum.inl ()) := by
    refine okP.loop (fun w => 0 ≤ w.toInt ∧ w.toInt ≤ 8) (fun w => (8 - w.toInt).toNat) ⟨by show (0 : Int) ≤ 0; decide, by show (0 : Int) ≤ 8; decide⟩ (by show (8 - (0 : Int)).toNat < 4000; decide) ?_
    intro w ⟨a1, a2⟩
    unfold B6_41
    apply okP.ite
    · intro c
      rw [i_lt, e8] at c
      have e2 : (w + 1).toInt = w.toInt + 1 := inc1 (by omega)
      obtain ⟨a, ha, _⟩ := getValue_ok h hK w
      obtain ⟨b, hb, _⟩ := getVersion_ok h hK w
      rw [ha, hb]
      simp only [Option.bind_some, if_pos rfl]
      apply okP.some
      exact ⟨⟨by omega, by omega⟩, by omega⟩
    · intro c
      apply okP.some
      rfl
  have l3 : ∀ x : Int32, okP (loopN (B6_152 o o x) qN 0) (fun r => r = Sum.inl ()) := by
    intro x
    refine okP.loop (fun w => 0 ≤ w.toInt ∧ w.toInt ≤ 8) (fun w => (8 - w.toInt).toNat) ⟨by show (0 : Int) ≤ 0; decide, by show (0 : Int) ≤ 8; decide⟩ (by show (8 - (0 : Int)).toNat < 4000; decide) ?_
    intro w ⟨a1, a2⟩
    unfold B6_152
    apply okP.ite
    · intro c
      rw [i_lt, e8] at c
      have e2 : (w + 1).toInt = w.toInt + 1 := inc1 (by omega)
      obtain ⟨a, ha, _⟩ := getBuffered_ok h hn hK x w
      rw [ha]
      simp only [Option.bind_some, if_pos rfl]
      apply okP.some
      exact ⟨⟨by omega, by omega⟩, by omega⟩
    · intro c
      apply okP.some
      rfl
  have l2 : okP (loopN (B6_85 o o) qN 0) (fun r => r = 1) := by
    refine okP.loop (fun w => 0 ≤ w.toInt ∧ w.toInt ≤ 4) (fun w => (4 - w.toInt).toNat) ⟨by show (0 : Int) ≤ 0; decide, by show (0 : Int) ≤ 4; decide⟩ (by show (4 - (0 : Int)).toNat < 4000; decide) ?_
    intro w ⟨a1, a2⟩
    unfold B6_85
    apply okP.ite
    · intro c
      rw [i_lt, e4] at c
      have e2 : (w + 1).toInt = w.toInt + 1 := inc1 (by omega)
      obtain ⟨a, ha⟩ : ∃ a, F3 o w = some a := by
        unfold F3
        rcases vtx1 h hn w with e | e <;> rw [e] <;> exact ⟨_, rfl⟩
      obtain ⟨b, hb, _⟩ := getStart_ok h hn w
      obtain ⟨c, hc, _⟩ := getReadSet_ok h hn w
      obtain ⟨d, hd, _⟩ := getWriteSet_ok h hn w
      obtain ⟨f, hf, rfl⟩ := l3 w
      rw [ha, hb, hc, hd]
      simp only [Option.bind_some, if_pos rfl, hf]
      apply okP.some
      exact ⟨⟨by omega, by omega⟩, by omega⟩
    · intro c
      apply okP.some
      rfl
  obtain ⟨_, q1, rfl⟩ := l1
  obtain ⟨_, q2, rfl⟩ := l2
  unfold F6 F7 F8 F9
  simp only [Option.bind_some, if_true, q1, q2]
theorem law_ok (s : List Int32) (hs : s.length ≤ 260) : ∃ τ, F0 s = some (1, τ) ∧ τ.length - List.length ([Sum.inr (Sum.inl (FieldType.int, s))] : QHeap) ≤ room_1.cells ∧ qhs τ - qhs [Sum.inr (Sum.inl (FieldType.int, s))] ≤ room_1.slots := by
  have h8 : (8 : Int32).toInt ≤ 32 := by decide
  have h4 : (4 : Int32).toInt ≤ 8 := by decide
  have h80 : 0 ≤ (8 : Int32).toInt := by decide
  have h40 : 0 ≤ (4 : Int32).toInt := by decide
  obtain ⟨o, ho, hS⟩ : ∃ o, F1 8 4 3 = some o ∧ Sh 8 4 o := ⟨_, rfl, by refine ⟨?_, ?_, ?_, ?_, ?_, ?_, ?_, rfl, rfl⟩ <;> exact List.length_replicate⟩
  have hl := len_i (n := s.length) (by omega)
  have key : okP (loopN (B0_26 s) qN (0, o, o)) (fun e => e.1 = 1 ∧ sFit s e.2) := by
    refine okP.loop (fun v => 0 ≤ v.1.toInt ∧ v.1.toInt ≤ 260 ∧ v.2.1 = v.2.2 ∧ Sh 8 4 v.2.1) (fun v => (264 - v.1.toInt).toNat) ⟨by show (0 : Int) ≤ 0; decide, by show (0 : Int) ≤ 260; decide, rfl, hS⟩ (by show (264 - (0 : Int)).toNat < 4000; decide) ?_
    rintro ⟨i, o, o'⟩ ⟨a1, a2, a3, a4⟩
    simp only at a1 a2 a3 a4
    subst a3
    unfold B0_26
    have e1 : (1 : Int32).toInt = 1 := rfl
    have e2 : (2 : Int32).toInt = 2 := rfl
    have e3 : (3 : Int32).toInt = 3 := rfl
    have e4 : (4 : Int32).toInt = 4 := rfl
    have i1 : (i + 1).toInt = i.toInt + 1 := by rw [i_add (by omega) (by omega), e1]
    have i2 : (i + 2).toInt = i.toInt + 2 := by rw [i_add (by omega) (by omega), e2]
    have i3 : (i + 3).toInt = i.toInt + 3 := by rw [i_add (by omega) (by omega), e3]
    have i4 : (i + 4).toInt = i.toInt + 4 := by rw [i_add (by omega) (by omega), e4]
    apply okP.ite
    · intro c
      rw [i_lt, hl] at c
      simp only at c
      apply okP.bind
      refine okP.aget (by simp only; omega) (by simp only; omega) (fun y0 _ => ?_)
      apply okP.bind
      refine okP.aget (by simp only; omega) (by simp only; omega) (fun y1 _ => ?_)
      apply okP.bind
      refine okP.aget (by simp only; omega) (by simp only; omega) (fun y2 _ => ?_)
      apply okP.bind
      refine okP.aget (by simp only; omega) (by simp only; omega) (fun y3 _ => ?_)
      obtain ⟨op, hop⟩ : ∃ op, op = (y0 &&& 2147483647) % 5 := ⟨_, rfl⟩
      rw [← hop]
      have fin : ∀ p, Sh 8 4 p → okP (J0_305 s p p i) (fun r => Sum.elim (fun e => e.1 = 1 ∧ sFit s e.2) (fun v' => (0 ≤ v'.1.toInt ∧ v'.1.toInt ≤ 260 ∧ v'.2.1 = v'.2.2 ∧ Sh 8 4 v'.2.1) ∧ (264 - v'.1.toInt).toNat < (264 - i.toInt).toNat) r) := by
        intro p hp
        unfold J0_305
        apply okP.some
        exact ⟨⟨by simp only; omega, by simp only; omega, rfl, hp⟩, by simp only; omega⟩
      have fin2 : ∀ p, Sh 8 4 p → ∀ z, okP (J0_286 s p p i z z) (fun r => Sum.elim (fun e => e.1 = 1 ∧ sFit s e.2) (fun v' => (0 ≤ v'.1.toInt ∧ v'.1.toInt ≤ 260 ∧ v'.2.1 = v'.2.2 ∧ Sh 8 4 v'.2.1) ∧ (264 - v'.1.toInt).toNat < (264 - i.toInt).toNat) r) := by
        intro p hp z
        unfold J0_286
        rw [if_pos rfl, same_ok hp h4 h8]
        simp only [Option.bind_some]
        rw [if_neg (by decide)]
        exact fin p hp
      have ref : ∀ f a z : Int32, f ≠ 0 → okP (J0_192 s o o i a y1 y2 y3 f z) (fun r => Sum.elim (fun e => e.1 = 1 ∧ sFit s e.2) (fun v' => (0 ≤ v'.1.toInt ∧ v'.1.toInt ≤ 260 ∧ v'.2.1 = v'.2.2 ∧ Sh 8 4 v'.2.1) ∧ (264 - v'.1.toInt).toNat < (264 - i.toInt).toNat) r) := by
        intro f a z hf
        unfold J0_192
        rw [if_neg hf, same_ok a4 h4 h8]
        simp only [Option.bind_some]
        rw [if_neg (by decide)]
        exact fin o a4
      obtain ⟨ra, hra, rz⟩ : ∃ r, F3 o y1 = some r ∧ (r = 0 → F4 o y1 = some 0) := by
        unfold F3
        rcases vtx1 a4 h4 y1 with e | e
        · rw [e]; exact ⟨_, rfl, fun _ => rfl⟩
        · rw [e]; exact ⟨_, rfl, fun q => absurd q (by decide)⟩
      apply okP.bind
      refine okP.of hra ?_
      apply okP.ite
      · intro hop
        obtain ⟨r, hr, q⟩ := begin_ok a4 h40 h4
        apply okP.bind
        refine okP.of hr ?_
        rcases q with ⟨rfl, _⟩ | ⟨q1, q2, q3, b, hb, q4⟩
        · exact ref _ _ _ (by show (if (-5 : Int32) = -5 then (1 : Int32) else 0) ≠ 0; decide)
        · have : ¬ r.1 = -5 := by intro h; rw [h] at q1; revert q1; decide
          rw [if_neg this]
          unfold J0_192
          rw [if_pos rfl, if_pos hop, hr]
          exact fin2 _ (by rw [q4]; exact Sh_opn a4 _ hb) _
      intro n0
      apply okP.ite
      · intro hop
        obtain ⟨r, hr, q⟩ := read_ok a4 h4 h8 y1 y2
        apply okP.bind
        refine okP.of hr ?_
        obtain ⟨f, hf⟩ : ∃ f, f = (if ra = 0 then 1 else if (2 : Int32) < op then 0 else if y2 < 0 then 1 else if y2 < 8 then 0 else 1 : Int32) := ⟨_, rfl⟩
        rw [← hf]
        by_cases f0 : f = 0
        · rw [f0]
          unfold J0_192
          rw [if_pos rfl, if_neg n0, if_pos hop, hr]
          refine fin2 _ ?_ _
          rcases q with q | ⟨q1, q2, w, q3⟩
          · rw [q]; exact a4
          · rw [q3]; exact Sh_rd a4 (by rw [List.length_set]; exact a4.2.2.2.2.1)
        · have : F4 o y1 = some 0 ∨ ¬ (0 ≤ y2.toInt ∧ y2.toInt < (8 : Int32).toInt) := by
            by_cases z1 : ra = 0
            · exact Or.inl (rz z1)
            · right
              rw [if_neg z1, hop, if_neg (by decide)] at hf
              intro ⟨g1, g2⟩
              rw [if_neg (by rw [i_lt]; show ¬ y2.toInt < 0; omega), if_pos (by rw [i_lt]; exact g2)] at hf
              exact f0 hf
          have e := read_ref a4 h4 h8 this
          rw [e] at hr
          cases hr
          exact ref _ _ _ f0
      intro n1
      apply okP.ite
      · intro hop
        obtain ⟨r, hr, q⟩ := write_ok a4 h4 h8 y1 y2 y3
        apply okP.bind
        refine okP.of hr ?_
        obtain ⟨f, hf⟩ : ∃ f, f = (if ra = 0 then 1 else if (2 : Int32) < op then 0 else if y2 < 0 then 1 else if y2 < 8 then 0 else 1 : Int32) := ⟨_, rfl⟩
        rw [← hf]
        by_cases f0 : f = 0
        · rw [f0]
          unfold J0_192
          rw [if_pos rfl, if_neg n0, if_neg n1, if_pos hop, hr]
          refine fin2 _ ?_ _
          rcases q with q | ⟨q1, q2, w, b, hb, q3⟩
          · rw [q]; exact a4
          · rw [q3]; exact Sh_buf (Sh_wr a4 (by rw [List.length_set]; exact a4.2.2.2.2.2.1)) hb
        · have : F4 o y1 = some 0 ∨ ¬ (0 ≤ y2.toInt ∧ y2.toInt < (8 : Int32).toInt) := by
            by_cases z1 : ra = 0
            · exact Or.inl (rz z1)
            · right
              rw [if_neg z1, hop, if_neg (by decide)] at hf
              intro ⟨g1, g2⟩
              rw [if_neg (by rw [i_lt]; show ¬ y2.toInt < 0; omega), if_pos (by rw [i_lt]; exact g2)] at hf
              exact f0 hf
          obtain ⟨z, e⟩ := write_ref (z := y3) a4 h4 h8 this
          rw [e] at hr
          cases hr
          exact ref _ _ _ f0
      intro n2
      have fr : ∀ f, f = (if ra = 0 then 1 else if (2 : Int32) < op then 0 else if y2 < 0 then 1 else if y2 < 8 then 0 else 1 : Int32) → f ≠ 0 → 2 < op → F4 o y1 = some 0 := by
        intro f hf f0 ho
        by_cases z1 : ra = 0
        · exact rz z1
        · rw [if_neg z1, if_pos ho] at hf; exact absurd hf f0
      have o2 : 2 < op := by
        have r1 := (and_rng (x := y0) (m := 2147483647) (by decide)).1
        have r2 := mod_rng (m := 5) r1 (by decide)
        rw [← hop] at r2
        rw [i_lt, e2]
        rw [i_eq] at n0 n1 n2
        have z0 : (0 : Int32).toInt = 0 := rfl
        omega
      apply okP.ite
      · intro hop
        obtain ⟨r, hr, q⟩ := commit_ok a4 h4 h80 h8 y1 (fun _ _ => True) trivial (fun _ _ _ _ _ _ _ _ => trivial)
        apply okP.bind
        refine okP.of hr ?_
        obtain ⟨f, hf⟩ : ∃ f, f = (if ra = 0 then 1 else if (2 : Int32) < op then 0 else if y2 < 0 then 1 else if y2 < 8 then 0 else 1 : Int32) := ⟨_, rfl⟩
        rw [← hf]
        by_cases f0 : f = 0
        · rw [f0]
          unfold J0_192
          rw [if_pos rfl, if_neg n0, if_neg n1, if_neg n2, if_pos hop, hr]
          refine fin2 _ ?_ _
          rcases q with ⟨_, q⟩ | ⟨q1, q2, _, ⟨va, ve, b, _, v1, v2, v3, v4⟩ | ⟨b, k, v1, v2⟩⟩
          · rw [q]; exact a4
          · rw [v4]; exact Sh_lc (Sh_clr (Sh_ve (Sh_va (Sh_cc a4 _) v1) v2) _ v3) _
          · rw [v2]; exact Sh_lc (Sh_ab (Sh_clr a4 _ v1) _) _
        · have e := fr f hf f0 o2
          rcases q with ⟨_, q⟩ | ⟨q1, q2, ⟨w, w0, w1⟩, _⟩
          · rw [q]; exact ref _ _ _ f0
          · rw [e] at w1; cases w1; exact absurd rfl w0
      · intro n3
        obtain ⟨r, hr, q⟩ := abort_ok a4 h4 y1
        apply okP.bind
        refine okP.of hr ?_
        obtain ⟨f, hf⟩ : ∃ f, f = (if ra = 0 then 1 else if (2 : Int32) < op then 0 else if y2 < 0 then 1 else if y2 < 8 then 0 else 1 : Int32) := ⟨_, rfl⟩
        rw [← hf]
        by_cases f0 : f = 0
        · rw [f0]
          unfold J0_192
          rw [if_pos rfl, if_neg n0, if_neg n1, if_neg n2, if_neg n3, hr]
          refine fin2 _ ?_ _
          rcases q with ⟨_, q⟩ | ⟨q1, q2, _, b, v1, v2⟩
          · rw [q]; exact a4
          · rw [v2]; exact Sh_ab (Sh_clr a4 _ v1) _
        · have e := fr f hf f0 o2
          rcases q with ⟨_, q⟩ | ⟨q1, q2, ⟨w, w0, w1⟩, _⟩
          · rw [q]; exact ref _ _ _ f0
          · rw [e] at w1; cases w1; exact absurd rfl w0
    · intro c
      apply okP.some
      obtain ⟨z1, z2, z3, z4, z5, z6, z7, _, _⟩ := a4
      refine ⟨rfl, by show 17 - 1 ≤ _; decide, ?_⟩
      simp only [H1, qhs, qsz, z1, z2, z3, z4, z5, z6, z7]
      show _ ≤ _
      simp only [cN, room_1]
      omega
  unfold F0
  rw [ho]
  simp only [Option.bind_some]
  obtain ⟨⟨r, τ⟩, q1, q2, q3⟩ := key
  rw [q1]
  simp only at q2
  subst q2
  exact ⟨τ, rfl, q3⟩
set_option maxRecDepth 65536 in
theorem comes_1 {Post : Tables → Env → Array Value → State → Outcome → State → Prop} (hpost : ∀ tb e args s v u, (limb_1_1.after args s (.returned v) u = true ∧ limb_1_2.after args s (.returned v) u = true ∧ True) → FrameEnd s (.returned v) u (Jvm.fieldLocs frame_1_writes args s ++ Jvm.arrayLocs frame_1_arrays args s ++ Jvm.staticLocs frame_1_statics s) 40 1536 → Post tb e args s (.returned v) u) :
    ArmFor flags0 classFile x code maxLocals ret World_1 tables_1 room_1 Calls_1 rest_1 Pre_1 Post := by
  intro l hfl _ _ p e ha hc hk s m args below hf hA hF happ hP
  obtain ⟨hcalls, hrest, hpre⟩ := hP
  obtain ⟨-, -, -, hnamed, -, -, -, hat⟩ := (Spec.applies_iff hf).mp happ
  obtain ⟨hg, hn⟩ := and_e (Cond.before_iff.mp (show (Jvm.Cond.and given_1 narrow_1).before args s = true from hpre))
  obtain ⟨g0, g1⟩ := and_e hg
  obtain ⟨w0, rfl⟩ : ∃ w0 : Value, args = #[w0] := by
    have hs : args.size = 1 := by simpa [Cond.value, given_1] using g0
    obtain ⟨L⟩ := args
    match L, hs with
    | [w0], _ => exact ⟨w0, rfl⟩
  have hw := fun d (hd : d ∈ tables_1) => atoms_spec (ws := Jvm.Cond.code x code maxLocals ret :: tables_1) hat d (List.mem_cons_of_mem _ hd)
  have hfit : Fit s := fun {y c} hc i hi => by
    obtain ⟨ha, rfl⟩ := Array.getElem?_eq_some_iff.mp hc
    have q := List.all_eq_true.mp ((Array.all_eq_true_iff_forall_mem.mp hF) _ (Array.getElem_mem ha)) i (List.mem_range.mpr hi)
    simpa [Array.getElem?_eq_getElem hi] using q
  obtain ⟨n1, n2⟩ := and_e hn
  obtain ⟨a, cl, xs, rfl, hA1, hA2, hlen⟩ := script_ok hfit n1 n2
  obtain ⟨τ, hF0, hc1, hs1⟩ := law_ok xs hlen
  have hlt := hA1.lt
  have Ad : QAd s.heap.size (fun k => match k with | 0 => a | k + 1 => s.heap.size + k) := ⟨fun k hk => by cases k with | zero => exact absurd hk (by decide) | succ k => rfl, fun i j h => by
    cases i with
    | zero => cases j with
      | zero => rfl
      | succ j => have h' : a = s.heap.size + j := h; exact absurd hA1.lt (by rw [h']; exact Nat.not_lt.mpr (Nat.le_add_right _ _))
    | succ i => cases j with
      | zero => have h' : s.heap.size + i = a := h; exact absurd hA1.lt (by rw [← h']; exact Nat.not_lt.mpr (Nat.le_add_right _ _))
      | succ j => have h' : s.heap.size + i = s.heap.size + j := h; omega⟩
  have hR : QRep s s.heap.size (fun k => match k with | 0 => a | k + 1 => s.heap.size + k) s.heap [.inr (.inl (.int, xs))] := ⟨Nat.le_refl _, rfl, fun k c h => by
    cases k with
    | zero => cases h; exact ⟨cl, hA1, hA2⟩
    | succ k => cases h⟩
  have T := tF0 (l := l) (Z := s) Ad (QW_ok hw) xs hF0
  have M := QTri.met (k := 0) (as := [.ref 0]) (by decide) T hR (Nat.le_of_ble_eq_true rfl) (fun q => by cases q) tables_1 (rm := room_1) (by decide) (by decide) hc1 hs1
  obtain ⟨n, o, h1, h2, h3, _, L, rfl, ⟨rfl, R', N⟩, hq⟩ := M p e ha hc hk s m _ below hf ((Spec.applies_iff_loose hf).mp happ).1 ⟨rfl, State.Warmed39.refl s, rfl⟩ trivial
  refine ⟨n, _, h1, h2, h3, hpost _ _ _ _ _ _ ⟨Cond.after_iff.mpr rfl, Cond.after_iff.mpr (eq_i res_at (Term.int_eval (1)) rfl), trivial⟩ ⟨hq.1, hq.2.1, (hq.2.2.sift fun y hy => Or.inr (N y hy)).mono hc1 hs1⟩⟩
theorem main_1_1 : Claimed_1_1 := comes_1 fun _ _ _ _ _ _ h hF => ⟨h.1, hF⟩
theorem main_1_2 : Claimed_1_2 := comes_1 fun _ _ _ _ _ _ h hF => ⟨h.2.1, hF⟩
end Jvm.Pilot.@@N@@
namespace Jvm.Pilot.@@N@@
open Jvm Jvm.ClassFile Sem Op Lib Jvm.Free Jvm.Stand Jvm.Pilot.@@N@@.Jvm.D
/-! MADE BY PROGRAM (witnessworld.py) out of the Statement's table words and the real class files: 11 classes; the members and pool entries that the words name. The judged class is class 1, her method 2. -/
namespace start1
open Jvm.ClassFile
def u (s : String) : CpInfo := .utf8 (stringToUtf16 s)
/-- a pool by its gaps: so many unusable entries, then the entry; so many at the end -/
def gap : Nat → List CpInfo → List CpInfo
  | 0, r => r
  | n + 1, r => .unusable :: gap n r
def poolList (es : List (Nat × CpInfo)) (last : Nat) : List CpInfo := es.foldr (fun e r => gap e.1 (e.2 :: r)) (gap last [])
def pool (es : List (Nat × CpInfo)) (last : Nat) : Array CpInfo := ⟨poolList es last⟩
def fileOf (pool : Array CpInfo) (this : Nat) (attrs : Array Attribute := #[]) (ms : Array MethodInfo := #[]) (fl : Nat := 33) (sup : Nat := 0) (ifs : Array Nat := #[]) (fds : Array FieldInfo := #[]) : ClassFile where
  minorVersion := 0
  majorVersion := 65
  constantPool := pool
  accessFlags := fl
  thisClass := this
  superClass := sup
  interfaces := ifs
  fields := fds
  methods := ms
  attributes := attrs
def plain (name : String) (sup : Option ClassId) : Class where
  name := name
  kind := .ordinary
  loader := none
  accessFlags := 33
  super := sup
  interfaces := #[]
  cf := none
  fields := #[]
  methods := #[]
  instanceTypes := #[]
  staticTypes := #[]
  resolved := #[]
  callSites := []
  init := .initialized
  statics := none
  mirror := none

def pool0 : Array CpInfo := pool [(5, u "<init>"), (0, u "()V"), (1, .class_ 10), (1, u "java/lang/Object")] 113

def k0c0 : Code := { maxStack := 0, maxLocals := 1, code := object_method_1_code, exceptionTable := #[], attributes := #[] }
def k0m0 : Method := { name := "<init>", desc := "()V", sig := { parameters := [], returnType := none }, accessFlags := 1, code := some k0c0 }
/-- java/lang/Object -/
def k0 : Class := { plain "java/lang/Object" none with
  accessFlags := 33
  interfaces := #[]
  cf := some (fileOf pool0 8 #[] #[{ accessFlags := 1, nameIndex := 5, descriptorIndex := 6, attributes := #[] }] 33 0 #[] #[])
  fields := #[]
  methods := #[k0m0]
  instanceTypes := #[]
  staticTypes := #[]
  resolved := Array.replicate 124 none
  statics := none }

def pool1 : Array CpInfo := pool [(2, .class_ 4), (1, u "java/lang/Object"), (0, u "<init>"), (0, u "()V"), (0, .methodref 8 9), (0, .class_ 10), (0, .nameAndType 11 12), (0, u "OccValidator"), (0, u "getCommitCount"), (0, u "()I"), (0, .methodref 8 14), (0, .nameAndType 15 12), (0, u "getAbortCount"), (0, .methodref 8 17), (0, .nameAndType 18 12), (0, u "getLastConflictKey"), (0, .methodref 8 20), (0, .nameAndType 21 22), (0, u "getValue"), (0, u "(I)I"), (0, .methodref 8 24), (0, .nameAndType 25 22), (0, u "getVersion"), (0, .methodref 8 27), (0, .nameAndType 28 29), (0, u "isActive"), (0, u "(I)Z"), (0, .methodref 8 31), (0, .nameAndType 32 22), (0, u "getStart"), (0, .methodref 8 34), (0, .nameAndType 35 22), (0, u "getReadSet"), (0, .methodref 8 37), (0, .nameAndType 38 22), (0, u "getWriteSet"), (0, .methodref 8 40), (0, .nameAndType 41 42), (0, u "getBuffered"), (0, u "(II)I"), (0, .methodref 8 44), (0, .nameAndType 5 45), (0, u "(III)V"), (0, .integer 2147483647), (0, .methodref 8 48), (0, .nameAndType 49 12), (0, u "begin"), (0, .methodref 8 51), (0, .nameAndType 52 42), (0, u "read"), (0, .methodref 8 54), (0, .nameAndType 55 56), (0, u "write"), (0, u "(III)I"), (0, .methodref 8 58), (0, .nameAndType 59 22), (0, u "commit"), (0, .methodref 8 61), (0, .nameAndType 62 22), (0, u "abort"), (0, .methodref 64 65), (0, .class_ 66), (0, .nameAndType 67 68), (0, u "OccValidatorL5"), (0, u "same"), (0, u "(LOccValidator;LOccValidator;)Z"), (3, u "law"), (0, u "([I)Z")] 4

def k1m0 : Method := { name := "<init>", desc := "()V", sig := { parameters := [], returnType := none }, accessFlags := 1, code := none }
def k1c1 : Code := { maxStack := 4, maxLocals := 4, code := method_2_code, exceptionTable := #[], attributes := #[] }
def k1m1 : Method := { name := "same", desc := "(LOccValidator;LOccValidator;)Z", sig := { parameters := [(.object "OccValidator"), (.object "OccValidator")], returnType := some .boolean }, accessFlags := 10, code := some k1c1 }
def k1c2 : Code := { maxStack := 5, maxLocals := 11, code := code, exceptionTable := #[], attributes := #[] }
def k1m2 : Method := { name := "law", desc := "([I)Z", sig := { parameters := [(.array .int)], returnType := some .boolean }, accessFlags := 9, code := some k1c2 }
/-- OccValidatorL5 -/
def k1 : Class := { plain "OccValidatorL5" (some 0) with
  accessFlags := 49
  interfaces := #[]
  cf := some (fileOf pool1 64 #[] #[{ accessFlags := 1, nameIndex := 5, descriptorIndex := 6, attributes := #[] }, { accessFlags := 10, nameIndex := 67, descriptorIndex := 68, attributes := #[] }, { accessFlags := 9, nameIndex := 72, descriptorIndex := 73, attributes := #[] }] 49 2 #[] #[])
  fields := #[]
  methods := #[k1m0, k1m1, k1m2]
  instanceTypes := #[]
  staticTypes := #[]
  resolved := Array.replicate 78 none
  statics := none }

def pool2 : Array CpInfo := pool [(1, .methodref 2 3), (0, .class_ 4), (0, .nameAndType 5 6), (0, u "java/lang/Object"), (0, u "<init>"), (0, u "()V"), (0, .fieldref 8 9), (0, .class_ 10), (0, .nameAndType 11 12), (0, u "OccValidator"), (0, u "value"), (0, u "[I"), (0, .fieldref 8 14), (0, .nameAndType 15 12), (0, u "version"), (0, .fieldref 8 17), (0, .nameAndType 18 19), (0, u "active"), (0, u "[Z"), (0, .fieldref 8 21), (0, .nameAndType 22 12), (0, u "start"), (0, .fieldref 8 24), (0, .nameAndType 25 12), (0, u "readSet"), (0, .fieldref 8 27), (0, .nameAndType 28 12), (0, u "writeSet"), (0, .fieldref 8 30), (0, .nameAndType 31 12), (0, u "buffered"), (0, .methodref 8 33), (0, .nameAndType 34 35), (0, u "clamp"), (0, u "(III)I"), (0, .fieldref 8 37), (0, .nameAndType 38 39), (0, u "keyCount"), (0, u "I"), (0, .fieldref 8 41), (0, .nameAndType 42 39), (0, u "slotCount"), (0, .fieldref 8 44), (0, .nameAndType 45 39), (0, u "window"), (0, .fieldref 8 47), (0, .nameAndType 48 39), (0, u "commitCount"), (0, .fieldref 8 50), (0, .nameAndType 51 39), (0, u "abortCount"), (0, .fieldref 8 53), (0, .nameAndType 54 39), (0, u "lastConflict"), (0, .methodref 8 56), (0, .nameAndType 57 58), (0, u "findFreeSlot"), (0, u "()I"), (0, .methodref 8 60), (0, .nameAndType 61 62), (0, u "openSlot"), (0, u "(I)V"), (0, .methodref 8 64), (0, .nameAndType 65 66), (0, u "isValidTx"), (0, u "(I)Z"), (0, .methodref 8 68), (0, .nameAndType 69 66), (0, u "isValidKey"), (0, .methodref 8 71), (0, .nameAndType 72 73), (0, u "bit"), (0, u "(I)I"), (0, .methodref 8 75), (0, .nameAndType 76 77), (0, u "bufIndex"), (0, u "(II)I"), (0, .methodref 8 79), (0, .nameAndType 80 66), (0, u "isStale"), (0, .methodref 8 82), (0, .nameAndType 83 35), (0, u "failCommit"), (0, .methodref 8 85), (0, .nameAndType 86 73), (0, u "leastConflict"), (0, .methodref 8 88), (0, .nameAndType 89 73), (0, u "install"), (0, .methodref 8 91), (0, .nameAndType 92 62), (0, u "endTx"), (0, .methodref 8 94), (0, .nameAndType 95 62), (0, u "clearSlot"), (0, u "OK"), (2, u "ERR_TX"), (1, u "ERR_KEY"), (1, u "ABORT_CONFLICT"), (1, u "ABORT_STALE"), (1, u "ERR_FULL"), (1, u "(III)V"), (2, u "begin"), (1, u "read"), (0, u "write"), (0, u "commit"), (0, u "abort"), (0, u "getValue"), (0, u "getVersion"), (0, u "getCommitCount"), (0, u "getAbortCount"), (0, u "getLastConflictKey"), (0, u "isActive"), (0, u "getStart"), (0, u "getReadSet"), (0, u "getWriteSet"), (0, u "getBuffered")] 2

def k2c0 : Code := { maxStack := 5, maxLocals := 4, code := prog_1_method_1_code, exceptionTable := #[], attributes := #[] }
def k2m0 : Method := { name := "<init>", desc := "(III)V", sig := { parameters := [.int, .int, .int], returnType := none }, accessFlags := 1, code := some k2c0 }
def k2c1 : Code := { maxStack := 2, maxLocals := 2, code := prog_1_method_2_code, exceptionTable := #[], attributes := #[] }
def k2m1 : Method := { name := "begin", desc := "()I", sig := { parameters := [], returnType := some .int }, accessFlags := 1, code := some k2c1 }
def k2c2 : Code := { maxStack := 4, maxLocals := 4, code := prog_1_method_3_code, exceptionTable := #[], attributes := #[] }
def k2m2 : Method := { name := "read", desc := "(II)I", sig := { parameters := [.int, .int], returnType := some .int }, accessFlags := 1, code := some k2c2 }
def k2c3 : Code := { maxStack := 5, maxLocals := 4, code := prog_1_method_4_code, exceptionTable := #[], attributes := #[] }
def k2m3 : Method := { name := "write", desc := "(III)I", sig := { parameters := [.int, .int, .int], returnType := some .int }, accessFlags := 1, code := some k2c3 }
def k2c4 : Code := { maxStack := 4, maxLocals := 3, code := prog_1_method_5_code, exceptionTable := #[], attributes := #[] }
def k2m4 : Method := { name := "commit", desc := "(I)I", sig := { parameters := [.int], returnType := some .int }, accessFlags := 1, code := some k2c4 }
def k2c5 : Code := { maxStack := 3, maxLocals := 2, code := prog_1_method_6_code, exceptionTable := #[], attributes := #[] }
def k2m5 : Method := { name := "abort", desc := "(I)I", sig := { parameters := [.int], returnType := some .int }, accessFlags := 1, code := some k2c5 }
def k2c6 : Code := { maxStack := 2, maxLocals := 2, code := prog_1_method_7_code, exceptionTable := #[], attributes := #[] }
def k2m6 : Method := { name := "getValue", desc := "(I)I", sig := { parameters := [.int], returnType := some .int }, accessFlags := 1, code := some k2c6 }
def k2c7 : Code := { maxStack := 2, maxLocals := 2, code := prog_1_method_8_code, exceptionTable := #[], attributes := #[] }
def k2m7 : Method := { name := "getVersion", desc := "(I)I", sig := { parameters := [.int], returnType := some .int }, accessFlags := 1, code := some k2c7 }
def k2c8 : Code := { maxStack := 1, maxLocals := 1, code := prog_1_method_9_code, exceptionTable := #[], attributes := #[] }
def k2m8 : Method := { name := "getCommitCount", desc := "()I", sig := { parameters := [], returnType := some .int }, accessFlags := 1, code := some k2c8 }
def k2c9 : Code := { maxStack := 1, maxLocals := 1, code := prog_1_method_10_code, exceptionTable := #[], attributes := #[] }
def k2m9 : Method := { name := "getAbortCount", desc := "()I", sig := { parameters := [], returnType := some .int }, accessFlags := 1, code := some k2c9 }
def k2c10 : Code := { maxStack := 1, maxLocals := 1, code := prog_1_method_11_code, exceptionTable := #[], attributes := #[] }
def k2m10 : Method := { name := "getLastConflictKey", desc := "()I", sig := { parameters := [], returnType := some .int }, accessFlags := 1, code := some k2c10 }
def k2c11 : Code := { maxStack := 2, maxLocals := 2, code := prog_1_method_12_code, exceptionTable := #[], attributes := #[] }
def k2m11 : Method := { name := "isActive", desc := "(I)Z", sig := { parameters := [.int], returnType := some .boolean }, accessFlags := 1, code := some k2c11 }
def k2c12 : Code := { maxStack := 2, maxLocals := 2, code := prog_1_method_13_code, exceptionTable := #[], attributes := #[] }
def k2m12 : Method := { name := "getStart", desc := "(I)I", sig := { parameters := [.int], returnType := some .int }, accessFlags := 1, code := some k2c12 }
def k2c13 : Code := { maxStack := 2, maxLocals := 2, code := prog_1_method_14_code, exceptionTable := #[], attributes := #[] }
def k2m13 : Method := { name := "getReadSet", desc := "(I)I", sig := { parameters := [.int], returnType := some .int }, accessFlags := 1, code := some k2c13 }
def k2c14 : Code := { maxStack := 2, maxLocals := 2, code := prog_1_method_15_code, exceptionTable := #[], attributes := #[] }
def k2m14 : Method := { name := "getWriteSet", desc := "(I)I", sig := { parameters := [.int], returnType := some .int }, accessFlags := 1, code := some k2c14 }
def k2c15 : Code := { maxStack := 4, maxLocals := 3, code := prog_1_method_16_code, exceptionTable := #[], attributes := #[] }
def k2m15 : Method := { name := "getBuffered", desc := "(II)I", sig := { parameters := [.int, .int], returnType := some .int }, accessFlags := 1, code := some k2c15 }
def k2c16 : Code := { maxStack := 2, maxLocals := 4, code := prog_1_method_17_code, exceptionTable := #[], attributes := #[] }
def k2m16 : Method := { name := "clamp", desc := "(III)I", sig := { parameters := [.int, .int, .int], returnType := some .int }, accessFlags := 2, code := some k2c16 }
def k2c17 : Code := { maxStack := 2, maxLocals := 2, code := prog_1_method_18_code, exceptionTable := #[], attributes := #[] }
def k2m17 : Method := { name := "isValidTx", desc := "(I)Z", sig := { parameters := [.int], returnType := some .boolean }, accessFlags := 2, code := some k2c17 }
def k2c18 : Code := { maxStack := 2, maxLocals := 2, code := prog_1_method_19_code, exceptionTable := #[], attributes := #[] }
def k2m18 : Method := { name := "isValidKey", desc := "(I)Z", sig := { parameters := [.int], returnType := some .boolean }, accessFlags := 2, code := some k2c18 }
def k2c19 : Code := { maxStack := 2, maxLocals := 2, code := prog_1_method_20_code, exceptionTable := #[], attributes := #[] }
def k2m19 : Method := { name := "bit", desc := "(I)I", sig := { parameters := [.int], returnType := some .int }, accessFlags := 2, code := some k2c19 }
def k2c20 : Code := { maxStack := 2, maxLocals := 3, code := prog_1_method_21_code, exceptionTable := #[], attributes := #[] }
def k2m20 : Method := { name := "bufIndex", desc := "(II)I", sig := { parameters := [.int, .int], returnType := some .int }, accessFlags := 2, code := some k2c20 }
def k2c21 : Code := { maxStack := 2, maxLocals := 2, code := prog_1_method_22_code, exceptionTable := #[], attributes := #[] }
def k2m21 : Method := { name := "findFreeSlot", desc := "()I", sig := { parameters := [], returnType := some .int }, accessFlags := 2, code := some k2c21 }
def k2c22 : Code := { maxStack := 3, maxLocals := 2, code := prog_1_method_23_code, exceptionTable := #[], attributes := #[] }
def k2m22 : Method := { name := "openSlot", desc := "(I)V", sig := { parameters := [.int], returnType := none }, accessFlags := 2, code := some k2c22 }
def k2c23 : Code := { maxStack := 3, maxLocals := 4, code := prog_1_method_24_code, exceptionTable := #[], attributes := #[] }
def k2m23 : Method := { name := "clearSlot", desc := "(I)V", sig := { parameters := [.int], returnType := none }, accessFlags := 2, code := some k2c23 }
def k2c24 : Code := { maxStack := 2, maxLocals := 2, code := prog_1_method_25_code, exceptionTable := #[], attributes := #[] }
def k2m24 : Method := { name := "endTx", desc := "(I)V", sig := { parameters := [.int], returnType := none }, accessFlags := 2, code := some k2c24 }
def k2c25 : Code := { maxStack := 3, maxLocals := 2, code := prog_1_method_26_code, exceptionTable := #[], attributes := #[] }
def k2m25 : Method := { name := "isStale", desc := "(I)Z", sig := { parameters := [.int], returnType := some .boolean }, accessFlags := 2, code := some k2c25 }
def k2c26 : Code := { maxStack := 3, maxLocals := 5, code := prog_1_method_27_code, exceptionTable := #[], attributes := #[] }
def k2m26 : Method := { name := "leastConflict", desc := "(I)I", sig := { parameters := [.int], returnType := some .int }, accessFlags := 2, code := some k2c26 }
def k2c27 : Code := { maxStack := 3, maxLocals := 4, code := prog_1_method_28_code, exceptionTable := #[], attributes := #[] }
def k2m27 : Method := { name := "failCommit", desc := "(III)I", sig := { parameters := [.int, .int, .int], returnType := some .int }, accessFlags := 2, code := some k2c27 }
def k2c28 : Code := { maxStack := 6, maxLocals := 5, code := prog_1_method_29_code, exceptionTable := #[], attributes := #[] }
def k2m28 : Method := { name := "install", desc := "(I)I", sig := { parameters := [.int], returnType := some .int }, accessFlags := 2, code := some k2c28 }
/-- OccValidator -/
def k2 : Class := { plain "OccValidator" (some 0) with
  accessFlags := 49
  interfaces := #[]
  cf := some (fileOf pool2 8 #[] #[{ accessFlags := 1, nameIndex := 5, descriptorIndex := 109, attributes := #[] }, { accessFlags := 1, nameIndex := 112, descriptorIndex := 58, attributes := #[] }, { accessFlags := 1, nameIndex := 114, descriptorIndex := 77, attributes := #[] }, { accessFlags := 1, nameIndex := 115, descriptorIndex := 35, attributes := #[] }, { accessFlags := 1, nameIndex := 116, descriptorIndex := 73, attributes := #[] }, { accessFlags := 1, nameIndex := 117, descriptorIndex := 73, attributes := #[] }, { accessFlags := 1, nameIndex := 118, descriptorIndex := 73, attributes := #[] }, { accessFlags := 1, nameIndex := 119, descriptorIndex := 73, attributes := #[] }, { accessFlags := 1, nameIndex := 120, descriptorIndex := 58, attributes := #[] }, { accessFlags := 1, nameIndex := 121, descriptorIndex := 58, attributes := #[] }, { accessFlags := 1, nameIndex := 122, descriptorIndex := 58, attributes := #[] }, { accessFlags := 1, nameIndex := 123, descriptorIndex := 66, attributes := #[] }, { accessFlags := 1, nameIndex := 124, descriptorIndex := 73, attributes := #[] }, { accessFlags := 1, nameIndex := 125, descriptorIndex := 73, attributes := #[] }, { accessFlags := 1, nameIndex := 126, descriptorIndex := 73, attributes := #[] }, { accessFlags := 1, nameIndex := 127, descriptorIndex := 77, attributes := #[] }, { accessFlags := 2, nameIndex := 34, descriptorIndex := 35, attributes := #[] }, { accessFlags := 2, nameIndex := 65, descriptorIndex := 66, attributes := #[] }, { accessFlags := 2, nameIndex := 69, descriptorIndex := 66, attributes := #[] }, { accessFlags := 2, nameIndex := 72, descriptorIndex := 73, attributes := #[] }, { accessFlags := 2, nameIndex := 76, descriptorIndex := 77, attributes := #[] }, { accessFlags := 2, nameIndex := 57, descriptorIndex := 58, attributes := #[] }, { accessFlags := 2, nameIndex := 61, descriptorIndex := 62, attributes := #[] }, { accessFlags := 2, nameIndex := 95, descriptorIndex := 62, attributes := #[] }, { accessFlags := 2, nameIndex := 92, descriptorIndex := 62, attributes := #[] }, { accessFlags := 2, nameIndex := 80, descriptorIndex := 66, attributes := #[] }, { accessFlags := 2, nameIndex := 86, descriptorIndex := 73, attributes := #[] }, { accessFlags := 2, nameIndex := 83, descriptorIndex := 35, attributes := #[] }, { accessFlags := 2, nameIndex := 89, descriptorIndex := 73, attributes := #[] }] 49 2 #[] #[{ accessFlags := 25, nameIndex := 96, descriptorIndex := 39, attributes := #[] }, { accessFlags := 25, nameIndex := 99, descriptorIndex := 39, attributes := #[] }, { accessFlags := 25, nameIndex := 101, descriptorIndex := 39, attributes := #[] }, { accessFlags := 25, nameIndex := 103, descriptorIndex := 39, attributes := #[] }, { accessFlags := 25, nameIndex := 105, descriptorIndex := 39, attributes := #[] }, { accessFlags := 25, nameIndex := 107, descriptorIndex := 39, attributes := #[] }, { accessFlags := 2, nameIndex := 38, descriptorIndex := 39, attributes := #[] }, { accessFlags := 2, nameIndex := 42, descriptorIndex := 39, attributes := #[] }, { accessFlags := 2, nameIndex := 45, descriptorIndex := 39, attributes := #[] }, { accessFlags := 2, nameIndex := 48, descriptorIndex := 39, attributes := #[] }, { accessFlags := 2, nameIndex := 51, descriptorIndex := 39, attributes := #[] }, { accessFlags := 2, nameIndex := 54, descriptorIndex := 39, attributes := #[] }, { accessFlags := 2, nameIndex := 11, descriptorIndex := 12, attributes := #[] }, { accessFlags := 2, nameIndex := 15, descriptorIndex := 12, attributes := #[] }, { accessFlags := 2, nameIndex := 18, descriptorIndex := 19, attributes := #[] }, { accessFlags := 2, nameIndex := 22, descriptorIndex := 12, attributes := #[] }, { accessFlags := 2, nameIndex := 25, descriptorIndex := 12, attributes := #[] }, { accessFlags := 2, nameIndex := 28, descriptorIndex := 12, attributes := #[] }, { accessFlags := 2, nameIndex := 31, descriptorIndex := 12, attributes := #[] }])
  fields := #[{ name := "OK", type := .int, accessFlags := 25, slot := 0, constantValue := 0 }, { name := "ERR_TX", type := .int, accessFlags := 25, slot := 1, constantValue := 0 }, { name := "ERR_KEY", type := .int, accessFlags := 25, slot := 2, constantValue := 0 }, { name := "ABORT_CONFLICT", type := .int, accessFlags := 25, slot := 3, constantValue := 0 }, { name := "ABORT_STALE", type := .int, accessFlags := 25, slot := 4, constantValue := 0 }, { name := "ERR_FULL", type := .int, accessFlags := 25, slot := 5, constantValue := 0 }, { name := "keyCount", type := .int, accessFlags := 2, slot := 0, constantValue := 0 }, { name := "slotCount", type := .int, accessFlags := 2, slot := 1, constantValue := 0 }, { name := "window", type := .int, accessFlags := 2, slot := 2, constantValue := 0 }, { name := "commitCount", type := .int, accessFlags := 2, slot := 3, constantValue := 0 }, { name := "abortCount", type := .int, accessFlags := 2, slot := 4, constantValue := 0 }, { name := "lastConflict", type := .int, accessFlags := 2, slot := 5, constantValue := 0 }, { name := "value", type := (.array .int), accessFlags := 2, slot := 6, constantValue := 0 }, { name := "version", type := (.array .int), accessFlags := 2, slot := 7, constantValue := 0 }, { name := "active", type := (.array .boolean), accessFlags := 2, slot := 8, constantValue := 0 }, { name := "start", type := (.array .int), accessFlags := 2, slot := 9, constantValue := 0 }, { name := "readSet", type := (.array .int), accessFlags := 2, slot := 10, constantValue := 0 }, { name := "writeSet", type := (.array .int), accessFlags := 2, slot := 11, constantValue := 0 }, { name := "buffered", type := (.array .int), accessFlags := 2, slot := 12, constantValue := 0 }]
  methods := #[k2m0, k2m1, k2m2, k2m3, k2m4, k2m5, k2m6, k2m7, k2m8, k2m9, k2m10, k2m11, k2m12, k2m13, k2m14, k2m15, k2m16, k2m17, k2m18, k2m19, k2m20, k2m21, k2m22, k2m23, k2m24, k2m25, k2m26, k2m27, k2m28]
  instanceTypes := #[.int, .int, .int, .int, .int, .int, (.array .int), (.array .int), (.array .boolean), (.array .int), (.array .int), (.array .int), (.array .int)]
  staticTypes := #[.int, .int, .int, .int, .int, .int]
  resolved := Array.replicate 130 none
  statics := none }

def pool3 : Array CpInfo := pool [(1, u "java/lang/Cloneable"), (0, .class_ 1), (0, u "java/lang/Object"), (0, .class_ 3)] 3

/-- java/lang/Cloneable -/
def k3 : Class := { plain "java/lang/Cloneable" (some 0) with
  accessFlags := 1537
  interfaces := #[]
  cf := some (fileOf pool3 2 #[] #[] 1537 4 #[] #[])
  fields := #[]
  methods := #[]
  instanceTypes := #[]
  staticTypes := #[]
  resolved := Array.replicate 8 none
  statics := none }

def pool4 : Array CpInfo := pool [(1, u "java/io/Serializable"), (0, .class_ 1), (0, u "java/lang/Object"), (0, .class_ 3)] 3

/-- java/io/Serializable -/
def k4 : Class := { plain "java/io/Serializable" (some 0) with
  accessFlags := 1537
  interfaces := #[]
  cf := some (fileOf pool4 2 #[] #[] 1537 4 #[] #[])
  fields := #[]
  methods := #[]
  instanceTypes := #[]
  staticTypes := #[]
  resolved := Array.replicate 8 none
  statics := none }

/-- the primitive boolean -/
def k5 : Class := { plain "boolean" none with kind := .primitive 'Z', accessFlags := 0x411 }
/-- [Z -/
def k6 : Class := { plain "[Z" (some 0) with kind := .array 5 .boolean, interfaces := #[3, 4], accessFlags := 1041 }

/-- the primitive byte -/
def k7 : Class := { plain "byte" none with kind := .primitive 'B', accessFlags := 0x411 }
/-- [B -/
def k8 : Class := { plain "[B" (some 0) with kind := .array 7 .byte, interfaces := #[3, 4], accessFlags := 1041 }

/-- the primitive int -/
def k9 : Class := { plain "int" none with kind := .primitive 'I', accessFlags := 0x411 }
/-- [I -/
def k10 : Class := { plain "[I" (some 0) with kind := .array 9 .int, interfaces := #[3, 4], accessFlags := 1041 }

def heap : Heap := #[{ cls := 10, slots := #[.int 1, .int 2, .int 3], vm := .none }]
def classes : Array Class := #[k0, k1, k2, k3, k4, k5, k6, k7, k8, k9, k10]
def interned : List (Array UInt16 × Addr) := []
def slotsUsed : Nat := 3
def theMethod : MethodId := ⟨1, 2⟩
def args0 : Array Value := #[.ref 0]
def aboutOver (below : List Frame) : State where
  vm := { classes := classes, interned := interned.toArray }
  heap := heap
  slotsUsed := slotsUsed
  threads := #[{ frames := .invoking theMethod args0 :: below }]
def below0 : List Frame := [.native { method := ⟨0, 0⟩, args := #[] }]
def about1 : State := aboutOver below0
def p0 : Program := .bare "" "" ""
def e0 : Env := launch0.env 0 0 0
theorem w_frames : about1.frames = Frame.invoking theMethod args0 :: below0 := rfl
set_option maxRecDepth 65536 in
theorem w_args : argsFit about1.vm theMethod args0 = true := by decide +kernel
set_option maxRecDepth 65536 in
theorem w_heap : heapFits about1 = true := by decide +kernel
set_option maxRecDepth 65536 in
theorem w_runnable : about1.curStatus? = some .runnable := by decide +kernel
set_option maxRecDepth 65536 in
theorem w_alone : about1.alone = true := by decide +kernel
set_option maxRecDepth 65536 in
theorem w_named : about1.methodNamed? x = some theMethod := by decide +kernel
set_option maxRecDepth 65536 in
theorem w_hears : about1.hears theMethod below0 = true := by decide +kernel
set_option maxRecDepth 65536 in
theorem w_ripe : about1.ripe theMethod args0 below0 = true := by decide +kernel
theorem w_running : about1.status = .running := rfl
set_option maxRecDepth 65536 in
theorem w_room : about1.hasRoom e0.platform room_1 = true :=
  launch0.hasRoom_least _ room_1 (by decide +kernel) (by decide +kernel) (by decide +kernel) (by decide +kernel) (by decide +kernel) (by decide +kernel)
theorem allAtoms_all (ts : List Jvm.Cond) (a : Array Jvm.Value) (st : Jvm.State) : (allAtoms ts).before a st = ts.all (fun c => c.before a st) := by
  induction ts with
  | nil => rfl
  | cons c t ih =>
    show (Jvm.Cond.and c (allAtoms t)).before a st = _
    rw [Jvm.Cond.before_and, ih, List.all_cons]
def words1 : List Jvm.Cond := Jvm.Cond.code x code maxLocals ret :: tables_1
/-- a 'code' word, met by the world's own term for the bytes: nothing is compared byte by byte -/
theorem code_word {y : MethodName} {bytes : ByteArray} {mx : Nat} {rt : Option FieldType} {a : Array Value} {s : State} {m : MethodId} {meth : Method} {c : Code} (h1 : s.methodNamed? y = some m) (h2 : s.vm.method? m = some meth) (h3 : meth.code = some c) (h4 : c.code = bytes)
    (h5 : (c.maxLocals == mx && c.exceptionTable.isEmpty && decide (c.maxStack ≤ mostOperands) && decide (meth.sig.returnType = rt) && !meth.locks && decide (parseMethodDescriptor y.desc = some meth.sig)) = true) : (Jvm.Cond.code y bytes mx rt).before a s = true := by
  simp only [Bool.and_eq_true, beq_iff_eq, Bool.not_eq_true', decide_eq_true_eq] at h5
  obtain ⟨⟨⟨⟨⟨g1, g2⟩, g3⟩, g4⟩, g5⟩, g6⟩ := h5
  simp [Cond.before, Cond.holds, Cond.value, h1, h2, h3, h4, g1, g2, g3, g4, g5, g6]
def isCode : Jvm.Cond → Bool
  | .code _ _ _ _ => true
  | _ => false
theorem all_split {L : List Jvm.Cond} {P : Jvm.Cond → Bool} (h1 : L.all (fun c => isCode c || P c) = true) (h2 : ∀ c ∈ L.filter isCode, P c = true) : L.all P = true := by
  refine List.all_eq_true.mpr fun c hc => ?_
  have h := List.all_eq_true.mp h1 c hc
  rcases Bool.eq_false_or_eq_true (isCode c) with hi | hi
  · exact h2 c (List.mem_filter.mpr ⟨hc, hi⟩)
  · simpa [hi] using h
set_option maxRecDepth 65536 in
theorem w_c0 : (Jvm.Cond.code x code maxLocals ret).before args0 about1 = true := code_word (m := ⟨1, 2⟩) (meth := k1m2) (c := k1c2) (by decide +kernel) rfl rfl rfl (by decide +kernel)
set_option maxRecDepth 65536 in
theorem w_c1 : (Jvm.Cond.code ({ cls := "OccValidator", name := "<init>", desc := "(III)V" } : Jvm.MethodName) prog_1_method_1_code (4 : Nat) (Option.none : Option Jvm.ClassFile.FieldType)).before args0 about1 = true := code_word (m := ⟨2, 0⟩) (meth := k2m0) (c := k2c0) (by decide +kernel) rfl rfl rfl (by decide +kernel)
set_option maxRecDepth 65536 in
theorem w_c2 : (Jvm.Cond.code ({ cls := "java/lang/Object", name := "<init>", desc := "()V" } : Jvm.MethodName) object_method_1_code (1 : Nat) (Option.none : Option Jvm.ClassFile.FieldType)).before args0 about1 = true := code_word (m := ⟨0, 0⟩) (meth := k0m0) (c := k0c0) (by decide +kernel) rfl rfl rfl (by decide +kernel)
set_option maxRecDepth 65536 in
theorem w_c3 : (Jvm.Cond.code ({ cls := "OccValidator", name := "clamp", desc := "(III)I" } : Jvm.MethodName) prog_1_method_17_code (4 : Nat) (Option.some Jvm.ClassFile.FieldType.int)).before args0 about1 = true := code_word (m := ⟨2, 16⟩) (meth := k2m16) (c := k2c16) (by decide +kernel) rfl rfl rfl (by decide +kernel)
set_option maxRecDepth 65536 in
theorem w_c4 : (Jvm.Cond.code ({ cls := "OccValidator", name := "isActive", desc := "(I)Z" } : Jvm.MethodName) prog_1_method_12_code (2 : Nat) (Option.some Jvm.ClassFile.FieldType.boolean)).before args0 about1 = true := code_word (m := ⟨2, 11⟩) (meth := k2m11) (c := k2c11) (by decide +kernel) rfl rfl rfl (by decide +kernel)
set_option maxRecDepth 65536 in
theorem w_c5 : (Jvm.Cond.code ({ cls := "OccValidator", name := "isValidTx", desc := "(I)Z" } : Jvm.MethodName) prog_1_method_18_code (2 : Nat) (Option.some Jvm.ClassFile.FieldType.boolean)).before args0 about1 = true := code_word (m := ⟨2, 17⟩) (meth := k2m17) (c := k2c17) (by decide +kernel) rfl rfl rfl (by decide +kernel)
set_option maxRecDepth 65536 in
theorem w_c6 : (Jvm.Cond.code ({ cls := "OccValidator", name := "commit", desc := "(I)I" } : Jvm.MethodName) prog_1_method_5_code (3 : Nat) (Option.some Jvm.ClassFile.FieldType.int)).before args0 about1 = true := code_word (m := ⟨2, 4⟩) (meth := k2m4) (c := k2c4) (by decide +kernel) rfl rfl rfl (by decide +kernel)
set_option maxRecDepth 65536 in
theorem w_c7 : (Jvm.Cond.code ({ cls := "OccValidatorL5", name := "same", desc := "(LOccValidator;LOccValidator;)Z" } : Jvm.MethodName) method_2_code (4 : Nat) (Option.some Jvm.ClassFile.FieldType.boolean)).before args0 about1 = true := code_word (m := ⟨1, 1⟩) (meth := k1m1) (c := k1c1) (by decide +kernel) rfl rfl rfl (by decide +kernel)
set_option maxRecDepth 65536 in
theorem w_c8 : (Jvm.Cond.code ({ cls := "OccValidator", name := "getCommitCount", desc := "()I" } : Jvm.MethodName) prog_1_method_9_code (1 : Nat) (Option.some Jvm.ClassFile.FieldType.int)).before args0 about1 = true := code_word (m := ⟨2, 8⟩) (meth := k2m8) (c := k2c8) (by decide +kernel) rfl rfl rfl (by decide +kernel)
set_option maxRecDepth 65536 in
theorem w_c9 : (Jvm.Cond.code ({ cls := "OccValidator", name := "getAbortCount", desc := "()I" } : Jvm.MethodName) prog_1_method_10_code (1 : Nat) (Option.some Jvm.ClassFile.FieldType.int)).before args0 about1 = true := code_word (m := ⟨2, 9⟩) (meth := k2m9) (c := k2c9) (by decide +kernel) rfl rfl rfl (by decide +kernel)
set_option maxRecDepth 65536 in
theorem w_c10 : (Jvm.Cond.code ({ cls := "OccValidator", name := "getLastConflictKey", desc := "()I" } : Jvm.MethodName) prog_1_method_11_code (1 : Nat) (Option.some Jvm.ClassFile.FieldType.int)).before args0 about1 = true := code_word (m := ⟨2, 10⟩) (meth := k2m10) (c := k2c10) (by decide +kernel) rfl rfl rfl (by decide +kernel)
set_option maxRecDepth 65536 in
theorem w_c11 : (Jvm.Cond.code ({ cls := "OccValidator", name := "getValue", desc := "(I)I" } : Jvm.MethodName) prog_1_method_7_code (2 : Nat) (Option.some Jvm.ClassFile.FieldType.int)).before args0 about1 = true := code_word (m := ⟨2, 6⟩) (meth := k2m6) (c := k2c6) (by decide +kernel) rfl rfl rfl (by decide +kernel)
set_option maxRecDepth 65536 in
theorem w_c12 : (Jvm.Cond.code ({ cls := "OccValidator", name := "isValidKey", desc := "(I)Z" } : Jvm.MethodName) prog_1_method_19_code (2 : Nat) (Option.some Jvm.ClassFile.FieldType.boolean)).before args0 about1 = true := code_word (m := ⟨2, 18⟩) (meth := k2m18) (c := k2c18) (by decide +kernel) rfl rfl rfl (by decide +kernel)
set_option maxRecDepth 65536 in
theorem w_c13 : (Jvm.Cond.code ({ cls := "OccValidator", name := "getVersion", desc := "(I)I" } : Jvm.MethodName) prog_1_method_8_code (2 : Nat) (Option.some Jvm.ClassFile.FieldType.int)).before args0 about1 = true := code_word (m := ⟨2, 7⟩) (meth := k2m7) (c := k2c7) (by decide +kernel) rfl rfl rfl (by decide +kernel)
set_option maxRecDepth 65536 in
theorem w_c14 : (Jvm.Cond.code ({ cls := "OccValidator", name := "getStart", desc := "(I)I" } : Jvm.MethodName) prog_1_method_13_code (2 : Nat) (Option.some Jvm.ClassFile.FieldType.int)).before args0 about1 = true := code_word (m := ⟨2, 12⟩) (meth := k2m12) (c := k2c12) (by decide +kernel) rfl rfl rfl (by decide +kernel)
set_option maxRecDepth 65536 in
theorem w_c15 : (Jvm.Cond.code ({ cls := "OccValidator", name := "getReadSet", desc := "(I)I" } : Jvm.MethodName) prog_1_method_14_code (2 : Nat) (Option.some Jvm.ClassFile.FieldType.int)).before args0 about1 = true := code_word (m := ⟨2, 13⟩) (meth := k2m13) (c := k2c13) (by decide +kernel) rfl rfl rfl (by decide +kernel)
set_option maxRecDepth 65536 in
theorem w_c16 : (Jvm.Cond.code ({ cls := "OccValidator", name := "getWriteSet", desc := "(I)I" } : Jvm.MethodName) prog_1_method_15_code (2 : Nat) (Option.some Jvm.ClassFile.FieldType.int)).before args0 about1 = true := code_word (m := ⟨2, 14⟩) (meth := k2m14) (c := k2c14) (by decide +kernel) rfl rfl rfl (by decide +kernel)
set_option maxRecDepth 65536 in
theorem w_c17 : (Jvm.Cond.code ({ cls := "OccValidator", name := "getBuffered", desc := "(II)I" } : Jvm.MethodName) prog_1_method_16_code (3 : Nat) (Option.some Jvm.ClassFile.FieldType.int)).before args0 about1 = true := code_word (m := ⟨2, 15⟩) (meth := k2m15) (c := k2c15) (by decide +kernel) rfl rfl rfl (by decide +kernel)
set_option maxRecDepth 65536 in
theorem w_c18 : (Jvm.Cond.code ({ cls := "OccValidator", name := "read", desc := "(II)I" } : Jvm.MethodName) prog_1_method_3_code (4 : Nat) (Option.some Jvm.ClassFile.FieldType.int)).before args0 about1 = true := code_word (m := ⟨2, 2⟩) (meth := k2m2) (c := k2c2) (by decide +kernel) rfl rfl rfl (by decide +kernel)
set_option maxRecDepth 65536 in
theorem w_c19 : (Jvm.Cond.code ({ cls := "OccValidator", name := "begin", desc := "()I" } : Jvm.MethodName) prog_1_method_2_code (2 : Nat) (Option.some Jvm.ClassFile.FieldType.int)).before args0 about1 = true := code_word (m := ⟨2, 1⟩) (meth := k2m1) (c := k2c1) (by decide +kernel) rfl rfl rfl (by decide +kernel)
set_option maxRecDepth 65536 in
theorem w_c20 : (Jvm.Cond.code ({ cls := "OccValidator", name := "findFreeSlot", desc := "()I" } : Jvm.MethodName) prog_1_method_22_code (2 : Nat) (Option.some Jvm.ClassFile.FieldType.int)).before args0 about1 = true := code_word (m := ⟨2, 21⟩) (meth := k2m21) (c := k2c21) (by decide +kernel) rfl rfl rfl (by decide +kernel)
set_option maxRecDepth 65536 in
theorem w_c21 : (Jvm.Cond.code ({ cls := "OccValidator", name := "openSlot", desc := "(I)V" } : Jvm.MethodName) prog_1_method_23_code (2 : Nat) (Option.none : Option Jvm.ClassFile.FieldType)).before args0 about1 = true := code_word (m := ⟨2, 22⟩) (meth := k2m22) (c := k2c22) (by decide +kernel) rfl rfl rfl (by decide +kernel)
set_option maxRecDepth 65536 in
theorem w_c22 : (Jvm.Cond.code ({ cls := "OccValidator", name := "clearSlot", desc := "(I)V" } : Jvm.MethodName) prog_1_method_24_code (4 : Nat) (Option.none : Option Jvm.ClassFile.FieldType)).before args0 about1 = true := code_word (m := ⟨2, 23⟩) (meth := k2m23) (c := k2c23) (by decide +kernel) rfl rfl rfl (by decide +kernel)
set_option maxRecDepth 65536 in
theorem w_c23 : (Jvm.Cond.code ({ cls := "OccValidator", name := "bit", desc := "(I)I" } : Jvm.MethodName) prog_1_method_20_code (2 : Nat) (Option.some Jvm.ClassFile.FieldType.int)).before args0 about1 = true := code_word (m := ⟨2, 19⟩) (meth := k2m19) (c := k2c19) (by decide +kernel) rfl rfl rfl (by decide +kernel)
set_option maxRecDepth 65536 in
theorem w_c24 : (Jvm.Cond.code ({ cls := "OccValidator", name := "isStale", desc := "(I)Z" } : Jvm.MethodName) prog_1_method_26_code (2 : Nat) (Option.some Jvm.ClassFile.FieldType.boolean)).before args0 about1 = true := code_word (m := ⟨2, 25⟩) (meth := k2m25) (c := k2c25) (by decide +kernel) rfl rfl rfl (by decide +kernel)
set_option maxRecDepth 65536 in
theorem w_c25 : (Jvm.Cond.code ({ cls := "OccValidator", name := "leastConflict", desc := "(I)I" } : Jvm.MethodName) prog_1_method_27_code (5 : Nat) (Option.some Jvm.ClassFile.FieldType.int)).before args0 about1 = true := code_word (m := ⟨2, 26⟩) (meth := k2m26) (c := k2c26) (by decide +kernel) rfl rfl rfl (by decide +kernel)
set_option maxRecDepth 65536 in
theorem w_c26 : (Jvm.Cond.code ({ cls := "OccValidator", name := "install", desc := "(I)I" } : Jvm.MethodName) prog_1_method_29_code (5 : Nat) (Option.some Jvm.ClassFile.FieldType.int)).before args0 about1 = true := code_word (m := ⟨2, 28⟩) (meth := k2m28) (c := k2c28) (by decide +kernel) rfl rfl rfl (by decide +kernel)
set_option maxRecDepth 65536 in
theorem w_c27 : (Jvm.Cond.code ({ cls := "OccValidator", name := "endTx", desc := "(I)V" } : Jvm.MethodName) prog_1_method_25_code (2 : Nat) (Option.none : Option Jvm.ClassFile.FieldType)).before args0 about1 = true := code_word (m := ⟨2, 24⟩) (meth := k2m24) (c := k2c24) (by decide +kernel) rfl rfl rfl (by decide +kernel)
set_option maxRecDepth 65536 in
theorem w_c28 : (Jvm.Cond.code ({ cls := "OccValidator", name := "write", desc := "(III)I" } : Jvm.MethodName) prog_1_method_4_code (4 : Nat) (Option.some Jvm.ClassFile.FieldType.int)).before args0 about1 = true := code_word (m := ⟨2, 3⟩) (meth := k2m3) (c := k2c3) (by decide +kernel) rfl rfl rfl (by decide +kernel)
set_option maxRecDepth 65536 in
theorem w_c29 : (Jvm.Cond.code ({ cls := "OccValidator", name := "bufIndex", desc := "(II)I" } : Jvm.MethodName) prog_1_method_21_code (3 : Nat) (Option.some Jvm.ClassFile.FieldType.int)).before args0 about1 = true := code_word (m := ⟨2, 20⟩) (meth := k2m20) (c := k2c20) (by decide +kernel) rfl rfl rfl (by decide +kernel)
set_option maxRecDepth 65536 in
theorem w_c30 : (Jvm.Cond.code ({ cls := "OccValidator", name := "abort", desc := "(I)I" } : Jvm.MethodName) prog_1_method_6_code (2 : Nat) (Option.some Jvm.ClassFile.FieldType.int)).before args0 about1 = true := code_word (m := ⟨2, 5⟩) (meth := k2m5) (c := k2c5) (by decide +kernel) rfl rfl rfl (by decide +kernel)
set_option maxRecDepth 65536 in
theorem w_c31 : (Jvm.Cond.code ({ cls := "OccValidator", name := "failCommit", desc := "(III)I" } : Jvm.MethodName) prog_1_method_28_code (4 : Nat) (Option.some Jvm.ClassFile.FieldType.int)).before args0 about1 = true := code_word (m := ⟨2, 27⟩) (meth := k2m27) (c := k2c27) (by decide +kernel) rfl rfl rfl (by decide +kernel)
def codes1 : List Jvm.Cond := [Jvm.Cond.code x code maxLocals ret, Jvm.Cond.code ({ cls := "OccValidator", name := "<init>", desc := "(III)V" } : Jvm.MethodName) prog_1_method_1_code (4 : Nat) (Option.none : Option Jvm.ClassFile.FieldType), Jvm.Cond.code ({ cls := "java/lang/Object", name := "<init>", desc := "()V" } : Jvm.MethodName) object_method_1_code (1 : Nat) (Option.none : Option Jvm.ClassFile.FieldType), Jvm.Cond.code ({ cls := "OccValidator", name := "clamp", desc := "(III)I" } : Jvm.MethodName) prog_1_method_17_code (4 : Nat) (Option.some Jvm.ClassFile.FieldType.int), Jvm.Cond.code ({ cls := "OccValidator", name := "isActive", desc := "(I)Z" } : Jvm.MethodName) prog_1_method_12_code (2 : Nat) (Option.some Jvm.ClassFile.FieldType.boolean), Jvm.Cond.code ({ cls := "OccValidator", name := "isValidTx", desc := "(I)Z" } : Jvm.MethodName) prog_1_method_18_code (2 : Nat) (Option.some Jvm.ClassFile.FieldType.boolean), Jvm.Cond.code ({ cls := "OccValidator", name := "commit", desc := "(I)I" } : Jvm.MethodName) prog_1_method_5_code (3 : Nat) (Option.some Jvm.ClassFile.FieldType.int), Jvm.Cond.code ({ cls := "OccValidatorL5", name := "same", desc := "(LOccValidator;LOccValidator;)Z" } : Jvm.MethodName) method_2_code (4 : Nat) (Option.some Jvm.ClassFile.FieldType.boolean), Jvm.Cond.code ({ cls := "OccValidator", name := "getCommitCount", desc := "()I" } : Jvm.MethodName) prog_1_method_9_code (1 : Nat) (Option.some Jvm.ClassFile.FieldType.int), Jvm.Cond.code ({ cls := "OccValidator", name := "getAbortCount", desc := "()I" } : Jvm.MethodName) prog_1_method_10_code (1 : Nat) (Option.some Jvm.ClassFile.FieldType.int), Jvm.Cond.code ({ cls := "OccValidator", name := "getLastConflictKey", desc := "()I" } : Jvm.MethodName) prog_1_method_11_code (1 : Nat) (Option.some Jvm.ClassFile.FieldType.int), Jvm.Cond.code ({ cls := "OccValidator", name := "getValue", desc := "(I)I" } : Jvm.MethodName) prog_1_method_7_code (2 : Nat) (Option.some Jvm.ClassFile.FieldType.int), Jvm.Cond.code ({ cls := "OccValidator", name := "isValidKey", desc := "(I)Z" } : Jvm.MethodName) prog_1_method_19_code (2 : Nat) (Option.some Jvm.ClassFile.FieldType.boolean), Jvm.Cond.code ({ cls := "OccValidator", name := "getVersion", desc := "(I)I" } : Jvm.MethodName) prog_1_method_8_code (2 : Nat) (Option.some Jvm.ClassFile.FieldType.int), Jvm.Cond.code ({ cls := "OccValidator", name := "getStart", desc := "(I)I" } : Jvm.MethodName) prog_1_method_13_code (2 : Nat) (Option.some Jvm.ClassFile.FieldType.int), Jvm.Cond.code ({ cls := "OccValidator", name := "getReadSet", desc := "(I)I" } : Jvm.MethodName) prog_1_method_14_code (2 : Nat) (Option.some Jvm.ClassFile.FieldType.int), Jvm.Cond.code ({ cls := "OccValidator", name := "getWriteSet", desc := "(I)I" } : Jvm.MethodName) prog_1_method_15_code (2 : Nat) (Option.some Jvm.ClassFile.FieldType.int), Jvm.Cond.code ({ cls := "OccValidator", name := "getBuffered", desc := "(II)I" } : Jvm.MethodName) prog_1_method_16_code (3 : Nat) (Option.some Jvm.ClassFile.FieldType.int), Jvm.Cond.code ({ cls := "OccValidator", name := "read", desc := "(II)I" } : Jvm.MethodName) prog_1_method_3_code (4 : Nat) (Option.some Jvm.ClassFile.FieldType.int), Jvm.Cond.code ({ cls := "OccValidator", name := "begin", desc := "()I" } : Jvm.MethodName) prog_1_method_2_code (2 : Nat) (Option.some Jvm.ClassFile.FieldType.int), Jvm.Cond.code ({ cls := "OccValidator", name := "findFreeSlot", desc := "()I" } : Jvm.MethodName) prog_1_method_22_code (2 : Nat) (Option.some Jvm.ClassFile.FieldType.int), Jvm.Cond.code ({ cls := "OccValidator", name := "openSlot", desc := "(I)V" } : Jvm.MethodName) prog_1_method_23_code (2 : Nat) (Option.none : Option Jvm.ClassFile.FieldType), Jvm.Cond.code ({ cls := "OccValidator", name := "clearSlot", desc := "(I)V" } : Jvm.MethodName) prog_1_method_24_code (4 : Nat) (Option.none : Option Jvm.ClassFile.FieldType), Jvm.Cond.code ({ cls := "OccValidator", name := "bit", desc := "(I)I" } : Jvm.MethodName) prog_1_method_20_code (2 : Nat) (Option.some Jvm.ClassFile.FieldType.int), Jvm.Cond.code ({ cls := "OccValidator", name := "isStale", desc := "(I)Z" } : Jvm.MethodName) prog_1_method_26_code (2 : Nat) (Option.some Jvm.ClassFile.FieldType.boolean), Jvm.Cond.code ({ cls := "OccValidator", name := "leastConflict", desc := "(I)I" } : Jvm.MethodName) prog_1_method_27_code (5 : Nat) (Option.some Jvm.ClassFile.FieldType.int), Jvm.Cond.code ({ cls := "OccValidator", name := "install", desc := "(I)I" } : Jvm.MethodName) prog_1_method_29_code (5 : Nat) (Option.some Jvm.ClassFile.FieldType.int), Jvm.Cond.code ({ cls := "OccValidator", name := "endTx", desc := "(I)V" } : Jvm.MethodName) prog_1_method_25_code (2 : Nat) (Option.none : Option Jvm.ClassFile.FieldType), Jvm.Cond.code ({ cls := "OccValidator", name := "write", desc := "(III)I" } : Jvm.MethodName) prog_1_method_4_code (4 : Nat) (Option.some Jvm.ClassFile.FieldType.int), Jvm.Cond.code ({ cls := "OccValidator", name := "bufIndex", desc := "(II)I" } : Jvm.MethodName) prog_1_method_21_code (3 : Nat) (Option.some Jvm.ClassFile.FieldType.int), Jvm.Cond.code ({ cls := "OccValidator", name := "abort", desc := "(I)I" } : Jvm.MethodName) prog_1_method_6_code (2 : Nat) (Option.some Jvm.ClassFile.FieldType.int), Jvm.Cond.code ({ cls := "OccValidator", name := "failCommit", desc := "(III)I" } : Jvm.MethodName) prog_1_method_28_code (4 : Nat) (Option.some Jvm.ClassFile.FieldType.int)]
set_option maxRecDepth 65536 in
theorem codes_eq : words1.filter isCode = codes1 := rfl
theorem w_codes : ∀ c ∈ words1.filter isCode, c.before args0 about1 = true := by
  rw [codes_eq]
  intro c hc
  simp only [codes1, List.mem_cons, List.not_mem_nil, or_false] at hc
  rcases hc with rfl | rfl | rfl | rfl | rfl | rfl | rfl | rfl | rfl | rfl | rfl | rfl | rfl | rfl | rfl | rfl | rfl | rfl | rfl | rfl | rfl | rfl | rfl | rfl | rfl | rfl | rfl | rfl | rfl | rfl | rfl | rfl
  · exact w_c0
  · exact w_c1
  · exact w_c2
  · exact w_c3
  · exact w_c4
  · exact w_c5
  · exact w_c6
  · exact w_c7
  · exact w_c8
  · exact w_c9
  · exact w_c10
  · exact w_c11
  · exact w_c12
  · exact w_c13
  · exact w_c14
  · exact w_c15
  · exact w_c16
  · exact w_c17
  · exact w_c18
  · exact w_c19
  · exact w_c20
  · exact w_c21
  · exact w_c22
  · exact w_c23
  · exact w_c24
  · exact w_c25
  · exact w_c26
  · exact w_c27
  · exact w_c28
  · exact w_c29
  · exact w_c30
  · exact w_c31
set_option maxRecDepth 65536 in
theorem w_t1 : (words1.take 24).all (fun c => isCode c || c.before args0 about1) = true := by decide +kernel
set_option maxRecDepth 65536 in
theorem w_t2 : ((words1.drop 24).take 24).all (fun c => isCode c || c.before args0 about1) = true := by decide +kernel
set_option maxRecDepth 65536 in
theorem w_t3 : (((words1.drop 24).drop 24).take 24).all (fun c => isCode c || c.before args0 about1) = true := by decide +kernel
set_option maxRecDepth 65536 in
theorem w_t4 : ((((words1.drop 24).drop 24).drop 24).take 24).all (fun c => isCode c || c.before args0 about1) = true := by decide +kernel
set_option maxRecDepth 65536 in
theorem w_t5 : (((((words1.drop 24).drop 24).drop 24).drop 24).take 24).all (fun c => isCode c || c.before args0 about1) = true := by decide +kernel
set_option maxRecDepth 65536 in
theorem w_t6 : ((((((words1.drop 24).drop 24).drop 24).drop 24).drop 24).take 24).all (fun c => isCode c || c.before args0 about1) = true := by decide +kernel
set_option maxRecDepth 65536 in
theorem w_t7 : (((((((words1.drop 24).drop 24).drop 24).drop 24).drop 24).drop 24).take 24).all (fun c => isCode c || c.before args0 about1) = true := by decide +kernel
set_option maxRecDepth 65536 in
theorem w_t8 : (((((((words1.drop 24).drop 24).drop 24).drop 24).drop 24).drop 24).drop 24).all (fun c => isCode c || c.before args0 about1) = true := by decide +kernel
theorem w_tables : (allAtoms (Jvm.Cond.code x code maxLocals ret :: tables_1)).before args0 about1 = true := by
  rw [allAtoms_all]
  show words1.all (fun c => c.before args0 about1) = true
  refine all_split ?_ w_codes
  rw [← List.take_append_drop 24 words1, List.all_append, w_t1, ← List.take_append_drop 24 (words1.drop 24), List.all_append, w_t2, ← List.take_append_drop 24 ((words1.drop 24).drop 24), List.all_append, w_t3, ← List.take_append_drop 24 (((words1.drop 24).drop 24).drop 24), List.all_append, w_t4, ← List.take_append_drop 24 ((((words1.drop 24).drop 24).drop 24).drop 24), List.all_append, w_t5, ← List.take_append_drop 24 (((((words1.drop 24).drop 24).drop 24).drop 24).drop 24), List.all_append, w_t6, ← List.take_append_drop 24 ((((((words1.drop 24).drop 24).drop 24).drop 24).drop 24).drop 24), List.all_append, w_t7, w_t8]
  rfl
set_option maxRecDepth 65536 in
theorem w_rest : rest_1_c.before args0 about1 = true := by decide +kernel
set_option maxRecDepth 65536 in
theorem w_case : (Jvm.Cond.and given_1 narrow_1).before args0 about1 = true := by decide +kernel
theorem w_applies : (headSpec (Jvm.Cond.code x code maxLocals ret :: tables_1) room_1).applies x e0.platform about1 = true :=
  (Spec.applies_iff w_frames).mpr ⟨w_running, w_runnable, w_alone, w_named, w_hears, w_ripe, w_room, w_tables⟩
theorem atStart : AtStart classFile x code maxLocals ret World_1 tables_1 room_1 Calls_1 rest_1 Pre_1 launch0 p0 e0 about1 theMethod args0 below0 :=
  ⟨lists_1, trivial, launch0.admits_env _ _ _, launch0.least_env, fairChoices_fair.cas, fairChoices_fair.clock, w_frames, w_args, w_heap, w_applies, trivial, w_rest, w_case⟩
end start1
theorem witness_1 : WitnessClaimed_1 := ⟨start1.p0, start1.e0, start1.about1, start1.theMethod, start1.args0, start1.below0, start1.atStart⟩
end Jvm.Pilot.@@N@@
