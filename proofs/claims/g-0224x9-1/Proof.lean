import JvmDerived
import JvmDerived.Pilot.@@N@@Statement
import JvmDerived.Pilot.@@N@@Code
set_option linter.unusedVariables false
set_option linter.unusedSimpArgs false
namespace Jvm.RoadKit
open Sem ClassFile Op Lib Jvm.Stand Jvm.Free Jvm.LawKit
section New
variable {p : Program} {l : Launch} {e : Env} {R : Room} {s : State} {m : MethodId} {args : Array Value} {below : List Frame} {meth : Method} {c : Code} {T : State} {locs : List Loc} {cells slots : Nat}
theorem retI (X : Stand p l e R s m args below meth c T locs cells slots) (hx : p.tables.exec = Jvm.exec) {pc : Nat} {Ls : Array Slot} {z : Int32} {rest : List Value} (hret : meth.sig.returnType = some .int) (hd : decode c.code pc = .ok (.ireturn, 1)) {fs : List Frame}
    (hl : ∀ (f : JFrame) (acts : List Action), f.method = m → f.locked = none → f.entered = [] → (doReturn e (T.setTop f) acts (some (.int z))).1 = T.setFrames fs) : Steps p.tables e below (T.setTop (mkF m pc Ls (.int z :: rest))) (T.setFrames fs) := by
  have hm' : T.vm.method? m = some meth := X.method'
  have hn : narrow .int (.int z) = .int z := rfl
  show Steps p.tables e below (T.setTop { method := m, pc := pc, locals := Ls, stack := _ :: rest, locked := none }) _
  jvm_step X.here [X.here.top, hx, hd, hm', hret, hn]
  first | (intro acts; rw [hl _ acts rfl rfl rfl]) | rw [hl _ _ rfl rfl rfl]
  exact Steps.refl _
end New
end Jvm.RoadKit
namespace Jvm.Pilot.@@N@@
open Jvm Jvm.ClassFile Sem Op Lib Jvm.Free Jvm.Stand Jvm.LawKit Jvm.RoadKit Bundle Jvm.Pilot.@@N@@.Jvm.D
/-! TABLES of this claim: printed by claim.py -/
def k0 : Nat := 1
def cName : String := "OccValidator"
def cN : Nat := 13
def nF : Nat := 13
def kName (k : Nat) : String := bif Nat.beq k 0 then "OccValidatorL7" else "OccValidator"
def fNm (k : Nat) : String := (bif Nat.ble 6 k then (bif Nat.ble 9 k then (bif Nat.ble 11 k then (bif Nat.ble 12 k then "lastConflict" else "abortCount") else (bif Nat.ble 10 k then "commitCount" else "window")) else (bif Nat.ble 7 k then (bif Nat.ble 8 k then "slotCount" else "keyCount") else "buffered")) else (bif Nat.ble 3 k then (bif Nat.ble 4 k then (bif Nat.ble 5 k then "writeSet" else "readSet") else "start") else (bif Nat.ble 1 k then (bif Nat.ble 2 k then "active" else "version") else "value")))
def fDs (k : Nat) : String := (bif Nat.ble 6 k then (bif Nat.ble 9 k then (bif Nat.ble 11 k then (bif Nat.ble 12 k then "I" else "I") else (bif Nat.ble 10 k then "I" else "I")) else (bif Nat.ble 7 k then (bif Nat.ble 8 k then "I" else "I") else "[I")) else (bif Nat.ble 3 k then (bif Nat.ble 4 k then (bif Nat.ble 5 k then "[I" else "[I") else "[I") else (bif Nat.ble 1 k then (bif Nat.ble 2 k then "[Z" else "[I") else "[I")))
def fTy (k : Nat) : FieldType := (bif Nat.ble 6 k then (bif Nat.ble 9 k then (bif Nat.ble 11 k then (bif Nat.ble 12 k then .int else .int) else (bif Nat.ble 10 k then .int else .int)) else (bif Nat.ble 7 k then (bif Nat.ble 8 k then .int else .int) else (.array .int))) else (bif Nat.ble 3 k then (bif Nat.ble 4 k then (bif Nat.ble 5 k then (.array .int) else (.array .int)) else (.array .int)) else (bif Nat.ble 1 k then (bif Nat.ble 2 k then (.array .boolean) else (.array .int)) else (.array .int))))
def fFin (k : Nat) : Bool := (bif Nat.ble 6 k then (bif Nat.ble 9 k then (bif Nat.ble 11 k then (bif Nat.ble 12 k then false else false) else (bif Nat.ble 10 k then false else false)) else (bif Nat.ble 7 k then (bif Nat.ble 8 k then false else false) else false)) else (bif Nat.ble 3 k then (bif Nat.ble 4 k then (bif Nat.ble 5 k then false else false) else false) else (bif Nat.ble 1 k then (bif Nat.ble 2 k then false else false) else false)))
def cDef : List Value := [.null, .null, .null, .null, .null, .null, .null, .int 0, .int 0, .int 0, .int 0, .int 0, .int 0]
def cK : List Value := [.long (1000003)]
def pN : Nat := 33
def pTop : Nat := 398
def pK (m : Nat) : Nat := (bif Nat.ble 16 m then (bif Nat.ble 24 m then (bif Nat.ble 28 m then (bif Nat.ble 30 m then (bif Nat.ble 31 m then (bif Nat.ble 32 m then 1 else 1) else 1) else (bif Nat.ble 29 m then 1 else 1)) else (bif Nat.ble 26 m then (bif Nat.ble 27 m then 1 else 1) else (bif Nat.ble 25 m then 1 else 1))) else (bif Nat.ble 20 m then (bif Nat.ble 22 m then (bif Nat.ble 23 m then 1 else 1) else (bif Nat.ble 21 m then 1 else 1)) else (bif Nat.ble 18 m then (bif Nat.ble 19 m then 1 else 1) else (bif Nat.ble 17 m then 1 else 1)))) else (bif Nat.ble 8 m then (bif Nat.ble 12 m then (bif Nat.ble 14 m then (bif Nat.ble 15 m then 1 else 1) else (bif Nat.ble 13 m then 1 else 1)) else (bif Nat.ble 10 m then (bif Nat.ble 11 m then 1 else 1) else (bif Nat.ble 9 m then 1 else 0))) else (bif Nat.ble 4 m then (bif Nat.ble 6 m then (bif Nat.ble 7 m then 0 else 1) else (bif Nat.ble 5 m then 0 else 1)) else (bif Nat.ble 2 m then (bif Nat.ble 3 m then 1 else 1) else (bif Nat.ble 1 m then 1 else 0)))))
def pNm (m : Nat) : String := (bif Nat.ble 16 m then (bif Nat.ble 24 m then (bif Nat.ble 28 m then (bif Nat.ble 30 m then (bif Nat.ble 31 m then (bif Nat.ble 32 m then "failCommit" else "abort") else "endTx") else (bif Nat.ble 29 m then "install" else "leastConflict")) else (bif Nat.ble 26 m then (bif Nat.ble 27 m then "isStale" else "bufIndex") else (bif Nat.ble 25 m then "read" else "write"))) else (bif Nat.ble 20 m then (bif Nat.ble 22 m then (bif Nat.ble 23 m then "bit" else "clearSlot") else (bif Nat.ble 21 m then "openSlot" else "findFreeSlot")) else (bif Nat.ble 18 m then (bif Nat.ble 19 m then "begin" else "getBuffered") else (bif Nat.ble 17 m then "getWriteSet" else "getReadSet")))) else (bif Nat.ble 8 m then (bif Nat.ble 12 m then (bif Nat.ble 14 m then (bif Nat.ble 15 m then "getStart" else "getVersion") else (bif Nat.ble 13 m then "isValidKey" else "getValue")) else (bif Nat.ble 10 m then (bif Nat.ble 11 m then "getLastConflictKey" else "getAbortCount") else (bif Nat.ble 9 m then "getCommitCount" else "fp"))) else (bif Nat.ble 4 m then (bif Nat.ble 6 m then (bif Nat.ble 7 m then "badKey" else "isActive") else (bif Nat.ble 5 m then "badTx" else "isValidTx")) else (bif Nat.ble 2 m then (bif Nat.ble 3 m then "commit" else "clamp") else (bif Nat.ble 1 m then "<init>" else "law")))))
def pDs (m : Nat) : String := (bif Nat.ble 16 m then (bif Nat.ble 24 m then (bif Nat.ble 28 m then (bif Nat.ble 30 m then (bif Nat.ble 31 m then (bif Nat.ble 32 m then "(III)I" else "(I)I") else "(I)V") else (bif Nat.ble 29 m then "(I)I" else "(I)I")) else (bif Nat.ble 26 m then (bif Nat.ble 27 m then "(I)Z" else "(II)I") else (bif Nat.ble 25 m then "(II)I" else "(III)I"))) else (bif Nat.ble 20 m then (bif Nat.ble 22 m then (bif Nat.ble 23 m then "(I)I" else "(I)V") else (bif Nat.ble 21 m then "(I)V" else "()I")) else (bif Nat.ble 18 m then (bif Nat.ble 19 m then "()I" else "(II)I") else (bif Nat.ble 17 m then "(I)I" else "(I)I")))) else (bif Nat.ble 8 m then (bif Nat.ble 12 m then (bif Nat.ble 14 m then (bif Nat.ble 15 m then "(I)I" else "(I)I") else (bif Nat.ble 13 m then "(I)Z" else "(I)I")) else (bif Nat.ble 10 m then (bif Nat.ble 11 m then "()I" else "()I") else (bif Nat.ble 9 m then "()I" else "(LOccValidator;)J"))) else (bif Nat.ble 4 m then (bif Nat.ble 6 m then (bif Nat.ble 7 m then "(I)I" else "(I)Z") else (bif Nat.ble 5 m then "(LOccValidator;I)I" else "(I)Z")) else (bif Nat.ble 2 m then (bif Nat.ble 3 m then "(I)I" else "(III)I") else (bif Nat.ble 1 m then "(III)V" else "([I)Z")))))
def pName (m : Nat) : MethodName := ⟨kName (pK m), pNm m, pDs m⟩
def pBytes (m : Nat) : ByteArray := (bif Nat.ble 16 m then (bif Nat.ble 24 m then (bif Nat.ble 28 m then (bif Nat.ble 30 m then (bif Nat.ble 31 m then (bif Nat.ble 32 m then prog_1_method_28_code else prog_1_method_6_code) else prog_1_method_25_code) else (bif Nat.ble 29 m then prog_1_method_29_code else prog_1_method_27_code)) else (bif Nat.ble 26 m then (bif Nat.ble 27 m then prog_1_method_26_code else prog_1_method_21_code) else (bif Nat.ble 25 m then prog_1_method_3_code else prog_1_method_4_code))) else (bif Nat.ble 20 m then (bif Nat.ble 22 m then (bif Nat.ble 23 m then prog_1_method_20_code else prog_1_method_24_code) else (bif Nat.ble 21 m then prog_1_method_23_code else prog_1_method_22_code)) else (bif Nat.ble 18 m then (bif Nat.ble 19 m then prog_1_method_2_code else prog_1_method_16_code) else (bif Nat.ble 17 m then prog_1_method_15_code else prog_1_method_14_code)))) else (bif Nat.ble 8 m then (bif Nat.ble 12 m then (bif Nat.ble 14 m then (bif Nat.ble 15 m then prog_1_method_13_code else prog_1_method_8_code) else (bif Nat.ble 13 m then prog_1_method_19_code else prog_1_method_7_code)) else (bif Nat.ble 10 m then (bif Nat.ble 11 m then prog_1_method_11_code else prog_1_method_10_code) else (bif Nat.ble 9 m then prog_1_method_9_code else method_2_code))) else (bif Nat.ble 4 m then (bif Nat.ble 6 m then (bif Nat.ble 7 m then method_4_code else prog_1_method_12_code) else (bif Nat.ble 5 m then method_3_code else prog_1_method_18_code)) else (bif Nat.ble 2 m then (bif Nat.ble 3 m then prog_1_method_5_code else prog_1_method_17_code) else (bif Nat.ble 1 m then prog_1_method_1_code else code)))))
def pMaxL (m : Nat) : Nat := (bif Nat.ble 16 m then (bif Nat.ble 24 m then (bif Nat.ble 28 m then (bif Nat.ble 30 m then (bif Nat.ble 31 m then (bif Nat.ble 32 m then 4 else 2) else 2) else (bif Nat.ble 29 m then 5 else 5)) else (bif Nat.ble 26 m then (bif Nat.ble 27 m then 2 else 3) else (bif Nat.ble 25 m then 4 else 4))) else (bif Nat.ble 20 m then (bif Nat.ble 22 m then (bif Nat.ble 23 m then 2 else 4) else (bif Nat.ble 21 m then 2 else 2)) else (bif Nat.ble 18 m then (bif Nat.ble 19 m then 2 else 3) else (bif Nat.ble 17 m then 2 else 2)))) else (bif Nat.ble 8 m then (bif Nat.ble 12 m then (bif Nat.ble 14 m then (bif Nat.ble 15 m then 2 else 2) else (bif Nat.ble 13 m then 2 else 2)) else (bif Nat.ble 10 m then (bif Nat.ble 11 m then 1 else 1) else (bif Nat.ble 9 m then 1 else 5))) else (bif Nat.ble 4 m then (bif Nat.ble 6 m then (bif Nat.ble 7 m then 1 else 2) else (bif Nat.ble 5 m then 3 else 2)) else (bif Nat.ble 2 m then (bif Nat.ble 3 m then 3 else 4) else (bif Nat.ble 1 m then 4 else 19)))))
def pRet (m : Nat) : Option FieldType := (bif Nat.ble 16 m then (bif Nat.ble 24 m then (bif Nat.ble 28 m then (bif Nat.ble 30 m then (bif Nat.ble 31 m then (bif Nat.ble 32 m then (some .int) else (some .int)) else none) else (bif Nat.ble 29 m then (some .int) else (some .int))) else (bif Nat.ble 26 m then (bif Nat.ble 27 m then (some .boolean) else (some .int)) else (bif Nat.ble 25 m then (some .int) else (some .int)))) else (bif Nat.ble 20 m then (bif Nat.ble 22 m then (bif Nat.ble 23 m then (some .int) else none) else (bif Nat.ble 21 m then none else (some .int))) else (bif Nat.ble 18 m then (bif Nat.ble 19 m then (some .int) else (some .int)) else (bif Nat.ble 17 m then (some .int) else (some .int))))) else (bif Nat.ble 8 m then (bif Nat.ble 12 m then (bif Nat.ble 14 m then (bif Nat.ble 15 m then (some .int) else (some .int)) else (bif Nat.ble 13 m then (some .boolean) else (some .int))) else (bif Nat.ble 10 m then (bif Nat.ble 11 m then (some .int) else (some .int)) else (bif Nat.ble 9 m then (some .int) else (some .long)))) else (bif Nat.ble 4 m then (bif Nat.ble 6 m then (bif Nat.ble 7 m then (some .int) else (some .boolean)) else (bif Nat.ble 5 m then (some .int) else (some .boolean))) else (bif Nat.ble 2 m then (bif Nat.ble 3 m then (some .int) else (some .int)) else (bif Nat.ble 1 m then none else (some .boolean))))))
def pNA (m : Nat) : Nat := (bif Nat.ble 16 m then (bif Nat.ble 24 m then (bif Nat.ble 28 m then (bif Nat.ble 30 m then (bif Nat.ble 31 m then (bif Nat.ble 32 m then 3 else 1) else 1) else (bif Nat.ble 29 m then 1 else 1)) else (bif Nat.ble 26 m then (bif Nat.ble 27 m then 1 else 2) else (bif Nat.ble 25 m then 2 else 3))) else (bif Nat.ble 20 m then (bif Nat.ble 22 m then (bif Nat.ble 23 m then 1 else 1) else (bif Nat.ble 21 m then 1 else 0)) else (bif Nat.ble 18 m then (bif Nat.ble 19 m then 0 else 2) else (bif Nat.ble 17 m then 1 else 1)))) else (bif Nat.ble 8 m then (bif Nat.ble 12 m then (bif Nat.ble 14 m then (bif Nat.ble 15 m then 1 else 1) else (bif Nat.ble 13 m then 1 else 1)) else (bif Nat.ble 10 m then (bif Nat.ble 11 m then 0 else 0) else (bif Nat.ble 9 m then 0 else 1))) else (bif Nat.ble 4 m then (bif Nat.ble 6 m then (bif Nat.ble 7 m then 1 else 1) else (bif Nat.ble 5 m then 2 else 1)) else (bif Nat.ble 2 m then (bif Nat.ble 3 m then 1 else 3) else (bif Nat.ble 1 m then 3 else 1)))))
def pFr (m : Nat) : Nat := (bif Nat.ble 16 m then (bif Nat.ble 24 m then (bif Nat.ble 28 m then (bif Nat.ble 30 m then (bif Nat.ble 31 m then (bif Nat.ble 32 m then 2 else 2) else 1) else (bif Nat.ble 29 m then 2 else 1)) else (bif Nat.ble 26 m then (bif Nat.ble 27 m then 0 else 0) else (bif Nat.ble 25 m then 1 else 1))) else (bif Nat.ble 20 m then (bif Nat.ble 22 m then (bif Nat.ble 23 m then 0 else 0) else (bif Nat.ble 21 m then 1 else 0)) else (bif Nat.ble 18 m then (bif Nat.ble 19 m then 2 else 1) else (bif Nat.ble 17 m then 1 else 1)))) else (bif Nat.ble 8 m then (bif Nat.ble 12 m then (bif Nat.ble 14 m then (bif Nat.ble 15 m then 1 else 1) else (bif Nat.ble 13 m then 0 else 1)) else (bif Nat.ble 10 m then (bif Nat.ble 11 m then 0 else 0) else (bif Nat.ble 9 m then 0 else 2))) else (bif Nat.ble 4 m then (bif Nat.ble 6 m then (bif Nat.ble 7 m then 0 else 1) else (bif Nat.ble 5 m then 2 else 0)) else (bif Nat.ble 2 m then (bif Nat.ble 3 m then 3 else 0) else (bif Nat.ble 1 m then 1 else 4)))))
def pLo (m : Nat) : Nat := (bif Nat.ble 16 m then (bif Nat.ble 24 m then (bif Nat.ble 28 m then (bif Nat.ble 30 m then (bif Nat.ble 31 m then (bif Nat.ble 32 m then 28 else 28) else 15) else (bif Nat.ble 29 m then 28 else 14)) else (bif Nat.ble 26 m then (bif Nat.ble 27 m then 0 else 0) else (bif Nat.ble 25 m then 15 else 16))) else (bif Nat.ble 20 m then (bif Nat.ble 22 m then (bif Nat.ble 23 m then 0 else 0) else (bif Nat.ble 21 m then 15 else 0)) else (bif Nat.ble 18 m then (bif Nat.ble 19 m then 28 else 15) else (bif Nat.ble 17 m then 13 else 13)))) else (bif Nat.ble 8 m then (bif Nat.ble 12 m then (bif Nat.ble 14 m then (bif Nat.ble 15 m then 13 else 13) else (bif Nat.ble 13 m then 0 else 13)) else (bif Nat.ble 10 m then (bif Nat.ble 11 m then 0 else 0) else (bif Nat.ble 9 m then 0 else 31))) else (bif Nat.ble 4 m then (bif Nat.ble 6 m then (bif Nat.ble 7 m then 0 else 13) else (bif Nat.ble 5 m then 26 else 0)) else (bif Nat.ble 2 m then (bif Nat.ble 3 m then 44 else 0) else (bif Nat.ble 1 m then 16 else 58)))))
def cd0 (pc : Nat) : Option (Instr × Nat) := (bif Nat.ble 180 pc then (bif Nat.ble 292 pc then (bif Nat.ble 345 pc then (bif Nat.ble 372 pc then (bif Nat.ble 384 pc then (bif Nat.ble 390 pc then (bif Nat.ble 396 pc then (bif Nat.ble 397 pc then (bif Nat.beq pc 397 then some (.ireturn, 0) else none) else (bif Nat.beq pc 396 then some (.iconst 1, 0) else none)) else (bif Nat.ble 393 pc then (bif Nat.beq pc 393 then some (.goto (-379), 14) else none) else (bif Nat.beq pc 390 then some (.iinc 2 5, 0) else none))) else (bif Nat.ble 388 pc then (bif Nat.ble 389 pc then (bif Nat.beq pc 389 then some (.ireturn, 0) else none) else (bif Nat.beq pc 388 then some (.iconst 0, 0) else none)) else (bif Nat.ble 385 pc then (bif Nat.beq pc 385 then some (.ifCond .eq 5, 390) else none) else (bif Nat.beq pc 384 then some (.lcmp, 0) else none)))) else (bif Nat.ble 375 pc then (bif Nat.ble 380 pc then (bif Nat.ble 382 pc then (bif Nat.beq pc 382 then some (.lload 17, 0) else none) else (bif Nat.beq pc 380 then some (.lload 15, 0) else none)) else (bif Nat.ble 378 pc then (bif Nat.beq pc 378 then some (.lstore 17, 0) else none) else (bif Nat.beq pc 375 then some (.invokestatic 73, 8) else none))) else (bif Nat.ble 373 pc then (bif Nat.ble 374 pc then (bif Nat.beq pc 374 then some (.aload_n 1, 0) else none) else (bif Nat.beq pc 373 then some (.ireturn, 0) else none)) else (bif Nat.beq pc 372 then some (.iconst 0, 0) else none)))) else (bif Nat.ble 358 pc then (bif Nat.ble 363 pc then (bif Nat.ble 368 pc then (bif Nat.ble 369 pc then (bif Nat.beq pc 369 then some (.if_icmp .eq 5, 374) else none) else (bif Nat.beq pc 368 then some (.iconst (-1), 0) else none)) else (bif Nat.ble 365 pc then (bif Nat.beq pc 365 then some (.invokevirtual 54, 24) else none) else (bif Nat.beq pc 363 then some (.iload 6, 0) else none))) else (bif Nat.ble 359 pc then (bif Nat.ble 361 pc then (bif Nat.beq pc 361 then some (.iload 12, 0) else none) else (bif Nat.beq pc 359 then some (.iload 10, 0) else none)) else (bif Nat.beq pc 358 then some (.aload_n 1, 0) else none))) else (bif Nat.ble 350 pc then (bif Nat.ble 356 pc then (bif Nat.ble 357 pc then (bif Nat.beq pc 357 then some (.ireturn, 0) else none) else (bif Nat.beq pc 356 then some (.iconst 0, 0) else none)) else (bif Nat.ble 353 pc then (bif Nat.beq pc 353 then some (.ifCond .eq 5, 358) else none) else (bif Nat.beq pc 350 then some (.invokevirtual 51, 25) else none))) else (bif Nat.ble 346 pc then (bif Nat.ble 348 pc then (bif Nat.beq pc 348 then some (.iload 12, 0) else none) else (bif Nat.beq pc 346 then some (.iload 10, 0) else none)) else (bif Nat.beq pc 345 then some (.aload_n 1, 0) else none))))) else (bif Nat.ble 318 pc then (bif Nat.ble 330 pc then (bif Nat.ble 339 pc then (bif Nat.ble 343 pc then (bif Nat.ble 344 pc then (bif Nat.beq pc 344 then some (.ireturn, 0) else none) else (bif Nat.beq pc 343 then some (.iconst 0, 0) else none)) else (bif Nat.ble 340 pc then (bif Nat.beq pc 340 then some (.if_icmp .eq 34, 374) else none) else (bif Nat.beq pc 339 then some (.iconst (-1), 0) else none))) else (bif Nat.ble 334 pc then (bif Nat.ble 336 pc then (bif Nat.beq pc 336 then some (.invokevirtual 61, 31) else none) else (bif Nat.beq pc 334 then some (.iload 10, 0) else none)) else (bif Nat.ble 333 pc then (bif Nat.beq pc 333 then some (.aload_n 1, 0) else none) else (bif Nat.beq pc 330 then some (.if_icmp .ne 15, 345) else none)))) else (bif Nat.ble 325 pc then (bif Nat.ble 327 pc then (bif Nat.ble 329 pc then (bif Nat.beq pc 329 then some (.iconst 4, 0) else none) else (bif Nat.beq pc 327 then some (.iload 8, 0) else none)) else (bif Nat.ble 326 pc then (bif Nat.beq pc 326 then some (.ireturn, 0) else none) else (bif Nat.beq pc 325 then some (.iconst 0, 0) else none))) else (bif Nat.ble 321 pc then (bif Nat.ble 322 pc then (bif Nat.beq pc 322 then some (.if_icmp .eq 52, 374) else none) else (bif Nat.beq pc 321 then some (.iconst (-1), 0) else none)) else (bif Nat.beq pc 318 then some (.invokevirtual 58, 3) else none)))) else (bif Nat.ble 307 pc then (bif Nat.ble 311 pc then (bif Nat.ble 315 pc then (bif Nat.ble 316 pc then (bif Nat.beq pc 316 then some (.iload 10, 0) else none) else (bif Nat.beq pc 315 then some (.aload_n 1, 0) else none)) else (bif Nat.ble 312 pc then (bif Nat.beq pc 312 then some (.if_icmp .ne 15, 327) else none) else (bif Nat.beq pc 311 then some (.iconst 3, 0) else none))) else (bif Nat.ble 308 pc then (bif Nat.ble 309 pc then (bif Nat.beq pc 309 then some (.iload 8, 0) else none) else (bif Nat.beq pc 308 then some (.ireturn, 0) else none)) else (bif Nat.beq pc 307 then some (.iconst 0, 0) else none))) else (bif Nat.ble 297 pc then (bif Nat.ble 302 pc then (bif Nat.ble 304 pc then (bif Nat.beq pc 304 then some (.if_icmp .eq 70, 374) else none) else (bif Nat.beq pc 302 then some (.iload 13, 0) else none)) else (bif Nat.ble 299 pc then (bif Nat.beq pc 299 then some (.invokevirtual 54, 24) else none) else (bif Nat.beq pc 297 then some (.iload 6, 0) else none))) else (bif Nat.ble 293 pc then (bif Nat.ble 295 pc then (bif Nat.beq pc 295 then some (.iload 11, 0) else none) else (bif Nat.beq pc 293 then some (.iload 9, 0) else none)) else (bif Nat.beq pc 292 then some (.aload_n 1, 0) else none)))))) else (bif Nat.ble 234 pc then (bif Nat.ble 265 pc then (bif Nat.ble 276 pc then (bif Nat.ble 285 pc then (bif Nat.ble 288 pc then (bif Nat.ble 289 pc then (bif Nat.beq pc 289 then some (.if_icmp .ne 20, 309) else none) else (bif Nat.beq pc 288 then some (.iconst 2, 0) else none)) else (bif Nat.ble 286 pc then (bif Nat.beq pc 286 then some (.iload 8, 0) else none) else (bif Nat.beq pc 285 then some (.ireturn, 0) else none))) else (bif Nat.ble 281 pc then (bif Nat.ble 284 pc then (bif Nat.beq pc 284 then some (.iconst 0, 0) else none) else (bif Nat.beq pc 281 then some (.ifCond .eq 93, 374) else none)) else (bif Nat.ble 278 pc then (bif Nat.beq pc 278 then some (.invokevirtual 51, 25) else none) else (bif Nat.beq pc 276 then some (.iload 11, 0) else none)))) else (bif Nat.ble 269 pc then (bif Nat.ble 273 pc then (bif Nat.ble 274 pc then (bif Nat.beq pc 274 then some (.iload 9, 0) else none) else (bif Nat.beq pc 273 then some (.aload_n 1, 0) else none)) else (bif Nat.ble 270 pc then (bif Nat.beq pc 270 then some (.if_icmp .ne 16, 286) else none) else (bif Nat.beq pc 269 then some (.iconst 1, 0) else none))) else (bif Nat.ble 266 pc then (bif Nat.ble 267 pc then (bif Nat.beq pc 267 then some (.iload 8, 0) else none) else (bif Nat.beq pc 266 then some (.ireturn, 0) else none)) else (bif Nat.beq pc 265 then some (.iconst 0, 0) else none)))) else (bif Nat.ble 248 pc then (bif Nat.ble 256 pc then (bif Nat.ble 260 pc then (bif Nat.ble 262 pc then (bif Nat.beq pc 262 then some (.if_icmp .eq 112, 374) else none) else (bif Nat.beq pc 260 then some (.bipush (-5), 0) else none)) else (bif Nat.ble 257 pc then (bif Nat.beq pc 257 then some (.invokevirtual 48, 19) else none) else (bif Nat.beq pc 256 then some (.aload_n 1, 0) else none))) else (bif Nat.ble 251 pc then (bif Nat.ble 253 pc then (bif Nat.beq pc 253 then some (.ifCond .eq 121, 374) else none) else (bif Nat.beq pc 251 then some (.iload 14, 0) else none)) else (bif Nat.beq pc 248 then some (.ifCond .ne 19, 267) else none))) else (bif Nat.ble 240 pc then (bif Nat.ble 244 pc then (bif Nat.ble 246 pc then (bif Nat.beq pc 246 then some (.iload 8, 0) else none) else (bif Nat.beq pc 244 then some (.lstore 15, 0) else none)) else (bif Nat.ble 241 pc then (bif Nat.beq pc 241 then some (.invokestatic 73, 8) else none) else (bif Nat.beq pc 240 then some (.aload_n 1, 0) else none))) else (bif Nat.ble 237 pc then (bif Nat.ble 238 pc then (bif Nat.beq pc 238 then some (.istore 14, 0) else none) else (bif Nat.beq pc 237 then some (.iconst 0, 0) else none)) else (bif Nat.beq pc 234 then some (.goto 4, 238) else none))))) else (bif Nat.ble 206 pc then (bif Nat.ble 219 pc then (bif Nat.ble 226 pc then (bif Nat.ble 230 pc then (bif Nat.ble 233 pc then (bif Nat.beq pc 233 then some (.iconst 1, 0) else none) else (bif Nat.beq pc 230 then some (.ifCond .eq 7, 237) else none)) else (bif Nat.ble 227 pc then (bif Nat.beq pc 227 then some (.invokevirtual 28, 6) else none) else (bif Nat.beq pc 226 then some (.iconst 3, 0) else none))) else (bif Nat.ble 222 pc then (bif Nat.ble 225 pc then (bif Nat.beq pc 225 then some (.aload_n 1, 0) else none) else (bif Nat.beq pc 222 then some (.ifCond .eq 15, 237) else none)) else (bif Nat.beq pc 219 then some (.invokevirtual 28, 6) else none))) else (bif Nat.ble 211 pc then (bif Nat.ble 217 pc then (bif Nat.ble 218 pc then (bif Nat.beq pc 218 then some (.iconst 2, 0) else none) else (bif Nat.beq pc 217 then some (.aload_n 1, 0) else none)) else (bif Nat.ble 214 pc then (bif Nat.beq pc 214 then some (.ifCond .eq 23, 237) else none) else (bif Nat.beq pc 211 then some (.invokevirtual 28, 6) else none))) else (bif Nat.ble 209 pc then (bif Nat.ble 210 pc then (bif Nat.beq pc 210 then some (.iconst 1, 0) else none) else (bif Nat.beq pc 209 then some (.aload_n 1, 0) else none)) else (bif Nat.beq pc 206 then some (.ifCond .eq 31, 237) else none)))) else (bif Nat.ble 192 pc then (bif Nat.ble 199 pc then (bif Nat.ble 202 pc then (bif Nat.ble 203 pc then (bif Nat.beq pc 203 then some (.invokevirtual 28, 6) else none) else (bif Nat.beq pc 202 then some (.iconst 0, 0) else none)) else (bif Nat.ble 201 pc then (bif Nat.beq pc 201 then some (.aload_n 1, 0) else none) else (bif Nat.beq pc 199 then some (.istore 13, 0) else none))) else (bif Nat.ble 195 pc then (bif Nat.ble 198 pc then (bif Nat.beq pc 198 then some (.iconst (-1), 0) else none) else (bif Nat.beq pc 195 then some (.ifCond .ne 6, 201) else none)) else (bif Nat.beq pc 192 then some (.invokevirtual 28, 6) else none))) else (bif Nat.ble 185 pc then (bif Nat.ble 189 pc then (bif Nat.ble 190 pc then (bif Nat.beq pc 190 then some (.iload 9, 0) else none) else (bif Nat.beq pc 189 then some (.aload_n 1, 0) else none)) else (bif Nat.ble 187 pc then (bif Nat.beq pc 187 then some (.istore 13, 0) else none) else (bif Nat.beq pc 185 then some (.bipush (-2), 0) else none))) else (bif Nat.ble 182 pc then (bif Nat.ble 183 pc then (bif Nat.beq pc 183 then some (.istore 12, 0) else none) else (bif Nat.beq pc 182 then some (.iand, 0) else none)) else (bif Nat.beq pc 180 then some (.bipush 7, 0) else none))))))) else (bif Nat.ble 79 pc then (bif Nat.ble 134 pc then (bif Nat.ble 154 pc then (bif Nat.ble 163 pc then (bif Nat.ble 173 pc then (bif Nat.ble 177 pc then (bif Nat.ble 179 pc then (bif Nat.beq pc 179 then some (.iushr, 0) else none) else (bif Nat.beq pc 177 then some (.bipush 16, 0) else none)) else (bif Nat.ble 175 pc then (bif Nat.beq pc 175 then some (.iload 7, 0) else none) else (bif Nat.beq pc 173 then some (.istore 11, 0) else none))) else (bif Nat.ble 168 pc then (bif Nat.ble 170 pc then (bif Nat.beq pc 170 then some (.invokestatic 70, 7) else none) else (bif Nat.beq pc 168 then some (.iload 7, 0) else none)) else (bif Nat.ble 166 pc then (bif Nat.beq pc 166 then some (.istore 10, 0) else none) else (bif Nat.beq pc 163 then some (.invokestatic 64, 5) else none)))) else (bif Nat.ble 157 pc then (bif Nat.ble 160 pc then (bif Nat.ble 161 pc then (bif Nat.beq pc 161 then some (.iload 7, 0) else none) else (bif Nat.beq pc 160 then some (.aload_n 1, 0) else none)) else (bif Nat.ble 158 pc then (bif Nat.beq pc 158 then some (.istore 9, 0) else none) else (bif Nat.beq pc 157 then some (.iand, 0) else none))) else (bif Nat.ble 155 pc then (bif Nat.ble 156 pc then (bif Nat.beq pc 156 then some (.iconst 3, 0) else none) else (bif Nat.beq pc 155 then some (.iushr, 0) else none)) else (bif Nat.beq pc 154 then some (.iconst 3, 0) else none)))) else (bif Nat.ble 142 pc then (bif Nat.ble 147 pc then (bif Nat.ble 150 pc then (bif Nat.ble 152 pc then (bif Nat.beq pc 152 then some (.iload 7, 0) else none) else (bif Nat.beq pc 150 then some (.istore 8, 0) else none)) else (bif Nat.ble 149 pc then (bif Nat.beq pc 149 then some (.irem, 0) else none) else (bif Nat.beq pc 147 then some (.bipush 6, 0) else none))) else (bif Nat.ble 144 pc then (bif Nat.ble 146 pc then (bif Nat.beq pc 146 then some (.iand, 0) else none) else (bif Nat.beq pc 144 then some (.bipush 7, 0) else none)) else (bif Nat.beq pc 142 then some (.iload 7, 0) else none))) else (bif Nat.ble 137 pc then (bif Nat.ble 139 pc then (bif Nat.ble 140 pc then (bif Nat.beq pc 140 then some (.istore 7, 0) else none) else (bif Nat.beq pc 139 then some (.iaload, 0) else none)) else (bif Nat.ble 138 pc then (bif Nat.beq pc 138 then some (.iadd, 0) else none) else (bif Nat.beq pc 137 then some (.iconst 4, 0) else none))) else (bif Nat.ble 135 pc then (bif Nat.ble 136 pc then (bif Nat.beq pc 136 then some (.iload_n 2, 0) else none) else (bif Nat.beq pc 135 then some (.aload_n 0, 0) else none)) else (bif Nat.beq pc 134 then some (.pop, 0) else none))))) else (bif Nat.ble 106 pc then (bif Nat.ble 119 pc then (bif Nat.ble 125 pc then (bif Nat.ble 129 pc then (bif Nat.ble 131 pc then (bif Nat.beq pc 131 then some (.invokevirtual 61, 31) else none) else (bif Nat.beq pc 129 then some (.iload 4, 0) else none)) else (bif Nat.ble 128 pc then (bif Nat.beq pc 128 then some (.aload_n 1, 0) else none) else (bif Nat.beq pc 125 then some (.goto 10, 135) else none))) else (bif Nat.ble 121 pc then (bif Nat.ble 124 pc then (bif Nat.beq pc 124 then some (.pop, 0) else none) else (bif Nat.beq pc 121 then some (.invokevirtual 58, 3) else none)) else (bif Nat.beq pc 119 then some (.iload 4, 0) else none))) else (bif Nat.ble 113 pc then (bif Nat.ble 115 pc then (bif Nat.ble 118 pc then (bif Nat.beq pc 118 then some (.aload_n 1, 0) else none) else (bif Nat.beq pc 115 then some (.if_icmp .ne 13, 128) else none)) else (bif Nat.ble 114 pc then (bif Nat.beq pc 114 then some (.iconst 3, 0) else none) else (bif Nat.beq pc 113 then some (.iload_n 3, 0) else none))) else (bif Nat.ble 109 pc then (bif Nat.ble 110 pc then (bif Nat.beq pc 110 then some (.goto 25, 135) else none) else (bif Nat.beq pc 109 then some (.pop, 0) else none)) else (bif Nat.beq pc 106 then some (.invokevirtual 54, 24) else none)))) else (bif Nat.ble 94 pc then (bif Nat.ble 99 pc then (bif Nat.ble 102 pc then (bif Nat.ble 104 pc then (bif Nat.beq pc 104 then some (.iload 6, 0) else none) else (bif Nat.beq pc 102 then some (.iload 5, 0) else none)) else (bif Nat.ble 100 pc then (bif Nat.beq pc 100 then some (.iload 4, 0) else none) else (bif Nat.beq pc 99 then some (.aload_n 1, 0) else none))) else (bif Nat.ble 95 pc then (bif Nat.ble 96 pc then (bif Nat.beq pc 96 then some (.if_icmp .ne 17, 113) else none) else (bif Nat.beq pc 95 then some (.iconst 2, 0) else none)) else (bif Nat.beq pc 94 then some (.iload_n 3, 0) else none))) else (bif Nat.ble 85 pc then (bif Nat.ble 90 pc then (bif Nat.ble 91 pc then (bif Nat.beq pc 91 then some (.goto 44, 135) else none) else (bif Nat.beq pc 90 then some (.pop, 0) else none)) else (bif Nat.ble 87 pc then (bif Nat.beq pc 87 then some (.invokevirtual 51, 25) else none) else (bif Nat.beq pc 85 then some (.iload 5, 0) else none))) else (bif Nat.ble 82 pc then (bif Nat.ble 83 pc then (bif Nat.beq pc 83 then some (.iload 4, 0) else none) else (bif Nat.beq pc 82 then some (.aload_n 1, 0) else none)) else (bif Nat.beq pc 79 then some (.if_icmp .ne 15, 94) else none)))))) else (bif Nat.ble 36 pc then (bif Nat.ble 56 pc then (bif Nat.ble 65 pc then (bif Nat.ble 73 pc then (bif Nat.ble 77 pc then (bif Nat.ble 78 pc then (bif Nat.beq pc 78 then some (.iconst 1, 0) else none) else (bif Nat.beq pc 77 then some (.iload_n 3, 0) else none)) else (bif Nat.ble 74 pc then (bif Nat.beq pc 74 then some (.goto 61, 135) else none) else (bif Nat.beq pc 73 then some (.pop, 0) else none))) else (bif Nat.ble 69 pc then (bif Nat.ble 70 pc then (bif Nat.beq pc 70 then some (.invokevirtual 48, 19) else none) else (bif Nat.beq pc 69 then some (.aload_n 1, 0) else none)) else (bif Nat.ble 66 pc then (bif Nat.beq pc 66 then some (.ifCond .ne 11, 77) else none) else (bif Nat.beq pc 65 then some (.iload_n 3, 0) else none)))) else (bif Nat.ble 60 pc then (bif Nat.ble 62 pc then (bif Nat.ble 63 pc then (bif Nat.beq pc 63 then some (.istore 6, 0) else none) else (bif Nat.beq pc 62 then some (.iaload, 0) else none)) else (bif Nat.ble 61 pc then (bif Nat.beq pc 61 then some (.iadd, 0) else none) else (bif Nat.beq pc 60 then some (.iconst 3, 0) else none))) else (bif Nat.ble 58 pc then (bif Nat.ble 59 pc then (bif Nat.beq pc 59 then some (.iload_n 2, 0) else none) else (bif Nat.beq pc 58 then some (.aload_n 0, 0) else none)) else (bif Nat.beq pc 56 then some (.istore 5, 0) else none)))) else (bif Nat.ble 46 pc then (bif Nat.ble 49 pc then (bif Nat.ble 53 pc then (bif Nat.ble 55 pc then (bif Nat.beq pc 55 then some (.irem, 0) else none) else (bif Nat.beq pc 53 then some (.bipush 9, 0) else none)) else (bif Nat.ble 52 pc then (bif Nat.beq pc 52 then some (.iand, 0) else none) else (bif Nat.beq pc 49 then some (.sipush 255, 0) else none))) else (bif Nat.ble 47 pc then (bif Nat.ble 48 pc then (bif Nat.beq pc 48 then some (.iaload, 0) else none) else (bif Nat.beq pc 47 then some (.iadd, 0) else none)) else (bif Nat.beq pc 46 then some (.iconst 2, 0) else none))) else (bif Nat.ble 41 pc then (bif Nat.ble 44 pc then (bif Nat.ble 45 pc then (bif Nat.beq pc 45 then some (.iload_n 2, 0) else none) else (bif Nat.beq pc 44 then some (.aload_n 0, 0) else none)) else (bif Nat.ble 42 pc then (bif Nat.beq pc 42 then some (.istore 4, 0) else none) else (bif Nat.beq pc 41 then some (.irem, 0) else none))) else (bif Nat.ble 39 pc then (bif Nat.ble 40 pc then (bif Nat.beq pc 40 then some (.iconst 5, 0) else none) else (bif Nat.beq pc 39 then some (.iand, 0) else none)) else (bif Nat.beq pc 36 then some (.sipush 255, 0) else none))))) else (bif Nat.ble 19 pc then (bif Nat.ble 29 pc then (bif Nat.ble 32 pc then (bif Nat.ble 34 pc then (bif Nat.ble 35 pc then (bif Nat.beq pc 35 then some (.iaload, 0) else none) else (bif Nat.beq pc 34 then some (.iadd, 0) else none)) else (bif Nat.ble 33 pc then (bif Nat.beq pc 33 then some (.iconst 1, 0) else none) else (bif Nat.beq pc 32 then some (.iload_n 2, 0) else none))) else (bif Nat.ble 30 pc then (bif Nat.ble 31 pc then (bif Nat.beq pc 31 then some (.aload_n 0, 0) else none) else (bif Nat.beq pc 30 then some (.istore_n 3, 0) else none)) else (bif Nat.beq pc 29 then some (.irem, 0) else none))) else (bif Nat.ble 24 pc then (bif Nat.ble 27 pc then (bif Nat.ble 28 pc then (bif Nat.beq pc 28 then some (.iconst 5, 0) else none) else (bif Nat.beq pc 27 then some (.iand, 0) else none)) else (bif Nat.ble 25 pc then (bif Nat.beq pc 25 then some (.bipush 7, 0) else none) else (bif Nat.beq pc 24 then some (.iaload, 0) else none))) else (bif Nat.ble 22 pc then (bif Nat.ble 23 pc then (bif Nat.beq pc 23 then some (.iload_n 2, 0) else none) else (bif Nat.beq pc 22 then some (.aload_n 0, 0) else none)) else (bif Nat.beq pc 19 then some (.if_icmp .ge 377, 396) else none)))) else (bif Nat.ble 12 pc then (bif Nat.ble 15 pc then (bif Nat.ble 17 pc then (bif Nat.ble 18 pc then (bif Nat.beq pc 18 then some (.arraylength, 0) else none) else (bif Nat.beq pc 17 then some (.aload_n 0, 0) else none)) else (bif Nat.ble 16 pc then (bif Nat.beq pc 16 then some (.iadd, 0) else none) else (bif Nat.beq pc 15 then some (.iconst 4, 0) else none))) else (bif Nat.ble 13 pc then (bif Nat.ble 14 pc then (bif Nat.beq pc 14 then some (.iload_n 2, 0) else none) else (bif Nat.beq pc 13 then some (.istore_n 2, 0) else none)) else (bif Nat.beq pc 12 then some (.iconst 0, 0) else none))) else (bif Nat.ble 6 pc then (bif Nat.ble 8 pc then (bif Nat.ble 11 pc then (bif Nat.beq pc 11 then some (.astore_n 1, 0) else none) else (bif Nat.beq pc 8 then some (.invokespecial 45, 1) else none)) else (bif Nat.ble 7 pc then (bif Nat.beq pc 7 then some (.iconst 4, 0) else none) else (bif Nat.beq pc 6 then some (.iconst 4, 0) else none))) else (bif Nat.ble 3 pc then (bif Nat.ble 4 pc then (bif Nat.beq pc 4 then some (.bipush 8, 0) else none) else (bif Nat.beq pc 3 then some (.dup, 0) else none)) else (bif Nat.beq pc 0 then some (.new 8, 0) else none))))))))
def cd1 (pc : Nat) : Option (Instr × Nat) := (bif Nat.ble 61 pc then (bif Nat.ble 87 pc then (bif Nat.ble 100 pc then (bif Nat.ble 108 pc then (bif Nat.ble 110 pc then (bif Nat.ble 113 pc then (bif Nat.beq pc 113 then some (.return_, 0) else none) else (bif Nat.beq pc 110 then some (.putfield 52, 12) else none)) else (bif Nat.ble 109 pc then (bif Nat.beq pc 109 then some (.iconst (-1), 0) else none) else (bif Nat.beq pc 108 then some (.aload_n 0, 0) else none))) else (bif Nat.ble 104 pc then (bif Nat.ble 105 pc then (bif Nat.beq pc 105 then some (.putfield 49, 11) else none) else (bif Nat.beq pc 104 then some (.iconst 0, 0) else none)) else (bif Nat.ble 103 pc then (bif Nat.beq pc 103 then some (.aload_n 0, 0) else none) else (bif Nat.beq pc 100 then some (.putfield 46, 10) else none)))) else (bif Nat.ble 92 pc then (bif Nat.ble 98 pc then (bif Nat.ble 99 pc then (bif Nat.beq pc 99 then some (.iconst 0, 0) else none) else (bif Nat.beq pc 98 then some (.aload_n 0, 0) else none)) else (bif Nat.ble 95 pc then (bif Nat.beq pc 95 then some (.putfield 43, 9) else none) else (bif Nat.beq pc 92 then some (.invokevirtual 32, 2) else none))) else (bif Nat.ble 89 pc then (bif Nat.ble 90 pc then (bif Nat.beq pc 90 then some (.bipush 16, 0) else none) else (bif Nat.beq pc 89 then some (.iconst 2, 0) else none)) else (bif Nat.ble 88 pc then (bif Nat.beq pc 88 then some (.iload_n 3, 0) else none) else (bif Nat.beq pc 87 then some (.aload_n 0, 0) else none))))) else (bif Nat.ble 74 pc then (bif Nat.ble 78 pc then (bif Nat.ble 83 pc then (bif Nat.ble 86 pc then (bif Nat.beq pc 86 then some (.aload_n 0, 0) else none) else (bif Nat.beq pc 83 then some (.putfield 40, 8) else none)) else (bif Nat.ble 80 pc then (bif Nat.beq pc 80 then some (.invokevirtual 32, 2) else none) else (bif Nat.beq pc 78 then some (.bipush 8, 0) else none))) else (bif Nat.ble 76 pc then (bif Nat.ble 77 pc then (bif Nat.beq pc 77 then some (.iconst 2, 0) else none) else (bif Nat.beq pc 76 then some (.iload_n 2, 0) else none)) else (bif Nat.ble 75 pc then (bif Nat.beq pc 75 then some (.aload_n 0, 0) else none) else (bif Nat.beq pc 74 then some (.aload_n 0, 0) else none)))) else (bif Nat.ble 64 pc then (bif Nat.ble 68 pc then (bif Nat.ble 71 pc then (bif Nat.beq pc 71 then some (.putfield 36, 7) else none) else (bif Nat.beq pc 68 then some (.invokevirtual 32, 2) else none)) else (bif Nat.ble 66 pc then (bif Nat.beq pc 66 then some (.bipush 32, 0) else none) else (bif Nat.beq pc 64 then some (.bipush 8, 0) else none))) else (bif Nat.ble 62 pc then (bif Nat.ble 63 pc then (bif Nat.beq pc 63 then some (.iload_n 1, 0) else none) else (bif Nat.beq pc 62 then some (.aload_n 0, 0) else none)) else (bif Nat.beq pc 61 then some (.aload_n 0, 0) else none))))) else (bif Nat.ble 29 pc then (bif Nat.ble 44 pc then (bif Nat.ble 52 pc then (bif Nat.ble 56 pc then (bif Nat.ble 58 pc then (bif Nat.beq pc 58 then some (.putfield 29, 6) else none) else (bif Nat.beq pc 56 then some (.newarray .int, 0) else none)) else (bif Nat.ble 53 pc then (bif Nat.beq pc 53 then some (.sipush 256, 0) else none) else (bif Nat.beq pc 52 then some (.aload_n 0, 0) else none))) else (bif Nat.ble 47 pc then (bif Nat.ble 49 pc then (bif Nat.beq pc 49 then some (.putfield 26, 5) else none) else (bif Nat.beq pc 47 then some (.newarray .int, 0) else none)) else (bif Nat.ble 45 pc then (bif Nat.beq pc 45 then some (.bipush 8, 0) else none) else (bif Nat.beq pc 44 then some (.aload_n 0, 0) else none)))) else (bif Nat.ble 36 pc then (bif Nat.ble 39 pc then (bif Nat.ble 41 pc then (bif Nat.beq pc 41 then some (.putfield 23, 4) else none) else (bif Nat.beq pc 39 then some (.newarray .int, 0) else none)) else (bif Nat.ble 37 pc then (bif Nat.beq pc 37 then some (.bipush 8, 0) else none) else (bif Nat.beq pc 36 then some (.aload_n 0, 0) else none))) else (bif Nat.ble 31 pc then (bif Nat.ble 33 pc then (bif Nat.beq pc 33 then some (.putfield 20, 3) else none) else (bif Nat.beq pc 31 then some (.newarray .int, 0) else none)) else (bif Nat.beq pc 29 then some (.bipush 8, 0) else none)))) else (bif Nat.ble 13 pc then (bif Nat.ble 21 pc then (bif Nat.ble 25 pc then (bif Nat.ble 28 pc then (bif Nat.beq pc 28 then some (.aload_n 0, 0) else none) else (bif Nat.beq pc 25 then some (.putfield 16, 2) else none)) else (bif Nat.ble 23 pc then (bif Nat.beq pc 23 then some (.newarray .boolean, 0) else none) else (bif Nat.beq pc 21 then some (.bipush 8, 0) else none))) else (bif Nat.ble 17 pc then (bif Nat.ble 20 pc then (bif Nat.beq pc 20 then some (.aload_n 0, 0) else none) else (bif Nat.beq pc 17 then some (.putfield 13, 1) else none)) else (bif Nat.ble 15 pc then (bif Nat.beq pc 15 then some (.newarray .int, 0) else none) else (bif Nat.beq pc 13 then some (.bipush 32, 0) else none)))) else (bif Nat.ble 5 pc then (bif Nat.ble 9 pc then (bif Nat.ble 12 pc then (bif Nat.beq pc 12 then some (.aload_n 0, 0) else none) else (bif Nat.beq pc 9 then some (.putfield 7, 0) else none)) else (bif Nat.ble 7 pc then (bif Nat.beq pc 7 then some (.newarray .int, 0) else none) else (bif Nat.beq pc 5 then some (.bipush 32, 0) else none))) else (bif Nat.ble 1 pc then (bif Nat.ble 4 pc then (bif Nat.beq pc 4 then some (.aload_n 0, 0) else none) else (bif Nat.beq pc 1 then some (.invokespecial 1, 0) else none)) else (bif Nat.beq pc 0 then some (.aload_n 0, 0) else none))))))
def cd2 (pc : Nat) : Option (Instr × Nat) := (bif Nat.ble 8 pc then (bif Nat.ble 13 pc then (bif Nat.ble 14 pc then (bif Nat.ble 15 pc then (bif Nat.beq pc 15 then some (.ireturn, 0) else none) else (bif Nat.beq pc 14 then some (.iload_n 1, 0) else none)) else (bif Nat.beq pc 13 then some (.ireturn, 0) else none)) else (bif Nat.ble 9 pc then (bif Nat.ble 12 pc then (bif Nat.beq pc 12 then some (.iload_n 3, 0) else none) else (bif Nat.beq pc 9 then some (.if_icmp .le 5, 14) else none)) else (bif Nat.beq pc 8 then some (.iload_n 3, 0) else none))) else (bif Nat.ble 5 pc then (bif Nat.ble 6 pc then (bif Nat.ble 7 pc then (bif Nat.beq pc 7 then some (.iload_n 1, 0) else none) else (bif Nat.beq pc 6 then some (.ireturn, 0) else none)) else (bif Nat.beq pc 5 then some (.iload_n 2, 0) else none)) else (bif Nat.ble 1 pc then (bif Nat.ble 2 pc then (bif Nat.beq pc 2 then some (.if_icmp .ge 5, 7) else none) else (bif Nat.beq pc 1 then some (.iload_n 2, 0) else none)) else (bif Nat.beq pc 0 then some (.iload_n 1, 0) else none))))
def cd3 (pc : Nat) : Option (Instr × Nat) := (bif Nat.ble 27 pc then (bif Nat.ble 39 pc then (bif Nat.ble 46 pc then (bif Nat.ble 48 pc then (bif Nat.ble 51 pc then (bif Nat.beq pc 51 then some (.ireturn, 0) else none) else (bif Nat.beq pc 48 then some (.invokevirtual 87, 29) else none)) else (bif Nat.ble 47 pc then (bif Nat.beq pc 47 then some (.iload_n 1, 0) else none) else (bif Nat.beq pc 46 then some (.aload_n 0, 0) else none))) else (bif Nat.ble 42 pc then (bif Nat.ble 45 pc then (bif Nat.beq pc 45 then some (.ireturn, 0) else none) else (bif Nat.beq pc 42 then some (.invokevirtual 81, 32) else none)) else (bif Nat.ble 40 pc then (bif Nat.beq pc 40 then some (.bipush (-3), 0) else none) else (bif Nat.beq pc 39 then some (.iload_n 2, 0) else none)))) else (bif Nat.ble 33 pc then (bif Nat.ble 37 pc then (bif Nat.ble 38 pc then (bif Nat.beq pc 38 then some (.iload_n 1, 0) else none) else (bif Nat.beq pc 37 then some (.aload_n 0, 0) else none)) else (bif Nat.ble 34 pc then (bif Nat.beq pc 34 then some (.ifCond .lt 12, 46) else none) else (bif Nat.beq pc 33 then some (.iload_n 2, 0) else none))) else (bif Nat.ble 29 pc then (bif Nat.ble 32 pc then (bif Nat.beq pc 32 then some (.istore_n 2, 0) else none) else (bif Nat.beq pc 29 then some (.invokevirtual 84, 28) else none)) else (bif Nat.ble 28 pc then (bif Nat.beq pc 28 then some (.iload_n 1, 0) else none) else (bif Nat.beq pc 27 then some (.aload_n 0, 0) else none))))) else (bif Nat.ble 12 pc then (bif Nat.ble 20 pc then (bif Nat.ble 23 pc then (bif Nat.ble 26 pc then (bif Nat.beq pc 26 then some (.ireturn, 0) else none) else (bif Nat.beq pc 23 then some (.invokevirtual 81, 32) else none)) else (bif Nat.ble 21 pc then (bif Nat.beq pc 21 then some (.bipush (-4), 0) else none) else (bif Nat.beq pc 20 then some (.iconst (-1), 0) else none))) else (bif Nat.ble 18 pc then (bif Nat.ble 19 pc then (bif Nat.beq pc 19 then some (.iload_n 1, 0) else none) else (bif Nat.beq pc 18 then some (.aload_n 0, 0) else none)) else (bif Nat.ble 15 pc then (bif Nat.beq pc 15 then some (.ifCond .eq 12, 27) else none) else (bif Nat.beq pc 12 then some (.invokevirtual 78, 27) else none)))) else (bif Nat.ble 8 pc then (bif Nat.ble 10 pc then (bif Nat.ble 11 pc then (bif Nat.beq pc 11 then some (.iload_n 1, 0) else none) else (bif Nat.beq pc 10 then some (.aload_n 0, 0) else none)) else (bif Nat.ble 9 pc then (bif Nat.beq pc 9 then some (.ireturn, 0) else none) else (bif Nat.beq pc 8 then some (.iconst (-1), 0) else none))) else (bif Nat.ble 2 pc then (bif Nat.ble 5 pc then (bif Nat.beq pc 5 then some (.ifCond .ne 5, 10) else none) else (bif Nat.beq pc 2 then some (.invokevirtual 63, 4) else none)) else (bif Nat.ble 1 pc then (bif Nat.beq pc 1 then some (.iload_n 1, 0) else none) else (bif Nat.beq pc 0 then some (.aload_n 0, 0) else none))))))
def cd4 (pc : Nat) : Option (Instr × Nat) := (bif Nat.ble 15 pc then (bif Nat.ble 21 pc then (bif Nat.ble 25 pc then (bif Nat.ble 26 pc then (bif Nat.beq pc 26 then some (.ireturn, 0) else none) else (bif Nat.beq pc 25 then some (.baload, 0) else none)) else (bif Nat.ble 24 pc then (bif Nat.beq pc 24 then some (.iload_n 1, 0) else none) else (bif Nat.beq pc 21 then some (.getfield 16, 2) else none))) else (bif Nat.ble 19 pc then (bif Nat.ble 20 pc then (bif Nat.beq pc 20 then some (.aload_n 0, 0) else none) else (bif Nat.beq pc 19 then some (.ireturn, 0) else none)) else (bif Nat.ble 18 pc then (bif Nat.beq pc 18 then some (.iconst 0, 0) else none) else (bif Nat.beq pc 15 then some (.if_icmp .lt 5, 20) else none)))) else (bif Nat.ble 6 pc then (bif Nat.ble 12 pc then (bif Nat.ble 13 pc then (bif Nat.beq pc 13 then some (.bipush 8, 0) else none) else (bif Nat.beq pc 12 then some (.iload_n 1, 0) else none)) else (bif Nat.ble 9 pc then (bif Nat.beq pc 9 then some (.if_icmp .ge 9, 18) else none) else (bif Nat.beq pc 6 then some (.getfield 40, 8) else none))) else (bif Nat.ble 4 pc then (bif Nat.ble 5 pc then (bif Nat.beq pc 5 then some (.aload_n 0, 0) else none) else (bif Nat.beq pc 4 then some (.iload_n 1, 0) else none)) else (bif Nat.ble 1 pc then (bif Nat.beq pc 1 then some (.ifCond .lt 17, 18) else none) else (bif Nat.beq pc 0 then some (.iload_n 1, 0) else none)))))
def cd5 (pc : Nat) : Option (Instr × Nat) := (bif Nat.ble 21 pc then (bif Nat.ble 35 pc then (bif Nat.ble 40 pc then (bif Nat.ble 44 pc then (bif Nat.ble 45 pc then (bif Nat.ble 46 pc then (bif Nat.beq pc 46 then some (.ireturn, 0) else none) else (bif Nat.beq pc 45 then some (.isub, 0) else none)) else (bif Nat.beq pc 44 then some (.iand, 0) else none)) else (bif Nat.ble 41 pc then (bif Nat.beq pc 41 then some (.sipush 1023, 0) else none) else (bif Nat.beq pc 40 then some (.iushr, 0) else none))) else (bif Nat.ble 37 pc then (bif Nat.ble 38 pc then (bif Nat.beq pc 38 then some (.bipush 6, 0) else none) else (bif Nat.beq pc 37 then some (.iload_n 1, 0) else none)) else (bif Nat.ble 36 pc then (bif Nat.beq pc 36 then some (.iconst (-1), 0) else none) else (bif Nat.beq pc 35 then some (.ireturn, 0) else none)))) else (bif Nat.ble 27 pc then (bif Nat.ble 30 pc then (bif Nat.ble 33 pc then (bif Nat.ble 34 pc then (bif Nat.beq pc 34 then some (.iadd, 0) else none) else (bif Nat.beq pc 33 then some (.iand, 0) else none)) else (bif Nat.beq pc 30 then some (.sipush 1023, 0) else none)) else (bif Nat.ble 29 pc then (bif Nat.beq pc 29 then some (.iushr, 0) else none) else (bif Nat.beq pc 27 then some (.bipush 6, 0) else none))) else (bif Nat.ble 25 pc then (bif Nat.ble 26 pc then (bif Nat.beq pc 26 then some (.iload_n 1, 0) else none) else (bif Nat.beq pc 25 then some (.iconst 4, 0) else none)) else (bif Nat.ble 22 pc then (bif Nat.beq pc 22 then some (.if_icmp .ne 14, 36) else none) else (bif Nat.beq pc 21 then some (.iconst 1, 0) else none))))) else (bif Nat.ble 8 pc then (bif Nat.ble 16 pc then (bif Nat.ble 18 pc then (bif Nat.ble 19 pc then (bif Nat.ble 20 pc then (bif Nat.beq pc 20 then some (.iand, 0) else none) else (bif Nat.beq pc 19 then some (.iconst 1, 0) else none)) else (bif Nat.beq pc 18 then some (.iushr, 0) else none)) else (bif Nat.ble 17 pc then (bif Nat.beq pc 17 then some (.iconst 5, 0) else none) else (bif Nat.beq pc 16 then some (.iload_n 1, 0) else none))) else (bif Nat.ble 14 pc then (bif Nat.ble 15 pc then (bif Nat.beq pc 15 then some (.ireturn, 0) else none) else (bif Nat.beq pc 14 then some (.iload_n 2, 0) else none)) else (bif Nat.ble 11 pc then (bif Nat.beq pc 11 then some (.ifCond .ne 5, 16) else none) else (bif Nat.beq pc 8 then some (.invokevirtual 28, 6) else none)))) else (bif Nat.ble 4 pc then (bif Nat.ble 6 pc then (bif Nat.ble 7 pc then (bif Nat.beq pc 7 then some (.iload_n 2, 0) else none) else (bif Nat.beq pc 6 then some (.aload_n 0, 0) else none)) else (bif Nat.ble 5 pc then (bif Nat.beq pc 5 then some (.istore_n 2, 0) else none) else (bif Nat.beq pc 4 then some (.iand, 0) else none))) else (bif Nat.ble 2 pc then (bif Nat.ble 3 pc then (bif Nat.beq pc 3 then some (.iconst 3, 0) else none) else (bif Nat.beq pc 2 then some (.iushr, 0) else none)) else (bif Nat.ble 1 pc then (bif Nat.beq pc 1 then some (.iconst 3, 0) else none) else (bif Nat.beq pc 0 then some (.iload_n 1, 0) else none))))))
def cd6 (pc : Nat) : Option (Instr × Nat) := (bif Nat.ble 2 pc then (bif Nat.ble 5 pc then (bif Nat.beq pc 5 then some (.ireturn, 0) else none) else (bif Nat.beq pc 2 then some (.invokevirtual 63, 4) else none)) else (bif Nat.ble 1 pc then (bif Nat.beq pc 1 then some (.iload_n 1, 0) else none) else (bif Nat.beq pc 0 then some (.aload_n 0, 0) else none)))
def cd7 (pc : Nat) : Option (Instr × Nat) := (bif Nat.ble 16 pc then (bif Nat.ble 24 pc then (bif Nat.ble 30 pc then (bif Nat.ble 31 pc then (bif Nat.ble 32 pc then (bif Nat.beq pc 32 then some (.ireturn, 0) else none) else (bif Nat.beq pc 31 then some (.isub, 0) else none)) else (bif Nat.beq pc 30 then some (.iand, 0) else none)) else (bif Nat.ble 26 pc then (bif Nat.ble 27 pc then (bif Nat.beq pc 27 then some (.sipush 1023, 0) else none) else (bif Nat.beq pc 26 then some (.iushr, 0) else none)) else (bif Nat.beq pc 24 then some (.bipush 21, 0) else none))) else (bif Nat.ble 21 pc then (bif Nat.ble 22 pc then (bif Nat.ble 23 pc then (bif Nat.beq pc 23 then some (.iload_n 0, 0) else none) else (bif Nat.beq pc 22 then some (.iconst (-1), 0) else none)) else (bif Nat.beq pc 21 then some (.ireturn, 0) else none)) else (bif Nat.ble 19 pc then (bif Nat.ble 20 pc then (bif Nat.beq pc 20 then some (.iadd, 0) else none) else (bif Nat.beq pc 19 then some (.iand, 0) else none)) else (bif Nat.beq pc 16 then some (.sipush 1023, 0) else none)))) else (bif Nat.ble 6 pc then (bif Nat.ble 12 pc then (bif Nat.ble 13 pc then (bif Nat.ble 15 pc then (bif Nat.beq pc 15 then some (.iushr, 0) else none) else (bif Nat.beq pc 13 then some (.bipush 21, 0) else none)) else (bif Nat.beq pc 12 then some (.iload_n 0, 0) else none)) else (bif Nat.ble 7 pc then (bif Nat.ble 10 pc then (bif Nat.beq pc 10 then some (.bipush 8, 0) else none) else (bif Nat.beq pc 7 then some (.if_icmp .ne 15, 22) else none)) else (bif Nat.beq pc 6 then some (.iconst 1, 0) else none))) else (bif Nat.ble 3 pc then (bif Nat.ble 4 pc then (bif Nat.ble 5 pc then (bif Nat.beq pc 5 then some (.iand, 0) else none) else (bif Nat.beq pc 4 then some (.iconst 1, 0) else none)) else (bif Nat.beq pc 3 then some (.iushr, 0) else none)) else (bif Nat.ble 1 pc then (bif Nat.beq pc 1 then some (.bipush 20, 0) else none) else (bif Nat.beq pc 0 then some (.iload_n 0, 0) else none)))))
def cd8 (pc : Nat) : Option (Instr × Nat) := (bif Nat.ble 84 pc then (bif Nat.ble 128 pc then (bif Nat.ble 151 pc then (bif Nat.ble 161 pc then (bif Nat.ble 168 pc then (bif Nat.ble 174 pc then (bif Nat.ble 175 pc then (bif Nat.beq pc 175 then some (.lreturn, 0) else none) else (bif Nat.beq pc 174 then some (.lload_n 1, 0) else none)) else (bif Nat.ble 171 pc then (bif Nat.beq pc 171 then some (.goto (-99), 72) else none) else (bif Nat.beq pc 168 then some (.iinc 3 1, 0) else none))) else (bif Nat.ble 162 pc then (bif Nat.ble 165 pc then (bif Nat.beq pc 165 then some (.goto (-25), 140) else none) else (bif Nat.beq pc 162 then some (.iinc 4 1, 0) else none)) else (bif Nat.beq pc 161 then some (.lstore_n 1, 0) else none))) else (bif Nat.ble 154 pc then (bif Nat.ble 159 pc then (bif Nat.ble 160 pc then (bif Nat.beq pc 160 then some (.ladd, 0) else none) else (bif Nat.beq pc 159 then some (.i2l, 0) else none)) else (bif Nat.ble 156 pc then (bif Nat.beq pc 156 then some (.invokevirtual 41, 18) else none) else (bif Nat.beq pc 154 then some (.iload 4, 0) else none))) else (bif Nat.ble 152 pc then (bif Nat.ble 153 pc then (bif Nat.beq pc 153 then some (.iload_n 3, 0) else none) else (bif Nat.beq pc 152 then some (.aload_n 0, 0) else none)) else (bif Nat.beq pc 151 then some (.lmul, 0) else none)))) else (bif Nat.ble 137 pc then (bif Nat.ble 142 pc then (bif Nat.ble 147 pc then (bif Nat.ble 148 pc then (bif Nat.beq pc 148 then some (.ldc2_w 13, 0) else none) else (bif Nat.beq pc 147 then some (.lload_n 1, 0) else none)) else (bif Nat.ble 144 pc then (bif Nat.beq pc 144 then some (.if_icmp .ge 24, 168) else none) else (bif Nat.beq pc 142 then some (.bipush 8, 0) else none))) else (bif Nat.ble 138 pc then (bif Nat.ble 140 pc then (bif Nat.beq pc 140 then some (.iload 4, 0) else none) else (bif Nat.beq pc 138 then some (.istore 4, 0) else none)) else (bif Nat.beq pc 137 then some (.iconst 0, 0) else none))) else (bif Nat.ble 131 pc then (bif Nat.ble 135 pc then (bif Nat.ble 136 pc then (bif Nat.beq pc 136 then some (.lstore_n 1, 0) else none) else (bif Nat.beq pc 135 then some (.ladd, 0) else none)) else (bif Nat.ble 134 pc then (bif Nat.beq pc 134 then some (.i2l, 0) else none) else (bif Nat.beq pc 131 then some (.invokevirtual 38, 17) else none))) else (bif Nat.ble 129 pc then (bif Nat.ble 130 pc then (bif Nat.beq pc 130 then some (.iload_n 3, 0) else none) else (bif Nat.beq pc 129 then some (.aload_n 0, 0) else none)) else (bif Nat.beq pc 128 then some (.lmul, 0) else none))))) else (bif Nat.ble 108 pc then (bif Nat.ble 117 pc then (bif Nat.ble 122 pc then (bif Nat.ble 124 pc then (bif Nat.ble 125 pc then (bif Nat.beq pc 125 then some (.ldc2_w 13, 0) else none) else (bif Nat.beq pc 124 then some (.lload_n 1, 0) else none)) else (bif Nat.ble 123 pc then (bif Nat.beq pc 123 then some (.lstore_n 1, 0) else none) else (bif Nat.beq pc 122 then some (.ladd, 0) else none))) else (bif Nat.ble 118 pc then (bif Nat.ble 121 pc then (bif Nat.beq pc 121 then some (.i2l, 0) else none) else (bif Nat.beq pc 118 then some (.invokevirtual 35, 16) else none)) else (bif Nat.beq pc 117 then some (.iload_n 3, 0) else none))) else (bif Nat.ble 111 pc then (bif Nat.ble 115 pc then (bif Nat.ble 116 pc then (bif Nat.beq pc 116 then some (.aload_n 0, 0) else none) else (bif Nat.beq pc 115 then some (.lmul, 0) else none)) else (bif Nat.ble 112 pc then (bif Nat.beq pc 112 then some (.ldc2_w 13, 0) else none) else (bif Nat.beq pc 111 then some (.lload_n 1, 0) else none))) else (bif Nat.ble 109 pc then (bif Nat.ble 110 pc then (bif Nat.beq pc 110 then some (.lstore_n 1, 0) else none) else (bif Nat.beq pc 109 then some (.ladd, 0) else none)) else (bif Nat.beq pc 108 then some (.i2l, 0) else none)))) else (bif Nat.ble 97 pc then (bif Nat.ble 102 pc then (bif Nat.ble 104 pc then (bif Nat.ble 105 pc then (bif Nat.beq pc 105 then some (.invokevirtual 32, 15) else none) else (bif Nat.beq pc 104 then some (.iload_n 3, 0) else none)) else (bif Nat.ble 103 pc then (bif Nat.beq pc 103 then some (.aload_n 0, 0) else none) else (bif Nat.beq pc 102 then some (.lmul, 0) else none))) else (bif Nat.ble 98 pc then (bif Nat.ble 99 pc then (bif Nat.beq pc 99 then some (.ldc2_w 13, 0) else none) else (bif Nat.beq pc 98 then some (.lload_n 1, 0) else none)) else (bif Nat.beq pc 97 then some (.lstore_n 1, 0) else none))) else (bif Nat.ble 91 pc then (bif Nat.ble 95 pc then (bif Nat.ble 96 pc then (bif Nat.beq pc 96 then some (.ladd, 0) else none) else (bif Nat.beq pc 95 then some (.i2l, 0) else none)) else (bif Nat.ble 94 pc then (bif Nat.beq pc 94 then some (.iconst 0, 0) else none) else (bif Nat.beq pc 91 then some (.goto 4, 95) else none))) else (bif Nat.ble 87 pc then (bif Nat.ble 90 pc then (bif Nat.beq pc 90 then some (.iconst 1, 0) else none) else (bif Nat.beq pc 87 then some (.ifCond .eq 7, 94) else none)) else (bif Nat.beq pc 84 then some (.invokevirtual 28, 6) else none)))))) else (bif Nat.ble 42 pc then (bif Nat.ble 62 pc then (bif Nat.ble 73 pc then (bif Nat.ble 78 pc then (bif Nat.ble 82 pc then (bif Nat.ble 83 pc then (bif Nat.beq pc 83 then some (.iload_n 3, 0) else none) else (bif Nat.beq pc 82 then some (.aload_n 0, 0) else none)) else (bif Nat.ble 81 pc then (bif Nat.beq pc 81 then some (.lmul, 0) else none) else (bif Nat.beq pc 78 then some (.ldc2_w 13, 0) else none))) else (bif Nat.ble 74 pc then (bif Nat.ble 77 pc then (bif Nat.beq pc 77 then some (.lload_n 1, 0) else none) else (bif Nat.beq pc 74 then some (.if_icmp .ge 100, 174) else none)) else (bif Nat.beq pc 73 then some (.iconst 4, 0) else none))) else (bif Nat.ble 67 pc then (bif Nat.ble 71 pc then (bif Nat.ble 72 pc then (bif Nat.beq pc 72 then some (.iload_n 3, 0) else none) else (bif Nat.beq pc 71 then some (.istore_n 3, 0) else none)) else (bif Nat.ble 70 pc then (bif Nat.beq pc 70 then some (.iconst 0, 0) else none) else (bif Nat.beq pc 67 then some (.goto (-35), 32) else none))) else (bif Nat.ble 63 pc then (bif Nat.ble 64 pc then (bif Nat.beq pc 64 then some (.iinc 3 1, 0) else none) else (bif Nat.beq pc 63 then some (.lstore_n 1, 0) else none)) else (bif Nat.beq pc 62 then some (.ladd, 0) else none)))) else (bif Nat.ble 51 pc then (bif Nat.ble 56 pc then (bif Nat.ble 58 pc then (bif Nat.ble 61 pc then (bif Nat.beq pc 61 then some (.i2l, 0) else none) else (bif Nat.beq pc 58 then some (.invokevirtual 25, 14) else none)) else (bif Nat.ble 57 pc then (bif Nat.beq pc 57 then some (.iload_n 3, 0) else none) else (bif Nat.beq pc 56 then some (.aload_n 0, 0) else none))) else (bif Nat.ble 52 pc then (bif Nat.ble 55 pc then (bif Nat.beq pc 55 then some (.lmul, 0) else none) else (bif Nat.beq pc 52 then some (.ldc2_w 13, 0) else none)) else (bif Nat.beq pc 51 then some (.lload_n 1, 0) else none))) else (bif Nat.ble 45 pc then (bif Nat.ble 49 pc then (bif Nat.ble 50 pc then (bif Nat.beq pc 50 then some (.lstore_n 1, 0) else none) else (bif Nat.beq pc 49 then some (.ladd, 0) else none)) else (bif Nat.ble 48 pc then (bif Nat.beq pc 48 then some (.i2l, 0) else none) else (bif Nat.beq pc 45 then some (.invokevirtual 21, 12) else none))) else (bif Nat.ble 43 pc then (bif Nat.ble 44 pc then (bif Nat.beq pc 44 then some (.iload_n 3, 0) else none) else (bif Nat.beq pc 43 then some (.aload_n 0, 0) else none)) else (bif Nat.beq pc 42 then some (.lmul, 0) else none))))) else (bif Nat.ble 19 pc then (bif Nat.ble 30 pc then (bif Nat.ble 33 pc then (bif Nat.ble 38 pc then (bif Nat.ble 39 pc then (bif Nat.beq pc 39 then some (.ldc2_w 13, 0) else none) else (bif Nat.beq pc 38 then some (.lload_n 1, 0) else none)) else (bif Nat.ble 35 pc then (bif Nat.beq pc 35 then some (.if_icmp .ge 35, 70) else none) else (bif Nat.beq pc 33 then some (.bipush 8, 0) else none))) else (bif Nat.ble 31 pc then (bif Nat.ble 32 pc then (bif Nat.beq pc 32 then some (.iload_n 3, 0) else none) else (bif Nat.beq pc 31 then some (.istore_n 3, 0) else none)) else (bif Nat.beq pc 30 then some (.iconst 0, 0) else none))) else (bif Nat.ble 24 pc then (bif Nat.ble 28 pc then (bif Nat.ble 29 pc then (bif Nat.beq pc 29 then some (.lstore_n 1, 0) else none) else (bif Nat.beq pc 28 then some (.ladd, 0) else none)) else (bif Nat.ble 27 pc then (bif Nat.beq pc 27 then some (.i2l, 0) else none) else (bif Nat.beq pc 24 then some (.invokevirtual 18, 11) else none))) else (bif Nat.ble 22 pc then (bif Nat.ble 23 pc then (bif Nat.beq pc 23 then some (.aload_n 0, 0) else none) else (bif Nat.beq pc 22 then some (.lmul, 0) else none)) else (bif Nat.beq pc 19 then some (.ldc2_w 13, 0) else none)))) else (bif Nat.ble 10 pc then (bif Nat.ble 15 pc then (bif Nat.ble 17 pc then (bif Nat.ble 18 pc then (bif Nat.beq pc 18 then some (.lload_n 1, 0) else none) else (bif Nat.beq pc 17 then some (.lstore_n 1, 0) else none)) else (bif Nat.ble 16 pc then (bif Nat.beq pc 16 then some (.ladd, 0) else none) else (bif Nat.beq pc 15 then some (.i2l, 0) else none))) else (bif Nat.ble 11 pc then (bif Nat.ble 12 pc then (bif Nat.beq pc 12 then some (.invokevirtual 15, 10) else none) else (bif Nat.beq pc 11 then some (.aload_n 0, 0) else none)) else (bif Nat.beq pc 10 then some (.lmul, 0) else none))) else (bif Nat.ble 5 pc then (bif Nat.ble 6 pc then (bif Nat.ble 7 pc then (bif Nat.beq pc 7 then some (.ldc2_w 13, 0) else none) else (bif Nat.beq pc 6 then some (.lload_n 1, 0) else none)) else (bif Nat.beq pc 5 then some (.lstore_n 1, 0) else none)) else (bif Nat.ble 1 pc then (bif Nat.ble 4 pc then (bif Nat.beq pc 4 then some (.i2l, 0) else none) else (bif Nat.beq pc 1 then some (.invokevirtual 7, 9) else none)) else (bif Nat.beq pc 0 then some (.aload_n 0, 0) else none)))))))
def cd9 (pc : Nat) : Option (Instr × Nat) := (bif Nat.ble 1 pc then (bif Nat.ble 4 pc then (bif Nat.beq pc 4 then some (.ireturn, 0) else none) else (bif Nat.beq pc 1 then some (.getfield 46, 10) else none)) else (bif Nat.beq pc 0 then some (.aload_n 0, 0) else none))
def cd10 (pc : Nat) : Option (Instr × Nat) := (bif Nat.ble 1 pc then (bif Nat.ble 4 pc then (bif Nat.beq pc 4 then some (.ireturn, 0) else none) else (bif Nat.beq pc 1 then some (.getfield 49, 11) else none)) else (bif Nat.beq pc 0 then some (.aload_n 0, 0) else none))
def cd11 (pc : Nat) : Option (Instr × Nat) := (bif Nat.ble 1 pc then (bif Nat.ble 4 pc then (bif Nat.beq pc 4 then some (.ireturn, 0) else none) else (bif Nat.beq pc 1 then some (.getfield 52, 12) else none)) else (bif Nat.beq pc 0 then some (.aload_n 0, 0) else none))
def cd12 (pc : Nat) : Option (Instr × Nat) := (bif Nat.ble 9 pc then (bif Nat.ble 14 pc then (bif Nat.ble 15 pc then (bif Nat.ble 16 pc then (bif Nat.beq pc 16 then some (.ireturn, 0) else none) else (bif Nat.beq pc 15 then some (.iaload, 0) else none)) else (bif Nat.beq pc 14 then some (.iload_n 1, 0) else none)) else (bif Nat.ble 10 pc then (bif Nat.ble 11 pc then (bif Nat.beq pc 11 then some (.getfield 7, 0) else none) else (bif Nat.beq pc 10 then some (.aload_n 0, 0) else none)) else (bif Nat.beq pc 9 then some (.ireturn, 0) else none))) else (bif Nat.ble 2 pc then (bif Nat.ble 5 pc then (bif Nat.ble 8 pc then (bif Nat.beq pc 8 then some (.iconst 0, 0) else none) else (bif Nat.beq pc 5 then some (.ifCond .ne 5, 10) else none)) else (bif Nat.beq pc 2 then some (.invokevirtual 67, 13) else none)) else (bif Nat.ble 1 pc then (bif Nat.beq pc 1 then some (.iload_n 1, 0) else none) else (bif Nat.beq pc 0 then some (.aload_n 0, 0) else none))))
def cd13 (pc : Nat) : Option (Instr × Nat) := (bif Nat.ble 12 pc then (bif Nat.ble 18 pc then (bif Nat.ble 22 pc then (bif Nat.ble 23 pc then (bif Nat.beq pc 23 then some (.ireturn, 0) else none) else (bif Nat.beq pc 22 then some (.iconst 0, 0) else none)) else (bif Nat.ble 19 pc then (bif Nat.beq pc 19 then some (.goto 4, 23) else none) else (bif Nat.beq pc 18 then some (.iconst 1, 0) else none))) else (bif Nat.ble 13 pc then (bif Nat.ble 15 pc then (bif Nat.beq pc 15 then some (.if_icmp .ge 7, 22) else none) else (bif Nat.beq pc 13 then some (.bipush 32, 0) else none)) else (bif Nat.beq pc 12 then some (.iload_n 1, 0) else none))) else (bif Nat.ble 5 pc then (bif Nat.ble 6 pc then (bif Nat.ble 9 pc then (bif Nat.beq pc 9 then some (.if_icmp .ge 13, 22) else none) else (bif Nat.beq pc 6 then some (.getfield 36, 7) else none)) else (bif Nat.beq pc 5 then some (.aload_n 0, 0) else none)) else (bif Nat.ble 1 pc then (bif Nat.ble 4 pc then (bif Nat.beq pc 4 then some (.iload_n 1, 0) else none) else (bif Nat.beq pc 1 then some (.ifCond .lt 21, 22) else none)) else (bif Nat.beq pc 0 then some (.iload_n 1, 0) else none))))
def cd14 (pc : Nat) : Option (Instr × Nat) := (bif Nat.ble 9 pc then (bif Nat.ble 14 pc then (bif Nat.ble 15 pc then (bif Nat.ble 16 pc then (bif Nat.beq pc 16 then some (.ireturn, 0) else none) else (bif Nat.beq pc 15 then some (.iaload, 0) else none)) else (bif Nat.beq pc 14 then some (.iload_n 1, 0) else none)) else (bif Nat.ble 10 pc then (bif Nat.ble 11 pc then (bif Nat.beq pc 11 then some (.getfield 13, 1) else none) else (bif Nat.beq pc 10 then some (.aload_n 0, 0) else none)) else (bif Nat.beq pc 9 then some (.ireturn, 0) else none))) else (bif Nat.ble 2 pc then (bif Nat.ble 5 pc then (bif Nat.ble 8 pc then (bif Nat.beq pc 8 then some (.iconst 0, 0) else none) else (bif Nat.beq pc 5 then some (.ifCond .ne 5, 10) else none)) else (bif Nat.beq pc 2 then some (.invokevirtual 67, 13) else none)) else (bif Nat.ble 1 pc then (bif Nat.beq pc 1 then some (.iload_n 1, 0) else none) else (bif Nat.beq pc 0 then some (.aload_n 0, 0) else none))))
def cd15 (pc : Nat) : Option (Instr × Nat) := (bif Nat.ble 9 pc then (bif Nat.ble 14 pc then (bif Nat.ble 15 pc then (bif Nat.ble 16 pc then (bif Nat.beq pc 16 then some (.ireturn, 0) else none) else (bif Nat.beq pc 15 then some (.iaload, 0) else none)) else (bif Nat.beq pc 14 then some (.iload_n 1, 0) else none)) else (bif Nat.ble 10 pc then (bif Nat.ble 11 pc then (bif Nat.beq pc 11 then some (.getfield 20, 3) else none) else (bif Nat.beq pc 10 then some (.aload_n 0, 0) else none)) else (bif Nat.beq pc 9 then some (.ireturn, 0) else none))) else (bif Nat.ble 2 pc then (bif Nat.ble 5 pc then (bif Nat.ble 8 pc then (bif Nat.beq pc 8 then some (.iconst (-1), 0) else none) else (bif Nat.beq pc 5 then some (.ifCond .ne 5, 10) else none)) else (bif Nat.beq pc 2 then some (.invokevirtual 63, 4) else none)) else (bif Nat.ble 1 pc then (bif Nat.beq pc 1 then some (.iload_n 1, 0) else none) else (bif Nat.beq pc 0 then some (.aload_n 0, 0) else none))))
def cd16 (pc : Nat) : Option (Instr × Nat) := (bif Nat.ble 9 pc then (bif Nat.ble 14 pc then (bif Nat.ble 15 pc then (bif Nat.ble 16 pc then (bif Nat.beq pc 16 then some (.ireturn, 0) else none) else (bif Nat.beq pc 15 then some (.iaload, 0) else none)) else (bif Nat.beq pc 14 then some (.iload_n 1, 0) else none)) else (bif Nat.ble 10 pc then (bif Nat.ble 11 pc then (bif Nat.beq pc 11 then some (.getfield 23, 4) else none) else (bif Nat.beq pc 10 then some (.aload_n 0, 0) else none)) else (bif Nat.beq pc 9 then some (.ireturn, 0) else none))) else (bif Nat.ble 2 pc then (bif Nat.ble 5 pc then (bif Nat.ble 8 pc then (bif Nat.beq pc 8 then some (.iconst 0, 0) else none) else (bif Nat.beq pc 5 then some (.ifCond .ne 5, 10) else none)) else (bif Nat.beq pc 2 then some (.invokevirtual 63, 4) else none)) else (bif Nat.ble 1 pc then (bif Nat.beq pc 1 then some (.iload_n 1, 0) else none) else (bif Nat.beq pc 0 then some (.aload_n 0, 0) else none))))
def cd17 (pc : Nat) : Option (Instr × Nat) := (bif Nat.ble 9 pc then (bif Nat.ble 14 pc then (bif Nat.ble 15 pc then (bif Nat.ble 16 pc then (bif Nat.beq pc 16 then some (.ireturn, 0) else none) else (bif Nat.beq pc 15 then some (.iaload, 0) else none)) else (bif Nat.beq pc 14 then some (.iload_n 1, 0) else none)) else (bif Nat.ble 10 pc then (bif Nat.ble 11 pc then (bif Nat.beq pc 11 then some (.getfield 26, 5) else none) else (bif Nat.beq pc 10 then some (.aload_n 0, 0) else none)) else (bif Nat.beq pc 9 then some (.ireturn, 0) else none))) else (bif Nat.ble 2 pc then (bif Nat.ble 5 pc then (bif Nat.ble 8 pc then (bif Nat.beq pc 8 then some (.iconst 0, 0) else none) else (bif Nat.beq pc 5 then some (.ifCond .ne 5, 10) else none)) else (bif Nat.beq pc 2 then some (.invokevirtual 63, 4) else none)) else (bif Nat.ble 1 pc then (bif Nat.beq pc 1 then some (.iload_n 1, 0) else none) else (bif Nat.beq pc 0 then some (.aload_n 0, 0) else none))))
def cd18 (pc : Nat) : Option (Instr × Nat) := (bif Nat.ble 25 pc then (bif Nat.ble 37 pc then (bif Nat.ble 43 pc then (bif Nat.ble 47 pc then (bif Nat.ble 48 pc then (bif Nat.beq pc 48 then some (.ireturn, 0) else none) else (bif Nat.beq pc 47 then some (.iaload, 0) else none)) else (bif Nat.ble 44 pc then (bif Nat.beq pc 44 then some (.invokevirtual 74, 26) else none) else (bif Nat.beq pc 43 then some (.iload_n 2, 0) else none))) else (bif Nat.ble 41 pc then (bif Nat.ble 42 pc then (bif Nat.beq pc 42 then some (.iload_n 1, 0) else none) else (bif Nat.beq pc 41 then some (.aload_n 0, 0) else none)) else (bif Nat.ble 38 pc then (bif Nat.beq pc 38 then some (.getfield 29, 6) else none) else (bif Nat.beq pc 37 then some (.aload_n 0, 0) else none)))) else (bif Nat.ble 31 pc then (bif Nat.ble 35 pc then (bif Nat.ble 36 pc then (bif Nat.beq pc 36 then some (.ireturn, 0) else none) else (bif Nat.beq pc 35 then some (.iconst 0, 0) else none)) else (bif Nat.ble 32 pc then (bif Nat.beq pc 32 then some (.ifCond .ne 5, 37) else none) else (bif Nat.beq pc 31 then some (.iand, 0) else none))) else (bif Nat.ble 27 pc then (bif Nat.ble 28 pc then (bif Nat.beq pc 28 then some (.invokevirtual 70, 23) else none) else (bif Nat.beq pc 27 then some (.iload_n 2, 0) else none)) else (bif Nat.ble 26 pc then (bif Nat.beq pc 26 then some (.aload_n 0, 0) else none) else (bif Nat.beq pc 25 then some (.iaload, 0) else none))))) else (bif Nat.ble 11 pc then (bif Nat.ble 19 pc then (bif Nat.ble 21 pc then (bif Nat.ble 24 pc then (bif Nat.beq pc 24 then some (.iload_n 1, 0) else none) else (bif Nat.beq pc 21 then some (.getfield 26, 5) else none)) else (bif Nat.ble 20 pc then (bif Nat.beq pc 20 then some (.aload_n 0, 0) else none) else (bif Nat.beq pc 19 then some (.ireturn, 0) else none))) else (bif Nat.ble 15 pc then (bif Nat.ble 18 pc then (bif Nat.beq pc 18 then some (.iconst 0, 0) else none) else (bif Nat.beq pc 15 then some (.ifCond .ne 5, 20) else none)) else (bif Nat.ble 12 pc then (bif Nat.beq pc 12 then some (.invokevirtual 67, 13) else none) else (bif Nat.beq pc 11 then some (.iload_n 2, 0) else none)))) else (bif Nat.ble 5 pc then (bif Nat.ble 9 pc then (bif Nat.ble 10 pc then (bif Nat.beq pc 10 then some (.aload_n 0, 0) else none) else (bif Nat.beq pc 9 then some (.ireturn, 0) else none)) else (bif Nat.ble 8 pc then (bif Nat.beq pc 8 then some (.iconst 0, 0) else none) else (bif Nat.beq pc 5 then some (.ifCond .ne 5, 10) else none))) else (bif Nat.ble 1 pc then (bif Nat.ble 2 pc then (bif Nat.beq pc 2 then some (.invokevirtual 63, 4) else none) else (bif Nat.beq pc 1 then some (.iload_n 1, 0) else none)) else (bif Nat.beq pc 0 then some (.aload_n 0, 0) else none)))))
def cd19 (pc : Nat) : Option (Instr × Nat) := (bif Nat.ble 11 pc then (bif Nat.ble 14 pc then (bif Nat.ble 17 pc then (bif Nat.ble 18 pc then (bif Nat.beq pc 18 then some (.ireturn, 0) else none) else (bif Nat.beq pc 17 then some (.iload_n 1, 0) else none)) else (bif Nat.beq pc 14 then some (.invokevirtual 59, 21) else none)) else (bif Nat.ble 12 pc then (bif Nat.ble 13 pc then (bif Nat.beq pc 13 then some (.iload_n 1, 0) else none) else (bif Nat.beq pc 12 then some (.aload_n 0, 0) else none)) else (bif Nat.beq pc 11 then some (.ireturn, 0) else none))) else (bif Nat.ble 5 pc then (bif Nat.ble 6 pc then (bif Nat.ble 9 pc then (bif Nat.beq pc 9 then some (.bipush (-5), 0) else none) else (bif Nat.beq pc 6 then some (.ifCond .ge 6, 12) else none)) else (bif Nat.beq pc 5 then some (.iload_n 1, 0) else none)) else (bif Nat.ble 1 pc then (bif Nat.ble 4 pc then (bif Nat.beq pc 4 then some (.istore_n 1, 0) else none) else (bif Nat.beq pc 1 then some (.invokevirtual 55, 20) else none)) else (bif Nat.beq pc 0 then some (.aload_n 0, 0) else none))))
def cd20 (pc : Nat) : Option (Instr × Nat) := (bif Nat.ble 17 pc then (bif Nat.ble 26 pc then (bif Nat.ble 30 pc then (bif Nat.ble 33 pc then (bif Nat.ble 34 pc then (bif Nat.beq pc 34 then some (.ireturn, 0) else none) else (bif Nat.beq pc 33 then some (.iconst (-1), 0) else none)) else (bif Nat.beq pc 30 then some (.goto (-28), 2) else none)) else (bif Nat.ble 27 pc then (bif Nat.beq pc 27 then some (.iinc 1 1, 0) else none) else (bif Nat.beq pc 26 then some (.ireturn, 0) else none))) else (bif Nat.ble 21 pc then (bif Nat.ble 22 pc then (bif Nat.ble 25 pc then (bif Nat.beq pc 25 then some (.iload_n 1, 0) else none) else (bif Nat.beq pc 22 then some (.ifCond .ne 5, 27) else none)) else (bif Nat.beq pc 21 then some (.baload, 0) else none)) else (bif Nat.ble 20 pc then (bif Nat.beq pc 20 then some (.iload_n 1, 0) else none) else (bif Nat.beq pc 17 then some (.getfield 16, 2) else none)))) else (bif Nat.ble 7 pc then (bif Nat.ble 11 pc then (bif Nat.ble 13 pc then (bif Nat.ble 16 pc then (bif Nat.beq pc 16 then some (.aload_n 0, 0) else none) else (bif Nat.beq pc 13 then some (.if_icmp .ge 20, 33) else none)) else (bif Nat.beq pc 11 then some (.bipush 8, 0) else none)) else (bif Nat.ble 10 pc then (bif Nat.beq pc 10 then some (.iload_n 1, 0) else none) else (bif Nat.beq pc 7 then some (.if_icmp .ge 26, 33) else none))) else (bif Nat.ble 2 pc then (bif Nat.ble 3 pc then (bif Nat.ble 4 pc then (bif Nat.beq pc 4 then some (.getfield 40, 8) else none) else (bif Nat.beq pc 3 then some (.aload_n 0, 0) else none)) else (bif Nat.beq pc 2 then some (.iload_n 1, 0) else none)) else (bif Nat.ble 1 pc then (bif Nat.beq pc 1 then some (.istore_n 1, 0) else none) else (bif Nat.beq pc 0 then some (.iconst 0, 0) else none)))))
def cd21 (pc : Nat) : Option (Instr × Nat) := (bif Nat.ble 11 pc then (bif Nat.ble 17 pc then (bif Nat.ble 21 pc then (bif Nat.ble 22 pc then (bif Nat.beq pc 22 then some (.return_, 0) else none) else (bif Nat.beq pc 21 then some (.iastore, 0) else none)) else (bif Nat.ble 18 pc then (bif Nat.beq pc 18 then some (.getfield 46, 10) else none) else (bif Nat.beq pc 17 then some (.aload_n 0, 0) else none))) else (bif Nat.ble 13 pc then (bif Nat.ble 16 pc then (bif Nat.beq pc 16 then some (.iload_n 1, 0) else none) else (bif Nat.beq pc 13 then some (.getfield 20, 3) else none)) else (bif Nat.ble 12 pc then (bif Nat.beq pc 12 then some (.aload_n 0, 0) else none) else (bif Nat.beq pc 11 then some (.bastore, 0) else none)))) else (bif Nat.ble 5 pc then (bif Nat.ble 9 pc then (bif Nat.ble 10 pc then (bif Nat.beq pc 10 then some (.iconst 1, 0) else none) else (bif Nat.beq pc 9 then some (.iload_n 1, 0) else none)) else (bif Nat.ble 6 pc then (bif Nat.beq pc 6 then some (.getfield 16, 2) else none) else (bif Nat.beq pc 5 then some (.aload_n 0, 0) else none))) else (bif Nat.ble 1 pc then (bif Nat.ble 2 pc then (bif Nat.beq pc 2 then some (.invokevirtual 93, 22) else none) else (bif Nat.beq pc 1 then some (.iload_n 1, 0) else none)) else (bif Nat.beq pc 0 then some (.aload_n 0, 0) else none))))
def cd22 (pc : Nat) : Option (Instr × Nat) := (bif Nat.ble 27 pc then (bif Nat.ble 41 pc then (bif Nat.ble 48 pc then (bif Nat.ble 50 pc then (bif Nat.ble 53 pc then (bif Nat.ble 56 pc then (bif Nat.beq pc 56 then some (.return_, 0) else none) else (bif Nat.beq pc 53 then some (.goto (-18), 35) else none)) else (bif Nat.beq pc 50 then some (.iinc 3 1, 0) else none)) else (bif Nat.ble 49 pc then (bif Nat.beq pc 49 then some (.iastore, 0) else none) else (bif Nat.beq pc 48 then some (.iconst 0, 0) else none))) else (bif Nat.ble 45 pc then (bif Nat.ble 46 pc then (bif Nat.ble 47 pc then (bif Nat.beq pc 47 then some (.iadd, 0) else none) else (bif Nat.beq pc 46 then some (.iload_n 3, 0) else none)) else (bif Nat.beq pc 45 then some (.iload_n 2, 0) else none)) else (bif Nat.ble 42 pc then (bif Nat.beq pc 42 then some (.getfield 29, 6) else none) else (bif Nat.beq pc 41 then some (.aload_n 0, 0) else none)))) else (bif Nat.ble 33 pc then (bif Nat.ble 35 pc then (bif Nat.ble 36 pc then (bif Nat.ble 38 pc then (bif Nat.beq pc 38 then some (.if_icmp .ge 18, 56) else none) else (bif Nat.beq pc 36 then some (.bipush 32, 0) else none)) else (bif Nat.beq pc 35 then some (.iload_n 3, 0) else none)) else (bif Nat.ble 34 pc then (bif Nat.beq pc 34 then some (.istore_n 3, 0) else none) else (bif Nat.beq pc 33 then some (.iconst 0, 0) else none))) else (bif Nat.ble 29 pc then (bif Nat.ble 31 pc then (bif Nat.ble 32 pc then (bif Nat.beq pc 32 then some (.istore_n 2, 0) else none) else (bif Nat.beq pc 31 then some (.imul, 0) else none)) else (bif Nat.beq pc 29 then some (.bipush 32, 0) else none)) else (bif Nat.ble 28 pc then (bif Nat.beq pc 28 then some (.iload_n 1, 0) else none) else (bif Nat.beq pc 27 then some (.iastore, 0) else none))))) else (bif Nat.ble 13 pc then (bif Nat.ble 20 pc then (bif Nat.ble 22 pc then (bif Nat.ble 25 pc then (bif Nat.ble 26 pc then (bif Nat.beq pc 26 then some (.iconst 0, 0) else none) else (bif Nat.beq pc 25 then some (.iload_n 1, 0) else none)) else (bif Nat.beq pc 22 then some (.getfield 26, 5) else none)) else (bif Nat.ble 21 pc then (bif Nat.beq pc 21 then some (.aload_n 0, 0) else none) else (bif Nat.beq pc 20 then some (.iastore, 0) else none))) else (bif Nat.ble 15 pc then (bif Nat.ble 18 pc then (bif Nat.ble 19 pc then (bif Nat.beq pc 19 then some (.iconst 0, 0) else none) else (bif Nat.beq pc 18 then some (.iload_n 1, 0) else none)) else (bif Nat.beq pc 15 then some (.getfield 23, 4) else none)) else (bif Nat.ble 14 pc then (bif Nat.beq pc 14 then some (.aload_n 0, 0) else none) else (bif Nat.beq pc 13 then some (.iastore, 0) else none)))) else (bif Nat.ble 6 pc then (bif Nat.ble 8 pc then (bif Nat.ble 11 pc then (bif Nat.ble 12 pc then (bif Nat.beq pc 12 then some (.iconst 0, 0) else none) else (bif Nat.beq pc 11 then some (.iload_n 1, 0) else none)) else (bif Nat.beq pc 8 then some (.getfield 20, 3) else none)) else (bif Nat.ble 7 pc then (bif Nat.beq pc 7 then some (.aload_n 0, 0) else none) else (bif Nat.beq pc 6 then some (.bastore, 0) else none))) else (bif Nat.ble 4 pc then (bif Nat.ble 5 pc then (bif Nat.beq pc 5 then some (.iconst 0, 0) else none) else (bif Nat.beq pc 4 then some (.iload_n 1, 0) else none)) else (bif Nat.ble 1 pc then (bif Nat.beq pc 1 then some (.getfield 16, 2) else none) else (bif Nat.beq pc 0 then some (.aload_n 0, 0) else none))))))
def cd23 (pc : Nat) : Option (Instr × Nat) := (bif Nat.ble 2 pc then (bif Nat.ble 3 pc then (bif Nat.beq pc 3 then some (.ireturn, 0) else none) else (bif Nat.beq pc 2 then some (.ishl, 0) else none)) else (bif Nat.ble 1 pc then (bif Nat.beq pc 1 then some (.iload_n 1, 0) else none) else (bif Nat.beq pc 0 then some (.iconst 1, 0) else none)))
def cd24 (pc : Nat) : Option (Instr × Nat) := (bif Nat.ble 30 pc then (bif Nat.ble 40 pc then (bif Nat.ble 46 pc then (bif Nat.ble 50 pc then (bif Nat.ble 51 pc then (bif Nat.ble 52 pc then (bif Nat.beq pc 52 then some (.ireturn, 0) else none) else (bif Nat.beq pc 51 then some (.iconst 0, 0) else none)) else (bif Nat.beq pc 50 then some (.iastore, 0) else none)) else (bif Nat.ble 49 pc then (bif Nat.beq pc 49 then some (.iload_n 3, 0) else none) else (bif Nat.beq pc 46 then some (.invokevirtual 74, 26) else none))) else (bif Nat.ble 44 pc then (bif Nat.ble 45 pc then (bif Nat.beq pc 45 then some (.iload_n 2, 0) else none) else (bif Nat.beq pc 44 then some (.iload_n 1, 0) else none)) else (bif Nat.ble 43 pc then (bif Nat.beq pc 43 then some (.aload_n 0, 0) else none) else (bif Nat.beq pc 40 then some (.getfield 29, 6) else none)))) else (bif Nat.ble 34 pc then (bif Nat.ble 38 pc then (bif Nat.ble 39 pc then (bif Nat.beq pc 39 then some (.aload_n 0, 0) else none) else (bif Nat.beq pc 38 then some (.iastore, 0) else none)) else (bif Nat.ble 37 pc then (bif Nat.beq pc 37 then some (.ior, 0) else none) else (bif Nat.beq pc 34 then some (.invokevirtual 70, 23) else none))) else (bif Nat.ble 32 pc then (bif Nat.ble 33 pc then (bif Nat.beq pc 33 then some (.iload_n 2, 0) else none) else (bif Nat.beq pc 32 then some (.aload_n 0, 0) else none)) else (bif Nat.ble 31 pc then (bif Nat.beq pc 31 then some (.iaload, 0) else none) else (bif Nat.beq pc 30 then some (.iload_n 1, 0) else none))))) else (bif Nat.ble 12 pc then (bif Nat.ble 21 pc then (bif Nat.ble 25 pc then (bif Nat.ble 26 pc then (bif Nat.ble 27 pc then (bif Nat.beq pc 27 then some (.getfield 26, 5) else none) else (bif Nat.beq pc 26 then some (.aload_n 0, 0) else none)) else (bif Nat.beq pc 25 then some (.iload_n 1, 0) else none)) else (bif Nat.ble 22 pc then (bif Nat.beq pc 22 then some (.getfield 26, 5) else none) else (bif Nat.beq pc 21 then some (.aload_n 0, 0) else none))) else (bif Nat.ble 18 pc then (bif Nat.ble 20 pc then (bif Nat.beq pc 20 then some (.ireturn, 0) else none) else (bif Nat.beq pc 18 then some (.bipush (-2), 0) else none)) else (bif Nat.ble 15 pc then (bif Nat.beq pc 15 then some (.ifCond .ne 6, 21) else none) else (bif Nat.beq pc 12 then some (.invokevirtual 67, 13) else none)))) else (bif Nat.ble 8 pc then (bif Nat.ble 10 pc then (bif Nat.ble 11 pc then (bif Nat.beq pc 11 then some (.iload_n 2, 0) else none) else (bif Nat.beq pc 10 then some (.aload_n 0, 0) else none)) else (bif Nat.ble 9 pc then (bif Nat.beq pc 9 then some (.ireturn, 0) else none) else (bif Nat.beq pc 8 then some (.iconst (-1), 0) else none))) else (bif Nat.ble 2 pc then (bif Nat.ble 5 pc then (bif Nat.beq pc 5 then some (.ifCond .ne 5, 10) else none) else (bif Nat.beq pc 2 then some (.invokevirtual 63, 4) else none)) else (bif Nat.ble 1 pc then (bif Nat.beq pc 1 then some (.iload_n 1, 0) else none) else (bif Nat.beq pc 0 then some (.aload_n 0, 0) else none))))))
def cd25 (pc : Nat) : Option (Instr × Nat) := (bif Nat.ble 37 pc then (bif Nat.ble 54 pc then (bif Nat.ble 62 pc then (bif Nat.ble 67 pc then (bif Nat.ble 68 pc then (bif Nat.ble 69 pc then (bif Nat.beq pc 69 then some (.ireturn, 0) else none) else (bif Nat.beq pc 68 then some (.iaload, 0) else none)) else (bif Nat.beq pc 67 then some (.iload_n 2, 0) else none)) else (bif Nat.ble 63 pc then (bif Nat.ble 64 pc then (bif Nat.beq pc 64 then some (.getfield 7, 0) else none) else (bif Nat.beq pc 63 then some (.aload_n 0, 0) else none)) else (bif Nat.beq pc 62 then some (.iastore, 0) else none))) else (bif Nat.ble 59 pc then (bif Nat.ble 60 pc then (bif Nat.ble 61 pc then (bif Nat.beq pc 61 then some (.ior, 0) else none) else (bif Nat.beq pc 60 then some (.iload_n 3, 0) else none)) else (bif Nat.beq pc 59 then some (.iaload, 0) else none)) else (bif Nat.ble 55 pc then (bif Nat.ble 58 pc then (bif Nat.beq pc 58 then some (.iload_n 1, 0) else none) else (bif Nat.beq pc 55 then some (.getfield 23, 4) else none)) else (bif Nat.beq pc 54 then some (.aload_n 0, 0) else none)))) else (bif Nat.ble 44 pc then (bif Nat.ble 49 pc then (bif Nat.ble 50 pc then (bif Nat.ble 53 pc then (bif Nat.beq pc 53 then some (.iload_n 1, 0) else none) else (bif Nat.beq pc 50 then some (.getfield 23, 4) else none)) else (bif Nat.beq pc 49 then some (.aload_n 0, 0) else none)) else (bif Nat.ble 47 pc then (bif Nat.ble 48 pc then (bif Nat.beq pc 48 then some (.ireturn, 0) else none) else (bif Nat.beq pc 47 then some (.iaload, 0) else none)) else (bif Nat.beq pc 44 then some (.invokevirtual 74, 26) else none))) else (bif Nat.ble 41 pc then (bif Nat.ble 42 pc then (bif Nat.ble 43 pc then (bif Nat.beq pc 43 then some (.iload_n 2, 0) else none) else (bif Nat.beq pc 42 then some (.iload_n 1, 0) else none)) else (bif Nat.beq pc 41 then some (.aload_n 0, 0) else none)) else (bif Nat.ble 38 pc then (bif Nat.beq pc 38 then some (.getfield 29, 6) else none) else (bif Nat.beq pc 37 then some (.aload_n 0, 0) else none))))) else (bif Nat.ble 19 pc then (bif Nat.ble 27 pc then (bif Nat.ble 32 pc then (bif Nat.ble 33 pc then (bif Nat.ble 34 pc then (bif Nat.beq pc 34 then some (.ifCond .eq 15, 49) else none) else (bif Nat.beq pc 33 then some (.iand, 0) else none)) else (bif Nat.beq pc 32 then some (.iload_n 3, 0) else none)) else (bif Nat.ble 30 pc then (bif Nat.ble 31 pc then (bif Nat.beq pc 31 then some (.iaload, 0) else none) else (bif Nat.beq pc 30 then some (.iload_n 1, 0) else none)) else (bif Nat.beq pc 27 then some (.getfield 26, 5) else none))) else (bif Nat.ble 22 pc then (bif Nat.ble 25 pc then (bif Nat.ble 26 pc then (bif Nat.beq pc 26 then some (.aload_n 0, 0) else none) else (bif Nat.beq pc 25 then some (.istore_n 3, 0) else none)) else (bif Nat.beq pc 22 then some (.invokevirtual 70, 23) else none)) else (bif Nat.ble 20 pc then (bif Nat.ble 21 pc then (bif Nat.beq pc 21 then some (.iload_n 2, 0) else none) else (bif Nat.beq pc 20 then some (.aload_n 0, 0) else none)) else (bif Nat.beq pc 19 then some (.ireturn, 0) else none)))) else (bif Nat.ble 9 pc then (bif Nat.ble 12 pc then (bif Nat.ble 15 pc then (bif Nat.ble 18 pc then (bif Nat.beq pc 18 then some (.iconst 0, 0) else none) else (bif Nat.beq pc 15 then some (.ifCond .ne 5, 20) else none)) else (bif Nat.beq pc 12 then some (.invokevirtual 67, 13) else none)) else (bif Nat.ble 10 pc then (bif Nat.ble 11 pc then (bif Nat.beq pc 11 then some (.iload_n 2, 0) else none) else (bif Nat.beq pc 10 then some (.aload_n 0, 0) else none)) else (bif Nat.beq pc 9 then some (.ireturn, 0) else none))) else (bif Nat.ble 2 pc then (bif Nat.ble 5 pc then (bif Nat.ble 8 pc then (bif Nat.beq pc 8 then some (.iconst 0, 0) else none) else (bif Nat.beq pc 5 then some (.ifCond .ne 5, 10) else none)) else (bif Nat.beq pc 2 then some (.invokevirtual 63, 4) else none)) else (bif Nat.ble 1 pc then (bif Nat.beq pc 1 then some (.iload_n 1, 0) else none) else (bif Nat.beq pc 0 then some (.aload_n 0, 0) else none))))))
def cd26 (pc : Nat) : Option (Instr × Nat) := (bif Nat.ble 4 pc then (bif Nat.ble 5 pc then (bif Nat.ble 6 pc then (bif Nat.beq pc 6 then some (.ireturn, 0) else none) else (bif Nat.beq pc 5 then some (.iadd, 0) else none)) else (bif Nat.beq pc 4 then some (.iload_n 2, 0) else none)) else (bif Nat.ble 1 pc then (bif Nat.ble 3 pc then (bif Nat.beq pc 3 then some (.imul, 0) else none) else (bif Nat.beq pc 1 then some (.bipush 32, 0) else none)) else (bif Nat.beq pc 0 then some (.iload_n 1, 0) else none)))
def cd27 (pc : Nat) : Option (Instr × Nat) := (bif Nat.ble 11 pc then (bif Nat.ble 18 pc then (bif Nat.ble 22 pc then (bif Nat.ble 23 pc then (bif Nat.beq pc 23 then some (.ireturn, 0) else none) else (bif Nat.beq pc 22 then some (.iconst 0, 0) else none)) else (bif Nat.ble 19 pc then (bif Nat.beq pc 19 then some (.goto 4, 23) else none) else (bif Nat.beq pc 18 then some (.iconst 1, 0) else none))) else (bif Nat.ble 12 pc then (bif Nat.ble 15 pc then (bif Nat.beq pc 15 then some (.if_icmp .le 7, 22) else none) else (bif Nat.beq pc 12 then some (.getfield 43, 9) else none)) else (bif Nat.beq pc 11 then some (.aload_n 0, 0) else none))) else (bif Nat.ble 5 pc then (bif Nat.ble 9 pc then (bif Nat.ble 10 pc then (bif Nat.beq pc 10 then some (.isub, 0) else none) else (bif Nat.beq pc 9 then some (.iaload, 0) else none)) else (bif Nat.ble 8 pc then (bif Nat.beq pc 8 then some (.iload_n 1, 0) else none) else (bif Nat.beq pc 5 then some (.getfield 20, 3) else none))) else (bif Nat.ble 1 pc then (bif Nat.ble 4 pc then (bif Nat.beq pc 4 then some (.aload_n 0, 0) else none) else (bif Nat.beq pc 1 then some (.getfield 46, 10) else none)) else (bif Nat.beq pc 0 then some (.aload_n 0, 0) else none))))
def cd28 (pc : Nat) : Option (Instr × Nat) := (bif Nat.ble 30 pc then (bif Nat.ble 48 pc then (bif Nat.ble 57 pc then (bif Nat.ble 61 pc then (bif Nat.ble 64 pc then (bif Nat.ble 65 pc then (bif Nat.beq pc 65 then some (.ireturn, 0) else none) else (bif Nat.beq pc 64 then some (.iconst (-1), 0) else none)) else (bif Nat.beq pc 61 then some (.goto (-44), 17) else none)) else (bif Nat.ble 58 pc then (bif Nat.beq pc 58 then some (.iinc 4 1, 0) else none) else (bif Nat.beq pc 57 then some (.ireturn, 0) else none))) else (bif Nat.ble 51 pc then (bif Nat.ble 52 pc then (bif Nat.ble 55 pc then (bif Nat.beq pc 55 then some (.iload 4, 0) else none) else (bif Nat.beq pc 52 then some (.if_icmp .le 6, 58) else none)) else (bif Nat.beq pc 51 then some (.iload_n 3, 0) else none)) else (bif Nat.ble 50 pc then (bif Nat.beq pc 50 then some (.iaload, 0) else none) else (bif Nat.beq pc 48 then some (.iload 4, 0) else none)))) else (bif Nat.ble 37 pc then (bif Nat.ble 41 pc then (bif Nat.ble 44 pc then (bif Nat.ble 45 pc then (bif Nat.beq pc 45 then some (.getfield 13, 1) else none) else (bif Nat.beq pc 44 then some (.aload_n 0, 0) else none)) else (bif Nat.beq pc 41 then some (.ifCond .eq 17, 58) else none)) else (bif Nat.ble 40 pc then (bif Nat.beq pc 40 then some (.iand, 0) else none) else (bif Nat.beq pc 37 then some (.invokevirtual 70, 23) else none))) else (bif Nat.ble 34 pc then (bif Nat.ble 35 pc then (bif Nat.beq pc 35 then some (.iload 4, 0) else none) else (bif Nat.beq pc 34 then some (.aload_n 0, 0) else none)) else (bif Nat.ble 33 pc then (bif Nat.beq pc 33 then some (.iload_n 2, 0) else none) else (bif Nat.beq pc 30 then some (.if_icmp .ge 34, 64) else none))))) else (bif Nat.ble 13 pc then (bif Nat.ble 19 pc then (bif Nat.ble 23 pc then (bif Nat.ble 26 pc then (bif Nat.ble 28 pc then (bif Nat.beq pc 28 then some (.bipush 32, 0) else none) else (bif Nat.beq pc 26 then some (.iload 4, 0) else none)) else (bif Nat.beq pc 23 then some (.if_icmp .ge 41, 64) else none)) else (bif Nat.ble 20 pc then (bif Nat.beq pc 20 then some (.getfield 36, 7) else none) else (bif Nat.beq pc 19 then some (.aload_n 0, 0) else none))) else (bif Nat.ble 15 pc then (bif Nat.ble 17 pc then (bif Nat.beq pc 17 then some (.iload 4, 0) else none) else (bif Nat.beq pc 15 then some (.istore 4, 0) else none)) else (bif Nat.ble 14 pc then (bif Nat.beq pc 14 then some (.iconst 0, 0) else none) else (bif Nat.beq pc 13 then some (.istore_n 3, 0) else none)))) else (bif Nat.ble 6 pc then (bif Nat.ble 8 pc then (bif Nat.ble 11 pc then (bif Nat.ble 12 pc then (bif Nat.beq pc 12 then some (.iaload, 0) else none) else (bif Nat.beq pc 11 then some (.iload_n 1, 0) else none)) else (bif Nat.beq pc 8 then some (.getfield 20, 3) else none)) else (bif Nat.ble 7 pc then (bif Nat.beq pc 7 then some (.aload_n 0, 0) else none) else (bif Nat.beq pc 6 then some (.istore_n 2, 0) else none))) else (bif Nat.ble 4 pc then (bif Nat.ble 5 pc then (bif Nat.beq pc 5 then some (.iaload, 0) else none) else (bif Nat.beq pc 4 then some (.iload_n 1, 0) else none)) else (bif Nat.ble 1 pc then (bif Nat.beq pc 1 then some (.getfield 23, 4) else none) else (bif Nat.beq pc 0 then some (.aload_n 0, 0) else none))))))
def cd29 (pc : Nat) : Option (Instr × Nat) := (bif Nat.ble 48 pc then (bif Nat.ble 72 pc then (bif Nat.ble 86 pc then (bif Nat.ble 91 pc then (bif Nat.ble 95 pc then (bif Nat.ble 96 pc then (bif Nat.beq pc 96 then some (.ireturn, 0) else none) else (bif Nat.beq pc 95 then some (.iload_n 2, 0) else none)) else (bif Nat.ble 92 pc then (bif Nat.beq pc 92 then some (.putfield 52, 12) else none) else (bif Nat.beq pc 91 then some (.iconst (-1), 0) else none))) else (bif Nat.ble 87 pc then (bif Nat.ble 90 pc then (bif Nat.beq pc 90 then some (.aload_n 0, 0) else none) else (bif Nat.beq pc 87 then some (.invokevirtual 90, 30) else none)) else (bif Nat.beq pc 86 then some (.iload_n 1, 0) else none))) else (bif Nat.ble 78 pc then (bif Nat.ble 82 pc then (bif Nat.ble 85 pc then (bif Nat.beq pc 85 then some (.aload_n 0, 0) else none) else (bif Nat.beq pc 82 then some (.goto (-57), 25) else none)) else (bif Nat.ble 79 pc then (bif Nat.beq pc 79 then some (.iinc 4 1, 0) else none) else (bif Nat.beq pc 78 then some (.iastore, 0) else none))) else (bif Nat.ble 75 pc then (bif Nat.ble 77 pc then (bif Nat.beq pc 77 then some (.iload_n 2, 0) else none) else (bif Nat.beq pc 75 then some (.iload 4, 0) else none)) else (bif Nat.beq pc 72 then some (.getfield 13, 1) else none)))) else (bif Nat.ble 62 pc then (bif Nat.ble 66 pc then (bif Nat.ble 70 pc then (bif Nat.ble 71 pc then (bif Nat.beq pc 71 then some (.aload_n 0, 0) else none) else (bif Nat.beq pc 70 then some (.iastore, 0) else none)) else (bif Nat.ble 69 pc then (bif Nat.beq pc 69 then some (.iaload, 0) else none) else (bif Nat.beq pc 66 then some (.invokevirtual 74, 26) else none))) else (bif Nat.ble 63 pc then (bif Nat.ble 64 pc then (bif Nat.beq pc 64 then some (.iload 4, 0) else none) else (bif Nat.beq pc 63 then some (.iload_n 1, 0) else none)) else (bif Nat.beq pc 62 then some (.aload_n 0, 0) else none))) else (bif Nat.ble 53 pc then (bif Nat.ble 58 pc then (bif Nat.ble 59 pc then (bif Nat.beq pc 59 then some (.getfield 29, 6) else none) else (bif Nat.beq pc 58 then some (.aload_n 0, 0) else none)) else (bif Nat.ble 56 pc then (bif Nat.beq pc 56 then some (.iload 4, 0) else none) else (bif Nat.beq pc 53 then some (.getfield 7, 0) else none))) else (bif Nat.ble 49 pc then (bif Nat.ble 52 pc then (bif Nat.beq pc 52 then some (.aload_n 0, 0) else none) else (bif Nat.beq pc 49 then some (.ifCond .eq 30, 79) else none)) else (bif Nat.beq pc 48 then some (.iand, 0) else none))))) else (bif Nat.ble 21 pc then (bif Nat.ble 34 pc then (bif Nat.ble 41 pc then (bif Nat.ble 43 pc then (bif Nat.ble 45 pc then (bif Nat.beq pc 45 then some (.invokevirtual 70, 23) else none) else (bif Nat.beq pc 43 then some (.iload 4, 0) else none)) else (bif Nat.ble 42 pc then (bif Nat.beq pc 42 then some (.aload_n 0, 0) else none) else (bif Nat.beq pc 41 then some (.iload_n 3, 0) else none))) else (bif Nat.ble 36 pc then (bif Nat.ble 38 pc then (bif Nat.beq pc 38 then some (.if_icmp .ge 47, 85) else none) else (bif Nat.beq pc 36 then some (.bipush 32, 0) else none)) else (bif Nat.beq pc 34 then some (.iload 4, 0) else none))) else (bif Nat.ble 25 pc then (bif Nat.ble 28 pc then (bif Nat.ble 31 pc then (bif Nat.beq pc 31 then some (.if_icmp .ge 54, 85) else none) else (bif Nat.beq pc 28 then some (.getfield 36, 7) else none)) else (bif Nat.ble 27 pc then (bif Nat.beq pc 27 then some (.aload_n 0, 0) else none) else (bif Nat.beq pc 25 then some (.iload 4, 0) else none))) else (bif Nat.ble 22 pc then (bif Nat.ble 23 pc then (bif Nat.beq pc 23 then some (.istore 4, 0) else none) else (bif Nat.beq pc 22 then some (.iconst 0, 0) else none)) else (bif Nat.beq pc 21 then some (.istore_n 3, 0) else none)))) else (bif Nat.ble 10 pc then (bif Nat.ble 15 pc then (bif Nat.ble 19 pc then (bif Nat.ble 20 pc then (bif Nat.beq pc 20 then some (.iaload, 0) else none) else (bif Nat.beq pc 19 then some (.iload_n 1, 0) else none)) else (bif Nat.ble 16 pc then (bif Nat.beq pc 16 then some (.getfield 26, 5) else none) else (bif Nat.beq pc 15 then some (.aload_n 0, 0) else none))) else (bif Nat.ble 11 pc then (bif Nat.ble 14 pc then (bif Nat.beq pc 14 then some (.istore_n 2, 0) else none) else (bif Nat.beq pc 11 then some (.getfield 46, 10) else none)) else (bif Nat.beq pc 10 then some (.aload_n 0, 0) else none))) else (bif Nat.ble 5 pc then (bif Nat.ble 6 pc then (bif Nat.ble 7 pc then (bif Nat.beq pc 7 then some (.putfield 46, 10) else none) else (bif Nat.beq pc 6 then some (.iadd, 0) else none)) else (bif Nat.beq pc 5 then some (.iconst 1, 0) else none)) else (bif Nat.ble 1 pc then (bif Nat.ble 2 pc then (bif Nat.beq pc 2 then some (.getfield 46, 10) else none) else (bif Nat.beq pc 1 then some (.aload_n 0, 0) else none)) else (bif Nat.beq pc 0 then some (.aload_n 0, 0) else none))))))
def cd30 (pc : Nat) : Option (Instr × Nat) := (bif Nat.ble 2 pc then (bif Nat.ble 5 pc then (bif Nat.beq pc 5 then some (.return_, 0) else none) else (bif Nat.beq pc 2 then some (.invokevirtual 93, 22) else none)) else (bif Nat.ble 1 pc then (bif Nat.beq pc 1 then some (.iload_n 1, 0) else none) else (bif Nat.beq pc 0 then some (.aload_n 0, 0) else none)))
def cd31 (pc : Nat) : Option (Instr × Nat) := (bif Nat.ble 12 pc then (bif Nat.ble 20 pc then (bif Nat.ble 22 pc then (bif Nat.ble 25 pc then (bif Nat.ble 26 pc then (bif Nat.beq pc 26 then some (.ireturn, 0) else none) else (bif Nat.beq pc 25 then some (.iconst 0, 0) else none)) else (bif Nat.beq pc 22 then some (.putfield 49, 11) else none)) else (bif Nat.ble 21 pc then (bif Nat.beq pc 21 then some (.iadd, 0) else none) else (bif Nat.beq pc 20 then some (.iconst 1, 0) else none))) else (bif Nat.ble 16 pc then (bif Nat.ble 17 pc then (bif Nat.beq pc 17 then some (.getfield 49, 11) else none) else (bif Nat.beq pc 16 then some (.aload_n 0, 0) else none)) else (bif Nat.ble 15 pc then (bif Nat.beq pc 15 then some (.aload_n 0, 0) else none) else (bif Nat.beq pc 12 then some (.invokevirtual 90, 30) else none)))) else (bif Nat.ble 8 pc then (bif Nat.ble 10 pc then (bif Nat.ble 11 pc then (bif Nat.beq pc 11 then some (.iload_n 1, 0) else none) else (bif Nat.beq pc 10 then some (.aload_n 0, 0) else none)) else (bif Nat.ble 9 pc then (bif Nat.beq pc 9 then some (.ireturn, 0) else none) else (bif Nat.beq pc 8 then some (.iconst (-1), 0) else none))) else (bif Nat.ble 2 pc then (bif Nat.ble 5 pc then (bif Nat.beq pc 5 then some (.ifCond .ne 5, 10) else none) else (bif Nat.beq pc 2 then some (.invokevirtual 63, 4) else none)) else (bif Nat.ble 1 pc then (bif Nat.beq pc 1 then some (.iload_n 1, 0) else none) else (bif Nat.beq pc 0 then some (.aload_n 0, 0) else none)))))
def cd32 (pc : Nat) : Option (Instr × Nat) := (bif Nat.ble 11 pc then (bif Nat.ble 16 pc then (bif Nat.ble 20 pc then (bif Nat.ble 21 pc then (bif Nat.beq pc 21 then some (.ireturn, 0) else none) else (bif Nat.beq pc 20 then some (.iload_n 3, 0) else none)) else (bif Nat.ble 17 pc then (bif Nat.beq pc 17 then some (.putfield 52, 12) else none) else (bif Nat.beq pc 16 then some (.iload_n 2, 0) else none))) else (bif Nat.ble 12 pc then (bif Nat.ble 15 pc then (bif Nat.beq pc 15 then some (.aload_n 0, 0) else none) else (bif Nat.beq pc 12 then some (.putfield 49, 11) else none)) else (bif Nat.beq pc 11 then some (.iadd, 0) else none))) else (bif Nat.ble 5 pc then (bif Nat.ble 7 pc then (bif Nat.ble 10 pc then (bif Nat.beq pc 10 then some (.iconst 1, 0) else none) else (bif Nat.beq pc 7 then some (.getfield 49, 11) else none)) else (bif Nat.ble 6 pc then (bif Nat.beq pc 6 then some (.aload_n 0, 0) else none) else (bif Nat.beq pc 5 then some (.aload_n 0, 0) else none))) else (bif Nat.ble 1 pc then (bif Nat.ble 2 pc then (bif Nat.beq pc 2 then some (.invokevirtual 90, 30) else none) else (bif Nat.beq pc 1 then some (.iload_n 1, 0) else none)) else (bif Nat.beq pc 0 then some (.aload_n 0, 0) else none))))
def pCode (m pc : Nat) : Option (Instr × Nat) := bif Nat.ble pN m then none else bif Nat.ble pTop pc then none else (bif Nat.ble 16 m then (bif Nat.ble 24 m then (bif Nat.ble 28 m then (bif Nat.ble 30 m then (bif Nat.ble 31 m then (bif Nat.ble 32 m then cd32 pc else cd31 pc) else cd30 pc) else (bif Nat.ble 29 m then cd29 pc else cd28 pc)) else (bif Nat.ble 26 m then (bif Nat.ble 27 m then cd27 pc else cd26 pc) else (bif Nat.ble 25 m then cd25 pc else cd24 pc))) else (bif Nat.ble 20 m then (bif Nat.ble 22 m then (bif Nat.ble 23 m then cd23 pc else cd22 pc) else (bif Nat.ble 21 m then cd21 pc else cd20 pc)) else (bif Nat.ble 18 m then (bif Nat.ble 19 m then cd19 pc else cd18 pc) else (bif Nat.ble 17 m then cd17 pc else cd16 pc)))) else (bif Nat.ble 8 m then (bif Nat.ble 12 m then (bif Nat.ble 14 m then (bif Nat.ble 15 m then cd15 pc else cd14 pc) else (bif Nat.ble 13 m then cd13 pc else cd12 pc)) else (bif Nat.ble 10 m then (bif Nat.ble 11 m then cd11 pc else cd10 pc) else (bif Nat.ble 9 m then cd9 pc else cd8 pc))) else (bif Nat.ble 4 m then (bif Nat.ble 6 m then (bif Nat.ble 7 m then cd7 pc else cd6 pc) else (bif Nat.ble 5 m then cd5 pc else cd4 pc)) else (bif Nat.ble 2 m then (bif Nat.ble 3 m then cd3 pc else cd2 pc) else (bif Nat.ble 1 m then cd1 pc else cd0 pc)))))
def lkF : List (Nat × Nat × Nat) := [(1, 7, 0), (1, 13, 1), (1, 16, 2), (1, 20, 3), (1, 23, 4), (1, 26, 5), (1, 29, 6), (1, 36, 7), (1, 40, 8), (1, 43, 9), (1, 46, 10), (1, 49, 11), (1, 52, 12)]
def lkN : List (Nat × Nat) := [(0, 8)]
def lkC : List (Nat × Nat × Nat) := []
def lkD : List (Nat × Nat × Nat) := [(0, 13, 0)]
def lkV : List (Nat × Nat × Nat) := [(0, 45, 1), (1, 32, 2), (0, 58, 3), (1, 63, 4), (0, 64, 5), (0, 28, 6), (0, 70, 7), (0, 73, 8), (0, 7, 9), (0, 15, 10), (0, 18, 11), (0, 21, 12), (1, 67, 13), (0, 25, 14), (0, 32, 15), (0, 35, 16), (0, 38, 17), (0, 41, 18), (0, 48, 19), (1, 55, 20), (1, 59, 21), (1, 93, 22), (1, 70, 23), (0, 54, 24), (0, 51, 25), (1, 74, 26), (1, 78, 27), (1, 84, 28), (1, 87, 29), (1, 90, 30), (0, 61, 31), (1, 81, 32)]
def lkO : List (Nat × Nat) := [(1, 1)]
def mV : List Nat := [3, 6, 9, 10, 11, 12, 14, 15, 16, 17, 18, 19, 24, 25, 31]
def mP : List Nat := [2, 4, 13, 20, 21, 22, 23, 26, 27, 28, 29, 30, 32]
def mS : List Nat := [5, 7, 8]
def mI : List Nat := [1]
def mA : List Nat := [1, 2, 3, 4, 5, 6, 7, 8, 9, 10, 11, 12, 13, 14, 15, 16, 17, 18, 19, 20, 21, 22, 23, 24, 25, 26, 27, 28, 29, 30, 31, 32]
def aTys : List FieldType := [.int, .boolean]
/-! ENGINE: abstract cells, locals, one-step function, and what a triple says of the model. -/
abbrev QCell := List Value ⊕ ((FieldType × List Int32) ⊕ List Int64)
abbrev QHeap := List QCell
abbrev QLoc := List (Option Value)
abbrev vI (x : Int32) : Option Value := some (.int x)
abbrev QSt := Nat × QLoc × List Value × QHeap
def qv (ad : Nat → Addr) : Value → Value
  | .ref k => .ref (ad k)
  | v => v
def qsz : QCell → Nat
  | .inl _ => cN
  | .inr (.inl x) => x.2.length
  | .inr (.inr x) => x.length
def qhs : QHeap → Nat
  | [] => 0
  | c :: t => qsz c + qhs t
def aget {α : Type} (xs : List α) (j : Int32) : Option α := if j < 0 then none else xs[j.toNatClampNeg]?
def aset {α : Type} (xs : List α) (j : Int32) (v : α) : Option (List α) := if j < 0 then none else if j.toNatClampNeg < xs.length then some (xs.set j.toNatClampNeg v) else none
def qnew (n : Int32) : Option Nat := if n < 0 then none else if n.toNatClampNeg ≤ 67108864 then some n.toNatClampNeg else none
def qdiv (x y : Int32) : Option Int32 := if y = 0 then none else some (x / y)
def qrem (x y : Int32) : Option Int32 := if y = 0 then none else some (x % y)
def qboo (x : Int32) : Option Int32 := if x = 0 then some x else if x = 1 then some x else none
def lget : QLoc → Nat → Option Value
  | [], _ => none
  | v :: _, 0 => v
  | _ :: t, k + 1 => lget t k
def hget : QHeap → Nat → Option QCell
  | [], _ => none
  | v :: _, 0 => some v
  | _ :: t, k + 1 => hget t k
def vget : List Value → Nat → Option Value
  | [], _ => none
  | v :: _, 0 => some v
  | _ :: t, k + 1 => vget t k
def lkill (L : QLoc) : Nat → QLoc
  | 0 => L
  | k + 1 => match lget L k with
    | some (.long _) => L.set k none
    | some (.double _) => L.set k none
    | _ => L
def lput (L : QLoc) (k : Nat) (v : Value) : Option QLoc :=
  match v with
  | .long x => bif Nat.ble (k + 2) L.length then some (((lkill L k).set k (some (.long x))).set (k + 1) none) else none
  | .double _ => none
  | v => bif Nat.ble (k + 1) L.length then some ((lkill L k).set k (some v)) else none
/-- push what a local holds, if it is of the kind -/
def qload (pc : Nat) (L : QLoc) (S : List Value) (σ : QHeap) (k : Nat) (ok : Value → Bool) : Option QSt :=
  match lget L k with
  | some v => bif ok v then some (pc, L, v :: S, σ) else none
  | none => none
def isI : Value → Bool | .int _ => true | _ => false
def isJ : Value → Bool | .long _ => true | _ => false
def isR : Value → Bool | .ref _ => true | _ => false
def qstore (pc : Nat) (L : QLoc) (S : List Value) (σ : QHeap) (k : Nat) (ok : Value → Bool) : Option QSt :=
  match S with
  | v :: S' => bif ok v then (match lput L k v with | some L' => some (pc, L', S', σ) | none => none) else none
  | [] => none
def qbin (pc : Nat) (L : QLoc) (S : List Value) (σ : QHeap) (f : Int32 → Int32 → Int32) : Option QSt :=
  match S with
  | .int y :: .int x :: S' => some (pc, L, .int (f x y) :: S', σ)
  | _ => none
def qbino (pc : Nat) (L : QLoc) (S : List Value) (σ : QHeap) (f : Int32 → Int32 → Option Int32) : Option QSt :=
  match S with
  | .int y :: .int x :: S' => (f x y).bind fun z => some (pc, L, .int z :: S', σ)
  | _ => none
def qbinJ (pc : Nat) (L : QLoc) (S : List Value) (σ : QHeap) (f : Int64 → Int64 → Int64) : Option QSt :=
  match S with
  | .long y :: .long x :: S' => some (pc, L, .long (f x y) :: S', σ)
  | _ => none
def qshJ (pc : Nat) (L : QLoc) (S : List Value) (σ : QHeap) (f : Int64 → Int32 → Int64) : Option QSt :=
  match S with
  | .int y :: .long x :: S' => some (pc, L, .long (f x y) :: S', σ)
  | _ => none
def quni (pc : Nat) (L : QLoc) (S : List Value) (σ : QHeap) (f : Int32 → Value) : Option QSt :=
  match S with
  | .int x :: S' => some (pc, L, f x :: S', σ)
  | _ => none
def quniJ (pc : Nat) (L : QLoc) (S : List Value) (σ : QHeap) (f : Int64 → Value) : Option QSt :=
  match S with
  | .long x :: S' => some (pc, L, f x :: S', σ)
  | _ => none
def qald (pc : Nat) (L : QLoc) (S : List Value) (σ : QHeap) (ok : FieldType → Bool) : Option QSt :=
  match S with
  | .int j :: .ref a :: S' => (match hget σ a with
    | some (.inr (.inl x)) => bif ok x.1 then (aget x.2 j).bind fun v => some (pc, L, .int v :: S', σ) else none
    | _ => none)
  | _ => none
def qaldJ (pc : Nat) (L : QLoc) (S : List Value) (σ : QHeap) : Option QSt :=
  match S with
  | .int j :: .ref a :: S' => (match hget σ a with
    | some (.inr (.inr x)) => (aget x j).bind fun v => some (pc, L, .long v :: S', σ)
    | _ => none)
  | _ => none
def qnar : FieldType → Int32 → Int32
  | .boolean, x => x &&& 1
  | .byte, x => x.toInt8.toInt32
  | _, x => x
def qast (pc : Nat) (L : QLoc) (S : List Value) (σ : QHeap) (ok : FieldType → Bool) : Option QSt :=
  match S with
  | .int v :: .int j :: .ref a :: S' => (match hget σ a with
    | some (.inr (.inl x)) => bif ok x.1 && Nat.ble k0 a then (aset x.2 j (qnar x.1 v)).bind fun y => some (pc, L, S', σ.set a (.inr (.inl (x.1, y)))) else none
    | _ => none)
  | _ => none
def qastJ (pc : Nat) (L : QLoc) (S : List Value) (σ : QHeap) : Option QSt :=
  match S with
  | .long v :: .int j :: .ref a :: S' => (match hget σ a with
    | some (.inr (.inr x)) => bif Nat.ble k0 a then (aset x j v).bind fun y => some (pc, L, S', σ.set a (.inr (.inr y))) else none
    | _ => none)
  | _ => none
def tyI : FieldType → Bool | .int => true | _ => false
def tyB : FieldType → Bool | .boolean => true | .byte => true | _ => false
/-- what a value becomes in a field of the type (none: it doesn't fit) -/
def qfit : FieldType → Value → Option Value
  | .int, .int x => some (.int x)
  | .boolean, .int x => (qboo x).bind fun y => some (.int y)
  | .long, .long x => some (.long x)
  | .array t, .ref a => some (.ref a)
  | _, _ => none
def qget (pc : Nat) (L : QLoc) (S : List Value) (σ : QHeap) (k : Nat) : Option QSt :=
  match S with
  | .ref a :: S' => (match hget σ a with
    | some (.inl vs) => (match vget vs k with | some v => some (pc, L, v :: S', σ) | none => none)
    | _ => none)
  | _ => none
def qput (pc : Nat) (L : QLoc) (S : List Value) (σ : QHeap) (k : Nat) : Option QSt :=
  match S with
  | v :: .ref a :: S' => (match hget σ a with
    | some (.inl vs) => bif Nat.ble k0 a && Nat.ble (k + 1) vs.length then (qfit (fTy k) v).bind fun w => some (pc, L, S', σ.set a (.inl (vs.set k w))) else none
    | _ => none)
  | _ => none
def qnewA (pc : Nat) (L : QLoc) (S : List Value) (σ : QHeap) (t : ArrayType) : Option QSt :=
  match S with
  | .int n :: S' => (match t with
    | .int => (qnew n).bind fun k => some (pc, L, .ref σ.length :: S', σ ++ [.inr (.inl (.int, List.replicate k 0))])
    | .boolean => (qnew n).bind fun k => some (pc, L, .ref σ.length :: S', σ ++ [.inr (.inl (.boolean, List.replicate k 0))])
    | .byte => (qnew n).bind fun k => some (pc, L, .ref σ.length :: S', σ ++ [.inr (.inl (.byte, List.replicate k 0))])
    | .long => (qnew n).bind fun k => some (pc, L, .ref σ.length :: S', σ ++ [.inr (.inr (List.replicate k 0))])
    | _ => none)
  | _ => none
def qlen (pc : Nat) (L : QLoc) (S : List Value) (σ : QHeap) : Option QSt :=
  match S with
  | .ref a :: S' => (match hget σ a with
    | some (.inr (.inl x)) => some (pc, L, .int x.2.length.toInt32 :: S', σ)
    | some (.inr (.inr x)) => some (pc, L, .int x.length.toInt32 :: S', σ)
    | _ => none)
  | _ => none
def qdup (pc : Nat) (L : QLoc) (S : List Value) (σ : QHeap) : Option QSt :=
  match S with
  | .int x :: S' => some (pc, L, .int x :: .int x :: S', σ)
  | .ref x :: S' => some (pc, L, .ref x :: .ref x :: S', σ)
  | _ => none
def qdup2 (pc : Nat) (L : QLoc) (S : List Value) (σ : QHeap) : Option QSt :=
  match S with
  | .int x :: .ref y :: S' => some (pc, L, .int x :: .ref y :: .int x :: .ref y :: S', σ)
  | .int x :: .int y :: S' => some (pc, L, .int x :: .int y :: .int x :: .int y :: S', σ)
  | .long x :: S' => some (pc, L, .long x :: .long x :: S', σ)
  | _ => none
def qpop (pc : Nat) (L : QLoc) (S : List Value) (σ : QHeap) : Option QSt :=
  match S with
  | .int _ :: S' => some (pc, L, S', σ)
  | .ref _ :: S' => some (pc, L, S', σ)
  | _ => none
def qif (pc : Nat) (L : QLoc) (S : List Value) (σ : QHeap) (cd : ClassFile.Cond) (tgt : Nat) : Option QSt :=
  match S with
  | .int x :: S' => some (bif ifCond.holds cd x then tgt else pc, L, S', σ)
  | _ => none
def qicmp (pc : Nat) (L : QLoc) (S : List Value) (σ : QHeap) (cd : ClassFile.Cond) (tgt : Nat) : Option QSt :=
  match S with
  | .int y :: .int x :: S' => some (bif if_icmp.holds cd x y then tgt else pc, L, S', σ)
  | _ => none
def qinc (pc : Nat) (L : QLoc) (S : List Value) (σ : QHeap) (k : Nat) (i : Int) : Option QSt :=
  match lget L k with
  | some (.int x) => (match lput L k (.int (x + Int32.ofInt i)) with | some L' => some (pc, L', S, σ) | none => none)
  | _ => none
def qldc (pc : Nat) (L : QLoc) (S : List Value) (σ : QHeap) (k : Nat) : Option QSt :=
  match vget cK k with
  | some v => some (pc, L, v :: S, σ)
  | none => none
def qexec (pc : Nat) (L : QLoc) (S : List Value) (σ : QHeap) (aux : Nat) : Instr → Option QSt
  | .aload_n k => qload (pc + 1) L S σ k.val isR
  | .aload k => qload (pc + 2) L S σ k isR
  | .iload_n k => qload (pc + 1) L S σ k.val isI
  | .iload k => qload (pc + 2) L S σ k isI
  | .lload_n k => qload (pc + 1) L S σ k.val isJ
  | .lload k => qload (pc + 2) L S σ k isJ
  | .iconst i => some (pc + 1, L, .int (Int32.ofInt i) :: S, σ)
  | .bipush i => some (pc + 2, L, .int (Int8.ofInt i).toInt32 :: S, σ)
  | .sipush i => some (pc + 3, L, .int (Int16.ofInt i).toInt32 :: S, σ)
  | .lconst k => some (pc + 1, L, .long (Int64.ofNat k.val) :: S, σ)
  | .ldc _ => qldc (pc + 2) L S σ aux
  | .ldc2_w _ => qldc (pc + 3) L S σ aux
  | .istore_n k => qstore (pc + 1) L S σ k.val isI
  | .istore k => qstore (pc + 2) L S σ k isI
  | .lstore_n k => qstore (pc + 1) L S σ k.val isJ
  | .lstore k => qstore (pc + 2) L S σ k isJ
  | .astore_n k => qstore (pc + 1) L S σ k.val isR
  | .astore k => qstore (pc + 2) L S σ k isR
  | .iinc k i => qinc (pc + 3) L S σ k i
  | .iadd => qbin (pc + 1) L S σ fun x y => x + y
  | .isub => qbin (pc + 1) L S σ fun x y => x - y
  | .imul => qbin (pc + 1) L S σ fun x y => x * y
  | .iand => qbin (pc + 1) L S σ fun x y => x &&& y
  | .ior => qbin (pc + 1) L S σ fun x y => x ||| y
  | .ixor => qbin (pc + 1) L S σ fun x y => x ^^^ y
  | .ishl => qbin (pc + 1) L S σ fun x y => x <<< (y &&& 31)
  | .ishr => qbin (pc + 1) L S σ fun x y => x >>> (y &&& 31)
  | .iushr => qbin (pc + 1) L S σ fun x y => XT.ushr x y
  | .idiv => qbino (pc + 1) L S σ qdiv
  | .irem => qbino (pc + 1) L S σ qrem
  | .ineg => quni (pc + 1) L S σ fun x => .int (-x)
  | .i2l => quni (pc + 1) L S σ fun x => .long x.toInt64
  | .i2b => quni (pc + 1) L S σ fun x => .int x.toInt8.toInt32
  | .l2i => quniJ (pc + 1) L S σ fun x => .int x.toInt32
  | .lneg => quniJ (pc + 1) L S σ fun x => .long (-x)
  | .ladd => qbinJ (pc + 1) L S σ fun x y => x + y
  | .lsub => qbinJ (pc + 1) L S σ fun x y => x - y
  | .lmul => qbinJ (pc + 1) L S σ fun x y => x * y
  | .land => qbinJ (pc + 1) L S σ fun x y => x &&& y
  | .lor => qbinJ (pc + 1) L S σ fun x y => x ||| y
  | .lxor => qbinJ (pc + 1) L S σ fun x y => x ^^^ y
  | .lshl => qshJ (pc + 1) L S σ fun x y => x <<< (y.toInt64 &&& 63)
  | .lshr => qshJ (pc + 1) L S σ fun x y => x >>> (y.toInt64 &&& 63)
  | .lushr => qshJ (pc + 1) L S σ fun x y => XT.ushrL x y
  | .lcmp => (match S with
    | .long y :: .long x :: S' => some (pc + 1, L, .int (XT.cmpL x y) :: S', σ)
    | _ => none)
  | .goto _ => some (aux, L, S, σ)
  | .ifCond cd _ => qif (pc + 3) L S σ cd aux
  | .if_icmp cd _ => qicmp (pc + 3) L S σ cd aux
  | .dup => qdup (pc + 1) L S σ
  | .dup2 => qdup2 (pc + 1) L S σ
  | .pop => qpop (pc + 1) L S σ
  | .getfield _ => qget (pc + 3) L S σ aux
  | .putfield _ => qput (pc + 3) L S σ aux
  | .iaload => qald (pc + 1) L S σ tyI
  | .baload => qald (pc + 1) L S σ tyB
  | .laload => qaldJ (pc + 1) L S σ
  | .iastore => qast (pc + 1) L S σ tyI
  | .bastore => qast (pc + 1) L S σ tyB
  | .lastore => qastJ (pc + 1) L S σ
  | .arraylength => qlen (pc + 1) L S σ
  | .newarray t => qnewA (pc + 2) L S σ t
  | .new _ => some (pc + 3, L, .ref σ.length :: S, σ ++ [.inl cDef])
  | _ => none
def qstep (m : Nat) (st : QSt) : Option QSt :=
  match pCode m st.1 with
  | some (i, aux) => qexec st.1 st.2.1 st.2.2.1 st.2.2.2 aux i
  | none => none
def qsteps (m : Nat) : Nat → QSt → Option QSt
  | 0, st => some st
  | n + 1, st => match qstep m st with | some st' => qsteps m n st' | none => none
def qentry (args : List Value) (mx : Nat) : QLoc := (args.flatMap fun v => match v with | .long x => [some (.long x), none] | .double x => [some (.double x), none] | v => [some v]) ++ List.replicate (mx - (args.map fun v => v.category).sum) none
/-! ## what the abstract state says of the model's -/
def ilen : Instr → Nat
  | .aload _ | .iload _ | .lload _ | .istore _ | .lstore _ | .astore _ | .bipush _ | .ldc _ | .newarray _ => 2
  | .sipush _ | .ldc2_w _ | .iinc _ _ | .goto _ | .ifCond _ _ | .if_icmp _ _ | .getfield _ | .putfield _ | .new _ | .invokevirtual _ | .invokespecial _ | .invokestatic _ => 3
  | _ => 1
def qtgt (pc : Nat) (o : Int) (aux : Nat) : Bool := decide (0 ≤ (pc : Int) + o) && decide (((pc : Int) + o).toNat = aux)
def qlk (m pc : Nat) (i : Instr) (aux : Nat) : Bool :=
  match i with
  | .goto o => qtgt pc o aux
  | .ifCond _ o => qtgt pc o aux
  | .if_icmp _ o => qtgt pc o aux
  | .getfield idx => lkF.contains (pK m, idx, aux)
  | .putfield idx => lkF.contains (pK m, idx, aux) && (!fFin aux || (pK m == 1 && pNm m == "<init>"))
  | .new idx => lkN.contains (pK m, idx)
  | .newarray t => aTys.contains (newarray.typeOf t)
  | .ldc idx => lkC.contains (pK m, idx, aux)
  | .ldc2_w idx => lkD.contains (pK m, idx, aux)
  | _ => true
def qchk (m pc : Nat) (i : Instr) (aux : Nat) : Bool := decide (decode (pBytes m) pc = .ok (i, ilen i)) && qlk m pc i aux
def QCellOk (Z : State) (ad : Nat → Addr) (h : Heap) (a : Addr) : QCell → Prop
  | .inl vs => Exa Z h a cName ∧ vs.length = nF ∧ ∀ (k : Nat) (v : Value), k < nF → vget vs k = some v → Fld Z h a cName (fNm k) (fDs k) (qv ad v)
  | .inr (.inl x) => ∃ c : Cell, Arr Z h a c x.1 ∧ c.slots = (x.2.map Value.int).toArray
  | .inr (.inr x) => ∃ c : Cell, Arr Z h a c .long ∧ c.slots = (x.map Value.long).toArray
def QAd (n0 : Nat) (ad : Nat → Addr) : Prop := (∀ k, k0 ≤ k → ad k = n0 + (k - k0)) ∧ ∀ i j, ad i = ad j → i = j
def QRep (Z : State) (n0 : Nat) (ad : Nat → Addr) (h : Heap) (σ : QHeap) : Prop := k0 ≤ σ.length ∧ h.size = n0 + (σ.length - k0) ∧ ∀ k c, hget σ k = some c → QCellOk Z ad h (ad k) c
def QLocOk (ad : Nat → Addr) (L : QLoc) (C : Array Slot) : Prop :=
  L.length = C.size ∧ (∀ k v, lget L k = some v → C[k]? = some (.val (qv ad v))) ∧ (∀ k w, C[k]? = some (.val w) → w.category = 2 → C[k + 1]? = some .second) ∧ ∀ k, C[k]? = some .second → ∃ j w, k = j + 1 ∧ C[j]? = some (.val w) ∧ w.category = 2
/-- the words of the sheet, as the engine uses them -/
def QW (Z : State) (a0 : Array Value) : Prop :=
  (∀ t ∈ lkF, (Cond.fieldLink (kName t.1) t.2.1 cName (fNm t.2.2) (fDs t.2.2)).before a0 Z = true) ∧
  (∀ t ∈ lkN, (Cond.classLink (kName t.1) t.2 cName).before a0 Z = true) ∧
  (∀ t ∈ lkC, ∃ v, vget cK t.2.2 = some (.int v) ∧ (Cond.constant (kName t.1) t.2.1 v).before a0 Z = true) ∧
  (∀ t ∈ lkD, ∃ v, vget cK t.2.2 = some (.long v) ∧ (Cond.constantLong (kName t.1) t.2.1 v).before a0 Z = true) ∧
  (∀ t ∈ lkV, (Cond.methodLink (kName t.1) t.2.1 (pName t.2.2)).before a0 Z = true) ∧
  (∀ t ∈ lkO, (Cond.methodLink (kName t.1) t.2 Lib.objectInit).before a0 Z = true) ∧
  (∀ m ∈ mV, (Cond.declares (pName m)).before a0 Z = true ∧ (Cond.selects cName (pName m) (pName m)).before a0 Z = true ∧ (Cond.instanceMethod (pName m)).before a0 Z = true) ∧
  (∀ m ∈ mP, (Cond.instanceMethod (pName m)).before a0 Z = true ∧ (Cond.privateMethod (pName m)).before a0 Z = true) ∧
  (∀ m ∈ mS, (Cond.static (pName m)).before a0 Z = true) ∧
  (∀ m ∈ mI, (Cond.instanceMethod (pName m)).before a0 Z = true) ∧
  (∀ m ∈ mA, (Cond.code (pName m) (pBytes m) (pMaxL m) (pRet m)).before a0 Z = true ∧ (Cond.initialized (kName (pK m))).before a0 Z = true) ∧
  (Cond.instanceMethod Lib.objectInit).before a0 Z = true ∧ (Cond.code Lib.objectInit ⟨#[0xb1]⟩ 1 none).before a0 Z = true ∧
  (∀ k, k < nF → bif fFin k then (Cond.laysFinal cName cName (fNm k) (fDs k)).before a0 Z = true else (Cond.lays cName cName (fNm k) (fDs k)).before a0 Z = true) ∧
  (Cond.instantiable cName cN).before a0 Z = true ∧ (Cond.initialized cName).before a0 Z = true ∧
  ∀ ty ∈ aTys, (Cond.arrayClass ty).before a0 Z = true
section Words
variable {Z : State} {a0 : Array Value}
theorem qw_fl (W : QW Z a0) : ∀ t ∈ lkF, (Cond.fieldLink (kName t.1) t.2.1 cName (fNm t.2.2) (fDs t.2.2)).before a0 Z = true := W.1
theorem qw_nw (W : QW Z a0) : ∀ t ∈ lkN, (Cond.classLink (kName t.1) t.2 cName).before a0 Z = true := W.2.1
theorem qw_cI (W : QW Z a0) : ∀ t ∈ lkC, ∃ v, vget cK t.2.2 = some (.int v) ∧ (Cond.constant (kName t.1) t.2.1 v).before a0 Z = true := W.2.2.1
theorem qw_cJ (W : QW Z a0) : ∀ t ∈ lkD, ∃ v, vget cK t.2.2 = some (.long v) ∧ (Cond.constantLong (kName t.1) t.2.1 v).before a0 Z = true := W.2.2.2.1
theorem qw_ml (W : QW Z a0) : ∀ t ∈ lkV, (Cond.methodLink (kName t.1) t.2.1 (pName t.2.2)).before a0 Z = true := W.2.2.2.2.1
theorem qw_mo (W : QW Z a0) : ∀ t ∈ lkO, (Cond.methodLink (kName t.1) t.2 Lib.objectInit).before a0 Z = true := W.2.2.2.2.2.1
theorem qw_vi (W : QW Z a0) : ∀ m ∈ mV, (Cond.declares (pName m)).before a0 Z = true ∧ (Cond.selects cName (pName m) (pName m)).before a0 Z = true ∧ (Cond.instanceMethod (pName m)).before a0 Z = true := W.2.2.2.2.2.2.1
theorem qw_pr (W : QW Z a0) : ∀ m ∈ mP, (Cond.instanceMethod (pName m)).before a0 Z = true ∧ (Cond.privateMethod (pName m)).before a0 Z = true := W.2.2.2.2.2.2.2.1
theorem qw_st (W : QW Z a0) : ∀ m ∈ mS, (Cond.static (pName m)).before a0 Z = true := W.2.2.2.2.2.2.2.2.1
theorem qw_ini (W : QW Z a0) : ∀ m ∈ mI, (Cond.instanceMethod (pName m)).before a0 Z = true := W.2.2.2.2.2.2.2.2.2.1
theorem qw_cod (W : QW Z a0) : ∀ m ∈ mA, (Cond.code (pName m) (pBytes m) (pMaxL m) (pRet m)).before a0 Z = true ∧ (Cond.initialized (kName (pK m))).before a0 Z = true := W.2.2.2.2.2.2.2.2.2.2.1
theorem qw_oi (W : QW Z a0) : (Cond.instanceMethod Lib.objectInit).before a0 Z = true := W.2.2.2.2.2.2.2.2.2.2.2.1
theorem qw_oc (W : QW Z a0) : (Cond.code Lib.objectInit ⟨#[0xb1]⟩ 1 none).before a0 Z = true := W.2.2.2.2.2.2.2.2.2.2.2.2.1
theorem qw_lay (W : QW Z a0) : ∀ k, k < nF → bif fFin k then (Cond.laysFinal cName cName (fNm k) (fDs k)).before a0 Z = true else (Cond.lays cName cName (fNm k) (fDs k)).before a0 Z = true := W.2.2.2.2.2.2.2.2.2.2.2.2.2.1
theorem qw_inst (W : QW Z a0) : (Cond.instantiable cName cN).before a0 Z = true := W.2.2.2.2.2.2.2.2.2.2.2.2.2.2.1
theorem qw_init (W : QW Z a0) : (Cond.initialized cName).before a0 Z = true := W.2.2.2.2.2.2.2.2.2.2.2.2.2.2.2.1
theorem qw_arr (W : QW Z a0) : ∀ ty ∈ aTys, (Cond.arrayClass ty).before a0 Z = true := W.2.2.2.2.2.2.2.2.2.2.2.2.2.2.2.2
end Words
/-! ## small laws of lists -/
theorem hget_eq : ∀ (σ : QHeap) k, hget σ k = σ[k]?
  | [], _ => by simp [hget]
  | _ :: _, 0 => by simp [hget]
  | _ :: t, k + 1 => by simp [hget, hget_eq t k]
theorem vget_eq : ∀ (σ : List Value) k, vget σ k = σ[k]?
  | [], _ => by simp [vget]
  | _ :: _, 0 => by simp [vget]
  | _ :: t, k + 1 => by simp [vget, vget_eq t k]
theorem lget_eq : ∀ (L : QLoc) k, lget L k = (L[k]?).getD none
  | [], _ => by simp [lget]
  | _ :: _, 0 => by simp [lget]
  | _ :: t, k + 1 => by simp [lget, lget_eq t k]
theorem lget_lt {L : QLoc} {k : Nat} {v : Value} (h : lget L k = some v) : k < L.length := by
  rw [lget_eq] at h
  rcases Nat.lt_or_ge k L.length with q | q
  · exact q
  · simp [List.getElem?_eq_none q] at h
theorem lget_set {L : QLoc} {k j : Nat} {o : Option Value} (hk : k < L.length) : lget (L.set k o) j = if j = k then o else lget L j := by
  simp only [lget_eq, List.getElem?_set]
  by_cases e : k = j
  · subst e; simp [hk]
  · simp [e, Ne.symm e]
theorem qhs_app (σ τ : QHeap) : qhs (σ ++ τ) = qhs σ + qhs τ := by
  induction σ with
  | nil => simp [qhs]
  | cons c t ih => simp [qhs, ih, Nat.add_assoc]
theorem qhs_set {σ : QHeap} {k : Nat} {c d : QCell} (h : hget σ k = some c) (hs : qsz d = qsz c) : qhs (σ.set k d) = qhs σ := by
  induction σ generalizing k with
  | nil => simp [hget] at h
  | cons x t ih =>
    cases k with
    | zero => simp only [hget, Option.some.injEq] at h; subst h; simp [qhs, hs]
    | succ k => simp only [hget] at h; simp [qhs, ih h]
theorem hget_set {σ : QHeap} {k j : Nat} {c d : QCell} (h : hget σ k = some c) : hget (σ.set k d) j = if j = k then some d else hget σ j := by
  rw [hget_eq] at h
  have hk := (List.getElem?_eq_some_iff.mp h).1
  simp only [hget_eq, List.getElem?_set]
  by_cases e : k = j
  · subst e; simp [hk]
  · simp [e, Ne.symm e]
theorem lkill_len (L : QLoc) (k : Nat) : (lkill L k).length = L.length := by
  cases k with
  | zero => rfl
  | succ k => simp only [lkill]; split <;> simp
theorem lget_kill {L : QLoc} {k j : Nat} {v : Value} (h : lget (lkill L k) j = some v) : lget L j = some v ∧ (k = j + 1 → v.category ≠ 2) := by
  cases k with
  | zero => exact ⟨h, fun e => by omega⟩
  | succ k =>
    simp only [lkill] at h
    split at h
    · rename_i x q
      rw [lget_set (lget_lt q)] at h
      split at h
      · cases h
      · rename_i ne; exact ⟨h, fun e => absurd (by omega) ne⟩
    · rename_i x q
      rw [lget_set (lget_lt q)] at h
      split at h
      · cases h
      · rename_i ne; exact ⟨h, fun e => absurd (by omega) ne⟩
    · rename_i q1 q2
      refine ⟨h, fun e hc => ?_⟩
      obtain rfl : j = k := by omega
      cases v with
      | long x => exact q1 _ h
      | double x => exact q2 _ h
      | _ => simp [Value.category] at hc
theorem qv_cat (ad : Nat → Addr) (v : Value) : (qv ad v).category = v.category := by cases v <;> rfl
/-! ## storing into a local -/
def kA (C : Array Slot) (k j : Nat) : Prop := k = j + 1 ∧ C[k]? = some .second
def kB (C : Array Slot) (k j : Nat) : Prop := j = k + 1 ∧ ∃ u, C[k]? = some (.val u) ∧ u.category = 2
def kD (C : Array Slot) (k j : Nat) : Prop := j = k + 2 ∧ ∃ u, C[k + 1]? = some (.val u) ∧ u.category = 2
theorem set1_at {C D : Array Slot} {k : Nat} {w : Value} (hk : k < C.size) (hw : w.category = 1) (h : storeLocals C k w = some D) :
    D.size = C.size ∧ D[k]? = some (.val w) ∧ ∀ j, j ≠ k → (D[j]? = C[j]? ∧ ¬ kA C k j ∧ ¬ kB C k j) ∨ D[j]? = some .unset ∧ (kA C k j ∨ kB C k j) := by
  have hck : C[k]? = some C[k] := Array.getElem?_eq_getElem hk
  unfold storeLocals at h
  simp only [hck, Option.bind_eq_bind, Option.bind_some] at h
  have self : ∀ {E : Array Slot}, k < E.size → storeSelf E k w = some D → D = E.setIfInBounds k (.val w) := by
    intro E hE q
    simp only [storeSelf, setAt, hE, if_true, Option.bind_eq_bind, Option.bind_some, hw] at q
    simpa using q.symm
  split at h
  · rename_i q
    have hk1 : k - 1 < C.size := by omega
    simp only [setAt, hk1, if_true, Option.bind_some] at h
    have e := self (by simpa using hk) h
    subst e
    refine ⟨by simp, by simp [hk], fun j hj => ?_⟩
    by_cases ej : k = j + 1
    · refine Or.inr ⟨?_, Or.inl ⟨ej, by rw [hck, q]⟩⟩
      rw [Array.getElem?_setIfInBounds_ne (Ne.symm hj), show j = k - 1 by omega]
      simp [hk1]
    · refine Or.inl ⟨?_, fun x => ej x.1, fun x => ?_⟩
      · rw [Array.getElem?_setIfInBounds_ne (Ne.symm hj), Array.getElem?_setIfInBounds_ne (by omega)]
      · obtain ⟨-, u, x1, -⟩ := x
        rw [hck, q] at x1; cases x1
  · rename_i u q
    split at h
    · rename_i hu
      by_cases hk1 : k + 1 < C.size
      · simp only [setAt, hk1, if_true, Option.bind_some] at h
        have e := self (by simpa using hk) h
        subst e
        refine ⟨by simp, by simp [hk], fun j hj => ?_⟩
        by_cases ej : j = k + 1
        · refine Or.inr ⟨?_, Or.inr ⟨ej, u, by rw [hck, q], hu⟩⟩
          rw [Array.getElem?_setIfInBounds_ne (Ne.symm hj), ej]
          simp [hk1]
        · refine Or.inl ⟨?_, fun x => ?_, fun x => ej x.1⟩
          · rw [Array.getElem?_setIfInBounds_ne (Ne.symm hj), Array.getElem?_setIfInBounds_ne (by omega)]
          · obtain ⟨-, x1⟩ := x
            rw [hck, q] at x1; cases x1
      · simp [setAt, hk1] at h
    · rename_i hu
      have e := self hk h
      subst e
      refine ⟨by simp, by simp [hk], fun j hj => Or.inl ⟨Array.getElem?_setIfInBounds_ne (Ne.symm hj), fun x => ?_, fun x => ?_⟩⟩
      · obtain ⟨-, x1⟩ := x
        rw [hck, q] at x1; cases x1
      · obtain ⟨-, u', x1, x2⟩ := x
        rw [hck, q] at x1; cases x1; exact hu x2
  · rename_i q
    have e := self hk h
    subst e
    refine ⟨by simp, by simp [hk], fun j hj => Or.inl ⟨Array.getElem?_setIfInBounds_ne (Ne.symm hj), fun x => ?_, fun x => ?_⟩⟩
    · obtain ⟨-, x1⟩ := x
      rw [hck, q] at x1; cases x1
    · obtain ⟨-, u', x1, x2⟩ := x
      rw [hck, q] at x1; cases x1
theorem set2_at {C D : Array Slot} {k : Nat} {w : Value} (hk : k + 1 < C.size) (hw : w.category = 2) (wf : ∀ k w, C[k]? = some (.val w) → w.category = 2 → C[k + 1]? = some .second) (h : storeLocals C k w = some D) :
    D.size = C.size ∧ D[k]? = some (.val w) ∧ D[k + 1]? = some .second ∧ ∀ j, j ≠ k → j ≠ k + 1 → (D[j]? = C[j]? ∧ ¬ kA C k j ∧ ¬ kD C k j) ∨ D[j]? = some .unset ∧ (kA C k j ∨ kD C k j) := by
  have hk0 : k < C.size := by omega
  have hck : C[k]? = some C[k] := Array.getElem?_eq_getElem hk0
  unfold storeLocals at h
  simp only [hck, Option.bind_eq_bind, Option.bind_some] at h
  have self : ∀ {E : Array Slot}, E.size = C.size → storeSelf E k w = some D → D.size = C.size ∧ D[k]? = some (.val w) ∧ D[k + 1]? = some .second ∧ ∀ j, j ≠ k → j ≠ k + 1 → (D[j]? = E[j]? ∧ ¬ kD E k j) ∨ D[j]? = some .unset ∧ kD E k j := by
    intro E hs q
    have h1 : k < E.size := by omega
    have h2 : k + 1 < E.size := by omega
    have h3 : (E.setIfInBounds k (.val w))[k + 1]? = some E[k + 1] := by rw [Array.getElem?_setIfInBounds_ne (by omega)]; exact Array.getElem?_eq_getElem h2
    simp only [storeSelf, setAt, h1, if_true, Option.bind_eq_bind, Option.bind_some, hw, h3] at q
    have plain : (¬ ∃ u, E[k + 1]? = some (.val u) ∧ u.category = 2) → some ((E.setIfInBounds k (.val w)).setIfInBounds (k + 1) .second) = some D → D.size = C.size ∧ D[k]? = some (.val w) ∧ D[k + 1]? = some .second ∧ ∀ j, j ≠ k → j ≠ k + 1 → (D[j]? = E[j]? ∧ ¬ kD E k j) ∨ D[j]? = some .unset ∧ kD E k j := by
      intro no q
      cases q
      refine ⟨by simp [hs], ?_, ?_, fun j hj hj1 => Or.inl ⟨?_, fun x => no x.2⟩⟩
      · rw [Array.getElem?_setIfInBounds_ne (by omega)]; simp [h1]
      · simp [h2]
      · rw [Array.getElem?_setIfInBounds_ne (by omega), Array.getElem?_setIfInBounds_ne (by omega)]
    split at q
    · rename_i u hu
      split at q
      · rename_i hu2
        by_cases h5 : k + 2 < E.size
        · simp [h5, h2] at q
          cases q
          refine ⟨by simp [hs], ?_, ?_, fun j hj hj1 => ?_⟩
          · rw [Array.getElem?_setIfInBounds_ne (by omega), Array.getElem?_setIfInBounds_ne (by omega)]; simp [h1]
          · simp [h2]
          · by_cases e : j = k + 2
            · refine Or.inr ⟨?_, e, u, by rw [Array.getElem?_eq_getElem h2, hu], hu2⟩
              rw [Array.getElem?_setIfInBounds_ne (by omega), e]
              simp [h5]
            · refine Or.inl ⟨?_, fun x => e x.1⟩
              rw [Array.getElem?_setIfInBounds_ne (by omega), Array.getElem?_setIfInBounds_ne (by omega), Array.getElem?_setIfInBounds_ne (by omega)]
        · simp [h5] at q
      · rename_i hu2
        refine plain ?_ (by simpa [h2] using q)
        rintro ⟨u', x1, x2⟩
        rw [Array.getElem?_eq_getElem h2, hu] at x1; cases x1; exact hu2 x2
    · rename_i hu
      refine plain ?_ (by simpa [h2] using q)
      rintro ⟨u', x1, x2⟩
      rw [Array.getElem?_eq_getElem h2] at x1; exact hu _ (Option.some.inj x1)
  split at h
  · rename_i q
    have hk1 : k - 1 < C.size := by omega
    simp only [setAt, hk1, if_true, Option.bind_some] at h
    obtain ⟨e1, e2, e3, e4⟩ := self (by simp) h
    refine ⟨e1, e2, e3, fun j hj hj1 => ?_⟩
    have h6 : ∀ i, i + 1 ≠ k ∨ k = 0 → i ≠ k ∨ k ≠ 0 → (C.setIfInBounds (k - 1) Slot.unset)[i]? = C[i]? := fun i hi hi2 => Array.getElem?_setIfInBounds_ne (by omega)
    have h7 : (C.setIfInBounds (k - 1) Slot.unset)[k + 1]? = C[k + 1]? := Array.getElem?_setIfInBounds_ne (by omega)
    rcases e4 j hj hj1 with ⟨r, r'⟩ | ⟨r, r1, u, r2, r3⟩
    · by_cases ej : k = j + 1
      · refine Or.inr ⟨?_, Or.inl ⟨ej, by rw [hck, q]⟩⟩
        rw [r, show j = k - 1 by omega]; simp [hk1]
      · refine Or.inl ⟨by rw [r]; exact h6 _ (by omega) (by omega), fun x => ej x.1, fun x => r' ⟨x.1, ?_⟩⟩
        rw [h7]; exact x.2
    · exact Or.inr ⟨r, Or.inr ⟨r1, u, by rw [← h7]; exact r2, r3⟩⟩
  · rename_i u q
    split at h
    · rename_i hu
      simp only [setAt, hk, if_true, Option.bind_some] at h
      obtain ⟨e1, e2, e3, e4⟩ := self (by simp) h
      have hsec := wf k u (by rw [hck, q]) hu
      refine ⟨e1, e2, e3, fun j hj hj1 => ?_⟩
      rcases e4 j hj hj1 with ⟨r, r'⟩ | ⟨r, r1, u', r2, r3⟩
      · refine Or.inl ⟨by rw [r]; exact Array.getElem?_setIfInBounds_ne (by omega), fun x => ?_, fun x => ?_⟩
        · obtain ⟨-, x1⟩ := x
          rw [hck, q] at x1; cases x1
        · obtain ⟨-, u', x1, x2⟩ := x
          rw [hsec] at x1; cases x1
      · simp [hk] at r2
    · rename_i hu
      obtain ⟨e1, e2, e3, e4⟩ := self rfl h
      refine ⟨e1, e2, e3, fun j hj hj1 => ?_⟩
      rcases e4 j hj hj1 with ⟨r, r'⟩ | ⟨r, r'⟩
      · refine Or.inl ⟨r, fun x => ?_, r'⟩
        obtain ⟨-, x1⟩ := x
        rw [hck, q] at x1; cases x1
      · exact Or.inr ⟨r, Or.inr r'⟩
  · rename_i q
    obtain ⟨e1, e2, e3, e4⟩ := self rfl h
    refine ⟨e1, e2, e3, fun j hj hj1 => ?_⟩
    rcases e4 j hj hj1 with ⟨r, r'⟩ | ⟨r, r'⟩
    · refine Or.inl ⟨r, fun x => ?_, r'⟩
      obtain ⟨-, x1⟩ := x
      rw [hck, q] at x1; cases x1
    · exact Or.inr ⟨r, Or.inr r'⟩
/-- a store succeeds: in a well kept array of locals -/
theorem store_some {C : Array Slot} {k : Nat} {w : Value} (hk : k + (w.category - 1) < C.size) (hc : w.category = 1 ∨ w.category = 2) (wf : ∀ k w, C[k]? = some (.val w) → w.category = 2 → C[k + 1]? = some .second) :
    ∃ D, storeLocals C k w = some D := by
  have hk0 : k < C.size := by omega
  have hck : C[k]? = some C[k] := Array.getElem?_eq_getElem hk0
  have self : ∀ {E : Array Slot}, E.size = C.size → (∀ u, E[k + 1]? = some (.val u) → u.category = 2 → k + 2 < E.size) → ∃ D, storeSelf E k w = some D := by
    intro E hs hn
    have h1 : k < E.size := by omega
    simp only [storeSelf, setAt, h1, if_true, Option.bind_eq_bind, Option.bind_some]
    rcases hc with hc | hc
    · exact ⟨E.setIfInBounds k (.val w), by simp [hc]⟩
    · have h2 : k + 1 < E.size := by omega
      have h3 : (E.setIfInBounds k (.val w))[k + 1]? = some E[k + 1] := by rw [Array.getElem?_setIfInBounds_ne (by omega)]; exact Array.getElem?_eq_getElem h2
      simp only [hc, if_true, h3, Option.bind_some]
      split
      · rename_i u hu
        split
        · rename_i hu2
          have h5 := hn u (by rw [Array.getElem?_eq_getElem h2, hu]) hu2
          exact ⟨_, by simp [h5, h2]; rfl⟩
        · exact ⟨_, by simp [h2]; rfl⟩
      · exact ⟨_, by simp [h2]; rfl⟩
  have next : ∀ u, C[k + 1]? = some (.val u) → u.category = 2 → k + 2 < C.size := fun u h1 h2 => (Array.getElem?_eq_some_iff.mp (wf _ _ h1 h2)).1
  unfold storeLocals
  simp only [hck, Option.bind_eq_bind, Option.bind_some]
  split
  · have hk1 : k - 1 < C.size := by omega
    simp only [setAt, hk1, if_true, Option.bind_some]
    refine self (by simp) fun u h1 h2 => ?_
    rw [Array.getElem?_setIfInBounds_ne (by omega)] at h1
    simpa using next u h1 h2
  · rename_i u q
    split
    · rename_i hu
      have h5 := (Array.getElem?_eq_some_iff.mp (wf k u (by rw [hck, q]) hu)).1
      simp only [setAt, h5, if_true, Option.bind_some]
      refine self (by simp) fun u h1 h2 => ?_
      simp [h5] at h1
    · exact self rfl next
  · exact self rfl next
theorem store_ok1 {ad : Nat → Addr} {L : QLoc} {C : Array Slot} {k : Nat} {v : Value} (H : QLocOk ad L C) (hv : v.category = 1) (hk : k < L.length) :
    ∃ D, storeLocals C k (qv ad v) = some D ∧ QLocOk ad ((lkill L k).set k (some v)) D ∧ D.size = C.size := by
  obtain ⟨H1, H2, H3, H4⟩ := H
  have hc : (qv ad v).category = 1 := by rw [qv_cat, hv]
  obtain ⟨D, hD⟩ := store_some (C := C) (k := k) (w := qv ad v) (by rw [hc]; omega) (Or.inl hc) H3
  obtain ⟨d1, d2, d3⟩ := set1_at (by omega) hc hD
  refine ⟨D, hD, ⟨by simp [lkill_len, H1, d1], fun j u hj => ?_, fun j w hj hw => ?_, fun j hj => ?_⟩, d1⟩
  · rw [lget_set (by rw [lkill_len]; exact hk)] at hj
    split at hj
    · rename_i e; cases hj; rw [e]; exact d2
    · rename_i ne
      obtain ⟨g1, g2⟩ := lget_kill hj
      have g3 := H2 j u g1
      rcases d3 j ne with ⟨r, -, -⟩ | ⟨-, ⟨r1, r2⟩ | ⟨r1, w, r2, r3⟩⟩
      · rw [r]; exact g3
      · obtain ⟨i, w, z1, z2, z3⟩ := H4 k r2
        obtain rfl : i = j := by omega
        rw [g3] at z2
        cases z2
        rw [qv_cat] at z3
        exact absurd z3 (g2 r1)
      · have := H3 k w r2 r3
        rw [← r1, g3] at this
        cases this
  · by_cases e : j = k
    · subst e; rw [d2] at hj; cases hj; rw [hc] at hw; cases hw
    · rcases d3 j e with ⟨r, nA, nB⟩ | ⟨r, -⟩
      · rw [r] at hj
        have g := H3 j w hj hw
        have e2 : j + 1 ≠ k := fun q => nA ⟨q.symm, by rw [← q]; exact g⟩
        rcases d3 (j + 1) e2 with ⟨z, -, -⟩ | ⟨-, ⟨z1, z2⟩ | ⟨z1, -⟩⟩
        · rw [z]; exact g
        · obtain ⟨i, u, y1, y2, y3⟩ := H4 k z2
          obtain rfl : i = j + 1 := by omega
          rw [g] at y2; cases y2
        · omega
      · rw [r] at hj; cases hj
  · by_cases e : j = k
    · subst e; rw [d2] at hj; cases hj
    · rcases d3 j e with ⟨r, nA, nB⟩ | ⟨r, -⟩
      · rw [r] at hj
        obtain ⟨i, w, y1, y2, y3⟩ := H4 j hj
        refine ⟨i, w, y1, ?_, y3⟩
        have ei : i ≠ k := fun q => nB ⟨by omega, w, by rw [← q]; exact y2, y3⟩
        rcases d3 i ei with ⟨z, -, -⟩ | ⟨-, ⟨z1, z2⟩ | ⟨z1, u, z2, z3⟩⟩
        · rw [z]; exact y2
        · omega
        · have := H3 k u z2 z3
          rw [← z1, y2] at this; cases this
      · rw [r] at hj; cases hj
theorem store_ok2 {ad : Nat → Addr} {L : QLoc} {C : Array Slot} {k : Nat} {x : Int64} (H : QLocOk ad L C) (hk : k + 1 < L.length) :
    ∃ D, storeLocals C k (.long x) = some D ∧ QLocOk ad (((lkill L k).set k (some (.long x))).set (k + 1) none) D ∧ D.size = C.size := by
  obtain ⟨H1, H2, H3, H4⟩ := H
  have hc : (Value.long x).category = 2 := rfl
  obtain ⟨D, hD⟩ := store_some (C := C) (k := k) (w := .long x) (by rw [hc]; omega) (Or.inr hc) H3
  obtain ⟨d1, d2, d2', d3⟩ := set2_at (by omega) hc H3 hD
  refine ⟨D, hD, ⟨by simp [lkill_len, H1, d1], fun j u hj => ?_, fun j w hj hw => ?_, fun j hj => ?_⟩, d1⟩
  · rw [lget_set (by simp [lkill_len]; exact hk)] at hj
    split at hj
    · cases hj
    · rename_i ne1
      rw [lget_set (by rw [lkill_len]; omega)] at hj
      split at hj
      · rename_i e; cases hj; rw [e]; exact d2
      · rename_i ne
        obtain ⟨g1, g2⟩ := lget_kill hj
        have g3 := H2 j u g1
        rcases d3 j ne ne1 with ⟨r, -, -⟩ | ⟨-, ⟨r1, r2⟩ | ⟨r1, w, r2, r3⟩⟩
        · rw [r]; exact g3
        · obtain ⟨i, w, z1, z2, z3⟩ := H4 k r2
          obtain rfl : i = j := by omega
          rw [g3] at z2
          cases z2
          rw [qv_cat] at z3
          exact absurd z3 (g2 r1)
        · have := H3 (k + 1) w r2 r3
          rw [show k + 1 + 1 = j by omega, g3] at this
          cases this
  · by_cases e : j = k
    · rw [e]; exact d2'
    · by_cases e1 : j = k + 1
      · rw [e1, d2'] at hj; cases hj
      · rcases d3 j e e1 with ⟨r, nA, nB⟩ | ⟨r, -⟩
        · rw [r] at hj
          have g := H3 j w hj hw
          have e2 : j + 1 ≠ k := fun q => nA ⟨q.symm, by rw [← q]; exact g⟩
          rcases d3 (j + 1) e2 (by omega) with ⟨z, -, -⟩ | ⟨-, ⟨z1, z2⟩ | ⟨z1, -⟩⟩
          · rw [z]; exact g
          · obtain ⟨i, u, y1, y2, y3⟩ := H4 k z2
            obtain rfl : i = j + 1 := by omega
            rw [g] at y2; cases y2
          · omega
        · rw [r] at hj; cases hj
  · by_cases e : j = k
    · rw [e, d2] at hj; cases hj
    · by_cases e1 : j = k + 1
      · exact ⟨k, _, e1, d2, hc⟩
      · rcases d3 j e e1 with ⟨r, nA, nB⟩ | ⟨r, -⟩
        · rw [r] at hj
          obtain ⟨i, w, y1, y2, y3⟩ := H4 j hj
          refine ⟨i, w, y1, ?_, y3⟩
          have ei : i ≠ k := fun q => e1 (by omega)
          have ei1 : i ≠ k + 1 := fun q => nB ⟨by omega, w, by rw [← q]; exact y2, y3⟩
          rcases d3 i ei ei1 with ⟨z, -, -⟩ | ⟨-, ⟨z1, z2⟩ | ⟨z1, u, z2, z3⟩⟩
          · rw [z]; exact y2
          · omega
          · have := H3 (k + 1) u z2 z3
            rw [show k + 1 + 1 = i by omega, y2] at this; cases this
        · rw [r] at hj; cases hj
theorem store_ok {ad : Nat → Addr} {L L' : QLoc} {C : Array Slot} {k : Nat} {v : Value} (H : QLocOk ad L C) (h : lput L k v = some L') :
    ∃ D, storeLocals C k (qv ad v) = some D ∧ QLocOk ad L' D ∧ D.size = C.size := by
  have one : v.category = 1 → (bif Nat.ble (k + 1) L.length then some ((lkill L k).set k (some v)) else none) = some L' → ∃ D, storeLocals C k (qv ad v) = some D ∧ QLocOk ad L' D ∧ D.size = C.size := by
    intro hv h
    cases hb : Nat.ble (k + 1) L.length with
    | false => rw [hb] at h; cases h
    | true => rw [hb] at h; cases h; exact store_ok1 H hv (Nat.le_of_ble_eq_true hb)
  cases v with
  | long x =>
    simp only [lput] at h
    cases hb : Nat.ble (k + 2) L.length with
    | false => rw [hb] at h; cases h
    | true => rw [hb] at h; cases h; exact store_ok2 H (Nat.le_of_ble_eq_true hb)
  | double x => simp [lput] at h
  | int x => exact one rfl h
  | float x => exact one rfl h
  | null => exact one rfl h
  | ref x => exact one rfl h
  | retAddr x => exact one rfl h
/-! ## facts of the tables, by evaluation -/
theorem fInj : ∀ i, i < nF → ∀ j, j < nF → fNm i = fNm j → i = j := by decide +kernel
theorem fPrs : ∀ i, i < nF → parseFieldDescriptor (fDs i) = some (fTy i) := by decide +kernel
theorem cDefs : ∀ i, i < nF → vget cDef i = some (defaultValue (fTy i)) := by decide +kernel
theorem cDefL : cDef.length = nF := by decide +kernel
theorem fDef : ∀ i, i < nF → ∀ a, defaultValue (fTy i) ≠ .ref a := by
  intro i _ a
  cases fTy i <;> simp [defaultValue]
theorem kPlain : ∀ k, k < 2 → plainName (kName k) = true := by
  intro k hk
  rcases k with _ | _ | k
  · first | decide +kernel | (simp [kName, plainName, overriddenIn]; done)
  · first | decide +kernel | (simp [kName, plainName, overriddenIn]; done)
  · omega
theorem pKlt : ∀ m, m < pN → pK m < 2 := by decide +kernel
theorem pSig : ∀ m, m < pN → (parseMethodDescriptor (pDs m)).map (fun sg => sg.parameters.length) = some (pNA m) := by decide +kernel
theorem pOwn : ∀ k, k < 2 → kName k ≠ "java/lang/invoke/MethodHandle" ∧ kName k ≠ "java/lang/invoke/VarHandle" := by decide +kernel
theorem mAlt : ∀ m ∈ mA, m < pN := by decide +kernel
theorem mVlt : ∀ m ∈ mV, m ∈ mA ∧ pK m = 1 := by decide +kernel
theorem mPlt : ∀ m ∈ mP, m ∈ mA ∧ pK m = 1 := by decide +kernel
theorem mSlt : ∀ m ∈ mS, m ∈ mA := by decide +kernel
theorem mIlt : ∀ m ∈ mI, m ∈ mA ∧ pK m = 1 ∧ pNm m = "<init>" ∧ pRet m = none := by decide +kernel
theorem kOne : kName 1 = cName := rfl
set_option maxRecDepth 100000 in
theorem pChk0 : ∀ m, m < pN → ∀ pc, pc < pTop → (match pCode m pc with | some t => qchk m pc t.1 t.2 | none => true) = true := by decide +kernel
theorem pIn {m pc : Nat} {t : Instr × Nat} (h : pCode m pc = some t) : m < pN ∧ pc < pTop := by
  unfold pCode at h
  cases h1 : Nat.ble pN m with
  | true => rw [h1] at h; cases h
  | false =>
    cases h2 : Nat.ble pTop pc with
    | true => rw [h1, h2] at h; cases h
    | false => exact ⟨Nat.lt_of_not_le (fun q => by rw [Nat.ble_eq_true_of_le q] at h1; cases h1), Nat.lt_of_not_le (fun q => by rw [Nat.ble_eq_true_of_le q] at h2; cases h2)⟩
theorem pChk {m pc : Nat} {i : Instr} {aux : Nat} (h : pCode m pc = some (i, aux)) : qchk m pc i aux = true := by
  have q := pChk0 m (pIn h).1 pc (pIn h).2
  rw [h] at q
  exact q
theorem pDec {m pc : Nat} {i : Instr} {aux : Nat} (h : pCode m pc = some (i, aux)) : decode (pBytes m) pc = .ok (i, ilen i) := by
  have q := pChk h
  unfold qchk at q
  exact of_decide_eq_true (Bool.and_eq_true_iff.mp q).1
theorem pDecN {m pc n : Nat} {i : Instr} {aux : Nat} (h : pCode m pc = some (i, aux)) (hn : ilen i = n) : decode (pBytes m) pc = .ok (i, n) := by
  rw [← hn]; exact pDec h
theorem pRest {m pc : Nat} {i : Instr} {aux : Nat} (h : pCode m pc = some (i, aux)) : qlk m pc i aux = true := by
  have q := pChk h
  unfold qchk at q
  exact (Bool.and_eq_true_iff.mp q).2
theorem qtgt_spec {pc : Nat} {o : Int} {aux : Nat} (h : qtgt pc o aux = true) : 0 ≤ (pc : Int) + o ∧ ((pc : Int) + o).toNat = aux := by
  unfold qtgt at h
  have h2 := Bool.and_eq_true_iff.mp h
  exact ⟨of_decide_eq_true h2.1, of_decide_eq_true h2.2⟩
/-! ## triples -/
def QCx (Z : State) (p : Program) (R : Room) (s : State) (mid : MethodId) (meth : Method) (c : Code) (m : Nat) : Prop :=
  p.tables.exec = Jvm.exec ∧ Z.Warmed39 s.vm ∧ c.code = pBytes m ∧ c.maxLocals = pMaxL m ∧ meth.sig.returnType = pRet m ∧ s.vm.findClass (kName (pK m)) = some mid.cls ∧ meth.name = pNm m ∧ pFr m ≤ R.frames ∧ pLo m ≤ R.locals
def QTri (l : Launch) (Z : State) (n0 : Nat) (ad : Nat → Addr) (m : Nat) (st : QSt) (v : Option Value) (σ' : QHeap) : Prop :=
  st.2.2.2.length ≤ σ'.length ∧ qhs st.2.2.2 ≤ qhs σ' ∧
  ∀ (p : Program) (e : Env) (R : Room) (s : State) (mid : MethodId) (args : Array Value) (below : List Frame) (meth : Method) (c : Code) (T : State) (locs : List Loc) (cells slots : Nat) (C : Array Slot),
    QCx Z p R s mid meth c m → Stand p l e R s mid args below meth c T locs cells slots → QRep Z n0 ad T.heap st.2.2.2 → Fr n0 locs → QLocOk ad st.2.1 C → C.size = c.maxLocals →
    n0 + (st.2.2.2.length - k0) = s.heap.size + cells → cells + (σ'.length - st.2.2.2.length) ≤ R.cells → slots + (qhs σ' - qhs st.2.2.2) ≤ R.slots →
    ∃ T' locs', Stand p l e R s mid args below meth c T' locs' (cells + (σ'.length - st.2.2.2.length)) (slots + (qhs σ' - qhs st.2.2.2)) ∧ QRep Z n0 ad T'.heap σ' ∧ Fr n0 locs' ∧
      ∀ fs, (∀ (f : JFrame) (acts : List Action), f.method = mid → f.locked = none → f.entered = [] → (doReturn e (T'.setTop f) acts (v.map (qv ad))).1 = T'.setFrames fs) →
        Steps p.tables e below (T.setTop (mkF mid st.1 C (st.2.2.1.map (qv ad)))) (T'.setFrames fs)
section Triples
variable {l : Launch} {Z : State} {n0 : Nat} {ad : Nat → Addr} {a0 : Array Value} {m : Nat} {v : Option Value} {σ' : QHeap}
theorem QTri.gen {st st' : QSt} (h : QTri l Z n0 ad m st' v σ') (g1 : st.2.2.2.length ≤ st'.2.2.2.length) (g2 : qhs st.2.2.2 ≤ qhs st'.2.2.2)
    (hs : ∀ (p : Program) (e : Env) (R : Room) (s : State) (mid : MethodId) (args : Array Value) (below : List Frame) (meth : Method) (c : Code) (T : State) (locs : List Loc) (cells slots : Nat) (C : Array Slot),
      QCx Z p R s mid meth c m → Stand p l e R s mid args below meth c T locs cells slots → QRep Z n0 ad T.heap st.2.2.2 → Fr n0 locs → QLocOk ad st.2.1 C → C.size = c.maxLocals →
      n0 + (st.2.2.2.length - k0) = s.heap.size + cells → cells + (st'.2.2.2.length - st.2.2.2.length) ≤ R.cells → slots + (qhs st'.2.2.2 - qhs st.2.2.2) ≤ R.slots →
      ∃ T₁ locs₁ C₁, Stand p l e R s mid args below meth c T₁ locs₁ (cells + (st'.2.2.2.length - st.2.2.2.length)) (slots + (qhs st'.2.2.2 - qhs st.2.2.2)) ∧ QRep Z n0 ad T₁.heap st'.2.2.2 ∧ Fr n0 locs₁ ∧ QLocOk ad st'.2.1 C₁ ∧ C₁.size = c.maxLocals ∧
        ∀ target, Steps p.tables e below (T₁.setTop (mkF mid st'.1 C₁ (st'.2.2.1.map (qv ad)))) target → Steps p.tables e below (T.setTop (mkF mid st.1 C (st.2.2.1.map (qv ad)))) target) :
    QTri l Z n0 ad m st v σ' := by
  obtain ⟨h1, h2, h3⟩ := h
  refine ⟨Nat.le_trans g1 h1, Nat.le_trans g2 h2, fun p e R s mid args below meth c T locs cells slots C hcx X hR hF hL hC hn hc hsl => ?_⟩
  obtain ⟨T₁, locs₁, C₁, X₁, R₁, F₁, L₁, C1, S₁⟩ := hs p e R s mid args below meth c T locs cells slots C hcx X hR hF hL hC hn (by omega) (by omega)
  have hk := hR.1
  obtain ⟨T', locs', X', R', F', S'⟩ := h3 p e R s mid args below meth c T₁ locs₁ _ _ C₁ hcx X₁ R₁ F₁ L₁ C1 (by omega) (by omega) (by omega)
  have e1 : cells + (st'.2.2.2.length - st.2.2.2.length) + (σ'.length - st'.2.2.2.length) = cells + (σ'.length - st.2.2.2.length) := by omega
  have e2 : slots + (qhs st'.2.2.2 - qhs st.2.2.2) + (qhs σ' - qhs st'.2.2.2) = slots + (qhs σ' - qhs st.2.2.2) := by omega
  rw [e1, e2] at X'
  exact ⟨T', locs', X', R', F', fun fs hf => S₁ _ (S' fs hf)⟩
theorem QTri.pure {st st' : QSt} (h : QTri l Z n0 ad m st' v σ') (hσ : st'.2.2.2 = st.2.2.2)
    (hs : ∀ (p : Program) (e : Env) (R : Room) (s : State) (mid : MethodId) (args : Array Value) (below : List Frame) (meth : Method) (c : Code) (T : State) (locs : List Loc) (cells slots : Nat) (C : Array Slot),
      QCx Z p R s mid meth c m → Stand p l e R s mid args below meth c T locs cells slots → QRep Z n0 ad T.heap st.2.2.2 → QLocOk ad st.2.1 C → C.size = c.maxLocals →
      ∃ T₁ C₁, Stand p l e R s mid args below meth c T₁ locs cells slots ∧ T₁.heap = T.heap ∧ QLocOk ad st'.2.1 C₁ ∧ C₁.size = c.maxLocals ∧
        ∀ target, Steps p.tables e below (T₁.setTop (mkF mid st'.1 C₁ (st'.2.2.1.map (qv ad)))) target → Steps p.tables e below (T.setTop (mkF mid st.1 C (st.2.2.1.map (qv ad)))) target) :
    QTri l Z n0 ad m st v σ' := by
  refine QTri.gen h (by rw [hσ]; exact Nat.le_refl _) (by rw [hσ]; exact Nat.le_refl _) fun p e R s mid args below meth c T locs cells slots C hcx X hR hF hL hC hn hc hsl => ?_
  obtain ⟨T₁, C₁, X₁, hh, L₁, C1, S₁⟩ := hs p e R s mid args below meth c T locs cells slots C hcx X hR hL hC
  refine ⟨T₁, locs, C₁, ?_, by rw [hσ, hh]; exact hR, hF, L₁, C1, S₁⟩
  rw [hσ, Nat.sub_self, Nat.sub_self]
  exact X₁
/-- a step of the frame alone -/
theorem QTri.frame {pc pc' : Nat} {L L' : QLoc} {S S' : List Value} {σ : QHeap} (h : QTri l Z n0 ad m (pc', L', S', σ) v σ')
    (hs : ∀ (p : Program) (e : Env) (R : Room) (s : State) (mid : MethodId) (args : Array Value) (below : List Frame) (meth : Method) (c : Code) (T : State) (locs : List Loc) (cells slots : Nat) (C : Array Slot),
      QCx Z p R s mid meth c m → Stand p l e R s mid args below meth c T locs cells slots → QRep Z n0 ad T.heap σ → QLocOk ad L C → C.size = c.maxLocals →
      ∃ C₁, QLocOk ad L' C₁ ∧ C₁.size = c.maxLocals ∧ ∀ target, Steps p.tables e below (T.setTop (mkF mid pc' C₁ (S'.map (qv ad)))) target → Steps p.tables e below (T.setTop (mkF mid pc C (S.map (qv ad)))) target) :
    QTri l Z n0 ad m (pc, L, S, σ) v σ' :=
  QTri.pure h rfl fun p e R s mid args below meth c T locs cells slots C hcx X hR hL hC => by
    obtain ⟨C₁, h1, h2, h3⟩ := hs p e R s mid args below meth c T locs cells slots C hcx X hR hL hC
    exact ⟨T, C₁, X, rfl, h1, h2, h3⟩
/-- a step of pc and stack alone -/
theorem QTri.stack {pc pc' : Nat} {L : QLoc} {S S' : List Value} {σ : QHeap} (h : QTri l Z n0 ad m (pc', L, S', σ) v σ')
    (hs : ∀ (p : Program) (e : Env) (R : Room) (s : State) (mid : MethodId) (args : Array Value) (below : List Frame) (meth : Method) (c : Code) (T : State) (locs : List Loc) (cells slots : Nat) (C : Array Slot) (target : State),
      p.tables.exec = Jvm.exec → Z.Warmed39 s.vm → c.code = pBytes m → s.vm.findClass (kName (pK m)) = some mid.cls → Stand p l e R s mid args below meth c T locs cells slots → QRep Z n0 ad T.heap σ → QLocOk ad L C →
      Steps p.tables e below (T.setTop (mkF mid pc' C (S'.map (qv ad)))) target → Steps p.tables e below (T.setTop (mkF mid pc C (S.map (qv ad)))) target) :
    QTri l Z n0 ad m (pc, L, S, σ) v σ' :=
  QTri.frame h fun p e R s mid args below meth c T locs cells slots C hcx X hR hL hC => ⟨C, hL, hC, fun target k => hs p e R s mid args below meth c T locs cells slots C target hcx.1 hcx.2.1 hcx.2.2.1 hcx.2.2.2.2.2.1 X hR hL k⟩
/-! ### what each helper says -/
theorem qload_inv {pc : Nat} {L : QLoc} {S : List Value} {σ : QHeap} {k : Nat} {ok : Value → Bool} {st' : QSt} (h : qload pc L S σ k ok = some st') : ∃ v, lget L k = some v ∧ ok v = true ∧ st' = (pc, L, v :: S, σ) := by
  unfold qload at h
  split at h
  · rename_i v hv
    cases ho : ok v with
    | true => rw [ho] at h; cases h; exact ⟨v, hv, ho, rfl⟩
    | false => rw [ho] at h; cases h
  · cases h
theorem qstore_inv {pc : Nat} {L : QLoc} {S : List Value} {σ : QHeap} {k : Nat} {ok : Value → Bool} {st' : QSt} (h : qstore pc L S σ k ok = some st') : ∃ v S' L', S = v :: S' ∧ ok v = true ∧ lput L k v = some L' ∧ st' = (pc, L', S', σ) := by
  unfold qstore at h
  split at h
  · rename_i v S'
    cases ho : ok v with
    | true =>
      rw [ho] at h
      simp only [cond_true] at h
      split at h
      · rename_i L' hL'
        cases h; exact ⟨v, S', L', rfl, ho, hL', rfl⟩
      · cases h
    | false => rw [ho] at h; cases h
  · cases h
theorem qbin_inv {pc : Nat} {L : QLoc} {S : List Value} {σ : QHeap} {f : Int32 → Int32 → Int32} {st' : QSt} (h : qbin pc L S σ f = some st') : ∃ x y S', S = .int y :: .int x :: S' ∧ st' = (pc, L, .int (f x y) :: S', σ) := by
  unfold qbin at h
  split at h
  · cases h; exact ⟨_, _, _, rfl, rfl⟩
  · cases h
theorem qbino_inv {pc : Nat} {L : QLoc} {S : List Value} {σ : QHeap} {f : Int32 → Int32 → Option Int32} {st' : QSt} (h : qbino pc L S σ f = some st') : ∃ x y z S', S = .int y :: .int x :: S' ∧ f x y = some z ∧ st' = (pc, L, .int z :: S', σ) := by
  unfold qbino at h
  split at h
  · obtain ⟨z, hz, h⟩ := Option.bind_eq_some_iff.mp h
    cases h; exact ⟨_, _, _, _, rfl, hz, rfl⟩
  · cases h
theorem qbinJ_inv {pc : Nat} {L : QLoc} {S : List Value} {σ : QHeap} {f : Int64 → Int64 → Int64} {st' : QSt} (h : qbinJ pc L S σ f = some st') : ∃ x y S', S = .long y :: .long x :: S' ∧ st' = (pc, L, .long (f x y) :: S', σ) := by
  unfold qbinJ at h
  split at h
  · cases h; exact ⟨_, _, _, rfl, rfl⟩
  · cases h
theorem qshJ_inv {pc : Nat} {L : QLoc} {S : List Value} {σ : QHeap} {f : Int64 → Int32 → Int64} {st' : QSt} (h : qshJ pc L S σ f = some st') : ∃ x y S', S = .int y :: .long x :: S' ∧ st' = (pc, L, .long (f x y) :: S', σ) := by
  unfold qshJ at h
  split at h
  · cases h; exact ⟨_, _, _, rfl, rfl⟩
  · cases h
theorem quni_inv {pc : Nat} {L : QLoc} {S : List Value} {σ : QHeap} {f : Int32 → Value} {st' : QSt} (h : quni pc L S σ f = some st') : ∃ x S', S = .int x :: S' ∧ st' = (pc, L, f x :: S', σ) := by
  unfold quni at h
  split at h
  · cases h; exact ⟨_, _, rfl, rfl⟩
  · cases h
theorem quniJ_inv {pc : Nat} {L : QLoc} {S : List Value} {σ : QHeap} {f : Int64 → Value} {st' : QSt} (h : quniJ pc L S σ f = some st') : ∃ x S', S = .long x :: S' ∧ st' = (pc, L, f x :: S', σ) := by
  unfold quniJ at h
  split at h
  · cases h; exact ⟨_, _, rfl, rfl⟩
  · cases h
theorem qif_inv {pc : Nat} {L : QLoc} {S : List Value} {σ : QHeap} {cd : ClassFile.Cond} {t : Nat} {st' : QSt} (h : qif pc L S σ cd t = some st') : ∃ x S', S = .int x :: S' ∧ st' = (bif ifCond.holds cd x then t else pc, L, S', σ) := by
  unfold qif at h
  split at h
  · cases h; exact ⟨_, _, rfl, rfl⟩
  · cases h
theorem qicmp_inv {pc : Nat} {L : QLoc} {S : List Value} {σ : QHeap} {cd : ClassFile.Cond} {t : Nat} {st' : QSt} (h : qicmp pc L S σ cd t = some st') : ∃ x y S', S = .int y :: .int x :: S' ∧ st' = (bif if_icmp.holds cd x y then t else pc, L, S', σ) := by
  unfold qicmp at h
  split at h
  · cases h; exact ⟨_, _, _, rfl, rfl⟩
  · cases h
theorem qget_inv {pc : Nat} {L : QLoc} {S : List Value} {σ : QHeap} {k : Nat} {st' : QSt} (h : qget pc L S σ k = some st') : ∃ a S' vs v, S = .ref a :: S' ∧ hget σ a = some (.inl vs) ∧ vget vs k = some v ∧ st' = (pc, L, v :: S', σ) := by
  unfold qget at h
  split at h
  · split at h
    · split at h
      · cases h; exact ⟨_, _, _, _, rfl, by assumption, by assumption, rfl⟩
      · cases h
    · cases h
  · cases h
theorem qput_inv {pc : Nat} {L : QLoc} {S : List Value} {σ : QHeap} {k : Nat} {st' : QSt} (h : qput pc L S σ k = some st') : ∃ v a S' vs w, S = v :: .ref a :: S' ∧ hget σ a = some (.inl vs) ∧ k0 ≤ a ∧ k < vs.length ∧ qfit (fTy k) v = some w ∧ st' = (pc, L, S', σ.set a (.inl (vs.set k w))) := by
  unfold qput at h
  split at h
  · rename_i v a S'
    split at h
    · rename_i vs hvs
      cases hbb : (Nat.ble k0 a && Nat.ble (k + 1) vs.length) with
      | false => rw [hbb] at h; cases h
      | true =>
        rw [hbb] at h
        simp only [cond_true] at h
        obtain ⟨u, hu, h⟩ := Option.bind_eq_some_iff.mp h
        cases h
        obtain ⟨b1, b2⟩ := Bool.and_eq_true_iff.mp hbb
        exact ⟨v, a, S', vs, u, rfl, hvs, Nat.le_of_ble_eq_true b1, Nat.le_of_ble_eq_true b2, hu, rfl⟩
    · cases h
  · cases h
theorem qald_inv {pc : Nat} {L : QLoc} {S : List Value} {σ : QHeap} {ok : FieldType → Bool} {st' : QSt} (h : qald pc L S σ ok = some st') : ∃ j a S' ty xs v, S = .int j :: .ref a :: S' ∧ hget σ a = some (.inr (.inl (ty, xs))) ∧ ok ty = true ∧ aget xs j = some v ∧ st' = (pc, L, .int v :: S', σ) := by
  unfold qald at h
  split at h
  · rename_i j a S'
    split at h
    · rename_i x hx
      cases ht : ok x.1 with
      | false => rw [ht] at h; cases h
      | true =>
        rw [ht] at h
        simp only [cond_true] at h
        obtain ⟨u, hu, h⟩ := Option.bind_eq_some_iff.mp h
        cases h
        exact ⟨j, a, S', x.1, x.2, u, rfl, hx, ht, hu, rfl⟩
    · cases h
  · cases h
theorem qaldJ_inv {pc : Nat} {L : QLoc} {S : List Value} {σ : QHeap} {st' : QSt} (h : qaldJ pc L S σ = some st') : ∃ j a S' xs v, S = .int j :: .ref a :: S' ∧ hget σ a = some (.inr (.inr xs)) ∧ aget xs j = some v ∧ st' = (pc, L, .long v :: S', σ) := by
  unfold qaldJ at h
  split at h
  · rename_i j a S'
    split at h
    · rename_i x hx
      obtain ⟨u, hu, h⟩ := Option.bind_eq_some_iff.mp h
      cases h
      exact ⟨j, a, S', x, u, rfl, hx, hu, rfl⟩
    · cases h
  · cases h
theorem qast_inv {pc : Nat} {L : QLoc} {S : List Value} {σ : QHeap} {ok : FieldType → Bool} {st' : QSt} (h : qast pc L S σ ok = some st') : ∃ v j a S' ty xs ys, S = .int v :: .int j :: .ref a :: S' ∧ hget σ a = some (.inr (.inl (ty, xs))) ∧ ok ty = true ∧ k0 ≤ a ∧ aset xs j (qnar ty v) = some ys ∧ st' = (pc, L, S', σ.set a (.inr (.inl (ty, ys)))) := by
  unfold qast at h
  split at h
  · rename_i v j a S'
    split at h
    · rename_i x hx
      cases ht : (ok x.1 && Nat.ble k0 a) with
      | false => rw [ht] at h; cases h
      | true =>
        rw [ht] at h
        simp only [cond_true] at h
        obtain ⟨u, hu, h⟩ := Option.bind_eq_some_iff.mp h
        cases h
        obtain ⟨b1, b2⟩ := Bool.and_eq_true_iff.mp ht
        exact ⟨v, j, a, S', x.1, x.2, u, rfl, hx, b1, Nat.le_of_ble_eq_true b2, hu, rfl⟩
    · cases h
  · cases h
theorem qastJ_inv {pc : Nat} {L : QLoc} {S : List Value} {σ : QHeap} {st' : QSt} (h : qastJ pc L S σ = some st') : ∃ v j a S' xs ys, S = .long v :: .int j :: .ref a :: S' ∧ hget σ a = some (.inr (.inr xs)) ∧ k0 ≤ a ∧ aset xs j v = some ys ∧ st' = (pc, L, S', σ.set a (.inr (.inr ys))) := by
  unfold qastJ at h
  split at h
  · rename_i v j a S'
    split at h
    · rename_i x hx
      cases ht : (Nat.ble k0 a) with
      | false => rw [ht] at h; cases h
      | true =>
        rw [ht] at h
        simp only [cond_true] at h
        obtain ⟨u, hu, h⟩ := Option.bind_eq_some_iff.mp h
        cases h
        exact ⟨v, j, a, S', x, u, rfl, hx, Nat.le_of_ble_eq_true ht, hu, rfl⟩
    · cases h
  · cases h
theorem qlen_inv {pc : Nat} {L : QLoc} {S : List Value} {σ : QHeap} {st' : QSt} (h : qlen pc L S σ = some st') : ∃ a S' n, S = .ref a :: S' ∧ ((∃ ty xs, hget σ a = some (.inr (.inl (ty, xs))) ∧ n = xs.length) ∨ ∃ xs, hget σ a = some (.inr (.inr xs)) ∧ n = xs.length) ∧ st' = (pc, L, .int n.toInt32 :: S', σ) := by
  unfold qlen at h
  split at h
  · rename_i a S'
    split at h
    · rename_i x hx
      cases h; exact ⟨a, S', _, rfl, Or.inl ⟨x.1, x.2, hx, rfl⟩, rfl⟩
    · rename_i x hx
      cases h; exact ⟨a, S', _, rfl, Or.inr ⟨x, hx, rfl⟩, rfl⟩
    · cases h
  · cases h
theorem isI_inv {v : Value} (h : isI v = true) : ∃ x, v = .int x := by cases v <;> simp [isI] at h; exact ⟨_, rfl⟩
theorem isJ_inv {v : Value} (h : isJ v = true) : ∃ x, v = .long x := by cases v <;> simp [isJ] at h; exact ⟨_, rfl⟩
theorem isR_inv {v : Value} (h : isR v = true) : ∃ x, v = .ref x := by cases v <;> simp [isR] at h; exact ⟨_, rfl⟩
theorem aget_inv {α : Type} {xs : List α} {j : Int32} {x : α} (h : aget xs j = some x) : ¬ j < 0 ∧ xs[j.toNatClampNeg]? = some x := by
  unfold aget at h
  split at h
  · cases h
  · rename_i q; exact ⟨q, h⟩
theorem aset_inv {α : Type} {xs ys : List α} {j : Int32} {x : α} (h : aset xs j x = some ys) : ¬ j < 0 ∧ j.toNatClampNeg < xs.length ∧ ys = xs.set j.toNatClampNeg x := by
  unfold aset at h
  split at h
  · cases h
  · rename_i q
    split at h
    · rename_i q2; cases h; exact ⟨q, q2, rfl⟩
    · cases h
theorem qnew_inv {n : Int32} {k : Nat} (h : qnew n = some k) : ¬ n < 0 ∧ n.toNatClampNeg = k ∧ k ≤ 67108864 := by
  unfold qnew at h
  split at h
  · cases h
  · rename_i q
    split at h
    · rename_i q2; cases h; exact ⟨q, rfl, q2⟩
    · cases h
/-! ### the heap's facts over a step -/
theorem QCellOk.other {h h' : Heap} {a b : Addr} {sl : Nat} {w : Value} {c : QCell} (H : QCellOk Z ad h b c) (W : Wr h h' a sl w) (ne : b ≠ a) : QCellOk Z ad h' b c := by
  rcases c with vs | ⟨ty, xs⟩ | xs
  · obtain ⟨h1, h2, h3⟩ := H
    exact ⟨h1.wr W, h2, fun k u hk hu => (h3 k u hk hu).other W (Or.inl ne)⟩
  · obtain ⟨c, h1, h2⟩ := H
    exact ⟨c, h1.other W ne, h2⟩
  · obtain ⟨c, h1, h2⟩ := H
    exact ⟨c, h1.other W ne, h2⟩
theorem QCellOk.ext {h h' : Heap} {b : Addr} {c : QCell} (H : QCellOk Z ad h b c) (E : Ext h h') : QCellOk Z ad h' b c := by
  rcases c with vs | ⟨ty, xs⟩ | xs
  · obtain ⟨h1, h2, h3⟩ := H
    exact ⟨h1.ext E, h2, fun k u hk hu => (h3 k u hk hu).ext E⟩
  · obtain ⟨c, h1, h2⟩ := H
    exact ⟨c, h1.ext E, h2⟩
  · obtain ⟨c, h1, h2⟩ := H
    exact ⟨c, h1.ext E, h2⟩
theorem QRep.set {h h' : Heap} {σ : QHeap} {a : Nat} {sl : Nat} {w : Value} {c d : QCell} (H : QRep Z n0 ad h σ) (Ad : QAd n0 ad) (W : Wr h h' (ad a) sl w) (hc : hget σ a = some c) (hd : QCellOk Z ad h' (ad a) d) : QRep Z n0 ad h' (σ.set a d) := by
  obtain ⟨h1, h2, h3⟩ := H
  refine ⟨by simpa using h1, by rw [W.size, h2]; simp, fun k e he => ?_⟩
  rw [hget_set hc] at he
  split at he
  · rename_i q; cases he; rw [q]; exact hd
  · rename_i q; exact (h3 k e he).other W fun z => q (Ad.2 _ _ z)
theorem QRep.push {h h' : Heap} {σ : QHeap} {c : QCell} (H : QRep Z n0 ad h σ) (Ad : QAd n0 ad) (E : Ext h h') (hs : h'.size = h.size + 1) (hc : QCellOk Z ad h' h.size c) : QRep Z n0 ad h' (σ ++ [c]) := by
  obtain ⟨h1, h2, h3⟩ := H
  refine ⟨by simp; omega, by rw [hs, h2]; simp; omega, fun k e he => ?_⟩
  rw [hget_eq] at he
  rcases Nat.lt_or_ge k σ.length with q | q
  · rw [List.getElem?_append_left q, ← hget_eq] at he
    exact (h3 k e he).ext E
  · rw [List.getElem?_append_right q] at he
    obtain rfl : k = σ.length := by
      rcases Nat.lt_or_ge (k - σ.length) 1 with z | z
      · omega
      · rw [List.getElem?_eq_none (by simpa using z)] at he; cases he
    simp at he
    rw [← he, Ad.1 _ h1, ← h2]
    exact hc
theorem mem_of_contains {α : Type} [BEq α] [LawfulBEq α] {L : List α} {a : α} (h : L.contains a = true) : a ∈ L := by simpa using h
theorem lkF_lt : ∀ t ∈ lkF, t.2.2 < nF := by decide +kernel
theorem laid_of (W : QW Z a0) {k : Nat} (hk : k < nF) : Laid Z a0 cName cName (fNm k) (fDs k) := by
  have q := (qw_lay W) k hk
  cases hf : fFin k with
  | true => rw [hf] at q; exact Or.inr q
  | false => rw [hf] at q; exact Or.inl q
theorem qfit_inv {ty : FieldType} {v w : Value} (h : qfit ty v = some w) : v = w ∧ narrow ty (qv ad w) = qv ad w ∧ fits ty (qv ad w) = true := by
  unfold qfit at h
  split at h
  · cases h; exact ⟨rfl, rfl, rfl⟩
  · rename_i x
    obtain ⟨y, hy, h⟩ := Option.bind_eq_some_iff.mp h
    cases h
    unfold qboo at hy
    split at hy
    · rename_i e; cases hy; subst e; exact ⟨rfl, rfl, rfl⟩
    · split at hy
      · rename_i e; cases hy; subst e; exact ⟨rfl, rfl, rfl⟩
      · cases hy
  · cases h; exact ⟨rfl, rfl, rfl⟩
  · cases h; exact ⟨rfl, rfl, rfl⟩
  · cases h
theorem vget_set {vs : List Value} {k j : Nat} {w : Value} (hk : k < vs.length) : vget (vs.set k w) j = if j = k then some w else vget vs j := by
  simp only [vget_eq, List.getElem?_set]
  by_cases e : k = j
  · subst e; simp [hk]
  · simp [e, Ne.symm e]
theorem ald_in {α : Type} {f : α → Value} {xs : List α} {c : Cell} {j : Int32} {x : α} (hc : c.slots = (xs.map f).toArray) (h : aget xs j = some x) : ¬ (j < 0 ∨ c.slots.size ≤ j.toNatClampNeg) ∧ c.slots[j.toNatClampNeg]? = some (f x) := by
  obtain ⟨h1, h2⟩ := aget_inv h
  have h3 := (List.getElem?_eq_some_iff.mp h2).1
  refine ⟨fun q => ?_, by rw [hc]; simp [h2]⟩
  rcases q with q | q
  · exact h1 q
  · rw [hc] at q; simp at q; omega
theorem ast_in {α : Type} {f : α → Value} {xs ys : List α} {c : Cell} {j : Int32} {x : α} (hc : c.slots = (xs.map f).toArray) (h : aset xs j x = some ys) : ¬ (j < 0 ∨ c.slots.size ≤ j.toNatClampNeg) ∧ (c.setSlot j.toNatClampNeg (f x)).slots = (ys.map f).toArray := by
  obtain ⟨h1, h2, rfl⟩ := aset_inv h
  refine ⟨fun q => ?_, by simp [Cell.setSlot, hc, List.map_set]⟩
  rcases q with q | q
  · exact h1 q
  · rw [hc] at q; simp at q; omega
theorem qgrow {σ : QHeap} {c : QCell} : qhs (σ ++ [c]) - qhs σ = qsz c := by rw [qhs_app]; simp [qhs]
set_option maxHeartbeats 4000000 in
theorem QTri.newArr (Ad : QAd n0 ad) (W : QW Z a0) {pc aux : Nat} {L : QLoc} {S : List Value} {σ : QHeap} {aty : ArrayType} {n : Int32} {k : Nat} {c : QCell} (hk : qnew n = some k) (hc : pCode m pc = some (.newarray aty, aux)) (hz : qsz c = k)
    (hq : ∀ (h' : Heap) (a : Addr) (cA : ClassId), Arr Z h' a (newA cA (newarray.typeOf aty) n) (newarray.typeOf aty) → QCellOk Z ad h' a c)
    (h : QTri l Z n0 ad m (pc + 2, L, .ref σ.length :: S, σ ++ [c]) v σ') : QTri l Z n0 ad m (pc, L, .int n :: S, σ) v σ' := by
  have hd : decode (pBytes m) pc = .ok (.newarray aty, 2) := pDecN hc rfl
  obtain ⟨n1, n2, n3⟩ := qnew_inv hk
  refine QTri.gen h (by simp) (by simp [qhs_app]) fun p e R s mid args below meth c' T locs cells slots C hcx X hR hF hL hC hn hc1 hsl => ?_
  obtain ⟨hx, hZ, hby, hml, hret, hown, hnm, hfr, hlo⟩ := hcx
  have hd2 : decode c'.code pc = .ok (.newarray aty, 2) := by rw [hby]; exact hd
  simp only [List.length_append, List.length_singleton, Nat.add_sub_cancel_left, qgrow, hz] at hc1 hsl ⊢
  obtain ⟨T₁, h₁, cA, X₁, e₁, E₁, A₁, st⟩ := newP X hx hZ (aty := aty) (qw_arr W (newarray.typeOf aty) (mem_of_contains (show aTys.contains (newarray.typeOf aty) = true from pRest hc))) rfl (g := mkF mid pc C (.int n :: S.map (qv ad))) rfl hd2 rfl n1 (cap := k) (by omega) (by omega) hc1 hsl
  have hsz : h₁.size = T.heap.size + 1 := by
    have q1 := X₁.heapSize
    have q2 : T.heap.size < h₁.size := A₁.lt
    have q3 := hR.2.1
    rw [e₁] at q1
    have : n0 + (σ.length - k0) = s.heap.size + cells := hn
    have q3' : T.heap.size = n0 + (σ.length - k0) := q3
    omega
  refine ⟨T₁, locs, C, X₁, ?_, hF, hL, hC, fun target q => ?_⟩
  · rw [e₁]; exact QRep.push hR Ad E₁ hsz (hq _ _ _ A₁)
  · refine st _ ?_
    have e2 : ad σ.length = T.heap.size := by rw [Ad.1 _ hR.1]; exact hR.2.1.symm
    simp only [List.map_cons, qv, e2] at q
    exact q
set_option maxHeartbeats 4000000 in
theorem QTri.getfield (W : QW Z a0) {pc idx aux : Nat} {L : QLoc} {S : List Value} {σ : QHeap} {st' : QSt} (h : QTri l Z n0 ad m st' v σ') (hc : pCode m pc = some (.getfield idx, aux)) (hs : qget (pc + 3) L S σ aux = some st') : QTri l Z n0 ad m (pc, L, S, σ) v σ' := by
  have hd : decode (pBytes m) pc = .ok (.getfield idx, 3) := pDecN hc rfl
  obtain ⟨a, S', vs, w, rfl, hvs, hw, rfl⟩ := qget_inv hs
  have hm := mem_of_contains (show lkF.contains (pK m, idx, aux) = true from pRest hc)
  have hlt := lkF_lt _ hm
  refine QTri.pure h rfl fun p e R s mid args below meth c T locs cells slots C hcx X hR hL hC => ?_
  obtain ⟨hx, hZ, hby, hml, hret, hown, hnm, hfr, hlo⟩ := hcx
  have hd2 : decode c.code pc = .ok (.getfield idx, 3) := by rw [hby]; exact hd
  have F := (hR.2.2 _ _ hvs).2.2 aux w hlt hw
  obtain ⟨T₁, X₁, e₁, st⟩ := getF X hx hZ hown (host := "") (index := idx) (Or.inl (qw_fl W (pK m, idx, aux) hm)) Via.refl rfl F (g := mkF mid pc C (List.map (qv ad) (.ref a :: S'))) rfl rfl hd2
  exact ⟨T₁, C, X₁, e₁, hL, hC, st⟩
set_option maxHeartbeats 4000000 in
theorem QTri.putfield (Ad : QAd n0 ad) (W : QW Z a0) {pc idx aux : Nat} {L : QLoc} {S : List Value} {σ : QHeap} {st' : QSt} (h : QTri l Z n0 ad m st' v σ') (hc : pCode m pc = some (.putfield idx, aux)) (hs : qput (pc + 3) L S σ aux = some st') : QTri l Z n0 ad m (pc, L, S, σ) v σ' := by
  have hd : decode (pBytes m) pc = .ok (.putfield idx, 3) := pDecN hc rfl
  obtain ⟨w, a, S', vs, u, rfl, hvs, b1, b2, hu, rfl⟩ := qput_inv hs
  obtain ⟨r1, r2⟩ := Bool.and_eq_true_iff.mp (show (lkF.contains (pK m, idx, aux) && (!fFin aux || (pK m == 1 && pNm m == "<init>"))) = true from pRest hc)
  have hm := mem_of_contains r1
  have hlt := lkF_lt _ hm
  obtain ⟨rfl, q2, q3⟩ := qfit_inv (ad := ad) hu
  have hsz : qhs (σ.set a (Sum.inl (vs.set aux w))) = qhs σ := qhs_set hvs rfl
  refine QTri.gen h (by simp) (by show qhs σ ≤ qhs (σ.set a (Sum.inl (vs.set aux w))); rw [hsz]; exact Nat.le_refl _) fun p e R s mid args below meth c T locs cells slots C hcx X hR hF hL hC hn hc1 hsl => ?_
  obtain ⟨hx, hZ, hby, hml, hret, hown, hnm, hfr, hlo⟩ := hcx
  have hd2 : decode c.code pc = .ok (.putfield idx, 3) := by rw [hby]; exact hd
  obtain ⟨E, l1, Fs⟩ := hR.2.2 _ _ hvs
  obtain ⟨old, hold⟩ : ∃ old, vget vs aux = some old := by rw [vget_eq]; exact ⟨_, List.getElem?_eq_getElem b2⟩
  have lay : (Cond.lays cName cName (fNm aux) (fDs aux)).before a0 Z = true ∨ ((Cond.laysFinal cName cName (fNm aux) (fDs aux)).before a0 Z = true ∧ kName (pK m) = cName ∧ meth.name = "<init>") := by
    have q := (qw_lay W) aux hlt
    cases hf : fFin aux with
    | false => rw [hf] at q; exact Or.inl q
    | true =>
      rw [hf] at q r2
      simp at r2
      exact Or.inr ⟨q, by rw [r2.1]; exact kOne, by rw [hnm]; exact r2.2⟩
  obtain ⟨T₁, h₁, X₁, e₁, W₁, st⟩ := putF X hx hZ hown (host := "") (index := idx) (Or.inl (qw_fl W (pK m, idx, aux) hm)) Via.refl rfl (Fs aux old hlt hold) E lay ((qw_inst W)) (fPrs aux hlt) q2 q3 (g := mkF mid pc C (List.map (qv ad) (w :: .ref a :: S'))) rfl rfl hd2
  refine ⟨T₁, _, C, ?_, ?_, Fr.snoc X₁ hF (by rw [Ad.1 a b1]; exact Nat.le_add_right _ _), hL, hC, st⟩
  · show Stand _ _ _ _ _ _ _ _ _ _ _ _ (cells + ((σ.set a (Sum.inl (vs.set aux w))).length - σ.length)) (slots + (qhs (σ.set a (Sum.inl (vs.set aux w))) - qhs σ))
    rw [hsz, Nat.sub_self, List.length_set, Nat.sub_self]
    exact X₁
  · rw [e₁]
    refine QRep.set hR Ad W₁ hvs ⟨E.wr W₁, by simpa using l1, fun k u hk hu => ?_⟩
    rw [vget_set b2] at hu
    split at hu
    · rename_i e; cases hu; rw [e]; exact (Fs aux old hlt hold).same W₁
    · rename_i ne
      exact (Fs k u hk hu).other W₁ (Or.inr (slot_ne (laid_of W hk) (laid_of W hlt) (fun z => ne (fInj _ hk _ hlt z)) (fPrs _ hk) (fPrs _ hlt)))
theorem tyI_inv {ty : FieldType} (h : tyI ty = true) : ty = .int := by cases ty <;> simp [tyI] at h; rfl
theorem tyB_inv {ty : FieldType} (h : tyB ty = true) : ty = .boolean ∨ ty = .byte := by cases ty <;> simp [tyB] at h <;> simp
set_option maxHeartbeats 4000000 in
theorem QTri.iaload {pc aux : Nat} {L : QLoc} {S : List Value} {σ : QHeap} {st' : QSt} (h : QTri l Z n0 ad m st' v σ') (hc : pCode m pc = some (.iaload, aux)) (hs : qald (pc + 1) L S σ tyI = some st') : QTri l Z n0 ad m (pc, L, S, σ) v σ' := by
  have hd : decode (pBytes m) pc = .ok (.iaload, 1) := pDecN hc rfl
  obtain ⟨j, a, S', ty, xs, w, rfl, hx1, ht, hw, rfl⟩ := qald_inv hs
  obtain rfl := tyI_inv ht
  refine QTri.stack h fun p e R s mid args below meth c T locs cells slots C target hx hZ hby hown X hR hL k => ?_
  have hd2 : decode c.code pc = .ok (.iaload, 1) := by rw [hby]; exact hd
  obtain ⟨cl, A, hsl⟩ := hR.2.2 _ _ hx1
  obtain ⟨i1, i2⟩ := ald_in hsl hw
  exact X.iaload hx A.1 (State.isArrayOf_alike hZ.alike A.2.1) A.2.2 i1 i2 (g := mkF mid pc C (List.map (qv ad) (.int j :: .ref a :: S'))) rfl rfl hd2 _ k
set_option maxHeartbeats 4000000 in
theorem QTri.baload {pc aux : Nat} {L : QLoc} {S : List Value} {σ : QHeap} {st' : QSt} (h : QTri l Z n0 ad m st' v σ') (hc : pCode m pc = some (.baload, aux)) (hs : qald (pc + 1) L S σ tyB = some st') : QTri l Z n0 ad m (pc, L, S, σ) v σ' := by
  have hd : decode (pBytes m) pc = .ok (.baload, 1) := pDecN hc rfl
  obtain ⟨j, a, S', ty, xs, w, rfl, hx1, ht, hw, rfl⟩ := qald_inv hs
  refine QTri.stack h fun p e R s mid args below meth c T locs cells slots C target hx hZ hby hown X hR hL k => ?_
  have hd2 : decode c.code pc = .ok (.baload, 1) := by rw [hby]; exact hd
  obtain ⟨cl, A, hsl⟩ := hR.2.2 _ _ hx1
  obtain ⟨i1, i2⟩ := ald_in hsl hw
  rcases tyB_inv ht with rfl | rfl
  · exact X.baloadBooleans hx A.1 (State.isArrayOf_alike hZ.alike A.2.1) A.2.2 i1 i2 (g := mkF mid pc C (List.map (qv ad) (.int j :: .ref a :: S'))) rfl rfl hd2 _ k
  · exact X.baloadBytes hx A.1 (State.isArrayOf_alike hZ.alike A.2.1) A.2.2 i1 i2 (g := mkF mid pc C (List.map (qv ad) (.int j :: .ref a :: S'))) rfl rfl hd2 _ k
set_option maxHeartbeats 4000000 in
theorem QTri.laload {pc aux : Nat} {L : QLoc} {S : List Value} {σ : QHeap} {st' : QSt} (h : QTri l Z n0 ad m st' v σ') (hc : pCode m pc = some (.laload, aux)) (hs : qaldJ (pc + 1) L S σ = some st') : QTri l Z n0 ad m (pc, L, S, σ) v σ' := by
  have hd : decode (pBytes m) pc = .ok (.laload, 1) := pDecN hc rfl
  obtain ⟨j, a, S', xs, w, rfl, hx1, hw, rfl⟩ := qaldJ_inv hs
  refine QTri.stack h fun p e R s mid args below meth c T locs cells slots C target hx hZ hby hown X hR hL k => ?_
  have hd2 : decode c.code pc = .ok (.laload, 1) := by rw [hby]; exact hd
  obtain ⟨cl, A, hsl⟩ := hR.2.2 _ _ hx1
  obtain ⟨i1, i2⟩ := ald_in hsl hw
  exact X.laload hx A.1 (State.isArrayOf_alike hZ.alike A.2.1) A.2.2 i1 i2 (g := mkF mid pc C (List.map (qv ad) (.int j :: .ref a :: S'))) rfl rfl hd2 _ k
/-- behind a store into an array -/
theorem QTri.stored (Ad : QAd n0 ad) {pc : Nat} {L : QLoc} {S S' : List Value} {σ : QHeap} {a j : Nat} {w : Value} {c d : QCell} (hx1 : hget σ a = some c) (b1 : k0 ≤ a) (hz : qsz d = qsz c) (h : QTri l Z n0 ad m (pc + 1, L, S', σ.set a d) v σ')
    (hs : ∀ (p : Program) (e : Env) (R : Room) (s : State) (mid : MethodId) (args : Array Value) (below : List Frame) (meth : Method) (c : Code) (T : State) (locs : List Loc) (cells slots : Nat) (C : Array Slot),
      QCx Z p R s mid meth c m → Stand p l e R s mid args below meth c T locs cells slots → QRep Z n0 ad T.heap σ →
      ∃ T' h', Stand p l e R s mid args below meth c T' (locs ++ [⟨ad a, j⟩]) cells slots ∧ T'.heap = h' ∧ Wr T.heap h' (ad a) j w ∧ QCellOk Z ad h' (ad a) d ∧ ∀ target, Steps p.tables e below (T'.setTop (mkF mid (pc + 1) C (S'.map (qv ad)))) target → Steps p.tables e below (T.setTop (mkF mid pc C (S.map (qv ad)))) target) :
    QTri l Z n0 ad m (pc, L, S, σ) v σ' := by
  have hsz : qhs (σ.set a d) = qhs σ := qhs_set hx1 hz
  refine QTri.gen h (by simp) (by show qhs σ ≤ qhs (σ.set a d); rw [hsz]; exact Nat.le_refl _) fun p e R s mid args below meth c T locs cells slots C hcx X hR hF hL hC hn hc1 hsl => ?_
  obtain ⟨T₁, h₁, X₁, e₁, W₁, Q₁, st⟩ := hs p e R s mid args below meth c T locs cells slots C hcx X hR
  refine ⟨T₁, _, C, ?_, ?_, Fr.snoc X₁ hF (by rw [Ad.1 a b1]; exact Nat.le_add_right _ _), hL, hC, st⟩
  · show Stand _ _ _ _ _ _ _ _ _ _ _ _ (cells + ((σ.set a d).length - σ.length)) (slots + (qhs (σ.set a d) - qhs σ))
    rw [hsz, Nat.sub_self, List.length_set, Nat.sub_self]
    exact X₁
  · rw [e₁]
    exact QRep.set hR Ad W₁ hx1 Q₁
set_option maxHeartbeats 4000000 in
theorem QTri.iastore (Ad : QAd n0 ad) {pc aux : Nat} {L : QLoc} {S : List Value} {σ : QHeap} {st' : QSt} (h : QTri l Z n0 ad m st' v σ') (hc : pCode m pc = some (.iastore, aux)) (hs : qast (pc + 1) L S σ tyI = some st') : QTri l Z n0 ad m (pc, L, S, σ) v σ' := by
  have hd : decode (pBytes m) pc = .ok (.iastore, 1) := pDecN hc rfl
  obtain ⟨w, j, a, S', ty, xs, ys, rfl, hx1, ht, b1, hw, rfl⟩ := qast_inv hs
  obtain rfl := tyI_inv ht
  refine QTri.stored Ad (j := j.toNatClampNeg) (w := .int w) hx1 b1 (by rw [(aset_inv hw).2.2]; simp [qsz]) h fun p e R s mid args below meth c T locs cells slots C hcx X hR => ?_
  have hd2 : decode c.code pc = .ok (.iastore, 1) := by rw [hcx.2.2.1]; exact hd
  obtain ⟨cl, A, hsl⟩ := hR.2.2 _ _ hx1
  obtain ⟨i1, i2⟩ := ast_in hsl hw
  obtain ⟨T₁, h₁, X₁, e₁, W₁, st⟩ := stI X hcx.1 hcx.2.1 rfl A i1 (g := mkF mid pc C (List.map (qv ad) (.int w :: .int j :: .ref a :: S'))) rfl rfl hd2
  exact ⟨T₁, h₁, X₁, e₁, W₁, ⟨_, A.same W₁, i2⟩, st⟩
set_option maxHeartbeats 4000000 in
theorem QTri.bastore (Ad : QAd n0 ad) {pc aux : Nat} {L : QLoc} {S : List Value} {σ : QHeap} {st' : QSt} (h : QTri l Z n0 ad m st' v σ') (hc : pCode m pc = some (.bastore, aux)) (hs : qast (pc + 1) L S σ tyB = some st') : QTri l Z n0 ad m (pc, L, S, σ) v σ' := by
  have hd : decode (pBytes m) pc = .ok (.bastore, 1) := pDecN hc rfl
  obtain ⟨w, j, a, S', ty, xs, ys, rfl, hx1, ht, b1, hw, rfl⟩ := qast_inv hs
  refine QTri.stored Ad (j := j.toNatClampNeg) (w := .int (qnar ty w)) hx1 b1 (by rw [(aset_inv hw).2.2]; simp [qsz]) h fun p e R s mid args below meth c T locs cells slots C hcx X hR => ?_
  have hd2 : decode c.code pc = .ok (.bastore, 1) := by rw [hcx.2.2.1]; exact hd
  obtain ⟨cl, A, hsl⟩ := hR.2.2 _ _ hx1
  obtain ⟨i1, i2⟩ := ast_in hsl hw
  rcases tyB_inv ht with rfl | rfl
  · obtain ⟨T₁, h₁, X₁, e₁, W₁, st⟩ := stZ X hcx.1 hcx.2.1 rfl A i1 (g := mkF mid pc C (List.map (qv ad) (.int w :: .int j :: .ref a :: S'))) rfl rfl hd2
    exact ⟨T₁, h₁, X₁, e₁, W₁, ⟨_, A.same W₁, i2⟩, st⟩
  · obtain ⟨T₁, h₁, X₁, e₁, W₁, st⟩ := stB X hcx.1 hcx.2.1 rfl A i1 (g := mkF mid pc C (List.map (qv ad) (.int w :: .int j :: .ref a :: S'))) rfl rfl hd2
    exact ⟨T₁, h₁, X₁, e₁, W₁, ⟨_, A.same W₁, i2⟩, st⟩
set_option maxHeartbeats 4000000 in
theorem QTri.lastore (Ad : QAd n0 ad) {pc aux : Nat} {L : QLoc} {S : List Value} {σ : QHeap} {st' : QSt} (h : QTri l Z n0 ad m st' v σ') (hc : pCode m pc = some (.lastore, aux)) (hs : qastJ (pc + 1) L S σ = some st') : QTri l Z n0 ad m (pc, L, S, σ) v σ' := by
  have hd : decode (pBytes m) pc = .ok (.lastore, 1) := pDecN hc rfl
  obtain ⟨w, j, a, S', xs, ys, rfl, hx1, b1, hw, rfl⟩ := qastJ_inv hs
  refine QTri.stored Ad (j := j.toNatClampNeg) (w := .long w) hx1 b1 (by rw [(aset_inv hw).2.2]; simp [qsz]) h fun p e R s mid args below meth c T locs cells slots C hcx X hR => ?_
  have hd2 : decode c.code pc = .ok (.lastore, 1) := by rw [hcx.2.2.1]; exact hd
  obtain ⟨cl, A, hsl⟩ := hR.2.2 _ _ hx1
  obtain ⟨i1, i2⟩ := ast_in hsl hw
  obtain ⟨T₁, h₁, X₁, e₁, W₁, st⟩ := stJ X hcx.1 hcx.2.1 rfl A i1 (g := mkF mid pc C (List.map (qv ad) (.long w :: .int j :: .ref a :: S'))) rfl rfl hd2
  exact ⟨T₁, h₁, X₁, e₁, W₁, ⟨_, A.same W₁, i2⟩, st⟩
set_option maxHeartbeats 4000000 in
theorem QTri.alen {pc aux : Nat} {L : QLoc} {S : List Value} {σ : QHeap} {st' : QSt} (h : QTri l Z n0 ad m st' v σ') (hc : pCode m pc = some (.arraylength, aux)) (hs : qlen (pc + 1) L S σ = some st') : QTri l Z n0 ad m (pc, L, S, σ) v σ' := by
  have hd : decode (pBytes m) pc = .ok (.arraylength, 1) := pDecN hc rfl
  obtain ⟨a, S', n, rfl, hx1, rfl⟩ := qlen_inv hs
  refine QTri.stack h fun p e R s mid args below meth c T locs cells slots C target hx hZ hby hown X hR hL k => ?_
  have hd2 : decode c.code pc = .ok (.arraylength, 1) := by rw [hby]; exact hd
  rcases hx1 with ⟨ty, xs, hx1, rfl⟩ | ⟨xs, hx1, rfl⟩
  · obtain ⟨cl, A, hsl⟩ := hR.2.2 _ _ hx1
    have e1 : cl.slots.size = xs.length := by rw [hsl]; simp
    rw [← e1] at k
    exact X.arraylength hx A.1 (State.isArrayOf_alike hZ.alike A.2.1) (g := mkF mid pc C (List.map (qv ad) (.ref a :: S'))) rfl rfl hd2 _ k
  · obtain ⟨cl, A, hsl⟩ := hR.2.2 _ _ hx1
    have e1 : cl.slots.size = xs.length := by rw [hsl]; simp
    rw [← e1] at k
    exact X.arraylength hx A.1 (State.isArrayOf_alike hZ.alike A.2.1) (g := mkF mid pc C (List.map (qv ad) (.ref a :: S'))) rfl rfl hd2 _ k
set_option maxHeartbeats 4000000 in
theorem QTri.newObj (Ad : QAd n0 ad) (W : QW Z a0) {pc idx aux : Nat} {L : QLoc} {S : List Value} {σ : QHeap} (h : QTri l Z n0 ad m (pc + 3, L, .ref σ.length :: S, σ ++ [.inl cDef]) v σ') (hc : pCode m pc = some (.new idx, aux)) : QTri l Z n0 ad m (pc, L, S, σ) v σ' := by
  have hd : decode (pBytes m) pc = .ok (.new idx, 3) := pDecN hc rfl
  have hm := mem_of_contains (show lkN.contains (pK m, idx) = true from pRest hc)
  refine QTri.gen h (by simp) (by simp [qhs_app]) fun p e R s mid args below meth c T locs cells slots C hcx X hR hF hL hC hn hc1 hsl => ?_
  obtain ⟨hx, hZ, hby, hml, hret, hown, hnm, hfr, hlo⟩ := hcx
  have hd2 : decode c.code pc = .ok (.new idx, 3) := by rw [hby]; exact hd
  simp only [List.length_append, List.length_singleton, Nat.add_sub_cancel_left, qgrow, qsz] at hc1 hsl ⊢
  obtain ⟨T₁, h₁, X₁, e₁, E₁, A₁, D₁, -, st⟩ := newO X hx hZ hown (index := idx) (qw_nw W (pK m, idx) hm) ((qw_inst W)) ((qw_init W)) rfl (g := mkF mid pc C (S.map (qv ad))) rfl hd2 hc1 hsl
  have hsz : h₁.size = T.heap.size + 1 := by
    have q1 := X₁.heapSize
    have q2 : T.heap.size < h₁.size := A₁.lt
    have q3 : T.heap.size = n0 + (σ.length - k0) := hR.2.1
    rw [e₁] at q1
    have : n0 + (σ.length - k0) = s.heap.size + cells := hn
    omega
  refine ⟨T₁, locs, C, X₁, ?_, hF, hL, hC, fun target q => ?_⟩
  · rw [e₁]
    refine QRep.push hR Ad E₁ hsz ⟨A₁, cDefL, fun k u hk hu => ?_⟩
    rw [cDefs k hk] at hu
    cases hu
    have e3 : qv ad (defaultValue (fTy k)) = defaultValue (fTy k) := by
      cases hq : defaultValue (fTy k) with
      | ref a => exact absurd hq (fDef k hk a)
      | _ => rfl
    rw [e3]
    exact D₁ (laid_of W hk) (fPrs k hk)
  · refine st _ ?_
    have e2 : ad σ.length = T.heap.size := by rw [Ad.1 _ hR.1]; exact hR.2.1.symm
    simp only [List.map_cons, qv, e2] at q
    exact q
set_option maxHeartbeats 8000000 in
theorem QTri.step (Ad : QAd n0 ad) (W : QW Z a0) {st st' : QSt} (h : QTri l Z n0 ad m st' v σ') (hs : qstep m st = some st') : QTri l Z n0 ad m st v σ' := by
  obtain ⟨pc, L, S, σ⟩ := st
  unfold qstep at hs
  dsimp only at hs
  split at hs
  rotate_left
  · cases hs
  rename_i i aux hc
  have hd := pDecN hc rfl
  have hr := pRest hc
  unfold qexec at hs
  split at hs
  · -- aload_n
    obtain ⟨w, h1, h2, rfl⟩ := qload_inv hs
    obtain ⟨a, rfl⟩ := isR_inv h2
    exact QTri.stack h fun p e R s mid args below meth c T locs cells slots C target hx hZ hby hown X hR hL k => XS.aloadN X.here hx rfl (hb hby hd) (hL.2.1 _ _ h1) rfl k
  · obtain ⟨w, h1, h2, rfl⟩ := qload_inv hs
    obtain ⟨a, rfl⟩ := isR_inv h2
    exact QTri.stack h fun p e R s mid args below meth c T locs cells slots C target hx hZ hby hown X hR hL k => XS.aload X.here hx rfl (hb hby hd) (hL.2.1 _ _ h1) rfl k
  · obtain ⟨w, h1, h2, rfl⟩ := qload_inv hs
    obtain ⟨a, rfl⟩ := isI_inv h2
    exact QTri.stack h fun p e R s mid args below meth c T locs cells slots C target hx hZ hby hown X hR hL k => XS.iloadN X.here hx rfl (hb hby hd) (hL.2.1 _ _ h1) k
  · obtain ⟨w, h1, h2, rfl⟩ := qload_inv hs
    obtain ⟨a, rfl⟩ := isI_inv h2
    exact QTri.stack h fun p e R s mid args below meth c T locs cells slots C target hx hZ hby hown X hR hL k => XS.iload X.here hx rfl (hb hby hd) (hL.2.1 _ _ h1) k
  · obtain ⟨w, h1, h2, rfl⟩ := qload_inv hs
    obtain ⟨a, rfl⟩ := isJ_inv h2
    exact QTri.stack h fun p e R s mid args below meth c T locs cells slots C target hx hZ hby hown X hR hL k => XT.lloadN X.here hx rfl (hb hby hd) (hL.2.1 _ _ h1) k
  · obtain ⟨w, h1, h2, rfl⟩ := qload_inv hs
    obtain ⟨a, rfl⟩ := isJ_inv h2
    exact QTri.stack h fun p e R s mid args below meth c T locs cells slots C target hx hZ hby hown X hR hL k => XT.lload X.here hx rfl (hb hby hd) (hL.2.1 _ _ h1) k
  · cases hs -- iconst
    exact QTri.stack h fun p e R s mid args below meth c T locs cells slots C target hx hZ hby hown X hR hL k => XS.iconst X.here hx rfl (hb hby hd) k
  · cases hs
    exact QTri.stack h fun p e R s mid args below meth c T locs cells slots C target hx hZ hby hown X hR hL k => XS.bipush X.here hx rfl (hb hby hd) k
  · cases hs
    exact QTri.stack h fun p e R s mid args below meth c T locs cells slots C target hx hZ hby hown X hR hL k => XS.sipush X.here hx rfl (hb hby hd) k
  · cases hs
    exact QTri.stack h fun p e R s mid args below meth c T locs cells slots C target hx hZ hby hown X hR hL k => XT.lconst X.here hx rfl (hb hby hd) k
  · -- ldc
    unfold qldc at hs
    split at hs
    · rename_i w hw
      cases hs
      obtain ⟨x, hx1, hx2⟩ := qw_cI W (pK m, _, aux) (mem_of_contains (show lkC.contains (pK m, _, aux) = true from hr))
      rw [show vget cK aux = some w from hw] at hx1
      cases hx1
      exact QTri.stack h fun p e R s mid args below meth c T locs cells slots C target hx hZ hby hown X hR hL k => X.ldcI hx hown (mv hZ hx2) rfl (hb hby hd) k
    · cases hs
  · unfold qldc at hs
    split at hs
    · rename_i w hw
      cases hs
      obtain ⟨x, hx1, hx2⟩ := qw_cJ W (pK m, _, aux) (mem_of_contains (show lkD.contains (pK m, _, aux) = true from hr))
      rw [show vget cK aux = some w from hw] at hx1
      cases hx1
      exact QTri.stack h fun p e R s mid args below meth c T locs cells slots C target hx hZ hby hown X hR hL k => X.ldc2J hx hown (mv hZ hx2) rfl (hb hby hd) k
    · cases hs
  · -- istore_n
    obtain ⟨w, S', L', rfl, h2, h3, rfl⟩ := qstore_inv hs
    obtain ⟨a, rfl⟩ := isI_inv h2
    exact QTri.frame h fun p e R s mid args below meth c T locs cells slots C hcx X hR hL hC => by
      obtain ⟨D, d1, d2, d3⟩ := store_ok hL h3
      exact ⟨D, d2, d3.trans hC, fun target k => XS.istoreN X.here hcx.1 rfl (hb hcx.2.2.1 hd) rfl d1 k⟩
  · obtain ⟨w, S', L', rfl, h2, h3, rfl⟩ := qstore_inv hs
    obtain ⟨a, rfl⟩ := isI_inv h2
    exact QTri.frame h fun p e R s mid args below meth c T locs cells slots C hcx X hR hL hC => by
      obtain ⟨D, d1, d2, d3⟩ := store_ok hL h3
      exact ⟨D, d2, d3.trans hC, fun target k => XS.istore X.here hcx.1 rfl (hb hcx.2.2.1 hd) rfl d1 k⟩
  · obtain ⟨w, S', L', rfl, h2, h3, rfl⟩ := qstore_inv hs
    obtain ⟨a, rfl⟩ := isJ_inv h2
    exact QTri.frame h fun p e R s mid args below meth c T locs cells slots C hcx X hR hL hC => by
      obtain ⟨D, d1, d2, d3⟩ := store_ok hL h3
      exact ⟨D, d2, d3.trans hC, fun target k => XT.lstoreN X.here hcx.1 rfl (hb hcx.2.2.1 hd) rfl d1 k⟩
  · obtain ⟨w, S', L', rfl, h2, h3, rfl⟩ := qstore_inv hs
    obtain ⟨a, rfl⟩ := isJ_inv h2
    exact QTri.frame h fun p e R s mid args below meth c T locs cells slots C hcx X hR hL hC => by
      obtain ⟨D, d1, d2, d3⟩ := store_ok hL h3
      exact ⟨D, d2, d3.trans hC, fun target k => XT.lstore X.here hcx.1 rfl (hb hcx.2.2.1 hd) rfl d1 k⟩
  · obtain ⟨w, S', L', rfl, h2, h3, rfl⟩ := qstore_inv hs
    obtain ⟨a, rfl⟩ := isR_inv h2
    exact QTri.frame h fun p e R s mid args below meth c T locs cells slots C hcx X hR hL hC => by
      obtain ⟨D, d1, d2, d3⟩ := store_ok hL h3
      exact ⟨D, d2, d3.trans hC, fun target k => XS.astoreN X.here hcx.1 rfl (hb hcx.2.2.1 hd) rfl rfl d1 k⟩
  · obtain ⟨w, S', L', rfl, h2, h3, rfl⟩ := qstore_inv hs
    obtain ⟨a, rfl⟩ := isR_inv h2
    exact QTri.frame h fun p e R s mid args below meth c T locs cells slots C hcx X hR hL hC => by
      obtain ⟨D, d1, d2, d3⟩ := store_ok hL h3
      exact ⟨D, d2, d3.trans hC, fun target k => XS.astore X.here hcx.1 rfl (hb hcx.2.2.1 hd) rfl rfl d1 k⟩
  · -- iinc
    unfold qinc at hs
    split at hs
    · rename_i x hx1
      split at hs
      · rename_i L' hL'
        cases hs
        exact QTri.frame h fun p e R s mid args below meth c T locs cells slots C hcx X hR hL hC => by
          obtain ⟨D, d1, d2, d3⟩ := store_ok hL hL'
          exact ⟨D, d2, d3.trans hC, fun target k => XS.iinc X.here hcx.1 rfl (hb hcx.2.2.1 hd) (hL.2.1 _ _ hx1) d1 k⟩
      · cases hs
    · cases hs
  · obtain ⟨x, y, S', rfl, rfl⟩ := qbin_inv hs -- iadd
    exact QTri.stack h fun p e R s mid args below meth c T locs cells slots C target hx hZ hby hown X hR hL k => XS.iadd X.here hx rfl (hb hby hd) rfl k
  · obtain ⟨x, y, S', rfl, rfl⟩ := qbin_inv hs
    exact QTri.stack h fun p e R s mid args below meth c T locs cells slots C target hx hZ hby hown X hR hL k => XS.isub X.here hx rfl (hb hby hd) rfl k
  · obtain ⟨x, y, S', rfl, rfl⟩ := qbin_inv hs
    exact QTri.stack h fun p e R s mid args below meth c T locs cells slots C target hx hZ hby hown X hR hL k => XS.imul X.here hx rfl (hb hby hd) rfl k
  · obtain ⟨x, y, S', rfl, rfl⟩ := qbin_inv hs
    exact QTri.stack h fun p e R s mid args below meth c T locs cells slots C target hx hZ hby hown X hR hL k => XS.iand X.here hx rfl (hb hby hd) rfl k
  · obtain ⟨x, y, S', rfl, rfl⟩ := qbin_inv hs
    exact QTri.stack h fun p e R s mid args below meth c T locs cells slots C target hx hZ hby hown X hR hL k => XT.ior X.here hx rfl (hb hby hd) rfl k
  · obtain ⟨x, y, S', rfl, rfl⟩ := qbin_inv hs
    exact QTri.stack h fun p e R s mid args below meth c T locs cells slots C target hx hZ hby hown X hR hL k => XT.ixor X.here hx rfl (hb hby hd) rfl k
  · obtain ⟨x, y, S', rfl, rfl⟩ := qbin_inv hs
    exact QTri.stack h fun p e R s mid args below meth c T locs cells slots C target hx hZ hby hown X hR hL k => XT.ishl X.here hx rfl (hb hby hd) rfl k
  · obtain ⟨x, y, S', rfl, rfl⟩ := qbin_inv hs
    exact QTri.stack h fun p e R s mid args below meth c T locs cells slots C target hx hZ hby hown X hR hL k => XT.ishr X.here hx rfl (hb hby hd) rfl k
  · obtain ⟨x, y, S', rfl, rfl⟩ := qbin_inv hs
    exact QTri.stack h fun p e R s mid args below meth c T locs cells slots C target hx hZ hby hown X hR hL k => XT.iushr X.here hx rfl (hb hby hd) rfl k
  · obtain ⟨x, y, z, S', rfl, hz, rfl⟩ := qbino_inv hs -- idiv
    unfold qdiv at hz
    split at hz
    · cases hz
    · rename_i hy
      cases hz
      exact QTri.stack h fun p e R s mid args below meth c T locs cells slots C target hx hZ hby hown X hR hL k => XS.idiv X.here hx rfl (hb hby hd) rfl hy k
  · obtain ⟨x, y, z, S', rfl, hz, rfl⟩ := qbino_inv hs
    unfold qrem at hz
    split at hz
    · cases hz
    · rename_i hy
      cases hz
      exact QTri.stack h fun p e R s mid args below meth c T locs cells slots C target hx hZ hby hown X hR hL k => iremM X hx rfl (hb hby hd) rfl hy k
  · obtain ⟨x, S', rfl, rfl⟩ := quni_inv hs -- ineg
    exact QTri.stack h fun p e R s mid args below meth c T locs cells slots C target hx hZ hby hown X hR hL k => XS.ineg X.here hx rfl (hb hby hd) rfl k
  · obtain ⟨x, S', rfl, rfl⟩ := quni_inv hs
    exact QTri.stack h fun p e R s mid args below meth c T locs cells slots C target hx hZ hby hown X hR hL k => XT.i2l X.here hx rfl (hb hby hd) rfl k
  · obtain ⟨x, S', rfl, rfl⟩ := quni_inv hs
    exact QTri.stack h fun p e R s mid args below meth c T locs cells slots C target hx hZ hby hown X hR hL k => XT.i2b X.here hx rfl (hb hby hd) rfl k
  · obtain ⟨x, S', rfl, rfl⟩ := quniJ_inv hs
    exact QTri.stack h fun p e R s mid args below meth c T locs cells slots C target hx hZ hby hown X hR hL k => XT.l2i X.here hx rfl (hb hby hd) rfl k
  · obtain ⟨x, S', rfl, rfl⟩ := quniJ_inv hs
    exact QTri.stack h fun p e R s mid args below meth c T locs cells slots C target hx hZ hby hown X hR hL k => XT.lneg X.here hx rfl (hb hby hd) rfl k
  · obtain ⟨x, y, S', rfl, rfl⟩ := qbinJ_inv hs
    exact QTri.stack h fun p e R s mid args below meth c T locs cells slots C target hx hZ hby hown X hR hL k => XT.ladd X.here hx rfl (hb hby hd) rfl k
  · obtain ⟨x, y, S', rfl, rfl⟩ := qbinJ_inv hs
    exact QTri.stack h fun p e R s mid args below meth c T locs cells slots C target hx hZ hby hown X hR hL k => XT.lsub X.here hx rfl (hb hby hd) rfl k
  · obtain ⟨x, y, S', rfl, rfl⟩ := qbinJ_inv hs
    exact QTri.stack h fun p e R s mid args below meth c T locs cells slots C target hx hZ hby hown X hR hL k => XT.lmul X.here hx rfl (hb hby hd) rfl k
  · obtain ⟨x, y, S', rfl, rfl⟩ := qbinJ_inv hs
    exact QTri.stack h fun p e R s mid args below meth c T locs cells slots C target hx hZ hby hown X hR hL k => XT.land X.here hx rfl (hb hby hd) rfl k
  · obtain ⟨x, y, S', rfl, rfl⟩ := qbinJ_inv hs
    exact QTri.stack h fun p e R s mid args below meth c T locs cells slots C target hx hZ hby hown X hR hL k => XT.lor X.here hx rfl (hb hby hd) rfl k
  · obtain ⟨x, y, S', rfl, rfl⟩ := qbinJ_inv hs
    exact QTri.stack h fun p e R s mid args below meth c T locs cells slots C target hx hZ hby hown X hR hL k => XT.lxor X.here hx rfl (hb hby hd) rfl k
  · obtain ⟨x, y, S', rfl, rfl⟩ := qshJ_inv hs
    exact QTri.stack h fun p e R s mid args below meth c T locs cells slots C target hx hZ hby hown X hR hL k => XT.lshl X.here hx rfl (hb hby hd) rfl k
  · obtain ⟨x, y, S', rfl, rfl⟩ := qshJ_inv hs
    exact QTri.stack h fun p e R s mid args below meth c T locs cells slots C target hx hZ hby hown X hR hL k => XT.lshr X.here hx rfl (hb hby hd) rfl k
  · obtain ⟨x, y, S', rfl, rfl⟩ := qshJ_inv hs
    exact QTri.stack h fun p e R s mid args below meth c T locs cells slots C target hx hZ hby hown X hR hL k => XT.lushr X.here hx rfl (hb hby hd) rfl k
  · split at hs -- lcmp
    · cases hs
      exact QTri.stack h fun p e R s mid args below meth c T locs cells slots C target hx hZ hby hown X hR hL k => XT.lcmp X.here hx rfl (hb hby hd) rfl k
    · cases hs
  · cases hs -- goto
    obtain ⟨t1, t2⟩ := qtgt_spec hr
    exact QTri.stack h fun p e R s mid args below meth c T locs cells slots C target hx hZ hby hown X hR hL k => XS.goto X.here hx rfl rfl (hb hby hd) t1 t2 k
  · obtain ⟨x, S', rfl, rfl⟩ := qif_inv hs
    obtain ⟨t1, t2⟩ := qtgt_spec hr
    cases hh : ifCond.holds _ x with
    | true => rw [hh] at h; exact QTri.stack h fun p e R s mid args below meth c T locs cells slots C target hx hZ hby hown X hR hL k => XS.ifYes X.here hx rfl rfl (hb hby hd) rfl hh t1 t2 k
    | false => rw [hh] at h; exact QTri.stack h fun p e R s mid args below meth c T locs cells slots C target hx hZ hby hown X hR hL k => XS.ifNo X.here hx rfl (hb hby hd) rfl hh k
  · obtain ⟨x, y, S', rfl, rfl⟩ := qicmp_inv hs
    obtain ⟨t1, t2⟩ := qtgt_spec hr
    cases hh : if_icmp.holds _ x y with
    | true => rw [hh] at h; exact QTri.stack h fun p e R s mid args below meth c T locs cells slots C target hx hZ hby hown X hR hL k => XS.icmpYes X.here hx rfl rfl (hb hby hd) rfl hh t1 t2 k
    | false => rw [hh] at h; exact QTri.stack h fun p e R s mid args below meth c T locs cells slots C target hx hZ hby hown X hR hL k => XS.icmpNo X.here hx rfl (hb hby hd) rfl hh k
  · unfold qdup at hs
    split at hs
    · cases hs
      exact QTri.stack h fun p e R s mid args below meth c T locs cells slots C target hx hZ hby hown X hR hL k => XS.dup X.here hx rfl (hb hby hd) rfl rfl k
    · cases hs
      exact QTri.stack h fun p e R s mid args below meth c T locs cells slots C target hx hZ hby hown X hR hL k => XS.dup X.here hx rfl (hb hby hd) rfl rfl k
    · cases hs
  · unfold qdup2 at hs
    split at hs
    · cases hs
      exact QTri.stack h fun p e R s mid args below meth c T locs cells slots C target hx hZ hby hown X hR hL k => XT.dup2 X.here hx rfl (hb hby hd) rfl rfl rfl k
    · cases hs
      exact QTri.stack h fun p e R s mid args below meth c T locs cells slots C target hx hZ hby hown X hR hL k => XT.dup2 X.here hx rfl (hb hby hd) rfl rfl rfl k
    · cases hs
      exact QTri.stack h fun p e R s mid args below meth c T locs cells slots C target hx hZ hby hown X hR hL k => XT.dup2L X.here hx rfl (hb hby hd) rfl k
    · cases hs
  · unfold qpop at hs
    split at hs
    · cases hs
      exact QTri.stack h fun p e R s mid args below meth c T locs cells slots C target hx hZ hby hown X hR hL k => XT.pop X.here hx rfl (hb hby hd) rfl rfl k
    · cases hs
      exact QTri.stack h fun p e R s mid args below meth c T locs cells slots C target hx hZ hby hown X hR hL k => XT.pop X.here hx rfl (hb hby hd) rfl rfl k
    · cases hs
  · exact QTri.getfield W h hc hs
  · exact QTri.putfield Ad W h hc hs
  · exact QTri.iaload h hc hs
  · exact QTri.baload h hc hs
  · exact QTri.laload h hc hs
  · exact QTri.iastore Ad h hc hs
  · exact QTri.bastore Ad h hc hs
  · exact QTri.lastore Ad h hc hs
  · exact QTri.alen h hc hs
  · -- newarray
    unfold qnewA at hs
    split at hs
    · split at hs
      · obtain ⟨k, hk, hs⟩ := Option.bind_eq_some_iff.mp hs
        cases hs
        exact QTri.newArr (c := .inr (.inl (.int, List.replicate k 0))) Ad W hk hc (by simp [qsz]) (fun h' a cA A => ⟨_, A, by simp [newA, (qnew_inv hk).2.1]; exact Or.inr rfl⟩) h
      · obtain ⟨k, hk, hs⟩ := Option.bind_eq_some_iff.mp hs
        cases hs
        exact QTri.newArr (c := .inr (.inl (.boolean, List.replicate k 0))) Ad W hk hc (by simp [qsz]) (fun h' a cA A => ⟨_, A, by simp [newA, (qnew_inv hk).2.1]; exact Or.inr rfl⟩) h
      · obtain ⟨k, hk, hs⟩ := Option.bind_eq_some_iff.mp hs
        cases hs
        exact QTri.newArr (c := .inr (.inl (.byte, List.replicate k 0))) Ad W hk hc (by simp [qsz]) (fun h' a cA A => ⟨_, A, by simp [newA, (qnew_inv hk).2.1]; exact Or.inr rfl⟩) h
      · obtain ⟨k, hk, hs⟩ := Option.bind_eq_some_iff.mp hs
        cases hs
        exact QTri.newArr (c := .inr (.inr (List.replicate k 0))) Ad W hk hc (by simp [qsz]) (fun h' a cA A => ⟨_, A, by simp [newA, (qnew_inv hk).2.1]; exact Or.inr rfl⟩) h
      · cases hs
    · cases hs
  · cases hs; exact QTri.newObj Ad W h hc
  · cases hs
theorem QTri.steps (Ad : QAd n0 ad) (W : QW Z a0) : ∀ (n : Nat) {st st' : QSt}, qsteps m n st = some st' → QTri l Z n0 ad m st' v σ' → QTri l Z n0 ad m st v σ'
  | 0, st, st', h, k => by cases h; exact k
  | n + 1, st, st', h, k => by
    simp only [qsteps] at h
    split at h
    · rename_i st₁ h1
      exact QTri.step Ad W (QTri.steps Ad W n h k) h1
    · cases h
/-! ## returns, masks, calls -/
def lmask : List Bool → QLoc → QLoc
  | b :: t, x :: u => (bif b then x else none) :: lmask t u
  | _, L => L.map fun _ => none
theorem lmask_len : ∀ (b : List Bool) (L : QLoc), (lmask b L).length = L.length
  | [], L => by simp [lmask]
  | _ :: _, [] => by simp [lmask]
  | _ :: t, _ :: u => by simp [lmask, lmask_len t u]
theorem lmask_get : ∀ (b : List Bool) (L : QLoc) (k : Nat) (v : Value), lget (lmask b L) k = some v → lget L k = some v
  | [], L, k, v, h => by
    simp only [lmask, lget_eq, List.getElem?_map] at h
    cases hq : L[k]? <;> simp [hq] at h
  | _ :: _, [], k, v, h => by simp [lmask, lget] at h
  | b :: t, x :: u, 0, v, h => by
    simp only [lmask, lget] at h ⊢
    cases b
    · cases h
    · exact h
  | b :: t, x :: u, k + 1, v, h => by
    simp only [lmask, lget] at h ⊢
    exact lmask_get t u k v h
theorem QTri.mask {pc : Nat} {L : QLoc} {S : List Value} {σ : QHeap} (b : List Bool) (h : QTri l Z n0 ad m (pc, lmask b L, S, σ) v σ') : QTri l Z n0 ad m (pc, L, S, σ) v σ' :=
  QTri.frame h fun p e R s mid args below meth c T locs cells slots C hcx X hR hL hC => ⟨C, ⟨by rw [lmask_len]; exact hL.1, fun k u hk => hL.2.1 k u (lmask_get b L k u hk), hL.2.2⟩, hC, fun target k => k⟩
theorem QTri.ret0 {pc aux : Nat} {L : QLoc} {σ : QHeap} (hc : pCode m pc = some (.return_, aux)) (hr : pRet m = none) : QTri l Z n0 ad m (pc, L, [], σ) none σ :=
  have hd : decode (pBytes m) pc = .ok (.return_, 1) := pDecN hc rfl
  ⟨Nat.le_refl _, Nat.le_refl _, fun p e R s mid args below meth c T locs cells slots C hcx X hR hF hL hC hn hc1 hsl => ⟨T, locs, by simpa using X, hR, hF, fun fs hf => X.returnOut hcx.1 (hcx.2.2.2.2.1.trans hr) (hb hcx.2.2.1 hd) hf⟩⟩
theorem QTri.retI {pc aux : Nat} {L : QLoc} {S : List Value} {σ : QHeap} {x : Int32} (hc : pCode m pc = some (.ireturn, aux)) (hr : pRet m = some .int) : QTri l Z n0 ad m (pc, L, .int x :: S, σ) (some (.int x)) σ :=
  have hd : decode (pBytes m) pc = .ok (.ireturn, 1) := pDecN hc rfl
  ⟨Nat.le_refl _, Nat.le_refl _, fun p e R s mid args below meth c T locs cells slots C hcx X hR hF hL hC hn hc1 hsl => ⟨T, locs, by simpa using X, hR, hF, fun fs hf => Jvm.RoadKit.retI X hcx.1 (hcx.2.2.2.2.1.trans hr) (hb hcx.2.2.1 hd) hf⟩⟩
theorem QTri.retZ {pc aux : Nat} {L : QLoc} {S : List Value} {σ : QHeap} {x : Int32} (hc : pCode m pc = some (.ireturn, aux)) (hr : pRet m = some .boolean) : QTri l Z n0 ad m (pc, L, .int x :: S, σ) (some (.int (x &&& 1))) σ :=
  have hd : decode (pBytes m) pc = .ok (.ireturn, 1) := pDecN hc rfl
  ⟨Nat.le_refl _, Nat.le_refl _, fun p e R s mid args below meth c T locs cells slots C hcx X hR hF hL hC hn hc1 hsl => ⟨T, locs, by simpa using X, hR, hF, fun fs hf => retN X hcx.1 (t := .boolean) (hcx.2.2.2.2.1.trans hr) (by simp) (hb hcx.2.2.1 hd) hf⟩⟩
theorem QTri.retJ {pc aux : Nat} {L : QLoc} {S : List Value} {σ : QHeap} {x : Int64} (hc : pCode m pc = some (.lreturn, aux)) (hr : pRet m = some .long) : QTri l Z n0 ad m (pc, L, .long x :: S, σ) (some (.long x)) σ :=
  have hd : decode (pBytes m) pc = .ok (.lreturn, 1) := pDecN hc rfl
  ⟨Nat.le_refl _, Nat.le_refl _, fun p e R s mid args below meth c T locs cells slots C hcx X hR hF hL hC hn hc1 hsl => ⟨T, locs, by simpa using X, hR, hF, fun fs hf => retOut X hcx.1 (t := .long) (hcx.2.2.2.2.1.trans hr) rfl (Or.inr (Or.inl ⟨rfl, rfl, _, rfl⟩)) (hb hcx.2.2.1 hd) hf⟩⟩
def LOk (ad : Nat → Addr) (L : QLoc) (C : List Slot) : Prop :=
  L.length = C.length ∧ (∀ k v, lget L k = some v → C[k]? = some (.val (qv ad v))) ∧ (∀ k w, C[k]? = some (.val w) → w.category = 2 → C[k + 1]? = some .second) ∧ ∀ k, C[k]? = some .second → ∃ j w, k = j + 1 ∧ C[j]? = some (.val w) ∧ w.category = 2
theorem LOk.base (ad : Nat → Addr) (n : Nat) : LOk ad (List.replicate n none) (List.replicate n .unset) := by
  refine ⟨by simp, fun k u h => ?_, fun k w h => ?_, fun k h => ?_⟩
  · rw [lget_eq] at h
    rcases Nat.lt_or_ge k n with q | q
    · simp [List.getElem?_replicate, q] at h
    · simp [List.getElem?_eq_none, q] at h
  · rcases Nat.lt_or_ge k n with q | q
    · simp [List.getElem?_replicate, q] at h
    · simp [List.getElem?_eq_none, q] at h
  · rcases Nat.lt_or_ge k n with q | q
    · simp [List.getElem?_replicate, q] at h
    · simp [List.getElem?_eq_none, q] at h
theorem LOk.one {L : QLoc} {C : List Slot} (H : LOk ad L C) {u : Value} (hu : u.category = 1) : LOk ad (some u :: L) (.val (qv ad u) :: C) := by
  obtain ⟨h1, h2, h3, h4⟩ := H
  refine ⟨by simp [h1], fun k w h => ?_, fun k w h hw => ?_, fun k h => ?_⟩
  · cases k with
    | zero => simp only [lget] at h; cases h; simp
    | succ k => simp only [lget] at h; simpa using h2 k w h
  · cases k with
    | zero => simp at h; rw [← h, qv_cat, hu] at hw; cases hw
    | succ k => simpa using h3 k w (by simpa using h) hw
  · cases k with
    | zero => simp at h
    | succ k =>
      obtain ⟨j, w, z1, z2, z3⟩ := h4 k (by simpa using h)
      exact ⟨j + 1, w, by omega, by simpa using z2, z3⟩
theorem LOk.two {L : QLoc} {C : List Slot} (H : LOk ad L C) {u : Value} (hu : u.category = 2) : LOk ad (some u :: none :: L) (.val (qv ad u) :: .second :: C) := by
  obtain ⟨h1, h2, h3, h4⟩ := H
  refine ⟨by simp [h1], fun k w h => ?_, fun k w h hw => ?_, fun k h => ?_⟩
  · rcases k with _ | _ | k
    · simp only [lget] at h; cases h; simp
    · simp [lget] at h
    · simp only [lget] at h; simpa using h2 k w h
  · rcases k with _ | _ | k
    · simp
    · simp at h
    · simpa using h3 k w (by simpa using h) hw
  · rcases k with _ | _ | k
    · simp at h
    · exact ⟨0, qv ad u, rfl, by simp, by rw [qv_cat]; exact hu⟩
    · obtain ⟨j, w, z1, z2, z3⟩ := h4 k (by simpa using h)
      exact ⟨j + 2, w, by omega, by simpa using z2, z3⟩
def slotsOf (u : Value) : List Slot := if u.category = 2 then [.val u, .second] else [.val u]
theorem fold_slots : ∀ (as : List Value) (acc : Array Slot), (as.foldl (fun acc v => if v.category = 2 then (acc.push (.val v)).push .second else acc.push (.val v)) acc).toList = acc.toList ++ as.flatMap slotsOf
  | [], acc => by simp
  | u :: t, acc => by
    rw [List.foldl_cons, fold_slots t]
    by_cases hc : u.category = 2 <;> simp [slotsOf, hc]
theorem slots_len : ∀ (as : List Value), (as.flatMap slotsOf).length = (as.map fun v => v.category).sum
  | [] => rfl
  | u :: t => by
    rw [List.flatMap_cons, List.length_append, slots_len t, List.map_cons, List.sum_cons]
    cases u <;> simp [slotsOf, Value.category]
theorem cats_qv (as : List Value) : ((as.map (qv ad)).map fun v => v.category).sum = (as.map fun v => v.category).sum := by
  rw [List.map_map]
  congr 1
  exact List.map_congr_left fun x _ => qv_cat ad x
theorem entry_list : ∀ (as : List Value) (n : Nat), LOk ad ((as.flatMap fun v => match v with | .long x => [some (.long x), none] | .double x => [some (.double x), none] | v => [some v]) ++ List.replicate n none) ((as.map (qv ad)).flatMap slotsOf ++ List.replicate n .unset)
  | [], n => by simpa using LOk.base ad n
  | u :: t, n => by
    have ih := entry_list t n
    cases u with
    | long x => exact LOk.two ih rfl
    | double x => exact LOk.two ih rfl
    | int x => exact LOk.one ih rfl
    | float x => exact LOk.one ih rfl
    | null => exact LOk.one ih rfl
    | ref x => exact LOk.one ih rfl
    | retAddr x => exact LOk.one ih rfl
theorem qentry_ok (as : List Value) (mx : Nat) (h : (as.map fun v => v.category).sum ≤ mx) : QLocOk ad (qentry as mx) (argsToLocals (as.map (qv ad)).toArray mx) ∧ (argsToLocals (as.map (qv ad)).toArray mx).size = mx := by
  have e : (argsToLocals (as.map (qv ad)).toArray mx).toList = (as.map (qv ad)).flatMap slotsOf ++ List.replicate (mx - (as.map fun v => v.category).sum) .unset := by
    unfold argsToLocals
    have q := fold_slots (as.map (qv ad)) #[]
    simp only [List.foldl_toArray', Array.toList_append, Array.toList_replicate]
    have q2 : ((as.map (qv ad)).foldl (fun (acc : Array Slot) (v : Value) => if v.category = 2 then (acc.push (.val v)).push .second else acc.push (.val v)) #[]).size = (as.map fun v => v.category).sum := by
      rw [← Array.length_toList, q]
      simp only [List.nil_append]
      rw [slots_len, cats_qv]
    rw [q, q2]
    simp
  have H := entry_list (ad := ad) as (mx - (as.map fun v => v.category).sum)
  rw [← e] at H
  obtain ⟨h1, h2, h3, h4⟩ := H
  have hs : (argsToLocals (as.map (qv ad)).toArray mx).size = mx := by
    rw [← Array.length_toList, e, List.length_append, slots_len, cats_qv, List.length_replicate]
    omega
  refine ⟨⟨h1.trans Array.length_toList, fun k u hk => ?_, fun k w hk hw => ?_, fun k hk => ?_⟩, hs⟩
  · have := h2 k u hk; rwa [Array.getElem?_toList] at this
  · have := h3 k w (by rw [Array.getElem?_toList]; exact hk) hw; rwa [Array.getElem?_toList] at this
  · obtain ⟨j, w, z1, z2, z3⟩ := h4 k (by rw [Array.getElem?_toList]; exact hk)
    exact ⟨j, w, z1, by rwa [Array.getElem?_toList] at z2, z3⟩
set_option maxHeartbeats 4000000 in
theorem QTri.met {k : Nat} {as : List Value} {σ σ₁ : QHeap} {w : Option Value} {h0 : Heap} (hk : k < pN) (h : QTri l Z n0 ad k (0, qentry as (pMaxL k), [], σ) w σ₁) (hR : QRep Z n0 ad h0 σ) (hlen : (as.map fun v => v.category).sum ≤ pMaxL k) (hret : pRet k = none → w = none) (ws : List Jvm.Cond) {rm : Room}
    (r1 : pFr k ≤ rm.frames) (r2 : pLo k ≤ rm.locals) (r3 : σ₁.length - σ.length ≤ rm.cells) (r4 : qhs σ₁ - qhs σ ≤ rm.slots) :
    MetFree l (pName k) (head1 (Jvm.Cond.code (pName k) (pBytes k) (pMaxL k) (pRet k) :: ws) rm) (fun a U => a = (as.map (qv ad)).toArray ∧ Z.Warmed39 U.vm ∧ U.heap = h0) (fun _ _ _ _ _ => True)
      (fun _ U o U' => ∃ v L, o = .returned v ∧ (v = w.map (qv ad) ∧ QRep Z n0 ad U'.heap σ₁ ∧ Fr n0 L) ∧ FrameEnd U o U' L (σ₁.length - σ.length) (qhs σ₁ - qhs σ)) := by
  refine MetFree.of_bodySF (plainFor_of_name (kPlain _ (pKlt k hk))) hisR ?_
  intro p e s mid args below meth c s₁ Bd hml0 hP hK
  obtain ⟨rfl, hZ, hh⟩ := hP
  have e0 : s₁.heap = h0 := by rw [← hh, Bd.state]; rfl
  obtain ⟨hl1, hl2⟩ := qentry_ok (ad := ad) as (pMaxL k) hlen
  have hX : Stand p l e rm s mid (as.map (qv ad)).toArray below meth c s₁ [] 0 0 := Stand.of_body Bd
  obtain ⟨T', locs', X', R', F', S'⟩ := h.2.2 p e rm s mid _ below meth c s₁ [] 0 0 _ ⟨Bd.exec, hZ, Bd.bytes, hml0, Bd.returns, findClass_of_methodNamed Bd.named, (name_of_methodNamed Bd.named Bd.method).1, r1, r2⟩ hX (by rw [e0]; exact hR) (Fr.nil _) hl1 (hl2.trans hml0.symm) (by rw [hh, Nat.add_zero]; exact hR.2.1.symm) (by rw [Nat.zero_add]; exact r3) (by rw [Nat.zero_add]; exact r4)
  obtain ⟨fs, hr, hrun, hended, hW, hsame⟩ := X'.leave (v := w.map (qv ad)) (fun q => by rw [hret (Bd.returns.symm.trans q)]; rfl)
  refine ⟨_, _, S' fs hr, hrun, hended, _, _, rfl, ⟨rfl, R', F'⟩, ⟨_, rfl⟩, hW, ?_⟩
  simp only [Nat.zero_add] at hsame
  exact hsame
theorem QTri.room {k : Nat} {σ σ₁ : QHeap} {rest : List Value} {R : Room} (hroom : (Nat.ble (pFr k + 1) (pFr m) && Nat.ble ((rest.map fun v => v.category).sum + (pMaxL k + 11) + pLo k) (pLo m)) = true) (hfr : pFr m ≤ R.frames) (hlo : pLo m ≤ R.locals) :
    pFr k + 1 ≤ R.frames ∧ (rest.map fun v => v.category).sum + (pMaxL k + 11) + pLo k ≤ R.locals := by
  obtain ⟨q1, q2⟩ := Bool.and_eq_true_iff.mp hroom
  exact ⟨Nat.le_trans (Nat.le_of_ble_eq_true q1) hfr, Nat.le_trans (Nat.le_of_ble_eq_true q2) hlo⟩
theorem sig_len {k : Nat} (hk : k < pN) {as : List Value} (hna : as.length = pNA k) : ∀ sig, parseMethodDescriptor (pName k).desc = some sig → (as.map (qv ad)).length = sig.parameters.length := fun sig hs => by
  have q := pSig k hk
  rw [show parseMethodDescriptor (pDs k) = some sig from hs] at q
  simp at q
  simp [hna, q]
theorem ret_map (w : Option Value) (rest : List Value) : (w.toList ++ rest).map (qv ad) = (w.map (qv ad)).toList ++ rest.map (qv ad) := by cases w <;> simp
theorem QTri.after {as0 : List Value} {pc : Nat} {L : QLoc} {S rest : List Value} {σ σ₁ : QHeap} {w : Option Value} {k : Nat} (hcal : QTri l Z n0 ad k (0, qentry as0 (pMaxL k), [], σ) w σ₁) (h : QTri l Z n0 ad m (pc + 3, L, w.toList ++ rest, σ₁) v σ')
    (hs : ∀ (p : Program) (e : Env) (R : Room) (s : State) (mid : MethodId) (args : Array Value) (below : List Frame) (meth : Method) (c : Code) (T : State) (locs : List Loc) (cells slots : Nat) (C : Array Slot),
      QCx Z p R s mid meth c m → Stand p l e R s mid args below meth c T locs cells slots → QRep Z n0 ad T.heap σ → C.size = c.maxLocals → cells + (σ₁.length - σ.length) ≤ R.cells → slots + (qhs σ₁ - qhs σ) ≤ R.slots →
      ∃ T₁ Lc, Stand p l e R s mid args below meth c T₁ (locs ++ Lc) (cells + (σ₁.length - σ.length)) (slots + (qhs σ₁ - qhs σ)) ∧ QRep Z n0 ad T₁.heap σ₁ ∧ Fr n0 Lc ∧
        ∀ target, Steps p.tables e below (T₁.setTop (mkF mid (pc + 3) C ((w.map (qv ad)).toList ++ rest.map (qv ad)))) target → Steps p.tables e below (T.setTop (mkF mid pc C (S.map (qv ad)))) target) :
    QTri l Z n0 ad m (pc, L, S, σ) v σ' := by
  refine QTri.gen h hcal.1 hcal.2.1 fun p e R s mid args below meth c T locs cells slots C hcx X hR hF hL hC hn hc1 hsl => ?_
  obtain ⟨T₁, Lc, X₁, R₁, F₁, st⟩ := hs p e R s mid args below meth c T locs cells slots C hcx X hR hC hc1 hsl
  refine ⟨T₁, locs ++ Lc, C, X₁, R₁, hF.app F₁, hL, hC, fun target q => st target ?_⟩
  rw [← ret_map]
  exact q
set_option maxHeartbeats 4000000 in
theorem QTri.callV (W : QW Z a0) {pc idx k a : Nat} {L : QLoc} {S as rest vs : List Value} {σ σ₁ : QHeap} {w : Option Value} (hc : pCode m pc = some (.invokevirtual idx, k)) (hm : (lkV.contains (pK m, idx, k) && mV.contains k) = true) (hcell : hget σ a = some (.inl vs)) (hS : S = as.reverse ++ .ref a :: rest)
    (hna : as.length = pNA k) (hlen : Nat.ble (((Value.ref a :: as).map fun v => v.category).sum) (pMaxL k) = true) (hroom : (Nat.ble (pFr k + 1) (pFr m) && Nat.ble ((rest.map fun v => v.category).sum + (pMaxL k + 11) + pLo k) (pLo m)) = true) (hrb : (w.isNone || (pRet k).isSome) = true)
    (hcal : QTri l Z n0 ad k (0, qentry (.ref a :: as) (pMaxL k), [], σ) w σ₁) (h : QTri l Z n0 ad m (pc + 3, L, w.toList ++ rest, σ₁) v σ') : QTri l Z n0 ad m (pc, L, S, σ) v σ' := by
  have hd : decode (pBytes m) pc = .ok (.invokevirtual idx, 3) := pDecN hc rfl
  subst hS
  obtain ⟨m1, m2⟩ := Bool.and_eq_true_iff.mp hm
  have m1 := mem_of_contains m1
  have m2 := mem_of_contains m2
  have hkA := (mVlt k m2).1
  have hkN := mAlt k hkA
  have hret : pRet k = none → w = none := fun q => by
    rw [q] at hrb
    cases w with
    | none => rfl
    | some w => simp at hrb
  refine QTri.after hcal h fun p e R s mid args below meth c T locs cells slots C hcx X hR hC hc1 hsl => ?_
  obtain ⟨hx, hZ, hby, hml, hret', hown, hnm, hfr, hlo⟩ := hcx
  have hd2 : decode c.code pc = .ok (.invokevirtual idx, 3) := by rw [hby]; exact hd
  obtain ⟨f1, f2⟩ := QTri.room (σ := σ) (σ₁ := σ₁) hroom hfr hlo
  obtain ⟨cq, kq, q1, q2, q3⟩ := isOf hZ rfl (hR.2.2 _ _ hcell).1
  obtain ⟨w1, w2, w3⟩ := (qw_vi W) k m2
  obtain ⟨c1, c2⟩ := (qw_cod W) k hkA
  obtain ⟨_, _, ⟨T₁, L₁, k₁, n₁⟩, -, X₁, ⟨Lc, ⟨rfl, hR1, hF1⟩, l₁, y₁, z₁⟩, st⟩ := X.virtualBack hx (own := kName (pK m)) (index := idx) (y := pName k) (z := pName k) hown (mvT hZ (qw_ml W (pK m, idx, k) m1)) (mvT hZ w1) (notFace_of_selects (args := #[]) (mvT hZ w2)) (mvT hZ w2) (mvT hZ w3) (pOwn _ (pKlt k hkN))
    (backOf (W := (rest.map fun v => v.category).sum) (rm := ⟨pFr k, σ₁.length - σ.length, qhs σ₁ - qhs σ, pLo k⟩) (Q := fun v h L => v = Option.map (qv ad) w ∧ QRep Z n0 ad h σ₁ ∧ Fr n0 L) (QTri.met hkN hcal hR (Nat.le_of_ble_eq_true hlen) hret [] (Nat.le_refl _) (Nat.le_refl _) (Nat.le_refl _) (Nat.le_refl _)) hZ c1 c2 f1 f2) q1 q3 (g := mkF mid pc C (List.map (qv ad) (as.reverse ++ .ref a :: rest))) rfl hC (Steps.refl _) (argsL := as.map (qv ad)) (rest := rest.map (qv ad)) (sig_len hkN hna) (by simp [qv]) (by show 2 * 0 + _ ≤ _; rw [cats_qv]; omega) hd2 (fun _ _ => ⟨rfl, rfl, hc1, hsl⟩)
  dsimp only [Pt.U, Pt.locs, Pt.cells, Pt.slots] at X₁ l₁ y₁ z₁ st hR1
  subst l₁ y₁ z₁
  exact ⟨T₁, Lc, X₁, hR1, hF1, fun target q => st.trans q⟩
set_option maxHeartbeats 4000000 in
theorem QTri.callI (W : QW Z a0) {pc idx k a : Nat} {L : QLoc} {S as rest : List Value} {σ σ₁ : QHeap} (hc : pCode m pc = some (.invokespecial idx, k)) (hm : (lkV.contains (pK m, idx, k) && mI.contains k) = true) (hS : S = as.reverse ++ .ref a :: rest)
    (hna : as.length = pNA k) (hlen : Nat.ble (((Value.ref a :: as).map fun v => v.category).sum) (pMaxL k) = true) (hroom : (Nat.ble (pFr k + 1) (pFr m) && Nat.ble ((rest.map fun v => v.category).sum + (pMaxL k + 11) + pLo k) (pLo m)) = true)
    (hcal : QTri l Z n0 ad k (0, qentry (.ref a :: as) (pMaxL k), [], σ) none σ₁) (h : QTri l Z n0 ad m (pc + 3, L, rest, σ₁) v σ') : QTri l Z n0 ad m (pc, L, S, σ) v σ' := by
  have hd : decode (pBytes m) pc = .ok (.invokespecial idx, 3) := pDecN hc rfl
  subst hS
  obtain ⟨m1, m2⟩ := Bool.and_eq_true_iff.mp hm
  have m1 := mem_of_contains m1
  have m2 := mem_of_contains m2
  obtain ⟨hkA, -, hin, hrt⟩ := mIlt k m2
  have hkN := mAlt k hkA
  refine QTri.after (w := none) hcal h fun p e R s mid args below meth c T locs cells slots C hcx X hR hC hc1 hsl => ?_
  obtain ⟨hx, hZ, hby, hml, hret', hown, hnm, hfr, hlo⟩ := hcx
  have hd2 : decode c.code pc = .ok (.invokespecial idx, 3) := by rw [hby]; exact hd
  obtain ⟨f1, f2⟩ := QTri.room (σ := σ) (σ₁ := σ₁) hroom hfr hlo
  obtain ⟨c1, c2⟩ := (qw_cod W) k hkA
  have c1' := c1
  rw [hrt] at c1'
  obtain ⟨_, _, ⟨T₁, L₁, k₁, n₁⟩, -, X₁, ⟨Lc, ⟨rfl, hR1, hF1⟩, l₁, y₁, z₁⟩, st⟩ := X.specialBack hx (own := kName (pK m)) (index := idx) (y := pName k) hin hown (mvT hZ (qw_ml W (pK m, idx, k) m1)) (mvT hZ ((qw_ini W) k m2)) (mvT hZ c1') (pOwn _ (pKlt k hkN))
    (backOf (W := (rest.map fun v => v.category).sum) (rm := ⟨pFr k, σ₁.length - σ.length, qhs σ₁ - qhs σ, pLo k⟩) (Q := fun v h L => v = Option.map (qv ad) none ∧ QRep Z n0 ad h σ₁ ∧ Fr n0 L) (QTri.met hkN hcal hR (Nat.le_of_ble_eq_true hlen) (fun _ => rfl) [] (Nat.le_refl _) (Nat.le_refl _) (Nat.le_refl _) (Nat.le_refl _)) hZ c1 c2 f1 f2) (g := mkF mid pc C (List.map (qv ad) (as.reverse ++ .ref a :: rest))) rfl hC (Steps.refl _) (a := ad a) (argsL := as.map (qv ad)) (rest := rest.map (qv ad)) (sig_len hkN hna) (by simp [qv]) (by show 2 * 0 + _ ≤ _; rw [cats_qv]; omega) hd2 (fun _ _ => ⟨rfl, rfl, hc1, hsl⟩)
  dsimp only [Pt.U, Pt.locs, Pt.cells, Pt.slots] at X₁ l₁ y₁ z₁ st hR1
  subst l₁ y₁ z₁
  exact ⟨T₁, Lc, X₁, hR1, hF1, fun target q => st.trans q⟩
set_option maxHeartbeats 4000000 in
theorem QTri.callP (W : QW Z a0) {pc idx k a : Nat} {L : QLoc} {S as rest vs : List Value} {σ σ₁ : QHeap} {w : Option Value} (hc : pCode m pc = some (.invokevirtual idx, k)) (hm : (lkV.contains (pK m, idx, k) && mP.contains k) = true) (hcell : hget σ a = some (.inl vs)) (hS : S = as.reverse ++ .ref a :: rest)
    (hna : as.length = pNA k) (hlen : Nat.ble (((Value.ref a :: as).map fun v => v.category).sum) (pMaxL k) = true) (hroom : (Nat.ble (pFr k + 1) (pFr m) && Nat.ble ((rest.map fun v => v.category).sum + (pMaxL k + 11) + pLo k) (pLo m)) = true) (hrb : (w.isNone || (pRet k).isSome) = true)
    (hcal : QTri l Z n0 ad k (0, qentry (.ref a :: as) (pMaxL k), [], σ) w σ₁) (h : QTri l Z n0 ad m (pc + 3, L, w.toList ++ rest, σ₁) v σ') : QTri l Z n0 ad m (pc, L, S, σ) v σ' := by
  have hd : decode (pBytes m) pc = .ok (.invokevirtual idx, 3) := pDecN hc rfl
  subst hS
  obtain ⟨m1, m2⟩ := Bool.and_eq_true_iff.mp hm
  have m1 := mem_of_contains m1
  have m2 := mem_of_contains m2
  obtain ⟨hkA, hk1⟩ := mPlt k m2
  have hkN := mAlt k hkA
  have hret : pRet k = none → w = none := fun q => by
    rw [q] at hrb
    cases w with
    | none => rfl
    | some w => simp at hrb
  refine QTri.after hcal h fun p e R s mid args below meth c T locs cells slots C hcx X hR hC hc1 hsl => ?_
  obtain ⟨hx, hZ, hby, hml, hret', hown, hnm, hfr, hlo⟩ := hcx
  have hd2 : decode c.code pc = .ok (.invokevirtual idx, 3) := by rw [hby]; exact hd
  obtain ⟨f1, f2⟩ := QTri.room (σ := σ) (σ₁ := σ₁) hroom hfr hlo
  obtain ⟨cell, h1, h2⟩ := (hR.2.2 _ _ hcell).1.cell
  obtain ⟨w1, w2⟩ := (qw_pr W) k m2
  obtain ⟨c1, c2⟩ := (qw_cod W) k hkA
  have hpr : s.PrivateAt (pName k) := Cond.privateMethod_at (mvP hZ w2 (args := #[]))
  obtain ⟨cC, kC, i1, i2, i3, i4⟩ := Cond.instantiable_spec (args := #[]) (mvT hZ (qw_inst W))
  have hsel : (Cond.selects (pName k).cls (pName k) (pName k)).before args s = true := selects_self_of_private (c := cC) (k := kC) (by show s.vm.findClass (kName (pK k)) = _; rw [hk1]; exact i1) i2 (by have q := i4.1; cases hq : kC.isInterface with | false => rfl | true => rw [hq] at q; simp at q) hpr (mvT hZ w1) (pOwn _ (pKlt k hkN))
  obtain ⟨_, _, ⟨T₁, L₁, k₁, n₁⟩, -, X₁, ⟨Lc, ⟨rfl, hR1, hF1⟩, l₁, y₁, z₁⟩, st⟩ := X.privateBack hx (own := kName (pK m)) (index := idx) (y := pName k) hown (mvT hZ (qw_ml W (pK m, idx, k) m1)) (mvT hZ w1) hsel hpr (mvT hZ c1) (pOwn _ (pKlt k hkN))
    (backOf (W := (rest.map fun v => v.category).sum) (rm := ⟨pFr k, σ₁.length - σ.length, qhs σ₁ - qhs σ, pLo k⟩) (Q := fun v h L => v = Option.map (qv ad) w ∧ QRep Z n0 ad h σ₁ ∧ Fr n0 L) (QTri.met hkN hcal hR (Nat.le_of_ble_eq_true hlen) hret [] (Nat.le_refl _) (Nat.le_refl _) (Nat.le_refl _) (Nat.le_refl _)) hZ c1 c2 f1 f2) (g := mkF mid pc C (List.map (qv ad) (as.reverse ++ .ref a :: rest))) rfl hC (Steps.refl _) (a := ad a) h1 h2 (argsL := as.map (qv ad)) (rest := rest.map (qv ad)) (sig_len hkN hna) (by simp [qv]) (by show 2 * 0 + _ ≤ _; rw [cats_qv]; omega) hd2 (fun _ _ => ⟨rfl, rfl, hc1, hsl⟩)
  dsimp only [Pt.U, Pt.locs, Pt.cells, Pt.slots] at X₁ l₁ y₁ z₁ st hR1
  subst l₁ y₁ z₁
  exact ⟨T₁, Lc, X₁, hR1, hF1, fun target q => st.trans q⟩
set_option maxHeartbeats 4000000 in
theorem QTri.callS (W : QW Z a0) {pc idx k : Nat} {L : QLoc} {S as rest : List Value} {σ σ₁ : QHeap} {w : Option Value} (hc : pCode m pc = some (.invokestatic idx, k)) (hm : (lkV.contains (pK m, idx, k) && mS.contains k) = true) (hS : S = as.reverse ++ rest)
    (hna : as.length = pNA k) (hlen : Nat.ble ((as.map fun v => v.category).sum) (pMaxL k) = true) (hroom : (Nat.ble (pFr k + 1) (pFr m) && Nat.ble ((rest.map fun v => v.category).sum + (pMaxL k + 11) + pLo k) (pLo m)) = true) (hrb : (w.isNone || (pRet k).isSome) = true)
    (hcal : QTri l Z n0 ad k (0, qentry as (pMaxL k), [], σ) w σ₁) (h : QTri l Z n0 ad m (pc + 3, L, w.toList ++ rest, σ₁) v σ') : QTri l Z n0 ad m (pc, L, S, σ) v σ' := by
  have hd : decode (pBytes m) pc = .ok (.invokestatic idx, 3) := pDecN hc rfl
  subst hS
  obtain ⟨m1, m2⟩ := Bool.and_eq_true_iff.mp hm
  have m1 := mem_of_contains m1
  have m2 := mem_of_contains m2
  have hkA := mSlt k m2
  have hkN := mAlt k hkA
  have hret : pRet k = none → w = none := fun q => by
    rw [q] at hrb
    cases w with
    | none => rfl
    | some w => simp at hrb
  refine QTri.after hcal h fun p e R s mid args below meth c T locs cells slots C hcx X hR hC hc1 hsl => ?_
  obtain ⟨hx, hZ, hby, hml, hret', hown, hnm, hfr, hlo⟩ := hcx
  have hd2 : decode c.code pc = .ok (.invokestatic idx, 3) := by rw [hby]; exact hd
  obtain ⟨f1, f2⟩ := QTri.room (σ := σ) (σ₁ := σ₁) hroom hfr hlo
  obtain ⟨c1, c2⟩ := (qw_cod W) k hkA
  obtain ⟨_, _, ⟨T₁, L₁, k₁, n₁⟩, -, X₁, ⟨Lc, ⟨rfl, hR1, hF1⟩, l₁, y₁, z₁⟩, st⟩ := Jvm.LawKit.callS X hx (own := kName (pK m)) (index := idx) (y := pName k) hown (mvT hZ (qw_ml W (pK m, idx, k) m1)) (mvT hZ ((qw_st W) k m2)) (mvT hZ c2) (mvT hZ c1) (pOwn _ (pKlt k hkN))
    (backOf (W := (rest.map fun v => v.category).sum) (rm := ⟨pFr k, σ₁.length - σ.length, qhs σ₁ - qhs σ, pLo k⟩) (Q := fun v h L => v = Option.map (qv ad) w ∧ QRep Z n0 ad h σ₁ ∧ Fr n0 L) (QTri.met hkN hcal hR (Nat.le_of_ble_eq_true hlen) hret [] (Nat.le_refl _) (Nat.le_refl _) (Nat.le_refl _) (Nat.le_refl _)) hZ c1 c2 f1 f2) (g := mkF mid pc C (List.map (qv ad) (as.reverse ++ rest))) rfl hC (argsL := as.map (qv ad)) (rest := rest.map (qv ad)) (sig_len hkN hna) (by simp) (by show 2 * 0 + _ ≤ _; rw [cats_qv]; omega) hd2 (fun _ _ => ⟨rfl, rfl, hc1, hsl⟩)
  dsimp only [Pt.U, Pt.locs, Pt.cells, Pt.slots] at X₁ l₁ y₁ z₁ st hR1
  subst l₁ y₁ z₁
  exact ⟨T₁, Lc, X₁, hR1, hF1, fun target q => st target q⟩
set_option maxHeartbeats 4000000 in
theorem QTri.callO (W : QW Z a0) {pc idx k a : Nat} {L : QLoc} {rest : List Value} {σ : QHeap} (hc : pCode m pc = some (.invokespecial idx, k)) (hm : lkO.contains (pK m, idx) = true) (hroom : (Nat.ble 1 (pFr m) && Nat.ble ((rest.map fun v => v.category).sum + 12) (pLo m)) = true)
    (h : QTri l Z n0 ad m (pc + 3, L, rest, σ) v σ') : QTri l Z n0 ad m (pc, L, .ref a :: rest, σ) v σ' :=
  have hd : decode (pBytes m) pc = .ok (.invokespecial idx, 3) := pDecN hc rfl
  QTri.pure h rfl fun p e R s mid args below meth c T locs cells slots C hcx X hR hL hC => by
    obtain ⟨hx, hZ, hby, hml, hret', hown, hnm, hfr, hlo⟩ := hcx
    have hd2 : decode c.code pc = .ok (.invokespecial idx, 3) := by rw [hby]; exact hd
    obtain ⟨q1, q2⟩ := Bool.and_eq_true_iff.mp hroom
    obtain ⟨T₁, X₁, e₁, st⟩ := initO X hx hZ hown (idx := idx) (qw_mo W (pK m, idx) (mem_of_contains hm)) ((qw_oi W)) ((qw_oc W)) rfl (g := mkF mid pc C (List.map (qv ad) (.ref a :: rest))) rfl hC rfl hd2 (Nat.le_trans (Nat.le_of_ble_eq_true q1) hfr) (W := (rest.map fun v => v.category).sum) (by show 2 * 0 + _ ≤ _; rw [cats_qv]; omega) (Nat.le_trans (Nat.le_of_ble_eq_true q2) hlo)
    exact ⟨T₁, C, X₁, e₁, hL, hC, st⟩
theorem QTri.brT (Ad : QAd n0 ad) (W : QW Z a0) {st : QSt} {t f : Nat} {L : QLoc} {S : List Value} {σ : QHeap} {b : Bool} (hs : qstep m st = some (bif b then t else f, L, S, σ)) (hb : b = true) (h : QTri l Z n0 ad m (t, L, S, σ) v σ') : QTri l Z n0 ad m st v σ' := by
  subst hb; exact QTri.step Ad W h hs
theorem QTri.brF (Ad : QAd n0 ad) (W : QW Z a0) {st : QSt} {t f : Nat} {L : QLoc} {S : List Value} {σ : QHeap} {b : Bool} (hs : qstep m st = some (bif b then t else f, L, S, σ)) (hb : b = false) (h : QTri l Z n0 ad m (f, L, S, σ) v σ') : QTri l Z n0 ad m st v σ' := by
  subst hb; exact QTri.step Ad W h hs
theorem QTri.bnd {α : Type} (Ad : QAd n0 ad) (W : QW Z a0) {st : QSt} {x : Option α} {f : α → QSt} {a : α} (hs : qstep m st = x.bind fun v => some (f v)) (hx : x = some a) (h : QTri l Z n0 ad m (f a) v σ') : QTri l Z n0 ad m st v σ' :=
  QTri.step Ad W h (by rw [hs, hx]; rfl)
theorem QTri.bndB (Ad : QAd n0 ad) (W : QW Z a0) {st : QSt} {x y : Int32} {g : Value → QSt} (hs : qstep m st = ((qboo x).bind fun y => some (Value.int y)).bind fun w => some (g w)) (hx : qboo x = some y) (h : QTri l Z n0 ad m (g (.int y)) v σ') : QTri l Z n0 ad m st v σ' :=
  QTri.step Ad W h (by rw [hs, hx]; rfl)
end Triples
/-! ## plain: branches and loops -/
theorem qite {α : Type} {c : Prop} [Decidable c] {a b : Option α} {r : α} (h : (if c then a else b) = some r) : (c ∧ a = some r) ∨ (¬ c ∧ b = some r) := by
  by_cases hc : c
  · exact Or.inl ⟨hc, by rwa [if_pos hc] at h⟩
  · exact Or.inr ⟨hc, by rwa [if_neg hc] at h⟩
def qN : Nat := 4000
def loopN {V E : Type} (B : V → Option (E ⊕ V)) : Nat → V → Option E
  | 0, _ => none
  | n + 1, v => match B v with
    | none => none
    | some (.inl e) => some e
    | some (.inr v') => loopN B n v'
theorem loopN_tri {V E : Type} {B : V → Option (E ⊕ V)} {T : V → Prop} {KE : E → Prop} (hB : ∀ v r, B v = some r → (∀ e, r = .inl e → KE e) → (∀ v', r = .inr v' → T v') → T v) : ∀ (n : Nat) (v : V) (e : E), loopN B n v = some e → KE e → T v
  | 0, _, _, h, _ => by cases h
  | n + 1, v, e, h, k => by
    simp only [loopN] at h
    split at h
    · cases h
    · rename_i e' he
      cases h
      exact hB v _ he (fun e q => by cases q; exact k) (fun v' q => by cases q)
    · rename_i v' he
      exact hB v _ he (fun e q => by cases q) (fun v'' q => by cases q; exact loopN_tri hB n v' e h k)
/-- a loop: an invariant, a measure -/
theorem loopN_inv {V E : Type} {B : V → Option (E ⊕ V)} (I : V → Prop) (P : E → Prop) (μ : V → Nat) (hB : ∀ v, I v → (∃ e, B v = some (.inl e) ∧ P e) ∨ ∃ v', B v = some (.inr v') ∧ I v' ∧ μ v' < μ v) : ∀ (n : Nat) (v : V), I v → μ v < n → ∃ e, loopN B n v = some e ∧ P e
  | 0, _, _, h => absurd h (Nat.not_lt_zero _)
  | n + 1, v, hv, hm => by
    rcases hB v hv with ⟨e, h1, h2⟩ | ⟨v', h1, h2, h3⟩
    · exact ⟨e, by simp only [loopN, h1], h2⟩
    · obtain ⟨e, g1, g2⟩ := loopN_inv I P μ hB n v' h2 (by omega)
      exact ⟨e, by simp only [loopN, h1]; exact g1, g2⟩
theorem qfn {α : Type} {P : α → Prop} : ∀ t ∈ ([] : List α), P t := fun _ h => nomatch h
theorem qfc {α : Type} {P : α → Prop} {a : α} {t : List α} (h : P a) (ht : ∀ x ∈ t, P x) : ∀ x ∈ a :: t, P x := fun x hx => by rcases List.mem_cons.mp hx with rfl | q; exact h; exact ht x q
theorem QW_ok {Z : State} {a0 : Array Value} (hw : ∀ d ∈ tables_1, d.before a0 Z = true) : QW Z a0 := by
  have w0 : ∀ k ∈ List.range nF, bif fFin k then (Jvm.Cond.laysFinal cName cName (fNm k) (fDs k)).before a0 Z = true else (Jvm.Cond.lays cName cName (fNm k) (fDs k)).before a0 Z = true :=
    show ∀ k ∈ [0, 1, 2, 3, 4, 5, 6, 7, 8, 9, 10, 11, 12], bif fFin k then (Jvm.Cond.laysFinal cName cName (fNm k) (fDs k)).before a0 Z = true else (Jvm.Cond.lays cName cName (fNm k) (fDs k)).before a0 Z = true from
    (qfc (hw _ (List.mem_of_getElem? (i := 11) rfl)) (qfc (hw _ (List.mem_of_getElem? (i := 13) rfl)) (qfc (hw _ (List.mem_of_getElem? (i := 16) rfl)) (qfc (hw _ (List.mem_of_getElem? (i := 18) rfl)) (qfc (hw _ (List.mem_of_getElem? (i := 20) rfl)) (qfc (hw _ (List.mem_of_getElem? (i := 22) rfl)) (qfc (hw _ (List.mem_of_getElem? (i := 24) rfl)) (qfc (hw _ (List.mem_of_getElem? (i := 30) rfl)) (qfc (hw _ (List.mem_of_getElem? (i := 32) rfl)) (qfc (hw _ (List.mem_of_getElem? (i := 34) rfl)) (qfc (hw _ (List.mem_of_getElem? (i := 36) rfl)) (qfc (hw _ (List.mem_of_getElem? (i := 38) rfl)) (qfc (hw _ (List.mem_of_getElem? (i := 40) rfl)) qfn)))))))))))))
  refine ⟨?_, ?_, ?_, ?_, ?_, ?_, ?_, ?_, ?_, ?_, ?_, ?_, ?_, (fun k hk => w0 k (List.mem_range.mpr hk)), ?_, ?_, ?_⟩
  · exact (qfc (hw _ (List.mem_of_getElem? (i := 10) rfl)) (qfc (hw _ (List.mem_of_getElem? (i := 12) rfl)) (qfc (hw _ (List.mem_of_getElem? (i := 15) rfl)) (qfc (hw _ (List.mem_of_getElem? (i := 17) rfl)) (qfc (hw _ (List.mem_of_getElem? (i := 19) rfl)) (qfc (hw _ (List.mem_of_getElem? (i := 21) rfl)) (qfc (hw _ (List.mem_of_getElem? (i := 23) rfl)) (qfc (hw _ (List.mem_of_getElem? (i := 29) rfl)) (qfc (hw _ (List.mem_of_getElem? (i := 31) rfl)) (qfc (hw _ (List.mem_of_getElem? (i := 33) rfl)) (qfc (hw _ (List.mem_of_getElem? (i := 35) rfl)) (qfc (hw _ (List.mem_of_getElem? (i := 37) rfl)) (qfc (hw _ (List.mem_of_getElem? (i := 39) rfl)) qfn)))))))))))))
  · exact (qfc (hw _ (List.mem_of_getElem? (i := 0) rfl)) qfn)
  · exact qfn
  · exact (qfc ⟨_, rfl, (hw _ (List.mem_of_getElem? (i := 70) rfl))⟩ qfn)
  · exact (qfc (hw _ (List.mem_of_getElem? (i := 3) rfl)) (qfc (hw _ (List.mem_of_getElem? (i := 25) rfl)) (qfc (hw _ (List.mem_of_getElem? (i := 41) rfl)) (qfc (hw _ (List.mem_of_getElem? (i := 46) rfl)) (qfc (hw _ (List.mem_of_getElem? (i := 50) rfl)) (qfc (hw _ (List.mem_of_getElem? (i := 54) rfl)) (qfc (hw _ (List.mem_of_getElem? (i := 59) rfl)) (qfc (hw _ (List.mem_of_getElem? (i := 62) rfl)) (qfc (hw _ (List.mem_of_getElem? (i := 65) rfl)) (qfc (hw _ (List.mem_of_getElem? (i := 71) rfl)) (qfc (hw _ (List.mem_of_getElem? (i := 76) rfl)) (qfc (hw _ (List.mem_of_getElem? (i := 81) rfl)) (qfc (hw _ (List.mem_of_getElem? (i := 86) rfl)) (qfc (hw _ (List.mem_of_getElem? (i := 90) rfl)) (qfc (hw _ (List.mem_of_getElem? (i := 95) rfl)) (qfc (hw _ (List.mem_of_getElem? (i := 100) rfl)) (qfc (hw _ (List.mem_of_getElem? (i := 105) rfl)) (qfc (hw _ (List.mem_of_getElem? (i := 110) rfl)) (qfc (hw _ (List.mem_of_getElem? (i := 115) rfl)) (qfc (hw _ (List.mem_of_getElem? (i := 120) rfl)) (qfc (hw _ (List.mem_of_getElem? (i := 124) rfl)) (qfc (hw _ (List.mem_of_getElem? (i := 128) rfl)) (qfc (hw _ (List.mem_of_getElem? (i := 132) rfl)) (qfc (hw _ (List.mem_of_getElem? (i := 136) rfl)) (qfc (hw _ (List.mem_of_getElem? (i := 141) rfl)) (qfc (hw _ (List.mem_of_getElem? (i := 146) rfl)) (qfc (hw _ (List.mem_of_getElem? (i := 150) rfl)) (qfc (hw _ (List.mem_of_getElem? (i := 154) rfl)) (qfc (hw _ (List.mem_of_getElem? (i := 158) rfl)) (qfc (hw _ (List.mem_of_getElem? (i := 162) rfl)) (qfc (hw _ (List.mem_of_getElem? (i := 166) rfl)) (qfc (hw _ (List.mem_of_getElem? (i := 171) rfl)) qfn))))))))))))))))))))))))))))))))
  · exact (qfc (hw _ (List.mem_of_getElem? (i := 6) rfl)) qfn)
  · exact (qfc ⟨(hw _ (List.mem_of_getElem? (i := 42) rfl)), (hw _ (List.mem_of_getElem? (i := 44) rfl)), (hw _ (List.mem_of_getElem? (i := 43) rfl))⟩ (qfc ⟨(hw _ (List.mem_of_getElem? (i := 55) rfl)), (hw _ (List.mem_of_getElem? (i := 57) rfl)), (hw _ (List.mem_of_getElem? (i := 56) rfl))⟩ (qfc ⟨(hw _ (List.mem_of_getElem? (i := 66) rfl)), (hw _ (List.mem_of_getElem? (i := 68) rfl)), (hw _ (List.mem_of_getElem? (i := 67) rfl))⟩ (qfc ⟨(hw _ (List.mem_of_getElem? (i := 72) rfl)), (hw _ (List.mem_of_getElem? (i := 74) rfl)), (hw _ (List.mem_of_getElem? (i := 73) rfl))⟩ (qfc ⟨(hw _ (List.mem_of_getElem? (i := 77) rfl)), (hw _ (List.mem_of_getElem? (i := 79) rfl)), (hw _ (List.mem_of_getElem? (i := 78) rfl))⟩ (qfc ⟨(hw _ (List.mem_of_getElem? (i := 82) rfl)), (hw _ (List.mem_of_getElem? (i := 84) rfl)), (hw _ (List.mem_of_getElem? (i := 83) rfl))⟩ (qfc ⟨(hw _ (List.mem_of_getElem? (i := 91) rfl)), (hw _ (List.mem_of_getElem? (i := 93) rfl)), (hw _ (List.mem_of_getElem? (i := 92) rfl))⟩ (qfc ⟨(hw _ (List.mem_of_getElem? (i := 96) rfl)), (hw _ (List.mem_of_getElem? (i := 98) rfl)), (hw _ (List.mem_of_getElem? (i := 97) rfl))⟩ (qfc ⟨(hw _ (List.mem_of_getElem? (i := 101) rfl)), (hw _ (List.mem_of_getElem? (i := 103) rfl)), (hw _ (List.mem_of_getElem? (i := 102) rfl))⟩ (qfc ⟨(hw _ (List.mem_of_getElem? (i := 106) rfl)), (hw _ (List.mem_of_getElem? (i := 108) rfl)), (hw _ (List.mem_of_getElem? (i := 107) rfl))⟩ (qfc ⟨(hw _ (List.mem_of_getElem? (i := 111) rfl)), (hw _ (List.mem_of_getElem? (i := 113) rfl)), (hw _ (List.mem_of_getElem? (i := 112) rfl))⟩ (qfc ⟨(hw _ (List.mem_of_getElem? (i := 116) rfl)), (hw _ (List.mem_of_getElem? (i := 118) rfl)), (hw _ (List.mem_of_getElem? (i := 117) rfl))⟩ (qfc ⟨(hw _ (List.mem_of_getElem? (i := 137) rfl)), (hw _ (List.mem_of_getElem? (i := 139) rfl)), (hw _ (List.mem_of_getElem? (i := 138) rfl))⟩ (qfc ⟨(hw _ (List.mem_of_getElem? (i := 142) rfl)), (hw _ (List.mem_of_getElem? (i := 144) rfl)), (hw _ (List.mem_of_getElem? (i := 143) rfl))⟩ (qfc ⟨(hw _ (List.mem_of_getElem? (i := 167) rfl)), (hw _ (List.mem_of_getElem? (i := 169) rfl)), (hw _ (List.mem_of_getElem? (i := 168) rfl))⟩ qfn)))))))))))))))
  · exact (qfc ⟨(hw _ (List.mem_of_getElem? (i := 26) rfl)), (hw _ (List.mem_of_getElem? (i := 27) rfl))⟩ (qfc ⟨(hw _ (List.mem_of_getElem? (i := 47) rfl)), (hw _ (List.mem_of_getElem? (i := 48) rfl))⟩ (qfc ⟨(hw _ (List.mem_of_getElem? (i := 87) rfl)), (hw _ (List.mem_of_getElem? (i := 88) rfl))⟩ (qfc ⟨(hw _ (List.mem_of_getElem? (i := 121) rfl)), (hw _ (List.mem_of_getElem? (i := 122) rfl))⟩ (qfc ⟨(hw _ (List.mem_of_getElem? (i := 125) rfl)), (hw _ (List.mem_of_getElem? (i := 126) rfl))⟩ (qfc ⟨(hw _ (List.mem_of_getElem? (i := 129) rfl)), (hw _ (List.mem_of_getElem? (i := 130) rfl))⟩ (qfc ⟨(hw _ (List.mem_of_getElem? (i := 133) rfl)), (hw _ (List.mem_of_getElem? (i := 134) rfl))⟩ (qfc ⟨(hw _ (List.mem_of_getElem? (i := 147) rfl)), (hw _ (List.mem_of_getElem? (i := 148) rfl))⟩ (qfc ⟨(hw _ (List.mem_of_getElem? (i := 151) rfl)), (hw _ (List.mem_of_getElem? (i := 152) rfl))⟩ (qfc ⟨(hw _ (List.mem_of_getElem? (i := 155) rfl)), (hw _ (List.mem_of_getElem? (i := 156) rfl))⟩ (qfc ⟨(hw _ (List.mem_of_getElem? (i := 159) rfl)), (hw _ (List.mem_of_getElem? (i := 160) rfl))⟩ (qfc ⟨(hw _ (List.mem_of_getElem? (i := 163) rfl)), (hw _ (List.mem_of_getElem? (i := 164) rfl))⟩ (qfc ⟨(hw _ (List.mem_of_getElem? (i := 172) rfl)), (hw _ (List.mem_of_getElem? (i := 173) rfl))⟩ qfn)))))))))))))
  · exact (qfc (hw _ (List.mem_of_getElem? (i := 51) rfl)) (qfc (hw _ (List.mem_of_getElem? (i := 60) rfl)) (qfc (hw _ (List.mem_of_getElem? (i := 63) rfl)) qfn)))
  · exact (qfc (hw _ (List.mem_of_getElem? (i := 4) rfl)) qfn)
  · exact (qfc ⟨(hw _ (List.mem_of_getElem? (i := 5) rfl)), (hw _ (List.mem_of_getElem? (i := 2) rfl))⟩ (qfc ⟨(hw _ (List.mem_of_getElem? (i := 28) rfl)), (hw _ (List.mem_of_getElem? (i := 2) rfl))⟩ (qfc ⟨(hw _ (List.mem_of_getElem? (i := 45) rfl)), (hw _ (List.mem_of_getElem? (i := 2) rfl))⟩ (qfc ⟨(hw _ (List.mem_of_getElem? (i := 49) rfl)), (hw _ (List.mem_of_getElem? (i := 2) rfl))⟩ (qfc ⟨(hw _ (List.mem_of_getElem? (i := 53) rfl)), (hw _ (List.mem_of_getElem? (i := 52) rfl))⟩ (qfc ⟨(hw _ (List.mem_of_getElem? (i := 58) rfl)), (hw _ (List.mem_of_getElem? (i := 2) rfl))⟩ (qfc ⟨(hw _ (List.mem_of_getElem? (i := 61) rfl)), (hw _ (List.mem_of_getElem? (i := 52) rfl))⟩ (qfc ⟨(hw _ (List.mem_of_getElem? (i := 64) rfl)), (hw _ (List.mem_of_getElem? (i := 52) rfl))⟩ (qfc ⟨(hw _ (List.mem_of_getElem? (i := 69) rfl)), (hw _ (List.mem_of_getElem? (i := 2) rfl))⟩ (qfc ⟨(hw _ (List.mem_of_getElem? (i := 75) rfl)), (hw _ (List.mem_of_getElem? (i := 2) rfl))⟩ (qfc ⟨(hw _ (List.mem_of_getElem? (i := 80) rfl)), (hw _ (List.mem_of_getElem? (i := 2) rfl))⟩ (qfc ⟨(hw _ (List.mem_of_getElem? (i := 85) rfl)), (hw _ (List.mem_of_getElem? (i := 2) rfl))⟩ (qfc ⟨(hw _ (List.mem_of_getElem? (i := 89) rfl)), (hw _ (List.mem_of_getElem? (i := 2) rfl))⟩ (qfc ⟨(hw _ (List.mem_of_getElem? (i := 94) rfl)), (hw _ (List.mem_of_getElem? (i := 2) rfl))⟩ (qfc ⟨(hw _ (List.mem_of_getElem? (i := 99) rfl)), (hw _ (List.mem_of_getElem? (i := 2) rfl))⟩ (qfc ⟨(hw _ (List.mem_of_getElem? (i := 104) rfl)), (hw _ (List.mem_of_getElem? (i := 2) rfl))⟩ (qfc ⟨(hw _ (List.mem_of_getElem? (i := 109) rfl)), (hw _ (List.mem_of_getElem? (i := 2) rfl))⟩ (qfc ⟨(hw _ (List.mem_of_getElem? (i := 114) rfl)), (hw _ (List.mem_of_getElem? (i := 2) rfl))⟩ (qfc ⟨(hw _ (List.mem_of_getElem? (i := 119) rfl)), (hw _ (List.mem_of_getElem? (i := 2) rfl))⟩ (qfc ⟨(hw _ (List.mem_of_getElem? (i := 123) rfl)), (hw _ (List.mem_of_getElem? (i := 2) rfl))⟩ (qfc ⟨(hw _ (List.mem_of_getElem? (i := 127) rfl)), (hw _ (List.mem_of_getElem? (i := 2) rfl))⟩ (qfc ⟨(hw _ (List.mem_of_getElem? (i := 131) rfl)), (hw _ (List.mem_of_getElem? (i := 2) rfl))⟩ (qfc ⟨(hw _ (List.mem_of_getElem? (i := 135) rfl)), (hw _ (List.mem_of_getElem? (i := 2) rfl))⟩ (qfc ⟨(hw _ (List.mem_of_getElem? (i := 140) rfl)), (hw _ (List.mem_of_getElem? (i := 2) rfl))⟩ (qfc ⟨(hw _ (List.mem_of_getElem? (i := 145) rfl)), (hw _ (List.mem_of_getElem? (i := 2) rfl))⟩ (qfc ⟨(hw _ (List.mem_of_getElem? (i := 149) rfl)), (hw _ (List.mem_of_getElem? (i := 2) rfl))⟩ (qfc ⟨(hw _ (List.mem_of_getElem? (i := 153) rfl)), (hw _ (List.mem_of_getElem? (i := 2) rfl))⟩ (qfc ⟨(hw _ (List.mem_of_getElem? (i := 157) rfl)), (hw _ (List.mem_of_getElem? (i := 2) rfl))⟩ (qfc ⟨(hw _ (List.mem_of_getElem? (i := 161) rfl)), (hw _ (List.mem_of_getElem? (i := 2) rfl))⟩ (qfc ⟨(hw _ (List.mem_of_getElem? (i := 165) rfl)), (hw _ (List.mem_of_getElem? (i := 2) rfl))⟩ (qfc ⟨(hw _ (List.mem_of_getElem? (i := 170) rfl)), (hw _ (List.mem_of_getElem? (i := 2) rfl))⟩ (qfc ⟨(hw _ (List.mem_of_getElem? (i := 174) rfl)), (hw _ (List.mem_of_getElem? (i := 2) rfl))⟩ qfn))))))))))))))))))))))))))))))))
  · exact (hw _ (List.mem_of_getElem? (i := 7) rfl))
  · exact (hw _ (List.mem_of_getElem? (i := 8) rfl))
  · exact (hw _ (List.mem_of_getElem? (i := 1) rfl))
  · exact (hw _ (List.mem_of_getElem? (i := 2) rfl))
  · exact (qfc (hw _ (List.mem_of_getElem? (i := 9) rfl)) (qfc (hw _ (List.mem_of_getElem? (i := 14) rfl)) qfn))
abbrev Ob := List Int32 × List Int32 × List Int32 × List Int32 × List Int32 × List Int32 × List Int32 × Int32 × Int32 × Int32 × Int32 × Int32 × Int32
def f_value (o : Ob) : List Int32 := o.1
def f_version (o : Ob) : List Int32 := o.2.1
def f_active (o : Ob) : List Int32 := o.2.2.1
def f_start (o : Ob) : List Int32 := o.2.2.2.1
def f_readSet (o : Ob) : List Int32 := o.2.2.2.2.1
def f_writeSet (o : Ob) : List Int32 := o.2.2.2.2.2.1
def f_buffered (o : Ob) : List Int32 := o.2.2.2.2.2.2.1
def f_keyCount (o : Ob) : Int32 := o.2.2.2.2.2.2.2.1
def f_slotCount (o : Ob) : Int32 := o.2.2.2.2.2.2.2.2.1
def f_window (o : Ob) : Int32 := o.2.2.2.2.2.2.2.2.2.1
def f_commitCount (o : Ob) : Int32 := o.2.2.2.2.2.2.2.2.2.2.1
def f_abortCount (o : Ob) : Int32 := o.2.2.2.2.2.2.2.2.2.2.2.1
def f_lastConflict (o : Ob) : Int32 := o.2.2.2.2.2.2.2.2.2.2.2.2
def s_value (o : Ob) (v : List Int32) : Ob := (v, o.2.1, o.2.2.1, o.2.2.2.1, o.2.2.2.2.1, o.2.2.2.2.2.1, o.2.2.2.2.2.2.1, o.2.2.2.2.2.2.2.1, o.2.2.2.2.2.2.2.2.1, o.2.2.2.2.2.2.2.2.2.1, o.2.2.2.2.2.2.2.2.2.2.1, o.2.2.2.2.2.2.2.2.2.2.2.1, o.2.2.2.2.2.2.2.2.2.2.2.2)
def s_version (o : Ob) (v : List Int32) : Ob := (o.1, v, o.2.2.1, o.2.2.2.1, o.2.2.2.2.1, o.2.2.2.2.2.1, o.2.2.2.2.2.2.1, o.2.2.2.2.2.2.2.1, o.2.2.2.2.2.2.2.2.1, o.2.2.2.2.2.2.2.2.2.1, o.2.2.2.2.2.2.2.2.2.2.1, o.2.2.2.2.2.2.2.2.2.2.2.1, o.2.2.2.2.2.2.2.2.2.2.2.2)
def s_active (o : Ob) (v : List Int32) : Ob := (o.1, o.2.1, v, o.2.2.2.1, o.2.2.2.2.1, o.2.2.2.2.2.1, o.2.2.2.2.2.2.1, o.2.2.2.2.2.2.2.1, o.2.2.2.2.2.2.2.2.1, o.2.2.2.2.2.2.2.2.2.1, o.2.2.2.2.2.2.2.2.2.2.1, o.2.2.2.2.2.2.2.2.2.2.2.1, o.2.2.2.2.2.2.2.2.2.2.2.2)
def s_start (o : Ob) (v : List Int32) : Ob := (o.1, o.2.1, o.2.2.1, v, o.2.2.2.2.1, o.2.2.2.2.2.1, o.2.2.2.2.2.2.1, o.2.2.2.2.2.2.2.1, o.2.2.2.2.2.2.2.2.1, o.2.2.2.2.2.2.2.2.2.1, o.2.2.2.2.2.2.2.2.2.2.1, o.2.2.2.2.2.2.2.2.2.2.2.1, o.2.2.2.2.2.2.2.2.2.2.2.2)
def s_readSet (o : Ob) (v : List Int32) : Ob := (o.1, o.2.1, o.2.2.1, o.2.2.2.1, v, o.2.2.2.2.2.1, o.2.2.2.2.2.2.1, o.2.2.2.2.2.2.2.1, o.2.2.2.2.2.2.2.2.1, o.2.2.2.2.2.2.2.2.2.1, o.2.2.2.2.2.2.2.2.2.2.1, o.2.2.2.2.2.2.2.2.2.2.2.1, o.2.2.2.2.2.2.2.2.2.2.2.2)
def s_writeSet (o : Ob) (v : List Int32) : Ob := (o.1, o.2.1, o.2.2.1, o.2.2.2.1, o.2.2.2.2.1, v, o.2.2.2.2.2.2.1, o.2.2.2.2.2.2.2.1, o.2.2.2.2.2.2.2.2.1, o.2.2.2.2.2.2.2.2.2.1, o.2.2.2.2.2.2.2.2.2.2.1, o.2.2.2.2.2.2.2.2.2.2.2.1, o.2.2.2.2.2.2.2.2.2.2.2.2)
def s_buffered (o : Ob) (v : List Int32) : Ob := (o.1, o.2.1, o.2.2.1, o.2.2.2.1, o.2.2.2.2.1, o.2.2.2.2.2.1, v, o.2.2.2.2.2.2.2.1, o.2.2.2.2.2.2.2.2.1, o.2.2.2.2.2.2.2.2.2.1, o.2.2.2.2.2.2.2.2.2.2.1, o.2.2.2.2.2.2.2.2.2.2.2.1, o.2.2.2.2.2.2.2.2.2.2.2.2)
def s_keyCount (o : Ob) (v : Int32) : Ob := (o.1, o.2.1, o.2.2.1, o.2.2.2.1, o.2.2.2.2.1, o.2.2.2.2.2.1, o.2.2.2.2.2.2.1, v, o.2.2.2.2.2.2.2.2.1, o.2.2.2.2.2.2.2.2.2.1, o.2.2.2.2.2.2.2.2.2.2.1, o.2.2.2.2.2.2.2.2.2.2.2.1, o.2.2.2.2.2.2.2.2.2.2.2.2)
def s_slotCount (o : Ob) (v : Int32) : Ob := (o.1, o.2.1, o.2.2.1, o.2.2.2.1, o.2.2.2.2.1, o.2.2.2.2.2.1, o.2.2.2.2.2.2.1, o.2.2.2.2.2.2.2.1, v, o.2.2.2.2.2.2.2.2.2.1, o.2.2.2.2.2.2.2.2.2.2.1, o.2.2.2.2.2.2.2.2.2.2.2.1, o.2.2.2.2.2.2.2.2.2.2.2.2)
def s_window (o : Ob) (v : Int32) : Ob := (o.1, o.2.1, o.2.2.1, o.2.2.2.1, o.2.2.2.2.1, o.2.2.2.2.2.1, o.2.2.2.2.2.2.1, o.2.2.2.2.2.2.2.1, o.2.2.2.2.2.2.2.2.1, v, o.2.2.2.2.2.2.2.2.2.2.1, o.2.2.2.2.2.2.2.2.2.2.2.1, o.2.2.2.2.2.2.2.2.2.2.2.2)
def s_commitCount (o : Ob) (v : Int32) : Ob := (o.1, o.2.1, o.2.2.1, o.2.2.2.1, o.2.2.2.2.1, o.2.2.2.2.2.1, o.2.2.2.2.2.2.1, o.2.2.2.2.2.2.2.1, o.2.2.2.2.2.2.2.2.1, o.2.2.2.2.2.2.2.2.2.1, v, o.2.2.2.2.2.2.2.2.2.2.2.1, o.2.2.2.2.2.2.2.2.2.2.2.2)
def s_abortCount (o : Ob) (v : Int32) : Ob := (o.1, o.2.1, o.2.2.1, o.2.2.2.1, o.2.2.2.2.1, o.2.2.2.2.2.1, o.2.2.2.2.2.2.1, o.2.2.2.2.2.2.2.1, o.2.2.2.2.2.2.2.2.1, o.2.2.2.2.2.2.2.2.2.1, o.2.2.2.2.2.2.2.2.2.2.1, v, o.2.2.2.2.2.2.2.2.2.2.2.2)
def s_lastConflict (o : Ob) (v : Int32) : Ob := (o.1, o.2.1, o.2.2.1, o.2.2.2.1, o.2.2.2.2.1, o.2.2.2.2.2.1, o.2.2.2.2.2.2.1, o.2.2.2.2.2.2.2.1, o.2.2.2.2.2.2.2.2.1, o.2.2.2.2.2.2.2.2.2.1, o.2.2.2.2.2.2.2.2.2.2.1, o.2.2.2.2.2.2.2.2.2.2.2.1, v)
def ob0 : Ob := ([], [], [], [], [], [], [], 0, 0, 0, 0, 0, 0)
section Walks
variable {l : Launch} {Z : State} {n0 : Nat} {ad : Nat → Addr} {a0 : Array Value}
set_option maxRecDepth 20000
def H0 (s : List Int32) (o0 : Ob) : QHeap := [.inr (.inl (.int, s)), .inl [.ref 2, .ref 3, .ref 4, .ref 5, .ref 6, .ref 7, .ref 8, .int (f_keyCount o0), .int (f_slotCount o0), .int (f_window o0), .int (f_commitCount o0), .int (f_abortCount o0), .int (f_lastConflict o0)], .inr (.inl (.int, (f_value o0))), .inr (.inl (.int, (f_version o0))), .inr (.inl (.boolean, (f_active o0))), .inr (.inl (.int, (f_start o0))), .inr (.inl (.int, (f_readSet o0))), .inr (.inl (.int, (f_writeSet o0))), .inr (.inl (.int, (f_buffered o0)))]
/-- clamp(III)I -/
def F2 (x1 : Int32) (x2 : Int32) (x3 : Int32) : Option (Int32) :=
  (if x1 < x2 then some x2 else (if x3 < x1 then some x3 else some x1))
theorem tF2 (Ad : QAd n0 ad) (W : QW Z a0) {a : Nat} {σ : QHeap} (x1 : Int32) (x2 : Int32) (x3 : Int32) {r : Int32} (h : F2 x1 x2 x3 = some r) : QTri l Z n0 ad 2 (0, qentry [.ref a, .int x1, .int x2, .int x3] (pMaxL 2), [], σ) (some (Value.int r)) σ := by
  unfold F2 at h
  refine QTri.steps Ad W 2 (st' := (2, [some (.ref a), some (.int x1), some (.int x2), some (.int x3)], [.int x2, .int x1], σ)) rfl ?_
  rcases qite h with ⟨hc1, h⟩ | ⟨hc1, h⟩
  · refine QTri.brF Ad W (t := 7) (f := 5) (L := [some (.ref a), some (.int x1), some (.int x2), some (.int x3)]) (S := []) (σ := σ) rfl (XT.ii_ge_f hc1) ?_
    refine QTri.steps Ad W 1 (st' := (6, [some (.ref a), some (.int x1), some (.int x2), some (.int x3)], [.int x2], σ)) rfl ?_
    obtain rfl := Option.some.inj h
    exact QTri.retI rfl rfl
  · refine QTri.brT Ad W (t := 7) (f := 5) (L := [some (.ref a), some (.int x1), some (.int x2), some (.int x3)]) (S := []) (σ := σ) rfl (XT.ii_ge_t hc1) ?_
    refine QTri.steps Ad W 2 (st' := (9, [some (.ref a), some (.int x1), some (.int x2), some (.int x3)], [.int x3, .int x1], σ)) rfl ?_
    rcases qite h with ⟨hc2, h⟩ | ⟨hc2, h⟩
    · refine QTri.brF Ad W (t := 14) (f := 12) (L := [some (.ref a), some (.int x1), some (.int x2), some (.int x3)]) (S := []) (σ := σ) rfl (XT.ii_le_f hc2) ?_
      refine QTri.steps Ad W 1 (st' := (13, [some (.ref a), some (.int x1), some (.int x2), some (.int x3)], [.int x3], σ)) rfl ?_
      obtain rfl := Option.some.inj h
      exact QTri.retI rfl rfl
    · refine QTri.brT Ad W (t := 14) (f := 12) (L := [some (.ref a), some (.int x1), some (.int x2), some (.int x3)]) (S := []) (σ := σ) rfl (XT.ii_le_t hc2) ?_
      refine QTri.steps Ad W 1 (st' := (15, [some (.ref a), some (.int x1), some (.int x2), some (.int x3)], [.int x1], σ)) rfl ?_
      obtain rfl := Option.some.inj h
      exact QTri.retI rfl rfl
/-- init(III)V -/
def F1 (x1 : Int32) (x2 : Int32) (x3 : Int32) : Option (Ob) :=
  (F2 x1 (8 : Int32) (32 : Int32)).bind fun r3 => (F2 x2 (2 : Int32) (8 : Int32)).bind fun r4 => (F2 x3 (2 : Int32) (16 : Int32)).bind fun r5 => some (s_lastConflict (s_abortCount (s_commitCount (s_window (s_slotCount (s_keyCount (s_buffered (s_writeSet (s_readSet (s_start (s_active (s_version (s_value ob0 (List.replicate 32 0)) (List.replicate 32 0)) (List.replicate 8 0)) (List.replicate 8 0)) (List.replicate 8 0)) (List.replicate 8 0)) (List.replicate 256 0)) r3) r4) r5) (0 : Int32)) (0 : Int32)) (-1 : Int32))
theorem tF1 (Ad : QAd n0 ad) (W : QW Z a0) (s : List Int32) (x1 : Int32) (x2 : Int32) (x3 : Int32) {r : Ob} (h : F1 x1 x2 x3 = some r) : QTri l Z n0 ad 1 (0, qentry [.ref 1, .int x1, .int x2, .int x3] (pMaxL 1), [], [.inr (.inl (.int, s)), .inl [.null, .null, .null, .null, .null, .null, .null, .int (f_keyCount ob0), .int (f_slotCount ob0), .int (f_window ob0), .int (f_commitCount ob0), .int (f_abortCount ob0), .int (f_lastConflict ob0)]]) (none : Option Value) (H0 s r) := by
  unfold F1 at h
  refine QTri.steps Ad W 1 (st' := (1, [some (.ref 1), some (.int x1), some (.int x2), some (.int x3)], [.ref 1], [.inr (.inl (.int, s)), .inl [.null, .null, .null, .null, .null, .null, .null, .int (f_keyCount ob0), .int (f_slotCount ob0), .int (f_window ob0), .int (f_commitCount ob0), .int (f_abortCount ob0), .int (f_lastConflict ob0)]])) rfl ?_
  refine QTri.callO W rfl rfl rfl ?_
  refine QTri.steps Ad W 3 (st' := (9, [some (.ref 1), some (.int x1), some (.int x2), some (.int x3)], [.ref 2, .ref 1], [.inr (.inl (.int, s)), .inl [.null, .null, .null, .null, .null, .null, .null, .int (f_keyCount ob0), .int (f_slotCount ob0), .int (f_window ob0), .int (f_commitCount ob0), .int (f_abortCount ob0), .int (f_lastConflict ob0)], .inr (.inl (.int, (List.replicate 32 0)))])) rfl ?_
  refine QTri.steps Ad W 1 (st' := (12, [some (.ref 1), some (.int x1), some (.int x2), some (.int x3)], [], [.inr (.inl (.int, s)), .inl [.ref 2, .null, .null, .null, .null, .null, .null, .int (f_keyCount ob0), .int (f_slotCount ob0), .int (f_window ob0), .int (f_commitCount ob0), .int (f_abortCount ob0), .int (f_lastConflict ob0)], .inr (.inl (.int, (List.replicate 32 0)))])) rfl ?_
  refine QTri.steps Ad W 3 (st' := (17, [some (.ref 1), some (.int x1), some (.int x2), some (.int x3)], [.ref 3, .ref 1], [.inr (.inl (.int, s)), .inl [.ref 2, .null, .null, .null, .null, .null, .null, .int (f_keyCount ob0), .int (f_slotCount ob0), .int (f_window ob0), .int (f_commitCount ob0), .int (f_abortCount ob0), .int (f_lastConflict ob0)], .inr (.inl (.int, (List.replicate 32 0))), .inr (.inl (.int, (List.replicate 32 0)))])) rfl ?_
  refine QTri.steps Ad W 1 (st' := (20, [some (.ref 1), some (.int x1), some (.int x2), some (.int x3)], [], [.inr (.inl (.int, s)), .inl [.ref 2, .ref 3, .null, .null, .null, .null, .null, .int (f_keyCount ob0), .int (f_slotCount ob0), .int (f_window ob0), .int (f_commitCount ob0), .int (f_abortCount ob0), .int (f_lastConflict ob0)], .inr (.inl (.int, (List.replicate 32 0))), .inr (.inl (.int, (List.replicate 32 0)))])) rfl ?_
  refine QTri.steps Ad W 3 (st' := (25, [some (.ref 1), some (.int x1), some (.int x2), some (.int x3)], [.ref 4, .ref 1], [.inr (.inl (.int, s)), .inl [.ref 2, .ref 3, .null, .null, .null, .null, .null, .int (f_keyCount ob0), .int (f_slotCount ob0), .int (f_window ob0), .int (f_commitCount ob0), .int (f_abortCount ob0), .int (f_lastConflict ob0)], .inr (.inl (.int, (List.replicate 32 0))), .inr (.inl (.int, (List.replicate 32 0))), .inr (.inl (.boolean, (List.replicate 8 0)))])) rfl ?_
  refine QTri.steps Ad W 1 (st' := (28, [some (.ref 1), some (.int x1), some (.int x2), some (.int x3)], [], [.inr (.inl (.int, s)), .inl [.ref 2, .ref 3, .ref 4, .null, .null, .null, .null, .int (f_keyCount ob0), .int (f_slotCount ob0), .int (f_window ob0), .int (f_commitCount ob0), .int (f_abortCount ob0), .int (f_lastConflict ob0)], .inr (.inl (.int, (List.replicate 32 0))), .inr (.inl (.int, (List.replicate 32 0))), .inr (.inl (.boolean, (List.replicate 8 0)))])) rfl ?_
  refine QTri.steps Ad W 3 (st' := (33, [some (.ref 1), some (.int x1), some (.int x2), some (.int x3)], [.ref 5, .ref 1], [.inr (.inl (.int, s)), .inl [.ref 2, .ref 3, .ref 4, .null, .null, .null, .null, .int (f_keyCount ob0), .int (f_slotCount ob0), .int (f_window ob0), .int (f_commitCount ob0), .int (f_abortCount ob0), .int (f_lastConflict ob0)], .inr (.inl (.int, (List.replicate 32 0))), .inr (.inl (.int, (List.replicate 32 0))), .inr (.inl (.boolean, (List.replicate 8 0))), .inr (.inl (.int, (List.replicate 8 0)))])) rfl ?_
  refine QTri.steps Ad W 1 (st' := (36, [some (.ref 1), some (.int x1), some (.int x2), some (.int x3)], [], [.inr (.inl (.int, s)), .inl [.ref 2, .ref 3, .ref 4, .ref 5, .null, .null, .null, .int (f_keyCount ob0), .int (f_slotCount ob0), .int (f_window ob0), .int (f_commitCount ob0), .int (f_abortCount ob0), .int (f_lastConflict ob0)], .inr (.inl (.int, (List.replicate 32 0))), .inr (.inl (.int, (List.replicate 32 0))), .inr (.inl (.boolean, (List.replicate 8 0))), .inr (.inl (.int, (List.replicate 8 0)))])) rfl ?_
  refine QTri.steps Ad W 3 (st' := (41, [some (.ref 1), some (.int x1), some (.int x2), some (.int x3)], [.ref 6, .ref 1], [.inr (.inl (.int, s)), .inl [.ref 2, .ref 3, .ref 4, .ref 5, .null, .null, .null, .int (f_keyCount ob0), .int (f_slotCount ob0), .int (f_window ob0), .int (f_commitCount ob0), .int (f_abortCount ob0), .int (f_lastConflict ob0)], .inr (.inl (.int, (List.replicate 32 0))), .inr (.inl (.int, (List.replicate 32 0))), .inr (.inl (.boolean, (List.replicate 8 0))), .inr (.inl (.int, (List.replicate 8 0))), .inr (.inl (.int, (List.replicate 8 0)))])) rfl ?_
  refine QTri.steps Ad W 1 (st' := (44, [some (.ref 1), some (.int x1), some (.int x2), some (.int x3)], [], [.inr (.inl (.int, s)), .inl [.ref 2, .ref 3, .ref 4, .ref 5, .ref 6, .null, .null, .int (f_keyCount ob0), .int (f_slotCount ob0), .int (f_window ob0), .int (f_commitCount ob0), .int (f_abortCount ob0), .int (f_lastConflict ob0)], .inr (.inl (.int, (List.replicate 32 0))), .inr (.inl (.int, (List.replicate 32 0))), .inr (.inl (.boolean, (List.replicate 8 0))), .inr (.inl (.int, (List.replicate 8 0))), .inr (.inl (.int, (List.replicate 8 0)))])) rfl ?_
  refine QTri.steps Ad W 3 (st' := (49, [some (.ref 1), some (.int x1), some (.int x2), some (.int x3)], [.ref 7, .ref 1], [.inr (.inl (.int, s)), .inl [.ref 2, .ref 3, .ref 4, .ref 5, .ref 6, .null, .null, .int (f_keyCount ob0), .int (f_slotCount ob0), .int (f_window ob0), .int (f_commitCount ob0), .int (f_abortCount ob0), .int (f_lastConflict ob0)], .inr (.inl (.int, (List.replicate 32 0))), .inr (.inl (.int, (List.replicate 32 0))), .inr (.inl (.boolean, (List.replicate 8 0))), .inr (.inl (.int, (List.replicate 8 0))), .inr (.inl (.int, (List.replicate 8 0))), .inr (.inl (.int, (List.replicate 8 0)))])) rfl ?_
  refine QTri.steps Ad W 1 (st' := (52, [some (.ref 1), some (.int x1), some (.int x2), some (.int x3)], [], [.inr (.inl (.int, s)), .inl [.ref 2, .ref 3, .ref 4, .ref 5, .ref 6, .ref 7, .null, .int (f_keyCount ob0), .int (f_slotCount ob0), .int (f_window ob0), .int (f_commitCount ob0), .int (f_abortCount ob0), .int (f_lastConflict ob0)], .inr (.inl (.int, (List.replicate 32 0))), .inr (.inl (.int, (List.replicate 32 0))), .inr (.inl (.boolean, (List.replicate 8 0))), .inr (.inl (.int, (List.replicate 8 0))), .inr (.inl (.int, (List.replicate 8 0))), .inr (.inl (.int, (List.replicate 8 0)))])) rfl ?_
  refine QTri.steps Ad W 3 (st' := (58, [some (.ref 1), some (.int x1), some (.int x2), some (.int x3)], [.ref 8, .ref 1], [.inr (.inl (.int, s)), .inl [.ref 2, .ref 3, .ref 4, .ref 5, .ref 6, .ref 7, .null, .int (f_keyCount ob0), .int (f_slotCount ob0), .int (f_window ob0), .int (f_commitCount ob0), .int (f_abortCount ob0), .int (f_lastConflict ob0)], .inr (.inl (.int, (List.replicate 32 0))), .inr (.inl (.int, (List.replicate 32 0))), .inr (.inl (.boolean, (List.replicate 8 0))), .inr (.inl (.int, (List.replicate 8 0))), .inr (.inl (.int, (List.replicate 8 0))), .inr (.inl (.int, (List.replicate 8 0))), .inr (.inl (.int, (List.replicate 256 0)))])) rfl ?_
  refine QTri.steps Ad W 1 (st' := (61, [some (.ref 1), some (.int x1), some (.int x2), some (.int x3)], [], [.inr (.inl (.int, s)), .inl [.ref 2, .ref 3, .ref 4, .ref 5, .ref 6, .ref 7, .ref 8, .int (f_keyCount ob0), .int (f_slotCount ob0), .int (f_window ob0), .int (f_commitCount ob0), .int (f_abortCount ob0), .int (f_lastConflict ob0)], .inr (.inl (.int, (List.replicate 32 0))), .inr (.inl (.int, (List.replicate 32 0))), .inr (.inl (.boolean, (List.replicate 8 0))), .inr (.inl (.int, (List.replicate 8 0))), .inr (.inl (.int, (List.replicate 8 0))), .inr (.inl (.int, (List.replicate 8 0))), .inr (.inl (.int, (List.replicate 256 0)))])) rfl ?_
  refine QTri.steps Ad W 5 (st' := (68, [some (.ref 1), some (.int x1), some (.int x2), some (.int x3)], [.int (32 : Int32), .int (8 : Int32), .int x1, .ref 1, .ref 1], [.inr (.inl (.int, s)), .inl [.ref 2, .ref 3, .ref 4, .ref 5, .ref 6, .ref 7, .ref 8, .int (f_keyCount ob0), .int (f_slotCount ob0), .int (f_window ob0), .int (f_commitCount ob0), .int (f_abortCount ob0), .int (f_lastConflict ob0)], .inr (.inl (.int, (List.replicate 32 0))), .inr (.inl (.int, (List.replicate 32 0))), .inr (.inl (.boolean, (List.replicate 8 0))), .inr (.inl (.int, (List.replicate 8 0))), .inr (.inl (.int, (List.replicate 8 0))), .inr (.inl (.int, (List.replicate 8 0))), .inr (.inl (.int, (List.replicate 256 0)))])) rfl ?_
  obtain ⟨r3, hr3, h⟩ := Option.bind_eq_some_iff.mp h
  refine QTri.callP W (a := 1) (as := [.int x1, .int (8 : Int32), .int (32 : Int32)]) (rest := [.ref 1]) (w := (some (.int r3))) (σ₁ := [.inr (.inl (.int, s)), .inl [.ref 2, .ref 3, .ref 4, .ref 5, .ref 6, .ref 7, .ref 8, .int (f_keyCount ob0), .int (f_slotCount ob0), .int (f_window ob0), .int (f_commitCount ob0), .int (f_abortCount ob0), .int (f_lastConflict ob0)], .inr (.inl (.int, (List.replicate 32 0))), .inr (.inl (.int, (List.replicate 32 0))), .inr (.inl (.boolean, (List.replicate 8 0))), .inr (.inl (.int, (List.replicate 8 0))), .inr (.inl (.int, (List.replicate 8 0))), .inr (.inl (.int, (List.replicate 8 0))), .inr (.inl (.int, (List.replicate 256 0)))]) rfl rfl rfl rfl rfl rfl rfl rfl (tF2 Ad W x1 (8 : Int32) (32 : Int32) hr3) ?_
  refine QTri.steps Ad W 1 (st' := (74, [some (.ref 1), some (.int x1), some (.int x2), some (.int x3)], [], [.inr (.inl (.int, s)), .inl [.ref 2, .ref 3, .ref 4, .ref 5, .ref 6, .ref 7, .ref 8, .int r3, .int (f_slotCount ob0), .int (f_window ob0), .int (f_commitCount ob0), .int (f_abortCount ob0), .int (f_lastConflict ob0)], .inr (.inl (.int, (List.replicate 32 0))), .inr (.inl (.int, (List.replicate 32 0))), .inr (.inl (.boolean, (List.replicate 8 0))), .inr (.inl (.int, (List.replicate 8 0))), .inr (.inl (.int, (List.replicate 8 0))), .inr (.inl (.int, (List.replicate 8 0))), .inr (.inl (.int, (List.replicate 256 0)))])) rfl ?_
  refine QTri.steps Ad W 5 (st' := (80, [some (.ref 1), some (.int x1), some (.int x2), some (.int x3)], [.int (8 : Int32), .int (2 : Int32), .int x2, .ref 1, .ref 1], [.inr (.inl (.int, s)), .inl [.ref 2, .ref 3, .ref 4, .ref 5, .ref 6, .ref 7, .ref 8, .int r3, .int (f_slotCount ob0), .int (f_window ob0), .int (f_commitCount ob0), .int (f_abortCount ob0), .int (f_lastConflict ob0)], .inr (.inl (.int, (List.replicate 32 0))), .inr (.inl (.int, (List.replicate 32 0))), .inr (.inl (.boolean, (List.replicate 8 0))), .inr (.inl (.int, (List.replicate 8 0))), .inr (.inl (.int, (List.replicate 8 0))), .inr (.inl (.int, (List.replicate 8 0))), .inr (.inl (.int, (List.replicate 256 0)))])) rfl ?_
  obtain ⟨r4, hr4, h⟩ := Option.bind_eq_some_iff.mp h
  refine QTri.callP W (a := 1) (as := [.int x2, .int (2 : Int32), .int (8 : Int32)]) (rest := [.ref 1]) (w := (some (.int r4))) (σ₁ := [.inr (.inl (.int, s)), .inl [.ref 2, .ref 3, .ref 4, .ref 5, .ref 6, .ref 7, .ref 8, .int r3, .int (f_slotCount ob0), .int (f_window ob0), .int (f_commitCount ob0), .int (f_abortCount ob0), .int (f_lastConflict ob0)], .inr (.inl (.int, (List.replicate 32 0))), .inr (.inl (.int, (List.replicate 32 0))), .inr (.inl (.boolean, (List.replicate 8 0))), .inr (.inl (.int, (List.replicate 8 0))), .inr (.inl (.int, (List.replicate 8 0))), .inr (.inl (.int, (List.replicate 8 0))), .inr (.inl (.int, (List.replicate 256 0)))]) rfl rfl rfl rfl rfl rfl rfl rfl (tF2 Ad W x2 (2 : Int32) (8 : Int32) hr4) ?_
  refine QTri.steps Ad W 1 (st' := (86, [some (.ref 1), some (.int x1), some (.int x2), some (.int x3)], [], [.inr (.inl (.int, s)), .inl [.ref 2, .ref 3, .ref 4, .ref 5, .ref 6, .ref 7, .ref 8, .int r3, .int r4, .int (f_window ob0), .int (f_commitCount ob0), .int (f_abortCount ob0), .int (f_lastConflict ob0)], .inr (.inl (.int, (List.replicate 32 0))), .inr (.inl (.int, (List.replicate 32 0))), .inr (.inl (.boolean, (List.replicate 8 0))), .inr (.inl (.int, (List.replicate 8 0))), .inr (.inl (.int, (List.replicate 8 0))), .inr (.inl (.int, (List.replicate 8 0))), .inr (.inl (.int, (List.replicate 256 0)))])) rfl ?_
  refine QTri.steps Ad W 5 (st' := (92, [some (.ref 1), some (.int x1), some (.int x2), some (.int x3)], [.int (16 : Int32), .int (2 : Int32), .int x3, .ref 1, .ref 1], [.inr (.inl (.int, s)), .inl [.ref 2, .ref 3, .ref 4, .ref 5, .ref 6, .ref 7, .ref 8, .int r3, .int r4, .int (f_window ob0), .int (f_commitCount ob0), .int (f_abortCount ob0), .int (f_lastConflict ob0)], .inr (.inl (.int, (List.replicate 32 0))), .inr (.inl (.int, (List.replicate 32 0))), .inr (.inl (.boolean, (List.replicate 8 0))), .inr (.inl (.int, (List.replicate 8 0))), .inr (.inl (.int, (List.replicate 8 0))), .inr (.inl (.int, (List.replicate 8 0))), .inr (.inl (.int, (List.replicate 256 0)))])) rfl ?_
  obtain ⟨r5, hr5, h⟩ := Option.bind_eq_some_iff.mp h
  refine QTri.callP W (a := 1) (as := [.int x3, .int (2 : Int32), .int (16 : Int32)]) (rest := [.ref 1]) (w := (some (.int r5))) (σ₁ := [.inr (.inl (.int, s)), .inl [.ref 2, .ref 3, .ref 4, .ref 5, .ref 6, .ref 7, .ref 8, .int r3, .int r4, .int (f_window ob0), .int (f_commitCount ob0), .int (f_abortCount ob0), .int (f_lastConflict ob0)], .inr (.inl (.int, (List.replicate 32 0))), .inr (.inl (.int, (List.replicate 32 0))), .inr (.inl (.boolean, (List.replicate 8 0))), .inr (.inl (.int, (List.replicate 8 0))), .inr (.inl (.int, (List.replicate 8 0))), .inr (.inl (.int, (List.replicate 8 0))), .inr (.inl (.int, (List.replicate 256 0)))]) rfl rfl rfl rfl rfl rfl rfl rfl (tF2 Ad W x3 (2 : Int32) (16 : Int32) hr5) ?_
  refine QTri.steps Ad W 1 (st' := (98, [some (.ref 1), some (.int x1), some (.int x2), some (.int x3)], [], [.inr (.inl (.int, s)), .inl [.ref 2, .ref 3, .ref 4, .ref 5, .ref 6, .ref 7, .ref 8, .int r3, .int r4, .int r5, .int (f_commitCount ob0), .int (f_abortCount ob0), .int (f_lastConflict ob0)], .inr (.inl (.int, (List.replicate 32 0))), .inr (.inl (.int, (List.replicate 32 0))), .inr (.inl (.boolean, (List.replicate 8 0))), .inr (.inl (.int, (List.replicate 8 0))), .inr (.inl (.int, (List.replicate 8 0))), .inr (.inl (.int, (List.replicate 8 0))), .inr (.inl (.int, (List.replicate 256 0)))])) rfl ?_
  refine QTri.steps Ad W 3 (st' := (103, [some (.ref 1), some (.int x1), some (.int x2), some (.int x3)], [], [.inr (.inl (.int, s)), .inl [.ref 2, .ref 3, .ref 4, .ref 5, .ref 6, .ref 7, .ref 8, .int r3, .int r4, .int r5, .int (0 : Int32), .int (f_abortCount ob0), .int (f_lastConflict ob0)], .inr (.inl (.int, (List.replicate 32 0))), .inr (.inl (.int, (List.replicate 32 0))), .inr (.inl (.boolean, (List.replicate 8 0))), .inr (.inl (.int, (List.replicate 8 0))), .inr (.inl (.int, (List.replicate 8 0))), .inr (.inl (.int, (List.replicate 8 0))), .inr (.inl (.int, (List.replicate 256 0)))])) rfl ?_
  refine QTri.steps Ad W 3 (st' := (108, [some (.ref 1), some (.int x1), some (.int x2), some (.int x3)], [], [.inr (.inl (.int, s)), .inl [.ref 2, .ref 3, .ref 4, .ref 5, .ref 6, .ref 7, .ref 8, .int r3, .int r4, .int r5, .int (0 : Int32), .int (0 : Int32), .int (f_lastConflict ob0)], .inr (.inl (.int, (List.replicate 32 0))), .inr (.inl (.int, (List.replicate 32 0))), .inr (.inl (.boolean, (List.replicate 8 0))), .inr (.inl (.int, (List.replicate 8 0))), .inr (.inl (.int, (List.replicate 8 0))), .inr (.inl (.int, (List.replicate 8 0))), .inr (.inl (.int, (List.replicate 256 0)))])) rfl ?_
  refine QTri.steps Ad W 3 (st' := (113, [some (.ref 1), some (.int x1), some (.int x2), some (.int x3)], [], [.inr (.inl (.int, s)), .inl [.ref 2, .ref 3, .ref 4, .ref 5, .ref 6, .ref 7, .ref 8, .int r3, .int r4, .int r5, .int (0 : Int32), .int (0 : Int32), .int (-1 : Int32)], .inr (.inl (.int, (List.replicate 32 0))), .inr (.inl (.int, (List.replicate 32 0))), .inr (.inl (.boolean, (List.replicate 8 0))), .inr (.inl (.int, (List.replicate 8 0))), .inr (.inl (.int, (List.replicate 8 0))), .inr (.inl (.int, (List.replicate 8 0))), .inr (.inl (.int, (List.replicate 256 0)))])) rfl ?_
  have E6 : ([.inr (.inl (.int, s)), .inl [.ref 2, .ref 3, .ref 4, .ref 5, .ref 6, .ref 7, .ref 8, .int r3, .int r4, .int r5, .int (0 : Int32), .int (0 : Int32), .int (-1 : Int32)], .inr (.inl (.int, (List.replicate 32 0))), .inr (.inl (.int, (List.replicate 32 0))), .inr (.inl (.boolean, (List.replicate 8 0))), .inr (.inl (.int, (List.replicate 8 0))), .inr (.inl (.int, (List.replicate 8 0))), .inr (.inl (.int, (List.replicate 8 0))), .inr (.inl (.int, (List.replicate 256 0)))] : QHeap) = (H0 s (s_lastConflict (s_abortCount (s_commitCount (s_window (s_slotCount (s_keyCount (s_buffered (s_writeSet (s_readSet (s_start (s_active (s_version (s_value ob0 (List.replicate 32 0)) (List.replicate 32 0)) (List.replicate 8 0)) (List.replicate 8 0)) (List.replicate 8 0)) (List.replicate 8 0)) (List.replicate 256 0)) r3) r4) r5) (0 : Int32)) (0 : Int32)) (-1 : Int32))) := by dsimp only [H0, f_value, f_version, f_active, f_start, f_readSet, f_writeSet, f_buffered, f_keyCount, f_slotCount, f_window, f_commitCount, f_abortCount, f_lastConflict, s_value, s_version, s_active, s_start, s_readSet, s_writeSet, s_buffered, s_keyCount, s_slotCount, s_window, s_commitCount, s_abortCount, s_lastConflict, ob0]
  rw [E6]
  obtain rfl := Option.some.inj h
  exact QTri.ret0 rfl rfl
def B20_2 (o : Ob) (v : Int32) : Option (((Int32)) ⊕ (Int32)) :=
  (if v < (f_slotCount o) then (if v < (8 : Int32) then (aget (f_active o) v).bind fun y19 => (if y19 = (0 : Int32) then some (.inl v) else some (.inr (v + (1 : Int32)))) else some (.inl (-1 : Int32))) else some (.inl (-1 : Int32)))
theorem tB20_2 (Ad : QAd n0 ad) (W : QW Z a0) (s : List Int32) (o : Ob) (v : Int32) {r : ((Int32)) ⊕ (Int32)} {u : Option Value} {τ : QHeap} (h : B20_2 o v = some r) (hx0 : ∀ x : Int32, r = .inl x → u = (some (Value.int x)) ∧ τ = (H0 s o)) (hc : ∀ x : Int32, r = .inr x → QTri l Z n0 ad 20 (2, [some (.ref 1), some (.int x)], [], (H0 s o)) u τ) : QTri l Z n0 ad 20 (2, [some (.ref 1), some (.int v)], [], (H0 s o)) u τ := by
  unfold B20_2 at h
  refine QTri.steps Ad W 3 (st' := (7, [some (.ref 1), some (.int v)], [.int (f_slotCount o), .int v], (H0 s o))) rfl ?_
  rcases qite h with ⟨hc17, h⟩ | ⟨hc17, h⟩
  · refine QTri.brF Ad W (t := 33) (f := 10) (L := [some (.ref 1), some (.int v)]) (S := []) (σ := (H0 s o)) rfl (XT.ii_ge_f hc17) ?_
    refine QTri.steps Ad W 2 (st' := (13, [some (.ref 1), some (.int v)], [.int (8 : Int32), .int v], (H0 s o))) rfl ?_
    rcases qite h with ⟨hc18, h⟩ | ⟨hc18, h⟩
    · refine QTri.brF Ad W (t := 33) (f := 16) (L := [some (.ref 1), some (.int v)]) (S := []) (σ := (H0 s o)) rfl (XT.ii_ge_f hc18) ?_
      refine QTri.steps Ad W 3 (st' := (21, [some (.ref 1), some (.int v)], [.int v, .ref 4], (H0 s o))) rfl ?_
      obtain ⟨y19, hy19, h⟩ := Option.bind_eq_some_iff.mp h
      refine QTri.bnd Ad W (f := fun y19 => (22, [some (.ref 1), some (.int v)], [.int y19], (H0 s o))) rfl hy19 ?_
      rcases qite h with ⟨hc20, h⟩ | ⟨hc20, h⟩
      · refine QTri.brF Ad W (t := 27) (f := 25) (L := [some (.ref 1), some (.int v)]) (S := []) (σ := (H0 s o)) rfl (XT.i0_ne_f hc20) ?_
        refine QTri.steps Ad W 1 (st' := (26, [some (.ref 1), some (.int v)], [.int v], (H0 s o))) rfl ?_
        obtain rfl := Option.some.inj h
        obtain ⟨rfl, rfl⟩ := hx0 v rfl
        exact QTri.retI rfl rfl
      · refine QTri.brT Ad W (t := 27) (f := 25) (L := [some (.ref 1), some (.int v)]) (S := []) (σ := (H0 s o)) rfl (XT.i0_ne_t hc20) ?_
        refine QTri.steps Ad W 2 (st' := (2, [some (.ref 1), some (.int (v + (1 : Int32)))], [], (H0 s o))) rfl ?_
        obtain rfl := Option.some.inj h
        exact QTri.mask [true, true] (hc (v + (1 : Int32)) rfl)
    · refine QTri.brT Ad W (t := 33) (f := 16) (L := [some (.ref 1), some (.int v)]) (S := []) (σ := (H0 s o)) rfl (XT.ii_ge_t hc18) ?_
      refine QTri.steps Ad W 1 (st' := (34, [some (.ref 1), some (.int v)], [.int (-1 : Int32)], (H0 s o))) rfl ?_
      obtain rfl := Option.some.inj h
      obtain ⟨rfl, rfl⟩ := hx0 (-1 : Int32) rfl
      exact QTri.retI rfl rfl
  · refine QTri.brT Ad W (t := 33) (f := 10) (L := [some (.ref 1), some (.int v)]) (S := []) (σ := (H0 s o)) rfl (XT.ii_ge_t hc17) ?_
    refine QTri.steps Ad W 1 (st' := (34, [some (.ref 1), some (.int v)], [.int (-1 : Int32)], (H0 s o))) rfl ?_
    obtain rfl := Option.some.inj h
    obtain ⟨rfl, rfl⟩ := hx0 (-1 : Int32) rfl
    exact QTri.retI rfl rfl
/-- findFreeSlot()I -/
def F20 (o : Ob) : Option (Int32) :=
  (loopN (B20_2 o) qN (0 : Int32)).bind fun e21 => some e21
theorem tF20 (Ad : QAd n0 ad) (W : QW Z a0) (s : List Int32) (o : Ob) {r : Int32} (h : F20 o = some r) : QTri l Z n0 ad 20 (0, qentry [.ref 1] (pMaxL 20), [], (H0 s o)) (some (Value.int r)) (H0 s o) := by
  unfold F20 at h
  refine QTri.steps Ad W 2 (st' := (2, [some (.ref 1), some (.int (0 : Int32))], [], (H0 s o))) rfl ?_
  obtain ⟨e21, he21, h⟩ := Option.bind_eq_some_iff.mp h
  refine QTri.mask [true, true] (loopN_tri (B := B20_2 o) (T := fun lv22 => QTri l Z n0 ad 20 (2, [some (.ref 1), some (.int lv22)], [], (H0 s o)) (some (Value.int r)) (H0 s o)) (KE := fun e21a => (some (Value.int r)) = (some (Value.int e21a)) ∧ (H0 s o) = (H0 s o)) (fun lv22 r hB hE hC => tB20_2 Ad W s o lv22 hB (fun x q => hE _ q) (fun x q => hC x q)) qN (0 : Int32) e21 he21 ?_)
  obtain rfl := Option.some.inj h
  exact ⟨rfl, rfl⟩
def B22_35 (x2 : Int32) (v : Int32 × Ob) : Option (((Ob)) ⊕ (Int32 × Ob)) :=
  (if v.1 < (32 : Int32) then (aset (f_buffered v.2) (x2 + v.1) (0 : Int32)).bind fun y31 => some (.inr ((v.1 + (1 : Int32)), (s_buffered v.2 y31))) else some (.inl v.2))
theorem tB22_35 (Ad : QAd n0 ad) (W : QW Z a0) (s : List Int32) (x2 : Int32) (v : Int32 × Ob) {r : ((Ob)) ⊕ (Int32 × Ob)} {u : Option Value} {τ : QHeap} (h : B22_35 x2 v = some r) (hx0 : ∀ x : Ob, r = .inl x → u = (none : Option Value) ∧ τ = (H0 s x)) (hc : ∀ x : Int32 × Ob, r = .inr x → QTri l Z n0 ad 22 (35, [some (.ref 1), none, some (.int x2), some (.int x.1)], [], (H0 s x.2)) u τ) : QTri l Z n0 ad 22 (35, [some (.ref 1), none, some (.int x2), some (.int v.1)], [], (H0 s v.2)) u τ := by
  unfold B22_35 at h
  refine QTri.steps Ad W 2 (st' := (38, [some (.ref 1), none, some (.int x2), some (.int v.1)], [.int (32 : Int32), .int v.1], (H0 s v.2))) rfl ?_
  rcases qite h with ⟨hc30, h⟩ | ⟨hc30, h⟩
  · refine QTri.brF Ad W (t := 56) (f := 41) (L := [some (.ref 1), none, some (.int x2), some (.int v.1)]) (S := []) (σ := (H0 s v.2)) rfl (XT.ii_ge_f hc30) ?_
    refine QTri.steps Ad W 6 (st' := (49, [some (.ref 1), none, some (.int x2), some (.int v.1)], [.int (0 : Int32), .int (x2 + v.1), .ref 8], (H0 s v.2))) rfl ?_
    obtain ⟨y31, hy31, h⟩ := Option.bind_eq_some_iff.mp h
    refine QTri.bnd Ad W (f := fun y31 => (50, [some (.ref 1), none, some (.int x2), some (.int v.1)], [], [.inr (.inl (.int, s)), .inl [.ref 2, .ref 3, .ref 4, .ref 5, .ref 6, .ref 7, .ref 8, .int (f_keyCount v.2), .int (f_slotCount v.2), .int (f_window v.2), .int (f_commitCount v.2), .int (f_abortCount v.2), .int (f_lastConflict v.2)], .inr (.inl (.int, (f_value v.2))), .inr (.inl (.int, (f_version v.2))), .inr (.inl (.boolean, (f_active v.2))), .inr (.inl (.int, (f_start v.2))), .inr (.inl (.int, (f_readSet v.2))), .inr (.inl (.int, (f_writeSet v.2))), .inr (.inl (.int, y31))])) rfl hy31 ?_
    refine QTri.steps Ad W 2 (st' := (35, [some (.ref 1), none, some (.int x2), some (.int (v.1 + (1 : Int32)))], [], [.inr (.inl (.int, s)), .inl [.ref 2, .ref 3, .ref 4, .ref 5, .ref 6, .ref 7, .ref 8, .int (f_keyCount v.2), .int (f_slotCount v.2), .int (f_window v.2), .int (f_commitCount v.2), .int (f_abortCount v.2), .int (f_lastConflict v.2)], .inr (.inl (.int, (f_value v.2))), .inr (.inl (.int, (f_version v.2))), .inr (.inl (.boolean, (f_active v.2))), .inr (.inl (.int, (f_start v.2))), .inr (.inl (.int, (f_readSet v.2))), .inr (.inl (.int, (f_writeSet v.2))), .inr (.inl (.int, y31))])) rfl ?_
    have E32 : ([.inr (.inl (.int, s)), .inl [.ref 2, .ref 3, .ref 4, .ref 5, .ref 6, .ref 7, .ref 8, .int (f_keyCount v.2), .int (f_slotCount v.2), .int (f_window v.2), .int (f_commitCount v.2), .int (f_abortCount v.2), .int (f_lastConflict v.2)], .inr (.inl (.int, (f_value v.2))), .inr (.inl (.int, (f_version v.2))), .inr (.inl (.boolean, (f_active v.2))), .inr (.inl (.int, (f_start v.2))), .inr (.inl (.int, (f_readSet v.2))), .inr (.inl (.int, (f_writeSet v.2))), .inr (.inl (.int, y31))] : QHeap) = (H0 s (s_buffered v.2 y31)) := by dsimp only [H0, f_value, f_version, f_active, f_start, f_readSet, f_writeSet, f_buffered, f_keyCount, f_slotCount, f_window, f_commitCount, f_abortCount, f_lastConflict, s_buffered]
    rw [E32]
    obtain rfl := Option.some.inj h
    exact QTri.mask [true, false, true, true] (hc ((v.1 + (1 : Int32)), (s_buffered v.2 y31)) rfl)
  · refine QTri.brT Ad W (t := 56) (f := 41) (L := [some (.ref 1), none, some (.int x2), some (.int v.1)]) (S := []) (σ := (H0 s v.2)) rfl (XT.ii_ge_t hc30) ?_
    obtain rfl := Option.some.inj h
    obtain ⟨rfl, rfl⟩ := hx0 v.2 rfl
    exact QTri.ret0 rfl rfl
/-- clearSlot(I)V -/
def F22 (o : Ob) (x1 : Int32) : Option (Ob) :=
  (aset (f_active o) x1 (0 : Int32)).bind fun y25 => (aset (f_start o) x1 (0 : Int32)).bind fun y26 => (aset (f_readSet o) x1 (0 : Int32)).bind fun y27 => (aset (f_writeSet o) x1 (0 : Int32)).bind fun y28 => (loopN (B22_35 (x1 * (32 : Int32))) qN ((0 : Int32), (s_writeSet (s_readSet (s_start (s_active o y25) y26) y27) y28))).bind fun e33 => some e33
theorem tF22 (Ad : QAd n0 ad) (W : QW Z a0) (s : List Int32) (o : Ob) (x1 : Int32) {r : Ob} (h : F22 o x1 = some r) : QTri l Z n0 ad 22 (0, qentry [.ref 1, .int x1] (pMaxL 22), [], (H0 s o)) (none : Option Value) (H0 s r) := by
  unfold F22 at h
  refine QTri.steps Ad W 4 (st' := (6, [some (.ref 1), some (.int x1), none, none], [.int (0 : Int32), .int x1, .ref 4], (H0 s o))) rfl ?_
  obtain ⟨y25, hy25, h⟩ := Option.bind_eq_some_iff.mp h
  refine QTri.bnd Ad W (f := fun y25 => (7, [some (.ref 1), some (.int x1), none, none], [], [.inr (.inl (.int, s)), .inl [.ref 2, .ref 3, .ref 4, .ref 5, .ref 6, .ref 7, .ref 8, .int (f_keyCount o), .int (f_slotCount o), .int (f_window o), .int (f_commitCount o), .int (f_abortCount o), .int (f_lastConflict o)], .inr (.inl (.int, (f_value o))), .inr (.inl (.int, (f_version o))), .inr (.inl (.boolean, y25)), .inr (.inl (.int, (f_start o))), .inr (.inl (.int, (f_readSet o))), .inr (.inl (.int, (f_writeSet o))), .inr (.inl (.int, (f_buffered o)))])) rfl hy25 ?_
  refine QTri.steps Ad W 4 (st' := (13, [some (.ref 1), some (.int x1), none, none], [.int (0 : Int32), .int x1, .ref 5], [.inr (.inl (.int, s)), .inl [.ref 2, .ref 3, .ref 4, .ref 5, .ref 6, .ref 7, .ref 8, .int (f_keyCount o), .int (f_slotCount o), .int (f_window o), .int (f_commitCount o), .int (f_abortCount o), .int (f_lastConflict o)], .inr (.inl (.int, (f_value o))), .inr (.inl (.int, (f_version o))), .inr (.inl (.boolean, y25)), .inr (.inl (.int, (f_start o))), .inr (.inl (.int, (f_readSet o))), .inr (.inl (.int, (f_writeSet o))), .inr (.inl (.int, (f_buffered o)))])) rfl ?_
  obtain ⟨y26, hy26, h⟩ := Option.bind_eq_some_iff.mp h
  refine QTri.bnd Ad W (f := fun y26 => (14, [some (.ref 1), some (.int x1), none, none], [], [.inr (.inl (.int, s)), .inl [.ref 2, .ref 3, .ref 4, .ref 5, .ref 6, .ref 7, .ref 8, .int (f_keyCount o), .int (f_slotCount o), .int (f_window o), .int (f_commitCount o), .int (f_abortCount o), .int (f_lastConflict o)], .inr (.inl (.int, (f_value o))), .inr (.inl (.int, (f_version o))), .inr (.inl (.boolean, y25)), .inr (.inl (.int, y26)), .inr (.inl (.int, (f_readSet o))), .inr (.inl (.int, (f_writeSet o))), .inr (.inl (.int, (f_buffered o)))])) rfl hy26 ?_
  refine QTri.steps Ad W 4 (st' := (20, [some (.ref 1), some (.int x1), none, none], [.int (0 : Int32), .int x1, .ref 6], [.inr (.inl (.int, s)), .inl [.ref 2, .ref 3, .ref 4, .ref 5, .ref 6, .ref 7, .ref 8, .int (f_keyCount o), .int (f_slotCount o), .int (f_window o), .int (f_commitCount o), .int (f_abortCount o), .int (f_lastConflict o)], .inr (.inl (.int, (f_value o))), .inr (.inl (.int, (f_version o))), .inr (.inl (.boolean, y25)), .inr (.inl (.int, y26)), .inr (.inl (.int, (f_readSet o))), .inr (.inl (.int, (f_writeSet o))), .inr (.inl (.int, (f_buffered o)))])) rfl ?_
  obtain ⟨y27, hy27, h⟩ := Option.bind_eq_some_iff.mp h
  refine QTri.bnd Ad W (f := fun y27 => (21, [some (.ref 1), some (.int x1), none, none], [], [.inr (.inl (.int, s)), .inl [.ref 2, .ref 3, .ref 4, .ref 5, .ref 6, .ref 7, .ref 8, .int (f_keyCount o), .int (f_slotCount o), .int (f_window o), .int (f_commitCount o), .int (f_abortCount o), .int (f_lastConflict o)], .inr (.inl (.int, (f_value o))), .inr (.inl (.int, (f_version o))), .inr (.inl (.boolean, y25)), .inr (.inl (.int, y26)), .inr (.inl (.int, y27)), .inr (.inl (.int, (f_writeSet o))), .inr (.inl (.int, (f_buffered o)))])) rfl hy27 ?_
  refine QTri.steps Ad W 4 (st' := (27, [some (.ref 1), some (.int x1), none, none], [.int (0 : Int32), .int x1, .ref 7], [.inr (.inl (.int, s)), .inl [.ref 2, .ref 3, .ref 4, .ref 5, .ref 6, .ref 7, .ref 8, .int (f_keyCount o), .int (f_slotCount o), .int (f_window o), .int (f_commitCount o), .int (f_abortCount o), .int (f_lastConflict o)], .inr (.inl (.int, (f_value o))), .inr (.inl (.int, (f_version o))), .inr (.inl (.boolean, y25)), .inr (.inl (.int, y26)), .inr (.inl (.int, y27)), .inr (.inl (.int, (f_writeSet o))), .inr (.inl (.int, (f_buffered o)))])) rfl ?_
  obtain ⟨y28, hy28, h⟩ := Option.bind_eq_some_iff.mp h
  refine QTri.bnd Ad W (f := fun y28 => (28, [some (.ref 1), some (.int x1), none, none], [], [.inr (.inl (.int, s)), .inl [.ref 2, .ref 3, .ref 4, .ref 5, .ref 6, .ref 7, .ref 8, .int (f_keyCount o), .int (f_slotCount o), .int (f_window o), .int (f_commitCount o), .int (f_abortCount o), .int (f_lastConflict o)], .inr (.inl (.int, (f_value o))), .inr (.inl (.int, (f_version o))), .inr (.inl (.boolean, y25)), .inr (.inl (.int, y26)), .inr (.inl (.int, y27)), .inr (.inl (.int, y28)), .inr (.inl (.int, (f_buffered o)))])) rfl hy28 ?_
  refine QTri.steps Ad W 6 (st' := (35, [some (.ref 1), some (.int x1), some (.int (x1 * (32 : Int32))), some (.int (0 : Int32))], [], [.inr (.inl (.int, s)), .inl [.ref 2, .ref 3, .ref 4, .ref 5, .ref 6, .ref 7, .ref 8, .int (f_keyCount o), .int (f_slotCount o), .int (f_window o), .int (f_commitCount o), .int (f_abortCount o), .int (f_lastConflict o)], .inr (.inl (.int, (f_value o))), .inr (.inl (.int, (f_version o))), .inr (.inl (.boolean, y25)), .inr (.inl (.int, y26)), .inr (.inl (.int, y27)), .inr (.inl (.int, y28)), .inr (.inl (.int, (f_buffered o)))])) rfl ?_
  have E29 : ([.inr (.inl (.int, s)), .inl [.ref 2, .ref 3, .ref 4, .ref 5, .ref 6, .ref 7, .ref 8, .int (f_keyCount o), .int (f_slotCount o), .int (f_window o), .int (f_commitCount o), .int (f_abortCount o), .int (f_lastConflict o)], .inr (.inl (.int, (f_value o))), .inr (.inl (.int, (f_version o))), .inr (.inl (.boolean, y25)), .inr (.inl (.int, y26)), .inr (.inl (.int, y27)), .inr (.inl (.int, y28)), .inr (.inl (.int, (f_buffered o)))] : QHeap) = (H0 s (s_writeSet (s_readSet (s_start (s_active o y25) y26) y27) y28)) := by dsimp only [H0, f_value, f_version, f_active, f_start, f_readSet, f_writeSet, f_buffered, f_keyCount, f_slotCount, f_window, f_commitCount, f_abortCount, f_lastConflict, s_active, s_start, s_readSet, s_writeSet]
  rw [E29]
  obtain ⟨e33, he33, h⟩ := Option.bind_eq_some_iff.mp h
  refine QTri.mask [true, false, true, true] (loopN_tri (B := B22_35 (x1 * (32 : Int32))) (T := fun lv34 => QTri l Z n0 ad 22 (35, [some (.ref 1), none, some (.int (x1 * (32 : Int32))), some (.int lv34.1)], [], (H0 s lv34.2)) (none : Option Value) (H0 s r)) (KE := fun e33a => (none : Option Value) = (none : Option Value) ∧ (H0 s r) = (H0 s e33a)) (fun lv34 r hB hE hC => tB22_35 Ad W s (x1 * (32 : Int32)) lv34 hB (fun x q => hE _ q) (fun x q => hC x q)) qN ((0 : Int32), (s_writeSet (s_readSet (s_start (s_active o y25) y26) y27) y28)) e33 he33 ?_)
  obtain rfl := Option.some.inj h
  exact ⟨rfl, rfl⟩
/-- openSlot(I)V -/
def F21 (o : Ob) (x1 : Int32) : Option (Ob) :=
  (F22 o x1).bind fun r35 => (aset (f_active r35) x1 (1 : Int32)).bind fun y36 => (aset (f_start r35) x1 (f_commitCount r35)).bind fun y37 => some (s_start (s_active r35 y36) y37)
theorem tF21 (Ad : QAd n0 ad) (W : QW Z a0) (s : List Int32) (o : Ob) (x1 : Int32) {r : Ob} (h : F21 o x1 = some r) : QTri l Z n0 ad 21 (0, qentry [.ref 1, .int x1] (pMaxL 21), [], (H0 s o)) (none : Option Value) (H0 s r) := by
  unfold F21 at h
  refine QTri.steps Ad W 2 (st' := (2, [some (.ref 1), some (.int x1)], [.int x1, .ref 1], (H0 s o))) rfl ?_
  obtain ⟨r35, hr35, h⟩ := Option.bind_eq_some_iff.mp h
  refine QTri.callP W (a := 1) (as := [.int x1]) (rest := []) (w := none) (σ₁ := (H0 s r35)) rfl rfl rfl rfl rfl rfl rfl rfl (tF22 Ad W s o x1 hr35) ?_
  refine QTri.steps Ad W 4 (st' := (11, [some (.ref 1), some (.int x1)], [.int (1 : Int32), .int x1, .ref 4], (H0 s r35))) rfl ?_
  obtain ⟨y36, hy36, h⟩ := Option.bind_eq_some_iff.mp h
  refine QTri.bnd Ad W (f := fun y36 => (12, [some (.ref 1), some (.int x1)], [], [.inr (.inl (.int, s)), .inl [.ref 2, .ref 3, .ref 4, .ref 5, .ref 6, .ref 7, .ref 8, .int (f_keyCount r35), .int (f_slotCount r35), .int (f_window r35), .int (f_commitCount r35), .int (f_abortCount r35), .int (f_lastConflict r35)], .inr (.inl (.int, (f_value r35))), .inr (.inl (.int, (f_version r35))), .inr (.inl (.boolean, y36)), .inr (.inl (.int, (f_start r35))), .inr (.inl (.int, (f_readSet r35))), .inr (.inl (.int, (f_writeSet r35))), .inr (.inl (.int, (f_buffered r35)))])) rfl hy36 ?_
  refine QTri.steps Ad W 5 (st' := (21, [some (.ref 1), some (.int x1)], [.int (f_commitCount r35), .int x1, .ref 5], [.inr (.inl (.int, s)), .inl [.ref 2, .ref 3, .ref 4, .ref 5, .ref 6, .ref 7, .ref 8, .int (f_keyCount r35), .int (f_slotCount r35), .int (f_window r35), .int (f_commitCount r35), .int (f_abortCount r35), .int (f_lastConflict r35)], .inr (.inl (.int, (f_value r35))), .inr (.inl (.int, (f_version r35))), .inr (.inl (.boolean, y36)), .inr (.inl (.int, (f_start r35))), .inr (.inl (.int, (f_readSet r35))), .inr (.inl (.int, (f_writeSet r35))), .inr (.inl (.int, (f_buffered r35)))])) rfl ?_
  obtain ⟨y37, hy37, h⟩ := Option.bind_eq_some_iff.mp h
  refine QTri.bnd Ad W (f := fun y37 => (22, [some (.ref 1), some (.int x1)], [], [.inr (.inl (.int, s)), .inl [.ref 2, .ref 3, .ref 4, .ref 5, .ref 6, .ref 7, .ref 8, .int (f_keyCount r35), .int (f_slotCount r35), .int (f_window r35), .int (f_commitCount r35), .int (f_abortCount r35), .int (f_lastConflict r35)], .inr (.inl (.int, (f_value r35))), .inr (.inl (.int, (f_version r35))), .inr (.inl (.boolean, y36)), .inr (.inl (.int, y37)), .inr (.inl (.int, (f_readSet r35))), .inr (.inl (.int, (f_writeSet r35))), .inr (.inl (.int, (f_buffered r35)))])) rfl hy37 ?_
  have E38 : ([.inr (.inl (.int, s)), .inl [.ref 2, .ref 3, .ref 4, .ref 5, .ref 6, .ref 7, .ref 8, .int (f_keyCount r35), .int (f_slotCount r35), .int (f_window r35), .int (f_commitCount r35), .int (f_abortCount r35), .int (f_lastConflict r35)], .inr (.inl (.int, (f_value r35))), .inr (.inl (.int, (f_version r35))), .inr (.inl (.boolean, y36)), .inr (.inl (.int, y37)), .inr (.inl (.int, (f_readSet r35))), .inr (.inl (.int, (f_writeSet r35))), .inr (.inl (.int, (f_buffered r35)))] : QHeap) = (H0 s (s_start (s_active r35 y36) y37)) := by dsimp only [H0, f_value, f_version, f_active, f_start, f_readSet, f_writeSet, f_buffered, f_keyCount, f_slotCount, f_window, f_commitCount, f_abortCount, f_lastConflict, s_active, s_start]
  rw [E38]
  obtain rfl := Option.some.inj h
  exact QTri.ret0 rfl rfl
/-- begin()I -/
def F19 (o : Ob) : Option (Int32 × Ob) :=
  (F20 o).bind fun r23 => (if r23 < (0 : Int32) then some ((-5 : Int32), o) else (F21 o r23).bind fun r39 => some (r23, r39))
theorem tF19 (Ad : QAd n0 ad) (W : QW Z a0) (s : List Int32) (o : Ob) {r : Int32 × Ob} (h : F19 o = some r) : QTri l Z n0 ad 19 (0, qentry [.ref 1] (pMaxL 19), [], (H0 s o)) (some (Value.int r.1)) (H0 s r.2) := by
  unfold F19 at h
  refine QTri.steps Ad W 1 (st' := (1, [some (.ref 1), none], [.ref 1], (H0 s o))) rfl ?_
  obtain ⟨r23, hr23, h⟩ := Option.bind_eq_some_iff.mp h
  refine QTri.callP W (a := 1) (as := []) (rest := []) (w := (some (.int r23))) (σ₁ := (H0 s o)) rfl rfl rfl rfl rfl rfl rfl rfl (tF20 Ad W s o hr23) ?_
  refine QTri.steps Ad W 2 (st' := (6, [some (.ref 1), some (.int r23)], [.int r23], (H0 s o))) rfl ?_
  rcases qite h with ⟨hc24, h⟩ | ⟨hc24, h⟩
  · refine QTri.brF Ad W (t := 12) (f := 9) (L := [some (.ref 1), some (.int r23)]) (S := []) (σ := (H0 s o)) rfl (XT.i0_ge_f hc24) ?_
    refine QTri.steps Ad W 1 (st' := (11, [some (.ref 1), some (.int r23)], [.int (-5 : Int32)], (H0 s o))) rfl ?_
    obtain rfl := Option.some.inj h
    exact QTri.retI rfl rfl
  · refine QTri.brT Ad W (t := 12) (f := 9) (L := [some (.ref 1), some (.int r23)]) (S := []) (σ := (H0 s o)) rfl (XT.i0_ge_t hc24) ?_
    refine QTri.steps Ad W 2 (st' := (14, [some (.ref 1), some (.int r23)], [.int r23, .ref 1], (H0 s o))) rfl ?_
    obtain ⟨r39, hr39, h⟩ := Option.bind_eq_some_iff.mp h
    refine QTri.callP W (a := 1) (as := [.int r23]) (rest := []) (w := none) (σ₁ := (H0 s r39)) rfl rfl rfl rfl rfl rfl rfl rfl (tF21 Ad W s o r23 hr39) ?_
    refine QTri.steps Ad W 1 (st' := (18, [some (.ref 1), some (.int r23)], [.int r23], (H0 s r39))) rfl ?_
    obtain rfl := Option.some.inj h
    exact QTri.retI rfl rfl
/-- isValidTx(I)Z -/
def F4 (o : Ob) (x1 : Int32) : Option (Int32) :=
  (if x1 < (0 : Int32) then some (0 : Int32) else (if x1 < (f_slotCount o) then (if x1 < (8 : Int32) then (aget (f_active o) x1).bind fun y46 => some (y46 &&& 1) else some (0 : Int32)) else some (0 : Int32)))
theorem tF4 (Ad : QAd n0 ad) (W : QW Z a0) (s : List Int32) (o : Ob) (x1 : Int32) {r : Int32} (h : F4 o x1 = some r) : QTri l Z n0 ad 4 (0, qentry [.ref 1, .int x1] (pMaxL 4), [], (H0 s o)) (some (Value.int r)) (H0 s o) := by
  unfold F4 at h
  refine QTri.steps Ad W 1 (st' := (1, [some (.ref 1), some (.int x1)], [.int x1], (H0 s o))) rfl ?_
  rcases qite h with ⟨hc43, h⟩ | ⟨hc43, h⟩
  · refine QTri.brT Ad W (t := 18) (f := 4) (L := [some (.ref 1), some (.int x1)]) (S := []) (σ := (H0 s o)) rfl (XT.i0_lt_t hc43) ?_
    refine QTri.steps Ad W 1 (st' := (19, [some (.ref 1), some (.int x1)], [.int (0 : Int32)], (H0 s o))) rfl ?_
    obtain rfl := Option.some.inj h
    exact QTri.retZ rfl rfl
  · refine QTri.brF Ad W (t := 18) (f := 4) (L := [some (.ref 1), some (.int x1)]) (S := []) (σ := (H0 s o)) rfl (XT.i0_lt_f hc43) ?_
    refine QTri.steps Ad W 3 (st' := (9, [some (.ref 1), some (.int x1)], [.int (f_slotCount o), .int x1], (H0 s o))) rfl ?_
    rcases qite h with ⟨hc44, h⟩ | ⟨hc44, h⟩
    · refine QTri.brF Ad W (t := 18) (f := 12) (L := [some (.ref 1), some (.int x1)]) (S := []) (σ := (H0 s o)) rfl (XT.ii_ge_f hc44) ?_
      refine QTri.steps Ad W 2 (st' := (15, [some (.ref 1), some (.int x1)], [.int (8 : Int32), .int x1], (H0 s o))) rfl ?_
      rcases qite h with ⟨hc45, h⟩ | ⟨hc45, h⟩
      · refine QTri.brT Ad W (t := 20) (f := 18) (L := [some (.ref 1), some (.int x1)]) (S := []) (σ := (H0 s o)) rfl (XT.ii_lt_t hc45) ?_
        refine QTri.steps Ad W 3 (st' := (25, [some (.ref 1), some (.int x1)], [.int x1, .ref 4], (H0 s o))) rfl ?_
        obtain ⟨y46, hy46, h⟩ := Option.bind_eq_some_iff.mp h
        refine QTri.bnd Ad W (f := fun y46 => (26, [some (.ref 1), some (.int x1)], [.int y46], (H0 s o))) rfl hy46 ?_
        obtain rfl := Option.some.inj h
        exact QTri.retZ rfl rfl
      · refine QTri.brF Ad W (t := 20) (f := 18) (L := [some (.ref 1), some (.int x1)]) (S := []) (σ := (H0 s o)) rfl (XT.ii_lt_f hc45) ?_
        refine QTri.steps Ad W 1 (st' := (19, [some (.ref 1), some (.int x1)], [.int (0 : Int32)], (H0 s o))) rfl ?_
        obtain rfl := Option.some.inj h
        exact QTri.retZ rfl rfl
    · refine QTri.brT Ad W (t := 18) (f := 12) (L := [some (.ref 1), some (.int x1)]) (S := []) (σ := (H0 s o)) rfl (XT.ii_ge_t hc44) ?_
      refine QTri.steps Ad W 1 (st' := (19, [some (.ref 1), some (.int x1)], [.int (0 : Int32)], (H0 s o))) rfl ?_
      obtain rfl := Option.some.inj h
      exact QTri.retZ rfl rfl
/-- isActive(I)Z -/
def F6 (o : Ob) (x1 : Int32) : Option (Int32) :=
  (F4 o x1).bind fun r47 => some (r47 &&& 1)
theorem tF6 (Ad : QAd n0 ad) (W : QW Z a0) (s : List Int32) (o : Ob) (x1 : Int32) {r : Int32} (h : F6 o x1 = some r) : QTri l Z n0 ad 6 (0, qentry [.ref 1, .int x1] (pMaxL 6), [], (H0 s o)) (some (Value.int r)) (H0 s o) := by
  unfold F6 at h
  refine QTri.steps Ad W 2 (st' := (2, [some (.ref 1), some (.int x1)], [.int x1, .ref 1], (H0 s o))) rfl ?_
  obtain ⟨r47, hr47, h⟩ := Option.bind_eq_some_iff.mp h
  refine QTri.callP W (a := 1) (as := [.int x1]) (rest := []) (w := (some (.int r47))) (σ₁ := (H0 s o)) rfl rfl rfl rfl rfl rfl rfl rfl (tF4 Ad W s o x1 hr47) ?_
  obtain rfl := Option.some.inj h
  exact QTri.retZ rfl rfl
/-- badTx(LOccValidator;I)I -/
def F5 (o : Ob) (x1 : Int32) : Option (Int32) :=
  (F6 o ((XT.ushr x1 (3 : Int32)) &&& (3 : Int32))).bind fun r48 => (if r48 = (0 : Int32) then some ((XT.ushr x1 (3 : Int32)) &&& (3 : Int32)) else (if ((XT.ushr x1 (5 : Int32)) &&& (1 : Int32)) = (1 : Int32) then some ((4 : Int32) + ((XT.ushr x1 (6 : Int32)) &&& (1023 : Int32))) else some ((-1 : Int32) - ((XT.ushr x1 (6 : Int32)) &&& (1023 : Int32)))))
theorem tF5 (Ad : QAd n0 ad) (W : QW Z a0) (s : List Int32) (o : Ob) (x1 : Int32) {r : Int32} (h : F5 o x1 = some r) : QTri l Z n0 ad 5 (0, qentry [.ref 1, .int x1] (pMaxL 5), [], (H0 s o)) (some (Value.int r)) (H0 s o) := by
  unfold F5 at h
  refine QTri.steps Ad W 8 (st' := (8, [some (.ref 1), some (.int x1), some (.int ((XT.ushr x1 (3 : Int32)) &&& (3 : Int32)))], [.int ((XT.ushr x1 (3 : Int32)) &&& (3 : Int32)), .ref 1], (H0 s o))) rfl ?_
  obtain ⟨r48, hr48, h⟩ := Option.bind_eq_some_iff.mp h
  refine QTri.callV W (a := 1) (as := [.int ((XT.ushr x1 (3 : Int32)) &&& (3 : Int32))]) (rest := []) (w := (some (.int r48))) (σ₁ := (H0 s o)) rfl rfl rfl rfl rfl rfl rfl rfl (tF6 Ad W s o ((XT.ushr x1 (3 : Int32)) &&& (3 : Int32)) hr48) ?_
  rcases qite h with ⟨hc49, h⟩ | ⟨hc49, h⟩
  · refine QTri.brF Ad W (t := 16) (f := 14) (L := [some (.ref 1), some (.int x1), some (.int ((XT.ushr x1 (3 : Int32)) &&& (3 : Int32)))]) (S := []) (σ := (H0 s o)) rfl (XT.i0_ne_f hc49) ?_
    refine QTri.steps Ad W 1 (st' := (15, [some (.ref 1), some (.int x1), some (.int ((XT.ushr x1 (3 : Int32)) &&& (3 : Int32)))], [.int ((XT.ushr x1 (3 : Int32)) &&& (3 : Int32))], (H0 s o))) rfl ?_
    obtain rfl := Option.some.inj h
    exact QTri.retI rfl rfl
  · refine QTri.brT Ad W (t := 16) (f := 14) (L := [some (.ref 1), some (.int x1), some (.int ((XT.ushr x1 (3 : Int32)) &&& (3 : Int32)))]) (S := []) (σ := (H0 s o)) rfl (XT.i0_ne_t hc49) ?_
    refine QTri.steps Ad W 6 (st' := (22, [some (.ref 1), some (.int x1), some (.int ((XT.ushr x1 (3 : Int32)) &&& (3 : Int32)))], [.int (1 : Int32), .int ((XT.ushr x1 (5 : Int32)) &&& (1 : Int32))], (H0 s o))) rfl ?_
    rcases qite h with ⟨hc50, h⟩ | ⟨hc50, h⟩
    · refine QTri.brF Ad W (t := 36) (f := 25) (L := [some (.ref 1), some (.int x1), some (.int ((XT.ushr x1 (3 : Int32)) &&& (3 : Int32)))]) (S := []) (σ := (H0 s o)) rfl (XT.ii_ne_f hc50) ?_
      refine QTri.steps Ad W 7 (st' := (35, [some (.ref 1), some (.int x1), some (.int ((XT.ushr x1 (3 : Int32)) &&& (3 : Int32)))], [.int ((4 : Int32) + ((XT.ushr x1 (6 : Int32)) &&& (1023 : Int32)))], (H0 s o))) rfl ?_
      obtain rfl := Option.some.inj h
      exact QTri.retI rfl rfl
    · refine QTri.brT Ad W (t := 36) (f := 25) (L := [some (.ref 1), some (.int x1), some (.int ((XT.ushr x1 (3 : Int32)) &&& (3 : Int32)))]) (S := []) (σ := (H0 s o)) rfl (XT.ii_ne_t hc50) ?_
      refine QTri.steps Ad W 7 (st' := (46, [some (.ref 1), some (.int x1), some (.int ((XT.ushr x1 (3 : Int32)) &&& (3 : Int32)))], [.int ((-1 : Int32) - ((XT.ushr x1 (6 : Int32)) &&& (1023 : Int32)))], (H0 s o))) rfl ?_
      obtain rfl := Option.some.inj h
      exact QTri.retI rfl rfl
/-- badKey(I)I -/
def F7 (x0 : Int32) : Option (Int32) :=
  (if ((XT.ushr x0 (20 : Int32)) &&& (1 : Int32)) = (1 : Int32) then some ((8 : Int32) + ((XT.ushr x0 (21 : Int32)) &&& (1023 : Int32))) else some ((-1 : Int32) - ((XT.ushr x0 (21 : Int32)) &&& (1023 : Int32))))
theorem tF7 (Ad : QAd n0 ad) (W : QW Z a0) {σ : QHeap} (x0 : Int32) {r : Int32} (h : F7 x0 = some r) : QTri l Z n0 ad 7 (0, qentry [.int x0] (pMaxL 7), [], σ) (some (Value.int r)) σ := by
  unfold F7 at h
  refine QTri.steps Ad W 6 (st' := (7, [some (.int x0)], [.int (1 : Int32), .int ((XT.ushr x0 (20 : Int32)) &&& (1 : Int32))], σ)) rfl ?_
  rcases qite h with ⟨hc52, h⟩ | ⟨hc52, h⟩
  · refine QTri.brF Ad W (t := 22) (f := 10) (L := [some (.int x0)]) (S := []) (σ := σ) rfl (XT.ii_ne_f hc52) ?_
    refine QTri.steps Ad W 7 (st' := (21, [some (.int x0)], [.int ((8 : Int32) + ((XT.ushr x0 (21 : Int32)) &&& (1023 : Int32)))], σ)) rfl ?_
    obtain rfl := Option.some.inj h
    exact QTri.retI rfl rfl
  · refine QTri.brT Ad W (t := 22) (f := 10) (L := [some (.int x0)]) (S := []) (σ := σ) rfl (XT.ii_ne_t hc52) ?_
    refine QTri.steps Ad W 7 (st' := (32, [some (.int x0)], [.int ((-1 : Int32) - ((XT.ushr x0 (21 : Int32)) &&& (1023 : Int32)))], σ)) rfl ?_
    obtain rfl := Option.some.inj h
    exact QTri.retI rfl rfl
/-- getCommitCount()I -/
def F9 (o : Ob) : Option (Int32) :=
  some (f_commitCount o)
theorem tF9 (Ad : QAd n0 ad) (W : QW Z a0) (s : List Int32) (o : Ob) {r : Int32} (h : F9 o = some r) : QTri l Z n0 ad 9 (0, qentry [.ref 1] (pMaxL 9), [], (H0 s o)) (some (Value.int r)) (H0 s o) := by
  unfold F9 at h
  refine QTri.steps Ad W 2 (st' := (4, [some (.ref 1)], [.int (f_commitCount o)], (H0 s o))) rfl ?_
  obtain rfl := Option.some.inj h
  exact QTri.retI rfl rfl
/-- getAbortCount()I -/
def F10 (o : Ob) : Option (Int32) :=
  some (f_abortCount o)
theorem tF10 (Ad : QAd n0 ad) (W : QW Z a0) (s : List Int32) (o : Ob) {r : Int32} (h : F10 o = some r) : QTri l Z n0 ad 10 (0, qentry [.ref 1] (pMaxL 10), [], (H0 s o)) (some (Value.int r)) (H0 s o) := by
  unfold F10 at h
  refine QTri.steps Ad W 2 (st' := (4, [some (.ref 1)], [.int (f_abortCount o)], (H0 s o))) rfl ?_
  obtain rfl := Option.some.inj h
  exact QTri.retI rfl rfl
/-- getLastConflictKey()I -/
def F11 (o : Ob) : Option (Int32) :=
  some (f_lastConflict o)
theorem tF11 (Ad : QAd n0 ad) (W : QW Z a0) (s : List Int32) (o : Ob) {r : Int32} (h : F11 o = some r) : QTri l Z n0 ad 11 (0, qentry [.ref 1] (pMaxL 11), [], (H0 s o)) (some (Value.int r)) (H0 s o) := by
  unfold F11 at h
  refine QTri.steps Ad W 2 (st' := (4, [some (.ref 1)], [.int (f_lastConflict o)], (H0 s o))) rfl ?_
  obtain rfl := Option.some.inj h
  exact QTri.retI rfl rfl
/-- isValidKey(I)Z -/
def F13 (o : Ob) (x1 : Int32) : Option (Int32) :=
  (if x1 < (0 : Int32) then some (0 : Int32) else (if x1 < (f_keyCount o) then (if x1 < (32 : Int32) then some (1 : Int32) else some (0 : Int32)) else some (0 : Int32)))
theorem tF13 (Ad : QAd n0 ad) (W : QW Z a0) (s : List Int32) (o : Ob) (x1 : Int32) {r : Int32} (h : F13 o x1 = some r) : QTri l Z n0 ad 13 (0, qentry [.ref 1, .int x1] (pMaxL 13), [], (H0 s o)) (some (Value.int r)) (H0 s o) := by
  unfold F13 at h
  refine QTri.steps Ad W 1 (st' := (1, [some (.ref 1), some (.int x1)], [.int x1], (H0 s o))) rfl ?_
  rcases qite h with ⟨hc64, h⟩ | ⟨hc64, h⟩
  · refine QTri.brT Ad W (t := 22) (f := 4) (L := [some (.ref 1), some (.int x1)]) (S := []) (σ := (H0 s o)) rfl (XT.i0_lt_t hc64) ?_
    refine QTri.steps Ad W 1 (st' := (23, [some (.ref 1), some (.int x1)], [.int (0 : Int32)], (H0 s o))) rfl ?_
    obtain rfl := Option.some.inj h
    exact QTri.retZ rfl rfl
  · refine QTri.brF Ad W (t := 22) (f := 4) (L := [some (.ref 1), some (.int x1)]) (S := []) (σ := (H0 s o)) rfl (XT.i0_lt_f hc64) ?_
    refine QTri.steps Ad W 3 (st' := (9, [some (.ref 1), some (.int x1)], [.int (f_keyCount o), .int x1], (H0 s o))) rfl ?_
    rcases qite h with ⟨hc65, h⟩ | ⟨hc65, h⟩
    · refine QTri.brF Ad W (t := 22) (f := 12) (L := [some (.ref 1), some (.int x1)]) (S := []) (σ := (H0 s o)) rfl (XT.ii_ge_f hc65) ?_
      refine QTri.steps Ad W 2 (st' := (15, [some (.ref 1), some (.int x1)], [.int (32 : Int32), .int x1], (H0 s o))) rfl ?_
      rcases qite h with ⟨hc66, h⟩ | ⟨hc66, h⟩
      · refine QTri.brF Ad W (t := 22) (f := 18) (L := [some (.ref 1), some (.int x1)]) (S := []) (σ := (H0 s o)) rfl (XT.ii_ge_f hc66) ?_
        refine QTri.steps Ad W 2 (st' := (23, [some (.ref 1), some (.int x1)], [.int (1 : Int32)], (H0 s o))) rfl ?_
        obtain rfl := Option.some.inj h
        exact QTri.retZ rfl rfl
      · refine QTri.brT Ad W (t := 22) (f := 18) (L := [some (.ref 1), some (.int x1)]) (S := []) (σ := (H0 s o)) rfl (XT.ii_ge_t hc66) ?_
        refine QTri.steps Ad W 1 (st' := (23, [some (.ref 1), some (.int x1)], [.int (0 : Int32)], (H0 s o))) rfl ?_
        obtain rfl := Option.some.inj h
        exact QTri.retZ rfl rfl
    · refine QTri.brT Ad W (t := 22) (f := 12) (L := [some (.ref 1), some (.int x1)]) (S := []) (σ := (H0 s o)) rfl (XT.ii_ge_t hc65) ?_
      refine QTri.steps Ad W 1 (st' := (23, [some (.ref 1), some (.int x1)], [.int (0 : Int32)], (H0 s o))) rfl ?_
      obtain rfl := Option.some.inj h
      exact QTri.retZ rfl rfl
/-- getValue(I)I -/
def F12 (o : Ob) (x1 : Int32) : Option (Int32) :=
  (F13 o x1).bind fun r67 => (if r67 = (0 : Int32) then some (0 : Int32) else (aget (f_value o) x1).bind fun y69 => some y69)
theorem tF12 (Ad : QAd n0 ad) (W : QW Z a0) (s : List Int32) (o : Ob) (x1 : Int32) {r : Int32} (h : F12 o x1 = some r) : QTri l Z n0 ad 12 (0, qentry [.ref 1, .int x1] (pMaxL 12), [], (H0 s o)) (some (Value.int r)) (H0 s o) := by
  unfold F12 at h
  refine QTri.steps Ad W 2 (st' := (2, [some (.ref 1), some (.int x1)], [.int x1, .ref 1], (H0 s o))) rfl ?_
  obtain ⟨r67, hr67, h⟩ := Option.bind_eq_some_iff.mp h
  refine QTri.callP W (a := 1) (as := [.int x1]) (rest := []) (w := (some (.int r67))) (σ₁ := (H0 s o)) rfl rfl rfl rfl rfl rfl rfl rfl (tF13 Ad W s o x1 hr67) ?_
  rcases qite h with ⟨hc68, h⟩ | ⟨hc68, h⟩
  · refine QTri.brF Ad W (t := 10) (f := 8) (L := [some (.ref 1), some (.int x1)]) (S := []) (σ := (H0 s o)) rfl (XT.i0_ne_f hc68) ?_
    refine QTri.steps Ad W 1 (st' := (9, [some (.ref 1), some (.int x1)], [.int (0 : Int32)], (H0 s o))) rfl ?_
    obtain rfl := Option.some.inj h
    exact QTri.retI rfl rfl
  · refine QTri.brT Ad W (t := 10) (f := 8) (L := [some (.ref 1), some (.int x1)]) (S := []) (σ := (H0 s o)) rfl (XT.i0_ne_t hc68) ?_
    refine QTri.steps Ad W 3 (st' := (15, [some (.ref 1), some (.int x1)], [.int x1, .ref 2], (H0 s o))) rfl ?_
    obtain ⟨y69, hy69, h⟩ := Option.bind_eq_some_iff.mp h
    refine QTri.bnd Ad W (f := fun y69 => (16, [some (.ref 1), some (.int x1)], [.int y69], (H0 s o))) rfl hy69 ?_
    obtain rfl := Option.some.inj h
    exact QTri.retI rfl rfl
/-- getVersion(I)I -/
def F14 (o : Ob) (x1 : Int32) : Option (Int32) :=
  (F13 o x1).bind fun r71 => (if r71 = (0 : Int32) then some (0 : Int32) else (aget (f_version o) x1).bind fun y73 => some y73)
theorem tF14 (Ad : QAd n0 ad) (W : QW Z a0) (s : List Int32) (o : Ob) (x1 : Int32) {r : Int32} (h : F14 o x1 = some r) : QTri l Z n0 ad 14 (0, qentry [.ref 1, .int x1] (pMaxL 14), [], (H0 s o)) (some (Value.int r)) (H0 s o) := by
  unfold F14 at h
  refine QTri.steps Ad W 2 (st' := (2, [some (.ref 1), some (.int x1)], [.int x1, .ref 1], (H0 s o))) rfl ?_
  obtain ⟨r71, hr71, h⟩ := Option.bind_eq_some_iff.mp h
  refine QTri.callP W (a := 1) (as := [.int x1]) (rest := []) (w := (some (.int r71))) (σ₁ := (H0 s o)) rfl rfl rfl rfl rfl rfl rfl rfl (tF13 Ad W s o x1 hr71) ?_
  rcases qite h with ⟨hc72, h⟩ | ⟨hc72, h⟩
  · refine QTri.brF Ad W (t := 10) (f := 8) (L := [some (.ref 1), some (.int x1)]) (S := []) (σ := (H0 s o)) rfl (XT.i0_ne_f hc72) ?_
    refine QTri.steps Ad W 1 (st' := (9, [some (.ref 1), some (.int x1)], [.int (0 : Int32)], (H0 s o))) rfl ?_
    obtain rfl := Option.some.inj h
    exact QTri.retI rfl rfl
  · refine QTri.brT Ad W (t := 10) (f := 8) (L := [some (.ref 1), some (.int x1)]) (S := []) (σ := (H0 s o)) rfl (XT.i0_ne_t hc72) ?_
    refine QTri.steps Ad W 3 (st' := (15, [some (.ref 1), some (.int x1)], [.int x1, .ref 3], (H0 s o))) rfl ?_
    obtain ⟨y73, hy73, h⟩ := Option.bind_eq_some_iff.mp h
    refine QTri.bnd Ad W (f := fun y73 => (16, [some (.ref 1), some (.int x1)], [.int y73], (H0 s o))) rfl hy73 ?_
    obtain rfl := Option.some.inj h
    exact QTri.retI rfl rfl
def B8_32 (o : Ob) (v : Int64 × Int32) : Option (((Int64)) ⊕ (Int64 × Int32)) :=
  (if v.2 < (8 : Int32) then (F12 o v.2).bind fun r70 => (F14 o v.2).bind fun r74 => some (.inr (((((v.1 * (1000003 : Int64)) + (r70.toInt64)) * (1000003 : Int64)) + (r74.toInt64)), (v.2 + (1 : Int32)))) else some (.inl v.1))
theorem tB8_32 (Ad : QAd n0 ad) (W : QW Z a0) (s : List Int32) (o : Ob) (v : Int64 × Int32) {r : ((Int64)) ⊕ (Int64 × Int32)} {u : Option Value} {τ : QHeap} (h : B8_32 o v = some r) (hx0 : ∀ x : Int64, r = .inl x → QTri l Z n0 ad 8 (70, [some (.ref 1), some (.long x), none, none, none], [], (H0 s o)) u τ) (hc : ∀ x : Int64 × Int32, r = .inr x → QTri l Z n0 ad 8 (32, [some (.ref 1), some (.long x.1), none, some (.int x.2), none], [], (H0 s o)) u τ) : QTri l Z n0 ad 8 (32, [some (.ref 1), some (.long v.1), none, some (.int v.2), none], [], (H0 s o)) u τ := by
  unfold B8_32 at h
  refine QTri.steps Ad W 2 (st' := (35, [some (.ref 1), some (.long v.1), none, some (.int v.2), none], [.int (8 : Int32), .int v.2], (H0 s o))) rfl ?_
  rcases qite h with ⟨hc63, h⟩ | ⟨hc63, h⟩
  · refine QTri.brF Ad W (t := 70) (f := 38) (L := [some (.ref 1), some (.long v.1), none, some (.int v.2), none]) (S := []) (σ := (H0 s o)) rfl (XT.ii_ge_f hc63) ?_
    refine QTri.steps Ad W 5 (st' := (45, [some (.ref 1), some (.long v.1), none, some (.int v.2), none], [.int v.2, .ref 1, .long (v.1 * (1000003 : Int64))], (H0 s o))) rfl ?_
    obtain ⟨r70, hr70, h⟩ := Option.bind_eq_some_iff.mp h
    refine QTri.callV W (a := 1) (as := [.int v.2]) (rest := [.long (v.1 * (1000003 : Int64))]) (w := (some (.int r70))) (σ₁ := (H0 s o)) rfl rfl rfl rfl rfl rfl rfl rfl (tF12 Ad W s o v.2 hr70) ?_
    refine QTri.steps Ad W 8 (st' := (58, [some (.ref 1), some (.long ((v.1 * (1000003 : Int64)) + (r70.toInt64))), none, some (.int v.2), none], [.int v.2, .ref 1, .long (((v.1 * (1000003 : Int64)) + (r70.toInt64)) * (1000003 : Int64))], (H0 s o))) rfl ?_
    obtain ⟨r74, hr74, h⟩ := Option.bind_eq_some_iff.mp h
    refine QTri.callV W (a := 1) (as := [.int v.2]) (rest := [.long (((v.1 * (1000003 : Int64)) + (r70.toInt64)) * (1000003 : Int64))]) (w := (some (.int r74))) (σ₁ := (H0 s o)) rfl rfl rfl rfl rfl rfl rfl rfl (tF14 Ad W s o v.2 hr74) ?_
    refine QTri.steps Ad W 4 (st' := (67, [some (.ref 1), some (.long ((((v.1 * (1000003 : Int64)) + (r70.toInt64)) * (1000003 : Int64)) + (r74.toInt64))), none, some (.int (v.2 + (1 : Int32))), none], [], (H0 s o))) rfl ?_
    refine QTri.steps Ad W 1 (st' := (32, [some (.ref 1), some (.long ((((v.1 * (1000003 : Int64)) + (r70.toInt64)) * (1000003 : Int64)) + (r74.toInt64))), none, some (.int (v.2 + (1 : Int32))), none], [], (H0 s o))) rfl ?_
    obtain rfl := Option.some.inj h
    exact QTri.mask [true, true, false, true, false] (hc (((((v.1 * (1000003 : Int64)) + (r70.toInt64)) * (1000003 : Int64)) + (r74.toInt64)), (v.2 + (1 : Int32))) rfl)
  · refine QTri.brT Ad W (t := 70) (f := 38) (L := [some (.ref 1), some (.long v.1), none, some (.int v.2), none]) (S := []) (σ := (H0 s o)) rfl (XT.ii_ge_t hc63) ?_
    obtain rfl := Option.some.inj h
    exact QTri.mask [true, true, false, false, false] (hx0 v.1 rfl)
/-- getStart(I)I -/
def F15 (o : Ob) (x1 : Int32) : Option (Int32) :=
  (F4 o x1).bind fun r82 => (if r82 = (0 : Int32) then some (-1 : Int32) else (aget (f_start o) x1).bind fun y84 => some y84)
theorem tF15 (Ad : QAd n0 ad) (W : QW Z a0) (s : List Int32) (o : Ob) (x1 : Int32) {r : Int32} (h : F15 o x1 = some r) : QTri l Z n0 ad 15 (0, qentry [.ref 1, .int x1] (pMaxL 15), [], (H0 s o)) (some (Value.int r)) (H0 s o) := by
  unfold F15 at h
  refine QTri.steps Ad W 2 (st' := (2, [some (.ref 1), some (.int x1)], [.int x1, .ref 1], (H0 s o))) rfl ?_
  obtain ⟨r82, hr82, h⟩ := Option.bind_eq_some_iff.mp h
  refine QTri.callP W (a := 1) (as := [.int x1]) (rest := []) (w := (some (.int r82))) (σ₁ := (H0 s o)) rfl rfl rfl rfl rfl rfl rfl rfl (tF4 Ad W s o x1 hr82) ?_
  rcases qite h with ⟨hc83, h⟩ | ⟨hc83, h⟩
  · refine QTri.brF Ad W (t := 10) (f := 8) (L := [some (.ref 1), some (.int x1)]) (S := []) (σ := (H0 s o)) rfl (XT.i0_ne_f hc83) ?_
    refine QTri.steps Ad W 1 (st' := (9, [some (.ref 1), some (.int x1)], [.int (-1 : Int32)], (H0 s o))) rfl ?_
    obtain rfl := Option.some.inj h
    exact QTri.retI rfl rfl
  · refine QTri.brT Ad W (t := 10) (f := 8) (L := [some (.ref 1), some (.int x1)]) (S := []) (σ := (H0 s o)) rfl (XT.i0_ne_t hc83) ?_
    refine QTri.steps Ad W 3 (st' := (15, [some (.ref 1), some (.int x1)], [.int x1, .ref 5], (H0 s o))) rfl ?_
    obtain ⟨y84, hy84, h⟩ := Option.bind_eq_some_iff.mp h
    refine QTri.bnd Ad W (f := fun y84 => (16, [some (.ref 1), some (.int x1)], [.int y84], (H0 s o))) rfl hy84 ?_
    obtain rfl := Option.some.inj h
    exact QTri.retI rfl rfl
/-- getReadSet(I)I -/
def F16 (o : Ob) (x1 : Int32) : Option (Int32) :=
  (F4 o x1).bind fun r86 => (if r86 = (0 : Int32) then some (0 : Int32) else (aget (f_readSet o) x1).bind fun y88 => some y88)
theorem tF16 (Ad : QAd n0 ad) (W : QW Z a0) (s : List Int32) (o : Ob) (x1 : Int32) {r : Int32} (h : F16 o x1 = some r) : QTri l Z n0 ad 16 (0, qentry [.ref 1, .int x1] (pMaxL 16), [], (H0 s o)) (some (Value.int r)) (H0 s o) := by
  unfold F16 at h
  refine QTri.steps Ad W 2 (st' := (2, [some (.ref 1), some (.int x1)], [.int x1, .ref 1], (H0 s o))) rfl ?_
  obtain ⟨r86, hr86, h⟩ := Option.bind_eq_some_iff.mp h
  refine QTri.callP W (a := 1) (as := [.int x1]) (rest := []) (w := (some (.int r86))) (σ₁ := (H0 s o)) rfl rfl rfl rfl rfl rfl rfl rfl (tF4 Ad W s o x1 hr86) ?_
  rcases qite h with ⟨hc87, h⟩ | ⟨hc87, h⟩
  · refine QTri.brF Ad W (t := 10) (f := 8) (L := [some (.ref 1), some (.int x1)]) (S := []) (σ := (H0 s o)) rfl (XT.i0_ne_f hc87) ?_
    refine QTri.steps Ad W 1 (st' := (9, [some (.ref 1), some (.int x1)], [.int (0 : Int32)], (H0 s o))) rfl ?_
    obtain rfl := Option.some.inj h
    exact QTri.retI rfl rfl
  · refine QTri.brT Ad W (t := 10) (f := 8) (L := [some (.ref 1), some (.int x1)]) (S := []) (σ := (H0 s o)) rfl (XT.i0_ne_t hc87) ?_
    refine QTri.steps Ad W 3 (st' := (15, [some (.ref 1), some (.int x1)], [.int x1, .ref 6], (H0 s o))) rfl ?_
    obtain ⟨y88, hy88, h⟩ := Option.bind_eq_some_iff.mp h
    refine QTri.bnd Ad W (f := fun y88 => (16, [some (.ref 1), some (.int x1)], [.int y88], (H0 s o))) rfl hy88 ?_
    obtain rfl := Option.some.inj h
    exact QTri.retI rfl rfl
/-- getWriteSet(I)I -/
def F17 (o : Ob) (x1 : Int32) : Option (Int32) :=
  (F4 o x1).bind fun r90 => (if r90 = (0 : Int32) then some (0 : Int32) else (aget (f_writeSet o) x1).bind fun y92 => some y92)
theorem tF17 (Ad : QAd n0 ad) (W : QW Z a0) (s : List Int32) (o : Ob) (x1 : Int32) {r : Int32} (h : F17 o x1 = some r) : QTri l Z n0 ad 17 (0, qentry [.ref 1, .int x1] (pMaxL 17), [], (H0 s o)) (some (Value.int r)) (H0 s o) := by
  unfold F17 at h
  refine QTri.steps Ad W 2 (st' := (2, [some (.ref 1), some (.int x1)], [.int x1, .ref 1], (H0 s o))) rfl ?_
  obtain ⟨r90, hr90, h⟩ := Option.bind_eq_some_iff.mp h
  refine QTri.callP W (a := 1) (as := [.int x1]) (rest := []) (w := (some (.int r90))) (σ₁ := (H0 s o)) rfl rfl rfl rfl rfl rfl rfl rfl (tF4 Ad W s o x1 hr90) ?_
  rcases qite h with ⟨hc91, h⟩ | ⟨hc91, h⟩
  · refine QTri.brF Ad W (t := 10) (f := 8) (L := [some (.ref 1), some (.int x1)]) (S := []) (σ := (H0 s o)) rfl (XT.i0_ne_f hc91) ?_
    refine QTri.steps Ad W 1 (st' := (9, [some (.ref 1), some (.int x1)], [.int (0 : Int32)], (H0 s o))) rfl ?_
    obtain rfl := Option.some.inj h
    exact QTri.retI rfl rfl
  · refine QTri.brT Ad W (t := 10) (f := 8) (L := [some (.ref 1), some (.int x1)]) (S := []) (σ := (H0 s o)) rfl (XT.i0_ne_t hc91) ?_
    refine QTri.steps Ad W 3 (st' := (15, [some (.ref 1), some (.int x1)], [.int x1, .ref 7], (H0 s o))) rfl ?_
    obtain ⟨y92, hy92, h⟩ := Option.bind_eq_some_iff.mp h
    refine QTri.bnd Ad W (f := fun y92 => (16, [some (.ref 1), some (.int x1)], [.int y92], (H0 s o))) rfl hy92 ?_
    obtain rfl := Option.some.inj h
    exact QTri.retI rfl rfl
/-- bit(I)I -/
def F23 (x1 : Int32) : Option (Int32) :=
  some ((1 : Int32) <<< (x1 &&& 31))
theorem tF23 (Ad : QAd n0 ad) (W : QW Z a0) {a : Nat} {σ : QHeap} (x1 : Int32) {r : Int32} (h : F23 x1 = some r) : QTri l Z n0 ad 23 (0, qentry [.ref a, .int x1] (pMaxL 23), [], σ) (some (Value.int r)) σ := by
  unfold F23 at h
  refine QTri.steps Ad W 3 (st' := (3, [some (.ref a), some (.int x1)], [.int ((1 : Int32) <<< (x1 &&& 31))], σ)) rfl ?_
  obtain rfl := Option.some.inj h
  exact QTri.retI rfl rfl
/-- bufIndex(II)I -/
def F26 (x1 : Int32) (x2 : Int32) : Option (Int32) :=
  some ((x1 * (32 : Int32)) + x2)
theorem tF26 (Ad : QAd n0 ad) (W : QW Z a0) {a : Nat} {σ : QHeap} (x1 : Int32) (x2 : Int32) {r : Int32} (h : F26 x1 x2 = some r) : QTri l Z n0 ad 26 (0, qentry [.ref a, .int x1, .int x2] (pMaxL 26), [], σ) (some (Value.int r)) σ := by
  unfold F26 at h
  refine QTri.steps Ad W 5 (st' := (6, [some (.ref a), some (.int x1), some (.int x2)], [.int ((x1 * (32 : Int32)) + x2)], σ)) rfl ?_
  obtain rfl := Option.some.inj h
  exact QTri.retI rfl rfl
/-- getBuffered(II)I -/
def F18 (o : Ob) (x1 : Int32) (x2 : Int32) : Option (Int32) :=
  (F4 o x1).bind fun r95 => (if r95 = (0 : Int32) then some (0 : Int32) else (F13 o x2).bind fun r97 => (if r97 = (0 : Int32) then some (0 : Int32) else (aget (f_writeSet o) x1).bind fun y99 => (F23 x2).bind fun r100 => (if (y99 &&& r100) = (0 : Int32) then some (0 : Int32) else (F26 x1 x2).bind fun r102 => (aget (f_buffered o) r102).bind fun y103 => some y103)))
theorem tF18 (Ad : QAd n0 ad) (W : QW Z a0) (s : List Int32) (o : Ob) (x1 : Int32) (x2 : Int32) {r : Int32} (h : F18 o x1 x2 = some r) : QTri l Z n0 ad 18 (0, qentry [.ref 1, .int x1, .int x2] (pMaxL 18), [], (H0 s o)) (some (Value.int r)) (H0 s o) := by
  unfold F18 at h
  refine QTri.steps Ad W 2 (st' := (2, [some (.ref 1), some (.int x1), some (.int x2)], [.int x1, .ref 1], (H0 s o))) rfl ?_
  obtain ⟨r95, hr95, h⟩ := Option.bind_eq_some_iff.mp h
  refine QTri.callP W (a := 1) (as := [.int x1]) (rest := []) (w := (some (.int r95))) (σ₁ := (H0 s o)) rfl rfl rfl rfl rfl rfl rfl rfl (tF4 Ad W s o x1 hr95) ?_
  rcases qite h with ⟨hc96, h⟩ | ⟨hc96, h⟩
  · refine QTri.brF Ad W (t := 10) (f := 8) (L := [some (.ref 1), some (.int x1), some (.int x2)]) (S := []) (σ := (H0 s o)) rfl (XT.i0_ne_f hc96) ?_
    refine QTri.steps Ad W 1 (st' := (9, [some (.ref 1), some (.int x1), some (.int x2)], [.int (0 : Int32)], (H0 s o))) rfl ?_
    obtain rfl := Option.some.inj h
    exact QTri.retI rfl rfl
  · refine QTri.brT Ad W (t := 10) (f := 8) (L := [some (.ref 1), some (.int x1), some (.int x2)]) (S := []) (σ := (H0 s o)) rfl (XT.i0_ne_t hc96) ?_
    refine QTri.steps Ad W 2 (st' := (12, [some (.ref 1), some (.int x1), some (.int x2)], [.int x2, .ref 1], (H0 s o))) rfl ?_
    obtain ⟨r97, hr97, h⟩ := Option.bind_eq_some_iff.mp h
    refine QTri.callP W (a := 1) (as := [.int x2]) (rest := []) (w := (some (.int r97))) (σ₁ := (H0 s o)) rfl rfl rfl rfl rfl rfl rfl rfl (tF13 Ad W s o x2 hr97) ?_
    rcases qite h with ⟨hc98, h⟩ | ⟨hc98, h⟩
    · refine QTri.brF Ad W (t := 20) (f := 18) (L := [some (.ref 1), some (.int x1), some (.int x2)]) (S := []) (σ := (H0 s o)) rfl (XT.i0_ne_f hc98) ?_
      refine QTri.steps Ad W 1 (st' := (19, [some (.ref 1), some (.int x1), some (.int x2)], [.int (0 : Int32)], (H0 s o))) rfl ?_
      obtain rfl := Option.some.inj h
      exact QTri.retI rfl rfl
    · refine QTri.brT Ad W (t := 20) (f := 18) (L := [some (.ref 1), some (.int x1), some (.int x2)]) (S := []) (σ := (H0 s o)) rfl (XT.i0_ne_t hc98) ?_
      refine QTri.steps Ad W 3 (st' := (25, [some (.ref 1), some (.int x1), some (.int x2)], [.int x1, .ref 7], (H0 s o))) rfl ?_
      obtain ⟨y99, hy99, h⟩ := Option.bind_eq_some_iff.mp h
      refine QTri.bnd Ad W (f := fun y99 => (26, [some (.ref 1), some (.int x1), some (.int x2)], [.int y99], (H0 s o))) rfl hy99 ?_
      refine QTri.steps Ad W 2 (st' := (28, [some (.ref 1), some (.int x1), some (.int x2)], [.int x2, .ref 1, .int y99], (H0 s o))) rfl ?_
      obtain ⟨r100, hr100, h⟩ := Option.bind_eq_some_iff.mp h
      refine QTri.callP W (a := 1) (as := [.int x2]) (rest := [.int y99]) (w := (some (.int r100))) (σ₁ := (H0 s o)) rfl rfl rfl rfl rfl rfl rfl rfl (tF23 Ad W x2 hr100) ?_
      refine QTri.steps Ad W 1 (st' := (32, [some (.ref 1), some (.int x1), some (.int x2)], [.int (y99 &&& r100)], (H0 s o))) rfl ?_
      rcases qite h with ⟨hc101, h⟩ | ⟨hc101, h⟩
      · refine QTri.brF Ad W (t := 37) (f := 35) (L := [some (.ref 1), some (.int x1), some (.int x2)]) (S := []) (σ := (H0 s o)) rfl (XT.i0_ne_f hc101) ?_
        refine QTri.steps Ad W 1 (st' := (36, [some (.ref 1), some (.int x1), some (.int x2)], [.int (0 : Int32)], (H0 s o))) rfl ?_
        obtain rfl := Option.some.inj h
        exact QTri.retI rfl rfl
      · refine QTri.brT Ad W (t := 37) (f := 35) (L := [some (.ref 1), some (.int x1), some (.int x2)]) (S := []) (σ := (H0 s o)) rfl (XT.i0_ne_t hc101) ?_
        refine QTri.steps Ad W 5 (st' := (44, [some (.ref 1), some (.int x1), some (.int x2)], [.int x2, .int x1, .ref 1, .ref 8], (H0 s o))) rfl ?_
        obtain ⟨r102, hr102, h⟩ := Option.bind_eq_some_iff.mp h
        refine QTri.callP W (a := 1) (as := [.int x1, .int x2]) (rest := [.ref 8]) (w := (some (.int r102))) (σ₁ := (H0 s o)) rfl rfl rfl rfl rfl rfl rfl rfl (tF26 Ad W x1 x2 hr102) ?_
        obtain ⟨y103, hy103, h⟩ := Option.bind_eq_some_iff.mp h
        refine QTri.bnd Ad W (f := fun y103 => (48, [some (.ref 1), some (.int x1), some (.int x2)], [.int y103], (H0 s o))) rfl hy103 ?_
        obtain rfl := Option.some.inj h
        exact QTri.retI rfl rfl
def B8_140 (o : Ob) (x3 : Int32) (v : Int64 × Int32) : Option (((Int64)) ⊕ (Int64 × Int32)) :=
  (if v.2 < (8 : Int32) then (F18 o x3 v.2).bind fun r104 => some (.inr (((v.1 * (1000003 : Int64)) + (r104.toInt64)), (v.2 + (1 : Int32)))) else some (.inl v.1))
theorem tB8_140 (Ad : QAd n0 ad) (W : QW Z a0) (s : List Int32) (o : Ob) (x3 : Int32) (v : Int64 × Int32) {r : ((Int64)) ⊕ (Int64 × Int32)} {u : Option Value} {τ : QHeap} (h : B8_140 o x3 v = some r) (hx0 : ∀ x : Int64, r = .inl x → QTri l Z n0 ad 8 (168, [some (.ref 1), some (.long x), none, some (.int x3), none], [], (H0 s o)) u τ) (hc : ∀ x : Int64 × Int32, r = .inr x → QTri l Z n0 ad 8 (140, [some (.ref 1), some (.long x.1), none, some (.int x3), some (.int x.2)], [], (H0 s o)) u τ) : QTri l Z n0 ad 8 (140, [some (.ref 1), some (.long v.1), none, some (.int x3), some (.int v.2)], [], (H0 s o)) u τ := by
  unfold B8_140 at h
  refine QTri.steps Ad W 2 (st' := (144, [some (.ref 1), some (.long v.1), none, some (.int x3), some (.int v.2)], [.int (8 : Int32), .int v.2], (H0 s o))) rfl ?_
  rcases qite h with ⟨hc94, h⟩ | ⟨hc94, h⟩
  · refine QTri.brF Ad W (t := 168) (f := 147) (L := [some (.ref 1), some (.long v.1), none, some (.int x3), some (.int v.2)]) (S := []) (σ := (H0 s o)) rfl (XT.ii_ge_f hc94) ?_
    refine QTri.steps Ad W 6 (st' := (156, [some (.ref 1), some (.long v.1), none, some (.int x3), some (.int v.2)], [.int v.2, .int x3, .ref 1, .long (v.1 * (1000003 : Int64))], (H0 s o))) rfl ?_
    obtain ⟨r104, hr104, h⟩ := Option.bind_eq_some_iff.mp h
    refine QTri.callV W (a := 1) (as := [.int x3, .int v.2]) (rest := [.long (v.1 * (1000003 : Int64))]) (w := (some (.int r104))) (σ₁ := (H0 s o)) rfl rfl rfl rfl rfl rfl rfl rfl (tF18 Ad W s o x3 v.2 hr104) ?_
    refine QTri.steps Ad W 4 (st' := (165, [some (.ref 1), some (.long ((v.1 * (1000003 : Int64)) + (r104.toInt64))), none, some (.int x3), some (.int (v.2 + (1 : Int32)))], [], (H0 s o))) rfl ?_
    refine QTri.steps Ad W 1 (st' := (140, [some (.ref 1), some (.long ((v.1 * (1000003 : Int64)) + (r104.toInt64))), none, some (.int x3), some (.int (v.2 + (1 : Int32)))], [], (H0 s o))) rfl ?_
    obtain rfl := Option.some.inj h
    exact QTri.mask [true, true, false, true, true] (hc (((v.1 * (1000003 : Int64)) + (r104.toInt64)), (v.2 + (1 : Int32))) rfl)
  · refine QTri.brT Ad W (t := 168) (f := 147) (L := [some (.ref 1), some (.long v.1), none, some (.int x3), some (.int v.2)]) (S := []) (σ := (H0 s o)) rfl (XT.ii_ge_t hc94) ?_
    obtain rfl := Option.some.inj h
    exact QTri.mask [true, true, false, true, false] (hx0 v.1 rfl)
def B8_72 (o : Ob) (v : Int64 × Int32) : Option (((Int64)) ⊕ (Int64 × Int32)) :=
  (if v.2 < (4 : Int32) then (F6 o v.2).bind fun r78 => (F15 o v.2).bind fun r85 => (F16 o v.2).bind fun r89 => (F17 o v.2).bind fun r93 => (loopN (B8_140 o v.2) qN (((((((((v.1 * (1000003 : Int64)) + ((if r78 = (0 : Int32) then (0 : Int32) else (1 : Int32)).toInt64)) * (1000003 : Int64)) + (r85.toInt64)) * (1000003 : Int64)) + (r89.toInt64)) * (1000003 : Int64)) + (r93.toInt64)), (0 : Int32))).bind fun e105 => some (.inr (e105, (v.2 + (1 : Int32)))) else some (.inl v.1))
theorem tB8_72 (Ad : QAd n0 ad) (W : QW Z a0) (s : List Int32) (o : Ob) (v : Int64 × Int32) {r : ((Int64)) ⊕ (Int64 × Int32)} {u : Option Value} {τ : QHeap} (h : B8_72 o v = some r) (hx0 : ∀ x : Int64, r = .inl x → u = (some (Value.long x)) ∧ τ = (H0 s o)) (hc : ∀ x : Int64 × Int32, r = .inr x → QTri l Z n0 ad 8 (72, [some (.ref 1), some (.long x.1), none, some (.int x.2), none], [], (H0 s o)) u τ) : QTri l Z n0 ad 8 (72, [some (.ref 1), some (.long v.1), none, some (.int v.2), none], [], (H0 s o)) u τ := by
  unfold B8_72 at h
  refine QTri.steps Ad W 2 (st' := (74, [some (.ref 1), some (.long v.1), none, some (.int v.2), none], [.int (4 : Int32), .int v.2], (H0 s o))) rfl ?_
  rcases qite h with ⟨hc77, h⟩ | ⟨hc77, h⟩
  · refine QTri.brF Ad W (t := 174) (f := 77) (L := [some (.ref 1), some (.long v.1), none, some (.int v.2), none]) (S := []) (σ := (H0 s o)) rfl (XT.ii_ge_f hc77) ?_
    refine QTri.steps Ad W 5 (st' := (84, [some (.ref 1), some (.long v.1), none, some (.int v.2), none], [.int v.2, .ref 1, .long (v.1 * (1000003 : Int64))], (H0 s o))) rfl ?_
    obtain ⟨r78, hr78, h⟩ := Option.bind_eq_some_iff.mp h
    refine QTri.callV W (a := 1) (as := [.int v.2]) (rest := [.long (v.1 * (1000003 : Int64))]) (w := (some (.int r78))) (σ₁ := (H0 s o)) rfl rfl rfl rfl rfl rfl rfl rfl (tF6 Ad W s o v.2 hr78) ?_
    have K80 : ∀ z79 : Int32, z79 = (if r78 = (0 : Int32) then (0 : Int32) else (1 : Int32)) → QTri l Z n0 ad 8 (95, [some (.ref 1), none, none, some (.int v.2), none], [.int z79, .long (v.1 * (1000003 : Int64))], (H0 s o)) u τ := by
      intro z79 ez79
      subst ez79
      refine QTri.steps Ad W 8 (st' := (105, [some (.ref 1), some (.long ((v.1 * (1000003 : Int64)) + ((if r78 = (0 : Int32) then (0 : Int32) else (1 : Int32)).toInt64))), none, some (.int v.2), none], [.int v.2, .ref 1, .long (((v.1 * (1000003 : Int64)) + ((if r78 = (0 : Int32) then (0 : Int32) else (1 : Int32)).toInt64)) * (1000003 : Int64))], (H0 s o))) rfl ?_
      obtain ⟨r85, hr85, h⟩ := Option.bind_eq_some_iff.mp h
      refine QTri.callV W (a := 1) (as := [.int v.2]) (rest := [.long (((v.1 * (1000003 : Int64)) + ((if r78 = (0 : Int32) then (0 : Int32) else (1 : Int32)).toInt64)) * (1000003 : Int64))]) (w := (some (.int r85))) (σ₁ := (H0 s o)) rfl rfl rfl rfl rfl rfl rfl rfl (tF15 Ad W s o v.2 hr85) ?_
      refine QTri.steps Ad W 8 (st' := (118, [some (.ref 1), some (.long ((((v.1 * (1000003 : Int64)) + ((if r78 = (0 : Int32) then (0 : Int32) else (1 : Int32)).toInt64)) * (1000003 : Int64)) + (r85.toInt64))), none, some (.int v.2), none], [.int v.2, .ref 1, .long (((((v.1 * (1000003 : Int64)) + ((if r78 = (0 : Int32) then (0 : Int32) else (1 : Int32)).toInt64)) * (1000003 : Int64)) + (r85.toInt64)) * (1000003 : Int64))], (H0 s o))) rfl ?_
      obtain ⟨r89, hr89, h⟩ := Option.bind_eq_some_iff.mp h
      refine QTri.callV W (a := 1) (as := [.int v.2]) (rest := [.long (((((v.1 * (1000003 : Int64)) + ((if r78 = (0 : Int32) then (0 : Int32) else (1 : Int32)).toInt64)) * (1000003 : Int64)) + (r85.toInt64)) * (1000003 : Int64))]) (w := (some (.int r89))) (σ₁ := (H0 s o)) rfl rfl rfl rfl rfl rfl rfl rfl (tF16 Ad W s o v.2 hr89) ?_
      refine QTri.steps Ad W 8 (st' := (131, [some (.ref 1), some (.long ((((((v.1 * (1000003 : Int64)) + ((if r78 = (0 : Int32) then (0 : Int32) else (1 : Int32)).toInt64)) * (1000003 : Int64)) + (r85.toInt64)) * (1000003 : Int64)) + (r89.toInt64))), none, some (.int v.2), none], [.int v.2, .ref 1, .long (((((((v.1 * (1000003 : Int64)) + ((if r78 = (0 : Int32) then (0 : Int32) else (1 : Int32)).toInt64)) * (1000003 : Int64)) + (r85.toInt64)) * (1000003 : Int64)) + (r89.toInt64)) * (1000003 : Int64))], (H0 s o))) rfl ?_
      obtain ⟨r93, hr93, h⟩ := Option.bind_eq_some_iff.mp h
      refine QTri.callV W (a := 1) (as := [.int v.2]) (rest := [.long (((((((v.1 * (1000003 : Int64)) + ((if r78 = (0 : Int32) then (0 : Int32) else (1 : Int32)).toInt64)) * (1000003 : Int64)) + (r85.toInt64)) * (1000003 : Int64)) + (r89.toInt64)) * (1000003 : Int64))]) (w := (some (.int r93))) (σ₁ := (H0 s o)) rfl rfl rfl rfl rfl rfl rfl rfl (tF17 Ad W s o v.2 hr93) ?_
      refine QTri.steps Ad W 5 (st' := (140, [some (.ref 1), some (.long ((((((((v.1 * (1000003 : Int64)) + ((if r78 = (0 : Int32) then (0 : Int32) else (1 : Int32)).toInt64)) * (1000003 : Int64)) + (r85.toInt64)) * (1000003 : Int64)) + (r89.toInt64)) * (1000003 : Int64)) + (r93.toInt64))), none, some (.int v.2), some (.int (0 : Int32))], [], (H0 s o))) rfl ?_
      obtain ⟨e105, he105, h⟩ := Option.bind_eq_some_iff.mp h
      refine QTri.mask [true, true, false, true, true] (loopN_tri (B := B8_140 o v.2) (T := fun lv106 => QTri l Z n0 ad 8 (140, [some (.ref 1), some (.long lv106.1), none, some (.int v.2), some (.int lv106.2)], [], (H0 s o)) u τ) (KE := fun e105a => QTri l Z n0 ad 8 (168, [some (.ref 1), some (.long e105a), none, some (.int v.2), none], [], (H0 s o)) u τ) (fun lv106 r hB hE hC => tB8_140 Ad W s o v.2 lv106 hB (fun x q => hE _ q) (fun x q => hC x q)) qN (((((((((v.1 * (1000003 : Int64)) + ((if r78 = (0 : Int32) then (0 : Int32) else (1 : Int32)).toInt64)) * (1000003 : Int64)) + (r85.toInt64)) * (1000003 : Int64)) + (r89.toInt64)) * (1000003 : Int64)) + (r93.toInt64)), (0 : Int32)) e105 he105 ?_)
      refine QTri.steps Ad W 2 (st' := (72, [some (.ref 1), some (.long e105), none, some (.int (v.2 + (1 : Int32))), none], [], (H0 s o))) rfl ?_
      obtain rfl := Option.some.inj h
      exact QTri.mask [true, true, false, true, false] (hc (e105, (v.2 + (1 : Int32))) rfl)
    rcases Classical.em (r78 = (0 : Int32)) with hc81 | hc81
    · refine QTri.brT Ad W (t := 94) (f := 90) (L := [some (.ref 1), some (.long v.1), none, some (.int v.2), none]) (S := [.long (v.1 * (1000003 : Int64))]) (σ := (H0 s o)) rfl (XT.i0_eq_t hc81) ?_
      refine QTri.steps Ad W 1 (st' := (95, [some (.ref 1), some (.long v.1), none, some (.int v.2), none], [.int (0 : Int32), .long (v.1 * (1000003 : Int64))], (H0 s o))) rfl ?_
      exact QTri.mask [true, false, false, true, false] (K80 _ (if_pos hc81).symm)
    · refine QTri.brF Ad W (t := 94) (f := 90) (L := [some (.ref 1), some (.long v.1), none, some (.int v.2), none]) (S := [.long (v.1 * (1000003 : Int64))]) (σ := (H0 s o)) rfl (XT.i0_eq_f hc81) ?_
      refine QTri.steps Ad W 2 (st' := (95, [some (.ref 1), some (.long v.1), none, some (.int v.2), none], [.int (1 : Int32), .long (v.1 * (1000003 : Int64))], (H0 s o))) rfl ?_
      exact QTri.mask [true, false, false, true, false] (K80 _ (if_neg hc81).symm)
  · refine QTri.brT Ad W (t := 174) (f := 77) (L := [some (.ref 1), some (.long v.1), none, some (.int v.2), none]) (S := []) (σ := (H0 s o)) rfl (XT.ii_ge_t hc77) ?_
    refine QTri.steps Ad W 1 (st' := (175, [some (.ref 1), some (.long v.1), none, some (.int v.2), none], [.long v.1], (H0 s o))) rfl ?_
    obtain rfl := Option.some.inj h
    obtain ⟨rfl, rfl⟩ := hx0 v.1 rfl
    exact QTri.retJ rfl rfl
/-- fp(LOccValidator;)J -/
def F8 (o : Ob) : Option (Int64) :=
  (F9 o).bind fun r60 => (F10 o).bind fun r61 => (F11 o).bind fun r62 => (loopN (B8_32 o) qN ((((((r60.toInt64) * (1000003 : Int64)) + (r61.toInt64)) * (1000003 : Int64)) + (r62.toInt64)), (0 : Int32))).bind fun e75 => (loopN (B8_72 o) qN (e75, (0 : Int32))).bind fun e107 => some e107
theorem tF8 (Ad : QAd n0 ad) (W : QW Z a0) (s : List Int32) (o : Ob) {r : Int64} (h : F8 o = some r) : QTri l Z n0 ad 8 (0, qentry [.ref 1] (pMaxL 8), [], (H0 s o)) (some (Value.long r)) (H0 s o) := by
  unfold F8 at h
  refine QTri.steps Ad W 1 (st' := (1, [some (.ref 1), none, none, none, none], [.ref 1], (H0 s o))) rfl ?_
  obtain ⟨r60, hr60, h⟩ := Option.bind_eq_some_iff.mp h
  refine QTri.callV W (a := 1) (as := []) (rest := []) (w := (some (.int r60))) (σ₁ := (H0 s o)) rfl rfl rfl rfl rfl rfl rfl rfl (tF9 Ad W s o hr60) ?_
  refine QTri.steps Ad W 6 (st' := (12, [some (.ref 1), some (.long (r60.toInt64)), none, none, none], [.ref 1, .long ((r60.toInt64) * (1000003 : Int64))], (H0 s o))) rfl ?_
  obtain ⟨r61, hr61, h⟩ := Option.bind_eq_some_iff.mp h
  refine QTri.callV W (a := 1) (as := []) (rest := [.long ((r60.toInt64) * (1000003 : Int64))]) (w := (some (.int r61))) (σ₁ := (H0 s o)) rfl rfl rfl rfl rfl rfl rfl rfl (tF10 Ad W s o hr61) ?_
  refine QTri.steps Ad W 7 (st' := (24, [some (.ref 1), some (.long (((r60.toInt64) * (1000003 : Int64)) + (r61.toInt64))), none, none, none], [.ref 1, .long ((((r60.toInt64) * (1000003 : Int64)) + (r61.toInt64)) * (1000003 : Int64))], (H0 s o))) rfl ?_
  obtain ⟨r62, hr62, h⟩ := Option.bind_eq_some_iff.mp h
  refine QTri.callV W (a := 1) (as := []) (rest := [.long ((((r60.toInt64) * (1000003 : Int64)) + (r61.toInt64)) * (1000003 : Int64))]) (w := (some (.int r62))) (σ₁ := (H0 s o)) rfl rfl rfl rfl rfl rfl rfl rfl (tF11 Ad W s o hr62) ?_
  refine QTri.steps Ad W 5 (st' := (32, [some (.ref 1), some (.long (((((r60.toInt64) * (1000003 : Int64)) + (r61.toInt64)) * (1000003 : Int64)) + (r62.toInt64))), none, some (.int (0 : Int32)), none], [], (H0 s o))) rfl ?_
  obtain ⟨e75, he75, h⟩ := Option.bind_eq_some_iff.mp h
  refine QTri.mask [true, true, false, true, false] (loopN_tri (B := B8_32 o) (T := fun lv76 => QTri l Z n0 ad 8 (32, [some (.ref 1), some (.long lv76.1), none, some (.int lv76.2), none], [], (H0 s o)) (some (Value.long r)) (H0 s o)) (KE := fun e75a => QTri l Z n0 ad 8 (70, [some (.ref 1), some (.long e75a), none, none, none], [], (H0 s o)) (some (Value.long r)) (H0 s o)) (fun lv76 r hB hE hC => tB8_32 Ad W s o lv76 hB (fun x q => hE _ q) (fun x q => hC x q)) qN ((((((r60.toInt64) * (1000003 : Int64)) + (r61.toInt64)) * (1000003 : Int64)) + (r62.toInt64)), (0 : Int32)) e75 he75 ?_)
  refine QTri.steps Ad W 2 (st' := (72, [some (.ref 1), some (.long e75), none, some (.int (0 : Int32)), none], [], (H0 s o))) rfl ?_
  obtain ⟨e107, he107, h⟩ := Option.bind_eq_some_iff.mp h
  refine QTri.mask [true, true, false, true, false] (loopN_tri (B := B8_72 o) (T := fun lv108 => QTri l Z n0 ad 8 (72, [some (.ref 1), some (.long lv108.1), none, some (.int lv108.2), none], [], (H0 s o)) (some (Value.long r)) (H0 s o)) (KE := fun e107a => (some (Value.long r)) = (some (Value.long e107a)) ∧ (H0 s o) = (H0 s o)) (fun lv108 r hB hE hC => tB8_72 Ad W s o lv108 hB (fun x q => hE _ q) (fun x q => hC x q)) qN (e75, (0 : Int32)) e107 he107 ?_)
  obtain rfl := Option.some.inj h
  exact ⟨rfl, rfl⟩
def J0_374 (s : List Int32) (p0 : Ob) (x2 : Int32) (x15 : Int64) : Option (((Int32 × QHeap)) ⊕ (Int32 × Ob)) :=
  (F8 p0).bind fun r112 => (if x15 = r112 then some (.inr ((x2 + (5 : Int32)), p0)) else some (.inl ((0 : Int32), (H0 s p0))))
theorem tJ0_374 (Ad : QAd n0 ad) (W : QW Z a0) (s : List Int32) (p0 : Ob) (x2 : Int32) (x15 : Int64) {r : ((Int32 × QHeap)) ⊕ (Int32 × Ob)} {u : Option Value} {τ : QHeap} (h : J0_374 s p0 x2 x15 = some r) (hx0 : ∀ x : Int32 × QHeap, r = .inl x → u = (some (Value.int x.1)) ∧ τ = x.2) (hc : ∀ x : Int32 × Ob, r = .inr x → QTri l Z n0 ad 0 (14, [some (.ref 0), some (.ref 1), some (.int x.1), none, none, none, none, none, none, none, none, none, none, none, none, none, none, none, none], [], (H0 s x.2)) u τ) : QTri l Z n0 ad 0 (374, [some (.ref 0), some (.ref 1), some (.int x2), none, none, none, none, none, none, none, none, none, none, none, none, some (.long x15), none, none, none], [], (H0 s p0)) u τ := by
  unfold J0_374 at h
  refine QTri.steps Ad W 1 (st' := (375, [some (.ref 0), some (.ref 1), some (.int x2), none, none, none, none, none, none, none, none, none, none, none, none, some (.long x15), none, none, none], [.ref 1], (H0 s p0))) rfl ?_
  obtain ⟨r112, hr112, h⟩ := Option.bind_eq_some_iff.mp h
  refine QTri.callS W (as := [.ref 1]) (rest := []) (w := (some (.long r112))) (σ₁ := (H0 s p0)) rfl rfl rfl rfl rfl rfl rfl (tF8 Ad W s p0 hr112) ?_
  refine QTri.steps Ad W 4 (st' := (385, [some (.ref 0), some (.ref 1), some (.int x2), none, none, none, none, none, none, none, none, none, none, none, none, some (.long x15), none, some (.long r112), none], [.int (XT.cmpL x15 r112)], (H0 s p0))) rfl ?_
  rcases qite h with ⟨hc113, h⟩ | ⟨hc113, h⟩
  · refine QTri.brT Ad W (t := 390) (f := 388) (L := [some (.ref 0), some (.ref 1), some (.int x2), none, none, none, none, none, none, none, none, none, none, none, none, some (.long x15), none, some (.long r112), none]) (S := []) (σ := (H0 s p0)) rfl (XT.ll_eq_t hc113) ?_
    refine QTri.steps Ad W 2 (st' := (14, [some (.ref 0), some (.ref 1), some (.int (x2 + (5 : Int32))), none, none, none, none, none, none, none, none, none, none, none, none, some (.long x15), none, some (.long r112), none], [], (H0 s p0))) rfl ?_
    obtain rfl := Option.some.inj h
    exact QTri.mask [true, true, true, false, false, false, false, false, false, false, false, false, false, false, false, false, false, false, false] (hc ((x2 + (5 : Int32)), p0) rfl)
  · refine QTri.brF Ad W (t := 390) (f := 388) (L := [some (.ref 0), some (.ref 1), some (.int x2), none, none, none, none, none, none, none, none, none, none, none, none, some (.long x15), none, some (.long r112), none]) (S := []) (σ := (H0 s p0)) rfl (XT.ll_eq_f hc113) ?_
    refine QTri.steps Ad W 1 (st' := (389, [some (.ref 0), some (.ref 1), some (.int x2), none, none, none, none, none, none, none, none, none, none, none, none, some (.long x15), none, some (.long r112), none], [.int (0 : Int32)], (H0 s p0))) rfl ?_
    obtain rfl := Option.some.inj h
    obtain ⟨rfl, rfl⟩ := hx0 ((0 : Int32), (H0 s p0)) rfl
    exact QTri.retZ rfl rfl
/-- read(II)I -/
def F25 (o : Ob) (x1 : Int32) (x2 : Int32) : Option (Int32 × Ob) :=
  (F4 o x1).bind fun r117 => (if r117 = (0 : Int32) then some ((0 : Int32), o) else (F13 o x2).bind fun r119 => (if r119 = (0 : Int32) then some ((0 : Int32), o) else (F23 x2).bind fun r121 => (aget (f_writeSet o) x1).bind fun y122 => (if (y122 &&& r121) = (0 : Int32) then (aget (f_readSet o) x1).bind fun y124 => (aset (f_readSet o) x1 (y124 ||| r121)).bind fun y125 => (aget (f_value o) x2).bind fun y126 => some (y126, (s_readSet o y125)) else (F26 x1 x2).bind fun r128 => (aget (f_buffered o) r128).bind fun y129 => some (y129, o))))
theorem tF25 (Ad : QAd n0 ad) (W : QW Z a0) (s : List Int32) (o : Ob) (x1 : Int32) (x2 : Int32) {r : Int32 × Ob} (h : F25 o x1 x2 = some r) : QTri l Z n0 ad 25 (0, qentry [.ref 1, .int x1, .int x2] (pMaxL 25), [], (H0 s o)) (some (Value.int r.1)) (H0 s r.2) := by
  unfold F25 at h
  refine QTri.steps Ad W 2 (st' := (2, [some (.ref 1), some (.int x1), some (.int x2), none], [.int x1, .ref 1], (H0 s o))) rfl ?_
  obtain ⟨r117, hr117, h⟩ := Option.bind_eq_some_iff.mp h
  refine QTri.callP W (a := 1) (as := [.int x1]) (rest := []) (w := (some (.int r117))) (σ₁ := (H0 s o)) rfl rfl rfl rfl rfl rfl rfl rfl (tF4 Ad W s o x1 hr117) ?_
  rcases qite h with ⟨hc118, h⟩ | ⟨hc118, h⟩
  · refine QTri.brF Ad W (t := 10) (f := 8) (L := [some (.ref 1), some (.int x1), some (.int x2), none]) (S := []) (σ := (H0 s o)) rfl (XT.i0_ne_f hc118) ?_
    refine QTri.steps Ad W 1 (st' := (9, [some (.ref 1), some (.int x1), some (.int x2), none], [.int (0 : Int32)], (H0 s o))) rfl ?_
    obtain rfl := Option.some.inj h
    exact QTri.retI rfl rfl
  · refine QTri.brT Ad W (t := 10) (f := 8) (L := [some (.ref 1), some (.int x1), some (.int x2), none]) (S := []) (σ := (H0 s o)) rfl (XT.i0_ne_t hc118) ?_
    refine QTri.steps Ad W 2 (st' := (12, [some (.ref 1), some (.int x1), some (.int x2), none], [.int x2, .ref 1], (H0 s o))) rfl ?_
    obtain ⟨r119, hr119, h⟩ := Option.bind_eq_some_iff.mp h
    refine QTri.callP W (a := 1) (as := [.int x2]) (rest := []) (w := (some (.int r119))) (σ₁ := (H0 s o)) rfl rfl rfl rfl rfl rfl rfl rfl (tF13 Ad W s o x2 hr119) ?_
    rcases qite h with ⟨hc120, h⟩ | ⟨hc120, h⟩
    · refine QTri.brF Ad W (t := 20) (f := 18) (L := [some (.ref 1), some (.int x1), some (.int x2), none]) (S := []) (σ := (H0 s o)) rfl (XT.i0_ne_f hc120) ?_
      refine QTri.steps Ad W 1 (st' := (19, [some (.ref 1), some (.int x1), some (.int x2), none], [.int (0 : Int32)], (H0 s o))) rfl ?_
      obtain rfl := Option.some.inj h
      exact QTri.retI rfl rfl
    · refine QTri.brT Ad W (t := 20) (f := 18) (L := [some (.ref 1), some (.int x1), some (.int x2), none]) (S := []) (σ := (H0 s o)) rfl (XT.i0_ne_t hc120) ?_
      refine QTri.steps Ad W 2 (st' := (22, [some (.ref 1), some (.int x1), some (.int x2), none], [.int x2, .ref 1], (H0 s o))) rfl ?_
      obtain ⟨r121, hr121, h⟩ := Option.bind_eq_some_iff.mp h
      refine QTri.callP W (a := 1) (as := [.int x2]) (rest := []) (w := (some (.int r121))) (σ₁ := (H0 s o)) rfl rfl rfl rfl rfl rfl rfl rfl (tF23 Ad W x2 hr121) ?_
      refine QTri.steps Ad W 4 (st' := (31, [some (.ref 1), some (.int x1), some (.int x2), some (.int r121)], [.int x1, .ref 7], (H0 s o))) rfl ?_
      obtain ⟨y122, hy122, h⟩ := Option.bind_eq_some_iff.mp h
      refine QTri.bnd Ad W (f := fun y122 => (32, [some (.ref 1), some (.int x1), some (.int x2), some (.int r121)], [.int y122], (H0 s o))) rfl hy122 ?_
      refine QTri.steps Ad W 2 (st' := (34, [some (.ref 1), some (.int x1), some (.int x2), some (.int r121)], [.int (y122 &&& r121)], (H0 s o))) rfl ?_
      rcases qite h with ⟨hc123, h⟩ | ⟨hc123, h⟩
      · refine QTri.brT Ad W (t := 49) (f := 37) (L := [some (.ref 1), some (.int x1), some (.int x2), some (.int r121)]) (S := []) (σ := (H0 s o)) rfl (XT.i0_eq_t hc123) ?_
        refine QTri.steps Ad W 6 (st' := (59, [some (.ref 1), some (.int x1), some (.int x2), some (.int r121)], [.int x1, .ref 6, .int x1, .ref 6], (H0 s o))) rfl ?_
        obtain ⟨y124, hy124, h⟩ := Option.bind_eq_some_iff.mp h
        refine QTri.bnd Ad W (f := fun y124 => (60, [some (.ref 1), some (.int x1), some (.int x2), some (.int r121)], [.int y124, .int x1, .ref 6], (H0 s o))) rfl hy124 ?_
        refine QTri.steps Ad W 2 (st' := (62, [some (.ref 1), some (.int x1), some (.int x2), some (.int r121)], [.int (y124 ||| r121), .int x1, .ref 6], (H0 s o))) rfl ?_
        obtain ⟨y125, hy125, h⟩ := Option.bind_eq_some_iff.mp h
        refine QTri.bnd Ad W (f := fun y125 => (63, [some (.ref 1), some (.int x1), some (.int x2), some (.int r121)], [], [.inr (.inl (.int, s)), .inl [.ref 2, .ref 3, .ref 4, .ref 5, .ref 6, .ref 7, .ref 8, .int (f_keyCount o), .int (f_slotCount o), .int (f_window o), .int (f_commitCount o), .int (f_abortCount o), .int (f_lastConflict o)], .inr (.inl (.int, (f_value o))), .inr (.inl (.int, (f_version o))), .inr (.inl (.boolean, (f_active o))), .inr (.inl (.int, (f_start o))), .inr (.inl (.int, y125)), .inr (.inl (.int, (f_writeSet o))), .inr (.inl (.int, (f_buffered o)))])) rfl hy125 ?_
        refine QTri.steps Ad W 3 (st' := (68, [some (.ref 1), some (.int x1), some (.int x2), some (.int r121)], [.int x2, .ref 2], [.inr (.inl (.int, s)), .inl [.ref 2, .ref 3, .ref 4, .ref 5, .ref 6, .ref 7, .ref 8, .int (f_keyCount o), .int (f_slotCount o), .int (f_window o), .int (f_commitCount o), .int (f_abortCount o), .int (f_lastConflict o)], .inr (.inl (.int, (f_value o))), .inr (.inl (.int, (f_version o))), .inr (.inl (.boolean, (f_active o))), .inr (.inl (.int, (f_start o))), .inr (.inl (.int, y125)), .inr (.inl (.int, (f_writeSet o))), .inr (.inl (.int, (f_buffered o)))])) rfl ?_
        obtain ⟨y126, hy126, h⟩ := Option.bind_eq_some_iff.mp h
        refine QTri.bnd Ad W (f := fun y126 => (69, [some (.ref 1), some (.int x1), some (.int x2), some (.int r121)], [.int y126], [.inr (.inl (.int, s)), .inl [.ref 2, .ref 3, .ref 4, .ref 5, .ref 6, .ref 7, .ref 8, .int (f_keyCount o), .int (f_slotCount o), .int (f_window o), .int (f_commitCount o), .int (f_abortCount o), .int (f_lastConflict o)], .inr (.inl (.int, (f_value o))), .inr (.inl (.int, (f_version o))), .inr (.inl (.boolean, (f_active o))), .inr (.inl (.int, (f_start o))), .inr (.inl (.int, y125)), .inr (.inl (.int, (f_writeSet o))), .inr (.inl (.int, (f_buffered o)))])) rfl hy126 ?_
        have E127 : ([.inr (.inl (.int, s)), .inl [.ref 2, .ref 3, .ref 4, .ref 5, .ref 6, .ref 7, .ref 8, .int (f_keyCount o), .int (f_slotCount o), .int (f_window o), .int (f_commitCount o), .int (f_abortCount o), .int (f_lastConflict o)], .inr (.inl (.int, (f_value o))), .inr (.inl (.int, (f_version o))), .inr (.inl (.boolean, (f_active o))), .inr (.inl (.int, (f_start o))), .inr (.inl (.int, y125)), .inr (.inl (.int, (f_writeSet o))), .inr (.inl (.int, (f_buffered o)))] : QHeap) = (H0 s (s_readSet o y125)) := by dsimp only [H0, f_value, f_version, f_active, f_start, f_readSet, f_writeSet, f_buffered, f_keyCount, f_slotCount, f_window, f_commitCount, f_abortCount, f_lastConflict, s_readSet]
        rw [E127]
        obtain rfl := Option.some.inj h
        exact QTri.retI rfl rfl
      · refine QTri.brF Ad W (t := 49) (f := 37) (L := [some (.ref 1), some (.int x1), some (.int x2), some (.int r121)]) (S := []) (σ := (H0 s o)) rfl (XT.i0_eq_f hc123) ?_
        refine QTri.steps Ad W 5 (st' := (44, [some (.ref 1), some (.int x1), some (.int x2), some (.int r121)], [.int x2, .int x1, .ref 1, .ref 8], (H0 s o))) rfl ?_
        obtain ⟨r128, hr128, h⟩ := Option.bind_eq_some_iff.mp h
        refine QTri.callP W (a := 1) (as := [.int x1, .int x2]) (rest := [.ref 8]) (w := (some (.int r128))) (σ₁ := (H0 s o)) rfl rfl rfl rfl rfl rfl rfl rfl (tF26 Ad W x1 x2 hr128) ?_
        obtain ⟨y129, hy129, h⟩ := Option.bind_eq_some_iff.mp h
        refine QTri.bnd Ad W (f := fun y129 => (48, [some (.ref 1), some (.int x1), some (.int x2), some (.int r121)], [.int y129], (H0 s o))) rfl hy129 ?_
        obtain rfl := Option.some.inj h
        exact QTri.retI rfl rfl
/-- write(III)I -/
def F24 (o : Ob) (x1 : Int32) (x2 : Int32) (x3 : Int32) : Option (Int32 × Ob) :=
  (F4 o x1).bind fun r133 => (if r133 = (0 : Int32) then some ((-1 : Int32), o) else (F13 o x2).bind fun r135 => (if r135 = (0 : Int32) then some ((-2 : Int32), o) else (aget (f_writeSet o) x1).bind fun y137 => (F23 x2).bind fun r138 => (aset (f_writeSet o) x1 (y137 ||| r138)).bind fun y139 => (F26 x1 x2).bind fun r140 => (aset (f_buffered o) r140 x3).bind fun y141 => some ((0 : Int32), (s_buffered (s_writeSet o y139) y141))))
theorem tF24 (Ad : QAd n0 ad) (W : QW Z a0) (s : List Int32) (o : Ob) (x1 : Int32) (x2 : Int32) (x3 : Int32) {r : Int32 × Ob} (h : F24 o x1 x2 x3 = some r) : QTri l Z n0 ad 24 (0, qentry [.ref 1, .int x1, .int x2, .int x3] (pMaxL 24), [], (H0 s o)) (some (Value.int r.1)) (H0 s r.2) := by
  unfold F24 at h
  refine QTri.steps Ad W 2 (st' := (2, [some (.ref 1), some (.int x1), some (.int x2), some (.int x3)], [.int x1, .ref 1], (H0 s o))) rfl ?_
  obtain ⟨r133, hr133, h⟩ := Option.bind_eq_some_iff.mp h
  refine QTri.callP W (a := 1) (as := [.int x1]) (rest := []) (w := (some (.int r133))) (σ₁ := (H0 s o)) rfl rfl rfl rfl rfl rfl rfl rfl (tF4 Ad W s o x1 hr133) ?_
  rcases qite h with ⟨hc134, h⟩ | ⟨hc134, h⟩
  · refine QTri.brF Ad W (t := 10) (f := 8) (L := [some (.ref 1), some (.int x1), some (.int x2), some (.int x3)]) (S := []) (σ := (H0 s o)) rfl (XT.i0_ne_f hc134) ?_
    refine QTri.steps Ad W 1 (st' := (9, [some (.ref 1), some (.int x1), some (.int x2), some (.int x3)], [.int (-1 : Int32)], (H0 s o))) rfl ?_
    obtain rfl := Option.some.inj h
    exact QTri.retI rfl rfl
  · refine QTri.brT Ad W (t := 10) (f := 8) (L := [some (.ref 1), some (.int x1), some (.int x2), some (.int x3)]) (S := []) (σ := (H0 s o)) rfl (XT.i0_ne_t hc134) ?_
    refine QTri.steps Ad W 2 (st' := (12, [some (.ref 1), some (.int x1), some (.int x2), some (.int x3)], [.int x2, .ref 1], (H0 s o))) rfl ?_
    obtain ⟨r135, hr135, h⟩ := Option.bind_eq_some_iff.mp h
    refine QTri.callP W (a := 1) (as := [.int x2]) (rest := []) (w := (some (.int r135))) (σ₁ := (H0 s o)) rfl rfl rfl rfl rfl rfl rfl rfl (tF13 Ad W s o x2 hr135) ?_
    rcases qite h with ⟨hc136, h⟩ | ⟨hc136, h⟩
    · refine QTri.brF Ad W (t := 21) (f := 18) (L := [some (.ref 1), some (.int x1), some (.int x2), some (.int x3)]) (S := []) (σ := (H0 s o)) rfl (XT.i0_ne_f hc136) ?_
      refine QTri.steps Ad W 1 (st' := (20, [some (.ref 1), some (.int x1), some (.int x2), some (.int x3)], [.int (-2 : Int32)], (H0 s o))) rfl ?_
      obtain rfl := Option.some.inj h
      exact QTri.retI rfl rfl
    · refine QTri.brT Ad W (t := 21) (f := 18) (L := [some (.ref 1), some (.int x1), some (.int x2), some (.int x3)]) (S := []) (σ := (H0 s o)) rfl (XT.i0_ne_t hc136) ?_
      refine QTri.steps Ad W 6 (st' := (31, [some (.ref 1), some (.int x1), some (.int x2), some (.int x3)], [.int x1, .ref 7, .int x1, .ref 7], (H0 s o))) rfl ?_
      obtain ⟨y137, hy137, h⟩ := Option.bind_eq_some_iff.mp h
      refine QTri.bnd Ad W (f := fun y137 => (32, [some (.ref 1), some (.int x1), some (.int x2), some (.int x3)], [.int y137, .int x1, .ref 7], (H0 s o))) rfl hy137 ?_
      refine QTri.steps Ad W 2 (st' := (34, [some (.ref 1), some (.int x1), some (.int x2), some (.int x3)], [.int x2, .ref 1, .int y137, .int x1, .ref 7], (H0 s o))) rfl ?_
      obtain ⟨r138, hr138, h⟩ := Option.bind_eq_some_iff.mp h
      refine QTri.callP W (a := 1) (as := [.int x2]) (rest := [.int y137, .int x1, .ref 7]) (w := (some (.int r138))) (σ₁ := (H0 s o)) rfl rfl rfl rfl rfl rfl rfl rfl (tF23 Ad W x2 hr138) ?_
      refine QTri.steps Ad W 1 (st' := (38, [some (.ref 1), some (.int x1), some (.int x2), some (.int x3)], [.int (y137 ||| r138), .int x1, .ref 7], (H0 s o))) rfl ?_
      obtain ⟨y139, hy139, h⟩ := Option.bind_eq_some_iff.mp h
      refine QTri.bnd Ad W (f := fun y139 => (39, [some (.ref 1), some (.int x1), some (.int x2), some (.int x3)], [], [.inr (.inl (.int, s)), .inl [.ref 2, .ref 3, .ref 4, .ref 5, .ref 6, .ref 7, .ref 8, .int (f_keyCount o), .int (f_slotCount o), .int (f_window o), .int (f_commitCount o), .int (f_abortCount o), .int (f_lastConflict o)], .inr (.inl (.int, (f_value o))), .inr (.inl (.int, (f_version o))), .inr (.inl (.boolean, (f_active o))), .inr (.inl (.int, (f_start o))), .inr (.inl (.int, (f_readSet o))), .inr (.inl (.int, y139)), .inr (.inl (.int, (f_buffered o)))])) rfl hy139 ?_
      refine QTri.steps Ad W 5 (st' := (46, [some (.ref 1), some (.int x1), some (.int x2), some (.int x3)], [.int x2, .int x1, .ref 1, .ref 8], [.inr (.inl (.int, s)), .inl [.ref 2, .ref 3, .ref 4, .ref 5, .ref 6, .ref 7, .ref 8, .int (f_keyCount o), .int (f_slotCount o), .int (f_window o), .int (f_commitCount o), .int (f_abortCount o), .int (f_lastConflict o)], .inr (.inl (.int, (f_value o))), .inr (.inl (.int, (f_version o))), .inr (.inl (.boolean, (f_active o))), .inr (.inl (.int, (f_start o))), .inr (.inl (.int, (f_readSet o))), .inr (.inl (.int, y139)), .inr (.inl (.int, (f_buffered o)))])) rfl ?_
      obtain ⟨r140, hr140, h⟩ := Option.bind_eq_some_iff.mp h
      refine QTri.callP W (a := 1) (as := [.int x1, .int x2]) (rest := [.ref 8]) (w := (some (.int r140))) (σ₁ := [.inr (.inl (.int, s)), .inl [.ref 2, .ref 3, .ref 4, .ref 5, .ref 6, .ref 7, .ref 8, .int (f_keyCount o), .int (f_slotCount o), .int (f_window o), .int (f_commitCount o), .int (f_abortCount o), .int (f_lastConflict o)], .inr (.inl (.int, (f_value o))), .inr (.inl (.int, (f_version o))), .inr (.inl (.boolean, (f_active o))), .inr (.inl (.int, (f_start o))), .inr (.inl (.int, (f_readSet o))), .inr (.inl (.int, y139)), .inr (.inl (.int, (f_buffered o)))]) rfl rfl rfl rfl rfl rfl rfl rfl (tF26 Ad W x1 x2 hr140) ?_
      refine QTri.steps Ad W 1 (st' := (50, [some (.ref 1), some (.int x1), some (.int x2), some (.int x3)], [.int x3, .int r140, .ref 8], [.inr (.inl (.int, s)), .inl [.ref 2, .ref 3, .ref 4, .ref 5, .ref 6, .ref 7, .ref 8, .int (f_keyCount o), .int (f_slotCount o), .int (f_window o), .int (f_commitCount o), .int (f_abortCount o), .int (f_lastConflict o)], .inr (.inl (.int, (f_value o))), .inr (.inl (.int, (f_version o))), .inr (.inl (.boolean, (f_active o))), .inr (.inl (.int, (f_start o))), .inr (.inl (.int, (f_readSet o))), .inr (.inl (.int, y139)), .inr (.inl (.int, (f_buffered o)))])) rfl ?_
      obtain ⟨y141, hy141, h⟩ := Option.bind_eq_some_iff.mp h
      refine QTri.bnd Ad W (f := fun y141 => (51, [some (.ref 1), some (.int x1), some (.int x2), some (.int x3)], [], [.inr (.inl (.int, s)), .inl [.ref 2, .ref 3, .ref 4, .ref 5, .ref 6, .ref 7, .ref 8, .int (f_keyCount o), .int (f_slotCount o), .int (f_window o), .int (f_commitCount o), .int (f_abortCount o), .int (f_lastConflict o)], .inr (.inl (.int, (f_value o))), .inr (.inl (.int, (f_version o))), .inr (.inl (.boolean, (f_active o))), .inr (.inl (.int, (f_start o))), .inr (.inl (.int, (f_readSet o))), .inr (.inl (.int, y139)), .inr (.inl (.int, y141))])) rfl hy141 ?_
      refine QTri.steps Ad W 1 (st' := (52, [some (.ref 1), some (.int x1), some (.int x2), some (.int x3)], [.int (0 : Int32)], [.inr (.inl (.int, s)), .inl [.ref 2, .ref 3, .ref 4, .ref 5, .ref 6, .ref 7, .ref 8, .int (f_keyCount o), .int (f_slotCount o), .int (f_window o), .int (f_commitCount o), .int (f_abortCount o), .int (f_lastConflict o)], .inr (.inl (.int, (f_value o))), .inr (.inl (.int, (f_version o))), .inr (.inl (.boolean, (f_active o))), .inr (.inl (.int, (f_start o))), .inr (.inl (.int, (f_readSet o))), .inr (.inl (.int, y139)), .inr (.inl (.int, y141))])) rfl ?_
      have E142 : ([.inr (.inl (.int, s)), .inl [.ref 2, .ref 3, .ref 4, .ref 5, .ref 6, .ref 7, .ref 8, .int (f_keyCount o), .int (f_slotCount o), .int (f_window o), .int (f_commitCount o), .int (f_abortCount o), .int (f_lastConflict o)], .inr (.inl (.int, (f_value o))), .inr (.inl (.int, (f_version o))), .inr (.inl (.boolean, (f_active o))), .inr (.inl (.int, (f_start o))), .inr (.inl (.int, (f_readSet o))), .inr (.inl (.int, y139)), .inr (.inl (.int, y141))] : QHeap) = (H0 s (s_buffered (s_writeSet o y139) y141)) := by dsimp only [H0, f_value, f_version, f_active, f_start, f_readSet, f_writeSet, f_buffered, f_keyCount, f_slotCount, f_window, f_commitCount, f_abortCount, f_lastConflict, s_writeSet, s_buffered]
      rw [E142]
      obtain rfl := Option.some.inj h
      exact QTri.retI rfl rfl
/-- isStale(I)Z -/
def F27 (o : Ob) (x1 : Int32) : Option (Int32) :=
  (aget (f_start o) x1).bind fun y148 => (if (f_window o) < ((f_commitCount o) - y148) then some (1 : Int32) else some (0 : Int32))
theorem tF27 (Ad : QAd n0 ad) (W : QW Z a0) (s : List Int32) (o : Ob) (x1 : Int32) {r : Int32} (h : F27 o x1 = some r) : QTri l Z n0 ad 27 (0, qentry [.ref 1, .int x1] (pMaxL 27), [], (H0 s o)) (some (Value.int r)) (H0 s o) := by
  unfold F27 at h
  refine QTri.steps Ad W 5 (st' := (9, [some (.ref 1), some (.int x1)], [.int x1, .ref 5, .int (f_commitCount o)], (H0 s o))) rfl ?_
  obtain ⟨y148, hy148, h⟩ := Option.bind_eq_some_iff.mp h
  refine QTri.bnd Ad W (f := fun y148 => (10, [some (.ref 1), some (.int x1)], [.int y148, .int (f_commitCount o)], (H0 s o))) rfl hy148 ?_
  refine QTri.steps Ad W 3 (st' := (15, [some (.ref 1), some (.int x1)], [.int (f_window o), .int ((f_commitCount o) - y148)], (H0 s o))) rfl ?_
  rcases qite h with ⟨hc149, h⟩ | ⟨hc149, h⟩
  · refine QTri.brF Ad W (t := 22) (f := 18) (L := [some (.ref 1), some (.int x1)]) (S := []) (σ := (H0 s o)) rfl (XT.ii_le_f hc149) ?_
    refine QTri.steps Ad W 2 (st' := (23, [some (.ref 1), some (.int x1)], [.int (1 : Int32)], (H0 s o))) rfl ?_
    obtain rfl := Option.some.inj h
    exact QTri.retZ rfl rfl
  · refine QTri.brT Ad W (t := 22) (f := 18) (L := [some (.ref 1), some (.int x1)]) (S := []) (σ := (H0 s o)) rfl (XT.ii_le_t hc149) ?_
    refine QTri.steps Ad W 1 (st' := (23, [some (.ref 1), some (.int x1)], [.int (0 : Int32)], (H0 s o))) rfl ?_
    obtain rfl := Option.some.inj h
    exact QTri.retZ rfl rfl
def J28_58 (o : Ob) (x2 : Int32) (x3 : Int32) (x4 : Int32) : Option (((Int32)) ⊕ (Int32)) :=
  some (.inr (x4 + (1 : Int32)))
theorem tJ28_58 (Ad : QAd n0 ad) (W : QW Z a0) (s : List Int32) (o : Ob) (x2 : Int32) (x3 : Int32) (x4 : Int32) {r : ((Int32)) ⊕ (Int32)} {u : Option Value} {τ : QHeap} (h : J28_58 o x2 x3 x4 = some r) (hx0 : ∀ x : Int32, r = .inl x → u = (some (Value.int x)) ∧ τ = (H0 s o)) (hc : ∀ x : Int32, r = .inr x → QTri l Z n0 ad 28 (17, [some (.ref 1), none, some (.int x2), some (.int x3), some (.int x)], [], (H0 s o)) u τ) : QTri l Z n0 ad 28 (58, [some (.ref 1), none, some (.int x2), some (.int x3), some (.int x4)], [], (H0 s o)) u τ := by
  unfold J28_58 at h
  refine QTri.steps Ad W 2 (st' := (17, [some (.ref 1), none, some (.int x2), some (.int x3), some (.int (x4 + (1 : Int32)))], [], (H0 s o))) rfl ?_
  obtain rfl := Option.some.inj h
  exact QTri.mask [true, false, true, true, true] (hc (x4 + (1 : Int32)) rfl)
def B28_17 (o : Ob) (x2 : Int32) (x3 : Int32) (v : Int32) : Option (((Int32)) ⊕ (Int32)) :=
  (if v < (f_keyCount o) then (if v < (32 : Int32) then (F23 v).bind fun r156 => (if (x2 &&& r156) = (0 : Int32) then (J28_58 o x2 x3 v) else (aget (f_version o) v).bind fun y158 => (if x3 < y158 then some (.inl v) else (J28_58 o x2 x3 v))) else some (.inl (-1 : Int32))) else some (.inl (-1 : Int32)))
theorem tB28_17 (Ad : QAd n0 ad) (W : QW Z a0) (s : List Int32) (o : Ob) (x2 : Int32) (x3 : Int32) (v : Int32) {r : ((Int32)) ⊕ (Int32)} {u : Option Value} {τ : QHeap} (h : B28_17 o x2 x3 v = some r) (hx0 : ∀ x : Int32, r = .inl x → u = (some (Value.int x)) ∧ τ = (H0 s o)) (hc : ∀ x : Int32, r = .inr x → QTri l Z n0 ad 28 (17, [some (.ref 1), none, some (.int x2), some (.int x3), some (.int x)], [], (H0 s o)) u τ) : QTri l Z n0 ad 28 (17, [some (.ref 1), none, some (.int x2), some (.int x3), some (.int v)], [], (H0 s o)) u τ := by
  unfold B28_17 at h
  refine QTri.steps Ad W 3 (st' := (23, [some (.ref 1), none, some (.int x2), some (.int x3), some (.int v)], [.int (f_keyCount o), .int v], (H0 s o))) rfl ?_
  rcases qite h with ⟨hc154, h⟩ | ⟨hc154, h⟩
  · refine QTri.brF Ad W (t := 64) (f := 26) (L := [some (.ref 1), none, some (.int x2), some (.int x3), some (.int v)]) (S := []) (σ := (H0 s o)) rfl (XT.ii_ge_f hc154) ?_
    refine QTri.steps Ad W 2 (st' := (30, [some (.ref 1), none, some (.int x2), some (.int x3), some (.int v)], [.int (32 : Int32), .int v], (H0 s o))) rfl ?_
    rcases qite h with ⟨hc155, h⟩ | ⟨hc155, h⟩
    · refine QTri.brF Ad W (t := 64) (f := 33) (L := [some (.ref 1), none, some (.int x2), some (.int x3), some (.int v)]) (S := []) (σ := (H0 s o)) rfl (XT.ii_ge_f hc155) ?_
      refine QTri.steps Ad W 3 (st' := (37, [some (.ref 1), none, some (.int x2), some (.int x3), some (.int v)], [.int v, .ref 1, .int x2], (H0 s o))) rfl ?_
      obtain ⟨r156, hr156, h⟩ := Option.bind_eq_some_iff.mp h
      refine QTri.callP W (a := 1) (as := [.int v]) (rest := [.int x2]) (w := (some (.int r156))) (σ₁ := (H0 s o)) rfl rfl rfl rfl rfl rfl rfl rfl (tF23 Ad W v hr156) ?_
      refine QTri.steps Ad W 1 (st' := (41, [some (.ref 1), none, some (.int x2), some (.int x3), some (.int v)], [.int (x2 &&& r156)], (H0 s o))) rfl ?_
      rcases qite h with ⟨hc157, h⟩ | ⟨hc157, h⟩
      · refine QTri.brT Ad W (t := 58) (f := 44) (L := [some (.ref 1), none, some (.int x2), some (.int x3), some (.int v)]) (S := []) (σ := (H0 s o)) rfl (XT.i0_eq_t hc157) ?_
        exact QTri.mask [true, false, true, true, true] (tJ28_58 Ad W s o x2 x3 v h hx0 hc)
      · refine QTri.brF Ad W (t := 58) (f := 44) (L := [some (.ref 1), none, some (.int x2), some (.int x3), some (.int v)]) (S := []) (σ := (H0 s o)) rfl (XT.i0_eq_f hc157) ?_
        refine QTri.steps Ad W 3 (st' := (50, [some (.ref 1), none, some (.int x2), some (.int x3), some (.int v)], [.int v, .ref 3], (H0 s o))) rfl ?_
        obtain ⟨y158, hy158, h⟩ := Option.bind_eq_some_iff.mp h
        refine QTri.bnd Ad W (f := fun y158 => (51, [some (.ref 1), none, some (.int x2), some (.int x3), some (.int v)], [.int y158], (H0 s o))) rfl hy158 ?_
        refine QTri.steps Ad W 1 (st' := (52, [some (.ref 1), none, some (.int x2), some (.int x3), some (.int v)], [.int x3, .int y158], (H0 s o))) rfl ?_
        rcases qite h with ⟨hc159, h⟩ | ⟨hc159, h⟩
        · refine QTri.brF Ad W (t := 58) (f := 55) (L := [some (.ref 1), none, some (.int x2), some (.int x3), some (.int v)]) (S := []) (σ := (H0 s o)) rfl (XT.ii_le_f hc159) ?_
          refine QTri.steps Ad W 1 (st' := (57, [some (.ref 1), none, some (.int x2), some (.int x3), some (.int v)], [.int v], (H0 s o))) rfl ?_
          obtain rfl := Option.some.inj h
          obtain ⟨rfl, rfl⟩ := hx0 v rfl
          exact QTri.retI rfl rfl
        · refine QTri.brT Ad W (t := 58) (f := 55) (L := [some (.ref 1), none, some (.int x2), some (.int x3), some (.int v)]) (S := []) (σ := (H0 s o)) rfl (XT.ii_le_t hc159) ?_
          exact QTri.mask [true, false, true, true, true] (tJ28_58 Ad W s o x2 x3 v h hx0 hc)
    · refine QTri.brT Ad W (t := 64) (f := 33) (L := [some (.ref 1), none, some (.int x2), some (.int x3), some (.int v)]) (S := []) (σ := (H0 s o)) rfl (XT.ii_ge_t hc155) ?_
      refine QTri.steps Ad W 1 (st' := (65, [some (.ref 1), none, some (.int x2), some (.int x3), some (.int v)], [.int (-1 : Int32)], (H0 s o))) rfl ?_
      obtain rfl := Option.some.inj h
      obtain ⟨rfl, rfl⟩ := hx0 (-1 : Int32) rfl
      exact QTri.retI rfl rfl
  · refine QTri.brT Ad W (t := 64) (f := 26) (L := [some (.ref 1), none, some (.int x2), some (.int x3), some (.int v)]) (S := []) (σ := (H0 s o)) rfl (XT.ii_ge_t hc154) ?_
    refine QTri.steps Ad W 1 (st' := (65, [some (.ref 1), none, some (.int x2), some (.int x3), some (.int v)], [.int (-1 : Int32)], (H0 s o))) rfl ?_
    obtain rfl := Option.some.inj h
    obtain ⟨rfl, rfl⟩ := hx0 (-1 : Int32) rfl
    exact QTri.retI rfl rfl
/-- leastConflict(I)I -/
def F28 (o : Ob) (x1 : Int32) : Option (Int32) :=
  (aget (f_readSet o) x1).bind fun y152 => (aget (f_start o) x1).bind fun y153 => (loopN (B28_17 o y152 y153) qN (0 : Int32)).bind fun e160 => some e160
theorem tF28 (Ad : QAd n0 ad) (W : QW Z a0) (s : List Int32) (o : Ob) (x1 : Int32) {r : Int32} (h : F28 o x1 = some r) : QTri l Z n0 ad 28 (0, qentry [.ref 1, .int x1] (pMaxL 28), [], (H0 s o)) (some (Value.int r)) (H0 s o) := by
  unfold F28 at h
  refine QTri.steps Ad W 3 (st' := (5, [some (.ref 1), some (.int x1), none, none, none], [.int x1, .ref 6], (H0 s o))) rfl ?_
  obtain ⟨y152, hy152, h⟩ := Option.bind_eq_some_iff.mp h
  refine QTri.bnd Ad W (f := fun y152 => (6, [some (.ref 1), some (.int x1), none, none, none], [.int y152], (H0 s o))) rfl hy152 ?_
  refine QTri.steps Ad W 4 (st' := (12, [some (.ref 1), some (.int x1), some (.int y152), none, none], [.int x1, .ref 5], (H0 s o))) rfl ?_
  obtain ⟨y153, hy153, h⟩ := Option.bind_eq_some_iff.mp h
  refine QTri.bnd Ad W (f := fun y153 => (13, [some (.ref 1), some (.int x1), some (.int y152), none, none], [.int y153], (H0 s o))) rfl hy153 ?_
  refine QTri.steps Ad W 3 (st' := (17, [some (.ref 1), some (.int x1), some (.int y152), some (.int y153), some (.int (0 : Int32))], [], (H0 s o))) rfl ?_
  obtain ⟨e160, he160, h⟩ := Option.bind_eq_some_iff.mp h
  refine QTri.mask [true, false, true, true, true] (loopN_tri (B := B28_17 o y152 y153) (T := fun lv161 => QTri l Z n0 ad 28 (17, [some (.ref 1), none, some (.int y152), some (.int y153), some (.int lv161)], [], (H0 s o)) (some (Value.int r)) (H0 s o)) (KE := fun e160a => (some (Value.int r)) = (some (Value.int e160a)) ∧ (H0 s o) = (H0 s o)) (fun lv161 r hB hE hC => tB28_17 Ad W s o y152 y153 lv161 hB (fun x q => hE _ q) (fun x q => hC x q)) qN (0 : Int32) e160 he160 ?_)
  obtain rfl := Option.some.inj h
  exact ⟨rfl, rfl⟩
def J29_79 (o : Ob) (x1 : Int32) (x2 : Int32) (x3 : Int32) (x4 : Int32) : Option (((Ob)) ⊕ (Int32 × Ob)) :=
  some (.inr ((x4 + (1 : Int32)), o))
theorem tJ29_79 (Ad : QAd n0 ad) (W : QW Z a0) (s : List Int32) (o : Ob) (x1 : Int32) (x2 : Int32) (x3 : Int32) (x4 : Int32) {r : ((Ob)) ⊕ (Int32 × Ob)} {u : Option Value} {τ : QHeap} (h : J29_79 o x1 x2 x3 x4 = some r) (hx0 : ∀ x : Ob, r = .inl x → QTri l Z n0 ad 29 (85, [some (.ref 1), some (.int x1), some (.int x2), none, none], [], (H0 s x)) u τ) (hc : ∀ x : Int32 × Ob, r = .inr x → QTri l Z n0 ad 29 (25, [some (.ref 1), some (.int x1), some (.int x2), some (.int x3), some (.int x.1)], [], (H0 s x.2)) u τ) : QTri l Z n0 ad 29 (79, [some (.ref 1), some (.int x1), some (.int x2), some (.int x3), some (.int x4)], [], (H0 s o)) u τ := by
  unfold J29_79 at h
  refine QTri.steps Ad W 2 (st' := (25, [some (.ref 1), some (.int x1), some (.int x2), some (.int x3), some (.int (x4 + (1 : Int32)))], [], (H0 s o))) rfl ?_
  obtain rfl := Option.some.inj h
  exact QTri.mask [true, true, true, true, true] (hc ((x4 + (1 : Int32)), o) rfl)
def B29_25 (x1 : Int32) (x2 : Int32) (x3 : Int32) (v : Int32 × Ob) : Option (((Ob)) ⊕ (Int32 × Ob)) :=
  (if v.1 < (f_keyCount v.2) then (if v.1 < (32 : Int32) then (F23 v.1).bind fun r168 => (if (x3 &&& r168) = (0 : Int32) then (J29_79 v.2 x1 x2 x3 v.1) else (F26 x1 v.1).bind fun r170 => (aget (f_buffered v.2) r170).bind fun y171 => (aset (f_value v.2) v.1 y171).bind fun y172 => (aset (f_version v.2) v.1 x2).bind fun y173 => (J29_79 (s_version (s_value v.2 y172) y173) x1 x2 x3 v.1)) else some (.inl v.2)) else some (.inl v.2))
theorem tB29_25 (Ad : QAd n0 ad) (W : QW Z a0) (s : List Int32) (x1 : Int32) (x2 : Int32) (x3 : Int32) (v : Int32 × Ob) {r : ((Ob)) ⊕ (Int32 × Ob)} {u : Option Value} {τ : QHeap} (h : B29_25 x1 x2 x3 v = some r) (hx0 : ∀ x : Ob, r = .inl x → QTri l Z n0 ad 29 (85, [some (.ref 1), some (.int x1), some (.int x2), none, none], [], (H0 s x)) u τ) (hc : ∀ x : Int32 × Ob, r = .inr x → QTri l Z n0 ad 29 (25, [some (.ref 1), some (.int x1), some (.int x2), some (.int x3), some (.int x.1)], [], (H0 s x.2)) u τ) : QTri l Z n0 ad 29 (25, [some (.ref 1), some (.int x1), some (.int x2), some (.int x3), some (.int v.1)], [], (H0 s v.2)) u τ := by
  unfold B29_25 at h
  refine QTri.steps Ad W 3 (st' := (31, [some (.ref 1), some (.int x1), some (.int x2), some (.int x3), some (.int v.1)], [.int (f_keyCount v.2), .int v.1], (H0 s v.2))) rfl ?_
  rcases qite h with ⟨hc166, h⟩ | ⟨hc166, h⟩
  · refine QTri.brF Ad W (t := 85) (f := 34) (L := [some (.ref 1), some (.int x1), some (.int x2), some (.int x3), some (.int v.1)]) (S := []) (σ := (H0 s v.2)) rfl (XT.ii_ge_f hc166) ?_
    refine QTri.steps Ad W 2 (st' := (38, [some (.ref 1), some (.int x1), some (.int x2), some (.int x3), some (.int v.1)], [.int (32 : Int32), .int v.1], (H0 s v.2))) rfl ?_
    rcases qite h with ⟨hc167, h⟩ | ⟨hc167, h⟩
    · refine QTri.brF Ad W (t := 85) (f := 41) (L := [some (.ref 1), some (.int x1), some (.int x2), some (.int x3), some (.int v.1)]) (S := []) (σ := (H0 s v.2)) rfl (XT.ii_ge_f hc167) ?_
      refine QTri.steps Ad W 3 (st' := (45, [some (.ref 1), some (.int x1), some (.int x2), some (.int x3), some (.int v.1)], [.int v.1, .ref 1, .int x3], (H0 s v.2))) rfl ?_
      obtain ⟨r168, hr168, h⟩ := Option.bind_eq_some_iff.mp h
      refine QTri.callP W (a := 1) (as := [.int v.1]) (rest := [.int x3]) (w := (some (.int r168))) (σ₁ := (H0 s v.2)) rfl rfl rfl rfl rfl rfl rfl rfl (tF23 Ad W v.1 hr168) ?_
      refine QTri.steps Ad W 1 (st' := (49, [some (.ref 1), some (.int x1), some (.int x2), some (.int x3), some (.int v.1)], [.int (x3 &&& r168)], (H0 s v.2))) rfl ?_
      rcases qite h with ⟨hc169, h⟩ | ⟨hc169, h⟩
      · refine QTri.brT Ad W (t := 79) (f := 52) (L := [some (.ref 1), some (.int x1), some (.int x2), some (.int x3), some (.int v.1)]) (S := []) (σ := (H0 s v.2)) rfl (XT.i0_eq_t hc169) ?_
        exact QTri.mask [true, true, true, true, true] (tJ29_79 Ad W s v.2 x1 x2 x3 v.1 h hx0 hc)
      · refine QTri.brF Ad W (t := 79) (f := 52) (L := [some (.ref 1), some (.int x1), some (.int x2), some (.int x3), some (.int v.1)]) (S := []) (σ := (H0 s v.2)) rfl (XT.i0_eq_f hc169) ?_
        refine QTri.steps Ad W 8 (st' := (66, [some (.ref 1), some (.int x1), some (.int x2), some (.int x3), some (.int v.1)], [.int v.1, .int x1, .ref 1, .ref 8, .int v.1, .ref 2], (H0 s v.2))) rfl ?_
        obtain ⟨r170, hr170, h⟩ := Option.bind_eq_some_iff.mp h
        refine QTri.callP W (a := 1) (as := [.int x1, .int v.1]) (rest := [.ref 8, .int v.1, .ref 2]) (w := (some (.int r170))) (σ₁ := (H0 s v.2)) rfl rfl rfl rfl rfl rfl rfl rfl (tF26 Ad W x1 v.1 hr170) ?_
        obtain ⟨y171, hy171, h⟩ := Option.bind_eq_some_iff.mp h
        refine QTri.bnd Ad W (f := fun y171 => (70, [some (.ref 1), some (.int x1), some (.int x2), some (.int x3), some (.int v.1)], [.int y171, .int v.1, .ref 2], (H0 s v.2))) rfl hy171 ?_
        obtain ⟨y172, hy172, h⟩ := Option.bind_eq_some_iff.mp h
        refine QTri.bnd Ad W (f := fun y172 => (71, [some (.ref 1), some (.int x1), some (.int x2), some (.int x3), some (.int v.1)], [], [.inr (.inl (.int, s)), .inl [.ref 2, .ref 3, .ref 4, .ref 5, .ref 6, .ref 7, .ref 8, .int (f_keyCount v.2), .int (f_slotCount v.2), .int (f_window v.2), .int (f_commitCount v.2), .int (f_abortCount v.2), .int (f_lastConflict v.2)], .inr (.inl (.int, y172)), .inr (.inl (.int, (f_version v.2))), .inr (.inl (.boolean, (f_active v.2))), .inr (.inl (.int, (f_start v.2))), .inr (.inl (.int, (f_readSet v.2))), .inr (.inl (.int, (f_writeSet v.2))), .inr (.inl (.int, (f_buffered v.2)))])) rfl hy172 ?_
        refine QTri.steps Ad W 4 (st' := (78, [some (.ref 1), some (.int x1), some (.int x2), some (.int x3), some (.int v.1)], [.int x2, .int v.1, .ref 3], [.inr (.inl (.int, s)), .inl [.ref 2, .ref 3, .ref 4, .ref 5, .ref 6, .ref 7, .ref 8, .int (f_keyCount v.2), .int (f_slotCount v.2), .int (f_window v.2), .int (f_commitCount v.2), .int (f_abortCount v.2), .int (f_lastConflict v.2)], .inr (.inl (.int, y172)), .inr (.inl (.int, (f_version v.2))), .inr (.inl (.boolean, (f_active v.2))), .inr (.inl (.int, (f_start v.2))), .inr (.inl (.int, (f_readSet v.2))), .inr (.inl (.int, (f_writeSet v.2))), .inr (.inl (.int, (f_buffered v.2)))])) rfl ?_
        obtain ⟨y173, hy173, h⟩ := Option.bind_eq_some_iff.mp h
        refine QTri.bnd Ad W (f := fun y173 => (79, [some (.ref 1), some (.int x1), some (.int x2), some (.int x3), some (.int v.1)], [], [.inr (.inl (.int, s)), .inl [.ref 2, .ref 3, .ref 4, .ref 5, .ref 6, .ref 7, .ref 8, .int (f_keyCount v.2), .int (f_slotCount v.2), .int (f_window v.2), .int (f_commitCount v.2), .int (f_abortCount v.2), .int (f_lastConflict v.2)], .inr (.inl (.int, y172)), .inr (.inl (.int, y173)), .inr (.inl (.boolean, (f_active v.2))), .inr (.inl (.int, (f_start v.2))), .inr (.inl (.int, (f_readSet v.2))), .inr (.inl (.int, (f_writeSet v.2))), .inr (.inl (.int, (f_buffered v.2)))])) rfl hy173 ?_
        have E174 : ([.inr (.inl (.int, s)), .inl [.ref 2, .ref 3, .ref 4, .ref 5, .ref 6, .ref 7, .ref 8, .int (f_keyCount v.2), .int (f_slotCount v.2), .int (f_window v.2), .int (f_commitCount v.2), .int (f_abortCount v.2), .int (f_lastConflict v.2)], .inr (.inl (.int, y172)), .inr (.inl (.int, y173)), .inr (.inl (.boolean, (f_active v.2))), .inr (.inl (.int, (f_start v.2))), .inr (.inl (.int, (f_readSet v.2))), .inr (.inl (.int, (f_writeSet v.2))), .inr (.inl (.int, (f_buffered v.2)))] : QHeap) = (H0 s (s_version (s_value v.2 y172) y173)) := by dsimp only [H0, f_value, f_version, f_active, f_start, f_readSet, f_writeSet, f_buffered, f_keyCount, f_slotCount, f_window, f_commitCount, f_abortCount, f_lastConflict, s_value, s_version]
        rw [E174]
        exact QTri.mask [true, true, true, true, true] (tJ29_79 Ad W s (s_version (s_value v.2 y172) y173) x1 x2 x3 v.1 h hx0 hc)
    · refine QTri.brT Ad W (t := 85) (f := 41) (L := [some (.ref 1), some (.int x1), some (.int x2), some (.int x3), some (.int v.1)]) (S := []) (σ := (H0 s v.2)) rfl (XT.ii_ge_t hc167) ?_
      obtain rfl := Option.some.inj h
      exact QTri.mask [true, true, true, false, false] (hx0 v.2 rfl)
  · refine QTri.brT Ad W (t := 85) (f := 34) (L := [some (.ref 1), some (.int x1), some (.int x2), some (.int x3), some (.int v.1)]) (S := []) (σ := (H0 s v.2)) rfl (XT.ii_ge_t hc166) ?_
    obtain rfl := Option.some.inj h
    exact QTri.mask [true, true, true, false, false] (hx0 v.2 rfl)
/-- endTx(I)V -/
def F30 (o : Ob) (x1 : Int32) : Option (Ob) :=
  (F22 o x1).bind fun r177 => some r177
theorem tF30 (Ad : QAd n0 ad) (W : QW Z a0) (s : List Int32) (o : Ob) (x1 : Int32) {r : Ob} (h : F30 o x1 = some r) : QTri l Z n0 ad 30 (0, qentry [.ref 1, .int x1] (pMaxL 30), [], (H0 s o)) (none : Option Value) (H0 s r) := by
  unfold F30 at h
  refine QTri.steps Ad W 2 (st' := (2, [some (.ref 1), some (.int x1)], [.int x1, .ref 1], (H0 s o))) rfl ?_
  obtain ⟨r177, hr177, h⟩ := Option.bind_eq_some_iff.mp h
  refine QTri.callP W (a := 1) (as := [.int x1]) (rest := []) (w := none) (σ₁ := (H0 s r177)) rfl rfl rfl rfl rfl rfl rfl rfl (tF22 Ad W s o x1 hr177) ?_
  obtain rfl := Option.some.inj h
  exact QTri.ret0 rfl rfl
def J29_85 (o : Ob) (x1 : Int32) (x2 : Int32) : Option (Int32 × Ob) :=
  (F30 o x1).bind fun r178 => some (x2, (s_lastConflict r178 (-1 : Int32)))
theorem tJ29_85 (Ad : QAd n0 ad) (W : QW Z a0) (s : List Int32) (o : Ob) (x1 : Int32) (x2 : Int32) {r : Int32 × Ob} (h : J29_85 o x1 x2 = some r) : QTri l Z n0 ad 29 (85, [some (.ref 1), some (.int x1), some (.int x2), none, none], [], (H0 s o)) (some (Value.int r.1)) (H0 s r.2) := by
  unfold J29_85 at h
  refine QTri.steps Ad W 2 (st' := (87, [some (.ref 1), some (.int x1), some (.int x2), none, none], [.int x1, .ref 1], (H0 s o))) rfl ?_
  obtain ⟨r178, hr178, h⟩ := Option.bind_eq_some_iff.mp h
  refine QTri.callP W (a := 1) (as := [.int x1]) (rest := []) (w := none) (σ₁ := (H0 s r178)) rfl rfl rfl rfl rfl rfl rfl rfl (tF30 Ad W s o x1 hr178) ?_
  refine QTri.steps Ad W 3 (st' := (95, [some (.ref 1), some (.int x1), some (.int x2), none, none], [], [.inr (.inl (.int, s)), .inl [.ref 2, .ref 3, .ref 4, .ref 5, .ref 6, .ref 7, .ref 8, .int (f_keyCount r178), .int (f_slotCount r178), .int (f_window r178), .int (f_commitCount r178), .int (f_abortCount r178), .int (-1 : Int32)], .inr (.inl (.int, (f_value r178))), .inr (.inl (.int, (f_version r178))), .inr (.inl (.boolean, (f_active r178))), .inr (.inl (.int, (f_start r178))), .inr (.inl (.int, (f_readSet r178))), .inr (.inl (.int, (f_writeSet r178))), .inr (.inl (.int, (f_buffered r178)))])) rfl ?_
  refine QTri.steps Ad W 1 (st' := (96, [some (.ref 1), some (.int x1), some (.int x2), none, none], [.int x2], [.inr (.inl (.int, s)), .inl [.ref 2, .ref 3, .ref 4, .ref 5, .ref 6, .ref 7, .ref 8, .int (f_keyCount r178), .int (f_slotCount r178), .int (f_window r178), .int (f_commitCount r178), .int (f_abortCount r178), .int (-1 : Int32)], .inr (.inl (.int, (f_value r178))), .inr (.inl (.int, (f_version r178))), .inr (.inl (.boolean, (f_active r178))), .inr (.inl (.int, (f_start r178))), .inr (.inl (.int, (f_readSet r178))), .inr (.inl (.int, (f_writeSet r178))), .inr (.inl (.int, (f_buffered r178)))])) rfl ?_
  have E179 : ([.inr (.inl (.int, s)), .inl [.ref 2, .ref 3, .ref 4, .ref 5, .ref 6, .ref 7, .ref 8, .int (f_keyCount r178), .int (f_slotCount r178), .int (f_window r178), .int (f_commitCount r178), .int (f_abortCount r178), .int (-1 : Int32)], .inr (.inl (.int, (f_value r178))), .inr (.inl (.int, (f_version r178))), .inr (.inl (.boolean, (f_active r178))), .inr (.inl (.int, (f_start r178))), .inr (.inl (.int, (f_readSet r178))), .inr (.inl (.int, (f_writeSet r178))), .inr (.inl (.int, (f_buffered r178)))] : QHeap) = (H0 s (s_lastConflict r178 (-1 : Int32))) := by dsimp only [H0, f_value, f_version, f_active, f_start, f_readSet, f_writeSet, f_buffered, f_keyCount, f_slotCount, f_window, f_commitCount, f_abortCount, f_lastConflict, s_lastConflict]
  rw [E179]
  obtain rfl := Option.some.inj h
  exact QTri.retI rfl rfl
/-- install(I)I -/
def F29 (o : Ob) (x1 : Int32) : Option (Int32 × Ob) :=
  (aget (f_writeSet o) x1).bind fun y164 => (loopN (B29_25 x1 ((f_commitCount o) + (1 : Int32)) y164) qN ((0 : Int32), (s_commitCount o ((f_commitCount o) + (1 : Int32))))).bind fun e175 => (J29_85 e175 x1 ((f_commitCount o) + (1 : Int32)))
theorem tF29 (Ad : QAd n0 ad) (W : QW Z a0) (s : List Int32) (o : Ob) (x1 : Int32) {r : Int32 × Ob} (h : F29 o x1 = some r) : QTri l Z n0 ad 29 (0, qentry [.ref 1, .int x1] (pMaxL 29), [], (H0 s o)) (some (Value.int r.1)) (H0 s r.2) := by
  unfold F29 at h
  refine QTri.steps Ad W 6 (st' := (10, [some (.ref 1), some (.int x1), none, none, none], [], [.inr (.inl (.int, s)), .inl [.ref 2, .ref 3, .ref 4, .ref 5, .ref 6, .ref 7, .ref 8, .int (f_keyCount o), .int (f_slotCount o), .int (f_window o), .int ((f_commitCount o) + (1 : Int32)), .int (f_abortCount o), .int (f_lastConflict o)], .inr (.inl (.int, (f_value o))), .inr (.inl (.int, (f_version o))), .inr (.inl (.boolean, (f_active o))), .inr (.inl (.int, (f_start o))), .inr (.inl (.int, (f_readSet o))), .inr (.inl (.int, (f_writeSet o))), .inr (.inl (.int, (f_buffered o)))])) rfl ?_
  refine QTri.steps Ad W 6 (st' := (20, [some (.ref 1), some (.int x1), some (.int ((f_commitCount o) + (1 : Int32))), none, none], [.int x1, .ref 7], [.inr (.inl (.int, s)), .inl [.ref 2, .ref 3, .ref 4, .ref 5, .ref 6, .ref 7, .ref 8, .int (f_keyCount o), .int (f_slotCount o), .int (f_window o), .int ((f_commitCount o) + (1 : Int32)), .int (f_abortCount o), .int (f_lastConflict o)], .inr (.inl (.int, (f_value o))), .inr (.inl (.int, (f_version o))), .inr (.inl (.boolean, (f_active o))), .inr (.inl (.int, (f_start o))), .inr (.inl (.int, (f_readSet o))), .inr (.inl (.int, (f_writeSet o))), .inr (.inl (.int, (f_buffered o)))])) rfl ?_
  obtain ⟨y164, hy164, h⟩ := Option.bind_eq_some_iff.mp h
  refine QTri.bnd Ad W (f := fun y164 => (21, [some (.ref 1), some (.int x1), some (.int ((f_commitCount o) + (1 : Int32))), none, none], [.int y164], [.inr (.inl (.int, s)), .inl [.ref 2, .ref 3, .ref 4, .ref 5, .ref 6, .ref 7, .ref 8, .int (f_keyCount o), .int (f_slotCount o), .int (f_window o), .int ((f_commitCount o) + (1 : Int32)), .int (f_abortCount o), .int (f_lastConflict o)], .inr (.inl (.int, (f_value o))), .inr (.inl (.int, (f_version o))), .inr (.inl (.boolean, (f_active o))), .inr (.inl (.int, (f_start o))), .inr (.inl (.int, (f_readSet o))), .inr (.inl (.int, (f_writeSet o))), .inr (.inl (.int, (f_buffered o)))])) rfl hy164 ?_
  refine QTri.steps Ad W 3 (st' := (25, [some (.ref 1), some (.int x1), some (.int ((f_commitCount o) + (1 : Int32))), some (.int y164), some (.int (0 : Int32))], [], [.inr (.inl (.int, s)), .inl [.ref 2, .ref 3, .ref 4, .ref 5, .ref 6, .ref 7, .ref 8, .int (f_keyCount o), .int (f_slotCount o), .int (f_window o), .int ((f_commitCount o) + (1 : Int32)), .int (f_abortCount o), .int (f_lastConflict o)], .inr (.inl (.int, (f_value o))), .inr (.inl (.int, (f_version o))), .inr (.inl (.boolean, (f_active o))), .inr (.inl (.int, (f_start o))), .inr (.inl (.int, (f_readSet o))), .inr (.inl (.int, (f_writeSet o))), .inr (.inl (.int, (f_buffered o)))])) rfl ?_
  have E165 : ([.inr (.inl (.int, s)), .inl [.ref 2, .ref 3, .ref 4, .ref 5, .ref 6, .ref 7, .ref 8, .int (f_keyCount o), .int (f_slotCount o), .int (f_window o), .int ((f_commitCount o) + (1 : Int32)), .int (f_abortCount o), .int (f_lastConflict o)], .inr (.inl (.int, (f_value o))), .inr (.inl (.int, (f_version o))), .inr (.inl (.boolean, (f_active o))), .inr (.inl (.int, (f_start o))), .inr (.inl (.int, (f_readSet o))), .inr (.inl (.int, (f_writeSet o))), .inr (.inl (.int, (f_buffered o)))] : QHeap) = (H0 s (s_commitCount o ((f_commitCount o) + (1 : Int32)))) := by dsimp only [H0, f_value, f_version, f_active, f_start, f_readSet, f_writeSet, f_buffered, f_keyCount, f_slotCount, f_window, f_commitCount, f_abortCount, f_lastConflict, s_commitCount]
  rw [E165]
  obtain ⟨e175, he175, h⟩ := Option.bind_eq_some_iff.mp h
  refine QTri.mask [true, true, true, true, true] (loopN_tri (B := B29_25 x1 ((f_commitCount o) + (1 : Int32)) y164) (T := fun lv176 => QTri l Z n0 ad 29 (25, [some (.ref 1), some (.int x1), some (.int ((f_commitCount o) + (1 : Int32))), some (.int y164), some (.int lv176.1)], [], (H0 s lv176.2)) (some (Value.int r.1)) (H0 s r.2)) (KE := fun e175a => QTri l Z n0 ad 29 (85, [some (.ref 1), some (.int x1), some (.int ((f_commitCount o) + (1 : Int32))), none, none], [], (H0 s e175a)) (some (Value.int r.1)) (H0 s r.2)) (fun lv176 r hB hE hC => tB29_25 Ad W s x1 ((f_commitCount o) + (1 : Int32)) y164 lv176 hB (fun x q => hE _ q) (fun x q => hC x q)) qN ((0 : Int32), (s_commitCount o ((f_commitCount o) + (1 : Int32)))) e175 he175 ?_)
  exact QTri.mask [true, true, true, false, false] (tJ29_85 Ad W s e175 x1 ((f_commitCount o) + (1 : Int32)) h)
/-- failCommit(III)I -/
def F32 (o : Ob) (x1 : Int32) (x2 : Int32) (x3 : Int32) : Option (Int32 × Ob) :=
  (F30 o x1).bind fun r181 => some (x3, (s_lastConflict (s_abortCount r181 ((f_abortCount r181) + (1 : Int32))) x2))
theorem tF32 (Ad : QAd n0 ad) (W : QW Z a0) (s : List Int32) (o : Ob) (x1 : Int32) (x2 : Int32) (x3 : Int32) {r : Int32 × Ob} (h : F32 o x1 x2 x3 = some r) : QTri l Z n0 ad 32 (0, qentry [.ref 1, .int x1, .int x2, .int x3] (pMaxL 32), [], (H0 s o)) (some (Value.int r.1)) (H0 s r.2) := by
  unfold F32 at h
  refine QTri.steps Ad W 2 (st' := (2, [some (.ref 1), some (.int x1), some (.int x2), some (.int x3)], [.int x1, .ref 1], (H0 s o))) rfl ?_
  obtain ⟨r181, hr181, h⟩ := Option.bind_eq_some_iff.mp h
  refine QTri.callP W (a := 1) (as := [.int x1]) (rest := []) (w := none) (σ₁ := (H0 s r181)) rfl rfl rfl rfl rfl rfl rfl rfl (tF30 Ad W s o x1 hr181) ?_
  refine QTri.steps Ad W 6 (st' := (15, [some (.ref 1), some (.int x1), some (.int x2), some (.int x3)], [], [.inr (.inl (.int, s)), .inl [.ref 2, .ref 3, .ref 4, .ref 5, .ref 6, .ref 7, .ref 8, .int (f_keyCount r181), .int (f_slotCount r181), .int (f_window r181), .int (f_commitCount r181), .int ((f_abortCount r181) + (1 : Int32)), .int (f_lastConflict r181)], .inr (.inl (.int, (f_value r181))), .inr (.inl (.int, (f_version r181))), .inr (.inl (.boolean, (f_active r181))), .inr (.inl (.int, (f_start r181))), .inr (.inl (.int, (f_readSet r181))), .inr (.inl (.int, (f_writeSet r181))), .inr (.inl (.int, (f_buffered r181)))])) rfl ?_
  refine QTri.steps Ad W 3 (st' := (20, [some (.ref 1), some (.int x1), some (.int x2), some (.int x3)], [], [.inr (.inl (.int, s)), .inl [.ref 2, .ref 3, .ref 4, .ref 5, .ref 6, .ref 7, .ref 8, .int (f_keyCount r181), .int (f_slotCount r181), .int (f_window r181), .int (f_commitCount r181), .int ((f_abortCount r181) + (1 : Int32)), .int x2], .inr (.inl (.int, (f_value r181))), .inr (.inl (.int, (f_version r181))), .inr (.inl (.boolean, (f_active r181))), .inr (.inl (.int, (f_start r181))), .inr (.inl (.int, (f_readSet r181))), .inr (.inl (.int, (f_writeSet r181))), .inr (.inl (.int, (f_buffered r181)))])) rfl ?_
  refine QTri.steps Ad W 1 (st' := (21, [some (.ref 1), some (.int x1), some (.int x2), some (.int x3)], [.int x3], [.inr (.inl (.int, s)), .inl [.ref 2, .ref 3, .ref 4, .ref 5, .ref 6, .ref 7, .ref 8, .int (f_keyCount r181), .int (f_slotCount r181), .int (f_window r181), .int (f_commitCount r181), .int ((f_abortCount r181) + (1 : Int32)), .int x2], .inr (.inl (.int, (f_value r181))), .inr (.inl (.int, (f_version r181))), .inr (.inl (.boolean, (f_active r181))), .inr (.inl (.int, (f_start r181))), .inr (.inl (.int, (f_readSet r181))), .inr (.inl (.int, (f_writeSet r181))), .inr (.inl (.int, (f_buffered r181)))])) rfl ?_
  have E182 : ([.inr (.inl (.int, s)), .inl [.ref 2, .ref 3, .ref 4, .ref 5, .ref 6, .ref 7, .ref 8, .int (f_keyCount r181), .int (f_slotCount r181), .int (f_window r181), .int (f_commitCount r181), .int ((f_abortCount r181) + (1 : Int32)), .int x2], .inr (.inl (.int, (f_value r181))), .inr (.inl (.int, (f_version r181))), .inr (.inl (.boolean, (f_active r181))), .inr (.inl (.int, (f_start r181))), .inr (.inl (.int, (f_readSet r181))), .inr (.inl (.int, (f_writeSet r181))), .inr (.inl (.int, (f_buffered r181)))] : QHeap) = (H0 s (s_lastConflict (s_abortCount r181 ((f_abortCount r181) + (1 : Int32))) x2)) := by dsimp only [H0, f_value, f_version, f_active, f_start, f_readSet, f_writeSet, f_buffered, f_keyCount, f_slotCount, f_window, f_commitCount, f_abortCount, f_lastConflict, s_abortCount, s_lastConflict]
  rw [E182]
  obtain rfl := Option.some.inj h
  exact QTri.retI rfl rfl
/-- commit(I)I -/
def F3 (o : Ob) (x1 : Int32) : Option (Int32 × Ob) :=
  (F4 o x1).bind fun r146 => (if r146 = (0 : Int32) then some ((-1 : Int32), o) else (F27 o x1).bind fun r150 => (if r150 = (0 : Int32) then (F28 o x1).bind fun r162 => (if r162 < (0 : Int32) then (F29 o x1).bind fun r180 => some (r180.1, r180.2) else (F32 o x1 r162 (-3 : Int32)).bind fun r183 => some (r183.1, r183.2)) else (F32 o x1 (-1 : Int32) (-4 : Int32)).bind fun r184 => some (r184.1, r184.2)))
theorem tF3 (Ad : QAd n0 ad) (W : QW Z a0) (s : List Int32) (o : Ob) (x1 : Int32) {r : Int32 × Ob} (h : F3 o x1 = some r) : QTri l Z n0 ad 3 (0, qentry [.ref 1, .int x1] (pMaxL 3), [], (H0 s o)) (some (Value.int r.1)) (H0 s r.2) := by
  unfold F3 at h
  refine QTri.steps Ad W 2 (st' := (2, [some (.ref 1), some (.int x1), none], [.int x1, .ref 1], (H0 s o))) rfl ?_
  obtain ⟨r146, hr146, h⟩ := Option.bind_eq_some_iff.mp h
  refine QTri.callP W (a := 1) (as := [.int x1]) (rest := []) (w := (some (.int r146))) (σ₁ := (H0 s o)) rfl rfl rfl rfl rfl rfl rfl rfl (tF4 Ad W s o x1 hr146) ?_
  rcases qite h with ⟨hc147, h⟩ | ⟨hc147, h⟩
  · refine QTri.brF Ad W (t := 10) (f := 8) (L := [some (.ref 1), some (.int x1), none]) (S := []) (σ := (H0 s o)) rfl (XT.i0_ne_f hc147) ?_
    refine QTri.steps Ad W 1 (st' := (9, [some (.ref 1), some (.int x1), none], [.int (-1 : Int32)], (H0 s o))) rfl ?_
    obtain rfl := Option.some.inj h
    exact QTri.retI rfl rfl
  · refine QTri.brT Ad W (t := 10) (f := 8) (L := [some (.ref 1), some (.int x1), none]) (S := []) (σ := (H0 s o)) rfl (XT.i0_ne_t hc147) ?_
    refine QTri.steps Ad W 2 (st' := (12, [some (.ref 1), some (.int x1), none], [.int x1, .ref 1], (H0 s o))) rfl ?_
    obtain ⟨r150, hr150, h⟩ := Option.bind_eq_some_iff.mp h
    refine QTri.callP W (a := 1) (as := [.int x1]) (rest := []) (w := (some (.int r150))) (σ₁ := (H0 s o)) rfl rfl rfl rfl rfl rfl rfl rfl (tF27 Ad W s o x1 hr150) ?_
    rcases qite h with ⟨hc151, h⟩ | ⟨hc151, h⟩
    · refine QTri.brT Ad W (t := 27) (f := 18) (L := [some (.ref 1), some (.int x1), none]) (S := []) (σ := (H0 s o)) rfl (XT.i0_eq_t hc151) ?_
      refine QTri.steps Ad W 2 (st' := (29, [some (.ref 1), some (.int x1), none], [.int x1, .ref 1], (H0 s o))) rfl ?_
      obtain ⟨r162, hr162, h⟩ := Option.bind_eq_some_iff.mp h
      refine QTri.callP W (a := 1) (as := [.int x1]) (rest := []) (w := (some (.int r162))) (σ₁ := (H0 s o)) rfl rfl rfl rfl rfl rfl rfl rfl (tF28 Ad W s o x1 hr162) ?_
      refine QTri.steps Ad W 2 (st' := (34, [some (.ref 1), some (.int x1), some (.int r162)], [.int r162], (H0 s o))) rfl ?_
      rcases qite h with ⟨hc163, h⟩ | ⟨hc163, h⟩
      · refine QTri.brT Ad W (t := 46) (f := 37) (L := [some (.ref 1), some (.int x1), some (.int r162)]) (S := []) (σ := (H0 s o)) rfl (XT.i0_lt_t hc163) ?_
        refine QTri.steps Ad W 2 (st' := (48, [some (.ref 1), some (.int x1), some (.int r162)], [.int x1, .ref 1], (H0 s o))) rfl ?_
        obtain ⟨r180, hr180, h⟩ := Option.bind_eq_some_iff.mp h
        refine QTri.callP W (a := 1) (as := [.int x1]) (rest := []) (w := (some (.int r180.1))) (σ₁ := (H0 s r180.2)) rfl rfl rfl rfl rfl rfl rfl rfl (tF29 Ad W s o x1 hr180) ?_
        obtain rfl := Option.some.inj h
        exact QTri.retI rfl rfl
      · refine QTri.brF Ad W (t := 46) (f := 37) (L := [some (.ref 1), some (.int x1), some (.int r162)]) (S := []) (σ := (H0 s o)) rfl (XT.i0_lt_f hc163) ?_
        refine QTri.steps Ad W 4 (st' := (42, [some (.ref 1), some (.int x1), some (.int r162)], [.int (-3 : Int32), .int r162, .int x1, .ref 1], (H0 s o))) rfl ?_
        obtain ⟨r183, hr183, h⟩ := Option.bind_eq_some_iff.mp h
        refine QTri.callP W (a := 1) (as := [.int x1, .int r162, .int (-3 : Int32)]) (rest := []) (w := (some (.int r183.1))) (σ₁ := (H0 s r183.2)) rfl rfl rfl rfl rfl rfl rfl rfl (tF32 Ad W s o x1 r162 (-3 : Int32) hr183) ?_
        obtain rfl := Option.some.inj h
        exact QTri.retI rfl rfl
    · refine QTri.brF Ad W (t := 27) (f := 18) (L := [some (.ref 1), some (.int x1), none]) (S := []) (σ := (H0 s o)) rfl (XT.i0_eq_f hc151) ?_
      refine QTri.steps Ad W 4 (st' := (23, [some (.ref 1), some (.int x1), none], [.int (-4 : Int32), .int (-1 : Int32), .int x1, .ref 1], (H0 s o))) rfl ?_
      obtain ⟨r184, hr184, h⟩ := Option.bind_eq_some_iff.mp h
      refine QTri.callP W (a := 1) (as := [.int x1, .int (-1 : Int32), .int (-4 : Int32)]) (rest := []) (w := (some (.int r184.1))) (σ₁ := (H0 s r184.2)) rfl rfl rfl rfl rfl rfl rfl rfl (tF32 Ad W s o x1 (-1 : Int32) (-4 : Int32) hr184) ?_
      obtain rfl := Option.some.inj h
      exact QTri.retI rfl rfl
/-- abort(I)I -/
def F31 (o : Ob) (x1 : Int32) : Option (Int32 × Ob) :=
  (F4 o x1).bind fun r188 => (if r188 = (0 : Int32) then some ((-1 : Int32), o) else (F30 o x1).bind fun r190 => some ((0 : Int32), (s_abortCount r190 ((f_abortCount r190) + (1 : Int32)))))
theorem tF31 (Ad : QAd n0 ad) (W : QW Z a0) (s : List Int32) (o : Ob) (x1 : Int32) {r : Int32 × Ob} (h : F31 o x1 = some r) : QTri l Z n0 ad 31 (0, qentry [.ref 1, .int x1] (pMaxL 31), [], (H0 s o)) (some (Value.int r.1)) (H0 s r.2) := by
  unfold F31 at h
  refine QTri.steps Ad W 2 (st' := (2, [some (.ref 1), some (.int x1)], [.int x1, .ref 1], (H0 s o))) rfl ?_
  obtain ⟨r188, hr188, h⟩ := Option.bind_eq_some_iff.mp h
  refine QTri.callP W (a := 1) (as := [.int x1]) (rest := []) (w := (some (.int r188))) (σ₁ := (H0 s o)) rfl rfl rfl rfl rfl rfl rfl rfl (tF4 Ad W s o x1 hr188) ?_
  rcases qite h with ⟨hc189, h⟩ | ⟨hc189, h⟩
  · refine QTri.brF Ad W (t := 10) (f := 8) (L := [some (.ref 1), some (.int x1)]) (S := []) (σ := (H0 s o)) rfl (XT.i0_ne_f hc189) ?_
    refine QTri.steps Ad W 1 (st' := (9, [some (.ref 1), some (.int x1)], [.int (-1 : Int32)], (H0 s o))) rfl ?_
    obtain rfl := Option.some.inj h
    exact QTri.retI rfl rfl
  · refine QTri.brT Ad W (t := 10) (f := 8) (L := [some (.ref 1), some (.int x1)]) (S := []) (σ := (H0 s o)) rfl (XT.i0_ne_t hc189) ?_
    refine QTri.steps Ad W 2 (st' := (12, [some (.ref 1), some (.int x1)], [.int x1, .ref 1], (H0 s o))) rfl ?_
    obtain ⟨r190, hr190, h⟩ := Option.bind_eq_some_iff.mp h
    refine QTri.callP W (a := 1) (as := [.int x1]) (rest := []) (w := none) (σ₁ := (H0 s r190)) rfl rfl rfl rfl rfl rfl rfl rfl (tF30 Ad W s o x1 hr190) ?_
    refine QTri.steps Ad W 6 (st' := (25, [some (.ref 1), some (.int x1)], [], [.inr (.inl (.int, s)), .inl [.ref 2, .ref 3, .ref 4, .ref 5, .ref 6, .ref 7, .ref 8, .int (f_keyCount r190), .int (f_slotCount r190), .int (f_window r190), .int (f_commitCount r190), .int ((f_abortCount r190) + (1 : Int32)), .int (f_lastConflict r190)], .inr (.inl (.int, (f_value r190))), .inr (.inl (.int, (f_version r190))), .inr (.inl (.boolean, (f_active r190))), .inr (.inl (.int, (f_start r190))), .inr (.inl (.int, (f_readSet r190))), .inr (.inl (.int, (f_writeSet r190))), .inr (.inl (.int, (f_buffered r190)))])) rfl ?_
    refine QTri.steps Ad W 1 (st' := (26, [some (.ref 1), some (.int x1)], [.int (0 : Int32)], [.inr (.inl (.int, s)), .inl [.ref 2, .ref 3, .ref 4, .ref 5, .ref 6, .ref 7, .ref 8, .int (f_keyCount r190), .int (f_slotCount r190), .int (f_window r190), .int (f_commitCount r190), .int ((f_abortCount r190) + (1 : Int32)), .int (f_lastConflict r190)], .inr (.inl (.int, (f_value r190))), .inr (.inl (.int, (f_version r190))), .inr (.inl (.boolean, (f_active r190))), .inr (.inl (.int, (f_start r190))), .inr (.inl (.int, (f_readSet r190))), .inr (.inl (.int, (f_writeSet r190))), .inr (.inl (.int, (f_buffered r190)))])) rfl ?_
    have E191 : ([.inr (.inl (.int, s)), .inl [.ref 2, .ref 3, .ref 4, .ref 5, .ref 6, .ref 7, .ref 8, .int (f_keyCount r190), .int (f_slotCount r190), .int (f_window r190), .int (f_commitCount r190), .int ((f_abortCount r190) + (1 : Int32)), .int (f_lastConflict r190)], .inr (.inl (.int, (f_value r190))), .inr (.inl (.int, (f_version r190))), .inr (.inl (.boolean, (f_active r190))), .inr (.inl (.int, (f_start r190))), .inr (.inl (.int, (f_readSet r190))), .inr (.inl (.int, (f_writeSet r190))), .inr (.inl (.int, (f_buffered r190)))] : QHeap) = (H0 s (s_abortCount r190 ((f_abortCount r190) + (1 : Int32)))) := by dsimp only [H0, f_value, f_version, f_active, f_start, f_readSet, f_writeSet, f_buffered, f_keyCount, f_slotCount, f_window, f_commitCount, f_abortCount, f_lastConflict, s_abortCount]
    rw [E191]
    obtain rfl := Option.some.inj h
    exact QTri.retI rfl rfl
def J0_238 (s : List Int32) (p0 : Ob) (x2 : Int32) (x6 : Int32) (x8 : Int32) (x9 : Int32) (x10 : Int32) (x11 : Int32) (x12 : Int32) (x13 : Int32) (w0 : Int32) : Option (((Int32 × QHeap)) ⊕ (Int32 × Ob)) :=
  (F8 p0).bind fun r109 => (if x8 = (0 : Int32) then (if w0 = (0 : Int32) then (J0_374 s p0 x2 r109) else (F19 p0).bind fun r114 => (if r114.1 = (-5 : Int32) then (J0_374 s r114.2 x2 r109) else some (.inl ((0 : Int32), (H0 s r114.2))))) else (if x8 = (1 : Int32) then (F25 p0 x9 x11).bind fun r130 => (if r130.1 = (0 : Int32) then (J0_374 s r130.2 x2 r109) else some (.inl ((0 : Int32), (H0 s r130.2)))) else (if x8 = (2 : Int32) then (F24 p0 x9 x11 x6).bind fun r143 => (if r143.1 = x13 then (J0_374 s r143.2 x2 r109) else some (.inl ((0 : Int32), (H0 s r143.2)))) else (if x8 = (3 : Int32) then (F3 p0 x10).bind fun r185 => (if r185.1 = (-1 : Int32) then (J0_374 s r185.2 x2 r109) else some (.inl ((0 : Int32), (H0 s r185.2)))) else (if x8 = (4 : Int32) then (F31 p0 x10).bind fun r192 => (if r192.1 = (-1 : Int32) then (J0_374 s r192.2 x2 r109) else some (.inl ((0 : Int32), (H0 s r192.2)))) else (F25 p0 x10 x12).bind fun r194 => (if r194.1 = (0 : Int32) then (F24 r194.2 x10 x12 x6).bind fun r196 => (if r196.1 = (-1 : Int32) then (J0_374 s r196.2 x2 r109) else some (.inl ((0 : Int32), (H0 s r196.2)))) else some (.inl ((0 : Int32), (H0 s r194.2)))))))))
theorem tJ0_238 (Ad : QAd n0 ad) (W : QW Z a0) (s : List Int32) (p0 : Ob) (x2 : Int32) (x6 : Int32) (x8 : Int32) (x9 : Int32) (x10 : Int32) (x11 : Int32) (x12 : Int32) (x13 : Int32) (w0 : Int32) {r : ((Int32 × QHeap)) ⊕ (Int32 × Ob)} {u : Option Value} {τ : QHeap} (h : J0_238 s p0 x2 x6 x8 x9 x10 x11 x12 x13 w0 = some r) (hx0 : ∀ x : Int32 × QHeap, r = .inl x → u = (some (Value.int x.1)) ∧ τ = x.2) (hc : ∀ x : Int32 × Ob, r = .inr x → QTri l Z n0 ad 0 (14, [some (.ref 0), some (.ref 1), some (.int x.1), none, none, none, none, none, none, none, none, none, none, none, none, none, none, none, none], [], (H0 s x.2)) u τ) : QTri l Z n0 ad 0 (238, [some (.ref 0), some (.ref 1), some (.int x2), none, none, none, some (.int x6), none, some (.int x8), some (.int x9), some (.int x10), some (.int x11), some (.int x12), some (.int x13), none, none, none, none, none], [.int w0], (H0 s p0)) u τ := by
  unfold J0_238 at h
  refine QTri.steps Ad W 2 (st' := (241, [some (.ref 0), some (.ref 1), some (.int x2), none, none, none, some (.int x6), none, some (.int x8), some (.int x9), some (.int x10), some (.int x11), some (.int x12), some (.int x13), some (.int w0), none, none, none, none], [.ref 1], (H0 s p0))) rfl ?_
  obtain ⟨r109, hr109, h⟩ := Option.bind_eq_some_iff.mp h
  refine QTri.callS W (as := [.ref 1]) (rest := []) (w := (some (.long r109))) (σ₁ := (H0 s p0)) rfl rfl rfl rfl rfl rfl rfl (tF8 Ad W s p0 hr109) ?_
  refine QTri.steps Ad W 2 (st' := (248, [some (.ref 0), some (.ref 1), some (.int x2), none, none, none, some (.int x6), none, some (.int x8), some (.int x9), some (.int x10), some (.int x11), some (.int x12), some (.int x13), some (.int w0), some (.long r109), none, none, none], [.int x8], (H0 s p0))) rfl ?_
  rcases qite h with ⟨hc110, h⟩ | ⟨hc110, h⟩
  · refine QTri.brF Ad W (t := 267) (f := 251) (L := [some (.ref 0), some (.ref 1), some (.int x2), none, none, none, some (.int x6), none, some (.int x8), some (.int x9), some (.int x10), some (.int x11), some (.int x12), some (.int x13), some (.int w0), some (.long r109), none, none, none]) (S := []) (σ := (H0 s p0)) rfl (XT.i0_ne_f hc110) ?_
    refine QTri.steps Ad W 1 (st' := (253, [some (.ref 0), some (.ref 1), some (.int x2), none, none, none, some (.int x6), none, some (.int x8), some (.int x9), some (.int x10), some (.int x11), some (.int x12), some (.int x13), some (.int w0), some (.long r109), none, none, none], [.int w0], (H0 s p0))) rfl ?_
    rcases qite h with ⟨hc111, h⟩ | ⟨hc111, h⟩
    · refine QTri.brT Ad W (t := 374) (f := 256) (L := [some (.ref 0), some (.ref 1), some (.int x2), none, none, none, some (.int x6), none, some (.int x8), some (.int x9), some (.int x10), some (.int x11), some (.int x12), some (.int x13), some (.int w0), some (.long r109), none, none, none]) (S := []) (σ := (H0 s p0)) rfl (XT.i0_eq_t hc111) ?_
      exact QTri.mask [true, true, true, false, false, false, false, false, false, false, false, false, false, false, false, true, false, false, false] (tJ0_374 Ad W s p0 x2 r109 h hx0 hc)
    · refine QTri.brF Ad W (t := 374) (f := 256) (L := [some (.ref 0), some (.ref 1), some (.int x2), none, none, none, some (.int x6), none, some (.int x8), some (.int x9), some (.int x10), some (.int x11), some (.int x12), some (.int x13), some (.int w0), some (.long r109), none, none, none]) (S := []) (σ := (H0 s p0)) rfl (XT.i0_eq_f hc111) ?_
      refine QTri.steps Ad W 1 (st' := (257, [some (.ref 0), some (.ref 1), some (.int x2), none, none, none, some (.int x6), none, some (.int x8), some (.int x9), some (.int x10), some (.int x11), some (.int x12), some (.int x13), some (.int w0), some (.long r109), none, none, none], [.ref 1], (H0 s p0))) rfl ?_
      obtain ⟨r114, hr114, h⟩ := Option.bind_eq_some_iff.mp h
      refine QTri.callV W (a := 1) (as := []) (rest := []) (w := (some (.int r114.1))) (σ₁ := (H0 s r114.2)) rfl rfl rfl rfl rfl rfl rfl rfl (tF19 Ad W s p0 hr114) ?_
      refine QTri.steps Ad W 1 (st' := (262, [some (.ref 0), some (.ref 1), some (.int x2), none, none, none, some (.int x6), none, some (.int x8), some (.int x9), some (.int x10), some (.int x11), some (.int x12), some (.int x13), some (.int w0), some (.long r109), none, none, none], [.int (-5 : Int32), .int r114.1], (H0 s r114.2))) rfl ?_
      rcases qite h with ⟨hc115, h⟩ | ⟨hc115, h⟩
      · refine QTri.brT Ad W (t := 374) (f := 265) (L := [some (.ref 0), some (.ref 1), some (.int x2), none, none, none, some (.int x6), none, some (.int x8), some (.int x9), some (.int x10), some (.int x11), some (.int x12), some (.int x13), some (.int w0), some (.long r109), none, none, none]) (S := []) (σ := (H0 s r114.2)) rfl (XT.ii_eq_t hc115) ?_
        exact QTri.mask [true, true, true, false, false, false, false, false, false, false, false, false, false, false, false, true, false, false, false] (tJ0_374 Ad W s r114.2 x2 r109 h hx0 hc)
      · refine QTri.brF Ad W (t := 374) (f := 265) (L := [some (.ref 0), some (.ref 1), some (.int x2), none, none, none, some (.int x6), none, some (.int x8), some (.int x9), some (.int x10), some (.int x11), some (.int x12), some (.int x13), some (.int w0), some (.long r109), none, none, none]) (S := []) (σ := (H0 s r114.2)) rfl (XT.ii_eq_f hc115) ?_
        refine QTri.steps Ad W 1 (st' := (266, [some (.ref 0), some (.ref 1), some (.int x2), none, none, none, some (.int x6), none, some (.int x8), some (.int x9), some (.int x10), some (.int x11), some (.int x12), some (.int x13), some (.int w0), some (.long r109), none, none, none], [.int (0 : Int32)], (H0 s r114.2))) rfl ?_
        obtain rfl := Option.some.inj h
        obtain ⟨rfl, rfl⟩ := hx0 ((0 : Int32), (H0 s r114.2)) rfl
        exact QTri.retZ rfl rfl
  · refine QTri.brT Ad W (t := 267) (f := 251) (L := [some (.ref 0), some (.ref 1), some (.int x2), none, none, none, some (.int x6), none, some (.int x8), some (.int x9), some (.int x10), some (.int x11), some (.int x12), some (.int x13), some (.int w0), some (.long r109), none, none, none]) (S := []) (σ := (H0 s p0)) rfl (XT.i0_ne_t hc110) ?_
    refine QTri.steps Ad W 2 (st' := (270, [some (.ref 0), some (.ref 1), some (.int x2), none, none, none, some (.int x6), none, some (.int x8), some (.int x9), some (.int x10), some (.int x11), some (.int x12), some (.int x13), some (.int w0), some (.long r109), none, none, none], [.int (1 : Int32), .int x8], (H0 s p0))) rfl ?_
    rcases qite h with ⟨hc116, h⟩ | ⟨hc116, h⟩
    · refine QTri.brF Ad W (t := 286) (f := 273) (L := [some (.ref 0), some (.ref 1), some (.int x2), none, none, none, some (.int x6), none, some (.int x8), some (.int x9), some (.int x10), some (.int x11), some (.int x12), some (.int x13), some (.int w0), some (.long r109), none, none, none]) (S := []) (σ := (H0 s p0)) rfl (XT.ii_ne_f hc116) ?_
      refine QTri.steps Ad W 3 (st' := (278, [some (.ref 0), some (.ref 1), some (.int x2), none, none, none, some (.int x6), none, some (.int x8), some (.int x9), some (.int x10), some (.int x11), some (.int x12), some (.int x13), some (.int w0), some (.long r109), none, none, none], [.int x11, .int x9, .ref 1], (H0 s p0))) rfl ?_
      obtain ⟨r130, hr130, h⟩ := Option.bind_eq_some_iff.mp h
      refine QTri.callV W (a := 1) (as := [.int x9, .int x11]) (rest := []) (w := (some (.int r130.1))) (σ₁ := (H0 s r130.2)) rfl rfl rfl rfl rfl rfl rfl rfl (tF25 Ad W s p0 x9 x11 hr130) ?_
      rcases qite h with ⟨hc131, h⟩ | ⟨hc131, h⟩
      · refine QTri.brT Ad W (t := 374) (f := 284) (L := [some (.ref 0), some (.ref 1), some (.int x2), none, none, none, some (.int x6), none, some (.int x8), some (.int x9), some (.int x10), some (.int x11), some (.int x12), some (.int x13), some (.int w0), some (.long r109), none, none, none]) (S := []) (σ := (H0 s r130.2)) rfl (XT.i0_eq_t hc131) ?_
        exact QTri.mask [true, true, true, false, false, false, false, false, false, false, false, false, false, false, false, true, false, false, false] (tJ0_374 Ad W s r130.2 x2 r109 h hx0 hc)
      · refine QTri.brF Ad W (t := 374) (f := 284) (L := [some (.ref 0), some (.ref 1), some (.int x2), none, none, none, some (.int x6), none, some (.int x8), some (.int x9), some (.int x10), some (.int x11), some (.int x12), some (.int x13), some (.int w0), some (.long r109), none, none, none]) (S := []) (σ := (H0 s r130.2)) rfl (XT.i0_eq_f hc131) ?_
        refine QTri.steps Ad W 1 (st' := (285, [some (.ref 0), some (.ref 1), some (.int x2), none, none, none, some (.int x6), none, some (.int x8), some (.int x9), some (.int x10), some (.int x11), some (.int x12), some (.int x13), some (.int w0), some (.long r109), none, none, none], [.int (0 : Int32)], (H0 s r130.2))) rfl ?_
        obtain rfl := Option.some.inj h
        obtain ⟨rfl, rfl⟩ := hx0 ((0 : Int32), (H0 s r130.2)) rfl
        exact QTri.retZ rfl rfl
    · refine QTri.brT Ad W (t := 286) (f := 273) (L := [some (.ref 0), some (.ref 1), some (.int x2), none, none, none, some (.int x6), none, some (.int x8), some (.int x9), some (.int x10), some (.int x11), some (.int x12), some (.int x13), some (.int w0), some (.long r109), none, none, none]) (S := []) (σ := (H0 s p0)) rfl (XT.ii_ne_t hc116) ?_
      refine QTri.steps Ad W 2 (st' := (289, [some (.ref 0), some (.ref 1), some (.int x2), none, none, none, some (.int x6), none, some (.int x8), some (.int x9), some (.int x10), some (.int x11), some (.int x12), some (.int x13), some (.int w0), some (.long r109), none, none, none], [.int (2 : Int32), .int x8], (H0 s p0))) rfl ?_
      rcases qite h with ⟨hc132, h⟩ | ⟨hc132, h⟩
      · refine QTri.brF Ad W (t := 309) (f := 292) (L := [some (.ref 0), some (.ref 1), some (.int x2), none, none, none, some (.int x6), none, some (.int x8), some (.int x9), some (.int x10), some (.int x11), some (.int x12), some (.int x13), some (.int w0), some (.long r109), none, none, none]) (S := []) (σ := (H0 s p0)) rfl (XT.ii_ne_f hc132) ?_
        refine QTri.steps Ad W 4 (st' := (299, [some (.ref 0), some (.ref 1), some (.int x2), none, none, none, some (.int x6), none, some (.int x8), some (.int x9), some (.int x10), some (.int x11), some (.int x12), some (.int x13), some (.int w0), some (.long r109), none, none, none], [.int x6, .int x11, .int x9, .ref 1], (H0 s p0))) rfl ?_
        obtain ⟨r143, hr143, h⟩ := Option.bind_eq_some_iff.mp h
        refine QTri.callV W (a := 1) (as := [.int x9, .int x11, .int x6]) (rest := []) (w := (some (.int r143.1))) (σ₁ := (H0 s r143.2)) rfl rfl rfl rfl rfl rfl rfl rfl (tF24 Ad W s p0 x9 x11 x6 hr143) ?_
        refine QTri.steps Ad W 1 (st' := (304, [some (.ref 0), some (.ref 1), some (.int x2), none, none, none, some (.int x6), none, some (.int x8), some (.int x9), some (.int x10), some (.int x11), some (.int x12), some (.int x13), some (.int w0), some (.long r109), none, none, none], [.int x13, .int r143.1], (H0 s r143.2))) rfl ?_
        rcases qite h with ⟨hc144, h⟩ | ⟨hc144, h⟩
        · refine QTri.brT Ad W (t := 374) (f := 307) (L := [some (.ref 0), some (.ref 1), some (.int x2), none, none, none, some (.int x6), none, some (.int x8), some (.int x9), some (.int x10), some (.int x11), some (.int x12), some (.int x13), some (.int w0), some (.long r109), none, none, none]) (S := []) (σ := (H0 s r143.2)) rfl (XT.ii_eq_t hc144) ?_
          exact QTri.mask [true, true, true, false, false, false, false, false, false, false, false, false, false, false, false, true, false, false, false] (tJ0_374 Ad W s r143.2 x2 r109 h hx0 hc)
        · refine QTri.brF Ad W (t := 374) (f := 307) (L := [some (.ref 0), some (.ref 1), some (.int x2), none, none, none, some (.int x6), none, some (.int x8), some (.int x9), some (.int x10), some (.int x11), some (.int x12), some (.int x13), some (.int w0), some (.long r109), none, none, none]) (S := []) (σ := (H0 s r143.2)) rfl (XT.ii_eq_f hc144) ?_
          refine QTri.steps Ad W 1 (st' := (308, [some (.ref 0), some (.ref 1), some (.int x2), none, none, none, some (.int x6), none, some (.int x8), some (.int x9), some (.int x10), some (.int x11), some (.int x12), some (.int x13), some (.int w0), some (.long r109), none, none, none], [.int (0 : Int32)], (H0 s r143.2))) rfl ?_
          obtain rfl := Option.some.inj h
          obtain ⟨rfl, rfl⟩ := hx0 ((0 : Int32), (H0 s r143.2)) rfl
          exact QTri.retZ rfl rfl
      · refine QTri.brT Ad W (t := 309) (f := 292) (L := [some (.ref 0), some (.ref 1), some (.int x2), none, none, none, some (.int x6), none, some (.int x8), some (.int x9), some (.int x10), some (.int x11), some (.int x12), some (.int x13), some (.int w0), some (.long r109), none, none, none]) (S := []) (σ := (H0 s p0)) rfl (XT.ii_ne_t hc132) ?_
        refine QTri.steps Ad W 2 (st' := (312, [some (.ref 0), some (.ref 1), some (.int x2), none, none, none, some (.int x6), none, some (.int x8), some (.int x9), some (.int x10), some (.int x11), some (.int x12), some (.int x13), some (.int w0), some (.long r109), none, none, none], [.int (3 : Int32), .int x8], (H0 s p0))) rfl ?_
        rcases qite h with ⟨hc145, h⟩ | ⟨hc145, h⟩
        · refine QTri.brF Ad W (t := 327) (f := 315) (L := [some (.ref 0), some (.ref 1), some (.int x2), none, none, none, some (.int x6), none, some (.int x8), some (.int x9), some (.int x10), some (.int x11), some (.int x12), some (.int x13), some (.int w0), some (.long r109), none, none, none]) (S := []) (σ := (H0 s p0)) rfl (XT.ii_ne_f hc145) ?_
          refine QTri.steps Ad W 2 (st' := (318, [some (.ref 0), some (.ref 1), some (.int x2), none, none, none, some (.int x6), none, some (.int x8), some (.int x9), some (.int x10), some (.int x11), some (.int x12), some (.int x13), some (.int w0), some (.long r109), none, none, none], [.int x10, .ref 1], (H0 s p0))) rfl ?_
          obtain ⟨r185, hr185, h⟩ := Option.bind_eq_some_iff.mp h
          refine QTri.callV W (a := 1) (as := [.int x10]) (rest := []) (w := (some (.int r185.1))) (σ₁ := (H0 s r185.2)) rfl rfl rfl rfl rfl rfl rfl rfl (tF3 Ad W s p0 x10 hr185) ?_
          refine QTri.steps Ad W 1 (st' := (322, [some (.ref 0), some (.ref 1), some (.int x2), none, none, none, some (.int x6), none, some (.int x8), some (.int x9), some (.int x10), some (.int x11), some (.int x12), some (.int x13), some (.int w0), some (.long r109), none, none, none], [.int (-1 : Int32), .int r185.1], (H0 s r185.2))) rfl ?_
          rcases qite h with ⟨hc186, h⟩ | ⟨hc186, h⟩
          · refine QTri.brT Ad W (t := 374) (f := 325) (L := [some (.ref 0), some (.ref 1), some (.int x2), none, none, none, some (.int x6), none, some (.int x8), some (.int x9), some (.int x10), some (.int x11), some (.int x12), some (.int x13), some (.int w0), some (.long r109), none, none, none]) (S := []) (σ := (H0 s r185.2)) rfl (XT.ii_eq_t hc186) ?_
            exact QTri.mask [true, true, true, false, false, false, false, false, false, false, false, false, false, false, false, true, false, false, false] (tJ0_374 Ad W s r185.2 x2 r109 h hx0 hc)
          · refine QTri.brF Ad W (t := 374) (f := 325) (L := [some (.ref 0), some (.ref 1), some (.int x2), none, none, none, some (.int x6), none, some (.int x8), some (.int x9), some (.int x10), some (.int x11), some (.int x12), some (.int x13), some (.int w0), some (.long r109), none, none, none]) (S := []) (σ := (H0 s r185.2)) rfl (XT.ii_eq_f hc186) ?_
            refine QTri.steps Ad W 1 (st' := (326, [some (.ref 0), some (.ref 1), some (.int x2), none, none, none, some (.int x6), none, some (.int x8), some (.int x9), some (.int x10), some (.int x11), some (.int x12), some (.int x13), some (.int w0), some (.long r109), none, none, none], [.int (0 : Int32)], (H0 s r185.2))) rfl ?_
            obtain rfl := Option.some.inj h
            obtain ⟨rfl, rfl⟩ := hx0 ((0 : Int32), (H0 s r185.2)) rfl
            exact QTri.retZ rfl rfl
        · refine QTri.brT Ad W (t := 327) (f := 315) (L := [some (.ref 0), some (.ref 1), some (.int x2), none, none, none, some (.int x6), none, some (.int x8), some (.int x9), some (.int x10), some (.int x11), some (.int x12), some (.int x13), some (.int w0), some (.long r109), none, none, none]) (S := []) (σ := (H0 s p0)) rfl (XT.ii_ne_t hc145) ?_
          refine QTri.steps Ad W 2 (st' := (330, [some (.ref 0), some (.ref 1), some (.int x2), none, none, none, some (.int x6), none, some (.int x8), some (.int x9), some (.int x10), some (.int x11), some (.int x12), some (.int x13), some (.int w0), some (.long r109), none, none, none], [.int (4 : Int32), .int x8], (H0 s p0))) rfl ?_
          rcases qite h with ⟨hc187, h⟩ | ⟨hc187, h⟩
          · refine QTri.brF Ad W (t := 345) (f := 333) (L := [some (.ref 0), some (.ref 1), some (.int x2), none, none, none, some (.int x6), none, some (.int x8), some (.int x9), some (.int x10), some (.int x11), some (.int x12), some (.int x13), some (.int w0), some (.long r109), none, none, none]) (S := []) (σ := (H0 s p0)) rfl (XT.ii_ne_f hc187) ?_
            refine QTri.steps Ad W 2 (st' := (336, [some (.ref 0), some (.ref 1), some (.int x2), none, none, none, some (.int x6), none, some (.int x8), some (.int x9), some (.int x10), some (.int x11), some (.int x12), some (.int x13), some (.int w0), some (.long r109), none, none, none], [.int x10, .ref 1], (H0 s p0))) rfl ?_
            obtain ⟨r192, hr192, h⟩ := Option.bind_eq_some_iff.mp h
            refine QTri.callV W (a := 1) (as := [.int x10]) (rest := []) (w := (some (.int r192.1))) (σ₁ := (H0 s r192.2)) rfl rfl rfl rfl rfl rfl rfl rfl (tF31 Ad W s p0 x10 hr192) ?_
            refine QTri.steps Ad W 1 (st' := (340, [some (.ref 0), some (.ref 1), some (.int x2), none, none, none, some (.int x6), none, some (.int x8), some (.int x9), some (.int x10), some (.int x11), some (.int x12), some (.int x13), some (.int w0), some (.long r109), none, none, none], [.int (-1 : Int32), .int r192.1], (H0 s r192.2))) rfl ?_
            rcases qite h with ⟨hc193, h⟩ | ⟨hc193, h⟩
            · refine QTri.brT Ad W (t := 374) (f := 343) (L := [some (.ref 0), some (.ref 1), some (.int x2), none, none, none, some (.int x6), none, some (.int x8), some (.int x9), some (.int x10), some (.int x11), some (.int x12), some (.int x13), some (.int w0), some (.long r109), none, none, none]) (S := []) (σ := (H0 s r192.2)) rfl (XT.ii_eq_t hc193) ?_
              exact QTri.mask [true, true, true, false, false, false, false, false, false, false, false, false, false, false, false, true, false, false, false] (tJ0_374 Ad W s r192.2 x2 r109 h hx0 hc)
            · refine QTri.brF Ad W (t := 374) (f := 343) (L := [some (.ref 0), some (.ref 1), some (.int x2), none, none, none, some (.int x6), none, some (.int x8), some (.int x9), some (.int x10), some (.int x11), some (.int x12), some (.int x13), some (.int w0), some (.long r109), none, none, none]) (S := []) (σ := (H0 s r192.2)) rfl (XT.ii_eq_f hc193) ?_
              refine QTri.steps Ad W 1 (st' := (344, [some (.ref 0), some (.ref 1), some (.int x2), none, none, none, some (.int x6), none, some (.int x8), some (.int x9), some (.int x10), some (.int x11), some (.int x12), some (.int x13), some (.int w0), some (.long r109), none, none, none], [.int (0 : Int32)], (H0 s r192.2))) rfl ?_
              obtain rfl := Option.some.inj h
              obtain ⟨rfl, rfl⟩ := hx0 ((0 : Int32), (H0 s r192.2)) rfl
              exact QTri.retZ rfl rfl
          · refine QTri.brT Ad W (t := 345) (f := 333) (L := [some (.ref 0), some (.ref 1), some (.int x2), none, none, none, some (.int x6), none, some (.int x8), some (.int x9), some (.int x10), some (.int x11), some (.int x12), some (.int x13), some (.int w0), some (.long r109), none, none, none]) (S := []) (σ := (H0 s p0)) rfl (XT.ii_ne_t hc187) ?_
            refine QTri.steps Ad W 3 (st' := (350, [some (.ref 0), some (.ref 1), some (.int x2), none, none, none, some (.int x6), none, some (.int x8), some (.int x9), some (.int x10), some (.int x11), some (.int x12), some (.int x13), some (.int w0), some (.long r109), none, none, none], [.int x12, .int x10, .ref 1], (H0 s p0))) rfl ?_
            obtain ⟨r194, hr194, h⟩ := Option.bind_eq_some_iff.mp h
            refine QTri.callV W (a := 1) (as := [.int x10, .int x12]) (rest := []) (w := (some (.int r194.1))) (σ₁ := (H0 s r194.2)) rfl rfl rfl rfl rfl rfl rfl rfl (tF25 Ad W s p0 x10 x12 hr194) ?_
            rcases qite h with ⟨hc195, h⟩ | ⟨hc195, h⟩
            · refine QTri.brT Ad W (t := 358) (f := 356) (L := [some (.ref 0), some (.ref 1), some (.int x2), none, none, none, some (.int x6), none, some (.int x8), some (.int x9), some (.int x10), some (.int x11), some (.int x12), some (.int x13), some (.int w0), some (.long r109), none, none, none]) (S := []) (σ := (H0 s r194.2)) rfl (XT.i0_eq_t hc195) ?_
              refine QTri.steps Ad W 4 (st' := (365, [some (.ref 0), some (.ref 1), some (.int x2), none, none, none, some (.int x6), none, some (.int x8), some (.int x9), some (.int x10), some (.int x11), some (.int x12), some (.int x13), some (.int w0), some (.long r109), none, none, none], [.int x6, .int x12, .int x10, .ref 1], (H0 s r194.2))) rfl ?_
              obtain ⟨r196, hr196, h⟩ := Option.bind_eq_some_iff.mp h
              refine QTri.callV W (a := 1) (as := [.int x10, .int x12, .int x6]) (rest := []) (w := (some (.int r196.1))) (σ₁ := (H0 s r196.2)) rfl rfl rfl rfl rfl rfl rfl rfl (tF24 Ad W s r194.2 x10 x12 x6 hr196) ?_
              refine QTri.steps Ad W 1 (st' := (369, [some (.ref 0), some (.ref 1), some (.int x2), none, none, none, some (.int x6), none, some (.int x8), some (.int x9), some (.int x10), some (.int x11), some (.int x12), some (.int x13), some (.int w0), some (.long r109), none, none, none], [.int (-1 : Int32), .int r196.1], (H0 s r196.2))) rfl ?_
              rcases qite h with ⟨hc197, h⟩ | ⟨hc197, h⟩
              · refine QTri.brT Ad W (t := 374) (f := 372) (L := [some (.ref 0), some (.ref 1), some (.int x2), none, none, none, some (.int x6), none, some (.int x8), some (.int x9), some (.int x10), some (.int x11), some (.int x12), some (.int x13), some (.int w0), some (.long r109), none, none, none]) (S := []) (σ := (H0 s r196.2)) rfl (XT.ii_eq_t hc197) ?_
                exact QTri.mask [true, true, true, false, false, false, false, false, false, false, false, false, false, false, false, true, false, false, false] (tJ0_374 Ad W s r196.2 x2 r109 h hx0 hc)
              · refine QTri.brF Ad W (t := 374) (f := 372) (L := [some (.ref 0), some (.ref 1), some (.int x2), none, none, none, some (.int x6), none, some (.int x8), some (.int x9), some (.int x10), some (.int x11), some (.int x12), some (.int x13), some (.int w0), some (.long r109), none, none, none]) (S := []) (σ := (H0 s r196.2)) rfl (XT.ii_eq_f hc197) ?_
                refine QTri.steps Ad W 1 (st' := (373, [some (.ref 0), some (.ref 1), some (.int x2), none, none, none, some (.int x6), none, some (.int x8), some (.int x9), some (.int x10), some (.int x11), some (.int x12), some (.int x13), some (.int w0), some (.long r109), none, none, none], [.int (0 : Int32)], (H0 s r196.2))) rfl ?_
                obtain rfl := Option.some.inj h
                obtain ⟨rfl, rfl⟩ := hx0 ((0 : Int32), (H0 s r196.2)) rfl
                exact QTri.retZ rfl rfl
            · refine QTri.brF Ad W (t := 358) (f := 356) (L := [some (.ref 0), some (.ref 1), some (.int x2), none, none, none, some (.int x6), none, some (.int x8), some (.int x9), some (.int x10), some (.int x11), some (.int x12), some (.int x13), some (.int w0), some (.long r109), none, none, none]) (S := []) (σ := (H0 s r194.2)) rfl (XT.i0_eq_f hc195) ?_
              refine QTri.steps Ad W 1 (st' := (357, [some (.ref 0), some (.ref 1), some (.int x2), none, none, none, some (.int x6), none, some (.int x8), some (.int x9), some (.int x10), some (.int x11), some (.int x12), some (.int x13), some (.int w0), some (.long r109), none, none, none], [.int (0 : Int32)], (H0 s r194.2))) rfl ?_
              obtain rfl := Option.some.inj h
              obtain ⟨rfl, rfl⟩ := hx0 ((0 : Int32), (H0 s r194.2)) rfl
              exact QTri.retZ rfl rfl
def J0_237 (s : List Int32) (p0 : Ob) (x2 : Int32) (x6 : Int32) (x8 : Int32) (x9 : Int32) (x10 : Int32) (x11 : Int32) (x12 : Int32) (x13 : Int32) : Option (((Int32 × QHeap)) ⊕ (Int32 × Ob)) :=
  (J0_238 s p0 x2 x6 x8 x9 x10 x11 x12 x13 (0 : Int32))
theorem tJ0_237 (Ad : QAd n0 ad) (W : QW Z a0) (s : List Int32) (p0 : Ob) (x2 : Int32) (x6 : Int32) (x8 : Int32) (x9 : Int32) (x10 : Int32) (x11 : Int32) (x12 : Int32) (x13 : Int32) {r : ((Int32 × QHeap)) ⊕ (Int32 × Ob)} {u : Option Value} {τ : QHeap} (h : J0_237 s p0 x2 x6 x8 x9 x10 x11 x12 x13 = some r) (hx0 : ∀ x : Int32 × QHeap, r = .inl x → u = (some (Value.int x.1)) ∧ τ = x.2) (hc : ∀ x : Int32 × Ob, r = .inr x → QTri l Z n0 ad 0 (14, [some (.ref 0), some (.ref 1), some (.int x.1), none, none, none, none, none, none, none, none, none, none, none, none, none, none, none, none], [], (H0 s x.2)) u τ) : QTri l Z n0 ad 0 (237, [some (.ref 0), some (.ref 1), some (.int x2), none, none, none, some (.int x6), none, some (.int x8), some (.int x9), some (.int x10), some (.int x11), some (.int x12), some (.int x13), none, none, none, none, none], [], (H0 s p0)) u τ := by
  unfold J0_237 at h
  refine QTri.steps Ad W 1 (st' := (238, [some (.ref 0), some (.ref 1), some (.int x2), none, none, none, some (.int x6), none, some (.int x8), some (.int x9), some (.int x10), some (.int x11), some (.int x12), some (.int x13), none, none, none, none, none], [.int (0 : Int32)], (H0 s p0))) rfl ?_
  exact QTri.mask [true, true, true, false, false, false, true, false, true, true, true, true, true, true, false, false, false, false, false] (tJ0_238 Ad W s p0 x2 x6 x8 x9 x10 x11 x12 x13 (0 : Int32) h hx0 hc)
def J0_135 (s : List Int32) (p0 : Ob) (x2 : Int32) (x6 : Int32) : Option (((Int32 × QHeap)) ⊕ (Int32 × Ob)) :=
  (aget s (x2 + (4 : Int32))).bind fun y41 => (F5 p0 y41).bind fun r51 => (F7 y41).bind fun r53 => (F6 p0 ((XT.ushr y41 (3 : Int32)) &&& (3 : Int32))).bind fun r54 => (F6 p0 (0 : Int32)).bind fun r58 => (if r58 = (0 : Int32) then (J0_237 s p0 x2 x6 ((y41 &&& (7 : Int32)) % (6 : Int32)) ((XT.ushr y41 (3 : Int32)) &&& (3 : Int32)) r51 r53 ((XT.ushr y41 (16 : Int32)) &&& (7 : Int32)) (if r54 = (0 : Int32) then (-1 : Int32) else (-2 : Int32))) else (F6 p0 (1 : Int32)).bind fun r198 => (if r198 = (0 : Int32) then (J0_237 s p0 x2 x6 ((y41 &&& (7 : Int32)) % (6 : Int32)) ((XT.ushr y41 (3 : Int32)) &&& (3 : Int32)) r51 r53 ((XT.ushr y41 (16 : Int32)) &&& (7 : Int32)) (if r54 = (0 : Int32) then (-1 : Int32) else (-2 : Int32))) else (F6 p0 (2 : Int32)).bind fun r200 => (if r200 = (0 : Int32) then (J0_237 s p0 x2 x6 ((y41 &&& (7 : Int32)) % (6 : Int32)) ((XT.ushr y41 (3 : Int32)) &&& (3 : Int32)) r51 r53 ((XT.ushr y41 (16 : Int32)) &&& (7 : Int32)) (if r54 = (0 : Int32) then (-1 : Int32) else (-2 : Int32))) else (F6 p0 (3 : Int32)).bind fun r202 => (F8 p0).bind fun r206 => (if ((y41 &&& (7 : Int32)) % (6 : Int32)) = (0 : Int32) then (if (if r202 = (0 : Int32) then (0 : Int32) else (1 : Int32)) = (0 : Int32) then (J0_374 s p0 x2 r206) else (F19 p0).bind fun r209 => (if r209.1 = (-5 : Int32) then (J0_374 s r209.2 x2 r206) else some (.inl ((0 : Int32), (H0 s r209.2))))) else (if ((y41 &&& (7 : Int32)) % (6 : Int32)) = (1 : Int32) then (F25 p0 ((XT.ushr y41 (3 : Int32)) &&& (3 : Int32)) r53).bind fun r212 => (if r212.1 = (0 : Int32) then (J0_374 s r212.2 x2 r206) else some (.inl ((0 : Int32), (H0 s r212.2)))) else (if ((y41 &&& (7 : Int32)) % (6 : Int32)) = (2 : Int32) then (F24 p0 ((XT.ushr y41 (3 : Int32)) &&& (3 : Int32)) r53 x6).bind fun r215 => (if r215.1 = (if r54 = (0 : Int32) then (-1 : Int32) else (-2 : Int32)) then (J0_374 s r215.2 x2 r206) else some (.inl ((0 : Int32), (H0 s r215.2)))) else (if ((y41 &&& (7 : Int32)) % (6 : Int32)) = (3 : Int32) then (F3 p0 r51).bind fun r218 => (if r218.1 = (-1 : Int32) then (J0_374 s r218.2 x2 r206) else some (.inl ((0 : Int32), (H0 s r218.2)))) else (if ((y41 &&& (7 : Int32)) % (6 : Int32)) = (4 : Int32) then (F31 p0 r51).bind fun r221 => (if r221.1 = (-1 : Int32) then (J0_374 s r221.2 x2 r206) else some (.inl ((0 : Int32), (H0 s r221.2)))) else (F25 p0 r51 ((XT.ushr y41 (16 : Int32)) &&& (7 : Int32))).bind fun r223 => (if r223.1 = (0 : Int32) then (F24 r223.2 r51 ((XT.ushr y41 (16 : Int32)) &&& (7 : Int32)) x6).bind fun r225 => (if r225.1 = (-1 : Int32) then (J0_374 s r225.2 x2 r206) else some (.inl ((0 : Int32), (H0 s r225.2)))) else some (.inl ((0 : Int32), (H0 s r223.2))))))))))))
theorem tJ0_135 (Ad : QAd n0 ad) (W : QW Z a0) (s : List Int32) (p0 : Ob) (x2 : Int32) (x6 : Int32) {r : ((Int32 × QHeap)) ⊕ (Int32 × Ob)} {u : Option Value} {τ : QHeap} (h : J0_135 s p0 x2 x6 = some r) (hx0 : ∀ x : Int32 × QHeap, r = .inl x → u = (some (Value.int x.1)) ∧ τ = x.2) (hc : ∀ x : Int32 × Ob, r = .inr x → QTri l Z n0 ad 0 (14, [some (.ref 0), some (.ref 1), some (.int x.1), none, none, none, none, none, none, none, none, none, none, none, none, none, none, none, none], [], (H0 s x.2)) u τ) : QTri l Z n0 ad 0 (135, [some (.ref 0), some (.ref 1), some (.int x2), none, none, none, some (.int x6), none, none, none, none, none, none, none, none, none, none, none, none], [], (H0 s p0)) u τ := by
  unfold J0_135 at h
  refine QTri.steps Ad W 4 (st' := (139, [some (.ref 0), some (.ref 1), some (.int x2), none, none, none, some (.int x6), none, none, none, none, none, none, none, none, none, none, none, none], [.int (x2 + (4 : Int32)), .ref 0], (H0 s p0))) rfl ?_
  obtain ⟨y41, hy41, h⟩ := Option.bind_eq_some_iff.mp h
  refine QTri.bnd Ad W (f := fun y41 => (140, [some (.ref 0), some (.ref 1), some (.int x2), none, none, none, some (.int x6), none, none, none, none, none, none, none, none, none, none, none, none], [.int y41], (H0 s p0))) rfl hy41 ?_
  refine QTri.steps Ad W 7 (st' := (152, [some (.ref 0), some (.ref 1), some (.int x2), none, none, none, some (.int x6), some (.int y41), some (.int ((y41 &&& (7 : Int32)) % (6 : Int32))), none, none, none, none, none, none, none, none, none, none], [], (H0 s p0))) rfl ?_
  refine QTri.steps Ad W 8 (st' := (163, [some (.ref 0), some (.ref 1), some (.int x2), none, none, none, some (.int x6), some (.int y41), some (.int ((y41 &&& (7 : Int32)) % (6 : Int32))), some (.int ((XT.ushr y41 (3 : Int32)) &&& (3 : Int32))), none, none, none, none, none, none, none, none, none], [.int y41, .ref 1], (H0 s p0))) rfl ?_
  obtain ⟨r51, hr51, h⟩ := Option.bind_eq_some_iff.mp h
  refine QTri.callS W (as := [.ref 1, .int y41]) (rest := []) (w := (some (.int r51))) (σ₁ := (H0 s p0)) rfl rfl rfl rfl rfl rfl rfl (tF5 Ad W s p0 y41 hr51) ?_
  refine QTri.steps Ad W 2 (st' := (170, [some (.ref 0), some (.ref 1), some (.int x2), none, none, none, some (.int x6), some (.int y41), some (.int ((y41 &&& (7 : Int32)) % (6 : Int32))), some (.int ((XT.ushr y41 (3 : Int32)) &&& (3 : Int32))), some (.int r51), none, none, none, none, none, none, none, none], [.int y41], (H0 s p0))) rfl ?_
  obtain ⟨r53, hr53, h⟩ := Option.bind_eq_some_iff.mp h
  refine QTri.callS W (as := [.int y41]) (rest := []) (w := (some (.int r53))) (σ₁ := (H0 s p0)) rfl rfl rfl rfl rfl rfl rfl (tF7 Ad W y41 hr53) ?_
  refine QTri.steps Ad W 7 (st' := (185, [some (.ref 0), some (.ref 1), some (.int x2), none, none, none, some (.int x6), some (.int y41), some (.int ((y41 &&& (7 : Int32)) % (6 : Int32))), some (.int ((XT.ushr y41 (3 : Int32)) &&& (3 : Int32))), some (.int r51), some (.int r53), some (.int ((XT.ushr y41 (16 : Int32)) &&& (7 : Int32))), none, none, none, none, none, none], [], (H0 s p0))) rfl ?_
  refine QTri.steps Ad W 4 (st' := (192, [some (.ref 0), some (.ref 1), some (.int x2), none, none, none, some (.int x6), some (.int y41), some (.int ((y41 &&& (7 : Int32)) % (6 : Int32))), some (.int ((XT.ushr y41 (3 : Int32)) &&& (3 : Int32))), some (.int r51), some (.int r53), some (.int ((XT.ushr y41 (16 : Int32)) &&& (7 : Int32))), some (.int (-2 : Int32)), none, none, none, none, none], [.int ((XT.ushr y41 (3 : Int32)) &&& (3 : Int32)), .ref 1], (H0 s p0))) rfl ?_
  obtain ⟨r54, hr54, h⟩ := Option.bind_eq_some_iff.mp h
  refine QTri.callV W (a := 1) (as := [.int ((XT.ushr y41 (3 : Int32)) &&& (3 : Int32))]) (rest := []) (w := (some (.int r54))) (σ₁ := (H0 s p0)) rfl rfl rfl rfl rfl rfl rfl rfl (tF6 Ad W s p0 ((XT.ushr y41 (3 : Int32)) &&& (3 : Int32)) hr54) ?_
  have K56 : ∀ z55 : Int32, z55 = (if r54 = (0 : Int32) then (-1 : Int32) else (-2 : Int32)) → QTri l Z n0 ad 0 (201, [some (.ref 0), some (.ref 1), some (.int x2), none, none, none, some (.int x6), none, some (.int ((y41 &&& (7 : Int32)) % (6 : Int32))), some (.int ((XT.ushr y41 (3 : Int32)) &&& (3 : Int32))), some (.int r51), some (.int r53), some (.int ((XT.ushr y41 (16 : Int32)) &&& (7 : Int32))), some (.int z55), none, none, none, none, none], [], (H0 s p0)) u τ := by
    intro z55 ez55
    subst ez55
    refine QTri.steps Ad W 2 (st' := (203, [some (.ref 0), some (.ref 1), some (.int x2), none, none, none, some (.int x6), none, some (.int ((y41 &&& (7 : Int32)) % (6 : Int32))), some (.int ((XT.ushr y41 (3 : Int32)) &&& (3 : Int32))), some (.int r51), some (.int r53), some (.int ((XT.ushr y41 (16 : Int32)) &&& (7 : Int32))), some (.int (if r54 = (0 : Int32) then (-1 : Int32) else (-2 : Int32))), none, none, none, none, none], [.int (0 : Int32), .ref 1], (H0 s p0))) rfl ?_
    obtain ⟨r58, hr58, h⟩ := Option.bind_eq_some_iff.mp h
    refine QTri.callV W (a := 1) (as := [.int (0 : Int32)]) (rest := []) (w := (some (.int r58))) (σ₁ := (H0 s p0)) rfl rfl rfl rfl rfl rfl rfl rfl (tF6 Ad W s p0 (0 : Int32) hr58) ?_
    rcases qite h with ⟨hc59, h⟩ | ⟨hc59, h⟩
    · refine QTri.brT Ad W (t := 237) (f := 209) (L := [some (.ref 0), some (.ref 1), some (.int x2), none, none, none, some (.int x6), none, some (.int ((y41 &&& (7 : Int32)) % (6 : Int32))), some (.int ((XT.ushr y41 (3 : Int32)) &&& (3 : Int32))), some (.int r51), some (.int r53), some (.int ((XT.ushr y41 (16 : Int32)) &&& (7 : Int32))), some (.int (if r54 = (0 : Int32) then (-1 : Int32) else (-2 : Int32))), none, none, none, none, none]) (S := []) (σ := (H0 s p0)) rfl (XT.i0_eq_t hc59) ?_
      exact QTri.mask [true, true, true, false, false, false, true, false, true, true, true, true, true, true, false, false, false, false, false] (tJ0_237 Ad W s p0 x2 x6 ((y41 &&& (7 : Int32)) % (6 : Int32)) ((XT.ushr y41 (3 : Int32)) &&& (3 : Int32)) r51 r53 ((XT.ushr y41 (16 : Int32)) &&& (7 : Int32)) (if r54 = (0 : Int32) then (-1 : Int32) else (-2 : Int32)) h hx0 hc)
    · refine QTri.brF Ad W (t := 237) (f := 209) (L := [some (.ref 0), some (.ref 1), some (.int x2), none, none, none, some (.int x6), none, some (.int ((y41 &&& (7 : Int32)) % (6 : Int32))), some (.int ((XT.ushr y41 (3 : Int32)) &&& (3 : Int32))), some (.int r51), some (.int r53), some (.int ((XT.ushr y41 (16 : Int32)) &&& (7 : Int32))), some (.int (if r54 = (0 : Int32) then (-1 : Int32) else (-2 : Int32))), none, none, none, none, none]) (S := []) (σ := (H0 s p0)) rfl (XT.i0_eq_f hc59) ?_
      refine QTri.steps Ad W 2 (st' := (211, [some (.ref 0), some (.ref 1), some (.int x2), none, none, none, some (.int x6), none, some (.int ((y41 &&& (7 : Int32)) % (6 : Int32))), some (.int ((XT.ushr y41 (3 : Int32)) &&& (3 : Int32))), some (.int r51), some (.int r53), some (.int ((XT.ushr y41 (16 : Int32)) &&& (7 : Int32))), some (.int (if r54 = (0 : Int32) then (-1 : Int32) else (-2 : Int32))), none, none, none, none, none], [.int (1 : Int32), .ref 1], (H0 s p0))) rfl ?_
      obtain ⟨r198, hr198, h⟩ := Option.bind_eq_some_iff.mp h
      refine QTri.callV W (a := 1) (as := [.int (1 : Int32)]) (rest := []) (w := (some (.int r198))) (σ₁ := (H0 s p0)) rfl rfl rfl rfl rfl rfl rfl rfl (tF6 Ad W s p0 (1 : Int32) hr198) ?_
      rcases qite h with ⟨hc199, h⟩ | ⟨hc199, h⟩
      · refine QTri.brT Ad W (t := 237) (f := 217) (L := [some (.ref 0), some (.ref 1), some (.int x2), none, none, none, some (.int x6), none, some (.int ((y41 &&& (7 : Int32)) % (6 : Int32))), some (.int ((XT.ushr y41 (3 : Int32)) &&& (3 : Int32))), some (.int r51), some (.int r53), some (.int ((XT.ushr y41 (16 : Int32)) &&& (7 : Int32))), some (.int (if r54 = (0 : Int32) then (-1 : Int32) else (-2 : Int32))), none, none, none, none, none]) (S := []) (σ := (H0 s p0)) rfl (XT.i0_eq_t hc199) ?_
        exact QTri.mask [true, true, true, false, false, false, true, false, true, true, true, true, true, true, false, false, false, false, false] (tJ0_237 Ad W s p0 x2 x6 ((y41 &&& (7 : Int32)) % (6 : Int32)) ((XT.ushr y41 (3 : Int32)) &&& (3 : Int32)) r51 r53 ((XT.ushr y41 (16 : Int32)) &&& (7 : Int32)) (if r54 = (0 : Int32) then (-1 : Int32) else (-2 : Int32)) h hx0 hc)
      · refine QTri.brF Ad W (t := 237) (f := 217) (L := [some (.ref 0), some (.ref 1), some (.int x2), none, none, none, some (.int x6), none, some (.int ((y41 &&& (7 : Int32)) % (6 : Int32))), some (.int ((XT.ushr y41 (3 : Int32)) &&& (3 : Int32))), some (.int r51), some (.int r53), some (.int ((XT.ushr y41 (16 : Int32)) &&& (7 : Int32))), some (.int (if r54 = (0 : Int32) then (-1 : Int32) else (-2 : Int32))), none, none, none, none, none]) (S := []) (σ := (H0 s p0)) rfl (XT.i0_eq_f hc199) ?_
        refine QTri.steps Ad W 2 (st' := (219, [some (.ref 0), some (.ref 1), some (.int x2), none, none, none, some (.int x6), none, some (.int ((y41 &&& (7 : Int32)) % (6 : Int32))), some (.int ((XT.ushr y41 (3 : Int32)) &&& (3 : Int32))), some (.int r51), some (.int r53), some (.int ((XT.ushr y41 (16 : Int32)) &&& (7 : Int32))), some (.int (if r54 = (0 : Int32) then (-1 : Int32) else (-2 : Int32))), none, none, none, none, none], [.int (2 : Int32), .ref 1], (H0 s p0))) rfl ?_
        obtain ⟨r200, hr200, h⟩ := Option.bind_eq_some_iff.mp h
        refine QTri.callV W (a := 1) (as := [.int (2 : Int32)]) (rest := []) (w := (some (.int r200))) (σ₁ := (H0 s p0)) rfl rfl rfl rfl rfl rfl rfl rfl (tF6 Ad W s p0 (2 : Int32) hr200) ?_
        rcases qite h with ⟨hc201, h⟩ | ⟨hc201, h⟩
        · refine QTri.brT Ad W (t := 237) (f := 225) (L := [some (.ref 0), some (.ref 1), some (.int x2), none, none, none, some (.int x6), none, some (.int ((y41 &&& (7 : Int32)) % (6 : Int32))), some (.int ((XT.ushr y41 (3 : Int32)) &&& (3 : Int32))), some (.int r51), some (.int r53), some (.int ((XT.ushr y41 (16 : Int32)) &&& (7 : Int32))), some (.int (if r54 = (0 : Int32) then (-1 : Int32) else (-2 : Int32))), none, none, none, none, none]) (S := []) (σ := (H0 s p0)) rfl (XT.i0_eq_t hc201) ?_
          exact QTri.mask [true, true, true, false, false, false, true, false, true, true, true, true, true, true, false, false, false, false, false] (tJ0_237 Ad W s p0 x2 x6 ((y41 &&& (7 : Int32)) % (6 : Int32)) ((XT.ushr y41 (3 : Int32)) &&& (3 : Int32)) r51 r53 ((XT.ushr y41 (16 : Int32)) &&& (7 : Int32)) (if r54 = (0 : Int32) then (-1 : Int32) else (-2 : Int32)) h hx0 hc)
        · refine QTri.brF Ad W (t := 237) (f := 225) (L := [some (.ref 0), some (.ref 1), some (.int x2), none, none, none, some (.int x6), none, some (.int ((y41 &&& (7 : Int32)) % (6 : Int32))), some (.int ((XT.ushr y41 (3 : Int32)) &&& (3 : Int32))), some (.int r51), some (.int r53), some (.int ((XT.ushr y41 (16 : Int32)) &&& (7 : Int32))), some (.int (if r54 = (0 : Int32) then (-1 : Int32) else (-2 : Int32))), none, none, none, none, none]) (S := []) (σ := (H0 s p0)) rfl (XT.i0_eq_f hc201) ?_
          refine QTri.steps Ad W 2 (st' := (227, [some (.ref 0), some (.ref 1), some (.int x2), none, none, none, some (.int x6), none, some (.int ((y41 &&& (7 : Int32)) % (6 : Int32))), some (.int ((XT.ushr y41 (3 : Int32)) &&& (3 : Int32))), some (.int r51), some (.int r53), some (.int ((XT.ushr y41 (16 : Int32)) &&& (7 : Int32))), some (.int (if r54 = (0 : Int32) then (-1 : Int32) else (-2 : Int32))), none, none, none, none, none], [.int (3 : Int32), .ref 1], (H0 s p0))) rfl ?_
          obtain ⟨r202, hr202, h⟩ := Option.bind_eq_some_iff.mp h
          refine QTri.callV W (a := 1) (as := [.int (3 : Int32)]) (rest := []) (w := (some (.int r202))) (σ₁ := (H0 s p0)) rfl rfl rfl rfl rfl rfl rfl rfl (tF6 Ad W s p0 (3 : Int32) hr202) ?_
          have K204 : ∀ z203 : Int32, z203 = (if r202 = (0 : Int32) then (0 : Int32) else (1 : Int32)) → QTri l Z n0 ad 0 (238, [some (.ref 0), some (.ref 1), some (.int x2), none, none, none, some (.int x6), none, some (.int ((y41 &&& (7 : Int32)) % (6 : Int32))), some (.int ((XT.ushr y41 (3 : Int32)) &&& (3 : Int32))), some (.int r51), some (.int r53), some (.int ((XT.ushr y41 (16 : Int32)) &&& (7 : Int32))), some (.int (if r54 = (0 : Int32) then (-1 : Int32) else (-2 : Int32))), none, none, none, none, none], [.int z203], (H0 s p0)) u τ := by
            intro z203 ez203
            subst ez203
            refine QTri.steps Ad W 2 (st' := (241, [some (.ref 0), some (.ref 1), some (.int x2), none, none, none, some (.int x6), none, some (.int ((y41 &&& (7 : Int32)) % (6 : Int32))), some (.int ((XT.ushr y41 (3 : Int32)) &&& (3 : Int32))), some (.int r51), some (.int r53), some (.int ((XT.ushr y41 (16 : Int32)) &&& (7 : Int32))), some (.int (if r54 = (0 : Int32) then (-1 : Int32) else (-2 : Int32))), some (.int (if r202 = (0 : Int32) then (0 : Int32) else (1 : Int32))), none, none, none, none], [.ref 1], (H0 s p0))) rfl ?_
            obtain ⟨r206, hr206, h⟩ := Option.bind_eq_some_iff.mp h
            refine QTri.callS W (as := [.ref 1]) (rest := []) (w := (some (.long r206))) (σ₁ := (H0 s p0)) rfl rfl rfl rfl rfl rfl rfl (tF8 Ad W s p0 hr206) ?_
            refine QTri.steps Ad W 2 (st' := (248, [some (.ref 0), some (.ref 1), some (.int x2), none, none, none, some (.int x6), none, some (.int ((y41 &&& (7 : Int32)) % (6 : Int32))), some (.int ((XT.ushr y41 (3 : Int32)) &&& (3 : Int32))), some (.int r51), some (.int r53), some (.int ((XT.ushr y41 (16 : Int32)) &&& (7 : Int32))), some (.int (if r54 = (0 : Int32) then (-1 : Int32) else (-2 : Int32))), some (.int (if r202 = (0 : Int32) then (0 : Int32) else (1 : Int32))), some (.long r206), none, none, none], [.int ((y41 &&& (7 : Int32)) % (6 : Int32))], (H0 s p0))) rfl ?_
            rcases qite h with ⟨hc207, h⟩ | ⟨hc207, h⟩
            · refine QTri.brF Ad W (t := 267) (f := 251) (L := [some (.ref 0), some (.ref 1), some (.int x2), none, none, none, some (.int x6), none, some (.int ((y41 &&& (7 : Int32)) % (6 : Int32))), some (.int ((XT.ushr y41 (3 : Int32)) &&& (3 : Int32))), some (.int r51), some (.int r53), some (.int ((XT.ushr y41 (16 : Int32)) &&& (7 : Int32))), some (.int (if r54 = (0 : Int32) then (-1 : Int32) else (-2 : Int32))), some (.int (if r202 = (0 : Int32) then (0 : Int32) else (1 : Int32))), some (.long r206), none, none, none]) (S := []) (σ := (H0 s p0)) rfl (XT.i0_ne_f hc207) ?_
              refine QTri.steps Ad W 1 (st' := (253, [some (.ref 0), some (.ref 1), some (.int x2), none, none, none, some (.int x6), none, some (.int ((y41 &&& (7 : Int32)) % (6 : Int32))), some (.int ((XT.ushr y41 (3 : Int32)) &&& (3 : Int32))), some (.int r51), some (.int r53), some (.int ((XT.ushr y41 (16 : Int32)) &&& (7 : Int32))), some (.int (if r54 = (0 : Int32) then (-1 : Int32) else (-2 : Int32))), some (.int (if r202 = (0 : Int32) then (0 : Int32) else (1 : Int32))), some (.long r206), none, none, none], [.int (if r202 = (0 : Int32) then (0 : Int32) else (1 : Int32))], (H0 s p0))) rfl ?_
              rcases qite h with ⟨hc208, h⟩ | ⟨hc208, h⟩
              · refine QTri.brT Ad W (t := 374) (f := 256) (L := [some (.ref 0), some (.ref 1), some (.int x2), none, none, none, some (.int x6), none, some (.int ((y41 &&& (7 : Int32)) % (6 : Int32))), some (.int ((XT.ushr y41 (3 : Int32)) &&& (3 : Int32))), some (.int r51), some (.int r53), some (.int ((XT.ushr y41 (16 : Int32)) &&& (7 : Int32))), some (.int (if r54 = (0 : Int32) then (-1 : Int32) else (-2 : Int32))), some (.int (if r202 = (0 : Int32) then (0 : Int32) else (1 : Int32))), some (.long r206), none, none, none]) (S := []) (σ := (H0 s p0)) rfl (XT.i0_eq_t hc208) ?_
                exact QTri.mask [true, true, true, false, false, false, false, false, false, false, false, false, false, false, false, true, false, false, false] (tJ0_374 Ad W s p0 x2 r206 h hx0 hc)
              · refine QTri.brF Ad W (t := 374) (f := 256) (L := [some (.ref 0), some (.ref 1), some (.int x2), none, none, none, some (.int x6), none, some (.int ((y41 &&& (7 : Int32)) % (6 : Int32))), some (.int ((XT.ushr y41 (3 : Int32)) &&& (3 : Int32))), some (.int r51), some (.int r53), some (.int ((XT.ushr y41 (16 : Int32)) &&& (7 : Int32))), some (.int (if r54 = (0 : Int32) then (-1 : Int32) else (-2 : Int32))), some (.int (if r202 = (0 : Int32) then (0 : Int32) else (1 : Int32))), some (.long r206), none, none, none]) (S := []) (σ := (H0 s p0)) rfl (XT.i0_eq_f hc208) ?_
                refine QTri.steps Ad W 1 (st' := (257, [some (.ref 0), some (.ref 1), some (.int x2), none, none, none, some (.int x6), none, some (.int ((y41 &&& (7 : Int32)) % (6 : Int32))), some (.int ((XT.ushr y41 (3 : Int32)) &&& (3 : Int32))), some (.int r51), some (.int r53), some (.int ((XT.ushr y41 (16 : Int32)) &&& (7 : Int32))), some (.int (if r54 = (0 : Int32) then (-1 : Int32) else (-2 : Int32))), some (.int (if r202 = (0 : Int32) then (0 : Int32) else (1 : Int32))), some (.long r206), none, none, none], [.ref 1], (H0 s p0))) rfl ?_
                obtain ⟨r209, hr209, h⟩ := Option.bind_eq_some_iff.mp h
                refine QTri.callV W (a := 1) (as := []) (rest := []) (w := (some (.int r209.1))) (σ₁ := (H0 s r209.2)) rfl rfl rfl rfl rfl rfl rfl rfl (tF19 Ad W s p0 hr209) ?_
                refine QTri.steps Ad W 1 (st' := (262, [some (.ref 0), some (.ref 1), some (.int x2), none, none, none, some (.int x6), none, some (.int ((y41 &&& (7 : Int32)) % (6 : Int32))), some (.int ((XT.ushr y41 (3 : Int32)) &&& (3 : Int32))), some (.int r51), some (.int r53), some (.int ((XT.ushr y41 (16 : Int32)) &&& (7 : Int32))), some (.int (if r54 = (0 : Int32) then (-1 : Int32) else (-2 : Int32))), some (.int (if r202 = (0 : Int32) then (0 : Int32) else (1 : Int32))), some (.long r206), none, none, none], [.int (-5 : Int32), .int r209.1], (H0 s r209.2))) rfl ?_
                rcases qite h with ⟨hc210, h⟩ | ⟨hc210, h⟩
                · refine QTri.brT Ad W (t := 374) (f := 265) (L := [some (.ref 0), some (.ref 1), some (.int x2), none, none, none, some (.int x6), none, some (.int ((y41 &&& (7 : Int32)) % (6 : Int32))), some (.int ((XT.ushr y41 (3 : Int32)) &&& (3 : Int32))), some (.int r51), some (.int r53), some (.int ((XT.ushr y41 (16 : Int32)) &&& (7 : Int32))), some (.int (if r54 = (0 : Int32) then (-1 : Int32) else (-2 : Int32))), some (.int (if r202 = (0 : Int32) then (0 : Int32) else (1 : Int32))), some (.long r206), none, none, none]) (S := []) (σ := (H0 s r209.2)) rfl (XT.ii_eq_t hc210) ?_
                  exact QTri.mask [true, true, true, false, false, false, false, false, false, false, false, false, false, false, false, true, false, false, false] (tJ0_374 Ad W s r209.2 x2 r206 h hx0 hc)
                · refine QTri.brF Ad W (t := 374) (f := 265) (L := [some (.ref 0), some (.ref 1), some (.int x2), none, none, none, some (.int x6), none, some (.int ((y41 &&& (7 : Int32)) % (6 : Int32))), some (.int ((XT.ushr y41 (3 : Int32)) &&& (3 : Int32))), some (.int r51), some (.int r53), some (.int ((XT.ushr y41 (16 : Int32)) &&& (7 : Int32))), some (.int (if r54 = (0 : Int32) then (-1 : Int32) else (-2 : Int32))), some (.int (if r202 = (0 : Int32) then (0 : Int32) else (1 : Int32))), some (.long r206), none, none, none]) (S := []) (σ := (H0 s r209.2)) rfl (XT.ii_eq_f hc210) ?_
                  refine QTri.steps Ad W 1 (st' := (266, [some (.ref 0), some (.ref 1), some (.int x2), none, none, none, some (.int x6), none, some (.int ((y41 &&& (7 : Int32)) % (6 : Int32))), some (.int ((XT.ushr y41 (3 : Int32)) &&& (3 : Int32))), some (.int r51), some (.int r53), some (.int ((XT.ushr y41 (16 : Int32)) &&& (7 : Int32))), some (.int (if r54 = (0 : Int32) then (-1 : Int32) else (-2 : Int32))), some (.int (if r202 = (0 : Int32) then (0 : Int32) else (1 : Int32))), some (.long r206), none, none, none], [.int (0 : Int32)], (H0 s r209.2))) rfl ?_
                  obtain rfl := Option.some.inj h
                  obtain ⟨rfl, rfl⟩ := hx0 ((0 : Int32), (H0 s r209.2)) rfl
                  exact QTri.retZ rfl rfl
            · refine QTri.brT Ad W (t := 267) (f := 251) (L := [some (.ref 0), some (.ref 1), some (.int x2), none, none, none, some (.int x6), none, some (.int ((y41 &&& (7 : Int32)) % (6 : Int32))), some (.int ((XT.ushr y41 (3 : Int32)) &&& (3 : Int32))), some (.int r51), some (.int r53), some (.int ((XT.ushr y41 (16 : Int32)) &&& (7 : Int32))), some (.int (if r54 = (0 : Int32) then (-1 : Int32) else (-2 : Int32))), some (.int (if r202 = (0 : Int32) then (0 : Int32) else (1 : Int32))), some (.long r206), none, none, none]) (S := []) (σ := (H0 s p0)) rfl (XT.i0_ne_t hc207) ?_
              refine QTri.steps Ad W 2 (st' := (270, [some (.ref 0), some (.ref 1), some (.int x2), none, none, none, some (.int x6), none, some (.int ((y41 &&& (7 : Int32)) % (6 : Int32))), some (.int ((XT.ushr y41 (3 : Int32)) &&& (3 : Int32))), some (.int r51), some (.int r53), some (.int ((XT.ushr y41 (16 : Int32)) &&& (7 : Int32))), some (.int (if r54 = (0 : Int32) then (-1 : Int32) else (-2 : Int32))), some (.int (if r202 = (0 : Int32) then (0 : Int32) else (1 : Int32))), some (.long r206), none, none, none], [.int (1 : Int32), .int ((y41 &&& (7 : Int32)) % (6 : Int32))], (H0 s p0))) rfl ?_
              rcases qite h with ⟨hc211, h⟩ | ⟨hc211, h⟩
              · refine QTri.brF Ad W (t := 286) (f := 273) (L := [some (.ref 0), some (.ref 1), some (.int x2), none, none, none, some (.int x6), none, some (.int ((y41 &&& (7 : Int32)) % (6 : Int32))), some (.int ((XT.ushr y41 (3 : Int32)) &&& (3 : Int32))), some (.int r51), some (.int r53), some (.int ((XT.ushr y41 (16 : Int32)) &&& (7 : Int32))), some (.int (if r54 = (0 : Int32) then (-1 : Int32) else (-2 : Int32))), some (.int (if r202 = (0 : Int32) then (0 : Int32) else (1 : Int32))), some (.long r206), none, none, none]) (S := []) (σ := (H0 s p0)) rfl (XT.ii_ne_f hc211) ?_
                refine QTri.steps Ad W 3 (st' := (278, [some (.ref 0), some (.ref 1), some (.int x2), none, none, none, some (.int x6), none, some (.int ((y41 &&& (7 : Int32)) % (6 : Int32))), some (.int ((XT.ushr y41 (3 : Int32)) &&& (3 : Int32))), some (.int r51), some (.int r53), some (.int ((XT.ushr y41 (16 : Int32)) &&& (7 : Int32))), some (.int (if r54 = (0 : Int32) then (-1 : Int32) else (-2 : Int32))), some (.int (if r202 = (0 : Int32) then (0 : Int32) else (1 : Int32))), some (.long r206), none, none, none], [.int r53, .int ((XT.ushr y41 (3 : Int32)) &&& (3 : Int32)), .ref 1], (H0 s p0))) rfl ?_
                obtain ⟨r212, hr212, h⟩ := Option.bind_eq_some_iff.mp h
                refine QTri.callV W (a := 1) (as := [.int ((XT.ushr y41 (3 : Int32)) &&& (3 : Int32)), .int r53]) (rest := []) (w := (some (.int r212.1))) (σ₁ := (H0 s r212.2)) rfl rfl rfl rfl rfl rfl rfl rfl (tF25 Ad W s p0 ((XT.ushr y41 (3 : Int32)) &&& (3 : Int32)) r53 hr212) ?_
                rcases qite h with ⟨hc213, h⟩ | ⟨hc213, h⟩
                · refine QTri.brT Ad W (t := 374) (f := 284) (L := [some (.ref 0), some (.ref 1), some (.int x2), none, none, none, some (.int x6), none, some (.int ((y41 &&& (7 : Int32)) % (6 : Int32))), some (.int ((XT.ushr y41 (3 : Int32)) &&& (3 : Int32))), some (.int r51), some (.int r53), some (.int ((XT.ushr y41 (16 : Int32)) &&& (7 : Int32))), some (.int (if r54 = (0 : Int32) then (-1 : Int32) else (-2 : Int32))), some (.int (if r202 = (0 : Int32) then (0 : Int32) else (1 : Int32))), some (.long r206), none, none, none]) (S := []) (σ := (H0 s r212.2)) rfl (XT.i0_eq_t hc213) ?_
                  exact QTri.mask [true, true, true, false, false, false, false, false, false, false, false, false, false, false, false, true, false, false, false] (tJ0_374 Ad W s r212.2 x2 r206 h hx0 hc)
                · refine QTri.brF Ad W (t := 374) (f := 284) (L := [some (.ref 0), some (.ref 1), some (.int x2), none, none, none, some (.int x6), none, some (.int ((y41 &&& (7 : Int32)) % (6 : Int32))), some (.int ((XT.ushr y41 (3 : Int32)) &&& (3 : Int32))), some (.int r51), some (.int r53), some (.int ((XT.ushr y41 (16 : Int32)) &&& (7 : Int32))), some (.int (if r54 = (0 : Int32) then (-1 : Int32) else (-2 : Int32))), some (.int (if r202 = (0 : Int32) then (0 : Int32) else (1 : Int32))), some (.long r206), none, none, none]) (S := []) (σ := (H0 s r212.2)) rfl (XT.i0_eq_f hc213) ?_
                  refine QTri.steps Ad W 1 (st' := (285, [some (.ref 0), some (.ref 1), some (.int x2), none, none, none, some (.int x6), none, some (.int ((y41 &&& (7 : Int32)) % (6 : Int32))), some (.int ((XT.ushr y41 (3 : Int32)) &&& (3 : Int32))), some (.int r51), some (.int r53), some (.int ((XT.ushr y41 (16 : Int32)) &&& (7 : Int32))), some (.int (if r54 = (0 : Int32) then (-1 : Int32) else (-2 : Int32))), some (.int (if r202 = (0 : Int32) then (0 : Int32) else (1 : Int32))), some (.long r206), none, none, none], [.int (0 : Int32)], (H0 s r212.2))) rfl ?_
                  obtain rfl := Option.some.inj h
                  obtain ⟨rfl, rfl⟩ := hx0 ((0 : Int32), (H0 s r212.2)) rfl
                  exact QTri.retZ rfl rfl
              · refine QTri.brT Ad W (t := 286) (f := 273) (L := [some (.ref 0), some (.ref 1), some (.int x2), none, none, none, some (.int x6), none, some (.int ((y41 &&& (7 : Int32)) % (6 : Int32))), some (.int ((XT.ushr y41 (3 : Int32)) &&& (3 : Int32))), some (.int r51), some (.int r53), some (.int ((XT.ushr y41 (16 : Int32)) &&& (7 : Int32))), some (.int (if r54 = (0 : Int32) then (-1 : Int32) else (-2 : Int32))), some (.int (if r202 = (0 : Int32) then (0 : Int32) else (1 : Int32))), some (.long r206), none, none, none]) (S := []) (σ := (H0 s p0)) rfl (XT.ii_ne_t hc211) ?_
                refine QTri.steps Ad W 2 (st' := (289, [some (.ref 0), some (.ref 1), some (.int x2), none, none, none, some (.int x6), none, some (.int ((y41 &&& (7 : Int32)) % (6 : Int32))), some (.int ((XT.ushr y41 (3 : Int32)) &&& (3 : Int32))), some (.int r51), some (.int r53), some (.int ((XT.ushr y41 (16 : Int32)) &&& (7 : Int32))), some (.int (if r54 = (0 : Int32) then (-1 : Int32) else (-2 : Int32))), some (.int (if r202 = (0 : Int32) then (0 : Int32) else (1 : Int32))), some (.long r206), none, none, none], [.int (2 : Int32), .int ((y41 &&& (7 : Int32)) % (6 : Int32))], (H0 s p0))) rfl ?_
                rcases qite h with ⟨hc214, h⟩ | ⟨hc214, h⟩
                · refine QTri.brF Ad W (t := 309) (f := 292) (L := [some (.ref 0), some (.ref 1), some (.int x2), none, none, none, some (.int x6), none, some (.int ((y41 &&& (7 : Int32)) % (6 : Int32))), some (.int ((XT.ushr y41 (3 : Int32)) &&& (3 : Int32))), some (.int r51), some (.int r53), some (.int ((XT.ushr y41 (16 : Int32)) &&& (7 : Int32))), some (.int (if r54 = (0 : Int32) then (-1 : Int32) else (-2 : Int32))), some (.int (if r202 = (0 : Int32) then (0 : Int32) else (1 : Int32))), some (.long r206), none, none, none]) (S := []) (σ := (H0 s p0)) rfl (XT.ii_ne_f hc214) ?_
                  refine QTri.steps Ad W 4 (st' := (299, [some (.ref 0), some (.ref 1), some (.int x2), none, none, none, some (.int x6), none, some (.int ((y41 &&& (7 : Int32)) % (6 : Int32))), some (.int ((XT.ushr y41 (3 : Int32)) &&& (3 : Int32))), some (.int r51), some (.int r53), some (.int ((XT.ushr y41 (16 : Int32)) &&& (7 : Int32))), some (.int (if r54 = (0 : Int32) then (-1 : Int32) else (-2 : Int32))), some (.int (if r202 = (0 : Int32) then (0 : Int32) else (1 : Int32))), some (.long r206), none, none, none], [.int x6, .int r53, .int ((XT.ushr y41 (3 : Int32)) &&& (3 : Int32)), .ref 1], (H0 s p0))) rfl ?_
                  obtain ⟨r215, hr215, h⟩ := Option.bind_eq_some_iff.mp h
                  refine QTri.callV W (a := 1) (as := [.int ((XT.ushr y41 (3 : Int32)) &&& (3 : Int32)), .int r53, .int x6]) (rest := []) (w := (some (.int r215.1))) (σ₁ := (H0 s r215.2)) rfl rfl rfl rfl rfl rfl rfl rfl (tF24 Ad W s p0 ((XT.ushr y41 (3 : Int32)) &&& (3 : Int32)) r53 x6 hr215) ?_
                  refine QTri.steps Ad W 1 (st' := (304, [some (.ref 0), some (.ref 1), some (.int x2), none, none, none, some (.int x6), none, some (.int ((y41 &&& (7 : Int32)) % (6 : Int32))), some (.int ((XT.ushr y41 (3 : Int32)) &&& (3 : Int32))), some (.int r51), some (.int r53), some (.int ((XT.ushr y41 (16 : Int32)) &&& (7 : Int32))), some (.int (if r54 = (0 : Int32) then (-1 : Int32) else (-2 : Int32))), some (.int (if r202 = (0 : Int32) then (0 : Int32) else (1 : Int32))), some (.long r206), none, none, none], [.int (if r54 = (0 : Int32) then (-1 : Int32) else (-2 : Int32)), .int r215.1], (H0 s r215.2))) rfl ?_
                  rcases qite h with ⟨hc216, h⟩ | ⟨hc216, h⟩
                  · refine QTri.brT Ad W (t := 374) (f := 307) (L := [some (.ref 0), some (.ref 1), some (.int x2), none, none, none, some (.int x6), none, some (.int ((y41 &&& (7 : Int32)) % (6 : Int32))), some (.int ((XT.ushr y41 (3 : Int32)) &&& (3 : Int32))), some (.int r51), some (.int r53), some (.int ((XT.ushr y41 (16 : Int32)) &&& (7 : Int32))), some (.int (if r54 = (0 : Int32) then (-1 : Int32) else (-2 : Int32))), some (.int (if r202 = (0 : Int32) then (0 : Int32) else (1 : Int32))), some (.long r206), none, none, none]) (S := []) (σ := (H0 s r215.2)) rfl (XT.ii_eq_t hc216) ?_
                    exact QTri.mask [true, true, true, false, false, false, false, false, false, false, false, false, false, false, false, true, false, false, false] (tJ0_374 Ad W s r215.2 x2 r206 h hx0 hc)
                  · refine QTri.brF Ad W (t := 374) (f := 307) (L := [some (.ref 0), some (.ref 1), some (.int x2), none, none, none, some (.int x6), none, some (.int ((y41 &&& (7 : Int32)) % (6 : Int32))), some (.int ((XT.ushr y41 (3 : Int32)) &&& (3 : Int32))), some (.int r51), some (.int r53), some (.int ((XT.ushr y41 (16 : Int32)) &&& (7 : Int32))), some (.int (if r54 = (0 : Int32) then (-1 : Int32) else (-2 : Int32))), some (.int (if r202 = (0 : Int32) then (0 : Int32) else (1 : Int32))), some (.long r206), none, none, none]) (S := []) (σ := (H0 s r215.2)) rfl (XT.ii_eq_f hc216) ?_
                    refine QTri.steps Ad W 1 (st' := (308, [some (.ref 0), some (.ref 1), some (.int x2), none, none, none, some (.int x6), none, some (.int ((y41 &&& (7 : Int32)) % (6 : Int32))), some (.int ((XT.ushr y41 (3 : Int32)) &&& (3 : Int32))), some (.int r51), some (.int r53), some (.int ((XT.ushr y41 (16 : Int32)) &&& (7 : Int32))), some (.int (if r54 = (0 : Int32) then (-1 : Int32) else (-2 : Int32))), some (.int (if r202 = (0 : Int32) then (0 : Int32) else (1 : Int32))), some (.long r206), none, none, none], [.int (0 : Int32)], (H0 s r215.2))) rfl ?_
                    obtain rfl := Option.some.inj h
                    obtain ⟨rfl, rfl⟩ := hx0 ((0 : Int32), (H0 s r215.2)) rfl
                    exact QTri.retZ rfl rfl
                · refine QTri.brT Ad W (t := 309) (f := 292) (L := [some (.ref 0), some (.ref 1), some (.int x2), none, none, none, some (.int x6), none, some (.int ((y41 &&& (7 : Int32)) % (6 : Int32))), some (.int ((XT.ushr y41 (3 : Int32)) &&& (3 : Int32))), some (.int r51), some (.int r53), some (.int ((XT.ushr y41 (16 : Int32)) &&& (7 : Int32))), some (.int (if r54 = (0 : Int32) then (-1 : Int32) else (-2 : Int32))), some (.int (if r202 = (0 : Int32) then (0 : Int32) else (1 : Int32))), some (.long r206), none, none, none]) (S := []) (σ := (H0 s p0)) rfl (XT.ii_ne_t hc214) ?_
                  refine QTri.steps Ad W 2 (st' := (312, [some (.ref 0), some (.ref 1), some (.int x2), none, none, none, some (.int x6), none, some (.int ((y41 &&& (7 : Int32)) % (6 : Int32))), some (.int ((XT.ushr y41 (3 : Int32)) &&& (3 : Int32))), some (.int r51), some (.int r53), some (.int ((XT.ushr y41 (16 : Int32)) &&& (7 : Int32))), some (.int (if r54 = (0 : Int32) then (-1 : Int32) else (-2 : Int32))), some (.int (if r202 = (0 : Int32) then (0 : Int32) else (1 : Int32))), some (.long r206), none, none, none], [.int (3 : Int32), .int ((y41 &&& (7 : Int32)) % (6 : Int32))], (H0 s p0))) rfl ?_
                  rcases qite h with ⟨hc217, h⟩ | ⟨hc217, h⟩
                  · refine QTri.brF Ad W (t := 327) (f := 315) (L := [some (.ref 0), some (.ref 1), some (.int x2), none, none, none, some (.int x6), none, some (.int ((y41 &&& (7 : Int32)) % (6 : Int32))), some (.int ((XT.ushr y41 (3 : Int32)) &&& (3 : Int32))), some (.int r51), some (.int r53), some (.int ((XT.ushr y41 (16 : Int32)) &&& (7 : Int32))), some (.int (if r54 = (0 : Int32) then (-1 : Int32) else (-2 : Int32))), some (.int (if r202 = (0 : Int32) then (0 : Int32) else (1 : Int32))), some (.long r206), none, none, none]) (S := []) (σ := (H0 s p0)) rfl (XT.ii_ne_f hc217) ?_
                    refine QTri.steps Ad W 2 (st' := (318, [some (.ref 0), some (.ref 1), some (.int x2), none, none, none, some (.int x6), none, some (.int ((y41 &&& (7 : Int32)) % (6 : Int32))), some (.int ((XT.ushr y41 (3 : Int32)) &&& (3 : Int32))), some (.int r51), some (.int r53), some (.int ((XT.ushr y41 (16 : Int32)) &&& (7 : Int32))), some (.int (if r54 = (0 : Int32) then (-1 : Int32) else (-2 : Int32))), some (.int (if r202 = (0 : Int32) then (0 : Int32) else (1 : Int32))), some (.long r206), none, none, none], [.int r51, .ref 1], (H0 s p0))) rfl ?_
                    obtain ⟨r218, hr218, h⟩ := Option.bind_eq_some_iff.mp h
                    refine QTri.callV W (a := 1) (as := [.int r51]) (rest := []) (w := (some (.int r218.1))) (σ₁ := (H0 s r218.2)) rfl rfl rfl rfl rfl rfl rfl rfl (tF3 Ad W s p0 r51 hr218) ?_
                    refine QTri.steps Ad W 1 (st' := (322, [some (.ref 0), some (.ref 1), some (.int x2), none, none, none, some (.int x6), none, some (.int ((y41 &&& (7 : Int32)) % (6 : Int32))), some (.int ((XT.ushr y41 (3 : Int32)) &&& (3 : Int32))), some (.int r51), some (.int r53), some (.int ((XT.ushr y41 (16 : Int32)) &&& (7 : Int32))), some (.int (if r54 = (0 : Int32) then (-1 : Int32) else (-2 : Int32))), some (.int (if r202 = (0 : Int32) then (0 : Int32) else (1 : Int32))), some (.long r206), none, none, none], [.int (-1 : Int32), .int r218.1], (H0 s r218.2))) rfl ?_
                    rcases qite h with ⟨hc219, h⟩ | ⟨hc219, h⟩
                    · refine QTri.brT Ad W (t := 374) (f := 325) (L := [some (.ref 0), some (.ref 1), some (.int x2), none, none, none, some (.int x6), none, some (.int ((y41 &&& (7 : Int32)) % (6 : Int32))), some (.int ((XT.ushr y41 (3 : Int32)) &&& (3 : Int32))), some (.int r51), some (.int r53), some (.int ((XT.ushr y41 (16 : Int32)) &&& (7 : Int32))), some (.int (if r54 = (0 : Int32) then (-1 : Int32) else (-2 : Int32))), some (.int (if r202 = (0 : Int32) then (0 : Int32) else (1 : Int32))), some (.long r206), none, none, none]) (S := []) (σ := (H0 s r218.2)) rfl (XT.ii_eq_t hc219) ?_
                      exact QTri.mask [true, true, true, false, false, false, false, false, false, false, false, false, false, false, false, true, false, false, false] (tJ0_374 Ad W s r218.2 x2 r206 h hx0 hc)
                    · refine QTri.brF Ad W (t := 374) (f := 325) (L := [some (.ref 0), some (.ref 1), some (.int x2), none, none, none, some (.int x6), none, some (.int ((y41 &&& (7 : Int32)) % (6 : Int32))), some (.int ((XT.ushr y41 (3 : Int32)) &&& (3 : Int32))), some (.int r51), some (.int r53), some (.int ((XT.ushr y41 (16 : Int32)) &&& (7 : Int32))), some (.int (if r54 = (0 : Int32) then (-1 : Int32) else (-2 : Int32))), some (.int (if r202 = (0 : Int32) then (0 : Int32) else (1 : Int32))), some (.long r206), none, none, none]) (S := []) (σ := (H0 s r218.2)) rfl (XT.ii_eq_f hc219) ?_
                      refine QTri.steps Ad W 1 (st' := (326, [some (.ref 0), some (.ref 1), some (.int x2), none, none, none, some (.int x6), none, some (.int ((y41 &&& (7 : Int32)) % (6 : Int32))), some (.int ((XT.ushr y41 (3 : Int32)) &&& (3 : Int32))), some (.int r51), some (.int r53), some (.int ((XT.ushr y41 (16 : Int32)) &&& (7 : Int32))), some (.int (if r54 = (0 : Int32) then (-1 : Int32) else (-2 : Int32))), some (.int (if r202 = (0 : Int32) then (0 : Int32) else (1 : Int32))), some (.long r206), none, none, none], [.int (0 : Int32)], (H0 s r218.2))) rfl ?_
                      obtain rfl := Option.some.inj h
                      obtain ⟨rfl, rfl⟩ := hx0 ((0 : Int32), (H0 s r218.2)) rfl
                      exact QTri.retZ rfl rfl
                  · refine QTri.brT Ad W (t := 327) (f := 315) (L := [some (.ref 0), some (.ref 1), some (.int x2), none, none, none, some (.int x6), none, some (.int ((y41 &&& (7 : Int32)) % (6 : Int32))), some (.int ((XT.ushr y41 (3 : Int32)) &&& (3 : Int32))), some (.int r51), some (.int r53), some (.int ((XT.ushr y41 (16 : Int32)) &&& (7 : Int32))), some (.int (if r54 = (0 : Int32) then (-1 : Int32) else (-2 : Int32))), some (.int (if r202 = (0 : Int32) then (0 : Int32) else (1 : Int32))), some (.long r206), none, none, none]) (S := []) (σ := (H0 s p0)) rfl (XT.ii_ne_t hc217) ?_
                    refine QTri.steps Ad W 2 (st' := (330, [some (.ref 0), some (.ref 1), some (.int x2), none, none, none, some (.int x6), none, some (.int ((y41 &&& (7 : Int32)) % (6 : Int32))), some (.int ((XT.ushr y41 (3 : Int32)) &&& (3 : Int32))), some (.int r51), some (.int r53), some (.int ((XT.ushr y41 (16 : Int32)) &&& (7 : Int32))), some (.int (if r54 = (0 : Int32) then (-1 : Int32) else (-2 : Int32))), some (.int (if r202 = (0 : Int32) then (0 : Int32) else (1 : Int32))), some (.long r206), none, none, none], [.int (4 : Int32), .int ((y41 &&& (7 : Int32)) % (6 : Int32))], (H0 s p0))) rfl ?_
                    rcases qite h with ⟨hc220, h⟩ | ⟨hc220, h⟩
                    · refine QTri.brF Ad W (t := 345) (f := 333) (L := [some (.ref 0), some (.ref 1), some (.int x2), none, none, none, some (.int x6), none, some (.int ((y41 &&& (7 : Int32)) % (6 : Int32))), some (.int ((XT.ushr y41 (3 : Int32)) &&& (3 : Int32))), some (.int r51), some (.int r53), some (.int ((XT.ushr y41 (16 : Int32)) &&& (7 : Int32))), some (.int (if r54 = (0 : Int32) then (-1 : Int32) else (-2 : Int32))), some (.int (if r202 = (0 : Int32) then (0 : Int32) else (1 : Int32))), some (.long r206), none, none, none]) (S := []) (σ := (H0 s p0)) rfl (XT.ii_ne_f hc220) ?_
                      refine QTri.steps Ad W 2 (st' := (336, [some (.ref 0), some (.ref 1), some (.int x2), none, none, none, some (.int x6), none, some (.int ((y41 &&& (7 : Int32)) % (6 : Int32))), some (.int ((XT.ushr y41 (3 : Int32)) &&& (3 : Int32))), some (.int r51), some (.int r53), some (.int ((XT.ushr y41 (16 : Int32)) &&& (7 : Int32))), some (.int (if r54 = (0 : Int32) then (-1 : Int32) else (-2 : Int32))), some (.int (if r202 = (0 : Int32) then (0 : Int32) else (1 : Int32))), some (.long r206), none, none, none], [.int r51, .ref 1], (H0 s p0))) rfl ?_
                      obtain ⟨r221, hr221, h⟩ := Option.bind_eq_some_iff.mp h
                      refine QTri.callV W (a := 1) (as := [.int r51]) (rest := []) (w := (some (.int r221.1))) (σ₁ := (H0 s r221.2)) rfl rfl rfl rfl rfl rfl rfl rfl (tF31 Ad W s p0 r51 hr221) ?_
                      refine QTri.steps Ad W 1 (st' := (340, [some (.ref 0), some (.ref 1), some (.int x2), none, none, none, some (.int x6), none, some (.int ((y41 &&& (7 : Int32)) % (6 : Int32))), some (.int ((XT.ushr y41 (3 : Int32)) &&& (3 : Int32))), some (.int r51), some (.int r53), some (.int ((XT.ushr y41 (16 : Int32)) &&& (7 : Int32))), some (.int (if r54 = (0 : Int32) then (-1 : Int32) else (-2 : Int32))), some (.int (if r202 = (0 : Int32) then (0 : Int32) else (1 : Int32))), some (.long r206), none, none, none], [.int (-1 : Int32), .int r221.1], (H0 s r221.2))) rfl ?_
                      rcases qite h with ⟨hc222, h⟩ | ⟨hc222, h⟩
                      · refine QTri.brT Ad W (t := 374) (f := 343) (L := [some (.ref 0), some (.ref 1), some (.int x2), none, none, none, some (.int x6), none, some (.int ((y41 &&& (7 : Int32)) % (6 : Int32))), some (.int ((XT.ushr y41 (3 : Int32)) &&& (3 : Int32))), some (.int r51), some (.int r53), some (.int ((XT.ushr y41 (16 : Int32)) &&& (7 : Int32))), some (.int (if r54 = (0 : Int32) then (-1 : Int32) else (-2 : Int32))), some (.int (if r202 = (0 : Int32) then (0 : Int32) else (1 : Int32))), some (.long r206), none, none, none]) (S := []) (σ := (H0 s r221.2)) rfl (XT.ii_eq_t hc222) ?_
                        exact QTri.mask [true, true, true, false, false, false, false, false, false, false, false, false, false, false, false, true, false, false, false] (tJ0_374 Ad W s r221.2 x2 r206 h hx0 hc)
                      · refine QTri.brF Ad W (t := 374) (f := 343) (L := [some (.ref 0), some (.ref 1), some (.int x2), none, none, none, some (.int x6), none, some (.int ((y41 &&& (7 : Int32)) % (6 : Int32))), some (.int ((XT.ushr y41 (3 : Int32)) &&& (3 : Int32))), some (.int r51), some (.int r53), some (.int ((XT.ushr y41 (16 : Int32)) &&& (7 : Int32))), some (.int (if r54 = (0 : Int32) then (-1 : Int32) else (-2 : Int32))), some (.int (if r202 = (0 : Int32) then (0 : Int32) else (1 : Int32))), some (.long r206), none, none, none]) (S := []) (σ := (H0 s r221.2)) rfl (XT.ii_eq_f hc222) ?_
                        refine QTri.steps Ad W 1 (st' := (344, [some (.ref 0), some (.ref 1), some (.int x2), none, none, none, some (.int x6), none, some (.int ((y41 &&& (7 : Int32)) % (6 : Int32))), some (.int ((XT.ushr y41 (3 : Int32)) &&& (3 : Int32))), some (.int r51), some (.int r53), some (.int ((XT.ushr y41 (16 : Int32)) &&& (7 : Int32))), some (.int (if r54 = (0 : Int32) then (-1 : Int32) else (-2 : Int32))), some (.int (if r202 = (0 : Int32) then (0 : Int32) else (1 : Int32))), some (.long r206), none, none, none], [.int (0 : Int32)], (H0 s r221.2))) rfl ?_
                        obtain rfl := Option.some.inj h
                        obtain ⟨rfl, rfl⟩ := hx0 ((0 : Int32), (H0 s r221.2)) rfl
                        exact QTri.retZ rfl rfl
                    · refine QTri.brT Ad W (t := 345) (f := 333) (L := [some (.ref 0), some (.ref 1), some (.int x2), none, none, none, some (.int x6), none, some (.int ((y41 &&& (7 : Int32)) % (6 : Int32))), some (.int ((XT.ushr y41 (3 : Int32)) &&& (3 : Int32))), some (.int r51), some (.int r53), some (.int ((XT.ushr y41 (16 : Int32)) &&& (7 : Int32))), some (.int (if r54 = (0 : Int32) then (-1 : Int32) else (-2 : Int32))), some (.int (if r202 = (0 : Int32) then (0 : Int32) else (1 : Int32))), some (.long r206), none, none, none]) (S := []) (σ := (H0 s p0)) rfl (XT.ii_ne_t hc220) ?_
                      refine QTri.steps Ad W 3 (st' := (350, [some (.ref 0), some (.ref 1), some (.int x2), none, none, none, some (.int x6), none, some (.int ((y41 &&& (7 : Int32)) % (6 : Int32))), some (.int ((XT.ushr y41 (3 : Int32)) &&& (3 : Int32))), some (.int r51), some (.int r53), some (.int ((XT.ushr y41 (16 : Int32)) &&& (7 : Int32))), some (.int (if r54 = (0 : Int32) then (-1 : Int32) else (-2 : Int32))), some (.int (if r202 = (0 : Int32) then (0 : Int32) else (1 : Int32))), some (.long r206), none, none, none], [.int ((XT.ushr y41 (16 : Int32)) &&& (7 : Int32)), .int r51, .ref 1], (H0 s p0))) rfl ?_
                      obtain ⟨r223, hr223, h⟩ := Option.bind_eq_some_iff.mp h
                      refine QTri.callV W (a := 1) (as := [.int r51, .int ((XT.ushr y41 (16 : Int32)) &&& (7 : Int32))]) (rest := []) (w := (some (.int r223.1))) (σ₁ := (H0 s r223.2)) rfl rfl rfl rfl rfl rfl rfl rfl (tF25 Ad W s p0 r51 ((XT.ushr y41 (16 : Int32)) &&& (7 : Int32)) hr223) ?_
                      rcases qite h with ⟨hc224, h⟩ | ⟨hc224, h⟩
                      · refine QTri.brT Ad W (t := 358) (f := 356) (L := [some (.ref 0), some (.ref 1), some (.int x2), none, none, none, some (.int x6), none, some (.int ((y41 &&& (7 : Int32)) % (6 : Int32))), some (.int ((XT.ushr y41 (3 : Int32)) &&& (3 : Int32))), some (.int r51), some (.int r53), some (.int ((XT.ushr y41 (16 : Int32)) &&& (7 : Int32))), some (.int (if r54 = (0 : Int32) then (-1 : Int32) else (-2 : Int32))), some (.int (if r202 = (0 : Int32) then (0 : Int32) else (1 : Int32))), some (.long r206), none, none, none]) (S := []) (σ := (H0 s r223.2)) rfl (XT.i0_eq_t hc224) ?_
                        refine QTri.steps Ad W 4 (st' := (365, [some (.ref 0), some (.ref 1), some (.int x2), none, none, none, some (.int x6), none, some (.int ((y41 &&& (7 : Int32)) % (6 : Int32))), some (.int ((XT.ushr y41 (3 : Int32)) &&& (3 : Int32))), some (.int r51), some (.int r53), some (.int ((XT.ushr y41 (16 : Int32)) &&& (7 : Int32))), some (.int (if r54 = (0 : Int32) then (-1 : Int32) else (-2 : Int32))), some (.int (if r202 = (0 : Int32) then (0 : Int32) else (1 : Int32))), some (.long r206), none, none, none], [.int x6, .int ((XT.ushr y41 (16 : Int32)) &&& (7 : Int32)), .int r51, .ref 1], (H0 s r223.2))) rfl ?_
                        obtain ⟨r225, hr225, h⟩ := Option.bind_eq_some_iff.mp h
                        refine QTri.callV W (a := 1) (as := [.int r51, .int ((XT.ushr y41 (16 : Int32)) &&& (7 : Int32)), .int x6]) (rest := []) (w := (some (.int r225.1))) (σ₁ := (H0 s r225.2)) rfl rfl rfl rfl rfl rfl rfl rfl (tF24 Ad W s r223.2 r51 ((XT.ushr y41 (16 : Int32)) &&& (7 : Int32)) x6 hr225) ?_
                        refine QTri.steps Ad W 1 (st' := (369, [some (.ref 0), some (.ref 1), some (.int x2), none, none, none, some (.int x6), none, some (.int ((y41 &&& (7 : Int32)) % (6 : Int32))), some (.int ((XT.ushr y41 (3 : Int32)) &&& (3 : Int32))), some (.int r51), some (.int r53), some (.int ((XT.ushr y41 (16 : Int32)) &&& (7 : Int32))), some (.int (if r54 = (0 : Int32) then (-1 : Int32) else (-2 : Int32))), some (.int (if r202 = (0 : Int32) then (0 : Int32) else (1 : Int32))), some (.long r206), none, none, none], [.int (-1 : Int32), .int r225.1], (H0 s r225.2))) rfl ?_
                        rcases qite h with ⟨hc226, h⟩ | ⟨hc226, h⟩
                        · refine QTri.brT Ad W (t := 374) (f := 372) (L := [some (.ref 0), some (.ref 1), some (.int x2), none, none, none, some (.int x6), none, some (.int ((y41 &&& (7 : Int32)) % (6 : Int32))), some (.int ((XT.ushr y41 (3 : Int32)) &&& (3 : Int32))), some (.int r51), some (.int r53), some (.int ((XT.ushr y41 (16 : Int32)) &&& (7 : Int32))), some (.int (if r54 = (0 : Int32) then (-1 : Int32) else (-2 : Int32))), some (.int (if r202 = (0 : Int32) then (0 : Int32) else (1 : Int32))), some (.long r206), none, none, none]) (S := []) (σ := (H0 s r225.2)) rfl (XT.ii_eq_t hc226) ?_
                          exact QTri.mask [true, true, true, false, false, false, false, false, false, false, false, false, false, false, false, true, false, false, false] (tJ0_374 Ad W s r225.2 x2 r206 h hx0 hc)
                        · refine QTri.brF Ad W (t := 374) (f := 372) (L := [some (.ref 0), some (.ref 1), some (.int x2), none, none, none, some (.int x6), none, some (.int ((y41 &&& (7 : Int32)) % (6 : Int32))), some (.int ((XT.ushr y41 (3 : Int32)) &&& (3 : Int32))), some (.int r51), some (.int r53), some (.int ((XT.ushr y41 (16 : Int32)) &&& (7 : Int32))), some (.int (if r54 = (0 : Int32) then (-1 : Int32) else (-2 : Int32))), some (.int (if r202 = (0 : Int32) then (0 : Int32) else (1 : Int32))), some (.long r206), none, none, none]) (S := []) (σ := (H0 s r225.2)) rfl (XT.ii_eq_f hc226) ?_
                          refine QTri.steps Ad W 1 (st' := (373, [some (.ref 0), some (.ref 1), some (.int x2), none, none, none, some (.int x6), none, some (.int ((y41 &&& (7 : Int32)) % (6 : Int32))), some (.int ((XT.ushr y41 (3 : Int32)) &&& (3 : Int32))), some (.int r51), some (.int r53), some (.int ((XT.ushr y41 (16 : Int32)) &&& (7 : Int32))), some (.int (if r54 = (0 : Int32) then (-1 : Int32) else (-2 : Int32))), some (.int (if r202 = (0 : Int32) then (0 : Int32) else (1 : Int32))), some (.long r206), none, none, none], [.int (0 : Int32)], (H0 s r225.2))) rfl ?_
                          obtain rfl := Option.some.inj h
                          obtain ⟨rfl, rfl⟩ := hx0 ((0 : Int32), (H0 s r225.2)) rfl
                          exact QTri.retZ rfl rfl
                      · refine QTri.brF Ad W (t := 358) (f := 356) (L := [some (.ref 0), some (.ref 1), some (.int x2), none, none, none, some (.int x6), none, some (.int ((y41 &&& (7 : Int32)) % (6 : Int32))), some (.int ((XT.ushr y41 (3 : Int32)) &&& (3 : Int32))), some (.int r51), some (.int r53), some (.int ((XT.ushr y41 (16 : Int32)) &&& (7 : Int32))), some (.int (if r54 = (0 : Int32) then (-1 : Int32) else (-2 : Int32))), some (.int (if r202 = (0 : Int32) then (0 : Int32) else (1 : Int32))), some (.long r206), none, none, none]) (S := []) (σ := (H0 s r223.2)) rfl (XT.i0_eq_f hc224) ?_
                        refine QTri.steps Ad W 1 (st' := (357, [some (.ref 0), some (.ref 1), some (.int x2), none, none, none, some (.int x6), none, some (.int ((y41 &&& (7 : Int32)) % (6 : Int32))), some (.int ((XT.ushr y41 (3 : Int32)) &&& (3 : Int32))), some (.int r51), some (.int r53), some (.int ((XT.ushr y41 (16 : Int32)) &&& (7 : Int32))), some (.int (if r54 = (0 : Int32) then (-1 : Int32) else (-2 : Int32))), some (.int (if r202 = (0 : Int32) then (0 : Int32) else (1 : Int32))), some (.long r206), none, none, none], [.int (0 : Int32)], (H0 s r223.2))) rfl ?_
                        obtain rfl := Option.some.inj h
                        obtain ⟨rfl, rfl⟩ := hx0 ((0 : Int32), (H0 s r223.2)) rfl
                        exact QTri.retZ rfl rfl
          rcases Classical.em (r202 = (0 : Int32)) with hc205 | hc205
          · refine QTri.brT Ad W (t := 237) (f := 233) (L := [some (.ref 0), some (.ref 1), some (.int x2), none, none, none, some (.int x6), none, some (.int ((y41 &&& (7 : Int32)) % (6 : Int32))), some (.int ((XT.ushr y41 (3 : Int32)) &&& (3 : Int32))), some (.int r51), some (.int r53), some (.int ((XT.ushr y41 (16 : Int32)) &&& (7 : Int32))), some (.int (if r54 = (0 : Int32) then (-1 : Int32) else (-2 : Int32))), none, none, none, none, none]) (S := []) (σ := (H0 s p0)) rfl (XT.i0_eq_t hc205) ?_
            refine QTri.steps Ad W 1 (st' := (238, [some (.ref 0), some (.ref 1), some (.int x2), none, none, none, some (.int x6), none, some (.int ((y41 &&& (7 : Int32)) % (6 : Int32))), some (.int ((XT.ushr y41 (3 : Int32)) &&& (3 : Int32))), some (.int r51), some (.int r53), some (.int ((XT.ushr y41 (16 : Int32)) &&& (7 : Int32))), some (.int (if r54 = (0 : Int32) then (-1 : Int32) else (-2 : Int32))), none, none, none, none, none], [.int (0 : Int32)], (H0 s p0))) rfl ?_
            exact QTri.mask [true, true, true, false, false, false, true, false, true, true, true, true, true, true, false, false, false, false, false] (K204 _ (if_pos hc205).symm)
          · refine QTri.brF Ad W (t := 237) (f := 233) (L := [some (.ref 0), some (.ref 1), some (.int x2), none, none, none, some (.int x6), none, some (.int ((y41 &&& (7 : Int32)) % (6 : Int32))), some (.int ((XT.ushr y41 (3 : Int32)) &&& (3 : Int32))), some (.int r51), some (.int r53), some (.int ((XT.ushr y41 (16 : Int32)) &&& (7 : Int32))), some (.int (if r54 = (0 : Int32) then (-1 : Int32) else (-2 : Int32))), none, none, none, none, none]) (S := []) (σ := (H0 s p0)) rfl (XT.i0_eq_f hc205) ?_
            refine QTri.steps Ad W 2 (st' := (238, [some (.ref 0), some (.ref 1), some (.int x2), none, none, none, some (.int x6), none, some (.int ((y41 &&& (7 : Int32)) % (6 : Int32))), some (.int ((XT.ushr y41 (3 : Int32)) &&& (3 : Int32))), some (.int r51), some (.int r53), some (.int ((XT.ushr y41 (16 : Int32)) &&& (7 : Int32))), some (.int (if r54 = (0 : Int32) then (-1 : Int32) else (-2 : Int32))), none, none, none, none, none], [.int (1 : Int32)], (H0 s p0))) rfl ?_
            exact QTri.mask [true, true, true, false, false, false, true, false, true, true, true, true, true, true, false, false, false, false, false] (K204 _ (if_neg hc205).symm)
  rcases Classical.em (r54 = (0 : Int32)) with hc57 | hc57
  · refine QTri.brF Ad W (t := 201) (f := 198) (L := [some (.ref 0), some (.ref 1), some (.int x2), none, none, none, some (.int x6), some (.int y41), some (.int ((y41 &&& (7 : Int32)) % (6 : Int32))), some (.int ((XT.ushr y41 (3 : Int32)) &&& (3 : Int32))), some (.int r51), some (.int r53), some (.int ((XT.ushr y41 (16 : Int32)) &&& (7 : Int32))), some (.int (-2 : Int32)), none, none, none, none, none]) (S := []) (σ := (H0 s p0)) rfl (XT.i0_ne_f hc57) ?_
    refine QTri.steps Ad W 2 (st' := (201, [some (.ref 0), some (.ref 1), some (.int x2), none, none, none, some (.int x6), some (.int y41), some (.int ((y41 &&& (7 : Int32)) % (6 : Int32))), some (.int ((XT.ushr y41 (3 : Int32)) &&& (3 : Int32))), some (.int r51), some (.int r53), some (.int ((XT.ushr y41 (16 : Int32)) &&& (7 : Int32))), some (.int (-1 : Int32)), none, none, none, none, none], [], (H0 s p0))) rfl ?_
    exact QTri.mask [true, true, true, false, false, false, true, false, true, true, true, true, true, true, false, false, false, false, false] (K56 _ (if_pos hc57).symm)
  · refine QTri.brT Ad W (t := 201) (f := 198) (L := [some (.ref 0), some (.ref 1), some (.int x2), none, none, none, some (.int x6), some (.int y41), some (.int ((y41 &&& (7 : Int32)) % (6 : Int32))), some (.int ((XT.ushr y41 (3 : Int32)) &&& (3 : Int32))), some (.int r51), some (.int r53), some (.int ((XT.ushr y41 (16 : Int32)) &&& (7 : Int32))), some (.int (-2 : Int32)), none, none, none, none, none]) (S := []) (σ := (H0 s p0)) rfl (XT.i0_ne_t hc57) ?_
    exact QTri.mask [true, true, true, false, false, false, true, false, true, true, true, true, true, true, false, false, false, false, false] (K56 _ (if_neg hc57).symm)
def B0_14 (s : List Int32) (v : Int32 × Ob) : Option (((Int32 × QHeap)) ⊕ (Int32 × Ob)) :=
  (if (v.1 + (4 : Int32)) < (s.length.toInt32) then (aget s v.1).bind fun y9 => (aget s (v.1 + (1 : Int32))).bind fun y11 => (aget s (v.1 + (2 : Int32))).bind fun y13 => (aget s (v.1 + (3 : Int32))).bind fun y15 => (if ((y9 &&& (7 : Int32)) % (5 : Int32)) = (0 : Int32) then (F19 v.2).bind fun r40 => (J0_135 s r40.2 v.1 y15) else (if ((y9 &&& (7 : Int32)) % (5 : Int32)) = (1 : Int32) then (F25 v.2 ((y11 &&& (255 : Int32)) % (5 : Int32)) ((y13 &&& (255 : Int32)) % (9 : Int32))).bind fun r228 => (J0_135 s r228.2 v.1 y15) else (if ((y9 &&& (7 : Int32)) % (5 : Int32)) = (2 : Int32) then (F24 v.2 ((y11 &&& (255 : Int32)) % (5 : Int32)) ((y13 &&& (255 : Int32)) % (9 : Int32)) y15).bind fun r230 => (J0_135 s r230.2 v.1 y15) else (if ((y9 &&& (7 : Int32)) % (5 : Int32)) = (3 : Int32) then (F3 v.2 ((y11 &&& (255 : Int32)) % (5 : Int32))).bind fun r232 => (J0_135 s r232.2 v.1 y15) else (F31 v.2 ((y11 &&& (255 : Int32)) % (5 : Int32))).bind fun r233 => (J0_135 s r233.2 v.1 y15))))) else some (.inl ((1 : Int32), (H0 s v.2))))
theorem tB0_14 (Ad : QAd n0 ad) (W : QW Z a0) (s : List Int32) (v : Int32 × Ob) {r : ((Int32 × QHeap)) ⊕ (Int32 × Ob)} {u : Option Value} {τ : QHeap} (h : B0_14 s v = some r) (hx0 : ∀ x : Int32 × QHeap, r = .inl x → u = (some (Value.int x.1)) ∧ τ = x.2) (hc : ∀ x : Int32 × Ob, r = .inr x → QTri l Z n0 ad 0 (14, [some (.ref 0), some (.ref 1), some (.int x.1), none, none, none, none, none, none, none, none, none, none, none, none, none, none, none, none], [], (H0 s x.2)) u τ) : QTri l Z n0 ad 0 (14, [some (.ref 0), some (.ref 1), some (.int v.1), none, none, none, none, none, none, none, none, none, none, none, none, none, none, none, none], [], (H0 s v.2)) u τ := by
  unfold B0_14 at h
  refine QTri.steps Ad W 5 (st' := (19, [some (.ref 0), some (.ref 1), some (.int v.1), none, none, none, none, none, none, none, none, none, none, none, none, none, none, none, none], [.int (s.length.toInt32), .int (v.1 + (4 : Int32))], (H0 s v.2))) rfl ?_
  rcases qite h with ⟨hc8, h⟩ | ⟨hc8, h⟩
  · refine QTri.brF Ad W (t := 396) (f := 22) (L := [some (.ref 0), some (.ref 1), some (.int v.1), none, none, none, none, none, none, none, none, none, none, none, none, none, none, none, none]) (S := []) (σ := (H0 s v.2)) rfl (XT.ii_ge_f hc8) ?_
    refine QTri.steps Ad W 2 (st' := (24, [some (.ref 0), some (.ref 1), some (.int v.1), none, none, none, none, none, none, none, none, none, none, none, none, none, none, none, none], [.int v.1, .ref 0], (H0 s v.2))) rfl ?_
    obtain ⟨y9, hy9, h⟩ := Option.bind_eq_some_iff.mp h
    refine QTri.bnd Ad W (f := fun y9 => (25, [some (.ref 0), some (.ref 1), some (.int v.1), none, none, none, none, none, none, none, none, none, none, none, none, none, none, none, none], [.int y9], (H0 s v.2))) rfl hy9 ?_
    refine QTri.steps Ad W 9 (st' := (35, [some (.ref 0), some (.ref 1), some (.int v.1), some (.int ((y9 &&& (7 : Int32)) % (5 : Int32))), none, none, none, none, none, none, none, none, none, none, none, none, none, none, none], [.int (v.1 + (1 : Int32)), .ref 0], (H0 s v.2))) rfl ?_
    obtain ⟨y11, hy11, h⟩ := Option.bind_eq_some_iff.mp h
    refine QTri.bnd Ad W (f := fun y11 => (36, [some (.ref 0), some (.ref 1), some (.int v.1), some (.int ((y9 &&& (7 : Int32)) % (5 : Int32))), none, none, none, none, none, none, none, none, none, none, none, none, none, none, none], [.int y11], (H0 s v.2))) rfl hy11 ?_
    refine QTri.steps Ad W 9 (st' := (48, [some (.ref 0), some (.ref 1), some (.int v.1), some (.int ((y9 &&& (7 : Int32)) % (5 : Int32))), some (.int ((y11 &&& (255 : Int32)) % (5 : Int32))), none, none, none, none, none, none, none, none, none, none, none, none, none, none], [.int (v.1 + (2 : Int32)), .ref 0], (H0 s v.2))) rfl ?_
    obtain ⟨y13, hy13, h⟩ := Option.bind_eq_some_iff.mp h
    refine QTri.bnd Ad W (f := fun y13 => (49, [some (.ref 0), some (.ref 1), some (.int v.1), some (.int ((y9 &&& (7 : Int32)) % (5 : Int32))), some (.int ((y11 &&& (255 : Int32)) % (5 : Int32))), none, none, none, none, none, none, none, none, none, none, none, none, none, none], [.int y13], (H0 s v.2))) rfl hy13 ?_
    refine QTri.steps Ad W 9 (st' := (62, [some (.ref 0), some (.ref 1), some (.int v.1), some (.int ((y9 &&& (7 : Int32)) % (5 : Int32))), some (.int ((y11 &&& (255 : Int32)) % (5 : Int32))), some (.int ((y13 &&& (255 : Int32)) % (9 : Int32))), none, none, none, none, none, none, none, none, none, none, none, none, none], [.int (v.1 + (3 : Int32)), .ref 0], (H0 s v.2))) rfl ?_
    obtain ⟨y15, hy15, h⟩ := Option.bind_eq_some_iff.mp h
    refine QTri.bnd Ad W (f := fun y15 => (63, [some (.ref 0), some (.ref 1), some (.int v.1), some (.int ((y9 &&& (7 : Int32)) % (5 : Int32))), some (.int ((y11 &&& (255 : Int32)) % (5 : Int32))), some (.int ((y13 &&& (255 : Int32)) % (9 : Int32))), none, none, none, none, none, none, none, none, none, none, none, none, none], [.int y15], (H0 s v.2))) rfl hy15 ?_
    refine QTri.steps Ad W 2 (st' := (66, [some (.ref 0), some (.ref 1), some (.int v.1), some (.int ((y9 &&& (7 : Int32)) % (5 : Int32))), some (.int ((y11 &&& (255 : Int32)) % (5 : Int32))), some (.int ((y13 &&& (255 : Int32)) % (9 : Int32))), some (.int y15), none, none, none, none, none, none, none, none, none, none, none, none], [.int ((y9 &&& (7 : Int32)) % (5 : Int32))], (H0 s v.2))) rfl ?_
    rcases qite h with ⟨hc16, h⟩ | ⟨hc16, h⟩
    · refine QTri.brF Ad W (t := 77) (f := 69) (L := [some (.ref 0), some (.ref 1), some (.int v.1), some (.int ((y9 &&& (7 : Int32)) % (5 : Int32))), some (.int ((y11 &&& (255 : Int32)) % (5 : Int32))), some (.int ((y13 &&& (255 : Int32)) % (9 : Int32))), some (.int y15), none, none, none, none, none, none, none, none, none, none, none, none]) (S := []) (σ := (H0 s v.2)) rfl (XT.i0_ne_f hc16) ?_
      refine QTri.steps Ad W 1 (st' := (70, [some (.ref 0), some (.ref 1), some (.int v.1), some (.int ((y9 &&& (7 : Int32)) % (5 : Int32))), some (.int ((y11 &&& (255 : Int32)) % (5 : Int32))), some (.int ((y13 &&& (255 : Int32)) % (9 : Int32))), some (.int y15), none, none, none, none, none, none, none, none, none, none, none, none], [.ref 1], (H0 s v.2))) rfl ?_
      obtain ⟨r40, hr40, h⟩ := Option.bind_eq_some_iff.mp h
      refine QTri.callV W (a := 1) (as := []) (rest := []) (w := (some (.int r40.1))) (σ₁ := (H0 s r40.2)) rfl rfl rfl rfl rfl rfl rfl rfl (tF19 Ad W s v.2 hr40) ?_
      refine QTri.steps Ad W 2 (st' := (135, [some (.ref 0), some (.ref 1), some (.int v.1), some (.int ((y9 &&& (7 : Int32)) % (5 : Int32))), some (.int ((y11 &&& (255 : Int32)) % (5 : Int32))), some (.int ((y13 &&& (255 : Int32)) % (9 : Int32))), some (.int y15), none, none, none, none, none, none, none, none, none, none, none, none], [], (H0 s r40.2))) rfl ?_
      exact QTri.mask [true, true, true, false, false, false, true, false, false, false, false, false, false, false, false, false, false, false, false] (tJ0_135 Ad W s r40.2 v.1 y15 h hx0 hc)
    · refine QTri.brT Ad W (t := 77) (f := 69) (L := [some (.ref 0), some (.ref 1), some (.int v.1), some (.int ((y9 &&& (7 : Int32)) % (5 : Int32))), some (.int ((y11 &&& (255 : Int32)) % (5 : Int32))), some (.int ((y13 &&& (255 : Int32)) % (9 : Int32))), some (.int y15), none, none, none, none, none, none, none, none, none, none, none, none]) (S := []) (σ := (H0 s v.2)) rfl (XT.i0_ne_t hc16) ?_
      refine QTri.steps Ad W 2 (st' := (79, [some (.ref 0), some (.ref 1), some (.int v.1), some (.int ((y9 &&& (7 : Int32)) % (5 : Int32))), some (.int ((y11 &&& (255 : Int32)) % (5 : Int32))), some (.int ((y13 &&& (255 : Int32)) % (9 : Int32))), some (.int y15), none, none, none, none, none, none, none, none, none, none, none, none], [.int (1 : Int32), .int ((y9 &&& (7 : Int32)) % (5 : Int32))], (H0 s v.2))) rfl ?_
      rcases qite h with ⟨hc227, h⟩ | ⟨hc227, h⟩
      · refine QTri.brF Ad W (t := 94) (f := 82) (L := [some (.ref 0), some (.ref 1), some (.int v.1), some (.int ((y9 &&& (7 : Int32)) % (5 : Int32))), some (.int ((y11 &&& (255 : Int32)) % (5 : Int32))), some (.int ((y13 &&& (255 : Int32)) % (9 : Int32))), some (.int y15), none, none, none, none, none, none, none, none, none, none, none, none]) (S := []) (σ := (H0 s v.2)) rfl (XT.ii_ne_f hc227) ?_
        refine QTri.steps Ad W 3 (st' := (87, [some (.ref 0), some (.ref 1), some (.int v.1), some (.int ((y9 &&& (7 : Int32)) % (5 : Int32))), some (.int ((y11 &&& (255 : Int32)) % (5 : Int32))), some (.int ((y13 &&& (255 : Int32)) % (9 : Int32))), some (.int y15), none, none, none, none, none, none, none, none, none, none, none, none], [.int ((y13 &&& (255 : Int32)) % (9 : Int32)), .int ((y11 &&& (255 : Int32)) % (5 : Int32)), .ref 1], (H0 s v.2))) rfl ?_
        obtain ⟨r228, hr228, h⟩ := Option.bind_eq_some_iff.mp h
        refine QTri.callV W (a := 1) (as := [.int ((y11 &&& (255 : Int32)) % (5 : Int32)), .int ((y13 &&& (255 : Int32)) % (9 : Int32))]) (rest := []) (w := (some (.int r228.1))) (σ₁ := (H0 s r228.2)) rfl rfl rfl rfl rfl rfl rfl rfl (tF25 Ad W s v.2 ((y11 &&& (255 : Int32)) % (5 : Int32)) ((y13 &&& (255 : Int32)) % (9 : Int32)) hr228) ?_
        refine QTri.steps Ad W 2 (st' := (135, [some (.ref 0), some (.ref 1), some (.int v.1), some (.int ((y9 &&& (7 : Int32)) % (5 : Int32))), some (.int ((y11 &&& (255 : Int32)) % (5 : Int32))), some (.int ((y13 &&& (255 : Int32)) % (9 : Int32))), some (.int y15), none, none, none, none, none, none, none, none, none, none, none, none], [], (H0 s r228.2))) rfl ?_
        exact QTri.mask [true, true, true, false, false, false, true, false, false, false, false, false, false, false, false, false, false, false, false] (tJ0_135 Ad W s r228.2 v.1 y15 h hx0 hc)
      · refine QTri.brT Ad W (t := 94) (f := 82) (L := [some (.ref 0), some (.ref 1), some (.int v.1), some (.int ((y9 &&& (7 : Int32)) % (5 : Int32))), some (.int ((y11 &&& (255 : Int32)) % (5 : Int32))), some (.int ((y13 &&& (255 : Int32)) % (9 : Int32))), some (.int y15), none, none, none, none, none, none, none, none, none, none, none, none]) (S := []) (σ := (H0 s v.2)) rfl (XT.ii_ne_t hc227) ?_
        refine QTri.steps Ad W 2 (st' := (96, [some (.ref 0), some (.ref 1), some (.int v.1), some (.int ((y9 &&& (7 : Int32)) % (5 : Int32))), some (.int ((y11 &&& (255 : Int32)) % (5 : Int32))), some (.int ((y13 &&& (255 : Int32)) % (9 : Int32))), some (.int y15), none, none, none, none, none, none, none, none, none, none, none, none], [.int (2 : Int32), .int ((y9 &&& (7 : Int32)) % (5 : Int32))], (H0 s v.2))) rfl ?_
        rcases qite h with ⟨hc229, h⟩ | ⟨hc229, h⟩
        · refine QTri.brF Ad W (t := 113) (f := 99) (L := [some (.ref 0), some (.ref 1), some (.int v.1), some (.int ((y9 &&& (7 : Int32)) % (5 : Int32))), some (.int ((y11 &&& (255 : Int32)) % (5 : Int32))), some (.int ((y13 &&& (255 : Int32)) % (9 : Int32))), some (.int y15), none, none, none, none, none, none, none, none, none, none, none, none]) (S := []) (σ := (H0 s v.2)) rfl (XT.ii_ne_f hc229) ?_
          refine QTri.steps Ad W 4 (st' := (106, [some (.ref 0), some (.ref 1), some (.int v.1), some (.int ((y9 &&& (7 : Int32)) % (5 : Int32))), some (.int ((y11 &&& (255 : Int32)) % (5 : Int32))), some (.int ((y13 &&& (255 : Int32)) % (9 : Int32))), some (.int y15), none, none, none, none, none, none, none, none, none, none, none, none], [.int y15, .int ((y13 &&& (255 : Int32)) % (9 : Int32)), .int ((y11 &&& (255 : Int32)) % (5 : Int32)), .ref 1], (H0 s v.2))) rfl ?_
          obtain ⟨r230, hr230, h⟩ := Option.bind_eq_some_iff.mp h
          refine QTri.callV W (a := 1) (as := [.int ((y11 &&& (255 : Int32)) % (5 : Int32)), .int ((y13 &&& (255 : Int32)) % (9 : Int32)), .int y15]) (rest := []) (w := (some (.int r230.1))) (σ₁ := (H0 s r230.2)) rfl rfl rfl rfl rfl rfl rfl rfl (tF24 Ad W s v.2 ((y11 &&& (255 : Int32)) % (5 : Int32)) ((y13 &&& (255 : Int32)) % (9 : Int32)) y15 hr230) ?_
          refine QTri.steps Ad W 2 (st' := (135, [some (.ref 0), some (.ref 1), some (.int v.1), some (.int ((y9 &&& (7 : Int32)) % (5 : Int32))), some (.int ((y11 &&& (255 : Int32)) % (5 : Int32))), some (.int ((y13 &&& (255 : Int32)) % (9 : Int32))), some (.int y15), none, none, none, none, none, none, none, none, none, none, none, none], [], (H0 s r230.2))) rfl ?_
          exact QTri.mask [true, true, true, false, false, false, true, false, false, false, false, false, false, false, false, false, false, false, false] (tJ0_135 Ad W s r230.2 v.1 y15 h hx0 hc)
        · refine QTri.brT Ad W (t := 113) (f := 99) (L := [some (.ref 0), some (.ref 1), some (.int v.1), some (.int ((y9 &&& (7 : Int32)) % (5 : Int32))), some (.int ((y11 &&& (255 : Int32)) % (5 : Int32))), some (.int ((y13 &&& (255 : Int32)) % (9 : Int32))), some (.int y15), none, none, none, none, none, none, none, none, none, none, none, none]) (S := []) (σ := (H0 s v.2)) rfl (XT.ii_ne_t hc229) ?_
          refine QTri.steps Ad W 2 (st' := (115, [some (.ref 0), some (.ref 1), some (.int v.1), some (.int ((y9 &&& (7 : Int32)) % (5 : Int32))), some (.int ((y11 &&& (255 : Int32)) % (5 : Int32))), some (.int ((y13 &&& (255 : Int32)) % (9 : Int32))), some (.int y15), none, none, none, none, none, none, none, none, none, none, none, none], [.int (3 : Int32), .int ((y9 &&& (7 : Int32)) % (5 : Int32))], (H0 s v.2))) rfl ?_
          rcases qite h with ⟨hc231, h⟩ | ⟨hc231, h⟩
          · refine QTri.brF Ad W (t := 128) (f := 118) (L := [some (.ref 0), some (.ref 1), some (.int v.1), some (.int ((y9 &&& (7 : Int32)) % (5 : Int32))), some (.int ((y11 &&& (255 : Int32)) % (5 : Int32))), some (.int ((y13 &&& (255 : Int32)) % (9 : Int32))), some (.int y15), none, none, none, none, none, none, none, none, none, none, none, none]) (S := []) (σ := (H0 s v.2)) rfl (XT.ii_ne_f hc231) ?_
            refine QTri.steps Ad W 2 (st' := (121, [some (.ref 0), some (.ref 1), some (.int v.1), some (.int ((y9 &&& (7 : Int32)) % (5 : Int32))), some (.int ((y11 &&& (255 : Int32)) % (5 : Int32))), some (.int ((y13 &&& (255 : Int32)) % (9 : Int32))), some (.int y15), none, none, none, none, none, none, none, none, none, none, none, none], [.int ((y11 &&& (255 : Int32)) % (5 : Int32)), .ref 1], (H0 s v.2))) rfl ?_
            obtain ⟨r232, hr232, h⟩ := Option.bind_eq_some_iff.mp h
            refine QTri.callV W (a := 1) (as := [.int ((y11 &&& (255 : Int32)) % (5 : Int32))]) (rest := []) (w := (some (.int r232.1))) (σ₁ := (H0 s r232.2)) rfl rfl rfl rfl rfl rfl rfl rfl (tF3 Ad W s v.2 ((y11 &&& (255 : Int32)) % (5 : Int32)) hr232) ?_
            refine QTri.steps Ad W 2 (st' := (135, [some (.ref 0), some (.ref 1), some (.int v.1), some (.int ((y9 &&& (7 : Int32)) % (5 : Int32))), some (.int ((y11 &&& (255 : Int32)) % (5 : Int32))), some (.int ((y13 &&& (255 : Int32)) % (9 : Int32))), some (.int y15), none, none, none, none, none, none, none, none, none, none, none, none], [], (H0 s r232.2))) rfl ?_
            exact QTri.mask [true, true, true, false, false, false, true, false, false, false, false, false, false, false, false, false, false, false, false] (tJ0_135 Ad W s r232.2 v.1 y15 h hx0 hc)
          · refine QTri.brT Ad W (t := 128) (f := 118) (L := [some (.ref 0), some (.ref 1), some (.int v.1), some (.int ((y9 &&& (7 : Int32)) % (5 : Int32))), some (.int ((y11 &&& (255 : Int32)) % (5 : Int32))), some (.int ((y13 &&& (255 : Int32)) % (9 : Int32))), some (.int y15), none, none, none, none, none, none, none, none, none, none, none, none]) (S := []) (σ := (H0 s v.2)) rfl (XT.ii_ne_t hc231) ?_
            refine QTri.steps Ad W 2 (st' := (131, [some (.ref 0), some (.ref 1), some (.int v.1), some (.int ((y9 &&& (7 : Int32)) % (5 : Int32))), some (.int ((y11 &&& (255 : Int32)) % (5 : Int32))), some (.int ((y13 &&& (255 : Int32)) % (9 : Int32))), some (.int y15), none, none, none, none, none, none, none, none, none, none, none, none], [.int ((y11 &&& (255 : Int32)) % (5 : Int32)), .ref 1], (H0 s v.2))) rfl ?_
            obtain ⟨r233, hr233, h⟩ := Option.bind_eq_some_iff.mp h
            refine QTri.callV W (a := 1) (as := [.int ((y11 &&& (255 : Int32)) % (5 : Int32))]) (rest := []) (w := (some (.int r233.1))) (σ₁ := (H0 s r233.2)) rfl rfl rfl rfl rfl rfl rfl rfl (tF31 Ad W s v.2 ((y11 &&& (255 : Int32)) % (5 : Int32)) hr233) ?_
            refine QTri.steps Ad W 1 (st' := (135, [some (.ref 0), some (.ref 1), some (.int v.1), some (.int ((y9 &&& (7 : Int32)) % (5 : Int32))), some (.int ((y11 &&& (255 : Int32)) % (5 : Int32))), some (.int ((y13 &&& (255 : Int32)) % (9 : Int32))), some (.int y15), none, none, none, none, none, none, none, none, none, none, none, none], [], (H0 s r233.2))) rfl ?_
            exact QTri.mask [true, true, true, false, false, false, true, false, false, false, false, false, false, false, false, false, false, false, false] (tJ0_135 Ad W s r233.2 v.1 y15 h hx0 hc)
  · refine QTri.brT Ad W (t := 396) (f := 22) (L := [some (.ref 0), some (.ref 1), some (.int v.1), none, none, none, none, none, none, none, none, none, none, none, none, none, none, none, none]) (S := []) (σ := (H0 s v.2)) rfl (XT.ii_ge_t hc8) ?_
    refine QTri.steps Ad W 1 (st' := (397, [some (.ref 0), some (.ref 1), some (.int v.1), none, none, none, none, none, none, none, none, none, none, none, none, none, none, none, none], [.int (1 : Int32)], (H0 s v.2))) rfl ?_
    obtain rfl := Option.some.inj h
    obtain ⟨rfl, rfl⟩ := hx0 ((1 : Int32), (H0 s v.2)) rfl
    exact QTri.retZ rfl rfl
/-- the law -/
def F0 (s : List Int32) : Option (Int32 × QHeap) :=
  (F1 (8 : Int32) (4 : Int32) (4 : Int32)).bind fun r7 => (loopN (B0_14 s) qN ((0 : Int32), r7)).bind fun e234 => some e234
theorem tF0 (Ad : QAd n0 ad) (W : QW Z a0) (s : List Int32) {r : Int32 × QHeap} (h : F0 s = some r) : QTri l Z n0 ad 0 (0, qentry [.ref 0] (pMaxL 0), [], [.inr (.inl (.int, s))]) (some (Value.int r.1)) r.2 := by
  unfold F0 at h
  refine QTri.steps Ad W 1 (st' := (3, [some (.ref 0), none, none, none, none, none, none, none, none, none, none, none, none, none, none, none, none, none, none], [.ref 1], [.inr (.inl (.int, s)), .inl [.null, .null, .null, .null, .null, .null, .null, .int (f_keyCount ob0), .int (f_slotCount ob0), .int (f_window ob0), .int (f_commitCount ob0), .int (f_abortCount ob0), .int (f_lastConflict ob0)]])) rfl ?_
  refine QTri.steps Ad W 4 (st' := (8, [some (.ref 0), none, none, none, none, none, none, none, none, none, none, none, none, none, none, none, none, none, none], [.int (4 : Int32), .int (4 : Int32), .int (8 : Int32), .ref 1, .ref 1], [.inr (.inl (.int, s)), .inl [.null, .null, .null, .null, .null, .null, .null, .int (f_keyCount ob0), .int (f_slotCount ob0), .int (f_window ob0), .int (f_commitCount ob0), .int (f_abortCount ob0), .int (f_lastConflict ob0)]])) rfl ?_
  obtain ⟨r7, hr7, h⟩ := Option.bind_eq_some_iff.mp h
  refine QTri.callI W (a := 1) (as := [.int (8 : Int32), .int (4 : Int32), .int (4 : Int32)]) (rest := [.ref 1]) (σ₁ := (H0 s r7)) rfl rfl rfl rfl rfl rfl (tF1 Ad W s (8 : Int32) (4 : Int32) (4 : Int32) hr7) ?_
  refine QTri.steps Ad W 3 (st' := (14, [some (.ref 0), some (.ref 1), some (.int (0 : Int32)), none, none, none, none, none, none, none, none, none, none, none, none, none, none, none, none], [], (H0 s r7))) rfl ?_
  obtain ⟨e234, he234, h⟩ := Option.bind_eq_some_iff.mp h
  refine QTri.mask [true, true, true, false, false, false, false, false, false, false, false, false, false, false, false, false, false, false, false] (loopN_tri (B := B0_14 s) (T := fun lv235 => QTri l Z n0 ad 0 (14, [some (.ref 0), some (.ref 1), some (.int lv235.1), none, none, none, none, none, none, none, none, none, none, none, none, none, none, none, none], [], (H0 s lv235.2)) (some (Value.int r.1)) r.2) (KE := fun e234a => (some (Value.int r.1)) = (some (Value.int e234a.1)) ∧ r.2 = e234a.2) (fun lv235 r hB hE hC => tB0_14 Ad W s lv235 hB (fun x q => hE _ q) (fun x q => hC x q)) qN ((0 : Int32), r7) e234 he234 ?_)
  obtain rfl := Option.some.inj h
  exact ⟨rfl, rfl⟩
end Walks
theorem script_ok {s : State} {w : Value} (hfit : Fit s) (h1 : (Jvm.Cond.arrayOf (Jvm.Term.arg 0) Jvm.ClassFile.FieldType.int).value #[w] s none s [] = some true) (h2 : (Jvm.Cond.le (Jvm.Term.length (Jvm.Term.arg 0)) (Jvm.Term.int 260)).value #[w] s none s [] = some true) :
    ∃ (a : Addr) (c : Cell) (xs : List Int32), w = .ref a ∧ Arr s s.heap a c .int ∧ c.slots = (xs.map Value.int).toArray ∧ xs.length ≤ 260 := by
  obtain ⟨a, ha⟩ := arr_v h1
  obtain ⟨c, A⟩ := Arr.start ha h1
  have hw : w = .ref a := by simpa [Term.eval] using ha
  subst hw
  have hel : ∀ i, i < c.slots.size → ∃ x, c.slots[i]? = some (.int x) := fun i hi => by
    have q := hfit A.1 hi
    obtain ⟨hs, k, hk, comp, hkind⟩ := A.2.1
    have e : s.slotType? c.cls c.vm i = some .int := by
      cases hq : c.vm <;> first | exact absurd hq (hs _) | simp [State.slotType?, hk, hkind]
    have q2 : fits .int c.slots[i] = true := by simpa [State.fitsSlot, e] using q
    obtain ⟨x, hx⟩ := fit_I q2 (Or.inl rfl)
    exact ⟨x, by rw [Array.getElem?_eq_getElem hi, hx]⟩
  refine ⟨a, c, c.slots.toList.map (fun v => match v with | .int x => x | _ => 0), rfl, A, ?_, ?_⟩
  · apply Array.ext'
    rw [List.map_map]
    have : c.slots.toList.map (Value.int ∘ fun v => match v with | .int x => x | _ => 0) = c.slots.toList := by
      conv => rhs; rw [← List.map_id c.slots.toList]
      refine List.map_congr_left fun v hv => ?_
      obtain ⟨i, hi⟩ := List.mem_iff_getElem?.mp hv
      rw [Array.getElem?_toList] at hi
      obtain ⟨x, hx⟩ := hel i (Array.getElem?_eq_some_iff.mp hi).1
      rw [hi] at hx
      cases hx
      rfl
    exact this.symm
  · have hl := A.fin (Vm.Alike.refl _)
    simp only [List.length_map, Array.length_toList]
    simp only [Cond.value, Term.eval] at h2
    simp [hl] at h2
    by_cases hs : c.slots.size < 2147483648
    · rw [if_pos hs] at h2
      have h3 : c.slots.size.toInt32 ≤ 260 := by simpa using h2
      rw [Int32.le_iff_toInt_le] at h3
      have h4 : (c.slots.size.toInt32).toInt = c.slots.size := Int32.toInt_ofNat_of_lt (by omega)
      rw [h4] at h3
      have h5 : (260 : Int32).toInt = 260 := rfl
      rw [h5] at h3
      omega
    · rw [if_neg hs] at h2
      simp at h2
/-! ## ints, plainly -/
theorem i_lt {x y : Int32} : x < y ↔ x.toInt < y.toInt := Int32.lt_iff_toInt_lt
theorem i_eq {x y : Int32} : x = y ↔ x.toInt = y.toInt := Int32.toInt_inj.symm
theorem i_lo (x : Int32) : -2147483648 ≤ x.toInt := Int32.le_toInt x
theorem i_hi (x : Int32) : x.toInt < 2147483648 := Int32.toInt_lt x
theorem i_add {x y : Int32} (h1 : -2147483648 ≤ x.toInt + y.toInt) (h2 : x.toInt + y.toInt < 2147483648) : (x + y).toInt = x.toInt + y.toInt := XT.add32 ⟨h1, by omega⟩
theorem i_sub {x y : Int32} (h1 : -2147483648 ≤ x.toInt - y.toInt) (h2 : x.toInt - y.toInt < 2147483648) : (x - y).toInt = x.toInt - y.toInt := XT.sub32 ⟨h1, by omega⟩
theorem i_mul {x y : Int32} (h1 : -2147483648 ≤ x.toInt * y.toInt) (h2 : x.toInt * y.toInt < 2147483648) : (x * y).toInt = x.toInt * y.toInt := XT.mul32 ⟨h1, by omega⟩
theorem i_nat (x : Int32) : x.toNatClampNeg = x.toInt.toNat := rfl
theorem aget_at {α : Type} {xs : List α} {j : Int32} {n : Nat} (hj : j.toInt = n) (hn : n < xs.length) : aget xs j = some xs[n] := by
  have h0 : ¬ j < 0 := by rw [i_lt]; show ¬ j.toInt < 0; omega
  unfold aget
  rw [if_neg h0, i_nat, hj]
  simp [hn]
theorem aget_rep {α : Type} {m : Nat} {a : α} {j : Int32} (h0 : 0 ≤ j.toInt) (h1 : j.toInt < m) : aget (List.replicate m a) j = some a := by
  rw [aget_at (n := j.toInt.toNat) (by omega) (by rw [List.length_replicate]; omega)]
  simp
theorem aset_at {α : Type} {xs : List α} {j : Int32} {n : Nat} {v : α} (hj : j.toInt = n) (hn : n < xs.length) : aset xs j v = some (xs.set n v) := by
  have h0 : ¬ j < 0 := by rw [i_lt]; show ¬ j.toInt < 0; omega
  unfold aset
  have e : j.toNatClampNeg = n := by rw [i_nat, hj]; simp
  rw [if_neg h0, e, if_pos hn]
theorem rep_set {α : Type} (m k : Nat) (a : α) : (List.replicate m a).set k a = List.replicate m a := by
  apply List.ext_getElem (by simp)
  intro i h1 h2
  rw [List.getElem_set]
  split <;> simp
theorem small_cases {x : Int32} (h0 : 0 ≤ x.toInt) {n : Nat} (h1 : x.toInt < n) {P : Int32 → Prop} (h : ∀ m : Nat, m < n → P (Int32.ofInt m)) : P x := by
  have e : Int32.ofInt (x.toInt.toNat : Nat) = x := by
    rw [Int.toNat_of_nonneg h0, Int32.ofInt_toInt]
  rw [← e]
  exact h _ (by omega)
theorem bit_ne {x : Int32} (h0 : 0 ≤ x.toInt) (h1 : x.toInt < 32) : ¬ (((1 : Int32) <<< (x &&& 31)) &&& ((1 : Int32) <<< (x &&& 31))) = 0 :=
  small_cases (P := fun x => ¬ (((1 : Int32) <<< (x &&& 31)) &&& ((1 : Int32) <<< (x &&& 31))) = 0) h0 (n := 32) h1 (by decide)
/-! ## a plain run that succeeds, and what it gives -/
def okP {α : Type} (m : Option α) (P : α → Prop) : Prop := ∃ a, m = some a ∧ P a
theorem okP.some {α : Type} {a : α} {P : α → Prop} (h : P a) : okP (some a) P := ⟨a, rfl, h⟩
theorem okP.bind {α β : Type} {m : Option α} {f : α → Option β} {P : β → Prop} (h : okP m fun a => okP (f a) P) : okP (m.bind f) P := by
  obtain ⟨a, e, b, e2, h2⟩ := h
  exact ⟨b, by rw [e]; exact e2, h2⟩
theorem okP.ite {α : Type} {c : Prop} [Decidable c] {a b : Option α} {P : α → Prop} (h1 : c → okP a P) (h2 : ¬ c → okP b P) : okP (if c then a else b) P := by
  by_cases h : c
  · rw [if_pos h]; exact h1 h
  · rw [if_neg h]; exact h2 h
theorem okP.mono {α : Type} {m : Option α} {P Q : α → Prop} (h : okP m P) (k : ∀ a, P a → Q a) : okP m Q := by
  obtain ⟨a, e, h⟩ := h
  exact ⟨a, e, k a h⟩
theorem okP.of {α : Type} {m : Option α} {a : α} {P : α → Prop} (e : m = Option.some a) (h : P a) : okP m P := ⟨a, e, h⟩
theorem okP.aget {α : Type} {xs : List α} {j : Int32} {P : α → Prop} (h0 : 0 ≤ j.toInt) (h1 : j.toInt < xs.length) (k : ∀ v, xs[j.toInt.toNat]? = Option.some v → P v) : okP (aget xs j) P :=
  ⟨_, aget_at (n := j.toInt.toNat) (by omega) (by omega), k _ (List.getElem?_eq_getElem _)⟩
theorem okP.aset {α : Type} {xs : List α} {j : Int32} {v : α} {P : List α → Prop} (h0 : 0 ≤ j.toInt) (h1 : j.toInt < xs.length) (k : P (xs.set j.toInt.toNat v)) : okP (aset xs j v) P :=
  ⟨_, aset_at (n := j.toInt.toNat) (by omega) (by omega), k⟩
theorem okP.loop {V E : Type} {B : V → Option (E ⊕ V)} {P : E → Prop} {n : Nat} {v : V} (I : V → Prop) (μ : V → Nat) (hv : I v) (hm : μ v < n) (hB : ∀ v, I v → okP (B v) (fun r => Sum.elim P (fun v' => I v' ∧ μ v' < μ v) r)) : okP (loopN B n v) P := by
  refine loopN_inv I P μ ?_ n v hv hm
  intro v hv
  obtain ⟨r, e, h⟩ := hB v hv
  cases r with
  | inl x => exact Or.inl ⟨x, e, h⟩
  | inr x => exact Or.inr ⟨x, e, h⟩
theorem len_i {n : Nat} (h : n ≤ 1000) : (n.toInt32).toInt = n := by
  have e : n.toInt32 = Int32.ofInt n := rfl
  rw [e, Int32.toInt_ofInt_of_le (by show _ ≤ (n : Int); omega) (by show (n : Int) < _; omega)]
theorem and1 (x : Int32) : x &&& 1 = 0 ∨ x &&& 1 = 1 := by
  have e : (x &&& 1).toBitVec = x.toBitVec &&& 1#32 := rfl
  have h := BitVec.and_one_eq_setWidth_ofBool_getLsbD (x := x.toBitVec)
  cases g : x.toBitVec.getLsbD 0
  · left; apply Int32.toBitVec_inj.1; rw [e, h, g]; rfl
  · right; apply Int32.toBitVec_inj.1; rw [e, h, g]; rfl
theorem okP.not {α : Type} {m : Option α} {a : α} {P : α → Prop} (h : okP m P) (e : m = Option.some a) : P a := by
  obtain ⟨b, e2, h⟩ := h
  rw [e] at e2
  exact (Option.some.inj e2) ▸ h
theorem and_rng {x m : Int32} (hm : 0 ≤ m.toInt) : 0 ≤ (x &&& m).toInt ∧ (x &&& m).toInt ≤ m.toInt := by
  have e : (x &&& m).toBitVec.toNat = x.toBitVec.toNat &&& m.toBitVec.toNat := BitVec.toNat_and ..
  have l : (x &&& m).toBitVec.toNat ≤ m.toBitVec.toNat := by rw [e]; exact Nat.and_le_right
  have c1 : m.toInt = if 2 * m.toBitVec.toNat < 2 ^ 32 then (m.toBitVec.toNat : Int) else m.toBitVec.toNat - (2 ^ 32 : Nat) := BitVec.toInt_eq_toNat_cond m.toBitVec
  have c2 : (x &&& m).toInt = if 2 * (x &&& m).toBitVec.toNat < 2 ^ 32 then ((x &&& m).toBitVec.toNat : Int) else (x &&& m).toBitVec.toNat - (2 ^ 32 : Nat) := BitVec.toInt_eq_toNat_cond (x &&& m).toBitVec
  have b : m.toBitVec.toNat < 2 ^ 32 := m.toBitVec.isLt
  by_cases h : 2 * m.toBitVec.toNat < 2 ^ 32
  · rw [if_pos h] at c1
    rw [if_pos (by omega)] at c2
    omega
  · rw [if_neg h] at c1
    omega
theorem mod_rng {x m : Int32} (hx : 0 ≤ x.toInt) (hm : 0 < m.toInt) : 0 ≤ (x % m).toInt ∧ (x % m).toInt < m.toInt := by
  rw [Int32.toInt_mod, Int.tmod_eq_emod_of_nonneg hx]
  exact ⟨Int.emod_nonneg _ (by omega), Int.emod_lt_of_pos _ hm⟩
/-- the law's own room, over the script's array -/
def sFit (s : List Int32) (τ : QHeap) : Prop := τ.length - List.length ([Sum.inr (Sum.inl (FieldType.int, s))] : QHeap) ≤ room_1.cells ∧ qhs τ - qhs [Sum.inr (Sum.inl (FieldType.int, s))] ≤ room_1.slots
def Sh (K n : Int32) (o : Ob) : Prop := (f_value o).length = 32 ∧ (f_version o).length = 32 ∧ (f_active o).length = 8 ∧ (f_start o).length = 8 ∧ (f_readSet o).length = 8 ∧ (f_writeSet o).length = 8 ∧ (f_buffered o).length = 256 ∧ f_keyCount o = K ∧ f_slotCount o = n
theorem Sh_buf {K n : Int32} {o : Ob} (h : Sh K n o) {x : List Int32} (hx : x.length = 256) : Sh K n (s_buffered o x) := ⟨h.1, h.2.1, h.2.2.1, h.2.2.2.1, h.2.2.2.2.1, h.2.2.2.2.2.1, hx, h.2.2.2.2.2.2.2⟩
theorem Sh_wr {K n : Int32} {o : Ob} (h : Sh K n o) {x : List Int32} (hx : x.length = 8) : Sh K n (s_writeSet o x) := ⟨h.1, h.2.1, h.2.2.1, h.2.2.2.1, h.2.2.2.2.1, hx, h.2.2.2.2.2.2.1, h.2.2.2.2.2.2.2⟩
theorem Sh_rd {K n : Int32} {o : Ob} (h : Sh K n o) {x : List Int32} (hx : x.length = 8) : Sh K n (s_readSet o x) := ⟨h.1, h.2.1, h.2.2.1, h.2.2.2.1, hx, h.2.2.2.2.2.1, h.2.2.2.2.2.2.1, h.2.2.2.2.2.2.2⟩
theorem Sh_st {K n : Int32} {o : Ob} (h : Sh K n o) {x : List Int32} (hx : x.length = 8) : Sh K n (s_start o x) := ⟨h.1, h.2.1, h.2.2.1, hx, h.2.2.2.2.1, h.2.2.2.2.2.1, h.2.2.2.2.2.2.1, h.2.2.2.2.2.2.2⟩
theorem Sh_ac {K n : Int32} {o : Ob} (h : Sh K n o) {x : List Int32} (hx : x.length = 8) : Sh K n (s_active o x) := ⟨h.1, h.2.1, hx, h.2.2.2.1, h.2.2.2.2.1, h.2.2.2.2.2.1, h.2.2.2.2.2.2.1, h.2.2.2.2.2.2.2⟩
theorem Sh_ve {K n : Int32} {o : Ob} (h : Sh K n o) {x : List Int32} (hx : x.length = 32) : Sh K n (s_version o x) := ⟨h.1, hx, h.2.2.1, h.2.2.2.1, h.2.2.2.2.1, h.2.2.2.2.2.1, h.2.2.2.2.2.2.1, h.2.2.2.2.2.2.2⟩
theorem Sh_va {K n : Int32} {o : Ob} (h : Sh K n o) {x : List Int32} (hx : x.length = 32) : Sh K n (s_value o x) := ⟨hx, h.2.1, h.2.2.1, h.2.2.2.1, h.2.2.2.2.1, h.2.2.2.2.2.1, h.2.2.2.2.2.2.1, h.2.2.2.2.2.2.2⟩
theorem Sh_cc {K n : Int32} {o : Ob} (h : Sh K n o) (x : Int32) : Sh K n (s_commitCount o x) := h
theorem Sh_ab {K n : Int32} {o : Ob} (h : Sh K n o) (x : Int32) : Sh K n (s_abortCount o x) := h
theorem Sh_lc {K n : Int32} {o : Ob} (h : Sh K n o) (x : Int32) : Sh K n (s_lastConflict o x) := h
/-- the checks of a transaction's and a key's number -/
theorem vtx {K n : Int32} {o : Ob} (h : Sh K n o) (hn : n.toInt ≤ 8) (x : Int32) : okP (F4 o x) (fun r => r = 0 ∨ (r ≠ 0 ∧ 0 ≤ x.toInt ∧ x.toInt < n.toInt)) := by
  obtain ⟨h1, h2, h3, h4, h5, h6, h7, h8, h9⟩ := h
  unfold F4
  rw [h9]
  repeat' with_reducible (first | apply okP.bind | apply okP.some | (apply okP.ite <;> intro _) | refine okP.aget ?_ ?_ (fun v hv => ?_) | refine okP.aset ?_ ?_ ?_)
  · exact Or.inl rfl
  · (simp only [i_lt, Int32.reduceToInt] at *; omega)
  · (simp only [i_lt, Int32.reduceToInt] at *; omega)
  · by_cases e : v &&& 1 = 0
    · exact Or.inl e
    · exact Or.inr ⟨e, by (simp only [i_lt, Int32.reduceToInt] at *; omega), by (simp only [i_lt, Int32.reduceToInt] at *; omega)⟩
  · exact Or.inl rfl
  · exact Or.inl rfl
theorem vkey {K n : Int32} {o : Ob} (h : Sh K n o) (hK : K.toInt ≤ 32) (x : Int32) : okP (F13 o x) (fun r => (r = 0 ∧ ¬ (0 ≤ x.toInt ∧ x.toInt < K.toInt)) ∨ (r ≠ 0 ∧ 0 ≤ x.toInt ∧ x.toInt < K.toInt)) := by
  obtain ⟨h1, h2, h3, h4, h5, h6, h7, h8, h9⟩ := h
  unfold F13
  rw [h8]
  repeat' with_reducible (first | apply okP.bind | apply okP.some | (apply okP.ite <;> intro _) | refine okP.aget ?_ ?_ (fun v hv => ?_) | refine okP.aset ?_ ?_ ?_)
  · exact Or.inl ⟨rfl, by (simp only [i_lt, Int32.reduceToInt] at *; omega)⟩
  · exact Or.inr ⟨by decide, by (simp only [i_lt, Int32.reduceToInt] at *; omega)⟩
  · exact Or.inl ⟨rfl, by (simp only [i_lt, Int32.reduceToInt] at *; omega)⟩
  · exact Or.inl ⟨rfl, by (simp only [i_lt, Int32.reduceToInt] at *; omega)⟩

def clr (o : Ob) (x : Nat) (b : List Int32) : Ob := s_buffered (s_writeSet (s_readSet (s_start (s_active o ((f_active o).set x 0)) ((f_start o).set x 0)) ((f_readSet o).set x 0)) ((f_writeSet o).set x 0)) b
theorem Sh_clr {K n : Int32} {o : Ob} (h : Sh K n o) (x : Nat) {b : List Int32} (hb : b.length = 256) : Sh K n (clr o x b) := by
  obtain ⟨h1, h2, h3, h4, h5, h6, h7, h8, h9⟩ := h
  exact ⟨h1, h2, by show (List.set _ _ _).length = _; rw [List.length_set]; exact h3, by show (List.set _ _ _).length = _; rw [List.length_set]; exact h4, by show (List.set _ _ _).length = _; rw [List.length_set]; exact h5, by show (List.set _ _ _).length = _; rw [List.length_set]; exact h6, hb, h8, h9⟩
theorem clear_ok {K n : Int32} {o : Ob} (h : Sh K n o) {x : Int32} (hx : 0 ≤ x.toInt) (hx8 : x.toInt < 8) : okP (F22 o x) (fun r => ∃ b : List Int32, b.length = 256 ∧ r = clr o x.toInt.toNat b) := by
  obtain ⟨h1, h2, h3, h4, h5, h6, h7, h8, h9⟩ := h
  unfold F22
  have e32 : (x * 32).toInt = x.toInt * 32 := i_mul (x := x) (y := 32) (by show _ ≤ x.toInt * 32; omega) (by show x.toInt * 32 < _; omega)
  repeat' with_reducible (first | apply okP.bind | apply okP.some | (apply okP.ite <;> intro _) | refine okP.aget ?_ ?_ (fun v hv => ?_) | refine okP.aset ?_ ?_ ?_)
  · exact hx
  · omega
  · exact hx
  · omega
  · exact hx
  · omega
  · exact hx
  · omega
  obtain ⟨p, hp⟩ : ∃ p, p = s_writeSet (s_readSet (s_start (s_active o ((f_active o).set x.toInt.toNat 0)) ((f_start o).set x.toInt.toNat 0)) ((f_readSet o).set x.toInt.toNat 0)) ((f_writeSet o).set x.toInt.toNat 0) := ⟨_, rfl⟩
  rw [← hp]
  refine okP.loop (fun w => 0 ≤ w.1.toInt ∧ w.1.toInt ≤ 32 ∧ ∃ b : List Int32, b.length = 256 ∧ w.2 = s_buffered p b) (fun w => (32 - w.1.toInt).toNat) ⟨by show (0 : Int) ≤ 0; decide, by show (0 : Int) ≤ 32; decide, f_buffered o, h7, by rw [hp]; rfl⟩ (by show (32 - (0 : Int)).toNat < 4000; decide) ?_
  intro w ⟨a1, a2, b, a3, a4⟩
  unfold B22_35
  rw [a4]
  have e1 : (1 : Int32).toInt = 1 := rfl
  apply okP.ite
  · intro c
    have c' : w.1.toInt < 32 := by rw [i_lt] at c; exact c
    have ej : (x * 32 + w.1).toInt = x.toInt * 32 + w.1.toInt := by rw [i_add (by omega) (by omega), e32]
    have e2 : (w.1 + 1).toInt = w.1.toInt + 1 := by rw [i_add (by omega) (by omega), e1]
    apply okP.bind
    refine okP.aset (by omega) (by show _ < (b.length : Int); omega) ?_
    apply okP.some
    refine ⟨⟨?_, ?_, (b.set (x * 32 + w.1).toInt.toNat 0), by rw [List.length_set]; exact a3, rfl⟩, ?_⟩
    · show 0 ≤ (w.1 + 1).toInt; omega
    · show (w.1 + 1).toInt ≤ 32; omega
    · show (32 - (w.1 + 1).toInt).toNat < (32 - w.1.toInt).toNat; omega
  · intro c
    apply okP.some
    show okP (some (s_buffered p b)) _
    apply okP.some
    exact ⟨b, a3, by rw [hp]; rfl⟩
theorem bufi {x y : Int32} (hx : 0 ≤ x.toInt) (hx8 : x.toInt < 8) (hy : 0 ≤ y.toInt) (hy32 : y.toInt < 32) : (x * 32 + y).toInt = x.toInt * 32 + y.toInt := by
  have e32 : (x * 32).toInt = x.toInt * 32 := i_mul (x := x) (y := 32) (by show _ ≤ x.toInt * 32; omega) (by show x.toInt * 32 < _; omega)
  rw [i_add (by omega) (by omega), e32]
theorem inc1 {x : Int32} (h : x.toInt < 2147483647) : (x + 1).toInt = x.toInt + 1 := by
  have := i_lo x
  have e1 : (1 : Int32).toInt = 1 := rfl
  rw [i_add (by omega) (by omega), e1]
theorem free_ok {K n : Int32} {o : Ob} (h : Sh K n o) (hn0 : 0 ≤ n.toInt) (hn : n.toInt ≤ 8) : okP (F20 o) (fun r => (r = -1 ∧ ∀ i : Nat, i < n.toInt.toNat → (f_active o)[i]? ≠ some 0) ∨ (0 ≤ r.toInt ∧ r.toInt < n.toInt ∧ (f_active o)[r.toInt.toNat]? = some 0)) := by
  obtain ⟨h1, h2, h3, h4, h5, h6, h7, h8, h9⟩ := h
  unfold F20
  apply okP.bind
  refine okP.loop (fun w => 0 ≤ w.toInt ∧ w.toInt ≤ n.toInt ∧ ∀ i : Nat, i < w.toInt.toNat → (f_active o)[i]? ≠ some 0) (fun w => (8 - w.toInt).toNat) ⟨by show (0 : Int) ≤ 0; decide, hn0, fun i hi => absurd hi (Nat.not_lt_zero _)⟩ (by show (8 - (0 : Int)).toNat < 4000; decide) ?_
  intro w ⟨a1, a2, a3⟩
  unfold B20_2
  rw [h9]
  repeat' with_reducible (first | apply okP.bind | apply okP.some | (apply okP.ite <;> intro _) | refine okP.aget ?_ ?_ (fun v hv => ?_) | refine okP.aset ?_ ?_ ?_)
  · exact a1
  · (simp only [i_lt, Int32.reduceToInt] at *; omega)
  · rename_i c
    have : v = 0 := c
    subst this
    exact okP.some (Or.inr ⟨a1, by (simp only [i_lt, Int32.reduceToInt] at *; omega), hv⟩)
  · rename_i c1 c2 c3
    have e2 : (w + 1).toInt = w.toInt + 1 := inc1 (by rw [i_lt] at c2; have : (8 : Int32).toInt = 8 := rfl; omega)
    rw [i_lt] at c1 c2
    have e8 : (8 : Int32).toInt = 8 := rfl
    refine ⟨⟨by omega, by omega, ?_⟩, by omega⟩
    intro i hi
    rw [e2] at hi
    by_cases hj : i < w.toInt.toNat
    · exact a3 i hj
    · have : i = w.toInt.toNat := by omega
      rw [this, hv]
      intro q
      exact c3 (Option.some.inj q)
  · rename_i c1 c2
    exfalso
    rw [i_lt] at c1 c2
    have e8 : (8 : Int32).toInt = 8 := rfl
    omega
  · rename_i c1
    apply okP.some
    refine Or.inl ⟨rfl, fun i hi => a3 i ?_⟩
    rw [i_lt] at c1
    omega
/-- what opening a slot leaves -/
def opn (o : Ob) (x : Nat) (b : List Int32) : Ob := s_start (s_active (clr o x b) ((f_active (clr o x b)).set x 1)) ((f_start (clr o x b)).set x (f_commitCount (clr o x b)))
theorem Sh_opn {K n : Int32} {o : Ob} (h : Sh K n o) (x : Nat) {b : List Int32} (hb : b.length = 256) : Sh K n (opn o x b) := by
  have g := Sh_clr h x hb
  unfold opn
  obtain ⟨q, hq⟩ : ∃ q, q = clr o x b := ⟨_, rfl⟩
  rw [← hq] at g ⊢
  exact Sh_st (Sh_ac g (by rw [List.length_set]; exact g.2.2.1)) (by rw [List.length_set]; exact g.2.2.2.1)
theorem begin_ok {K n : Int32} {o : Ob} (h : Sh K n o) (hn0 : 0 ≤ n.toInt) (hn : n.toInt ≤ 8) : okP (F19 o) (fun r => (r = (-5, o) ∧ ∀ i : Nat, i < n.toInt.toNat → (f_active o)[i]? ≠ some 0) ∨ (0 ≤ r.1.toInt ∧ r.1.toInt < n.toInt ∧ (f_active o)[r.1.toInt.toNat]? = some 0 ∧ ∃ b : List Int32, b.length = 256 ∧ r.2 = opn o r.1.toInt.toNat b)) := by
  unfold F19
  apply okP.bind
  refine okP.mono (free_ok h hn0 hn) ?_
  rintro r (⟨rfl, q⟩ | ⟨q1, q2, q3⟩)
  · rw [if_pos (by decide)]
    apply okP.some
    exact Or.inl ⟨rfl, q⟩
  · rw [if_neg (by rw [i_lt]; show ¬ r.toInt < 0; omega)]
    apply okP.bind
    unfold F21
    apply okP.bind
    refine okP.mono (clear_ok h q1 (by omega)) ?_
    rintro _ ⟨b, hb, rfl⟩
    have g := Sh_clr h r.toInt.toNat hb
    repeat' with_reducible (first | apply okP.bind | apply okP.some | (apply okP.ite <;> intro _) | refine okP.aget ?_ ?_ (fun v hv => ?_) | refine okP.aset ?_ ?_ ?_)
    · exact q1
    · rw [g.2.2.1]; omega
    · exact q1
    · rw [g.2.2.2.1]; omega
    · exact Or.inr ⟨q1, q2, q3, b, hb, rfl⟩
theorem read_ok {K n : Int32} {o : Ob} (h : Sh K n o) (hn : n.toInt ≤ 8) (hK : K.toInt ≤ 32) (x y : Int32) : okP (F25 o x y) (fun r => r.2 = o ∨ (0 ≤ x.toInt ∧ x.toInt < n.toInt ∧ ∃ w, r.2 = s_readSet o ((f_readSet o).set x.toInt.toNat w))) := by
  unfold F25
  apply okP.bind
  refine okP.mono (vtx h hn x) ?_
  rintro r (rfl | ⟨q0, q1, q2⟩)
  · rw [if_pos rfl]; exact okP.some (Or.inl rfl)
  rw [if_neg q0]
  apply okP.bind
  refine okP.mono (vkey h hK y) ?_
  rintro r' (⟨rfl, _⟩ | ⟨q3, q4, q5⟩)
  · rw [if_pos rfl]; exact okP.some (Or.inl rfl)
  rw [if_neg q3]
  obtain ⟨h1, h2, h3, h4, h5, h6, h7, h8, h9⟩ := h
  have eb := bufi q1 (by omega) q4 (by omega)
  unfold F23 F26
  repeat' with_reducible (first | apply okP.bind | apply okP.some | (apply okP.ite <;> intro _) | refine okP.aget ?_ ?_ (fun v hv => ?_) | refine okP.aset ?_ ?_ ?_)
  · exact q1
  · omega
  · exact q1
  · omega
  · exact q1
  · omega
  · exact q4
  · omega
  · exact Or.inr ⟨q1, q2, _, rfl⟩
  · omega
  · omega
  · exact Or.inl rfl
theorem write_ok {K n : Int32} {o : Ob} (h : Sh K n o) (hn : n.toInt ≤ 8) (hK : K.toInt ≤ 32) (x y z : Int32) : okP (F24 o x y z) (fun r => r.2 = o ∨ (0 ≤ x.toInt ∧ x.toInt < n.toInt ∧ ∃ w b, b.length = 256 ∧ r.2 = s_buffered (s_writeSet o ((f_writeSet o).set x.toInt.toNat w)) b)) := by
  unfold F24
  apply okP.bind
  refine okP.mono (vtx h hn x) ?_
  rintro r (rfl | ⟨q0, q1, q2⟩)
  · rw [if_pos rfl]; exact okP.some (Or.inl rfl)
  rw [if_neg q0]
  apply okP.bind
  refine okP.mono (vkey h hK y) ?_
  rintro r' (⟨rfl, _⟩ | ⟨q3, q4, q5⟩)
  · rw [if_pos rfl]; exact okP.some (Or.inl rfl)
  rw [if_neg q3]
  obtain ⟨h1, h2, h3, h4, h5, h6, h7, h8, h9⟩ := h
  have eb := bufi q1 (by omega) q4 (by omega)
  unfold F23 F26
  repeat' with_reducible (first | apply okP.bind | apply okP.some | (apply okP.ite <;> intro _) | refine okP.aget ?_ ?_ (fun v hv => ?_) | refine okP.aset ?_ ?_ ?_)
  · exact q1
  · omega
  · exact q1
  · omega
  · omega
  · omega
  · exact Or.inr ⟨q1, q2, _, _, by rw [List.length_set]; exact h7, rfl⟩
theorem stale_ok {K n : Int32} {o : Ob} (h : Sh K n o) {x : Int32} (hx : 0 ≤ x.toInt) (hx8 : x.toInt < 8) : okP (F27 o x) (fun _ => True) := by
  obtain ⟨h1, h2, h3, h4, h5, h6, h7, h8, h9⟩ := h
  unfold F27
  repeat' with_reducible (first | apply okP.bind | apply okP.some | (apply okP.ite <;> intro _) | refine okP.aget ?_ ?_ (fun v hv => ?_) | refine okP.aset ?_ ?_ ?_)
  · exact hx
  · omega
  · trivial
  · trivial
theorem least_ok {K n : Int32} {o : Ob} (h : Sh K n o) (hK0 : 0 ≤ K.toInt) (hK : K.toInt ≤ 32) {x : Int32} (hx : 0 ≤ x.toInt) (hx8 : x.toInt < 8) : okP (F28 o x) (fun _ => True) := by
  obtain ⟨h1, h2, h3, h4, h5, h6, h7, h8, h9⟩ := h
  unfold F28
  repeat' with_reducible (first | apply okP.bind | apply okP.some | (apply okP.ite <;> intro _) | refine okP.aget ?_ ?_ (fun v hv => ?_) | refine okP.aset ?_ ?_ ?_)
  · exact hx
  · omega
  · exact hx
  · omega
  refine okP.loop (fun w => 0 ≤ w.toInt ∧ w.toInt ≤ 32) (fun w => (32 - w.toInt).toNat) ⟨by show (0 : Int) ≤ 0; decide, by show (0 : Int) ≤ 32; decide⟩ (by show (32 - (0 : Int)).toNat < 4000; decide) ?_
  intro w ⟨a1, a2⟩
  unfold B28_17 F23 J28_58
  rw [h8]
  have e32 : (32 : Int32).toInt = 32 := rfl
  have fin : w < 32 → Sum.elim (fun a => okP (some a) fun _ => True) (fun v' => (0 ≤ v'.toInt ∧ v'.toInt ≤ 32) ∧ (32 - v'.toInt).toNat < (32 - w.toInt).toNat) (Sum.inr (w + 1) : Int32 ⊕ Int32) := by
    intro c
    rw [i_lt, e32] at c
    have e2 : (w + 1).toInt = w.toInt + 1 := inc1 (by omega)
    exact ⟨⟨by omega, by omega⟩, by omega⟩
  repeat' with_reducible (first | apply okP.bind | apply okP.some | (apply okP.ite <;> intro _) | refine okP.aget ?_ ?_ (fun v hv => ?_) | refine okP.aset ?_ ?_ ?_)
  all_goals first | exact fin (by assumption) | exact okP.some trivial | exact a1 | (simp only [i_lt, Int32.reduceToInt] at *; omega)
theorem install_ok {K n : Int32} {o : Ob} (h : Sh K n o) (hK0 : 0 ≤ K.toInt) (hK : K.toInt ≤ 32) {x : Int32} (hx : 0 ≤ x.toInt) (hx8 : x.toInt < 8) (Q : List Int32 → List Int32 → Prop) (hQ0 : Q (f_value o) (f_version o)) (hQ : ∀ va ve i y, va.length = 32 → ve.length = 32 → i < 32 → Q va ve → Q (va.set i y) (ve.set i (f_commitCount o + 1))) : okP (F29 o x) (fun r => r.1 = f_commitCount o + 1 ∧ ∃ va ve b, Q va ve ∧ va.length = 32 ∧ ve.length = 32 ∧ b.length = 256 ∧ r.2 = s_lastConflict (clr (s_version (s_value (s_commitCount o (f_commitCount o + 1)) va) ve) x.toInt.toNat b) (-1)) := by
  unfold F29
  obtain ⟨c, hc⟩ : ∃ c, c = f_commitCount o + 1 := ⟨_, rfl⟩
  rw [← hc] at hQ ⊢
  obtain ⟨p, hp⟩ : ∃ p, p = s_commitCount o c := ⟨_, rfl⟩
  rw [← hp]
  have g : Sh K n p := by rw [hp]; exact h
  have gv : f_value p = f_value o := by rw [hp]; rfl
  have gw : f_version p = f_version o := by rw [hp]; rfl
  obtain ⟨h1, h2, h3, h4, h5, h6, h7, h8, h9⟩ := h
  apply okP.bind
  refine okP.aget hx (by omega) (fun y hy => ?_)
  apply okP.bind
  refine okP.loop (fun w => 0 ≤ w.1.toInt ∧ w.1.toInt ≤ 32 ∧ ∃ va ve, Q va ve ∧ va.length = 32 ∧ ve.length = 32 ∧ w.2 = s_version (s_value p va) ve) (fun w => (32 - w.1.toInt).toNat) ⟨by show (0 : Int) ≤ 0; decide, by show (0 : Int) ≤ 32; decide, f_value o, f_version o, hQ0, h1, h2, by rw [← gv, ← gw]; rfl⟩ (by show (32 - (0 : Int)).toNat < 4000; decide) ?_
  intro w ⟨a1, a2, va, ve, a3, a4, a5, a6⟩
  unfold B29_25 F23 J29_79
  rw [a6]
  have g8 : f_keyCount (s_version (s_value p va) ve) = K := g.2.2.2.2.2.2.2.1
  have gb : (f_buffered (s_version (s_value p va) ve)).length = 256 := g.2.2.2.2.2.2.1
  rw [g8]
  have e32 : (32 : Int32).toInt = 32 := rfl
  have exi : okP (some (s_version (s_value p va) ve)) fun a => okP (J29_85 a x c) fun r => r.1 = c ∧ ∃ va ve b, Q va ve ∧ va.length = 32 ∧ ve.length = 32 ∧ b.length = 256 ∧ r.2 = s_lastConflict (clr (s_version (s_value p va) ve) x.toInt.toNat b) (-1) := by
    apply okP.some
    unfold J29_85 F30
    have g2 : Sh K n (s_version (s_value p va) ve) := Sh_ve (Sh_va g a4) a5
    apply okP.bind
    apply okP.bind
    refine okP.mono (clear_ok g2 hx hx8) ?_
    rintro _ ⟨b, hb, rfl⟩
    apply okP.some
    apply okP.some
    exact ⟨rfl, va, ve, b, a3, a4, a5, hb, rfl⟩
  obtain ⟨_, he, exi⟩ := exi
  cases he
  apply okP.ite
  · intro c1
    apply okP.ite
    · intro c2
      rw [i_lt, e32] at c2
      have e2 : (w.1 + 1).toInt = w.1.toInt + 1 := inc1 (by omega)
      have ej := bufi hx hx8 a1 c2
      apply okP.bind
      apply okP.some
      apply okP.ite
      · intro _
        apply okP.some
        exact ⟨⟨by show 0 ≤ (w.1 + 1).toInt; omega, by show (w.1 + 1).toInt ≤ 32; omega, va, ve, a3, a4, a5, rfl⟩, by show (32 - (w.1 + 1).toInt).toNat < (32 - w.1.toInt).toNat; omega⟩
      · intro _
        unfold F26
        apply okP.bind
        apply okP.some
        apply okP.bind
        refine okP.aget (by omega) (by omega) (fun v hv => ?_)
        apply okP.bind
        refine okP.aset a1 (by show _ < (va.length : Int); omega) ?_
        apply okP.bind
        refine okP.aset a1 (by show _ < (ve.length : Int); omega) ?_
        apply okP.some
        refine ⟨⟨by show 0 ≤ (w.1 + 1).toInt; omega, by show (w.1 + 1).toInt ≤ 32; omega, va.set w.1.toInt.toNat v, ve.set w.1.toInt.toNat c, hQ _ _ _ _ a4 a5 (by omega) a3, by rw [List.length_set]; exact a4, by rw [List.length_set]; exact a5, rfl⟩, by show (32 - (w.1 + 1).toInt).toNat < (32 - w.1.toInt).toNat; omega⟩
    · intro c2
      exact okP.some exi
  · intro c1
    exact okP.some exi
/-- what a commit that fails leaves, and an abort -/
theorem commit_ok {K n : Int32} {o : Ob} (h : Sh K n o) (hn : n.toInt ≤ 8) (hK0 : 0 ≤ K.toInt) (hK : K.toInt ≤ 32) (x : Int32) (Q : List Int32 → List Int32 → Prop) (hQ0 : Q (f_value o) (f_version o)) (hQ : ∀ va ve i y, va.length = 32 → ve.length = 32 → i < 32 → Q va ve → Q (va.set i y) (ve.set i (f_commitCount o + 1))) : okP (F3 o x) (fun r => (F4 o x = some 0 ∧ r = (-1, o)) ∨ (0 ≤ x.toInt ∧ x.toInt < n.toInt ∧ (∃ w, w ≠ 0 ∧ F4 o x = some w) ∧ ((∃ va ve b, Q va ve ∧ va.length = 32 ∧ ve.length = 32 ∧ b.length = 256 ∧ r = (f_commitCount o + 1, s_lastConflict (clr (s_version (s_value (s_commitCount o (f_commitCount o + 1)) va) ve) x.toInt.toNat b) (-1))) ∨ ∃ b k, b.length = 256 ∧ r.2 = s_lastConflict (s_abortCount (clr o x.toInt.toNat b) (f_abortCount o + 1)) k))) := by
  unfold F3
  apply okP.bind
  obtain ⟨w, hw, q⟩ := vtx h hn x
  refine okP.of hw ?_
  rcases q with rfl | ⟨q0, q1, q2⟩
  · rw [if_pos rfl]; exact okP.some (Or.inl ⟨hw, rfl⟩)
  rw [if_neg q0]
  have q8 : x.toInt < 8 := by omega
  have fail : ∀ k c : Int32, okP (F32 o x k c) (fun r => ∃ b k, b.length = 256 ∧ r.2 = s_lastConflict (s_abortCount (clr o x.toInt.toNat b) (f_abortCount o + 1)) k) := by
    intro k c
    unfold F32 F30
    apply okP.bind
    apply okP.bind
    refine okP.mono (clear_ok h q1 q8) ?_
    rintro _ ⟨b, hb, rfl⟩
    apply okP.some
    apply okP.some
    exact ⟨b, k, hb, rfl⟩
  apply okP.bind
  refine okP.mono (stale_ok h q1 q8) (fun r1 _ => ?_)
  apply okP.ite <;> intro _
  · apply okP.bind
    refine okP.mono (least_ok h hK0 hK q1 q8) (fun r2 _ => ?_)
    apply okP.ite <;> intro _
    · apply okP.bind
      refine okP.mono (install_ok h hK0 hK q1 q8 Q hQ0 hQ) ?_
      rintro r ⟨e, va, ve, b, e1, e2, e3, e4, e5⟩
      apply okP.some
      exact Or.inr ⟨q1, q2, ⟨w, q0, hw⟩, Or.inl ⟨va, ve, b, e1, e2, e3, e4, by rw [e, e5]⟩⟩
    · apply okP.bind
      refine okP.mono (fail _ _) (fun r hr => okP.some (Or.inr ⟨q1, q2, ⟨w, q0, hw⟩, Or.inr hr⟩))
  · apply okP.bind
    refine okP.mono (fail _ _) (fun r hr => okP.some (Or.inr ⟨q1, q2, ⟨w, q0, hw⟩, Or.inr hr⟩))
theorem abort_ok {K n : Int32} {o : Ob} (h : Sh K n o) (hn : n.toInt ≤ 8) (x : Int32) : okP (F31 o x) (fun r => (F4 o x = some 0 ∧ r = (-1, o)) ∨ (0 ≤ x.toInt ∧ x.toInt < n.toInt ∧ (∃ w, w ≠ 0 ∧ F4 o x = some w) ∧ ∃ b, b.length = 256 ∧ r = (0, s_abortCount (clr o x.toInt.toNat b) (f_abortCount o + 1)))) := by
  unfold F31
  apply okP.bind
  obtain ⟨w, hw, q⟩ := vtx h hn x
  refine okP.of hw ?_
  rcases q with rfl | ⟨q0, q1, q2⟩
  · rw [if_pos rfl]; exact okP.some (Or.inl ⟨hw, rfl⟩)
  rw [if_neg q0]
  have q8 : x.toInt < 8 := by omega
  unfold F30
  apply okP.bind
  apply okP.bind
  refine okP.mono (clear_ok h q1 q8) ?_
  rintro _ ⟨b, hb, rfl⟩
  apply okP.some
  apply okP.some
  exact Or.inr ⟨q1, q2, ⟨w, q0, hw⟩, b, hb, rfl⟩
/-- the getters -/
theorem getValue_ok {K n : Int32} {o : Ob} (h : Sh K n o) (hK : K.toInt ≤ 32) (x : Int32) : okP (F12 o x) (fun _ => True) := by
  unfold F12
  apply okP.bind
  refine okP.mono (vkey h hK x) ?_
  rintro r (⟨rfl, _⟩ | ⟨q3, q4, q5⟩)
  · rw [if_pos rfl]; exact okP.some trivial
  rw [if_neg q3]
  have := h.1
  repeat' with_reducible (first | apply okP.bind | apply okP.some | (apply okP.ite <;> intro _) | refine okP.aget ?_ ?_ (fun v hv => ?_) | refine okP.aset ?_ ?_ ?_)
  · exact q4
  · omega
  · trivial
theorem getVersion_ok {K n : Int32} {o : Ob} (h : Sh K n o) (hK : K.toInt ≤ 32) (x : Int32) : okP (F14 o x) (fun _ => True) := by
  unfold F14
  apply okP.bind
  refine okP.mono (vkey h hK x) ?_
  rintro r (⟨rfl, _⟩ | ⟨q3, q4, q5⟩)
  · rw [if_pos rfl]; exact okP.some trivial
  rw [if_neg q3]
  have := h.2.1
  repeat' with_reducible (first | apply okP.bind | apply okP.some | (apply okP.ite <;> intro _) | refine okP.aget ?_ ?_ (fun v hv => ?_) | refine okP.aset ?_ ?_ ?_)
  · exact q4
  · omega
  · trivial
theorem getStart_ok {K n : Int32} {o : Ob} (h : Sh K n o) (hn : n.toInt ≤ 8) (x : Int32) : okP (F15 o x) (fun _ => True) := by
  unfold F15
  apply okP.bind
  refine okP.mono (vtx h hn x) ?_
  rintro r (rfl | ⟨q3, q4, q5⟩)
  · rw [if_pos rfl]; exact okP.some trivial
  rw [if_neg q3]
  have := h.2.2.2.1
  repeat' with_reducible (first | apply okP.bind | apply okP.some | (apply okP.ite <;> intro _) | refine okP.aget ?_ ?_ (fun v hv => ?_) | refine okP.aset ?_ ?_ ?_)
  · exact q4
  · omega
  · trivial
theorem getReadSet_ok {K n : Int32} {o : Ob} (h : Sh K n o) (hn : n.toInt ≤ 8) (x : Int32) : okP (F16 o x) (fun _ => True) := by
  unfold F16
  apply okP.bind
  refine okP.mono (vtx h hn x) ?_
  rintro r (rfl | ⟨q3, q4, q5⟩)
  · rw [if_pos rfl]; exact okP.some trivial
  rw [if_neg q3]
  have := h.2.2.2.2.1
  repeat' with_reducible (first | apply okP.bind | apply okP.some | (apply okP.ite <;> intro _) | refine okP.aget ?_ ?_ (fun v hv => ?_) | refine okP.aset ?_ ?_ ?_)
  · exact q4
  · omega
  · trivial
theorem getWriteSet_ok {K n : Int32} {o : Ob} (h : Sh K n o) (hn : n.toInt ≤ 8) (x : Int32) : okP (F17 o x) (fun _ => True) := by
  unfold F17
  apply okP.bind
  refine okP.mono (vtx h hn x) ?_
  rintro r (rfl | ⟨q3, q4, q5⟩)
  · rw [if_pos rfl]; exact okP.some trivial
  rw [if_neg q3]
  have := h.2.2.2.2.2.1
  repeat' with_reducible (first | apply okP.bind | apply okP.some | (apply okP.ite <;> intro _) | refine okP.aget ?_ ?_ (fun v hv => ?_) | refine okP.aset ?_ ?_ ?_)
  · exact q4
  · omega
  · trivial
theorem getBuffered_ok {K n : Int32} {o : Ob} (h : Sh K n o) (hn : n.toInt ≤ 8) (hK : K.toInt ≤ 32) (x y : Int32) : okP (F18 o x y) (fun _ => True) := by
  unfold F18
  apply okP.bind
  refine okP.mono (vtx h hn x) ?_
  rintro r (rfl | ⟨q3, q4, q5⟩)
  · rw [if_pos rfl]; exact okP.some trivial
  rw [if_neg q3]
  apply okP.bind
  refine okP.mono (vkey h hK y) ?_
  rintro r' (⟨rfl, _⟩ | ⟨q6, q7, q8⟩)
  · rw [if_pos rfl]; exact okP.some trivial
  rw [if_neg q6]
  have := h.2.2.2.2.2.1
  have := h.2.2.2.2.2.2.1
  have eb := bufi q4 (by omega) q7 (by omega)
  unfold F23 F26
  repeat' with_reducible (first | apply okP.bind | apply okP.some | (apply okP.ite <;> intro _) | refine okP.aget ?_ ?_ (fun v hv => ?_) | refine okP.aset ?_ ?_ ?_)
  · exact q4
  · omega
  · trivial
  · omega
  · omega
  · trivial
theorem vtx1 {K n : Int32} {o : Ob} (h : Sh K n o) (hn : n.toInt ≤ 8) (x : Int32) : F4 o x = some 0 ∨ F4 o x = some 1 := by
  obtain ⟨h1, h2, h3, h4, h5, h6, h7, h8, h9⟩ := h
  have : okP (F4 o x) (fun r => r = 0 ∨ r = 1) := by
    unfold F4
    rw [h9]
    repeat' with_reducible (first | apply okP.bind | apply okP.some | (apply okP.ite <;> intro _) | refine okP.aget ?_ ?_ (fun v hv => ?_) | refine okP.aset ?_ ?_ ?_)
    · exact Or.inl rfl
    · (simp only [i_lt, Int32.reduceToInt] at *; omega)
    · (simp only [i_lt, Int32.reduceToInt] at *; omega)
    · exact and1 v
    · exact Or.inl rfl
    · exact Or.inl rfl
  obtain ⟨r, e, rfl | rfl⟩ := this
  · exact Or.inl e
  · exact Or.inr e
theorem read_ref {K n : Int32} {o : Ob} (h : Sh K n o) (hn : n.toInt ≤ 8) (hK : K.toInt ≤ 32) {x y : Int32} (hr : F4 o x = some 0 ∨ ¬ (0 ≤ y.toInt ∧ y.toInt < K.toInt)) : F25 o x y = some (0, o) := by
  unfold F25
  rcases vtx1 h hn x with e | e
  · rw [e]; rfl
  · rcases hr with q | q
    · rw [q] at e; cases e
    · obtain ⟨r, e2, ⟨rfl, _⟩ | ⟨_, q2⟩⟩ := vkey h hK y
      · rw [e, e2]; rfl
      · exact absurd q2 q
theorem write_ref {K n : Int32} {o : Ob} (h : Sh K n o) (hn : n.toInt ≤ 8) (hK : K.toInt ≤ 32) {x y z : Int32} (hr : F4 o x = some 0 ∨ ¬ (0 ≤ y.toInt ∧ y.toInt < K.toInt)) : ∃ r, F24 o x y z = some (r, o) := by
  unfold F24
  rcases vtx1 h hn x with e | e
  · rw [e]; exact ⟨_, rfl⟩
  · rcases hr with q | q
    · rw [q] at e; cases e
    · obtain ⟨r, e2, ⟨rfl, _⟩ | ⟨_, q2⟩⟩ := vkey h hK y
      · rw [e, e2]; exact ⟨_, rfl⟩
      · exact absurd q2 q

theorem act {K n : Int32} {o : Ob} (h : Sh K n o) (hn : n.toInt ≤ 8) (x : Int32) : ∃ r, F6 o x = some r ∧ (r = 0 → F4 o x = some 0) ∧ (r ≠ 0 → F4 o x = some 1) := by
  unfold F6
  rcases vtx1 h hn x with e | e
  · rw [e]; exact ⟨_, rfl, fun _ => rfl, fun q => absurd rfl q⟩
  · rw [e]; exact ⟨_, rfl, fun q => absurd q (by decide), fun _ => rfl⟩
theorem fp_ok {K n : Int32} {o : Ob} (h : Sh K n o) (hn : n.toInt ≤ 8) (hK : K.toInt ≤ 32) : okP (F8 o) (fun _ => True) := by
  have e8 : (8 : Int32).toInt = 8 := rfl
  have e4 : (4 : Int32).toInt = 4 := rfl
  unfold F8 F9 F10 F11
  simp only [Option.bind_some]
  apply okP.bind
  refine okP.loop (fun w => 0 ≤ w.2.toInt ∧ w.2.toInt ≤ 8) (fun w => (8 - w.2.toInt).toNat) ⟨by show (0 : Int) ≤ 0; decide, by show (0 : Int) ≤ 8; decide⟩ (by show (8 - (0 : Int)).toNat < 4000; decide) ?_
  rintro ⟨a, w⟩ ⟨a1, a2⟩
  simp only at a1 a2
  unfold B8_32
  apply okP.ite
  · intro c
    rw [i_lt, e8] at c
    simp only at c
    have e2 : (w + 1).toInt = w.toInt + 1 := inc1 (by omega)
    apply okP.bind
    refine okP.mono (getValue_ok h hK w) (fun _ _ => ?_)
    apply okP.bind
    refine okP.mono (getVersion_ok h hK w) (fun _ _ => ?_)
    apply okP.some
    exact ⟨⟨by simp only; omega, by simp only; omega⟩, by simp only; omega⟩
  intro c
  apply okP.some
  show okP _ _
  apply okP.bind
  refine okP.loop (fun w => 0 ≤ w.2.toInt ∧ w.2.toInt ≤ 4) (fun w => (4 - w.2.toInt).toNat) ⟨by show (0 : Int) ≤ 0; decide, by show (0 : Int) ≤ 4; decide⟩ (by show (4 - (0 : Int)).toNat < 4000; decide) ?_
  rintro ⟨b, w⟩ ⟨a1, a2⟩
  simp only at a1 a2
  unfold B8_72
  apply okP.ite
  · intro c
    rw [i_lt, e4] at c
    simp only at c
    have e2 : (w + 1).toInt = w.toInt + 1 := inc1 (by omega)
    obtain ⟨r, hr, _⟩ := act h hn w
    apply okP.bind
    refine okP.of hr ?_
    apply okP.bind
    refine okP.mono (getStart_ok h hn w) (fun _ _ => ?_)
    apply okP.bind
    refine okP.mono (getReadSet_ok h hn w) (fun _ _ => ?_)
    apply okP.bind
    refine okP.mono (getWriteSet_ok h hn w) (fun _ _ => ?_)
    apply okP.bind
    refine okP.loop (fun u => 0 ≤ u.2.toInt ∧ u.2.toInt ≤ 8) (fun u => (8 - u.2.toInt).toNat) ⟨by show (0 : Int) ≤ 0; decide, by show (0 : Int) ≤ 8; decide⟩ (by show (8 - (0 : Int)).toNat < 4000; decide) ?_
    rintro ⟨d, u⟩ ⟨b1, b2⟩
    simp only at b1 b2
    unfold B8_140
    apply okP.ite
    · intro c
      rw [i_lt, e8] at c
      simp only at c
      have e2 : (u + 1).toInt = u.toInt + 1 := inc1 (by omega)
      apply okP.bind
      refine okP.mono (getBuffered_ok h hn hK w u) (fun _ _ => ?_)
      apply okP.some
      exact ⟨⟨by simp only; omega, by simp only; omega⟩, by simp only; omega⟩
    · intro c
      apply okP.some
      apply okP.some
      exact ⟨⟨by simp only; omega, by simp only; omega⟩, by simp only; omega⟩
  · intro c
    apply okP.some
    apply okP.some
    trivial
/-- a transaction's number that is refused -/
theorem bad_ok {o : Ob} (h : Sh 8 4 o) (p : Int32) : okP (F5 o p) (fun r => F4 o r = some 0) := by
  have hn : (4 : Int32).toInt ≤ 8 := by decide
  have e4 : (4 : Int32).toInt = 4 := rfl
  unfold F5
  obtain ⟨r, hr, q1, q2⟩ := act h hn ((XT.ushr p 3) &&& 3)
  apply okP.bind
  refine okP.of hr ?_
  have m := and_rng (x := XT.ushr p 6) (m := 1023) (by decide)
  have e : (1023 : Int32).toInt = 1023 := rfl
  rw [e] at m
  obtain ⟨w, hw⟩ : ∃ w, w = (XT.ushr p 6) &&& 1023 := ⟨_, rfl⟩
  rw [← hw] at m ⊢
  have z0 : (0 : Int32).toInt = 0 := rfl
  apply okP.ite
  · intro c
    exact okP.some (q1 c)
  · intro c
    apply okP.ite
    · intro _
      apply okP.some
      have : (4 + w).toInt = 4 + w.toInt := i_add (x := 4) (by omega) (by omega)
      obtain ⟨r, e, q⟩ := vtx h hn (4 + w)
      rcases q with rfl | ⟨_, _, q⟩
      · exact e
      · omega
    · intro _
      apply okP.some
      have en : (-1 : Int32).toInt = -1 := rfl
      have : (-1 - w).toInt = -1 - w.toInt := i_sub (x := -1) (by omega) (by omega)
      obtain ⟨r, e, q⟩ := vtx h hn (-1 - w)
      rcases q with rfl | ⟨_, q, _⟩
      · exact e
      · omega
theorem badk_ok (p : Int32) : okP (F7 p) (fun r => ¬ (0 ≤ r.toInt ∧ r.toInt < (8 : Int32).toInt)) := by
  unfold F7
  have e8 : (8 : Int32).toInt = 8 := rfl
  have m := and_rng (x := XT.ushr p 21) (m := 1023) (by decide)
  have e : (1023 : Int32).toInt = 1023 := rfl
  rw [e] at m
  obtain ⟨w, hw⟩ : ∃ w, w = (XT.ushr p 21) &&& 1023 := ⟨_, rfl⟩
  rw [← hw] at m ⊢
  apply okP.ite <;> intro _ <;> apply okP.some
  · have : (8 + w).toInt = 8 + w.toInt := i_add (x := 8) (by omega) (by omega)
    omega
  · have en : (-1 : Int32).toInt = -1 := rfl
    have : (-1 - w).toInt = -1 - w.toInt := i_sub (x := -1) (by omega) (by omega)
    omega
theorem write_ans {K n : Int32} {o : Ob} (h : Sh K n o) (hn : n.toInt ≤ 8) (hK : K.toInt ≤ 32) {x y z : Int32} : (F4 o x = some 0 → F24 o x y z = some (-1, o)) ∧ (F4 o x = some 1 → ¬ (0 ≤ y.toInt ∧ y.toInt < K.toInt) → F24 o x y z = some (-2, o)) := by
  unfold F24
  refine ⟨fun e => by rw [e]; rfl, fun e q => ?_⟩
  obtain ⟨r, e2, ⟨rfl, _⟩ | ⟨_, q2⟩⟩ := vkey h hK y
  · rw [e, e2]; rfl
  · exact absurd q2 q
theorem law_ok (s : List Int32) (hs : s.length ≤ 260) : ∃ τ, F0 s = some (1, τ) ∧ τ.length - List.length ([Sum.inr (Sum.inl (FieldType.int, s))] : QHeap) ≤ room_1.cells ∧ qhs τ - qhs [Sum.inr (Sum.inl (FieldType.int, s))] ≤ room_1.slots := by
  have h8 : (8 : Int32).toInt ≤ 32 := by decide
  have h4 : (4 : Int32).toInt ≤ 8 := by decide
  have h80 : 0 ≤ (8 : Int32).toInt := by decide
  have h40 : 0 ≤ (4 : Int32).toInt := by decide
  obtain ⟨o, ho, hS⟩ : ∃ o, F1 8 4 4 = some o ∧ Sh 8 4 o := ⟨_, rfl, by refine ⟨?_, ?_, ?_, ?_, ?_, ?_, ?_, rfl, rfl⟩ <;> exact List.length_replicate⟩
  have hl := len_i (n := s.length) (by omega)
  have key : okP (loopN (B0_14 s) qN (0, o)) (fun e => e.1 = 1 ∧ sFit s e.2) := by
    refine okP.loop (fun v => 0 ≤ v.1.toInt ∧ v.1.toInt ≤ 260 ∧ Sh 8 4 v.2) (fun v => (265 - v.1.toInt).toNat) ⟨by show (0 : Int) ≤ 0; decide, by show (0 : Int) ≤ 260; decide, hS⟩ (by show (265 - (0 : Int)).toNat < 4000; decide) ?_
    rintro ⟨i, o⟩ ⟨a1, a2, a4⟩
    simp only at a1 a2 a4
    unfold B0_14
    have e1 : (1 : Int32).toInt = 1 := rfl
    have e2 : (2 : Int32).toInt = 2 := rfl
    have e3 : (3 : Int32).toInt = 3 := rfl
    have e4 : (4 : Int32).toInt = 4 := rfl
    have e5 : (5 : Int32).toInt = 5 := rfl
    have i1 : (i + 1).toInt = i.toInt + 1 := by rw [i_add (by omega) (by omega), e1]
    have i2 : (i + 2).toInt = i.toInt + 2 := by rw [i_add (by omega) (by omega), e2]
    have i3 : (i + 3).toInt = i.toInt + 3 := by rw [i_add (by omega) (by omega), e3]
    have i4 : (i + 4).toInt = i.toInt + 4 := by rw [i_add (by omega) (by omega), e4]
    have i5 : (i + 5).toInt = i.toInt + 5 := by rw [i_add (by omega) (by omega), e5]
    apply okP.ite
    · intro c
      rw [i_lt, hl] at c
      simp only at c
      have rest : ∀ (p : Ob) (z : Int32), Sh 8 4 p → okP (J0_135 s p i z) (fun r => Sum.elim (fun e => e.1 = 1 ∧ sFit s e.2) (fun v' => (0 ≤ v'.1.toInt ∧ v'.1.toInt ≤ 260 ∧ Sh 8 4 v'.2) ∧ (265 - v'.1.toInt).toNat < (265 - i.toInt).toNat) r) := by
        intro p z hp
        obtain ⟨fpv, hfp, _⟩ := fp_ok hp h4 h8
        have fin : okP (J0_374 s p i fpv) (fun r => Sum.elim (fun e => e.1 = 1 ∧ sFit s e.2) (fun v' => (0 ≤ v'.1.toInt ∧ v'.1.toInt ≤ 260 ∧ Sh 8 4 v'.2) ∧ (265 - v'.1.toInt).toNat < (265 - i.toInt).toNat) r) := by
          unfold J0_374
          rw [hfp]
          simp only [Option.bind_some, if_true]
          apply okP.some
          exact ⟨⟨by simp only; omega, by simp only; omega, hp⟩, by simp only; omega⟩
        unfold J0_135
        apply okP.bind
        refine okP.aget (by omega) (by omega) (fun y4 _ => ?_)
        obtain ⟨bt, hbt, qbt⟩ := bad_ok hp y4
        apply okP.bind
        refine okP.of hbt ?_
        obtain ⟨bk, hbk, qbk⟩ := badk_ok y4
        apply okP.bind
        refine okP.of hbk ?_
        obtain ⟨ta, hta, ta0, ta1⟩ := act hp h4 ((XT.ushr y4 3) &&& 3)
        apply okP.bind
        refine okP.of hta ?_
        obtain ⟨t, ht⟩ : ∃ t, t = (XT.ushr y4 3) &&& 3 := ⟨_, rfl⟩
        obtain ⟨g, hg⟩ : ∃ t, t = (XT.ushr y4 16) &&& 7 := ⟨_, rfl⟩
        obtain ⟨k, hk⟩ : ∃ t, t = (y4 &&& 7) % 6 := ⟨_, rfl⟩
        rw [← ht] at hta ta0 ta1 ⊢
        rw [← hg, ← hk]
        have rd := read_ref hp h4 h8 (x := t) (y := bk) (Or.inr qbk)
        have rb := read_ref hp h4 h8 (x := bt) (y := g) (Or.inl qbt)
        have wt : F24 p t bk z = some (if ta = 0 then -1 else -2, p) := by
          by_cases z0 : ta = 0
          · rw [if_pos z0]; exact (write_ans hp h4 h8).1 (ta0 z0)
          · rw [if_neg z0]; exact (write_ans hp h4 h8).2 (ta1 z0) qbk
        have wb := (write_ans (y := g) (z := z) hp h4 h8).1 qbt
        have cb : F3 p bt = some (-1, p) := by unfold F3; rw [qbt]; rfl
        have ab : F31 p bt = some (-1, p) := by unfold F31; rw [qbt]; rfl
        have more : ∀ w : Int32, (w ≠ 0 → F19 p = some (-5, p)) → okP (J0_238 s p i z k t bt bk g (if ta = 0 then -1 else -2) w) (fun r => Sum.elim (fun e => e.1 = 1 ∧ sFit s e.2) (fun v' => (0 ≤ v'.1.toInt ∧ v'.1.toInt ≤ 260 ∧ Sh 8 4 v'.2) ∧ (265 - v'.1.toInt).toNat < (265 - i.toInt).toNat) r) := by
          intro w hw
          unfold J0_238
          rw [hfp, rd, rb, wt, cb, ab]
          simp only [Option.bind_some, if_true, wb]
          apply okP.ite
          · intro _
            apply okP.ite
            · intro _; exact fin
            · intro w0
              rw [hw w0]
              simp only [Option.bind_some, if_true]
              exact fin
          intro _
          apply okP.ite
          · intro _; exact fin
          intro _
          apply okP.ite
          · intro _; exact fin
          intro _
          apply okP.ite
          · intro _; exact fin
          intro _
          apply okP.ite
          · intro _; exact fin
          · intro _; exact fin
        obtain ⟨b0, hb0, _, b0'⟩ := act hp h4 0
        obtain ⟨b1, hb1, _, b1'⟩ := act hp h4 1
        obtain ⟨b2, hb2, _, b2'⟩ := act hp h4 2
        obtain ⟨b3, hb3, _, b3'⟩ := act hp h4 3
        have m0 : okP (J0_237 s p i z k t bt bk g (if ta = 0 then -1 else -2)) (fun r => Sum.elim (fun e => e.1 = 1 ∧ sFit s e.2) (fun v' => (0 ≤ v'.1.toInt ∧ v'.1.toInt ≤ 260 ∧ Sh 8 4 v'.2) ∧ (265 - v'.1.toInt).toNat < (265 - i.toInt).toNat) r) := by
          unfold J0_237
          exact more 0 (fun q => absurd rfl q)
        apply okP.bind
        refine okP.of hb0 ?_
        apply okP.ite
        · intro _; exact m0
        intro c0
        apply okP.bind
        refine okP.of hb1 ?_
        apply okP.ite
        · intro _; exact m0
        intro c1
        apply okP.bind
        refine okP.of hb2 ?_
        apply okP.ite
        · intro _; exact m0
        intro c2
        apply okP.bind
        refine okP.of hb3 ?_
        have full : (if b3 = 0 then (0 : Int32) else 1) ≠ 0 → F19 p = some (-5, p) := by
          intro q
          have c3 : b3 ≠ 0 := by intro z; rw [if_pos z] at q; exact q rfl
          obtain ⟨r, hr, ⟨rfl, _⟩ | ⟨q1, q2, q3, _⟩⟩ := begin_ok hp h40 h4
          · exact hr
          · exfalso
            have nz : ∀ x : Int32, 0 ≤ x.toInt → x.toInt < 4 → (f_active p)[x.toInt.toNat]? = some 0 → F4 p x = some 0 := by
              intro x x0 x4 hx
              unfold F4
              obtain ⟨h1, h2, h3, _, _, _, _, _, h9⟩ := hp
              have ag : aget (f_active p) x = some 0 := by
                rw [aget_at (n := x.toInt.toNat) (by omega) (by omega)]
                rw [List.getElem?_eq_getElem (by omega)] at hx
                exact hx
              rw [if_neg (by rw [i_lt]; show ¬ x.toInt < 0; omega), h9, if_pos (by rw [i_lt]; show x.toInt < 4; omega), if_pos (by rw [i_lt]; show x.toInt < 8; omega), ag]
              rfl
            have hz := nz r.1 q1 q2 q3
            have cases4 : r.1 = 0 ∨ r.1 = 1 ∨ r.1 = 2 ∨ r.1 = 3 := by
              simp only [i_eq]
              have z0 : (0 : Int32).toInt = 0 := rfl
              omega
            rcases cases4 with h | h | h | h <;> rw [h] at hz
            · rw [b0' c0] at hz; cases hz
            · rw [b1' c1] at hz; cases hz
            · rw [b2' c2] at hz; cases hz
            · rw [b3' c3] at hz; cases hz
        have := more _ full
        unfold J0_238 at this
        exact this
      apply okP.bind
      refine okP.aget (by simp only; omega) (by simp only; omega) (fun y0 _ => ?_)
      apply okP.bind
      refine okP.aget (by simp only; omega) (by simp only; omega) (fun y1 _ => ?_)
      apply okP.bind
      refine okP.aget (by simp only; omega) (by simp only; omega) (fun y2 _ => ?_)
      apply okP.bind
      refine okP.aget (by simp only; omega) (by simp only; omega) (fun y3 _ => ?_)
      apply okP.ite
      · intro _
        apply okP.bind
        refine okP.mono (begin_ok a4 h40 h4) ?_
        rintro r (⟨rfl, _⟩ | ⟨q1, q2, q3, b, hb, q4⟩)
        · exact rest _ _ a4
        · exact rest _ _ (by rw [q4]; exact Sh_opn a4 _ hb)
      intro _
      apply okP.ite
      · intro _
        apply okP.bind
        refine okP.mono (read_ok a4 h4 h8 _ _) ?_
        rintro r (q | ⟨q1, q2, w, q3⟩)
        · exact rest _ _ (by rw [q]; exact a4)
        · exact rest _ _ (by rw [q3]; exact Sh_rd a4 (by rw [List.length_set]; exact a4.2.2.2.2.1))
      intro _
      apply okP.ite
      · intro _
        apply okP.bind
        refine okP.mono (write_ok a4 h4 h8 _ _ _) ?_
        rintro r (q | ⟨q1, q2, w, b, hb, q3⟩)
        · exact rest _ _ (by rw [q]; exact a4)
        · exact rest _ _ (by rw [q3]; exact Sh_buf (Sh_wr a4 (by rw [List.length_set]; exact a4.2.2.2.2.2.1)) hb)
      intro _
      apply okP.ite
      · intro _
        apply okP.bind
        refine okP.mono (commit_ok a4 h4 h80 h8 _ (fun _ _ => True) trivial (fun _ _ _ _ _ _ _ _ => trivial)) ?_
        rintro r (⟨_, q⟩ | ⟨q1, q2, _, ⟨va, ve, b, _, v1, v2, v3, v4⟩ | ⟨b, k, v1, v2⟩⟩)
        · exact rest _ _ (by rw [q]; exact a4)
        · exact rest _ _ (by rw [v4]; exact Sh_lc (Sh_clr (Sh_ve (Sh_va (Sh_cc a4 _) v1) v2) _ v3) _)
        · exact rest _ _ (by rw [v2]; exact Sh_lc (Sh_ab (Sh_clr a4 _ v1) _) _)
      · intro _
        apply okP.bind
        refine okP.mono (abort_ok a4 h4 _) ?_
        rintro r (⟨_, q⟩ | ⟨q1, q2, _, b, v1, v2⟩)
        · exact rest _ _ (by rw [q]; exact a4)
        · exact rest _ _ (by rw [v2]; exact Sh_ab (Sh_clr a4 _ v1) _)
    · intro c
      apply okP.some
      obtain ⟨z1, z2, z3, z4, z5, z6, z7, _, _⟩ := a4
      refine ⟨rfl, by show 9 - 1 ≤ _; decide, ?_⟩
      simp only [H0, qhs, qsz, z1, z2, z3, z4, z5, z6, z7]
      show _ ≤ _
      simp only [cN, room_1]
      omega
  unfold F0
  rw [ho]
  simp only [Option.bind_some]
  obtain ⟨⟨r, τ⟩, q1, q2, q3⟩ := key
  rw [q1]
  simp only at q2
  subst q2
  exact ⟨τ, rfl, q3⟩
set_option maxRecDepth 65536 in
theorem comes_1 {Post : Tables → Env → Array Value → State → Outcome → State → Prop} (hpost : ∀ tb e args s v u, (limb_1_1.after args s (.returned v) u = true ∧ limb_1_2.after args s (.returned v) u = true ∧ True) → FrameEnd s (.returned v) u (Jvm.fieldLocs frame_1_writes args s ++ Jvm.arrayLocs frame_1_arrays args s ++ Jvm.staticLocs frame_1_statics s) 24 832 → Post tb e args s (.returned v) u) :
    ArmFor flags0 classFile x code maxLocals ret World_1 tables_1 room_1 Calls_1 rest_1 Pre_1 Post := by
  intro l hfl _ _ p e ha hc hk s m args below hf hA hF happ hP
  obtain ⟨hcalls, hrest, hpre⟩ := hP
  obtain ⟨-, -, -, hnamed, -, -, -, hat⟩ := (Spec.applies_iff hf).mp happ
  obtain ⟨hg, hn⟩ := and_e (Cond.before_iff.mp (show (Jvm.Cond.and given_1 narrow_1).before args s = true from hpre))
  obtain ⟨g0, g1⟩ := and_e hg
  obtain ⟨w0, rfl⟩ : ∃ w0 : Value, args = #[w0] := by
    have hs : args.size = 1 := by simpa [Cond.value, given_1] using g0
    obtain ⟨L⟩ := args
    match L, hs with
    | [w0], _ => exact ⟨w0, rfl⟩
  have hw := fun d (hd : d ∈ tables_1) => atoms_spec (ws := Jvm.Cond.code x code maxLocals ret :: tables_1) hat d (List.mem_cons_of_mem _ hd)
  have hfit : Fit s := fun {y c} hc i hi => by
    obtain ⟨ha, rfl⟩ := Array.getElem?_eq_some_iff.mp hc
    have q := List.all_eq_true.mp ((Array.all_eq_true_iff_forall_mem.mp hF) _ (Array.getElem_mem ha)) i (List.mem_range.mpr hi)
    simpa [Array.getElem?_eq_getElem hi] using q
  obtain ⟨n1, n2⟩ := and_e hn
  obtain ⟨a, cl, xs, rfl, hA1, hA2, hlen⟩ := script_ok hfit n1 n2
  obtain ⟨τ, hF0, hc1, hs1⟩ := law_ok xs hlen
  have hlt := hA1.lt
  have Ad : QAd s.heap.size (fun k => match k with | 0 => a | k + 1 => s.heap.size + k) := ⟨fun k hk => by cases k with | zero => exact absurd hk (by decide) | succ k => rfl, fun i j h => by
    cases i with
    | zero => cases j with
      | zero => rfl
      | succ j => have h' : a = s.heap.size + j := h; exact absurd hA1.lt (by rw [h']; exact Nat.not_lt.mpr (Nat.le_add_right _ _))
    | succ i => cases j with
      | zero => have h' : s.heap.size + i = a := h; exact absurd hA1.lt (by rw [← h']; exact Nat.not_lt.mpr (Nat.le_add_right _ _))
      | succ j => have h' : s.heap.size + i = s.heap.size + j := h; omega⟩
  have hR : QRep s s.heap.size (fun k => match k with | 0 => a | k + 1 => s.heap.size + k) s.heap [.inr (.inl (.int, xs))] := ⟨Nat.le_refl _, rfl, fun k c h => by
    cases k with
    | zero => cases h; exact ⟨cl, hA1, hA2⟩
    | succ k => cases h⟩
  have T := tF0 (l := l) (Z := s) Ad (QW_ok hw) xs hF0
  have M := QTri.met (k := 0) (as := [.ref 0]) (by decide) T hR (Nat.le_of_ble_eq_true rfl) (fun q => by cases q) tables_1 (rm := room_1) (by decide) (by decide) hc1 hs1
  obtain ⟨n, o, h1, h2, h3, _, L, rfl, ⟨rfl, R', N⟩, hq⟩ := M p e ha hc hk s m _ below hf ((Spec.applies_iff_loose hf).mp happ).1 ⟨rfl, State.Warmed39.refl s, rfl⟩ trivial
  refine ⟨n, _, h1, h2, h3, hpost _ _ _ _ _ _ ⟨Cond.after_iff.mpr rfl, Cond.after_iff.mpr (eq_i res_at (Term.int_eval (1)) rfl), trivial⟩ ⟨hq.1, hq.2.1, (hq.2.2.sift fun y hy => Or.inr (N y hy)).mono hc1 hs1⟩⟩
theorem main_1_1 : Claimed_1_1 := comes_1 fun _ _ _ _ _ _ h hF => ⟨h.1, hF⟩
theorem main_1_2 : Claimed_1_2 := comes_1 fun _ _ _ _ _ _ h hF => ⟨h.2.1, hF⟩
end Jvm.Pilot.@@N@@
namespace Jvm.Pilot.@@N@@
open Jvm Jvm.ClassFile Sem Op Lib Jvm.Free Jvm.Stand Jvm.Pilot.@@N@@.Jvm.D
/-! MADE BY PROGRAM (witnessworld.py) out of the Statement's table words and the real class files: 11 classes; the members and pool entries that the words name. The judged class is class 1, her method 4. -/
namespace start1
open Jvm.ClassFile
def u (s : String) : CpInfo := .utf8 (stringToUtf16 s)
/-- a pool by its gaps: so many unusable entries, then the entry; so many at the end -/
def gap : Nat → List CpInfo → List CpInfo
  | 0, r => r
  | n + 1, r => .unusable :: gap n r
def poolList (es : List (Nat × CpInfo)) (last : Nat) : List CpInfo := es.foldr (fun e r => gap e.1 (e.2 :: r)) (gap last [])
def pool (es : List (Nat × CpInfo)) (last : Nat) : Array CpInfo := ⟨poolList es last⟩
def fileOf (pool : Array CpInfo) (this : Nat) (attrs : Array Attribute := #[]) (ms : Array MethodInfo := #[]) (fl : Nat := 33) (sup : Nat := 0) (ifs : Array Nat := #[]) (fds : Array FieldInfo := #[]) : ClassFile where
  minorVersion := 0
  majorVersion := 65
  constantPool := pool
  accessFlags := fl
  thisClass := this
  superClass := sup
  interfaces := ifs
  fields := fds
  methods := ms
  attributes := attrs
def plain (name : String) (sup : Option ClassId) : Class where
  name := name
  kind := .ordinary
  loader := none
  accessFlags := 33
  super := sup
  interfaces := #[]
  cf := none
  fields := #[]
  methods := #[]
  instanceTypes := #[]
  staticTypes := #[]
  resolved := #[]
  callSites := []
  init := .initialized
  statics := none
  mirror := none

def pool0 : Array CpInfo := pool [(5, u "<init>"), (0, u "()V"), (1, .class_ 10), (1, u "java/lang/Object")] 113

def k0c0 : Code := { maxStack := 0, maxLocals := 1, code := object_method_1_code, exceptionTable := #[], attributes := #[] }
def k0m0 : Method := { name := "<init>", desc := "()V", sig := { parameters := [], returnType := none }, accessFlags := 1, code := some k0c0 }
/-- java/lang/Object -/
def k0 : Class := { plain "java/lang/Object" none with
  accessFlags := 33
  interfaces := #[]
  cf := some (fileOf pool0 8 #[] #[{ accessFlags := 1, nameIndex := 5, descriptorIndex := 6, attributes := #[] }] 33 0 #[] #[])
  fields := #[]
  methods := #[k0m0]
  instanceTypes := #[]
  staticTypes := #[]
  resolved := Array.replicate 124 none
  statics := none }

def pool1 : Array CpInfo := pool [(2, .class_ 4), (1, u "java/lang/Object"), (0, u "<init>"), (0, u "()V"), (0, .methodref 8 9), (0, .class_ 10), (0, .nameAndType 11 12), (0, u "OccValidator"), (0, u "getCommitCount"), (0, u "()I"), (0, .long 1000003), (1, .methodref 8 16), (0, .nameAndType 17 12), (0, u "getAbortCount"), (0, .methodref 8 19), (0, .nameAndType 20 12), (0, u "getLastConflictKey"), (0, .methodref 8 22), (0, .nameAndType 23 24), (0, u "getValue"), (0, u "(I)I"), (0, .methodref 8 26), (0, .nameAndType 27 24), (0, u "getVersion"), (0, .methodref 8 29), (0, .nameAndType 30 31), (0, u "isActive"), (0, u "(I)Z"), (0, .methodref 8 33), (0, .nameAndType 34 24), (0, u "getStart"), (0, .methodref 8 36), (0, .nameAndType 37 24), (0, u "getReadSet"), (0, .methodref 8 39), (0, .nameAndType 40 24), (0, u "getWriteSet"), (0, .methodref 8 42), (0, .nameAndType 43 44), (0, u "getBuffered"), (0, u "(II)I"), (0, .methodref 8 46), (0, .nameAndType 5 47), (0, u "(III)V"), (0, .methodref 8 49), (0, .nameAndType 50 12), (0, u "begin"), (0, .methodref 8 52), (0, .nameAndType 53 44), (0, u "read"), (0, .methodref 8 55), (0, .nameAndType 56 57), (0, u "write"), (0, u "(III)I"), (0, .methodref 8 59), (0, .nameAndType 60 24), (0, u "commit"), (0, .methodref 8 62), (0, .nameAndType 63 24), (0, u "abort"), (0, .methodref 65 66), (0, .class_ 67), (0, .nameAndType 68 69), (0, u "OccValidatorL7"), (0, u "badTx"), (0, u "(LOccValidator;I)I"), (0, .methodref 65 71), (0, .nameAndType 72 24), (0, u "badKey"), (0, .methodref 65 74), (0, .nameAndType 75 76), (0, u "fp"), (0, u "(LOccValidator;)J"), (3, u "law"), (0, u "([I)Z")] 4

def k1m0 : Method := { name := "<init>", desc := "()V", sig := { parameters := [], returnType := none }, accessFlags := 1, code := none }
def k1c1 : Code := { maxStack := 5, maxLocals := 5, code := method_2_code, exceptionTable := #[], attributes := #[] }
def k1m1 : Method := { name := "fp", desc := "(LOccValidator;)J", sig := { parameters := [(.object "OccValidator")], returnType := some .long }, accessFlags := 10, code := some k1c1 }
def k1c2 : Code := { maxStack := 3, maxLocals := 3, code := method_3_code, exceptionTable := #[], attributes := #[] }
def k1m2 : Method := { name := "badTx", desc := "(LOccValidator;I)I", sig := { parameters := [(.object "OccValidator"), .int], returnType := some .int }, accessFlags := 10, code := some k1c2 }
def k1c3 : Code := { maxStack := 3, maxLocals := 1, code := method_4_code, exceptionTable := #[], attributes := #[] }
def k1m3 : Method := { name := "badKey", desc := "(I)I", sig := { parameters := [.int], returnType := some .int }, accessFlags := 10, code := some k1c3 }
def k1c4 : Code := { maxStack := 5, maxLocals := 19, code := code, exceptionTable := #[], attributes := #[] }
def k1m4 : Method := { name := "law", desc := "([I)Z", sig := { parameters := [(.array .int)], returnType := some .boolean }, accessFlags := 9, code := some k1c4 }
/-- OccValidatorL7 -/
def k1 : Class := { plain "OccValidatorL7" (some 0) with
  accessFlags := 33
  interfaces := #[]
  cf := some (fileOf pool1 65 #[] #[{ accessFlags := 1, nameIndex := 5, descriptorIndex := 6, attributes := #[] }, { accessFlags := 10, nameIndex := 75, descriptorIndex := 76, attributes := #[] }, { accessFlags := 10, nameIndex := 68, descriptorIndex := 69, attributes := #[] }, { accessFlags := 10, nameIndex := 72, descriptorIndex := 24, attributes := #[] }, { accessFlags := 9, nameIndex := 80, descriptorIndex := 81, attributes := #[] }] 33 2 #[] #[])
  fields := #[]
  methods := #[k1m0, k1m1, k1m2, k1m3, k1m4]
  instanceTypes := #[]
  staticTypes := #[]
  resolved := Array.replicate 86 none
  statics := none }

def pool2 : Array CpInfo := pool [(1, .methodref 2 3), (0, .class_ 4), (0, .nameAndType 5 6), (0, u "java/lang/Object"), (0, u "<init>"), (0, u "()V"), (0, .fieldref 8 9), (0, .class_ 10), (0, .nameAndType 11 12), (0, u "OccValidator"), (0, u "value"), (0, u "[I"), (0, .fieldref 8 14), (0, .nameAndType 15 12), (0, u "version"), (0, .fieldref 8 17), (0, .nameAndType 18 19), (0, u "active"), (0, u "[Z"), (0, .fieldref 8 21), (0, .nameAndType 22 12), (0, u "start"), (0, .fieldref 8 24), (0, .nameAndType 25 12), (0, u "readSet"), (0, .fieldref 8 27), (0, .nameAndType 28 12), (0, u "writeSet"), (0, .fieldref 8 30), (0, .nameAndType 31 12), (0, u "buffered"), (0, .methodref 8 33), (0, .nameAndType 34 35), (0, u "clamp"), (0, u "(III)I"), (0, .fieldref 8 37), (0, .nameAndType 38 39), (0, u "keyCount"), (0, u "I"), (0, .fieldref 8 41), (0, .nameAndType 42 39), (0, u "slotCount"), (0, .fieldref 8 44), (0, .nameAndType 45 39), (0, u "window"), (0, .fieldref 8 47), (0, .nameAndType 48 39), (0, u "commitCount"), (0, .fieldref 8 50), (0, .nameAndType 51 39), (0, u "abortCount"), (0, .fieldref 8 53), (0, .nameAndType 54 39), (0, u "lastConflict"), (0, .methodref 8 56), (0, .nameAndType 57 58), (0, u "findFreeSlot"), (0, u "()I"), (0, .methodref 8 60), (0, .nameAndType 61 62), (0, u "openSlot"), (0, u "(I)V"), (0, .methodref 8 64), (0, .nameAndType 65 66), (0, u "isValidTx"), (0, u "(I)Z"), (0, .methodref 8 68), (0, .nameAndType 69 66), (0, u "isValidKey"), (0, .methodref 8 71), (0, .nameAndType 72 73), (0, u "bit"), (0, u "(I)I"), (0, .methodref 8 75), (0, .nameAndType 76 77), (0, u "bufIndex"), (0, u "(II)I"), (0, .methodref 8 79), (0, .nameAndType 80 66), (0, u "isStale"), (0, .methodref 8 82), (0, .nameAndType 83 35), (0, u "failCommit"), (0, .methodref 8 85), (0, .nameAndType 86 73), (0, u "leastConflict"), (0, .methodref 8 88), (0, .nameAndType 89 73), (0, u "install"), (0, .methodref 8 91), (0, .nameAndType 92 62), (0, u "endTx"), (0, .methodref 8 94), (0, .nameAndType 95 62), (0, u "clearSlot"), (0, u "OK"), (2, u "ERR_TX"), (1, u "ERR_KEY"), (1, u "ABORT_CONFLICT"), (1, u "ABORT_STALE"), (1, u "ERR_FULL"), (1, u "(III)V"), (2, u "begin"), (1, u "read"), (0, u "write"), (0, u "commit"), (0, u "abort"), (0, u "getValue"), (0, u "getVersion"), (0, u "getCommitCount"), (0, u "getAbortCount"), (0, u "getLastConflictKey"), (0, u "isActive"), (0, u "getStart"), (0, u "getReadSet"), (0, u "getWriteSet"), (0, u "getBuffered")] 2

def k2c0 : Code := { maxStack := 5, maxLocals := 4, code := prog_1_method_1_code, exceptionTable := #[], attributes := #[] }
def k2m0 : Method := { name := "<init>", desc := "(III)V", sig := { parameters := [.int, .int, .int], returnType := none }, accessFlags := 1, code := some k2c0 }
def k2c1 : Code := { maxStack := 2, maxLocals := 2, code := prog_1_method_2_code, exceptionTable := #[], attributes := #[] }
def k2m1 : Method := { name := "begin", desc := "()I", sig := { parameters := [], returnType := some .int }, accessFlags := 1, code := some k2c1 }
def k2c2 : Code := { maxStack := 4, maxLocals := 4, code := prog_1_method_3_code, exceptionTable := #[], attributes := #[] }
def k2m2 : Method := { name := "read", desc := "(II)I", sig := { parameters := [.int, .int], returnType := some .int }, accessFlags := 1, code := some k2c2 }
def k2c3 : Code := { maxStack := 5, maxLocals := 4, code := prog_1_method_4_code, exceptionTable := #[], attributes := #[] }
def k2m3 : Method := { name := "write", desc := "(III)I", sig := { parameters := [.int, .int, .int], returnType := some .int }, accessFlags := 1, code := some k2c3 }
def k2c4 : Code := { maxStack := 4, maxLocals := 3, code := prog_1_method_5_code, exceptionTable := #[], attributes := #[] }
def k2m4 : Method := { name := "commit", desc := "(I)I", sig := { parameters := [.int], returnType := some .int }, accessFlags := 1, code := some k2c4 }
def k2c5 : Code := { maxStack := 3, maxLocals := 2, code := prog_1_method_6_code, exceptionTable := #[], attributes := #[] }
def k2m5 : Method := { name := "abort", desc := "(I)I", sig := { parameters := [.int], returnType := some .int }, accessFlags := 1, code := some k2c5 }
def k2c6 : Code := { maxStack := 2, maxLocals := 2, code := prog_1_method_7_code, exceptionTable := #[], attributes := #[] }
def k2m6 : Method := { name := "getValue", desc := "(I)I", sig := { parameters := [.int], returnType := some .int }, accessFlags := 1, code := some k2c6 }
def k2c7 : Code := { maxStack := 2, maxLocals := 2, code := prog_1_method_8_code, exceptionTable := #[], attributes := #[] }
def k2m7 : Method := { name := "getVersion", desc := "(I)I", sig := { parameters := [.int], returnType := some .int }, accessFlags := 1, code := some k2c7 }
def k2c8 : Code := { maxStack := 1, maxLocals := 1, code := prog_1_method_9_code, exceptionTable := #[], attributes := #[] }
def k2m8 : Method := { name := "getCommitCount", desc := "()I", sig := { parameters := [], returnType := some .int }, accessFlags := 1, code := some k2c8 }
def k2c9 : Code := { maxStack := 1, maxLocals := 1, code := prog_1_method_10_code, exceptionTable := #[], attributes := #[] }
def k2m9 : Method := { name := "getAbortCount", desc := "()I", sig := { parameters := [], returnType := some .int }, accessFlags := 1, code := some k2c9 }
def k2c10 : Code := { maxStack := 1, maxLocals := 1, code := prog_1_method_11_code, exceptionTable := #[], attributes := #[] }
def k2m10 : Method := { name := "getLastConflictKey", desc := "()I", sig := { parameters := [], returnType := some .int }, accessFlags := 1, code := some k2c10 }
def k2c11 : Code := { maxStack := 2, maxLocals := 2, code := prog_1_method_12_code, exceptionTable := #[], attributes := #[] }
def k2m11 : Method := { name := "isActive", desc := "(I)Z", sig := { parameters := [.int], returnType := some .boolean }, accessFlags := 1, code := some k2c11 }
def k2c12 : Code := { maxStack := 2, maxLocals := 2, code := prog_1_method_13_code, exceptionTable := #[], attributes := #[] }
def k2m12 : Method := { name := "getStart", desc := "(I)I", sig := { parameters := [.int], returnType := some .int }, accessFlags := 1, code := some k2c12 }
def k2c13 : Code := { maxStack := 2, maxLocals := 2, code := prog_1_method_14_code, exceptionTable := #[], attributes := #[] }
def k2m13 : Method := { name := "getReadSet", desc := "(I)I", sig := { parameters := [.int], returnType := some .int }, accessFlags := 1, code := some k2c13 }
def k2c14 : Code := { maxStack := 2, maxLocals := 2, code := prog_1_method_15_code, exceptionTable := #[], attributes := #[] }
def k2m14 : Method := { name := "getWriteSet", desc := "(I)I", sig := { parameters := [.int], returnType := some .int }, accessFlags := 1, code := some k2c14 }
def k2c15 : Code := { maxStack := 4, maxLocals := 3, code := prog_1_method_16_code, exceptionTable := #[], attributes := #[] }
def k2m15 : Method := { name := "getBuffered", desc := "(II)I", sig := { parameters := [.int, .int], returnType := some .int }, accessFlags := 1, code := some k2c15 }
def k2c16 : Code := { maxStack := 2, maxLocals := 4, code := prog_1_method_17_code, exceptionTable := #[], attributes := #[] }
def k2m16 : Method := { name := "clamp", desc := "(III)I", sig := { parameters := [.int, .int, .int], returnType := some .int }, accessFlags := 2, code := some k2c16 }
def k2c17 : Code := { maxStack := 2, maxLocals := 2, code := prog_1_method_18_code, exceptionTable := #[], attributes := #[] }
def k2m17 : Method := { name := "isValidTx", desc := "(I)Z", sig := { parameters := [.int], returnType := some .boolean }, accessFlags := 2, code := some k2c17 }
def k2c18 : Code := { maxStack := 2, maxLocals := 2, code := prog_1_method_19_code, exceptionTable := #[], attributes := #[] }
def k2m18 : Method := { name := "isValidKey", desc := "(I)Z", sig := { parameters := [.int], returnType := some .boolean }, accessFlags := 2, code := some k2c18 }
def k2c19 : Code := { maxStack := 2, maxLocals := 2, code := prog_1_method_20_code, exceptionTable := #[], attributes := #[] }
def k2m19 : Method := { name := "bit", desc := "(I)I", sig := { parameters := [.int], returnType := some .int }, accessFlags := 2, code := some k2c19 }
def k2c20 : Code := { maxStack := 2, maxLocals := 3, code := prog_1_method_21_code, exceptionTable := #[], attributes := #[] }
def k2m20 : Method := { name := "bufIndex", desc := "(II)I", sig := { parameters := [.int, .int], returnType := some .int }, accessFlags := 2, code := some k2c20 }
def k2c21 : Code := { maxStack := 2, maxLocals := 2, code := prog_1_method_22_code, exceptionTable := #[], attributes := #[] }
def k2m21 : Method := { name := "findFreeSlot", desc := "()I", sig := { parameters := [], returnType := some .int }, accessFlags := 2, code := some k2c21 }
def k2c22 : Code := { maxStack := 3, maxLocals := 2, code := prog_1_method_23_code, exceptionTable := #[], attributes := #[] }
def k2m22 : Method := { name := "openSlot", desc := "(I)V", sig := { parameters := [.int], returnType := none }, accessFlags := 2, code := some k2c22 }
def k2c23 : Code := { maxStack := 3, maxLocals := 4, code := prog_1_method_24_code, exceptionTable := #[], attributes := #[] }
def k2m23 : Method := { name := "clearSlot", desc := "(I)V", sig := { parameters := [.int], returnType := none }, accessFlags := 2, code := some k2c23 }
def k2c24 : Code := { maxStack := 2, maxLocals := 2, code := prog_1_method_25_code, exceptionTable := #[], attributes := #[] }
def k2m24 : Method := { name := "endTx", desc := "(I)V", sig := { parameters := [.int], returnType := none }, accessFlags := 2, code := some k2c24 }
def k2c25 : Code := { maxStack := 3, maxLocals := 2, code := prog_1_method_26_code, exceptionTable := #[], attributes := #[] }
def k2m25 : Method := { name := "isStale", desc := "(I)Z", sig := { parameters := [.int], returnType := some .boolean }, accessFlags := 2, code := some k2c25 }
def k2c26 : Code := { maxStack := 3, maxLocals := 5, code := prog_1_method_27_code, exceptionTable := #[], attributes := #[] }
def k2m26 : Method := { name := "leastConflict", desc := "(I)I", sig := { parameters := [.int], returnType := some .int }, accessFlags := 2, code := some k2c26 }
def k2c27 : Code := { maxStack := 3, maxLocals := 4, code := prog_1_method_28_code, exceptionTable := #[], attributes := #[] }
def k2m27 : Method := { name := "failCommit", desc := "(III)I", sig := { parameters := [.int, .int, .int], returnType := some .int }, accessFlags := 2, code := some k2c27 }
def k2c28 : Code := { maxStack := 6, maxLocals := 5, code := prog_1_method_29_code, exceptionTable := #[], attributes := #[] }
def k2m28 : Method := { name := "install", desc := "(I)I", sig := { parameters := [.int], returnType := some .int }, accessFlags := 2, code := some k2c28 }
/-- OccValidator -/
def k2 : Class := { plain "OccValidator" (some 0) with
  accessFlags := 49
  interfaces := #[]
  cf := some (fileOf pool2 8 #[] #[{ accessFlags := 1, nameIndex := 5, descriptorIndex := 109, attributes := #[] }, { accessFlags := 1, nameIndex := 112, descriptorIndex := 58, attributes := #[] }, { accessFlags := 1, nameIndex := 114, descriptorIndex := 77, attributes := #[] }, { accessFlags := 1, nameIndex := 115, descriptorIndex := 35, attributes := #[] }, { accessFlags := 1, nameIndex := 116, descriptorIndex := 73, attributes := #[] }, { accessFlags := 1, nameIndex := 117, descriptorIndex := 73, attributes := #[] }, { accessFlags := 1, nameIndex := 118, descriptorIndex := 73, attributes := #[] }, { accessFlags := 1, nameIndex := 119, descriptorIndex := 73, attributes := #[] }, { accessFlags := 1, nameIndex := 120, descriptorIndex := 58, attributes := #[] }, { accessFlags := 1, nameIndex := 121, descriptorIndex := 58, attributes := #[] }, { accessFlags := 1, nameIndex := 122, descriptorIndex := 58, attributes := #[] }, { accessFlags := 1, nameIndex := 123, descriptorIndex := 66, attributes := #[] }, { accessFlags := 1, nameIndex := 124, descriptorIndex := 73, attributes := #[] }, { accessFlags := 1, nameIndex := 125, descriptorIndex := 73, attributes := #[] }, { accessFlags := 1, nameIndex := 126, descriptorIndex := 73, attributes := #[] }, { accessFlags := 1, nameIndex := 127, descriptorIndex := 77, attributes := #[] }, { accessFlags := 2, nameIndex := 34, descriptorIndex := 35, attributes := #[] }, { accessFlags := 2, nameIndex := 65, descriptorIndex := 66, attributes := #[] }, { accessFlags := 2, nameIndex := 69, descriptorIndex := 66, attributes := #[] }, { accessFlags := 2, nameIndex := 72, descriptorIndex := 73, attributes := #[] }, { accessFlags := 2, nameIndex := 76, descriptorIndex := 77, attributes := #[] }, { accessFlags := 2, nameIndex := 57, descriptorIndex := 58, attributes := #[] }, { accessFlags := 2, nameIndex := 61, descriptorIndex := 62, attributes := #[] }, { accessFlags := 2, nameIndex := 95, descriptorIndex := 62, attributes := #[] }, { accessFlags := 2, nameIndex := 92, descriptorIndex := 62, attributes := #[] }, { accessFlags := 2, nameIndex := 80, descriptorIndex := 66, attributes := #[] }, { accessFlags := 2, nameIndex := 86, descriptorIndex := 73, attributes := #[] }, { accessFlags := 2, nameIndex := 83, descriptorIndex := 35, attributes := #[] }, { accessFlags := 2, nameIndex := 89, descriptorIndex := 73, attributes := #[] }] 49 2 #[] #[{ accessFlags := 25, nameIndex := 96, descriptorIndex := 39, attributes := #[] }, { accessFlags := 25, nameIndex := 99, descriptorIndex := 39, attributes := #[] }, { accessFlags := 25, nameIndex := 101, descriptorIndex := 39, attributes := #[] }, { accessFlags := 25, nameIndex := 103, descriptorIndex := 39, attributes := #[] }, { accessFlags := 25, nameIndex := 105, descriptorIndex := 39, attributes := #[] }, { accessFlags := 25, nameIndex := 107, descriptorIndex := 39, attributes := #[] }, { accessFlags := 2, nameIndex := 38, descriptorIndex := 39, attributes := #[] }, { accessFlags := 2, nameIndex := 42, descriptorIndex := 39, attributes := #[] }, { accessFlags := 2, nameIndex := 45, descriptorIndex := 39, attributes := #[] }, { accessFlags := 2, nameIndex := 48, descriptorIndex := 39, attributes := #[] }, { accessFlags := 2, nameIndex := 51, descriptorIndex := 39, attributes := #[] }, { accessFlags := 2, nameIndex := 54, descriptorIndex := 39, attributes := #[] }, { accessFlags := 2, nameIndex := 11, descriptorIndex := 12, attributes := #[] }, { accessFlags := 2, nameIndex := 15, descriptorIndex := 12, attributes := #[] }, { accessFlags := 2, nameIndex := 18, descriptorIndex := 19, attributes := #[] }, { accessFlags := 2, nameIndex := 22, descriptorIndex := 12, attributes := #[] }, { accessFlags := 2, nameIndex := 25, descriptorIndex := 12, attributes := #[] }, { accessFlags := 2, nameIndex := 28, descriptorIndex := 12, attributes := #[] }, { accessFlags := 2, nameIndex := 31, descriptorIndex := 12, attributes := #[] }])
  fields := #[{ name := "OK", type := .int, accessFlags := 25, slot := 0, constantValue := 0 }, { name := "ERR_TX", type := .int, accessFlags := 25, slot := 1, constantValue := 0 }, { name := "ERR_KEY", type := .int, accessFlags := 25, slot := 2, constantValue := 0 }, { name := "ABORT_CONFLICT", type := .int, accessFlags := 25, slot := 3, constantValue := 0 }, { name := "ABORT_STALE", type := .int, accessFlags := 25, slot := 4, constantValue := 0 }, { name := "ERR_FULL", type := .int, accessFlags := 25, slot := 5, constantValue := 0 }, { name := "keyCount", type := .int, accessFlags := 2, slot := 0, constantValue := 0 }, { name := "slotCount", type := .int, accessFlags := 2, slot := 1, constantValue := 0 }, { name := "window", type := .int, accessFlags := 2, slot := 2, constantValue := 0 }, { name := "commitCount", type := .int, accessFlags := 2, slot := 3, constantValue := 0 }, { name := "abortCount", type := .int, accessFlags := 2, slot := 4, constantValue := 0 }, { name := "lastConflict", type := .int, accessFlags := 2, slot := 5, constantValue := 0 }, { name := "value", type := (.array .int), accessFlags := 2, slot := 6, constantValue := 0 }, { name := "version", type := (.array .int), accessFlags := 2, slot := 7, constantValue := 0 }, { name := "active", type := (.array .boolean), accessFlags := 2, slot := 8, constantValue := 0 }, { name := "start", type := (.array .int), accessFlags := 2, slot := 9, constantValue := 0 }, { name := "readSet", type := (.array .int), accessFlags := 2, slot := 10, constantValue := 0 }, { name := "writeSet", type := (.array .int), accessFlags := 2, slot := 11, constantValue := 0 }, { name := "buffered", type := (.array .int), accessFlags := 2, slot := 12, constantValue := 0 }]
  methods := #[k2m0, k2m1, k2m2, k2m3, k2m4, k2m5, k2m6, k2m7, k2m8, k2m9, k2m10, k2m11, k2m12, k2m13, k2m14, k2m15, k2m16, k2m17, k2m18, k2m19, k2m20, k2m21, k2m22, k2m23, k2m24, k2m25, k2m26, k2m27, k2m28]
  instanceTypes := #[.int, .int, .int, .int, .int, .int, (.array .int), (.array .int), (.array .boolean), (.array .int), (.array .int), (.array .int), (.array .int)]
  staticTypes := #[.int, .int, .int, .int, .int, .int]
  resolved := Array.replicate 130 none
  statics := none }

def pool3 : Array CpInfo := pool [(1, u "java/lang/Cloneable"), (0, .class_ 1), (0, u "java/lang/Object"), (0, .class_ 3)] 3

/-- java/lang/Cloneable -/
def k3 : Class := { plain "java/lang/Cloneable" (some 0) with
  accessFlags := 1537
  interfaces := #[]
  cf := some (fileOf pool3 2 #[] #[] 1537 4 #[] #[])
  fields := #[]
  methods := #[]
  instanceTypes := #[]
  staticTypes := #[]
  resolved := Array.replicate 8 none
  statics := none }

def pool4 : Array CpInfo := pool [(1, u "java/io/Serializable"), (0, .class_ 1), (0, u "java/lang/Object"), (0, .class_ 3)] 3

/-- java/io/Serializable -/
def k4 : Class := { plain "java/io/Serializable" (some 0) with
  accessFlags := 1537
  interfaces := #[]
  cf := some (fileOf pool4 2 #[] #[] 1537 4 #[] #[])
  fields := #[]
  methods := #[]
  instanceTypes := #[]
  staticTypes := #[]
  resolved := Array.replicate 8 none
  statics := none }

/-- the primitive boolean -/
def k5 : Class := { plain "boolean" none with kind := .primitive 'Z', accessFlags := 0x411 }
/-- [Z -/
def k6 : Class := { plain "[Z" (some 0) with kind := .array 5 .boolean, interfaces := #[3, 4], accessFlags := 1041 }

/-- the primitive byte -/
def k7 : Class := { plain "byte" none with kind := .primitive 'B', accessFlags := 0x411 }
/-- [B -/
def k8 : Class := { plain "[B" (some 0) with kind := .array 7 .byte, interfaces := #[3, 4], accessFlags := 1041 }

/-- the primitive int -/
def k9 : Class := { plain "int" none with kind := .primitive 'I', accessFlags := 0x411 }
/-- [I -/
def k10 : Class := { plain "[I" (some 0) with kind := .array 9 .int, interfaces := #[3, 4], accessFlags := 1041 }

def heap : Heap := #[{ cls := 10, slots := #[.int 1, .int 2, .int 3], vm := .none }]
def classes : Array Class := #[k0, k1, k2, k3, k4, k5, k6, k7, k8, k9, k10]
def interned : List (Array UInt16 × Addr) := []
def slotsUsed : Nat := 3
def theMethod : MethodId := ⟨1, 4⟩
def args0 : Array Value := #[.ref 0]
def aboutOver (below : List Frame) : State where
  vm := { classes := classes, interned := interned.toArray }
  heap := heap
  slotsUsed := slotsUsed
  threads := #[{ frames := .invoking theMethod args0 :: below }]
def below0 : List Frame := [.native { method := ⟨0, 0⟩, args := #[] }]
def about1 : State := aboutOver below0
def p0 : Program := .bare "" "" ""
def e0 : Env := launch0.env 0 0 0
theorem w_frames : about1.frames = Frame.invoking theMethod args0 :: below0 := rfl
set_option maxRecDepth 65536 in
theorem w_args : argsFit about1.vm theMethod args0 = true := by decide +kernel
set_option maxRecDepth 65536 in
theorem w_heap : heapFits about1 = true := by decide +kernel
set_option maxRecDepth 65536 in
theorem w_runnable : about1.curStatus? = some .runnable := by decide +kernel
set_option maxRecDepth 65536 in
theorem w_alone : about1.alone = true := by decide +kernel
set_option maxRecDepth 65536 in
theorem w_named : about1.methodNamed? x = some theMethod := by decide +kernel
set_option maxRecDepth 65536 in
theorem w_hears : about1.hears theMethod below0 = true := by decide +kernel
set_option maxRecDepth 65536 in
theorem w_ripe : about1.ripe theMethod args0 below0 = true := by decide +kernel
theorem w_running : about1.status = .running := rfl
set_option maxRecDepth 65536 in
theorem w_room : about1.hasRoom e0.platform room_1 = true :=
  launch0.hasRoom_least _ room_1 (by decide +kernel) (by decide +kernel) (by decide +kernel) (by decide +kernel) (by decide +kernel) (by decide +kernel)
theorem allAtoms_all (ts : List Jvm.Cond) (a : Array Jvm.Value) (st : Jvm.State) : (allAtoms ts).before a st = ts.all (fun c => c.before a st) := by
  induction ts with
  | nil => rfl
  | cons c t ih =>
    show (Jvm.Cond.and c (allAtoms t)).before a st = _
    rw [Jvm.Cond.before_and, ih, List.all_cons]
def words1 : List Jvm.Cond := Jvm.Cond.code x code maxLocals ret :: tables_1
/-- a 'code' word, met by the world's own term for the bytes: nothing is compared byte by byte -/
theorem code_word {y : MethodName} {bytes : ByteArray} {mx : Nat} {rt : Option FieldType} {a : Array Value} {s : State} {m : MethodId} {meth : Method} {c : Code} (h1 : s.methodNamed? y = some m) (h2 : s.vm.method? m = some meth) (h3 : meth.code = some c) (h4 : c.code = bytes)
    (h5 : (c.maxLocals == mx && c.exceptionTable.isEmpty && decide (c.maxStack ≤ mostOperands) && decide (meth.sig.returnType = rt) && !meth.locks && decide (parseMethodDescriptor y.desc = some meth.sig)) = true) : (Jvm.Cond.code y bytes mx rt).before a s = true := by
  simp only [Bool.and_eq_true, beq_iff_eq, Bool.not_eq_true', decide_eq_true_eq] at h5
  obtain ⟨⟨⟨⟨⟨g1, g2⟩, g3⟩, g4⟩, g5⟩, g6⟩ := h5
  simp [Cond.before, Cond.holds, Cond.value, h1, h2, h3, h4, g1, g2, g3, g4, g5, g6]
def isCode : Jvm.Cond → Bool
  | .code _ _ _ _ => true
  | _ => false
theorem all_split {L : List Jvm.Cond} {P : Jvm.Cond → Bool} (h1 : L.all (fun c => isCode c || P c) = true) (h2 : ∀ c ∈ L.filter isCode, P c = true) : L.all P = true := by
  refine List.all_eq_true.mpr fun c hc => ?_
  have h := List.all_eq_true.mp h1 c hc
  rcases Bool.eq_false_or_eq_true (isCode c) with hi | hi
  · exact h2 c (List.mem_filter.mpr ⟨hc, hi⟩)
  · simpa [hi] using h
set_option maxRecDepth 65536 in
theorem w_c0 : (Jvm.Cond.code x code maxLocals ret).before args0 about1 = true := code_word (m := ⟨1, 4⟩) (meth := k1m4) (c := k1c4) (by decide +kernel) rfl rfl rfl (by decide +kernel)
set_option maxRecDepth 65536 in
theorem w_c1 : (Jvm.Cond.code ({ cls := "OccValidator", name := "<init>", desc := "(III)V" } : Jvm.MethodName) prog_1_method_1_code (4 : Nat) (Option.none : Option Jvm.ClassFile.FieldType)).before args0 about1 = true := code_word (m := ⟨2, 0⟩) (meth := k2m0) (c := k2c0) (by decide +kernel) rfl rfl rfl (by decide +kernel)
set_option maxRecDepth 65536 in
theorem w_c2 : (Jvm.Cond.code ({ cls := "java/lang/Object", name := "<init>", desc := "()V" } : Jvm.MethodName) object_method_1_code (1 : Nat) (Option.none : Option Jvm.ClassFile.FieldType)).before args0 about1 = true := code_word (m := ⟨0, 0⟩) (meth := k0m0) (c := k0c0) (by decide +kernel) rfl rfl rfl (by decide +kernel)
set_option maxRecDepth 65536 in
theorem w_c3 : (Jvm.Cond.code ({ cls := "OccValidator", name := "clamp", desc := "(III)I" } : Jvm.MethodName) prog_1_method_17_code (4 : Nat) (Option.some Jvm.ClassFile.FieldType.int)).before args0 about1 = true := code_word (m := ⟨2, 16⟩) (meth := k2m16) (c := k2c16) (by decide +kernel) rfl rfl rfl (by decide +kernel)
set_option maxRecDepth 65536 in
theorem w_c4 : (Jvm.Cond.code ({ cls := "OccValidator", name := "commit", desc := "(I)I" } : Jvm.MethodName) prog_1_method_5_code (3 : Nat) (Option.some Jvm.ClassFile.FieldType.int)).before args0 about1 = true := code_word (m := ⟨2, 4⟩) (meth := k2m4) (c := k2c4) (by decide +kernel) rfl rfl rfl (by decide +kernel)
set_option maxRecDepth 65536 in
theorem w_c5 : (Jvm.Cond.code ({ cls := "OccValidator", name := "isValidTx", desc := "(I)Z" } : Jvm.MethodName) prog_1_method_18_code (2 : Nat) (Option.some Jvm.ClassFile.FieldType.boolean)).before args0 about1 = true := code_word (m := ⟨2, 17⟩) (meth := k2m17) (c := k2c17) (by decide +kernel) rfl rfl rfl (by decide +kernel)
set_option maxRecDepth 65536 in
theorem w_c6 : (Jvm.Cond.code ({ cls := "OccValidatorL7", name := "badTx", desc := "(LOccValidator;I)I" } : Jvm.MethodName) method_3_code (3 : Nat) (Option.some Jvm.ClassFile.FieldType.int)).before args0 about1 = true := code_word (m := ⟨1, 2⟩) (meth := k1m2) (c := k1c2) (by decide +kernel) rfl rfl rfl (by decide +kernel)
set_option maxRecDepth 65536 in
theorem w_c7 : (Jvm.Cond.code ({ cls := "OccValidator", name := "isActive", desc := "(I)Z" } : Jvm.MethodName) prog_1_method_12_code (2 : Nat) (Option.some Jvm.ClassFile.FieldType.boolean)).before args0 about1 = true := code_word (m := ⟨2, 11⟩) (meth := k2m11) (c := k2c11) (by decide +kernel) rfl rfl rfl (by decide +kernel)
set_option maxRecDepth 65536 in
theorem w_c8 : (Jvm.Cond.code ({ cls := "OccValidatorL7", name := "badKey", desc := "(I)I" } : Jvm.MethodName) method_4_code (1 : Nat) (Option.some Jvm.ClassFile.FieldType.int)).before args0 about1 = true := code_word (m := ⟨1, 3⟩) (meth := k1m3) (c := k1c3) (by decide +kernel) rfl rfl rfl (by decide +kernel)
set_option maxRecDepth 65536 in
theorem w_c9 : (Jvm.Cond.code ({ cls := "OccValidatorL7", name := "fp", desc := "(LOccValidator;)J" } : Jvm.MethodName) method_2_code (5 : Nat) (Option.some Jvm.ClassFile.FieldType.long)).before args0 about1 = true := code_word (m := ⟨1, 1⟩) (meth := k1m1) (c := k1c1) (by decide +kernel) rfl rfl rfl (by decide +kernel)
set_option maxRecDepth 65536 in
theorem w_c10 : (Jvm.Cond.code ({ cls := "OccValidator", name := "getCommitCount", desc := "()I" } : Jvm.MethodName) prog_1_method_9_code (1 : Nat) (Option.some Jvm.ClassFile.FieldType.int)).before args0 about1 = true := code_word (m := ⟨2, 8⟩) (meth := k2m8) (c := k2c8) (by decide +kernel) rfl rfl rfl (by decide +kernel)
set_option maxRecDepth 65536 in
theorem w_c11 : (Jvm.Cond.code ({ cls := "OccValidator", name := "getAbortCount", desc := "()I" } : Jvm.MethodName) prog_1_method_10_code (1 : Nat) (Option.some Jvm.ClassFile.FieldType.int)).before args0 about1 = true := code_word (m := ⟨2, 9⟩) (meth := k2m9) (c := k2c9) (by decide +kernel) rfl rfl rfl (by decide +kernel)
set_option maxRecDepth 65536 in
theorem w_c12 : (Jvm.Cond.code ({ cls := "OccValidator", name := "getLastConflictKey", desc := "()I" } : Jvm.MethodName) prog_1_method_11_code (1 : Nat) (Option.some Jvm.ClassFile.FieldType.int)).before args0 about1 = true := code_word (m := ⟨2, 10⟩) (meth := k2m10) (c := k2c10) (by decide +kernel) rfl rfl rfl (by decide +kernel)
set_option maxRecDepth 65536 in
theorem w_c13 : (Jvm.Cond.code ({ cls := "OccValidator", name := "getValue", desc := "(I)I" } : Jvm.MethodName) prog_1_method_7_code (2 : Nat) (Option.some Jvm.ClassFile.FieldType.int)).before args0 about1 = true := code_word (m := ⟨2, 6⟩) (meth := k2m6) (c := k2c6) (by decide +kernel) rfl rfl rfl (by decide +kernel)
set_option maxRecDepth 65536 in
theorem w_c14 : (Jvm.Cond.code ({ cls := "OccValidator", name := "isValidKey", desc := "(I)Z" } : Jvm.MethodName) prog_1_method_19_code (2 : Nat) (Option.some Jvm.ClassFile.FieldType.boolean)).before args0 about1 = true := code_word (m := ⟨2, 18⟩) (meth := k2m18) (c := k2c18) (by decide +kernel) rfl rfl rfl (by decide +kernel)
set_option maxRecDepth 65536 in
theorem w_c15 : (Jvm.Cond.code ({ cls := "OccValidator", name := "getVersion", desc := "(I)I" } : Jvm.MethodName) prog_1_method_8_code (2 : Nat) (Option.some Jvm.ClassFile.FieldType.int)).before args0 about1 = true := code_word (m := ⟨2, 7⟩) (meth := k2m7) (c := k2c7) (by decide +kernel) rfl rfl rfl (by decide +kernel)
set_option maxRecDepth 65536 in
theorem w_c16 : (Jvm.Cond.code ({ cls := "OccValidator", name := "getStart", desc := "(I)I" } : Jvm.MethodName) prog_1_method_13_code (2 : Nat) (Option.some Jvm.ClassFile.FieldType.int)).before args0 about1 = true := code_word (m := ⟨2, 12⟩) (meth := k2m12) (c := k2c12) (by decide +kernel) rfl rfl rfl (by decide +kernel)
set_option maxRecDepth 65536 in
theorem w_c17 : (Jvm.Cond.code ({ cls := "OccValidator", name := "getReadSet", desc := "(I)I" } : Jvm.MethodName) prog_1_method_14_code (2 : Nat) (Option.some Jvm.ClassFile.FieldType.int)).before args0 about1 = true := code_word (m := ⟨2, 13⟩) (meth := k2m13) (c := k2c13) (by decide +kernel) rfl rfl rfl (by decide +kernel)
set_option maxRecDepth 65536 in
theorem w_c18 : (Jvm.Cond.code ({ cls := "OccValidator", name := "getWriteSet", desc := "(I)I" } : Jvm.MethodName) prog_1_method_15_code (2 : Nat) (Option.some Jvm.ClassFile.FieldType.int)).before args0 about1 = true := code_word (m := ⟨2, 14⟩) (meth := k2m14) (c := k2c14) (by decide +kernel) rfl rfl rfl (by decide +kernel)
set_option maxRecDepth 65536 in
theorem w_c19 : (Jvm.Cond.code ({ cls := "OccValidator", name := "getBuffered", desc := "(II)I" } : Jvm.MethodName) prog_1_method_16_code (3 : Nat) (Option.some Jvm.ClassFile.FieldType.int)).before args0 about1 = true := code_word (m := ⟨2, 15⟩) (meth := k2m15) (c := k2c15) (by decide +kernel) rfl rfl rfl (by decide +kernel)
set_option maxRecDepth 65536 in
theorem w_c20 : (Jvm.Cond.code ({ cls := "OccValidator", name := "begin", desc := "()I" } : Jvm.MethodName) prog_1_method_2_code (2 : Nat) (Option.some Jvm.ClassFile.FieldType.int)).before args0 about1 = true := code_word (m := ⟨2, 1⟩) (meth := k2m1) (c := k2c1) (by decide +kernel) rfl rfl rfl (by decide +kernel)
set_option maxRecDepth 65536 in
theorem w_c21 : (Jvm.Cond.code ({ cls := "OccValidator", name := "findFreeSlot", desc := "()I" } : Jvm.MethodName) prog_1_method_22_code (2 : Nat) (Option.some Jvm.ClassFile.FieldType.int)).before args0 about1 = true := code_word (m := ⟨2, 21⟩) (meth := k2m21) (c := k2c21) (by decide +kernel) rfl rfl rfl (by decide +kernel)
set_option maxRecDepth 65536 in
theorem w_c22 : (Jvm.Cond.code ({ cls := "OccValidator", name := "openSlot", desc := "(I)V" } : Jvm.MethodName) prog_1_method_23_code (2 : Nat) (Option.none : Option Jvm.ClassFile.FieldType)).before args0 about1 = true := code_word (m := ⟨2, 22⟩) (meth := k2m22) (c := k2c22) (by decide +kernel) rfl rfl rfl (by decide +kernel)
set_option maxRecDepth 65536 in
theorem w_c23 : (Jvm.Cond.code ({ cls := "OccValidator", name := "clearSlot", desc := "(I)V" } : Jvm.MethodName) prog_1_method_24_code (4 : Nat) (Option.none : Option Jvm.ClassFile.FieldType)).before args0 about1 = true := code_word (m := ⟨2, 23⟩) (meth := k2m23) (c := k2c23) (by decide +kernel) rfl rfl rfl (by decide +kernel)
set_option maxRecDepth 65536 in
theorem w_c24 : (Jvm.Cond.code ({ cls := "OccValidator", name := "bit", desc := "(I)I" } : Jvm.MethodName) prog_1_method_20_code (2 : Nat) (Option.some Jvm.ClassFile.FieldType.int)).before args0 about1 = true := code_word (m := ⟨2, 19⟩) (meth := k2m19) (c := k2c19) (by decide +kernel) rfl rfl rfl (by decide +kernel)
set_option maxRecDepth 65536 in
theorem w_c25 : (Jvm.Cond.code ({ cls := "OccValidator", name := "write", desc := "(III)I" } : Jvm.MethodName) prog_1_method_4_code (4 : Nat) (Option.some Jvm.ClassFile.FieldType.int)).before args0 about1 = true := code_word (m := ⟨2, 3⟩) (meth := k2m3) (c := k2c3) (by decide +kernel) rfl rfl rfl (by decide +kernel)
set_option maxRecDepth 65536 in
theorem w_c26 : (Jvm.Cond.code ({ cls := "OccValidator", name := "read", desc := "(II)I" } : Jvm.MethodName) prog_1_method_3_code (4 : Nat) (Option.some Jvm.ClassFile.FieldType.int)).before args0 about1 = true := code_word (m := ⟨2, 2⟩) (meth := k2m2) (c := k2c2) (by decide +kernel) rfl rfl rfl (by decide +kernel)
set_option maxRecDepth 65536 in
theorem w_c27 : (Jvm.Cond.code ({ cls := "OccValidator", name := "bufIndex", desc := "(II)I" } : Jvm.MethodName) prog_1_method_21_code (3 : Nat) (Option.some Jvm.ClassFile.FieldType.int)).before args0 about1 = true := code_word (m := ⟨2, 20⟩) (meth := k2m20) (c := k2c20) (by decide +kernel) rfl rfl rfl (by decide +kernel)
set_option maxRecDepth 65536 in
theorem w_c28 : (Jvm.Cond.code ({ cls := "OccValidator", name := "isStale", desc := "(I)Z" } : Jvm.MethodName) prog_1_method_26_code (2 : Nat) (Option.some Jvm.ClassFile.FieldType.boolean)).before args0 about1 = true := code_word (m := ⟨2, 25⟩) (meth := k2m25) (c := k2c25) (by decide +kernel) rfl rfl rfl (by decide +kernel)
set_option maxRecDepth 65536 in
theorem w_c29 : (Jvm.Cond.code ({ cls := "OccValidator", name := "leastConflict", desc := "(I)I" } : Jvm.MethodName) prog_1_method_27_code (5 : Nat) (Option.some Jvm.ClassFile.FieldType.int)).before args0 about1 = true := code_word (m := ⟨2, 26⟩) (meth := k2m26) (c := k2c26) (by decide +kernel) rfl rfl rfl (by decide +kernel)
set_option maxRecDepth 65536 in
theorem w_c30 : (Jvm.Cond.code ({ cls := "OccValidator", name := "install", desc := "(I)I" } : Jvm.MethodName) prog_1_method_29_code (5 : Nat) (Option.some Jvm.ClassFile.FieldType.int)).before args0 about1 = true := code_word (m := ⟨2, 28⟩) (meth := k2m28) (c := k2c28) (by decide +kernel) rfl rfl rfl (by decide +kernel)
set_option maxRecDepth 65536 in
theorem w_c31 : (Jvm.Cond.code ({ cls := "OccValidator", name := "endTx", desc := "(I)V" } : Jvm.MethodName) prog_1_method_25_code (2 : Nat) (Option.none : Option Jvm.ClassFile.FieldType)).before args0 about1 = true := code_word (m := ⟨2, 24⟩) (meth := k2m24) (c := k2c24) (by decide +kernel) rfl rfl rfl (by decide +kernel)
set_option maxRecDepth 65536 in
theorem w_c32 : (Jvm.Cond.code ({ cls := "OccValidator", name := "abort", desc := "(I)I" } : Jvm.MethodName) prog_1_method_6_code (2 : Nat) (Option.some Jvm.ClassFile.FieldType.int)).before args0 about1 = true := code_word (m := ⟨2, 5⟩) (meth := k2m5) (c := k2c5) (by decide +kernel) rfl rfl rfl (by decide +kernel)
set_option maxRecDepth 65536 in
theorem w_c33 : (Jvm.Cond.code ({ cls := "OccValidator", name := "failCommit", desc := "(III)I" } : Jvm.MethodName) prog_1_method_28_code (4 : Nat) (Option.some Jvm.ClassFile.FieldType.int)).before args0 about1 = true := code_word (m := ⟨2, 27⟩) (meth := k2m27) (c := k2c27) (by decide +kernel) rfl rfl rfl (by decide +kernel)
def codes1 : List Jvm.Cond := [Jvm.Cond.code x code maxLocals ret, Jvm.Cond.code ({ cls := "OccValidator", name := "<init>", desc := "(III)V" } : Jvm.MethodName) prog_1_method_1_code (4 : Nat) (Option.none : Option Jvm.ClassFile.FieldType), Jvm.Cond.code ({ cls := "java/lang/Object", name := "<init>", desc := "()V" } : Jvm.MethodName) object_method_1_code (1 : Nat) (Option.none : Option Jvm.ClassFile.FieldType), Jvm.Cond.code ({ cls := "OccValidator", name := "clamp", desc := "(III)I" } : Jvm.MethodName) prog_1_method_17_code (4 : Nat) (Option.some Jvm.ClassFile.FieldType.int), Jvm.Cond.code ({ cls := "OccValidator", name := "commit", desc := "(I)I" } : Jvm.MethodName) prog_1_method_5_code (3 : Nat) (Option.some Jvm.ClassFile.FieldType.int), Jvm.Cond.code ({ cls := "OccValidator", name := "isValidTx", desc := "(I)Z" } : Jvm.MethodName) prog_1_method_18_code (2 : Nat) (Option.some Jvm.ClassFile.FieldType.boolean), Jvm.Cond.code ({ cls := "OccValidatorL7", name := "badTx", desc := "(LOccValidator;I)I" } : Jvm.MethodName) method_3_code (3 : Nat) (Option.some Jvm.ClassFile.FieldType.int), Jvm.Cond.code ({ cls := "OccValidator", name := "isActive", desc := "(I)Z" } : Jvm.MethodName) prog_1_method_12_code (2 : Nat) (Option.some Jvm.ClassFile.FieldType.boolean), Jvm.Cond.code ({ cls := "OccValidatorL7", name := "badKey", desc := "(I)I" } : Jvm.MethodName) method_4_code (1 : Nat) (Option.some Jvm.ClassFile.FieldType.int), Jvm.Cond.code ({ cls := "OccValidatorL7", name := "fp", desc := "(LOccValidator;)J" } : Jvm.MethodName) method_2_code (5 : Nat) (Option.some Jvm.ClassFile.FieldType.long), Jvm.Cond.code ({ cls := "OccValidator", name := "getCommitCount", desc := "()I" } : Jvm.MethodName) prog_1_method_9_code (1 : Nat) (Option.some Jvm.ClassFile.FieldType.int), Jvm.Cond.code ({ cls := "OccValidator", name := "getAbortCount", desc := "()I" } : Jvm.MethodName) prog_1_method_10_code (1 : Nat) (Option.some Jvm.ClassFile.FieldType.int), Jvm.Cond.code ({ cls := "OccValidator", name := "getLastConflictKey", desc := "()I" } : Jvm.MethodName) prog_1_method_11_code (1 : Nat) (Option.some Jvm.ClassFile.FieldType.int), Jvm.Cond.code ({ cls := "OccValidator", name := "getValue", desc := "(I)I" } : Jvm.MethodName) prog_1_method_7_code (2 : Nat) (Option.some Jvm.ClassFile.FieldType.int), Jvm.Cond.code ({ cls := "OccValidator", name := "isValidKey", desc := "(I)Z" } : Jvm.MethodName) prog_1_method_19_code (2 : Nat) (Option.some Jvm.ClassFile.FieldType.boolean), Jvm.Cond.code ({ cls := "OccValidator", name := "getVersion", desc := "(I)I" } : Jvm.MethodName) prog_1_method_8_code (2 : Nat) (Option.some Jvm.ClassFile.FieldType.int), Jvm.Cond.code ({ cls := "OccValidator", name := "getStart", desc := "(I)I" } : Jvm.MethodName) prog_1_method_13_code (2 : Nat) (Option.some Jvm.ClassFile.FieldType.int), Jvm.Cond.code ({ cls := "OccValidator", name := "getReadSet", desc := "(I)I" } : Jvm.MethodName) prog_1_method_14_code (2 : Nat) (Option.some Jvm.ClassFile.FieldType.int), Jvm.Cond.code ({ cls := "OccValidator", name := "getWriteSet", desc := "(I)I" } : Jvm.MethodName) prog_1_method_15_code (2 : Nat) (Option.some Jvm.ClassFile.FieldType.int), Jvm.Cond.code ({ cls := "OccValidator", name := "getBuffered", desc := "(II)I" } : Jvm.MethodName) prog_1_method_16_code (3 : Nat) (Option.some Jvm.ClassFile.FieldType.int), Jvm.Cond.code ({ cls := "OccValidator", name := "begin", desc := "()I" } : Jvm.MethodName) prog_1_method_2_code (2 : Nat) (Option.some Jvm.ClassFile.FieldType.int), Jvm.Cond.code ({ cls := "OccValidator", name := "findFreeSlot", desc := "()I" } : Jvm.MethodName) prog_1_method_22_code (2 : Nat) (Option.some Jvm.ClassFile.FieldType.int), Jvm.Cond.code ({ cls := "OccValidator", name := "openSlot", desc := "(I)V" } : Jvm.MethodName) prog_1_method_23_code (2 : Nat) (Option.none : Option Jvm.ClassFile.FieldType), Jvm.Cond.code ({ cls := "OccValidator", name := "clearSlot", desc := "(I)V" } : Jvm.MethodName) prog_1_method_24_code (4 : Nat) (Option.none : Option Jvm.ClassFile.FieldType), Jvm.Cond.code ({ cls := "OccValidator", name := "bit", desc := "(I)I" } : Jvm.MethodName) prog_1_method_20_code (2 : Nat) (Option.some Jvm.ClassFile.FieldType.int), Jvm.Cond.code ({ cls := "OccValidator", name := "write", desc := "(III)I" } : Jvm.MethodName) prog_1_method_4_code (4 : Nat) (Option.some Jvm.ClassFile.FieldType.int), Jvm.Cond.code ({ cls := "OccValidator", name := "read", desc := "(II)I" } : Jvm.MethodName) prog_1_method_3_code (4 : Nat) (Option.some Jvm.ClassFile.FieldType.int), Jvm.Cond.code ({ cls := "OccValidator", name := "bufIndex", desc := "(II)I" } : Jvm.MethodName) prog_1_method_21_code (3 : Nat) (Option.some Jvm.ClassFile.FieldType.int), Jvm.Cond.code ({ cls := "OccValidator", name := "isStale", desc := "(I)Z" } : Jvm.MethodName) prog_1_method_26_code (2 : Nat) (Option.some Jvm.ClassFile.FieldType.boolean), Jvm.Cond.code ({ cls := "OccValidator", name := "leastConflict", desc := "(I)I" } : Jvm.MethodName) prog_1_method_27_code (5 : Nat) (Option.some Jvm.ClassFile.FieldType.int), Jvm.Cond.code ({ cls := "OccValidator", name := "install", desc := "(I)I" } : Jvm.MethodName) prog_1_method_29_code (5 : Nat) (Option.some Jvm.ClassFile.FieldType.int), Jvm.Cond.code ({ cls := "OccValidator", name := "endTx", desc := "(I)V" } : Jvm.MethodName) prog_1_method_25_code (2 : Nat) (Option.none : Option Jvm.ClassFile.FieldType), Jvm.Cond.code ({ cls := "OccValidator", name := "abort", desc := "(I)I" } : Jvm.MethodName) prog_1_method_6_code (2 : Nat) (Option.some Jvm.ClassFile.FieldType.int), Jvm.Cond.code ({ cls := "OccValidator", name := "failCommit", desc := "(III)I" } : Jvm.MethodName) prog_1_method_28_code (4 : Nat) (Option.some Jvm.ClassFile.FieldType.int)]
set_option maxRecDepth 65536 in
theorem codes_eq : words1.filter isCode = codes1 := rfl
theorem w_codes : ∀ c ∈ words1.filter isCode, c.before args0 about1 = true := by
  rw [codes_eq]
  intro c hc
  simp only [codes1, List.mem_cons, List.not_mem_nil, or_false] at hc
  rcases hc with rfl | rfl | rfl | rfl | rfl | rfl | rfl | rfl | rfl | rfl | rfl | rfl | rfl | rfl | rfl | rfl | rfl | rfl | rfl | rfl | rfl | rfl | rfl | rfl | rfl | rfl | rfl | rfl | rfl | rfl | rfl | rfl | rfl | rfl
  · exact w_c0
  · exact w_c1
  · exact w_c2
  · exact w_c3
  · exact w_c4
  · exact w_c5
  · exact w_c6
  · exact w_c7
  · exact w_c8
  · exact w_c9
  · exact w_c10
  · exact w_c11
  · exact w_c12
  · exact w_c13
  · exact w_c14
  · exact w_c15
  · exact w_c16
  · exact w_c17
  · exact w_c18
  · exact w_c19
  · exact w_c20
  · exact w_c21
  · exact w_c22
  · exact w_c23
  · exact w_c24
  · exact w_c25
  · exact w_c26
  · exact w_c27
  · exact w_c28
  · exact w_c29
  · exact w_c30
  · exact w_c31
  · exact w_c32
  · exact w_c33
set_option maxRecDepth 65536 in
theorem w_t1 : (words1.take 24).all (fun c => isCode c || c.before args0 about1) = true := by decide +kernel
set_option maxRecDepth 65536 in
theorem w_t2 : ((words1.drop 24).take 24).all (fun c => isCode c || c.before args0 about1) = true := by decide +kernel
set_option maxRecDepth 65536 in
theorem w_t3 : (((words1.drop 24).drop 24).take 24).all (fun c => isCode c || c.before args0 about1) = true := by decide +kernel
set_option maxRecDepth 65536 in
theorem w_t4 : ((((words1.drop 24).drop 24).drop 24).take 24).all (fun c => isCode c || c.before args0 about1) = true := by decide +kernel
set_option maxRecDepth 65536 in
theorem w_t5 : (((((words1.drop 24).drop 24).drop 24).drop 24).take 24).all (fun c => isCode c || c.before args0 about1) = true := by decide +kernel
set_option maxRecDepth 65536 in
theorem w_t6 : ((((((words1.drop 24).drop 24).drop 24).drop 24).drop 24).take 24).all (fun c => isCode c || c.before args0 about1) = true := by decide +kernel
set_option maxRecDepth 65536 in
theorem w_t7 : (((((((words1.drop 24).drop 24).drop 24).drop 24).drop 24).drop 24).take 24).all (fun c => isCode c || c.before args0 about1) = true := by decide +kernel
set_option maxRecDepth 65536 in
theorem w_t8 : (((((((words1.drop 24).drop 24).drop 24).drop 24).drop 24).drop 24).drop 24).all (fun c => isCode c || c.before args0 about1) = true := by decide +kernel
theorem w_tables : (allAtoms (Jvm.Cond.code x code maxLocals ret :: tables_1)).before args0 about1 = true := by
  rw [allAtoms_all]
  show words1.all (fun c => c.before args0 about1) = true
  refine all_split ?_ w_codes
  rw [← List.take_append_drop 24 words1, List.all_append, w_t1, ← List.take_append_drop 24 (words1.drop 24), List.all_append, w_t2, ← List.take_append_drop 24 ((words1.drop 24).drop 24), List.all_append, w_t3, ← List.take_append_drop 24 (((words1.drop 24).drop 24).drop 24), List.all_append, w_t4, ← List.take_append_drop 24 ((((words1.drop 24).drop 24).drop 24).drop 24), List.all_append, w_t5, ← List.take_append_drop 24 (((((words1.drop 24).drop 24).drop 24).drop 24).drop 24), List.all_append, w_t6, ← List.take_append_drop 24 ((((((words1.drop 24).drop 24).drop 24).drop 24).drop 24).drop 24), List.all_append, w_t7, w_t8]
  rfl
set_option maxRecDepth 65536 in
theorem w_rest : rest_1_c.before args0 about1 = true := by decide +kernel
set_option maxRecDepth 65536 in
theorem w_case : (Jvm.Cond.and given_1 narrow_1).before args0 about1 = true := by decide +kernel
theorem w_applies : (headSpec (Jvm.Cond.code x code maxLocals ret :: tables_1) room_1).applies x e0.platform about1 = true :=
  (Spec.applies_iff w_frames).mpr ⟨w_running, w_runnable, w_alone, w_named, w_hears, w_ripe, w_room, w_tables⟩
theorem atStart : AtStart classFile x code maxLocals ret World_1 tables_1 room_1 Calls_1 rest_1 Pre_1 launch0 p0 e0 about1 theMethod args0 below0 :=
  ⟨lists_1, trivial, launch0.admits_env _ _ _, launch0.least_env, fairChoices_fair.cas, fairChoices_fair.clock, w_frames, w_args, w_heap, w_applies, trivial, w_rest, w_case⟩
end start1
theorem witness_1 : WitnessClaimed_1 := ⟨start1.p0, start1.e0, start1.about1, start1.theMethod, start1.args0, start1.below0, start1.atStart⟩
end Jvm.Pilot.@@N@@
