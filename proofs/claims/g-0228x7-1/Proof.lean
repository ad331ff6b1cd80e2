import JvmDerived
import JvmDerived.Pilot.@@N@@Statement
import JvmDerived.Pilot.@@N@@Code
set_option linter.unusedVariables false
set_option linter.unusedSimpArgs false
namespace Jvm.RoadKit
open Sem ClassFile Op Lib Jvm.Stand Jvm.Free Jvm.LawKit
section New
variable {p : Program} {l : Launch} {e : Env} {R : Room} {s : State} {m : MethodId} {args : Array Value} {below : List Frame} {meth : Method} {c : Code} {T : State} {locs : List Loc} {cells slots : Nat}
theorem retI (X : Stand p l e R s m args below meth c T locs cells slots) (hx : p.tables.exec = Jvm.exec) {pc : Nat} {Ls : Array Slot} {z : Int32} {rest : List Value} (hret : meth.sig.returnType = some .int) (hd : decode c.code pc = .ok (.ireturn, 1)) {fs : List Frame}
    (hl : ∀ (f : JFrame) (acts : List Action), f.method = m → f.locked = none → f.entered = [] → (doReturn e (T.setTop f) acts (some (.int z))).1 = T.setFrames fs) : Steps p.tables e below (T.setTop (mkF m pc Ls (.int z :: rest))) (T.setFrames fs) := by
  have hm' : T.vm.method? m = some meth := X.method'
  have hn : narrow .int (.int z) = .int z := rfl
  show Steps p.tables e below (T.setTop { method := m, pc := pc, locals := Ls, stack := _ :: rest, locked := none }) _
  jvm_step X.here [X.here.top, hx, hd, hm', hret, hn]
  first | (intro acts; rw [hl _ acts rfl rfl rfl]) | rw [hl _ _ rfl rfl rfl]
  exact Steps.refl _
end New
end Jvm.RoadKit
namespace Jvm.Pilot.@@N@@
open Jvm Jvm.ClassFile Sem Op Lib Jvm.Free Jvm.Stand Jvm.LawKit Jvm.RoadKit Bundle Jvm.Pilot.@@N@@.Jvm.D
/-! TABLES of this claim: printed by claim.py -/
def k0 : Nat := 1
def cName : String := "PivotSheet"
def cN : Nat := 21
def nF : Nat := 21
def kName (k : Nat) : String := bif Nat.beq k 0 then "PivotSheetL5" else "PivotSheet"
def fNm (k : Nat) : String := (bif Nat.ble 10 k then (bif Nat.ble 15 k then (bif Nat.ble 18 k then (bif Nat.ble 19 k then (bif Nat.ble 20 k then "selCk" else "selUseC") else "selRk") else (bif Nat.ble 16 k then (bif Nat.ble 17 k then "selUseR" else "gCount") else "gVal")) else (bif Nat.ble 12 k then (bif Nat.ble 13 k then (bif Nat.ble 14 k then "last" else "nForms") else "nRows") else (bif Nat.ble 11 k then "keys" else "prevFound"))) else (bif Nat.ble 5 k then (bif Nat.ble 7 k then (bif Nat.ble 8 k then (bif Nat.ble 9 k then "prevVal" else "fCk") else "fRk") else (bif Nat.ble 6 k then "fMode" else "ag")) else (bif Nat.ble 2 k then (bif Nat.ble 3 k then (bif Nat.ble 4 k then "vf" else "cf") else "rf") else (bif Nat.ble 1 k then "filled" else "data"))))
def fDs (k : Nat) : String := (bif Nat.ble 10 k then (bif Nat.ble 15 k then (bif Nat.ble 18 k then (bif Nat.ble 19 k then (bif Nat.ble 20 k then "I" else "Z") else "I") else (bif Nat.ble 16 k then (bif Nat.ble 17 k then "Z" else "I") else "I")) else (bif Nat.ble 12 k then (bif Nat.ble 13 k then (bif Nat.ble 14 k then "I" else "I") else "I") else (bif Nat.ble 11 k then "[I" else "[Z"))) else (bif Nat.ble 5 k then (bif Nat.ble 7 k then (bif Nat.ble 8 k then (bif Nat.ble 9 k then "[I" else "[I") else "[I") else (bif Nat.ble 6 k then "[I" else "I")) else (bif Nat.ble 2 k then (bif Nat.ble 3 k then (bif Nat.ble 4 k then "I" else "I") else "I") else (bif Nat.ble 1 k then "[Z" else "[I"))))
def fTy (k : Nat) : FieldType := (bif Nat.ble 10 k then (bif Nat.ble 15 k then (bif Nat.ble 18 k then (bif Nat.ble 19 k then (bif Nat.ble 20 k then .int else .boolean) else .int) else (bif Nat.ble 16 k then (bif Nat.ble 17 k then .boolean else .int) else .int)) else (bif Nat.ble 12 k then (bif Nat.ble 13 k then (bif Nat.ble 14 k then .int else .int) else .int) else (bif Nat.ble 11 k then (.array .int) else (.array .boolean)))) else (bif Nat.ble 5 k then (bif Nat.ble 7 k then (bif Nat.ble 8 k then (bif Nat.ble 9 k then (.array .int) else (.array .int)) else (.array .int)) else (bif Nat.ble 6 k then (.array .int) else .int)) else (bif Nat.ble 2 k then (bif Nat.ble 3 k then (bif Nat.ble 4 k then .int else .int) else .int) else (bif Nat.ble 1 k then (.array .boolean) else (.array .int)))))
def fFin (k : Nat) : Bool := (bif Nat.ble 10 k then (bif Nat.ble 15 k then (bif Nat.ble 18 k then (bif Nat.ble 19 k then (bif Nat.ble 20 k then false else false) else false) else (bif Nat.ble 16 k then (bif Nat.ble 17 k then false else false) else false)) else (bif Nat.ble 12 k then (bif Nat.ble 13 k then (bif Nat.ble 14 k then false else false) else false) else (bif Nat.ble 11 k then false else false))) else (bif Nat.ble 5 k then (bif Nat.ble 7 k then (bif Nat.ble 8 k then (bif Nat.ble 9 k then false else false) else false) else (bif Nat.ble 6 k then false else false)) else (bif Nat.ble 2 k then (bif Nat.ble 3 k then (bif Nat.ble 4 k then false else false) else false) else (bif Nat.ble 1 k then false else false))))
def cDef : List Value := [.null, .null, .int 0, .int 0, .int 0, .int 0, .null, .null, .null, .null, .null, .null, .int 0, .int 0, .int 0, .int 0, .int 0, .int 0, .int 0, .int 0, .int 0]
def cK : List Value := []
def pN : Nat := 25
def pTop (m : Nat) : Nat := (bif Nat.ble 12 m then (bif Nat.ble 18 m then (bif Nat.ble 21 m then (bif Nat.ble 23 m then (bif Nat.ble 24 m then 36 else 130) else (bif Nat.ble 22 m then 36 else 32)) else (bif Nat.ble 19 m then (bif Nat.ble 20 m then 28 else 11) else 111)) else (bif Nat.ble 15 m then (bif Nat.ble 16 m then (bif Nat.ble 17 m then 50 else 10) else 30) else (bif Nat.ble 13 m then (bif Nat.ble 14 m then 17 else 66) else 15))) else (bif Nat.ble 6 m then (bif Nat.ble 9 m then (bif Nat.ble 10 m then (bif Nat.ble 11 m then 74 else 64) else 39) else (bif Nat.ble 7 m then (bif Nat.ble 8 m then 181 else 75) else 50)) else (bif Nat.ble 3 m then (bif Nat.ble 4 m then (bif Nat.ble 5 m then 18 else 53) else 18) else (bif Nat.ble 1 m then (bif Nat.ble 2 m then 45 else 147) else 445))))
def pK (m : Nat) : Nat := (bif Nat.ble 12 m then (bif Nat.ble 18 m then (bif Nat.ble 21 m then (bif Nat.ble 23 m then (bif Nat.ble 24 m then 1 else 1) else (bif Nat.ble 22 m then 1 else 1)) else (bif Nat.ble 19 m then (bif Nat.ble 20 m then 1 else 1) else 1)) else (bif Nat.ble 15 m then (bif Nat.ble 16 m then (bif Nat.ble 17 m then 1 else 1) else 1) else (bif Nat.ble 13 m then (bif Nat.ble 14 m then 1 else 1) else 1))) else (bif Nat.ble 6 m then (bif Nat.ble 9 m then (bif Nat.ble 10 m then (bif Nat.ble 11 m then 1 else 1) else 1) else (bif Nat.ble 7 m then (bif Nat.ble 8 m then 1 else 1) else 1)) else (bif Nat.ble 3 m then (bif Nat.ble 4 m then (bif Nat.ble 5 m then 1 else 1) else 1) else (bif Nat.ble 1 m then (bif Nat.ble 2 m then 1 else 1) else 0))))
def pNm (m : Nat) : String := (bif Nat.ble 12 m then (bif Nat.ble 18 m then (bif Nat.ble 21 m then (bif Nat.ble 23 m then (bif Nat.ble 24 m then "groupCount" else "resolve") else (bif Nat.ble 22 m then "value" else "colKey")) else (bif Nat.ble 19 m then (bif Nat.ble 20 m then "rowKey" else "colKeyCount") else "insertKey")) else (bif Nat.ble 15 m then (bif Nat.ble 16 m then (bif Nat.ble 17 m then "buildKeys" else "rowKeyCount") else "getCell") else (bif Nat.ble 13 m then (bif Nat.ble 14 m then "isFilled" else "clearRow") else "validField"))) else (bif Nat.ble 6 m then (bif Nat.ble 9 m then (bif Nat.ble 10 m then (bif Nat.ble 11 m then "setPivot" else "countChanged") else "pickAgg") else (bif Nat.ble 7 m then (bif Nat.ble 8 m then "evalGroup" else "evalFormula") else "snapshot")) else (bif Nat.ble 3 m then (bif Nat.ble 4 m then (bif Nat.ble 5 m then "validRow" else "setCell") else "validSlot") else (bif Nat.ble 1 m then (bif Nat.ble 2 m then "setFormula" else "<init>") else "law"))))
def pDs (m : Nat) : String := (bif Nat.ble 12 m then (bif Nat.ble 18 m then (bif Nat.ble 21 m then (bif Nat.ble 23 m then (bif Nat.ble 24 m then "(II)I" else "(II)Z") else (bif Nat.ble 22 m then "(II)I" else "(I)I")) else (bif Nat.ble 19 m then (bif Nat.ble 20 m then "(I)I" else "()I") else "(III)I")) else (bif Nat.ble 15 m then (bif Nat.ble 16 m then (bif Nat.ble 17 m then "(II)I" else "()I") else "(II)I") else (bif Nat.ble 13 m then (bif Nat.ble 14 m then "(I)Z" else "(I)Z") else "(I)Z"))) else (bif Nat.ble 6 m then (bif Nat.ble 9 m then (bif Nat.ble 10 m then (bif Nat.ble 11 m then "(IIII)Z" else "()I") else "(IIII)I") else (bif Nat.ble 7 m then (bif Nat.ble 8 m then "(ZIZI)V" else "(I)V") else "()V")) else (bif Nat.ble 3 m then (bif Nat.ble 4 m then (bif Nat.ble 5 m then "(I)Z" else "(III)Z") else "(I)Z") else (bif Nat.ble 1 m then (bif Nat.ble 2 m then "(IIII)Z" else "(II)V") else "([I)Z"))))
def pName (m : Nat) : MethodName := ⟨kName (pK m), pNm m, pDs m⟩
def pBytes (m : Nat) : ByteArray := (bif Nat.ble 12 m then (bif Nat.ble 18 m then (bif Nat.ble 21 m then (bif Nat.ble 23 m then (bif Nat.ble 24 m then prog_1_method_12_code else prog_1_method_22_code) else (bif Nat.ble 22 m then prog_1_method_11_code else prog_1_method_10_code)) else (bif Nat.ble 19 m then (bif Nat.ble 20 m then prog_1_method_9_code else prog_1_method_8_code) else prog_1_method_21_code)) else (bif Nat.ble 15 m then (bif Nat.ble 16 m then (bif Nat.ble 17 m then prog_1_method_20_code else prog_1_method_7_code) else prog_1_method_4_code) else (bif Nat.ble 13 m then (bif Nat.ble 14 m then prog_1_method_5_code else prog_1_method_3_code) else prog_1_method_18_code))) else (bif Nat.ble 6 m then (bif Nat.ble 9 m then (bif Nat.ble 10 m then (bif Nat.ble 11 m then prog_1_method_6_code else prog_1_method_27_code) else prog_1_method_24_code) else (bif Nat.ble 7 m then (bif Nat.ble 8 m then prog_1_method_23_code else prog_1_method_25_code) else prog_1_method_26_code)) else (bif Nat.ble 3 m then (bif Nat.ble 4 m then (bif Nat.ble 5 m then prog_1_method_17_code else prog_1_method_2_code) else prog_1_method_19_code) else (bif Nat.ble 1 m then (bif Nat.ble 2 m then prog_1_method_13_code else prog_1_method_1_code) else code))))
def pMaxL (m : Nat) : Nat := (bif Nat.ble 12 m then (bif Nat.ble 18 m then (bif Nat.ble 21 m then (bif Nat.ble 23 m then (bif Nat.ble 24 m then 3 else 5) else (bif Nat.ble 22 m then 3 else 3)) else (bif Nat.ble 19 m then (bif Nat.ble 20 m then 3 else 1) else 6)) else (bif Nat.ble 15 m then (bif Nat.ble 16 m then (bif Nat.ble 17 m then 5 else 1) else 3) else (bif Nat.ble 13 m then (bif Nat.ble 14 m then 2 else 3) else 2))) else (bif Nat.ble 6 m then (bif Nat.ble 9 m then (bif Nat.ble 10 m then (bif Nat.ble 11 m then 5 else 4) else 5) else (bif Nat.ble 7 m then (bif Nat.ble 8 m then 12 else 5) else 2)) else (bif Nat.ble 3 m then (bif Nat.ble 4 m then (bif Nat.ble 5 m then 2 else 4) else 2) else (bif Nat.ble 1 m then (bif Nat.ble 2 m then 5 else 5) else 21))))
def pRet (m : Nat) : Option FieldType := (bif Nat.ble 12 m then (bif Nat.ble 18 m then (bif Nat.ble 21 m then (bif Nat.ble 23 m then (bif Nat.ble 24 m then (some .int) else (some .boolean)) else (bif Nat.ble 22 m then (some .int) else (some .int))) else (bif Nat.ble 19 m then (bif Nat.ble 20 m then (some .int) else (some .int)) else (some .int))) else (bif Nat.ble 15 m then (bif Nat.ble 16 m then (bif Nat.ble 17 m then (some .int) else (some .int)) else (some .int)) else (bif Nat.ble 13 m then (bif Nat.ble 14 m then (some .boolean) else (some .boolean)) else (some .boolean)))) else (bif Nat.ble 6 m then (bif Nat.ble 9 m then (bif Nat.ble 10 m then (bif Nat.ble 11 m then (some .boolean) else (some .int)) else (some .int)) else (bif Nat.ble 7 m then (bif Nat.ble 8 m then none else none) else none)) else (bif Nat.ble 3 m then (bif Nat.ble 4 m then (bif Nat.ble 5 m then (some .boolean) else (some .boolean)) else (some .boolean)) else (bif Nat.ble 1 m then (bif Nat.ble 2 m then (some .boolean) else none) else (some .boolean)))))
def pNA (m : Nat) : Nat := (bif Nat.ble 12 m then (bif Nat.ble 18 m then (bif Nat.ble 21 m then (bif Nat.ble 23 m then (bif Nat.ble 24 m then 2 else 2) else (bif Nat.ble 22 m then 2 else 1)) else (bif Nat.ble 19 m then (bif Nat.ble 20 m then 1 else 0) else 3)) else (bif Nat.ble 15 m then (bif Nat.ble 16 m then (bif Nat.ble 17 m then 2 else 0) else 2) else (bif Nat.ble 13 m then (bif Nat.ble 14 m then 1 else 1) else 1))) else (bif Nat.ble 6 m then (bif Nat.ble 9 m then (bif Nat.ble 10 m then (bif Nat.ble 11 m then 4 else 0) else 4) else (bif Nat.ble 7 m then (bif Nat.ble 8 m then 4 else 1) else 0)) else (bif Nat.ble 3 m then (bif Nat.ble 4 m then (bif Nat.ble 5 m then 1 else 3) else 1) else (bif Nat.ble 1 m then (bif Nat.ble 2 m then 4 else 2) else 1))))
def pFr (m : Nat) : Nat := (bif Nat.ble 12 m then (bif Nat.ble 18 m then (bif Nat.ble 21 m then (bif Nat.ble 23 m then (bif Nat.ble 24 m then 3 else 2) else (bif Nat.ble 22 m then 3 else 2)) else (bif Nat.ble 19 m then (bif Nat.ble 20 m then 2 else 2) else 0)) else (bif Nat.ble 15 m then (bif Nat.ble 16 m then (bif Nat.ble 17 m then 1 else 2) else 1) else (bif Nat.ble 13 m then (bif Nat.ble 14 m then 1 else 4) else 0))) else (bif Nat.ble 6 m then (bif Nat.ble 9 m then (bif Nat.ble 10 m then (bif Nat.ble 11 m then 4 else 3) else 0) else (bif Nat.ble 7 m then (bif Nat.ble 8 m then 1 else 2) else 3)) else (bif Nat.ble 3 m then (bif Nat.ble 4 m then (bif Nat.ble 5 m then 0 else 4) else 0) else (bif Nat.ble 1 m then (bif Nat.ble 2 m then 1 else 1) else 5))))
def pLo (m : Nat) : Nat := (bif Nat.ble 12 m then (bif Nat.ble 18 m then (bif Nat.ble 21 m then (bif Nat.ble 23 m then (bif Nat.ble 24 m then 49 else 33) else (bif Nat.ble 22 m then 49 else 33)) else (bif Nat.ble 19 m then (bif Nat.ble 20 m then 33 else 33) else 0)) else (bif Nat.ble 15 m then (bif Nat.ble 16 m then (bif Nat.ble 17 m then 17 else 33) else 13) else (bif Nat.ble 13 m then (bif Nat.ble 14 m then 13 else 72) else 0))) else (bif Nat.ble 6 m then (bif Nat.ble 9 m then (bif Nat.ble 10 m then (bif Nat.ble 11 m then 72 else 56) else 0) else (bif Nat.ble 7 m then (bif Nat.ble 8 m then 17 else 40) else 56)) else (bif Nat.ble 3 m then (bif Nat.ble 4 m then (bif Nat.ble 5 m then 0 else 72) else 0) else (bif Nat.ble 1 m then (bif Nat.ble 2 m then 13 else 12) else 88))))
def tB (k p : Nat) (a b : Option (Instr × Nat)) : Option (Instr × Nat) := bif Nat.ble k p then a else b
def tL (k p : Nat) (i : Instr) (x : Nat) : Option (Instr × Nat) := bif Nat.beq p k then some (i, x) else none
set_option maxHeartbeats 4000000 in
def cd0 (p : Nat) : Option (Instr × Nat) := (tB 205 p (tB 326 p (tB 383 p (tB 413 p (tB 429 p (tB 437 p (tB 443 p (tB 444 p (tL 444 p .ireturn 0) (tL 443 p (.iconst 1) 0)) (tB 440 p (tL 440 p (.goto (-138)) 302) (tL 437 p (.iinc 11 1) 0))) (tB 431 p (tB 434 p (tL 434 p (.goto (-70)) 364) (tL 431 p (.iinc 16 1) 0)) (tB 430 p (tL 430 p .ireturn 0) (tL 429 p (.iconst 0) 0)))) (tB 420 p (tB 424 p (tB 426 p (tL 426 p (.if_icmp .eq 5) 431) (tL 424 p (.iload 20) 0)) (tB 422 p (tL 422 p (.iload 19) 0) (tL 420 p (.istore 20) 0))) (tB 415 p (tB 417 p (tL 417 p (.invokevirtual 51) 24) (tL 415 p (.iload 16) 0)) (tL 413 p (.iload 11) 0)))) (tB 399 p (tB 404 p (tB 409 p (tB 411 p (tL 411 p (.aload 6) 0) (tL 409 p (.istore 19) 0)) (tB 406 p (tL 406 p (.invokevirtual 51) 24) (tL 404 p (.iload 16) 0))) (tB 401 p (tB 402 p (tL 402 p (.iload 11) 0) (tL 401 p (.aload_n 1) 0)) (tB 400 p (tL 400 p .ireturn 0) (tL 399 p (.iconst 0) 0)))) (tB 390 p (tB 394 p (tB 396 p (tL 396 p (.if_icmp .eq 5) 401) (tL 394 p (.iload 18) 0)) (tB 392 p (tL 392 p (.iload 17) 0) (tL 390 p (.istore 18) 0))) (tB 385 p (tB 387 p (tL 387 p (.invokevirtual 48) 22) (tL 385 p (.iload 16) 0)) (tL 383 p (.iload 11) 0))))) (tB 354 p (tB 366 p (tB 374 p (tB 379 p (tB 381 p (tL 381 p (.aload 6) 0) (tL 379 p (.istore 17) 0)) (tB 376 p (tL 376 p (.invokevirtual 48) 22) (tL 374 p (.iload 16) 0))) (tB 371 p (tB 372 p (tL 372 p (.iload 11) 0) (tL 371 p (.aload_n 1) 0)) (tB 368 p (tL 368 p (.if_icmp .ge 69) 437) (tL 366 p (.bipush 8) 0)))) (tB 360 p (tB 362 p (tB 364 p (tL 364 p (.iload 16) 0) (tL 362 p (.istore 16) 0)) (tB 361 p (tL 361 p (.iconst (-1)) 0) (tL 360 p .ireturn 0))) (tB 356 p (tB 359 p (tL 359 p (.iconst 0) 0) (tL 356 p (.if_icmp .eq 5) 361)) (tL 354 p (.iload 15) 0)))) (tB 338 p (tB 345 p (tB 350 p (tB 352 p (tL 352 p (.iload 14) 0) (tL 350 p (.istore 15) 0)) (tB 347 p (tL 347 p (.invokevirtual 45) 21) (tL 345 p (.iload 11) 0))) (tB 341 p (tB 343 p (tL 343 p (.aload 6) 0) (tL 341 p (.istore 14) 0)) (tL 338 p (.invokevirtual 45) 21))) (tB 333 p (tB 335 p (tB 336 p (tL 336 p (.iload 11) 0) (tL 335 p (.aload_n 1) 0)) (tB 334 p (tL 334 p .ireturn 0) (tL 333 p (.iconst 0) 0))) (tB 328 p (tB 330 p (tL 330 p (.if_icmp .eq 5) 335) (tL 328 p (.iload 13) 0)) (tL 326 p (.iload 12) 0)))))) (tB 266 p (tB 297 p (tB 309 p (tB 317 p (tB 321 p (tB 324 p (tL 324 p (.istore 13) 0) (tL 321 p (.invokevirtual 41) 20)) (tB 319 p (tL 319 p (.iload 11) 0) (tL 317 p (.aload 6) 0))) (tB 312 p (tB 315 p (tL 315 p (.istore 12) 0) (tL 312 p (.invokevirtual 41) 20)) (tB 310 p (tL 310 p (.iload 11) 0) (tL 309 p (.aload_n 1) 0)))) (tB 300 p (tB 304 p (tB 306 p (tL 306 p (.if_icmp .ge 137) 443) (tL 304 p (.bipush 8) 0)) (tB 302 p (tL 302 p (.iload 11) 0) (tL 300 p (.istore 11) 0))) (tB 298 p (tB 299 p (tL 299 p (.iconst (-1)) 0) (tL 298 p .ireturn 0)) (tL 297 p (.iconst 0) 0)))) (tB 278 p (tB 288 p (tB 292 p (tB 294 p (tL 294 p (.if_icmp .eq 5) 299) (tL 292 p (.iload 10) 0)) (tB 290 p (tL 290 p (.iload 9) 0) (tL 288 p (.istore 10) 0))) (tB 283 p (tB 285 p (tL 285 p (.invokevirtual 38) 19) (tL 283 p (.aload 6) 0)) (tB 281 p (tL 281 p (.istore 9) 0) (tL 278 p (.invokevirtual 38) 19)))) (tB 272 p (tB 276 p (tB 277 p (tL 277 p (.aload_n 1) 0) (tL 276 p .ireturn 0)) (tB 275 p (tL 275 p (.iconst 0) 0) (tL 272 p (.if_icmp .eq 5) 277))) (tB 268 p (tB 270 p (tL 270 p (.iload 8) 0) (tL 268 p (.iload 7) 0)) (tL 266 p (.istore 8) 0))))) (tB 234 p (tB 249 p (tB 256 p (tB 261 p (tB 263 p (tL 263 p (.invokevirtual 34) 16) (tL 261 p (.aload 6) 0)) (tB 259 p (tL 259 p (.istore 7) 0) (tL 256 p (.invokevirtual 34) 16))) (tB 254 p (tB 255 p (tL 255 p (.aload_n 1) 0) (tL 254 p .pop 0)) (tB 251 p (tL 251 p (.invokevirtual 20) 11) (tL 249 p (.iload 5) 0)))) (tB 243 p (tB 246 p (tB 247 p (tL 247 p (.iload 4) 0) (tL 246 p (.iload_n 3) 0)) (tB 245 p (tL 245 p (.iload_n 2) 0) (tL 243 p (.aload 6) 0))) (tB 237 p (tB 240 p (tL 240 p (.goto (-60)) 180) (tL 237 p (.iinc 7 1) 0)) (tL 234 p (.goto (-31)) 203)))) (tB 219 p (tB 225 p (tB 230 p (tB 231 p (tL 231 p (.iinc 9 1) 0) (tL 230 p .pop 0)) (tB 227 p (tL 227 p (.invokevirtual 12) 4) (tL 225 p (.iload 10) 0))) (tB 221 p (tB 223 p (tL 223 p (.iload 9) 0) (tL 221 p (.iload 7) 0)) (tL 219 p (.aload 6) 0))) (tB 210 p (tB 214 p (tB 217 p (tL 217 p (.istore 10) 0) (tL 214 p (.invokevirtual 30) 15)) (tB 212 p (tL 212 p (.iload 9) 0) (tL 210 p (.iload 7) 0))) (tB 206 p (tB 209 p (tL 209 p (.aload_n 1) 0) (tL 206 p (.if_icmp .ge 31) 237)) (tL 205 p (.iconst 4) 0))))))) (tB 85 p (tB 143 p (tB 175 p (tB 188 p (tB 197 p (tB 201 p (tB 203 p (tL 203 p (.iload 9) 0) (tL 201 p (.istore 9) 0)) (tB 200 p (tL 200 p (.iconst 0) 0) (tL 197 p (.ifCond .eq 40) 237))) (tB 193 p (tB 195 p (tL 195 p (.iload 8) 0) (tL 193 p (.istore 8) 0)) (tB 190 p (tL 190 p (.invokevirtual 27) 14) (tL 188 p (.iload 7) 0)))) (tB 180 p (tB 184 p (tB 187 p (tL 187 p (.aload_n 1) 0) (tL 184 p (.if_icmp .ge 59) 243)) (tB 182 p (tL 182 p (.bipush 8) 0) (tL 180 p (.iload 7) 0))) (tB 177 p (tB 178 p (tL 178 p (.istore 7) 0) (tL 177 p (.iconst 0) 0)) (tL 175 p (.astore 6) 0)))) (tB 158 p (tB 168 p (tB 171 p (tB 172 p (tL 172 p (.invokespecial 9) 1) (tL 171 p (.iconst 1) 0)) (tB 169 p (tL 169 p (.bipush 8) 0) (tL 168 p .dup 0))) (tB 162 p (tB 165 p (tL 165 p (.new 7) 0) (tL 162 p (.goto (-138)) 24)) (tB 159 p (tL 159 p (.iinc 6 5) 0) (tL 158 p .pop 0)))) (tB 149 p (tB 153 p (tB 155 p (tL 155 p (.invokevirtual 24) 2) (tL 153 p (.iload 11) 0)) (tB 151 p (tL 151 p (.iload 10) 0) (tL 149 p (.iload 9) 0))) (tB 146 p (tB 147 p (tL 147 p (.iload 8) 0) (tL 146 p (.aload_n 1) 0)) (tL 143 p (.goto 16) 159))))) (tB 114 p (tB 129 p (tB 135 p (tB 139 p (tB 141 p (tL 141 p (.istore 5) 0) (tL 139 p (.iload 11) 0)) (tB 137 p (tL 137 p (.istore 4) 0) (tL 135 p (.iload 10) 0))) (tB 132 p (tB 134 p (tL 134 p (.istore_n 3) 0) (tL 132 p (.iload 9) 0)) (tB 131 p (tL 131 p (.istore_n 2) 0) (tL 129 p (.iload 8) 0)))) (tB 119 p (tB 123 p (tB 126 p (tL 126 p (.ifCond .eq 33) 159) (tL 123 p (.invokevirtual 20) 11)) (tB 121 p (tL 121 p (.iload 11) 0) (tL 119 p (.iload 10) 0))) (tB 115 p (tB 117 p (tL 117 p (.iload 9) 0) (tL 115 p (.iload 8) 0)) (tL 114 p (.aload_n 1) 0)))) (tB 99 p (tB 105 p (tB 110 p (tB 111 p (tL 111 p (.if_icmp .ne 35) 146) (tL 110 p (.iconst 2) 0)) (tB 108 p (tL 108 p (.iload 7) 0) (tL 105 p (.goto 54) 159))) (tB 101 p (tB 104 p (tL 104 p .pop 0) (tL 101 p (.invokevirtual 16) 13)) (tL 99 p (.iload 8) 0))) (tB 92 p (tB 95 p (tB 98 p (tL 98 p (.aload_n 1) 0) (tL 95 p (.if_icmp .ne 13) 108)) (tB 94 p (tL 94 p (.iconst 1) 0) (tL 92 p (.iload 7) 0))) (tB 88 p (tB 89 p (tL 89 p (.goto 70) 159) (tL 88 p .pop 0)) (tL 85 p (.invokevirtual 12) 4)))))) (tB 42 p (tB 61 p (tB 70 p (tB 78 p (tB 81 p (tB 83 p (tL 83 p (.iload 10) 0) (tL 81 p (.iload 9) 0)) (tB 79 p (tL 79 p (.iload 8) 0) (tL 78 p (.aload_n 1) 0))) (tB 73 p (tB 75 p (tL 75 p (.ifCond .ne 17) 92) (tL 73 p (.iload 7) 0)) (tB 71 p (tL 71 p (.istore 11) 0) (tL 70 p .iaload 0)))) (tB 65 p (tB 68 p (tB 69 p (tL 69 p .iadd 0) (tL 68 p (.iconst 4) 0)) (tB 66 p (tL 66 p (.iload 6) 0) (tL 65 p (.aload_n 0) 0))) (tB 62 p (tB 63 p (tL 63 p (.istore 10) 0) (tL 62 p .iaload 0)) (tL 61 p .iadd 0)))) (tB 52 p (tB 55 p (tB 58 p (tB 60 p (tL 60 p (.iconst 3) 0) (tL 58 p (.iload 6) 0)) (tB 57 p (tL 57 p (.aload_n 0) 0) (tL 55 p (.istore 9) 0))) (tB 53 p (tB 54 p (tL 54 p .iaload 0) (tL 53 p .iadd 0)) (tL 52 p (.iconst 2) 0))) (tB 46 p (tB 49 p (tB 50 p (tL 50 p (.iload 6) 0) (tL 49 p (.aload_n 0) 0)) (tB 47 p (tL 47 p (.istore 8) 0) (tL 46 p .iaload 0))) (tB 44 p (tB 45 p (tL 45 p .iadd 0) (tL 44 p (.iconst 1) 0)) (tL 42 p (.iload 6) 0))))) (tB 21 p (tB 30 p (tB 37 p (tB 39 p (tB 41 p (tL 41 p (.aload_n 0) 0) (tL 39 p (.istore 7) 0)) (tB 38 p (tL 38 p .iand 0) (tL 37 p (.iconst 3) 0))) (tB 34 p (tB 36 p (tL 36 p .iaload 0) (tL 34 p (.iload 6) 0)) (tB 33 p (tL 33 p (.aload_n 0) 0) (tL 30 p (.if_icmp .gt 135) 165)))) (tB 26 p (tB 28 p (tB 29 p (tL 29 p .arraylength 0) (tL 28 p (.aload_n 0) 0)) (tB 27 p (tL 27 p .iadd 0) (tL 26 p (.iconst 5) 0))) (tB 22 p (tB 24 p (tL 24 p (.iload 6) 0) (tL 22 p (.istore 6) 0)) (tL 21 p (.iconst 0) 0)))) (tB 12 p (tB 15 p (tB 18 p (tB 19 p (tL 19 p (.istore 5) 0) (tL 18 p (.iconst 0) 0)) (tB 16 p (tL 16 p (.istore 4) 0) (tL 15 p (.iconst 2) 0))) (tB 13 p (tB 14 p (tL 14 p (.istore_n 3) 0) (tL 13 p (.iconst 1) 0)) (tL 12 p (.istore_n 2) 0))) (tB 6 p (tB 10 p (tB 11 p (tL 11 p (.iconst 0) 0) (tL 10 p (.astore_n 1) 0)) (tB 7 p (tL 7 p (.invokespecial 9) 1) (tL 6 p (.iconst 4) 0))) (tB 3 p (tB 4 p (tL 4 p (.bipush 8) 0) (tL 3 p .dup 0)) (tL 0 p (.new 7) 0))))))))
set_option maxHeartbeats 4000000 in
def cd1 (p : Nat) : Option (Instr × Nat) := (tB 76 p (tB 110 p (tB 130 p (tB 138 p (tB 142 p (tB 143 p (tB 146 p (tL 146 p .return_ 0) (tL 143 p (.putfield 54) 14)) (tL 142 p (.iconst 0) 0)) (tB 141 p (tL 141 p (.aload_n 0) 0) (tL 138 p (.putfield 51) 13))) (tB 132 p (tB 135 p (tB 136 p (tL 136 p (.iload 4) 0) (tL 135 p (.aload_n 0) 0)) (tL 132 p (.putfield 48) 12)) (tB 131 p (tL 131 p (.iload_n 3) 0) (tL 130 p (.aload_n 0) 0)))) (tB 119 p (tB 123 p (tB 126 p (tB 128 p (tL 128 p (.istore 4) 0) (tL 126 p (.bipush 16) 0)) (tL 123 p (.if_icmp .le 7) 130)) (tB 121 p (tL 121 p (.bipush 16) 0) (tL 119 p (.iload 4) 0))) (tB 113 p (tB 116 p (tB 117 p (tL 117 p (.istore 4) 0) (tL 116 p (.iconst 1) 0)) (tL 113 p (.if_icmp .ge 6) 119)) (tB 112 p (tL 112 p (.iconst 1) 0) (tL 110 p (.iload 4) 0))))) (tB 93 p (tB 101 p (tB 106 p (tB 107 p (tB 108 p (tL 108 p (.istore 4) 0) (tL 107 p (.iload_n 2) 0)) (tL 106 p (.istore_n 3) 0)) (tB 104 p (tL 104 p (.bipush 32) 0) (tL 101 p (.if_icmp .le 6) 107))) (tB 97 p (tB 98 p (tB 99 p (tL 99 p (.bipush 32) 0) (tL 98 p (.iload_n 3) 0)) (tL 97 p (.istore_n 3) 0)) (tB 96 p (tL 96 p (.iconst 4) 0) (tL 93 p (.if_icmp .ge 5) 98)))) (tB 86 p (tB 90 p (tB 91 p (tB 92 p (tL 92 p (.iconst 4) 0) (tL 91 p (.iload_n 3) 0)) (tL 90 p (.istore_n 3) 0)) (tB 89 p (tL 89 p (.iload_n 1) 0) (tL 86 p (.putfield 45) 11))) (tB 81 p (tB 82 p (tB 84 p (tL 84 p (.newarray .int) 0) (tL 82 p (.bipush 64) 0)) (tL 81 p (.aload_n 0) 0)) (tB 78 p (tL 78 p (.putfield 42) 10) (tL 76 p (.newarray .boolean) 0)))))) (tB 37 p (tB 57 p (tB 66 p (tB 70 p (tB 73 p (tB 74 p (tL 74 p (.bipush 16) 0) (tL 73 p (.aload_n 0) 0)) (tL 70 p (.putfield 39) 9)) (tB 68 p (tL 68 p (.newarray .int) 0) (tL 66 p (.bipush 16) 0))) (tB 60 p (tB 62 p (tB 65 p (tL 65 p (.aload_n 0) 0) (tL 62 p (.putfield 36) 8)) (tL 60 p (.newarray .int) 0)) (tB 58 p (tL 58 p (.bipush 16) 0) (tL 57 p (.aload_n 0) 0)))) (tB 46 p (tB 50 p (tB 52 p (tB 54 p (tL 54 p (.putfield 33) 7) (tL 52 p (.newarray .int) 0)) (tL 50 p (.bipush 16) 0)) (tB 49 p (tL 49 p (.aload_n 0) 0) (tL 46 p (.putfield 30) 6))) (tB 41 p (tB 42 p (tB 44 p (tL 44 p (.newarray .int) 0) (tL 42 p (.bipush 16) 0)) (tL 41 p (.aload_n 0) 0)) (tB 38 p (tL 38 p (.putfield 27) 5) (tL 37 p (.iconst 0) 0))))) (tB 21 p (tB 28 p (tB 32 p (tB 33 p (tB 36 p (tL 36 p (.aload_n 0) 0) (tL 33 p (.putfield 24) 4)) (tL 32 p (.iconst 2) 0)) (tB 31 p (tL 31 p (.aload_n 0) 0) (tL 28 p (.putfield 21) 3))) (tB 23 p (tB 26 p (tB 27 p (tL 27 p (.iconst 1) 0) (tL 26 p (.aload_n 0) 0)) (tL 23 p (.putfield 17) 2)) (tB 22 p (tL 22 p (.iconst 0) 0) (tL 21 p (.aload_n 0) 0)))) (tB 10 p (tB 14 p (tB 16 p (tB 18 p (tL 18 p (.putfield 13) 1) (tL 16 p (.newarray .boolean) 0)) (tL 14 p (.bipush 32) 0)) (tB 13 p (tL 13 p (.aload_n 0) 0) (tL 10 p (.putfield 7) 0))) (tB 4 p (tB 5 p (tB 8 p (tL 8 p (.newarray .int) 0) (tL 5 p (.sipush 128) 0)) (tL 4 p (.aload_n 0) 0)) (tB 1 p (tL 1 p (.invokespecial 1) 0) (tL 0 p (.aload_n 0) 0)))))))
set_option maxHeartbeats 4000000 in
def cd2 (p : Nat) : Option (Instr × Nat) := (tB 25 p (tB 34 p (tB 40 p (tB 43 p (tB 44 p (tL 44 p .ireturn 0) (tL 43 p (.iconst 1) 0)) (tB 42 p (tL 42 p .iastore 0) (tL 40 p (.iload 4) 0))) (tB 36 p (tB 39 p (tL 39 p (.iload_n 1) 0) (tL 36 p (.getfield 36) 8)) (tB 35 p (tL 35 p (.aload_n 0) 0) (tL 34 p .iastore 0)))) (tB 28 p (tB 32 p (tB 33 p (tL 33 p (.iload_n 3) 0) (tL 32 p (.iload_n 1) 0)) (tB 29 p (tL 29 p (.getfield 33) 7) (tL 28 p (.aload_n 0) 0))) (tB 26 p (tB 27 p (tL 27 p .iastore 0) (tL 26 p (.iload_n 2) 0)) (tL 25 p (.iload_n 1) 0)))) (tB 11 p (tB 19 p (tB 21 p (tB 22 p (tL 22 p (.getfield 30) 6) (tL 21 p (.aload_n 0) 0)) (tB 20 p (tL 20 p .ireturn 0) (tL 19 p (.iconst 0) 0))) (tB 15 p (tB 16 p (tL 16 p (.if_icmp .le 5) 21) (tL 15 p (.iconst 4) 0)) (tB 14 p (tL 14 p (.iload_n 2) 0) (tL 11 p (.ifCond .lt 8) 19)))) (tB 5 p (tB 9 p (tB 10 p (tL 10 p (.iload_n 2) 0) (tL 9 p .ireturn 0)) (tB 8 p (tL 8 p (.iconst 0) 0) (tL 5 p (.ifCond .ne 5) 10))) (tB 1 p (tB 2 p (tL 2 p (.invokevirtual 102) 3) (tL 1 p (.iload_n 1) 0)) (tL 0 p (.aload_n 0) 0)))))
set_option maxHeartbeats 4000000 in
def cd3 (p : Nat) : Option (Instr × Nat) := (tB 9 p (tB 13 p (tB 16 p (tB 17 p (tL 17 p .ireturn 0) (tL 16 p (.iconst 0) 0)) (tL 13 p (.goto 4) 17)) (tB 12 p (tL 12 p (.iconst 1) 0) (tL 9 p (.if_icmp .ge 7) 16))) (tB 4 p (tB 5 p (tB 6 p (tL 6 p (.getfield 51) 13) (tL 5 p (.aload_n 0) 0)) (tL 4 p (.iload_n 1) 0)) (tB 1 p (tL 1 p (.ifCond .lt 15) 16) (tL 0 p (.iload_n 1) 0))))
set_option maxHeartbeats 4000000 in
def cd4 (p : Nat) : Option (Instr × Nat) := (tB 29 p (tB 40 p (tB 44 p (tB 48 p (tB 51 p (tB 52 p (tL 52 p .ireturn 0) (tL 51 p (.iconst 1) 0)) (tL 48 p (.putfield 54) 14)) (tB 45 p (tL 45 p (.invokevirtual 64) 10) (tL 44 p (.aload_n 0) 0))) (tB 42 p (tB 43 p (tL 43 p (.aload_n 0) 0) (tL 42 p .bastore 0)) (tB 41 p (tL 41 p (.iconst 1) 0) (tL 40 p (.iload_n 1) 0)))) (tB 33 p (tB 35 p (tB 36 p (tB 37 p (tL 37 p (.getfield 13) 1) (tL 36 p (.aload_n 0) 0)) (tL 35 p .iastore 0)) (tB 34 p (tL 34 p (.iload_n 3) 0) (tL 33 p .iadd 0))) (tB 31 p (tB 32 p (tL 32 p (.iload_n 2) 0) (tL 31 p .imul 0)) (tB 30 p (tL 30 p (.iconst 4) 0) (tL 29 p (.iload_n 1) 0))))) (tB 14 p (tB 20 p (tB 22 p (tB 25 p (tB 26 p (tL 26 p (.getfield 7) 0) (tL 25 p (.aload_n 0) 0)) (tL 22 p (.invokevirtual 61) 6)) (tB 21 p (tL 21 p (.aload_n 0) 0) (tL 20 p .ireturn 0))) (tB 16 p (tB 19 p (tL 19 p (.iconst 0) 0) (tL 16 p (.if_icmp .lt 5) 21)) (tB 15 p (tL 15 p (.iconst 4) 0) (tL 14 p (.iload_n 2) 0)))) (tB 8 p (tB 10 p (tB 11 p (tL 11 p (.ifCond .lt 8) 19) (tL 10 p (.iload_n 2) 0)) (tB 9 p (tL 9 p .ireturn 0) (tL 8 p (.iconst 0) 0))) (tB 2 p (tB 5 p (tL 5 p (.ifCond .ne 5) 10) (tL 2 p (.invokevirtual 57) 5)) (tB 1 p (tL 1 p (.iload_n 1) 0) (tL 0 p (.aload_n 0) 0))))))
set_option maxHeartbeats 4000000 in
def cd5 (p : Nat) : Option (Instr × Nat) := (tB 9 p (tB 13 p (tB 16 p (tB 17 p (tL 17 p .ireturn 0) (tL 16 p (.iconst 0) 0)) (tL 13 p (.goto 4) 17)) (tB 12 p (tL 12 p (.iconst 1) 0) (tL 9 p (.if_icmp .ge 7) 16))) (tB 4 p (tB 5 p (tB 6 p (tL 6 p (.getfield 48) 12) (tL 5 p (.aload_n 0) 0)) (tL 4 p (.iload_n 1) 0)) (tB 1 p (tL 1 p (.ifCond .lt 15) 16) (tL 0 p (.iload_n 1) 0))))
set_option maxHeartbeats 4000000 in
def cd6 (p : Nat) : Option (Instr × Nat) := (tB 24 p (tB 37 p (tB 42 p (tB 46 p (tB 49 p (tL 49 p .return_ 0) (tL 46 p (.goto (-44)) 2)) (tB 43 p (tL 43 p (.iinc 1 1) 0) (tL 42 p .bastore 0))) (tB 38 p (tB 41 p (tL 41 p (.iconst 0) 0) (tL 38 p (.goto 4) 42)) (tL 37 p (.iconst 1) 0))) (tB 29 p (tB 31 p (tB 34 p (tL 34 p (.ifCond .le 7) 41) (tL 31 p (.getfield 99) 16)) (tB 30 p (tL 30 p (.aload_n 0) 0) (tL 29 p (.iload_n 1) 0))) (tB 25 p (tB 26 p (tL 26 p (.getfield 42) 10) (tL 25 p (.aload_n 0) 0)) (tL 24 p .iastore 0)))) (tB 11 p (tB 16 p (tB 20 p (tB 21 p (tL 21 p (.getfield 96) 15) (tL 20 p (.aload_n 0) 0)) (tB 19 p (tL 19 p (.iload_n 1) 0) (tL 16 p (.getfield 39) 9))) (tB 12 p (tB 15 p (tL 15 p (.aload_n 0) 0) (tL 12 p (.invokevirtual 105) 7)) (tL 11 p (.iload_n 1) 0))) (tB 3 p (tB 7 p (tB 10 p (tL 10 p (.aload_n 0) 0) (tL 7 p (.if_icmp .ge 42) 49)) (tB 4 p (tL 4 p (.getfield 51) 13) (tL 3 p (.aload_n 0) 0))) (tB 1 p (tB 2 p (tL 2 p (.iload_n 1) 0) (tL 1 p (.istore_n 1) 0)) (tL 0 p (.iconst 0) 0)))))
set_option maxHeartbeats 4000000 in
def cd7 (p : Nat) : Option (Instr × Nat) := (tB 37 p (tB 56 p (tB 65 p (tB 70 p (tB 71 p (tB 74 p (tL 74 p .return_ 0) (tL 71 p (.invokevirtual 92) 8)) (tL 70 p .iaload 0)) (tB 66 p (tB 69 p (tL 69 p (.iload_n 1) 0) (tL 66 p (.getfield 36) 8)) (tL 65 p (.aload_n 0) 0))) (tB 61 p (tB 62 p (tB 63 p (tL 63 p (.iload 4) 0) (tL 62 p .iaload 0)) (tL 61 p (.iload_n 1) 0)) (tB 57 p (tB 58 p (tL 58 p (.getfield 33) 7) (tL 57 p (.aload_n 0) 0)) (tL 56 p (.iload_n 3) 0)))) (tB 45 p (tB 52 p (tB 53 p (tB 55 p (tL 55 p (.aload_n 0) 0) (tL 53 p (.istore 4) 0)) (tL 52 p (.iconst 0) 0)) (tB 48 p (tB 49 p (tL 49 p (.goto 4) 53) (tL 48 p (.iconst 1) 0)) (tL 45 p (.if_icmp .ne 7) 52))) (tB 40 p (tB 43 p (tB 44 p (tL 44 p (.iconst 3) 0) (tL 43 p (.iload_n 2) 0)) (tL 40 p (.if_icmp .eq 8) 48)) (tB 38 p (tB 39 p (tL 39 p (.iconst 1) 0) (tL 38 p (.iload_n 2) 0)) (tL 37 p (.istore_n 3) 0))))) (tB 17 p (tB 27 p (tB 32 p (tB 33 p (tB 36 p (tL 36 p (.iconst 0) 0) (tL 33 p (.goto 4) 37)) (tL 32 p (.iconst 1) 0)) (tB 28 p (tB 29 p (tL 29 p (.if_icmp .ne 7) 36) (tL 28 p (.iconst 2) 0)) (tL 27 p (.iload_n 2) 0))) (tB 22 p (tB 23 p (tB 24 p (tL 24 p (.if_icmp .eq 8) 32) (tL 23 p (.iconst 1) 0)) (tL 22 p (.iload_n 2) 0)) (tB 18 p (tB 21 p (tL 21 p .return_ 0) (tL 18 p (.putfield 99) 16)) (tL 17 p (.iconst 0) 0)))) (tB 7 p (tB 12 p (tB 13 p (tB 16 p (tL 16 p (.aload_n 0) 0) (tL 13 p (.putfield 96) 15)) (tL 12 p (.iconst 0) 0)) (tB 8 p (tB 11 p (tL 11 p (.aload_n 0) 0) (tL 8 p (.ifCond .ne 14) 22)) (tL 7 p (.iload_n 2) 0))) (tB 4 p (tB 5 p (tB 6 p (tL 6 p (.istore_n 2) 0) (tL 5 p .iaload 0)) (tL 4 p (.iload_n 1) 0)) (tB 1 p (tL 1 p (.getfield 30) 6) (tL 0 p (.aload_n 0) 0))))))
set_option maxHeartbeats 4000000 in
def cd8 (p : Nat) : Option (Instr × Nat) := (tB 84 p (tB 133 p (tB 158 p (tB 168 p (tB 174 p (tB 177 p (tB 180 p (tL 180 p .return_ 0) (tL 177 p (.putfield 96) 15)) (tL 174 p (.invokevirtual 113) 9)) (tB 170 p (tB 172 p (tL 172 p (.iload 8) 0) (tL 170 p (.iload 7) 0)) (tL 168 p (.iload 5) 0))) (tB 164 p (tB 165 p (tB 166 p (tL 166 p (.iload 6) 0) (tL 165 p (.aload_n 0) 0)) (tL 164 p (.aload_n 0) 0)) (tB 159 p (tB 161 p (tL 161 p (.putfield 99) 16) (tL 159 p (.iload 6) 0)) (tL 158 p (.aload_n 0) 0)))) (tB 144 p (tB 149 p (tB 152 p (tB 155 p (tL 155 p (.goto (-140)) 15) (tL 152 p (.iinc 9 1) 0)) (tL 149 p (.iinc 6 1) 0)) (tB 146 p (tB 147 p (tL 147 p (.istore 5) 0) (tL 146 p .iadd 0)) (tL 144 p (.iload 11) 0))) (tB 138 p (tB 140 p (tB 142 p (tL 142 p (.iload 5) 0) (tL 140 p (.istore 8) 0)) (tL 138 p (.iload 11) 0)) (tB 135 p (tL 135 p (.if_icmp .le 7) 142) (tL 133 p (.iload 8) 0))))) (tB 106 p (tB 120 p (tB 127 p (tB 129 p (tB 131 p (tL 131 p (.iload 11) 0) (tL 129 p (.istore 7) 0)) (tL 127 p (.iload 11) 0)) (tB 122 p (tB 124 p (tL 124 p (.if_icmp .ge 7) 131) (tL 122 p (.iload 7) 0)) (tL 120 p (.iload 11) 0))) (tB 113 p (tB 115 p (tB 117 p (tL 117 p (.goto 25) 142) (tL 115 p (.istore 8) 0)) (tL 113 p (.iload 11) 0)) (tB 109 p (tB 111 p (tL 111 p (.istore 7) 0) (tL 109 p (.iload 11) 0)) (tL 106 p (.ifCond .ne 14) 120)))) (tB 96 p (tB 101 p (tB 102 p (tB 104 p (tL 104 p (.iload 6) 0) (tL 102 p (.istore 11) 0)) (tL 101 p .iaload 0)) (tB 97 p (tB 100 p (tL 100 p .iadd 0) (tL 97 p (.getfield 24) 4)) (tL 96 p (.aload_n 0) 0))) (tB 90 p (tB 91 p (tB 94 p (tL 94 p (.iload 10) 0) (tL 91 p (.getfield 7) 0)) (tL 90 p (.aload_n 0) 0)) (tB 87 p (tL 87 p (.goto 65) 152) (tL 84 p (.if_icmp .eq 6) 90)))))) (tB 41 p (tB 60 p (tB 74 p (tB 80 p (tB 81 p (tB 82 p (tL 82 p (.iload 4) 0) (tL 81 p .iaload 0)) (tL 80 p .iadd 0)) (tB 76 p (tB 77 p (tL 77 p (.getfield 21) 3) (tL 76 p (.aload_n 0) 0)) (tL 74 p (.iload 10) 0))) (tB 67 p (tB 70 p (tB 71 p (tL 71 p (.getfield 7) 0) (tL 70 p (.aload_n 0) 0)) (tL 67 p (.ifCond .eq 23) 90)) (tB 63 p (tB 66 p (tL 66 p (.iload_n 3) 0) (tL 63 p (.goto 89) 152)) (tL 60 p (.if_icmp .eq 6) 66)))) (tB 51 p (tB 57 p (tB 58 p (tB 59 p (tL 59 p (.iload_n 2) 0) (tL 58 p .iaload 0)) (tL 57 p .iadd 0)) (tB 53 p (tB 54 p (tL 54 p (.getfield 17) 2) (tL 53 p (.aload_n 0) 0)) (tL 51 p (.iload 10) 0))) (tB 44 p (tB 47 p (tB 48 p (tL 48 p (.getfield 7) 0) (tL 47 p (.aload_n 0) 0)) (tL 44 p (.ifCond .eq 22) 66)) (tB 43 p (tL 43 p (.iload_n 1) 0) (tL 41 p (.istore 10) 0))))) (tB 17 p (tB 30 p (tB 37 p (tB 39 p (tB 40 p (tL 40 p .imul 0) (tL 39 p (.iconst 4) 0)) (tL 37 p (.iload 9) 0)) (tB 31 p (tB 34 p (tL 34 p (.goto 118) 152) (tL 31 p (.ifCond .ne 6) 37)) (tL 30 p .baload 0))) (tB 24 p (tB 25 p (tB 28 p (tL 28 p (.iload 9) 0) (tL 25 p (.getfield 13) 1)) (tL 24 p (.aload_n 0) 0)) (tB 18 p (tB 21 p (tL 21 p (.if_icmp .ge 137) 158) (tL 18 p (.getfield 48) 12)) (tL 17 p (.aload_n 0) 0)))) (tB 7 p (tB 12 p (tB 13 p (tB 15 p (tL 15 p (.iload 9) 0) (tL 13 p (.istore 9) 0)) (tL 12 p (.iconst 0) 0)) (tB 9 p (tB 10 p (tL 10 p (.istore 8) 0) (tL 9 p (.iconst 0) 0)) (tL 7 p (.istore 7) 0))) (tB 3 p (tB 4 p (tB 6 p (tL 6 p (.iconst 0) 0) (tL 4 p (.istore 6) 0)) (tL 3 p (.iconst 0) 0)) (tB 1 p (tL 1 p (.istore 5) 0) (tL 0 p (.iconst 0) 0)))))))
set_option maxHeartbeats 4000000 in
def cd9 (p : Nat) : Option (Instr × Nat) := (tB 20 p (tB 30 p (tB 36 p (tB 37 p (tB 38 p (tL 38 p .ireturn 0) (tL 37 p (.iload_n 2) 0)) (tL 36 p .ireturn 0)) (tB 31 p (tB 34 p (tL 34 p (.iload 4) 0) (tL 31 p (.if_icmp .ne 6) 37)) (tL 30 p (.iconst 3) 0))) (tB 25 p (tB 26 p (tB 27 p (tL 27 p (.getfield 27) 5) (tL 26 p (.aload_n 0) 0)) (tL 25 p .ireturn 0)) (tB 21 p (tB 24 p (tL 24 p (.iload_n 3) 0) (tL 21 p (.if_icmp .ne 5) 26)) (tL 20 p (.iconst 2) 0)))) (tB 10 p (tB 15 p (tB 16 p (tB 17 p (tL 17 p (.getfield 27) 5) (tL 16 p (.aload_n 0) 0)) (tL 15 p .ireturn 0)) (tB 11 p (tB 14 p (tL 14 p (.iload_n 1) 0) (tL 11 p (.if_icmp .ne 5) 16)) (tL 10 p (.iconst 1) 0))) (tB 5 p (tB 6 p (tB 7 p (tL 7 p (.getfield 27) 5) (tL 6 p (.aload_n 0) 0)) (tL 5 p .ireturn 0)) (tB 1 p (tB 4 p (tL 4 p (.iconst 0) 0) (tL 1 p (.ifCond .ne 5) 6)) (tL 0 p (.iload_n 1) 0)))))
set_option maxHeartbeats 4000000 in
def cd10 (p : Nat) : Option (Instr × Nat) := (tB 30 p (tB 45 p (tB 53 p (tB 59 p (tB 62 p (tB 63 p (tL 63 p .ireturn 0) (tL 62 p (.iload_n 1) 0)) (tL 59 p (.goto (-55)) 4)) (tB 56 p (tL 56 p (.iinc 2 1) 0) (tL 53 p (.iinc 1 1) 0))) (tB 49 p (tB 50 p (tL 50 p (.if_icmp .eq 6) 56) (tL 49 p .baload 0)) (tB 48 p (tL 48 p (.iload_n 2) 0) (tL 45 p (.getfield 42) 10)))) (tB 38 p (tB 40 p (tB 43 p (tB 44 p (tL 44 p (.aload_n 0) 0) (tL 43 p (.iload_n 3) 0)) (tL 40 p (.if_icmp .ne 13) 53)) (tB 39 p (tL 39 p .iaload 0) (tL 38 p (.iload_n 2) 0))) (tB 34 p (tB 35 p (tL 35 p (.getfield 39) 9) (tL 34 p (.aload_n 0) 0)) (tB 31 p (tL 31 p (.getfield 96) 15) (tL 30 p (.aload_n 0) 0))))) (tB 13 p (tB 21 p (tB 25 p (tB 28 p (tB 29 p (tL 29 p (.istore_n 3) 0) (tL 28 p (.iconst 0) 0)) (tL 25 p (.goto 4) 29)) (tB 24 p (tL 24 p (.iconst 1) 0) (tL 21 p (.ifCond .le 7) 28))) (tB 17 p (tB 18 p (tL 18 p (.getfield 99) 16) (tL 17 p (.aload_n 0) 0)) (tB 14 p (tL 14 p (.invokevirtual 105) 7) (tL 13 p (.iload_n 2) 0)))) (tB 4 p (tB 6 p (tB 9 p (tB 12 p (tL 12 p (.aload_n 0) 0) (tL 9 p (.if_icmp .ge 53) 62)) (tL 6 p (.getfield 51) 13)) (tB 5 p (tL 5 p (.aload_n 0) 0) (tL 4 p (.iload_n 2) 0))) (tB 2 p (tB 3 p (tL 3 p (.istore_n 2) 0) (tL 2 p (.iconst 0) 0)) (tB 1 p (tL 1 p (.istore_n 1) 0) (tL 0 p (.iconst 0) 0))))))
set_option maxHeartbeats 4000000 in
def cd11 (p : Nat) : Option (Instr × Nat) := (tB 38 p (tB 54 p (tB 64 p (tB 69 p (tB 72 p (tB 73 p (tL 73 p .ireturn 0) (tL 72 p (.iconst 1) 0)) (tL 69 p (.putfield 54) 14)) (tB 65 p (tB 66 p (tL 66 p (.invokevirtual 64) 10) (tL 65 p (.aload_n 0) 0)) (tL 64 p (.aload_n 0) 0))) (tB 58 p (tB 59 p (tB 61 p (tL 61 p (.putfield 27) 5) (tL 59 p (.iload 4) 0)) (tL 58 p (.aload_n 0) 0)) (tB 55 p (tL 55 p (.putfield 24) 4) (tL 54 p (.iload_n 3) 0)))) (tB 45 p (tB 49 p (tB 50 p (tB 53 p (tL 53 p (.aload_n 0) 0) (tL 50 p (.putfield 21) 3)) (tL 49 p (.iload_n 2) 0)) (tB 48 p (tL 48 p (.aload_n 0) 0) (tL 45 p (.putfield 17) 2))) (tB 40 p (tB 43 p (tB 44 p (tL 44 p (.iload_n 1) 0) (tL 43 p (.aload_n 0) 0)) (tL 40 p (.invokevirtual 61) 6)) (tB 39 p (tL 39 p (.aload_n 0) 0) (tL 38 p .ireturn 0))))) (tB 18 p (tB 28 p (tB 33 p (tB 34 p (tB 37 p (tL 37 p (.iconst 0) 0) (tL 34 p (.if_icmp .le 5) 39)) (tL 33 p (.iconst 3) 0)) (tB 31 p (tL 31 p (.iload 4) 0) (tL 28 p (.ifCond .lt 9) 37))) (tB 24 p (tB 25 p (tB 26 p (tL 26 p (.iload 4) 0) (tL 25 p .ireturn 0)) (tL 24 p (.iconst 0) 0)) (tB 21 p (tL 21 p (.ifCond .ne 5) 26) (tL 18 p (.invokevirtual 68) 12)))) (tB 9 p (tB 13 p (tB 16 p (tB 17 p (tL 17 p (.iload_n 3) 0) (tL 16 p (.aload_n 0) 0)) (tL 13 p (.ifCond .eq 11) 24)) (tB 10 p (tL 10 p (.invokevirtual 68) 12) (tL 9 p (.iload_n 2) 0))) (tB 2 p (tB 5 p (tB 8 p (tL 8 p (.aload_n 0) 0) (tL 5 p (.ifCond .eq 19) 24)) (tL 2 p (.invokevirtual 68) 12)) (tB 1 p (tL 1 p (.iload_n 1) 0) (tL 0 p (.aload_n 0) 0))))))
set_option maxHeartbeats 4000000 in
def cd12 (p : Nat) : Option (Instr × Nat) := (tB 6 p (tB 10 p (tB 13 p (tB 14 p (tL 14 p .ireturn 0) (tL 13 p (.iconst 0) 0)) (tL 10 p (.goto 4) 14)) (tB 9 p (tL 9 p (.iconst 1) 0) (tL 6 p (.if_icmp .ge 7) 13))) (tB 4 p (tB 5 p (tL 5 p (.iconst 4) 0) (tL 4 p (.iload_n 1) 0)) (tB 1 p (tL 1 p (.ifCond .lt 12) 13) (tL 0 p (.iload_n 1) 0))))
set_option maxHeartbeats 4000000 in
def cd13 (p : Nat) : Option (Instr × Nat) := (tB 33 p (tB 49 p (tB 56 p (tB 61 p (tB 64 p (tB 65 p (tL 65 p .ireturn 0) (tL 64 p (.iconst 1) 0)) (tL 61 p (.putfield 54) 14)) (tB 57 p (tB 58 p (tL 58 p (.invokevirtual 64) 10) (tL 57 p (.aload_n 0) 0)) (tL 56 p (.aload_n 0) 0))) (tB 53 p (tB 54 p (tB 55 p (tL 55 p .bastore 0) (tL 54 p (.iconst 0) 0)) (tL 53 p (.iload_n 1) 0)) (tB 50 p (tL 50 p (.getfield 13) 1) (tL 49 p (.aload_n 0) 0)))) (tB 40 p (tB 42 p (tB 43 p (tB 46 p (tL 46 p (.goto (-19)) 27) (tL 43 p (.iinc 2 1) 0)) (tL 42 p .iastore 0)) (tB 41 p (tL 41 p (.iconst 0) 0) (tL 40 p .iadd 0))) (tB 37 p (tB 38 p (tB 39 p (tL 39 p (.iload_n 2) 0) (tL 38 p .imul 0)) (tL 37 p (.iconst 4) 0)) (tB 36 p (tL 36 p (.iload_n 1) 0) (tL 33 p (.getfield 7) 0))))) (tB 16 p (tB 25 p (tB 28 p (tB 29 p (tB 32 p (tL 32 p (.aload_n 0) 0) (tL 29 p (.if_icmp .ge 20) 49)) (tL 28 p (.iconst 4) 0)) (tB 26 p (tB 27 p (tL 27 p (.iload_n 2) 0) (tL 26 p (.istore_n 2) 0)) (tL 25 p (.iconst 0) 0))) (tB 20 p (tB 21 p (tB 22 p (tL 22 p (.invokevirtual 61) 6) (tL 21 p (.aload_n 0) 0)) (tL 20 p .ireturn 0)) (tB 19 p (tL 19 p (.iconst 0) 0) (tL 16 p (.ifCond .ne 5) 21)))) (tB 9 p (tB 11 p (tB 14 p (tB 15 p (tL 15 p .baload 0) (tL 14 p (.iload_n 1) 0)) (tL 11 p (.getfield 13) 1)) (tB 10 p (tL 10 p (.aload_n 0) 0) (tL 9 p .ireturn 0))) (tB 2 p (tB 5 p (tB 8 p (tL 8 p (.iconst 0) 0) (tL 5 p (.ifCond .ne 5) 10)) (tL 2 p (.invokevirtual 57) 5)) (tB 1 p (tL 1 p (.iload_n 1) 0) (tL 0 p (.aload_n 0) 0))))))
set_option maxHeartbeats 4000000 in
def cd14 (p : Nat) : Option (Instr × Nat) := (tB 9 p (tB 14 p (tB 15 p (tB 16 p (tL 16 p .ireturn 0) (tL 15 p .baload 0)) (tL 14 p (.iload_n 1) 0)) (tB 10 p (tB 11 p (tL 11 p (.getfield 13) 1) (tL 10 p (.aload_n 0) 0)) (tL 9 p .ireturn 0))) (tB 2 p (tB 5 p (tB 8 p (tL 8 p (.iconst 0) 0) (tL 5 p (.ifCond .ne 5) 10)) (tL 2 p (.invokevirtual 57) 5)) (tB 1 p (tL 1 p (.iload_n 1) 0) (tL 0 p (.aload_n 0) 0))))
set_option maxHeartbeats 4000000 in
def cd15 (p : Nat) : Option (Instr × Nat) := (tB 18 p (tB 25 p (tB 27 p (tB 28 p (tB 29 p (tL 29 p .ireturn 0) (tL 28 p .iaload 0)) (tL 27 p .iadd 0)) (tB 26 p (tL 26 p (.iload_n 2) 0) (tL 25 p .imul 0))) (tB 20 p (tB 23 p (tB 24 p (tL 24 p (.iconst 4) 0) (tL 23 p (.iload_n 1) 0)) (tL 20 p (.getfield 7) 0)) (tB 19 p (tL 19 p (.aload_n 0) 0) (tL 18 p .ireturn 0)))) (tB 9 p (tB 13 p (tB 14 p (tB 17 p (tL 17 p (.iconst 0) 0) (tL 14 p (.if_icmp .lt 5) 19)) (tL 13 p (.iconst 4) 0)) (tB 12 p (tL 12 p (.iload_n 2) 0) (tL 9 p (.ifCond .lt 8) 17))) (tB 2 p (tB 5 p (tB 8 p (tL 8 p (.iload_n 2) 0) (tL 5 p (.ifCond .eq 12) 17)) (tL 2 p (.invokevirtual 57) 5)) (tB 1 p (tL 1 p (.iload_n 1) 0) (tL 0 p (.aload_n 0) 0)))))
set_option maxHeartbeats 4000000 in
def cd16 (p : Nat) : Option (Instr × Nat) := (tB 5 p (tB 6 p (tB 9 p (tL 9 p .ireturn 0) (tL 6 p (.invokevirtual 71) 17)) (tL 5 p (.iconst 0) 0)) (tB 1 p (tB 2 p (tL 2 p (.getfield 17) 2) (tL 1 p (.aload_n 0) 0)) (tL 0 p (.aload_n 0) 0)))
set_option maxHeartbeats 4000000 in
def cd17 (p : Nat) : Option (Instr × Nat) := (tB 26 p (tB 36 p (tB 42 p (tB 48 p (tB 49 p (tL 49 p .ireturn 0) (tL 48 p (.iload_n 3) 0)) (tB 45 p (tL 45 p (.goto (-40)) 5) (tL 42 p (.iinc 4 1) 0))) (tB 38 p (tB 41 p (tL 41 p (.istore_n 3) 0) (tL 38 p (.invokevirtual 109) 18)) (tB 37 p (tL 37 p .iaload 0) (tL 36 p .iadd 0)))) (tB 31 p (tB 34 p (tB 35 p (tL 35 p (.iload_n 1) 0) (tL 34 p .imul 0)) (tB 33 p (tL 33 p (.iconst 4) 0) (tL 31 p (.iload 4) 0))) (tB 27 p (tB 28 p (tL 28 p (.getfield 7) 0) (tL 27 p (.aload_n 0) 0)) (tL 26 p (.iload_n 3) 0)))) (tB 11 p (tB 20 p (tB 24 p (tB 25 p (tL 25 p (.iload_n 2) 0) (tL 24 p (.aload_n 0) 0)) (tB 21 p (tL 21 p (.ifCond .eq 21) 42) (tL 20 p .baload 0))) (tB 15 p (tB 18 p (tL 18 p (.iload 4) 0) (tL 15 p (.getfield 13) 1)) (tB 14 p (tL 14 p (.aload_n 0) 0) (tL 11 p (.if_icmp .ge 37) 48)))) (tB 3 p (tB 7 p (tB 8 p (tL 8 p (.getfield 48) 12) (tL 7 p (.aload_n 0) 0)) (tB 5 p (tL 5 p (.iload 4) 0) (tL 3 p (.istore 4) 0))) (tB 1 p (tB 2 p (tL 2 p (.iconst 0) 0) (tL 1 p (.istore_n 3) 0)) (tL 0 p (.iconst 0) 0)))))
set_option maxHeartbeats 4000000 in
def cd18 (p : Nat) : Option (Instr × Nat) := (tB 59 p (tB 87 p (tB 101 p (tB 106 p (tB 108 p (tB 109 p (tB 110 p (tL 110 p .ireturn 0) (tL 109 p .iadd 0)) (tL 108 p (.iconst 1) 0)) (tB 107 p (tL 107 p (.iload_n 2) 0) (tL 106 p .iastore 0))) (tB 104 p (tB 105 p (tL 105 p (.iload_n 3) 0) (tL 104 p .iadd 0)) (tB 102 p (tL 102 p (.iload 4) 0) (tL 101 p (.iload_n 1) 0)))) (tB 91 p (tB 97 p (tB 98 p (tL 98 p (.getfield 45) 11) (tL 97 p (.aload_n 0) 0)) (tB 94 p (tL 94 p (.goto (-30)) 64) (tL 91 p (.iinc 5 (-1)) 0))) (tB 89 p (tB 90 p (tL 90 p .iastore 0) (tL 89 p .iaload 0)) (tB 88 p (tL 88 p .isub 0) (tL 87 p (.iconst 1) 0))))) (tB 72 p (tB 79 p (tB 83 p (tB 84 p (tB 86 p (tL 86 p .iadd 0) (tL 84 p (.iload 5) 0)) (tL 83 p (.iload_n 1) 0)) (tB 80 p (tL 80 p (.getfield 45) 11) (tL 79 p (.aload_n 0) 0))) (tB 76 p (tB 78 p (tL 78 p .iadd 0) (tL 76 p (.iload 5) 0)) (tB 75 p (tL 75 p (.iload_n 1) 0) (tL 72 p (.getfield 45) 11)))) (tB 64 p (tB 68 p (tB 71 p (tL 71 p (.aload_n 0) 0) (tL 68 p (.if_icmp .le 29) 97)) (tB 66 p (tL 66 p (.iload 4) 0) (tL 64 p (.iload 5) 0))) (tB 61 p (tB 62 p (tL 62 p (.istore 5) 0) (tL 61 p (.iload_n 2) 0)) (tB 60 p (tL 60 p .ireturn 0) (tL 59 p (.iload_n 2) 0)))))) (tB 28 p (tB 43 p (tB 51 p (tB 54 p (tB 55 p (tB 56 p (tL 56 p (.if_icmp .ne 5) 61) (tL 55 p (.iload_n 3) 0)) (tL 54 p .iaload 0)) (tB 53 p (tL 53 p .iadd 0) (tL 51 p (.iload 4) 0))) (tB 47 p (tB 50 p (tL 50 p (.iload_n 1) 0) (tL 47 p (.getfield 45) 11)) (tB 46 p (tL 46 p (.aload_n 0) 0) (tL 43 p (.if_icmp .ge 18) 61)))) (tB 34 p (tB 40 p (tB 42 p (tL 42 p (.iload_n 2) 0) (tL 40 p (.iload 4) 0)) (tB 37 p (tL 37 p (.goto (-22)) 15) (tL 34 p (.iinc 4 1) 0))) (tB 30 p (tB 31 p (tL 31 p (.if_icmp .ge 9) 40) (tL 30 p (.iload_n 3) 0)) (tB 29 p (tL 29 p .iaload 0) (tL 28 p .iadd 0))))) (tB 13 p (tB 21 p (tB 25 p (tB 26 p (tL 26 p (.iload 4) 0) (tL 25 p (.iload_n 1) 0)) (tB 22 p (tL 22 p (.getfield 45) 11) (tL 21 p (.aload_n 0) 0))) (tB 17 p (tB 18 p (tL 18 p (.if_icmp .ge 22) 40) (tL 17 p (.iload_n 2) 0)) (tB 15 p (tL 15 p (.iload 4) 0) (tL 13 p (.istore 4) 0)))) (tB 7 p (tB 11 p (tB 12 p (tL 12 p (.iconst 0) 0) (tL 11 p .ireturn 0)) (tB 10 p (tL 10 p (.iload_n 2) 0) (tL 7 p (.if_icmp .lt 5) 12))) (tB 4 p (tB 5 p (tL 5 p (.bipush 32) 0) (tL 4 p (.iload_n 2) 0)) (tB 1 p (tL 1 p (.ifCond .lt 9) 10) (tL 0 p (.iload_n 2) 0)))))))
set_option maxHeartbeats 4000000 in
def cd19 (p : Nat) : Option (Instr × Nat) := (tB 5 p (tB 7 p (tB 10 p (tL 10 p .ireturn 0) (tL 7 p (.invokevirtual 71) 17)) (tL 5 p (.bipush 32) 0)) (tB 1 p (tB 2 p (tL 2 p (.getfield 21) 3) (tL 1 p (.aload_n 0) 0)) (tL 0 p (.aload_n 0) 0)))
set_option maxHeartbeats 4000000 in
def cd20 (p : Nat) : Option (Instr × Nat) := (tB 15 p (tB 21 p (tB 25 p (tB 26 p (tB 27 p (tL 27 p .ireturn 0) (tL 26 p .iaload 0)) (tL 25 p (.iload_n 1) 0)) (tB 22 p (tL 22 p (.getfield 45) 11) (tL 21 p (.aload_n 0) 0))) (tB 19 p (tB 20 p (tL 20 p .ireturn 0) (tL 19 p (.iconst 0) 0)) (tB 16 p (tL 16 p (.if_icmp .lt 5) 21) (tL 15 p (.iload_n 2) 0)))) (tB 6 p (tB 10 p (tB 11 p (tB 14 p (tL 14 p (.iload_n 1) 0) (tL 11 p (.ifCond .lt 8) 19)) (tL 10 p (.iload_n 1) 0)) (tB 9 p (tL 9 p (.istore_n 2) 0) (tL 6 p (.invokevirtual 71) 17))) (tB 2 p (tB 5 p (tL 5 p (.iconst 0) 0) (tL 2 p (.getfield 17) 2)) (tB 1 p (tL 1 p (.aload_n 0) 0) (tL 0 p (.aload_n 0) 0)))))
set_option maxHeartbeats 4000000 in
def cd21 (p : Nat) : Option (Instr × Nat) := (tB 17 p (tB 26 p (tB 29 p (tB 30 p (tB 31 p (tL 31 p .ireturn 0) (tL 30 p .iaload 0)) (tL 29 p .iadd 0)) (tB 28 p (tL 28 p (.iload_n 1) 0) (tL 26 p (.bipush 32) 0))) (tB 21 p (tB 22 p (tB 23 p (tL 23 p (.getfield 45) 11) (tL 22 p (.aload_n 0) 0)) (tL 21 p .ireturn 0)) (tB 20 p (tL 20 p (.iconst 0) 0) (tL 17 p (.if_icmp .lt 5) 22)))) (tB 10 p (tB 12 p (tB 15 p (tB 16 p (tL 16 p (.iload_n 2) 0) (tL 15 p (.iload_n 1) 0)) (tL 12 p (.ifCond .lt 8) 20)) (tB 11 p (tL 11 p (.iload_n 1) 0) (tL 10 p (.istore_n 2) 0))) (tB 2 p (tB 5 p (tB 7 p (tL 7 p (.invokevirtual 71) 17) (tL 5 p (.bipush 32) 0)) (tL 2 p (.getfield 21) 3)) (tB 1 p (tL 1 p (.aload_n 0) 0) (tL 0 p (.aload_n 0) 0)))))
set_option maxHeartbeats 4000000 in
def cd22 (p : Nat) : Option (Instr × Nat) := (tB 16 p (tB 25 p (tB 31 p (tB 32 p (tB 35 p (tL 35 p .ireturn 0) (tL 32 p (.getfield 96) 15)) (tL 31 p (.aload_n 0) 0)) (tB 28 p (tL 28 p (.invokevirtual 92) 8) (tL 25 p (.getfield 89) 20))) (tB 20 p (tB 21 p (tB 24 p (tL 24 p (.aload_n 0) 0) (tL 21 p (.getfield 86) 19)) (tL 20 p (.aload_n 0) 0)) (tB 17 p (tL 17 p (.getfield 83) 18) (tL 16 p (.aload_n 0) 0)))) (tB 9 p (tB 11 p (tB 12 p (tB 13 p (tL 13 p (.getfield 79) 17) (tL 12 p (.aload_n 0) 0)) (tL 11 p (.aload_n 0) 0)) (tB 10 p (tL 10 p .ireturn 0) (tL 9 p (.iconst 0) 0))) (tB 2 p (tB 3 p (tB 6 p (tL 6 p (.ifCond .ne 5) 11) (tL 3 p (.invokevirtual 75) 23)) (tL 2 p (.iload_n 2) 0)) (tB 1 p (tL 1 p (.iload_n 1) 0) (tL 0 p (.aload_n 0) 0)))))
set_option maxHeartbeats 4000000 in
def cd23 (p : Nat) : Option (Instr × Nat) := (tB 62 p (tB 96 p (tB 113 p (tB 121 p (tB 125 p (tB 128 p (tB 129 p (tL 129 p .ireturn 0) (tL 128 p (.iconst 1) 0)) (tL 125 p (.putfield 89) 20)) (tB 124 p (tL 124 p (.iconst 0) 0) (tL 121 p (.goto 4) 125))) (tB 118 p (tB 119 p (tB 120 p (tL 120 p .iaload 0) (tL 119 p .iadd 0)) (tL 118 p (.iload_n 2) 0)) (tB 116 p (tL 116 p (.bipush 32) 0) (tL 113 p (.getfield 45) 11)))) (tB 104 p (tB 106 p (tB 109 p (tB 112 p (tL 112 p (.aload_n 0) 0) (tL 109 p (.ifCond .eq 15) 124)) (tL 106 p (.getfield 86) 19)) (tB 105 p (tL 105 p (.aload_n 0) 0) (tL 104 p (.aload_n 0) 0))) (tB 100 p (tB 101 p (tL 101 p (.putfield 86) 19) (tL 100 p (.iconst 0) 0)) (tB 97 p (tL 97 p (.goto 4) 101) (tL 96 p (.iconst 1) 0))))) (tB 81 p (tB 87 p (tB 91 p (tB 92 p (tB 93 p (tL 93 p (.if_icmp .eq 7) 100) (tL 92 p (.iconst (-1)) 0)) (tL 91 p (.iload_n 2) 0)) (tB 90 p (tL 90 p (.aload_n 0) 0) (tL 87 p (.putfield 83) 18))) (tB 83 p (tB 86 p (tL 86 p (.iconst 0) 0) (tL 83 p (.goto 4) 87)) (tB 82 p (tL 82 p .iaload 0) (tL 81 p (.iload_n 1) 0)))) (tB 70 p (tB 74 p (tB 77 p (tB 78 p (tL 78 p (.getfield 45) 11) (tL 77 p (.aload_n 0) 0)) (tL 74 p (.ifCond .eq 12) 86)) (tB 71 p (tL 71 p (.getfield 79) 17) (tL 70 p (.aload_n 0) 0))) (tB 66 p (tB 69 p (tL 69 p (.aload_n 0) 0) (tL 66 p (.putfield 79) 17)) (tB 65 p (tL 65 p (.iconst 0) 0) (tL 62 p (.goto 4) 66)))))) (tB 32 p (tB 47 p (tB 55 p (tB 57 p (tB 58 p (tB 61 p (tL 61 p (.iconst 1) 0) (tL 58 p (.if_icmp .eq 7) 65)) (tL 57 p (.iconst (-1)) 0)) (tB 56 p (tL 56 p (.iload_n 1) 0) (tL 55 p (.aload_n 0) 0))) (tB 50 p (tB 53 p (tB 54 p (tL 54 p .ireturn 0) (tL 53 p (.iconst 0) 0)) (tL 50 p (.if_icmp .lt 5) 55)) (tB 48 p (tL 48 p (.iload 4) 0) (tL 47 p (.iload_n 2) 0)))) (tB 38 p (tB 40 p (tB 43 p (tB 44 p (tL 44 p (.ifCond .lt 9) 53) (tL 43 p (.iload_n 2) 0)) (tL 40 p (.if_icmp .eq 15) 55)) (tB 39 p (tL 39 p (.iconst (-1)) 0) (tL 38 p (.iload_n 2) 0))) (tB 36 p (tB 37 p (tL 37 p .ireturn 0) (tL 36 p (.iconst 0) 0)) (tB 33 p (tL 33 p (.if_icmp .lt 5) 38) (tL 32 p (.iload_n 3) 0))))) (tB 15 p (tB 23 p (tB 27 p (tB 28 p (tB 31 p (tL 31 p (.iload_n 1) 0) (tL 28 p (.ifCond .lt 8) 36)) (tL 27 p (.iload_n 1) 0)) (tB 24 p (tL 24 p (.if_icmp .eq 14) 38) (tL 23 p (.iconst (-1)) 0))) (tB 20 p (tB 22 p (tL 22 p (.iload_n 1) 0) (tL 20 p (.istore 4) 0)) (tB 17 p (tL 17 p (.invokevirtual 71) 17) (tL 15 p (.bipush 32) 0)))) (tB 6 p (tB 10 p (tB 11 p (tB 12 p (tL 12 p (.getfield 21) 3) (tL 11 p (.aload_n 0) 0)) (tL 10 p (.aload_n 0) 0)) (tB 9 p (tL 9 p (.istore_n 3) 0) (tL 6 p (.invokevirtual 71) 17))) (tB 2 p (tB 5 p (tL 5 p (.iconst 0) 0) (tL 2 p (.getfield 17) 2)) (tB 1 p (tL 1 p (.aload_n 0) 0) (tL 0 p (.aload_n 0) 0)))))))
set_option maxHeartbeats 4000000 in
def cd24 (p : Nat) : Option (Instr × Nat) := (tB 16 p (tB 25 p (tB 31 p (tB 32 p (tB 35 p (tL 35 p .ireturn 0) (tL 32 p (.getfield 99) 16)) (tL 31 p (.aload_n 0) 0)) (tB 28 p (tL 28 p (.invokevirtual 92) 8) (tL 25 p (.getfield 89) 20))) (tB 20 p (tB 21 p (tB 24 p (tL 24 p (.aload_n 0) 0) (tL 21 p (.getfield 86) 19)) (tL 20 p (.aload_n 0) 0)) (tB 17 p (tL 17 p (.getfield 83) 18) (tL 16 p (.aload_n 0) 0)))) (tB 9 p (tB 11 p (tB 12 p (tB 13 p (tL 13 p (.getfield 79) 17) (tL 12 p (.aload_n 0) 0)) (tL 11 p (.aload_n 0) 0)) (tB 10 p (tL 10 p .ireturn 0) (tL 9 p (.iconst 0) 0))) (tB 2 p (tB 3 p (tB 6 p (tL 6 p (.ifCond .ne 5) 11) (tL 3 p (.invokevirtual 75) 23)) (tL 2 p (.iload_n 2) 0)) (tB 1 p (tL 1 p (.iload_n 1) 0) (tL 0 p (.aload_n 0) 0)))))
def pCode (m pc : Nat) : Option (Instr × Nat) := bif Nat.ble pN m then none else bif Nat.ble (pTop m) pc then none else (bif Nat.ble 12 m then (bif Nat.ble 18 m then (bif Nat.ble 21 m then (bif Nat.ble 23 m then (bif Nat.ble 24 m then cd24 pc else cd23 pc) else (bif Nat.ble 22 m then cd22 pc else cd21 pc)) else (bif Nat.ble 19 m then (bif Nat.ble 20 m then cd20 pc else cd19 pc) else cd18 pc)) else (bif Nat.ble 15 m then (bif Nat.ble 16 m then (bif Nat.ble 17 m then cd17 pc else cd16 pc) else cd15 pc) else (bif Nat.ble 13 m then (bif Nat.ble 14 m then cd14 pc else cd13 pc) else cd12 pc))) else (bif Nat.ble 6 m then (bif Nat.ble 9 m then (bif Nat.ble 10 m then (bif Nat.ble 11 m then cd11 pc else cd10 pc) else cd9 pc) else (bif Nat.ble 7 m then (bif Nat.ble 8 m then cd8 pc else cd7 pc) else cd6 pc)) else (bif Nat.ble 3 m then (bif Nat.ble 4 m then (bif Nat.ble 5 m then cd5 pc else cd4 pc) else cd3 pc) else (bif Nat.ble 1 m then (bif Nat.ble 2 m then cd2 pc else cd1 pc) else cd0 pc))))
def lkF : List (Nat × Nat × Nat) := [(1, 7, 0), (1, 13, 1), (1, 17, 2), (1, 21, 3), (1, 24, 4), (1, 27, 5), (1, 30, 6), (1, 33, 7), (1, 36, 8), (1, 39, 9), (1, 42, 10), (1, 45, 11), (1, 48, 12), (1, 51, 13), (1, 54, 14), (1, 96, 15), (1, 99, 16), (1, 79, 17), (1, 83, 18), (1, 86, 19), (1, 89, 20)]
def lkN : List (Nat × Nat) := [(0, 7)]
def lkC : List (Nat × Nat × Nat) := []
def lkD : List (Nat × Nat × Nat) := []
def lkV : List (Nat × Nat × Nat) := [(0, 9, 1), (0, 24, 2), (1, 102, 3), (0, 12, 4), (1, 57, 5), (1, 61, 6), (1, 105, 7), (1, 92, 8), (1, 113, 9), (1, 64, 10), (0, 20, 11), (1, 68, 12), (0, 16, 13), (0, 27, 14), (0, 30, 15), (0, 34, 16), (1, 71, 17), (1, 109, 18), (0, 38, 19), (0, 41, 20), (0, 45, 21), (0, 48, 22), (1, 75, 23), (0, 51, 24)]
def lkO : List (Nat × Nat) := [(1, 1)]
def mV : List Nat := [2, 4, 11, 13, 14, 15, 16, 19, 20, 21, 22, 24]
def mP : List Nat := [3, 5, 6, 7, 8, 9, 10, 12, 17, 18, 23]
def mS : List Nat := []
def mI : List Nat := [1]
def mA : List Nat := [1, 2, 3, 4, 5, 6, 7, 8, 9, 10, 11, 12, 13, 14, 15, 16, 17, 18, 19, 20, 21, 22, 23, 24]
def aTys : List FieldType := [.int, .boolean]
abbrev QCell := List Value ⊕ ((FieldType × List Int32) ⊕ List Int64)
abbrev QHeap := List QCell
abbrev QLoc := List (Option Value)
abbrev vI (x : Int32) : Option Value := some (.int x)
abbrev vR (a : Addr) : Option Value := some (.ref a)
abbrev vL (x : Int64) : Option Value := some (.long x)
abbrev QSt := Nat × QLoc × List Value × QHeap
def qv (ad : Nat → Addr) : Value → Value
 | .ref k => .ref (ad k)
 | v => v
def qsz : QCell → Nat
 | .inl _ => cN
 | .inr (.inl x) => x.2.length
 | .inr (.inr x) => x.length
def qhs : QHeap → Nat
 | [] => 0
 | c :: t => qsz c + qhs t
def aget {α : Type} (xs : List α) (j : Int32) : Option α := if j < 0 then none else xs[j.toNatClampNeg]?
def aset {α : Type} (xs : List α) (j : Int32) (v : α) : Option (List α) := if j < 0 then none else if j.toNatClampNeg < xs.length then some (xs.set j.toNatClampNeg v) else none
def qnew (n : Int32) : Option Nat := if n < 0 then none else if n.toNatClampNeg ≤ 67108864 then some n.toNatClampNeg else none
def qdiv (x y : Int32) : Option Int32 := if y = 0 then none else some (x / y)
def qrem (x y : Int32) : Option Int32 := if y = 0 then none else some (x % y)
def qboo (x : Int32) : Option Int32 := if x = 0 then some x else if x = 1 then some x else none
def lget : QLoc → Nat → Option Value
 | [], _ => none
 | v :: _, 0 => v
 | _ :: t, k + 1 => lget t k
def hget : QHeap → Nat → Option QCell
 | [], _ => none
 | v :: _, 0 => some v
 | _ :: t, k + 1 => hget t k
def vget : List Value → Nat → Option Value
 | [], _ => none
 | v :: _, 0 => some v
 | _ :: t, k + 1 => vget t k
def lkill (L : QLoc) : Nat → QLoc
 | 0 => L
 | k + 1 => match lget L k with
  | some (.long _) => L.set k none
  | some (.double _) => L.set k none
  | _ => L
def lput (L : QLoc) (k : Nat) (v : Value) : Option QLoc :=
 match v with
 | .long x => bif Nat.ble (k + 2) L.length then some (((lkill L k).set k (some (.long x))).set (k + 1) none) else none
 | .double _ => none
 | v => bif Nat.ble (k + 1) L.length then some ((lkill L k).set k (some v)) else none
def qload (pc : Nat) (L : QLoc) (S : List Value) (σ : QHeap) (k : Nat) (ok : Value → Bool) : Option QSt :=
 match lget L k with
 | some v => bif ok v then some (pc, L, v :: S, σ) else none
 | none => none
def isI : Value → Bool | .int _ => true | _ => false
def isJ : Value → Bool | .long _ => true | _ => false
def isR : Value → Bool | .ref _ => true | _ => false
def qstore (pc : Nat) (L : QLoc) (S : List Value) (σ : QHeap) (k : Nat) (ok : Value → Bool) : Option QSt :=
 match S with
 | v :: S' => bif ok v then (match lput L k v with | some L' => some (pc, L', S', σ) | none => none) else none
 | [] => none
def qbin (pc : Nat) (L : QLoc) (S : List Value) (σ : QHeap) (f : Int32 → Int32 → Int32) : Option QSt :=
 match S with
 | .int y :: .int x :: S' => some (pc, L, .int (f x y) :: S', σ)
 | _ => none
def qbino (pc : Nat) (L : QLoc) (S : List Value) (σ : QHeap) (f : Int32 → Int32 → Option Int32) : Option QSt :=
 match S with
 | .int y :: .int x :: S' => (f x y).bind fun z => some (pc, L, .int z :: S', σ)
 | _ => none
def qbinJ (pc : Nat) (L : QLoc) (S : List Value) (σ : QHeap) (f : Int64 → Int64 → Int64) : Option QSt :=
 match S with
 | .long y :: .long x :: S' => some (pc, L, .long (f x y) :: S', σ)
 | _ => none
def qshJ (pc : Nat) (L : QLoc) (S : List Value) (σ : QHeap) (f : Int64 → Int32 → Int64) : Option QSt :=
 match S with
 | .int y :: .long x :: S' => some (pc, L, .long (f x y) :: S', σ)
 | _ => none
def quni (pc : Nat) (L : QLoc) (S : List Value) (σ : QHeap) (f : Int32 → Value) : Option QSt :=
 match S with
 | .int x :: S' => some (pc, L, f x :: S', σ)
 | _ => none
def quniJ (pc : Nat) (L : QLoc) (S : List Value) (σ : QHeap) (f : Int64 → Value) : Option QSt :=
 match S with
 | .long x :: S' => some (pc, L, f x :: S', σ)
 | _ => none
def qald (pc : Nat) (L : QLoc) (S : List Value) (σ : QHeap) (ok : FieldType → Bool) : Option QSt :=
 match S with
 | .int j :: .ref a :: S' => (match hget σ a with
  | some (.inr (.inl x)) => bif ok x.1 then (aget x.2 j).bind fun v => some (pc, L, .int v :: S', σ) else none
  | _ => none)
 | _ => none
def qaldJ (pc : Nat) (L : QLoc) (S : List Value) (σ : QHeap) : Option QSt :=
 match S with
 | .int j :: .ref a :: S' => (match hget σ a with
  | some (.inr (.inr x)) => (aget x j).bind fun v => some (pc, L, .long v :: S', σ)
  | _ => none)
 | _ => none
def qnar : FieldType → Int32 → Int32
 | .boolean, x => x &&& 1
 | .byte, x => x.toInt8.toInt32
 | _, x => x
def qast (pc : Nat) (L : QLoc) (S : List Value) (σ : QHeap) (ok : FieldType → Bool) : Option QSt :=
 match S with
 | .int v :: .int j :: .ref a :: S' => (match hget σ a with
  | some (.inr (.inl x)) => bif ok x.1 && Nat.ble k0 a then (aset x.2 j (qnar x.1 v)).bind fun y => some (pc, L, S', σ.set a (.inr (.inl (x.1, y)))) else none
  | _ => none)
 | _ => none
def qastJ (pc : Nat) (L : QLoc) (S : List Value) (σ : QHeap) : Option QSt :=
 match S with
 | .long v :: .int j :: .ref a :: S' => (match hget σ a with
  | some (.inr (.inr x)) => bif Nat.ble k0 a then (aset x j v).bind fun y => some (pc, L, S', σ.set a (.inr (.inr y))) else none
  | _ => none)
 | _ => none
def tyI : FieldType → Bool | .int => true | _ => false
def tyB : FieldType → Bool | .boolean => true | .byte => true | _ => false
def qfit : FieldType → Value → Option Value
 | .int, .int x => some (.int x)
 | .boolean, .int x => (qboo x).bind fun y => some (.int y)
 | .long, .long x => some (.long x)
 | .array t, .ref a => some (.ref a)
 | _, _ => none
def qget (pc : Nat) (L : QLoc) (S : List Value) (σ : QHeap) (k : Nat) : Option QSt :=
 match S with
 | .ref a :: S' => (match hget σ a with
  | some (.inl vs) => (match vget vs k with | some v => some (pc, L, v :: S', σ) | none => none)
  | _ => none)
 | _ => none
def qput (pc : Nat) (L : QLoc) (S : List Value) (σ : QHeap) (k : Nat) : Option QSt :=
 match S with
 | v :: .ref a :: S' => (match hget σ a with
  | some (.inl vs) => bif Nat.ble k0 a && Nat.ble (k + 1) vs.length then (qfit (fTy k) v).bind fun w => some (pc, L, S', σ.set a (.inl (vs.set k w))) else none
  | _ => none)
 | _ => none
def qnewA (pc : Nat) (L : QLoc) (S : List Value) (σ : QHeap) (t : ArrayType) : Option QSt :=
 match S with
 | .int n :: S' => (match t with
  | .int => (qnew n).bind fun k => some (pc, L, .ref σ.length :: S', σ ++ [.inr (.inl (.int, List.replicate k 0))])
  | .boolean => (qnew n).bind fun k => some (pc, L, .ref σ.length :: S', σ ++ [.inr (.inl (.boolean, List.replicate k 0))])
  | .byte => (qnew n).bind fun k => some (pc, L, .ref σ.length :: S', σ ++ [.inr (.inl (.byte, List.replicate k 0))])
  | .long => (qnew n).bind fun k => some (pc, L, .ref σ.length :: S', σ ++ [.inr (.inr (List.replicate k 0))])
  | _ => none)
 | _ => none
def qlen (pc : Nat) (L : QLoc) (S : List Value) (σ : QHeap) : Option QSt :=
 match S with
 | .ref a :: S' => (match hget σ a with
  | some (.inr (.inl x)) => some (pc, L, .int x.2.length.toInt32 :: S', σ)
  | some (.inr (.inr x)) => some (pc, L, .int x.length.toInt32 :: S', σ)
  | _ => none)
 | _ => none
def qdup (pc : Nat) (L : QLoc) (S : List Value) (σ : QHeap) : Option QSt :=
 match S with
 | .int x :: S' => some (pc, L, .int x :: .int x :: S', σ)
 | .ref x :: S' => some (pc, L, .ref x :: .ref x :: S', σ)
 | _ => none
def qdup2 (pc : Nat) (L : QLoc) (S : List Value) (σ : QHeap) : Option QSt :=
 match S with
 | .int x :: .ref y :: S' => some (pc, L, .int x :: .ref y :: .int x :: .ref y :: S', σ)
 | .int x :: .int y :: S' => some (pc, L, .int x :: .int y :: .int x :: .int y :: S', σ)
 | .long x :: S' => some (pc, L, .long x :: .long x :: S', σ)
 | _ => none
def qpop (pc : Nat) (L : QLoc) (S : List Value) (σ : QHeap) : Option QSt :=
 match S with
 | .int _ :: S' => some (pc, L, S', σ)
 | .ref _ :: S' => some (pc, L, S', σ)
 | _ => none
def qif (pc : Nat) (L : QLoc) (S : List Value) (σ : QHeap) (cd : ClassFile.Cond) (tgt : Nat) : Option QSt :=
 match S with
 | .int x :: S' => some (bif ifCond.holds cd x then tgt else pc, L, S', σ)
 | _ => none
def qicmp (pc : Nat) (L : QLoc) (S : List Value) (σ : QHeap) (cd : ClassFile.Cond) (tgt : Nat) : Option QSt :=
 match S with
 | .int y :: .int x :: S' => some (bif if_icmp.holds cd x y then tgt else pc, L, S', σ)
 | _ => none
def qinc (pc : Nat) (L : QLoc) (S : List Value) (σ : QHeap) (k : Nat) (i : Int) : Option QSt :=
 match lget L k with
 | some (.int x) => (match lput L k (.int (x + Int32.ofInt i)) with | some L' => some (pc, L', S, σ) | none => none)
 | _ => none
def qldc (pc : Nat) (L : QLoc) (S : List Value) (σ : QHeap) (k : Nat) : Option QSt :=
 match vget cK k with
 | some v => some (pc, L, v :: S, σ)
 | none => none
def qexec (pc : Nat) (L : QLoc) (S : List Value) (σ : QHeap) (aux : Nat) : Instr → Option QSt
 | .aload_n k => qload (pc + 1) L S σ k.val isR
 | .aload k => qload (pc + 2) L S σ k isR
 | .iload_n k => qload (pc + 1) L S σ k.val isI
 | .iload k => qload (pc + 2) L S σ k isI
 | .lload_n k => qload (pc + 1) L S σ k.val isJ
 | .lload k => qload (pc + 2) L S σ k isJ
 | .iconst i => some (pc + 1, L, .int (Int32.ofInt i) :: S, σ)
 | .bipush i => some (pc + 2, L, .int (Int8.ofInt i).toInt32 :: S, σ)
 | .sipush i => some (pc + 3, L, .int (Int16.ofInt i).toInt32 :: S, σ)
 | .lconst k => some (pc + 1, L, .long (Int64.ofNat k.val) :: S, σ)
 | .ldc _ => qldc (pc + 2) L S σ aux
 | .ldc2_w _ => qldc (pc + 3) L S σ aux
 | .istore_n k => qstore (pc + 1) L S σ k.val isI
 | .istore k => qstore (pc + 2) L S σ k isI
 | .lstore_n k => qstore (pc + 1) L S σ k.val isJ
 | .lstore k => qstore (pc + 2) L S σ k isJ
 | .astore_n k => qstore (pc + 1) L S σ k.val isR
 | .astore k => qstore (pc + 2) L S σ k isR
 | .iinc k i => qinc (pc + 3) L S σ k i
 | .iadd => qbin (pc + 1) L S σ fun x y => x + y
 | .isub => qbin (pc + 1) L S σ fun x y => x - y
 | .imul => qbin (pc + 1) L S σ fun x y => x * y
 | .iand => qbin (pc + 1) L S σ fun x y => x &&& y
 | .ior => qbin (pc + 1) L S σ fun x y => x ||| y
 | .ixor => qbin (pc + 1) L S σ fun x y => x ^^^ y
 | .ishl => qbin (pc + 1) L S σ fun x y => x <<< (y &&& 31)
 | .ishr => qbin (pc + 1) L S σ fun x y => x >>> (y &&& 31)
 | .iushr => qbin (pc + 1) L S σ fun x y => XT.ushr x y
 | .idiv => qbino (pc + 1) L S σ qdiv
 | .irem => qbino (pc + 1) L S σ qrem
 | .ineg => quni (pc + 1) L S σ fun x => .int (-x)
 | .i2l => quni (pc + 1) L S σ fun x => .long x.toInt64
 | .i2b => quni (pc + 1) L S σ fun x => .int x.toInt8.toInt32
 | .l2i => quniJ (pc + 1) L S σ fun x => .int x.toInt32
 | .lneg => quniJ (pc + 1) L S σ fun x => .long (-x)
 | .ladd => qbinJ (pc + 1) L S σ fun x y => x + y
 | .lsub => qbinJ (pc + 1) L S σ fun x y => x - y
 | .lmul => qbinJ (pc + 1) L S σ fun x y => x * y
 | .land => qbinJ (pc + 1) L S σ fun x y => x &&& y
 | .lor => qbinJ (pc + 1) L S σ fun x y => x ||| y
 | .lxor => qbinJ (pc + 1) L S σ fun x y => x ^^^ y
 | .lshl => qshJ (pc + 1) L S σ fun x y => x <<< (y.toInt64 &&& 63)
 | .lshr => qshJ (pc + 1) L S σ fun x y => x >>> (y.toInt64 &&& 63)
 | .lushr => qshJ (pc + 1) L S σ fun x y => XT.ushrL x y
 | .lcmp => (match S with
  | .long y :: .long x :: S' => some (pc + 1, L, .int (XT.cmpL x y) :: S', σ)
  | _ => none)
 | .goto _ => some (aux, L, S, σ)
 | .ifCond cd _ => qif (pc + 3) L S σ cd aux
 | .if_icmp cd _ => qicmp (pc + 3) L S σ cd aux
 | .dup => qdup (pc + 1) L S σ
 | .dup2 => qdup2 (pc + 1) L S σ
 | .pop => qpop (pc + 1) L S σ
 | .getfield _ => qget (pc + 3) L S σ aux
 | .putfield _ => qput (pc + 3) L S σ aux
 | .iaload => qald (pc + 1) L S σ tyI
 | .baload => qald (pc + 1) L S σ tyB
 | .laload => qaldJ (pc + 1) L S σ
 | .iastore => qast (pc + 1) L S σ tyI
 | .bastore => qast (pc + 1) L S σ tyB
 | .lastore => qastJ (pc + 1) L S σ
 | .arraylength => qlen (pc + 1) L S σ
 | .newarray t => qnewA (pc + 2) L S σ t
 | .new _ => some (pc + 3, L, .ref σ.length :: S, σ ++ [.inl cDef])
 | _ => none
def qstep (m : Nat) (st : QSt) : Option QSt :=
 match pCode m st.1 with
 | some (i, aux) => qexec st.1 st.2.1 st.2.2.1 st.2.2.2 aux i
 | none => none
def qsteps (m : Nat) : Nat → QSt → Option QSt
 | 0, st => some st
 | n + 1, st => match qstep m st with | some st' => qsteps m n st' | none => none
def qentry (args : List Value) (mx : Nat) : QLoc := (args.flatMap fun v => match v with | .long x => [some (.long x), none] | .double x => [some (.double x), none] | v => [some v]) ++ List.replicate (mx - (args.map fun v => v.category).sum) none
def ilen : Instr → Nat
 | .aload _ | .iload _ | .lload _ | .istore _ | .lstore _ | .astore _ | .bipush _ | .ldc _ | .newarray _ => 2
 | .sipush _ | .ldc2_w _ | .iinc _ _ | .goto _ | .ifCond _ _ | .if_icmp _ _ | .getfield _ | .putfield _ | .new _ | .invokevirtual _ | .invokespecial _ | .invokestatic _ => 3
 | _ => 1
def qtgt (pc : Nat) (o : Int) (aux : Nat) : Bool := decide (0 ≤ (pc : Int) + o) && decide (((pc : Int) + o).toNat = aux)
def qlk (m pc : Nat) (i : Instr) (aux : Nat) : Bool :=
 match i with
 | .goto o => qtgt pc o aux
 | .ifCond _ o => qtgt pc o aux
 | .if_icmp _ o => qtgt pc o aux
 | .getfield idx => lkF.contains (pK m, idx, aux)
 | .putfield idx => lkF.contains (pK m, idx, aux) && (!fFin aux || (pK m == 1 && pNm m == "<init>"))
 | .new idx => lkN.contains (pK m, idx)
 | .newarray t => aTys.contains (newarray.typeOf t)
 | .ldc idx => lkC.contains (pK m, idx, aux)
 | .ldc2_w idx => lkD.contains (pK m, idx, aux)
 | _ => true
def qchk (m pc : Nat) (i : Instr) (aux : Nat) : Bool := decide (decode (pBytes m) pc = .ok (i, ilen i)) && qlk m pc i aux
def QCellOk (Z : State) (ad : Nat → Addr) (h : Heap) (a : Addr) : QCell → Prop
 | .inl vs => Exa Z h a cName ∧ vs.length = nF ∧ ∀ (k : Nat) (v : Value), k < nF → vget vs k = some v → Fld Z h a cName (fNm k) (fDs k) (qv ad v)
 | .inr (.inl x) => ∃ c : Cell, Arr Z h a c x.1 ∧ c.slots = (x.2.map Value.int).toArray
 | .inr (.inr x) => ∃ c : Cell, Arr Z h a c .long ∧ c.slots = (x.map Value.long).toArray
def QAd (n0 : Nat) (ad : Nat → Addr) : Prop := (∀ k, k0 ≤ k → ad k = n0 + (k - k0)) ∧ ∀ i j, ad i = ad j → i = j
def QRep (Z : State) (n0 : Nat) (ad : Nat → Addr) (h : Heap) (σ : QHeap) : Prop := k0 ≤ σ.length ∧ h.size = n0 + (σ.length - k0) ∧ ∀ k c, hget σ k = some c → QCellOk Z ad h (ad k) c
def QLocOk (ad : Nat → Addr) (L : QLoc) (C : Array Slot) : Prop :=
 L.length = C.size ∧ (∀ k v, lget L k = some v → C[k]? = some (.val (qv ad v))) ∧ (∀ k w, C[k]? = some (.val w) → w.category = 2 → C[k + 1]? = some .second) ∧ ∀ k, C[k]? = some .second → ∃ j w, k = j + 1 ∧ C[j]? = some (.val w) ∧ w.category = 2
def QW (Z : State) (a0 : Array Value) : Prop :=
 (∀ t ∈ lkF, (Cond.fieldLink (kName t.1) t.2.1 cName (fNm t.2.2) (fDs t.2.2)).before a0 Z = true) ∧
 (∀ t ∈ lkN, (Cond.classLink (kName t.1) t.2 cName).before a0 Z = true) ∧
 (∀ t ∈ lkC, ∃ v, vget cK t.2.2 = some (.int v) ∧ (Cond.constant (kName t.1) t.2.1 v).before a0 Z = true) ∧
 (∀ t ∈ lkD, ∃ v, vget cK t.2.2 = some (.long v) ∧ (Cond.constantLong (kName t.1) t.2.1 v).before a0 Z = true) ∧
 (∀ t ∈ lkV, (Cond.methodLink (kName t.1) t.2.1 (pName t.2.2)).before a0 Z = true) ∧
 (∀ t ∈ lkO, (Cond.methodLink (kName t.1) t.2 Lib.objectInit).before a0 Z = true) ∧
 (∀ m ∈ mV, (Cond.declares (pName m)).before a0 Z = true ∧ (Cond.selects cName (pName m) (pName m)).before a0 Z = true ∧ (Cond.instanceMethod (pName m)).before a0 Z = true) ∧
 (∀ m ∈ mP, (Cond.instanceMethod (pName m)).before a0 Z = true ∧ (Cond.privateMethod (pName m)).before a0 Z = true) ∧
 (∀ m ∈ mS, (Cond.static (pName m)).before a0 Z = true) ∧
 (∀ m ∈ mI, (Cond.instanceMethod (pName m)).before a0 Z = true) ∧
 (∀ m ∈ mA, (Cond.code (pName m) (pBytes m) (pMaxL m) (pRet m)).before a0 Z = true ∧ (Cond.initialized (kName (pK m))).before a0 Z = true) ∧
 (Cond.instanceMethod Lib.objectInit).before a0 Z = true ∧ (Cond.code Lib.objectInit ⟨#[0xb1]⟩ 1 none).before a0 Z = true ∧
 (∀ k, k < nF → bif fFin k then (Cond.laysFinal cName cName (fNm k) (fDs k)).before a0 Z = true else (Cond.lays cName cName (fNm k) (fDs k)).before a0 Z = true) ∧
 (Cond.instantiable cName cN).before a0 Z = true ∧ (Cond.initialized cName).before a0 Z = true ∧
 ∀ ty ∈ aTys, (Cond.arrayClass ty).before a0 Z = true
section Words
variable {Z : State} {a0 : Array Value}
theorem qw_fl (W : QW Z a0) : ∀ t ∈ lkF, (Cond.fieldLink (kName t.1) t.2.1 cName (fNm t.2.2) (fDs t.2.2)).before a0 Z = true := W.1
theorem qw_nw (W : QW Z a0) : ∀ t ∈ lkN, (Cond.classLink (kName t.1) t.2 cName).before a0 Z = true := W.2.1
theorem qw_cI (W : QW Z a0) : ∀ t ∈ lkC, ∃ v, vget cK t.2.2 = some (.int v) ∧ (Cond.constant (kName t.1) t.2.1 v).before a0 Z = true := W.2.2.1
theorem qw_cJ (W : QW Z a0) : ∀ t ∈ lkD, ∃ v, vget cK t.2.2 = some (.long v) ∧ (Cond.constantLong (kName t.1) t.2.1 v).before a0 Z = true := W.2.2.2.1
theorem qw_ml (W : QW Z a0) : ∀ t ∈ lkV, (Cond.methodLink (kName t.1) t.2.1 (pName t.2.2)).before a0 Z = true := W.2.2.2.2.1
theorem qw_mo (W : QW Z a0) : ∀ t ∈ lkO, (Cond.methodLink (kName t.1) t.2 Lib.objectInit).before a0 Z = true := W.2.2.2.2.2.1
theorem qw_vi (W : QW Z a0) : ∀ m ∈ mV, (Cond.declares (pName m)).before a0 Z = true ∧ (Cond.selects cName (pName m) (pName m)).before a0 Z = true ∧ (Cond.instanceMethod (pName m)).before a0 Z = true := W.2.2.2.2.2.2.1
theorem qw_pr (W : QW Z a0) : ∀ m ∈ mP, (Cond.instanceMethod (pName m)).before a0 Z = true ∧ (Cond.privateMethod (pName m)).before a0 Z = true := W.2.2.2.2.2.2.2.1
theorem qw_st (W : QW Z a0) : ∀ m ∈ mS, (Cond.static (pName m)).before a0 Z = true := W.2.2.2.2.2.2.2.2.1
theorem qw_ini (W : QW Z a0) : ∀ m ∈ mI, (Cond.instanceMethod (pName m)).before a0 Z = true := W.2.2.2.2.2.2.2.2.2.1
theorem qw_cod (W : QW Z a0) : ∀ m ∈ mA, (Cond.code (pName m) (pBytes m) (pMaxL m) (pRet m)).before a0 Z = true ∧ (Cond.initialized (kName (pK m))).before a0 Z = true := W.2.2.2.2.2.2.2.2.2.2.1
theorem qw_oi (W : QW Z a0) : (Cond.instanceMethod Lib.objectInit).before a0 Z = true := W.2.2.2.2.2.2.2.2.2.2.2.1
theorem qw_oc (W : QW Z a0) : (Cond.code Lib.objectInit ⟨#[0xb1]⟩ 1 none).before a0 Z = true := W.2.2.2.2.2.2.2.2.2.2.2.2.1
theorem qw_lay (W : QW Z a0) : ∀ k, k < nF → bif fFin k then (Cond.laysFinal cName cName (fNm k) (fDs k)).before a0 Z = true else (Cond.lays cName cName (fNm k) (fDs k)).before a0 Z = true := W.2.2.2.2.2.2.2.2.2.2.2.2.2.1
theorem qw_inst (W : QW Z a0) : (Cond.instantiable cName cN).before a0 Z = true := W.2.2.2.2.2.2.2.2.2.2.2.2.2.2.1
theorem qw_init (W : QW Z a0) : (Cond.initialized cName).before a0 Z = true := W.2.2.2.2.2.2.2.2.2.2.2.2.2.2.2.1
theorem qw_arr (W : QW Z a0) : ∀ ty ∈ aTys, (Cond.arrayClass ty).before a0 Z = true := W.2.2.2.2.2.2.2.2.2.2.2.2.2.2.2.2
end Words
theorem hget_eq : ∀ (σ : QHeap) k, hget σ k = σ[k]?
 | [], _ => by simp [hget]
 | _ :: _, 0 => by simp [hget]
 | _ :: t, k + 1 => by simp [hget, hget_eq t k]
theorem vget_eq : ∀ (σ : List Value) k, vget σ k = σ[k]?
 | [], _ => by simp [vget]
 | _ :: _, 0 => by simp [vget]
 | _ :: t, k + 1 => by simp [vget, vget_eq t k]
theorem lget_eq : ∀ (L : QLoc) k, lget L k = (L[k]?).getD none
 | [], _ => by simp [lget]
 | _ :: _, 0 => by simp [lget]
 | _ :: t, k + 1 => by simp [lget, lget_eq t k]
theorem lget_lt {L : QLoc} {k : Nat} {v : Value} (h : lget L k = some v) : k < L.length := by
 rw [lget_eq] at h
 rcases Nat.lt_or_ge k L.length with q | q
 ·exact q
 ·simp [List.getElem?_eq_none q] at h
theorem lget_set {L : QLoc} {k j : Nat} {o : Option Value} (hk : k < L.length) : lget (L.set k o) j = if j = k then o else lget L j := by
 simp only [lget_eq, List.getElem?_set]
 by_cases e : k = j
 ·subst e; simp [hk]
 ·simp [e, Ne.symm e]
theorem qhs_app (σ τ : QHeap) : qhs (σ ++ τ) = qhs σ + qhs τ := by
 induction σ with
 | nil => simp [qhs]
 | cons c t ih => simp [qhs, ih, Nat.add_assoc]
theorem qhs_set {σ : QHeap} {k : Nat} {c d : QCell} (h : hget σ k = some c) (hs : qsz d = qsz c) : qhs (σ.set k d) = qhs σ := by
 induction σ generalizing k with
 | nil => simp [hget] at h
 | cons x t ih =>
  cases k with
  | zero => simp only [hget, Option.some.injEq] at h; subst h; simp [qhs, hs]
  | succ k => simp only [hget] at h; simp [qhs, ih h]
theorem hget_set {σ : QHeap} {k j : Nat} {c d : QCell} (h : hget σ k = some c) : hget (σ.set k d) j = if j = k then some d else hget σ j := by
 rw [hget_eq] at h
 have hk := (List.getElem?_eq_some_iff.mp h).1
 simp only [hget_eq, List.getElem?_set]
 by_cases e : k = j
 ·subst e; simp [hk]
 ·simp [e, Ne.symm e]
theorem lkill_len (L : QLoc) (k : Nat) : (lkill L k).length = L.length := by
 cases k with
 | zero => rfl
 | succ k => simp only [lkill]; split <;> simp
theorem lget_kill {L : QLoc} {k j : Nat} {v : Value} (h : lget (lkill L k) j = some v) : lget L j = some v ∧ (k = j + 1 → v.category ≠ 2) := by
 cases k with
 | zero => exact ⟨h, fun e => by omega⟩
 | succ k =>
  simp only [lkill] at h
  split at h
  ·rename_i x q
   rw [lget_set (lget_lt q)] at h
   split at h
   ·cases h
   ·rename_i ne; exact ⟨h, fun e => absurd (by omega) ne⟩
  ·rename_i x q
   rw [lget_set (lget_lt q)] at h
   split at h
   ·cases h
   ·rename_i ne; exact ⟨h, fun e => absurd (by omega) ne⟩
  ·rename_i q1 q2
   refine ⟨h, fun e hc => ?_⟩
   obtain rfl : j = k := by omega
   cases v with
   | long x => exact q1 _ h
   | double x => exact q2 _ h
   | _ => simp [Value.category] at hc
theorem qv_cat (ad : Nat → Addr) (v : Value) : (qv ad v).category = v.category := by cases v <;> rfl
def kA (C : Array Slot) (k j : Nat) : Prop := k = j + 1 ∧ C[k]? = some .second
def kB (C : Array Slot) (k j : Nat) : Prop := j = k + 1 ∧ ∃ u, C[k]? = some (.val u) ∧ u.category = 2
def kD (C : Array Slot) (k j : Nat) : Prop := j = k + 2 ∧ ∃ u, C[k + 1]? = some (.val u) ∧ u.category = 2
theorem set1_at {C D : Array Slot} {k : Nat} {w : Value} (hk : k < C.size) (hw : w.category = 1) (h : storeLocals C k w = some D) :
  D.size = C.size ∧ D[k]? = some (.val w) ∧ ∀ j, j ≠ k → (D[j]? = C[j]? ∧ ¬ kA C k j ∧ ¬ kB C k j) ∨ D[j]? = some .unset ∧ (kA C k j ∨ kB C k j) := by
 have hck : C[k]? = some C[k] := Array.getElem?_eq_getElem hk
 unfold storeLocals at h
 simp only [hck, Option.bind_eq_bind, Option.bind_some] at h
 have self : ∀ {E : Array Slot}, k < E.size → storeSelf E k w = some D → D = E.setIfInBounds k (.val w) := by
  intro E hE q
  simp only [storeSelf, setAt, hE, if_true, Option.bind_eq_bind, Option.bind_some, hw] at q
  simpa using q.symm
 split at h
 ·rename_i q
  have hk1 : k - 1 < C.size := by omega
  simp only [setAt, hk1, if_true, Option.bind_some] at h
  have e := self (by simpa using hk) h
  subst e
  refine ⟨by simp, by simp [hk], fun j hj => ?_⟩
  by_cases ej : k = j + 1
  ·refine Or.inr ⟨?_, Or.inl ⟨ej, by rw [hck, q]⟩⟩
   rw [Array.getElem?_setIfInBounds_ne (Ne.symm hj), show j = k - 1 by omega]
   simp [hk1]
  ·refine Or.inl ⟨?_, fun x => ej x.1, fun x => ?_⟩
   ·rw [Array.getElem?_setIfInBounds_ne (Ne.symm hj), Array.getElem?_setIfInBounds_ne (by omega)]
   ·obtain ⟨-, u, x1, -⟩ := x
    rw [hck, q] at x1; cases x1
 ·rename_i u q
  split at h
  ·rename_i hu
   by_cases hk1 : k + 1 < C.size
   ·simp only [setAt, hk1, if_true, Option.bind_some] at h
    have e := self (by simpa using hk) h
    subst e
    refine ⟨by simp, by simp [hk], fun j hj => ?_⟩
    by_cases ej : j = k + 1
    ·refine Or.inr ⟨?_, Or.inr ⟨ej, u, by rw [hck, q], hu⟩⟩
     rw [Array.getElem?_setIfInBounds_ne (Ne.symm hj), ej]
     simp [hk1]
    ·refine Or.inl ⟨?_, fun x => ?_, fun x => ej x.1⟩
     ·rw [Array.getElem?_setIfInBounds_ne (Ne.symm hj), Array.getElem?_setIfInBounds_ne (by omega)]
     ·obtain ⟨-, x1⟩ := x
      rw [hck, q] at x1; cases x1
   ·simp [setAt, hk1] at h
  ·rename_i hu
   have e := self hk h
   subst e
   refine ⟨by simp, by simp [hk], fun j hj => Or.inl ⟨Array.getElem?_setIfInBounds_ne (Ne.symm hj), fun x => ?_, fun x => ?_⟩⟩
   ·obtain ⟨-, x1⟩ := x
    rw [hck, q] at x1; cases x1
   ·obtain ⟨-, u', x1, x2⟩ := x
    rw [hck, q] at x1; cases x1; exact hu x2
 ·rename_i q
  have e := self hk h
  subst e
  refine ⟨by simp, by simp [hk], fun j hj => Or.inl ⟨Array.getElem?_setIfInBounds_ne (Ne.symm hj), fun x => ?_, fun x => ?_⟩⟩
  ·obtain ⟨-, x1⟩ := x
   rw [hck, q] at x1; cases x1
  ·obtain ⟨-, u', x1, x2⟩ := x
   rw [hck, q] at x1; cases x1
theorem set2_at {C D : Array Slot} {k : Nat} {w : Value} (hk : k + 1 < C.size) (hw : w.category = 2) (wf : ∀ k w, C[k]? = some (.val w) → w.category = 2 → C[k + 1]? = some .second) (h : storeLocals C k w = some D) :
  D.size = C.size ∧ D[k]? = some (.val w) ∧ D[k + 1]? = some .second ∧ ∀ j, j ≠ k → j ≠ k + 1 → (D[j]? = C[j]? ∧ ¬ kA C k j ∧ ¬ kD C k j) ∨ D[j]? = some .unset ∧ (kA C k j ∨ kD C k j) := by
 have hk0 : k < C.size := by omega
 have hck : C[k]? = some C[k] := Array.getElem?_eq_getElem hk0
 unfold storeLocals at h
 simp only [hck, Option.bind_eq_bind, Option.bind_some] at h
 have self : ∀ {E : Array Slot}, E.size = C.size → storeSelf E k w = some D → D.size = C.size ∧ D[k]? = some (.val w) ∧ D[k + 1]? = some .second ∧ ∀ j, j ≠ k → j ≠ k + 1 → (D[j]? = E[j]? ∧ ¬ kD E k j) ∨ D[j]? = some .unset ∧ kD E k j := by
  intro E hs q
  have h1 : k < E.size := by omega
  have h2 : k + 1 < E.size := by omega
  have h3 : (E.setIfInBounds k (.val w))[k + 1]? = some E[k + 1] := by rw [Array.getElem?_setIfInBounds_ne (by omega)]; exact Array.getElem?_eq_getElem h2
  simp only [storeSelf, setAt, h1, if_true, Option.bind_eq_bind, Option.bind_some, hw, h3] at q
  have plain : (¬ ∃ u, E[k + 1]? = some (.val u) ∧ u.category = 2) → some ((E.setIfInBounds k (.val w)).setIfInBounds (k + 1) .second) = some D → D.size = C.size ∧ D[k]? = some (.val w) ∧ D[k + 1]? = some .second ∧ ∀ j, j ≠ k → j ≠ k + 1 → (D[j]? = E[j]? ∧ ¬ kD E k j) ∨ D[j]? = some .unset ∧ kD E k j := by
   intro no q
   cases q
   refine ⟨by simp [hs], ?_, ?_, fun j hj hj1 => Or.inl ⟨?_, fun x => no x.2⟩⟩
   ·rw [Array.getElem?_setIfInBounds_ne (by omega)]; simp [h1]
   ·simp [h2]
   ·rw [Array.getElem?_setIfInBounds_ne (by omega), Array.getElem?_setIfInBounds_ne (by omega)]
  split at q
  ·rename_i u hu
   split at q
   ·rename_i hu2
    by_cases h5 : k + 2 < E.size
    ·simp [h5, h2] at q
     cases q
     refine ⟨by simp [hs], ?_, ?_, fun j hj hj1 => ?_⟩
     ·rw [Array.getElem?_setIfInBounds_ne (by omega), Array.getElem?_setIfInBounds_ne (by omega)]; simp [h1]
     ·simp [h2]
     ·by_cases e : j = k + 2
      ·refine Or.inr ⟨?_, e, u, by rw [Array.getElem?_eq_getElem h2, hu], hu2⟩
       rw [Array.getElem?_setIfInBounds_ne (by omega), e]
       simp [h5]
      ·refine Or.inl ⟨?_, fun x => e x.1⟩
       rw [Array.getElem?_setIfInBounds_ne (by omega), Array.getElem?_setIfInBounds_ne (by omega), Array.getElem?_setIfInBounds_ne (by omega)]
    ·simp [h5] at q
   ·rename_i hu2
    refine plain ?_ (by simpa [h2] using q)
    rintro ⟨u', x1, x2⟩
    rw [Array.getElem?_eq_getElem h2, hu] at x1; cases x1; exact hu2 x2
  ·rename_i hu
   refine plain ?_ (by simpa [h2] using q)
   rintro ⟨u', x1, x2⟩
   rw [Array.getElem?_eq_getElem h2] at x1; exact hu _ (Option.some.inj x1)
 split at h
 ·rename_i q
  have hk1 : k - 1 < C.size := by omega
  simp only [setAt, hk1, if_true, Option.bind_some] at h
  obtain ⟨e1, e2, e3, e4⟩ := self (by simp) h
  refine ⟨e1, e2, e3, fun j hj hj1 => ?_⟩
  have h6 : ∀ i, i + 1 ≠ k ∨ k = 0 → i ≠ k ∨ k ≠ 0 → (C.setIfInBounds (k - 1) Slot.unset)[i]? = C[i]? := fun i hi hi2 => Array.getElem?_setIfInBounds_ne (by omega)
  have h7 : (C.setIfInBounds (k - 1) Slot.unset)[k + 1]? = C[k + 1]? := Array.getElem?_setIfInBounds_ne (by omega)
  rcases e4 j hj hj1 with ⟨r, r'⟩ | ⟨r, r1, u, r2, r3⟩
  ·by_cases ej : k = j + 1
   ·refine Or.inr ⟨?_, Or.inl ⟨ej, by rw [hck, q]⟩⟩
    rw [r, show j = k - 1 by omega]; simp [hk1]
   ·refine Or.inl ⟨by rw [r]; exact h6 _ (by omega) (by omega), fun x => ej x.1, fun x => r' ⟨x.1, ?_⟩⟩
    rw [h7]; exact x.2
  ·exact Or.inr ⟨r, Or.inr ⟨r1, u, by rw [← h7]; exact r2, r3⟩⟩
 ·rename_i u q
  split at h
  ·rename_i hu
   simp only [setAt, hk, if_true, Option.bind_some] at h
   obtain ⟨e1, e2, e3, e4⟩ := self (by simp) h
   have hsec := wf k u (by rw [hck, q]) hu
   refine ⟨e1, e2, e3, fun j hj hj1 => ?_⟩
   rcases e4 j hj hj1 with ⟨r, r'⟩ | ⟨r, r1, u', r2, r3⟩
   ·refine Or.inl ⟨by rw [r]; exact Array.getElem?_setIfInBounds_ne (by omega), fun x => ?_, fun x => ?_⟩
    ·obtain ⟨-, x1⟩ := x
     rw [hck, q] at x1; cases x1
    ·obtain ⟨-, u', x1, x2⟩ := x
     rw [hsec] at x1; cases x1
   ·simp [hk] at r2
  ·rename_i hu
   obtain ⟨e1, e2, e3, e4⟩ := self rfl h
   refine ⟨e1, e2, e3, fun j hj hj1 => ?_⟩
   rcases e4 j hj hj1 with ⟨r, r'⟩ | ⟨r, r'⟩
   ·refine Or.inl ⟨r, fun x => ?_, r'⟩
    obtain ⟨-, x1⟩ := x
    rw [hck, q] at x1; cases x1
   ·exact Or.inr ⟨r, Or.inr r'⟩
 ·rename_i q
  obtain ⟨e1, e2, e3, e4⟩ := self rfl h
  refine ⟨e1, e2, e3, fun j hj hj1 => ?_⟩
  rcases e4 j hj hj1 with ⟨r, r'⟩ | ⟨r, r'⟩
  ·refine Or.inl ⟨r, fun x => ?_, r'⟩
   obtain ⟨-, x1⟩ := x
   rw [hck, q] at x1; cases x1
  ·exact Or.inr ⟨r, Or.inr r'⟩
theorem store_some {C : Array Slot} {k : Nat} {w : Value} (hk : k + (w.category - 1) < C.size) (hc : w.category = 1 ∨ w.category = 2) (wf : ∀ k w, C[k]? = some (.val w) → w.category = 2 → C[k + 1]? = some .second) :
  ∃ D, storeLocals C k w = some D := by
 have hk0 : k < C.size := by omega
 have hck : C[k]? = some C[k] := Array.getElem?_eq_getElem hk0
 have self : ∀ {E : Array Slot}, E.size = C.size → (∀ u, E[k + 1]? = some (.val u) → u.category = 2 → k + 2 < E.size) → ∃ D, storeSelf E k w = some D := by
  intro E hs hn
  have h1 : k < E.size := by omega
  simp only [storeSelf, setAt, h1, if_true, Option.bind_eq_bind, Option.bind_some]
  rcases hc with hc | hc
  ·exact ⟨E.setIfInBounds k (.val w), by simp [hc]⟩
  ·have h2 : k + 1 < E.size := by omega
   have h3 : (E.setIfInBounds k (.val w))[k + 1]? = some E[k + 1] := by rw [Array.getElem?_setIfInBounds_ne (by omega)]; exact Array.getElem?_eq_getElem h2
   simp only [hc, if_true, h3, Option.bind_some]
   split
   ·rename_i u hu
    split
    ·rename_i hu2
     have h5 := hn u (by rw [Array.getElem?_eq_getElem h2, hu]) hu2
     exact ⟨_, by simp [h5, h2]; rfl⟩
    ·exact ⟨_, by simp [h2]; rfl⟩
   ·exact ⟨_, by simp [h2]; rfl⟩
 have next : ∀ u, C[k + 1]? = some (.val u) → u.category = 2 → k + 2 < C.size := fun u h1 h2 => (Array.getElem?_eq_some_iff.mp (wf _ _ h1 h2)).1
 unfold storeLocals
 simp only [hck, Option.bind_eq_bind, Option.bind_some]
 split
 ·have hk1 : k - 1 < C.size := by omega
  simp only [setAt, hk1, if_true, Option.bind_some]
  refine self (by simp) fun u h1 h2 => ?_
  rw [Array.getElem?_setIfInBounds_ne (by omega)] at h1
  simpa using next u h1 h2
 ·rename_i u q
  split
  ·rename_i hu
   have h5 := (Array.getElem?_eq_some_iff.mp (wf k u (by rw [hck, q]) hu)).1
   simp only [setAt, h5, if_true, Option.bind_some]
   refine self (by simp) fun u h1 h2 => ?_
   simp [h5] at h1
  ·exact self rfl next
 ·exact self rfl next
theorem store_ok1 {ad : Nat → Addr} {L : QLoc} {C : Array Slot} {k : Nat} {v : Value} (H : QLocOk ad L C) (hv : v.category = 1) (hk : k < L.length) :
  ∃ D, storeLocals C k (qv ad v) = some D ∧ QLocOk ad ((lkill L k).set k (some v)) D ∧ D.size = C.size := by
 obtain ⟨H1, H2, H3, H4⟩ := H
 have hc : (qv ad v).category = 1 := by rw [qv_cat, hv]
 obtain ⟨D, hD⟩ := store_some (C := C) (k := k) (w := qv ad v) (by rw [hc]; omega) (Or.inl hc) H3
 obtain ⟨d1, d2, d3⟩ := set1_at (by omega) hc hD
 refine ⟨D, hD, ⟨by simp [lkill_len, H1, d1], fun j u hj => ?_, fun j w hj hw => ?_, fun j hj => ?_⟩, d1⟩
 ·rw [lget_set (by rw [lkill_len]; exact hk)] at hj
  split at hj
  ·rename_i e; cases hj; rw [e]; exact d2
  ·rename_i ne
   obtain ⟨g1, g2⟩ := lget_kill hj
   have g3 := H2 j u g1
   rcases d3 j ne with ⟨r, -, -⟩ | ⟨-, ⟨r1, r2⟩ | ⟨r1, w, r2, r3⟩⟩
   ·rw [r]; exact g3
   ·obtain ⟨i, w, z1, z2, z3⟩ := H4 k r2
    obtain rfl : i = j := by omega
    rw [g3] at z2
    cases z2
    rw [qv_cat] at z3
    exact absurd z3 (g2 r1)
   ·have := H3 k w r2 r3
    rw [← r1, g3] at this
    cases this
 ·by_cases e : j = k
  ·subst e; rw [d2] at hj; cases hj; rw [hc] at hw; cases hw
  ·rcases d3 j e with ⟨r, nA, nB⟩ | ⟨r, -⟩
   ·rw [r] at hj
    have g := H3 j w hj hw
    have e2 : j + 1 ≠ k := fun q => nA ⟨q.symm, by rw [← q]; exact g⟩
    rcases d3 (j + 1) e2 with ⟨z, -, -⟩ | ⟨-, ⟨z1, z2⟩ | ⟨z1, -⟩⟩
    ·rw [z]; exact g
    ·obtain ⟨i, u, y1, y2, y3⟩ := H4 k z2
     obtain rfl : i = j + 1 := by omega
     rw [g] at y2; cases y2
    ·omega
   ·rw [r] at hj; cases hj
 ·by_cases e : j = k
  ·subst e; rw [d2] at hj; cases hj
  ·rcases d3 j e with ⟨r, nA, nB⟩ | ⟨r, -⟩
   ·rw [r] at hj
    obtain ⟨i, w, y1, y2, y3⟩ := H4 j hj
    refine ⟨i, w, y1, ?_, y3⟩
    have ei : i ≠ k := fun q => nB ⟨by omega, w, by rw [← q]; exact y2, y3⟩
    rcases d3 i ei with ⟨z, -, -⟩ | ⟨-, ⟨z1, z2⟩ | ⟨z1, u, z2, z3⟩⟩
    ·rw [z]; exact y2
    ·omega
    ·have := H3 k u z2 z3
     rw [← z1, y2] at this; cases this
   ·rw [r] at hj; cases hj
theorem store_ok2 {ad : Nat → Addr} {L : QLoc} {C : Array Slot} {k : Nat} {x : Int64} (H : QLocOk ad L C) (hk : k + 1 < L.length) :
  ∃ D, storeLocals C k (.long x) = some D ∧ QLocOk ad (((lkill L k).set k (some (.long x))).set (k + 1) none) D ∧ D.size = C.size := by
 obtain ⟨H1, H2, H3, H4⟩ := H
 have hc : (Value.long x).category = 2 := rfl
 obtain ⟨D, hD⟩ := store_some (C := C) (k := k) (w := .long x) (by rw [hc]; omega) (Or.inr hc) H3
 obtain ⟨d1, d2, d2', d3⟩ := set2_at (by omega) hc H3 hD
 refine ⟨D, hD, ⟨by simp [lkill_len, H1, d1], fun j u hj => ?_, fun j w hj hw => ?_, fun j hj => ?_⟩, d1⟩
 ·rw [lget_set (by simp [lkill_len]; exact hk)] at hj
  split at hj
  ·cases hj
  ·rename_i ne1
   rw [lget_set (by rw [lkill_len]; omega)] at hj
   split at hj
   ·rename_i e; cases hj; rw [e]; exact d2
   ·rename_i ne
    obtain ⟨g1, g2⟩ := lget_kill hj
    have g3 := H2 j u g1
    rcases d3 j ne ne1 with ⟨r, -, -⟩ | ⟨-, ⟨r1, r2⟩ | ⟨r1, w, r2, r3⟩⟩
    ·rw [r]; exact g3
    ·obtain ⟨i, w, z1, z2, z3⟩ := H4 k r2
     obtain rfl : i = j := by omega
     rw [g3] at z2
     cases z2
     rw [qv_cat] at z3
     exact absurd z3 (g2 r1)
    ·have := H3 (k + 1) w r2 r3
     rw [show k + 1 + 1 = j by omega, g3] at this
     cases this
 ·by_cases e : j = k
  ·rw [e]; exact d2'
  ·by_cases e1 : j = k + 1
   ·rw [e1, d2'] at hj; cases hj
   ·rcases d3 j e e1 with ⟨r, nA, nB⟩ | ⟨r, -⟩
    ·rw [r] at hj
     have g := H3 j w hj hw
     have e2 : j + 1 ≠ k := fun q => nA ⟨q.symm, by rw [← q]; exact g⟩
     rcases d3 (j + 1) e2 (by omega) with ⟨z, -, -⟩ | ⟨-, ⟨z1, z2⟩ | ⟨z1, -⟩⟩
     ·rw [z]; exact g
     ·obtain ⟨i, u, y1, y2, y3⟩ := H4 k z2
      obtain rfl : i = j + 1 := by omega
      rw [g] at y2; cases y2
     ·omega
    ·rw [r] at hj; cases hj
 ·by_cases e : j = k
  ·rw [e, d2] at hj; cases hj
  ·by_cases e1 : j = k + 1
   ·exact ⟨k, _, e1, d2, hc⟩
   ·rcases d3 j e e1 with ⟨r, nA, nB⟩ | ⟨r, -⟩
    ·rw [r] at hj
     obtain ⟨i, w, y1, y2, y3⟩ := H4 j hj
     refine ⟨i, w, y1, ?_, y3⟩
     have ei : i ≠ k := fun q => e1 (by omega)
     have ei1 : i ≠ k + 1 := fun q => nB ⟨by omega, w, by rw [← q]; exact y2, y3⟩
     rcases d3 i ei ei1 with ⟨z, -, -⟩ | ⟨-, ⟨z1, z2⟩ | ⟨z1, u, z2, z3⟩⟩
     ·rw [z]; exact y2
     ·omega
     ·have := H3 (k + 1) u z2 z3
      rw [show k + 1 + 1 = i by omega, y2] at this; cases this
    ·rw [r] at hj; cases hj
theorem store_ok {ad : Nat → Addr} {L L' : QLoc} {C : Array Slot} {k : Nat} {v : Value} (H : QLocOk ad L C) (h : lput L k v = some L') :
  ∃ D, storeLocals C k (qv ad v) = some D ∧ QLocOk ad L' D ∧ D.size = C.size := by
 have one : v.category = 1 → (bif Nat.ble (k + 1) L.length then some ((lkill L k).set k (some v)) else none) = some L' → ∃ D, storeLocals C k (qv ad v) = some D ∧ QLocOk ad L' D ∧ D.size = C.size := by
  intro hv h
  cases hb : Nat.ble (k + 1) L.length with
  | false => rw [hb] at h; cases h
  | true => rw [hb] at h; cases h; exact store_ok1 H hv (Nat.le_of_ble_eq_true hb)
 cases v with
 | long x =>
  simp only [lput] at h
  cases hb : Nat.ble (k + 2) L.length with
  | false => rw [hb] at h; cases h
  | true => rw [hb] at h; cases h; exact store_ok2 H (Nat.le_of_ble_eq_true hb)
 | double x => simp [lput] at h
 | int x => exact one rfl h
 | float x => exact one rfl h
 | null => exact one rfl h
 | ref x => exact one rfl h
 | retAddr x => exact one rfl h
theorem fInj : ∀ i, i < nF → ∀ j, j < nF → fNm i = fNm j → i = j := by decide +kernel
theorem fPrs : ∀ i, i < nF → parseFieldDescriptor (fDs i) = some (fTy i) := by decide +kernel
theorem cDefs : ∀ i, i < nF → vget cDef i = some (defaultValue (fTy i)) := by decide +kernel
theorem cDefL : cDef.length = nF := by decide +kernel
theorem fDef : ∀ i, i < nF → ∀ a, defaultValue (fTy i) ≠ .ref a := by
 intro i _ a
 cases fTy i <;> simp [defaultValue]
theorem kPlain : ∀ k, k < 2 → plainName (kName k) = true := by
 intro k hk
 rcases k with _ | _ | k
 ·first | decide +kernel | (simp [kName, plainName, overriddenIn]; done)
 ·first | decide +kernel | (simp [kName, plainName, overriddenIn]; done)
 ·omega
theorem pKlt : ∀ m, m < pN → pK m < 2 := by decide +kernel
theorem pSig : ∀ m, m < pN → (parseMethodDescriptor (pDs m)).map (fun sg => sg.parameters.length) = some (pNA m) := by decide +kernel
theorem pOwn : ∀ k, k < 2 → kName k ≠ "java/lang/invoke/MethodHandle" ∧ kName k ≠ "java/lang/invoke/VarHandle" := by decide +kernel
theorem mAlt : ∀ m ∈ mA, m < pN := by decide +kernel
theorem mVlt : ∀ m ∈ mV, m ∈ mA ∧ pK m = 1 := by decide +kernel
theorem mPlt : ∀ m ∈ mP, m ∈ mA ∧ pK m = 1 := by decide +kernel
theorem mSlt : ∀ m ∈ mS, m ∈ mA := by decide +kernel
theorem mIlt : ∀ m ∈ mI, m ∈ mA ∧ pK m = 1 ∧ pNm m = "<init>" ∧ pRet m = none := by decide +kernel
theorem kOne : kName 1 = cName := rfl
def pX (m pc : Nat) : Bool := match pCode m pc with | some t => qchk m pc t.1 t.2 | none => true
set_option maxRecDepth 100000 in
set_option maxHeartbeats 4000000 in
theorem pC0_0 : ∀ q, q < 128 → pX 0 (0 + q) = true := by decide +kernel
set_option maxRecDepth 100000 in
set_option maxHeartbeats 4000000 in
theorem pC0_128 : ∀ q, q < 128 → pX 0 (128 + q) = true := by decide +kernel
set_option maxRecDepth 100000 in
set_option maxHeartbeats 4000000 in
theorem pC0_256 : ∀ q, q < 128 → pX 0 (256 + q) = true := by decide +kernel
set_option maxRecDepth 100000 in
set_option maxHeartbeats 4000000 in
theorem pC0_384 : ∀ q, q < 61 → pX 0 (384 + q) = true := by decide +kernel
theorem pCm0 (pc : Nat) (h : pc < pTop 0) : pX 0 pc = true := by
 replace h : pc < 445 := h
 by_cases h0 : pc < 128
 ·have q := pC0_0 (pc - 0) (by omega)
  rwa [show 0 + (pc - 0) = pc from by omega] at q
 by_cases h128 : pc < 256
 ·have q := pC0_128 (pc - 128) (by omega)
  rwa [show 128 + (pc - 128) = pc from by omega] at q
 by_cases h256 : pc < 384
 ·have q := pC0_256 (pc - 256) (by omega)
  rwa [show 256 + (pc - 256) = pc from by omega] at q
 have q := pC0_384 (pc - 384) (by omega)
 rwa [show 384 + (pc - 384) = pc from by omega] at q
set_option maxRecDepth 100000 in
set_option maxHeartbeats 4000000 in
theorem pC1_0 : ∀ q, q < 128 → pX 1 (0 + q) = true := by decide +kernel
set_option maxRecDepth 100000 in
set_option maxHeartbeats 4000000 in
theorem pC1_128 : ∀ q, q < 19 → pX 1 (128 + q) = true := by decide +kernel
theorem pCm1 (pc : Nat) (h : pc < pTop 1) : pX 1 pc = true := by
 replace h : pc < 147 := h
 by_cases h0 : pc < 128
 ·have q := pC1_0 (pc - 0) (by omega)
  rwa [show 0 + (pc - 0) = pc from by omega] at q
 have q := pC1_128 (pc - 128) (by omega)
 rwa [show 128 + (pc - 128) = pc from by omega] at q
set_option maxRecDepth 100000 in
set_option maxHeartbeats 4000000 in
theorem pC2_0 : ∀ q, q < 45 → pX 2 (0 + q) = true := by decide +kernel
theorem pCm2 (pc : Nat) (h : pc < pTop 2) : pX 2 pc = true := by
 replace h : pc < 45 := h
 have q := pC2_0 (pc - 0) (by omega)
 rwa [show 0 + (pc - 0) = pc from by omega] at q
set_option maxRecDepth 100000 in
set_option maxHeartbeats 4000000 in
theorem pC3_0 : ∀ q, q < 18 → pX 3 (0 + q) = true := by decide +kernel
theorem pCm3 (pc : Nat) (h : pc < pTop 3) : pX 3 pc = true := by
 replace h : pc < 18 := h
 have q := pC3_0 (pc - 0) (by omega)
 rwa [show 0 + (pc - 0) = pc from by omega] at q
set_option maxRecDepth 100000 in
set_option maxHeartbeats 4000000 in
theorem pC4_0 : ∀ q, q < 53 → pX 4 (0 + q) = true := by decide +kernel
theorem pCm4 (pc : Nat) (h : pc < pTop 4) : pX 4 pc = true := by
 replace h : pc < 53 := h
 have q := pC4_0 (pc - 0) (by omega)
 rwa [show 0 + (pc - 0) = pc from by omega] at q
set_option maxRecDepth 100000 in
set_option maxHeartbeats 4000000 in
theorem pC5_0 : ∀ q, q < 18 → pX 5 (0 + q) = true := by decide +kernel
theorem pCm5 (pc : Nat) (h : pc < pTop 5) : pX 5 pc = true := by
 replace h : pc < 18 := h
 have q := pC5_0 (pc - 0) (by omega)
 rwa [show 0 + (pc - 0) = pc from by omega] at q
set_option maxRecDepth 100000 in
set_option maxHeartbeats 4000000 in
theorem pC6_0 : ∀ q, q < 50 → pX 6 (0 + q) = true := by decide +kernel
theorem pCm6 (pc : Nat) (h : pc < pTop 6) : pX 6 pc = true := by
 replace h : pc < 50 := h
 have q := pC6_0 (pc - 0) (by omega)
 rwa [show 0 + (pc - 0) = pc from by omega] at q
set_option maxRecDepth 100000 in
set_option maxHeartbeats 4000000 in
theorem pC7_0 : ∀ q, q < 75 → pX 7 (0 + q) = true := by decide +kernel
theorem pCm7 (pc : Nat) (h : pc < pTop 7) : pX 7 pc = true := by
 replace h : pc < 75 := h
 have q := pC7_0 (pc - 0) (by omega)
 rwa [show 0 + (pc - 0) = pc from by omega] at q
set_option maxRecDepth 100000 in
set_option maxHeartbeats 4000000 in
theorem pC8_0 : ∀ q, q < 128 → pX 8 (0 + q) = true := by decide +kernel
set_option maxRecDepth 100000 in
set_option maxHeartbeats 4000000 in
theorem pC8_128 : ∀ q, q < 53 → pX 8 (128 + q) = true := by decide +kernel
theorem pCm8 (pc : Nat) (h : pc < pTop 8) : pX 8 pc = true := by
 replace h : pc < 181 := h
 by_cases h0 : pc < 128
 ·have q := pC8_0 (pc - 0) (by omega)
  rwa [show 0 + (pc - 0) = pc from by omega] at q
 have q := pC8_128 (pc - 128) (by omega)
 rwa [show 128 + (pc - 128) = pc from by omega] at q
set_option maxRecDepth 100000 in
set_option maxHeartbeats 4000000 in
theorem pC9_0 : ∀ q, q < 39 → pX 9 (0 + q) = true := by decide +kernel
theorem pCm9 (pc : Nat) (h : pc < pTop 9) : pX 9 pc = true := by
 replace h : pc < 39 := h
 have q := pC9_0 (pc - 0) (by omega)
 rwa [show 0 + (pc - 0) = pc from by omega] at q
set_option maxRecDepth 100000 in
set_option maxHeartbeats 4000000 in
theorem pC10_0 : ∀ q, q < 64 → pX 10 (0 + q) = true := by decide +kernel
theorem pCm10 (pc : Nat) (h : pc < pTop 10) : pX 10 pc = true := by
 replace h : pc < 64 := h
 have q := pC10_0 (pc - 0) (by omega)
 rwa [show 0 + (pc - 0) = pc from by omega] at q
set_option maxRecDepth 100000 in
set_option maxHeartbeats 4000000 in
theorem pC11_0 : ∀ q, q < 74 → pX 11 (0 + q) = true := by decide +kernel
theorem pCm11 (pc : Nat) (h : pc < pTop 11) : pX 11 pc = true := by
 replace h : pc < 74 := h
 have q := pC11_0 (pc - 0) (by omega)
 rwa [show 0 + (pc - 0) = pc from by omega] at q
set_option maxRecDepth 100000 in
set_option maxHeartbeats 4000000 in
theorem pC12_0 : ∀ q, q < 15 → pX 12 (0 + q) = true := by decide +kernel
theorem pCm12 (pc : Nat) (h : pc < pTop 12) : pX 12 pc = true := by
 replace h : pc < 15 := h
 have q := pC12_0 (pc - 0) (by omega)
 rwa [show 0 + (pc - 0) = pc from by omega] at q
set_option maxRecDepth 100000 in
set_option maxHeartbeats 4000000 in
theorem pC13_0 : ∀ q, q < 66 → pX 13 (0 + q) = true := by decide +kernel
theorem pCm13 (pc : Nat) (h : pc < pTop 13) : pX 13 pc = true := by
 replace h : pc < 66 := h
 have q := pC13_0 (pc - 0) (by omega)
 rwa [show 0 + (pc - 0) = pc from by omega] at q
set_option maxRecDepth 100000 in
set_option maxHeartbeats 4000000 in
theorem pC14_0 : ∀ q, q < 17 → pX 14 (0 + q) = true := by decide +kernel
theorem pCm14 (pc : Nat) (h : pc < pTop 14) : pX 14 pc = true := by
 replace h : pc < 17 := h
 have q := pC14_0 (pc - 0) (by omega)
 rwa [show 0 + (pc - 0) = pc from by omega] at q
set_option maxRecDepth 100000 in
set_option maxHeartbeats 4000000 in
theorem pC15_0 : ∀ q, q < 30 → pX 15 (0 + q) = true := by decide +kernel
theorem pCm15 (pc : Nat) (h : pc < pTop 15) : pX 15 pc = true := by
 replace h : pc < 30 := h
 have q := pC15_0 (pc - 0) (by omega)
 rwa [show 0 + (pc - 0) = pc from by omega] at q
set_option maxRecDepth 100000 in
set_option maxHeartbeats 4000000 in
theorem pC16_0 : ∀ q, q < 10 → pX 16 (0 + q) = true := by decide +kernel
theorem pCm16 (pc : Nat) (h : pc < pTop 16) : pX 16 pc = true := by
 replace h : pc < 10 := h
 have q := pC16_0 (pc - 0) (by omega)
 rwa [show 0 + (pc - 0) = pc from by omega] at q
set_option maxRecDepth 100000 in
set_option maxHeartbeats 4000000 in
theorem pC17_0 : ∀ q, q < 50 → pX 17 (0 + q) = true := by decide +kernel
theorem pCm17 (pc : Nat) (h : pc < pTop 17) : pX 17 pc = true := by
 replace h : pc < 50 := h
 have q := pC17_0 (pc - 0) (by omega)
 rwa [show 0 + (pc - 0) = pc from by omega] at q
set_option maxRecDepth 100000 in
set_option maxHeartbeats 4000000 in
theorem pC18_0 : ∀ q, q < 111 → pX 18 (0 + q) = true := by decide +kernel
theorem pCm18 (pc : Nat) (h : pc < pTop 18) : pX 18 pc = true := by
 replace h : pc < 111 := h
 have q := pC18_0 (pc - 0) (by omega)
 rwa [show 0 + (pc - 0) = pc from by omega] at q
set_option maxRecDepth 100000 in
set_option maxHeartbeats 4000000 in
theorem pC19_0 : ∀ q, q < 11 → pX 19 (0 + q) = true := by decide +kernel
theorem pCm19 (pc : Nat) (h : pc < pTop 19) : pX 19 pc = true := by
 replace h : pc < 11 := h
 have q := pC19_0 (pc - 0) (by omega)
 rwa [show 0 + (pc - 0) = pc from by omega] at q
set_option maxRecDepth 100000 in
set_option maxHeartbeats 4000000 in
theorem pC20_0 : ∀ q, q < 28 → pX 20 (0 + q) = true := by decide +kernel
theorem pCm20 (pc : Nat) (h : pc < pTop 20) : pX 20 pc = true := by
 replace h : pc < 28 := h
 have q := pC20_0 (pc - 0) (by omega)
 rwa [show 0 + (pc - 0) = pc from by omega] at q
set_option maxRecDepth 100000 in
set_option maxHeartbeats 4000000 in
theorem pC21_0 : ∀ q, q < 32 → pX 21 (0 + q) = true := by decide +kernel
theorem pCm21 (pc : Nat) (h : pc < pTop 21) : pX 21 pc = true := by
 replace h : pc < 32 := h
 have q := pC21_0 (pc - 0) (by omega)
 rwa [show 0 + (pc - 0) = pc from by omega] at q
set_option maxRecDepth 100000 in
set_option maxHeartbeats 4000000 in
theorem pC22_0 : ∀ q, q < 36 → pX 22 (0 + q) = true := by decide +kernel
theorem pCm22 (pc : Nat) (h : pc < pTop 22) : pX 22 pc = true := by
 replace h : pc < 36 := h
 have q := pC22_0 (pc - 0) (by omega)
 rwa [show 0 + (pc - 0) = pc from by omega] at q
set_option maxRecDepth 100000 in
set_option maxHeartbeats 4000000 in
theorem pC23_0 : ∀ q, q < 128 → pX 23 (0 + q) = true := by decide +kernel
set_option maxRecDepth 100000 in
set_option maxHeartbeats 4000000 in
theorem pC23_128 : ∀ q, q < 2 → pX 23 (128 + q) = true := by decide +kernel
theorem pCm23 (pc : Nat) (h : pc < pTop 23) : pX 23 pc = true := by
 replace h : pc < 130 := h
 by_cases h0 : pc < 128
 ·have q := pC23_0 (pc - 0) (by omega)
  rwa [show 0 + (pc - 0) = pc from by omega] at q
 have q := pC23_128 (pc - 128) (by omega)
 rwa [show 128 + (pc - 128) = pc from by omega] at q
set_option maxRecDepth 100000 in
set_option maxHeartbeats 4000000 in
theorem pC24_0 : ∀ q, q < 36 → pX 24 (0 + q) = true := by decide +kernel
theorem pCm24 (pc : Nat) (h : pc < pTop 24) : pX 24 pc = true := by
 replace h : pc < 36 := h
 have q := pC24_0 (pc - 0) (by omega)
 rwa [show 0 + (pc - 0) = pc from by omega] at q
theorem pChk0 : ∀ m, m < pN → ∀ pc, pc < pTop m → (match pCode m pc with | some t => qchk m pc t.1 t.2 | none => true) = true := by
 intro m hm pc hp
 change pX m pc = true
 match m, hm, hp with
 | 0, _, hp => exact pCm0 pc hp
 | 1, _, hp => exact pCm1 pc hp
 | 2, _, hp => exact pCm2 pc hp
 | 3, _, hp => exact pCm3 pc hp
 | 4, _, hp => exact pCm4 pc hp
 | 5, _, hp => exact pCm5 pc hp
 | 6, _, hp => exact pCm6 pc hp
 | 7, _, hp => exact pCm7 pc hp
 | 8, _, hp => exact pCm8 pc hp
 | 9, _, hp => exact pCm9 pc hp
 | 10, _, hp => exact pCm10 pc hp
 | 11, _, hp => exact pCm11 pc hp
 | 12, _, hp => exact pCm12 pc hp
 | 13, _, hp => exact pCm13 pc hp
 | 14, _, hp => exact pCm14 pc hp
 | 15, _, hp => exact pCm15 pc hp
 | 16, _, hp => exact pCm16 pc hp
 | 17, _, hp => exact pCm17 pc hp
 | 18, _, hp => exact pCm18 pc hp
 | 19, _, hp => exact pCm19 pc hp
 | 20, _, hp => exact pCm20 pc hp
 | 21, _, hp => exact pCm21 pc hp
 | 22, _, hp => exact pCm22 pc hp
 | 23, _, hp => exact pCm23 pc hp
 | 24, _, hp => exact pCm24 pc hp
 | m + 25, hm, _ => exact absurd hm (by unfold pN; omega)
theorem pIn {m pc : Nat} {t : Instr × Nat} (h : pCode m pc = some t) : m < pN ∧ pc < pTop m := by
 unfold pCode at h
 cases h1 : Nat.ble pN m with
 | true => rw [h1] at h; cases h
 | false =>
  cases h2 : Nat.ble (pTop m) pc with
  | true => rw [h1, h2] at h; cases h
  | false => exact ⟨Nat.lt_of_not_le (fun q => by rw [Nat.ble_eq_true_of_le q] at h1; cases h1), Nat.lt_of_not_le (fun q => by rw [Nat.ble_eq_true_of_le q] at h2; cases h2)⟩
theorem pChk {m pc : Nat} {i : Instr} {aux : Nat} (h : pCode m pc = some (i, aux)) : qchk m pc i aux = true := by
 have q := pChk0 m (pIn h).1 pc (pIn h).2
 rw [h] at q
 exact q
theorem pDec {m pc : Nat} {i : Instr} {aux : Nat} (h : pCode m pc = some (i, aux)) : decode (pBytes m) pc = .ok (i, ilen i) := by
 have q := pChk h
 unfold qchk at q
 exact of_decide_eq_true (Bool.and_eq_true_iff.mp q).1
theorem pDecN {m pc n : Nat} {i : Instr} {aux : Nat} (h : pCode m pc = some (i, aux)) (hn : ilen i = n) : decode (pBytes m) pc = .ok (i, n) := by
 rw [← hn]; exact pDec h
theorem pRest {m pc : Nat} {i : Instr} {aux : Nat} (h : pCode m pc = some (i, aux)) : qlk m pc i aux = true := by
 have q := pChk h
 unfold qchk at q
 exact (Bool.and_eq_true_iff.mp q).2
theorem qtgt_spec {pc : Nat} {o : Int} {aux : Nat} (h : qtgt pc o aux = true) : 0 ≤ (pc : Int) + o ∧ ((pc : Int) + o).toNat = aux := by
 unfold qtgt at h
 have h2 := Bool.and_eq_true_iff.mp h
 exact ⟨of_decide_eq_true h2.1, of_decide_eq_true h2.2⟩
def QCx (Z : State) (p : Program) (R : Room) (s : State) (mid : MethodId) (meth : Method) (c : Code) (m : Nat) : Prop :=
 p.tables.exec = Jvm.exec ∧ Z.Warmed39 s.vm ∧ c.code = pBytes m ∧ c.maxLocals = pMaxL m ∧ meth.sig.returnType = pRet m ∧ s.vm.findClass (kName (pK m)) = some mid.cls ∧ meth.name = pNm m ∧ pFr m ≤ R.frames ∧ pLo m ≤ R.locals
def QTri (l : Launch) (Z : State) (n0 : Nat) (ad : Nat → Addr) (m : Nat) (st : QSt) (v : Option Value) (σ' : QHeap) : Prop :=
 st.2.2.2.length ≤ σ'.length ∧ qhs st.2.2.2 ≤ qhs σ' ∧
 ∀ (p : Program) (e : Env) (R : Room) (s : State) (mid : MethodId) (args : Array Value) (below : List Frame) (meth : Method) (c : Code) (T : State) (locs : List Loc) (cells slots : Nat) (C : Array Slot),
  QCx Z p R s mid meth c m → Stand p l e R s mid args below meth c T locs cells slots → QRep Z n0 ad T.heap st.2.2.2 → Fr n0 locs → QLocOk ad st.2.1 C → C.size = c.maxLocals →
  n0 + (st.2.2.2.length - k0) = s.heap.size + cells → cells + (σ'.length - st.2.2.2.length) ≤ R.cells → slots + (qhs σ' - qhs st.2.2.2) ≤ R.slots →
  ∃ T' locs', Stand p l e R s mid args below meth c T' locs' (cells + (σ'.length - st.2.2.2.length)) (slots + (qhs σ' - qhs st.2.2.2)) ∧ QRep Z n0 ad T'.heap σ' ∧ Fr n0 locs' ∧
   ∀ fs, (∀ (f : JFrame) (acts : List Action), f.method = mid → f.locked = none → f.entered = [] → (doReturn e (T'.setTop f) acts (v.map (qv ad))).1 = T'.setFrames fs) →
    Steps p.tables e below (T.setTop (mkF mid st.1 C (st.2.2.1.map (qv ad)))) (T'.setFrames fs)
section Triples
variable {l : Launch} {Z : State} {n0 : Nat} {ad : Nat → Addr} {a0 : Array Value} {m : Nat} {v : Option Value} {σ' : QHeap}
theorem QTri.gen {st st' : QSt} (h : QTri l Z n0 ad m st' v σ') (g1 : st.2.2.2.length ≤ st'.2.2.2.length) (g2 : qhs st.2.2.2 ≤ qhs st'.2.2.2)
  (hs : ∀ (p : Program) (e : Env) (R : Room) (s : State) (mid : MethodId) (args : Array Value) (below : List Frame) (meth : Method) (c : Code) (T : State) (locs : List Loc) (cells slots : Nat) (C : Array Slot),
   QCx Z p R s mid meth c m → Stand p l e R s mid args below meth c T locs cells slots → QRep Z n0 ad T.heap st.2.2.2 → Fr n0 locs → QLocOk ad st.2.1 C → C.size = c.maxLocals →
   n0 + (st.2.2.2.length - k0) = s.heap.size + cells → cells + (st'.2.2.2.length - st.2.2.2.length) ≤ R.cells → slots + (qhs st'.2.2.2 - qhs st.2.2.2) ≤ R.slots →
   ∃ T₁ locs₁ C₁, Stand p l e R s mid args below meth c T₁ locs₁ (cells + (st'.2.2.2.length - st.2.2.2.length)) (slots + (qhs st'.2.2.2 - qhs st.2.2.2)) ∧ QRep Z n0 ad T₁.heap st'.2.2.2 ∧ Fr n0 locs₁ ∧ QLocOk ad st'.2.1 C₁ ∧ C₁.size = c.maxLocals ∧
    ∀ target, Steps p.tables e below (T₁.setTop (mkF mid st'.1 C₁ (st'.2.2.1.map (qv ad)))) target → Steps p.tables e below (T.setTop (mkF mid st.1 C (st.2.2.1.map (qv ad)))) target) :
  QTri l Z n0 ad m st v σ' := by
 obtain ⟨h1, h2, h3⟩ := h
 refine ⟨Nat.le_trans g1 h1, Nat.le_trans g2 h2, fun p e R s mid args below meth c T locs cells slots C hcx X hR hF hL hC hn hc hsl => ?_⟩
 obtain ⟨T₁, locs₁, C₁, X₁, R₁, F₁, L₁, C1, S₁⟩ := hs p e R s mid args below meth c T locs cells slots C hcx X hR hF hL hC hn (by omega) (by omega)
 have hk := hR.1
 obtain ⟨T', locs', X', R', F', S'⟩ := h3 p e R s mid args below meth c T₁ locs₁ _ _ C₁ hcx X₁ R₁ F₁ L₁ C1 (by omega) (by omega) (by omega)
 have e1 : cells + (st'.2.2.2.length - st.2.2.2.length) + (σ'.length - st'.2.2.2.length) = cells + (σ'.length - st.2.2.2.length) := by omega
 have e2 : slots + (qhs st'.2.2.2 - qhs st.2.2.2) + (qhs σ' - qhs st'.2.2.2) = slots + (qhs σ' - qhs st.2.2.2) := by omega
 rw [e1, e2] at X'
 exact ⟨T', locs', X', R', F', fun fs hf => S₁ _ (S' fs hf)⟩
theorem QTri.pure {st st' : QSt} (h : QTri l Z n0 ad m st' v σ') (hσ : st'.2.2.2 = st.2.2.2)
  (hs : ∀ (p : Program) (e : Env) (R : Room) (s : State) (mid : MethodId) (args : Array Value) (below : List Frame) (meth : Method) (c : Code) (T : State) (locs : List Loc) (cells slots : Nat) (C : Array Slot),
   QCx Z p R s mid meth c m → Stand p l e R s mid args below meth c T locs cells slots → QRep Z n0 ad T.heap st.2.2.2 → QLocOk ad st.2.1 C → C.size = c.maxLocals →
   ∃ T₁ C₁, Stand p l e R s mid args below meth c T₁ locs cells slots ∧ T₁.heap = T.heap ∧ QLocOk ad st'.2.1 C₁ ∧ C₁.size = c.maxLocals ∧
    ∀ target, Steps p.tables e below (T₁.setTop (mkF mid st'.1 C₁ (st'.2.2.1.map (qv ad)))) target → Steps p.tables e below (T.setTop (mkF mid st.1 C (st.2.2.1.map (qv ad)))) target) :
  QTri l Z n0 ad m st v σ' := by
 refine QTri.gen h (by rw [hσ]; exact Nat.le_refl _) (by rw [hσ]; exact Nat.le_refl _) fun p e R s mid args below meth c T locs cells slots C hcx X hR hF hL hC hn hc hsl => ?_
 obtain ⟨T₁, C₁, X₁, hh, L₁, C1, S₁⟩ := hs p e R s mid args below meth c T locs cells slots C hcx X hR hL hC
 refine ⟨T₁, locs, C₁, ?_, by rw [hσ, hh]; exact hR, hF, L₁, C1, S₁⟩
 rw [hσ, Nat.sub_self, Nat.sub_self]
 exact X₁
theorem QTri.frame {pc pc' : Nat} {L L' : QLoc} {S S' : List Value} {σ : QHeap} (h : QTri l Z n0 ad m (pc', L', S', σ) v σ')
  (hs : ∀ (p : Program) (e : Env) (R : Room) (s : State) (mid : MethodId) (args : Array Value) (below : List Frame) (meth : Method) (c : Code) (T : State) (locs : List Loc) (cells slots : Nat) (C : Array Slot),
   QCx Z p R s mid meth c m → Stand p l e R s mid args below meth c T locs cells slots → QRep Z n0 ad T.heap σ → QLocOk ad L C → C.size = c.maxLocals →
   ∃ C₁, QLocOk ad L' C₁ ∧ C₁.size = c.maxLocals ∧ ∀ target, Steps p.tables e below (T.setTop (mkF mid pc' C₁ (S'.map (qv ad)))) target → Steps p.tables e below (T.setTop (mkF mid pc C (S.map (qv ad)))) target) :
  QTri l Z n0 ad m (pc, L, S, σ) v σ' :=
 QTri.pure h rfl fun p e R s mid args below meth c T locs cells slots C hcx X hR hL hC => by
  obtain ⟨C₁, h1, h2, h3⟩ := hs p e R s mid args below meth c T locs cells slots C hcx X hR hL hC
  exact ⟨T, C₁, X, rfl, h1, h2, h3⟩
theorem QTri.stack {pc pc' : Nat} {L : QLoc} {S S' : List Value} {σ : QHeap} (h : QTri l Z n0 ad m (pc', L, S', σ) v σ')
  (hs : ∀ (p : Program) (e : Env) (R : Room) (s : State) (mid : MethodId) (args : Array Value) (below : List Frame) (meth : Method) (c : Code) (T : State) (locs : List Loc) (cells slots : Nat) (C : Array Slot) (target : State),
   p.tables.exec = Jvm.exec → Z.Warmed39 s.vm → c.code = pBytes m → s.vm.findClass (kName (pK m)) = some mid.cls → Stand p l e R s mid args below meth c T locs cells slots → QRep Z n0 ad T.heap σ → QLocOk ad L C →
   Steps p.tables e below (T.setTop (mkF mid pc' C (S'.map (qv ad)))) target → Steps p.tables e below (T.setTop (mkF mid pc C (S.map (qv ad)))) target) :
  QTri l Z n0 ad m (pc, L, S, σ) v σ' :=
 QTri.frame h fun p e R s mid args below meth c T locs cells slots C hcx X hR hL hC => ⟨C, hL, hC, fun target k => hs p e R s mid args below meth c T locs cells slots C target hcx.1 hcx.2.1 hcx.2.2.1 hcx.2.2.2.2.2.1 X hR hL k⟩
theorem qload_inv {pc : Nat} {L : QLoc} {S : List Value} {σ : QHeap} {k : Nat} {ok : Value → Bool} {st' : QSt} (h : qload pc L S σ k ok = some st') : ∃ v, lget L k = some v ∧ ok v = true ∧ st' = (pc, L, v :: S, σ) := by
 unfold qload at h
 split at h
 ·rename_i v hv
  cases ho : ok v with
  | true => rw [ho] at h; cases h; exact ⟨v, hv, ho, rfl⟩
  | false => rw [ho] at h; cases h
 ·cases h
theorem qstore_inv {pc : Nat} {L : QLoc} {S : List Value} {σ : QHeap} {k : Nat} {ok : Value → Bool} {st' : QSt} (h : qstore pc L S σ k ok = some st') : ∃ v S' L', S = v :: S' ∧ ok v = true ∧ lput L k v = some L' ∧ st' = (pc, L', S', σ) := by
 unfold qstore at h
 split at h
 ·rename_i v S'
  cases ho : ok v with
  | true =>
   rw [ho] at h
   simp only [cond_true] at h
   split at h
   ·rename_i L' hL'
    cases h; exact ⟨v, S', L', rfl, ho, hL', rfl⟩
   ·cases h
  | false => rw [ho] at h; cases h
 ·cases h
theorem qbin_inv {pc : Nat} {L : QLoc} {S : List Value} {σ : QHeap} {f : Int32 → Int32 → Int32} {st' : QSt} (h : qbin pc L S σ f = some st') : ∃ x y S', S = .int y :: .int x :: S' ∧ st' = (pc, L, .int (f x y) :: S', σ) := by
 unfold qbin at h
 split at h
 ·cases h; exact ⟨_, _, _, rfl, rfl⟩
 ·cases h
theorem qbino_inv {pc : Nat} {L : QLoc} {S : List Value} {σ : QHeap} {f : Int32 → Int32 → Option Int32} {st' : QSt} (h : qbino pc L S σ f = some st') : ∃ x y z S', S = .int y :: .int x :: S' ∧ f x y = some z ∧ st' = (pc, L, .int z :: S', σ) := by
 unfold qbino at h
 split at h
 ·obtain ⟨z, hz, h⟩ := Option.bind_eq_some_iff.mp h
  cases h; exact ⟨_, _, _, _, rfl, hz, rfl⟩
 ·cases h
theorem qbinJ_inv {pc : Nat} {L : QLoc} {S : List Value} {σ : QHeap} {f : Int64 → Int64 → Int64} {st' : QSt} (h : qbinJ pc L S σ f = some st') : ∃ x y S', S = .long y :: .long x :: S' ∧ st' = (pc, L, .long (f x y) :: S', σ) := by
 unfold qbinJ at h
 split at h
 ·cases h; exact ⟨_, _, _, rfl, rfl⟩
 ·cases h
theorem qshJ_inv {pc : Nat} {L : QLoc} {S : List Value} {σ : QHeap} {f : Int64 → Int32 → Int64} {st' : QSt} (h : qshJ pc L S σ f = some st') : ∃ x y S', S = .int y :: .long x :: S' ∧ st' = (pc, L, .long (f x y) :: S', σ) := by
 unfold qshJ at h
 split at h
 ·cases h; exact ⟨_, _, _, rfl, rfl⟩
 ·cases h
theorem quni_inv {pc : Nat} {L : QLoc} {S : List Value} {σ : QHeap} {f : Int32 → Value} {st' : QSt} (h : quni pc L S σ f = some st') : ∃ x S', S = .int x :: S' ∧ st' = (pc, L, f x :: S', σ) := by
 unfold quni at h
 split at h
 ·cases h; exact ⟨_, _, rfl, rfl⟩
 ·cases h
theorem quniJ_inv {pc : Nat} {L : QLoc} {S : List Value} {σ : QHeap} {f : Int64 → Value} {st' : QSt} (h : quniJ pc L S σ f = some st') : ∃ x S', S = .long x :: S' ∧ st' = (pc, L, f x :: S', σ) := by
 unfold quniJ at h
 split at h
 ·cases h; exact ⟨_, _, rfl, rfl⟩
 ·cases h
theorem qif_inv {pc : Nat} {L : QLoc} {S : List Value} {σ : QHeap} {cd : ClassFile.Cond} {t : Nat} {st' : QSt} (h : qif pc L S σ cd t = some st') : ∃ x S', S = .int x :: S' ∧ st' = (bif ifCond.holds cd x then t else pc, L, S', σ) := by
 unfold qif at h
 split at h
 ·cases h; exact ⟨_, _, rfl, rfl⟩
 ·cases h
theorem qicmp_inv {pc : Nat} {L : QLoc} {S : List Value} {σ : QHeap} {cd : ClassFile.Cond} {t : Nat} {st' : QSt} (h : qicmp pc L S σ cd t = some st') : ∃ x y S', S = .int y :: .int x :: S' ∧ st' = (bif if_icmp.holds cd x y then t else pc, L, S', σ) := by
 unfold qicmp at h
 split at h
 ·cases h; exact ⟨_, _, _, rfl, rfl⟩
 ·cases h
theorem qget_inv {pc : Nat} {L : QLoc} {S : List Value} {σ : QHeap} {k : Nat} {st' : QSt} (h : qget pc L S σ k = some st') : ∃ a S' vs v, S = .ref a :: S' ∧ hget σ a = some (.inl vs) ∧ vget vs k = some v ∧ st' = (pc, L, v :: S', σ) := by
 unfold qget at h
 split at h
 ·split at h
  ·split at h
   ·cases h; exact ⟨_, _, _, _, rfl, by assumption, by assumption, rfl⟩
   ·cases h
  ·cases h
 ·cases h
theorem qput_inv {pc : Nat} {L : QLoc} {S : List Value} {σ : QHeap} {k : Nat} {st' : QSt} (h : qput pc L S σ k = some st') : ∃ v a S' vs w, S = v :: .ref a :: S' ∧ hget σ a = some (.inl vs) ∧ k0 ≤ a ∧ k < vs.length ∧ qfit (fTy k) v = some w ∧ st' = (pc, L, S', σ.set a (.inl (vs.set k w))) := by
 unfold qput at h
 split at h
 ·rename_i v a S'
  split at h
  ·rename_i vs hvs
   cases hbb : (Nat.ble k0 a && Nat.ble (k + 1) vs.length) with
   | false => rw [hbb] at h; cases h
   | true =>
    rw [hbb] at h
    simp only [cond_true] at h
    obtain ⟨u, hu, h⟩ := Option.bind_eq_some_iff.mp h
    cases h
    obtain ⟨b1, b2⟩ := Bool.and_eq_true_iff.mp hbb
    exact ⟨v, a, S', vs, u, rfl, hvs, Nat.le_of_ble_eq_true b1, Nat.le_of_ble_eq_true b2, hu, rfl⟩
  ·cases h
 ·cases h
theorem qald_inv {pc : Nat} {L : QLoc} {S : List Value} {σ : QHeap} {ok : FieldType → Bool} {st' : QSt} (h : qald pc L S σ ok = some st') : ∃ j a S' ty xs v, S = .int j :: .ref a :: S' ∧ hget σ a = some (.inr (.inl (ty, xs))) ∧ ok ty = true ∧ aget xs j = some v ∧ st' = (pc, L, .int v :: S', σ) := by
 unfold qald at h
 split at h
 ·rename_i j a S'
  split at h
  ·rename_i x hx
   cases ht : ok x.1 with
   | false => rw [ht] at h; cases h
   | true =>
    rw [ht] at h
    simp only [cond_true] at h
    obtain ⟨u, hu, h⟩ := Option.bind_eq_some_iff.mp h
    cases h
    exact ⟨j, a, S', x.1, x.2, u, rfl, hx, ht, hu, rfl⟩
  ·cases h
 ·cases h
theorem qaldJ_inv {pc : Nat} {L : QLoc} {S : List Value} {σ : QHeap} {st' : QSt} (h : qaldJ pc L S σ = some st') : ∃ j a S' xs v, S = .int j :: .ref a :: S' ∧ hget σ a = some (.inr (.inr xs)) ∧ aget xs j = some v ∧ st' = (pc, L, .long v :: S', σ) := by
 unfold qaldJ at h
 split at h
 ·rename_i j a S'
  split at h
  ·rename_i x hx
   obtain ⟨u, hu, h⟩ := Option.bind_eq_some_iff.mp h
   cases h
   exact ⟨j, a, S', x, u, rfl, hx, hu, rfl⟩
  ·cases h
 ·cases h
theorem qast_inv {pc : Nat} {L : QLoc} {S : List Value} {σ : QHeap} {ok : FieldType → Bool} {st' : QSt} (h : qast pc L S σ ok = some st') : ∃ v j a S' ty xs ys, S = .int v :: .int j :: .ref a :: S' ∧ hget σ a = some (.inr (.inl (ty, xs))) ∧ ok ty = true ∧ k0 ≤ a ∧ aset xs j (qnar ty v) = some ys ∧ st' = (pc, L, S', σ.set a (.inr (.inl (ty, ys)))) := by
 unfold qast at h
 split at h
 ·rename_i v j a S'
  split at h
  ·rename_i x hx
   cases ht : (ok x.1 && Nat.ble k0 a) with
   | false => rw [ht] at h; cases h
   | true =>
    rw [ht] at h
    simp only [cond_true] at h
    obtain ⟨u, hu, h⟩ := Option.bind_eq_some_iff.mp h
    cases h
    obtain ⟨b1, b2⟩ := Bool.and_eq_true_iff.mp ht
    exact ⟨v, j, a, S', x.1, x.2, u, rfl, hx, b1, Nat.le_of_ble_eq_true b2, hu, rfl⟩
  ·cases h
 ·cases h
theorem qastJ_inv {pc : Nat} {L : QLoc} {S : List Value} {σ : QHeap} {st' : QSt} (h : qastJ pc L S σ = some st') : ∃ v j a S' xs ys, S = .long v :: .int j :: .ref a :: S' ∧ hget σ a = some (.inr (.inr xs)) ∧ k0 ≤ a ∧ aset xs j v = some ys ∧ st' = (pc, L, S', σ.set a (.inr (.inr ys))) := by
 unfold qastJ at h
 split at h
 ·rename_i v j a S'
  split at h
  ·rename_i x hx
   cases ht : (Nat.ble k0 a) with
   | false => rw [ht] at h; cases h
   | true =>
    rw [ht] at h
    simp only [cond_true] at h
    obtain ⟨u, hu, h⟩ := Option.bind_eq_some_iff.mp h
    cases h
    exact ⟨v, j, a, S', x, u, rfl, hx, Nat.le_of_ble_eq_true ht, hu, rfl⟩
  ·cases h
 ·cases h
theorem qlen_inv {pc : Nat} {L : QLoc} {S : List Value} {σ : QHeap} {st' : QSt} (h : qlen pc L S σ = some st') : ∃ a S' n, S = .ref a :: S' ∧ ((∃ ty xs, hget σ a = some (.inr (.inl (ty, xs))) ∧ n = xs.length) ∨ ∃ xs, hget σ a = some (.inr (.inr xs)) ∧ n = xs.length) ∧ st' = (pc, L, .int n.toInt32 :: S', σ) := by
 unfold qlen at h
 split at h
 ·rename_i a S'
  split at h
  ·rename_i x hx
   cases h; exact ⟨a, S', _, rfl, Or.inl ⟨x.1, x.2, hx, rfl⟩, rfl⟩
  ·rename_i x hx
   cases h; exact ⟨a, S', _, rfl, Or.inr ⟨x, hx, rfl⟩, rfl⟩
  ·cases h
 ·cases h
theorem isI_inv {v : Value} (h : isI v = true) : ∃ x, v = .int x := by cases v <;> simp [isI] at h; exact ⟨_, rfl⟩
theorem isJ_inv {v : Value} (h : isJ v = true) : ∃ x, v = .long x := by cases v <;> simp [isJ] at h; exact ⟨_, rfl⟩
theorem isR_inv {v : Value} (h : isR v = true) : ∃ x, v = .ref x := by cases v <;> simp [isR] at h; exact ⟨_, rfl⟩
theorem aget_inv {α : Type} {xs : List α} {j : Int32} {x : α} (h : aget xs j = some x) : ¬ j < 0 ∧ xs[j.toNatClampNeg]? = some x := by
 unfold aget at h
 split at h
 ·cases h
 ·rename_i q; exact ⟨q, h⟩
theorem aset_inv {α : Type} {xs ys : List α} {j : Int32} {x : α} (h : aset xs j x = some ys) : ¬ j < 0 ∧ j.toNatClampNeg < xs.length ∧ ys = xs.set j.toNatClampNeg x := by
 unfold aset at h
 split at h
 ·cases h
 ·rename_i q
  split at h
  ·rename_i q2; cases h; exact ⟨q, q2, rfl⟩
  ·cases h
theorem qnew_inv {n : Int32} {k : Nat} (h : qnew n = some k) : ¬ n < 0 ∧ n.toNatClampNeg = k ∧ k ≤ 67108864 := by
 unfold qnew at h
 split at h
 ·cases h
 ·rename_i q
  split at h
  ·rename_i q2; cases h; exact ⟨q, rfl, q2⟩
  ·cases h
theorem QCellOk.other {h h' : Heap} {a b : Addr} {sl : Nat} {w : Value} {c : QCell} (H : QCellOk Z ad h b c) (W : Wr h h' a sl w) (ne : b ≠ a) : QCellOk Z ad h' b c := by
 rcases c with vs | ⟨ty, xs⟩ | xs
 ·obtain ⟨h1, h2, h3⟩ := H
  exact ⟨h1.wr W, h2, fun k u hk hu => (h3 k u hk hu).other W (Or.inl ne)⟩
 ·obtain ⟨c, h1, h2⟩ := H
  exact ⟨c, h1.other W ne, h2⟩
 ·obtain ⟨c, h1, h2⟩ := H
  exact ⟨c, h1.other W ne, h2⟩
theorem QCellOk.ext {h h' : Heap} {b : Addr} {c : QCell} (H : QCellOk Z ad h b c) (E : Ext h h') : QCellOk Z ad h' b c := by
 rcases c with vs | ⟨ty, xs⟩ | xs
 ·obtain ⟨h1, h2, h3⟩ := H
  exact ⟨h1.ext E, h2, fun k u hk hu => (h3 k u hk hu).ext E⟩
 ·obtain ⟨c, h1, h2⟩ := H
  exact ⟨c, h1.ext E, h2⟩
 ·obtain ⟨c, h1, h2⟩ := H
  exact ⟨c, h1.ext E, h2⟩
theorem QRep.set {h h' : Heap} {σ : QHeap} {a : Nat} {sl : Nat} {w : Value} {c d : QCell} (H : QRep Z n0 ad h σ) (Ad : QAd n0 ad) (W : Wr h h' (ad a) sl w) (hc : hget σ a = some c) (hd : QCellOk Z ad h' (ad a) d) : QRep Z n0 ad h' (σ.set a d) := by
 obtain ⟨h1, h2, h3⟩ := H
 refine ⟨by simpa using h1, by rw [W.size, h2]; simp, fun k e he => ?_⟩
 rw [hget_set hc] at he
 split at he
 ·rename_i q; cases he; rw [q]; exact hd
 ·rename_i q; exact (h3 k e he).other W fun z => q (Ad.2 _ _ z)
theorem QRep.push {h h' : Heap} {σ : QHeap} {c : QCell} (H : QRep Z n0 ad h σ) (Ad : QAd n0 ad) (E : Ext h h') (hs : h'.size = h.size + 1) (hc : QCellOk Z ad h' h.size c) : QRep Z n0 ad h' (σ ++ [c]) := by
 obtain ⟨h1, h2, h3⟩ := H
 refine ⟨by simp; omega, by rw [hs, h2]; simp; omega, fun k e he => ?_⟩
 rw [hget_eq] at he
 rcases Nat.lt_or_ge k σ.length with q | q
 ·rw [List.getElem?_append_left q, ← hget_eq] at he
  exact (h3 k e he).ext E
 ·rw [List.getElem?_append_right q] at he
  obtain rfl : k = σ.length := by
   rcases Nat.lt_or_ge (k - σ.length) 1 with z | z
   ·omega
   ·rw [List.getElem?_eq_none (by simpa using z)] at he; cases he
  simp at he
  rw [← he, Ad.1 _ h1, ← h2]
  exact hc
theorem mem_of_contains {α : Type} [BEq α] [LawfulBEq α] {L : List α} {a : α} (h : L.contains a = true) : a ∈ L := by simpa using h
theorem lkF_lt : ∀ t ∈ lkF, t.2.2 < nF := by decide +kernel
theorem laid_of (W : QW Z a0) {k : Nat} (hk : k < nF) : Laid Z a0 cName cName (fNm k) (fDs k) := by
 have q := (qw_lay W) k hk
 cases hf : fFin k with
 | true => rw [hf] at q; exact Or.inr q
 | false => rw [hf] at q; exact Or.inl q
theorem qfit_inv {ty : FieldType} {v w : Value} (h : qfit ty v = some w) : v = w ∧ narrow ty (qv ad w) = qv ad w ∧ fits ty (qv ad w) = true := by
 unfold qfit at h
 split at h
 ·cases h; exact ⟨rfl, rfl, rfl⟩
 ·rename_i x
  obtain ⟨y, hy, h⟩ := Option.bind_eq_some_iff.mp h
  cases h
  unfold qboo at hy
  split at hy
  ·rename_i e; cases hy; subst e; exact ⟨rfl, rfl, rfl⟩
  ·split at hy
   ·rename_i e; cases hy; subst e; exact ⟨rfl, rfl, rfl⟩
   ·cases hy
 ·cases h; exact ⟨rfl, rfl, rfl⟩
 ·cases h; exact ⟨rfl, rfl, rfl⟩
 ·cases h
theorem vget_set {vs : List Value} {k j : Nat} {w : Value} (hk : k < vs.length) : vget (vs.set k w) j = if j = k then some w else vget vs j := by
 simp only [vget_eq, List.getElem?_set]
 by_cases e : k = j
 ·subst e; simp [hk]
 ·simp [e, Ne.symm e]
theorem ald_in {α : Type} {f : α → Value} {xs : List α} {c : Cell} {j : Int32} {x : α} (hc : c.slots = (xs.map f).toArray) (h : aget xs j = some x) : ¬ (j < 0 ∨ c.slots.size ≤ j.toNatClampNeg) ∧ c.slots[j.toNatClampNeg]? = some (f x) := by
 obtain ⟨h1, h2⟩ := aget_inv h
 have h3 := (List.getElem?_eq_some_iff.mp h2).1
 refine ⟨fun q => ?_, by rw [hc]; simp [h2]⟩
 rcases q with q | q
 ·exact h1 q
 ·rw [hc] at q; simp at q; omega
theorem ast_in {α : Type} {f : α → Value} {xs ys : List α} {c : Cell} {j : Int32} {x : α} (hc : c.slots = (xs.map f).toArray) (h : aset xs j x = some ys) : ¬ (j < 0 ∨ c.slots.size ≤ j.toNatClampNeg) ∧ (c.setSlot j.toNatClampNeg (f x)).slots = (ys.map f).toArray := by
 obtain ⟨h1, h2, rfl⟩ := aset_inv h
 refine ⟨fun q => ?_, by simp [Cell.setSlot, hc, List.map_set]⟩
 rcases q with q | q
 ·exact h1 q
 ·rw [hc] at q; simp at q; omega
theorem qgrow {σ : QHeap} {c : QCell} : qhs (σ ++ [c]) - qhs σ = qsz c := by rw [qhs_app]; simp [qhs]
set_option maxHeartbeats 4000000 in
theorem QTri.newArr (Ad : QAd n0 ad) (W : QW Z a0) {pc aux : Nat} {L : QLoc} {S : List Value} {σ : QHeap} {aty : ArrayType} {n : Int32} {k : Nat} {c : QCell} (hk : qnew n = some k) (hc : pCode m pc = some (.newarray aty, aux)) (hz : qsz c = k)
  (hq : ∀ (h' : Heap) (a : Addr) (cA : ClassId), Arr Z h' a (newA cA (newarray.typeOf aty) n) (newarray.typeOf aty) → QCellOk Z ad h' a c)
  (h : QTri l Z n0 ad m (pc + 2, L, .ref σ.length :: S, σ ++ [c]) v σ') : QTri l Z n0 ad m (pc, L, .int n :: S, σ) v σ' := by
 have hd : decode (pBytes m) pc = .ok (.newarray aty, 2) := pDecN hc rfl
 obtain ⟨n1, n2, n3⟩ := qnew_inv hk
 refine QTri.gen h (by simp) (by simp [qhs_app]) fun p e R s mid args below meth c' T locs cells slots C hcx X hR hF hL hC hn hc1 hsl => ?_
 obtain ⟨hx, hZ, hby, hml, hret, hown, hnm, hfr, hlo⟩ := hcx
 have hd2 : decode c'.code pc = .ok (.newarray aty, 2) := by rw [hby]; exact hd
 simp only [List.length_append, List.length_singleton, Nat.add_sub_cancel_left, qgrow, hz] at hc1 hsl ⊢
 obtain ⟨T₁, h₁, cA, X₁, e₁, E₁, A₁, st⟩ := newP X hx hZ (aty := aty) (qw_arr W (newarray.typeOf aty) (mem_of_contains (show aTys.contains (newarray.typeOf aty) = true from pRest hc))) rfl (g := mkF mid pc C (.int n :: S.map (qv ad))) rfl hd2 rfl n1 (cap := k) (by omega) (by omega) hc1 hsl
 have hsz : h₁.size = T.heap.size + 1 := by
  have q1 := X₁.heapSize
  have q2 : T.heap.size < h₁.size := A₁.lt
  have q3 := hR.2.1
  rw [e₁] at q1
  have : n0 + (σ.length - k0) = s.heap.size + cells := hn
  have q3' : T.heap.size = n0 + (σ.length - k0) := q3
  omega
 refine ⟨T₁, locs, C, X₁, ?_, hF, hL, hC, fun target q => ?_⟩
 ·rw [e₁]; exact QRep.push hR Ad E₁ hsz (hq _ _ _ A₁)
 ·refine st _ ?_
  have e2 : ad σ.length = T.heap.size := by rw [Ad.1 _ hR.1]; exact hR.2.1.symm
  simp only [List.map_cons, qv, e2] at q
  exact q
set_option maxHeartbeats 4000000 in
theorem QTri.getfield (W : QW Z a0) {pc idx aux : Nat} {L : QLoc} {S : List Value} {σ : QHeap} {st' : QSt} (h : QTri l Z n0 ad m st' v σ') (hc : pCode m pc = some (.getfield idx, aux)) (hs : qget (pc + 3) L S σ aux = some st') : QTri l Z n0 ad m (pc, L, S, σ) v σ' := by
 have hd : decode (pBytes m) pc = .ok (.getfield idx, 3) := pDecN hc rfl
 obtain ⟨a, S', vs, w, rfl, hvs, hw, rfl⟩ := qget_inv hs
 have hm := mem_of_contains (show lkF.contains (pK m, idx, aux) = true from pRest hc)
 have hlt := lkF_lt _ hm
 refine QTri.pure h rfl fun p e R s mid args below meth c T locs cells slots C hcx X hR hL hC => ?_
 obtain ⟨hx, hZ, hby, hml, hret, hown, hnm, hfr, hlo⟩ := hcx
 have hd2 : decode c.code pc = .ok (.getfield idx, 3) := by rw [hby]; exact hd
 have F := (hR.2.2 _ _ hvs).2.2 aux w hlt hw
 obtain ⟨T₁, X₁, e₁, st⟩ := getF X hx hZ hown (host := "") (index := idx) (Or.inl (qw_fl W (pK m, idx, aux) hm)) Via.refl rfl F (g := mkF mid pc C (List.map (qv ad) (.ref a :: S'))) rfl rfl hd2
 exact ⟨T₁, C, X₁, e₁, hL, hC, st⟩
set_option maxHeartbeats 4000000 in
theorem QTri.putfield (Ad : QAd n0 ad) (W : QW Z a0) {pc idx aux : Nat} {L : QLoc} {S : List Value} {σ : QHeap} {st' : QSt} (h : QTri l Z n0 ad m st' v σ') (hc : pCode m pc = some (.putfield idx, aux)) (hs : qput (pc + 3) L S σ aux = some st') : QTri l Z n0 ad m (pc, L, S, σ) v σ' := by
 have hd : decode (pBytes m) pc = .ok (.putfield idx, 3) := pDecN hc rfl
 obtain ⟨w, a, S', vs, u, rfl, hvs, b1, b2, hu, rfl⟩ := qput_inv hs
 obtain ⟨r1, r2⟩ := Bool.and_eq_true_iff.mp (show (lkF.contains (pK m, idx, aux) && (!fFin aux || (pK m == 1 && pNm m == "<init>"))) = true from pRest hc)
 have hm := mem_of_contains r1
 have hlt := lkF_lt _ hm
 obtain ⟨rfl, q2, q3⟩ := qfit_inv (ad := ad) hu
 have hsz : qhs (σ.set a (Sum.inl (vs.set aux w))) = qhs σ := qhs_set hvs rfl
 refine QTri.gen h (by simp) (by show qhs σ ≤ qhs (σ.set a (Sum.inl (vs.set aux w))); rw [hsz]; exact Nat.le_refl _) fun p e R s mid args below meth c T locs cells slots C hcx X hR hF hL hC hn hc1 hsl => ?_
 obtain ⟨hx, hZ, hby, hml, hret, hown, hnm, hfr, hlo⟩ := hcx
 have hd2 : decode c.code pc = .ok (.putfield idx, 3) := by rw [hby]; exact hd
 obtain ⟨E, l1, Fs⟩ := hR.2.2 _ _ hvs
 obtain ⟨old, hold⟩ : ∃ old, vget vs aux = some old := by rw [vget_eq]; exact ⟨_, List.getElem?_eq_getElem b2⟩
 have lay : (Cond.lays cName cName (fNm aux) (fDs aux)).before a0 Z = true ∨ ((Cond.laysFinal cName cName (fNm aux) (fDs aux)).before a0 Z = true ∧ kName (pK m) = cName ∧ meth.name = "<init>") := by
  have q := (qw_lay W) aux hlt
  cases hf : fFin aux with
  | false => rw [hf] at q; exact Or.inl q
  | true =>
   rw [hf] at q r2
   simp at r2
   exact Or.inr ⟨q, by rw [r2.1]; exact kOne, by rw [hnm]; exact r2.2⟩
 obtain ⟨T₁, h₁, X₁, e₁, W₁, st⟩ := putF X hx hZ hown (host := "") (index := idx) (Or.inl (qw_fl W (pK m, idx, aux) hm)) Via.refl rfl (Fs aux old hlt hold) E lay ((qw_inst W)) (fPrs aux hlt) q2 q3 (g := mkF mid pc C (List.map (qv ad) (w :: .ref a :: S'))) rfl rfl hd2
 refine ⟨T₁, _, C, ?_, ?_, Fr.snoc X₁ hF (by rw [Ad.1 a b1]; exact Nat.le_add_right _ _), hL, hC, st⟩
 ·show Stand _ _ _ _ _ _ _ _ _ _ _ _ (cells + ((σ.set a (Sum.inl (vs.set aux w))).length - σ.length)) (slots + (qhs (σ.set a (Sum.inl (vs.set aux w))) - qhs σ))
  rw [hsz, Nat.sub_self, List.length_set, Nat.sub_self]
  exact X₁
 ·rw [e₁]
  refine QRep.set hR Ad W₁ hvs ⟨E.wr W₁, by simpa using l1, fun k u hk hu => ?_⟩
  rw [vget_set b2] at hu
  split at hu
  ·rename_i e; cases hu; rw [e]; exact (Fs aux old hlt hold).same W₁
  ·rename_i ne
   exact (Fs k u hk hu).other W₁ (Or.inr (slot_ne (laid_of W hk) (laid_of W hlt) (fun z => ne (fInj _ hk _ hlt z)) (fPrs _ hk) (fPrs _ hlt)))
theorem tyI_inv {ty : FieldType} (h : tyI ty = true) : ty = .int := by cases ty <;> simp [tyI] at h; rfl
theorem tyB_inv {ty : FieldType} (h : tyB ty = true) : ty = .boolean ∨ ty = .byte := by cases ty <;> simp [tyB] at h <;> simp
set_option maxHeartbeats 4000000 in
theorem QTri.iaload {pc aux : Nat} {L : QLoc} {S : List Value} {σ : QHeap} {st' : QSt} (h : QTri l Z n0 ad m st' v σ') (hc : pCode m pc = some (.iaload, aux)) (hs : qald (pc + 1) L S σ tyI = some st') : QTri l Z n0 ad m (pc, L, S, σ) v σ' := by
 have hd : decode (pBytes m) pc = .ok (.iaload, 1) := pDecN hc rfl
 obtain ⟨j, a, S', ty, xs, w, rfl, hx1, ht, hw, rfl⟩ := qald_inv hs
 obtain rfl := tyI_inv ht
 refine QTri.stack h fun p e R s mid args below meth c T locs cells slots C target hx hZ hby hown X hR hL k => ?_
 have hd2 : decode c.code pc = .ok (.iaload, 1) := by rw [hby]; exact hd
 obtain ⟨cl, A, hsl⟩ := hR.2.2 _ _ hx1
 obtain ⟨i1, i2⟩ := ald_in hsl hw
 exact X.iaload hx A.1 (State.isArrayOf_alike hZ.alike A.2.1) A.2.2 i1 i2 (g := mkF mid pc C (List.map (qv ad) (.int j :: .ref a :: S'))) rfl rfl hd2 _ k
set_option maxHeartbeats 4000000 in
theorem QTri.baload {pc aux : Nat} {L : QLoc} {S : List Value} {σ : QHeap} {st' : QSt} (h : QTri l Z n0 ad m st' v σ') (hc : pCode m pc = some (.baload, aux)) (hs : qald (pc + 1) L S σ tyB = some st') : QTri l Z n0 ad m (pc, L, S, σ) v σ' := by
 have hd : decode (pBytes m) pc = .ok (.baload, 1) := pDecN hc rfl
 obtain ⟨j, a, S', ty, xs, w, rfl, hx1, ht, hw, rfl⟩ := qald_inv hs
 refine QTri.stack h fun p e R s mid args below meth c T locs cells slots C target hx hZ hby hown X hR hL k => ?_
 have hd2 : decode c.code pc = .ok (.baload, 1) := by rw [hby]; exact hd
 obtain ⟨cl, A, hsl⟩ := hR.2.2 _ _ hx1
 obtain ⟨i1, i2⟩ := ald_in hsl hw
 rcases tyB_inv ht with rfl | rfl
 ·exact X.baloadBooleans hx A.1 (State.isArrayOf_alike hZ.alike A.2.1) A.2.2 i1 i2 (g := mkF mid pc C (List.map (qv ad) (.int j :: .ref a :: S'))) rfl rfl hd2 _ k
 ·exact X.baloadBytes hx A.1 (State.isArrayOf_alike hZ.alike A.2.1) A.2.2 i1 i2 (g := mkF mid pc C (List.map (qv ad) (.int j :: .ref a :: S'))) rfl rfl hd2 _ k
set_option maxHeartbeats 4000000 in
theorem QTri.laload {pc aux : Nat} {L : QLoc} {S : List Value} {σ : QHeap} {st' : QSt} (h : QTri l Z n0 ad m st' v σ') (hc : pCode m pc = some (.laload, aux)) (hs : qaldJ (pc + 1) L S σ = some st') : QTri l Z n0 ad m (pc, L, S, σ) v σ' := by
 have hd : decode (pBytes m) pc = .ok (.laload, 1) := pDecN hc rfl
 obtain ⟨j, a, S', xs, w, rfl, hx1, hw, rfl⟩ := qaldJ_inv hs
 refine QTri.stack h fun p e R s mid args below meth c T locs cells slots C target hx hZ hby hown X hR hL k => ?_
 have hd2 : decode c.code pc = .ok (.laload, 1) := by rw [hby]; exact hd
 obtain ⟨cl, A, hsl⟩ := hR.2.2 _ _ hx1
 obtain ⟨i1, i2⟩ := ald_in hsl hw
 exact X.laload hx A.1 (State.isArrayOf_alike hZ.alike A.2.1) A.2.2 i1 i2 (g := mkF mid pc C (List.map (qv ad) (.int j :: .ref a :: S'))) rfl rfl hd2 _ k
theorem QTri.stored (Ad : QAd n0 ad) {pc : Nat} {L : QLoc} {S S' : List Value} {σ : QHeap} {a j : Nat} {w : Value} {c d : QCell} (hx1 : hget σ a = some c) (b1 : k0 ≤ a) (hz : qsz d = qsz c) (h : QTri l Z n0 ad m (pc + 1, L, S', σ.set a d) v σ')
  (hs : ∀ (p : Program) (e : Env) (R : Room) (s : State) (mid : MethodId) (args : Array Value) (below : List Frame) (meth : Method) (c : Code) (T : State) (locs : List Loc) (cells slots : Nat) (C : Array Slot),
   QCx Z p R s mid meth c m → Stand p l e R s mid args below meth c T locs cells slots → QRep Z n0 ad T.heap σ →
   ∃ T' h', Stand p l e R s mid args below meth c T' (locs ++ [⟨ad a, j⟩]) cells slots ∧ T'.heap = h' ∧ Wr T.heap h' (ad a) j w ∧ QCellOk Z ad h' (ad a) d ∧ ∀ target, Steps p.tables e below (T'.setTop (mkF mid (pc + 1) C (S'.map (qv ad)))) target → Steps p.tables e below (T.setTop (mkF mid pc C (S.map (qv ad)))) target) :
  QTri l Z n0 ad m (pc, L, S, σ) v σ' := by
 have hsz : qhs (σ.set a d) = qhs σ := qhs_set hx1 hz
 refine QTri.gen h (by simp) (by show qhs σ ≤ qhs (σ.set a d); rw [hsz]; exact Nat.le_refl _) fun p e R s mid args below meth c T locs cells slots C hcx X hR hF hL hC hn hc1 hsl => ?_
 obtain ⟨T₁, h₁, X₁, e₁, W₁, Q₁, st⟩ := hs p e R s mid args below meth c T locs cells slots C hcx X hR
 refine ⟨T₁, _, C, ?_, ?_, Fr.snoc X₁ hF (by rw [Ad.1 a b1]; exact Nat.le_add_right _ _), hL, hC, st⟩
 ·show Stand _ _ _ _ _ _ _ _ _ _ _ _ (cells + ((σ.set a d).length - σ.length)) (slots + (qhs (σ.set a d) - qhs σ))
  rw [hsz, Nat.sub_self, List.length_set, Nat.sub_self]
  exact X₁
 ·rw [e₁]
  exact QRep.set hR Ad W₁ hx1 Q₁
set_option maxHeartbeats 4000000 in
theorem QTri.iastore (Ad : QAd n0 ad) {pc aux : Nat} {L : QLoc} {S : List Value} {σ : QHeap} {st' : QSt} (h : QTri l Z n0 ad m st' v σ') (hc : pCode m pc = some (.iastore, aux)) (hs : qast (pc + 1) L S σ tyI = some st') : QTri l Z n0 ad m (pc, L, S, σ) v σ' := by
 have hd : decode (pBytes m) pc = .ok (.iastore, 1) := pDecN hc rfl
 obtain ⟨w, j, a, S', ty, xs, ys, rfl, hx1, ht, b1, hw, rfl⟩ := qast_inv hs
 obtain rfl := tyI_inv ht
 refine QTri.stored Ad (j := j.toNatClampNeg) (w := .int w) hx1 b1 (by rw [(aset_inv hw).2.2]; simp [qsz]) h fun p e R s mid args below meth c T locs cells slots C hcx X hR => ?_
 have hd2 : decode c.code pc = .ok (.iastore, 1) := by rw [hcx.2.2.1]; exact hd
 obtain ⟨cl, A, hsl⟩ := hR.2.2 _ _ hx1
 obtain ⟨i1, i2⟩ := ast_in hsl hw
 obtain ⟨T₁, h₁, X₁, e₁, W₁, st⟩ := stI X hcx.1 hcx.2.1 rfl A i1 (g := mkF mid pc C (List.map (qv ad) (.int w :: .int j :: .ref a :: S'))) rfl rfl hd2
 exact ⟨T₁, h₁, X₁, e₁, W₁, ⟨_, A.same W₁, i2⟩, st⟩
set_option maxHeartbeats 4000000 in
theorem QTri.bastore (Ad : QAd n0 ad) {pc aux : Nat} {L : QLoc} {S : List Value} {σ : QHeap} {st' : QSt} (h : QTri l Z n0 ad m st' v σ') (hc : pCode m pc = some (.bastore, aux)) (hs : qast (pc + 1) L S σ tyB = some st') : QTri l Z n0 ad m (pc, L, S, σ) v σ' := by
 have hd : decode (pBytes m) pc = .ok (.bastore, 1) := pDecN hc rfl
 obtain ⟨w, j, a, S', ty, xs, ys, rfl, hx1, ht, b1, hw, rfl⟩ := qast_inv hs
 refine QTri.stored Ad (j := j.toNatClampNeg) (w := .int (qnar ty w)) hx1 b1 (by rw [(aset_inv hw).2.2]; simp [qsz]) h fun p e R s mid args below meth c T locs cells slots C hcx X hR => ?_
 have hd2 : decode c.code pc = .ok (.bastore, 1) := by rw [hcx.2.2.1]; exact hd
 obtain ⟨cl, A, hsl⟩ := hR.2.2 _ _ hx1
 obtain ⟨i1, i2⟩ := ast_in hsl hw
 rcases tyB_inv ht with rfl | rfl
 ·obtain ⟨T₁, h₁, X₁, e₁, W₁, st⟩ := stZ X hcx.1 hcx.2.1 rfl A i1 (g := mkF mid pc C (List.map (qv ad) (.int w :: .int j :: .ref a :: S'))) rfl rfl hd2
  exact ⟨T₁, h₁, X₁, e₁, W₁, ⟨_, A.same W₁, i2⟩, st⟩
 ·obtain ⟨T₁, h₁, X₁, e₁, W₁, st⟩ := stB X hcx.1 hcx.2.1 rfl A i1 (g := mkF mid pc C (List.map (qv ad) (.int w :: .int j :: .ref a :: S'))) rfl rfl hd2
  exact ⟨T₁, h₁, X₁, e₁, W₁, ⟨_, A.same W₁, i2⟩, st⟩
set_option maxHeartbeats 4000000 in
theorem QTri.lastore (Ad : QAd n0 ad) {pc aux : Nat} {L : QLoc} {S : List Value} {σ : QHeap} {st' : QSt} (h : QTri l Z n0 ad m st' v σ') (hc : pCode m pc = some (.lastore, aux)) (hs : qastJ (pc + 1) L S σ = some st') : QTri l Z n0 ad m (pc, L, S, σ) v σ' := by
 have hd : decode (pBytes m) pc = .ok (.lastore, 1) := pDecN hc rfl
 obtain ⟨w, j, a, S', xs, ys, rfl, hx1, b1, hw, rfl⟩ := qastJ_inv hs
 refine QTri.stored Ad (j := j.toNatClampNeg) (w := .long w) hx1 b1 (by rw [(aset_inv hw).2.2]; simp [qsz]) h fun p e R s mid args below meth c T locs cells slots C hcx X hR => ?_
 have hd2 : decode c.code pc = .ok (.lastore, 1) := by rw [hcx.2.2.1]; exact hd
 obtain ⟨cl, A, hsl⟩ := hR.2.2 _ _ hx1
 obtain ⟨i1, i2⟩ := ast_in hsl hw
 obtain ⟨T₁, h₁, X₁, e₁, W₁, st⟩ := stJ X hcx.1 hcx.2.1 rfl A i1 (g := mkF mid pc C (List.map (qv ad) (.long w :: .int j :: .ref a :: S'))) rfl rfl hd2
 exact ⟨T₁, h₁, X₁, e₁, W₁, ⟨_, A.same W₁, i2⟩, st⟩
set_option maxHeartbeats 4000000 in
theorem QTri.alen {pc aux : Nat} {L : QLoc} {S : List Value} {σ : QHeap} {st' : QSt} (h : QTri l Z n0 ad m st' v σ') (hc : pCode m pc = some (.arraylength, aux)) (hs : qlen (pc + 1) L S σ = some st') : QTri l Z n0 ad m (pc, L, S, σ) v σ' := by
 have hd : decode (pBytes m) pc = .ok (.arraylength, 1) := pDecN hc rfl
 obtain ⟨a, S', n, rfl, hx1, rfl⟩ := qlen_inv hs
 refine QTri.stack h fun p e R s mid args below meth c T locs cells slots C target hx hZ hby hown X hR hL k => ?_
 have hd2 : decode c.code pc = .ok (.arraylength, 1) := by rw [hby]; exact hd
 rcases hx1 with ⟨ty, xs, hx1, rfl⟩ | ⟨xs, hx1, rfl⟩
 ·obtain ⟨cl, A, hsl⟩ := hR.2.2 _ _ hx1
  have e1 : cl.slots.size = xs.length := by rw [hsl]; simp
  rw [← e1] at k
  exact X.arraylength hx A.1 (State.isArrayOf_alike hZ.alike A.2.1) (g := mkF mid pc C (List.map (qv ad) (.ref a :: S'))) rfl rfl hd2 _ k
 ·obtain ⟨cl, A, hsl⟩ := hR.2.2 _ _ hx1
  have e1 : cl.slots.size = xs.length := by rw [hsl]; simp
  rw [← e1] at k
  exact X.arraylength hx A.1 (State.isArrayOf_alike hZ.alike A.2.1) (g := mkF mid pc C (List.map (qv ad) (.ref a :: S'))) rfl rfl hd2 _ k
set_option maxHeartbeats 4000000 in
theorem QTri.newObj (Ad : QAd n0 ad) (W : QW Z a0) {pc idx aux : Nat} {L : QLoc} {S : List Value} {σ : QHeap} (h : QTri l Z n0 ad m (pc + 3, L, .ref σ.length :: S, σ ++ [.inl cDef]) v σ') (hc : pCode m pc = some (.new idx, aux)) : QTri l Z n0 ad m (pc, L, S, σ) v σ' := by
 have hd : decode (pBytes m) pc = .ok (.new idx, 3) := pDecN hc rfl
 have hm := mem_of_contains (show lkN.contains (pK m, idx) = true from pRest hc)
 refine QTri.gen h (by simp) (by simp [qhs_app]) fun p e R s mid args below meth c T locs cells slots C hcx X hR hF hL hC hn hc1 hsl => ?_
 obtain ⟨hx, hZ, hby, hml, hret, hown, hnm, hfr, hlo⟩ := hcx
 have hd2 : decode c.code pc = .ok (.new idx, 3) := by rw [hby]; exact hd
 simp only [List.length_append, List.length_singleton, Nat.add_sub_cancel_left, qgrow, qsz] at hc1 hsl ⊢
 obtain ⟨T₁, h₁, X₁, e₁, E₁, A₁, D₁, -, st⟩ := newO X hx hZ hown (index := idx) (qw_nw W (pK m, idx) hm) ((qw_inst W)) ((qw_init W)) rfl (g := mkF mid pc C (S.map (qv ad))) rfl hd2 hc1 hsl
 have hsz : h₁.size = T.heap.size + 1 := by
  have q1 := X₁.heapSize
  have q2 : T.heap.size < h₁.size := A₁.lt
  have q3 : T.heap.size = n0 + (σ.length - k0) := hR.2.1
  rw [e₁] at q1
  have : n0 + (σ.length - k0) = s.heap.size + cells := hn
  omega
 refine ⟨T₁, locs, C, X₁, ?_, hF, hL, hC, fun target q => ?_⟩
 ·rw [e₁]
  refine QRep.push hR Ad E₁ hsz ⟨A₁, cDefL, fun k u hk hu => ?_⟩
  rw [cDefs k hk] at hu
  cases hu
  have e3 : qv ad (defaultValue (fTy k)) = defaultValue (fTy k) := by
   cases hq : defaultValue (fTy k) with
   | ref a => exact absurd hq (fDef k hk a)
   | _ => rfl
  rw [e3]
  exact D₁ (laid_of W hk) (fPrs k hk)
 ·refine st _ ?_
  have e2 : ad σ.length = T.heap.size := by rw [Ad.1 _ hR.1]; exact hR.2.1.symm
  simp only [List.map_cons, qv, e2] at q
  exact q
set_option maxHeartbeats 8000000 in
theorem QTri.step (Ad : QAd n0 ad) (W : QW Z a0) {st st' : QSt} (h : QTri l Z n0 ad m st' v σ') (hs : qstep m st = some st') : QTri l Z n0 ad m st v σ' := by
 obtain ⟨pc, L, S, σ⟩ := st
 unfold qstep at hs
 dsimp only at hs
 split at hs
 rotate_left
 ·cases hs
 rename_i i aux hc
 have hd := pDecN hc rfl
 have hr := pRest hc
 unfold qexec at hs
 split at hs
 ·-- aload_n
  obtain ⟨w, h1, h2, rfl⟩ := qload_inv hs
  obtain ⟨a, rfl⟩ := isR_inv h2
  exact QTri.stack h fun p e R s mid args below meth c T locs cells slots C target hx hZ hby hown X hR hL k => XS.aloadN X.here hx rfl (hb hby hd) (hL.2.1 _ _ h1) rfl k
 ·obtain ⟨w, h1, h2, rfl⟩ := qload_inv hs
  obtain ⟨a, rfl⟩ := isR_inv h2
  exact QTri.stack h fun p e R s mid args below meth c T locs cells slots C target hx hZ hby hown X hR hL k => XS.aload X.here hx rfl (hb hby hd) (hL.2.1 _ _ h1) rfl k
 ·obtain ⟨w, h1, h2, rfl⟩ := qload_inv hs
  obtain ⟨a, rfl⟩ := isI_inv h2
  exact QTri.stack h fun p e R s mid args below meth c T locs cells slots C target hx hZ hby hown X hR hL k => XS.iloadN X.here hx rfl (hb hby hd) (hL.2.1 _ _ h1) k
 ·obtain ⟨w, h1, h2, rfl⟩ := qload_inv hs
  obtain ⟨a, rfl⟩ := isI_inv h2
  exact QTri.stack h fun p e R s mid args below meth c T locs cells slots C target hx hZ hby hown X hR hL k => XS.iload X.here hx rfl (hb hby hd) (hL.2.1 _ _ h1) k
 ·obtain ⟨w, h1, h2, rfl⟩ := qload_inv hs
  obtain ⟨a, rfl⟩ := isJ_inv h2
  exact QTri.stack h fun p e R s mid args below meth c T locs cells slots C target hx hZ hby hown X hR hL k => XT.lloadN X.here hx rfl (hb hby hd) (hL.2.1 _ _ h1) k
 ·obtain ⟨w, h1, h2, rfl⟩ := qload_inv hs
  obtain ⟨a, rfl⟩ := isJ_inv h2
  exact QTri.stack h fun p e R s mid args below meth c T locs cells slots C target hx hZ hby hown X hR hL k => XT.lload X.here hx rfl (hb hby hd) (hL.2.1 _ _ h1) k
 ·cases hs -- iconst
  exact QTri.stack h fun p e R s mid args below meth c T locs cells slots C target hx hZ hby hown X hR hL k => XS.iconst X.here hx rfl (hb hby hd) k
 ·cases hs
  exact QTri.stack h fun p e R s mid args below meth c T locs cells slots C target hx hZ hby hown X hR hL k => XS.bipush X.here hx rfl (hb hby hd) k
 ·cases hs
  exact QTri.stack h fun p e R s mid args below meth c T locs cells slots C target hx hZ hby hown X hR hL k => XS.sipush X.here hx rfl (hb hby hd) k
 ·cases hs
  exact QTri.stack h fun p e R s mid args below meth c T locs cells slots C target hx hZ hby hown X hR hL k => XT.lconst X.here hx rfl (hb hby hd) k
 ·-- ldc
  unfold qldc at hs
  split at hs
  ·rename_i w hw
   cases hs
   obtain ⟨x, hx1, hx2⟩ := qw_cI W (pK m, _, aux) (mem_of_contains (show lkC.contains (pK m, _, aux) = true from hr))
   rw [show vget cK aux = some w from hw] at hx1
   cases hx1
   exact QTri.stack h fun p e R s mid args below meth c T locs cells slots C target hx hZ hby hown X hR hL k => X.ldcI hx hown (mv hZ hx2) rfl (hb hby hd) k
  ·cases hs
 ·unfold qldc at hs
  split at hs
  ·rename_i w hw
   cases hs
   obtain ⟨x, hx1, hx2⟩ := qw_cJ W (pK m, _, aux) (mem_of_contains (show lkD.contains (pK m, _, aux) = true from hr))
   rw [show vget cK aux = some w from hw] at hx1
   cases hx1
   exact QTri.stack h fun p e R s mid args below meth c T locs cells slots C target hx hZ hby hown X hR hL k => X.ldc2J hx hown (mv hZ hx2) rfl (hb hby hd) k
  ·cases hs
 ·-- istore_n
  obtain ⟨w, S', L', rfl, h2, h3, rfl⟩ := qstore_inv hs
  obtain ⟨a, rfl⟩ := isI_inv h2
  exact QTri.frame h fun p e R s mid args below meth c T locs cells slots C hcx X hR hL hC => by
   obtain ⟨D, d1, d2, d3⟩ := store_ok hL h3
   exact ⟨D, d2, d3.trans hC, fun target k => XS.istoreN X.here hcx.1 rfl (hb hcx.2.2.1 hd) rfl d1 k⟩
 ·obtain ⟨w, S', L', rfl, h2, h3, rfl⟩ := qstore_inv hs
  obtain ⟨a, rfl⟩ := isI_inv h2
  exact QTri.frame h fun p e R s mid args below meth c T locs cells slots C hcx X hR hL hC => by
   obtain ⟨D, d1, d2, d3⟩ := store_ok hL h3
   exact ⟨D, d2, d3.trans hC, fun target k => XS.istore X.here hcx.1 rfl (hb hcx.2.2.1 hd) rfl d1 k⟩
 ·obtain ⟨w, S', L', rfl, h2, h3, rfl⟩ := qstore_inv hs
  obtain ⟨a, rfl⟩ := isJ_inv h2
  exact QTri.frame h fun p e R s mid args below meth c T locs cells slots C hcx X hR hL hC => by
   obtain ⟨D, d1, d2, d3⟩ := store_ok hL h3
   exact ⟨D, d2, d3.trans hC, fun target k => XT.lstoreN X.here hcx.1 rfl (hb hcx.2.2.1 hd) rfl d1 k⟩
 ·obtain ⟨w, S', L', rfl, h2, h3, rfl⟩ := qstore_inv hs
  obtain ⟨a, rfl⟩ := isJ_inv h2
  exact QTri.frame h fun p e R s mid args below meth c T locs cells slots C hcx X hR hL hC => by
   obtain ⟨D, d1, d2, d3⟩ := store_ok hL h3
   exact ⟨D, d2, d3.trans hC, fun target k => XT.lstore X.here hcx.1 rfl (hb hcx.2.2.1 hd) rfl d1 k⟩
 ·obtain ⟨w, S', L', rfl, h2, h3, rfl⟩ := qstore_inv hs
  obtain ⟨a, rfl⟩ := isR_inv h2
  exact QTri.frame h fun p e R s mid args below meth c T locs cells slots C hcx X hR hL hC => by
   obtain ⟨D, d1, d2, d3⟩ := store_ok hL h3
   exact ⟨D, d2, d3.trans hC, fun target k => XS.astoreN X.here hcx.1 rfl (hb hcx.2.2.1 hd) rfl rfl d1 k⟩
 ·obtain ⟨w, S', L', rfl, h2, h3, rfl⟩ := qstore_inv hs
  obtain ⟨a, rfl⟩ := isR_inv h2
  exact QTri.frame h fun p e R s mid args below meth c T locs cells slots C hcx X hR hL hC => by
   obtain ⟨D, d1, d2, d3⟩ := store_ok hL h3
   exact ⟨D, d2, d3.trans hC, fun target k => XS.astore X.here hcx.1 rfl (hb hcx.2.2.1 hd) rfl rfl d1 k⟩
 ·-- iinc
  unfold qinc at hs
  split at hs
  ·rename_i x hx1
   split at hs
   ·rename_i L' hL'
    cases hs
    exact QTri.frame h fun p e R s mid args below meth c T locs cells slots C hcx X hR hL hC => by
     obtain ⟨D, d1, d2, d3⟩ := store_ok hL hL'
     exact ⟨D, d2, d3.trans hC, fun target k => XS.iinc X.here hcx.1 rfl (hb hcx.2.2.1 hd) (hL.2.1 _ _ hx1) d1 k⟩
   ·cases hs
  ·cases hs
 ·obtain ⟨x, y, S', rfl, rfl⟩ := qbin_inv hs -- iadd
  exact QTri.stack h fun p e R s mid args below meth c T locs cells slots C target hx hZ hby hown X hR hL k => XS.iadd X.here hx rfl (hb hby hd) rfl k
 ·obtain ⟨x, y, S', rfl, rfl⟩ := qbin_inv hs
  exact QTri.stack h fun p e R s mid args below meth c T locs cells slots C target hx hZ hby hown X hR hL k => XS.isub X.here hx rfl (hb hby hd) rfl k
 ·obtain ⟨x, y, S', rfl, rfl⟩ := qbin_inv hs
  exact QTri.stack h fun p e R s mid args below meth c T locs cells slots C target hx hZ hby hown X hR hL k => XS.imul X.here hx rfl (hb hby hd) rfl k
 ·obtain ⟨x, y, S', rfl, rfl⟩ := qbin_inv hs
  exact QTri.stack h fun p e R s mid args below meth c T locs cells slots C target hx hZ hby hown X hR hL k => XS.iand X.here hx rfl (hb hby hd) rfl k
 ·obtain ⟨x, y, S', rfl, rfl⟩ := qbin_inv hs
  exact QTri.stack h fun p e R s mid args below meth c T locs cells slots C target hx hZ hby hown X hR hL k => XT.ior X.here hx rfl (hb hby hd) rfl k
 ·obtain ⟨x, y, S', rfl, rfl⟩ := qbin_inv hs
  exact QTri.stack h fun p e R s mid args below meth c T locs cells slots C target hx hZ hby hown X hR hL k => XT.ixor X.here hx rfl (hb hby hd) rfl k
 ·obtain ⟨x, y, S', rfl, rfl⟩ := qbin_inv hs
  exact QTri.stack h fun p e R s mid args below meth c T locs cells slots C target hx hZ hby hown X hR hL k => XT.ishl X.here hx rfl (hb hby hd) rfl k
 ·obtain ⟨x, y, S', rfl, rfl⟩ := qbin_inv hs
  exact QTri.stack h fun p e R s mid args below meth c T locs cells slots C target hx hZ hby hown X hR hL k => XT.ishr X.here hx rfl (hb hby hd) rfl k
 ·obtain ⟨x, y, S', rfl, rfl⟩ := qbin_inv hs
  exact QTri.stack h fun p e R s mid args below meth c T locs cells slots C target hx hZ hby hown X hR hL k => XT.iushr X.here hx rfl (hb hby hd) rfl k
 ·obtain ⟨x, y, z, S', rfl, hz, rfl⟩ := qbino_inv hs -- idiv
  unfold qdiv at hz
  split at hz
  ·cases hz
  ·rename_i hy
   cases hz
   exact QTri.stack h fun p e R s mid args below meth c T locs cells slots C target hx hZ hby hown X hR hL k => XS.idiv X.here hx rfl (hb hby hd) rfl hy k
 ·obtain ⟨x, y, z, S', rfl, hz, rfl⟩ := qbino_inv hs
  unfold qrem at hz
  split at hz
  ·cases hz
  ·rename_i hy
   cases hz
   exact QTri.stack h fun p e R s mid args below meth c T locs cells slots C target hx hZ hby hown X hR hL k => iremM X hx rfl (hb hby hd) rfl hy k
 ·obtain ⟨x, S', rfl, rfl⟩ := quni_inv hs -- ineg
  exact QTri.stack h fun p e R s mid args below meth c T locs cells slots C target hx hZ hby hown X hR hL k => XS.ineg X.here hx rfl (hb hby hd) rfl k
 ·obtain ⟨x, S', rfl, rfl⟩ := quni_inv hs
  exact QTri.stack h fun p e R s mid args below meth c T locs cells slots C target hx hZ hby hown X hR hL k => XT.i2l X.here hx rfl (hb hby hd) rfl k
 ·obtain ⟨x, S', rfl, rfl⟩ := quni_inv hs
  exact QTri.stack h fun p e R s mid args below meth c T locs cells slots C target hx hZ hby hown X hR hL k => XT.i2b X.here hx rfl (hb hby hd) rfl k
 ·obtain ⟨x, S', rfl, rfl⟩ := quniJ_inv hs
  exact QTri.stack h fun p e R s mid args below meth c T locs cells slots C target hx hZ hby hown X hR hL k => XT.l2i X.here hx rfl (hb hby hd) rfl k
 ·obtain ⟨x, S', rfl, rfl⟩ := quniJ_inv hs
  exact QTri.stack h fun p e R s mid args below meth c T locs cells slots C target hx hZ hby hown X hR hL k => XT.lneg X.here hx rfl (hb hby hd) rfl k
 ·obtain ⟨x, y, S', rfl, rfl⟩ := qbinJ_inv hs
  exact QTri.stack h fun p e R s mid args below meth c T locs cells slots C target hx hZ hby hown X hR hL k => XT.ladd X.here hx rfl (hb hby hd) rfl k
 ·obtain ⟨x, y, S', rfl, rfl⟩ := qbinJ_inv hs
  exact QTri.stack h fun p e R s mid args below meth c T locs cells slots C target hx hZ hby hown X hR hL k => XT.lsub X.here hx rfl (hb hby hd) rfl k
 ·obtain ⟨x, y, S', rfl, rfl⟩ := qbinJ_inv hs
  exact QTri.stack h fun p e R s mid args below meth c T locs cells slots C target hx hZ hby hown X hR hL k => XT.lmul X.here hx rfl (hb hby hd) rfl k
 ·obtain ⟨x, y, S', rfl, rfl⟩ := qbinJ_inv hs
  exact QTri.stack h fun p e R s mid args below meth c T locs cells slots C target hx hZ hby hown X hR hL k => XT.land X.here hx rfl (hb hby hd) rfl k
 ·obtain ⟨x, y, S', rfl, rfl⟩ := qbinJ_inv hs
  exact QTri.stack h fun p e R s mid args below meth c T locs cells slots C target hx hZ hby hown X hR hL k => XT.lor X.here hx rfl (hb hby hd) rfl k
 ·obtain ⟨x, y, S', rfl, rfl⟩ := qbinJ_inv hs
  exact QTri.stack h fun p e R s mid args below meth c T locs cells slots C target hx hZ hby hown X hR hL k => XT.lxor X.here hx rfl (hb hby hd) rfl k
 ·obtain ⟨x, y, S', rfl, rfl⟩ := qshJ_inv hs
  exact QTri.stack h fun p e R s mid args below meth c T locs cells slots C target hx hZ hby hown X hR hL k => XT.lshl X.here hx rfl (hb hby hd) rfl k
 ·obtain ⟨x, y, S', rfl, rfl⟩ := qshJ_inv hs
  exact QTri.stack h fun p e R s mid args below meth c T locs cells slots C target hx hZ hby hown X hR hL k => XT.lshr X.here hx rfl (hb hby hd) rfl k
 ·obtain ⟨x, y, S', rfl, rfl⟩ := qshJ_inv hs
  exact QTri.stack h fun p e R s mid args below meth c T locs cells slots C target hx hZ hby hown X hR hL k => XT.lushr X.here hx rfl (hb hby hd) rfl k
 ·split at hs -- lcmp
  ·cases hs
   exact QTri.stack h fun p e R s mid args below meth c T locs cells slots C target hx hZ hby hown X hR hL k => XT.lcmp X.here hx rfl (hb hby hd) rfl k
  ·cases hs
 ·cases hs -- goto
  obtain ⟨t1, t2⟩ := qtgt_spec hr
  exact QTri.stack h fun p e R s mid args below meth c T locs cells slots C target hx hZ hby hown X hR hL k => XS.goto X.here hx rfl rfl (hb hby hd) t1 t2 k
 ·obtain ⟨x, S', rfl, rfl⟩ := qif_inv hs
  obtain ⟨t1, t2⟩ := qtgt_spec hr
  cases hh : ifCond.holds _ x with
  | true => rw [hh] at h; exact QTri.stack h fun p e R s mid args below meth c T locs cells slots C target hx hZ hby hown X hR hL k => XS.ifYes X.here hx rfl rfl (hb hby hd) rfl hh t1 t2 k
  | false => rw [hh] at h; exact QTri.stack h fun p e R s mid args below meth c T locs cells slots C target hx hZ hby hown X hR hL k => XS.ifNo X.here hx rfl (hb hby hd) rfl hh k
 ·obtain ⟨x, y, S', rfl, rfl⟩ := qicmp_inv hs
  obtain ⟨t1, t2⟩ := qtgt_spec hr
  cases hh : if_icmp.holds _ x y with
  | true => rw [hh] at h; exact QTri.stack h fun p e R s mid args below meth c T locs cells slots C target hx hZ hby hown X hR hL k => XS.icmpYes X.here hx rfl rfl (hb hby hd) rfl hh t1 t2 k
  | false => rw [hh] at h; exact QTri.stack h fun p e R s mid args below meth c T locs cells slots C target hx hZ hby hown X hR hL k => XS.icmpNo X.here hx rfl (hb hby hd) rfl hh k
 ·unfold qdup at hs
  split at hs
  ·cases hs
   exact QTri.stack h fun p e R s mid args below meth c T locs cells slots C target hx hZ hby hown X hR hL k => XS.dup X.here hx rfl (hb hby hd) rfl rfl k
  ·cases hs
   exact QTri.stack h fun p e R s mid args below meth c T locs cells slots C target hx hZ hby hown X hR hL k => XS.dup X.here hx rfl (hb hby hd) rfl rfl k
  ·cases hs
 ·unfold qdup2 at hs
  split at hs
  ·cases hs
   exact QTri.stack h fun p e R s mid args below meth c T locs cells slots C target hx hZ hby hown X hR hL k => XT.dup2 X.here hx rfl (hb hby hd) rfl rfl rfl k
  ·cases hs
   exact QTri.stack h fun p e R s mid args below meth c T locs cells slots C target hx hZ hby hown X hR hL k => XT.dup2 X.here hx rfl (hb hby hd) rfl rfl rfl k
  ·cases hs
   exact QTri.stack h fun p e R s mid args below meth c T locs cells slots C target hx hZ hby hown X hR hL k => XT.dup2L X.here hx rfl (hb hby hd) rfl k
  ·cases hs
 ·unfold qpop at hs
  split at hs
  ·cases hs
   exact QTri.stack h fun p e R s mid args below meth c T locs cells slots C target hx hZ hby hown X hR hL k => XT.pop X.here hx rfl (hb hby hd) rfl rfl k
  ·cases hs
   exact QTri.stack h fun p e R s mid args below meth c T locs cells slots C target hx hZ hby hown X hR hL k => XT.pop X.here hx rfl (hb hby hd) rfl rfl k
  ·cases hs
 ·exact QTri.getfield W h hc hs
 ·exact QTri.putfield Ad W h hc hs
 ·exact QTri.iaload h hc hs
 ·exact QTri.baload h hc hs
 ·exact QTri.laload h hc hs
 ·exact QTri.iastore Ad h hc hs
 ·exact QTri.bastore Ad h hc hs
 ·exact QTri.lastore Ad h hc hs
 ·exact QTri.alen h hc hs
 ·-- newarray
  unfold qnewA at hs
  split at hs
  ·split at hs
   ·obtain ⟨k, hk, hs⟩ := Option.bind_eq_some_iff.mp hs
    cases hs
    exact QTri.newArr (c := .inr (.inl (.int, List.replicate k 0))) Ad W hk hc (by simp [qsz]) (fun h' a cA A => ⟨_, A, by simp [newA, (qnew_inv hk).2.1]; exact Or.inr rfl⟩) h
   ·obtain ⟨k, hk, hs⟩ := Option.bind_eq_some_iff.mp hs
    cases hs
    exact QTri.newArr (c := .inr (.inl (.boolean, List.replicate k 0))) Ad W hk hc (by simp [qsz]) (fun h' a cA A => ⟨_, A, by simp [newA, (qnew_inv hk).2.1]; exact Or.inr rfl⟩) h
   ·obtain ⟨k, hk, hs⟩ := Option.bind_eq_some_iff.mp hs
    cases hs
    exact QTri.newArr (c := .inr (.inl (.byte, List.replicate k 0))) Ad W hk hc (by simp [qsz]) (fun h' a cA A => ⟨_, A, by simp [newA, (qnew_inv hk).2.1]; exact Or.inr rfl⟩) h
   ·obtain ⟨k, hk, hs⟩ := Option.bind_eq_some_iff.mp hs
    cases hs
    exact QTri.newArr (c := .inr (.inr (List.replicate k 0))) Ad W hk hc (by simp [qsz]) (fun h' a cA A => ⟨_, A, by simp [newA, (qnew_inv hk).2.1]; exact Or.inr rfl⟩) h
   ·cases hs
  ·cases hs
 ·cases hs; exact QTri.newObj Ad W h hc
 ·cases hs
theorem QTri.steps (Ad : QAd n0 ad) (W : QW Z a0) : ∀ (n : Nat) {st st' : QSt}, qsteps m n st = some st' → QTri l Z n0 ad m st' v σ' → QTri l Z n0 ad m st v σ'
 | 0, st, st', h, k => by cases h; exact k
 | n + 1, st, st', h, k => by
  simp only [qsteps] at h
  split at h
  ·rename_i st₁ h1
   exact QTri.step Ad W (QTri.steps Ad W n h k) h1
  ·cases h
def lmask : List Bool → QLoc → QLoc
 | b :: t, x :: u => (bif b then x else none) :: lmask t u
 | _, L => L.map fun _ => none
theorem lmask_len : ∀ (b : List Bool) (L : QLoc), (lmask b L).length = L.length
 | [], L => by simp [lmask]
 | _ :: _, [] => by simp [lmask]
 | _ :: t, _ :: u => by simp [lmask, lmask_len t u]
theorem lmask_get : ∀ (b : List Bool) (L : QLoc) (k : Nat) (v : Value), lget (lmask b L) k = some v → lget L k = some v
 | [], L, k, v, h => by
  simp only [lmask, lget_eq, List.getElem?_map] at h
  cases hq : L[k]? <;> simp [hq] at h
 | _ :: _, [], k, v, h => by simp [lmask, lget] at h
 | b :: t, x :: u, 0, v, h => by
  simp only [lmask, lget] at h ⊢
  cases b
  ·cases h
  ·exact h
 | b :: t, x :: u, k + 1, v, h => by
  simp only [lmask, lget] at h ⊢
  exact lmask_get t u k v h
theorem QTri.mask {pc : Nat} {L : QLoc} {S : List Value} {σ : QHeap} (b : List Bool) (h : QTri l Z n0 ad m (pc, lmask b L, S, σ) v σ') : QTri l Z n0 ad m (pc, L, S, σ) v σ' :=
 QTri.frame h fun p e R s mid args below meth c T locs cells slots C hcx X hR hL hC => ⟨C, ⟨by rw [lmask_len]; exact hL.1, fun k u hk => hL.2.1 k u (lmask_get b L k u hk), hL.2.2⟩, hC, fun target k => k⟩
theorem QTri.ret0 {pc aux : Nat} {L : QLoc} {σ : QHeap} (hc : pCode m pc = some (.return_, aux)) (hr : pRet m = none) : QTri l Z n0 ad m (pc, L, [], σ) none σ :=
 have hd : decode (pBytes m) pc = .ok (.return_, 1) := pDecN hc rfl
 ⟨Nat.le_refl _, Nat.le_refl _, fun p e R s mid args below meth c T locs cells slots C hcx X hR hF hL hC hn hc1 hsl => ⟨T, locs, by simpa using X, hR, hF, fun fs hf => X.returnOut hcx.1 (hcx.2.2.2.2.1.trans hr) (hb hcx.2.2.1 hd) hf⟩⟩
theorem QTri.retI {pc aux : Nat} {L : QLoc} {S : List Value} {σ : QHeap} {x : Int32} (hc : pCode m pc = some (.ireturn, aux)) (hr : pRet m = some .int) : QTri l Z n0 ad m (pc, L, .int x :: S, σ) (some (.int x)) σ :=
 have hd : decode (pBytes m) pc = .ok (.ireturn, 1) := pDecN hc rfl
 ⟨Nat.le_refl _, Nat.le_refl _, fun p e R s mid args below meth c T locs cells slots C hcx X hR hF hL hC hn hc1 hsl => ⟨T, locs, by simpa using X, hR, hF, fun fs hf => Jvm.RoadKit.retI X hcx.1 (hcx.2.2.2.2.1.trans hr) (hb hcx.2.2.1 hd) hf⟩⟩
theorem QTri.retZ {pc aux : Nat} {L : QLoc} {S : List Value} {σ : QHeap} {x : Int32} (hc : pCode m pc = some (.ireturn, aux)) (hr : pRet m = some .boolean) : QTri l Z n0 ad m (pc, L, .int x :: S, σ) (some (.int (x &&& 1))) σ :=
 have hd : decode (pBytes m) pc = .ok (.ireturn, 1) := pDecN hc rfl
 ⟨Nat.le_refl _, Nat.le_refl _, fun p e R s mid args below meth c T locs cells slots C hcx X hR hF hL hC hn hc1 hsl => ⟨T, locs, by simpa using X, hR, hF, fun fs hf => retN X hcx.1 (t := .boolean) (hcx.2.2.2.2.1.trans hr) (by simp) (hb hcx.2.2.1 hd) hf⟩⟩
theorem QTri.retJ {pc aux : Nat} {L : QLoc} {S : List Value} {σ : QHeap} {x : Int64} (hc : pCode m pc = some (.lreturn, aux)) (hr : pRet m = some .long) : QTri l Z n0 ad m (pc, L, .long x :: S, σ) (some (.long x)) σ :=
 have hd : decode (pBytes m) pc = .ok (.lreturn, 1) := pDecN hc rfl
 ⟨Nat.le_refl _, Nat.le_refl _, fun p e R s mid args below meth c T locs cells slots C hcx X hR hF hL hC hn hc1 hsl => ⟨T, locs, by simpa using X, hR, hF, fun fs hf => retOut X hcx.1 (t := .long) (hcx.2.2.2.2.1.trans hr) rfl (Or.inr (Or.inl ⟨rfl, rfl, _, rfl⟩)) (hb hcx.2.2.1 hd) hf⟩⟩
def LOk (ad : Nat → Addr) (L : QLoc) (C : List Slot) : Prop :=
 L.length = C.length ∧ (∀ k v, lget L k = some v → C[k]? = some (.val (qv ad v))) ∧ (∀ k w, C[k]? = some (.val w) → w.category = 2 → C[k + 1]? = some .second) ∧ ∀ k, C[k]? = some .second → ∃ j w, k = j + 1 ∧ C[j]? = some (.val w) ∧ w.category = 2
theorem LOk.base (ad : Nat → Addr) (n : Nat) : LOk ad (List.replicate n none) (List.replicate n .unset) := by
 refine ⟨by simp, fun k u h => ?_, fun k w h => ?_, fun k h => ?_⟩
 ·rw [lget_eq] at h
  rcases Nat.lt_or_ge k n with q | q
  ·simp [List.getElem?_replicate, q] at h
  ·simp [List.getElem?_eq_none, q] at h
 ·rcases Nat.lt_or_ge k n with q | q
  ·simp [List.getElem?_replicate, q] at h
  ·simp [List.getElem?_eq_none, q] at h
 ·rcases Nat.lt_or_ge k n with q | q
  ·simp [List.getElem?_replicate, q] at h
  ·simp [List.getElem?_eq_none, q] at h
theorem LOk.one {L : QLoc} {C : List Slot} (H : LOk ad L C) {u : Value} (hu : u.category = 1) : LOk ad (some u :: L) (.val (qv ad u) :: C) := by
 obtain ⟨h1, h2, h3, h4⟩ := H
 refine ⟨by simp [h1], fun k w h => ?_, fun k w h hw => ?_, fun k h => ?_⟩
 ·cases k with
  | zero => simp only [lget] at h; cases h; simp
  | succ k => simp only [lget] at h; simpa using h2 k w h
 ·cases k with
  | zero => simp at h; rw [← h, qv_cat, hu] at hw; cases hw
  | succ k => simpa using h3 k w (by simpa using h) hw
 ·cases k with
  | zero => simp at h
  | succ k =>
   obtain ⟨j, w, z1, z2, z3⟩ := h4 k (by simpa using h)
   exact ⟨j + 1, w, by omega, by simpa using z2, z3⟩
theorem LOk.two {L : QLoc} {C : List Slot} (H : LOk ad L C) {u : Value} (hu : u.category = 2) : LOk ad (some u :: none :: L) (.val (qv ad u) :: .second :: C) := by
 obtain ⟨h1, h2, h3, h4⟩ := H
 refine ⟨by simp [h1], fun k w h => ?_, fun k w h hw => ?_, fun k h => ?_⟩
 ·rcases k with _ | _ | k
  ·simp only [lget] at h; cases h; simp
  ·simp [lget] at h
  ·simp only [lget] at h; simpa using h2 k w h
 ·rcases k with _ | _ | k
  ·simp
  ·simp at h
  ·simpa using h3 k w (by simpa using h) hw
 ·rcases k with _ | _ | k
  ·simp at h
  ·exact ⟨0, qv ad u, rfl, by simp, by rw [qv_cat]; exact hu⟩
  ·obtain ⟨j, w, z1, z2, z3⟩ := h4 k (by simpa using h)
   exact ⟨j + 2, w, by omega, by simpa using z2, z3⟩
def slotsOf (u : Value) : List Slot := if u.category = 2 then [.val u, .second] else [.val u]
theorem fold_slots : ∀ (as : List Value) (acc : Array Slot), (as.foldl (fun acc v => if v.category = 2 then (acc.push (.val v)).push .second else acc.push (.val v)) acc).toList = acc.toList ++ as.flatMap slotsOf
 | [], acc => by simp
 | u :: t, acc => by
  rw [List.foldl_cons, fold_slots t]
  by_cases hc : u.category = 2 <;> simp [slotsOf, hc]
theorem slots_len : ∀ (as : List Value), (as.flatMap slotsOf).length = (as.map fun v => v.category).sum
 | [] => rfl
 | u :: t => by
  rw [List.flatMap_cons, List.length_append, slots_len t, List.map_cons, List.sum_cons]
  cases u <;> simp [slotsOf, Value.category]
theorem cats_qv (as : List Value) : ((as.map (qv ad)).map fun v => v.category).sum = (as.map fun v => v.category).sum := by
 rw [List.map_map]
 congr 1
 exact List.map_congr_left fun x _ => qv_cat ad x
theorem entry_list : ∀ (as : List Value) (n : Nat), LOk ad ((as.flatMap fun v => match v with | .long x => [some (.long x), none] | .double x => [some (.double x), none] | v => [some v]) ++ List.replicate n none) ((as.map (qv ad)).flatMap slotsOf ++ List.replicate n .unset)
 | [], n => by simpa using LOk.base ad n
 | u :: t, n => by
  have ih := entry_list t n
  cases u with
  | long x => exact LOk.two ih rfl
  | double x => exact LOk.two ih rfl
  | int x => exact LOk.one ih rfl
  | float x => exact LOk.one ih rfl
  | null => exact LOk.one ih rfl
  | ref x => exact LOk.one ih rfl
  | retAddr x => exact LOk.one ih rfl
theorem qentry_ok (as : List Value) (mx : Nat) (h : (as.map fun v => v.category).sum ≤ mx) : QLocOk ad (qentry as mx) (argsToLocals (as.map (qv ad)).toArray mx) ∧ (argsToLocals (as.map (qv ad)).toArray mx).size = mx := by
 have e : (argsToLocals (as.map (qv ad)).toArray mx).toList = (as.map (qv ad)).flatMap slotsOf ++ List.replicate (mx - (as.map fun v => v.category).sum) .unset := by
  unfold argsToLocals
  have q := fold_slots (as.map (qv ad)) #[]
  simp only [List.foldl_toArray', Array.toList_append, Array.toList_replicate]
  have q2 : ((as.map (qv ad)).foldl (fun (acc : Array Slot) (v : Value) => if v.category = 2 then (acc.push (.val v)).push .second else acc.push (.val v)) #[]).size = (as.map fun v => v.category).sum := by
   rw [← Array.length_toList, q]
   simp only [List.nil_append]
   rw [slots_len, cats_qv]
  rw [q, q2]
  simp
 have H := entry_list (ad := ad) as (mx - (as.map fun v => v.category).sum)
 rw [← e] at H
 obtain ⟨h1, h2, h3, h4⟩ := H
 have hs : (argsToLocals (as.map (qv ad)).toArray mx).size = mx := by
  rw [← Array.length_toList, e, List.length_append, slots_len, cats_qv, List.length_replicate]
  omega
 refine ⟨⟨h1.trans Array.length_toList, fun k u hk => ?_, fun k w hk hw => ?_, fun k hk => ?_⟩, hs⟩
 ·have := h2 k u hk; rwa [Array.getElem?_toList] at this
 ·have := h3 k w (by rw [Array.getElem?_toList]; exact hk) hw; rwa [Array.getElem?_toList] at this
 ·obtain ⟨j, w, z1, z2, z3⟩ := h4 k (by rw [Array.getElem?_toList]; exact hk)
  exact ⟨j, w, z1, by rwa [Array.getElem?_toList] at z2, z3⟩
set_option maxHeartbeats 4000000 in
theorem QTri.met {k : Nat} {as : List Value} {σ σ₁ : QHeap} {w : Option Value} {h0 : Heap} (hk : k < pN) (h : QTri l Z n0 ad k (0, qentry as (pMaxL k), [], σ) w σ₁) (hR : QRep Z n0 ad h0 σ) (hlen : (as.map fun v => v.category).sum ≤ pMaxL k) (hret : pRet k = none → w = none) (ws : List Jvm.Cond) {rm : Room}
  (r1 : pFr k ≤ rm.frames) (r2 : pLo k ≤ rm.locals) (r3 : σ₁.length - σ.length ≤ rm.cells) (r4 : qhs σ₁ - qhs σ ≤ rm.slots) :
  MetFree l (pName k) (head1 (Jvm.Cond.code (pName k) (pBytes k) (pMaxL k) (pRet k) :: ws) rm) (fun a U => a = (as.map (qv ad)).toArray ∧ Z.Warmed39 U.vm ∧ U.heap = h0) (fun _ _ _ _ _ => True)
   (fun _ U o U' => ∃ v L, o = .returned v ∧ (v = w.map (qv ad) ∧ QRep Z n0 ad U'.heap σ₁ ∧ Fr n0 L) ∧ FrameEnd U o U' L (σ₁.length - σ.length) (qhs σ₁ - qhs σ)) := by
 refine MetFree.of_bodySF (plainFor_of_name (kPlain _ (pKlt k hk))) hisR ?_
 intro p e s mid args below meth c s₁ Bd hml0 hP hK
 obtain ⟨rfl, hZ, hh⟩ := hP
 have e0 : s₁.heap = h0 := by rw [← hh, Bd.state]; rfl
 obtain ⟨hl1, hl2⟩ := qentry_ok (ad := ad) as (pMaxL k) hlen
 have hX : Stand p l e rm s mid (as.map (qv ad)).toArray below meth c s₁ [] 0 0 := Stand.of_body Bd
 obtain ⟨T', locs', X', R', F', S'⟩ := h.2.2 p e rm s mid _ below meth c s₁ [] 0 0 _ ⟨Bd.exec, hZ, Bd.bytes, hml0, Bd.returns, findClass_of_methodNamed Bd.named, (name_of_methodNamed Bd.named Bd.method).1, r1, r2⟩ hX (by rw [e0]; exact hR) (Fr.nil _) hl1 (hl2.trans hml0.symm) (by rw [hh, Nat.add_zero]; exact hR.2.1.symm) (by rw [Nat.zero_add]; exact r3) (by rw [Nat.zero_add]; exact r4)
 obtain ⟨fs, hr, hrun, hended, hW, hsame⟩ := X'.leave (v := w.map (qv ad)) (fun q => by rw [hret (Bd.returns.symm.trans q)]; rfl)
 refine ⟨_, _, S' fs hr, hrun, hended, _, _, rfl, ⟨rfl, R', F'⟩, ⟨_, rfl⟩, hW, ?_⟩
 simp only [Nat.zero_add] at hsame
 exact hsame
theorem QTri.room {k : Nat} {σ σ₁ : QHeap} {rest : List Value} {R : Room} (hroom : (Nat.ble (pFr k + 1) (pFr m) && Nat.ble ((rest.map fun v => v.category).sum + (pMaxL k + 11) + pLo k) (pLo m)) = true) (hfr : pFr m ≤ R.frames) (hlo : pLo m ≤ R.locals) :
  pFr k + 1 ≤ R.frames ∧ (rest.map fun v => v.category).sum + (pMaxL k + 11) + pLo k ≤ R.locals := by
 obtain ⟨q1, q2⟩ := Bool.and_eq_true_iff.mp hroom
 exact ⟨Nat.le_trans (Nat.le_of_ble_eq_true q1) hfr, Nat.le_trans (Nat.le_of_ble_eq_true q2) hlo⟩
theorem sig_len {k : Nat} (hk : k < pN) {as : List Value} (hna : as.length = pNA k) : ∀ sig, parseMethodDescriptor (pName k).desc = some sig → (as.map (qv ad)).length = sig.parameters.length := fun sig hs => by
 have q := pSig k hk
 rw [show parseMethodDescriptor (pDs k) = some sig from hs] at q
 simp at q
 simp [hna, q]
theorem ret_map (w : Option Value) (rest : List Value) : (w.toList ++ rest).map (qv ad) = (w.map (qv ad)).toList ++ rest.map (qv ad) := by cases w <;> simp
theorem QTri.after {as0 : List Value} {pc : Nat} {L : QLoc} {S rest : List Value} {σ σ₁ : QHeap} {w : Option Value} {k : Nat} (hcal : QTri l Z n0 ad k (0, qentry as0 (pMaxL k), [], σ) w σ₁) (h : QTri l Z n0 ad m (pc + 3, L, w.toList ++ rest, σ₁) v σ')
  (hs : ∀ (p : Program) (e : Env) (R : Room) (s : State) (mid : MethodId) (args : Array Value) (below : List Frame) (meth : Method) (c : Code) (T : State) (locs : List Loc) (cells slots : Nat) (C : Array Slot),
   QCx Z p R s mid meth c m → Stand p l e R s mid args below meth c T locs cells slots → QRep Z n0 ad T.heap σ → C.size = c.maxLocals → cells + (σ₁.length - σ.length) ≤ R.cells → slots + (qhs σ₁ - qhs σ) ≤ R.slots →
   ∃ T₁ Lc, Stand p l e R s mid args below meth c T₁ (locs ++ Lc) (cells + (σ₁.length - σ.length)) (slots + (qhs σ₁ - qhs σ)) ∧ QRep Z n0 ad T₁.heap σ₁ ∧ Fr n0 Lc ∧
    ∀ target, Steps p.tables e below (T₁.setTop (mkF mid (pc + 3) C ((w.map (qv ad)).toList ++ rest.map (qv ad)))) target → Steps p.tables e below (T.setTop (mkF mid pc C (S.map (qv ad)))) target) :
  QTri l Z n0 ad m (pc, L, S, σ) v σ' := by
 refine QTri.gen h hcal.1 hcal.2.1 fun p e R s mid args below meth c T locs cells slots C hcx X hR hF hL hC hn hc1 hsl => ?_
 obtain ⟨T₁, Lc, X₁, R₁, F₁, st⟩ := hs p e R s mid args below meth c T locs cells slots C hcx X hR hC hc1 hsl
 refine ⟨T₁, locs ++ Lc, C, X₁, R₁, hF.app F₁, hL, hC, fun target q => st target ?_⟩
 rw [← ret_map]
 exact q
set_option maxHeartbeats 4000000 in
theorem QTri.callV (W : QW Z a0) {pc idx k a : Nat} {L : QLoc} {S as rest vs : List Value} {σ σ₁ : QHeap} {w : Option Value} (hc : pCode m pc = some (.invokevirtual idx, k)) (hm : (lkV.contains (pK m, idx, k) && mV.contains k) = true) (hcell : hget σ a = some (.inl vs)) (hS : S = as.reverse ++ .ref a :: rest)
  (hna : as.length = pNA k) (hlen : Nat.ble (((Value.ref a :: as).map fun v => v.category).sum) (pMaxL k) = true) (hroom : (Nat.ble (pFr k + 1) (pFr m) && Nat.ble ((rest.map fun v => v.category).sum + (pMaxL k + 11) + pLo k) (pLo m)) = true) (hrb : (w.isNone || (pRet k).isSome) = true)
  (hcal : QTri l Z n0 ad k (0, qentry (.ref a :: as) (pMaxL k), [], σ) w σ₁) (h : QTri l Z n0 ad m (pc + 3, L, w.toList ++ rest, σ₁) v σ') : QTri l Z n0 ad m (pc, L, S, σ) v σ' := by
 have hd : decode (pBytes m) pc = .ok (.invokevirtual idx, 3) := pDecN hc rfl
 subst hS
 obtain ⟨m1, m2⟩ := Bool.and_eq_true_iff.mp hm
 have m1 := mem_of_contains m1
 have m2 := mem_of_contains m2
 have hkA := (mVlt k m2).1
 have hkN := mAlt k hkA
 have hret : pRet k = none → w = none := fun q => by
  rw [q] at hrb
  cases w with
  | none => rfl
  | some w => simp at hrb
 refine QTri.after hcal h fun p e R s mid args below meth c T locs cells slots C hcx X hR hC hc1 hsl => ?_
 obtain ⟨hx, hZ, hby, hml, hret', hown, hnm, hfr, hlo⟩ := hcx
 have hd2 : decode c.code pc = .ok (.invokevirtual idx, 3) := by rw [hby]; exact hd
 obtain ⟨f1, f2⟩ := QTri.room (σ := σ) (σ₁ := σ₁) hroom hfr hlo
 obtain ⟨cq, kq, q1, q2, q3⟩ := isOf hZ rfl (hR.2.2 _ _ hcell).1
 obtain ⟨w1, w2, w3⟩ := (qw_vi W) k m2
 obtain ⟨c1, c2⟩ := (qw_cod W) k hkA
 obtain ⟨_, _, ⟨T₁, L₁, k₁, n₁⟩, -, X₁, ⟨Lc, ⟨rfl, hR1, hF1⟩, l₁, y₁, z₁⟩, st⟩ := X.virtualBack hx (own := kName (pK m)) (index := idx) (y := pName k) (z := pName k) hown (mvT hZ (qw_ml W (pK m, idx, k) m1)) (mvT hZ w1) (notFace_of_selects (args := #[]) (mvT hZ w2)) (mvT hZ w2) (mvT hZ w3) (pOwn _ (pKlt k hkN))
  (backOf (W := (rest.map fun v => v.category).sum) (rm := ⟨pFr k, σ₁.length - σ.length, qhs σ₁ - qhs σ, pLo k⟩) (Q := fun v h L => v = Option.map (qv ad) w ∧ QRep Z n0 ad h σ₁ ∧ Fr n0 L) (QTri.met hkN hcal hR (Nat.le_of_ble_eq_true hlen) hret [] (Nat.le_refl _) (Nat.le_refl _) (Nat.le_refl _) (Nat.le_refl _)) hZ c1 c2 f1 f2) q1 q3 (g := mkF mid pc C (List.map (qv ad) (as.reverse ++ .ref a :: rest))) rfl hC (Steps.refl _) (argsL := as.map (qv ad)) (rest := rest.map (qv ad)) (sig_len hkN hna) (by simp [qv]) (by show 2 * 0 + _ ≤ _; rw [cats_qv]; omega) hd2 (fun _ _ => ⟨rfl, rfl, hc1, hsl⟩)
 dsimp only [Pt.U, Pt.locs, Pt.cells, Pt.slots] at X₁ l₁ y₁ z₁ st hR1
 subst l₁ y₁ z₁
 exact ⟨T₁, Lc, X₁, hR1, hF1, fun target q => st.trans q⟩
set_option maxHeartbeats 4000000 in
theorem QTri.callI (W : QW Z a0) {pc idx k a : Nat} {L : QLoc} {S as rest : List Value} {σ σ₁ : QHeap} (hc : pCode m pc = some (.invokespecial idx, k)) (hm : (lkV.contains (pK m, idx, k) && mI.contains k) = true) (hS : S = as.reverse ++ .ref a :: rest)
  (hna : as.length = pNA k) (hlen : Nat.ble (((Value.ref a :: as).map fun v => v.category).sum) (pMaxL k) = true) (hroom : (Nat.ble (pFr k + 1) (pFr m) && Nat.ble ((rest.map fun v => v.category).sum + (pMaxL k + 11) + pLo k) (pLo m)) = true)
  (hcal : QTri l Z n0 ad k (0, qentry (.ref a :: as) (pMaxL k), [], σ) none σ₁) (h : QTri l Z n0 ad m (pc + 3, L, rest, σ₁) v σ') : QTri l Z n0 ad m (pc, L, S, σ) v σ' := by
 have hd : decode (pBytes m) pc = .ok (.invokespecial idx, 3) := pDecN hc rfl
 subst hS
 obtain ⟨m1, m2⟩ := Bool.and_eq_true_iff.mp hm
 have m1 := mem_of_contains m1
 have m2 := mem_of_contains m2
 obtain ⟨hkA, -, hin, hrt⟩ := mIlt k m2
 have hkN := mAlt k hkA
 refine QTri.after (w := none) hcal h fun p e R s mid args below meth c T locs cells slots C hcx X hR hC hc1 hsl => ?_
 obtain ⟨hx, hZ, hby, hml, hret', hown, hnm, hfr, hlo⟩ := hcx
 have hd2 : decode c.code pc = .ok (.invokespecial idx, 3) := by rw [hby]; exact hd
 obtain ⟨f1, f2⟩ := QTri.room (σ := σ) (σ₁ := σ₁) hroom hfr hlo
 obtain ⟨c1, c2⟩ := (qw_cod W) k hkA
 have c1' := c1
 rw [hrt] at c1'
 obtain ⟨_, _, ⟨T₁, L₁, k₁, n₁⟩, -, X₁, ⟨Lc, ⟨rfl, hR1, hF1⟩, l₁, y₁, z₁⟩, st⟩ := X.specialBack hx (own := kName (pK m)) (index := idx) (y := pName k) hin hown (mvT hZ (qw_ml W (pK m, idx, k) m1)) (mvT hZ ((qw_ini W) k m2)) (mvT hZ c1') (pOwn _ (pKlt k hkN))
  (backOf (W := (rest.map fun v => v.category).sum) (rm := ⟨pFr k, σ₁.length - σ.length, qhs σ₁ - qhs σ, pLo k⟩) (Q := fun v h L => v = Option.map (qv ad) none ∧ QRep Z n0 ad h σ₁ ∧ Fr n0 L) (QTri.met hkN hcal hR (Nat.le_of_ble_eq_true hlen) (fun _ => rfl) [] (Nat.le_refl _) (Nat.le_refl _) (Nat.le_refl _) (Nat.le_refl _)) hZ c1 c2 f1 f2) (g := mkF mid pc C (List.map (qv ad) (as.reverse ++ .ref a :: rest))) rfl hC (Steps.refl _) (a := ad a) (argsL := as.map (qv ad)) (rest := rest.map (qv ad)) (sig_len hkN hna) (by simp [qv]) (by show 2 * 0 + _ ≤ _; rw [cats_qv]; omega) hd2 (fun _ _ => ⟨rfl, rfl, hc1, hsl⟩)
 dsimp only [Pt.U, Pt.locs, Pt.cells, Pt.slots] at X₁ l₁ y₁ z₁ st hR1
 subst l₁ y₁ z₁
 exact ⟨T₁, Lc, X₁, hR1, hF1, fun target q => st.trans q⟩
set_option maxHeartbeats 4000000 in
theorem QTri.callP (W : QW Z a0) {pc idx k a : Nat} {L : QLoc} {S as rest vs : List Value} {σ σ₁ : QHeap} {w : Option Value} (hc : pCode m pc = some (.invokevirtual idx, k)) (hm : (lkV.contains (pK m, idx, k) && mP.contains k) = true) (hcell : hget σ a = some (.inl vs)) (hS : S = as.reverse ++ .ref a :: rest)
  (hna : as.length = pNA k) (hlen : Nat.ble (((Value.ref a :: as).map fun v => v.category).sum) (pMaxL k) = true) (hroom : (Nat.ble (pFr k + 1) (pFr m) && Nat.ble ((rest.map fun v => v.category).sum + (pMaxL k + 11) + pLo k) (pLo m)) = true) (hrb : (w.isNone || (pRet k).isSome) = true)
  (hcal : QTri l Z n0 ad k (0, qentry (.ref a :: as) (pMaxL k), [], σ) w σ₁) (h : QTri l Z n0 ad m (pc + 3, L, w.toList ++ rest, σ₁) v σ') : QTri l Z n0 ad m (pc, L, S, σ) v σ' := by
 have hd : decode (pBytes m) pc = .ok (.invokevirtual idx, 3) := pDecN hc rfl
 subst hS
 obtain ⟨m1, m2⟩ := Bool.and_eq_true_iff.mp hm
 have m1 := mem_of_contains m1
 have m2 := mem_of_contains m2
 obtain ⟨hkA, hk1⟩ := mPlt k m2
 have hkN := mAlt k hkA
 have hret : pRet k = none → w = none := fun q => by
  rw [q] at hrb
  cases w with
  | none => rfl
  | some w => simp at hrb
 refine QTri.after hcal h fun p e R s mid args below meth c T locs cells slots C hcx X hR hC hc1 hsl => ?_
 obtain ⟨hx, hZ, hby, hml, hret', hown, hnm, hfr, hlo⟩ := hcx
 have hd2 : decode c.code pc = .ok (.invokevirtual idx, 3) := by rw [hby]; exact hd
 obtain ⟨f1, f2⟩ := QTri.room (σ := σ) (σ₁ := σ₁) hroom hfr hlo
 obtain ⟨cell, h1, h2⟩ := (hR.2.2 _ _ hcell).1.cell
 obtain ⟨w1, w2⟩ := (qw_pr W) k m2
 obtain ⟨c1, c2⟩ := (qw_cod W) k hkA
 have hpr : s.PrivateAt (pName k) := Cond.privateMethod_at (mvP hZ w2 (args := #[]))
 obtain ⟨cC, kC, i1, i2, i3, i4⟩ := Cond.instantiable_spec (args := #[]) (mvT hZ (qw_inst W))
 have hsel : (Cond.selects (pName k).cls (pName k) (pName k)).before args s = true := selects_self_of_private (c := cC) (k := kC) (by show s.vm.findClass (kName (pK k)) = _; rw [hk1]; exact i1) i2 (by have q := i4.1; cases hq : kC.isInterface with | false => rfl | true => rw [hq] at q; simp at q) hpr (mvT hZ w1) (pOwn _ (pKlt k hkN))
 obtain ⟨_, _, ⟨T₁, L₁, k₁, n₁⟩, -, X₁, ⟨Lc, ⟨rfl, hR1, hF1⟩, l₁, y₁, z₁⟩, st⟩ := X.privateBack hx (own := kName (pK m)) (index := idx) (y := pName k) hown (mvT hZ (qw_ml W (pK m, idx, k) m1)) (mvT hZ w1) hsel hpr (mvT hZ c1) (pOwn _ (pKlt k hkN))
  (backOf (W := (rest.map fun v => v.category).sum) (rm := ⟨pFr k, σ₁.length - σ.length, qhs σ₁ - qhs σ, pLo k⟩) (Q := fun v h L => v = Option.map (qv ad) w ∧ QRep Z n0 ad h σ₁ ∧ Fr n0 L) (QTri.met hkN hcal hR (Nat.le_of_ble_eq_true hlen) hret [] (Nat.le_refl _) (Nat.le_refl _) (Nat.le_refl _) (Nat.le_refl _)) hZ c1 c2 f1 f2) (g := mkF mid pc C (List.map (qv ad) (as.reverse ++ .ref a :: rest))) rfl hC (Steps.refl _) (a := ad a) h1 h2 (argsL := as.map (qv ad)) (rest := rest.map (qv ad)) (sig_len hkN hna) (by simp [qv]) (by show 2 * 0 + _ ≤ _; rw [cats_qv]; omega) hd2 (fun _ _ => ⟨rfl, rfl, hc1, hsl⟩)
 dsimp only [Pt.U, Pt.locs, Pt.cells, Pt.slots] at X₁ l₁ y₁ z₁ st hR1
 subst l₁ y₁ z₁
 exact ⟨T₁, Lc, X₁, hR1, hF1, fun target q => st.trans q⟩
set_option maxHeartbeats 4000000 in
theorem QTri.callS (W : QW Z a0) {pc idx k : Nat} {L : QLoc} {S as rest : List Value} {σ σ₁ : QHeap} {w : Option Value} (hc : pCode m pc = some (.invokestatic idx, k)) (hm : (lkV.contains (pK m, idx, k) && mS.contains k) = true) (hS : S = as.reverse ++ rest)
  (hna : as.length = pNA k) (hlen : Nat.ble ((as.map fun v => v.category).sum) (pMaxL k) = true) (hroom : (Nat.ble (pFr k + 1) (pFr m) && Nat.ble ((rest.map fun v => v.category).sum + (pMaxL k + 11) + pLo k) (pLo m)) = true) (hrb : (w.isNone || (pRet k).isSome) = true)
  (hcal : QTri l Z n0 ad k (0, qentry as (pMaxL k), [], σ) w σ₁) (h : QTri l Z n0 ad m (pc + 3, L, w.toList ++ rest, σ₁) v σ') : QTri l Z n0 ad m (pc, L, S, σ) v σ' := by
 have hd : decode (pBytes m) pc = .ok (.invokestatic idx, 3) := pDecN hc rfl
 subst hS
 obtain ⟨m1, m2⟩ := Bool.and_eq_true_iff.mp hm
 have m1 := mem_of_contains m1
 have m2 := mem_of_contains m2
 have hkA := mSlt k m2
 have hkN := mAlt k hkA
 have hret : pRet k = none → w = none := fun q => by
  rw [q] at hrb
  cases w with
  | none => rfl
  | some w => simp at hrb
 refine QTri.after hcal h fun p e R s mid args below meth c T locs cells slots C hcx X hR hC hc1 hsl => ?_
 obtain ⟨hx, hZ, hby, hml, hret', hown, hnm, hfr, hlo⟩ := hcx
 have hd2 : decode c.code pc = .ok (.invokestatic idx, 3) := by rw [hby]; exact hd
 obtain ⟨f1, f2⟩ := QTri.room (σ := σ) (σ₁ := σ₁) hroom hfr hlo
 obtain ⟨c1, c2⟩ := (qw_cod W) k hkA
 obtain ⟨_, _, ⟨T₁, L₁, k₁, n₁⟩, -, X₁, ⟨Lc, ⟨rfl, hR1, hF1⟩, l₁, y₁, z₁⟩, st⟩ := Jvm.LawKit.callS X hx (own := kName (pK m)) (index := idx) (y := pName k) hown (mvT hZ (qw_ml W (pK m, idx, k) m1)) (mvT hZ ((qw_st W) k m2)) (mvT hZ c2) (mvT hZ c1) (pOwn _ (pKlt k hkN))
  (backOf (W := (rest.map fun v => v.category).sum) (rm := ⟨pFr k, σ₁.length - σ.length, qhs σ₁ - qhs σ, pLo k⟩) (Q := fun v h L => v = Option.map (qv ad) w ∧ QRep Z n0 ad h σ₁ ∧ Fr n0 L) (QTri.met hkN hcal hR (Nat.le_of_ble_eq_true hlen) hret [] (Nat.le_refl _) (Nat.le_refl _) (Nat.le_refl _) (Nat.le_refl _)) hZ c1 c2 f1 f2) (g := mkF mid pc C (List.map (qv ad) (as.reverse ++ rest))) rfl hC (argsL := as.map (qv ad)) (rest := rest.map (qv ad)) (sig_len hkN hna) (by simp) (by show 2 * 0 + _ ≤ _; rw [cats_qv]; omega) hd2 (fun _ _ => ⟨rfl, rfl, hc1, hsl⟩)
 dsimp only [Pt.U, Pt.locs, Pt.cells, Pt.slots] at X₁ l₁ y₁ z₁ st hR1
 subst l₁ y₁ z₁
 exact ⟨T₁, Lc, X₁, hR1, hF1, fun target q => st target q⟩
set_option maxHeartbeats 4000000 in
theorem QTri.callO (W : QW Z a0) {pc idx k a : Nat} {L : QLoc} {rest : List Value} {σ : QHeap} (hc : pCode m pc = some (.invokespecial idx, k)) (hm : lkO.contains (pK m, idx) = true) (hroom : (Nat.ble 1 (pFr m) && Nat.ble ((rest.map fun v => v.category).sum + 12) (pLo m)) = true)
  (h : QTri l Z n0 ad m (pc + 3, L, rest, σ) v σ') : QTri l Z n0 ad m (pc, L, .ref a :: rest, σ) v σ' :=
 have hd : decode (pBytes m) pc = .ok (.invokespecial idx, 3) := pDecN hc rfl
 QTri.pure h rfl fun p e R s mid args below meth c T locs cells slots C hcx X hR hL hC => by
  obtain ⟨hx, hZ, hby, hml, hret', hown, hnm, hfr, hlo⟩ := hcx
  have hd2 : decode c.code pc = .ok (.invokespecial idx, 3) := by rw [hby]; exact hd
  obtain ⟨q1, q2⟩ := Bool.and_eq_true_iff.mp hroom
  obtain ⟨T₁, X₁, e₁, st⟩ := initO X hx hZ hown (idx := idx) (qw_mo W (pK m, idx) (mem_of_contains hm)) ((qw_oi W)) ((qw_oc W)) rfl (g := mkF mid pc C (List.map (qv ad) (.ref a :: rest))) rfl hC rfl hd2 (Nat.le_trans (Nat.le_of_ble_eq_true q1) hfr) (W := (rest.map fun v => v.category).sum) (by show 2 * 0 + _ ≤ _; rw [cats_qv]; omega) (Nat.le_trans (Nat.le_of_ble_eq_true q2) hlo)
  exact ⟨T₁, C, X₁, e₁, hL, hC, st⟩
theorem QTri.brT (Ad : QAd n0 ad) (W : QW Z a0) {st : QSt} {t f : Nat} {L : QLoc} {S : List Value} {σ : QHeap} {b : Bool} (hs : qstep m st = some (bif b then t else f, L, S, σ)) (hb : b = true) (h : QTri l Z n0 ad m (t, L, S, σ) v σ') : QTri l Z n0 ad m st v σ' := by
 subst hb; exact QTri.step Ad W h hs
theorem QTri.brF (Ad : QAd n0 ad) (W : QW Z a0) {st : QSt} {t f : Nat} {L : QLoc} {S : List Value} {σ : QHeap} {b : Bool} (hs : qstep m st = some (bif b then t else f, L, S, σ)) (hb : b = false) (h : QTri l Z n0 ad m (f, L, S, σ) v σ') : QTri l Z n0 ad m st v σ' := by
 subst hb; exact QTri.step Ad W h hs
theorem QTri.bnd {α : Type} (Ad : QAd n0 ad) (W : QW Z a0) {st : QSt} {x : Option α} {f : α → QSt} {a : α} (hs : qstep m st = x.bind fun v => some (f v)) (hx : x = some a) (h : QTri l Z n0 ad m (f a) v σ') : QTri l Z n0 ad m st v σ' :=
 QTri.step Ad W h (by rw [hs, hx]; rfl)
theorem QTri.bndB (Ad : QAd n0 ad) (W : QW Z a0) {st : QSt} {x y : Int32} {g : Value → QSt} (hs : qstep m st = ((qboo x).bind fun y => some (Value.int y)).bind fun w => some (g w)) (hx : qboo x = some y) (h : QTri l Z n0 ad m (g (.int y)) v σ') : QTri l Z n0 ad m st v σ' :=
 QTri.step Ad W h (by rw [hs, hx]; rfl)
end Triples
theorem qite {α : Type} {c : Prop} [Decidable c] {a b : Option α} {r : α} (h : (if c then a else b) = some r) : (c ∧ a = some r) ∨ (¬ c ∧ b = some r) := by
 by_cases hc : c
 ·exact Or.inl ⟨hc, by rwa [if_pos hc] at h⟩
 ·exact Or.inr ⟨hc, by rwa [if_neg hc] at h⟩
def qN : Nat := 4000
def loopN {V E : Type} (B : V → Option (E ⊕ V)) : Nat → V → Option E
 | 0, _ => none
 | n + 1, v => match B v with
  | none => none
  | some (.inl e) => some e
  | some (.inr v') => loopN B n v'
theorem loopN_tri {V E : Type} {B : V → Option (E ⊕ V)} {T : V → Prop} {KE : E → Prop} (hB : ∀ v r, B v = some r → (∀ e, r = .inl e → KE e) → (∀ v', r = .inr v' → T v') → T v) : ∀ (n : Nat) (v : V) (e : E), loopN B n v = some e → KE e → T v
 | 0, _, _, h, _ => by cases h
 | n + 1, v, e, h, k => by
  simp only [loopN] at h
  split at h
  ·cases h
  ·rename_i e' he
   cases h
   exact hB v _ he (fun e q => by cases q; exact k) (fun v' q => by cases q)
  ·rename_i v' he
   exact hB v _ he (fun e q => by cases q) (fun v'' q => by cases q; exact loopN_tri hB n v' e h k)
theorem loopN_inv {V E : Type} {B : V → Option (E ⊕ V)} (I : V → Prop) (P : E → Prop) (μ : V → Nat) (hB : ∀ v, I v → (∃ e, B v = some (.inl e) ∧ P e) ∨ ∃ v', B v = some (.inr v') ∧ I v' ∧ μ v' < μ v) : ∀ (n : Nat) (v : V), I v → μ v < n → ∃ e, loopN B n v = some e ∧ P e
 | 0, _, _, h => absurd h (Nat.not_lt_zero _)
 | n + 1, v, hv, hm => by
  rcases hB v hv with ⟨e, h1, h2⟩ | ⟨v', h1, h2, h3⟩
  ·exact ⟨e, by simp only [loopN, h1], h2⟩
  ·obtain ⟨e, g1, g2⟩ := loopN_inv I P μ hB n v' h2 (by omega)
   exact ⟨e, by simp only [loopN, h1]; exact g1, g2⟩
theorem qfn {α : Type} {P : α → Prop} : ∀ t ∈ ([] : List α), P t := fun _ h => nomatch h
theorem qfc {α : Type} {P : α → Prop} {a : α} {t : List α} (h : P a) (ht : ∀ x ∈ t, P x) : ∀ x ∈ a :: t, P x := fun x hx => by rcases List.mem_cons.mp hx with rfl | q; exact h; exact ht x q
theorem QW_ok {Z : State} {a0 : Array Value} (hw : ∀ d ∈ tables_1, d.before a0 Z = true) : QW Z a0 := by
  have w0 : ∀ k ∈ List.range nF, bif fFin k then (Jvm.Cond.laysFinal cName cName (fNm k) (fDs k)).before a0 Z = true else (Jvm.Cond.lays cName cName (fNm k) (fDs k)).before a0 Z = true :=
    show ∀ k ∈ [0, 1, 2, 3, 4, 5, 6, 7, 8, 9, 10, 11, 12, 13, 14, 15, 16, 17, 18, 19, 20], bif fFin k then (Jvm.Cond.laysFinal cName cName (fNm k) (fDs k)).before a0 Z = true else (Jvm.Cond.lays cName cName (fNm k) (fDs k)).before a0 Z = true from
    (qfc (hw _ (List.mem_of_getElem? (i := 11) rfl)) (qfc (hw _ (List.mem_of_getElem? (i := 14) rfl)) (qfc (hw _ (List.mem_of_getElem? (i := 16) rfl)) (qfc (hw _ (List.mem_of_getElem? (i := 18) rfl)) (qfc (hw _ (List.mem_of_getElem? (i := 20) rfl)) (qfc (hw _ (List.mem_of_getElem? (i := 22) rfl)) (qfc (hw _ (List.mem_of_getElem? (i := 24) rfl)) (qfc (hw _ (List.mem_of_getElem? (i := 26) rfl)) (qfc (hw _ (List.mem_of_getElem? (i := 28) rfl)) (qfc (hw _ (List.mem_of_getElem? (i := 30) rfl)) (qfc (hw _ (List.mem_of_getElem? (i := 32) rfl)) (qfc (hw _ (List.mem_of_getElem? (i := 34) rfl)) (qfc (hw _ (List.mem_of_getElem? (i := 36) rfl)) (qfc (hw _ (List.mem_of_getElem? (i := 38) rfl)) (qfc (hw _ (List.mem_of_getElem? (i := 40) rfl)) (qfc (hw _ (List.mem_of_getElem? (i := 68) rfl)) (qfc (hw _ (List.mem_of_getElem? (i := 70) rfl)) (qfc (hw _ (List.mem_of_getElem? (i := 145) rfl)) (qfc (hw _ (List.mem_of_getElem? (i := 147) rfl)) (qfc (hw _ (List.mem_of_getElem? (i := 149) rfl)) (qfc (hw _ (List.mem_of_getElem? (i := 151) rfl)) qfn)))))))))))))))))))))
  refine ⟨?_, ?_, ?_, ?_, ?_, ?_, ?_, ?_, ?_, ?_, ?_, ?_, ?_, (fun k hk => w0 k (List.mem_range.mpr hk)), ?_, ?_, ?_⟩
  · exact (qfc (hw _ (List.mem_of_getElem? (i := 10) rfl)) (qfc (hw _ (List.mem_of_getElem? (i := 13) rfl)) (qfc (hw _ (List.mem_of_getElem? (i := 15) rfl)) (qfc (hw _ (List.mem_of_getElem? (i := 17) rfl)) (qfc (hw _ (List.mem_of_getElem? (i := 19) rfl)) (qfc (hw _ (List.mem_of_getElem? (i := 21) rfl)) (qfc (hw _ (List.mem_of_getElem? (i := 23) rfl)) (qfc (hw _ (List.mem_of_getElem? (i := 25) rfl)) (qfc (hw _ (List.mem_of_getElem? (i := 27) rfl)) (qfc (hw _ (List.mem_of_getElem? (i := 29) rfl)) (qfc (hw _ (List.mem_of_getElem? (i := 31) rfl)) (qfc (hw _ (List.mem_of_getElem? (i := 33) rfl)) (qfc (hw _ (List.mem_of_getElem? (i := 35) rfl)) (qfc (hw _ (List.mem_of_getElem? (i := 37) rfl)) (qfc (hw _ (List.mem_of_getElem? (i := 39) rfl)) (qfc (hw _ (List.mem_of_getElem? (i := 67) rfl)) (qfc (hw _ (List.mem_of_getElem? (i := 69) rfl)) (qfc (hw _ (List.mem_of_getElem? (i := 144) rfl)) (qfc (hw _ (List.mem_of_getElem? (i := 146) rfl)) (qfc (hw _ (List.mem_of_getElem? (i := 148) rfl)) (qfc (hw _ (List.mem_of_getElem? (i := 150) rfl)) qfn)))))))))))))))))))))
  · exact (qfc (hw _ (List.mem_of_getElem? (i := 0) rfl)) qfn)
  · exact qfn
  · exact qfn
  · exact (qfc (hw _ (List.mem_of_getElem? (i := 3) rfl)) (qfc (hw _ (List.mem_of_getElem? (i := 41) rfl)) (qfc (hw _ (List.mem_of_getElem? (i := 46) rfl)) (qfc (hw _ (List.mem_of_getElem? (i := 50) rfl)) (qfc (hw _ (List.mem_of_getElem? (i := 55) rfl)) (qfc (hw _ (List.mem_of_getElem? (i := 59) rfl)) (qfc (hw _ (List.mem_of_getElem? (i := 63) rfl)) (qfc (hw _ (List.mem_of_getElem? (i := 71) rfl)) (qfc (hw _ (List.mem_of_getElem? (i := 75) rfl)) (qfc (hw _ (List.mem_of_getElem? (i := 79) rfl)) (qfc (hw _ (List.mem_of_getElem? (i := 83) rfl)) (qfc (hw _ (List.mem_of_getElem? (i := 88) rfl)) (qfc (hw _ (List.mem_of_getElem? (i := 92) rfl)) (qfc (hw _ (List.mem_of_getElem? (i := 97) rfl)) (qfc (hw _ (List.mem_of_getElem? (i := 102) rfl)) (qfc (hw _ (List.mem_of_getElem? (i := 107) rfl)) (qfc (hw _ (List.mem_of_getElem? (i := 112) rfl)) (qfc (hw _ (List.mem_of_getElem? (i := 116) rfl)) (qfc (hw _ (List.mem_of_getElem? (i := 120) rfl)) (qfc (hw _ (List.mem_of_getElem? (i := 125) rfl)) (qfc (hw _ (List.mem_of_getElem? (i := 130) rfl)) (qfc (hw _ (List.mem_of_getElem? (i := 135) rfl)) (qfc (hw _ (List.mem_of_getElem? (i := 140) rfl)) (qfc (hw _ (List.mem_of_getElem? (i := 152) rfl)) qfn))))))))))))))))))))))))
  · exact (qfc (hw _ (List.mem_of_getElem? (i := 6) rfl)) qfn)
  · exact (qfc ⟨(hw _ (List.mem_of_getElem? (i := 42) rfl)), (hw _ (List.mem_of_getElem? (i := 44) rfl)), (hw _ (List.mem_of_getElem? (i := 43) rfl))⟩ (qfc ⟨(hw _ (List.mem_of_getElem? (i := 51) rfl)), (hw _ (List.mem_of_getElem? (i := 53) rfl)), (hw _ (List.mem_of_getElem? (i := 52) rfl))⟩ (qfc ⟨(hw _ (List.mem_of_getElem? (i := 84) rfl)), (hw _ (List.mem_of_getElem? (i := 86) rfl)), (hw _ (List.mem_of_getElem? (i := 85) rfl))⟩ (qfc ⟨(hw _ (List.mem_of_getElem? (i := 93) rfl)), (hw _ (List.mem_of_getElem? (i := 95) rfl)), (hw _ (List.mem_of_getElem? (i := 94) rfl))⟩ (qfc ⟨(hw _ (List.mem_of_getElem? (i := 98) rfl)), (hw _ (List.mem_of_getElem? (i := 100) rfl)), (hw _ (List.mem_of_getElem? (i := 99) rfl))⟩ (qfc ⟨(hw _ (List.mem_of_getElem? (i := 103) rfl)), (hw _ (List.mem_of_getElem? (i := 105) rfl)), (hw _ (List.mem_of_getElem? (i := 104) rfl))⟩ (qfc ⟨(hw _ (List.mem_of_getElem? (i := 108) rfl)), (hw _ (List.mem_of_getElem? (i := 110) rfl)), (hw _ (List.mem_of_getElem? (i := 109) rfl))⟩ (qfc ⟨(hw _ (List.mem_of_getElem? (i := 121) rfl)), (hw _ (List.mem_of_getElem? (i := 123) rfl)), (hw _ (List.mem_of_getElem? (i := 122) rfl))⟩ (qfc ⟨(hw _ (List.mem_of_getElem? (i := 126) rfl)), (hw _ (List.mem_of_getElem? (i := 128) rfl)), (hw _ (List.mem_of_getElem? (i := 127) rfl))⟩ (qfc ⟨(hw _ (List.mem_of_getElem? (i := 131) rfl)), (hw _ (List.mem_of_getElem? (i := 133) rfl)), (hw _ (List.mem_of_getElem? (i := 132) rfl))⟩ (qfc ⟨(hw _ (List.mem_of_getElem? (i := 136) rfl)), (hw _ (List.mem_of_getElem? (i := 138) rfl)), (hw _ (List.mem_of_getElem? (i := 137) rfl))⟩ (qfc ⟨(hw _ (List.mem_of_getElem? (i := 153) rfl)), (hw _ (List.mem_of_getElem? (i := 155) rfl)), (hw _ (List.mem_of_getElem? (i := 154) rfl))⟩ qfn))))))))))))
  · exact (qfc ⟨(hw _ (List.mem_of_getElem? (i := 47) rfl)), (hw _ (List.mem_of_getElem? (i := 48) rfl))⟩ (qfc ⟨(hw _ (List.mem_of_getElem? (i := 56) rfl)), (hw _ (List.mem_of_getElem? (i := 57) rfl))⟩ (qfc ⟨(hw _ (List.mem_of_getElem? (i := 60) rfl)), (hw _ (List.mem_of_getElem? (i := 61) rfl))⟩ (qfc ⟨(hw _ (List.mem_of_getElem? (i := 64) rfl)), (hw _ (List.mem_of_getElem? (i := 65) rfl))⟩ (qfc ⟨(hw _ (List.mem_of_getElem? (i := 72) rfl)), (hw _ (List.mem_of_getElem? (i := 73) rfl))⟩ (qfc ⟨(hw _ (List.mem_of_getElem? (i := 76) rfl)), (hw _ (List.mem_of_getElem? (i := 77) rfl))⟩ (qfc ⟨(hw _ (List.mem_of_getElem? (i := 80) rfl)), (hw _ (List.mem_of_getElem? (i := 81) rfl))⟩ (qfc ⟨(hw _ (List.mem_of_getElem? (i := 89) rfl)), (hw _ (List.mem_of_getElem? (i := 90) rfl))⟩ (qfc ⟨(hw _ (List.mem_of_getElem? (i := 113) rfl)), (hw _ (List.mem_of_getElem? (i := 114) rfl))⟩ (qfc ⟨(hw _ (List.mem_of_getElem? (i := 117) rfl)), (hw _ (List.mem_of_getElem? (i := 118) rfl))⟩ (qfc ⟨(hw _ (List.mem_of_getElem? (i := 141) rfl)), (hw _ (List.mem_of_getElem? (i := 142) rfl))⟩ qfn)))))))))))
  · exact qfn
  · exact (qfc (hw _ (List.mem_of_getElem? (i := 4) rfl)) qfn)
  · exact (qfc ⟨(hw _ (List.mem_of_getElem? (i := 5) rfl)), (hw _ (List.mem_of_getElem? (i := 2) rfl))⟩ (qfc ⟨(hw _ (List.mem_of_getElem? (i := 45) rfl)), (hw _ (List.mem_of_getElem? (i := 2) rfl))⟩ (qfc ⟨(hw _ (List.mem_of_getElem? (i := 49) rfl)), (hw _ (List.mem_of_getElem? (i := 2) rfl))⟩ (qfc ⟨(hw _ (List.mem_of_getElem? (i := 54) rfl)), (hw _ (List.mem_of_getElem? (i := 2) rfl))⟩ (qfc ⟨(hw _ (List.mem_of_getElem? (i := 58) rfl)), (hw _ (List.mem_of_getElem? (i := 2) rfl))⟩ (qfc ⟨(hw _ (List.mem_of_getElem? (i := 62) rfl)), (hw _ (List.mem_of_getElem? (i := 2) rfl))⟩ (qfc ⟨(hw _ (List.mem_of_getElem? (i := 66) rfl)), (hw _ (List.mem_of_getElem? (i := 2) rfl))⟩ (qfc ⟨(hw _ (List.mem_of_getElem? (i := 74) rfl)), (hw _ (List.mem_of_getElem? (i := 2) rfl))⟩ (qfc ⟨(hw _ (List.mem_of_getElem? (i := 78) rfl)), (hw _ (List.mem_of_getElem? (i := 2) rfl))⟩ (qfc ⟨(hw _ (List.mem_of_getElem? (i := 82) rfl)), (hw _ (List.mem_of_getElem? (i := 2) rfl))⟩ (qfc ⟨(hw _ (List.mem_of_getElem? (i := 87) rfl)), (hw _ (List.mem_of_getElem? (i := 2) rfl))⟩ (qfc ⟨(hw _ (List.mem_of_getElem? (i := 91) rfl)), (hw _ (List.mem_of_getElem? (i := 2) rfl))⟩ (qfc ⟨(hw _ (List.mem_of_getElem? (i := 96) rfl)), (hw _ (List.mem_of_getElem? (i := 2) rfl))⟩ (qfc ⟨(hw _ (List.mem_of_getElem? (i := 101) rfl)), (hw _ (List.mem_of_getElem? (i := 2) rfl))⟩ (qfc ⟨(hw _ (List.mem_of_getElem? (i := 106) rfl)), (hw _ (List.mem_of_getElem? (i := 2) rfl))⟩ (qfc ⟨(hw _ (List.mem_of_getElem? (i := 111) rfl)), (hw _ (List.mem_of_getElem? (i := 2) rfl))⟩ (qfc ⟨(hw _ (List.mem_of_getElem? (i := 115) rfl)), (hw _ (List.mem_of_getElem? (i := 2) rfl))⟩ (qfc ⟨(hw _ (List.mem_of_getElem? (i := 119) rfl)), (hw _ (List.mem_of_getElem? (i := 2) rfl))⟩ (qfc ⟨(hw _ (List.mem_of_getElem? (i := 124) rfl)), (hw _ (List.mem_of_getElem? (i := 2) rfl))⟩ (qfc ⟨(hw _ (List.mem_of_getElem? (i := 129) rfl)), (hw _ (List.mem_of_getElem? (i := 2) rfl))⟩ (qfc ⟨(hw _ (List.mem_of_getElem? (i := 134) rfl)), (hw _ (List.mem_of_getElem? (i := 2) rfl))⟩ (qfc ⟨(hw _ (List.mem_of_getElem? (i := 139) rfl)), (hw _ (List.mem_of_getElem? (i := 2) rfl))⟩ (qfc ⟨(hw _ (List.mem_of_getElem? (i := 143) rfl)), (hw _ (List.mem_of_getElem? (i := 2) rfl))⟩ (qfc ⟨(hw _ (List.mem_of_getElem? (i := 156) rfl)), (hw _ (List.mem_of_getElem? (i := 2) rfl))⟩ qfn))))))))))))))))))))))))
  · exact (hw _ (List.mem_of_getElem? (i := 7) rfl))
  · exact (hw _ (List.mem_of_getElem? (i := 8) rfl))
  · exact (hw _ (List.mem_of_getElem? (i := 1) rfl))
  · exact (hw _ (List.mem_of_getElem? (i := 2) rfl))
  · exact (qfc (hw _ (List.mem_of_getElem? (i := 9) rfl)) (qfc (hw _ (List.mem_of_getElem? (i := 12) rfl)) qfn))
abbrev Ob := List Int32 × List Int32 × Int32 × Int32 × Int32 × Int32 × List Int32 × List Int32 × List Int32 × List Int32 × List Int32 × List Int32 × Int32 × Int32 × Int32 × Int32 × Int32 × Int32 × Int32 × Int32 × Int32
def f_data (o : Ob) : List Int32 := o.1
def f_filled (o : Ob) : List Int32 := o.2.1
def f_rf (o : Ob) : Int32 := o.2.2.1
def f_cf (o : Ob) : Int32 := o.2.2.2.1
def f_vf (o : Ob) : Int32 := o.2.2.2.2.1
def f_ag (o : Ob) : Int32 := o.2.2.2.2.2.1
def f_fMode (o : Ob) : List Int32 := o.2.2.2.2.2.2.1
def f_fRk (o : Ob) : List Int32 := o.2.2.2.2.2.2.2.1
def f_fCk (o : Ob) : List Int32 := o.2.2.2.2.2.2.2.2.1
def f_prevVal (o : Ob) : List Int32 := o.2.2.2.2.2.2.2.2.2.1
def f_prevFound (o : Ob) : List Int32 := o.2.2.2.2.2.2.2.2.2.2.1
def f_keys (o : Ob) : List Int32 := o.2.2.2.2.2.2.2.2.2.2.2.1
def f_nRows (o : Ob) : Int32 := o.2.2.2.2.2.2.2.2.2.2.2.2.1
def f_nForms (o : Ob) : Int32 := o.2.2.2.2.2.2.2.2.2.2.2.2.2.1
def f_last (o : Ob) : Int32 := o.2.2.2.2.2.2.2.2.2.2.2.2.2.2.1
def f_gVal (o : Ob) : Int32 := o.2.2.2.2.2.2.2.2.2.2.2.2.2.2.2.1
def f_gCount (o : Ob) : Int32 := o.2.2.2.2.2.2.2.2.2.2.2.2.2.2.2.2.1
def f_selUseR (o : Ob) : Int32 := o.2.2.2.2.2.2.2.2.2.2.2.2.2.2.2.2.2.1
def f_selRk (o : Ob) : Int32 := o.2.2.2.2.2.2.2.2.2.2.2.2.2.2.2.2.2.2.1
def f_selUseC (o : Ob) : Int32 := o.2.2.2.2.2.2.2.2.2.2.2.2.2.2.2.2.2.2.2.1
def f_selCk (o : Ob) : Int32 := o.2.2.2.2.2.2.2.2.2.2.2.2.2.2.2.2.2.2.2.2
def s_data (o : Ob) (v : List Int32) : Ob := (v, o.2.1, o.2.2.1, o.2.2.2.1, o.2.2.2.2.1, o.2.2.2.2.2.1, o.2.2.2.2.2.2.1, o.2.2.2.2.2.2.2.1, o.2.2.2.2.2.2.2.2.1, o.2.2.2.2.2.2.2.2.2.1, o.2.2.2.2.2.2.2.2.2.2.1, o.2.2.2.2.2.2.2.2.2.2.2.1, o.2.2.2.2.2.2.2.2.2.2.2.2.1, o.2.2.2.2.2.2.2.2.2.2.2.2.2.1, o.2.2.2.2.2.2.2.2.2.2.2.2.2.2.1, o.2.2.2.2.2.2.2.2.2.2.2.2.2.2.2.1, o.2.2.2.2.2.2.2.2.2.2.2.2.2.2.2.2.1, o.2.2.2.2.2.2.2.2.2.2.2.2.2.2.2.2.2.1, o.2.2.2.2.2.2.2.2.2.2.2.2.2.2.2.2.2.2.1, o.2.2.2.2.2.2.2.2.2.2.2.2.2.2.2.2.2.2.2.1, o.2.2.2.2.2.2.2.2.2.2.2.2.2.2.2.2.2.2.2.2)
def s_filled (o : Ob) (v : List Int32) : Ob := (o.1, v, o.2.2.1, o.2.2.2.1, o.2.2.2.2.1, o.2.2.2.2.2.1, o.2.2.2.2.2.2.1, o.2.2.2.2.2.2.2.1, o.2.2.2.2.2.2.2.2.1, o.2.2.2.2.2.2.2.2.2.1, o.2.2.2.2.2.2.2.2.2.2.1, o.2.2.2.2.2.2.2.2.2.2.2.1, o.2.2.2.2.2.2.2.2.2.2.2.2.1, o.2.2.2.2.2.2.2.2.2.2.2.2.2.1, o.2.2.2.2.2.2.2.2.2.2.2.2.2.2.1, o.2.2.2.2.2.2.2.2.2.2.2.2.2.2.2.1, o.2.2.2.2.2.2.2.2.2.2.2.2.2.2.2.2.1, o.2.2.2.2.2.2.2.2.2.2.2.2.2.2.2.2.2.1, o.2.2.2.2.2.2.2.2.2.2.2.2.2.2.2.2.2.2.1, o.2.2.2.2.2.2.2.2.2.2.2.2.2.2.2.2.2.2.2.1, o.2.2.2.2.2.2.2.2.2.2.2.2.2.2.2.2.2.2.2.2)
def s_rf (o : Ob) (v : Int32) : Ob := (o.1, o.2.1, v, o.2.2.2.1, o.2.2.2.2.1, o.2.2.2.2.2.1, o.2.2.2.2.2.2.1, o.2.2.2.2.2.2.2.1, o.2.2.2.2.2.2.2.2.1, o.2.2.2.2.2.2.2.2.2.1, o.2.2.2.2.2.2.2.2.2.2.1, o.2.2.2.2.2.2.2.2.2.2.2.1, o.2.2.2.2.2.2.2.2.2.2.2.2.1, o.2.2.2.2.2.2.2.2.2.2.2.2.2.1, o.2.2.2.2.2.2.2.2.2.2.2.2.2.2.1, o.2.2.2.2.2.2.2.2.2.2.2.2.2.2.2.1, o.2.2.2.2.2.2.2.2.2.2.2.2.2.2.2.2.1, o.2.2.2.2.2.2.2.2.2.2.2.2.2.2.2.2.2.1, o.2.2.2.2.2.2.2.2.2.2.2.2.2.2.2.2.2.2.1, o.2.2.2.2.2.2.2.2.2.2.2.2.2.2.2.2.2.2.2.1, o.2.2.2.2.2.2.2.2.2.2.2.2.2.2.2.2.2.2.2.2)
def s_cf (o : Ob) (v : Int32) : Ob := (o.1, o.2.1, o.2.2.1, v, o.2.2.2.2.1, o.2.2.2.2.2.1, o.2.2.2.2.2.2.1, o.2.2.2.2.2.2.2.1, o.2.2.2.2.2.2.2.2.1, o.2.2.2.2.2.2.2.2.2.1, o.2.2.2.2.2.2.2.2.2.2.1, o.2.2.2.2.2.2.2.2.2.2.2.1, o.2.2.2.2.2.2.2.2.2.2.2.2.1, o.2.2.2.2.2.2.2.2.2.2.2.2.2.1, o.2.2.2.2.2.2.2.2.2.2.2.2.2.2.1, o.2.2.2.2.2.2.2.2.2.2.2.2.2.2.2.1, o.2.2.2.2.2.2.2.2.2.2.2.2.2.2.2.2.1, o.2.2.2.2.2.2.2.2.2.2.2.2.2.2.2.2.2.1, o.2.2.2.2.2.2.2.2.2.2.2.2.2.2.2.2.2.2.1, o.2.2.2.2.2.2.2.2.2.2.2.2.2.2.2.2.2.2.2.1, o.2.2.2.2.2.2.2.2.2.2.2.2.2.2.2.2.2.2.2.2)
def s_vf (o : Ob) (v : Int32) : Ob := (o.1, o.2.1, o.2.2.1, o.2.2.2.1, v, o.2.2.2.2.2.1, o.2.2.2.2.2.2.1, o.2.2.2.2.2.2.2.1, o.2.2.2.2.2.2.2.2.1, o.2.2.2.2.2.2.2.2.2.1, o.2.2.2.2.2.2.2.2.2.2.1, o.2.2.2.2.2.2.2.2.2.2.2.1, o.2.2.2.2.2.2.2.2.2.2.2.2.1, o.2.2.2.2.2.2.2.2.2.2.2.2.2.1, o.2.2.2.2.2.2.2.2.2.2.2.2.2.2.1, o.2.2.2.2.2.2.2.2.2.2.2.2.2.2.2.1, o.2.2.2.2.2.2.2.2.2.2.2.2.2.2.2.2.1, o.2.2.2.2.2.2.2.2.2.2.2.2.2.2.2.2.2.1, o.2.2.2.2.2.2.2.2.2.2.2.2.2.2.2.2.2.2.1, o.2.2.2.2.2.2.2.2.2.2.2.2.2.2.2.2.2.2.2.1, o.2.2.2.2.2.2.2.2.2.2.2.2.2.2.2.2.2.2.2.2)
def s_ag (o : Ob) (v : Int32) : Ob := (o.1, o.2.1, o.2.2.1, o.2.2.2.1, o.2.2.2.2.1, v, o.2.2.2.2.2.2.1, o.2.2.2.2.2.2.2.1, o.2.2.2.2.2.2.2.2.1, o.2.2.2.2.2.2.2.2.2.1, o.2.2.2.2.2.2.2.2.2.2.1, o.2.2.2.2.2.2.2.2.2.2.2.1, o.2.2.2.2.2.2.2.2.2.2.2.2.1, o.2.2.2.2.2.2.2.2.2.2.2.2.2.1, o.2.2.2.2.2.2.2.2.2.2.2.2.2.2.1, o.2.2.2.2.2.2.2.2.2.2.2.2.2.2.2.1, o.2.2.2.2.2.2.2.2.2.2.2.2.2.2.2.2.1, o.2.2.2.2.2.2.2.2.2.2.2.2.2.2.2.2.2.1, o.2.2.2.2.2.2.2.2.2.2.2.2.2.2.2.2.2.2.1, o.2.2.2.2.2.2.2.2.2.2.2.2.2.2.2.2.2.2.2.1, o.2.2.2.2.2.2.2.2.2.2.2.2.2.2.2.2.2.2.2.2)
def s_fMode (o : Ob) (v : List Int32) : Ob := (o.1, o.2.1, o.2.2.1, o.2.2.2.1, o.2.2.2.2.1, o.2.2.2.2.2.1, v, o.2.2.2.2.2.2.2.1, o.2.2.2.2.2.2.2.2.1, o.2.2.2.2.2.2.2.2.2.1, o.2.2.2.2.2.2.2.2.2.2.1, o.2.2.2.2.2.2.2.2.2.2.2.1, o.2.2.2.2.2.2.2.2.2.2.2.2.1, o.2.2.2.2.2.2.2.2.2.2.2.2.2.1, o.2.2.2.2.2.2.2.2.2.2.2.2.2.2.1, o.2.2.2.2.2.2.2.2.2.2.2.2.2.2.2.1, o.2.2.2.2.2.2.2.2.2.2.2.2.2.2.2.2.1, o.2.2.2.2.2.2.2.2.2.2.2.2.2.2.2.2.2.1, o.2.2.2.2.2.2.2.2.2.2.2.2.2.2.2.2.2.2.1, o.2.2.2.2.2.2.2.2.2.2.2.2.2.2.2.2.2.2.2.1, o.2.2.2.2.2.2.2.2.2.2.2.2.2.2.2.2.2.2.2.2)
def s_fRk (o : Ob) (v : List Int32) : Ob := (o.1, o.2.1, o.2.2.1, o.2.2.2.1, o.2.2.2.2.1, o.2.2.2.2.2.1, o.2.2.2.2.2.2.1, v, o.2.2.2.2.2.2.2.2.1, o.2.2.2.2.2.2.2.2.2.1, o.2.2.2.2.2.2.2.2.2.2.1, o.2.2.2.2.2.2.2.2.2.2.2.1, o.2.2.2.2.2.2.2.2.2.2.2.2.1, o.2.2.2.2.2.2.2.2.2.2.2.2.2.1, o.2.2.2.2.2.2.2.2.2.2.2.2.2.2.1, o.2.2.2.2.2.2.2.2.2.2.2.2.2.2.2.1, o.2.2.2.2.2.2.2.2.2.2.2.2.2.2.2.2.1, o.2.2.2.2.2.2.2.2.2.2.2.2.2.2.2.2.2.1, o.2.2.2.2.2.2.2.2.2.2.2.2.2.2.2.2.2.2.1, o.2.2.2.2.2.2.2.2.2.2.2.2.2.2.2.2.2.2.2.1, o.2.2.2.2.2.2.2.2.2.2.2.2.2.2.2.2.2.2.2.2)
def s_fCk (o : Ob) (v : List Int32) : Ob := (o.1, o.2.1, o.2.2.1, o.2.2.2.1, o.2.2.2.2.1, o.2.2.2.2.2.1, o.2.2.2.2.2.2.1, o.2.2.2.2.2.2.2.1, v, o.2.2.2.2.2.2.2.2.2.1, o.2.2.2.2.2.2.2.2.2.2.1, o.2.2.2.2.2.2.2.2.2.2.2.1, o.2.2.2.2.2.2.2.2.2.2.2.2.1, o.2.2.2.2.2.2.2.2.2.2.2.2.2.1, o.2.2.2.2.2.2.2.2.2.2.2.2.2.2.1, o.2.2.2.2.2.2.2.2.2.2.2.2.2.2.2.1, o.2.2.2.2.2.2.2.2.2.2.2.2.2.2.2.2.1, o.2.2.2.2.2.2.2.2.2.2.2.2.2.2.2.2.2.1, o.2.2.2.2.2.2.2.2.2.2.2.2.2.2.2.2.2.2.1, o.2.2.2.2.2.2.2.2.2.2.2.2.2.2.2.2.2.2.2.1, o.2.2.2.2.2.2.2.2.2.2.2.2.2.2.2.2.2.2.2.2)
def s_prevVal (o : Ob) (v : List Int32) : Ob := (o.1, o.2.1, o.2.2.1, o.2.2.2.1, o.2.2.2.2.1, o.2.2.2.2.2.1, o.2.2.2.2.2.2.1, o.2.2.2.2.2.2.2.1, o.2.2.2.2.2.2.2.2.1, v, o.2.2.2.2.2.2.2.2.2.2.1, o.2.2.2.2.2.2.2.2.2.2.2.1, o.2.2.2.2.2.2.2.2.2.2.2.2.1, o.2.2.2.2.2.2.2.2.2.2.2.2.2.1, o.2.2.2.2.2.2.2.2.2.2.2.2.2.2.1, o.2.2.2.2.2.2.2.2.2.2.2.2.2.2.2.1, o.2.2.2.2.2.2.2.2.2.2.2.2.2.2.2.2.1, o.2.2.2.2.2.2.2.2.2.2.2.2.2.2.2.2.2.1, o.2.2.2.2.2.2.2.2.2.2.2.2.2.2.2.2.2.2.1, o.2.2.2.2.2.2.2.2.2.2.2.2.2.2.2.2.2.2.2.1, o.2.2.2.2.2.2.2.2.2.2.2.2.2.2.2.2.2.2.2.2)
def s_prevFound (o : Ob) (v : List Int32) : Ob := (o.1, o.2.1, o.2.2.1, o.2.2.2.1, o.2.2.2.2.1, o.2.2.2.2.2.1, o.2.2.2.2.2.2.1, o.2.2.2.2.2.2.2.1, o.2.2.2.2.2.2.2.2.1, o.2.2.2.2.2.2.2.2.2.1, v, o.2.2.2.2.2.2.2.2.2.2.2.1, o.2.2.2.2.2.2.2.2.2.2.2.2.1, o.2.2.2.2.2.2.2.2.2.2.2.2.2.1, o.2.2.2.2.2.2.2.2.2.2.2.2.2.2.1, o.2.2.2.2.2.2.2.2.2.2.2.2.2.2.2.1, o.2.2.2.2.2.2.2.2.2.2.2.2.2.2.2.2.1, o.2.2.2.2.2.2.2.2.2.2.2.2.2.2.2.2.2.1, o.2.2.2.2.2.2.2.2.2.2.2.2.2.2.2.2.2.2.1, o.2.2.2.2.2.2.2.2.2.2.2.2.2.2.2.2.2.2.2.1, o.2.2.2.2.2.2.2.2.2.2.2.2.2.2.2.2.2.2.2.2)
def s_keys (o : Ob) (v : List Int32) : Ob := (o.1, o.2.1, o.2.2.1, o.2.2.2.1, o.2.2.2.2.1, o.2.2.2.2.2.1, o.2.2.2.2.2.2.1, o.2.2.2.2.2.2.2.1, o.2.2.2.2.2.2.2.2.1, o.2.2.2.2.2.2.2.2.2.1, o.2.2.2.2.2.2.2.2.2.2.1, v, o.2.2.2.2.2.2.2.2.2.2.2.2.1, o.2.2.2.2.2.2.2.2.2.2.2.2.2.1, o.2.2.2.2.2.2.2.2.2.2.2.2.2.2.1, o.2.2.2.2.2.2.2.2.2.2.2.2.2.2.2.1, o.2.2.2.2.2.2.2.2.2.2.2.2.2.2.2.2.1, o.2.2.2.2.2.2.2.2.2.2.2.2.2.2.2.2.2.1, o.2.2.2.2.2.2.2.2.2.2.2.2.2.2.2.2.2.2.1, o.2.2.2.2.2.2.2.2.2.2.2.2.2.2.2.2.2.2.2.1, o.2.2.2.2.2.2.2.2.2.2.2.2.2.2.2.2.2.2.2.2)
def s_nRows (o : Ob) (v : Int32) : Ob := (o.1, o.2.1, o.2.2.1, o.2.2.2.1, o.2.2.2.2.1, o.2.2.2.2.2.1, o.2.2.2.2.2.2.1, o.2.2.2.2.2.2.2.1, o.2.2.2.2.2.2.2.2.1, o.2.2.2.2.2.2.2.2.2.1, o.2.2.2.2.2.2.2.2.2.2.1, o.2.2.2.2.2.2.2.2.2.2.2.1, v, o.2.2.2.2.2.2.2.2.2.2.2.2.2.1, o.2.2.2.2.2.2.2.2.2.2.2.2.2.2.1, o.2.2.2.2.2.2.2.2.2.2.2.2.2.2.2.1, o.2.2.2.2.2.2.2.2.2.2.2.2.2.2.2.2.1, o.2.2.2.2.2.2.2.2.2.2.2.2.2.2.2.2.2.1, o.2.2.2.2.2.2.2.2.2.2.2.2.2.2.2.2.2.2.1, o.2.2.2.2.2.2.2.2.2.2.2.2.2.2.2.2.2.2.2.1, o.2.2.2.2.2.2.2.2.2.2.2.2.2.2.2.2.2.2.2.2)
def s_nForms (o : Ob) (v : Int32) : Ob := (o.1, o.2.1, o.2.2.1, o.2.2.2.1, o.2.2.2.2.1, o.2.2.2.2.2.1, o.2.2.2.2.2.2.1, o.2.2.2.2.2.2.2.1, o.2.2.2.2.2.2.2.2.1, o.2.2.2.2.2.2.2.2.2.1, o.2.2.2.2.2.2.2.2.2.2.1, o.2.2.2.2.2.2.2.2.2.2.2.1, o.2.2.2.2.2.2.2.2.2.2.2.2.1, v, o.2.2.2.2.2.2.2.2.2.2.2.2.2.2.1, o.2.2.2.2.2.2.2.2.2.2.2.2.2.2.2.1, o.2.2.2.2.2.2.2.2.2.2.2.2.2.2.2.2.1, o.2.2.2.2.2.2.2.2.2.2.2.2.2.2.2.2.2.1, o.2.2.2.2.2.2.2.2.2.2.2.2.2.2.2.2.2.2.1, o.2.2.2.2.2.2.2.2.2.2.2.2.2.2.2.2.2.2.2.1, o.2.2.2.2.2.2.2.2.2.2.2.2.2.2.2.2.2.2.2.2)
def s_last (o : Ob) (v : Int32) : Ob := (o.1, o.2.1, o.2.2.1, o.2.2.2.1, o.2.2.2.2.1, o.2.2.2.2.2.1, o.2.2.2.2.2.2.1, o.2.2.2.2.2.2.2.1, o.2.2.2.2.2.2.2.2.1, o.2.2.2.2.2.2.2.2.2.1, o.2.2.2.2.2.2.2.2.2.2.1, o.2.2.2.2.2.2.2.2.2.2.2.1, o.2.2.2.2.2.2.2.2.2.2.2.2.1, o.2.2.2.2.2.2.2.2.2.2.2.2.2.1, v, o.2.2.2.2.2.2.2.2.2.2.2.2.2.2.2.1, o.2.2.2.2.2.2.2.2.2.2.2.2.2.2.2.2.1, o.2.2.2.2.2.2.2.2.2.2.2.2.2.2.2.2.2.1, o.2.2.2.2.2.2.2.2.2.2.2.2.2.2.2.2.2.2.1, o.2.2.2.2.2.2.2.2.2.2.2.2.2.2.2.2.2.2.2.1, o.2.2.2.2.2.2.2.2.2.2.2.2.2.2.2.2.2.2.2.2)
def s_gVal (o : Ob) (v : Int32) : Ob := (o.1, o.2.1, o.2.2.1, o.2.2.2.1, o.2.2.2.2.1, o.2.2.2.2.2.1, o.2.2.2.2.2.2.1, o.2.2.2.2.2.2.2.1, o.2.2.2.2.2.2.2.2.1, o.2.2.2.2.2.2.2.2.2.1, o.2.2.2.2.2.2.2.2.2.2.1, o.2.2.2.2.2.2.2.2.2.2.2.1, o.2.2.2.2.2.2.2.2.2.2.2.2.1, o.2.2.2.2.2.2.2.2.2.2.2.2.2.1, o.2.2.2.2.2.2.2.2.2.2.2.2.2.2.1, v, o.2.2.2.2.2.2.2.2.2.2.2.2.2.2.2.2.1, o.2.2.2.2.2.2.2.2.2.2.2.2.2.2.2.2.2.1, o.2.2.2.2.2.2.2.2.2.2.2.2.2.2.2.2.2.2.1, o.2.2.2.2.2.2.2.2.2.2.2.2.2.2.2.2.2.2.2.1, o.2.2.2.2.2.2.2.2.2.2.2.2.2.2.2.2.2.2.2.2)
def s_gCount (o : Ob) (v : Int32) : Ob := (o.1, o.2.1, o.2.2.1, o.2.2.2.1, o.2.2.2.2.1, o.2.2.2.2.2.1, o.2.2.2.2.2.2.1, o.2.2.2.2.2.2.2.1, o.2.2.2.2.2.2.2.2.1, o.2.2.2.2.2.2.2.2.2.1, o.2.2.2.2.2.2.2.2.2.2.1, o.2.2.2.2.2.2.2.2.2.2.2.1, o.2.2.2.2.2.2.2.2.2.2.2.2.1, o.2.2.2.2.2.2.2.2.2.2.2.2.2.1, o.2.2.2.2.2.2.2.2.2.2.2.2.2.2.1, o.2.2.2.2.2.2.2.2.2.2.2.2.2.2.2.1, v, o.2.2.2.2.2.2.2.2.2.2.2.2.2.2.2.2.2.1, o.2.2.2.2.2.2.2.2.2.2.2.2.2.2.2.2.2.2.1, o.2.2.2.2.2.2.2.2.2.2.2.2.2.2.2.2.2.2.2.1, o.2.2.2.2.2.2.2.2.2.2.2.2.2.2.2.2.2.2.2.2)
def s_selUseR (o : Ob) (v : Int32) : Ob := (o.1, o.2.1, o.2.2.1, o.2.2.2.1, o.2.2.2.2.1, o.2.2.2.2.2.1, o.2.2.2.2.2.2.1, o.2.2.2.2.2.2.2.1, o.2.2.2.2.2.2.2.2.1, o.2.2.2.2.2.2.2.2.2.1, o.2.2.2.2.2.2.2.2.2.2.1, o.2.2.2.2.2.2.2.2.2.2.2.1, o.2.2.2.2.2.2.2.2.2.2.2.2.1, o.2.2.2.2.2.2.2.2.2.2.2.2.2.1, o.2.2.2.2.2.2.2.2.2.2.2.2.2.2.1, o.2.2.2.2.2.2.2.2.2.2.2.2.2.2.2.1, o.2.2.2.2.2.2.2.2.2.2.2.2.2.2.2.2.1, v, o.2.2.2.2.2.2.2.2.2.2.2.2.2.2.2.2.2.2.1, o.2.2.2.2.2.2.2.2.2.2.2.2.2.2.2.2.2.2.2.1, o.2.2.2.2.2.2.2.2.2.2.2.2.2.2.2.2.2.2.2.2)
def s_selRk (o : Ob) (v : Int32) : Ob := (o.1, o.2.1, o.2.2.1, o.2.2.2.1, o.2.2.2.2.1, o.2.2.2.2.2.1, o.2.2.2.2.2.2.1, o.2.2.2.2.2.2.2.1, o.2.2.2.2.2.2.2.2.1, o.2.2.2.2.2.2.2.2.2.1, o.2.2.2.2.2.2.2.2.2.2.1, o.2.2.2.2.2.2.2.2.2.2.2.1, o.2.2.2.2.2.2.2.2.2.2.2.2.1, o.2.2.2.2.2.2.2.2.2.2.2.2.2.1, o.2.2.2.2.2.2.2.2.2.2.2.2.2.2.1, o.2.2.2.2.2.2.2.2.2.2.2.2.2.2.2.1, o.2.2.2.2.2.2.2.2.2.2.2.2.2.2.2.2.1, o.2.2.2.2.2.2.2.2.2.2.2.2.2.2.2.2.2.1, v, o.2.2.2.2.2.2.2.2.2.2.2.2.2.2.2.2.2.2.2.1, o.2.2.2.2.2.2.2.2.2.2.2.2.2.2.2.2.2.2.2.2)
def s_selUseC (o : Ob) (v : Int32) : Ob := (o.1, o.2.1, o.2.2.1, o.2.2.2.1, o.2.2.2.2.1, o.2.2.2.2.2.1, o.2.2.2.2.2.2.1, o.2.2.2.2.2.2.2.1, o.2.2.2.2.2.2.2.2.1, o.2.2.2.2.2.2.2.2.2.1, o.2.2.2.2.2.2.2.2.2.2.1, o.2.2.2.2.2.2.2.2.2.2.2.1, o.2.2.2.2.2.2.2.2.2.2.2.2.1, o.2.2.2.2.2.2.2.2.2.2.2.2.2.1, o.2.2.2.2.2.2.2.2.2.2.2.2.2.2.1, o.2.2.2.2.2.2.2.2.2.2.2.2.2.2.2.1, o.2.2.2.2.2.2.2.2.2.2.2.2.2.2.2.2.1, o.2.2.2.2.2.2.2.2.2.2.2.2.2.2.2.2.2.1, o.2.2.2.2.2.2.2.2.2.2.2.2.2.2.2.2.2.2.1, v, o.2.2.2.2.2.2.2.2.2.2.2.2.2.2.2.2.2.2.2.2)
def s_selCk (o : Ob) (v : Int32) : Ob := (o.1, o.2.1, o.2.2.1, o.2.2.2.1, o.2.2.2.2.1, o.2.2.2.2.2.1, o.2.2.2.2.2.2.1, o.2.2.2.2.2.2.2.1, o.2.2.2.2.2.2.2.2.1, o.2.2.2.2.2.2.2.2.2.1, o.2.2.2.2.2.2.2.2.2.2.1, o.2.2.2.2.2.2.2.2.2.2.2.1, o.2.2.2.2.2.2.2.2.2.2.2.2.1, o.2.2.2.2.2.2.2.2.2.2.2.2.2.1, o.2.2.2.2.2.2.2.2.2.2.2.2.2.2.1, o.2.2.2.2.2.2.2.2.2.2.2.2.2.2.2.1, o.2.2.2.2.2.2.2.2.2.2.2.2.2.2.2.2.1, o.2.2.2.2.2.2.2.2.2.2.2.2.2.2.2.2.2.1, o.2.2.2.2.2.2.2.2.2.2.2.2.2.2.2.2.2.2.1, o.2.2.2.2.2.2.2.2.2.2.2.2.2.2.2.2.2.2.2.1, v)
theorem fs (o : Ob) : f_data o = o.1 ∧ f_filled o = o.2.1 ∧ f_rf o = o.2.2.1 ∧ f_cf o = o.2.2.2.1 ∧ f_vf o = o.2.2.2.2.1 ∧ f_ag o = o.2.2.2.2.2.1 ∧ f_fMode o = o.2.2.2.2.2.2.1 ∧ f_fRk o = o.2.2.2.2.2.2.2.1 ∧ f_fCk o = o.2.2.2.2.2.2.2.2.1 ∧ f_prevVal o = o.2.2.2.2.2.2.2.2.2.1 ∧ f_prevFound o = o.2.2.2.2.2.2.2.2.2.2.1 ∧ f_keys o = o.2.2.2.2.2.2.2.2.2.2.2.1 ∧ f_nRows o = o.2.2.2.2.2.2.2.2.2.2.2.2.1 ∧ f_nForms o = o.2.2.2.2.2.2.2.2.2.2.2.2.2.1 ∧ f_last o = o.2.2.2.2.2.2.2.2.2.2.2.2.2.2.1 ∧ f_gVal o = o.2.2.2.2.2.2.2.2.2.2.2.2.2.2.2.1 ∧ f_gCount o = o.2.2.2.2.2.2.2.2.2.2.2.2.2.2.2.2.1 ∧ f_selUseR o = o.2.2.2.2.2.2.2.2.2.2.2.2.2.2.2.2.2.1 ∧ f_selRk o = o.2.2.2.2.2.2.2.2.2.2.2.2.2.2.2.2.2.2.1 ∧ f_selUseC o = o.2.2.2.2.2.2.2.2.2.2.2.2.2.2.2.2.2.2.2.1 ∧ f_selCk o = o.2.2.2.2.2.2.2.2.2.2.2.2.2.2.2.2.2.2.2.2 := by simp only [f_data, f_filled, f_rf, f_cf, f_vf, f_ag, f_fMode, f_fRk, f_fCk, f_prevVal, f_prevFound, f_keys, f_nRows, f_nForms, f_last, f_gVal, f_gCount, f_selUseR, f_selRk, f_selUseC, f_selCk, and_self]
def ob0 : Ob := ([], [], 0, 0, 0, 0, [], [], [], [], [], [], 0, 0, 0, 0, 0, 0, 0, 0, 0)
section Walks
variable {l : Launch} {Z : State} {n0 : Nat} {ad : Nat → Addr} {a0 : Array Value}
set_option maxRecDepth 20000
set_option maxHeartbeats 2000000
abbrev tt : Bool := true
abbrev ff : Bool := false
open QTri renaming steps → zS, brT → zT, brF → zF, bnd → zB, mask → zM
open Option (bind_eq_some_iff)
open Classical (em)
def H0 (s : List Int32) (o0 : Ob) : QHeap := [.inr (.inl (.int, s)), .inl [.ref 2, .ref 3, .int (f_rf o0), .int (f_cf o0), .int (f_vf o0), .int (f_ag o0), .ref 4, .ref 5, .ref 6, .ref 7, .ref 8, .ref 9, .int (f_nRows o0), .int (f_nForms o0), .int (f_last o0), .int (f_gVal o0), .int (f_gCount o0), .int (f_selUseR o0), .int (f_selRk o0), .int (f_selUseC o0), .int (f_selCk o0)], .inr (.inl (.int, (f_data o0))), .inr (.inl (.boolean, (f_filled o0))), .inr (.inl (.int, (f_fMode o0))), .inr (.inl (.int, (f_fRk o0))), .inr (.inl (.int, (f_fCk o0))), .inr (.inl (.int, (f_prevVal o0))), .inr (.inl (.boolean, (f_prevFound o0))), .inr (.inl (.int, (f_keys o0)))]
def H0v (s : List Int32) (a0_0 : List Int32) (a0_1 : List Int32) (a0_2 : Int32) (a0_3 : Int32) (a0_4 : Int32) (a0_5 : Int32) (a0_6 : List Int32) (a0_7 : List Int32) (a0_8 : List Int32) (a0_9 : List Int32) (a0_10 : List Int32) (a0_11 : List Int32) (a0_12 : Int32) (a0_13 : Int32) (a0_14 : Int32) (a0_15 : Int32) (a0_16 : Int32) (a0_17 : Int32) (a0_18 : Int32) (a0_19 : Int32) (a0_20 : Int32) : QHeap := [.inr (.inl (.int, s)), .inl [.ref 2, .ref 3, .int a0_2, .int a0_3, .int a0_4, .int a0_5, .ref 4, .ref 5, .ref 6, .ref 7, .ref 8, .ref 9, .int a0_12, .int a0_13, .int a0_14, .int a0_15, .int a0_16, .int a0_17, .int a0_18, .int a0_19, .int a0_20], .inr (.inl (.int, a0_0)), .inr (.inl (.boolean, a0_1)), .inr (.inl (.int, a0_6)), .inr (.inl (.int, a0_7)), .inr (.inl (.int, a0_8)), .inr (.inl (.int, a0_9)), .inr (.inl (.boolean, a0_10)), .inr (.inl (.int, a0_11))]
def H0x0 (s : List Int32) (o0 : Ob) (a0_0 : List Int32) (a0_1 : List Int32) (a0_2 : Int32) (a0_3 : Int32) (a0_4 : Int32) (a0_5 : Int32) (a0_6 : List Int32) (a0_7 : List Int32) (a0_8 : List Int32) (a0_9 : List Int32) (a0_10 : List Int32) (a0_11 : List Int32) : QHeap := H0v s a0_0 a0_1 a0_2 a0_3 a0_4 a0_5 a0_6 a0_7 a0_8 a0_9 a0_10 a0_11 (f_nRows o0) (f_nForms o0) (f_last o0) (f_gVal o0) (f_gCount o0) (f_selUseR o0) (f_selRk o0) (f_selUseC o0) (f_selCk o0)
def H0x1 (s : List Int32) (o0 : Ob) (a0_0 : List Int32) (a0_1 : List Int32) (a0_2 : Int32) (a0_3 : Int32) (a0_4 : Int32) (a0_5 : Int32) (a0_6 : List Int32) (a0_7 : List Int32) (a0_8 : List Int32) (a0_9 : List Int32) (a0_10 : List Int32) (a0_11 : List Int32) (a0_12 : Int32) : QHeap := H0v s a0_0 a0_1 a0_2 a0_3 a0_4 a0_5 a0_6 a0_7 a0_8 a0_9 a0_10 a0_11 a0_12 (f_nForms o0) (f_last o0) (f_gVal o0) (f_gCount o0) (f_selUseR o0) (f_selRk o0) (f_selUseC o0) (f_selCk o0)
def H0x2 (s : List Int32) (o0 : Ob) (a0_0 : List Int32) (a0_1 : List Int32) (a0_2 : Int32) (a0_3 : Int32) (a0_4 : Int32) (a0_5 : Int32) (a0_6 : List Int32) (a0_7 : List Int32) (a0_8 : List Int32) (a0_9 : List Int32) (a0_10 : List Int32) (a0_11 : List Int32) (a0_12 : Int32) (a0_13 : Int32) : QHeap := H0v s a0_0 a0_1 a0_2 a0_3 a0_4 a0_5 a0_6 a0_7 a0_8 a0_9 a0_10 a0_11 a0_12 a0_13 (f_last o0) (f_gVal o0) (f_gCount o0) (f_selUseR o0) (f_selRk o0) (f_selUseC o0) (f_selCk o0)
def H0x3 (s : List Int32) (o0 : Ob) (a0_0 : List Int32) (a0_1 : List Int32) (a0_2 : Int32) (a0_3 : Int32) (a0_4 : Int32) (a0_5 : Int32) (a0_6 : List Int32) (a0_7 : List Int32) (a0_8 : List Int32) (a0_9 : List Int32) (a0_10 : List Int32) (a0_11 : List Int32) (a0_12 : Int32) (a0_13 : Int32) (a0_14 : Int32) : QHeap := H0v s a0_0 a0_1 a0_2 a0_3 a0_4 a0_5 a0_6 a0_7 a0_8 a0_9 a0_10 a0_11 a0_12 a0_13 a0_14 (f_gVal o0) (f_gCount o0) (f_selUseR o0) (f_selRk o0) (f_selUseC o0) (f_selCk o0)
/-- init(II)V -/
def F1 (x1 : Int32) (x2 : Int32) : Option (Ob) :=
 some (s_last (s_nForms (s_nRows (s_keys (s_prevFound (s_prevVal (s_fCk (s_fRk (s_fMode (s_ag (s_vf (s_cf (s_rf (s_filled (s_data ob0 (List.replicate 128 0)) (List.replicate 32 0)) (0:Int32)) (1:Int32)) (2:Int32)) (0:Int32)) (List.replicate 16 0)) (List.replicate 16 0)) (List.replicate 16 0)) (List.replicate 16 0)) (List.replicate 16 0)) (List.replicate 64 0)) (if (32:Int32) < (if x1 < (4:Int32) then (4:Int32) else x1) then (32:Int32) else (if x1 < (4:Int32) then (4:Int32) else x1))) (if (16:Int32) < (if x2 < (1:Int32) then (1:Int32) else x2) then (16:Int32) else (if x2 < (1:Int32) then (1:Int32) else x2))) (0:Int32))
theorem tF1 (Ad : QAd n0 ad) (W : QW Z a0) (s : List Int32) (x1 : Int32) (x2 : Int32) {r : Ob} (h : F1 x1 x2 = some r) : QTri l Z n0 ad 1 (0, qentry [.ref 1, .int x1, .int x2] (pMaxL 1), [], [.inr (.inl (.int, s)), .inl [.null, .null, .int (f_rf ob0), .int (f_cf ob0), .int (f_vf ob0), .int (f_ag ob0), .null, .null, .null, .null, .null, .null, .int (f_nRows ob0), .int (f_nForms ob0), .int (f_last ob0), .int (f_gVal ob0), .int (f_gCount ob0), .int (f_selUseR ob0), .int (f_selRk ob0), .int (f_selUseC ob0), .int (f_selCk ob0)]]) (none : Option Value) (H0 s r) := by
 unfold F1 at h
 refine zS Ad W 1 (st' := (1, [vR 1, vI x1, vI x2, none, none], [.ref 1], [.inr (.inl (.int, s)), .inl [.null, .null, .int (f_rf ob0), .int (f_cf ob0), .int (f_vf ob0), .int (f_ag ob0), .null, .null, .null, .null, .null, .null, .int (f_nRows ob0), .int (f_nForms ob0), .int (f_last ob0), .int (f_gVal ob0), .int (f_gCount ob0), .int (f_selUseR ob0), .int (f_selRk ob0), .int (f_selUseC ob0), .int (f_selCk ob0)]])) rfl ?_
 refine QTri.callO W rfl rfl rfl ?_
 refine zS Ad W 3 (st' := (10, [vR 1, vI x1, vI x2, none, none], [.ref 2, .ref 1], [.inr (.inl (.int, s)), .inl [.null, .null, .int (f_rf ob0), .int (f_cf ob0), .int (f_vf ob0), .int (f_ag ob0), .null, .null, .null, .null, .null, .null, .int (f_nRows ob0), .int (f_nForms ob0), .int (f_last ob0), .int (f_gVal ob0), .int (f_gCount ob0), .int (f_selUseR ob0), .int (f_selRk ob0), .int (f_selUseC ob0), .int (f_selCk ob0)], .inr (.inl (.int, (List.replicate 128 0)))])) rfl ?_
 refine zS Ad W 1 (st' := (13, [vR 1, vI x1, vI x2, none, none], [], [.inr (.inl (.int, s)), .inl [.ref 2, .null, .int (f_rf ob0), .int (f_cf ob0), .int (f_vf ob0), .int (f_ag ob0), .null, .null, .null, .null, .null, .null, .int (f_nRows ob0), .int (f_nForms ob0), .int (f_last ob0), .int (f_gVal ob0), .int (f_gCount ob0), .int (f_selUseR ob0), .int (f_selRk ob0), .int (f_selUseC ob0), .int (f_selCk ob0)], .inr (.inl (.int, (List.replicate 128 0)))])) rfl ?_
 refine zS Ad W 3 (st' := (18, [vR 1, vI x1, vI x2, none, none], [.ref 3, .ref 1], [.inr (.inl (.int, s)), .inl [.ref 2, .null, .int (f_rf ob0), .int (f_cf ob0), .int (f_vf ob0), .int (f_ag ob0), .null, .null, .null, .null, .null, .null, .int (f_nRows ob0), .int (f_nForms ob0), .int (f_last ob0), .int (f_gVal ob0), .int (f_gCount ob0), .int (f_selUseR ob0), .int (f_selRk ob0), .int (f_selUseC ob0), .int (f_selCk ob0)], .inr (.inl (.int, (List.replicate 128 0))), .inr (.inl (.boolean, (List.replicate 32 0)))])) rfl ?_
 refine zS Ad W 1 (st' := (21, [vR 1, vI x1, vI x2, none, none], [], [.inr (.inl (.int, s)), .inl [.ref 2, .ref 3, .int (f_rf ob0), .int (f_cf ob0), .int (f_vf ob0), .int (f_ag ob0), .null, .null, .null, .null, .null, .null, .int (f_nRows ob0), .int (f_nForms ob0), .int (f_last ob0), .int (f_gVal ob0), .int (f_gCount ob0), .int (f_selUseR ob0), .int (f_selRk ob0), .int (f_selUseC ob0), .int (f_selCk ob0)], .inr (.inl (.int, (List.replicate 128 0))), .inr (.inl (.boolean, (List.replicate 32 0)))])) rfl ?_
 refine zS Ad W 3 (st' := (26, [vR 1, vI x1, vI x2, none, none], [], [.inr (.inl (.int, s)), .inl [.ref 2, .ref 3, .int (0:Int32), .int (f_cf ob0), .int (f_vf ob0), .int (f_ag ob0), .null, .null, .null, .null, .null, .null, .int (f_nRows ob0), .int (f_nForms ob0), .int (f_last ob0), .int (f_gVal ob0), .int (f_gCount ob0), .int (f_selUseR ob0), .int (f_selRk ob0), .int (f_selUseC ob0), .int (f_selCk ob0)], .inr (.inl (.int, (List.replicate 128 0))), .inr (.inl (.boolean, (List.replicate 32 0)))])) rfl ?_
 refine zS Ad W 3 (st' := (31, [vR 1, vI x1, vI x2, none, none], [], [.inr (.inl (.int, s)), .inl [.ref 2, .ref 3, .int (0:Int32), .int (1:Int32), .int (f_vf ob0), .int (f_ag ob0), .null, .null, .null, .null, .null, .null, .int (f_nRows ob0), .int (f_nForms ob0), .int (f_last ob0), .int (f_gVal ob0), .int (f_gCount ob0), .int (f_selUseR ob0), .int (f_selRk ob0), .int (f_selUseC ob0), .int (f_selCk ob0)], .inr (.inl (.int, (List.replicate 128 0))), .inr (.inl (.boolean, (List.replicate 32 0)))])) rfl ?_
 refine zS Ad W 3 (st' := (36, [vR 1, vI x1, vI x2, none, none], [], [.inr (.inl (.int, s)), .inl [.ref 2, .ref 3, .int (0:Int32), .int (1:Int32), .int (2:Int32), .int (f_ag ob0), .null, .null, .null, .null, .null, .null, .int (f_nRows ob0), .int (f_nForms ob0), .int (f_last ob0), .int (f_gVal ob0), .int (f_gCount ob0), .int (f_selUseR ob0), .int (f_selRk ob0), .int (f_selUseC ob0), .int (f_selCk ob0)], .inr (.inl (.int, (List.replicate 128 0))), .inr (.inl (.boolean, (List.replicate 32 0)))])) rfl ?_
 refine zS Ad W 3 (st' := (41, [vR 1, vI x1, vI x2, none, none], [], [.inr (.inl (.int, s)), .inl [.ref 2, .ref 3, .int (0:Int32), .int (1:Int32), .int (2:Int32), .int (0:Int32), .null, .null, .null, .null, .null, .null, .int (f_nRows ob0), .int (f_nForms ob0), .int (f_last ob0), .int (f_gVal ob0), .int (f_gCount ob0), .int (f_selUseR ob0), .int (f_selRk ob0), .int (f_selUseC ob0), .int (f_selCk ob0)], .inr (.inl (.int, (List.replicate 128 0))), .inr (.inl (.boolean, (List.replicate 32 0)))])) rfl ?_
 refine zS Ad W 3 (st' := (46, [vR 1, vI x1, vI x2, none, none], [.ref 4, .ref 1], [.inr (.inl (.int, s)), .inl [.ref 2, .ref 3, .int (0:Int32), .int (1:Int32), .int (2:Int32), .int (0:Int32), .null, .null, .null, .null, .null, .null, .int (f_nRows ob0), .int (f_nForms ob0), .int (f_last ob0), .int (f_gVal ob0), .int (f_gCount ob0), .int (f_selUseR ob0), .int (f_selRk ob0), .int (f_selUseC ob0), .int (f_selCk ob0)], .inr (.inl (.int, (List.replicate 128 0))), .inr (.inl (.boolean, (List.replicate 32 0))), .inr (.inl (.int, (List.replicate 16 0)))])) rfl ?_
 refine zS Ad W 1 (st' := (49, [vR 1, vI x1, vI x2, none, none], [], [.inr (.inl (.int, s)), .inl [.ref 2, .ref 3, .int (0:Int32), .int (1:Int32), .int (2:Int32), .int (0:Int32), .ref 4, .null, .null, .null, .null, .null, .int (f_nRows ob0), .int (f_nForms ob0), .int (f_last ob0), .int (f_gVal ob0), .int (f_gCount ob0), .int (f_selUseR ob0), .int (f_selRk ob0), .int (f_selUseC ob0), .int (f_selCk ob0)], .inr (.inl (.int, (List.replicate 128 0))), .inr (.inl (.boolean, (List.replicate 32 0))), .inr (.inl (.int, (List.replicate 16 0)))])) rfl ?_
 refine zS Ad W 3 (st' := (54, [vR 1, vI x1, vI x2, none, none], [.ref 5, .ref 1], [.inr (.inl (.int, s)), .inl [.ref 2, .ref 3, .int (0:Int32), .int (1:Int32), .int (2:Int32), .int (0:Int32), .ref 4, .null, .null, .null, .null, .null, .int (f_nRows ob0), .int (f_nForms ob0), .int (f_last ob0), .int (f_gVal ob0), .int (f_gCount ob0), .int (f_selUseR ob0), .int (f_selRk ob0), .int (f_selUseC ob0), .int (f_selCk ob0)], .inr (.inl (.int, (List.replicate 128 0))), .inr (.inl (.boolean, (List.replicate 32 0))), .inr (.inl (.int, (List.replicate 16 0))), .inr (.inl (.int, (List.replicate 16 0)))])) rfl ?_
 refine zS Ad W 1 (st' := (57, [vR 1, vI x1, vI x2, none, none], [], [.inr (.inl (.int, s)), .inl [.ref 2, .ref 3, .int (0:Int32), .int (1:Int32), .int (2:Int32), .int (0:Int32), .ref 4, .ref 5, .null, .null, .null, .null, .int (f_nRows ob0), .int (f_nForms ob0), .int (f_last ob0), .int (f_gVal ob0), .int (f_gCount ob0), .int (f_selUseR ob0), .int (f_selRk ob0), .int (f_selUseC ob0), .int (f_selCk ob0)], .inr (.inl (.int, (List.replicate 128 0))), .inr (.inl (.boolean, (List.replicate 32 0))), .inr (.inl (.int, (List.replicate 16 0))), .inr (.inl (.int, (List.replicate 16 0)))])) rfl ?_
 refine zS Ad W 3 (st' := (62, [vR 1, vI x1, vI x2, none, none], [.ref 6, .ref 1], [.inr (.inl (.int, s)), .inl [.ref 2, .ref 3, .int (0:Int32), .int (1:Int32), .int (2:Int32), .int (0:Int32), .ref 4, .ref 5, .null, .null, .null, .null, .int (f_nRows ob0), .int (f_nForms ob0), .int (f_last ob0), .int (f_gVal ob0), .int (f_gCount ob0), .int (f_selUseR ob0), .int (f_selRk ob0), .int (f_selUseC ob0), .int (f_selCk ob0)], .inr (.inl (.int, (List.replicate 128 0))), .inr (.inl (.boolean, (List.replicate 32 0))), .inr (.inl (.int, (List.replicate 16 0))), .inr (.inl (.int, (List.replicate 16 0))), .inr (.inl (.int, (List.replicate 16 0)))])) rfl ?_
 refine zS Ad W 1 (st' := (65, [vR 1, vI x1, vI x2, none, none], [], [.inr (.inl (.int, s)), .inl [.ref 2, .ref 3, .int (0:Int32), .int (1:Int32), .int (2:Int32), .int (0:Int32), .ref 4, .ref 5, .ref 6, .null, .null, .null, .int (f_nRows ob0), .int (f_nForms ob0), .int (f_last ob0), .int (f_gVal ob0), .int (f_gCount ob0), .int (f_selUseR ob0), .int (f_selRk ob0), .int (f_selUseC ob0), .int (f_selCk ob0)], .inr (.inl (.int, (List.replicate 128 0))), .inr (.inl (.boolean, (List.replicate 32 0))), .inr (.inl (.int, (List.replicate 16 0))), .inr (.inl (.int, (List.replicate 16 0))), .inr (.inl (.int, (List.replicate 16 0)))])) rfl ?_
 refine zS Ad W 3 (st' := (70, [vR 1, vI x1, vI x2, none, none], [.ref 7, .ref 1], [.inr (.inl (.int, s)), .inl [.ref 2, .ref 3, .int (0:Int32), .int (1:Int32), .int (2:Int32), .int (0:Int32), .ref 4, .ref 5, .ref 6, .null, .null, .null, .int (f_nRows ob0), .int (f_nForms ob0), .int (f_last ob0), .int (f_gVal ob0), .int (f_gCount ob0), .int (f_selUseR ob0), .int (f_selRk ob0), .int (f_selUseC ob0), .int (f_selCk ob0)], .inr (.inl (.int, (List.replicate 128 0))), .inr (.inl (.boolean, (List.replicate 32 0))), .inr (.inl (.int, (List.replicate 16 0))), .inr (.inl (.int, (List.replicate 16 0))), .inr (.inl (.int, (List.replicate 16 0))), .inr (.inl (.int, (List.replicate 16 0)))])) rfl ?_
 refine zS Ad W 1 (st' := (73, [vR 1, vI x1, vI x2, none, none], [], [.inr (.inl (.int, s)), .inl [.ref 2, .ref 3, .int (0:Int32), .int (1:Int32), .int (2:Int32), .int (0:Int32), .ref 4, .ref 5, .ref 6, .ref 7, .null, .null, .int (f_nRows ob0), .int (f_nForms ob0), .int (f_last ob0), .int (f_gVal ob0), .int (f_gCount ob0), .int (f_selUseR ob0), .int (f_selRk ob0), .int (f_selUseC ob0), .int (f_selCk ob0)], .inr (.inl (.int, (List.replicate 128 0))), .inr (.inl (.boolean, (List.replicate 32 0))), .inr (.inl (.int, (List.replicate 16 0))), .inr (.inl (.int, (List.replicate 16 0))), .inr (.inl (.int, (List.replicate 16 0))), .inr (.inl (.int, (List.replicate 16 0)))])) rfl ?_
 refine zS Ad W 3 (st' := (78, [vR 1, vI x1, vI x2, none, none], [.ref 8, .ref 1], [.inr (.inl (.int, s)), .inl [.ref 2, .ref 3, .int (0:Int32), .int (1:Int32), .int (2:Int32), .int (0:Int32), .ref 4, .ref 5, .ref 6, .ref 7, .null, .null, .int (f_nRows ob0), .int (f_nForms ob0), .int (f_last ob0), .int (f_gVal ob0), .int (f_gCount ob0), .int (f_selUseR ob0), .int (f_selRk ob0), .int (f_selUseC ob0), .int (f_selCk ob0)], .inr (.inl (.int, (List.replicate 128 0))), .inr (.inl (.boolean, (List.replicate 32 0))), .inr (.inl (.int, (List.replicate 16 0))), .inr (.inl (.int, (List.replicate 16 0))), .inr (.inl (.int, (List.replicate 16 0))), .inr (.inl (.int, (List.replicate 16 0))), .inr (.inl (.boolean, (List.replicate 16 0)))])) rfl ?_
 refine zS Ad W 1 (st' := (81, [vR 1, vI x1, vI x2, none, none], [], [.inr (.inl (.int, s)), .inl [.ref 2, .ref 3, .int (0:Int32), .int (1:Int32), .int (2:Int32), .int (0:Int32), .ref 4, .ref 5, .ref 6, .ref 7, .ref 8, .null, .int (f_nRows ob0), .int (f_nForms ob0), .int (f_last ob0), .int (f_gVal ob0), .int (f_gCount ob0), .int (f_selUseR ob0), .int (f_selRk ob0), .int (f_selUseC ob0), .int (f_selCk ob0)], .inr (.inl (.int, (List.replicate 128 0))), .inr (.inl (.boolean, (List.replicate 32 0))), .inr (.inl (.int, (List.replicate 16 0))), .inr (.inl (.int, (List.replicate 16 0))), .inr (.inl (.int, (List.replicate 16 0))), .inr (.inl (.int, (List.replicate 16 0))), .inr (.inl (.boolean, (List.replicate 16 0)))])) rfl ?_
 refine zS Ad W 3 (st' := (86, [vR 1, vI x1, vI x2, none, none], [.ref 9, .ref 1], [.inr (.inl (.int, s)), .inl [.ref 2, .ref 3, .int (0:Int32), .int (1:Int32), .int (2:Int32), .int (0:Int32), .ref 4, .ref 5, .ref 6, .ref 7, .ref 8, .null, .int (f_nRows ob0), .int (f_nForms ob0), .int (f_last ob0), .int (f_gVal ob0), .int (f_gCount ob0), .int (f_selUseR ob0), .int (f_selRk ob0), .int (f_selUseC ob0), .int (f_selCk ob0)], .inr (.inl (.int, (List.replicate 128 0))), .inr (.inl (.boolean, (List.replicate 32 0))), .inr (.inl (.int, (List.replicate 16 0))), .inr (.inl (.int, (List.replicate 16 0))), .inr (.inl (.int, (List.replicate 16 0))), .inr (.inl (.int, (List.replicate 16 0))), .inr (.inl (.boolean, (List.replicate 16 0))), .inr (.inl (.int, (List.replicate 64 0)))])) rfl ?_
 refine zS Ad W 1 (st' := (89, [vR 1, vI x1, vI x2, none, none], [], (H0x0 s ob0 (List.replicate 128 0) (List.replicate 32 0) (0:Int32) (1:Int32) (2:Int32) (0:Int32) (List.replicate 16 0) (List.replicate 16 0) (List.replicate 16 0) (List.replicate 16 0) (List.replicate 16 0) (List.replicate 64 0)))) rfl ?_
 refine zS Ad W 4 (st' := (93, [vR 1, vI x1, vI x2, vI x1, none], [.int (4:Int32), .int x1], (H0x0 s ob0 (List.replicate 128 0) (List.replicate 32 0) (0:Int32) (1:Int32) (2:Int32) (0:Int32) (List.replicate 16 0) (List.replicate 16 0) (List.replicate 16 0) (List.replicate 16 0) (List.replicate 16 0) (List.replicate 64 0)))) rfl ?_
 have K2 : ∀ z1 : Int32, z1 = (if x1 < (4:Int32) then (4:Int32) else x1) → QTri l Z n0 ad 1 (98, [vR 1, none, vI x2, vI z1, none], [], (H0x0 s ob0 (List.replicate 128 0) (List.replicate 32 0) (0:Int32) (1:Int32) (2:Int32) (0:Int32) (List.replicate 16 0) (List.replicate 16 0) (List.replicate 16 0) (List.replicate 16 0) (List.replicate 16 0) (List.replicate 64 0))) (none : Option Value) (H0 s r) := by
  intro z1 ez1
  subst ez1
  refine zS Ad W 2 (st' := (101, [vR 1, none, vI x2, vI (if x1 < (4:Int32) then (4:Int32) else x1), none], [.int (32:Int32), .int (if x1 < (4:Int32) then (4:Int32) else x1)], (H0x0 s ob0 (List.replicate 128 0) (List.replicate 32 0) (0:Int32) (1:Int32) (2:Int32) (0:Int32) (List.replicate 16 0) (List.replicate 16 0) (List.replicate 16 0) (List.replicate 16 0) (List.replicate 16 0) (List.replicate 64 0)))) rfl ?_
  have K5 : ∀ z4 : Int32, z4 = (if (32:Int32) < (if x1 < (4:Int32) then (4:Int32) else x1) then (32:Int32) else (if x1 < (4:Int32) then (4:Int32) else x1)) → QTri l Z n0 ad 1 (107, [vR 1, none, vI x2, vI z4, none], [], (H0x0 s ob0 (List.replicate 128 0) (List.replicate 32 0) (0:Int32) (1:Int32) (2:Int32) (0:Int32) (List.replicate 16 0) (List.replicate 16 0) (List.replicate 16 0) (List.replicate 16 0) (List.replicate 16 0) (List.replicate 64 0))) (none : Option Value) (H0 s r) := by
   intro z4 ez4
   subst ez4
   refine zS Ad W 4 (st' := (113, [vR 1, none, vI x2, vI (if (32:Int32) < (if x1 < (4:Int32) then (4:Int32) else x1) then (32:Int32) else (if x1 < (4:Int32) then (4:Int32) else x1)), vI x2], [.int (1:Int32), .int x2], (H0x0 s ob0 (List.replicate 128 0) (List.replicate 32 0) (0:Int32) (1:Int32) (2:Int32) (0:Int32) (List.replicate 16 0) (List.replicate 16 0) (List.replicate 16 0) (List.replicate 16 0) (List.replicate 16 0) (List.replicate 64 0)))) rfl ?_
   have K8 : ∀ z7 : Int32, z7 = (if x2 < (1:Int32) then (1:Int32) else x2) → QTri l Z n0 ad 1 (119, [vR 1, none, none, vI (if (32:Int32) < (if x1 < (4:Int32) then (4:Int32) else x1) then (32:Int32) else (if x1 < (4:Int32) then (4:Int32) else x1)), vI z7], [], (H0x0 s ob0 (List.replicate 128 0) (List.replicate 32 0) (0:Int32) (1:Int32) (2:Int32) (0:Int32) (List.replicate 16 0) (List.replicate 16 0) (List.replicate 16 0) (List.replicate 16 0) (List.replicate 16 0) (List.replicate 64 0))) (none : Option Value) (H0 s r) := by
    intro z7 ez7
    subst ez7
    refine zS Ad W 2 (st' := (123, [vR 1, none, none, vI (if (32:Int32) < (if x1 < (4:Int32) then (4:Int32) else x1) then (32:Int32) else (if x1 < (4:Int32) then (4:Int32) else x1)), vI (if x2 < (1:Int32) then (1:Int32) else x2)], [.int (16:Int32), .int (if x2 < (1:Int32) then (1:Int32) else x2)], (H0x0 s ob0 (List.replicate 128 0) (List.replicate 32 0) (0:Int32) (1:Int32) (2:Int32) (0:Int32) (List.replicate 16 0) (List.replicate 16 0) (List.replicate 16 0) (List.replicate 16 0) (List.replicate 16 0) (List.replicate 64 0)))) rfl ?_
    have K11 : ∀ z10 : Int32, z10 = (if (16:Int32) < (if x2 < (1:Int32) then (1:Int32) else x2) then (16:Int32) else (if x2 < (1:Int32) then (1:Int32) else x2)) → QTri l Z n0 ad 1 (130, [vR 1, none, none, vI (if (32:Int32) < (if x1 < (4:Int32) then (4:Int32) else x1) then (32:Int32) else (if x1 < (4:Int32) then (4:Int32) else x1)), vI z10], [], (H0x0 s ob0 (List.replicate 128 0) (List.replicate 32 0) (0:Int32) (1:Int32) (2:Int32) (0:Int32) (List.replicate 16 0) (List.replicate 16 0) (List.replicate 16 0) (List.replicate 16 0) (List.replicate 16 0) (List.replicate 64 0))) (none : Option Value) (H0 s r) := by
     intro z10 ez10
     subst ez10
     refine zS Ad W 3 (st' := (135, [vR 1, none, none, vI (if (32:Int32) < (if x1 < (4:Int32) then (4:Int32) else x1) then (32:Int32) else (if x1 < (4:Int32) then (4:Int32) else x1)), vI (if (16:Int32) < (if x2 < (1:Int32) then (1:Int32) else x2) then (16:Int32) else (if x2 < (1:Int32) then (1:Int32) else x2))], [], (H0x1 s ob0 (List.replicate 128 0) (List.replicate 32 0) (0:Int32) (1:Int32) (2:Int32) (0:Int32) (List.replicate 16 0) (List.replicate 16 0) (List.replicate 16 0) (List.replicate 16 0) (List.replicate 16 0) (List.replicate 64 0) (if (32:Int32) < (if x1 < (4:Int32) then (4:Int32) else x1) then (32:Int32) else (if x1 < (4:Int32) then (4:Int32) else x1))))) rfl ?_
     refine zS Ad W 3 (st' := (141, [vR 1, none, none, vI (if (32:Int32) < (if x1 < (4:Int32) then (4:Int32) else x1) then (32:Int32) else (if x1 < (4:Int32) then (4:Int32) else x1)), vI (if (16:Int32) < (if x2 < (1:Int32) then (1:Int32) else x2) then (16:Int32) else (if x2 < (1:Int32) then (1:Int32) else x2))], [], (H0x2 s ob0 (List.replicate 128 0) (List.replicate 32 0) (0:Int32) (1:Int32) (2:Int32) (0:Int32) (List.replicate 16 0) (List.replicate 16 0) (List.replicate 16 0) (List.replicate 16 0) (List.replicate 16 0) (List.replicate 64 0) (if (32:Int32) < (if x1 < (4:Int32) then (4:Int32) else x1) then (32:Int32) else (if x1 < (4:Int32) then (4:Int32) else x1)) (if (16:Int32) < (if x2 < (1:Int32) then (1:Int32) else x2) then (16:Int32) else (if x2 < (1:Int32) then (1:Int32) else x2))))) rfl ?_
     refine zS Ad W 3 (st' := (146, [vR 1, none, none, vI (if (32:Int32) < (if x1 < (4:Int32) then (4:Int32) else x1) then (32:Int32) else (if x1 < (4:Int32) then (4:Int32) else x1)), vI (if (16:Int32) < (if x2 < (1:Int32) then (1:Int32) else x2) then (16:Int32) else (if x2 < (1:Int32) then (1:Int32) else x2))], [], (H0x3 s ob0 (List.replicate 128 0) (List.replicate 32 0) (0:Int32) (1:Int32) (2:Int32) (0:Int32) (List.replicate 16 0) (List.replicate 16 0) (List.replicate 16 0) (List.replicate 16 0) (List.replicate 16 0) (List.replicate 64 0) (if (32:Int32) < (if x1 < (4:Int32) then (4:Int32) else x1) then (32:Int32) else (if x1 < (4:Int32) then (4:Int32) else x1)) (if (16:Int32) < (if x2 < (1:Int32) then (1:Int32) else x2) then (16:Int32) else (if x2 < (1:Int32) then (1:Int32) else x2)) (0:Int32)))) rfl ?_
     have E13 : ((H0x3 s ob0 (List.replicate 128 0) (List.replicate 32 0) (0:Int32) (1:Int32) (2:Int32) (0:Int32) (List.replicate 16 0) (List.replicate 16 0) (List.replicate 16 0) (List.replicate 16 0) (List.replicate 16 0) (List.replicate 64 0) (if (32:Int32) < (if x1 < (4:Int32) then (4:Int32) else x1) then (32:Int32) else (if x1 < (4:Int32) then (4:Int32) else x1)) (if (16:Int32) < (if x2 < (1:Int32) then (1:Int32) else x2) then (16:Int32) else (if x2 < (1:Int32) then (1:Int32) else x2)) (0:Int32)) : QHeap) = (H0 s (s_last (s_nForms (s_nRows (s_keys (s_prevFound (s_prevVal (s_fCk (s_fRk (s_fMode (s_ag (s_vf (s_cf (s_rf (s_filled (s_data ob0 (List.replicate 128 0)) (List.replicate 32 0)) (0:Int32)) (1:Int32)) (2:Int32)) (0:Int32)) (List.replicate 16 0)) (List.replicate 16 0)) (List.replicate 16 0)) (List.replicate 16 0)) (List.replicate 16 0)) (List.replicate 64 0)) (if (32:Int32) < (if x1 < (4:Int32) then (4:Int32) else x1) then (32:Int32) else (if x1 < (4:Int32) then (4:Int32) else x1))) (if (16:Int32) < (if x2 < (1:Int32) then (1:Int32) else x2) then (16:Int32) else (if x2 < (1:Int32) then (1:Int32) else x2))) (0:Int32))) := by simp only [fs, H0, H0v, H0x3, s_data, s_filled, s_rf, s_cf, s_vf, s_ag, s_fMode, s_fRk, s_fCk, s_prevVal, s_prevFound, s_keys, s_nRows, s_nForms, s_last, ob0]
     rw [E13]
     obtain rfl := Option.some.inj h
     exact QTri.ret0 rfl rfl
    rcases em ((16:Int32) < (if x2 < (1:Int32) then (1:Int32) else x2)) with hc12 | hc12
    ·refine zF Ad W (t := 130) (f := 126) rfl (XT.ii_le_f hc12) ?_
     refine zS Ad W 2 (st' := (130, [vR 1, none, none, vI (if (32:Int32) < (if x1 < (4:Int32) then (4:Int32) else x1) then (32:Int32) else (if x1 < (4:Int32) then (4:Int32) else x1)), vI (16:Int32)], [], (H0x0 s ob0 (List.replicate 128 0) (List.replicate 32 0) (0:Int32) (1:Int32) (2:Int32) (0:Int32) (List.replicate 16 0) (List.replicate 16 0) (List.replicate 16 0) (List.replicate 16 0) (List.replicate 16 0) (List.replicate 64 0)))) rfl ?_
     exact zM [tt,ff,ff,tt,tt] (K11 _ (if_pos hc12).symm)
    ·refine zT Ad W (t := 130) (f := 126) rfl (XT.ii_le_t hc12) ?_
     exact zM [tt,ff,ff,tt,tt] (K11 _ (if_neg hc12).symm)
   rcases em (x2 < (1:Int32)) with hc9 | hc9
   ·refine zF Ad W (t := 119) (f := 116) rfl (XT.ii_ge_f hc9) ?_
    refine zS Ad W 2 (st' := (119, [vR 1, none, vI x2, vI (if (32:Int32) < (if x1 < (4:Int32) then (4:Int32) else x1) then (32:Int32) else (if x1 < (4:Int32) then (4:Int32) else x1)), vI (1:Int32)], [], (H0x0 s ob0 (List.replicate 128 0) (List.replicate 32 0) (0:Int32) (1:Int32) (2:Int32) (0:Int32) (List.replicate 16 0) (List.replicate 16 0) (List.replicate 16 0) (List.replicate 16 0) (List.replicate 16 0) (List.replicate 64 0)))) rfl ?_
    exact zM [tt,ff,ff,tt,tt] (K8 _ (if_pos hc9).symm)
   ·refine zT Ad W (t := 119) (f := 116) rfl (XT.ii_ge_t hc9) ?_
    exact zM [tt,ff,ff,tt,tt] (K8 _ (if_neg hc9).symm)
  rcases em ((32:Int32) < (if x1 < (4:Int32) then (4:Int32) else x1)) with hc6 | hc6
  ·refine zF Ad W (t := 107) (f := 104) rfl (XT.ii_le_f hc6) ?_
   refine zS Ad W 2 (st' := (107, [vR 1, none, vI x2, vI (32:Int32), none], [], (H0x0 s ob0 (List.replicate 128 0) (List.replicate 32 0) (0:Int32) (1:Int32) (2:Int32) (0:Int32) (List.replicate 16 0) (List.replicate 16 0) (List.replicate 16 0) (List.replicate 16 0) (List.replicate 16 0) (List.replicate 64 0)))) rfl ?_
   exact zM [tt,ff,tt,tt,ff] (K5 _ (if_pos hc6).symm)
  ·refine zT Ad W (t := 107) (f := 104) rfl (XT.ii_le_t hc6) ?_
   exact zM [tt,ff,tt,tt,ff] (K5 _ (if_neg hc6).symm)
 rcases em (x1 < (4:Int32)) with hc3 | hc3
 ·refine zF Ad W (t := 98) (f := 96) rfl (XT.ii_ge_f hc3) ?_
  refine zS Ad W 2 (st' := (98, [vR 1, vI x1, vI x2, vI (4:Int32), none], [], (H0x0 s ob0 (List.replicate 128 0) (List.replicate 32 0) (0:Int32) (1:Int32) (2:Int32) (0:Int32) (List.replicate 16 0) (List.replicate 16 0) (List.replicate 16 0) (List.replicate 16 0) (List.replicate 16 0) (List.replicate 64 0)))) rfl ?_
  exact zM [tt,ff,tt,tt,ff] (K2 _ (if_pos hc3).symm)
 ·refine zT Ad W (t := 98) (f := 96) rfl (XT.ii_ge_t hc3) ?_
  exact zM [tt,ff,tt,tt,ff] (K2 _ (if_neg hc3).symm)
/-- validRow(I)Z -/
def F5 (o : Ob) (x1 : Int32) : Option (Int32) :=
 (if x1 < (0:Int32) then some (0:Int32) else (if x1 < (f_nRows o) then some (1:Int32) else some (0:Int32)))
theorem tF5 (Ad : QAd n0 ad) (W : QW Z a0) (s : List Int32) (o : Ob) (x1 : Int32) {r : Int32} (h : F5 o x1 = some r) : QTri l Z n0 ad 5 (0, qentry [.ref 1, .int x1] (pMaxL 5), [], (H0 s o)) (some (Value.int r)) (H0 s o) := by
 unfold F5 at h
 refine zS Ad W 1 (st' := (1, [vR 1, vI x1], [.int x1], (H0 s o))) rfl ?_
 rcases qite h with ⟨hc22, h⟩ | ⟨hc22, h⟩
 ·refine zT Ad W (t := 16) (f := 4) rfl (XT.i0_lt_t hc22) ?_
  refine zS Ad W 1 (st' := (17, [vR 1, vI x1], [.int (0:Int32)], (H0 s o))) rfl ?_
  obtain rfl := Option.some.inj h
  exact QTri.retZ rfl rfl
 ·refine zF Ad W (t := 16) (f := 4) rfl (XT.i0_lt_f hc22) ?_
  refine zS Ad W 3 (st' := (9, [vR 1, vI x1], [.int (f_nRows o), .int x1], (H0 s o))) rfl ?_
  rcases qite h with ⟨hc23, h⟩ | ⟨hc23, h⟩
  ·refine zF Ad W (t := 16) (f := 12) rfl (XT.ii_ge_f hc23) ?_
   refine zS Ad W 2 (st' := (17, [vR 1, vI x1], [.int (1:Int32)], (H0 s o))) rfl ?_
   obtain rfl := Option.some.inj h
   exact QTri.retZ rfl rfl
  ·refine zT Ad W (t := 16) (f := 12) rfl (XT.ii_ge_t hc23) ?_
   refine zS Ad W 1 (st' := (17, [vR 1, vI x1], [.int (0:Int32)], (H0 s o))) rfl ?_
   obtain rfl := Option.some.inj h
   exact QTri.retZ rfl rfl
def H0x4 (s : List Int32) (o0 : Ob) (a0_15 : Int32) : QHeap := H0v s (f_data o0) (f_filled o0) (f_rf o0) (f_cf o0) (f_vf o0) (f_ag o0) (f_fMode o0) (f_fRk o0) (f_fCk o0) (f_prevVal o0) (f_prevFound o0) (f_keys o0) (f_nRows o0) (f_nForms o0) (f_last o0) a0_15 (f_gCount o0) (f_selUseR o0) (f_selRk o0) (f_selUseC o0) (f_selCk o0)
def H0x5 (s : List Int32) (o0 : Ob) (a0_15 : Int32) (a0_16 : Int32) : QHeap := H0v s (f_data o0) (f_filled o0) (f_rf o0) (f_cf o0) (f_vf o0) (f_ag o0) (f_fMode o0) (f_fRk o0) (f_fCk o0) (f_prevVal o0) (f_prevFound o0) (f_keys o0) (f_nRows o0) (f_nForms o0) (f_last o0) a0_15 a0_16 (f_selUseR o0) (f_selRk o0) (f_selUseC o0) (f_selCk o0)
def J8_152 (o : Ob) (x1 : Int32) (x2 : Int32) (x3 : Int32) (x4 : Int32) (x5 : Int32) (x6 : Int32) (x7 : Int32) (x8 : Int32) (x9 : Int32) : Option (((Int32 × Int32 × Int32 × Int32)) ⊕ (Int32 × Int32 × Int32 × Int32 × Int32)) :=
  some (.inr (x5, x6, x7, x8, (x9 + (1 : Int32))))
theorem tJ8_152 (Ad : QAd n0 ad) (W : QW Z a0) (s : List Int32) (o : Ob) (x1 : Int32) (x2 : Int32) (x3 : Int32) (x4 : Int32) (x5 : Int32) (x6 : Int32) (x7 : Int32) (x8 : Int32) (x9 : Int32) {r : ((Int32 × Int32 × Int32 × Int32)) ⊕ (Int32 × Int32 × Int32 × Int32 × Int32)} {u : Option Value} {τ : QHeap} (h : J8_152 o x1 x2 x3 x4 x5 x6 x7 x8 x9 = some r) (hx0 : ∀ x : Int32 × Int32 × Int32 × Int32, r = .inl x → QTri l Z n0 ad 8 (158, [vR 1, none, none, none, none, vI x.1, vI x.2.1, vI x.2.2.1, vI x.2.2.2, none, none, none], [], (H0 s o)) u τ) (hc : ∀ x : Int32 × Int32 × Int32 × Int32 × Int32, r = .inr x → QTri l Z n0 ad 8 (15, [vR 1, vI x1, vI x2, vI x3, vI x4, vI x.1, vI x.2.1, vI x.2.2.1, vI x.2.2.2.1, vI x.2.2.2.2, none, none], [], (H0 s o)) u τ) : QTri l Z n0 ad 8 (152, [vR 1, vI x1, vI x2, vI x3, vI x4, vI x5, vI x6, vI x7, vI x8, vI x9, none, none], [], (H0 s o)) u τ := by
 unfold J8_152 at h
 refine zS Ad W 2 (st' := (15, [vR 1, vI x1, vI x2, vI x3, vI x4, vI x5, vI x6, vI x7, vI x8, vI (x9 + (1:Int32)), none, none], [], (H0 s o))) rfl ?_
 obtain rfl := Option.some.inj h
 exact zM [tt,tt,tt,tt,tt,tt,tt,tt,tt,tt,ff,ff] (hc (x5, x6, x7, x8, (x9 + (1:Int32))) rfl)
def J8_90 (o : Ob) (x1 : Int32) (x2 : Int32) (x3 : Int32) (x4 : Int32) (x5 : Int32) (x6 : Int32) (x7 : Int32) (x8 : Int32) (x9 : Int32) (x10 : Int32) : Option (((Int32 × Int32 × Int32 × Int32)) ⊕ (Int32 × Int32 × Int32 × Int32 × Int32)) :=
  (aget (f_data o) (x10 + (f_vf o))).bind fun y47 => (J8_152 o x1 x2 x3 x4 (x5 + y47) (x6 + (1 : Int32)) (if x6 = (0 : Int32) then y47 else (if y47 < x7 then y47 else x7)) (if x6 = (0 : Int32) then y47 else (if x8 < y47 then y47 else x8)) x9)
theorem tJ8_90 (Ad : QAd n0 ad) (W : QW Z a0) (s : List Int32) (o : Ob) (x1 : Int32) (x2 : Int32) (x3 : Int32) (x4 : Int32) (x5 : Int32) (x6 : Int32) (x7 : Int32) (x8 : Int32) (x9 : Int32) (x10 : Int32) {r : ((Int32 × Int32 × Int32 × Int32)) ⊕ (Int32 × Int32 × Int32 × Int32 × Int32)} {u : Option Value} {τ : QHeap} (h : J8_90 o x1 x2 x3 x4 x5 x6 x7 x8 x9 x10 = some r) (hx0 : ∀ x : Int32 × Int32 × Int32 × Int32, r = .inl x → QTri l Z n0 ad 8 (158, [vR 1, none, none, none, none, vI x.1, vI x.2.1, vI x.2.2.1, vI x.2.2.2, none, none, none], [], (H0 s o)) u τ) (hc : ∀ x : Int32 × Int32 × Int32 × Int32 × Int32, r = .inr x → QTri l Z n0 ad 8 (15, [vR 1, vI x1, vI x2, vI x3, vI x4, vI x.1, vI x.2.1, vI x.2.2.1, vI x.2.2.2.1, vI x.2.2.2.2, none, none], [], (H0 s o)) u τ) : QTri l Z n0 ad 8 (90, [vR 1, vI x1, vI x2, vI x3, vI x4, vI x5, vI x6, vI x7, vI x8, vI x9, vI x10, none], [], (H0 s o)) u τ := by
 unfold J8_90 at h
 refine zS Ad W 6 (st' := (101, [vR 1, vI x1, vI x2, vI x3, vI x4, vI x5, vI x6, vI x7, vI x8, vI x9, vI x10, none], [.int (x10 + (f_vf o)), .ref 2], (H0 s o))) rfl ?_
 obtain ⟨y47, hy47, h⟩ := bind_eq_some_iff.mp h
 refine zB Ad W (f := fun y47 => (102, [vR 1, vI x1, vI x2, vI x3, vI x4, vI x5, vI x6, vI x7, vI x8, vI x9, vI x10, none], [.int y47], (H0 s o))) rfl hy47 ?_
 refine zS Ad W 2 (st' := (106, [vR 1, vI x1, vI x2, vI x3, vI x4, vI x5, vI x6, vI x7, vI x8, vI x9, vI x10, vI y47], [.int x6], (H0 s o))) rfl ?_
 have K50 : ∀ z48 : Int32, z48 = (if x6 = (0:Int32) then y47 else (if y47 < x7 then y47 else x7)) → ∀ z49 : Int32, z49 = (if x6 = (0:Int32) then y47 else (if x8 < y47 then y47 else x8)) → QTri l Z n0 ad 8 (142, [vR 1, vI x1, vI x2, vI x3, vI x4, vI x5, vI x6, vI z48, vI z49, vI x9, none, vI y47], [], (H0 s o)) u τ := by
  intro z48 ez48
  intro z49 ez49
  subst ez48
  subst ez49
  refine zS Ad W 5 (st' := (152, [vR 1, vI x1, vI x2, vI x3, vI x4, vI (x5 + y47), vI (x6 + (1:Int32)), vI (if x6 = (0:Int32) then y47 else (if y47 < x7 then y47 else x7)), vI (if x6 = (0:Int32) then y47 else (if x8 < y47 then y47 else x8)), vI x9, none, vI y47], [], (H0 s o))) rfl ?_
  exact zM [tt,tt,tt,tt,tt,tt,tt,tt,tt,tt,ff,ff] (tJ8_152 Ad W s o x1 x2 x3 x4 (x5 + y47) (x6 + (1:Int32)) (if x6 = (0:Int32) then y47 else (if y47 < x7 then y47 else x7)) (if x6 = (0:Int32) then y47 else (if x8 < y47 then y47 else x8)) x9 h hx0 hc)
 rcases em (x6 = (0:Int32)) with hc51 | hc51
 ·refine zF Ad W (t := 120) (f := 109) rfl (XT.i0_ne_f hc51) ?_
  refine zS Ad W 4 (st' := (117, [vR 1, vI x1, vI x2, vI x3, vI x4, vI x5, vI x6, vI y47, vI y47, vI x9, vI x10, vI y47], [], (H0 s o))) rfl ?_
  refine zS Ad W 1 (st' := (142, [vR 1, vI x1, vI x2, vI x3, vI x4, vI x5, vI x6, vI y47, vI y47, vI x9, vI x10, vI y47], [], (H0 s o))) rfl ?_
  exact zM [tt,tt,tt,tt,tt,tt,tt,tt,tt,tt,ff,tt] (K50 _ (if_pos hc51).symm _ (if_pos hc51).symm)
 ·refine zT Ad W (t := 120) (f := 109) rfl (XT.i0_ne_t hc51) ?_
  refine zS Ad W 2 (st' := (124, [vR 1, vI x1, vI x2, vI x3, vI x4, vI x5, vI x6, vI x7, vI x8, vI x9, vI x10, vI y47], [.int x7, .int y47], (H0 s o))) rfl ?_
  rcases em (y47 < x7) with hc52 | hc52
  ·refine zF Ad W (t := 131) (f := 127) rfl (XT.ii_ge_f hc52) ?_
   refine zS Ad W 4 (st' := (135, [vR 1, vI x1, vI x2, vI x3, vI x4, vI x5, vI x6, vI y47, vI x8, vI x9, vI x10, vI y47], [.int x8, .int y47], (H0 s o))) rfl ?_
   rcases em (x8 < y47) with hc53 | hc53
   ·refine zF Ad W (t := 142) (f := 138) rfl (XT.ii_le_f hc53) ?_
    refine zS Ad W 2 (st' := (142, [vR 1, vI x1, vI x2, vI x3, vI x4, vI x5, vI x6, vI y47, vI y47, vI x9, vI x10, vI y47], [], (H0 s o))) rfl ?_
    exact zM [tt,tt,tt,tt,tt,tt,tt,tt,tt,tt,ff,tt] (K50 _ ((if_neg hc51).trans (if_pos hc52)).symm _ ((if_neg hc51).trans (if_pos hc53)).symm)
   ·refine zT Ad W (t := 142) (f := 138) rfl (XT.ii_le_t hc53) ?_
    exact zM [tt,tt,tt,tt,tt,tt,tt,tt,tt,tt,ff,tt] (K50 _ ((if_neg hc51).trans (if_pos hc52)).symm _ ((if_neg hc51).trans (if_neg hc53)).symm)
  ·refine zT Ad W (t := 131) (f := 127) rfl (XT.ii_ge_t hc52) ?_
   refine zS Ad W 2 (st' := (135, [vR 1, vI x1, vI x2, vI x3, vI x4, vI x5, vI x6, vI x7, vI x8, vI x9, vI x10, vI y47], [.int x8, .int y47], (H0 s o))) rfl ?_
   rcases em (x8 < y47) with hc54 | hc54
   ·refine zF Ad W (t := 142) (f := 138) rfl (XT.ii_le_f hc54) ?_
    refine zS Ad W 2 (st' := (142, [vR 1, vI x1, vI x2, vI x3, vI x4, vI x5, vI x6, vI x7, vI y47, vI x9, vI x10, vI y47], [], (H0 s o))) rfl ?_
    exact zM [tt,tt,tt,tt,tt,tt,tt,tt,tt,tt,ff,tt] (K50 _ ((if_neg hc51).trans (if_neg hc52)).symm _ ((if_neg hc51).trans (if_pos hc54)).symm)
   ·refine zT Ad W (t := 142) (f := 138) rfl (XT.ii_le_t hc54) ?_
    exact zM [tt,tt,tt,tt,tt,tt,tt,tt,tt,tt,ff,tt] (K50 _ ((if_neg hc51).trans (if_neg hc52)).symm _ ((if_neg hc51).trans (if_neg hc54)).symm)
def J8_66 (o : Ob) (x1 : Int32) (x2 : Int32) (x3 : Int32) (x4 : Int32) (x5 : Int32) (x6 : Int32) (x7 : Int32) (x8 : Int32) (x9 : Int32) (x10 : Int32) : Option (((Int32 × Int32 × Int32 × Int32)) ⊕ (Int32 × Int32 × Int32 × Int32 × Int32)) :=
  (if x3 = (0 : Int32) then (J8_90 o x1 x2 x3 x4 x5 x6 x7 x8 x9 x10) else (aget (f_data o) (x10 + (f_cf o))).bind fun y55 => (if y55 = x4 then (J8_90 o x1 x2 x3 x4 x5 x6 x7 x8 x9 x10) else (J8_152 o x1 x2 x3 x4 x5 x6 x7 x8 x9)))
theorem tJ8_66 (Ad : QAd n0 ad) (W : QW Z a0) (s : List Int32) (o : Ob) (x1 : Int32) (x2 : Int32) (x3 : Int32) (x4 : Int32) (x5 : Int32) (x6 : Int32) (x7 : Int32) (x8 : Int32) (x9 : Int32) (x10 : Int32) {r : ((Int32 × Int32 × Int32 × Int32)) ⊕ (Int32 × Int32 × Int32 × Int32 × Int32)} {u : Option Value} {τ : QHeap} (h : J8_66 o x1 x2 x3 x4 x5 x6 x7 x8 x9 x10 = some r) (hx0 : ∀ x : Int32 × Int32 × Int32 × Int32, r = .inl x → QTri l Z n0 ad 8 (158, [vR 1, none, none, none, none, vI x.1, vI x.2.1, vI x.2.2.1, vI x.2.2.2, none, none, none], [], (H0 s o)) u τ) (hc : ∀ x : Int32 × Int32 × Int32 × Int32 × Int32, r = .inr x → QTri l Z n0 ad 8 (15, [vR 1, vI x1, vI x2, vI x3, vI x4, vI x.1, vI x.2.1, vI x.2.2.1, vI x.2.2.2.1, vI x.2.2.2.2, none, none], [], (H0 s o)) u τ) : QTri l Z n0 ad 8 (66, [vR 1, vI x1, vI x2, vI x3, vI x4, vI x5, vI x6, vI x7, vI x8, vI x9, vI x10, none], [], (H0 s o)) u τ := by
 unfold J8_66 at h
 refine zS Ad W 1 (st' := (67, [vR 1, vI x1, vI x2, vI x3, vI x4, vI x5, vI x6, vI x7, vI x8, vI x9, vI x10, none], [.int x3], (H0 s o))) rfl ?_
 rcases qite h with ⟨hc46, h⟩ | ⟨hc46, h⟩
 ·refine zT Ad W (t := 90) (f := 70) rfl (XT.i0_eq_t hc46) ?_
  exact zM [tt,tt,tt,tt,tt,tt,tt,tt,tt,tt,tt,ff] (tJ8_90 Ad W s o x1 x2 x3 x4 x5 x6 x7 x8 x9 x10 h hx0 hc)
 ·refine zF Ad W (t := 90) (f := 70) rfl (XT.i0_eq_f hc46) ?_
  refine zS Ad W 6 (st' := (81, [vR 1, vI x1, vI x2, vI x3, vI x4, vI x5, vI x6, vI x7, vI x8, vI x9, vI x10, none], [.int (x10 + (f_cf o)), .ref 2], (H0 s o))) rfl ?_
  obtain ⟨y55, hy55, h⟩ := bind_eq_some_iff.mp h
  refine zB Ad W (f := fun y55 => (82, [vR 1, vI x1, vI x2, vI x3, vI x4, vI x5, vI x6, vI x7, vI x8, vI x9, vI x10, none], [.int y55], (H0 s o))) rfl hy55 ?_
  refine zS Ad W 1 (st' := (84, [vR 1, vI x1, vI x2, vI x3, vI x4, vI x5, vI x6, vI x7, vI x8, vI x9, vI x10, none], [.int x4, .int y55], (H0 s o))) rfl ?_
  rcases qite h with ⟨hc56, h⟩ | ⟨hc56, h⟩
  ·refine zT Ad W (t := 90) (f := 87) rfl (XT.ii_eq_t hc56) ?_
   exact zM [tt,tt,tt,tt,tt,tt,tt,tt,tt,tt,tt,ff] (tJ8_90 Ad W s o x1 x2 x3 x4 x5 x6 x7 x8 x9 x10 h hx0 hc)
  ·refine zF Ad W (t := 90) (f := 87) rfl (XT.ii_eq_f hc56) ?_
   refine zS Ad W 1 (st' := (152, [vR 1, vI x1, vI x2, vI x3, vI x4, vI x5, vI x6, vI x7, vI x8, vI x9, vI x10, none], [], (H0 s o))) rfl ?_
   exact zM [tt,tt,tt,tt,tt,tt,tt,tt,tt,tt,ff,ff] (tJ8_152 Ad W s o x1 x2 x3 x4 x5 x6 x7 x8 x9 h hx0 hc)
def B8_15 (o : Ob) (x1 : Int32) (x2 : Int32) (x3 : Int32) (x4 : Int32) (v : Int32 × Int32 × Int32 × Int32 × Int32) : Option (((Int32 × Int32 × Int32 × Int32)) ⊕ (Int32 × Int32 × Int32 × Int32 × Int32)) :=
  (if v.2.2.2.2 < (f_nRows o) then (aget (f_filled o) v.2.2.2.2).bind fun y43 => (if y43 = (0 : Int32) then (J8_152 o x1 x2 x3 x4 v.1 v.2.1 v.2.2.1 v.2.2.2.1 v.2.2.2.2) else (if x1 = (0 : Int32) then (J8_66 o x1 x2 x3 x4 v.1 v.2.1 v.2.2.1 v.2.2.2.1 v.2.2.2.2 (v.2.2.2.2 * (4 : Int32))) else (aget (f_data o) ((v.2.2.2.2 * (4 : Int32)) + (f_rf o))).bind fun y57 => (if y57 = x2 then (J8_66 o x1 x2 x3 x4 v.1 v.2.1 v.2.2.1 v.2.2.2.1 v.2.2.2.2 (v.2.2.2.2 * (4 : Int32))) else (J8_152 o x1 x2 x3 x4 v.1 v.2.1 v.2.2.1 v.2.2.2.1 v.2.2.2.2)))) else some (.inl (v.1, v.2.1, v.2.2.1, v.2.2.2.1)))
theorem tB8_15 (Ad : QAd n0 ad) (W : QW Z a0) (s : List Int32) (o : Ob) (x1 : Int32) (x2 : Int32) (x3 : Int32) (x4 : Int32) (v : Int32 × Int32 × Int32 × Int32 × Int32) {r : ((Int32 × Int32 × Int32 × Int32)) ⊕ (Int32 × Int32 × Int32 × Int32 × Int32)} {u : Option Value} {τ : QHeap} (h : B8_15 o x1 x2 x3 x4 v = some r) (hx0 : ∀ x : Int32 × Int32 × Int32 × Int32, r = .inl x → QTri l Z n0 ad 8 (158, [vR 1, none, none, none, none, vI x.1, vI x.2.1, vI x.2.2.1, vI x.2.2.2, none, none, none], [], (H0 s o)) u τ) (hc : ∀ x : Int32 × Int32 × Int32 × Int32 × Int32, r = .inr x → QTri l Z n0 ad 8 (15, [vR 1, vI x1, vI x2, vI x3, vI x4, vI x.1, vI x.2.1, vI x.2.2.1, vI x.2.2.2.1, vI x.2.2.2.2, none, none], [], (H0 s o)) u τ) : QTri l Z n0 ad 8 (15, [vR 1, vI x1, vI x2, vI x3, vI x4, vI v.1, vI v.2.1, vI v.2.2.1, vI v.2.2.2.1, vI v.2.2.2.2, none, none], [], (H0 s o)) u τ := by
 unfold B8_15 at h
 refine zS Ad W 3 (st' := (21, [vR 1, vI x1, vI x2, vI x3, vI x4, vI v.1, vI v.2.1, vI v.2.2.1, vI v.2.2.2.1, vI v.2.2.2.2, none, none], [.int (f_nRows o), .int v.2.2.2.2], (H0 s o))) rfl ?_
 rcases qite h with ⟨hc42, h⟩ | ⟨hc42, h⟩
 ·refine zF Ad W (t := 158) (f := 24) rfl (XT.ii_ge_f hc42) ?_
  refine zS Ad W 3 (st' := (30, [vR 1, vI x1, vI x2, vI x3, vI x4, vI v.1, vI v.2.1, vI v.2.2.1, vI v.2.2.2.1, vI v.2.2.2.2, none, none], [.int v.2.2.2.2, .ref 3], (H0 s o))) rfl ?_
  obtain ⟨y43, hy43, h⟩ := bind_eq_some_iff.mp h
  refine zB Ad W (f := fun y43 => (31, [vR 1, vI x1, vI x2, vI x3, vI x4, vI v.1, vI v.2.1, vI v.2.2.1, vI v.2.2.2.1, vI v.2.2.2.2, none, none], [.int y43], (H0 s o))) rfl hy43 ?_
  rcases qite h with ⟨hc44, h⟩ | ⟨hc44, h⟩
  ·refine zF Ad W (t := 37) (f := 34) rfl (XT.i0_ne_f hc44) ?_
   refine zS Ad W 1 (st' := (152, [vR 1, vI x1, vI x2, vI x3, vI x4, vI v.1, vI v.2.1, vI v.2.2.1, vI v.2.2.2.1, vI v.2.2.2.2, none, none], [], (H0 s o))) rfl ?_
   exact zM [tt,tt,tt,tt,tt,tt,tt,tt,tt,tt,ff,ff] (tJ8_152 Ad W s o x1 x2 x3 x4 v.1 v.2.1 v.2.2.1 v.2.2.2.1 v.2.2.2.2 h hx0 hc)
  ·refine zT Ad W (t := 37) (f := 34) rfl (XT.i0_ne_t hc44) ?_
   refine zS Ad W 5 (st' := (44, [vR 1, vI x1, vI x2, vI x3, vI x4, vI v.1, vI v.2.1, vI v.2.2.1, vI v.2.2.2.1, vI v.2.2.2.2, vI (v.2.2.2.2 * (4:Int32)), none], [.int x1], (H0 s o))) rfl ?_
   rcases qite h with ⟨hc45, h⟩ | ⟨hc45, h⟩
   ·refine zT Ad W (t := 66) (f := 47) rfl (XT.i0_eq_t hc45) ?_
    exact zM [tt,tt,tt,tt,tt,tt,tt,tt,tt,tt,tt,ff] (tJ8_66 Ad W s o x1 x2 x3 x4 v.1 v.2.1 v.2.2.1 v.2.2.2.1 v.2.2.2.2 (v.2.2.2.2 * (4:Int32)) h hx0 hc)
   ·refine zF Ad W (t := 66) (f := 47) rfl (XT.i0_eq_f hc45) ?_
    refine zS Ad W 6 (st' := (58, [vR 1, vI x1, vI x2, vI x3, vI x4, vI v.1, vI v.2.1, vI v.2.2.1, vI v.2.2.2.1, vI v.2.2.2.2, vI (v.2.2.2.2 * (4:Int32)), none], [.int ((v.2.2.2.2 * (4:Int32)) + (f_rf o)), .ref 2], (H0 s o))) rfl ?_
    obtain ⟨y57, hy57, h⟩ := bind_eq_some_iff.mp h
    refine zB Ad W (f := fun y57 => (59, [vR 1, vI x1, vI x2, vI x3, vI x4, vI v.1, vI v.2.1, vI v.2.2.1, vI v.2.2.2.1, vI v.2.2.2.2, vI (v.2.2.2.2 * (4:Int32)), none], [.int y57], (H0 s o))) rfl hy57 ?_
    refine zS Ad W 1 (st' := (60, [vR 1, vI x1, vI x2, vI x3, vI x4, vI v.1, vI v.2.1, vI v.2.2.1, vI v.2.2.2.1, vI v.2.2.2.2, vI (v.2.2.2.2 * (4:Int32)), none], [.int x2, .int y57], (H0 s o))) rfl ?_
    rcases qite h with ⟨hc58, h⟩ | ⟨hc58, h⟩
    ·refine zT Ad W (t := 66) (f := 63) rfl (XT.ii_eq_t hc58) ?_
     exact zM [tt,tt,tt,tt,tt,tt,tt,tt,tt,tt,tt,ff] (tJ8_66 Ad W s o x1 x2 x3 x4 v.1 v.2.1 v.2.2.1 v.2.2.2.1 v.2.2.2.2 (v.2.2.2.2 * (4:Int32)) h hx0 hc)
    ·refine zF Ad W (t := 66) (f := 63) rfl (XT.ii_eq_f hc58) ?_
     refine zS Ad W 1 (st' := (152, [vR 1, vI x1, vI x2, vI x3, vI x4, vI v.1, vI v.2.1, vI v.2.2.1, vI v.2.2.2.1, vI v.2.2.2.2, vI (v.2.2.2.2 * (4:Int32)), none], [], (H0 s o))) rfl ?_
     exact zM [tt,tt,tt,tt,tt,tt,tt,tt,tt,tt,ff,ff] (tJ8_152 Ad W s o x1 x2 x3 x4 v.1 v.2.1 v.2.2.1 v.2.2.2.1 v.2.2.2.2 h hx0 hc)
 ·refine zT Ad W (t := 158) (f := 24) rfl (XT.ii_ge_t hc42) ?_
  obtain rfl := Option.some.inj h
  exact zM [tt,ff,ff,ff,ff,tt,tt,tt,tt,ff,ff,ff] (hx0 (v.1, v.2.1, v.2.2.1, v.2.2.2.1) rfl)
def H0x6 (s : List Int32) (o0 : Ob) (a0_16 : Int32) : QHeap := H0v s (f_data o0) (f_filled o0) (f_rf o0) (f_cf o0) (f_vf o0) (f_ag o0) (f_fMode o0) (f_fRk o0) (f_fCk o0) (f_prevVal o0) (f_prevFound o0) (f_keys o0) (f_nRows o0) (f_nForms o0) (f_last o0) (f_gVal o0) a0_16 (f_selUseR o0) (f_selRk o0) (f_selUseC o0) (f_selCk o0)
/-- pickAgg(IIII)I -/
def F9 (o : Ob) (x1 : Int32) (x2 : Int32) (x3 : Int32) (x4 : Int32) : Option (Int32) :=
 (if x1 = (0:Int32) then some (0:Int32) else (if (f_ag o) = (1:Int32) then some x1 else (if (f_ag o) = (2:Int32) then some x3 else (if (f_ag o) = (3:Int32) then some x4 else some x2))))
theorem tF9 (Ad : QAd n0 ad) (W : QW Z a0) (s : List Int32) (o : Ob) (x1 : Int32) (x2 : Int32) (x3 : Int32) (x4 : Int32) {r : Int32} (h : F9 o x1 x2 x3 x4 = some r) : QTri l Z n0 ad 9 (0, qentry [.ref 1, .int x1, .int x2, .int x3, .int x4] (pMaxL 9), [], (H0 s o)) (some (Value.int r)) (H0 s o) := by
 unfold F9 at h
 refine zS Ad W 1 (st' := (1, [vR 1, vI x1, vI x2, vI x3, vI x4], [.int x1], (H0 s o))) rfl ?_
 rcases qite h with ⟨hc62, h⟩ | ⟨hc62, h⟩
 ·refine zF Ad W (t := 6) (f := 4) rfl (XT.i0_ne_f hc62) ?_
  refine zS Ad W 1 (st' := (5, [vR 1, vI x1, vI x2, vI x3, vI x4], [.int (0:Int32)], (H0 s o))) rfl ?_
  obtain rfl := Option.some.inj h
  exact QTri.retI rfl rfl
 ·refine zT Ad W (t := 6) (f := 4) rfl (XT.i0_ne_t hc62) ?_
  refine zS Ad W 3 (st' := (11, [vR 1, vI x1, vI x2, vI x3, vI x4], [.int (1:Int32), .int (f_ag o)], (H0 s o))) rfl ?_
  rcases qite h with ⟨hc63, h⟩ | ⟨hc63, h⟩
  ·refine zF Ad W (t := 16) (f := 14) rfl (XT.ii_ne_f hc63) ?_
   refine zS Ad W 1 (st' := (15, [vR 1, vI x1, vI x2, vI x3, vI x4], [.int x1], (H0 s o))) rfl ?_
   obtain rfl := Option.some.inj h
   exact QTri.retI rfl rfl
  ·refine zT Ad W (t := 16) (f := 14) rfl (XT.ii_ne_t hc63) ?_
   refine zS Ad W 3 (st' := (21, [vR 1, vI x1, vI x2, vI x3, vI x4], [.int (2:Int32), .int (f_ag o)], (H0 s o))) rfl ?_
   rcases qite h with ⟨hc64, h⟩ | ⟨hc64, h⟩
   ·refine zF Ad W (t := 26) (f := 24) rfl (XT.ii_ne_f hc64) ?_
    refine zS Ad W 1 (st' := (25, [vR 1, vI x1, vI x2, vI x3, vI x4], [.int x3], (H0 s o))) rfl ?_
    obtain rfl := Option.some.inj h
    exact QTri.retI rfl rfl
   ·refine zT Ad W (t := 26) (f := 24) rfl (XT.ii_ne_t hc64) ?_
    refine zS Ad W 3 (st' := (31, [vR 1, vI x1, vI x2, vI x3, vI x4], [.int (3:Int32), .int (f_ag o)], (H0 s o))) rfl ?_
    rcases qite h with ⟨hc65, h⟩ | ⟨hc65, h⟩
    ·refine zF Ad W (t := 37) (f := 34) rfl (XT.ii_ne_f hc65) ?_
     refine zS Ad W 1 (st' := (36, [vR 1, vI x1, vI x2, vI x3, vI x4], [.int x4], (H0 s o))) rfl ?_
     obtain rfl := Option.some.inj h
     exact QTri.retI rfl rfl
    ·refine zT Ad W (t := 37) (f := 34) rfl (XT.ii_ne_t hc65) ?_
     refine zS Ad W 1 (st' := (38, [vR 1, vI x1, vI x2, vI x3, vI x4], [.int x2], (H0 s o))) rfl ?_
     obtain rfl := Option.some.inj h
     exact QTri.retI rfl rfl
/-- evalGroup(ZIZI)V -/
def F8 (o : Ob) (x1 : Int32) (x2 : Int32) (x3 : Int32) (x4 : Int32) : Option (Ob) :=
 (loopN (B8_15 o x1 x2 x3 x4) qN ((0:Int32), (0:Int32), (0:Int32), (0:Int32), (0:Int32))).bind fun e59 => (F9 (s_gCount o e59.2.1) e59.2.1 e59.1 e59.2.2.1 e59.2.2.2).bind fun r66 => some (s_gVal (s_gCount o e59.2.1) r66)
theorem tF8 (Ad : QAd n0 ad) (W : QW Z a0) (s : List Int32) (o : Ob) (x1 : Int32) (x2 : Int32) (x3 : Int32) (x4 : Int32) {r : Ob} (h : F8 o x1 x2 x3 x4 = some r) : QTri l Z n0 ad 8 (0, qentry [.ref 1, .int x1, .int x2, .int x3, .int x4] (pMaxL 8), [], (H0 s o)) (none : Option Value) (H0 s r) := by
 unfold F8 at h
 refine zS Ad W 4 (st' := (6, [vR 1, vI x1, vI x2, vI x3, vI x4, vI (0:Int32), vI (0:Int32), none, none, none, none, none], [], (H0 s o))) rfl ?_
 refine zS Ad W 4 (st' := (12, [vR 1, vI x1, vI x2, vI x3, vI x4, vI (0:Int32), vI (0:Int32), vI (0:Int32), vI (0:Int32), none, none, none], [], (H0 s o))) rfl ?_
 refine zS Ad W 2 (st' := (15, [vR 1, vI x1, vI x2, vI x3, vI x4, vI (0:Int32), vI (0:Int32), vI (0:Int32), vI (0:Int32), vI (0:Int32), none, none], [], (H0 s o))) rfl ?_
 obtain ⟨e59, he59, h⟩ := bind_eq_some_iff.mp h
 refine zM [tt,tt,tt,tt,tt,tt,tt,tt,tt,tt,ff,ff] (loopN_tri (B := B8_15 o x1 x2 x3 x4) (T := fun lv60 => QTri l Z n0 ad 8 (15, [vR 1, vI x1, vI x2, vI x3, vI x4, vI lv60.1, vI lv60.2.1, vI lv60.2.2.1, vI lv60.2.2.2.1, vI lv60.2.2.2.2, none, none], [], (H0 s o)) (none : Option Value) (H0 s r)) (KE := fun e59a => QTri l Z n0 ad 8 (158, [vR 1, none, none, none, none, vI e59a.1, vI e59a.2.1, vI e59a.2.2.1, vI e59a.2.2.2, none, none, none], [], (H0 s o)) (none : Option Value) (H0 s r)) (fun lv60 r hB hE hC => tB8_15 Ad W s o x1 x2 x3 x4 lv60 hB (fun x q => hE _ q) (fun x q => hC x q)) qN ((0:Int32), (0:Int32), (0:Int32), (0:Int32), (0:Int32)) e59 he59 ?_)
 refine zS Ad W 3 (st' := (164, [vR 1, none, none, none, none, vI e59.1, vI e59.2.1, vI e59.2.2.1, vI e59.2.2.2, none, none, none], [], (H0x6 s o e59.2.1))) rfl ?_
 refine zS Ad W 6 (st' := (174, [vR 1, none, none, none, none, vI e59.1, vI e59.2.1, vI e59.2.2.1, vI e59.2.2.2, none, none, none], [.int e59.2.2.2, .int e59.2.2.1, .int e59.1, .int e59.2.1, .ref 1, .ref 1], (H0x6 s o e59.2.1))) rfl ?_
 have E61 : ((H0x6 s o e59.2.1) : QHeap) = (H0 s (s_gCount o e59.2.1)) := by simp only [fs, H0, H0v, H0x6, s_gCount]
 rw [E61]
 obtain ⟨r66, hr66, h⟩ := bind_eq_some_iff.mp h
 refine QTri.callP W (a := 1) (as := [.int e59.2.1, .int e59.1, .int e59.2.2.1, .int e59.2.2.2]) (rest := [.ref 1]) (w := (some (.int r66))) (σ₁ := (H0 s (s_gCount o e59.2.1))) rfl rfl rfl rfl rfl rfl rfl rfl (tF9 Ad W s (s_gCount o e59.2.1) e59.2.1 e59.1 e59.2.2.1 e59.2.2.2 hr66) ?_
 refine zS Ad W 1 (st' := (180, [vR 1, none, none, none, none, vI e59.1, vI e59.2.1, vI e59.2.2.1, vI e59.2.2.2, none, none, none], [], (H0x4 s (s_gCount o e59.2.1) r66))) rfl ?_
 have E67 : ((H0x4 s (s_gCount o e59.2.1) r66) : QHeap) = (H0 s (s_gVal (s_gCount o e59.2.1) r66)) := (show ∀ b0 : Ob, ((H0x4 s b0 r66) : QHeap) = (H0 s (s_gVal b0 r66)) from fun b0 => by simp only [fs, H0, H0v, H0x4, s_gVal]) (s_gCount o e59.2.1)
 rw [E67]
 obtain rfl := Option.some.inj h
 exact QTri.ret0 rfl rfl
/-- evalFormula(I)V -/
def F7 (o : Ob) (x1 : Int32) : Option (Ob) :=
 (aget (f_fMode o) x1).bind fun y29 => (if y29 = (0:Int32) then some (s_gCount (s_gVal o (0:Int32)) (0:Int32)) else (aget (f_fRk o) x1).bind fun y40 => (aget (f_fCk o) x1).bind fun y41 => (F8 o (if y29 = (1:Int32) then (1:Int32) else (if y29 = (2:Int32) then (1:Int32) else (0:Int32))) y40 (if y29 = (1:Int32) then (1:Int32) else (if y29 = (3:Int32) then (1:Int32) else (0:Int32))) y41).bind fun r68 => some r68)
theorem tF7 (Ad : QAd n0 ad) (W : QW Z a0) (s : List Int32) (o : Ob) (x1 : Int32) {r : Ob} (h : F7 o x1 = some r) : QTri l Z n0 ad 7 (0, qentry [.ref 1, .int x1] (pMaxL 7), [], (H0 s o)) (none : Option Value) (H0 s r) := by
 unfold F7 at h
 refine zS Ad W 3 (st' := (5, [vR 1, vI x1, none, none, none], [.int x1, .ref 4], (H0 s o))) rfl ?_
 obtain ⟨y29, hy29, h⟩ := bind_eq_some_iff.mp h
 refine zB Ad W (f := fun y29 => (6, [vR 1, vI x1, none, none, none], [.int y29], (H0 s o))) rfl hy29 ?_
 refine zS Ad W 2 (st' := (8, [vR 1, vI x1, vI y29, none, none], [.int y29], (H0 s o))) rfl ?_
 rcases qite h with ⟨hc30, h⟩ | ⟨hc30, h⟩
 ·refine zF Ad W (t := 22) (f := 11) rfl (XT.i0_ne_f hc30) ?_
  refine zS Ad W 3 (st' := (16, [vR 1, vI x1, vI y29, none, none], [], (H0x4 s o (0:Int32)))) rfl ?_
  refine zS Ad W 3 (st' := (21, [vR 1, vI x1, vI y29, none, none], [], (H0x5 s o (0:Int32) (0:Int32)))) rfl ?_
  have E31 : ((H0x5 s o (0:Int32) (0:Int32)) : QHeap) = (H0 s (s_gCount (s_gVal o (0:Int32)) (0:Int32))) := by simp only [fs, H0, H0v, H0x5, s_gVal, s_gCount]
  rw [E31]
  obtain rfl := Option.some.inj h
  exact QTri.ret0 rfl rfl
 ·refine zT Ad W (t := 22) (f := 11) rfl (XT.i0_ne_t hc30) ?_
  refine zS Ad W 2 (st' := (24, [vR 1, vI x1, vI y29, none, none], [.int (1:Int32), .int y29], (H0 s o))) rfl ?_
  have K33 : ∀ z32 : Int32, z32 = (if y29 = (1:Int32) then (1:Int32) else (if y29 = (2:Int32) then (1:Int32) else (0:Int32))) → QTri l Z n0 ad 7 (37, [vR 1, vI x1, vI y29, none, none], [.int z32], (H0 s o)) (none : Option Value) (H0 s r) := by
   intro z32 ez32
   subst ez32
   refine zS Ad W 3 (st' := (40, [vR 1, vI x1, vI y29, vI (if y29 = (1:Int32) then (1:Int32) else (if y29 = (2:Int32) then (1:Int32) else (0:Int32))), none], [.int (1:Int32), .int y29], (H0 s o))) rfl ?_
   have K37 : ∀ z36 : Int32, z36 = (if y29 = (1:Int32) then (1:Int32) else (if y29 = (3:Int32) then (1:Int32) else (0:Int32))) → QTri l Z n0 ad 7 (53, [vR 1, vI x1, none, vI (if y29 = (1:Int32) then (1:Int32) else (if y29 = (2:Int32) then (1:Int32) else (0:Int32))), none], [.int z36], (H0 s o)) (none : Option Value) (H0 s r) := by
    intro z36 ez36
    subst ez36
    refine zS Ad W 6 (st' := (62, [vR 1, vI x1, none, vI (if y29 = (1:Int32) then (1:Int32) else (if y29 = (2:Int32) then (1:Int32) else (0:Int32))), vI (if y29 = (1:Int32) then (1:Int32) else (if y29 = (3:Int32) then (1:Int32) else (0:Int32)))], [.int x1, .ref 5, .int (if y29 = (1:Int32) then (1:Int32) else (if y29 = (2:Int32) then (1:Int32) else (0:Int32))), .ref 1], (H0 s o))) rfl ?_
    obtain ⟨y40, hy40, h⟩ := bind_eq_some_iff.mp h
    refine zB Ad W (f := fun y40 => (63, [vR 1, vI x1, none, vI (if y29 = (1:Int32) then (1:Int32) else (if y29 = (2:Int32) then (1:Int32) else (0:Int32))), vI (if y29 = (1:Int32) then (1:Int32) else (if y29 = (3:Int32) then (1:Int32) else (0:Int32)))], [.int y40, .int (if y29 = (1:Int32) then (1:Int32) else (if y29 = (2:Int32) then (1:Int32) else (0:Int32))), .ref 1], (H0 s o))) rfl hy40 ?_
    refine zS Ad W 4 (st' := (70, [vR 1, vI x1, none, vI (if y29 = (1:Int32) then (1:Int32) else (if y29 = (2:Int32) then (1:Int32) else (0:Int32))), vI (if y29 = (1:Int32) then (1:Int32) else (if y29 = (3:Int32) then (1:Int32) else (0:Int32)))], [.int x1, .ref 6, .int (if y29 = (1:Int32) then (1:Int32) else (if y29 = (3:Int32) then (1:Int32) else (0:Int32))), .int y40, .int (if y29 = (1:Int32) then (1:Int32) else (if y29 = (2:Int32) then (1:Int32) else (0:Int32))), .ref 1], (H0 s o))) rfl ?_
    obtain ⟨y41, hy41, h⟩ := bind_eq_some_iff.mp h
    refine zB Ad W (f := fun y41 => (71, [vR 1, vI x1, none, vI (if y29 = (1:Int32) then (1:Int32) else (if y29 = (2:Int32) then (1:Int32) else (0:Int32))), vI (if y29 = (1:Int32) then (1:Int32) else (if y29 = (3:Int32) then (1:Int32) else (0:Int32)))], [.int y41, .int (if y29 = (1:Int32) then (1:Int32) else (if y29 = (3:Int32) then (1:Int32) else (0:Int32))), .int y40, .int (if y29 = (1:Int32) then (1:Int32) else (if y29 = (2:Int32) then (1:Int32) else (0:Int32))), .ref 1], (H0 s o))) rfl hy41 ?_
    obtain ⟨r68, hr68, h⟩ := bind_eq_some_iff.mp h
    refine QTri.callP W (a := 1) (as := [.int (if y29 = (1:Int32) then (1:Int32) else (if y29 = (2:Int32) then (1:Int32) else (0:Int32))), .int y40, .int (if y29 = (1:Int32) then (1:Int32) else (if y29 = (3:Int32) then (1:Int32) else (0:Int32))), .int y41]) (rest := []) (w := none) (σ₁ := (H0 s r68)) rfl rfl rfl rfl rfl rfl rfl rfl (tF8 Ad W s o (if y29 = (1:Int32) then (1:Int32) else (if y29 = (2:Int32) then (1:Int32) else (0:Int32))) y40 (if y29 = (1:Int32) then (1:Int32) else (if y29 = (3:Int32) then (1:Int32) else (0:Int32))) y41 hr68) ?_
    obtain rfl := Option.some.inj h
    exact QTri.ret0 rfl rfl
   rcases em (y29 = (1:Int32)) with hc38 | hc38
   ·refine zT Ad W (t := 48) (f := 43) rfl (XT.ii_eq_t hc38) ?_
    refine zS Ad W 2 (st' := (53, [vR 1, vI x1, vI y29, vI (if y29 = (1:Int32) then (1:Int32) else (if y29 = (2:Int32) then (1:Int32) else (0:Int32))), none], [.int (1:Int32)], (H0 s o))) rfl ?_
    exact zM [tt,tt,ff,tt,ff] (K37 _ (if_pos hc38).symm)
   ·refine zF Ad W (t := 48) (f := 43) rfl (XT.ii_eq_f hc38) ?_
    refine zS Ad W 2 (st' := (45, [vR 1, vI x1, vI y29, vI (if y29 = (1:Int32) then (1:Int32) else (if y29 = (2:Int32) then (1:Int32) else (0:Int32))), none], [.int (3:Int32), .int y29], (H0 s o))) rfl ?_
    rcases em (y29 = (3:Int32)) with hc39 | hc39
    ·refine zF Ad W (t := 52) (f := 48) rfl (XT.ii_ne_f hc39) ?_
     refine zS Ad W 2 (st' := (53, [vR 1, vI x1, vI y29, vI (if y29 = (1:Int32) then (1:Int32) else (if y29 = (2:Int32) then (1:Int32) else (0:Int32))), none], [.int (1:Int32)], (H0 s o))) rfl ?_
     exact zM [tt,tt,ff,tt,ff] (K37 _ ((if_neg hc38).trans (if_pos hc39)).symm)
    ·refine zT Ad W (t := 52) (f := 48) rfl (XT.ii_ne_t hc39) ?_
     refine zS Ad W 1 (st' := (53, [vR 1, vI x1, vI y29, vI (if y29 = (1:Int32) then (1:Int32) else (if y29 = (2:Int32) then (1:Int32) else (0:Int32))), none], [.int (0:Int32)], (H0 s o))) rfl ?_
     exact zM [tt,tt,ff,tt,ff] (K37 _ ((if_neg hc38).trans (if_neg hc39)).symm)
  rcases em (y29 = (1:Int32)) with hc34 | hc34
  ·refine zT Ad W (t := 32) (f := 27) rfl (XT.ii_eq_t hc34) ?_
   refine zS Ad W 2 (st' := (37, [vR 1, vI x1, vI y29, none, none], [.int (1:Int32)], (H0 s o))) rfl ?_
   exact zM [tt,tt,tt,ff,ff] (K33 _ (if_pos hc34).symm)
  ·refine zF Ad W (t := 32) (f := 27) rfl (XT.ii_eq_f hc34) ?_
   refine zS Ad W 2 (st' := (29, [vR 1, vI x1, vI y29, none, none], [.int (2:Int32), .int y29], (H0 s o))) rfl ?_
   rcases em (y29 = (2:Int32)) with hc35 | hc35
   ·refine zF Ad W (t := 36) (f := 32) rfl (XT.ii_ne_f hc35) ?_
    refine zS Ad W 2 (st' := (37, [vR 1, vI x1, vI y29, none, none], [.int (1:Int32)], (H0 s o))) rfl ?_
    exact zM [tt,tt,tt,ff,ff] (K33 _ ((if_neg hc34).trans (if_pos hc35)).symm)
   ·refine zT Ad W (t := 36) (f := 32) rfl (XT.ii_ne_t hc35) ?_
    refine zS Ad W 1 (st' := (37, [vR 1, vI x1, vI y29, none, none], [.int (0:Int32)], (H0 s o))) rfl ?_
    exact zM [tt,tt,tt,ff,ff] (K33 _ ((if_neg hc34).trans (if_neg hc35)).symm)
def H0x7 (s : List Int32) (o0 : Ob) (a0_9 : List Int32) : QHeap := H0v s (f_data o0) (f_filled o0) (f_rf o0) (f_cf o0) (f_vf o0) (f_ag o0) (f_fMode o0) (f_fRk o0) (f_fCk o0) a0_9 (f_prevFound o0) (f_keys o0) (f_nRows o0) (f_nForms o0) (f_last o0) (f_gVal o0) (f_gCount o0) (f_selUseR o0) (f_selRk o0) (f_selUseC o0) (f_selCk o0)
def H0x8 (s : List Int32) (o0 : Ob) (a0_9 : List Int32) (a0_10 : List Int32) : QHeap := H0v s (f_data o0) (f_filled o0) (f_rf o0) (f_cf o0) (f_vf o0) (f_ag o0) (f_fMode o0) (f_fRk o0) (f_fCk o0) a0_9 a0_10 (f_keys o0) (f_nRows o0) (f_nForms o0) (f_last o0) (f_gVal o0) (f_gCount o0) (f_selUseR o0) (f_selRk o0) (f_selUseC o0) (f_selCk o0)
def B6_2 (v : Int32 × Ob) : Option (((Ob)) ⊕ (Int32 × Ob)) :=
  (if v.1 < (f_nForms v.2) then (F7 v.2 v.1).bind fun r69 => (aset (f_prevVal r69) v.1 (f_gVal r69)).bind fun y70 => (aset (f_prevFound r69) v.1 ((if (0 : Int32) < (f_gCount r69) then (1 : Int32) else (0 : Int32)) &&& 1)).bind fun y74 => some (.inr ((v.1 + (1 : Int32)), (s_prevFound (s_prevVal r69 y70) y74))) else some (.inl v.2))
theorem tB6_2 (Ad : QAd n0 ad) (W : QW Z a0) (s : List Int32) (v : Int32 × Ob) {r : ((Ob)) ⊕ (Int32 × Ob)} {u : Option Value} {τ : QHeap} (h : B6_2 v = some r) (hx0 : ∀ x : Ob, r = .inl x → u = (none : Option Value) ∧ τ = (H0 s x)) (hc : ∀ x : Int32 × Ob, r = .inr x → QTri l Z n0 ad 6 (2, [vR 1, vI x.1], [], (H0 s x.2)) u τ) : QTri l Z n0 ad 6 (2, [vR 1, vI v.1], [], (H0 s v.2)) u τ := by
 unfold B6_2 at h
 refine zS Ad W 3 (st' := (7, [vR 1, vI v.1], [.int (f_nForms v.2), .int v.1], (H0 s v.2))) rfl ?_
 rcases qite h with ⟨hc28, h⟩ | ⟨hc28, h⟩
 ·refine zF Ad W (t := 49) (f := 10) rfl (XT.ii_ge_f hc28) ?_
  refine zS Ad W 2 (st' := (12, [vR 1, vI v.1], [.int v.1, .ref 1], (H0 s v.2))) rfl ?_
  obtain ⟨r69, hr69, h⟩ := bind_eq_some_iff.mp h
  refine QTri.callP W (a := 1) (as := [.int v.1]) (rest := []) (w := none) (σ₁ := (H0 s r69)) rfl rfl rfl rfl rfl rfl rfl rfl (tF7 Ad W s v.2 v.1 hr69) ?_
  refine zS Ad W 5 (st' := (24, [vR 1, vI v.1], [.int (f_gVal r69), .int v.1, .ref 7], (H0 s r69))) rfl ?_
  obtain ⟨y70, hy70, h⟩ := bind_eq_some_iff.mp h
  refine zB Ad W (f := fun y70 => (25, [vR 1, vI v.1], [], (H0x7 s r69 y70))) rfl hy70 ?_
  refine zS Ad W 5 (st' := (34, [vR 1, vI v.1], [.int (f_gCount r69), .int v.1, .ref 8], (H0x7 s r69 y70))) rfl ?_
  have K72 : ∀ z71 : Int32, z71 = (if (0:Int32) < (f_gCount r69) then (1:Int32) else (0:Int32)) → QTri l Z n0 ad 6 (42, [vR 1, vI v.1], [.int z71, .int v.1, .ref 8], (H0x7 s r69 y70)) u τ := by
   intro z71 ez71
   subst ez71
   obtain ⟨y74, hy74, h⟩ := bind_eq_some_iff.mp h
   refine zB Ad W (f := fun y74 => (43, [vR 1, vI v.1], [], (H0x8 s r69 y70 y74))) rfl hy74 ?_
   refine zS Ad W 2 (st' := (2, [vR 1, vI (v.1 + (1:Int32))], [], (H0x8 s r69 y70 y74))) rfl ?_
   have E75 : ((H0x8 s r69 y70 y74) : QHeap) = (H0 s (s_prevFound (s_prevVal r69 y70) y74)) := by simp only [fs, H0, H0v, H0x8, s_prevVal, s_prevFound]
   rw [E75]
   obtain rfl := Option.some.inj h
   exact zM [tt,tt] (hc ((v.1 + (1:Int32)), (s_prevFound (s_prevVal r69 y70) y74)) rfl)
  rcases em ((0:Int32) < (f_gCount r69)) with hc73 | hc73
  ·refine zF Ad W (t := 41) (f := 37) rfl (XT.i0_le_f hc73) ?_
   refine zS Ad W 2 (st' := (42, [vR 1, vI v.1], [.int (1:Int32), .int v.1, .ref 8], (H0x7 s r69 y70))) rfl ?_
   exact zM [tt,tt] (K72 _ (if_pos hc73).symm)
  ·refine zT Ad W (t := 41) (f := 37) rfl (XT.i0_le_t hc73) ?_
   refine zS Ad W 1 (st' := (42, [vR 1, vI v.1], [.int (0:Int32), .int v.1, .ref 8], (H0x7 s r69 y70))) rfl ?_
   exact zM [tt,tt] (K72 _ (if_neg hc73).symm)
 ·refine zT Ad W (t := 49) (f := 10) rfl (XT.ii_ge_t hc28) ?_
  obtain rfl := Option.some.inj h
  obtain ⟨rfl, rfl⟩ := hx0 v.2 rfl
  exact QTri.ret0 rfl rfl
/-- snapshot()V -/
def F6 (o : Ob) : Option (Ob) :=
 (loopN (B6_2) qN ((0:Int32), o)).bind fun e76 => some e76
theorem tF6 (Ad : QAd n0 ad) (W : QW Z a0) (s : List Int32) (o : Ob) {r : Ob} (h : F6 o = some r) : QTri l Z n0 ad 6 (0, qentry [.ref 1] (pMaxL 6), [], (H0 s o)) (none : Option Value) (H0 s r) := by
 unfold F6 at h
 refine zS Ad W 2 (st' := (2, [vR 1, vI (0:Int32)], [], (H0 s o))) rfl ?_
 obtain ⟨e76, he76, h⟩ := bind_eq_some_iff.mp h
 refine zM [tt,tt] (loopN_tri (B := B6_2) (T := fun lv77 => QTri l Z n0 ad 6 (2, [vR 1, vI lv77.1], [], (H0 s lv77.2)) (none : Option Value) (H0 s r)) (KE := fun e76a => (none : Option Value) = (none : Option Value) ∧ (H0 s r) = (H0 s e76a)) (fun lv77 r hB hE hC => tB6_2 Ad W s lv77 hB (fun x q => hE _ q) (fun x q => hC x q)) qN ((0:Int32), o) e76 he76 ?_)
 obtain rfl := Option.some.inj h
 exact ⟨rfl, rfl⟩
def H0x9 (s : List Int32) (o0 : Ob) (a0_0 : List Int32) : QHeap := H0v s a0_0 (f_filled o0) (f_rf o0) (f_cf o0) (f_vf o0) (f_ag o0) (f_fMode o0) (f_fRk o0) (f_fCk o0) (f_prevVal o0) (f_prevFound o0) (f_keys o0) (f_nRows o0) (f_nForms o0) (f_last o0) (f_gVal o0) (f_gCount o0) (f_selUseR o0) (f_selRk o0) (f_selUseC o0) (f_selCk o0)
def H0x10 (s : List Int32) (o0 : Ob) (a0_0 : List Int32) (a0_1 : List Int32) : QHeap := H0v s a0_0 a0_1 (f_rf o0) (f_cf o0) (f_vf o0) (f_ag o0) (f_fMode o0) (f_fRk o0) (f_fCk o0) (f_prevVal o0) (f_prevFound o0) (f_keys o0) (f_nRows o0) (f_nForms o0) (f_last o0) (f_gVal o0) (f_gCount o0) (f_selUseR o0) (f_selRk o0) (f_selUseC o0) (f_selCk o0)
def J10_56 (o : Ob) (x1 : Int32) (x2 : Int32) : Option (((Int32 × Ob)) ⊕ (Int32 × Int32 × Ob)) :=
  some (.inr (x1, (x2 + (1 : Int32)), o))
theorem tJ10_56 (Ad : QAd n0 ad) (W : QW Z a0) (s : List Int32) (o : Ob) (x1 : Int32) (x2 : Int32) {r : ((Int32 × Ob)) ⊕ (Int32 × Int32 × Ob)} {u : Option Value} {τ : QHeap} (h : J10_56 o x1 x2 = some r) (hx0 : ∀ x : Int32 × Ob, r = .inl x → u = (some (Value.int x.1)) ∧ τ = (H0 s x.2)) (hc : ∀ x : Int32 × Int32 × Ob, r = .inr x → QTri l Z n0 ad 10 (4, [vR 1, vI x.1, vI x.2.1, none], [], (H0 s x.2.2)) u τ) : QTri l Z n0 ad 10 (56, [vR 1, vI x1, vI x2, none], [], (H0 s o)) u τ := by
 unfold J10_56 at h
 refine zS Ad W 2 (st' := (4, [vR 1, vI x1, vI (x2 + (1:Int32)), none], [], (H0 s o))) rfl ?_
 obtain rfl := Option.some.inj h
 exact zM [tt,tt,tt,ff] (hc (x1, (x2 + (1:Int32)), o) rfl)
def J10_53 (o : Ob) (x1 : Int32) (x2 : Int32) : Option (((Int32 × Ob)) ⊕ (Int32 × Int32 × Ob)) :=
  (J10_56 o (x1 + (1 : Int32)) x2)
theorem tJ10_53 (Ad : QAd n0 ad) (W : QW Z a0) (s : List Int32) (o : Ob) (x1 : Int32) (x2 : Int32) {r : ((Int32 × Ob)) ⊕ (Int32 × Int32 × Ob)} {u : Option Value} {τ : QHeap} (h : J10_53 o x1 x2 = some r) (hx0 : ∀ x : Int32 × Ob, r = .inl x → u = (some (Value.int x.1)) ∧ τ = (H0 s x.2)) (hc : ∀ x : Int32 × Int32 × Ob, r = .inr x → QTri l Z n0 ad 10 (4, [vR 1, vI x.1, vI x.2.1, none], [], (H0 s x.2.2)) u τ) : QTri l Z n0 ad 10 (53, [vR 1, vI x1, vI x2, none], [], (H0 s o)) u τ := by
 unfold J10_53 at h
 refine zS Ad W 1 (st' := (56, [vR 1, vI (x1 + (1:Int32)), vI x2, none], [], (H0 s o))) rfl ?_
 exact zM [tt,tt,tt,ff] (tJ10_56 Ad W s o (x1 + (1:Int32)) x2 h hx0 hc)
def B10_4 (v : Int32 × Int32 × Ob) : Option (((Int32 × Ob)) ⊕ (Int32 × Int32 × Ob)) :=
  (if v.2.1 < (f_nForms v.2.2) then (F7 v.2.2 v.2.1).bind fun r83 => (aget (f_prevVal r83) v.2.1).bind fun y87 => (if (f_gVal r83) = y87 then (aget (f_prevFound r83) v.2.1).bind fun y89 => some (.inr ((if (if (0 : Int32) < (f_gCount r83) then (1 : Int32) else (0 : Int32)) = y89 then v.1 else (v.1 + (1 : Int32))), (v.2.1 + (1 : Int32)), r83)) else (J10_53 r83 v.1 v.2.1)) else some (.inl (v.1, v.2.2)))
theorem tB10_4 (Ad : QAd n0 ad) (W : QW Z a0) (s : List Int32) (v : Int32 × Int32 × Ob) {r : ((Int32 × Ob)) ⊕ (Int32 × Int32 × Ob)} {u : Option Value} {τ : QHeap} (h : B10_4 v = some r) (hx0 : ∀ x : Int32 × Ob, r = .inl x → u = (some (Value.int x.1)) ∧ τ = (H0 s x.2)) (hc : ∀ x : Int32 × Int32 × Ob, r = .inr x → QTri l Z n0 ad 10 (4, [vR 1, vI x.1, vI x.2.1, none], [], (H0 s x.2.2)) u τ) : QTri l Z n0 ad 10 (4, [vR 1, vI v.1, vI v.2.1, none], [], (H0 s v.2.2)) u τ := by
 unfold B10_4 at h
 refine zS Ad W 3 (st' := (9, [vR 1, vI v.1, vI v.2.1, none], [.int (f_nForms v.2.2), .int v.2.1], (H0 s v.2.2))) rfl ?_
 rcases qite h with ⟨hc82, h⟩ | ⟨hc82, h⟩
 ·refine zF Ad W (t := 62) (f := 12) rfl (XT.ii_ge_f hc82) ?_
  refine zS Ad W 2 (st' := (14, [vR 1, vI v.1, vI v.2.1, none], [.int v.2.1, .ref 1], (H0 s v.2.2))) rfl ?_
  obtain ⟨r83, hr83, h⟩ := bind_eq_some_iff.mp h
  refine QTri.callP W (a := 1) (as := [.int v.2.1]) (rest := []) (w := none) (σ₁ := (H0 s r83)) rfl rfl rfl rfl rfl rfl rfl rfl (tF7 Ad W s v.2.2 v.2.1 hr83) ?_
  refine zS Ad W 2 (st' := (21, [vR 1, vI v.1, vI v.2.1, none], [.int (f_gCount r83)], (H0 s r83))) rfl ?_
  have K85 : ∀ z84 : Int32, z84 = (if (0:Int32) < (f_gCount r83) then (1:Int32) else (0:Int32)) → QTri l Z n0 ad 10 (29, [vR 1, vI v.1, vI v.2.1, none], [.int z84], (H0 s r83)) u τ := by
   intro z84 ez84
   subst ez84
   refine zS Ad W 6 (st' := (39, [vR 1, vI v.1, vI v.2.1, vI (if (0:Int32) < (f_gCount r83) then (1:Int32) else (0:Int32))], [.int v.2.1, .ref 7, .int (f_gVal r83)], (H0 s r83))) rfl ?_
   obtain ⟨y87, hy87, h⟩ := bind_eq_some_iff.mp h
   refine zB Ad W (f := fun y87 => (40, [vR 1, vI v.1, vI v.2.1, vI (if (0:Int32) < (f_gCount r83) then (1:Int32) else (0:Int32))], [.int y87, .int (f_gVal r83)], (H0 s r83))) rfl hy87 ?_
   rcases qite h with ⟨hc88, h⟩ | ⟨hc88, h⟩
   ·refine zF Ad W (t := 53) (f := 43) rfl (XT.ii_ne_f hc88) ?_
    refine zS Ad W 4 (st' := (49, [vR 1, vI v.1, vI v.2.1, vI (if (0:Int32) < (f_gCount r83) then (1:Int32) else (0:Int32))], [.int v.2.1, .ref 8, .int (if (0:Int32) < (f_gCount r83) then (1:Int32) else (0:Int32))], (H0 s r83))) rfl ?_
    obtain ⟨y89, hy89, h⟩ := bind_eq_some_iff.mp h
    refine zB Ad W (f := fun y89 => (50, [vR 1, vI v.1, vI v.2.1, vI (if (0:Int32) < (f_gCount r83) then (1:Int32) else (0:Int32))], [.int y89, .int (if (0:Int32) < (f_gCount r83) then (1:Int32) else (0:Int32))], (H0 s r83))) rfl hy89 ?_
    have K91 : ∀ z90 : Int32, z90 = (if (if (0:Int32) < (f_gCount r83) then (1:Int32) else (0:Int32)) = y89 then v.1 else (v.1 + (1:Int32))) → QTri l Z n0 ad 10 (56, [vR 1, vI z90, vI v.2.1, none], [], (H0 s r83)) u τ := by
     intro z90 ez90
     subst ez90
     refine zS Ad W 2 (st' := (4, [vR 1, vI (if (if (0:Int32) < (f_gCount r83) then (1:Int32) else (0:Int32)) = y89 then v.1 else (v.1 + (1:Int32))), vI (v.2.1 + (1:Int32)), none], [], (H0 s r83))) rfl ?_
     obtain rfl := Option.some.inj h
     exact zM [tt,tt,tt,ff] (hc ((if (if (0:Int32) < (f_gCount r83) then (1:Int32) else (0:Int32)) = y89 then v.1 else (v.1 + (1:Int32))), (v.2.1 + (1:Int32)), r83) rfl)
    rcases em ((if (0:Int32) < (f_gCount r83) then (1:Int32) else (0:Int32)) = y89) with hc92 | hc92
    ·refine zT Ad W (t := 56) (f := 53) rfl (XT.ii_eq_t hc92) ?_
     exact zM [tt,tt,tt,ff] (K91 _ (if_pos hc92).symm)
    ·refine zF Ad W (t := 56) (f := 53) rfl (XT.ii_eq_f hc92) ?_
     refine zS Ad W 1 (st' := (56, [vR 1, vI (v.1 + (1:Int32)), vI v.2.1, vI (if (0:Int32) < (f_gCount r83) then (1:Int32) else (0:Int32))], [], (H0 s r83))) rfl ?_
     exact zM [tt,tt,tt,ff] (K91 _ (if_neg hc92).symm)
   ·refine zT Ad W (t := 53) (f := 43) rfl (XT.ii_ne_t hc88) ?_
    exact zM [tt,tt,tt,ff] (tJ10_53 Ad W s r83 v.1 v.2.1 h hx0 hc)
  rcases em ((0:Int32) < (f_gCount r83)) with hc86 | hc86
  ·refine zF Ad W (t := 28) (f := 24) rfl (XT.i0_le_f hc86) ?_
   refine zS Ad W 2 (st' := (29, [vR 1, vI v.1, vI v.2.1, none], [.int (1:Int32)], (H0 s r83))) rfl ?_
   exact zM [tt,tt,tt,ff] (K85 _ (if_pos hc86).symm)
  ·refine zT Ad W (t := 28) (f := 24) rfl (XT.i0_le_t hc86) ?_
   refine zS Ad W 1 (st' := (29, [vR 1, vI v.1, vI v.2.1, none], [.int (0:Int32)], (H0 s r83))) rfl ?_
   exact zM [tt,tt,tt,ff] (K85 _ (if_neg hc86).symm)
 ·refine zT Ad W (t := 62) (f := 12) rfl (XT.ii_ge_t hc82) ?_
  refine zS Ad W 1 (st' := (63, [vR 1, vI v.1, vI v.2.1, none], [.int v.1], (H0 s v.2.2))) rfl ?_
  obtain rfl := Option.some.inj h
  obtain ⟨rfl, rfl⟩ := hx0 (v.1, v.2.2) rfl
  exact QTri.retI rfl rfl
/-- countChanged()I -/
def F10 (o : Ob) : Option (Int32 × Ob) :=
 (loopN (B10_4) qN ((0:Int32), (0:Int32), o)).bind fun e93 => some e93
theorem tF10 (Ad : QAd n0 ad) (W : QW Z a0) (s : List Int32) (o : Ob) {r : Int32 × Ob} (h : F10 o = some r) : QTri l Z n0 ad 10 (0, qentry [.ref 1] (pMaxL 10), [], (H0 s o)) (some (Value.int r.1)) (H0 s r.2) := by
 unfold F10 at h
 refine zS Ad W 4 (st' := (4, [vR 1, vI (0:Int32), vI (0:Int32), none], [], (H0 s o))) rfl ?_
 obtain ⟨e93, he93, h⟩ := bind_eq_some_iff.mp h
 refine zM [tt,tt,tt,ff] (loopN_tri (B := B10_4) (T := fun lv94 => QTri l Z n0 ad 10 (4, [vR 1, vI lv94.1, vI lv94.2.1, none], [], (H0 s lv94.2.2)) (some (Value.int r.1)) (H0 s r.2)) (KE := fun e93a => (some (Value.int r.1)) = (some (Value.int e93a.1)) ∧ (H0 s r.2) = (H0 s e93a.2)) (fun lv94 r hB hE hC => tB10_4 Ad W s lv94 hB (fun x q => hE _ q) (fun x q => hC x q)) qN ((0:Int32), (0:Int32), o) e93 he93 ?_)
 obtain rfl := Option.some.inj h
 exact ⟨rfl, rfl⟩
def H0x11 (s : List Int32) (o0 : Ob) (a0_14 : Int32) : QHeap := H0v s (f_data o0) (f_filled o0) (f_rf o0) (f_cf o0) (f_vf o0) (f_ag o0) (f_fMode o0) (f_fRk o0) (f_fCk o0) (f_prevVal o0) (f_prevFound o0) (f_keys o0) (f_nRows o0) (f_nForms o0) a0_14 (f_gVal o0) (f_gCount o0) (f_selUseR o0) (f_selRk o0) (f_selUseC o0) (f_selCk o0)
/-- setCell(III)Z -/
def F4 (o : Ob) (x1 : Int32) (x2 : Int32) (x3 : Int32) : Option (Int32 × Ob) :=
 (F5 o x1).bind fun r24 => (if r24 = (0:Int32) then some ((0:Int32), o) else (if x2 < (0:Int32) then some ((0:Int32), o) else (if x2 < (4:Int32) then (F6 o).bind fun r78 => (aset (f_data r78) ((x1 * (4:Int32)) + x2) x3).bind fun y79 => (aset (f_filled r78) x1 (1:Int32)).bind fun y80 => (F10 (s_filled (s_data r78 y79) y80)).bind fun r95 => some ((1:Int32), (s_last r95.2 r95.1)) else some ((0:Int32), o))))
theorem tF4 (Ad : QAd n0 ad) (W : QW Z a0) (s : List Int32) (o : Ob) (x1 : Int32) (x2 : Int32) (x3 : Int32) {r : Int32 × Ob} (h : F4 o x1 x2 x3 = some r) : QTri l Z n0 ad 4 (0, qentry [.ref 1, .int x1, .int x2, .int x3] (pMaxL 4), [], (H0 s o)) (some (Value.int r.1)) (H0 s r.2) := by
 unfold F4 at h
 refine zS Ad W 2 (st' := (2, [vR 1, vI x1, vI x2, vI x3], [.int x1, .ref 1], (H0 s o))) rfl ?_
 obtain ⟨r24, hr24, h⟩ := bind_eq_some_iff.mp h
 refine QTri.callP W (a := 1) (as := [.int x1]) (rest := []) (w := (some (.int r24))) (σ₁ := (H0 s o)) rfl rfl rfl rfl rfl rfl rfl rfl (tF5 Ad W s o x1 hr24) ?_
 rcases qite h with ⟨hc25, h⟩ | ⟨hc25, h⟩
 ·refine zF Ad W (t := 10) (f := 8) rfl (XT.i0_ne_f hc25) ?_
  refine zS Ad W 1 (st' := (9, [vR 1, vI x1, vI x2, vI x3], [.int (0:Int32)], (H0 s o))) rfl ?_
  obtain rfl := Option.some.inj h
  exact QTri.retZ rfl rfl
 ·refine zT Ad W (t := 10) (f := 8) rfl (XT.i0_ne_t hc25) ?_
  refine zS Ad W 1 (st' := (11, [vR 1, vI x1, vI x2, vI x3], [.int x2], (H0 s o))) rfl ?_
  rcases qite h with ⟨hc26, h⟩ | ⟨hc26, h⟩
  ·refine zT Ad W (t := 19) (f := 14) rfl (XT.i0_lt_t hc26) ?_
   refine zS Ad W 1 (st' := (20, [vR 1, vI x1, vI x2, vI x3], [.int (0:Int32)], (H0 s o))) rfl ?_
   obtain rfl := Option.some.inj h
   exact QTri.retZ rfl rfl
  ·refine zF Ad W (t := 19) (f := 14) rfl (XT.i0_lt_f hc26) ?_
   refine zS Ad W 2 (st' := (16, [vR 1, vI x1, vI x2, vI x3], [.int (4:Int32), .int x2], (H0 s o))) rfl ?_
   rcases qite h with ⟨hc27, h⟩ | ⟨hc27, h⟩
   ·refine zT Ad W (t := 21) (f := 19) rfl (XT.ii_lt_t hc27) ?_
    refine zS Ad W 1 (st' := (22, [vR 1, vI x1, vI x2, vI x3], [.ref 1], (H0 s o))) rfl ?_
    obtain ⟨r78, hr78, h⟩ := bind_eq_some_iff.mp h
    refine QTri.callP W (a := 1) (as := []) (rest := []) (w := none) (σ₁ := (H0 s r78)) rfl rfl rfl rfl rfl rfl rfl rfl (tF6 Ad W s o hr78) ?_
    refine zS Ad W 8 (st' := (35, [vR 1, vI x1, vI x2, vI x3], [.int x3, .int ((x1 * (4:Int32)) + x2), .ref 2], (H0 s r78))) rfl ?_
    obtain ⟨y79, hy79, h⟩ := bind_eq_some_iff.mp h
    refine zB Ad W (f := fun y79 => (36, [vR 1, vI x1, vI x2, vI x3], [], (H0x9 s r78 y79))) rfl hy79 ?_
    refine zS Ad W 4 (st' := (42, [vR 1, vI x1, vI x2, vI x3], [.int (1:Int32), .int x1, .ref 3], (H0x9 s r78 y79))) rfl ?_
    obtain ⟨y80, hy80, h⟩ := bind_eq_some_iff.mp h
    refine zB Ad W (f := fun y80 => (43, [vR 1, vI x1, vI x2, vI x3], [], (H0x10 s r78 y79 y80))) rfl hy80 ?_
    refine zS Ad W 2 (st' := (45, [vR 1, vI x1, vI x2, vI x3], [.ref 1, .ref 1], (H0x10 s r78 y79 y80))) rfl ?_
    have E81 : ((H0x10 s r78 y79 y80) : QHeap) = (H0 s (s_filled (s_data r78 y79) y80)) := by simp only [fs, H0, H0v, H0x10, s_data, s_filled]
    rw [E81]
    obtain ⟨r95, hr95, h⟩ := bind_eq_some_iff.mp h
    refine QTri.callP W (a := 1) (as := []) (rest := [.ref 1]) (w := (some (.int r95.1))) (σ₁ := (H0 s r95.2)) rfl rfl rfl rfl rfl rfl rfl rfl (tF10 Ad W s (s_filled (s_data r78 y79) y80) hr95) ?_
    refine zS Ad W 1 (st' := (51, [vR 1, vI x1, vI x2, vI x3], [], (H0x11 s r95.2 r95.1))) rfl ?_
    refine zS Ad W 1 (st' := (52, [vR 1, vI x1, vI x2, vI x3], [.int (1:Int32)], (H0x11 s r95.2 r95.1))) rfl ?_
    have E96 : ((H0x11 s r95.2 r95.1) : QHeap) = (H0 s (s_last r95.2 r95.1)) := by simp only [fs, H0, H0v, H0x11, s_last]
    rw [E96]
    obtain rfl := Option.some.inj h
    exact QTri.retZ rfl rfl
   ·refine zF Ad W (t := 21) (f := 19) rfl (XT.ii_lt_f hc27) ?_
    refine zS Ad W 1 (st' := (20, [vR 1, vI x1, vI x2, vI x3], [.int (0:Int32)], (H0 s o))) rfl ?_
    obtain rfl := Option.some.inj h
    exact QTri.retZ rfl rfl
def J0_159 (s : List Int32) (p0 : Ob) (x2 : Int32) (x3 : Int32) (x4 : Int32) (x5 : Int32) (x6 : Int32) : Option (((Int32 × Int32 × Int32 × Int32 × Ob)) ⊕ (Int32 × Int32 × Int32 × Int32 × Int32 × Ob)) :=
  some (.inr (x2, x3, x4, x5, (x6 + (5 : Int32)), p0))
theorem tJ0_159 (Ad : QAd n0 ad) (W : QW Z a0) (s : List Int32) (p0 : Ob) (x2 : Int32) (x3 : Int32) (x4 : Int32) (x5 : Int32) (x6 : Int32) {r : ((Int32 × Int32 × Int32 × Int32 × Ob)) ⊕ (Int32 × Int32 × Int32 × Int32 × Int32 × Ob)} {u : Option Value} {τ : QHeap} (h : J0_159 s p0 x2 x3 x4 x5 x6 = some r) (hx0 : ∀ x : Int32 × Int32 × Int32 × Int32 × Ob, r = .inl x → QTri l Z n0 ad 0 (165, [none, vR 1, vI x.1, vI x.2.1, vI x.2.2.1, vI x.2.2.2.1, none, none, none, none, none, none, none, none, none, none, none, none, none, none, none], [], (H0 s x.2.2.2.2)) u τ) (hc : ∀ x : Int32 × Int32 × Int32 × Int32 × Int32 × Ob, r = .inr x → QTri l Z n0 ad 0 (24, [vR 0, vR 1, vI x.1, vI x.2.1, vI x.2.2.1, vI x.2.2.2.1, vI x.2.2.2.2.1, none, none, none, none, none, none, none, none, none, none, none, none, none, none], [], (H0 s x.2.2.2.2.2)) u τ) : QTri l Z n0 ad 0 (159, [vR 0, vR 1, vI x2, vI x3, vI x4, vI x5, vI x6, none, none, none, none, none, none, none, none, none, none, none, none, none, none], [], (H0 s p0)) u τ := by
 unfold J0_159 at h
 refine zS Ad W 2 (st' := (24, [vR 0, vR 1, vI x2, vI x3, vI x4, vI x5, vI (x6 + (5:Int32)), none, none, none, none, none, none, none, none, none, none, none, none, none, none], [], (H0 s p0))) rfl ?_
 obtain rfl := Option.some.inj h
 exact zM [tt,tt,tt,tt,tt,tt,tt,ff,ff,ff,ff,ff,ff,ff,ff,ff,ff,ff,ff,ff,ff] (hc (x2, x3, x4, x5, (x6 + (5:Int32)), p0) rfl)
def B13_27 (x1 : Int32) (v : Int32 × Ob) : Option (((Ob)) ⊕ (Int32 × Ob)) :=
  (if v.1 < (4 : Int32) then (aset (f_data v.2) ((x1 * (4 : Int32)) + v.1) (0 : Int32)).bind fun y105 => some (.inr ((v.1 + (1 : Int32)), (s_data v.2 y105))) else some (.inl v.2))
theorem tB13_27 (Ad : QAd n0 ad) (W : QW Z a0) (s : List Int32) (x1 : Int32) (v : Int32 × Ob) {r : ((Ob)) ⊕ (Int32 × Ob)} {u : Option Value} {τ : QHeap} (h : B13_27 x1 v = some r) (hx0 : ∀ x : Ob, r = .inl x → QTri l Z n0 ad 13 (49, [vR 1, vI x1, none], [], (H0 s x)) u τ) (hc : ∀ x : Int32 × Ob, r = .inr x → QTri l Z n0 ad 13 (27, [vR 1, vI x1, vI x.1], [], (H0 s x.2)) u τ) : QTri l Z n0 ad 13 (27, [vR 1, vI x1, vI v.1], [], (H0 s v.2)) u τ := by
 unfold B13_27 at h
 refine zS Ad W 2 (st' := (29, [vR 1, vI x1, vI v.1], [.int (4:Int32), .int v.1], (H0 s v.2))) rfl ?_
 rcases qite h with ⟨hc104, h⟩ | ⟨hc104, h⟩
 ·refine zF Ad W (t := 49) (f := 32) rfl (XT.ii_ge_f hc104) ?_
  refine zS Ad W 8 (st' := (42, [vR 1, vI x1, vI v.1], [.int (0:Int32), .int ((x1 * (4:Int32)) + v.1), .ref 2], (H0 s v.2))) rfl ?_
  obtain ⟨y105, hy105, h⟩ := bind_eq_some_iff.mp h
  refine zB Ad W (f := fun y105 => (43, [vR 1, vI x1, vI v.1], [], (H0x9 s v.2 y105))) rfl hy105 ?_
  refine zS Ad W 2 (st' := (27, [vR 1, vI x1, vI (v.1 + (1:Int32))], [], (H0x9 s v.2 y105))) rfl ?_
  have E106 : ((H0x9 s v.2 y105) : QHeap) = (H0 s (s_data v.2 y105)) := by simp only [fs, H0, H0v, H0x9, s_data]
  rw [E106]
  obtain rfl := Option.some.inj h
  exact zM [tt,tt,tt] (hc ((v.1 + (1:Int32)), (s_data v.2 y105)) rfl)
 ·refine zT Ad W (t := 49) (f := 32) rfl (XT.ii_ge_t hc104) ?_
  obtain rfl := Option.some.inj h
  exact zM [tt,tt,ff] (hx0 v.2 rfl)
def H0x12 (s : List Int32) (o0 : Ob) (a0_1 : List Int32) : QHeap := H0v s (f_data o0) a0_1 (f_rf o0) (f_cf o0) (f_vf o0) (f_ag o0) (f_fMode o0) (f_fRk o0) (f_fCk o0) (f_prevVal o0) (f_prevFound o0) (f_keys o0) (f_nRows o0) (f_nForms o0) (f_last o0) (f_gVal o0) (f_gCount o0) (f_selUseR o0) (f_selRk o0) (f_selUseC o0) (f_selCk o0)
/-- clearRow(I)Z -/
def F13 (o : Ob) (x1 : Int32) : Option (Int32 × Ob) :=
 (F5 o x1).bind fun r99 => (if r99 = (0:Int32) then some ((0:Int32), o) else (aget (f_filled o) x1).bind fun y101 => (if y101 = (0:Int32) then some ((0:Int32), o) else (F6 o).bind fun r103 => (loopN (B13_27 x1) qN ((0:Int32), r103)).bind fun e107 => (aset (f_filled e107) x1 (0:Int32)).bind fun y109 => (F10 (s_filled e107 y109)).bind fun r111 => some ((1:Int32), (s_last r111.2 r111.1))))
theorem tF13 (Ad : QAd n0 ad) (W : QW Z a0) (s : List Int32) (o : Ob) (x1 : Int32) {r : Int32 × Ob} (h : F13 o x1 = some r) : QTri l Z n0 ad 13 (0, qentry [.ref 1, .int x1] (pMaxL 13), [], (H0 s o)) (some (Value.int r.1)) (H0 s r.2) := by
 unfold F13 at h
 refine zS Ad W 2 (st' := (2, [vR 1, vI x1, none], [.int x1, .ref 1], (H0 s o))) rfl ?_
 obtain ⟨r99, hr99, h⟩ := bind_eq_some_iff.mp h
 refine QTri.callP W (a := 1) (as := [.int x1]) (rest := []) (w := (some (.int r99))) (σ₁ := (H0 s o)) rfl rfl rfl rfl rfl rfl rfl rfl (tF5 Ad W s o x1 hr99) ?_
 rcases qite h with ⟨hc100, h⟩ | ⟨hc100, h⟩
 ·refine zF Ad W (t := 10) (f := 8) rfl (XT.i0_ne_f hc100) ?_
  refine zS Ad W 1 (st' := (9, [vR 1, vI x1, none], [.int (0:Int32)], (H0 s o))) rfl ?_
  obtain rfl := Option.some.inj h
  exact QTri.retZ rfl rfl
 ·refine zT Ad W (t := 10) (f := 8) rfl (XT.i0_ne_t hc100) ?_
  refine zS Ad W 3 (st' := (15, [vR 1, vI x1, none], [.int x1, .ref 3], (H0 s o))) rfl ?_
  obtain ⟨y101, hy101, h⟩ := bind_eq_some_iff.mp h
  refine zB Ad W (f := fun y101 => (16, [vR 1, vI x1, none], [.int y101], (H0 s o))) rfl hy101 ?_
  rcases qite h with ⟨hc102, h⟩ | ⟨hc102, h⟩
  ·refine zF Ad W (t := 21) (f := 19) rfl (XT.i0_ne_f hc102) ?_
   refine zS Ad W 1 (st' := (20, [vR 1, vI x1, none], [.int (0:Int32)], (H0 s o))) rfl ?_
   obtain rfl := Option.some.inj h
   exact QTri.retZ rfl rfl
  ·refine zT Ad W (t := 21) (f := 19) rfl (XT.i0_ne_t hc102) ?_
   refine zS Ad W 1 (st' := (22, [vR 1, vI x1, none], [.ref 1], (H0 s o))) rfl ?_
   obtain ⟨r103, hr103, h⟩ := bind_eq_some_iff.mp h
   refine QTri.callP W (a := 1) (as := []) (rest := []) (w := none) (σ₁ := (H0 s r103)) rfl rfl rfl rfl rfl rfl rfl rfl (tF6 Ad W s o hr103) ?_
   refine zS Ad W 2 (st' := (27, [vR 1, vI x1, vI (0:Int32)], [], (H0 s r103))) rfl ?_
   obtain ⟨e107, he107, h⟩ := bind_eq_some_iff.mp h
   refine zM [tt,tt,tt] (loopN_tri (B := B13_27 x1) (T := fun lv108 => QTri l Z n0 ad 13 (27, [vR 1, vI x1, vI lv108.1], [], (H0 s lv108.2)) (some (Value.int r.1)) (H0 s r.2)) (KE := fun e107a => QTri l Z n0 ad 13 (49, [vR 1, vI x1, none], [], (H0 s e107a)) (some (Value.int r.1)) (H0 s r.2)) (fun lv108 r hB hE hC => tB13_27 Ad W s x1 lv108 hB (fun x q => hE _ q) (fun x q => hC x q)) qN ((0:Int32), r103) e107 he107 ?_)
   refine zS Ad W 4 (st' := (55, [vR 1, vI x1, none], [.int (0:Int32), .int x1, .ref 3], (H0 s e107))) rfl ?_
   obtain ⟨y109, hy109, h⟩ := bind_eq_some_iff.mp h
   refine zB Ad W (f := fun y109 => (56, [vR 1, vI x1, none], [], (H0x12 s e107 y109))) rfl hy109 ?_
   refine zS Ad W 2 (st' := (58, [vR 1, vI x1, none], [.ref 1, .ref 1], (H0x12 s e107 y109))) rfl ?_
   have E110 : ((H0x12 s e107 y109) : QHeap) = (H0 s (s_filled e107 y109)) := by simp only [fs, H0, H0v, H0x12, s_filled]
   rw [E110]
   obtain ⟨r111, hr111, h⟩ := bind_eq_some_iff.mp h
   refine QTri.callP W (a := 1) (as := []) (rest := [.ref 1]) (w := (some (.int r111.1))) (σ₁ := (H0 s r111.2)) rfl rfl rfl rfl rfl rfl rfl rfl (tF10 Ad W s (s_filled e107 y109) hr111) ?_
   refine zS Ad W 1 (st' := (64, [vR 1, vI x1, none], [], (H0x11 s r111.2 r111.1))) rfl ?_
   refine zS Ad W 1 (st' := (65, [vR 1, vI x1, none], [.int (1:Int32)], (H0x11 s r111.2 r111.1))) rfl ?_
   have E112 : ((H0x11 s r111.2 r111.1) : QHeap) = (H0 s (s_last r111.2 r111.1)) := by simp only [fs, H0, H0v, H0x11, s_last]
   rw [E112]
   obtain rfl := Option.some.inj h
   exact QTri.retZ rfl rfl
/-- validField(I)Z -/
def F12 (x1 : Int32) : Option (Int32) :=
 (if x1 < (0:Int32) then some (0:Int32) else (if x1 < (4:Int32) then some (1:Int32) else some (0:Int32)))
theorem tF12 (Ad : QAd n0 ad) (W : QW Z a0) {a : Nat} {σ : QHeap} (x1 : Int32) {r : Int32} (h : F12 x1 = some r) : QTri l Z n0 ad 12 (0, qentry [.ref a, .int x1] (pMaxL 12), [], σ) (some (Value.int r)) σ := by
 unfold F12 at h
 refine zS Ad W 1 (st' := (1, [vR a, vI x1], [.int x1], σ)) rfl ?_
 rcases qite h with ⟨hc115, h⟩ | ⟨hc115, h⟩
 ·refine zT Ad W (t := 13) (f := 4) rfl (XT.i0_lt_t hc115) ?_
  refine zS Ad W 1 (st' := (14, [vR a, vI x1], [.int (0:Int32)], σ)) rfl ?_
  obtain rfl := Option.some.inj h
  exact QTri.retZ rfl rfl
 ·refine zF Ad W (t := 13) (f := 4) rfl (XT.i0_lt_f hc115) ?_
  refine zS Ad W 2 (st' := (6, [vR a, vI x1], [.int (4:Int32), .int x1], σ)) rfl ?_
  rcases qite h with ⟨hc116, h⟩ | ⟨hc116, h⟩
  ·refine zF Ad W (t := 13) (f := 9) rfl (XT.ii_ge_f hc116) ?_
   refine zS Ad W 2 (st' := (14, [vR a, vI x1], [.int (1:Int32)], σ)) rfl ?_
   obtain rfl := Option.some.inj h
   exact QTri.retZ rfl rfl
  ·refine zT Ad W (t := 13) (f := 9) rfl (XT.ii_ge_t hc116) ?_
   refine zS Ad W 1 (st' := (14, [vR a, vI x1], [.int (0:Int32)], σ)) rfl ?_
   obtain rfl := Option.some.inj h
   exact QTri.retZ rfl rfl
def H0x13 (s : List Int32) (o0 : Ob) (a0_2 : Int32) : QHeap := H0v s (f_data o0) (f_filled o0) a0_2 (f_cf o0) (f_vf o0) (f_ag o0) (f_fMode o0) (f_fRk o0) (f_fCk o0) (f_prevVal o0) (f_prevFound o0) (f_keys o0) (f_nRows o0) (f_nForms o0) (f_last o0) (f_gVal o0) (f_gCount o0) (f_selUseR o0) (f_selRk o0) (f_selUseC o0) (f_selCk o0)
def H0x14 (s : List Int32) (o0 : Ob) (a0_2 : Int32) (a0_3 : Int32) : QHeap := H0v s (f_data o0) (f_filled o0) a0_2 a0_3 (f_vf o0) (f_ag o0) (f_fMode o0) (f_fRk o0) (f_fCk o0) (f_prevVal o0) (f_prevFound o0) (f_keys o0) (f_nRows o0) (f_nForms o0) (f_last o0) (f_gVal o0) (f_gCount o0) (f_selUseR o0) (f_selRk o0) (f_selUseC o0) (f_selCk o0)
def H0x15 (s : List Int32) (o0 : Ob) (a0_2 : Int32) (a0_3 : Int32) (a0_4 : Int32) : QHeap := H0v s (f_data o0) (f_filled o0) a0_2 a0_3 a0_4 (f_ag o0) (f_fMode o0) (f_fRk o0) (f_fCk o0) (f_prevVal o0) (f_prevFound o0) (f_keys o0) (f_nRows o0) (f_nForms o0) (f_last o0) (f_gVal o0) (f_gCount o0) (f_selUseR o0) (f_selRk o0) (f_selUseC o0) (f_selCk o0)
def H0x16 (s : List Int32) (o0 : Ob) (a0_2 : Int32) (a0_3 : Int32) (a0_4 : Int32) (a0_5 : Int32) : QHeap := H0v s (f_data o0) (f_filled o0) a0_2 a0_3 a0_4 a0_5 (f_fMode o0) (f_fRk o0) (f_fCk o0) (f_prevVal o0) (f_prevFound o0) (f_keys o0) (f_nRows o0) (f_nForms o0) (f_last o0) (f_gVal o0) (f_gCount o0) (f_selUseR o0) (f_selRk o0) (f_selUseC o0) (f_selCk o0)
/-- setPivot(IIII)Z -/
def F11 (o : Ob) (x1 : Int32) (x2 : Int32) (x3 : Int32) (x4 : Int32) : Option (Int32 × Ob) :=
 (F12 x1).bind fun r117 => (if r117 = (0:Int32) then some ((0:Int32), o) else (F12 x2).bind fun r119 => (if r119 = (0:Int32) then some ((0:Int32), o) else (F12 x3).bind fun r121 => (if r121 = (0:Int32) then some ((0:Int32), o) else (if x4 < (0:Int32) then some ((0:Int32), o) else (if (3:Int32) < x4 then some ((0:Int32), o) else (F6 o).bind fun r125 => (F10 (s_ag (s_vf (s_cf (s_rf r125 x1) x2) x3) x4)).bind fun r127 => some ((1:Int32), (s_last r127.2 r127.1)))))))
theorem tF11 (Ad : QAd n0 ad) (W : QW Z a0) (s : List Int32) (o : Ob) (x1 : Int32) (x2 : Int32) (x3 : Int32) (x4 : Int32) {r : Int32 × Ob} (h : F11 o x1 x2 x3 x4 = some r) : QTri l Z n0 ad 11 (0, qentry [.ref 1, .int x1, .int x2, .int x3, .int x4] (pMaxL 11), [], (H0 s o)) (some (Value.int r.1)) (H0 s r.2) := by
 unfold F11 at h
 refine zS Ad W 2 (st' := (2, [vR 1, vI x1, vI x2, vI x3, vI x4], [.int x1, .ref 1], (H0 s o))) rfl ?_
 obtain ⟨r117, hr117, h⟩ := bind_eq_some_iff.mp h
 refine QTri.callP W (a := 1) (as := [.int x1]) (rest := []) (w := (some (.int r117))) (σ₁ := (H0 s o)) rfl rfl rfl rfl rfl rfl rfl rfl (tF12 Ad W x1 hr117) ?_
 rcases qite h with ⟨hc118, h⟩ | ⟨hc118, h⟩
 ·refine zT Ad W (t := 24) (f := 8) rfl (XT.i0_eq_t hc118) ?_
  refine zS Ad W 1 (st' := (25, [vR 1, vI x1, vI x2, vI x3, vI x4], [.int (0:Int32)], (H0 s o))) rfl ?_
  obtain rfl := Option.some.inj h
  exact QTri.retZ rfl rfl
 ·refine zF Ad W (t := 24) (f := 8) rfl (XT.i0_eq_f hc118) ?_
  refine zS Ad W 2 (st' := (10, [vR 1, vI x1, vI x2, vI x3, vI x4], [.int x2, .ref 1], (H0 s o))) rfl ?_
  obtain ⟨r119, hr119, h⟩ := bind_eq_some_iff.mp h
  refine QTri.callP W (a := 1) (as := [.int x2]) (rest := []) (w := (some (.int r119))) (σ₁ := (H0 s o)) rfl rfl rfl rfl rfl rfl rfl rfl (tF12 Ad W x2 hr119) ?_
  rcases qite h with ⟨hc120, h⟩ | ⟨hc120, h⟩
  ·refine zT Ad W (t := 24) (f := 16) rfl (XT.i0_eq_t hc120) ?_
   refine zS Ad W 1 (st' := (25, [vR 1, vI x1, vI x2, vI x3, vI x4], [.int (0:Int32)], (H0 s o))) rfl ?_
   obtain rfl := Option.some.inj h
   exact QTri.retZ rfl rfl
  ·refine zF Ad W (t := 24) (f := 16) rfl (XT.i0_eq_f hc120) ?_
   refine zS Ad W 2 (st' := (18, [vR 1, vI x1, vI x2, vI x3, vI x4], [.int x3, .ref 1], (H0 s o))) rfl ?_
   obtain ⟨r121, hr121, h⟩ := bind_eq_some_iff.mp h
   refine QTri.callP W (a := 1) (as := [.int x3]) (rest := []) (w := (some (.int r121))) (σ₁ := (H0 s o)) rfl rfl rfl rfl rfl rfl rfl rfl (tF12 Ad W x3 hr121) ?_
   rcases qite h with ⟨hc122, h⟩ | ⟨hc122, h⟩
   ·refine zF Ad W (t := 26) (f := 24) rfl (XT.i0_ne_f hc122) ?_
    refine zS Ad W 1 (st' := (25, [vR 1, vI x1, vI x2, vI x3, vI x4], [.int (0:Int32)], (H0 s o))) rfl ?_
    obtain rfl := Option.some.inj h
    exact QTri.retZ rfl rfl
   ·refine zT Ad W (t := 26) (f := 24) rfl (XT.i0_ne_t hc122) ?_
    refine zS Ad W 1 (st' := (28, [vR 1, vI x1, vI x2, vI x3, vI x4], [.int x4], (H0 s o))) rfl ?_
    rcases qite h with ⟨hc123, h⟩ | ⟨hc123, h⟩
    ·refine zT Ad W (t := 37) (f := 31) rfl (XT.i0_lt_t hc123) ?_
     refine zS Ad W 1 (st' := (38, [vR 1, vI x1, vI x2, vI x3, vI x4], [.int (0:Int32)], (H0 s o))) rfl ?_
     obtain rfl := Option.some.inj h
     exact QTri.retZ rfl rfl
    ·refine zF Ad W (t := 37) (f := 31) rfl (XT.i0_lt_f hc123) ?_
     refine zS Ad W 2 (st' := (34, [vR 1, vI x1, vI x2, vI x3, vI x4], [.int (3:Int32), .int x4], (H0 s o))) rfl ?_
     rcases qite h with ⟨hc124, h⟩ | ⟨hc124, h⟩
     ·refine zF Ad W (t := 39) (f := 37) rfl (XT.ii_le_f hc124) ?_
      refine zS Ad W 1 (st' := (38, [vR 1, vI x1, vI x2, vI x3, vI x4], [.int (0:Int32)], (H0 s o))) rfl ?_
      obtain rfl := Option.some.inj h
      exact QTri.retZ rfl rfl
     ·refine zT Ad W (t := 39) (f := 37) rfl (XT.ii_le_t hc124) ?_
      refine zS Ad W 1 (st' := (40, [vR 1, vI x1, vI x2, vI x3, vI x4], [.ref 1], (H0 s o))) rfl ?_
      obtain ⟨r125, hr125, h⟩ := bind_eq_some_iff.mp h
      refine QTri.callP W (a := 1) (as := []) (rest := []) (w := none) (σ₁ := (H0 s r125)) rfl rfl rfl rfl rfl rfl rfl rfl (tF6 Ad W s o hr125) ?_
      refine zS Ad W 3 (st' := (48, [vR 1, vI x1, vI x2, vI x3, vI x4], [], (H0x13 s r125 x1))) rfl ?_
      refine zS Ad W 3 (st' := (53, [vR 1, vI x1, vI x2, vI x3, vI x4], [], (H0x14 s r125 x1 x2))) rfl ?_
      refine zS Ad W 3 (st' := (58, [vR 1, vI x1, vI x2, vI x3, vI x4], [], (H0x15 s r125 x1 x2 x3))) rfl ?_
      refine zS Ad W 3 (st' := (64, [vR 1, vI x1, vI x2, vI x3, vI x4], [], (H0x16 s r125 x1 x2 x3 x4))) rfl ?_
      refine zS Ad W 2 (st' := (66, [vR 1, vI x1, vI x2, vI x3, vI x4], [.ref 1, .ref 1], (H0x16 s r125 x1 x2 x3 x4))) rfl ?_
      have E126 : ((H0x16 s r125 x1 x2 x3 x4) : QHeap) = (H0 s (s_ag (s_vf (s_cf (s_rf r125 x1) x2) x3) x4)) := by simp only [fs, H0, H0v, H0x16, s_rf, s_cf, s_vf, s_ag]
      rw [E126]
      obtain ⟨r127, hr127, h⟩ := bind_eq_some_iff.mp h
      refine QTri.callP W (a := 1) (as := []) (rest := [.ref 1]) (w := (some (.int r127.1))) (σ₁ := (H0 s r127.2)) rfl rfl rfl rfl rfl rfl rfl rfl (tF10 Ad W s (s_ag (s_vf (s_cf (s_rf r125 x1) x2) x3) x4) hr127) ?_
      refine zS Ad W 1 (st' := (72, [vR 1, vI x1, vI x2, vI x3, vI x4], [], (H0x11 s r127.2 r127.1))) rfl ?_
      refine zS Ad W 1 (st' := (73, [vR 1, vI x1, vI x2, vI x3, vI x4], [.int (1:Int32)], (H0x11 s r127.2 r127.1))) rfl ?_
      have E128 : ((H0x11 s r127.2 r127.1) : QHeap) = (H0 s (s_last r127.2 r127.1)) := by simp only [fs, H0, H0v, H0x11, s_last]
      rw [E128]
      obtain rfl := Option.some.inj h
      exact QTri.retZ rfl rfl
/-- validSlot(I)Z -/
def F3 (o : Ob) (x1 : Int32) : Option (Int32) :=
 (if x1 < (0:Int32) then some (0:Int32) else (if x1 < (f_nForms o) then some (1:Int32) else some (0:Int32)))
theorem tF3 (Ad : QAd n0 ad) (W : QW Z a0) (s : List Int32) (o : Ob) (x1 : Int32) {r : Int32} (h : F3 o x1 = some r) : QTri l Z n0 ad 3 (0, qentry [.ref 1, .int x1] (pMaxL 3), [], (H0 s o)) (some (Value.int r)) (H0 s o) := by
 unfold F3 at h
 refine zS Ad W 1 (st' := (1, [vR 1, vI x1], [.int x1], (H0 s o))) rfl ?_
 rcases qite h with ⟨hc136, h⟩ | ⟨hc136, h⟩
 ·refine zT Ad W (t := 16) (f := 4) rfl (XT.i0_lt_t hc136) ?_
  refine zS Ad W 1 (st' := (17, [vR 1, vI x1], [.int (0:Int32)], (H0 s o))) rfl ?_
  obtain rfl := Option.some.inj h
  exact QTri.retZ rfl rfl
 ·refine zF Ad W (t := 16) (f := 4) rfl (XT.i0_lt_f hc136) ?_
  refine zS Ad W 3 (st' := (9, [vR 1, vI x1], [.int (f_nForms o), .int x1], (H0 s o))) rfl ?_
  rcases qite h with ⟨hc137, h⟩ | ⟨hc137, h⟩
  ·refine zF Ad W (t := 16) (f := 12) rfl (XT.ii_ge_f hc137) ?_
   refine zS Ad W 2 (st' := (17, [vR 1, vI x1], [.int (1:Int32)], (H0 s o))) rfl ?_
   obtain rfl := Option.some.inj h
   exact QTri.retZ rfl rfl
  ·refine zT Ad W (t := 16) (f := 12) rfl (XT.ii_ge_t hc137) ?_
   refine zS Ad W 1 (st' := (17, [vR 1, vI x1], [.int (0:Int32)], (H0 s o))) rfl ?_
   obtain rfl := Option.some.inj h
   exact QTri.retZ rfl rfl
def H0x17 (s : List Int32) (o0 : Ob) (a0_6 : List Int32) : QHeap := H0v s (f_data o0) (f_filled o0) (f_rf o0) (f_cf o0) (f_vf o0) (f_ag o0) a0_6 (f_fRk o0) (f_fCk o0) (f_prevVal o0) (f_prevFound o0) (f_keys o0) (f_nRows o0) (f_nForms o0) (f_last o0) (f_gVal o0) (f_gCount o0) (f_selUseR o0) (f_selRk o0) (f_selUseC o0) (f_selCk o0)
def H0x18 (s : List Int32) (o0 : Ob) (a0_6 : List Int32) (a0_7 : List Int32) : QHeap := H0v s (f_data o0) (f_filled o0) (f_rf o0) (f_cf o0) (f_vf o0) (f_ag o0) a0_6 a0_7 (f_fCk o0) (f_prevVal o0) (f_prevFound o0) (f_keys o0) (f_nRows o0) (f_nForms o0) (f_last o0) (f_gVal o0) (f_gCount o0) (f_selUseR o0) (f_selRk o0) (f_selUseC o0) (f_selCk o0)
def H0x19 (s : List Int32) (o0 : Ob) (a0_6 : List Int32) (a0_7 : List Int32) (a0_8 : List Int32) : QHeap := H0v s (f_data o0) (f_filled o0) (f_rf o0) (f_cf o0) (f_vf o0) (f_ag o0) a0_6 a0_7 a0_8 (f_prevVal o0) (f_prevFound o0) (f_keys o0) (f_nRows o0) (f_nForms o0) (f_last o0) (f_gVal o0) (f_gCount o0) (f_selUseR o0) (f_selRk o0) (f_selUseC o0) (f_selCk o0)
/-- setFormula(IIII)Z -/
def F2 (o : Ob) (x1 : Int32) (x2 : Int32) (x3 : Int32) (x4 : Int32) : Option (Int32 × Ob) :=
 (F3 o x1).bind fun r138 => (if r138 = (0:Int32) then some ((0:Int32), o) else (if x2 < (0:Int32) then some ((0:Int32), o) else (if (4:Int32) < x2 then some ((0:Int32), o) else (aset (f_fMode o) x1 x2).bind fun y142 => (aset (f_fRk o) x1 x3).bind fun y143 => (aset (f_fCk o) x1 x4).bind fun y144 => some ((1:Int32), (s_fCk (s_fRk (s_fMode o y142) y143) y144)))))
theorem tF2 (Ad : QAd n0 ad) (W : QW Z a0) (s : List Int32) (o : Ob) (x1 : Int32) (x2 : Int32) (x3 : Int32) (x4 : Int32) {r : Int32 × Ob} (h : F2 o x1 x2 x3 x4 = some r) : QTri l Z n0 ad 2 (0, qentry [.ref 1, .int x1, .int x2, .int x3, .int x4] (pMaxL 2), [], (H0 s o)) (some (Value.int r.1)) (H0 s r.2) := by
 unfold F2 at h
 refine zS Ad W 2 (st' := (2, [vR 1, vI x1, vI x2, vI x3, vI x4], [.int x1, .ref 1], (H0 s o))) rfl ?_
 obtain ⟨r138, hr138, h⟩ := bind_eq_some_iff.mp h
 refine QTri.callP W (a := 1) (as := [.int x1]) (rest := []) (w := (some (.int r138))) (σ₁ := (H0 s o)) rfl rfl rfl rfl rfl rfl rfl rfl (tF3 Ad W s o x1 hr138) ?_
 rcases qite h with ⟨hc139, h⟩ | ⟨hc139, h⟩
 ·refine zF Ad W (t := 10) (f := 8) rfl (XT.i0_ne_f hc139) ?_
  refine zS Ad W 1 (st' := (9, [vR 1, vI x1, vI x2, vI x3, vI x4], [.int (0:Int32)], (H0 s o))) rfl ?_
  obtain rfl := Option.some.inj h
  exact QTri.retZ rfl rfl
 ·refine zT Ad W (t := 10) (f := 8) rfl (XT.i0_ne_t hc139) ?_
  refine zS Ad W 1 (st' := (11, [vR 1, vI x1, vI x2, vI x3, vI x4], [.int x2], (H0 s o))) rfl ?_
  rcases qite h with ⟨hc140, h⟩ | ⟨hc140, h⟩
  ·refine zT Ad W (t := 19) (f := 14) rfl (XT.i0_lt_t hc140) ?_
   refine zS Ad W 1 (st' := (20, [vR 1, vI x1, vI x2, vI x3, vI x4], [.int (0:Int32)], (H0 s o))) rfl ?_
   obtain rfl := Option.some.inj h
   exact QTri.retZ rfl rfl
  ·refine zF Ad W (t := 19) (f := 14) rfl (XT.i0_lt_f hc140) ?_
   refine zS Ad W 2 (st' := (16, [vR 1, vI x1, vI x2, vI x3, vI x4], [.int (4:Int32), .int x2], (H0 s o))) rfl ?_
   rcases qite h with ⟨hc141, h⟩ | ⟨hc141, h⟩
   ·refine zF Ad W (t := 21) (f := 19) rfl (XT.ii_le_f hc141) ?_
    refine zS Ad W 1 (st' := (20, [vR 1, vI x1, vI x2, vI x3, vI x4], [.int (0:Int32)], (H0 s o))) rfl ?_
    obtain rfl := Option.some.inj h
    exact QTri.retZ rfl rfl
   ·refine zT Ad W (t := 21) (f := 19) rfl (XT.ii_le_t hc141) ?_
    refine zS Ad W 4 (st' := (27, [vR 1, vI x1, vI x2, vI x3, vI x4], [.int x2, .int x1, .ref 4], (H0 s o))) rfl ?_
    obtain ⟨y142, hy142, h⟩ := bind_eq_some_iff.mp h
    refine zB Ad W (f := fun y142 => (28, [vR 1, vI x1, vI x2, vI x3, vI x4], [], (H0x17 s o y142))) rfl hy142 ?_
    refine zS Ad W 4 (st' := (34, [vR 1, vI x1, vI x2, vI x3, vI x4], [.int x3, .int x1, .ref 5], (H0x17 s o y142))) rfl ?_
    obtain ⟨y143, hy143, h⟩ := bind_eq_some_iff.mp h
    refine zB Ad W (f := fun y143 => (35, [vR 1, vI x1, vI x2, vI x3, vI x4], [], (H0x18 s o y142 y143))) rfl hy143 ?_
    refine zS Ad W 4 (st' := (42, [vR 1, vI x1, vI x2, vI x3, vI x4], [.int x4, .int x1, .ref 6], (H0x18 s o y142 y143))) rfl ?_
    obtain ⟨y144, hy144, h⟩ := bind_eq_some_iff.mp h
    refine zB Ad W (f := fun y144 => (43, [vR 1, vI x1, vI x2, vI x3, vI x4], [], (H0x19 s o y142 y143 y144))) rfl hy144 ?_
    refine zS Ad W 1 (st' := (44, [vR 1, vI x1, vI x2, vI x3, vI x4], [.int (1:Int32)], (H0x19 s o y142 y143 y144))) rfl ?_
    have E145 : ((H0x19 s o y142 y143 y144) : QHeap) = (H0 s (s_fCk (s_fRk (s_fMode o y142) y143) y144)) := by simp only [fs, H0, H0v, H0x19, s_fMode, s_fRk, s_fCk]
    rw [E145]
    obtain rfl := Option.some.inj h
    exact QTri.retZ rfl rfl
def B0_24 (s : List Int32) (v : Int32 × Int32 × Int32 × Int32 × Int32 × Ob) : Option (((Int32 × Int32 × Int32 × Int32 × Ob)) ⊕ (Int32 × Int32 × Int32 × Int32 × Int32 × Ob)) :=
  (if (s.length.toInt32) < (v.2.2.2.2.1 + (5 : Int32)) then some (.inl (v.1, v.2.1, v.2.2.1, v.2.2.2.1, v.2.2.2.2.2)) else (aget s v.2.2.2.2.1).bind fun y16 => (aget s (v.2.2.2.2.1 + (1 : Int32))).bind fun y17 => (aget s (v.2.2.2.2.1 + (2 : Int32))).bind fun y18 => (aget s (v.2.2.2.2.1 + (3 : Int32))).bind fun y19 => (aget s (v.2.2.2.2.1 + (4 : Int32))).bind fun y20 => (if (y16 &&& (3 : Int32)) = (0 : Int32) then (F4 v.2.2.2.2.2 y17 y18 y19).bind fun r97 => (J0_159 s r97.2 v.1 v.2.1 v.2.2.1 v.2.2.2.1 v.2.2.2.2.1) else (if (y16 &&& (3 : Int32)) = (1 : Int32) then (F13 v.2.2.2.2.2 y17).bind fun r113 => (J0_159 s r113.2 v.1 v.2.1 v.2.2.1 v.2.2.2.1 v.2.2.2.2.1) else (if (y16 &&& (3 : Int32)) = (2 : Int32) then (F11 v.2.2.2.2.2 y17 y18 y19 y20).bind fun r129 => (J0_159 s r129.2 (if r129.1 = (0 : Int32) then v.1 else y17) (if r129.1 = (0 : Int32) then v.2.1 else y18) (if r129.1 = (0 : Int32) then v.2.2.1 else y19) (if r129.1 = (0 : Int32) then v.2.2.2.1 else y20) v.2.2.2.2.1) else (F2 v.2.2.2.2.2 y17 y18 y19 y20).bind fun r146 => (J0_159 s r146.2 v.1 v.2.1 v.2.2.1 v.2.2.2.1 v.2.2.2.2.1)))))
theorem tB0_24 (Ad : QAd n0 ad) (W : QW Z a0) (s : List Int32) (v : Int32 × Int32 × Int32 × Int32 × Int32 × Ob) {r : ((Int32 × Int32 × Int32 × Int32 × Ob)) ⊕ (Int32 × Int32 × Int32 × Int32 × Int32 × Ob)} {u : Option Value} {τ : QHeap} (h : B0_24 s v = some r) (hx0 : ∀ x : Int32 × Int32 × Int32 × Int32 × Ob, r = .inl x → QTri l Z n0 ad 0 (165, [none, vR 1, vI x.1, vI x.2.1, vI x.2.2.1, vI x.2.2.2.1, none, none, none, none, none, none, none, none, none, none, none, none, none, none, none], [], (H0 s x.2.2.2.2)) u τ) (hc : ∀ x : Int32 × Int32 × Int32 × Int32 × Int32 × Ob, r = .inr x → QTri l Z n0 ad 0 (24, [vR 0, vR 1, vI x.1, vI x.2.1, vI x.2.2.1, vI x.2.2.2.1, vI x.2.2.2.2.1, none, none, none, none, none, none, none, none, none, none, none, none, none, none], [], (H0 s x.2.2.2.2.2)) u τ) : QTri l Z n0 ad 0 (24, [vR 0, vR 1, vI v.1, vI v.2.1, vI v.2.2.1, vI v.2.2.2.1, vI v.2.2.2.2.1, none, none, none, none, none, none, none, none, none, none, none, none, none, none], [], (H0 s v.2.2.2.2.2)) u τ := by
 unfold B0_24 at h
 refine zS Ad W 5 (st' := (30, [vR 0, vR 1, vI v.1, vI v.2.1, vI v.2.2.1, vI v.2.2.2.1, vI v.2.2.2.2.1, none, none, none, none, none, none, none, none, none, none, none, none, none, none], [.int (s.length.toInt32), .int (v.2.2.2.2.1 + (5:Int32))], (H0 s v.2.2.2.2.2))) rfl ?_
 rcases qite h with ⟨hc15, h⟩ | ⟨hc15, h⟩
 ·refine zT Ad W (t := 165) (f := 33) rfl (XT.ii_gt_t hc15) ?_
  obtain rfl := Option.some.inj h
  exact zM [ff,tt,tt,tt,tt,tt,ff,ff,ff,ff,ff,ff,ff,ff,ff,ff,ff,ff,ff,ff,ff] (hx0 (v.1, v.2.1, v.2.2.1, v.2.2.2.1, v.2.2.2.2.2) rfl)
 ·refine zF Ad W (t := 165) (f := 33) rfl (XT.ii_gt_f hc15) ?_
  refine zS Ad W 2 (st' := (36, [vR 0, vR 1, vI v.1, vI v.2.1, vI v.2.2.1, vI v.2.2.2.1, vI v.2.2.2.2.1, none, none, none, none, none, none, none, none, none, none, none, none, none, none], [.int v.2.2.2.2.1, .ref 0], (H0 s v.2.2.2.2.2))) rfl ?_
  obtain ⟨y16, hy16, h⟩ := bind_eq_some_iff.mp h
  refine zB Ad W (f := fun y16 => (37, [vR 0, vR 1, vI v.1, vI v.2.1, vI v.2.2.1, vI v.2.2.2.1, vI v.2.2.2.2.1, none, none, none, none, none, none, none, none, none, none, none, none, none, none], [.int y16], (H0 s v.2.2.2.2.2))) rfl hy16 ?_
  refine zS Ad W 7 (st' := (46, [vR 0, vR 1, vI v.1, vI v.2.1, vI v.2.2.1, vI v.2.2.2.1, vI v.2.2.2.2.1, vI (y16 &&& (3:Int32)), none, none, none, none, none, none, none, none, none, none, none, none, none], [.int (v.2.2.2.2.1 + (1:Int32)), .ref 0], (H0 s v.2.2.2.2.2))) rfl ?_
  obtain ⟨y17, hy17, h⟩ := bind_eq_some_iff.mp h
  refine zB Ad W (f := fun y17 => (47, [vR 0, vR 1, vI v.1, vI v.2.1, vI v.2.2.1, vI v.2.2.2.1, vI v.2.2.2.2.1, vI (y16 &&& (3:Int32)), none, none, none, none, none, none, none, none, none, none, none, none, none], [.int y17], (H0 s v.2.2.2.2.2))) rfl hy17 ?_
  refine zS Ad W 5 (st' := (54, [vR 0, vR 1, vI v.1, vI v.2.1, vI v.2.2.1, vI v.2.2.2.1, vI v.2.2.2.2.1, vI (y16 &&& (3:Int32)), vI y17, none, none, none, none, none, none, none, none, none, none, none, none], [.int (v.2.2.2.2.1 + (2:Int32)), .ref 0], (H0 s v.2.2.2.2.2))) rfl ?_
  obtain ⟨y18, hy18, h⟩ := bind_eq_some_iff.mp h
  refine zB Ad W (f := fun y18 => (55, [vR 0, vR 1, vI v.1, vI v.2.1, vI v.2.2.1, vI v.2.2.2.1, vI v.2.2.2.2.1, vI (y16 &&& (3:Int32)), vI y17, none, none, none, none, none, none, none, none, none, none, none, none], [.int y18], (H0 s v.2.2.2.2.2))) rfl hy18 ?_
  refine zS Ad W 5 (st' := (62, [vR 0, vR 1, vI v.1, vI v.2.1, vI v.2.2.1, vI v.2.2.2.1, vI v.2.2.2.2.1, vI (y16 &&& (3:Int32)), vI y17, vI y18, none, none, none, none, none, none, none, none, none, none, none], [.int (v.2.2.2.2.1 + (3:Int32)), .ref 0], (H0 s v.2.2.2.2.2))) rfl ?_
  obtain ⟨y19, hy19, h⟩ := bind_eq_some_iff.mp h
  refine zB Ad W (f := fun y19 => (63, [vR 0, vR 1, vI v.1, vI v.2.1, vI v.2.2.1, vI v.2.2.2.1, vI v.2.2.2.2.1, vI (y16 &&& (3:Int32)), vI y17, vI y18, none, none, none, none, none, none, none, none, none, none, none], [.int y19], (H0 s v.2.2.2.2.2))) rfl hy19 ?_
  refine zS Ad W 5 (st' := (70, [vR 0, vR 1, vI v.1, vI v.2.1, vI v.2.2.1, vI v.2.2.2.1, vI v.2.2.2.2.1, vI (y16 &&& (3:Int32)), vI y17, vI y18, vI y19, none, none, none, none, none, none, none, none, none, none], [.int (v.2.2.2.2.1 + (4:Int32)), .ref 0], (H0 s v.2.2.2.2.2))) rfl ?_
  obtain ⟨y20, hy20, h⟩ := bind_eq_some_iff.mp h
  refine zB Ad W (f := fun y20 => (71, [vR 0, vR 1, vI v.1, vI v.2.1, vI v.2.2.1, vI v.2.2.2.1, vI v.2.2.2.2.1, vI (y16 &&& (3:Int32)), vI y17, vI y18, vI y19, none, none, none, none, none, none, none, none, none, none], [.int y20], (H0 s v.2.2.2.2.2))) rfl hy20 ?_
  refine zS Ad W 2 (st' := (75, [vR 0, vR 1, vI v.1, vI v.2.1, vI v.2.2.1, vI v.2.2.2.1, vI v.2.2.2.2.1, vI (y16 &&& (3:Int32)), vI y17, vI y18, vI y19, vI y20, none, none, none, none, none, none, none, none, none], [.int (y16 &&& (3:Int32))], (H0 s v.2.2.2.2.2))) rfl ?_
  rcases qite h with ⟨hc21, h⟩ | ⟨hc21, h⟩
  ·refine zF Ad W (t := 92) (f := 78) rfl (XT.i0_ne_f hc21) ?_
   refine zS Ad W 4 (st' := (85, [vR 0, vR 1, vI v.1, vI v.2.1, vI v.2.2.1, vI v.2.2.2.1, vI v.2.2.2.2.1, vI (y16 &&& (3:Int32)), vI y17, vI y18, vI y19, vI y20, none, none, none, none, none, none, none, none, none], [.int y19, .int y18, .int y17, .ref 1], (H0 s v.2.2.2.2.2))) rfl ?_
   obtain ⟨r97, hr97, h⟩ := bind_eq_some_iff.mp h
   refine QTri.callV W (a := 1) (as := [.int y17, .int y18, .int y19]) (rest := []) (w := (some (.int r97.1))) (σ₁ := (H0 s r97.2)) rfl rfl rfl rfl rfl rfl rfl rfl (tF4 Ad W s v.2.2.2.2.2 y17 y18 y19 hr97) ?_
   refine zS Ad W 2 (st' := (159, [vR 0, vR 1, vI v.1, vI v.2.1, vI v.2.2.1, vI v.2.2.2.1, vI v.2.2.2.2.1, vI (y16 &&& (3:Int32)), vI y17, vI y18, vI y19, vI y20, none, none, none, none, none, none, none, none, none], [], (H0 s r97.2))) rfl ?_
   exact zM [tt,tt,tt,tt,tt,tt,tt,ff,ff,ff,ff,ff,ff,ff,ff,ff,ff,ff,ff,ff,ff] (tJ0_159 Ad W s r97.2 v.1 v.2.1 v.2.2.1 v.2.2.2.1 v.2.2.2.2.1 h hx0 hc)
  ·refine zT Ad W (t := 92) (f := 78) rfl (XT.i0_ne_t hc21) ?_
   refine zS Ad W 2 (st' := (95, [vR 0, vR 1, vI v.1, vI v.2.1, vI v.2.2.1, vI v.2.2.2.1, vI v.2.2.2.2.1, vI (y16 &&& (3:Int32)), vI y17, vI y18, vI y19, vI y20, none, none, none, none, none, none, none, none, none], [.int (1:Int32), .int (y16 &&& (3:Int32))], (H0 s v.2.2.2.2.2))) rfl ?_
   rcases qite h with ⟨hc98, h⟩ | ⟨hc98, h⟩
   ·refine zF Ad W (t := 108) (f := 98) rfl (XT.ii_ne_f hc98) ?_
    refine zS Ad W 2 (st' := (101, [vR 0, vR 1, vI v.1, vI v.2.1, vI v.2.2.1, vI v.2.2.2.1, vI v.2.2.2.2.1, vI (y16 &&& (3:Int32)), vI y17, vI y18, vI y19, vI y20, none, none, none, none, none, none, none, none, none], [.int y17, .ref 1], (H0 s v.2.2.2.2.2))) rfl ?_
    obtain ⟨r113, hr113, h⟩ := bind_eq_some_iff.mp h
    refine QTri.callV W (a := 1) (as := [.int y17]) (rest := []) (w := (some (.int r113.1))) (σ₁ := (H0 s r113.2)) rfl rfl rfl rfl rfl rfl rfl rfl (tF13 Ad W s v.2.2.2.2.2 y17 hr113) ?_
    refine zS Ad W 2 (st' := (159, [vR 0, vR 1, vI v.1, vI v.2.1, vI v.2.2.1, vI v.2.2.2.1, vI v.2.2.2.2.1, vI (y16 &&& (3:Int32)), vI y17, vI y18, vI y19, vI y20, none, none, none, none, none, none, none, none, none], [], (H0 s r113.2))) rfl ?_
    exact zM [tt,tt,tt,tt,tt,tt,tt,ff,ff,ff,ff,ff,ff,ff,ff,ff,ff,ff,ff,ff,ff] (tJ0_159 Ad W s r113.2 v.1 v.2.1 v.2.2.1 v.2.2.2.1 v.2.2.2.2.1 h hx0 hc)
   ·refine zT Ad W (t := 108) (f := 98) rfl (XT.ii_ne_t hc98) ?_
    refine zS Ad W 2 (st' := (111, [vR 0, vR 1, vI v.1, vI v.2.1, vI v.2.2.1, vI v.2.2.2.1, vI v.2.2.2.2.1, vI (y16 &&& (3:Int32)), vI y17, vI y18, vI y19, vI y20, none, none, none, none, none, none, none, none, none], [.int (2:Int32), .int (y16 &&& (3:Int32))], (H0 s v.2.2.2.2.2))) rfl ?_
    rcases qite h with ⟨hc114, h⟩ | ⟨hc114, h⟩
    ·refine zF Ad W (t := 146) (f := 114) rfl (XT.ii_ne_f hc114) ?_
     refine zS Ad W 5 (st' := (123, [vR 0, vR 1, vI v.1, vI v.2.1, vI v.2.2.1, vI v.2.2.2.1, vI v.2.2.2.2.1, vI (y16 &&& (3:Int32)), vI y17, vI y18, vI y19, vI y20, none, none, none, none, none, none, none, none, none], [.int y20, .int y19, .int y18, .int y17, .ref 1], (H0 s v.2.2.2.2.2))) rfl ?_
     obtain ⟨r129, hr129, h⟩ := bind_eq_some_iff.mp h
     refine QTri.callV W (a := 1) (as := [.int y17, .int y18, .int y19, .int y20]) (rest := []) (w := (some (.int r129.1))) (σ₁ := (H0 s r129.2)) rfl rfl rfl rfl rfl rfl rfl rfl (tF11 Ad W s v.2.2.2.2.2 y17 y18 y19 y20 hr129) ?_
     have K134 : ∀ z130 : Int32, z130 = (if r129.1 = (0:Int32) then v.1 else y17) → ∀ z131 : Int32, z131 = (if r129.1 = (0:Int32) then v.2.1 else y18) → ∀ z132 : Int32, z132 = (if r129.1 = (0:Int32) then v.2.2.1 else y19) → ∀ z133 : Int32, z133 = (if r129.1 = (0:Int32) then v.2.2.2.1 else y20) → QTri l Z n0 ad 0 (159, [vR 0, vR 1, vI z130, vI z131, vI z132, vI z133, vI v.2.2.2.2.1, none, none, none, none, none, none, none, none, none, none, none, none, none, none], [], (H0 s r129.2)) u τ := by
      intro z130 ez130
      intro z131 ez131
      intro z132 ez132
      intro z133 ez133
      subst ez130
      subst ez131
      subst ez132
      subst ez133
      exact zM [tt,tt,tt,tt,tt,tt,tt,ff,ff,ff,ff,ff,ff,ff,ff,ff,ff,ff,ff,ff,ff] (tJ0_159 Ad W s r129.2 (if r129.1 = (0:Int32) then v.1 else y17) (if r129.1 = (0:Int32) then v.2.1 else y18) (if r129.1 = (0:Int32) then v.2.2.1 else y19) (if r129.1 = (0:Int32) then v.2.2.2.1 else y20) v.2.2.2.2.1 h hx0 hc)
     rcases em (r129.1 = (0:Int32)) with hc135 | hc135
     ·refine zT Ad W (t := 159) (f := 129) rfl (XT.i0_eq_t hc135) ?_
      exact zM [tt,tt,tt,tt,tt,tt,tt,ff,ff,ff,ff,ff,ff,ff,ff,ff,ff,ff,ff,ff,ff] (K134 _ (if_pos hc135).symm _ (if_pos hc135).symm _ (if_pos hc135).symm _ (if_pos hc135).symm)
     ·refine zF Ad W (t := 159) (f := 129) rfl (XT.i0_eq_f hc135) ?_
      refine zS Ad W 4 (st' := (135, [vR 0, vR 1, vI y17, vI y18, vI v.2.2.1, vI v.2.2.2.1, vI v.2.2.2.2.1, vI (y16 &&& (3:Int32)), vI y17, vI y18, vI y19, vI y20, none, none, none, none, none, none, none, none, none], [], (H0 s r129.2))) rfl ?_
      refine zS Ad W 4 (st' := (143, [vR 0, vR 1, vI y17, vI y18, vI y19, vI y20, vI v.2.2.2.2.1, vI (y16 &&& (3:Int32)), vI y17, vI y18, vI y19, vI y20, none, none, none, none, none, none, none, none, none], [], (H0 s r129.2))) rfl ?_
      refine zS Ad W 1 (st' := (159, [vR 0, vR 1, vI y17, vI y18, vI y19, vI y20, vI v.2.2.2.2.1, vI (y16 &&& (3:Int32)), vI y17, vI y18, vI y19, vI y20, none, none, none, none, none, none, none, none, none], [], (H0 s r129.2))) rfl ?_
      exact zM [tt,tt,tt,tt,tt,tt,tt,ff,ff,ff,ff,ff,ff,ff,ff,ff,ff,ff,ff,ff,ff] (K134 _ (if_neg hc135).symm _ (if_neg hc135).symm _ (if_neg hc135).symm _ (if_neg hc135).symm)
    ·refine zT Ad W (t := 146) (f := 114) rfl (XT.ii_ne_t hc114) ?_
     refine zS Ad W 5 (st' := (155, [vR 0, vR 1, vI v.1, vI v.2.1, vI v.2.2.1, vI v.2.2.2.1, vI v.2.2.2.2.1, vI (y16 &&& (3:Int32)), vI y17, vI y18, vI y19, vI y20, none, none, none, none, none, none, none, none, none], [.int y20, .int y19, .int y18, .int y17, .ref 1], (H0 s v.2.2.2.2.2))) rfl ?_
     obtain ⟨r146, hr146, h⟩ := bind_eq_some_iff.mp h
     refine QTri.callV W (a := 1) (as := [.int y17, .int y18, .int y19, .int y20]) (rest := []) (w := (some (.int r146.1))) (σ₁ := (H0 s r146.2)) rfl rfl rfl rfl rfl rfl rfl rfl (tF2 Ad W s v.2.2.2.2.2 y17 y18 y19 y20 hr146) ?_
     refine zS Ad W 1 (st' := (159, [vR 0, vR 1, vI v.1, vI v.2.1, vI v.2.2.1, vI v.2.2.2.1, vI v.2.2.2.2.1, vI (y16 &&& (3:Int32)), vI y17, vI y18, vI y19, vI y20, none, none, none, none, none, none, none, none, none], [], (H0 s r146.2))) rfl ?_
     exact zM [tt,tt,tt,tt,tt,tt,tt,ff,ff,ff,ff,ff,ff,ff,ff,ff,ff,ff,ff,ff,ff] (tJ0_159 Ad W s r146.2 v.1 v.2.1 v.2.2.1 v.2.2.2.1 v.2.2.2.2.1 h hx0 hc)
def H1 (s : List Int32) (o0 o1 : Ob) : QHeap := [.inr (.inl (.int, s)), .inl [.ref 2, .ref 3, .int (f_rf o0), .int (f_cf o0), .int (f_vf o0), .int (f_ag o0), .ref 4, .ref 5, .ref 6, .ref 7, .ref 8, .ref 9, .int (f_nRows o0), .int (f_nForms o0), .int (f_last o0), .int (f_gVal o0), .int (f_gCount o0), .int (f_selUseR o0), .int (f_selRk o0), .int (f_selUseC o0), .int (f_selCk o0)], .inr (.inl (.int, (f_data o0))), .inr (.inl (.boolean, (f_filled o0))), .inr (.inl (.int, (f_fMode o0))), .inr (.inl (.int, (f_fRk o0))), .inr (.inl (.int, (f_fCk o0))), .inr (.inl (.int, (f_prevVal o0))), .inr (.inl (.boolean, (f_prevFound o0))), .inr (.inl (.int, (f_keys o0))), .inl [.ref 11, .ref 12, .int (f_rf o1), .int (f_cf o1), .int (f_vf o1), .int (f_ag o1), .ref 13, .ref 14, .ref 15, .ref 16, .ref 17, .ref 18, .int (f_nRows o1), .int (f_nForms o1), .int (f_last o1), .int (f_gVal o1), .int (f_gCount o1), .int (f_selUseR o1), .int (f_selRk o1), .int (f_selUseC o1), .int (f_selCk o1)], .inr (.inl (.int, (f_data o1))), .inr (.inl (.boolean, (f_filled o1))), .inr (.inl (.int, (f_fMode o1))), .inr (.inl (.int, (f_fRk o1))), .inr (.inl (.int, (f_fCk o1))), .inr (.inl (.int, (f_prevVal o1))), .inr (.inl (.boolean, (f_prevFound o1))), .inr (.inl (.int, (f_keys o1)))]
def H1v (s : List Int32) (a0_0 : List Int32) (a0_1 : List Int32) (a0_2 : Int32) (a0_3 : Int32) (a0_4 : Int32) (a0_5 : Int32) (a0_6 : List Int32) (a0_7 : List Int32) (a0_8 : List Int32) (a0_9 : List Int32) (a0_10 : List Int32) (a0_11 : List Int32) (a0_12 : Int32) (a0_13 : Int32) (a0_14 : Int32) (a0_15 : Int32) (a0_16 : Int32) (a0_17 : Int32) (a0_18 : Int32) (a0_19 : Int32) (a0_20 : Int32) (a1_0 : List Int32) (a1_1 : List Int32) (a1_2 : Int32) (a1_3 : Int32) (a1_4 : Int32) (a1_5 : Int32) (a1_6 : List Int32) (a1_7 : List Int32) (a1_8 : List Int32) (a1_9 : List Int32) (a1_10 : List Int32) (a1_11 : List Int32) (a1_12 : Int32) (a1_13 : Int32) (a1_14 : Int32) (a1_15 : Int32) (a1_16 : Int32) (a1_17 : Int32) (a1_18 : Int32) (a1_19 : Int32) (a1_20 : Int32) : QHeap := [.inr (.inl (.int, s)), .inl [.ref 2, .ref 3, .int a0_2, .int a0_3, .int a0_4, .int a0_5, .ref 4, .ref 5, .ref 6, .ref 7, .ref 8, .ref 9, .int a0_12, .int a0_13, .int a0_14, .int a0_15, .int a0_16, .int a0_17, .int a0_18, .int a0_19, .int a0_20], .inr (.inl (.int, a0_0)), .inr (.inl (.boolean, a0_1)), .inr (.inl (.int, a0_6)), .inr (.inl (.int, a0_7)), .inr (.inl (.int, a0_8)), .inr (.inl (.int, a0_9)), .inr (.inl (.boolean, a0_10)), .inr (.inl (.int, a0_11)), .inl [.ref 11, .ref 12, .int a1_2, .int a1_3, .int a1_4, .int a1_5, .ref 13, .ref 14, .ref 15, .ref 16, .ref 17, .ref 18, .int a1_12, .int a1_13, .int a1_14, .int a1_15, .int a1_16, .int a1_17, .int a1_18, .int a1_19, .int a1_20], .inr (.inl (.int, a1_0)), .inr (.inl (.boolean, a1_1)), .inr (.inl (.int, a1_6)), .inr (.inl (.int, a1_7)), .inr (.inl (.int, a1_8)), .inr (.inl (.int, a1_9)), .inr (.inl (.boolean, a1_10)), .inr (.inl (.int, a1_11))]
def H1x20 (s : List Int32) (o0 o1 : Ob) (a1_0 : List Int32) (a1_1 : List Int32) (a1_2 : Int32) (a1_3 : Int32) (a1_4 : Int32) (a1_5 : Int32) (a1_6 : List Int32) (a1_7 : List Int32) (a1_8 : List Int32) (a1_9 : List Int32) (a1_10 : List Int32) (a1_11 : List Int32) : QHeap := H1v s (f_data o0) (f_filled o0) (f_rf o0) (f_cf o0) (f_vf o0) (f_ag o0) (f_fMode o0) (f_fRk o0) (f_fCk o0) (f_prevVal o0) (f_prevFound o0) (f_keys o0) (f_nRows o0) (f_nForms o0) (f_last o0) (f_gVal o0) (f_gCount o0) (f_selUseR o0) (f_selRk o0) (f_selUseC o0) (f_selCk o0) a1_0 a1_1 a1_2 a1_3 a1_4 a1_5 a1_6 a1_7 a1_8 a1_9 a1_10 a1_11 (f_nRows o1) (f_nForms o1) (f_last o1) (f_gVal o1) (f_gCount o1) (f_selUseR o1) (f_selRk o1) (f_selUseC o1) (f_selCk o1)
def H1x21 (s : List Int32) (o0 o1 : Ob) (a1_0 : List Int32) (a1_1 : List Int32) (a1_2 : Int32) (a1_3 : Int32) (a1_4 : Int32) (a1_5 : Int32) (a1_6 : List Int32) (a1_7 : List Int32) (a1_8 : List Int32) (a1_9 : List Int32) (a1_10 : List Int32) (a1_11 : List Int32) (a1_12 : Int32) : QHeap := H1v s (f_data o0) (f_filled o0) (f_rf o0) (f_cf o0) (f_vf o0) (f_ag o0) (f_fMode o0) (f_fRk o0) (f_fCk o0) (f_prevVal o0) (f_prevFound o0) (f_keys o0) (f_nRows o0) (f_nForms o0) (f_last o0) (f_gVal o0) (f_gCount o0) (f_selUseR o0) (f_selRk o0) (f_selUseC o0) (f_selCk o0) a1_0 a1_1 a1_2 a1_3 a1_4 a1_5 a1_6 a1_7 a1_8 a1_9 a1_10 a1_11 a1_12 (f_nForms o1) (f_last o1) (f_gVal o1) (f_gCount o1) (f_selUseR o1) (f_selRk o1) (f_selUseC o1) (f_selCk o1)
def H1x22 (s : List Int32) (o0 o1 : Ob) (a1_0 : List Int32) (a1_1 : List Int32) (a1_2 : Int32) (a1_3 : Int32) (a1_4 : Int32) (a1_5 : Int32) (a1_6 : List Int32) (a1_7 : List Int32) (a1_8 : List Int32) (a1_9 : List Int32) (a1_10 : List Int32) (a1_11 : List Int32) (a1_12 : Int32) (a1_13 : Int32) : QHeap := H1v s (f_data o0) (f_filled o0) (f_rf o0) (f_cf o0) (f_vf o0) (f_ag o0) (f_fMode o0) (f_fRk o0) (f_fCk o0) (f_prevVal o0) (f_prevFound o0) (f_keys o0) (f_nRows o0) (f_nForms o0) (f_last o0) (f_gVal o0) (f_gCount o0) (f_selUseR o0) (f_selRk o0) (f_selUseC o0) (f_selCk o0) a1_0 a1_1 a1_2 a1_3 a1_4 a1_5 a1_6 a1_7 a1_8 a1_9 a1_10 a1_11 a1_12 a1_13 (f_last o1) (f_gVal o1) (f_gCount o1) (f_selUseR o1) (f_selRk o1) (f_selUseC o1) (f_selCk o1)
def H1x23 (s : List Int32) (o0 o1 : Ob) (a1_0 : List Int32) (a1_1 : List Int32) (a1_2 : Int32) (a1_3 : Int32) (a1_4 : Int32) (a1_5 : Int32) (a1_6 : List Int32) (a1_7 : List Int32) (a1_8 : List Int32) (a1_9 : List Int32) (a1_10 : List Int32) (a1_11 : List Int32) (a1_12 : Int32) (a1_13 : Int32) (a1_14 : Int32) : QHeap := H1v s (f_data o0) (f_filled o0) (f_rf o0) (f_cf o0) (f_vf o0) (f_ag o0) (f_fMode o0) (f_fRk o0) (f_fCk o0) (f_prevVal o0) (f_prevFound o0) (f_keys o0) (f_nRows o0) (f_nForms o0) (f_last o0) (f_gVal o0) (f_gCount o0) (f_selUseR o0) (f_selRk o0) (f_selUseC o0) (f_selCk o0) a1_0 a1_1 a1_2 a1_3 a1_4 a1_5 a1_6 a1_7 a1_8 a1_9 a1_10 a1_11 a1_12 a1_13 a1_14 (f_gVal o1) (f_gCount o1) (f_selUseR o1) (f_selRk o1) (f_selUseC o1) (f_selCk o1)
theorem tF1a1 (Ad : QAd n0 ad) (W : QW Z a0) (s : List Int32) (e0 : Ob) (x1 : Int32) (x2 : Int32) {r : Ob} (h : F1 x1 x2 = some r) : QTri l Z n0 ad 1 (0, qentry [.ref 10, .int x1, .int x2] (pMaxL 1), [], [.inr (.inl (.int, s)), .inl [.ref 2, .ref 3, .int (f_rf e0), .int (f_cf e0), .int (f_vf e0), .int (f_ag e0), .ref 4, .ref 5, .ref 6, .ref 7, .ref 8, .ref 9, .int (f_nRows e0), .int (f_nForms e0), .int (f_last e0), .int (f_gVal e0), .int (f_gCount e0), .int (f_selUseR e0), .int (f_selRk e0), .int (f_selUseC e0), .int (f_selCk e0)], .inr (.inl (.int, (f_data e0))), .inr (.inl (.boolean, (f_filled e0))), .inr (.inl (.int, (f_fMode e0))), .inr (.inl (.int, (f_fRk e0))), .inr (.inl (.int, (f_fCk e0))), .inr (.inl (.int, (f_prevVal e0))), .inr (.inl (.boolean, (f_prevFound e0))), .inr (.inl (.int, (f_keys e0))), .inl [.null, .null, .int (f_rf ob0), .int (f_cf ob0), .int (f_vf ob0), .int (f_ag ob0), .null, .null, .null, .null, .null, .null, .int (f_nRows ob0), .int (f_nForms ob0), .int (f_last ob0), .int (f_gVal ob0), .int (f_gCount ob0), .int (f_selUseR ob0), .int (f_selRk ob0), .int (f_selUseC ob0), .int (f_selCk ob0)]]) (none : Option Value) (H1 s e0 r) := by
 unfold F1 at h
 refine zS Ad W 1 (st' := (1, [vR 10, vI x1, vI x2, none, none], [.ref 10], [.inr (.inl (.int, s)), .inl [.ref 2, .ref 3, .int (f_rf e0), .int (f_cf e0), .int (f_vf e0), .int (f_ag e0), .ref 4, .ref 5, .ref 6, .ref 7, .ref 8, .ref 9, .int (f_nRows e0), .int (f_nForms e0), .int (f_last e0), .int (f_gVal e0), .int (f_gCount e0), .int (f_selUseR e0), .int (f_selRk e0), .int (f_selUseC e0), .int (f_selCk e0)], .inr (.inl (.int, (f_data e0))), .inr (.inl (.boolean, (f_filled e0))), .inr (.inl (.int, (f_fMode e0))), .inr (.inl (.int, (f_fRk e0))), .inr (.inl (.int, (f_fCk e0))), .inr (.inl (.int, (f_prevVal e0))), .inr (.inl (.boolean, (f_prevFound e0))), .inr (.inl (.int, (f_keys e0))), .inl [.null, .null, .int (f_rf ob0), .int (f_cf ob0), .int (f_vf ob0), .int (f_ag ob0), .null, .null, .null, .null, .null, .null, .int (f_nRows ob0), .int (f_nForms ob0), .int (f_last ob0), .int (f_gVal ob0), .int (f_gCount ob0), .int (f_selUseR ob0), .int (f_selRk ob0), .int (f_selUseC ob0), .int (f_selCk ob0)]])) rfl ?_
 refine QTri.callO W rfl rfl rfl ?_
 refine zS Ad W 3 (st' := (10, [vR 10, vI x1, vI x2, none, none], [.ref 11, .ref 10], [.inr (.inl (.int, s)), .inl [.ref 2, .ref 3, .int (f_rf e0), .int (f_cf e0), .int (f_vf e0), .int (f_ag e0), .ref 4, .ref 5, .ref 6, .ref 7, .ref 8, .ref 9, .int (f_nRows e0), .int (f_nForms e0), .int (f_last e0), .int (f_gVal e0), .int (f_gCount e0), .int (f_selUseR e0), .int (f_selRk e0), .int (f_selUseC e0), .int (f_selCk e0)], .inr (.inl (.int, (f_data e0))), .inr (.inl (.boolean, (f_filled e0))), .inr (.inl (.int, (f_fMode e0))), .inr (.inl (.int, (f_fRk e0))), .inr (.inl (.int, (f_fCk e0))), .inr (.inl (.int, (f_prevVal e0))), .inr (.inl (.boolean, (f_prevFound e0))), .inr (.inl (.int, (f_keys e0))), .inl [.null, .null, .int (f_rf ob0), .int (f_cf ob0), .int (f_vf ob0), .int (f_ag ob0), .null, .null, .null, .null, .null, .null, .int (f_nRows ob0), .int (f_nForms ob0), .int (f_last ob0), .int (f_gVal ob0), .int (f_gCount ob0), .int (f_selUseR ob0), .int (f_selRk ob0), .int (f_selUseC ob0), .int (f_selCk ob0)], .inr (.inl (.int, (List.replicate 128 0)))])) rfl ?_
 refine zS Ad W 1 (st' := (13, [vR 10, vI x1, vI x2, none, none], [], [.inr (.inl (.int, s)), .inl [.ref 2, .ref 3, .int (f_rf e0), .int (f_cf e0), .int (f_vf e0), .int (f_ag e0), .ref 4, .ref 5, .ref 6, .ref 7, .ref 8, .ref 9, .int (f_nRows e0), .int (f_nForms e0), .int (f_last e0), .int (f_gVal e0), .int (f_gCount e0), .int (f_selUseR e0), .int (f_selRk e0), .int (f_selUseC e0), .int (f_selCk e0)], .inr (.inl (.int, (f_data e0))), .inr (.inl (.boolean, (f_filled e0))), .inr (.inl (.int, (f_fMode e0))), .inr (.inl (.int, (f_fRk e0))), .inr (.inl (.int, (f_fCk e0))), .inr (.inl (.int, (f_prevVal e0))), .inr (.inl (.boolean, (f_prevFound e0))), .inr (.inl (.int, (f_keys e0))), .inl [.ref 11, .null, .int (f_rf ob0), .int (f_cf ob0), .int (f_vf ob0), .int (f_ag ob0), .null, .null, .null, .null, .null, .null, .int (f_nRows ob0), .int (f_nForms ob0), .int (f_last ob0), .int (f_gVal ob0), .int (f_gCount ob0), .int (f_selUseR ob0), .int (f_selRk ob0), .int (f_selUseC ob0), .int (f_selCk ob0)], .inr (.inl (.int, (List.replicate 128 0)))])) rfl ?_
 refine zS Ad W 3 (st' := (18, [vR 10, vI x1, vI x2, none, none], [.ref 12, .ref 10], [.inr (.inl (.int, s)), .inl [.ref 2, .ref 3, .int (f_rf e0), .int (f_cf e0), .int (f_vf e0), .int (f_ag e0), .ref 4, .ref 5, .ref 6, .ref 7, .ref 8, .ref 9, .int (f_nRows e0), .int (f_nForms e0), .int (f_last e0), .int (f_gVal e0), .int (f_gCount e0), .int (f_selUseR e0), .int (f_selRk e0), .int (f_selUseC e0), .int (f_selCk e0)], .inr (.inl (.int, (f_data e0))), .inr (.inl (.boolean, (f_filled e0))), .inr (.inl (.int, (f_fMode e0))), .inr (.inl (.int, (f_fRk e0))), .inr (.inl (.int, (f_fCk e0))), .inr (.inl (.int, (f_prevVal e0))), .inr (.inl (.boolean, (f_prevFound e0))), .inr (.inl (.int, (f_keys e0))), .inl [.ref 11, .null, .int (f_rf ob0), .int (f_cf ob0), .int (f_vf ob0), .int (f_ag ob0), .null, .null, .null, .null, .null, .null, .int (f_nRows ob0), .int (f_nForms ob0), .int (f_last ob0), .int (f_gVal ob0), .int (f_gCount ob0), .int (f_selUseR ob0), .int (f_selRk ob0), .int (f_selUseC ob0), .int (f_selCk ob0)], .inr (.inl (.int, (List.replicate 128 0))), .inr (.inl (.boolean, (List.replicate 32 0)))])) rfl ?_
 refine zS Ad W 1 (st' := (21, [vR 10, vI x1, vI x2, none, none], [], [.inr (.inl (.int, s)), .inl [.ref 2, .ref 3, .int (f_rf e0), .int (f_cf e0), .int (f_vf e0), .int (f_ag e0), .ref 4, .ref 5, .ref 6, .ref 7, .ref 8, .ref 9, .int (f_nRows e0), .int (f_nForms e0), .int (f_last e0), .int (f_gVal e0), .int (f_gCount e0), .int (f_selUseR e0), .int (f_selRk e0), .int (f_selUseC e0), .int (f_selCk e0)], .inr (.inl (.int, (f_data e0))), .inr (.inl (.boolean, (f_filled e0))), .inr (.inl (.int, (f_fMode e0))), .inr (.inl (.int, (f_fRk e0))), .inr (.inl (.int, (f_fCk e0))), .inr (.inl (.int, (f_prevVal e0))), .inr (.inl (.boolean, (f_prevFound e0))), .inr (.inl (.int, (f_keys e0))), .inl [.ref 11, .ref 12, .int (f_rf ob0), .int (f_cf ob0), .int (f_vf ob0), .int (f_ag ob0), .null, .null, .null, .null, .null, .null, .int (f_nRows ob0), .int (f_nForms ob0), .int (f_last ob0), .int (f_gVal ob0), .int (f_gCount ob0), .int (f_selUseR ob0), .int (f_selRk ob0), .int (f_selUseC ob0), .int (f_selCk ob0)], .inr (.inl (.int, (List.replicate 128 0))), .inr (.inl (.boolean, (List.replicate 32 0)))])) rfl ?_
 refine zS Ad W 3 (st' := (26, [vR 10, vI x1, vI x2, none, none], [], [.inr (.inl (.int, s)), .inl [.ref 2, .ref 3, .int (f_rf e0), .int (f_cf e0), .int (f_vf e0), .int (f_ag e0), .ref 4, .ref 5, .ref 6, .ref 7, .ref 8, .ref 9, .int (f_nRows e0), .int (f_nForms e0), .int (f_last e0), .int (f_gVal e0), .int (f_gCount e0), .int (f_selUseR e0), .int (f_selRk e0), .int (f_selUseC e0), .int (f_selCk e0)], .inr (.inl (.int, (f_data e0))), .inr (.inl (.boolean, (f_filled e0))), .inr (.inl (.int, (f_fMode e0))), .inr (.inl (.int, (f_fRk e0))), .inr (.inl (.int, (f_fCk e0))), .inr (.inl (.int, (f_prevVal e0))), .inr (.inl (.boolean, (f_prevFound e0))), .inr (.inl (.int, (f_keys e0))), .inl [.ref 11, .ref 12, .int (0:Int32), .int (f_cf ob0), .int (f_vf ob0), .int (f_ag ob0), .null, .null, .null, .null, .null, .null, .int (f_nRows ob0), .int (f_nForms ob0), .int (f_last ob0), .int (f_gVal ob0), .int (f_gCount ob0), .int (f_selUseR ob0), .int (f_selRk ob0), .int (f_selUseC ob0), .int (f_selCk ob0)], .inr (.inl (.int, (List.replicate 128 0))), .inr (.inl (.boolean, (List.replicate 32 0)))])) rfl ?_
 refine zS Ad W 3 (st' := (31, [vR 10, vI x1, vI x2, none, none], [], [.inr (.inl (.int, s)), .inl [.ref 2, .ref 3, .int (f_rf e0), .int (f_cf e0), .int (f_vf e0), .int (f_ag e0), .ref 4, .ref 5, .ref 6, .ref 7, .ref 8, .ref 9, .int (f_nRows e0), .int (f_nForms e0), .int (f_last e0), .int (f_gVal e0), .int (f_gCount e0), .int (f_selUseR e0), .int (f_selRk e0), .int (f_selUseC e0), .int (f_selCk e0)], .inr (.inl (.int, (f_data e0))), .inr (.inl (.boolean, (f_filled e0))), .inr (.inl (.int, (f_fMode e0))), .inr (.inl (.int, (f_fRk e0))), .inr (.inl (.int, (f_fCk e0))), .inr (.inl (.int, (f_prevVal e0))), .inr (.inl (.boolean, (f_prevFound e0))), .inr (.inl (.int, (f_keys e0))), .inl [.ref 11, .ref 12, .int (0:Int32), .int (1:Int32), .int (f_vf ob0), .int (f_ag ob0), .null, .null, .null, .null, .null, .null, .int (f_nRows ob0), .int (f_nForms ob0), .int (f_last ob0), .int (f_gVal ob0), .int (f_gCount ob0), .int (f_selUseR ob0), .int (f_selRk ob0), .int (f_selUseC ob0), .int (f_selCk ob0)], .inr (.inl (.int, (List.replicate 128 0))), .inr (.inl (.boolean, (List.replicate 32 0)))])) rfl ?_
 refine zS Ad W 3 (st' := (36, [vR 10, vI x1, vI x2, none, none], [], [.inr (.inl (.int, s)), .inl [.ref 2, .ref 3, .int (f_rf e0), .int (f_cf e0), .int (f_vf e0), .int (f_ag e0), .ref 4, .ref 5, .ref 6, .ref 7, .ref 8, .ref 9, .int (f_nRows e0), .int (f_nForms e0), .int (f_last e0), .int (f_gVal e0), .int (f_gCount e0), .int (f_selUseR e0), .int (f_selRk e0), .int (f_selUseC e0), .int (f_selCk e0)], .inr (.inl (.int, (f_data e0))), .inr (.inl (.boolean, (f_filled e0))), .inr (.inl (.int, (f_fMode e0))), .inr (.inl (.int, (f_fRk e0))), .inr (.inl (.int, (f_fCk e0))), .inr (.inl (.int, (f_prevVal e0))), .inr (.inl (.boolean, (f_prevFound e0))), .inr (.inl (.int, (f_keys e0))), .inl [.ref 11, .ref 12, .int (0:Int32), .int (1:Int32), .int (2:Int32), .int (f_ag ob0), .null, .null, .null, .null, .null, .null, .int (f_nRows ob0), .int (f_nForms ob0), .int (f_last ob0), .int (f_gVal ob0), .int (f_gCount ob0), .int (f_selUseR ob0), .int (f_selRk ob0), .int (f_selUseC ob0), .int (f_selCk ob0)], .inr (.inl (.int, (List.replicate 128 0))), .inr (.inl (.boolean, (List.replicate 32 0)))])) rfl ?_
 refine zS Ad W 3 (st' := (41, [vR 10, vI x1, vI x2, none, none], [], [.inr (.inl (.int, s)), .inl [.ref 2, .ref 3, .int (f_rf e0), .int (f_cf e0), .int (f_vf e0), .int (f_ag e0), .ref 4, .ref 5, .ref 6, .ref 7, .ref 8, .ref 9, .int (f_nRows e0), .int (f_nForms e0), .int (f_last e0), .int (f_gVal e0), .int (f_gCount e0), .int (f_selUseR e0), .int (f_selRk e0), .int (f_selUseC e0), .int (f_selCk e0)], .inr (.inl (.int, (f_data e0))), .inr (.inl (.boolean, (f_filled e0))), .inr (.inl (.int, (f_fMode e0))), .inr (.inl (.int, (f_fRk e0))), .inr (.inl (.int, (f_fCk e0))), .inr (.inl (.int, (f_prevVal e0))), .inr (.inl (.boolean, (f_prevFound e0))), .inr (.inl (.int, (f_keys e0))), .inl [.ref 11, .ref 12, .int (0:Int32), .int (1:Int32), .int (2:Int32), .int (0:Int32), .null, .null, .null, .null, .null, .null, .int (f_nRows ob0), .int (f_nForms ob0), .int (f_last ob0), .int (f_gVal ob0), .int (f_gCount ob0), .int (f_selUseR ob0), .int (f_selRk ob0), .int (f_selUseC ob0), .int (f_selCk ob0)], .inr (.inl (.int, (List.replicate 128 0))), .inr (.inl (.boolean, (List.replicate 32 0)))])) rfl ?_
 refine zS Ad W 3 (st' := (46, [vR 10, vI x1, vI x2, none, none], [.ref 13, .ref 10], [.inr (.inl (.int, s)), .inl [.ref 2, .ref 3, .int (f_rf e0), .int (f_cf e0), .int (f_vf e0), .int (f_ag e0), .ref 4, .ref 5, .ref 6, .ref 7, .ref 8, .ref 9, .int (f_nRows e0), .int (f_nForms e0), .int (f_last e0), .int (f_gVal e0), .int (f_gCount e0), .int (f_selUseR e0), .int (f_selRk e0), .int (f_selUseC e0), .int (f_selCk e0)], .inr (.inl (.int, (f_data e0))), .inr (.inl (.boolean, (f_filled e0))), .inr (.inl (.int, (f_fMode e0))), .inr (.inl (.int, (f_fRk e0))), .inr (.inl (.int, (f_fCk e0))), .inr (.inl (.int, (f_prevVal e0))), .inr (.inl (.boolean, (f_prevFound e0))), .inr (.inl (.int, (f_keys e0))), .inl [.ref 11, .ref 12, .int (0:Int32), .int (1:Int32), .int (2:Int32), .int (0:Int32), .null, .null, .null, .null, .null, .null, .int (f_nRows ob0), .int (f_nForms ob0), .int (f_last ob0), .int (f_gVal ob0), .int (f_gCount ob0), .int (f_selUseR ob0), .int (f_selRk ob0), .int (f_selUseC ob0), .int (f_selCk ob0)], .inr (.inl (.int, (List.replicate 128 0))), .inr (.inl (.boolean, (List.replicate 32 0))), .inr (.inl (.int, (List.replicate 16 0)))])) rfl ?_
 refine zS Ad W 1 (st' := (49, [vR 10, vI x1, vI x2, none, none], [], [.inr (.inl (.int, s)), .inl [.ref 2, .ref 3, .int (f_rf e0), .int (f_cf e0), .int (f_vf e0), .int (f_ag e0), .ref 4, .ref 5, .ref 6, .ref 7, .ref 8, .ref 9, .int (f_nRows e0), .int (f_nForms e0), .int (f_last e0), .int (f_gVal e0), .int (f_gCount e0), .int (f_selUseR e0), .int (f_selRk e0), .int (f_selUseC e0), .int (f_selCk e0)], .inr (.inl (.int, (f_data e0))), .inr (.inl (.boolean, (f_filled e0))), .inr (.inl (.int, (f_fMode e0))), .inr (.inl (.int, (f_fRk e0))), .inr (.inl (.int, (f_fCk e0))), .inr (.inl (.int, (f_prevVal e0))), .inr (.inl (.boolean, (f_prevFound e0))), .inr (.inl (.int, (f_keys e0))), .inl [.ref 11, .ref 12, .int (0:Int32), .int (1:Int32), .int (2:Int32), .int (0:Int32), .ref 13, .null, .null, .null, .null, .null, .int (f_nRows ob0), .int (f_nForms ob0), .int (f_last ob0), .int (f_gVal ob0), .int (f_gCount ob0), .int (f_selUseR ob0), .int (f_selRk ob0), .int (f_selUseC ob0), .int (f_selCk ob0)], .inr (.inl (.int, (List.replicate 128 0))), .inr (.inl (.boolean, (List.replicate 32 0))), .inr (.inl (.int, (List.replicate 16 0)))])) rfl ?_
 refine zS Ad W 3 (st' := (54, [vR 10, vI x1, vI x2, none, none], [.ref 14, .ref 10], [.inr (.inl (.int, s)), .inl [.ref 2, .ref 3, .int (f_rf e0), .int (f_cf e0), .int (f_vf e0), .int (f_ag e0), .ref 4, .ref 5, .ref 6, .ref 7, .ref 8, .ref 9, .int (f_nRows e0), .int (f_nForms e0), .int (f_last e0), .int (f_gVal e0), .int (f_gCount e0), .int (f_selUseR e0), .int (f_selRk e0), .int (f_selUseC e0), .int (f_selCk e0)], .inr (.inl (.int, (f_data e0))), .inr (.inl (.boolean, (f_filled e0))), .inr (.inl (.int, (f_fMode e0))), .inr (.inl (.int, (f_fRk e0))), .inr (.inl (.int, (f_fCk e0))), .inr (.inl (.int, (f_prevVal e0))), .inr (.inl (.boolean, (f_prevFound e0))), .inr (.inl (.int, (f_keys e0))), .inl [.ref 11, .ref 12, .int (0:Int32), .int (1:Int32), .int (2:Int32), .int (0:Int32), .ref 13, .null, .null, .null, .null, .null, .int (f_nRows ob0), .int (f_nForms ob0), .int (f_last ob0), .int (f_gVal ob0), .int (f_gCount ob0), .int (f_selUseR ob0), .int (f_selRk ob0), .int (f_selUseC ob0), .int (f_selCk ob0)], .inr (.inl (.int, (List.replicate 128 0))), .inr (.inl (.boolean, (List.replicate 32 0))), .inr (.inl (.int, (List.replicate 16 0))), .inr (.inl (.int, (List.replicate 16 0)))])) rfl ?_
 refine zS Ad W 1 (st' := (57, [vR 10, vI x1, vI x2, none, none], [], [.inr (.inl (.int, s)), .inl [.ref 2, .ref 3, .int (f_rf e0), .int (f_cf e0), .int (f_vf e0), .int (f_ag e0), .ref 4, .ref 5, .ref 6, .ref 7, .ref 8, .ref 9, .int (f_nRows e0), .int (f_nForms e0), .int (f_last e0), .int (f_gVal e0), .int (f_gCount e0), .int (f_selUseR e0), .int (f_selRk e0), .int (f_selUseC e0), .int (f_selCk e0)], .inr (.inl (.int, (f_data e0))), .inr (.inl (.boolean, (f_filled e0))), .inr (.inl (.int, (f_fMode e0))), .inr (.inl (.int, (f_fRk e0))), .inr (.inl (.int, (f_fCk e0))), .inr (.inl (.int, (f_prevVal e0))), .inr (.inl (.boolean, (f_prevFound e0))), .inr (.inl (.int, (f_keys e0))), .inl [.ref 11, .ref 12, .int (0:Int32), .int (1:Int32), .int (2:Int32), .int (0:Int32), .ref 13, .ref 14, .null, .null, .null, .null, .int (f_nRows ob0), .int (f_nForms ob0), .int (f_last ob0), .int (f_gVal ob0), .int (f_gCount ob0), .int (f_selUseR ob0), .int (f_selRk ob0), .int (f_selUseC ob0), .int (f_selCk ob0)], .inr (.inl (.int, (List.replicate 128 0))), .inr (.inl (.boolean, (List.replicate 32 0))), .inr (.inl (.int, (List.replicate 16 0))), .inr (.inl (.int, (List.replicate 16 0)))])) rfl ?_
 refine zS Ad W 3 (st' := (62, [vR 10, vI x1, vI x2, none, none], [.ref 15, .ref 10], [.inr (.inl (.int, s)), .inl [.ref 2, .ref 3, .int (f_rf e0), .int (f_cf e0), .int (f_vf e0), .int (f_ag e0), .ref 4, .ref 5, .ref 6, .ref 7, .ref 8, .ref 9, .int (f_nRows e0), .int (f_nForms e0), .int (f_last e0), .int (f_gVal e0), .int (f_gCount e0), .int (f_selUseR e0), .int (f_selRk e0), .int (f_selUseC e0), .int (f_selCk e0)], .inr (.inl (.int, (f_data e0))), .inr (.inl (.boolean, (f_filled e0))), .inr (.inl (.int, (f_fMode e0))), .inr (.inl (.int, (f_fRk e0))), .inr (.inl (.int, (f_fCk e0))), .inr (.inl (.int, (f_prevVal e0))), .inr (.inl (.boolean, (f_prevFound e0))), .inr (.inl (.int, (f_keys e0))), .inl [.ref 11, .ref 12, .int (0:Int32), .int (1:Int32), .int (2:Int32), .int (0:Int32), .ref 13, .ref 14, .null, .null, .null, .null, .int (f_nRows ob0), .int (f_nForms ob0), .int (f_last ob0), .int (f_gVal ob0), .int (f_gCount ob0), .int (f_selUseR ob0), .int (f_selRk ob0), .int (f_selUseC ob0), .int (f_selCk ob0)], .inr (.inl (.int, (List.replicate 128 0))), .inr (.inl (.boolean, (List.replicate 32 0))), .inr (.inl (.int, (List.replicate 16 0))), .inr (.inl (.int, (List.replicate 16 0))), .inr (.inl (.int, (List.replicate 16 0)))])) rfl ?_
 refine zS Ad W 1 (st' := (65, [vR 10, vI x1, vI x2, none, none], [], [.inr (.inl (.int, s)), .inl [.ref 2, .ref 3, .int (f_rf e0), .int (f_cf e0), .int (f_vf e0), .int (f_ag e0), .ref 4, .ref 5, .ref 6, .ref 7, .ref 8, .ref 9, .int (f_nRows e0), .int (f_nForms e0), .int (f_last e0), .int (f_gVal e0), .int (f_gCount e0), .int (f_selUseR e0), .int (f_selRk e0), .int (f_selUseC e0), .int (f_selCk e0)], .inr (.inl (.int, (f_data e0))), .inr (.inl (.boolean, (f_filled e0))), .inr (.inl (.int, (f_fMode e0))), .inr (.inl (.int, (f_fRk e0))), .inr (.inl (.int, (f_fCk e0))), .inr (.inl (.int, (f_prevVal e0))), .inr (.inl (.boolean, (f_prevFound e0))), .inr (.inl (.int, (f_keys e0))), .inl [.ref 11, .ref 12, .int (0:Int32), .int (1:Int32), .int (2:Int32), .int (0:Int32), .ref 13, .ref 14, .ref 15, .null, .null, .null, .int (f_nRows ob0), .int (f_nForms ob0), .int (f_last ob0), .int (f_gVal ob0), .int (f_gCount ob0), .int (f_selUseR ob0), .int (f_selRk ob0), .int (f_selUseC ob0), .int (f_selCk ob0)], .inr (.inl (.int, (List.replicate 128 0))), .inr (.inl (.boolean, (List.replicate 32 0))), .inr (.inl (.int, (List.replicate 16 0))), .inr (.inl (.int, (List.replicate 16 0))), .inr (.inl (.int, (List.replicate 16 0)))])) rfl ?_
 refine zS Ad W 3 (st' := (70, [vR 10, vI x1, vI x2, none, none], [.ref 16, .ref 10], [.inr (.inl (.int, s)), .inl [.ref 2, .ref 3, .int (f_rf e0), .int (f_cf e0), .int (f_vf e0), .int (f_ag e0), .ref 4, .ref 5, .ref 6, .ref 7, .ref 8, .ref 9, .int (f_nRows e0), .int (f_nForms e0), .int (f_last e0), .int (f_gVal e0), .int (f_gCount e0), .int (f_selUseR e0), .int (f_selRk e0), .int (f_selUseC e0), .int (f_selCk e0)], .inr (.inl (.int, (f_data e0))), .inr (.inl (.boolean, (f_filled e0))), .inr (.inl (.int, (f_fMode e0))), .inr (.inl (.int, (f_fRk e0))), .inr (.inl (.int, (f_fCk e0))), .inr (.inl (.int, (f_prevVal e0))), .inr (.inl (.boolean, (f_prevFound e0))), .inr (.inl (.int, (f_keys e0))), .inl [.ref 11, .ref 12, .int (0:Int32), .int (1:Int32), .int (2:Int32), .int (0:Int32), .ref 13, .ref 14, .ref 15, .null, .null, .null, .int (f_nRows ob0), .int (f_nForms ob0), .int (f_last ob0), .int (f_gVal ob0), .int (f_gCount ob0), .int (f_selUseR ob0), .int (f_selRk ob0), .int (f_selUseC ob0), .int (f_selCk ob0)], .inr (.inl (.int, (List.replicate 128 0))), .inr (.inl (.boolean, (List.replicate 32 0))), .inr (.inl (.int, (List.replicate 16 0))), .inr (.inl (.int, (List.replicate 16 0))), .inr (.inl (.int, (List.replicate 16 0))), .inr (.inl (.int, (List.replicate 16 0)))])) rfl ?_
 refine zS Ad W 1 (st' := (73, [vR 10, vI x1, vI x2, none, none], [], [.inr (.inl (.int, s)), .inl [.ref 2, .ref 3, .int (f_rf e0), .int (f_cf e0), .int (f_vf e0), .int (f_ag e0), .ref 4, .ref 5, .ref 6, .ref 7, .ref 8, .ref 9, .int (f_nRows e0), .int (f_nForms e0), .int (f_last e0), .int (f_gVal e0), .int (f_gCount e0), .int (f_selUseR e0), .int (f_selRk e0), .int (f_selUseC e0), .int (f_selCk e0)], .inr (.inl (.int, (f_data e0))), .inr (.inl (.boolean, (f_filled e0))), .inr (.inl (.int, (f_fMode e0))), .inr (.inl (.int, (f_fRk e0))), .inr (.inl (.int, (f_fCk e0))), .inr (.inl (.int, (f_prevVal e0))), .inr (.inl (.boolean, (f_prevFound e0))), .inr (.inl (.int, (f_keys e0))), .inl [.ref 11, .ref 12, .int (0:Int32), .int (1:Int32), .int (2:Int32), .int (0:Int32), .ref 13, .ref 14, .ref 15, .ref 16, .null, .null, .int (f_nRows ob0), .int (f_nForms ob0), .int (f_last ob0), .int (f_gVal ob0), .int (f_gCount ob0), .int (f_selUseR ob0), .int (f_selRk ob0), .int (f_selUseC ob0), .int (f_selCk ob0)], .inr (.inl (.int, (List.replicate 128 0))), .inr (.inl (.boolean, (List.replicate 32 0))), .inr (.inl (.int, (List.replicate 16 0))), .inr (.inl (.int, (List.replicate 16 0))), .inr (.inl (.int, (List.replicate 16 0))), .inr (.inl (.int, (List.replicate 16 0)))])) rfl ?_
 refine zS Ad W 3 (st' := (78, [vR 10, vI x1, vI x2, none, none], [.ref 17, .ref 10], [.inr (.inl (.int, s)), .inl [.ref 2, .ref 3, .int (f_rf e0), .int (f_cf e0), .int (f_vf e0), .int (f_ag e0), .ref 4, .ref 5, .ref 6, .ref 7, .ref 8, .ref 9, .int (f_nRows e0), .int (f_nForms e0), .int (f_last e0), .int (f_gVal e0), .int (f_gCount e0), .int (f_selUseR e0), .int (f_selRk e0), .int (f_selUseC e0), .int (f_selCk e0)], .inr (.inl (.int, (f_data e0))), .inr (.inl (.boolean, (f_filled e0))), .inr (.inl (.int, (f_fMode e0))), .inr (.inl (.int, (f_fRk e0))), .inr (.inl (.int, (f_fCk e0))), .inr (.inl (.int, (f_prevVal e0))), .inr (.inl (.boolean, (f_prevFound e0))), .inr (.inl (.int, (f_keys e0))), .inl [.ref 11, .ref 12, .int (0:Int32), .int (1:Int32), .int (2:Int32), .int (0:Int32), .ref 13, .ref 14, .ref 15, .ref 16, .null, .null, .int (f_nRows ob0), .int (f_nForms ob0), .int (f_last ob0), .int (f_gVal ob0), .int (f_gCount ob0), .int (f_selUseR ob0), .int (f_selRk ob0), .int (f_selUseC ob0), .int (f_selCk ob0)], .inr (.inl (.int, (List.replicate 128 0))), .inr (.inl (.boolean, (List.replicate 32 0))), .inr (.inl (.int, (List.replicate 16 0))), .inr (.inl (.int, (List.replicate 16 0))), .inr (.inl (.int, (List.replicate 16 0))), .inr (.inl (.int, (List.replicate 16 0))), .inr (.inl (.boolean, (List.replicate 16 0)))])) rfl ?_
 refine zS Ad W 1 (st' := (81, [vR 10, vI x1, vI x2, none, none], [], [.inr (.inl (.int, s)), .inl [.ref 2, .ref 3, .int (f_rf e0), .int (f_cf e0), .int (f_vf e0), .int (f_ag e0), .ref 4, .ref 5, .ref 6, .ref 7, .ref 8, .ref 9, .int (f_nRows e0), .int (f_nForms e0), .int (f_last e0), .int (f_gVal e0), .int (f_gCount e0), .int (f_selUseR e0), .int (f_selRk e0), .int (f_selUseC e0), .int (f_selCk e0)], .inr (.inl (.int, (f_data e0))), .inr (.inl (.boolean, (f_filled e0))), .inr (.inl (.int, (f_fMode e0))), .inr (.inl (.int, (f_fRk e0))), .inr (.inl (.int, (f_fCk e0))), .inr (.inl (.int, (f_prevVal e0))), .inr (.inl (.boolean, (f_prevFound e0))), .inr (.inl (.int, (f_keys e0))), .inl [.ref 11, .ref 12, .int (0:Int32), .int (1:Int32), .int (2:Int32), .int (0:Int32), .ref 13, .ref 14, .ref 15, .ref 16, .ref 17, .null, .int (f_nRows ob0), .int (f_nForms ob0), .int (f_last ob0), .int (f_gVal ob0), .int (f_gCount ob0), .int (f_selUseR ob0), .int (f_selRk ob0), .int (f_selUseC ob0), .int (f_selCk ob0)], .inr (.inl (.int, (List.replicate 128 0))), .inr (.inl (.boolean, (List.replicate 32 0))), .inr (.inl (.int, (List.replicate 16 0))), .inr (.inl (.int, (List.replicate 16 0))), .inr (.inl (.int, (List.replicate 16 0))), .inr (.inl (.int, (List.replicate 16 0))), .inr (.inl (.boolean, (List.replicate 16 0)))])) rfl ?_
 refine zS Ad W 3 (st' := (86, [vR 10, vI x1, vI x2, none, none], [.ref 18, .ref 10], [.inr (.inl (.int, s)), .inl [.ref 2, .ref 3, .int (f_rf e0), .int (f_cf e0), .int (f_vf e0), .int (f_ag e0), .ref 4, .ref 5, .ref 6, .ref 7, .ref 8, .ref 9, .int (f_nRows e0), .int (f_nForms e0), .int (f_last e0), .int (f_gVal e0), .int (f_gCount e0), .int (f_selUseR e0), .int (f_selRk e0), .int (f_selUseC e0), .int (f_selCk e0)], .inr (.inl (.int, (f_data e0))), .inr (.inl (.boolean, (f_filled e0))), .inr (.inl (.int, (f_fMode e0))), .inr (.inl (.int, (f_fRk e0))), .inr (.inl (.int, (f_fCk e0))), .inr (.inl (.int, (f_prevVal e0))), .inr (.inl (.boolean, (f_prevFound e0))), .inr (.inl (.int, (f_keys e0))), .inl [.ref 11, .ref 12, .int (0:Int32), .int (1:Int32), .int (2:Int32), .int (0:Int32), .ref 13, .ref 14, .ref 15, .ref 16, .ref 17, .null, .int (f_nRows ob0), .int (f_nForms ob0), .int (f_last ob0), .int (f_gVal ob0), .int (f_gCount ob0), .int (f_selUseR ob0), .int (f_selRk ob0), .int (f_selUseC ob0), .int (f_selCk ob0)], .inr (.inl (.int, (List.replicate 128 0))), .inr (.inl (.boolean, (List.replicate 32 0))), .inr (.inl (.int, (List.replicate 16 0))), .inr (.inl (.int, (List.replicate 16 0))), .inr (.inl (.int, (List.replicate 16 0))), .inr (.inl (.int, (List.replicate 16 0))), .inr (.inl (.boolean, (List.replicate 16 0))), .inr (.inl (.int, (List.replicate 64 0)))])) rfl ?_
 refine zS Ad W 1 (st' := (89, [vR 10, vI x1, vI x2, none, none], [], (H1x20 s e0 ob0 (List.replicate 128 0) (List.replicate 32 0) (0:Int32) (1:Int32) (2:Int32) (0:Int32) (List.replicate 16 0) (List.replicate 16 0) (List.replicate 16 0) (List.replicate 16 0) (List.replicate 16 0) (List.replicate 64 0)))) rfl ?_
 refine zS Ad W 4 (st' := (93, [vR 10, vI x1, vI x2, vI x1, none], [.int (4:Int32), .int x1], (H1x20 s e0 ob0 (List.replicate 128 0) (List.replicate 32 0) (0:Int32) (1:Int32) (2:Int32) (0:Int32) (List.replicate 16 0) (List.replicate 16 0) (List.replicate 16 0) (List.replicate 16 0) (List.replicate 16 0) (List.replicate 64 0)))) rfl ?_
 have K150 : ∀ z149 : Int32, z149 = (if x1 < (4:Int32) then (4:Int32) else x1) → QTri l Z n0 ad 1 (98, [vR 10, none, vI x2, vI z149, none], [], (H1x20 s e0 ob0 (List.replicate 128 0) (List.replicate 32 0) (0:Int32) (1:Int32) (2:Int32) (0:Int32) (List.replicate 16 0) (List.replicate 16 0) (List.replicate 16 0) (List.replicate 16 0) (List.replicate 16 0) (List.replicate 64 0))) (none : Option Value) (H1 s e0 r) := by
  intro z149 ez149
  subst ez149
  refine zS Ad W 2 (st' := (101, [vR 10, none, vI x2, vI (if x1 < (4:Int32) then (4:Int32) else x1), none], [.int (32:Int32), .int (if x1 < (4:Int32) then (4:Int32) else x1)], (H1x20 s e0 ob0 (List.replicate 128 0) (List.replicate 32 0) (0:Int32) (1:Int32) (2:Int32) (0:Int32) (List.replicate 16 0) (List.replicate 16 0) (List.replicate 16 0) (List.replicate 16 0) (List.replicate 16 0) (List.replicate 64 0)))) rfl ?_
  have K153 : ∀ z152 : Int32, z152 = (if (32:Int32) < (if x1 < (4:Int32) then (4:Int32) else x1) then (32:Int32) else (if x1 < (4:Int32) then (4:Int32) else x1)) → QTri l Z n0 ad 1 (107, [vR 10, none, vI x2, vI z152, none], [], (H1x20 s e0 ob0 (List.replicate 128 0) (List.replicate 32 0) (0:Int32) (1:Int32) (2:Int32) (0:Int32) (List.replicate 16 0) (List.replicate 16 0) (List.replicate 16 0) (List.replicate 16 0) (List.replicate 16 0) (List.replicate 64 0))) (none : Option Value) (H1 s e0 r) := by
   intro z152 ez152
   subst ez152
   refine zS Ad W 4 (st' := (113, [vR 10, none, vI x2, vI (if (32:Int32) < (if x1 < (4:Int32) then (4:Int32) else x1) then (32:Int32) else (if x1 < (4:Int32) then (4:Int32) else x1)), vI x2], [.int (1:Int32), .int x2], (H1x20 s e0 ob0 (List.replicate 128 0) (List.replicate 32 0) (0:Int32) (1:Int32) (2:Int32) (0:Int32) (List.replicate 16 0) (List.replicate 16 0) (List.replicate 16 0) (List.replicate 16 0) (List.replicate 16 0) (List.replicate 64 0)))) rfl ?_
   have K156 : ∀ z155 : Int32, z155 = (if x2 < (1:Int32) then (1:Int32) else x2) → QTri l Z n0 ad 1 (119, [vR 10, none, none, vI (if (32:Int32) < (if x1 < (4:Int32) then (4:Int32) else x1) then (32:Int32) else (if x1 < (4:Int32) then (4:Int32) else x1)), vI z155], [], (H1x20 s e0 ob0 (List.replicate 128 0) (List.replicate 32 0) (0:Int32) (1:Int32) (2:Int32) (0:Int32) (List.replicate 16 0) (List.replicate 16 0) (List.replicate 16 0) (List.replicate 16 0) (List.replicate 16 0) (List.replicate 64 0))) (none : Option Value) (H1 s e0 r) := by
    intro z155 ez155
    subst ez155
    refine zS Ad W 2 (st' := (123, [vR 10, none, none, vI (if (32:Int32) < (if x1 < (4:Int32) then (4:Int32) else x1) then (32:Int32) else (if x1 < (4:Int32) then (4:Int32) else x1)), vI (if x2 < (1:Int32) then (1:Int32) else x2)], [.int (16:Int32), .int (if x2 < (1:Int32) then (1:Int32) else x2)], (H1x20 s e0 ob0 (List.replicate 128 0) (List.replicate 32 0) (0:Int32) (1:Int32) (2:Int32) (0:Int32) (List.replicate 16 0) (List.replicate 16 0) (List.replicate 16 0) (List.replicate 16 0) (List.replicate 16 0) (List.replicate 64 0)))) rfl ?_
    have K159 : ∀ z158 : Int32, z158 = (if (16:Int32) < (if x2 < (1:Int32) then (1:Int32) else x2) then (16:Int32) else (if x2 < (1:Int32) then (1:Int32) else x2)) → QTri l Z n0 ad 1 (130, [vR 10, none, none, vI (if (32:Int32) < (if x1 < (4:Int32) then (4:Int32) else x1) then (32:Int32) else (if x1 < (4:Int32) then (4:Int32) else x1)), vI z158], [], (H1x20 s e0 ob0 (List.replicate 128 0) (List.replicate 32 0) (0:Int32) (1:Int32) (2:Int32) (0:Int32) (List.replicate 16 0) (List.replicate 16 0) (List.replicate 16 0) (List.replicate 16 0) (List.replicate 16 0) (List.replicate 64 0))) (none : Option Value) (H1 s e0 r) := by
     intro z158 ez158
     subst ez158
     refine zS Ad W 3 (st' := (135, [vR 10, none, none, vI (if (32:Int32) < (if x1 < (4:Int32) then (4:Int32) else x1) then (32:Int32) else (if x1 < (4:Int32) then (4:Int32) else x1)), vI (if (16:Int32) < (if x2 < (1:Int32) then (1:Int32) else x2) then (16:Int32) else (if x2 < (1:Int32) then (1:Int32) else x2))], [], (H1x21 s e0 ob0 (List.replicate 128 0) (List.replicate 32 0) (0:Int32) (1:Int32) (2:Int32) (0:Int32) (List.replicate 16 0) (List.replicate 16 0) (List.replicate 16 0) (List.replicate 16 0) (List.replicate 16 0) (List.replicate 64 0) (if (32:Int32) < (if x1 < (4:Int32) then (4:Int32) else x1) then (32:Int32) else (if x1 < (4:Int32) then (4:Int32) else x1))))) rfl ?_
     refine zS Ad W 3 (st' := (141, [vR 10, none, none, vI (if (32:Int32) < (if x1 < (4:Int32) then (4:Int32) else x1) then (32:Int32) else (if x1 < (4:Int32) then (4:Int32) else x1)), vI (if (16:Int32) < (if x2 < (1:Int32) then (1:Int32) else x2) then (16:Int32) else (if x2 < (1:Int32) then (1:Int32) else x2))], [], (H1x22 s e0 ob0 (List.replicate 128 0) (List.replicate 32 0) (0:Int32) (1:Int32) (2:Int32) (0:Int32) (List.replicate 16 0) (List.replicate 16 0) (List.replicate 16 0) (List.replicate 16 0) (List.replicate 16 0) (List.replicate 64 0) (if (32:Int32) < (if x1 < (4:Int32) then (4:Int32) else x1) then (32:Int32) else (if x1 < (4:Int32) then (4:Int32) else x1)) (if (16:Int32) < (if x2 < (1:Int32) then (1:Int32) else x2) then (16:Int32) else (if x2 < (1:Int32) then (1:Int32) else x2))))) rfl ?_
     refine zS Ad W 3 (st' := (146, [vR 10, none, none, vI (if (32:Int32) < (if x1 < (4:Int32) then (4:Int32) else x1) then (32:Int32) else (if x1 < (4:Int32) then (4:Int32) else x1)), vI (if (16:Int32) < (if x2 < (1:Int32) then (1:Int32) else x2) then (16:Int32) else (if x2 < (1:Int32) then (1:Int32) else x2))], [], (H1x23 s e0 ob0 (List.replicate 128 0) (List.replicate 32 0) (0:Int32) (1:Int32) (2:Int32) (0:Int32) (List.replicate 16 0) (List.replicate 16 0) (List.replicate 16 0) (List.replicate 16 0) (List.replicate 16 0) (List.replicate 64 0) (if (32:Int32) < (if x1 < (4:Int32) then (4:Int32) else x1) then (32:Int32) else (if x1 < (4:Int32) then (4:Int32) else x1)) (if (16:Int32) < (if x2 < (1:Int32) then (1:Int32) else x2) then (16:Int32) else (if x2 < (1:Int32) then (1:Int32) else x2)) (0:Int32)))) rfl ?_
     have E161 : ((H1x23 s e0 ob0 (List.replicate 128 0) (List.replicate 32 0) (0:Int32) (1:Int32) (2:Int32) (0:Int32) (List.replicate 16 0) (List.replicate 16 0) (List.replicate 16 0) (List.replicate 16 0) (List.replicate 16 0) (List.replicate 64 0) (if (32:Int32) < (if x1 < (4:Int32) then (4:Int32) else x1) then (32:Int32) else (if x1 < (4:Int32) then (4:Int32) else x1)) (if (16:Int32) < (if x2 < (1:Int32) then (1:Int32) else x2) then (16:Int32) else (if x2 < (1:Int32) then (1:Int32) else x2)) (0:Int32)) : QHeap) = (H1 s e0 (s_last (s_nForms (s_nRows (s_keys (s_prevFound (s_prevVal (s_fCk (s_fRk (s_fMode (s_ag (s_vf (s_cf (s_rf (s_filled (s_data ob0 (List.replicate 128 0)) (List.replicate 32 0)) (0:Int32)) (1:Int32)) (2:Int32)) (0:Int32)) (List.replicate 16 0)) (List.replicate 16 0)) (List.replicate 16 0)) (List.replicate 16 0)) (List.replicate 16 0)) (List.replicate 64 0)) (if (32:Int32) < (if x1 < (4:Int32) then (4:Int32) else x1) then (32:Int32) else (if x1 < (4:Int32) then (4:Int32) else x1))) (if (16:Int32) < (if x2 < (1:Int32) then (1:Int32) else x2) then (16:Int32) else (if x2 < (1:Int32) then (1:Int32) else x2))) (0:Int32))) := by simp only [fs, H1, H1v, H1x23, s_data, s_filled, s_rf, s_cf, s_vf, s_ag, s_fMode, s_fRk, s_fCk, s_prevVal, s_prevFound, s_keys, s_nRows, s_nForms, s_last, ob0]
     rw [E161]
     obtain rfl := Option.some.inj h
     exact QTri.ret0 rfl rfl
    rcases em ((16:Int32) < (if x2 < (1:Int32) then (1:Int32) else x2)) with hc160 | hc160
    ·refine zF Ad W (t := 130) (f := 126) rfl (XT.ii_le_f hc160) ?_
     refine zS Ad W 2 (st' := (130, [vR 10, none, none, vI (if (32:Int32) < (if x1 < (4:Int32) then (4:Int32) else x1) then (32:Int32) else (if x1 < (4:Int32) then (4:Int32) else x1)), vI (16:Int32)], [], (H1x20 s e0 ob0 (List.replicate 128 0) (List.replicate 32 0) (0:Int32) (1:Int32) (2:Int32) (0:Int32) (List.replicate 16 0) (List.replicate 16 0) (List.replicate 16 0) (List.replicate 16 0) (List.replicate 16 0) (List.replicate 64 0)))) rfl ?_
     exact zM [tt,ff,ff,tt,tt] (K159 _ (if_pos hc160).symm)
    ·refine zT Ad W (t := 130) (f := 126) rfl (XT.ii_le_t hc160) ?_
     exact zM [tt,ff,ff,tt,tt] (K159 _ (if_neg hc160).symm)
   rcases em (x2 < (1:Int32)) with hc157 | hc157
   ·refine zF Ad W (t := 119) (f := 116) rfl (XT.ii_ge_f hc157) ?_
    refine zS Ad W 2 (st' := (119, [vR 10, none, vI x2, vI (if (32:Int32) < (if x1 < (4:Int32) then (4:Int32) else x1) then (32:Int32) else (if x1 < (4:Int32) then (4:Int32) else x1)), vI (1:Int32)], [], (H1x20 s e0 ob0 (List.replicate 128 0) (List.replicate 32 0) (0:Int32) (1:Int32) (2:Int32) (0:Int32) (List.replicate 16 0) (List.replicate 16 0) (List.replicate 16 0) (List.replicate 16 0) (List.replicate 16 0) (List.replicate 64 0)))) rfl ?_
    exact zM [tt,ff,ff,tt,tt] (K156 _ (if_pos hc157).symm)
   ·refine zT Ad W (t := 119) (f := 116) rfl (XT.ii_ge_t hc157) ?_
    exact zM [tt,ff,ff,tt,tt] (K156 _ (if_neg hc157).symm)
  rcases em ((32:Int32) < (if x1 < (4:Int32) then (4:Int32) else x1)) with hc154 | hc154
  ·refine zF Ad W (t := 107) (f := 104) rfl (XT.ii_le_f hc154) ?_
   refine zS Ad W 2 (st' := (107, [vR 10, none, vI x2, vI (32:Int32), none], [], (H1x20 s e0 ob0 (List.replicate 128 0) (List.replicate 32 0) (0:Int32) (1:Int32) (2:Int32) (0:Int32) (List.replicate 16 0) (List.replicate 16 0) (List.replicate 16 0) (List.replicate 16 0) (List.replicate 16 0) (List.replicate 64 0)))) rfl ?_
   exact zM [tt,ff,tt,tt,ff] (K153 _ (if_pos hc154).symm)
  ·refine zT Ad W (t := 107) (f := 104) rfl (XT.ii_le_t hc154) ?_
   exact zM [tt,ff,tt,tt,ff] (K153 _ (if_neg hc154).symm)
 rcases em (x1 < (4:Int32)) with hc151 | hc151
 ·refine zF Ad W (t := 98) (f := 96) rfl (XT.ii_ge_f hc151) ?_
  refine zS Ad W 2 (st' := (98, [vR 10, vI x1, vI x2, vI (4:Int32), none], [], (H1x20 s e0 ob0 (List.replicate 128 0) (List.replicate 32 0) (0:Int32) (1:Int32) (2:Int32) (0:Int32) (List.replicate 16 0) (List.replicate 16 0) (List.replicate 16 0) (List.replicate 16 0) (List.replicate 16 0) (List.replicate 64 0)))) rfl ?_
  exact zM [tt,ff,tt,tt,ff] (K150 _ (if_pos hc151).symm)
 ·refine zT Ad W (t := 98) (f := 96) rfl (XT.ii_ge_t hc151) ?_
  exact zM [tt,ff,tt,tt,ff] (K150 _ (if_neg hc151).symm)
theorem tF5a1 (Ad : QAd n0 ad) (W : QW Z a0) (s : List Int32) (e0 : Ob) (o : Ob) (x1 : Int32) {r : Int32} (h : F5 o x1 = some r) : QTri l Z n0 ad 5 (0, qentry [.ref 1, .int x1] (pMaxL 5), [], (H1 s o e0)) (some (Value.int r)) (H1 s o e0) := by
 unfold F5 at h
 refine zS Ad W 1 (st' := (1, [vR 1, vI x1], [.int x1], (H1 s o e0))) rfl ?_
 rcases qite h with ⟨hc164, h⟩ | ⟨hc164, h⟩
 ·refine zT Ad W (t := 16) (f := 4) rfl (XT.i0_lt_t hc164) ?_
  refine zS Ad W 1 (st' := (17, [vR 1, vI x1], [.int (0:Int32)], (H1 s o e0))) rfl ?_
  obtain rfl := Option.some.inj h
  exact QTri.retZ rfl rfl
 ·refine zF Ad W (t := 16) (f := 4) rfl (XT.i0_lt_f hc164) ?_
  refine zS Ad W 3 (st' := (9, [vR 1, vI x1], [.int (f_nRows o), .int x1], (H1 s o e0))) rfl ?_
  rcases qite h with ⟨hc165, h⟩ | ⟨hc165, h⟩
  ·refine zF Ad W (t := 16) (f := 12) rfl (XT.ii_ge_f hc165) ?_
   refine zS Ad W 2 (st' := (17, [vR 1, vI x1], [.int (1:Int32)], (H1 s o e0))) rfl ?_
   obtain rfl := Option.some.inj h
   exact QTri.retZ rfl rfl
  ·refine zT Ad W (t := 16) (f := 12) rfl (XT.ii_ge_t hc165) ?_
   refine zS Ad W 1 (st' := (17, [vR 1, vI x1], [.int (0:Int32)], (H1 s o e0))) rfl ?_
   obtain rfl := Option.some.inj h
   exact QTri.retZ rfl rfl
/-- isFilled(I)Z -/
def F14 (o : Ob) (x1 : Int32) : Option (Int32) :=
 (F5 o x1).bind fun r166 => (if r166 = (0:Int32) then some (0:Int32) else (aget (f_filled o) x1).bind fun y168 => some (y168 &&& 1))
theorem tF14 (Ad : QAd n0 ad) (W : QW Z a0) (s : List Int32) (e0 : Ob) (o : Ob) (x1 : Int32) {r : Int32} (h : F14 o x1 = some r) : QTri l Z n0 ad 14 (0, qentry [.ref 1, .int x1] (pMaxL 14), [], (H1 s o e0)) (some (Value.int r)) (H1 s o e0) := by
 unfold F14 at h
 refine zS Ad W 2 (st' := (2, [vR 1, vI x1], [.int x1, .ref 1], (H1 s o e0))) rfl ?_
 obtain ⟨r166, hr166, h⟩ := bind_eq_some_iff.mp h
 refine QTri.callP W (a := 1) (as := [.int x1]) (rest := []) (w := (some (.int r166))) (σ₁ := (H1 s o e0)) rfl rfl rfl rfl rfl rfl rfl rfl (tF5a1 Ad W s e0 o x1 hr166) ?_
 rcases qite h with ⟨hc167, h⟩ | ⟨hc167, h⟩
 ·refine zF Ad W (t := 10) (f := 8) rfl (XT.i0_ne_f hc167) ?_
  refine zS Ad W 1 (st' := (9, [vR 1, vI x1], [.int (0:Int32)], (H1 s o e0))) rfl ?_
  obtain rfl := Option.some.inj h
  exact QTri.retZ rfl rfl
 ·refine zT Ad W (t := 10) (f := 8) rfl (XT.i0_ne_t hc167) ?_
  refine zS Ad W 3 (st' := (15, [vR 1, vI x1], [.int x1, .ref 3], (H1 s o e0))) rfl ?_
  obtain ⟨y168, hy168, h⟩ := bind_eq_some_iff.mp h
  refine zB Ad W (f := fun y168 => (16, [vR 1, vI x1], [.int y168], (H1 s o e0))) rfl hy168 ?_
  obtain rfl := Option.some.inj h
  exact QTri.retZ rfl rfl
def J0_237 (s : List Int32) (p0 : Ob) (p1 : Ob) (x2 : Int32) (x3 : Int32) (x4 : Int32) (x5 : Int32) (x7 : Int32) : Option (((Ob × Ob)) ⊕ (Int32 × Ob × Ob)) :=
  some (.inr ((x7 + (1 : Int32)), p0, p1))
theorem tJ0_237 (Ad : QAd n0 ad) (W : QW Z a0) (s : List Int32) (p0 : Ob) (p1 : Ob) (x2 : Int32) (x3 : Int32) (x4 : Int32) (x5 : Int32) (x7 : Int32) {r : ((Ob × Ob)) ⊕ (Int32 × Ob × Ob)} {u : Option Value} {τ : QHeap} (h : J0_237 s p0 p1 x2 x3 x4 x5 x7 = some r) (hx0 : ∀ x : Ob × Ob, r = .inl x → QTri l Z n0 ad 0 (243, [none, vR 1, vI x2, vI x3, vI x4, vI x5, vR 10, none, none, none, none, none, none, none, none, none, none, none, none, none, none], [], (H1 s x.1 x.2)) u τ) (hc : ∀ x : Int32 × Ob × Ob, r = .inr x → QTri l Z n0 ad 0 (180, [none, vR 1, vI x2, vI x3, vI x4, vI x5, vR 10, vI x.1, none, none, none, none, none, none, none, none, none, none, none, none, none], [], (H1 s x.2.1 x.2.2)) u τ) : QTri l Z n0 ad 0 (237, [none, vR 1, vI x2, vI x3, vI x4, vI x5, vR 10, vI x7, none, none, none, none, none, none, none, none, none, none, none, none, none], [], (H1 s p0 p1)) u τ := by
 unfold J0_237 at h
 refine zS Ad W 2 (st' := (180, [none, vR 1, vI x2, vI x3, vI x4, vI x5, vR 10, vI (x7 + (1:Int32)), none, none, none, none, none, none, none, none, none, none, none, none, none], [], (H1 s p0 p1))) rfl ?_
 obtain rfl := Option.some.inj h
 exact zM [ff,tt,tt,tt,tt,tt,tt,tt,ff,ff,ff,ff,ff,ff,ff,ff,ff,ff,ff,ff,ff] (hc ((x7 + (1:Int32)), p0, p1) rfl)
/-- getCell(II)I -/
def F15 (o : Ob) (x1 : Int32) (x2 : Int32) : Option (Int32) :=
 (F5 o x1).bind fun r172 => (if r172 = (0:Int32) then some (0:Int32) else (if x2 < (0:Int32) then some (0:Int32) else (if x2 < (4:Int32) then (aget (f_data o) ((x1 * (4:Int32)) + x2)).bind fun y176 => some y176 else some (0:Int32))))
theorem tF15 (Ad : QAd n0 ad) (W : QW Z a0) (s : List Int32) (e0 : Ob) (o : Ob) (x1 : Int32) (x2 : Int32) {r : Int32} (h : F15 o x1 x2 = some r) : QTri l Z n0 ad 15 (0, qentry [.ref 1, .int x1, .int x2] (pMaxL 15), [], (H1 s o e0)) (some (Value.int r)) (H1 s o e0) := by
 unfold F15 at h
 refine zS Ad W 2 (st' := (2, [vR 1, vI x1, vI x2], [.int x1, .ref 1], (H1 s o e0))) rfl ?_
 obtain ⟨r172, hr172, h⟩ := bind_eq_some_iff.mp h
 refine QTri.callP W (a := 1) (as := [.int x1]) (rest := []) (w := (some (.int r172))) (σ₁ := (H1 s o e0)) rfl rfl rfl rfl rfl rfl rfl rfl (tF5a1 Ad W s e0 o x1 hr172) ?_
 rcases qite h with ⟨hc173, h⟩ | ⟨hc173, h⟩
 ·refine zT Ad W (t := 17) (f := 8) rfl (XT.i0_eq_t hc173) ?_
  refine zS Ad W 1 (st' := (18, [vR 1, vI x1, vI x2], [.int (0:Int32)], (H1 s o e0))) rfl ?_
  obtain rfl := Option.some.inj h
  exact QTri.retI rfl rfl
 ·refine zF Ad W (t := 17) (f := 8) rfl (XT.i0_eq_f hc173) ?_
  refine zS Ad W 1 (st' := (9, [vR 1, vI x1, vI x2], [.int x2], (H1 s o e0))) rfl ?_
  rcases qite h with ⟨hc174, h⟩ | ⟨hc174, h⟩
  ·refine zT Ad W (t := 17) (f := 12) rfl (XT.i0_lt_t hc174) ?_
   refine zS Ad W 1 (st' := (18, [vR 1, vI x1, vI x2], [.int (0:Int32)], (H1 s o e0))) rfl ?_
   obtain rfl := Option.some.inj h
   exact QTri.retI rfl rfl
  ·refine zF Ad W (t := 17) (f := 12) rfl (XT.i0_lt_f hc174) ?_
   refine zS Ad W 2 (st' := (14, [vR 1, vI x1, vI x2], [.int (4:Int32), .int x2], (H1 s o e0))) rfl ?_
   rcases qite h with ⟨hc175, h⟩ | ⟨hc175, h⟩
   ·refine zT Ad W (t := 19) (f := 17) rfl (XT.ii_lt_t hc175) ?_
    refine zS Ad W 7 (st' := (28, [vR 1, vI x1, vI x2], [.int ((x1 * (4:Int32)) + x2), .ref 2], (H1 s o e0))) rfl ?_
    obtain ⟨y176, hy176, h⟩ := bind_eq_some_iff.mp h
    refine zB Ad W (f := fun y176 => (29, [vR 1, vI x1, vI x2], [.int y176], (H1 s o e0))) rfl hy176 ?_
    obtain rfl := Option.some.inj h
    exact QTri.retI rfl rfl
   ·refine zF Ad W (t := 19) (f := 17) rfl (XT.ii_lt_f hc175) ?_
    refine zS Ad W 1 (st' := (18, [vR 1, vI x1, vI x2], [.int (0:Int32)], (H1 s o e0))) rfl ?_
    obtain rfl := Option.some.inj h
    exact QTri.retI rfl rfl
theorem tF5a2 (Ad : QAd n0 ad) (W : QW Z a0) (s : List Int32) (e0 : Ob) (o : Ob) (x1 : Int32) {r : Int32} (h : F5 o x1 = some r) : QTri l Z n0 ad 5 (0, qentry [.ref 10, .int x1] (pMaxL 5), [], (H1 s e0 o)) (some (Value.int r)) (H1 s e0 o) := by
 unfold F5 at h
 refine zS Ad W 1 (st' := (1, [vR 10, vI x1], [.int x1], (H1 s e0 o))) rfl ?_
 rcases qite h with ⟨hc178, h⟩ | ⟨hc178, h⟩
 ·refine zT Ad W (t := 16) (f := 4) rfl (XT.i0_lt_t hc178) ?_
  refine zS Ad W 1 (st' := (17, [vR 10, vI x1], [.int (0:Int32)], (H1 s e0 o))) rfl ?_
  obtain rfl := Option.some.inj h
  exact QTri.retZ rfl rfl
 ·refine zF Ad W (t := 16) (f := 4) rfl (XT.i0_lt_f hc178) ?_
  refine zS Ad W 3 (st' := (9, [vR 10, vI x1], [.int (f_nRows o), .int x1], (H1 s e0 o))) rfl ?_
  rcases qite h with ⟨hc179, h⟩ | ⟨hc179, h⟩
  ·refine zF Ad W (t := 16) (f := 12) rfl (XT.ii_ge_f hc179) ?_
   refine zS Ad W 2 (st' := (17, [vR 10, vI x1], [.int (1:Int32)], (H1 s e0 o))) rfl ?_
   obtain rfl := Option.some.inj h
   exact QTri.retZ rfl rfl
  ·refine zT Ad W (t := 16) (f := 12) rfl (XT.ii_ge_t hc179) ?_
   refine zS Ad W 1 (st' := (17, [vR 10, vI x1], [.int (0:Int32)], (H1 s e0 o))) rfl ?_
   obtain rfl := Option.some.inj h
   exact QTri.retZ rfl rfl
def H1x24 (s : List Int32) (o0 o1 : Ob) (a1_15 : Int32) : QHeap := H1v s (f_data o0) (f_filled o0) (f_rf o0) (f_cf o0) (f_vf o0) (f_ag o0) (f_fMode o0) (f_fRk o0) (f_fCk o0) (f_prevVal o0) (f_prevFound o0) (f_keys o0) (f_nRows o0) (f_nForms o0) (f_last o0) (f_gVal o0) (f_gCount o0) (f_selUseR o0) (f_selRk o0) (f_selUseC o0) (f_selCk o0) (f_data o1) (f_filled o1) (f_rf o1) (f_cf o1) (f_vf o1) (f_ag o1) (f_fMode o1) (f_fRk o1) (f_fCk o1) (f_prevVal o1) (f_prevFound o1) (f_keys o1) (f_nRows o1) (f_nForms o1) (f_last o1) a1_15 (f_gCount o1) (f_selUseR o1) (f_selRk o1) (f_selUseC o1) (f_selCk o1)
def H1x25 (s : List Int32) (o0 o1 : Ob) (a1_15 : Int32) (a1_16 : Int32) : QHeap := H1v s (f_data o0) (f_filled o0) (f_rf o0) (f_cf o0) (f_vf o0) (f_ag o0) (f_fMode o0) (f_fRk o0) (f_fCk o0) (f_prevVal o0) (f_prevFound o0) (f_keys o0) (f_nRows o0) (f_nForms o0) (f_last o0) (f_gVal o0) (f_gCount o0) (f_selUseR o0) (f_selRk o0) (f_selUseC o0) (f_selCk o0) (f_data o1) (f_filled o1) (f_rf o1) (f_cf o1) (f_vf o1) (f_ag o1) (f_fMode o1) (f_fRk o1) (f_fCk o1) (f_prevVal o1) (f_prevFound o1) (f_keys o1) (f_nRows o1) (f_nForms o1) (f_last o1) a1_15 a1_16 (f_selUseR o1) (f_selRk o1) (f_selUseC o1) (f_selCk o1)
theorem tJ8_152a1 (Ad : QAd n0 ad) (W : QW Z a0) (s : List Int32) (e0 : Ob) (o : Ob) (x1 : Int32) (x2 : Int32) (x3 : Int32) (x4 : Int32) (x5 : Int32) (x6 : Int32) (x7 : Int32) (x8 : Int32) (x9 : Int32) {r : ((Int32 × Int32 × Int32 × Int32)) ⊕ (Int32 × Int32 × Int32 × Int32 × Int32)} {u : Option Value} {τ : QHeap} (h : J8_152 o x1 x2 x3 x4 x5 x6 x7 x8 x9 = some r) (hx0 : ∀ x : Int32 × Int32 × Int32 × Int32, r = .inl x → QTri l Z n0 ad 8 (158, [vR 10, none, none, none, none, vI x.1, vI x.2.1, vI x.2.2.1, vI x.2.2.2, none, none, none], [], (H1 s e0 o)) u τ) (hc : ∀ x : Int32 × Int32 × Int32 × Int32 × Int32, r = .inr x → QTri l Z n0 ad 8 (15, [vR 10, vI x1, vI x2, vI x3, vI x4, vI x.1, vI x.2.1, vI x.2.2.1, vI x.2.2.2.1, vI x.2.2.2.2, none, none], [], (H1 s e0 o)) u τ) : QTri l Z n0 ad 8 (152, [vR 10, vI x1, vI x2, vI x3, vI x4, vI x5, vI x6, vI x7, vI x8, vI x9, none, none], [], (H1 s e0 o)) u τ := by
 unfold J8_152 at h
 refine zS Ad W 2 (st' := (15, [vR 10, vI x1, vI x2, vI x3, vI x4, vI x5, vI x6, vI x7, vI x8, vI (x9 + (1:Int32)), none, none], [], (H1 s e0 o))) rfl ?_
 obtain rfl := Option.some.inj h
 exact zM [tt,tt,tt,tt,tt,tt,tt,tt,tt,tt,ff,ff] (hc (x5, x6, x7, x8, (x9 + (1:Int32))) rfl)
theorem tJ8_90a1 (Ad : QAd n0 ad) (W : QW Z a0) (s : List Int32) (e0 : Ob) (o : Ob) (x1 : Int32) (x2 : Int32) (x3 : Int32) (x4 : Int32) (x5 : Int32) (x6 : Int32) (x7 : Int32) (x8 : Int32) (x9 : Int32) (x10 : Int32) {r : ((Int32 × Int32 × Int32 × Int32)) ⊕ (Int32 × Int32 × Int32 × Int32 × Int32)} {u : Option Value} {τ : QHeap} (h : J8_90 o x1 x2 x3 x4 x5 x6 x7 x8 x9 x10 = some r) (hx0 : ∀ x : Int32 × Int32 × Int32 × Int32, r = .inl x → QTri l Z n0 ad 8 (158, [vR 10, none, none, none, none, vI x.1, vI x.2.1, vI x.2.2.1, vI x.2.2.2, none, none, none], [], (H1 s e0 o)) u τ) (hc : ∀ x : Int32 × Int32 × Int32 × Int32 × Int32, r = .inr x → QTri l Z n0 ad 8 (15, [vR 10, vI x1, vI x2, vI x3, vI x4, vI x.1, vI x.2.1, vI x.2.2.1, vI x.2.2.2.1, vI x.2.2.2.2, none, none], [], (H1 s e0 o)) u τ) : QTri l Z n0 ad 8 (90, [vR 10, vI x1, vI x2, vI x3, vI x4, vI x5, vI x6, vI x7, vI x8, vI x9, vI x10, none], [], (H1 s e0 o)) u τ := by
 unfold J8_90 at h
 refine zS Ad W 6 (st' := (101, [vR 10, vI x1, vI x2, vI x3, vI x4, vI x5, vI x6, vI x7, vI x8, vI x9, vI x10, none], [.int (x10 + (f_vf o)), .ref 11], (H1 s e0 o))) rfl ?_
 obtain ⟨y203, hy203, h⟩ := bind_eq_some_iff.mp h
 refine zB Ad W (f := fun y203 => (102, [vR 10, vI x1, vI x2, vI x3, vI x4, vI x5, vI x6, vI x7, vI x8, vI x9, vI x10, none], [.int y203], (H1 s e0 o))) rfl hy203 ?_
 refine zS Ad W 2 (st' := (106, [vR 10, vI x1, vI x2, vI x3, vI x4, vI x5, vI x6, vI x7, vI x8, vI x9, vI x10, vI y203], [.int x6], (H1 s e0 o))) rfl ?_
 have K206 : ∀ z204 : Int32, z204 = (if x6 = (0:Int32) then y203 else (if y203 < x7 then y203 else x7)) → ∀ z205 : Int32, z205 = (if x6 = (0:Int32) then y203 else (if x8 < y203 then y203 else x8)) → QTri l Z n0 ad 8 (142, [vR 10, vI x1, vI x2, vI x3, vI x4, vI x5, vI x6, vI z204, vI z205, vI x9, none, vI y203], [], (H1 s e0 o)) u τ := by
  intro z204 ez204
  intro z205 ez205
  subst ez204
  subst ez205
  refine zS Ad W 5 (st' := (152, [vR 10, vI x1, vI x2, vI x3, vI x4, vI (x5 + y203), vI (x6 + (1:Int32)), vI (if x6 = (0:Int32) then y203 else (if y203 < x7 then y203 else x7)), vI (if x6 = (0:Int32) then y203 else (if x8 < y203 then y203 else x8)), vI x9, none, vI y203], [], (H1 s e0 o))) rfl ?_
  exact zM [tt,tt,tt,tt,tt,tt,tt,tt,tt,tt,ff,ff] (tJ8_152a1 Ad W s e0 o x1 x2 x3 x4 (x5 + y203) (x6 + (1:Int32)) (if x6 = (0:Int32) then y203 else (if y203 < x7 then y203 else x7)) (if x6 = (0:Int32) then y203 else (if x8 < y203 then y203 else x8)) x9 h hx0 hc)
 rcases em (x6 = (0:Int32)) with hc207 | hc207
 ·refine zF Ad W (t := 120) (f := 109) rfl (XT.i0_ne_f hc207) ?_
  refine zS Ad W 4 (st' := (117, [vR 10, vI x1, vI x2, vI x3, vI x4, vI x5, vI x6, vI y203, vI y203, vI x9, vI x10, vI y203], [], (H1 s e0 o))) rfl ?_
  refine zS Ad W 1 (st' := (142, [vR 10, vI x1, vI x2, vI x3, vI x4, vI x5, vI x6, vI y203, vI y203, vI x9, vI x10, vI y203], [], (H1 s e0 o))) rfl ?_
  exact zM [tt,tt,tt,tt,tt,tt,tt,tt,tt,tt,ff,tt] (K206 _ (if_pos hc207).symm _ (if_pos hc207).symm)
 ·refine zT Ad W (t := 120) (f := 109) rfl (XT.i0_ne_t hc207) ?_
  refine zS Ad W 2 (st' := (124, [vR 10, vI x1, vI x2, vI x3, vI x4, vI x5, vI x6, vI x7, vI x8, vI x9, vI x10, vI y203], [.int x7, .int y203], (H1 s e0 o))) rfl ?_
  rcases em (y203 < x7) with hc208 | hc208
  ·refine zF Ad W (t := 131) (f := 127) rfl (XT.ii_ge_f hc208) ?_
   refine zS Ad W 4 (st' := (135, [vR 10, vI x1, vI x2, vI x3, vI x4, vI x5, vI x6, vI y203, vI x8, vI x9, vI x10, vI y203], [.int x8, .int y203], (H1 s e0 o))) rfl ?_
   rcases em (x8 < y203) with hc209 | hc209
   ·refine zF Ad W (t := 142) (f := 138) rfl (XT.ii_le_f hc209) ?_
    refine zS Ad W 2 (st' := (142, [vR 10, vI x1, vI x2, vI x3, vI x4, vI x5, vI x6, vI y203, vI y203, vI x9, vI x10, vI y203], [], (H1 s e0 o))) rfl ?_
    exact zM [tt,tt,tt,tt,tt,tt,tt,tt,tt,tt,ff,tt] (K206 _ ((if_neg hc207).trans (if_pos hc208)).symm _ ((if_neg hc207).trans (if_pos hc209)).symm)
   ·refine zT Ad W (t := 142) (f := 138) rfl (XT.ii_le_t hc209) ?_
    exact zM [tt,tt,tt,tt,tt,tt,tt,tt,tt,tt,ff,tt] (K206 _ ((if_neg hc207).trans (if_pos hc208)).symm _ ((if_neg hc207).trans (if_neg hc209)).symm)
  ·refine zT Ad W (t := 131) (f := 127) rfl (XT.ii_ge_t hc208) ?_
   refine zS Ad W 2 (st' := (135, [vR 10, vI x1, vI x2, vI x3, vI x4, vI x5, vI x6, vI x7, vI x8, vI x9, vI x10, vI y203], [.int x8, .int y203], (H1 s e0 o))) rfl ?_
   rcases em (x8 < y203) with hc210 | hc210
   ·refine zF Ad W (t := 142) (f := 138) rfl (XT.ii_le_f hc210) ?_
    refine zS Ad W 2 (st' := (142, [vR 10, vI x1, vI x2, vI x3, vI x4, vI x5, vI x6, vI x7, vI y203, vI x9, vI x10, vI y203], [], (H1 s e0 o))) rfl ?_
    exact zM [tt,tt,tt,tt,tt,tt,tt,tt,tt,tt,ff,tt] (K206 _ ((if_neg hc207).trans (if_neg hc208)).symm _ ((if_neg hc207).trans (if_pos hc210)).symm)
   ·refine zT Ad W (t := 142) (f := 138) rfl (XT.ii_le_t hc210) ?_
    exact zM [tt,tt,tt,tt,tt,tt,tt,tt,tt,tt,ff,tt] (K206 _ ((if_neg hc207).trans (if_neg hc208)).symm _ ((if_neg hc207).trans (if_neg hc210)).symm)
theorem tJ8_66a1 (Ad : QAd n0 ad) (W : QW Z a0) (s : List Int32) (e0 : Ob) (o : Ob) (x1 : Int32) (x2 : Int32) (x3 : Int32) (x4 : Int32) (x5 : Int32) (x6 : Int32) (x7 : Int32) (x8 : Int32) (x9 : Int32) (x10 : Int32) {r : ((Int32 × Int32 × Int32 × Int32)) ⊕ (Int32 × Int32 × Int32 × Int32 × Int32)} {u : Option Value} {τ : QHeap} (h : J8_66 o x1 x2 x3 x4 x5 x6 x7 x8 x9 x10 = some r) (hx0 : ∀ x : Int32 × Int32 × Int32 × Int32, r = .inl x → QTri l Z n0 ad 8 (158, [vR 10, none, none, none, none, vI x.1, vI x.2.1, vI x.2.2.1, vI x.2.2.2, none, none, none], [], (H1 s e0 o)) u τ) (hc : ∀ x : Int32 × Int32 × Int32 × Int32 × Int32, r = .inr x → QTri l Z n0 ad 8 (15, [vR 10, vI x1, vI x2, vI x3, vI x4, vI x.1, vI x.2.1, vI x.2.2.1, vI x.2.2.2.1, vI x.2.2.2.2, none, none], [], (H1 s e0 o)) u τ) : QTri l Z n0 ad 8 (66, [vR 10, vI x1, vI x2, vI x3, vI x4, vI x5, vI x6, vI x7, vI x8, vI x9, vI x10, none], [], (H1 s e0 o)) u τ := by
 unfold J8_66 at h
 refine zS Ad W 1 (st' := (67, [vR 10, vI x1, vI x2, vI x3, vI x4, vI x5, vI x6, vI x7, vI x8, vI x9, vI x10, none], [.int x3], (H1 s e0 o))) rfl ?_
 rcases qite h with ⟨hc202, h⟩ | ⟨hc202, h⟩
 ·refine zT Ad W (t := 90) (f := 70) rfl (XT.i0_eq_t hc202) ?_
  exact zM [tt,tt,tt,tt,tt,tt,tt,tt,tt,tt,tt,ff] (tJ8_90a1 Ad W s e0 o x1 x2 x3 x4 x5 x6 x7 x8 x9 x10 h hx0 hc)
 ·refine zF Ad W (t := 90) (f := 70) rfl (XT.i0_eq_f hc202) ?_
  refine zS Ad W 6 (st' := (81, [vR 10, vI x1, vI x2, vI x3, vI x4, vI x5, vI x6, vI x7, vI x8, vI x9, vI x10, none], [.int (x10 + (f_cf o)), .ref 11], (H1 s e0 o))) rfl ?_
  obtain ⟨y211, hy211, h⟩ := bind_eq_some_iff.mp h
  refine zB Ad W (f := fun y211 => (82, [vR 10, vI x1, vI x2, vI x3, vI x4, vI x5, vI x6, vI x7, vI x8, vI x9, vI x10, none], [.int y211], (H1 s e0 o))) rfl hy211 ?_
  refine zS Ad W 1 (st' := (84, [vR 10, vI x1, vI x2, vI x3, vI x4, vI x5, vI x6, vI x7, vI x8, vI x9, vI x10, none], [.int x4, .int y211], (H1 s e0 o))) rfl ?_
  rcases qite h with ⟨hc212, h⟩ | ⟨hc212, h⟩
  ·refine zT Ad W (t := 90) (f := 87) rfl (XT.ii_eq_t hc212) ?_
   exact zM [tt,tt,tt,tt,tt,tt,tt,tt,tt,tt,tt,ff] (tJ8_90a1 Ad W s e0 o x1 x2 x3 x4 x5 x6 x7 x8 x9 x10 h hx0 hc)
  ·refine zF Ad W (t := 90) (f := 87) rfl (XT.ii_eq_f hc212) ?_
   refine zS Ad W 1 (st' := (152, [vR 10, vI x1, vI x2, vI x3, vI x4, vI x5, vI x6, vI x7, vI x8, vI x9, vI x10, none], [], (H1 s e0 o))) rfl ?_
   exact zM [tt,tt,tt,tt,tt,tt,tt,tt,tt,tt,ff,ff] (tJ8_152a1 Ad W s e0 o x1 x2 x3 x4 x5 x6 x7 x8 x9 h hx0 hc)
theorem tB8_15a1 (Ad : QAd n0 ad) (W : QW Z a0) (s : List Int32) (e0 : Ob) (o : Ob) (x1 : Int32) (x2 : Int32) (x3 : Int32) (x4 : Int32) (v : Int32 × Int32 × Int32 × Int32 × Int32) {r : ((Int32 × Int32 × Int32 × Int32)) ⊕ (Int32 × Int32 × Int32 × Int32 × Int32)} {u : Option Value} {τ : QHeap} (h : B8_15 o x1 x2 x3 x4 v = some r) (hx0 : ∀ x : Int32 × Int32 × Int32 × Int32, r = .inl x → QTri l Z n0 ad 8 (158, [vR 10, none, none, none, none, vI x.1, vI x.2.1, vI x.2.2.1, vI x.2.2.2, none, none, none], [], (H1 s e0 o)) u τ) (hc : ∀ x : Int32 × Int32 × Int32 × Int32 × Int32, r = .inr x → QTri l Z n0 ad 8 (15, [vR 10, vI x1, vI x2, vI x3, vI x4, vI x.1, vI x.2.1, vI x.2.2.1, vI x.2.2.2.1, vI x.2.2.2.2, none, none], [], (H1 s e0 o)) u τ) : QTri l Z n0 ad 8 (15, [vR 10, vI x1, vI x2, vI x3, vI x4, vI v.1, vI v.2.1, vI v.2.2.1, vI v.2.2.2.1, vI v.2.2.2.2, none, none], [], (H1 s e0 o)) u τ := by
 unfold B8_15 at h
 refine zS Ad W 3 (st' := (21, [vR 10, vI x1, vI x2, vI x3, vI x4, vI v.1, vI v.2.1, vI v.2.2.1, vI v.2.2.2.1, vI v.2.2.2.2, none, none], [.int (f_nRows o), .int v.2.2.2.2], (H1 s e0 o))) rfl ?_
 rcases qite h with ⟨hc198, h⟩ | ⟨hc198, h⟩
 ·refine zF Ad W (t := 158) (f := 24) rfl (XT.ii_ge_f hc198) ?_
  refine zS Ad W 3 (st' := (30, [vR 10, vI x1, vI x2, vI x3, vI x4, vI v.1, vI v.2.1, vI v.2.2.1, vI v.2.2.2.1, vI v.2.2.2.2, none, none], [.int v.2.2.2.2, .ref 12], (H1 s e0 o))) rfl ?_
  obtain ⟨y199, hy199, h⟩ := bind_eq_some_iff.mp h
  refine zB Ad W (f := fun y199 => (31, [vR 10, vI x1, vI x2, vI x3, vI x4, vI v.1, vI v.2.1, vI v.2.2.1, vI v.2.2.2.1, vI v.2.2.2.2, none, none], [.int y199], (H1 s e0 o))) rfl hy199 ?_
  rcases qite h with ⟨hc200, h⟩ | ⟨hc200, h⟩
  ·refine zF Ad W (t := 37) (f := 34) rfl (XT.i0_ne_f hc200) ?_
   refine zS Ad W 1 (st' := (152, [vR 10, vI x1, vI x2, vI x3, vI x4, vI v.1, vI v.2.1, vI v.2.2.1, vI v.2.2.2.1, vI v.2.2.2.2, none, none], [], (H1 s e0 o))) rfl ?_
   exact zM [tt,tt,tt,tt,tt,tt,tt,tt,tt,tt,ff,ff] (tJ8_152a1 Ad W s e0 o x1 x2 x3 x4 v.1 v.2.1 v.2.2.1 v.2.2.2.1 v.2.2.2.2 h hx0 hc)
  ·refine zT Ad W (t := 37) (f := 34) rfl (XT.i0_ne_t hc200) ?_
   refine zS Ad W 5 (st' := (44, [vR 10, vI x1, vI x2, vI x3, vI x4, vI v.1, vI v.2.1, vI v.2.2.1, vI v.2.2.2.1, vI v.2.2.2.2, vI (v.2.2.2.2 * (4:Int32)), none], [.int x1], (H1 s e0 o))) rfl ?_
   rcases qite h with ⟨hc201, h⟩ | ⟨hc201, h⟩
   ·refine zT Ad W (t := 66) (f := 47) rfl (XT.i0_eq_t hc201) ?_
    exact zM [tt,tt,tt,tt,tt,tt,tt,tt,tt,tt,tt,ff] (tJ8_66a1 Ad W s e0 o x1 x2 x3 x4 v.1 v.2.1 v.2.2.1 v.2.2.2.1 v.2.2.2.2 (v.2.2.2.2 * (4:Int32)) h hx0 hc)
   ·refine zF Ad W (t := 66) (f := 47) rfl (XT.i0_eq_f hc201) ?_
    refine zS Ad W 6 (st' := (58, [vR 10, vI x1, vI x2, vI x3, vI x4, vI v.1, vI v.2.1, vI v.2.2.1, vI v.2.2.2.1, vI v.2.2.2.2, vI (v.2.2.2.2 * (4:Int32)), none], [.int ((v.2.2.2.2 * (4:Int32)) + (f_rf o)), .ref 11], (H1 s e0 o))) rfl ?_
    obtain ⟨y213, hy213, h⟩ := bind_eq_some_iff.mp h
    refine zB Ad W (f := fun y213 => (59, [vR 10, vI x1, vI x2, vI x3, vI x4, vI v.1, vI v.2.1, vI v.2.2.1, vI v.2.2.2.1, vI v.2.2.2.2, vI (v.2.2.2.2 * (4:Int32)), none], [.int y213], (H1 s e0 o))) rfl hy213 ?_
    refine zS Ad W 1 (st' := (60, [vR 10, vI x1, vI x2, vI x3, vI x4, vI v.1, vI v.2.1, vI v.2.2.1, vI v.2.2.2.1, vI v.2.2.2.2, vI (v.2.2.2.2 * (4:Int32)), none], [.int x2, .int y213], (H1 s e0 o))) rfl ?_
    rcases qite h with ⟨hc214, h⟩ | ⟨hc214, h⟩
    ·refine zT Ad W (t := 66) (f := 63) rfl (XT.ii_eq_t hc214) ?_
     exact zM [tt,tt,tt,tt,tt,tt,tt,tt,tt,tt,tt,ff] (tJ8_66a1 Ad W s e0 o x1 x2 x3 x4 v.1 v.2.1 v.2.2.1 v.2.2.2.1 v.2.2.2.2 (v.2.2.2.2 * (4:Int32)) h hx0 hc)
    ·refine zF Ad W (t := 66) (f := 63) rfl (XT.ii_eq_f hc214) ?_
     refine zS Ad W 1 (st' := (152, [vR 10, vI x1, vI x2, vI x3, vI x4, vI v.1, vI v.2.1, vI v.2.2.1, vI v.2.2.2.1, vI v.2.2.2.2, vI (v.2.2.2.2 * (4:Int32)), none], [], (H1 s e0 o))) rfl ?_
     exact zM [tt,tt,tt,tt,tt,tt,tt,tt,tt,tt,ff,ff] (tJ8_152a1 Ad W s e0 o x1 x2 x3 x4 v.1 v.2.1 v.2.2.1 v.2.2.2.1 v.2.2.2.2 h hx0 hc)
 ·refine zT Ad W (t := 158) (f := 24) rfl (XT.ii_ge_t hc198) ?_
  obtain rfl := Option.some.inj h
  exact zM [tt,ff,ff,ff,ff,tt,tt,tt,tt,ff,ff,ff] (hx0 (v.1, v.2.1, v.2.2.1, v.2.2.2.1) rfl)
def H1x26 (s : List Int32) (o0 o1 : Ob) (a1_16 : Int32) : QHeap := H1v s (f_data o0) (f_filled o0) (f_rf o0) (f_cf o0) (f_vf o0) (f_ag o0) (f_fMode o0) (f_fRk o0) (f_fCk o0) (f_prevVal o0) (f_prevFound o0) (f_keys o0) (f_nRows o0) (f_nForms o0) (f_last o0) (f_gVal o0) (f_gCount o0) (f_selUseR o0) (f_selRk o0) (f_selUseC o0) (f_selCk o0) (f_data o1) (f_filled o1) (f_rf o1) (f_cf o1) (f_vf o1) (f_ag o1) (f_fMode o1) (f_fRk o1) (f_fCk o1) (f_prevVal o1) (f_prevFound o1) (f_keys o1) (f_nRows o1) (f_nForms o1) (f_last o1) (f_gVal o1) a1_16 (f_selUseR o1) (f_selRk o1) (f_selUseC o1) (f_selCk o1)
theorem tF9a1 (Ad : QAd n0 ad) (W : QW Z a0) (s : List Int32) (e0 : Ob) (o : Ob) (x1 : Int32) (x2 : Int32) (x3 : Int32) (x4 : Int32) {r : Int32} (h : F9 o x1 x2 x3 x4 = some r) : QTri l Z n0 ad 9 (0, qentry [.ref 10, .int x1, .int x2, .int x3, .int x4] (pMaxL 9), [], (H1 s e0 o)) (some (Value.int r)) (H1 s e0 o) := by
 unfold F9 at h
 refine zS Ad W 1 (st' := (1, [vR 10, vI x1, vI x2, vI x3, vI x4], [.int x1], (H1 s e0 o))) rfl ?_
 rcases qite h with ⟨hc218, h⟩ | ⟨hc218, h⟩
 ·refine zF Ad W (t := 6) (f := 4) rfl (XT.i0_ne_f hc218) ?_
  refine zS Ad W 1 (st' := (5, [vR 10, vI x1, vI x2, vI x3, vI x4], [.int (0:Int32)], (H1 s e0 o))) rfl ?_
  obtain rfl := Option.some.inj h
  exact QTri.retI rfl rfl
 ·refine zT Ad W (t := 6) (f := 4) rfl (XT.i0_ne_t hc218) ?_
  refine zS Ad W 3 (st' := (11, [vR 10, vI x1, vI x2, vI x3, vI x4], [.int (1:Int32), .int (f_ag o)], (H1 s e0 o))) rfl ?_
  rcases qite h with ⟨hc219, h⟩ | ⟨hc219, h⟩
  ·refine zF Ad W (t := 16) (f := 14) rfl (XT.ii_ne_f hc219) ?_
   refine zS Ad W 1 (st' := (15, [vR 10, vI x1, vI x2, vI x3, vI x4], [.int x1], (H1 s e0 o))) rfl ?_
   obtain rfl := Option.some.inj h
   exact QTri.retI rfl rfl
  ·refine zT Ad W (t := 16) (f := 14) rfl (XT.ii_ne_t hc219) ?_
   refine zS Ad W 3 (st' := (21, [vR 10, vI x1, vI x2, vI x3, vI x4], [.int (2:Int32), .int (f_ag o)], (H1 s e0 o))) rfl ?_
   rcases qite h with ⟨hc220, h⟩ | ⟨hc220, h⟩
   ·refine zF Ad W (t := 26) (f := 24) rfl (XT.ii_ne_f hc220) ?_
    refine zS Ad W 1 (st' := (25, [vR 10, vI x1, vI x2, vI x3, vI x4], [.int x3], (H1 s e0 o))) rfl ?_
    obtain rfl := Option.some.inj h
    exact QTri.retI rfl rfl
   ·refine zT Ad W (t := 26) (f := 24) rfl (XT.ii_ne_t hc220) ?_
    refine zS Ad W 3 (st' := (31, [vR 10, vI x1, vI x2, vI x3, vI x4], [.int (3:Int32), .int (f_ag o)], (H1 s e0 o))) rfl ?_
    rcases qite h with ⟨hc221, h⟩ | ⟨hc221, h⟩
    ·refine zF Ad W (t := 37) (f := 34) rfl (XT.ii_ne_f hc221) ?_
     refine zS Ad W 1 (st' := (36, [vR 10, vI x1, vI x2, vI x3, vI x4], [.int x4], (H1 s e0 o))) rfl ?_
     obtain rfl := Option.some.inj h
     exact QTri.retI rfl rfl
    ·refine zT Ad W (t := 37) (f := 34) rfl (XT.ii_ne_t hc221) ?_
     refine zS Ad W 1 (st' := (38, [vR 10, vI x1, vI x2, vI x3, vI x4], [.int x2], (H1 s e0 o))) rfl ?_
     obtain rfl := Option.some.inj h
     exact QTri.retI rfl rfl
theorem tF8a1 (Ad : QAd n0 ad) (W : QW Z a0) (s : List Int32) (e0 : Ob) (o : Ob) (x1 : Int32) (x2 : Int32) (x3 : Int32) (x4 : Int32) {r : Ob} (h : F8 o x1 x2 x3 x4 = some r) : QTri l Z n0 ad 8 (0, qentry [.ref 10, .int x1, .int x2, .int x3, .int x4] (pMaxL 8), [], (H1 s e0 o)) (none : Option Value) (H1 s e0 r) := by
 unfold F8 at h
 refine zS Ad W 4 (st' := (6, [vR 10, vI x1, vI x2, vI x3, vI x4, vI (0:Int32), vI (0:Int32), none, none, none, none, none], [], (H1 s e0 o))) rfl ?_
 refine zS Ad W 4 (st' := (12, [vR 10, vI x1, vI x2, vI x3, vI x4, vI (0:Int32), vI (0:Int32), vI (0:Int32), vI (0:Int32), none, none, none], [], (H1 s e0 o))) rfl ?_
 refine zS Ad W 2 (st' := (15, [vR 10, vI x1, vI x2, vI x3, vI x4, vI (0:Int32), vI (0:Int32), vI (0:Int32), vI (0:Int32), vI (0:Int32), none, none], [], (H1 s e0 o))) rfl ?_
 obtain ⟨e215, he215, h⟩ := bind_eq_some_iff.mp h
 refine zM [tt,tt,tt,tt,tt,tt,tt,tt,tt,tt,ff,ff] (loopN_tri (B := B8_15 o x1 x2 x3 x4) (T := fun lv216 => QTri l Z n0 ad 8 (15, [vR 10, vI x1, vI x2, vI x3, vI x4, vI lv216.1, vI lv216.2.1, vI lv216.2.2.1, vI lv216.2.2.2.1, vI lv216.2.2.2.2, none, none], [], (H1 s e0 o)) (none : Option Value) (H1 s e0 r)) (KE := fun e215a => QTri l Z n0 ad 8 (158, [vR 10, none, none, none, none, vI e215a.1, vI e215a.2.1, vI e215a.2.2.1, vI e215a.2.2.2, none, none, none], [], (H1 s e0 o)) (none : Option Value) (H1 s e0 r)) (fun lv216 r hB hE hC => tB8_15a1 Ad W s e0 o x1 x2 x3 x4 lv216 hB (fun x q => hE _ q) (fun x q => hC x q)) qN ((0:Int32), (0:Int32), (0:Int32), (0:Int32), (0:Int32)) e215 he215 ?_)
 refine zS Ad W 3 (st' := (164, [vR 10, none, none, none, none, vI e215.1, vI e215.2.1, vI e215.2.2.1, vI e215.2.2.2, none, none, none], [], (H1x26 s e0 o e215.2.1))) rfl ?_
 refine zS Ad W 6 (st' := (174, [vR 10, none, none, none, none, vI e215.1, vI e215.2.1, vI e215.2.2.1, vI e215.2.2.2, none, none, none], [.int e215.2.2.2, .int e215.2.2.1, .int e215.1, .int e215.2.1, .ref 10, .ref 10], (H1x26 s e0 o e215.2.1))) rfl ?_
 have E217 : ((H1x26 s e0 o e215.2.1) : QHeap) = (H1 s e0 (s_gCount o e215.2.1)) := by simp only [fs, H1, H1v, H1x26, s_gCount]
 rw [E217]
 obtain ⟨r222, hr222, h⟩ := bind_eq_some_iff.mp h
 refine QTri.callP W (a := 10) (as := [.int e215.2.1, .int e215.1, .int e215.2.2.1, .int e215.2.2.2]) (rest := [.ref 10]) (w := (some (.int r222))) (σ₁ := (H1 s e0 (s_gCount o e215.2.1))) rfl rfl rfl rfl rfl rfl rfl rfl (tF9a1 Ad W s e0 (s_gCount o e215.2.1) e215.2.1 e215.1 e215.2.2.1 e215.2.2.2 hr222) ?_
 refine zS Ad W 1 (st' := (180, [vR 10, none, none, none, none, vI e215.1, vI e215.2.1, vI e215.2.2.1, vI e215.2.2.2, none, none, none], [], (H1x24 s e0 (s_gCount o e215.2.1) r222))) rfl ?_
 have E223 : ((H1x24 s e0 (s_gCount o e215.2.1) r222) : QHeap) = (H1 s e0 (s_gVal (s_gCount o e215.2.1) r222)) := (show ∀ b0 : Ob, ((H1x24 s e0 b0 r222) : QHeap) = (H1 s e0 (s_gVal b0 r222)) from fun b0 => by simp only [fs, H1, H1v, H1x24, s_gVal]) (s_gCount o e215.2.1)
 rw [E223]
 obtain rfl := Option.some.inj h
 exact QTri.ret0 rfl rfl
theorem tF7a1 (Ad : QAd n0 ad) (W : QW Z a0) (s : List Int32) (e0 : Ob) (o : Ob) (x1 : Int32) {r : Ob} (h : F7 o x1 = some r) : QTri l Z n0 ad 7 (0, qentry [.ref 10, .int x1] (pMaxL 7), [], (H1 s e0 o)) (none : Option Value) (H1 s e0 r) := by
 unfold F7 at h
 refine zS Ad W 3 (st' := (5, [vR 10, vI x1, none, none, none], [.int x1, .ref 13], (H1 s e0 o))) rfl ?_
 obtain ⟨y185, hy185, h⟩ := bind_eq_some_iff.mp h
 refine zB Ad W (f := fun y185 => (6, [vR 10, vI x1, none, none, none], [.int y185], (H1 s e0 o))) rfl hy185 ?_
 refine zS Ad W 2 (st' := (8, [vR 10, vI x1, vI y185, none, none], [.int y185], (H1 s e0 o))) rfl ?_
 rcases qite h with ⟨hc186, h⟩ | ⟨hc186, h⟩
 ·refine zF Ad W (t := 22) (f := 11) rfl (XT.i0_ne_f hc186) ?_
  refine zS Ad W 3 (st' := (16, [vR 10, vI x1, vI y185, none, none], [], (H1x24 s e0 o (0:Int32)))) rfl ?_
  refine zS Ad W 3 (st' := (21, [vR 10, vI x1, vI y185, none, none], [], (H1x25 s e0 o (0:Int32) (0:Int32)))) rfl ?_
  have E187 : ((H1x25 s e0 o (0:Int32) (0:Int32)) : QHeap) = (H1 s e0 (s_gCount (s_gVal o (0:Int32)) (0:Int32))) := by simp only [fs, H1, H1v, H1x25, s_gVal, s_gCount]
  rw [E187]
  obtain rfl := Option.some.inj h
  exact QTri.ret0 rfl rfl
 ·refine zT Ad W (t := 22) (f := 11) rfl (XT.i0_ne_t hc186) ?_
  refine zS Ad W 2 (st' := (24, [vR 10, vI x1, vI y185, none, none], [.int (1:Int32), .int y185], (H1 s e0 o))) rfl ?_
  have K189 : ∀ z188 : Int32, z188 = (if y185 = (1:Int32) then (1:Int32) else (if y185 = (2:Int32) then (1:Int32) else (0:Int32))) → QTri l Z n0 ad 7 (37, [vR 10, vI x1, vI y185, none, none], [.int z188], (H1 s e0 o)) (none : Option Value) (H1 s e0 r) := by
   intro z188 ez188
   subst ez188
   refine zS Ad W 3 (st' := (40, [vR 10, vI x1, vI y185, vI (if y185 = (1:Int32) then (1:Int32) else (if y185 = (2:Int32) then (1:Int32) else (0:Int32))), none], [.int (1:Int32), .int y185], (H1 s e0 o))) rfl ?_
   have K193 : ∀ z192 : Int32, z192 = (if y185 = (1:Int32) then (1:Int32) else (if y185 = (3:Int32) then (1:Int32) else (0:Int32))) → QTri l Z n0 ad 7 (53, [vR 10, vI x1, none, vI (if y185 = (1:Int32) then (1:Int32) else (if y185 = (2:Int32) then (1:Int32) else (0:Int32))), none], [.int z192], (H1 s e0 o)) (none : Option Value) (H1 s e0 r) := by
    intro z192 ez192
    subst ez192
    refine zS Ad W 6 (st' := (62, [vR 10, vI x1, none, vI (if y185 = (1:Int32) then (1:Int32) else (if y185 = (2:Int32) then (1:Int32) else (0:Int32))), vI (if y185 = (1:Int32) then (1:Int32) else (if y185 = (3:Int32) then (1:Int32) else (0:Int32)))], [.int x1, .ref 14, .int (if y185 = (1:Int32) then (1:Int32) else (if y185 = (2:Int32) then (1:Int32) else (0:Int32))), .ref 10], (H1 s e0 o))) rfl ?_
    obtain ⟨y196, hy196, h⟩ := bind_eq_some_iff.mp h
    refine zB Ad W (f := fun y196 => (63, [vR 10, vI x1, none, vI (if y185 = (1:Int32) then (1:Int32) else (if y185 = (2:Int32) then (1:Int32) else (0:Int32))), vI (if y185 = (1:Int32) then (1:Int32) else (if y185 = (3:Int32) then (1:Int32) else (0:Int32)))], [.int y196, .int (if y185 = (1:Int32) then (1:Int32) else (if y185 = (2:Int32) then (1:Int32) else (0:Int32))), .ref 10], (H1 s e0 o))) rfl hy196 ?_
    refine zS Ad W 4 (st' := (70, [vR 10, vI x1, none, vI (if y185 = (1:Int32) then (1:Int32) else (if y185 = (2:Int32) then (1:Int32) else (0:Int32))), vI (if y185 = (1:Int32) then (1:Int32) else (if y185 = (3:Int32) then (1:Int32) else (0:Int32)))], [.int x1, .ref 15, .int (if y185 = (1:Int32) then (1:Int32) else (if y185 = (3:Int32) then (1:Int32) else (0:Int32))), .int y196, .int (if y185 = (1:Int32) then (1:Int32) else (if y185 = (2:Int32) then (1:Int32) else (0:Int32))), .ref 10], (H1 s e0 o))) rfl ?_
    obtain ⟨y197, hy197, h⟩ := bind_eq_some_iff.mp h
    refine zB Ad W (f := fun y197 => (71, [vR 10, vI x1, none, vI (if y185 = (1:Int32) then (1:Int32) else (if y185 = (2:Int32) then (1:Int32) else (0:Int32))), vI (if y185 = (1:Int32) then (1:Int32) else (if y185 = (3:Int32) then (1:Int32) else (0:Int32)))], [.int y197, .int (if y185 = (1:Int32) then (1:Int32) else (if y185 = (3:Int32) then (1:Int32) else (0:Int32))), .int y196, .int (if y185 = (1:Int32) then (1:Int32) else (if y185 = (2:Int32) then (1:Int32) else (0:Int32))), .ref 10], (H1 s e0 o))) rfl hy197 ?_
    obtain ⟨r224, hr224, h⟩ := bind_eq_some_iff.mp h
    refine QTri.callP W (a := 10) (as := [.int (if y185 = (1:Int32) then (1:Int32) else (if y185 = (2:Int32) then (1:Int32) else (0:Int32))), .int y196, .int (if y185 = (1:Int32) then (1:Int32) else (if y185 = (3:Int32) then (1:Int32) else (0:Int32))), .int y197]) (rest := []) (w := none) (σ₁ := (H1 s e0 r224)) rfl rfl rfl rfl rfl rfl rfl rfl (tF8a1 Ad W s e0 o (if y185 = (1:Int32) then (1:Int32) else (if y185 = (2:Int32) then (1:Int32) else (0:Int32))) y196 (if y185 = (1:Int32) then (1:Int32) else (if y185 = (3:Int32) then (1:Int32) else (0:Int32))) y197 hr224) ?_
    obtain rfl := Option.some.inj h
    exact QTri.ret0 rfl rfl
   rcases em (y185 = (1:Int32)) with hc194 | hc194
   ·refine zT Ad W (t := 48) (f := 43) rfl (XT.ii_eq_t hc194) ?_
    refine zS Ad W 2 (st' := (53, [vR 10, vI x1, vI y185, vI (if y185 = (1:Int32) then (1:Int32) else (if y185 = (2:Int32) then (1:Int32) else (0:Int32))), none], [.int (1:Int32)], (H1 s e0 o))) rfl ?_
    exact zM [tt,tt,ff,tt,ff] (K193 _ (if_pos hc194).symm)
   ·refine zF Ad W (t := 48) (f := 43) rfl (XT.ii_eq_f hc194) ?_
    refine zS Ad W 2 (st' := (45, [vR 10, vI x1, vI y185, vI (if y185 = (1:Int32) then (1:Int32) else (if y185 = (2:Int32) then (1:Int32) else (0:Int32))), none], [.int (3:Int32), .int y185], (H1 s e0 o))) rfl ?_
    rcases em (y185 = (3:Int32)) with hc195 | hc195
    ·refine zF Ad W (t := 52) (f := 48) rfl (XT.ii_ne_f hc195) ?_
     refine zS Ad W 2 (st' := (53, [vR 10, vI x1, vI y185, vI (if y185 = (1:Int32) then (1:Int32) else (if y185 = (2:Int32) then (1:Int32) else (0:Int32))), none], [.int (1:Int32)], (H1 s e0 o))) rfl ?_
     exact zM [tt,tt,ff,tt,ff] (K193 _ ((if_neg hc194).trans (if_pos hc195)).symm)
    ·refine zT Ad W (t := 52) (f := 48) rfl (XT.ii_ne_t hc195) ?_
     refine zS Ad W 1 (st' := (53, [vR 10, vI x1, vI y185, vI (if y185 = (1:Int32) then (1:Int32) else (if y185 = (2:Int32) then (1:Int32) else (0:Int32))), none], [.int (0:Int32)], (H1 s e0 o))) rfl ?_
     exact zM [tt,tt,ff,tt,ff] (K193 _ ((if_neg hc194).trans (if_neg hc195)).symm)
  rcases em (y185 = (1:Int32)) with hc190 | hc190
  ·refine zT Ad W (t := 32) (f := 27) rfl (XT.ii_eq_t hc190) ?_
   refine zS Ad W 2 (st' := (37, [vR 10, vI x1, vI y185, none, none], [.int (1:Int32)], (H1 s e0 o))) rfl ?_
   exact zM [tt,tt,tt,ff,ff] (K189 _ (if_pos hc190).symm)
  ·refine zF Ad W (t := 32) (f := 27) rfl (XT.ii_eq_f hc190) ?_
   refine zS Ad W 2 (st' := (29, [vR 10, vI x1, vI y185, none, none], [.int (2:Int32), .int y185], (H1 s e0 o))) rfl ?_
   rcases em (y185 = (2:Int32)) with hc191 | hc191
   ·refine zF Ad W (t := 36) (f := 32) rfl (XT.ii_ne_f hc191) ?_
    refine zS Ad W 2 (st' := (37, [vR 10, vI x1, vI y185, none, none], [.int (1:Int32)], (H1 s e0 o))) rfl ?_
    exact zM [tt,tt,tt,ff,ff] (K189 _ ((if_neg hc190).trans (if_pos hc191)).symm)
   ·refine zT Ad W (t := 36) (f := 32) rfl (XT.ii_ne_t hc191) ?_
    refine zS Ad W 1 (st' := (37, [vR 10, vI x1, vI y185, none, none], [.int (0:Int32)], (H1 s e0 o))) rfl ?_
    exact zM [tt,tt,tt,ff,ff] (K189 _ ((if_neg hc190).trans (if_neg hc191)).symm)
def H1x27 (s : List Int32) (o0 o1 : Ob) (a1_9 : List Int32) : QHeap := H1v s (f_data o0) (f_filled o0) (f_rf o0) (f_cf o0) (f_vf o0) (f_ag o0) (f_fMode o0) (f_fRk o0) (f_fCk o0) (f_prevVal o0) (f_prevFound o0) (f_keys o0) (f_nRows o0) (f_nForms o0) (f_last o0) (f_gVal o0) (f_gCount o0) (f_selUseR o0) (f_selRk o0) (f_selUseC o0) (f_selCk o0) (f_data o1) (f_filled o1) (f_rf o1) (f_cf o1) (f_vf o1) (f_ag o1) (f_fMode o1) (f_fRk o1) (f_fCk o1) a1_9 (f_prevFound o1) (f_keys o1) (f_nRows o1) (f_nForms o1) (f_last o1) (f_gVal o1) (f_gCount o1) (f_selUseR o1) (f_selRk o1) (f_selUseC o1) (f_selCk o1)
def H1x28 (s : List Int32) (o0 o1 : Ob) (a1_9 : List Int32) (a1_10 : List Int32) : QHeap := H1v s (f_data o0) (f_filled o0) (f_rf o0) (f_cf o0) (f_vf o0) (f_ag o0) (f_fMode o0) (f_fRk o0) (f_fCk o0) (f_prevVal o0) (f_prevFound o0) (f_keys o0) (f_nRows o0) (f_nForms o0) (f_last o0) (f_gVal o0) (f_gCount o0) (f_selUseR o0) (f_selRk o0) (f_selUseC o0) (f_selCk o0) (f_data o1) (f_filled o1) (f_rf o1) (f_cf o1) (f_vf o1) (f_ag o1) (f_fMode o1) (f_fRk o1) (f_fCk o1) a1_9 a1_10 (f_keys o1) (f_nRows o1) (f_nForms o1) (f_last o1) (f_gVal o1) (f_gCount o1) (f_selUseR o1) (f_selRk o1) (f_selUseC o1) (f_selCk o1)
theorem tB6_2a1 (Ad : QAd n0 ad) (W : QW Z a0) (s : List Int32) (e0 : Ob) (v : Int32 × Ob) {r : ((Ob)) ⊕ (Int32 × Ob)} {u : Option Value} {τ : QHeap} (h : B6_2 v = some r) (hx0 : ∀ x : Ob, r = .inl x → u = (none : Option Value) ∧ τ = (H1 s e0 x)) (hc : ∀ x : Int32 × Ob, r = .inr x → QTri l Z n0 ad 6 (2, [vR 10, vI x.1], [], (H1 s e0 x.2)) u τ) : QTri l Z n0 ad 6 (2, [vR 10, vI v.1], [], (H1 s e0 v.2)) u τ := by
 unfold B6_2 at h
 refine zS Ad W 3 (st' := (7, [vR 10, vI v.1], [.int (f_nForms v.2), .int v.1], (H1 s e0 v.2))) rfl ?_
 rcases qite h with ⟨hc184, h⟩ | ⟨hc184, h⟩
 ·refine zF Ad W (t := 49) (f := 10) rfl (XT.ii_ge_f hc184) ?_
  refine zS Ad W 2 (st' := (12, [vR 10, vI v.1], [.int v.1, .ref 10], (H1 s e0 v.2))) rfl ?_
  obtain ⟨r225, hr225, h⟩ := bind_eq_some_iff.mp h
  refine QTri.callP W (a := 10) (as := [.int v.1]) (rest := []) (w := none) (σ₁ := (H1 s e0 r225)) rfl rfl rfl rfl rfl rfl rfl rfl (tF7a1 Ad W s e0 v.2 v.1 hr225) ?_
  refine zS Ad W 5 (st' := (24, [vR 10, vI v.1], [.int (f_gVal r225), .int v.1, .ref 16], (H1 s e0 r225))) rfl ?_
  obtain ⟨y226, hy226, h⟩ := bind_eq_some_iff.mp h
  refine zB Ad W (f := fun y226 => (25, [vR 10, vI v.1], [], (H1x27 s e0 r225 y226))) rfl hy226 ?_
  refine zS Ad W 5 (st' := (34, [vR 10, vI v.1], [.int (f_gCount r225), .int v.1, .ref 17], (H1x27 s e0 r225 y226))) rfl ?_
  have K228 : ∀ z227 : Int32, z227 = (if (0:Int32) < (f_gCount r225) then (1:Int32) else (0:Int32)) → QTri l Z n0 ad 6 (42, [vR 10, vI v.1], [.int z227, .int v.1, .ref 17], (H1x27 s e0 r225 y226)) u τ := by
   intro z227 ez227
   subst ez227
   obtain ⟨y230, hy230, h⟩ := bind_eq_some_iff.mp h
   refine zB Ad W (f := fun y230 => (43, [vR 10, vI v.1], [], (H1x28 s e0 r225 y226 y230))) rfl hy230 ?_
   refine zS Ad W 2 (st' := (2, [vR 10, vI (v.1 + (1:Int32))], [], (H1x28 s e0 r225 y226 y230))) rfl ?_
   have E231 : ((H1x28 s e0 r225 y226 y230) : QHeap) = (H1 s e0 (s_prevFound (s_prevVal r225 y226) y230)) := by simp only [fs, H1, H1v, H1x28, s_prevVal, s_prevFound]
   rw [E231]
   obtain rfl := Option.some.inj h
   exact zM [tt,tt] (hc ((v.1 + (1:Int32)), (s_prevFound (s_prevVal r225 y226) y230)) rfl)
  rcases em ((0:Int32) < (f_gCount r225)) with hc229 | hc229
  ·refine zF Ad W (t := 41) (f := 37) rfl (XT.i0_le_f hc229) ?_
   refine zS Ad W 2 (st' := (42, [vR 10, vI v.1], [.int (1:Int32), .int v.1, .ref 17], (H1x27 s e0 r225 y226))) rfl ?_
   exact zM [tt,tt] (K228 _ (if_pos hc229).symm)
  ·refine zT Ad W (t := 41) (f := 37) rfl (XT.i0_le_t hc229) ?_
   refine zS Ad W 1 (st' := (42, [vR 10, vI v.1], [.int (0:Int32), .int v.1, .ref 17], (H1x27 s e0 r225 y226))) rfl ?_
   exact zM [tt,tt] (K228 _ (if_neg hc229).symm)
 ·refine zT Ad W (t := 49) (f := 10) rfl (XT.ii_ge_t hc184) ?_
  obtain rfl := Option.some.inj h
  obtain ⟨rfl, rfl⟩ := hx0 v.2 rfl
  exact QTri.ret0 rfl rfl
theorem tF6a1 (Ad : QAd n0 ad) (W : QW Z a0) (s : List Int32) (e0 : Ob) (o : Ob) {r : Ob} (h : F6 o = some r) : QTri l Z n0 ad 6 (0, qentry [.ref 10] (pMaxL 6), [], (H1 s e0 o)) (none : Option Value) (H1 s e0 r) := by
 unfold F6 at h
 refine zS Ad W 2 (st' := (2, [vR 10, vI (0:Int32)], [], (H1 s e0 o))) rfl ?_
 obtain ⟨e232, he232, h⟩ := bind_eq_some_iff.mp h
 refine zM [tt,tt] (loopN_tri (B := B6_2) (T := fun lv233 => QTri l Z n0 ad 6 (2, [vR 10, vI lv233.1], [], (H1 s e0 lv233.2)) (none : Option Value) (H1 s e0 r)) (KE := fun e232a => (none : Option Value) = (none : Option Value) ∧ (H1 s e0 r) = (H1 s e0 e232a)) (fun lv233 r hB hE hC => tB6_2a1 Ad W s e0 lv233 hB (fun x q => hE _ q) (fun x q => hC x q)) qN ((0:Int32), o) e232 he232 ?_)
 obtain rfl := Option.some.inj h
 exact ⟨rfl, rfl⟩
def H1x29 (s : List Int32) (o0 o1 : Ob) (a1_0 : List Int32) : QHeap := H1v s (f_data o0) (f_filled o0) (f_rf o0) (f_cf o0) (f_vf o0) (f_ag o0) (f_fMode o0) (f_fRk o0) (f_fCk o0) (f_prevVal o0) (f_prevFound o0) (f_keys o0) (f_nRows o0) (f_nForms o0) (f_last o0) (f_gVal o0) (f_gCount o0) (f_selUseR o0) (f_selRk o0) (f_selUseC o0) (f_selCk o0) a1_0 (f_filled o1) (f_rf o1) (f_cf o1) (f_vf o1) (f_ag o1) (f_fMode o1) (f_fRk o1) (f_fCk o1) (f_prevVal o1) (f_prevFound o1) (f_keys o1) (f_nRows o1) (f_nForms o1) (f_last o1) (f_gVal o1) (f_gCount o1) (f_selUseR o1) (f_selRk o1) (f_selUseC o1) (f_selCk o1)
def H1x30 (s : List Int32) (o0 o1 : Ob) (a1_0 : List Int32) (a1_1 : List Int32) : QHeap := H1v s (f_data o0) (f_filled o0) (f_rf o0) (f_cf o0) (f_vf o0) (f_ag o0) (f_fMode o0) (f_fRk o0) (f_fCk o0) (f_prevVal o0) (f_prevFound o0) (f_keys o0) (f_nRows o0) (f_nForms o0) (f_last o0) (f_gVal o0) (f_gCount o0) (f_selUseR o0) (f_selRk o0) (f_selUseC o0) (f_selCk o0) a1_0 a1_1 (f_rf o1) (f_cf o1) (f_vf o1) (f_ag o1) (f_fMode o1) (f_fRk o1) (f_fCk o1) (f_prevVal o1) (f_prevFound o1) (f_keys o1) (f_nRows o1) (f_nForms o1) (f_last o1) (f_gVal o1) (f_gCount o1) (f_selUseR o1) (f_selRk o1) (f_selUseC o1) (f_selCk o1)
theorem tJ10_56a1 (Ad : QAd n0 ad) (W : QW Z a0) (s : List Int32) (e0 : Ob) (o : Ob) (x1 : Int32) (x2 : Int32) {r : ((Int32 × Ob)) ⊕ (Int32 × Int32 × Ob)} {u : Option Value} {τ : QHeap} (h : J10_56 o x1 x2 = some r) (hx0 : ∀ x : Int32 × Ob, r = .inl x → u = (some (Value.int x.1)) ∧ τ = (H1 s e0 x.2)) (hc : ∀ x : Int32 × Int32 × Ob, r = .inr x → QTri l Z n0 ad 10 (4, [vR 10, vI x.1, vI x.2.1, none], [], (H1 s e0 x.2.2)) u τ) : QTri l Z n0 ad 10 (56, [vR 10, vI x1, vI x2, none], [], (H1 s e0 o)) u τ := by
 unfold J10_56 at h
 refine zS Ad W 2 (st' := (4, [vR 10, vI x1, vI (x2 + (1:Int32)), none], [], (H1 s e0 o))) rfl ?_
 obtain rfl := Option.some.inj h
 exact zM [tt,tt,tt,ff] (hc (x1, (x2 + (1:Int32)), o) rfl)
theorem tJ10_53a1 (Ad : QAd n0 ad) (W : QW Z a0) (s : List Int32) (e0 : Ob) (o : Ob) (x1 : Int32) (x2 : Int32) {r : ((Int32 × Ob)) ⊕ (Int32 × Int32 × Ob)} {u : Option Value} {τ : QHeap} (h : J10_53 o x1 x2 = some r) (hx0 : ∀ x : Int32 × Ob, r = .inl x → u = (some (Value.int x.1)) ∧ τ = (H1 s e0 x.2)) (hc : ∀ x : Int32 × Int32 × Ob, r = .inr x → QTri l Z n0 ad 10 (4, [vR 10, vI x.1, vI x.2.1, none], [], (H1 s e0 x.2.2)) u τ) : QTri l Z n0 ad 10 (53, [vR 10, vI x1, vI x2, none], [], (H1 s e0 o)) u τ := by
 unfold J10_53 at h
 refine zS Ad W 1 (st' := (56, [vR 10, vI (x1 + (1:Int32)), vI x2, none], [], (H1 s e0 o))) rfl ?_
 exact zM [tt,tt,tt,ff] (tJ10_56a1 Ad W s e0 o (x1 + (1:Int32)) x2 h hx0 hc)
theorem tB10_4a1 (Ad : QAd n0 ad) (W : QW Z a0) (s : List Int32) (e0 : Ob) (v : Int32 × Int32 × Ob) {r : ((Int32 × Ob)) ⊕ (Int32 × Int32 × Ob)} {u : Option Value} {τ : QHeap} (h : B10_4 v = some r) (hx0 : ∀ x : Int32 × Ob, r = .inl x → u = (some (Value.int x.1)) ∧ τ = (H1 s e0 x.2)) (hc : ∀ x : Int32 × Int32 × Ob, r = .inr x → QTri l Z n0 ad 10 (4, [vR 10, vI x.1, vI x.2.1, none], [], (H1 s e0 x.2.2)) u τ) : QTri l Z n0 ad 10 (4, [vR 10, vI v.1, vI v.2.1, none], [], (H1 s e0 v.2.2)) u τ := by
 unfold B10_4 at h
 refine zS Ad W 3 (st' := (9, [vR 10, vI v.1, vI v.2.1, none], [.int (f_nForms v.2.2), .int v.2.1], (H1 s e0 v.2.2))) rfl ?_
 rcases qite h with ⟨hc238, h⟩ | ⟨hc238, h⟩
 ·refine zF Ad W (t := 62) (f := 12) rfl (XT.ii_ge_f hc238) ?_
  refine zS Ad W 2 (st' := (14, [vR 10, vI v.1, vI v.2.1, none], [.int v.2.1, .ref 10], (H1 s e0 v.2.2))) rfl ?_
  obtain ⟨r239, hr239, h⟩ := bind_eq_some_iff.mp h
  refine QTri.callP W (a := 10) (as := [.int v.2.1]) (rest := []) (w := none) (σ₁ := (H1 s e0 r239)) rfl rfl rfl rfl rfl rfl rfl rfl (tF7a1 Ad W s e0 v.2.2 v.2.1 hr239) ?_
  refine zS Ad W 2 (st' := (21, [vR 10, vI v.1, vI v.2.1, none], [.int (f_gCount r239)], (H1 s e0 r239))) rfl ?_
  have K241 : ∀ z240 : Int32, z240 = (if (0:Int32) < (f_gCount r239) then (1:Int32) else (0:Int32)) → QTri l Z n0 ad 10 (29, [vR 10, vI v.1, vI v.2.1, none], [.int z240], (H1 s e0 r239)) u τ := by
   intro z240 ez240
   subst ez240
   refine zS Ad W 6 (st' := (39, [vR 10, vI v.1, vI v.2.1, vI (if (0:Int32) < (f_gCount r239) then (1:Int32) else (0:Int32))], [.int v.2.1, .ref 16, .int (f_gVal r239)], (H1 s e0 r239))) rfl ?_
   obtain ⟨y243, hy243, h⟩ := bind_eq_some_iff.mp h
   refine zB Ad W (f := fun y243 => (40, [vR 10, vI v.1, vI v.2.1, vI (if (0:Int32) < (f_gCount r239) then (1:Int32) else (0:Int32))], [.int y243, .int (f_gVal r239)], (H1 s e0 r239))) rfl hy243 ?_
   rcases qite h with ⟨hc244, h⟩ | ⟨hc244, h⟩
   ·refine zF Ad W (t := 53) (f := 43) rfl (XT.ii_ne_f hc244) ?_
    refine zS Ad W 4 (st' := (49, [vR 10, vI v.1, vI v.2.1, vI (if (0:Int32) < (f_gCount r239) then (1:Int32) else (0:Int32))], [.int v.2.1, .ref 17, .int (if (0:Int32) < (f_gCount r239) then (1:Int32) else (0:Int32))], (H1 s e0 r239))) rfl ?_
    obtain ⟨y245, hy245, h⟩ := bind_eq_some_iff.mp h
    refine zB Ad W (f := fun y245 => (50, [vR 10, vI v.1, vI v.2.1, vI (if (0:Int32) < (f_gCount r239) then (1:Int32) else (0:Int32))], [.int y245, .int (if (0:Int32) < (f_gCount r239) then (1:Int32) else (0:Int32))], (H1 s e0 r239))) rfl hy245 ?_
    have K247 : ∀ z246 : Int32, z246 = (if (if (0:Int32) < (f_gCount r239) then (1:Int32) else (0:Int32)) = y245 then v.1 else (v.1 + (1:Int32))) → QTri l Z n0 ad 10 (56, [vR 10, vI z246, vI v.2.1, none], [], (H1 s e0 r239)) u τ := by
     intro z246 ez246
     subst ez246
     refine zS Ad W 2 (st' := (4, [vR 10, vI (if (if (0:Int32) < (f_gCount r239) then (1:Int32) else (0:Int32)) = y245 then v.1 else (v.1 + (1:Int32))), vI (v.2.1 + (1:Int32)), none], [], (H1 s e0 r239))) rfl ?_
     obtain rfl := Option.some.inj h
     exact zM [tt,tt,tt,ff] (hc ((if (if (0:Int32) < (f_gCount r239) then (1:Int32) else (0:Int32)) = y245 then v.1 else (v.1 + (1:Int32))), (v.2.1 + (1:Int32)), r239) rfl)
    rcases em ((if (0:Int32) < (f_gCount r239) then (1:Int32) else (0:Int32)) = y245) with hc248 | hc248
    ·refine zT Ad W (t := 56) (f := 53) rfl (XT.ii_eq_t hc248) ?_
     exact zM [tt,tt,tt,ff] (K247 _ (if_pos hc248).symm)
    ·refine zF Ad W (t := 56) (f := 53) rfl (XT.ii_eq_f hc248) ?_
     refine zS Ad W 1 (st' := (56, [vR 10, vI (v.1 + (1:Int32)), vI v.2.1, vI (if (0:Int32) < (f_gCount r239) then (1:Int32) else (0:Int32))], [], (H1 s e0 r239))) rfl ?_
     exact zM [tt,tt,tt,ff] (K247 _ (if_neg hc248).symm)
   ·refine zT Ad W (t := 53) (f := 43) rfl (XT.ii_ne_t hc244) ?_
    exact zM [tt,tt,tt,ff] (tJ10_53a1 Ad W s e0 r239 v.1 v.2.1 h hx0 hc)
  rcases em ((0:Int32) < (f_gCount r239)) with hc242 | hc242
  ·refine zF Ad W (t := 28) (f := 24) rfl (XT.i0_le_f hc242) ?_
   refine zS Ad W 2 (st' := (29, [vR 10, vI v.1, vI v.2.1, none], [.int (1:Int32)], (H1 s e0 r239))) rfl ?_
   exact zM [tt,tt,tt,ff] (K241 _ (if_pos hc242).symm)
  ·refine zT Ad W (t := 28) (f := 24) rfl (XT.i0_le_t hc242) ?_
   refine zS Ad W 1 (st' := (29, [vR 10, vI v.1, vI v.2.1, none], [.int (0:Int32)], (H1 s e0 r239))) rfl ?_
   exact zM [tt,tt,tt,ff] (K241 _ (if_neg hc242).symm)
 ·refine zT Ad W (t := 62) (f := 12) rfl (XT.ii_ge_t hc238) ?_
  refine zS Ad W 1 (st' := (63, [vR 10, vI v.1, vI v.2.1, none], [.int v.1], (H1 s e0 v.2.2))) rfl ?_
  obtain rfl := Option.some.inj h
  obtain ⟨rfl, rfl⟩ := hx0 (v.1, v.2.2) rfl
  exact QTri.retI rfl rfl
theorem tF10a1 (Ad : QAd n0 ad) (W : QW Z a0) (s : List Int32) (e0 : Ob) (o : Ob) {r : Int32 × Ob} (h : F10 o = some r) : QTri l Z n0 ad 10 (0, qentry [.ref 10] (pMaxL 10), [], (H1 s e0 o)) (some (Value.int r.1)) (H1 s e0 r.2) := by
 unfold F10 at h
 refine zS Ad W 4 (st' := (4, [vR 10, vI (0:Int32), vI (0:Int32), none], [], (H1 s e0 o))) rfl ?_
 obtain ⟨e249, he249, h⟩ := bind_eq_some_iff.mp h
 refine zM [tt,tt,tt,ff] (loopN_tri (B := B10_4) (T := fun lv250 => QTri l Z n0 ad 10 (4, [vR 10, vI lv250.1, vI lv250.2.1, none], [], (H1 s e0 lv250.2.2)) (some (Value.int r.1)) (H1 s e0 r.2)) (KE := fun e249a => (some (Value.int r.1)) = (some (Value.int e249a.1)) ∧ (H1 s e0 r.2) = (H1 s e0 e249a.2)) (fun lv250 r hB hE hC => tB10_4a1 Ad W s e0 lv250 hB (fun x q => hE _ q) (fun x q => hC x q)) qN ((0:Int32), (0:Int32), o) e249 he249 ?_)
 obtain rfl := Option.some.inj h
 exact ⟨rfl, rfl⟩
def H1x31 (s : List Int32) (o0 o1 : Ob) (a1_14 : Int32) : QHeap := H1v s (f_data o0) (f_filled o0) (f_rf o0) (f_cf o0) (f_vf o0) (f_ag o0) (f_fMode o0) (f_fRk o0) (f_fCk o0) (f_prevVal o0) (f_prevFound o0) (f_keys o0) (f_nRows o0) (f_nForms o0) (f_last o0) (f_gVal o0) (f_gCount o0) (f_selUseR o0) (f_selRk o0) (f_selUseC o0) (f_selCk o0) (f_data o1) (f_filled o1) (f_rf o1) (f_cf o1) (f_vf o1) (f_ag o1) (f_fMode o1) (f_fRk o1) (f_fCk o1) (f_prevVal o1) (f_prevFound o1) (f_keys o1) (f_nRows o1) (f_nForms o1) a1_14 (f_gVal o1) (f_gCount o1) (f_selUseR o1) (f_selRk o1) (f_selUseC o1) (f_selCk o1)
theorem tF4a1 (Ad : QAd n0 ad) (W : QW Z a0) (s : List Int32) (e0 : Ob) (o : Ob) (x1 : Int32) (x2 : Int32) (x3 : Int32) {r : Int32 × Ob} (h : F4 o x1 x2 x3 = some r) : QTri l Z n0 ad 4 (0, qentry [.ref 10, .int x1, .int x2, .int x3] (pMaxL 4), [], (H1 s e0 o)) (some (Value.int r.1)) (H1 s e0 r.2) := by
 unfold F4 at h
 refine zS Ad W 2 (st' := (2, [vR 10, vI x1, vI x2, vI x3], [.int x1, .ref 10], (H1 s e0 o))) rfl ?_
 obtain ⟨r180, hr180, h⟩ := bind_eq_some_iff.mp h
 refine QTri.callP W (a := 10) (as := [.int x1]) (rest := []) (w := (some (.int r180))) (σ₁ := (H1 s e0 o)) rfl rfl rfl rfl rfl rfl rfl rfl (tF5a2 Ad W s e0 o x1 hr180) ?_
 rcases qite h with ⟨hc181, h⟩ | ⟨hc181, h⟩
 ·refine zF Ad W (t := 10) (f := 8) rfl (XT.i0_ne_f hc181) ?_
  refine zS Ad W 1 (st' := (9, [vR 10, vI x1, vI x2, vI x3], [.int (0:Int32)], (H1 s e0 o))) rfl ?_
  obtain rfl := Option.some.inj h
  exact QTri.retZ rfl rfl
 ·refine zT Ad W (t := 10) (f := 8) rfl (XT.i0_ne_t hc181) ?_
  refine zS Ad W 1 (st' := (11, [vR 10, vI x1, vI x2, vI x3], [.int x2], (H1 s e0 o))) rfl ?_
  rcases qite h with ⟨hc182, h⟩ | ⟨hc182, h⟩
  ·refine zT Ad W (t := 19) (f := 14) rfl (XT.i0_lt_t hc182) ?_
   refine zS Ad W 1 (st' := (20, [vR 10, vI x1, vI x2, vI x3], [.int (0:Int32)], (H1 s e0 o))) rfl ?_
   obtain rfl := Option.some.inj h
   exact QTri.retZ rfl rfl
  ·refine zF Ad W (t := 19) (f := 14) rfl (XT.i0_lt_f hc182) ?_
   refine zS Ad W 2 (st' := (16, [vR 10, vI x1, vI x2, vI x3], [.int (4:Int32), .int x2], (H1 s e0 o))) rfl ?_
   rcases qite h with ⟨hc183, h⟩ | ⟨hc183, h⟩
   ·refine zT Ad W (t := 21) (f := 19) rfl (XT.ii_lt_t hc183) ?_
    refine zS Ad W 1 (st' := (22, [vR 10, vI x1, vI x2, vI x3], [.ref 10], (H1 s e0 o))) rfl ?_
    obtain ⟨r234, hr234, h⟩ := bind_eq_some_iff.mp h
    refine QTri.callP W (a := 10) (as := []) (rest := []) (w := none) (σ₁ := (H1 s e0 r234)) rfl rfl rfl rfl rfl rfl rfl rfl (tF6a1 Ad W s e0 o hr234) ?_
    refine zS Ad W 8 (st' := (35, [vR 10, vI x1, vI x2, vI x3], [.int x3, .int ((x1 * (4:Int32)) + x2), .ref 11], (H1 s e0 r234))) rfl ?_
    obtain ⟨y235, hy235, h⟩ := bind_eq_some_iff.mp h
    refine zB Ad W (f := fun y235 => (36, [vR 10, vI x1, vI x2, vI x3], [], (H1x29 s e0 r234 y235))) rfl hy235 ?_
    refine zS Ad W 4 (st' := (42, [vR 10, vI x1, vI x2, vI x3], [.int (1:Int32), .int x1, .ref 12], (H1x29 s e0 r234 y235))) rfl ?_
    obtain ⟨y236, hy236, h⟩ := bind_eq_some_iff.mp h
    refine zB Ad W (f := fun y236 => (43, [vR 10, vI x1, vI x2, vI x3], [], (H1x30 s e0 r234 y235 y236))) rfl hy236 ?_
    refine zS Ad W 2 (st' := (45, [vR 10, vI x1, vI x2, vI x3], [.ref 10, .ref 10], (H1x30 s e0 r234 y235 y236))) rfl ?_
    have E237 : ((H1x30 s e0 r234 y235 y236) : QHeap) = (H1 s e0 (s_filled (s_data r234 y235) y236)) := by simp only [fs, H1, H1v, H1x30, s_data, s_filled]
    rw [E237]
    obtain ⟨r251, hr251, h⟩ := bind_eq_some_iff.mp h
    refine QTri.callP W (a := 10) (as := []) (rest := [.ref 10]) (w := (some (.int r251.1))) (σ₁ := (H1 s e0 r251.2)) rfl rfl rfl rfl rfl rfl rfl rfl (tF10a1 Ad W s e0 (s_filled (s_data r234 y235) y236) hr251) ?_
    refine zS Ad W 1 (st' := (51, [vR 10, vI x1, vI x2, vI x3], [], (H1x31 s e0 r251.2 r251.1))) rfl ?_
    refine zS Ad W 1 (st' := (52, [vR 10, vI x1, vI x2, vI x3], [.int (1:Int32)], (H1x31 s e0 r251.2 r251.1))) rfl ?_
    have E252 : ((H1x31 s e0 r251.2 r251.1) : QHeap) = (H1 s e0 (s_last r251.2 r251.1)) := by simp only [fs, H1, H1v, H1x31, s_last]
    rw [E252]
    obtain rfl := Option.some.inj h
    exact QTri.retZ rfl rfl
   ·refine zF Ad W (t := 21) (f := 19) rfl (XT.ii_lt_f hc183) ?_
    refine zS Ad W 1 (st' := (20, [vR 10, vI x1, vI x2, vI x3], [.int (0:Int32)], (H1 s e0 o))) rfl ?_
    obtain rfl := Option.some.inj h
    exact QTri.retZ rfl rfl
def B0_203 (s : List Int32) (x2 : Int32) (x3 : Int32) (x4 : Int32) (x5 : Int32) (x7 : Int32) (v : Int32 × Ob × Ob) : Option (((Ob × Ob)) ⊕ (Int32 × Ob × Ob)) :=
  (if v.1 < (4 : Int32) then (F15 v.2.1 x7 v.1).bind fun r177 => (F4 v.2.2 x7 v.1 r177).bind fun r253 => some (.inr ((v.1 + (1 : Int32)), v.2.1, r253.2)) else some (.inl (v.2.1, v.2.2)))
theorem tB0_203 (Ad : QAd n0 ad) (W : QW Z a0) (s : List Int32) (x2 : Int32) (x3 : Int32) (x4 : Int32) (x5 : Int32) (x7 : Int32) (v : Int32 × Ob × Ob) {r : ((Ob × Ob)) ⊕ (Int32 × Ob × Ob)} {u : Option Value} {τ : QHeap} (h : B0_203 s x2 x3 x4 x5 x7 v = some r) (hx0 : ∀ x : Ob × Ob, r = .inl x → QTri l Z n0 ad 0 (237, [none, vR 1, vI x2, vI x3, vI x4, vI x5, vR 10, vI x7, none, none, none, none, none, none, none, none, none, none, none, none, none], [], (H1 s x.1 x.2)) u τ) (hc : ∀ x : Int32 × Ob × Ob, r = .inr x → QTri l Z n0 ad 0 (203, [none, vR 1, vI x2, vI x3, vI x4, vI x5, vR 10, vI x7, none, vI x.1, none, none, none, none, none, none, none, none, none, none, none], [], (H1 s x.2.1 x.2.2)) u τ) : QTri l Z n0 ad 0 (203, [none, vR 1, vI x2, vI x3, vI x4, vI x5, vR 10, vI x7, none, vI v.1, none, none, none, none, none, none, none, none, none, none, none], [], (H1 s v.2.1 v.2.2)) u τ := by
 unfold B0_203 at h
 refine zS Ad W 2 (st' := (206, [none, vR 1, vI x2, vI x3, vI x4, vI x5, vR 10, vI x7, none, vI v.1, none, none, none, none, none, none, none, none, none, none, none], [.int (4:Int32), .int v.1], (H1 s v.2.1 v.2.2))) rfl ?_
 rcases qite h with ⟨hc171, h⟩ | ⟨hc171, h⟩
 ·refine zF Ad W (t := 237) (f := 209) rfl (XT.ii_ge_f hc171) ?_
  refine zS Ad W 3 (st' := (214, [none, vR 1, vI x2, vI x3, vI x4, vI x5, vR 10, vI x7, none, vI v.1, none, none, none, none, none, none, none, none, none, none, none], [.int v.1, .int x7, .ref 1], (H1 s v.2.1 v.2.2))) rfl ?_
  obtain ⟨r177, hr177, h⟩ := bind_eq_some_iff.mp h
  refine QTri.callV W (a := 1) (as := [.int x7, .int v.1]) (rest := []) (w := (some (.int r177))) (σ₁ := (H1 s v.2.1 v.2.2)) rfl rfl rfl rfl rfl rfl rfl rfl (tF15 Ad W s v.2.2 v.2.1 x7 v.1 hr177) ?_
  refine zS Ad W 5 (st' := (227, [none, vR 1, vI x2, vI x3, vI x4, vI x5, vR 10, vI x7, none, vI v.1, vI r177, none, none, none, none, none, none, none, none, none, none], [.int r177, .int v.1, .int x7, .ref 10], (H1 s v.2.1 v.2.2))) rfl ?_
  obtain ⟨r253, hr253, h⟩ := bind_eq_some_iff.mp h
  refine QTri.callV W (a := 10) (as := [.int x7, .int v.1, .int r177]) (rest := []) (w := (some (.int r253.1))) (σ₁ := (H1 s v.2.1 r253.2)) rfl rfl rfl rfl rfl rfl rfl rfl (tF4a1 Ad W s v.2.1 v.2.2 x7 v.1 r177 hr253) ?_
  refine zS Ad W 3 (st' := (203, [none, vR 1, vI x2, vI x3, vI x4, vI x5, vR 10, vI x7, none, vI (v.1 + (1:Int32)), vI r177, none, none, none, none, none, none, none, none, none, none], [], (H1 s v.2.1 r253.2))) rfl ?_
  obtain rfl := Option.some.inj h
  exact zM [ff,tt,tt,tt,tt,tt,tt,tt,ff,tt,ff,ff,ff,ff,ff,ff,ff,ff,ff,ff,ff] (hc ((v.1 + (1:Int32)), v.2.1, r253.2) rfl)
 ·refine zT Ad W (t := 237) (f := 209) rfl (XT.ii_ge_t hc171) ?_
  obtain rfl := Option.some.inj h
  exact zM [ff,tt,tt,tt,tt,tt,tt,tt,ff,ff,ff,ff,ff,ff,ff,ff,ff,ff,ff,ff,ff] (hx0 (v.2.1, v.2.2) rfl)
def B0_180 (s : List Int32) (x2 : Int32) (x3 : Int32) (x4 : Int32) (x5 : Int32) (v : Int32 × Ob × Ob) : Option (((Ob × Ob)) ⊕ (Int32 × Ob × Ob)) :=
  (if v.1 < (8 : Int32) then (F14 v.2.1 v.1).bind fun r169 => (if r169 = (0 : Int32) then (J0_237 s v.2.1 v.2.2 x2 x3 x4 x5 v.1) else (loopN (B0_203 s x2 x3 x4 x5 v.1) qN ((0 : Int32), v.2.1, v.2.2)).bind fun e254 => (J0_237 s e254.1 e254.2 x2 x3 x4 x5 v.1)) else some (.inl (v.2.1, v.2.2)))
theorem tB0_180 (Ad : QAd n0 ad) (W : QW Z a0) (s : List Int32) (x2 : Int32) (x3 : Int32) (x4 : Int32) (x5 : Int32) (v : Int32 × Ob × Ob) {r : ((Ob × Ob)) ⊕ (Int32 × Ob × Ob)} {u : Option Value} {τ : QHeap} (h : B0_180 s x2 x3 x4 x5 v = some r) (hx0 : ∀ x : Ob × Ob, r = .inl x → QTri l Z n0 ad 0 (243, [none, vR 1, vI x2, vI x3, vI x4, vI x5, vR 10, none, none, none, none, none, none, none, none, none, none, none, none, none, none], [], (H1 s x.1 x.2)) u τ) (hc : ∀ x : Int32 × Ob × Ob, r = .inr x → QTri l Z n0 ad 0 (180, [none, vR 1, vI x2, vI x3, vI x4, vI x5, vR 10, vI x.1, none, none, none, none, none, none, none, none, none, none, none, none, none], [], (H1 s x.2.1 x.2.2)) u τ) : QTri l Z n0 ad 0 (180, [none, vR 1, vI x2, vI x3, vI x4, vI x5, vR 10, vI v.1, none, none, none, none, none, none, none, none, none, none, none, none, none], [], (H1 s v.2.1 v.2.2)) u τ := by
 unfold B0_180 at h
 refine zS Ad W 2 (st' := (184, [none, vR 1, vI x2, vI x3, vI x4, vI x5, vR 10, vI v.1, none, none, none, none, none, none, none, none, none, none, none, none, none], [.int (8:Int32), .int v.1], (H1 s v.2.1 v.2.2))) rfl ?_
 rcases qite h with ⟨hc163, h⟩ | ⟨hc163, h⟩
 ·refine zF Ad W (t := 243) (f := 187) rfl (XT.ii_ge_f hc163) ?_
  refine zS Ad W 2 (st' := (190, [none, vR 1, vI x2, vI x3, vI x4, vI x5, vR 10, vI v.1, none, none, none, none, none, none, none, none, none, none, none, none, none], [.int v.1, .ref 1], (H1 s v.2.1 v.2.2))) rfl ?_
  obtain ⟨r169, hr169, h⟩ := bind_eq_some_iff.mp h
  refine QTri.callV W (a := 1) (as := [.int v.1]) (rest := []) (w := (some (.int r169))) (σ₁ := (H1 s v.2.1 v.2.2)) rfl rfl rfl rfl rfl rfl rfl rfl (tF14 Ad W s v.2.2 v.2.1 v.1 hr169) ?_
  refine zS Ad W 2 (st' := (197, [none, vR 1, vI x2, vI x3, vI x4, vI x5, vR 10, vI v.1, vI r169, none, none, none, none, none, none, none, none, none, none, none, none], [.int r169], (H1 s v.2.1 v.2.2))) rfl ?_
  rcases qite h with ⟨hc170, h⟩ | ⟨hc170, h⟩
  ·refine zT Ad W (t := 237) (f := 200) rfl (XT.i0_eq_t hc170) ?_
   exact zM [ff,tt,tt,tt,tt,tt,tt,tt,ff,ff,ff,ff,ff,ff,ff,ff,ff,ff,ff,ff,ff] (tJ0_237 Ad W s v.2.1 v.2.2 x2 x3 x4 x5 v.1 h hx0 hc)
  ·refine zF Ad W (t := 237) (f := 200) rfl (XT.i0_eq_f hc170) ?_
   refine zS Ad W 2 (st' := (203, [none, vR 1, vI x2, vI x3, vI x4, vI x5, vR 10, vI v.1, vI r169, vI (0:Int32), none, none, none, none, none, none, none, none, none, none, none], [], (H1 s v.2.1 v.2.2))) rfl ?_
   obtain ⟨e254, he254, h⟩ := bind_eq_some_iff.mp h
   refine zM [ff,tt,tt,tt,tt,tt,tt,tt,ff,tt,ff,ff,ff,ff,ff,ff,ff,ff,ff,ff,ff] (loopN_tri (B := B0_203 s x2 x3 x4 x5 v.1) (T := fun lv255 => QTri l Z n0 ad 0 (203, [none, vR 1, vI x2, vI x3, vI x4, vI x5, vR 10, vI v.1, none, vI lv255.1, none, none, none, none, none, none, none, none, none, none, none], [], (H1 s lv255.2.1 lv255.2.2)) u τ) (KE := fun e254a => QTri l Z n0 ad 0 (237, [none, vR 1, vI x2, vI x3, vI x4, vI x5, vR 10, vI v.1, none, none, none, none, none, none, none, none, none, none, none, none, none], [], (H1 s e254a.1 e254a.2)) u τ) (fun lv255 r hB hE hC => tB0_203 Ad W s x2 x3 x4 x5 v.1 lv255 hB (fun x q => hE _ q) (fun x q => hC x q)) qN ((0:Int32), v.2.1, v.2.2) e254 he254 ?_)
   exact zM [ff,tt,tt,tt,tt,tt,tt,tt,ff,ff,ff,ff,ff,ff,ff,ff,ff,ff,ff,ff,ff] (tJ0_237 Ad W s e254.1 e254.2 x2 x3 x4 x5 v.1 h hx0 hc)
 ·refine zT Ad W (t := 243) (f := 187) rfl (XT.ii_ge_t hc163) ?_
  obtain rfl := Option.some.inj h
  exact zM [ff,tt,tt,tt,tt,tt,tt,ff,ff,ff,ff,ff,ff,ff,ff,ff,ff,ff,ff,ff,ff] (hx0 (v.2.1, v.2.2) rfl)
def H1x32 (s : List Int32) (o0 o1 : Ob) (a1_2 : Int32) : QHeap := H1v s (f_data o0) (f_filled o0) (f_rf o0) (f_cf o0) (f_vf o0) (f_ag o0) (f_fMode o0) (f_fRk o0) (f_fCk o0) (f_prevVal o0) (f_prevFound o0) (f_keys o0) (f_nRows o0) (f_nForms o0) (f_last o0) (f_gVal o0) (f_gCount o0) (f_selUseR o0) (f_selRk o0) (f_selUseC o0) (f_selCk o0) (f_data o1) (f_filled o1) a1_2 (f_cf o1) (f_vf o1) (f_ag o1) (f_fMode o1) (f_fRk o1) (f_fCk o1) (f_prevVal o1) (f_prevFound o1) (f_keys o1) (f_nRows o1) (f_nForms o1) (f_last o1) (f_gVal o1) (f_gCount o1) (f_selUseR o1) (f_selRk o1) (f_selUseC o1) (f_selCk o1)
def H1x33 (s : List Int32) (o0 o1 : Ob) (a1_2 : Int32) (a1_3 : Int32) : QHeap := H1v s (f_data o0) (f_filled o0) (f_rf o0) (f_cf o0) (f_vf o0) (f_ag o0) (f_fMode o0) (f_fRk o0) (f_fCk o0) (f_prevVal o0) (f_prevFound o0) (f_keys o0) (f_nRows o0) (f_nForms o0) (f_last o0) (f_gVal o0) (f_gCount o0) (f_selUseR o0) (f_selRk o0) (f_selUseC o0) (f_selCk o0) (f_data o1) (f_filled o1) a1_2 a1_3 (f_vf o1) (f_ag o1) (f_fMode o1) (f_fRk o1) (f_fCk o1) (f_prevVal o1) (f_prevFound o1) (f_keys o1) (f_nRows o1) (f_nForms o1) (f_last o1) (f_gVal o1) (f_gCount o1) (f_selUseR o1) (f_selRk o1) (f_selUseC o1) (f_selCk o1)
def H1x34 (s : List Int32) (o0 o1 : Ob) (a1_2 : Int32) (a1_3 : Int32) (a1_4 : Int32) : QHeap := H1v s (f_data o0) (f_filled o0) (f_rf o0) (f_cf o0) (f_vf o0) (f_ag o0) (f_fMode o0) (f_fRk o0) (f_fCk o0) (f_prevVal o0) (f_prevFound o0) (f_keys o0) (f_nRows o0) (f_nForms o0) (f_last o0) (f_gVal o0) (f_gCount o0) (f_selUseR o0) (f_selRk o0) (f_selUseC o0) (f_selCk o0) (f_data o1) (f_filled o1) a1_2 a1_3 a1_4 (f_ag o1) (f_fMode o1) (f_fRk o1) (f_fCk o1) (f_prevVal o1) (f_prevFound o1) (f_keys o1) (f_nRows o1) (f_nForms o1) (f_last o1) (f_gVal o1) (f_gCount o1) (f_selUseR o1) (f_selRk o1) (f_selUseC o1) (f_selCk o1)
def H1x35 (s : List Int32) (o0 o1 : Ob) (a1_2 : Int32) (a1_3 : Int32) (a1_4 : Int32) (a1_5 : Int32) : QHeap := H1v s (f_data o0) (f_filled o0) (f_rf o0) (f_cf o0) (f_vf o0) (f_ag o0) (f_fMode o0) (f_fRk o0) (f_fCk o0) (f_prevVal o0) (f_prevFound o0) (f_keys o0) (f_nRows o0) (f_nForms o0) (f_last o0) (f_gVal o0) (f_gCount o0) (f_selUseR o0) (f_selRk o0) (f_selUseC o0) (f_selCk o0) (f_data o1) (f_filled o1) a1_2 a1_3 a1_4 a1_5 (f_fMode o1) (f_fRk o1) (f_fCk o1) (f_prevVal o1) (f_prevFound o1) (f_keys o1) (f_nRows o1) (f_nForms o1) (f_last o1) (f_gVal o1) (f_gCount o1) (f_selUseR o1) (f_selRk o1) (f_selUseC o1) (f_selCk o1)
theorem tF11a1 (Ad : QAd n0 ad) (W : QW Z a0) (s : List Int32) (e0 : Ob) (o : Ob) (x1 : Int32) (x2 : Int32) (x3 : Int32) (x4 : Int32) {r : Int32 × Ob} (h : F11 o x1 x2 x3 x4 = some r) : QTri l Z n0 ad 11 (0, qentry [.ref 10, .int x1, .int x2, .int x3, .int x4] (pMaxL 11), [], (H1 s e0 o)) (some (Value.int r.1)) (H1 s e0 r.2) := by
 unfold F11 at h
 refine zS Ad W 2 (st' := (2, [vR 10, vI x1, vI x2, vI x3, vI x4], [.int x1, .ref 10], (H1 s e0 o))) rfl ?_
 obtain ⟨r258, hr258, h⟩ := bind_eq_some_iff.mp h
 refine QTri.callP W (a := 10) (as := [.int x1]) (rest := []) (w := (some (.int r258))) (σ₁ := (H1 s e0 o)) rfl rfl rfl rfl rfl rfl rfl rfl (tF12 Ad W x1 hr258) ?_
 rcases qite h with ⟨hc259, h⟩ | ⟨hc259, h⟩
 ·refine zT Ad W (t := 24) (f := 8) rfl (XT.i0_eq_t hc259) ?_
  refine zS Ad W 1 (st' := (25, [vR 10, vI x1, vI x2, vI x3, vI x4], [.int (0:Int32)], (H1 s e0 o))) rfl ?_
  obtain rfl := Option.some.inj h
  exact QTri.retZ rfl rfl
 ·refine zF Ad W (t := 24) (f := 8) rfl (XT.i0_eq_f hc259) ?_
  refine zS Ad W 2 (st' := (10, [vR 10, vI x1, vI x2, vI x3, vI x4], [.int x2, .ref 10], (H1 s e0 o))) rfl ?_
  obtain ⟨r260, hr260, h⟩ := bind_eq_some_iff.mp h
  refine QTri.callP W (a := 10) (as := [.int x2]) (rest := []) (w := (some (.int r260))) (σ₁ := (H1 s e0 o)) rfl rfl rfl rfl rfl rfl rfl rfl (tF12 Ad W x2 hr260) ?_
  rcases qite h with ⟨hc261, h⟩ | ⟨hc261, h⟩
  ·refine zT Ad W (t := 24) (f := 16) rfl (XT.i0_eq_t hc261) ?_
   refine zS Ad W 1 (st' := (25, [vR 10, vI x1, vI x2, vI x3, vI x4], [.int (0:Int32)], (H1 s e0 o))) rfl ?_
   obtain rfl := Option.some.inj h
   exact QTri.retZ rfl rfl
  ·refine zF Ad W (t := 24) (f := 16) rfl (XT.i0_eq_f hc261) ?_
   refine zS Ad W 2 (st' := (18, [vR 10, vI x1, vI x2, vI x3, vI x4], [.int x3, .ref 10], (H1 s e0 o))) rfl ?_
   obtain ⟨r262, hr262, h⟩ := bind_eq_some_iff.mp h
   refine QTri.callP W (a := 10) (as := [.int x3]) (rest := []) (w := (some (.int r262))) (σ₁ := (H1 s e0 o)) rfl rfl rfl rfl rfl rfl rfl rfl (tF12 Ad W x3 hr262) ?_
   rcases qite h with ⟨hc263, h⟩ | ⟨hc263, h⟩
   ·refine zF Ad W (t := 26) (f := 24) rfl (XT.i0_ne_f hc263) ?_
    refine zS Ad W 1 (st' := (25, [vR 10, vI x1, vI x2, vI x3, vI x4], [.int (0:Int32)], (H1 s e0 o))) rfl ?_
    obtain rfl := Option.some.inj h
    exact QTri.retZ rfl rfl
   ·refine zT Ad W (t := 26) (f := 24) rfl (XT.i0_ne_t hc263) ?_
    refine zS Ad W 1 (st' := (28, [vR 10, vI x1, vI x2, vI x3, vI x4], [.int x4], (H1 s e0 o))) rfl ?_
    rcases qite h with ⟨hc264, h⟩ | ⟨hc264, h⟩
    ·refine zT Ad W (t := 37) (f := 31) rfl (XT.i0_lt_t hc264) ?_
     refine zS Ad W 1 (st' := (38, [vR 10, vI x1, vI x2, vI x3, vI x4], [.int (0:Int32)], (H1 s e0 o))) rfl ?_
     obtain rfl := Option.some.inj h
     exact QTri.retZ rfl rfl
    ·refine zF Ad W (t := 37) (f := 31) rfl (XT.i0_lt_f hc264) ?_
     refine zS Ad W 2 (st' := (34, [vR 10, vI x1, vI x2, vI x3, vI x4], [.int (3:Int32), .int x4], (H1 s e0 o))) rfl ?_
     rcases qite h with ⟨hc265, h⟩ | ⟨hc265, h⟩
     ·refine zF Ad W (t := 39) (f := 37) rfl (XT.ii_le_f hc265) ?_
      refine zS Ad W 1 (st' := (38, [vR 10, vI x1, vI x2, vI x3, vI x4], [.int (0:Int32)], (H1 s e0 o))) rfl ?_
      obtain rfl := Option.some.inj h
      exact QTri.retZ rfl rfl
     ·refine zT Ad W (t := 39) (f := 37) rfl (XT.ii_le_t hc265) ?_
      refine zS Ad W 1 (st' := (40, [vR 10, vI x1, vI x2, vI x3, vI x4], [.ref 10], (H1 s e0 o))) rfl ?_
      obtain ⟨r266, hr266, h⟩ := bind_eq_some_iff.mp h
      refine QTri.callP W (a := 10) (as := []) (rest := []) (w := none) (σ₁ := (H1 s e0 r266)) rfl rfl rfl rfl rfl rfl rfl rfl (tF6a1 Ad W s e0 o hr266) ?_
      refine zS Ad W 3 (st' := (48, [vR 10, vI x1, vI x2, vI x3, vI x4], [], (H1x32 s e0 r266 x1))) rfl ?_
      refine zS Ad W 3 (st' := (53, [vR 10, vI x1, vI x2, vI x3, vI x4], [], (H1x33 s e0 r266 x1 x2))) rfl ?_
      refine zS Ad W 3 (st' := (58, [vR 10, vI x1, vI x2, vI x3, vI x4], [], (H1x34 s e0 r266 x1 x2 x3))) rfl ?_
      refine zS Ad W 3 (st' := (64, [vR 10, vI x1, vI x2, vI x3, vI x4], [], (H1x35 s e0 r266 x1 x2 x3 x4))) rfl ?_
      refine zS Ad W 2 (st' := (66, [vR 10, vI x1, vI x2, vI x3, vI x4], [.ref 10, .ref 10], (H1x35 s e0 r266 x1 x2 x3 x4))) rfl ?_
      have E267 : ((H1x35 s e0 r266 x1 x2 x3 x4) : QHeap) = (H1 s e0 (s_ag (s_vf (s_cf (s_rf r266 x1) x2) x3) x4)) := by simp only [fs, H1, H1v, H1x35, s_rf, s_cf, s_vf, s_ag]
      rw [E267]
      obtain ⟨r268, hr268, h⟩ := bind_eq_some_iff.mp h
      refine QTri.callP W (a := 10) (as := []) (rest := [.ref 10]) (w := (some (.int r268.1))) (σ₁ := (H1 s e0 r268.2)) rfl rfl rfl rfl rfl rfl rfl rfl (tF10a1 Ad W s e0 (s_ag (s_vf (s_cf (s_rf r266 x1) x2) x3) x4) hr268) ?_
      refine zS Ad W 1 (st' := (72, [vR 10, vI x1, vI x2, vI x3, vI x4], [], (H1x31 s e0 r268.2 r268.1))) rfl ?_
      refine zS Ad W 1 (st' := (73, [vR 10, vI x1, vI x2, vI x3, vI x4], [.int (1:Int32)], (H1x31 s e0 r268.2 r268.1))) rfl ?_
      have E269 : ((H1x31 s e0 r268.2 r268.1) : QHeap) = (H1 s e0 (s_last r268.2 r268.1)) := by simp only [fs, H1, H1v, H1x31, s_last]
      rw [E269]
      obtain rfl := Option.some.inj h
      exact QTri.retZ rfl rfl
def J17_42 (o : Ob) (x1 : Int32) (x2 : Int32) (x3 : Int32) (x4 : Int32) : Option (((Int32 × Ob)) ⊕ (Int32 × Int32 × Ob)) :=
  some (.inr (x3, (x4 + (1 : Int32)), o))
theorem tJ17_42 (Ad : QAd n0 ad) (W : QW Z a0) (s : List Int32) (e0 : Ob) (o : Ob) (x1 : Int32) (x2 : Int32) (x3 : Int32) (x4 : Int32) {r : ((Int32 × Ob)) ⊕ (Int32 × Int32 × Ob)} {u : Option Value} {τ : QHeap} (h : J17_42 o x1 x2 x3 x4 = some r) (hx0 : ∀ x : Int32 × Ob, r = .inl x → u = (some (Value.int x.1)) ∧ τ = (H1 s x.2 e0)) (hc : ∀ x : Int32 × Int32 × Ob, r = .inr x → QTri l Z n0 ad 17 (5, [vR 1, vI x1, vI x2, vI x.1, vI x.2.1], [], (H1 s x.2.2 e0)) u τ) : QTri l Z n0 ad 17 (42, [vR 1, vI x1, vI x2, vI x3, vI x4], [], (H1 s o e0)) u τ := by
 unfold J17_42 at h
 refine zS Ad W 2 (st' := (5, [vR 1, vI x1, vI x2, vI x3, vI (x4 + (1:Int32))], [], (H1 s o e0))) rfl ?_
 obtain rfl := Option.some.inj h
 exact zM [tt,tt,tt,tt,tt] (hc (x3, (x4 + (1:Int32)), o) rfl)
def B18_15 (o : Ob) (x1 : Int32) (x2 : Int32) (x3 : Int32) (v : Int32) : Option (((Int32)) ⊕ (Int32)) :=
  (if v < x2 then (aget (f_keys o) (x1 + v)).bind fun y278 => (if y278 < x3 then some (.inr (v + (1 : Int32))) else some (.inl v)) else some (.inl v))
theorem tB18_15 (Ad : QAd n0 ad) (W : QW Z a0) (s : List Int32) (e0 : Ob) (o : Ob) (x1 : Int32) (x2 : Int32) (x3 : Int32) (v : Int32) {r : ((Int32)) ⊕ (Int32)} {u : Option Value} {τ : QHeap} (h : B18_15 o x1 x2 x3 v = some r) (hx0 : ∀ x : Int32, r = .inl x → QTri l Z n0 ad 18 (40, [vR 1, vI x1, vI x2, vI x3, vI x, none], [], (H1 s o e0)) u τ) (hc : ∀ x : Int32, r = .inr x → QTri l Z n0 ad 18 (15, [vR 1, vI x1, vI x2, vI x3, vI x, none], [], (H1 s o e0)) u τ) : QTri l Z n0 ad 18 (15, [vR 1, vI x1, vI x2, vI x3, vI v, none], [], (H1 s o e0)) u τ := by
 unfold B18_15 at h
 refine zS Ad W 2 (st' := (18, [vR 1, vI x1, vI x2, vI x3, vI v, none], [.int x2, .int v], (H1 s o e0))) rfl ?_
 rcases qite h with ⟨hc277, h⟩ | ⟨hc277, h⟩
 ·refine zF Ad W (t := 40) (f := 21) rfl (XT.ii_ge_f hc277) ?_
  refine zS Ad W 5 (st' := (29, [vR 1, vI x1, vI x2, vI x3, vI v, none], [.int (x1 + v), .ref 9], (H1 s o e0))) rfl ?_
  obtain ⟨y278, hy278, h⟩ := bind_eq_some_iff.mp h
  refine zB Ad W (f := fun y278 => (30, [vR 1, vI x1, vI x2, vI x3, vI v, none], [.int y278], (H1 s o e0))) rfl hy278 ?_
  refine zS Ad W 1 (st' := (31, [vR 1, vI x1, vI x2, vI x3, vI v, none], [.int x3, .int y278], (H1 s o e0))) rfl ?_
  rcases qite h with ⟨hc279, h⟩ | ⟨hc279, h⟩
  ·refine zF Ad W (t := 40) (f := 34) rfl (XT.ii_ge_f hc279) ?_
   refine zS Ad W 2 (st' := (15, [vR 1, vI x1, vI x2, vI x3, vI (v + (1:Int32)), none], [], (H1 s o e0))) rfl ?_
   obtain rfl := Option.some.inj h
   exact zM [tt,tt,tt,tt,tt,ff] (hc (v + (1:Int32)) rfl)
  ·refine zT Ad W (t := 40) (f := 34) rfl (XT.ii_ge_t hc279) ?_
   obtain rfl := Option.some.inj h
   exact zM [tt,tt,tt,tt,tt,ff] (hx0 v rfl)
 ·refine zT Ad W (t := 40) (f := 21) rfl (XT.ii_ge_t hc277) ?_
  obtain rfl := Option.some.inj h
  exact zM [tt,tt,tt,tt,tt,ff] (hx0 v rfl)
def H1x36 (s : List Int32) (o0 o1 : Ob) (a0_11 : List Int32) : QHeap := H1v s (f_data o0) (f_filled o0) (f_rf o0) (f_cf o0) (f_vf o0) (f_ag o0) (f_fMode o0) (f_fRk o0) (f_fCk o0) (f_prevVal o0) (f_prevFound o0) a0_11 (f_nRows o0) (f_nForms o0) (f_last o0) (f_gVal o0) (f_gCount o0) (f_selUseR o0) (f_selRk o0) (f_selUseC o0) (f_selCk o0) (f_data o1) (f_filled o1) (f_rf o1) (f_cf o1) (f_vf o1) (f_ag o1) (f_fMode o1) (f_fRk o1) (f_fCk o1) (f_prevVal o1) (f_prevFound o1) (f_keys o1) (f_nRows o1) (f_nForms o1) (f_last o1) (f_gVal o1) (f_gCount o1) (f_selUseR o1) (f_selRk o1) (f_selUseC o1) (f_selCk o1)
def B18_64 (x1 : Int32) (x2 : Int32) (x3 : Int32) (x4 : Int32) (v : Int32 × Ob) : Option (((Ob)) ⊕ (Int32 × Ob)) :=
  (if x4 < v.1 then (aget (f_keys v.2) ((x1 + v.1) - (1 : Int32))).bind fun y286 => (aset (f_keys v.2) (x1 + v.1) y286).bind fun y287 => some (.inr ((v.1 + (-1 : Int32)), (s_keys v.2 y287))) else some (.inl v.2))
theorem tB18_64 (Ad : QAd n0 ad) (W : QW Z a0) (s : List Int32) (e0 : Ob) (x1 : Int32) (x2 : Int32) (x3 : Int32) (x4 : Int32) (v : Int32 × Ob) {r : ((Ob)) ⊕ (Int32 × Ob)} {u : Option Value} {τ : QHeap} (h : B18_64 x1 x2 x3 x4 v = some r) (hx0 : ∀ x : Ob, r = .inl x → QTri l Z n0 ad 18 (97, [vR 1, vI x1, vI x2, vI x3, vI x4, none], [], (H1 s x e0)) u τ) (hc : ∀ x : Int32 × Ob, r = .inr x → QTri l Z n0 ad 18 (64, [vR 1, vI x1, vI x2, vI x3, vI x4, vI x.1], [], (H1 s x.2 e0)) u τ) : QTri l Z n0 ad 18 (64, [vR 1, vI x1, vI x2, vI x3, vI x4, vI v.1], [], (H1 s v.2 e0)) u τ := by
 unfold B18_64 at h
 refine zS Ad W 2 (st' := (68, [vR 1, vI x1, vI x2, vI x3, vI x4, vI v.1], [.int x4, .int v.1], (H1 s v.2 e0))) rfl ?_
 rcases qite h with ⟨hc285, h⟩ | ⟨hc285, h⟩
 ·refine zF Ad W (t := 97) (f := 71) rfl (XT.ii_le_f hc285) ?_
  refine zS Ad W 12 (st' := (89, [vR 1, vI x1, vI x2, vI x3, vI x4, vI v.1], [.int ((x1 + v.1) - (1:Int32)), .ref 9, .int (x1 + v.1), .ref 9], (H1 s v.2 e0))) rfl ?_
  obtain ⟨y286, hy286, h⟩ := bind_eq_some_iff.mp h
  refine zB Ad W (f := fun y286 => (90, [vR 1, vI x1, vI x2, vI x3, vI x4, vI v.1], [.int y286, .int (x1 + v.1), .ref 9], (H1 s v.2 e0))) rfl hy286 ?_
  obtain ⟨y287, hy287, h⟩ := bind_eq_some_iff.mp h
  refine zB Ad W (f := fun y287 => (91, [vR 1, vI x1, vI x2, vI x3, vI x4, vI v.1], [], (H1x36 s v.2 e0 y287))) rfl hy287 ?_
  refine zS Ad W 2 (st' := (64, [vR 1, vI x1, vI x2, vI x3, vI x4, vI (v.1 + (-1:Int32))], [], (H1x36 s v.2 e0 y287))) rfl ?_
  have E288 : ((H1x36 s v.2 e0 y287) : QHeap) = (H1 s (s_keys v.2 y287) e0) := by simp only [fs, H1, H1v, H1x36, s_keys]
  rw [E288]
  obtain rfl := Option.some.inj h
  exact zM [tt,tt,tt,tt,tt,tt] (hc ((v.1 + (-1:Int32)), (s_keys v.2 y287)) rfl)
 ·refine zT Ad W (t := 97) (f := 71) rfl (XT.ii_le_t hc285) ?_
  obtain rfl := Option.some.inj h
  exact zM [tt,tt,tt,tt,tt,ff] (hx0 v.2 rfl)
def J18_61 (o : Ob) (x1 : Int32) (x2 : Int32) (x3 : Int32) (x4 : Int32) : Option (Int32 × Ob) :=
  (loopN (B18_64 x1 x2 x3 x4) qN (x2, o)).bind fun e289 => (aset (f_keys e289) (x1 + x4) x3).bind fun y291 => some ((x2 + (1 : Int32)), (s_keys e289 y291))
theorem tJ18_61 (Ad : QAd n0 ad) (W : QW Z a0) (s : List Int32) (e0 : Ob) (o : Ob) (x1 : Int32) (x2 : Int32) (x3 : Int32) (x4 : Int32) {r : Int32 × Ob} (h : J18_61 o x1 x2 x3 x4 = some r) : QTri l Z n0 ad 18 (61, [vR 1, vI x1, vI x2, vI x3, vI x4, none], [], (H1 s o e0)) (some (Value.int r.1)) (H1 s r.2 e0) := by
 unfold J18_61 at h
 refine zS Ad W 2 (st' := (64, [vR 1, vI x1, vI x2, vI x3, vI x4, vI x2], [], (H1 s o e0))) rfl ?_
 obtain ⟨e289, he289, h⟩ := bind_eq_some_iff.mp h
 refine zM [tt,tt,tt,tt,tt,tt] (loopN_tri (B := B18_64 x1 x2 x3 x4) (T := fun lv290 => QTri l Z n0 ad 18 (64, [vR 1, vI x1, vI x2, vI x3, vI x4, vI lv290.1], [], (H1 s lv290.2 e0)) (some (Value.int r.1)) (H1 s r.2 e0)) (KE := fun e289a => QTri l Z n0 ad 18 (97, [vR 1, vI x1, vI x2, vI x3, vI x4, none], [], (H1 s e289a e0)) (some (Value.int r.1)) (H1 s r.2 e0)) (fun lv290 r hB hE hC => tB18_64 Ad W s e0 x1 x2 x3 x4 lv290 hB (fun x q => hE _ q) (fun x q => hC x q)) qN (x2, o) e289 he289 ?_)
 refine zS Ad W 6 (st' := (106, [vR 1, vI x1, vI x2, vI x3, vI x4, none], [.int x3, .int (x1 + x4), .ref 9], (H1 s e289 e0))) rfl ?_
 obtain ⟨y291, hy291, h⟩ := bind_eq_some_iff.mp h
 refine zB Ad W (f := fun y291 => (107, [vR 1, vI x1, vI x2, vI x3, vI x4, none], [], (H1x36 s e289 e0 y291))) rfl hy291 ?_
 refine zS Ad W 3 (st' := (110, [vR 1, vI x1, vI x2, vI x3, vI x4, none], [.int (x2 + (1:Int32))], (H1x36 s e289 e0 y291))) rfl ?_
 have E292 : ((H1x36 s e289 e0 y291) : QHeap) = (H1 s (s_keys e289 y291) e0) := by simp only [fs, H1, H1v, H1x36, s_keys]
 rw [E292]
 obtain rfl := Option.some.inj h
 exact QTri.retI rfl rfl
def J18_40 (o : Ob) (x1 : Int32) (x2 : Int32) (x3 : Int32) (x4 : Int32) : Option (Int32 × Ob) :=
  (if x4 < x2 then (aget (f_keys o) (x1 + x4)).bind fun y283 => (if y283 = x3 then some (x2, o) else (J18_61 o x1 x2 x3 x4)) else (J18_61 o x1 x2 x3 x4))
theorem tJ18_40 (Ad : QAd n0 ad) (W : QW Z a0) (s : List Int32) (e0 : Ob) (o : Ob) (x1 : Int32) (x2 : Int32) (x3 : Int32) (x4 : Int32) {r : Int32 × Ob} (h : J18_40 o x1 x2 x3 x4 = some r) : QTri l Z n0 ad 18 (40, [vR 1, vI x1, vI x2, vI x3, vI x4, none], [], (H1 s o e0)) (some (Value.int r.1)) (H1 s r.2 e0) := by
 unfold J18_40 at h
 refine zS Ad W 2 (st' := (43, [vR 1, vI x1, vI x2, vI x3, vI x4, none], [.int x2, .int x4], (H1 s o e0))) rfl ?_
 rcases qite h with ⟨hc282, h⟩ | ⟨hc282, h⟩
 ·refine zF Ad W (t := 61) (f := 46) rfl (XT.ii_ge_f hc282) ?_
  refine zS Ad W 5 (st' := (54, [vR 1, vI x1, vI x2, vI x3, vI x4, none], [.int (x1 + x4), .ref 9], (H1 s o e0))) rfl ?_
  obtain ⟨y283, hy283, h⟩ := bind_eq_some_iff.mp h
  refine zB Ad W (f := fun y283 => (55, [vR 1, vI x1, vI x2, vI x3, vI x4, none], [.int y283], (H1 s o e0))) rfl hy283 ?_
  refine zS Ad W 1 (st' := (56, [vR 1, vI x1, vI x2, vI x3, vI x4, none], [.int x3, .int y283], (H1 s o e0))) rfl ?_
  rcases qite h with ⟨hc284, h⟩ | ⟨hc284, h⟩
  ·refine zF Ad W (t := 61) (f := 59) rfl (XT.ii_ne_f hc284) ?_
   refine zS Ad W 1 (st' := (60, [vR 1, vI x1, vI x2, vI x3, vI x4, none], [.int x2], (H1 s o e0))) rfl ?_
   obtain rfl := Option.some.inj h
   exact QTri.retI rfl rfl
  ·refine zT Ad W (t := 61) (f := 59) rfl (XT.ii_ne_t hc284) ?_
   exact zM [tt,tt,tt,tt,tt,ff] (tJ18_61 Ad W s e0 o x1 x2 x3 x4 h)
 ·refine zT Ad W (t := 61) (f := 46) rfl (XT.ii_ge_t hc282) ?_
  exact zM [tt,tt,tt,tt,tt,ff] (tJ18_61 Ad W s e0 o x1 x2 x3 x4 h)
/-- insertKey(III)I -/
def F18 (o : Ob) (x1 : Int32) (x2 : Int32) (x3 : Int32) : Option (Int32 × Ob) :=
 (if x2 < (0:Int32) then some (x2, o) else (if x2 < (32:Int32) then (loopN (B18_15 o x1 x2 x3) qN (0:Int32)).bind fun e280 => (J18_40 o x1 x2 x3 e280) else some (x2, o)))
theorem tF18 (Ad : QAd n0 ad) (W : QW Z a0) (s : List Int32) (e0 : Ob) (o : Ob) (x1 : Int32) (x2 : Int32) (x3 : Int32) {r : Int32 × Ob} (h : F18 o x1 x2 x3 = some r) : QTri l Z n0 ad 18 (0, qentry [.ref 1, .int x1, .int x2, .int x3] (pMaxL 18), [], (H1 s o e0)) (some (Value.int r.1)) (H1 s r.2 e0) := by
 unfold F18 at h
 refine zS Ad W 1 (st' := (1, [vR 1, vI x1, vI x2, vI x3, none, none], [.int x2], (H1 s o e0))) rfl ?_
 rcases qite h with ⟨hc275, h⟩ | ⟨hc275, h⟩
 ·refine zT Ad W (t := 10) (f := 4) rfl (XT.i0_lt_t hc275) ?_
  refine zS Ad W 1 (st' := (11, [vR 1, vI x1, vI x2, vI x3, none, none], [.int x2], (H1 s o e0))) rfl ?_
  obtain rfl := Option.some.inj h
  exact QTri.retI rfl rfl
 ·refine zF Ad W (t := 10) (f := 4) rfl (XT.i0_lt_f hc275) ?_
  refine zS Ad W 2 (st' := (7, [vR 1, vI x1, vI x2, vI x3, none, none], [.int (32:Int32), .int x2], (H1 s o e0))) rfl ?_
  rcases qite h with ⟨hc276, h⟩ | ⟨hc276, h⟩
  ·refine zT Ad W (t := 12) (f := 10) rfl (XT.ii_lt_t hc276) ?_
   refine zS Ad W 2 (st' := (15, [vR 1, vI x1, vI x2, vI x3, vI (0:Int32), none], [], (H1 s o e0))) rfl ?_
   obtain ⟨e280, he280, h⟩ := bind_eq_some_iff.mp h
   refine zM [tt,tt,tt,tt,tt,ff] (loopN_tri (B := B18_15 o x1 x2 x3) (T := fun lv281 => QTri l Z n0 ad 18 (15, [vR 1, vI x1, vI x2, vI x3, vI lv281, none], [], (H1 s o e0)) (some (Value.int r.1)) (H1 s r.2 e0)) (KE := fun e280a => QTri l Z n0 ad 18 (40, [vR 1, vI x1, vI x2, vI x3, vI e280a, none], [], (H1 s o e0)) (some (Value.int r.1)) (H1 s r.2 e0)) (fun lv281 r hB hE hC => tB18_15 Ad W s e0 o x1 x2 x3 lv281 hB (fun x q => hE _ q) (fun x q => hC x q)) qN (0:Int32) e280 he280 ?_)
   exact zM [tt,tt,tt,tt,tt,ff] (tJ18_40 Ad W s e0 o x1 x2 x3 e280 h)
  ·refine zF Ad W (t := 12) (f := 10) rfl (XT.ii_lt_f hc276) ?_
   refine zS Ad W 1 (st' := (11, [vR 1, vI x1, vI x2, vI x3, none, none], [.int x2], (H1 s o e0))) rfl ?_
   obtain rfl := Option.some.inj h
   exact QTri.retI rfl rfl
def B17_5 (x1 : Int32) (x2 : Int32) (v : Int32 × Int32 × Ob) : Option (((Int32 × Ob)) ⊕ (Int32 × Int32 × Ob)) :=
  (if v.2.1 < (f_nRows v.2.2) then (aget (f_filled v.2.2) v.2.1).bind fun y272 => (if y272 = (0 : Int32) then (J17_42 v.2.2 x1 x2 v.1 v.2.1) else (aget (f_data v.2.2) ((v.2.1 * (4 : Int32)) + x1)).bind fun y274 => (F18 v.2.2 x2 v.1 y274).bind fun r293 => (J17_42 r293.2 x1 x2 r293.1 v.2.1)) else some (.inl (v.1, v.2.2)))
theorem tB17_5 (Ad : QAd n0 ad) (W : QW Z a0) (s : List Int32) (e0 : Ob) (x1 : Int32) (x2 : Int32) (v : Int32 × Int32 × Ob) {r : ((Int32 × Ob)) ⊕ (Int32 × Int32 × Ob)} {u : Option Value} {τ : QHeap} (h : B17_5 x1 x2 v = some r) (hx0 : ∀ x : Int32 × Ob, r = .inl x → u = (some (Value.int x.1)) ∧ τ = (H1 s x.2 e0)) (hc : ∀ x : Int32 × Int32 × Ob, r = .inr x → QTri l Z n0 ad 17 (5, [vR 1, vI x1, vI x2, vI x.1, vI x.2.1], [], (H1 s x.2.2 e0)) u τ) : QTri l Z n0 ad 17 (5, [vR 1, vI x1, vI x2, vI v.1, vI v.2.1], [], (H1 s v.2.2 e0)) u τ := by
 unfold B17_5 at h
 refine zS Ad W 3 (st' := (11, [vR 1, vI x1, vI x2, vI v.1, vI v.2.1], [.int (f_nRows v.2.2), .int v.2.1], (H1 s v.2.2 e0))) rfl ?_
 rcases qite h with ⟨hc271, h⟩ | ⟨hc271, h⟩
 ·refine zF Ad W (t := 48) (f := 14) rfl (XT.ii_ge_f hc271) ?_
  refine zS Ad W 3 (st' := (20, [vR 1, vI x1, vI x2, vI v.1, vI v.2.1], [.int v.2.1, .ref 3], (H1 s v.2.2 e0))) rfl ?_
  obtain ⟨y272, hy272, h⟩ := bind_eq_some_iff.mp h
  refine zB Ad W (f := fun y272 => (21, [vR 1, vI x1, vI x2, vI v.1, vI v.2.1], [.int y272], (H1 s v.2.2 e0))) rfl hy272 ?_
  rcases qite h with ⟨hc273, h⟩ | ⟨hc273, h⟩
  ·refine zT Ad W (t := 42) (f := 24) rfl (XT.i0_eq_t hc273) ?_
   exact zM [tt,tt,tt,tt,tt] (tJ17_42 Ad W s e0 v.2.2 x1 x2 v.1 v.2.1 h hx0 hc)
  ·refine zF Ad W (t := 42) (f := 24) rfl (XT.i0_eq_f hc273) ?_
   refine zS Ad W 10 (st' := (37, [vR 1, vI x1, vI x2, vI v.1, vI v.2.1], [.int ((v.2.1 * (4:Int32)) + x1), .ref 2, .int v.1, .int x2, .ref 1], (H1 s v.2.2 e0))) rfl ?_
   obtain ⟨y274, hy274, h⟩ := bind_eq_some_iff.mp h
   refine zB Ad W (f := fun y274 => (38, [vR 1, vI x1, vI x2, vI v.1, vI v.2.1], [.int y274, .int v.1, .int x2, .ref 1], (H1 s v.2.2 e0))) rfl hy274 ?_
   obtain ⟨r293, hr293, h⟩ := bind_eq_some_iff.mp h
   refine QTri.callP W (a := 1) (as := [.int x2, .int v.1, .int y274]) (rest := []) (w := (some (.int r293.1))) (σ₁ := (H1 s r293.2 e0)) rfl rfl rfl rfl rfl rfl rfl rfl (tF18 Ad W s e0 v.2.2 x2 v.1 y274 hr293) ?_
   refine zS Ad W 1 (st' := (42, [vR 1, vI x1, vI x2, vI r293.1, vI v.2.1], [], (H1 s r293.2 e0))) rfl ?_
   exact zM [tt,tt,tt,tt,tt] (tJ17_42 Ad W s e0 r293.2 x1 x2 r293.1 v.2.1 h hx0 hc)
 ·refine zT Ad W (t := 48) (f := 14) rfl (XT.ii_ge_t hc271) ?_
  refine zS Ad W 1 (st' := (49, [vR 1, vI x1, vI x2, vI v.1, vI v.2.1], [.int v.1], (H1 s v.2.2 e0))) rfl ?_
  obtain rfl := Option.some.inj h
  obtain ⟨rfl, rfl⟩ := hx0 (v.1, v.2.2) rfl
  exact QTri.retI rfl rfl
/-- buildKeys(II)I -/
def F17 (o : Ob) (x1 : Int32) (x2 : Int32) : Option (Int32 × Ob) :=
 (loopN (B17_5 x1 x2) qN ((0:Int32), (0:Int32), o)).bind fun e294 => some e294
theorem tF17 (Ad : QAd n0 ad) (W : QW Z a0) (s : List Int32) (e0 : Ob) (o : Ob) (x1 : Int32) (x2 : Int32) {r : Int32 × Ob} (h : F17 o x1 x2 = some r) : QTri l Z n0 ad 17 (0, qentry [.ref 1, .int x1, .int x2] (pMaxL 17), [], (H1 s o e0)) (some (Value.int r.1)) (H1 s r.2 e0) := by
 unfold F17 at h
 refine zS Ad W 4 (st' := (5, [vR 1, vI x1, vI x2, vI (0:Int32), vI (0:Int32)], [], (H1 s o e0))) rfl ?_
 obtain ⟨e294, he294, h⟩ := bind_eq_some_iff.mp h
 refine zM [tt,tt,tt,tt,tt] (loopN_tri (B := B17_5 x1 x2) (T := fun lv295 => QTri l Z n0 ad 17 (5, [vR 1, vI x1, vI x2, vI lv295.1, vI lv295.2.1], [], (H1 s lv295.2.2 e0)) (some (Value.int r.1)) (H1 s r.2 e0)) (KE := fun e294a => (some (Value.int r.1)) = (some (Value.int e294a.1)) ∧ (H1 s r.2 e0) = (H1 s e294a.2 e0)) (fun lv295 r hB hE hC => tB17_5 Ad W s e0 x1 x2 lv295 hB (fun x q => hE _ q) (fun x q => hC x q)) qN ((0:Int32), (0:Int32), o) e294 he294 ?_)
 obtain rfl := Option.some.inj h
 exact ⟨rfl, rfl⟩
/-- rowKeyCount()I -/
def F16 (o : Ob) : Option (Int32 × Ob) :=
 (F17 o (f_rf o) (0:Int32)).bind fun r296 => some (r296.1, r296.2)
theorem tF16 (Ad : QAd n0 ad) (W : QW Z a0) (s : List Int32) (e0 : Ob) (o : Ob) {r : Int32 × Ob} (h : F16 o = some r) : QTri l Z n0 ad 16 (0, qentry [.ref 1] (pMaxL 16), [], (H1 s o e0)) (some (Value.int r.1)) (H1 s r.2 e0) := by
 unfold F16 at h
 refine zS Ad W 4 (st' := (6, [vR 1], [.int (0:Int32), .int (f_rf o), .ref 1], (H1 s o e0))) rfl ?_
 obtain ⟨r296, hr296, h⟩ := bind_eq_some_iff.mp h
 refine QTri.callP W (a := 1) (as := [.int (f_rf o), .int (0:Int32)]) (rest := []) (w := (some (.int r296.1))) (σ₁ := (H1 s r296.2 e0)) rfl rfl rfl rfl rfl rfl rfl rfl (tF17 Ad W s e0 o (f_rf o) (0:Int32) hr296) ?_
 obtain rfl := Option.some.inj h
 exact QTri.retI rfl rfl
theorem tJ17_42a1 (Ad : QAd n0 ad) (W : QW Z a0) (s : List Int32) (e0 : Ob) (o : Ob) (x1 : Int32) (x2 : Int32) (x3 : Int32) (x4 : Int32) {r : ((Int32 × Ob)) ⊕ (Int32 × Int32 × Ob)} {u : Option Value} {τ : QHeap} (h : J17_42 o x1 x2 x3 x4 = some r) (hx0 : ∀ x : Int32 × Ob, r = .inl x → u = (some (Value.int x.1)) ∧ τ = (H1 s e0 x.2)) (hc : ∀ x : Int32 × Int32 × Ob, r = .inr x → QTri l Z n0 ad 17 (5, [vR 10, vI x1, vI x2, vI x.1, vI x.2.1], [], (H1 s e0 x.2.2)) u τ) : QTri l Z n0 ad 17 (42, [vR 10, vI x1, vI x2, vI x3, vI x4], [], (H1 s e0 o)) u τ := by
 unfold J17_42 at h
 refine zS Ad W 2 (st' := (5, [vR 10, vI x1, vI x2, vI x3, vI (x4 + (1:Int32))], [], (H1 s e0 o))) rfl ?_
 obtain rfl := Option.some.inj h
 exact zM [tt,tt,tt,tt,tt] (hc (x3, (x4 + (1:Int32)), o) rfl)
theorem tB18_15a1 (Ad : QAd n0 ad) (W : QW Z a0) (s : List Int32) (e0 : Ob) (o : Ob) (x1 : Int32) (x2 : Int32) (x3 : Int32) (v : Int32) {r : ((Int32)) ⊕ (Int32)} {u : Option Value} {τ : QHeap} (h : B18_15 o x1 x2 x3 v = some r) (hx0 : ∀ x : Int32, r = .inl x → QTri l Z n0 ad 18 (40, [vR 10, vI x1, vI x2, vI x3, vI x, none], [], (H1 s e0 o)) u τ) (hc : ∀ x : Int32, r = .inr x → QTri l Z n0 ad 18 (15, [vR 10, vI x1, vI x2, vI x3, vI x, none], [], (H1 s e0 o)) u τ) : QTri l Z n0 ad 18 (15, [vR 10, vI x1, vI x2, vI x3, vI v, none], [], (H1 s e0 o)) u τ := by
 unfold B18_15 at h
 refine zS Ad W 2 (st' := (18, [vR 10, vI x1, vI x2, vI x3, vI v, none], [.int x2, .int v], (H1 s e0 o))) rfl ?_
 rcases qite h with ⟨hc304, h⟩ | ⟨hc304, h⟩
 ·refine zF Ad W (t := 40) (f := 21) rfl (XT.ii_ge_f hc304) ?_
  refine zS Ad W 5 (st' := (29, [vR 10, vI x1, vI x2, vI x3, vI v, none], [.int (x1 + v), .ref 18], (H1 s e0 o))) rfl ?_
  obtain ⟨y305, hy305, h⟩ := bind_eq_some_iff.mp h
  refine zB Ad W (f := fun y305 => (30, [vR 10, vI x1, vI x2, vI x3, vI v, none], [.int y305], (H1 s e0 o))) rfl hy305 ?_
  refine zS Ad W 1 (st' := (31, [vR 10, vI x1, vI x2, vI x3, vI v, none], [.int x3, .int y305], (H1 s e0 o))) rfl ?_
  rcases qite h with ⟨hc306, h⟩ | ⟨hc306, h⟩
  ·refine zF Ad W (t := 40) (f := 34) rfl (XT.ii_ge_f hc306) ?_
   refine zS Ad W 2 (st' := (15, [vR 10, vI x1, vI x2, vI x3, vI (v + (1:Int32)), none], [], (H1 s e0 o))) rfl ?_
   obtain rfl := Option.some.inj h
   exact zM [tt,tt,tt,tt,tt,ff] (hc (v + (1:Int32)) rfl)
  ·refine zT Ad W (t := 40) (f := 34) rfl (XT.ii_ge_t hc306) ?_
   obtain rfl := Option.some.inj h
   exact zM [tt,tt,tt,tt,tt,ff] (hx0 v rfl)
 ·refine zT Ad W (t := 40) (f := 21) rfl (XT.ii_ge_t hc304) ?_
  obtain rfl := Option.some.inj h
  exact zM [tt,tt,tt,tt,tt,ff] (hx0 v rfl)
def H1x37 (s : List Int32) (o0 o1 : Ob) (a1_11 : List Int32) : QHeap := H1v s (f_data o0) (f_filled o0) (f_rf o0) (f_cf o0) (f_vf o0) (f_ag o0) (f_fMode o0) (f_fRk o0) (f_fCk o0) (f_prevVal o0) (f_prevFound o0) (f_keys o0) (f_nRows o0) (f_nForms o0) (f_last o0) (f_gVal o0) (f_gCount o0) (f_selUseR o0) (f_selRk o0) (f_selUseC o0) (f_selCk o0) (f_data o1) (f_filled o1) (f_rf o1) (f_cf o1) (f_vf o1) (f_ag o1) (f_fMode o1) (f_fRk o1) (f_fCk o1) (f_prevVal o1) (f_prevFound o1) a1_11 (f_nRows o1) (f_nForms o1) (f_last o1) (f_gVal o1) (f_gCount o1) (f_selUseR o1) (f_selRk o1) (f_selUseC o1) (f_selCk o1)
theorem tB18_64a1 (Ad : QAd n0 ad) (W : QW Z a0) (s : List Int32) (e0 : Ob) (x1 : Int32) (x2 : Int32) (x3 : Int32) (x4 : Int32) (v : Int32 × Ob) {r : ((Ob)) ⊕ (Int32 × Ob)} {u : Option Value} {τ : QHeap} (h : B18_64 x1 x2 x3 x4 v = some r) (hx0 : ∀ x : Ob, r = .inl x → QTri l Z n0 ad 18 (97, [vR 10, vI x1, vI x2, vI x3, vI x4, none], [], (H1 s e0 x)) u τ) (hc : ∀ x : Int32 × Ob, r = .inr x → QTri l Z n0 ad 18 (64, [vR 10, vI x1, vI x2, vI x3, vI x4, vI x.1], [], (H1 s e0 x.2)) u τ) : QTri l Z n0 ad 18 (64, [vR 10, vI x1, vI x2, vI x3, vI x4, vI v.1], [], (H1 s e0 v.2)) u τ := by
 unfold B18_64 at h
 refine zS Ad W 2 (st' := (68, [vR 10, vI x1, vI x2, vI x3, vI x4, vI v.1], [.int x4, .int v.1], (H1 s e0 v.2))) rfl ?_
 rcases qite h with ⟨hc312, h⟩ | ⟨hc312, h⟩
 ·refine zF Ad W (t := 97) (f := 71) rfl (XT.ii_le_f hc312) ?_
  refine zS Ad W 12 (st' := (89, [vR 10, vI x1, vI x2, vI x3, vI x4, vI v.1], [.int ((x1 + v.1) - (1:Int32)), .ref 18, .int (x1 + v.1), .ref 18], (H1 s e0 v.2))) rfl ?_
  obtain ⟨y313, hy313, h⟩ := bind_eq_some_iff.mp h
  refine zB Ad W (f := fun y313 => (90, [vR 10, vI x1, vI x2, vI x3, vI x4, vI v.1], [.int y313, .int (x1 + v.1), .ref 18], (H1 s e0 v.2))) rfl hy313 ?_
  obtain ⟨y314, hy314, h⟩ := bind_eq_some_iff.mp h
  refine zB Ad W (f := fun y314 => (91, [vR 10, vI x1, vI x2, vI x3, vI x4, vI v.1], [], (H1x37 s e0 v.2 y314))) rfl hy314 ?_
  refine zS Ad W 2 (st' := (64, [vR 10, vI x1, vI x2, vI x3, vI x4, vI (v.1 + (-1:Int32))], [], (H1x37 s e0 v.2 y314))) rfl ?_
  have E315 : ((H1x37 s e0 v.2 y314) : QHeap) = (H1 s e0 (s_keys v.2 y314)) := by simp only [fs, H1, H1v, H1x37, s_keys]
  rw [E315]
  obtain rfl := Option.some.inj h
  exact zM [tt,tt,tt,tt,tt,tt] (hc ((v.1 + (-1:Int32)), (s_keys v.2 y314)) rfl)
 ·refine zT Ad W (t := 97) (f := 71) rfl (XT.ii_le_t hc312) ?_
  obtain rfl := Option.some.inj h
  exact zM [tt,tt,tt,tt,tt,ff] (hx0 v.2 rfl)
theorem tJ18_61a1 (Ad : QAd n0 ad) (W : QW Z a0) (s : List Int32) (e0 : Ob) (o : Ob) (x1 : Int32) (x2 : Int32) (x3 : Int32) (x4 : Int32) {r : Int32 × Ob} (h : J18_61 o x1 x2 x3 x4 = some r) : QTri l Z n0 ad 18 (61, [vR 10, vI x1, vI x2, vI x3, vI x4, none], [], (H1 s e0 o)) (some (Value.int r.1)) (H1 s e0 r.2) := by
 unfold J18_61 at h
 refine zS Ad W 2 (st' := (64, [vR 10, vI x1, vI x2, vI x3, vI x4, vI x2], [], (H1 s e0 o))) rfl ?_
 obtain ⟨e316, he316, h⟩ := bind_eq_some_iff.mp h
 refine zM [tt,tt,tt,tt,tt,tt] (loopN_tri (B := B18_64 x1 x2 x3 x4) (T := fun lv317 => QTri l Z n0 ad 18 (64, [vR 10, vI x1, vI x2, vI x3, vI x4, vI lv317.1], [], (H1 s e0 lv317.2)) (some (Value.int r.1)) (H1 s e0 r.2)) (KE := fun e316a => QTri l Z n0 ad 18 (97, [vR 10, vI x1, vI x2, vI x3, vI x4, none], [], (H1 s e0 e316a)) (some (Value.int r.1)) (H1 s e0 r.2)) (fun lv317 r hB hE hC => tB18_64a1 Ad W s e0 x1 x2 x3 x4 lv317 hB (fun x q => hE _ q) (fun x q => hC x q)) qN (x2, o) e316 he316 ?_)
 refine zS Ad W 6 (st' := (106, [vR 10, vI x1, vI x2, vI x3, vI x4, none], [.int x3, .int (x1 + x4), .ref 18], (H1 s e0 e316))) rfl ?_
 obtain ⟨y318, hy318, h⟩ := bind_eq_some_iff.mp h
 refine zB Ad W (f := fun y318 => (107, [vR 10, vI x1, vI x2, vI x3, vI x4, none], [], (H1x37 s e0 e316 y318))) rfl hy318 ?_
 refine zS Ad W 3 (st' := (110, [vR 10, vI x1, vI x2, vI x3, vI x4, none], [.int (x2 + (1:Int32))], (H1x37 s e0 e316 y318))) rfl ?_
 have E319 : ((H1x37 s e0 e316 y318) : QHeap) = (H1 s e0 (s_keys e316 y318)) := by simp only [fs, H1, H1v, H1x37, s_keys]
 rw [E319]
 obtain rfl := Option.some.inj h
 exact QTri.retI rfl rfl
theorem tJ18_40a1 (Ad : QAd n0 ad) (W : QW Z a0) (s : List Int32) (e0 : Ob) (o : Ob) (x1 : Int32) (x2 : Int32) (x3 : Int32) (x4 : Int32) {r : Int32 × Ob} (h : J18_40 o x1 x2 x3 x4 = some r) : QTri l Z n0 ad 18 (40, [vR 10, vI x1, vI x2, vI x3, vI x4, none], [], (H1 s e0 o)) (some (Value.int r.1)) (H1 s e0 r.2) := by
 unfold J18_40 at h
 refine zS Ad W 2 (st' := (43, [vR 10, vI x1, vI x2, vI x3, vI x4, none], [.int x2, .int x4], (H1 s e0 o))) rfl ?_
 rcases qite h with ⟨hc309, h⟩ | ⟨hc309, h⟩
 ·refine zF Ad W (t := 61) (f := 46) rfl (XT.ii_ge_f hc309) ?_
  refine zS Ad W 5 (st' := (54, [vR 10, vI x1, vI x2, vI x3, vI x4, none], [.int (x1 + x4), .ref 18], (H1 s e0 o))) rfl ?_
  obtain ⟨y310, hy310, h⟩ := bind_eq_some_iff.mp h
  refine zB Ad W (f := fun y310 => (55, [vR 10, vI x1, vI x2, vI x3, vI x4, none], [.int y310], (H1 s e0 o))) rfl hy310 ?_
  refine zS Ad W 1 (st' := (56, [vR 10, vI x1, vI x2, vI x3, vI x4, none], [.int x3, .int y310], (H1 s e0 o))) rfl ?_
  rcases qite h with ⟨hc311, h⟩ | ⟨hc311, h⟩
  ·refine zF Ad W (t := 61) (f := 59) rfl (XT.ii_ne_f hc311) ?_
   refine zS Ad W 1 (st' := (60, [vR 10, vI x1, vI x2, vI x3, vI x4, none], [.int x2], (H1 s e0 o))) rfl ?_
   obtain rfl := Option.some.inj h
   exact QTri.retI rfl rfl
  ·refine zT Ad W (t := 61) (f := 59) rfl (XT.ii_ne_t hc311) ?_
   exact zM [tt,tt,tt,tt,tt,ff] (tJ18_61a1 Ad W s e0 o x1 x2 x3 x4 h)
 ·refine zT Ad W (t := 61) (f := 46) rfl (XT.ii_ge_t hc309) ?_
  exact zM [tt,tt,tt,tt,tt,ff] (tJ18_61a1 Ad W s e0 o x1 x2 x3 x4 h)
theorem tF18a1 (Ad : QAd n0 ad) (W : QW Z a0) (s : List Int32) (e0 : Ob) (o : Ob) (x1 : Int32) (x2 : Int32) (x3 : Int32) {r : Int32 × Ob} (h : F18 o x1 x2 x3 = some r) : QTri l Z n0 ad 18 (0, qentry [.ref 10, .int x1, .int x2, .int x3] (pMaxL 18), [], (H1 s e0 o)) (some (Value.int r.1)) (H1 s e0 r.2) := by
 unfold F18 at h
 refine zS Ad W 1 (st' := (1, [vR 10, vI x1, vI x2, vI x3, none, none], [.int x2], (H1 s e0 o))) rfl ?_
 rcases qite h with ⟨hc302, h⟩ | ⟨hc302, h⟩
 ·refine zT Ad W (t := 10) (f := 4) rfl (XT.i0_lt_t hc302) ?_
  refine zS Ad W 1 (st' := (11, [vR 10, vI x1, vI x2, vI x3, none, none], [.int x2], (H1 s e0 o))) rfl ?_
  obtain rfl := Option.some.inj h
  exact QTri.retI rfl rfl
 ·refine zF Ad W (t := 10) (f := 4) rfl (XT.i0_lt_f hc302) ?_
  refine zS Ad W 2 (st' := (7, [vR 10, vI x1, vI x2, vI x3, none, none], [.int (32:Int32), .int x2], (H1 s e0 o))) rfl ?_
  rcases qite h with ⟨hc303, h⟩ | ⟨hc303, h⟩
  ·refine zT Ad W (t := 12) (f := 10) rfl (XT.ii_lt_t hc303) ?_
   refine zS Ad W 2 (st' := (15, [vR 10, vI x1, vI x2, vI x3, vI (0:Int32), none], [], (H1 s e0 o))) rfl ?_
   obtain ⟨e307, he307, h⟩ := bind_eq_some_iff.mp h
   refine zM [tt,tt,tt,tt,tt,ff] (loopN_tri (B := B18_15 o x1 x2 x3) (T := fun lv308 => QTri l Z n0 ad 18 (15, [vR 10, vI x1, vI x2, vI x3, vI lv308, none], [], (H1 s e0 o)) (some (Value.int r.1)) (H1 s e0 r.2)) (KE := fun e307a => QTri l Z n0 ad 18 (40, [vR 10, vI x1, vI x2, vI x3, vI e307a, none], [], (H1 s e0 o)) (some (Value.int r.1)) (H1 s e0 r.2)) (fun lv308 r hB hE hC => tB18_15a1 Ad W s e0 o x1 x2 x3 lv308 hB (fun x q => hE _ q) (fun x q => hC x q)) qN (0:Int32) e307 he307 ?_)
   exact zM [tt,tt,tt,tt,tt,ff] (tJ18_40a1 Ad W s e0 o x1 x2 x3 e307 h)
  ·refine zF Ad W (t := 12) (f := 10) rfl (XT.ii_lt_f hc303) ?_
   refine zS Ad W 1 (st' := (11, [vR 10, vI x1, vI x2, vI x3, none, none], [.int x2], (H1 s e0 o))) rfl ?_
   obtain rfl := Option.some.inj h
   exact QTri.retI rfl rfl
theorem tB17_5a1 (Ad : QAd n0 ad) (W : QW Z a0) (s : List Int32) (e0 : Ob) (x1 : Int32) (x2 : Int32) (v : Int32 × Int32 × Ob) {r : ((Int32 × Ob)) ⊕ (Int32 × Int32 × Ob)} {u : Option Value} {τ : QHeap} (h : B17_5 x1 x2 v = some r) (hx0 : ∀ x : Int32 × Ob, r = .inl x → u = (some (Value.int x.1)) ∧ τ = (H1 s e0 x.2)) (hc : ∀ x : Int32 × Int32 × Ob, r = .inr x → QTri l Z n0 ad 17 (5, [vR 10, vI x1, vI x2, vI x.1, vI x.2.1], [], (H1 s e0 x.2.2)) u τ) : QTri l Z n0 ad 17 (5, [vR 10, vI x1, vI x2, vI v.1, vI v.2.1], [], (H1 s e0 v.2.2)) u τ := by
 unfold B17_5 at h
 refine zS Ad W 3 (st' := (11, [vR 10, vI x1, vI x2, vI v.1, vI v.2.1], [.int (f_nRows v.2.2), .int v.2.1], (H1 s e0 v.2.2))) rfl ?_
 rcases qite h with ⟨hc298, h⟩ | ⟨hc298, h⟩
 ·refine zF Ad W (t := 48) (f := 14) rfl (XT.ii_ge_f hc298) ?_
  refine zS Ad W 3 (st' := (20, [vR 10, vI x1, vI x2, vI v.1, vI v.2.1], [.int v.2.1, .ref 12], (H1 s e0 v.2.2))) rfl ?_
  obtain ⟨y299, hy299, h⟩ := bind_eq_some_iff.mp h
  refine zB Ad W (f := fun y299 => (21, [vR 10, vI x1, vI x2, vI v.1, vI v.2.1], [.int y299], (H1 s e0 v.2.2))) rfl hy299 ?_
  rcases qite h with ⟨hc300, h⟩ | ⟨hc300, h⟩
  ·refine zT Ad W (t := 42) (f := 24) rfl (XT.i0_eq_t hc300) ?_
   exact zM [tt,tt,tt,tt,tt] (tJ17_42a1 Ad W s e0 v.2.2 x1 x2 v.1 v.2.1 h hx0 hc)
  ·refine zF Ad W (t := 42) (f := 24) rfl (XT.i0_eq_f hc300) ?_
   refine zS Ad W 10 (st' := (37, [vR 10, vI x1, vI x2, vI v.1, vI v.2.1], [.int ((v.2.1 * (4:Int32)) + x1), .ref 11, .int v.1, .int x2, .ref 10], (H1 s e0 v.2.2))) rfl ?_
   obtain ⟨y301, hy301, h⟩ := bind_eq_some_iff.mp h
   refine zB Ad W (f := fun y301 => (38, [vR 10, vI x1, vI x2, vI v.1, vI v.2.1], [.int y301, .int v.1, .int x2, .ref 10], (H1 s e0 v.2.2))) rfl hy301 ?_
   obtain ⟨r320, hr320, h⟩ := bind_eq_some_iff.mp h
   refine QTri.callP W (a := 10) (as := [.int x2, .int v.1, .int y301]) (rest := []) (w := (some (.int r320.1))) (σ₁ := (H1 s e0 r320.2)) rfl rfl rfl rfl rfl rfl rfl rfl (tF18a1 Ad W s e0 v.2.2 x2 v.1 y301 hr320) ?_
   refine zS Ad W 1 (st' := (42, [vR 10, vI x1, vI x2, vI r320.1, vI v.2.1], [], (H1 s e0 r320.2))) rfl ?_
   exact zM [tt,tt,tt,tt,tt] (tJ17_42a1 Ad W s e0 r320.2 x1 x2 r320.1 v.2.1 h hx0 hc)
 ·refine zT Ad W (t := 48) (f := 14) rfl (XT.ii_ge_t hc298) ?_
  refine zS Ad W 1 (st' := (49, [vR 10, vI x1, vI x2, vI v.1, vI v.2.1], [.int v.1], (H1 s e0 v.2.2))) rfl ?_
  obtain rfl := Option.some.inj h
  obtain ⟨rfl, rfl⟩ := hx0 (v.1, v.2.2) rfl
  exact QTri.retI rfl rfl
theorem tF17a1 (Ad : QAd n0 ad) (W : QW Z a0) (s : List Int32) (e0 : Ob) (o : Ob) (x1 : Int32) (x2 : Int32) {r : Int32 × Ob} (h : F17 o x1 x2 = some r) : QTri l Z n0 ad 17 (0, qentry [.ref 10, .int x1, .int x2] (pMaxL 17), [], (H1 s e0 o)) (some (Value.int r.1)) (H1 s e0 r.2) := by
 unfold F17 at h
 refine zS Ad W 4 (st' := (5, [vR 10, vI x1, vI x2, vI (0:Int32), vI (0:Int32)], [], (H1 s e0 o))) rfl ?_
 obtain ⟨e321, he321, h⟩ := bind_eq_some_iff.mp h
 refine zM [tt,tt,tt,tt,tt] (loopN_tri (B := B17_5 x1 x2) (T := fun lv322 => QTri l Z n0 ad 17 (5, [vR 10, vI x1, vI x2, vI lv322.1, vI lv322.2.1], [], (H1 s e0 lv322.2.2)) (some (Value.int r.1)) (H1 s e0 r.2)) (KE := fun e321a => (some (Value.int r.1)) = (some (Value.int e321a.1)) ∧ (H1 s e0 r.2) = (H1 s e0 e321a.2)) (fun lv322 r hB hE hC => tB17_5a1 Ad W s e0 x1 x2 lv322 hB (fun x q => hE _ q) (fun x q => hC x q)) qN ((0:Int32), (0:Int32), o) e321 he321 ?_)
 obtain rfl := Option.some.inj h
 exact ⟨rfl, rfl⟩
theorem tF16a1 (Ad : QAd n0 ad) (W : QW Z a0) (s : List Int32) (e0 : Ob) (o : Ob) {r : Int32 × Ob} (h : F16 o = some r) : QTri l Z n0 ad 16 (0, qentry [.ref 10] (pMaxL 16), [], (H1 s e0 o)) (some (Value.int r.1)) (H1 s e0 r.2) := by
 unfold F16 at h
 refine zS Ad W 4 (st' := (6, [vR 10], [.int (0:Int32), .int (f_rf o), .ref 10], (H1 s e0 o))) rfl ?_
 obtain ⟨r323, hr323, h⟩ := bind_eq_some_iff.mp h
 refine QTri.callP W (a := 10) (as := [.int (f_rf o), .int (0:Int32)]) (rest := []) (w := (some (.int r323.1))) (σ₁ := (H1 s e0 r323.2)) rfl rfl rfl rfl rfl rfl rfl rfl (tF17a1 Ad W s e0 o (f_rf o) (0:Int32) hr323) ?_
 obtain rfl := Option.some.inj h
 exact QTri.retI rfl rfl
/-- colKeyCount()I -/
def F19 (o : Ob) : Option (Int32 × Ob) :=
 (F17 o (f_cf o) (32:Int32)).bind fun r326 => some (r326.1, r326.2)
theorem tF19 (Ad : QAd n0 ad) (W : QW Z a0) (s : List Int32) (e0 : Ob) (o : Ob) {r : Int32 × Ob} (h : F19 o = some r) : QTri l Z n0 ad 19 (0, qentry [.ref 1] (pMaxL 19), [], (H1 s o e0)) (some (Value.int r.1)) (H1 s r.2 e0) := by
 unfold F19 at h
 refine zS Ad W 4 (st' := (7, [vR 1], [.int (32:Int32), .int (f_cf o), .ref 1], (H1 s o e0))) rfl ?_
 obtain ⟨r326, hr326, h⟩ := bind_eq_some_iff.mp h
 refine QTri.callP W (a := 1) (as := [.int (f_cf o), .int (32:Int32)]) (rest := []) (w := (some (.int r326.1))) (σ₁ := (H1 s r326.2 e0)) rfl rfl rfl rfl rfl rfl rfl rfl (tF17 Ad W s e0 o (f_cf o) (32:Int32) hr326) ?_
 obtain rfl := Option.some.inj h
 exact QTri.retI rfl rfl
theorem tF19a1 (Ad : QAd n0 ad) (W : QW Z a0) (s : List Int32) (e0 : Ob) (o : Ob) {r : Int32 × Ob} (h : F19 o = some r) : QTri l Z n0 ad 19 (0, qentry [.ref 10] (pMaxL 19), [], (H1 s e0 o)) (some (Value.int r.1)) (H1 s e0 r.2) := by
 unfold F19 at h
 refine zS Ad W 4 (st' := (7, [vR 10], [.int (32:Int32), .int (f_cf o), .ref 10], (H1 s e0 o))) rfl ?_
 obtain ⟨r328, hr328, h⟩ := bind_eq_some_iff.mp h
 refine QTri.callP W (a := 10) (as := [.int (f_cf o), .int (32:Int32)]) (rest := []) (w := (some (.int r328.1))) (σ₁ := (H1 s e0 r328.2)) rfl rfl rfl rfl rfl rfl rfl rfl (tF17a1 Ad W s e0 o (f_cf o) (32:Int32) hr328) ?_
 obtain rfl := Option.some.inj h
 exact QTri.retI rfl rfl
/-- rowKey(I)I -/
def F20 (o : Ob) (x1 : Int32) : Option (Int32 × Ob) :=
 (F17 o (f_rf o) (0:Int32)).bind fun r332 => (if x1 < (0:Int32) then some ((0:Int32), r332.2) else (if x1 < r332.1 then (aget (f_keys r332.2) x1).bind fun y335 => some (y335, r332.2) else some ((0:Int32), r332.2)))
theorem tF20 (Ad : QAd n0 ad) (W : QW Z a0) (s : List Int32) (e0 : Ob) (o : Ob) (x1 : Int32) {r : Int32 × Ob} (h : F20 o x1 = some r) : QTri l Z n0 ad 20 (0, qentry [.ref 1, .int x1] (pMaxL 20), [], (H1 s o e0)) (some (Value.int r.1)) (H1 s r.2 e0) := by
 unfold F20 at h
 refine zS Ad W 4 (st' := (6, [vR 1, vI x1, none], [.int (0:Int32), .int (f_rf o), .ref 1], (H1 s o e0))) rfl ?_
 obtain ⟨r332, hr332, h⟩ := bind_eq_some_iff.mp h
 refine QTri.callP W (a := 1) (as := [.int (f_rf o), .int (0:Int32)]) (rest := []) (w := (some (.int r332.1))) (σ₁ := (H1 s r332.2 e0)) rfl rfl rfl rfl rfl rfl rfl rfl (tF17 Ad W s e0 o (f_rf o) (0:Int32) hr332) ?_
 refine zS Ad W 2 (st' := (11, [vR 1, vI x1, vI r332.1], [.int x1], (H1 s r332.2 e0))) rfl ?_
 rcases qite h with ⟨hc333, h⟩ | ⟨hc333, h⟩
 ·refine zT Ad W (t := 19) (f := 14) rfl (XT.i0_lt_t hc333) ?_
  refine zS Ad W 1 (st' := (20, [vR 1, vI x1, vI r332.1], [.int (0:Int32)], (H1 s r332.2 e0))) rfl ?_
  obtain rfl := Option.some.inj h
  exact QTri.retI rfl rfl
 ·refine zF Ad W (t := 19) (f := 14) rfl (XT.i0_lt_f hc333) ?_
  refine zS Ad W 2 (st' := (16, [vR 1, vI x1, vI r332.1], [.int r332.1, .int x1], (H1 s r332.2 e0))) rfl ?_
  rcases qite h with ⟨hc334, h⟩ | ⟨hc334, h⟩
  ·refine zT Ad W (t := 21) (f := 19) rfl (XT.ii_lt_t hc334) ?_
   refine zS Ad W 3 (st' := (26, [vR 1, vI x1, vI r332.1], [.int x1, .ref 9], (H1 s r332.2 e0))) rfl ?_
   obtain ⟨y335, hy335, h⟩ := bind_eq_some_iff.mp h
   refine zB Ad W (f := fun y335 => (27, [vR 1, vI x1, vI r332.1], [.int y335], (H1 s r332.2 e0))) rfl hy335 ?_
   obtain rfl := Option.some.inj h
   exact QTri.retI rfl rfl
  ·refine zF Ad W (t := 21) (f := 19) rfl (XT.ii_lt_f hc334) ?_
   refine zS Ad W 1 (st' := (20, [vR 1, vI x1, vI r332.1], [.int (0:Int32)], (H1 s r332.2 e0))) rfl ?_
   obtain rfl := Option.some.inj h
   exact QTri.retI rfl rfl
theorem tF20a1 (Ad : QAd n0 ad) (W : QW Z a0) (s : List Int32) (e0 : Ob) (o : Ob) (x1 : Int32) {r : Int32 × Ob} (h : F20 o x1 = some r) : QTri l Z n0 ad 20 (0, qentry [.ref 10, .int x1] (pMaxL 20), [], (H1 s e0 o)) (some (Value.int r.1)) (H1 s e0 r.2) := by
 unfold F20 at h
 refine zS Ad W 4 (st' := (6, [vR 10, vI x1, none], [.int (0:Int32), .int (f_rf o), .ref 10], (H1 s e0 o))) rfl ?_
 obtain ⟨r337, hr337, h⟩ := bind_eq_some_iff.mp h
 refine QTri.callP W (a := 10) (as := [.int (f_rf o), .int (0:Int32)]) (rest := []) (w := (some (.int r337.1))) (σ₁ := (H1 s e0 r337.2)) rfl rfl rfl rfl rfl rfl rfl rfl (tF17a1 Ad W s e0 o (f_rf o) (0:Int32) hr337) ?_
 refine zS Ad W 2 (st' := (11, [vR 10, vI x1, vI r337.1], [.int x1], (H1 s e0 r337.2))) rfl ?_
 rcases qite h with ⟨hc338, h⟩ | ⟨hc338, h⟩
 ·refine zT Ad W (t := 19) (f := 14) rfl (XT.i0_lt_t hc338) ?_
  refine zS Ad W 1 (st' := (20, [vR 10, vI x1, vI r337.1], [.int (0:Int32)], (H1 s e0 r337.2))) rfl ?_
  obtain rfl := Option.some.inj h
  exact QTri.retI rfl rfl
 ·refine zF Ad W (t := 19) (f := 14) rfl (XT.i0_lt_f hc338) ?_
  refine zS Ad W 2 (st' := (16, [vR 10, vI x1, vI r337.1], [.int r337.1, .int x1], (H1 s e0 r337.2))) rfl ?_
  rcases qite h with ⟨hc339, h⟩ | ⟨hc339, h⟩
  ·refine zT Ad W (t := 21) (f := 19) rfl (XT.ii_lt_t hc339) ?_
   refine zS Ad W 3 (st' := (26, [vR 10, vI x1, vI r337.1], [.int x1, .ref 18], (H1 s e0 r337.2))) rfl ?_
   obtain ⟨y340, hy340, h⟩ := bind_eq_some_iff.mp h
   refine zB Ad W (f := fun y340 => (27, [vR 10, vI x1, vI r337.1], [.int y340], (H1 s e0 r337.2))) rfl hy340 ?_
   obtain rfl := Option.some.inj h
   exact QTri.retI rfl rfl
  ·refine zF Ad W (t := 21) (f := 19) rfl (XT.ii_lt_f hc339) ?_
   refine zS Ad W 1 (st' := (20, [vR 10, vI x1, vI r337.1], [.int (0:Int32)], (H1 s e0 r337.2))) rfl ?_
   obtain rfl := Option.some.inj h
   exact QTri.retI rfl rfl
/-- colKey(I)I -/
def F21 (o : Ob) (x1 : Int32) : Option (Int32 × Ob) :=
 (F17 o (f_cf o) (32:Int32)).bind fun r343 => (if x1 < (0:Int32) then some ((0:Int32), r343.2) else (if x1 < r343.1 then (aget (f_keys r343.2) ((32:Int32) + x1)).bind fun y346 => some (y346, r343.2) else some ((0:Int32), r343.2)))
theorem tF21 (Ad : QAd n0 ad) (W : QW Z a0) (s : List Int32) (e0 : Ob) (o : Ob) (x1 : Int32) {r : Int32 × Ob} (h : F21 o x1 = some r) : QTri l Z n0 ad 21 (0, qentry [.ref 1, .int x1] (pMaxL 21), [], (H1 s o e0)) (some (Value.int r.1)) (H1 s r.2 e0) := by
 unfold F21 at h
 refine zS Ad W 4 (st' := (7, [vR 1, vI x1, none], [.int (32:Int32), .int (f_cf o), .ref 1], (H1 s o e0))) rfl ?_
 obtain ⟨r343, hr343, h⟩ := bind_eq_some_iff.mp h
 refine QTri.callP W (a := 1) (as := [.int (f_cf o), .int (32:Int32)]) (rest := []) (w := (some (.int r343.1))) (σ₁ := (H1 s r343.2 e0)) rfl rfl rfl rfl rfl rfl rfl rfl (tF17 Ad W s e0 o (f_cf o) (32:Int32) hr343) ?_
 refine zS Ad W 2 (st' := (12, [vR 1, vI x1, vI r343.1], [.int x1], (H1 s r343.2 e0))) rfl ?_
 rcases qite h with ⟨hc344, h⟩ | ⟨hc344, h⟩
 ·refine zT Ad W (t := 20) (f := 15) rfl (XT.i0_lt_t hc344) ?_
  refine zS Ad W 1 (st' := (21, [vR 1, vI x1, vI r343.1], [.int (0:Int32)], (H1 s r343.2 e0))) rfl ?_
  obtain rfl := Option.some.inj h
  exact QTri.retI rfl rfl
 ·refine zF Ad W (t := 20) (f := 15) rfl (XT.i0_lt_f hc344) ?_
  refine zS Ad W 2 (st' := (17, [vR 1, vI x1, vI r343.1], [.int r343.1, .int x1], (H1 s r343.2 e0))) rfl ?_
  rcases qite h with ⟨hc345, h⟩ | ⟨hc345, h⟩
  ·refine zT Ad W (t := 22) (f := 20) rfl (XT.ii_lt_t hc345) ?_
   refine zS Ad W 5 (st' := (30, [vR 1, vI x1, vI r343.1], [.int ((32:Int32) + x1), .ref 9], (H1 s r343.2 e0))) rfl ?_
   obtain ⟨y346, hy346, h⟩ := bind_eq_some_iff.mp h
   refine zB Ad W (f := fun y346 => (31, [vR 1, vI x1, vI r343.1], [.int y346], (H1 s r343.2 e0))) rfl hy346 ?_
   obtain rfl := Option.some.inj h
   exact QTri.retI rfl rfl
  ·refine zF Ad W (t := 22) (f := 20) rfl (XT.ii_lt_f hc345) ?_
   refine zS Ad W 1 (st' := (21, [vR 1, vI x1, vI r343.1], [.int (0:Int32)], (H1 s r343.2 e0))) rfl ?_
   obtain rfl := Option.some.inj h
   exact QTri.retI rfl rfl
theorem tF21a1 (Ad : QAd n0 ad) (W : QW Z a0) (s : List Int32) (e0 : Ob) (o : Ob) (x1 : Int32) {r : Int32 × Ob} (h : F21 o x1 = some r) : QTri l Z n0 ad 21 (0, qentry [.ref 10, .int x1] (pMaxL 21), [], (H1 s e0 o)) (some (Value.int r.1)) (H1 s e0 r.2) := by
 unfold F21 at h
 refine zS Ad W 4 (st' := (7, [vR 10, vI x1, none], [.int (32:Int32), .int (f_cf o), .ref 10], (H1 s e0 o))) rfl ?_
 obtain ⟨r348, hr348, h⟩ := bind_eq_some_iff.mp h
 refine QTri.callP W (a := 10) (as := [.int (f_cf o), .int (32:Int32)]) (rest := []) (w := (some (.int r348.1))) (σ₁ := (H1 s e0 r348.2)) rfl rfl rfl rfl rfl rfl rfl rfl (tF17a1 Ad W s e0 o (f_cf o) (32:Int32) hr348) ?_
 refine zS Ad W 2 (st' := (12, [vR 10, vI x1, vI r348.1], [.int x1], (H1 s e0 r348.2))) rfl ?_
 rcases qite h with ⟨hc349, h⟩ | ⟨hc349, h⟩
 ·refine zT Ad W (t := 20) (f := 15) rfl (XT.i0_lt_t hc349) ?_
  refine zS Ad W 1 (st' := (21, [vR 10, vI x1, vI r348.1], [.int (0:Int32)], (H1 s e0 r348.2))) rfl ?_
  obtain rfl := Option.some.inj h
  exact QTri.retI rfl rfl
 ·refine zF Ad W (t := 20) (f := 15) rfl (XT.i0_lt_f hc349) ?_
  refine zS Ad W 2 (st' := (17, [vR 10, vI x1, vI r348.1], [.int r348.1, .int x1], (H1 s e0 r348.2))) rfl ?_
  rcases qite h with ⟨hc350, h⟩ | ⟨hc350, h⟩
  ·refine zT Ad W (t := 22) (f := 20) rfl (XT.ii_lt_t hc350) ?_
   refine zS Ad W 5 (st' := (30, [vR 10, vI x1, vI r348.1], [.int ((32:Int32) + x1), .ref 18], (H1 s e0 r348.2))) rfl ?_
   obtain ⟨y351, hy351, h⟩ := bind_eq_some_iff.mp h
   refine zB Ad W (f := fun y351 => (31, [vR 10, vI x1, vI r348.1], [.int y351], (H1 s e0 r348.2))) rfl hy351 ?_
   obtain rfl := Option.some.inj h
   exact QTri.retI rfl rfl
  ·refine zF Ad W (t := 22) (f := 20) rfl (XT.ii_lt_f hc350) ?_
   refine zS Ad W 1 (st' := (21, [vR 10, vI x1, vI r348.1], [.int (0:Int32)], (H1 s e0 r348.2))) rfl ?_
   obtain rfl := Option.some.inj h
   exact QTri.retI rfl rfl
def H1x38 (s : List Int32) (o0 o1 : Ob) (a0_17 : Int32) : QHeap := H1v s (f_data o0) (f_filled o0) (f_rf o0) (f_cf o0) (f_vf o0) (f_ag o0) (f_fMode o0) (f_fRk o0) (f_fCk o0) (f_prevVal o0) (f_prevFound o0) (f_keys o0) (f_nRows o0) (f_nForms o0) (f_last o0) (f_gVal o0) (f_gCount o0) a0_17 (f_selRk o0) (f_selUseC o0) (f_selCk o0) (f_data o1) (f_filled o1) (f_rf o1) (f_cf o1) (f_vf o1) (f_ag o1) (f_fMode o1) (f_fRk o1) (f_fCk o1) (f_prevVal o1) (f_prevFound o1) (f_keys o1) (f_nRows o1) (f_nForms o1) (f_last o1) (f_gVal o1) (f_gCount o1) (f_selUseR o1) (f_selRk o1) (f_selUseC o1) (f_selCk o1)
def H1x39 (s : List Int32) (o0 o1 : Ob) (a0_18 : Int32) : QHeap := H1v s (f_data o0) (f_filled o0) (f_rf o0) (f_cf o0) (f_vf o0) (f_ag o0) (f_fMode o0) (f_fRk o0) (f_fCk o0) (f_prevVal o0) (f_prevFound o0) (f_keys o0) (f_nRows o0) (f_nForms o0) (f_last o0) (f_gVal o0) (f_gCount o0) (f_selUseR o0) a0_18 (f_selUseC o0) (f_selCk o0) (f_data o1) (f_filled o1) (f_rf o1) (f_cf o1) (f_vf o1) (f_ag o1) (f_fMode o1) (f_fRk o1) (f_fCk o1) (f_prevVal o1) (f_prevFound o1) (f_keys o1) (f_nRows o1) (f_nForms o1) (f_last o1) (f_gVal o1) (f_gCount o1) (f_selUseR o1) (f_selRk o1) (f_selUseC o1) (f_selCk o1)
def H1x40 (s : List Int32) (o0 o1 : Ob) (a0_18 : Int32) (a0_19 : Int32) : QHeap := H1v s (f_data o0) (f_filled o0) (f_rf o0) (f_cf o0) (f_vf o0) (f_ag o0) (f_fMode o0) (f_fRk o0) (f_fCk o0) (f_prevVal o0) (f_prevFound o0) (f_keys o0) (f_nRows o0) (f_nForms o0) (f_last o0) (f_gVal o0) (f_gCount o0) (f_selUseR o0) a0_18 a0_19 (f_selCk o0) (f_data o1) (f_filled o1) (f_rf o1) (f_cf o1) (f_vf o1) (f_ag o1) (f_fMode o1) (f_fRk o1) (f_fCk o1) (f_prevVal o1) (f_prevFound o1) (f_keys o1) (f_nRows o1) (f_nForms o1) (f_last o1) (f_gVal o1) (f_gCount o1) (f_selUseR o1) (f_selRk o1) (f_selUseC o1) (f_selCk o1)
def H1x41 (s : List Int32) (o0 o1 : Ob) (a0_20 : Int32) : QHeap := H1v s (f_data o0) (f_filled o0) (f_rf o0) (f_cf o0) (f_vf o0) (f_ag o0) (f_fMode o0) (f_fRk o0) (f_fCk o0) (f_prevVal o0) (f_prevFound o0) (f_keys o0) (f_nRows o0) (f_nForms o0) (f_last o0) (f_gVal o0) (f_gCount o0) (f_selUseR o0) (f_selRk o0) (f_selUseC o0) a0_20 (f_data o1) (f_filled o1) (f_rf o1) (f_cf o1) (f_vf o1) (f_ag o1) (f_fMode o1) (f_fRk o1) (f_fCk o1) (f_prevVal o1) (f_prevFound o1) (f_keys o1) (f_nRows o1) (f_nForms o1) (f_last o1) (f_gVal o1) (f_gCount o1) (f_selUseR o1) (f_selRk o1) (f_selUseC o1) (f_selCk o1)
def J23_125 (o : Ob) (w0 : Int32) : Option (Int32 × Ob) :=
  some ((1 : Int32), (s_selCk o w0))
theorem tJ23_125 (Ad : QAd n0 ad) (W : QW Z a0) (s : List Int32) (e0 : Ob) (o : Ob) (w0 : Int32) {r : Int32 × Ob} (h : J23_125 o w0 = some r) : QTri l Z n0 ad 23 (125, [none, none, none, none, none], [.int w0, .ref 1], (H1 s o e0)) (some (Value.int r.1)) (H1 s r.2 e0) := by
 unfold J23_125 at h
 refine zS Ad W 1 (st' := (128, [none, none, none, none, none], [], (H1x41 s o e0 w0))) rfl ?_
 refine zS Ad W 1 (st' := (129, [none, none, none, none, none], [.int (1:Int32)], (H1x41 s o e0 w0))) rfl ?_
 have E371 : ((H1x41 s o e0 w0) : QHeap) = (H1 s (s_selCk o w0) e0) := by simp only [fs, H1, H1v, H1x41, s_selCk]
 rw [E371]
 obtain rfl := Option.some.inj h
 exact QTri.retZ rfl rfl
def J23_87 (o : Ob) (x2 : Int32) (w0 : Int32) : Option (Int32 × Ob) :=
  (qboo (if x2 = (-1 : Int32) then (0 : Int32) else (1 : Int32))).bind fun y368 => (if y368 = (0 : Int32) then (J23_125 (s_selUseC (s_selRk o w0) y368) (0 : Int32)) else (aget (f_keys o) ((32 : Int32) + x2)).bind fun y372 => (J23_125 (s_selUseC (s_selRk o w0) y368) y372))
theorem tJ23_87 (Ad : QAd n0 ad) (W : QW Z a0) (s : List Int32) (e0 : Ob) (o : Ob) (x2 : Int32) (w0 : Int32) {r : Int32 × Ob} (h : J23_87 o x2 w0 = some r) : QTri l Z n0 ad 23 (87, [vR 1, none, vI x2, none, none], [.int w0, .ref 1], (H1 s o e0)) (some (Value.int r.1)) (H1 s r.2 e0) := by
 unfold J23_87 at h
 refine zS Ad W 1 (st' := (90, [vR 1, none, vI x2, none, none], [], (H1x39 s o e0 w0))) rfl ?_
 refine zS Ad W 3 (st' := (93, [vR 1, none, vI x2, none, none], [.int (-1:Int32), .int x2, .ref 1], (H1x39 s o e0 w0))) rfl ?_
 have K366 : ∀ z365 : Int32, z365 = (if x2 = (-1:Int32) then (0:Int32) else (1:Int32)) → QTri l Z n0 ad 23 (101, [vR 1, none, vI x2, none, none], [.int z365, .ref 1], (H1x39 s o e0 w0)) (some (Value.int r.1)) (H1 s r.2 e0) := by
  intro z365 ez365
  subst ez365
  obtain ⟨y368, hy368, h⟩ := bind_eq_some_iff.mp h
  refine QTri.bndB Ad W rfl hy368 ?_
  show QTri l Z n0 ad 23 (104, [vR 1, none, vI x2, none, none], [], (H1x40 s o e0 w0 y368)) (some (Value.int r.1)) (H1 s r.2 e0)
  refine zS Ad W 3 (st' := (109, [vR 1, none, vI x2, none, none], [.int y368, .ref 1], (H1x40 s o e0 w0 y368))) rfl ?_
  rcases qite h with ⟨hc369, h⟩ | ⟨hc369, h⟩
  ·refine zT Ad W (t := 124) (f := 112) rfl (XT.i0_eq_t hc369) ?_
   refine zS Ad W 1 (st' := (125, [vR 1, none, vI x2, none, none], [.int (0:Int32), .ref 1], (H1x40 s o e0 w0 y368))) rfl ?_
   have E370 : ((H1x40 s o e0 w0 y368) : QHeap) = (H1 s (s_selUseC (s_selRk o w0) y368) e0) := by simp only [fs, H1, H1v, H1x40, s_selRk, s_selUseC]
   rw [E370]
   exact zM [ff,ff,ff,ff,ff] (tJ23_125 Ad W s e0 (s_selUseC (s_selRk o w0) y368) (0:Int32) h)
  ·refine zF Ad W (t := 124) (f := 112) rfl (XT.i0_eq_f hc369) ?_
   refine zS Ad W 5 (st' := (120, [vR 1, none, vI x2, none, none], [.int ((32:Int32) + x2), .ref 9, .ref 1], (H1x40 s o e0 w0 y368))) rfl ?_
   obtain ⟨y372, hy372, h⟩ := bind_eq_some_iff.mp h
   refine zB Ad W (f := fun y372 => (121, [vR 1, none, vI x2, none, none], [.int y372, .ref 1], (H1x40 s o e0 w0 y368))) rfl hy372 ?_
   refine zS Ad W 1 (st' := (125, [vR 1, none, vI x2, none, none], [.int y372, .ref 1], (H1x40 s o e0 w0 y368))) rfl ?_
   have E373 : ((H1x40 s o e0 w0 y368) : QHeap) = (H1 s (s_selUseC (s_selRk o w0) y368) e0) := by simp only [fs, H1, H1v, H1x40, s_selRk, s_selUseC]
   rw [E373]
   exact zM [ff,ff,ff,ff,ff] (tJ23_125 Ad W s e0 (s_selUseC (s_selRk o w0) y368) y372 h)
 rcases em (x2 = (-1:Int32)) with hc367 | hc367
 ·refine zT Ad W (t := 100) (f := 96) rfl (XT.ii_eq_t hc367) ?_
  refine zS Ad W 1 (st' := (101, [vR 1, none, vI x2, none, none], [.int (0:Int32), .ref 1], (H1x39 s o e0 w0))) rfl ?_
  exact zM [tt,ff,tt,ff,ff] (K366 _ (if_pos hc367).symm)
 ·refine zF Ad W (t := 100) (f := 96) rfl (XT.ii_eq_f hc367) ?_
  refine zS Ad W 2 (st' := (101, [vR 1, none, vI x2, none, none], [.int (1:Int32), .ref 1], (H1x39 s o e0 w0))) rfl ?_
  exact zM [tt,ff,tt,ff,ff] (K366 _ (if_neg hc367).symm)
def J23_55 (o : Ob) (x1 : Int32) (x2 : Int32) : Option (Int32 × Ob) :=
  (qboo (if x1 = (-1 : Int32) then (0 : Int32) else (1 : Int32))).bind fun y362 => (if y362 = (0 : Int32) then (J23_87 (s_selUseR o y362) x2 (0 : Int32)) else (aget (f_keys o) x1).bind fun y374 => (J23_87 (s_selUseR o y362) x2 y374))
theorem tJ23_55 (Ad : QAd n0 ad) (W : QW Z a0) (s : List Int32) (e0 : Ob) (o : Ob) (x1 : Int32) (x2 : Int32) {r : Int32 × Ob} (h : J23_55 o x1 x2 = some r) : QTri l Z n0 ad 23 (55, [vR 1, vI x1, vI x2, none, none], [], (H1 s o e0)) (some (Value.int r.1)) (H1 s r.2 e0) := by
 unfold J23_55 at h
 refine zS Ad W 3 (st' := (58, [vR 1, vI x1, vI x2, none, none], [.int (-1:Int32), .int x1, .ref 1], (H1 s o e0))) rfl ?_
 have K360 : ∀ z359 : Int32, z359 = (if x1 = (-1:Int32) then (0:Int32) else (1:Int32)) → QTri l Z n0 ad 23 (66, [vR 1, vI x1, vI x2, none, none], [.int z359, .ref 1], (H1 s o e0)) (some (Value.int r.1)) (H1 s r.2 e0) := by
  intro z359 ez359
  subst ez359
  obtain ⟨y362, hy362, h⟩ := bind_eq_some_iff.mp h
  refine QTri.bndB Ad W rfl hy362 ?_
  show QTri l Z n0 ad 23 (69, [vR 1, vI x1, vI x2, none, none], [], (H1x38 s o e0 y362)) (some (Value.int r.1)) (H1 s r.2 e0)
  refine zS Ad W 3 (st' := (74, [vR 1, vI x1, vI x2, none, none], [.int y362, .ref 1], (H1x38 s o e0 y362))) rfl ?_
  rcases qite h with ⟨hc363, h⟩ | ⟨hc363, h⟩
  ·refine zT Ad W (t := 86) (f := 77) rfl (XT.i0_eq_t hc363) ?_
   refine zS Ad W 1 (st' := (87, [vR 1, vI x1, vI x2, none, none], [.int (0:Int32), .ref 1], (H1x38 s o e0 y362))) rfl ?_
   have E364 : ((H1x38 s o e0 y362) : QHeap) = (H1 s (s_selUseR o y362) e0) := by simp only [fs, H1, H1v, H1x38, s_selUseR]
   rw [E364]
   exact zM [tt,ff,tt,ff,ff] (tJ23_87 Ad W s e0 (s_selUseR o y362) x2 (0:Int32) h)
  ·refine zF Ad W (t := 86) (f := 77) rfl (XT.i0_eq_f hc363) ?_
   refine zS Ad W 3 (st' := (82, [vR 1, vI x1, vI x2, none, none], [.int x1, .ref 9, .ref 1], (H1x38 s o e0 y362))) rfl ?_
   obtain ⟨y374, hy374, h⟩ := bind_eq_some_iff.mp h
   refine zB Ad W (f := fun y374 => (83, [vR 1, vI x1, vI x2, none, none], [.int y374, .ref 1], (H1x38 s o e0 y362))) rfl hy374 ?_
   refine zS Ad W 1 (st' := (87, [vR 1, vI x1, vI x2, none, none], [.int y374, .ref 1], (H1x38 s o e0 y362))) rfl ?_
   have E375 : ((H1x38 s o e0 y362) : QHeap) = (H1 s (s_selUseR o y362) e0) := by simp only [fs, H1, H1v, H1x38, s_selUseR]
   rw [E375]
   exact zM [tt,ff,tt,ff,ff] (tJ23_87 Ad W s e0 (s_selUseR o y362) x2 y374 h)
 rcases em (x1 = (-1:Int32)) with hc361 | hc361
 ·refine zT Ad W (t := 65) (f := 61) rfl (XT.ii_eq_t hc361) ?_
  refine zS Ad W 1 (st' := (66, [vR 1, vI x1, vI x2, none, none], [.int (0:Int32), .ref 1], (H1 s o e0))) rfl ?_
  exact zM [tt,tt,tt,ff,ff] (K360 _ (if_pos hc361).symm)
 ·refine zF Ad W (t := 65) (f := 61) rfl (XT.ii_eq_f hc361) ?_
  refine zS Ad W 2 (st' := (66, [vR 1, vI x1, vI x2, none, none], [.int (1:Int32), .ref 1], (H1 s o e0))) rfl ?_
  exact zM [tt,tt,tt,ff,ff] (K360 _ (if_neg hc361).symm)
def J23_38 (o : Ob) (x1 : Int32) (x2 : Int32) (x4 : Int32) : Option (Int32 × Ob) :=
  (if x2 = (-1 : Int32) then (J23_55 o x1 x2) else (if x2 < (0 : Int32) then some ((0 : Int32), o) else (if x2 < x4 then (J23_55 o x1 x2) else some ((0 : Int32), o))))
theorem tJ23_38 (Ad : QAd n0 ad) (W : QW Z a0) (s : List Int32) (e0 : Ob) (o : Ob) (x1 : Int32) (x2 : Int32) (x4 : Int32) {r : Int32 × Ob} (h : J23_38 o x1 x2 x4 = some r) : QTri l Z n0 ad 23 (38, [vR 1, vI x1, vI x2, none, vI x4], [], (H1 s o e0)) (some (Value.int r.1)) (H1 s r.2 e0) := by
 unfold J23_38 at h
 refine zS Ad W 2 (st' := (40, [vR 1, vI x1, vI x2, none, vI x4], [.int (-1:Int32), .int x2], (H1 s o e0))) rfl ?_
 rcases qite h with ⟨hc358, h⟩ | ⟨hc358, h⟩
 ·refine zT Ad W (t := 55) (f := 43) rfl (XT.ii_eq_t hc358) ?_
  exact zM [tt,tt,tt,ff,ff] (tJ23_55 Ad W s e0 o x1 x2 h)
 ·refine zF Ad W (t := 55) (f := 43) rfl (XT.ii_eq_f hc358) ?_
  refine zS Ad W 1 (st' := (44, [vR 1, vI x1, vI x2, none, vI x4], [.int x2], (H1 s o e0))) rfl ?_
  rcases qite h with ⟨hc376, h⟩ | ⟨hc376, h⟩
  ·refine zT Ad W (t := 53) (f := 47) rfl (XT.i0_lt_t hc376) ?_
   refine zS Ad W 1 (st' := (54, [vR 1, vI x1, vI x2, none, vI x4], [.int (0:Int32)], (H1 s o e0))) rfl ?_
   obtain rfl := Option.some.inj h
   exact QTri.retZ rfl rfl
  ·refine zF Ad W (t := 53) (f := 47) rfl (XT.i0_lt_f hc376) ?_
   refine zS Ad W 2 (st' := (50, [vR 1, vI x1, vI x2, none, vI x4], [.int x4, .int x2], (H1 s o e0))) rfl ?_
   rcases qite h with ⟨hc377, h⟩ | ⟨hc377, h⟩
   ·refine zT Ad W (t := 55) (f := 53) rfl (XT.ii_lt_t hc377) ?_
    exact zM [tt,tt,tt,ff,ff] (tJ23_55 Ad W s e0 o x1 x2 h)
   ·refine zF Ad W (t := 55) (f := 53) rfl (XT.ii_lt_f hc377) ?_
    refine zS Ad W 1 (st' := (54, [vR 1, vI x1, vI x2, none, vI x4], [.int (0:Int32)], (H1 s o e0))) rfl ?_
    obtain rfl := Option.some.inj h
    exact QTri.retZ rfl rfl
/-- resolve(II)Z -/
def F23 (o : Ob) (x1 : Int32) (x2 : Int32) : Option (Int32 × Ob) :=
 (F17 o (f_rf o) (0:Int32)).bind fun r355 => (F17 r355.2 (f_cf r355.2) (32:Int32)).bind fun r356 => (if x1 = (-1:Int32) then (J23_38 r356.2 x1 x2 r356.1) else (if x1 < (0:Int32) then some ((0:Int32), r356.2) else (if x1 < r355.1 then (J23_38 r356.2 x1 x2 r356.1) else some ((0:Int32), r356.2))))
theorem tF23 (Ad : QAd n0 ad) (W : QW Z a0) (s : List Int32) (e0 : Ob) (o : Ob) (x1 : Int32) (x2 : Int32) {r : Int32 × Ob} (h : F23 o x1 x2 = some r) : QTri l Z n0 ad 23 (0, qentry [.ref 1, .int x1, .int x2] (pMaxL 23), [], (H1 s o e0)) (some (Value.int r.1)) (H1 s r.2 e0) := by
 unfold F23 at h
 refine zS Ad W 4 (st' := (6, [vR 1, vI x1, vI x2, none, none], [.int (0:Int32), .int (f_rf o), .ref 1], (H1 s o e0))) rfl ?_
 obtain ⟨r355, hr355, h⟩ := bind_eq_some_iff.mp h
 refine QTri.callP W (a := 1) (as := [.int (f_rf o), .int (0:Int32)]) (rest := []) (w := (some (.int r355.1))) (σ₁ := (H1 s r355.2 e0)) rfl rfl rfl rfl rfl rfl rfl rfl (tF17 Ad W s e0 o (f_rf o) (0:Int32) hr355) ?_
 refine zS Ad W 5 (st' := (17, [vR 1, vI x1, vI x2, vI r355.1, none], [.int (32:Int32), .int (f_cf r355.2), .ref 1], (H1 s r355.2 e0))) rfl ?_
 obtain ⟨r356, hr356, h⟩ := bind_eq_some_iff.mp h
 refine QTri.callP W (a := 1) (as := [.int (f_cf r355.2), .int (32:Int32)]) (rest := []) (w := (some (.int r356.1))) (σ₁ := (H1 s r356.2 e0)) rfl rfl rfl rfl rfl rfl rfl rfl (tF17 Ad W s e0 r355.2 (f_cf r355.2) (32:Int32) hr356) ?_
 refine zS Ad W 3 (st' := (24, [vR 1, vI x1, vI x2, vI r355.1, vI r356.1], [.int (-1:Int32), .int x1], (H1 s r356.2 e0))) rfl ?_
 rcases qite h with ⟨hc357, h⟩ | ⟨hc357, h⟩
 ·refine zT Ad W (t := 38) (f := 27) rfl (XT.ii_eq_t hc357) ?_
  exact zM [tt,tt,tt,ff,tt] (tJ23_38 Ad W s e0 r356.2 x1 x2 r356.1 h)
 ·refine zF Ad W (t := 38) (f := 27) rfl (XT.ii_eq_f hc357) ?_
  refine zS Ad W 1 (st' := (28, [vR 1, vI x1, vI x2, vI r355.1, vI r356.1], [.int x1], (H1 s r356.2 e0))) rfl ?_
  rcases qite h with ⟨hc378, h⟩ | ⟨hc378, h⟩
  ·refine zT Ad W (t := 36) (f := 31) rfl (XT.i0_lt_t hc378) ?_
   refine zS Ad W 1 (st' := (37, [vR 1, vI x1, vI x2, vI r355.1, vI r356.1], [.int (0:Int32)], (H1 s r356.2 e0))) rfl ?_
   obtain rfl := Option.some.inj h
   exact QTri.retZ rfl rfl
  ·refine zF Ad W (t := 36) (f := 31) rfl (XT.i0_lt_f hc378) ?_
   refine zS Ad W 2 (st' := (33, [vR 1, vI x1, vI x2, vI r355.1, vI r356.1], [.int r355.1, .int x1], (H1 s r356.2 e0))) rfl ?_
   rcases qite h with ⟨hc379, h⟩ | ⟨hc379, h⟩
   ·refine zT Ad W (t := 38) (f := 36) rfl (XT.ii_lt_t hc379) ?_
    exact zM [tt,tt,tt,ff,tt] (tJ23_38 Ad W s e0 r356.2 x1 x2 r356.1 h)
   ·refine zF Ad W (t := 38) (f := 36) rfl (XT.ii_lt_f hc379) ?_
    refine zS Ad W 1 (st' := (37, [vR 1, vI x1, vI x2, vI r355.1, vI r356.1], [.int (0:Int32)], (H1 s r356.2 e0))) rfl ?_
    obtain rfl := Option.some.inj h
    exact QTri.retZ rfl rfl
theorem tJ8_152a2 (Ad : QAd n0 ad) (W : QW Z a0) (s : List Int32) (e0 : Ob) (o : Ob) (x1 : Int32) (x2 : Int32) (x3 : Int32) (x4 : Int32) (x5 : Int32) (x6 : Int32) (x7 : Int32) (x8 : Int32) (x9 : Int32) {r : ((Int32 × Int32 × Int32 × Int32)) ⊕ (Int32 × Int32 × Int32 × Int32 × Int32)} {u : Option Value} {τ : QHeap} (h : J8_152 o x1 x2 x3 x4 x5 x6 x7 x8 x9 = some r) (hx0 : ∀ x : Int32 × Int32 × Int32 × Int32, r = .inl x → QTri l Z n0 ad 8 (158, [vR 1, none, none, none, none, vI x.1, vI x.2.1, vI x.2.2.1, vI x.2.2.2, none, none, none], [], (H1 s o e0)) u τ) (hc : ∀ x : Int32 × Int32 × Int32 × Int32 × Int32, r = .inr x → QTri l Z n0 ad 8 (15, [vR 1, vI x1, vI x2, vI x3, vI x4, vI x.1, vI x.2.1, vI x.2.2.1, vI x.2.2.2.1, vI x.2.2.2.2, none, none], [], (H1 s o e0)) u τ) : QTri l Z n0 ad 8 (152, [vR 1, vI x1, vI x2, vI x3, vI x4, vI x5, vI x6, vI x7, vI x8, vI x9, none, none], [], (H1 s o e0)) u τ := by
 unfold J8_152 at h
 refine zS Ad W 2 (st' := (15, [vR 1, vI x1, vI x2, vI x3, vI x4, vI x5, vI x6, vI x7, vI x8, vI (x9 + (1:Int32)), none, none], [], (H1 s o e0))) rfl ?_
 obtain rfl := Option.some.inj h
 exact zM [tt,tt,tt,tt,tt,tt,tt,tt,tt,tt,ff,ff] (hc (x5, x6, x7, x8, (x9 + (1:Int32))) rfl)
theorem tJ8_90a2 (Ad : QAd n0 ad) (W : QW Z a0) (s : List Int32) (e0 : Ob) (o : Ob) (x1 : Int32) (x2 : Int32) (x3 : Int32) (x4 : Int32) (x5 : Int32) (x6 : Int32) (x7 : Int32) (x8 : Int32) (x9 : Int32) (x10 : Int32) {r : ((Int32 × Int32 × Int32 × Int32)) ⊕ (Int32 × Int32 × Int32 × Int32 × Int32)} {u : Option Value} {τ : QHeap} (h : J8_90 o x1 x2 x3 x4 x5 x6 x7 x8 x9 x10 = some r) (hx0 : ∀ x : Int32 × Int32 × Int32 × Int32, r = .inl x → QTri l Z n0 ad 8 (158, [vR 1, none, none, none, none, vI x.1, vI x.2.1, vI x.2.2.1, vI x.2.2.2, none, none, none], [], (H1 s o e0)) u τ) (hc : ∀ x : Int32 × Int32 × Int32 × Int32 × Int32, r = .inr x → QTri l Z n0 ad 8 (15, [vR 1, vI x1, vI x2, vI x3, vI x4, vI x.1, vI x.2.1, vI x.2.2.1, vI x.2.2.2.1, vI x.2.2.2.2, none, none], [], (H1 s o e0)) u τ) : QTri l Z n0 ad 8 (90, [vR 1, vI x1, vI x2, vI x3, vI x4, vI x5, vI x6, vI x7, vI x8, vI x9, vI x10, none], [], (H1 s o e0)) u τ := by
 unfold J8_90 at h
 refine zS Ad W 6 (st' := (101, [vR 1, vI x1, vI x2, vI x3, vI x4, vI x5, vI x6, vI x7, vI x8, vI x9, vI x10, none], [.int (x10 + (f_vf o)), .ref 2], (H1 s o e0))) rfl ?_
 obtain ⟨y387, hy387, h⟩ := bind_eq_some_iff.mp h
 refine zB Ad W (f := fun y387 => (102, [vR 1, vI x1, vI x2, vI x3, vI x4, vI x5, vI x6, vI x7, vI x8, vI x9, vI x10, none], [.int y387], (H1 s o e0))) rfl hy387 ?_
 refine zS Ad W 2 (st' := (106, [vR 1, vI x1, vI x2, vI x3, vI x4, vI x5, vI x6, vI x7, vI x8, vI x9, vI x10, vI y387], [.int x6], (H1 s o e0))) rfl ?_
 have K390 : ∀ z388 : Int32, z388 = (if x6 = (0:Int32) then y387 else (if y387 < x7 then y387 else x7)) → ∀ z389 : Int32, z389 = (if x6 = (0:Int32) then y387 else (if x8 < y387 then y387 else x8)) → QTri l Z n0 ad 8 (142, [vR 1, vI x1, vI x2, vI x3, vI x4, vI x5, vI x6, vI z388, vI z389, vI x9, none, vI y387], [], (H1 s o e0)) u τ := by
  intro z388 ez388
  intro z389 ez389
  subst ez388
  subst ez389
  refine zS Ad W 5 (st' := (152, [vR 1, vI x1, vI x2, vI x3, vI x4, vI (x5 + y387), vI (x6 + (1:Int32)), vI (if x6 = (0:Int32) then y387 else (if y387 < x7 then y387 else x7)), vI (if x6 = (0:Int32) then y387 else (if x8 < y387 then y387 else x8)), vI x9, none, vI y387], [], (H1 s o e0))) rfl ?_
  exact zM [tt,tt,tt,tt,tt,tt,tt,tt,tt,tt,ff,ff] (tJ8_152a2 Ad W s e0 o x1 x2 x3 x4 (x5 + y387) (x6 + (1:Int32)) (if x6 = (0:Int32) then y387 else (if y387 < x7 then y387 else x7)) (if x6 = (0:Int32) then y387 else (if x8 < y387 then y387 else x8)) x9 h hx0 hc)
 rcases em (x6 = (0:Int32)) with hc391 | hc391
 ·refine zF Ad W (t := 120) (f := 109) rfl (XT.i0_ne_f hc391) ?_
  refine zS Ad W 4 (st' := (117, [vR 1, vI x1, vI x2, vI x3, vI x4, vI x5, vI x6, vI y387, vI y387, vI x9, vI x10, vI y387], [], (H1 s o e0))) rfl ?_
  refine zS Ad W 1 (st' := (142, [vR 1, vI x1, vI x2, vI x3, vI x4, vI x5, vI x6, vI y387, vI y387, vI x9, vI x10, vI y387], [], (H1 s o e0))) rfl ?_
  exact zM [tt,tt,tt,tt,tt,tt,tt,tt,tt,tt,ff,tt] (K390 _ (if_pos hc391).symm _ (if_pos hc391).symm)
 ·refine zT Ad W (t := 120) (f := 109) rfl (XT.i0_ne_t hc391) ?_
  refine zS Ad W 2 (st' := (124, [vR 1, vI x1, vI x2, vI x3, vI x4, vI x5, vI x6, vI x7, vI x8, vI x9, vI x10, vI y387], [.int x7, .int y387], (H1 s o e0))) rfl ?_
  rcases em (y387 < x7) with hc392 | hc392
  ·refine zF Ad W (t := 131) (f := 127) rfl (XT.ii_ge_f hc392) ?_
   refine zS Ad W 4 (st' := (135, [vR 1, vI x1, vI x2, vI x3, vI x4, vI x5, vI x6, vI y387, vI x8, vI x9, vI x10, vI y387], [.int x8, .int y387], (H1 s o e0))) rfl ?_
   rcases em (x8 < y387) with hc393 | hc393
   ·refine zF Ad W (t := 142) (f := 138) rfl (XT.ii_le_f hc393) ?_
    refine zS Ad W 2 (st' := (142, [vR 1, vI x1, vI x2, vI x3, vI x4, vI x5, vI x6, vI y387, vI y387, vI x9, vI x10, vI y387], [], (H1 s o e0))) rfl ?_
    exact zM [tt,tt,tt,tt,tt,tt,tt,tt,tt,tt,ff,tt] (K390 _ ((if_neg hc391).trans (if_pos hc392)).symm _ ((if_neg hc391).trans (if_pos hc393)).symm)
   ·refine zT Ad W (t := 142) (f := 138) rfl (XT.ii_le_t hc393) ?_
    exact zM [tt,tt,tt,tt,tt,tt,tt,tt,tt,tt,ff,tt] (K390 _ ((if_neg hc391).trans (if_pos hc392)).symm _ ((if_neg hc391).trans (if_neg hc393)).symm)
  ·refine zT Ad W (t := 131) (f := 127) rfl (XT.ii_ge_t hc392) ?_
   refine zS Ad W 2 (st' := (135, [vR 1, vI x1, vI x2, vI x3, vI x4, vI x5, vI x6, vI x7, vI x8, vI x9, vI x10, vI y387], [.int x8, .int y387], (H1 s o e0))) rfl ?_
   rcases em (x8 < y387) with hc394 | hc394
   ·refine zF Ad W (t := 142) (f := 138) rfl (XT.ii_le_f hc394) ?_
    refine zS Ad W 2 (st' := (142, [vR 1, vI x1, vI x2, vI x3, vI x4, vI x5, vI x6, vI x7, vI y387, vI x9, vI x10, vI y387], [], (H1 s o e0))) rfl ?_
    exact zM [tt,tt,tt,tt,tt,tt,tt,tt,tt,tt,ff,tt] (K390 _ ((if_neg hc391).trans (if_neg hc392)).symm _ ((if_neg hc391).trans (if_pos hc394)).symm)
   ·refine zT Ad W (t := 142) (f := 138) rfl (XT.ii_le_t hc394) ?_
    exact zM [tt,tt,tt,tt,tt,tt,tt,tt,tt,tt,ff,tt] (K390 _ ((if_neg hc391).trans (if_neg hc392)).symm _ ((if_neg hc391).trans (if_neg hc394)).symm)
theorem tJ8_66a2 (Ad : QAd n0 ad) (W : QW Z a0) (s : List Int32) (e0 : Ob) (o : Ob) (x1 : Int32) (x2 : Int32) (x3 : Int32) (x4 : Int32) (x5 : Int32) (x6 : Int32) (x7 : Int32) (x8 : Int32) (x9 : Int32) (x10 : Int32) {r : ((Int32 × Int32 × Int32 × Int32)) ⊕ (Int32 × Int32 × Int32 × Int32 × Int32)} {u : Option Value} {τ : QHeap} (h : J8_66 o x1 x2 x3 x4 x5 x6 x7 x8 x9 x10 = some r) (hx0 : ∀ x : Int32 × Int32 × Int32 × Int32, r = .inl x → QTri l Z n0 ad 8 (158, [vR 1, none, none, none, none, vI x.1, vI x.2.1, vI x.2.2.1, vI x.2.2.2, none, none, none], [], (H1 s o e0)) u τ) (hc : ∀ x : Int32 × Int32 × Int32 × Int32 × Int32, r = .inr x → QTri l Z n0 ad 8 (15, [vR 1, vI x1, vI x2, vI x3, vI x4, vI x.1, vI x.2.1, vI x.2.2.1, vI x.2.2.2.1, vI x.2.2.2.2, none, none], [], (H1 s o e0)) u τ) : QTri l Z n0 ad 8 (66, [vR 1, vI x1, vI x2, vI x3, vI x4, vI x5, vI x6, vI x7, vI x8, vI x9, vI x10, none], [], (H1 s o e0)) u τ := by
 unfold J8_66 at h
 refine zS Ad W 1 (st' := (67, [vR 1, vI x1, vI x2, vI x3, vI x4, vI x5, vI x6, vI x7, vI x8, vI x9, vI x10, none], [.int x3], (H1 s o e0))) rfl ?_
 rcases qite h with ⟨hc386, h⟩ | ⟨hc386, h⟩
 ·refine zT Ad W (t := 90) (f := 70) rfl (XT.i0_eq_t hc386) ?_
  exact zM [tt,tt,tt,tt,tt,tt,tt,tt,tt,tt,tt,ff] (tJ8_90a2 Ad W s e0 o x1 x2 x3 x4 x5 x6 x7 x8 x9 x10 h hx0 hc)
 ·refine zF Ad W (t := 90) (f := 70) rfl (XT.i0_eq_f hc386) ?_
  refine zS Ad W 6 (st' := (81, [vR 1, vI x1, vI x2, vI x3, vI x4, vI x5, vI x6, vI x7, vI x8, vI x9, vI x10, none], [.int (x10 + (f_cf o)), .ref 2], (H1 s o e0))) rfl ?_
  obtain ⟨y395, hy395, h⟩ := bind_eq_some_iff.mp h
  refine zB Ad W (f := fun y395 => (82, [vR 1, vI x1, vI x2, vI x3, vI x4, vI x5, vI x6, vI x7, vI x8, vI x9, vI x10, none], [.int y395], (H1 s o e0))) rfl hy395 ?_
  refine zS Ad W 1 (st' := (84, [vR 1, vI x1, vI x2, vI x3, vI x4, vI x5, vI x6, vI x7, vI x8, vI x9, vI x10, none], [.int x4, .int y395], (H1 s o e0))) rfl ?_
  rcases qite h with ⟨hc396, h⟩ | ⟨hc396, h⟩
  ·refine zT Ad W (t := 90) (f := 87) rfl (XT.ii_eq_t hc396) ?_
   exact zM [tt,tt,tt,tt,tt,tt,tt,tt,tt,tt,tt,ff] (tJ8_90a2 Ad W s e0 o x1 x2 x3 x4 x5 x6 x7 x8 x9 x10 h hx0 hc)
  ·refine zF Ad W (t := 90) (f := 87) rfl (XT.ii_eq_f hc396) ?_
   refine zS Ad W 1 (st' := (152, [vR 1, vI x1, vI x2, vI x3, vI x4, vI x5, vI x6, vI x7, vI x8, vI x9, vI x10, none], [], (H1 s o e0))) rfl ?_
   exact zM [tt,tt,tt,tt,tt,tt,tt,tt,tt,tt,ff,ff] (tJ8_152a2 Ad W s e0 o x1 x2 x3 x4 x5 x6 x7 x8 x9 h hx0 hc)
theorem tB8_15a2 (Ad : QAd n0 ad) (W : QW Z a0) (s : List Int32) (e0 : Ob) (o : Ob) (x1 : Int32) (x2 : Int32) (x3 : Int32) (x4 : Int32) (v : Int32 × Int32 × Int32 × Int32 × Int32) {r : ((Int32 × Int32 × Int32 × Int32)) ⊕ (Int32 × Int32 × Int32 × Int32 × Int32)} {u : Option Value} {τ : QHeap} (h : B8_15 o x1 x2 x3 x4 v = some r) (hx0 : ∀ x : Int32 × Int32 × Int32 × Int32, r = .inl x → QTri l Z n0 ad 8 (158, [vR 1, none, none, none, none, vI x.1, vI x.2.1, vI x.2.2.1, vI x.2.2.2, none, none, none], [], (H1 s o e0)) u τ) (hc : ∀ x : Int32 × Int32 × Int32 × Int32 × Int32, r = .inr x → QTri l Z n0 ad 8 (15, [vR 1, vI x1, vI x2, vI x3, vI x4, vI x.1, vI x.2.1, vI x.2.2.1, vI x.2.2.2.1, vI x.2.2.2.2, none, none], [], (H1 s o e0)) u τ) : QTri l Z n0 ad 8 (15, [vR 1, vI x1, vI x2, vI x3, vI x4, vI v.1, vI v.2.1, vI v.2.2.1, vI v.2.2.2.1, vI v.2.2.2.2, none, none], [], (H1 s o e0)) u τ := by
 unfold B8_15 at h
 refine zS Ad W 3 (st' := (21, [vR 1, vI x1, vI x2, vI x3, vI x4, vI v.1, vI v.2.1, vI v.2.2.1, vI v.2.2.2.1, vI v.2.2.2.2, none, none], [.int (f_nRows o), .int v.2.2.2.2], (H1 s o e0))) rfl ?_
 rcases qite h with ⟨hc382, h⟩ | ⟨hc382, h⟩
 ·refine zF Ad W (t := 158) (f := 24) rfl (XT.ii_ge_f hc382) ?_
  refine zS Ad W 3 (st' := (30, [vR 1, vI x1, vI x2, vI x3, vI x4, vI v.1, vI v.2.1, vI v.2.2.1, vI v.2.2.2.1, vI v.2.2.2.2, none, none], [.int v.2.2.2.2, .ref 3], (H1 s o e0))) rfl ?_
  obtain ⟨y383, hy383, h⟩ := bind_eq_some_iff.mp h
  refine zB Ad W (f := fun y383 => (31, [vR 1, vI x1, vI x2, vI x3, vI x4, vI v.1, vI v.2.1, vI v.2.2.1, vI v.2.2.2.1, vI v.2.2.2.2, none, none], [.int y383], (H1 s o e0))) rfl hy383 ?_
  rcases qite h with ⟨hc384, h⟩ | ⟨hc384, h⟩
  ·refine zF Ad W (t := 37) (f := 34) rfl (XT.i0_ne_f hc384) ?_
   refine zS Ad W 1 (st' := (152, [vR 1, vI x1, vI x2, vI x3, vI x4, vI v.1, vI v.2.1, vI v.2.2.1, vI v.2.2.2.1, vI v.2.2.2.2, none, none], [], (H1 s o e0))) rfl ?_
   exact zM [tt,tt,tt,tt,tt,tt,tt,tt,tt,tt,ff,ff] (tJ8_152a2 Ad W s e0 o x1 x2 x3 x4 v.1 v.2.1 v.2.2.1 v.2.2.2.1 v.2.2.2.2 h hx0 hc)
  ·refine zT Ad W (t := 37) (f := 34) rfl (XT.i0_ne_t hc384) ?_
   refine zS Ad W 5 (st' := (44, [vR 1, vI x1, vI x2, vI x3, vI x4, vI v.1, vI v.2.1, vI v.2.2.1, vI v.2.2.2.1, vI v.2.2.2.2, vI (v.2.2.2.2 * (4:Int32)), none], [.int x1], (H1 s o e0))) rfl ?_
   rcases qite h with ⟨hc385, h⟩ | ⟨hc385, h⟩
   ·refine zT Ad W (t := 66) (f := 47) rfl (XT.i0_eq_t hc385) ?_
    exact zM [tt,tt,tt,tt,tt,tt,tt,tt,tt,tt,tt,ff] (tJ8_66a2 Ad W s e0 o x1 x2 x3 x4 v.1 v.2.1 v.2.2.1 v.2.2.2.1 v.2.2.2.2 (v.2.2.2.2 * (4:Int32)) h hx0 hc)
   ·refine zF Ad W (t := 66) (f := 47) rfl (XT.i0_eq_f hc385) ?_
    refine zS Ad W 6 (st' := (58, [vR 1, vI x1, vI x2, vI x3, vI x4, vI v.1, vI v.2.1, vI v.2.2.1, vI v.2.2.2.1, vI v.2.2.2.2, vI (v.2.2.2.2 * (4:Int32)), none], [.int ((v.2.2.2.2 * (4:Int32)) + (f_rf o)), .ref 2], (H1 s o e0))) rfl ?_
    obtain ⟨y397, hy397, h⟩ := bind_eq_some_iff.mp h
    refine zB Ad W (f := fun y397 => (59, [vR 1, vI x1, vI x2, vI x3, vI x4, vI v.1, vI v.2.1, vI v.2.2.1, vI v.2.2.2.1, vI v.2.2.2.2, vI (v.2.2.2.2 * (4:Int32)), none], [.int y397], (H1 s o e0))) rfl hy397 ?_
    refine zS Ad W 1 (st' := (60, [vR 1, vI x1, vI x2, vI x3, vI x4, vI v.1, vI v.2.1, vI v.2.2.1, vI v.2.2.2.1, vI v.2.2.2.2, vI (v.2.2.2.2 * (4:Int32)), none], [.int x2, .int y397], (H1 s o e0))) rfl ?_
    rcases qite h with ⟨hc398, h⟩ | ⟨hc398, h⟩
    ·refine zT Ad W (t := 66) (f := 63) rfl (XT.ii_eq_t hc398) ?_
     exact zM [tt,tt,tt,tt,tt,tt,tt,tt,tt,tt,tt,ff] (tJ8_66a2 Ad W s e0 o x1 x2 x3 x4 v.1 v.2.1 v.2.2.1 v.2.2.2.1 v.2.2.2.2 (v.2.2.2.2 * (4:Int32)) h hx0 hc)
    ·refine zF Ad W (t := 66) (f := 63) rfl (XT.ii_eq_f hc398) ?_
     refine zS Ad W 1 (st' := (152, [vR 1, vI x1, vI x2, vI x3, vI x4, vI v.1, vI v.2.1, vI v.2.2.1, vI v.2.2.2.1, vI v.2.2.2.2, vI (v.2.2.2.2 * (4:Int32)), none], [], (H1 s o e0))) rfl ?_
     exact zM [tt,tt,tt,tt,tt,tt,tt,tt,tt,tt,ff,ff] (tJ8_152a2 Ad W s e0 o x1 x2 x3 x4 v.1 v.2.1 v.2.2.1 v.2.2.2.1 v.2.2.2.2 h hx0 hc)
 ·refine zT Ad W (t := 158) (f := 24) rfl (XT.ii_ge_t hc382) ?_
  obtain rfl := Option.some.inj h
  exact zM [tt,ff,ff,ff,ff,tt,tt,tt,tt,ff,ff,ff] (hx0 (v.1, v.2.1, v.2.2.1, v.2.2.2.1) rfl)
def H1x42 (s : List Int32) (o0 o1 : Ob) (a0_16 : Int32) : QHeap := H1v s (f_data o0) (f_filled o0) (f_rf o0) (f_cf o0) (f_vf o0) (f_ag o0) (f_fMode o0) (f_fRk o0) (f_fCk o0) (f_prevVal o0) (f_prevFound o0) (f_keys o0) (f_nRows o0) (f_nForms o0) (f_last o0) (f_gVal o0) a0_16 (f_selUseR o0) (f_selRk o0) (f_selUseC o0) (f_selCk o0) (f_data o1) (f_filled o1) (f_rf o1) (f_cf o1) (f_vf o1) (f_ag o1) (f_fMode o1) (f_fRk o1) (f_fCk o1) (f_prevVal o1) (f_prevFound o1) (f_keys o1) (f_nRows o1) (f_nForms o1) (f_last o1) (f_gVal o1) (f_gCount o1) (f_selUseR o1) (f_selRk o1) (f_selUseC o1) (f_selCk o1)
theorem tF9a2 (Ad : QAd n0 ad) (W : QW Z a0) (s : List Int32) (e0 : Ob) (o : Ob) (x1 : Int32) (x2 : Int32) (x3 : Int32) (x4 : Int32) {r : Int32} (h : F9 o x1 x2 x3 x4 = some r) : QTri l Z n0 ad 9 (0, qentry [.ref 1, .int x1, .int x2, .int x3, .int x4] (pMaxL 9), [], (H1 s o e0)) (some (Value.int r)) (H1 s o e0) := by
 unfold F9 at h
 refine zS Ad W 1 (st' := (1, [vR 1, vI x1, vI x2, vI x3, vI x4], [.int x1], (H1 s o e0))) rfl ?_
 rcases qite h with ⟨hc402, h⟩ | ⟨hc402, h⟩
 ·refine zF Ad W (t := 6) (f := 4) rfl (XT.i0_ne_f hc402) ?_
  refine zS Ad W 1 (st' := (5, [vR 1, vI x1, vI x2, vI x3, vI x4], [.int (0:Int32)], (H1 s o e0))) rfl ?_
  obtain rfl := Option.some.inj h
  exact QTri.retI rfl rfl
 ·refine zT Ad W (t := 6) (f := 4) rfl (XT.i0_ne_t hc402) ?_
  refine zS Ad W 3 (st' := (11, [vR 1, vI x1, vI x2, vI x3, vI x4], [.int (1:Int32), .int (f_ag o)], (H1 s o e0))) rfl ?_
  rcases qite h with ⟨hc403, h⟩ | ⟨hc403, h⟩
  ·refine zF Ad W (t := 16) (f := 14) rfl (XT.ii_ne_f hc403) ?_
   refine zS Ad W 1 (st' := (15, [vR 1, vI x1, vI x2, vI x3, vI x4], [.int x1], (H1 s o e0))) rfl ?_
   obtain rfl := Option.some.inj h
   exact QTri.retI rfl rfl
  ·refine zT Ad W (t := 16) (f := 14) rfl (XT.ii_ne_t hc403) ?_
   refine zS Ad W 3 (st' := (21, [vR 1, vI x1, vI x2, vI x3, vI x4], [.int (2:Int32), .int (f_ag o)], (H1 s o e0))) rfl ?_
   rcases qite h with ⟨hc404, h⟩ | ⟨hc404, h⟩
   ·refine zF Ad W (t := 26) (f := 24) rfl (XT.ii_ne_f hc404) ?_
    refine zS Ad W 1 (st' := (25, [vR 1, vI x1, vI x2, vI x3, vI x4], [.int x3], (H1 s o e0))) rfl ?_
    obtain rfl := Option.some.inj h
    exact QTri.retI rfl rfl
   ·refine zT Ad W (t := 26) (f := 24) rfl (XT.ii_ne_t hc404) ?_
    refine zS Ad W 3 (st' := (31, [vR 1, vI x1, vI x2, vI x3, vI x4], [.int (3:Int32), .int (f_ag o)], (H1 s o e0))) rfl ?_
    rcases qite h with ⟨hc405, h⟩ | ⟨hc405, h⟩
    ·refine zF Ad W (t := 37) (f := 34) rfl (XT.ii_ne_f hc405) ?_
     refine zS Ad W 1 (st' := (36, [vR 1, vI x1, vI x2, vI x3, vI x4], [.int x4], (H1 s o e0))) rfl ?_
     obtain rfl := Option.some.inj h
     exact QTri.retI rfl rfl
    ·refine zT Ad W (t := 37) (f := 34) rfl (XT.ii_ne_t hc405) ?_
     refine zS Ad W 1 (st' := (38, [vR 1, vI x1, vI x2, vI x3, vI x4], [.int x2], (H1 s o e0))) rfl ?_
     obtain rfl := Option.some.inj h
     exact QTri.retI rfl rfl
def H1x43 (s : List Int32) (o0 o1 : Ob) (a0_15 : Int32) : QHeap := H1v s (f_data o0) (f_filled o0) (f_rf o0) (f_cf o0) (f_vf o0) (f_ag o0) (f_fMode o0) (f_fRk o0) (f_fCk o0) (f_prevVal o0) (f_prevFound o0) (f_keys o0) (f_nRows o0) (f_nForms o0) (f_last o0) a0_15 (f_gCount o0) (f_selUseR o0) (f_selRk o0) (f_selUseC o0) (f_selCk o0) (f_data o1) (f_filled o1) (f_rf o1) (f_cf o1) (f_vf o1) (f_ag o1) (f_fMode o1) (f_fRk o1) (f_fCk o1) (f_prevVal o1) (f_prevFound o1) (f_keys o1) (f_nRows o1) (f_nForms o1) (f_last o1) (f_gVal o1) (f_gCount o1) (f_selUseR o1) (f_selRk o1) (f_selUseC o1) (f_selCk o1)
theorem tF8a2 (Ad : QAd n0 ad) (W : QW Z a0) (s : List Int32) (e0 : Ob) (o : Ob) (x1 : Int32) (x2 : Int32) (x3 : Int32) (x4 : Int32) {r : Ob} (h : F8 o x1 x2 x3 x4 = some r) : QTri l Z n0 ad 8 (0, qentry [.ref 1, .int x1, .int x2, .int x3, .int x4] (pMaxL 8), [], (H1 s o e0)) (none : Option Value) (H1 s r e0) := by
 unfold F8 at h
 refine zS Ad W 4 (st' := (6, [vR 1, vI x1, vI x2, vI x3, vI x4, vI (0:Int32), vI (0:Int32), none, none, none, none, none], [], (H1 s o e0))) rfl ?_
 refine zS Ad W 4 (st' := (12, [vR 1, vI x1, vI x2, vI x3, vI x4, vI (0:Int32), vI (0:Int32), vI (0:Int32), vI (0:Int32), none, none, none], [], (H1 s o e0))) rfl ?_
 refine zS Ad W 2 (st' := (15, [vR 1, vI x1, vI x2, vI x3, vI x4, vI (0:Int32), vI (0:Int32), vI (0:Int32), vI (0:Int32), vI (0:Int32), none, none], [], (H1 s o e0))) rfl ?_
 obtain ⟨e399, he399, h⟩ := bind_eq_some_iff.mp h
 refine zM [tt,tt,tt,tt,tt,tt,tt,tt,tt,tt,ff,ff] (loopN_tri (B := B8_15 o x1 x2 x3 x4) (T := fun lv400 => QTri l Z n0 ad 8 (15, [vR 1, vI x1, vI x2, vI x3, vI x4, vI lv400.1, vI lv400.2.1, vI lv400.2.2.1, vI lv400.2.2.2.1, vI lv400.2.2.2.2, none, none], [], (H1 s o e0)) (none : Option Value) (H1 s r e0)) (KE := fun e399a => QTri l Z n0 ad 8 (158, [vR 1, none, none, none, none, vI e399a.1, vI e399a.2.1, vI e399a.2.2.1, vI e399a.2.2.2, none, none, none], [], (H1 s o e0)) (none : Option Value) (H1 s r e0)) (fun lv400 r hB hE hC => tB8_15a2 Ad W s e0 o x1 x2 x3 x4 lv400 hB (fun x q => hE _ q) (fun x q => hC x q)) qN ((0:Int32), (0:Int32), (0:Int32), (0:Int32), (0:Int32)) e399 he399 ?_)
 refine zS Ad W 3 (st' := (164, [vR 1, none, none, none, none, vI e399.1, vI e399.2.1, vI e399.2.2.1, vI e399.2.2.2, none, none, none], [], (H1x42 s o e0 e399.2.1))) rfl ?_
 refine zS Ad W 6 (st' := (174, [vR 1, none, none, none, none, vI e399.1, vI e399.2.1, vI e399.2.2.1, vI e399.2.2.2, none, none, none], [.int e399.2.2.2, .int e399.2.2.1, .int e399.1, .int e399.2.1, .ref 1, .ref 1], (H1x42 s o e0 e399.2.1))) rfl ?_
 have E401 : ((H1x42 s o e0 e399.2.1) : QHeap) = (H1 s (s_gCount o e399.2.1) e0) := by simp only [fs, H1, H1v, H1x42, s_gCount]
 rw [E401]
 obtain ⟨r406, hr406, h⟩ := bind_eq_some_iff.mp h
 refine QTri.callP W (a := 1) (as := [.int e399.2.1, .int e399.1, .int e399.2.2.1, .int e399.2.2.2]) (rest := [.ref 1]) (w := (some (.int r406))) (σ₁ := (H1 s (s_gCount o e399.2.1) e0)) rfl rfl rfl rfl rfl rfl rfl rfl (tF9a2 Ad W s e0 (s_gCount o e399.2.1) e399.2.1 e399.1 e399.2.2.1 e399.2.2.2 hr406) ?_
 refine zS Ad W 1 (st' := (180, [vR 1, none, none, none, none, vI e399.1, vI e399.2.1, vI e399.2.2.1, vI e399.2.2.2, none, none, none], [], (H1x43 s (s_gCount o e399.2.1) e0 r406))) rfl ?_
 have E407 : ((H1x43 s (s_gCount o e399.2.1) e0 r406) : QHeap) = (H1 s (s_gVal (s_gCount o e399.2.1) r406) e0) := (show ∀ b0 : Ob, ((H1x43 s b0 e0 r406) : QHeap) = (H1 s (s_gVal b0 r406) e0) from fun b0 => by simp only [fs, H1, H1v, H1x43, s_gVal]) (s_gCount o e399.2.1)
 rw [E407]
 obtain rfl := Option.some.inj h
 exact QTri.ret0 rfl rfl
/-- value(II)I -/
def F22 (o : Ob) (x1 : Int32) (x2 : Int32) : Option (Int32 × Ob) :=
 (F23 o x1 x2).bind fun r380 => (if r380.1 = (0:Int32) then some ((0:Int32), r380.2) else (F8 r380.2 (f_selUseR r380.2) (f_selRk r380.2) (f_selUseC r380.2) (f_selCk r380.2)).bind fun r408 => some ((f_gVal r408), r408))
theorem tF22 (Ad : QAd n0 ad) (W : QW Z a0) (s : List Int32) (e0 : Ob) (o : Ob) (x1 : Int32) (x2 : Int32) {r : Int32 × Ob} (h : F22 o x1 x2 = some r) : QTri l Z n0 ad 22 (0, qentry [.ref 1, .int x1, .int x2] (pMaxL 22), [], (H1 s o e0)) (some (Value.int r.1)) (H1 s r.2 e0) := by
 unfold F22 at h
 refine zS Ad W 3 (st' := (3, [vR 1, vI x1, vI x2], [.int x2, .int x1, .ref 1], (H1 s o e0))) rfl ?_
 obtain ⟨r380, hr380, h⟩ := bind_eq_some_iff.mp h
 refine QTri.callP W (a := 1) (as := [.int x1, .int x2]) (rest := []) (w := (some (.int r380.1))) (σ₁ := (H1 s r380.2 e0)) rfl rfl rfl rfl rfl rfl rfl rfl (tF23 Ad W s e0 o x1 x2 hr380) ?_
 rcases qite h with ⟨hc381, h⟩ | ⟨hc381, h⟩
 ·refine zF Ad W (t := 11) (f := 9) rfl (XT.i0_ne_f hc381) ?_
  refine zS Ad W 1 (st' := (10, [vR 1, vI x1, vI x2], [.int (0:Int32)], (H1 s r380.2 e0))) rfl ?_
  obtain rfl := Option.some.inj h
  exact QTri.retI rfl rfl
 ·refine zT Ad W (t := 11) (f := 9) rfl (XT.i0_ne_t hc381) ?_
  refine zS Ad W 9 (st' := (28, [vR 1, vI x1, vI x2], [.int (f_selCk r380.2), .int (f_selUseC r380.2), .int (f_selRk r380.2), .int (f_selUseR r380.2), .ref 1], (H1 s r380.2 e0))) rfl ?_
  obtain ⟨r408, hr408, h⟩ := bind_eq_some_iff.mp h
  refine QTri.callP W (a := 1) (as := [.int (f_selUseR r380.2), .int (f_selRk r380.2), .int (f_selUseC r380.2), .int (f_selCk r380.2)]) (rest := []) (w := none) (σ₁ := (H1 s r408 e0)) rfl rfl rfl rfl rfl rfl rfl rfl (tF8a2 Ad W s e0 r380.2 (f_selUseR r380.2) (f_selRk r380.2) (f_selUseC r380.2) (f_selCk r380.2) hr408) ?_
  refine zS Ad W 2 (st' := (35, [vR 1, vI x1, vI x2], [.int (f_gVal r408)], (H1 s r408 e0))) rfl ?_
  obtain rfl := Option.some.inj h
  exact QTri.retI rfl rfl
def H1x44 (s : List Int32) (o0 o1 : Ob) (a1_17 : Int32) : QHeap := H1v s (f_data o0) (f_filled o0) (f_rf o0) (f_cf o0) (f_vf o0) (f_ag o0) (f_fMode o0) (f_fRk o0) (f_fCk o0) (f_prevVal o0) (f_prevFound o0) (f_keys o0) (f_nRows o0) (f_nForms o0) (f_last o0) (f_gVal o0) (f_gCount o0) (f_selUseR o0) (f_selRk o0) (f_selUseC o0) (f_selCk o0) (f_data o1) (f_filled o1) (f_rf o1) (f_cf o1) (f_vf o1) (f_ag o1) (f_fMode o1) (f_fRk o1) (f_fCk o1) (f_prevVal o1) (f_prevFound o1) (f_keys o1) (f_nRows o1) (f_nForms o1) (f_last o1) (f_gVal o1) (f_gCount o1) a1_17 (f_selRk o1) (f_selUseC o1) (f_selCk o1)
def H1x45 (s : List Int32) (o0 o1 : Ob) (a1_18 : Int32) : QHeap := H1v s (f_data o0) (f_filled o0) (f_rf o0) (f_cf o0) (f_vf o0) (f_ag o0) (f_fMode o0) (f_fRk o0) (f_fCk o0) (f_prevVal o0) (f_prevFound o0) (f_keys o0) (f_nRows o0) (f_nForms o0) (f_last o0) (f_gVal o0) (f_gCount o0) (f_selUseR o0) (f_selRk o0) (f_selUseC o0) (f_selCk o0) (f_data o1) (f_filled o1) (f_rf o1) (f_cf o1) (f_vf o1) (f_ag o1) (f_fMode o1) (f_fRk o1) (f_fCk o1) (f_prevVal o1) (f_prevFound o1) (f_keys o1) (f_nRows o1) (f_nForms o1) (f_last o1) (f_gVal o1) (f_gCount o1) (f_selUseR o1) a1_18 (f_selUseC o1) (f_selCk o1)
def H1x46 (s : List Int32) (o0 o1 : Ob) (a1_18 : Int32) (a1_19 : Int32) : QHeap := H1v s (f_data o0) (f_filled o0) (f_rf o0) (f_cf o0) (f_vf o0) (f_ag o0) (f_fMode o0) (f_fRk o0) (f_fCk o0) (f_prevVal o0) (f_prevFound o0) (f_keys o0) (f_nRows o0) (f_nForms o0) (f_last o0) (f_gVal o0) (f_gCount o0) (f_selUseR o0) (f_selRk o0) (f_selUseC o0) (f_selCk o0) (f_data o1) (f_filled o1) (f_rf o1) (f_cf o1) (f_vf o1) (f_ag o1) (f_fMode o1) (f_fRk o1) (f_fCk o1) (f_prevVal o1) (f_prevFound o1) (f_keys o1) (f_nRows o1) (f_nForms o1) (f_last o1) (f_gVal o1) (f_gCount o1) (f_selUseR o1) a1_18 a1_19 (f_selCk o1)
def H1x47 (s : List Int32) (o0 o1 : Ob) (a1_20 : Int32) : QHeap := H1v s (f_data o0) (f_filled o0) (f_rf o0) (f_cf o0) (f_vf o0) (f_ag o0) (f_fMode o0) (f_fRk o0) (f_fCk o0) (f_prevVal o0) (f_prevFound o0) (f_keys o0) (f_nRows o0) (f_nForms o0) (f_last o0) (f_gVal o0) (f_gCount o0) (f_selUseR o0) (f_selRk o0) (f_selUseC o0) (f_selCk o0) (f_data o1) (f_filled o1) (f_rf o1) (f_cf o1) (f_vf o1) (f_ag o1) (f_fMode o1) (f_fRk o1) (f_fCk o1) (f_prevVal o1) (f_prevFound o1) (f_keys o1) (f_nRows o1) (f_nForms o1) (f_last o1) (f_gVal o1) (f_gCount o1) (f_selUseR o1) (f_selRk o1) (f_selUseC o1) a1_20
theorem tJ23_125a1 (Ad : QAd n0 ad) (W : QW Z a0) (s : List Int32) (e0 : Ob) (o : Ob) (w0 : Int32) {r : Int32 × Ob} (h : J23_125 o w0 = some r) : QTri l Z n0 ad 23 (125, [none, none, none, none, none], [.int w0, .ref 10], (H1 s e0 o)) (some (Value.int r.1)) (H1 s e0 r.2) := by
 unfold J23_125 at h
 refine zS Ad W 1 (st' := (128, [none, none, none, none, none], [], (H1x47 s e0 o w0))) rfl ?_
 refine zS Ad W 1 (st' := (129, [none, none, none, none, none], [.int (1:Int32)], (H1x47 s e0 o w0))) rfl ?_
 have E426 : ((H1x47 s e0 o w0) : QHeap) = (H1 s e0 (s_selCk o w0)) := by simp only [fs, H1, H1v, H1x47, s_selCk]
 rw [E426]
 obtain rfl := Option.some.inj h
 exact QTri.retZ rfl rfl
theorem tJ23_87a1 (Ad : QAd n0 ad) (W : QW Z a0) (s : List Int32) (e0 : Ob) (o : Ob) (x2 : Int32) (w0 : Int32) {r : Int32 × Ob} (h : J23_87 o x2 w0 = some r) : QTri l Z n0 ad 23 (87, [vR 10, none, vI x2, none, none], [.int w0, .ref 10], (H1 s e0 o)) (some (Value.int r.1)) (H1 s e0 r.2) := by
 unfold J23_87 at h
 refine zS Ad W 1 (st' := (90, [vR 10, none, vI x2, none, none], [], (H1x45 s e0 o w0))) rfl ?_
 refine zS Ad W 3 (st' := (93, [vR 10, none, vI x2, none, none], [.int (-1:Int32), .int x2, .ref 10], (H1x45 s e0 o w0))) rfl ?_
 have K421 : ∀ z420 : Int32, z420 = (if x2 = (-1:Int32) then (0:Int32) else (1:Int32)) → QTri l Z n0 ad 23 (101, [vR 10, none, vI x2, none, none], [.int z420, .ref 10], (H1x45 s e0 o w0)) (some (Value.int r.1)) (H1 s e0 r.2) := by
  intro z420 ez420
  subst ez420
  obtain ⟨y423, hy423, h⟩ := bind_eq_some_iff.mp h
  refine QTri.bndB Ad W rfl hy423 ?_
  show QTri l Z n0 ad 23 (104, [vR 10, none, vI x2, none, none], [], (H1x46 s e0 o w0 y423)) (some (Value.int r.1)) (H1 s e0 r.2)
  refine zS Ad W 3 (st' := (109, [vR 10, none, vI x2, none, none], [.int y423, .ref 10], (H1x46 s e0 o w0 y423))) rfl ?_
  rcases qite h with ⟨hc424, h⟩ | ⟨hc424, h⟩
  ·refine zT Ad W (t := 124) (f := 112) rfl (XT.i0_eq_t hc424) ?_
   refine zS Ad W 1 (st' := (125, [vR 10, none, vI x2, none, none], [.int (0:Int32), .ref 10], (H1x46 s e0 o w0 y423))) rfl ?_
   have E425 : ((H1x46 s e0 o w0 y423) : QHeap) = (H1 s e0 (s_selUseC (s_selRk o w0) y423)) := by simp only [fs, H1, H1v, H1x46, s_selRk, s_selUseC]
   rw [E425]
   exact zM [ff,ff,ff,ff,ff] (tJ23_125a1 Ad W s e0 (s_selUseC (s_selRk o w0) y423) (0:Int32) h)
  ·refine zF Ad W (t := 124) (f := 112) rfl (XT.i0_eq_f hc424) ?_
   refine zS Ad W 5 (st' := (120, [vR 10, none, vI x2, none, none], [.int ((32:Int32) + x2), .ref 18, .ref 10], (H1x46 s e0 o w0 y423))) rfl ?_
   obtain ⟨y427, hy427, h⟩ := bind_eq_some_iff.mp h
   refine zB Ad W (f := fun y427 => (121, [vR 10, none, vI x2, none, none], [.int y427, .ref 10], (H1x46 s e0 o w0 y423))) rfl hy427 ?_
   refine zS Ad W 1 (st' := (125, [vR 10, none, vI x2, none, none], [.int y427, .ref 10], (H1x46 s e0 o w0 y423))) rfl ?_
   have E428 : ((H1x46 s e0 o w0 y423) : QHeap) = (H1 s e0 (s_selUseC (s_selRk o w0) y423)) := by simp only [fs, H1, H1v, H1x46, s_selRk, s_selUseC]
   rw [E428]
   exact zM [ff,ff,ff,ff,ff] (tJ23_125a1 Ad W s e0 (s_selUseC (s_selRk o w0) y423) y427 h)
 rcases em (x2 = (-1:Int32)) with hc422 | hc422
 ·refine zT Ad W (t := 100) (f := 96) rfl (XT.ii_eq_t hc422) ?_
  refine zS Ad W 1 (st' := (101, [vR 10, none, vI x2, none, none], [.int (0:Int32), .ref 10], (H1x45 s e0 o w0))) rfl ?_
  exact zM [tt,ff,tt,ff,ff] (K421 _ (if_pos hc422).symm)
 ·refine zF Ad W (t := 100) (f := 96) rfl (XT.ii_eq_f hc422) ?_
  refine zS Ad W 2 (st' := (101, [vR 10, none, vI x2, none, none], [.int (1:Int32), .ref 10], (H1x45 s e0 o w0))) rfl ?_
  exact zM [tt,ff,tt,ff,ff] (K421 _ (if_neg hc422).symm)
theorem tJ23_55a1 (Ad : QAd n0 ad) (W : QW Z a0) (s : List Int32) (e0 : Ob) (o : Ob) (x1 : Int32) (x2 : Int32) {r : Int32 × Ob} (h : J23_55 o x1 x2 = some r) : QTri l Z n0 ad 23 (55, [vR 10, vI x1, vI x2, none, none], [], (H1 s e0 o)) (some (Value.int r.1)) (H1 s e0 r.2) := by
 unfold J23_55 at h
 refine zS Ad W 3 (st' := (58, [vR 10, vI x1, vI x2, none, none], [.int (-1:Int32), .int x1, .ref 10], (H1 s e0 o))) rfl ?_
 have K415 : ∀ z414 : Int32, z414 = (if x1 = (-1:Int32) then (0:Int32) else (1:Int32)) → QTri l Z n0 ad 23 (66, [vR 10, vI x1, vI x2, none, none], [.int z414, .ref 10], (H1 s e0 o)) (some (Value.int r.1)) (H1 s e0 r.2) := by
  intro z414 ez414
  subst ez414
  obtain ⟨y417, hy417, h⟩ := bind_eq_some_iff.mp h
  refine QTri.bndB Ad W rfl hy417 ?_
  show QTri l Z n0 ad 23 (69, [vR 10, vI x1, vI x2, none, none], [], (H1x44 s e0 o y417)) (some (Value.int r.1)) (H1 s e0 r.2)
  refine zS Ad W 3 (st' := (74, [vR 10, vI x1, vI x2, none, none], [.int y417, .ref 10], (H1x44 s e0 o y417))) rfl ?_
  rcases qite h with ⟨hc418, h⟩ | ⟨hc418, h⟩
  ·refine zT Ad W (t := 86) (f := 77) rfl (XT.i0_eq_t hc418) ?_
   refine zS Ad W 1 (st' := (87, [vR 10, vI x1, vI x2, none, none], [.int (0:Int32), .ref 10], (H1x44 s e0 o y417))) rfl ?_
   have E419 : ((H1x44 s e0 o y417) : QHeap) = (H1 s e0 (s_selUseR o y417)) := by simp only [fs, H1, H1v, H1x44, s_selUseR]
   rw [E419]
   exact zM [tt,ff,tt,ff,ff] (tJ23_87a1 Ad W s e0 (s_selUseR o y417) x2 (0:Int32) h)
  ·refine zF Ad W (t := 86) (f := 77) rfl (XT.i0_eq_f hc418) ?_
   refine zS Ad W 3 (st' := (82, [vR 10, vI x1, vI x2, none, none], [.int x1, .ref 18, .ref 10], (H1x44 s e0 o y417))) rfl ?_
   obtain ⟨y429, hy429, h⟩ := bind_eq_some_iff.mp h
   refine zB Ad W (f := fun y429 => (83, [vR 10, vI x1, vI x2, none, none], [.int y429, .ref 10], (H1x44 s e0 o y417))) rfl hy429 ?_
   refine zS Ad W 1 (st' := (87, [vR 10, vI x1, vI x2, none, none], [.int y429, .ref 10], (H1x44 s e0 o y417))) rfl ?_
   have E430 : ((H1x44 s e0 o y417) : QHeap) = (H1 s e0 (s_selUseR o y417)) := by simp only [fs, H1, H1v, H1x44, s_selUseR]
   rw [E430]
   exact zM [tt,ff,tt,ff,ff] (tJ23_87a1 Ad W s e0 (s_selUseR o y417) x2 y429 h)
 rcases em (x1 = (-1:Int32)) with hc416 | hc416
 ·refine zT Ad W (t := 65) (f := 61) rfl (XT.ii_eq_t hc416) ?_
  refine zS Ad W 1 (st' := (66, [vR 10, vI x1, vI x2, none, none], [.int (0:Int32), .ref 10], (H1 s e0 o))) rfl ?_
  exact zM [tt,tt,tt,ff,ff] (K415 _ (if_pos hc416).symm)
 ·refine zF Ad W (t := 65) (f := 61) rfl (XT.ii_eq_f hc416) ?_
  refine zS Ad W 2 (st' := (66, [vR 10, vI x1, vI x2, none, none], [.int (1:Int32), .ref 10], (H1 s e0 o))) rfl ?_
  exact zM [tt,tt,tt,ff,ff] (K415 _ (if_neg hc416).symm)
theorem tJ23_38a1 (Ad : QAd n0 ad) (W : QW Z a0) (s : List Int32) (e0 : Ob) (o : Ob) (x1 : Int32) (x2 : Int32) (x4 : Int32) {r : Int32 × Ob} (h : J23_38 o x1 x2 x4 = some r) : QTri l Z n0 ad 23 (38, [vR 10, vI x1, vI x2, none, vI x4], [], (H1 s e0 o)) (some (Value.int r.1)) (H1 s e0 r.2) := by
 unfold J23_38 at h
 refine zS Ad W 2 (st' := (40, [vR 10, vI x1, vI x2, none, vI x4], [.int (-1:Int32), .int x2], (H1 s e0 o))) rfl ?_
 rcases qite h with ⟨hc413, h⟩ | ⟨hc413, h⟩
 ·refine zT Ad W (t := 55) (f := 43) rfl (XT.ii_eq_t hc413) ?_
  exact zM [tt,tt,tt,ff,ff] (tJ23_55a1 Ad W s e0 o x1 x2 h)
 ·refine zF Ad W (t := 55) (f := 43) rfl (XT.ii_eq_f hc413) ?_
  refine zS Ad W 1 (st' := (44, [vR 10, vI x1, vI x2, none, vI x4], [.int x2], (H1 s e0 o))) rfl ?_
  rcases qite h with ⟨hc431, h⟩ | ⟨hc431, h⟩
  ·refine zT Ad W (t := 53) (f := 47) rfl (XT.i0_lt_t hc431) ?_
   refine zS Ad W 1 (st' := (54, [vR 10, vI x1, vI x2, none, vI x4], [.int (0:Int32)], (H1 s e0 o))) rfl ?_
   obtain rfl := Option.some.inj h
   exact QTri.retZ rfl rfl
  ·refine zF Ad W (t := 53) (f := 47) rfl (XT.i0_lt_f hc431) ?_
   refine zS Ad W 2 (st' := (50, [vR 10, vI x1, vI x2, none, vI x4], [.int x4, .int x2], (H1 s e0 o))) rfl ?_
   rcases qite h with ⟨hc432, h⟩ | ⟨hc432, h⟩
   ·refine zT Ad W (t := 55) (f := 53) rfl (XT.ii_lt_t hc432) ?_
    exact zM [tt,tt,tt,ff,ff] (tJ23_55a1 Ad W s e0 o x1 x2 h)
   ·refine zF Ad W (t := 55) (f := 53) rfl (XT.ii_lt_f hc432) ?_
    refine zS Ad W 1 (st' := (54, [vR 10, vI x1, vI x2, none, vI x4], [.int (0:Int32)], (H1 s e0 o))) rfl ?_
    obtain rfl := Option.some.inj h
    exact QTri.retZ rfl rfl
theorem tF23a1 (Ad : QAd n0 ad) (W : QW Z a0) (s : List Int32) (e0 : Ob) (o : Ob) (x1 : Int32) (x2 : Int32) {r : Int32 × Ob} (h : F23 o x1 x2 = some r) : QTri l Z n0 ad 23 (0, qentry [.ref 10, .int x1, .int x2] (pMaxL 23), [], (H1 s e0 o)) (some (Value.int r.1)) (H1 s e0 r.2) := by
 unfold F23 at h
 refine zS Ad W 4 (st' := (6, [vR 10, vI x1, vI x2, none, none], [.int (0:Int32), .int (f_rf o), .ref 10], (H1 s e0 o))) rfl ?_
 obtain ⟨r410, hr410, h⟩ := bind_eq_some_iff.mp h
 refine QTri.callP W (a := 10) (as := [.int (f_rf o), .int (0:Int32)]) (rest := []) (w := (some (.int r410.1))) (σ₁ := (H1 s e0 r410.2)) rfl rfl rfl rfl rfl rfl rfl rfl (tF17a1 Ad W s e0 o (f_rf o) (0:Int32) hr410) ?_
 refine zS Ad W 5 (st' := (17, [vR 10, vI x1, vI x2, vI r410.1, none], [.int (32:Int32), .int (f_cf r410.2), .ref 10], (H1 s e0 r410.2))) rfl ?_
 obtain ⟨r411, hr411, h⟩ := bind_eq_some_iff.mp h
 refine QTri.callP W (a := 10) (as := [.int (f_cf r410.2), .int (32:Int32)]) (rest := []) (w := (some (.int r411.1))) (σ₁ := (H1 s e0 r411.2)) rfl rfl rfl rfl rfl rfl rfl rfl (tF17a1 Ad W s e0 r410.2 (f_cf r410.2) (32:Int32) hr411) ?_
 refine zS Ad W 3 (st' := (24, [vR 10, vI x1, vI x2, vI r410.1, vI r411.1], [.int (-1:Int32), .int x1], (H1 s e0 r411.2))) rfl ?_
 rcases qite h with ⟨hc412, h⟩ | ⟨hc412, h⟩
 ·refine zT Ad W (t := 38) (f := 27) rfl (XT.ii_eq_t hc412) ?_
  exact zM [tt,tt,tt,ff,tt] (tJ23_38a1 Ad W s e0 r411.2 x1 x2 r411.1 h)
 ·refine zF Ad W (t := 38) (f := 27) rfl (XT.ii_eq_f hc412) ?_
  refine zS Ad W 1 (st' := (28, [vR 10, vI x1, vI x2, vI r410.1, vI r411.1], [.int x1], (H1 s e0 r411.2))) rfl ?_
  rcases qite h with ⟨hc433, h⟩ | ⟨hc433, h⟩
  ·refine zT Ad W (t := 36) (f := 31) rfl (XT.i0_lt_t hc433) ?_
   refine zS Ad W 1 (st' := (37, [vR 10, vI x1, vI x2, vI r410.1, vI r411.1], [.int (0:Int32)], (H1 s e0 r411.2))) rfl ?_
   obtain rfl := Option.some.inj h
   exact QTri.retZ rfl rfl
  ·refine zF Ad W (t := 36) (f := 31) rfl (XT.i0_lt_f hc433) ?_
   refine zS Ad W 2 (st' := (33, [vR 10, vI x1, vI x2, vI r410.1, vI r411.1], [.int r410.1, .int x1], (H1 s e0 r411.2))) rfl ?_
   rcases qite h with ⟨hc434, h⟩ | ⟨hc434, h⟩
   ·refine zT Ad W (t := 38) (f := 36) rfl (XT.ii_lt_t hc434) ?_
    exact zM [tt,tt,tt,ff,tt] (tJ23_38a1 Ad W s e0 r411.2 x1 x2 r411.1 h)
   ·refine zF Ad W (t := 38) (f := 36) rfl (XT.ii_lt_f hc434) ?_
    refine zS Ad W 1 (st' := (37, [vR 10, vI x1, vI x2, vI r410.1, vI r411.1], [.int (0:Int32)], (H1 s e0 r411.2))) rfl ?_
    obtain rfl := Option.some.inj h
    exact QTri.retZ rfl rfl
theorem tF22a1 (Ad : QAd n0 ad) (W : QW Z a0) (s : List Int32) (e0 : Ob) (o : Ob) (x1 : Int32) (x2 : Int32) {r : Int32 × Ob} (h : F22 o x1 x2 = some r) : QTri l Z n0 ad 22 (0, qentry [.ref 10, .int x1, .int x2] (pMaxL 22), [], (H1 s e0 o)) (some (Value.int r.1)) (H1 s e0 r.2) := by
 unfold F22 at h
 refine zS Ad W 3 (st' := (3, [vR 10, vI x1, vI x2], [.int x2, .int x1, .ref 10], (H1 s e0 o))) rfl ?_
 obtain ⟨r435, hr435, h⟩ := bind_eq_some_iff.mp h
 refine QTri.callP W (a := 10) (as := [.int x1, .int x2]) (rest := []) (w := (some (.int r435.1))) (σ₁ := (H1 s e0 r435.2)) rfl rfl rfl rfl rfl rfl rfl rfl (tF23a1 Ad W s e0 o x1 x2 hr435) ?_
 rcases qite h with ⟨hc436, h⟩ | ⟨hc436, h⟩
 ·refine zF Ad W (t := 11) (f := 9) rfl (XT.i0_ne_f hc436) ?_
  refine zS Ad W 1 (st' := (10, [vR 10, vI x1, vI x2], [.int (0:Int32)], (H1 s e0 r435.2))) rfl ?_
  obtain rfl := Option.some.inj h
  exact QTri.retI rfl rfl
 ·refine zT Ad W (t := 11) (f := 9) rfl (XT.i0_ne_t hc436) ?_
  refine zS Ad W 9 (st' := (28, [vR 10, vI x1, vI x2], [.int (f_selCk r435.2), .int (f_selUseC r435.2), .int (f_selRk r435.2), .int (f_selUseR r435.2), .ref 10], (H1 s e0 r435.2))) rfl ?_
  obtain ⟨r437, hr437, h⟩ := bind_eq_some_iff.mp h
  refine QTri.callP W (a := 10) (as := [.int (f_selUseR r435.2), .int (f_selRk r435.2), .int (f_selUseC r435.2), .int (f_selCk r435.2)]) (rest := []) (w := none) (σ₁ := (H1 s e0 r437)) rfl rfl rfl rfl rfl rfl rfl rfl (tF8a1 Ad W s e0 r435.2 (f_selUseR r435.2) (f_selRk r435.2) (f_selUseC r435.2) (f_selCk r435.2) hr437) ?_
  refine zS Ad W 2 (st' := (35, [vR 10, vI x1, vI x2], [.int (f_gVal r437)], (H1 s e0 r437))) rfl ?_
  obtain rfl := Option.some.inj h
  exact QTri.retI rfl rfl
/-- groupCount(II)I -/
def F24 (o : Ob) (x1 : Int32) (x2 : Int32) : Option (Int32 × Ob) :=
 (F23 o x1 x2).bind fun r440 => (if r440.1 = (0:Int32) then some ((0:Int32), r440.2) else (F8 r440.2 (f_selUseR r440.2) (f_selRk r440.2) (f_selUseC r440.2) (f_selCk r440.2)).bind fun r442 => some ((f_gCount r442), r442))
theorem tF24 (Ad : QAd n0 ad) (W : QW Z a0) (s : List Int32) (e0 : Ob) (o : Ob) (x1 : Int32) (x2 : Int32) {r : Int32 × Ob} (h : F24 o x1 x2 = some r) : QTri l Z n0 ad 24 (0, qentry [.ref 1, .int x1, .int x2] (pMaxL 24), [], (H1 s o e0)) (some (Value.int r.1)) (H1 s r.2 e0) := by
 unfold F24 at h
 refine zS Ad W 3 (st' := (3, [vR 1, vI x1, vI x2], [.int x2, .int x1, .ref 1], (H1 s o e0))) rfl ?_
 obtain ⟨r440, hr440, h⟩ := bind_eq_some_iff.mp h
 refine QTri.callP W (a := 1) (as := [.int x1, .int x2]) (rest := []) (w := (some (.int r440.1))) (σ₁ := (H1 s r440.2 e0)) rfl rfl rfl rfl rfl rfl rfl rfl (tF23 Ad W s e0 o x1 x2 hr440) ?_
 rcases qite h with ⟨hc441, h⟩ | ⟨hc441, h⟩
 ·refine zF Ad W (t := 11) (f := 9) rfl (XT.i0_ne_f hc441) ?_
  refine zS Ad W 1 (st' := (10, [vR 1, vI x1, vI x2], [.int (0:Int32)], (H1 s r440.2 e0))) rfl ?_
  obtain rfl := Option.some.inj h
  exact QTri.retI rfl rfl
 ·refine zT Ad W (t := 11) (f := 9) rfl (XT.i0_ne_t hc441) ?_
  refine zS Ad W 9 (st' := (28, [vR 1, vI x1, vI x2], [.int (f_selCk r440.2), .int (f_selUseC r440.2), .int (f_selRk r440.2), .int (f_selUseR r440.2), .ref 1], (H1 s r440.2 e0))) rfl ?_
  obtain ⟨r442, hr442, h⟩ := bind_eq_some_iff.mp h
  refine QTri.callP W (a := 1) (as := [.int (f_selUseR r440.2), .int (f_selRk r440.2), .int (f_selUseC r440.2), .int (f_selCk r440.2)]) (rest := []) (w := none) (σ₁ := (H1 s r442 e0)) rfl rfl rfl rfl rfl rfl rfl rfl (tF8a2 Ad W s e0 r440.2 (f_selUseR r440.2) (f_selRk r440.2) (f_selUseC r440.2) (f_selCk r440.2) hr442) ?_
  refine zS Ad W 2 (st' := (35, [vR 1, vI x1, vI x2], [.int (f_gCount r442)], (H1 s r442 e0))) rfl ?_
  obtain rfl := Option.some.inj h
  exact QTri.retI rfl rfl
theorem tF24a1 (Ad : QAd n0 ad) (W : QW Z a0) (s : List Int32) (e0 : Ob) (o : Ob) (x1 : Int32) (x2 : Int32) {r : Int32 × Ob} (h : F24 o x1 x2 = some r) : QTri l Z n0 ad 24 (0, qentry [.ref 10, .int x1, .int x2] (pMaxL 24), [], (H1 s e0 o)) (some (Value.int r.1)) (H1 s e0 r.2) := by
 unfold F24 at h
 refine zS Ad W 3 (st' := (3, [vR 10, vI x1, vI x2], [.int x2, .int x1, .ref 10], (H1 s e0 o))) rfl ?_
 obtain ⟨r444, hr444, h⟩ := bind_eq_some_iff.mp h
 refine QTri.callP W (a := 10) (as := [.int x1, .int x2]) (rest := []) (w := (some (.int r444.1))) (σ₁ := (H1 s e0 r444.2)) rfl rfl rfl rfl rfl rfl rfl rfl (tF23a1 Ad W s e0 o x1 x2 hr444) ?_
 rcases qite h with ⟨hc445, h⟩ | ⟨hc445, h⟩
 ·refine zF Ad W (t := 11) (f := 9) rfl (XT.i0_ne_f hc445) ?_
  refine zS Ad W 1 (st' := (10, [vR 10, vI x1, vI x2], [.int (0:Int32)], (H1 s e0 r444.2))) rfl ?_
  obtain rfl := Option.some.inj h
  exact QTri.retI rfl rfl
 ·refine zT Ad W (t := 11) (f := 9) rfl (XT.i0_ne_t hc445) ?_
  refine zS Ad W 9 (st' := (28, [vR 10, vI x1, vI x2], [.int (f_selCk r444.2), .int (f_selUseC r444.2), .int (f_selRk r444.2), .int (f_selUseR r444.2), .ref 10], (H1 s e0 r444.2))) rfl ?_
  obtain ⟨r446, hr446, h⟩ := bind_eq_some_iff.mp h
  refine QTri.callP W (a := 10) (as := [.int (f_selUseR r444.2), .int (f_selRk r444.2), .int (f_selUseC r444.2), .int (f_selCk r444.2)]) (rest := []) (w := none) (σ₁ := (H1 s e0 r446)) rfl rfl rfl rfl rfl rfl rfl rfl (tF8a1 Ad W s e0 r444.2 (f_selUseR r444.2) (f_selRk r444.2) (f_selUseC r444.2) (f_selCk r444.2) hr446) ?_
  refine zS Ad W 2 (st' := (35, [vR 10, vI x1, vI x2], [.int (f_gCount r446)], (H1 s e0 r446))) rfl ?_
  obtain rfl := Option.some.inj h
  exact QTri.retI rfl rfl
def B0_364 (s : List Int32) (x11 : Int32) (v : Int32 × Ob × Ob) : Option (((Ob × Ob) ⊕ (Int32 × QHeap)) ⊕ (Int32 × Ob × Ob)) :=
  (if v.1 < (8 : Int32) then (F22 v.2.1 x11 v.1).bind fun r409 => (F22 v.2.2 x11 v.1).bind fun r438 => (if r409.1 = r438.1 then (F24 r409.2 x11 v.1).bind fun r443 => (F24 r438.2 x11 v.1).bind fun r447 => (if r443.1 = r447.1 then some (.inr ((v.1 + (1 : Int32)), r443.2, r447.2)) else some (.inl (Sum.inr ((0 : Int32), (H1 s r443.2 r447.2))))) else some (.inl (Sum.inr ((0 : Int32), (H1 s r409.2 r438.2))))) else some (.inl (Sum.inl (v.2.1, v.2.2))))
theorem tB0_364 (Ad : QAd n0 ad) (W : QW Z a0) (s : List Int32) (x11 : Int32) (v : Int32 × Ob × Ob) {r : ((Ob × Ob) ⊕ (Int32 × QHeap)) ⊕ (Int32 × Ob × Ob)} {u : Option Value} {τ : QHeap} (h : B0_364 s x11 v = some r) (hx0 : ∀ x : Ob × Ob, r = .inl (Sum.inl x) → QTri l Z n0 ad 0 (437, [none, vR 1, none, none, none, none, vR 10, none, none, none, none, vI x11, none, none, none, none, none, none, none, none, none], [], (H1 s x.1 x.2)) u τ) (hx1 : ∀ x : Int32 × QHeap, r = .inl (Sum.inr x) → u = (some (Value.int x.1)) ∧ τ = x.2) (hc : ∀ x : Int32 × Ob × Ob, r = .inr x → QTri l Z n0 ad 0 (364, [none, vR 1, none, none, none, none, vR 10, none, none, none, none, vI x11, none, none, none, none, vI x.1, none, none, none, none], [], (H1 s x.2.1 x.2.2)) u τ) : QTri l Z n0 ad 0 (364, [none, vR 1, none, none, none, none, vR 10, none, none, none, none, vI x11, none, none, none, none, vI v.1, none, none, none, none], [], (H1 s v.2.1 v.2.2)) u τ := by
 unfold B0_364 at h
 refine zS Ad W 2 (st' := (368, [none, vR 1, none, none, none, none, vR 10, none, none, none, none, vI x11, none, none, none, none, vI v.1, none, none, none, none], [.int (8:Int32), .int v.1], (H1 s v.2.1 v.2.2))) rfl ?_
 rcases qite h with ⟨hc354, h⟩ | ⟨hc354, h⟩
 ·refine zF Ad W (t := 437) (f := 371) rfl (XT.ii_ge_f hc354) ?_
  refine zS Ad W 3 (st' := (376, [none, vR 1, none, none, none, none, vR 10, none, none, none, none, vI x11, none, none, none, none, vI v.1, none, none, none, none], [.int v.1, .int x11, .ref 1], (H1 s v.2.1 v.2.2))) rfl ?_
  obtain ⟨r409, hr409, h⟩ := bind_eq_some_iff.mp h
  refine QTri.callV W (a := 1) (as := [.int x11, .int v.1]) (rest := []) (w := (some (.int r409.1))) (σ₁ := (H1 s r409.2 v.2.2)) rfl rfl rfl rfl rfl rfl rfl rfl (tF22 Ad W s v.2.2 v.2.1 x11 v.1 hr409) ?_
  refine zS Ad W 4 (st' := (387, [none, vR 1, none, none, none, none, vR 10, none, none, none, none, vI x11, none, none, none, none, vI v.1, vI r409.1, none, none, none], [.int v.1, .int x11, .ref 10], (H1 s r409.2 v.2.2))) rfl ?_
  obtain ⟨r438, hr438, h⟩ := bind_eq_some_iff.mp h
  refine QTri.callV W (a := 10) (as := [.int x11, .int v.1]) (rest := []) (w := (some (.int r438.1))) (σ₁ := (H1 s r409.2 r438.2)) rfl rfl rfl rfl rfl rfl rfl rfl (tF22a1 Ad W s r409.2 v.2.2 x11 v.1 hr438) ?_
  refine zS Ad W 3 (st' := (396, [none, vR 1, none, none, none, none, vR 10, none, none, none, none, vI x11, none, none, none, none, vI v.1, vI r409.1, vI r438.1, none, none], [.int r438.1, .int r409.1], (H1 s r409.2 r438.2))) rfl ?_
  rcases qite h with ⟨hc439, h⟩ | ⟨hc439, h⟩
  ·refine zT Ad W (t := 401) (f := 399) rfl (XT.ii_eq_t hc439) ?_
   refine zS Ad W 3 (st' := (406, [none, vR 1, none, none, none, none, vR 10, none, none, none, none, vI x11, none, none, none, none, vI v.1, vI r409.1, vI r438.1, none, none], [.int v.1, .int x11, .ref 1], (H1 s r409.2 r438.2))) rfl ?_
   obtain ⟨r443, hr443, h⟩ := bind_eq_some_iff.mp h
   refine QTri.callV W (a := 1) (as := [.int x11, .int v.1]) (rest := []) (w := (some (.int r443.1))) (σ₁ := (H1 s r443.2 r438.2)) rfl rfl rfl rfl rfl rfl rfl rfl (tF24 Ad W s r438.2 r409.2 x11 v.1 hr443) ?_
   refine zS Ad W 4 (st' := (417, [none, vR 1, none, none, none, none, vR 10, none, none, none, none, vI x11, none, none, none, none, vI v.1, vI r409.1, vI r438.1, vI r443.1, none], [.int v.1, .int x11, .ref 10], (H1 s r443.2 r438.2))) rfl ?_
   obtain ⟨r447, hr447, h⟩ := bind_eq_some_iff.mp h
   refine QTri.callV W (a := 10) (as := [.int x11, .int v.1]) (rest := []) (w := (some (.int r447.1))) (σ₁ := (H1 s r443.2 r447.2)) rfl rfl rfl rfl rfl rfl rfl rfl (tF24a1 Ad W s r443.2 r438.2 x11 v.1 hr447) ?_
   refine zS Ad W 3 (st' := (426, [none, vR 1, none, none, none, none, vR 10, none, none, none, none, vI x11, none, none, none, none, vI v.1, vI r409.1, vI r438.1, vI r443.1, vI r447.1], [.int r447.1, .int r443.1], (H1 s r443.2 r447.2))) rfl ?_
   rcases qite h with ⟨hc448, h⟩ | ⟨hc448, h⟩
   ·refine zT Ad W (t := 431) (f := 429) rfl (XT.ii_eq_t hc448) ?_
    refine zS Ad W 2 (st' := (364, [none, vR 1, none, none, none, none, vR 10, none, none, none, none, vI x11, none, none, none, none, vI (v.1 + (1:Int32)), vI r409.1, vI r438.1, vI r443.1, vI r447.1], [], (H1 s r443.2 r447.2))) rfl ?_
    obtain rfl := Option.some.inj h
    exact zM [ff,tt,ff,ff,ff,ff,tt,ff,ff,ff,ff,tt,ff,ff,ff,ff,tt,ff,ff,ff,ff] (hc ((v.1 + (1:Int32)), r443.2, r447.2) rfl)
   ·refine zF Ad W (t := 431) (f := 429) rfl (XT.ii_eq_f hc448) ?_
    refine zS Ad W 1 (st' := (430, [none, vR 1, none, none, none, none, vR 10, none, none, none, none, vI x11, none, none, none, none, vI v.1, vI r409.1, vI r438.1, vI r443.1, vI r447.1], [.int (0:Int32)], (H1 s r443.2 r447.2))) rfl ?_
    obtain rfl := Option.some.inj h
    obtain ⟨rfl, rfl⟩ := hx1 ((0:Int32), (H1 s r443.2 r447.2)) rfl
    exact QTri.retZ rfl rfl
  ·refine zF Ad W (t := 401) (f := 399) rfl (XT.ii_eq_f hc439) ?_
   refine zS Ad W 1 (st' := (400, [none, vR 1, none, none, none, none, vR 10, none, none, none, none, vI x11, none, none, none, none, vI v.1, vI r409.1, vI r438.1, none, none], [.int (0:Int32)], (H1 s r409.2 r438.2))) rfl ?_
   obtain rfl := Option.some.inj h
   obtain ⟨rfl, rfl⟩ := hx1 ((0:Int32), (H1 s r409.2 r438.2)) rfl
   exact QTri.retZ rfl rfl
 ·refine zT Ad W (t := 437) (f := 371) rfl (XT.ii_ge_t hc354) ?_
  obtain rfl := Option.some.inj h
  exact zM [ff,tt,ff,ff,ff,ff,tt,ff,ff,ff,ff,tt,ff,ff,ff,ff,ff,ff,ff,ff,ff] (hx0 (v.2.1, v.2.2) rfl)
def B0_302 (s : List Int32) (v : Int32 × Ob × Ob) : Option (((Int32 × QHeap)) ⊕ (Int32 × Ob × Ob)) :=
  (if v.1 < (8 : Int32) then (F20 v.2.1 v.1).bind fun r336 => (F20 v.2.2 v.1).bind fun r341 => (if r336.1 = r341.1 then (F21 r336.2 v.1).bind fun r347 => (F21 r341.2 v.1).bind fun r352 => (if r347.1 = r352.1 then ((loopN (B0_364 s v.1) qN ((-1 : Int32), r347.2, r352.2)).bind fun e449 => match e449 with | .inl e449a => some (.inr ((v.1 + (1 : Int32)), e449a.1, e449a.2)) | .inr e449a => some (.inl e449a)) else some (.inl ((0 : Int32), (H1 s r347.2 r352.2)))) else some (.inl ((0 : Int32), (H1 s r336.2 r341.2)))) else some (.inl ((1 : Int32), (H1 s v.2.1 v.2.2))))
theorem tB0_302 (Ad : QAd n0 ad) (W : QW Z a0) (s : List Int32) (v : Int32 × Ob × Ob) {r : ((Int32 × QHeap)) ⊕ (Int32 × Ob × Ob)} {u : Option Value} {τ : QHeap} (h : B0_302 s v = some r) (hx0 : ∀ x : Int32 × QHeap, r = .inl x → u = (some (Value.int x.1)) ∧ τ = x.2) (hc : ∀ x : Int32 × Ob × Ob, r = .inr x → QTri l Z n0 ad 0 (302, [none, vR 1, none, none, none, none, vR 10, none, none, none, none, vI x.1, none, none, none, none, none, none, none, none, none], [], (H1 s x.2.1 x.2.2)) u τ) : QTri l Z n0 ad 0 (302, [none, vR 1, none, none, none, none, vR 10, none, none, none, none, vI v.1, none, none, none, none, none, none, none, none, none], [], (H1 s v.2.1 v.2.2)) u τ := by
 unfold B0_302 at h
 refine zS Ad W 2 (st' := (306, [none, vR 1, none, none, none, none, vR 10, none, none, none, none, vI v.1, none, none, none, none, none, none, none, none, none], [.int (8:Int32), .int v.1], (H1 s v.2.1 v.2.2))) rfl ?_
 rcases qite h with ⟨hc331, h⟩ | ⟨hc331, h⟩
 ·refine zF Ad W (t := 443) (f := 309) rfl (XT.ii_ge_f hc331) ?_
  refine zS Ad W 2 (st' := (312, [none, vR 1, none, none, none, none, vR 10, none, none, none, none, vI v.1, none, none, none, none, none, none, none, none, none], [.int v.1, .ref 1], (H1 s v.2.1 v.2.2))) rfl ?_
  obtain ⟨r336, hr336, h⟩ := bind_eq_some_iff.mp h
  refine QTri.callV W (a := 1) (as := [.int v.1]) (rest := []) (w := (some (.int r336.1))) (σ₁ := (H1 s r336.2 v.2.2)) rfl rfl rfl rfl rfl rfl rfl rfl (tF20 Ad W s v.2.2 v.2.1 v.1 hr336) ?_
  refine zS Ad W 3 (st' := (321, [none, vR 1, none, none, none, none, vR 10, none, none, none, none, vI v.1, vI r336.1, none, none, none, none, none, none, none, none], [.int v.1, .ref 10], (H1 s r336.2 v.2.2))) rfl ?_
  obtain ⟨r341, hr341, h⟩ := bind_eq_some_iff.mp h
  refine QTri.callV W (a := 10) (as := [.int v.1]) (rest := []) (w := (some (.int r341.1))) (σ₁ := (H1 s r336.2 r341.2)) rfl rfl rfl rfl rfl rfl rfl rfl (tF20a1 Ad W s r336.2 v.2.2 v.1 hr341) ?_
  refine zS Ad W 3 (st' := (330, [none, vR 1, none, none, none, none, vR 10, none, none, none, none, vI v.1, vI r336.1, vI r341.1, none, none, none, none, none, none, none], [.int r341.1, .int r336.1], (H1 s r336.2 r341.2))) rfl ?_
  rcases qite h with ⟨hc342, h⟩ | ⟨hc342, h⟩
  ·refine zT Ad W (t := 335) (f := 333) rfl (XT.ii_eq_t hc342) ?_
   refine zS Ad W 2 (st' := (338, [none, vR 1, none, none, none, none, vR 10, none, none, none, none, vI v.1, vI r336.1, vI r341.1, none, none, none, none, none, none, none], [.int v.1, .ref 1], (H1 s r336.2 r341.2))) rfl ?_
   obtain ⟨r347, hr347, h⟩ := bind_eq_some_iff.mp h
   refine QTri.callV W (a := 1) (as := [.int v.1]) (rest := []) (w := (some (.int r347.1))) (σ₁ := (H1 s r347.2 r341.2)) rfl rfl rfl rfl rfl rfl rfl rfl (tF21 Ad W s r341.2 r336.2 v.1 hr347) ?_
   refine zS Ad W 3 (st' := (347, [none, vR 1, none, none, none, none, vR 10, none, none, none, none, vI v.1, vI r336.1, vI r341.1, vI r347.1, none, none, none, none, none, none], [.int v.1, .ref 10], (H1 s r347.2 r341.2))) rfl ?_
   obtain ⟨r352, hr352, h⟩ := bind_eq_some_iff.mp h
   refine QTri.callV W (a := 10) (as := [.int v.1]) (rest := []) (w := (some (.int r352.1))) (σ₁ := (H1 s r347.2 r352.2)) rfl rfl rfl rfl rfl rfl rfl rfl (tF21a1 Ad W s r347.2 r341.2 v.1 hr352) ?_
   refine zS Ad W 3 (st' := (356, [none, vR 1, none, none, none, none, vR 10, none, none, none, none, vI v.1, vI r336.1, vI r341.1, vI r347.1, vI r352.1, none, none, none, none, none], [.int r352.1, .int r347.1], (H1 s r347.2 r352.2))) rfl ?_
   rcases qite h with ⟨hc353, h⟩ | ⟨hc353, h⟩
   ·refine zT Ad W (t := 361) (f := 359) rfl (XT.ii_eq_t hc353) ?_
    refine zS Ad W 2 (st' := (364, [none, vR 1, none, none, none, none, vR 10, none, none, none, none, vI v.1, vI r336.1, vI r341.1, vI r347.1, vI r352.1, vI (-1:Int32), none, none, none, none], [], (H1 s r347.2 r352.2))) rfl ?_
    obtain ⟨e449, he449, h⟩ := bind_eq_some_iff.mp h
    refine zM [ff,tt,ff,ff,ff,ff,tt,ff,ff,ff,ff,tt,ff,ff,ff,ff,tt,ff,ff,ff,ff] (loopN_tri (B := B0_364 s v.1) (T := fun lv450 => QTri l Z n0 ad 0 (364, [none, vR 1, none, none, none, none, vR 10, none, none, none, none, vI v.1, none, none, none, none, vI lv450.1, none, none, none, none], [], (H1 s lv450.2.1 lv450.2.2)) u τ) (KE := fun e => match e with | .inl e449a => QTri l Z n0 ad 0 (437, [none, vR 1, none, none, none, none, vR 10, none, none, none, none, vI v.1, none, none, none, none, none, none, none, none, none], [], (H1 s e449a.1 e449a.2)) u τ | .inr e449a => u = (some (Value.int e449a.1)) ∧ τ = e449a.2) (fun lv450 r hB hE hC => tB0_364 Ad W s v.1 lv450 hB (fun x q => hE _ q) (fun x q => hE _ q) (fun x q => hC x q)) qN ((-1:Int32), r347.2, r352.2) e449 he449 ?_)
    rcases e449 with e449a | e449a
    ·refine zS Ad W 2 (st' := (302, [none, vR 1, none, none, none, none, vR 10, none, none, none, none, vI (v.1 + (1:Int32)), none, none, none, none, none, none, none, none, none], [], (H1 s e449a.1 e449a.2))) rfl ?_
     obtain rfl := Option.some.inj h
     exact zM [ff,tt,ff,ff,ff,ff,tt,ff,ff,ff,ff,tt,ff,ff,ff,ff,ff,ff,ff,ff,ff] (hc ((v.1 + (1:Int32)), e449a.1, e449a.2) rfl)
    ·obtain rfl := Option.some.inj h
     exact hx0 e449a rfl
   ·refine zF Ad W (t := 361) (f := 359) rfl (XT.ii_eq_f hc353) ?_
    refine zS Ad W 1 (st' := (360, [none, vR 1, none, none, none, none, vR 10, none, none, none, none, vI v.1, vI r336.1, vI r341.1, vI r347.1, vI r352.1, none, none, none, none, none], [.int (0:Int32)], (H1 s r347.2 r352.2))) rfl ?_
    obtain rfl := Option.some.inj h
    obtain ⟨rfl, rfl⟩ := hx0 ((0:Int32), (H1 s r347.2 r352.2)) rfl
    exact QTri.retZ rfl rfl
  ·refine zF Ad W (t := 335) (f := 333) rfl (XT.ii_eq_f hc342) ?_
   refine zS Ad W 1 (st' := (334, [none, vR 1, none, none, none, none, vR 10, none, none, none, none, vI v.1, vI r336.1, vI r341.1, none, none, none, none, none, none, none], [.int (0:Int32)], (H1 s r336.2 r341.2))) rfl ?_
   obtain rfl := Option.some.inj h
   obtain ⟨rfl, rfl⟩ := hx0 ((0:Int32), (H1 s r336.2 r341.2)) rfl
   exact QTri.retZ rfl rfl
 ·refine zT Ad W (t := 443) (f := 309) rfl (XT.ii_ge_t hc331) ?_
  refine zS Ad W 1 (st' := (444, [none, vR 1, none, none, none, none, vR 10, none, none, none, none, vI v.1, none, none, none, none, none, none, none, none, none], [.int (1:Int32)], (H1 s v.2.1 v.2.2))) rfl ?_
  obtain rfl := Option.some.inj h
  obtain ⟨rfl, rfl⟩ := hx0 ((1:Int32), (H1 s v.2.1 v.2.2)) rfl
  exact QTri.retZ rfl rfl
/-- the law -/
def F0 (s : List Int32) : Option (Int32 × QHeap) :=
 (F1 (8:Int32) (4:Int32)).bind fun r14 => (loopN (B0_24 s) qN ((0:Int32), (1:Int32), (2:Int32), (0:Int32), (0:Int32), r14)).bind fun e147 => (F1 (8:Int32) (1:Int32)).bind fun r162 => (loopN (B0_180 s e147.1 e147.2.1 e147.2.2.1 e147.2.2.2.1) qN ((0:Int32), e147.2.2.2.2, r162)).bind fun e256 => (F11 e256.2 e147.1 e147.2.1 e147.2.2.1 e147.2.2.2.1).bind fun r270 => (F16 e256.1).bind fun r297 => (F16 r270.2).bind fun r324 => (if r297.1 = r324.1 then (F19 r297.2).bind fun r327 => (F19 r324.2).bind fun r329 => (if r327.1 = r329.1 then (loopN (B0_302 s) qN ((-1:Int32), r327.2, r329.2)).bind fun e451 => some e451 else some ((0:Int32), (H1 s r327.2 r329.2))) else some ((0:Int32), (H1 s r297.2 r324.2)))
theorem tF0 (Ad : QAd n0 ad) (W : QW Z a0) (s : List Int32) {r : Int32 × QHeap} (h : F0 s = some r) : QTri l Z n0 ad 0 (0, qentry [.ref 0] (pMaxL 0), [], [.inr (.inl (.int, s))]) (some (Value.int r.1)) r.2 := by
 unfold F0 at h
 refine zS Ad W 1 (st' := (3, [vR 0, none, none, none, none, none, none, none, none, none, none, none, none, none, none, none, none, none, none, none, none], [.ref 1], [.inr (.inl (.int, s)), .inl [.null, .null, .int (f_rf ob0), .int (f_cf ob0), .int (f_vf ob0), .int (f_ag ob0), .null, .null, .null, .null, .null, .null, .int (f_nRows ob0), .int (f_nForms ob0), .int (f_last ob0), .int (f_gVal ob0), .int (f_gCount ob0), .int (f_selUseR ob0), .int (f_selRk ob0), .int (f_selUseC ob0), .int (f_selCk ob0)]])) rfl ?_
 refine zS Ad W 3 (st' := (7, [vR 0, none, none, none, none, none, none, none, none, none, none, none, none, none, none, none, none, none, none, none, none], [.int (4:Int32), .int (8:Int32), .ref 1, .ref 1], [.inr (.inl (.int, s)), .inl [.null, .null, .int (f_rf ob0), .int (f_cf ob0), .int (f_vf ob0), .int (f_ag ob0), .null, .null, .null, .null, .null, .null, .int (f_nRows ob0), .int (f_nForms ob0), .int (f_last ob0), .int (f_gVal ob0), .int (f_gCount ob0), .int (f_selUseR ob0), .int (f_selRk ob0), .int (f_selUseC ob0), .int (f_selCk ob0)]])) rfl ?_
 obtain ⟨r14, hr14, h⟩ := bind_eq_some_iff.mp h
 refine QTri.callI W (a := 1) (as := [.int (8:Int32), .int (4:Int32)]) (rest := [.ref 1]) (σ₁ := (H0 s r14)) rfl rfl rfl rfl rfl rfl (tF1 Ad W s (8:Int32) (4:Int32) hr14) ?_
 refine zS Ad W 3 (st' := (13, [vR 0, vR 1, vI (0:Int32), none, none, none, none, none, none, none, none, none, none, none, none, none, none, none, none, none, none], [], (H0 s r14))) rfl ?_
 refine zS Ad W 4 (st' := (18, [vR 0, vR 1, vI (0:Int32), vI (1:Int32), vI (2:Int32), none, none, none, none, none, none, none, none, none, none, none, none, none, none, none, none], [], (H0 s r14))) rfl ?_
 refine zS Ad W 4 (st' := (24, [vR 0, vR 1, vI (0:Int32), vI (1:Int32), vI (2:Int32), vI (0:Int32), vI (0:Int32), none, none, none, none, none, none, none, none, none, none, none, none, none, none], [], (H0 s r14))) rfl ?_
 obtain ⟨e147, he147, h⟩ := bind_eq_some_iff.mp h
 refine zM [tt,tt,tt,tt,tt,tt,tt,ff,ff,ff,ff,ff,ff,ff,ff,ff,ff,ff,ff,ff,ff] (loopN_tri (B := B0_24 s) (T := fun lv148 => QTri l Z n0 ad 0 (24, [vR 0, vR 1, vI lv148.1, vI lv148.2.1, vI lv148.2.2.1, vI lv148.2.2.2.1, vI lv148.2.2.2.2.1, none, none, none, none, none, none, none, none, none, none, none, none, none, none], [], (H0 s lv148.2.2.2.2.2)) (some (Value.int r.1)) r.2) (KE := fun e147a => QTri l Z n0 ad 0 (165, [none, vR 1, vI e147a.1, vI e147a.2.1, vI e147a.2.2.1, vI e147a.2.2.2.1, none, none, none, none, none, none, none, none, none, none, none, none, none, none, none], [], (H0 s e147a.2.2.2.2)) (some (Value.int r.1)) r.2) (fun lv148 r hB hE hC => tB0_24 Ad W s lv148 hB (fun x q => hE _ q) (fun x q => hC x q)) qN ((0:Int32), (1:Int32), (2:Int32), (0:Int32), (0:Int32), r14) e147 he147 ?_)
 refine zS Ad W 1 (st' := (168, [none, vR 1, vI e147.1, vI e147.2.1, vI e147.2.2.1, vI e147.2.2.2.1, none, none, none, none, none, none, none, none, none, none, none, none, none, none, none], [.ref 10], [.inr (.inl (.int, s)), .inl [.ref 2, .ref 3, .int (f_rf e147.2.2.2.2), .int (f_cf e147.2.2.2.2), .int (f_vf e147.2.2.2.2), .int (f_ag e147.2.2.2.2), .ref 4, .ref 5, .ref 6, .ref 7, .ref 8, .ref 9, .int (f_nRows e147.2.2.2.2), .int (f_nForms e147.2.2.2.2), .int (f_last e147.2.2.2.2), .int (f_gVal e147.2.2.2.2), .int (f_gCount e147.2.2.2.2), .int (f_selUseR e147.2.2.2.2), .int (f_selRk e147.2.2.2.2), .int (f_selUseC e147.2.2.2.2), .int (f_selCk e147.2.2.2.2)], .inr (.inl (.int, (f_data e147.2.2.2.2))), .inr (.inl (.boolean, (f_filled e147.2.2.2.2))), .inr (.inl (.int, (f_fMode e147.2.2.2.2))), .inr (.inl (.int, (f_fRk e147.2.2.2.2))), .inr (.inl (.int, (f_fCk e147.2.2.2.2))), .inr (.inl (.int, (f_prevVal e147.2.2.2.2))), .inr (.inl (.boolean, (f_prevFound e147.2.2.2.2))), .inr (.inl (.int, (f_keys e147.2.2.2.2))), .inl [.null, .null, .int (f_rf ob0), .int (f_cf ob0), .int (f_vf ob0), .int (f_ag ob0), .null, .null, .null, .null, .null, .null, .int (f_nRows ob0), .int (f_nForms ob0), .int (f_last ob0), .int (f_gVal ob0), .int (f_gCount ob0), .int (f_selUseR ob0), .int (f_selRk ob0), .int (f_selUseC ob0), .int (f_selCk ob0)]])) rfl ?_
 refine zS Ad W 3 (st' := (172, [none, vR 1, vI e147.1, vI e147.2.1, vI e147.2.2.1, vI e147.2.2.2.1, none, none, none, none, none, none, none, none, none, none, none, none, none, none, none], [.int (1:Int32), .int (8:Int32), .ref 10, .ref 10], [.inr (.inl (.int, s)), .inl [.ref 2, .ref 3, .int (f_rf e147.2.2.2.2), .int (f_cf e147.2.2.2.2), .int (f_vf e147.2.2.2.2), .int (f_ag e147.2.2.2.2), .ref 4, .ref 5, .ref 6, .ref 7, .ref 8, .ref 9, .int (f_nRows e147.2.2.2.2), .int (f_nForms e147.2.2.2.2), .int (f_last e147.2.2.2.2), .int (f_gVal e147.2.2.2.2), .int (f_gCount e147.2.2.2.2), .int (f_selUseR e147.2.2.2.2), .int (f_selRk e147.2.2.2.2), .int (f_selUseC e147.2.2.2.2), .int (f_selCk e147.2.2.2.2)], .inr (.inl (.int, (f_data e147.2.2.2.2))), .inr (.inl (.boolean, (f_filled e147.2.2.2.2))), .inr (.inl (.int, (f_fMode e147.2.2.2.2))), .inr (.inl (.int, (f_fRk e147.2.2.2.2))), .inr (.inl (.int, (f_fCk e147.2.2.2.2))), .inr (.inl (.int, (f_prevVal e147.2.2.2.2))), .inr (.inl (.boolean, (f_prevFound e147.2.2.2.2))), .inr (.inl (.int, (f_keys e147.2.2.2.2))), .inl [.null, .null, .int (f_rf ob0), .int (f_cf ob0), .int (f_vf ob0), .int (f_ag ob0), .null, .null, .null, .null, .null, .null, .int (f_nRows ob0), .int (f_nForms ob0), .int (f_last ob0), .int (f_gVal ob0), .int (f_gCount ob0), .int (f_selUseR ob0), .int (f_selRk ob0), .int (f_selUseC ob0), .int (f_selCk ob0)]])) rfl ?_
 obtain ⟨r162, hr162, h⟩ := bind_eq_some_iff.mp h
 refine QTri.callI W (a := 10) (as := [.int (8:Int32), .int (1:Int32)]) (rest := [.ref 10]) (σ₁ := (H1 s e147.2.2.2.2 r162)) rfl rfl rfl rfl rfl rfl (tF1a1 Ad W s e147.2.2.2.2 (8:Int32) (1:Int32) hr162) ?_
 refine zS Ad W 3 (st' := (180, [none, vR 1, vI e147.1, vI e147.2.1, vI e147.2.2.1, vI e147.2.2.2.1, vR 10, vI (0:Int32), none, none, none, none, none, none, none, none, none, none, none, none, none], [], (H1 s e147.2.2.2.2 r162))) rfl ?_
 obtain ⟨e256, he256, h⟩ := bind_eq_some_iff.mp h
 refine zM [ff,tt,tt,tt,tt,tt,tt,tt,ff,ff,ff,ff,ff,ff,ff,ff,ff,ff,ff,ff,ff] (loopN_tri (B := B0_180 s e147.1 e147.2.1 e147.2.2.1 e147.2.2.2.1) (T := fun lv257 => QTri l Z n0 ad 0 (180, [none, vR 1, vI e147.1, vI e147.2.1, vI e147.2.2.1, vI e147.2.2.2.1, vR 10, vI lv257.1, none, none, none, none, none, none, none, none, none, none, none, none, none], [], (H1 s lv257.2.1 lv257.2.2)) (some (Value.int r.1)) r.2) (KE := fun e256a => QTri l Z n0 ad 0 (243, [none, vR 1, vI e147.1, vI e147.2.1, vI e147.2.2.1, vI e147.2.2.2.1, vR 10, none, none, none, none, none, none, none, none, none, none, none, none, none, none], [], (H1 s e256a.1 e256a.2)) (some (Value.int r.1)) r.2) (fun lv257 r hB hE hC => tB0_180 Ad W s e147.1 e147.2.1 e147.2.2.1 e147.2.2.2.1 lv257 hB (fun x q => hE _ q) (fun x q => hC x q)) qN ((0:Int32), e147.2.2.2.2, r162) e256 he256 ?_)
 refine zS Ad W 5 (st' := (251, [none, vR 1, vI e147.1, vI e147.2.1, vI e147.2.2.1, vI e147.2.2.2.1, vR 10, none, none, none, none, none, none, none, none, none, none, none, none, none, none], [.int e147.2.2.2.1, .int e147.2.2.1, .int e147.2.1, .int e147.1, .ref 10], (H1 s e256.1 e256.2))) rfl ?_
 obtain ⟨r270, hr270, h⟩ := bind_eq_some_iff.mp h
 refine QTri.callV W (a := 10) (as := [.int e147.1, .int e147.2.1, .int e147.2.2.1, .int e147.2.2.2.1]) (rest := []) (w := (some (.int r270.1))) (σ₁ := (H1 s e256.1 r270.2)) rfl rfl rfl rfl rfl rfl rfl rfl (tF11a1 Ad W s e256.1 e256.2 e147.1 e147.2.1 e147.2.2.1 e147.2.2.2.1 hr270) ?_
 refine zS Ad W 2 (st' := (256, [none, vR 1, vI e147.1, vI e147.2.1, vI e147.2.2.1, vI e147.2.2.2.1, vR 10, none, none, none, none, none, none, none, none, none, none, none, none, none, none], [.ref 1], (H1 s e256.1 r270.2))) rfl ?_
 obtain ⟨r297, hr297, h⟩ := bind_eq_some_iff.mp h
 refine QTri.callV W (a := 1) (as := []) (rest := []) (w := (some (.int r297.1))) (σ₁ := (H1 s r297.2 r270.2)) rfl rfl rfl rfl rfl rfl rfl rfl (tF16 Ad W s r270.2 e256.1 hr297) ?_
 refine zS Ad W 2 (st' := (263, [none, vR 1, vI e147.1, vI e147.2.1, vI e147.2.2.1, vI e147.2.2.2.1, vR 10, vI r297.1, none, none, none, none, none, none, none, none, none, none, none, none, none], [.ref 10], (H1 s r297.2 r270.2))) rfl ?_
 obtain ⟨r324, hr324, h⟩ := bind_eq_some_iff.mp h
 refine QTri.callV W (a := 10) (as := []) (rest := []) (w := (some (.int r324.1))) (σ₁ := (H1 s r297.2 r324.2)) rfl rfl rfl rfl rfl rfl rfl rfl (tF16a1 Ad W s r297.2 r270.2 hr324) ?_
 refine zS Ad W 3 (st' := (272, [none, vR 1, vI e147.1, vI e147.2.1, vI e147.2.2.1, vI e147.2.2.2.1, vR 10, vI r297.1, vI r324.1, none, none, none, none, none, none, none, none, none, none, none, none], [.int r324.1, .int r297.1], (H1 s r297.2 r324.2))) rfl ?_
 rcases qite h with ⟨hc325, h⟩ | ⟨hc325, h⟩
 ·refine zT Ad W (t := 277) (f := 275) rfl (XT.ii_eq_t hc325) ?_
  refine zS Ad W 1 (st' := (278, [none, vR 1, vI e147.1, vI e147.2.1, vI e147.2.2.1, vI e147.2.2.2.1, vR 10, vI r297.1, vI r324.1, none, none, none, none, none, none, none, none, none, none, none, none], [.ref 1], (H1 s r297.2 r324.2))) rfl ?_
  obtain ⟨r327, hr327, h⟩ := bind_eq_some_iff.mp h
  refine QTri.callV W (a := 1) (as := []) (rest := []) (w := (some (.int r327.1))) (σ₁ := (H1 s r327.2 r324.2)) rfl rfl rfl rfl rfl rfl rfl rfl (tF19 Ad W s r324.2 r297.2 hr327) ?_
  refine zS Ad W 2 (st' := (285, [none, vR 1, vI e147.1, vI e147.2.1, vI e147.2.2.1, vI e147.2.2.2.1, vR 10, vI r297.1, vI r324.1, vI r327.1, none, none, none, none, none, none, none, none, none, none, none], [.ref 10], (H1 s r327.2 r324.2))) rfl ?_
  obtain ⟨r329, hr329, h⟩ := bind_eq_some_iff.mp h
  refine QTri.callV W (a := 10) (as := []) (rest := []) (w := (some (.int r329.1))) (σ₁ := (H1 s r327.2 r329.2)) rfl rfl rfl rfl rfl rfl rfl rfl (tF19a1 Ad W s r327.2 r324.2 hr329) ?_
  refine zS Ad W 3 (st' := (294, [none, vR 1, vI e147.1, vI e147.2.1, vI e147.2.2.1, vI e147.2.2.2.1, vR 10, vI r297.1, vI r324.1, vI r327.1, vI r329.1, none, none, none, none, none, none, none, none, none, none], [.int r329.1, .int r327.1], (H1 s r327.2 r329.2))) rfl ?_
  rcases qite h with ⟨hc330, h⟩ | ⟨hc330, h⟩
  ·refine zT Ad W (t := 299) (f := 297) rfl (XT.ii_eq_t hc330) ?_
   refine zS Ad W 2 (st' := (302, [none, vR 1, vI e147.1, vI e147.2.1, vI e147.2.2.1, vI e147.2.2.2.1, vR 10, vI r297.1, vI r324.1, vI r327.1, vI r329.1, vI (-1:Int32), none, none, none, none, none, none, none, none, none], [], (H1 s r327.2 r329.2))) rfl ?_
   obtain ⟨e451, he451, h⟩ := bind_eq_some_iff.mp h
   refine zM [ff,tt,ff,ff,ff,ff,tt,ff,ff,ff,ff,tt,ff,ff,ff,ff,ff,ff,ff,ff,ff] (loopN_tri (B := B0_302 s) (T := fun lv452 => QTri l Z n0 ad 0 (302, [none, vR 1, none, none, none, none, vR 10, none, none, none, none, vI lv452.1, none, none, none, none, none, none, none, none, none], [], (H1 s lv452.2.1 lv452.2.2)) (some (Value.int r.1)) r.2) (KE := fun e451a => (some (Value.int r.1)) = (some (Value.int e451a.1)) ∧ r.2 = e451a.2) (fun lv452 r hB hE hC => tB0_302 Ad W s lv452 hB (fun x q => hE _ q) (fun x q => hC x q)) qN ((-1:Int32), r327.2, r329.2) e451 he451 ?_)
   obtain rfl := Option.some.inj h
   exact ⟨rfl, rfl⟩
  ·refine zF Ad W (t := 299) (f := 297) rfl (XT.ii_eq_f hc330) ?_
   refine zS Ad W 1 (st' := (298, [none, vR 1, vI e147.1, vI e147.2.1, vI e147.2.2.1, vI e147.2.2.2.1, vR 10, vI r297.1, vI r324.1, vI r327.1, vI r329.1, none, none, none, none, none, none, none, none, none, none], [.int (0:Int32)], (H1 s r327.2 r329.2))) rfl ?_
   obtain rfl := Option.some.inj h
   exact QTri.retZ rfl rfl
 ·refine zF Ad W (t := 277) (f := 275) rfl (XT.ii_eq_f hc325) ?_
  refine zS Ad W 1 (st' := (276, [none, vR 1, vI e147.1, vI e147.2.1, vI e147.2.2.1, vI e147.2.2.2.1, vR 10, vI r297.1, vI r324.1, none, none, none, none, none, none, none, none, none, none, none, none], [.int (0:Int32)], (H1 s r297.2 r324.2))) rfl ?_
  obtain rfl := Option.some.inj h
  exact QTri.retZ rfl rfl
end Walks
theorem script_ok {s : State} {w : Value} (hfit : Fit s) (h1 : (Jvm.Cond.arrayOf (Jvm.Term.arg 0) Jvm.ClassFile.FieldType.int).value #[w] s none s [] = some true) (h2 : (Jvm.Cond.le (Jvm.Term.length (Jvm.Term.arg 0)) (Jvm.Term.int 260)).value #[w] s none s [] = some true) :
    ∃ (a : Addr) (c : Cell) (xs : List Int32), w = .ref a ∧ Arr s s.heap a c .int ∧ c.slots = (xs.map Value.int).toArray ∧ xs.length ≤ 260 := by
  obtain ⟨a, ha⟩ := arr_v h1
  obtain ⟨c, A⟩ := Arr.start ha h1
  have hw : w = .ref a := by simpa [Term.eval] using ha
  subst hw
  have hel : ∀ i, i < c.slots.size → ∃ x, c.slots[i]? = some (.int x) := fun i hi => by
    have q := hfit A.1 hi
    obtain ⟨hs, k, hk, comp, hkind⟩ := A.2.1
    have e : s.slotType? c.cls c.vm i = some .int := by
      cases hq : c.vm <;> first | exact absurd hq (hs _) | simp [State.slotType?, hk, hkind]
    have q2 : fits .int c.slots[i] = true := by simpa [State.fitsSlot, e] using q
    obtain ⟨x, hx⟩ := fit_I q2 (Or.inl rfl)
    exact ⟨x, by rw [Array.getElem?_eq_getElem hi, hx]⟩
  refine ⟨a, c, c.slots.toList.map (fun v => match v with | .int x => x | _ => 0), rfl, A, ?_, ?_⟩
  · apply Array.ext'
    rw [List.map_map]
    have : c.slots.toList.map (Value.int ∘ fun v => match v with | .int x => x | _ => 0) = c.slots.toList := by
      conv => rhs; rw [← List.map_id c.slots.toList]
      refine List.map_congr_left fun v hv => ?_
      obtain ⟨i, hi⟩ := List.mem_iff_getElem?.mp hv
      rw [Array.getElem?_toList] at hi
      obtain ⟨x, hx⟩ := hel i (Array.getElem?_eq_some_iff.mp hi).1
      rw [hi] at hx
      cases hx
      rfl
    exact this.symm
  · have hl := A.fin (Vm.Alike.refl _)
    simp only [List.length_map, Array.length_toList]
    simp only [Cond.value, Term.eval] at h2
    simp [hl] at h2
    by_cases hs : c.slots.size < 2147483648
    · rw [if_pos hs] at h2
      have h3 : c.slots.size.toInt32 ≤ 260 := by simpa using h2
      rw [Int32.le_iff_toInt_le] at h3
      have h4 : (c.slots.size.toInt32).toInt = c.slots.size := Int32.toInt_ofNat_of_lt (by omega)
      rw [h4] at h3
      have h5 : (260 : Int32).toInt = 260 := rfl
      rw [h5] at h3
      omega
    · rw [if_neg hs] at h2
      simp at h2
set_option maxHeartbeats 4000000
theorem i_lt {x y : Int32} : x < y ↔ x.toInt < y.toInt := Int32.lt_iff_toInt_lt
theorem i_eq {x y : Int32} : x = y ↔ x.toInt = y.toInt := Int32.toInt_inj.symm
theorem i_lo (x : Int32) : -2147483648 ≤ x.toInt := Int32.le_toInt x
theorem i_hi (x : Int32) : x.toInt < 2147483648 := Int32.toInt_lt x
theorem i_add {x y : Int32} (h1 : -2147483648 ≤ x.toInt + y.toInt) (h2 : x.toInt + y.toInt < 2147483648) : (x + y).toInt = x.toInt + y.toInt := XT.add32 ⟨h1, by omega⟩
theorem i_sub {x y : Int32} (h1 : -2147483648 ≤ x.toInt - y.toInt) (h2 : x.toInt - y.toInt < 2147483648) : (x - y).toInt = x.toInt - y.toInt := XT.sub32 ⟨h1, by omega⟩
theorem i_mul {x y : Int32} (h1 : -2147483648 ≤ x.toInt * y.toInt) (h2 : x.toInt * y.toInt < 2147483648) : (x * y).toInt = x.toInt * y.toInt := XT.mul32 ⟨h1, by omega⟩
theorem i_nat (x : Int32) : x.toNatClampNeg = x.toInt.toNat := rfl
theorem aget_at {α : Type} {xs : List α} {j : Int32} {n : Nat} (hj : j.toInt = n) (hn : n < xs.length) : aget xs j = some xs[n] := by
 have h0 : ¬ j < 0 := by rw [i_lt]; show ¬ j.toInt < 0; omega
 unfold aget
 rw [if_neg h0, i_nat, hj]
 simp [hn]
theorem aget_rep {α : Type} {m : Nat} {a : α} {j : Int32} (h0 : 0 ≤ j.toInt) (h1 : j.toInt < m) : aget (List.replicate m a) j = some a := by
 rw [aget_at (n := j.toInt.toNat) (by omega) (by rw [List.length_replicate]; omega)]
 simp
theorem aset_at {α : Type} {xs : List α} {j : Int32} {n : Nat} {v : α} (hj : j.toInt = n) (hn : n < xs.length) : aset xs j v = some (xs.set n v) := by
 have h0 : ¬ j < 0 := by rw [i_lt]; show ¬ j.toInt < 0; omega
 unfold aset
 have e : j.toNatClampNeg = n := by rw [i_nat, hj]; simp
 rw [if_neg h0, e, if_pos hn]
theorem rep_set {α : Type} (m k : Nat) (a : α) : (List.replicate m a).set k a = List.replicate m a := by
 apply List.ext_getElem (by simp)
 intro i h1 h2
 rw [List.getElem_set]
 split <;> simp
theorem small_cases {x : Int32} (h0 : 0 ≤ x.toInt) {n : Nat} (h1 : x.toInt < n) {P : Int32 → Prop} (h : ∀ m : Nat, m < n → P (Int32.ofInt m)) : P x := by
 have e : Int32.ofInt (x.toInt.toNat : Nat) = x := by
  rw [Int.toNat_of_nonneg h0, Int32.ofInt_toInt]
 rw [← e]
 exact h _ (by omega)
theorem bit_ne {x : Int32} (h0 : 0 ≤ x.toInt) (h1 : x.toInt < 32) : ¬ (((1 : Int32) <<< (x &&& 31)) &&& ((1 : Int32) <<< (x &&& 31))) = 0 :=
 small_cases (P := fun x => ¬ (((1 : Int32) <<< (x &&& 31)) &&& ((1 : Int32) <<< (x &&& 31))) = 0) h0 (n := 32) h1 (by decide)
def okP {α : Type} (m : Option α) (P : α → Prop) : Prop := ∃ a, m = some a ∧ P a
theorem okP.some {α : Type} {a : α} {P : α → Prop} (h : P a) : okP (some a) P := ⟨a, rfl, h⟩
theorem okP.bind {α β : Type} {m : Option α} {f : α → Option β} {P : β → Prop} (h : okP m fun a => okP (f a) P) : okP (m.bind f) P := by
 obtain ⟨a, e, b, e2, h2⟩ := h
 exact ⟨b, by rw [e]; exact e2, h2⟩
theorem okP.ite {α : Type} {c : Prop} [Decidable c] {a b : Option α} {P : α → Prop} (h1 : c → okP a P) (h2 : ¬ c → okP b P) : okP (if c then a else b) P := by
 by_cases h : c
 ·rw [if_pos h]; exact h1 h
 ·rw [if_neg h]; exact h2 h
theorem okP.mono {α : Type} {m : Option α} {P Q : α → Prop} (h : okP m P) (k : ∀ a, P a → Q a) : okP m Q := by
 obtain ⟨a, e, h⟩ := h
 exact ⟨a, e, k a h⟩
theorem okP.of {α : Type} {m : Option α} {a : α} {P : α → Prop} (e : m = Option.some a) (h : P a) : okP m P := ⟨a, e, h⟩
theorem okP.aget {α : Type} {xs : List α} {j : Int32} {P : α → Prop} (h0 : 0 ≤ j.toInt) (h1 : j.toInt < xs.length) (k : ∀ v, xs[j.toInt.toNat]? = Option.some v → P v) : okP (aget xs j) P :=
 ⟨_, aget_at (n := j.toInt.toNat) (by omega) (by omega), k _ (List.getElem?_eq_getElem _)⟩
theorem okP.aset {α : Type} {xs : List α} {j : Int32} {v : α} {P : List α → Prop} (h0 : 0 ≤ j.toInt) (h1 : j.toInt < xs.length) (k : P (xs.set j.toInt.toNat v)) : okP (aset xs j v) P :=
 ⟨_, aset_at (n := j.toInt.toNat) (by omega) (by omega), k⟩
theorem okP.loop {V E : Type} {B : V → Option (E ⊕ V)} {P : E → Prop} {n : Nat} {v : V} (I : V → Prop) (μ : V → Nat) (hv : I v) (hm : μ v < n) (hB : ∀ v, I v → okP (B v) (fun r => Sum.elim P (fun v' => I v' ∧ μ v' < μ v) r)) : okP (loopN B n v) P := by
 refine loopN_inv I P μ ?_ n v hv hm
 intro v hv
 obtain ⟨r, e, h⟩ := hB v hv
 cases r with
 | inl x => exact Or.inl ⟨x, e, h⟩
 | inr x => exact Or.inr ⟨x, e, h⟩
theorem len_i {n : Nat} (h : n ≤ 1000) : (n.toInt32).toInt = n := by
 have e : n.toInt32 = Int32.ofInt n := rfl
 rw [e, Int32.toInt_ofInt_of_le (by show _ ≤ (n : Int); omega) (by show (n : Int) < _; omega)]
theorem and1 (x : Int32) : x &&& 1 = 0 ∨ x &&& 1 = 1 := by
 have e : (x &&& 1).toBitVec = x.toBitVec &&& 1#32 := rfl
 have h := BitVec.and_one_eq_setWidth_ofBool_getLsbD (x := x.toBitVec)
 cases g : x.toBitVec.getLsbD 0
 ·left; apply Int32.toBitVec_inj.1; rw [e, h, g]; rfl
 ·right; apply Int32.toBitVec_inj.1; rw [e, h, g]; rfl
theorem okP.not {α : Type} {m : Option α} {a : α} {P : α → Prop} (h : okP m P) (e : m = Option.some a) : P a := by
 obtain ⟨b, e2, h⟩ := h
 rw [e] at e2
 exact (Option.some.inj e2) ▸ h
theorem and_rng {x m : Int32} (hm : 0 ≤ m.toInt) : 0 ≤ (x &&& m).toInt ∧ (x &&& m).toInt ≤ m.toInt := by
 have e : (x &&& m).toBitVec.toNat = x.toBitVec.toNat &&& m.toBitVec.toNat := BitVec.toNat_and ..
 have l : (x &&& m).toBitVec.toNat ≤ m.toBitVec.toNat := by rw [e]; exact Nat.and_le_right
 have c1 : m.toInt = if 2 * m.toBitVec.toNat < 2 ^ 32 then (m.toBitVec.toNat : Int) else m.toBitVec.toNat - (2 ^ 32 : Nat) := BitVec.toInt_eq_toNat_cond m.toBitVec
 have c2 : (x &&& m).toInt = if 2 * (x &&& m).toBitVec.toNat < 2 ^ 32 then ((x &&& m).toBitVec.toNat : Int) else (x &&& m).toBitVec.toNat - (2 ^ 32 : Nat) := BitVec.toInt_eq_toNat_cond (x &&& m).toBitVec
 have b : m.toBitVec.toNat < 2 ^ 32 := m.toBitVec.isLt
 by_cases h : 2 * m.toBitVec.toNat < 2 ^ 32
 ·rw [if_pos h] at c1
  rw [if_pos (by omega)] at c2
  omega
 ·rw [if_neg h] at c1
  omega
theorem mod_rng {x m : Int32} (hx : 0 ≤ x.toInt) (hm : 0 < m.toInt) : 0 ≤ (x % m).toInt ∧ (x % m).toInt < m.toInt := by
 rw [Int32.toInt_mod, Int.tmod_eq_emod_of_nonneg hx]
 exact ⟨Int.emod_nonneg _ (by omega), Int.emod_lt_of_pos _ hm⟩
def sFit (s : List Int32) (τ : QHeap) : Prop := τ.length - List.length ([Sum.inr (Sum.inl (FieldType.int, s))] : QHeap) ≤ room_1.cells ∧ qhs τ - qhs [Sum.inr (Sum.inl (FieldType.int, s))] ≤ room_1.slots
theorem inc1 {x : Int32} (h : x.toInt < 2147483647) : (x + 1).toInt = x.toInt + 1 := by
 have := i_lo x
 have e1 : (1 : Int32).toInt = 1 := rfl
 rw [i_add (by omega) (by omega), e1]
abbrev Core := List Int32 × List Int32 × Int32 × Int32 × Int32 × Int32 × Int32 × Int32 × List Int32 × List Int32 × List Int32
def core (o : Ob) : Core := (f_data o, f_filled o, f_nRows o, f_nForms o, f_rf o, f_cf o, f_vf o, f_ag o, f_fMode o, f_fRk o, f_fCk o)
def kDa (K : Core) : List Int32 := K.1
def kG (K : Core) : List Int32 := K.2.1
def kR (K : Core) : Int32 := K.2.2.1
def kN (K : Core) : Int32 := K.2.2.2.1
def krf (K : Core) : Int32 := K.2.2.2.2.1
def kcf (K : Core) : Int32 := K.2.2.2.2.2.1
def kvf (K : Core) : Int32 := K.2.2.2.2.2.2.1
def kag (K : Core) : Int32 := K.2.2.2.2.2.2.2.1
def kM (K : Core) : List Int32 := K.2.2.2.2.2.2.2.2.1
def kFa (K : Core) : List Int32 := K.2.2.2.2.2.2.2.2.2.1
def kFb (K : Core) : List Int32 := K.2.2.2.2.2.2.2.2.2.2
def WF (K : Core) : Prop := (kDa K).length = 128 ∧ (kG K).length = 32 ∧ (∀ r, r < 32 → (kG K)[r]? = some 0 ∨ (kG K)[r]? = some 1) ∧ (4 ≤ (kR K).toInt ∧ (kR K).toInt ≤ 32) ∧ (1 ≤ (kN K).toInt ∧ (kN K).toInt ≤ 16) ∧ (0 ≤ (krf K).toInt ∧ (krf K).toInt < 4) ∧ (0 ≤ (kcf K).toInt ∧ (kcf K).toInt < 4) ∧ (0 ≤ (kvf K).toInt ∧ (kvf K).toInt < 4) ∧ (kM K).length = 16 ∧ (kFa K).length = 16 ∧ (kFb K).length = 16
theorem WF.d {K : Core} (h : WF K) : (kDa K).length = 128 := h.1
theorem WF.g {K : Core} (h : WF K) : (kG K).length = 32 := h.2.1
theorem WF.b {K : Core} (h : WF K) : ∀ r, r < 32 → (kG K)[r]? = some 0 ∨ (kG K)[r]? = some 1 := h.2.2.1
theorem WF.r {K : Core} (h : WF K) : 4 ≤ (kR K).toInt ∧ (kR K).toInt ≤ 32 := h.2.2.2.1
theorem WF.n {K : Core} (h : WF K) : 1 ≤ (kN K).toInt ∧ (kN K).toInt ≤ 16 := h.2.2.2.2.1
theorem WF.rf {K : Core} (h : WF K) : 0 ≤ (krf K).toInt ∧ (krf K).toInt < 4 := h.2.2.2.2.2.1
theorem WF.cf {K : Core} (h : WF K) : 0 ≤ (kcf K).toInt ∧ (kcf K).toInt < 4 := h.2.2.2.2.2.2.1
theorem WF.vf {K : Core} (h : WF K) : 0 ≤ (kvf K).toInt ∧ (kvf K).toInt < 4 := h.2.2.2.2.2.2.2.1
theorem WF.m {K : Core} (h : WF K) : (kM K).length = 16 := h.2.2.2.2.2.2.2.2.1
theorem WF.a {K : Core} (h : WF K) : (kFa K).length = 16 := h.2.2.2.2.2.2.2.2.2.1
theorem WF.c {K : Core} (h : WF K) : (kFb K).length = 16 := h.2.2.2.2.2.2.2.2.2.2
def Sh (K : Core) (L : Int32) (o : Ob) : Prop := core o = K ∧ f_last o = L ∧ (f_prevVal o).length = 16 ∧ (f_prevFound o).length = 16 ∧ (f_keys o).length = 64
theorem Sh.D {K : Core} {L : Int32} {o : Ob} (h : Sh K L o) : f_data o = kDa K := by rw [← h.1]; rfl
theorem Sh.G {K : Core} {L : Int32} {o : Ob} (h : Sh K L o) : f_filled o = kG K := by rw [← h.1]; rfl
theorem Sh.R {K : Core} {L : Int32} {o : Ob} (h : Sh K L o) : f_nRows o = kR K := by rw [← h.1]; rfl
theorem Sh.N {K : Core} {L : Int32} {o : Ob} (h : Sh K L o) : f_nForms o = kN K := by rw [← h.1]; rfl
theorem Sh.rf {K : Core} {L : Int32} {o : Ob} (h : Sh K L o) : f_rf o = krf K := by rw [← h.1]; rfl
theorem Sh.cf {K : Core} {L : Int32} {o : Ob} (h : Sh K L o) : f_cf o = kcf K := by rw [← h.1]; rfl
theorem Sh.vf {K : Core} {L : Int32} {o : Ob} (h : Sh K L o) : f_vf o = kvf K := by rw [← h.1]; rfl
theorem Sh.ag {K : Core} {L : Int32} {o : Ob} (h : Sh K L o) : f_ag o = kag K := by rw [← h.1]; rfl
theorem Sh.M {K : Core} {L : Int32} {o : Ob} (h : Sh K L o) : f_fMode o = kM K := by rw [← h.1]; rfl
theorem Sh.A {K : Core} {L : Int32} {o : Ob} (h : Sh K L o) : f_fRk o = kFa K := by rw [← h.1]; rfl
theorem Sh.B {K : Core} {L : Int32} {o : Ob} (h : Sh K L o) : f_fCk o = kFb K := by rw [← h.1]; rfl
theorem Sh.prevVal {K : Core} {L : Int32} {o : Ob} (h : Sh K L o) {x : List Int32} (l : x.length = 16) : Sh K L (s_prevVal o x) := ⟨h.1, h.2.1, l, h.2.2.2.1, h.2.2.2.2⟩
theorem Sh.prevFound {K : Core} {L : Int32} {o : Ob} (h : Sh K L o) {x : List Int32} (l : x.length = 16) : Sh K L (s_prevFound o x) := ⟨h.1, h.2.1, h.2.2.1, l, h.2.2.2.2⟩
theorem Sh.keys {K : Core} {L : Int32} {o : Ob} (h : Sh K L o) {x : List Int32} (l : x.length = 64) : Sh K L (s_keys o x) := ⟨h.1, h.2.1, h.2.2.1, h.2.2.2.1, l⟩
theorem Sh.selUseR {K : Core} {L : Int32} {o : Ob} (h : Sh K L o) {x : Int32} : Sh K L (s_selUseR o x) := h
theorem Sh.selRk {K : Core} {L : Int32} {o : Ob} (h : Sh K L o) {x : Int32} : Sh K L (s_selRk o x) := h
theorem Sh.selUseC {K : Core} {L : Int32} {o : Ob} (h : Sh K L o) {x : Int32} : Sh K L (s_selUseC o x) := h
theorem Sh.selCk {K : Core} {L : Int32} {o : Ob} (h : Sh K L o) {x : Int32} : Sh K L (s_selCk o x) := h
theorem Sh.gCount {K : Core} {L : Int32} {o : Ob} (h : Sh K L o) {x : Int32} : Sh K L (s_gCount o x) := h
theorem Sh.gVal {K : Core} {L : Int32} {o : Ob} (h : Sh K L o) {x : Int32} : Sh K L (s_gVal o x) := h
theorem Sh.last {K : Core} {L : Int32} {o : Ob} (h : Sh K L o) {x : Int32} : Sh K x (s_last o x) := ⟨h.1, rfl, h.2.2⟩
def fld (K : Core) (r : Nat) (f : Int32) : Int32 := ((kDa K)[r * 4 + f.toInt.toNat]?).getD 0
def fil (K : Core) (r : Nat) : Bool := ((kG K)[r]?).getD 0 != 0
def cnd (K : Core) (u a w b : Int32) (r : Nat) : Bool := fil K r && ((u == 0 || fld K r (krf K) == a) && (w == 0 || fld K r (kcf K) == b))
def vN (K : Core) (u a w b : Int32) (n : Nat) : List Int32 := ((List.range n).filter (cnd K u a w b)).map (fun r => fld K r (kvf K))
def stp (x : Int32 × Int32 × Int32 × Int32) (v : Int32) : Int32 × Int32 × Int32 × Int32 := (x.1 + v, x.2.1 + 1, (if x.2.1 = 0 then v else if v < x.2.2.1 then v else x.2.2.1), (if x.2.1 = 0 then v else if x.2.2.2 < v then v else x.2.2.2))
def ev (l : List Int32) : Int32 × Int32 × Int32 × Int32 := l.foldl stp (0, 0, 0, 0)
def pick (ag : Int32) (x : Int32 × Int32 × Int32 × Int32) : Int32 := if x.2.1 = 0 then 0 else if ag = 1 then x.2.1 else if ag = 2 then x.2.2.1 else if ag = 3 then x.2.2.2 else x.1
def nR (K : Core) : Nat := (kR K).toInt.toNat
def grp (K : Core) (u a w b : Int32) : Int32 × Int32 := (pick (kag K) (ev (vN K u a w b (nR K))), (ev (vN K u a w b (nR K))).2.1)
def ins (v : Int32) : List Int32 → List Int32
 | [] => [v]
 | k :: t => if k < v then k :: ins v t else if k = v then k :: t else v :: k :: t
def keyN (K : Core) (f : Int32) (n : Nat) : List Int32 := ((List.range n).filter (fil K)).foldl (fun l r => ins (fld K r f) l) []
def kys (K : Core) (f : Int32) : List Int32 := keyN K f (nR K)
theorem vN_s (K : Core) (u a w b : Int32) (n : Nat) : vN K u a w b (n + 1) = if cnd K u a w b n then vN K u a w b n ++ [fld K n (kvf K)] else vN K u a w b n := by
 unfold vN
 rw [List.range_succ, List.filter_append, List.map_append]
 by_cases h : cnd K u a w b n = true
 ·rw [if_pos h, List.filter_cons_of_pos h]; rfl
 ·rw [if_neg h, List.filter_cons_of_neg h]; simp
theorem ev_s (l : List Int32) (v : Int32) : ev (l ++ [v]) = stp (ev l) v := by
 unfold ev
 rw [List.foldl_append]; rfl
theorem keyN_s (K : Core) (f : Int32) (n : Nat) : keyN K f (n + 1) = if fil K n then ins (fld K n f) (keyN K f n) else keyN K f n := by
 unfold keyN
 rw [List.range_succ, List.filter_append, List.foldl_append]
 by_cases h : fil K n = true
 ·rw [if_pos h, List.filter_cons_of_pos h]; rfl
 ·rw [if_neg h, List.filter_cons_of_neg h]; rfl
theorem ag_fil {K : Core} (w : WF K) {i : Int32} (h0 : 0 ≤ i.toInt) (h1 : i.toInt < 32) : aget (kG K) i = some (((kG K)[i.toInt.toNat]?).getD 0) := by
 rw [aget_at (n := i.toInt.toNat) (by omega) (by rw [w.g]; omega), List.getElem?_eq_getElem (by rw [w.g]; omega)]; rfl
theorem idx {r f : Int32} (h : 0 ≤ r.toInt ∧ r.toInt < 32) (g : 0 ≤ f.toInt ∧ f.toInt < 4) : (r * 4 + f).toInt = r.toInt * 4 + f.toInt := by
 have e4 : (r * 4).toInt = r.toInt * 4 := i_mul (x := r) (y := 4) (by show _ ≤ r.toInt * 4; omega) (by show r.toInt * 4 < _; omega)
 rw [i_add (by omega) (by omega), e4]
theorem ag_fld {K : Core} (w : WF K) {r f : Int32} (h : 0 ≤ r.toInt ∧ r.toInt < 32) (g : 0 ≤ f.toInt ∧ f.toInt < 4) : aget (kDa K) (r * 4 + f) = some (fld K r.toInt.toNat f) := by
 have e := idx h g
 unfold fld
 rw [aget_at (n := r.toInt.toNat * 4 + f.toInt.toNat) (by omega) (by rw [w.d]; omega), List.getElem?_eq_getElem (by rw [w.d]; omega)]; rfl
theorem eval_ok {K : Core} (wf : WF K) {L : Int32} {o : Ob} (h : Sh K L o) (u a w b : Int32) : F8 o u a w b = some (s_gVal (s_gCount o (grp K u a w b).2) (grp K u a w b).1) := by
 have r32 := wf.r
 unfold F8
 have lp : okP (loopN (B8_15 o u a w b) qN (0, 0, 0, 0, 0)) (fun e => e = ev (vN K u a w b (nR K))) := by
  refine okP.loop (fun v => 0 ≤ v.2.2.2.2.toInt ∧ v.2.2.2.2.toInt ≤ (kR K).toInt ∧ (v.1, v.2.1, v.2.2.1, v.2.2.2.1) = ev (vN K u a w b v.2.2.2.2.toInt.toNat)) (fun v => ((kR K).toInt - v.2.2.2.2.toInt).toNat) ⟨by show (0 : Int) ≤ 0; decide, by show (0 : Int) ≤ (kR K).toInt; omega, rfl⟩ (by show ((kR K).toInt - (0 : Int)).toNat < 4000; omega) ?_
  rintro ⟨x1, x2, x3, x4, i⟩ ⟨a1, a2, a3⟩
  simp only at a1 a2 a3
  unfold B8_15
  simp only
  rw [h.R]
  apply okP.ite <;> intro c
  ·rw [i_lt] at c
   have e2 : (i + 1).toInt = i.toInt + 1 := inc1 (by omega)
   have en : (i + 1).toInt.toNat = i.toInt.toNat + 1 := by omega
   have no : ∀ (y1 y2 y3 y4 : Int32), (y1, y2, y3, y4) = ev (vN K u a w b (i.toInt.toNat + 1)) → okP (J8_152 o u a w b y1 y2 y3 y4 i) (fun r => Sum.elim (fun e => e = ev (vN K u a w b (nR K))) (fun v => (0 ≤ v.2.2.2.2.toInt ∧ v.2.2.2.2.toInt ≤ (kR K).toInt ∧ (v.1, v.2.1, v.2.2.1, v.2.2.2.1) = ev (vN K u a w b v.2.2.2.2.toInt.toNat)) ∧ ((kR K).toInt - v.2.2.2.2.toInt).toNat < ((kR K).toInt - i.toInt).toNat) r) := by
    intro y1 y2 y3 y4 hy
    unfold J8_152
    apply okP.some
    exact ⟨⟨by simp only; omega, by simp only; omega, by simp only [en]; exact hy⟩, by simp only; omega⟩
   have skip : cnd K u a w b i.toInt.toNat = false → okP (J8_152 o u a w b x1 x2 x3 x4 i) (fun r => Sum.elim (fun e => e = ev (vN K u a w b (nR K))) (fun v => (0 ≤ v.2.2.2.2.toInt ∧ v.2.2.2.2.toInt ≤ (kR K).toInt ∧ (v.1, v.2.1, v.2.2.1, v.2.2.2.1) = ev (vN K u a w b v.2.2.2.2.toInt.toNat)) ∧ ((kR K).toInt - v.2.2.2.2.toInt).toNat < ((kR K).toInt - i.toInt).toNat) r) := by
    intro hc
    exact no _ _ _ _ (by rw [vN_s, hc]; exact a3)
   rw [h.G, ag_fil wf a1 (by omega)]
   simp only [Option.bind_some]
   by_cases f0 : ((kG K)[i.toInt.toNat]?).getD 0 = 0
   ·rw [if_pos f0]
    exact skip (by unfold cnd fil; rw [f0]; rfl)
   rw [if_neg f0]
   have fi : fil K i.toInt.toNat = true := by unfold fil; rw [bne_iff_ne]; exact f0
   have take : cnd K u a w b i.toInt.toNat = true → okP (J8_90 o u a w b x1 x2 x3 x4 i (i * 4)) (fun r => Sum.elim (fun e => e = ev (vN K u a w b (nR K))) (fun v => (0 ≤ v.2.2.2.2.toInt ∧ v.2.2.2.2.toInt ≤ (kR K).toInt ∧ (v.1, v.2.1, v.2.2.1, v.2.2.2.1) = ev (vN K u a w b v.2.2.2.2.toInt.toNat)) ∧ ((kR K).toInt - v.2.2.2.2.toInt).toNat < ((kR K).toInt - i.toInt).toNat) r) := by
    intro hc
    unfold J8_90
    rw [h.D, h.vf, ag_fld wf ⟨a1, by omega⟩ wf.vf]
    simp only [Option.bind_some]
    exact no _ _ _ _ (by rw [vN_s, hc, if_pos rfl, ev_s, ← a3]; rfl)
   have col : (u == 0 || fld K i.toInt.toNat (krf K) == a) = true → okP (J8_66 o u a w b x1 x2 x3 x4 i (i * 4)) (fun r => Sum.elim (fun e => e = ev (vN K u a w b (nR K))) (fun v => (0 ≤ v.2.2.2.2.toInt ∧ v.2.2.2.2.toInt ≤ (kR K).toInt ∧ (v.1, v.2.1, v.2.2.1, v.2.2.2.1) = ev (vN K u a w b v.2.2.2.2.toInt.toNat)) ∧ ((kR K).toInt - v.2.2.2.2.toInt).toNat < ((kR K).toInt - i.toInt).toNat) r) := by
    intro hr
    unfold J8_66
    by_cases w0 : w = 0
    ·rw [if_pos w0]
     exact take (by unfold cnd; rw [fi, hr, w0]; rfl)
    ·rw [if_neg w0, h.D, h.cf, ag_fld wf ⟨a1, by omega⟩ wf.cf]
     simp only [Option.bind_some]
     by_cases e : fld K i.toInt.toNat (kcf K) = b
     ·rw [if_pos e]
      exact take (by unfold cnd; rw [fi, hr, e]; simp)
     ·rw [if_neg e]
      exact skip (by unfold cnd; rw [fi, hr, beq_false_of_ne w0, beq_false_of_ne e]; rfl)
   by_cases u0 : u = 0
   ·rw [if_pos u0]
    exact col (by rw [u0]; rfl)
   ·rw [if_neg u0, h.D, h.rf, ag_fld wf ⟨a1, by omega⟩ wf.rf]
    simp only [Option.bind_some]
    by_cases e : fld K i.toInt.toNat (krf K) = a
    ·rw [if_pos e]
     exact col (by rw [e]; simp)
    ·rw [if_neg e]
     exact skip (by unfold cnd; rw [fi, beq_false_of_ne u0, beq_false_of_ne e]; rfl)
  ·rw [i_lt] at c
   apply okP.some
   have : i.toInt.toNat = nR K := by unfold nR; omega
   rw [this] at a3
   exact a3
 obtain ⟨e, he, ee⟩ := lp
 rw [he, ee]
 simp only [Option.bind_some]
 have pk : ∀ (x1 x2 x3 x4 : Int32) (p : Ob), f_ag p = kag K → F9 p x2 x1 x3 x4 = some (pick (kag K) (x1, x2, x3, x4)) := by
  intro x1 x2 x3 x4 p hp
  unfold F9 pick
  rw [hp]
  simp only
  split
  ·rfl
  split
  ·rfl
  split
  ·rfl
  split <;> rfl
 have pk' := pk (ev (vN K u a w b (nR K))).1 (ev (vN K u a w b (nR K))).2.1 (ev (vN K u a w b (nR K))).2.2.1 (ev (vN K u a w b (nR K))).2.2.2 (s_gCount o (ev (vN K u a w b (nR K))).2.1) h.ag
 rw [pk']
 rfl
def ltP (v : Int32) : List Int32 → Nat
 | [] => 0
 | k :: t => if k < v then ltP v t + 1 else 0
theorem ltP_le (v : Int32) : ∀ l : List Int32, ltP v l ≤ l.length
 | [] => Nat.le_refl 0
 | k :: t => by
  unfold ltP
  split
  ·exact Nat.succ_le_succ (ltP_le v t)
  ·exact Nat.zero_le _
theorem ltP_lt {v : Int32} : ∀ {l : List Int32} {i : Nat} {k : Int32}, i < ltP v l → l[i]? = some k → k < v
 | [], i, k, h, _ => absurd h (Nat.not_lt_zero _)
 | x :: t, i, k, h, g => by
  unfold ltP at h
  by_cases c : x < v
  ·rw [if_pos c] at h
   cases i with
   | zero => rw [List.getElem?_cons_zero] at g; cases g; exact c
   | succ j => rw [List.getElem?_cons_succ] at g; exact ltP_lt (by omega) g
  ·rw [if_neg c] at h; exact absurd h (Nat.not_lt_zero _)
theorem ltP_ge {v : Int32} : ∀ {l : List Int32} {k : Int32}, l[ltP v l]? = some k → ¬ k < v
 | [], k, g => by cases g
 | x :: t, k, g => by
  unfold ltP at g
  by_cases c : x < v
  ·rw [if_pos c, List.getElem?_cons_succ] at g; exact ltP_ge g
  ·rw [if_neg c, List.getElem?_cons_zero] at g; cases g; exact c
theorem ins_same {v : Int32} : ∀ {l : List Int32}, l[ltP v l]? = some v → ins v l = l
 | [], g => by cases g
 | x :: t, g => by
  unfold ltP at g
  unfold ins
  by_cases c : x < v
  ·rw [if_pos c, List.getElem?_cons_succ] at g
   rw [if_pos c, ins_same g]
  ·rw [if_neg c, List.getElem?_cons_zero] at g
   rw [if_neg c, if_pos (by cases g; rfl)]
theorem ins_new {v : Int32} : ∀ {l : List Int32}, l[ltP v l]? ≠ some v → ins v l = l.take (ltP v l) ++ v :: l.drop (ltP v l)
 | [], _ => rfl
 | x :: t, g => by
  unfold ltP at g
  unfold ins ltP
  by_cases c : x < v
  ·rw [if_pos c, List.getElem?_cons_succ] at g
   rw [if_pos c, if_pos c, ins_new g]; rfl
  ·rw [if_neg c, List.getElem?_cons_zero] at g
   rw [if_neg c, if_neg c, if_neg (by intro e; exact g (by rw [e]))]; rfl
theorem ins_len (v : Int32) (l : List Int32) : (ins v l).length ≤ l.length + 1 := by
 by_cases g : l[ltP v l]? = some v
 ·rw [ins_same g]; omega
 ·rw [ins_new g]
  have := ltP_le v l
  simp only [List.length_append, List.length_take, List.length_cons, List.length_drop]; omega
theorem keyN_len (K : Core) (f : Int32) : ∀ n, (keyN K f n).length ≤ n
 | 0 => Nat.le_refl 0
 | n + 1 => by
  have := keyN_len K f n
  rw [keyN_s]
  split
  ·have := ins_len (fld K n f) (keyN K f n); omega
  ·omega
def Seg (X : List Int32) (b : Nat) (k : List Int32) : Prop := ∀ i, i < k.length → X[b + i]? = k[i]?
theorem ag_n {X : List Int32} {j : Int32} {n : Nat} {v : Int32} (hj : j.toInt = n) (h : X[n]? = some v) : aget X j = some v := by
 unfold aget
 rw [if_neg (by rw [i_lt]; show ¬ j.toInt < 0; omega), i_nat, hj, Int.toNat_natCast]
 exact h
theorem ins_ok {K : Core} {L : Int32} {o : Ob} (h : Sh K L o) {b n v : Int32} {k : List Int32} {U : Nat} (hb : b.toInt = U) (hU : U + 32 ≤ 64) (hn : n.toInt = k.length) (hk : k.length < 32) (hs : Seg (f_keys o) U k) : okP (F18 o b n v) (fun r => r.1.toInt = (ins v k).length ∧ ∃ X, r.2 = s_keys o X ∧ X.length = 64 ∧ Seg X U (ins v k) ∧ ∀ j, j < U ∨ U + 32 ≤ j → X[j]? = (f_keys o)[j]?) := by
 have lk := h.2.2.2.2
 have z0 : (0 : Int32).toInt = 0 := rfl
 have z1 : (1 : Int32).toInt = 1 := rfl
 have z32 : (32 : Int32).toInt = 32 := rfl
 have pl := ltP_le v k
 have same : s_keys o (f_keys o) = o := rfl
 unfold F18
 rw [if_neg (by rw [i_lt, z0]; omega), if_pos (by rw [i_lt, z32]; omega)]
 have l1 : okP (loopN (B18_15 o b n v) qN 0) (fun p => p.toInt = ltP v k) := by
  refine okP.loop (fun p => 0 ≤ p.toInt ∧ p.toInt ≤ ltP v k) (fun p => (32 - p.toInt).toNat) ⟨by show (0 : Int) ≤ 0; decide, by show (0 : Int) ≤ ltP v k; omega⟩ (by show (32 - (0 : Int)).toNat < 4000; decide) ?_
  rintro p ⟨a1, a2⟩
  unfold B18_15
  apply okP.ite <;> intro c
  ·rw [i_lt] at c
   have e : (b + p).toInt = (U + p.toInt.toNat : Nat) := by rw [i_add (by omega) (by omega)]; omega
   have g := hs p.toInt.toNat (by omega)
   rw [List.getElem?_eq_getElem (l := k) (by omega)] at g
   rw [ag_n e g]
   simp only [Option.bind_some]
   apply okP.ite <;> intro d
   ·apply okP.some
    have : p.toInt.toNat ≠ ltP v k := fun q => ltP_ge (l := k) (by rw [← q]; exact List.getElem?_eq_getElem (by omega)) d
    have e2 : (p + 1).toInt = p.toInt + 1 := inc1 (by omega)
    exact ⟨⟨by omega, by omega⟩, by omega⟩
   ·apply okP.some
    have : ¬ p.toInt.toNat < ltP v k := fun q => d (ltP_lt q (List.getElem?_eq_getElem (by omega)))
    show p.toInt = _
    omega
  ·rw [i_lt] at c
   apply okP.some
   show p.toInt = _
   omega
 apply okP.bind
 refine okP.mono l1 ?_
 intro p hp
 have new : k[ltP v k]? ≠ some v → okP (J18_61 o b n v p) (fun r => r.1.toInt = (ins v k).length ∧ ∃ X, r.2 = s_keys o X ∧ X.length = 64 ∧ Seg X U (ins v k) ∧ ∀ j, j < U ∨ U + 32 ≤ j → X[j]? = (f_keys o)[j]?) := by
  intro ne
  unfold J18_61
  apply okP.bind
  have l2 : okP (loopN (B18_64 b n v p) qN (n, o)) (fun q => ∃ X, q = s_keys o X ∧ X.length = 64 ∧ (∀ i, i ≤ ltP v k → X[U + i]? = (f_keys o)[U + i]?) ∧ (∀ i, ltP v k < i → i ≤ k.length → X[U + i]? = (f_keys o)[U + (i - 1)]?) ∧ ∀ j, j < U ∨ U + 32 ≤ j → X[j]? = (f_keys o)[j]?) := by
   refine okP.loop (fun w => (ltP v k : Int) ≤ w.1.toInt ∧ w.1.toInt ≤ k.length ∧ ∃ X, w.2 = s_keys o X ∧ X.length = 64 ∧ (∀ i, i ≤ w.1.toInt.toNat → X[U + i]? = (f_keys o)[U + i]?) ∧ (∀ i, w.1.toInt.toNat < i → i ≤ k.length → X[U + i]? = (f_keys o)[U + (i - 1)]?) ∧ ∀ j, j < U ∨ U + 32 ≤ j → X[j]? = (f_keys o)[j]?) (fun w => w.1.toInt.toNat) ⟨by simp only; omega, by simp only; omega, f_keys o, same.symm, lk, fun _ _ => rfl, fun i a b => by simp only at a; omega, fun _ _ => rfl⟩ (by show n.toInt.toNat < 4000; omega) ?_
   rintro ⟨i, q⟩ ⟨a1, a2, X, a3, a4, a5, a6, a7⟩
   simp only at a1 a2 a3 a5 a6
   subst a3
   unfold B18_64
   simp only
   apply okP.ite <;> intro c
   ·rw [i_lt] at c
    have kx : f_keys (s_keys o X) = X := rfl
    have kxx : ∀ Y, s_keys (s_keys o X) Y = s_keys o Y := fun _ => rfl
    rw [kx]
    have e1 : (b + i).toInt = (U + i.toInt.toNat : Nat) := by rw [i_add (by omega) (by omega)]; omega
    have e2 : (b + i - 1).toInt = (U + (i.toInt.toNat - 1) : Nat) := by rw [i_sub (by rw [e1, z1]; omega) (by rw [e1, z1]; omega), e1, z1]; omega
    obtain ⟨y, hy⟩ : ∃ y, X[U + (i.toInt.toNat - 1)]? = some y := ⟨_, List.getElem?_eq_getElem (by omega)⟩
    rw [ag_n e2 hy]
    clear e2
    simp only [Option.bind_some]
    rw [aset_at e1 (by omega)]
    clear e1
    simp only [Option.bind_some]
    rw [kxx]
    apply okP.some
    obtain ⟨i', hi'⟩ : ∃ i' : Int32, i' = i + -1 := ⟨_, rfl⟩
    rw [← hi']
    have e3 : i'.toInt = i.toInt - 1 := by
     have m1 : (-1 : Int32).toInt = -1 := rfl
     rw [hi', i_add (by rw [m1]; omega) (by rw [m1]; omega), m1]; omega
    clear hi'
    refine ⟨⟨by simp only; omega, by simp only; omega, _, rfl, by rw [List.length_set]; exact a4, ?_, ?_, ?_⟩, by simp only; omega⟩
    ·intro j hj
     simp only at hj
     rw [List.getElem?_set_ne (by omega)]
     exact a5 j (by omega)
    ·intro j hj1 hj2
     simp only at hj1
     by_cases e : j = i.toInt.toNat
     ·rw [e, List.getElem?_set_self (by omega), ← hy]
      exact a5 _ (by omega)
     ·rw [List.getElem?_set_ne (by omega)]
      exact a6 j (by omega) hj2
    ·intro j hj
     rw [List.getElem?_set_ne (by omega)]
     exact a7 j hj
   ·rw [i_lt] at c
    have : i.toInt.toNat = ltP v k := by omega
    rw [this] at a5 a6
    exact okP.some ⟨X, rfl, a4, a5, a6, a7⟩
  refine okP.mono l2 ?_
  rintro q ⟨X, rfl, a4, a5, a6, a7⟩
  have kx : f_keys (s_keys o X) = X := rfl
  have kxx : ∀ Y, s_keys (s_keys o X) Y = s_keys o Y := fun _ => rfl
  rw [kx]
  have e1 : (b + p).toInt = (U + ltP v k : Nat) := by rw [i_add (by omega) (by omega)]; omega
  rw [aset_at e1 (by omega)]
  simp only [Option.bind_some]
  rw [kxx]
  have il : (ins v k).length = k.length + 1 := by
   rw [ins_new ne]
   simp only [List.length_append, List.length_take, List.length_cons, List.length_drop]; omega
  refine okP.some ⟨by simp only; rw [inc1 (by omega), il]; omega, _, rfl, by rw [List.length_set]; exact a4, ?_, ?_⟩
  ·intro i hi
   rw [il] at hi
   rw [ins_new ne]
   by_cases c : i < ltP v k
   ·rw [List.getElem?_set_ne (by omega), a5 i (by omega), hs i (by omega), List.getElem?_append_left (by rw [List.length_take]; omega), List.getElem?_take, if_pos c]
   ·have lt : (List.take (ltP v k) k).length = ltP v k := by rw [List.length_take]; omega
    rw [List.getElem?_append_right (by omega), lt]
    by_cases d : i = ltP v k
    ·rw [d, List.getElem?_set_self (by omega), Nat.sub_self]; rfl
    ·rw [List.getElem?_set_ne (by omega), a6 i (by omega) (by omega), hs (i - 1) (by omega), show i - ltP v k = (i - 1 - ltP v k) + 1 by omega, List.getElem?_cons_succ, List.getElem?_drop]
     congr 1; omega
  ·intro j hj
   rw [List.getElem?_set_ne (by omega)]
   exact a7 j hj
 unfold J18_40
 apply okP.ite <;> intro c
 ·rw [i_lt] at c
  have e1 : (b + p).toInt = (U + ltP v k : Nat) := by rw [i_add (by omega) (by omega)]; omega
  have g := hs (ltP v k) (by omega)
  rw [List.getElem?_eq_getElem (l := k) (by omega)] at g
  rw [ag_n e1 g]
  simp only [Option.bind_some]
  apply okP.ite <;> intro d
  ·have s := ins_same (v := v) (l := k) (by rw [List.getElem?_eq_getElem (by omega), d])
   rw [s]
   exact okP.some ⟨hn, f_keys o, same.symm, lk, hs, fun _ _ => rfl⟩
  ·exact new (by rw [List.getElem?_eq_getElem (by omega)]; intro q; exact d (Option.some.inj q))
 ·rw [i_lt] at c
  exact new (by rw [List.getElem?_eq_none (by omega)]; intro q; cases q)
theorem keys_ok {K : Core} (wf : WF K) {L : Int32} {o : Ob} (h : Sh K L o) {f b : Int32} {U : Nat} (hf : 0 ≤ f.toInt ∧ f.toInt < 4) (hb : b.toInt = U) (hU : U + 32 ≤ 64) : okP (F17 o f b) (fun r => r.1.toInt = (kys K f).length ∧ ∃ X, r.2 = s_keys o X ∧ X.length = 64 ∧ Seg X U (kys K f) ∧ ∀ j, j < U ∨ U + 32 ≤ j → X[j]? = (f_keys o)[j]?) := by
 have r32 := wf.r
 unfold F17
 apply okP.bind
 refine okP.loop (fun v => 0 ≤ v.2.1.toInt ∧ v.2.1.toInt ≤ (kR K).toInt ∧ v.1.toInt = (keyN K f v.2.1.toInt.toNat).length ∧ ∃ X, v.2.2 = s_keys o X ∧ X.length = 64 ∧ Seg X U (keyN K f v.2.1.toInt.toNat) ∧ ∀ j, j < U ∨ U + 32 ≤ j → X[j]? = (f_keys o)[j]?) (fun v => ((kR K).toInt - v.2.1.toInt).toNat) ⟨by show (0 : Int) ≤ 0; decide, by show (0 : Int) ≤ (kR K).toInt; omega, rfl, f_keys o, rfl, h.2.2.2.2, fun i hi => absurd hi (Nat.not_lt_zero _), fun _ _ => rfl⟩ (by show ((kR K).toInt - (0 : Int)).toNat < 4000; omega) ?_
 rintro ⟨n, i, p⟩ ⟨a1, a2, a3, X, a4, a5, a6, a7⟩
 simp only at a1 a2 a3 a4 a6
 subst a4
 have hX := h.keys a5
 have kx : f_keys (s_keys o X) = X := rfl
 have kl := keyN_len K f i.toInt.toNat
 unfold B17_5 J17_42
 simp only
 rw [hX.R]
 apply okP.ite <;> intro c
 ·rw [i_lt] at c
  have e2 : (i + 1).toInt = i.toInt + 1 := inc1 (by omega)
  have en : (i + 1).toInt.toNat = i.toInt.toNat + 1 := by omega
  rw [hX.G, ag_fil wf a1 (by omega)]
  simp only [Option.bind_some]
  by_cases f0 : ((kG K)[i.toInt.toNat]?).getD 0 = 0
  ·rw [if_pos f0]
   have fi : fil K i.toInt.toNat = false := by unfold fil; rw [f0]; rfl
   apply okP.some
   refine ⟨⟨by simp only; omega, by simp only; omega, ?_, X, rfl, a5, ?_, a7⟩, by simp only; omega⟩
   ·simp only [en]; rw [keyN_s, fi]; exact a3
   ·simp only [en]; rw [keyN_s, fi]; exact a6
  ·rw [if_neg f0, hX.D, ag_fld wf ⟨a1, by omega⟩ hf]
   simp only [Option.bind_some]
   have fi : fil K i.toInt.toNat = true := by unfold fil; rw [bne_iff_ne]; exact f0
   apply okP.bind
   refine okP.mono (ins_ok hX (v := fld K i.toInt.toNat f) hb hU a3 (by omega) a6) ?_
   rintro r ⟨b1, Y, b2, b3, b4, b5⟩
   apply okP.some
   refine ⟨⟨by simp only; omega, by simp only; omega, ?_, Y, b2, b3, ?_, fun j hj => (b5 j hj).trans (a7 j hj)⟩, by simp only; omega⟩
   ·simp only [en]; rw [keyN_s, fi]; exact b1
   ·simp only [en]; rw [keyN_s, fi]; exact b4
 ·rw [i_lt] at c
  have : i.toInt.toNat = nR K := by unfold nR; omega
  rw [this] at a3 a6
  exact okP.some (okP.some ⟨a3, X, rfl, a5, a6, a7⟩)
def rk (K : Core) (f i : Int32) : Int32 := if i.toInt < 0 then 0 else ((kys K f)[i.toInt.toNat]?).getD 0
def inR (K : Core) (f i : Int32) : Prop := i = -1 ∨ (0 ≤ i.toInt ∧ i.toInt < (kys K f).length)
instance (K : Core) (f i : Int32) : Decidable (inR K f i) := by unfold inR; infer_instance
def pv (K : Core) (i j : Int32) : Int32 × Int32 := if inR K (krf K) i ∧ inR K (kcf K) j then grp K (if i = -1 then 0 else 1) (if i = -1 then 0 else rk K (krf K) i) (if j = -1 then 0 else 1) (if j = -1 then 0 else rk K (kcf K) j) else (0, 0)
theorem seg_get {X k : List Int32} {U : Nat} {j i : Int32} (hs : Seg X U k) (hj : j.toInt = U + i.toInt) (i0 : 0 ≤ i.toInt) (i1 : i.toInt < k.length) : aget X j = some ((k[i.toInt.toNat]?).getD 0) := by
 have g := hs i.toInt.toNat (by omega)
 rw [List.getElem?_eq_getElem (l := k) (by omega)] at g ⊢
 exact ag_n (n := U + i.toInt.toNat) (by omega) g
theorem kys_len {K : Core} (wf : WF K) (f : Int32) : (kys K f).length ≤ 32 := by
 have := keyN_len K f (nR K)
 have r := wf.r
 unfold kys
 unfold nR at this ⊢
 omega
theorem resolve_ok {K : Core} (wf : WF K) {L : Int32} {o : Ob} (h : Sh K L o) (i j : Int32) : okP (F23 o i j) (fun r => Sh K L r.2 ∧ ((r.1 = 0 ∧ ¬ (inR K (krf K) i ∧ inR K (kcf K) j)) ∨ (r.1 = 1 ∧ (inR K (krf K) i ∧ inR K (kcf K) j) ∧ f_selUseR r.2 = (if i = -1 then 0 else 1) ∧ f_selRk r.2 = (if i = -1 then 0 else rk K (krf K) i) ∧ f_selUseC r.2 = (if j = -1 then 0 else 1) ∧ f_selCk r.2 = (if j = -1 then 0 else rk K (kcf K) j)))) := by
 have z0 : (0 : Int32).toInt = 0 := rfl
 have z32 : (32 : Int32).toInt = 32 := rfl
 have m1 : (-1 : Int32).toInt = -1 := rfl
 unfold F23
 rw [h.rf]
 apply okP.bind
 refine okP.mono (keys_ok wf h (U := 0) wf.rf rfl (by decide)) ?_
 rintro ⟨n1, p1⟩ ⟨a1, X, a2, a3, a4, _⟩
 simp only at a1 a2
 subst a2
 have h1 := h.keys a3
 rw [h1.cf]
 apply okP.bind
 refine okP.mono (keys_ok wf h1 (U := 32) wf.cf rfl (by decide)) ?_
 rintro ⟨n2, p2⟩ ⟨b1, Y, b2, b3, b4, b5⟩
 simp only at b1 b2
 subst b2
 have h2 := h1.keys b3
 have s1 : Seg Y 0 (kys K (krf K)) := fun t ht => by
  have := kys_len wf (krf K)
  rw [b5 (0 + t) (by omega)]
  exact a4 t ht
 have kY : f_keys (s_keys (s_keys o X) Y) = Y := rfl
 obtain ⟨q, hq⟩ : ∃ q, q = s_keys (s_keys o X) Y := ⟨_, rfl⟩
 rw [← hq] at h2 kY ⊢
 clear hq
 have g55 : inR K (krf K) i → inR K (kcf K) j → okP (J23_55 q i j) (fun r => Sh K L r.2 ∧ ((r.1 = 0 ∧ ¬ (inR K (krf K) i ∧ inR K (kcf K) j)) ∨ (r.1 = 1 ∧ (inR K (krf K) i ∧ inR K (kcf K) j) ∧ f_selUseR r.2 = (if i = -1 then 0 else 1) ∧ f_selRk r.2 = (if i = -1 then 0 else rk K (krf K) i) ∧ f_selUseC r.2 = (if j = -1 then 0 else 1) ∧ f_selCk r.2 = (if j = -1 then 0 else rk K (kcf K) j)))) := by
  intro hi hj
  have g87 : ∀ (p : Ob) (w : Int32), Sh K L p → f_keys p = Y → f_selUseR p = (if i = -1 then 0 else 1) → w = (if i = -1 then 0 else rk K (krf K) i) → okP (J23_87 p j w) (fun r => Sh K L r.2 ∧ ((r.1 = 0 ∧ ¬ (inR K (krf K) i ∧ inR K (kcf K) j)) ∨ (r.1 = 1 ∧ (inR K (krf K) i ∧ inR K (kcf K) j) ∧ f_selUseR r.2 = (if i = -1 then 0 else 1) ∧ f_selRk r.2 = (if i = -1 then 0 else rk K (krf K) i) ∧ f_selUseC r.2 = (if j = -1 then 0 else 1) ∧ f_selCk r.2 = (if j = -1 then 0 else rk K (kcf K) j)))) := by
   intro p w hp hY hu hw
   unfold J23_87 J23_125
   by_cases e : j = -1
   ·simp only [if_pos e]
    rw [show qboo 0 = some 0 from rfl]
    simp only [Option.bind_some, if_true]
    exact okP.some ⟨(((hp.selRk).selUseC).selCk), Or.inr ⟨rfl, ⟨hi, hj⟩, hu, hw, rfl, rfl⟩⟩
   ·simp only [if_neg e]
    rw [show qboo 1 = some 1 from rfl]
    simp only [Option.bind_some]
    rw [if_neg (by decide), hY]
    rcases hj with hj | hj
    ·exact absurd hj e
    have kl := kys_len wf (kcf K)
    rw [seg_get b4 (i := j) (by rw [i_add (by omega) (by omega), z32]; rfl) hj.1 hj.2]
    simp only [Option.bind_some]
    refine okP.some ⟨(((hp.selRk).selUseC).selCk), Or.inr ⟨rfl, ⟨hi, Or.inr hj⟩, hu, hw, rfl, ?_⟩⟩
    unfold rk
    rw [if_neg (by omega)]; rfl
  unfold J23_55
  by_cases e : i = -1
  ·simp only [if_pos e]
   rw [show qboo 0 = some 0 from rfl]
   simp only [Option.bind_some, if_true]
   have := g87 (s_selUseR q 0) 0 h2.selUseR kY (by rw [if_pos e]; rfl) (by rw [if_pos e])
   simp only [if_pos e] at this
   exact this
  ·simp only [if_neg e]
   rw [show qboo 1 = some 1 from rfl]
   simp only [Option.bind_some]
   rw [if_neg (by decide), kY]
   have hi' := hi
   rcases hi' with hi' | hi'
   ·exact absurd hi' e
   rw [seg_get s1 (i := i) (by omega) hi'.1 hi'.2]
   simp only [Option.bind_some]
   have := g87 (s_selUseR q 1) (((kys K (krf K))[i.toInt.toNat]?).getD 0) h2.selUseR kY (by rw [if_neg e]; rfl) (by rw [if_neg e]; unfold rk; rw [if_neg (by omega)])
   simp only [if_neg e] at this
   exact this
 have g38 : inR K (krf K) i → okP (J23_38 q i j n2) (fun r => Sh K L r.2 ∧ ((r.1 = 0 ∧ ¬ (inR K (krf K) i ∧ inR K (kcf K) j)) ∨ (r.1 = 1 ∧ (inR K (krf K) i ∧ inR K (kcf K) j) ∧ f_selUseR r.2 = (if i = -1 then 0 else 1) ∧ f_selRk r.2 = (if i = -1 then 0 else rk K (krf K) i) ∧ f_selUseC r.2 = (if j = -1 then 0 else 1) ∧ f_selCk r.2 = (if j = -1 then 0 else rk K (kcf K) j)))) := by
  intro hi
  unfold J23_38
  by_cases e : j = -1
  ·rw [if_pos e]
   exact g55 hi (Or.inl e)
  rw [if_neg e]
  apply okP.ite <;> intro c
  ·rw [i_lt, z0] at c
   exact okP.some ⟨h2, Or.inl ⟨rfl, fun q => by rcases q.2 with q | q; exact e q; omega⟩⟩
  rw [i_lt, z0] at c
  apply okP.ite <;> intro d
  ·rw [i_lt] at d
   exact g55 hi (Or.inr ⟨by omega, by omega⟩)
  ·rw [i_lt] at d
   exact okP.some ⟨h2, Or.inl ⟨rfl, fun q => by rcases q.2 with q | q; exact e q; omega⟩⟩
 simp only
 by_cases e : i = -1
 ·rw [if_pos e]
  exact g38 (Or.inl e)
 rw [if_neg e]
 apply okP.ite <;> intro c
 ·rw [i_lt, z0] at c
  exact okP.some ⟨h2, Or.inl ⟨rfl, fun q => by rcases q.1 with q | q; exact e q; omega⟩⟩
 rw [i_lt, z0] at c
 apply okP.ite <;> intro d
 ·rw [i_lt] at d
  exact g38 (Or.inr ⟨by omega, by omega⟩)
 ·rw [i_lt] at d
  exact okP.some ⟨h2, Or.inl ⟨rfl, fun q => by rcases q.1 with q | q; exact e q; omega⟩⟩
theorem value_ok {K : Core} (wf : WF K) {L : Int32} {o : Ob} (h : Sh K L o) (i j : Int32) : okP (F22 o i j) (fun r => r.1 = (pv K i j).1 ∧ Sh K L r.2) := by
 unfold F22
 apply okP.bind
 refine okP.mono (resolve_ok wf h i j) ?_
 rintro ⟨r, p⟩ ⟨hp, ⟨r0, no⟩ | ⟨r1, yes, u1, u2, u3, u4⟩⟩
 ·simp only at r0 hp ⊢
  subst r0
  rw [if_pos rfl]
  unfold pv
  rw [if_neg no]
  exact okP.some ⟨rfl, hp⟩
 ·simp only at r1 hp u1 u2 u3 u4 ⊢
  subst r1
  rw [if_neg (by decide), eval_ok wf hp, u1, u2, u3, u4]
  simp only [Option.bind_some]
  unfold pv
  rw [if_pos yes]
  exact okP.some ⟨rfl, hp.gCount.gVal⟩
theorem count_ok {K : Core} (wf : WF K) {L : Int32} {o : Ob} (h : Sh K L o) (i j : Int32) : okP (F24 o i j) (fun r => r.1 = (pv K i j).2 ∧ Sh K L r.2) := by
 unfold F24
 apply okP.bind
 refine okP.mono (resolve_ok wf h i j) ?_
 rintro ⟨r, p⟩ ⟨hp, ⟨r0, no⟩ | ⟨r1, yes, u1, u2, u3, u4⟩⟩
 ·simp only at r0 hp ⊢
  subst r0
  rw [if_pos rfl]
  unfold pv
  rw [if_neg no]
  exact okP.some ⟨rfl, hp⟩
 ·simp only at r1 hp u1 u2 u3 u4 ⊢
  subst r1
  rw [if_neg (by decide), eval_ok wf hp, u1, u2, u3, u4]
  simp only [Option.bind_some]
  unfold pv
  rw [if_pos yes]
  exact okP.some ⟨rfl, hp.gCount.gVal⟩
theorem rkc_ok {K : Core} (wf : WF K) {L : Int32} {o : Ob} (h : Sh K L o) : okP (F16 o) (fun r => r.1.toInt = (kys K (krf K)).length ∧ Sh K L r.2) := by
 unfold F16
 rw [h.rf]
 apply okP.bind
 refine okP.mono (keys_ok wf h (U := 0) wf.rf rfl (by decide)) ?_
 rintro ⟨n1, p1⟩ ⟨a1, X, a2, a3, a4, _⟩
 simp only at a1 a2 ⊢
 subst a2
 exact okP.some ⟨a1, h.keys a3⟩
theorem ckc_ok {K : Core} (wf : WF K) {L : Int32} {o : Ob} (h : Sh K L o) : okP (F19 o) (fun r => r.1.toInt = (kys K (kcf K)).length ∧ Sh K L r.2) := by
 unfold F19
 rw [h.cf]
 apply okP.bind
 refine okP.mono (keys_ok wf h (U := 32) wf.cf rfl (by decide)) ?_
 rintro ⟨n1, p1⟩ ⟨a1, X, a2, a3, a4, _⟩
 simp only at a1 a2 ⊢
 subst a2
 exact okP.some ⟨a1, h.keys a3⟩
theorem rk_out {K : Core} {f i : Int32} (h : i.toInt < 0 ∨ (kys K f).length ≤ i.toInt) : rk K f i = 0 := by
 unfold rk
 by_cases c : i.toInt < 0
 ·rw [if_pos c]
 ·rw [if_neg c, List.getElem?_eq_none (by omega)]; rfl
theorem rowKey_ok {K : Core} (wf : WF K) {L : Int32} {o : Ob} (h : Sh K L o) (i : Int32) : okP (F20 o i) (fun r => r.1 = rk K (krf K) i ∧ Sh K L r.2) := by
 have z0 : (0 : Int32).toInt = 0 := rfl
 unfold F20
 rw [h.rf]
 apply okP.bind
 refine okP.mono (keys_ok wf h (U := 0) wf.rf rfl (by decide)) ?_
 rintro ⟨n1, p1⟩ ⟨a1, X, a2, a3, a4, _⟩
 simp only at a1 a2 ⊢
 subst a2
 apply okP.ite <;> intro c
 ·rw [i_lt, z0] at c
  exact okP.some ⟨(rk_out (Or.inl c)).symm, h.keys a3⟩
 rw [i_lt, z0] at c
 apply okP.ite <;> intro d
 ·rw [i_lt] at d
  rw [show f_keys (s_keys o X) = X from rfl, seg_get a4 (i := i) (by omega) (by omega) (by omega)]
  exact okP.some ⟨by unfold rk; rw [if_neg c], h.keys a3⟩
 ·rw [i_lt] at d
  exact okP.some ⟨(rk_out (Or.inr (by omega))).symm, h.keys a3⟩
theorem colKey_ok {K : Core} (wf : WF K) {L : Int32} {o : Ob} (h : Sh K L o) (i : Int32) : okP (F21 o i) (fun r => r.1 = rk K (kcf K) i ∧ Sh K L r.2) := by
 have z0 : (0 : Int32).toInt = 0 := rfl
 have z32 : (32 : Int32).toInt = 32 := rfl
 unfold F21
 rw [h.cf]
 apply okP.bind
 refine okP.mono (keys_ok wf h (U := 32) wf.cf rfl (by decide)) ?_
 rintro ⟨n1, p1⟩ ⟨a1, X, a2, a3, a4, _⟩
 simp only at a1 a2 ⊢
 subst a2
 have kl := kys_len wf (kcf K)
 apply okP.ite <;> intro c
 ·rw [i_lt, z0] at c
  exact okP.some ⟨(rk_out (Or.inl c)).symm, h.keys a3⟩
 rw [i_lt, z0] at c
 apply okP.ite <;> intro d
 ·rw [i_lt] at d
  rw [show f_keys (s_keys o X) = X from rfl, seg_get a4 (i := i) (by rw [i_add (by omega) (by omega), z32]; rfl) (by omega) (by omega)]
  exact okP.some ⟨by unfold rk; rw [if_neg c], h.keys a3⟩
 ·rw [i_lt] at d
  exact okP.some ⟨(rk_out (Or.inr (by omega))).symm, h.keys a3⟩
def mo (K : Core) (s : Nat) : Int32 := ((kM K)[s]?).getD 0
def fm (K : Core) (s : Nat) : Int32 × Int32 := if mo K s = 0 then (0, 0) else grp K (if mo K s = 1 then 1 else if mo K s = 2 then 1 else 0) (((kFa K)[s]?).getD 0) (if mo K s = 1 then 1 else if mo K s = 3 then 1 else 0) (((kFb K)[s]?).getD 0)
def fnd (K : Core) (s : Nat) : Int32 := if 0 < (fm K s).2 then 1 else 0
def nN (K : Core) : Nat := (kN K).toInt.toNat
theorem ag_16 {X : List Int32} (l : X.length = 16) {i : Int32} (h0 : 0 ≤ i.toInt) (h1 : i.toInt < 16) : aget X i = some ((X[i.toInt.toNat]?).getD 0) := by
 rw [aget_at (n := i.toInt.toNat) (by omega) (by omega), List.getElem?_eq_getElem (by omega)]; rfl
theorem form_ok {K : Core} (wf : WF K) {L : Int32} {o : Ob} (h : Sh K L o) {s : Int32} (s0 : 0 ≤ s.toInt) (s1 : s.toInt < 16) : okP (F7 o s) (fun r => r = s_gVal (s_gCount o (fm K s.toInt.toNat).2) (fm K s.toInt.toNat).1) := by
 unfold F7
 rw [h.M, ag_16 wf.m s0 s1]
 simp only [Option.bind_some]
 show okP (if mo K s.toInt.toNat = 0 then _ else _) _
 unfold fm
 by_cases e : mo K s.toInt.toNat = 0
 ·rw [if_pos e, if_pos e]
  exact okP.some (by dsimp only [s_gCount, s_gVal])
 ·rw [if_neg e, if_neg e, h.A, ag_16 wf.a s0 s1, h.B, ag_16 wf.c s0 s1]
  simp only [Option.bind_some]
  rw [eval_ok wf h]
  exact okP.some rfl
def Pv (K : Core) (o : Ob) (n : Nat) : Prop := ∀ s, s < n → (f_prevVal o)[s]? = some (fm K s).1 ∧ (f_prevFound o)[s]? = some (fnd K s)
theorem bit1 (c : Prop) [Decidable c] : (if c then (1 : Int32) else 0) &&& 1 = if c then 1 else 0 := by
 split <;> rfl
theorem snap_ok {K : Core} (wf : WF K) {L : Int32} {o : Ob} (h : Sh K L o) : okP (F6 o) (fun r => Sh K L r ∧ Pv K r (nN K)) := by
 have n16 := wf.n
 unfold F6
 apply okP.bind
 refine okP.loop (fun w => 0 ≤ w.1.toInt ∧ w.1.toInt ≤ (kN K).toInt ∧ Sh K L w.2 ∧ Pv K w.2 w.1.toInt.toNat) (fun w => ((kN K).toInt - w.1.toInt).toNat) ⟨by show (0 : Int) ≤ 0; decide, by show (0 : Int) ≤ _; omega, h, fun s hs => absurd hs (Nat.not_lt_zero _)⟩ (by show ((kN K).toInt - (0 : Int)).toNat < 4000; omega) ?_
 rintro ⟨w, p⟩ ⟨a1, a2, hp, P⟩
 simp only at a1 a2 hp P
 unfold B6_2
 simp only
 rw [hp.N]
 apply okP.ite <;> intro c
 ·rw [i_lt] at c
  have e2 : (w + 1).toInt = w.toInt + 1 := inc1 (by omega)
  apply okP.bind
  refine okP.mono (form_ok wf hp a1 (by omega)) ?_
  rintro r rfl
  have h1 : Sh K L (s_gVal (s_gCount p (fm K w.toInt.toNat).2) (fm K w.toInt.toNat).1) := hp.gCount.gVal
  obtain ⟨q, hq⟩ : ∃ q, q = s_gVal (s_gCount p (fm K w.toInt.toNat).2) (fm K w.toInt.toNat).1 := ⟨_, rfl⟩
  have g1 : f_gVal q = (fm K w.toInt.toNat).1 := by rw [hq]; rfl
  have g2 : f_gCount q = (fm K w.toInt.toNat).2 := by rw [hq]; rfl
  have g3 : f_prevVal q = f_prevVal p := by rw [hq]; rfl
  have g4 : f_prevFound q = f_prevFound p := by rw [hq]; rfl
  rw [← hq] at h1 ⊢
  clear hq
  rw [g1, g2, bit1]
  have l1 := h1.2.2.1
  have l2 := h1.2.2.2.1
  apply okP.bind
  refine okP.aset a1 (by omega) ?_
  apply okP.bind
  refine okP.aset a1 (by omega) ?_
  apply okP.some
  refine ⟨⟨by simp only; omega, by simp only; omega, (h1.prevVal (by rw [List.length_set]; exact l1)).prevFound (by rw [List.length_set]; exact l2), ?_⟩, by simp only; omega⟩
  intro s hs
  simp only at hs
  show ((f_prevVal q).set w.toInt.toNat (fm K w.toInt.toNat).1)[s]? = _ ∧ ((f_prevFound q).set w.toInt.toNat (fnd K w.toInt.toNat))[s]? = _
  by_cases e : s = w.toInt.toNat
  ·rw [e, List.getElem?_set_self (by omega), List.getElem?_set_self (by omega)]
   exact ⟨rfl, rfl⟩
  ·rw [List.getElem?_set_ne (by omega), List.getElem?_set_ne (by omega), g3, g4]
   exact P s (by omega)
 ·rw [i_lt] at c
  have : w.toInt.toNat = nN K := by unfold nN; omega
  rw [this] at P
  exact okP.some (okP.some ⟨hp, P⟩)
def chg (K K' : Core) (s : Nat) : Bool := !((fm K' s).1 == (fm K s).1 && fnd K' s == fnd K s)
def cc (K K' : Core) (n : Nat) : Nat := ((List.range n).filter (chg K K')).length
theorem cc_s (K K' : Core) (n : Nat) : cc K K' (n + 1) = if chg K K' n then cc K K' n + 1 else cc K K' n := by
 unfold cc
 rw [List.range_succ, List.filter_append, List.length_append]
 by_cases h : chg K K' n = true
 ·rw [if_pos h, List.filter_cons_of_pos h]; rfl
 ·rw [if_neg h, List.filter_cons_of_neg h]; rfl
theorem cc_le (K K' : Core) (n : Nat) : cc K K' n ≤ n := by
 have := List.length_filter_le (chg K K') (List.range n)
 rw [List.length_range] at this
 exact this
theorem cc_comm (K K' : Core) (n : Nat) : cc K K' n = cc K' K n := by
 have : chg K K' = chg K' K := by
  funext s
  unfold chg
  rw [Bool.beq_comm (a := (fm K' s).1), Bool.beq_comm (a := fnd K' s)]
 unfold cc
 rw [this]
theorem chd_ok {K K' : Core} (wf : WF K') {L : Int32} {o : Ob} (h : Sh K' L o) (P : Pv K o (nN K')) : okP (F10 o) (fun r => r.1.toInt = cc K K' (nN K') ∧ Sh K' L r.2) := by
 have n16 := wf.n
 unfold F10
 apply okP.bind
 refine okP.loop (fun w => 0 ≤ w.2.1.toInt ∧ w.2.1.toInt ≤ (kN K').toInt ∧ w.1.toInt = cc K K' w.2.1.toInt.toNat ∧ Sh K' L w.2.2 ∧ Pv K w.2.2 (nN K')) (fun w => ((kN K').toInt - w.2.1.toInt).toNat) ⟨by show (0 : Int) ≤ 0; decide, by show (0 : Int) ≤ _; omega, rfl, h, P⟩ (by show ((kN K').toInt - (0 : Int)).toNat < 4000; omega) ?_
 rintro ⟨n, w, p⟩ ⟨a1, a2, a3, hp, P⟩
 simp only at a1 a2 a3 hp P
 have cl := cc_le K K' w.toInt.toNat
 unfold B10_4 J10_53 J10_56
 simp only
 rw [hp.N]
 apply okP.ite <;> intro c
 ·rw [i_lt] at c
  have e2 : (w + 1).toInt = w.toInt + 1 := inc1 (by omega)
  have en : (w + 1).toInt.toNat = w.toInt.toNat + 1 := by omega
  apply okP.bind
  refine okP.mono (form_ok wf hp a1 (by omega)) ?_
  rintro r rfl
  have h1 : Sh K' L (s_gVal (s_gCount p (fm K' w.toInt.toNat).2) (fm K' w.toInt.toNat).1) := hp.gCount.gVal
  have P1 : Pv K (s_gVal (s_gCount p (fm K' w.toInt.toNat).2) (fm K' w.toInt.toNat).1) (nN K') := P
  obtain ⟨q, hq⟩ : ∃ q, q = s_gVal (s_gCount p (fm K' w.toInt.toNat).2) (fm K' w.toInt.toNat).1 := ⟨_, rfl⟩
  have g1 : f_gVal q = (fm K' w.toInt.toNat).1 := by rw [hq]; rfl
  have g2 : f_gCount q = (fm K' w.toInt.toNat).2 := by rw [hq]; rfl
  rw [← hq] at h1 P1 ⊢
  clear hq
  rw [g1, g2]
  obtain ⟨p1, p2⟩ := P1 w.toInt.toNat (by unfold nN; omega)
  rw [ag_n (n := w.toInt.toNat) (by omega) p1]
  simp only [Option.bind_some]
  have i1 : n.toInt < 2147483647 := by omega
  have i2 := inc1 i1
  apply okP.ite <;> intro d
  ·rw [ag_n (n := w.toInt.toNat) (by omega) p2]
   simp only [Option.bind_some]
   apply okP.some
   refine ⟨⟨by simp only; omega, by simp only; omega, ?_, h1, P1⟩, by simp only; omega⟩
   simp only [en]
   rw [cc_s]
   show (if fnd K' w.toInt.toNat = fnd K w.toInt.toNat then n else n + 1).toInt = _
   by_cases e : fnd K' w.toInt.toNat = fnd K w.toInt.toNat
   ·rw [if_pos e, show chg K K' w.toInt.toNat = false from by unfold chg; rw [d, e]; simp]
    exact a3
   ·rw [if_neg e, show chg K K' w.toInt.toNat = true from by unfold chg; rw [d, beq_false_of_ne e]; simp, if_pos rfl, i2, a3]; rfl
  ·apply okP.some
   refine ⟨⟨by simp only; omega, by simp only; omega, ?_, h1, P1⟩, by simp only; omega⟩
   simp only [en]
   rw [cc_s, show chg K K' w.toInt.toNat = true from by unfold chg; rw [beq_false_of_ne d]; simp, if_pos rfl, i2, a3]; rfl
 ·rw [i_lt] at c
  have : w.toInt.toNat = nN K' := by unfold nN; omega
  rw [this] at a3
  exact okP.some (okP.some ⟨a3, hp⟩)
theorem row_ok {K : Core} {L : Int32} {o : Ob} (h : Sh K L o) (x : Int32) : F5 o x = some (if 0 ≤ x.toInt ∧ x.toInt < (kR K).toInt then 1 else 0) := by
 have z0 : (0 : Int32).toInt = 0 := rfl
 unfold F5
 rw [h.R]
 by_cases a : x < 0
 ·rw [if_pos a, if_neg (by rw [i_lt, z0] at a; omega)]
 ·rw [if_neg a]
  rw [i_lt, z0] at a
  by_cases b : x < kR K
  ·rw [if_pos b, if_pos (by rw [i_lt] at b; omega)]
  ·rw [if_neg b, if_neg (by rw [i_lt] at b; omega)]
def kSet (K : Core) (r f : Nat) (v : Int32) : Core := ((kDa K).set (r * 4 + f) v, (kG K).set r 1, K.2.2)
def kClr (K : Core) (r : Nat) : Core := (((((kDa K).set (r * 4 + 0) 0).set (r * 4 + 1) 0).set (r * 4 + 2) 0).set (r * 4 + 3) 0, (kG K).set r 0, K.2.2)
def kPiv (K : Core) (a b c g : Int32) : Core := (K.1, K.2.1, K.2.2.1, K.2.2.2.1, a, b, c, g, K.2.2.2.2.2.2.2.2)
def kFor (K : Core) (s : Nat) (m a b : Int32) : Core := (K.1, K.2.1, K.2.2.1, K.2.2.2.1, K.2.2.2.2.1, K.2.2.2.2.2.1, K.2.2.2.2.2.2.1, K.2.2.2.2.2.2.2.1, (kM K).set s m, (kFa K).set s a, (kFb K).set s b)
theorem WF.set {K : Core} (w : WF K) {r f : Nat} {v : Int32} (hr : r < 32) : WF (kSet K r f v) := by
 refine ⟨?_, ?_, ?_, w.2.2.2⟩
 ·show ((kDa K).set (r * 4 + f) v).length = 128
  rw [List.length_set]; exact w.d
 ·show ((kG K).set r 1).length = 32
  rw [List.length_set]; exact w.g
 ·intro i hi
  show ((kG K).set r 1)[i]? = some 0 ∨ ((kG K).set r 1)[i]? = some 1
  by_cases e : r = i
  ·rw [e, List.getElem?_set_self (by rw [w.g]; omega)]; exact Or.inr rfl
  ·rw [List.getElem?_set_ne e]; exact w.b i hi
theorem WF.clr {K : Core} (w : WF K) {r : Nat} (hr : r < 32) : WF (kClr K r) := by
 refine ⟨?_, ?_, ?_, w.2.2.2⟩
 ·show (((((kDa K).set (r * 4 + 0) 0).set (r * 4 + 1) 0).set (r * 4 + 2) 0).set (r * 4 + 3) 0).length = 128
  simp only [List.length_set]; exact w.d
 ·show ((kG K).set r 0).length = 32
  rw [List.length_set]; exact w.g
 ·intro i hi
  show ((kG K).set r 0)[i]? = some 0 ∨ ((kG K).set r 0)[i]? = some 1
  by_cases e : r = i
  ·rw [e, List.getElem?_set_self (by rw [w.g]; omega)]; exact Or.inl rfl
  ·rw [List.getElem?_set_ne e]; exact w.b i hi
theorem WF.piv {K : Core} (w : WF K) {a b c g : Int32} (ha : 0 ≤ a.toInt ∧ a.toInt < 4) (hb : 0 ≤ b.toInt ∧ b.toInt < 4) (hc : 0 ≤ c.toInt ∧ c.toInt < 4) : WF (kPiv K a b c g) := ⟨w.1, w.2.1, w.2.2.1, w.2.2.2.1, w.2.2.2.2.1, ha, hb, hc, w.2.2.2.2.2.2.2.2⟩
theorem WF.for {K : Core} (w : WF K) {s : Nat} {m a b : Int32} : WF (kFor K s m a b) := by
 refine ⟨w.1, w.2.1, w.2.2.1, w.2.2.2.1, w.2.2.2.2.1, w.2.2.2.2.2.1, w.2.2.2.2.2.2.1, w.2.2.2.2.2.2.2.1, ?_, ?_, ?_⟩
 ·show ((kM K).set s m).length = 16
  rw [List.length_set]; exact w.m
 ·show ((kFa K).set s a).length = 16
  rw [List.length_set]; exact w.a
 ·show ((kFb K).set s b).length = 16
  rw [List.length_set]; exact w.c
theorem Sh_cell {K : Core} {L : Int32} {o : Ob} (h : Sh K L o) {r f : Nat} {v : Int32} : Sh (kSet K r f v) L (s_filled (s_data o ((kDa K).set (r * 4 + f) v)) ((kG K).set r 1)) := by
 have h' := h
 obtain ⟨h1, h2⟩ := h'
 refine ⟨?_, h2⟩
 rw [← h1]
 dsimp only [core, kSet, kDa, kG, f_data, f_filled, f_rf, f_cf, f_vf, f_ag, f_fMode, f_fRk, f_fCk, f_prevVal, f_prevFound, f_keys, f_nRows, f_nForms, f_last, f_gVal, f_gCount, f_selUseR, f_selRk, f_selUseC, f_selCk, s_filled, s_data]
theorem Sh_piv {K : Core} {L : Int32} {o : Ob} (h : Sh K L o) {a b c g : Int32} : Sh (kPiv K a b c g) L (s_ag (s_vf (s_cf (s_rf o a) b) c) g) := by
 obtain ⟨h1, h2⟩ := h
 refine ⟨?_, ?_⟩
 ·rw [← h1]
  dsimp only [core, kPiv, f_data, f_filled, f_rf, f_cf, f_vf, f_ag, f_fMode, f_fRk, f_fCk, f_prevVal, f_prevFound, f_keys, f_nRows, f_nForms, f_last, f_gVal, f_gCount, f_selUseR, f_selRk, f_selUseC, f_selCk, s_ag, s_vf, s_cf, s_rf]
 ·dsimp only [f_data, f_filled, f_rf, f_cf, f_vf, f_ag, f_fMode, f_fRk, f_fCk, f_prevVal, f_prevFound, f_keys, f_nRows, f_nForms, f_last, f_gVal, f_gCount, f_selUseR, f_selRk, f_selUseC, f_selCk, s_ag, s_vf, s_cf, s_rf] at h2 ⊢
  exact h2
theorem Sh_for {K : Core} {L : Int32} {o : Ob} (h : Sh K L o) {s : Nat} {m a b : Int32} : Sh (kFor K s m a b) L (s_fCk (s_fRk (s_fMode o ((kM K).set s m)) ((kFa K).set s a)) ((kFb K).set s b)) := by
 obtain ⟨h1, h2⟩ := h
 refine ⟨?_, ?_⟩
 ·rw [← h1]
  dsimp only [core, kFor, kM, kFa, kFb, f_data, f_filled, f_rf, f_cf, f_vf, f_ag, f_fMode, f_fRk, f_fCk, f_prevVal, f_prevFound, f_keys, f_nRows, f_nForms, f_last, f_gVal, f_gCount, f_selUseR, f_selRk, f_selUseC, f_selCk, s_fCk, s_fRk, s_fMode]
 ·dsimp only [f_data, f_filled, f_rf, f_cf, f_vf, f_ag, f_fMode, f_fRk, f_fCk, f_prevVal, f_prevFound, f_keys, f_nRows, f_nForms, f_last, f_gVal, f_gCount, f_selUseR, f_selRk, f_selUseC, f_selCk, s_fCk, s_fRk, s_fMode] at h2 ⊢
  exact h2
theorem slot_ok {K : Core} {L : Int32} {o : Ob} (h : Sh K L o) (x : Int32) : F3 o x = some (if 0 ≤ x.toInt ∧ x.toInt < (kN K).toInt then 1 else 0) := by
 have z0 : (0 : Int32).toInt = 0 := rfl
 unfold F3
 rw [h.N]
 by_cases a : x < 0
 ·rw [if_pos a, if_neg (by rw [i_lt, z0] at a; omega)]
 ·rw [if_neg a]
  rw [i_lt, z0] at a
  by_cases b : x < kN K
  ·rw [if_pos b, if_pos (by rw [i_lt] at b; omega)]
  ·rw [if_neg b, if_neg (by rw [i_lt] at b; omega)]
theorem setFor_ok {K : Core} (wf : WF K) {L : Int32} {o : Ob} (h : Sh K L o) (x m a b : Int32) : okP (F2 o x m a b) (fun r => if (0 ≤ x.toInt ∧ x.toInt < (kN K).toInt) ∧ (0 ≤ m.toInt ∧ m.toInt ≤ 4) then r.1 = 1 ∧ Sh (kFor K x.toInt.toNat m a b) L r.2 else r.1 = 0 ∧ Sh K L r.2) := by
 have z0 : (0 : Int32).toInt = 0 := rfl
 have z4 : (4 : Int32).toInt = 4 := rfl
 have n16 := wf.n
 unfold F2
 rw [slot_ok h]
 simp only [Option.bind_some]
 by_cases c : 0 ≤ x.toInt ∧ x.toInt < (kN K).toInt
 ·rw [if_pos c, if_neg (by decide)]
  by_cases d : 0 ≤ m.toInt ∧ m.toInt ≤ 4
  ·simp only [if_pos (show (0 ≤ x.toInt ∧ x.toInt < (kN K).toInt) ∧ (0 ≤ m.toInt ∧ m.toInt ≤ 4) from ⟨c, d⟩)]
   rw [if_neg (by rw [i_lt, z0]; omega), if_neg (by rw [i_lt, z4]; omega), h.M, h.A, h.B]
   apply okP.bind
   refine okP.aset (by omega) (by rw [wf.m]; omega) ?_
   apply okP.bind
   refine okP.aset (by omega) (by rw [wf.a]; omega) ?_
   apply okP.bind
   refine okP.aset (by omega) (by rw [wf.c]; omega) ?_
   exact okP.some ⟨rfl, Sh_for h⟩
  ·simp only [if_neg (show ¬ ((0 ≤ x.toInt ∧ x.toInt < (kN K).toInt) ∧ (0 ≤ m.toInt ∧ m.toInt ≤ 4)) from fun q => d q.2)]
   apply okP.ite <;> intro e
   ·exact okP.some ⟨rfl, h⟩
   ·rw [i_lt, z0] at e
    rw [if_pos (by rw [i_lt, z4]; omega)]
    exact okP.some ⟨rfl, h⟩
 ·simp only [if_neg (show ¬ ((0 ≤ x.toInt ∧ x.toInt < (kN K).toInt) ∧ (0 ≤ m.toInt ∧ m.toInt ≤ 4)) from fun q => c q.1)]
  rw [if_neg c, if_pos rfl]
  exact okP.some ⟨rfl, h⟩
theorem Pv_same {K : Core} {o p : Ob} {n : Nat} (h : Pv K o n) (h1 : f_prevVal p = f_prevVal o) (h2 : f_prevFound p = f_prevFound o) : Pv K p n := by
 intro s hs
 rw [h1, h2]
 exact h s hs
theorem setCell_ok {K : Core} (wf : WF K) {L : Int32} {o : Ob} (h : Sh K L o) (x y v : Int32) : okP (F4 o x y v) (fun r => if (0 ≤ x.toInt ∧ x.toInt < (kR K).toInt) ∧ (0 ≤ y.toInt ∧ y.toInt < 4) then r.1 = 1 ∧ ∃ L', Sh (kSet K x.toInt.toNat y.toInt.toNat v) L' r.2 ∧ L'.toInt = cc K (kSet K x.toInt.toNat y.toInt.toNat v) (nN K) else r.1 = 0 ∧ Sh K L r.2) := by
 have z0 : (0 : Int32).toInt = 0 := rfl
 have z4 : (4 : Int32).toInt = 4 := rfl
 have r32 := wf.r
 unfold F4
 rw [row_ok h]
 simp only [Option.bind_some]
 by_cases c : 0 ≤ x.toInt ∧ x.toInt < (kR K).toInt
 ·rw [if_pos c, if_neg (by decide)]
  by_cases d : 0 ≤ y.toInt ∧ y.toInt < 4
  ·simp only [if_pos (show (0 ≤ x.toInt ∧ x.toInt < (kR K).toInt) ∧ (0 ≤ y.toInt ∧ y.toInt < 4) from ⟨c, d⟩)]
   rw [if_neg (by rw [i_lt, z0]; omega), if_pos (by rw [i_lt, z4]; omega)]
   apply okP.bind
   refine okP.mono (snap_ok wf h) ?_
   rintro p ⟨hp, P⟩
   have e := idx (r := x) (f := y) ⟨c.1, by omega⟩ d
   rw [hp.D, hp.G, aset_at (n := x.toInt.toNat * 4 + y.toInt.toNat) (by omega) (by rw [wf.d]; omega)]
   simp only [Option.bind_some]
   rw [aset_at (n := x.toInt.toNat) (by omega) (by rw [wf.g]; omega)]
   simp only [Option.bind_some]
   have hq := Sh_cell hp (r := x.toInt.toNat) (f := y.toInt.toNat) (v := v)
   have P' : Pv K (s_filled (s_data p ((kDa K).set (x.toInt.toNat * 4 + y.toInt.toNat) v)) ((kG K).set x.toInt.toNat 1)) (nN K) := Pv_same P rfl rfl
   apply okP.bind
   refine okP.mono (chd_ok (K := K) (wf.set (by omega)) hq P') ?_
   rintro ⟨n, q⟩ ⟨a1, a2⟩
   exact okP.some ⟨rfl, _, a2.last, a1⟩
  ·simp only [if_neg (show ¬ ((0 ≤ x.toInt ∧ x.toInt < (kR K).toInt) ∧ (0 ≤ y.toInt ∧ y.toInt < 4)) from fun q => d q.2)]
   apply okP.ite <;> intro e
   ·exact okP.some ⟨rfl, h⟩
   ·rw [i_lt, z0] at e
    rw [if_neg (by rw [i_lt, z4]; omega)]
    exact okP.some ⟨rfl, h⟩
 ·simp only [if_neg (show ¬ ((0 ≤ x.toInt ∧ x.toInt < (kR K).toInt) ∧ (0 ≤ y.toInt ∧ y.toInt < 4)) from fun q => c q.1)]
  rw [if_neg c, if_pos rfl]
  exact okP.some ⟨rfl, h⟩
theorem clearRow_ok {K : Core} (wf : WF K) {L : Int32} {o : Ob} (h : Sh K L o) (x : Int32) : okP (F13 o x) (fun r => if (0 ≤ x.toInt ∧ x.toInt < (kR K).toInt) ∧ fil K x.toInt.toNat = true then r.1 = 1 ∧ ∃ L', Sh (kClr K x.toInt.toNat) L' r.2 ∧ L'.toInt = cc K (kClr K x.toInt.toNat) (nN K) else r.1 = 0 ∧ Sh K L r.2) := by
 have z0 : (0 : Int32).toInt = 0 := rfl
 have z4 : (4 : Int32).toInt = 4 := rfl
 have r32 := wf.r
 unfold F13
 rw [row_ok h]
 simp only [Option.bind_some]
 by_cases c : 0 ≤ x.toInt ∧ x.toInt < (kR K).toInt
 ·rw [if_pos c, if_neg (by decide), h.G, ag_fil wf c.1 (by omega)]
  simp only [Option.bind_some]
  by_cases f0 : ((kG K)[x.toInt.toNat]?).getD 0 = 0
  ·have fi : fil K x.toInt.toNat = false := by unfold fil; rw [f0]; rfl
   rw [if_pos f0]
   simp only [if_neg (show ¬ ((0 ≤ x.toInt ∧ x.toInt < (kR K).toInt) ∧ fil K x.toInt.toNat = true) from fun q => by rw [fi] at q; cases q.2)]
   exact okP.some ⟨rfl, h⟩
  ·have fi : fil K x.toInt.toNat = true := by unfold fil; rw [bne_iff_ne]; exact f0
   simp only [if_pos (show (0 ≤ x.toInt ∧ x.toInt < (kR K).toInt) ∧ fil K x.toInt.toNat = true from ⟨c, fi⟩)]
   rw [if_neg f0]
   apply okP.bind
   refine okP.mono (snap_ok wf h) ?_
   rintro p ⟨hp, P⟩
   have d128 := wf.d
   have ix : ∀ k : Int32, 0 ≤ k.toInt → k.toInt < 4 → (x * 4 + k).toInt = x.toInt * 4 + k.toInt := fun k k0 k1 => idx (r := x) (f := k) ⟨c.1, by omega⟩ ⟨k0, k1⟩
   have st : ∀ (D : List Int32) (k : Int32) (n : Nat), D.length = 128 → k.toInt = n → n < 4 → B13_27 x (k, s_data p D) = some (.inr (k + 1, s_data p (D.set (x.toInt.toNat * 4 + n) 0))) := by
    intro D k n lD hk hn
    unfold B13_27
    simp only
    have e := ix k (by omega) (by omega)
    rw [if_pos (by rw [i_lt, z4]; omega), show f_data (s_data p D) = D from rfl, aset_at (n := x.toInt.toNat * 4 + n) (by omega) (by omega)]
    rfl
   have p0 : s_data p (kDa K) = p := by rw [← hp.D]; rfl
   have lp : loopN (B13_27 x) qN (0, p) = some (s_data p (((((kDa K).set (x.toInt.toNat * 4 + 0) 0).set (x.toInt.toNat * 4 + 1) 0).set (x.toInt.toNat * 4 + 2) 0).set (x.toInt.toNat * 4 + 3) 0)) := by
    have b0 := st (kDa K) 0 0 d128 rfl (by decide)
    rw [p0] at b0
    have b1 := st ((kDa K).set (x.toInt.toNat * 4 + 0) 0) (0 + 1) 1 (by rw [List.length_set]; exact d128) rfl (by decide)
    have b2 := st (((kDa K).set (x.toInt.toNat * 4 + 0) 0).set (x.toInt.toNat * 4 + 1) 0) (0 + 1 + 1) 2 (by simp only [List.length_set]; exact d128) rfl (by decide)
    have b3 := st ((((kDa K).set (x.toInt.toNat * 4 + 0) 0).set (x.toInt.toNat * 4 + 1) 0).set (x.toInt.toNat * 4 + 2) 0) (0 + 1 + 1 + 1) 3 (by simp only [List.length_set]; exact d128) rfl (by decide)
    have b4 : ∀ q, B13_27 x (0 + 1 + 1 + 1 + 1, q) = some (.inl q) := by
     intro q
     unfold B13_27
     simp only
     rw [if_neg (by decide)]
    show loopN (B13_27 x) (3995 + 1 + 1 + 1 + 1 + 1) (0, p) = _
    simp only [loopN, b0, b1, b2, b3, b4]
   rw [lp]
   simp only [Option.bind_some]
   rw [show ∀ D, f_filled (s_data p D) = f_filled p from fun _ => rfl, hp.G, aset_at (n := x.toInt.toNat) (by omega) (by rw [wf.g]; omega)]
   simp only [Option.bind_some]
   have hq : Sh (kClr K x.toInt.toNat) L (s_filled (s_data p (((((kDa K).set (x.toInt.toNat * 4 + 0) 0).set (x.toInt.toNat * 4 + 1) 0).set (x.toInt.toNat * 4 + 2) 0).set (x.toInt.toNat * 4 + 3) 0)) ((kG K).set x.toInt.toNat 0)) := by
    obtain ⟨h1, h2⟩ := hp
    refine ⟨?_, h2⟩
    rw [← h1]
    dsimp only [core, kClr, kDa, kG, f_data, f_filled, f_rf, f_cf, f_vf, f_ag, f_fMode, f_fRk, f_fCk, f_prevVal, f_prevFound, f_keys, f_nRows, f_nForms, f_last, f_gVal, f_gCount, f_selUseR, f_selRk, f_selUseC, f_selCk, s_filled, s_data]
   have P' : Pv K (s_filled (s_data p (((((kDa K).set (x.toInt.toNat * 4 + 0) 0).set (x.toInt.toNat * 4 + 1) 0).set (x.toInt.toNat * 4 + 2) 0).set (x.toInt.toNat * 4 + 3) 0)) ((kG K).set x.toInt.toNat 0)) (nN K) := Pv_same P rfl rfl
   apply okP.bind
   refine okP.mono (chd_ok (K := K) (wf.clr (by omega)) hq P') ?_
   rintro ⟨n, q⟩ ⟨a1, a2⟩
   exact okP.some ⟨rfl, _, a2.last, a1⟩
 ·simp only [if_neg (show ¬ ((0 ≤ x.toInt ∧ x.toInt < (kR K).toInt) ∧ fil K x.toInt.toNat = true) from fun q => c q.1)]
  rw [if_neg c, if_pos rfl]
  exact okP.some ⟨rfl, h⟩
theorem field_ok (x : Int32) : F12 x = some (if 0 ≤ x.toInt ∧ x.toInt < 4 then 1 else 0) := by
 have z0 : (0 : Int32).toInt = 0 := rfl
 have z4 : (4 : Int32).toInt = 4 := rfl
 unfold F12
 by_cases a : x < 0
 ·rw [if_pos a, if_neg (by rw [i_lt, z0] at a; omega)]
 ·rw [if_neg a]
  rw [i_lt, z0] at a
  by_cases b : x < 4
  ·rw [if_pos b, if_pos (by rw [i_lt, z4] at b; omega)]
  ·rw [if_neg b, if_neg (by rw [i_lt, z4] at b; omega)]
def pOk (a b c g : Int32) : Prop := (0 ≤ a.toInt ∧ a.toInt < 4) ∧ (0 ≤ b.toInt ∧ b.toInt < 4) ∧ (0 ≤ c.toInt ∧ c.toInt < 4) ∧ (0 ≤ g.toInt ∧ g.toInt ≤ 3)
instance (a b c g : Int32) : Decidable (pOk a b c g) := by unfold pOk; infer_instance
theorem setPiv_ok {K : Core} (wf : WF K) {L : Int32} {o : Ob} (h : Sh K L o) (a b c g : Int32) : okP (F11 o a b c g) (fun r => if pOk a b c g then r.1 = 1 ∧ ∃ L', Sh (kPiv K a b c g) L' r.2 ∧ L'.toInt = cc K (kPiv K a b c g) (nN K) else r.1 = 0 ∧ Sh K L r.2) := by
 have z0 : (0 : Int32).toInt = 0 := rfl
 have z3 : (3 : Int32).toInt = 3 := rfl
 unfold F11
 rw [field_ok a, field_ok b, field_ok c]
 simp only [Option.bind_some]
 by_cases ha : 0 ≤ a.toInt ∧ a.toInt < 4
 ·rw [if_pos ha, if_neg (by decide)]
  by_cases hb : 0 ≤ b.toInt ∧ b.toInt < 4
  ·rw [if_pos hb, if_neg (by decide)]
   by_cases hc : 0 ≤ c.toInt ∧ c.toInt < 4
   ·rw [if_pos hc, if_neg (by decide)]
    by_cases hg : 0 ≤ g.toInt ∧ g.toInt ≤ 3
    ·simp only [if_pos (show pOk a b c g from ⟨ha, hb, hc, hg⟩)]
     rw [if_neg (by rw [i_lt, z0]; omega), if_neg (by rw [i_lt, z3]; omega)]
     apply okP.bind
     refine okP.mono (snap_ok wf h) ?_
     rintro p ⟨hp, P⟩
     have P' : Pv K (s_ag (s_vf (s_cf (s_rf p a) b) c) g) (nN K) := Pv_same P (by dsimp only [f_data, f_filled, f_rf, f_cf, f_vf, f_ag, f_fMode, f_fRk, f_fCk, f_prevVal, f_prevFound, f_keys, f_nRows, f_nForms, f_last, f_gVal, f_gCount, f_selUseR, f_selRk, f_selUseC, f_selCk, s_ag, s_vf, s_cf, s_rf]) (by dsimp only [f_data, f_filled, f_rf, f_cf, f_vf, f_ag, f_fMode, f_fRk, f_fCk, f_prevVal, f_prevFound, f_keys, f_nRows, f_nForms, f_last, f_gVal, f_gCount, f_selUseR, f_selRk, f_selUseC, f_selCk, s_ag, s_vf, s_cf, s_rf])
     apply okP.bind
     refine okP.mono (chd_ok (K := K) (wf.piv ha hb hc) (Sh_piv hp) P') ?_
     rintro ⟨n, q⟩ ⟨a1, a2⟩
     exact okP.some ⟨rfl, _, a2.last, a1⟩
    ·simp only [if_neg (show ¬ pOk a b c g from fun q => hg q.2.2.2)]
     apply okP.ite <;> intro e
     ·exact okP.some ⟨rfl, h⟩
     ·rw [i_lt, z0] at e
      rw [if_pos (by rw [i_lt, z3]; omega)]
      exact okP.some ⟨rfl, h⟩
   ·simp only [if_neg (show ¬ pOk a b c g from fun q => hc q.2.2.1)]
    rw [if_neg hc, if_pos rfl]
    exact okP.some ⟨rfl, h⟩
  ·simp only [if_neg (show ¬ pOk a b c g from fun q => hb q.2.1)]
   rw [if_neg hb, if_pos rfl]
   exact okP.some ⟨rfl, h⟩
 ·simp only [if_neg (show ¬ pOk a b c g from fun q => ha q.1)]
  rw [if_neg ha, if_pos rfl]
  exact okP.some ⟨rfl, h⟩
theorem isFil_ok {K : Core} (wf : WF K) {L : Int32} {o : Ob} (h : Sh K L o) (x : Int32) : F14 o x = some (if (0 ≤ x.toInt ∧ x.toInt < (kR K).toInt) ∧ fil K x.toInt.toNat = true then 1 else 0) := by
 have r32 := wf.r
 unfold F14
 rw [row_ok h]
 simp only [Option.bind_some]
 by_cases c : 0 ≤ x.toInt ∧ x.toInt < (kR K).toInt
 ·rw [if_pos c, if_neg (by decide), h.G, ag_fil wf c.1 (by omega)]
  simp only [Option.bind_some]
  rcases wf.b x.toInt.toNat (by omega) with g | g
  ·have fi : fil K x.toInt.toNat = false := by unfold fil; rw [g]; rfl
   rw [g, if_neg (fun q => by rw [fi] at q; cases q.2)]; rfl
  ·have fi : fil K x.toInt.toNat = true := by unfold fil; rw [g]; rfl
   rw [g, if_pos ⟨c, fi⟩]; rfl
 ·rw [if_neg c, if_pos rfl, if_neg (fun q => c q.1)]
theorem getCell_ok {K : Core} (wf : WF K) {L : Int32} {o : Ob} (h : Sh K L o) (x y : Int32) : F15 o x y = some (if (0 ≤ x.toInt ∧ x.toInt < (kR K).toInt) ∧ (0 ≤ y.toInt ∧ y.toInt < 4) then fld K x.toInt.toNat y else 0) := by
 have z0 : (0 : Int32).toInt = 0 := rfl
 have z4 : (4 : Int32).toInt = 4 := rfl
 have r32 := wf.r
 unfold F15
 rw [row_ok h]
 simp only [Option.bind_some]
 by_cases a : 0 ≤ x.toInt ∧ x.toInt < (kR K).toInt
 ·rw [if_pos a, if_neg (by decide)]
  by_cases b : y < 0
  ·rw [if_pos b, if_neg (by rw [i_lt, z0] at b; omega)]
  ·rw [if_neg b]
   rw [i_lt, z0] at b
   by_cases c : y < 4
   ·rw [i_lt, z4] at c
    rw [if_pos (by rw [i_lt, z4]; exact c), if_pos ⟨a, by omega, c⟩, h.D, ag_fld wf ⟨a.1, by omega⟩ ⟨by omega, c⟩]; rfl
   ·rw [i_lt, z4] at c
    rw [if_neg (by rw [i_lt, z4]; exact c), if_neg (fun q => c q.2.2)]
 ·rw [if_neg a, if_pos rfl, if_neg (fun q => a q.1)]
def K0 (r n : Int32) : Core := (List.replicate 128 0, List.replicate 32 0, r, n, 0, 1, 2, 0, List.replicate 16 0, List.replicate 16 0, List.replicate 16 0)
theorem WF0 {r n : Int32} (hr : 4 ≤ r.toInt ∧ r.toInt ≤ 32) (hn : 1 ≤ n.toInt ∧ n.toInt ≤ 16) : WF (K0 r n) := by
 refine ⟨List.length_replicate, List.length_replicate, fun i hi => Or.inl ?_, hr, hn, by show (0 : Int) ≤ 0 ∧ (0 : Int) < 4; decide, by show (0 : Int) ≤ 1 ∧ (1 : Int) < 4; decide, by show (0 : Int) ≤ 2 ∧ (2 : Int) < 4; decide, List.length_replicate, List.length_replicate, List.length_replicate⟩
 show (List.replicate 32 (0 : Int32))[i]? = some 0
 rw [List.getElem?_replicate, if_pos hi]
theorem init_ok {r n : Int32} (hr : 4 ≤ r.toInt ∧ r.toInt ≤ 32) (hn : 1 ≤ n.toInt ∧ n.toInt ≤ 16) : okP (F1 r n) (fun o => Sh (K0 r n) 0 o) := by
 have z1 : (1 : Int32).toInt = 1 := rfl
 have z4 : (4 : Int32).toInt = 4 := rfl
 have z16 : (16 : Int32).toInt = 16 := rfl
 have z32 : (32 : Int32).toInt = 32 := rfl
 unfold F1
 rw [if_neg (show ¬ r < 4 by rw [i_lt, z4]; omega), if_neg (show ¬ 32 < r by rw [i_lt, z32]; omega), if_neg (show ¬ n < 1 by rw [i_lt, z1]; omega), if_neg (show ¬ 16 < n by rw [i_lt, z16]; omega)]
 apply okP.some
 dsimp only [Sh, core, K0, f_data, f_filled, f_rf, f_cf, f_vf, f_ag, f_fMode, f_fRk, f_fCk, f_prevVal, f_prevFound, f_keys, f_nRows, f_nForms, f_last, f_gVal, f_gCount, f_selUseR, f_selRk, f_selUseC, f_selCk, s_data, s_filled, s_rf, s_cf, s_vf, s_ag, s_fMode, s_fRk, s_fCk, s_prevVal, s_prevFound, s_keys, s_nRows, s_nForms, s_last, s_gVal, s_gCount, s_selUseR, s_selRk, s_selUseC, s_selCk]
 exact ⟨rfl, rfl, List.length_replicate, List.length_replicate, List.length_replicate⟩
theorem siz {K : Core} {L : Int32} {o : Ob} (h : Sh K L o) (wf : WF K) : (f_data o).length = 128 ∧ (f_filled o).length = 32 ∧ (f_fMode o).length = 16 ∧ (f_fRk o).length = 16 ∧ (f_fCk o).length = 16 ∧ (f_prevVal o).length = 16 ∧ (f_prevFound o).length = 16 ∧ (f_keys o).length = 64 := ⟨by rw [h.D]; exact wf.d, by rw [h.G]; exact wf.g, by rw [h.M]; exact wf.m, by rw [h.A]; exact wf.a, by rw [h.B]; exact wf.c, h.2.2⟩

def Eqr (K K' : Core) (n : Nat) : Prop := ∀ r, r < n → fil K r = fil K' r ∧ (fil K r = true → ∀ f : Int32, 0 ≤ f.toInt ∧ f.toInt < 4 → fld K r f = fld K' r f)
def Eqv (K K' : Core) : Prop := kR K = kR K' ∧ krf K = krf K' ∧ kcf K = kcf K' ∧ kvf K = kvf K' ∧ kag K = kag K' ∧ Eqr K K' (nR K)
theorem Eqv.R {K K' : Core} (e : Eqv K K') : kR K = kR K' := e.1
theorem Eqv.rf {K K' : Core} (e : Eqv K K') : krf K = krf K' := e.2.1
theorem Eqv.cf {K K' : Core} (e : Eqv K K') : kcf K = kcf K' := e.2.2.1
theorem Eqv.vf {K K' : Core} (e : Eqv K K') : kvf K = kvf K' := e.2.2.2.1
theorem Eqv.ag {K K' : Core} (e : Eqv K K') : kag K = kag K' := e.2.2.2.2.1
theorem Eqv.rows {K K' : Core} (e : Eqv K K') : Eqr K K' (nR K) := e.2.2.2.2.2
theorem Eqv_nR {K K' : Core} (e : Eqv K K') : nR K = nR K' := by unfold nR; rw [e.R]
theorem keyN_eq {K K' : Core} {f : Int32} (hf : 0 ≤ f.toInt ∧ f.toInt < 4) : ∀ {n : Nat}, Eqr K K' n → keyN K f n = keyN K' f n := by
 intro n
 induction n with
 | zero => intro _; rfl
 | succ n ih =>
  intro e
  rw [keyN_s, keyN_s, ih (fun r hr => e r (by omega))]
  obtain ⟨e1, e2⟩ := e n (by omega)
  rw [← e1]
  by_cases c : fil K n = true
  ·rw [if_pos c, if_pos c, e2 c f hf]
  ·rw [if_neg c, if_neg c]
theorem vN_eq {K K' : Core} (u a w b : Int32) (wf : WF K) (rf : krf K = krf K') (cf : kcf K = kcf K') (vf : kvf K = kvf K') : ∀ {n : Nat}, Eqr K K' n → vN K u a w b n = vN K' u a w b n := by
 intro n
 induction n with
 | zero => intro _; unfold vN; simp only [List.range_zero, List.filter_nil, List.map_nil]
 | succ n ih =>
  intro e
  rw [vN_s, vN_s, ih (fun r hr => e r (by omega))]
  obtain ⟨e1, e2⟩ := e n (by omega)
  by_cases c : fil K n = true
  ·have ec : cnd K u a w b n = cnd K' u a w b n := by
    unfold cnd
    rw [← e1, ← rf, ← cf, e2 c _ wf.rf, e2 c _ wf.cf]
   rw [ec, ← vf, e2 c _ wf.vf]
  ·rw [if_neg (by unfold cnd; rw [Bool.eq_false_iff.2 c]; simp), if_neg (by unfold cnd; rw [← e1, Bool.eq_false_iff.2 c]; simp)]
theorem Eqv_kys {K K' : Core} (e : Eqv K K') {f : Int32} (hf : 0 ≤ f.toInt ∧ f.toInt < 4) : kys K f = kys K' f := by
 unfold kys
 rw [← Eqv_nR e, keyN_eq hf e.rows]
theorem Eqv_rk {K K' : Core} (e : Eqv K K') {f : Int32} (hf : 0 ≤ f.toInt ∧ f.toInt < 4) (i : Int32) : rk K f i = rk K' f i := by
 unfold rk
 rw [Eqv_kys e hf]
theorem Eqv_grp {K K' : Core} (e : Eqv K K') (wf : WF K) (u a w b : Int32) : grp K u a w b = grp K' u a w b := by
 unfold grp
 rw [← Eqv_nR e, ← e.ag, vN_eq u a w b wf e.rf e.cf e.vf e.rows]
theorem Eqv_pv {K K' : Core} (e : Eqv K K') (wf : WF K) (i j : Int32) : pv K i j = pv K' i j := by
 have e1 : inR K (krf K) i ↔ inR K' (krf K') i := by unfold inR; rw [← e.rf, Eqv_kys e wf.rf]
 have e2 : inR K (kcf K) j ↔ inR K' (kcf K') j := by unfold inR; rw [← e.cf, Eqv_kys e wf.cf]
 unfold pv
 by_cases c : inR K (krf K) i ∧ inR K (kcf K) j
 ·rw [if_pos c, if_pos (show inR K' (krf K') i ∧ inR K' (kcf K') j from ⟨e1.1 c.1, e2.1 c.2⟩), ← e.rf, ← e.cf, ← Eqv_rk e wf.rf, ← Eqv_rk e wf.cf, Eqv_grp e wf]
 ·rw [if_neg c, if_neg (fun q => c ⟨e1.2 q.1, e2.2 q.2⟩)]
theorem fil_set {K : Core} (w : WF K) {r f i : Nat} {v : Int32} (hr : r < 32) : fil (kSet K r f v) i = if r = i then true else fil K i := by
 unfold fil
 show (((kG K).set r 1)[i]?.getD 0 != 0) = _
 by_cases e : r = i
 ·rw [if_pos e, e, List.getElem?_set_self (by rw [w.g]; omega)]; rfl
 ·rw [if_neg e, List.getElem?_set_ne e]
theorem fld_set {K : Core} (w : WF K) {r f i : Nat} {g v : Int32} (hr : r < 32) (hf : f < 4) (hg : 0 ≤ g.toInt ∧ g.toInt < 4) : fld (kSet K r f v) i g = if r = i ∧ f = g.toInt.toNat then v else fld K i g := by
 unfold fld
 show ((kDa K).set (r * 4 + f) v)[i * 4 + g.toInt.toNat]?.getD 0 = _
 by_cases e : r = i ∧ f = g.toInt.toNat
 ·rw [if_pos e, e.1, e.2, List.getElem?_set_self (by rw [w.d]; omega)]; rfl
 ·rw [if_neg e, List.getElem?_set_ne (by omega)]

def Pre (rf cf vf ag : Int32) (K : Core) : Prop := WF K ∧ kR K = 8 ∧ krf K = rf ∧ kcf K = cf ∧ kvf K = vf ∧ kag K = ag ∧ pOk rf cf vf ag
def Inv (rf cf vf ag : Int32) (o : Ob) : Prop := ∃ K L, Sh K L o ∧ Pre rf cf vf ag K
theorem fin {s : List Int32} {o p : Ob} {K K' : Core} {L L' : Int32} (h1 : Sh K L o) (w1 : WF K) (h2 : Sh K' L' p) (w2 : WF K') : sFit s (H1 s o p) := by
 obtain ⟨b1, b2, b3, b4, b5, b6, b7, b8⟩ := siz h1 w1
 obtain ⟨c1, c2, c3, c4, c5, c6, c7, c8⟩ := siz h2 w2
 refine ⟨by show 19 - 1 ≤ _; decide, ?_⟩
 simp only [H1, H1v, qhs, qsz, b1, b2, b3, b4, b5, b6, b7, b8, c1, c2, c3, c4, c5, c6, c7, c8]
 simp only [cN, room_1]
 omega
theorem turn {s : List Int32} (hs : s.length ≤ 260) {rf cf vf ag t : Int32} {o : Ob} (h : Inv rf cf vf ag o) (h1 : 0 ≤ t.toInt) (h2 : t.toInt ≤ 265) : okP (B0_24 s (rf, cf, vf, ag, t, o)) (fun r => Sum.elim (fun e => Inv e.1 e.2.1 e.2.2.1 e.2.2.2.1 e.2.2.2.2) (fun w => (0 ≤ w.2.2.2.2.1.toInt ∧ w.2.2.2.2.1.toInt ≤ 265 ∧ Inv w.1 w.2.1 w.2.2.1 w.2.2.2.1 w.2.2.2.2.2) ∧ (300 - w.2.2.2.2.1.toInt).toNat < (300 - t.toInt).toNat) r) := by
 have hl := len_i (n := s.length) (by omega)
 have z2 : (2 : Int32).toInt = 2 := rfl
 have z3 : (3 : Int32).toInt = 3 := rfl
 have z4 : (4 : Int32).toInt = 4 := rfl
 have z5 : (5 : Int32).toInt = 5 := rfl
 have a1 : (t + 1).toInt = t.toInt + 1 := inc1 (by omega)
 have a2 : (t + 2).toInt = t.toInt + 2 := by rw [i_add (by omega) (by omega), z2]
 have a3 : (t + 3).toInt = t.toInt + 3 := by rw [i_add (by omega) (by omega), z3]
 have a4 : (t + 4).toInt = t.toInt + 4 := by rw [i_add (by omega) (by omega), z4]
 have a5 : (t + 5).toInt = t.toInt + 5 := by rw [i_add (by omega) (by omega), z5]
 unfold B0_24
 simp only
 refine okP.ite (fun _ => okP.some h) (fun c => ?_)
 rw [i_lt, hl, a5] at c
 have next : ∀ a b c d p, Inv a b c d p → okP (J0_159 s p a b c d t) (fun r => Sum.elim (fun e => Inv e.1 e.2.1 e.2.2.1 e.2.2.2.1 e.2.2.2.2) (fun w => (0 ≤ w.2.2.2.2.1.toInt ∧ w.2.2.2.2.1.toInt ≤ 265 ∧ Inv w.1 w.2.1 w.2.2.1 w.2.2.2.1 w.2.2.2.2.2) ∧ (300 - w.2.2.2.2.1.toInt).toNat < (300 - t.toInt).toNat) r) := fun a b c d p hp => by
  unfold J0_159
  exact okP.some ⟨⟨by simp only; omega, by simp only; omega, hp⟩, by simp only; omega⟩
 obtain ⟨K, L, hS, wf, r8, e1, e2, e3, e4, po⟩ := h
 have r32 : (kR K).toInt = 8 := by rw [r8]; rfl
 apply okP.bind; refine okP.aget (by omega) (by omega) (fun y0 _ => ?_)
 apply okP.bind; refine okP.aget (by omega) (by omega) (fun y1 _ => ?_)
 apply okP.bind; refine okP.aget (by omega) (by omega) (fun y2 _ => ?_)
 apply okP.bind; refine okP.aget (by omega) (by omega) (fun y3 _ => ?_)
 apply okP.bind; refine okP.aget (by omega) (by omega) (fun y4 _ => ?_)
 apply okP.ite <;> intro d1
 ·apply okP.bind
  refine okP.mono (setCell_ok wf hS _ _ _) ?_
  rintro ⟨b, p⟩ hp
  apply next
  split at hp
  ·rename_i q
   obtain ⟨_, L', h1, _⟩ := hp
   exact ⟨_, _, h1, wf.set (by omega), r8, e1, e2, e3, e4, po⟩
  ·exact ⟨_, _, hp.2, wf, r8, e1, e2, e3, e4, po⟩
 apply okP.ite <;> intro d2
 ·apply okP.bind
  refine okP.mono (clearRow_ok wf hS _) ?_
  rintro ⟨b, p⟩ hp
  apply next
  split at hp
  ·rename_i q
   obtain ⟨_, L', h1, _⟩ := hp
   exact ⟨_, _, h1, wf.clr (by omega), r8, e1, e2, e3, e4, po⟩
  ·exact ⟨_, _, hp.2, wf, r8, e1, e2, e3, e4, po⟩
 apply okP.ite <;> intro d3
 ·apply okP.bind
  refine okP.mono (setPiv_ok wf hS _ _ _ _) ?_
  rintro ⟨b, p⟩ hp
  apply next
  split at hp
  ·rename_i q
   obtain ⟨b1, L', h1, _⟩ := hp
   simp only at b1 h1 ⊢
   subst b1
   rw [if_neg (by decide), if_neg (by decide), if_neg (by decide), if_neg (by decide)]
   exact ⟨_, _, h1, wf.piv q.1 q.2.1 q.2.2.1, r8, rfl, rfl, rfl, rfl, q⟩
  ·obtain ⟨b1, h1⟩ := hp
   simp only at b1 h1 ⊢
   subst b1
   rw [if_pos rfl, if_pos rfl, if_pos rfl, if_pos rfl]
   exact ⟨_, _, h1, wf, r8, e1, e2, e3, e4, po⟩
 ·apply okP.bind
  refine okP.mono (setFor_ok wf hS _ _ _ _) ?_
  rintro ⟨b, p⟩ hp
  apply next
  split at hp
  ·exact ⟨_, _, hp.2, wf.for, r8, e1, e2, e3, e4, po⟩
  ·exact ⟨_, _, hp.2, wf, r8, e1, e2, e3, e4, po⟩
def Cp (K K' : Core) (i : Nat) : Prop := WF K' ∧ kR K' = 8 ∧ Eqr K K' i ∧ ∀ r, i ≤ r → fil K' r = false
theorem copy_in {s : List Int32} {x2 x3 x4 x5 i : Int32} {K : Core} {L : Int32} {a : Ob} (ha : Sh K L a) (wf : WF K) (r8 : kR K = 8) (h0 : 0 ≤ i.toInt) (h8 : i.toInt < 8) (fi : fil K i.toInt.toNat = true) {K' : Core} {L' : Int32} {b : Ob} (hb : Sh K' L' b) (cp : Cp K K' i.toInt.toNat) : okP (loopN (B0_203 s x2 x3 x4 x5 i) qN (0, a, b)) (fun e => e.1 = a ∧ ∃ K'' L'', Sh K'' L'' e.2 ∧ Cp K K'' (i.toInt.toNat + 1)) := by
 have z4 : (4 : Int32).toInt = 4 := rfl
 have kr : (kR K).toInt = 8 := by rw [r8]; rfl
 refine okP.loop (fun v => 0 ≤ v.1.toInt ∧ v.1.toInt ≤ 4 ∧ v.2.1 = a ∧ ∃ K' L', Sh K' L' v.2.2 ∧ WF K' ∧ kR K' = 8 ∧ Eqr K K' i.toInt.toNat ∧ (∀ r, i.toInt.toNat < r → fil K' r = false) ∧ (0 < v.1.toInt → fil K' i.toInt.toNat = true) ∧ (∀ g : Int32, 0 ≤ g.toInt → g.toInt < v.1.toInt → fld K i.toInt.toNat g = fld K' i.toInt.toNat g)) (fun v => (4 - v.1.toInt).toNat) ⟨by show (0 : Int) ≤ 0; decide, by show (0 : Int) ≤ 4; decide, rfl, K', L', hb, cp.1, cp.2.1, cp.2.2.1, fun r hr => cp.2.2.2 r (by omega), fun q => absurd q (by show ¬ (0 : Int) < 0; decide), fun g q1 q2 => by have : g.toInt < 0 := q2; omega⟩ (by show (4 - (0 : Int)).toNat < 4000; decide) ?_
 rintro ⟨j, a', b'⟩ ⟨j0, j4, rfl, K', L', hb', wf', r8', eq, un, fi', fe⟩
 simp only at j0 j4 hb' fi' fe
 have kr' : (kR K').toInt = 8 := by rw [r8']; rfl
 unfold B0_203
 simp only
 by_cases c : j < 4
 ·rw [if_pos c, getCell_ok wf ha]
  rw [i_lt, z4] at c
  simp only [Option.bind_some]
  rw [if_pos (show (0 ≤ i.toInt ∧ i.toInt < (kR K).toInt) ∧ (0 ≤ j.toInt ∧ j.toInt < 4) from ⟨⟨h0, by omega⟩, ⟨j0, c⟩⟩)]
  apply okP.bind
  refine okP.mono (setCell_ok wf' hb' i j _) ?_
  rintro ⟨x, p⟩ hp
  rw [if_pos (show (0 ≤ i.toInt ∧ i.toInt < (kR K').toInt) ∧ (0 ≤ j.toInt ∧ j.toInt < 4) from ⟨⟨h0, by omega⟩, ⟨j0, c⟩⟩)] at hp
  obtain ⟨_, L2, s2, _⟩ := hp
  have e1 : (j + 1).toInt = j.toInt + 1 := inc1 (by omega)
  apply okP.some
  refine ⟨⟨by simp only; omega, by simp only; omega, rfl, _, L2, s2, wf'.set (by omega), r8', ?_, ?_, ?_, ?_⟩, by simp only; omega⟩
  ·intro r hr
   obtain ⟨q1, q2⟩ := eq r hr
   refine ⟨?_, fun q f hf => ?_⟩
   ·rw [fil_set wf' (by omega), if_neg (by omega), q1]
   ·rw [fld_set wf' (by omega) (by omega) hf, if_neg (by omega)]
    exact q2 q f hf
  ·intro r hr
   rw [fil_set wf' (by omega), if_neg (by omega)]
   exact un r hr
  ·intro _
   rw [fil_set wf' (by omega), if_pos rfl]
  ·intro g g0 g1
   simp only [e1] at g1
   rw [fld_set wf' (by omega) (by omega) ⟨g0, by omega⟩]
   by_cases e : j.toInt = g.toInt
   ·rw [if_pos ⟨rfl, by omega⟩, i_eq.2 e]
   ·rw [if_neg (by omega)]
    exact fe g g0 (by omega)
 ·rw [if_neg c]
  rw [i_lt, z4] at c
  refine okP.some ⟨rfl, K', L', hb', wf', r8', ?_, fun r hr => un r (by omega)⟩
  intro r hr
  by_cases e : r = i.toInt.toNat
  ·subst e
   refine ⟨by rw [fi, fi' (by omega)], fun _ f hf => fe f hf.1 (by omega)⟩
  ·exact eq r (by omega)
theorem copy_ok {s : List Int32} {x2 x3 x4 x5 : Int32} {K : Core} {L : Int32} {a : Ob} (ha : Sh K L a) (wf : WF K) (r8 : kR K = 8) {b : Ob} (hb : Sh (K0 8 1) 0 b) : okP (loopN (B0_180 s x2 x3 x4 x5) qN (0, a, b)) (fun e => e.1 = a ∧ ∃ K' L', Sh K' L' e.2 ∧ Cp K K' 8) := by
 have z8 : (8 : Int32).toInt = 8 := rfl
 have kr : (kR K).toInt = 8 := by rw [r8]; rfl
 refine okP.loop (fun v => 0 ≤ v.1.toInt ∧ v.1.toInt ≤ 8 ∧ v.2.1 = a ∧ ∃ K' L', Sh K' L' v.2.2 ∧ Cp K K' v.1.toInt.toNat) (fun v => (8 - v.1.toInt).toNat) ⟨by show (0 : Int) ≤ 0; decide, by show (0 : Int) ≤ 8; decide, rfl, _, _, hb, WF0 (by decide) (by decide), rfl, fun r hr => absurd hr (Nat.not_lt_zero _), fun r _ => ?_⟩ (by show (8 - (0 : Int)).toNat < 4000; decide) ?_
 ·unfold fil
  show ((List.replicate 32 (0 : Int32))[r]?.getD 0 != 0) = false
  rw [List.getElem?_replicate]
  split <;> rfl
 rintro ⟨i, a', b'⟩ ⟨i0, i8, rfl, K', L', hb', cp⟩
 simp only at i0 i8 hb' cp
 unfold B0_180
 simp only
 by_cases c : i < 8
 ·rw [if_pos c, isFil_ok wf ha]
  rw [i_lt, z8] at c
  have e1 : (i + 1).toInt = i.toInt + 1 := inc1 (by omega)
  have en : (i + 1).toInt.toNat = i.toInt.toNat + 1 := by omega
  simp only [Option.bind_some]
  unfold J0_237
  by_cases fi : fil K i.toInt.toNat = true
  ·rw [if_pos (show (0 ≤ i.toInt ∧ i.toInt < (kR K).toInt) ∧ fil K i.toInt.toNat = true from ⟨⟨i0, by omega⟩, fi⟩), if_neg (by decide)]
   apply okP.bind
   refine okP.mono (copy_in ha wf r8 i0 c fi hb' cp) ?_
   rintro ⟨a2, b2⟩ ⟨rfl, K2, L2, s2, c2⟩
   refine okP.some ⟨⟨by simp only; omega, by simp only; omega, rfl, K2, L2, s2, by simp only [en]; exact c2⟩, by simp only; omega⟩
  ·rw [if_neg (show ¬ ((0 ≤ i.toInt ∧ i.toInt < (kR K).toInt) ∧ fil K i.toInt.toNat = true) from fun q => fi q.2), if_pos rfl]
   refine okP.some ⟨⟨by simp only; omega, by simp only; omega, rfl, K', L', hb', cp.1, cp.2.1, ?_, fun r hr => cp.2.2.2 r (by simp only [en] at hr; omega)⟩, by simp only; omega⟩
   intro r hr
   simp only [en] at hr
   by_cases e : r = i.toInt.toNat
   ·subst e
    exact ⟨by rw [cp.2.2.2 _ (Nat.le_refl _)]; exact Bool.eq_false_iff.2 fi, fun q => absurd q fi⟩
   ·exact cp.2.2.1 r (by omega)
 ·rw [if_neg c]
  rw [i_lt, z8] at c
  have : i.toInt.toNat = 8 := by omega
  rw [this] at cp
  exact okP.some ⟨rfl, K', L', hb', cp⟩
theorem cmp_in {s : List Int32} {K K' : Core} (wf : WF K) (wf' : WF K') (e : Eqv K K') (i : Int32) {L L' : Int32} {a b : Ob} (ha : Sh K L a) (hb : Sh K' L' b) : okP (loopN (B0_364 s i) qN (-1, a, b)) (fun r => ∃ p q, r = .inl (p, q) ∧ Sh K L p ∧ Sh K' L' q) := by
 have z8 : (8 : Int32).toInt = 8 := rfl
 refine okP.loop (fun v => -1 ≤ v.1.toInt ∧ v.1.toInt ≤ 8 ∧ Sh K L v.2.1 ∧ Sh K' L' v.2.2) (fun v => (8 - v.1.toInt).toNat) ⟨by show (-1 : Int) ≤ -1; decide, by show (-1 : Int) ≤ 8; decide, ha, hb⟩ (by show (8 - (-1 : Int)).toNat < 4000; decide) ?_
 rintro ⟨j, p, q⟩ ⟨j0, j8, hp, hq⟩
 simp only at j0 j8 hp hq
 unfold B0_364
 simp only
 by_cases c : j < 8
 ·rw [if_pos c]
  rw [i_lt, z8] at c
  have e1 : (j + 1).toInt = j.toInt + 1 := inc1 (by omega)
  apply okP.bind
  refine okP.mono (value_ok wf hp i j) ?_
  rintro ⟨x1, p1⟩ ⟨v1, s1⟩
  apply okP.bind
  refine okP.mono (value_ok wf' hq i j) ?_
  rintro ⟨x2, p2⟩ ⟨v2, s2⟩
  simp only at v1 s1 v2 s2 ⊢
  rw [if_pos (by rw [v1, v2, Eqv_pv e wf])]
  apply okP.bind
  refine okP.mono (count_ok wf s1 i j) ?_
  rintro ⟨x3, p3⟩ ⟨v3, s3⟩
  apply okP.bind
  refine okP.mono (count_ok wf' s2 i j) ?_
  rintro ⟨x4, p4⟩ ⟨v4, s4⟩
  simp only at v3 s3 v4 s4 ⊢
  rw [if_pos (by rw [v3, v4, Eqv_pv e wf])]
  exact okP.some ⟨⟨by simp only; omega, by simp only; omega, s3, s4⟩, by simp only; omega⟩
 ·rw [if_neg c]
  exact okP.some ⟨p, q, rfl, hp, hq⟩
theorem cmp_ok {s : List Int32} {K K' : Core} (wf : WF K) (wf' : WF K') (e : Eqv K K') {L L' : Int32} {a b : Ob} (ha : Sh K L a) (hb : Sh K' L' b) : okP (loopN (B0_302 s) qN (-1, a, b)) (fun r => r.1 = 1 ∧ sFit s r.2) := by
 have z8 : (8 : Int32).toInt = 8 := rfl
 refine okP.loop (fun v => -1 ≤ v.1.toInt ∧ v.1.toInt ≤ 8 ∧ Sh K L v.2.1 ∧ Sh K' L' v.2.2) (fun v => (8 - v.1.toInt).toNat) ⟨by show (-1 : Int) ≤ -1; decide, by show (-1 : Int) ≤ 8; decide, ha, hb⟩ (by show (8 - (-1 : Int)).toNat < 4000; decide) ?_
 rintro ⟨j, p, q⟩ ⟨j0, j8, hp, hq⟩
 simp only at j0 j8 hp hq
 unfold B0_302
 simp only
 by_cases c : j < 8
 ·rw [if_pos c]
  rw [i_lt, z8] at c
  have e1 : (j + 1).toInt = j.toInt + 1 := inc1 (by omega)
  apply okP.bind
  refine okP.mono (rowKey_ok wf hp j) ?_
  rintro ⟨x1, p1⟩ ⟨v1, s1⟩
  apply okP.bind
  refine okP.mono (rowKey_ok wf' hq j) ?_
  rintro ⟨x2, p2⟩ ⟨v2, s2⟩
  simp only at v1 s1 v2 s2 ⊢
  rw [if_pos (by rw [v1, v2, ← e.rf, Eqv_rk e wf.rf])]
  apply okP.bind
  refine okP.mono (colKey_ok wf s1 j) ?_
  rintro ⟨x3, p3⟩ ⟨v3, s3⟩
  apply okP.bind
  refine okP.mono (colKey_ok wf' s2 j) ?_
  rintro ⟨x4, p4⟩ ⟨v4, s4⟩
  simp only at v3 s3 v4 s4 ⊢
  rw [if_pos (by rw [v3, v4, ← e.cf, Eqv_rk e wf.cf])]
  apply okP.bind
  refine okP.mono (cmp_in wf wf' e j s3 s4) ?_
  rintro r ⟨p5, p6, rfl, s5, s6⟩
  exact okP.some ⟨⟨by simp only; omega, by simp only; omega, s5, s6⟩, by simp only; omega⟩
 ·rw [if_neg c]
  exact okP.some ⟨rfl, fin hp wf hq wf'⟩
theorem law_ok (s : List Int32) (hs : s.length ≤ 260) : ∃ τ, F0 s = some (1, τ) ∧ τ.length - List.length ([Sum.inr (Sum.inl (FieldType.int, s))] : QHeap) ≤ room_1.cells ∧ qhs τ - qhs [Sum.inr (Sum.inl (FieldType.int, s))] ≤ room_1.slots := by
 have : okP (F0 s) (fun e => e.1 = 1 ∧ sFit s e.2) := by
  unfold F0
  apply okP.bind
  refine okP.mono (init_ok (r := 8) (n := 4) (by decide) (by decide)) (fun o ho => ?_)
  apply okP.bind
  refine okP.mono (P := fun e => Inv e.1 e.2.1 e.2.2.1 e.2.2.2.1 e.2.2.2.2) ?_ ?_
  ·refine okP.loop (fun w => 0 ≤ w.2.2.2.2.1.toInt ∧ w.2.2.2.2.1.toInt ≤ 265 ∧ Inv w.1 w.2.1 w.2.2.1 w.2.2.2.1 w.2.2.2.2.2) (fun v => (300 - v.2.2.2.2.1.toInt).toNat) ⟨by show (0 : Int) ≤ 0; decide, by show (0 : Int) ≤ 265; decide, _, _, ho, WF0 (by decide) (by decide), rfl, rfl, rfl, rfl, rfl, (by decide : pOk 0 1 2 0)⟩ (by show (300 - (0 : Int)).toNat < 4000; decide) ?_
   rintro ⟨rf, cf, vf, ag, t, o⟩ ⟨h1, h2, h3⟩
   exact turn hs h3 h1 h2
  rintro ⟨rf, cf, vf, ag, a⟩ ⟨K, L, hS, wf, r8, e1, e2, e3, e4, po⟩
  simp only at hS e1 e2 e3 e4 po ⊢
  apply okP.bind
  refine okP.mono (init_ok (r := 8) (n := 1) (by decide) (by decide)) (fun b hb => ?_)
  apply okP.bind
  refine okP.mono (copy_ok hS wf r8 hb) ?_
  rintro ⟨a', b2⟩ ⟨ea, K', L', s2, w2, r82, eq, _⟩
  simp only at ea s2 ⊢
  subst ea
  apply okP.bind
  refine okP.mono (setPiv_ok w2 s2 rf cf vf ag) ?_
  rintro ⟨x, b3⟩ h3
  rw [if_pos po] at h3
  obtain ⟨_, L3, s3, _⟩ := h3
  simp only at s3 ⊢
  have w3 := w2.piv (g := ag) po.1 po.2.1 po.2.2.1
  have ev : Eqv K (kPiv K' rf cf vf ag) := ⟨by rw [r8]; exact r82.symm, e1, e2, e3, e4, by
   have : nR K = 8 := by unfold nR; rw [r8]; rfl
   rw [this]
   exact eq⟩
  apply okP.bind
  refine okP.mono (rkc_ok wf hS) ?_
  rintro ⟨n1, a4⟩ ⟨l1, s4⟩
  apply okP.bind
  refine okP.mono (rkc_ok w3 s3) ?_
  rintro ⟨n2, a5⟩ ⟨l2, s5⟩
  simp only at l1 s4 l2 s5 ⊢
  rw [if_pos (show n1 = n2 by rw [i_eq, l1, l2, ← ev.rf, Eqv_kys ev wf.rf])]
  apply okP.bind
  refine okP.mono (ckc_ok wf s4) ?_
  rintro ⟨n3, a6⟩ ⟨l3, s6⟩
  apply okP.bind
  refine okP.mono (ckc_ok w3 s5) ?_
  rintro ⟨n4, a7⟩ ⟨l4, s7⟩
  simp only at l3 s6 l4 s7 ⊢
  rw [if_pos (show n3 = n4 by rw [i_eq, l3, l4, ← ev.cf, Eqv_kys ev wf.cf])]
  apply okP.bind
  refine okP.mono (cmp_ok wf w3 ev s6 s7) (fun e he => okP.some he)
 obtain ⟨⟨r, τ⟩, q1, q2, q3⟩ := this
 simp only at q2
 subst q2
 exact ⟨τ, q1, q3⟩
set_option maxRecDepth 65536 in
theorem comes_1 {Post : Tables → Env → Array Value → State → Outcome → State → Prop} (hpost : ∀ tb e args s v u, (limb_1_1.after args s (.returned v) u = true ∧ limb_1_2.after args s (.returned v) u = true ∧ True) → FrameEnd s (.returned v) u (Jvm.fieldLocs frame_1_writes args s ++ Jvm.arrayLocs frame_1_arrays args s ++ Jvm.staticLocs frame_1_statics s) 48 1408 → Post tb e args s (.returned v) u) :
    ArmFor flags0 classFile x code maxLocals ret World_1 tables_1 room_1 Calls_1 rest_1 Pre_1 Post := by
  intro l hfl _ _ p e ha hc hk s m args below hf hA hF happ hP
  obtain ⟨hcalls, hrest, hpre⟩ := hP
  obtain ⟨-, -, -, hnamed, -, -, -, hat⟩ := (Spec.applies_iff hf).mp happ
  obtain ⟨hg, hn⟩ := and_e (Cond.before_iff.mp (show (Jvm.Cond.and given_1 narrow_1).before args s = true from hpre))
  obtain ⟨g0, g1⟩ := and_e hg
  obtain ⟨w0, rfl⟩ : ∃ w0 : Value, args = #[w0] := by
    have hs : args.size = 1 := by simpa [Cond.value, given_1] using g0
    obtain ⟨L⟩ := args
    match L, hs with
    | [w0], _ => exact ⟨w0, rfl⟩
  have hw := fun d (hd : d ∈ tables_1) => atoms_spec (ws := Jvm.Cond.code x code maxLocals ret :: tables_1) hat d (List.mem_cons_of_mem _ hd)
  have hfit : Fit s := fun {y c} hc i hi => by
    obtain ⟨ha, rfl⟩ := Array.getElem?_eq_some_iff.mp hc
    have q := List.all_eq_true.mp ((Array.all_eq_true_iff_forall_mem.mp hF) _ (Array.getElem_mem ha)) i (List.mem_range.mpr hi)
    simpa [Array.getElem?_eq_getElem hi] using q
  obtain ⟨n1, n2⟩ := and_e hn
  obtain ⟨a, cl, xs, rfl, hA1, hA2, hlen⟩ := script_ok hfit n1 n2
  obtain ⟨τ, hF0, hc1, hs1⟩ := law_ok xs hlen
  have hlt := hA1.lt
  have Ad : QAd s.heap.size (fun k => match k with | 0 => a | k + 1 => s.heap.size + k) := ⟨fun k hk => by cases k with | zero => exact absurd hk (by decide) | succ k => rfl, fun i j h => by
    cases i with
    | zero => cases j with
      | zero => rfl
      | succ j => have h' : a = s.heap.size + j := h; exact absurd hA1.lt (by rw [h']; exact Nat.not_lt.mpr (Nat.le_add_right _ _))
    | succ i => cases j with
      | zero => have h' : s.heap.size + i = a := h; exact absurd hA1.lt (by rw [← h']; exact Nat.not_lt.mpr (Nat.le_add_right _ _))
      | succ j => have h' : s.heap.size + i = s.heap.size + j := h; omega⟩
  have hR : QRep s s.heap.size (fun k => match k with | 0 => a | k + 1 => s.heap.size + k) s.heap [.inr (.inl (.int, xs))] := ⟨Nat.le_refl _, rfl, fun k c h => by
    cases k with
    | zero => cases h; exact ⟨cl, hA1, hA2⟩
    | succ k => cases h⟩
  have T := tF0 (l := l) (Z := s) Ad (QW_ok hw) xs hF0
  have M := QTri.met (k := 0) (as := [.ref 0]) (by decide) T hR (Nat.le_of_ble_eq_true rfl) (fun q => by cases q) tables_1 (rm := room_1) (by decide) (by decide) hc1 hs1
  obtain ⟨n, o, h1, h2, h3, _, L, rfl, ⟨rfl, R', N⟩, hq⟩ := M p e ha hc hk s m _ below hf ((Spec.applies_iff_loose hf).mp happ).1 ⟨rfl, State.Warmed39.refl s, rfl⟩ trivial
  refine ⟨n, _, h1, h2, h3, hpost _ _ _ _ _ _ ⟨Cond.after_iff.mpr rfl, Cond.after_iff.mpr (eq_i res_at (Term.int_eval (1)) rfl), trivial⟩ ⟨hq.1, hq.2.1, (hq.2.2.sift fun y hy => Or.inr (N y hy)).mono hc1 hs1⟩⟩
theorem main_1_1 : Claimed_1_1 := comes_1 fun _ _ _ _ _ _ h hF => ⟨h.1, hF⟩
theorem main_1_2 : Claimed_1_2 := comes_1 fun _ _ _ _ _ _ h hF => ⟨h.2.1, hF⟩
end Jvm.Pilot.@@N@@
namespace Jvm.Pilot.@@N@@
open Jvm Jvm.ClassFile Sem Op Lib Jvm.Free Jvm.Stand Jvm.Pilot.@@N@@.Jvm.D
/-! MADE BY PROGRAM (witnessworld.py) out of the Statement's table words and the real class files: 11 classes; the members and pool entries that the words name. The judged class is class 1, her method 1. -/
namespace start1
open Jvm.ClassFile
def u (s : String) : CpInfo := .utf8 (stringToUtf16 s)
/-- a pool by its gaps: so many unusable entries, then the entry; so many at the end -/
def gap : Nat → List CpInfo → List CpInfo
  | 0, r => r
  | n + 1, r => .unusable :: gap n r
def poolList (es : List (Nat × CpInfo)) (last : Nat) : List CpInfo := es.foldr (fun e r => gap e.1 (e.2 :: r)) (gap last [])
def pool (es : List (Nat × CpInfo)) (last : Nat) : Array CpInfo := ⟨poolList es last⟩
def fileOf (pool : Array CpInfo) (this : Nat) (attrs : Array Attribute := #[]) (ms : Array MethodInfo := #[]) (fl : Nat := 33) (sup : Nat := 0) (ifs : Array Nat := #[]) (fds : Array FieldInfo := #[]) : ClassFile where
  minorVersion := 0
  majorVersion := 65
  constantPool := pool
  accessFlags := fl
  thisClass := this
  superClass := sup
  interfaces := ifs
  fields := fds
  methods := ms
  attributes := attrs
def plain (name : String) (sup : Option ClassId) : Class where
  name := name
  kind := .ordinary
  loader := none
  accessFlags := 33
  super := sup
  interfaces := #[]
  cf := none
  fields := #[]
  methods := #[]
  instanceTypes := #[]
  staticTypes := #[]
  resolved := #[]
  callSites := []
  init := .initialized
  statics := none
  mirror := none

def pool0 : Array CpInfo := pool [(5, u "<init>"), (0, u "()V"), (1, .class_ 10), (1, u "java/lang/Object")] 113

def k0c0 : Code := { maxStack := 0, maxLocals := 1, code := object_method_1_code, exceptionTable := #[], attributes := #[] }
def k0m0 : Method := { name := "<init>", desc := "()V", sig := { parameters := [], returnType := none }, accessFlags := 1, code := some k0c0 }
/-- java/lang/Object -/
def k0 : Class := { plain "java/lang/Object" none with
  accessFlags := 33
  interfaces := #[]
  cf := some (fileOf pool0 8 #[] #[{ accessFlags := 1, nameIndex := 5, descriptorIndex := 6, attributes := #[] }] 33 0 #[] #[])
  fields := #[]
  methods := #[k0m0]
  instanceTypes := #[]
  staticTypes := #[]
  resolved := Array.replicate 124 none
  statics := none }

def pool1 : Array CpInfo := pool [(2, .class_ 4), (1, u "java/lang/Object"), (0, u "<init>"), (0, u "()V"), (0, .class_ 8), (0, u "PivotSheet"), (0, .methodref 7 10), (0, .nameAndType 5 11), (0, u "(II)V"), (0, .methodref 7 13), (0, .nameAndType 14 15), (0, u "setCell"), (0, u "(III)Z"), (0, .methodref 7 17), (0, .nameAndType 18 19), (0, u "clearRow"), (0, u "(I)Z"), (0, .methodref 7 21), (0, .nameAndType 22 23), (0, u "setPivot"), (0, u "(IIII)Z"), (0, .methodref 7 25), (0, .nameAndType 26 23), (0, u "setFormula"), (0, .methodref 7 28), (0, .nameAndType 29 19), (0, u "isFilled"), (0, .methodref 7 31), (0, .nameAndType 32 33), (0, u "getCell"), (0, u "(II)I"), (0, .methodref 7 35), (0, .nameAndType 36 37), (0, u "rowKeyCount"), (0, u "()I"), (0, .methodref 7 39), (0, .nameAndType 40 37), (0, u "colKeyCount"), (0, .methodref 7 42), (0, .nameAndType 43 44), (0, u "rowKey"), (0, u "(I)I"), (0, .methodref 7 46), (0, .nameAndType 47 44), (0, u "colKey"), (0, .methodref 7 49), (0, .nameAndType 50 33), (0, u "value"), (0, .methodref 7 52), (0, .nameAndType 53 33), (0, u "groupCount"), (0, .class_ 55), (0, u "PivotSheetL5"), (2, u "law"), (0, u "([I)Z")] 5

def k1m0 : Method := { name := "<init>", desc := "()V", sig := { parameters := [], returnType := none }, accessFlags := 1, code := none }
def k1c1 : Code := { maxStack := 5, maxLocals := 21, code := code, exceptionTable := #[], attributes := #[] }
def k1m1 : Method := { name := "law", desc := "([I)Z", sig := { parameters := [(.array .int)], returnType := some .boolean }, accessFlags := 9, code := some k1c1 }
/-- PivotSheetL5 -/
def k1 : Class := { plain "PivotSheetL5" (some 0) with
  accessFlags := 49
  interfaces := #[]
  cf := some (fileOf pool1 54 #[] #[{ accessFlags := 1, nameIndex := 5, descriptorIndex := 6, attributes := #[] }, { accessFlags := 9, nameIndex := 58, descriptorIndex := 59, attributes := #[] }] 49 2 #[] #[])
  fields := #[]
  methods := #[k1m0, k1m1]
  instanceTypes := #[]
  staticTypes := #[]
  resolved := Array.replicate 65 none
  statics := none }

def pool2 : Array CpInfo := pool [(1, .methodref 2 3), (0, .class_ 4), (0, .nameAndType 5 6), (0, u "java/lang/Object"), (0, u "<init>"), (0, u "()V"), (0, .fieldref 8 9), (0, .class_ 10), (0, .nameAndType 11 12), (0, u "PivotSheet"), (0, u "data"), (0, u "[I"), (0, .fieldref 8 14), (0, .nameAndType 15 16), (0, u "filled"), (0, u "[Z"), (0, .fieldref 8 18), (0, .nameAndType 19 20), (0, u "rf"), (0, u "I"), (0, .fieldref 8 22), (0, .nameAndType 23 20), (0, u "cf"), (0, .fieldref 8 25), (0, .nameAndType 26 20), (0, u "vf"), (0, .fieldref 8 28), (0, .nameAndType 29 20), (0, u "ag"), (0, .fieldref 8 31), (0, .nameAndType 32 12), (0, u "fMode"), (0, .fieldref 8 34), (0, .nameAndType 35 12), (0, u "fRk"), (0, .fieldref 8 37), (0, .nameAndType 38 12), (0, u "fCk"), (0, .fieldref 8 40), (0, .nameAndType 41 12), (0, u "prevVal"), (0, .fieldref 8 43), (0, .nameAndType 44 16), (0, u "prevFound"), (0, .fieldref 8 46), (0, .nameAndType 47 12), (0, u "keys"), (0, .fieldref 8 49), (0, .nameAndType 50 20), (0, u "nRows"), (0, .fieldref 8 52), (0, .nameAndType 53 20), (0, u "nForms"), (0, .fieldref 8 55), (0, .nameAndType 56 20), (0, u "last"), (0, .methodref 8 58), (0, .nameAndType 59 60), (0, u "validRow"), (0, u "(I)Z"), (0, .methodref 8 62), (0, .nameAndType 63 6), (0, u "snapshot"), (0, .methodref 8 65), (0, .nameAndType 66 67), (0, u "countChanged"), (0, u "()I"), (0, .methodref 8 69), (0, .nameAndType 70 60), (0, u "validField"), (0, .methodref 8 72), (0, .nameAndType 73 74), (0, u "buildKeys"), (0, u "(II)I"), (0, .methodref 8 76), (0, .nameAndType 77 78), (0, u "resolve"), (0, u "(II)Z"), (0, .fieldref 8 80), (0, .nameAndType 81 82), (0, u "selUseR"), (0, u "Z"), (0, .fieldref 8 84), (0, .nameAndType 85 20), (0, u "selRk"), (0, .fieldref 8 87), (0, .nameAndType 88 82), (0, u "selUseC"), (0, .fieldref 8 90), (0, .nameAndType 91 20), (0, u "selCk"), (0, .methodref 8 93), (0, .nameAndType 94 95), (0, u "evalGroup"), (0, u "(ZIZI)V"), (0, .fieldref 8 97), (0, .nameAndType 98 20), (0, u "gVal"), (0, .fieldref 8 100), (0, .nameAndType 101 20), (0, u "gCount"), (0, .methodref 8 103), (0, .nameAndType 104 60), (0, u "validSlot"), (0, .methodref 8 106), (0, .nameAndType 107 108), (0, u "evalFormula"), (0, u "(I)V"), (0, .methodref 8 110), (0, .nameAndType 111 112), (0, u "insertKey"), (0, u "(III)I"), (0, .methodref 8 114), (0, .nameAndType 115 116), (0, u "pickAgg"), (0, u "(IIII)I"), (0, u "SUM"), (2, u "COUNT"), (1, u "MIN"), (1, u "MAX"), (1, u "FIELDS"), (1, u "ALL"), (1, u "F_NONE"), (0, u "F_CELL"), (0, u "F_ROW"), (0, u "F_COL"), (0, u "F_GRAND"), (0, u "MAX_ROWS"), (1, u "MAX_FORMS"), (1, u "COL_BASE"), (0, u "(II)V"), (3, u "setCell"), (0, u "(III)Z"), (0, u "clearRow"), (0, u "getCell"), (0, u "isFilled"), (0, u "setPivot"), (0, u "(IIII)Z"), (0, u "rowKeyCount"), (0, u "colKeyCount"), (0, u "rowKey"), (0, u "(I)I"), (0, u "colKey"), (0, u "value"), (0, u "groupCount"), (0, u "setFormula")] 6

def k2c0 : Code := { maxStack := 2, maxLocals := 5, code := prog_1_method_1_code, exceptionTable := #[], attributes := #[] }
def k2m0 : Method := { name := "<init>", desc := "(II)V", sig := { parameters := [.int, .int], returnType := none }, accessFlags := 1, code := some k2c0 }
def k2c1 : Code := { maxStack := 3, maxLocals := 4, code := prog_1_method_2_code, exceptionTable := #[], attributes := #[] }
def k2m1 : Method := { name := "setCell", desc := "(III)Z", sig := { parameters := [.int, .int, .int], returnType := some .boolean }, accessFlags := 1, code := some k2c1 }
def k2c2 : Code := { maxStack := 3, maxLocals := 3, code := prog_1_method_3_code, exceptionTable := #[], attributes := #[] }
def k2m2 : Method := { name := "clearRow", desc := "(I)Z", sig := { parameters := [.int], returnType := some .boolean }, accessFlags := 1, code := some k2c2 }
def k2c3 : Code := { maxStack := 3, maxLocals := 3, code := prog_1_method_4_code, exceptionTable := #[], attributes := #[] }
def k2m3 : Method := { name := "getCell", desc := "(II)I", sig := { parameters := [.int, .int], returnType := some .int }, accessFlags := 1, code := some k2c3 }
def k2c4 : Code := { maxStack := 2, maxLocals := 2, code := prog_1_method_5_code, exceptionTable := #[], attributes := #[] }
def k2m4 : Method := { name := "isFilled", desc := "(I)Z", sig := { parameters := [.int], returnType := some .boolean }, accessFlags := 1, code := some k2c4 }
def k2c5 : Code := { maxStack := 2, maxLocals := 5, code := prog_1_method_6_code, exceptionTable := #[], attributes := #[] }
def k2m5 : Method := { name := "setPivot", desc := "(IIII)Z", sig := { parameters := [.int, .int, .int, .int], returnType := some .boolean }, accessFlags := 1, code := some k2c5 }
def k2c6 : Code := { maxStack := 3, maxLocals := 1, code := prog_1_method_7_code, exceptionTable := #[], attributes := #[] }
def k2m6 : Method := { name := "rowKeyCount", desc := "()I", sig := { parameters := [], returnType := some .int }, accessFlags := 1, code := some k2c6 }
def k2c7 : Code := { maxStack := 3, maxLocals := 1, code := prog_1_method_8_code, exceptionTable := #[], attributes := #[] }
def k2m7 : Method := { name := "colKeyCount", desc := "()I", sig := { parameters := [], returnType := some .int }, accessFlags := 1, code := some k2c7 }
def k2c8 : Code := { maxStack := 3, maxLocals := 3, code := prog_1_method_9_code, exceptionTable := #[], attributes := #[] }
def k2m8 : Method := { name := "rowKey", desc := "(I)I", sig := { parameters := [.int], returnType := some .int }, accessFlags := 1, code := some k2c8 }
def k2c9 : Code := { maxStack := 3, maxLocals := 3, code := prog_1_method_10_code, exceptionTable := #[], attributes := #[] }
def k2m9 : Method := { name := "colKey", desc := "(I)I", sig := { parameters := [.int], returnType := some .int }, accessFlags := 1, code := some k2c9 }
def k2c10 : Code := { maxStack := 5, maxLocals := 3, code := prog_1_method_11_code, exceptionTable := #[], attributes := #[] }
def k2m10 : Method := { name := "value", desc := "(II)I", sig := { parameters := [.int, .int], returnType := some .int }, accessFlags := 1, code := some k2c10 }
def k2c11 : Code := { maxStack := 5, maxLocals := 3, code := prog_1_method_12_code, exceptionTable := #[], attributes := #[] }
def k2m11 : Method := { name := "groupCount", desc := "(II)I", sig := { parameters := [.int, .int], returnType := some .int }, accessFlags := 1, code := some k2c11 }
def k2c12 : Code := { maxStack := 3, maxLocals := 5, code := prog_1_method_13_code, exceptionTable := #[], attributes := #[] }
def k2m12 : Method := { name := "setFormula", desc := "(IIII)Z", sig := { parameters := [.int, .int, .int, .int], returnType := some .boolean }, accessFlags := 1, code := some k2c12 }
def k2c13 : Code := { maxStack := 2, maxLocals := 2, code := prog_1_method_17_code, exceptionTable := #[], attributes := #[] }
def k2m13 : Method := { name := "validRow", desc := "(I)Z", sig := { parameters := [.int], returnType := some .boolean }, accessFlags := 2, code := some k2c13 }
def k2c14 : Code := { maxStack := 2, maxLocals := 2, code := prog_1_method_18_code, exceptionTable := #[], attributes := #[] }
def k2m14 : Method := { name := "validField", desc := "(I)Z", sig := { parameters := [.int], returnType := some .boolean }, accessFlags := 2, code := some k2c14 }
def k2c15 : Code := { maxStack := 2, maxLocals := 2, code := prog_1_method_19_code, exceptionTable := #[], attributes := #[] }
def k2m15 : Method := { name := "validSlot", desc := "(I)Z", sig := { parameters := [.int], returnType := some .boolean }, accessFlags := 2, code := some k2c15 }
def k2c16 : Code := { maxStack := 6, maxLocals := 5, code := prog_1_method_20_code, exceptionTable := #[], attributes := #[] }
def k2m16 : Method := { name := "buildKeys", desc := "(II)I", sig := { parameters := [.int, .int], returnType := some .int }, accessFlags := 2, code := some k2c16 }
def k2c17 : Code := { maxStack := 5, maxLocals := 6, code := prog_1_method_21_code, exceptionTable := #[], attributes := #[] }
def k2m17 : Method := { name := "insertKey", desc := "(III)I", sig := { parameters := [.int, .int, .int], returnType := some .int }, accessFlags := 2, code := some k2c17 }
def k2c18 : Code := { maxStack := 4, maxLocals := 5, code := prog_1_method_22_code, exceptionTable := #[], attributes := #[] }
def k2m18 : Method := { name := "resolve", desc := "(II)Z", sig := { parameters := [.int, .int], returnType := some .boolean }, accessFlags := 2, code := some k2c18 }
def k2c19 : Code := { maxStack := 6, maxLocals := 12, code := prog_1_method_23_code, exceptionTable := #[], attributes := #[] }
def k2m19 : Method := { name := "evalGroup", desc := "(ZIZI)V", sig := { parameters := [.boolean, .int, .boolean, .int], returnType := none }, accessFlags := 2, code := some k2c19 }
def k2c20 : Code := { maxStack := 2, maxLocals := 5, code := prog_1_method_24_code, exceptionTable := #[], attributes := #[] }
def k2m20 : Method := { name := "pickAgg", desc := "(IIII)I", sig := { parameters := [.int, .int, .int, .int], returnType := some .int }, accessFlags := 2, code := some k2c20 }
def k2c21 : Code := { maxStack := 6, maxLocals := 5, code := prog_1_method_25_code, exceptionTable := #[], attributes := #[] }
def k2m21 : Method := { name := "evalFormula", desc := "(I)V", sig := { parameters := [.int], returnType := none }, accessFlags := 2, code := some k2c21 }
def k2c22 : Code := { maxStack := 3, maxLocals := 2, code := prog_1_method_26_code, exceptionTable := #[], attributes := #[] }
def k2m22 : Method := { name := "snapshot", desc := "()V", sig := { parameters := [], returnType := none }, accessFlags := 2, code := some k2c22 }
def k2c23 : Code := { maxStack := 3, maxLocals := 4, code := prog_1_method_27_code, exceptionTable := #[], attributes := #[] }
def k2m23 : Method := { name := "countChanged", desc := "()I", sig := { parameters := [], returnType := some .int }, accessFlags := 2, code := some k2c23 }
/-- PivotSheet -/
def k2 : Class := { plain "PivotSheet" (some 0) with
  accessFlags := 49
  interfaces := #[]
  cf := some (fileOf pool2 8 #[] #[{ accessFlags := 1, nameIndex := 5, descriptorIndex := 140, attributes := #[] }, { accessFlags := 1, nameIndex := 144, descriptorIndex := 145, attributes := #[] }, { accessFlags := 1, nameIndex := 146, descriptorIndex := 60, attributes := #[] }, { accessFlags := 1, nameIndex := 147, descriptorIndex := 74, attributes := #[] }, { accessFlags := 1, nameIndex := 148, descriptorIndex := 60, attributes := #[] }, { accessFlags := 1, nameIndex := 149, descriptorIndex := 150, attributes := #[] }, { accessFlags := 1, nameIndex := 151, descriptorIndex := 67, attributes := #[] }, { accessFlags := 1, nameIndex := 152, descriptorIndex := 67, attributes := #[] }, { accessFlags := 1, nameIndex := 153, descriptorIndex := 154, attributes := #[] }, { accessFlags := 1, nameIndex := 155, descriptorIndex := 154, attributes := #[] }, { accessFlags := 1, nameIndex := 156, descriptorIndex := 74, attributes := #[] }, { accessFlags := 1, nameIndex := 157, descriptorIndex := 74, attributes := #[] }, { accessFlags := 1, nameIndex := 158, descriptorIndex := 150, attributes := #[] }, { accessFlags := 2, nameIndex := 59, descriptorIndex := 60, attributes := #[] }, { accessFlags := 2, nameIndex := 70, descriptorIndex := 60, attributes := #[] }, { accessFlags := 2, nameIndex := 104, descriptorIndex := 60, attributes := #[] }, { accessFlags := 2, nameIndex := 73, descriptorIndex := 74, attributes := #[] }, { accessFlags := 2, nameIndex := 111, descriptorIndex := 112, attributes := #[] }, { accessFlags := 2, nameIndex := 77, descriptorIndex := 78, attributes := #[] }, { accessFlags := 2, nameIndex := 94, descriptorIndex := 95, attributes := #[] }, { accessFlags := 2, nameIndex := 115, descriptorIndex := 116, attributes := #[] }, { accessFlags := 2, nameIndex := 107, descriptorIndex := 108, attributes := #[] }, { accessFlags := 2, nameIndex := 63, descriptorIndex := 6, attributes := #[] }, { accessFlags := 2, nameIndex := 66, descriptorIndex := 67, attributes := #[] }] 49 2 #[] #[{ accessFlags := 25, nameIndex := 117, descriptorIndex := 20, attributes := #[] }, { accessFlags := 25, nameIndex := 120, descriptorIndex := 20, attributes := #[] }, { accessFlags := 25, nameIndex := 122, descriptorIndex := 20, attributes := #[] }, { accessFlags := 25, nameIndex := 124, descriptorIndex := 20, attributes := #[] }, { accessFlags := 25, nameIndex := 126, descriptorIndex := 20, attributes := #[] }, { accessFlags := 25, nameIndex := 128, descriptorIndex := 20, attributes := #[] }, { accessFlags := 25, nameIndex := 130, descriptorIndex := 20, attributes := #[] }, { accessFlags := 25, nameIndex := 131, descriptorIndex := 20, attributes := #[] }, { accessFlags := 25, nameIndex := 132, descriptorIndex := 20, attributes := #[] }, { accessFlags := 25, nameIndex := 133, descriptorIndex := 20, attributes := #[] }, { accessFlags := 25, nameIndex := 134, descriptorIndex := 20, attributes := #[] }, { accessFlags := 26, nameIndex := 135, descriptorIndex := 20, attributes := #[] }, { accessFlags := 26, nameIndex := 137, descriptorIndex := 20, attributes := #[] }, { accessFlags := 26, nameIndex := 139, descriptorIndex := 20, attributes := #[] }, { accessFlags := 2, nameIndex := 50, descriptorIndex := 20, attributes := #[] }, { accessFlags := 2, nameIndex := 53, descriptorIndex := 20, attributes := #[] }, { accessFlags := 2, nameIndex := 11, descriptorIndex := 12, attributes := #[] }, { accessFlags := 2, nameIndex := 15, descriptorIndex := 16, attributes := #[] }, { accessFlags := 2, nameIndex := 19, descriptorIndex := 20, attributes := #[] }, { accessFlags := 2, nameIndex := 23, descriptorIndex := 20, attributes := #[] }, { accessFlags := 2, nameIndex := 26, descriptorIndex := 20, attributes := #[] }, { accessFlags := 2, nameIndex := 29, descriptorIndex := 20, attributes := #[] }, { accessFlags := 2, nameIndex := 32, descriptorIndex := 12, attributes := #[] }, { accessFlags := 2, nameIndex := 35, descriptorIndex := 12, attributes := #[] }, { accessFlags := 2, nameIndex := 38, descriptorIndex := 12, attributes := #[] }, { accessFlags := 2, nameIndex := 41, descriptorIndex := 12, attributes := #[] }, { accessFlags := 2, nameIndex := 44, descriptorIndex := 16, attributes := #[] }, { accessFlags := 2, nameIndex := 47, descriptorIndex := 12, attributes := #[] }, { accessFlags := 2, nameIndex := 56, descriptorIndex := 20, attributes := #[] }, { accessFlags := 2, nameIndex := 98, descriptorIndex := 20, attributes := #[] }, { accessFlags := 2, nameIndex := 101, descriptorIndex := 20, attributes := #[] }, { accessFlags := 2, nameIndex := 81, descriptorIndex := 82, attributes := #[] }, { accessFlags := 2, nameIndex := 85, descriptorIndex := 20, attributes := #[] }, { accessFlags := 2, nameIndex := 88, descriptorIndex := 82, attributes := #[] }, { accessFlags := 2, nameIndex := 91, descriptorIndex := 20, attributes := #[] }])
  fields := #[{ name := "SUM", type := .int, accessFlags := 25, slot := 0, constantValue := 0 }, { name := "COUNT", type := .int, accessFlags := 25, slot := 1, constantValue := 0 }, { name := "MIN", type := .int, accessFlags := 25, slot := 2, constantValue := 0 }, { name := "MAX", type := .int, accessFlags := 25, slot := 3, constantValue := 0 }, { name := "FIELDS", type := .int, accessFlags := 25, slot := 4, constantValue := 0 }, { name := "ALL", type := .int, accessFlags := 25, slot := 5, constantValue := 0 }, { name := "F_NONE", type := .int, accessFlags := 25, slot := 6, constantValue := 0 }, { name := "F_CELL", type := .int, accessFlags := 25, slot := 7, constantValue := 0 }, { name := "F_ROW", type := .int, accessFlags := 25, slot := 8, constantValue := 0 }, { name := "F_COL", type := .int, accessFlags := 25, slot := 9, constantValue := 0 }, { name := "F_GRAND", type := .int, accessFlags := 25, slot := 10, constantValue := 0 }, { name := "MAX_ROWS", type := .int, accessFlags := 26, slot := 11, constantValue := 0 }, { name := "MAX_FORMS", type := .int, accessFlags := 26, slot := 12, constantValue := 0 }, { name := "COL_BASE", type := .int, accessFlags := 26, slot := 13, constantValue := 0 }, { name := "nRows", type := .int, accessFlags := 2, slot := 0, constantValue := 0 }, { name := "nForms", type := .int, accessFlags := 2, slot := 1, constantValue := 0 }, { name := "data", type := (.array .int), accessFlags := 2, slot := 2, constantValue := 0 }, { name := "filled", type := (.array .boolean), accessFlags := 2, slot := 3, constantValue := 0 }, { name := "rf", type := .int, accessFlags := 2, slot := 4, constantValue := 0 }, { name := "cf", type := .int, accessFlags := 2, slot := 5, constantValue := 0 }, { name := "vf", type := .int, accessFlags := 2, slot := 6, constantValue := 0 }, { name := "ag", type := .int, accessFlags := 2, slot := 7, constantValue := 0 }, { name := "fMode", type := (.array .int), accessFlags := 2, slot := 8, constantValue := 0 }, { name := "fRk", type := (.array .int), accessFlags := 2, slot := 9, constantValue := 0 }, { name := "fCk", type := (.array .int), accessFlags := 2, slot := 10, constantValue := 0 }, { name := "prevVal", type := (.array .int), accessFlags := 2, slot := 11, constantValue := 0 }, { name := "prevFound", type := (.array .boolean), accessFlags := 2, slot := 12, constantValue := 0 }, { name := "keys", type := (.array .int), accessFlags := 2, slot := 13, constantValue := 0 }, { name := "last", type := .int, accessFlags := 2, slot := 14, constantValue := 0 }, { name := "gVal", type := .int, accessFlags := 2, slot := 15, constantValue := 0 }, { name := "gCount", type := .int, accessFlags := 2, slot := 16, constantValue := 0 }, { name := "selUseR", type := .boolean, accessFlags := 2, slot := 17, constantValue := 0 }, { name := "selRk", type := .int, accessFlags := 2, slot := 18, constantValue := 0 }, { name := "selUseC", type := .boolean, accessFlags := 2, slot := 19, constantValue := 0 }, { name := "selCk", type := .int, accessFlags := 2, slot := 20, constantValue := 0 }]
  methods := #[k2m0, k2m1, k2m2, k2m3, k2m4, k2m5, k2m6, k2m7, k2m8, k2m9, k2m10, k2m11, k2m12, k2m13, k2m14, k2m15, k2m16, k2m17, k2m18, k2m19, k2m20, k2m21, k2m22, k2m23]
  instanceTypes := #[.int, .int, (.array .int), (.array .boolean), .int, .int, .int, .int, (.array .int), (.array .int), (.array .int), (.array .int), (.array .boolean), (.array .int), .int, .int, .int, .boolean, .int, .boolean, .int]
  staticTypes := #[.int, .int, .int, .int, .int, .int, .int, .int, .int, .int, .int, .int, .int, .int]
  resolved := Array.replicate 165 none
  statics := none }

def pool3 : Array CpInfo := pool [(1, u "java/lang/Cloneable"), (0, .class_ 1), (0, u "java/lang/Object"), (0, .class_ 3)] 3

/-- java/lang/Cloneable -/
def k3 : Class := { plain "java/lang/Cloneable" (some 0) with
  accessFlags := 1537
  interfaces := #[]
  cf := some (fileOf pool3 2 #[] #[] 1537 4 #[] #[])
  fields := #[]
  methods := #[]
  instanceTypes := #[]
  staticTypes := #[]
  resolved := Array.replicate 8 none
  statics := none }

def pool4 : Array CpInfo := pool [(1, u "java/io/Serializable"), (0, .class_ 1), (0, u "java/lang/Object"), (0, .class_ 3)] 3

/-- java/io/Serializable -/
def k4 : Class := { plain "java/io/Serializable" (some 0) with
  accessFlags := 1537
  interfaces := #[]
  cf := some (fileOf pool4 2 #[] #[] 1537 4 #[] #[])
  fields := #[]
  methods := #[]
  instanceTypes := #[]
  staticTypes := #[]
  resolved := Array.replicate 8 none
  statics := none }

/-- the primitive boolean -/
def k5 : Class := { plain "boolean" none with kind := .primitive 'Z', accessFlags := 0x411 }
/-- [Z -/
def k6 : Class := { plain "[Z" (some 0) with kind := .array 5 .boolean, interfaces := #[3, 4], accessFlags := 1041 }

/-- the primitive byte -/
def k7 : Class := { plain "byte" none with kind := .primitive 'B', accessFlags := 0x411 }
/-- [B -/
def k8 : Class := { plain "[B" (some 0) with kind := .array 7 .byte, interfaces := #[3, 4], accessFlags := 1041 }

/-- the primitive int -/
def k9 : Class := { plain "int" none with kind := .primitive 'I', accessFlags := 0x411 }
/-- [I -/
def k10 : Class := { plain "[I" (some 0) with kind := .array 9 .int, interfaces := #[3, 4], accessFlags := 1041 }

def heap : Heap := #[{ cls := 10, slots := #[.int 1, .int 2, .int 3], vm := .none }]
def classes : Array Class := #[k0, k1, k2, k3, k4, k5, k6, k7, k8, k9, k10]
def interned : List (Array UInt16 × Addr) := []
def slotsUsed : Nat := 3
def theMethod : MethodId := ⟨1, 1⟩
def args0 : Array Value := #[.ref 0]
def aboutOver (below : List Frame) : State where
  vm := { classes := classes, interned := interned.toArray }
  heap := heap
  slotsUsed := slotsUsed
  threads := #[{ frames := .invoking theMethod args0 :: below }]
def below0 : List Frame := [.native { method := ⟨0, 0⟩, args := #[] }]
def about1 : State := aboutOver below0
def p0 : Program := .bare "" "" ""
def e0 : Env := launch0.env 0 0 0
theorem w_frames : about1.frames = Frame.invoking theMethod args0 :: below0 := rfl
set_option maxRecDepth 65536 in
theorem w_args : argsFit about1.vm theMethod args0 = true := by decide +kernel
set_option maxRecDepth 65536 in
theorem w_heap : heapFits about1 = true := by decide +kernel
set_option maxRecDepth 65536 in
theorem w_runnable : about1.curStatus? = some .runnable := by decide +kernel
set_option maxRecDepth 65536 in
theorem w_alone : about1.alone = true := by decide +kernel
set_option maxRecDepth 65536 in
theorem w_named : about1.methodNamed? x = some theMethod := by decide +kernel
set_option maxRecDepth 65536 in
theorem w_hears : about1.hears theMethod below0 = true := by decide +kernel
set_option maxRecDepth 65536 in
theorem w_ripe : about1.ripe theMethod args0 below0 = true := by decide +kernel
theorem w_running : about1.status = .running := rfl
set_option maxRecDepth 65536 in
theorem w_room : about1.hasRoom e0.platform room_1 = true :=
  launch0.hasRoom_least _ room_1 (by decide +kernel) (by decide +kernel) (by decide +kernel) (by decide +kernel) (by decide +kernel) (by decide +kernel)
theorem allAtoms_all (ts : List Jvm.Cond) (a : Array Jvm.Value) (st : Jvm.State) : (allAtoms ts).before a st = ts.all (fun c => c.before a st) := by
  induction ts with
  | nil => rfl
  | cons c t ih =>
    show (Jvm.Cond.and c (allAtoms t)).before a st = _
    rw [Jvm.Cond.before_and, ih, List.all_cons]
def words1 : List Jvm.Cond := Jvm.Cond.code x code maxLocals ret :: tables_1
/-- a 'code' word, met by the world's own term for the bytes: nothing is compared byte by byte -/
theorem code_word {y : MethodName} {bytes : ByteArray} {mx : Nat} {rt : Option FieldType} {a : Array Value} {s : State} {m : MethodId} {meth : Method} {c : Code} (h1 : s.methodNamed? y = some m) (h2 : s.vm.method? m = some meth) (h3 : meth.code = some c) (h4 : c.code = bytes)
    (h5 : (c.maxLocals == mx && c.exceptionTable.isEmpty && decide (c.maxStack ≤ mostOperands) && decide (meth.sig.returnType = rt) && !meth.locks && decide (parseMethodDescriptor y.desc = some meth.sig)) = true) : (Jvm.Cond.code y bytes mx rt).before a s = true := by
  simp only [Bool.and_eq_true, beq_iff_eq, Bool.not_eq_true', decide_eq_true_eq] at h5
  obtain ⟨⟨⟨⟨⟨g1, g2⟩, g3⟩, g4⟩, g5⟩, g6⟩ := h5
  simp [Cond.before, Cond.holds, Cond.value, h1, h2, h3, h4, g1, g2, g3, g4, g5, g6]
def isCode : Jvm.Cond → Bool
  | .code _ _ _ _ => true
  | _ => false
theorem all_split {L : List Jvm.Cond} {P : Jvm.Cond → Bool} (h1 : L.all (fun c => isCode c || P c) = true) (h2 : ∀ c ∈ L.filter isCode, P c = true) : L.all P = true := by
  refine List.all_eq_true.mpr fun c hc => ?_
  have h := List.all_eq_true.mp h1 c hc
  rcases Bool.eq_false_or_eq_true (isCode c) with hi | hi
  · exact h2 c (List.mem_filter.mpr ⟨hc, hi⟩)
  · simpa [hi] using h
set_option maxRecDepth 65536 in
theorem w_c0 : (Jvm.Cond.code x code maxLocals ret).before args0 about1 = true := code_word (m := ⟨1, 1⟩) (meth := k1m1) (c := k1c1) (by decide +kernel) rfl rfl rfl (by decide +kernel)
set_option maxRecDepth 65536 in
theorem w_c1 : (Jvm.Cond.code ({ cls := "PivotSheet", name := "<init>", desc := "(II)V" } : Jvm.MethodName) prog_1_method_1_code (5 : Nat) (Option.none : Option Jvm.ClassFile.FieldType)).before args0 about1 = true := code_word (m := ⟨2, 0⟩) (meth := k2m0) (c := k2c0) (by decide +kernel) rfl rfl rfl (by decide +kernel)
set_option maxRecDepth 65536 in
theorem w_c2 : (Jvm.Cond.code ({ cls := "java/lang/Object", name := "<init>", desc := "()V" } : Jvm.MethodName) object_method_1_code (1 : Nat) (Option.none : Option Jvm.ClassFile.FieldType)).before args0 about1 = true := code_word (m := ⟨0, 0⟩) (meth := k0m0) (c := k0c0) (by decide +kernel) rfl rfl rfl (by decide +kernel)
set_option maxRecDepth 65536 in
theorem w_c3 : (Jvm.Cond.code ({ cls := "PivotSheet", name := "setFormula", desc := "(IIII)Z" } : Jvm.MethodName) prog_1_method_13_code (5 : Nat) (Option.some Jvm.ClassFile.FieldType.boolean)).before args0 about1 = true := code_word (m := ⟨2, 12⟩) (meth := k2m12) (c := k2c12) (by decide +kernel) rfl rfl rfl (by decide +kernel)
set_option maxRecDepth 65536 in
theorem w_c4 : (Jvm.Cond.code ({ cls := "PivotSheet", name := "validSlot", desc := "(I)Z" } : Jvm.MethodName) prog_1_method_19_code (2 : Nat) (Option.some Jvm.ClassFile.FieldType.boolean)).before args0 about1 = true := code_word (m := ⟨2, 15⟩) (meth := k2m15) (c := k2c15) (by decide +kernel) rfl rfl rfl (by decide +kernel)
set_option maxRecDepth 65536 in
theorem w_c5 : (Jvm.Cond.code ({ cls := "PivotSheet", name := "setCell", desc := "(III)Z" } : Jvm.MethodName) prog_1_method_2_code (4 : Nat) (Option.some Jvm.ClassFile.FieldType.boolean)).before args0 about1 = true := code_word (m := ⟨2, 1⟩) (meth := k2m1) (c := k2c1) (by decide +kernel) rfl rfl rfl (by decide +kernel)
set_option maxRecDepth 65536 in
theorem w_c6 : (Jvm.Cond.code ({ cls := "PivotSheet", name := "validRow", desc := "(I)Z" } : Jvm.MethodName) prog_1_method_17_code (2 : Nat) (Option.some Jvm.ClassFile.FieldType.boolean)).before args0 about1 = true := code_word (m := ⟨2, 13⟩) (meth := k2m13) (c := k2c13) (by decide +kernel) rfl rfl rfl (by decide +kernel)
set_option maxRecDepth 65536 in
theorem w_c7 : (Jvm.Cond.code ({ cls := "PivotSheet", name := "snapshot", desc := "()V" } : Jvm.MethodName) prog_1_method_26_code (2 : Nat) (Option.none : Option Jvm.ClassFile.FieldType)).before args0 about1 = true := code_word (m := ⟨2, 22⟩) (meth := k2m22) (c := k2c22) (by decide +kernel) rfl rfl rfl (by decide +kernel)
set_option maxRecDepth 65536 in
theorem w_c8 : (Jvm.Cond.code ({ cls := "PivotSheet", name := "evalFormula", desc := "(I)V" } : Jvm.MethodName) prog_1_method_25_code (5 : Nat) (Option.none : Option Jvm.ClassFile.FieldType)).before args0 about1 = true := code_word (m := ⟨2, 21⟩) (meth := k2m21) (c := k2c21) (by decide +kernel) rfl rfl rfl (by decide +kernel)
set_option maxRecDepth 65536 in
theorem w_c9 : (Jvm.Cond.code ({ cls := "PivotSheet", name := "evalGroup", desc := "(ZIZI)V" } : Jvm.MethodName) prog_1_method_23_code (12 : Nat) (Option.none : Option Jvm.ClassFile.FieldType)).before args0 about1 = true := code_word (m := ⟨2, 19⟩) (meth := k2m19) (c := k2c19) (by decide +kernel) rfl rfl rfl (by decide +kernel)
set_option maxRecDepth 65536 in
theorem w_c10 : (Jvm.Cond.code ({ cls := "PivotSheet", name := "pickAgg", desc := "(IIII)I" } : Jvm.MethodName) prog_1_method_24_code (5 : Nat) (Option.some Jvm.ClassFile.FieldType.int)).before args0 about1 = true := code_word (m := ⟨2, 20⟩) (meth := k2m20) (c := k2c20) (by decide +kernel) rfl rfl rfl (by decide +kernel)
set_option maxRecDepth 65536 in
theorem w_c11 : (Jvm.Cond.code ({ cls := "PivotSheet", name := "countChanged", desc := "()I" } : Jvm.MethodName) prog_1_method_27_code (4 : Nat) (Option.some Jvm.ClassFile.FieldType.int)).before args0 about1 = true := code_word (m := ⟨2, 23⟩) (meth := k2m23) (c := k2c23) (by decide +kernel) rfl rfl rfl (by decide +kernel)
set_option maxRecDepth 65536 in
theorem w_c12 : (Jvm.Cond.code ({ cls := "PivotSheet", name := "setPivot", desc := "(IIII)Z" } : Jvm.MethodName) prog_1_method_6_code (5 : Nat) (Option.some Jvm.ClassFile.FieldType.boolean)).before args0 about1 = true := code_word (m := ⟨2, 5⟩) (meth := k2m5) (c := k2c5) (by decide +kernel) rfl rfl rfl (by decide +kernel)
set_option maxRecDepth 65536 in
theorem w_c13 : (Jvm.Cond.code ({ cls := "PivotSheet", name := "validField", desc := "(I)Z" } : Jvm.MethodName) prog_1_method_18_code (2 : Nat) (Option.some Jvm.ClassFile.FieldType.boolean)).before args0 about1 = true := code_word (m := ⟨2, 14⟩) (meth := k2m14) (c := k2c14) (by decide +kernel) rfl rfl rfl (by decide +kernel)
set_option maxRecDepth 65536 in
theorem w_c14 : (Jvm.Cond.code ({ cls := "PivotSheet", name := "clearRow", desc := "(I)Z" } : Jvm.MethodName) prog_1_method_3_code (3 : Nat) (Option.some Jvm.ClassFile.FieldType.boolean)).before args0 about1 = true := code_word (m := ⟨2, 2⟩) (meth := k2m2) (c := k2c2) (by decide +kernel) rfl rfl rfl (by decide +kernel)
set_option maxRecDepth 65536 in
theorem w_c15 : (Jvm.Cond.code ({ cls := "PivotSheet", name := "isFilled", desc := "(I)Z" } : Jvm.MethodName) prog_1_method_5_code (2 : Nat) (Option.some Jvm.ClassFile.FieldType.boolean)).before args0 about1 = true := code_word (m := ⟨2, 4⟩) (meth := k2m4) (c := k2c4) (by decide +kernel) rfl rfl rfl (by decide +kernel)
set_option maxRecDepth 65536 in
theorem w_c16 : (Jvm.Cond.code ({ cls := "PivotSheet", name := "getCell", desc := "(II)I" } : Jvm.MethodName) prog_1_method_4_code (3 : Nat) (Option.some Jvm.ClassFile.FieldType.int)).before args0 about1 = true := code_word (m := ⟨2, 3⟩) (meth := k2m3) (c := k2c3) (by decide +kernel) rfl rfl rfl (by decide +kernel)
set_option maxRecDepth 65536 in
theorem w_c17 : (Jvm.Cond.code ({ cls := "PivotSheet", name := "rowKeyCount", desc := "()I" } : Jvm.MethodName) prog_1_method_7_code (1 : Nat) (Option.some Jvm.ClassFile.FieldType.int)).before args0 about1 = true := code_word (m := ⟨2, 6⟩) (meth := k2m6) (c := k2c6) (by decide +kernel) rfl rfl rfl (by decide +kernel)
set_option maxRecDepth 65536 in
theorem w_c18 : (Jvm.Cond.code ({ cls := "PivotSheet", name := "buildKeys", desc := "(II)I" } : Jvm.MethodName) prog_1_method_20_code (5 : Nat) (Option.some Jvm.ClassFile.FieldType.int)).before args0 about1 = true := code_word (m := ⟨2, 16⟩) (meth := k2m16) (c := k2c16) (by decide +kernel) rfl rfl rfl (by decide +kernel)
set_option maxRecDepth 65536 in
theorem w_c19 : (Jvm.Cond.code ({ cls := "PivotSheet", name := "insertKey", desc := "(III)I" } : Jvm.MethodName) prog_1_method_21_code (6 : Nat) (Option.some Jvm.ClassFile.FieldType.int)).before args0 about1 = true := code_word (m := ⟨2, 17⟩) (meth := k2m17) (c := k2c17) (by decide +kernel) rfl rfl rfl (by decide +kernel)
set_option maxRecDepth 65536 in
theorem w_c20 : (Jvm.Cond.code ({ cls := "PivotSheet", name := "colKeyCount", desc := "()I" } : Jvm.MethodName) prog_1_method_8_code (1 : Nat) (Option.some Jvm.ClassFile.FieldType.int)).before args0 about1 = true := code_word (m := ⟨2, 7⟩) (meth := k2m7) (c := k2c7) (by decide +kernel) rfl rfl rfl (by decide +kernel)
set_option maxRecDepth 65536 in
theorem w_c21 : (Jvm.Cond.code ({ cls := "PivotSheet", name := "rowKey", desc := "(I)I" } : Jvm.MethodName) prog_1_method_9_code (3 : Nat) (Option.some Jvm.ClassFile.FieldType.int)).before args0 about1 = true := code_word (m := ⟨2, 8⟩) (meth := k2m8) (c := k2c8) (by decide +kernel) rfl rfl rfl (by decide +kernel)
set_option maxRecDepth 65536 in
theorem w_c22 : (Jvm.Cond.code ({ cls := "PivotSheet", name := "colKey", desc := "(I)I" } : Jvm.MethodName) prog_1_method_10_code (3 : Nat) (Option.some Jvm.ClassFile.FieldType.int)).before args0 about1 = true := code_word (m := ⟨2, 9⟩) (meth := k2m9) (c := k2c9) (by decide +kernel) rfl rfl rfl (by decide +kernel)
set_option maxRecDepth 65536 in
theorem w_c23 : (Jvm.Cond.code ({ cls := "PivotSheet", name := "value", desc := "(II)I" } : Jvm.MethodName) prog_1_method_11_code (3 : Nat) (Option.some Jvm.ClassFile.FieldType.int)).before args0 about1 = true := code_word (m := ⟨2, 10⟩) (meth := k2m10) (c := k2c10) (by decide +kernel) rfl rfl rfl (by decide +kernel)
set_option maxRecDepth 65536 in
theorem w_c24 : (Jvm.Cond.code ({ cls := "PivotSheet", name := "resolve", desc := "(II)Z" } : Jvm.MethodName) prog_1_method_22_code (5 : Nat) (Option.some Jvm.ClassFile.FieldType.boolean)).before args0 about1 = true := code_word (m := ⟨2, 18⟩) (meth := k2m18) (c := k2c18) (by decide +kernel) rfl rfl rfl (by decide +kernel)
set_option maxRecDepth 65536 in
theorem w_c25 : (Jvm.Cond.code ({ cls := "PivotSheet", name := "groupCount", desc := "(II)I" } : Jvm.MethodName) prog_1_method_12_code (3 : Nat) (Option.some Jvm.ClassFile.FieldType.int)).before args0 about1 = true := code_word (m := ⟨2, 11⟩) (meth := k2m11) (c := k2c11) (by decide +kernel) rfl rfl rfl (by decide +kernel)
def codes1 : List Jvm.Cond := [Jvm.Cond.code x code maxLocals ret, Jvm.Cond.code ({ cls := "PivotSheet", name := "<init>", desc := "(II)V" } : Jvm.MethodName) prog_1_method_1_code (5 : Nat) (Option.none : Option Jvm.ClassFile.FieldType), Jvm.Cond.code ({ cls := "java/lang/Object", name := "<init>", desc := "()V" } : Jvm.MethodName) object_method_1_code (1 : Nat) (Option.none : Option Jvm.ClassFile.FieldType), Jvm.Cond.code ({ cls := "PivotSheet", name := "setFormula", desc := "(IIII)Z" } : Jvm.MethodName) prog_1_method_13_code (5 : Nat) (Option.some Jvm.ClassFile.FieldType.boolean), Jvm.Cond.code ({ cls := "PivotSheet", name := "validSlot", desc := "(I)Z" } : Jvm.MethodName) prog_1_method_19_code (2 : Nat) (Option.some Jvm.ClassFile.FieldType.boolean), Jvm.Cond.code ({ cls := "PivotSheet", name := "setCell", desc := "(III)Z" } : Jvm.MethodName) prog_1_method_2_code (4 : Nat) (Option.some Jvm.ClassFile.FieldType.boolean), Jvm.Cond.code ({ cls := "PivotSheet", name := "validRow", desc := "(I)Z" } : Jvm.MethodName) prog_1_method_17_code (2 : Nat) (Option.some Jvm.ClassFile.FieldType.boolean), Jvm.Cond.code ({ cls := "PivotSheet", name := "snapshot", desc := "()V" } : Jvm.MethodName) prog_1_method_26_code (2 : Nat) (Option.none : Option Jvm.ClassFile.FieldType), Jvm.Cond.code ({ cls := "PivotSheet", name := "evalFormula", desc := "(I)V" } : Jvm.MethodName) prog_1_method_25_code (5 : Nat) (Option.none : Option Jvm.ClassFile.FieldType), Jvm.Cond.code ({ cls := "PivotSheet", name := "evalGroup", desc := "(ZIZI)V" } : Jvm.MethodName) prog_1_method_23_code (12 : Nat) (Option.none : Option Jvm.ClassFile.FieldType), Jvm.Cond.code ({ cls := "PivotSheet", name := "pickAgg", desc := "(IIII)I" } : Jvm.MethodName) prog_1_method_24_code (5 : Nat) (Option.some Jvm.ClassFile.FieldType.int), Jvm.Cond.code ({ cls := "PivotSheet", name := "countChanged", desc := "()I" } : Jvm.MethodName) prog_1_method_27_code (4 : Nat) (Option.some Jvm.ClassFile.FieldType.int), Jvm.Cond.code ({ cls := "PivotSheet", name := "setPivot", desc := "(IIII)Z" } : Jvm.MethodName) prog_1_method_6_code (5 : Nat) (Option.some Jvm.ClassFile.FieldType.boolean), Jvm.Cond.code ({ cls := "PivotSheet", name := "validField", desc := "(I)Z" } : Jvm.MethodName) prog_1_method_18_code (2 : Nat) (Option.some Jvm.ClassFile.FieldType.boolean), Jvm.Cond.code ({ cls := "PivotSheet", name := "clearRow", desc := "(I)Z" } : Jvm.MethodName) prog_1_method_3_code (3 : Nat) (Option.some Jvm.ClassFile.FieldType.boolean), Jvm.Cond.code ({ cls := "PivotSheet", name := "isFilled", desc := "(I)Z" } : Jvm.MethodName) prog_1_method_5_code (2 : Nat) (Option.some Jvm.ClassFile.FieldType.boolean), Jvm.Cond.code ({ cls := "PivotSheet", name := "getCell", desc := "(II)I" } : Jvm.MethodName) prog_1_method_4_code (3 : Nat) (Option.some Jvm.ClassFile.FieldType.int), Jvm.Cond.code ({ cls := "PivotSheet", name := "rowKeyCount", desc := "()I" } : Jvm.MethodName) prog_1_method_7_code (1 : Nat) (Option.some Jvm.ClassFile.FieldType.int), Jvm.Cond.code ({ cls := "PivotSheet", name := "buildKeys", desc := "(II)I" } : Jvm.MethodName) prog_1_method_20_code (5 : Nat) (Option.some Jvm.ClassFile.FieldType.int), Jvm.Cond.code ({ cls := "PivotSheet", name := "insertKey", desc := "(III)I" } : Jvm.MethodName) prog_1_method_21_code (6 : Nat) (Option.some Jvm.ClassFile.FieldType.int), Jvm.Cond.code ({ cls := "PivotSheet", name := "colKeyCount", desc := "()I" } : Jvm.MethodName) prog_1_method_8_code (1 : Nat) (Option.some Jvm.ClassFile.FieldType.int), Jvm.Cond.code ({ cls := "PivotSheet", name := "rowKey", desc := "(I)I" } : Jvm.MethodName) prog_1_method_9_code (3 : Nat) (Option.some Jvm.ClassFile.FieldType.int), Jvm.Cond.code ({ cls := "PivotSheet", name := "colKey", desc := "(I)I" } : Jvm.MethodName) prog_1_method_10_code (3 : Nat) (Option.some Jvm.ClassFile.FieldType.int), Jvm.Cond.code ({ cls := "PivotSheet", name := "value", desc := "(II)I" } : Jvm.MethodName) prog_1_method_11_code (3 : Nat) (Option.some Jvm.ClassFile.FieldType.int), Jvm.Cond.code ({ cls := "PivotSheet", name := "resolve", desc := "(II)Z" } : Jvm.MethodName) prog_1_method_22_code (5 : Nat) (Option.some Jvm.ClassFile.FieldType.boolean), Jvm.Cond.code ({ cls := "PivotSheet", name := "groupCount", desc := "(II)I" } : Jvm.MethodName) prog_1_method_12_code (3 : Nat) (Option.some Jvm.ClassFile.FieldType.int)]
set_option maxRecDepth 65536 in
theorem codes_eq : words1.filter isCode = codes1 := rfl
theorem w_codes : ∀ c ∈ words1.filter isCode, c.before args0 about1 = true := by
  rw [codes_eq]
  intro c hc
  simp only [codes1, List.mem_cons, List.not_mem_nil, or_false] at hc
  rcases hc with rfl | rfl | rfl | rfl | rfl | rfl | rfl | rfl | rfl | rfl | rfl | rfl | rfl | rfl | rfl | rfl | rfl | rfl | rfl | rfl | rfl | rfl | rfl | rfl | rfl | rfl
  · exact w_c0
  · exact w_c1
  · exact w_c2
  · exact w_c3
  · exact w_c4
  · exact w_c5
  · exact w_c6
  · exact w_c7
  · exact w_c8
  · exact w_c9
  · exact w_c10
  · exact w_c11
  · exact w_c12
  · exact w_c13
  · exact w_c14
  · exact w_c15
  · exact w_c16
  · exact w_c17
  · exact w_c18
  · exact w_c19
  · exact w_c20
  · exact w_c21
  · exact w_c22
  · exact w_c23
  · exact w_c24
  · exact w_c25
set_option maxRecDepth 65536 in
theorem w_t1 : (words1.take 24).all (fun c => isCode c || c.before args0 about1) = true := by decide +kernel
set_option maxRecDepth 65536 in
theorem w_t2 : ((words1.drop 24).take 24).all (fun c => isCode c || c.before args0 about1) = true := by decide +kernel
set_option maxRecDepth 65536 in
theorem w_t3 : (((words1.drop 24).drop 24).take 24).all (fun c => isCode c || c.before args0 about1) = true := by decide +kernel
set_option maxRecDepth 65536 in
theorem w_t4 : ((((words1.drop 24).drop 24).drop 24).take 24).all (fun c => isCode c || c.before args0 about1) = true := by decide +kernel
set_option maxRecDepth 65536 in
theorem w_t5 : (((((words1.drop 24).drop 24).drop 24).drop 24).take 24).all (fun c => isCode c || c.before args0 about1) = true := by decide +kernel
set_option maxRecDepth 65536 in
theorem w_t6 : ((((((words1.drop 24).drop 24).drop 24).drop 24).drop 24).take 24).all (fun c => isCode c || c.before args0 about1) = true := by decide +kernel
set_option maxRecDepth 65536 in
theorem w_t7 : ((((((words1.drop 24).drop 24).drop 24).drop 24).drop 24).drop 24).all (fun c => isCode c || c.before args0 about1) = true := by decide +kernel
theorem w_tables : (allAtoms (Jvm.Cond.code x code maxLocals ret :: tables_1)).before args0 about1 = true := by
  rw [allAtoms_all]
  show words1.all (fun c => c.before args0 about1) = true
  refine all_split ?_ w_codes
  rw [← List.take_append_drop 24 words1, List.all_append, w_t1, ← List.take_append_drop 24 (words1.drop 24), List.all_append, w_t2, ← List.take_append_drop 24 ((words1.drop 24).drop 24), List.all_append, w_t3, ← List.take_append_drop 24 (((words1.drop 24).drop 24).drop 24), List.all_append, w_t4, ← List.take_append_drop 24 ((((words1.drop 24).drop 24).drop 24).drop 24), List.all_append, w_t5, ← List.take_append_drop 24 (((((words1.drop 24).drop 24).drop 24).drop 24).drop 24), List.all_append, w_t6, w_t7]
  rfl
set_option maxRecDepth 65536 in
theorem w_rest : rest_1_c.before args0 about1 = true := by decide +kernel
set_option maxRecDepth 65536 in
theorem w_case : (Jvm.Cond.and given_1 narrow_1).before args0 about1 = true := by decide +kernel
theorem w_applies : (headSpec (Jvm.Cond.code x code maxLocals ret :: tables_1) room_1).applies x e0.platform about1 = true :=
  (Spec.applies_iff w_frames).mpr ⟨w_running, w_runnable, w_alone, w_named, w_hears, w_ripe, w_room, w_tables⟩
theorem atStart : AtStart classFile x code maxLocals ret World_1 tables_1 room_1 Calls_1 rest_1 Pre_1 launch0 p0 e0 about1 theMethod args0 below0 :=
  ⟨lists_1, trivial, launch0.admits_env _ _ _, launch0.least_env, fairChoices_fair.cas, fairChoices_fair.clock, w_frames, w_args, w_heap, w_applies, trivial, w_rest, w_case⟩
end start1
theorem witness_1 : WitnessClaimed_1 := ⟨start1.p0, start1.e0, start1.about1, start1.theMethod, start1.args0, start1.below0, start1.atStart⟩
end Jvm.Pilot.@@N@@
