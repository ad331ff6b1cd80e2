import JvmDerived
import JvmDerived.Pilot.@@N@@Statement
import JvmDerived.Pilot.@@N@@Code
set_option linter.unusedVariables false
set_option linter.unusedSimpArgs false
namespace Jvm.RoadKit
open Sem ClassFile Op Lib Jvm.Stand Jvm.Free Jvm.LawKit
section New
variable {p : Program} {l : Launch} {e : Env} {R : Room} {s : State} {m : MethodId} {args : Array Value} {below : List Frame} {meth : Method} {c : Code} {T : State} {locs : List Loc} {cells slots : Nat}
theorem retI (X : Stand p l e R s m args below meth c T locs cells slots) (hx : p.tables.exec = Jvm.exec) {pc : Nat} {Ls : Array Slot} {z : Int32} {rest : List Value} (hret : meth.sig.returnType = some .int) (hd : decode c.code pc = .ok (.ireturn, 1)) {fs : List Frame}
    (hl : ∀ (f : JFrame) (acts : List Action), f.method = m → f.locked = none → f.entered = [] → (doReturn e (T.setTop f) acts (some (.int z))).1 = T.setFrames fs) : Steps p.tables e below (T.setTop (mkF m pc Ls (.int z :: rest))) (T.setFrames fs) := by
  have hm' : T.vm.method? m = some meth := X.method'
  have hn : narrow .int (.int z) = .int z := rfl
  show Steps p.tables e below (T.setTop { method := m, pc := pc, locals := Ls, stack := _ :: rest, locked := none }) _
  jvm_step X.here [X.here.top, hx, hd, hm', hret, hn]
  first | (intro acts; rw [hl _ acts rfl rfl rfl]) | rw [hl _ _ rfl rfl rfl]
  exact Steps.refl _
end New
end Jvm.RoadKit
namespace Jvm.Pilot.@@N@@
open Jvm Jvm.ClassFile Sem Op Lib Jvm.Free Jvm.Stand Jvm.LawKit Jvm.RoadKit Bundle Jvm.Pilot.@@N@@.Jvm.D
/-! TABLES of this claim: printed by claim.py -/
def k0 : Nat := 0
def cName : String := "PivotSheet"
def cN : Nat := 21
def nF : Nat := 21
def kName (k : Nat) : String := bif Nat.beq k 0 then "PivotSheetL3" else "PivotSheet"
def fNm (k : Nat) : String := (bif Nat.ble 10 k then (bif Nat.ble 15 k then (bif Nat.ble 18 k then (bif Nat.ble 19 k then (bif Nat.ble 20 k then "selCk" else "selUseC") else "selRk") else (bif Nat.ble 16 k then (bif Nat.ble 17 k then "selUseR" else "gCount") else "gVal")) else (bif Nat.ble 12 k then (bif Nat.ble 13 k then (bif Nat.ble 14 k then "last" else "nForms") else "nRows") else (bif Nat.ble 11 k then "keys" else "prevFound"))) else (bif Nat.ble 5 k then (bif Nat.ble 7 k then (bif Nat.ble 8 k then (bif Nat.ble 9 k then "prevVal" else "fCk") else "fRk") else (bif Nat.ble 6 k then "fMode" else "ag")) else (bif Nat.ble 2 k then (bif Nat.ble 3 k then (bif Nat.ble 4 k then "vf" else "cf") else "rf") else (bif Nat.ble 1 k then "filled" else "data"))))
def fDs (k : Nat) : String := (bif Nat.ble 10 k then (bif Nat.ble 15 k then (bif Nat.ble 18 k then (bif Nat.ble 19 k then (bif Nat.ble 20 k then "I" else "Z") else "I") else (bif Nat.ble 16 k then (bif Nat.ble 17 k then "Z" else "I") else "I")) else (bif Nat.ble 12 k then (bif Nat.ble 13 k then (bif Nat.ble 14 k then "I" else "I") else "I") else (bif Nat.ble 11 k then "[I" else "[Z"))) else (bif Nat.ble 5 k then (bif Nat.ble 7 k then (bif Nat.ble 8 k then (bif Nat.ble 9 k then "[I" else "[I") else "[I") else (bif Nat.ble 6 k then "[I" else "I")) else (bif Nat.ble 2 k then (bif Nat.ble 3 k then (bif Nat.ble 4 k then "I" else "I") else "I") else (bif Nat.ble 1 k then "[Z" else "[I"))))
def fTy (k : Nat) : FieldType := (bif Nat.ble 10 k then (bif Nat.ble 15 k then (bif Nat.ble 18 k then (bif Nat.ble 19 k then (bif Nat.ble 20 k then .int else .boolean) else .int) else (bif Nat.ble 16 k then (bif Nat.ble 17 k then .boolean else .int) else .int)) else (bif Nat.ble 12 k then (bif Nat.ble 13 k then (bif Nat.ble 14 k then .int else .int) else .int) else (bif Nat.ble 11 k then (.array .int) else (.array .boolean)))) else (bif Nat.ble 5 k then (bif Nat.ble 7 k then (bif Nat.ble 8 k then (bif Nat.ble 9 k then (.array .int) else (.array .int)) else (.array .int)) else (bif Nat.ble 6 k then (.array .int) else .int)) else (bif Nat.ble 2 k then (bif Nat.ble 3 k then (bif Nat.ble 4 k then .int else .int) else .int) else (bif Nat.ble 1 k then (.array .boolean) else (.array .int)))))
def fFin (k : Nat) : Bool := (bif Nat.ble 10 k then (bif Nat.ble 15 k then (bif Nat.ble 18 k then (bif Nat.ble 19 k then (bif Nat.ble 20 k then false else false) else false) else (bif Nat.ble 16 k then (bif Nat.ble 17 k then false else false) else false)) else (bif Nat.ble 12 k then (bif Nat.ble 13 k then (bif Nat.ble 14 k then false else false) else false) else (bif Nat.ble 11 k then false else false))) else (bif Nat.ble 5 k then (bif Nat.ble 7 k then (bif Nat.ble 8 k then (bif Nat.ble 9 k then false else false) else false) else (bif Nat.ble 6 k then false else false)) else (bif Nat.ble 2 k then (bif Nat.ble 3 k then (bif Nat.ble 4 k then false else false) else false) else (bif Nat.ble 1 k then false else false))))
def cDef : List Value := [.null, .null, .int 0, .int 0, .int 0, .int 0, .null, .null, .null, .null, .null, .null, .int 0, .int 0, .int 0, .int 0, .int 0, .int 0, .int 0, .int 0, .int 0]
def cK : List Value := []
def pN : Nat := 21
def pTop (m : Nat) : Nat := (bif Nat.ble 10 m then (bif Nat.ble 15 m then (bif Nat.ble 18 m then (bif Nat.ble 19 m then (bif Nat.ble 20 m then 28 else 20) else 18) else (bif Nat.ble 16 m then (bif Nat.ble 17 m then 45 else 36) else 39)) else (bif Nat.ble 12 m then (bif Nat.ble 13 m then (bif Nat.ble 14 m then 181 else 130) else 36) else (bif Nat.ble 11 m then 28 else 11))) else (bif Nat.ble 5 m then (bif Nat.ble 7 m then (bif Nat.ble 8 m then (bif Nat.ble 9 m then 111 else 50) else 10) else (bif Nat.ble 6 m then 64 else 75)) else (bif Nat.ble 2 m then (bif Nat.ble 3 m then (bif Nat.ble 4 m then 50 else 18) else 53) else (bif Nat.ble 1 m then 147 else 497))))
def pK (m : Nat) : Nat := (bif Nat.ble 10 m then (bif Nat.ble 15 m then (bif Nat.ble 18 m then (bif Nat.ble 19 m then (bif Nat.ble 20 m then 1 else 1) else 1) else (bif Nat.ble 16 m then (bif Nat.ble 17 m then 1 else 1) else 1)) else (bif Nat.ble 12 m then (bif Nat.ble 13 m then (bif Nat.ble 14 m then 1 else 1) else 1) else (bif Nat.ble 11 m then 1 else 1))) else (bif Nat.ble 5 m then (bif Nat.ble 7 m then (bif Nat.ble 8 m then (bif Nat.ble 9 m then 1 else 1) else 1) else (bif Nat.ble 6 m then 1 else 1)) else (bif Nat.ble 2 m then (bif Nat.ble 3 m then (bif Nat.ble 4 m then 1 else 1) else 1) else (bif Nat.ble 1 m then 1 else 0))))
def pNm (m : Nat) : String := (bif Nat.ble 10 m then (bif Nat.ble 15 m then (bif Nat.ble 18 m then (bif Nat.ble 19 m then (bif Nat.ble 20 m then "formulaFound" else "formulaValue") else "validSlot") else (bif Nat.ble 16 m then (bif Nat.ble 17 m then "setFormula" else "groupCount") else "pickAgg")) else (bif Nat.ble 12 m then (bif Nat.ble 13 m then (bif Nat.ble 14 m then "evalGroup" else "resolve") else "value") else (bif Nat.ble 11 m then "rowKey" else "colKeyCount"))) else (bif Nat.ble 5 m then (bif Nat.ble 7 m then (bif Nat.ble 8 m then (bif Nat.ble 9 m then "insertKey" else "buildKeys") else "rowKeyCount") else (bif Nat.ble 6 m then "countChanged" else "evalFormula")) else (bif Nat.ble 2 m then (bif Nat.ble 3 m then (bif Nat.ble 4 m then "snapshot" else "validRow") else "setCell") else (bif Nat.ble 1 m then "<init>" else "law"))))
def pDs (m : Nat) : String := (bif Nat.ble 10 m then (bif Nat.ble 15 m then (bif Nat.ble 18 m then (bif Nat.ble 19 m then (bif Nat.ble 20 m then "(I)Z" else "(I)I") else "(I)Z") else (bif Nat.ble 16 m then (bif Nat.ble 17 m then "(IIII)Z" else "(II)I") else "(IIII)I")) else (bif Nat.ble 12 m then (bif Nat.ble 13 m then (bif Nat.ble 14 m then "(ZIZI)V" else "(II)Z") else "(II)I") else (bif Nat.ble 11 m then "(I)I" else "()I"))) else (bif Nat.ble 5 m then (bif Nat.ble 7 m then (bif Nat.ble 8 m then (bif Nat.ble 9 m then "(III)I" else "(II)I") else "()I") else (bif Nat.ble 6 m then "()I" else "(I)V")) else (bif Nat.ble 2 m then (bif Nat.ble 3 m then (bif Nat.ble 4 m then "()V" else "(I)Z") else "(III)Z") else (bif Nat.ble 1 m then "(II)V" else "(IIIII)Z"))))
def pName (m : Nat) : MethodName := ⟨kName (pK m), pNm m, pDs m⟩
def pBytes (m : Nat) : ByteArray := (bif Nat.ble 10 m then (bif Nat.ble 15 m then (bif Nat.ble 18 m then (bif Nat.ble 19 m then (bif Nat.ble 20 m then prog_1_method_15_code else prog_1_method_14_code) else prog_1_method_19_code) else (bif Nat.ble 16 m then (bif Nat.ble 17 m then prog_1_method_13_code else prog_1_method_12_code) else prog_1_method_24_code)) else (bif Nat.ble 12 m then (bif Nat.ble 13 m then (bif Nat.ble 14 m then prog_1_method_23_code else prog_1_method_22_code) else prog_1_method_11_code) else (bif Nat.ble 11 m then prog_1_method_9_code else prog_1_method_8_code))) else (bif Nat.ble 5 m then (bif Nat.ble 7 m then (bif Nat.ble 8 m then (bif Nat.ble 9 m then prog_1_method_21_code else prog_1_method_20_code) else prog_1_method_7_code) else (bif Nat.ble 6 m then prog_1_method_27_code else prog_1_method_25_code)) else (bif Nat.ble 2 m then (bif Nat.ble 3 m then (bif Nat.ble 4 m then prog_1_method_26_code else prog_1_method_17_code) else prog_1_method_2_code) else (bif Nat.ble 1 m then prog_1_method_1_code else code))))
def pMaxL (m : Nat) : Nat := (bif Nat.ble 10 m then (bif Nat.ble 15 m then (bif Nat.ble 18 m then (bif Nat.ble 19 m then (bif Nat.ble 20 m then 2 else 2) else 2) else (bif Nat.ble 16 m then (bif Nat.ble 17 m then 5 else 3) else 5)) else (bif Nat.ble 12 m then (bif Nat.ble 13 m then (bif Nat.ble 14 m then 12 else 5) else 3) else (bif Nat.ble 11 m then 3 else 1))) else (bif Nat.ble 5 m then (bif Nat.ble 7 m then (bif Nat.ble 8 m then (bif Nat.ble 9 m then 6 else 5) else 1) else (bif Nat.ble 6 m then 4 else 5)) else (bif Nat.ble 2 m then (bif Nat.ble 3 m then (bif Nat.ble 4 m then 2 else 2) else 4) else (bif Nat.ble 1 m then 5 else 15))))
def pRet (m : Nat) : Option FieldType := (bif Nat.ble 10 m then (bif Nat.ble 15 m then (bif Nat.ble 18 m then (bif Nat.ble 19 m then (bif Nat.ble 20 m then (some .boolean) else (some .int)) else (some .boolean)) else (bif Nat.ble 16 m then (bif Nat.ble 17 m then (some .boolean) else (some .int)) else (some .int))) else (bif Nat.ble 12 m then (bif Nat.ble 13 m then (bif Nat.ble 14 m then none else (some .boolean)) else (some .int)) else (bif Nat.ble 11 m then (some .int) else (some .int)))) else (bif Nat.ble 5 m then (bif Nat.ble 7 m then (bif Nat.ble 8 m then (bif Nat.ble 9 m then (some .int) else (some .int)) else (some .int)) else (bif Nat.ble 6 m then (some .int) else none)) else (bif Nat.ble 2 m then (bif Nat.ble 3 m then (bif Nat.ble 4 m then none else (some .boolean)) else (some .boolean)) else (bif Nat.ble 1 m then none else (some .boolean)))))
def pNA (m : Nat) : Nat := (bif Nat.ble 10 m then (bif Nat.ble 15 m then (bif Nat.ble 18 m then (bif Nat.ble 19 m then (bif Nat.ble 20 m then 1 else 1) else 1) else (bif Nat.ble 16 m then (bif Nat.ble 17 m then 4 else 2) else 4)) else (bif Nat.ble 12 m then (bif Nat.ble 13 m then (bif Nat.ble 14 m then 4 else 2) else 2) else (bif Nat.ble 11 m then 1 else 0))) else (bif Nat.ble 5 m then (bif Nat.ble 7 m then (bif Nat.ble 8 m then (bif Nat.ble 9 m then 3 else 2) else 0) else (bif Nat.ble 6 m then 0 else 1)) else (bif Nat.ble 2 m then (bif Nat.ble 3 m then (bif Nat.ble 4 m then 0 else 1) else 3) else (bif Nat.ble 1 m then 2 else 5))))
def pFr (m : Nat) : Nat := (bif Nat.ble 10 m then (bif Nat.ble 15 m then (bif Nat.ble 18 m then (bif Nat.ble 19 m then (bif Nat.ble 20 m then 3 else 3) else 0) else (bif Nat.ble 16 m then (bif Nat.ble 17 m then 1 else 3) else 0)) else (bif Nat.ble 12 m then (bif Nat.ble 13 m then (bif Nat.ble 14 m then 1 else 2) else 3) else (bif Nat.ble 11 m then 2 else 2))) else (bif Nat.ble 5 m then (bif Nat.ble 7 m then (bif Nat.ble 8 m then (bif Nat.ble 9 m then 0 else 1) else 2) else (bif Nat.ble 6 m then 3 else 2)) else (bif Nat.ble 2 m then (bif Nat.ble 3 m then (bif Nat.ble 4 m then 3 else 0) else 4) else (bif Nat.ble 1 m then 1 else 5))))
def pLo (m : Nat) : Nat := (bif Nat.ble 10 m then (bif Nat.ble 15 m then (bif Nat.ble 18 m then (bif Nat.ble 19 m then (bif Nat.ble 20 m then 56 else 56) else 0) else (bif Nat.ble 16 m then (bif Nat.ble 17 m then 13 else 49) else 0)) else (bif Nat.ble 12 m then (bif Nat.ble 13 m then (bif Nat.ble 14 m then 17 else 33) else 49) else (bif Nat.ble 11 m then 33 else 33))) else (bif Nat.ble 5 m then (bif Nat.ble 7 m then (bif Nat.ble 8 m then (bif Nat.ble 9 m then 0 else 17) else 33) else (bif Nat.ble 6 m then 56 else 40)) else (bif Nat.ble 2 m then (bif Nat.ble 3 m then (bif Nat.ble 4 m then 56 else 0) else 72) else (bif Nat.ble 1 m then 12 else 87))))
def tB (k p : Nat) (a b : Option (Instr × Nat)) : Option (Instr × Nat) := bif Nat.ble k p then a else b
def tL (k p : Nat) (i : Instr) (x : Nat) : Option (Instr × Nat) := bif Nat.beq p k then some (i, x) else none
set_option maxHeartbeats 4000000 in
def cd0 (p : Nat) : Option (Instr × Nat) := (tB 244 p (tB 371 p (tB 434 p (tB 467 p (tB 481 p (tB 489 p (tB 492 p (tB 493 p (tB 496 p (tL 496 p .ireturn 0) (tL 493 p (.invokevirtual 41) 20)) (tL 492 p (.iconst 1) 0)) (tB 490 p (tL 490 p (.aload 5) 0) (tL 489 p .ireturn 0))) (tB 484 p (tB 485 p (tB 488 p (tL 488 p (.iconst 0) 0) (tL 485 p (.if_icmp .eq 5) 490)) (tL 484 p .iadd 0)) (tB 482 p (tL 482 p (.iload 4) 0) (tL 481 p (.iload_n 2) 0)))) (tB 473 p (tB 475 p (tB 477 p (tB 478 p (tL 478 p (.goto 7) 485) (tL 477 p .iadd 0)) (tL 475 p (.iload 4) 0)) (tB 474 p (tL 474 p .iadd 0) (tL 473 p (.iload_n 3) 0))) (tB 469 p (tB 472 p (tL 472 p (.iload_n 2) 0) (tL 469 p (.if_icmp .ne 12) 481)) (tB 468 p (tL 468 p (.iload_n 1) 0) (tL 467 p (.iload_n 0) 0))))) (tB 448 p (tB 459 p (tB 461 p (tB 463 p (tB 464 p (tL 464 p (.invokevirtual 38) 19) (tL 463 p (.iconst 1) 0)) (tL 461 p (.aload 5) 0)) (tB 460 p (tL 460 p .ireturn 0) (tL 459 p (.iconst 0) 0))) (tB 452 p (tB 455 p (tB 456 p (tL 456 p (.if_icmp .eq 5) 461) (tL 455 p (.iconst 0) 0)) (tL 452 p (.goto 4) 456)) (tB 451 p (tL 451 p (.iconst 1) 0) (tL 448 p (.if_icmp .ne 7) 455)))) (tB 440 p (tB 443 p (tB 446 p (tB 447 p (tL 447 p (.iload_n 1) 0) (tL 446 p (.iload_n 0) 0)) (tL 443 p (.invokevirtual 41) 20)) (tB 442 p (tL 442 p (.iconst 0) 0) (tL 440 p (.aload 5) 0))) (tB 438 p (tB 439 p (tL 439 p .ireturn 0) (tL 438 p (.iconst 0) 0)) (tB 435 p (tL 435 p (.if_icmp .eq 5) 440) (tL 434 p (.iconst 0) 0)))))) (tB 403 p (tB 415 p (tB 425 p (tB 427 p (tB 430 p (tB 431 p (tL 431 p (.goto 4) 435) (tL 430 p (.iload_n 2) 0)) (tL 427 p (.if_icmp .ne 7) 434)) (tB 426 p (tL 426 p (.iload_n 1) 0) (tL 425 p (.iload_n 0) 0))) (tB 419 p (tB 421 p (tB 422 p (tL 422 p (.invokevirtual 38) 19) (tL 421 p (.iconst 0) 0)) (tL 419 p (.aload 5) 0)) (tB 418 p (tL 418 p .pop 0) (tL 415 p (.invokevirtual 34) 17)))) (tB 409 p (tB 412 p (tB 413 p (tB 414 p (tL 414 p (.iconst 0) 0) (tL 413 p (.iload_n 0) 0)) (tL 412 p (.iconst 2) 0)) (tB 411 p (tL 411 p (.iconst 1) 0) (tL 409 p (.aload 5) 0))) (tB 405 p (tB 408 p (tL 408 p .pop 0) (tL 405 p (.invokevirtual 34) 17)) (tB 404 p (tL 404 p (.iconst 0) 0) (tL 403 p (.iload_n 1) 0))))) (tB 387 p (tB 397 p (tB 399 p (tB 401 p (tB 402 p (tL 402 p (.iconst 1) 0) (tL 401 p (.iconst 0) 0)) (tL 399 p (.aload 5) 0)) (tB 398 p (tL 398 p .ireturn 0) (tL 397 p (.iconst 0) 0))) (tB 389 p (tB 392 p (tB 394 p (tL 394 p (.if_icmp .eq 5) 399) (tL 392 p (.iload 14) 0)) (tL 389 p (.invokevirtual 27) 12)) (tB 388 p (tL 388 p (.iconst 1) 0) (tL 387 p (.iconst 1) 0)))) (tB 378 p (tB 383 p (tB 384 p (tB 385 p (tL 385 p (.aload 5) 0) (tL 384 p .ireturn 0)) (tL 383 p (.iconst 0) 0)) (tB 380 p (tL 380 p (.if_icmp .eq 5) 385) (tL 378 p (.iload 13) 0))) (tB 374 p (tB 375 p (tL 375 p (.invokevirtual 27) 12) (tL 374 p (.iconst 0) 0)) (tB 373 p (tL 373 p (.iconst 1) 0) (tL 371 p (.aload 5) 0))))))) (tB 306 p (tB 338 p (tB 355 p (tB 361 p (tB 366 p (tB 369 p (tB 370 p (tL 370 p .ireturn 0) (tL 369 p (.iconst 0) 0)) (tL 366 p (.if_icmp .eq 5) 371)) (tB 364 p (tL 364 p (.iload 12) 0) (tL 361 p (.invokevirtual 27) 12))) (tB 357 p (tB 359 p (tB 360 p (tL 360 p (.iconst (-1)) 0) (tL 359 p (.iconst 1) 0)) (tL 357 p (.aload 5) 0)) (tB 356 p (tL 356 p .ireturn 0) (tL 355 p (.iconst 0) 0)))) (tB 345 p (tB 347 p (tB 350 p (tB 352 p (tL 352 p (.if_icmp .eq 5) 357) (tL 350 p (.iload 11) 0)) (tL 347 p (.invokevirtual 27) 12)) (tB 346 p (tL 346 p (.iconst 1) 0) (tL 345 p (.iconst 0) 0))) (tB 342 p (tB 343 p (tL 343 p (.aload 5) 0) (tL 342 p .ireturn 0)) (tB 341 p (tL 341 p (.iconst 0) 0) (tL 338 p (.if_icmp .eq 5) 343))))) (tB 319 p (tB 329 p (tB 332 p (tB 333 p (tB 336 p (tL 336 p (.iload 10) 0) (tL 333 p (.invokevirtual 27) 12)) (tL 332 p (.iconst 0) 0)) (tB 331 p (tL 331 p (.iconst 0) 0) (tL 329 p (.aload 5) 0))) (tB 324 p (tB 327 p (tB 328 p (tL 328 p .ireturn 0) (tL 327 p (.iconst 0) 0)) (tL 324 p (.if_icmp .eq 5) 329)) (tB 322 p (tL 322 p (.iload 9) 0) (tL 319 p (.invokevirtual 27) 12)))) (tB 313 p (tB 315 p (tB 317 p (tB 318 p (tL 318 p (.iconst (-1)) 0) (tL 317 p (.iconst 0) 0)) (tL 315 p (.aload 5) 0)) (tB 314 p (tL 314 p .ireturn 0) (tL 313 p (.iconst 0) 0))) (tB 309 p (tB 310 p (tL 310 p (.if_icmp .eq 5) 315) (tL 309 p .iadd 0)) (tB 307 p (tL 307 p (.iload 4) 0) (tL 306 p (.iload_n 3) 0)))))) (tB 275 p (tB 289 p (tB 298 p (tB 301 p (tB 302 p (tB 303 p (tL 303 p (.invokevirtual 27) 12) (tL 302 p (.iconst 1) 0)) (tL 301 p (.iconst (-1)) 0)) (tB 299 p (tL 299 p (.aload 5) 0) (tL 298 p .ireturn 0))) (tB 293 p (tB 294 p (tB 297 p (tL 297 p (.iconst 0) 0) (tL 294 p (.if_icmp .eq 5) 299)) (tL 293 p (.iload_n 2) 0)) (tB 290 p (tL 290 p (.invokevirtual 27) 12) (tL 289 p (.iconst 0) 0)))) (tB 281 p (tB 285 p (tB 286 p (tB 288 p (tL 288 p (.iconst (-1)) 0) (tL 286 p (.aload 5) 0)) (tL 285 p .ireturn 0)) (tB 284 p (tL 284 p (.iconst 0) 0) (tL 281 p (.if_icmp .eq 5) 286))) (tB 277 p (tB 280 p (tL 280 p (.iconst 3) 0) (tL 277 p (.invokevirtual 31) 16)) (tB 276 p (tL 276 p (.iconst (-1)) 0) (tL 275 p (.iconst (-1)) 0))))) (tB 259 p (tB 267 p (tB 271 p (tB 272 p (tB 273 p (tL 273 p (.aload 5) 0) (tL 272 p .ireturn 0)) (tL 271 p (.iconst 0) 0)) (tB 268 p (tL 268 p (.if_icmp .eq 5) 273) (tL 267 p .iadd 0))) (tB 263 p (tB 264 p (tB 265 p (tL 265 p (.iload 4) 0) (tL 264 p .iadd 0)) (tL 263 p (.iload_n 3) 0)) (tB 262 p (tL 262 p (.iload_n 2) 0) (tL 259 p (.invokevirtual 27) 12)))) (tB 253 p (tB 255 p (tB 257 p (tB 258 p (tL 258 p (.iconst (-1)) 0) (tL 257 p (.iconst (-1)) 0)) (tL 255 p (.aload 5) 0)) (tB 254 p (tL 254 p .ireturn 0) (tL 253 p (.iconst 0) 0))) (tB 248 p (tB 250 p (tL 250 p (.if_icmp .eq 5) 255) (tL 248 p (.iload 8) 0)) (tB 245 p (tL 245 p (.invokevirtual 23) 11) (tL 244 p (.iconst 1) 0)))))))) (tB 116 p (tB 178 p (tB 208 p (tB 227 p (tB 235 p (tB 240 p (tB 241 p (tB 242 p (tL 242 p (.aload 5) 0) (tL 241 p .ireturn 0)) (tL 240 p (.iconst 0) 0)) (tB 237 p (tL 237 p (.if_icmp .eq 5) 242) (tL 235 p (.iload 7) 0))) (tB 229 p (tB 231 p (tB 232 p (tL 232 p (.invokevirtual 23) 11) (tL 231 p (.iconst 0) 0)) (tL 229 p (.aload 5) 0)) (tB 228 p (tL 228 p .ireturn 0) (tL 227 p (.iconst 0) 0)))) (tB 217 p (tB 220 p (tB 223 p (tB 224 p (tL 224 p (.if_icmp .eq 5) 229) (tL 223 p (.iconst 2) 0)) (tL 220 p (.invokevirtual 20) 10)) (tB 218 p (tL 218 p (.aload 5) 0) (tL 217 p .ireturn 0))) (tB 213 p (tB 216 p (tL 216 p (.iconst 0) 0) (tL 213 p (.if_icmp .eq 5) 218)) (tB 211 p (tL 211 p (.iload 6) 0) (tL 208 p (.invokevirtual 16) 7))))) (tB 191 p (tB 199 p (tB 202 p (tB 204 p (tB 206 p (tL 206 p (.aload 5) 0) (tL 204 p (.istore 14) 0)) (tL 202 p (.iload 4) 0)) (tB 200 p (tL 200 p (.istore 13) 0) (tL 199 p (.iload_n 2) 0))) (tB 194 p (tB 196 p (tB 197 p (tL 197 p (.istore 12) 0) (tL 196 p .iadd 0)) (tL 194 p (.iload 4) 0)) (tB 193 p (tL 193 p (.iload_n 2) 0) (tL 191 p (.istore 11) 0)))) (tB 184 p (tB 187 p (tB 188 p (tB 190 p (tL 190 p (.iload_n 3) 0) (tL 188 p (.istore 10) 0)) (tL 187 p (.iconst 0) 0)) (tB 185 p (tL 185 p (.istore 9) 0) (tL 184 p (.iload_n 3) 0))) (tB 181 p (tB 182 p (tL 182 p (.istore 8) 0) (tL 181 p (.iload_n 0) 0)) (tB 179 p (tL 179 p (.istore 7) 0) (tL 178 p (.iload_n 1) 0)))))) (tB 147 p (tB 161 p (tB 169 p (tB 172 p (tB 175 p (tB 176 p (tL 176 p (.istore 6) 0) (tL 175 p (.iconst 2) 0)) (tL 172 p (.goto 34) 206)) (tB 170 p (tL 170 p (.istore 14) 0) (tL 169 p (.iload_n 3) 0))) (tB 164 p (tB 166 p (tB 167 p (tL 167 p (.istore 13) 0) (tL 166 p (.iconst 0) 0)) (tL 164 p (.istore 12) 0)) (tB 163 p (tL 163 p (.iload_n 3) 0) (tL 161 p (.istore 11) 0)))) (tB 153 p (tB 156 p (tB 157 p (tB 159 p (tL 159 p (.iload 4) 0) (tL 157 p (.istore 10) 0)) (tL 156 p (.iload_n 2) 0)) (tB 154 p (tL 154 p (.istore 9) 0) (tL 153 p .iadd 0))) (tB 150 p (tB 151 p (tL 151 p (.iload 4) 0) (tL 150 p (.iload_n 2) 0)) (tB 148 p (tL 148 p (.istore 8) 0) (tL 147 p (.iload_n 1) 0))))) (tB 130 p (tB 138 p (tB 142 p (tB 144 p (tB 145 p (tL 145 p (.istore 7) 0) (tL 144 p (.iload_n 0) 0)) (tL 142 p (.istore 6) 0)) (tB 141 p (tL 141 p (.iconst 2) 0) (tL 138 p (.if_icmp .ge 37) 175))) (tB 133 p (tB 136 p (tB 137 p (tL 137 p (.iload_n 1) 0) (tL 136 p (.iload_n 0) 0)) (tL 133 p (.goto 73) 206)) (tB 131 p (tL 131 p (.istore 14) 0) (tL 130 p (.iconst 0) 0)))) (tB 122 p (tB 125 p (tB 127 p (tB 128 p (tL 128 p (.istore 13) 0) (tL 127 p (.iconst 0) 0)) (tL 125 p (.istore 12) 0)) (tB 124 p (tL 124 p (.iconst 0) 0) (tL 122 p (.istore 11) 0))) (tB 119 p (tB 121 p (tL 121 p .iadd 0) (tL 119 p (.iload 4) 0)) (tB 118 p (tL 118 p (.iload_n 3) 0) (tL 116 p (.istore 10) 0))))))) (tB 59 p (tB 87 p (tB 102 p (tB 109 p (tB 112 p (tB 113 p (tB 115 p (tL 115 p (.iload_n 2) 0) (tL 113 p (.istore 9) 0)) (tL 112 p .iadd 0)) (tB 110 p (tL 110 p (.iload 4) 0) (tL 109 p .iadd 0))) (tB 105 p (tB 107 p (tB 108 p (tL 108 p (.iload_n 3) 0) (tL 107 p (.iload_n 2) 0)) (tL 105 p (.istore 8) 0)) (tB 104 p (tL 104 p (.iconst 0) 0) (tL 102 p (.istore 7) 0)))) (tB 94 p (tB 98 p (tB 99 p (tB 101 p (tL 101 p (.iload_n 0) 0) (tL 99 p (.istore 6) 0)) (tL 98 p (.iconst 1) 0)) (tB 95 p (tL 95 p (.if_icmp .ne 41) 136) (tL 94 p (.iload_n 1) 0))) (tB 92 p (tB 93 p (tL 93 p (.iload_n 0) 0) (tL 92 p .pop 0)) (tB 89 p (tL 89 p (.invokevirtual 12) 2) (tL 87 p (.iload 4) 0))))) (tB 73 p (tB 79 p (tB 83 p (tB 85 p (tB 86 p (tL 86 p (.iconst 2) 0) (tL 85 p (.iconst 2) 0)) (tL 83 p (.aload 5) 0)) (tB 82 p (tL 82 p .pop 0) (tL 79 p (.invokevirtual 12) 2))) (tB 76 p (tB 77 p (tB 78 p (tL 78 p (.iconst 1) 0) (tL 77 p (.iconst 1) 0)) (tL 76 p (.iconst 2) 0)) (tB 74 p (tL 74 p (.aload 5) 0) (tL 73 p .pop 0)))) (tB 65 p (tB 68 p (tB 69 p (tB 70 p (tL 70 p (.invokevirtual 12) 2) (tL 69 p (.iload_n 0) 0)) (tL 68 p (.iconst 0) 0)) (tB 67 p (tL 67 p (.iconst 2) 0) (tL 65 p (.aload 5) 0))) (tB 61 p (tB 64 p (tL 64 p .pop 0) (tL 61 p (.invokevirtual 12) 2)) (tB 60 p (tL 60 p (.iload_n 3) 0) (tL 59 p (.iconst 2) 0)))))) (tB 31 p (tB 43 p (tB 51 p (tB 55 p (tB 56 p (tB 58 p (tL 58 p (.iconst 1) 0) (tL 56 p (.aload 5) 0)) (tL 55 p .pop 0)) (tB 52 p (tL 52 p (.invokevirtual 12) 2) (tL 51 p (.iconst 1) 0))) (tB 47 p (tB 49 p (tB 50 p (tL 50 p (.iconst 1) 0) (tL 49 p (.iconst 1) 0)) (tL 47 p (.aload 5) 0)) (tB 46 p (tL 46 p .pop 0) (tL 43 p (.invokevirtual 12) 2)))) (tB 37 p (tB 40 p (tB 41 p (tB 42 p (tL 42 p (.iload_n 1) 0) (tL 41 p (.iconst 0) 0)) (tL 40 p (.iconst 1) 0)) (tB 38 p (tL 38 p (.aload 5) 0) (tL 37 p .pop 0))) (tB 33 p (tB 34 p (tL 34 p (.invokevirtual 12) 2) (tL 33 p (.iload_n 2) 0)) (tB 32 p (tL 32 p (.iconst 2) 0) (tL 31 p (.iconst 0) 0))))) (tB 15 p (tB 23 p (tB 25 p (tB 28 p (tB 29 p (tL 29 p (.aload 5) 0) (tL 28 p .pop 0)) (tL 25 p (.invokevirtual 12) 2)) (tB 24 p (tL 24 p (.iconst 0) 0) (tL 23 p (.iconst 1) 0))) (tB 19 p (tB 20 p (tB 22 p (tL 22 p (.iconst 0) 0) (tL 20 p (.aload 5) 0)) (tL 19 p .pop 0)) (tB 16 p (tL 16 p (.invokevirtual 12) 2) (tL 15 p (.iload_n 0) 0)))) (tB 6 p (tB 11 p (tB 13 p (tB 14 p (tL 14 p (.iconst 0) 0) (tL 13 p (.iconst 0) 0)) (tL 11 p (.aload 5) 0)) (tB 9 p (tL 9 p (.astore 5) 0) (tL 6 p (.invokespecial 9) 1))) (tB 4 p (tB 5 p (tL 5 p (.iconst 2) 0) (tL 4 p (.iconst 4) 0)) (tB 3 p (tL 3 p .dup 0) (tL 0 p (.new 7) 0)))))))))
set_option maxHeartbeats 4000000 in
def cd1 (p : Nat) : Option (Instr × Nat) := (tB 76 p (tB 110 p (tB 130 p (tB 138 p (tB 142 p (tB 143 p (tB 146 p (tL 146 p .return_ 0) (tL 143 p (.putfield 54) 14)) (tL 142 p (.iconst 0) 0)) (tB 141 p (tL 141 p (.aload_n 0) 0) (tL 138 p (.putfield 51) 13))) (tB 132 p (tB 135 p (tB 136 p (tL 136 p (.iload 4) 0) (tL 135 p (.aload_n 0) 0)) (tL 132 p (.putfield 48) 12)) (tB 131 p (tL 131 p (.iload_n 3) 0) (tL 130 p (.aload_n 0) 0)))) (tB 119 p (tB 123 p (tB 126 p (tB 128 p (tL 128 p (.istore 4) 0) (tL 126 p (.bipush 16) 0)) (tL 123 p (.if_icmp .le 7) 130)) (tB 121 p (tL 121 p (.bipush 16) 0) (tL 119 p (.iload 4) 0))) (tB 113 p (tB 116 p (tB 117 p (tL 117 p (.istore 4) 0) (tL 116 p (.iconst 1) 0)) (tL 113 p (.if_icmp .ge 6) 119)) (tB 112 p (tL 112 p (.iconst 1) 0) (tL 110 p (.iload 4) 0))))) (tB 93 p (tB 101 p (tB 106 p (tB 107 p (tB 108 p (tL 108 p (.istore 4) 0) (tL 107 p (.iload_n 2) 0)) (tL 106 p (.istore_n 3) 0)) (tB 104 p (tL 104 p (.bipush 32) 0) (tL 101 p (.if_icmp .le 6) 107))) (tB 97 p (tB 98 p (tB 99 p (tL 99 p (.bipush 32) 0) (tL 98 p (.iload_n 3) 0)) (tL 97 p (.istore_n 3) 0)) (tB 96 p (tL 96 p (.iconst 4) 0) (tL 93 p (.if_icmp .ge 5) 98)))) (tB 86 p (tB 90 p (tB 91 p (tB 92 p (tL 92 p (.iconst 4) 0) (tL 91 p (.iload_n 3) 0)) (tL 90 p (.istore_n 3) 0)) (tB 89 p (tL 89 p (.iload_n 1) 0) (tL 86 p (.putfield 45) 11))) (tB 81 p (tB 82 p (tB 84 p (tL 84 p (.newarray .int) 0) (tL 82 p (.bipush 64) 0)) (tL 81 p (.aload_n 0) 0)) (tB 78 p (tL 78 p (.putfield 42) 10) (tL 76 p (.newarray .boolean) 0)))))) (tB 37 p (tB 57 p (tB 66 p (tB 70 p (tB 73 p (tB 74 p (tL 74 p (.bipush 16) 0) (tL 73 p (.aload_n 0) 0)) (tL 70 p (.putfield 39) 9)) (tB 68 p (tL 68 p (.newarray .int) 0) (tL 66 p (.bipush 16) 0))) (tB 60 p (tB 62 p (tB 65 p (tL 65 p (.aload_n 0) 0) (tL 62 p (.putfield 36) 8)) (tL 60 p (.newarray .int) 0)) (tB 58 p (tL 58 p (.bipush 16) 0) (tL 57 p (.aload_n 0) 0)))) (tB 46 p (tB 50 p (tB 52 p (tB 54 p (tL 54 p (.putfield 33) 7) (tL 52 p (.newarray .int) 0)) (tL 50 p (.bipush 16) 0)) (tB 49 p (tL 49 p (.aload_n 0) 0) (tL 46 p (.putfield 30) 6))) (tB 41 p (tB 42 p (tB 44 p (tL 44 p (.newarray .int) 0) (tL 42 p (.bipush 16) 0)) (tL 41 p (.aload_n 0) 0)) (tB 38 p (tL 38 p (.putfield 27) 5) (tL 37 p (.iconst 0) 0))))) (tB 21 p (tB 28 p (tB 32 p (tB 33 p (tB 36 p (tL 36 p (.aload_n 0) 0) (tL 33 p (.putfield 24) 4)) (tL 32 p (.iconst 2) 0)) (tB 31 p (tL 31 p (.aload_n 0) 0) (tL 28 p (.putfield 21) 3))) (tB 23 p (tB 26 p (tB 27 p (tL 27 p (.iconst 1) 0) (tL 26 p (.aload_n 0) 0)) (tL 23 p (.putfield 17) 2)) (tB 22 p (tL 22 p (.iconst 0) 0) (tL 21 p (.aload_n 0) 0)))) (tB 10 p (tB 14 p (tB 16 p (tB 18 p (tL 18 p (.putfield 13) 1) (tL 16 p (.newarray .boolean) 0)) (tL 14 p (.bipush 32) 0)) (tB 13 p (tL 13 p (.aload_n 0) 0) (tL 10 p (.putfield 7) 0))) (tB 4 p (tB 5 p (tB 8 p (tL 8 p (.newarray .int) 0) (tL 5 p (.sipush 128) 0)) (tL 4 p (.aload_n 0) 0)) (tB 1 p (tL 1 p (.invokespecial 1) 0) (tL 0 p (.aload_n 0) 0)))))))
set_option maxHeartbeats 4000000 in
def cd2 (p : Nat) : Option (Instr × Nat) := (tB 29 p (tB 40 p (tB 44 p (tB 48 p (tB 51 p (tB 52 p (tL 52 p .ireturn 0) (tL 51 p (.iconst 1) 0)) (tL 48 p (.putfield 54) 14)) (tB 45 p (tL 45 p (.invokevirtual 64) 6) (tL 44 p (.aload_n 0) 0))) (tB 42 p (tB 43 p (tL 43 p (.aload_n 0) 0) (tL 42 p .bastore 0)) (tB 41 p (tL 41 p (.iconst 1) 0) (tL 40 p (.iload_n 1) 0)))) (tB 33 p (tB 35 p (tB 36 p (tB 37 p (tL 37 p (.getfield 13) 1) (tL 36 p (.aload_n 0) 0)) (tL 35 p .iastore 0)) (tB 34 p (tL 34 p (.iload_n 3) 0) (tL 33 p .iadd 0))) (tB 31 p (tB 32 p (tL 32 p (.iload_n 2) 0) (tL 31 p .imul 0)) (tB 30 p (tL 30 p (.iconst 4) 0) (tL 29 p (.iload_n 1) 0))))) (tB 14 p (tB 20 p (tB 22 p (tB 25 p (tB 26 p (tL 26 p (.getfield 7) 0) (tL 25 p (.aload_n 0) 0)) (tL 22 p (.invokevirtual 61) 4)) (tB 21 p (tL 21 p (.aload_n 0) 0) (tL 20 p .ireturn 0))) (tB 16 p (tB 19 p (tL 19 p (.iconst 0) 0) (tL 16 p (.if_icmp .lt 5) 21)) (tB 15 p (tL 15 p (.iconst 4) 0) (tL 14 p (.iload_n 2) 0)))) (tB 8 p (tB 10 p (tB 11 p (tL 11 p (.ifCond .lt 8) 19) (tL 10 p (.iload_n 2) 0)) (tB 9 p (tL 9 p .ireturn 0) (tL 8 p (.iconst 0) 0))) (tB 2 p (tB 5 p (tL 5 p (.ifCond .ne 5) 10) (tL 2 p (.invokevirtual 57) 3)) (tB 1 p (tL 1 p (.iload_n 1) 0) (tL 0 p (.aload_n 0) 0))))))
set_option maxHeartbeats 4000000 in
def cd3 (p : Nat) : Option (Instr × Nat) := (tB 9 p (tB 13 p (tB 16 p (tB 17 p (tL 17 p .ireturn 0) (tL 16 p (.iconst 0) 0)) (tL 13 p (.goto 4) 17)) (tB 12 p (tL 12 p (.iconst 1) 0) (tL 9 p (.if_icmp .ge 7) 16))) (tB 4 p (tB 5 p (tB 6 p (tL 6 p (.getfield 48) 12) (tL 5 p (.aload_n 0) 0)) (tL 4 p (.iload_n 1) 0)) (tB 1 p (tL 1 p (.ifCond .lt 15) 16) (tL 0 p (.iload_n 1) 0))))
set_option maxHeartbeats 4000000 in
def cd4 (p : Nat) : Option (Instr × Nat) := (tB 24 p (tB 37 p (tB 42 p (tB 46 p (tB 49 p (tL 49 p .return_ 0) (tL 46 p (.goto (-44)) 2)) (tB 43 p (tL 43 p (.iinc 1 1) 0) (tL 42 p .bastore 0))) (tB 38 p (tB 41 p (tL 41 p (.iconst 0) 0) (tL 38 p (.goto 4) 42)) (tL 37 p (.iconst 1) 0))) (tB 29 p (tB 31 p (tB 34 p (tL 34 p (.ifCond .le 7) 41) (tL 31 p (.getfield 99) 16)) (tB 30 p (tL 30 p (.aload_n 0) 0) (tL 29 p (.iload_n 1) 0))) (tB 25 p (tB 26 p (tL 26 p (.getfield 42) 10) (tL 25 p (.aload_n 0) 0)) (tL 24 p .iastore 0)))) (tB 11 p (tB 16 p (tB 20 p (tB 21 p (tL 21 p (.getfield 96) 15) (tL 20 p (.aload_n 0) 0)) (tB 19 p (tL 19 p (.iload_n 1) 0) (tL 16 p (.getfield 39) 9))) (tB 12 p (tB 15 p (tL 15 p (.aload_n 0) 0) (tL 12 p (.invokevirtual 105) 5)) (tL 11 p (.iload_n 1) 0))) (tB 3 p (tB 7 p (tB 10 p (tL 10 p (.aload_n 0) 0) (tL 7 p (.if_icmp .ge 42) 49)) (tB 4 p (tL 4 p (.getfield 51) 13) (tL 3 p (.aload_n 0) 0))) (tB 1 p (tB 2 p (tL 2 p (.iload_n 1) 0) (tL 1 p (.istore_n 1) 0)) (tL 0 p (.iconst 0) 0)))))
set_option maxHeartbeats 4000000 in
def cd5 (p : Nat) : Option (Instr × Nat) := (tB 37 p (tB 56 p (tB 65 p (tB 70 p (tB 71 p (tB 74 p (tL 74 p .return_ 0) (tL 71 p (.invokevirtual 92) 14)) (tL 70 p .iaload 0)) (tB 66 p (tB 69 p (tL 69 p (.iload_n 1) 0) (tL 66 p (.getfield 36) 8)) (tL 65 p (.aload_n 0) 0))) (tB 61 p (tB 62 p (tB 63 p (tL 63 p (.iload 4) 0) (tL 62 p .iaload 0)) (tL 61 p (.iload_n 1) 0)) (tB 57 p (tB 58 p (tL 58 p (.getfield 33) 7) (tL 57 p (.aload_n 0) 0)) (tL 56 p (.iload_n 3) 0)))) (tB 45 p (tB 52 p (tB 53 p (tB 55 p (tL 55 p (.aload_n 0) 0) (tL 53 p (.istore 4) 0)) (tL 52 p (.iconst 0) 0)) (tB 48 p (tB 49 p (tL 49 p (.goto 4) 53) (tL 48 p (.iconst 1) 0)) (tL 45 p (.if_icmp .ne 7) 52))) (tB 40 p (tB 43 p (tB 44 p (tL 44 p (.iconst 3) 0) (tL 43 p (.iload_n 2) 0)) (tL 40 p (.if_icmp .eq 8) 48)) (tB 38 p (tB 39 p (tL 39 p (.iconst 1) 0) (tL 38 p (.iload_n 2) 0)) (tL 37 p (.istore_n 3) 0))))) (tB 17 p (tB 27 p (tB 32 p (tB 33 p (tB 36 p (tL 36 p (.iconst 0) 0) (tL 33 p (.goto 4) 37)) (tL 32 p (.iconst 1) 0)) (tB 28 p (tB 29 p (tL 29 p (.if_icmp .ne 7) 36) (tL 28 p (.iconst 2) 0)) (tL 27 p (.iload_n 2) 0))) (tB 22 p (tB 23 p (tB 24 p (tL 24 p (.if_icmp .eq 8) 32) (tL 23 p (.iconst 1) 0)) (tL 22 p (.iload_n 2) 0)) (tB 18 p (tB 21 p (tL 21 p .return_ 0) (tL 18 p (.putfield 99) 16)) (tL 17 p (.iconst 0) 0)))) (tB 7 p (tB 12 p (tB 13 p (tB 16 p (tL 16 p (.aload_n 0) 0) (tL 13 p (.putfield 96) 15)) (tL 12 p (.iconst 0) 0)) (tB 8 p (tB 11 p (tL 11 p (.aload_n 0) 0) (tL 8 p (.ifCond .ne 14) 22)) (tL 7 p (.iload_n 2) 0))) (tB 4 p (tB 5 p (tB 6 p (tL 6 p (.istore_n 2) 0) (tL 5 p .iaload 0)) (tL 4 p (.iload_n 1) 0)) (tB 1 p (tL 1 p (.getfield 30) 6) (tL 0 p (.aload_n 0) 0))))))
set_option maxHeartbeats 4000000 in
def cd6 (p : Nat) : Option (Instr × Nat) := (tB 30 p (tB 45 p (tB 53 p (tB 59 p (tB 62 p (tB 63 p (tL 63 p .ireturn 0) (tL 62 p (.iload_n 1) 0)) (tL 59 p (.goto (-55)) 4)) (tB 56 p (tL 56 p (.iinc 2 1) 0) (tL 53 p (.iinc 1 1) 0))) (tB 49 p (tB 50 p (tL 50 p (.if_icmp .eq 6) 56) (tL 49 p .baload 0)) (tB 48 p (tL 48 p (.iload_n 2) 0) (tL 45 p (.getfield 42) 10)))) (tB 38 p (tB 40 p (tB 43 p (tB 44 p (tL 44 p (.aload_n 0) 0) (tL 43 p (.iload_n 3) 0)) (tL 40 p (.if_icmp .ne 13) 53)) (tB 39 p (tL 39 p .iaload 0) (tL 38 p (.iload_n 2) 0))) (tB 34 p (tB 35 p (tL 35 p (.getfield 39) 9) (tL 34 p (.aload_n 0) 0)) (tB 31 p (tL 31 p (.getfield 96) 15) (tL 30 p (.aload_n 0) 0))))) (tB 13 p (tB 21 p (tB 25 p (tB 28 p (tB 29 p (tL 29 p (.istore_n 3) 0) (tL 28 p (.iconst 0) 0)) (tL 25 p (.goto 4) 29)) (tB 24 p (tL 24 p (.iconst 1) 0) (tL 21 p (.ifCond .le 7) 28))) (tB 17 p (tB 18 p (tL 18 p (.getfield 99) 16) (tL 17 p (.aload_n 0) 0)) (tB 14 p (tL 14 p (.invokevirtual 105) 5) (tL 13 p (.iload_n 2) 0)))) (tB 4 p (tB 6 p (tB 9 p (tB 12 p (tL 12 p (.aload_n 0) 0) (tL 9 p (.if_icmp .ge 53) 62)) (tL 6 p (.getfield 51) 13)) (tB 5 p (tL 5 p (.aload_n 0) 0) (tL 4 p (.iload_n 2) 0))) (tB 2 p (tB 3 p (tL 3 p (.istore_n 2) 0) (tL 2 p (.iconst 0) 0)) (tB 1 p (tL 1 p (.istore_n 1) 0) (tL 0 p (.iconst 0) 0))))))
set_option maxHeartbeats 4000000 in
def cd7 (p : Nat) : Option (Instr × Nat) := (tB 5 p (tB 6 p (tB 9 p (tL 9 p .ireturn 0) (tL 6 p (.invokevirtual 71) 8)) (tL 5 p (.iconst 0) 0)) (tB 1 p (tB 2 p (tL 2 p (.getfield 17) 2) (tL 1 p (.aload_n 0) 0)) (tL 0 p (.aload_n 0) 0)))
set_option maxHeartbeats 4000000 in
def cd8 (p : Nat) : Option (Instr × Nat) := (tB 26 p (tB 36 p (tB 42 p (tB 48 p (tB 49 p (tL 49 p .ireturn 0) (tL 48 p (.iload_n 3) 0)) (tB 45 p (tL 45 p (.goto (-40)) 5) (tL 42 p (.iinc 4 1) 0))) (tB 38 p (tB 41 p (tL 41 p (.istore_n 3) 0) (tL 38 p (.invokevirtual 109) 9)) (tB 37 p (tL 37 p .iaload 0) (tL 36 p .iadd 0)))) (tB 31 p (tB 34 p (tB 35 p (tL 35 p (.iload_n 1) 0) (tL 34 p .imul 0)) (tB 33 p (tL 33 p (.iconst 4) 0) (tL 31 p (.iload 4) 0))) (tB 27 p (tB 28 p (tL 28 p (.getfield 7) 0) (tL 27 p (.aload_n 0) 0)) (tL 26 p (.iload_n 3) 0)))) (tB 11 p (tB 20 p (tB 24 p (tB 25 p (tL 25 p (.iload_n 2) 0) (tL 24 p (.aload_n 0) 0)) (tB 21 p (tL 21 p (.ifCond .eq 21) 42) (tL 20 p .baload 0))) (tB 15 p (tB 18 p (tL 18 p (.iload 4) 0) (tL 15 p (.getfield 13) 1)) (tB 14 p (tL 14 p (.aload_n 0) 0) (tL 11 p (.if_icmp .ge 37) 48)))) (tB 3 p (tB 7 p (tB 8 p (tL 8 p (.getfield 48) 12) (tL 7 p (.aload_n 0) 0)) (tB 5 p (tL 5 p (.iload 4) 0) (tL 3 p (.istore 4) 0))) (tB 1 p (tB 2 p (tL 2 p (.iconst 0) 0) (tL 1 p (.istore_n 3) 0)) (tL 0 p (.iconst 0) 0)))))
set_option maxHeartbeats 4000000 in
def cd9 (p : Nat) : Option (Instr × Nat) := (tB 59 p (tB 87 p (tB 101 p (tB 106 p (tB 108 p (tB 109 p (tB 110 p (tL 110 p .ireturn 0) (tL 109 p .iadd 0)) (tL 108 p (.iconst 1) 0)) (tB 107 p (tL 107 p (.iload_n 2) 0) (tL 106 p .iastore 0))) (tB 104 p (tB 105 p (tL 105 p (.iload_n 3) 0) (tL 104 p .iadd 0)) (tB 102 p (tL 102 p (.iload 4) 0) (tL 101 p (.iload_n 1) 0)))) (tB 91 p (tB 97 p (tB 98 p (tL 98 p (.getfield 45) 11) (tL 97 p (.aload_n 0) 0)) (tB 94 p (tL 94 p (.goto (-30)) 64) (tL 91 p (.iinc 5 (-1)) 0))) (tB 89 p (tB 90 p (tL 90 p .iastore 0) (tL 89 p .iaload 0)) (tB 88 p (tL 88 p .isub 0) (tL 87 p (.iconst 1) 0))))) (tB 72 p (tB 79 p (tB 83 p (tB 84 p (tB 86 p (tL 86 p .iadd 0) (tL 84 p (.iload 5) 0)) (tL 83 p (.iload_n 1) 0)) (tB 80 p (tL 80 p (.getfield 45) 11) (tL 79 p (.aload_n 0) 0))) (tB 76 p (tB 78 p (tL 78 p .iadd 0) (tL 76 p (.iload 5) 0)) (tB 75 p (tL 75 p (.iload_n 1) 0) (tL 72 p (.getfield 45) 11)))) (tB 64 p (tB 68 p (tB 71 p (tL 71 p (.aload_n 0) 0) (tL 68 p (.if_icmp .le 29) 97)) (tB 66 p (tL 66 p (.iload 4) 0) (tL 64 p (.iload 5) 0))) (tB 61 p (tB 62 p (tL 62 p (.istore 5) 0) (tL 61 p (.iload_n 2) 0)) (tB 60 p (tL 60 p .ireturn 0) (tL 59 p (.iload_n 2) 0)))))) (tB 28 p (tB 43 p (tB 51 p (tB 54 p (tB 55 p (tB 56 p (tL 56 p (.if_icmp .ne 5) 61) (tL 55 p (.iload_n 3) 0)) (tL 54 p .iaload 0)) (tB 53 p (tL 53 p .iadd 0) (tL 51 p (.iload 4) 0))) (tB 47 p (tB 50 p (tL 50 p (.iload_n 1) 0) (tL 47 p (.getfield 45) 11)) (tB 46 p (tL 46 p (.aload_n 0) 0) (tL 43 p (.if_icmp .ge 18) 61)))) (tB 34 p (tB 40 p (tB 42 p (tL 42 p (.iload_n 2) 0) (tL 40 p (.iload 4) 0)) (tB 37 p (tL 37 p (.goto (-22)) 15) (tL 34 p (.iinc 4 1) 0))) (tB 30 p (tB 31 p (tL 31 p (.if_icmp .ge 9) 40) (tL 30 p (.iload_n 3) 0)) (tB 29 p (tL 29 p .iaload 0) (tL 28 p .iadd 0))))) (tB 13 p (tB 21 p (tB 25 p (tB 26 p (tL 26 p (.iload 4) 0) (tL 25 p (.iload_n 1) 0)) (tB 22 p (tL 22 p (.getfield 45) 11) (tL 21 p (.aload_n 0) 0))) (tB 17 p (tB 18 p (tL 18 p (.if_icmp .ge 22) 40) (tL 17 p (.iload_n 2) 0)) (tB 15 p (tL 15 p (.iload 4) 0) (tL 13 p (.istore 4) 0)))) (tB 7 p (tB 11 p (tB 12 p (tL 12 p (.iconst 0) 0) (tL 11 p .ireturn 0)) (tB 10 p (tL 10 p (.iload_n 2) 0) (tL 7 p (.if_icmp .lt 5) 12))) (tB 4 p (tB 5 p (tL 5 p (.bipush 32) 0) (tL 4 p (.iload_n 2) 0)) (tB 1 p (tL 1 p (.ifCond .lt 9) 10) (tL 0 p (.iload_n 2) 0)))))))
set_option maxHeartbeats 4000000 in
def cd10 (p : Nat) : Option (Instr × Nat) := (tB 5 p (tB 7 p (tB 10 p (tL 10 p .ireturn 0) (tL 7 p (.invokevirtual 71) 8)) (tL 5 p (.bipush 32) 0)) (tB 1 p (tB 2 p (tL 2 p (.getfield 21) 3) (tL 1 p (.aload_n 0) 0)) (tL 0 p (.aload_n 0) 0)))
set_option maxHeartbeats 4000000 in
def cd11 (p : Nat) : Option (Instr × Nat) := (tB 15 p (tB 21 p (tB 25 p (tB 26 p (tB 27 p (tL 27 p .ireturn 0) (tL 26 p .iaload 0)) (tL 25 p (.iload_n 1) 0)) (tB 22 p (tL 22 p (.getfield 45) 11) (tL 21 p (.aload_n 0) 0))) (tB 19 p (tB 20 p (tL 20 p .ireturn 0) (tL 19 p (.iconst 0) 0)) (tB 16 p (tL 16 p (.if_icmp .lt 5) 21) (tL 15 p (.iload_n 2) 0)))) (tB 6 p (tB 10 p (tB 11 p (tB 14 p (tL 14 p (.iload_n 1) 0) (tL 11 p (.ifCond .lt 8) 19)) (tL 10 p (.iload_n 1) 0)) (tB 9 p (tL 9 p (.istore_n 2) 0) (tL 6 p (.invokevirtual 71) 8))) (tB 2 p (tB 5 p (tL 5 p (.iconst 0) 0) (tL 2 p (.getfield 17) 2)) (tB 1 p (tL 1 p (.aload_n 0) 0) (tL 0 p (.aload_n 0) 0)))))
set_option maxHeartbeats 4000000 in
def cd12 (p : Nat) : Option (Instr × Nat) := (tB 16 p (tB 25 p (tB 31 p (tB 32 p (tB 35 p (tL 35 p .ireturn 0) (tL 32 p (.getfield 96) 15)) (tL 31 p (.aload_n 0) 0)) (tB 28 p (tL 28 p (.invokevirtual 92) 14) (tL 25 p (.getfield 89) 20))) (tB 20 p (tB 21 p (tB 24 p (tL 24 p (.aload_n 0) 0) (tL 21 p (.getfield 86) 19)) (tL 20 p (.aload_n 0) 0)) (tB 17 p (tL 17 p (.getfield 83) 18) (tL 16 p (.aload_n 0) 0)))) (tB 9 p (tB 11 p (tB 12 p (tB 13 p (tL 13 p (.getfield 79) 17) (tL 12 p (.aload_n 0) 0)) (tL 11 p (.aload_n 0) 0)) (tB 10 p (tL 10 p .ireturn 0) (tL 9 p (.iconst 0) 0))) (tB 2 p (tB 3 p (tB 6 p (tL 6 p (.ifCond .ne 5) 11) (tL 3 p (.invokevirtual 75) 13)) (tL 2 p (.iload_n 2) 0)) (tB 1 p (tL 1 p (.iload_n 1) 0) (tL 0 p (.aload_n 0) 0)))))
set_option maxHeartbeats 4000000 in
def cd13 (p : Nat) : Option (Instr × Nat) := (tB 62 p (tB 96 p (tB 113 p (tB 121 p (tB 125 p (tB 128 p (tB 129 p (tL 129 p .ireturn 0) (tL 128 p (.iconst 1) 0)) (tL 125 p (.putfield 89) 20)) (tB 124 p (tL 124 p (.iconst 0) 0) (tL 121 p (.goto 4) 125))) (tB 118 p (tB 119 p (tB 120 p (tL 120 p .iaload 0) (tL 119 p .iadd 0)) (tL 118 p (.iload_n 2) 0)) (tB 116 p (tL 116 p (.bipush 32) 0) (tL 113 p (.getfield 45) 11)))) (tB 104 p (tB 106 p (tB 109 p (tB 112 p (tL 112 p (.aload_n 0) 0) (tL 109 p (.ifCond .eq 15) 124)) (tL 106 p (.getfield 86) 19)) (tB 105 p (tL 105 p (.aload_n 0) 0) (tL 104 p (.aload_n 0) 0))) (tB 100 p (tB 101 p (tL 101 p (.putfield 86) 19) (tL 100 p (.iconst 0) 0)) (tB 97 p (tL 97 p (.goto 4) 101) (tL 96 p (.iconst 1) 0))))) (tB 81 p (tB 87 p (tB 91 p (tB 92 p (tB 93 p (tL 93 p (.if_icmp .eq 7) 100) (tL 92 p (.iconst (-1)) 0)) (tL 91 p (.iload_n 2) 0)) (tB 90 p (tL 90 p (.aload_n 0) 0) (tL 87 p (.putfield 83) 18))) (tB 83 p (tB 86 p (tL 86 p (.iconst 0) 0) (tL 83 p (.goto 4) 87)) (tB 82 p (tL 82 p .iaload 0) (tL 81 p (.iload_n 1) 0)))) (tB 70 p (tB 74 p (tB 77 p (tB 78 p (tL 78 p (.getfield 45) 11) (tL 77 p (.aload_n 0) 0)) (tL 74 p (.ifCond .eq 12) 86)) (tB 71 p (tL 71 p (.getfield 79) 17) (tL 70 p (.aload_n 0) 0))) (tB 66 p (tB 69 p (tL 69 p (.aload_n 0) 0) (tL 66 p (.putfield 79) 17)) (tB 65 p (tL 65 p (.iconst 0) 0) (tL 62 p (.goto 4) 66)))))) (tB 32 p (tB 47 p (tB 55 p (tB 57 p (tB 58 p (tB 61 p (tL 61 p (.iconst 1) 0) (tL 58 p (.if_icmp .eq 7) 65)) (tL 57 p (.iconst (-1)) 0)) (tB 56 p (tL 56 p (.iload_n 1) 0) (tL 55 p (.aload_n 0) 0))) (tB 50 p (tB 53 p (tB 54 p (tL 54 p .ireturn 0) (tL 53 p (.iconst 0) 0)) (tL 50 p (.if_icmp .lt 5) 55)) (tB 48 p (tL 48 p (.iload 4) 0) (tL 47 p (.iload_n 2) 0)))) (tB 38 p (tB 40 p (tB 43 p (tB 44 p (tL 44 p (.ifCond .lt 9) 53) (tL 43 p (.iload_n 2) 0)) (tL 40 p (.if_icmp .eq 15) 55)) (tB 39 p (tL 39 p (.iconst (-1)) 0) (tL 38 p (.iload_n 2) 0))) (tB 36 p (tB 37 p (tL 37 p .ireturn 0) (tL 36 p (.iconst 0) 0)) (tB 33 p (tL 33 p (.if_icmp .lt 5) 38) (tL 32 p (.iload_n 3) 0))))) (tB 15 p (tB 23 p (tB 27 p (tB 28 p (tB 31 p (tL 31 p (.iload_n 1) 0) (tL 28 p (.ifCond .lt 8) 36)) (tL 27 p (.iload_n 1) 0)) (tB 24 p (tL 24 p (.if_icmp .eq 14) 38) (tL 23 p (.iconst (-1)) 0))) (tB 20 p (tB 22 p (tL 22 p (.iload_n 1) 0) (tL 20 p (.istore 4) 0)) (tB 17 p (tL 17 p (.invokevirtual 71) 8) (tL 15 p (.bipush 32) 0)))) (tB 6 p (tB 10 p (tB 11 p (tB 12 p (tL 12 p (.getfield 21) 3) (tL 11 p (.aload_n 0) 0)) (tL 10 p (.aload_n 0) 0)) (tB 9 p (tL 9 p (.istore_n 3) 0) (tL 6 p (.invokevirtual 71) 8))) (tB 2 p (tB 5 p (tL 5 p (.iconst 0) 0) (tL 2 p (.getfield 17) 2)) (tB 1 p (tL 1 p (.aload_n 0) 0) (tL 0 p (.aload_n 0) 0)))))))
set_option maxHeartbeats 4000000 in
def cd14 (p : Nat) : Option (Instr × Nat) := (tB 84 p (tB 133 p (tB 158 p (tB 168 p (tB 174 p (tB 177 p (tB 180 p (tL 180 p .return_ 0) (tL 177 p (.putfield 96) 15)) (tL 174 p (.invokevirtual 113) 15)) (tB 170 p (tB 172 p (tL 172 p (.iload 8) 0) (tL 170 p (.iload 7) 0)) (tL 168 p (.iload 5) 0))) (tB 164 p (tB 165 p (tB 166 p (tL 166 p (.iload 6) 0) (tL 165 p (.aload_n 0) 0)) (tL 164 p (.aload_n 0) 0)) (tB 159 p (tB 161 p (tL 161 p (.putfield 99) 16) (tL 159 p (.iload 6) 0)) (tL 158 p (.aload_n 0) 0)))) (tB 144 p (tB 149 p (tB 152 p (tB 155 p (tL 155 p (.goto (-140)) 15) (tL 152 p (.iinc 9 1) 0)) (tL 149 p (.iinc 6 1) 0)) (tB 146 p (tB 147 p (tL 147 p (.istore 5) 0) (tL 146 p .iadd 0)) (tL 144 p (.iload 11) 0))) (tB 138 p (tB 140 p (tB 142 p (tL 142 p (.iload 5) 0) (tL 140 p (.istore 8) 0)) (tL 138 p (.iload 11) 0)) (tB 135 p (tL 135 p (.if_icmp .le 7) 142) (tL 133 p (.iload 8) 0))))) (tB 106 p (tB 120 p (tB 127 p (tB 129 p (tB 131 p (tL 131 p (.iload 11) 0) (tL 129 p (.istore 7) 0)) (tL 127 p (.iload 11) 0)) (tB 122 p (tB 124 p (tL 124 p (.if_icmp .ge 7) 131) (tL 122 p (.iload 7) 0)) (tL 120 p (.iload 11) 0))) (tB 113 p (tB 115 p (tB 117 p (tL 117 p (.goto 25) 142) (tL 115 p (.istore 8) 0)) (tL 113 p (.iload 11) 0)) (tB 109 p (tB 111 p (tL 111 p (.istore 7) 0) (tL 109 p (.iload 11) 0)) (tL 106 p (.ifCond .ne 14) 120)))) (tB 96 p (tB 101 p (tB 102 p (tB 104 p (tL 104 p (.iload 6) 0) (tL 102 p (.istore 11) 0)) (tL 101 p .iaload 0)) (tB 97 p (tB 100 p (tL 100 p .iadd 0) (tL 97 p (.getfield 24) 4)) (tL 96 p (.aload_n 0) 0))) (tB 90 p (tB 91 p (tB 94 p (tL 94 p (.iload 10) 0) (tL 91 p (.getfield 7) 0)) (tL 90 p (.aload_n 0) 0)) (tB 87 p (tL 87 p (.goto 65) 152) (tL 84 p (.if_icmp .eq 6) 90)))))) (tB 41 p (tB 60 p (tB 74 p (tB 80 p (tB 81 p (tB 82 p (tL 82 p (.iload 4) 0) (tL 81 p .iaload 0)) (tL 80 p .iadd 0)) (tB 76 p (tB 77 p (tL 77 p (.getfield 21) 3) (tL 76 p (.aload_n 0) 0)) (tL 74 p (.iload 10) 0))) (tB 67 p (tB 70 p (tB 71 p (tL 71 p (.getfield 7) 0) (tL 70 p (.aload_n 0) 0)) (tL 67 p (.ifCond .eq 23) 90)) (tB 63 p (tB 66 p (tL 66 p (.iload_n 3) 0) (tL 63 p (.goto 89) 152)) (tL 60 p (.if_icmp .eq 6) 66)))) (tB 51 p (tB 57 p (tB 58 p (tB 59 p (tL 59 p (.iload_n 2) 0) (tL 58 p .iaload 0)) (tL 57 p .iadd 0)) (tB 53 p (tB 54 p (tL 54 p (.getfield 17) 2) (tL 53 p (.aload_n 0) 0)) (tL 51 p (.iload 10) 0))) (tB 44 p (tB 47 p (tB 48 p (tL 48 p (.getfield 7) 0) (tL 47 p (.aload_n 0) 0)) (tL 44 p (.ifCond .eq 22) 66)) (tB 43 p (tL 43 p (.iload_n 1) 0) (tL 41 p (.istore 10) 0))))) (tB 17 p (tB 30 p (tB 37 p (tB 39 p (tB 40 p (tL 40 p .imul 0) (tL 39 p (.iconst 4) 0)) (tL 37 p (.iload 9) 0)) (tB 31 p (tB 34 p (tL 34 p (.goto 118) 152) (tL 31 p (.ifCond .ne 6) 37)) (tL 30 p .baload 0))) (tB 24 p (tB 25 p (tB 28 p (tL 28 p (.iload 9) 0) (tL 25 p (.getfield 13) 1)) (tL 24 p (.aload_n 0) 0)) (tB 18 p (tB 21 p (tL 21 p (.if_icmp .ge 137) 158) (tL 18 p (.getfield 48) 12)) (tL 17 p (.aload_n 0) 0)))) (tB 7 p (tB 12 p (tB 13 p (tB 15 p (tL 15 p (.iload 9) 0) (tL 13 p (.istore 9) 0)) (tL 12 p (.iconst 0) 0)) (tB 9 p (tB 10 p (tL 10 p (.istore 8) 0) (tL 9 p (.iconst 0) 0)) (tL 7 p (.istore 7) 0))) (tB 3 p (tB 4 p (tB 6 p (tL 6 p (.iconst 0) 0) (tL 4 p (.istore 6) 0)) (tL 3 p (.iconst 0) 0)) (tB 1 p (tL 1 p (.istore 5) 0) (tL 0 p (.iconst 0) 0)))))))
set_option maxHeartbeats 4000000 in
def cd15 (p : Nat) : Option (Instr × Nat) := (tB 20 p (tB 30 p (tB 36 p (tB 37 p (tB 38 p (tL 38 p .ireturn 0) (tL 37 p (.iload_n 2) 0)) (tL 36 p .ireturn 0)) (tB 31 p (tB 34 p (tL 34 p (.iload 4) 0) (tL 31 p (.if_icmp .ne 6) 37)) (tL 30 p (.iconst 3) 0))) (tB 25 p (tB 26 p (tB 27 p (tL 27 p (.getfield 27) 5) (tL 26 p (.aload_n 0) 0)) (tL 25 p .ireturn 0)) (tB 21 p (tB 24 p (tL 24 p (.iload_n 3) 0) (tL 21 p (.if_icmp .ne 5) 26)) (tL 20 p (.iconst 2) 0)))) (tB 10 p (tB 15 p (tB 16 p (tB 17 p (tL 17 p (.getfield 27) 5) (tL 16 p (.aload_n 0) 0)) (tL 15 p .ireturn 0)) (tB 11 p (tB 14 p (tL 14 p (.iload_n 1) 0) (tL 11 p (.if_icmp .ne 5) 16)) (tL 10 p (.iconst 1) 0))) (tB 5 p (tB 6 p (tB 7 p (tL 7 p (.getfield 27) 5) (tL 6 p (.aload_n 0) 0)) (tL 5 p .ireturn 0)) (tB 1 p (tB 4 p (tL 4 p (.iconst 0) 0) (tL 1 p (.ifCond .ne 5) 6)) (tL 0 p (.iload_n 1) 0)))))
set_option maxHeartbeats 4000000 in
def cd16 (p : Nat) : Option (Instr × Nat) := (tB 16 p (tB 25 p (tB 31 p (tB 32 p (tB 35 p (tL 35 p .ireturn 0) (tL 32 p (.getfield 99) 16)) (tL 31 p (.aload_n 0) 0)) (tB 28 p (tL 28 p (.invokevirtual 92) 14) (tL 25 p (.getfield 89) 20))) (tB 20 p (tB 21 p (tB 24 p (tL 24 p (.aload_n 0) 0) (tL 21 p (.getfield 86) 19)) (tL 20 p (.aload_n 0) 0)) (tB 17 p (tL 17 p (.getfield 83) 18) (tL 16 p (.aload_n 0) 0)))) (tB 9 p (tB 11 p (tB 12 p (tB 13 p (tL 13 p (.getfield 79) 17) (tL 12 p (.aload_n 0) 0)) (tL 11 p (.aload_n 0) 0)) (tB 10 p (tL 10 p .ireturn 0) (tL 9 p (.iconst 0) 0))) (tB 2 p (tB 3 p (tB 6 p (tL 6 p (.ifCond .ne 5) 11) (tL 3 p (.invokevirtual 75) 13)) (tL 2 p (.iload_n 2) 0)) (tB 1 p (tL 1 p (.iload_n 1) 0) (tL 0 p (.aload_n 0) 0)))))
set_option maxHeartbeats 4000000 in
def cd17 (p : Nat) : Option (Instr × Nat) := (tB 25 p (tB 34 p (tB 40 p (tB 43 p (tB 44 p (tL 44 p .ireturn 0) (tL 43 p (.iconst 1) 0)) (tB 42 p (tL 42 p .iastore 0) (tL 40 p (.iload 4) 0))) (tB 36 p (tB 39 p (tL 39 p (.iload_n 1) 0) (tL 36 p (.getfield 36) 8)) (tB 35 p (tL 35 p (.aload_n 0) 0) (tL 34 p .iastore 0)))) (tB 28 p (tB 32 p (tB 33 p (tL 33 p (.iload_n 3) 0) (tL 32 p (.iload_n 1) 0)) (tB 29 p (tL 29 p (.getfield 33) 7) (tL 28 p (.aload_n 0) 0))) (tB 26 p (tB 27 p (tL 27 p .iastore 0) (tL 26 p (.iload_n 2) 0)) (tL 25 p (.iload_n 1) 0)))) (tB 11 p (tB 19 p (tB 21 p (tB 22 p (tL 22 p (.getfield 30) 6) (tL 21 p (.aload_n 0) 0)) (tB 20 p (tL 20 p .ireturn 0) (tL 19 p (.iconst 0) 0))) (tB 15 p (tB 16 p (tL 16 p (.if_icmp .le 5) 21) (tL 15 p (.iconst 4) 0)) (tB 14 p (tL 14 p (.iload_n 2) 0) (tL 11 p (.ifCond .lt 8) 19)))) (tB 5 p (tB 9 p (tB 10 p (tL 10 p (.iload_n 2) 0) (tL 9 p .ireturn 0)) (tB 8 p (tL 8 p (.iconst 0) 0) (tL 5 p (.ifCond .ne 5) 10))) (tB 1 p (tB 2 p (tL 2 p (.invokevirtual 102) 18) (tL 1 p (.iload_n 1) 0)) (tL 0 p (.aload_n 0) 0)))))
set_option maxHeartbeats 4000000 in
def cd18 (p : Nat) : Option (Instr × Nat) := (tB 9 p (tB 13 p (tB 16 p (tB 17 p (tL 17 p .ireturn 0) (tL 16 p (.iconst 0) 0)) (tL 13 p (.goto 4) 17)) (tB 12 p (tL 12 p (.iconst 1) 0) (tL 9 p (.if_icmp .ge 7) 16))) (tB 4 p (tB 5 p (tB 6 p (tL 6 p (.getfield 51) 13) (tL 5 p (.aload_n 0) 0)) (tL 4 p (.iload_n 1) 0)) (tB 1 p (tL 1 p (.ifCond .lt 15) 16) (tL 0 p (.iload_n 1) 0))))
set_option maxHeartbeats 4000000 in
def cd19 (p : Nat) : Option (Instr × Nat) := (tB 10 p (tB 15 p (tB 16 p (tB 19 p (tL 19 p .ireturn 0) (tL 16 p (.getfield 96) 15)) (tL 15 p (.aload_n 0) 0)) (tB 11 p (tB 12 p (tL 12 p (.invokevirtual 105) 5) (tL 11 p (.iload_n 1) 0)) (tL 10 p (.aload_n 0) 0))) (tB 5 p (tB 8 p (tB 9 p (tL 9 p .ireturn 0) (tL 8 p (.iconst 0) 0)) (tL 5 p (.ifCond .ne 5) 10)) (tB 1 p (tB 2 p (tL 2 p (.invokevirtual 102) 18) (tL 1 p (.iload_n 1) 0)) (tL 0 p (.aload_n 0) 0))))
set_option maxHeartbeats 4000000 in
def cd20 (p : Nat) : Option (Instr × Nat) := (tB 12 p (tB 22 p (tB 26 p (tB 27 p (tL 27 p .ireturn 0) (tL 26 p (.iconst 0) 0)) (tB 23 p (tL 23 p (.goto 4) 27) (tL 22 p (.iconst 1) 0))) (tB 16 p (tB 19 p (tL 19 p (.ifCond .le 7) 26) (tL 16 p (.getfield 99) 16)) (tB 15 p (tL 15 p (.aload_n 0) 0) (tL 12 p (.invokevirtual 105) 5)))) (tB 8 p (tB 10 p (tB 11 p (tL 11 p (.iload_n 1) 0) (tL 10 p (.aload_n 0) 0)) (tB 9 p (tL 9 p .ireturn 0) (tL 8 p (.iconst 0) 0))) (tB 2 p (tB 5 p (tL 5 p (.ifCond .ne 5) 10) (tL 2 p (.invokevirtual 102) 18)) (tB 1 p (tL 1 p (.iload_n 1) 0) (tL 0 p (.aload_n 0) 0)))))
def pCode (m pc : Nat) : Option (Instr × Nat) := bif Nat.ble pN m then none else bif Nat.ble (pTop m) pc then none else (bif Nat.ble 10 m then (bif Nat.ble 15 m then (bif Nat.ble 18 m then (bif Nat.ble 19 m then (bif Nat.ble 20 m then cd20 pc else cd19 pc) else cd18 pc) else (bif Nat.ble 16 m then (bif Nat.ble 17 m then cd17 pc else cd16 pc) else cd15 pc)) else (bif Nat.ble 12 m then (bif Nat.ble 13 m then (bif Nat.ble 14 m then cd14 pc else cd13 pc) else cd12 pc) else (bif Nat.ble 11 m then cd11 pc else cd10 pc))) else (bif Nat.ble 5 m then (bif Nat.ble 7 m then (bif Nat.ble 8 m then (bif Nat.ble 9 m then cd9 pc else cd8 pc) else cd7 pc) else (bif Nat.ble 6 m then cd6 pc else cd5 pc)) else (bif Nat.ble 2 m then (bif Nat.ble 3 m then (bif Nat.ble 4 m then cd4 pc else cd3 pc) else cd2 pc) else (bif Nat.ble 1 m then cd1 pc else cd0 pc))))
def lkF : List (Nat × Nat × Nat) := [(1, 7, 0), (1, 13, 1), (1, 17, 2), (1, 21, 3), (1, 24, 4), (1, 27, 5), (1, 30, 6), (1, 33, 7), (1, 36, 8), (1, 39, 9), (1, 42, 10), (1, 45, 11), (1, 48, 12), (1, 51, 13), (1, 54, 14), (1, 96, 15), (1, 99, 16), (1, 79, 17), (1, 83, 18), (1, 86, 19), (1, 89, 20)]
def lkN : List (Nat × Nat) := [(0, 7)]
def lkC : List (Nat × Nat × Nat) := []
def lkD : List (Nat × Nat × Nat) := []
def lkV : List (Nat × Nat × Nat) := [(0, 9, 1), (0, 12, 2), (1, 57, 3), (1, 61, 4), (1, 105, 5), (1, 64, 6), (0, 16, 7), (1, 71, 8), (1, 109, 9), (0, 20, 10), (0, 23, 11), (0, 27, 12), (1, 75, 13), (1, 92, 14), (1, 113, 15), (0, 31, 16), (0, 34, 17), (1, 102, 18), (0, 38, 19), (0, 41, 20)]
def lkO : List (Nat × Nat) := [(1, 1)]
def mV : List Nat := [2, 7, 10, 11, 12, 16, 17, 19, 20]
def mP : List Nat := [3, 4, 5, 6, 8, 9, 13, 14, 15, 18]
def mS : List Nat := []
def mI : List Nat := [1]
def mA : List Nat := [1, 2, 3, 4, 5, 6, 7, 8, 9, 10, 11, 12, 13, 14, 15, 16, 17, 18, 19, 20]
def aTys : List FieldType := [.int, .boolean]
abbrev QCell := List Value ⊕ ((FieldType × List Int32) ⊕ List Int64)
abbrev QHeap := List QCell
abbrev QLoc := List (Option Value)
abbrev vI (x : Int32) : Option Value := some (.int x)
abbrev vR (a : Addr) : Option Value := some (.ref a)
abbrev vL (x : Int64) : Option Value := some (.long x)
abbrev QSt := Nat × QLoc × List Value × QHeap
def qv (ad : Nat → Addr) : Value → Value
 | .ref k => .ref (ad k)
 | v => v
def qsz : QCell → Nat
 | .inl _ => cN
 | .inr (.inl x) => x.2.length
 | .inr (.inr x) => x.length
def qhs : QHeap → Nat
 | [] => 0
 | c :: t => qsz c + qhs t
def aget {α : Type} (xs : List α) (j : Int32) : Option α := if j < 0 then none else xs[j.toNatClampNeg]?
def aset {α : Type} (xs : List α) (j : Int32) (v : α) : Option (List α) := if j < 0 then none else if j.toNatClampNeg < xs.length then some (xs.set j.toNatClampNeg v) else none
def qnew (n : Int32) : Option Nat := if n < 0 then none else if n.toNatClampNeg ≤ 67108864 then some n.toNatClampNeg else none
def qdiv (x y : Int32) : Option Int32 := if y = 0 then none else some (x / y)
def qrem (x y : Int32) : Option Int32 := if y = 0 then none else some (x % y)
def qboo (x : Int32) : Option Int32 := if x = 0 then some x else if x = 1 then some x else none
def lget : QLoc → Nat → Option Value
 | [], _ => none
 | v :: _, 0 => v
 | _ :: t, k + 1 => lget t k
def hget : QHeap → Nat → Option QCell
 | [], _ => none
 | v :: _, 0 => some v
 | _ :: t, k + 1 => hget t k
def vget : List Value → Nat → Option Value
 | [], _ => none
 | v :: _, 0 => some v
 | _ :: t, k + 1 => vget t k
def lkill (L : QLoc) : Nat → QLoc
 | 0 => L
 | k + 1 => match lget L k with
  | some (.long _) => L.set k none
  | some (.double _) => L.set k none
  | _ => L
def lput (L : QLoc) (k : Nat) (v : Value) : Option QLoc :=
 match v with
 | .long x => bif Nat.ble (k + 2) L.length then some (((lkill L k).set k (some (.long x))).set (k + 1) none) else none
 | .double _ => none
 | v => bif Nat.ble (k + 1) L.length then some ((lkill L k).set k (some v)) else none
def qload (pc : Nat) (L : QLoc) (S : List Value) (σ : QHeap) (k : Nat) (ok : Value → Bool) : Option QSt :=
 match lget L k with
 | some v => bif ok v then some (pc, L, v :: S, σ) else none
 | none => none
def isI : Value → Bool | .int _ => true | _ => false
def isJ : Value → Bool | .long _ => true | _ => false
def isR : Value → Bool | .ref _ => true | _ => false
def qstore (pc : Nat) (L : QLoc) (S : List Value) (σ : QHeap) (k : Nat) (ok : Value → Bool) : Option QSt :=
 match S with
 | v :: S' => bif ok v then (match lput L k v with | some L' => some (pc, L', S', σ) | none => none) else none
 | [] => none
def qbin (pc : Nat) (L : QLoc) (S : List Value) (σ : QHeap) (f : Int32 → Int32 → Int32) : Option QSt :=
 match S with
 | .int y :: .int x :: S' => some (pc, L, .int (f x y) :: S', σ)
 | _ => none
def qbino (pc : Nat) (L : QLoc) (S : List Value) (σ : QHeap) (f : Int32 → Int32 → Option Int32) : Option QSt :=
 match S with
 | .int y :: .int x :: S' => (f x y).bind fun z => some (pc, L, .int z :: S', σ)
 | _ => none
def qbinJ (pc : Nat) (L : QLoc) (S : List Value) (σ : QHeap) (f : Int64 → Int64 → Int64) : Option QSt :=
 match S with
 | .long y :: .long x :: S' => some (pc, L, .long (f x y) :: S', σ)
 | _ => none
def qshJ (pc : Nat) (L : QLoc) (S : List Value) (σ : QHeap) (f : Int64 → Int32 → Int64) : Option QSt :=
 match S with
 | .int y :: .long x :: S' => some (pc, L, .long (f x y) :: S', σ)
 | _ => none
def quni (pc : Nat) (L : QLoc) (S : List Value) (σ : QHeap) (f : Int32 → Value) : Option QSt :=
 match S with
 | .int x :: S' => some (pc, L, f x :: S', σ)
 | _ => none
def quniJ (pc : Nat) (L : QLoc) (S : List Value) (σ : QHeap) (f : Int64 → Value) : Option QSt :=
 match S with
 | .long x :: S' => some (pc, L, f x :: S', σ)
 | _ => none
def qald (pc : Nat) (L : QLoc) (S : List Value) (σ : QHeap) (ok : FieldType → Bool) : Option QSt :=
 match S with
 | .int j :: .ref a :: S' => (match hget σ a with
  | some (.inr (.inl x)) => bif ok x.1 then (aget x.2 j).bind fun v => some (pc, L, .int v :: S', σ) else none
  | _ => none)
 | _ => none
def qaldJ (pc : Nat) (L : QLoc) (S : List Value) (σ : QHeap) : Option QSt :=
 match S with
 | .int j :: .ref a :: S' => (match hget σ a with
  | some (.inr (.inr x)) => (aget x j).bind fun v => some (pc, L, .long v :: S', σ)
  | _ => none)
 | _ => none
def qnar : FieldType → Int32 → Int32
 | .boolean, x => x &&& 1
 | .byte, x => x.toInt8.toInt32
 | _, x => x
def qast (pc : Nat) (L : QLoc) (S : List Value) (σ : QHeap) (ok : FieldType → Bool) : Option QSt :=
 match S with
 | .int v :: .int j :: .ref a :: S' => (match hget σ a with
  | some (.inr (.inl x)) => bif ok x.1 && Nat.ble k0 a then (aset x.2 j (qnar x.1 v)).bind fun y => some (pc, L, S', σ.set a (.inr (.inl (x.1, y)))) else none
  | _ => none)
 | _ => none
def qastJ (pc : Nat) (L : QLoc) (S : List Value) (σ : QHeap) : Option QSt :=
 match S with
 | .long v :: .int j :: .ref a :: S' => (match hget σ a with
  | some (.inr (.inr x)) => bif Nat.ble k0 a then (aset x j v).bind fun y => some (pc, L, S', σ.set a (.inr (.inr y))) else none
  | _ => none)
 | _ => none
def tyI : FieldType → Bool | .int => true | _ => false
def tyB : FieldType → Bool | .boolean => true | .byte => true | _ => false
def qfit : FieldType → Value → Option Value
 | .int, .int x => some (.int x)
 | .boolean, .int x => (qboo x).bind fun y => some (.int y)
 | .long, .long x => some (.long x)
 | .array t, .ref a => some (.ref a)
 | _, _ => none
def qget (pc : Nat) (L : QLoc) (S : List Value) (σ : QHeap) (k : Nat) : Option QSt :=
 match S with
 | .ref a :: S' => (match hget σ a with
  | some (.inl vs) => (match vget vs k with | some v => some (pc, L, v :: S', σ) | none => none)
  | _ => none)
 | _ => none
def qput (pc : Nat) (L : QLoc) (S : List Value) (σ : QHeap) (k : Nat) : Option QSt :=
 match S with
 | v :: .ref a :: S' => (match hget σ a with
  | some (.inl vs) => bif Nat.ble k0 a && Nat.ble (k + 1) vs.length then (qfit (fTy k) v).bind fun w => some (pc, L, S', σ.set a (.inl (vs.set k w))) else none
  | _ => none)
 | _ => none
def qnewA (pc : Nat) (L : QLoc) (S : List Value) (σ : QHeap) (t : ArrayType) : Option QSt :=
 match S with
 | .int n :: S' => (match t with
  | .int => (qnew n).bind fun k => some (pc, L, .ref σ.length :: S', σ ++ [.inr (.inl (.int, List.replicate k 0))])
  | .boolean => (qnew n).bind fun k => some (pc, L, .ref σ.length :: S', σ ++ [.inr (.inl (.boolean, List.replicate k 0))])
  | .byte => (qnew n).bind fun k => some (pc, L, .ref σ.length :: S', σ ++ [.inr (.inl (.byte, List.replicate k 0))])
  | .long => (qnew n).bind fun k => some (pc, L, .ref σ.length :: S', σ ++ [.inr (.inr (List.replicate k 0))])
  | _ => none)
 | _ => none
def qlen (pc : Nat) (L : QLoc) (S : List Value) (σ : QHeap) : Option QSt :=
 match S with
 | .ref a :: S' => (match hget σ a with
  | some (.inr (.inl x)) => some (pc, L, .int x.2.length.toInt32 :: S', σ)
  | some (.inr (.inr x)) => some (pc, L, .int x.length.toInt32 :: S', σ)
  | _ => none)
 | _ => none
def qdup (pc : Nat) (L : QLoc) (S : List Value) (σ : QHeap) : Option QSt :=
 match S with
 | .int x :: S' => some (pc, L, .int x :: .int x :: S', σ)
 | .ref x :: S' => some (pc, L, .ref x :: .ref x :: S', σ)
 | _ => none
def qdup2 (pc : Nat) (L : QLoc) (S : List Value) (σ : QHeap) : Option QSt :=
 match S with
 | .int x :: .ref y :: S' => some (pc, L, .int x :: .ref y :: .int x :: .ref y :: S', σ)
 | .int x :: .int y :: S' => some (pc, L, .int x :: .int y :: .int x :: .int y :: S', σ)
 | .long x :: S' => some (pc, L, .long x :: .long x :: S', σ)
 | _ => none
def qpop (pc : Nat) (L : QLoc) (S : List Value) (σ : QHeap) : Option QSt :=
 match S with
 | .int _ :: S' => some (pc, L, S', σ)
 | .ref _ :: S' => some (pc, L, S', σ)
 | _ => none
def qif (pc : Nat) (L : QLoc) (S : List Value) (σ : QHeap) (cd : ClassFile.Cond) (tgt : Nat) : Option QSt :=
 match S with
 | .int x :: S' => some (bif ifCond.holds cd x then tgt else pc, L, S', σ)
 | _ => none
def qicmp (pc : Nat) (L : QLoc) (S : List Value) (σ : QHeap) (cd : ClassFile.Cond) (tgt : Nat) : Option QSt :=
 match S with
 | .int y :: .int x :: S' => some (bif if_icmp.holds cd x y then tgt else pc, L, S', σ)
 | _ => none
def qinc (pc : Nat) (L : QLoc) (S : List Value) (σ : QHeap) (k : Nat) (i : Int) : Option QSt :=
 match lget L k with
 | some (.int x) => (match lput L k (.int (x + Int32.ofInt i)) with | some L' => some (pc, L', S, σ) | none => none)
 | _ => none
def qldc (pc : Nat) (L : QLoc) (S : List Value) (σ : QHeap) (k : Nat) : Option QSt :=
 match vget cK k with
 | some v => some (pc, L, v :: S, σ)
 | none => none
def qexec (pc : Nat) (L : QLoc) (S : List Value) (σ : QHeap) (aux : Nat) : Instr → Option QSt
 | .aload_n k => qload (pc + 1) L S σ k.val isR
 | .aload k => qload (pc + 2) L S σ k isR
 | .iload_n k => qload (pc + 1) L S σ k.val isI
 | .iload k => qload (pc + 2) L S σ k isI
 | .lload_n k => qload (pc + 1) L S σ k.val isJ
 | .lload k => qload (pc + 2) L S σ k isJ
 | .iconst i => some (pc + 1, L, .int (Int32.ofInt i) :: S, σ)
 | .bipush i => some (pc + 2, L, .int (Int8.ofInt i).toInt32 :: S, σ)
 | .sipush i => some (pc + 3, L, .int (Int16.ofInt i).toInt32 :: S, σ)
 | .lconst k => some (pc + 1, L, .long (Int64.ofNat k.val) :: S, σ)
 | .ldc _ => qldc (pc + 2) L S σ aux
 | .ldc2_w _ => qldc (pc + 3) L S σ aux
 | .istore_n k => qstore (pc + 1) L S σ k.val isI
 | .istore k => qstore (pc + 2) L S σ k isI
 | .lstore_n k => qstore (pc + 1) L S σ k.val isJ
 | .lstore k => qstore (pc + 2) L S σ k isJ
 | .astore_n k => qstore (pc + 1) L S σ k.val isR
 | .astore k => qstore (pc + 2) L S σ k isR
 | .iinc k i => qinc (pc + 3) L S σ k i
 | .iadd => qbin (pc + 1) L S σ fun x y => x + y
 | .isub => qbin (pc + 1) L S σ fun x y => x - y
 | .imul => qbin (pc + 1) L S σ fun x y => x * y
 | .iand => qbin (pc + 1) L S σ fun x y => x &&& y
 | .ior => qbin (pc + 1) L S σ fun x y => x ||| y
 | .ixor => qbin (pc + 1) L S σ fun x y => x ^^^ y
 | .ishl => qbin (pc + 1) L S σ fun x y => x <<< (y &&& 31)
 | .ishr => qbin (pc + 1) L S σ fun x y => x >>> (y &&& 31)
 | .iushr => qbin (pc + 1) L S σ fun x y => XT.ushr x y
 | .idiv => qbino (pc + 1) L S σ qdiv
 | .irem => qbino (pc + 1) L S σ qrem
 | .ineg => quni (pc + 1) L S σ fun x => .int (-x)
 | .i2l => quni (pc + 1) L S σ fun x => .long x.toInt64
 | .i2b => quni (pc + 1) L S σ fun x => .int x.toInt8.toInt32
 | .l2i => quniJ (pc + 1) L S σ fun x => .int x.toInt32
 | .lneg => quniJ (pc + 1) L S σ fun x => .long (-x)
 | .ladd => qbinJ (pc + 1) L S σ fun x y => x + y
 | .lsub => qbinJ (pc + 1) L S σ fun x y => x - y
 | .lmul => qbinJ (pc + 1) L S σ fun x y => x * y
 | .land => qbinJ (pc + 1) L S σ fun x y => x &&& y
 | .lor => qbinJ (pc + 1) L S σ fun x y => x ||| y
 | .lxor => qbinJ (pc + 1) L S σ fun x y => x ^^^ y
 | .lshl => qshJ (pc + 1) L S σ fun x y => x <<< (y.toInt64 &&& 63)
 | .lshr => qshJ (pc + 1) L S σ fun x y => x >>> (y.toInt64 &&& 63)
 | .lushr => qshJ (pc + 1) L S σ fun x y => XT.ushrL x y
 | .lcmp => (match S with
  | .long y :: .long x :: S' => some (pc + 1, L, .int (XT.cmpL x y) :: S', σ)
  | _ => none)
 | .goto _ => some (aux, L, S, σ)
 | .ifCond cd _ => qif (pc + 3) L S σ cd aux
 | .if_icmp cd _ => qicmp (pc + 3) L S σ cd aux
 | .dup => qdup (pc + 1) L S σ
 | .dup2 => qdup2 (pc + 1) L S σ
 | .pop => qpop (pc + 1) L S σ
 | .getfield _ => qget (pc + 3) L S σ aux
 | .putfield _ => qput (pc + 3) L S σ aux
 | .iaload => qald (pc + 1) L S σ tyI
 | .baload => qald (pc + 1) L S σ tyB
 | .laload => qaldJ (pc + 1) L S σ
 | .iastore => qast (pc + 1) L S σ tyI
 | .bastore => qast (pc + 1) L S σ tyB
 | .lastore => qastJ (pc + 1) L S σ
 | .arraylength => qlen (pc + 1) L S σ
 | .newarray t => qnewA (pc + 2) L S σ t
 | .new _ => some (pc + 3, L, .ref σ.length :: S, σ ++ [.inl cDef])
 | _ => none
def qstep (m : Nat) (st : QSt) : Option QSt :=
 match pCode m st.1 with
 | some (i, aux) => qexec st.1 st.2.1 st.2.2.1 st.2.2.2 aux i
 | none => none
def qsteps (m : Nat) : Nat → QSt → Option QSt
 | 0, st => some st
 | n + 1, st => match qstep m st with | some st' => qsteps m n st' | none => none
def qentry (args : List Value) (mx : Nat) : QLoc := (args.flatMap fun v => match v with | .long x => [some (.long x), none] | .double x => [some (.double x), none] | v => [some v]) ++ List.replicate (mx - (args.map fun v => v.category).sum) none
def ilen : Instr → Nat
 | .aload _ | .iload _ | .lload _ | .istore _ | .lstore _ | .astore _ | .bipush _ | .ldc _ | .newarray _ => 2
 | .sipush _ | .ldc2_w _ | .iinc _ _ | .goto _ | .ifCond _ _ | .if_icmp _ _ | .getfield _ | .putfield _ | .new _ | .invokevirtual _ | .invokespecial _ | .invokestatic _ => 3
 | _ => 1
def qtgt (pc : Nat) (o : Int) (aux : Nat) : Bool := decide (0 ≤ (pc : Int) + o) && decide (((pc : Int) + o).toNat = aux)
def qlk (m pc : Nat) (i : Instr) (aux : Nat) : Bool :=
 match i with
 | .goto o => qtgt pc o aux
 | .ifCond _ o => qtgt pc o aux
 | .if_icmp _ o => qtgt pc o aux
 | .getfield idx => lkF.contains (pK m, idx, aux)
 | .putfield idx => lkF.contains (pK m, idx, aux) && (!fFin aux || (pK m == 1 && pNm m == "<init>"))
 | .new idx => lkN.contains (pK m, idx)
 | .newarray t => aTys.contains (newarray.typeOf t)
 | .ldc idx => lkC.contains (pK m, idx, aux)
 | .ldc2_w idx => lkD.contains (pK m, idx, aux)
 | _ => true
def qchk (m pc : Nat) (i : Instr) (aux : Nat) : Bool := decide (decode (pBytes m) pc = .ok (i, ilen i)) && qlk m pc i aux
def QCellOk (Z : State) (ad : Nat → Addr) (h : Heap) (a : Addr) : QCell → Prop
 | .inl vs => Exa Z h a cName ∧ vs.length = nF ∧ ∀ (k : Nat) (v : Value), k < nF → vget vs k = some v → Fld Z h a cName (fNm k) (fDs k) (qv ad v)
 | .inr (.inl x) => ∃ c : Cell, Arr Z h a c x.1 ∧ c.slots = (x.2.map Value.int).toArray
 | .inr (.inr x) => ∃ c : Cell, Arr Z h a c .long ∧ c.slots = (x.map Value.long).toArray
def QAd (n0 : Nat) (ad : Nat → Addr) : Prop := (∀ k, k0 ≤ k → ad k = n0 + (k - k0)) ∧ ∀ i j, ad i = ad j → i = j
def QRep (Z : State) (n0 : Nat) (ad : Nat → Addr) (h : Heap) (σ : QHeap) : Prop := k0 ≤ σ.length ∧ h.size = n0 + (σ.length - k0) ∧ ∀ k c, hget σ k = some c → QCellOk Z ad h (ad k) c
def QLocOk (ad : Nat → Addr) (L : QLoc) (C : Array Slot) : Prop :=
 L.length = C.size ∧ (∀ k v, lget L k = some v → C[k]? = some (.val (qv ad v))) ∧ (∀ k w, C[k]? = some (.val w) → w.category = 2 → C[k + 1]? = some .second) ∧ ∀ k, C[k]? = some .second → ∃ j w, k = j + 1 ∧ C[j]? = some (.val w) ∧ w.category = 2
def QW (Z : State) (a0 : Array Value) : Prop :=
 (∀ t ∈ lkF, (Cond.fieldLink (kName t.1) t.2.1 cName (fNm t.2.2) (fDs t.2.2)).before a0 Z = true) ∧
 (∀ t ∈ lkN, (Cond.classLink (kName t.1) t.2 cName).before a0 Z = true) ∧
 (∀ t ∈ lkC, ∃ v, vget cK t.2.2 = some (.int v) ∧ (Cond.constant (kName t.1) t.2.1 v).before a0 Z = true) ∧
 (∀ t ∈ lkD, ∃ v, vget cK t.2.2 = some (.long v) ∧ (Cond.constantLong (kName t.1) t.2.1 v).before a0 Z = true) ∧
 (∀ t ∈ lkV, (Cond.methodLink (kName t.1) t.2.1 (pName t.2.2)).before a0 Z = true) ∧
 (∀ t ∈ lkO, (Cond.methodLink (kName t.1) t.2 Lib.objectInit).before a0 Z = true) ∧
 (∀ m ∈ mV, (Cond.declares (pName m)).before a0 Z = true ∧ (Cond.selects cName (pName m) (pName m)).before a0 Z = true ∧ (Cond.instanceMethod (pName m)).before a0 Z = true) ∧
 (∀ m ∈ mP, (Cond.instanceMethod (pName m)).before a0 Z = true ∧ (Cond.privateMethod (pName m)).before a0 Z = true) ∧
 (∀ m ∈ mS, (Cond.static (pName m)).before a0 Z = true) ∧
 (∀ m ∈ mI, (Cond.instanceMethod (pName m)).before a0 Z = true) ∧
 (∀ m ∈ mA, (Cond.code (pName m) (pBytes m) (pMaxL m) (pRet m)).before a0 Z = true ∧ (Cond.initialized (kName (pK m))).before a0 Z = true) ∧
 (Cond.instanceMethod Lib.objectInit).before a0 Z = true ∧ (Cond.code Lib.objectInit ⟨#[0xb1]⟩ 1 none).before a0 Z = true ∧
 (∀ k, k < nF → bif fFin k then (Cond.laysFinal cName cName (fNm k) (fDs k)).before a0 Z = true else (Cond.lays cName cName (fNm k) (fDs k)).before a0 Z = true) ∧
 (Cond.instantiable cName cN).before a0 Z = true ∧ (Cond.initialized cName).before a0 Z = true ∧
 ∀ ty ∈ aTys, (Cond.arrayClass ty).before a0 Z = true
section Words
variable {Z : State} {a0 : Array Value}
theorem qw_fl (W : QW Z a0) : ∀ t ∈ lkF, (Cond.fieldLink (kName t.1) t.2.1 cName (fNm t.2.2) (fDs t.2.2)).before a0 Z = true := W.1
theorem qw_nw (W : QW Z a0) : ∀ t ∈ lkN, (Cond.classLink (kName t.1) t.2 cName).before a0 Z = true := W.2.1
theorem qw_cI (W : QW Z a0) : ∀ t ∈ lkC, ∃ v, vget cK t.2.2 = some (.int v) ∧ (Cond.constant (kName t.1) t.2.1 v).before a0 Z = true := W.2.2.1
theorem qw_cJ (W : QW Z a0) : ∀ t ∈ lkD, ∃ v, vget cK t.2.2 = some (.long v) ∧ (Cond.constantLong (kName t.1) t.2.1 v).before a0 Z = true := W.2.2.2.1
theorem qw_ml (W : QW Z a0) : ∀ t ∈ lkV, (Cond.methodLink (kName t.1) t.2.1 (pName t.2.2)).before a0 Z = true := W.2.2.2.2.1
theorem qw_mo (W : QW Z a0) : ∀ t ∈ lkO, (Cond.methodLink (kName t.1) t.2 Lib.objectInit).before a0 Z = true := W.2.2.2.2.2.1
theorem qw_vi (W : QW Z a0) : ∀ m ∈ mV, (Cond.declares (pName m)).before a0 Z = true ∧ (Cond.selects cName (pName m) (pName m)).before a0 Z = true ∧ (Cond.instanceMethod (pName m)).before a0 Z = true := W.2.2.2.2.2.2.1
theorem qw_pr (W : QW Z a0) : ∀ m ∈ mP, (Cond.instanceMethod (pName m)).before a0 Z = true ∧ (Cond.privateMethod (pName m)).before a0 Z = true := W.2.2.2.2.2.2.2.1
theorem qw_st (W : QW Z a0) : ∀ m ∈ mS, (Cond.static (pName m)).before a0 Z = true := W.2.2.2.2.2.2.2.2.1
theorem qw_ini (W : QW Z a0) : ∀ m ∈ mI, (Cond.instanceMethod (pName m)).before a0 Z = true := W.2.2.2.2.2.2.2.2.2.1
theorem qw_cod (W : QW Z a0) : ∀ m ∈ mA, (Cond.code (pName m) (pBytes m) (pMaxL m) (pRet m)).before a0 Z = true ∧ (Cond.initialized (kName (pK m))).before a0 Z = true := W.2.2.2.2.2.2.2.2.2.2.1
theorem qw_oi (W : QW Z a0) : (Cond.instanceMethod Lib.objectInit).before a0 Z = true := W.2.2.2.2.2.2.2.2.2.2.2.1
theorem qw_oc (W : QW Z a0) : (Cond.code Lib.objectInit ⟨#[0xb1]⟩ 1 none).before a0 Z = true := W.2.2.2.2.2.2.2.2.2.2.2.2.1
theorem qw_lay (W : QW Z a0) : ∀ k, k < nF → bif fFin k then (Cond.laysFinal cName cName (fNm k) (fDs k)).before a0 Z = true else (Cond.lays cName cName (fNm k) (fDs k)).before a0 Z = true := W.2.2.2.2.2.2.2.2.2.2.2.2.2.1
theorem qw_inst (W : QW Z a0) : (Cond.instantiable cName cN).before a0 Z = true := W.2.2.2.2.2.2.2.2.2.2.2.2.2.2.1
theorem qw_init (W : QW Z a0) : (Cond.initialized cName).before a0 Z = true := W.2.2.2.2.2.2.2.2.2.2.2.2.2.2.2.1
theorem qw_arr (W : QW Z a0) : ∀ ty ∈ aTys, (Cond.arrayClass ty).before a0 Z = true := W.2.2.2.2.2.2.2.2.2.2.2.2.2.2.2.2
end Words
theorem hget_eq : ∀ (σ : QHeap) k, hget σ k = σ[k]?
 | [], _ => by simp [hget]
 | _ :: _, 0 => by simp [hget]
 | _ :: t, k + 1 => by simp [hget, hget_eq t k]
theorem vget_eq : ∀ (σ : List Value) k, vget σ k = σ[k]?
 | [], _ => by simp [vget]
 | _ :: _, 0 => by simp [vget]
 | _ :: t, k + 1 => by simp [vget, vget_eq t k]
theorem lget_eq : ∀ (L : QLoc) k, lget L k = (L[k]?).getD none
 | [], _ => by simp [lget]
 | _ :: _, 0 => by simp [lget]
 | _ :: t, k + 1 => by simp [lget, lget_eq t k]
theorem lget_lt {L : QLoc} {k : Nat} {v : Value} (h : lget L k = some v) : k < L.length := by
 rw [lget_eq] at h
 rcases Nat.lt_or_ge k L.length with q | q
 ·exact q
 ·simp [List.getElem?_eq_none q] at h
theorem lget_set {L : QLoc} {k j : Nat} {o : Option Value} (hk : k < L.length) : lget (L.set k o) j = if j = k then o else lget L j := by
 simp only [lget_eq, List.getElem?_set]
 by_cases e : k = j
 ·subst e; simp [hk]
 ·simp [e, Ne.symm e]
theorem qhs_app (σ τ : QHeap) : qhs (σ ++ τ) = qhs σ + qhs τ := by
 induction σ with
 | nil => simp [qhs]
 | cons c t ih => simp [qhs, ih, Nat.add_assoc]
theorem qhs_set {σ : QHeap} {k : Nat} {c d : QCell} (h : hget σ k = some c) (hs : qsz d = qsz c) : qhs (σ.set k d) = qhs σ := by
 induction σ generalizing k with
 | nil => simp [hget] at h
 | cons x t ih =>
  cases k with
  | zero => simp only [hget, Option.some.injEq] at h; subst h; simp [qhs, hs]
  | succ k => simp only [hget] at h; simp [qhs, ih h]
theorem hget_set {σ : QHeap} {k j : Nat} {c d : QCell} (h : hget σ k = some c) : hget (σ.set k d) j = if j = k then some d else hget σ j := by
 rw [hget_eq] at h
 have hk := (List.getElem?_eq_some_iff.mp h).1
 simp only [hget_eq, List.getElem?_set]
 by_cases e : k = j
 ·subst e; simp [hk]
 ·simp [e, Ne.symm e]
theorem lkill_len (L : QLoc) (k : Nat) : (lkill L k).length = L.length := by
 cases k with
 | zero => rfl
 | succ k => simp only [lkill]; split <;> simp
theorem lget_kill {L : QLoc} {k j : Nat} {v : Value} (h : lget (lkill L k) j = some v) : lget L j = some v ∧ (k = j + 1 → v.category ≠ 2) := by
 cases k with
 | zero => exact ⟨h, fun e => by omega⟩
 | succ k =>
  simp only [lkill] at h
  split at h
  ·rename_i x q
   rw [lget_set (lget_lt q)] at h
   split at h
   ·cases h
   ·rename_i ne; exact ⟨h, fun e => absurd (by omega) ne⟩
  ·rename_i x q
   rw [lget_set (lget_lt q)] at h
   split at h
   ·cases h
   ·rename_i ne; exact ⟨h, fun e => absurd (by omega) ne⟩
  ·rename_i q1 q2
   refine ⟨h, fun e hc => ?_⟩
   obtain rfl : j = k := by omega
   cases v with
   | long x => exact q1 _ h
   | double x => exact q2 _ h
   | _ => simp [Value.category] at hc
theorem qv_cat (ad : Nat → Addr) (v : Value) : (qv ad v).category = v.category := by cases v <;> rfl
def kA (C : Array Slot) (k j : Nat) : Prop := k = j + 1 ∧ C[k]? = some .second
def kB (C : Array Slot) (k j : Nat) : Prop := j = k + 1 ∧ ∃ u, C[k]? = some (.val u) ∧ u.category = 2
def kD (C : Array Slot) (k j : Nat) : Prop := j = k + 2 ∧ ∃ u, C[k + 1]? = some (.val u) ∧ u.category = 2
theorem set1_at {C D : Array Slot} {k : Nat} {w : Value} (hk : k < C.size) (hw : w.category = 1) (h : storeLocals C k w = some D) :
  D.size = C.size ∧ D[k]? = some (.val w) ∧ ∀ j, j ≠ k → (D[j]? = C[j]? ∧ ¬ kA C k j ∧ ¬ kB C k j) ∨ D[j]? = some .unset ∧ (kA C k j ∨ kB C k j) := by
 have hck : C[k]? = some C[k] := Array.getElem?_eq_getElem hk
 unfold storeLocals at h
 simp only [hck, Option.bind_eq_bind, Option.bind_some] at h
 have self : ∀ {E : Array Slot}, k < E.size → storeSelf E k w = some D → D = E.setIfInBounds k (.val w) := by
  intro E hE q
  simp only [storeSelf, setAt, hE, if_true, Option.bind_eq_bind, Option.bind_some, hw] at q
  simpa using q.symm
 split at h
 ·rename_i q
  have hk1 : k - 1 < C.size := by omega
  simp only [setAt, hk1, if_true, Option.bind_some] at h
  have e := self (by simpa using hk) h
  subst e
  refine ⟨by simp, by simp [hk], fun j hj => ?_⟩
  by_cases ej : k = j + 1
  ·refine Or.inr ⟨?_, Or.inl ⟨ej, by rw [hck, q]⟩⟩
   rw [Array.getElem?_setIfInBounds_ne (Ne.symm hj), show j = k - 1 by omega]
   simp [hk1]
  ·refine Or.inl ⟨?_, fun x => ej x.1, fun x => ?_⟩
   ·rw [Array.getElem?_setIfInBounds_ne (Ne.symm hj), Array.getElem?_setIfInBounds_ne (by omega)]
   ·obtain ⟨-, u, x1, -⟩ := x
    rw [hck, q] at x1; cases x1
 ·rename_i u q
  split at h
  ·rename_i hu
   by_cases hk1 : k + 1 < C.size
   ·simp only [setAt, hk1, if_true, Option.bind_some] at h
    have e := self (by simpa using hk) h
    subst e
    refine ⟨by simp, by simp [hk], fun j hj => ?_⟩
    by_cases ej : j = k + 1
    ·refine Or.inr ⟨?_, Or.inr ⟨ej, u, by rw [hck, q], hu⟩⟩
     rw [Array.getElem?_setIfInBounds_ne (Ne.symm hj), ej]
     simp [hk1]
    ·refine Or.inl ⟨?_, fun x => ?_, fun x => ej x.1⟩
     ·rw [Array.getElem?_setIfInBounds_ne (Ne.symm hj), Array.getElem?_setIfInBounds_ne (by omega)]
     ·obtain ⟨-, x1⟩ := x
      rw [hck, q] at x1; cases x1
   ·simp [setAt, hk1] at h
  ·rename_i hu
   have e := self hk h
   subst e
   refine ⟨by simp, by simp [hk], fun j hj => Or.inl ⟨Array.getElem?_setIfInBounds_ne (Ne.symm hj), fun x => ?_, fun x => ?_⟩⟩
   ·obtain ⟨-, x1⟩ := x
    rw [hck, q] at x1; cases x1
   ·obtain ⟨-, u', x1, x2⟩ := x
    rw [hck, q] at x1; cases x1; exact hu x2
 ·rename_i q
  have e := self hk h
  subst e
  refine ⟨by simp, by simp [hk], fun j hj => Or.inl ⟨Array.getElem?_setIfInBounds_ne (Ne.symm hj), fun x => ?_, fun x => ?_⟩⟩
  ·obtain ⟨-, x1⟩ := x
   rw [hck, q] at x1; cases x1
  ·obtain ⟨-, u', x1, x2⟩ := x
   rw [hck, q] at x1; cases x1
theorem set2_at {C D : Array Slot} {k : Nat} {w : Value} (hk : k + 1 < C.size) (hw : w.category = 2) (wf : ∀ k w, C[k]? = some (.val w) → w.category = 2 → C[k + 1]? = some .second) (h : storeLocals C k w = some D) :
  D.size = C.size ∧ D[k]? = some (.val w) ∧ D[k + 1]? = some .second ∧ ∀ j, j ≠ k → j ≠ k + 1 → (D[j]? = C[j]? ∧ ¬ kA C k j ∧ ¬ kD C k j) ∨ D[j]? = some .unset ∧ (kA C k j ∨ kD C k j) := by
 have hk0 : k < C.size := by omega
 have hck : C[k]? = some C[k] := Array.getElem?_eq_getElem hk0
 unfold storeLocals at h
 simp only [hck, Option.bind_eq_bind, Option.bind_some] at h
 have self : ∀ {E : Array Slot}, E.size = C.size → storeSelf E k w = some D → D.size = C.size ∧ D[k]? = some (.val w) ∧ D[k + 1]? = some .second ∧ ∀ j, j ≠ k → j ≠ k + 1 → (D[j]? = E[j]? ∧ ¬ kD E k j) ∨ D[j]? = some .unset ∧ kD E k j := by
  intro E hs q
  have h1 : k < E.size := by omega
  have h2 : k + 1 < E.size := by omega
  have h3 : (E.setIfInBounds k (.val w))[k + 1]? = some E[k + 1] := by rw [Array.getElem?_setIfInBounds_ne (by omega)]; exact Array.getElem?_eq_getElem h2
  simp only [storeSelf, setAt, h1, if_true, Option.bind_eq_bind, Option.bind_some, hw, h3] at q
  have plain : (¬ ∃ u, E[k + 1]? = some (.val u) ∧ u.category = 2) → some ((E.setIfInBounds k (.val w)).setIfInBounds (k + 1) .second) = some D → D.size = C.size ∧ D[k]? = some (.val w) ∧ D[k + 1]? = some .second ∧ ∀ j, j ≠ k → j ≠ k + 1 → (D[j]? = E[j]? ∧ ¬ kD E k j) ∨ D[j]? = some .unset ∧ kD E k j := by
   intro no q
   cases q
   refine ⟨by simp [hs], ?_, ?_, fun j hj hj1 => Or.inl ⟨?_, fun x => no x.2⟩⟩
   ·rw [Array.getElem?_setIfInBounds_ne (by omega)]; simp [h1]
   ·simp [h2]
   ·rw [Array.getElem?_setIfInBounds_ne (by omega), Array.getElem?_setIfInBounds_ne (by omega)]
  split at q
  ·rename_i u hu
   split at q
   ·rename_i hu2
    by_cases h5 : k + 2 < E.size
    ·simp [h5, h2] at q
     cases q
     refine ⟨by simp [hs], ?_, ?_, fun j hj hj1 => ?_⟩
     ·rw [Array.getElem?_setIfInBounds_ne (by omega), Array.getElem?_setIfInBounds_ne (by omega)]; simp [h1]
     ·simp [h2]
     ·by_cases e : j = k + 2
      ·refine Or.inr ⟨?_, e, u, by rw [Array.getElem?_eq_getElem h2, hu], hu2⟩
       rw [Array.getElem?_setIfInBounds_ne (by omega), e]
       simp [h5]
      ·refine Or.inl ⟨?_, fun x => e x.1⟩
       rw [Array.getElem?_setIfInBounds_ne (by omega), Array.getElem?_setIfInBounds_ne (by omega), Array.getElem?_setIfInBounds_ne (by omega)]
    ·simp [h5] at q
   ·rename_i hu2
    refine plain ?_ (by simpa [h2] using q)
    rintro ⟨u', x1, x2⟩
    rw [Array.getElem?_eq_getElem h2, hu] at x1; cases x1; exact hu2 x2
  ·rename_i hu
   refine plain ?_ (by simpa [h2] using q)
   rintro ⟨u', x1, x2⟩
   rw [Array.getElem?_eq_getElem h2] at x1; exact hu _ (Option.some.inj x1)
 split at h
 ·rename_i q
  have hk1 : k - 1 < C.size := by omega
  simp only [setAt, hk1, if_true, Option.bind_some] at h
  obtain ⟨e1, e2, e3, e4⟩ := self (by simp) h
  refine ⟨e1, e2, e3, fun j hj hj1 => ?_⟩
  have h6 : ∀ i, i + 1 ≠ k ∨ k = 0 → i ≠ k ∨ k ≠ 0 → (C.setIfInBounds (k - 1) Slot.unset)[i]? = C[i]? := fun i hi hi2 => Array.getElem?_setIfInBounds_ne (by omega)
  have h7 : (C.setIfInBounds (k - 1) Slot.unset)[k + 1]? = C[k + 1]? := Array.getElem?_setIfInBounds_ne (by omega)
  rcases e4 j hj hj1 with ⟨r, r'⟩ | ⟨r, r1, u, r2, r3⟩
  ·by_cases ej : k = j + 1
   ·refine Or.inr ⟨?_, Or.inl ⟨ej, by rw [hck, q]⟩⟩
    rw [r, show j = k - 1 by omega]; simp [hk1]
   ·refine Or.inl ⟨by rw [r]; exact h6 _ (by omega) (by omega), fun x => ej x.1, fun x => r' ⟨x.1, ?_⟩⟩
    rw [h7]; exact x.2
  ·exact Or.inr ⟨r, Or.inr ⟨r1, u, by rw [← h7]; exact r2, r3⟩⟩
 ·rename_i u q
  split at h
  ·rename_i hu
   simp only [setAt, hk, if_true, Option.bind_some] at h
   obtain ⟨e1, e2, e3, e4⟩ := self (by simp) h
   have hsec := wf k u (by rw [hck, q]) hu
   refine ⟨e1, e2, e3, fun j hj hj1 => ?_⟩
   rcases e4 j hj hj1 with ⟨r, r'⟩ | ⟨r, r1, u', r2, r3⟩
   ·refine Or.inl ⟨by rw [r]; exact Array.getElem?_setIfInBounds_ne (by omega), fun x => ?_, fun x => ?_⟩
    ·obtain ⟨-, x1⟩ := x
     rw [hck, q] at x1; cases x1
    ·obtain ⟨-, u', x1, x2⟩ := x
     rw [hsec] at x1; cases x1
   ·simp [hk] at r2
  ·rename_i hu
   obtain ⟨e1, e2, e3, e4⟩ := self rfl h
   refine ⟨e1, e2, e3, fun j hj hj1 => ?_⟩
   rcases e4 j hj hj1 with ⟨r, r'⟩ | ⟨r, r'⟩
   ·refine Or.inl ⟨r, fun x => ?_, r'⟩
    obtain ⟨-, x1⟩ := x
    rw [hck, q] at x1; cases x1
   ·exact Or.inr ⟨r, Or.inr r'⟩
 ·rename_i q
  obtain ⟨e1, e2, e3, e4⟩ := self rfl h
  refine ⟨e1, e2, e3, fun j hj hj1 => ?_⟩
  rcases e4 j hj hj1 with ⟨r, r'⟩ | ⟨r, r'⟩
  ·refine Or.inl ⟨r, fun x => ?_, r'⟩
   obtain ⟨-, x1⟩ := x
   rw [hck, q] at x1; cases x1
  ·exact Or.inr ⟨r, Or.inr r'⟩
theorem store_some {C : Array Slot} {k : Nat} {w : Value} (hk : k + (w.category - 1) < C.size) (hc : w.category = 1 ∨ w.category = 2) (wf : ∀ k w, C[k]? = some (.val w) → w.category = 2 → C[k + 1]? = some .second) :
  ∃ D, storeLocals C k w = some D := by
 have hk0 : k < C.size := by omega
 have hck : C[k]? = some C[k] := Array.getElem?_eq_getElem hk0
 have self : ∀ {E : Array Slot}, E.size = C.size → (∀ u, E[k + 1]? = some (.val u) → u.category = 2 → k + 2 < E.size) → ∃ D, storeSelf E k w = some D := by
  intro E hs hn
  have h1 : k < E.size := by omega
  simp only [storeSelf, setAt, h1, if_true, Option.bind_eq_bind, Option.bind_some]
  rcases hc with hc | hc
  ·exact ⟨E.setIfInBounds k (.val w), by simp [hc]⟩
  ·have h2 : k + 1 < E.size := by omega
   have h3 : (E.setIfInBounds k (.val w))[k + 1]? = some E[k + 1] := by rw [Array.getElem?_setIfInBounds_ne (by omega)]; exact Array.getElem?_eq_getElem h2
   simp only [hc, if_true, h3, Option.bind_some]
   split
   ·rename_i u hu
    split
    ·rename_i hu2
     have h5 := hn u (by rw [Array.getElem?_eq_getElem h2, hu]) hu2
     exact ⟨_, by simp [h5, h2]; rfl⟩
    ·exact ⟨_, by simp [h2]; rfl⟩
   ·exact ⟨_, by simp [h2]; rfl⟩
 have next : ∀ u, C[k + 1]? = some (.val u) → u.category = 2 → k + 2 < C.size := fun u h1 h2 => (Array.getElem?_eq_some_iff.mp (wf _ _ h1 h2)).1
 unfold storeLocals
 simp only [hck, Option.bind_eq_bind, Option.bind_some]
 split
 ·have hk1 : k - 1 < C.size := by omega
  simp only [setAt, hk1, if_true, Option.bind_some]
  refine self (by simp) fun u h1 h2 => ?_
  rw [Array.getElem?_setIfInBounds_ne (by omega)] at h1
  simpa using next u h1 h2
 ·rename_i u q
  split
  ·rename_i hu
   have h5 := (Array.getElem?_eq_some_iff.mp (wf k u (by rw [hck, q]) hu)).1
   simp only [setAt, h5, if_true, Option.bind_some]
   refine self (by simp) fun u h1 h2 => ?_
   simp [h5] at h1
  ·exact self rfl next
 ·exact self rfl next
theorem store_ok1 {ad : Nat → Addr} {L : QLoc} {C : Array Slot} {k : Nat} {v : Value} (H : QLocOk ad L C) (hv : v.category = 1) (hk : k < L.length) :
  ∃ D, storeLocals C k (qv ad v) = some D ∧ QLocOk ad ((lkill L k).set k (some v)) D ∧ D.size = C.size := by
 obtain ⟨H1, H2, H3, H4⟩ := H
 have hc : (qv ad v).category = 1 := by rw [qv_cat, hv]
 obtain ⟨D, hD⟩ := store_some (C := C) (k := k) (w := qv ad v) (by rw [hc]; omega) (Or.inl hc) H3
 obtain ⟨d1, d2, d3⟩ := set1_at (by omega) hc hD
 refine ⟨D, hD, ⟨by simp [lkill_len, H1, d1], fun j u hj => ?_, fun j w hj hw => ?_, fun j hj => ?_⟩, d1⟩
 ·rw [lget_set (by rw [lkill_len]; exact hk)] at hj
  split at hj
  ·rename_i e; cases hj; rw [e]; exact d2
  ·rename_i ne
   obtain ⟨g1, g2⟩ := lget_kill hj
   have g3 := H2 j u g1
   rcases d3 j ne with ⟨r, -, -⟩ | ⟨-, ⟨r1, r2⟩ | ⟨r1, w, r2, r3⟩⟩
   ·rw [r]; exact g3
   ·obtain ⟨i, w, z1, z2, z3⟩ := H4 k r2
    obtain rfl : i = j := by omega
    rw [g3] at z2
    cases z2
    rw [qv_cat] at z3
    exact absurd z3 (g2 r1)
   ·have := H3 k w r2 r3
    rw [← r1, g3] at this
    cases this
 ·by_cases e : j = k
  ·subst e; rw [d2] at hj; cases hj; rw [hc] at hw; cases hw
  ·rcases d3 j e with ⟨r, nA, nB⟩ | ⟨r, -⟩
   ·rw [r] at hj
    have g := H3 j w hj hw
    have e2 : j + 1 ≠ k := fun q => nA ⟨q.symm, by rw [← q]; exact g⟩
    rcases d3 (j + 1) e2 with ⟨z, -, -⟩ | ⟨-, ⟨z1, z2⟩ | ⟨z1, -⟩⟩
    ·rw [z]; exact g
    ·obtain ⟨i, u, y1, y2, y3⟩ := H4 k z2
     obtain rfl : i = j + 1 := by omega
     rw [g] at y2; cases y2
    ·omega
   ·rw [r] at hj; cases hj
 ·by_cases e : j = k
  ·subst e; rw [d2] at hj; cases hj
  ·rcases d3 j e with ⟨r, nA, nB⟩ | ⟨r, -⟩
   ·rw [r] at hj
    obtain ⟨i, w, y1, y2, y3⟩ := H4 j hj
    refine ⟨i, w, y1, ?_, y3⟩
    have ei : i ≠ k := fun q => nB ⟨by omega, w, by rw [← q]; exact y2, y3⟩
    rcases d3 i ei with ⟨z, -, -⟩ | ⟨-, ⟨z1, z2⟩ | ⟨z1, u, z2, z3⟩⟩
    ·rw [z]; exact y2
    ·omega
    ·have := H3 k u z2 z3
     rw [← z1, y2] at this; cases this
   ·rw [r] at hj; cases hj
theorem store_ok2 {ad : Nat → Addr} {L : QLoc} {C : Array Slot} {k : Nat} {x : Int64} (H : QLocOk ad L C) (hk : k + 1 < L.length) :
  ∃ D, storeLocals C k (.long x) = some D ∧ QLocOk ad (((lkill L k).set k (some (.long x))).set (k + 1) none) D ∧ D.size = C.size := by
 obtain ⟨H1, H2, H3, H4⟩ := H
 have hc : (Value.long x).category = 2 := rfl
 obtain ⟨D, hD⟩ := store_some (C := C) (k := k) (w := .long x) (by rw [hc]; omega) (Or.inr hc) H3
 obtain ⟨d1, d2, d2', d3⟩ := set2_at (by omega) hc H3 hD
 refine ⟨D, hD, ⟨by simp [lkill_len, H1, d1], fun j u hj => ?_, fun j w hj hw => ?_, fun j hj => ?_⟩, d1⟩
 ·rw [lget_set (by simp [lkill_len]; exact hk)] at hj
  split at hj
  ·cases hj
  ·rename_i ne1
   rw [lget_set (by rw [lkill_len]; omega)] at hj
   split at hj
   ·rename_i e; cases hj; rw [e]; exact d2
   ·rename_i ne
    obtain ⟨g1, g2⟩ := lget_kill hj
    have g3 := H2 j u g1
    rcases d3 j ne ne1 with ⟨r, -, -⟩ | ⟨-, ⟨r1, r2⟩ | ⟨r1, w, r2, r3⟩⟩
    ·rw [r]; exact g3
    ·obtain ⟨i, w, z1, z2, z3⟩ := H4 k r2
     obtain rfl : i = j := by omega
     rw [g3] at z2
     cases z2
     rw [qv_cat] at z3
     exact absurd z3 (g2 r1)
    ·have := H3 (k + 1) w r2 r3
     rw [show k + 1 + 1 = j by omega, g3] at this
     cases this
 ·by_cases e : j = k
  ·rw [e]; exact d2'
  ·by_cases e1 : j = k + 1
   ·rw [e1, d2'] at hj; cases hj
   ·rcases d3 j e e1 with ⟨r, nA, nB⟩ | ⟨r, -⟩
    ·rw [r] at hj
     have g := H3 j w hj hw
     have e2 : j + 1 ≠ k := fun q => nA ⟨q.symm, by rw [← q]; exact g⟩
     rcases d3 (j + 1) e2 (by omega) with ⟨z, -, -⟩ | ⟨-, ⟨z1, z2⟩ | ⟨z1, -⟩⟩
     ·rw [z]; exact g
     ·obtain ⟨i, u, y1, y2, y3⟩ := H4 k z2
      obtain rfl : i = j + 1 := by omega
      rw [g] at y2; cases y2
     ·omega
    ·rw [r] at hj; cases hj
 ·by_cases e : j = k
  ·rw [e, d2] at hj; cases hj
  ·by_cases e1 : j = k + 1
   ·exact ⟨k, _, e1, d2, hc⟩
   ·rcases d3 j e e1 with ⟨r, nA, nB⟩ | ⟨r, -⟩
    ·rw [r] at hj
     obtain ⟨i, w, y1, y2, y3⟩ := H4 j hj
     refine ⟨i, w, y1, ?_, y3⟩
     have ei : i ≠ k := fun q => e1 (by omega)
     have ei1 : i ≠ k + 1 := fun q => nB ⟨by omega, w, by rw [← q]; exact y2, y3⟩
     rcases d3 i ei ei1 with ⟨z, -, -⟩ | ⟨-, ⟨z1, z2⟩ | ⟨z1, u, z2, z3⟩⟩
     ·rw [z]; exact y2
     ·omega
     ·have := H3 (k + 1) u z2 z3
      rw [show k + 1 + 1 = i by omega, y2] at this; cases this
    ·rw [r] at hj; cases hj
theorem store_ok {ad : Nat → Addr} {L L' : QLoc} {C : Array Slot} {k : Nat} {v : Value} (H : QLocOk ad L C) (h : lput L k v = some L') :
  ∃ D, storeLocals C k (qv ad v) = some D ∧ QLocOk ad L' D ∧ D.size = C.size := by
 have one : v.category = 1 → (bif Nat.ble (k + 1) L.length then some ((lkill L k).set k (some v)) else none) = some L' → ∃ D, storeLocals C k (qv ad v) = some D ∧ QLocOk ad L' D ∧ D.size = C.size := by
  intro hv h
  cases hb : Nat.ble (k + 1) L.length with
  | false => rw [hb] at h; cases h
  | true => rw [hb] at h; cases h; exact store_ok1 H hv (Nat.le_of_ble_eq_true hb)
 cases v with
 | long x =>
  simp only [lput] at h
  cases hb : Nat.ble (k + 2) L.length with
  | false => rw [hb] at h; cases h
  | true => rw [hb] at h; cases h; exact store_ok2 H (Nat.le_of_ble_eq_true hb)
 | double x => simp [lput] at h
 | int x => exact one rfl h
 | float x => exact one rfl h
 | null => exact one rfl h
 | ref x => exact one rfl h
 | retAddr x => exact one rfl h
theorem fInj : ∀ i, i < nF → ∀ j, j < nF → fNm i = fNm j → i = j := by decide +kernel
theorem fPrs : ∀ i, i < nF → parseFieldDescriptor (fDs i) = some (fTy i) := by decide +kernel
theorem cDefs : ∀ i, i < nF → vget cDef i = some (defaultValue (fTy i)) := by decide +kernel
theorem cDefL : cDef.length = nF := by decide +kernel
theorem fDef : ∀ i, i < nF → ∀ a, defaultValue (fTy i) ≠ .ref a := by
 intro i _ a
 cases fTy i <;> simp [defaultValue]
theorem kPlain : ∀ k, k < 2 → plainName (kName k) = true := by
 intro k hk
 rcases k with _ | _ | k
 ·first | decide +kernel | (simp [kName, plainName, overriddenIn]; done)
 ·first | decide +kernel | (simp [kName, plainName, overriddenIn]; done)
 ·omega
theorem pKlt : ∀ m, m < pN → pK m < 2 := by decide +kernel
theorem pSig : ∀ m, m < pN → (parseMethodDescriptor (pDs m)).map (fun sg => sg.parameters.length) = some (pNA m) := by decide +kernel
theorem pOwn : ∀ k, k < 2 → kName k ≠ "java/lang/invoke/MethodHandle" ∧ kName k ≠ "java/lang/invoke/VarHandle" := by decide +kernel
theorem mAlt : ∀ m ∈ mA, m < pN := by decide +kernel
theorem mVlt : ∀ m ∈ mV, m ∈ mA ∧ pK m = 1 := by decide +kernel
theorem mPlt : ∀ m ∈ mP, m ∈ mA ∧ pK m = 1 := by decide +kernel
theorem mSlt : ∀ m ∈ mS, m ∈ mA := by decide +kernel
theorem mIlt : ∀ m ∈ mI, m ∈ mA ∧ pK m = 1 ∧ pNm m = "<init>" ∧ pRet m = none := by decide +kernel
theorem kOne : kName 1 = cName := rfl
def pX (m pc : Nat) : Bool := match pCode m pc with | some t => qchk m pc t.1 t.2 | none => true
set_option maxRecDepth 100000 in
set_option maxHeartbeats 4000000 in
theorem pC0_0 : ∀ q, q < 128 → pX 0 (0 + q) = true := by decide +kernel
set_option maxRecDepth 100000 in
set_option maxHeartbeats 4000000 in
theorem pC0_128 : ∀ q, q < 128 → pX 0 (128 + q) = true := by decide +kernel
set_option maxRecDepth 100000 in
set_option maxHeartbeats 4000000 in
theorem pC0_256 : ∀ q, q < 128 → pX 0 (256 + q) = true := by decide +kernel
set_option maxRecDepth 100000 in
set_option maxHeartbeats 4000000 in
theorem pC0_384 : ∀ q, q < 113 → pX 0 (384 + q) = true := by decide +kernel
theorem pCm0 (pc : Nat) (h : pc < pTop 0) : pX 0 pc = true := by
 replace h : pc < 497 := h
 by_cases h0 : pc < 128
 ·have q := pC0_0 (pc - 0) (by omega)
  rwa [show 0 + (pc - 0) = pc from by omega] at q
 by_cases h128 : pc < 256
 ·have q := pC0_128 (pc - 128) (by omega)
  rwa [show 128 + (pc - 128) = pc from by omega] at q
 by_cases h256 : pc < 384
 ·have q := pC0_256 (pc - 256) (by omega)
  rwa [show 256 + (pc - 256) = pc from by omega] at q
 have q := pC0_384 (pc - 384) (by omega)
 rwa [show 384 + (pc - 384) = pc from by omega] at q
set_option maxRecDepth 100000 in
set_option maxHeartbeats 4000000 in
theorem pC1_0 : ∀ q, q < 128 → pX 1 (0 + q) = true := by decide +kernel
set_option maxRecDepth 100000 in
set_option maxHeartbeats 4000000 in
theorem pC1_128 : ∀ q, q < 19 → pX 1 (128 + q) = true := by decide +kernel
theorem pCm1 (pc : Nat) (h : pc < pTop 1) : pX 1 pc = true := by
 replace h : pc < 147 := h
 by_cases h0 : pc < 128
 ·have q := pC1_0 (pc - 0) (by omega)
  rwa [show 0 + (pc - 0) = pc from by omega] at q
 have q := pC1_128 (pc - 128) (by omega)
 rwa [show 128 + (pc - 128) = pc from by omega] at q
set_option maxRecDepth 100000 in
set_option maxHeartbeats 4000000 in
theorem pC2_0 : ∀ q, q < 53 → pX 2 (0 + q) = true := by decide +kernel
theorem pCm2 (pc : Nat) (h : pc < pTop 2) : pX 2 pc = true := by
 replace h : pc < 53 := h
 have q := pC2_0 (pc - 0) (by omega)
 rwa [show 0 + (pc - 0) = pc from by omega] at q
set_option maxRecDepth 100000 in
set_option maxHeartbeats 4000000 in
theorem pC3_0 : ∀ q, q < 18 → pX 3 (0 + q) = true := by decide +kernel
theorem pCm3 (pc : Nat) (h : pc < pTop 3) : pX 3 pc = true := by
 replace h : pc < 18 := h
 have q := pC3_0 (pc - 0) (by omega)
 rwa [show 0 + (pc - 0) = pc from by omega] at q
set_option maxRecDepth 100000 in
set_option maxHeartbeats 4000000 in
theorem pC4_0 : ∀ q, q < 50 → pX 4 (0 + q) = true := by decide +kernel
theorem pCm4 (pc : Nat) (h : pc < pTop 4) : pX 4 pc = true := by
 replace h : pc < 50 := h
 have q := pC4_0 (pc - 0) (by omega)
 rwa [show 0 + (pc - 0) = pc from by omega] at q
set_option maxRecDepth 100000 in
set_option maxHeartbeats 4000000 in
theorem pC5_0 : ∀ q, q < 75 → pX 5 (0 + q) = true := by decide +kernel
theorem pCm5 (pc : Nat) (h : pc < pTop 5) : pX 5 pc = true := by
 replace h : pc < 75 := h
 have q := pC5_0 (pc - 0) (by omega)
 rwa [show 0 + (pc - 0) = pc from by omega] at q
set_option maxRecDepth 100000 in
set_option maxHeartbeats 4000000 in
theorem pC6_0 : ∀ q, q < 64 → pX 6 (0 + q) = true := by decide +kernel
theorem pCm6 (pc : Nat) (h : pc < pTop 6) : pX 6 pc = true := by
 replace h : pc < 64 := h
 have q := pC6_0 (pc - 0) (by omega)
 rwa [show 0 + (pc - 0) = pc from by omega] at q
set_option maxRecDepth 100000 in
set_option maxHeartbeats 4000000 in
theorem pC7_0 : ∀ q, q < 10 → pX 7 (0 + q) = true := by decide +kernel
theorem pCm7 (pc : Nat) (h : pc < pTop 7) : pX 7 pc = true := by
 replace h : pc < 10 := h
 have q := pC7_0 (pc - 0) (by omega)
 rwa [show 0 + (pc - 0) = pc from by omega] at q
set_option maxRecDepth 100000 in
set_option maxHeartbeats 4000000 in
theorem pC8_0 : ∀ q, q < 50 → pX 8 (0 + q) = true := by decide +kernel
theorem pCm8 (pc : Nat) (h : pc < pTop 8) : pX 8 pc = true := by
 replace h : pc < 50 := h
 have q := pC8_0 (pc - 0) (by omega)
 rwa [show 0 + (pc - 0) = pc from by omega] at q
set_option maxRecDepth 100000 in
set_option maxHeartbeats 4000000 in
theorem pC9_0 : ∀ q, q < 111 → pX 9 (0 + q) = true := by decide +kernel
theorem pCm9 (pc : Nat) (h : pc < pTop 9) : pX 9 pc = true := by
 replace h : pc < 111 := h
 have q := pC9_0 (pc - 0) (by omega)
 rwa [show 0 + (pc - 0) = pc from by omega] at q
set_option maxRecDepth 100000 in
set_option maxHeartbeats 4000000 in
theorem pC10_0 : ∀ q, q < 11 → pX 10 (0 + q) = true := by decide +kernel
theorem pCm10 (pc : Nat) (h : pc < pTop 10) : pX 10 pc = true := by
 replace h : pc < 11 := h
 have q := pC10_0 (pc - 0) (by omega)
 rwa [show 0 + (pc - 0) = pc from by omega] at q
set_option maxRecDepth 100000 in
set_option maxHeartbeats 4000000 in
theorem pC11_0 : ∀ q, q < 28 → pX 11 (0 + q) = true := by decide +kernel
theorem pCm11 (pc : Nat) (h : pc < pTop 11) : pX 11 pc = true := by
 replace h : pc < 28 := h
 have q := pC11_0 (pc - 0) (by omega)
 rwa [show 0 + (pc - 0) = pc from by omega] at q
set_option maxRecDepth 100000 in
set_option maxHeartbeats 4000000 in
theorem pC12_0 : ∀ q, q < 36 → pX 12 (0 + q) = true := by decide +kernel
theorem pCm12 (pc : Nat) (h : pc < pTop 12) : pX 12 pc = true := by
 replace h : pc < 36 := h
 have q := pC12_0 (pc - 0) (by omega)
 rwa [show 0 + (pc - 0) = pc from by omega] at q
set_option maxRecDepth 100000 in
set_option maxHeartbeats 4000000 in
theorem pC13_0 : ∀ q, q < 128 → pX 13 (0 + q) = true := by decide +kernel
set_option maxRecDepth 100000 in
set_option maxHeartbeats 4000000 in
theorem pC13_128 : ∀ q, q < 2 → pX 13 (128 + q) = true := by decide +kernel
theorem pCm13 (pc : Nat) (h : pc < pTop 13) : pX 13 pc = true := by
 replace h : pc < 130 := h
 by_cases h0 : pc < 128
 ·have q := pC13_0 (pc - 0) (by omega)
  rwa [show 0 + (pc - 0) = pc from by omega] at q
 have q := pC13_128 (pc - 128) (by omega)
 rwa [show 128 + (pc - 128) = pc from by omega] at q
set_option maxRecDepth 100000 in
set_option maxHeartbeats 4000000 in
theorem pC14_0 : ∀ q, q < 128 → pX 14 (0 + q) = true := by decide +kernel
set_option maxRecDepth 100000 in
set_option maxHeartbeats 4000000 in
theorem pC14_128 : ∀ q, q < 53 → pX 14 (128 + q) = true := by decide +kernel
theorem pCm14 (pc : Nat) (h : pc < pTop 14) : pX 14 pc = true := by
 replace h : pc < 181 := h
 by_cases h0 : pc < 128
 ·have q := pC14_0 (pc - 0) (by omega)
  rwa [show 0 + (pc - 0) = pc from by omega] at q
 have q := pC14_128 (pc - 128) (by omega)
 rwa [show 128 + (pc - 128) = pc from by omega] at q
set_option maxRecDepth 100000 in
set_option maxHeartbeats 4000000 in
theorem pC15_0 : ∀ q, q < 39 → pX 15 (0 + q) = true := by decide +kernel
theorem pCm15 (pc : Nat) (h : pc < pTop 15) : pX 15 pc = true := by
 replace h : pc < 39 := h
 have q := pC15_0 (pc - 0) (by omega)
 rwa [show 0 + (pc - 0) = pc from by omega] at q
set_option maxRecDepth 100000 in
set_option maxHeartbeats 4000000 in
theorem pC16_0 : ∀ q, q < 36 → pX 16 (0 + q) = true := by decide +kernel
theorem pCm16 (pc : Nat) (h : pc < pTop 16) : pX 16 pc = true := by
 replace h : pc < 36 := h
 have q := pC16_0 (pc - 0) (by omega)
 rwa [show 0 + (pc - 0) = pc from by omega] at q
set_option maxRecDepth 100000 in
set_option maxHeartbeats 4000000 in
theorem pC17_0 : ∀ q, q < 45 → pX 17 (0 + q) = true := by decide +kernel
theorem pCm17 (pc : Nat) (h : pc < pTop 17) : pX 17 pc = true := by
 replace h : pc < 45 := h
 have q := pC17_0 (pc - 0) (by omega)
 rwa [show 0 + (pc - 0) = pc from by omega] at q
set_option maxRecDepth 100000 in
set_option maxHeartbeats 4000000 in
theorem pC18_0 : ∀ q, q < 18 → pX 18 (0 + q) = true := by decide +kernel
theorem pCm18 (pc : Nat) (h : pc < pTop 18) : pX 18 pc = true := by
 replace h : pc < 18 := h
 have q := pC18_0 (pc - 0) (by omega)
 rwa [show 0 + (pc - 0) = pc from by omega] at q
set_option maxRecDepth 100000 in
set_option maxHeartbeats 4000000 in
theorem pC19_0 : ∀ q, q < 20 → pX 19 (0 + q) = true := by decide +kernel
theorem pCm19 (pc : Nat) (h : pc < pTop 19) : pX 19 pc = true := by
 replace h : pc < 20 := h
 have q := pC19_0 (pc - 0) (by omega)
 rwa [show 0 + (pc - 0) = pc from by omega] at q
set_option maxRecDepth 100000 in
set_option maxHeartbeats 4000000 in
theorem pC20_0 : ∀ q, q < 28 → pX 20 (0 + q) = true := by decide +kernel
theorem pCm20 (pc : Nat) (h : pc < pTop 20) : pX 20 pc = true := by
 replace h : pc < 28 := h
 have q := pC20_0 (pc - 0) (by omega)
 rwa [show 0 + (pc - 0) = pc from by omega] at q
theorem pChk0 : ∀ m, m < pN → ∀ pc, pc < pTop m → (match pCode m pc with | some t => qchk m pc t.1 t.2 | none => true) = true := by
 intro m hm pc hp
 change pX m pc = true
 match m, hm, hp with
 | 0, _, hp => exact pCm0 pc hp
 | 1, _, hp => exact pCm1 pc hp
 | 2, _, hp => exact pCm2 pc hp
 | 3, _, hp => exact pCm3 pc hp
 | 4, _, hp => exact pCm4 pc hp
 | 5, _, hp => exact pCm5 pc hp
 | 6, _, hp => exact pCm6 pc hp
 | 7, _, hp => exact pCm7 pc hp
 | 8, _, hp => exact pCm8 pc hp
 | 9, _, hp => exact pCm9 pc hp
 | 10, _, hp => exact pCm10 pc hp
 | 11, _, hp => exact pCm11 pc hp
 | 12, _, hp => exact pCm12 pc hp
 | 13, _, hp => exact pCm13 pc hp
 | 14, _, hp => exact pCm14 pc hp
 | 15, _, hp => exact pCm15 pc hp
 | 16, _, hp => exact pCm16 pc hp
 | 17, _, hp => exact pCm17 pc hp
 | 18, _, hp => exact pCm18 pc hp
 | 19, _, hp => exact pCm19 pc hp
 | 20, _, hp => exact pCm20 pc hp
 | m + 21, hm, _ => exact absurd hm (by unfold pN; omega)
theorem pIn {m pc : Nat} {t : Instr × Nat} (h : pCode m pc = some t) : m < pN ∧ pc < pTop m := by
 unfold pCode at h
 cases h1 : Nat.ble pN m with
 | true => rw [h1] at h; cases h
 | false =>
  cases h2 : Nat.ble (pTop m) pc with
  | true => rw [h1, h2] at h; cases h
  | false => exact ⟨Nat.lt_of_not_le (fun q => by rw [Nat.ble_eq_true_of_le q] at h1; cases h1), Nat.lt_of_not_le (fun q => by rw [Nat.ble_eq_true_of_le q] at h2; cases h2)⟩
theorem pChk {m pc : Nat} {i : Instr} {aux : Nat} (h : pCode m pc = some (i, aux)) : qchk m pc i aux = true := by
 have q := pChk0 m (pIn h).1 pc (pIn h).2
 rw [h] at q
 exact q
theorem pDec {m pc : Nat} {i : Instr} {aux : Nat} (h : pCode m pc = some (i, aux)) : decode (pBytes m) pc = .ok (i, ilen i) := by
 have q := pChk h
 unfold qchk at q
 exact of_decide_eq_true (Bool.and_eq_true_iff.mp q).1
theorem pDecN {m pc n : Nat} {i : Instr} {aux : Nat} (h : pCode m pc = some (i, aux)) (hn : ilen i = n) : decode (pBytes m) pc = .ok (i, n) := by
 rw [← hn]; exact pDec h
theorem pRest {m pc : Nat} {i : Instr} {aux : Nat} (h : pCode m pc = some (i, aux)) : qlk m pc i aux = true := by
 have q := pChk h
 unfold qchk at q
 exact (Bool.and_eq_true_iff.mp q).2
theorem qtgt_spec {pc : Nat} {o : Int} {aux : Nat} (h : qtgt pc o aux = true) : 0 ≤ (pc : Int) + o ∧ ((pc : Int) + o).toNat = aux := by
 unfold qtgt at h
 have h2 := Bool.and_eq_true_iff.mp h
 exact ⟨of_decide_eq_true h2.1, of_decide_eq_true h2.2⟩
def QCx (Z : State) (p : Program) (R : Room) (s : State) (mid : MethodId) (meth : Method) (c : Code) (m : Nat) : Prop :=
 p.tables.exec = Jvm.exec ∧ Z.Warmed39 s.vm ∧ c.code = pBytes m ∧ c.maxLocals = pMaxL m ∧ meth.sig.returnType = pRet m ∧ s.vm.findClass (kName (pK m)) = some mid.cls ∧ meth.name = pNm m ∧ pFr m ≤ R.frames ∧ pLo m ≤ R.locals
def QTri (l : Launch) (Z : State) (n0 : Nat) (ad : Nat → Addr) (m : Nat) (st : QSt) (v : Option Value) (σ' : QHeap) : Prop :=
 st.2.2.2.length ≤ σ'.length ∧ qhs st.2.2.2 ≤ qhs σ' ∧
 ∀ (p : Program) (e : Env) (R : Room) (s : State) (mid : MethodId) (args : Array Value) (below : List Frame) (meth : Method) (c : Code) (T : State) (locs : List Loc) (cells slots : Nat) (C : Array Slot),
  QCx Z p R s mid meth c m → Stand p l e R s mid args below meth c T locs cells slots → QRep Z n0 ad T.heap st.2.2.2 → Fr n0 locs → QLocOk ad st.2.1 C → C.size = c.maxLocals →
  n0 + (st.2.2.2.length - k0) = s.heap.size + cells → cells + (σ'.length - st.2.2.2.length) ≤ R.cells → slots + (qhs σ' - qhs st.2.2.2) ≤ R.slots →
  ∃ T' locs', Stand p l e R s mid args below meth c T' locs' (cells + (σ'.length - st.2.2.2.length)) (slots + (qhs σ' - qhs st.2.2.2)) ∧ QRep Z n0 ad T'.heap σ' ∧ Fr n0 locs' ∧
   ∀ fs, (∀ (f : JFrame) (acts : List Action), f.method = mid → f.locked = none → f.entered = [] → (doReturn e (T'.setTop f) acts (v.map (qv ad))).1 = T'.setFrames fs) →
    Steps p.tables e below (T.setTop (mkF mid st.1 C (st.2.2.1.map (qv ad)))) (T'.setFrames fs)
section Triples
variable {l : Launch} {Z : State} {n0 : Nat} {ad : Nat → Addr} {a0 : Array Value} {m : Nat} {v : Option Value} {σ' : QHeap}
theorem QTri.gen {st st' : QSt} (h : QTri l Z n0 ad m st' v σ') (g1 : st.2.2.2.length ≤ st'.2.2.2.length) (g2 : qhs st.2.2.2 ≤ qhs st'.2.2.2)
  (hs : ∀ (p : Program) (e : Env) (R : Room) (s : State) (mid : MethodId) (args : Array Value) (below : List Frame) (meth : Method) (c : Code) (T : State) (locs : List Loc) (cells slots : Nat) (C : Array Slot),
   QCx Z p R s mid meth c m → Stand p l e R s mid args below meth c T locs cells slots → QRep Z n0 ad T.heap st.2.2.2 → Fr n0 locs → QLocOk ad st.2.1 C → C.size = c.maxLocals →
   n0 + (st.2.2.2.length - k0) = s.heap.size + cells → cells + (st'.2.2.2.length - st.2.2.2.length) ≤ R.cells → slots + (qhs st'.2.2.2 - qhs st.2.2.2) ≤ R.slots →
   ∃ T₁ locs₁ C₁, Stand p l e R s mid args below meth c T₁ locs₁ (cells + (st'.2.2.2.length - st.2.2.2.length)) (slots + (qhs st'.2.2.2 - qhs st.2.2.2)) ∧ QRep Z n0 ad T₁.heap st'.2.2.2 ∧ Fr n0 locs₁ ∧ QLocOk ad st'.2.1 C₁ ∧ C₁.size = c.maxLocals ∧
    ∀ target, Steps p.tables e below (T₁.setTop (mkF mid st'.1 C₁ (st'.2.2.1.map (qv ad)))) target → Steps p.tables e below (T.setTop (mkF mid st.1 C (st.2.2.1.map (qv ad)))) target) :
  QTri l Z n0 ad m st v σ' := by
 obtain ⟨h1, h2, h3⟩ := h
 refine ⟨Nat.le_trans g1 h1, Nat.le_trans g2 h2, fun p e R s mid args below meth c T locs cells slots C hcx X hR hF hL hC hn hc hsl => ?_⟩
 obtain ⟨T₁, locs₁, C₁, X₁, R₁, F₁, L₁, C1, S₁⟩ := hs p e R s mid args below meth c T locs cells slots C hcx X hR hF hL hC hn (by omega) (by omega)
 have hk := hR.1
 obtain ⟨T', locs', X', R', F', S'⟩ := h3 p e R s mid args below meth c T₁ locs₁ _ _ C₁ hcx X₁ R₁ F₁ L₁ C1 (by omega) (by omega) (by omega)
 have e1 : cells + (st'.2.2.2.length - st.2.2.2.length) + (σ'.length - st'.2.2.2.length) = cells + (σ'.length - st.2.2.2.length) := by omega
 have e2 : slots + (qhs st'.2.2.2 - qhs st.2.2.2) + (qhs σ' - qhs st'.2.2.2) = slots + (qhs σ' - qhs st.2.2.2) := by omega
 rw [e1, e2] at X'
 exact ⟨T', locs', X', R', F', fun fs hf => S₁ _ (S' fs hf)⟩
theorem QTri.pure {st st' : QSt} (h : QTri l Z n0 ad m st' v σ') (hσ : st'.2.2.2 = st.2.2.2)
  (hs : ∀ (p : Program) (e : Env) (R : Room) (s : State) (mid : MethodId) (args : Array Value) (below : List Frame) (meth : Method) (c : Code) (T : State) (locs : List Loc) (cells slots : Nat) (C : Array Slot),
   QCx Z p R s mid meth c m → Stand p l e R s mid args below meth c T locs cells slots → QRep Z n0 ad T.heap st.2.2.2 → QLocOk ad st.2.1 C → C.size = c.maxLocals →
   ∃ T₁ C₁, Stand p l e R s mid args below meth c T₁ locs cells slots ∧ T₁.heap = T.heap ∧ QLocOk ad st'.2.1 C₁ ∧ C₁.size = c.maxLocals ∧
    ∀ target, Steps p.tables e below (T₁.setTop (mkF mid st'.1 C₁ (st'.2.2.1.map (qv ad)))) target → Steps p.tables e below (T.setTop (mkF mid st.1 C (st.2.2.1.map (qv ad)))) target) :
  QTri l Z n0 ad m st v σ' := by
 refine QTri.gen h (by rw [hσ]; exact Nat.le_refl _) (by rw [hσ]; exact Nat.le_refl _) fun p e R s mid args below meth c T locs cells slots C hcx X hR hF hL hC hn hc hsl => ?_
 obtain ⟨T₁, C₁, X₁, hh, L₁, C1, S₁⟩ := hs p e R s mid args below meth c T locs cells slots C hcx X hR hL hC
 refine ⟨T₁, locs, C₁, ?_, by rw [hσ, hh]; exact hR, hF, L₁, C1, S₁⟩
 rw [hσ, Nat.sub_self, Nat.sub_self]
 exact X₁
theorem QTri.frame {pc pc' : Nat} {L L' : QLoc} {S S' : List Value} {σ : QHeap} (h : QTri l Z n0 ad m (pc', L', S', σ) v σ')
  (hs : ∀ (p : Program) (e : Env) (R : Room) (s : State) (mid : MethodId) (args : Array Value) (below : List Frame) (meth : Method) (c : Code) (T : State) (locs : List Loc) (cells slots : Nat) (C : Array Slot),
   QCx Z p R s mid meth c m → Stand p l e R s mid args below meth c T locs cells slots → QRep Z n0 ad T.heap σ → QLocOk ad L C → C.size = c.maxLocals →
   ∃ C₁, QLocOk ad L' C₁ ∧ C₁.size = c.maxLocals ∧ ∀ target, Steps p.tables e below (T.setTop (mkF mid pc' C₁ (S'.map (qv ad)))) target → Steps p.tables e below (T.setTop (mkF mid pc C (S.map (qv ad)))) target) :
  QTri l Z n0 ad m (pc, L, S, σ) v σ' :=
 QTri.pure h rfl fun p e R s mid args below meth c T locs cells slots C hcx X hR hL hC => by
  obtain ⟨C₁, h1, h2, h3⟩ := hs p e R s mid args below meth c T locs cells slots C hcx X hR hL hC
  exact ⟨T, C₁, X, rfl, h1, h2, h3⟩
theorem QTri.stack {pc pc' : Nat} {L : QLoc} {S S' : List Value} {σ : QHeap} (h : QTri l Z n0 ad m (pc', L, S', σ) v σ')
  (hs : ∀ (p : Program) (e : Env) (R : Room) (s : State) (mid : MethodId) (args : Array Value) (below : List Frame) (meth : Method) (c : Code) (T : State) (locs : List Loc) (cells slots : Nat) (C : Array Slot) (target : State),
   p.tables.exec = Jvm.exec → Z.Warmed39 s.vm → c.code = pBytes m → s.vm.findClass (kName (pK m)) = some mid.cls → Stand p l e R s mid args below meth c T locs cells slots → QRep Z n0 ad T.heap σ → QLocOk ad L C →
   Steps p.tables e below (T.setTop (mkF mid pc' C (S'.map (qv ad)))) target → Steps p.tables e below (T.setTop (mkF mid pc C (S.map (qv ad)))) target) :
  QTri l Z n0 ad m (pc, L, S, σ) v σ' :=
 QTri.frame h fun p e R s mid args below meth c T locs cells slots C hcx X hR hL hC => ⟨C, hL, hC, fun target k => hs p e R s mid args below meth c T locs cells slots C target hcx.1 hcx.2.1 hcx.2.2.1 hcx.2.2.2.2.2.1 X hR hL k⟩
theorem qload_inv {pc : Nat} {L : QLoc} {S : List Value} {σ : QHeap} {k : Nat} {ok : Value → Bool} {st' : QSt} (h : qload pc L S σ k ok = some st') : ∃ v, lget L k = some v ∧ ok v = true ∧ st' = (pc, L, v :: S, σ) := by
 unfold qload at h
 split at h
 ·rename_i v hv
  cases ho : ok v with
  | true => rw [ho] at h; cases h; exact ⟨v, hv, ho, rfl⟩
  | false => rw [ho] at h; cases h
 ·cases h
theorem qstore_inv {pc : Nat} {L : QLoc} {S : List Value} {σ : QHeap} {k : Nat} {ok : Value → Bool} {st' : QSt} (h : qstore pc L S σ k ok = some st') : ∃ v S' L', S = v :: S' ∧ ok v = true ∧ lput L k v = some L' ∧ st' = (pc, L', S', σ) := by
 unfold qstore at h
 split at h
 ·rename_i v S'
  cases ho : ok v with
  | true =>
   rw [ho] at h
   simp only [cond_true] at h
   split at h
   ·rename_i L' hL'
    cases h; exact ⟨v, S', L', rfl, ho, hL', rfl⟩
   ·cases h
  | false => rw [ho] at h; cases h
 ·cases h
theorem qbin_inv {pc : Nat} {L : QLoc} {S : List Value} {σ : QHeap} {f : Int32 → Int32 → Int32} {st' : QSt} (h : qbin pc L S σ f = some st') : ∃ x y S', S = .int y :: .int x :: S' ∧ st' = (pc, L, .int (f x y) :: S', σ) := by
 unfold qbin at h
 split at h
 ·cases h; exact ⟨_, _, _, rfl, rfl⟩
 ·cases h
theorem qbino_inv {pc : Nat} {L : QLoc} {S : List Value} {σ : QHeap} {f : Int32 → Int32 → Option Int32} {st' : QSt} (h : qbino pc L S σ f = some st') : ∃ x y z S', S = .int y :: .int x :: S' ∧ f x y = some z ∧ st' = (pc, L, .int z :: S', σ) := by
 unfold qbino at h
 split at h
 ·obtain ⟨z, hz, h⟩ := Option.bind_eq_some_iff.mp h
  cases h; exact ⟨_, _, _, _, rfl, hz, rfl⟩
 ·cases h
theorem qbinJ_inv {pc : Nat} {L : QLoc} {S : List Value} {σ : QHeap} {f : Int64 → Int64 → Int64} {st' : QSt} (h : qbinJ pc L S σ f = some st') : ∃ x y S', S = .long y :: .long x :: S' ∧ st' = (pc, L, .long (f x y) :: S', σ) := by
 unfold qbinJ at h
 split at h
 ·cases h; exact ⟨_, _, _, rfl, rfl⟩
 ·cases h
theorem qshJ_inv {pc : Nat} {L : QLoc} {S : List Value} {σ : QHeap} {f : Int64 → Int32 → Int64} {st' : QSt} (h : qshJ pc L S σ f = some st') : ∃ x y S', S = .int y :: .long x :: S' ∧ st' = (pc, L, .long (f x y) :: S', σ) := by
 unfold qshJ at h
 split at h
 ·cases h; exact ⟨_, _, _, rfl, rfl⟩
 ·cases h
theorem quni_inv {pc : Nat} {L : QLoc} {S : List Value} {σ : QHeap} {f : Int32 → Value} {st' : QSt} (h : quni pc L S σ f = some st') : ∃ x S', S = .int x :: S' ∧ st' = (pc, L, f x :: S', σ) := by
 unfold quni at h
 split at h
 ·cases h; exact ⟨_, _, rfl, rfl⟩
 ·cases h
theorem quniJ_inv {pc : Nat} {L : QLoc} {S : List Value} {σ : QHeap} {f : Int64 → Value} {st' : QSt} (h : quniJ pc L S σ f = some st') : ∃ x S', S = .long x :: S' ∧ st' = (pc, L, f x :: S', σ) := by
 unfold quniJ at h
 split at h
 ·cases h; exact ⟨_, _, rfl, rfl⟩
 ·cases h
theorem qif_inv {pc : Nat} {L : QLoc} {S : List Value} {σ : QHeap} {cd : ClassFile.Cond} {t : Nat} {st' : QSt} (h : qif pc L S σ cd t = some st') : ∃ x S', S = .int x :: S' ∧ st' = (bif ifCond.holds cd x then t else pc, L, S', σ) := by
 unfold qif at h
 split at h
 ·cases h; exact ⟨_, _, rfl, rfl⟩
 ·cases h
theorem qicmp_inv {pc : Nat} {L : QLoc} {S : List Value} {σ : QHeap} {cd : ClassFile.Cond} {t : Nat} {st' : QSt} (h : qicmp pc L S σ cd t = some st') : ∃ x y S', S = .int y :: .int x :: S' ∧ st' = (bif if_icmp.holds cd x y then t else pc, L, S', σ) := by
 unfold qicmp at h
 split at h
 ·cases h; exact ⟨_, _, _, rfl, rfl⟩
 ·cases h
theorem qget_inv {pc : Nat} {L : QLoc} {S : List Value} {σ : QHeap} {k : Nat} {st' : QSt} (h : qget pc L S σ k = some st') : ∃ a S' vs v, S = .ref a :: S' ∧ hget σ a = some (.inl vs) ∧ vget vs k = some v ∧ st' = (pc, L, v :: S', σ) := by
 unfold qget at h
 split at h
 ·split at h
  ·split at h
   ·cases h; exact ⟨_, _, _, _, rfl, by assumption, by assumption, rfl⟩
   ·cases h
  ·cases h
 ·cases h
theorem qput_inv {pc : Nat} {L : QLoc} {S : List Value} {σ : QHeap} {k : Nat} {st' : QSt} (h : qput pc L S σ k = some st') : ∃ v a S' vs w, S = v :: .ref a :: S' ∧ hget σ a = some (.inl vs) ∧ k0 ≤ a ∧ k < vs.length ∧ qfit (fTy k) v = some w ∧ st' = (pc, L, S', σ.set a (.inl (vs.set k w))) := by
 unfold qput at h
 split at h
 ·rename_i v a S'
  split at h
  ·rename_i vs hvs
   cases hbb : (Nat.ble k0 a && Nat.ble (k + 1) vs.length) with
   | false => rw [hbb] at h; cases h
   | true =>
    rw [hbb] at h
    simp only [cond_true] at h
    obtain ⟨u, hu, h⟩ := Option.bind_eq_some_iff.mp h
    cases h
    obtain ⟨b1, b2⟩ := Bool.and_eq_true_iff.mp hbb
    exact ⟨v, a, S', vs, u, rfl, hvs, Nat.le_of_ble_eq_true b1, Nat.le_of_ble_eq_true b2, hu, rfl⟩
  ·cases h
 ·cases h
theorem qald_inv {pc : Nat} {L : QLoc} {S : List Value} {σ : QHeap} {ok : FieldType → Bool} {st' : QSt} (h : qald pc L S σ ok = some st') : ∃ j a S' ty xs v, S = .int j :: .ref a :: S' ∧ hget σ a = some (.inr (.inl (ty, xs))) ∧ ok ty = true ∧ aget xs j = some v ∧ st' = (pc, L, .int v :: S', σ) := by
 unfold qald at h
 split at h
 ·rename_i j a S'
  split at h
  ·rename_i x hx
   cases ht : ok x.1 with
   | false => rw [ht] at h; cases h
   | true =>
    rw [ht] at h
    simp only [cond_true] at h
    obtain ⟨u, hu, h⟩ := Option.bind_eq_some_iff.mp h
    cases h
    exact ⟨j, a, S', x.1, x.2, u, rfl, hx, ht, hu, rfl⟩
  ·cases h
 ·cases h
theorem qaldJ_inv {pc : Nat} {L : QLoc} {S : List Value} {σ : QHeap} {st' : QSt} (h : qaldJ pc L S σ = some st') : ∃ j a S' xs v, S = .int j :: .ref a :: S' ∧ hget σ a = some (.inr (.inr xs)) ∧ aget xs j = some v ∧ st' = (pc, L, .long v :: S', σ) := by
 unfold qaldJ at h
 split at h
 ·rename_i j a S'
  split at h
  ·rename_i x hx
   obtain ⟨u, hu, h⟩ := Option.bind_eq_some_iff.mp h
   cases h
   exact ⟨j, a, S', x, u, rfl, hx, hu, rfl⟩
  ·cases h
 ·cases h
theorem qast_inv {pc : Nat} {L : QLoc} {S : List Value} {σ : QHeap} {ok : FieldType → Bool} {st' : QSt} (h : qast pc L S σ ok = some st') : ∃ v j a S' ty xs ys, S = .int v :: .int j :: .ref a :: S' ∧ hget σ a = some (.inr (.inl (ty, xs))) ∧ ok ty = true ∧ k0 ≤ a ∧ aset xs j (qnar ty v) = some ys ∧ st' = (pc, L, S', σ.set a (.inr (.inl (ty, ys)))) := by
 unfold qast at h
 split at h
 ·rename_i v j a S'
  split at h
  ·rename_i x hx
   cases ht : (ok x.1 && Nat.ble k0 a) with
   | false => rw [ht] at h; cases h
   | true =>
    rw [ht] at h
    simp only [cond_true] at h
    obtain ⟨u, hu, h⟩ := Option.bind_eq_some_iff.mp h
    cases h
    obtain ⟨b1, b2⟩ := Bool.and_eq_true_iff.mp ht
    exact ⟨v, j, a, S', x.1, x.2, u, rfl, hx, b1, Nat.le_of_ble_eq_true b2, hu, rfl⟩
  ·cases h
 ·cases h
theorem qastJ_inv {pc : Nat} {L : QLoc} {S : List Value} {σ : QHeap} {st' : QSt} (h : qastJ pc L S σ = some st') : ∃ v j a S' xs ys, S = .long v :: .int j :: .ref a :: S' ∧ hget σ a = some (.inr (.inr xs)) ∧ k0 ≤ a ∧ aset xs j v = some ys ∧ st' = (pc, L, S', σ.set a (.inr (.inr ys))) := by
 unfold qastJ at h
 split at h
 ·rename_i v j a S'
  split at h
  ·rename_i x hx
   cases ht : (Nat.ble k0 a) with
   | false => rw [ht] at h; cases h
   | true =>
    rw [ht] at h
    simp only [cond_true] at h
    obtain ⟨u, hu, h⟩ := Option.bind_eq_some_iff.mp h
    cases h
    exact ⟨v, j, a, S', x, u, rfl, hx, Nat.le_of_ble_eq_true ht, hu, rfl⟩
  ·cases h
 ·cases h
theorem qlen_inv {pc : Nat} {L : QLoc} {S : List Value} {σ : QHeap} {st' : QSt} (h : qlen pc L S σ = some st') : ∃ a S' n, S = .ref a :: S' ∧ ((∃ ty xs, hget σ a = some (.inr (.inl (ty, xs))) ∧ n = xs.length) ∨ ∃ xs, hget σ a = some (.inr (.inr xs)) ∧ n = xs.length) ∧ st' = (pc, L, .int n.toInt32 :: S', σ) := by
 unfold qlen at h
 split at h
 ·rename_i a S'
  split at h
  ·rename_i x hx
   cases h; exact ⟨a, S', _, rfl, Or.inl ⟨x.1, x.2, hx, rfl⟩, rfl⟩
  ·rename_i x hx
   cases h; exact ⟨a, S', _, rfl, Or.inr ⟨x, hx, rfl⟩, rfl⟩
  ·cases h
 ·cases h
theorem isI_inv {v : Value} (h : isI v = true) : ∃ x, v = .int x := by cases v <;> simp [isI] at h; exact ⟨_, rfl⟩
theorem isJ_inv {v : Value} (h : isJ v = true) : ∃ x, v = .long x := by cases v <;> simp [isJ] at h; exact ⟨_, rfl⟩
theorem isR_inv {v : Value} (h : isR v = true) : ∃ x, v = .ref x := by cases v <;> simp [isR] at h; exact ⟨_, rfl⟩
theorem aget_inv {α : Type} {xs : List α} {j : Int32} {x : α} (h : aget xs j = some x) : ¬ j < 0 ∧ xs[j.toNatClampNeg]? = some x := by
 unfold aget at h
 split at h
 ·cases h
 ·rename_i q; exact ⟨q, h⟩
theorem aset_inv {α : Type} {xs ys : List α} {j : Int32} {x : α} (h : aset xs j x = some ys) : ¬ j < 0 ∧ j.toNatClampNeg < xs.length ∧ ys = xs.set j.toNatClampNeg x := by
 unfold aset at h
 split at h
 ·cases h
 ·rename_i q
  split at h
  ·rename_i q2; cases h; exact ⟨q, q2, rfl⟩
  ·cases h
theorem qnew_inv {n : Int32} {k : Nat} (h : qnew n = some k) : ¬ n < 0 ∧ n.toNatClampNeg = k ∧ k ≤ 67108864 := by
 unfold qnew at h
 split at h
 ·cases h
 ·rename_i q
  split at h
  ·rename_i q2; cases h; exact ⟨q, rfl, q2⟩
  ·cases h
theorem QCellOk.other {h h' : Heap} {a b : Addr} {sl : Nat} {w : Value} {c : QCell} (H : QCellOk Z ad h b c) (W : Wr h h' a sl w) (ne : b ≠ a) : QCellOk Z ad h' b c := by
 rcases c with vs | ⟨ty, xs⟩ | xs
 ·obtain ⟨h1, h2, h3⟩ := H
  exact ⟨h1.wr W, h2, fun k u hk hu => (h3 k u hk hu).other W (Or.inl ne)⟩
 ·obtain ⟨c, h1, h2⟩ := H
  exact ⟨c, h1.other W ne, h2⟩
 ·obtain ⟨c, h1, h2⟩ := H
  exact ⟨c, h1.other W ne, h2⟩
theorem QCellOk.ext {h h' : Heap} {b : Addr} {c : QCell} (H : QCellOk Z ad h b c) (E : Ext h h') : QCellOk Z ad h' b c := by
 rcases c with vs | ⟨ty, xs⟩ | xs
 ·obtain ⟨h1, h2, h3⟩ := H
  exact ⟨h1.ext E, h2, fun k u hk hu => (h3 k u hk hu).ext E⟩
 ·obtain ⟨c, h1, h2⟩ := H
  exact ⟨c, h1.ext E, h2⟩
 ·obtain ⟨c, h1, h2⟩ := H
  exact ⟨c, h1.ext E, h2⟩
theorem QRep.set {h h' : Heap} {σ : QHeap} {a : Nat} {sl : Nat} {w : Value} {c d : QCell} (H : QRep Z n0 ad h σ) (Ad : QAd n0 ad) (W : Wr h h' (ad a) sl w) (hc : hget σ a = some c) (hd : QCellOk Z ad h' (ad a) d) : QRep Z n0 ad h' (σ.set a d) := by
 obtain ⟨h1, h2, h3⟩ := H
 refine ⟨by simpa using h1, by rw [W.size, h2]; simp, fun k e he => ?_⟩
 rw [hget_set hc] at he
 split at he
 ·rename_i q; cases he; rw [q]; exact hd
 ·rename_i q; exact (h3 k e he).other W fun z => q (Ad.2 _ _ z)
theorem QRep.push {h h' : Heap} {σ : QHeap} {c : QCell} (H : QRep Z n0 ad h σ) (Ad : QAd n0 ad) (E : Ext h h') (hs : h'.size = h.size + 1) (hc : QCellOk Z ad h' h.size c) : QRep Z n0 ad h' (σ ++ [c]) := by
 obtain ⟨h1, h2, h3⟩ := H
 refine ⟨by simp; omega, by rw [hs, h2]; simp; omega, fun k e he => ?_⟩
 rw [hget_eq] at he
 rcases Nat.lt_or_ge k σ.length with q | q
 ·rw [List.getElem?_append_left q, ← hget_eq] at he
  exact (h3 k e he).ext E
 ·rw [List.getElem?_append_right q] at he
  obtain rfl : k = σ.length := by
   rcases Nat.lt_or_ge (k - σ.length) 1 with z | z
   ·omega
   ·rw [List.getElem?_eq_none (by simpa using z)] at he; cases he
  simp at he
  rw [← he, Ad.1 _ h1, ← h2]
  exact hc
theorem mem_of_contains {α : Type} [BEq α] [LawfulBEq α] {L : List α} {a : α} (h : L.contains a = true) : a ∈ L := by simpa using h
theorem lkF_lt : ∀ t ∈ lkF, t.2.2 < nF := by decide +kernel
theorem laid_of (W : QW Z a0) {k : Nat} (hk : k < nF) : Laid Z a0 cName cName (fNm k) (fDs k) := by
 have q := (qw_lay W) k hk
 cases hf : fFin k with
 | true => rw [hf] at q; exact Or.inr q
 | false => rw [hf] at q; exact Or.inl q
theorem qfit_inv {ty : FieldType} {v w : Value} (h : qfit ty v = some w) : v = w ∧ narrow ty (qv ad w) = qv ad w ∧ fits ty (qv ad w) = true := by
 unfold qfit at h
 split at h
 ·cases h; exact ⟨rfl, rfl, rfl⟩
 ·rename_i x
  obtain ⟨y, hy, h⟩ := Option.bind_eq_some_iff.mp h
  cases h
  unfold qboo at hy
  split at hy
  ·rename_i e; cases hy; subst e; exact ⟨rfl, rfl, rfl⟩
  ·split at hy
   ·rename_i e; cases hy; subst e; exact ⟨rfl, rfl, rfl⟩
   ·cases hy
 ·cases h; exact ⟨rfl, rfl, rfl⟩
 ·cases h; exact ⟨rfl, rfl, rfl⟩
 ·cases h
theorem vget_set {vs : List Value} {k j : Nat} {w : Value} (hk : k < vs.length) : vget (vs.set k w) j = if j = k then some w else vget vs j := by
 simp only [vget_eq, List.getElem?_set]
 by_cases e : k = j
 ·subst e; simp [hk]
 ·simp [e, Ne.symm e]
theorem ald_in {α : Type} {f : α → Value} {xs : List α} {c : Cell} {j : Int32} {x : α} (hc : c.slots = (xs.map f).toArray) (h : aget xs j = some x) : ¬ (j < 0 ∨ c.slots.size ≤ j.toNatClampNeg) ∧ c.slots[j.toNatClampNeg]? = some (f x) := by
 obtain ⟨h1, h2⟩ := aget_inv h
 have h3 := (List.getElem?_eq_some_iff.mp h2).1
 refine ⟨fun q => ?_, by rw [hc]; simp [h2]⟩
 rcases q with q | q
 ·exact h1 q
 ·rw [hc] at q; simp at q; omega
theorem ast_in {α : Type} {f : α → Value} {xs ys : List α} {c : Cell} {j : Int32} {x : α} (hc : c.slots = (xs.map f).toArray) (h : aset xs j x = some ys) : ¬ (j < 0 ∨ c.slots.size ≤ j.toNatClampNeg) ∧ (c.setSlot j.toNatClampNeg (f x)).slots = (ys.map f).toArray := by
 obtain ⟨h1, h2, rfl⟩ := aset_inv h
 refine ⟨fun q => ?_, by simp [Cell.setSlot, hc, List.map_set]⟩
 rcases q with q | q
 ·exact h1 q
 ·rw [hc] at q; simp at q; omega
theorem qgrow {σ : QHeap} {c : QCell} : qhs (σ ++ [c]) - qhs σ = qsz c := by rw [qhs_app]; simp [qhs]
set_option maxHeartbeats 4000000 in
theorem QTri.newArr (Ad : QAd n0 ad) (W : QW Z a0) {pc aux : Nat} {L : QLoc} {S : List Value} {σ : QHeap} {aty : ArrayType} {n : Int32} {k : Nat} {c : QCell} (hk : qnew n = some k) (hc : pCode m pc = some (.newarray aty, aux)) (hz : qsz c = k)
  (hq : ∀ (h' : Heap) (a : Addr) (cA : ClassId), Arr Z h' a (newA cA (newarray.typeOf aty) n) (newarray.typeOf aty) → QCellOk Z ad h' a c)
  (h : QTri l Z n0 ad m (pc + 2, L, .ref σ.length :: S, σ ++ [c]) v σ') : QTri l Z n0 ad m (pc, L, .int n :: S, σ) v σ' := by
 have hd : decode (pBytes m) pc = .ok (.newarray aty, 2) := pDecN hc rfl
 obtain ⟨n1, n2, n3⟩ := qnew_inv hk
 refine QTri.gen h (by simp) (by simp [qhs_app]) fun p e R s mid args below meth c' T locs cells slots C hcx X hR hF hL hC hn hc1 hsl => ?_
 obtain ⟨hx, hZ, hby, hml, hret, hown, hnm, hfr, hlo⟩ := hcx
 have hd2 : decode c'.code pc = .ok (.newarray aty, 2) := by rw [hby]; exact hd
 simp only [List.length_append, List.length_singleton, Nat.add_sub_cancel_left, qgrow, hz] at hc1 hsl ⊢
 obtain ⟨T₁, h₁, cA, X₁, e₁, E₁, A₁, st⟩ := newP X hx hZ (aty := aty) (qw_arr W (newarray.typeOf aty) (mem_of_contains (show aTys.contains (newarray.typeOf aty) = true from pRest hc))) rfl (g := mkF mid pc C (.int n :: S.map (qv ad))) rfl hd2 rfl n1 (cap := k) (by omega) (by omega) hc1 hsl
 have hsz : h₁.size = T.heap.size + 1 := by
  have q1 := X₁.heapSize
  have q2 : T.heap.size < h₁.size := A₁.lt
  have q3 := hR.2.1
  rw [e₁] at q1
  have : n0 + (σ.length - k0) = s.heap.size + cells := hn
  have q3' : T.heap.size = n0 + (σ.length - k0) := q3
  omega
 refine ⟨T₁, locs, C, X₁, ?_, hF, hL, hC, fun target q => ?_⟩
 ·rw [e₁]; exact QRep.push hR Ad E₁ hsz (hq _ _ _ A₁)
 ·refine st _ ?_
  have e2 : ad σ.length = T.heap.size := by rw [Ad.1 _ hR.1]; exact hR.2.1.symm
  simp only [List.map_cons, qv, e2] at q
  exact q
set_option maxHeartbeats 4000000 in
theorem QTri.getfield (W : QW Z a0) {pc idx aux : Nat} {L : QLoc} {S : List Value} {σ : QHeap} {st' : QSt} (h : QTri l Z n0 ad m st' v σ') (hc : pCode m pc = some (.getfield idx, aux)) (hs : qget (pc + 3) L S σ aux = some st') : QTri l Z n0 ad m (pc, L, S, σ) v σ' := by
 have hd : decode (pBytes m) pc = .ok (.getfield idx, 3) := pDecN hc rfl
 obtain ⟨a, S', vs, w, rfl, hvs, hw, rfl⟩ := qget_inv hs
 have hm := mem_of_contains (show lkF.contains (pK m, idx, aux) = true from pRest hc)
 have hlt := lkF_lt _ hm
 refine QTri.pure h rfl fun p e R s mid args below meth c T locs cells slots C hcx X hR hL hC => ?_
 obtain ⟨hx, hZ, hby, hml, hret, hown, hnm, hfr, hlo⟩ := hcx
 have hd2 : decode c.code pc = .ok (.getfield idx, 3) := by rw [hby]; exact hd
 have F := (hR.2.2 _ _ hvs).2.2 aux w hlt hw
 obtain ⟨T₁, X₁, e₁, st⟩ := getF X hx hZ hown (host := "") (index := idx) (Or.inl (qw_fl W (pK m, idx, aux) hm)) Via.refl rfl F (g := mkF mid pc C (List.map (qv ad) (.ref a :: S'))) rfl rfl hd2
 exact ⟨T₁, C, X₁, e₁, hL, hC, st⟩
set_option maxHeartbeats 4000000 in
theorem QTri.putfield (Ad : QAd n0 ad) (W : QW Z a0) {pc idx aux : Nat} {L : QLoc} {S : List Value} {σ : QHeap} {st' : QSt} (h : QTri l Z n0 ad m st' v σ') (hc : pCode m pc = some (.putfield idx, aux)) (hs : qput (pc + 3) L S σ aux = some st') : QTri l Z n0 ad m (pc, L, S, σ) v σ' := by
 have hd : decode (pBytes m) pc = .ok (.putfield idx, 3) := pDecN hc rfl
 obtain ⟨w, a, S', vs, u, rfl, hvs, b1, b2, hu, rfl⟩ := qput_inv hs
 obtain ⟨r1, r2⟩ := Bool.and_eq_true_iff.mp (show (lkF.contains (pK m, idx, aux) && (!fFin aux || (pK m == 1 && pNm m == "<init>"))) = true from pRest hc)
 have hm := mem_of_contains r1
 have hlt := lkF_lt _ hm
 obtain ⟨rfl, q2, q3⟩ := qfit_inv (ad := ad) hu
 have hsz : qhs (σ.set a (Sum.inl (vs.set aux w))) = qhs σ := qhs_set hvs rfl
 refine QTri.gen h (by simp) (by show qhs σ ≤ qhs (σ.set a (Sum.inl (vs.set aux w))); rw [hsz]; exact Nat.le_refl _) fun p e R s mid args below meth c T locs cells slots C hcx X hR hF hL hC hn hc1 hsl => ?_
 obtain ⟨hx, hZ, hby, hml, hret, hown, hnm, hfr, hlo⟩ := hcx
 have hd2 : decode c.code pc = .ok (.putfield idx, 3) := by rw [hby]; exact hd
 obtain ⟨E, l1, Fs⟩ := hR.2.2 _ _ hvs
 obtain ⟨old, hold⟩ : ∃ old, vget vs aux = some old := by rw [vget_eq]; exact ⟨_, List.getElem?_eq_getElem b2⟩
 have lay : (Cond.lays cName cName (fNm aux) (fDs aux)).before a0 Z = true ∨ ((Cond.laysFinal cName cName (fNm aux) (fDs aux)).before a0 Z = true ∧ kName (pK m) = cName ∧ meth.name = "<init>") := by
  have q := (qw_lay W) aux hlt
  cases hf : fFin aux with
  | false => rw [hf] at q; exact Or.inl q
  | true =>
   rw [hf] at q r2
   simp at r2
   exact Or.inr ⟨q, by rw [r2.1]; exact kOne, by rw [hnm]; exact r2.2⟩
 obtain ⟨T₁, h₁, X₁, e₁, W₁, st⟩ := putF X hx hZ hown (host := "") (index := idx) (Or.inl (qw_fl W (pK m, idx, aux) hm)) Via.refl rfl (Fs aux old hlt hold) E lay ((qw_inst W)) (fPrs aux hlt) q2 q3 (g := mkF mid pc C (List.map (qv ad) (w :: .ref a :: S'))) rfl rfl hd2
 refine ⟨T₁, _, C, ?_, ?_, Fr.snoc X₁ hF (by rw [Ad.1 a b1]; exact Nat.le_add_right _ _), hL, hC, st⟩
 ·show Stand _ _ _ _ _ _ _ _ _ _ _ _ (cells + ((σ.set a (Sum.inl (vs.set aux w))).length - σ.length)) (slots + (qhs (σ.set a (Sum.inl (vs.set aux w))) - qhs σ))
  rw [hsz, Nat.sub_self, List.length_set, Nat.sub_self]
  exact X₁
 ·rw [e₁]
  refine QRep.set hR Ad W₁ hvs ⟨E.wr W₁, by simpa using l1, fun k u hk hu => ?_⟩
  rw [vget_set b2] at hu
  split at hu
  ·rename_i e; cases hu; rw [e]; exact (Fs aux old hlt hold).same W₁
  ·rename_i ne
   exact (Fs k u hk hu).other W₁ (Or.inr (slot_ne (laid_of W hk) (laid_of W hlt) (fun z => ne (fInj _ hk _ hlt z)) (fPrs _ hk) (fPrs _ hlt)))
theorem tyI_inv {ty : FieldType} (h : tyI ty = true) : ty = .int := by cases ty <;> simp [tyI] at h; rfl
theorem tyB_inv {ty : FieldType} (h : tyB ty = true) : ty = .boolean ∨ ty = .byte := by cases ty <;> simp [tyB] at h <;> simp
set_option maxHeartbeats 4000000 in
theorem QTri.iaload {pc aux : Nat} {L : QLoc} {S : List Value} {σ : QHeap} {st' : QSt} (h : QTri l Z n0 ad m st' v σ') (hc : pCode m pc = some (.iaload, aux)) (hs : qald (pc + 1) L S σ tyI = some st') : QTri l Z n0 ad m (pc, L, S, σ) v σ' := by
 have hd : decode (pBytes m) pc = .ok (.iaload, 1) := pDecN hc rfl
 obtain ⟨j, a, S', ty, xs, w, rfl, hx1, ht, hw, rfl⟩ := qald_inv hs
 obtain rfl := tyI_inv ht
 refine QTri.stack h fun p e R s mid args below meth c T locs cells slots C target hx hZ hby hown X hR hL k => ?_
 have hd2 : decode c.code pc = .ok (.iaload, 1) := by rw [hby]; exact hd
 obtain ⟨cl, A, hsl⟩ := hR.2.2 _ _ hx1
 obtain ⟨i1, i2⟩ := ald_in hsl hw
 exact X.iaload hx A.1 (State.isArrayOf_alike hZ.alike A.2.1) A.2.2 i1 i2 (g := mkF mid pc C (List.map (qv ad) (.int j :: .ref a :: S'))) rfl rfl hd2 _ k
set_option maxHeartbeats 4000000 in
theorem QTri.baload {pc aux : Nat} {L : QLoc} {S : List Value} {σ : QHeap} {st' : QSt} (h : QTri l Z n0 ad m st' v σ') (hc : pCode m pc = some (.baload, aux)) (hs : qald (pc + 1) L S σ tyB = some st') : QTri l Z n0 ad m (pc, L, S, σ) v σ' := by
 have hd : decode (pBytes m) pc = .ok (.baload, 1) := pDecN hc rfl
 obtain ⟨j, a, S', ty, xs, w, rfl, hx1, ht, hw, rfl⟩ := qald_inv hs
 refine QTri.stack h fun p e R s mid args below meth c T locs cells slots C target hx hZ hby hown X hR hL k => ?_
 have hd2 : decode c.code pc = .ok (.baload, 1) := by rw [hby]; exact hd
 obtain ⟨cl, A, hsl⟩ := hR.2.2 _ _ hx1
 obtain ⟨i1, i2⟩ := ald_in hsl hw
 rcases tyB_inv ht with rfl | rfl
 ·exact X.baloadBooleans hx A.1 (State.isArrayOf_alike hZ.alike A.2.1) A.2.2 i1 i2 (g := mkF mid pc C (List.map (qv ad) (.int j :: .ref a :: S'))) rfl rfl hd2 _ k
 ·exact X.baloadBytes hx A.1 (State.isArrayOf_alike hZ.alike A.2.1) A.2.2 i1 i2 (g := mkF mid pc C (List.map (qv ad) (.int j :: .ref a :: S'))) rfl rfl hd2 _ k
set_option maxHeartbeats 4000000 in
theorem QTri.laload {pc aux : Nat} {L : QLoc} {S : List Value} {σ : QHeap} {st' : QSt} (h : QTri l Z n0 ad m st' v σ') (hc : pCode m pc = some (.laload, aux)) (hs : qaldJ (pc + 1) L S σ = some st') : QTri l Z n0 ad m (pc, L, S, σ) v σ' := by
 have hd : decode (pBytes m) pc = .ok (.laload, 1) := pDecN hc rfl
 obtain ⟨j, a, S', xs, w, rfl, hx1, hw, rfl⟩ := qaldJ_inv hs
 refine QTri.stack h fun p e R s mid args below meth c T locs cells slots C target hx hZ hby hown X hR hL k => ?_
 have hd2 : decode c.code pc = .ok (.laload, 1) := by rw [hby]; exact hd
 obtain ⟨cl, A, hsl⟩ := hR.2.2 _ _ hx1
 obtain ⟨i1, i2⟩ := ald_in hsl hw
 exact X.laload hx A.1 (State.isArrayOf_alike hZ.alike A.2.1) A.2.2 i1 i2 (g := mkF mid pc C (List.map (qv ad) (.int j :: .ref a :: S'))) rfl rfl hd2 _ k
theorem QTri.stored (Ad : QAd n0 ad) {pc : Nat} {L : QLoc} {S S' : List Value} {σ : QHeap} {a j : Nat} {w : Value} {c d : QCell} (hx1 : hget σ a = some c) (b1 : k0 ≤ a) (hz : qsz d = qsz c) (h : QTri l Z n0 ad m (pc + 1, L, S', σ.set a d) v σ')
  (hs : ∀ (p : Program) (e : Env) (R : Room) (s : State) (mid : MethodId) (args : Array Value) (below : List Frame) (meth : Method) (c : Code) (T : State) (locs : List Loc) (cells slots : Nat) (C : Array Slot),
   QCx Z p R s mid meth c m → Stand p l e R s mid args below meth c T locs cells slots → QRep Z n0 ad T.heap σ →
   ∃ T' h', Stand p l e R s mid args below meth c T' (locs ++ [⟨ad a, j⟩]) cells slots ∧ T'.heap = h' ∧ Wr T.heap h' (ad a) j w ∧ QCellOk Z ad h' (ad a) d ∧ ∀ target, Steps p.tables e below (T'.setTop (mkF mid (pc + 1) C (S'.map (qv ad)))) target → Steps p.tables e below (T.setTop (mkF mid pc C (S.map (qv ad)))) target) :
  QTri l Z n0 ad m (pc, L, S, σ) v σ' := by
 have hsz : qhs (σ.set a d) = qhs σ := qhs_set hx1 hz
 refine QTri.gen h (by simp) (by show qhs σ ≤ qhs (σ.set a d); rw [hsz]; exact Nat.le_refl _) fun p e R s mid args below meth c T locs cells slots C hcx X hR hF hL hC hn hc1 hsl => ?_
 obtain ⟨T₁, h₁, X₁, e₁, W₁, Q₁, st⟩ := hs p e R s mid args below meth c T locs cells slots C hcx X hR
 refine ⟨T₁, _, C, ?_, ?_, Fr.snoc X₁ hF (by rw [Ad.1 a b1]; exact Nat.le_add_right _ _), hL, hC, st⟩
 ·show Stand _ _ _ _ _ _ _ _ _ _ _ _ (cells + ((σ.set a d).length - σ.length)) (slots + (qhs (σ.set a d) - qhs σ))
  rw [hsz, Nat.sub_self, List.length_set, Nat.sub_self]
  exact X₁
 ·rw [e₁]
  exact QRep.set hR Ad W₁ hx1 Q₁
set_option maxHeartbeats 4000000 in
theorem QTri.iastore (Ad : QAd n0 ad) {pc aux : Nat} {L : QLoc} {S : List Value} {σ : QHeap} {st' : QSt} (h : QTri l Z n0 ad m st' v σ') (hc : pCode m pc = some (.iastore, aux)) (hs : qast (pc + 1) L S σ tyI = some st') : QTri l Z n0 ad m (pc, L, S, σ) v σ' := by
 have hd : decode (pBytes m) pc = .ok (.iastore, 1) := pDecN hc rfl
 obtain ⟨w, j, a, S', ty, xs, ys, rfl, hx1, ht, b1, hw, rfl⟩ := qast_inv hs
 obtain rfl := tyI_inv ht
 refine QTri.stored Ad (j := j.toNatClampNeg) (w := .int w) hx1 b1 (by rw [(aset_inv hw).2.2]; simp [qsz]) h fun p e R s mid args below meth c T locs cells slots C hcx X hR => ?_
 have hd2 : decode c.code pc = .ok (.iastore, 1) := by rw [hcx.2.2.1]; exact hd
 obtain ⟨cl, A, hsl⟩ := hR.2.2 _ _ hx1
 obtain ⟨i1, i2⟩ := ast_in hsl hw
 obtain ⟨T₁, h₁, X₁, e₁, W₁, st⟩ := stI X hcx.1 hcx.2.1 rfl A i1 (g := mkF mid pc C (List.map (qv ad) (.int w :: .int j :: .ref a :: S'))) rfl rfl hd2
 exact ⟨T₁, h₁, X₁, e₁, W₁, ⟨_, A.same W₁, i2⟩, st⟩
set_option maxHeartbeats 4000000 in
theorem QTri.bastore (Ad : QAd n0 ad) {pc aux : Nat} {L : QLoc} {S : List Value} {σ : QHeap} {st' : QSt} (h : QTri l Z n0 ad m st' v σ') (hc : pCode m pc = some (.bastore, aux)) (hs : qast (pc + 1) L S σ tyB = some st') : QTri l Z n0 ad m (pc, L, S, σ) v σ' := by
 have hd : decode (pBytes m) pc = .ok (.bastore, 1) := pDecN hc rfl
 obtain ⟨w, j, a, S', ty, xs, ys, rfl, hx1, ht, b1, hw, rfl⟩ := qast_inv hs
 refine QTri.stored Ad (j := j.toNatClampNeg) (w := .int (qnar ty w)) hx1 b1 (by rw [(aset_inv hw).2.2]; simp [qsz]) h fun p e R s mid args below meth c T locs cells slots C hcx X hR => ?_
 have hd2 : decode c.code pc = .ok (.bastore, 1) := by rw [hcx.2.2.1]; exact hd
 obtain ⟨cl, A, hsl⟩ := hR.2.2 _ _ hx1
 obtain ⟨i1, i2⟩ := ast_in hsl hw
 rcases tyB_inv ht with rfl | rfl
 ·obtain ⟨T₁, h₁, X₁, e₁, W₁, st⟩ := stZ X hcx.1 hcx.2.1 rfl A i1 (g := mkF mid pc C (List.map (qv ad) (.int w :: .int j :: .ref a :: S'))) rfl rfl hd2
  exact ⟨T₁, h₁, X₁, e₁, W₁, ⟨_, A.same W₁, i2⟩, st⟩
 ·obtain ⟨T₁, h₁, X₁, e₁, W₁, st⟩ := stB X hcx.1 hcx.2.1 rfl A i1 (g := mkF mid pc C (List.map (qv ad) (.int w :: .int j :: .ref a :: S'))) rfl rfl hd2
  exact ⟨T₁, h₁, X₁, e₁, W₁, ⟨_, A.same W₁, i2⟩, st⟩
set_option maxHeartbeats 4000000 in
theorem QTri.lastore (Ad : QAd n0 ad) {pc aux : Nat} {L : QLoc} {S : List Value} {σ : QHeap} {st' : QSt} (h : QTri l Z n0 ad m st' v σ') (hc : pCode m pc = some (.lastore, aux)) (hs : qastJ (pc + 1) L S σ = some st') : QTri l Z n0 ad m (pc, L, S, σ) v σ' := by
 have hd : decode (pBytes m) pc = .ok (.lastore, 1) := pDecN hc rfl
 obtain ⟨w, j, a, S', xs, ys, rfl, hx1, b1, hw, rfl⟩ := qastJ_inv hs
 refine QTri.stored Ad (j := j.toNatClampNeg) (w := .long w) hx1 b1 (by rw [(aset_inv hw).2.2]; simp [qsz]) h fun p e R s mid args below meth c T locs cells slots C hcx X hR => ?_
 have hd2 : decode c.code pc = .ok (.lastore, 1) := by rw [hcx.2.2.1]; exact hd
 obtain ⟨cl, A, hsl⟩ := hR.2.2 _ _ hx1
 obtain ⟨i1, i2⟩ := ast_in hsl hw
 obtain ⟨T₁, h₁, X₁, e₁, W₁, st⟩ := stJ X hcx.1 hcx.2.1 rfl A i1 (g := mkF mid pc C (List.map (qv ad) (.long w :: .int j :: .ref a :: S'))) rfl rfl hd2
 exact ⟨T₁, h₁, X₁, e₁, W₁, ⟨_, A.same W₁, i2⟩, st⟩
set_option maxHeartbeats 4000000 in
theorem QTri.alen {pc aux : Nat} {L : QLoc} {S : List Value} {σ : QHeap} {st' : QSt} (h : QTri l Z n0 ad m st' v σ') (hc : pCode m pc = some (.arraylength, aux)) (hs : qlen (pc + 1) L S σ = some st') : QTri l Z n0 ad m (pc, L, S, σ) v σ' := by
 have hd : decode (pBytes m) pc = .ok (.arraylength, 1) := pDecN hc rfl
 obtain ⟨a, S', n, rfl, hx1, rfl⟩ := qlen_inv hs
 refine QTri.stack h fun p e R s mid args below meth c T locs cells slots C target hx hZ hby hown X hR hL k => ?_
 have hd2 : decode c.code pc = .ok (.arraylength, 1) := by rw [hby]; exact hd
 rcases hx1 with ⟨ty, xs, hx1, rfl⟩ | ⟨xs, hx1, rfl⟩
 ·obtain ⟨cl, A, hsl⟩ := hR.2.2 _ _ hx1
  have e1 : cl.slots.size = xs.length := by rw [hsl]; simp
  rw [← e1] at k
  exact X.arraylength hx A.1 (State.isArrayOf_alike hZ.alike A.2.1) (g := mkF mid pc C (List.map (qv ad) (.ref a :: S'))) rfl rfl hd2 _ k
 ·obtain ⟨cl, A, hsl⟩ := hR.2.2 _ _ hx1
  have e1 : cl.slots.size = xs.length := by rw [hsl]; simp
  rw [← e1] at k
  exact X.arraylength hx A.1 (State.isArrayOf_alike hZ.alike A.2.1) (g := mkF mid pc C (List.map (qv ad) (.ref a :: S'))) rfl rfl hd2 _ k
set_option maxHeartbeats 4000000 in
theorem QTri.newObj (Ad : QAd n0 ad) (W : QW Z a0) {pc idx aux : Nat} {L : QLoc} {S : List Value} {σ : QHeap} (h : QTri l Z n0 ad m (pc + 3, L, .ref σ.length :: S, σ ++ [.inl cDef]) v σ') (hc : pCode m pc = some (.new idx, aux)) : QTri l Z n0 ad m (pc, L, S, σ) v σ' := by
 have hd : decode (pBytes m) pc = .ok (.new idx, 3) := pDecN hc rfl
 have hm := mem_of_contains (show lkN.contains (pK m, idx) = true from pRest hc)
 refine QTri.gen h (by simp) (by simp [qhs_app]) fun p e R s mid args below meth c T locs cells slots C hcx X hR hF hL hC hn hc1 hsl => ?_
 obtain ⟨hx, hZ, hby, hml, hret, hown, hnm, hfr, hlo⟩ := hcx
 have hd2 : decode c.code pc = .ok (.new idx, 3) := by rw [hby]; exact hd
 simp only [List.length_append, List.length_singleton, Nat.add_sub_cancel_left, qgrow, qsz] at hc1 hsl ⊢
 obtain ⟨T₁, h₁, X₁, e₁, E₁, A₁, D₁, -, st⟩ := newO X hx hZ hown (index := idx) (qw_nw W (pK m, idx) hm) ((qw_inst W)) ((qw_init W)) rfl (g := mkF mid pc C (S.map (qv ad))) rfl hd2 hc1 hsl
 have hsz : h₁.size = T.heap.size + 1 := by
  have q1 := X₁.heapSize
  have q2 : T.heap.size < h₁.size := A₁.lt
  have q3 : T.heap.size = n0 + (σ.length - k0) := hR.2.1
  rw [e₁] at q1
  have : n0 + (σ.length - k0) = s.heap.size + cells := hn
  omega
 refine ⟨T₁, locs, C, X₁, ?_, hF, hL, hC, fun target q => ?_⟩
 ·rw [e₁]
  refine QRep.push hR Ad E₁ hsz ⟨A₁, cDefL, fun k u hk hu => ?_⟩
  rw [cDefs k hk] at hu
  cases hu
  have e3 : qv ad (defaultValue (fTy k)) = defaultValue (fTy k) := by
   cases hq : defaultValue (fTy k) with
   | ref a => exact absurd hq (fDef k hk a)
   | _ => rfl
  rw [e3]
  exact D₁ (laid_of W hk) (fPrs k hk)
 ·refine st _ ?_
  have e2 : ad σ.length = T.heap.size := by rw [Ad.1 _ hR.1]; exact hR.2.1.symm
  simp only [List.map_cons, qv, e2] at q
  exact q
set_option maxHeartbeats 8000000 in
theorem QTri.step (Ad : QAd n0 ad) (W : QW Z a0) {st st' : QSt} (h : QTri l Z n0 ad m st' v σ') (hs : qstep m st = some st') : QTri l Z n0 ad m st v σ' := by
 obtain ⟨pc, L, S, σ⟩ := st
 unfold qstep at hs
 dsimp only at hs
 split at hs
 rotate_left
 ·cases hs
 rename_i i aux hc
 have hd := pDecN hc rfl
 have hr := pRest hc
 unfold qexec at hs
 split at hs
 ·-- aload_n
  obtain ⟨w, h1, h2, rfl⟩ := qload_inv hs
  obtain ⟨a, rfl⟩ := isR_inv h2
  exact QTri.stack h fun p e R s mid args below meth c T locs cells slots C target hx hZ hby hown X hR hL k => XS.aloadN X.here hx rfl (hb hby hd) (hL.2.1 _ _ h1) rfl k
 ·obtain ⟨w, h1, h2, rfl⟩ := qload_inv hs
  obtain ⟨a, rfl⟩ := isR_inv h2
  exact QTri.stack h fun p e R s mid args below meth c T locs cells slots C target hx hZ hby hown X hR hL k => XS.aload X.here hx rfl (hb hby hd) (hL.2.1 _ _ h1) rfl k
 ·obtain ⟨w, h1, h2, rfl⟩ := qload_inv hs
  obtain ⟨a, rfl⟩ := isI_inv h2
  exact QTri.stack h fun p e R s mid args below meth c T locs cells slots C target hx hZ hby hown X hR hL k => XS.iloadN X.here hx rfl (hb hby hd) (hL.2.1 _ _ h1) k
 ·obtain ⟨w, h1, h2, rfl⟩ := qload_inv hs
  obtain ⟨a, rfl⟩ := isI_inv h2
  exact QTri.stack h fun p e R s mid args below meth c T locs cells slots C target hx hZ hby hown X hR hL k => XS.iload X.here hx rfl (hb hby hd) (hL.2.1 _ _ h1) k
 ·obtain ⟨w, h1, h2, rfl⟩ := qload_inv hs
  obtain ⟨a, rfl⟩ := isJ_inv h2
  exact QTri.stack h fun p e R s mid args below meth c T locs cells slots C target hx hZ hby hown X hR hL k => XT.lloadN X.here hx rfl (hb hby hd) (hL.2.1 _ _ h1) k
 ·obtain ⟨w, h1, h2, rfl⟩ := qload_inv hs
  obtain ⟨a, rfl⟩ := isJ_inv h2
  exact QTri.stack h fun p e R s mid args below meth c T locs cells slots C target hx hZ hby hown X hR hL k => XT.lload X.here hx rfl (hb hby hd) (hL.2.1 _ _ h1) k
 ·cases hs -- iconst
  exact QTri.stack h fun p e R s mid args below meth c T locs cells slots C target hx hZ hby hown X hR hL k => XS.iconst X.here hx rfl (hb hby hd) k
 ·cases hs
  exact QTri.stack h fun p e R s mid args below meth c T locs cells slots C target hx hZ hby hown X hR hL k => XS.bipush X.here hx rfl (hb hby hd) k
 ·cases hs
  exact QTri.stack h fun p e R s mid args below meth c T locs cells slots C target hx hZ hby hown X hR hL k => XS.sipush X.here hx rfl (hb hby hd) k
 ·cases hs
  exact QTri.stack h fun p e R s mid args below meth c T locs cells slots C target hx hZ hby hown X hR hL k => XT.lconst X.here hx rfl (hb hby hd) k
 ·-- ldc
  unfold qldc at hs
  split at hs
  ·rename_i w hw
   cases hs
   obtain ⟨x, hx1, hx2⟩ := qw_cI W (pK m, _, aux) (mem_of_contains (show lkC.contains (pK m, _, aux) = true from hr))
   rw [show vget cK aux = some w from hw] at hx1
   cases hx1
   exact QTri.stack h fun p e R s mid args below meth c T locs cells slots C target hx hZ hby hown X hR hL k => X.ldcI hx hown (mv hZ hx2) rfl (hb hby hd) k
  ·cases hs
 ·unfold qldc at hs
  split at hs
  ·rename_i w hw
   cases hs
   obtain ⟨x, hx1, hx2⟩ := qw_cJ W (pK m, _, aux) (mem_of_contains (show lkD.contains (pK m, _, aux) = true from hr))
   rw [show vget cK aux = some w from hw] at hx1
   cases hx1
   exact QTri.stack h fun p e R s mid args below meth c T locs cells slots C target hx hZ hby hown X hR hL k => X.ldc2J hx hown (mv hZ hx2) rfl (hb hby hd) k
  ·cases hs
 ·-- istore_n
  obtain ⟨w, S', L', rfl, h2, h3, rfl⟩ := qstore_inv hs
  obtain ⟨a, rfl⟩ := isI_inv h2
  exact QTri.frame h fun p e R s mid args below meth c T locs cells slots C hcx X hR hL hC => by
   obtain ⟨D, d1, d2, d3⟩ := store_ok hL h3
   exact ⟨D, d2, d3.trans hC, fun target k => XS.istoreN X.here hcx.1 rfl (hb hcx.2.2.1 hd) rfl d1 k⟩
 ·obtain ⟨w, S', L', rfl, h2, h3, rfl⟩ := qstore_inv hs
  obtain ⟨a, rfl⟩ := isI_inv h2
  exact QTri.frame h fun p e R s mid args below meth c T locs cells slots C hcx X hR hL hC => by
   obtain ⟨D, d1, d2, d3⟩ := store_ok hL h3
   exact ⟨D, d2, d3.trans hC, fun target k => XS.istore X.here hcx.1 rfl (hb hcx.2.2.1 hd) rfl d1 k⟩
 ·obtain ⟨w, S', L', rfl, h2, h3, rfl⟩ := qstore_inv hs
  obtain ⟨a, rfl⟩ := isJ_inv h2
  exact QTri.frame h fun p e R s mid args below meth c T locs cells slots C hcx X hR hL hC => by
   obtain ⟨D, d1, d2, d3⟩ := store_ok hL h3
   exact ⟨D, d2, d3.trans hC, fun target k => XT.lstoreN X.here hcx.1 rfl (hb hcx.2.2.1 hd) rfl d1 k⟩
 ·obtain ⟨w, S', L', rfl, h2, h3, rfl⟩ := qstore_inv hs
  obtain ⟨a, rfl⟩ := isJ_inv h2
  exact QTri.frame h fun p e R s mid args below meth c T locs cells slots C hcx X hR hL hC => by
   obtain ⟨D, d1, d2, d3⟩ := store_ok hL h3
   exact ⟨D, d2, d3.trans hC, fun target k => XT.lstore X.here hcx.1 rfl (hb hcx.2.2.1 hd) rfl d1 k⟩
 ·obtain ⟨w, S', L', rfl, h2, h3, rfl⟩ := qstore_inv hs
  obtain ⟨a, rfl⟩ := isR_inv h2
  exact QTri.frame h fun p e R s mid args below meth c T locs cells slots C hcx X hR hL hC => by
   obtain ⟨D, d1, d2, d3⟩ := store_ok hL h3
   exact ⟨D, d2, d3.trans hC, fun target k => XS.astoreN X.here hcx.1 rfl (hb hcx.2.2.1 hd) rfl rfl d1 k⟩
 ·obtain ⟨w, S', L', rfl, h2, h3, rfl⟩ := qstore_inv hs
  obtain ⟨a, rfl⟩ := isR_inv h2
  exact QTri.frame h fun p e R s mid args below meth c T locs cells slots C hcx X hR hL hC => by
   obtain ⟨D, d1, d2, d3⟩ := store_ok hL h3
   exact ⟨D, d2, d3.trans hC, fun target k => XS.astore X.here hcx.1 rfl (hb hcx.2.2.1 hd) rfl rfl d1 k⟩
 ·-- iinc
  unfold qinc at hs
  split at hs
  ·rename_i x hx1
   split at hs
   ·rename_i L' hL'
    cases hs
    exact QTri.frame h fun p e R s mid args below meth c T locs cells slots C hcx X hR hL hC => by
     obtain ⟨D, d1, d2, d3⟩ := store_ok hL hL'
     exact ⟨D, d2, d3.trans hC, fun target k => XS.iinc X.here hcx.1 rfl (hb hcx.2.2.1 hd) (hL.2.1 _ _ hx1) d1 k⟩
   ·cases hs
  ·cases hs
 ·obtain ⟨x, y, S', rfl, rfl⟩ := qbin_inv hs -- iadd
  exact QTri.stack h fun p e R s mid args below meth c T locs cells slots C target hx hZ hby hown X hR hL k => XS.iadd X.here hx rfl (hb hby hd) rfl k
 ·obtain ⟨x, y, S', rfl, rfl⟩ := qbin_inv hs
  exact QTri.stack h fun p e R s mid args below meth c T locs cells slots C target hx hZ hby hown X hR hL k => XS.isub X.here hx rfl (hb hby hd) rfl k
 ·obtain ⟨x, y, S', rfl, rfl⟩ := qbin_inv hs
  exact QTri.stack h fun p e R s mid args below meth c T locs cells slots C target hx hZ hby hown X hR hL k => XS.imul X.here hx rfl (hb hby hd) rfl k
 ·obtain ⟨x, y, S', rfl, rfl⟩ := qbin_inv hs
  exact QTri.stack h fun p e R s mid args below meth c T locs cells slots C target hx hZ hby hown X hR hL k => XS.iand X.here hx rfl (hb hby hd) rfl k
 ·obtain ⟨x, y, S', rfl, rfl⟩ := qbin_inv hs
  exact QTri.stack h fun p e R s mid args below meth c T locs cells slots C target hx hZ hby hown X hR hL k => XT.ior X.here hx rfl (hb hby hd) rfl k
 ·obtain ⟨x, y, S', rfl, rfl⟩ := qbin_inv hs
  exact QTri.stack h fun p e R s mid args below meth c T locs cells slots C target hx hZ hby hown X hR hL k => XT.ixor X.here hx rfl (hb hby hd) rfl k
 ·obtain ⟨x, y, S', rfl, rfl⟩ := qbin_inv hs
  exact QTri.stack h fun p e R s mid args below meth c T locs cells slots C target hx hZ hby hown X hR hL k => XT.ishl X.here hx rfl (hb hby hd) rfl k
 ·obtain ⟨x, y, S', rfl, rfl⟩ := qbin_inv hs
  exact QTri.stack h fun p e R s mid args below meth c T locs cells slots C target hx hZ hby hown X hR hL k => XT.ishr X.here hx rfl (hb hby hd) rfl k
 ·obtain ⟨x, y, S', rfl, rfl⟩ := qbin_inv hs
  exact QTri.stack h fun p e R s mid args below meth c T locs cells slots C target hx hZ hby hown X hR hL k => XT.iushr X.here hx rfl (hb hby hd) rfl k
 ·obtain ⟨x, y, z, S', rfl, hz, rfl⟩ := qbino_inv hs -- idiv
  unfold qdiv at hz
  split at hz
  ·cases hz
  ·rename_i hy
   cases hz
   exact QTri.stack h fun p e R s mid args below meth c T locs cells slots C target hx hZ hby hown X hR hL k => XS.idiv X.here hx rfl (hb hby hd) rfl hy k
 ·obtain ⟨x, y, z, S', rfl, hz, rfl⟩ := qbino_inv hs
  unfold qrem at hz
  split at hz
  ·cases hz
  ·rename_i hy
   cases hz
   exact QTri.stack h fun p e R s mid args below meth c T locs cells slots C target hx hZ hby hown X hR hL k => iremM X hx rfl (hb hby hd) rfl hy k
 ·obtain ⟨x, S', rfl, rfl⟩ := quni_inv hs -- ineg
  exact QTri.stack h fun p e R s mid args below meth c T locs cells slots C target hx hZ hby hown X hR hL k => XS.ineg X.here hx rfl (hb hby hd) rfl k
 ·obtain ⟨x, S', rfl, rfl⟩ := quni_inv hs
  exact QTri.stack h fun p e R s mid args below meth c T locs cells slots C target hx hZ hby hown X hR hL k => XT.i2l X.here hx rfl (hb hby hd) rfl k
 ·obtain ⟨x, S', rfl, rfl⟩ := quni_inv hs
  exact QTri.stack h fun p e R s mid args below meth c T locs cells slots C target hx hZ hby hown X hR hL k => XT.i2b X.here hx rfl (hb hby hd) rfl k
 ·obtain ⟨x, S', rfl, rfl⟩ := quniJ_inv hs
  exact QTri.stack h fun p e R s mid args below meth c T locs cells slots C target hx hZ hby hown X hR hL k => XT.l2i X.here hx rfl (hb hby hd) rfl k
 ·obtain ⟨x, S', rfl, rfl⟩ := quniJ_inv hs
  exact QTri.stack h fun p e R s mid args below meth c T locs cells slots C target hx hZ hby hown X hR hL k => XT.lneg X.here hx rfl (hb hby hd) rfl k
 ·obtain ⟨x, y, S', rfl, rfl⟩ := qbinJ_inv hs
  exact QTri.stack h fun p e R s mid args below meth c T locs cells slots C target hx hZ hby hown X hR hL k => XT.ladd X.here hx rfl (hb hby hd) rfl k
 ·obtain ⟨x, y, S', rfl, rfl⟩ := qbinJ_inv hs
  exact QTri.stack h fun p e R s mid args below meth c T locs cells slots C target hx hZ hby hown X hR hL k => XT.lsub X.here hx rfl (hb hby hd) rfl k
 ·obtain ⟨x, y, S', rfl, rfl⟩ := qbinJ_inv hs
  exact QTri.stack h fun p e R s mid args below meth c T locs cells slots C target hx hZ hby hown X hR hL k => XT.lmul X.here hx rfl (hb hby hd) rfl k
 ·obtain ⟨x, y, S', rfl, rfl⟩ := qbinJ_inv hs
  exact QTri.stack h fun p e R s mid args below meth c T locs cells slots C target hx hZ hby hown X hR hL k => XT.land X.here hx rfl (hb hby hd) rfl k
 ·obtain ⟨x, y, S', rfl, rfl⟩ := qbinJ_inv hs
  exact QTri.stack h fun p e R s mid args below meth c T locs cells slots C target hx hZ hby hown X hR hL k => XT.lor X.here hx rfl (hb hby hd) rfl k
 ·obtain ⟨x, y, S', rfl, rfl⟩ := qbinJ_inv hs
  exact QTri.stack h fun p e R s mid args below meth c T locs cells slots C target hx hZ hby hown X hR hL k => XT.lxor X.here hx rfl (hb hby hd) rfl k
 ·obtain ⟨x, y, S', rfl, rfl⟩ := qshJ_inv hs
  exact QTri.stack h fun p e R s mid args below meth c T locs cells slots C target hx hZ hby hown X hR hL k => XT.lshl X.here hx rfl (hb hby hd) rfl k
 ·obtain ⟨x, y, S', rfl, rfl⟩ := qshJ_inv hs
  exact QTri.stack h fun p e R s mid args below meth c T locs cells slots C target hx hZ hby hown X hR hL k => XT.lshr X.here hx rfl (hb hby hd) rfl k
 ·obtain ⟨x, y, S', rfl, rfl⟩ := qshJ_inv hs
  exact QTri.stack h fun p e R s mid args below meth c T locs cells slots C target hx hZ hby hown X hR hL k => XT.lushr X.here hx rfl (hb hby hd) rfl k
 ·split at hs -- lcmp
  ·cases hs
   exact QTri.stack h fun p e R s mid args below meth c T locs cells slots C target hx hZ hby hown X hR hL k => XT.lcmp X.here hx rfl (hb hby hd) rfl k
  ·cases hs
 ·cases hs -- goto
  obtain ⟨t1, t2⟩ := qtgt_spec hr
  exact QTri.stack h fun p e R s mid args below meth c T locs cells slots C target hx hZ hby hown X hR hL k => XS.goto X.here hx rfl rfl (hb hby hd) t1 t2 k
 ·obtain ⟨x, S', rfl, rfl⟩ := qif_inv hs
  obtain ⟨t1, t2⟩ := qtgt_spec hr
  cases hh : ifCond.holds _ x with
  | true => rw [hh] at h; exact QTri.stack h fun p e R s mid args below meth c T locs cells slots C target hx hZ hby hown X hR hL k => XS.ifYes X.here hx rfl rfl (hb hby hd) rfl hh t1 t2 k
  | false => rw [hh] at h; exact QTri.stack h fun p e R s mid args below meth c T locs cells slots C target hx hZ hby hown X hR hL k => XS.ifNo X.here hx rfl (hb hby hd) rfl hh k
 ·obtain ⟨x, y, S', rfl, rfl⟩ := qicmp_inv hs
  obtain ⟨t1, t2⟩ := qtgt_spec hr
  cases hh : if_icmp.holds _ x y with
  | true => rw [hh] at h; exact QTri.stack h fun p e R s mid args below meth c T locs cells slots C target hx hZ hby hown X hR hL k => XS.icmpYes X.here hx rfl rfl (hb hby hd) rfl hh t1 t2 k
  | false => rw [hh] at h; exact QTri.stack h fun p e R s mid args below meth c T locs cells slots C target hx hZ hby hown X hR hL k => XS.icmpNo X.here hx rfl (hb hby hd) rfl hh k
 ·unfold qdup at hs
  split at hs
  ·cases hs
   exact QTri.stack h fun p e R s mid args below meth c T locs cells slots C target hx hZ hby hown X hR hL k => XS.dup X.here hx rfl (hb hby hd) rfl rfl k
  ·cases hs
   exact QTri.stack h fun p e R s mid args below meth c T locs cells slots C target hx hZ hby hown X hR hL k => XS.dup X.here hx rfl (hb hby hd) rfl rfl k
  ·cases hs
 ·unfold qdup2 at hs
  split at hs
  ·cases hs
   exact QTri.stack h fun p e R s mid args below meth c T locs cells slots C target hx hZ hby hown X hR hL k => XT.dup2 X.here hx rfl (hb hby hd) rfl rfl rfl k
  ·cases hs
   exact QTri.stack h fun p e R s mid args below meth c T locs cells slots C target hx hZ hby hown X hR hL k => XT.dup2 X.here hx rfl (hb hby hd) rfl rfl rfl k
  ·cases hs
   exact QTri.stack h fun p e R s mid args below meth c T locs cells slots C target hx hZ hby hown X hR hL k => XT.dup2L X.here hx rfl (hb hby hd) rfl k
  ·cases hs
 ·unfold qpop at hs
  split at hs
  ·cases hs
   exact QTri.stack h fun p e R s mid args below meth c T locs cells slots C target hx hZ hby hown X hR hL k => XT.pop X.here hx rfl (hb hby hd) rfl rfl k
  ·cases hs
   exact QTri.stack h fun p e R s mid args below meth c T locs cells slots C target hx hZ hby hown X hR hL k => XT.pop X.here hx rfl (hb hby hd) rfl rfl k
  ·cases hs
 ·exact QTri.getfield W h hc hs
 ·exact QTri.putfield Ad W h hc hs
 ·exact QTri.iaload h hc hs
 ·exact QTri.baload h hc hs
 ·exact QTri.laload h hc hs
 ·exact QTri.iastore Ad h hc hs
 ·exact QTri.bastore Ad h hc hs
 ·exact QTri.lastore Ad h hc hs
 ·exact QTri.alen h hc hs
 ·-- newarray
  unfold qnewA at hs
  split at hs
  ·split at hs
   ·obtain ⟨k, hk, hs⟩ := Option.bind_eq_some_iff.mp hs
    cases hs
    exact QTri.newArr (c := .inr (.inl (.int, List.replicate k 0))) Ad W hk hc (by simp [qsz]) (fun h' a cA A => ⟨_, A, by simp [newA, (qnew_inv hk).2.1]; exact Or.inr rfl⟩) h
   ·obtain ⟨k, hk, hs⟩ := Option.bind_eq_some_iff.mp hs
    cases hs
    exact QTri.newArr (c := .inr (.inl (.boolean, List.replicate k 0))) Ad W hk hc (by simp [qsz]) (fun h' a cA A => ⟨_, A, by simp [newA, (qnew_inv hk).2.1]; exact Or.inr rfl⟩) h
   ·obtain ⟨k, hk, hs⟩ := Option.bind_eq_some_iff.mp hs
    cases hs
    exact QTri.newArr (c := .inr (.inl (.byte, List.replicate k 0))) Ad W hk hc (by simp [qsz]) (fun h' a cA A => ⟨_, A, by simp [newA, (qnew_inv hk).2.1]; exact Or.inr rfl⟩) h
   ·obtain ⟨k, hk, hs⟩ := Option.bind_eq_some_iff.mp hs
    cases hs
    exact QTri.newArr (c := .inr (.inr (List.replicate k 0))) Ad W hk hc (by simp [qsz]) (fun h' a cA A => ⟨_, A, by simp [newA, (qnew_inv hk).2.1]; exact Or.inr rfl⟩) h
   ·cases hs
  ·cases hs
 ·cases hs; exact QTri.newObj Ad W h hc
 ·cases hs
theorem QTri.steps (Ad : QAd n0 ad) (W : QW Z a0) : ∀ (n : Nat) {st st' : QSt}, qsteps m n st = some st' → QTri l Z n0 ad m st' v σ' → QTri l Z n0 ad m st v σ'
 | 0, st, st', h, k => by cases h; exact k
 | n + 1, st, st', h, k => by
  simp only [qsteps] at h
  split at h
  ·rename_i st₁ h1
   exact QTri.step Ad W (QTri.steps Ad W n h k) h1
  ·cases h
def lmask : List Bool → QLoc → QLoc
 | b :: t, x :: u => (bif b then x else none) :: lmask t u
 | _, L => L.map fun _ => none
theorem lmask_len : ∀ (b : List Bool) (L : QLoc), (lmask b L).length = L.length
 | [], L => by simp [lmask]
 | _ :: _, [] => by simp [lmask]
 | _ :: t, _ :: u => by simp [lmask, lmask_len t u]
theorem lmask_get : ∀ (b : List Bool) (L : QLoc) (k : Nat) (v : Value), lget (lmask b L) k = some v → lget L k = some v
 | [], L, k, v, h => by
  simp only [lmask, lget_eq, List.getElem?_map] at h
  cases hq : L[k]? <;> simp [hq] at h
 | _ :: _, [], k, v, h => by simp [lmask, lget] at h
 | b :: t, x :: u, 0, v, h => by
  simp only [lmask, lget] at h ⊢
  cases b
  ·cases h
  ·exact h
 | b :: t, x :: u, k + 1, v, h => by
  simp only [lmask, lget] at h ⊢
  exact lmask_get t u k v h
theorem QTri.mask {pc : Nat} {L : QLoc} {S : List Value} {σ : QHeap} (b : List Bool) (h : QTri l Z n0 ad m (pc, lmask b L, S, σ) v σ') : QTri l Z n0 ad m (pc, L, S, σ) v σ' :=
 QTri.frame h fun p e R s mid args below meth c T locs cells slots C hcx X hR hL hC => ⟨C, ⟨by rw [lmask_len]; exact hL.1, fun k u hk => hL.2.1 k u (lmask_get b L k u hk), hL.2.2⟩, hC, fun target k => k⟩
theorem QTri.ret0 {pc aux : Nat} {L : QLoc} {σ : QHeap} (hc : pCode m pc = some (.return_, aux)) (hr : pRet m = none) : QTri l Z n0 ad m (pc, L, [], σ) none σ :=
 have hd : decode (pBytes m) pc = .ok (.return_, 1) := pDecN hc rfl
 ⟨Nat.le_refl _, Nat.le_refl _, fun p e R s mid args below meth c T locs cells slots C hcx X hR hF hL hC hn hc1 hsl => ⟨T, locs, by simpa using X, hR, hF, fun fs hf => X.returnOut hcx.1 (hcx.2.2.2.2.1.trans hr) (hb hcx.2.2.1 hd) hf⟩⟩
theorem QTri.retI {pc aux : Nat} {L : QLoc} {S : List Value} {σ : QHeap} {x : Int32} (hc : pCode m pc = some (.ireturn, aux)) (hr : pRet m = some .int) : QTri l Z n0 ad m (pc, L, .int x :: S, σ) (some (.int x)) σ :=
 have hd : decode (pBytes m) pc = .ok (.ireturn, 1) := pDecN hc rfl
 ⟨Nat.le_refl _, Nat.le_refl _, fun p e R s mid args below meth c T locs cells slots C hcx X hR hF hL hC hn hc1 hsl => ⟨T, locs, by simpa using X, hR, hF, fun fs hf => Jvm.RoadKit.retI X hcx.1 (hcx.2.2.2.2.1.trans hr) (hb hcx.2.2.1 hd) hf⟩⟩
theorem QTri.retZ {pc aux : Nat} {L : QLoc} {S : List Value} {σ : QHeap} {x : Int32} (hc : pCode m pc = some (.ireturn, aux)) (hr : pRet m = some .boolean) : QTri l Z n0 ad m (pc, L, .int x :: S, σ) (some (.int (x &&& 1))) σ :=
 have hd : decode (pBytes m) pc = .ok (.ireturn, 1) := pDecN hc rfl
 ⟨Nat.le_refl _, Nat.le_refl _, fun p e R s mid args below meth c T locs cells slots C hcx X hR hF hL hC hn hc1 hsl => ⟨T, locs, by simpa using X, hR, hF, fun fs hf => retN X hcx.1 (t := .boolean) (hcx.2.2.2.2.1.trans hr) (by simp) (hb hcx.2.2.1 hd) hf⟩⟩
theorem QTri.retJ {pc aux : Nat} {L : QLoc} {S : List Value} {σ : QHeap} {x : Int64} (hc : pCode m pc = some (.lreturn, aux)) (hr : pRet m = some .long) : QTri l Z n0 ad m (pc, L, .long x :: S, σ) (some (.long x)) σ :=
 have hd : decode (pBytes m) pc = .ok (.lreturn, 1) := pDecN hc rfl
 ⟨Nat.le_refl _, Nat.le_refl _, fun p e R s mid args below meth c T locs cells slots C hcx X hR hF hL hC hn hc1 hsl => ⟨T, locs, by simpa using X, hR, hF, fun fs hf => retOut X hcx.1 (t := .long) (hcx.2.2.2.2.1.trans hr) rfl (Or.inr (Or.inl ⟨rfl, rfl, _, rfl⟩)) (hb hcx.2.2.1 hd) hf⟩⟩
def LOk (ad : Nat → Addr) (L : QLoc) (C : List Slot) : Prop :=
 L.length = C.length ∧ (∀ k v, lget L k = some v → C[k]? = some (.val (qv ad v))) ∧ (∀ k w, C[k]? = some (.val w) → w.category = 2 → C[k + 1]? = some .second) ∧ ∀ k, C[k]? = some .second → ∃ j w, k = j + 1 ∧ C[j]? = some (.val w) ∧ w.category = 2
theorem LOk.base (ad : Nat → Addr) (n : Nat) : LOk ad (List.replicate n none) (List.replicate n .unset) := by
 refine ⟨by simp, fun k u h => ?_, fun k w h => ?_, fun k h => ?_⟩
 ·rw [lget_eq] at h
  rcases Nat.lt_or_ge k n with q | q
  ·simp [List.getElem?_replicate, q] at h
  ·simp [List.getElem?_eq_none, q] at h
 ·rcases Nat.lt_or_ge k n with q | q
  ·simp [List.getElem?_replicate, q] at h
  ·simp [List.getElem?_eq_none, q] at h
 ·rcases Nat.lt_or_ge k n with q | q
  ·simp [List.getElem?_replicate, q] at h
  ·simp [List.getElem?_eq_none, q] at h
theorem LOk.one {L : QLoc} {C : List Slot} (H : LOk ad L C) {u : Value} (hu : u.category = 1) : LOk ad (some u :: L) (.val (qv ad u) :: C) := by
 obtain ⟨h1, h2, h3, h4⟩ := H
 refine ⟨by simp [h1], fun k w h => ?_, fun k w h hw => ?_, fun k h => ?_⟩
 ·cases k with
  | zero => simp only [lget] at h; cases h; simp
  | succ k => simp only [lget] at h; simpa using h2 k w h
 ·cases k with
  | zero => simp at h; rw [← h, qv_cat, hu] at hw; cases hw
  | succ k => simpa using h3 k w (by simpa using h) hw
 ·cases k with
  | zero => simp at h
  | succ k =>
   obtain ⟨j, w, z1, z2, z3⟩ := h4 k (by simpa using h)
   exact ⟨j + 1, w, by omega, by simpa using z2, z3⟩
theorem LOk.two {L : QLoc} {C : List Slot} (H : LOk ad L C) {u : Value} (hu : u.category = 2) : LOk ad (some u :: none :: L) (.val (qv ad u) :: .second :: C) := by
 obtain ⟨h1, h2, h3, h4⟩ := H
 refine ⟨by simp [h1], fun k w h => ?_, fun k w h hw => ?_, fun k h => ?_⟩
 ·rcases k with _ | _ | k
  ·simp only [lget] at h; cases h; simp
  ·simp [lget] at h
  ·simp only [lget] at h; simpa using h2 k w h
 ·rcases k with _ | _ | k
  ·simp
  ·simp at h
  ·simpa using h3 k w (by simpa using h) hw
 ·rcases k with _ | _ | k
  ·simp at h
  ·exact ⟨0, qv ad u, rfl, by simp, by rw [qv_cat]; exact hu⟩
  ·obtain ⟨j, w, z1, z2, z3⟩ := h4 k (by simpa using h)
   exact ⟨j + 2, w, by omega, by simpa using z2, z3⟩
def slotsOf (u : Value) : List Slot := if u.category = 2 then [.val u, .second] else [.val u]
theorem fold_slots : ∀ (as : List Value) (acc : Array Slot), (as.foldl (fun acc v => if v.category = 2 then (acc.push (.val v)).push .second else acc.push (.val v)) acc).toList = acc.toList ++ as.flatMap slotsOf
 | [], acc => by simp
 | u :: t, acc => by
  rw [List.foldl_cons, fold_slots t]
  by_cases hc : u.category = 2 <;> simp [slotsOf, hc]
theorem slots_len : ∀ (as : List Value), (as.flatMap slotsOf).length = (as.map fun v => v.category).sum
 | [] => rfl
 | u :: t => by
  rw [List.flatMap_cons, List.length_append, slots_len t, List.map_cons, List.sum_cons]
  cases u <;> simp [slotsOf, Value.category]
theorem cats_qv (as : List Value) : ((as.map (qv ad)).map fun v => v.category).sum = (as.map fun v => v.category).sum := by
 rw [List.map_map]
 congr 1
 exact List.map_congr_left fun x _ => qv_cat ad x
theorem entry_list : ∀ (as : List Value) (n : Nat), LOk ad ((as.flatMap fun v => match v with | .long x => [some (.long x), none] | .double x => [some (.double x), none] | v => [some v]) ++ List.replicate n none) ((as.map (qv ad)).flatMap slotsOf ++ List.replicate n .unset)
 | [], n => by simpa using LOk.base ad n
 | u :: t, n => by
  have ih := entry_list t n
  cases u with
  | long x => exact LOk.two ih rfl
  | double x => exact LOk.two ih rfl
  | int x => exact LOk.one ih rfl
  | float x => exact LOk.one ih rfl
  | null => exact LOk.one ih rfl
  | ref x => exact LOk.one ih rfl
  | retAddr x => exact LOk.one ih rfl
theorem qentry_ok (as : List Value) (mx : Nat) (h : (as.map fun v => v.category).sum ≤ mx) : QLocOk ad (qentry as mx) (argsToLocals (as.map (qv ad)).toArray mx) ∧ (argsToLocals (as.map (qv ad)).toArray mx).size = mx := by
 have e : (argsToLocals (as.map (qv ad)).toArray mx).toList = (as.map (qv ad)).flatMap slotsOf ++ List.replicate (mx - (as.map fun v => v.category).sum) .unset := by
  unfold argsToLocals
  have q := fold_slots (as.map (qv ad)) #[]
  simp only [List.foldl_toArray', Array.toList_append, Array.toList_replicate]
  have q2 : ((as.map (qv ad)).foldl (fun (acc : Array Slot) (v : Value) => if v.category = 2 then (acc.push (.val v)).push .second else acc.push (.val v)) #[]).size = (as.map fun v => v.category).sum := by
   rw [← Array.length_toList, q]
   simp only [List.nil_append]
   rw [slots_len, cats_qv]
  rw [q, q2]
  simp
 have H := entry_list (ad := ad) as (mx - (as.map fun v => v.category).sum)
 rw [← e] at H
 obtain ⟨h1, h2, h3, h4⟩ := H
 have hs : (argsToLocals (as.map (qv ad)).toArray mx).size = mx := by
  rw [← Array.length_toList, e, List.length_append, slots_len, cats_qv, List.length_replicate]
  omega
 refine ⟨⟨h1.trans Array.length_toList, fun k u hk => ?_, fun k w hk hw => ?_, fun k hk => ?_⟩, hs⟩
 ·have := h2 k u hk; rwa [Array.getElem?_toList] at this
 ·have := h3 k w (by rw [Array.getElem?_toList]; exact hk) hw; rwa [Array.getElem?_toList] at this
 ·obtain ⟨j, w, z1, z2, z3⟩ := h4 k (by rw [Array.getElem?_toList]; exact hk)
  exact ⟨j, w, z1, by rwa [Array.getElem?_toList] at z2, z3⟩
set_option maxHeartbeats 4000000 in
theorem QTri.met {k : Nat} {as : List Value} {σ σ₁ : QHeap} {w : Option Value} {h0 : Heap} (hk : k < pN) (h : QTri l Z n0 ad k (0, qentry as (pMaxL k), [], σ) w σ₁) (hR : QRep Z n0 ad h0 σ) (hlen : (as.map fun v => v.category).sum ≤ pMaxL k) (hret : pRet k = none → w = none) (ws : List Jvm.Cond) {rm : Room}
  (r1 : pFr k ≤ rm.frames) (r2 : pLo k ≤ rm.locals) (r3 : σ₁.length - σ.length ≤ rm.cells) (r4 : qhs σ₁ - qhs σ ≤ rm.slots) :
  MetFree l (pName k) (head1 (Jvm.Cond.code (pName k) (pBytes k) (pMaxL k) (pRet k) :: ws) rm) (fun a U => a = (as.map (qv ad)).toArray ∧ Z.Warmed39 U.vm ∧ U.heap = h0) (fun _ _ _ _ _ => True)
   (fun _ U o U' => ∃ v L, o = .returned v ∧ (v = w.map (qv ad) ∧ QRep Z n0 ad U'.heap σ₁ ∧ Fr n0 L) ∧ FrameEnd U o U' L (σ₁.length - σ.length) (qhs σ₁ - qhs σ)) := by
 refine MetFree.of_bodySF (plainFor_of_name (kPlain _ (pKlt k hk))) hisR ?_
 intro p e s mid args below meth c s₁ Bd hml0 hP hK
 obtain ⟨rfl, hZ, hh⟩ := hP
 have e0 : s₁.heap = h0 := by rw [← hh, Bd.state]; rfl
 obtain ⟨hl1, hl2⟩ := qentry_ok (ad := ad) as (pMaxL k) hlen
 have hX : Stand p l e rm s mid (as.map (qv ad)).toArray below meth c s₁ [] 0 0 := Stand.of_body Bd
 obtain ⟨T', locs', X', R', F', S'⟩ := h.2.2 p e rm s mid _ below meth c s₁ [] 0 0 _ ⟨Bd.exec, hZ, Bd.bytes, hml0, Bd.returns, findClass_of_methodNamed Bd.named, (name_of_methodNamed Bd.named Bd.method).1, r1, r2⟩ hX (by rw [e0]; exact hR) (Fr.nil _) hl1 (hl2.trans hml0.symm) (by rw [hh, Nat.add_zero]; exact hR.2.1.symm) (by rw [Nat.zero_add]; exact r3) (by rw [Nat.zero_add]; exact r4)
 obtain ⟨fs, hr, hrun, hended, hW, hsame⟩ := X'.leave (v := w.map (qv ad)) (fun q => by rw [hret (Bd.returns.symm.trans q)]; rfl)
 refine ⟨_, _, S' fs hr, hrun, hended, _, _, rfl, ⟨rfl, R', F'⟩, ⟨_, rfl⟩, hW, ?_⟩
 simp only [Nat.zero_add] at hsame
 exact hsame
theorem QTri.room {k : Nat} {σ σ₁ : QHeap} {rest : List Value} {R : Room} (hroom : (Nat.ble (pFr k + 1) (pFr m) && Nat.ble ((rest.map fun v => v.category).sum + (pMaxL k + 11) + pLo k) (pLo m)) = true) (hfr : pFr m ≤ R.frames) (hlo : pLo m ≤ R.locals) :
  pFr k + 1 ≤ R.frames ∧ (rest.map fun v => v.category).sum + (pMaxL k + 11) + pLo k ≤ R.locals := by
 obtain ⟨q1, q2⟩ := Bool.and_eq_true_iff.mp hroom
 exact ⟨Nat.le_trans (Nat.le_of_ble_eq_true q1) hfr, Nat.le_trans (Nat.le_of_ble_eq_true q2) hlo⟩
theorem sig_len {k : Nat} (hk : k < pN) {as : List Value} (hna : as.length = pNA k) : ∀ sig, parseMethodDescriptor (pName k).desc = some sig → (as.map (qv ad)).length = sig.parameters.length := fun sig hs => by
 have q := pSig k hk
 rw [show parseMethodDescriptor (pDs k) = some sig from hs] at q
 simp at q
 simp [hna, q]
theorem ret_map (w : Option Value) (rest : List Value) : (w.toList ++ rest).map (qv ad) = (w.map (qv ad)).toList ++ rest.map (qv ad) := by cases w <;> simp
theorem QTri.after {as0 : List Value} {pc : Nat} {L : QLoc} {S rest : List Value} {σ σ₁ : QHeap} {w : Option Value} {k : Nat} (hcal : QTri l Z n0 ad k (0, qentry as0 (pMaxL k), [], σ) w σ₁) (h : QTri l Z n0 ad m (pc + 3, L, w.toList ++ rest, σ₁) v σ')
  (hs : ∀ (p : Program) (e : Env) (R : Room) (s : State) (mid : MethodId) (args : Array Value) (below : List Frame) (meth : Method) (c : Code) (T : State) (locs : List Loc) (cells slots : Nat) (C : Array Slot),
   QCx Z p R s mid meth c m → Stand p l e R s mid args below meth c T locs cells slots → QRep Z n0 ad T.heap σ → C.size = c.maxLocals → cells + (σ₁.length - σ.length) ≤ R.cells → slots + (qhs σ₁ - qhs σ) ≤ R.slots →
   ∃ T₁ Lc, Stand p l e R s mid args below meth c T₁ (locs ++ Lc) (cells + (σ₁.length - σ.length)) (slots + (qhs σ₁ - qhs σ)) ∧ QRep Z n0 ad T₁.heap σ₁ ∧ Fr n0 Lc ∧
    ∀ target, Steps p.tables e below (T₁.setTop (mkF mid (pc + 3) C ((w.map (qv ad)).toList ++ rest.map (qv ad)))) target → Steps p.tables e below (T.setTop (mkF mid pc C (S.map (qv ad)))) target) :
  QTri l Z n0 ad m (pc, L, S, σ) v σ' := by
 refine QTri.gen h hcal.1 hcal.2.1 fun p e R s mid args below meth c T locs cells slots C hcx X hR hF hL hC hn hc1 hsl => ?_
 obtain ⟨T₁, Lc, X₁, R₁, F₁, st⟩ := hs p e R s mid args below meth c T locs cells slots C hcx X hR hC hc1 hsl
 refine ⟨T₁, locs ++ Lc, C, X₁, R₁, hF.app F₁, hL, hC, fun target q => st target ?_⟩
 rw [← ret_map]
 exact q
set_option maxHeartbeats 4000000 in
theorem QTri.callV (W : QW Z a0) {pc idx k a : Nat} {L : QLoc} {S as rest vs : List Value} {σ σ₁ : QHeap} {w : Option Value} (hc : pCode m pc = some (.invokevirtual idx, k)) (hm : (lkV.contains (pK m, idx, k) && mV.contains k) = true) (hcell : hget σ a = some (.inl vs)) (hS : S = as.reverse ++ .ref a :: rest)
  (hna : as.length = pNA k) (hlen : Nat.ble (((Value.ref a :: as).map fun v => v.category).sum) (pMaxL k) = true) (hroom : (Nat.ble (pFr k + 1) (pFr m) && Nat.ble ((rest.map fun v => v.category).sum + (pMaxL k + 11) + pLo k) (pLo m)) = true) (hrb : (w.isNone || (pRet k).isSome) = true)
  (hcal : QTri l Z n0 ad k (0, qentry (.ref a :: as) (pMaxL k), [], σ) w σ₁) (h : QTri l Z n0 ad m (pc + 3, L, w.toList ++ rest, σ₁) v σ') : QTri l Z n0 ad m (pc, L, S, σ) v σ' := by
 have hd : decode (pBytes m) pc = .ok (.invokevirtual idx, 3) := pDecN hc rfl
 subst hS
 obtain ⟨m1, m2⟩ := Bool.and_eq_true_iff.mp hm
 have m1 := mem_of_contains m1
 have m2 := mem_of_contains m2
 have hkA := (mVlt k m2).1
 have hkN := mAlt k hkA
 have hret : pRet k = none → w = none := fun q => by
  rw [q] at hrb
  cases w with
  | none => rfl
  | some w => simp at hrb
 refine QTri.after hcal h fun p e R s mid args below meth c T locs cells slots C hcx X hR hC hc1 hsl => ?_
 obtain ⟨hx, hZ, hby, hml, hret', hown, hnm, hfr, hlo⟩ := hcx
 have hd2 : decode c.code pc = .ok (.invokevirtual idx, 3) := by rw [hby]; exact hd
 obtain ⟨f1, f2⟩ := QTri.room (σ := σ) (σ₁ := σ₁) hroom hfr hlo
 obtain ⟨cq, kq, q1, q2, q3⟩ := isOf hZ rfl (hR.2.2 _ _ hcell).1
 obtain ⟨w1, w2, w3⟩ := (qw_vi W) k m2
 obtain ⟨c1, c2⟩ := (qw_cod W) k hkA
 obtain ⟨_, _, ⟨T₁, L₁, k₁, n₁⟩, -, X₁, ⟨Lc, ⟨rfl, hR1, hF1⟩, l₁, y₁, z₁⟩, st⟩ := X.virtualBack hx (own := kName (pK m)) (index := idx) (y := pName k) (z := pName k) hown (mvT hZ (qw_ml W (pK m, idx, k) m1)) (mvT hZ w1) (notFace_of_selects (args := #[]) (mvT hZ w2)) (mvT hZ w2) (mvT hZ w3) (pOwn _ (pKlt k hkN))
  (backOf (W := (rest.map fun v => v.category).sum) (rm := ⟨pFr k, σ₁.length - σ.length, qhs σ₁ - qhs σ, pLo k⟩) (Q := fun v h L => v = Option.map (qv ad) w ∧ QRep Z n0 ad h σ₁ ∧ Fr n0 L) (QTri.met hkN hcal hR (Nat.le_of_ble_eq_true hlen) hret [] (Nat.le_refl _) (Nat.le_refl _) (Nat.le_refl _) (Nat.le_refl _)) hZ c1 c2 f1 f2) q1 q3 (g := mkF mid pc C (List.map (qv ad) (as.reverse ++ .ref a :: rest))) rfl hC (Steps.refl _) (argsL := as.map (qv ad)) (rest := rest.map (qv ad)) (sig_len hkN hna) (by simp [qv]) (by show 2 * 0 + _ ≤ _; rw [cats_qv]; omega) hd2 (fun _ _ => ⟨rfl, rfl, hc1, hsl⟩)
 dsimp only [Pt.U, Pt.locs, Pt.cells, Pt.slots] at X₁ l₁ y₁ z₁ st hR1
 subst l₁ y₁ z₁
 exact ⟨T₁, Lc, X₁, hR1, hF1, fun target q => st.trans q⟩
set_option maxHeartbeats 4000000 in
theorem QTri.callI (W : QW Z a0) {pc idx k a : Nat} {L : QLoc} {S as rest : List Value} {σ σ₁ : QHeap} (hc : pCode m pc = some (.invokespecial idx, k)) (hm : (lkV.contains (pK m, idx, k) && mI.contains k) = true) (hS : S = as.reverse ++ .ref a :: rest)
  (hna : as.length = pNA k) (hlen : Nat.ble (((Value.ref a :: as).map fun v => v.category).sum) (pMaxL k) = true) (hroom : (Nat.ble (pFr k + 1) (pFr m) && Nat.ble ((rest.map fun v => v.category).sum + (pMaxL k + 11) + pLo k) (pLo m)) = true)
  (hcal : QTri l Z n0 ad k (0, qentry (.ref a :: as) (pMaxL k), [], σ) none σ₁) (h : QTri l Z n0 ad m (pc + 3, L, rest, σ₁) v σ') : QTri l Z n0 ad m (pc, L, S, σ) v σ' := by
 have hd : decode (pBytes m) pc = .ok (.invokespecial idx, 3) := pDecN hc rfl
 subst hS
 obtain ⟨m1, m2⟩ := Bool.and_eq_true_iff.mp hm
 have m1 := mem_of_contains m1
 have m2 := mem_of_contains m2
 obtain ⟨hkA, -, hin, hrt⟩ := mIlt k m2
 have hkN := mAlt k hkA
 refine QTri.after (w := none) hcal h fun p e R s mid args below meth c T locs cells slots C hcx X hR hC hc1 hsl => ?_
 obtain ⟨hx, hZ, hby, hml, hret', hown, hnm, hfr, hlo⟩ := hcx
 have hd2 : decode c.code pc = .ok (.invokespecial idx, 3) := by rw [hby]; exact hd
 obtain ⟨f1, f2⟩ := QTri.room (σ := σ) (σ₁ := σ₁) hroom hfr hlo
 obtain ⟨c1, c2⟩ := (qw_cod W) k hkA
 have c1' := c1
 rw [hrt] at c1'
 obtain ⟨_, _, ⟨T₁, L₁, k₁, n₁⟩, -, X₁, ⟨Lc, ⟨rfl, hR1, hF1⟩, l₁, y₁, z₁⟩, st⟩ := X.specialBack hx (own := kName (pK m)) (index := idx) (y := pName k) hin hown (mvT hZ (qw_ml W (pK m, idx, k) m1)) (mvT hZ ((qw_ini W) k m2)) (mvT hZ c1') (pOwn _ (pKlt k hkN))
  (backOf (W := (rest.map fun v => v.category).sum) (rm := ⟨pFr k, σ₁.length - σ.length, qhs σ₁ - qhs σ, pLo k⟩) (Q := fun v h L => v = Option.map (qv ad) none ∧ QRep Z n0 ad h σ₁ ∧ Fr n0 L) (QTri.met hkN hcal hR (Nat.le_of_ble_eq_true hlen) (fun _ => rfl) [] (Nat.le_refl _) (Nat.le_refl _) (Nat.le_refl _) (Nat.le_refl _)) hZ c1 c2 f1 f2) (g := mkF mid pc C (List.map (qv ad) (as.reverse ++ .ref a :: rest))) rfl hC (Steps.refl _) (a := ad a) (argsL := as.map (qv ad)) (rest := rest.map (qv ad)) (sig_len hkN hna) (by simp [qv]) (by show 2 * 0 + _ ≤ _; rw [cats_qv]; omega) hd2 (fun _ _ => ⟨rfl, rfl, hc1, hsl⟩)
 dsimp only [Pt.U, Pt.locs, Pt.cells, Pt.slots] at X₁ l₁ y₁ z₁ st hR1
 subst l₁ y₁ z₁
 exact ⟨T₁, Lc, X₁, hR1, hF1, fun target q => st.trans q⟩
set_option maxHeartbeats 4000000 in
theorem QTri.callP (W : QW Z a0) {pc idx k a : Nat} {L : QLoc} {S as rest vs : List Value} {σ σ₁ : QHeap} {w : Option Value} (hc : pCode m pc = some (.invokevirtual idx, k)) (hm : (lkV.contains (pK m, idx, k) && mP.contains k) = true) (hcell : hget σ a = some (.inl vs)) (hS : S = as.reverse ++ .ref a :: rest)
  (hna : as.length = pNA k) (hlen : Nat.ble (((Value.ref a :: as).map fun v => v.category).sum) (pMaxL k) = true) (hroom : (Nat.ble (pFr k + 1) (pFr m) && Nat.ble ((rest.map fun v => v.category).sum + (pMaxL k + 11) + pLo k) (pLo m)) = true) (hrb : (w.isNone || (pRet k).isSome) = true)
  (hcal : QTri l Z n0 ad k (0, qentry (.ref a :: as) (pMaxL k), [], σ) w σ₁) (h : QTri l Z n0 ad m (pc + 3, L, w.toList ++ rest, σ₁) v σ') : QTri l Z n0 ad m (pc, L, S, σ) v σ' := by
 have hd : decode (pBytes m) pc = .ok (.invokevirtual idx, 3) := pDecN hc rfl
 subst hS
 obtain ⟨m1, m2⟩ := Bool.and_eq_true_iff.mp hm
 have m1 := mem_of_contains m1
 have m2 := mem_of_contains m2
 obtain ⟨hkA, hk1⟩ := mPlt k m2
 have hkN := mAlt k hkA
 have hret : pRet k = none → w = none := fun q => by
  rw [q] at hrb
  cases w with
  | none => rfl
  | some w => simp at hrb
 refine QTri.after hcal h fun p e R s mid args below meth c T locs cells slots C hcx X hR hC hc1 hsl => ?_
 obtain ⟨hx, hZ, hby, hml, hret', hown, hnm, hfr, hlo⟩ := hcx
 have hd2 : decode c.code pc = .ok (.invokevirtual idx, 3) := by rw [hby]; exact hd
 obtain ⟨f1, f2⟩ := QTri.room (σ := σ) (σ₁ := σ₁) hroom hfr hlo
 obtain ⟨cell, h1, h2⟩ := (hR.2.2 _ _ hcell).1.cell
 obtain ⟨w1, w2⟩ := (qw_pr W) k m2
 obtain ⟨c1, c2⟩ := (qw_cod W) k hkA
 have hpr : s.PrivateAt (pName k) := Cond.privateMethod_at (mvP hZ w2 (args := #[]))
 obtain ⟨cC, kC, i1, i2, i3, i4⟩ := Cond.instantiable_spec (args := #[]) (mvT hZ (qw_inst W))
 have hsel : (Cond.selects (pName k).cls (pName k) (pName k)).before args s = true := selects_self_of_private (c := cC) (k := kC) (by show s.vm.findClass (kName (pK k)) = _; rw [hk1]; exact i1) i2 (by have q := i4.1; cases hq : kC.isInterface with | false => rfl | true => rw [hq] at q; simp at q) hpr (mvT hZ w1) (pOwn _ (pKlt k hkN))
 obtain ⟨_, _, ⟨T₁, L₁, k₁, n₁⟩, -, X₁, ⟨Lc, ⟨rfl, hR1, hF1⟩, l₁, y₁, z₁⟩, st⟩ := X.privateBack hx (own := kName (pK m)) (index := idx) (y := pName k) hown (mvT hZ (qw_ml W (pK m, idx, k) m1)) (mvT hZ w1) hsel hpr (mvT hZ c1) (pOwn _ (pKlt k hkN))
  (backOf (W := (rest.map fun v => v.category).sum) (rm := ⟨pFr k, σ₁.length - σ.length, qhs σ₁ - qhs σ, pLo k⟩) (Q := fun v h L => v = Option.map (qv ad) w ∧ QRep Z n0 ad h σ₁ ∧ Fr n0 L) (QTri.met hkN hcal hR (Nat.le_of_ble_eq_true hlen) hret [] (Nat.le_refl _) (Nat.le_refl _) (Nat.le_refl _) (Nat.le_refl _)) hZ c1 c2 f1 f2) (g := mkF mid pc C (List.map (qv ad) (as.reverse ++ .ref a :: rest))) rfl hC (Steps.refl _) (a := ad a) h1 h2 (argsL := as.map (qv ad)) (rest := rest.map (qv ad)) (sig_len hkN hna) (by simp [qv]) (by show 2 * 0 + _ ≤ _; rw [cats_qv]; omega) hd2 (fun _ _ => ⟨rfl, rfl, hc1, hsl⟩)
 dsimp only [Pt.U, Pt.locs, Pt.cells, Pt.slots] at X₁ l₁ y₁ z₁ st hR1
 subst l₁ y₁ z₁
 exact ⟨T₁, Lc, X₁, hR1, hF1, fun target q => st.trans q⟩
set_option maxHeartbeats 4000000 in
theorem QTri.callS (W : QW Z a0) {pc idx k : Nat} {L : QLoc} {S as rest : List Value} {σ σ₁ : QHeap} {w : Option Value} (hc : pCode m pc = some (.invokestatic idx, k)) (hm : (lkV.contains (pK m, idx, k) && mS.contains k) = true) (hS : S = as.reverse ++ rest)
  (hna : as.length = pNA k) (hlen : Nat.ble ((as.map fun v => v.category).sum) (pMaxL k) = true) (hroom : (Nat.ble (pFr k + 1) (pFr m) && Nat.ble ((rest.map fun v => v.category).sum + (pMaxL k + 11) + pLo k) (pLo m)) = true) (hrb : (w.isNone || (pRet k).isSome) = true)
  (hcal : QTri l Z n0 ad k (0, qentry as (pMaxL k), [], σ) w σ₁) (h : QTri l Z n0 ad m (pc + 3, L, w.toList ++ rest, σ₁) v σ') : QTri l Z n0 ad m (pc, L, S, σ) v σ' := by
 have hd : decode (pBytes m) pc = .ok (.invokestatic idx, 3) := pDecN hc rfl
 subst hS
 obtain ⟨m1, m2⟩ := Bool.and_eq_true_iff.mp hm
 have m1 := mem_of_contains m1
 have m2 := mem_of_contains m2
 have hkA := mSlt k m2
 have hkN := mAlt k hkA
 have hret : pRet k = none → w = none := fun q => by
  rw [q] at hrb
  cases w with
  | none => rfl
  | some w => simp at hrb
 refine QTri.after hcal h fun p e R s mid args below meth c T locs cells slots C hcx X hR hC hc1 hsl => ?_
 obtain ⟨hx, hZ, hby, hml, hret', hown, hnm, hfr, hlo⟩ := hcx
 have hd2 : decode c.code pc = .ok (.invokestatic idx, 3) := by rw [hby]; exact hd
 obtain ⟨f1, f2⟩ := QTri.room (σ := σ) (σ₁ := σ₁) hroom hfr hlo
 obtain ⟨c1, c2⟩ := (qw_cod W) k hkA
 obtain ⟨_, _, ⟨T₁, L₁, k₁, n₁⟩, -, X₁, ⟨Lc, ⟨rfl, hR1, hF1⟩, l₁, y₁, z₁⟩, st⟩ := Jvm.LawKit.callS X hx (own := kName (pK m)) (index := idx) (y := pName k) hown (mvT hZ (qw_ml W (pK m, idx, k) m1)) (mvT hZ ((qw_st W) k m2)) (mvT hZ c2) (mvT hZ c1) (pOwn _ (pKlt k hkN))
  (backOf (W := (rest.map fun v => v.category).sum) (rm := ⟨pFr k, σ₁.length - σ.length, qhs σ₁ - qhs σ, pLo k⟩) (Q := fun v h L => v = Option.map (qv ad) w ∧ QRep Z n0 ad h σ₁ ∧ Fr n0 L) (QTri.met hkN hcal hR (Nat.le_of_ble_eq_true hlen) hret [] (Nat.le_refl _) (Nat.le_refl _) (Nat.le_refl _) (Nat.le_refl _)) hZ c1 c2 f1 f2) (g := mkF mid pc C (List.map (qv ad) (as.reverse ++ rest))) rfl hC (argsL := as.map (qv ad)) (rest := rest.map (qv ad)) (sig_len hkN hna) (by simp) (by show 2 * 0 + _ ≤ _; rw [cats_qv]; omega) hd2 (fun _ _ => ⟨rfl, rfl, hc1, hsl⟩)
 dsimp only [Pt.U, Pt.locs, Pt.cells, Pt.slots] at X₁ l₁ y₁ z₁ st hR1
 subst l₁ y₁ z₁
 exact ⟨T₁, Lc, X₁, hR1, hF1, fun target q => st target q⟩
set_option maxHeartbeats 4000000 in
theorem QTri.callO (W : QW Z a0) {pc idx k a : Nat} {L : QLoc} {rest : List Value} {σ : QHeap} (hc : pCode m pc = some (.invokespecial idx, k)) (hm : lkO.contains (pK m, idx) = true) (hroom : (Nat.ble 1 (pFr m) && Nat.ble ((rest.map fun v => v.category).sum + 12) (pLo m)) = true)
  (h : QTri l Z n0 ad m (pc + 3, L, rest, σ) v σ') : QTri l Z n0 ad m (pc, L, .ref a :: rest, σ) v σ' :=
 have hd : decode (pBytes m) pc = .ok (.invokespecial idx, 3) := pDecN hc rfl
 QTri.pure h rfl fun p e R s mid args below meth c T locs cells slots C hcx X hR hL hC => by
  obtain ⟨hx, hZ, hby, hml, hret', hown, hnm, hfr, hlo⟩ := hcx
  have hd2 : decode c.code pc = .ok (.invokespecial idx, 3) := by rw [hby]; exact hd
  obtain ⟨q1, q2⟩ := Bool.and_eq_true_iff.mp hroom
  obtain ⟨T₁, X₁, e₁, st⟩ := initO X hx hZ hown (idx := idx) (qw_mo W (pK m, idx) (mem_of_contains hm)) ((qw_oi W)) ((qw_oc W)) rfl (g := mkF mid pc C (List.map (qv ad) (.ref a :: rest))) rfl hC rfl hd2 (Nat.le_trans (Nat.le_of_ble_eq_true q1) hfr) (W := (rest.map fun v => v.category).sum) (by show 2 * 0 + _ ≤ _; rw [cats_qv]; omega) (Nat.le_trans (Nat.le_of_ble_eq_true q2) hlo)
  exact ⟨T₁, C, X₁, e₁, hL, hC, st⟩
theorem QTri.brT (Ad : QAd n0 ad) (W : QW Z a0) {st : QSt} {t f : Nat} {L : QLoc} {S : List Value} {σ : QHeap} {b : Bool} (hs : qstep m st = some (bif b then t else f, L, S, σ)) (hb : b = true) (h : QTri l Z n0 ad m (t, L, S, σ) v σ') : QTri l Z n0 ad m st v σ' := by
 subst hb; exact QTri.step Ad W h hs
theorem QTri.brF (Ad : QAd n0 ad) (W : QW Z a0) {st : QSt} {t f : Nat} {L : QLoc} {S : List Value} {σ : QHeap} {b : Bool} (hs : qstep m st = some (bif b then t else f, L, S, σ)) (hb : b = false) (h : QTri l Z n0 ad m (f, L, S, σ) v σ') : QTri l Z n0 ad m st v σ' := by
 subst hb; exact QTri.step Ad W h hs
theorem QTri.bnd {α : Type} (Ad : QAd n0 ad) (W : QW Z a0) {st : QSt} {x : Option α} {f : α → QSt} {a : α} (hs : qstep m st = x.bind fun v => some (f v)) (hx : x = some a) (h : QTri l Z n0 ad m (f a) v σ') : QTri l Z n0 ad m st v σ' :=
 QTri.step Ad W h (by rw [hs, hx]; rfl)
theorem QTri.bndB (Ad : QAd n0 ad) (W : QW Z a0) {st : QSt} {x y : Int32} {g : Value → QSt} (hs : qstep m st = ((qboo x).bind fun y => some (Value.int y)).bind fun w => some (g w)) (hx : qboo x = some y) (h : QTri l Z n0 ad m (g (.int y)) v σ') : QTri l Z n0 ad m st v σ' :=
 QTri.step Ad W h (by rw [hs, hx]; rfl)
end Triples
theorem qite {α : Type} {c : Prop} [Decidable c] {a b : Option α} {r : α} (h : (if c then a else b) = some r) : (c ∧ a = some r) ∨ (¬ c ∧ b = some r) := by
 by_cases hc : c
 ·exact Or.inl ⟨hc, by rwa [if_pos hc] at h⟩
 ·exact Or.inr ⟨hc, by rwa [if_neg hc] at h⟩
def qN : Nat := 4000
def loopN {V E : Type} (B : V → Option (E ⊕ V)) : Nat → V → Option E
 | 0, _ => none
 | n + 1, v => match B v with
  | none => none
  | some (.inl e) => some e
  | some (.inr v') => loopN B n v'
theorem loopN_tri {V E : Type} {B : V → Option (E ⊕ V)} {T : V → Prop} {KE : E → Prop} (hB : ∀ v r, B v = some r → (∀ e, r = .inl e → KE e) → (∀ v', r = .inr v' → T v') → T v) : ∀ (n : Nat) (v : V) (e : E), loopN B n v = some e → KE e → T v
 | 0, _, _, h, _ => by cases h
 | n + 1, v, e, h, k => by
  simp only [loopN] at h
  split at h
  ·cases h
  ·rename_i e' he
   cases h
   exact hB v _ he (fun e q => by cases q; exact k) (fun v' q => by cases q)
  ·rename_i v' he
   exact hB v _ he (fun e q => by cases q) (fun v'' q => by cases q; exact loopN_tri hB n v' e h k)
theorem loopN_inv {V E : Type} {B : V → Option (E ⊕ V)} (I : V → Prop) (P : E → Prop) (μ : V → Nat) (hB : ∀ v, I v → (∃ e, B v = some (.inl e) ∧ P e) ∨ ∃ v', B v = some (.inr v') ∧ I v' ∧ μ v' < μ v) : ∀ (n : Nat) (v : V), I v → μ v < n → ∃ e, loopN B n v = some e ∧ P e
 | 0, _, _, h => absurd h (Nat.not_lt_zero _)
 | n + 1, v, hv, hm => by
  rcases hB v hv with ⟨e, h1, h2⟩ | ⟨v', h1, h2, h3⟩
  ·exact ⟨e, by simp only [loopN, h1], h2⟩
  ·obtain ⟨e, g1, g2⟩ := loopN_inv I P μ hB n v' h2 (by omega)
   exact ⟨e, by simp only [loopN, h1]; exact g1, g2⟩
theorem qfn {α : Type} {P : α → Prop} : ∀ t ∈ ([] : List α), P t := fun _ h => nomatch h
theorem qfc {α : Type} {P : α → Prop} {a : α} {t : List α} (h : P a) (ht : ∀ x ∈ t, P x) : ∀ x ∈ a :: t, P x := fun x hx => by rcases List.mem_cons.mp hx with rfl | q; exact h; exact ht x q
theorem QW_ok {Z : State} {a0 : Array Value} (hw : ∀ d ∈ tables_1, d.before a0 Z = true) : QW Z a0 := by
  have w0 : ∀ k ∈ List.range nF, bif fFin k then (Jvm.Cond.laysFinal cName cName (fNm k) (fDs k)).before a0 Z = true else (Jvm.Cond.lays cName cName (fNm k) (fDs k)).before a0 Z = true :=
    show ∀ k ∈ [0, 1, 2, 3, 4, 5, 6, 7, 8, 9, 10, 11, 12, 13, 14, 15, 16, 17, 18, 19, 20], bif fFin k then (Jvm.Cond.laysFinal cName cName (fNm k) (fDs k)).before a0 Z = true else (Jvm.Cond.lays cName cName (fNm k) (fDs k)).before a0 Z = true from
    (qfc (hw _ (List.mem_of_getElem? (i := 11) rfl)) (qfc (hw _ (List.mem_of_getElem? (i := 14) rfl)) (qfc (hw _ (List.mem_of_getElem? (i := 16) rfl)) (qfc (hw _ (List.mem_of_getElem? (i := 18) rfl)) (qfc (hw _ (List.mem_of_getElem? (i := 20) rfl)) (qfc (hw _ (List.mem_of_getElem? (i := 22) rfl)) (qfc (hw _ (List.mem_of_getElem? (i := 24) rfl)) (qfc (hw _ (List.mem_of_getElem? (i := 26) rfl)) (qfc (hw _ (List.mem_of_getElem? (i := 28) rfl)) (qfc (hw _ (List.mem_of_getElem? (i := 30) rfl)) (qfc (hw _ (List.mem_of_getElem? (i := 32) rfl)) (qfc (hw _ (List.mem_of_getElem? (i := 34) rfl)) (qfc (hw _ (List.mem_of_getElem? (i := 36) rfl)) (qfc (hw _ (List.mem_of_getElem? (i := 38) rfl)) (qfc (hw _ (List.mem_of_getElem? (i := 40) rfl)) (qfc (hw _ (List.mem_of_getElem? (i := 59) rfl)) (qfc (hw _ (List.mem_of_getElem? (i := 61) rfl)) (qfc (hw _ (List.mem_of_getElem? (i := 99) rfl)) (qfc (hw _ (List.mem_of_getElem? (i := 101) rfl)) (qfc (hw _ (List.mem_of_getElem? (i := 103) rfl)) (qfc (hw _ (List.mem_of_getElem? (i := 105) rfl)) qfn)))))))))))))))))))))
  refine ⟨?_, ?_, ?_, ?_, ?_, ?_, ?_, ?_, ?_, ?_, ?_, ?_, ?_, (fun k hk => w0 k (List.mem_range.mpr hk)), ?_, ?_, ?_⟩
  · exact (qfc (hw _ (List.mem_of_getElem? (i := 10) rfl)) (qfc (hw _ (List.mem_of_getElem? (i := 13) rfl)) (qfc (hw _ (List.mem_of_getElem? (i := 15) rfl)) (qfc (hw _ (List.mem_of_getElem? (i := 17) rfl)) (qfc (hw _ (List.mem_of_getElem? (i := 19) rfl)) (qfc (hw _ (List.mem_of_getElem? (i := 21) rfl)) (qfc (hw _ (List.mem_of_getElem? (i := 23) rfl)) (qfc (hw _ (List.mem_of_getElem? (i := 25) rfl)) (qfc (hw _ (List.mem_of_getElem? (i := 27) rfl)) (qfc (hw _ (List.mem_of_getElem? (i := 29) rfl)) (qfc (hw _ (List.mem_of_getElem? (i := 31) rfl)) (qfc (hw _ (List.mem_of_getElem? (i := 33) rfl)) (qfc (hw _ (List.mem_of_getElem? (i := 35) rfl)) (qfc (hw _ (List.mem_of_getElem? (i := 37) rfl)) (qfc (hw _ (List.mem_of_getElem? (i := 39) rfl)) (qfc (hw _ (List.mem_of_getElem? (i := 58) rfl)) (qfc (hw _ (List.mem_of_getElem? (i := 60) rfl)) (qfc (hw _ (List.mem_of_getElem? (i := 98) rfl)) (qfc (hw _ (List.mem_of_getElem? (i := 100) rfl)) (qfc (hw _ (List.mem_of_getElem? (i := 102) rfl)) (qfc (hw _ (List.mem_of_getElem? (i := 104) rfl)) qfn)))))))))))))))))))))
  · exact (qfc (hw _ (List.mem_of_getElem? (i := 0) rfl)) qfn)
  · exact qfn
  · exact qfn
  · exact (qfc (hw _ (List.mem_of_getElem? (i := 3) rfl)) (qfc (hw _ (List.mem_of_getElem? (i := 41) rfl)) (qfc (hw _ (List.mem_of_getElem? (i := 46) rfl)) (qfc (hw _ (List.mem_of_getElem? (i := 50) rfl)) (qfc (hw _ (List.mem_of_getElem? (i := 54) rfl)) (qfc (hw _ (List.mem_of_getElem? (i := 62) rfl)) (qfc (hw _ (List.mem_of_getElem? (i := 66) rfl)) (qfc (hw _ (List.mem_of_getElem? (i := 71) rfl)) (qfc (hw _ (List.mem_of_getElem? (i := 75) rfl)) (qfc (hw _ (List.mem_of_getElem? (i := 79) rfl)) (qfc (hw _ (List.mem_of_getElem? (i := 84) rfl)) (qfc (hw _ (List.mem_of_getElem? (i := 89) rfl)) (qfc (hw _ (List.mem_of_getElem? (i := 94) rfl)) (qfc (hw _ (List.mem_of_getElem? (i := 106) rfl)) (qfc (hw _ (List.mem_of_getElem? (i := 110) rfl)) (qfc (hw _ (List.mem_of_getElem? (i := 114) rfl)) (qfc (hw _ (List.mem_of_getElem? (i := 119) rfl)) (qfc (hw _ (List.mem_of_getElem? (i := 124) rfl)) (qfc (hw _ (List.mem_of_getElem? (i := 128) rfl)) (qfc (hw _ (List.mem_of_getElem? (i := 133) rfl)) qfn))))))))))))))))))))
  · exact (qfc (hw _ (List.mem_of_getElem? (i := 6) rfl)) qfn)
  · exact (qfc ⟨(hw _ (List.mem_of_getElem? (i := 42) rfl)), (hw _ (List.mem_of_getElem? (i := 44) rfl)), (hw _ (List.mem_of_getElem? (i := 43) rfl))⟩ (qfc ⟨(hw _ (List.mem_of_getElem? (i := 67) rfl)), (hw _ (List.mem_of_getElem? (i := 69) rfl)), (hw _ (List.mem_of_getElem? (i := 68) rfl))⟩ (qfc ⟨(hw _ (List.mem_of_getElem? (i := 80) rfl)), (hw _ (List.mem_of_getElem? (i := 82) rfl)), (hw _ (List.mem_of_getElem? (i := 81) rfl))⟩ (qfc ⟨(hw _ (List.mem_of_getElem? (i := 85) rfl)), (hw _ (List.mem_of_getElem? (i := 87) rfl)), (hw _ (List.mem_of_getElem? (i := 86) rfl))⟩ (qfc ⟨(hw _ (List.mem_of_getElem? (i := 90) rfl)), (hw _ (List.mem_of_getElem? (i := 92) rfl)), (hw _ (List.mem_of_getElem? (i := 91) rfl))⟩ (qfc ⟨(hw _ (List.mem_of_getElem? (i := 115) rfl)), (hw _ (List.mem_of_getElem? (i := 117) rfl)), (hw _ (List.mem_of_getElem? (i := 116) rfl))⟩ (qfc ⟨(hw _ (List.mem_of_getElem? (i := 120) rfl)), (hw _ (List.mem_of_getElem? (i := 122) rfl)), (hw _ (List.mem_of_getElem? (i := 121) rfl))⟩ (qfc ⟨(hw _ (List.mem_of_getElem? (i := 129) rfl)), (hw _ (List.mem_of_getElem? (i := 131) rfl)), (hw _ (List.mem_of_getElem? (i := 130) rfl))⟩ (qfc ⟨(hw _ (List.mem_of_getElem? (i := 134) rfl)), (hw _ (List.mem_of_getElem? (i := 136) rfl)), (hw _ (List.mem_of_getElem? (i := 135) rfl))⟩ qfn)))))))))
  · exact (qfc ⟨(hw _ (List.mem_of_getElem? (i := 47) rfl)), (hw _ (List.mem_of_getElem? (i := 48) rfl))⟩ (qfc ⟨(hw _ (List.mem_of_getElem? (i := 51) rfl)), (hw _ (List.mem_of_getElem? (i := 52) rfl))⟩ (qfc ⟨(hw _ (List.mem_of_getElem? (i := 55) rfl)), (hw _ (List.mem_of_getElem? (i := 56) rfl))⟩ (qfc ⟨(hw _ (List.mem_of_getElem? (i := 63) rfl)), (hw _ (List.mem_of_getElem? (i := 64) rfl))⟩ (qfc ⟨(hw _ (List.mem_of_getElem? (i := 72) rfl)), (hw _ (List.mem_of_getElem? (i := 73) rfl))⟩ (qfc ⟨(hw _ (List.mem_of_getElem? (i := 76) rfl)), (hw _ (List.mem_of_getElem? (i := 77) rfl))⟩ (qfc ⟨(hw _ (List.mem_of_getElem? (i := 95) rfl)), (hw _ (List.mem_of_getElem? (i := 96) rfl))⟩ (qfc ⟨(hw _ (List.mem_of_getElem? (i := 107) rfl)), (hw _ (List.mem_of_getElem? (i := 108) rfl))⟩ (qfc ⟨(hw _ (List.mem_of_getElem? (i := 111) rfl)), (hw _ (List.mem_of_getElem? (i := 112) rfl))⟩ (qfc ⟨(hw _ (List.mem_of_getElem? (i := 125) rfl)), (hw _ (List.mem_of_getElem? (i := 126) rfl))⟩ qfn))))))))))
  · exact qfn
  · exact (qfc (hw _ (List.mem_of_getElem? (i := 4) rfl)) qfn)
  · exact (qfc ⟨(hw _ (List.mem_of_getElem? (i := 5) rfl)), (hw _ (List.mem_of_getElem? (i := 2) rfl))⟩ (qfc ⟨(hw _ (List.mem_of_getElem? (i := 45) rfl)), (hw _ (List.mem_of_getElem? (i := 2) rfl))⟩ (qfc ⟨(hw _ (List.mem_of_getElem? (i := 49) rfl)), (hw _ (List.mem_of_getElem? (i := 2) rfl))⟩ (qfc ⟨(hw _ (List.mem_of_getElem? (i := 53) rfl)), (hw _ (List.mem_of_getElem? (i := 2) rfl))⟩ (qfc ⟨(hw _ (List.mem_of_getElem? (i := 57) rfl)), (hw _ (List.mem_of_getElem? (i := 2) rfl))⟩ (qfc ⟨(hw _ (List.mem_of_getElem? (i := 65) rfl)), (hw _ (List.mem_of_getElem? (i := 2) rfl))⟩ (qfc ⟨(hw _ (List.mem_of_getElem? (i := 70) rfl)), (hw _ (List.mem_of_getElem? (i := 2) rfl))⟩ (qfc ⟨(hw _ (List.mem_of_getElem? (i := 74) rfl)), (hw _ (List.mem_of_getElem? (i := 2) rfl))⟩ (qfc ⟨(hw _ (List.mem_of_getElem? (i := 78) rfl)), (hw _ (List.mem_of_getElem? (i := 2) rfl))⟩ (qfc ⟨(hw _ (List.mem_of_getElem? (i := 83) rfl)), (hw _ (List.mem_of_getElem? (i := 2) rfl))⟩ (qfc ⟨(hw _ (List.mem_of_getElem? (i := 88) rfl)), (hw _ (List.mem_of_getElem? (i := 2) rfl))⟩ (qfc ⟨(hw _ (List.mem_of_getElem? (i := 93) rfl)), (hw _ (List.mem_of_getElem? (i := 2) rfl))⟩ (qfc ⟨(hw _ (List.mem_of_getElem? (i := 97) rfl)), (hw _ (List.mem_of_getElem? (i := 2) rfl))⟩ (qfc ⟨(hw _ (List.mem_of_getElem? (i := 109) rfl)), (hw _ (List.mem_of_getElem? (i := 2) rfl))⟩ (qfc ⟨(hw _ (List.mem_of_getElem? (i := 113) rfl)), (hw _ (List.mem_of_getElem? (i := 2) rfl))⟩ (qfc ⟨(hw _ (List.mem_of_getElem? (i := 118) rfl)), (hw _ (List.mem_of_getElem? (i := 2) rfl))⟩ (qfc ⟨(hw _ (List.mem_of_getElem? (i := 123) rfl)), (hw _ (List.mem_of_getElem? (i := 2) rfl))⟩ (qfc ⟨(hw _ (List.mem_of_getElem? (i := 127) rfl)), (hw _ (List.mem_of_getElem? (i := 2) rfl))⟩ (qfc ⟨(hw _ (List.mem_of_getElem? (i := 132) rfl)), (hw _ (List.mem_of_getElem? (i := 2) rfl))⟩ (qfc ⟨(hw _ (List.mem_of_getElem? (i := 137) rfl)), (hw _ (List.mem_of_getElem? (i := 2) rfl))⟩ qfn))))))))))))))))))))
  · exact (hw _ (List.mem_of_getElem? (i := 7) rfl))
  · exact (hw _ (List.mem_of_getElem? (i := 8) rfl))
  · exact (hw _ (List.mem_of_getElem? (i := 1) rfl))
  · exact (hw _ (List.mem_of_getElem? (i := 2) rfl))
  · exact (qfc (hw _ (List.mem_of_getElem? (i := 9) rfl)) (qfc (hw _ (List.mem_of_getElem? (i := 12) rfl)) qfn))
abbrev Ob := List Int32 × List Int32 × Int32 × Int32 × Int32 × Int32 × List Int32 × List Int32 × List Int32 × List Int32 × List Int32 × List Int32 × Int32 × Int32 × Int32 × Int32 × Int32 × Int32 × Int32 × Int32 × Int32
def f_data (o : Ob) : List Int32 := o.1
def f_filled (o : Ob) : List Int32 := o.2.1
def f_rf (o : Ob) : Int32 := o.2.2.1
def f_cf (o : Ob) : Int32 := o.2.2.2.1
def f_vf (o : Ob) : Int32 := o.2.2.2.2.1
def f_ag (o : Ob) : Int32 := o.2.2.2.2.2.1
def f_fMode (o : Ob) : List Int32 := o.2.2.2.2.2.2.1
def f_fRk (o : Ob) : List Int32 := o.2.2.2.2.2.2.2.1
def f_fCk (o : Ob) : List Int32 := o.2.2.2.2.2.2.2.2.1
def f_prevVal (o : Ob) : List Int32 := o.2.2.2.2.2.2.2.2.2.1
def f_prevFound (o : Ob) : List Int32 := o.2.2.2.2.2.2.2.2.2.2.1
def f_keys (o : Ob) : List Int32 := o.2.2.2.2.2.2.2.2.2.2.2.1
def f_nRows (o : Ob) : Int32 := o.2.2.2.2.2.2.2.2.2.2.2.2.1
def f_nForms (o : Ob) : Int32 := o.2.2.2.2.2.2.2.2.2.2.2.2.2.1
def f_last (o : Ob) : Int32 := o.2.2.2.2.2.2.2.2.2.2.2.2.2.2.1
def f_gVal (o : Ob) : Int32 := o.2.2.2.2.2.2.2.2.2.2.2.2.2.2.2.1
def f_gCount (o : Ob) : Int32 := o.2.2.2.2.2.2.2.2.2.2.2.2.2.2.2.2.1
def f_selUseR (o : Ob) : Int32 := o.2.2.2.2.2.2.2.2.2.2.2.2.2.2.2.2.2.1
def f_selRk (o : Ob) : Int32 := o.2.2.2.2.2.2.2.2.2.2.2.2.2.2.2.2.2.2.1
def f_selUseC (o : Ob) : Int32 := o.2.2.2.2.2.2.2.2.2.2.2.2.2.2.2.2.2.2.2.1
def f_selCk (o : Ob) : Int32 := o.2.2.2.2.2.2.2.2.2.2.2.2.2.2.2.2.2.2.2.2
def s_data (o : Ob) (v : List Int32) : Ob := (v, o.2.1, o.2.2.1, o.2.2.2.1, o.2.2.2.2.1, o.2.2.2.2.2.1, o.2.2.2.2.2.2.1, o.2.2.2.2.2.2.2.1, o.2.2.2.2.2.2.2.2.1, o.2.2.2.2.2.2.2.2.2.1, o.2.2.2.2.2.2.2.2.2.2.1, o.2.2.2.2.2.2.2.2.2.2.2.1, o.2.2.2.2.2.2.2.2.2.2.2.2.1, o.2.2.2.2.2.2.2.2.2.2.2.2.2.1, o.2.2.2.2.2.2.2.2.2.2.2.2.2.2.1, o.2.2.2.2.2.2.2.2.2.2.2.2.2.2.2.1, o.2.2.2.2.2.2.2.2.2.2.2.2.2.2.2.2.1, o.2.2.2.2.2.2.2.2.2.2.2.2.2.2.2.2.2.1, o.2.2.2.2.2.2.2.2.2.2.2.2.2.2.2.2.2.2.1, o.2.2.2.2.2.2.2.2.2.2.2.2.2.2.2.2.2.2.2.1, o.2.2.2.2.2.2.2.2.2.2.2.2.2.2.2.2.2.2.2.2)
def s_filled (o : Ob) (v : List Int32) : Ob := (o.1, v, o.2.2.1, o.2.2.2.1, o.2.2.2.2.1, o.2.2.2.2.2.1, o.2.2.2.2.2.2.1, o.2.2.2.2.2.2.2.1, o.2.2.2.2.2.2.2.2.1, o.2.2.2.2.2.2.2.2.2.1, o.2.2.2.2.2.2.2.2.2.2.1, o.2.2.2.2.2.2.2.2.2.2.2.1, o.2.2.2.2.2.2.2.2.2.2.2.2.1, o.2.2.2.2.2.2.2.2.2.2.2.2.2.1, o.2.2.2.2.2.2.2.2.2.2.2.2.2.2.1, o.2.2.2.2.2.2.2.2.2.2.2.2.2.2.2.1, o.2.2.2.2.2.2.2.2.2.2.2.2.2.2.2.2.1, o.2.2.2.2.2.2.2.2.2.2.2.2.2.2.2.2.2.1, o.2.2.2.2.2.2.2.2.2.2.2.2.2.2.2.2.2.2.1, o.2.2.2.2.2.2.2.2.2.2.2.2.2.2.2.2.2.2.2.1, o.2.2.2.2.2.2.2.2.2.2.2.2.2.2.2.2.2.2.2.2)
def s_rf (o : Ob) (v : Int32) : Ob := (o.1, o.2.1, v, o.2.2.2.1, o.2.2.2.2.1, o.2.2.2.2.2.1, o.2.2.2.2.2.2.1, o.2.2.2.2.2.2.2.1, o.2.2.2.2.2.2.2.2.1, o.2.2.2.2.2.2.2.2.2.1, o.2.2.2.2.2.2.2.2.2.2.1, o.2.2.2.2.2.2.2.2.2.2.2.1, o.2.2.2.2.2.2.2.2.2.2.2.2.1, o.2.2.2.2.2.2.2.2.2.2.2.2.2.1, o.2.2.2.2.2.2.2.2.2.2.2.2.2.2.1, o.2.2.2.2.2.2.2.2.2.2.2.2.2.2.2.1, o.2.2.2.2.2.2.2.2.2.2.2.2.2.2.2.2.1, o.2.2.2.2.2.2.2.2.2.2.2.2.2.2.2.2.2.1, o.2.2.2.2.2.2.2.2.2.2.2.2.2.2.2.2.2.2.1, o.2.2.2.2.2.2.2.2.2.2.2.2.2.2.2.2.2.2.2.1, o.2.2.2.2.2.2.2.2.2.2.2.2.2.2.2.2.2.2.2.2)
def s_cf (o : Ob) (v : Int32) : Ob := (o.1, o.2.1, o.2.2.1, v, o.2.2.2.2.1, o.2.2.2.2.2.1, o.2.2.2.2.2.2.1, o.2.2.2.2.2.2.2.1, o.2.2.2.2.2.2.2.2.1, o.2.2.2.2.2.2.2.2.2.1, o.2.2.2.2.2.2.2.2.2.2.1, o.2.2.2.2.2.2.2.2.2.2.2.1, o.2.2.2.2.2.2.2.2.2.2.2.2.1, o.2.2.2.2.2.2.2.2.2.2.2.2.2.1, o.2.2.2.2.2.2.2.2.2.2.2.2.2.2.1, o.2.2.2.2.2.2.2.2.2.2.2.2.2.2.2.1, o.2.2.2.2.2.2.2.2.2.2.2.2.2.2.2.2.1, o.2.2.2.2.2.2.2.2.2.2.2.2.2.2.2.2.2.1, o.2.2.2.2.2.2.2.2.2.2.2.2.2.2.2.2.2.2.1, o.2.2.2.2.2.2.2.2.2.2.2.2.2.2.2.2.2.2.2.1, o.2.2.2.2.2.2.2.2.2.2.2.2.2.2.2.2.2.2.2.2)
def s_vf (o : Ob) (v : Int32) : Ob := (o.1, o.2.1, o.2.2.1, o.2.2.2.1, v, o.2.2.2.2.2.1, o.2.2.2.2.2.2.1, o.2.2.2.2.2.2.2.1, o.2.2.2.2.2.2.2.2.1, o.2.2.2.2.2.2.2.2.2.1, o.2.2.2.2.2.2.2.2.2.2.1, o.2.2.2.2.2.2.2.2.2.2.2.1, o.2.2.2.2.2.2.2.2.2.2.2.2.1, o.2.2.2.2.2.2.2.2.2.2.2.2.2.1, o.2.2.2.2.2.2.2.2.2.2.2.2.2.2.1, o.2.2.2.2.2.2.2.2.2.2.2.2.2.2.2.1, o.2.2.2.2.2.2.2.2.2.2.2.2.2.2.2.2.1, o.2.2.2.2.2.2.2.2.2.2.2.2.2.2.2.2.2.1, o.2.2.2.2.2.2.2.2.2.2.2.2.2.2.2.2.2.2.1, o.2.2.2.2.2.2.2.2.2.2.2.2.2.2.2.2.2.2.2.1, o.2.2.2.2.2.2.2.2.2.2.2.2.2.2.2.2.2.2.2.2)
def s_ag (o : Ob) (v : Int32) : Ob := (o.1, o.2.1, o.2.2.1, o.2.2.2.1, o.2.2.2.2.1, v, o.2.2.2.2.2.2.1, o.2.2.2.2.2.2.2.1, o.2.2.2.2.2.2.2.2.1, o.2.2.2.2.2.2.2.2.2.1, o.2.2.2.2.2.2.2.2.2.2.1, o.2.2.2.2.2.2.2.2.2.2.2.1, o.2.2.2.2.2.2.2.2.2.2.2.2.1, o.2.2.2.2.2.2.2.2.2.2.2.2.2.1, o.2.2.2.2.2.2.2.2.2.2.2.2.2.2.1, o.2.2.2.2.2.2.2.2.2.2.2.2.2.2.2.1, o.2.2.2.2.2.2.2.2.2.2.2.2.2.2.2.2.1, o.2.2.2.2.2.2.2.2.2.2.2.2.2.2.2.2.2.1, o.2.2.2.2.2.2.2.2.2.2.2.2.2.2.2.2.2.2.1, o.2.2.2.2.2.2.2.2.2.2.2.2.2.2.2.2.2.2.2.1, o.2.2.2.2.2.2.2.2.2.2.2.2.2.2.2.2.2.2.2.2)
def s_fMode (o : Ob) (v : List Int32) : Ob := (o.1, o.2.1, o.2.2.1, o.2.2.2.1, o.2.2.2.2.1, o.2.2.2.2.2.1, v, o.2.2.2.2.2.2.2.1, o.2.2.2.2.2.2.2.2.1, o.2.2.2.2.2.2.2.2.2.1, o.2.2.2.2.2.2.2.2.2.2.1, o.2.2.2.2.2.2.2.2.2.2.2.1, o.2.2.2.2.2.2.2.2.2.2.2.2.1, o.2.2.2.2.2.2.2.2.2.2.2.2.2.1, o.2.2.2.2.2.2.2.2.2.2.2.2.2.2.1, o.2.2.2.2.2.2.2.2.2.2.2.2.2.2.2.1, o.2.2.2.2.2.2.2.2.2.2.2.2.2.2.2.2.1, o.2.2.2.2.2.2.2.2.2.2.2.2.2.2.2.2.2.1, o.2.2.2.2.2.2.2.2.2.2.2.2.2.2.2.2.2.2.1, o.2.2.2.2.2.2.2.2.2.2.2.2.2.2.2.2.2.2.2.1, o.2.2.2.2.2.2.2.2.2.2.2.2.2.2.2.2.2.2.2.2)
def s_fRk (o : Ob) (v : List Int32) : Ob := (o.1, o.2.1, o.2.2.1, o.2.2.2.1, o.2.2.2.2.1, o.2.2.2.2.2.1, o.2.2.2.2.2.2.1, v, o.2.2.2.2.2.2.2.2.1, o.2.2.2.2.2.2.2.2.2.1, o.2.2.2.2.2.2.2.2.2.2.1, o.2.2.2.2.2.2.2.2.2.2.2.1, o.2.2.2.2.2.2.2.2.2.2.2.2.1, o.2.2.2.2.2.2.2.2.2.2.2.2.2.1, o.2.2.2.2.2.2.2.2.2.2.2.2.2.2.1, o.2.2.2.2.2.2.2.2.2.2.2.2.2.2.2.1, o.2.2.2.2.2.2.2.2.2.2.2.2.2.2.2.2.1, o.2.2.2.2.2.2.2.2.2.2.2.2.2.2.2.2.2.1, o.2.2.2.2.2.2.2.2.2.2.2.2.2.2.2.2.2.2.1, o.2.2.2.2.2.2.2.2.2.2.2.2.2.2.2.2.2.2.2.1, o.2.2.2.2.2.2.2.2.2.2.2.2.2.2.2.2.2.2.2.2)
def s_fCk (o : Ob) (v : List Int32) : Ob := (o.1, o.2.1, o.2.2.1, o.2.2.2.1, o.2.2.2.2.1, o.2.2.2.2.2.1, o.2.2.2.2.2.2.1, o.2.2.2.2.2.2.2.1, v, o.2.2.2.2.2.2.2.2.2.1, o.2.2.2.2.2.2.2.2.2.2.1, o.2.2.2.2.2.2.2.2.2.2.2.1, o.2.2.2.2.2.2.2.2.2.2.2.2.1, o.2.2.2.2.2.2.2.2.2.2.2.2.2.1, o.2.2.2.2.2.2.2.2.2.2.2.2.2.2.1, o.2.2.2.2.2.2.2.2.2.2.2.2.2.2.2.1, o.2.2.2.2.2.2.2.2.2.2.2.2.2.2.2.2.1, o.2.2.2.2.2.2.2.2.2.2.2.2.2.2.2.2.2.1, o.2.2.2.2.2.2.2.2.2.2.2.2.2.2.2.2.2.2.1, o.2.2.2.2.2.2.2.2.2.2.2.2.2.2.2.2.2.2.2.1, o.2.2.2.2.2.2.2.2.2.2.2.2.2.2.2.2.2.2.2.2)
def s_prevVal (o : Ob) (v : List Int32) : Ob := (o.1, o.2.1, o.2.2.1, o.2.2.2.1, o.2.2.2.2.1, o.2.2.2.2.2.1, o.2.2.2.2.2.2.1, o.2.2.2.2.2.2.2.1, o.2.2.2.2.2.2.2.2.1, v, o.2.2.2.2.2.2.2.2.2.2.1, o.2.2.2.2.2.2.2.2.2.2.2.1, o.2.2.2.2.2.2.2.2.2.2.2.2.1, o.2.2.2.2.2.2.2.2.2.2.2.2.2.1, o.2.2.2.2.2.2.2.2.2.2.2.2.2.2.1, o.2.2.2.2.2.2.2.2.2.2.2.2.2.2.2.1, o.2.2.2.2.2.2.2.2.2.2.2.2.2.2.2.2.1, o.2.2.2.2.2.2.2.2.2.2.2.2.2.2.2.2.2.1, o.2.2.2.2.2.2.2.2.2.2.2.2.2.2.2.2.2.2.1, o.2.2.2.2.2.2.2.2.2.2.2.2.2.2.2.2.2.2.2.1, o.2.2.2.2.2.2.2.2.2.2.2.2.2.2.2.2.2.2.2.2)
def s_prevFound (o : Ob) (v : List Int32) : Ob := (o.1, o.2.1, o.2.2.1, o.2.2.2.1, o.2.2.2.2.1, o.2.2.2.2.2.1, o.2.2.2.2.2.2.1, o.2.2.2.2.2.2.2.1, o.2.2.2.2.2.2.2.2.1, o.2.2.2.2.2.2.2.2.2.1, v, o.2.2.2.2.2.2.2.2.2.2.2.1, o.2.2.2.2.2.2.2.2.2.2.2.2.1, o.2.2.2.2.2.2.2.2.2.2.2.2.2.1, o.2.2.2.2.2.2.2.2.2.2.2.2.2.2.1, o.2.2.2.2.2.2.2.2.2.2.2.2.2.2.2.1, o.2.2.2.2.2.2.2.2.2.2.2.2.2.2.2.2.1, o.2.2.2.2.2.2.2.2.2.2.2.2.2.2.2.2.2.1, o.2.2.2.2.2.2.2.2.2.2.2.2.2.2.2.2.2.2.1, o.2.2.2.2.2.2.2.2.2.2.2.2.2.2.2.2.2.2.2.1, o.2.2.2.2.2.2.2.2.2.2.2.2.2.2.2.2.2.2.2.2)
def s_keys (o : Ob) (v : List Int32) : Ob := (o.1, o.2.1, o.2.2.1, o.2.2.2.1, o.2.2.2.2.1, o.2.2.2.2.2.1, o.2.2.2.2.2.2.1, o.2.2.2.2.2.2.2.1, o.2.2.2.2.2.2.2.2.1, o.2.2.2.2.2.2.2.2.2.1, o.2.2.2.2.2.2.2.2.2.2.1, v, o.2.2.2.2.2.2.2.2.2.2.2.2.1, o.2.2.2.2.2.2.2.2.2.2.2.2.2.1, o.2.2.2.2.2.2.2.2.2.2.2.2.2.2.1, o.2.2.2.2.2.2.2.2.2.2.2.2.2.2.2.1, o.2.2.2.2.2.2.2.2.2.2.2.2.2.2.2.2.1, o.2.2.2.2.2.2.2.2.2.2.2.2.2.2.2.2.2.1, o.2.2.2.2.2.2.2.2.2.2.2.2.2.2.2.2.2.2.1, o.2.2.2.2.2.2.2.2.2.2.2.2.2.2.2.2.2.2.2.1, o.2.2.2.2.2.2.2.2.2.2.2.2.2.2.2.2.2.2.2.2)
def s_nRows (o : Ob) (v : Int32) : Ob := (o.1, o.2.1, o.2.2.1, o.2.2.2.1, o.2.2.2.2.1, o.2.2.2.2.2.1, o.2.2.2.2.2.2.1, o.2.2.2.2.2.2.2.1, o.2.2.2.2.2.2.2.2.1, o.2.2.2.2.2.2.2.2.2.1, o.2.2.2.2.2.2.2.2.2.2.1, o.2.2.2.2.2.2.2.2.2.2.2.1, v, o.2.2.2.2.2.2.2.2.2.2.2.2.2.1, o.2.2.2.2.2.2.2.2.2.2.2.2.2.2.1, o.2.2.2.2.2.2.2.2.2.2.2.2.2.2.2.1, o.2.2.2.2.2.2.2.2.2.2.2.2.2.2.2.2.1, o.2.2.2.2.2.2.2.2.2.2.2.2.2.2.2.2.2.1, o.2.2.2.2.2.2.2.2.2.2.2.2.2.2.2.2.2.2.1, o.2.2.2.2.2.2.2.2.2.2.2.2.2.2.2.2.2.2.2.1, o.2.2.2.2.2.2.2.2.2.2.2.2.2.2.2.2.2.2.2.2)
def s_nForms (o : Ob) (v : Int32) : Ob := (o.1, o.2.1, o.2.2.1, o.2.2.2.1, o.2.2.2.2.1, o.2.2.2.2.2.1, o.2.2.2.2.2.2.1, o.2.2.2.2.2.2.2.1, o.2.2.2.2.2.2.2.2.1, o.2.2.2.2.2.2.2.2.2.1, o.2.2.2.2.2.2.2.2.2.2.1, o.2.2.2.2.2.2.2.2.2.2.2.1, o.2.2.2.2.2.2.2.2.2.2.2.2.1, v, o.2.2.2.2.2.2.2.2.2.2.2.2.2.2.1, o.2.2.2.2.2.2.2.2.2.2.2.2.2.2.2.1, o.2.2.2.2.2.2.2.2.2.2.2.2.2.2.2.2.1, o.2.2.2.2.2.2.2.2.2.2.2.2.2.2.2.2.2.1, o.2.2.2.2.2.2.2.2.2.2.2.2.2.2.2.2.2.2.1, o.2.2.2.2.2.2.2.2.2.2.2.2.2.2.2.2.2.2.2.1, o.2.2.2.2.2.2.2.2.2.2.2.2.2.2.2.2.2.2.2.2)
def s_last (o : Ob) (v : Int32) : Ob := (o.1, o.2.1, o.2.2.1, o.2.2.2.1, o.2.2.2.2.1, o.2.2.2.2.2.1, o.2.2.2.2.2.2.1, o.2.2.2.2.2.2.2.1, o.2.2.2.2.2.2.2.2.1, o.2.2.2.2.2.2.2.2.2.1, o.2.2.2.2.2.2.2.2.2.2.1, o.2.2.2.2.2.2.2.2.2.2.2.1, o.2.2.2.2.2.2.2.2.2.2.2.2.1, o.2.2.2.2.2.2.2.2.2.2.2.2.2.1, v, o.2.2.2.2.2.2.2.2.2.2.2.2.2.2.2.1, o.2.2.2.2.2.2.2.2.2.2.2.2.2.2.2.2.1, o.2.2.2.2.2.2.2.2.2.2.2.2.2.2.2.2.2.1, o.2.2.2.2.2.2.2.2.2.2.2.2.2.2.2.2.2.2.1, o.2.2.2.2.2.2.2.2.2.2.2.2.2.2.2.2.2.2.2.1, o.2.2.2.2.2.2.2.2.2.2.2.2.2.2.2.2.2.2.2.2)
def s_gVal (o : Ob) (v : Int32) : Ob := (o.1, o.2.1, o.2.2.1, o.2.2.2.1, o.2.2.2.2.1, o.2.2.2.2.2.1, o.2.2.2.2.2.2.1, o.2.2.2.2.2.2.2.1, o.2.2.2.2.2.2.2.2.1, o.2.2.2.2.2.2.2.2.2.1, o.2.2.2.2.2.2.2.2.2.2.1, o.2.2.2.2.2.2.2.2.2.2.2.1, o.2.2.2.2.2.2.2.2.2.2.2.2.1, o.2.2.2.2.2.2.2.2.2.2.2.2.2.1, o.2.2.2.2.2.2.2.2.2.2.2.2.2.2.1, v, o.2.2.2.2.2.2.2.2.2.2.2.2.2.2.2.2.1, o.2.2.2.2.2.2.2.2.2.2.2.2.2.2.2.2.2.1, o.2.2.2.2.2.2.2.2.2.2.2.2.2.2.2.2.2.2.1, o.2.2.2.2.2.2.2.2.2.2.2.2.2.2.2.2.2.2.2.1, o.2.2.2.2.2.2.2.2.2.2.2.2.2.2.2.2.2.2.2.2)
def s_gCount (o : Ob) (v : Int32) : Ob := (o.1, o.2.1, o.2.2.1, o.2.2.2.1, o.2.2.2.2.1, o.2.2.2.2.2.1, o.2.2.2.2.2.2.1, o.2.2.2.2.2.2.2.1, o.2.2.2.2.2.2.2.2.1, o.2.2.2.2.2.2.2.2.2.1, o.2.2.2.2.2.2.2.2.2.2.1, o.2.2.2.2.2.2.2.2.2.2.2.1, o.2.2.2.2.2.2.2.2.2.2.2.2.1, o.2.2.2.2.2.2.2.2.2.2.2.2.2.1, o.2.2.2.2.2.2.2.2.2.2.2.2.2.2.1, o.2.2.2.2.2.2.2.2.2.2.2.2.2.2.2.1, v, o.2.2.2.2.2.2.2.2.2.2.2.2.2.2.2.2.2.1, o.2.2.2.2.2.2.2.2.2.2.2.2.2.2.2.2.2.2.1, o.2.2.2.2.2.2.2.2.2.2.2.2.2.2.2.2.2.2.2.1, o.2.2.2.2.2.2.2.2.2.2.2.2.2.2.2.2.2.2.2.2)
def s_selUseR (o : Ob) (v : Int32) : Ob := (o.1, o.2.1, o.2.2.1, o.2.2.2.1, o.2.2.2.2.1, o.2.2.2.2.2.1, o.2.2.2.2.2.2.1, o.2.2.2.2.2.2.2.1, o.2.2.2.2.2.2.2.2.1, o.2.2.2.2.2.2.2.2.2.1, o.2.2.2.2.2.2.2.2.2.2.1, o.2.2.2.2.2.2.2.2.2.2.2.1, o.2.2.2.2.2.2.2.2.2.2.2.2.1, o.2.2.2.2.2.2.2.2.2.2.2.2.2.1, o.2.2.2.2.2.2.2.2.2.2.2.2.2.2.1, o.2.2.2.2.2.2.2.2.2.2.2.2.2.2.2.1, o.2.2.2.2.2.2.2.2.2.2.2.2.2.2.2.2.1, v, o.2.2.2.2.2.2.2.2.2.2.2.2.2.2.2.2.2.2.1, o.2.2.2.2.2.2.2.2.2.2.2.2.2.2.2.2.2.2.2.1, o.2.2.2.2.2.2.2.2.2.2.2.2.2.2.2.2.2.2.2.2)
def s_selRk (o : Ob) (v : Int32) : Ob := (o.1, o.2.1, o.2.2.1, o.2.2.2.1, o.2.2.2.2.1, o.2.2.2.2.2.1, o.2.2.2.2.2.2.1, o.2.2.2.2.2.2.2.1, o.2.2.2.2.2.2.2.2.1, o.2.2.2.2.2.2.2.2.2.1, o.2.2.2.2.2.2.2.2.2.2.1, o.2.2.2.2.2.2.2.2.2.2.2.1, o.2.2.2.2.2.2.2.2.2.2.2.2.1, o.2.2.2.2.2.2.2.2.2.2.2.2.2.1, o.2.2.2.2.2.2.2.2.2.2.2.2.2.2.1, o.2.2.2.2.2.2.2.2.2.2.2.2.2.2.2.1, o.2.2.2.2.2.2.2.2.2.2.2.2.2.2.2.2.1, o.2.2.2.2.2.2.2.2.2.2.2.2.2.2.2.2.2.1, v, o.2.2.2.2.2.2.2.2.2.2.2.2.2.2.2.2.2.2.2.1, o.2.2.2.2.2.2.2.2.2.2.2.2.2.2.2.2.2.2.2.2)
def s_selUseC (o : Ob) (v : Int32) : Ob := (o.1, o.2.1, o.2.2.1, o.2.2.2.1, o.2.2.2.2.1, o.2.2.2.2.2.1, o.2.2.2.2.2.2.1, o.2.2.2.2.2.2.2.1, o.2.2.2.2.2.2.2.2.1, o.2.2.2.2.2.2.2.2.2.1, o.2.2.2.2.2.2.2.2.2.2.1, o.2.2.2.2.2.2.2.2.2.2.2.1, o.2.2.2.2.2.2.2.2.2.2.2.2.1, o.2.2.2.2.2.2.2.2.2.2.2.2.2.1, o.2.2.2.2.2.2.2.2.2.2.2.2.2.2.1, o.2.2.2.2.2.2.2.2.2.2.2.2.2.2.2.1, o.2.2.2.2.2.2.2.2.2.2.2.2.2.2.2.2.1, o.2.2.2.2.2.2.2.2.2.2.2.2.2.2.2.2.2.1, o.2.2.2.2.2.2.2.2.2.2.2.2.2.2.2.2.2.2.1, v, o.2.2.2.2.2.2.2.2.2.2.2.2.2.2.2.2.2.2.2.2)
def s_selCk (o : Ob) (v : Int32) : Ob := (o.1, o.2.1, o.2.2.1, o.2.2.2.1, o.2.2.2.2.1, o.2.2.2.2.2.1, o.2.2.2.2.2.2.1, o.2.2.2.2.2.2.2.1, o.2.2.2.2.2.2.2.2.1, o.2.2.2.2.2.2.2.2.2.1, o.2.2.2.2.2.2.2.2.2.2.1, o.2.2.2.2.2.2.2.2.2.2.2.1, o.2.2.2.2.2.2.2.2.2.2.2.2.1, o.2.2.2.2.2.2.2.2.2.2.2.2.2.1, o.2.2.2.2.2.2.2.2.2.2.2.2.2.2.1, o.2.2.2.2.2.2.2.2.2.2.2.2.2.2.2.1, o.2.2.2.2.2.2.2.2.2.2.2.2.2.2.2.2.1, o.2.2.2.2.2.2.2.2.2.2.2.2.2.2.2.2.2.1, o.2.2.2.2.2.2.2.2.2.2.2.2.2.2.2.2.2.2.1, o.2.2.2.2.2.2.2.2.2.2.2.2.2.2.2.2.2.2.2.1, v)
theorem fs (o : Ob) : f_data o = o.1 ∧ f_filled o = o.2.1 ∧ f_rf o = o.2.2.1 ∧ f_cf o = o.2.2.2.1 ∧ f_vf o = o.2.2.2.2.1 ∧ f_ag o = o.2.2.2.2.2.1 ∧ f_fMode o = o.2.2.2.2.2.2.1 ∧ f_fRk o = o.2.2.2.2.2.2.2.1 ∧ f_fCk o = o.2.2.2.2.2.2.2.2.1 ∧ f_prevVal o = o.2.2.2.2.2.2.2.2.2.1 ∧ f_prevFound o = o.2.2.2.2.2.2.2.2.2.2.1 ∧ f_keys o = o.2.2.2.2.2.2.2.2.2.2.2.1 ∧ f_nRows o = o.2.2.2.2.2.2.2.2.2.2.2.2.1 ∧ f_nForms o = o.2.2.2.2.2.2.2.2.2.2.2.2.2.1 ∧ f_last o = o.2.2.2.2.2.2.2.2.2.2.2.2.2.2.1 ∧ f_gVal o = o.2.2.2.2.2.2.2.2.2.2.2.2.2.2.2.1 ∧ f_gCount o = o.2.2.2.2.2.2.2.2.2.2.2.2.2.2.2.2.1 ∧ f_selUseR o = o.2.2.2.2.2.2.2.2.2.2.2.2.2.2.2.2.2.1 ∧ f_selRk o = o.2.2.2.2.2.2.2.2.2.2.2.2.2.2.2.2.2.2.1 ∧ f_selUseC o = o.2.2.2.2.2.2.2.2.2.2.2.2.2.2.2.2.2.2.2.1 ∧ f_selCk o = o.2.2.2.2.2.2.2.2.2.2.2.2.2.2.2.2.2.2.2.2 := by simp only [f_data, f_filled, f_rf, f_cf, f_vf, f_ag, f_fMode, f_fRk, f_fCk, f_prevVal, f_prevFound, f_keys, f_nRows, f_nForms, f_last, f_gVal, f_gCount, f_selUseR, f_selRk, f_selUseC, f_selCk, and_self]
def ob0 : Ob := ([], [], 0, 0, 0, 0, [], [], [], [], [], [], 0, 0, 0, 0, 0, 0, 0, 0, 0)
section Walks
variable {l : Launch} {Z : State} {n0 : Nat} {ad : Nat → Addr} {a0 : Array Value}
set_option maxRecDepth 20000
set_option maxHeartbeats 2000000
abbrev tt : Bool := true
abbrev ff : Bool := false
open QTri renaming steps → zS, brT → zT, brF → zF, bnd → zB, mask → zM
open Option (bind_eq_some_iff)
open Classical (em)
def H0 (o0 : Ob) : QHeap := [.inl [.ref 1, .ref 2, .int (f_rf o0), .int (f_cf o0), .int (f_vf o0), .int (f_ag o0), .ref 3, .ref 4, .ref 5, .ref 6, .ref 7, .ref 8, .int (f_nRows o0), .int (f_nForms o0), .int (f_last o0), .int (f_gVal o0), .int (f_gCount o0), .int (f_selUseR o0), .int (f_selRk o0), .int (f_selUseC o0), .int (f_selCk o0)], .inr (.inl (.int, (f_data o0))), .inr (.inl (.boolean, (f_filled o0))), .inr (.inl (.int, (f_fMode o0))), .inr (.inl (.int, (f_fRk o0))), .inr (.inl (.int, (f_fCk o0))), .inr (.inl (.int, (f_prevVal o0))), .inr (.inl (.boolean, (f_prevFound o0))), .inr (.inl (.int, (f_keys o0)))]
def H0v (a0_0 : List Int32) (a0_1 : List Int32) (a0_2 : Int32) (a0_3 : Int32) (a0_4 : Int32) (a0_5 : Int32) (a0_6 : List Int32) (a0_7 : List Int32) (a0_8 : List Int32) (a0_9 : List Int32) (a0_10 : List Int32) (a0_11 : List Int32) (a0_12 : Int32) (a0_13 : Int32) (a0_14 : Int32) (a0_15 : Int32) (a0_16 : Int32) (a0_17 : Int32) (a0_18 : Int32) (a0_19 : Int32) (a0_20 : Int32) : QHeap := [.inl [.ref 1, .ref 2, .int a0_2, .int a0_3, .int a0_4, .int a0_5, .ref 3, .ref 4, .ref 5, .ref 6, .ref 7, .ref 8, .int a0_12, .int a0_13, .int a0_14, .int a0_15, .int a0_16, .int a0_17, .int a0_18, .int a0_19, .int a0_20], .inr (.inl (.int, a0_0)), .inr (.inl (.boolean, a0_1)), .inr (.inl (.int, a0_6)), .inr (.inl (.int, a0_7)), .inr (.inl (.int, a0_8)), .inr (.inl (.int, a0_9)), .inr (.inl (.boolean, a0_10)), .inr (.inl (.int, a0_11))]
def H0x0 (o0 : Ob) (a0_0 : List Int32) (a0_1 : List Int32) (a0_2 : Int32) (a0_3 : Int32) (a0_4 : Int32) (a0_5 : Int32) (a0_6 : List Int32) (a0_7 : List Int32) (a0_8 : List Int32) (a0_9 : List Int32) (a0_10 : List Int32) (a0_11 : List Int32) : QHeap := H0v a0_0 a0_1 a0_2 a0_3 a0_4 a0_5 a0_6 a0_7 a0_8 a0_9 a0_10 a0_11 (f_nRows o0) (f_nForms o0) (f_last o0) (f_gVal o0) (f_gCount o0) (f_selUseR o0) (f_selRk o0) (f_selUseC o0) (f_selCk o0)
def H0x1 (o0 : Ob) (a0_0 : List Int32) (a0_1 : List Int32) (a0_2 : Int32) (a0_3 : Int32) (a0_4 : Int32) (a0_5 : Int32) (a0_6 : List Int32) (a0_7 : List Int32) (a0_8 : List Int32) (a0_9 : List Int32) (a0_10 : List Int32) (a0_11 : List Int32) (a0_12 : Int32) : QHeap := H0v a0_0 a0_1 a0_2 a0_3 a0_4 a0_5 a0_6 a0_7 a0_8 a0_9 a0_10 a0_11 a0_12 (f_nForms o0) (f_last o0) (f_gVal o0) (f_gCount o0) (f_selUseR o0) (f_selRk o0) (f_selUseC o0) (f_selCk o0)
def H0x2 (o0 : Ob) (a0_0 : List Int32) (a0_1 : List Int32) (a0_2 : Int32) (a0_3 : Int32) (a0_4 : Int32) (a0_5 : Int32) (a0_6 : List Int32) (a0_7 : List Int32) (a0_8 : List Int32) (a0_9 : List Int32) (a0_10 : List Int32) (a0_11 : List Int32) (a0_12 : Int32) (a0_13 : Int32) : QHeap := H0v a0_0 a0_1 a0_2 a0_3 a0_4 a0_5 a0_6 a0_7 a0_8 a0_9 a0_10 a0_11 a0_12 a0_13 (f_last o0) (f_gVal o0) (f_gCount o0) (f_selUseR o0) (f_selRk o0) (f_selUseC o0) (f_selCk o0)
def H0x3 (o0 : Ob) (a0_0 : List Int32) (a0_1 : List Int32) (a0_2 : Int32) (a0_3 : Int32) (a0_4 : Int32) (a0_5 : Int32) (a0_6 : List Int32) (a0_7 : List Int32) (a0_8 : List Int32) (a0_9 : List Int32) (a0_10 : List Int32) (a0_11 : List Int32) (a0_12 : Int32) (a0_13 : Int32) (a0_14 : Int32) : QHeap := H0v a0_0 a0_1 a0_2 a0_3 a0_4 a0_5 a0_6 a0_7 a0_8 a0_9 a0_10 a0_11 a0_12 a0_13 a0_14 (f_gVal o0) (f_gCount o0) (f_selUseR o0) (f_selRk o0) (f_selUseC o0) (f_selCk o0)
/-- init(II)V -/
def F1 (x1 : Int32) (x2 : Int32) : Option (Ob) :=
 some (s_last (s_nForms (s_nRows (s_keys (s_prevFound (s_prevVal (s_fCk (s_fRk (s_fMode (s_ag (s_vf (s_cf (s_rf (s_filled (s_data ob0 (List.replicate 128 0)) (List.replicate 32 0)) (0:Int32)) (1:Int32)) (2:Int32)) (0:Int32)) (List.replicate 16 0)) (List.replicate 16 0)) (List.replicate 16 0)) (List.replicate 16 0)) (List.replicate 16 0)) (List.replicate 64 0)) (if (32:Int32) < (if x1 < (4:Int32) then (4:Int32) else x1) then (32:Int32) else (if x1 < (4:Int32) then (4:Int32) else x1))) (if (16:Int32) < (if x2 < (1:Int32) then (1:Int32) else x2) then (16:Int32) else (if x2 < (1:Int32) then (1:Int32) else x2))) (0:Int32))
theorem tF1 (Ad : QAd n0 ad) (W : QW Z a0) (x1 : Int32) (x2 : Int32) {r : Ob} (h : F1 x1 x2 = some r) : QTri l Z n0 ad 1 (0, qentry [.ref 0, .int x1, .int x2] (pMaxL 1), [], [.inl [.null, .null, .int (f_rf ob0), .int (f_cf ob0), .int (f_vf ob0), .int (f_ag ob0), .null, .null, .null, .null, .null, .null, .int (f_nRows ob0), .int (f_nForms ob0), .int (f_last ob0), .int (f_gVal ob0), .int (f_gCount ob0), .int (f_selUseR ob0), .int (f_selRk ob0), .int (f_selUseC ob0), .int (f_selCk ob0)]]) (none : Option Value) (H0 r) := by
 unfold F1 at h
 refine zS Ad W 1 (st' := (1, [vR 0, vI x1, vI x2, none, none], [.ref 0], [.inl [.null, .null, .int (f_rf ob0), .int (f_cf ob0), .int (f_vf ob0), .int (f_ag ob0), .null, .null, .null, .null, .null, .null, .int (f_nRows ob0), .int (f_nForms ob0), .int (f_last ob0), .int (f_gVal ob0), .int (f_gCount ob0), .int (f_selUseR ob0), .int (f_selRk ob0), .int (f_selUseC ob0), .int (f_selCk ob0)]])) rfl ?_
 refine QTri.callO W rfl rfl rfl ?_
 refine zS Ad W 3 (st' := (10, [vR 0, vI x1, vI x2, none, none], [.ref 1, .ref 0], [.inl [.null, .null, .int (f_rf ob0), .int (f_cf ob0), .int (f_vf ob0), .int (f_ag ob0), .null, .null, .null, .null, .null, .null, .int (f_nRows ob0), .int (f_nForms ob0), .int (f_last ob0), .int (f_gVal ob0), .int (f_gCount ob0), .int (f_selUseR ob0), .int (f_selRk ob0), .int (f_selUseC ob0), .int (f_selCk ob0)], .inr (.inl (.int, (List.replicate 128 0)))])) rfl ?_
 refine zS Ad W 1 (st' := (13, [vR 0, vI x1, vI x2, none, none], [], [.inl [.ref 1, .null, .int (f_rf ob0), .int (f_cf ob0), .int (f_vf ob0), .int (f_ag ob0), .null, .null, .null, .null, .null, .null, .int (f_nRows ob0), .int (f_nForms ob0), .int (f_last ob0), .int (f_gVal ob0), .int (f_gCount ob0), .int (f_selUseR ob0), .int (f_selRk ob0), .int (f_selUseC ob0), .int (f_selCk ob0)], .inr (.inl (.int, (List.replicate 128 0)))])) rfl ?_
 refine zS Ad W 3 (st' := (18, [vR 0, vI x1, vI x2, none, none], [.ref 2, .ref 0], [.inl [.ref 1, .null, .int (f_rf ob0), .int (f_cf ob0), .int (f_vf ob0), .int (f_ag ob0), .null, .null, .null, .null, .null, .null, .int (f_nRows ob0), .int (f_nForms ob0), .int (f_last ob0), .int (f_gVal ob0), .int (f_gCount ob0), .int (f_selUseR ob0), .int (f_selRk ob0), .int (f_selUseC ob0), .int (f_selCk ob0)], .inr (.inl (.int, (List.replicate 128 0))), .inr (.inl (.boolean, (List.replicate 32 0)))])) rfl ?_
 refine zS Ad W 1 (st' := (21, [vR 0, vI x1, vI x2, none, none], [], [.inl [.ref 1, .ref 2, .int (f_rf ob0), .int (f_cf ob0), .int (f_vf ob0), .int (f_ag ob0), .null, .null, .null, .null, .null, .null, .int (f_nRows ob0), .int (f_nForms ob0), .int (f_last ob0), .int (f_gVal ob0), .int (f_gCount ob0), .int (f_selUseR ob0), .int (f_selRk ob0), .int (f_selUseC ob0), .int (f_selCk ob0)], .inr (.inl (.int, (List.replicate 128 0))), .inr (.inl (.boolean, (List.replicate 32 0)))])) rfl ?_
 refine zS Ad W 3 (st' := (26, [vR 0, vI x1, vI x2, none, none], [], [.inl [.ref 1, .ref 2, .int (0:Int32), .int (f_cf ob0), .int (f_vf ob0), .int (f_ag ob0), .null, .null, .null, .null, .null, .null, .int (f_nRows ob0), .int (f_nForms ob0), .int (f_last ob0), .int (f_gVal ob0), .int (f_gCount ob0), .int (f_selUseR ob0), .int (f_selRk ob0), .int (f_selUseC ob0), .int (f_selCk ob0)], .inr (.inl (.int, (List.replicate 128 0))), .inr (.inl (.boolean, (List.replicate 32 0)))])) rfl ?_
 refine zS Ad W 3 (st' := (31, [vR 0, vI x1, vI x2, none, none], [], [.inl [.ref 1, .ref 2, .int (0:Int32), .int (1:Int32), .int (f_vf ob0), .int (f_ag ob0), .null, .null, .null, .null, .null, .null, .int (f_nRows ob0), .int (f_nForms ob0), .int (f_last ob0), .int (f_gVal ob0), .int (f_gCount ob0), .int (f_selUseR ob0), .int (f_selRk ob0), .int (f_selUseC ob0), .int (f_selCk ob0)], .inr (.inl (.int, (List.replicate 128 0))), .inr (.inl (.boolean, (List.replicate 32 0)))])) rfl ?_
 refine zS Ad W 3 (st' := (36, [vR 0, vI x1, vI x2, none, none], [], [.inl [.ref 1, .ref 2, .int (0:Int32), .int (1:Int32), .int (2:Int32), .int (f_ag ob0), .null, .null, .null, .null, .null, .null, .int (f_nRows ob0), .int (f_nForms ob0), .int (f_last ob0), .int (f_gVal ob0), .int (f_gCount ob0), .int (f_selUseR ob0), .int (f_selRk ob0), .int (f_selUseC ob0), .int (f_selCk ob0)], .inr (.inl (.int, (List.replicate 128 0))), .inr (.inl (.boolean, (List.replicate 32 0)))])) rfl ?_
 refine zS Ad W 3 (st' := (41, [vR 0, vI x1, vI x2, none, none], [], [.inl [.ref 1, .ref 2, .int (0:Int32), .int (1:Int32), .int (2:Int32), .int (0:Int32), .null, .null, .null, .null, .null, .null, .int (f_nRows ob0), .int (f_nForms ob0), .int (f_last ob0), .int (f_gVal ob0), .int (f_gCount ob0), .int (f_selUseR ob0), .int (f_selRk ob0), .int (f_selUseC ob0), .int (f_selCk ob0)], .inr (.inl (.int, (List.replicate 128 0))), .inr (.inl (.boolean, (List.replicate 32 0)))])) rfl ?_
 refine zS Ad W 3 (st' := (46, [vR 0, vI x1, vI x2, none, none], [.ref 3, .ref 0], [.inl [.ref 1, .ref 2, .int (0:Int32), .int (1:Int32), .int (2:Int32), .int (0:Int32), .null, .null, .null, .null, .null, .null, .int (f_nRows ob0), .int (f_nForms ob0), .int (f_last ob0), .int (f_gVal ob0), .int (f_gCount ob0), .int (f_selUseR ob0), .int (f_selRk ob0), .int (f_selUseC ob0), .int (f_selCk ob0)], .inr (.inl (.int, (List.replicate 128 0))), .inr (.inl (.boolean, (List.replicate 32 0))), .inr (.inl (.int, (List.replicate 16 0)))])) rfl ?_
 refine zS Ad W 1 (st' := (49, [vR 0, vI x1, vI x2, none, none], [], [.inl [.ref 1, .ref 2, .int (0:Int32), .int (1:Int32), .int (2:Int32), .int (0:Int32), .ref 3, .null, .null, .null, .null, .null, .int (f_nRows ob0), .int (f_nForms ob0), .int (f_last ob0), .int (f_gVal ob0), .int (f_gCount ob0), .int (f_selUseR ob0), .int (f_selRk ob0), .int (f_selUseC ob0), .int (f_selCk ob0)], .inr (.inl (.int, (List.replicate 128 0))), .inr (.inl (.boolean, (List.replicate 32 0))), .inr (.inl (.int, (List.replicate 16 0)))])) rfl ?_
 refine zS Ad W 3 (st' := (54, [vR 0, vI x1, vI x2, none, none], [.ref 4, .ref 0], [.inl [.ref 1, .ref 2, .int (0:Int32), .int (1:Int32), .int (2:Int32), .int (0:Int32), .ref 3, .null, .null, .null, .null, .null, .int (f_nRows ob0), .int (f_nForms ob0), .int (f_last ob0), .int (f_gVal ob0), .int (f_gCount ob0), .int (f_selUseR ob0), .int (f_selRk ob0), .int (f_selUseC ob0), .int (f_selCk ob0)], .inr (.inl (.int, (List.replicate 128 0))), .inr (.inl (.boolean, (List.replicate 32 0))), .inr (.inl (.int, (List.replicate 16 0))), .inr (.inl (.int, (List.replicate 16 0)))])) rfl ?_
 refine zS Ad W 1 (st' := (57, [vR 0, vI x1, vI x2, none, none], [], [.inl [.ref 1, .ref 2, .int (0:Int32), .int (1:Int32), .int (2:Int32), .int (0:Int32), .ref 3, .ref 4, .null, .null, .null, .null, .int (f_nRows ob0), .int (f_nForms ob0), .int (f_last ob0), .int (f_gVal ob0), .int (f_gCount ob0), .int (f_selUseR ob0), .int (f_selRk ob0), .int (f_selUseC ob0), .int (f_selCk ob0)], .inr (.inl (.int, (List.replicate 128 0))), .inr (.inl (.boolean, (List.replicate 32 0))), .inr (.inl (.int, (List.replicate 16 0))), .inr (.inl (.int, (List.replicate 16 0)))])) rfl ?_
 refine zS Ad W 3 (st' := (62, [vR 0, vI x1, vI x2, none, none], [.ref 5, .ref 0], [.inl [.ref 1, .ref 2, .int (0:Int32), .int (1:Int32), .int (2:Int32), .int (0:Int32), .ref 3, .ref 4, .null, .null, .null, .null, .int (f_nRows ob0), .int (f_nForms ob0), .int (f_last ob0), .int (f_gVal ob0), .int (f_gCount ob0), .int (f_selUseR ob0), .int (f_selRk ob0), .int (f_selUseC ob0), .int (f_selCk ob0)], .inr (.inl (.int, (List.replicate 128 0))), .inr (.inl (.boolean, (List.replicate 32 0))), .inr (.inl (.int, (List.replicate 16 0))), .inr (.inl (.int, (List.replicate 16 0))), .inr (.inl (.int, (List.replicate 16 0)))])) rfl ?_
 refine zS Ad W 1 (st' := (65, [vR 0, vI x1, vI x2, none, none], [], [.inl [.ref 1, .ref 2, .int (0:Int32), .int (1:Int32), .int (2:Int32), .int (0:Int32), .ref 3, .ref 4, .ref 5, .null, .null, .null, .int (f_nRows ob0), .int (f_nForms ob0), .int (f_last ob0), .int (f_gVal ob0), .int (f_gCount ob0), .int (f_selUseR ob0), .int (f_selRk ob0), .int (f_selUseC ob0), .int (f_selCk ob0)], .inr (.inl (.int, (List.replicate 128 0))), .inr (.inl (.boolean, (List.replicate 32 0))), .inr (.inl (.int, (List.replicate 16 0))), .inr (.inl (.int, (List.replicate 16 0))), .inr (.inl (.int, (List.replicate 16 0)))])) rfl ?_
 refine zS Ad W 3 (st' := (70, [vR 0, vI x1, vI x2, none, none], [.ref 6, .ref 0], [.inl [.ref 1, .ref 2, .int (0:Int32), .int (1:Int32), .int (2:Int32), .int (0:Int32), .ref 3, .ref 4, .ref 5, .null, .null, .null, .int (f_nRows ob0), .int (f_nForms ob0), .int (f_last ob0), .int (f_gVal ob0), .int (f_gCount ob0), .int (f_selUseR ob0), .int (f_selRk ob0), .int (f_selUseC ob0), .int (f_selCk ob0)], .inr (.inl (.int, (List.replicate 128 0))), .inr (.inl (.boolean, (List.replicate 32 0))), .inr (.inl (.int, (List.replicate 16 0))), .inr (.inl (.int, (List.replicate 16 0))), .inr (.inl (.int, (List.replicate 16 0))), .inr (.inl (.int, (List.replicate 16 0)))])) rfl ?_
 refine zS Ad W 1 (st' := (73, [vR 0, vI x1, vI x2, none, none], [], [.inl [.ref 1, .ref 2, .int (0:Int32), .int (1:Int32), .int (2:Int32), .int (0:Int32), .ref 3, .ref 4, .ref 5, .ref 6, .null, .null, .int (f_nRows ob0), .int (f_nForms ob0), .int (f_last ob0), .int (f_gVal ob0), .int (f_gCount ob0), .int (f_selUseR ob0), .int (f_selRk ob0), .int (f_selUseC ob0), .int (f_selCk ob0)], .inr (.inl (.int, (List.replicate 128 0))), .inr (.inl (.boolean, (List.replicate 32 0))), .inr (.inl (.int, (List.replicate 16 0))), .inr (.inl (.int, (List.replicate 16 0))), .inr (.inl (.int, (List.replicate 16 0))), .inr (.inl (.int, (List.replicate 16 0)))])) rfl ?_
 refine zS Ad W 3 (st' := (78, [vR 0, vI x1, vI x2, none, none], [.ref 7, .ref 0], [.inl [.ref 1, .ref 2, .int (0:Int32), .int (1:Int32), .int (2:Int32), .int (0:Int32), .ref 3, .ref 4, .ref 5, .ref 6, .null, .null, .int (f_nRows ob0), .int (f_nForms ob0), .int (f_last ob0), .int (f_gVal ob0), .int (f_gCount ob0), .int (f_selUseR ob0), .int (f_selRk ob0), .int (f_selUseC ob0), .int (f_selCk ob0)], .inr (.inl (.int, (List.replicate 128 0))), .inr (.inl (.boolean, (List.replicate 32 0))), .inr (.inl (.int, (List.replicate 16 0))), .inr (.inl (.int, (List.replicate 16 0))), .inr (.inl (.int, (List.replicate 16 0))), .inr (.inl (.int, (List.replicate 16 0))), .inr (.inl (.boolean, (List.replicate 16 0)))])) rfl ?_
 refine zS Ad W 1 (st' := (81, [vR 0, vI x1, vI x2, none, none], [], [.inl [.ref 1, .ref 2, .int (0:Int32), .int (1:Int32), .int (2:Int32), .int (0:Int32), .ref 3, .ref 4, .ref 5, .ref 6, .ref 7, .null, .int (f_nRows ob0), .int (f_nForms ob0), .int (f_last ob0), .int (f_gVal ob0), .int (f_gCount ob0), .int (f_selUseR ob0), .int (f_selRk ob0), .int (f_selUseC ob0), .int (f_selCk ob0)], .inr (.inl (.int, (List.replicate 128 0))), .inr (.inl (.boolean, (List.replicate 32 0))), .inr (.inl (.int, (List.replicate 16 0))), .inr (.inl (.int, (List.replicate 16 0))), .inr (.inl (.int, (List.replicate 16 0))), .inr (.inl (.int, (List.replicate 16 0))), .inr (.inl (.boolean, (List.replicate 16 0)))])) rfl ?_
 refine zS Ad W 3 (st' := (86, [vR 0, vI x1, vI x2, none, none], [.ref 8, .ref 0], [.inl [.ref 1, .ref 2, .int (0:Int32), .int (1:Int32), .int (2:Int32), .int (0:Int32), .ref 3, .ref 4, .ref 5, .ref 6, .ref 7, .null, .int (f_nRows ob0), .int (f_nForms ob0), .int (f_last ob0), .int (f_gVal ob0), .int (f_gCount ob0), .int (f_selUseR ob0), .int (f_selRk ob0), .int (f_selUseC ob0), .int (f_selCk ob0)], .inr (.inl (.int, (List.replicate 128 0))), .inr (.inl (.boolean, (List.replicate 32 0))), .inr (.inl (.int, (List.replicate 16 0))), .inr (.inl (.int, (List.replicate 16 0))), .inr (.inl (.int, (List.replicate 16 0))), .inr (.inl (.int, (List.replicate 16 0))), .inr (.inl (.boolean, (List.replicate 16 0))), .inr (.inl (.int, (List.replicate 64 0)))])) rfl ?_
 refine zS Ad W 1 (st' := (89, [vR 0, vI x1, vI x2, none, none], [], (H0x0 ob0 (List.replicate 128 0) (List.replicate 32 0) (0:Int32) (1:Int32) (2:Int32) (0:Int32) (List.replicate 16 0) (List.replicate 16 0) (List.replicate 16 0) (List.replicate 16 0) (List.replicate 16 0) (List.replicate 64 0)))) rfl ?_
 refine zS Ad W 4 (st' := (93, [vR 0, vI x1, vI x2, vI x1, none], [.int (4:Int32), .int x1], (H0x0 ob0 (List.replicate 128 0) (List.replicate 32 0) (0:Int32) (1:Int32) (2:Int32) (0:Int32) (List.replicate 16 0) (List.replicate 16 0) (List.replicate 16 0) (List.replicate 16 0) (List.replicate 16 0) (List.replicate 64 0)))) rfl ?_
 have K2 : ∀ z1 : Int32, z1 = (if x1 < (4:Int32) then (4:Int32) else x1) → QTri l Z n0 ad 1 (98, [vR 0, none, vI x2, vI z1, none], [], (H0x0 ob0 (List.replicate 128 0) (List.replicate 32 0) (0:Int32) (1:Int32) (2:Int32) (0:Int32) (List.replicate 16 0) (List.replicate 16 0) (List.replicate 16 0) (List.replicate 16 0) (List.replicate 16 0) (List.replicate 64 0))) (none : Option Value) (H0 r) := by
  intro z1 ez1
  subst ez1
  refine zS Ad W 2 (st' := (101, [vR 0, none, vI x2, vI (if x1 < (4:Int32) then (4:Int32) else x1), none], [.int (32:Int32), .int (if x1 < (4:Int32) then (4:Int32) else x1)], (H0x0 ob0 (List.replicate 128 0) (List.replicate 32 0) (0:Int32) (1:Int32) (2:Int32) (0:Int32) (List.replicate 16 0) (List.replicate 16 0) (List.replicate 16 0) (List.replicate 16 0) (List.replicate 16 0) (List.replicate 64 0)))) rfl ?_
  have K5 : ∀ z4 : Int32, z4 = (if (32:Int32) < (if x1 < (4:Int32) then (4:Int32) else x1) then (32:Int32) else (if x1 < (4:Int32) then (4:Int32) else x1)) → QTri l Z n0 ad 1 (107, [vR 0, none, vI x2, vI z4, none], [], (H0x0 ob0 (List.replicate 128 0) (List.replicate 32 0) (0:Int32) (1:Int32) (2:Int32) (0:Int32) (List.replicate 16 0) (List.replicate 16 0) (List.replicate 16 0) (List.replicate 16 0) (List.replicate 16 0) (List.replicate 64 0))) (none : Option Value) (H0 r) := by
   intro z4 ez4
   subst ez4
   refine zS Ad W 4 (st' := (113, [vR 0, none, vI x2, vI (if (32:Int32) < (if x1 < (4:Int32) then (4:Int32) else x1) then (32:Int32) else (if x1 < (4:Int32) then (4:Int32) else x1)), vI x2], [.int (1:Int32), .int x2], (H0x0 ob0 (List.replicate 128 0) (List.replicate 32 0) (0:Int32) (1:Int32) (2:Int32) (0:Int32) (List.replicate 16 0) (List.replicate 16 0) (List.replicate 16 0) (List.replicate 16 0) (List.replicate 16 0) (List.replicate 64 0)))) rfl ?_
   have K8 : ∀ z7 : Int32, z7 = (if x2 < (1:Int32) then (1:Int32) else x2) → QTri l Z n0 ad 1 (119, [vR 0, none, none, vI (if (32:Int32) < (if x1 < (4:Int32) then (4:Int32) else x1) then (32:Int32) else (if x1 < (4:Int32) then (4:Int32) else x1)), vI z7], [], (H0x0 ob0 (List.replicate 128 0) (List.replicate 32 0) (0:Int32) (1:Int32) (2:Int32) (0:Int32) (List.replicate 16 0) (List.replicate 16 0) (List.replicate 16 0) (List.replicate 16 0) (List.replicate 16 0) (List.replicate 64 0))) (none : Option Value) (H0 r) := by
    intro z7 ez7
    subst ez7
    refine zS Ad W 2 (st' := (123, [vR 0, none, none, vI (if (32:Int32) < (if x1 < (4:Int32) then (4:Int32) else x1) then (32:Int32) else (if x1 < (4:Int32) then (4:Int32) else x1)), vI (if x2 < (1:Int32) then (1:Int32) else x2)], [.int (16:Int32), .int (if x2 < (1:Int32) then (1:Int32) else x2)], (H0x0 ob0 (List.replicate 128 0) (List.replicate 32 0) (0:Int32) (1:Int32) (2:Int32) (0:Int32) (List.replicate 16 0) (List.replicate 16 0) (List.replicate 16 0) (List.replicate 16 0) (List.replicate 16 0) (List.replicate 64 0)))) rfl ?_
    have K11 : ∀ z10 : Int32, z10 = (if (16:Int32) < (if x2 < (1:Int32) then (1:Int32) else x2) then (16:Int32) else (if x2 < (1:Int32) then (1:Int32) else x2)) → QTri l Z n0 ad 1 (130, [vR 0, none, none, vI (if (32:Int32) < (if x1 < (4:Int32) then (4:Int32) else x1) then (32:Int32) else (if x1 < (4:Int32) then (4:Int32) else x1)), vI z10], [], (H0x0 ob0 (List.replicate 128 0) (List.replicate 32 0) (0:Int32) (1:Int32) (2:Int32) (0:Int32) (List.replicate 16 0) (List.replicate 16 0) (List.replicate 16 0) (List.replicate 16 0) (List.replicate 16 0) (List.replicate 64 0))) (none : Option Value) (H0 r) := by
     intro z10 ez10
     subst ez10
     refine zS Ad W 3 (st' := (135, [vR 0, none, none, vI (if (32:Int32) < (if x1 < (4:Int32) then (4:Int32) else x1) then (32:Int32) else (if x1 < (4:Int32) then (4:Int32) else x1)), vI (if (16:Int32) < (if x2 < (1:Int32) then (1:Int32) else x2) then (16:Int32) else (if x2 < (1:Int32) then (1:Int32) else x2))], [], (H0x1 ob0 (List.replicate 128 0) (List.replicate 32 0) (0:Int32) (1:Int32) (2:Int32) (0:Int32) (List.replicate 16 0) (List.replicate 16 0) (List.replicate 16 0) (List.replicate 16 0) (List.replicate 16 0) (List.replicate 64 0) (if (32:Int32) < (if x1 < (4:Int32) then (4:Int32) else x1) then (32:Int32) else (if x1 < (4:Int32) then (4:Int32) else x1))))) rfl ?_
     refine zS Ad W 3 (st' := (141, [vR 0, none, none, vI (if (32:Int32) < (if x1 < (4:Int32) then (4:Int32) else x1) then (32:Int32) else (if x1 < (4:Int32) then (4:Int32) else x1)), vI (if (16:Int32) < (if x2 < (1:Int32) then (1:Int32) else x2) then (16:Int32) else (if x2 < (1:Int32) then (1:Int32) else x2))], [], (H0x2 ob0 (List.replicate 128 0) (List.replicate 32 0) (0:Int32) (1:Int32) (2:Int32) (0:Int32) (List.replicate 16 0) (List.replicate 16 0) (List.replicate 16 0) (List.replicate 16 0) (List.replicate 16 0) (List.replicate 64 0) (if (32:Int32) < (if x1 < (4:Int32) then (4:Int32) else x1) then (32:Int32) else (if x1 < (4:Int32) then (4:Int32) else x1)) (if (16:Int32) < (if x2 < (1:Int32) then (1:Int32) else x2) then (16:Int32) else (if x2 < (1:Int32) then (1:Int32) else x2))))) rfl ?_
     refine zS Ad W 3 (st' := (146, [vR 0, none, none, vI (if (32:Int32) < (if x1 < (4:Int32) then (4:Int32) else x1) then (32:Int32) else (if x1 < (4:Int32) then (4:Int32) else x1)), vI (if (16:Int32) < (if x2 < (1:Int32) then (1:Int32) else x2) then (16:Int32) else (if x2 < (1:Int32) then (1:Int32) else x2))], [], (H0x3 ob0 (List.replicate 128 0) (List.replicate 32 0) (0:Int32) (1:Int32) (2:Int32) (0:Int32) (List.replicate 16 0) (List.replicate 16 0) (List.replicate 16 0) (List.replicate 16 0) (List.replicate 16 0) (List.replicate 64 0) (if (32:Int32) < (if x1 < (4:Int32) then (4:Int32) else x1) then (32:Int32) else (if x1 < (4:Int32) then (4:Int32) else x1)) (if (16:Int32) < (if x2 < (1:Int32) then (1:Int32) else x2) then (16:Int32) else (if x2 < (1:Int32) then (1:Int32) else x2)) (0:Int32)))) rfl ?_
     have E13 : ((H0x3 ob0 (List.replicate 128 0) (List.replicate 32 0) (0:Int32) (1:Int32) (2:Int32) (0:Int32) (List.replicate 16 0) (List.replicate 16 0) (List.replicate 16 0) (List.replicate 16 0) (List.replicate 16 0) (List.replicate 64 0) (if (32:Int32) < (if x1 < (4:Int32) then (4:Int32) else x1) then (32:Int32) else (if x1 < (4:Int32) then (4:Int32) else x1)) (if (16:Int32) < (if x2 < (1:Int32) then (1:Int32) else x2) then (16:Int32) else (if x2 < (1:Int32) then (1:Int32) else x2)) (0:Int32)) : QHeap) = (H0 (s_last (s_nForms (s_nRows (s_keys (s_prevFound (s_prevVal (s_fCk (s_fRk (s_fMode (s_ag (s_vf (s_cf (s_rf (s_filled (s_data ob0 (List.replicate 128 0)) (List.replicate 32 0)) (0:Int32)) (1:Int32)) (2:Int32)) (0:Int32)) (List.replicate 16 0)) (List.replicate 16 0)) (List.replicate 16 0)) (List.replicate 16 0)) (List.replicate 16 0)) (List.replicate 64 0)) (if (32:Int32) < (if x1 < (4:Int32) then (4:Int32) else x1) then (32:Int32) else (if x1 < (4:Int32) then (4:Int32) else x1))) (if (16:Int32) < (if x2 < (1:Int32) then (1:Int32) else x2) then (16:Int32) else (if x2 < (1:Int32) then (1:Int32) else x2))) (0:Int32))) := by simp only [fs, H0, H0v, H0x3, s_data, s_filled, s_rf, s_cf, s_vf, s_ag, s_fMode, s_fRk, s_fCk, s_prevVal, s_prevFound, s_keys, s_nRows, s_nForms, s_last, ob0]
     rw [E13]
     obtain rfl := Option.some.inj h
     exact QTri.ret0 rfl rfl
    rcases em ((16:Int32) < (if x2 < (1:Int32) then (1:Int32) else x2)) with hc12 | hc12
    ·refine zF Ad W (t := 130) (f := 126) rfl (XT.ii_le_f hc12) ?_
     refine zS Ad W 2 (st' := (130, [vR 0, none, none, vI (if (32:Int32) < (if x1 < (4:Int32) then (4:Int32) else x1) then (32:Int32) else (if x1 < (4:Int32) then (4:Int32) else x1)), vI (16:Int32)], [], (H0x0 ob0 (List.replicate 128 0) (List.replicate 32 0) (0:Int32) (1:Int32) (2:Int32) (0:Int32) (List.replicate 16 0) (List.replicate 16 0) (List.replicate 16 0) (List.replicate 16 0) (List.replicate 16 0) (List.replicate 64 0)))) rfl ?_
     exact zM [tt,ff,ff,tt,tt] (K11 _ (if_pos hc12).symm)
    ·refine zT Ad W (t := 130) (f := 126) rfl (XT.ii_le_t hc12) ?_
     exact zM [tt,ff,ff,tt,tt] (K11 _ (if_neg hc12).symm)
   rcases em (x2 < (1:Int32)) with hc9 | hc9
   ·refine zF Ad W (t := 119) (f := 116) rfl (XT.ii_ge_f hc9) ?_
    refine zS Ad W 2 (st' := (119, [vR 0, none, vI x2, vI (if (32:Int32) < (if x1 < (4:Int32) then (4:Int32) else x1) then (32:Int32) else (if x1 < (4:Int32) then (4:Int32) else x1)), vI (1:Int32)], [], (H0x0 ob0 (List.replicate 128 0) (List.replicate 32 0) (0:Int32) (1:Int32) (2:Int32) (0:Int32) (List.replicate 16 0) (List.replicate 16 0) (List.replicate 16 0) (List.replicate 16 0) (List.replicate 16 0) (List.replicate 64 0)))) rfl ?_
    exact zM [tt,ff,ff,tt,tt] (K8 _ (if_pos hc9).symm)
   ·refine zT Ad W (t := 119) (f := 116) rfl (XT.ii_ge_t hc9) ?_
    exact zM [tt,ff,ff,tt,tt] (K8 _ (if_neg hc9).symm)
  rcases em ((32:Int32) < (if x1 < (4:Int32) then (4:Int32) else x1)) with hc6 | hc6
  ·refine zF Ad W (t := 107) (f := 104) rfl (XT.ii_le_f hc6) ?_
   refine zS Ad W 2 (st' := (107, [vR 0, none, vI x2, vI (32:Int32), none], [], (H0x0 ob0 (List.replicate 128 0) (List.replicate 32 0) (0:Int32) (1:Int32) (2:Int32) (0:Int32) (List.replicate 16 0) (List.replicate 16 0) (List.replicate 16 0) (List.replicate 16 0) (List.replicate 16 0) (List.replicate 64 0)))) rfl ?_
   exact zM [tt,ff,tt,tt,ff] (K5 _ (if_pos hc6).symm)
  ·refine zT Ad W (t := 107) (f := 104) rfl (XT.ii_le_t hc6) ?_
   exact zM [tt,ff,tt,tt,ff] (K5 _ (if_neg hc6).symm)
 rcases em (x1 < (4:Int32)) with hc3 | hc3
 ·refine zF Ad W (t := 98) (f := 96) rfl (XT.ii_ge_f hc3) ?_
  refine zS Ad W 2 (st' := (98, [vR 0, vI x1, vI x2, vI (4:Int32), none], [], (H0x0 ob0 (List.replicate 128 0) (List.replicate 32 0) (0:Int32) (1:Int32) (2:Int32) (0:Int32) (List.replicate 16 0) (List.replicate 16 0) (List.replicate 16 0) (List.replicate 16 0) (List.replicate 16 0) (List.replicate 64 0)))) rfl ?_
  exact zM [tt,ff,tt,tt,ff] (K2 _ (if_pos hc3).symm)
 ·refine zT Ad W (t := 98) (f := 96) rfl (XT.ii_ge_t hc3) ?_
  exact zM [tt,ff,tt,tt,ff] (K2 _ (if_neg hc3).symm)
/-- validRow(I)Z -/
def F3 (o : Ob) (x1 : Int32) : Option (Int32) :=
 (if x1 < (0:Int32) then some (0:Int32) else (if x1 < (f_nRows o) then some (1:Int32) else some (0:Int32)))
theorem tF3 (Ad : QAd n0 ad) (W : QW Z a0) (o : Ob) (x1 : Int32) {r : Int32} (h : F3 o x1 = some r) : QTri l Z n0 ad 3 (0, qentry [.ref 0, .int x1] (pMaxL 3), [], (H0 o)) (some (Value.int r)) (H0 o) := by
 unfold F3 at h
 refine zS Ad W 1 (st' := (1, [vR 0, vI x1], [.int x1], (H0 o))) rfl ?_
 rcases qite h with ⟨hc15, h⟩ | ⟨hc15, h⟩
 ·refine zT Ad W (t := 16) (f := 4) rfl (XT.i0_lt_t hc15) ?_
  refine zS Ad W 1 (st' := (17, [vR 0, vI x1], [.int (0:Int32)], (H0 o))) rfl ?_
  obtain rfl := Option.some.inj h
  exact QTri.retZ rfl rfl
 ·refine zF Ad W (t := 16) (f := 4) rfl (XT.i0_lt_f hc15) ?_
  refine zS Ad W 3 (st' := (9, [vR 0, vI x1], [.int (f_nRows o), .int x1], (H0 o))) rfl ?_
  rcases qite h with ⟨hc16, h⟩ | ⟨hc16, h⟩
  ·refine zF Ad W (t := 16) (f := 12) rfl (XT.ii_ge_f hc16) ?_
   refine zS Ad W 2 (st' := (17, [vR 0, vI x1], [.int (1:Int32)], (H0 o))) rfl ?_
   obtain rfl := Option.some.inj h
   exact QTri.retZ rfl rfl
  ·refine zT Ad W (t := 16) (f := 12) rfl (XT.ii_ge_t hc16) ?_
   refine zS Ad W 1 (st' := (17, [vR 0, vI x1], [.int (0:Int32)], (H0 o))) rfl ?_
   obtain rfl := Option.some.inj h
   exact QTri.retZ rfl rfl
def H0x4 (o0 : Ob) (a0_15 : Int32) : QHeap := H0v (f_data o0) (f_filled o0) (f_rf o0) (f_cf o0) (f_vf o0) (f_ag o0) (f_fMode o0) (f_fRk o0) (f_fCk o0) (f_prevVal o0) (f_prevFound o0) (f_keys o0) (f_nRows o0) (f_nForms o0) (f_last o0) a0_15 (f_gCount o0) (f_selUseR o0) (f_selRk o0) (f_selUseC o0) (f_selCk o0)
def H0x5 (o0 : Ob) (a0_15 : Int32) (a0_16 : Int32) : QHeap := H0v (f_data o0) (f_filled o0) (f_rf o0) (f_cf o0) (f_vf o0) (f_ag o0) (f_fMode o0) (f_fRk o0) (f_fCk o0) (f_prevVal o0) (f_prevFound o0) (f_keys o0) (f_nRows o0) (f_nForms o0) (f_last o0) a0_15 a0_16 (f_selUseR o0) (f_selRk o0) (f_selUseC o0) (f_selCk o0)
def J14_152 (o : Ob) (x1 : Int32) (x2 : Int32) (x3 : Int32) (x4 : Int32) (x5 : Int32) (x6 : Int32) (x7 : Int32) (x8 : Int32) (x9 : Int32) : Option (((Int32 × Int32 × Int32 × Int32)) ⊕ (Int32 × Int32 × Int32 × Int32 × Int32)) :=
  some (.inr (x5, x6, x7, x8, (x9 + (1 : Int32))))
theorem tJ14_152 (Ad : QAd n0 ad) (W : QW Z a0) (o : Ob) (x1 : Int32) (x2 : Int32) (x3 : Int32) (x4 : Int32) (x5 : Int32) (x6 : Int32) (x7 : Int32) (x8 : Int32) (x9 : Int32) {r : ((Int32 × Int32 × Int32 × Int32)) ⊕ (Int32 × Int32 × Int32 × Int32 × Int32)} {u : Option Value} {τ : QHeap} (h : J14_152 o x1 x2 x3 x4 x5 x6 x7 x8 x9 = some r) (hx0 : ∀ x : Int32 × Int32 × Int32 × Int32, r = .inl x → QTri l Z n0 ad 14 (158, [vR 0, none, none, none, none, vI x.1, vI x.2.1, vI x.2.2.1, vI x.2.2.2, none, none, none], [], (H0 o)) u τ) (hc : ∀ x : Int32 × Int32 × Int32 × Int32 × Int32, r = .inr x → QTri l Z n0 ad 14 (15, [vR 0, vI x1, vI x2, vI x3, vI x4, vI x.1, vI x.2.1, vI x.2.2.1, vI x.2.2.2.1, vI x.2.2.2.2, none, none], [], (H0 o)) u τ) : QTri l Z n0 ad 14 (152, [vR 0, vI x1, vI x2, vI x3, vI x4, vI x5, vI x6, vI x7, vI x8, vI x9, none, none], [], (H0 o)) u τ := by
 unfold J14_152 at h
 refine zS Ad W 2 (st' := (15, [vR 0, vI x1, vI x2, vI x3, vI x4, vI x5, vI x6, vI x7, vI x8, vI (x9 + (1:Int32)), none, none], [], (H0 o))) rfl ?_
 obtain rfl := Option.some.inj h
 exact zM [tt,tt,tt,tt,tt,tt,tt,tt,tt,tt,ff,ff] (hc (x5, x6, x7, x8, (x9 + (1:Int32))) rfl)
def J14_90 (o : Ob) (x1 : Int32) (x2 : Int32) (x3 : Int32) (x4 : Int32) (x5 : Int32) (x6 : Int32) (x7 : Int32) (x8 : Int32) (x9 : Int32) (x10 : Int32) : Option (((Int32 × Int32 × Int32 × Int32)) ⊕ (Int32 × Int32 × Int32 × Int32 × Int32)) :=
  (aget (f_data o) (x10 + (f_vf o))).bind fun y40 => (J14_152 o x1 x2 x3 x4 (x5 + y40) (x6 + (1 : Int32)) (if x6 = (0 : Int32) then y40 else (if y40 < x7 then y40 else x7)) (if x6 = (0 : Int32) then y40 else (if x8 < y40 then y40 else x8)) x9)
theorem tJ14_90 (Ad : QAd n0 ad) (W : QW Z a0) (o : Ob) (x1 : Int32) (x2 : Int32) (x3 : Int32) (x4 : Int32) (x5 : Int32) (x6 : Int32) (x7 : Int32) (x8 : Int32) (x9 : Int32) (x10 : Int32) {r : ((Int32 × Int32 × Int32 × Int32)) ⊕ (Int32 × Int32 × Int32 × Int32 × Int32)} {u : Option Value} {τ : QHeap} (h : J14_90 o x1 x2 x3 x4 x5 x6 x7 x8 x9 x10 = some r) (hx0 : ∀ x : Int32 × Int32 × Int32 × Int32, r = .inl x → QTri l Z n0 ad 14 (158, [vR 0, none, none, none, none, vI x.1, vI x.2.1, vI x.2.2.1, vI x.2.2.2, none, none, none], [], (H0 o)) u τ) (hc : ∀ x : Int32 × Int32 × Int32 × Int32 × Int32, r = .inr x → QTri l Z n0 ad 14 (15, [vR 0, vI x1, vI x2, vI x3, vI x4, vI x.1, vI x.2.1, vI x.2.2.1, vI x.2.2.2.1, vI x.2.2.2.2, none, none], [], (H0 o)) u τ) : QTri l Z n0 ad 14 (90, [vR 0, vI x1, vI x2, vI x3, vI x4, vI x5, vI x6, vI x7, vI x8, vI x9, vI x10, none], [], (H0 o)) u τ := by
 unfold J14_90 at h
 refine zS Ad W 6 (st' := (101, [vR 0, vI x1, vI x2, vI x3, vI x4, vI x5, vI x6, vI x7, vI x8, vI x9, vI x10, none], [.int (x10 + (f_vf o)), .ref 1], (H0 o))) rfl ?_
 obtain ⟨y40, hy40, h⟩ := bind_eq_some_iff.mp h
 refine zB Ad W (f := fun y40 => (102, [vR 0, vI x1, vI x2, vI x3, vI x4, vI x5, vI x6, vI x7, vI x8, vI x9, vI x10, none], [.int y40], (H0 o))) rfl hy40 ?_
 refine zS Ad W 2 (st' := (106, [vR 0, vI x1, vI x2, vI x3, vI x4, vI x5, vI x6, vI x7, vI x8, vI x9, vI x10, vI y40], [.int x6], (H0 o))) rfl ?_
 have K43 : ∀ z41 : Int32, z41 = (if x6 = (0:Int32) then y40 else (if y40 < x7 then y40 else x7)) → ∀ z42 : Int32, z42 = (if x6 = (0:Int32) then y40 else (if x8 < y40 then y40 else x8)) → QTri l Z n0 ad 14 (142, [vR 0, vI x1, vI x2, vI x3, vI x4, vI x5, vI x6, vI z41, vI z42, vI x9, none, vI y40], [], (H0 o)) u τ := by
  intro z41 ez41
  intro z42 ez42
  subst ez41
  subst ez42
  refine zS Ad W 5 (st' := (152, [vR 0, vI x1, vI x2, vI x3, vI x4, vI (x5 + y40), vI (x6 + (1:Int32)), vI (if x6 = (0:Int32) then y40 else (if y40 < x7 then y40 else x7)), vI (if x6 = (0:Int32) then y40 else (if x8 < y40 then y40 else x8)), vI x9, none, vI y40], [], (H0 o))) rfl ?_
  exact zM [tt,tt,tt,tt,tt,tt,tt,tt,tt,tt,ff,ff] (tJ14_152 Ad W o x1 x2 x3 x4 (x5 + y40) (x6 + (1:Int32)) (if x6 = (0:Int32) then y40 else (if y40 < x7 then y40 else x7)) (if x6 = (0:Int32) then y40 else (if x8 < y40 then y40 else x8)) x9 h hx0 hc)
 rcases em (x6 = (0:Int32)) with hc44 | hc44
 ·refine zF Ad W (t := 120) (f := 109) rfl (XT.i0_ne_f hc44) ?_
  refine zS Ad W 4 (st' := (117, [vR 0, vI x1, vI x2, vI x3, vI x4, vI x5, vI x6, vI y40, vI y40, vI x9, vI x10, vI y40], [], (H0 o))) rfl ?_
  refine zS Ad W 1 (st' := (142, [vR 0, vI x1, vI x2, vI x3, vI x4, vI x5, vI x6, vI y40, vI y40, vI x9, vI x10, vI y40], [], (H0 o))) rfl ?_
  exact zM [tt,tt,tt,tt,tt,tt,tt,tt,tt,tt,ff,tt] (K43 _ (if_pos hc44).symm _ (if_pos hc44).symm)
 ·refine zT Ad W (t := 120) (f := 109) rfl (XT.i0_ne_t hc44) ?_
  refine zS Ad W 2 (st' := (124, [vR 0, vI x1, vI x2, vI x3, vI x4, vI x5, vI x6, vI x7, vI x8, vI x9, vI x10, vI y40], [.int x7, .int y40], (H0 o))) rfl ?_
  rcases em (y40 < x7) with hc45 | hc45
  ·refine zF Ad W (t := 131) (f := 127) rfl (XT.ii_ge_f hc45) ?_
   refine zS Ad W 4 (st' := (135, [vR 0, vI x1, vI x2, vI x3, vI x4, vI x5, vI x6, vI y40, vI x8, vI x9, vI x10, vI y40], [.int x8, .int y40], (H0 o))) rfl ?_
   rcases em (x8 < y40) with hc46 | hc46
   ·refine zF Ad W (t := 142) (f := 138) rfl (XT.ii_le_f hc46) ?_
    refine zS Ad W 2 (st' := (142, [vR 0, vI x1, vI x2, vI x3, vI x4, vI x5, vI x6, vI y40, vI y40, vI x9, vI x10, vI y40], [], (H0 o))) rfl ?_
    exact zM [tt,tt,tt,tt,tt,tt,tt,tt,tt,tt,ff,tt] (K43 _ ((if_neg hc44).trans (if_pos hc45)).symm _ ((if_neg hc44).trans (if_pos hc46)).symm)
   ·refine zT Ad W (t := 142) (f := 138) rfl (XT.ii_le_t hc46) ?_
    exact zM [tt,tt,tt,tt,tt,tt,tt,tt,tt,tt,ff,tt] (K43 _ ((if_neg hc44).trans (if_pos hc45)).symm _ ((if_neg hc44).trans (if_neg hc46)).symm)
  ·refine zT Ad W (t := 131) (f := 127) rfl (XT.ii_ge_t hc45) ?_
   refine zS Ad W 2 (st' := (135, [vR 0, vI x1, vI x2, vI x3, vI x4, vI x5, vI x6, vI x7, vI x8, vI x9, vI x10, vI y40], [.int x8, .int y40], (H0 o))) rfl ?_
   rcases em (x8 < y40) with hc47 | hc47
   ·refine zF Ad W (t := 142) (f := 138) rfl (XT.ii_le_f hc47) ?_
    refine zS Ad W 2 (st' := (142, [vR 0, vI x1, vI x2, vI x3, vI x4, vI x5, vI x6, vI x7, vI y40, vI x9, vI x10, vI y40], [], (H0 o))) rfl ?_
    exact zM [tt,tt,tt,tt,tt,tt,tt,tt,tt,tt,ff,tt] (K43 _ ((if_neg hc44).trans (if_neg hc45)).symm _ ((if_neg hc44).trans (if_pos hc47)).symm)
   ·refine zT Ad W (t := 142) (f := 138) rfl (XT.ii_le_t hc47) ?_
    exact zM [tt,tt,tt,tt,tt,tt,tt,tt,tt,tt,ff,tt] (K43 _ ((if_neg hc44).trans (if_neg hc45)).symm _ ((if_neg hc44).trans (if_neg hc47)).symm)
def J14_66 (o : Ob) (x1 : Int32) (x2 : Int32) (x3 : Int32) (x4 : Int32) (x5 : Int32) (x6 : Int32) (x7 : Int32) (x8 : Int32) (x9 : Int32) (x10 : Int32) : Option (((Int32 × Int32 × Int32 × Int32)) ⊕ (Int32 × Int32 × Int32 × Int32 × Int32)) :=
  (if x3 = (0 : Int32) then (J14_90 o x1 x2 x3 x4 x5 x6 x7 x8 x9 x10) else (aget (f_data o) (x10 + (f_cf o))).bind fun y48 => (if y48 = x4 then (J14_90 o x1 x2 x3 x4 x5 x6 x7 x8 x9 x10) else (J14_152 o x1 x2 x3 x4 x5 x6 x7 x8 x9)))
theorem tJ14_66 (Ad : QAd n0 ad) (W : QW Z a0) (o : Ob) (x1 : Int32) (x2 : Int32) (x3 : Int32) (x4 : Int32) (x5 : Int32) (x6 : Int32) (x7 : Int32) (x8 : Int32) (x9 : Int32) (x10 : Int32) {r : ((Int32 × Int32 × Int32 × Int32)) ⊕ (Int32 × Int32 × Int32 × Int32 × Int32)} {u : Option Value} {τ : QHeap} (h : J14_66 o x1 x2 x3 x4 x5 x6 x7 x8 x9 x10 = some r) (hx0 : ∀ x : Int32 × Int32 × Int32 × Int32, r = .inl x → QTri l Z n0 ad 14 (158, [vR 0, none, none, none, none, vI x.1, vI x.2.1, vI x.2.2.1, vI x.2.2.2, none, none, none], [], (H0 o)) u τ) (hc : ∀ x : Int32 × Int32 × Int32 × Int32 × Int32, r = .inr x → QTri l Z n0 ad 14 (15, [vR 0, vI x1, vI x2, vI x3, vI x4, vI x.1, vI x.2.1, vI x.2.2.1, vI x.2.2.2.1, vI x.2.2.2.2, none, none], [], (H0 o)) u τ) : QTri l Z n0 ad 14 (66, [vR 0, vI x1, vI x2, vI x3, vI x4, vI x5, vI x6, vI x7, vI x8, vI x9, vI x10, none], [], (H0 o)) u τ := by
 unfold J14_66 at h
 refine zS Ad W 1 (st' := (67, [vR 0, vI x1, vI x2, vI x3, vI x4, vI x5, vI x6, vI x7, vI x8, vI x9, vI x10, none], [.int x3], (H0 o))) rfl ?_
 rcases qite h with ⟨hc39, h⟩ | ⟨hc39, h⟩
 ·refine zT Ad W (t := 90) (f := 70) rfl (XT.i0_eq_t hc39) ?_
  exact zM [tt,tt,tt,tt,tt,tt,tt,tt,tt,tt,tt,ff] (tJ14_90 Ad W o x1 x2 x3 x4 x5 x6 x7 x8 x9 x10 h hx0 hc)
 ·refine zF Ad W (t := 90) (f := 70) rfl (XT.i0_eq_f hc39) ?_
  refine zS Ad W 6 (st' := (81, [vR 0, vI x1, vI x2, vI x3, vI x4, vI x5, vI x6, vI x7, vI x8, vI x9, vI x10, none], [.int (x10 + (f_cf o)), .ref 1], (H0 o))) rfl ?_
  obtain ⟨y48, hy48, h⟩ := bind_eq_some_iff.mp h
  refine zB Ad W (f := fun y48 => (82, [vR 0, vI x1, vI x2, vI x3, vI x4, vI x5, vI x6, vI x7, vI x8, vI x9, vI x10, none], [.int y48], (H0 o))) rfl hy48 ?_
  refine zS Ad W 1 (st' := (84, [vR 0, vI x1, vI x2, vI x3, vI x4, vI x5, vI x6, vI x7, vI x8, vI x9, vI x10, none], [.int x4, .int y48], (H0 o))) rfl ?_
  rcases qite h with ⟨hc49, h⟩ | ⟨hc49, h⟩
  ·refine zT Ad W (t := 90) (f := 87) rfl (XT.ii_eq_t hc49) ?_
   exact zM [tt,tt,tt,tt,tt,tt,tt,tt,tt,tt,tt,ff] (tJ14_90 Ad W o x1 x2 x3 x4 x5 x6 x7 x8 x9 x10 h hx0 hc)
  ·refine zF Ad W (t := 90) (f := 87) rfl (XT.ii_eq_f hc49) ?_
   refine zS Ad W 1 (st' := (152, [vR 0, vI x1, vI x2, vI x3, vI x4, vI x5, vI x6, vI x7, vI x8, vI x9, vI x10, none], [], (H0 o))) rfl ?_
   exact zM [tt,tt,tt,tt,tt,tt,tt,tt,tt,tt,ff,ff] (tJ14_152 Ad W o x1 x2 x3 x4 x5 x6 x7 x8 x9 h hx0 hc)
def B14_15 (o : Ob) (x1 : Int32) (x2 : Int32) (x3 : Int32) (x4 : Int32) (v : Int32 × Int32 × Int32 × Int32 × Int32) : Option (((Int32 × Int32 × Int32 × Int32)) ⊕ (Int32 × Int32 × Int32 × Int32 × Int32)) :=
  (if v.2.2.2.2 < (f_nRows o) then (aget (f_filled o) v.2.2.2.2).bind fun y36 => (if y36 = (0 : Int32) then (J14_152 o x1 x2 x3 x4 v.1 v.2.1 v.2.2.1 v.2.2.2.1 v.2.2.2.2) else (if x1 = (0 : Int32) then (J14_66 o x1 x2 x3 x4 v.1 v.2.1 v.2.2.1 v.2.2.2.1 v.2.2.2.2 (v.2.2.2.2 * (4 : Int32))) else (aget (f_data o) ((v.2.2.2.2 * (4 : Int32)) + (f_rf o))).bind fun y50 => (if y50 = x2 then (J14_66 o x1 x2 x3 x4 v.1 v.2.1 v.2.2.1 v.2.2.2.1 v.2.2.2.2 (v.2.2.2.2 * (4 : Int32))) else (J14_152 o x1 x2 x3 x4 v.1 v.2.1 v.2.2.1 v.2.2.2.1 v.2.2.2.2)))) else some (.inl (v.1, v.2.1, v.2.2.1, v.2.2.2.1)))
theorem tB14_15 (Ad : QAd n0 ad) (W : QW Z a0) (o : Ob) (x1 : Int32) (x2 : Int32) (x3 : Int32) (x4 : Int32) (v : Int32 × Int32 × Int32 × Int32 × Int32) {r : ((Int32 × Int32 × Int32 × Int32)) ⊕ (Int32 × Int32 × Int32 × Int32 × Int32)} {u : Option Value} {τ : QHeap} (h : B14_15 o x1 x2 x3 x4 v = some r) (hx0 : ∀ x : Int32 × Int32 × Int32 × Int32, r = .inl x → QTri l Z n0 ad 14 (158, [vR 0, none, none, none, none, vI x.1, vI x.2.1, vI x.2.2.1, vI x.2.2.2, none, none, none], [], (H0 o)) u τ) (hc : ∀ x : Int32 × Int32 × Int32 × Int32 × Int32, r = .inr x → QTri l Z n0 ad 14 (15, [vR 0, vI x1, vI x2, vI x3, vI x4, vI x.1, vI x.2.1, vI x.2.2.1, vI x.2.2.2.1, vI x.2.2.2.2, none, none], [], (H0 o)) u τ) : QTri l Z n0 ad 14 (15, [vR 0, vI x1, vI x2, vI x3, vI x4, vI v.1, vI v.2.1, vI v.2.2.1, vI v.2.2.2.1, vI v.2.2.2.2, none, none], [], (H0 o)) u τ := by
 unfold B14_15 at h
 refine zS Ad W 3 (st' := (21, [vR 0, vI x1, vI x2, vI x3, vI x4, vI v.1, vI v.2.1, vI v.2.2.1, vI v.2.2.2.1, vI v.2.2.2.2, none, none], [.int (f_nRows o), .int v.2.2.2.2], (H0 o))) rfl ?_
 rcases qite h with ⟨hc35, h⟩ | ⟨hc35, h⟩
 ·refine zF Ad W (t := 158) (f := 24) rfl (XT.ii_ge_f hc35) ?_
  refine zS Ad W 3 (st' := (30, [vR 0, vI x1, vI x2, vI x3, vI x4, vI v.1, vI v.2.1, vI v.2.2.1, vI v.2.2.2.1, vI v.2.2.2.2, none, none], [.int v.2.2.2.2, .ref 2], (H0 o))) rfl ?_
  obtain ⟨y36, hy36, h⟩ := bind_eq_some_iff.mp h
  refine zB Ad W (f := fun y36 => (31, [vR 0, vI x1, vI x2, vI x3, vI x4, vI v.1, vI v.2.1, vI v.2.2.1, vI v.2.2.2.1, vI v.2.2.2.2, none, none], [.int y36], (H0 o))) rfl hy36 ?_
  rcases qite h with ⟨hc37, h⟩ | ⟨hc37, h⟩
  ·refine zF Ad W (t := 37) (f := 34) rfl (XT.i0_ne_f hc37) ?_
   refine zS Ad W 1 (st' := (152, [vR 0, vI x1, vI x2, vI x3, vI x4, vI v.1, vI v.2.1, vI v.2.2.1, vI v.2.2.2.1, vI v.2.2.2.2, none, none], [], (H0 o))) rfl ?_
   exact zM [tt,tt,tt,tt,tt,tt,tt,tt,tt,tt,ff,ff] (tJ14_152 Ad W o x1 x2 x3 x4 v.1 v.2.1 v.2.2.1 v.2.2.2.1 v.2.2.2.2 h hx0 hc)
  ·refine zT Ad W (t := 37) (f := 34) rfl (XT.i0_ne_t hc37) ?_
   refine zS Ad W 5 (st' := (44, [vR 0, vI x1, vI x2, vI x3, vI x4, vI v.1, vI v.2.1, vI v.2.2.1, vI v.2.2.2.1, vI v.2.2.2.2, vI (v.2.2.2.2 * (4:Int32)), none], [.int x1], (H0 o))) rfl ?_
   rcases qite h with ⟨hc38, h⟩ | ⟨hc38, h⟩
   ·refine zT Ad W (t := 66) (f := 47) rfl (XT.i0_eq_t hc38) ?_
    exact zM [tt,tt,tt,tt,tt,tt,tt,tt,tt,tt,tt,ff] (tJ14_66 Ad W o x1 x2 x3 x4 v.1 v.2.1 v.2.2.1 v.2.2.2.1 v.2.2.2.2 (v.2.2.2.2 * (4:Int32)) h hx0 hc)
   ·refine zF Ad W (t := 66) (f := 47) rfl (XT.i0_eq_f hc38) ?_
    refine zS Ad W 6 (st' := (58, [vR 0, vI x1, vI x2, vI x3, vI x4, vI v.1, vI v.2.1, vI v.2.2.1, vI v.2.2.2.1, vI v.2.2.2.2, vI (v.2.2.2.2 * (4:Int32)), none], [.int ((v.2.2.2.2 * (4:Int32)) + (f_rf o)), .ref 1], (H0 o))) rfl ?_
    obtain ⟨y50, hy50, h⟩ := bind_eq_some_iff.mp h
    refine zB Ad W (f := fun y50 => (59, [vR 0, vI x1, vI x2, vI x3, vI x4, vI v.1, vI v.2.1, vI v.2.2.1, vI v.2.2.2.1, vI v.2.2.2.2, vI (v.2.2.2.2 * (4:Int32)), none], [.int y50], (H0 o))) rfl hy50 ?_
    refine zS Ad W 1 (st' := (60, [vR 0, vI x1, vI x2, vI x3, vI x4, vI v.1, vI v.2.1, vI v.2.2.1, vI v.2.2.2.1, vI v.2.2.2.2, vI (v.2.2.2.2 * (4:Int32)), none], [.int x2, .int y50], (H0 o))) rfl ?_
    rcases qite h with ⟨hc51, h⟩ | ⟨hc51, h⟩
    ·refine zT Ad W (t := 66) (f := 63) rfl (XT.ii_eq_t hc51) ?_
     exact zM [tt,tt,tt,tt,tt,tt,tt,tt,tt,tt,tt,ff] (tJ14_66 Ad W o x1 x2 x3 x4 v.1 v.2.1 v.2.2.1 v.2.2.2.1 v.2.2.2.2 (v.2.2.2.2 * (4:Int32)) h hx0 hc)
    ·refine zF Ad W (t := 66) (f := 63) rfl (XT.ii_eq_f hc51) ?_
     refine zS Ad W 1 (st' := (152, [vR 0, vI x1, vI x2, vI x3, vI x4, vI v.1, vI v.2.1, vI v.2.2.1, vI v.2.2.2.1, vI v.2.2.2.2, vI (v.2.2.2.2 * (4:Int32)), none], [], (H0 o))) rfl ?_
     exact zM [tt,tt,tt,tt,tt,tt,tt,tt,tt,tt,ff,ff] (tJ14_152 Ad W o x1 x2 x3 x4 v.1 v.2.1 v.2.2.1 v.2.2.2.1 v.2.2.2.2 h hx0 hc)
 ·refine zT Ad W (t := 158) (f := 24) rfl (XT.ii_ge_t hc35) ?_
  obtain rfl := Option.some.inj h
  exact zM [tt,ff,ff,ff,ff,tt,tt,tt,tt,ff,ff,ff] (hx0 (v.1, v.2.1, v.2.2.1, v.2.2.2.1) rfl)
def H0x6 (o0 : Ob) (a0_16 : Int32) : QHeap := H0v (f_data o0) (f_filled o0) (f_rf o0) (f_cf o0) (f_vf o0) (f_ag o0) (f_fMode o0) (f_fRk o0) (f_fCk o0) (f_prevVal o0) (f_prevFound o0) (f_keys o0) (f_nRows o0) (f_nForms o0) (f_last o0) (f_gVal o0) a0_16 (f_selUseR o0) (f_selRk o0) (f_selUseC o0) (f_selCk o0)
/-- pickAgg(IIII)I -/
def F15 (o : Ob) (x1 : Int32) (x2 : Int32) (x3 : Int32) (x4 : Int32) : Option (Int32) :=
 (if x1 = (0:Int32) then some (0:Int32) else (if (f_ag o) = (1:Int32) then some x1 else (if (f_ag o) = (2:Int32) then some x3 else (if (f_ag o) = (3:Int32) then some x4 else some x2))))
theorem tF15 (Ad : QAd n0 ad) (W : QW Z a0) (o : Ob) (x1 : Int32) (x2 : Int32) (x3 : Int32) (x4 : Int32) {r : Int32} (h : F15 o x1 x2 x3 x4 = some r) : QTri l Z n0 ad 15 (0, qentry [.ref 0, .int x1, .int x2, .int x3, .int x4] (pMaxL 15), [], (H0 o)) (some (Value.int r)) (H0 o) := by
 unfold F15 at h
 refine zS Ad W 1 (st' := (1, [vR 0, vI x1, vI x2, vI x3, vI x4], [.int x1], (H0 o))) rfl ?_
 rcases qite h with ⟨hc55, h⟩ | ⟨hc55, h⟩
 ·refine zF Ad W (t := 6) (f := 4) rfl (XT.i0_ne_f hc55) ?_
  refine zS Ad W 1 (st' := (5, [vR 0, vI x1, vI x2, vI x3, vI x4], [.int (0:Int32)], (H0 o))) rfl ?_
  obtain rfl := Option.some.inj h
  exact QTri.retI rfl rfl
 ·refine zT Ad W (t := 6) (f := 4) rfl (XT.i0_ne_t hc55) ?_
  refine zS Ad W 3 (st' := (11, [vR 0, vI x1, vI x2, vI x3, vI x4], [.int (1:Int32), .int (f_ag o)], (H0 o))) rfl ?_
  rcases qite h with ⟨hc56, h⟩ | ⟨hc56, h⟩
  ·refine zF Ad W (t := 16) (f := 14) rfl (XT.ii_ne_f hc56) ?_
   refine zS Ad W 1 (st' := (15, [vR 0, vI x1, vI x2, vI x3, vI x4], [.int x1], (H0 o))) rfl ?_
   obtain rfl := Option.some.inj h
   exact QTri.retI rfl rfl
  ·refine zT Ad W (t := 16) (f := 14) rfl (XT.ii_ne_t hc56) ?_
   refine zS Ad W 3 (st' := (21, [vR 0, vI x1, vI x2, vI x3, vI x4], [.int (2:Int32), .int (f_ag o)], (H0 o))) rfl ?_
   rcases qite h with ⟨hc57, h⟩ | ⟨hc57, h⟩
   ·refine zF Ad W (t := 26) (f := 24) rfl (XT.ii_ne_f hc57) ?_
    refine zS Ad W 1 (st' := (25, [vR 0, vI x1, vI x2, vI x3, vI x4], [.int x3], (H0 o))) rfl ?_
    obtain rfl := Option.some.inj h
    exact QTri.retI rfl rfl
   ·refine zT Ad W (t := 26) (f := 24) rfl (XT.ii_ne_t hc57) ?_
    refine zS Ad W 3 (st' := (31, [vR 0, vI x1, vI x2, vI x3, vI x4], [.int (3:Int32), .int (f_ag o)], (H0 o))) rfl ?_
    rcases qite h with ⟨hc58, h⟩ | ⟨hc58, h⟩
    ·refine zF Ad W (t := 37) (f := 34) rfl (XT.ii_ne_f hc58) ?_
     refine zS Ad W 1 (st' := (36, [vR 0, vI x1, vI x2, vI x3, vI x4], [.int x4], (H0 o))) rfl ?_
     obtain rfl := Option.some.inj h
     exact QTri.retI rfl rfl
    ·refine zT Ad W (t := 37) (f := 34) rfl (XT.ii_ne_t hc58) ?_
     refine zS Ad W 1 (st' := (38, [vR 0, vI x1, vI x2, vI x3, vI x4], [.int x2], (H0 o))) rfl ?_
     obtain rfl := Option.some.inj h
     exact QTri.retI rfl rfl
/-- evalGroup(ZIZI)V -/
def F14 (o : Ob) (x1 : Int32) (x2 : Int32) (x3 : Int32) (x4 : Int32) : Option (Ob) :=
 (loopN (B14_15 o x1 x2 x3 x4) qN ((0:Int32), (0:Int32), (0:Int32), (0:Int32), (0:Int32))).bind fun e52 => (F15 (s_gCount o e52.2.1) e52.2.1 e52.1 e52.2.2.1 e52.2.2.2).bind fun r59 => some (s_gVal (s_gCount o e52.2.1) r59)
theorem tF14 (Ad : QAd n0 ad) (W : QW Z a0) (o : Ob) (x1 : Int32) (x2 : Int32) (x3 : Int32) (x4 : Int32) {r : Ob} (h : F14 o x1 x2 x3 x4 = some r) : QTri l Z n0 ad 14 (0, qentry [.ref 0, .int x1, .int x2, .int x3, .int x4] (pMaxL 14), [], (H0 o)) (none : Option Value) (H0 r) := by
 unfold F14 at h
 refine zS Ad W 4 (st' := (6, [vR 0, vI x1, vI x2, vI x3, vI x4, vI (0:Int32), vI (0:Int32), none, none, none, none, none], [], (H0 o))) rfl ?_
 refine zS Ad W 4 (st' := (12, [vR 0, vI x1, vI x2, vI x3, vI x4, vI (0:Int32), vI (0:Int32), vI (0:Int32), vI (0:Int32), none, none, none], [], (H0 o))) rfl ?_
 refine zS Ad W 2 (st' := (15, [vR 0, vI x1, vI x2, vI x3, vI x4, vI (0:Int32), vI (0:Int32), vI (0:Int32), vI (0:Int32), vI (0:Int32), none, none], [], (H0 o))) rfl ?_
 obtain ⟨e52, he52, h⟩ := bind_eq_some_iff.mp h
 refine zM [tt,tt,tt,tt,tt,tt,tt,tt,tt,tt,ff,ff] (loopN_tri (B := B14_15 o x1 x2 x3 x4) (T := fun lv53 => QTri l Z n0 ad 14 (15, [vR 0, vI x1, vI x2, vI x3, vI x4, vI lv53.1, vI lv53.2.1, vI lv53.2.2.1, vI lv53.2.2.2.1, vI lv53.2.2.2.2, none, none], [], (H0 o)) (none : Option Value) (H0 r)) (KE := fun e52a => QTri l Z n0 ad 14 (158, [vR 0, none, none, none, none, vI e52a.1, vI e52a.2.1, vI e52a.2.2.1, vI e52a.2.2.2, none, none, none], [], (H0 o)) (none : Option Value) (H0 r)) (fun lv53 r hB hE hC => tB14_15 Ad W o x1 x2 x3 x4 lv53 hB (fun x q => hE _ q) (fun x q => hC x q)) qN ((0:Int32), (0:Int32), (0:Int32), (0:Int32), (0:Int32)) e52 he52 ?_)
 refine zS Ad W 3 (st' := (164, [vR 0, none, none, none, none, vI e52.1, vI e52.2.1, vI e52.2.2.1, vI e52.2.2.2, none, none, none], [], (H0x6 o e52.2.1))) rfl ?_
 refine zS Ad W 6 (st' := (174, [vR 0, none, none, none, none, vI e52.1, vI e52.2.1, vI e52.2.2.1, vI e52.2.2.2, none, none, none], [.int e52.2.2.2, .int e52.2.2.1, .int e52.1, .int e52.2.1, .ref 0, .ref 0], (H0x6 o e52.2.1))) rfl ?_
 have E54 : ((H0x6 o e52.2.1) : QHeap) = (H0 (s_gCount o e52.2.1)) := by simp only [fs, H0, H0v, H0x6, s_gCount]
 rw [E54]
 obtain ⟨r59, hr59, h⟩ := bind_eq_some_iff.mp h
 refine QTri.callP W (a := 0) (as := [.int e52.2.1, .int e52.1, .int e52.2.2.1, .int e52.2.2.2]) (rest := [.ref 0]) (w := (some (.int r59))) (σ₁ := (H0 (s_gCount o e52.2.1))) rfl rfl rfl rfl rfl rfl rfl rfl (tF15 Ad W (s_gCount o e52.2.1) e52.2.1 e52.1 e52.2.2.1 e52.2.2.2 hr59) ?_
 refine zS Ad W 1 (st' := (180, [vR 0, none, none, none, none, vI e52.1, vI e52.2.1, vI e52.2.2.1, vI e52.2.2.2, none, none, none], [], (H0x4 (s_gCount o e52.2.1) r59))) rfl ?_
 have E60 : ((H0x4 (s_gCount o e52.2.1) r59) : QHeap) = (H0 (s_gVal (s_gCount o e52.2.1) r59)) := (show ∀ b0 : Ob, ((H0x4 b0 r59) : QHeap) = (H0 (s_gVal b0 r59)) from fun b0 => by simp only [fs, H0, H0v, H0x4, s_gVal]) (s_gCount o e52.2.1)
 rw [E60]
 obtain rfl := Option.some.inj h
 exact QTri.ret0 rfl rfl
/-- evalFormula(I)V -/
def F5 (o : Ob) (x1 : Int32) : Option (Ob) :=
 (aget (f_fMode o) x1).bind fun y22 => (if y22 = (0:Int32) then some (s_gCount (s_gVal o (0:Int32)) (0:Int32)) else (aget (f_fRk o) x1).bind fun y33 => (aget (f_fCk o) x1).bind fun y34 => (F14 o (if y22 = (1:Int32) then (1:Int32) else (if y22 = (2:Int32) then (1:Int32) else (0:Int32))) y33 (if y22 = (1:Int32) then (1:Int32) else (if y22 = (3:Int32) then (1:Int32) else (0:Int32))) y34).bind fun r61 => some r61)
theorem tF5 (Ad : QAd n0 ad) (W : QW Z a0) (o : Ob) (x1 : Int32) {r : Ob} (h : F5 o x1 = some r) : QTri l Z n0 ad 5 (0, qentry [.ref 0, .int x1] (pMaxL 5), [], (H0 o)) (none : Option Value) (H0 r) := by
 unfold F5 at h
 refine zS Ad W 3 (st' := (5, [vR 0, vI x1, none, none, none], [.int x1, .ref 3], (H0 o))) rfl ?_
 obtain ⟨y22, hy22, h⟩ := bind_eq_some_iff.mp h
 refine zB Ad W (f := fun y22 => (6, [vR 0, vI x1, none, none, none], [.int y22], (H0 o))) rfl hy22 ?_
 refine zS Ad W 2 (st' := (8, [vR 0, vI x1, vI y22, none, none], [.int y22], (H0 o))) rfl ?_
 rcases qite h with ⟨hc23, h⟩ | ⟨hc23, h⟩
 ·refine zF Ad W (t := 22) (f := 11) rfl (XT.i0_ne_f hc23) ?_
  refine zS Ad W 3 (st' := (16, [vR 0, vI x1, vI y22, none, none], [], (H0x4 o (0:Int32)))) rfl ?_
  refine zS Ad W 3 (st' := (21, [vR 0, vI x1, vI y22, none, none], [], (H0x5 o (0:Int32) (0:Int32)))) rfl ?_
  have E24 : ((H0x5 o (0:Int32) (0:Int32)) : QHeap) = (H0 (s_gCount (s_gVal o (0:Int32)) (0:Int32))) := by simp only [fs, H0, H0v, H0x5, s_gVal, s_gCount]
  rw [E24]
  obtain rfl := Option.some.inj h
  exact QTri.ret0 rfl rfl
 ·refine zT Ad W (t := 22) (f := 11) rfl (XT.i0_ne_t hc23) ?_
  refine zS Ad W 2 (st' := (24, [vR 0, vI x1, vI y22, none, none], [.int (1:Int32), .int y22], (H0 o))) rfl ?_
  have K26 : ∀ z25 : Int32, z25 = (if y22 = (1:Int32) then (1:Int32) else (if y22 = (2:Int32) then (1:Int32) else (0:Int32))) → QTri l Z n0 ad 5 (37, [vR 0, vI x1, vI y22, none, none], [.int z25], (H0 o)) (none : Option Value) (H0 r) := by
   intro z25 ez25
   subst ez25
   refine zS Ad W 3 (st' := (40, [vR 0, vI x1, vI y22, vI (if y22 = (1:Int32) then (1:Int32) else (if y22 = (2:Int32) then (1:Int32) else (0:Int32))), none], [.int (1:Int32), .int y22], (H0 o))) rfl ?_
   have K30 : ∀ z29 : Int32, z29 = (if y22 = (1:Int32) then (1:Int32) else (if y22 = (3:Int32) then (1:Int32) else (0:Int32))) → QTri l Z n0 ad 5 (53, [vR 0, vI x1, none, vI (if y22 = (1:Int32) then (1:Int32) else (if y22 = (2:Int32) then (1:Int32) else (0:Int32))), none], [.int z29], (H0 o)) (none : Option Value) (H0 r) := by
    intro z29 ez29
    subst ez29
    refine zS Ad W 6 (st' := (62, [vR 0, vI x1, none, vI (if y22 = (1:Int32) then (1:Int32) else (if y22 = (2:Int32) then (1:Int32) else (0:Int32))), vI (if y22 = (1:Int32) then (1:Int32) else (if y22 = (3:Int32) then (1:Int32) else (0:Int32)))], [.int x1, .ref 4, .int (if y22 = (1:Int32) then (1:Int32) else (if y22 = (2:Int32) then (1:Int32) else (0:Int32))), .ref 0], (H0 o))) rfl ?_
    obtain ⟨y33, hy33, h⟩ := bind_eq_some_iff.mp h
    refine zB Ad W (f := fun y33 => (63, [vR 0, vI x1, none, vI (if y22 = (1:Int32) then (1:Int32) else (if y22 = (2:Int32) then (1:Int32) else (0:Int32))), vI (if y22 = (1:Int32) then (1:Int32) else (if y22 = (3:Int32) then (1:Int32) else (0:Int32)))], [.int y33, .int (if y22 = (1:Int32) then (1:Int32) else (if y22 = (2:Int32) then (1:Int32) else (0:Int32))), .ref 0], (H0 o))) rfl hy33 ?_
    refine zS Ad W 4 (st' := (70, [vR 0, vI x1, none, vI (if y22 = (1:Int32) then (1:Int32) else (if y22 = (2:Int32) then (1:Int32) else (0:Int32))), vI (if y22 = (1:Int32) then (1:Int32) else (if y22 = (3:Int32) then (1:Int32) else (0:Int32)))], [.int x1, .ref 5, .int (if y22 = (1:Int32) then (1:Int32) else (if y22 = (3:Int32) then (1:Int32) else (0:Int32))), .int y33, .int (if y22 = (1:Int32) then (1:Int32) else (if y22 = (2:Int32) then (1:Int32) else (0:Int32))), .ref 0], (H0 o))) rfl ?_
    obtain ⟨y34, hy34, h⟩ := bind_eq_some_iff.mp h
    refine zB Ad W (f := fun y34 => (71, [vR 0, vI x1, none, vI (if y22 = (1:Int32) then (1:Int32) else (if y22 = (2:Int32) then (1:Int32) else (0:Int32))), vI (if y22 = (1:Int32) then (1:Int32) else (if y22 = (3:Int32) then (1:Int32) else (0:Int32)))], [.int y34, .int (if y22 = (1:Int32) then (1:Int32) else (if y22 = (3:Int32) then (1:Int32) else (0:Int32))), .int y33, .int (if y22 = (1:Int32) then (1:Int32) else (if y22 = (2:Int32) then (1:Int32) else (0:Int32))), .ref 0], (H0 o))) rfl hy34 ?_
    obtain ⟨r61, hr61, h⟩ := bind_eq_some_iff.mp h
    refine QTri.callP W (a := 0) (as := [.int (if y22 = (1:Int32) then (1:Int32) else (if y22 = (2:Int32) then (1:Int32) else (0:Int32))), .int y33, .int (if y22 = (1:Int32) then (1:Int32) else (if y22 = (3:Int32) then (1:Int32) else (0:Int32))), .int y34]) (rest := []) (w := none) (σ₁ := (H0 r61)) rfl rfl rfl rfl rfl rfl rfl rfl (tF14 Ad W o (if y22 = (1:Int32) then (1:Int32) else (if y22 = (2:Int32) then (1:Int32) else (0:Int32))) y33 (if y22 = (1:Int32) then (1:Int32) else (if y22 = (3:Int32) then (1:Int32) else (0:Int32))) y34 hr61) ?_
    obtain rfl := Option.some.inj h
    exact QTri.ret0 rfl rfl
   rcases em (y22 = (1:Int32)) with hc31 | hc31
   ·refine zT Ad W (t := 48) (f := 43) rfl (XT.ii_eq_t hc31) ?_
    refine zS Ad W 2 (st' := (53, [vR 0, vI x1, vI y22, vI (if y22 = (1:Int32) then (1:Int32) else (if y22 = (2:Int32) then (1:Int32) else (0:Int32))), none], [.int (1:Int32)], (H0 o))) rfl ?_
    exact zM [tt,tt,ff,tt,ff] (K30 _ (if_pos hc31).symm)
   ·refine zF Ad W (t := 48) (f := 43) rfl (XT.ii_eq_f hc31) ?_
    refine zS Ad W 2 (st' := (45, [vR 0, vI x1, vI y22, vI (if y22 = (1:Int32) then (1:Int32) else (if y22 = (2:Int32) then (1:Int32) else (0:Int32))), none], [.int (3:Int32), .int y22], (H0 o))) rfl ?_
    rcases em (y22 = (3:Int32)) with hc32 | hc32
    ·refine zF Ad W (t := 52) (f := 48) rfl (XT.ii_ne_f hc32) ?_
     refine zS Ad W 2 (st' := (53, [vR 0, vI x1, vI y22, vI (if y22 = (1:Int32) then (1:Int32) else (if y22 = (2:Int32) then (1:Int32) else (0:Int32))), none], [.int (1:Int32)], (H0 o))) rfl ?_
     exact zM [tt,tt,ff,tt,ff] (K30 _ ((if_neg hc31).trans (if_pos hc32)).symm)
    ·refine zT Ad W (t := 52) (f := 48) rfl (XT.ii_ne_t hc32) ?_
     refine zS Ad W 1 (st' := (53, [vR 0, vI x1, vI y22, vI (if y22 = (1:Int32) then (1:Int32) else (if y22 = (2:Int32) then (1:Int32) else (0:Int32))), none], [.int (0:Int32)], (H0 o))) rfl ?_
     exact zM [tt,tt,ff,tt,ff] (K30 _ ((if_neg hc31).trans (if_neg hc32)).symm)
  rcases em (y22 = (1:Int32)) with hc27 | hc27
  ·refine zT Ad W (t := 32) (f := 27) rfl (XT.ii_eq_t hc27) ?_
   refine zS Ad W 2 (st' := (37, [vR 0, vI x1, vI y22, none, none], [.int (1:Int32)], (H0 o))) rfl ?_
   exact zM [tt,tt,tt,ff,ff] (K26 _ (if_pos hc27).symm)
  ·refine zF Ad W (t := 32) (f := 27) rfl (XT.ii_eq_f hc27) ?_
   refine zS Ad W 2 (st' := (29, [vR 0, vI x1, vI y22, none, none], [.int (2:Int32), .int y22], (H0 o))) rfl ?_
   rcases em (y22 = (2:Int32)) with hc28 | hc28
   ·refine zF Ad W (t := 36) (f := 32) rfl (XT.ii_ne_f hc28) ?_
    refine zS Ad W 2 (st' := (37, [vR 0, vI x1, vI y22, none, none], [.int (1:Int32)], (H0 o))) rfl ?_
    exact zM [tt,tt,tt,ff,ff] (K26 _ ((if_neg hc27).trans (if_pos hc28)).symm)
   ·refine zT Ad W (t := 36) (f := 32) rfl (XT.ii_ne_t hc28) ?_
    refine zS Ad W 1 (st' := (37, [vR 0, vI x1, vI y22, none, none], [.int (0:Int32)], (H0 o))) rfl ?_
    exact zM [tt,tt,tt,ff,ff] (K26 _ ((if_neg hc27).trans (if_neg hc28)).symm)
def H0x7 (o0 : Ob) (a0_9 : List Int32) : QHeap := H0v (f_data o0) (f_filled o0) (f_rf o0) (f_cf o0) (f_vf o0) (f_ag o0) (f_fMode o0) (f_fRk o0) (f_fCk o0) a0_9 (f_prevFound o0) (f_keys o0) (f_nRows o0) (f_nForms o0) (f_last o0) (f_gVal o0) (f_gCount o0) (f_selUseR o0) (f_selRk o0) (f_selUseC o0) (f_selCk o0)
def H0x8 (o0 : Ob) (a0_9 : List Int32) (a0_10 : List Int32) : QHeap := H0v (f_data o0) (f_filled o0) (f_rf o0) (f_cf o0) (f_vf o0) (f_ag o0) (f_fMode o0) (f_fRk o0) (f_fCk o0) a0_9 a0_10 (f_keys o0) (f_nRows o0) (f_nForms o0) (f_last o0) (f_gVal o0) (f_gCount o0) (f_selUseR o0) (f_selRk o0) (f_selUseC o0) (f_selCk o0)
def B4_2 (v : Int32 × Ob) : Option (((Ob)) ⊕ (Int32 × Ob)) :=
  (if v.1 < (f_nForms v.2) then (F5 v.2 v.1).bind fun r62 => (aset (f_prevVal r62) v.1 (f_gVal r62)).bind fun y63 => (aset (f_prevFound r62) v.1 ((if (0 : Int32) < (f_gCount r62) then (1 : Int32) else (0 : Int32)) &&& 1)).bind fun y67 => some (.inr ((v.1 + (1 : Int32)), (s_prevFound (s_prevVal r62 y63) y67))) else some (.inl v.2))
theorem tB4_2 (Ad : QAd n0 ad) (W : QW Z a0) (v : Int32 × Ob) {r : ((Ob)) ⊕ (Int32 × Ob)} {u : Option Value} {τ : QHeap} (h : B4_2 v = some r) (hx0 : ∀ x : Ob, r = .inl x → u = (none : Option Value) ∧ τ = (H0 x)) (hc : ∀ x : Int32 × Ob, r = .inr x → QTri l Z n0 ad 4 (2, [vR 0, vI x.1], [], (H0 x.2)) u τ) : QTri l Z n0 ad 4 (2, [vR 0, vI v.1], [], (H0 v.2)) u τ := by
 unfold B4_2 at h
 refine zS Ad W 3 (st' := (7, [vR 0, vI v.1], [.int (f_nForms v.2), .int v.1], (H0 v.2))) rfl ?_
 rcases qite h with ⟨hc21, h⟩ | ⟨hc21, h⟩
 ·refine zF Ad W (t := 49) (f := 10) rfl (XT.ii_ge_f hc21) ?_
  refine zS Ad W 2 (st' := (12, [vR 0, vI v.1], [.int v.1, .ref 0], (H0 v.2))) rfl ?_
  obtain ⟨r62, hr62, h⟩ := bind_eq_some_iff.mp h
  refine QTri.callP W (a := 0) (as := [.int v.1]) (rest := []) (w := none) (σ₁ := (H0 r62)) rfl rfl rfl rfl rfl rfl rfl rfl (tF5 Ad W v.2 v.1 hr62) ?_
  refine zS Ad W 5 (st' := (24, [vR 0, vI v.1], [.int (f_gVal r62), .int v.1, .ref 6], (H0 r62))) rfl ?_
  obtain ⟨y63, hy63, h⟩ := bind_eq_some_iff.mp h
  refine zB Ad W (f := fun y63 => (25, [vR 0, vI v.1], [], (H0x7 r62 y63))) rfl hy63 ?_
  refine zS Ad W 5 (st' := (34, [vR 0, vI v.1], [.int (f_gCount r62), .int v.1, .ref 7], (H0x7 r62 y63))) rfl ?_
  have K65 : ∀ z64 : Int32, z64 = (if (0:Int32) < (f_gCount r62) then (1:Int32) else (0:Int32)) → QTri l Z n0 ad 4 (42, [vR 0, vI v.1], [.int z64, .int v.1, .ref 7], (H0x7 r62 y63)) u τ := by
   intro z64 ez64
   subst ez64
   obtain ⟨y67, hy67, h⟩ := bind_eq_some_iff.mp h
   refine zB Ad W (f := fun y67 => (43, [vR 0, vI v.1], [], (H0x8 r62 y63 y67))) rfl hy67 ?_
   refine zS Ad W 2 (st' := (2, [vR 0, vI (v.1 + (1:Int32))], [], (H0x8 r62 y63 y67))) rfl ?_
   have E68 : ((H0x8 r62 y63 y67) : QHeap) = (H0 (s_prevFound (s_prevVal r62 y63) y67)) := by simp only [fs, H0, H0v, H0x8, s_prevVal, s_prevFound]
   rw [E68]
   obtain rfl := Option.some.inj h
   exact zM [tt,tt] (hc ((v.1 + (1:Int32)), (s_prevFound (s_prevVal r62 y63) y67)) rfl)
  rcases em ((0:Int32) < (f_gCount r62)) with hc66 | hc66
  ·refine zF Ad W (t := 41) (f := 37) rfl (XT.i0_le_f hc66) ?_
   refine zS Ad W 2 (st' := (42, [vR 0, vI v.1], [.int (1:Int32), .int v.1, .ref 7], (H0x7 r62 y63))) rfl ?_
   exact zM [tt,tt] (K65 _ (if_pos hc66).symm)
  ·refine zT Ad W (t := 41) (f := 37) rfl (XT.i0_le_t hc66) ?_
   refine zS Ad W 1 (st' := (42, [vR 0, vI v.1], [.int (0:Int32), .int v.1, .ref 7], (H0x7 r62 y63))) rfl ?_
   exact zM [tt,tt] (K65 _ (if_neg hc66).symm)
 ·refine zT Ad W (t := 49) (f := 10) rfl (XT.ii_ge_t hc21) ?_
  obtain rfl := Option.some.inj h
  obtain ⟨rfl, rfl⟩ := hx0 v.2 rfl
  exact QTri.ret0 rfl rfl
/-- snapshot()V -/
def F4 (o : Ob) : Option (Ob) :=
 (loopN (B4_2) qN ((0:Int32), o)).bind fun e69 => some e69
theorem tF4 (Ad : QAd n0 ad) (W : QW Z a0) (o : Ob) {r : Ob} (h : F4 o = some r) : QTri l Z n0 ad 4 (0, qentry [.ref 0] (pMaxL 4), [], (H0 o)) (none : Option Value) (H0 r) := by
 unfold F4 at h
 refine zS Ad W 2 (st' := (2, [vR 0, vI (0:Int32)], [], (H0 o))) rfl ?_
 obtain ⟨e69, he69, h⟩ := bind_eq_some_iff.mp h
 refine zM [tt,tt] (loopN_tri (B := B4_2) (T := fun lv70 => QTri l Z n0 ad 4 (2, [vR 0, vI lv70.1], [], (H0 lv70.2)) (none : Option Value) (H0 r)) (KE := fun e69a => (none : Option Value) = (none : Option Value) ∧ (H0 r) = (H0 e69a)) (fun lv70 r hB hE hC => tB4_2 Ad W  lv70 hB (fun x q => hE _ q) (fun x q => hC x q)) qN ((0:Int32), o) e69 he69 ?_)
 obtain rfl := Option.some.inj h
 exact ⟨rfl, rfl⟩
def H0x9 (o0 : Ob) (a0_0 : List Int32) : QHeap := H0v a0_0 (f_filled o0) (f_rf o0) (f_cf o0) (f_vf o0) (f_ag o0) (f_fMode o0) (f_fRk o0) (f_fCk o0) (f_prevVal o0) (f_prevFound o0) (f_keys o0) (f_nRows o0) (f_nForms o0) (f_last o0) (f_gVal o0) (f_gCount o0) (f_selUseR o0) (f_selRk o0) (f_selUseC o0) (f_selCk o0)
def H0x10 (o0 : Ob) (a0_0 : List Int32) (a0_1 : List Int32) : QHeap := H0v a0_0 a0_1 (f_rf o0) (f_cf o0) (f_vf o0) (f_ag o0) (f_fMode o0) (f_fRk o0) (f_fCk o0) (f_prevVal o0) (f_prevFound o0) (f_keys o0) (f_nRows o0) (f_nForms o0) (f_last o0) (f_gVal o0) (f_gCount o0) (f_selUseR o0) (f_selRk o0) (f_selUseC o0) (f_selCk o0)
def J6_56 (o : Ob) (x1 : Int32) (x2 : Int32) : Option (((Int32 × Ob)) ⊕ (Int32 × Int32 × Ob)) :=
  some (.inr (x1, (x2 + (1 : Int32)), o))
theorem tJ6_56 (Ad : QAd n0 ad) (W : QW Z a0) (o : Ob) (x1 : Int32) (x2 : Int32) {r : ((Int32 × Ob)) ⊕ (Int32 × Int32 × Ob)} {u : Option Value} {τ : QHeap} (h : J6_56 o x1 x2 = some r) (hx0 : ∀ x : Int32 × Ob, r = .inl x → u = (some (Value.int x.1)) ∧ τ = (H0 x.2)) (hc : ∀ x : Int32 × Int32 × Ob, r = .inr x → QTri l Z n0 ad 6 (4, [vR 0, vI x.1, vI x.2.1, none], [], (H0 x.2.2)) u τ) : QTri l Z n0 ad 6 (56, [vR 0, vI x1, vI x2, none], [], (H0 o)) u τ := by
 unfold J6_56 at h
 refine zS Ad W 2 (st' := (4, [vR 0, vI x1, vI (x2 + (1:Int32)), none], [], (H0 o))) rfl ?_
 obtain rfl := Option.some.inj h
 exact zM [tt,tt,tt,ff] (hc (x1, (x2 + (1:Int32)), o) rfl)
def J6_53 (o : Ob) (x1 : Int32) (x2 : Int32) : Option (((Int32 × Ob)) ⊕ (Int32 × Int32 × Ob)) :=
  (J6_56 o (x1 + (1 : Int32)) x2)
theorem tJ6_53 (Ad : QAd n0 ad) (W : QW Z a0) (o : Ob) (x1 : Int32) (x2 : Int32) {r : ((Int32 × Ob)) ⊕ (Int32 × Int32 × Ob)} {u : Option Value} {τ : QHeap} (h : J6_53 o x1 x2 = some r) (hx0 : ∀ x : Int32 × Ob, r = .inl x → u = (some (Value.int x.1)) ∧ τ = (H0 x.2)) (hc : ∀ x : Int32 × Int32 × Ob, r = .inr x → QTri l Z n0 ad 6 (4, [vR 0, vI x.1, vI x.2.1, none], [], (H0 x.2.2)) u τ) : QTri l Z n0 ad 6 (53, [vR 0, vI x1, vI x2, none], [], (H0 o)) u τ := by
 unfold J6_53 at h
 refine zS Ad W 1 (st' := (56, [vR 0, vI (x1 + (1:Int32)), vI x2, none], [], (H0 o))) rfl ?_
 exact zM [tt,tt,tt,ff] (tJ6_56 Ad W o (x1 + (1:Int32)) x2 h hx0 hc)
def B6_4 (v : Int32 × Int32 × Ob) : Option (((Int32 × Ob)) ⊕ (Int32 × Int32 × Ob)) :=
  (if v.2.1 < (f_nForms v.2.2) then (F5 v.2.2 v.2.1).bind fun r76 => (aget (f_prevVal r76) v.2.1).bind fun y80 => (if (f_gVal r76) = y80 then (aget (f_prevFound r76) v.2.1).bind fun y82 => some (.inr ((if (if (0 : Int32) < (f_gCount r76) then (1 : Int32) else (0 : Int32)) = y82 then v.1 else (v.1 + (1 : Int32))), (v.2.1 + (1 : Int32)), r76)) else (J6_53 r76 v.1 v.2.1)) else some (.inl (v.1, v.2.2)))
theorem tB6_4 (Ad : QAd n0 ad) (W : QW Z a0) (v : Int32 × Int32 × Ob) {r : ((Int32 × Ob)) ⊕ (Int32 × Int32 × Ob)} {u : Option Value} {τ : QHeap} (h : B6_4 v = some r) (hx0 : ∀ x : Int32 × Ob, r = .inl x → u = (some (Value.int x.1)) ∧ τ = (H0 x.2)) (hc : ∀ x : Int32 × Int32 × Ob, r = .inr x → QTri l Z n0 ad 6 (4, [vR 0, vI x.1, vI x.2.1, none], [], (H0 x.2.2)) u τ) : QTri l Z n0 ad 6 (4, [vR 0, vI v.1, vI v.2.1, none], [], (H0 v.2.2)) u τ := by
 unfold B6_4 at h
 refine zS Ad W 3 (st' := (9, [vR 0, vI v.1, vI v.2.1, none], [.int (f_nForms v.2.2), .int v.2.1], (H0 v.2.2))) rfl ?_
 rcases qite h with ⟨hc75, h⟩ | ⟨hc75, h⟩
 ·refine zF Ad W (t := 62) (f := 12) rfl (XT.ii_ge_f hc75) ?_
  refine zS Ad W 2 (st' := (14, [vR 0, vI v.1, vI v.2.1, none], [.int v.2.1, .ref 0], (H0 v.2.2))) rfl ?_
  obtain ⟨r76, hr76, h⟩ := bind_eq_some_iff.mp h
  refine QTri.callP W (a := 0) (as := [.int v.2.1]) (rest := []) (w := none) (σ₁ := (H0 r76)) rfl rfl rfl rfl rfl rfl rfl rfl (tF5 Ad W v.2.2 v.2.1 hr76) ?_
  refine zS Ad W 2 (st' := (21, [vR 0, vI v.1, vI v.2.1, none], [.int (f_gCount r76)], (H0 r76))) rfl ?_
  have K78 : ∀ z77 : Int32, z77 = (if (0:Int32) < (f_gCount r76) then (1:Int32) else (0:Int32)) → QTri l Z n0 ad 6 (29, [vR 0, vI v.1, vI v.2.1, none], [.int z77], (H0 r76)) u τ := by
   intro z77 ez77
   subst ez77
   refine zS Ad W 6 (st' := (39, [vR 0, vI v.1, vI v.2.1, vI (if (0:Int32) < (f_gCount r76) then (1:Int32) else (0:Int32))], [.int v.2.1, .ref 6, .int (f_gVal r76)], (H0 r76))) rfl ?_
   obtain ⟨y80, hy80, h⟩ := bind_eq_some_iff.mp h
   refine zB Ad W (f := fun y80 => (40, [vR 0, vI v.1, vI v.2.1, vI (if (0:Int32) < (f_gCount r76) then (1:Int32) else (0:Int32))], [.int y80, .int (f_gVal r76)], (H0 r76))) rfl hy80 ?_
   rcases qite h with ⟨hc81, h⟩ | ⟨hc81, h⟩
   ·refine zF Ad W (t := 53) (f := 43) rfl (XT.ii_ne_f hc81) ?_
    refine zS Ad W 4 (st' := (49, [vR 0, vI v.1, vI v.2.1, vI (if (0:Int32) < (f_gCount r76) then (1:Int32) else (0:Int32))], [.int v.2.1, .ref 7, .int (if (0:Int32) < (f_gCount r76) then (1:Int32) else (0:Int32))], (H0 r76))) rfl ?_
    obtain ⟨y82, hy82, h⟩ := bind_eq_some_iff.mp h
    refine zB Ad W (f := fun y82 => (50, [vR 0, vI v.1, vI v.2.1, vI (if (0:Int32) < (f_gCount r76) then (1:Int32) else (0:Int32))], [.int y82, .int (if (0:Int32) < (f_gCount r76) then (1:Int32) else (0:Int32))], (H0 r76))) rfl hy82 ?_
    have K84 : ∀ z83 : Int32, z83 = (if (if (0:Int32) < (f_gCount r76) then (1:Int32) else (0:Int32)) = y82 then v.1 else (v.1 + (1:Int32))) → QTri l Z n0 ad 6 (56, [vR 0, vI z83, vI v.2.1, none], [], (H0 r76)) u τ := by
     intro z83 ez83
     subst ez83
     refine zS Ad W 2 (st' := (4, [vR 0, vI (if (if (0:Int32) < (f_gCount r76) then (1:Int32) else (0:Int32)) = y82 then v.1 else (v.1 + (1:Int32))), vI (v.2.1 + (1:Int32)), none], [], (H0 r76))) rfl ?_
     obtain rfl := Option.some.inj h
     exact zM [tt,tt,tt,ff] (hc ((if (if (0:Int32) < (f_gCount r76) then (1:Int32) else (0:Int32)) = y82 then v.1 else (v.1 + (1:Int32))), (v.2.1 + (1:Int32)), r76) rfl)
    rcases em ((if (0:Int32) < (f_gCount r76) then (1:Int32) else (0:Int32)) = y82) with hc85 | hc85
    ·refine zT Ad W (t := 56) (f := 53) rfl (XT.ii_eq_t hc85) ?_
     exact zM [tt,tt,tt,ff] (K84 _ (if_pos hc85).symm)
    ·refine zF Ad W (t := 56) (f := 53) rfl (XT.ii_eq_f hc85) ?_
     refine zS Ad W 1 (st' := (56, [vR 0, vI (v.1 + (1:Int32)), vI v.2.1, vI (if (0:Int32) < (f_gCount r76) then (1:Int32) else (0:Int32))], [], (H0 r76))) rfl ?_
     exact zM [tt,tt,tt,ff] (K84 _ (if_neg hc85).symm)
   ·refine zT Ad W (t := 53) (f := 43) rfl (XT.ii_ne_t hc81) ?_
    exact zM [tt,tt,tt,ff] (tJ6_53 Ad W r76 v.1 v.2.1 h hx0 hc)
  rcases em ((0:Int32) < (f_gCount r76)) with hc79 | hc79
  ·refine zF Ad W (t := 28) (f := 24) rfl (XT.i0_le_f hc79) ?_
   refine zS Ad W 2 (st' := (29, [vR 0, vI v.1, vI v.2.1, none], [.int (1:Int32)], (H0 r76))) rfl ?_
   exact zM [tt,tt,tt,ff] (K78 _ (if_pos hc79).symm)
  ·refine zT Ad W (t := 28) (f := 24) rfl (XT.i0_le_t hc79) ?_
   refine zS Ad W 1 (st' := (29, [vR 0, vI v.1, vI v.2.1, none], [.int (0:Int32)], (H0 r76))) rfl ?_
   exact zM [tt,tt,tt,ff] (K78 _ (if_neg hc79).symm)
 ·refine zT Ad W (t := 62) (f := 12) rfl (XT.ii_ge_t hc75) ?_
  refine zS Ad W 1 (st' := (63, [vR 0, vI v.1, vI v.2.1, none], [.int v.1], (H0 v.2.2))) rfl ?_
  obtain rfl := Option.some.inj h
  obtain ⟨rfl, rfl⟩ := hx0 (v.1, v.2.2) rfl
  exact QTri.retI rfl rfl
/-- countChanged()I -/
def F6 (o : Ob) : Option (Int32 × Ob) :=
 (loopN (B6_4) qN ((0:Int32), (0:Int32), o)).bind fun e86 => some e86
theorem tF6 (Ad : QAd n0 ad) (W : QW Z a0) (o : Ob) {r : Int32 × Ob} (h : F6 o = some r) : QTri l Z n0 ad 6 (0, qentry [.ref 0] (pMaxL 6), [], (H0 o)) (some (Value.int r.1)) (H0 r.2) := by
 unfold F6 at h
 refine zS Ad W 4 (st' := (4, [vR 0, vI (0:Int32), vI (0:Int32), none], [], (H0 o))) rfl ?_
 obtain ⟨e86, he86, h⟩ := bind_eq_some_iff.mp h
 refine zM [tt,tt,tt,ff] (loopN_tri (B := B6_4) (T := fun lv87 => QTri l Z n0 ad 6 (4, [vR 0, vI lv87.1, vI lv87.2.1, none], [], (H0 lv87.2.2)) (some (Value.int r.1)) (H0 r.2)) (KE := fun e86a => (some (Value.int r.1)) = (some (Value.int e86a.1)) ∧ (H0 r.2) = (H0 e86a.2)) (fun lv87 r hB hE hC => tB6_4 Ad W  lv87 hB (fun x q => hE _ q) (fun x q => hC x q)) qN ((0:Int32), (0:Int32), o) e86 he86 ?_)
 obtain rfl := Option.some.inj h
 exact ⟨rfl, rfl⟩
def H0x11 (o0 : Ob) (a0_14 : Int32) : QHeap := H0v (f_data o0) (f_filled o0) (f_rf o0) (f_cf o0) (f_vf o0) (f_ag o0) (f_fMode o0) (f_fRk o0) (f_fCk o0) (f_prevVal o0) (f_prevFound o0) (f_keys o0) (f_nRows o0) (f_nForms o0) a0_14 (f_gVal o0) (f_gCount o0) (f_selUseR o0) (f_selRk o0) (f_selUseC o0) (f_selCk o0)
/-- setCell(III)Z -/
def F2 (o : Ob) (x1 : Int32) (x2 : Int32) (x3 : Int32) : Option (Int32 × Ob) :=
 (F3 o x1).bind fun r17 => (if r17 = (0:Int32) then some ((0:Int32), o) else (if x2 < (0:Int32) then some ((0:Int32), o) else (if x2 < (4:Int32) then (F4 o).bind fun r71 => (aset (f_data r71) ((x1 * (4:Int32)) + x2) x3).bind fun y72 => (aset (f_filled r71) x1 (1:Int32)).bind fun y73 => (F6 (s_filled (s_data r71 y72) y73)).bind fun r88 => some ((1:Int32), (s_last r88.2 r88.1)) else some ((0:Int32), o))))
theorem tF2 (Ad : QAd n0 ad) (W : QW Z a0) (o : Ob) (x1 : Int32) (x2 : Int32) (x3 : Int32) {r : Int32 × Ob} (h : F2 o x1 x2 x3 = some r) : QTri l Z n0 ad 2 (0, qentry [.ref 0, .int x1, .int x2, .int x3] (pMaxL 2), [], (H0 o)) (some (Value.int r.1)) (H0 r.2) := by
 unfold F2 at h
 refine zS Ad W 2 (st' := (2, [vR 0, vI x1, vI x2, vI x3], [.int x1, .ref 0], (H0 o))) rfl ?_
 obtain ⟨r17, hr17, h⟩ := bind_eq_some_iff.mp h
 refine QTri.callP W (a := 0) (as := [.int x1]) (rest := []) (w := (some (.int r17))) (σ₁ := (H0 o)) rfl rfl rfl rfl rfl rfl rfl rfl (tF3 Ad W o x1 hr17) ?_
 rcases qite h with ⟨hc18, h⟩ | ⟨hc18, h⟩
 ·refine zF Ad W (t := 10) (f := 8) rfl (XT.i0_ne_f hc18) ?_
  refine zS Ad W 1 (st' := (9, [vR 0, vI x1, vI x2, vI x3], [.int (0:Int32)], (H0 o))) rfl ?_
  obtain rfl := Option.some.inj h
  exact QTri.retZ rfl rfl
 ·refine zT Ad W (t := 10) (f := 8) rfl (XT.i0_ne_t hc18) ?_
  refine zS Ad W 1 (st' := (11, [vR 0, vI x1, vI x2, vI x3], [.int x2], (H0 o))) rfl ?_
  rcases qite h with ⟨hc19, h⟩ | ⟨hc19, h⟩
  ·refine zT Ad W (t := 19) (f := 14) rfl (XT.i0_lt_t hc19) ?_
   refine zS Ad W 1 (st' := (20, [vR 0, vI x1, vI x2, vI x3], [.int (0:Int32)], (H0 o))) rfl ?_
   obtain rfl := Option.some.inj h
   exact QTri.retZ rfl rfl
  ·refine zF Ad W (t := 19) (f := 14) rfl (XT.i0_lt_f hc19) ?_
   refine zS Ad W 2 (st' := (16, [vR 0, vI x1, vI x2, vI x3], [.int (4:Int32), .int x2], (H0 o))) rfl ?_
   rcases qite h with ⟨hc20, h⟩ | ⟨hc20, h⟩
   ·refine zT Ad W (t := 21) (f := 19) rfl (XT.ii_lt_t hc20) ?_
    refine zS Ad W 1 (st' := (22, [vR 0, vI x1, vI x2, vI x3], [.ref 0], (H0 o))) rfl ?_
    obtain ⟨r71, hr71, h⟩ := bind_eq_some_iff.mp h
    refine QTri.callP W (a := 0) (as := []) (rest := []) (w := none) (σ₁ := (H0 r71)) rfl rfl rfl rfl rfl rfl rfl rfl (tF4 Ad W o hr71) ?_
    refine zS Ad W 8 (st' := (35, [vR 0, vI x1, vI x2, vI x3], [.int x3, .int ((x1 * (4:Int32)) + x2), .ref 1], (H0 r71))) rfl ?_
    obtain ⟨y72, hy72, h⟩ := bind_eq_some_iff.mp h
    refine zB Ad W (f := fun y72 => (36, [vR 0, vI x1, vI x2, vI x3], [], (H0x9 r71 y72))) rfl hy72 ?_
    refine zS Ad W 4 (st' := (42, [vR 0, vI x1, vI x2, vI x3], [.int (1:Int32), .int x1, .ref 2], (H0x9 r71 y72))) rfl ?_
    obtain ⟨y73, hy73, h⟩ := bind_eq_some_iff.mp h
    refine zB Ad W (f := fun y73 => (43, [vR 0, vI x1, vI x2, vI x3], [], (H0x10 r71 y72 y73))) rfl hy73 ?_
    refine zS Ad W 2 (st' := (45, [vR 0, vI x1, vI x2, vI x3], [.ref 0, .ref 0], (H0x10 r71 y72 y73))) rfl ?_
    have E74 : ((H0x10 r71 y72 y73) : QHeap) = (H0 (s_filled (s_data r71 y72) y73)) := by simp only [fs, H0, H0v, H0x10, s_data, s_filled]
    rw [E74]
    obtain ⟨r88, hr88, h⟩ := bind_eq_some_iff.mp h
    refine QTri.callP W (a := 0) (as := []) (rest := [.ref 0]) (w := (some (.int r88.1))) (σ₁ := (H0 r88.2)) rfl rfl rfl rfl rfl rfl rfl rfl (tF6 Ad W (s_filled (s_data r71 y72) y73) hr88) ?_
    refine zS Ad W 1 (st' := (51, [vR 0, vI x1, vI x2, vI x3], [], (H0x11 r88.2 r88.1))) rfl ?_
    refine zS Ad W 1 (st' := (52, [vR 0, vI x1, vI x2, vI x3], [.int (1:Int32)], (H0x11 r88.2 r88.1))) rfl ?_
    have E89 : ((H0x11 r88.2 r88.1) : QHeap) = (H0 (s_last r88.2 r88.1)) := by simp only [fs, H0, H0v, H0x11, s_last]
    rw [E89]
    obtain rfl := Option.some.inj h
    exact QTri.retZ rfl rfl
   ·refine zF Ad W (t := 21) (f := 19) rfl (XT.ii_lt_f hc20) ?_
    refine zS Ad W 1 (st' := (20, [vR 0, vI x1, vI x2, vI x3], [.int (0:Int32)], (H0 o))) rfl ?_
    obtain rfl := Option.some.inj h
    exact QTri.retZ rfl rfl
def J8_42 (o : Ob) (x1 : Int32) (x2 : Int32) (x3 : Int32) (x4 : Int32) : Option (((Int32 × Ob)) ⊕ (Int32 × Int32 × Ob)) :=
  some (.inr (x3, (x4 + (1 : Int32)), o))
theorem tJ8_42 (Ad : QAd n0 ad) (W : QW Z a0) (o : Ob) (x1 : Int32) (x2 : Int32) (x3 : Int32) (x4 : Int32) {r : ((Int32 × Ob)) ⊕ (Int32 × Int32 × Ob)} {u : Option Value} {τ : QHeap} (h : J8_42 o x1 x2 x3 x4 = some r) (hx0 : ∀ x : Int32 × Ob, r = .inl x → u = (some (Value.int x.1)) ∧ τ = (H0 x.2)) (hc : ∀ x : Int32 × Int32 × Ob, r = .inr x → QTri l Z n0 ad 8 (5, [vR 0, vI x1, vI x2, vI x.1, vI x.2.1], [], (H0 x.2.2)) u τ) : QTri l Z n0 ad 8 (42, [vR 0, vI x1, vI x2, vI x3, vI x4], [], (H0 o)) u τ := by
 unfold J8_42 at h
 refine zS Ad W 2 (st' := (5, [vR 0, vI x1, vI x2, vI x3, vI (x4 + (1:Int32))], [], (H0 o))) rfl ?_
 obtain rfl := Option.some.inj h
 exact zM [tt,tt,tt,tt,tt] (hc (x3, (x4 + (1:Int32)), o) rfl)
def B9_15 (o : Ob) (x1 : Int32) (x2 : Int32) (x3 : Int32) (v : Int32) : Option (((Int32)) ⊕ (Int32)) :=
  (if v < x2 then (aget (f_keys o) (x1 + v)).bind fun y118 => (if y118 < x3 then some (.inr (v + (1 : Int32))) else some (.inl v)) else some (.inl v))
theorem tB9_15 (Ad : QAd n0 ad) (W : QW Z a0) (o : Ob) (x1 : Int32) (x2 : Int32) (x3 : Int32) (v : Int32) {r : ((Int32)) ⊕ (Int32)} {u : Option Value} {τ : QHeap} (h : B9_15 o x1 x2 x3 v = some r) (hx0 : ∀ x : Int32, r = .inl x → QTri l Z n0 ad 9 (40, [vR 0, vI x1, vI x2, vI x3, vI x, none], [], (H0 o)) u τ) (hc : ∀ x : Int32, r = .inr x → QTri l Z n0 ad 9 (15, [vR 0, vI x1, vI x2, vI x3, vI x, none], [], (H0 o)) u τ) : QTri l Z n0 ad 9 (15, [vR 0, vI x1, vI x2, vI x3, vI v, none], [], (H0 o)) u τ := by
 unfold B9_15 at h
 refine zS Ad W 2 (st' := (18, [vR 0, vI x1, vI x2, vI x3, vI v, none], [.int x2, .int v], (H0 o))) rfl ?_
 rcases qite h with ⟨hc117, h⟩ | ⟨hc117, h⟩
 ·refine zF Ad W (t := 40) (f := 21) rfl (XT.ii_ge_f hc117) ?_
  refine zS Ad W 5 (st' := (29, [vR 0, vI x1, vI x2, vI x3, vI v, none], [.int (x1 + v), .ref 8], (H0 o))) rfl ?_
  obtain ⟨y118, hy118, h⟩ := bind_eq_some_iff.mp h
  refine zB Ad W (f := fun y118 => (30, [vR 0, vI x1, vI x2, vI x3, vI v, none], [.int y118], (H0 o))) rfl hy118 ?_
  refine zS Ad W 1 (st' := (31, [vR 0, vI x1, vI x2, vI x3, vI v, none], [.int x3, .int y118], (H0 o))) rfl ?_
  rcases qite h with ⟨hc119, h⟩ | ⟨hc119, h⟩
  ·refine zF Ad W (t := 40) (f := 34) rfl (XT.ii_ge_f hc119) ?_
   refine zS Ad W 2 (st' := (15, [vR 0, vI x1, vI x2, vI x3, vI (v + (1:Int32)), none], [], (H0 o))) rfl ?_
   obtain rfl := Option.some.inj h
   exact zM [tt,tt,tt,tt,tt,ff] (hc (v + (1:Int32)) rfl)
  ·refine zT Ad W (t := 40) (f := 34) rfl (XT.ii_ge_t hc119) ?_
   obtain rfl := Option.some.inj h
   exact zM [tt,tt,tt,tt,tt,ff] (hx0 v rfl)
 ·refine zT Ad W (t := 40) (f := 21) rfl (XT.ii_ge_t hc117) ?_
  obtain rfl := Option.some.inj h
  exact zM [tt,tt,tt,tt,tt,ff] (hx0 v rfl)
def H0x12 (o0 : Ob) (a0_11 : List Int32) : QHeap := H0v (f_data o0) (f_filled o0) (f_rf o0) (f_cf o0) (f_vf o0) (f_ag o0) (f_fMode o0) (f_fRk o0) (f_fCk o0) (f_prevVal o0) (f_prevFound o0) a0_11 (f_nRows o0) (f_nForms o0) (f_last o0) (f_gVal o0) (f_gCount o0) (f_selUseR o0) (f_selRk o0) (f_selUseC o0) (f_selCk o0)
def B9_64 (x1 : Int32) (x2 : Int32) (x3 : Int32) (x4 : Int32) (v : Int32 × Ob) : Option (((Ob)) ⊕ (Int32 × Ob)) :=
  (if x4 < v.1 then (aget (f_keys v.2) ((x1 + v.1) - (1 : Int32))).bind fun y126 => (aset (f_keys v.2) (x1 + v.1) y126).bind fun y127 => some (.inr ((v.1 + (-1 : Int32)), (s_keys v.2 y127))) else some (.inl v.2))
theorem tB9_64 (Ad : QAd n0 ad) (W : QW Z a0) (x1 : Int32) (x2 : Int32) (x3 : Int32) (x4 : Int32) (v : Int32 × Ob) {r : ((Ob)) ⊕ (Int32 × Ob)} {u : Option Value} {τ : QHeap} (h : B9_64 x1 x2 x3 x4 v = some r) (hx0 : ∀ x : Ob, r = .inl x → QTri l Z n0 ad 9 (97, [vR 0, vI x1, vI x2, vI x3, vI x4, none], [], (H0 x)) u τ) (hc : ∀ x : Int32 × Ob, r = .inr x → QTri l Z n0 ad 9 (64, [vR 0, vI x1, vI x2, vI x3, vI x4, vI x.1], [], (H0 x.2)) u τ) : QTri l Z n0 ad 9 (64, [vR 0, vI x1, vI x2, vI x3, vI x4, vI v.1], [], (H0 v.2)) u τ := by
 unfold B9_64 at h
 refine zS Ad W 2 (st' := (68, [vR 0, vI x1, vI x2, vI x3, vI x4, vI v.1], [.int x4, .int v.1], (H0 v.2))) rfl ?_
 rcases qite h with ⟨hc125, h⟩ | ⟨hc125, h⟩
 ·refine zF Ad W (t := 97) (f := 71) rfl (XT.ii_le_f hc125) ?_
  refine zS Ad W 12 (st' := (89, [vR 0, vI x1, vI x2, vI x3, vI x4, vI v.1], [.int ((x1 + v.1) - (1:Int32)), .ref 8, .int (x1 + v.1), .ref 8], (H0 v.2))) rfl ?_
  obtain ⟨y126, hy126, h⟩ := bind_eq_some_iff.mp h
  refine zB Ad W (f := fun y126 => (90, [vR 0, vI x1, vI x2, vI x3, vI x4, vI v.1], [.int y126, .int (x1 + v.1), .ref 8], (H0 v.2))) rfl hy126 ?_
  obtain ⟨y127, hy127, h⟩ := bind_eq_some_iff.mp h
  refine zB Ad W (f := fun y127 => (91, [vR 0, vI x1, vI x2, vI x3, vI x4, vI v.1], [], (H0x12 v.2 y127))) rfl hy127 ?_
  refine zS Ad W 2 (st' := (64, [vR 0, vI x1, vI x2, vI x3, vI x4, vI (v.1 + (-1:Int32))], [], (H0x12 v.2 y127))) rfl ?_
  have E128 : ((H0x12 v.2 y127) : QHeap) = (H0 (s_keys v.2 y127)) := by simp only [fs, H0, H0v, H0x12, s_keys]
  rw [E128]
  obtain rfl := Option.some.inj h
  exact zM [tt,tt,tt,tt,tt,tt] (hc ((v.1 + (-1:Int32)), (s_keys v.2 y127)) rfl)
 ·refine zT Ad W (t := 97) (f := 71) rfl (XT.ii_le_t hc125) ?_
  obtain rfl := Option.some.inj h
  exact zM [tt,tt,tt,tt,tt,ff] (hx0 v.2 rfl)
def J9_61 (o : Ob) (x1 : Int32) (x2 : Int32) (x3 : Int32) (x4 : Int32) : Option (Int32 × Ob) :=
  (loopN (B9_64 x1 x2 x3 x4) qN (x2, o)).bind fun e129 => (aset (f_keys e129) (x1 + x4) x3).bind fun y131 => some ((x2 + (1 : Int32)), (s_keys e129 y131))
theorem tJ9_61 (Ad : QAd n0 ad) (W : QW Z a0) (o : Ob) (x1 : Int32) (x2 : Int32) (x3 : Int32) (x4 : Int32) {r : Int32 × Ob} (h : J9_61 o x1 x2 x3 x4 = some r) : QTri l Z n0 ad 9 (61, [vR 0, vI x1, vI x2, vI x3, vI x4, none], [], (H0 o)) (some (Value.int r.1)) (H0 r.2) := by
 unfold J9_61 at h
 refine zS Ad W 2 (st' := (64, [vR 0, vI x1, vI x2, vI x3, vI x4, vI x2], [], (H0 o))) rfl ?_
 obtain ⟨e129, he129, h⟩ := bind_eq_some_iff.mp h
 refine zM [tt,tt,tt,tt,tt,tt] (loopN_tri (B := B9_64 x1 x2 x3 x4) (T := fun lv130 => QTri l Z n0 ad 9 (64, [vR 0, vI x1, vI x2, vI x3, vI x4, vI lv130.1], [], (H0 lv130.2)) (some (Value.int r.1)) (H0 r.2)) (KE := fun e129a => QTri l Z n0 ad 9 (97, [vR 0, vI x1, vI x2, vI x3, vI x4, none], [], (H0 e129a)) (some (Value.int r.1)) (H0 r.2)) (fun lv130 r hB hE hC => tB9_64 Ad W x1 x2 x3 x4 lv130 hB (fun x q => hE _ q) (fun x q => hC x q)) qN (x2, o) e129 he129 ?_)
 refine zS Ad W 6 (st' := (106, [vR 0, vI x1, vI x2, vI x3, vI x4, none], [.int x3, .int (x1 + x4), .ref 8], (H0 e129))) rfl ?_
 obtain ⟨y131, hy131, h⟩ := bind_eq_some_iff.mp h
 refine zB Ad W (f := fun y131 => (107, [vR 0, vI x1, vI x2, vI x3, vI x4, none], [], (H0x12 e129 y131))) rfl hy131 ?_
 refine zS Ad W 3 (st' := (110, [vR 0, vI x1, vI x2, vI x3, vI x4, none], [.int (x2 + (1:Int32))], (H0x12 e129 y131))) rfl ?_
 have E132 : ((H0x12 e129 y131) : QHeap) = (H0 (s_keys e129 y131)) := by simp only [fs, H0, H0v, H0x12, s_keys]
 rw [E132]
 obtain rfl := Option.some.inj h
 exact QTri.retI rfl rfl
def J9_40 (o : Ob) (x1 : Int32) (x2 : Int32) (x3 : Int32) (x4 : Int32) : Option (Int32 × Ob) :=
  (if x4 < x2 then (aget (f_keys o) (x1 + x4)).bind fun y123 => (if y123 = x3 then some (x2, o) else (J9_61 o x1 x2 x3 x4)) else (J9_61 o x1 x2 x3 x4))
theorem tJ9_40 (Ad : QAd n0 ad) (W : QW Z a0) (o : Ob) (x1 : Int32) (x2 : Int32) (x3 : Int32) (x4 : Int32) {r : Int32 × Ob} (h : J9_40 o x1 x2 x3 x4 = some r) : QTri l Z n0 ad 9 (40, [vR 0, vI x1, vI x2, vI x3, vI x4, none], [], (H0 o)) (some (Value.int r.1)) (H0 r.2) := by
 unfold J9_40 at h
 refine zS Ad W 2 (st' := (43, [vR 0, vI x1, vI x2, vI x3, vI x4, none], [.int x2, .int x4], (H0 o))) rfl ?_
 rcases qite h with ⟨hc122, h⟩ | ⟨hc122, h⟩
 ·refine zF Ad W (t := 61) (f := 46) rfl (XT.ii_ge_f hc122) ?_
  refine zS Ad W 5 (st' := (54, [vR 0, vI x1, vI x2, vI x3, vI x4, none], [.int (x1 + x4), .ref 8], (H0 o))) rfl ?_
  obtain ⟨y123, hy123, h⟩ := bind_eq_some_iff.mp h
  refine zB Ad W (f := fun y123 => (55, [vR 0, vI x1, vI x2, vI x3, vI x4, none], [.int y123], (H0 o))) rfl hy123 ?_
  refine zS Ad W 1 (st' := (56, [vR 0, vI x1, vI x2, vI x3, vI x4, none], [.int x3, .int y123], (H0 o))) rfl ?_
  rcases qite h with ⟨hc124, h⟩ | ⟨hc124, h⟩
  ·refine zF Ad W (t := 61) (f := 59) rfl (XT.ii_ne_f hc124) ?_
   refine zS Ad W 1 (st' := (60, [vR 0, vI x1, vI x2, vI x3, vI x4, none], [.int x2], (H0 o))) rfl ?_
   obtain rfl := Option.some.inj h
   exact QTri.retI rfl rfl
  ·refine zT Ad W (t := 61) (f := 59) rfl (XT.ii_ne_t hc124) ?_
   exact zM [tt,tt,tt,tt,tt,ff] (tJ9_61 Ad W o x1 x2 x3 x4 h)
 ·refine zT Ad W (t := 61) (f := 46) rfl (XT.ii_ge_t hc122) ?_
  exact zM [tt,tt,tt,tt,tt,ff] (tJ9_61 Ad W o x1 x2 x3 x4 h)
/-- insertKey(III)I -/
def F9 (o : Ob) (x1 : Int32) (x2 : Int32) (x3 : Int32) : Option (Int32 × Ob) :=
 (if x2 < (0:Int32) then some (x2, o) else (if x2 < (32:Int32) then (loopN (B9_15 o x1 x2 x3) qN (0:Int32)).bind fun e120 => (J9_40 o x1 x2 x3 e120) else some (x2, o)))
theorem tF9 (Ad : QAd n0 ad) (W : QW Z a0) (o : Ob) (x1 : Int32) (x2 : Int32) (x3 : Int32) {r : Int32 × Ob} (h : F9 o x1 x2 x3 = some r) : QTri l Z n0 ad 9 (0, qentry [.ref 0, .int x1, .int x2, .int x3] (pMaxL 9), [], (H0 o)) (some (Value.int r.1)) (H0 r.2) := by
 unfold F9 at h
 refine zS Ad W 1 (st' := (1, [vR 0, vI x1, vI x2, vI x3, none, none], [.int x2], (H0 o))) rfl ?_
 rcases qite h with ⟨hc115, h⟩ | ⟨hc115, h⟩
 ·refine zT Ad W (t := 10) (f := 4) rfl (XT.i0_lt_t hc115) ?_
  refine zS Ad W 1 (st' := (11, [vR 0, vI x1, vI x2, vI x3, none, none], [.int x2], (H0 o))) rfl ?_
  obtain rfl := Option.some.inj h
  exact QTri.retI rfl rfl
 ·refine zF Ad W (t := 10) (f := 4) rfl (XT.i0_lt_f hc115) ?_
  refine zS Ad W 2 (st' := (7, [vR 0, vI x1, vI x2, vI x3, none, none], [.int (32:Int32), .int x2], (H0 o))) rfl ?_
  rcases qite h with ⟨hc116, h⟩ | ⟨hc116, h⟩
  ·refine zT Ad W (t := 12) (f := 10) rfl (XT.ii_lt_t hc116) ?_
   refine zS Ad W 2 (st' := (15, [vR 0, vI x1, vI x2, vI x3, vI (0:Int32), none], [], (H0 o))) rfl ?_
   obtain ⟨e120, he120, h⟩ := bind_eq_some_iff.mp h
   refine zM [tt,tt,tt,tt,tt,ff] (loopN_tri (B := B9_15 o x1 x2 x3) (T := fun lv121 => QTri l Z n0 ad 9 (15, [vR 0, vI x1, vI x2, vI x3, vI lv121, none], [], (H0 o)) (some (Value.int r.1)) (H0 r.2)) (KE := fun e120a => QTri l Z n0 ad 9 (40, [vR 0, vI x1, vI x2, vI x3, vI e120a, none], [], (H0 o)) (some (Value.int r.1)) (H0 r.2)) (fun lv121 r hB hE hC => tB9_15 Ad W o x1 x2 x3 lv121 hB (fun x q => hE _ q) (fun x q => hC x q)) qN (0:Int32) e120 he120 ?_)
   exact zM [tt,tt,tt,tt,tt,ff] (tJ9_40 Ad W o x1 x2 x3 e120 h)
  ·refine zF Ad W (t := 12) (f := 10) rfl (XT.ii_lt_f hc116) ?_
   refine zS Ad W 1 (st' := (11, [vR 0, vI x1, vI x2, vI x3, none, none], [.int x2], (H0 o))) rfl ?_
   obtain rfl := Option.some.inj h
   exact QTri.retI rfl rfl
def B8_5 (x1 : Int32) (x2 : Int32) (v : Int32 × Int32 × Ob) : Option (((Int32 × Ob)) ⊕ (Int32 × Int32 × Ob)) :=
  (if v.2.1 < (f_nRows v.2.2) then (aget (f_filled v.2.2) v.2.1).bind fun y112 => (if y112 = (0 : Int32) then (J8_42 v.2.2 x1 x2 v.1 v.2.1) else (aget (f_data v.2.2) ((v.2.1 * (4 : Int32)) + x1)).bind fun y114 => (F9 v.2.2 x2 v.1 y114).bind fun r133 => (J8_42 r133.2 x1 x2 r133.1 v.2.1)) else some (.inl (v.1, v.2.2)))
theorem tB8_5 (Ad : QAd n0 ad) (W : QW Z a0) (x1 : Int32) (x2 : Int32) (v : Int32 × Int32 × Ob) {r : ((Int32 × Ob)) ⊕ (Int32 × Int32 × Ob)} {u : Option Value} {τ : QHeap} (h : B8_5 x1 x2 v = some r) (hx0 : ∀ x : Int32 × Ob, r = .inl x → u = (some (Value.int x.1)) ∧ τ = (H0 x.2)) (hc : ∀ x : Int32 × Int32 × Ob, r = .inr x → QTri l Z n0 ad 8 (5, [vR 0, vI x1, vI x2, vI x.1, vI x.2.1], [], (H0 x.2.2)) u τ) : QTri l Z n0 ad 8 (5, [vR 0, vI x1, vI x2, vI v.1, vI v.2.1], [], (H0 v.2.2)) u τ := by
 unfold B8_5 at h
 refine zS Ad W 3 (st' := (11, [vR 0, vI x1, vI x2, vI v.1, vI v.2.1], [.int (f_nRows v.2.2), .int v.2.1], (H0 v.2.2))) rfl ?_
 rcases qite h with ⟨hc111, h⟩ | ⟨hc111, h⟩
 ·refine zF Ad W (t := 48) (f := 14) rfl (XT.ii_ge_f hc111) ?_
  refine zS Ad W 3 (st' := (20, [vR 0, vI x1, vI x2, vI v.1, vI v.2.1], [.int v.2.1, .ref 2], (H0 v.2.2))) rfl ?_
  obtain ⟨y112, hy112, h⟩ := bind_eq_some_iff.mp h
  refine zB Ad W (f := fun y112 => (21, [vR 0, vI x1, vI x2, vI v.1, vI v.2.1], [.int y112], (H0 v.2.2))) rfl hy112 ?_
  rcases qite h with ⟨hc113, h⟩ | ⟨hc113, h⟩
  ·refine zT Ad W (t := 42) (f := 24) rfl (XT.i0_eq_t hc113) ?_
   exact zM [tt,tt,tt,tt,tt] (tJ8_42 Ad W v.2.2 x1 x2 v.1 v.2.1 h hx0 hc)
  ·refine zF Ad W (t := 42) (f := 24) rfl (XT.i0_eq_f hc113) ?_
   refine zS Ad W 10 (st' := (37, [vR 0, vI x1, vI x2, vI v.1, vI v.2.1], [.int ((v.2.1 * (4:Int32)) + x1), .ref 1, .int v.1, .int x2, .ref 0], (H0 v.2.2))) rfl ?_
   obtain ⟨y114, hy114, h⟩ := bind_eq_some_iff.mp h
   refine zB Ad W (f := fun y114 => (38, [vR 0, vI x1, vI x2, vI v.1, vI v.2.1], [.int y114, .int v.1, .int x2, .ref 0], (H0 v.2.2))) rfl hy114 ?_
   obtain ⟨r133, hr133, h⟩ := bind_eq_some_iff.mp h
   refine QTri.callP W (a := 0) (as := [.int x2, .int v.1, .int y114]) (rest := []) (w := (some (.int r133.1))) (σ₁ := (H0 r133.2)) rfl rfl rfl rfl rfl rfl rfl rfl (tF9 Ad W v.2.2 x2 v.1 y114 hr133) ?_
   refine zS Ad W 1 (st' := (42, [vR 0, vI x1, vI x2, vI r133.1, vI v.2.1], [], (H0 r133.2))) rfl ?_
   exact zM [tt,tt,tt,tt,tt] (tJ8_42 Ad W r133.2 x1 x2 r133.1 v.2.1 h hx0 hc)
 ·refine zT Ad W (t := 48) (f := 14) rfl (XT.ii_ge_t hc111) ?_
  refine zS Ad W 1 (st' := (49, [vR 0, vI x1, vI x2, vI v.1, vI v.2.1], [.int v.1], (H0 v.2.2))) rfl ?_
  obtain rfl := Option.some.inj h
  obtain ⟨rfl, rfl⟩ := hx0 (v.1, v.2.2) rfl
  exact QTri.retI rfl rfl
/-- buildKeys(II)I -/
def F8 (o : Ob) (x1 : Int32) (x2 : Int32) : Option (Int32 × Ob) :=
 (loopN (B8_5 x1 x2) qN ((0:Int32), (0:Int32), o)).bind fun e134 => some e134
theorem tF8 (Ad : QAd n0 ad) (W : QW Z a0) (o : Ob) (x1 : Int32) (x2 : Int32) {r : Int32 × Ob} (h : F8 o x1 x2 = some r) : QTri l Z n0 ad 8 (0, qentry [.ref 0, .int x1, .int x2] (pMaxL 8), [], (H0 o)) (some (Value.int r.1)) (H0 r.2) := by
 unfold F8 at h
 refine zS Ad W 4 (st' := (5, [vR 0, vI x1, vI x2, vI (0:Int32), vI (0:Int32)], [], (H0 o))) rfl ?_
 obtain ⟨e134, he134, h⟩ := bind_eq_some_iff.mp h
 refine zM [tt,tt,tt,tt,tt] (loopN_tri (B := B8_5 x1 x2) (T := fun lv135 => QTri l Z n0 ad 8 (5, [vR 0, vI x1, vI x2, vI lv135.1, vI lv135.2.1], [], (H0 lv135.2.2)) (some (Value.int r.1)) (H0 r.2)) (KE := fun e134a => (some (Value.int r.1)) = (some (Value.int e134a.1)) ∧ (H0 r.2) = (H0 e134a.2)) (fun lv135 r hB hE hC => tB8_5 Ad W x1 x2 lv135 hB (fun x q => hE _ q) (fun x q => hC x q)) qN ((0:Int32), (0:Int32), o) e134 he134 ?_)
 obtain rfl := Option.some.inj h
 exact ⟨rfl, rfl⟩
/-- rowKeyCount()I -/
def F7 (o : Ob) : Option (Int32 × Ob) :=
 (F8 o (f_rf o) (0:Int32)).bind fun r136 => some (r136.1, r136.2)
theorem tF7 (Ad : QAd n0 ad) (W : QW Z a0) (o : Ob) {r : Int32 × Ob} (h : F7 o = some r) : QTri l Z n0 ad 7 (0, qentry [.ref 0] (pMaxL 7), [], (H0 o)) (some (Value.int r.1)) (H0 r.2) := by
 unfold F7 at h
 refine zS Ad W 4 (st' := (6, [vR 0], [.int (0:Int32), .int (f_rf o), .ref 0], (H0 o))) rfl ?_
 obtain ⟨r136, hr136, h⟩ := bind_eq_some_iff.mp h
 refine QTri.callP W (a := 0) (as := [.int (f_rf o), .int (0:Int32)]) (rest := []) (w := (some (.int r136.1))) (σ₁ := (H0 r136.2)) rfl rfl rfl rfl rfl rfl rfl rfl (tF8 Ad W o (f_rf o) (0:Int32) hr136) ?_
 obtain rfl := Option.some.inj h
 exact QTri.retI rfl rfl
/-- colKeyCount()I -/
def F10 (o : Ob) : Option (Int32 × Ob) :=
 (F8 o (f_cf o) (32:Int32)).bind fun r139 => some (r139.1, r139.2)
theorem tF10 (Ad : QAd n0 ad) (W : QW Z a0) (o : Ob) {r : Int32 × Ob} (h : F10 o = some r) : QTri l Z n0 ad 10 (0, qentry [.ref 0] (pMaxL 10), [], (H0 o)) (some (Value.int r.1)) (H0 r.2) := by
 unfold F10 at h
 refine zS Ad W 4 (st' := (7, [vR 0], [.int (32:Int32), .int (f_cf o), .ref 0], (H0 o))) rfl ?_
 obtain ⟨r139, hr139, h⟩ := bind_eq_some_iff.mp h
 refine QTri.callP W (a := 0) (as := [.int (f_cf o), .int (32:Int32)]) (rest := []) (w := (some (.int r139.1))) (σ₁ := (H0 r139.2)) rfl rfl rfl rfl rfl rfl rfl rfl (tF8 Ad W o (f_cf o) (32:Int32) hr139) ?_
 obtain rfl := Option.some.inj h
 exact QTri.retI rfl rfl
/-- rowKey(I)I -/
def F11 (o : Ob) (x1 : Int32) : Option (Int32 × Ob) :=
 (F8 o (f_rf o) (0:Int32)).bind fun r142 => (if x1 < (0:Int32) then some ((0:Int32), r142.2) else (if x1 < r142.1 then (aget (f_keys r142.2) x1).bind fun y145 => some (y145, r142.2) else some ((0:Int32), r142.2)))
theorem tF11 (Ad : QAd n0 ad) (W : QW Z a0) (o : Ob) (x1 : Int32) {r : Int32 × Ob} (h : F11 o x1 = some r) : QTri l Z n0 ad 11 (0, qentry [.ref 0, .int x1] (pMaxL 11), [], (H0 o)) (some (Value.int r.1)) (H0 r.2) := by
 unfold F11 at h
 refine zS Ad W 4 (st' := (6, [vR 0, vI x1, none], [.int (0:Int32), .int (f_rf o), .ref 0], (H0 o))) rfl ?_
 obtain ⟨r142, hr142, h⟩ := bind_eq_some_iff.mp h
 refine QTri.callP W (a := 0) (as := [.int (f_rf o), .int (0:Int32)]) (rest := []) (w := (some (.int r142.1))) (σ₁ := (H0 r142.2)) rfl rfl rfl rfl rfl rfl rfl rfl (tF8 Ad W o (f_rf o) (0:Int32) hr142) ?_
 refine zS Ad W 2 (st' := (11, [vR 0, vI x1, vI r142.1], [.int x1], (H0 r142.2))) rfl ?_
 rcases qite h with ⟨hc143, h⟩ | ⟨hc143, h⟩
 ·refine zT Ad W (t := 19) (f := 14) rfl (XT.i0_lt_t hc143) ?_
  refine zS Ad W 1 (st' := (20, [vR 0, vI x1, vI r142.1], [.int (0:Int32)], (H0 r142.2))) rfl ?_
  obtain rfl := Option.some.inj h
  exact QTri.retI rfl rfl
 ·refine zF Ad W (t := 19) (f := 14) rfl (XT.i0_lt_f hc143) ?_
  refine zS Ad W 2 (st' := (16, [vR 0, vI x1, vI r142.1], [.int r142.1, .int x1], (H0 r142.2))) rfl ?_
  rcases qite h with ⟨hc144, h⟩ | ⟨hc144, h⟩
  ·refine zT Ad W (t := 21) (f := 19) rfl (XT.ii_lt_t hc144) ?_
   refine zS Ad W 3 (st' := (26, [vR 0, vI x1, vI r142.1], [.int x1, .ref 8], (H0 r142.2))) rfl ?_
   obtain ⟨y145, hy145, h⟩ := bind_eq_some_iff.mp h
   refine zB Ad W (f := fun y145 => (27, [vR 0, vI x1, vI r142.1], [.int y145], (H0 r142.2))) rfl hy145 ?_
   obtain rfl := Option.some.inj h
   exact QTri.retI rfl rfl
  ·refine zF Ad W (t := 21) (f := 19) rfl (XT.ii_lt_f hc144) ?_
   refine zS Ad W 1 (st' := (20, [vR 0, vI x1, vI r142.1], [.int (0:Int32)], (H0 r142.2))) rfl ?_
   obtain rfl := Option.some.inj h
   exact QTri.retI rfl rfl
def H0x13 (o0 : Ob) (a0_17 : Int32) : QHeap := H0v (f_data o0) (f_filled o0) (f_rf o0) (f_cf o0) (f_vf o0) (f_ag o0) (f_fMode o0) (f_fRk o0) (f_fCk o0) (f_prevVal o0) (f_prevFound o0) (f_keys o0) (f_nRows o0) (f_nForms o0) (f_last o0) (f_gVal o0) (f_gCount o0) a0_17 (f_selRk o0) (f_selUseC o0) (f_selCk o0)
def H0x14 (o0 : Ob) (a0_18 : Int32) : QHeap := H0v (f_data o0) (f_filled o0) (f_rf o0) (f_cf o0) (f_vf o0) (f_ag o0) (f_fMode o0) (f_fRk o0) (f_fCk o0) (f_prevVal o0) (f_prevFound o0) (f_keys o0) (f_nRows o0) (f_nForms o0) (f_last o0) (f_gVal o0) (f_gCount o0) (f_selUseR o0) a0_18 (f_selUseC o0) (f_selCk o0)
def H0x15 (o0 : Ob) (a0_18 : Int32) (a0_19 : Int32) : QHeap := H0v (f_data o0) (f_filled o0) (f_rf o0) (f_cf o0) (f_vf o0) (f_ag o0) (f_fMode o0) (f_fRk o0) (f_fCk o0) (f_prevVal o0) (f_prevFound o0) (f_keys o0) (f_nRows o0) (f_nForms o0) (f_last o0) (f_gVal o0) (f_gCount o0) (f_selUseR o0) a0_18 a0_19 (f_selCk o0)
def H0x16 (o0 : Ob) (a0_20 : Int32) : QHeap := H0v (f_data o0) (f_filled o0) (f_rf o0) (f_cf o0) (f_vf o0) (f_ag o0) (f_fMode o0) (f_fRk o0) (f_fCk o0) (f_prevVal o0) (f_prevFound o0) (f_keys o0) (f_nRows o0) (f_nForms o0) (f_last o0) (f_gVal o0) (f_gCount o0) (f_selUseR o0) (f_selRk o0) (f_selUseC o0) a0_20
def J13_125 (o : Ob) (w0 : Int32) : Option (Int32 × Ob) :=
  some ((1 : Int32), (s_selCk o w0))
theorem tJ13_125 (Ad : QAd n0 ad) (W : QW Z a0) (o : Ob) (w0 : Int32) {r : Int32 × Ob} (h : J13_125 o w0 = some r) : QTri l Z n0 ad 13 (125, [none, none, none, none, none], [.int w0, .ref 0], (H0 o)) (some (Value.int r.1)) (H0 r.2) := by
 unfold J13_125 at h
 refine zS Ad W 1 (st' := (128, [none, none, none, none, none], [], (H0x16 o w0))) rfl ?_
 refine zS Ad W 1 (st' := (129, [none, none, none, none, none], [.int (1:Int32)], (H0x16 o w0))) rfl ?_
 have E166 : ((H0x16 o w0) : QHeap) = (H0 (s_selCk o w0)) := by simp only [fs, H0, H0v, H0x16, s_selCk]
 rw [E166]
 obtain rfl := Option.some.inj h
 exact QTri.retZ rfl rfl
def J13_87 (o : Ob) (x2 : Int32) (w0 : Int32) : Option (Int32 × Ob) :=
  (qboo (if x2 = (-1 : Int32) then (0 : Int32) else (1 : Int32))).bind fun y163 => (if y163 = (0 : Int32) then (J13_125 (s_selUseC (s_selRk o w0) y163) (0 : Int32)) else (aget (f_keys o) ((32 : Int32) + x2)).bind fun y167 => (J13_125 (s_selUseC (s_selRk o w0) y163) y167))
theorem tJ13_87 (Ad : QAd n0 ad) (W : QW Z a0) (o : Ob) (x2 : Int32) (w0 : Int32) {r : Int32 × Ob} (h : J13_87 o x2 w0 = some r) : QTri l Z n0 ad 13 (87, [vR 0, none, vI x2, none, none], [.int w0, .ref 0], (H0 o)) (some (Value.int r.1)) (H0 r.2) := by
 unfold J13_87 at h
 refine zS Ad W 1 (st' := (90, [vR 0, none, vI x2, none, none], [], (H0x14 o w0))) rfl ?_
 refine zS Ad W 3 (st' := (93, [vR 0, none, vI x2, none, none], [.int (-1:Int32), .int x2, .ref 0], (H0x14 o w0))) rfl ?_
 have K161 : ∀ z160 : Int32, z160 = (if x2 = (-1:Int32) then (0:Int32) else (1:Int32)) → QTri l Z n0 ad 13 (101, [vR 0, none, vI x2, none, none], [.int z160, .ref 0], (H0x14 o w0)) (some (Value.int r.1)) (H0 r.2) := by
  intro z160 ez160
  subst ez160
  obtain ⟨y163, hy163, h⟩ := bind_eq_some_iff.mp h
  refine QTri.bndB Ad W rfl hy163 ?_
  show QTri l Z n0 ad 13 (104, [vR 0, none, vI x2, none, none], [], (H0x15 o w0 y163)) (some (Value.int r.1)) (H0 r.2)
  refine zS Ad W 3 (st' := (109, [vR 0, none, vI x2, none, none], [.int y163, .ref 0], (H0x15 o w0 y163))) rfl ?_
  rcases qite h with ⟨hc164, h⟩ | ⟨hc164, h⟩
  ·refine zT Ad W (t := 124) (f := 112) rfl (XT.i0_eq_t hc164) ?_
   refine zS Ad W 1 (st' := (125, [vR 0, none, vI x2, none, none], [.int (0:Int32), .ref 0], (H0x15 o w0 y163))) rfl ?_
   have E165 : ((H0x15 o w0 y163) : QHeap) = (H0 (s_selUseC (s_selRk o w0) y163)) := by simp only [fs, H0, H0v, H0x15, s_selRk, s_selUseC]
   rw [E165]
   exact zM [ff,ff,ff,ff,ff] (tJ13_125 Ad W (s_selUseC (s_selRk o w0) y163) (0:Int32) h)
  ·refine zF Ad W (t := 124) (f := 112) rfl (XT.i0_eq_f hc164) ?_
   refine zS Ad W 5 (st' := (120, [vR 0, none, vI x2, none, none], [.int ((32:Int32) + x2), .ref 8, .ref 0], (H0x15 o w0 y163))) rfl ?_
   obtain ⟨y167, hy167, h⟩ := bind_eq_some_iff.mp h
   refine zB Ad W (f := fun y167 => (121, [vR 0, none, vI x2, none, none], [.int y167, .ref 0], (H0x15 o w0 y163))) rfl hy167 ?_
   refine zS Ad W 1 (st' := (125, [vR 0, none, vI x2, none, none], [.int y167, .ref 0], (H0x15 o w0 y163))) rfl ?_
   have E168 : ((H0x15 o w0 y163) : QHeap) = (H0 (s_selUseC (s_selRk o w0) y163)) := by simp only [fs, H0, H0v, H0x15, s_selRk, s_selUseC]
   rw [E168]
   exact zM [ff,ff,ff,ff,ff] (tJ13_125 Ad W (s_selUseC (s_selRk o w0) y163) y167 h)
 rcases em (x2 = (-1:Int32)) with hc162 | hc162
 ·refine zT Ad W (t := 100) (f := 96) rfl (XT.ii_eq_t hc162) ?_
  refine zS Ad W 1 (st' := (101, [vR 0, none, vI x2, none, none], [.int (0:Int32), .ref 0], (H0x14 o w0))) rfl ?_
  exact zM [tt,ff,tt,ff,ff] (K161 _ (if_pos hc162).symm)
 ·refine zF Ad W (t := 100) (f := 96) rfl (XT.ii_eq_f hc162) ?_
  refine zS Ad W 2 (st' := (101, [vR 0, none, vI x2, none, none], [.int (1:Int32), .ref 0], (H0x14 o w0))) rfl ?_
  exact zM [tt,ff,tt,ff,ff] (K161 _ (if_neg hc162).symm)
def J13_55 (o : Ob) (x1 : Int32) (x2 : Int32) : Option (Int32 × Ob) :=
  (qboo (if x1 = (-1 : Int32) then (0 : Int32) else (1 : Int32))).bind fun y157 => (if y157 = (0 : Int32) then (J13_87 (s_selUseR o y157) x2 (0 : Int32)) else (aget (f_keys o) x1).bind fun y169 => (J13_87 (s_selUseR o y157) x2 y169))
theorem tJ13_55 (Ad : QAd n0 ad) (W : QW Z a0) (o : Ob) (x1 : Int32) (x2 : Int32) {r : Int32 × Ob} (h : J13_55 o x1 x2 = some r) : QTri l Z n0 ad 13 (55, [vR 0, vI x1, vI x2, none, none], [], (H0 o)) (some (Value.int r.1)) (H0 r.2) := by
 unfold J13_55 at h
 refine zS Ad W 3 (st' := (58, [vR 0, vI x1, vI x2, none, none], [.int (-1:Int32), .int x1, .ref 0], (H0 o))) rfl ?_
 have K155 : ∀ z154 : Int32, z154 = (if x1 = (-1:Int32) then (0:Int32) else (1:Int32)) → QTri l Z n0 ad 13 (66, [vR 0, vI x1, vI x2, none, none], [.int z154, .ref 0], (H0 o)) (some (Value.int r.1)) (H0 r.2) := by
  intro z154 ez154
  subst ez154
  obtain ⟨y157, hy157, h⟩ := bind_eq_some_iff.mp h
  refine QTri.bndB Ad W rfl hy157 ?_
  show QTri l Z n0 ad 13 (69, [vR 0, vI x1, vI x2, none, none], [], (H0x13 o y157)) (some (Value.int r.1)) (H0 r.2)
  refine zS Ad W 3 (st' := (74, [vR 0, vI x1, vI x2, none, none], [.int y157, .ref 0], (H0x13 o y157))) rfl ?_
  rcases qite h with ⟨hc158, h⟩ | ⟨hc158, h⟩
  ·refine zT Ad W (t := 86) (f := 77) rfl (XT.i0_eq_t hc158) ?_
   refine zS Ad W 1 (st' := (87, [vR 0, vI x1, vI x2, none, none], [.int (0:Int32), .ref 0], (H0x13 o y157))) rfl ?_
   have E159 : ((H0x13 o y157) : QHeap) = (H0 (s_selUseR o y157)) := by simp only [fs, H0, H0v, H0x13, s_selUseR]
   rw [E159]
   exact zM [tt,ff,tt,ff,ff] (tJ13_87 Ad W (s_selUseR o y157) x2 (0:Int32) h)
  ·refine zF Ad W (t := 86) (f := 77) rfl (XT.i0_eq_f hc158) ?_
   refine zS Ad W 3 (st' := (82, [vR 0, vI x1, vI x2, none, none], [.int x1, .ref 8, .ref 0], (H0x13 o y157))) rfl ?_
   obtain ⟨y169, hy169, h⟩ := bind_eq_some_iff.mp h
   refine zB Ad W (f := fun y169 => (83, [vR 0, vI x1, vI x2, none, none], [.int y169, .ref 0], (H0x13 o y157))) rfl hy169 ?_
   refine zS Ad W 1 (st' := (87, [vR 0, vI x1, vI x2, none, none], [.int y169, .ref 0], (H0x13 o y157))) rfl ?_
   have E170 : ((H0x13 o y157) : QHeap) = (H0 (s_selUseR o y157)) := by simp only [fs, H0, H0v, H0x13, s_selUseR]
   rw [E170]
   exact zM [tt,ff,tt,ff,ff] (tJ13_87 Ad W (s_selUseR o y157) x2 y169 h)
 rcases em (x1 = (-1:Int32)) with hc156 | hc156
 ·refine zT Ad W (t := 65) (f := 61) rfl (XT.ii_eq_t hc156) ?_
  refine zS Ad W 1 (st' := (66, [vR 0, vI x1, vI x2, none, none], [.int (0:Int32), .ref 0], (H0 o))) rfl ?_
  exact zM [tt,tt,tt,ff,ff] (K155 _ (if_pos hc156).symm)
 ·refine zF Ad W (t := 65) (f := 61) rfl (XT.ii_eq_f hc156) ?_
  refine zS Ad W 2 (st' := (66, [vR 0, vI x1, vI x2, none, none], [.int (1:Int32), .ref 0], (H0 o))) rfl ?_
  exact zM [tt,tt,tt,ff,ff] (K155 _ (if_neg hc156).symm)
def J13_38 (o : Ob) (x1 : Int32) (x2 : Int32) (x4 : Int32) : Option (Int32 × Ob) :=
  (if x2 = (-1 : Int32) then (J13_55 o x1 x2) else (if x2 < (0 : Int32) then some ((0 : Int32), o) else (if x2 < x4 then (J13_55 o x1 x2) else some ((0 : Int32), o))))
theorem tJ13_38 (Ad : QAd n0 ad) (W : QW Z a0) (o : Ob) (x1 : Int32) (x2 : Int32) (x4 : Int32) {r : Int32 × Ob} (h : J13_38 o x1 x2 x4 = some r) : QTri l Z n0 ad 13 (38, [vR 0, vI x1, vI x2, none, vI x4], [], (H0 o)) (some (Value.int r.1)) (H0 r.2) := by
 unfold J13_38 at h
 refine zS Ad W 2 (st' := (40, [vR 0, vI x1, vI x2, none, vI x4], [.int (-1:Int32), .int x2], (H0 o))) rfl ?_
 rcases qite h with ⟨hc153, h⟩ | ⟨hc153, h⟩
 ·refine zT Ad W (t := 55) (f := 43) rfl (XT.ii_eq_t hc153) ?_
  exact zM [tt,tt,tt,ff,ff] (tJ13_55 Ad W o x1 x2 h)
 ·refine zF Ad W (t := 55) (f := 43) rfl (XT.ii_eq_f hc153) ?_
  refine zS Ad W 1 (st' := (44, [vR 0, vI x1, vI x2, none, vI x4], [.int x2], (H0 o))) rfl ?_
  rcases qite h with ⟨hc171, h⟩ | ⟨hc171, h⟩
  ·refine zT Ad W (t := 53) (f := 47) rfl (XT.i0_lt_t hc171) ?_
   refine zS Ad W 1 (st' := (54, [vR 0, vI x1, vI x2, none, vI x4], [.int (0:Int32)], (H0 o))) rfl ?_
   obtain rfl := Option.some.inj h
   exact QTri.retZ rfl rfl
  ·refine zF Ad W (t := 53) (f := 47) rfl (XT.i0_lt_f hc171) ?_
   refine zS Ad W 2 (st' := (50, [vR 0, vI x1, vI x2, none, vI x4], [.int x4, .int x2], (H0 o))) rfl ?_
   rcases qite h with ⟨hc172, h⟩ | ⟨hc172, h⟩
   ·refine zT Ad W (t := 55) (f := 53) rfl (XT.ii_lt_t hc172) ?_
    exact zM [tt,tt,tt,ff,ff] (tJ13_55 Ad W o x1 x2 h)
   ·refine zF Ad W (t := 55) (f := 53) rfl (XT.ii_lt_f hc172) ?_
    refine zS Ad W 1 (st' := (54, [vR 0, vI x1, vI x2, none, vI x4], [.int (0:Int32)], (H0 o))) rfl ?_
    obtain rfl := Option.some.inj h
    exact QTri.retZ rfl rfl
/-- resolve(II)Z -/
def F13 (o : Ob) (x1 : Int32) (x2 : Int32) : Option (Int32 × Ob) :=
 (F8 o (f_rf o) (0:Int32)).bind fun r150 => (F8 r150.2 (f_cf r150.2) (32:Int32)).bind fun r151 => (if x1 = (-1:Int32) then (J13_38 r151.2 x1 x2 r151.1) else (if x1 < (0:Int32) then some ((0:Int32), r151.2) else (if x1 < r150.1 then (J13_38 r151.2 x1 x2 r151.1) else some ((0:Int32), r151.2))))
theorem tF13 (Ad : QAd n0 ad) (W : QW Z a0) (o : Ob) (x1 : Int32) (x2 : Int32) {r : Int32 × Ob} (h : F13 o x1 x2 = some r) : QTri l Z n0 ad 13 (0, qentry [.ref 0, .int x1, .int x2] (pMaxL 13), [], (H0 o)) (some (Value.int r.1)) (H0 r.2) := by
 unfold F13 at h
 refine zS Ad W 4 (st' := (6, [vR 0, vI x1, vI x2, none, none], [.int (0:Int32), .int (f_rf o), .ref 0], (H0 o))) rfl ?_
 obtain ⟨r150, hr150, h⟩ := bind_eq_some_iff.mp h
 refine QTri.callP W (a := 0) (as := [.int (f_rf o), .int (0:Int32)]) (rest := []) (w := (some (.int r150.1))) (σ₁ := (H0 r150.2)) rfl rfl rfl rfl rfl rfl rfl rfl (tF8 Ad W o (f_rf o) (0:Int32) hr150) ?_
 refine zS Ad W 5 (st' := (17, [vR 0, vI x1, vI x2, vI r150.1, none], [.int (32:Int32), .int (f_cf r150.2), .ref 0], (H0 r150.2))) rfl ?_
 obtain ⟨r151, hr151, h⟩ := bind_eq_some_iff.mp h
 refine QTri.callP W (a := 0) (as := [.int (f_cf r150.2), .int (32:Int32)]) (rest := []) (w := (some (.int r151.1))) (σ₁ := (H0 r151.2)) rfl rfl rfl rfl rfl rfl rfl rfl (tF8 Ad W r150.2 (f_cf r150.2) (32:Int32) hr151) ?_
 refine zS Ad W 3 (st' := (24, [vR 0, vI x1, vI x2, vI r150.1, vI r151.1], [.int (-1:Int32), .int x1], (H0 r151.2))) rfl ?_
 rcases qite h with ⟨hc152, h⟩ | ⟨hc152, h⟩
 ·refine zT Ad W (t := 38) (f := 27) rfl (XT.ii_eq_t hc152) ?_
  exact zM [tt,tt,tt,ff,tt] (tJ13_38 Ad W r151.2 x1 x2 r151.1 h)
 ·refine zF Ad W (t := 38) (f := 27) rfl (XT.ii_eq_f hc152) ?_
  refine zS Ad W 1 (st' := (28, [vR 0, vI x1, vI x2, vI r150.1, vI r151.1], [.int x1], (H0 r151.2))) rfl ?_
  rcases qite h with ⟨hc173, h⟩ | ⟨hc173, h⟩
  ·refine zT Ad W (t := 36) (f := 31) rfl (XT.i0_lt_t hc173) ?_
   refine zS Ad W 1 (st' := (37, [vR 0, vI x1, vI x2, vI r150.1, vI r151.1], [.int (0:Int32)], (H0 r151.2))) rfl ?_
   obtain rfl := Option.some.inj h
   exact QTri.retZ rfl rfl
  ·refine zF Ad W (t := 36) (f := 31) rfl (XT.i0_lt_f hc173) ?_
   refine zS Ad W 2 (st' := (33, [vR 0, vI x1, vI x2, vI r150.1, vI r151.1], [.int r150.1, .int x1], (H0 r151.2))) rfl ?_
   rcases qite h with ⟨hc174, h⟩ | ⟨hc174, h⟩
   ·refine zT Ad W (t := 38) (f := 36) rfl (XT.ii_lt_t hc174) ?_
    exact zM [tt,tt,tt,ff,tt] (tJ13_38 Ad W r151.2 x1 x2 r151.1 h)
   ·refine zF Ad W (t := 38) (f := 36) rfl (XT.ii_lt_f hc174) ?_
    refine zS Ad W 1 (st' := (37, [vR 0, vI x1, vI x2, vI r150.1, vI r151.1], [.int (0:Int32)], (H0 r151.2))) rfl ?_
    obtain rfl := Option.some.inj h
    exact QTri.retZ rfl rfl
/-- value(II)I -/
def F12 (o : Ob) (x1 : Int32) (x2 : Int32) : Option (Int32 × Ob) :=
 (F13 o x1 x2).bind fun r175 => (if r175.1 = (0:Int32) then some ((0:Int32), r175.2) else (F14 r175.2 (f_selUseR r175.2) (f_selRk r175.2) (f_selUseC r175.2) (f_selCk r175.2)).bind fun r177 => some ((f_gVal r177), r177))
theorem tF12 (Ad : QAd n0 ad) (W : QW Z a0) (o : Ob) (x1 : Int32) (x2 : Int32) {r : Int32 × Ob} (h : F12 o x1 x2 = some r) : QTri l Z n0 ad 12 (0, qentry [.ref 0, .int x1, .int x2] (pMaxL 12), [], (H0 o)) (some (Value.int r.1)) (H0 r.2) := by
 unfold F12 at h
 refine zS Ad W 3 (st' := (3, [vR 0, vI x1, vI x2], [.int x2, .int x1, .ref 0], (H0 o))) rfl ?_
 obtain ⟨r175, hr175, h⟩ := bind_eq_some_iff.mp h
 refine QTri.callP W (a := 0) (as := [.int x1, .int x2]) (rest := []) (w := (some (.int r175.1))) (σ₁ := (H0 r175.2)) rfl rfl rfl rfl rfl rfl rfl rfl (tF13 Ad W o x1 x2 hr175) ?_
 rcases qite h with ⟨hc176, h⟩ | ⟨hc176, h⟩
 ·refine zF Ad W (t := 11) (f := 9) rfl (XT.i0_ne_f hc176) ?_
  refine zS Ad W 1 (st' := (10, [vR 0, vI x1, vI x2], [.int (0:Int32)], (H0 r175.2))) rfl ?_
  obtain rfl := Option.some.inj h
  exact QTri.retI rfl rfl
 ·refine zT Ad W (t := 11) (f := 9) rfl (XT.i0_ne_t hc176) ?_
  refine zS Ad W 9 (st' := (28, [vR 0, vI x1, vI x2], [.int (f_selCk r175.2), .int (f_selUseC r175.2), .int (f_selRk r175.2), .int (f_selUseR r175.2), .ref 0], (H0 r175.2))) rfl ?_
  obtain ⟨r177, hr177, h⟩ := bind_eq_some_iff.mp h
  refine QTri.callP W (a := 0) (as := [.int (f_selUseR r175.2), .int (f_selRk r175.2), .int (f_selUseC r175.2), .int (f_selCk r175.2)]) (rest := []) (w := none) (σ₁ := (H0 r177)) rfl rfl rfl rfl rfl rfl rfl rfl (tF14 Ad W r175.2 (f_selUseR r175.2) (f_selRk r175.2) (f_selUseC r175.2) (f_selCk r175.2) hr177) ?_
  refine zS Ad W 2 (st' := (35, [vR 0, vI x1, vI x2], [.int (f_gVal r177)], (H0 r177))) rfl ?_
  obtain rfl := Option.some.inj h
  exact QTri.retI rfl rfl
/-- groupCount(II)I -/
def F16 (o : Ob) (x1 : Int32) (x2 : Int32) : Option (Int32 × Ob) :=
 (F13 o x1 x2).bind fun r180 => (if r180.1 = (0:Int32) then some ((0:Int32), r180.2) else (F14 r180.2 (f_selUseR r180.2) (f_selRk r180.2) (f_selUseC r180.2) (f_selCk r180.2)).bind fun r182 => some ((f_gCount r182), r182))
theorem tF16 (Ad : QAd n0 ad) (W : QW Z a0) (o : Ob) (x1 : Int32) (x2 : Int32) {r : Int32 × Ob} (h : F16 o x1 x2 = some r) : QTri l Z n0 ad 16 (0, qentry [.ref 0, .int x1, .int x2] (pMaxL 16), [], (H0 o)) (some (Value.int r.1)) (H0 r.2) := by
 unfold F16 at h
 refine zS Ad W 3 (st' := (3, [vR 0, vI x1, vI x2], [.int x2, .int x1, .ref 0], (H0 o))) rfl ?_
 obtain ⟨r180, hr180, h⟩ := bind_eq_some_iff.mp h
 refine QTri.callP W (a := 0) (as := [.int x1, .int x2]) (rest := []) (w := (some (.int r180.1))) (σ₁ := (H0 r180.2)) rfl rfl rfl rfl rfl rfl rfl rfl (tF13 Ad W o x1 x2 hr180) ?_
 rcases qite h with ⟨hc181, h⟩ | ⟨hc181, h⟩
 ·refine zF Ad W (t := 11) (f := 9) rfl (XT.i0_ne_f hc181) ?_
  refine zS Ad W 1 (st' := (10, [vR 0, vI x1, vI x2], [.int (0:Int32)], (H0 r180.2))) rfl ?_
  obtain rfl := Option.some.inj h
  exact QTri.retI rfl rfl
 ·refine zT Ad W (t := 11) (f := 9) rfl (XT.i0_ne_t hc181) ?_
  refine zS Ad W 9 (st' := (28, [vR 0, vI x1, vI x2], [.int (f_selCk r180.2), .int (f_selUseC r180.2), .int (f_selRk r180.2), .int (f_selUseR r180.2), .ref 0], (H0 r180.2))) rfl ?_
  obtain ⟨r182, hr182, h⟩ := bind_eq_some_iff.mp h
  refine QTri.callP W (a := 0) (as := [.int (f_selUseR r180.2), .int (f_selRk r180.2), .int (f_selUseC r180.2), .int (f_selCk r180.2)]) (rest := []) (w := none) (σ₁ := (H0 r182)) rfl rfl rfl rfl rfl rfl rfl rfl (tF14 Ad W r180.2 (f_selUseR r180.2) (f_selRk r180.2) (f_selUseC r180.2) (f_selCk r180.2) hr182) ?_
  refine zS Ad W 2 (st' := (35, [vR 0, vI x1, vI x2], [.int (f_gCount r182)], (H0 r182))) rfl ?_
  obtain rfl := Option.some.inj h
  exact QTri.retI rfl rfl
/-- validSlot(I)Z -/
def F18 (o : Ob) (x1 : Int32) : Option (Int32) :=
 (if x1 < (0:Int32) then some (0:Int32) else (if x1 < (f_nForms o) then some (1:Int32) else some (0:Int32)))
theorem tF18 (Ad : QAd n0 ad) (W : QW Z a0) (o : Ob) (x1 : Int32) {r : Int32} (h : F18 o x1 = some r) : QTri l Z n0 ad 18 (0, qentry [.ref 0, .int x1] (pMaxL 18), [], (H0 o)) (some (Value.int r)) (H0 o) := by
 unfold F18 at h
 refine zS Ad W 1 (st' := (1, [vR 0, vI x1], [.int x1], (H0 o))) rfl ?_
 rcases qite h with ⟨hc201, h⟩ | ⟨hc201, h⟩
 ·refine zT Ad W (t := 16) (f := 4) rfl (XT.i0_lt_t hc201) ?_
  refine zS Ad W 1 (st' := (17, [vR 0, vI x1], [.int (0:Int32)], (H0 o))) rfl ?_
  obtain rfl := Option.some.inj h
  exact QTri.retZ rfl rfl
 ·refine zF Ad W (t := 16) (f := 4) rfl (XT.i0_lt_f hc201) ?_
  refine zS Ad W 3 (st' := (9, [vR 0, vI x1], [.int (f_nForms o), .int x1], (H0 o))) rfl ?_
  rcases qite h with ⟨hc202, h⟩ | ⟨hc202, h⟩
  ·refine zF Ad W (t := 16) (f := 12) rfl (XT.ii_ge_f hc202) ?_
   refine zS Ad W 2 (st' := (17, [vR 0, vI x1], [.int (1:Int32)], (H0 o))) rfl ?_
   obtain rfl := Option.some.inj h
   exact QTri.retZ rfl rfl
  ·refine zT Ad W (t := 16) (f := 12) rfl (XT.ii_ge_t hc202) ?_
   refine zS Ad W 1 (st' := (17, [vR 0, vI x1], [.int (0:Int32)], (H0 o))) rfl ?_
   obtain rfl := Option.some.inj h
   exact QTri.retZ rfl rfl
def H0x17 (o0 : Ob) (a0_6 : List Int32) : QHeap := H0v (f_data o0) (f_filled o0) (f_rf o0) (f_cf o0) (f_vf o0) (f_ag o0) a0_6 (f_fRk o0) (f_fCk o0) (f_prevVal o0) (f_prevFound o0) (f_keys o0) (f_nRows o0) (f_nForms o0) (f_last o0) (f_gVal o0) (f_gCount o0) (f_selUseR o0) (f_selRk o0) (f_selUseC o0) (f_selCk o0)
def H0x18 (o0 : Ob) (a0_6 : List Int32) (a0_7 : List Int32) : QHeap := H0v (f_data o0) (f_filled o0) (f_rf o0) (f_cf o0) (f_vf o0) (f_ag o0) a0_6 a0_7 (f_fCk o0) (f_prevVal o0) (f_prevFound o0) (f_keys o0) (f_nRows o0) (f_nForms o0) (f_last o0) (f_gVal o0) (f_gCount o0) (f_selUseR o0) (f_selRk o0) (f_selUseC o0) (f_selCk o0)
def H0x19 (o0 : Ob) (a0_6 : List Int32) (a0_7 : List Int32) (a0_8 : List Int32) : QHeap := H0v (f_data o0) (f_filled o0) (f_rf o0) (f_cf o0) (f_vf o0) (f_ag o0) a0_6 a0_7 a0_8 (f_prevVal o0) (f_prevFound o0) (f_keys o0) (f_nRows o0) (f_nForms o0) (f_last o0) (f_gVal o0) (f_gCount o0) (f_selUseR o0) (f_selRk o0) (f_selUseC o0) (f_selCk o0)
/-- setFormula(IIII)Z -/
def F17 (o : Ob) (x1 : Int32) (x2 : Int32) (x3 : Int32) (x4 : Int32) : Option (Int32 × Ob) :=
 (F18 o x1).bind fun r203 => (if r203 = (0:Int32) then some ((0:Int32), o) else (if x2 < (0:Int32) then some ((0:Int32), o) else (if (4:Int32) < x2 then some ((0:Int32), o) else (aset (f_fMode o) x1 x2).bind fun y207 => (aset (f_fRk o) x1 x3).bind fun y208 => (aset (f_fCk o) x1 x4).bind fun y209 => some ((1:Int32), (s_fCk (s_fRk (s_fMode o y207) y208) y209)))))
theorem tF17 (Ad : QAd n0 ad) (W : QW Z a0) (o : Ob) (x1 : Int32) (x2 : Int32) (x3 : Int32) (x4 : Int32) {r : Int32 × Ob} (h : F17 o x1 x2 x3 x4 = some r) : QTri l Z n0 ad 17 (0, qentry [.ref 0, .int x1, .int x2, .int x3, .int x4] (pMaxL 17), [], (H0 o)) (some (Value.int r.1)) (H0 r.2) := by
 unfold F17 at h
 refine zS Ad W 2 (st' := (2, [vR 0, vI x1, vI x2, vI x3, vI x4], [.int x1, .ref 0], (H0 o))) rfl ?_
 obtain ⟨r203, hr203, h⟩ := bind_eq_some_iff.mp h
 refine QTri.callP W (a := 0) (as := [.int x1]) (rest := []) (w := (some (.int r203))) (σ₁ := (H0 o)) rfl rfl rfl rfl rfl rfl rfl rfl (tF18 Ad W o x1 hr203) ?_
 rcases qite h with ⟨hc204, h⟩ | ⟨hc204, h⟩
 ·refine zF Ad W (t := 10) (f := 8) rfl (XT.i0_ne_f hc204) ?_
  refine zS Ad W 1 (st' := (9, [vR 0, vI x1, vI x2, vI x3, vI x4], [.int (0:Int32)], (H0 o))) rfl ?_
  obtain rfl := Option.some.inj h
  exact QTri.retZ rfl rfl
 ·refine zT Ad W (t := 10) (f := 8) rfl (XT.i0_ne_t hc204) ?_
  refine zS Ad W 1 (st' := (11, [vR 0, vI x1, vI x2, vI x3, vI x4], [.int x2], (H0 o))) rfl ?_
  rcases qite h with ⟨hc205, h⟩ | ⟨hc205, h⟩
  ·refine zT Ad W (t := 19) (f := 14) rfl (XT.i0_lt_t hc205) ?_
   refine zS Ad W 1 (st' := (20, [vR 0, vI x1, vI x2, vI x3, vI x4], [.int (0:Int32)], (H0 o))) rfl ?_
   obtain rfl := Option.some.inj h
   exact QTri.retZ rfl rfl
  ·refine zF Ad W (t := 19) (f := 14) rfl (XT.i0_lt_f hc205) ?_
   refine zS Ad W 2 (st' := (16, [vR 0, vI x1, vI x2, vI x3, vI x4], [.int (4:Int32), .int x2], (H0 o))) rfl ?_
   rcases qite h with ⟨hc206, h⟩ | ⟨hc206, h⟩
   ·refine zF Ad W (t := 21) (f := 19) rfl (XT.ii_le_f hc206) ?_
    refine zS Ad W 1 (st' := (20, [vR 0, vI x1, vI x2, vI x3, vI x4], [.int (0:Int32)], (H0 o))) rfl ?_
    obtain rfl := Option.some.inj h
    exact QTri.retZ rfl rfl
   ·refine zT Ad W (t := 21) (f := 19) rfl (XT.ii_le_t hc206) ?_
    refine zS Ad W 4 (st' := (27, [vR 0, vI x1, vI x2, vI x3, vI x4], [.int x2, .int x1, .ref 3], (H0 o))) rfl ?_
    obtain ⟨y207, hy207, h⟩ := bind_eq_some_iff.mp h
    refine zB Ad W (f := fun y207 => (28, [vR 0, vI x1, vI x2, vI x3, vI x4], [], (H0x17 o y207))) rfl hy207 ?_
    refine zS Ad W 4 (st' := (34, [vR 0, vI x1, vI x2, vI x3, vI x4], [.int x3, .int x1, .ref 4], (H0x17 o y207))) rfl ?_
    obtain ⟨y208, hy208, h⟩ := bind_eq_some_iff.mp h
    refine zB Ad W (f := fun y208 => (35, [vR 0, vI x1, vI x2, vI x3, vI x4], [], (H0x18 o y207 y208))) rfl hy208 ?_
    refine zS Ad W 4 (st' := (42, [vR 0, vI x1, vI x2, vI x3, vI x4], [.int x4, .int x1, .ref 5], (H0x18 o y207 y208))) rfl ?_
    obtain ⟨y209, hy209, h⟩ := bind_eq_some_iff.mp h
    refine zB Ad W (f := fun y209 => (43, [vR 0, vI x1, vI x2, vI x3, vI x4], [], (H0x19 o y207 y208 y209))) rfl hy209 ?_
    refine zS Ad W 1 (st' := (44, [vR 0, vI x1, vI x2, vI x3, vI x4], [.int (1:Int32)], (H0x19 o y207 y208 y209))) rfl ?_
    have E210 : ((H0x19 o y207 y208 y209) : QHeap) = (H0 (s_fCk (s_fRk (s_fMode o y207) y208) y209)) := by simp only [fs, H0, H0v, H0x19, s_fMode, s_fRk, s_fCk]
    rw [E210]
    obtain rfl := Option.some.inj h
    exact QTri.retZ rfl rfl
/-- formulaValue(I)I -/
def F19 (o : Ob) (x1 : Int32) : Option (Int32 × Ob) :=
 (F18 o x1).bind fun r213 => (if r213 = (0:Int32) then some ((0:Int32), o) else (F5 o x1).bind fun r215 => some ((f_gVal r215), r215))
theorem tF19 (Ad : QAd n0 ad) (W : QW Z a0) (o : Ob) (x1 : Int32) {r : Int32 × Ob} (h : F19 o x1 = some r) : QTri l Z n0 ad 19 (0, qentry [.ref 0, .int x1] (pMaxL 19), [], (H0 o)) (some (Value.int r.1)) (H0 r.2) := by
 unfold F19 at h
 refine zS Ad W 2 (st' := (2, [vR 0, vI x1], [.int x1, .ref 0], (H0 o))) rfl ?_
 obtain ⟨r213, hr213, h⟩ := bind_eq_some_iff.mp h
 refine QTri.callP W (a := 0) (as := [.int x1]) (rest := []) (w := (some (.int r213))) (σ₁ := (H0 o)) rfl rfl rfl rfl rfl rfl rfl rfl (tF18 Ad W o x1 hr213) ?_
 rcases qite h with ⟨hc214, h⟩ | ⟨hc214, h⟩
 ·refine zF Ad W (t := 10) (f := 8) rfl (XT.i0_ne_f hc214) ?_
  refine zS Ad W 1 (st' := (9, [vR 0, vI x1], [.int (0:Int32)], (H0 o))) rfl ?_
  obtain rfl := Option.some.inj h
  exact QTri.retI rfl rfl
 ·refine zT Ad W (t := 10) (f := 8) rfl (XT.i0_ne_t hc214) ?_
  refine zS Ad W 2 (st' := (12, [vR 0, vI x1], [.int x1, .ref 0], (H0 o))) rfl ?_
  obtain ⟨r215, hr215, h⟩ := bind_eq_some_iff.mp h
  refine QTri.callP W (a := 0) (as := [.int x1]) (rest := []) (w := none) (σ₁ := (H0 r215)) rfl rfl rfl rfl rfl rfl rfl rfl (tF5 Ad W o x1 hr215) ?_
  refine zS Ad W 2 (st' := (19, [vR 0, vI x1], [.int (f_gVal r215)], (H0 r215))) rfl ?_
  obtain rfl := Option.some.inj h
  exact QTri.retI rfl rfl
/-- formulaFound(I)Z -/
def F20 (o : Ob) (x1 : Int32) : Option (Int32 × Ob) :=
 (F18 o x1).bind fun r221 => (if r221 = (0:Int32) then some ((0:Int32), o) else (F5 o x1).bind fun r223 => (if (0:Int32) < (f_gCount r223) then some ((1:Int32), r223) else some ((0:Int32), r223)))
theorem tF20 (Ad : QAd n0 ad) (W : QW Z a0) (o : Ob) (x1 : Int32) {r : Int32 × Ob} (h : F20 o x1 = some r) : QTri l Z n0 ad 20 (0, qentry [.ref 0, .int x1] (pMaxL 20), [], (H0 o)) (some (Value.int r.1)) (H0 r.2) := by
 unfold F20 at h
 refine zS Ad W 2 (st' := (2, [vR 0, vI x1], [.int x1, .ref 0], (H0 o))) rfl ?_
 obtain ⟨r221, hr221, h⟩ := bind_eq_some_iff.mp h
 refine QTri.callP W (a := 0) (as := [.int x1]) (rest := []) (w := (some (.int r221))) (σ₁ := (H0 o)) rfl rfl rfl rfl rfl rfl rfl rfl (tF18 Ad W o x1 hr221) ?_
 rcases qite h with ⟨hc222, h⟩ | ⟨hc222, h⟩
 ·refine zF Ad W (t := 10) (f := 8) rfl (XT.i0_ne_f hc222) ?_
  refine zS Ad W 1 (st' := (9, [vR 0, vI x1], [.int (0:Int32)], (H0 o))) rfl ?_
  obtain rfl := Option.some.inj h
  exact QTri.retZ rfl rfl
 ·refine zT Ad W (t := 10) (f := 8) rfl (XT.i0_ne_t hc222) ?_
  refine zS Ad W 2 (st' := (12, [vR 0, vI x1], [.int x1, .ref 0], (H0 o))) rfl ?_
  obtain ⟨r223, hr223, h⟩ := bind_eq_some_iff.mp h
  refine QTri.callP W (a := 0) (as := [.int x1]) (rest := []) (w := none) (σ₁ := (H0 r223)) rfl rfl rfl rfl rfl rfl rfl rfl (tF5 Ad W o x1 hr223) ?_
  refine zS Ad W 2 (st' := (19, [vR 0, vI x1], [.int (f_gCount r223)], (H0 r223))) rfl ?_
  rcases qite h with ⟨hc224, h⟩ | ⟨hc224, h⟩
  ·refine zF Ad W (t := 26) (f := 22) rfl (XT.i0_le_f hc224) ?_
   refine zS Ad W 2 (st' := (27, [vR 0, vI x1], [.int (1:Int32)], (H0 r223))) rfl ?_
   obtain rfl := Option.some.inj h
   exact QTri.retZ rfl rfl
  ·refine zT Ad W (t := 26) (f := 22) rfl (XT.i0_le_t hc224) ?_
   refine zS Ad W 1 (st' := (27, [vR 0, vI x1], [.int (0:Int32)], (H0 r223))) rfl ?_
   obtain rfl := Option.some.inj h
   exact QTri.retZ rfl rfl
/-- the law -/
def F0 (x0 : Int32) (x1 : Int32) (x2 : Int32) (x3 : Int32) (x4 : Int32) : Option (Int32 × QHeap) :=
 (F1 (4:Int32) (2:Int32)).bind fun r14 => (F2 r14 (0:Int32) (0:Int32) x0).bind fun r90 => (F2 r90.2 (0:Int32) (1:Int32) (0:Int32)).bind fun r91 => (F2 r91.2 (0:Int32) (2:Int32) x2).bind fun r92 => (F2 r92.2 (1:Int32) (0:Int32) x1).bind fun r93 => (F2 r93.2 (1:Int32) (1:Int32) (1:Int32)).bind fun r94 => (F2 r94.2 (1:Int32) (2:Int32) x3).bind fun r95 => (F2 r95.2 (2:Int32) (0:Int32) x0).bind fun r96 => (F2 r96.2 (2:Int32) (1:Int32) (1:Int32)).bind fun r97 => (F2 r97.2 (2:Int32) (2:Int32) x4).bind fun r98 => (F7 r98.2).bind fun r137 => (if r137.1 = (if x0 = x1 then (1:Int32) else (2:Int32)) then (F10 r137.2).bind fun r140 => (if r140.1 = (2:Int32) then (F11 r140.2 (0:Int32)).bind fun r146 => (if r146.1 = (if x0 = x1 then x0 else (if x0 < x1 then x0 else x1)) then (F11 r146.2 (1:Int32)).bind fun r148 => (if r148.1 = (if x0 = x1 then (0:Int32) else (if x0 < x1 then x1 else x0)) then (F12 r148.2 (-1:Int32) (-1:Int32)).bind fun r178 => (if r178.1 = ((x2 + x3) + x4) then (F16 r178.2 (-1:Int32) (-1:Int32)).bind fun r183 => (if r183.1 = (3:Int32) then (F12 r183.2 (-1:Int32) (0:Int32)).bind fun r185 => (if r185.1 = x2 then (F12 r185.2 (-1:Int32) (1:Int32)).bind fun r187 => (if r187.1 = (x3 + x4) then (F12 r187.2 (0:Int32) (-1:Int32)).bind fun r189 => (if r189.1 = (if x0 = x1 then ((x2 + x3) + x4) else (if x0 < x1 then (x2 + x4) else x3)) then (F12 r189.2 (0:Int32) (0:Int32)).bind fun r191 => (if r191.1 = (if x0 = x1 then x2 else (if x0 < x1 then x2 else (0:Int32))) then (F12 r191.2 (0:Int32) (1:Int32)).bind fun r193 => (if r193.1 = (if x0 = x1 then (x3 + x4) else (if x0 < x1 then x4 else x3)) then (F12 r193.2 (1:Int32) (-1:Int32)).bind fun r195 => (if r195.1 = (if x0 = x1 then (0:Int32) else (if x0 < x1 then x3 else (x2 + x4))) then (F12 r195.2 (1:Int32) (0:Int32)).bind fun r197 => (if r197.1 = (if x0 = x1 then (0:Int32) else (if x0 < x1 then (0:Int32) else x2)) then (F12 r197.2 (1:Int32) (1:Int32)).bind fun r199 => (if r199.1 = (if x0 = x1 then (0:Int32) else (if x0 < x1 then x3 else x4)) then (F17 r199.2 (0:Int32) (1:Int32) x1 (0:Int32)).bind fun r211 => (F17 r211.2 (1:Int32) (2:Int32) x0 (0:Int32)).bind fun r212 => (F19 r212.2 (0:Int32)).bind fun r216 => (if r216.1 = (if x0 = x1 then x2 else (0:Int32)) then (F20 r216.2 (0:Int32)).bind fun r225 => (if r225.1 = (if x0 = x1 then (1:Int32) else (0:Int32)) then (F19 r225.2 (1:Int32)).bind fun r230 => (if r230.1 = (if x0 = x1 then ((x2 + x3) + x4) else (x2 + x4)) then (F20 r230.2 (1:Int32)).bind fun r235 => some ((r235.1 &&& 1), (H0 r235.2)) else some ((0:Int32), (H0 r230.2))) else some ((0:Int32), (H0 r225.2))) else some ((0:Int32), (H0 r216.2))) else some ((0:Int32), (H0 r199.2))) else some ((0:Int32), (H0 r197.2))) else some ((0:Int32), (H0 r195.2))) else some ((0:Int32), (H0 r193.2))) else some ((0:Int32), (H0 r191.2))) else some ((0:Int32), (H0 r189.2))) else some ((0:Int32), (H0 r187.2))) else some ((0:Int32), (H0 r185.2))) else some ((0:Int32), (H0 r183.2))) else some ((0:Int32), (H0 r178.2))) else some ((0:Int32), (H0 r148.2))) else some ((0:Int32), (H0 r146.2))) else some ((0:Int32), (H0 r140.2))) else some ((0:Int32), (H0 r137.2)))
theorem tF0 (Ad : QAd n0 ad) (W : QW Z a0) (x0 : Int32) (x1 : Int32) (x2 : Int32) (x3 : Int32) (x4 : Int32) {r : Int32 × QHeap} (h : F0 x0 x1 x2 x3 x4 = some r) : QTri l Z n0 ad 0 (0, qentry [.int x0, .int x1, .int x2, .int x3, .int x4] (pMaxL 0), [], []) (some (Value.int r.1)) r.2 := by
 unfold F0 at h
 refine zS Ad W 1 (st' := (3, [vI x0, vI x1, vI x2, vI x3, vI x4, none, none, none, none, none, none, none, none, none, none], [.ref 0], [.inl [.null, .null, .int (f_rf ob0), .int (f_cf ob0), .int (f_vf ob0), .int (f_ag ob0), .null, .null, .null, .null, .null, .null, .int (f_nRows ob0), .int (f_nForms ob0), .int (f_last ob0), .int (f_gVal ob0), .int (f_gCount ob0), .int (f_selUseR ob0), .int (f_selRk ob0), .int (f_selUseC ob0), .int (f_selCk ob0)]])) rfl ?_
 refine zS Ad W 3 (st' := (6, [vI x0, vI x1, vI x2, vI x3, vI x4, none, none, none, none, none, none, none, none, none, none], [.int (2:Int32), .int (4:Int32), .ref 0, .ref 0], [.inl [.null, .null, .int (f_rf ob0), .int (f_cf ob0), .int (f_vf ob0), .int (f_ag ob0), .null, .null, .null, .null, .null, .null, .int (f_nRows ob0), .int (f_nForms ob0), .int (f_last ob0), .int (f_gVal ob0), .int (f_gCount ob0), .int (f_selUseR ob0), .int (f_selRk ob0), .int (f_selUseC ob0), .int (f_selCk ob0)]])) rfl ?_
 obtain ⟨r14, hr14, h⟩ := bind_eq_some_iff.mp h
 refine QTri.callI W (a := 0) (as := [.int (4:Int32), .int (2:Int32)]) (rest := [.ref 0]) (σ₁ := (H0 r14)) rfl rfl rfl rfl rfl rfl (tF1 Ad W (4:Int32) (2:Int32) hr14) ?_
 refine zS Ad W 5 (st' := (16, [vI x0, vI x1, vI x2, vI x3, vI x4, vR 0, none, none, none, none, none, none, none, none, none], [.int x0, .int (0:Int32), .int (0:Int32), .ref 0], (H0 r14))) rfl ?_
 obtain ⟨r90, hr90, h⟩ := bind_eq_some_iff.mp h
 refine QTri.callV W (a := 0) (as := [.int (0:Int32), .int (0:Int32), .int x0]) (rest := []) (w := (some (.int r90.1))) (σ₁ := (H0 r90.2)) rfl rfl rfl rfl rfl rfl rfl rfl (tF2 Ad W r14 (0:Int32) (0:Int32) x0 hr90) ?_
 refine zS Ad W 5 (st' := (25, [vI x0, vI x1, vI x2, vI x3, vI x4, vR 0, none, none, none, none, none, none, none, none, none], [.int (0:Int32), .int (1:Int32), .int (0:Int32), .ref 0], (H0 r90.2))) rfl ?_
 obtain ⟨r91, hr91, h⟩ := bind_eq_some_iff.mp h
 refine QTri.callV W (a := 0) (as := [.int (0:Int32), .int (1:Int32), .int (0:Int32)]) (rest := []) (w := (some (.int r91.1))) (σ₁ := (H0 r91.2)) rfl rfl rfl rfl rfl rfl rfl rfl (tF2 Ad W r90.2 (0:Int32) (1:Int32) (0:Int32) hr91) ?_
 refine zS Ad W 5 (st' := (34, [vI x0, vI x1, vI x2, vI x3, vI x4, vR 0, none, none, none, none, none, none, none, none, none], [.int x2, .int (2:Int32), .int (0:Int32), .ref 0], (H0 r91.2))) rfl ?_
 obtain ⟨r92, hr92, h⟩ := bind_eq_some_iff.mp h
 refine QTri.callV W (a := 0) (as := [.int (0:Int32), .int (2:Int32), .int x2]) (rest := []) (w := (some (.int r92.1))) (σ₁ := (H0 r92.2)) rfl rfl rfl rfl rfl rfl rfl rfl (tF2 Ad W r91.2 (0:Int32) (2:Int32) x2 hr92) ?_
 refine zS Ad W 5 (st' := (43, [vI x0, vI x1, vI x2, vI x3, vI x4, vR 0, none, none, none, none, none, none, none, none, none], [.int x1, .int (0:Int32), .int (1:Int32), .ref 0], (H0 r92.2))) rfl ?_
 obtain ⟨r93, hr93, h⟩ := bind_eq_some_iff.mp h
 refine QTri.callV W (a := 0) (as := [.int (1:Int32), .int (0:Int32), .int x1]) (rest := []) (w := (some (.int r93.1))) (σ₁ := (H0 r93.2)) rfl rfl rfl rfl rfl rfl rfl rfl (tF2 Ad W r92.2 (1:Int32) (0:Int32) x1 hr93) ?_
 refine zS Ad W 5 (st' := (52, [vI x0, vI x1, vI x2, vI x3, vI x4, vR 0, none, none, none, none, none, none, none, none, none], [.int (1:Int32), .int (1:Int32), .int (1:Int32), .ref 0], (H0 r93.2))) rfl ?_
 obtain ⟨r94, hr94, h⟩ := bind_eq_some_iff.mp h
 refine QTri.callV W (a := 0) (as := [.int (1:Int32), .int (1:Int32), .int (1:Int32)]) (rest := []) (w := (some (.int r94.1))) (σ₁ := (H0 r94.2)) rfl rfl rfl rfl rfl rfl rfl rfl (tF2 Ad W r93.2 (1:Int32) (1:Int32) (1:Int32) hr94) ?_
 refine zS Ad W 5 (st' := (61, [vI x0, vI x1, vI x2, vI x3, vI x4, vR 0, none, none, none, none, none, none, none, none, none], [.int x3, .int (2:Int32), .int (1:Int32), .ref 0], (H0 r94.2))) rfl ?_
 obtain ⟨r95, hr95, h⟩ := bind_eq_some_iff.mp h
 refine QTri.callV W (a := 0) (as := [.int (1:Int32), .int (2:Int32), .int x3]) (rest := []) (w := (some (.int r95.1))) (σ₁ := (H0 r95.2)) rfl rfl rfl rfl rfl rfl rfl rfl (tF2 Ad W r94.2 (1:Int32) (2:Int32) x3 hr95) ?_
 refine zS Ad W 5 (st' := (70, [vI x0, vI x1, vI x2, vI x3, vI x4, vR 0, none, none, none, none, none, none, none, none, none], [.int x0, .int (0:Int32), .int (2:Int32), .ref 0], (H0 r95.2))) rfl ?_
 obtain ⟨r96, hr96, h⟩ := bind_eq_some_iff.mp h
 refine QTri.callV W (a := 0) (as := [.int (2:Int32), .int (0:Int32), .int x0]) (rest := []) (w := (some (.int r96.1))) (σ₁ := (H0 r96.2)) rfl rfl rfl rfl rfl rfl rfl rfl (tF2 Ad W r95.2 (2:Int32) (0:Int32) x0 hr96) ?_
 refine zS Ad W 5 (st' := (79, [vI x0, vI x1, vI x2, vI x3, vI x4, vR 0, none, none, none, none, none, none, none, none, none], [.int (1:Int32), .int (1:Int32), .int (2:Int32), .ref 0], (H0 r96.2))) rfl ?_
 obtain ⟨r97, hr97, h⟩ := bind_eq_some_iff.mp h
 refine QTri.callV W (a := 0) (as := [.int (2:Int32), .int (1:Int32), .int (1:Int32)]) (rest := []) (w := (some (.int r97.1))) (σ₁ := (H0 r97.2)) rfl rfl rfl rfl rfl rfl rfl rfl (tF2 Ad W r96.2 (2:Int32) (1:Int32) (1:Int32) hr97) ?_
 refine zS Ad W 5 (st' := (89, [vI x0, vI x1, vI x2, vI x3, vI x4, vR 0, none, none, none, none, none, none, none, none, none], [.int x4, .int (2:Int32), .int (2:Int32), .ref 0], (H0 r97.2))) rfl ?_
 obtain ⟨r98, hr98, h⟩ := bind_eq_some_iff.mp h
 refine QTri.callV W (a := 0) (as := [.int (2:Int32), .int (2:Int32), .int x4]) (rest := []) (w := (some (.int r98.1))) (σ₁ := (H0 r98.2)) rfl rfl rfl rfl rfl rfl rfl rfl (tF2 Ad W r97.2 (2:Int32) (2:Int32) x4 hr98) ?_
 refine zS Ad W 3 (st' := (95, [vI x0, vI x1, vI x2, vI x3, vI x4, vR 0, none, none, none, none, none, none, none, none, none], [.int x1, .int x0], (H0 r98.2))) rfl ?_
 have K108 : ∀ z99 : Int32, z99 = (if x0 = x1 then (1:Int32) else (2:Int32)) → ∀ z100 : Int32, z100 = (if x0 = x1 then x0 else (if x0 < x1 then x0 else x1)) → ∀ z101 : Int32, z101 = (if x0 = x1 then (0:Int32) else (if x0 < x1 then x1 else x0)) → ∀ z102 : Int32, z102 = (if x0 = x1 then ((x2 + x3) + x4) else (if x0 < x1 then (x2 + x4) else x3)) → ∀ z103 : Int32, z103 = (if x0 = x1 then x2 else (if x0 < x1 then x2 else (0:Int32))) → ∀ z104 : Int32, z104 = (if x0 = x1 then (x3 + x4) else (if x0 < x1 then x4 else x3)) → ∀ z105 : Int32, z105 = (if x0 = x1 then (0:Int32) else (if x0 < x1 then x3 else (x2 + x4))) → ∀ z106 : Int32, z106 = (if x0 = x1 then (0:Int32) else (if x0 < x1 then (0:Int32) else x2)) → ∀ z107 : Int32, z107 = (if x0 = x1 then (0:Int32) else (if x0 < x1 then x3 else x4)) → QTri l Z n0 ad 0 (206, [vI x0, vI x1, vI x2, vI x3, vI x4, vR 0, vI z99, vI z100, vI z101, vI z102, vI z103, vI z104, vI z105, vI z106, vI z107], [], (H0 r98.2)) (some (Value.int r.1)) r.2 := by
  intro z99 ez99
  intro z100 ez100
  intro z101 ez101
  intro z102 ez102
  intro z103 ez103
  intro z104 ez104
  intro z105 ez105
  intro z106 ez106
  intro z107 ez107
  subst ez99
  subst ez100
  subst ez101
  subst ez102
  subst ez103
  subst ez104
  subst ez105
  subst ez106
  subst ez107
  refine zS Ad W 1 (st' := (208, [vI x0, vI x1, vI x2, vI x3, vI x4, vR 0, vI (if x0 = x1 then (1:Int32) else (2:Int32)), vI (if x0 = x1 then x0 else (if x0 < x1 then x0 else x1)), vI (if x0 = x1 then (0:Int32) else (if x0 < x1 then x1 else x0)), vI (if x0 = x1 then ((x2 + x3) + x4) else (if x0 < x1 then (x2 + x4) else x3)), vI (if x0 = x1 then x2 else (if x0 < x1 then x2 else (0:Int32))), vI (if x0 = x1 then (x3 + x4) else (if x0 < x1 then x4 else x3)), vI (if x0 = x1 then (0:Int32) else (if x0 < x1 then x3 else (x2 + x4))), vI (if x0 = x1 then (0:Int32) else (if x0 < x1 then (0:Int32) else x2)), vI (if x0 = x1 then (0:Int32) else (if x0 < x1 then x3 else x4))], [.ref 0], (H0 r98.2))) rfl ?_
  obtain ⟨r137, hr137, h⟩ := bind_eq_some_iff.mp h
  refine QTri.callV W (a := 0) (as := []) (rest := []) (w := (some (.int r137.1))) (σ₁ := (H0 r137.2)) rfl rfl rfl rfl rfl rfl rfl rfl (tF7 Ad W r98.2 hr137) ?_
  refine zS Ad W 1 (st' := (213, [vI x0, vI x1, vI x2, vI x3, vI x4, vR 0, vI (if x0 = x1 then (1:Int32) else (2:Int32)), vI (if x0 = x1 then x0 else (if x0 < x1 then x0 else x1)), vI (if x0 = x1 then (0:Int32) else (if x0 < x1 then x1 else x0)), vI (if x0 = x1 then ((x2 + x3) + x4) else (if x0 < x1 then (x2 + x4) else x3)), vI (if x0 = x1 then x2 else (if x0 < x1 then x2 else (0:Int32))), vI (if x0 = x1 then (x3 + x4) else (if x0 < x1 then x4 else x3)), vI (if x0 = x1 then (0:Int32) else (if x0 < x1 then x3 else (x2 + x4))), vI (if x0 = x1 then (0:Int32) else (if x0 < x1 then (0:Int32) else x2)), vI (if x0 = x1 then (0:Int32) else (if x0 < x1 then x3 else x4))], [.int (if x0 = x1 then (1:Int32) else (2:Int32)), .int r137.1], (H0 r137.2))) rfl ?_
  rcases qite h with ⟨hc138, h⟩ | ⟨hc138, h⟩
  ·refine zT Ad W (t := 218) (f := 216) rfl (XT.ii_eq_t hc138) ?_
   refine zS Ad W 1 (st' := (220, [vI x0, vI x1, vI x2, vI x3, vI x4, vR 0, vI (if x0 = x1 then (1:Int32) else (2:Int32)), vI (if x0 = x1 then x0 else (if x0 < x1 then x0 else x1)), vI (if x0 = x1 then (0:Int32) else (if x0 < x1 then x1 else x0)), vI (if x0 = x1 then ((x2 + x3) + x4) else (if x0 < x1 then (x2 + x4) else x3)), vI (if x0 = x1 then x2 else (if x0 < x1 then x2 else (0:Int32))), vI (if x0 = x1 then (x3 + x4) else (if x0 < x1 then x4 else x3)), vI (if x0 = x1 then (0:Int32) else (if x0 < x1 then x3 else (x2 + x4))), vI (if x0 = x1 then (0:Int32) else (if x0 < x1 then (0:Int32) else x2)), vI (if x0 = x1 then (0:Int32) else (if x0 < x1 then x3 else x4))], [.ref 0], (H0 r137.2))) rfl ?_
   obtain ⟨r140, hr140, h⟩ := bind_eq_some_iff.mp h
   refine QTri.callV W (a := 0) (as := []) (rest := []) (w := (some (.int r140.1))) (σ₁ := (H0 r140.2)) rfl rfl rfl rfl rfl rfl rfl rfl (tF10 Ad W r137.2 hr140) ?_
   refine zS Ad W 1 (st' := (224, [vI x0, vI x1, vI x2, vI x3, vI x4, vR 0, vI (if x0 = x1 then (1:Int32) else (2:Int32)), vI (if x0 = x1 then x0 else (if x0 < x1 then x0 else x1)), vI (if x0 = x1 then (0:Int32) else (if x0 < x1 then x1 else x0)), vI (if x0 = x1 then ((x2 + x3) + x4) else (if x0 < x1 then (x2 + x4) else x3)), vI (if x0 = x1 then x2 else (if x0 < x1 then x2 else (0:Int32))), vI (if x0 = x1 then (x3 + x4) else (if x0 < x1 then x4 else x3)), vI (if x0 = x1 then (0:Int32) else (if x0 < x1 then x3 else (x2 + x4))), vI (if x0 = x1 then (0:Int32) else (if x0 < x1 then (0:Int32) else x2)), vI (if x0 = x1 then (0:Int32) else (if x0 < x1 then x3 else x4))], [.int (2:Int32), .int r140.1], (H0 r140.2))) rfl ?_
   rcases qite h with ⟨hc141, h⟩ | ⟨hc141, h⟩
   ·refine zT Ad W (t := 229) (f := 227) rfl (XT.ii_eq_t hc141) ?_
    refine zS Ad W 2 (st' := (232, [vI x0, vI x1, vI x2, vI x3, vI x4, vR 0, vI (if x0 = x1 then (1:Int32) else (2:Int32)), vI (if x0 = x1 then x0 else (if x0 < x1 then x0 else x1)), vI (if x0 = x1 then (0:Int32) else (if x0 < x1 then x1 else x0)), vI (if x0 = x1 then ((x2 + x3) + x4) else (if x0 < x1 then (x2 + x4) else x3)), vI (if x0 = x1 then x2 else (if x0 < x1 then x2 else (0:Int32))), vI (if x0 = x1 then (x3 + x4) else (if x0 < x1 then x4 else x3)), vI (if x0 = x1 then (0:Int32) else (if x0 < x1 then x3 else (x2 + x4))), vI (if x0 = x1 then (0:Int32) else (if x0 < x1 then (0:Int32) else x2)), vI (if x0 = x1 then (0:Int32) else (if x0 < x1 then x3 else x4))], [.int (0:Int32), .ref 0], (H0 r140.2))) rfl ?_
    obtain ⟨r146, hr146, h⟩ := bind_eq_some_iff.mp h
    refine QTri.callV W (a := 0) (as := [.int (0:Int32)]) (rest := []) (w := (some (.int r146.1))) (σ₁ := (H0 r146.2)) rfl rfl rfl rfl rfl rfl rfl rfl (tF11 Ad W r140.2 (0:Int32) hr146) ?_
    refine zS Ad W 1 (st' := (237, [vI x0, vI x1, vI x2, vI x3, vI x4, vR 0, vI (if x0 = x1 then (1:Int32) else (2:Int32)), vI (if x0 = x1 then x0 else (if x0 < x1 then x0 else x1)), vI (if x0 = x1 then (0:Int32) else (if x0 < x1 then x1 else x0)), vI (if x0 = x1 then ((x2 + x3) + x4) else (if x0 < x1 then (x2 + x4) else x3)), vI (if x0 = x1 then x2 else (if x0 < x1 then x2 else (0:Int32))), vI (if x0 = x1 then (x3 + x4) else (if x0 < x1 then x4 else x3)), vI (if x0 = x1 then (0:Int32) else (if x0 < x1 then x3 else (x2 + x4))), vI (if x0 = x1 then (0:Int32) else (if x0 < x1 then (0:Int32) else x2)), vI (if x0 = x1 then (0:Int32) else (if x0 < x1 then x3 else x4))], [.int (if x0 = x1 then x0 else (if x0 < x1 then x0 else x1)), .int r146.1], (H0 r146.2))) rfl ?_
    rcases qite h with ⟨hc147, h⟩ | ⟨hc147, h⟩
    ·refine zT Ad W (t := 242) (f := 240) rfl (XT.ii_eq_t hc147) ?_
     refine zS Ad W 2 (st' := (245, [vI x0, vI x1, vI x2, vI x3, vI x4, vR 0, vI (if x0 = x1 then (1:Int32) else (2:Int32)), vI (if x0 = x1 then x0 else (if x0 < x1 then x0 else x1)), vI (if x0 = x1 then (0:Int32) else (if x0 < x1 then x1 else x0)), vI (if x0 = x1 then ((x2 + x3) + x4) else (if x0 < x1 then (x2 + x4) else x3)), vI (if x0 = x1 then x2 else (if x0 < x1 then x2 else (0:Int32))), vI (if x0 = x1 then (x3 + x4) else (if x0 < x1 then x4 else x3)), vI (if x0 = x1 then (0:Int32) else (if x0 < x1 then x3 else (x2 + x4))), vI (if x0 = x1 then (0:Int32) else (if x0 < x1 then (0:Int32) else x2)), vI (if x0 = x1 then (0:Int32) else (if x0 < x1 then x3 else x4))], [.int (1:Int32), .ref 0], (H0 r146.2))) rfl ?_
     obtain ⟨r148, hr148, h⟩ := bind_eq_some_iff.mp h
     refine QTri.callV W (a := 0) (as := [.int (1:Int32)]) (rest := []) (w := (some (.int r148.1))) (σ₁ := (H0 r148.2)) rfl rfl rfl rfl rfl rfl rfl rfl (tF11 Ad W r146.2 (1:Int32) hr148) ?_
     refine zS Ad W 1 (st' := (250, [vI x0, vI x1, vI x2, vI x3, vI x4, vR 0, vI (if x0 = x1 then (1:Int32) else (2:Int32)), vI (if x0 = x1 then x0 else (if x0 < x1 then x0 else x1)), vI (if x0 = x1 then (0:Int32) else (if x0 < x1 then x1 else x0)), vI (if x0 = x1 then ((x2 + x3) + x4) else (if x0 < x1 then (x2 + x4) else x3)), vI (if x0 = x1 then x2 else (if x0 < x1 then x2 else (0:Int32))), vI (if x0 = x1 then (x3 + x4) else (if x0 < x1 then x4 else x3)), vI (if x0 = x1 then (0:Int32) else (if x0 < x1 then x3 else (x2 + x4))), vI (if x0 = x1 then (0:Int32) else (if x0 < x1 then (0:Int32) else x2)), vI (if x0 = x1 then (0:Int32) else (if x0 < x1 then x3 else x4))], [.int (if x0 = x1 then (0:Int32) else (if x0 < x1 then x1 else x0)), .int r148.1], (H0 r148.2))) rfl ?_
     rcases qite h with ⟨hc149, h⟩ | ⟨hc149, h⟩
     ·refine zT Ad W (t := 255) (f := 253) rfl (XT.ii_eq_t hc149) ?_
      refine zS Ad W 3 (st' := (259, [vI x0, vI x1, vI x2, vI x3, vI x4, vR 0, vI (if x0 = x1 then (1:Int32) else (2:Int32)), vI (if x0 = x1 then x0 else (if x0 < x1 then x0 else x1)), vI (if x0 = x1 then (0:Int32) else (if x0 < x1 then x1 else x0)), vI (if x0 = x1 then ((x2 + x3) + x4) else (if x0 < x1 then (x2 + x4) else x3)), vI (if x0 = x1 then x2 else (if x0 < x1 then x2 else (0:Int32))), vI (if x0 = x1 then (x3 + x4) else (if x0 < x1 then x4 else x3)), vI (if x0 = x1 then (0:Int32) else (if x0 < x1 then x3 else (x2 + x4))), vI (if x0 = x1 then (0:Int32) else (if x0 < x1 then (0:Int32) else x2)), vI (if x0 = x1 then (0:Int32) else (if x0 < x1 then x3 else x4))], [.int (-1:Int32), .int (-1:Int32), .ref 0], (H0 r148.2))) rfl ?_
      obtain ⟨r178, hr178, h⟩ := bind_eq_some_iff.mp h
      refine QTri.callV W (a := 0) (as := [.int (-1:Int32), .int (-1:Int32)]) (rest := []) (w := (some (.int r178.1))) (σ₁ := (H0 r178.2)) rfl rfl rfl rfl rfl rfl rfl rfl (tF12 Ad W r148.2 (-1:Int32) (-1:Int32) hr178) ?_
      refine zS Ad W 5 (st' := (268, [vI x0, vI x1, vI x2, vI x3, vI x4, vR 0, vI (if x0 = x1 then (1:Int32) else (2:Int32)), vI (if x0 = x1 then x0 else (if x0 < x1 then x0 else x1)), vI (if x0 = x1 then (0:Int32) else (if x0 < x1 then x1 else x0)), vI (if x0 = x1 then ((x2 + x3) + x4) else (if x0 < x1 then (x2 + x4) else x3)), vI (if x0 = x1 then x2 else (if x0 < x1 then x2 else (0:Int32))), vI (if x0 = x1 then (x3 + x4) else (if x0 < x1 then x4 else x3)), vI (if x0 = x1 then (0:Int32) else (if x0 < x1 then x3 else (x2 + x4))), vI (if x0 = x1 then (0:Int32) else (if x0 < x1 then (0:Int32) else x2)), vI (if x0 = x1 then (0:Int32) else (if x0 < x1 then x3 else x4))], [.int ((x2 + x3) + x4), .int r178.1], (H0 r178.2))) rfl ?_
      rcases qite h with ⟨hc179, h⟩ | ⟨hc179, h⟩
      ·refine zT Ad W (t := 273) (f := 271) rfl (XT.ii_eq_t hc179) ?_
       refine zS Ad W 3 (st' := (277, [vI x0, vI x1, vI x2, vI x3, vI x4, vR 0, vI (if x0 = x1 then (1:Int32) else (2:Int32)), vI (if x0 = x1 then x0 else (if x0 < x1 then x0 else x1)), vI (if x0 = x1 then (0:Int32) else (if x0 < x1 then x1 else x0)), vI (if x0 = x1 then ((x2 + x3) + x4) else (if x0 < x1 then (x2 + x4) else x3)), vI (if x0 = x1 then x2 else (if x0 < x1 then x2 else (0:Int32))), vI (if x0 = x1 then (x3 + x4) else (if x0 < x1 then x4 else x3)), vI (if x0 = x1 then (0:Int32) else (if x0 < x1 then x3 else (x2 + x4))), vI (if x0 = x1 then (0:Int32) else (if x0 < x1 then (0:Int32) else x2)), vI (if x0 = x1 then (0:Int32) else (if x0 < x1 then x3 else x4))], [.int (-1:Int32), .int (-1:Int32), .ref 0], (H0 r178.2))) rfl ?_
       obtain ⟨r183, hr183, h⟩ := bind_eq_some_iff.mp h
       refine QTri.callV W (a := 0) (as := [.int (-1:Int32), .int (-1:Int32)]) (rest := []) (w := (some (.int r183.1))) (σ₁ := (H0 r183.2)) rfl rfl rfl rfl rfl rfl rfl rfl (tF16 Ad W r178.2 (-1:Int32) (-1:Int32) hr183) ?_
       refine zS Ad W 1 (st' := (281, [vI x0, vI x1, vI x2, vI x3, vI x4, vR 0, vI (if x0 = x1 then (1:Int32) else (2:Int32)), vI (if x0 = x1 then x0 else (if x0 < x1 then x0 else x1)), vI (if x0 = x1 then (0:Int32) else (if x0 < x1 then x1 else x0)), vI (if x0 = x1 then ((x2 + x3) + x4) else (if x0 < x1 then (x2 + x4) else x3)), vI (if x0 = x1 then x2 else (if x0 < x1 then x2 else (0:Int32))), vI (if x0 = x1 then (x3 + x4) else (if x0 < x1 then x4 else x3)), vI (if x0 = x1 then (0:Int32) else (if x0 < x1 then x3 else (x2 + x4))), vI (if x0 = x1 then (0:Int32) else (if x0 < x1 then (0:Int32) else x2)), vI (if x0 = x1 then (0:Int32) else (if x0 < x1 then x3 else x4))], [.int (3:Int32), .int r183.1], (H0 r183.2))) rfl ?_
       rcases qite h with ⟨hc184, h⟩ | ⟨hc184, h⟩
       ·refine zT Ad W (t := 286) (f := 284) rfl (XT.ii_eq_t hc184) ?_
        refine zS Ad W 3 (st' := (290, [vI x0, vI x1, vI x2, vI x3, vI x4, vR 0, vI (if x0 = x1 then (1:Int32) else (2:Int32)), vI (if x0 = x1 then x0 else (if x0 < x1 then x0 else x1)), vI (if x0 = x1 then (0:Int32) else (if x0 < x1 then x1 else x0)), vI (if x0 = x1 then ((x2 + x3) + x4) else (if x0 < x1 then (x2 + x4) else x3)), vI (if x0 = x1 then x2 else (if x0 < x1 then x2 else (0:Int32))), vI (if x0 = x1 then (x3 + x4) else (if x0 < x1 then x4 else x3)), vI (if x0 = x1 then (0:Int32) else (if x0 < x1 then x3 else (x2 + x4))), vI (if x0 = x1 then (0:Int32) else (if x0 < x1 then (0:Int32) else x2)), vI (if x0 = x1 then (0:Int32) else (if x0 < x1 then x3 else x4))], [.int (0:Int32), .int (-1:Int32), .ref 0], (H0 r183.2))) rfl ?_
        obtain ⟨r185, hr185, h⟩ := bind_eq_some_iff.mp h
        refine QTri.callV W (a := 0) (as := [.int (-1:Int32), .int (0:Int32)]) (rest := []) (w := (some (.int r185.1))) (σ₁ := (H0 r185.2)) rfl rfl rfl rfl rfl rfl rfl rfl (tF12 Ad W r183.2 (-1:Int32) (0:Int32) hr185) ?_
        refine zS Ad W 1 (st' := (294, [vI x0, vI x1, vI x2, vI x3, vI x4, vR 0, vI (if x0 = x1 then (1:Int32) else (2:Int32)), vI (if x0 = x1 then x0 else (if x0 < x1 then x0 else x1)), vI (if x0 = x1 then (0:Int32) else (if x0 < x1 then x1 else x0)), vI (if x0 = x1 then ((x2 + x3) + x4) else (if x0 < x1 then (x2 + x4) else x3)), vI (if x0 = x1 then x2 else (if x0 < x1 then x2 else (0:Int32))), vI (if x0 = x1 then (x3 + x4) else (if x0 < x1 then x4 else x3)), vI (if x0 = x1 then (0:Int32) else (if x0 < x1 then x3 else (x2 + x4))), vI (if x0 = x1 then (0:Int32) else (if x0 < x1 then (0:Int32) else x2)), vI (if x0 = x1 then (0:Int32) else (if x0 < x1 then x3 else x4))], [.int x2, .int r185.1], (H0 r185.2))) rfl ?_
        rcases qite h with ⟨hc186, h⟩ | ⟨hc186, h⟩
        ·refine zT Ad W (t := 299) (f := 297) rfl (XT.ii_eq_t hc186) ?_
         refine zS Ad W 3 (st' := (303, [vI x0, vI x1, vI x2, vI x3, vI x4, vR 0, vI (if x0 = x1 then (1:Int32) else (2:Int32)), vI (if x0 = x1 then x0 else (if x0 < x1 then x0 else x1)), vI (if x0 = x1 then (0:Int32) else (if x0 < x1 then x1 else x0)), vI (if x0 = x1 then ((x2 + x3) + x4) else (if x0 < x1 then (x2 + x4) else x3)), vI (if x0 = x1 then x2 else (if x0 < x1 then x2 else (0:Int32))), vI (if x0 = x1 then (x3 + x4) else (if x0 < x1 then x4 else x3)), vI (if x0 = x1 then (0:Int32) else (if x0 < x1 then x3 else (x2 + x4))), vI (if x0 = x1 then (0:Int32) else (if x0 < x1 then (0:Int32) else x2)), vI (if x0 = x1 then (0:Int32) else (if x0 < x1 then x3 else x4))], [.int (1:Int32), .int (-1:Int32), .ref 0], (H0 r185.2))) rfl ?_
         obtain ⟨r187, hr187, h⟩ := bind_eq_some_iff.mp h
         refine QTri.callV W (a := 0) (as := [.int (-1:Int32), .int (1:Int32)]) (rest := []) (w := (some (.int r187.1))) (σ₁ := (H0 r187.2)) rfl rfl rfl rfl rfl rfl rfl rfl (tF12 Ad W r185.2 (-1:Int32) (1:Int32) hr187) ?_
         refine zS Ad W 3 (st' := (310, [vI x0, vI x1, vI x2, vI x3, vI x4, vR 0, vI (if x0 = x1 then (1:Int32) else (2:Int32)), vI (if x0 = x1 then x0 else (if x0 < x1 then x0 else x1)), vI (if x0 = x1 then (0:Int32) else (if x0 < x1 then x1 else x0)), vI (if x0 = x1 then ((x2 + x3) + x4) else (if x0 < x1 then (x2 + x4) else x3)), vI (if x0 = x1 then x2 else (if x0 < x1 then x2 else (0:Int32))), vI (if x0 = x1 then (x3 + x4) else (if x0 < x1 then x4 else x3)), vI (if x0 = x1 then (0:Int32) else (if x0 < x1 then x3 else (x2 + x4))), vI (if x0 = x1 then (0:Int32) else (if x0 < x1 then (0:Int32) else x2)), vI (if x0 = x1 then (0:Int32) else (if x0 < x1 then x3 else x4))], [.int (x3 + x4), .int r187.1], (H0 r187.2))) rfl ?_
         rcases qite h with ⟨hc188, h⟩ | ⟨hc188, h⟩
         ·refine zT Ad W (t := 315) (f := 313) rfl (XT.ii_eq_t hc188) ?_
          refine zS Ad W 3 (st' := (319, [vI x0, vI x1, vI x2, vI x3, vI x4, vR 0, vI (if x0 = x1 then (1:Int32) else (2:Int32)), vI (if x0 = x1 then x0 else (if x0 < x1 then x0 else x1)), vI (if x0 = x1 then (0:Int32) else (if x0 < x1 then x1 else x0)), vI (if x0 = x1 then ((x2 + x3) + x4) else (if x0 < x1 then (x2 + x4) else x3)), vI (if x0 = x1 then x2 else (if x0 < x1 then x2 else (0:Int32))), vI (if x0 = x1 then (x3 + x4) else (if x0 < x1 then x4 else x3)), vI (if x0 = x1 then (0:Int32) else (if x0 < x1 then x3 else (x2 + x4))), vI (if x0 = x1 then (0:Int32) else (if x0 < x1 then (0:Int32) else x2)), vI (if x0 = x1 then (0:Int32) else (if x0 < x1 then x3 else x4))], [.int (-1:Int32), .int (0:Int32), .ref 0], (H0 r187.2))) rfl ?_
          obtain ⟨r189, hr189, h⟩ := bind_eq_some_iff.mp h
          refine QTri.callV W (a := 0) (as := [.int (0:Int32), .int (-1:Int32)]) (rest := []) (w := (some (.int r189.1))) (σ₁ := (H0 r189.2)) rfl rfl rfl rfl rfl rfl rfl rfl (tF12 Ad W r187.2 (0:Int32) (-1:Int32) hr189) ?_
          refine zS Ad W 1 (st' := (324, [vI x0, vI x1, vI x2, vI x3, vI x4, vR 0, vI (if x0 = x1 then (1:Int32) else (2:Int32)), vI (if x0 = x1 then x0 else (if x0 < x1 then x0 else x1)), vI (if x0 = x1 then (0:Int32) else (if x0 < x1 then x1 else x0)), vI (if x0 = x1 then ((x2 + x3) + x4) else (if x0 < x1 then (x2 + x4) else x3)), vI (if x0 = x1 then x2 else (if x0 < x1 then x2 else (0:Int32))), vI (if x0 = x1 then (x3 + x4) else (if x0 < x1 then x4 else x3)), vI (if x0 = x1 then (0:Int32) else (if x0 < x1 then x3 else (x2 + x4))), vI (if x0 = x1 then (0:Int32) else (if x0 < x1 then (0:Int32) else x2)), vI (if x0 = x1 then (0:Int32) else (if x0 < x1 then x3 else x4))], [.int (if x0 = x1 then ((x2 + x3) + x4) else (if x0 < x1 then (x2 + x4) else x3)), .int r189.1], (H0 r189.2))) rfl ?_
          rcases qite h with ⟨hc190, h⟩ | ⟨hc190, h⟩
          ·refine zT Ad W (t := 329) (f := 327) rfl (XT.ii_eq_t hc190) ?_
           refine zS Ad W 3 (st' := (333, [vI x0, vI x1, vI x2, vI x3, vI x4, vR 0, vI (if x0 = x1 then (1:Int32) else (2:Int32)), vI (if x0 = x1 then x0 else (if x0 < x1 then x0 else x1)), vI (if x0 = x1 then (0:Int32) else (if x0 < x1 then x1 else x0)), vI (if x0 = x1 then ((x2 + x3) + x4) else (if x0 < x1 then (x2 + x4) else x3)), vI (if x0 = x1 then x2 else (if x0 < x1 then x2 else (0:Int32))), vI (if x0 = x1 then (x3 + x4) else (if x0 < x1 then x4 else x3)), vI (if x0 = x1 then (0:Int32) else (if x0 < x1 then x3 else (x2 + x4))), vI (if x0 = x1 then (0:Int32) else (if x0 < x1 then (0:Int32) else x2)), vI (if x0 = x1 then (0:Int32) else (if x0 < x1 then x3 else x4))], [.int (0:Int32), .int (0:Int32), .ref 0], (H0 r189.2))) rfl ?_
           obtain ⟨r191, hr191, h⟩ := bind_eq_some_iff.mp h
           refine QTri.callV W (a := 0) (as := [.int (0:Int32), .int (0:Int32)]) (rest := []) (w := (some (.int r191.1))) (σ₁ := (H0 r191.2)) rfl rfl rfl rfl rfl rfl rfl rfl (tF12 Ad W r189.2 (0:Int32) (0:Int32) hr191) ?_
           refine zS Ad W 1 (st' := (338, [vI x0, vI x1, vI x2, vI x3, vI x4, vR 0, vI (if x0 = x1 then (1:Int32) else (2:Int32)), vI (if x0 = x1 then x0 else (if x0 < x1 then x0 else x1)), vI (if x0 = x1 then (0:Int32) else (if x0 < x1 then x1 else x0)), vI (if x0 = x1 then ((x2 + x3) + x4) else (if x0 < x1 then (x2 + x4) else x3)), vI (if x0 = x1 then x2 else (if x0 < x1 then x2 else (0:Int32))), vI (if x0 = x1 then (x3 + x4) else (if x0 < x1 then x4 else x3)), vI (if x0 = x1 then (0:Int32) else (if x0 < x1 then x3 else (x2 + x4))), vI (if x0 = x1 then (0:Int32) else (if x0 < x1 then (0:Int32) else x2)), vI (if x0 = x1 then (0:Int32) else (if x0 < x1 then x3 else x4))], [.int (if x0 = x1 then x2 else (if x0 < x1 then x2 else (0:Int32))), .int r191.1], (H0 r191.2))) rfl ?_
           rcases qite h with ⟨hc192, h⟩ | ⟨hc192, h⟩
           ·refine zT Ad W (t := 343) (f := 341) rfl (XT.ii_eq_t hc192) ?_
            refine zS Ad W 3 (st' := (347, [vI x0, vI x1, vI x2, vI x3, vI x4, vR 0, vI (if x0 = x1 then (1:Int32) else (2:Int32)), vI (if x0 = x1 then x0 else (if x0 < x1 then x0 else x1)), vI (if x0 = x1 then (0:Int32) else (if x0 < x1 then x1 else x0)), vI (if x0 = x1 then ((x2 + x3) + x4) else (if x0 < x1 then (x2 + x4) else x3)), vI (if x0 = x1 then x2 else (if x0 < x1 then x2 else (0:Int32))), vI (if x0 = x1 then (x3 + x4) else (if x0 < x1 then x4 else x3)), vI (if x0 = x1 then (0:Int32) else (if x0 < x1 then x3 else (x2 + x4))), vI (if x0 = x1 then (0:Int32) else (if x0 < x1 then (0:Int32) else x2)), vI (if x0 = x1 then (0:Int32) else (if x0 < x1 then x3 else x4))], [.int (1:Int32), .int (0:Int32), .ref 0], (H0 r191.2))) rfl ?_
            obtain ⟨r193, hr193, h⟩ := bind_eq_some_iff.mp h
            refine QTri.callV W (a := 0) (as := [.int (0:Int32), .int (1:Int32)]) (rest := []) (w := (some (.int r193.1))) (σ₁ := (H0 r193.2)) rfl rfl rfl rfl rfl rfl rfl rfl (tF12 Ad W r191.2 (0:Int32) (1:Int32) hr193) ?_
            refine zS Ad W 1 (st' := (352, [vI x0, vI x1, vI x2, vI x3, vI x4, vR 0, vI (if x0 = x1 then (1:Int32) else (2:Int32)), vI (if x0 = x1 then x0 else (if x0 < x1 then x0 else x1)), vI (if x0 = x1 then (0:Int32) else (if x0 < x1 then x1 else x0)), vI (if x0 = x1 then ((x2 + x3) + x4) else (if x0 < x1 then (x2 + x4) else x3)), vI (if x0 = x1 then x2 else (if x0 < x1 then x2 else (0:Int32))), vI (if x0 = x1 then (x3 + x4) else (if x0 < x1 then x4 else x3)), vI (if x0 = x1 then (0:Int32) else (if x0 < x1 then x3 else (x2 + x4))), vI (if x0 = x1 then (0:Int32) else (if x0 < x1 then (0:Int32) else x2)), vI (if x0 = x1 then (0:Int32) else (if x0 < x1 then x3 else x4))], [.int (if x0 = x1 then (x3 + x4) else (if x0 < x1 then x4 else x3)), .int r193.1], (H0 r193.2))) rfl ?_
            rcases qite h with ⟨hc194, h⟩ | ⟨hc194, h⟩
            ·refine zT Ad W (t := 357) (f := 355) rfl (XT.ii_eq_t hc194) ?_
             refine zS Ad W 3 (st' := (361, [vI x0, vI x1, vI x2, vI x3, vI x4, vR 0, vI (if x0 = x1 then (1:Int32) else (2:Int32)), vI (if x0 = x1 then x0 else (if x0 < x1 then x0 else x1)), vI (if x0 = x1 then (0:Int32) else (if x0 < x1 then x1 else x0)), vI (if x0 = x1 then ((x2 + x3) + x4) else (if x0 < x1 then (x2 + x4) else x3)), vI (if x0 = x1 then x2 else (if x0 < x1 then x2 else (0:Int32))), vI (if x0 = x1 then (x3 + x4) else (if x0 < x1 then x4 else x3)), vI (if x0 = x1 then (0:Int32) else (if x0 < x1 then x3 else (x2 + x4))), vI (if x0 = x1 then (0:Int32) else (if x0 < x1 then (0:Int32) else x2)), vI (if x0 = x1 then (0:Int32) else (if x0 < x1 then x3 else x4))], [.int (-1:Int32), .int (1:Int32), .ref 0], (H0 r193.2))) rfl ?_
             obtain ⟨r195, hr195, h⟩ := bind_eq_some_iff.mp h
             refine QTri.callV W (a := 0) (as := [.int (1:Int32), .int (-1:Int32)]) (rest := []) (w := (some (.int r195.1))) (σ₁ := (H0 r195.2)) rfl rfl rfl rfl rfl rfl rfl rfl (tF12 Ad W r193.2 (1:Int32) (-1:Int32) hr195) ?_
             refine zS Ad W 1 (st' := (366, [vI x0, vI x1, vI x2, vI x3, vI x4, vR 0, vI (if x0 = x1 then (1:Int32) else (2:Int32)), vI (if x0 = x1 then x0 else (if x0 < x1 then x0 else x1)), vI (if x0 = x1 then (0:Int32) else (if x0 < x1 then x1 else x0)), vI (if x0 = x1 then ((x2 + x3) + x4) else (if x0 < x1 then (x2 + x4) else x3)), vI (if x0 = x1 then x2 else (if x0 < x1 then x2 else (0:Int32))), vI (if x0 = x1 then (x3 + x4) else (if x0 < x1 then x4 else x3)), vI (if x0 = x1 then (0:Int32) else (if x0 < x1 then x3 else (x2 + x4))), vI (if x0 = x1 then (0:Int32) else (if x0 < x1 then (0:Int32) else x2)), vI (if x0 = x1 then (0:Int32) else (if x0 < x1 then x3 else x4))], [.int (if x0 = x1 then (0:Int32) else (if x0 < x1 then x3 else (x2 + x4))), .int r195.1], (H0 r195.2))) rfl ?_
             rcases qite h with ⟨hc196, h⟩ | ⟨hc196, h⟩
             ·refine zT Ad W (t := 371) (f := 369) rfl (XT.ii_eq_t hc196) ?_
              refine zS Ad W 3 (st' := (375, [vI x0, vI x1, vI x2, vI x3, vI x4, vR 0, vI (if x0 = x1 then (1:Int32) else (2:Int32)), vI (if x0 = x1 then x0 else (if x0 < x1 then x0 else x1)), vI (if x0 = x1 then (0:Int32) else (if x0 < x1 then x1 else x0)), vI (if x0 = x1 then ((x2 + x3) + x4) else (if x0 < x1 then (x2 + x4) else x3)), vI (if x0 = x1 then x2 else (if x0 < x1 then x2 else (0:Int32))), vI (if x0 = x1 then (x3 + x4) else (if x0 < x1 then x4 else x3)), vI (if x0 = x1 then (0:Int32) else (if x0 < x1 then x3 else (x2 + x4))), vI (if x0 = x1 then (0:Int32) else (if x0 < x1 then (0:Int32) else x2)), vI (if x0 = x1 then (0:Int32) else (if x0 < x1 then x3 else x4))], [.int (0:Int32), .int (1:Int32), .ref 0], (H0 r195.2))) rfl ?_
              obtain ⟨r197, hr197, h⟩ := bind_eq_some_iff.mp h
              refine QTri.callV W (a := 0) (as := [.int (1:Int32), .int (0:Int32)]) (rest := []) (w := (some (.int r197.1))) (σ₁ := (H0 r197.2)) rfl rfl rfl rfl rfl rfl rfl rfl (tF12 Ad W r195.2 (1:Int32) (0:Int32) hr197) ?_
              refine zS Ad W 1 (st' := (380, [vI x0, vI x1, vI x2, vI x3, vI x4, vR 0, vI (if x0 = x1 then (1:Int32) else (2:Int32)), vI (if x0 = x1 then x0 else (if x0 < x1 then x0 else x1)), vI (if x0 = x1 then (0:Int32) else (if x0 < x1 then x1 else x0)), vI (if x0 = x1 then ((x2 + x3) + x4) else (if x0 < x1 then (x2 + x4) else x3)), vI (if x0 = x1 then x2 else (if x0 < x1 then x2 else (0:Int32))), vI (if x0 = x1 then (x3 + x4) else (if x0 < x1 then x4 else x3)), vI (if x0 = x1 then (0:Int32) else (if x0 < x1 then x3 else (x2 + x4))), vI (if x0 = x1 then (0:Int32) else (if x0 < x1 then (0:Int32) else x2)), vI (if x0 = x1 then (0:Int32) else (if x0 < x1 then x3 else x4))], [.int (if x0 = x1 then (0:Int32) else (if x0 < x1 then (0:Int32) else x2)), .int r197.1], (H0 r197.2))) rfl ?_
              rcases qite h with ⟨hc198, h⟩ | ⟨hc198, h⟩
              ·refine zT Ad W (t := 385) (f := 383) rfl (XT.ii_eq_t hc198) ?_
               refine zS Ad W 3 (st' := (389, [vI x0, vI x1, vI x2, vI x3, vI x4, vR 0, vI (if x0 = x1 then (1:Int32) else (2:Int32)), vI (if x0 = x1 then x0 else (if x0 < x1 then x0 else x1)), vI (if x0 = x1 then (0:Int32) else (if x0 < x1 then x1 else x0)), vI (if x0 = x1 then ((x2 + x3) + x4) else (if x0 < x1 then (x2 + x4) else x3)), vI (if x0 = x1 then x2 else (if x0 < x1 then x2 else (0:Int32))), vI (if x0 = x1 then (x3 + x4) else (if x0 < x1 then x4 else x3)), vI (if x0 = x1 then (0:Int32) else (if x0 < x1 then x3 else (x2 + x4))), vI (if x0 = x1 then (0:Int32) else (if x0 < x1 then (0:Int32) else x2)), vI (if x0 = x1 then (0:Int32) else (if x0 < x1 then x3 else x4))], [.int (1:Int32), .int (1:Int32), .ref 0], (H0 r197.2))) rfl ?_
               obtain ⟨r199, hr199, h⟩ := bind_eq_some_iff.mp h
               refine QTri.callV W (a := 0) (as := [.int (1:Int32), .int (1:Int32)]) (rest := []) (w := (some (.int r199.1))) (σ₁ := (H0 r199.2)) rfl rfl rfl rfl rfl rfl rfl rfl (tF12 Ad W r197.2 (1:Int32) (1:Int32) hr199) ?_
               refine zS Ad W 1 (st' := (394, [vI x0, vI x1, vI x2, vI x3, vI x4, vR 0, vI (if x0 = x1 then (1:Int32) else (2:Int32)), vI (if x0 = x1 then x0 else (if x0 < x1 then x0 else x1)), vI (if x0 = x1 then (0:Int32) else (if x0 < x1 then x1 else x0)), vI (if x0 = x1 then ((x2 + x3) + x4) else (if x0 < x1 then (x2 + x4) else x3)), vI (if x0 = x1 then x2 else (if x0 < x1 then x2 else (0:Int32))), vI (if x0 = x1 then (x3 + x4) else (if x0 < x1 then x4 else x3)), vI (if x0 = x1 then (0:Int32) else (if x0 < x1 then x3 else (x2 + x4))), vI (if x0 = x1 then (0:Int32) else (if x0 < x1 then (0:Int32) else x2)), vI (if x0 = x1 then (0:Int32) else (if x0 < x1 then x3 else x4))], [.int (if x0 = x1 then (0:Int32) else (if x0 < x1 then x3 else x4)), .int r199.1], (H0 r199.2))) rfl ?_
               rcases qite h with ⟨hc200, h⟩ | ⟨hc200, h⟩
               ·refine zT Ad W (t := 399) (f := 397) rfl (XT.ii_eq_t hc200) ?_
                refine zS Ad W 5 (st' := (405, [vI x0, vI x1, vI x2, vI x3, vI x4, vR 0, vI (if x0 = x1 then (1:Int32) else (2:Int32)), vI (if x0 = x1 then x0 else (if x0 < x1 then x0 else x1)), vI (if x0 = x1 then (0:Int32) else (if x0 < x1 then x1 else x0)), vI (if x0 = x1 then ((x2 + x3) + x4) else (if x0 < x1 then (x2 + x4) else x3)), vI (if x0 = x1 then x2 else (if x0 < x1 then x2 else (0:Int32))), vI (if x0 = x1 then (x3 + x4) else (if x0 < x1 then x4 else x3)), vI (if x0 = x1 then (0:Int32) else (if x0 < x1 then x3 else (x2 + x4))), vI (if x0 = x1 then (0:Int32) else (if x0 < x1 then (0:Int32) else x2)), vI (if x0 = x1 then (0:Int32) else (if x0 < x1 then x3 else x4))], [.int (0:Int32), .int x1, .int (1:Int32), .int (0:Int32), .ref 0], (H0 r199.2))) rfl ?_
                obtain ⟨r211, hr211, h⟩ := bind_eq_some_iff.mp h
                refine QTri.callV W (a := 0) (as := [.int (0:Int32), .int (1:Int32), .int x1, .int (0:Int32)]) (rest := []) (w := (some (.int r211.1))) (σ₁ := (H0 r211.2)) rfl rfl rfl rfl rfl rfl rfl rfl (tF17 Ad W r199.2 (0:Int32) (1:Int32) x1 (0:Int32) hr211) ?_
                refine zS Ad W 6 (st' := (415, [vI x0, vI x1, vI x2, vI x3, vI x4, vR 0, vI (if x0 = x1 then (1:Int32) else (2:Int32)), vI (if x0 = x1 then x0 else (if x0 < x1 then x0 else x1)), vI (if x0 = x1 then (0:Int32) else (if x0 < x1 then x1 else x0)), vI (if x0 = x1 then ((x2 + x3) + x4) else (if x0 < x1 then (x2 + x4) else x3)), vI (if x0 = x1 then x2 else (if x0 < x1 then x2 else (0:Int32))), vI (if x0 = x1 then (x3 + x4) else (if x0 < x1 then x4 else x3)), vI (if x0 = x1 then (0:Int32) else (if x0 < x1 then x3 else (x2 + x4))), vI (if x0 = x1 then (0:Int32) else (if x0 < x1 then (0:Int32) else x2)), vI (if x0 = x1 then (0:Int32) else (if x0 < x1 then x3 else x4))], [.int (0:Int32), .int x0, .int (2:Int32), .int (1:Int32), .ref 0], (H0 r211.2))) rfl ?_
                obtain ⟨r212, hr212, h⟩ := bind_eq_some_iff.mp h
                refine QTri.callV W (a := 0) (as := [.int (1:Int32), .int (2:Int32), .int x0, .int (0:Int32)]) (rest := []) (w := (some (.int r212.1))) (σ₁ := (H0 r212.2)) rfl rfl rfl rfl rfl rfl rfl rfl (tF17 Ad W r211.2 (1:Int32) (2:Int32) x0 (0:Int32) hr212) ?_
                refine zS Ad W 3 (st' := (422, [vI x0, vI x1, vI x2, vI x3, vI x4, vR 0, vI (if x0 = x1 then (1:Int32) else (2:Int32)), vI (if x0 = x1 then x0 else (if x0 < x1 then x0 else x1)), vI (if x0 = x1 then (0:Int32) else (if x0 < x1 then x1 else x0)), vI (if x0 = x1 then ((x2 + x3) + x4) else (if x0 < x1 then (x2 + x4) else x3)), vI (if x0 = x1 then x2 else (if x0 < x1 then x2 else (0:Int32))), vI (if x0 = x1 then (x3 + x4) else (if x0 < x1 then x4 else x3)), vI (if x0 = x1 then (0:Int32) else (if x0 < x1 then x3 else (x2 + x4))), vI (if x0 = x1 then (0:Int32) else (if x0 < x1 then (0:Int32) else x2)), vI (if x0 = x1 then (0:Int32) else (if x0 < x1 then x3 else x4))], [.int (0:Int32), .ref 0], (H0 r212.2))) rfl ?_
                obtain ⟨r216, hr216, h⟩ := bind_eq_some_iff.mp h
                refine QTri.callV W (a := 0) (as := [.int (0:Int32)]) (rest := []) (w := (some (.int r216.1))) (σ₁ := (H0 r216.2)) rfl rfl rfl rfl rfl rfl rfl rfl (tF19 Ad W r212.2 (0:Int32) hr216) ?_
                refine zS Ad W 2 (st' := (427, [vI x0, vI x1, vI x2, vI x3, vI x4, vR 0, vI (if x0 = x1 then (1:Int32) else (2:Int32)), vI (if x0 = x1 then x0 else (if x0 < x1 then x0 else x1)), vI (if x0 = x1 then (0:Int32) else (if x0 < x1 then x1 else x0)), vI (if x0 = x1 then ((x2 + x3) + x4) else (if x0 < x1 then (x2 + x4) else x3)), vI (if x0 = x1 then x2 else (if x0 < x1 then x2 else (0:Int32))), vI (if x0 = x1 then (x3 + x4) else (if x0 < x1 then x4 else x3)), vI (if x0 = x1 then (0:Int32) else (if x0 < x1 then x3 else (x2 + x4))), vI (if x0 = x1 then (0:Int32) else (if x0 < x1 then (0:Int32) else x2)), vI (if x0 = x1 then (0:Int32) else (if x0 < x1 then x3 else x4))], [.int x1, .int x0, .int r216.1], (H0 r216.2))) rfl ?_
                have K218 : ∀ z217 : Int32, z217 = (if x0 = x1 then x2 else (0:Int32)) → QTri l Z n0 ad 0 (435, [vI x0, vI x1, vI x2, vI x3, vI x4, vR 0, none, none, none, none, none, none, none, none, none], [.int z217, .int r216.1], (H0 r216.2)) (some (Value.int r.1)) r.2 := by
                 intro z217 ez217
                 subst ez217
                 rcases qite h with ⟨hc220, h⟩ | ⟨hc220, h⟩
                 ·refine zT Ad W (t := 440) (f := 438) rfl (XT.ii_eq_t hc220) ?_
                  refine zS Ad W 2 (st' := (443, [vI x0, vI x1, vI x2, vI x3, vI x4, vR 0, none, none, none, none, none, none, none, none, none], [.int (0:Int32), .ref 0], (H0 r216.2))) rfl ?_
                  obtain ⟨r225, hr225, h⟩ := bind_eq_some_iff.mp h
                  refine QTri.callV W (a := 0) (as := [.int (0:Int32)]) (rest := []) (w := (some (.int r225.1))) (σ₁ := (H0 r225.2)) rfl rfl rfl rfl rfl rfl rfl rfl (tF20 Ad W r216.2 (0:Int32) hr225) ?_
                  refine zS Ad W 2 (st' := (448, [vI x0, vI x1, vI x2, vI x3, vI x4, vR 0, none, none, none, none, none, none, none, none, none], [.int x1, .int x0, .int r225.1], (H0 r225.2))) rfl ?_
                  have K227 : ∀ z226 : Int32, z226 = (if x0 = x1 then (1:Int32) else (0:Int32)) → QTri l Z n0 ad 0 (456, [vI x0, vI x1, vI x2, vI x3, vI x4, vR 0, none, none, none, none, none, none, none, none, none], [.int z226, .int r225.1], (H0 r225.2)) (some (Value.int r.1)) r.2 := by
                   intro z226 ez226
                   subst ez226
                   rcases qite h with ⟨hc229, h⟩ | ⟨hc229, h⟩
                   ·refine zT Ad W (t := 461) (f := 459) rfl (XT.ii_eq_t hc229) ?_
                    refine zS Ad W 2 (st' := (464, [vI x0, vI x1, vI x2, vI x3, vI x4, vR 0, none, none, none, none, none, none, none, none, none], [.int (1:Int32), .ref 0], (H0 r225.2))) rfl ?_
                    obtain ⟨r230, hr230, h⟩ := bind_eq_some_iff.mp h
                    refine QTri.callV W (a := 0) (as := [.int (1:Int32)]) (rest := []) (w := (some (.int r230.1))) (σ₁ := (H0 r230.2)) rfl rfl rfl rfl rfl rfl rfl rfl (tF19 Ad W r225.2 (1:Int32) hr230) ?_
                    refine zS Ad W 2 (st' := (469, [vI x0, vI x1, vI x2, vI x3, vI x4, vR 0, none, none, none, none, none, none, none, none, none], [.int x1, .int x0, .int r230.1], (H0 r230.2))) rfl ?_
                    have K232 : ∀ z231 : Int32, z231 = (if x0 = x1 then ((x2 + x3) + x4) else (x2 + x4)) → QTri l Z n0 ad 0 (485, [none, none, none, none, none, vR 0, none, none, none, none, none, none, none, none, none], [.int z231, .int r230.1], (H0 r230.2)) (some (Value.int r.1)) r.2 := by
                     intro z231 ez231
                     subst ez231
                     rcases qite h with ⟨hc234, h⟩ | ⟨hc234, h⟩
                     ·refine zT Ad W (t := 490) (f := 488) rfl (XT.ii_eq_t hc234) ?_
                      refine zS Ad W 2 (st' := (493, [none, none, none, none, none, vR 0, none, none, none, none, none, none, none, none, none], [.int (1:Int32), .ref 0], (H0 r230.2))) rfl ?_
                      obtain ⟨r235, hr235, h⟩ := bind_eq_some_iff.mp h
                      refine QTri.callV W (a := 0) (as := [.int (1:Int32)]) (rest := []) (w := (some (.int r235.1))) (σ₁ := (H0 r235.2)) rfl rfl rfl rfl rfl rfl rfl rfl (tF20 Ad W r230.2 (1:Int32) hr235) ?_
                      obtain rfl := Option.some.inj h
                      exact QTri.retZ rfl rfl
                     ·refine zF Ad W (t := 490) (f := 488) rfl (XT.ii_eq_f hc234) ?_
                      refine zS Ad W 1 (st' := (489, [none, none, none, none, none, vR 0, none, none, none, none, none, none, none, none, none], [.int (0:Int32)], (H0 r230.2))) rfl ?_
                      obtain rfl := Option.some.inj h
                      exact QTri.retZ rfl rfl
                    rcases em (x0 = x1) with hc233 | hc233
                    ·refine zF Ad W (t := 481) (f := 472) rfl (XT.ii_ne_f hc233) ?_
                     refine zS Ad W 6 (st' := (485, [vI x0, vI x1, vI x2, vI x3, vI x4, vR 0, none, none, none, none, none, none, none, none, none], [.int ((x2 + x3) + x4), .int r230.1], (H0 r230.2))) rfl ?_
                     exact zM [ff,ff,ff,ff,ff,tt,ff,ff,ff,ff,ff,ff,ff,ff,ff] (K232 _ (if_pos hc233).symm)
                    ·refine zT Ad W (t := 481) (f := 472) rfl (XT.ii_ne_t hc233) ?_
                     refine zS Ad W 3 (st' := (485, [vI x0, vI x1, vI x2, vI x3, vI x4, vR 0, none, none, none, none, none, none, none, none, none], [.int (x2 + x4), .int r230.1], (H0 r230.2))) rfl ?_
                     exact zM [ff,ff,ff,ff,ff,tt,ff,ff,ff,ff,ff,ff,ff,ff,ff] (K232 _ (if_neg hc233).symm)
                   ·refine zF Ad W (t := 461) (f := 459) rfl (XT.ii_eq_f hc229) ?_
                    refine zS Ad W 1 (st' := (460, [vI x0, vI x1, vI x2, vI x3, vI x4, vR 0, none, none, none, none, none, none, none, none, none], [.int (0:Int32)], (H0 r225.2))) rfl ?_
                    obtain rfl := Option.some.inj h
                    exact QTri.retZ rfl rfl
                  rcases em (x0 = x1) with hc228 | hc228
                  ·refine zF Ad W (t := 455) (f := 451) rfl (XT.ii_ne_f hc228) ?_
                   refine zS Ad W 2 (st' := (456, [vI x0, vI x1, vI x2, vI x3, vI x4, vR 0, none, none, none, none, none, none, none, none, none], [.int (1:Int32), .int r225.1], (H0 r225.2))) rfl ?_
                   exact zM [tt,tt,tt,tt,tt,tt,ff,ff,ff,ff,ff,ff,ff,ff,ff] (K227 _ (if_pos hc228).symm)
                  ·refine zT Ad W (t := 455) (f := 451) rfl (XT.ii_ne_t hc228) ?_
                   refine zS Ad W 1 (st' := (456, [vI x0, vI x1, vI x2, vI x3, vI x4, vR 0, none, none, none, none, none, none, none, none, none], [.int (0:Int32), .int r225.1], (H0 r225.2))) rfl ?_
                   exact zM [tt,tt,tt,tt,tt,tt,ff,ff,ff,ff,ff,ff,ff,ff,ff] (K227 _ (if_neg hc228).symm)
                 ·refine zF Ad W (t := 440) (f := 438) rfl (XT.ii_eq_f hc220) ?_
                  refine zS Ad W 1 (st' := (439, [vI x0, vI x1, vI x2, vI x3, vI x4, vR 0, none, none, none, none, none, none, none, none, none], [.int (0:Int32)], (H0 r216.2))) rfl ?_
                  obtain rfl := Option.some.inj h
                  exact QTri.retZ rfl rfl
                rcases em (x0 = x1) with hc219 | hc219
                ·refine zF Ad W (t := 434) (f := 430) rfl (XT.ii_ne_f hc219) ?_
                 refine zS Ad W 2 (st' := (435, [vI x0, vI x1, vI x2, vI x3, vI x4, vR 0, vI (if x0 = x1 then (1:Int32) else (2:Int32)), vI (if x0 = x1 then x0 else (if x0 < x1 then x0 else x1)), vI (if x0 = x1 then (0:Int32) else (if x0 < x1 then x1 else x0)), vI (if x0 = x1 then ((x2 + x3) + x4) else (if x0 < x1 then (x2 + x4) else x3)), vI (if x0 = x1 then x2 else (if x0 < x1 then x2 else (0:Int32))), vI (if x0 = x1 then (x3 + x4) else (if x0 < x1 then x4 else x3)), vI (if x0 = x1 then (0:Int32) else (if x0 < x1 then x3 else (x2 + x4))), vI (if x0 = x1 then (0:Int32) else (if x0 < x1 then (0:Int32) else x2)), vI (if x0 = x1 then (0:Int32) else (if x0 < x1 then x3 else x4))], [.int x2, .int r216.1], (H0 r216.2))) rfl ?_
                 exact zM [tt,tt,tt,tt,tt,tt,ff,ff,ff,ff,ff,ff,ff,ff,ff] (K218 _ (if_pos hc219).symm)
                ·refine zT Ad W (t := 434) (f := 430) rfl (XT.ii_ne_t hc219) ?_
                 refine zS Ad W 1 (st' := (435, [vI x0, vI x1, vI x2, vI x3, vI x4, vR 0, vI (if x0 = x1 then (1:Int32) else (2:Int32)), vI (if x0 = x1 then x0 else (if x0 < x1 then x0 else x1)), vI (if x0 = x1 then (0:Int32) else (if x0 < x1 then x1 else x0)), vI (if x0 = x1 then ((x2 + x3) + x4) else (if x0 < x1 then (x2 + x4) else x3)), vI (if x0 = x1 then x2 else (if x0 < x1 then x2 else (0:Int32))), vI (if x0 = x1 then (x3 + x4) else (if x0 < x1 then x4 else x3)), vI (if x0 = x1 then (0:Int32) else (if x0 < x1 then x3 else (x2 + x4))), vI (if x0 = x1 then (0:Int32) else (if x0 < x1 then (0:Int32) else x2)), vI (if x0 = x1 then (0:Int32) else (if x0 < x1 then x3 else x4))], [.int (0:Int32), .int r216.1], (H0 r216.2))) rfl ?_
                 exact zM [tt,tt,tt,tt,tt,tt,ff,ff,ff,ff,ff,ff,ff,ff,ff] (K218 _ (if_neg hc219).symm)
               ·refine zF Ad W (t := 399) (f := 397) rfl (XT.ii_eq_f hc200) ?_
                refine zS Ad W 1 (st' := (398, [vI x0, vI x1, vI x2, vI x3, vI x4, vR 0, vI (if x0 = x1 then (1:Int32) else (2:Int32)), vI (if x0 = x1 then x0 else (if x0 < x1 then x0 else x1)), vI (if x0 = x1 then (0:Int32) else (if x0 < x1 then x1 else x0)), vI (if x0 = x1 then ((x2 + x3) + x4) else (if x0 < x1 then (x2 + x4) else x3)), vI (if x0 = x1 then x2 else (if x0 < x1 then x2 else (0:Int32))), vI (if x0 = x1 then (x3 + x4) else (if x0 < x1 then x4 else x3)), vI (if x0 = x1 then (0:Int32) else (if x0 < x1 then x3 else (x2 + x4))), vI (if x0 = x1 then (0:Int32) else (if x0 < x1 then (0:Int32) else x2)), vI (if x0 = x1 then (0:Int32) else (if x0 < x1 then x3 else x4))], [.int (0:Int32)], (H0 r199.2))) rfl ?_
                obtain rfl := Option.some.inj h
                exact QTri.retZ rfl rfl
              ·refine zF Ad W (t := 385) (f := 383) rfl (XT.ii_eq_f hc198) ?_
               refine zS Ad W 1 (st' := (384, [vI x0, vI x1, vI x2, vI x3, vI x4, vR 0, vI (if x0 = x1 then (1:Int32) else (2:Int32)), vI (if x0 = x1 then x0 else (if x0 < x1 then x0 else x1)), vI (if x0 = x1 then (0:Int32) else (if x0 < x1 then x1 else x0)), vI (if x0 = x1 then ((x2 + x3) + x4) else (if x0 < x1 then (x2 + x4) else x3)), vI (if x0 = x1 then x2 else (if x0 < x1 then x2 else (0:Int32))), vI (if x0 = x1 then (x3 + x4) else (if x0 < x1 then x4 else x3)), vI (if x0 = x1 then (0:Int32) else (if x0 < x1 then x3 else (x2 + x4))), vI (if x0 = x1 then (0:Int32) else (if x0 < x1 then (0:Int32) else x2)), vI (if x0 = x1 then (0:Int32) else (if x0 < x1 then x3 else x4))], [.int (0:Int32)], (H0 r197.2))) rfl ?_
               obtain rfl := Option.some.inj h
               exact QTri.retZ rfl rfl
             ·refine zF Ad W (t := 371) (f := 369) rfl (XT.ii_eq_f hc196) ?_
              refine zS Ad W 1 (st' := (370, [vI x0, vI x1, vI x2, vI x3, vI x4, vR 0, vI (if x0 = x1 then (1:Int32) else (2:Int32)), vI (if x0 = x1 then x0 else (if x0 < x1 then x0 else x1)), vI (if x0 = x1 then (0:Int32) else (if x0 < x1 then x1 else x0)), vI (if x0 = x1 then ((x2 + x3) + x4) else (if x0 < x1 then (x2 + x4) else x3)), vI (if x0 = x1 then x2 else (if x0 < x1 then x2 else (0:Int32))), vI (if x0 = x1 then (x3 + x4) else (if x0 < x1 then x4 else x3)), vI (if x0 = x1 then (0:Int32) else (if x0 < x1 then x3 else (x2 + x4))), vI (if x0 = x1 then (0:Int32) else (if x0 < x1 then (0:Int32) else x2)), vI (if x0 = x1 then (0:Int32) else (if x0 < x1 then x3 else x4))], [.int (0:Int32)], (H0 r195.2))) rfl ?_
              obtain rfl := Option.some.inj h
              exact QTri.retZ rfl rfl
            ·refine zF Ad W (t := 357) (f := 355) rfl (XT.ii_eq_f hc194) ?_
             refine zS Ad W 1 (st' := (356, [vI x0, vI x1, vI x2, vI x3, vI x4, vR 0, vI (if x0 = x1 then (1:Int32) else (2:Int32)), vI (if x0 = x1 then x0 else (if x0 < x1 then x0 else x1)), vI (if x0 = x1 then (0:Int32) else (if x0 < x1 then x1 else x0)), vI (if x0 = x1 then ((x2 + x3) + x4) else (if x0 < x1 then (x2 + x4) else x3)), vI (if x0 = x1 then x2 else (if x0 < x1 then x2 else (0:Int32))), vI (if x0 = x1 then (x3 + x4) else (if x0 < x1 then x4 else x3)), vI (if x0 = x1 then (0:Int32) else (if x0 < x1 then x3 else (x2 + x4))), vI (if x0 = x1 then (0:Int32) else (if x0 < x1 then (0:Int32) else x2)), vI (if x0 = x1 then (0:Int32) else (if x0 < x1 then x3 else x4))], [.int (0:Int32)], (H0 r193.2))) rfl ?_
             obtain rfl := Option.some.inj h
             exact QTri.retZ rfl rfl
           ·refine zF Ad W (t := 343) (f := 341) rfl (XT.ii_eq_f hc192) ?_
            refine zS Ad W 1 (st' := (342, [vI x0, vI x1, vI x2, vI x3, vI x4, vR 0, vI (if x0 = x1 then (1:Int32) else (2:Int32)), vI (if x0 = x1 then x0 else (if x0 < x1 then x0 else x1)), vI (if x0 = x1 then (0:Int32) else (if x0 < x1 then x1 else x0)), vI (if x0 = x1 then ((x2 + x3) + x4) else (if x0 < x1 then (x2 + x4) else x3)), vI (if x0 = x1 then x2 else (if x0 < x1 then x2 else (0:Int32))), vI (if x0 = x1 then (x3 + x4) else (if x0 < x1 then x4 else x3)), vI (if x0 = x1 then (0:Int32) else (if x0 < x1 then x3 else (x2 + x4))), vI (if x0 = x1 then (0:Int32) else (if x0 < x1 then (0:Int32) else x2)), vI (if x0 = x1 then (0:Int32) else (if x0 < x1 then x3 else x4))], [.int (0:Int32)], (H0 r191.2))) rfl ?_
            obtain rfl := Option.some.inj h
            exact QTri.retZ rfl rfl
          ·refine zF Ad W (t := 329) (f := 327) rfl (XT.ii_eq_f hc190) ?_
           refine zS Ad W 1 (st' := (328, [vI x0, vI x1, vI x2, vI x3, vI x4, vR 0, vI (if x0 = x1 then (1:Int32) else (2:Int32)), vI (if x0 = x1 then x0 else (if x0 < x1 then x0 else x1)), vI (if x0 = x1 then (0:Int32) else (if x0 < x1 then x1 else x0)), vI (if x0 = x1 then ((x2 + x3) + x4) else (if x0 < x1 then (x2 + x4) else x3)), vI (if x0 = x1 then x2 else (if x0 < x1 then x2 else (0:Int32))), vI (if x0 = x1 then (x3 + x4) else (if x0 < x1 then x4 else x3)), vI (if x0 = x1 then (0:Int32) else (if x0 < x1 then x3 else (x2 + x4))), vI (if x0 = x1 then (0:Int32) else (if x0 < x1 then (0:Int32) else x2)), vI (if x0 = x1 then (0:Int32) else (if x0 < x1 then x3 else x4))], [.int (0:Int32)], (H0 r189.2))) rfl ?_
           obtain rfl := Option.some.inj h
           exact QTri.retZ rfl rfl
         ·refine zF Ad W (t := 315) (f := 313) rfl (XT.ii_eq_f hc188) ?_
          refine zS Ad W 1 (st' := (314, [vI x0, vI x1, vI x2, vI x3, vI x4, vR 0, vI (if x0 = x1 then (1:Int32) else (2:Int32)), vI (if x0 = x1 then x0 else (if x0 < x1 then x0 else x1)), vI (if x0 = x1 then (0:Int32) else (if x0 < x1 then x1 else x0)), vI (if x0 = x1 then ((x2 + x3) + x4) else (if x0 < x1 then (x2 + x4) else x3)), vI (if x0 = x1 then x2 else (if x0 < x1 then x2 else (0:Int32))), vI (if x0 = x1 then (x3 + x4) else (if x0 < x1 then x4 else x3)), vI (if x0 = x1 then (0:Int32) else (if x0 < x1 then x3 else (x2 + x4))), vI (if x0 = x1 then (0:Int32) else (if x0 < x1 then (0:Int32) else x2)), vI (if x0 = x1 then (0:Int32) else (if x0 < x1 then x3 else x4))], [.int (0:Int32)], (H0 r187.2))) rfl ?_
          obtain rfl := Option.some.inj h
          exact QTri.retZ rfl rfl
        ·refine zF Ad W (t := 299) (f := 297) rfl (XT.ii_eq_f hc186) ?_
         refine zS Ad W 1 (st' := (298, [vI x0, vI x1, vI x2, vI x3, vI x4, vR 0, vI (if x0 = x1 then (1:Int32) else (2:Int32)), vI (if x0 = x1 then x0 else (if x0 < x1 then x0 else x1)), vI (if x0 = x1 then (0:Int32) else (if x0 < x1 then x1 else x0)), vI (if x0 = x1 then ((x2 + x3) + x4) else (if x0 < x1 then (x2 + x4) else x3)), vI (if x0 = x1 then x2 else (if x0 < x1 then x2 else (0:Int32))), vI (if x0 = x1 then (x3 + x4) else (if x0 < x1 then x4 else x3)), vI (if x0 = x1 then (0:Int32) else (if x0 < x1 then x3 else (x2 + x4))), vI (if x0 = x1 then (0:Int32) else (if x0 < x1 then (0:Int32) else x2)), vI (if x0 = x1 then (0:Int32) else (if x0 < x1 then x3 else x4))], [.int (0:Int32)], (H0 r185.2))) rfl ?_
         obtain rfl := Option.some.inj h
         exact QTri.retZ rfl rfl
       ·refine zF Ad W (t := 286) (f := 284) rfl (XT.ii_eq_f hc184) ?_
        refine zS Ad W 1 (st' := (285, [vI x0, vI x1, vI x2, vI x3, vI x4, vR 0, vI (if x0 = x1 then (1:Int32) else (2:Int32)), vI (if x0 = x1 then x0 else (if x0 < x1 then x0 else x1)), vI (if x0 = x1 then (0:Int32) else (if x0 < x1 then x1 else x0)), vI (if x0 = x1 then ((x2 + x3) + x4) else (if x0 < x1 then (x2 + x4) else x3)), vI (if x0 = x1 then x2 else (if x0 < x1 then x2 else (0:Int32))), vI (if x0 = x1 then (x3 + x4) else (if x0 < x1 then x4 else x3)), vI (if x0 = x1 then (0:Int32) else (if x0 < x1 then x3 else (x2 + x4))), vI (if x0 = x1 then (0:Int32) else (if x0 < x1 then (0:Int32) else x2)), vI (if x0 = x1 then (0:Int32) else (if x0 < x1 then x3 else x4))], [.int (0:Int32)], (H0 r183.2))) rfl ?_
        obtain rfl := Option.some.inj h
        exact QTri.retZ rfl rfl
      ·refine zF Ad W (t := 273) (f := 271) rfl (XT.ii_eq_f hc179) ?_
       refine zS Ad W 1 (st' := (272, [vI x0, vI x1, vI x2, vI x3, vI x4, vR 0, vI (if x0 = x1 then (1:Int32) else (2:Int32)), vI (if x0 = x1 then x0 else (if x0 < x1 then x0 else x1)), vI (if x0 = x1 then (0:Int32) else (if x0 < x1 then x1 else x0)), vI (if x0 = x1 then ((x2 + x3) + x4) else (if x0 < x1 then (x2 + x4) else x3)), vI (if x0 = x1 then x2 else (if x0 < x1 then x2 else (0:Int32))), vI (if x0 = x1 then (x3 + x4) else (if x0 < x1 then x4 else x3)), vI (if x0 = x1 then (0:Int32) else (if x0 < x1 then x3 else (x2 + x4))), vI (if x0 = x1 then (0:Int32) else (if x0 < x1 then (0:Int32) else x2)), vI (if x0 = x1 then (0:Int32) else (if x0 < x1 then x3 else x4))], [.int (0:Int32)], (H0 r178.2))) rfl ?_
       obtain rfl := Option.some.inj h
       exact QTri.retZ rfl rfl
     ·refine zF Ad W (t := 255) (f := 253) rfl (XT.ii_eq_f hc149) ?_
      refine zS Ad W 1 (st' := (254, [vI x0, vI x1, vI x2, vI x3, vI x4, vR 0, vI (if x0 = x1 then (1:Int32) else (2:Int32)), vI (if x0 = x1 then x0 else (if x0 < x1 then x0 else x1)), vI (if x0 = x1 then (0:Int32) else (if x0 < x1 then x1 else x0)), vI (if x0 = x1 then ((x2 + x3) + x4) else (if x0 < x1 then (x2 + x4) else x3)), vI (if x0 = x1 then x2 else (if x0 < x1 then x2 else (0:Int32))), vI (if x0 = x1 then (x3 + x4) else (if x0 < x1 then x4 else x3)), vI (if x0 = x1 then (0:Int32) else (if x0 < x1 then x3 else (x2 + x4))), vI (if x0 = x1 then (0:Int32) else (if x0 < x1 then (0:Int32) else x2)), vI (if x0 = x1 then (0:Int32) else (if x0 < x1 then x3 else x4))], [.int (0:Int32)], (H0 r148.2))) rfl ?_
      obtain rfl := Option.some.inj h
      exact QTri.retZ rfl rfl
    ·refine zF Ad W (t := 242) (f := 240) rfl (XT.ii_eq_f hc147) ?_
     refine zS Ad W 1 (st' := (241, [vI x0, vI x1, vI x2, vI x3, vI x4, vR 0, vI (if x0 = x1 then (1:Int32) else (2:Int32)), vI (if x0 = x1 then x0 else (if x0 < x1 then x0 else x1)), vI (if x0 = x1 then (0:Int32) else (if x0 < x1 then x1 else x0)), vI (if x0 = x1 then ((x2 + x3) + x4) else (if x0 < x1 then (x2 + x4) else x3)), vI (if x0 = x1 then x2 else (if x0 < x1 then x2 else (0:Int32))), vI (if x0 = x1 then (x3 + x4) else (if x0 < x1 then x4 else x3)), vI (if x0 = x1 then (0:Int32) else (if x0 < x1 then x3 else (x2 + x4))), vI (if x0 = x1 then (0:Int32) else (if x0 < x1 then (0:Int32) else x2)), vI (if x0 = x1 then (0:Int32) else (if x0 < x1 then x3 else x4))], [.int (0:Int32)], (H0 r146.2))) rfl ?_
     obtain rfl := Option.some.inj h
     exact QTri.retZ rfl rfl
   ·refine zF Ad W (t := 229) (f := 227) rfl (XT.ii_eq_f hc141) ?_
    refine zS Ad W 1 (st' := (228, [vI x0, vI x1, vI x2, vI x3, vI x4, vR 0, vI (if x0 = x1 then (1:Int32) else (2:Int32)), vI (if x0 = x1 then x0 else (if x0 < x1 then x0 else x1)), vI (if x0 = x1 then (0:Int32) else (if x0 < x1 then x1 else x0)), vI (if x0 = x1 then ((x2 + x3) + x4) else (if x0 < x1 then (x2 + x4) else x3)), vI (if x0 = x1 then x2 else (if x0 < x1 then x2 else (0:Int32))), vI (if x0 = x1 then (x3 + x4) else (if x0 < x1 then x4 else x3)), vI (if x0 = x1 then (0:Int32) else (if x0 < x1 then x3 else (x2 + x4))), vI (if x0 = x1 then (0:Int32) else (if x0 < x1 then (0:Int32) else x2)), vI (if x0 = x1 then (0:Int32) else (if x0 < x1 then x3 else x4))], [.int (0:Int32)], (H0 r140.2))) rfl ?_
    obtain rfl := Option.some.inj h
    exact QTri.retZ rfl rfl
  ·refine zF Ad W (t := 218) (f := 216) rfl (XT.ii_eq_f hc138) ?_
   refine zS Ad W 1 (st' := (217, [vI x0, vI x1, vI x2, vI x3, vI x4, vR 0, vI (if x0 = x1 then (1:Int32) else (2:Int32)), vI (if x0 = x1 then x0 else (if x0 < x1 then x0 else x1)), vI (if x0 = x1 then (0:Int32) else (if x0 < x1 then x1 else x0)), vI (if x0 = x1 then ((x2 + x3) + x4) else (if x0 < x1 then (x2 + x4) else x3)), vI (if x0 = x1 then x2 else (if x0 < x1 then x2 else (0:Int32))), vI (if x0 = x1 then (x3 + x4) else (if x0 < x1 then x4 else x3)), vI (if x0 = x1 then (0:Int32) else (if x0 < x1 then x3 else (x2 + x4))), vI (if x0 = x1 then (0:Int32) else (if x0 < x1 then (0:Int32) else x2)), vI (if x0 = x1 then (0:Int32) else (if x0 < x1 then x3 else x4))], [.int (0:Int32)], (H0 r137.2))) rfl ?_
   obtain rfl := Option.some.inj h
   exact QTri.retZ rfl rfl
 rcases em (x0 = x1) with hc109 | hc109
 ·refine zF Ad W (t := 136) (f := 98) rfl (XT.ii_ne_f hc109) ?_
  refine zS Ad W 4 (st' := (104, [vI x0, vI x1, vI x2, vI x3, vI x4, vR 0, vI (1:Int32), vI x0, none, none, none, none, none, none, none], [], (H0 r98.2))) rfl ?_
  refine zS Ad W 8 (st' := (115, [vI x0, vI x1, vI x2, vI x3, vI x4, vR 0, vI (1:Int32), vI x0, vI (0:Int32), vI ((x2 + x3) + x4), none, none, none, none, none], [], (H0 r98.2))) rfl ?_
  refine zS Ad W 6 (st' := (124, [vI x0, vI x1, vI x2, vI x3, vI x4, vR 0, vI (1:Int32), vI x0, vI (0:Int32), vI ((x2 + x3) + x4), vI x2, vI (x3 + x4), none, none, none], [], (H0 r98.2))) rfl ?_
  refine zS Ad W 4 (st' := (130, [vI x0, vI x1, vI x2, vI x3, vI x4, vR 0, vI (1:Int32), vI x0, vI (0:Int32), vI ((x2 + x3) + x4), vI x2, vI (x3 + x4), vI (0:Int32), vI (0:Int32), none], [], (H0 r98.2))) rfl ?_
  refine zS Ad W 3 (st' := (206, [vI x0, vI x1, vI x2, vI x3, vI x4, vR 0, vI (1:Int32), vI x0, vI (0:Int32), vI ((x2 + x3) + x4), vI x2, vI (x3 + x4), vI (0:Int32), vI (0:Int32), vI (0:Int32)], [], (H0 r98.2))) rfl ?_
  exact zM [tt,tt,tt,tt,tt,tt,tt,tt,tt,tt,tt,tt,tt,tt,tt] (K108 _ (if_pos hc109).symm _ (if_pos hc109).symm _ (if_pos hc109).symm _ (if_pos hc109).symm _ (if_pos hc109).symm _ (if_pos hc109).symm _ (if_pos hc109).symm _ (if_pos hc109).symm _ (if_pos hc109).symm)
 ·refine zT Ad W (t := 136) (f := 98) rfl (XT.ii_ne_t hc109) ?_
  refine zS Ad W 2 (st' := (138, [vI x0, vI x1, vI x2, vI x3, vI x4, vR 0, none, none, none, none, none, none, none, none, none], [.int x1, .int x0], (H0 r98.2))) rfl ?_
  rcases em (x0 < x1) with hc110 | hc110
  ·refine zF Ad W (t := 175) (f := 141) rfl (XT.ii_ge_f hc110) ?_
   refine zS Ad W 4 (st' := (147, [vI x0, vI x1, vI x2, vI x3, vI x4, vR 0, vI (2:Int32), vI x0, none, none, none, none, none, none, none], [], (H0 r98.2))) rfl ?_
   refine zS Ad W 6 (st' := (156, [vI x0, vI x1, vI x2, vI x3, vI x4, vR 0, vI (2:Int32), vI x0, vI x1, vI (x2 + x4), none, none, none, none, none], [], (H0 r98.2))) rfl ?_
   refine zS Ad W 4 (st' := (163, [vI x0, vI x1, vI x2, vI x3, vI x4, vR 0, vI (2:Int32), vI x0, vI x1, vI (x2 + x4), vI x2, vI x4, none, none, none], [], (H0 r98.2))) rfl ?_
   refine zS Ad W 4 (st' := (169, [vI x0, vI x1, vI x2, vI x3, vI x4, vR 0, vI (2:Int32), vI x0, vI x1, vI (x2 + x4), vI x2, vI x4, vI x3, vI (0:Int32), none], [], (H0 r98.2))) rfl ?_
   refine zS Ad W 3 (st' := (206, [vI x0, vI x1, vI x2, vI x3, vI x4, vR 0, vI (2:Int32), vI x0, vI x1, vI (x2 + x4), vI x2, vI x4, vI x3, vI (0:Int32), vI x3], [], (H0 r98.2))) rfl ?_
   exact zM [tt,tt,tt,tt,tt,tt,tt,tt,tt,tt,tt,tt,tt,tt,tt] (K108 _ (if_neg hc109).symm _ ((if_neg hc109).trans (if_pos hc110)).symm _ ((if_neg hc109).trans (if_pos hc110)).symm _ ((if_neg hc109).trans (if_pos hc110)).symm _ ((if_neg hc109).trans (if_pos hc110)).symm _ ((if_neg hc109).trans (if_pos hc110)).symm _ ((if_neg hc109).trans (if_pos hc110)).symm _ ((if_neg hc109).trans (if_pos hc110)).symm _ ((if_neg hc109).trans (if_pos hc110)).symm)
  ·refine zT Ad W (t := 175) (f := 141) rfl (XT.ii_ge_t hc110) ?_
   refine zS Ad W 4 (st' := (181, [vI x0, vI x1, vI x2, vI x3, vI x4, vR 0, vI (2:Int32), vI x1, none, none, none, none, none, none, none], [], (H0 r98.2))) rfl ?_
   refine zS Ad W 4 (st' := (187, [vI x0, vI x1, vI x2, vI x3, vI x4, vR 0, vI (2:Int32), vI x1, vI x0, vI x3, none, none, none, none, none], [], (H0 r98.2))) rfl ?_
   refine zS Ad W 4 (st' := (193, [vI x0, vI x1, vI x2, vI x3, vI x4, vR 0, vI (2:Int32), vI x1, vI x0, vI x3, vI (0:Int32), vI x3, none, none, none], [], (H0 r98.2))) rfl ?_
   refine zS Ad W 6 (st' := (202, [vI x0, vI x1, vI x2, vI x3, vI x4, vR 0, vI (2:Int32), vI x1, vI x0, vI x3, vI (0:Int32), vI x3, vI (x2 + x4), vI x2, none], [], (H0 r98.2))) rfl ?_
   refine zS Ad W 2 (st' := (206, [vI x0, vI x1, vI x2, vI x3, vI x4, vR 0, vI (2:Int32), vI x1, vI x0, vI x3, vI (0:Int32), vI x3, vI (x2 + x4), vI x2, vI x4], [], (H0 r98.2))) rfl ?_
   exact zM [tt,tt,tt,tt,tt,tt,tt,tt,tt,tt,tt,tt,tt,tt,tt] (K108 _ (if_neg hc109).symm _ ((if_neg hc109).trans (if_neg hc110)).symm _ ((if_neg hc109).trans (if_neg hc110)).symm _ ((if_neg hc109).trans (if_neg hc110)).symm _ ((if_neg hc109).trans (if_neg hc110)).symm _ ((if_neg hc109).trans (if_neg hc110)).symm _ ((if_neg hc109).trans (if_neg hc110)).symm _ ((if_neg hc109).trans (if_neg hc110)).symm _ ((if_neg hc109).trans (if_neg hc110)).symm)
end Walks
set_option maxHeartbeats 4000000
theorem i_lt {x y : Int32} : x < y ↔ x.toInt < y.toInt := Int32.lt_iff_toInt_lt
theorem i_eq {x y : Int32} : x = y ↔ x.toInt = y.toInt := Int32.toInt_inj.symm
theorem i_lo (x : Int32) : -2147483648 ≤ x.toInt := Int32.le_toInt x
theorem i_hi (x : Int32) : x.toInt < 2147483648 := Int32.toInt_lt x
theorem i_add {x y : Int32} (h1 : -2147483648 ≤ x.toInt + y.toInt) (h2 : x.toInt + y.toInt < 2147483648) : (x + y).toInt = x.toInt + y.toInt := XT.add32 ⟨h1, by omega⟩
theorem i_sub {x y : Int32} (h1 : -2147483648 ≤ x.toInt - y.toInt) (h2 : x.toInt - y.toInt < 2147483648) : (x - y).toInt = x.toInt - y.toInt := XT.sub32 ⟨h1, by omega⟩
theorem i_mul {x y : Int32} (h1 : -2147483648 ≤ x.toInt * y.toInt) (h2 : x.toInt * y.toInt < 2147483648) : (x * y).toInt = x.toInt * y.toInt := XT.mul32 ⟨h1, by omega⟩
theorem i_nat (x : Int32) : x.toNatClampNeg = x.toInt.toNat := rfl
theorem aget_at {α : Type} {xs : List α} {j : Int32} {n : Nat} (hj : j.toInt = n) (hn : n < xs.length) : aget xs j = some xs[n] := by
 have h0 : ¬ j < 0 := by rw [i_lt]; show ¬ j.toInt < 0; omega
 unfold aget
 rw [if_neg h0, i_nat, hj]
 simp [hn]
theorem aget_rep {α : Type} {m : Nat} {a : α} {j : Int32} (h0 : 0 ≤ j.toInt) (h1 : j.toInt < m) : aget (List.replicate m a) j = some a := by
 rw [aget_at (n := j.toInt.toNat) (by omega) (by rw [List.length_replicate]; omega)]
 simp
theorem aset_at {α : Type} {xs : List α} {j : Int32} {n : Nat} {v : α} (hj : j.toInt = n) (hn : n < xs.length) : aset xs j v = some (xs.set n v) := by
 have h0 : ¬ j < 0 := by rw [i_lt]; show ¬ j.toInt < 0; omega
 unfold aset
 have e : j.toNatClampNeg = n := by rw [i_nat, hj]; simp
 rw [if_neg h0, e, if_pos hn]
theorem rep_set {α : Type} (m k : Nat) (a : α) : (List.replicate m a).set k a = List.replicate m a := by
 apply List.ext_getElem (by simp)
 intro i h1 h2
 rw [List.getElem_set]
 split <;> simp
theorem small_cases {x : Int32} (h0 : 0 ≤ x.toInt) {n : Nat} (h1 : x.toInt < n) {P : Int32 → Prop} (h : ∀ m : Nat, m < n → P (Int32.ofInt m)) : P x := by
 have e : Int32.ofInt (x.toInt.toNat : Nat) = x := by
  rw [Int.toNat_of_nonneg h0, Int32.ofInt_toInt]
 rw [← e]
 exact h _ (by omega)
theorem bit_ne {x : Int32} (h0 : 0 ≤ x.toInt) (h1 : x.toInt < 32) : ¬ (((1 : Int32) <<< (x &&& 31)) &&& ((1 : Int32) <<< (x &&& 31))) = 0 :=
 small_cases (P := fun x => ¬ (((1 : Int32) <<< (x &&& 31)) &&& ((1 : Int32) <<< (x &&& 31))) = 0) h0 (n := 32) h1 (by decide)
def okP {α : Type} (m : Option α) (P : α → Prop) : Prop := ∃ a, m = some a ∧ P a
theorem okP.some {α : Type} {a : α} {P : α → Prop} (h : P a) : okP (some a) P := ⟨a, rfl, h⟩
theorem okP.bind {α β : Type} {m : Option α} {f : α → Option β} {P : β → Prop} (h : okP m fun a => okP (f a) P) : okP (m.bind f) P := by
 obtain ⟨a, e, b, e2, h2⟩ := h
 exact ⟨b, by rw [e]; exact e2, h2⟩
theorem okP.ite {α : Type} {c : Prop} [Decidable c] {a b : Option α} {P : α → Prop} (h1 : c → okP a P) (h2 : ¬ c → okP b P) : okP (if c then a else b) P := by
 by_cases h : c
 ·rw [if_pos h]; exact h1 h
 ·rw [if_neg h]; exact h2 h
theorem okP.mono {α : Type} {m : Option α} {P Q : α → Prop} (h : okP m P) (k : ∀ a, P a → Q a) : okP m Q := by
 obtain ⟨a, e, h⟩ := h
 exact ⟨a, e, k a h⟩
theorem okP.of {α : Type} {m : Option α} {a : α} {P : α → Prop} (e : m = Option.some a) (h : P a) : okP m P := ⟨a, e, h⟩
theorem okP.aget {α : Type} {xs : List α} {j : Int32} {P : α → Prop} (h0 : 0 ≤ j.toInt) (h1 : j.toInt < xs.length) (k : ∀ v, xs[j.toInt.toNat]? = Option.some v → P v) : okP (aget xs j) P :=
 ⟨_, aget_at (n := j.toInt.toNat) (by omega) (by omega), k _ (List.getElem?_eq_getElem _)⟩
theorem okP.aset {α : Type} {xs : List α} {j : Int32} {v : α} {P : List α → Prop} (h0 : 0 ≤ j.toInt) (h1 : j.toInt < xs.length) (k : P (xs.set j.toInt.toNat v)) : okP (aset xs j v) P :=
 ⟨_, aset_at (n := j.toInt.toNat) (by omega) (by omega), k⟩
theorem okP.loop {V E : Type} {B : V → Option (E ⊕ V)} {P : E → Prop} {n : Nat} {v : V} (I : V → Prop) (μ : V → Nat) (hv : I v) (hm : μ v < n) (hB : ∀ v, I v → okP (B v) (fun r => Sum.elim P (fun v' => I v' ∧ μ v' < μ v) r)) : okP (loopN B n v) P := by
 refine loopN_inv I P μ ?_ n v hv hm
 intro v hv
 obtain ⟨r, e, h⟩ := hB v hv
 cases r with
 | inl x => exact Or.inl ⟨x, e, h⟩
 | inr x => exact Or.inr ⟨x, e, h⟩
theorem len_i {n : Nat} (h : n ≤ 1000) : (n.toInt32).toInt = n := by
 have e : n.toInt32 = Int32.ofInt n := rfl
 rw [e, Int32.toInt_ofInt_of_le (by show _ ≤ (n : Int); omega) (by show (n : Int) < _; omega)]
theorem and1 (x : Int32) : x &&& 1 = 0 ∨ x &&& 1 = 1 := by
 have e : (x &&& 1).toBitVec = x.toBitVec &&& 1#32 := rfl
 have h := BitVec.and_one_eq_setWidth_ofBool_getLsbD (x := x.toBitVec)
 cases g : x.toBitVec.getLsbD 0
 ·left; apply Int32.toBitVec_inj.1; rw [e, h, g]; rfl
 ·right; apply Int32.toBitVec_inj.1; rw [e, h, g]; rfl
theorem okP.not {α : Type} {m : Option α} {a : α} {P : α → Prop} (h : okP m P) (e : m = Option.some a) : P a := by
 obtain ⟨b, e2, h⟩ := h
 rw [e] at e2
 exact (Option.some.inj e2) ▸ h
theorem and_rng {x m : Int32} (hm : 0 ≤ m.toInt) : 0 ≤ (x &&& m).toInt ∧ (x &&& m).toInt ≤ m.toInt := by
 have e : (x &&& m).toBitVec.toNat = x.toBitVec.toNat &&& m.toBitVec.toNat := BitVec.toNat_and ..
 have l : (x &&& m).toBitVec.toNat ≤ m.toBitVec.toNat := by rw [e]; exact Nat.and_le_right
 have c1 : m.toInt = if 2 * m.toBitVec.toNat < 2 ^ 32 then (m.toBitVec.toNat : Int) else m.toBitVec.toNat - (2 ^ 32 : Nat) := BitVec.toInt_eq_toNat_cond m.toBitVec
 have c2 : (x &&& m).toInt = if 2 * (x &&& m).toBitVec.toNat < 2 ^ 32 then ((x &&& m).toBitVec.toNat : Int) else (x &&& m).toBitVec.toNat - (2 ^ 32 : Nat) := BitVec.toInt_eq_toNat_cond (x &&& m).toBitVec
 have b : m.toBitVec.toNat < 2 ^ 32 := m.toBitVec.isLt
 by_cases h : 2 * m.toBitVec.toNat < 2 ^ 32
 ·rw [if_pos h] at c1
  rw [if_pos (by omega)] at c2
  omega
 ·rw [if_neg h] at c1
  omega
theorem mod_rng {x m : Int32} (hx : 0 ≤ x.toInt) (hm : 0 < m.toInt) : 0 ≤ (x % m).toInt ∧ (x % m).toInt < m.toInt := by
 rw [Int32.toInt_mod, Int.tmod_eq_emod_of_nonneg hx]
 exact ⟨Int.emod_nonneg _ (by omega), Int.emod_lt_of_pos _ hm⟩
def sFit (s : List Int32) (τ : QHeap) : Prop := τ.length - List.length ([Sum.inr (Sum.inl (FieldType.int, s))] : QHeap) ≤ room_1.cells ∧ qhs τ - qhs [Sum.inr (Sum.inl (FieldType.int, s))] ≤ room_1.slots
theorem inc1 {x : Int32} (h : x.toInt < 2147483647) : (x + 1).toInt = x.toInt + 1 := by
 have := i_lo x
 have e1 : (1 : Int32).toInt = 1 := rfl
 rw [i_add (by omega) (by omega), e1]
abbrev Core := List Int32 × List Int32 × Int32 × Int32 × Int32 × Int32 × Int32 × Int32 × List Int32 × List Int32 × List Int32
def core (o : Ob) : Core := (f_data o, f_filled o, f_nRows o, f_nForms o, f_rf o, f_cf o, f_vf o, f_ag o, f_fMode o, f_fRk o, f_fCk o)
def kDa (K : Core) : List Int32 := K.1
def kG (K : Core) : List Int32 := K.2.1
def kR (K : Core) : Int32 := K.2.2.1
def kN (K : Core) : Int32 := K.2.2.2.1
def krf (K : Core) : Int32 := K.2.2.2.2.1
def kcf (K : Core) : Int32 := K.2.2.2.2.2.1
def kvf (K : Core) : Int32 := K.2.2.2.2.2.2.1
def kag (K : Core) : Int32 := K.2.2.2.2.2.2.2.1
def kM (K : Core) : List Int32 := K.2.2.2.2.2.2.2.2.1
def kFa (K : Core) : List Int32 := K.2.2.2.2.2.2.2.2.2.1
def kFb (K : Core) : List Int32 := K.2.2.2.2.2.2.2.2.2.2
def WF (K : Core) : Prop := (kDa K).length = 128 ∧ (kG K).length = 32 ∧ (∀ r, r < 32 → (kG K)[r]? = some 0 ∨ (kG K)[r]? = some 1) ∧ (4 ≤ (kR K).toInt ∧ (kR K).toInt ≤ 32) ∧ (1 ≤ (kN K).toInt ∧ (kN K).toInt ≤ 16) ∧ (0 ≤ (krf K).toInt ∧ (krf K).toInt < 4) ∧ (0 ≤ (kcf K).toInt ∧ (kcf K).toInt < 4) ∧ (0 ≤ (kvf K).toInt ∧ (kvf K).toInt < 4) ∧ (kM K).length = 16 ∧ (kFa K).length = 16 ∧ (kFb K).length = 16
theorem WF.d {K : Core} (h : WF K) : (kDa K).length = 128 := h.1
theorem WF.g {K : Core} (h : WF K) : (kG K).length = 32 := h.2.1
theorem WF.b {K : Core} (h : WF K) : ∀ r, r < 32 → (kG K)[r]? = some 0 ∨ (kG K)[r]? = some 1 := h.2.2.1
theorem WF.r {K : Core} (h : WF K) : 4 ≤ (kR K).toInt ∧ (kR K).toInt ≤ 32 := h.2.2.2.1
theorem WF.n {K : Core} (h : WF K) : 1 ≤ (kN K).toInt ∧ (kN K).toInt ≤ 16 := h.2.2.2.2.1
theorem WF.rf {K : Core} (h : WF K) : 0 ≤ (krf K).toInt ∧ (krf K).toInt < 4 := h.2.2.2.2.2.1
theorem WF.cf {K : Core} (h : WF K) : 0 ≤ (kcf K).toInt ∧ (kcf K).toInt < 4 := h.2.2.2.2.2.2.1
theorem WF.vf {K : Core} (h : WF K) : 0 ≤ (kvf K).toInt ∧ (kvf K).toInt < 4 := h.2.2.2.2.2.2.2.1
theorem WF.m {K : Core} (h : WF K) : (kM K).length = 16 := h.2.2.2.2.2.2.2.2.1
theorem WF.a {K : Core} (h : WF K) : (kFa K).length = 16 := h.2.2.2.2.2.2.2.2.2.1
theorem WF.c {K : Core} (h : WF K) : (kFb K).length = 16 := h.2.2.2.2.2.2.2.2.2.2
def Sh (K : Core) (L : Int32) (o : Ob) : Prop := core o = K ∧ f_last o = L ∧ (f_prevVal o).length = 16 ∧ (f_prevFound o).length = 16 ∧ (f_keys o).length = 64
theorem Sh.D {K : Core} {L : Int32} {o : Ob} (h : Sh K L o) : f_data o = kDa K := by rw [← h.1]; rfl
theorem Sh.G {K : Core} {L : Int32} {o : Ob} (h : Sh K L o) : f_filled o = kG K := by rw [← h.1]; rfl
theorem Sh.R {K : Core} {L : Int32} {o : Ob} (h : Sh K L o) : f_nRows o = kR K := by rw [← h.1]; rfl
theorem Sh.N {K : Core} {L : Int32} {o : Ob} (h : Sh K L o) : f_nForms o = kN K := by rw [← h.1]; rfl
theorem Sh.rf {K : Core} {L : Int32} {o : Ob} (h : Sh K L o) : f_rf o = krf K := by rw [← h.1]; rfl
theorem Sh.cf {K : Core} {L : Int32} {o : Ob} (h : Sh K L o) : f_cf o = kcf K := by rw [← h.1]; rfl
theorem Sh.vf {K : Core} {L : Int32} {o : Ob} (h : Sh K L o) : f_vf o = kvf K := by rw [← h.1]; rfl
theorem Sh.ag {K : Core} {L : Int32} {o : Ob} (h : Sh K L o) : f_ag o = kag K := by rw [← h.1]; rfl
theorem Sh.M {K : Core} {L : Int32} {o : Ob} (h : Sh K L o) : f_fMode o = kM K := by rw [← h.1]; rfl
theorem Sh.A {K : Core} {L : Int32} {o : Ob} (h : Sh K L o) : f_fRk o = kFa K := by rw [← h.1]; rfl
theorem Sh.B {K : Core} {L : Int32} {o : Ob} (h : Sh K L o) : f_fCk o = kFb K := by rw [← h.1]; rfl
theorem Sh.prevVal {K : Core} {L : Int32} {o : Ob} (h : Sh K L o) {x : List Int32} (l : x.length = 16) : Sh K L (s_prevVal o x) := ⟨h.1, h.2.1, l, h.2.2.2.1, h.2.2.2.2⟩
theorem Sh.prevFound {K : Core} {L : Int32} {o : Ob} (h : Sh K L o) {x : List Int32} (l : x.length = 16) : Sh K L (s_prevFound o x) := ⟨h.1, h.2.1, h.2.2.1, l, h.2.2.2.2⟩
theorem Sh.keys {K : Core} {L : Int32} {o : Ob} (h : Sh K L o) {x : List Int32} (l : x.length = 64) : Sh K L (s_keys o x) := ⟨h.1, h.2.1, h.2.2.1, h.2.2.2.1, l⟩
theorem Sh.selUseR {K : Core} {L : Int32} {o : Ob} (h : Sh K L o) {x : Int32} : Sh K L (s_selUseR o x) := h
theorem Sh.selRk {K : Core} {L : Int32} {o : Ob} (h : Sh K L o) {x : Int32} : Sh K L (s_selRk o x) := h
theorem Sh.selUseC {K : Core} {L : Int32} {o : Ob} (h : Sh K L o) {x : Int32} : Sh K L (s_selUseC o x) := h
theorem Sh.selCk {K : Core} {L : Int32} {o : Ob} (h : Sh K L o) {x : Int32} : Sh K L (s_selCk o x) := h
theorem Sh.gCount {K : Core} {L : Int32} {o : Ob} (h : Sh K L o) {x : Int32} : Sh K L (s_gCount o x) := h
theorem Sh.gVal {K : Core} {L : Int32} {o : Ob} (h : Sh K L o) {x : Int32} : Sh K L (s_gVal o x) := h
theorem Sh.last {K : Core} {L : Int32} {o : Ob} (h : Sh K L o) {x : Int32} : Sh K x (s_last o x) := ⟨h.1, rfl, h.2.2⟩
def fld (K : Core) (r : Nat) (f : Int32) : Int32 := ((kDa K)[r * 4 + f.toInt.toNat]?).getD 0
def fil (K : Core) (r : Nat) : Bool := ((kG K)[r]?).getD 0 != 0
def cnd (K : Core) (u a w b : Int32) (r : Nat) : Bool := fil K r && ((u == 0 || fld K r (krf K) == a) && (w == 0 || fld K r (kcf K) == b))
def vN (K : Core) (u a w b : Int32) (n : Nat) : List Int32 := ((List.range n).filter (cnd K u a w b)).map (fun r => fld K r (kvf K))
def stp (x : Int32 × Int32 × Int32 × Int32) (v : Int32) : Int32 × Int32 × Int32 × Int32 := (x.1 + v, x.2.1 + 1, (if x.2.1 = 0 then v else if v < x.2.2.1 then v else x.2.2.1), (if x.2.1 = 0 then v else if x.2.2.2 < v then v else x.2.2.2))
def ev (l : List Int32) : Int32 × Int32 × Int32 × Int32 := l.foldl stp (0, 0, 0, 0)
def pick (ag : Int32) (x : Int32 × Int32 × Int32 × Int32) : Int32 := if x.2.1 = 0 then 0 else if ag = 1 then x.2.1 else if ag = 2 then x.2.2.1 else if ag = 3 then x.2.2.2 else x.1
def nR (K : Core) : Nat := (kR K).toInt.toNat
def grp (K : Core) (u a w b : Int32) : Int32 × Int32 := (pick (kag K) (ev (vN K u a w b (nR K))), (ev (vN K u a w b (nR K))).2.1)
def ins (v : Int32) : List Int32 → List Int32
 | [] => [v]
 | k :: t => if k < v then k :: ins v t else if k = v then k :: t else v :: k :: t
def keyN (K : Core) (f : Int32) (n : Nat) : List Int32 := ((List.range n).filter (fil K)).foldl (fun l r => ins (fld K r f) l) []
def kys (K : Core) (f : Int32) : List Int32 := keyN K f (nR K)
theorem vN_s (K : Core) (u a w b : Int32) (n : Nat) : vN K u a w b (n + 1) = if cnd K u a w b n then vN K u a w b n ++ [fld K n (kvf K)] else vN K u a w b n := by
 unfold vN
 rw [List.range_succ, List.filter_append, List.map_append]
 by_cases h : cnd K u a w b n = true
 ·rw [if_pos h, List.filter_cons_of_pos h]; rfl
 ·rw [if_neg h, List.filter_cons_of_neg h]; simp
theorem ev_s (l : List Int32) (v : Int32) : ev (l ++ [v]) = stp (ev l) v := by
 unfold ev
 rw [List.foldl_append]; rfl
theorem keyN_s (K : Core) (f : Int32) (n : Nat) : keyN K f (n + 1) = if fil K n then ins (fld K n f) (keyN K f n) else keyN K f n := by
 unfold keyN
 rw [List.range_succ, List.filter_append, List.foldl_append]
 by_cases h : fil K n = true
 ·rw [if_pos h, List.filter_cons_of_pos h]; rfl
 ·rw [if_neg h, List.filter_cons_of_neg h]; rfl
theorem ag_fil {K : Core} (w : WF K) {i : Int32} (h0 : 0 ≤ i.toInt) (h1 : i.toInt < 32) : aget (kG K) i = some (((kG K)[i.toInt.toNat]?).getD 0) := by
 rw [aget_at (n := i.toInt.toNat) (by omega) (by rw [w.g]; omega), List.getElem?_eq_getElem (by rw [w.g]; omega)]; rfl
theorem idx {r f : Int32} (h : 0 ≤ r.toInt ∧ r.toInt < 32) (g : 0 ≤ f.toInt ∧ f.toInt < 4) : (r * 4 + f).toInt = r.toInt * 4 + f.toInt := by
 have e4 : (r * 4).toInt = r.toInt * 4 := i_mul (x := r) (y := 4) (by show _ ≤ r.toInt * 4; omega) (by show r.toInt * 4 < _; omega)
 rw [i_add (by omega) (by omega), e4]
theorem ag_fld {K : Core} (w : WF K) {r f : Int32} (h : 0 ≤ r.toInt ∧ r.toInt < 32) (g : 0 ≤ f.toInt ∧ f.toInt < 4) : aget (kDa K) (r * 4 + f) = some (fld K r.toInt.toNat f) := by
 have e := idx h g
 unfold fld
 rw [aget_at (n := r.toInt.toNat * 4 + f.toInt.toNat) (by omega) (by rw [w.d]; omega), List.getElem?_eq_getElem (by rw [w.d]; omega)]; rfl
theorem eval_ok {K : Core} (wf : WF K) {L : Int32} {o : Ob} (h : Sh K L o) (u a w b : Int32) : F14 o u a w b = some (s_gVal (s_gCount o (grp K u a w b).2) (grp K u a w b).1) := by
 have r32 := wf.r
 unfold F14
 have lp : okP (loopN (B14_15 o u a w b) qN (0, 0, 0, 0, 0)) (fun e => e = ev (vN K u a w b (nR K))) := by
  refine okP.loop (fun v => 0 ≤ v.2.2.2.2.toInt ∧ v.2.2.2.2.toInt ≤ (kR K).toInt ∧ (v.1, v.2.1, v.2.2.1, v.2.2.2.1) = ev (vN K u a w b v.2.2.2.2.toInt.toNat)) (fun v => ((kR K).toInt - v.2.2.2.2.toInt).toNat) ⟨by show (0 : Int) ≤ 0; decide, by show (0 : Int) ≤ (kR K).toInt; omega, rfl⟩ (by show ((kR K).toInt - (0 : Int)).toNat < 4000; omega) ?_
  rintro ⟨x1, x2, x3, x4, i⟩ ⟨a1, a2, a3⟩
  simp only at a1 a2 a3
  unfold B14_15
  simp only
  rw [h.R]
  apply okP.ite <;> intro c
  ·rw [i_lt] at c
   have e2 : (i + 1).toInt = i.toInt + 1 := inc1 (by omega)
   have en : (i + 1).toInt.toNat = i.toInt.toNat + 1 := by omega
   have no : ∀ (y1 y2 y3 y4 : Int32), (y1, y2, y3, y4) = ev (vN K u a w b (i.toInt.toNat + 1)) → okP (J14_152 o u a w b y1 y2 y3 y4 i) (fun r => Sum.elim (fun e => e = ev (vN K u a w b (nR K))) (fun v => (0 ≤ v.2.2.2.2.toInt ∧ v.2.2.2.2.toInt ≤ (kR K).toInt ∧ (v.1, v.2.1, v.2.2.1, v.2.2.2.1) = ev (vN K u a w b v.2.2.2.2.toInt.toNat)) ∧ ((kR K).toInt - v.2.2.2.2.toInt).toNat < ((kR K).toInt - i.toInt).toNat) r) := by
    intro y1 y2 y3 y4 hy
    unfold J14_152
    apply okP.some
    exact ⟨⟨by simp only; omega, by simp only; omega, by simp only [en]; exact hy⟩, by simp only; omega⟩
   have skip : cnd K u a w b i.toInt.toNat = false → okP (J14_152 o u a w b x1 x2 x3 x4 i) (fun r => Sum.elim (fun e => e = ev (vN K u a w b (nR K))) (fun v => (0 ≤ v.2.2.2.2.toInt ∧ v.2.2.2.2.toInt ≤ (kR K).toInt ∧ (v.1, v.2.1, v.2.2.1, v.2.2.2.1) = ev (vN K u a w b v.2.2.2.2.toInt.toNat)) ∧ ((kR K).toInt - v.2.2.2.2.toInt).toNat < ((kR K).toInt - i.toInt).toNat) r) := by
    intro hc
    exact no _ _ _ _ (by rw [vN_s, hc]; exact a3)
   rw [h.G, ag_fil wf a1 (by omega)]
   simp only [Option.bind_some]
   by_cases f0 : ((kG K)[i.toInt.toNat]?).getD 0 = 0
   ·rw [if_pos f0]
    exact skip (by unfold cnd fil; rw [f0]; rfl)
   rw [if_neg f0]
   have fi : fil K i.toInt.toNat = true := by unfold fil; rw [bne_iff_ne]; exact f0
   have take : cnd K u a w b i.toInt.toNat = true → okP (J14_90 o u a w b x1 x2 x3 x4 i (i * 4)) (fun r => Sum.elim (fun e => e = ev (vN K u a w b (nR K))) (fun v => (0 ≤ v.2.2.2.2.toInt ∧ v.2.2.2.2.toInt ≤ (kR K).toInt ∧ (v.1, v.2.1, v.2.2.1, v.2.2.2.1) = ev (vN K u a w b v.2.2.2.2.toInt.toNat)) ∧ ((kR K).toInt - v.2.2.2.2.toInt).toNat < ((kR K).toInt - i.toInt).toNat) r) := by
    intro hc
    unfold J14_90
    rw [h.D, h.vf, ag_fld wf ⟨a1, by omega⟩ wf.vf]
    simp only [Option.bind_some]
    exact no _ _ _ _ (by rw [vN_s, hc, if_pos rfl, ev_s, ← a3]; rfl)
   have col : (u == 0 || fld K i.toInt.toNat (krf K) == a) = true → okP (J14_66 o u a w b x1 x2 x3 x4 i (i * 4)) (fun r => Sum.elim (fun e => e = ev (vN K u a w b (nR K))) (fun v => (0 ≤ v.2.2.2.2.toInt ∧ v.2.2.2.2.toInt ≤ (kR K).toInt ∧ (v.1, v.2.1, v.2.2.1, v.2.2.2.1) = ev (vN K u a w b v.2.2.2.2.toInt.toNat)) ∧ ((kR K).toInt - v.2.2.2.2.toInt).toNat < ((kR K).toInt - i.toInt).toNat) r) := by
    intro hr
    unfold J14_66
    by_cases w0 : w = 0
    ·rw [if_pos w0]
     exact take (by unfold cnd; rw [fi, hr, w0]; rfl)
    ·rw [if_neg w0, h.D, h.cf, ag_fld wf ⟨a1, by omega⟩ wf.cf]
     simp only [Option.bind_some]
     by_cases e : fld K i.toInt.toNat (kcf K) = b
     ·rw [if_pos e]
      exact take (by unfold cnd; rw [fi, hr, e]; simp)
     ·rw [if_neg e]
      exact skip (by unfold cnd; rw [fi, hr, beq_false_of_ne w0, beq_false_of_ne e]; rfl)
   by_cases u0 : u = 0
   ·rw [if_pos u0]
    exact col (by rw [u0]; rfl)
   ·rw [if_neg u0, h.D, h.rf, ag_fld wf ⟨a1, by omega⟩ wf.rf]
    simp only [Option.bind_some]
    by_cases e : fld K i.toInt.toNat (krf K) = a
    ·rw [if_pos e]
     exact col (by rw [e]; simp)
    ·rw [if_neg e]
     exact skip (by unfold cnd; rw [fi, beq_false_of_ne u0, beq_false_of_ne e]; rfl)
  ·rw [i_lt] at c
   apply okP.some
   have : i.toInt.toNat = nR K := by unfold nR; omega
   rw [this] at a3
   exact a3
 obtain ⟨e, he, ee⟩ := lp
 rw [he, ee]
 simp only [Option.bind_some]
 have pk : ∀ (x1 x2 x3 x4 : Int32) (p : Ob), f_ag p = kag K → F15 p x2 x1 x3 x4 = some (pick (kag K) (x1, x2, x3, x4)) := by
  intro x1 x2 x3 x4 p hp
  unfold F15 pick
  rw [hp]
  simp only
  split
  ·rfl
  split
  ·rfl
  split
  ·rfl
  split <;> rfl
 have pk' := pk (ev (vN K u a w b (nR K))).1 (ev (vN K u a w b (nR K))).2.1 (ev (vN K u a w b (nR K))).2.2.1 (ev (vN K u a w b (nR K))).2.2.2 (s_gCount o (ev (vN K u a w b (nR K))).2.1) h.ag
 rw [pk']
 rfl
def ltP (v : Int32) : List Int32 → Nat
 | [] => 0
 | k :: t => if k < v then ltP v t + 1 else 0
theorem ltP_le (v : Int32) : ∀ l : List Int32, ltP v l ≤ l.length
 | [] => Nat.le_refl 0
 | k :: t => by
  unfold ltP
  split
  ·exact Nat.succ_le_succ (ltP_le v t)
  ·exact Nat.zero_le _
theorem ltP_lt {v : Int32} : ∀ {l : List Int32} {i : Nat} {k : Int32}, i < ltP v l → l[i]? = some k → k < v
 | [], i, k, h, _ => absurd h (Nat.not_lt_zero _)
 | x :: t, i, k, h, g => by
  unfold ltP at h
  by_cases c : x < v
  ·rw [if_pos c] at h
   cases i with
   | zero => rw [List.getElem?_cons_zero] at g; cases g; exact c
   | succ j => rw [List.getElem?_cons_succ] at g; exact ltP_lt (by omega) g
  ·rw [if_neg c] at h; exact absurd h (Nat.not_lt_zero _)
theorem ltP_ge {v : Int32} : ∀ {l : List Int32} {k : Int32}, l[ltP v l]? = some k → ¬ k < v
 | [], k, g => by cases g
 | x :: t, k, g => by
  unfold ltP at g
  by_cases c : x < v
  ·rw [if_pos c, List.getElem?_cons_succ] at g; exact ltP_ge g
  ·rw [if_neg c, List.getElem?_cons_zero] at g; cases g; exact c
theorem ins_same {v : Int32} : ∀ {l : List Int32}, l[ltP v l]? = some v → ins v l = l
 | [], g => by cases g
 | x :: t, g => by
  unfold ltP at g
  unfold ins
  by_cases c : x < v
  ·rw [if_pos c, List.getElem?_cons_succ] at g
   rw [if_pos c, ins_same g]
  ·rw [if_neg c, List.getElem?_cons_zero] at g
   rw [if_neg c, if_pos (by cases g; rfl)]
theorem ins_new {v : Int32} : ∀ {l : List Int32}, l[ltP v l]? ≠ some v → ins v l = l.take (ltP v l) ++ v :: l.drop (ltP v l)
 | [], _ => rfl
 | x :: t, g => by
  unfold ltP at g
  unfold ins ltP
  by_cases c : x < v
  ·rw [if_pos c, List.getElem?_cons_succ] at g
   rw [if_pos c, if_pos c, ins_new g]; rfl
  ·rw [if_neg c, List.getElem?_cons_zero] at g
   rw [if_neg c, if_neg c, if_neg (by intro e; exact g (by rw [e]))]; rfl
theorem ins_len (v : Int32) (l : List Int32) : (ins v l).length ≤ l.length + 1 := by
 by_cases g : l[ltP v l]? = some v
 ·rw [ins_same g]; omega
 ·rw [ins_new g]
  have := ltP_le v l
  simp only [List.length_append, List.length_take, List.length_cons, List.length_drop]; omega
theorem keyN_len (K : Core) (f : Int32) : ∀ n, (keyN K f n).length ≤ n
 | 0 => Nat.le_refl 0
 | n + 1 => by
  have := keyN_len K f n
  rw [keyN_s]
  split
  ·have := ins_len (fld K n f) (keyN K f n); omega
  ·omega
def Seg (X : List Int32) (b : Nat) (k : List Int32) : Prop := ∀ i, i < k.length → X[b + i]? = k[i]?
theorem ag_n {X : List Int32} {j : Int32} {n : Nat} {v : Int32} (hj : j.toInt = n) (h : X[n]? = some v) : aget X j = some v := by
 unfold aget
 rw [if_neg (by rw [i_lt]; show ¬ j.toInt < 0; omega), i_nat, hj, Int.toNat_natCast]
 exact h
theorem ins_ok {K : Core} {L : Int32} {o : Ob} (h : Sh K L o) {b n v : Int32} {k : List Int32} {U : Nat} (hb : b.toInt = U) (hU : U + 32 ≤ 64) (hn : n.toInt = k.length) (hk : k.length < 32) (hs : Seg (f_keys o) U k) : okP (F9 o b n v) (fun r => r.1.toInt = (ins v k).length ∧ ∃ X, r.2 = s_keys o X ∧ X.length = 64 ∧ Seg X U (ins v k) ∧ ∀ j, j < U ∨ U + 32 ≤ j → X[j]? = (f_keys o)[j]?) := by
 have lk := h.2.2.2.2
 have z0 : (0 : Int32).toInt = 0 := rfl
 have z1 : (1 : Int32).toInt = 1 := rfl
 have z32 : (32 : Int32).toInt = 32 := rfl
 have pl := ltP_le v k
 have same : s_keys o (f_keys o) = o := rfl
 unfold F9
 rw [if_neg (by rw [i_lt, z0]; omega), if_pos (by rw [i_lt, z32]; omega)]
 have l1 : okP (loopN (B9_15 o b n v) qN 0) (fun p => p.toInt = ltP v k) := by
  refine okP.loop (fun p => 0 ≤ p.toInt ∧ p.toInt ≤ ltP v k) (fun p => (32 - p.toInt).toNat) ⟨by show (0 : Int) ≤ 0; decide, by show (0 : Int) ≤ ltP v k; omega⟩ (by show (32 - (0 : Int)).toNat < 4000; decide) ?_
  rintro p ⟨a1, a2⟩
  unfold B9_15
  apply okP.ite <;> intro c
  ·rw [i_lt] at c
   have e : (b + p).toInt = (U + p.toInt.toNat : Nat) := by rw [i_add (by omega) (by omega)]; omega
   have g := hs p.toInt.toNat (by omega)
   rw [List.getElem?_eq_getElem (l := k) (by omega)] at g
   rw [ag_n e g]
   simp only [Option.bind_some]
   apply okP.ite <;> intro d
   ·apply okP.some
    have : p.toInt.toNat ≠ ltP v k := fun q => ltP_ge (l := k) (by rw [← q]; exact List.getElem?_eq_getElem (by omega)) d
    have e2 : (p + 1).toInt = p.toInt + 1 := inc1 (by omega)
    exact ⟨⟨by omega, by omega⟩, by omega⟩
   ·apply okP.some
    have : ¬ p.toInt.toNat < ltP v k := fun q => d (ltP_lt q (List.getElem?_eq_getElem (by omega)))
    show p.toInt = _
    omega
  ·rw [i_lt] at c
   apply okP.some
   show p.toInt = _
   omega
 apply okP.bind
 refine okP.mono l1 ?_
 intro p hp
 have new : k[ltP v k]? ≠ some v → okP (J9_61 o b n v p) (fun r => r.1.toInt = (ins v k).length ∧ ∃ X, r.2 = s_keys o X ∧ X.length = 64 ∧ Seg X U (ins v k) ∧ ∀ j, j < U ∨ U + 32 ≤ j → X[j]? = (f_keys o)[j]?) := by
  intro ne
  unfold J9_61
  apply okP.bind
  have l2 : okP (loopN (B9_64 b n v p) qN (n, o)) (fun q => ∃ X, q = s_keys o X ∧ X.length = 64 ∧ (∀ i, i ≤ ltP v k → X[U + i]? = (f_keys o)[U + i]?) ∧ (∀ i, ltP v k < i → i ≤ k.length → X[U + i]? = (f_keys o)[U + (i - 1)]?) ∧ ∀ j, j < U ∨ U + 32 ≤ j → X[j]? = (f_keys o)[j]?) := by
   refine okP.loop (fun w => (ltP v k : Int) ≤ w.1.toInt ∧ w.1.toInt ≤ k.length ∧ ∃ X, w.2 = s_keys o X ∧ X.length = 64 ∧ (∀ i, i ≤ w.1.toInt.toNat → X[U + i]? = (f_keys o)[U + i]?) ∧ (∀ i, w.1.toInt.toNat < i → i ≤ k.length → X[U + i]? = (f_keys o)[U + (i - 1)]?) ∧ ∀ j, j < U ∨ U + 32 ≤ j → X[j]? = (f_keys o)[j]?) (fun w => w.1.toInt.toNat) ⟨by simp only; omega, by simp only; omega, f_keys o, same.symm, lk, fun _ _ => rfl, fun i a b => by simp only at a; omega, fun _ _ => rfl⟩ (by show n.toInt.toNat < 4000; omega) ?_
   rintro ⟨i, q⟩ ⟨a1, a2, X, a3, a4, a5, a6, a7⟩
   simp only at a1 a2 a3 a5 a6
   subst a3
   unfold B9_64
   simp only
   apply okP.ite <;> intro c
   ·rw [i_lt] at c
    have kx : f_keys (s_keys o X) = X := rfl
    have kxx : ∀ Y, s_keys (s_keys o X) Y = s_keys o Y := fun _ => rfl
    rw [kx]
    have e1 : (b + i).toInt = (U + i.toInt.toNat : Nat) := by rw [i_add (by omega) (by omega)]; omega
    have e2 : (b + i - 1).toInt = (U + (i.toInt.toNat - 1) : Nat) := by rw [i_sub (by rw [e1, z1]; omega) (by rw [e1, z1]; omega), e1, z1]; omega
    obtain ⟨y, hy⟩ : ∃ y, X[U + (i.toInt.toNat - 1)]? = some y := ⟨_, List.getElem?_eq_getElem (by omega)⟩
    rw [ag_n e2 hy]
    clear e2
    simp only [Option.bind_some]
    rw [aset_at e1 (by omega)]
    clear e1
    simp only [Option.bind_some]
    rw [kxx]
    apply okP.some
    obtain ⟨i', hi'⟩ : ∃ i' : Int32, i' = i + -1 := ⟨_, rfl⟩
    rw [← hi']
    have e3 : i'.toInt = i.toInt - 1 := by
     have m1 : (-1 : Int32).toInt = -1 := rfl
     rw [hi', i_add (by rw [m1]; omega) (by rw [m1]; omega), m1]; omega
    clear hi'
    refine ⟨⟨by simp only; omega, by simp only; omega, _, rfl, by rw [List.length_set]; exact a4, ?_, ?_, ?_⟩, by simp only; omega⟩
    ·intro j hj
     simp only at hj
     rw [List.getElem?_set_ne (by omega)]
     exact a5 j (by omega)
    ·intro j hj1 hj2
     simp only at hj1
     by_cases e : j = i.toInt.toNat
     ·rw [e, List.getElem?_set_self (by omega), ← hy]
      exact a5 _ (by omega)
     ·rw [List.getElem?_set_ne (by omega)]
      exact a6 j (by omega) hj2
    ·intro j hj
     rw [List.getElem?_set_ne (by omega)]
     exact a7 j hj
   ·rw [i_lt] at c
    have : i.toInt.toNat = ltP v k := by omega
    rw [this] at a5 a6
    exact okP.some ⟨X, rfl, a4, a5, a6, a7⟩
  refine okP.mono l2 ?_
  rintro q ⟨X, rfl, a4, a5, a6, a7⟩
  have kx : f_keys (s_keys o X) = X := rfl
  have kxx : ∀ Y, s_keys (s_keys o X) Y = s_keys o Y := fun _ => rfl
  rw [kx]
  have e1 : (b + p).toInt = (U + ltP v k : Nat) := by rw [i_add (by omega) (by omega)]; omega
  rw [aset_at e1 (by omega)]
  simp only [Option.bind_some]
  rw [kxx]
  have il : (ins v k).length = k.length + 1 := by
   rw [ins_new ne]
   simp only [List.length_append, List.length_take, List.length_cons, List.length_drop]; omega
  refine okP.some ⟨by simp only; rw [inc1 (by omega), il]; omega, _, rfl, by rw [List.length_set]; exact a4, ?_, ?_⟩
  ·intro i hi
   rw [il] at hi
   rw [ins_new ne]
   by_cases c : i < ltP v k
   ·rw [List.getElem?_set_ne (by omega), a5 i (by omega), hs i (by omega), List.getElem?_append_left (by rw [List.length_take]; omega), List.getElem?_take, if_pos c]
   ·have lt : (List.take (ltP v k) k).length = ltP v k := by rw [List.length_take]; omega
    rw [List.getElem?_append_right (by omega), lt]
    by_cases d : i = ltP v k
    ·rw [d, List.getElem?_set_self (by omega), Nat.sub_self]; rfl
    ·rw [List.getElem?_set_ne (by omega), a6 i (by omega) (by omega), hs (i - 1) (by omega), show i - ltP v k = (i - 1 - ltP v k) + 1 by omega, List.getElem?_cons_succ, List.getElem?_drop]
     congr 1; omega
  ·intro j hj
   rw [List.getElem?_set_ne (by omega)]
   exact a7 j hj
 unfold J9_40
 apply okP.ite <;> intro c
 ·rw [i_lt] at c
  have e1 : (b + p).toInt = (U + ltP v k : Nat) := by rw [i_add (by omega) (by omega)]; omega
  have g := hs (ltP v k) (by omega)
  rw [List.getElem?_eq_getElem (l := k) (by omega)] at g
  rw [ag_n e1 g]
  simp only [Option.bind_some]
  apply okP.ite <;> intro d
  ·have s := ins_same (v := v) (l := k) (by rw [List.getElem?_eq_getElem (by omega), d])
   rw [s]
   exact okP.some ⟨hn, f_keys o, same.symm, lk, hs, fun _ _ => rfl⟩
  ·exact new (by rw [List.getElem?_eq_getElem (by omega)]; intro q; exact d (Option.some.inj q))
 ·rw [i_lt] at c
  exact new (by rw [List.getElem?_eq_none (by omega)]; intro q; cases q)
theorem keys_ok {K : Core} (wf : WF K) {L : Int32} {o : Ob} (h : Sh K L o) {f b : Int32} {U : Nat} (hf : 0 ≤ f.toInt ∧ f.toInt < 4) (hb : b.toInt = U) (hU : U + 32 ≤ 64) : okP (F8 o f b) (fun r => r.1.toInt = (kys K f).length ∧ ∃ X, r.2 = s_keys o X ∧ X.length = 64 ∧ Seg X U (kys K f) ∧ ∀ j, j < U ∨ U + 32 ≤ j → X[j]? = (f_keys o)[j]?) := by
 have r32 := wf.r
 unfold F8
 apply okP.bind
 refine okP.loop (fun v => 0 ≤ v.2.1.toInt ∧ v.2.1.toInt ≤ (kR K).toInt ∧ v.1.toInt = (keyN K f v.2.1.toInt.toNat).length ∧ ∃ X, v.2.2 = s_keys o X ∧ X.length = 64 ∧ Seg X U (keyN K f v.2.1.toInt.toNat) ∧ ∀ j, j < U ∨ U + 32 ≤ j → X[j]? = (f_keys o)[j]?) (fun v => ((kR K).toInt - v.2.1.toInt).toNat) ⟨by show (0 : Int) ≤ 0; decide, by show (0 : Int) ≤ (kR K).toInt; omega, rfl, f_keys o, rfl, h.2.2.2.2, fun i hi => absurd hi (Nat.not_lt_zero _), fun _ _ => rfl⟩ (by show ((kR K).toInt - (0 : Int)).toNat < 4000; omega) ?_
 rintro ⟨n, i, p⟩ ⟨a1, a2, a3, X, a4, a5, a6, a7⟩
 simp only at a1 a2 a3 a4 a6
 subst a4
 have hX := h.keys a5
 have kx : f_keys (s_keys o X) = X := rfl
 have kl := keyN_len K f i.toInt.toNat
 unfold B8_5 J8_42
 simp only
 rw [hX.R]
 apply okP.ite <;> intro c
 ·rw [i_lt] at c
  have e2 : (i + 1).toInt = i.toInt + 1 := inc1 (by omega)
  have en : (i + 1).toInt.toNat = i.toInt.toNat + 1 := by omega
  rw [hX.G, ag_fil wf a1 (by omega)]
  simp only [Option.bind_some]
  by_cases f0 : ((kG K)[i.toInt.toNat]?).getD 0 = 0
  ·rw [if_pos f0]
   have fi : fil K i.toInt.toNat = false := by unfold fil; rw [f0]; rfl
   apply okP.some
   refine ⟨⟨by simp only; omega, by simp only; omega, ?_, X, rfl, a5, ?_, a7⟩, by simp only; omega⟩
   ·simp only [en]; rw [keyN_s, fi]; exact a3
   ·simp only [en]; rw [keyN_s, fi]; exact a6
  ·rw [if_neg f0, hX.D, ag_fld wf ⟨a1, by omega⟩ hf]
   simp only [Option.bind_some]
   have fi : fil K i.toInt.toNat = true := by unfold fil; rw [bne_iff_ne]; exact f0
   apply okP.bind
   refine okP.mono (ins_ok hX (v := fld K i.toInt.toNat f) hb hU a3 (by omega) a6) ?_
   rintro r ⟨b1, Y, b2, b3, b4, b5⟩
   apply okP.some
   refine ⟨⟨by simp only; omega, by simp only; omega, ?_, Y, b2, b3, ?_, fun j hj => (b5 j hj).trans (a7 j hj)⟩, by simp only; omega⟩
   ·simp only [en]; rw [keyN_s, fi]; exact b1
   ·simp only [en]; rw [keyN_s, fi]; exact b4
 ·rw [i_lt] at c
  have : i.toInt.toNat = nR K := by unfold nR; omega
  rw [this] at a3 a6
  exact okP.some (okP.some ⟨a3, X, rfl, a5, a6, a7⟩)
def rk (K : Core) (f i : Int32) : Int32 := if i.toInt < 0 then 0 else ((kys K f)[i.toInt.toNat]?).getD 0
def inR (K : Core) (f i : Int32) : Prop := i = -1 ∨ (0 ≤ i.toInt ∧ i.toInt < (kys K f).length)
instance (K : Core) (f i : Int32) : Decidable (inR K f i) := by unfold inR; infer_instance
def pv (K : Core) (i j : Int32) : Int32 × Int32 := if inR K (krf K) i ∧ inR K (kcf K) j then grp K (if i = -1 then 0 else 1) (if i = -1 then 0 else rk K (krf K) i) (if j = -1 then 0 else 1) (if j = -1 then 0 else rk K (kcf K) j) else (0, 0)
theorem seg_get {X k : List Int32} {U : Nat} {j i : Int32} (hs : Seg X U k) (hj : j.toInt = U + i.toInt) (i0 : 0 ≤ i.toInt) (i1 : i.toInt < k.length) : aget X j = some ((k[i.toInt.toNat]?).getD 0) := by
 have g := hs i.toInt.toNat (by omega)
 rw [List.getElem?_eq_getElem (l := k) (by omega)] at g ⊢
 exact ag_n (n := U + i.toInt.toNat) (by omega) g
theorem kys_len {K : Core} (wf : WF K) (f : Int32) : (kys K f).length ≤ 32 := by
 have := keyN_len K f (nR K)
 have r := wf.r
 unfold kys
 unfold nR at this ⊢
 omega
theorem resolve_ok {K : Core} (wf : WF K) {L : Int32} {o : Ob} (h : Sh K L o) (i j : Int32) : okP (F13 o i j) (fun r => Sh K L r.2 ∧ ((r.1 = 0 ∧ ¬ (inR K (krf K) i ∧ inR K (kcf K) j)) ∨ (r.1 = 1 ∧ (inR K (krf K) i ∧ inR K (kcf K) j) ∧ f_selUseR r.2 = (if i = -1 then 0 else 1) ∧ f_selRk r.2 = (if i = -1 then 0 else rk K (krf K) i) ∧ f_selUseC r.2 = (if j = -1 then 0 else 1) ∧ f_selCk r.2 = (if j = -1 then 0 else rk K (kcf K) j)))) := by
 have z0 : (0 : Int32).toInt = 0 := rfl
 have z32 : (32 : Int32).toInt = 32 := rfl
 have m1 : (-1 : Int32).toInt = -1 := rfl
 unfold F13
 rw [h.rf]
 apply okP.bind
 refine okP.mono (keys_ok wf h (U := 0) wf.rf rfl (by decide)) ?_
 rintro ⟨n1, p1⟩ ⟨a1, X, a2, a3, a4, _⟩
 simp only at a1 a2
 subst a2
 have h1 := h.keys a3
 rw [h1.cf]
 apply okP.bind
 refine okP.mono (keys_ok wf h1 (U := 32) wf.cf rfl (by decide)) ?_
 rintro ⟨n2, p2⟩ ⟨b1, Y, b2, b3, b4, b5⟩
 simp only at b1 b2
 subst b2
 have h2 := h1.keys b3
 have s1 : Seg Y 0 (kys K (krf K)) := fun t ht => by
  have := kys_len wf (krf K)
  rw [b5 (0 + t) (by omega)]
  exact a4 t ht
 have kY : f_keys (s_keys (s_keys o X) Y) = Y := rfl
 obtain ⟨q, hq⟩ : ∃ q, q = s_keys (s_keys o X) Y := ⟨_, rfl⟩
 rw [← hq] at h2 kY ⊢
 clear hq
 have g55 : inR K (krf K) i → inR K (kcf K) j → okP (J13_55 q i j) (fun r => Sh K L r.2 ∧ ((r.1 = 0 ∧ ¬ (inR K (krf K) i ∧ inR K (kcf K) j)) ∨ (r.1 = 1 ∧ (inR K (krf K) i ∧ inR K (kcf K) j) ∧ f_selUseR r.2 = (if i = -1 then 0 else 1) ∧ f_selRk r.2 = (if i = -1 then 0 else rk K (krf K) i) ∧ f_selUseC r.2 = (if j = -1 then 0 else 1) ∧ f_selCk r.2 = (if j = -1 then 0 else rk K (kcf K) j)))) := by
  intro hi hj
  have g87 : ∀ (p : Ob) (w : Int32), Sh K L p → f_keys p = Y → f_selUseR p = (if i = -1 then 0 else 1) → w = (if i = -1 then 0 else rk K (krf K) i) → okP (J13_87 p j w) (fun r => Sh K L r.2 ∧ ((r.1 = 0 ∧ ¬ (inR K (krf K) i ∧ inR K (kcf K) j)) ∨ (r.1 = 1 ∧ (inR K (krf K) i ∧ inR K (kcf K) j) ∧ f_selUseR r.2 = (if i = -1 then 0 else 1) ∧ f_selRk r.2 = (if i = -1 then 0 else rk K (krf K) i) ∧ f_selUseC r.2 = (if j = -1 then 0 else 1) ∧ f_selCk r.2 = (if j = -1 then 0 else rk K (kcf K) j)))) := by
   intro p w hp hY hu hw
   unfold J13_87 J13_125
   by_cases e : j = -1
   ·simp only [if_pos e]
    rw [show qboo 0 = some 0 from rfl]
    simp only [Option.bind_some, if_true]
    exact okP.some ⟨(((hp.selRk).selUseC).selCk), Or.inr ⟨rfl, ⟨hi, hj⟩, hu, hw, rfl, rfl⟩⟩
   ·simp only [if_neg e]
    rw [show qboo 1 = some 1 from rfl]
    simp only [Option.bind_some]
    rw [if_neg (by decide), hY]
    rcases hj with hj | hj
    ·exact absurd hj e
    have kl := kys_len wf (kcf K)
    rw [seg_get b4 (i := j) (by rw [i_add (by omega) (by omega), z32]; rfl) hj.1 hj.2]
    simp only [Option.bind_some]
    refine okP.some ⟨(((hp.selRk).selUseC).selCk), Or.inr ⟨rfl, ⟨hi, Or.inr hj⟩, hu, hw, rfl, ?_⟩⟩
    unfold rk
    rw [if_neg (by omega)]; rfl
  unfold J13_55
  by_cases e : i = -1
  ·simp only [if_pos e]
   rw [show qboo 0 = some 0 from rfl]
   simp only [Option.bind_some, if_true]
   have := g87 (s_selUseR q 0) 0 h2.selUseR kY (by rw [if_pos e]; rfl) (by rw [if_pos e])
   simp only [if_pos e] at this
   exact this
  ·simp only [if_neg e]
   rw [show qboo 1 = some 1 from rfl]
   simp only [Option.bind_some]
   rw [if_neg (by decide), kY]
   have hi' := hi
   rcases hi' with hi' | hi'
   ·exact absurd hi' e
   rw [seg_get s1 (i := i) (by omega) hi'.1 hi'.2]
   simp only [Option.bind_some]
   have := g87 (s_selUseR q 1) (((kys K (krf K))[i.toInt.toNat]?).getD 0) h2.selUseR kY (by rw [if_neg e]; rfl) (by rw [if_neg e]; unfold rk; rw [if_neg (by omega)])
   simp only [if_neg e] at this
   exact this
 have g38 : inR K (krf K) i → okP (J13_38 q i j n2) (fun r => Sh K L r.2 ∧ ((r.1 = 0 ∧ ¬ (inR K (krf K) i ∧ inR K (kcf K) j)) ∨ (r.1 = 1 ∧ (inR K (krf K) i ∧ inR K (kcf K) j) ∧ f_selUseR r.2 = (if i = -1 then 0 else 1) ∧ f_selRk r.2 = (if i = -1 then 0 else rk K (krf K) i) ∧ f_selUseC r.2 = (if j = -1 then 0 else 1) ∧ f_selCk r.2 = (if j = -1 then 0 else rk K (kcf K) j)))) := by
  intro hi
  unfold J13_38
  by_cases e : j = -1
  ·rw [if_pos e]
   exact g55 hi (Or.inl e)
  rw [if_neg e]
  apply okP.ite <;> intro c
  ·rw [i_lt, z0] at c
   exact okP.some ⟨h2, Or.inl ⟨rfl, fun q => by rcases q.2 with q | q; exact e q; omega⟩⟩
  rw [i_lt, z0] at c
  apply okP.ite <;> intro d
  ·rw [i_lt] at d
   exact g55 hi (Or.inr ⟨by omega, by omega⟩)
  ·rw [i_lt] at d
   exact okP.some ⟨h2, Or.inl ⟨rfl, fun q => by rcases q.2 with q | q; exact e q; omega⟩⟩
 simp only
 by_cases e : i = -1
 ·rw [if_pos e]
  exact g38 (Or.inl e)
 rw [if_neg e]
 apply okP.ite <;> intro c
 ·rw [i_lt, z0] at c
  exact okP.some ⟨h2, Or.inl ⟨rfl, fun q => by rcases q.1 with q | q; exact e q; omega⟩⟩
 rw [i_lt, z0] at c
 apply okP.ite <;> intro d
 ·rw [i_lt] at d
  exact g38 (Or.inr ⟨by omega, by omega⟩)
 ·rw [i_lt] at d
  exact okP.some ⟨h2, Or.inl ⟨rfl, fun q => by rcases q.1 with q | q; exact e q; omega⟩⟩
theorem value_ok {K : Core} (wf : WF K) {L : Int32} {o : Ob} (h : Sh K L o) (i j : Int32) : okP (F12 o i j) (fun r => r.1 = (pv K i j).1 ∧ Sh K L r.2) := by
 unfold F12
 apply okP.bind
 refine okP.mono (resolve_ok wf h i j) ?_
 rintro ⟨r, p⟩ ⟨hp, ⟨r0, no⟩ | ⟨r1, yes, u1, u2, u3, u4⟩⟩
 ·simp only at r0 hp ⊢
  subst r0
  rw [if_pos rfl]
  unfold pv
  rw [if_neg no]
  exact okP.some ⟨rfl, hp⟩
 ·simp only at r1 hp u1 u2 u3 u4 ⊢
  subst r1
  rw [if_neg (by decide), eval_ok wf hp, u1, u2, u3, u4]
  simp only [Option.bind_some]
  unfold pv
  rw [if_pos yes]
  exact okP.some ⟨rfl, hp.gCount.gVal⟩
theorem count_ok {K : Core} (wf : WF K) {L : Int32} {o : Ob} (h : Sh K L o) (i j : Int32) : okP (F16 o i j) (fun r => r.1 = (pv K i j).2 ∧ Sh K L r.2) := by
 unfold F16
 apply okP.bind
 refine okP.mono (resolve_ok wf h i j) ?_
 rintro ⟨r, p⟩ ⟨hp, ⟨r0, no⟩ | ⟨r1, yes, u1, u2, u3, u4⟩⟩
 ·simp only at r0 hp ⊢
  subst r0
  rw [if_pos rfl]
  unfold pv
  rw [if_neg no]
  exact okP.some ⟨rfl, hp⟩
 ·simp only at r1 hp u1 u2 u3 u4 ⊢
  subst r1
  rw [if_neg (by decide), eval_ok wf hp, u1, u2, u3, u4]
  simp only [Option.bind_some]
  unfold pv
  rw [if_pos yes]
  exact okP.some ⟨rfl, hp.gCount.gVal⟩
theorem rkc_ok {K : Core} (wf : WF K) {L : Int32} {o : Ob} (h : Sh K L o) : okP (F7 o) (fun r => r.1.toInt = (kys K (krf K)).length ∧ Sh K L r.2) := by
 unfold F7
 rw [h.rf]
 apply okP.bind
 refine okP.mono (keys_ok wf h (U := 0) wf.rf rfl (by decide)) ?_
 rintro ⟨n1, p1⟩ ⟨a1, X, a2, a3, a4, _⟩
 simp only at a1 a2 ⊢
 subst a2
 exact okP.some ⟨a1, h.keys a3⟩
theorem ckc_ok {K : Core} (wf : WF K) {L : Int32} {o : Ob} (h : Sh K L o) : okP (F10 o) (fun r => r.1.toInt = (kys K (kcf K)).length ∧ Sh K L r.2) := by
 unfold F10
 rw [h.cf]
 apply okP.bind
 refine okP.mono (keys_ok wf h (U := 32) wf.cf rfl (by decide)) ?_
 rintro ⟨n1, p1⟩ ⟨a1, X, a2, a3, a4, _⟩
 simp only at a1 a2 ⊢
 subst a2
 exact okP.some ⟨a1, h.keys a3⟩
theorem rk_out {K : Core} {f i : Int32} (h : i.toInt < 0 ∨ (kys K f).length ≤ i.toInt) : rk K f i = 0 := by
 unfold rk
 by_cases c : i.toInt < 0
 ·rw [if_pos c]
 ·rw [if_neg c, List.getElem?_eq_none (by omega)]; rfl
theorem rowKey_ok {K : Core} (wf : WF K) {L : Int32} {o : Ob} (h : Sh K L o) (i : Int32) : okP (F11 o i) (fun r => r.1 = rk K (krf K) i ∧ Sh K L r.2) := by
 have z0 : (0 : Int32).toInt = 0 := rfl
 unfold F11
 rw [h.rf]
 apply okP.bind
 refine okP.mono (keys_ok wf h (U := 0) wf.rf rfl (by decide)) ?_
 rintro ⟨n1, p1⟩ ⟨a1, X, a2, a3, a4, _⟩
 simp only at a1 a2 ⊢
 subst a2
 apply okP.ite <;> intro c
 ·rw [i_lt, z0] at c
  exact okP.some ⟨(rk_out (Or.inl c)).symm, h.keys a3⟩
 rw [i_lt, z0] at c
 apply okP.ite <;> intro d
 ·rw [i_lt] at d
  rw [show f_keys (s_keys o X) = X from rfl, seg_get a4 (i := i) (by omega) (by omega) (by omega)]
  exact okP.some ⟨by unfold rk; rw [if_neg c], h.keys a3⟩
 ·rw [i_lt] at d
  exact okP.some ⟨(rk_out (Or.inr (by omega))).symm, h.keys a3⟩
def mo (K : Core) (s : Nat) : Int32 := ((kM K)[s]?).getD 0
def fm (K : Core) (s : Nat) : Int32 × Int32 := if mo K s = 0 then (0, 0) else grp K (if mo K s = 1 then 1 else if mo K s = 2 then 1 else 0) (((kFa K)[s]?).getD 0) (if mo K s = 1 then 1 else if mo K s = 3 then 1 else 0) (((kFb K)[s]?).getD 0)
def fnd (K : Core) (s : Nat) : Int32 := if 0 < (fm K s).2 then 1 else 0
def nN (K : Core) : Nat := (kN K).toInt.toNat
theorem ag_16 {X : List Int32} (l : X.length = 16) {i : Int32} (h0 : 0 ≤ i.toInt) (h1 : i.toInt < 16) : aget X i = some ((X[i.toInt.toNat]?).getD 0) := by
 rw [aget_at (n := i.toInt.toNat) (by omega) (by omega), List.getElem?_eq_getElem (by omega)]; rfl
theorem form_ok {K : Core} (wf : WF K) {L : Int32} {o : Ob} (h : Sh K L o) {s : Int32} (s0 : 0 ≤ s.toInt) (s1 : s.toInt < 16) : okP (F5 o s) (fun r => r = s_gVal (s_gCount o (fm K s.toInt.toNat).2) (fm K s.toInt.toNat).1) := by
 unfold F5
 rw [h.M, ag_16 wf.m s0 s1]
 simp only [Option.bind_some]
 show okP (if mo K s.toInt.toNat = 0 then _ else _) _
 unfold fm
 by_cases e : mo K s.toInt.toNat = 0
 ·rw [if_pos e, if_pos e]
  exact okP.some (by dsimp only [s_gCount, s_gVal])
 ·rw [if_neg e, if_neg e, h.A, ag_16 wf.a s0 s1, h.B, ag_16 wf.c s0 s1]
  simp only [Option.bind_some]
  rw [eval_ok wf h]
  exact okP.some rfl
def Pv (K : Core) (o : Ob) (n : Nat) : Prop := ∀ s, s < n → (f_prevVal o)[s]? = some (fm K s).1 ∧ (f_prevFound o)[s]? = some (fnd K s)
theorem bit1 (c : Prop) [Decidable c] : (if c then (1 : Int32) else 0) &&& 1 = if c then 1 else 0 := by
 split <;> rfl
theorem snap_ok {K : Core} (wf : WF K) {L : Int32} {o : Ob} (h : Sh K L o) : okP (F4 o) (fun r => Sh K L r ∧ Pv K r (nN K)) := by
 have n16 := wf.n
 unfold F4
 apply okP.bind
 refine okP.loop (fun w => 0 ≤ w.1.toInt ∧ w.1.toInt ≤ (kN K).toInt ∧ Sh K L w.2 ∧ Pv K w.2 w.1.toInt.toNat) (fun w => ((kN K).toInt - w.1.toInt).toNat) ⟨by show (0 : Int) ≤ 0; decide, by show (0 : Int) ≤ _; omega, h, fun s hs => absurd hs (Nat.not_lt_zero _)⟩ (by show ((kN K).toInt - (0 : Int)).toNat < 4000; omega) ?_
 rintro ⟨w, p⟩ ⟨a1, a2, hp, P⟩
 simp only at a1 a2 hp P
 unfold B4_2
 simp only
 rw [hp.N]
 apply okP.ite <;> intro c
 ·rw [i_lt] at c
  have e2 : (w + 1).toInt = w.toInt + 1 := inc1 (by omega)
  apply okP.bind
  refine okP.mono (form_ok wf hp a1 (by omega)) ?_
  rintro r rfl
  have h1 : Sh K L (s_gVal (s_gCount p (fm K w.toInt.toNat).2) (fm K w.toInt.toNat).1) := hp.gCount.gVal
  obtain ⟨q, hq⟩ : ∃ q, q = s_gVal (s_gCount p (fm K w.toInt.toNat).2) (fm K w.toInt.toNat).1 := ⟨_, rfl⟩
  have g1 : f_gVal q = (fm K w.toInt.toNat).1 := by rw [hq]; rfl
  have g2 : f_gCount q = (fm K w.toInt.toNat).2 := by rw [hq]; rfl
  have g3 : f_prevVal q = f_prevVal p := by rw [hq]; rfl
  have g4 : f_prevFound q = f_prevFound p := by rw [hq]; rfl
  rw [← hq] at h1 ⊢
  clear hq
  rw [g1, g2, bit1]
  have l1 := h1.2.2.1
  have l2 := h1.2.2.2.1
  apply okP.bind
  refine okP.aset a1 (by omega) ?_
  apply okP.bind
  refine okP.aset a1 (by omega) ?_
  apply okP.some
  refine ⟨⟨by simp only; omega, by simp only; omega, (h1.prevVal (by rw [List.length_set]; exact l1)).prevFound (by rw [List.length_set]; exact l2), ?_⟩, by simp only; omega⟩
  intro s hs
  simp only at hs
  show ((f_prevVal q).set w.toInt.toNat (fm K w.toInt.toNat).1)[s]? = _ ∧ ((f_prevFound q).set w.toInt.toNat (fnd K w.toInt.toNat))[s]? = _
  by_cases e : s = w.toInt.toNat
  ·rw [e, List.getElem?_set_self (by omega), List.getElem?_set_self (by omega)]
   exact ⟨rfl, rfl⟩
  ·rw [List.getElem?_set_ne (by omega), List.getElem?_set_ne (by omega), g3, g4]
   exact P s (by omega)
 ·rw [i_lt] at c
  have : w.toInt.toNat = nN K := by unfold nN; omega
  rw [this] at P
  exact okP.some (okP.some ⟨hp, P⟩)
def chg (K K' : Core) (s : Nat) : Bool := !((fm K' s).1 == (fm K s).1 && fnd K' s == fnd K s)
def cc (K K' : Core) (n : Nat) : Nat := ((List.range n).filter (chg K K')).length
theorem cc_s (K K' : Core) (n : Nat) : cc K K' (n + 1) = if chg K K' n then cc K K' n + 1 else cc K K' n := by
 unfold cc
 rw [List.range_succ, List.filter_append, List.length_append]
 by_cases h : chg K K' n = true
 ·rw [if_pos h, List.filter_cons_of_pos h]; rfl
 ·rw [if_neg h, List.filter_cons_of_neg h]; rfl
theorem cc_le (K K' : Core) (n : Nat) : cc K K' n ≤ n := by
 have := List.length_filter_le (chg K K') (List.range n)
 rw [List.length_range] at this
 exact this
theorem cc_comm (K K' : Core) (n : Nat) : cc K K' n = cc K' K n := by
 have : chg K K' = chg K' K := by
  funext s
  unfold chg
  rw [Bool.beq_comm (a := (fm K' s).1), Bool.beq_comm (a := fnd K' s)]
 unfold cc
 rw [this]
theorem chd_ok {K K' : Core} (wf : WF K') {L : Int32} {o : Ob} (h : Sh K' L o) (P : Pv K o (nN K')) : okP (F6 o) (fun r => r.1.toInt = cc K K' (nN K') ∧ Sh K' L r.2) := by
 have n16 := wf.n
 unfold F6
 apply okP.bind
 refine okP.loop (fun w => 0 ≤ w.2.1.toInt ∧ w.2.1.toInt ≤ (kN K').toInt ∧ w.1.toInt = cc K K' w.2.1.toInt.toNat ∧ Sh K' L w.2.2 ∧ Pv K w.2.2 (nN K')) (fun w => ((kN K').toInt - w.2.1.toInt).toNat) ⟨by show (0 : Int) ≤ 0; decide, by show (0 : Int) ≤ _; omega, rfl, h, P⟩ (by show ((kN K').toInt - (0 : Int)).toNat < 4000; omega) ?_
 rintro ⟨n, w, p⟩ ⟨a1, a2, a3, hp, P⟩
 simp only at a1 a2 a3 hp P
 have cl := cc_le K K' w.toInt.toNat
 unfold B6_4 J6_53 J6_56
 simp only
 rw [hp.N]
 apply okP.ite <;> intro c
 ·rw [i_lt] at c
  have e2 : (w + 1).toInt = w.toInt + 1 := inc1 (by omega)
  have en : (w + 1).toInt.toNat = w.toInt.toNat + 1 := by omega
  apply okP.bind
  refine okP.mono (form_ok wf hp a1 (by omega)) ?_
  rintro r rfl
  have h1 : Sh K' L (s_gVal (s_gCount p (fm K' w.toInt.toNat).2) (fm K' w.toInt.toNat).1) := hp.gCount.gVal
  have P1 : Pv K (s_gVal (s_gCount p (fm K' w.toInt.toNat).2) (fm K' w.toInt.toNat).1) (nN K') := P
  obtain ⟨q, hq⟩ : ∃ q, q = s_gVal (s_gCount p (fm K' w.toInt.toNat).2) (fm K' w.toInt.toNat).1 := ⟨_, rfl⟩
  have g1 : f_gVal q = (fm K' w.toInt.toNat).1 := by rw [hq]; rfl
  have g2 : f_gCount q = (fm K' w.toInt.toNat).2 := by rw [hq]; rfl
  rw [← hq] at h1 P1 ⊢
  clear hq
  rw [g1, g2]
  obtain ⟨p1, p2⟩ := P1 w.toInt.toNat (by unfold nN; omega)
  rw [ag_n (n := w.toInt.toNat) (by omega) p1]
  simp only [Option.bind_some]
  have i1 : n.toInt < 2147483647 := by omega
  have i2 := inc1 i1
  apply okP.ite <;> intro d
  ·rw [ag_n (n := w.toInt.toNat) (by omega) p2]
   simp only [Option.bind_some]
   apply okP.some
   refine ⟨⟨by simp only; omega, by simp only; omega, ?_, h1, P1⟩, by simp only; omega⟩
   simp only [en]
   rw [cc_s]
   show (if fnd K' w.toInt.toNat = fnd K w.toInt.toNat then n else n + 1).toInt = _
   by_cases e : fnd K' w.toInt.toNat = fnd K w.toInt.toNat
   ·rw [if_pos e, show chg K K' w.toInt.toNat = false from by unfold chg; rw [d, e]; simp]
    exact a3
   ·rw [if_neg e, show chg K K' w.toInt.toNat = true from by unfold chg; rw [d, beq_false_of_ne e]; simp, if_pos rfl, i2, a3]; rfl
  ·apply okP.some
   refine ⟨⟨by simp only; omega, by simp only; omega, ?_, h1, P1⟩, by simp only; omega⟩
   simp only [en]
   rw [cc_s, show chg K K' w.toInt.toNat = true from by unfold chg; rw [beq_false_of_ne d]; simp, if_pos rfl, i2, a3]; rfl
 ·rw [i_lt] at c
  have : w.toInt.toNat = nN K' := by unfold nN; omega
  rw [this] at a3
  exact okP.some (okP.some ⟨a3, hp⟩)
theorem row_ok {K : Core} {L : Int32} {o : Ob} (h : Sh K L o) (x : Int32) : F3 o x = some (if 0 ≤ x.toInt ∧ x.toInt < (kR K).toInt then 1 else 0) := by
 have z0 : (0 : Int32).toInt = 0 := rfl
 unfold F3
 rw [h.R]
 by_cases a : x < 0
 ·rw [if_pos a, if_neg (by rw [i_lt, z0] at a; omega)]
 ·rw [if_neg a]
  rw [i_lt, z0] at a
  by_cases b : x < kR K
  ·rw [if_pos b, if_pos (by rw [i_lt] at b; omega)]
  ·rw [if_neg b, if_neg (by rw [i_lt] at b; omega)]
def kSet (K : Core) (r f : Nat) (v : Int32) : Core := ((kDa K).set (r * 4 + f) v, (kG K).set r 1, K.2.2)
def kClr (K : Core) (r : Nat) : Core := (((((kDa K).set (r * 4 + 0) 0).set (r * 4 + 1) 0).set (r * 4 + 2) 0).set (r * 4 + 3) 0, (kG K).set r 0, K.2.2)
def kPiv (K : Core) (a b c g : Int32) : Core := (K.1, K.2.1, K.2.2.1, K.2.2.2.1, a, b, c, g, K.2.2.2.2.2.2.2.2)
def kFor (K : Core) (s : Nat) (m a b : Int32) : Core := (K.1, K.2.1, K.2.2.1, K.2.2.2.1, K.2.2.2.2.1, K.2.2.2.2.2.1, K.2.2.2.2.2.2.1, K.2.2.2.2.2.2.2.1, (kM K).set s m, (kFa K).set s a, (kFb K).set s b)
theorem WF.set {K : Core} (w : WF K) {r f : Nat} {v : Int32} (hr : r < 32) : WF (kSet K r f v) := by
 refine ⟨?_, ?_, ?_, w.2.2.2⟩
 ·show ((kDa K).set (r * 4 + f) v).length = 128
  rw [List.length_set]; exact w.d
 ·show ((kG K).set r 1).length = 32
  rw [List.length_set]; exact w.g
 ·intro i hi
  show ((kG K).set r 1)[i]? = some 0 ∨ ((kG K).set r 1)[i]? = some 1
  by_cases e : r = i
  ·rw [e, List.getElem?_set_self (by rw [w.g]; omega)]; exact Or.inr rfl
  ·rw [List.getElem?_set_ne e]; exact w.b i hi
theorem WF.clr {K : Core} (w : WF K) {r : Nat} (hr : r < 32) : WF (kClr K r) := by
 refine ⟨?_, ?_, ?_, w.2.2.2⟩
 ·show (((((kDa K).set (r * 4 + 0) 0).set (r * 4 + 1) 0).set (r * 4 + 2) 0).set (r * 4 + 3) 0).length = 128
  simp only [List.length_set]; exact w.d
 ·show ((kG K).set r 0).length = 32
  rw [List.length_set]; exact w.g
 ·intro i hi
  show ((kG K).set r 0)[i]? = some 0 ∨ ((kG K).set r 0)[i]? = some 1
  by_cases e : r = i
  ·rw [e, List.getElem?_set_self (by rw [w.g]; omega)]; exact Or.inl rfl
  ·rw [List.getElem?_set_ne e]; exact w.b i hi
theorem WF.piv {K : Core} (w : WF K) {a b c g : Int32} (ha : 0 ≤ a.toInt ∧ a.toInt < 4) (hb : 0 ≤ b.toInt ∧ b.toInt < 4) (hc : 0 ≤ c.toInt ∧ c.toInt < 4) : WF (kPiv K a b c g) := ⟨w.1, w.2.1, w.2.2.1, w.2.2.2.1, w.2.2.2.2.1, ha, hb, hc, w.2.2.2.2.2.2.2.2⟩
theorem WF.for {K : Core} (w : WF K) {s : Nat} {m a b : Int32} : WF (kFor K s m a b) := by
 refine ⟨w.1, w.2.1, w.2.2.1, w.2.2.2.1, w.2.2.2.2.1, w.2.2.2.2.2.1, w.2.2.2.2.2.2.1, w.2.2.2.2.2.2.2.1, ?_, ?_, ?_⟩
 ·show ((kM K).set s m).length = 16
  rw [List.length_set]; exact w.m
 ·show ((kFa K).set s a).length = 16
  rw [List.length_set]; exact w.a
 ·show ((kFb K).set s b).length = 16
  rw [List.length_set]; exact w.c
theorem Sh_cell {K : Core} {L : Int32} {o : Ob} (h : Sh K L o) {r f : Nat} {v : Int32} : Sh (kSet K r f v) L (s_filled (s_data o ((kDa K).set (r * 4 + f) v)) ((kG K).set r 1)) := by
 have h' := h
 obtain ⟨h1, h2⟩ := h'
 refine ⟨?_, h2⟩
 rw [← h1]
 dsimp only [core, kSet, kDa, kG, f_data, f_filled, f_rf, f_cf, f_vf, f_ag, f_fMode, f_fRk, f_fCk, f_prevVal, f_prevFound, f_keys, f_nRows, f_nForms, f_last, f_gVal, f_gCount, f_selUseR, f_selRk, f_selUseC, f_selCk, s_filled, s_data]
theorem Sh_piv {K : Core} {L : Int32} {o : Ob} (h : Sh K L o) {a b c g : Int32} : Sh (kPiv K a b c g) L (s_ag (s_vf (s_cf (s_rf o a) b) c) g) := by
 obtain ⟨h1, h2⟩ := h
 refine ⟨?_, ?_⟩
 ·rw [← h1]
  dsimp only [core, kPiv, f_data, f_filled, f_rf, f_cf, f_vf, f_ag, f_fMode, f_fRk, f_fCk, f_prevVal, f_prevFound, f_keys, f_nRows, f_nForms, f_last, f_gVal, f_gCount, f_selUseR, f_selRk, f_selUseC, f_selCk, s_ag, s_vf, s_cf, s_rf]
 ·dsimp only [f_data, f_filled, f_rf, f_cf, f_vf, f_ag, f_fMode, f_fRk, f_fCk, f_prevVal, f_prevFound, f_keys, f_nRows, f_nForms, f_last, f_gVal, f_gCount, f_selUseR, f_selRk, f_selUseC, f_selCk, s_ag, s_vf, s_cf, s_rf] at h2 ⊢
  exact h2
theorem Sh_for {K : Core} {L : Int32} {o : Ob} (h : Sh K L o) {s : Nat} {m a b : Int32} : Sh (kFor K s m a b) L (s_fCk (s_fRk (s_fMode o ((kM K).set s m)) ((kFa K).set s a)) ((kFb K).set s b)) := by
 obtain ⟨h1, h2⟩ := h
 refine ⟨?_, ?_⟩
 ·rw [← h1]
  dsimp only [core, kFor, kM, kFa, kFb, f_data, f_filled, f_rf, f_cf, f_vf, f_ag, f_fMode, f_fRk, f_fCk, f_prevVal, f_prevFound, f_keys, f_nRows, f_nForms, f_last, f_gVal, f_gCount, f_selUseR, f_selRk, f_selUseC, f_selCk, s_fCk, s_fRk, s_fMode]
 ·dsimp only [f_data, f_filled, f_rf, f_cf, f_vf, f_ag, f_fMode, f_fRk, f_fCk, f_prevVal, f_prevFound, f_keys, f_nRows, f_nForms, f_last, f_gVal, f_gCount, f_selUseR, f_selRk, f_selUseC, f_selCk, s_fCk, s_fRk, s_fMode] at h2 ⊢
  exact h2
theorem slot_ok {K : Core} {L : Int32} {o : Ob} (h : Sh K L o) (x : Int32) : F18 o x = some (if 0 ≤ x.toInt ∧ x.toInt < (kN K).toInt then 1 else 0) := by
 have z0 : (0 : Int32).toInt = 0 := rfl
 unfold F18
 rw [h.N]
 by_cases a : x < 0
 ·rw [if_pos a, if_neg (by rw [i_lt, z0] at a; omega)]
 ·rw [if_neg a]
  rw [i_lt, z0] at a
  by_cases b : x < kN K
  ·rw [if_pos b, if_pos (by rw [i_lt] at b; omega)]
  ·rw [if_neg b, if_neg (by rw [i_lt] at b; omega)]
theorem setFor_ok {K : Core} (wf : WF K) {L : Int32} {o : Ob} (h : Sh K L o) (x m a b : Int32) : okP (F17 o x m a b) (fun r => if (0 ≤ x.toInt ∧ x.toInt < (kN K).toInt) ∧ (0 ≤ m.toInt ∧ m.toInt ≤ 4) then r.1 = 1 ∧ Sh (kFor K x.toInt.toNat m a b) L r.2 else r.1 = 0 ∧ Sh K L r.2) := by
 have z0 : (0 : Int32).toInt = 0 := rfl
 have z4 : (4 : Int32).toInt = 4 := rfl
 have n16 := wf.n
 unfold F17
 rw [slot_ok h]
 simp only [Option.bind_some]
 by_cases c : 0 ≤ x.toInt ∧ x.toInt < (kN K).toInt
 ·rw [if_pos c, if_neg (by decide)]
  by_cases d : 0 ≤ m.toInt ∧ m.toInt ≤ 4
  ·simp only [if_pos (show (0 ≤ x.toInt ∧ x.toInt < (kN K).toInt) ∧ (0 ≤ m.toInt ∧ m.toInt ≤ 4) from ⟨c, d⟩)]
   rw [if_neg (by rw [i_lt, z0]; omega), if_neg (by rw [i_lt, z4]; omega), h.M, h.A, h.B]
   apply okP.bind
   refine okP.aset (by omega) (by rw [wf.m]; omega) ?_
   apply okP.bind
   refine okP.aset (by omega) (by rw [wf.a]; omega) ?_
   apply okP.bind
   refine okP.aset (by omega) (by rw [wf.c]; omega) ?_
   exact okP.some ⟨rfl, Sh_for h⟩
  ·simp only [if_neg (show ¬ ((0 ≤ x.toInt ∧ x.toInt < (kN K).toInt) ∧ (0 ≤ m.toInt ∧ m.toInt ≤ 4)) from fun q => d q.2)]
   apply okP.ite <;> intro e
   ·exact okP.some ⟨rfl, h⟩
   ·rw [i_lt, z0] at e
    rw [if_pos (by rw [i_lt, z4]; omega)]
    exact okP.some ⟨rfl, h⟩
 ·simp only [if_neg (show ¬ ((0 ≤ x.toInt ∧ x.toInt < (kN K).toInt) ∧ (0 ≤ m.toInt ∧ m.toInt ≤ 4)) from fun q => c q.1)]
  rw [if_neg c, if_pos rfl]
  exact okP.some ⟨rfl, h⟩
theorem Pv_same {K : Core} {o p : Ob} {n : Nat} (h : Pv K o n) (h1 : f_prevVal p = f_prevVal o) (h2 : f_prevFound p = f_prevFound o) : Pv K p n := by
 intro s hs
 rw [h1, h2]
 exact h s hs
theorem setCell_ok {K : Core} (wf : WF K) {L : Int32} {o : Ob} (h : Sh K L o) (x y v : Int32) : okP (F2 o x y v) (fun r => if (0 ≤ x.toInt ∧ x.toInt < (kR K).toInt) ∧ (0 ≤ y.toInt ∧ y.toInt < 4) then r.1 = 1 ∧ ∃ L', Sh (kSet K x.toInt.toNat y.toInt.toNat v) L' r.2 ∧ L'.toInt = cc K (kSet K x.toInt.toNat y.toInt.toNat v) (nN K) else r.1 = 0 ∧ Sh K L r.2) := by
 have z0 : (0 : Int32).toInt = 0 := rfl
 have z4 : (4 : Int32).toInt = 4 := rfl
 have r32 := wf.r
 unfold F2
 rw [row_ok h]
 simp only [Option.bind_some]
 by_cases c : 0 ≤ x.toInt ∧ x.toInt < (kR K).toInt
 ·rw [if_pos c, if_neg (by decide)]
  by_cases d : 0 ≤ y.toInt ∧ y.toInt < 4
  ·simp only [if_pos (show (0 ≤ x.toInt ∧ x.toInt < (kR K).toInt) ∧ (0 ≤ y.toInt ∧ y.toInt < 4) from ⟨c, d⟩)]
   rw [if_neg (by rw [i_lt, z0]; omega), if_pos (by rw [i_lt, z4]; omega)]
   apply okP.bind
   refine okP.mono (snap_ok wf h) ?_
   rintro p ⟨hp, P⟩
   have e := idx (r := x) (f := y) ⟨c.1, by omega⟩ d
   rw [hp.D, hp.G, aset_at (n := x.toInt.toNat * 4 + y.toInt.toNat) (by omega) (by rw [wf.d]; omega)]
   simp only [Option.bind_some]
   rw [aset_at (n := x.toInt.toNat) (by omega) (by rw [wf.g]; omega)]
   simp only [Option.bind_some]
   have hq := Sh_cell hp (r := x.toInt.toNat) (f := y.toInt.toNat) (v := v)
   have P' : Pv K (s_filled (s_data p ((kDa K).set (x.toInt.toNat * 4 + y.toInt.toNat) v)) ((kG K).set x.toInt.toNat 1)) (nN K) := Pv_same P rfl rfl
   apply okP.bind
   refine okP.mono (chd_ok (K := K) (wf.set (by omega)) hq P') ?_
   rintro ⟨n, q⟩ ⟨a1, a2⟩
   exact okP.some ⟨rfl, _, a2.last, a1⟩
  ·simp only [if_neg (show ¬ ((0 ≤ x.toInt ∧ x.toInt < (kR K).toInt) ∧ (0 ≤ y.toInt ∧ y.toInt < 4)) from fun q => d q.2)]
   apply okP.ite <;> intro e
   ·exact okP.some ⟨rfl, h⟩
   ·rw [i_lt, z0] at e
    rw [if_neg (by rw [i_lt, z4]; omega)]
    exact okP.some ⟨rfl, h⟩
 ·simp only [if_neg (show ¬ ((0 ≤ x.toInt ∧ x.toInt < (kR K).toInt) ∧ (0 ≤ y.toInt ∧ y.toInt < 4)) from fun q => c q.1)]
  rw [if_neg c, if_pos rfl]
  exact okP.some ⟨rfl, h⟩
theorem fval_ok {K : Core} (wf : WF K) {L : Int32} {o : Ob} (h : Sh K L o) (x : Int32) : okP (F19 o x) (fun r => r.1 = (if 0 ≤ x.toInt ∧ x.toInt < (kN K).toInt then (fm K x.toInt.toNat).1 else 0) ∧ Sh K L r.2) := by
 have n16 := wf.n
 unfold F19
 rw [slot_ok h]
 simp only [Option.bind_some]
 by_cases c : 0 ≤ x.toInt ∧ x.toInt < (kN K).toInt
 ·simp only [if_pos c]
  rw [if_neg (by decide)]
  apply okP.bind
  refine okP.mono (form_ok wf h c.1 (by omega)) ?_
  rintro r rfl
  exact okP.some ⟨rfl, h.gCount.gVal⟩
 ·simp only [if_neg c, if_true]
  exact okP.some ⟨rfl, h⟩
theorem ffnd_ok {K : Core} (wf : WF K) {L : Int32} {o : Ob} (h : Sh K L o) (x : Int32) : okP (F20 o x) (fun r => r.1 = (if 0 ≤ x.toInt ∧ x.toInt < (kN K).toInt then fnd K x.toInt.toNat else 0) ∧ Sh K L r.2) := by
 have n16 := wf.n
 unfold F20
 rw [slot_ok h]
 simp only [Option.bind_some]
 by_cases c : 0 ≤ x.toInt ∧ x.toInt < (kN K).toInt
 ·simp only [if_pos c]
  rw [if_neg (by decide)]
  apply okP.bind
  refine okP.mono (form_ok wf h c.1 (by omega)) ?_
  rintro r rfl
  rw [show f_gCount (s_gVal (s_gCount o (fm K x.toInt.toNat).2) (fm K x.toInt.toNat).1) = (fm K x.toInt.toNat).2 from rfl]
  unfold fnd
  apply okP.ite <;> intro d
  ·exact okP.some ⟨by rw [if_pos d], h.gCount.gVal⟩
  ·exact okP.some ⟨by rw [if_neg d], h.gCount.gVal⟩
 ·simp only [if_neg c, if_true]
  exact okP.some ⟨rfl, h⟩
def K0 (r n : Int32) : Core := (List.replicate 128 0, List.replicate 32 0, r, n, 0, 1, 2, 0, List.replicate 16 0, List.replicate 16 0, List.replicate 16 0)
theorem WF0 {r n : Int32} (hr : 4 ≤ r.toInt ∧ r.toInt ≤ 32) (hn : 1 ≤ n.toInt ∧ n.toInt ≤ 16) : WF (K0 r n) := by
 refine ⟨List.length_replicate, List.length_replicate, fun i hi => Or.inl ?_, hr, hn, by show (0 : Int) ≤ 0 ∧ (0 : Int) < 4; decide, by show (0 : Int) ≤ 1 ∧ (1 : Int) < 4; decide, by show (0 : Int) ≤ 2 ∧ (2 : Int) < 4; decide, List.length_replicate, List.length_replicate, List.length_replicate⟩
 show (List.replicate 32 (0 : Int32))[i]? = some 0
 rw [List.getElem?_replicate, if_pos hi]
theorem init_ok {r n : Int32} (hr : 4 ≤ r.toInt ∧ r.toInt ≤ 32) (hn : 1 ≤ n.toInt ∧ n.toInt ≤ 16) : okP (F1 r n) (fun o => Sh (K0 r n) 0 o) := by
 have z1 : (1 : Int32).toInt = 1 := rfl
 have z4 : (4 : Int32).toInt = 4 := rfl
 have z16 : (16 : Int32).toInt = 16 := rfl
 have z32 : (32 : Int32).toInt = 32 := rfl
 unfold F1
 rw [if_neg (show ¬ r < 4 by rw [i_lt, z4]; omega), if_neg (show ¬ 32 < r by rw [i_lt, z32]; omega), if_neg (show ¬ n < 1 by rw [i_lt, z1]; omega), if_neg (show ¬ 16 < n by rw [i_lt, z16]; omega)]
 apply okP.some
 dsimp only [Sh, core, K0, f_data, f_filled, f_rf, f_cf, f_vf, f_ag, f_fMode, f_fRk, f_fCk, f_prevVal, f_prevFound, f_keys, f_nRows, f_nForms, f_last, f_gVal, f_gCount, f_selUseR, f_selRk, f_selUseC, f_selCk, s_data, s_filled, s_rf, s_cf, s_vf, s_ag, s_fMode, s_fRk, s_fCk, s_prevVal, s_prevFound, s_keys, s_nRows, s_nForms, s_last, s_gVal, s_gCount, s_selUseR, s_selRk, s_selUseC, s_selCk]
 exact ⟨rfl, rfl, List.length_replicate, List.length_replicate, List.length_replicate⟩
theorem siz {K : Core} {L : Int32} {o : Ob} (h : Sh K L o) (wf : WF K) : (f_data o).length = 128 ∧ (f_filled o).length = 32 ∧ (f_fMode o).length = 16 ∧ (f_fRk o).length = 16 ∧ (f_fCk o).length = 16 ∧ (f_prevVal o).length = 16 ∧ (f_prevFound o).length = 16 ∧ (f_keys o).length = 64 := ⟨by rw [h.D]; exact wf.d, by rw [h.G]; exact wf.g, by rw [h.M]; exact wf.m, by rw [h.A]; exact wf.a, by rw [h.B]; exact wf.c, h.2.2⟩

def Eqr (K K' : Core) (n : Nat) : Prop := ∀ r, r < n → fil K r = fil K' r ∧ (fil K r = true → ∀ f : Int32, 0 ≤ f.toInt ∧ f.toInt < 4 → fld K r f = fld K' r f)
def Eqv (K K' : Core) : Prop := kR K = kR K' ∧ krf K = krf K' ∧ kcf K = kcf K' ∧ kvf K = kvf K' ∧ kag K = kag K' ∧ Eqr K K' (nR K)
theorem Eqv.R {K K' : Core} (e : Eqv K K') : kR K = kR K' := e.1
theorem Eqv.rf {K K' : Core} (e : Eqv K K') : krf K = krf K' := e.2.1
theorem Eqv.cf {K K' : Core} (e : Eqv K K') : kcf K = kcf K' := e.2.2.1
theorem Eqv.vf {K K' : Core} (e : Eqv K K') : kvf K = kvf K' := e.2.2.2.1
theorem Eqv.ag {K K' : Core} (e : Eqv K K') : kag K = kag K' := e.2.2.2.2.1
theorem Eqv.rows {K K' : Core} (e : Eqv K K') : Eqr K K' (nR K) := e.2.2.2.2.2
theorem Eqv_nR {K K' : Core} (e : Eqv K K') : nR K = nR K' := by unfold nR; rw [e.R]
theorem keyN_eq {K K' : Core} {f : Int32} (hf : 0 ≤ f.toInt ∧ f.toInt < 4) : ∀ {n : Nat}, Eqr K K' n → keyN K f n = keyN K' f n := by
 intro n
 induction n with
 | zero => intro _; rfl
 | succ n ih =>
  intro e
  rw [keyN_s, keyN_s, ih (fun r hr => e r (by omega))]
  obtain ⟨e1, e2⟩ := e n (by omega)
  rw [← e1]
  by_cases c : fil K n = true
  ·rw [if_pos c, if_pos c, e2 c f hf]
  ·rw [if_neg c, if_neg c]
theorem vN_eq {K K' : Core} (u a w b : Int32) (wf : WF K) (rf : krf K = krf K') (cf : kcf K = kcf K') (vf : kvf K = kvf K') : ∀ {n : Nat}, Eqr K K' n → vN K u a w b n = vN K' u a w b n := by
 intro n
 induction n with
 | zero => intro _; unfold vN; simp only [List.range_zero, List.filter_nil, List.map_nil]
 | succ n ih =>
  intro e
  rw [vN_s, vN_s, ih (fun r hr => e r (by omega))]
  obtain ⟨e1, e2⟩ := e n (by omega)
  by_cases c : fil K n = true
  ·have ec : cnd K u a w b n = cnd K' u a w b n := by
    unfold cnd
    rw [← e1, ← rf, ← cf, e2 c _ wf.rf, e2 c _ wf.cf]
   rw [ec, ← vf, e2 c _ wf.vf]
  ·rw [if_neg (by unfold cnd; rw [Bool.eq_false_iff.2 c]; simp), if_neg (by unfold cnd; rw [← e1, Bool.eq_false_iff.2 c]; simp)]
theorem Eqv_kys {K K' : Core} (e : Eqv K K') {f : Int32} (hf : 0 ≤ f.toInt ∧ f.toInt < 4) : kys K f = kys K' f := by
 unfold kys
 rw [← Eqv_nR e, keyN_eq hf e.rows]
theorem Eqv_rk {K K' : Core} (e : Eqv K K') {f : Int32} (hf : 0 ≤ f.toInt ∧ f.toInt < 4) (i : Int32) : rk K f i = rk K' f i := by
 unfold rk
 rw [Eqv_kys e hf]
theorem Eqv_grp {K K' : Core} (e : Eqv K K') (wf : WF K) (u a w b : Int32) : grp K u a w b = grp K' u a w b := by
 unfold grp
 rw [← Eqv_nR e, ← e.ag, vN_eq u a w b wf e.rf e.cf e.vf e.rows]
theorem Eqv_pv {K K' : Core} (e : Eqv K K') (wf : WF K) (i j : Int32) : pv K i j = pv K' i j := by
 have e1 : inR K (krf K) i ↔ inR K' (krf K') i := by unfold inR; rw [← e.rf, Eqv_kys e wf.rf]
 have e2 : inR K (kcf K) j ↔ inR K' (kcf K') j := by unfold inR; rw [← e.cf, Eqv_kys e wf.cf]
 unfold pv
 by_cases c : inR K (krf K) i ∧ inR K (kcf K) j
 ·rw [if_pos c, if_pos (show inR K' (krf K') i ∧ inR K' (kcf K') j from ⟨e1.1 c.1, e2.1 c.2⟩), ← e.rf, ← e.cf, ← Eqv_rk e wf.rf, ← Eqv_rk e wf.cf, Eqv_grp e wf]
 ·rw [if_neg c, if_neg (fun q => c ⟨e1.2 q.1, e2.2 q.2⟩)]
theorem fil_set {K : Core} (w : WF K) {r f i : Nat} {v : Int32} (hr : r < 32) : fil (kSet K r f v) i = if r = i then true else fil K i := by
 unfold fil
 show (((kG K).set r 1)[i]?.getD 0 != 0) = _
 by_cases e : r = i
 ·rw [if_pos e, e, List.getElem?_set_self (by rw [w.g]; omega)]; rfl
 ·rw [if_neg e, List.getElem?_set_ne e]
theorem fld_set {K : Core} (w : WF K) {r f i : Nat} {g v : Int32} (hr : r < 32) (hf : f < 4) (hg : 0 ≤ g.toInt ∧ g.toInt < 4) : fld (kSet K r f v) i g = if r = i ∧ f = g.toInt.toNat then v else fld K i g := by
 unfold fld
 show ((kDa K).set (r * 4 + f) v)[i * 4 + g.toInt.toNat]?.getD 0 = _
 by_cases e : r = i ∧ f = g.toInt.toNat
 ·rw [if_pos e, e.1, e.2, List.getElem?_set_self (by rw [w.d]; omega)]; rfl
 ·rw [if_neg e, List.getElem?_set_ne (by omega)]

theorem pk_1 (x : Int32 × Int32 × Int32 × Int32) : pick 0 x = if x.2.1 = 0 then 0 else x.1 := by
 unfold pick
 rw [if_neg (show ¬ (0 : Int32) = 1 by decide), if_neg (show ¬ (0 : Int32) = 2 by decide), if_neg (show ¬ (0 : Int32) = 3 by decide)]
theorem pp0 : pick 0 (ev []) = 0 := rfl
theorem p1 (x : Int32) : pick 0 (ev [x]) = x := by
 rw [pk_1]
 show (if (0 + 1 : Int32) = 0 then 0 else 0 + x) = x
 rw [if_neg (by decide), Int32.zero_add]
theorem p2 (x y : Int32) : pick 0 (ev [x, y]) = x + y := by
 rw [pk_1]
 show (if (0 + 1 + 1 : Int32) = 0 then 0 else 0 + x + y) = x + y
 rw [if_neg (by decide), Int32.zero_add]
theorem p3 (x y z : Int32) : pick 0 (ev [x, y, z]) = x + y + z := by
 rw [pk_1]
 show (if (0 + 1 + 1 + 1 : Int32) = 0 then 0 else 0 + x + y + z) = x + y + z
 rw [if_neg (by decide), Int32.zero_add]
theorem k_0 : (ev []).2.1 = 0 := rfl
theorem k_1 (x : Int32) : (ev [x]).2.1 = 1 := by
 show (0 + 1 : Int32) = 1
 decide
theorem k_2 (x y : Int32) : (ev [x, y]).2.1 = 2 := by
 show (0 + 1 + 1 : Int32) = 2
 decide
theorem k_3 (x y z : Int32) : (ev [x, y, z]).2.1 = 3 := by
 show (0 + 1 + 1 + 1 : Int32) = 3
 decide
def Th (a b x y z : Int32) (K : Core) : Prop := WF K ∧ kR K = 4 ∧ kN K = 2 ∧ krf K = 0 ∧ kcf K = 1 ∧ kvf K = 2 ∧ kag K = 0 ∧ fil K 0 = true ∧ fil K 1 = true ∧ fil K 2 = true ∧ fil K 3 = false ∧ fld K 0 0 = a ∧ fld K 0 1 = 0 ∧ fld K 0 2 = x ∧ fld K 1 0 = b ∧ fld K 1 1 = 1 ∧ fld K 1 2 = y ∧ fld K 2 0 = a ∧ fld K 2 1 = 1 ∧ fld K 2 2 = z
theorem Th.wf {a b x y z : Int32} {K : Core} (t : Th a b x y z K) : WF K := t.1
theorem Th.R {a b x y z : Int32} {K : Core} (t : Th a b x y z K) : kR K = 4 := t.2.1
theorem Th.N {a b x y z : Int32} {K : Core} (t : Th a b x y z K) : kN K = 2 := t.2.2.1
theorem Th.rf {a b x y z : Int32} {K : Core} (t : Th a b x y z K) : krf K = 0 := t.2.2.2.1
theorem Th.cf {a b x y z : Int32} {K : Core} (t : Th a b x y z K) : kcf K = 1 := t.2.2.2.2.1
theorem Th.vf {a b x y z : Int32} {K : Core} (t : Th a b x y z K) : kvf K = 2 := t.2.2.2.2.2.1
theorem Th.ag {a b x y z : Int32} {K : Core} (t : Th a b x y z K) : kag K = 0 := t.2.2.2.2.2.2.1
theorem Th.f0 {a b x y z : Int32} {K : Core} (t : Th a b x y z K) : fil K 0 = true := t.2.2.2.2.2.2.2.1
theorem Th.f1 {a b x y z : Int32} {K : Core} (t : Th a b x y z K) : fil K 1 = true := t.2.2.2.2.2.2.2.2.1
theorem Th.f2 {a b x y z : Int32} {K : Core} (t : Th a b x y z K) : fil K 2 = true := t.2.2.2.2.2.2.2.2.2.1
theorem Th.f3 {a b x y z : Int32} {K : Core} (t : Th a b x y z K) : fil K 3 = false := t.2.2.2.2.2.2.2.2.2.2.1
theorem Th.v00 {a b x y z : Int32} {K : Core} (t : Th a b x y z K) : fld K 0 0 = a := t.2.2.2.2.2.2.2.2.2.2.2.1
theorem Th.v01 {a b x y z : Int32} {K : Core} (t : Th a b x y z K) : fld K 0 1 = 0 := t.2.2.2.2.2.2.2.2.2.2.2.2.1
theorem Th.v02 {a b x y z : Int32} {K : Core} (t : Th a b x y z K) : fld K 0 2 = x := t.2.2.2.2.2.2.2.2.2.2.2.2.2.1
theorem Th.v10 {a b x y z : Int32} {K : Core} (t : Th a b x y z K) : fld K 1 0 = b := t.2.2.2.2.2.2.2.2.2.2.2.2.2.2.1
theorem Th.v11 {a b x y z : Int32} {K : Core} (t : Th a b x y z K) : fld K 1 1 = 1 := t.2.2.2.2.2.2.2.2.2.2.2.2.2.2.2.1
theorem Th.v12 {a b x y z : Int32} {K : Core} (t : Th a b x y z K) : fld K 1 2 = y := t.2.2.2.2.2.2.2.2.2.2.2.2.2.2.2.2.1
theorem Th.v20 {a b x y z : Int32} {K : Core} (t : Th a b x y z K) : fld K 2 0 = a := t.2.2.2.2.2.2.2.2.2.2.2.2.2.2.2.2.2.1
theorem Th.v21 {a b x y z : Int32} {K : Core} (t : Th a b x y z K) : fld K 2 1 = 1 := t.2.2.2.2.2.2.2.2.2.2.2.2.2.2.2.2.2.2.1
theorem Th.v22 {a b x y z : Int32} {K : Core} (t : Th a b x y z K) : fld K 2 2 = z := t.2.2.2.2.2.2.2.2.2.2.2.2.2.2.2.2.2.2.2
theorem Th_nR {a b x y z : Int32} {K : Core} (t : Th a b x y z K) : nR K = 0 + 1 + 1 + 1 + 1 := by unfold nR; rw [t.R]; rfl
theorem Th.k0 {a b x y z : Int32} {K : Core} (t : Th a b x y z K) : kys K 0 = ins a (ins b (ins a [])) := by
 unfold kys
 rw [Th_nR t]
 simp only [keyN_s, t.f0, t.f1, t.f2, t.f3, t.v00, t.v10, t.v20, Nat.zero_add, Nat.reduceAdd, if_true]
 rfl
theorem Th.k1 {a b x y z : Int32} {K : Core} (t : Th a b x y z K) : kys K 1 = [0, 1] := by
 unfold kys
 rw [Th_nR t]
 simp only [keyN_s, t.f0, t.f1, t.f2, t.f3, t.v01, t.v11, t.v21, Nat.zero_add, Nat.reduceAdd, if_true]
 rfl
def sel (u a w b p q x : Int32) : List Int32 := if ((u == 0 || p == a) && (w == 0 || q == b)) = true then [x] else []
theorem Th.vs {a b x y z : Int32} {K : Core} (t : Th a b x y z K) (u p w q : Int32) : vN K u p w q (nR K) = sel u p w q a 0 x ++ (sel u p w q b 1 y ++ sel u p w q a 1 z) := by
 have e0 : vN K u p w q 0 = [] := by unfold vN; simp only [List.range_zero, List.filter_nil, List.map_nil]
 have ap : ∀ (c : Bool) (l : List Int32) (v : Int32), (if c = true then l ++ [v] else l) = l ++ (if c = true then [v] else []) := by
  intro c l v
  cases c
  ·simp
  ·simp
 rw [Th_nR t]
 simp only [vN_s, e0, cnd, t.rf, t.cf, t.vf, t.f0, t.f1, t.f2, t.f3, t.v00, t.v01, t.v02, t.v10, t.v11, t.v12, t.v20, t.v21, t.v22, Nat.zero_add, Nat.reduceAdd, Bool.true_and, Bool.false_and, Bool.false_eq_true, if_false, ap, List.nil_append, List.append_assoc]
 unfold sel
 cases ((u == 0 || a == p) && (w == 0 || 1 == q)) <;> simp
theorem Th.g {a b x y z : Int32} {K : Core} (t : Th a b x y z K) (u p w q : Int32) : grp K u p w q = (pick 0 (ev (sel u p w q a 0 x ++ (sel u p w q b 1 y ++ sel u p w q a 1 z))), (ev (sel u p w q a 0 x ++ (sel u p w q b 1 y ++ sel u p w q a 1 z))).2.1) := by
 unfold grp
 rw [t.ag, t.vs]

theorem lt_irr (a : Int32) : ¬ a < a := by rw [i_lt]; omega
theorem Th.k0e {a b x y z : Int32} {K : Core} (t : Th a b x y z K) : kys K 0 = if a = b then [a] else if a < b then [a, b] else [b, a] := by
 rw [t.k0]
 by_cases e : a = b
 ·subst e
  rw [if_pos rfl]
  simp only [ins, if_neg (lt_irr a), if_true]
 ·rw [if_neg e]
  by_cases l : a < b
  ·rw [if_pos l]
   simp only [ins, if_pos l, if_neg (lt_irr a), if_true]
  ·have l2 : b < a := by
    rw [i_lt] at l ⊢
    rw [i_eq] at e
    omega
   rw [if_neg l]
   simp only [ins, if_neg l, if_neg e, if_pos l2, if_neg (lt_irr a), if_true]
theorem pvv {a b x y z : Int32} {K : Core} (t : Th a b x y z K) {i j : Int32} (hi : inR K 0 i) (hj : inR K 1 j) : pv K i j = grp K (if i = -1 then 0 else 1) (if i = -1 then 0 else rk K 0 i) (if j = -1 then 0 else 1) (if j = -1 then 0 else rk K 1 j) := by
 unfold pv
 rw [t.rf, t.cf, if_pos ⟨hi, hj⟩]
theorem pvo {a b x y z : Int32} {K : Core} (t : Th a b x y z K) {i j : Int32} (hi : ¬ inR K 0 i) : pv K i j = (0, 0) := by
 unfold pv
 rw [t.rf, t.cf, if_neg (fun q => hi q.1)]
theorem im (K : Core) (f : Int32) : inR K f (-1) := Or.inl rfl
theorem Th.j0 {a b x y z : Int32} {K : Core} (t : Th a b x y z K) : inR K 1 0 := Or.inr ⟨by decide, by rw [t.k1]; decide⟩
theorem Th.j1 {a b x y z : Int32} {K : Core} (t : Th a b x y z K) : inR K 1 1 := Or.inr ⟨by decide, by rw [t.k1]; decide⟩
theorem Th.c0 {a b x y z : Int32} {K : Core} (t : Th a b x y z K) : rk K 1 0 = 0 := by unfold rk; rw [t.k1]; rfl
theorem Th.c1 {a b x y z : Int32} {K : Core} (t : Th a b x y z K) : rk K 1 1 = 1 := by unfold rk; rw [t.k1]; rfl
theorem Th.r0 {a b x y z : Int32} {K : Core} (t : Th a b x y z K) : rk K 0 0 = if a = b then a else if a < b then a else b := by
 unfold rk; rw [if_neg (by decide), t.k0e]; split; rfl; split <;> rfl
theorem Th.r1 {a b x y z : Int32} {K : Core} (t : Th a b x y z K) : rk K 0 1 = if a = b then 0 else if a < b then b else a := by
 unfold rk; rw [if_neg (by decide), t.k0e]; split; rfl; split <;> rfl
theorem Th.i0 {a b x y z : Int32} {K : Core} (t : Th a b x y z K) : inR K 0 0 := Or.inr ⟨by decide, by rw [t.k0e]; split; (show (0 : Int) < 1; decide); split <;> (show (0 : Int) < 2; decide)⟩
theorem Th.i1 {a b x y z : Int32} {K : Core} (t : Th a b x y z K) (n : ¬ a = b) : inR K 0 1 := Or.inr ⟨by decide, by rw [t.k0e, if_neg n]; split <;> (show (1 : Int) < 2; decide)⟩
theorem Th.i1n {a b x y z : Int32} {K : Core} (t : Th a b x y z K) (n : a = b) : ¬ inR K 0 1 := by
 rintro (h | h)
 ·exact absurd h (by decide)
 ·rw [t.k0e, if_pos n] at h
  exact absurd h.2 (by show ¬ (1 : Int) < 1; decide)
theorem Th.g00 {a b x y z : Int32} {K : Core} (t : Th a b x y z K) : (grp K 0 0 0 0).1 = x + y + z ∧ (grp K 0 0 0 0).2 = 3 := by
 rw [t.g]
 exact ⟨p3 x y z, k_3 x y z⟩
theorem Th.g01 {a b x y z : Int32} {K : Core} (t : Th a b x y z K) : (grp K 0 0 1 0).1 = x ∧ (grp K 0 0 1 1).1 = y + z := by
 rw [t.g, t.g]
 exact ⟨p1 x, p2 y z⟩
theorem beqr (a : Int32) : (a == a) = true := by simp
theorem Th.ga {a b x y z : Int32} {K : Core} (t : Th a b x y z K) : (grp K 1 a 0 0).1 = (if a = b then x + y + z else x + z) ∧ (grp K 1 a 1 0).1 = x ∧ (grp K 1 a 1 1).1 = (if a = b then y + z else z) := by
 rw [t.g, t.g, t.g]
 unfold sel
 by_cases e : a = b
 ·subst e
  rw [if_pos rfl, if_pos rfl, beqr a]
  exact ⟨p3 x y z, p1 x, p2 y z⟩
 ·have e' : (b == a) = false := beq_false_of_ne (fun q => e q.symm)
  rw [if_neg e, if_neg e, beqr a, e']
  exact ⟨p2 x z, p1 x, p1 z⟩
theorem Th.gb {a b x y z : Int32} {K : Core} (t : Th a b x y z K) (e : ¬ a = b) : (grp K 1 b 0 0).1 = y ∧ (grp K 1 b 1 0).1 = 0 ∧ (grp K 1 b 1 1).1 = y := by
 rw [t.g, t.g, t.g]
 unfold sel
 have e' : (a == b) = false := beq_false_of_ne e
 rw [beqr b, e']
 exact ⟨p1 y, pp0, p1 y⟩
theorem Th.fa {a b x y z : Int32} {K : Core} (t : Th a b x y z K) : (0 : Int32) < (grp K 1 a 0 0).2 := by
 rw [t.g]
 unfold sel
 rw [beqr a]
 by_cases e : a = b
 ·subst e
  rw [beqr a]
  show (0 : Int32) < (ev [x, y, z]).2.1
  rw [k_3]; decide
 ·rw [beq_false_of_ne (show b ≠ a from fun q => e q.symm)]
  show (0 : Int32) < (ev [x, z]).2.1
  rw [k_2]; decide
theorem Th.fb {a b x y z : Int32} {K : Core} (t : Th a b x y z K) : (grp K 1 b 1 0).1 = (if a = b then x else 0) ∧ (if (0 : Int32) < (grp K 1 b 1 0).2 then (1 : Int32) else 0) = (if a = b then 1 else 0) := by
 by_cases e : a = b
 ·subst e
  rw [t.g]
  unfold sel
  rw [beqr a, if_pos rfl, if_pos rfl]
  refine ⟨p1 x, ?_⟩
  show (if (0 : Int32) < (ev [x]).2.1 then (1 : Int32) else 0) = 1
  rw [k_1]; rfl
 ·rw [if_neg e, if_neg e]
  refine ⟨(t.gb e).2.1, ?_⟩
  rw [t.g]
  unfold sel
  rw [beqr b, beq_false_of_ne e]
  rfl

theorem mkTh (a b x y z : Int32) : Th a b x y z (kSet (kSet (kSet (kSet (kSet (kSet (kSet (kSet (kSet (K0 4 2) 0 0 a) 0 1 0) 0 2 x) 1 0 b) 1 1 1) 1 2 y) 2 0 a) 2 1 1) 2 2 z) := by
 have w0 := WF0 (r := 4) (n := 2) (by decide) (by decide)
 have w1 := w0.set (r := 0) (f := 0) (v := a) (by decide)
 have w2 := w1.set (r := 0) (f := 1) (v := 0) (by decide)
 have w3 := w2.set (r := 0) (f := 2) (v := x) (by decide)
 have w4 := w3.set (r := 1) (f := 0) (v := b) (by decide)
 have w5 := w4.set (r := 1) (f := 1) (v := 1) (by decide)
 have w6 := w5.set (r := 1) (f := 2) (v := y) (by decide)
 have w7 := w6.set (r := 2) (f := 0) (v := a) (by decide)
 have w8 := w7.set (r := 2) (f := 1) (v := 1) (by decide)
 have w9 := w8.set (r := 2) (f := 2) (v := z) (by decide)
 have F : ∀ i, fil (kSet (kSet (kSet (kSet (kSet (kSet (kSet (kSet (kSet (K0 4 2) 0 0 a) 0 1 0) 0 2 x) 1 0 b) 1 1 1) 1 2 y) 2 0 a) 2 1 1) 2 2 z) i = if 2 = i then true else if 1 = i then true else if 0 = i then true else fil (K0 4 2) i := by
  intro i
  rw [fil_set w8 (by decide), fil_set w7 (by decide), fil_set w6 (by decide), fil_set w5 (by decide), fil_set w4 (by decide), fil_set w3 (by decide), fil_set w2 (by decide), fil_set w1 (by decide), fil_set w0 (by decide)]
  by_cases e2 : 2 = i
  ·simp only [if_pos e2]
  by_cases e1 : 1 = i
  ·simp only [if_neg e2, if_pos e1]
  by_cases e0 : 0 = i
  ·simp only [if_neg e2, if_neg e1, if_pos e0]
  simp only [if_neg e2, if_neg e1, if_neg e0]
 have V : ∀ (i : Nat) (g : Int32), 0 ≤ g.toInt ∧ g.toInt < 4 → fld (kSet (kSet (kSet (kSet (kSet (kSet (kSet (kSet (kSet (K0 4 2) 0 0 a) 0 1 0) 0 2 x) 1 0 b) 1 1 1) 1 2 y) 2 0 a) 2 1 1) 2 2 z) i g = if 2 = i ∧ 2 = g.toInt.toNat then z else if 2 = i ∧ 1 = g.toInt.toNat then 1 else if 2 = i ∧ 0 = g.toInt.toNat then a else if 1 = i ∧ 2 = g.toInt.toNat then y else if 1 = i ∧ 1 = g.toInt.toNat then 1 else if 1 = i ∧ 0 = g.toInt.toNat then b else if 0 = i ∧ 2 = g.toInt.toNat then x else if 0 = i ∧ 1 = g.toInt.toNat then 0 else if 0 = i ∧ 0 = g.toInt.toNat then a else fld (K0 4 2) i g := by
  intro i g hg
  rw [fld_set w8 (by decide) (by decide) hg, fld_set w7 (by decide) (by decide) hg, fld_set w6 (by decide) (by decide) hg, fld_set w5 (by decide) (by decide) hg, fld_set w4 (by decide) (by decide) hg, fld_set w3 (by decide) (by decide) hg, fld_set w2 (by decide) (by decide) hg, fld_set w1 (by decide) (by decide) hg, fld_set w0 (by decide) (by decide) hg]
 refine ⟨w9, rfl, rfl, rfl, rfl, rfl, rfl, ?_, ?_, ?_, ?_, ?_, ?_, ?_, ?_, ?_, ?_, ?_, ?_, ?_⟩
 ·rw [F]; rfl
 ·rw [F]; rfl
 ·rw [F]; rfl
 ·rw [F]; rfl
 all_goals (rw [V _ _ (by decide)]; rfl)
theorem Th_kFor {a b x y z : Int32} {K : Core} (t : Th a b x y z K) {s : Nat} {m p q : Int32} : Th a b x y z (kFor K s m p q) := ⟨t.wf.for, t.R, t.N, t.rf, t.cf, t.vf, t.ag, t.f0, t.f1, t.f2, t.f3, t.v00, t.v01, t.v02, t.v10, t.v11, t.v12, t.v20, t.v21, t.v22⟩
theorem set1 {K : Core} (wf : WF K) (r4 : kR K = 4) {L : Int32} {o : Ob} (h : Sh K L o) (x y v : Int32) (hx : 0 ≤ x.toInt ∧ x.toInt < 4) (hy : 0 ≤ y.toInt ∧ y.toInt < 4) : okP (F2 o x y v) (fun r => ∃ L', Sh (kSet K x.toInt.toNat y.toInt.toNat v) L' r.2) := by
 have e : (kR K).toInt = 4 := by rw [r4]; rfl
 refine okP.mono (setCell_ok wf h x y v) ?_
 rintro ⟨b, p⟩ hp
 rw [if_pos ⟨by omega, hy⟩] at hp
 obtain ⟨_, L', h', _⟩ := hp
 exact ⟨L', h'⟩
theorem val1 {a b x y z : Int32} {K : Core} (t : Th a b x y z K) {L : Int32} {o : Ob} (h : Sh K L o) (i j v : Int32) (e : (pv K i j).1 = v) : okP (F12 o i j) (fun r => r.1 = v ∧ Sh K L r.2) := by
 refine okP.mono (value_ok t.wf h i j) ?_
 rintro ⟨b, p⟩ ⟨hb, hp⟩
 exact ⟨hb.trans e, hp⟩
theorem law_ok (x0 x1 x2 x3 x4 : Int32) : ∃ τ, F0 x0 x1 x2 x3 x4 = some (1, τ) ∧ τ.length - List.length ([] : QHeap) ≤ room_1.cells ∧ qhs τ - qhs [] ≤ room_1.slots := by
 have : okP (F0 x0 x1 x2 x3 x4) (fun e => e.1 = 1 ∧ (e.2.length - List.length ([] : QHeap) ≤ room_1.cells ∧ qhs e.2 - qhs [] ≤ room_1.slots)) := by
  unfold F0
  apply okP.bind
  refine okP.mono (init_ok (r := 4) (n := 2) (by decide) (by decide)) (fun o ho => ?_)
  have w0 := WF0 (r := 4) (n := 2) (by decide) (by decide)
  apply okP.bind; refine okP.mono (set1 w0 rfl ho 0 0 x0 (by decide) (by decide)) ?_
  rintro ⟨_, o1⟩ ⟨L1, s1⟩
  have w1 := w0.set (r := 0) (f := 0) (v := x0) (by decide)
  apply okP.bind; refine okP.mono (set1 w1 rfl s1 0 1 0 (by decide) (by decide)) ?_
  rintro ⟨_, o2⟩ ⟨L2, s2⟩
  have w2 := w1.set (r := 0) (f := 1) (v := 0) (by decide)
  apply okP.bind; refine okP.mono (set1 w2 rfl s2 0 2 x2 (by decide) (by decide)) ?_
  rintro ⟨_, o3⟩ ⟨L3, s3⟩
  have w3 := w2.set (r := 0) (f := 2) (v := x2) (by decide)
  apply okP.bind; refine okP.mono (set1 w3 rfl s3 1 0 x1 (by decide) (by decide)) ?_
  rintro ⟨_, o4⟩ ⟨L4, s4⟩
  have w4 := w3.set (r := 1) (f := 0) (v := x1) (by decide)
  apply okP.bind; refine okP.mono (set1 w4 rfl s4 1 1 1 (by decide) (by decide)) ?_
  rintro ⟨_, o5⟩ ⟨L5, s5⟩
  have w5 := w4.set (r := 1) (f := 1) (v := 1) (by decide)
  apply okP.bind; refine okP.mono (set1 w5 rfl s5 1 2 x3 (by decide) (by decide)) ?_
  rintro ⟨_, o6⟩ ⟨L6, s6⟩
  have w6 := w5.set (r := 1) (f := 2) (v := x3) (by decide)
  apply okP.bind; refine okP.mono (set1 w6 rfl s6 2 0 x0 (by decide) (by decide)) ?_
  rintro ⟨_, o7⟩ ⟨L7, s7⟩
  have w7 := w6.set (r := 2) (f := 0) (v := x0) (by decide)
  apply okP.bind; refine okP.mono (set1 w7 rfl s7 2 1 1 (by decide) (by decide)) ?_
  rintro ⟨_, o8⟩ ⟨L8, s8⟩
  have w8 := w7.set (r := 2) (f := 1) (v := 1) (by decide)
  apply okP.bind; refine okP.mono (set1 w8 rfl s8 2 2 x4 (by decide) (by decide)) ?_
  rintro ⟨_, o9⟩ ⟨L9, s9⟩
  simp only at s9 ⊢
  have t := mkTh x0 x1 x2 x3 x4
  obtain ⟨K, hK⟩ : ∃ K, K = kSet (kSet (kSet (kSet (kSet (kSet (kSet (kSet (kSet (K0 4 2) 0 0 x0) 0 1 0) 0 2 x2) 1 0 x1) 1 1 1) 1 2 x3) 2 0 x0) 2 1 1) 2 2 x4 := ⟨_, rfl⟩
  rw [← hK] at t
  have s9' : Sh K L9 o9 := by rw [hK]; exact s9
  clear s9 s8 s7 s6 s5 s4 s3 s2 s1 w8 w7 w6 w5 w4 w3 w2 w1 w0 hK ho
  have wf := t.wf
  apply okP.bind; refine okP.mono (rkc_ok wf s9') ?_
  rintro ⟨n1, p1⟩ ⟨l1, q1⟩
  simp only at l1 q1 ⊢
  rw [t.rf, t.k0e] at l1
  rw [if_pos (show n1 = if x0 = x1 then 1 else 2 by
   rw [i_eq, l1]
   split
   ·rfl
   ·split <;> rfl)]
  apply okP.bind; refine okP.mono (ckc_ok wf q1) ?_
  rintro ⟨n2, p2⟩ ⟨l2, q2⟩
  simp only at l2 q2 ⊢
  rw [t.cf, t.k1] at l2
  rw [if_pos (show n2 = 2 by rw [i_eq, l2]; rfl)]
  apply okP.bind; refine okP.mono (rowKey_ok wf q2 0) ?_
  rintro ⟨n3, p3⟩ ⟨l3, q3⟩
  simp only at l3 q3 ⊢
  rw [if_pos (by rw [l3, t.rf, t.r0])]
  apply okP.bind; refine okP.mono (rowKey_ok wf q3 1) ?_
  rintro ⟨n4, p4⟩ ⟨l4, q4⟩
  simp only at l4 q4 ⊢
  rw [if_pos (by rw [l4, t.rf, t.r1])]
  have rest : ∀ {a b : Int32}, a = b → ∀ {α : Type} {m n : Option α} {P : α → Prop}, okP m P → okP (if a = b then m else n) P := fun h _ _ _ _ k => by rw [if_pos h]; exact k
  apply okP.bind; refine okP.mono (val1 t q4 (-1) (-1) (x2 + x3 + x4) (by rw [pvv t (im _ _) (im _ _)]; exact t.g00.1)) ?_
  rintro ⟨n5, p5⟩ ⟨l5, q5⟩
  refine rest l5 ?_
  apply okP.bind; refine okP.mono (count_ok wf q5 (-1) (-1)) ?_
  rintro ⟨n6, p6⟩ ⟨l6, q6⟩
  refine rest (l6.trans (by rw [pvv t (im _ _) (im _ _)]; exact t.g00.2)) ?_
  apply okP.bind; refine okP.mono (val1 t q6 (-1) 0 x2 (by rw [pvv t (im _ _) t.j0, t.c0]; exact t.g01.1)) ?_
  rintro ⟨n7, p7⟩ ⟨l7, q7⟩
  refine rest l7 ?_
  apply okP.bind; refine okP.mono (val1 t q7 (-1) 1 (x3 + x4) (by rw [pvv t (im _ _) t.j1, t.c1]; exact t.g01.2)) ?_
  rintro ⟨n8, p8⟩ ⟨l8, q8⟩
  refine rest l8 ?_
  apply okP.bind; refine okP.mono (val1 t q8 0 (-1) (if x0 = x1 then x2 + x3 + x4 else if x0 < x1 then x2 + x4 else x3) (by
   rw [pvv t t.i0 (im _ _), t.r0]
   show (grp K 1 (if x0 = x1 then x0 else if x0 < x1 then x0 else x1) 0 0).1 = _
   by_cases e : x0 = x1
   ·rw [if_pos e, if_pos e, t.ga.1, if_pos e]
   ·rw [if_neg e, if_neg e]
    by_cases l : x0 < x1
    ·rw [if_pos l, if_pos l, t.ga.1, if_neg e]
    ·rw [if_neg l, if_neg l, (t.gb e).1])) ?_
  rintro ⟨n9, p9⟩ ⟨l9, q9⟩
  refine rest l9 ?_
  apply okP.bind; refine okP.mono (val1 t q9 0 0 (if x0 = x1 then x2 else if x0 < x1 then x2 else 0) (by
   rw [pvv t t.i0 t.j0, t.r0, t.c0]
   show (grp K 1 (if x0 = x1 then x0 else if x0 < x1 then x0 else x1) 1 0).1 = _
   by_cases e : x0 = x1
   ·rw [if_pos e, if_pos e, t.ga.2.1]
   ·rw [if_neg e, if_neg e]
    by_cases l : x0 < x1
    ·rw [if_pos l, if_pos l, t.ga.2.1]
    ·rw [if_neg l, if_neg l, (t.gb e).2.1])) ?_
  rintro ⟨n10, p10⟩ ⟨l10, q10⟩
  refine rest l10 ?_
  apply okP.bind; refine okP.mono (val1 t q10 0 1 (if x0 = x1 then x3 + x4 else if x0 < x1 then x4 else x3) (by
   rw [pvv t t.i0 t.j1, t.r0, t.c1]
   show (grp K 1 (if x0 = x1 then x0 else if x0 < x1 then x0 else x1) 1 1).1 = _
   by_cases e : x0 = x1
   ·rw [if_pos e, if_pos e, t.ga.2.2, if_pos e]
   ·rw [if_neg e, if_neg e]
    by_cases l : x0 < x1
    ·rw [if_pos l, if_pos l, t.ga.2.2, if_neg e]
    ·rw [if_neg l, if_neg l, (t.gb e).2.2])) ?_
  rintro ⟨n11, p11⟩ ⟨l11, q11⟩
  refine rest l11 ?_
  apply okP.bind; refine okP.mono (val1 t q11 1 (-1) (if x0 = x1 then 0 else if x0 < x1 then x3 else x2 + x4) (by
   by_cases e : x0 = x1
   ·rw [if_pos e, pvo t (t.i1n e)]
   ·rw [pvv t (t.i1 e) (im _ _), t.r1]
    show (grp K 1 (if x0 = x1 then 0 else if x0 < x1 then x1 else x0) 0 0).1 = _
    rw [if_neg e, if_neg e]
    by_cases l : x0 < x1
    ·rw [if_pos l, if_pos l, (t.gb e).1]
    ·rw [if_neg l, if_neg l, t.ga.1, if_neg e])) ?_
  rintro ⟨n12, p12⟩ ⟨l12, q12⟩
  refine rest l12 ?_
  apply okP.bind; refine okP.mono (val1 t q12 1 0 (if x0 = x1 then 0 else if x0 < x1 then 0 else x2) (by
   by_cases e : x0 = x1
   ·rw [if_pos e, pvo t (t.i1n e)]
   ·rw [pvv t (t.i1 e) t.j0, t.r1, t.c0]
    show (grp K 1 (if x0 = x1 then 0 else if x0 < x1 then x1 else x0) 1 0).1 = _
    rw [if_neg e, if_neg e]
    by_cases l : x0 < x1
    ·rw [if_pos l, if_pos l, (t.gb e).2.1]
    ·rw [if_neg l, if_neg l, t.ga.2.1])) ?_
  rintro ⟨n13, p13⟩ ⟨l13, q13⟩
  refine rest l13 ?_
  apply okP.bind; refine okP.mono (val1 t q13 1 1 (if x0 = x1 then 0 else if x0 < x1 then x3 else x4) (by
   by_cases e : x0 = x1
   ·rw [if_pos e, pvo t (t.i1n e)]
   ·rw [pvv t (t.i1 e) t.j1, t.r1, t.c1]
    show (grp K 1 (if x0 = x1 then 0 else if x0 < x1 then x1 else x0) 1 1).1 = _
    rw [if_neg e, if_neg e]
    by_cases l : x0 < x1
    ·rw [if_pos l, if_pos l, (t.gb e).2.2]
    ·rw [if_neg l, if_neg l, t.ga.2.2, if_neg e])) ?_
  rintro ⟨n14, p14⟩ ⟨l14, q14⟩
  refine rest l14 ?_
  have kn : (kN K).toInt = 2 := by rw [t.N]; rfl
  apply okP.bind; refine okP.mono (setFor_ok wf q14 0 1 x1 0) ?_
  rintro ⟨n15, p15⟩ h15
  rw [if_pos ⟨⟨by decide, by rw [kn]; decide⟩, by decide⟩] at h15
  have t1 := Th_kFor t (s := 0) (m := 1) (p := x1) (q := 0)
  apply okP.bind; refine okP.mono (setFor_ok t1.wf h15.2 1 2 x0 0) ?_
  rintro ⟨n16, p16⟩ h16
  rw [if_pos ⟨⟨by decide, by show (1 : Int) < (kN K).toInt; omega⟩, by decide⟩] at h16
  have t2 := Th_kFor t1 (s := 1) (m := 2) (p := x0) (q := 0)
  have q16 := h16.2
  have m16 := wf.m
  have a16 := wf.a
  have b16 := wf.c
  obtain ⟨K2, hK2⟩ : ∃ K2, K2 = kFor (kFor K 0 1 x1 0) 1 2 x0 0 := ⟨_, rfl⟩
  have fm0 : fm K2 0 = grp K2 1 x1 1 0 := by
   have e1 : mo K2 0 = 1 := by
    rw [hK2]
    show ((((kM K).set 0 1).set 1 2)[0]?).getD 0 = 1
    rw [List.getElem?_set_ne (by decide), List.getElem?_set_self (by omega)]; rfl
   have e2 : ((kFa K2)[0]?).getD 0 = x1 := by
    rw [hK2]
    show ((((kFa K).set 0 x1).set 1 x0)[0]?).getD 0 = x1
    rw [List.getElem?_set_ne (by decide), List.getElem?_set_self (by omega)]; rfl
   have e3 : ((kFb K2)[0]?).getD 0 = 0 := by
    rw [hK2]
    show ((((kFb K).set 0 0).set 1 0)[0]?).getD 0 = 0
    rw [List.getElem?_set_ne (by decide), List.getElem?_set_self (by omega)]; rfl
   unfold fm
   rw [e1, e2, e3]; rfl
  have fm1 : ∃ q, fm K2 1 = grp K2 1 x0 0 q := by
   have e1 : mo K2 1 = 2 := by
    rw [hK2]
    show ((((kM K).set 0 1).set 1 2)[1]?).getD 0 = 2
    rw [List.getElem?_set_self (by rw [List.length_set]; omega)]; rfl
   have e2 : ((kFa K2)[1]?).getD 0 = x0 := by
    rw [hK2]
    show ((((kFa K).set 0 x1).set 1 x0)[1]?).getD 0 = x0
    rw [List.getElem?_set_self (by rw [List.length_set]; omega)]; rfl
   unfold fm
   rw [e1, e2]
   exact ⟨_, rfl⟩
  rw [← hK2] at t2
  have s16 : Sh K2 L9 p16 := by rw [hK2]; exact q16
  have gq : ∀ q, grp K2 1 x0 0 q = grp K2 1 x0 0 0 := by
   intro q
   rw [t2.g, t2.g]
   rfl
  obtain ⟨qq, fm1⟩ := fm1
  rw [gq] at fm1
  have kn2 : (kN K2).toInt = 2 := by rw [t2.N]; rfl
  apply okP.bind; refine okP.mono (fval_ok t2.wf s16 0) ?_
  rintro ⟨n17, p17⟩ ⟨l17, q17⟩
  rw [if_pos ⟨by decide, by rw [kn2]; decide⟩] at l17
  refine rest (l17.trans (by show (fm K2 0).1 = _; rw [fm0]; exact t2.fb.1)) ?_
  apply okP.bind; refine okP.mono (ffnd_ok t2.wf q17 0) ?_
  rintro ⟨n18, p18⟩ ⟨l18, q18⟩
  rw [if_pos ⟨by decide, by rw [kn2]; decide⟩] at l18
  refine rest (l18.trans (by show fnd K2 0 = _; unfold fnd; rw [fm0]; exact t2.fb.2)) ?_
  apply okP.bind; refine okP.mono (fval_ok t2.wf q18 1) ?_
  rintro ⟨n19, p19⟩ ⟨l19, q19⟩
  rw [if_pos ⟨by decide, by rw [kn2]; decide⟩] at l19
  refine rest (l19.trans (by show (fm K2 1).1 = _; rw [fm1]; exact t2.ga.1)) ?_
  apply okP.bind; refine okP.mono (ffnd_ok t2.wf q19 1) ?_
  rintro ⟨n20, p20⟩ ⟨l20, q20⟩
  rw [if_pos ⟨by decide, by rw [kn2]; decide⟩] at l20
  have : n20 = 1 := l20.trans (by show fnd K2 1 = _; unfold fnd; rw [fm1, if_pos t2.fa])
  subst this
  apply okP.some
  refine ⟨by show (1 &&& 1 : Int32) = 1; decide, ?_⟩
  obtain ⟨b1, b2, b3, b4, b5, b6, b7, b8⟩ := siz q20 t2.wf
  refine ⟨by show 9 - 0 ≤ _; decide, ?_⟩
  simp only [H0, H0v, qhs, qsz, b1, b2, b3, b4, b5, b6, b7, b8]
  simp only [cN, room_1]
  omega
 obtain ⟨⟨r, τ⟩, q1, q2, q3⟩ := this
 simp only at q2
 subst q2
 exact ⟨τ, q1, q3⟩
set_option maxRecDepth 65536 in
theorem comes_1 {Post : Tables → Env → Array Value → State → Outcome → State → Prop} (hpost : ∀ tb e args s v u, (limb_1_1.after args s (.returned v) u = true ∧ limb_1_2.after args s (.returned v) u = true ∧ True) → FrameEnd s (.returned v) u (Jvm.fieldLocs frame_1_writes args s ++ Jvm.arrayLocs frame_1_arrays args s ++ Jvm.staticLocs frame_1_statics s) 32 768 → Post tb e args s (.returned v) u) :
    ArmFor flags0 classFile x code maxLocals ret World_1 tables_1 room_1 Calls_1 rest_1 Pre_1 Post := by
  intro l hfl _ _ p e ha hc hk s m args below hf hA hF happ hP
  obtain ⟨hcalls, hrest, hpre⟩ := hP
  obtain ⟨-, -, -, hnamed, -, -, -, hat⟩ := (Spec.applies_iff hf).mp happ
  obtain ⟨hg, hn⟩ := and_e (Cond.before_iff.mp (show (Jvm.Cond.and given_1 narrow_1).before args s = true from hpre))
  obtain ⟨g0, g1⟩ := and_e hg
  obtain ⟨w0, w1, w2, w3, w4, rfl⟩ : ∃ w0 w1 w2 w3 w4 : Value, args = #[w0, w1, w2, w3, w4] := by
    have hs : args.size = 5 := by simpa [Cond.value, given_1] using g0
    obtain ⟨L⟩ := args
    match L, hs with
    | [w0, w1, w2, w3, w4], _ => exact ⟨w0, w1, w2, w3, w4, rfl⟩
  have hw := fun d (hd : d ∈ tables_1) => atoms_spec (ws := Jvm.Cond.code x code maxLocals ret :: tables_1) hat d (List.mem_cons_of_mem _ hd)
  obtain ⟨a0, g2⟩ := and_e g1
  obtain ⟨i0, ei0⟩ := is_v a0
  obtain rfl : w0 = (.int i0) := Option.some.inj ei0
  obtain ⟨a1, g3⟩ := and_e g2
  obtain ⟨i1, ei1⟩ := is_v a1
  obtain rfl : w1 = (.int i1) := Option.some.inj ei1
  obtain ⟨a2, g4⟩ := and_e g3
  obtain ⟨i2, ei2⟩ := is_v a2
  obtain rfl : w2 = (.int i2) := Option.some.inj ei2
  obtain ⟨a3, g5⟩ := and_e g4
  obtain ⟨i3, ei3⟩ := is_v a3
  obtain rfl : w3 = (.int i3) := Option.some.inj ei3
  obtain ⟨i4, ei4⟩ := is_v g5
  obtain rfl : w4 = (.int i4) := Option.some.inj ei4
  obtain ⟨τ, hF0, hc1, hs1⟩ := law_ok i0 i1 i2 i3 i4
  have Ad : QAd s.heap.size (fun k => s.heap.size + k) := ⟨fun k _ => rfl, fun i j h => Nat.add_left_cancel h⟩
  have hR : QRep s s.heap.size (fun k => s.heap.size + k) s.heap [] := ⟨Nat.le_refl _, rfl, fun k c h => by cases h⟩
  have T := tF0 (l := l) (Z := s) Ad (QW_ok hw) i0 i1 i2 i3 i4 hF0
  have M := QTri.met (k := 0) (as := [.int i0, .int i1, .int i2, .int i3, .int i4]) (by decide) T hR (Nat.le_of_ble_eq_true rfl) (fun q => by cases q) tables_1 (rm := room_1) (by decide) (by decide) hc1 hs1
  obtain ⟨n, o, h1, h2, h3, _, L, rfl, ⟨rfl, R', N⟩, hq⟩ := M p e ha hc hk s m _ below hf ((Spec.applies_iff_loose hf).mp happ).1 ⟨rfl, State.Warmed39.refl s, rfl⟩ trivial
  refine ⟨n, _, h1, h2, h3, hpost _ _ _ _ _ _ ⟨Cond.after_iff.mpr rfl, Cond.after_iff.mpr (eq_i res_at (Term.int_eval (1)) rfl), trivial⟩ ⟨hq.1, hq.2.1, (hq.2.2.sift fun y hy => Or.inr (N y hy)).mono hc1 hs1⟩⟩
theorem main_1_1 : Claimed_1_1 := comes_1 fun _ _ _ _ _ _ h hF => ⟨h.1, hF⟩
theorem main_1_2 : Claimed_1_2 := comes_1 fun _ _ _ _ _ _ h hF => ⟨h.2.1, hF⟩
end Jvm.Pilot.@@N@@
namespace Jvm.Pilot.@@N@@
open Jvm Jvm.ClassFile Sem Op Lib Jvm.Free Jvm.Stand Jvm.Pilot.@@N@@.Jvm.D
/-! MADE BY PROGRAM (witnessworld.py) out of the Statement's table words and the real class files: 11 classes; the members and pool entries that the words name. The judged class is class 1, her method 1. -/
namespace start1
open Jvm.ClassFile
def u (s : String) : CpInfo := .utf8 (stringToUtf16 s)
/-- a pool by its gaps: so many unusable entries, then the entry; so many at the end -/
def gap : Nat → List CpInfo → List CpInfo
  | 0, r => r
  | n + 1, r => .unusable :: gap n r
def poolList (es : List (Nat × CpInfo)) (last : Nat) : List CpInfo := es.foldr (fun e r => gap e.1 (e.2 :: r)) (gap last [])
def pool (es : List (Nat × CpInfo)) (last : Nat) : Array CpInfo := ⟨poolList es last⟩
def fileOf (pool : Array CpInfo) (this : Nat) (attrs : Array Attribute := #[]) (ms : Array MethodInfo := #[]) (fl : Nat := 33) (sup : Nat := 0) (ifs : Array Nat := #[]) (fds : Array FieldInfo := #[]) : ClassFile where
  minorVersion := 0
  majorVersion := 65
  constantPool := pool
  accessFlags := fl
  thisClass := this
  superClass := sup
  interfaces := ifs
  fields := fds
  methods := ms
  attributes := attrs
def plain (name : String) (sup : Option ClassId) : Class where
  name := name
  kind := .ordinary
  loader := none
  accessFlags := 33
  super := sup
  interfaces := #[]
  cf := none
  fields := #[]
  methods := #[]
  instanceTypes := #[]
  staticTypes := #[]
  resolved := #[]
  callSites := []
  init := .initialized
  statics := none
  mirror := none

def pool0 : Array CpInfo := pool [(5, u "<init>"), (0, u "()V"), (1, .class_ 10), (1, u "java/lang/Object")] 113

def k0c0 : Code := { maxStack := 0, maxLocals := 1, code := object_method_1_code, exceptionTable := #[], attributes := #[] }
def k0m0 : Method := { name := "<init>", desc := "()V", sig := { parameters := [], returnType := none }, accessFlags := 1, code := some k0c0 }
/-- java/lang/Object -/
def k0 : Class := { plain "java/lang/Object" none with
  accessFlags := 33
  interfaces := #[]
  cf := some (fileOf pool0 8 #[] #[{ accessFlags := 1, nameIndex := 5, descriptorIndex := 6, attributes := #[] }] 33 0 #[] #[])
  fields := #[]
  methods := #[k0m0]
  instanceTypes := #[]
  staticTypes := #[]
  resolved := Array.replicate 124 none
  statics := none }

def pool1 : Array CpInfo := pool [(2, .class_ 4), (1, u "java/lang/Object"), (0, u "<init>"), (0, u "()V"), (0, .class_ 8), (0, u "PivotSheet"), (0, .methodref 7 10), (0, .nameAndType 5 11), (0, u "(II)V"), (0, .methodref 7 13), (0, .nameAndType 14 15), (0, u "setCell"), (0, u "(III)Z"), (0, .methodref 7 17), (0, .nameAndType 18 19), (0, u "rowKeyCount"), (0, u "()I"), (0, .methodref 7 21), (0, .nameAndType 22 19), (0, u "colKeyCount"), (0, .methodref 7 24), (0, .nameAndType 25 26), (0, u "rowKey"), (0, u "(I)I"), (0, .methodref 7 28), (0, .nameAndType 29 30), (0, u "value"), (0, u "(II)I"), (0, .methodref 7 32), (0, .nameAndType 33 30), (0, u "groupCount"), (0, .methodref 7 35), (0, .nameAndType 36 37), (0, u "setFormula"), (0, u "(IIII)Z"), (0, .methodref 7 39), (0, .nameAndType 40 26), (0, u "formulaValue"), (0, .methodref 7 42), (0, .nameAndType 43 44), (0, u "formulaFound"), (0, u "(I)Z"), (0, .class_ 46), (0, u "PivotSheetL3"), (2, u "law"), (0, u "(IIIII)Z")] 3

def k1m0 : Method := { name := "<init>", desc := "()V", sig := { parameters := [], returnType := none }, accessFlags := 1, code := none }
def k1c1 : Code := { maxStack := 5, maxLocals := 15, code := code, exceptionTable := #[], attributes := #[] }
def k1m1 : Method := { name := "law", desc := "(IIIII)Z", sig := { parameters := [.int, .int, .int, .int, .int], returnType := some .boolean }, accessFlags := 9, code := some k1c1 }
/-- PivotSheetL3 -/
def k1 : Class := { plain "PivotSheetL3" (some 0) with
  accessFlags := 49
  interfaces := #[]
  cf := some (fileOf pool1 45 #[] #[{ accessFlags := 1, nameIndex := 5, descriptorIndex := 6, attributes := #[] }, { accessFlags := 9, nameIndex := 49, descriptorIndex := 50, attributes := #[] }] 49 2 #[] #[])
  fields := #[]
  methods := #[k1m0, k1m1]
  instanceTypes := #[]
  staticTypes := #[]
  resolved := Array.replicate 54 none
  statics := none }

def pool2 : Array CpInfo := pool [(1, .methodref 2 3), (0, .class_ 4), (0, .nameAndType 5 6), (0, u "java/lang/Object"), (0, u "<init>"), (0, u "()V"), (0, .fieldref 8 9), (0, .class_ 10), (0, .nameAndType 11 12), (0, u "PivotSheet"), (0, u "data"), (0, u "[I"), (0, .fieldref 8 14), (0, .nameAndType 15 16), (0, u "filled"), (0, u "[Z"), (0, .fieldref 8 18), (0, .nameAndType 19 20), (0, u "rf"), (0, u "I"), (0, .fieldref 8 22), (0, .nameAndType 23 20), (0, u "cf"), (0, .fieldref 8 25), (0, .nameAndType 26 20), (0, u "vf"), (0, .fieldref 8 28), (0, .nameAndType 29 20), (0, u "ag"), (0, .fieldref 8 31), (0, .nameAndType 32 12), (0, u "fMode"), (0, .fieldref 8 34), (0, .nameAndType 35 12), (0, u "fRk"), (0, .fieldref 8 37), (0, .nameAndType 38 12), (0, u "fCk"), (0, .fieldref 8 40), (0, .nameAndType 41 12), (0, u "prevVal"), (0, .fieldref 8 43), (0, .nameAndType 44 16), (0, u "prevFound"), (0, .fieldref 8 46), (0, .nameAndType 47 12), (0, u "keys"), (0, .fieldref 8 49), (0, .nameAndType 50 20), (0, u "nRows"), (0, .fieldref 8 52), (0, .nameAndType 53 20), (0, u "nForms"), (0, .fieldref 8 55), (0, .nameAndType 56 20), (0, u "last"), (0, .methodref 8 58), (0, .nameAndType 59 60), (0, u "validRow"), (0, u "(I)Z"), (0, .methodref 8 62), (0, .nameAndType 63 6), (0, u "snapshot"), (0, .methodref 8 65), (0, .nameAndType 66 67), (0, u "countChanged"), (0, u "()I"), (3, .methodref 8 72), (0, .nameAndType 73 74), (0, u "buildKeys"), (0, u "(II)I"), (0, .methodref 8 76), (0, .nameAndType 77 78), (0, u "resolve"), (0, u "(II)Z"), (0, .fieldref 8 80), (0, .nameAndType 81 82), (0, u "selUseR"), (0, u "Z"), (0, .fieldref 8 84), (0, .nameAndType 85 20), (0, u "selRk"), (0, .fieldref 8 87), (0, .nameAndType 88 82), (0, u "selUseC"), (0, .fieldref 8 90), (0, .nameAndType 91 20), (0, u "selCk"), (0, .methodref 8 93), (0, .nameAndType 94 95), (0, u "evalGroup"), (0, u "(ZIZI)V"), (0, .fieldref 8 97), (0, .nameAndType 98 20), (0, u "gVal"), (0, .fieldref 8 100), (0, .nameAndType 101 20), (0, u "gCount"), (0, .methodref 8 103), (0, .nameAndType 104 60), (0, u "validSlot"), (0, .methodref 8 106), (0, .nameAndType 107 108), (0, u "evalFormula"), (0, u "(I)V"), (0, .methodref 8 110), (0, .nameAndType 111 112), (0, u "insertKey"), (0, u "(III)I"), (0, .methodref 8 114), (0, .nameAndType 115 116), (0, u "pickAgg"), (0, u "(IIII)I"), (0, u "SUM"), (2, u "COUNT"), (1, u "MIN"), (1, u "MAX"), (1, u "FIELDS"), (1, u "ALL"), (1, u "F_NONE"), (0, u "F_CELL"), (0, u "F_ROW"), (0, u "F_COL"), (0, u "F_GRAND"), (0, u "MAX_ROWS"), (1, u "MAX_FORMS"), (1, u "COL_BASE"), (0, u "(II)V"), (3, u "setCell"), (0, u "(III)Z"), (4, u "(IIII)Z"), (0, u "rowKeyCount"), (0, u "colKeyCount"), (0, u "rowKey"), (0, u "(I)I"), (1, u "value"), (0, u "groupCount"), (0, u "setFormula"), (0, u "formulaValue"), (0, u "formulaFound")] 4

def k2c0 : Code := { maxStack := 2, maxLocals := 5, code := prog_1_method_1_code, exceptionTable := #[], attributes := #[] }
def k2m0 : Method := { name := "<init>", desc := "(II)V", sig := { parameters := [.int, .int], returnType := none }, accessFlags := 1, code := some k2c0 }
def k2c1 : Code := { maxStack := 3, maxLocals := 4, code := prog_1_method_2_code, exceptionTable := #[], attributes := #[] }
def k2m1 : Method := { name := "setCell", desc := "(III)Z", sig := { parameters := [.int, .int, .int], returnType := some .boolean }, accessFlags := 1, code := some k2c1 }
def k2c2 : Code := { maxStack := 3, maxLocals := 1, code := prog_1_method_7_code, exceptionTable := #[], attributes := #[] }
def k2m2 : Method := { name := "rowKeyCount", desc := "()I", sig := { parameters := [], returnType := some .int }, accessFlags := 1, code := some k2c2 }
def k2c3 : Code := { maxStack := 3, maxLocals := 1, code := prog_1_method_8_code, exceptionTable := #[], attributes := #[] }
def k2m3 : Method := { name := "colKeyCount", desc := "()I", sig := { parameters := [], returnType := some .int }, accessFlags := 1, code := some k2c3 }
def k2c4 : Code := { maxStack := 3, maxLocals := 3, code := prog_1_method_9_code, exceptionTable := #[], attributes := #[] }
def k2m4 : Method := { name := "rowKey", desc := "(I)I", sig := { parameters := [.int], returnType := some .int }, accessFlags := 1, code := some k2c4 }
def k2c5 : Code := { maxStack := 5, maxLocals := 3, code := prog_1_method_11_code, exceptionTable := #[], attributes := #[] }
def k2m5 : Method := { name := "value", desc := "(II)I", sig := { parameters := [.int, .int], returnType := some .int }, accessFlags := 1, code := some k2c5 }
def k2c6 : Code := { maxStack := 5, maxLocals := 3, code := prog_1_method_12_code, exceptionTable := #[], attributes := #[] }
def k2m6 : Method := { name := "groupCount", desc := "(II)I", sig := { parameters := [.int, .int], returnType := some .int }, accessFlags := 1, code := some k2c6 }
def k2c7 : Code := { maxStack := 3, maxLocals := 5, code := prog_1_method_13_code, exceptionTable := #[], attributes := #[] }
def k2m7 : Method := { name := "setFormula", desc := "(IIII)Z", sig := { parameters := [.int, .int, .int, .int], returnType := some .boolean }, accessFlags := 1, code := some k2c7 }
def k2c8 : Code := { maxStack := 2, maxLocals := 2, code := prog_1_method_14_code, exceptionTable := #[], attributes := #[] }
def k2m8 : Method := { name := "formulaValue", desc := "(I)I", sig := { parameters := [.int], returnType := some .int }, accessFlags := 1, code := some k2c8 }
def k2c9 : Code := { maxStack := 2, maxLocals := 2, code := prog_1_method_15_code, exceptionTable := #[], attributes := #[] }
def k2m9 : Method := { name := "formulaFound", desc := "(I)Z", sig := { parameters := [.int], returnType := some .boolean }, accessFlags := 1, code := some k2c9 }
def k2c10 : Code := { maxStack := 2, maxLocals := 2, code := prog_1_method_17_code, exceptionTable := #[], attributes := #[] }
def k2m10 : Method := { name := "validRow", desc := "(I)Z", sig := { parameters := [.int], returnType := some .boolean }, accessFlags := 2, code := some k2c10 }
def k2c11 : Code := { maxStack := 2, maxLocals := 2, code := prog_1_method_19_code, exceptionTable := #[], attributes := #[] }
def k2m11 : Method := { name := "validSlot", desc := "(I)Z", sig := { parameters := [.int], returnType := some .boolean }, accessFlags := 2, code := some k2c11 }
def k2c12 : Code := { maxStack := 6, maxLocals := 5, code := prog_1_method_20_code, exceptionTable := #[], attributes := #[] }
def k2m12 : Method := { name := "buildKeys", desc := "(II)I", sig := { parameters := [.int, .int], returnType := some .int }, accessFlags := 2, code := some k2c12 }
def k2c13 : Code := { maxStack := 5, maxLocals := 6, code := prog_1_method_21_code, exceptionTable := #[], attributes := #[] }
def k2m13 : Method := { name := "insertKey", desc := "(III)I", sig := { parameters := [.int, .int, .int], returnType := some .int }, accessFlags := 2, code := some k2c13 }
def k2c14 : Code := { maxStack := 4, maxLocals := 5, code := prog_1_method_22_code, exceptionTable := #[], attributes := #[] }
def k2m14 : Method := { name := "resolve", desc := "(II)Z", sig := { parameters := [.int, .int], returnType := some .boolean }, accessFlags := 2, code := some k2c14 }
def k2c15 : Code := { maxStack := 6, maxLocals := 12, code := prog_1_method_23_code, exceptionTable := #[], attributes := #[] }
def k2m15 : Method := { name := "evalGroup", desc := "(ZIZI)V", sig := { parameters := [.boolean, .int, .boolean, .int], returnType := none }, accessFlags := 2, code := some k2c15 }
def k2c16 : Code := { maxStack := 2, maxLocals := 5, code := prog_1_method_24_code, exceptionTable := #[], attributes := #[] }
def k2m16 : Method := { name := "pickAgg", desc := "(IIII)I", sig := { parameters := [.int, .int, .int, .int], returnType := some .int }, accessFlags := 2, code := some k2c16 }
def k2c17 : Code := { maxStack := 6, maxLocals := 5, code := prog_1_method_25_code, exceptionTable := #[], attributes := #[] }
def k2m17 : Method := { name := "evalFormula", desc := "(I)V", sig := { parameters := [.int], returnType := none }, accessFlags := 2, code := some k2c17 }
def k2c18 : Code := { maxStack := 3, maxLocals := 2, code := prog_1_method_26_code, exceptionTable := #[], attributes := #[] }
def k2m18 : Method := { name := "snapshot", desc := "()V", sig := { parameters := [], returnType := none }, accessFlags := 2, code := some k2c18 }
def k2c19 : Code := { maxStack := 3, maxLocals := 4, code := prog_1_method_27_code, exceptionTable := #[], attributes := #[] }
def k2m19 : Method := { name := "countChanged", desc := "()I", sig := { parameters := [], returnType := some .int }, accessFlags := 2, code := some k2c19 }
/-- PivotSheet -/
def k2 : Class := { plain "PivotSheet" (some 0) with
  accessFlags := 49
  interfaces := #[]
  cf := some (fileOf pool2 8 #[] #[{ accessFlags := 1, nameIndex := 5, descriptorIndex := 140, attributes := #[] }, { accessFlags := 1, nameIndex := 144, descriptorIndex := 145, attributes := #[] }, { accessFlags := 1, nameIndex := 151, descriptorIndex := 67, attributes := #[] }, { accessFlags := 1, nameIndex := 152, descriptorIndex := 67, attributes := #[] }, { accessFlags := 1, nameIndex := 153, descriptorIndex := 154, attributes := #[] }, { accessFlags := 1, nameIndex := 156, descriptorIndex := 74, attributes := #[] }, { accessFlags := 1, nameIndex := 157, descriptorIndex := 74, attributes := #[] }, { accessFlags := 1, nameIndex := 158, descriptorIndex := 150, attributes := #[] }, { accessFlags := 1, nameIndex := 159, descriptorIndex := 154, attributes := #[] }, { accessFlags := 1, nameIndex := 160, descriptorIndex := 60, attributes := #[] }, { accessFlags := 2, nameIndex := 59, descriptorIndex := 60, attributes := #[] }, { accessFlags := 2, nameIndex := 104, descriptorIndex := 60, attributes := #[] }, { accessFlags := 2, nameIndex := 73, descriptorIndex := 74, attributes := #[] }, { accessFlags := 2, nameIndex := 111, descriptorIndex := 112, attributes := #[] }, { accessFlags := 2, nameIndex := 77, descriptorIndex := 78, attributes := #[] }, { accessFlags := 2, nameIndex := 94, descriptorIndex := 95, attributes := #[] }, { accessFlags := 2, nameIndex := 115, descriptorIndex := 116, attributes := #[] }, { accessFlags := 2, nameIndex := 107, descriptorIndex := 108, attributes := #[] }, { accessFlags := 2, nameIndex := 63, descriptorIndex := 6, attributes := #[] }, { accessFlags := 2, nameIndex := 66, descriptorIndex := 67, attributes := #[] }] 49 2 #[] #[{ accessFlags := 25, nameIndex := 117, descriptorIndex := 20, attributes := #[] }, { accessFlags := 25, nameIndex := 120, descriptorIndex := 20, attributes := #[] }, { accessFlags := 25, nameIndex := 122, descriptorIndex := 20, attributes := #[] }, { accessFlags := 25, nameIndex := 124, descriptorIndex := 20, attributes := #[] }, { accessFlags := 25, nameIndex := 126, descriptorIndex := 20, attributes := #[] }, { accessFlags := 25, nameIndex := 128, descriptorIndex := 20, attributes := #[] }, { accessFlags := 25, nameIndex := 130, descriptorIndex := 20, attributes := #[] }, { accessFlags := 25, nameIndex := 131, descriptorIndex := 20, attributes := #[] }, { accessFlags := 25, nameIndex := 132, descriptorIndex := 20, attributes := #[] }, { accessFlags := 25, nameIndex := 133, descriptorIndex := 20, attributes := #[] }, { accessFlags := 25, nameIndex := 134, descriptorIndex := 20, attributes := #[] }, { accessFlags := 26, nameIndex := 135, descriptorIndex := 20, attributes := #[] }, { accessFlags := 26, nameIndex := 137, descriptorIndex := 20, attributes := #[] }, { accessFlags := 26, nameIndex := 139, descriptorIndex := 20, attributes := #[] }, { accessFlags := 2, nameIndex := 50, descriptorIndex := 20, attributes := #[] }, { accessFlags := 2, nameIndex := 53, descriptorIndex := 20, attributes := #[] }, { accessFlags := 2, nameIndex := 11, descriptorIndex := 12, attributes := #[] }, { accessFlags := 2, nameIndex := 15, descriptorIndex := 16, attributes := #[] }, { accessFlags := 2, nameIndex := 19, descriptorIndex := 20, attributes := #[] }, { accessFlags := 2, nameIndex := 23, descriptorIndex := 20, attributes := #[] }, { accessFlags := 2, nameIndex := 26, descriptorIndex := 20, attributes := #[] }, { accessFlags := 2, nameIndex := 29, descriptorIndex := 20, attributes := #[] }, { accessFlags := 2, nameIndex := 32, descriptorIndex := 12, attributes := #[] }, { accessFlags := 2, nameIndex := 35, descriptorIndex := 12, attributes := #[] }, { accessFlags := 2, nameIndex := 38, descriptorIndex := 12, attributes := #[] }, { accessFlags := 2, nameIndex := 41, descriptorIndex := 12, attributes := #[] }, { accessFlags := 2, nameIndex := 44, descriptorIndex := 16, attributes := #[] }, { accessFlags := 2, nameIndex := 47, descriptorIndex := 12, attributes := #[] }, { accessFlags := 2, nameIndex := 56, descriptorIndex := 20, attributes := #[] }, { accessFlags := 2, nameIndex := 98, descriptorIndex := 20, attributes := #[] }, { accessFlags := 2, nameIndex := 101, descriptorIndex := 20, attributes := #[] }, { accessFlags := 2, nameIndex := 81, descriptorIndex := 82, attributes := #[] }, { accessFlags := 2, nameIndex := 85, descriptorIndex := 20, attributes := #[] }, { accessFlags := 2, nameIndex := 88, descriptorIndex := 82, attributes := #[] }, { accessFlags := 2, nameIndex := 91, descriptorIndex := 20, attributes := #[] }])
  fields := #[{ name := "SUM", type := .int, accessFlags := 25, slot := 0, constantValue := 0 }, { name := "COUNT", type := .int, accessFlags := 25, slot := 1, constantValue := 0 }, { name := "MIN", type := .int, accessFlags := 25, slot := 2, constantValue := 0 }, { name := "MAX", type := .int, accessFlags := 25, slot := 3, constantValue := 0 }, { name := "FIELDS", type := .int, accessFlags := 25, slot := 4, constantValue := 0 }, { name := "ALL", type := .int, accessFlags := 25, slot := 5, constantValue := 0 }, { name := "F_NONE", type := .int, accessFlags := 25, slot := 6, constantValue := 0 }, { name := "F_CELL", type := .int, accessFlags := 25, slot := 7, constantValue := 0 }, { name := "F_ROW", type := .int, accessFlags := 25, slot := 8, constantValue := 0 }, { name := "F_COL", type := .int, accessFlags := 25, slot := 9, constantValue := 0 }, { name := "F_GRAND", type := .int, accessFlags := 25, slot := 10, constantValue := 0 }, { name := "MAX_ROWS", type := .int, accessFlags := 26, slot := 11, constantValue := 0 }, { name := "MAX_FORMS", type := .int, accessFlags := 26, slot := 12, constantValue := 0 }, { name := "COL_BASE", type := .int, accessFlags := 26, slot := 13, constantValue := 0 }, { name := "nRows", type := .int, accessFlags := 2, slot := 0, constantValue := 0 }, { name := "nForms", type := .int, accessFlags := 2, slot := 1, constantValue := 0 }, { name := "data", type := (.array .int), accessFlags := 2, slot := 2, constantValue := 0 }, { name := "filled", type := (.array .boolean), accessFlags := 2, slot := 3, constantValue := 0 }, { name := "rf", type := .int, accessFlags := 2, slot := 4, constantValue := 0 }, { name := "cf", type := .int, accessFlags := 2, slot := 5, constantValue := 0 }, { name := "vf", type := .int, accessFlags := 2, slot := 6, constantValue := 0 }, { name := "ag", type := .int, accessFlags := 2, slot := 7, constantValue := 0 }, { name := "fMode", type := (.array .int), accessFlags := 2, slot := 8, constantValue := 0 }, { name := "fRk", type := (.array .int), accessFlags := 2, slot := 9, constantValue := 0 }, { name := "fCk", type := (.array .int), accessFlags := 2, slot := 10, constantValue := 0 }, { name := "prevVal", type := (.array .int), accessFlags := 2, slot := 11, constantValue := 0 }, { name := "prevFound", type := (.array .boolean), accessFlags := 2, slot := 12, constantValue := 0 }, { name := "keys", type := (.array .int), accessFlags := 2, slot := 13, constantValue := 0 }, { name := "last", type := .int, accessFlags := 2, slot := 14, constantValue := 0 }, { name := "gVal", type := .int, accessFlags := 2, slot := 15, constantValue := 0 }, { name := "gCount", type := .int, accessFlags := 2, slot := 16, constantValue := 0 }, { name := "selUseR", type := .boolean, accessFlags := 2, slot := 17, constantValue := 0 }, { name := "selRk", type := .int, accessFlags := 2, slot := 18, constantValue := 0 }, { name := "selUseC", type := .boolean, accessFlags := 2, slot := 19, constantValue := 0 }, { name := "selCk", type := .int, accessFlags := 2, slot := 20, constantValue := 0 }]
  methods := #[k2m0, k2m1, k2m2, k2m3, k2m4, k2m5, k2m6, k2m7, k2m8, k2m9, k2m10, k2m11, k2m12, k2m13, k2m14, k2m15, k2m16, k2m17, k2m18, k2m19]
  instanceTypes := #[.int, .int, (.array .int), (.array .boolean), .int, .int, .int, .int, (.array .int), (.array .int), (.array .int), (.array .int), (.array .boolean), (.array .int), .int, .int, .int, .boolean, .int, .boolean, .int]
  staticTypes := #[.int, .int, .int, .int, .int, .int, .int, .int, .int, .int, .int, .int, .int, .int]
  resolved := Array.replicate 165 none
  statics := none }

def pool3 : Array CpInfo := pool [(1, u "java/lang/Cloneable"), (0, .class_ 1), (0, u "java/lang/Object"), (0, .class_ 3)] 3

/-- java/lang/Cloneable -/
def k3 : Class := { plain "java/lang/Cloneable" (some 0) with
  accessFlags := 1537
  interfaces := #[]
  cf := some (fileOf pool3 2 #[] #[] 1537 4 #[] #[])
  fields := #[]
  methods := #[]
  instanceTypes := #[]
  staticTypes := #[]
  resolved := Array.replicate 8 none
  statics := none }

def pool4 : Array CpInfo := pool [(1, u "java/io/Serializable"), (0, .class_ 1), (0, u "java/lang/Object"), (0, .class_ 3)] 3

/-- java/io/Serializable -/
def k4 : Class := { plain "java/io/Serializable" (some 0) with
  accessFlags := 1537
  interfaces := #[]
  cf := some (fileOf pool4 2 #[] #[] 1537 4 #[] #[])
  fields := #[]
  methods := #[]
  instanceTypes := #[]
  staticTypes := #[]
  resolved := Array.replicate 8 none
  statics := none }

/-- the primitive boolean -/
def k5 : Class := { plain "boolean" none with kind := .primitive 'Z', accessFlags := 0x411 }
/-- [Z -/
def k6 : Class := { plain "[Z" (some 0) with kind := .array 5 .boolean, interfaces := #[3, 4], accessFlags := 1041 }

/-- the primitive byte -/
def k7 : Class := { plain "byte" none with kind := .primitive 'B', accessFlags := 0x411 }
/-- [B -/
def k8 : Class := { plain "[B" (some 0) with kind := .array 7 .byte, interfaces := #[3, 4], accessFlags := 1041 }

/-- the primitive int -/
def k9 : Class := { plain "int" none with kind := .primitive 'I', accessFlags := 0x411 }
/-- [I -/
def k10 : Class := { plain "[I" (some 0) with kind := .array 9 .int, interfaces := #[3, 4], accessFlags := 1041 }

def heap : Heap := #[]
def classes : Array Class := #[k0, k1, k2, k3, k4, k5, k6, k7, k8, k9, k10]
def interned : List (Array UInt16 × Addr) := []
def slotsUsed : Nat := 0
def theMethod : MethodId := ⟨1, 1⟩
def args0 : Array Value := #[.int 5, .int 5, .int 5, .int 5, .int 5]
def aboutOver (below : List Frame) : State where
  vm := { classes := classes, interned := interned.toArray }
  heap := heap
  slotsUsed := slotsUsed
  threads := #[{ frames := .invoking theMethod args0 :: below }]
def below0 : List Frame := [.native { method := ⟨0, 0⟩, args := #[] }]
def about1 : State := aboutOver below0
def p0 : Program := .bare "" "" ""
def e0 : Env := launch0.env 0 0 0
theorem w_frames : about1.frames = Frame.invoking theMethod args0 :: below0 := rfl
set_option maxRecDepth 65536 in
theorem w_args : argsFit about1.vm theMethod args0 = true := by decide +kernel
set_option maxRecDepth 65536 in
theorem w_heap : heapFits about1 = true := by decide +kernel
set_option maxRecDepth 65536 in
theorem w_runnable : about1.curStatus? = some .runnable := by decide +kernel
set_option maxRecDepth 65536 in
theorem w_alone : about1.alone = true := by decide +kernel
set_option maxRecDepth 65536 in
theorem w_named : about1.methodNamed? x = some theMethod := by decide +kernel
set_option maxRecDepth 65536 in
theorem w_hears : about1.hears theMethod below0 = true := by decide +kernel
set_option maxRecDepth 65536 in
theorem w_ripe : about1.ripe theMethod args0 below0 = true := by decide +kernel
theorem w_running : about1.status = .running := rfl
set_option maxRecDepth 65536 in
theorem w_room : about1.hasRoom e0.platform room_1 = true :=
  launch0.hasRoom_least _ room_1 (by decide +kernel) (by decide +kernel) (by decide +kernel) (by decide +kernel) (by decide +kernel) (by decide +kernel)
theorem allAtoms_all (ts : List Jvm.Cond) (a : Array Jvm.Value) (st : Jvm.State) : (allAtoms ts).before a st = ts.all (fun c => c.before a st) := by
  induction ts with
  | nil => rfl
  | cons c t ih =>
    show (Jvm.Cond.and c (allAtoms t)).before a st = _
    rw [Jvm.Cond.before_and, ih, List.all_cons]
def words1 : List Jvm.Cond := Jvm.Cond.code x code maxLocals ret :: tables_1
/-- a 'code' word, met by the world's own term for the bytes: nothing is compared byte by byte -/
theorem code_word {y : MethodName} {bytes : ByteArray} {mx : Nat} {rt : Option FieldType} {a : Array Value} {s : State} {m : MethodId} {meth : Method} {c : Code} (h1 : s.methodNamed? y = some m) (h2 : s.vm.method? m = some meth) (h3 : meth.code = some c) (h4 : c.code = bytes)
    (h5 : (c.maxLocals == mx && c.exceptionTable.isEmpty && decide (c.maxStack ≤ mostOperands) && decide (meth.sig.returnType = rt) && !meth.locks && decide (parseMethodDescriptor y.desc = some meth.sig)) = true) : (Jvm.Cond.code y bytes mx rt).before a s = true := by
  simp only [Bool.and_eq_true, beq_iff_eq, Bool.not_eq_true', decide_eq_true_eq] at h5
  obtain ⟨⟨⟨⟨⟨g1, g2⟩, g3⟩, g4⟩, g5⟩, g6⟩ := h5
  simp [Cond.before, Cond.holds, Cond.value, h1, h2, h3, h4, g1, g2, g3, g4, g5, g6]
def isCode : Jvm.Cond → Bool
  | .code _ _ _ _ => true
  | _ => false
theorem all_split {L : List Jvm.Cond} {P : Jvm.Cond → Bool} (h1 : L.all (fun c => isCode c || P c) = true) (h2 : ∀ c ∈ L.filter isCode, P c = true) : L.all P = true := by
  refine List.all_eq_true.mpr fun c hc => ?_
  have h := List.all_eq_true.mp h1 c hc
  rcases Bool.eq_false_or_eq_true (isCode c) with hi | hi
  · exact h2 c (List.mem_filter.mpr ⟨hc, hi⟩)
  · simpa [hi] using h
set_option maxRecDepth 65536 in
theorem w_c0 : (Jvm.Cond.code x code maxLocals ret).before args0 about1 = true := code_word (m := ⟨1, 1⟩) (meth := k1m1) (c := k1c1) (by decide +kernel) rfl rfl rfl (by decide +kernel)
set_option maxRecDepth 65536 in
theorem w_c1 : (Jvm.Cond.code ({ cls := "PivotSheet", name := "<init>", desc := "(II)V" } : Jvm.MethodName) prog_1_method_1_code (5 : Nat) (Option.none : Option Jvm.ClassFile.FieldType)).before args0 about1 = true := code_word (m := ⟨2, 0⟩) (meth := k2m0) (c := k2c0) (by decide +kernel) rfl rfl rfl (by decide +kernel)
set_option maxRecDepth 65536 in
theorem w_c2 : (Jvm.Cond.code ({ cls := "java/lang/Object", name := "<init>", desc := "()V" } : Jvm.MethodName) object_method_1_code (1 : Nat) (Option.none : Option Jvm.ClassFile.FieldType)).before args0 about1 = true := code_word (m := ⟨0, 0⟩) (meth := k0m0) (c := k0c0) (by decide +kernel) rfl rfl rfl (by decide +kernel)
set_option maxRecDepth 65536 in
theorem w_c3 : (Jvm.Cond.code ({ cls := "PivotSheet", name := "setCell", desc := "(III)Z" } : Jvm.MethodName) prog_1_method_2_code (4 : Nat) (Option.some Jvm.ClassFile.FieldType.boolean)).before args0 about1 = true := code_word (m := ⟨2, 1⟩) (meth := k2m1) (c := k2c1) (by decide +kernel) rfl rfl rfl (by decide +kernel)
set_option maxRecDepth 65536 in
theorem w_c4 : (Jvm.Cond.code ({ cls := "PivotSheet", name := "validRow", desc := "(I)Z" } : Jvm.MethodName) prog_1_method_17_code (2 : Nat) (Option.some Jvm.ClassFile.FieldType.boolean)).before args0 about1 = true := code_word (m := ⟨2, 10⟩) (meth := k2m10) (c := k2c10) (by decide +kernel) rfl rfl rfl (by decide +kernel)
set_option maxRecDepth 65536 in
theorem w_c5 : (Jvm.Cond.code ({ cls := "PivotSheet", name := "snapshot", desc := "()V" } : Jvm.MethodName) prog_1_method_26_code (2 : Nat) (Option.none : Option Jvm.ClassFile.FieldType)).before args0 about1 = true := code_word (m := ⟨2, 18⟩) (meth := k2m18) (c := k2c18) (by decide +kernel) rfl rfl rfl (by decide +kernel)
set_option maxRecDepth 65536 in
theorem w_c6 : (Jvm.Cond.code ({ cls := "PivotSheet", name := "evalFormula", desc := "(I)V" } : Jvm.MethodName) prog_1_method_25_code (5 : Nat) (Option.none : Option Jvm.ClassFile.FieldType)).before args0 about1 = true := code_word (m := ⟨2, 17⟩) (meth := k2m17) (c := k2c17) (by decide +kernel) rfl rfl rfl (by decide +kernel)
set_option maxRecDepth 65536 in
theorem w_c7 : (Jvm.Cond.code ({ cls := "PivotSheet", name := "countChanged", desc := "()I" } : Jvm.MethodName) prog_1_method_27_code (4 : Nat) (Option.some Jvm.ClassFile.FieldType.int)).before args0 about1 = true := code_word (m := ⟨2, 19⟩) (meth := k2m19) (c := k2c19) (by decide +kernel) rfl rfl rfl (by decide +kernel)
set_option maxRecDepth 65536 in
theorem w_c8 : (Jvm.Cond.code ({ cls := "PivotSheet", name := "rowKeyCount", desc := "()I" } : Jvm.MethodName) prog_1_method_7_code (1 : Nat) (Option.some Jvm.ClassFile.FieldType.int)).before args0 about1 = true := code_word (m := ⟨2, 2⟩) (meth := k2m2) (c := k2c2) (by decide +kernel) rfl rfl rfl (by decide +kernel)
set_option maxRecDepth 65536 in
theorem w_c9 : (Jvm.Cond.code ({ cls := "PivotSheet", name := "buildKeys", desc := "(II)I" } : Jvm.MethodName) prog_1_method_20_code (5 : Nat) (Option.some Jvm.ClassFile.FieldType.int)).before args0 about1 = true := code_word (m := ⟨2, 12⟩) (meth := k2m12) (c := k2c12) (by decide +kernel) rfl rfl rfl (by decide +kernel)
set_option maxRecDepth 65536 in
theorem w_c10 : (Jvm.Cond.code ({ cls := "PivotSheet", name := "insertKey", desc := "(III)I" } : Jvm.MethodName) prog_1_method_21_code (6 : Nat) (Option.some Jvm.ClassFile.FieldType.int)).before args0 about1 = true := code_word (m := ⟨2, 13⟩) (meth := k2m13) (c := k2c13) (by decide +kernel) rfl rfl rfl (by decide +kernel)
set_option maxRecDepth 65536 in
theorem w_c11 : (Jvm.Cond.code ({ cls := "PivotSheet", name := "colKeyCount", desc := "()I" } : Jvm.MethodName) prog_1_method_8_code (1 : Nat) (Option.some Jvm.ClassFile.FieldType.int)).before args0 about1 = true := code_word (m := ⟨2, 3⟩) (meth := k2m3) (c := k2c3) (by decide +kernel) rfl rfl rfl (by decide +kernel)
set_option maxRecDepth 65536 in
theorem w_c12 : (Jvm.Cond.code ({ cls := "PivotSheet", name := "rowKey", desc := "(I)I" } : Jvm.MethodName) prog_1_method_9_code (3 : Nat) (Option.some Jvm.ClassFile.FieldType.int)).before args0 about1 = true := code_word (m := ⟨2, 4⟩) (meth := k2m4) (c := k2c4) (by decide +kernel) rfl rfl rfl (by decide +kernel)
set_option maxRecDepth 65536 in
theorem w_c13 : (Jvm.Cond.code ({ cls := "PivotSheet", name := "value", desc := "(II)I" } : Jvm.MethodName) prog_1_method_11_code (3 : Nat) (Option.some Jvm.ClassFile.FieldType.int)).before args0 about1 = true := code_word (m := ⟨2, 5⟩) (meth := k2m5) (c := k2c5) (by decide +kernel) rfl rfl rfl (by decide +kernel)
set_option maxRecDepth 65536 in
theorem w_c14 : (Jvm.Cond.code ({ cls := "PivotSheet", name := "resolve", desc := "(II)Z" } : Jvm.MethodName) prog_1_method_22_code (5 : Nat) (Option.some Jvm.ClassFile.FieldType.boolean)).before args0 about1 = true := code_word (m := ⟨2, 14⟩) (meth := k2m14) (c := k2c14) (by decide +kernel) rfl rfl rfl (by decide +kernel)
set_option maxRecDepth 65536 in
theorem w_c15 : (Jvm.Cond.code ({ cls := "PivotSheet", name := "evalGroup", desc := "(ZIZI)V" } : Jvm.MethodName) prog_1_method_23_code (12 : Nat) (Option.none : Option Jvm.ClassFile.FieldType)).before args0 about1 = true := code_word (m := ⟨2, 15⟩) (meth := k2m15) (c := k2c15) (by decide +kernel) rfl rfl rfl (by decide +kernel)
set_option maxRecDepth 65536 in
theorem w_c16 : (Jvm.Cond.code ({ cls := "PivotSheet", name := "pickAgg", desc := "(IIII)I" } : Jvm.MethodName) prog_1_method_24_code (5 : Nat) (Option.some Jvm.ClassFile.FieldType.int)).before args0 about1 = true := code_word (m := ⟨2, 16⟩) (meth := k2m16) (c := k2c16) (by decide +kernel) rfl rfl rfl (by decide +kernel)
set_option maxRecDepth 65536 in
theorem w_c17 : (Jvm.Cond.code ({ cls := "PivotSheet", name := "groupCount", desc := "(II)I" } : Jvm.MethodName) prog_1_method_12_code (3 : Nat) (Option.some Jvm.ClassFile.FieldType.int)).before args0 about1 = true := code_word (m := ⟨2, 6⟩) (meth := k2m6) (c := k2c6) (by decide +kernel) rfl rfl rfl (by decide +kernel)
set_option maxRecDepth 65536 in
theorem w_c18 : (Jvm.Cond.code ({ cls := "PivotSheet", name := "setFormula", desc := "(IIII)Z" } : Jvm.MethodName) prog_1_method_13_code (5 : Nat) (Option.some Jvm.ClassFile.FieldType.boolean)).before args0 about1 = true := code_word (m := ⟨2, 7⟩) (meth := k2m7) (c := k2c7) (by decide +kernel) rfl rfl rfl (by decide +kernel)
set_option maxRecDepth 65536 in
theorem w_c19 : (Jvm.Cond.code ({ cls := "PivotSheet", name := "validSlot", desc := "(I)Z" } : Jvm.MethodName) prog_1_method_19_code (2 : Nat) (Option.some Jvm.ClassFile.FieldType.boolean)).before args0 about1 = true := code_word (m := ⟨2, 11⟩) (meth := k2m11) (c := k2c11) (by decide +kernel) rfl rfl rfl (by decide +kernel)
set_option maxRecDepth 65536 in
theorem w_c20 : (Jvm.Cond.code ({ cls := "PivotSheet", name := "formulaValue", desc := "(I)I" } : Jvm.MethodName) prog_1_method_14_code (2 : Nat) (Option.some Jvm.ClassFile.FieldType.int)).before args0 about1 = true := code_word (m := ⟨2, 8⟩) (meth := k2m8) (c := k2c8) (by decide +kernel) rfl rfl rfl (by decide +kernel)
set_option maxRecDepth 65536 in
theorem w_c21 : (Jvm.Cond.code ({ cls := "PivotSheet", name := "formulaFound", desc := "(I)Z" } : Jvm.MethodName) prog_1_method_15_code (2 : Nat) (Option.some Jvm.ClassFile.FieldType.boolean)).before args0 about1 = true := code_word (m := ⟨2, 9⟩) (meth := k2m9) (c := k2c9) (by decide +kernel) rfl rfl rfl (by decide +kernel)
def codes1 : List Jvm.Cond := [Jvm.Cond.code x code maxLocals ret, Jvm.Cond.code ({ cls := "PivotSheet", name := "<init>", desc := "(II)V" } : Jvm.MethodName) prog_1_method_1_code (5 : Nat) (Option.none : Option Jvm.ClassFile.FieldType), Jvm.Cond.code ({ cls := "java/lang/Object", name := "<init>", desc := "()V" } : Jvm.MethodName) object_method_1_code (1 : Nat) (Option.none : Option Jvm.ClassFile.FieldType), Jvm.Cond.code ({ cls := "PivotSheet", name := "setCell", desc := "(III)Z" } : Jvm.MethodName) prog_1_method_2_code (4 : Nat) (Option.some Jvm.ClassFile.FieldType.boolean), Jvm.Cond.code ({ cls := "PivotSheet", name := "validRow", desc := "(I)Z" } : Jvm.MethodName) prog_1_method_17_code (2 : Nat) (Option.some Jvm.ClassFile.FieldType.boolean), Jvm.Cond.code ({ cls := "PivotSheet", name := "snapshot", desc := "()V" } : Jvm.MethodName) prog_1_method_26_code (2 : Nat) (Option.none : Option Jvm.ClassFile.FieldType), Jvm.Cond.code ({ cls := "PivotSheet", name := "evalFormula", desc := "(I)V" } : Jvm.MethodName) prog_1_method_25_code (5 : Nat) (Option.none : Option Jvm.ClassFile.FieldType), Jvm.Cond.code ({ cls := "PivotSheet", name := "countChanged", desc := "()I" } : Jvm.MethodName) prog_1_method_27_code (4 : Nat) (Option.some Jvm.ClassFile.FieldType.int), Jvm.Cond.code ({ cls := "PivotSheet", name := "rowKeyCount", desc := "()I" } : Jvm.MethodName) prog_1_method_7_code (1 : Nat) (Option.some Jvm.ClassFile.FieldType.int), Jvm.Cond.code ({ cls := "PivotSheet", name := "buildKeys", desc := "(II)I" } : Jvm.MethodName) prog_1_method_20_code (5 : Nat) (Option.some Jvm.ClassFile.FieldType.int), Jvm.Cond.code ({ cls := "PivotSheet", name := "insertKey", desc := "(III)I" } : Jvm.MethodName) prog_1_method_21_code (6 : Nat) (Option.some Jvm.ClassFile.FieldType.int), Jvm.Cond.code ({ cls := "PivotSheet", name := "colKeyCount", desc := "()I" } : Jvm.MethodName) prog_1_method_8_code (1 : Nat) (Option.some Jvm.ClassFile.FieldType.int), Jvm.Cond.code ({ cls := "PivotSheet", name := "rowKey", desc := "(I)I" } : Jvm.MethodName) prog_1_method_9_code (3 : Nat) (Option.some Jvm.ClassFile.FieldType.int), Jvm.Cond.code ({ cls := "PivotSheet", name := "value", desc := "(II)I" } : Jvm.MethodName) prog_1_method_11_code (3 : Nat) (Option.some Jvm.ClassFile.FieldType.int), Jvm.Cond.code ({ cls := "PivotSheet", name := "resolve", desc := "(II)Z" } : Jvm.MethodName) prog_1_method_22_code (5 : Nat) (Option.some Jvm.ClassFile.FieldType.boolean), Jvm.Cond.code ({ cls := "PivotSheet", name := "evalGroup", desc := "(ZIZI)V" } : Jvm.MethodName) prog_1_method_23_code (12 : Nat) (Option.none : Option Jvm.ClassFile.FieldType), Jvm.Cond.code ({ cls := "PivotSheet", name := "pickAgg", desc := "(IIII)I" } : Jvm.MethodName) prog_1_method_24_code (5 : Nat) (Option.some Jvm.ClassFile.FieldType.int), Jvm.Cond.code ({ cls := "PivotSheet", name := "groupCount", desc := "(II)I" } : Jvm.MethodName) prog_1_method_12_code (3 : Nat) (Option.some Jvm.ClassFile.FieldType.int), Jvm.Cond.code ({ cls := "PivotSheet", name := "setFormula", desc := "(IIII)Z" } : Jvm.MethodName) prog_1_method_13_code (5 : Nat) (Option.some Jvm.ClassFile.FieldType.boolean), Jvm.Cond.code ({ cls := "PivotSheet", name := "validSlot", desc := "(I)Z" } : Jvm.MethodName) prog_1_method_19_code (2 : Nat) (Option.some Jvm.ClassFile.FieldType.boolean), Jvm.Cond.code ({ cls := "PivotSheet", name := "formulaValue", desc := "(I)I" } : Jvm.MethodName) prog_1_method_14_code (2 : Nat) (Option.some Jvm.ClassFile.FieldType.int), Jvm.Cond.code ({ cls := "PivotSheet", name := "formulaFound", desc := "(I)Z" } : Jvm.MethodName) prog_1_method_15_code (2 : Nat) (Option.some Jvm.ClassFile.FieldType.boolean)]
set_option maxRecDepth 65536 in
theorem codes_eq : words1.filter isCode = codes1 := rfl
theorem w_codes : ∀ c ∈ words1.filter isCode, c.before args0 about1 = true := by
  rw [codes_eq]
  intro c hc
  simp only [codes1, List.mem_cons, List.not_mem_nil, or_false] at hc
  rcases hc with rfl | rfl | rfl | rfl | rfl | rfl | rfl | rfl | rfl | rfl | rfl | rfl | rfl | rfl | rfl | rfl | rfl | rfl | rfl | rfl | rfl | rfl
  · exact w_c0
  · exact w_c1
  · exact w_c2
  · exact w_c3
  · exact w_c4
  · exact w_c5
  · exact w_c6
  · exact w_c7
  · exact w_c8
  · exact w_c9
  · exact w_c10
  · exact w_c11
  · exact w_c12
  · exact w_c13
  · exact w_c14
  · exact w_c15
  · exact w_c16
  · exact w_c17
  · exact w_c18
  · exact w_c19
  · exact w_c20
  · exact w_c21
set_option maxRecDepth 65536 in
theorem w_t1 : (words1.take 24).all (fun c => isCode c || c.before args0 about1) = true := by decide +kernel
set_option maxRecDepth 65536 in
theorem w_t2 : ((words1.drop 24).take 24).all (fun c => isCode c || c.before args0 about1) = true := by decide +kernel
set_option maxRecDepth 65536 in
theorem w_t3 : (((words1.drop 24).drop 24).take 24).all (fun c => isCode c || c.before args0 about1) = true := by decide +kernel
set_option maxRecDepth 65536 in
theorem w_t4 : ((((words1.drop 24).drop 24).drop 24).take 24).all (fun c => isCode c || c.before args0 about1) = true := by decide +kernel
set_option maxRecDepth 65536 in
theorem w_t5 : (((((words1.drop 24).drop 24).drop 24).drop 24).take 24).all (fun c => isCode c || c.before args0 about1) = true := by decide +kernel
set_option maxRecDepth 65536 in
theorem w_t6 : (((((words1.drop 24).drop 24).drop 24).drop 24).drop 24).all (fun c => isCode c || c.before args0 about1) = true := by decide +kernel
theorem w_tables : (allAtoms (Jvm.Cond.code x code maxLocals ret :: tables_1)).before args0 about1 = true := by
  rw [allAtoms_all]
  show words1.all (fun c => c.before args0 about1) = true
  refine all_split ?_ w_codes
  rw [← List.take_append_drop 24 words1, List.all_append, w_t1, ← List.take_append_drop 24 (words1.drop 24), List.all_append, w_t2, ← List.take_append_drop 24 ((words1.drop 24).drop 24), List.all_append, w_t3, ← List.take_append_drop 24 (((words1.drop 24).drop 24).drop 24), List.all_append, w_t4, ← List.take_append_drop 24 ((((words1.drop 24).drop 24).drop 24).drop 24), List.all_append, w_t5, w_t6]
  rfl
set_option maxRecDepth 65536 in
theorem w_case : (Jvm.Cond.and given_1 narrow_1).before args0 about1 = true := by decide +kernel
theorem w_applies : (headSpec (Jvm.Cond.code x code maxLocals ret :: tables_1) room_1).applies x e0.platform about1 = true :=
  (Spec.applies_iff w_frames).mpr ⟨w_running, w_runnable, w_alone, w_named, w_hears, w_ripe, w_room, w_tables⟩
theorem atStart : AtStart classFile x code maxLocals ret World_1 tables_1 room_1 Calls_1 rest_1 Pre_1 launch0 p0 e0 about1 theMethod args0 below0 :=
  ⟨lists_1, trivial, launch0.admits_env _ _ _, launch0.least_env, fairChoices_fair.cas, fairChoices_fair.clock, w_frames, w_args, w_heap, w_applies, trivial, trivial, w_case⟩
end start1
theorem witness_1 : WitnessClaimed_1 := ⟨start1.p0, start1.e0, start1.about1, start1.theMethod, start1.args0, start1.below0, start1.atStart⟩
end Jvm.Pilot.@@N@@
