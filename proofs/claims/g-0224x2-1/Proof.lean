import JvmDerived
import JvmDerived.Pilot.@@N@@Statement
import JvmDerived.Pilot.@@N@@Code
set_option linter.unusedVariables false
set_option linter.unusedSimpArgs false
namespace Jvm.RoadKit
open Sem ClassFile Op Lib Jvm.Stand Jvm.Free Jvm.LawKit
section New
variable {p : Program} {l : Launch} {e : Env} {R : Room} {s : State} {m : MethodId} {args : Array Value} {below : List Frame} {meth : Method} {c : Code} {T : State} {locs : List Loc} {cells slots : Nat}
theorem retI (X : Stand p l e R s m args below meth c T locs cells slots) (hx : p.tables.exec = Jvm.exec) {pc : Nat} {Ls : Array Slot} {z : Int32} {rest : List Value} (hret : meth.sig.returnType = some .int) (hd : decode c.code pc = .ok (.ireturn, 1)) {fs : List Frame}
    (hl : ∀ (f : JFrame) (acts : List Action), f.method = m → f.locked = none → f.entered = [] → (doReturn e (T.setTop f) acts (some (.int z))).1 = T.setFrames fs) : Steps p.tables e below (T.setTop (mkF m pc Ls (.int z :: rest))) (T.setFrames fs) := by
  have hm' : T.vm.method? m = some meth := X.method'
  have hn : narrow .int (.int z) = .int z := rfl
  show Steps p.tables e below (T.setTop { method := m, pc := pc, locals := Ls, stack := _ :: rest, locked := none }) _
  jvm_step X.here [X.here.top, hx, hd, hm', hret, hn]
  first | (intro acts; rw [hl _ acts rfl rfl rfl]) | rw [hl _ _ rfl rfl rfl]
  exact Steps.refl _
end New
end Jvm.RoadKit
namespace Jvm.Pilot.@@N@@
open Jvm Jvm.ClassFile Sem Op Lib Jvm.Free Jvm.Stand Jvm.LawKit Jvm.RoadKit Bundle Jvm.Pilot.@@N@@.Jvm.D
/-! TABLES of this claim: printed by claim.py -/
def k0 : Nat := 1
def cName : String := "OccValidator"
def cN : Nat := 13
def nF : Nat := 13
def kName (k : Nat) : String := bif Nat.beq k 0 then "OccValidatorOwnLaw" else "OccValidator"
def fNm (k : Nat) : String := (bif Nat.ble 6 k then (bif Nat.ble 9 k then (bif Nat.ble 11 k then (bif Nat.ble 12 k then "lastConflict" else "abortCount") else (bif Nat.ble 10 k then "commitCount" else "window")) else (bif Nat.ble 7 k then (bif Nat.ble 8 k then "slotCount" else "keyCount") else "buffered")) else (bif Nat.ble 3 k then (bif Nat.ble 4 k then (bif Nat.ble 5 k then "writeSet" else "readSet") else "start") else (bif Nat.ble 1 k then (bif Nat.ble 2 k then "active" else "version") else "value")))
def fDs (k : Nat) : String := (bif Nat.ble 6 k then (bif Nat.ble 9 k then (bif Nat.ble 11 k then (bif Nat.ble 12 k then "I" else "I") else (bif Nat.ble 10 k then "I" else "I")) else (bif Nat.ble 7 k then (bif Nat.ble 8 k then "I" else "I") else "[I")) else (bif Nat.ble 3 k then (bif Nat.ble 4 k then (bif Nat.ble 5 k then "[I" else "[I") else "[I") else (bif Nat.ble 1 k then (bif Nat.ble 2 k then "[Z" else "[I") else "[I")))
def fTy (k : Nat) : FieldType := (bif Nat.ble 6 k then (bif Nat.ble 9 k then (bif Nat.ble 11 k then (bif Nat.ble 12 k then .int else .int) else (bif Nat.ble 10 k then .int else .int)) else (bif Nat.ble 7 k then (bif Nat.ble 8 k then .int else .int) else (.array .int))) else (bif Nat.ble 3 k then (bif Nat.ble 4 k then (bif Nat.ble 5 k then (.array .int) else (.array .int)) else (.array .int)) else (bif Nat.ble 1 k then (bif Nat.ble 2 k then (.array .boolean) else (.array .int)) else (.array .int))))
def fFin (k : Nat) : Bool := (bif Nat.ble 6 k then (bif Nat.ble 9 k then (bif Nat.ble 11 k then (bif Nat.ble 12 k then false else false) else (bif Nat.ble 10 k then false else false)) else (bif Nat.ble 7 k then (bif Nat.ble 8 k then false else false) else false)) else (bif Nat.ble 3 k then (bif Nat.ble 4 k then (bif Nat.ble 5 k then false else false) else false) else (bif Nat.ble 1 k then (bif Nat.ble 2 k then false else false) else false)))
def cDef : List Value := [.null, .null, .null, .null, .null, .null, .null, .int 0, .int 0, .int 0, .int 0, .int 0, .int 0]
def cK : List Value := [.long (15), .long (255), .long (-1)]
def pN : Nat := 28
def pTop (m : Nat) : Nat := (bif Nat.ble 14 m then (bif Nat.ble 21 m then (bif Nat.ble 24 m then (bif Nat.ble 26 m then (bif Nat.ble 27 m then 22 else 27) else (bif Nat.ble 25 m then 97 else 66)) else (bif Nat.ble 22 m then (bif Nat.ble 23 m then 24 else 52) else 6)) else (bif Nat.ble 17 m then (bif Nat.ble 19 m then (bif Nat.ble 20 m then 27 else 70) else (bif Nat.ble 18 m then 24 else 7)) else (bif Nat.ble 15 m then (bif Nat.ble 16 m then 4 else 53) else 57))) else (bif Nat.ble 7 m then (bif Nat.ble 10 m then (bif Nat.ble 12 m then (bif Nat.ble 13 m then 23 else 35) else (bif Nat.ble 11 m then 19 else 12)) else (bif Nat.ble 8 m then (bif Nat.ble 9 m then 17 else 11) else 24)) else (bif Nat.ble 3 m then (bif Nat.ble 5 m then (bif Nat.ble 6 m then 17 else 27) else (bif Nat.ble 4 m then 6 else 14)) else (bif Nat.ble 1 m then (bif Nat.ble 2 m then 16 else 114) else 684))))
def pK (m : Nat) : Nat := (bif Nat.ble 14 m then (bif Nat.ble 21 m then (bif Nat.ble 24 m then (bif Nat.ble 26 m then (bif Nat.ble 27 m then 1 else 0) else (bif Nat.ble 25 m then 1 else 1)) else (bif Nat.ble 22 m then (bif Nat.ble 23 m then 1 else 1) else 1)) else (bif Nat.ble 17 m then (bif Nat.ble 19 m then (bif Nat.ble 20 m then 1 else 1) else (bif Nat.ble 18 m then 0 else 1)) else (bif Nat.ble 15 m then (bif Nat.ble 16 m then 1 else 1) else 1))) else (bif Nat.ble 7 m then (bif Nat.ble 10 m then (bif Nat.ble 12 m then (bif Nat.ble 13 m then 1 else 1) else (bif Nat.ble 11 m then 1 else 0)) else (bif Nat.ble 8 m then (bif Nat.ble 9 m then 1 else 0) else 1)) else (bif Nat.ble 3 m then (bif Nat.ble 5 m then (bif Nat.ble 6 m then 1 else 1) else (bif Nat.ble 4 m then 1 else 0)) else (bif Nat.ble 1 m then (bif Nat.ble 2 m then 1 else 1) else 0))))
def pNm (m : Nat) : String := (bif Nat.ble 14 m then (bif Nat.ble 21 m then (bif Nat.ble 24 m then (bif Nat.ble 26 m then (bif Nat.ble 27 m then "failCommit" else "setByt") else (bif Nat.ble 25 m then "install" else "leastConflict")) else (bif Nat.ble 22 m then (bif Nat.ble 23 m then "isStale" else "commit") else "endTx")) else (bif Nat.ble 17 m then (bif Nat.ble 19 m then (bif Nat.ble 20 m then "abort" else "read") else (bif Nat.ble 18 m then "setNib" else "bufIndex")) else (bif Nat.ble 15 m then (bif Nat.ble 16 m then "bit" else "write") else "clearSlot"))) else (bif Nat.ble 7 m then (bif Nat.ble 10 m then (bif Nat.ble 12 m then (bif Nat.ble 13 m then "openSlot" else "findFreeSlot") else (bif Nat.ble 11 m then "begin" else "byt")) else (bif Nat.ble 8 m then (bif Nat.ble 9 m then "getVersion" else "nib") else "isValidKey")) else (bif Nat.ble 3 m then (bif Nat.ble 5 m then (bif Nat.ble 6 m then "getValue" else "isValidTx") else (bif Nat.ble 4 m then "isActive" else "cell")) else (bif Nat.ble 1 m then (bif Nat.ble 2 m then "clamp" else "<init>") else "law"))))
def pDs (m : Nat) : String := (bif Nat.ble 14 m then (bif Nat.ble 21 m then (bif Nat.ble 24 m then (bif Nat.ble 26 m then (bif Nat.ble 27 m then "(III)I" else "(JII)J") else (bif Nat.ble 25 m then "(I)I" else "(I)I")) else (bif Nat.ble 22 m then (bif Nat.ble 23 m then "(I)Z" else "(I)I") else "(I)V")) else (bif Nat.ble 17 m then (bif Nat.ble 19 m then (bif Nat.ble 20 m then "(I)I" else "(II)I") else (bif Nat.ble 18 m then "(JII)J" else "(II)I")) else (bif Nat.ble 15 m then (bif Nat.ble 16 m then "(I)I" else "(III)I") else "(I)V"))) else (bif Nat.ble 7 m then (bif Nat.ble 10 m then (bif Nat.ble 12 m then (bif Nat.ble 13 m then "(I)V" else "()I") else (bif Nat.ble 11 m then "()I" else "(JI)I")) else (bif Nat.ble 8 m then (bif Nat.ble 9 m then "(I)I" else "(JI)I") else "(I)Z")) else (bif Nat.ble 3 m then (bif Nat.ble 5 m then (bif Nat.ble 6 m then "(I)I" else "(I)Z") else (bif Nat.ble 4 m then "(I)Z" else "([II)I")) else (bif Nat.ble 1 m then (bif Nat.ble 2 m then "(III)I" else "(III)V") else "([I)Z"))))
def pName (m : Nat) : MethodName := ⟨kName (pK m), pNm m, pDs m⟩
def pBytes (m : Nat) : ByteArray := (bif Nat.ble 14 m then (bif Nat.ble 21 m then (bif Nat.ble 24 m then (bif Nat.ble 26 m then (bif Nat.ble 27 m then prog_1_method_28_code else method_6_code) else (bif Nat.ble 25 m then prog_1_method_29_code else prog_1_method_27_code)) else (bif Nat.ble 22 m then (bif Nat.ble 23 m then prog_1_method_26_code else prog_1_method_5_code) else prog_1_method_25_code)) else (bif Nat.ble 17 m then (bif Nat.ble 19 m then (bif Nat.ble 20 m then prog_1_method_6_code else prog_1_method_3_code) else (bif Nat.ble 18 m then method_4_code else prog_1_method_21_code)) else (bif Nat.ble 15 m then (bif Nat.ble 16 m then prog_1_method_20_code else prog_1_method_4_code) else prog_1_method_24_code))) else (bif Nat.ble 7 m then (bif Nat.ble 10 m then (bif Nat.ble 12 m then (bif Nat.ble 13 m then prog_1_method_23_code else prog_1_method_22_code) else (bif Nat.ble 11 m then prog_1_method_2_code else method_5_code)) else (bif Nat.ble 8 m then (bif Nat.ble 9 m then prog_1_method_8_code else method_3_code) else prog_1_method_19_code)) else (bif Nat.ble 3 m then (bif Nat.ble 5 m then (bif Nat.ble 6 m then prog_1_method_7_code else prog_1_method_18_code) else (bif Nat.ble 4 m then prog_1_method_12_code else method_2_code)) else (bif Nat.ble 1 m then (bif Nat.ble 2 m then prog_1_method_17_code else prog_1_method_1_code) else code))))
def pMaxL (m : Nat) : Nat := (bif Nat.ble 14 m then (bif Nat.ble 21 m then (bif Nat.ble 24 m then (bif Nat.ble 26 m then (bif Nat.ble 27 m then 4 else 4) else (bif Nat.ble 25 m then 5 else 5)) else (bif Nat.ble 22 m then (bif Nat.ble 23 m then 2 else 3) else 2)) else (bif Nat.ble 17 m then (bif Nat.ble 19 m then (bif Nat.ble 20 m then 2 else 4) else (bif Nat.ble 18 m then 4 else 3)) else (bif Nat.ble 15 m then (bif Nat.ble 16 m then 2 else 4) else 4))) else (bif Nat.ble 7 m then (bif Nat.ble 10 m then (bif Nat.ble 12 m then (bif Nat.ble 13 m then 2 else 2) else (bif Nat.ble 11 m then 2 else 3)) else (bif Nat.ble 8 m then (bif Nat.ble 9 m then 2 else 3) else 2)) else (bif Nat.ble 3 m then (bif Nat.ble 5 m then (bif Nat.ble 6 m then 2 else 2) else (bif Nat.ble 4 m then 2 else 2)) else (bif Nat.ble 1 m then (bif Nat.ble 2 m then 4 else 4) else 37))))
def pRet (m : Nat) : Option FieldType := (bif Nat.ble 14 m then (bif Nat.ble 21 m then (bif Nat.ble 24 m then (bif Nat.ble 26 m then (bif Nat.ble 27 m then (some .int) else (some .long)) else (bif Nat.ble 25 m then (some .int) else (some .int))) else (bif Nat.ble 22 m then (bif Nat.ble 23 m then (some .boolean) else (some .int)) else none)) else (bif Nat.ble 17 m then (bif Nat.ble 19 m then (bif Nat.ble 20 m then (some .int) else (some .int)) else (bif Nat.ble 18 m then (some .long) else (some .int))) else (bif Nat.ble 15 m then (bif Nat.ble 16 m then (some .int) else (some .int)) else none))) else (bif Nat.ble 7 m then (bif Nat.ble 10 m then (bif Nat.ble 12 m then (bif Nat.ble 13 m then none else (some .int)) else (bif Nat.ble 11 m then (some .int) else (some .int))) else (bif Nat.ble 8 m then (bif Nat.ble 9 m then (some .int) else (some .int)) else (some .boolean))) else (bif Nat.ble 3 m then (bif Nat.ble 5 m then (bif Nat.ble 6 m then (some .int) else (some .boolean)) else (bif Nat.ble 4 m then (some .boolean) else (some .int))) else (bif Nat.ble 1 m then (bif Nat.ble 2 m then (some .int) else none) else (some .boolean)))))
def pNA (m : Nat) : Nat := (bif Nat.ble 14 m then (bif Nat.ble 21 m then (bif Nat.ble 24 m then (bif Nat.ble 26 m then (bif Nat.ble 27 m then 3 else 3) else (bif Nat.ble 25 m then 1 else 1)) else (bif Nat.ble 22 m then (bif Nat.ble 23 m then 1 else 1) else 1)) else (bif Nat.ble 17 m then (bif Nat.ble 19 m then (bif Nat.ble 20 m then 1 else 2) else (bif Nat.ble 18 m then 3 else 2)) else (bif Nat.ble 15 m then (bif Nat.ble 16 m then 1 else 3) else 1))) else (bif Nat.ble 7 m then (bif Nat.ble 10 m then (bif Nat.ble 12 m then (bif Nat.ble 13 m then 1 else 0) else (bif Nat.ble 11 m then 0 else 2)) else (bif Nat.ble 8 m then (bif Nat.ble 9 m then 1 else 2) else 1)) else (bif Nat.ble 3 m then (bif Nat.ble 5 m then (bif Nat.ble 6 m then 1 else 1) else (bif Nat.ble 4 m then 1 else 2)) else (bif Nat.ble 1 m then (bif Nat.ble 2 m then 3 else 3) else 1))))
def pFr (m : Nat) : Nat := (bif Nat.ble 14 m then (bif Nat.ble 21 m then (bif Nat.ble 24 m then (bif Nat.ble 26 m then (bif Nat.ble 27 m then 2 else 0) else (bif Nat.ble 25 m then 2 else 1)) else (bif Nat.ble 22 m then (bif Nat.ble 23 m then 0 else 3) else 1)) else (bif Nat.ble 17 m then (bif Nat.ble 19 m then (bif Nat.ble 20 m then 2 else 1) else (bif Nat.ble 18 m then 0 else 0)) else (bif Nat.ble 15 m then (bif Nat.ble 16 m then 0 else 1) else 0))) else (bif Nat.ble 7 m then (bif Nat.ble 10 m then (bif Nat.ble 12 m then (bif Nat.ble 13 m then 1 else 0) else (bif Nat.ble 11 m then 2 else 0)) else (bif Nat.ble 8 m then (bif Nat.ble 9 m then 1 else 0) else 0)) else (bif Nat.ble 3 m then (bif Nat.ble 5 m then (bif Nat.ble 6 m then 1 else 0) else (bif Nat.ble 4 m then 1 else 0)) else (bif Nat.ble 1 m then (bif Nat.ble 2 m then 0 else 1) else 4))))
def pLo (m : Nat) : Nat := (bif Nat.ble 14 m then (bif Nat.ble 21 m then (bif Nat.ble 24 m then (bif Nat.ble 26 m then (bif Nat.ble 27 m then 28 else 0) else (bif Nat.ble 25 m then 28 else 14)) else (bif Nat.ble 22 m then (bif Nat.ble 23 m then 0 else 44) else 15)) else (bif Nat.ble 17 m then (bif Nat.ble 19 m then (bif Nat.ble 20 m then 28 else 15) else (bif Nat.ble 18 m then 0 else 0)) else (bif Nat.ble 15 m then (bif Nat.ble 16 m then 0 else 16) else 0))) else (bif Nat.ble 7 m then (bif Nat.ble 10 m then (bif Nat.ble 12 m then (bif Nat.ble 13 m then 15 else 0) else (bif Nat.ble 11 m then 28 else 0)) else (bif Nat.ble 8 m then (bif Nat.ble 9 m then 13 else 0) else 0)) else (bif Nat.ble 3 m then (bif Nat.ble 5 m then (bif Nat.ble 6 m then 13 else 0) else (bif Nat.ble 4 m then 13 else 0)) else (bif Nat.ble 1 m then (bif Nat.ble 2 m then 0 else 16) else 58))))
def tB (k p : Nat) (a b : Option (Instr × Nat)) : Option (Instr × Nat) := bif Nat.ble k p then a else b
def tL (k p : Nat) (i : Instr) (x : Nat) : Option (Instr × Nat) := bif Nat.beq p k then some (i, x) else none
set_option maxHeartbeats 4000000 in
def cd0 (p : Nat) : Option (Instr × Nat) := (tB 330 p (tB 504 p (tB 594 p (tB 638 p (tB 660 p (tB 670 p (tB 679 p (tB 682 p (tB 683 p (tL 683 p .ireturn 0) (tL 682 p (.iconst 1) 0)) (tL 679 p (.goto (-608)) 71)) (tB 673 p (tB 676 p (tL 676 p (.iinc 22 1) 0) (tL 673 p (.goto (-45)) 628)) (tL 670 p (.iinc 28 1) 0))) (tB 665 p (tB 668 p (tB 669 p (tL 669 p .ireturn 0) (tL 668 p (.iconst 0) 0)) (tL 665 p (.if_icmp .eq 5) 670)) (tB 662 p (tL 662 p (.invokestatic 64) 10) (tL 660 p (.iload 28) 0)))) (tB 650 p (tB 653 p (tB 655 p (tB 658 p (tL 658 p (.lload 4) 0) (tL 655 p (.invokevirtual 61) 9)) (tL 653 p (.iload 28) 0)) (tB 651 p (tB 652 p (tL 652 p (.aload_n 1) 0) (tL 651 p .ireturn 0)) (tL 650 p (.iconst 0) 0))) (tB 642 p (tB 644 p (tB 647 p (tL 647 p (.if_icmp .eq 5) 652) (tL 644 p (.invokestatic 36) 8)) (tL 642 p (.iload 28) 0)) (tB 641 p (tL 641 p (.lload_n 2) 0) (tL 638 p (.invokevirtual 58) 6))))) (tB 617 p (tB 626 p (tB 632 p (tB 635 p (tB 636 p (tL 636 p (.iload 28) 0) (tL 635 p (.aload_n 1) 0)) (tL 632 p (.if_icmp .ge 44) 676)) (tB 628 p (tB 630 p (tL 630 p (.bipush 8) 0) (tL 628 p (.iload 28) 0)) (tL 626 p (.istore 28) 0))) (tB 621 p (tB 623 p (tB 625 p (tL 625 p (.iconst 0) 0) (tL 623 p (.lstore 19) 0)) (tL 621 p (.lload 33) 0)) (tB 619 p (tL 619 p (.lstore 15) 0) (tL 617 p (.lload 31) 0)))) (tB 605 p (tB 611 p (tB 613 p (tB 615 p (tL 615 p (.istore 12) 0) (tL 613 p (.iload 30) 0)) (tL 611 p (.istore 10) 0)) (tB 607 p (tB 609 p (tL 609 p (.iload 29) 0) (tL 607 p (.istore 8) 0)) (tL 605 p (.iload 28) 0))) (tB 598 p (tB 600 p (tB 602 p (tL 602 p (.goto 23) 625) (tL 600 p (.lstore 17) 0)) (tL 598 p (.lload 33) 0)) (tB 596 p (tL 596 p (.lstore 13) 0) (tL 594 p (.lload 31) 0)))))) (tB 546 p (tB 571 p (tB 582 p (tB 588 p (tB 590 p (tB 592 p (tL 592 p (.istore 11) 0) (tL 590 p (.iload 30) 0)) (tL 588 p (.istore 9) 0)) (tB 584 p (tB 586 p (tL 586 p (.iload 29) 0) (tL 584 p (.istore 7) 0)) (tL 582 p (.iload 28) 0))) (tB 576 p (tB 577 p (tB 579 p (tL 579 p (.ifCond .ne 26) 605) (tL 577 p (.iload 25) 0)) (tL 576 p .pop 0)) (tB 573 p (tL 573 p (.invokevirtual 55) 20) (tL 571 p (.iload 25) 0)))) (tB 557 p (tB 565 p (tB 567 p (tB 570 p (tL 570 p (.aload_n 1) 0) (tL 567 p (.goto 10) 577)) (tL 565 p (.istore 6) 0)) (tB 560 p (tB 563 p (tL 563 p (.iload 35) 0) (tL 560 p (.goto (-45)) 515)) (tL 557 p (.iinc 36 1) 0))) (tB 550 p (tB 552 p (tB 555 p (tL 555 p (.lstore 4) 0) (tL 552 p (.invokestatic 52) 26)) (tL 550 p (.iload 35) 0)) (tB 548 p (tL 548 p (.iload 36) 0) (tL 546 p (.lload 4) 0))))) (tB 526 p (tB 533 p (tB 539 p (tB 542 p (tB 545 p (tL 545 p (.lstore_n 2) 0) (tL 542 p (.invokestatic 40) 18)) (tL 539 p (.invokestatic 36) 8)) (tB 535 p (tB 537 p (tL 537 p (.iload 36) 0) (tL 535 p (.lload 31) 0)) (tL 533 p (.iload 36) 0))) (tB 528 p (tB 529 p (tB 532 p (tL 532 p (.lload_n 2) 0) (tL 529 p (.ifCond .eq 28) 557)) (tL 528 p .iand 0)) (tB 527 p (tL 527 p (.iconst 1) 0) (tL 526 p .iushr 0)))) (tB 513 p (tB 519 p (tB 522 p (tB 524 p (tL 524 p (.iload 36) 0) (tL 522 p (.iload 28) 0)) (tL 519 p (.if_icmp .ge 44) 563)) (tB 515 p (tB 517 p (tL 517 p (.bipush 8) 0) (tL 515 p (.iload 36) 0)) (tL 513 p (.istore 36) 0))) (tB 506 p (tB 509 p (tB 512 p (tL 512 p (.iconst 0) 0) (tL 509 p (.goto (-38)) 471)) (tL 506 p (.iinc 36 1) 0)) (tB 505 p (tL 505 p .ireturn 0) (tL 504 p (.iconst 0) 0))))))) (tB 418 p (tB 461 p (tB 482 p (tB 490 p (tB 496 p (tB 498 p (tB 501 p (tL 501 p (.if_icmp .eq 5) 506) (tL 498 p (.invokestatic 36) 8)) (tL 496 p (.iload 36) 0)) (tB 492 p (tB 495 p (tL 495 p (.lload_n 2) 0) (tL 492 p (.invokestatic 36) 8)) (tL 490 p (.iload 36) 0))) (tB 484 p (tB 485 p (tB 488 p (tL 488 p (.lload 33) 0) (tL 485 p (.ifCond .eq 21) 506)) (tL 484 p .iand 0)) (tB 483 p (tL 483 p (.iconst 1) 0) (tL 482 p .iushr 0)))) (tB 469 p (tB 475 p (tB 478 p (tB 480 p (tL 480 p (.iload 36) 0) (tL 478 p (.iload 29) 0)) (tL 475 p (.if_icmp .ge 37) 512)) (tB 471 p (tB 473 p (tL 473 p (.bipush 8) 0) (tL 471 p (.iload 36) 0)) (tL 469 p (.istore 36) 0))) (tB 466 p (tB 467 p (tB 468 p (tL 468 p (.iconst 0) 0) (tL 467 p .ireturn 0)) (tL 466 p (.iconst 0) 0)) (tB 463 p (tL 463 p (.ifCond .eq 5) 468) (tL 461 p (.iload 30) 0))))) (tB 442 p (tB 452 p (tB 456 p (tB 459 p (tB 460 p (tL 460 p .ireturn 0) (tL 459 p (.iconst 0) 0)) (tL 456 p (.if_icmp .eq 5) 461)) (tB 454 p (tB 455 p (tL 455 p .iadd 0) (tL 454 p (.iconst 1) 0)) (tL 452 p (.iload 6) 0))) (tB 446 p (tB 447 p (tB 450 p (tL 450 p (.iload 35) 0) (tL 447 p (.if_icmp .lt 120) 567)) (tL 446 p (.iconst 1) 0)) (tB 444 p (tL 444 p (.iload 35) 0) (tL 442 p (.istore 35) 0)))) (tB 429 p (tB 436 p (tB 437 p (tB 439 p (tL 439 p (.invokevirtual 48) 22) (tL 437 p (.iload 25) 0)) (tL 436 p (.aload_n 1) 0)) (tB 431 p (tB 433 p (tL 433 p (.if_icmp .ne 137) 570) (tL 431 p (.bipush 6) 0)) (tL 429 p (.iload 24) 0))) (tB 423 p (tB 425 p (tB 426 p (tL 426 p (.if_icmp .eq 10) 436) (tL 425 p (.iconst 5) 0)) (tL 423 p (.iload 24) 0)) (tB 420 p (tL 420 p (.goto 157) 577) (tL 418 p (.lstore 31) 0)))))) (tB 374 p (tB 397 p (tB 406 p (tB 411 p (tB 413 p (tB 415 p (tL 415 p (.invokestatic 40) 18) (tL 413 p (.iload 27) 0)) (tL 411 p (.iload 26) 0)) (tB 407 p (tB 409 p (tL 409 p (.lload 31) 0) (tL 407 p (.istore 28) 0)) (tL 406 p .ior 0))) (tB 402 p (tB 403 p (tB 405 p (tL 405 p .ishl 0) (tL 403 p (.iload 26) 0)) (tL 402 p (.iconst 1) 0)) (tB 400 p (tL 400 p (.iload 28) 0) (tL 397 p (.ifCond .ne 23) 420)))) (tB 384 p (tB 390 p (tB 393 p (tB 395 p (tL 395 p (.iload 35) 0) (tL 393 p (.istore 35) 0)) (tL 390 p (.invokevirtual 44) 15)) (tB 386 p (tB 388 p (tL 388 p (.iload 27) 0) (tL 386 p (.iload 26) 0)) (tL 384 p (.iload 25) 0))) (tB 379 p (tB 380 p (tB 383 p (tL 383 p (.aload_n 1) 0) (tL 380 p (.if_icmp .ne 43) 423)) (tL 379 p (.iconst 4) 0)) (tB 377 p (tL 377 p (.iload 24) 0) (tL 374 p (.if_icmp .eq 9) 383))))) (tB 353 p (tB 361 p (tB 368 p (tB 371 p (tB 373 p (tL 373 p (.iconst 3) 0) (tL 371 p (.iload 24) 0)) (tL 368 p (.goto 209) 577)) (tB 363 p (tB 366 p (tL 366 p (.lstore 33) 0) (tL 363 p (.invokestatic 40) 18)) (tL 361 p (.iload 35) 0))) (tB 355 p (tB 357 p (tB 359 p (tL 359 p (.iload 26) 0) (tL 357 p (.lload 33) 0)) (tL 355 p (.istore 29) 0)) (tB 354 p (tL 354 p .ior 0) (tL 353 p .ishl 0)))) (tB 342 p (tB 348 p (tB 350 p (tB 351 p (tL 351 p (.iload 26) 0) (tL 350 p (.iconst 1) 0)) (tL 348 p (.iload 29) 0)) (tB 343 p (tB 345 p (tL 345 p (.goto 23) 368) (tL 343 p (.istore 30) 0)) (tL 342 p (.iconst 1) 0))) (tB 334 p (tB 337 p (tB 339 p (tL 339 p (.if_icmp .eq 29) 368) (tL 337 p (.iload 35) 0)) (tL 334 p (.invokestatic 36) 8)) (tB 332 p (tL 332 p (.iload 26) 0) (tL 330 p (.lload 33) 0)))))))) (tB 147 p (tB 240 p (tB 284 p (tB 309 p (tB 320 p (tB 325 p (tB 326 p (tB 327 p (tL 327 p (.ifCond .eq 21) 348) (tL 326 p .iand 0)) (tL 325 p (.iconst 1) 0)) (tB 322 p (tB 324 p (tL 324 p .iushr 0) (tL 322 p (.iload 26) 0)) (tL 320 p (.iload 29) 0))) (tB 314 p (tB 315 p (tB 317 p (tL 317 p (.goto 51) 368) (tL 315 p (.istore 30) 0)) (tL 314 p (.iconst 1) 0)) (tB 311 p (tL 311 p (.if_icmp .le 9) 320) (tL 309 p (.bipush 15) 0)))) (tB 296 p (tB 302 p (tB 304 p (tB 307 p (tL 307 p (.iload 35) 0) (tL 304 p (.ifCond .lt 10) 314)) (tL 302 p (.iload 35) 0)) (tB 297 p (tB 299 p (tL 299 p (.goto 69) 368) (tL 297 p (.istore 30) 0)) (tL 296 p (.iconst 1) 0))) (tB 288 p (tB 290 p (tB 293 p (tL 293 p (.if_icmp .eq 75) 368) (tL 290 p (.invokestatic 36) 8)) (tL 288 p (.iload 26) 0)) (tB 286 p (tL 286 p (.lload 31) 0) (tL 284 p (.iload 35) 0))))) (tB 264 p (tB 274 p (tB 279 p (tB 280 p (tB 281 p (tL 281 p (.ifCond .eq 21) 302) (tL 280 p .iand 0)) (tL 279 p (.iconst 1) 0)) (tB 276 p (tB 278 p (tL 278 p .iushr 0) (tL 276 p (.iload 26) 0)) (tL 274 p (.iload 28) 0))) (tB 267 p (tB 269 p (tB 272 p (tL 272 p (.istore 35) 0) (tL 269 p (.invokevirtual 32) 19)) (tL 267 p (.iload 26) 0)) (tB 265 p (tL 265 p (.iload 25) 0) (tL 264 p (.aload_n 1) 0)))) (tB 251 p (tB 258 p (tB 260 p (tB 261 p (tL 261 p (.if_icmp .ne 110) 371) (tL 260 p (.iconst 2) 0)) (tL 258 p (.iload 24) 0)) (tB 254 p (tB 256 p (tL 256 p (.lstore 33) 0) (tL 254 p (.lload 19) 0)) (tL 251 p (.goto 5) 256))) (tB 244 p (tB 246 p (tB 249 p (tL 249 p (.lload 17) 0) (tL 246 p (.ifCond .ne 8) 254)) (tL 244 p (.iload 25) 0)) (tB 242 p (tL 242 p (.lstore 31) 0) (tL 240 p (.lload 15) 0)))))) (tB 188 p (tB 214 p (tB 226 p (tB 232 p (tB 235 p (tB 237 p (tL 237 p (.goto 5) 242) (tL 235 p (.lload 13) 0)) (tL 232 p (.ifCond .ne 8) 240)) (tB 228 p (tB 230 p (tL 230 p (.iload 25) 0) (tL 228 p (.istore 30) 0)) (tL 226 p (.iload 12) 0))) (tB 218 p (tB 221 p (tB 223 p (tL 223 p (.goto 5) 228) (tL 221 p (.iload 11) 0)) (tL 218 p (.ifCond .ne 8) 226)) (tB 216 p (tL 216 p (.iload 25) 0) (tL 214 p (.istore 29) 0)))) (tB 200 p (tB 207 p (tB 209 p (tB 212 p (tL 212 p (.iload 10) 0) (tL 209 p (.goto 5) 214)) (tL 207 p (.iload 9) 0)) (tB 202 p (tB 204 p (tL 204 p (.ifCond .ne 8) 212) (tL 202 p (.iload 25) 0)) (tL 200 p (.istore 28) 0))) (tB 193 p (tB 195 p (tB 198 p (tL 198 p (.iload 8) 0) (tL 195 p (.goto 5) 200)) (tL 193 p (.iload 7) 0)) (tB 190 p (tL 190 p (.ifCond .ne 8) 198) (tL 188 p (.iload 25) 0))))) (tB 167 p (tB 174 p (tB 180 p (tB 182 p (tB 185 p (tL 185 p (.ifCond .eq 440) 625) (tL 182 p (.invokevirtual 28) 4)) (tL 180 p (.iload 25) 0)) (tB 176 p (tB 179 p (tL 179 p (.aload_n 1) 0) (tL 176 p (.goto 449) 625)) (tL 174 p (.lstore 19) 0))) (tB 170 p (tB 171 p (tB 173 p (tL 173 p (.lconst 0) 0) (tL 171 p (.lstore 15) 0)) (tL 170 p (.lconst 0) 0)) (tB 168 p (tL 168 p (.istore 12) 0) (tL 167 p (.iconst 0) 0)))) (tB 157 p (tB 162 p (tB 164 p (tB 165 p (tL 165 p (.istore 10) 0) (tL 164 p (.iconst 0) 0)) (tL 162 p (.istore 8) 0)) (tB 158 p (tB 161 p (tL 161 p (.iconst 0) 0) (tL 158 p (.if_icmp .ne 18) 176)) (tL 157 p (.iconst 1) 0))) (tB 150 p (tB 152 p (tB 155 p (tL 155 p (.iload 28) 0) (tL 152 p (.goto 24) 176)) (tL 150 p (.lstore 17) 0)) (tB 149 p (tL 149 p (.lconst 0) 0) (tL 147 p (.lstore 13) 0))))))) (tB 71 p (tB 108 p (tB 127 p (tB 138 p (tB 143 p (tB 144 p (tB 146 p (tL 146 p (.lconst 0) 0) (tL 144 p (.istore 11) 0)) (tL 143 p (.iconst 0) 0)) (tB 140 p (tB 141 p (tL 141 p (.istore 9) 0) (tL 140 p (.iconst 0) 0)) (tL 138 p (.istore 7) 0))) (tB 132 p (tB 134 p (tB 137 p (tL 137 p (.iconst 0) 0) (tL 134 p (.ifCond .ne 21) 155)) (tL 132 p (.iload 28) 0)) (tB 130 p (tL 130 p (.istore 28) 0) (tL 127 p (.invokevirtual 24) 11)))) (tB 117 p (tB 122 p (tB 123 p (tB 126 p (tL 126 p (.aload_n 1) 0) (tL 123 p (.if_icmp .gt 56) 179)) (tL 122 p (.iconst 1) 0)) (tB 118 p (tB 120 p (tL 120 p (.iload 24) 0) (tL 118 p (.istore 27) 0)) (tL 117 p .iand 0))) (tB 112 p (tB 114 p (tB 115 p (tL 115 p (.bipush 15) 0) (tL 114 p .iushr 0)) (tL 112 p (.bipush 7) 0)) (tB 110 p (tL 110 p (.iload 23) 0) (tL 108 p (.istore 26) 0))))) (tB 93 p (tB 99 p (tB 104 p (tB 105 p (tB 107 p (tL 107 p .iand 0) (tL 105 p (.bipush 7) 0)) (tL 104 p .iushr 0)) (tB 101 p (tB 103 p (tL 103 p (.iconst 4) 0) (tL 101 p (.iload 23) 0)) (tL 99 p (.istore 25) 0))) (tB 96 p (tB 97 p (tB 98 p (tL 98 p .iand 0) (tL 97 p (.iconst 1) 0)) (tL 96 p .iushr 0)) (tB 95 p (tL 95 p (.iconst 3) 0) (tL 93 p (.iload 23) 0)))) (tB 81 p (tB 88 p (tB 90 p (tB 91 p (tL 91 p (.istore 24) 0) (tL 90 p .iand 0)) (tL 88 p (.bipush 7) 0)) (tB 84 p (tB 86 p (tL 86 p (.iload 23) 0) (tL 84 p (.istore 23) 0)) (tL 81 p (.invokestatic 18) 3))) (tB 75 p (tB 78 p (tB 79 p (tL 79 p (.iload 22) 0) (tL 78 p (.aload_n 0) 0)) (tL 75 p (.if_icmp .ge 607) 682)) (tB 73 p (tL 73 p (.iload 21) 0) (tL 71 p (.iload 22) 0)))))) (tB 33 p (tB 50 p (tB 59 p (tB 66 p (tB 68 p (tB 69 p (tL 69 p (.istore 22) 0) (tL 68 p (.iconst 0) 0)) (tL 66 p (.istore 21) 0)) (tB 60 p (tB 63 p (tL 63 p (.sipush 240) 0) (tL 60 p (.goto 6) 66)) (tL 59 p .arraylength 0))) (tB 52 p (tB 55 p (tB 58 p (tL 58 p (.aload_n 0) 0) (tL 55 p (.if_icmp .ge 8) 63)) (tL 52 p (.sipush 240) 0)) (tB 51 p (tL 51 p .arraylength 0) (tL 50 p (.aload_n 0) 0)))) (tB 41 p (tB 45 p (tB 47 p (tB 48 p (tL 48 p (.lstore 19) 0) (tL 47 p (.lconst 0) 0)) (tL 45 p (.lstore 17) 0)) (tB 42 p (tB 44 p (tL 44 p (.lconst 0) 0) (tL 42 p (.lstore 15) 0)) (tL 41 p (.lconst 0) 0))) (tB 36 p (tB 38 p (tB 39 p (tL 39 p (.lstore 13) 0) (tL 38 p (.lconst 0) 0)) (tL 36 p (.istore 12) 0)) (tB 35 p (tL 35 p (.iconst 0) 0) (tL 33 p (.istore 11) 0))))) (tB 17 p (tB 24 p (tB 29 p (tB 30 p (tB 32 p (tL 32 p (.iconst 0) 0) (tL 30 p (.istore 10) 0)) (tL 29 p (.iconst 0) 0)) (tB 26 p (tB 27 p (tL 27 p (.istore 9) 0) (tL 26 p (.iconst 0) 0)) (tL 24 p (.istore 8) 0))) (tB 20 p (tB 21 p (tB 23 p (tL 23 p (.iconst 0) 0) (tL 21 p (.istore 7) 0)) (tL 20 p (.iconst 0) 0)) (tB 18 p (tL 18 p (.istore 6) 0) (tL 17 p (.iconst 0) 0)))) (tB 8 p (tB 13 p (tB 14 p (tB 15 p (tL 15 p (.lstore 4) 0) (tL 14 p (.lconst 0) 0)) (tL 13 p (.lstore_n 2) 0)) (tB 11 p (tB 12 p (tL 12 p (.lconst 0) 0) (tL 11 p (.astore_n 1) 0)) (tL 8 p (.invokespecial 15) 1))) (tB 4 p (tB 6 p (tB 7 p (tL 7 p (.iconst 2) 0) (tL 6 p (.iconst 2) 0)) (tL 4 p (.bipush 8) 0)) (tB 3 p (tL 3 p .dup 0) (tL 0 p (.new 13) 0)))))))))
set_option maxHeartbeats 4000000 in
def cd1 (p : Nat) : Option (Instr × Nat) := (tB 61 p (tB 87 p (tB 100 p (tB 108 p (tB 110 p (tB 113 p (tL 113 p .return_ 0) (tL 110 p (.putfield 52) 12)) (tB 109 p (tL 109 p (.iconst (-1)) 0) (tL 108 p (.aload_n 0) 0))) (tB 104 p (tB 105 p (tL 105 p (.putfield 49) 11) (tL 104 p (.iconst 0) 0)) (tB 103 p (tL 103 p (.aload_n 0) 0) (tL 100 p (.putfield 46) 10)))) (tB 92 p (tB 98 p (tB 99 p (tL 99 p (.iconst 0) 0) (tL 98 p (.aload_n 0) 0)) (tB 95 p (tL 95 p (.putfield 43) 9) (tL 92 p (.invokevirtual 32) 2))) (tB 89 p (tB 90 p (tL 90 p (.bipush 16) 0) (tL 89 p (.iconst 2) 0)) (tB 88 p (tL 88 p (.iload_n 3) 0) (tL 87 p (.aload_n 0) 0))))) (tB 74 p (tB 78 p (tB 83 p (tB 86 p (tL 86 p (.aload_n 0) 0) (tL 83 p (.putfield 40) 8)) (tB 80 p (tL 80 p (.invokevirtual 32) 2) (tL 78 p (.bipush 8) 0))) (tB 76 p (tB 77 p (tL 77 p (.iconst 2) 0) (tL 76 p (.iload_n 2) 0)) (tB 75 p (tL 75 p (.aload_n 0) 0) (tL 74 p (.aload_n 0) 0)))) (tB 64 p (tB 68 p (tB 71 p (tL 71 p (.putfield 36) 7) (tL 68 p (.invokevirtual 32) 2)) (tB 66 p (tL 66 p (.bipush 32) 0) (tL 64 p (.bipush 8) 0))) (tB 62 p (tB 63 p (tL 63 p (.iload_n 1) 0) (tL 62 p (.aload_n 0) 0)) (tL 61 p (.aload_n 0) 0))))) (tB 29 p (tB 44 p (tB 52 p (tB 56 p (tB 58 p (tL 58 p (.putfield 29) 6) (tL 56 p (.newarray .int) 0)) (tB 53 p (tL 53 p (.sipush 256) 0) (tL 52 p (.aload_n 0) 0))) (tB 47 p (tB 49 p (tL 49 p (.putfield 26) 5) (tL 47 p (.newarray .int) 0)) (tB 45 p (tL 45 p (.bipush 8) 0) (tL 44 p (.aload_n 0) 0)))) (tB 36 p (tB 39 p (tB 41 p (tL 41 p (.putfield 23) 4) (tL 39 p (.newarray .int) 0)) (tB 37 p (tL 37 p (.bipush 8) 0) (tL 36 p (.aload_n 0) 0))) (tB 31 p (tB 33 p (tL 33 p (.putfield 20) 3) (tL 31 p (.newarray .int) 0)) (tL 29 p (.bipush 8) 0)))) (tB 13 p (tB 21 p (tB 25 p (tB 28 p (tL 28 p (.aload_n 0) 0) (tL 25 p (.putfield 16) 2)) (tB 23 p (tL 23 p (.newarray .boolean) 0) (tL 21 p (.bipush 8) 0))) (tB 17 p (tB 20 p (tL 20 p (.aload_n 0) 0) (tL 17 p (.putfield 13) 1)) (tB 15 p (tL 15 p (.newarray .int) 0) (tL 13 p (.bipush 32) 0)))) (tB 5 p (tB 9 p (tB 12 p (tL 12 p (.aload_n 0) 0) (tL 9 p (.putfield 7) 0)) (tB 7 p (tL 7 p (.newarray .int) 0) (tL 5 p (.bipush 32) 0))) (tB 1 p (tB 4 p (tL 4 p (.aload_n 0) 0) (tL 1 p (.invokespecial 1) 0)) (tL 0 p (.aload_n 0) 0))))))
set_option maxHeartbeats 4000000 in
def cd2 (p : Nat) : Option (Instr × Nat) := (tB 8 p (tB 13 p (tB 14 p (tB 15 p (tL 15 p .ireturn 0) (tL 14 p (.iload_n 1) 0)) (tL 13 p .ireturn 0)) (tB 9 p (tB 12 p (tL 12 p (.iload_n 3) 0) (tL 9 p (.if_icmp .le 5) 14)) (tL 8 p (.iload_n 3) 0))) (tB 5 p (tB 6 p (tB 7 p (tL 7 p (.iload_n 1) 0) (tL 6 p .ireturn 0)) (tL 5 p (.iload_n 2) 0)) (tB 1 p (tB 2 p (tL 2 p (.if_icmp .ge 5) 7) (tL 1 p (.iload_n 2) 0)) (tL 0 p (.iload_n 1) 0))))
set_option maxHeartbeats 4000000 in
def cd3 (p : Nat) : Option (Instr × Nat) := (tB 7 p (tB 9 p (tB 12 p (tB 13 p (tL 13 p .ireturn 0) (tL 12 p (.iconst 0) 0)) (tL 9 p (.goto 4) 13)) (tB 8 p (tL 8 p .iaload 0) (tL 7 p (.iload_n 1) 0))) (tB 2 p (tB 3 p (tB 6 p (tL 6 p (.aload_n 0) 0) (tL 3 p (.if_icmp .ge 9) 12)) (tL 2 p .arraylength 0)) (tB 1 p (tL 1 p (.aload_n 0) 0) (tL 0 p (.iload_n 1) 0))))
set_option maxHeartbeats 4000000 in
def cd4 (p : Nat) : Option (Instr × Nat) := (tB 2 p (tB 5 p (tL 5 p .ireturn 0) (tL 2 p (.invokevirtual 63) 5)) (tB 1 p (tL 1 p (.iload_n 1) 0) (tL 0 p (.aload_n 0) 0)))
set_option maxHeartbeats 4000000 in
def cd5 (p : Nat) : Option (Instr × Nat) := (tB 15 p (tB 21 p (tB 25 p (tB 26 p (tL 26 p .ireturn 0) (tL 25 p .baload 0)) (tB 24 p (tL 24 p (.iload_n 1) 0) (tL 21 p (.getfield 16) 2))) (tB 19 p (tB 20 p (tL 20 p (.aload_n 0) 0) (tL 19 p .ireturn 0)) (tB 18 p (tL 18 p (.iconst 0) 0) (tL 15 p (.if_icmp .lt 5) 20)))) (tB 6 p (tB 12 p (tB 13 p (tL 13 p (.bipush 8) 0) (tL 12 p (.iload_n 1) 0)) (tB 9 p (tL 9 p (.if_icmp .ge 9) 18) (tL 6 p (.getfield 40) 8))) (tB 4 p (tB 5 p (tL 5 p (.aload_n 0) 0) (tL 4 p (.iload_n 1) 0)) (tB 1 p (tL 1 p (.ifCond .lt 17) 18) (tL 0 p (.iload_n 1) 0)))))
set_option maxHeartbeats 4000000 in
def cd6 (p : Nat) : Option (Instr × Nat) := (tB 9 p (tB 14 p (tB 15 p (tB 16 p (tL 16 p .ireturn 0) (tL 15 p .iaload 0)) (tL 14 p (.iload_n 1) 0)) (tB 10 p (tB 11 p (tL 11 p (.getfield 7) 0) (tL 10 p (.aload_n 0) 0)) (tL 9 p .ireturn 0))) (tB 2 p (tB 5 p (tB 8 p (tL 8 p (.iconst 0) 0) (tL 5 p (.ifCond .ne 5) 10)) (tL 2 p (.invokevirtual 67) 7)) (tB 1 p (tL 1 p (.iload_n 1) 0) (tL 0 p (.aload_n 0) 0))))
set_option maxHeartbeats 4000000 in
def cd7 (p : Nat) : Option (Instr × Nat) := (tB 12 p (tB 18 p (tB 22 p (tB 23 p (tL 23 p .ireturn 0) (tL 22 p (.iconst 0) 0)) (tB 19 p (tL 19 p (.goto 4) 23) (tL 18 p (.iconst 1) 0))) (tB 13 p (tB 15 p (tL 15 p (.if_icmp .ge 7) 22) (tL 13 p (.bipush 32) 0)) (tL 12 p (.iload_n 1) 0))) (tB 5 p (tB 6 p (tB 9 p (tL 9 p (.if_icmp .ge 13) 22) (tL 6 p (.getfield 36) 7)) (tL 5 p (.aload_n 0) 0)) (tB 1 p (tB 4 p (tL 4 p (.iload_n 1) 0) (tL 1 p (.ifCond .lt 21) 22)) (tL 0 p (.iload_n 1) 0))))
set_option maxHeartbeats 4000000 in
def cd8 (p : Nat) : Option (Instr × Nat) := (tB 4 p (tB 8 p (tB 9 p (tB 10 p (tL 10 p .ireturn 0) (tL 9 p .l2i 0)) (tL 8 p .land 0)) (tB 5 p (tL 5 p (.ldc2_w 7) 0) (tL 4 p .lushr 0))) (tB 2 p (tB 3 p (tL 3 p .imul 0) (tL 2 p (.iload_n 2) 0)) (tB 1 p (tL 1 p (.iconst 4) 0) (tL 0 p (.lload_n 0) 0))))
set_option maxHeartbeats 4000000 in
def cd9 (p : Nat) : Option (Instr × Nat) := (tB 9 p (tB 14 p (tB 15 p (tB 16 p (tL 16 p .ireturn 0) (tL 15 p .iaload 0)) (tL 14 p (.iload_n 1) 0)) (tB 10 p (tB 11 p (tL 11 p (.getfield 13) 1) (tL 10 p (.aload_n 0) 0)) (tL 9 p .ireturn 0))) (tB 2 p (tB 5 p (tB 8 p (tL 8 p (.iconst 0) 0) (tL 5 p (.ifCond .ne 5) 10)) (tL 2 p (.invokevirtual 67) 7)) (tB 1 p (tL 1 p (.iload_n 1) 0) (tL 0 p (.aload_n 0) 0))))
set_option maxHeartbeats 4000000 in
def cd10 (p : Nat) : Option (Instr × Nat) := (tB 5 p (tB 9 p (tB 10 p (tB 11 p (tL 11 p .ireturn 0) (tL 10 p .l2i 0)) (tL 9 p .land 0)) (tB 6 p (tL 6 p (.ldc2_w 11) 1) (tL 5 p .lushr 0))) (tB 3 p (tB 4 p (tL 4 p .imul 0) (tL 3 p (.iload_n 2) 0)) (tB 1 p (tL 1 p (.bipush 8) 0) (tL 0 p (.lload_n 0) 0))))
set_option maxHeartbeats 4000000 in
def cd11 (p : Nat) : Option (Instr × Nat) := (tB 11 p (tB 14 p (tB 17 p (tB 18 p (tL 18 p .ireturn 0) (tL 17 p (.iload_n 1) 0)) (tL 14 p (.invokevirtual 59) 13)) (tB 12 p (tB 13 p (tL 13 p (.iload_n 1) 0) (tL 12 p (.aload_n 0) 0)) (tL 11 p .ireturn 0))) (tB 5 p (tB 6 p (tB 9 p (tL 9 p (.bipush (-5)) 0) (tL 6 p (.ifCond .ge 6) 12)) (tL 5 p (.iload_n 1) 0)) (tB 1 p (tB 4 p (tL 4 p (.istore_n 1) 0) (tL 1 p (.invokevirtual 55) 12)) (tL 0 p (.aload_n 0) 0))))
set_option maxHeartbeats 4000000 in
def cd12 (p : Nat) : Option (Instr × Nat) := (tB 17 p (tB 26 p (tB 30 p (tB 33 p (tB 34 p (tL 34 p .ireturn 0) (tL 33 p (.iconst (-1)) 0)) (tL 30 p (.goto (-28)) 2)) (tB 27 p (tL 27 p (.iinc 1 1) 0) (tL 26 p .ireturn 0))) (tB 21 p (tB 22 p (tB 25 p (tL 25 p (.iload_n 1) 0) (tL 22 p (.ifCond .ne 5) 27)) (tL 21 p .baload 0)) (tB 20 p (tL 20 p (.iload_n 1) 0) (tL 17 p (.getfield 16) 2)))) (tB 7 p (tB 11 p (tB 13 p (tB 16 p (tL 16 p (.aload_n 0) 0) (tL 13 p (.if_icmp .ge 20) 33)) (tL 11 p (.bipush 8) 0)) (tB 10 p (tL 10 p (.iload_n 1) 0) (tL 7 p (.if_icmp .ge 26) 33))) (tB 2 p (tB 3 p (tB 4 p (tL 4 p (.getfield 40) 8) (tL 3 p (.aload_n 0) 0)) (tL 2 p (.iload_n 1) 0)) (tB 1 p (tL 1 p (.istore_n 1) 0) (tL 0 p (.iconst 0) 0)))))
set_option maxHeartbeats 4000000 in
def cd13 (p : Nat) : Option (Instr × Nat) := (tB 11 p (tB 17 p (tB 21 p (tB 22 p (tL 22 p .return_ 0) (tL 21 p .iastore 0)) (tB 18 p (tL 18 p (.getfield 46) 10) (tL 17 p (.aload_n 0) 0))) (tB 13 p (tB 16 p (tL 16 p (.iload_n 1) 0) (tL 13 p (.getfield 20) 3)) (tB 12 p (tL 12 p (.aload_n 0) 0) (tL 11 p .bastore 0)))) (tB 5 p (tB 9 p (tB 10 p (tL 10 p (.iconst 1) 0) (tL 9 p (.iload_n 1) 0)) (tB 6 p (tL 6 p (.getfield 16) 2) (tL 5 p (.aload_n 0) 0))) (tB 1 p (tB 2 p (tL 2 p (.invokevirtual 93) 14) (tL 1 p (.iload_n 1) 0)) (tL 0 p (.aload_n 0) 0))))
set_option maxHeartbeats 4000000 in
def cd14 (p : Nat) : Option (Instr × Nat) := (tB 27 p (tB 41 p (tB 48 p (tB 50 p (tB 53 p (tB 56 p (tL 56 p .return_ 0) (tL 53 p (.goto (-18)) 35)) (tL 50 p (.iinc 3 1) 0)) (tB 49 p (tL 49 p .iastore 0) (tL 48 p (.iconst 0) 0))) (tB 45 p (tB 46 p (tB 47 p (tL 47 p .iadd 0) (tL 46 p (.iload_n 3) 0)) (tL 45 p (.iload_n 2) 0)) (tB 42 p (tL 42 p (.getfield 29) 6) (tL 41 p (.aload_n 0) 0)))) (tB 33 p (tB 35 p (tB 36 p (tB 38 p (tL 38 p (.if_icmp .ge 18) 56) (tL 36 p (.bipush 32) 0)) (tL 35 p (.iload_n 3) 0)) (tB 34 p (tL 34 p (.istore_n 3) 0) (tL 33 p (.iconst 0) 0))) (tB 29 p (tB 31 p (tB 32 p (tL 32 p (.istore_n 2) 0) (tL 31 p .imul 0)) (tL 29 p (.bipush 32) 0)) (tB 28 p (tL 28 p (.iload_n 1) 0) (tL 27 p .iastore 0))))) (tB 13 p (tB 20 p (tB 22 p (tB 25 p (tB 26 p (tL 26 p (.iconst 0) 0) (tL 25 p (.iload_n 1) 0)) (tL 22 p (.getfield 26) 5)) (tB 21 p (tL 21 p (.aload_n 0) 0) (tL 20 p .iastore 0))) (tB 15 p (tB 18 p (tB 19 p (tL 19 p (.iconst 0) 0) (tL 18 p (.iload_n 1) 0)) (tL 15 p (.getfield 23) 4)) (tB 14 p (tL 14 p (.aload_n 0) 0) (tL 13 p .iastore 0)))) (tB 6 p (tB 8 p (tB 11 p (tB 12 p (tL 12 p (.iconst 0) 0) (tL 11 p (.iload_n 1) 0)) (tL 8 p (.getfield 20) 3)) (tB 7 p (tL 7 p (.aload_n 0) 0) (tL 6 p .bastore 0))) (tB 4 p (tB 5 p (tL 5 p (.iconst 0) 0) (tL 4 p (.iload_n 1) 0)) (tB 1 p (tL 1 p (.getfield 16) 2) (tL 0 p (.aload_n 0) 0))))))
set_option maxHeartbeats 4000000 in
def cd15 (p : Nat) : Option (Instr × Nat) := (tB 30 p (tB 40 p (tB 46 p (tB 50 p (tB 51 p (tB 52 p (tL 52 p .ireturn 0) (tL 51 p (.iconst 0) 0)) (tL 50 p .iastore 0)) (tB 49 p (tL 49 p (.iload_n 3) 0) (tL 46 p (.invokevirtual 74) 17))) (tB 44 p (tB 45 p (tL 45 p (.iload_n 2) 0) (tL 44 p (.iload_n 1) 0)) (tB 43 p (tL 43 p (.aload_n 0) 0) (tL 40 p (.getfield 29) 6)))) (tB 34 p (tB 38 p (tB 39 p (tL 39 p (.aload_n 0) 0) (tL 38 p .iastore 0)) (tB 37 p (tL 37 p .ior 0) (tL 34 p (.invokevirtual 70) 16))) (tB 32 p (tB 33 p (tL 33 p (.iload_n 2) 0) (tL 32 p (.aload_n 0) 0)) (tB 31 p (tL 31 p .iaload 0) (tL 30 p (.iload_n 1) 0))))) (tB 12 p (tB 21 p (tB 25 p (tB 26 p (tB 27 p (tL 27 p (.getfield 26) 5) (tL 26 p (.aload_n 0) 0)) (tL 25 p (.iload_n 1) 0)) (tB 22 p (tL 22 p (.getfield 26) 5) (tL 21 p (.aload_n 0) 0))) (tB 18 p (tB 20 p (tL 20 p .ireturn 0) (tL 18 p (.bipush (-2)) 0)) (tB 15 p (tL 15 p (.ifCond .ne 6) 21) (tL 12 p (.invokevirtual 67) 7)))) (tB 8 p (tB 10 p (tB 11 p (tL 11 p (.iload_n 2) 0) (tL 10 p (.aload_n 0) 0)) (tB 9 p (tL 9 p .ireturn 0) (tL 8 p (.iconst (-1)) 0))) (tB 2 p (tB 5 p (tL 5 p (.ifCond .ne 5) 10) (tL 2 p (.invokevirtual 63) 5)) (tB 1 p (tL 1 p (.iload_n 1) 0) (tL 0 p (.aload_n 0) 0))))))
set_option maxHeartbeats 4000000 in
def cd16 (p : Nat) : Option (Instr × Nat) := (tB 2 p (tB 3 p (tL 3 p .ireturn 0) (tL 2 p .ishl 0)) (tB 1 p (tL 1 p (.iload_n 1) 0) (tL 0 p (.iconst 1) 0)))
set_option maxHeartbeats 4000000 in
def cd17 (p : Nat) : Option (Instr × Nat) := (tB 4 p (tB 5 p (tB 6 p (tL 6 p .ireturn 0) (tL 5 p .iadd 0)) (tL 4 p (.iload_n 2) 0)) (tB 1 p (tB 3 p (tL 3 p .imul 0) (tL 1 p (.bipush 32) 0)) (tL 0 p (.iload_n 1) 0)))
set_option maxHeartbeats 4000000 in
def cd18 (p : Nat) : Option (Instr × Nat) := (tB 13 p (tB 19 p (tB 21 p (tB 22 p (tB 23 p (tL 23 p .lreturn 0) (tL 22 p .lor 0)) (tL 21 p .lshl 0)) (tB 20 p (tL 20 p .imul 0) (tL 19 p (.iload_n 2) 0))) (tB 16 p (tB 17 p (tB 18 p (tL 18 p (.iconst 4) 0) (tL 17 p .i2l 0)) (tL 16 p .iand 0)) (tB 14 p (tL 14 p (.bipush 15) 0) (tL 13 p (.iload_n 3) 0)))) (tB 6 p (tB 8 p (tB 11 p (tB 12 p (tL 12 p .land 0) (tL 11 p .lxor 0)) (tL 8 p (.ldc2_w 9) 2)) (tB 7 p (tL 7 p .lshl 0) (tL 6 p .imul 0))) (tB 4 p (tB 5 p (tL 5 p (.iload_n 2) 0) (tL 4 p (.iconst 4) 0)) (tB 1 p (tL 1 p (.ldc2_w 7) 0) (tL 0 p (.lload_n 0) 0)))))
set_option maxHeartbeats 4000000 in
def cd19 (p : Nat) : Option (Instr × Nat) := (tB 37 p (tB 54 p (tB 62 p (tB 67 p (tB 68 p (tB 69 p (tL 69 p .ireturn 0) (tL 68 p .iaload 0)) (tL 67 p (.iload_n 2) 0)) (tB 63 p (tB 64 p (tL 64 p (.getfield 7) 0) (tL 63 p (.aload_n 0) 0)) (tL 62 p .iastore 0))) (tB 59 p (tB 60 p (tB 61 p (tL 61 p .ior 0) (tL 60 p (.iload_n 3) 0)) (tL 59 p .iaload 0)) (tB 55 p (tB 58 p (tL 58 p (.iload_n 1) 0) (tL 55 p (.getfield 23) 4)) (tL 54 p (.aload_n 0) 0)))) (tB 44 p (tB 49 p (tB 50 p (tB 53 p (tL 53 p (.iload_n 1) 0) (tL 50 p (.getfield 23) 4)) (tL 49 p (.aload_n 0) 0)) (tB 47 p (tB 48 p (tL 48 p .ireturn 0) (tL 47 p .iaload 0)) (tL 44 p (.invokevirtual 74) 17))) (tB 41 p (tB 42 p (tB 43 p (tL 43 p (.iload_n 2) 0) (tL 42 p (.iload_n 1) 0)) (tL 41 p (.aload_n 0) 0)) (tB 38 p (tL 38 p (.getfield 29) 6) (tL 37 p (.aload_n 0) 0))))) (tB 19 p (tB 27 p (tB 32 p (tB 33 p (tB 34 p (tL 34 p (.ifCond .eq 15) 49) (tL 33 p .iand 0)) (tL 32 p (.iload_n 3) 0)) (tB 30 p (tB 31 p (tL 31 p .iaload 0) (tL 30 p (.iload_n 1) 0)) (tL 27 p (.getfield 26) 5))) (tB 22 p (tB 25 p (tB 26 p (tL 26 p (.aload_n 0) 0) (tL 25 p (.istore_n 3) 0)) (tL 22 p (.invokevirtual 70) 16)) (tB 20 p (tB 21 p (tL 21 p (.iload_n 2) 0) (tL 20 p (.aload_n 0) 0)) (tL 19 p .ireturn 0)))) (tB 9 p (tB 12 p (tB 15 p (tB 18 p (tL 18 p (.iconst 0) 0) (tL 15 p (.ifCond .ne 5) 20)) (tL 12 p (.invokevirtual 67) 7)) (tB 10 p (tB 11 p (tL 11 p (.iload_n 2) 0) (tL 10 p (.aload_n 0) 0)) (tL 9 p .ireturn 0))) (tB 2 p (tB 5 p (tB 8 p (tL 8 p (.iconst 0) 0) (tL 5 p (.ifCond .ne 5) 10)) (tL 2 p (.invokevirtual 63) 5)) (tB 1 p (tL 1 p (.iload_n 1) 0) (tL 0 p (.aload_n 0) 0))))))
set_option maxHeartbeats 4000000 in
def cd20 (p : Nat) : Option (Instr × Nat) := (tB 12 p (tB 20 p (tB 22 p (tB 25 p (tB 26 p (tL 26 p .ireturn 0) (tL 25 p (.iconst 0) 0)) (tL 22 p (.putfield 49) 11)) (tB 21 p (tL 21 p .iadd 0) (tL 20 p (.iconst 1) 0))) (tB 16 p (tB 17 p (tL 17 p (.getfield 49) 11) (tL 16 p (.aload_n 0) 0)) (tB 15 p (tL 15 p (.aload_n 0) 0) (tL 12 p (.invokevirtual 90) 21)))) (tB 8 p (tB 10 p (tB 11 p (tL 11 p (.iload_n 1) 0) (tL 10 p (.aload_n 0) 0)) (tB 9 p (tL 9 p .ireturn 0) (tL 8 p (.iconst (-1)) 0))) (tB 2 p (tB 5 p (tL 5 p (.ifCond .ne 5) 10) (tL 2 p (.invokevirtual 63) 5)) (tB 1 p (tL 1 p (.iload_n 1) 0) (tL 0 p (.aload_n 0) 0)))))
set_option maxHeartbeats 4000000 in
def cd21 (p : Nat) : Option (Instr × Nat) := (tB 2 p (tB 5 p (tL 5 p .return_ 0) (tL 2 p (.invokevirtual 93) 14)) (tB 1 p (tL 1 p (.iload_n 1) 0) (tL 0 p (.aload_n 0) 0)))
set_option maxHeartbeats 4000000 in
def cd22 (p : Nat) : Option (Instr × Nat) := (tB 27 p (tB 39 p (tB 46 p (tB 48 p (tB 51 p (tL 51 p .ireturn 0) (tL 48 p (.invokevirtual 87) 25)) (tB 47 p (tL 47 p (.iload_n 1) 0) (tL 46 p (.aload_n 0) 0))) (tB 42 p (tB 45 p (tL 45 p .ireturn 0) (tL 42 p (.invokevirtual 81) 27)) (tB 40 p (tL 40 p (.bipush (-3)) 0) (tL 39 p (.iload_n 2) 0)))) (tB 33 p (tB 37 p (tB 38 p (tL 38 p (.iload_n 1) 0) (tL 37 p (.aload_n 0) 0)) (tB 34 p (tL 34 p (.ifCond .lt 12) 46) (tL 33 p (.iload_n 2) 0))) (tB 29 p (tB 32 p (tL 32 p (.istore_n 2) 0) (tL 29 p (.invokevirtual 84) 24)) (tB 28 p (tL 28 p (.iload_n 1) 0) (tL 27 p (.aload_n 0) 0))))) (tB 12 p (tB 20 p (tB 23 p (tB 26 p (tL 26 p .ireturn 0) (tL 23 p (.invokevirtual 81) 27)) (tB 21 p (tL 21 p (.bipush (-4)) 0) (tL 20 p (.iconst (-1)) 0))) (tB 18 p (tB 19 p (tL 19 p (.iload_n 1) 0) (tL 18 p (.aload_n 0) 0)) (tB 15 p (tL 15 p (.ifCond .eq 12) 27) (tL 12 p (.invokevirtual 78) 23)))) (tB 8 p (tB 10 p (tB 11 p (tL 11 p (.iload_n 1) 0) (tL 10 p (.aload_n 0) 0)) (tB 9 p (tL 9 p .ireturn 0) (tL 8 p (.iconst (-1)) 0))) (tB 2 p (tB 5 p (tL 5 p (.ifCond .ne 5) 10) (tL 2 p (.invokevirtual 63) 5)) (tB 1 p (tL 1 p (.iload_n 1) 0) (tL 0 p (.aload_n 0) 0))))))
set_option maxHeartbeats 4000000 in
def cd23 (p : Nat) : Option (Instr × Nat) := (tB 11 p (tB 18 p (tB 22 p (tB 23 p (tL 23 p .ireturn 0) (tL 22 p (.iconst 0) 0)) (tB 19 p (tL 19 p (.goto 4) 23) (tL 18 p (.iconst 1) 0))) (tB 12 p (tB 15 p (tL 15 p (.if_icmp .le 7) 22) (tL 12 p (.getfield 43) 9)) (tL 11 p (.aload_n 0) 0))) (tB 5 p (tB 9 p (tB 10 p (tL 10 p .isub 0) (tL 9 p .iaload 0)) (tB 8 p (tL 8 p (.iload_n 1) 0) (tL 5 p (.getfield 20) 3))) (tB 1 p (tB 4 p (tL 4 p (.aload_n 0) 0) (tL 1 p (.getfield 46) 10)) (tL 0 p (.aload_n 0) 0))))
set_option maxHeartbeats 4000000 in
def cd24 (p : Nat) : Option (Instr × Nat) := (tB 30 p (tB 48 p (tB 57 p (tB 61 p (tB 64 p (tB 65 p (tL 65 p .ireturn 0) (tL 64 p (.iconst (-1)) 0)) (tL 61 p (.goto (-44)) 17)) (tB 58 p (tL 58 p (.iinc 4 1) 0) (tL 57 p .ireturn 0))) (tB 51 p (tB 52 p (tB 55 p (tL 55 p (.iload 4) 0) (tL 52 p (.if_icmp .le 6) 58)) (tL 51 p (.iload_n 3) 0)) (tB 50 p (tL 50 p .iaload 0) (tL 48 p (.iload 4) 0)))) (tB 37 p (tB 41 p (tB 44 p (tB 45 p (tL 45 p (.getfield 13) 1) (tL 44 p (.aload_n 0) 0)) (tL 41 p (.ifCond .eq 17) 58)) (tB 40 p (tL 40 p .iand 0) (tL 37 p (.invokevirtual 70) 16))) (tB 34 p (tB 35 p (tL 35 p (.iload 4) 0) (tL 34 p (.aload_n 0) 0)) (tB 33 p (tL 33 p (.iload_n 2) 0) (tL 30 p (.if_icmp .ge 34) 64))))) (tB 13 p (tB 19 p (tB 23 p (tB 26 p (tB 28 p (tL 28 p (.bipush 32) 0) (tL 26 p (.iload 4) 0)) (tL 23 p (.if_icmp .ge 41) 64)) (tB 20 p (tL 20 p (.getfield 36) 7) (tL 19 p (.aload_n 0) 0))) (tB 15 p (tB 17 p (tL 17 p (.iload 4) 0) (tL 15 p (.istore 4) 0)) (tB 14 p (tL 14 p (.iconst 0) 0) (tL 13 p (.istore_n 3) 0)))) (tB 6 p (tB 8 p (tB 11 p (tB 12 p (tL 12 p .iaload 0) (tL 11 p (.iload_n 1) 0)) (tL 8 p (.getfield 20) 3)) (tB 7 p (tL 7 p (.aload_n 0) 0) (tL 6 p (.istore_n 2) 0))) (tB 4 p (tB 5 p (tL 5 p .iaload 0) (tL 4 p (.iload_n 1) 0)) (tB 1 p (tL 1 p (.getfield 23) 4) (tL 0 p (.aload_n 0) 0))))))
set_option maxHeartbeats 4000000 in
def cd25 (p : Nat) : Option (Instr × Nat) := (tB 48 p (tB 72 p (tB 86 p (tB 91 p (tB 95 p (tB 96 p (tL 96 p .ireturn 0) (tL 95 p (.iload_n 2) 0)) (tB 92 p (tL 92 p (.putfield 52) 12) (tL 91 p (.iconst (-1)) 0))) (tB 87 p (tB 90 p (tL 90 p (.aload_n 0) 0) (tL 87 p (.invokevirtual 90) 21)) (tL 86 p (.iload_n 1) 0))) (tB 78 p (tB 82 p (tB 85 p (tL 85 p (.aload_n 0) 0) (tL 82 p (.goto (-57)) 25)) (tB 79 p (tL 79 p (.iinc 4 1) 0) (tL 78 p .iastore 0))) (tB 75 p (tB 77 p (tL 77 p (.iload_n 2) 0) (tL 75 p (.iload 4) 0)) (tL 72 p (.getfield 13) 1)))) (tB 62 p (tB 66 p (tB 70 p (tB 71 p (tL 71 p (.aload_n 0) 0) (tL 70 p .iastore 0)) (tB 69 p (tL 69 p .iaload 0) (tL 66 p (.invokevirtual 74) 17))) (tB 63 p (tB 64 p (tL 64 p (.iload 4) 0) (tL 63 p (.iload_n 1) 0)) (tL 62 p (.aload_n 0) 0))) (tB 53 p (tB 58 p (tB 59 p (tL 59 p (.getfield 29) 6) (tL 58 p (.aload_n 0) 0)) (tB 56 p (tL 56 p (.iload 4) 0) (tL 53 p (.getfield 7) 0))) (tB 49 p (tB 52 p (tL 52 p (.aload_n 0) 0) (tL 49 p (.ifCond .eq 30) 79)) (tL 48 p .iand 0))))) (tB 21 p (tB 34 p (tB 41 p (tB 43 p (tB 45 p (tL 45 p (.invokevirtual 70) 16) (tL 43 p (.iload 4) 0)) (tB 42 p (tL 42 p (.aload_n 0) 0) (tL 41 p (.iload_n 3) 0))) (tB 36 p (tB 38 p (tL 38 p (.if_icmp .ge 47) 85) (tL 36 p (.bipush 32) 0)) (tL 34 p (.iload 4) 0))) (tB 25 p (tB 28 p (tB 31 p (tL 31 p (.if_icmp .ge 54) 85) (tL 28 p (.getfield 36) 7)) (tB 27 p (tL 27 p (.aload_n 0) 0) (tL 25 p (.iload 4) 0))) (tB 22 p (tB 23 p (tL 23 p (.istore 4) 0) (tL 22 p (.iconst 0) 0)) (tL 21 p (.istore_n 3) 0)))) (tB 10 p (tB 15 p (tB 19 p (tB 20 p (tL 20 p .iaload 0) (tL 19 p (.iload_n 1) 0)) (tB 16 p (tL 16 p (.getfield 26) 5) (tL 15 p (.aload_n 0) 0))) (tB 11 p (tB 14 p (tL 14 p (.istore_n 2) 0) (tL 11 p (.getfield 46) 10)) (tL 10 p (.aload_n 0) 0))) (tB 5 p (tB 6 p (tB 7 p (tL 7 p (.putfield 46) 10) (tL 6 p .iadd 0)) (tL 5 p (.iconst 1) 0)) (tB 1 p (tB 2 p (tL 2 p (.getfield 46) 10) (tL 1 p (.aload_n 0) 0)) (tL 0 p (.aload_n 0) 0))))))
set_option maxHeartbeats 4000000 in
def cd26 (p : Nat) : Option (Instr × Nat) := (tB 14 p (tB 22 p (tB 24 p (tB 25 p (tB 26 p (tL 26 p .lreturn 0) (tL 25 p .lor 0)) (tL 24 p .lshl 0)) (tB 23 p (tL 23 p .imul 0) (tL 22 p (.iload_n 2) 0))) (tB 18 p (tB 19 p (tB 20 p (tL 20 p (.bipush 8) 0) (tL 19 p .i2l 0)) (tL 18 p .iand 0)) (tB 15 p (tL 15 p (.sipush 255) 0) (tL 14 p (.iload_n 3) 0)))) (tB 7 p (tB 9 p (tB 12 p (tB 13 p (tL 13 p .land 0) (tL 12 p .lxor 0)) (tL 9 p (.ldc2_w 9) 2)) (tB 8 p (tL 8 p .lshl 0) (tL 7 p .imul 0))) (tB 4 p (tB 6 p (tL 6 p (.iload_n 2) 0) (tL 4 p (.bipush 8) 0)) (tB 1 p (tL 1 p (.ldc2_w 11) 1) (tL 0 p (.lload_n 0) 0)))))
set_option maxHeartbeats 4000000 in
def cd27 (p : Nat) : Option (Instr × Nat) := (tB 11 p (tB 16 p (tB 20 p (tB 21 p (tL 21 p .ireturn 0) (tL 20 p (.iload_n 3) 0)) (tB 17 p (tL 17 p (.putfield 52) 12) (tL 16 p (.iload_n 2) 0))) (tB 12 p (tB 15 p (tL 15 p (.aload_n 0) 0) (tL 12 p (.putfield 49) 11)) (tL 11 p .iadd 0))) (tB 5 p (tB 7 p (tB 10 p (tL 10 p (.iconst 1) 0) (tL 7 p (.getfield 49) 11)) (tB 6 p (tL 6 p (.aload_n 0) 0) (tL 5 p (.aload_n 0) 0))) (tB 1 p (tB 2 p (tL 2 p (.invokevirtual 90) 21) (tL 1 p (.iload_n 1) 0)) (tL 0 p (.aload_n 0) 0))))
def pCode (m pc : Nat) : Option (Instr × Nat) := bif Nat.ble pN m then none else bif Nat.ble (pTop m) pc then none else (bif Nat.ble 14 m then (bif Nat.ble 21 m then (bif Nat.ble 24 m then (bif Nat.ble 26 m then (bif Nat.ble 27 m then cd27 pc else cd26 pc) else (bif Nat.ble 25 m then cd25 pc else cd24 pc)) else (bif Nat.ble 22 m then (bif Nat.ble 23 m then cd23 pc else cd22 pc) else cd21 pc)) else (bif Nat.ble 17 m then (bif Nat.ble 19 m then (bif Nat.ble 20 m then cd20 pc else cd19 pc) else (bif Nat.ble 18 m then cd18 pc else cd17 pc)) else (bif Nat.ble 15 m then (bif Nat.ble 16 m then cd16 pc else cd15 pc) else cd14 pc))) else (bif Nat.ble 7 m then (bif Nat.ble 10 m then (bif Nat.ble 12 m then (bif Nat.ble 13 m then cd13 pc else cd12 pc) else (bif Nat.ble 11 m then cd11 pc else cd10 pc)) else (bif Nat.ble 8 m then (bif Nat.ble 9 m then cd9 pc else cd8 pc) else cd7 pc)) else (bif Nat.ble 3 m then (bif Nat.ble 5 m then (bif Nat.ble 6 m then cd6 pc else cd5 pc) else (bif Nat.ble 4 m then cd4 pc else cd3 pc)) else (bif Nat.ble 1 m then (bif Nat.ble 2 m then cd2 pc else cd1 pc) else cd0 pc))))
def lkF : List (Nat × Nat × Nat) := [(1, 7, 0), (1, 13, 1), (1, 16, 2), (1, 20, 3), (1, 23, 4), (1, 26, 5), (1, 29, 6), (1, 36, 7), (1, 40, 8), (1, 43, 9), (1, 46, 10), (1, 49, 11), (1, 52, 12)]
def lkN : List (Nat × Nat) := [(0, 13)]
def lkC : List (Nat × Nat × Nat) := []
def lkD : List (Nat × Nat × Nat) := [(0, 7, 0), (0, 11, 1), (0, 9, 2)]
def lkV : List (Nat × Nat × Nat) := [(0, 15, 1), (1, 32, 2), (0, 18, 3), (0, 28, 4), (1, 63, 5), (0, 58, 6), (1, 67, 7), (0, 36, 8), (0, 61, 9), (0, 64, 10), (0, 24, 11), (1, 55, 12), (1, 59, 13), (1, 93, 14), (0, 44, 15), (1, 70, 16), (1, 74, 17), (0, 40, 18), (0, 32, 19), (0, 55, 20), (1, 90, 21), (0, 48, 22), (1, 78, 23), (1, 84, 24), (1, 87, 25), (0, 52, 26), (1, 81, 27)]
def lkO : List (Nat × Nat) := [(1, 1)]
def mV : List Nat := [4, 6, 9, 11, 15, 19, 20, 22]
def mP : List Nat := [2, 5, 7, 12, 13, 14, 16, 17, 21, 23, 24, 25, 27]
def mS : List Nat := [3, 8, 10, 18, 26]
def mI : List Nat := [1]
def mA : List Nat := [1, 2, 3, 4, 5, 6, 7, 8, 9, 10, 11, 12, 13, 14, 15, 16, 17, 18, 19, 20, 21, 22, 23, 24, 25, 26, 27]
def aTys : List FieldType := [.int, .boolean]
abbrev QCell := List Value ⊕ ((FieldType × List Int32) ⊕ List Int64)
abbrev QHeap := List QCell
abbrev QLoc := List (Option Value)
abbrev vI (x : Int32) : Option Value := some (.int x)
abbrev vR (a : Addr) : Option Value := some (.ref a)
abbrev vL (x : Int64) : Option Value := some (.long x)
abbrev QSt := Nat × QLoc × List Value × QHeap
def qv (ad : Nat → Addr) : Value → Value
 | .ref k => .ref (ad k)
 | v => v
def qsz : QCell → Nat
 | .inl _ => cN
 | .inr (.inl x) => x.2.length
 | .inr (.inr x) => x.length
def qhs : QHeap → Nat
 | [] => 0
 | c :: t => qsz c + qhs t
def aget {α : Type} (xs : List α) (j : Int32) : Option α := if j < 0 then none else xs[j.toNatClampNeg]?
def aset {α : Type} (xs : List α) (j : Int32) (v : α) : Option (List α) := if j < 0 then none else if j.toNatClampNeg < xs.length then some (xs.set j.toNatClampNeg v) else none
def qnew (n : Int32) : Option Nat := if n < 0 then none else if n.toNatClampNeg ≤ 67108864 then some n.toNatClampNeg else none
def qdiv (x y : Int32) : Option Int32 := if y = 0 then none else some (x / y)
def qrem (x y : Int32) : Option Int32 := if y = 0 then none else some (x % y)
def qboo (x : Int32) : Option Int32 := if x = 0 then some x else if x = 1 then some x else none
def lget : QLoc → Nat → Option Value
 | [], _ => none
 | v :: _, 0 => v
 | _ :: t, k + 1 => lget t k
def hget : QHeap → Nat → Option QCell
 | [], _ => none
 | v :: _, 0 => some v
 | _ :: t, k + 1 => hget t k
def vget : List Value → Nat → Option Value
 | [], _ => none
 | v :: _, 0 => some v
 | _ :: t, k + 1 => vget t k
def lkill (L : QLoc) : Nat → QLoc
 | 0 => L
 | k + 1 => match lget L k with
  | some (.long _) => L.set k none
  | some (.double _) => L.set k none
  | _ => L
def lput (L : QLoc) (k : Nat) (v : Value) : Option QLoc :=
 match v with
 | .long x => bif Nat.ble (k + 2) L.length then some (((lkill L k).set k (some (.long x))).set (k + 1) none) else none
 | .double _ => none
 | v => bif Nat.ble (k + 1) L.length then some ((lkill L k).set k (some v)) else none
def qload (pc : Nat) (L : QLoc) (S : List Value) (σ : QHeap) (k : Nat) (ok : Value → Bool) : Option QSt :=
 match lget L k with
 | some v => bif ok v then some (pc, L, v :: S, σ) else none
 | none => none
def isI : Value → Bool | .int _ => true | _ => false
def isJ : Value → Bool | .long _ => true | _ => false
def isR : Value → Bool | .ref _ => true | _ => false
def qstore (pc : Nat) (L : QLoc) (S : List Value) (σ : QHeap) (k : Nat) (ok : Value → Bool) : Option QSt :=
 match S with
 | v :: S' => bif ok v then (match lput L k v with | some L' => some (pc, L', S', σ) | none => none) else none
 | [] => none
def qbin (pc : Nat) (L : QLoc) (S : List Value) (σ : QHeap) (f : Int32 → Int32 → Int32) : Option QSt :=
 match S with
 | .int y :: .int x :: S' => some (pc, L, .int (f x y) :: S', σ)
 | _ => none
def qbino (pc : Nat) (L : QLoc) (S : List Value) (σ : QHeap) (f : Int32 → Int32 → Option Int32) : Option QSt :=
 match S with
 | .int y :: .int x :: S' => (f x y).bind fun z => some (pc, L, .int z :: S', σ)
 | _ => none
def qbinJ (pc : Nat) (L : QLoc) (S : List Value) (σ : QHeap) (f : Int64 → Int64 → Int64) : Option QSt :=
 match S with
 | .long y :: .long x :: S' => some (pc, L, .long (f x y) :: S', σ)
 | _ => none
def qshJ (pc : Nat) (L : QLoc) (S : List Value) (σ : QHeap) (f : Int64 → Int32 → Int64) : Option QSt :=
 match S with
 | .int y :: .long x :: S' => some (pc, L, .long (f x y) :: S', σ)
 | _ => none
def quni (pc : Nat) (L : QLoc) (S : List Value) (σ : QHeap) (f : Int32 → Value) : Option QSt :=
 match S with
 | .int x :: S' => some (pc, L, f x :: S', σ)
 | _ => none
def quniJ (pc : Nat) (L : QLoc) (S : List Value) (σ : QHeap) (f : Int64 → Value) : Option QSt :=
 match S with
 | .long x :: S' => some (pc, L, f x :: S', σ)
 | _ => none
def qald (pc : Nat) (L : QLoc) (S : List Value) (σ : QHeap) (ok : FieldType → Bool) : Option QSt :=
 match S with
 | .int j :: .ref a :: S' => (match hget σ a with
  | some (.inr (.inl x)) => bif ok x.1 then (aget x.2 j).bind fun v => some (pc, L, .int v :: S', σ) else none
  | _ => none)
 | _ => none
def qaldJ (pc : Nat) (L : QLoc) (S : List Value) (σ : QHeap) : Option QSt :=
 match S with
 | .int j :: .ref a :: S' => (match hget σ a with
  | some (.inr (.inr x)) => (aget x j).bind fun v => some (pc, L, .long v :: S', σ)
  | _ => none)
 | _ => none
def qnar : FieldType → Int32 → Int32
 | .boolean, x => x &&& 1
 | .byte, x => x.toInt8.toInt32
 | _, x => x
def qast (pc : Nat) (L : QLoc) (S : List Value) (σ : QHeap) (ok : FieldType → Bool) : Option QSt :=
 match S with
 | .int v :: .int j :: .ref a :: S' => (match hget σ a with
  | some (.inr (.inl x)) => bif ok x.1 && Nat.ble k0 a then (aset x.2 j (qnar x.1 v)).bind fun y => some (pc, L, S', σ.set a (.inr (.inl (x.1, y)))) else none
  | _ => none)
 | _ => none
def qastJ (pc : Nat) (L : QLoc) (S : List Value) (σ : QHeap) : Option QSt :=
 match S with
 | .long v :: .int j :: .ref a :: S' => (match hget σ a with
  | some (.inr (.inr x)) => bif Nat.ble k0 a then (aset x j v).bind fun y => some (pc, L, S', σ.set a (.inr (.inr y))) else none
  | _ => none)
 | _ => none
def tyI : FieldType → Bool | .int => true | _ => false
def tyB : FieldType → Bool | .boolean => true | .byte => true | _ => false
def qfit : FieldType → Value → Option Value
 | .int, .int x => some (.int x)
 | .boolean, .int x => (qboo x).bind fun y => some (.int y)
 | .long, .long x => some (.long x)
 | .array t, .ref a => some (.ref a)
 | _, _ => none
def qget (pc : Nat) (L : QLoc) (S : List Value) (σ : QHeap) (k : Nat) : Option QSt :=
 match S with
 | .ref a :: S' => (match hget σ a with
  | some (.inl vs) => (match vget vs k with | some v => some (pc, L, v :: S', σ) | none => none)
  | _ => none)
 | _ => none
def qput (pc : Nat) (L : QLoc) (S : List Value) (σ : QHeap) (k : Nat) : Option QSt :=
 match S with
 | v :: .ref a :: S' => (match hget σ a with
  | some (.inl vs) => bif Nat.ble k0 a && Nat.ble (k + 1) vs.length then (qfit (fTy k) v).bind fun w => some (pc, L, S', σ.set a (.inl (vs.set k w))) else none
  | _ => none)
 | _ => none
def qnewA (pc : Nat) (L : QLoc) (S : List Value) (σ : QHeap) (t : ArrayType) : Option QSt :=
 match S with
 | .int n :: S' => (match t with
  | .int => (qnew n).bind fun k => some (pc, L, .ref σ.length :: S', σ ++ [.inr (.inl (.int, List.replicate k 0))])
  | .boolean => (qnew n).bind fun k => some (pc, L, .ref σ.length :: S', σ ++ [.inr (.inl (.boolean, List.replicate k 0))])
  | .byte => (qnew n).bind fun k => some (pc, L, .ref σ.length :: S', σ ++ [.inr (.inl (.byte, List.replicate k 0))])
  | .long => (qnew n).bind fun k => some (pc, L, .ref σ.length :: S', σ ++ [.inr (.inr (List.replicate k 0))])
  | _ => none)
 | _ => none
def qlen (pc : Nat) (L : QLoc) (S : List Value) (σ : QHeap) : Option QSt :=
 match S with
 | .ref a :: S' => (match hget σ a with
  | some (.inr (.inl x)) => some (pc, L, .int x.2.length.toInt32 :: S', σ)
  | some (.inr (.inr x)) => some (pc, L, .int x.length.toInt32 :: S', σ)
  | _ => none)
 | _ => none
def qdup (pc : Nat) (L : QLoc) (S : List Value) (σ : QHeap) : Option QSt :=
 match S with
 | .int x :: S' => some (pc, L, .int x :: .int x :: S', σ)
 | .ref x :: S' => some (pc, L, .ref x :: .ref x :: S', σ)
 | _ => none
def qdup2 (pc : Nat) (L : QLoc) (S : List Value) (σ : QHeap) : Option QSt :=
 match S with
 | .int x :: .ref y :: S' => some (pc, L, .int x :: .ref y :: .int x :: .ref y :: S', σ)
 | .int x :: .int y :: S' => some (pc, L, .int x :: .int y :: .int x :: .int y :: S', σ)
 | .long x :: S' => some (pc, L, .long x :: .long x :: S', σ)
 | _ => none
def qpop (pc : Nat) (L : QLoc) (S : List Value) (σ : QHeap) : Option QSt :=
 match S with
 | .int _ :: S' => some (pc, L, S', σ)
 | .ref _ :: S' => some (pc, L, S', σ)
 | _ => none
def qif (pc : Nat) (L : QLoc) (S : List Value) (σ : QHeap) (cd : ClassFile.Cond) (tgt : Nat) : Option QSt :=
 match S with
 | .int x :: S' => some (bif ifCond.holds cd x then tgt else pc, L, S', σ)
 | _ => none
def qicmp (pc : Nat) (L : QLoc) (S : List Value) (σ : QHeap) (cd : ClassFile.Cond) (tgt : Nat) : Option QSt :=
 match S with
 | .int y :: .int x :: S' => some (bif if_icmp.holds cd x y then tgt else pc, L, S', σ)
 | _ => none
def qinc (pc : Nat) (L : QLoc) (S : List Value) (σ : QHeap) (k : Nat) (i : Int) : Option QSt :=
 match lget L k with
 | some (.int x) => (match lput L k (.int (x + Int32.ofInt i)) with | some L' => some (pc, L', S, σ) | none => none)
 | _ => none
def qldc (pc : Nat) (L : QLoc) (S : List Value) (σ : QHeap) (k : Nat) : Option QSt :=
 match vget cK k with
 | some v => some (pc, L, v :: S, σ)
 | none => none
def qexec (pc : Nat) (L : QLoc) (S : List Value) (σ : QHeap) (aux : Nat) : Instr → Option QSt
 | .aload_n k => qload (pc + 1) L S σ k.val isR
 | .aload k => qload (pc + 2) L S σ k isR
 | .iload_n k => qload (pc + 1) L S σ k.val isI
 | .iload k => qload (pc + 2) L S σ k isI
 | .lload_n k => qload (pc + 1) L S σ k.val isJ
 | .lload k => qload (pc + 2) L S σ k isJ
 | .iconst i => some (pc + 1, L, .int (Int32.ofInt i) :: S, σ)
 | .bipush i => some (pc + 2, L, .int (Int8.ofInt i).toInt32 :: S, σ)
 | .sipush i => some (pc + 3, L, .int (Int16.ofInt i).toInt32 :: S, σ)
 | .lconst k => some (pc + 1, L, .long (Int64.ofNat k.val) :: S, σ)
 | .ldc _ => qldc (pc + 2) L S σ aux
 | .ldc2_w _ => qldc (pc + 3) L S σ aux
 | .istore_n k => qstore (pc + 1) L S σ k.val isI
 | .istore k => qstore (pc + 2) L S σ k isI
 | .lstore_n k => qstore (pc + 1) L S σ k.val isJ
 | .lstore k => qstore (pc + 2) L S σ k isJ
 | .astore_n k => qstore (pc + 1) L S σ k.val isR
 | .astore k => qstore (pc + 2) L S σ k isR
 | .iinc k i => qinc (pc + 3) L S σ k i
 | .iadd => qbin (pc + 1) L S σ fun x y => x + y
 | .isub => qbin (pc + 1) L S σ fun x y => x - y
 | .imul => qbin (pc + 1) L S σ fun x y => x * y
 | .iand => qbin (pc + 1) L S σ fun x y => x &&& y
 | .ior => qbin (pc + 1) L S σ fun x y => x ||| y
 | .ixor => qbin (pc + 1) L S σ fun x y => x ^^^ y
 | .ishl => qbin (pc + 1) L S σ fun x y => x <<< (y &&& 31)
 | .ishr => qbin (pc + 1) L S σ fun x y => x >>> (y &&& 31)
 | .iushr => qbin (pc + 1) L S σ fun x y => XT.ushr x y
 | .idiv => qbino (pc + 1) L S σ qdiv
 | .irem => qbino (pc + 1) L S σ qrem
 | .ineg => quni (pc + 1) L S σ fun x => .int (-x)
 | .i2l => quni (pc + 1) L S σ fun x => .long x.toInt64
 | .i2b => quni (pc + 1) L S σ fun x => .int x.toInt8.toInt32
 | .l2i => quniJ (pc + 1) L S σ fun x => .int x.toInt32
 | .lneg => quniJ (pc + 1) L S σ fun x => .long (-x)
 | .ladd => qbinJ (pc + 1) L S σ fun x y => x + y
 | .lsub => qbinJ (pc + 1) L S σ fun x y => x - y
 | .lmul => qbinJ (pc + 1) L S σ fun x y => x * y
 | .land => qbinJ (pc + 1) L S σ fun x y => x &&& y
 | .lor => qbinJ (pc + 1) L S σ fun x y => x ||| y
 | .lxor => qbinJ (pc + 1) L S σ fun x y => x ^^^ y
 | .lshl => qshJ (pc + 1) L S σ fun x y => x <<< (y.toInt64 &&& 63)
 | .lshr => qshJ (pc + 1) L S σ fun x y => x >>> (y.toInt64 &&& 63)
 | .lushr => qshJ (pc + 1) L S σ fun x y => XT.ushrL x y
 | .lcmp => (match S with
  | .long y :: .long x :: S' => some (pc + 1, L, .int (XT.cmpL x y) :: S', σ)
  | _ => none)
 | .goto _ => some (aux, L, S, σ)
 | .ifCond cd _ => qif (pc + 3) L S σ cd aux
 | .if_icmp cd _ => qicmp (pc + 3) L S σ cd aux
 | .dup => qdup (pc + 1) L S σ
 | .dup2 => qdup2 (pc + 1) L S σ
 | .pop => qpop (pc + 1) L S σ
 | .getfield _ => qget (pc + 3) L S σ aux
 | .putfield _ => qput (pc + 3) L S σ aux
 | .iaload => qald (pc + 1) L S σ tyI
 | .baload => qald (pc + 1) L S σ tyB
 | .laload => qaldJ (pc + 1) L S σ
 | .iastore => qast (pc + 1) L S σ tyI
 | .bastore => qast (pc + 1) L S σ tyB
 | .lastore => qastJ (pc + 1) L S σ
 | .arraylength => qlen (pc + 1) L S σ
 | .newarray t => qnewA (pc + 2) L S σ t
 | .new _ => some (pc + 3, L, .ref σ.length :: S, σ ++ [.inl cDef])
 | _ => none
def qstep (m : Nat) (st : QSt) : Option QSt :=
 match pCode m st.1 with
 | some (i, aux) => qexec st.1 st.2.1 st.2.2.1 st.2.2.2 aux i
 | none => none
def qsteps (m : Nat) : Nat → QSt → Option QSt
 | 0, st => some st
 | n + 1, st => match qstep m st with | some st' => qsteps m n st' | none => none
def qentry (args : List Value) (mx : Nat) : QLoc := (args.flatMap fun v => match v with | .long x => [some (.long x), none] | .double x => [some (.double x), none] | v => [some v]) ++ List.replicate (mx - (args.map fun v => v.category).sum) none
def ilen : Instr → Nat
 | .aload _ | .iload _ | .lload _ | .istore _ | .lstore _ | .astore _ | .bipush _ | .ldc _ | .newarray _ => 2
 | .sipush _ | .ldc2_w _ | .iinc _ _ | .goto _ | .ifCond _ _ | .if_icmp _ _ | .getfield _ | .putfield _ | .new _ | .invokevirtual _ | .invokespecial _ | .invokestatic _ => 3
 | _ => 1
def qtgt (pc : Nat) (o : Int) (aux : Nat) : Bool := decide (0 ≤ (pc : Int) + o) && decide (((pc : Int) + o).toNat = aux)
def qlk (m pc : Nat) (i : Instr) (aux : Nat) : Bool :=
 match i with
 | .goto o => qtgt pc o aux
 | .ifCond _ o => qtgt pc o aux
 | .if_icmp _ o => qtgt pc o aux
 | .getfield idx => lkF.contains (pK m, idx, aux)
 | .putfield idx => lkF.contains (pK m, idx, aux) && (!fFin aux || (pK m == 1 && pNm m == "<init>"))
 | .new idx => lkN.contains (pK m, idx)
 | .newarray t => aTys.contains (newarray.typeOf t)
 | .ldc idx => lkC.contains (pK m, idx, aux)
 | .ldc2_w idx => lkD.contains (pK m, idx, aux)
 | _ => true
def qchk (m pc : Nat) (i : Instr) (aux : Nat) : Bool := decide (decode (pBytes m) pc = .ok (i, ilen i)) && qlk m pc i aux
def QCellOk (Z : State) (ad : Nat → Addr) (h : Heap) (a : Addr) : QCell → Prop
 | .inl vs => Exa Z h a cName ∧ vs.length = nF ∧ ∀ (k : Nat) (v : Value), k < nF → vget vs k = some v → Fld Z h a cName (fNm k) (fDs k) (qv ad v)
 | .inr (.inl x) => ∃ c : Cell, Arr Z h a c x.1 ∧ c.slots = (x.2.map Value.int).toArray
 | .inr (.inr x) => ∃ c : Cell, Arr Z h a c .long ∧ c.slots = (x.map Value.long).toArray
def QAd (n0 : Nat) (ad : Nat → Addr) : Prop := (∀ k, k0 ≤ k → ad k = n0 + (k - k0)) ∧ ∀ i j, ad i = ad j → i = j
def QRep (Z : State) (n0 : Nat) (ad : Nat → Addr) (h : Heap) (σ : QHeap) : Prop := k0 ≤ σ.length ∧ h.size = n0 + (σ.length - k0) ∧ ∀ k c, hget σ k = some c → QCellOk Z ad h (ad k) c
def QLocOk (ad : Nat → Addr) (L : QLoc) (C : Array Slot) : Prop :=
 L.length = C.size ∧ (∀ k v, lget L k = some v → C[k]? = some (.val (qv ad v))) ∧ (∀ k w, C[k]? = some (.val w) → w.category = 2 → C[k + 1]? = some .second) ∧ ∀ k, C[k]? = some .second → ∃ j w, k = j + 1 ∧ C[j]? = some (.val w) ∧ w.category = 2
def QW (Z : State) (a0 : Array Value) : Prop :=
 (∀ t ∈ lkF, (Cond.fieldLink (kName t.1) t.2.1 cName (fNm t.2.2) (fDs t.2.2)).before a0 Z = true) ∧
 (∀ t ∈ lkN, (Cond.classLink (kName t.1) t.2 cName).before a0 Z = true) ∧
 (∀ t ∈ lkC, ∃ v, vget cK t.2.2 = some (.int v) ∧ (Cond.constant (kName t.1) t.2.1 v).before a0 Z = true) ∧
 (∀ t ∈ lkD, ∃ v, vget cK t.2.2 = some (.long v) ∧ (Cond.constantLong (kName t.1) t.2.1 v).before a0 Z = true) ∧
 (∀ t ∈ lkV, (Cond.methodLink (kName t.1) t.2.1 (pName t.2.2)).before a0 Z = true) ∧
 (∀ t ∈ lkO, (Cond.methodLink (kName t.1) t.2 Lib.objectInit).before a0 Z = true) ∧
 (∀ m ∈ mV, (Cond.declares (pName m)).before a0 Z = true ∧ (Cond.selects cName (pName m) (pName m)).before a0 Z = true ∧ (Cond.instanceMethod (pName m)).before a0 Z = true) ∧
 (∀ m ∈ mP, (Cond.instanceMethod (pName m)).before a0 Z = true ∧ (Cond.privateMethod (pName m)).before a0 Z = true) ∧
 (∀ m ∈ mS, (Cond.static (pName m)).before a0 Z = true) ∧
 (∀ m ∈ mI, (Cond.instanceMethod (pName m)).before a0 Z = true) ∧
 (∀ m ∈ mA, (Cond.code (pName m) (pBytes m) (pMaxL m) (pRet m)).before a0 Z = true ∧ (Cond.initialized (kName (pK m))).before a0 Z = true) ∧
 (Cond.instanceMethod Lib.objectInit).before a0 Z = true ∧ (Cond.code Lib.objectInit ⟨#[0xb1]⟩ 1 none).before a0 Z = true ∧
 (∀ k, k < nF → bif fFin k then (Cond.laysFinal cName cName (fNm k) (fDs k)).before a0 Z = true else (Cond.lays cName cName (fNm k) (fDs k)).before a0 Z = true) ∧
 (Cond.instantiable cName cN).before a0 Z = true ∧ (Cond.initialized cName).before a0 Z = true ∧
 ∀ ty ∈ aTys, (Cond.arrayClass ty).before a0 Z = true
section Words
variable {Z : State} {a0 : Array Value}
theorem qw_fl (W : QW Z a0) : ∀ t ∈ lkF, (Cond.fieldLink (kName t.1) t.2.1 cName (fNm t.2.2) (fDs t.2.2)).before a0 Z = true := W.1
theorem qw_nw (W : QW Z a0) : ∀ t ∈ lkN, (Cond.classLink (kName t.1) t.2 cName).before a0 Z = true := W.2.1
theorem qw_cI (W : QW Z a0) : ∀ t ∈ lkC, ∃ v, vget cK t.2.2 = some (.int v) ∧ (Cond.constant (kName t.1) t.2.1 v).before a0 Z = true := W.2.2.1
theorem qw_cJ (W : QW Z a0) : ∀ t ∈ lkD, ∃ v, vget cK t.2.2 = some (.long v) ∧ (Cond.constantLong (kName t.1) t.2.1 v).before a0 Z = true := W.2.2.2.1
theorem qw_ml (W : QW Z a0) : ∀ t ∈ lkV, (Cond.methodLink (kName t.1) t.2.1 (pName t.2.2)).before a0 Z = true := W.2.2.2.2.1
theorem qw_mo (W : QW Z a0) : ∀ t ∈ lkO, (Cond.methodLink (kName t.1) t.2 Lib.objectInit).before a0 Z = true := W.2.2.2.2.2.1
theorem qw_vi (W : QW Z a0) : ∀ m ∈ mV, (Cond.declares (pName m)).before a0 Z = true ∧ (Cond.selects cName (pName m) (pName m)).before a0 Z = true ∧ (Cond.instanceMethod (pName m)).before a0 Z = true := W.2.2.2.2.2.2.1
theorem qw_pr (W : QW Z a0) : ∀ m ∈ mP, (Cond.instanceMethod (pName m)).before a0 Z = true ∧ (Cond.privateMethod (pName m)).before a0 Z = true := W.2.2.2.2.2.2.2.1
theorem qw_st (W : QW Z a0) : ∀ m ∈ mS, (Cond.static (pName m)).before a0 Z = true := W.2.2.2.2.2.2.2.2.1
theorem qw_ini (W : QW Z a0) : ∀ m ∈ mI, (Cond.instanceMethod (pName m)).before a0 Z = true := W.2.2.2.2.2.2.2.2.2.1
theorem qw_cod (W : QW Z a0) : ∀ m ∈ mA, (Cond.code (pName m) (pBytes m) (pMaxL m) (pRet m)).before a0 Z = true ∧ (Cond.initialized (kName (pK m))).before a0 Z = true := W.2.2.2.2.2.2.2.2.2.2.1
theorem qw_oi (W : QW Z a0) : (Cond.instanceMethod Lib.objectInit).before a0 Z = true := W.2.2.2.2.2.2.2.2.2.2.2.1
theorem qw_oc (W : QW Z a0) : (Cond.code Lib.objectInit ⟨#[0xb1]⟩ 1 none).before a0 Z = true := W.2.2.2.2.2.2.2.2.2.2.2.2.1
theorem qw_lay (W : QW Z a0) : ∀ k, k < nF → bif fFin k then (Cond.laysFinal cName cName (fNm k) (fDs k)).before a0 Z = true else (Cond.lays cName cName (fNm k) (fDs k)).before a0 Z = true := W.2.2.2.2.2.2.2.2.2.2.2.2.2.1
theorem qw_inst (W : QW Z a0) : (Cond.instantiable cName cN).before a0 Z = true := W.2.2.2.2.2.2.2.2.2.2.2.2.2.2.1
theorem qw_init (W : QW Z a0) : (Cond.initialized cName).before a0 Z = true := W.2.2.2.2.2.2.2.2.2.2.2.2.2.2.2.1
theorem qw_arr (W : QW Z a0) : ∀ ty ∈ aTys, (Cond.arrayClass ty).before a0 Z = true := W.2.2.2.2.2.2.2.2.2.2.2.2.2.2.2.2
end Words
theorem hget_eq : ∀ (σ : QHeap) k, hget σ k = σ[k]?
 | [], _ => by simp [hget]
 | _ :: _, 0 => by simp [hget]
 | _ :: t, k + 1 => by simp [hget, hget_eq t k]
theorem vget_eq : ∀ (σ : List Value) k, vget σ k = σ[k]?
 | [], _ => by simp [vget]
 | _ :: _, 0 => by simp [vget]
 | _ :: t, k + 1 => by simp [vget, vget_eq t k]
theorem lget_eq : ∀ (L : QLoc) k, lget L k = (L[k]?).getD none
 | [], _ => by simp [lget]
 | _ :: _, 0 => by simp [lget]
 | _ :: t, k + 1 => by simp [lget, lget_eq t k]
theorem lget_lt {L : QLoc} {k : Nat} {v : Value} (h : lget L k = some v) : k < L.length := by
 rw [lget_eq] at h
 rcases Nat.lt_or_ge k L.length with q | q
 ·exact q
 ·simp [List.getElem?_eq_none q] at h
theorem lget_set {L : QLoc} {k j : Nat} {o : Option Value} (hk : k < L.length) : lget (L.set k o) j = if j = k then o else lget L j := by
 simp only [lget_eq, List.getElem?_set]
 by_cases e : k = j
 ·subst e; simp [hk]
 ·simp [e, Ne.symm e]
theorem qhs_app (σ τ : QHeap) : qhs (σ ++ τ) = qhs σ + qhs τ := by
 induction σ with
 | nil => simp [qhs]
 | cons c t ih => simp [qhs, ih, Nat.add_assoc]
theorem qhs_set {σ : QHeap} {k : Nat} {c d : QCell} (h : hget σ k = some c) (hs : qsz d = qsz c) : qhs (σ.set k d) = qhs σ := by
 induction σ generalizing k with
 | nil => simp [hget] at h
 | cons x t ih =>
  cases k with
  | zero => simp only [hget, Option.some.injEq] at h; subst h; simp [qhs, hs]
  | succ k => simp only [hget] at h; simp [qhs, ih h]
theorem hget_set {σ : QHeap} {k j : Nat} {c d : QCell} (h : hget σ k = some c) : hget (σ.set k d) j = if j = k then some d else hget σ j := by
 rw [hget_eq] at h
 have hk := (List.getElem?_eq_some_iff.mp h).1
 simp only [hget_eq, List.getElem?_set]
 by_cases e : k = j
 ·subst e; simp [hk]
 ·simp [e, Ne.symm e]
theorem lkill_len (L : QLoc) (k : Nat) : (lkill L k).length = L.length := by
 cases k with
 | zero => rfl
 | succ k => simp only [lkill]; split <;> simp
theorem lget_kill {L : QLoc} {k j : Nat} {v : Value} (h : lget (lkill L k) j = some v) : lget L j = some v ∧ (k = j + 1 → v.category ≠ 2) := by
 cases k with
 | zero => exact ⟨h, fun e => by omega⟩
 | succ k =>
  simp only [lkill] at h
  split at h
  ·rename_i x q
   rw [lget_set (lget_lt q)] at h
   split at h
   ·cases h
   ·rename_i ne; exact ⟨h, fun e => absurd (by omega) ne⟩
  ·rename_i x q
   rw [lget_set (lget_lt q)] at h
   split at h
   ·cases h
   ·rename_i ne; exact ⟨h, fun e => absurd (by omega) ne⟩
  ·rename_i q1 q2
   refine ⟨h, fun e hc => ?_⟩
   obtain rfl : j = k := by omega
   cases v with
   | long x => exact q1 _ h
   | double x => exact q2 _ h
   | _ => simp [Value.category] at hc
theorem qv_cat (ad : Nat → Addr) (v : Value) : (qv ad v).category = v.category := by cases v <;> rfl
def kA (C : Array Slot) (k j : Nat) : Prop := k = j + 1 ∧ C[k]? = some .second
def kB (C : Array Slot) (k j : Nat) : Prop := j = k + 1 ∧ ∃ u, C[k]? = some (.val u) ∧ u.category = 2
def kD (C : Array Slot) (k j : Nat) : Prop := j = k + 2 ∧ ∃ u, C[k + 1]? = some (.val u) ∧ u.category = 2
theorem set1_at {C D : Array Slot} {k : Nat} {w : Value} (hk : k < C.size) (hw : w.category = 1) (h : storeLocals C k w = some D) :
  D.size = C.size ∧ D[k]? = some (.val w) ∧ ∀ j, j ≠ k → (D[j]? = C[j]? ∧ ¬ kA C k j ∧ ¬ kB C k j) ∨ D[j]? = some .unset ∧ (kA C k j ∨ kB C k j) := by
 have hck : C[k]? = some C[k] := Array.getElem?_eq_getElem hk
 unfold storeLocals at h
 simp only [hck, Option.bind_eq_bind, Option.bind_some] at h
 have self : ∀ {E : Array Slot}, k < E.size → storeSelf E k w = some D → D = E.setIfInBounds k (.val w) := by
  intro E hE q
  simp only [storeSelf, setAt, hE, if_true, Option.bind_eq_bind, Option.bind_some, hw] at q
  simpa using q.symm
 split at h
 ·rename_i q
  have hk1 : k - 1 < C.size := by omega
  simp only [setAt, hk1, if_true, Option.bind_some] at h
  have e := self (by simpa using hk) h
  subst e
  refine ⟨by simp, by simp [hk], fun j hj => ?_⟩
  by_cases ej : k = j + 1
  ·refine Or.inr ⟨?_, Or.inl ⟨ej, by rw [hck, q]⟩⟩
   rw [Array.getElem?_setIfInBounds_ne (Ne.symm hj), show j = k - 1 by omega]
   simp [hk1]
  ·refine Or.inl ⟨?_, fun x => ej x.1, fun x => ?_⟩
   ·rw [Array.getElem?_setIfInBounds_ne (Ne.symm hj), Array.getElem?_setIfInBounds_ne (by omega)]
   ·obtain ⟨-, u, x1, -⟩ := x
    rw [hck, q] at x1; cases x1
 ·rename_i u q
  split at h
  ·rename_i hu
   by_cases hk1 : k + 1 < C.size
   ·simp only [setAt, hk1, if_true, Option.bind_some] at h
    have e := self (by simpa using hk) h
    subst e
    refine ⟨by simp, by simp [hk], fun j hj => ?_⟩
    by_cases ej : j = k + 1
    ·refine Or.inr ⟨?_, Or.inr ⟨ej, u, by rw [hck, q], hu⟩⟩
     rw [Array.getElem?_setIfInBounds_ne (Ne.symm hj), ej]
     simp [hk1]
    ·refine Or.inl ⟨?_, fun x => ?_, fun x => ej x.1⟩
     ·rw [Array.getElem?_setIfInBounds_ne (Ne.symm hj), Array.getElem?_setIfInBounds_ne (by omega)]
     ·obtain ⟨-, x1⟩ := x
      rw [hck, q] at x1; cases x1
   ·simp [setAt, hk1] at h
  ·rename_i hu
   have e := self hk h
   subst e
   refine ⟨by simp, by simp [hk], fun j hj => Or.inl ⟨Array.getElem?_setIfInBounds_ne (Ne.symm hj), fun x => ?_, fun x => ?_⟩⟩
   ·obtain ⟨-, x1⟩ := x
    rw [hck, q] at x1; cases x1
   ·obtain ⟨-, u', x1, x2⟩ := x
    rw [hck, q] at x1; cases x1; exact hu x2
 ·rename_i q
  have e := self hk h
  subst e
  refine ⟨by simp, by simp [hk], fun j hj => Or.inl ⟨Array.getElem?_setIfInBounds_ne (Ne.symm hj), fun x => ?_, fun x => ?_⟩⟩
  ·obtain ⟨-, x1⟩ := x
   rw [hck, q] at x1; cases x1
  ·obtain ⟨-, u', x1, x2⟩ := x
   rw [hck, q] at x1; cases x1
theorem set2_at {C D : Array Slot} {k : Nat} {w : Value} (hk : k + 1 < C.size) (hw : w.category = 2) (wf : ∀ k w, C[k]? = some (.val w) → w.category = 2 → C[k + 1]? = some .second) (h : storeLocals C k w = some D) :
  D.size = C.size ∧ D[k]? = some (.val w) ∧ D[k + 1]? = some .second ∧ ∀ j, j ≠ k → j ≠ k + 1 → (D[j]? = C[j]? ∧ ¬ kA C k j ∧ ¬ kD C k j) ∨ D[j]? = some .unset ∧ (kA C k j ∨ kD C k j) := by
 have hk0 : k < C.size := by omega
 have hck : C[k]? = some C[k] := Array.getElem?_eq_getElem hk0
 unfold storeLocals at h
 simp only [hck, Option.bind_eq_bind, Option.bind_some] at h
 have self : ∀ {E : Array Slot}, E.size = C.size → storeSelf E k w = some D → D.size = C.size ∧ D[k]? = some (.val w) ∧ D[k + 1]? = some .second ∧ ∀ j, j ≠ k → j ≠ k + 1 → (D[j]? = E[j]? ∧ ¬ kD E k j) ∨ D[j]? = some .unset ∧ kD E k j := by
  intro E hs q
  have h1 : k < E.size := by omega
  have h2 : k + 1 < E.size := by omega
  have h3 : (E.setIfInBounds k (.val w))[k + 1]? = some E[k + 1] := by rw [Array.getElem?_setIfInBounds_ne (by omega)]; exact Array.getElem?_eq_getElem h2
  simp only [storeSelf, setAt, h1, if_true, Option.bind_eq_bind, Option.bind_some, hw, h3] at q
  have plain : (¬ ∃ u, E[k + 1]? = some (.val u) ∧ u.category = 2) → some ((E.setIfInBounds k (.val w)).setIfInBounds (k + 1) .second) = some D → D.size = C.size ∧ D[k]? = some (.val w) ∧ D[k + 1]? = some .second ∧ ∀ j, j ≠ k → j ≠ k + 1 → (D[j]? = E[j]? ∧ ¬ kD E k j) ∨ D[j]? = some .unset ∧ kD E k j := by
   intro no q
   cases q
   refine ⟨by simp [hs], ?_, ?_, fun j hj hj1 => Or.inl ⟨?_, fun x => no x.2⟩⟩
   ·rw [Array.getElem?_setIfInBounds_ne (by omega)]; simp [h1]
   ·simp [h2]
   ·rw [Array.getElem?_setIfInBounds_ne (by omega), Array.getElem?_setIfInBounds_ne (by omega)]
  split at q
  ·rename_i u hu
   split at q
   ·rename_i hu2
    by_cases h5 : k + 2 < E.size
    ·simp [h5, h2] at q
     cases q
     refine ⟨by simp [hs], ?_, ?_, fun j hj hj1 => ?_⟩
     ·rw [Array.getElem?_setIfInBounds_ne (by omega), Array.getElem?_setIfInBounds_ne (by omega)]; simp [h1]
     ·simp [h2]
     ·by_cases e : j = k + 2
      ·refine Or.inr ⟨?_, e, u, by rw [Array.getElem?_eq_getElem h2, hu], hu2⟩
       rw [Array.getElem?_setIfInBounds_ne (by omega), e]
       simp [h5]
      ·refine Or.inl ⟨?_, fun x => e x.1⟩
       rw [Array.getElem?_setIfInBounds_ne (by omega), Array.getElem?_setIfInBounds_ne (by omega), Array.getElem?_setIfInBounds_ne (by omega)]
    ·simp [h5] at q
   ·rename_i hu2
    refine plain ?_ (by simpa [h2] using q)
    rintro ⟨u', x1, x2⟩
    rw [Array.getElem?_eq_getElem h2, hu] at x1; cases x1; exact hu2 x2
  ·rename_i hu
   refine plain ?_ (by simpa [h2] using q)
   rintro ⟨u', x1, x2⟩
   rw [Array.getElem?_eq_getElem h2] at x1; exact hu _ (Option.some.inj x1)
 split at h
 ·rename_i q
  have hk1 : k - 1 < C.size := by omega
  simp only [setAt, hk1, if_true, Option.bind_some] at h
  obtain ⟨e1, e2, e3, e4⟩ := self (by simp) h
  refine ⟨e1, e2, e3, fun j hj hj1 => ?_⟩
  have h6 : ∀ i, i + 1 ≠ k ∨ k = 0 → i ≠ k ∨ k ≠ 0 → (C.setIfInBounds (k - 1) Slot.unset)[i]? = C[i]? := fun i hi hi2 => Array.getElem?_setIfInBounds_ne (by omega)
  have h7 : (C.setIfInBounds (k - 1) Slot.unset)[k + 1]? = C[k + 1]? := Array.getElem?_setIfInBounds_ne (by omega)
  rcases e4 j hj hj1 with ⟨r, r'⟩ | ⟨r, r1, u, r2, r3⟩
  ·by_cases ej : k = j + 1
   ·refine Or.inr ⟨?_, Or.inl ⟨ej, by rw [hck, q]⟩⟩
    rw [r, show j = k - 1 by omega]; simp [hk1]
   ·refine Or.inl ⟨by rw [r]; exact h6 _ (by omega) (by omega), fun x => ej x.1, fun x => r' ⟨x.1, ?_⟩⟩
    rw [h7]; exact x.2
  ·exact Or.inr ⟨r, Or.inr ⟨r1, u, by rw [← h7]; exact r2, r3⟩⟩
 ·rename_i u q
  split at h
  ·rename_i hu
   simp only [setAt, hk, if_true, Option.bind_some] at h
   obtain ⟨e1, e2, e3, e4⟩ := self (by simp) h
   have hsec := wf k u (by rw [hck, q]) hu
   refine ⟨e1, e2, e3, fun j hj hj1 => ?_⟩
   rcases e4 j hj hj1 with ⟨r, r'⟩ | ⟨r, r1, u', r2, r3⟩
   ·refine Or.inl ⟨by rw [r]; exact Array.getElem?_setIfInBounds_ne (by omega), fun x => ?_, fun x => ?_⟩
    ·obtain ⟨-, x1⟩ := x
     rw [hck, q] at x1; cases x1
    ·obtain ⟨-, u', x1, x2⟩ := x
     rw [hsec] at x1; cases x1
   ·simp [hk] at r2
  ·rename_i hu
   obtain ⟨e1, e2, e3, e4⟩ := self rfl h
   refine ⟨e1, e2, e3, fun j hj hj1 => ?_⟩
   rcases e4 j hj hj1 with ⟨r, r'⟩ | ⟨r, r'⟩
   ·refine Or.inl ⟨r, fun x => ?_, r'⟩
    obtain ⟨-, x1⟩ := x
    rw [hck, q] at x1; cases x1
   ·exact Or.inr ⟨r, Or.inr r'⟩
 ·rename_i q
  obtain ⟨e1, e2, e3, e4⟩ := self rfl h
  refine ⟨e1, e2, e3, fun j hj hj1 => ?_⟩
  rcases e4 j hj hj1 with ⟨r, r'⟩ | ⟨r, r'⟩
  ·refine Or.inl ⟨r, fun x => ?_, r'⟩
   obtain ⟨-, x1⟩ := x
   rw [hck, q] at x1; cases x1
  ·exact Or.inr ⟨r, Or.inr r'⟩
theorem store_some {C : Array Slot} {k : Nat} {w : Value} (hk : k + (w.category - 1) < C.size) (hc : w.category = 1 ∨ w.category = 2) (wf : ∀ k w, C[k]? = some (.val w) → w.category = 2 → C[k + 1]? = some .second) :
  ∃ D, storeLocals C k w = some D := by
 have hk0 : k < C.size := by omega
 have hck : C[k]? = some C[k] := Array.getElem?_eq_getElem hk0
 have self : ∀ {E : Array Slot}, E.size = C.size → (∀ u, E[k + 1]? = some (.val u) → u.category = 2 → k + 2 < E.size) → ∃ D, storeSelf E k w = some D := by
  intro E hs hn
  have h1 : k < E.size := by omega
  simp only [storeSelf, setAt, h1, if_true, Option.bind_eq_bind, Option.bind_some]
  rcases hc with hc | hc
  ·exact ⟨E.setIfInBounds k (.val w), by simp [hc]⟩
  ·have h2 : k + 1 < E.size := by omega
   have h3 : (E.setIfInBounds k (.val w))[k + 1]? = some E[k + 1] := by rw [Array.getElem?_setIfInBounds_ne (by omega)]; exact Array.getElem?_eq_getElem h2
   simp only [hc, if_true, h3, Option.bind_some]
   split
   ·rename_i u hu
    split
    ·rename_i hu2
     have h5 := hn u (by rw [Array.getElem?_eq_getElem h2, hu]) hu2
     exact ⟨_, by simp [h5, h2]; rfl⟩
    ·exact ⟨_, by simp [h2]; rfl⟩
   ·exact ⟨_, by simp [h2]; rfl⟩
 have next : ∀ u, C[k + 1]? = some (.val u) → u.category = 2 → k + 2 < C.size := fun u h1 h2 => (Array.getElem?_eq_some_iff.mp (wf _ _ h1 h2)).1
 unfold storeLocals
 simp only [hck, Option.bind_eq_bind, Option.bind_some]
 split
 ·have hk1 : k - 1 < C.size := by omega
  simp only [setAt, hk1, if_true, Option.bind_some]
  refine self (by simp) fun u h1 h2 => ?_
  rw [Array.getElem?_setIfInBounds_ne (by omega)] at h1
  simpa using next u h1 h2
 ·rename_i u q
  split
  ·rename_i hu
   have h5 := (Array.getElem?_eq_some_iff.mp (wf k u (by rw [hck, q]) hu)).1
   simp only [setAt, h5, if_true, Option.bind_some]
   refine self (by simp) fun u h1 h2 => ?_
   simp [h5] at h1
  ·exact self rfl next
 ·exact self rfl next
theorem store_ok1 {ad : Nat → Addr} {L : QLoc} {C : Array Slot} {k : Nat} {v : Value} (H : QLocOk ad L C) (hv : v.category = 1) (hk : k < L.length) :
  ∃ D, storeLocals C k (qv ad v) = some D ∧ QLocOk ad ((lkill L k).set k (some v)) D ∧ D.size = C.size := by
 obtain ⟨H1, H2, H3, H4⟩ := H
 have hc : (qv ad v).category = 1 := by rw [qv_cat, hv]
 obtain ⟨D, hD⟩ := store_some (C := C) (k := k) (w := qv ad v) (by rw [hc]; omega) (Or.inl hc) H3
 obtain ⟨d1, d2, d3⟩ := set1_at (by omega) hc hD
 refine ⟨D, hD, ⟨by simp [lkill_len, H1, d1], fun j u hj => ?_, fun j w hj hw => ?_, fun j hj => ?_⟩, d1⟩
 ·rw [lget_set (by rw [lkill_len]; exact hk)] at hj
  split at hj
  ·rename_i e; cases hj; rw [e]; exact d2
  ·rename_i ne
   obtain ⟨g1, g2⟩ := lget_kill hj
   have g3 := H2 j u g1
   rcases d3 j ne with ⟨r, -, -⟩ | ⟨-, ⟨r1, r2⟩ | ⟨r1, w, r2, r3⟩⟩
   ·rw [r]; exact g3
   ·obtain ⟨i, w, z1, z2, z3⟩ := H4 k r2
    obtain rfl : i = j := by omega
    rw [g3] at z2
    cases z2
    rw [qv_cat] at z3
    exact absurd z3 (g2 r1)
   ·have := H3 k w r2 r3
    rw [← r1, g3] at this
    cases this
 ·by_cases e : j = k
  ·subst e; rw [d2] at hj; cases hj; rw [hc] at hw; cases hw
  ·rcases d3 j e with ⟨r, nA, nB⟩ | ⟨r, -⟩
   ·rw [r] at hj
    have g := H3 j w hj hw
    have e2 : j + 1 ≠ k := fun q => nA ⟨q.symm, by rw [← q]; exact g⟩
    rcases d3 (j + 1) e2 with ⟨z, -, -⟩ | ⟨-, ⟨z1, z2⟩ | ⟨z1, -⟩⟩
    ·rw [z]; exact g
    ·obtain ⟨i, u, y1, y2, y3⟩ := H4 k z2
     obtain rfl : i = j + 1 := by omega
     rw [g] at y2; cases y2
    ·omega
   ·rw [r] at hj; cases hj
 ·by_cases e : j = k
  ·subst e; rw [d2] at hj; cases hj
  ·rcases d3 j e with ⟨r, nA, nB⟩ | ⟨r, -⟩
   ·rw [r] at hj
    obtain ⟨i, w, y1, y2, y3⟩ := H4 j hj
    refine ⟨i, w, y1, ?_, y3⟩
    have ei : i ≠ k := fun q => nB ⟨by omega, w, by rw [← q]; exact y2, y3⟩
    rcases d3 i ei with ⟨z, -, -⟩ | ⟨-, ⟨z1, z2⟩ | ⟨z1, u, z2, z3⟩⟩
    ·rw [z]; exact y2
    ·omega
    ·have := H3 k u z2 z3
     rw [← z1, y2] at this; cases this
   ·rw [r] at hj; cases hj
theorem store_ok2 {ad : Nat → Addr} {L : QLoc} {C : Array Slot} {k : Nat} {x : Int64} (H : QLocOk ad L C) (hk : k + 1 < L.length) :
  ∃ D, storeLocals C k (.long x) = some D ∧ QLocOk ad (((lkill L k).set k (some (.long x))).set (k + 1) none) D ∧ D.size = C.size := by
 obtain ⟨H1, H2, H3, H4⟩ := H
 have hc : (Value.long x).category = 2 := rfl
 obtain ⟨D, hD⟩ := store_some (C := C) (k := k) (w := .long x) (by rw [hc]; omega) (Or.inr hc) H3
 obtain ⟨d1, d2, d2', d3⟩ := set2_at (by omega) hc H3 hD
 refine ⟨D, hD, ⟨by simp [lkill_len, H1, d1], fun j u hj => ?_, fun j w hj hw => ?_, fun j hj => ?_⟩, d1⟩
 ·rw [lget_set (by simp [lkill_len]; exact hk)] at hj
  split at hj
  ·cases hj
  ·rename_i ne1
   rw [lget_set (by rw [lkill_len]; omega)] at hj
   split at hj
   ·rename_i e; cases hj; rw [e]; exact d2
   ·rename_i ne
    obtain ⟨g1, g2⟩ := lget_kill hj
    have g3 := H2 j u g1
    rcases d3 j ne ne1 with ⟨r, -, -⟩ | ⟨-, ⟨r1, r2⟩ | ⟨r1, w, r2, r3⟩⟩
    ·rw [r]; exact g3
    ·obtain ⟨i, w, z1, z2, z3⟩ := H4 k r2
     obtain rfl : i = j := by omega
     rw [g3] at z2
     cases z2
     rw [qv_cat] at z3
     exact absurd z3 (g2 r1)
    ·have := H3 (k + 1) w r2 r3
     rw [show k + 1 + 1 = j by omega, g3] at this
     cases this
 ·by_cases e : j = k
  ·rw [e]; exact d2'
  ·by_cases e1 : j = k + 1
   ·rw [e1, d2'] at hj; cases hj
   ·rcases d3 j e e1 with ⟨r, nA, nB⟩ | ⟨r, -⟩
    ·rw [r] at hj
     have g := H3 j w hj hw
     have e2 : j + 1 ≠ k := fun q => nA ⟨q.symm, by rw [← q]; exact g⟩
     rcases d3 (j + 1) e2 (by omega) with ⟨z, -, -⟩ | ⟨-, ⟨z1, z2⟩ | ⟨z1, -⟩⟩
     ·rw [z]; exact g
     ·obtain ⟨i, u, y1, y2, y3⟩ := H4 k z2
      obtain rfl : i = j + 1 := by omega
      rw [g] at y2; cases y2
     ·omega
    ·rw [r] at hj; cases hj
 ·by_cases e : j = k
  ·rw [e, d2] at hj; cases hj
  ·by_cases e1 : j = k + 1
   ·exact ⟨k, _, e1, d2, hc⟩
   ·rcases d3 j e e1 with ⟨r, nA, nB⟩ | ⟨r, -⟩
    ·rw [r] at hj
     obtain ⟨i, w, y1, y2, y3⟩ := H4 j hj
     refine ⟨i, w, y1, ?_, y3⟩
     have ei : i ≠ k := fun q => e1 (by omega)
     have ei1 : i ≠ k + 1 := fun q => nB ⟨by omega, w, by rw [← q]; exact y2, y3⟩
     rcases d3 i ei ei1 with ⟨z, -, -⟩ | ⟨-, ⟨z1, z2⟩ | ⟨z1, u, z2, z3⟩⟩
     ·rw [z]; exact y2
     ·omega
     ·have := H3 (k + 1) u z2 z3
      rw [show k + 1 + 1 = i by omega, y2] at this; cases this
    ·rw [r] at hj; cases hj
theorem store_ok {ad : Nat → Addr} {L L' : QLoc} {C : Array Slot} {k : Nat} {v : Value} (H : QLocOk ad L C) (h : lput L k v = some L') :
  ∃ D, storeLocals C k (qv ad v) = some D ∧ QLocOk ad L' D ∧ D.size = C.size := by
 have one : v.category = 1 → (bif Nat.ble (k + 1) L.length then some ((lkill L k).set k (some v)) else none) = some L' → ∃ D, storeLocals C k (qv ad v) = some D ∧ QLocOk ad L' D ∧ D.size = C.size := by
  intro hv h
  cases hb : Nat.ble (k + 1) L.length with
  | false => rw [hb] at h; cases h
  | true => rw [hb] at h; cases h; exact store_ok1 H hv (Nat.le_of_ble_eq_true hb)
 cases v with
 | long x =>
  simp only [lput] at h
  cases hb : Nat.ble (k + 2) L.length with
  | false => rw [hb] at h; cases h
  | true => rw [hb] at h; cases h; exact store_ok2 H (Nat.le_of_ble_eq_true hb)
 | double x => simp [lput] at h
 | int x => exact one rfl h
 | float x => exact one rfl h
 | null => exact one rfl h
 | ref x => exact one rfl h
 | retAddr x => exact one rfl h
theorem fInj : ∀ i, i < nF → ∀ j, j < nF → fNm i = fNm j → i = j := by decide +kernel
theorem fPrs : ∀ i, i < nF → parseFieldDescriptor (fDs i) = some (fTy i) := by decide +kernel
theorem cDefs : ∀ i, i < nF → vget cDef i = some (defaultValue (fTy i)) := by decide +kernel
theorem cDefL : cDef.length = nF := by decide +kernel
theorem fDef : ∀ i, i < nF → ∀ a, defaultValue (fTy i) ≠ .ref a := by
 intro i _ a
 cases fTy i <;> simp [defaultValue]
theorem kPlain : ∀ k, k < 2 → plainName (kName k) = true := by
 intro k hk
 rcases k with _ | _ | k
 ·first | decide +kernel | (simp [kName, plainName, overriddenIn]; done)
 ·first | decide +kernel | (simp [kName, plainName, overriddenIn]; done)
 ·omega
theorem pKlt : ∀ m, m < pN → pK m < 2 := by decide +kernel
theorem pSig : ∀ m, m < pN → (parseMethodDescriptor (pDs m)).map (fun sg => sg.parameters.length) = some (pNA m) := by decide +kernel
theorem pOwn : ∀ k, k < 2 → kName k ≠ "java/lang/invoke/MethodHandle" ∧ kName k ≠ "java/lang/invoke/VarHandle" := by decide +kernel
theorem mAlt : ∀ m ∈ mA, m < pN := by decide +kernel
theorem mVlt : ∀ m ∈ mV, m ∈ mA ∧ pK m = 1 := by decide +kernel
theorem mPlt : ∀ m ∈ mP, m ∈ mA ∧ pK m = 1 := by decide +kernel
theorem mSlt : ∀ m ∈ mS, m ∈ mA := by decide +kernel
theorem mIlt : ∀ m ∈ mI, m ∈ mA ∧ pK m = 1 ∧ pNm m = "<init>" ∧ pRet m = none := by decide +kernel
theorem kOne : kName 1 = cName := rfl
def pX (m pc : Nat) : Bool := match pCode m pc with | some t => qchk m pc t.1 t.2 | none => true
set_option maxRecDepth 100000 in
set_option maxHeartbeats 4000000 in
theorem pC0_0 : ∀ q, q < 128 → pX 0 (0 + q) = true := by decide +kernel
set_option maxRecDepth 100000 in
set_option maxHeartbeats 4000000 in
theorem pC0_128 : ∀ q, q < 128 → pX 0 (128 + q) = true := by decide +kernel
set_option maxRecDepth 100000 in
set_option maxHeartbeats 4000000 in
theorem pC0_256 : ∀ q, q < 128 → pX 0 (256 + q) = true := by decide +kernel
set_option maxRecDepth 100000 in
set_option maxHeartbeats 4000000 in
theorem pC0_384 : ∀ q, q < 128 → pX 0 (384 + q) = true := by decide +kernel
set_option maxRecDepth 100000 in
set_option maxHeartbeats 4000000 in
theorem pC0_512 : ∀ q, q < 128 → pX 0 (512 + q) = true := by decide +kernel
set_option maxRecDepth 100000 in
set_option maxHeartbeats 4000000 in
theorem pC0_640 : ∀ q, q < 44 → pX 0 (640 + q) = true := by decide +kernel
theorem pCm0 (pc : Nat) (h : pc < pTop 0) : pX 0 pc = true := by
 replace h : pc < 684 := h
 by_cases h0 : pc < 128
 ·have q := pC0_0 (pc - 0) (by omega)
  rwa [show 0 + (pc - 0) = pc from by omega] at q
 by_cases h128 : pc < 256
 ·have q := pC0_128 (pc - 128) (by omega)
  rwa [show 128 + (pc - 128) = pc from by omega] at q
 by_cases h256 : pc < 384
 ·have q := pC0_256 (pc - 256) (by omega)
  rwa [show 256 + (pc - 256) = pc from by omega] at q
 by_cases h384 : pc < 512
 ·have q := pC0_384 (pc - 384) (by omega)
  rwa [show 384 + (pc - 384) = pc from by omega] at q
 by_cases h512 : pc < 640
 ·have q := pC0_512 (pc - 512) (by omega)
  rwa [show 512 + (pc - 512) = pc from by omega] at q
 have q := pC0_640 (pc - 640) (by omega)
 rwa [show 640 + (pc - 640) = pc from by omega] at q
set_option maxRecDepth 100000 in
set_option maxHeartbeats 4000000 in
theorem pC1_0 : ∀ q, q < 114 → pX 1 (0 + q) = true := by decide +kernel
theorem pCm1 (pc : Nat) (h : pc < pTop 1) : pX 1 pc = true := by
 replace h : pc < 114 := h
 have q := pC1_0 (pc - 0) (by omega)
 rwa [show 0 + (pc - 0) = pc from by omega] at q
set_option maxRecDepth 100000 in
set_option maxHeartbeats 4000000 in
theorem pC2_0 : ∀ q, q < 16 → pX 2 (0 + q) = true := by decide +kernel
theorem pCm2 (pc : Nat) (h : pc < pTop 2) : pX 2 pc = true := by
 replace h : pc < 16 := h
 have q := pC2_0 (pc - 0) (by omega)
 rwa [show 0 + (pc - 0) = pc from by omega] at q
set_option maxRecDepth 100000 in
set_option maxHeartbeats 4000000 in
theorem pC3_0 : ∀ q, q < 14 → pX 3 (0 + q) = true := by decide +kernel
theorem pCm3 (pc : Nat) (h : pc < pTop 3) : pX 3 pc = true := by
 replace h : pc < 14 := h
 have q := pC3_0 (pc - 0) (by omega)
 rwa [show 0 + (pc - 0) = pc from by omega] at q
set_option maxRecDepth 100000 in
set_option maxHeartbeats 4000000 in
theorem pC4_0 : ∀ q, q < 6 → pX 4 (0 + q) = true := by decide +kernel
theorem pCm4 (pc : Nat) (h : pc < pTop 4) : pX 4 pc = true := by
 replace h : pc < 6 := h
 have q := pC4_0 (pc - 0) (by omega)
 rwa [show 0 + (pc - 0) = pc from by omega] at q
set_option maxRecDepth 100000 in
set_option maxHeartbeats 4000000 in
theorem pC5_0 : ∀ q, q < 27 → pX 5 (0 + q) = true := by decide +kernel
theorem pCm5 (pc : Nat) (h : pc < pTop 5) : pX 5 pc = true := by
 replace h : pc < 27 := h
 have q := pC5_0 (pc - 0) (by omega)
 rwa [show 0 + (pc - 0) = pc from by omega] at q
set_option maxRecDepth 100000 in
set_option maxHeartbeats 4000000 in
theorem pC6_0 : ∀ q, q < 17 → pX 6 (0 + q) = true := by decide +kernel
theorem pCm6 (pc : Nat) (h : pc < pTop 6) : pX 6 pc = true := by
 replace h : pc < 17 := h
 have q := pC6_0 (pc - 0) (by omega)
 rwa [show 0 + (pc - 0) = pc from by omega] at q
set_option maxRecDepth 100000 in
set_option maxHeartbeats 4000000 in
theorem pC7_0 : ∀ q, q < 24 → pX 7 (0 + q) = true := by decide +kernel
theorem pCm7 (pc : Nat) (h : pc < pTop 7) : pX 7 pc = true := by
 replace h : pc < 24 := h
 have q := pC7_0 (pc - 0) (by omega)
 rwa [show 0 + (pc - 0) = pc from by omega] at q
set_option maxRecDepth 100000 in
set_option maxHeartbeats 4000000 in
theorem pC8_0 : ∀ q, q < 11 → pX 8 (0 + q) = true := by decide +kernel
theorem pCm8 (pc : Nat) (h : pc < pTop 8) : pX 8 pc = true := by
 replace h : pc < 11 := h
 have q := pC8_0 (pc - 0) (by omega)
 rwa [show 0 + (pc - 0) = pc from by omega] at q
set_option maxRecDepth 100000 in
set_option maxHeartbeats 4000000 in
theorem pC9_0 : ∀ q, q < 17 → pX 9 (0 + q) = true := by decide +kernel
theorem pCm9 (pc : Nat) (h : pc < pTop 9) : pX 9 pc = true := by
 replace h : pc < 17 := h
 have q := pC9_0 (pc - 0) (by omega)
 rwa [show 0 + (pc - 0) = pc from by omega] at q
set_option maxRecDepth 100000 in
set_option maxHeartbeats 4000000 in
theorem pC10_0 : ∀ q, q < 12 → pX 10 (0 + q) = true := by decide +kernel
theorem pCm10 (pc : Nat) (h : pc < pTop 10) : pX 10 pc = true := by
 replace h : pc < 12 := h
 have q := pC10_0 (pc - 0) (by omega)
 rwa [show 0 + (pc - 0) = pc from by omega] at q
set_option maxRecDepth 100000 in
set_option maxHeartbeats 4000000 in
theorem pC11_0 : ∀ q, q < 19 → pX 11 (0 + q) = true := by decide +kernel
theorem pCm11 (pc : Nat) (h : pc < pTop 11) : pX 11 pc = true := by
 replace h : pc < 19 := h
 have q := pC11_0 (pc - 0) (by omega)
 rwa [show 0 + (pc - 0) = pc from by omega] at q
set_option maxRecDepth 100000 in
set_option maxHeartbeats 4000000 in
theorem pC12_0 : ∀ q, q < 35 → pX 12 (0 + q) = true := by decide +kernel
theorem pCm12 (pc : Nat) (h : pc < pTop 12) : pX 12 pc = true := by
 replace h : pc < 35 := h
 have q := pC12_0 (pc - 0) (by omega)
 rwa [show 0 + (pc - 0) = pc from by omega] at q
set_option maxRecDepth 100000 in
set_option maxHeartbeats 4000000 in
theorem pC13_0 : ∀ q, q < 23 → pX 13 (0 + q) = true := by decide +kernel
theorem pCm13 (pc : Nat) (h : pc < pTop 13) : pX 13 pc = true := by
 replace h : pc < 23 := h
 have q := pC13_0 (pc - 0) (by omega)
 rwa [show 0 + (pc - 0) = pc from by omega] at q
set_option maxRecDepth 100000 in
set_option maxHeartbeats 4000000 in
theorem pC14_0 : ∀ q, q < 57 → pX 14 (0 + q) = true := by decide +kernel
theorem pCm14 (pc : Nat) (h : pc < pTop 14) : pX 14 pc = true := by
 replace h : pc < 57 := h
 have q := pC14_0 (pc - 0) (by omega)
 rwa [show 0 + (pc - 0) = pc from by omega] at q
set_option maxRecDepth 100000 in
set_option maxHeartbeats 4000000 in
theorem pC15_0 : ∀ q, q < 53 → pX 15 (0 + q) = true := by decide +kernel
theorem pCm15 (pc : Nat) (h : pc < pTop 15) : pX 15 pc = true := by
 replace h : pc < 53 := h
 have q := pC15_0 (pc - 0) (by omega)
 rwa [show 0 + (pc - 0) = pc from by omega] at q
set_option maxRecDepth 100000 in
set_option maxHeartbeats 4000000 in
theorem pC16_0 : ∀ q, q < 4 → pX 16 (0 + q) = true := by decide +kernel
theorem pCm16 (pc : Nat) (h : pc < pTop 16) : pX 16 pc = true := by
 replace h : pc < 4 := h
 have q := pC16_0 (pc - 0) (by omega)
 rwa [show 0 + (pc - 0) = pc from by omega] at q
set_option maxRecDepth 100000 in
set_option maxHeartbeats 4000000 in
theorem pC17_0 : ∀ q, q < 7 → pX 17 (0 + q) = true := by decide +kernel
theorem pCm17 (pc : Nat) (h : pc < pTop 17) : pX 17 pc = true := by
 replace h : pc < 7 := h
 have q := pC17_0 (pc - 0) (by omega)
 rwa [show 0 + (pc - 0) = pc from by omega] at q
set_option maxRecDepth 100000 in
set_option maxHeartbeats 4000000 in
theorem pC18_0 : ∀ q, q < 24 → pX 18 (0 + q) = true := by decide +kernel
theorem pCm18 (pc : Nat) (h : pc < pTop 18) : pX 18 pc = true := by
 replace h : pc < 24 := h
 have q := pC18_0 (pc - 0) (by omega)
 rwa [show 0 + (pc - 0) = pc from by omega] at q
set_option maxRecDepth 100000 in
set_option maxHeartbeats 4000000 in
theorem pC19_0 : ∀ q, q < 70 → pX 19 (0 + q) = true := by decide +kernel
theorem pCm19 (pc : Nat) (h : pc < pTop 19) : pX 19 pc = true := by
 replace h : pc < 70 := h
 have q := pC19_0 (pc - 0) (by omega)
 rwa [show 0 + (pc - 0) = pc from by omega] at q
set_option maxRecDepth 100000 in
set_option maxHeartbeats 4000000 in
theorem pC20_0 : ∀ q, q < 27 → pX 20 (0 + q) = true := by decide +kernel
theorem pCm20 (pc : Nat) (h : pc < pTop 20) : pX 20 pc = true := by
 replace h : pc < 27 := h
 have q := pC20_0 (pc - 0) (by omega)
 rwa [show 0 + (pc - 0) = pc from by omega] at q
set_option maxRecDepth 100000 in
set_option maxHeartbeats 4000000 in
theorem pC21_0 : ∀ q, q < 6 → pX 21 (0 + q) = true := by decide +kernel
theorem pCm21 (pc : Nat) (h : pc < pTop 21) : pX 21 pc = true := by
 replace h : pc < 6 := h
 have q := pC21_0 (pc - 0) (by omega)
 rwa [show 0 + (pc - 0) = pc from by omega] at q
set_option maxRecDepth 100000 in
set_option maxHeartbeats 4000000 in
theorem pC22_0 : ∀ q, q < 52 → pX 22 (0 + q) = true := by decide +kernel
theorem pCm22 (pc : Nat) (h : pc < pTop 22) : pX 22 pc = true := by
 replace h : pc < 52 := h
 have q := pC22_0 (pc - 0) (by omega)
 rwa [show 0 + (pc - 0) = pc from by omega] at q
set_option maxRecDepth 100000 in
set_option maxHeartbeats 4000000 in
theorem pC23_0 : ∀ q, q < 24 → pX 23 (0 + q) = true := by decide +kernel
theorem pCm23 (pc : Nat) (h : pc < pTop 23) : pX 23 pc = true := by
 replace h : pc < 24 := h
 have q := pC23_0 (pc - 0) (by omega)
 rwa [show 0 + (pc - 0) = pc from by omega] at q
set_option maxRecDepth 100000 in
set_option maxHeartbeats 4000000 in
theorem pC24_0 : ∀ q, q < 66 → pX 24 (0 + q) = true := by decide +kernel
theorem pCm24 (pc : Nat) (h : pc < pTop 24) : pX 24 pc = true := by
 replace h : pc < 66 := h
 have q := pC24_0 (pc - 0) (by omega)
 rwa [show 0 + (pc - 0) = pc from by omega] at q
set_option maxRecDepth 100000 in
set_option maxHeartbeats 4000000 in
theorem pC25_0 : ∀ q, q < 97 → pX 25 (0 + q) = true := by decide +kernel
theorem pCm25 (pc : Nat) (h : pc < pTop 25) : pX 25 pc = true := by
 replace h : pc < 97 := h
 have q := pC25_0 (pc - 0) (by omega)
 rwa [show 0 + (pc - 0) = pc from by omega] at q
set_option maxRecDepth 100000 in
set_option maxHeartbeats 4000000 in
theorem pC26_0 : ∀ q, q < 27 → pX 26 (0 + q) = true := by decide +kernel
theorem pCm26 (pc : Nat) (h : pc < pTop 26) : pX 26 pc = true := by
 replace h : pc < 27 := h
 have q := pC26_0 (pc - 0) (by omega)
 rwa [show 0 + (pc - 0) = pc from by omega] at q
set_option maxRecDepth 100000 in
set_option maxHeartbeats 4000000 in
theorem pC27_0 : ∀ q, q < 22 → pX 27 (0 + q) = true := by decide +kernel
theorem pCm27 (pc : Nat) (h : pc < pTop 27) : pX 27 pc = true := by
 replace h : pc < 22 := h
 have q := pC27_0 (pc - 0) (by omega)
 rwa [show 0 + (pc - 0) = pc from by omega] at q
theorem pChk0 : ∀ m, m < pN → ∀ pc, pc < pTop m → (match pCode m pc with | some t => qchk m pc t.1 t.2 | none => true) = true := by
 intro m hm pc hp
 change pX m pc = true
 match m, hm, hp with
 | 0, _, hp => exact pCm0 pc hp
 | 1, _, hp => exact pCm1 pc hp
 | 2, _, hp => exact pCm2 pc hp
 | 3, _, hp => exact pCm3 pc hp
 | 4, _, hp => exact pCm4 pc hp
 | 5, _, hp => exact pCm5 pc hp
 | 6, _, hp => exact pCm6 pc hp
 | 7, _, hp => exact pCm7 pc hp
 | 8, _, hp => exact pCm8 pc hp
 | 9, _, hp => exact pCm9 pc hp
 | 10, _, hp => exact pCm10 pc hp
 | 11, _, hp => exact pCm11 pc hp
 | 12, _, hp => exact pCm12 pc hp
 | 13, _, hp => exact pCm13 pc hp
 | 14, _, hp => exact pCm14 pc hp
 | 15, _, hp => exact pCm15 pc hp
 | 16, _, hp => exact pCm16 pc hp
 | 17, _, hp => exact pCm17 pc hp
 | 18, _, hp => exact pCm18 pc hp
 | 19, _, hp => exact pCm19 pc hp
 | 20, _, hp => exact pCm20 pc hp
 | 21, _, hp => exact pCm21 pc hp
 | 22, _, hp => exact pCm22 pc hp
 | 23, _, hp => exact pCm23 pc hp
 | 24, _, hp => exact pCm24 pc hp
 | 25, _, hp => exact pCm25 pc hp
 | 26, _, hp => exact pCm26 pc hp
 | 27, _, hp => exact pCm27 pc hp
 | m + 28, hm, _ => exact absurd hm (by unfold pN; omega)
theorem pIn {m pc : Nat} {t : Instr × Nat} (h : pCode m pc = some t) : m < pN ∧ pc < pTop m := by
 unfold pCode at h
 cases h1 : Nat.ble pN m with
 | true => rw [h1] at h; cases h
 | false =>
  cases h2 : Nat.ble (pTop m) pc with
  | true => rw [h1, h2] at h; cases h
  | false => exact ⟨Nat.lt_of_not_le (fun q => by rw [Nat.ble_eq_true_of_le q] at h1; cases h1), Nat.lt_of_not_le (fun q => by rw [Nat.ble_eq_true_of_le q] at h2; cases h2)⟩
theorem pChk {m pc : Nat} {i : Instr} {aux : Nat} (h : pCode m pc = some (i, aux)) : qchk m pc i aux = true := by
 have q := pChk0 m (pIn h).1 pc (pIn h).2
 rw [h] at q
 exact q
theorem pDec {m pc : Nat} {i : Instr} {aux : Nat} (h : pCode m pc = some (i, aux)) : decode (pBytes m) pc = .ok (i, ilen i) := by
 have q := pChk h
 unfold qchk at q
 exact of_decide_eq_true (Bool.and_eq_true_iff.mp q).1
theorem pDecN {m pc n : Nat} {i : Instr} {aux : Nat} (h : pCode m pc = some (i, aux)) (hn : ilen i = n) : decode (pBytes m) pc = .ok (i, n) := by
 rw [← hn]; exact pDec h
theorem pRest {m pc : Nat} {i : Instr} {aux : Nat} (h : pCode m pc = some (i, aux)) : qlk m pc i aux = true := by
 have q := pChk h
 unfold qchk at q
 exact (Bool.and_eq_true_iff.mp q).2
theorem qtgt_spec {pc : Nat} {o : Int} {aux : Nat} (h : qtgt pc o aux = true) : 0 ≤ (pc : Int) + o ∧ ((pc : Int) + o).toNat = aux := by
 unfold qtgt at h
 have h2 := Bool.and_eq_true_iff.mp h
 exact ⟨of_decide_eq_true h2.1, of_decide_eq_true h2.2⟩
def QCx (Z : State) (p : Program) (R : Room) (s : State) (mid : MethodId) (meth : Method) (c : Code) (m : Nat) : Prop :=
 p.tables.exec = Jvm.exec ∧ Z.Warmed39 s.vm ∧ c.code = pBytes m ∧ c.maxLocals = pMaxL m ∧ meth.sig.returnType = pRet m ∧ s.vm.findClass (kName (pK m)) = some mid.cls ∧ meth.name = pNm m ∧ pFr m ≤ R.frames ∧ pLo m ≤ R.locals
def QTri (l : Launch) (Z : State) (n0 : Nat) (ad : Nat → Addr) (m : Nat) (st : QSt) (v : Option Value) (σ' : QHeap) : Prop :=
 st.2.2.2.length ≤ σ'.length ∧ qhs st.2.2.2 ≤ qhs σ' ∧
 ∀ (p : Program) (e : Env) (R : Room) (s : State) (mid : MethodId) (args : Array Value) (below : List Frame) (meth : Method) (c : Code) (T : State) (locs : List Loc) (cells slots : Nat) (C : Array Slot),
  QCx Z p R s mid meth c m → Stand p l e R s mid args below meth c T locs cells slots → QRep Z n0 ad T.heap st.2.2.2 → Fr n0 locs → QLocOk ad st.2.1 C → C.size = c.maxLocals →
  n0 + (st.2.2.2.length - k0) = s.heap.size + cells → cells + (σ'.length - st.2.2.2.length) ≤ R.cells → slots + (qhs σ' - qhs st.2.2.2) ≤ R.slots →
  ∃ T' locs', Stand p l e R s mid args below meth c T' locs' (cells + (σ'.length - st.2.2.2.length)) (slots + (qhs σ' - qhs st.2.2.2)) ∧ QRep Z n0 ad T'.heap σ' ∧ Fr n0 locs' ∧
   ∀ fs, (∀ (f : JFrame) (acts : List Action), f.method = mid → f.locked = none → f.entered = [] → (doReturn e (T'.setTop f) acts (v.map (qv ad))).1 = T'.setFrames fs) →
    Steps p.tables e below (T.setTop (mkF mid st.1 C (st.2.2.1.map (qv ad)))) (T'.setFrames fs)
section Triples
variable {l : Launch} {Z : State} {n0 : Nat} {ad : Nat → Addr} {a0 : Array Value} {m : Nat} {v : Option Value} {σ' : QHeap}
theorem QTri.gen {st st' : QSt} (h : QTri l Z n0 ad m st' v σ') (g1 : st.2.2.2.length ≤ st'.2.2.2.length) (g2 : qhs st.2.2.2 ≤ qhs st'.2.2.2)
  (hs : ∀ (p : Program) (e : Env) (R : Room) (s : State) (mid : MethodId) (args : Array Value) (below : List Frame) (meth : Method) (c : Code) (T : State) (locs : List Loc) (cells slots : Nat) (C : Array Slot),
   QCx Z p R s mid meth c m → Stand p l e R s mid args below meth c T locs cells slots → QRep Z n0 ad T.heap st.2.2.2 → Fr n0 locs → QLocOk ad st.2.1 C → C.size = c.maxLocals →
   n0 + (st.2.2.2.length - k0) = s.heap.size + cells → cells + (st'.2.2.2.length - st.2.2.2.length) ≤ R.cells → slots + (qhs st'.2.2.2 - qhs st.2.2.2) ≤ R.slots →
   ∃ T₁ locs₁ C₁, Stand p l e R s mid args below meth c T₁ locs₁ (cells + (st'.2.2.2.length - st.2.2.2.length)) (slots + (qhs st'.2.2.2 - qhs st.2.2.2)) ∧ QRep Z n0 ad T₁.heap st'.2.2.2 ∧ Fr n0 locs₁ ∧ QLocOk ad st'.2.1 C₁ ∧ C₁.size = c.maxLocals ∧
    ∀ target, Steps p.tables e below (T₁.setTop (mkF mid st'.1 C₁ (st'.2.2.1.map (qv ad)))) target → Steps p.tables e below (T.setTop (mkF mid st.1 C (st.2.2.1.map (qv ad)))) target) :
  QTri l Z n0 ad m st v σ' := by
 obtain ⟨h1, h2, h3⟩ := h
 refine ⟨Nat.le_trans g1 h1, Nat.le_trans g2 h2, fun p e R s mid args below meth c T locs cells slots C hcx X hR hF hL hC hn hc hsl => ?_⟩
 obtain ⟨T₁, locs₁, C₁, X₁, R₁, F₁, L₁, C1, S₁⟩ := hs p e R s mid args below meth c T locs cells slots C hcx X hR hF hL hC hn (by omega) (by omega)
 have hk := hR.1
 obtain ⟨T', locs', X', R', F', S'⟩ := h3 p e R s mid args below meth c T₁ locs₁ _ _ C₁ hcx X₁ R₁ F₁ L₁ C1 (by omega) (by omega) (by omega)
 have e1 : cells + (st'.2.2.2.length - st.2.2.2.length) + (σ'.length - st'.2.2.2.length) = cells + (σ'.length - st.2.2.2.length) := by omega
 have e2 : slots + (qhs st'.2.2.2 - qhs st.2.2.2) + (qhs σ' - qhs st'.2.2.2) = slots + (qhs σ' - qhs st.2.2.2) := by omega
 rw [e1, e2] at X'
 exact ⟨T', locs', X', R', F', fun fs hf => S₁ _ (S' fs hf)⟩
theorem QTri.pure {st st' : QSt} (h : QTri l Z n0 ad m st' v σ') (hσ : st'.2.2.2 = st.2.2.2)
  (hs : ∀ (p : Program) (e : Env) (R : Room) (s : State) (mid : MethodId) (args : Array Value) (below : List Frame) (meth : Method) (c : Code) (T : State) (locs : List Loc) (cells slots : Nat) (C : Array Slot),
   QCx Z p R s mid meth c m → Stand p l e R s mid args below meth c T locs cells slots → QRep Z n0 ad T.heap st.2.2.2 → QLocOk ad st.2.1 C → C.size = c.maxLocals →
   ∃ T₁ C₁, Stand p l e R s mid args below meth c T₁ locs cells slots ∧ T₁.heap = T.heap ∧ QLocOk ad st'.2.1 C₁ ∧ C₁.size = c.maxLocals ∧
    ∀ target, Steps p.tables e below (T₁.setTop (mkF mid st'.1 C₁ (st'.2.2.1.map (qv ad)))) target → Steps p.tables e below (T.setTop (mkF mid st.1 C (st.2.2.1.map (qv ad)))) target) :
  QTri l Z n0 ad m st v σ' := by
 refine QTri.gen h (by rw [hσ]; exact Nat.le_refl _) (by rw [hσ]; exact Nat.le_refl _) fun p e R s mid args below meth c T locs cells slots C hcx X hR hF hL hC hn hc hsl => ?_
 obtain ⟨T₁, C₁, X₁, hh, L₁, C1, S₁⟩ := hs p e R s mid args below meth c T locs cells slots C hcx X hR hL hC
 refine ⟨T₁, locs, C₁, ?_, by rw [hσ, hh]; exact hR, hF, L₁, C1, S₁⟩
 rw [hσ, Nat.sub_self, Nat.sub_self]
 exact X₁
theorem QTri.frame {pc pc' : Nat} {L L' : QLoc} {S S' : List Value} {σ : QHeap} (h : QTri l Z n0 ad m (pc', L', S', σ) v σ')
  (hs : ∀ (p : Program) (e : Env) (R : Room) (s : State) (mid : MethodId) (args : Array Value) (below : List Frame) (meth : Method) (c : Code) (T : State) (locs : List Loc) (cells slots : Nat) (C : Array Slot),
   QCx Z p R s mid meth c m → Stand p l e R s mid args below meth c T locs cells slots → QRep Z n0 ad T.heap σ → QLocOk ad L C → C.size = c.maxLocals →
   ∃ C₁, QLocOk ad L' C₁ ∧ C₁.size = c.maxLocals ∧ ∀ target, Steps p.tables e below (T.setTop (mkF mid pc' C₁ (S'.map (qv ad)))) target → Steps p.tables e below (T.setTop (mkF mid pc C (S.map (qv ad)))) target) :
  QTri l Z n0 ad m (pc, L, S, σ) v σ' :=
 QTri.pure h rfl fun p e R s mid args below meth c T locs cells slots C hcx X hR hL hC => by
  obtain ⟨C₁, h1, h2, h3⟩ := hs p e R s mid args below meth c T locs cells slots C hcx X hR hL hC
  exact ⟨T, C₁, X, rfl, h1, h2, h3⟩
theorem QTri.stack {pc pc' : Nat} {L : QLoc} {S S' : List Value} {σ : QHeap} (h : QTri l Z n0 ad m (pc', L, S', σ) v σ')
  (hs : ∀ (p : Program) (e : Env) (R : Room) (s : State) (mid : MethodId) (args : Array Value) (below : List Frame) (meth : Method) (c : Code) (T : State) (locs : List Loc) (cells slots : Nat) (C : Array Slot) (target : State),
   p.tables.exec = Jvm.exec → Z.Warmed39 s.vm → c.code = pBytes m → s.vm.findClass (kName (pK m)) = some mid.cls → Stand p l e R s mid args below meth c T locs cells slots → QRep Z n0 ad T.heap σ → QLocOk ad L C →
   Steps p.tables e below (T.setTop (mkF mid pc' C (S'.map (qv ad)))) target → Steps p.tables e below (T.setTop (mkF mid pc C (S.map (qv ad)))) target) :
  QTri l Z n0 ad m (pc, L, S, σ) v σ' :=
 QTri.frame h fun p e R s mid args below meth c T locs cells slots C hcx X hR hL hC => ⟨C, hL, hC, fun target k => hs p e R s mid args below meth c T locs cells slots C target hcx.1 hcx.2.1 hcx.2.2.1 hcx.2.2.2.2.2.1 X hR hL k⟩
theorem qload_inv {pc : Nat} {L : QLoc} {S : List Value} {σ : QHeap} {k : Nat} {ok : Value → Bool} {st' : QSt} (h : qload pc L S σ k ok = some st') : ∃ v, lget L k = some v ∧ ok v = true ∧ st' = (pc, L, v :: S, σ) := by
 unfold qload at h
 split at h
 ·rename_i v hv
  cases ho : ok v with
  | true => rw [ho] at h; cases h; exact ⟨v, hv, ho, rfl⟩
  | false => rw [ho] at h; cases h
 ·cases h
theorem qstore_inv {pc : Nat} {L : QLoc} {S : List Value} {σ : QHeap} {k : Nat} {ok : Value → Bool} {st' : QSt} (h : qstore pc L S σ k ok = some st') : ∃ v S' L', S = v :: S' ∧ ok v = true ∧ lput L k v = some L' ∧ st' = (pc, L', S', σ) := by
 unfold qstore at h
 split at h
 ·rename_i v S'
  cases ho : ok v with
  | true =>
   rw [ho] at h
   simp only [cond_true] at h
   split at h
   ·rename_i L' hL'
    cases h; exact ⟨v, S', L', rfl, ho, hL', rfl⟩
   ·cases h
  | false => rw [ho] at h; cases h
 ·cases h
theorem qbin_inv {pc : Nat} {L : QLoc} {S : List Value} {σ : QHeap} {f : Int32 → Int32 → Int32} {st' : QSt} (h : qbin pc L S σ f = some st') : ∃ x y S', S = .int y :: .int x :: S' ∧ st' = (pc, L, .int (f x y) :: S', σ) := by
 unfold qbin at h
 split at h
 ·cases h; exact ⟨_, _, _, rfl, rfl⟩
 ·cases h
theorem qbino_inv {pc : Nat} {L : QLoc} {S : List Value} {σ : QHeap} {f : Int32 → Int32 → Option Int32} {st' : QSt} (h : qbino pc L S σ f = some st') : ∃ x y z S', S = .int y :: .int x :: S' ∧ f x y = some z ∧ st' = (pc, L, .int z :: S', σ) := by
 unfold qbino at h
 split at h
 ·obtain ⟨z, hz, h⟩ := Option.bind_eq_some_iff.mp h
  cases h; exact ⟨_, _, _, _, rfl, hz, rfl⟩
 ·cases h
theorem qbinJ_inv {pc : Nat} {L : QLoc} {S : List Value} {σ : QHeap} {f : Int64 → Int64 → Int64} {st' : QSt} (h : qbinJ pc L S σ f = some st') : ∃ x y S', S = .long y :: .long x :: S' ∧ st' = (pc, L, .long (f x y) :: S', σ) := by
 unfold qbinJ at h
 split at h
 ·cases h; exact ⟨_, _, _, rfl, rfl⟩
 ·cases h
theorem qshJ_inv {pc : Nat} {L : QLoc} {S : List Value} {σ : QHeap} {f : Int64 → Int32 → Int64} {st' : QSt} (h : qshJ pc L S σ f = some st') : ∃ x y S', S = .int y :: .long x :: S' ∧ st' = (pc, L, .long (f x y) :: S', σ) := by
 unfold qshJ at h
 split at h
 ·cases h; exact ⟨_, _, _, rfl, rfl⟩
 ·cases h
theorem quni_inv {pc : Nat} {L : QLoc} {S : List Value} {σ : QHeap} {f : Int32 → Value} {st' : QSt} (h : quni pc L S σ f = some st') : ∃ x S', S = .int x :: S' ∧ st' = (pc, L, f x :: S', σ) := by
 unfold quni at h
 split at h
 ·cases h; exact ⟨_, _, rfl, rfl⟩
 ·cases h
theorem quniJ_inv {pc : Nat} {L : QLoc} {S : List Value} {σ : QHeap} {f : Int64 → Value} {st' : QSt} (h : quniJ pc L S σ f = some st') : ∃ x S', S = .long x :: S' ∧ st' = (pc, L, f x :: S', σ) := by
 unfold quniJ at h
 split at h
 ·cases h; exact ⟨_, _, rfl, rfl⟩
 ·cases h
theorem qif_inv {pc : Nat} {L : QLoc} {S : List Value} {σ : QHeap} {cd : ClassFile.Cond} {t : Nat} {st' : QSt} (h : qif pc L S σ cd t = some st') : ∃ x S', S = .int x :: S' ∧ st' = (bif ifCond.holds cd x then t else pc, L, S', σ) := by
 unfold qif at h
 split at h
 ·cases h; exact ⟨_, _, rfl, rfl⟩
 ·cases h
theorem qicmp_inv {pc : Nat} {L : QLoc} {S : List Value} {σ : QHeap} {cd : ClassFile.Cond} {t : Nat} {st' : QSt} (h : qicmp pc L S σ cd t = some st') : ∃ x y S', S = .int y :: .int x :: S' ∧ st' = (bif if_icmp.holds cd x y then t else pc, L, S', σ) := by
 unfold qicmp at h
 split at h
 ·cases h; exact ⟨_, _, _, rfl, rfl⟩
 ·cases h
theorem qget_inv {pc : Nat} {L : QLoc} {S : List Value} {σ : QHeap} {k : Nat} {st' : QSt} (h : qget pc L S σ k = some st') : ∃ a S' vs v, S = .ref a :: S' ∧ hget σ a = some (.inl vs) ∧ vget vs k = some v ∧ st' = (pc, L, v :: S', σ) := by
 unfold qget at h
 split at h
 ·split at h
  ·split at h
   ·cases h; exact ⟨_, _, _, _, rfl, by assumption, by assumption, rfl⟩
   ·cases h
  ·cases h
 ·cases h
theorem qput_inv {pc : Nat} {L : QLoc} {S : List Value} {σ : QHeap} {k : Nat} {st' : QSt} (h : qput pc L S σ k = some st') : ∃ v a S' vs w, S = v :: .ref a :: S' ∧ hget σ a = some (.inl vs) ∧ k0 ≤ a ∧ k < vs.length ∧ qfit (fTy k) v = some w ∧ st' = (pc, L, S', σ.set a (.inl (vs.set k w))) := by
 unfold qput at h
 split at h
 ·rename_i v a S'
  split at h
  ·rename_i vs hvs
   cases hbb : (Nat.ble k0 a && Nat.ble (k + 1) vs.length) with
   | false => rw [hbb] at h; cases h
   | true =>
    rw [hbb] at h
    simp only [cond_true] at h
    obtain ⟨u, hu, h⟩ := Option.bind_eq_some_iff.mp h
    cases h
    obtain ⟨b1, b2⟩ := Bool.and_eq_true_iff.mp hbb
    exact ⟨v, a, S', vs, u, rfl, hvs, Nat.le_of_ble_eq_true b1, Nat.le_of_ble_eq_true b2, hu, rfl⟩
  ·cases h
 ·cases h
theorem qald_inv {pc : Nat} {L : QLoc} {S : List Value} {σ : QHeap} {ok : FieldType → Bool} {st' : QSt} (h : qald pc L S σ ok = some st') : ∃ j a S' ty xs v, S = .int j :: .ref a :: S' ∧ hget σ a = some (.inr (.inl (ty, xs))) ∧ ok ty = true ∧ aget xs j = some v ∧ st' = (pc, L, .int v :: S', σ) := by
 unfold qald at h
 split at h
 ·rename_i j a S'
  split at h
  ·rename_i x hx
   cases ht : ok x.1 with
   | false => rw [ht] at h; cases h
   | true =>
    rw [ht] at h
    simp only [cond_true] at h
    obtain ⟨u, hu, h⟩ := Option.bind_eq_some_iff.mp h
    cases h
    exact ⟨j, a, S', x.1, x.2, u, rfl, hx, ht, hu, rfl⟩
  ·cases h
 ·cases h
theorem qaldJ_inv {pc : Nat} {L : QLoc} {S : List Value} {σ : QHeap} {st' : QSt} (h : qaldJ pc L S σ = some st') : ∃ j a S' xs v, S = .int j :: .ref a :: S' ∧ hget σ a = some (.inr (.inr xs)) ∧ aget xs j = some v ∧ st' = (pc, L, .long v :: S', σ) := by
 unfold qaldJ at h
 split at h
 ·rename_i j a S'
  split at h
  ·rename_i x hx
   obtain ⟨u, hu, h⟩ := Option.bind_eq_some_iff.mp h
   cases h
   exact ⟨j, a, S', x, u, rfl, hx, hu, rfl⟩
  ·cases h
 ·cases h
theorem qast_inv {pc : Nat} {L : QLoc} {S : List Value} {σ : QHeap} {ok : FieldType → Bool} {st' : QSt} (h : qast pc L S σ ok = some st') : ∃ v j a S' ty xs ys, S = .int v :: .int j :: .ref a :: S' ∧ hget σ a = some (.inr (.inl (ty, xs))) ∧ ok ty = true ∧ k0 ≤ a ∧ aset xs j (qnar ty v) = some ys ∧ st' = (pc, L, S', σ.set a (.inr (.inl (ty, ys)))) := by
 unfold qast at h
 split at h
 ·rename_i v j a S'
  split at h
  ·rename_i x hx
   cases ht : (ok x.1 && Nat.ble k0 a) with
   | false => rw [ht] at h; cases h
   | true =>
    rw [ht] at h
    simp only [cond_true] at h
    obtain ⟨u, hu, h⟩ := Option.bind_eq_some_iff.mp h
    cases h
    obtain ⟨b1, b2⟩ := Bool.and_eq_true_iff.mp ht
    exact ⟨v, j, a, S', x.1, x.2, u, rfl, hx, b1, Nat.le_of_ble_eq_true b2, hu, rfl⟩
  ·cases h
 ·cases h
theorem qastJ_inv {pc : Nat} {L : QLoc} {S : List Value} {σ : QHeap} {st' : QSt} (h : qastJ pc L S σ = some st') : ∃ v j a S' xs ys, S = .long v :: .int j :: .ref a :: S' ∧ hget σ a = some (.inr (.inr xs)) ∧ k0 ≤ a ∧ aset xs j v = some ys ∧ st' = (pc, L, S', σ.set a (.inr (.inr ys))) := by
 unfold qastJ at h
 split at h
 ·rename_i v j a S'
  split at h
  ·rename_i x hx
   cases ht : (Nat.ble k0 a) with
   | false => rw [ht] at h; cases h
   | true =>
    rw [ht] at h
    simp only [cond_true] at h
    obtain ⟨u, hu, h⟩ := Option.bind_eq_some_iff.mp h
    cases h
    exact ⟨v, j, a, S', x, u, rfl, hx, Nat.le_of_ble_eq_true ht, hu, rfl⟩
  ·cases h
 ·cases h
theorem qlen_inv {pc : Nat} {L : QLoc} {S : List Value} {σ : QHeap} {st' : QSt} (h : qlen pc L S σ = some st') : ∃ a S' n, S = .ref a :: S' ∧ ((∃ ty xs, hget σ a = some (.inr (.inl (ty, xs))) ∧ n = xs.length) ∨ ∃ xs, hget σ a = some (.inr (.inr xs)) ∧ n = xs.length) ∧ st' = (pc, L, .int n.toInt32 :: S', σ) := by
 unfold qlen at h
 split at h
 ·rename_i a S'
  split at h
  ·rename_i x hx
   cases h; exact ⟨a, S', _, rfl, Or.inl ⟨x.1, x.2, hx, rfl⟩, rfl⟩
  ·rename_i x hx
   cases h; exact ⟨a, S', _, rfl, Or.inr ⟨x, hx, rfl⟩, rfl⟩
  ·cases h
 ·cases h
theorem isI_inv {v : Value} (h : isI v = true) : ∃ x, v = .int x := by cases v <;> simp [isI] at h; exact ⟨_, rfl⟩
theorem isJ_inv {v : Value} (h : isJ v = true) : ∃ x, v = .long x := by cases v <;> simp [isJ] at h; exact ⟨_, rfl⟩
theorem isR_inv {v : Value} (h : isR v = true) : ∃ x, v = .ref x := by cases v <;> simp [isR] at h; exact ⟨_, rfl⟩
theorem aget_inv {α : Type} {xs : List α} {j : Int32} {x : α} (h : aget xs j = some x) : ¬ j < 0 ∧ xs[j.toNatClampNeg]? = some x := by
 unfold aget at h
 split at h
 ·cases h
 ·rename_i q; exact ⟨q, h⟩
theorem aset_inv {α : Type} {xs ys : List α} {j : Int32} {x : α} (h : aset xs j x = some ys) : ¬ j < 0 ∧ j.toNatClampNeg < xs.length ∧ ys = xs.set j.toNatClampNeg x := by
 unfold aset at h
 split at h
 ·cases h
 ·rename_i q
  split at h
  ·rename_i q2; cases h; exact ⟨q, q2, rfl⟩
  ·cases h
theorem qnew_inv {n : Int32} {k : Nat} (h : qnew n = some k) : ¬ n < 0 ∧ n.toNatClampNeg = k ∧ k ≤ 67108864 := by
 unfold qnew at h
 split at h
 ·cases h
 ·rename_i q
  split at h
  ·rename_i q2; cases h; exact ⟨q, rfl, q2⟩
  ·cases h
theorem QCellOk.other {h h' : Heap} {a b : Addr} {sl : Nat} {w : Value} {c : QCell} (H : QCellOk Z ad h b c) (W : Wr h h' a sl w) (ne : b ≠ a) : QCellOk Z ad h' b c := by
 rcases c with vs | ⟨ty, xs⟩ | xs
 ·obtain ⟨h1, h2, h3⟩ := H
  exact ⟨h1.wr W, h2, fun k u hk hu => (h3 k u hk hu).other W (Or.inl ne)⟩
 ·obtain ⟨c, h1, h2⟩ := H
  exact ⟨c, h1.other W ne, h2⟩
 ·obtain ⟨c, h1, h2⟩ := H
  exact ⟨c, h1.other W ne, h2⟩
theorem QCellOk.ext {h h' : Heap} {b : Addr} {c : QCell} (H : QCellOk Z ad h b c) (E : Ext h h') : QCellOk Z ad h' b c := by
 rcases c with vs | ⟨ty, xs⟩ | xs
 ·obtain ⟨h1, h2, h3⟩ := H
  exact ⟨h1.ext E, h2, fun k u hk hu => (h3 k u hk hu).ext E⟩
 ·obtain ⟨c, h1, h2⟩ := H
  exact ⟨c, h1.ext E, h2⟩
 ·obtain ⟨c, h1, h2⟩ := H
  exact ⟨c, h1.ext E, h2⟩
theorem QRep.set {h h' : Heap} {σ : QHeap} {a : Nat} {sl : Nat} {w : Value} {c d : QCell} (H : QRep Z n0 ad h σ) (Ad : QAd n0 ad) (W : Wr h h' (ad a) sl w) (hc : hget σ a = some c) (hd : QCellOk Z ad h' (ad a) d) : QRep Z n0 ad h' (σ.set a d) := by
 obtain ⟨h1, h2, h3⟩ := H
 refine ⟨by simpa using h1, by rw [W.size, h2]; simp, fun k e he => ?_⟩
 rw [hget_set hc] at he
 split at he
 ·rename_i q; cases he; rw [q]; exact hd
 ·rename_i q; exact (h3 k e he).other W fun z => q (Ad.2 _ _ z)
theorem QRep.push {h h' : Heap} {σ : QHeap} {c : QCell} (H : QRep Z n0 ad h σ) (Ad : QAd n0 ad) (E : Ext h h') (hs : h'.size = h.size + 1) (hc : QCellOk Z ad h' h.size c) : QRep Z n0 ad h' (σ ++ [c]) := by
 obtain ⟨h1, h2, h3⟩ := H
 refine ⟨by simp; omega, by rw [hs, h2]; simp; omega, fun k e he => ?_⟩
 rw [hget_eq] at he
 rcases Nat.lt_or_ge k σ.length with q | q
 ·rw [List.getElem?_append_left q, ← hget_eq] at he
  exact (h3 k e he).ext E
 ·rw [List.getElem?_append_right q] at he
  obtain rfl : k = σ.length := by
   rcases Nat.lt_or_ge (k - σ.length) 1 with z | z
   ·omega
   ·rw [List.getElem?_eq_none (by simpa using z)] at he; cases he
  simp at he
  rw [← he, Ad.1 _ h1, ← h2]
  exact hc
theorem mem_of_contains {α : Type} [BEq α] [LawfulBEq α] {L : List α} {a : α} (h : L.contains a = true) : a ∈ L := by simpa using h
theorem lkF_lt : ∀ t ∈ lkF, t.2.2 < nF := by decide +kernel
theorem laid_of (W : QW Z a0) {k : Nat} (hk : k < nF) : Laid Z a0 cName cName (fNm k) (fDs k) := by
 have q := (qw_lay W) k hk
 cases hf : fFin k with
 | true => rw [hf] at q; exact Or.inr q
 | false => rw [hf] at q; exact Or.inl q
theorem qfit_inv {ty : FieldType} {v w : Value} (h : qfit ty v = some w) : v = w ∧ narrow ty (qv ad w) = qv ad w ∧ fits ty (qv ad w) = true := by
 unfold qfit at h
 split at h
 ·cases h; exact ⟨rfl, rfl, rfl⟩
 ·rename_i x
  obtain ⟨y, hy, h⟩ := Option.bind_eq_some_iff.mp h
  cases h
  unfold qboo at hy
  split at hy
  ·rename_i e; cases hy; subst e; exact ⟨rfl, rfl, rfl⟩
  ·split at hy
   ·rename_i e; cases hy; subst e; exact ⟨rfl, rfl, rfl⟩
   ·cases hy
 ·cases h; exact ⟨rfl, rfl, rfl⟩
 ·cases h; exact ⟨rfl, rfl, rfl⟩
 ·cases h
theorem vget_set {vs : List Value} {k j : Nat} {w : Value} (hk : k < vs.length) : vget (vs.set k w) j = if j = k then some w else vget vs j := by
 simp only [vget_eq, List.getElem?_set]
 by_cases e : k = j
 ·subst e; simp [hk]
 ·simp [e, Ne.symm e]
theorem ald_in {α : Type} {f : α → Value} {xs : List α} {c : Cell} {j : Int32} {x : α} (hc : c.slots = (xs.map f).toArray) (h : aget xs j = some x) : ¬ (j < 0 ∨ c.slots.size ≤ j.toNatClampNeg) ∧ c.slots[j.toNatClampNeg]? = some (f x) := by
 obtain ⟨h1, h2⟩ := aget_inv h
 have h3 := (List.getElem?_eq_some_iff.mp h2).1
 refine ⟨fun q => ?_, by rw [hc]; simp [h2]⟩
 rcases q with q | q
 ·exact h1 q
 ·rw [hc] at q; simp at q; omega
theorem ast_in {α : Type} {f : α → Value} {xs ys : List α} {c : Cell} {j : Int32} {x : α} (hc : c.slots = (xs.map f).toArray) (h : aset xs j x = some ys) : ¬ (j < 0 ∨ c.slots.size ≤ j.toNatClampNeg) ∧ (c.setSlot j.toNatClampNeg (f x)).slots = (ys.map f).toArray := by
 obtain ⟨h1, h2, rfl⟩ := aset_inv h
 refine ⟨fun q => ?_, by simp [Cell.setSlot, hc, List.map_set]⟩
 rcases q with q | q
 ·exact h1 q
 ·rw [hc] at q; simp at q; omega
theorem qgrow {σ : QHeap} {c : QCell} : qhs (σ ++ [c]) - qhs σ = qsz c := by rw [qhs_app]; simp [qhs]
set_option maxHeartbeats 4000000 in
theorem QTri.newArr (Ad : QAd n0 ad) (W : QW Z a0) {pc aux : Nat} {L : QLoc} {S : List Value} {σ : QHeap} {aty : ArrayType} {n : Int32} {k : Nat} {c : QCell} (hk : qnew n = some k) (hc : pCode m pc = some (.newarray aty, aux)) (hz : qsz c = k)
  (hq : ∀ (h' : Heap) (a : Addr) (cA : ClassId), Arr Z h' a (newA cA (newarray.typeOf aty) n) (newarray.typeOf aty) → QCellOk Z ad h' a c)
  (h : QTri l Z n0 ad m (pc + 2, L, .ref σ.length :: S, σ ++ [c]) v σ') : QTri l Z n0 ad m (pc, L, .int n :: S, σ) v σ' := by
 have hd : decode (pBytes m) pc = .ok (.newarray aty, 2) := pDecN hc rfl
 obtain ⟨n1, n2, n3⟩ := qnew_inv hk
 refine QTri.gen h (by simp) (by simp [qhs_app]) fun p e R s mid args below meth c' T locs cells slots C hcx X hR hF hL hC hn hc1 hsl => ?_
 obtain ⟨hx, hZ, hby, hml, hret, hown, hnm, hfr, hlo⟩ := hcx
 have hd2 : decode c'.code pc = .ok (.newarray aty, 2) := by rw [hby]; exact hd
 simp only [List.length_append, List.length_singleton, Nat.add_sub_cancel_left, qgrow, hz] at hc1 hsl ⊢
 obtain ⟨T₁, h₁, cA, X₁, e₁, E₁, A₁, st⟩ := newP X hx hZ (aty := aty) (qw_arr W (newarray.typeOf aty) (mem_of_contains (show aTys.contains (newarray.typeOf aty) = true from pRest hc))) rfl (g := mkF mid pc C (.int n :: S.map (qv ad))) rfl hd2 rfl n1 (cap := k) (by omega) (by omega) hc1 hsl
 have hsz : h₁.size = T.heap.size + 1 := by
  have q1 := X₁.heapSize
  have q2 : T.heap.size < h₁.size := A₁.lt
  have q3 := hR.2.1
  rw [e₁] at q1
  have : n0 + (σ.length - k0) = s.heap.size + cells := hn
  have q3' : T.heap.size = n0 + (σ.length - k0) := q3
  omega
 refine ⟨T₁, locs, C, X₁, ?_, hF, hL, hC, fun target q => ?_⟩
 ·rw [e₁]; exact QRep.push hR Ad E₁ hsz (hq _ _ _ A₁)
 ·refine st _ ?_
  have e2 : ad σ.length = T.heap.size := by rw [Ad.1 _ hR.1]; exact hR.2.1.symm
  simp only [List.map_cons, qv, e2] at q
  exact q
set_option maxHeartbeats 4000000 in
theorem QTri.getfield (W : QW Z a0) {pc idx aux : Nat} {L : QLoc} {S : List Value} {σ : QHeap} {st' : QSt} (h : QTri l Z n0 ad m st' v σ') (hc : pCode m pc = some (.getfield idx, aux)) (hs : qget (pc + 3) L S σ aux = some st') : QTri l Z n0 ad m (pc, L, S, σ) v σ' := by
 have hd : decode (pBytes m) pc = .ok (.getfield idx, 3) := pDecN hc rfl
 obtain ⟨a, S', vs, w, rfl, hvs, hw, rfl⟩ := qget_inv hs
 have hm := mem_of_contains (show lkF.contains (pK m, idx, aux) = true from pRest hc)
 have hlt := lkF_lt _ hm
 refine QTri.pure h rfl fun p e R s mid args below meth c T locs cells slots C hcx X hR hL hC => ?_
 obtain ⟨hx, hZ, hby, hml, hret, hown, hnm, hfr, hlo⟩ := hcx
 have hd2 : decode c.code pc = .ok (.getfield idx, 3) := by rw [hby]; exact hd
 have F := (hR.2.2 _ _ hvs).2.2 aux w hlt hw
 obtain ⟨T₁, X₁, e₁, st⟩ := getF X hx hZ hown (host := "") (index := idx) (Or.inl (qw_fl W (pK m, idx, aux) hm)) Via.refl rfl F (g := mkF mid pc C (List.map (qv ad) (.ref a :: S'))) rfl rfl hd2
 exact ⟨T₁, C, X₁, e₁, hL, hC, st⟩
set_option maxHeartbeats 4000000 in
theorem QTri.putfield (Ad : QAd n0 ad) (W : QW Z a0) {pc idx aux : Nat} {L : QLoc} {S : List Value} {σ : QHeap} {st' : QSt} (h : QTri l Z n0 ad m st' v σ') (hc : pCode m pc = some (.putfield idx, aux)) (hs : qput (pc + 3) L S σ aux = some st') : QTri l Z n0 ad m (pc, L, S, σ) v σ' := by
 have hd : decode (pBytes m) pc = .ok (.putfield idx, 3) := pDecN hc rfl
 obtain ⟨w, a, S', vs, u, rfl, hvs, b1, b2, hu, rfl⟩ := qput_inv hs
 obtain ⟨r1, r2⟩ := Bool.and_eq_true_iff.mp (show (lkF.contains (pK m, idx, aux) && (!fFin aux || (pK m == 1 && pNm m == "<init>"))) = true from pRest hc)
 have hm := mem_of_contains r1
 have hlt := lkF_lt _ hm
 obtain ⟨rfl, q2, q3⟩ := qfit_inv (ad := ad) hu
 have hsz : qhs (σ.set a (Sum.inl (vs.set aux w))) = qhs σ := qhs_set hvs rfl
 refine QTri.gen h (by simp) (by show qhs σ ≤ qhs (σ.set a (Sum.inl (vs.set aux w))); rw [hsz]; exact Nat.le_refl _) fun p e R s mid args below meth c T locs cells slots C hcx X hR hF hL hC hn hc1 hsl => ?_
 obtain ⟨hx, hZ, hby, hml, hret, hown, hnm, hfr, hlo⟩ := hcx
 have hd2 : decode c.code pc = .ok (.putfield idx, 3) := by rw [hby]; exact hd
 obtain ⟨E, l1, Fs⟩ := hR.2.2 _ _ hvs
 obtain ⟨old, hold⟩ : ∃ old, vget vs aux = some old := by rw [vget_eq]; exact ⟨_, List.getElem?_eq_getElem b2⟩
 have lay : (Cond.lays cName cName (fNm aux) (fDs aux)).before a0 Z = true ∨ ((Cond.laysFinal cName cName (fNm aux) (fDs aux)).before a0 Z = true ∧ kName (pK m) = cName ∧ meth.name = "<init>") := by
  have q := (qw_lay W) aux hlt
  cases hf : fFin aux with
  | false => rw [hf] at q; exact Or.inl q
  | true =>
   rw [hf] at q r2
   simp at r2
   exact Or.inr ⟨q, by rw [r2.1]; exact kOne, by rw [hnm]; exact r2.2⟩
 obtain ⟨T₁, h₁, X₁, e₁, W₁, st⟩ := putF X hx hZ hown (host := "") (index := idx) (Or.inl (qw_fl W (pK m, idx, aux) hm)) Via.refl rfl (Fs aux old hlt hold) E lay ((qw_inst W)) (fPrs aux hlt) q2 q3 (g := mkF mid pc C (List.map (qv ad) (w :: .ref a :: S'))) rfl rfl hd2
 refine ⟨T₁, _, C, ?_, ?_, Fr.snoc X₁ hF (by rw [Ad.1 a b1]; exact Nat.le_add_right _ _), hL, hC, st⟩
 ·show Stand _ _ _ _ _ _ _ _ _ _ _ _ (cells + ((σ.set a (Sum.inl (vs.set aux w))).length - σ.length)) (slots + (qhs (σ.set a (Sum.inl (vs.set aux w))) - qhs σ))
  rw [hsz, Nat.sub_self, List.length_set, Nat.sub_self]
  exact X₁
 ·rw [e₁]
  refine QRep.set hR Ad W₁ hvs ⟨E.wr W₁, by simpa using l1, fun k u hk hu => ?_⟩
  rw [vget_set b2] at hu
  split at hu
  ·rename_i e; cases hu; rw [e]; exact (Fs aux old hlt hold).same W₁
  ·rename_i ne
   exact (Fs k u hk hu).other W₁ (Or.inr (slot_ne (laid_of W hk) (laid_of W hlt) (fun z => ne (fInj _ hk _ hlt z)) (fPrs _ hk) (fPrs _ hlt)))
theorem tyI_inv {ty : FieldType} (h : tyI ty = true) : ty = .int := by cases ty <;> simp [tyI] at h; rfl
theorem tyB_inv {ty : FieldType} (h : tyB ty = true) : ty = .boolean ∨ ty = .byte := by cases ty <;> simp [tyB] at h <;> simp
set_option maxHeartbeats 4000000 in
theorem QTri.iaload {pc aux : Nat} {L : QLoc} {S : List Value} {σ : QHeap} {st' : QSt} (h : QTri l Z n0 ad m st' v σ') (hc : pCode m pc = some (.iaload, aux)) (hs : qald (pc + 1) L S σ tyI = some st') : QTri l Z n0 ad m (pc, L, S, σ) v σ' := by
 have hd : decode (pBytes m) pc = .ok (.iaload, 1) := pDecN hc rfl
 obtain ⟨j, a, S', ty, xs, w, rfl, hx1, ht, hw, rfl⟩ := qald_inv hs
 obtain rfl := tyI_inv ht
 refine QTri.stack h fun p e R s mid args below meth c T locs cells slots C target hx hZ hby hown X hR hL k => ?_
 have hd2 : decode c.code pc = .ok (.iaload, 1) := by rw [hby]; exact hd
 obtain ⟨cl, A, hsl⟩ := hR.2.2 _ _ hx1
 obtain ⟨i1, i2⟩ := ald_in hsl hw
 exact X.iaload hx A.1 (State.isArrayOf_alike hZ.alike A.2.1) A.2.2 i1 i2 (g := mkF mid pc C (List.map (qv ad) (.int j :: .ref a :: S'))) rfl rfl hd2 _ k
set_option maxHeartbeats 4000000 in
theorem QTri.baload {pc aux : Nat} {L : QLoc} {S : List Value} {σ : QHeap} {st' : QSt} (h : QTri l Z n0 ad m st' v σ') (hc : pCode m pc = some (.baload, aux)) (hs : qald (pc + 1) L S σ tyB = some st') : QTri l Z n0 ad m (pc, L, S, σ) v σ' := by
 have hd : decode (pBytes m) pc = .ok (.baload, 1) := pDecN hc rfl
 obtain ⟨j, a, S', ty, xs, w, rfl, hx1, ht, hw, rfl⟩ := qald_inv hs
 refine QTri.stack h fun p e R s mid args below meth c T locs cells slots C target hx hZ hby hown X hR hL k => ?_
 have hd2 : decode c.code pc = .ok (.baload, 1) := by rw [hby]; exact hd
 obtain ⟨cl, A, hsl⟩ := hR.2.2 _ _ hx1
 obtain ⟨i1, i2⟩ := ald_in hsl hw
 rcases tyB_inv ht with rfl | rfl
 ·exact X.baloadBooleans hx A.1 (State.isArrayOf_alike hZ.alike A.2.1) A.2.2 i1 i2 (g := mkF mid pc C (List.map (qv ad) (.int j :: .ref a :: S'))) rfl rfl hd2 _ k
 ·exact X.baloadBytes hx A.1 (State.isArrayOf_alike hZ.alike A.2.1) A.2.2 i1 i2 (g := mkF mid pc C (List.map (qv ad) (.int j :: .ref a :: S'))) rfl rfl hd2 _ k
set_option maxHeartbeats 4000000 in
theorem QTri.laload {pc aux : Nat} {L : QLoc} {S : List Value} {σ : QHeap} {st' : QSt} (h : QTri l Z n0 ad m st' v σ') (hc : pCode m pc = some (.laload, aux)) (hs : qaldJ (pc + 1) L S σ = some st') : QTri l Z n0 ad m (pc, L, S, σ) v σ' := by
 have hd : decode (pBytes m) pc = .ok (.laload, 1) := pDecN hc rfl
 obtain ⟨j, a, S', xs, w, rfl, hx1, hw, rfl⟩ := qaldJ_inv hs
 refine QTri.stack h fun p e R s mid args below meth c T locs cells slots C target hx hZ hby hown X hR hL k => ?_
 have hd2 : decode c.code pc = .ok (.laload, 1) := by rw [hby]; exact hd
 obtain ⟨cl, A, hsl⟩ := hR.2.2 _ _ hx1
 obtain ⟨i1, i2⟩ := ald_in hsl hw
 exact X.laload hx A.1 (State.isArrayOf_alike hZ.alike A.2.1) A.2.2 i1 i2 (g := mkF mid pc C (List.map (qv ad) (.int j :: .ref a :: S'))) rfl rfl hd2 _ k
theorem QTri.stored (Ad : QAd n0 ad) {pc : Nat} {L : QLoc} {S S' : List Value} {σ : QHeap} {a j : Nat} {w : Value} {c d : QCell} (hx1 : hget σ a = some c) (b1 : k0 ≤ a) (hz : qsz d = qsz c) (h : QTri l Z n0 ad m (pc + 1, L, S', σ.set a d) v σ')
  (hs : ∀ (p : Program) (e : Env) (R : Room) (s : State) (mid : MethodId) (args : Array Value) (below : List Frame) (meth : Method) (c : Code) (T : State) (locs : List Loc) (cells slots : Nat) (C : Array Slot),
   QCx Z p R s mid meth c m → Stand p l e R s mid args below meth c T locs cells slots → QRep Z n0 ad T.heap σ →
   ∃ T' h', Stand p l e R s mid args below meth c T' (locs ++ [⟨ad a, j⟩]) cells slots ∧ T'.heap = h' ∧ Wr T.heap h' (ad a) j w ∧ QCellOk Z ad h' (ad a) d ∧ ∀ target, Steps p.tables e below (T'.setTop (mkF mid (pc + 1) C (S'.map (qv ad)))) target → Steps p.tables e below (T.setTop (mkF mid pc C (S.map (qv ad)))) target) :
  QTri l Z n0 ad m (pc, L, S, σ) v σ' := by
 have hsz : qhs (σ.set a d) = qhs σ := qhs_set hx1 hz
 refine QTri.gen h (by simp) (by show qhs σ ≤ qhs (σ.set a d); rw [hsz]; exact Nat.le_refl _) fun p e R s mid args below meth c T locs cells slots C hcx X hR hF hL hC hn hc1 hsl => ?_
 obtain ⟨T₁, h₁, X₁, e₁, W₁, Q₁, st⟩ := hs p e R s mid args below meth c T locs cells slots C hcx X hR
 refine ⟨T₁, _, C, ?_, ?_, Fr.snoc X₁ hF (by rw [Ad.1 a b1]; exact Nat.le_add_right _ _), hL, hC, st⟩
 ·show Stand _ _ _ _ _ _ _ _ _ _ _ _ (cells + ((σ.set a d).length - σ.length)) (slots + (qhs (σ.set a d) - qhs σ))
  rw [hsz, Nat.sub_self, List.length_set, Nat.sub_self]
  exact X₁
 ·rw [e₁]
  exact QRep.set hR Ad W₁ hx1 Q₁
set_option maxHeartbeats 4000000 in
theorem QTri.iastore (Ad : QAd n0 ad) {pc aux : Nat} {L : QLoc} {S : List Value} {σ : QHeap} {st' : QSt} (h : QTri l Z n0 ad m st' v σ') (hc : pCode m pc = some (.iastore, aux)) (hs : qast (pc + 1) L S σ tyI = some st') : QTri l Z n0 ad m (pc, L, S, σ) v σ' := by
 have hd : decode (pBytes m) pc = .ok (.iastore, 1) := pDecN hc rfl
 obtain ⟨w, j, a, S', ty, xs, ys, rfl, hx1, ht, b1, hw, rfl⟩ := qast_inv hs
 obtain rfl := tyI_inv ht
 refine QTri.stored Ad (j := j.toNatClampNeg) (w := .int w) hx1 b1 (by rw [(aset_inv hw).2.2]; simp [qsz]) h fun p e R s mid args below meth c T locs cells slots C hcx X hR => ?_
 have hd2 : decode c.code pc = .ok (.iastore, 1) := by rw [hcx.2.2.1]; exact hd
 obtain ⟨cl, A, hsl⟩ := hR.2.2 _ _ hx1
 obtain ⟨i1, i2⟩ := ast_in hsl hw
 obtain ⟨T₁, h₁, X₁, e₁, W₁, st⟩ := stI X hcx.1 hcx.2.1 rfl A i1 (g := mkF mid pc C (List.map (qv ad) (.int w :: .int j :: .ref a :: S'))) rfl rfl hd2
 exact ⟨T₁, h₁, X₁, e₁, W₁, ⟨_, A.same W₁, i2⟩, st⟩
set_option maxHeartbeats 4000000 in
theorem QTri.bastore (Ad : QAd n0 ad) {pc aux : Nat} {L : QLoc} {S : List Value} {σ : QHeap} {st' : QSt} (h : QTri l Z n0 ad m st' v σ') (hc : pCode m pc = some (.bastore, aux)) (hs : qast (pc + 1) L S σ tyB = some st') : QTri l Z n0 ad m (pc, L, S, σ) v σ' := by
 have hd : decode (pBytes m) pc = .ok (.bastore, 1) := pDecN hc rfl
 obtain ⟨w, j, a, S', ty, xs, ys, rfl, hx1, ht, b1, hw, rfl⟩ := qast_inv hs
 refine QTri.stored Ad (j := j.toNatClampNeg) (w := .int (qnar ty w)) hx1 b1 (by rw [(aset_inv hw).2.2]; simp [qsz]) h fun p e R s mid args below meth c T locs cells slots C hcx X hR => ?_
 have hd2 : decode c.code pc = .ok (.bastore, 1) := by rw [hcx.2.2.1]; exact hd
 obtain ⟨cl, A, hsl⟩ := hR.2.2 _ _ hx1
 obtain ⟨i1, i2⟩ := ast_in hsl hw
 rcases tyB_inv ht with rfl | rfl
 ·obtain ⟨T₁, h₁, X₁, e₁, W₁, st⟩ := stZ X hcx.1 hcx.2.1 rfl A i1 (g := mkF mid pc C (List.map (qv ad) (.int w :: .int j :: .ref a :: S'))) rfl rfl hd2
  exact ⟨T₁, h₁, X₁, e₁, W₁, ⟨_, A.same W₁, i2⟩, st⟩
 ·obtain ⟨T₁, h₁, X₁, e₁, W₁, st⟩ := stB X hcx.1 hcx.2.1 rfl A i1 (g := mkF mid pc C (List.map (qv ad) (.int w :: .int j :: .ref a :: S'))) rfl rfl hd2
  exact ⟨T₁, h₁, X₁, e₁, W₁, ⟨_, A.same W₁, i2⟩, st⟩
set_option maxHeartbeats 4000000 in
theorem QTri.lastore (Ad : QAd n0 ad) {pc aux : Nat} {L : QLoc} {S : List Value} {σ : QHeap} {st' : QSt} (h : QTri l Z n0 ad m st' v σ') (hc : pCode m pc = some (.lastore, aux)) (hs : qastJ (pc + 1) L S σ = some st') : QTri l Z n0 ad m (pc, L, S, σ) v σ' := by
 have hd : decode (pBytes m) pc = .ok (.lastore, 1) := pDecN hc rfl
 obtain ⟨w, j, a, S', xs, ys, rfl, hx1, b1, hw, rfl⟩ := qastJ_inv hs
 refine QTri.stored Ad (j := j.toNatClampNeg) (w := .long w) hx1 b1 (by rw [(aset_inv hw).2.2]; simp [qsz]) h fun p e R s mid args below meth c T locs cells slots C hcx X hR => ?_
 have hd2 : decode c.code pc = .ok (.lastore, 1) := by rw [hcx.2.2.1]; exact hd
 obtain ⟨cl, A, hsl⟩ := hR.2.2 _ _ hx1
 obtain ⟨i1, i2⟩ := ast_in hsl hw
 obtain ⟨T₁, h₁, X₁, e₁, W₁, st⟩ := stJ X hcx.1 hcx.2.1 rfl A i1 (g := mkF mid pc C (List.map (qv ad) (.long w :: .int j :: .ref a :: S'))) rfl rfl hd2
 exact ⟨T₁, h₁, X₁, e₁, W₁, ⟨_, A.same W₁, i2⟩, st⟩
set_option maxHeartbeats 4000000 in
theorem QTri.alen {pc aux : Nat} {L : QLoc} {S : List Value} {σ : QHeap} {st' : QSt} (h : QTri l Z n0 ad m st' v σ') (hc : pCode m pc = some (.arraylength, aux)) (hs : qlen (pc + 1) L S σ = some st') : QTri l Z n0 ad m (pc, L, S, σ) v σ' := by
 have hd : decode (pBytes m) pc = .ok (.arraylength, 1) := pDecN hc rfl
 obtain ⟨a, S', n, rfl, hx1, rfl⟩ := qlen_inv hs
 refine QTri.stack h fun p e R s mid args below meth c T locs cells slots C target hx hZ hby hown X hR hL k => ?_
 have hd2 : decode c.code pc = .ok (.arraylength, 1) := by rw [hby]; exact hd
 rcases hx1 with ⟨ty, xs, hx1, rfl⟩ | ⟨xs, hx1, rfl⟩
 ·obtain ⟨cl, A, hsl⟩ := hR.2.2 _ _ hx1
  have e1 : cl.slots.size = xs.length := by rw [hsl]; simp
  rw [← e1] at k
  exact X.arraylength hx A.1 (State.isArrayOf_alike hZ.alike A.2.1) (g := mkF mid pc C (List.map (qv ad) (.ref a :: S'))) rfl rfl hd2 _ k
 ·obtain ⟨cl, A, hsl⟩ := hR.2.2 _ _ hx1
  have e1 : cl.slots.size = xs.length := by rw [hsl]; simp
  rw [← e1] at k
  exact X.arraylength hx A.1 (State.isArrayOf_alike hZ.alike A.2.1) (g := mkF mid pc C (List.map (qv ad) (.ref a :: S'))) rfl rfl hd2 _ k
set_option maxHeartbeats 4000000 in
theorem QTri.newObj (Ad : QAd n0 ad) (W : QW Z a0) {pc idx aux : Nat} {L : QLoc} {S : List Value} {σ : QHeap} (h : QTri l Z n0 ad m (pc + 3, L, .ref σ.length :: S, σ ++ [.inl cDef]) v σ') (hc : pCode m pc = some (.new idx, aux)) : QTri l Z n0 ad m (pc, L, S, σ) v σ' := by
 have hd : decode (pBytes m) pc = .ok (.new idx, 3) := pDecN hc rfl
 have hm := mem_of_contains (show lkN.contains (pK m, idx) = true from pRest hc)
 refine QTri.gen h (by simp) (by simp [qhs_app]) fun p e R s mid args below meth c T locs cells slots C hcx X hR hF hL hC hn hc1 hsl => ?_
 obtain ⟨hx, hZ, hby, hml, hret, hown, hnm, hfr, hlo⟩ := hcx
 have hd2 : decode c.code pc = .ok (.new idx, 3) := by rw [hby]; exact hd
 simp only [List.length_append, List.length_singleton, Nat.add_sub_cancel_left, qgrow, qsz] at hc1 hsl ⊢
 obtain ⟨T₁, h₁, X₁, e₁, E₁, A₁, D₁, -, st⟩ := newO X hx hZ hown (index := idx) (qw_nw W (pK m, idx) hm) ((qw_inst W)) ((qw_init W)) rfl (g := mkF mid pc C (S.map (qv ad))) rfl hd2 hc1 hsl
 have hsz : h₁.size = T.heap.size + 1 := by
  have q1 := X₁.heapSize
  have q2 : T.heap.size < h₁.size := A₁.lt
  have q3 : T.heap.size = n0 + (σ.length - k0) := hR.2.1
  rw [e₁] at q1
  have : n0 + (σ.length - k0) = s.heap.size + cells := hn
  omega
 refine ⟨T₁, locs, C, X₁, ?_, hF, hL, hC, fun target q => ?_⟩
 ·rw [e₁]
  refine QRep.push hR Ad E₁ hsz ⟨A₁, cDefL, fun k u hk hu => ?_⟩
  rw [cDefs k hk] at hu
  cases hu
  have e3 : qv ad (defaultValue (fTy k)) = defaultValue (fTy k) := by
   cases hq : defaultValue (fTy k) with
   | ref a => exact absurd hq (fDef k hk a)
   | _ => rfl
  rw [e3]
  exact D₁ (laid_of W hk) (fPrs k hk)
 ·refine st _ ?_
  have e2 : ad σ.length = T.heap.size := by rw [Ad.1 _ hR.1]; exact hR.2.1.symm
  simp only [List.map_cons, qv, e2] at q
  exact q
set_option maxHeartbeats 8000000 in
theorem QTri.step (Ad : QAd n0 ad) (W : QW Z a0) {st st' : QSt} (h : QTri l Z n0 ad m st' v σ') (hs : qstep m st = some st') : QTri l Z n0 ad m st v σ' := by
 obtain ⟨pc, L, S, σ⟩ := st
 unfold qstep at hs
 dsimp only at hs
 split at hs
 rotate_left
 ·cases hs
 rename_i i aux hc
 have hd := pDecN hc rfl
 have hr := pRest hc
 unfold qexec at hs
 split at hs
 ·-- aload_n
  obtain ⟨w, h1, h2, rfl⟩ := qload_inv hs
  obtain ⟨a, rfl⟩ := isR_inv h2
  exact QTri.stack h fun p e R s mid args below meth c T locs cells slots C target hx hZ hby hown X hR hL k => XS.aloadN X.here hx rfl (hb hby hd) (hL.2.1 _ _ h1) rfl k
 ·obtain ⟨w, h1, h2, rfl⟩ := qload_inv hs
  obtain ⟨a, rfl⟩ := isR_inv h2
  exact QTri.stack h fun p e R s mid args below meth c T locs cells slots C target hx hZ hby hown X hR hL k => XS.aload X.here hx rfl (hb hby hd) (hL.2.1 _ _ h1) rfl k
 ·obtain ⟨w, h1, h2, rfl⟩ := qload_inv hs
  obtain ⟨a, rfl⟩ := isI_inv h2
  exact QTri.stack h fun p e R s mid args below meth c T locs cells slots C target hx hZ hby hown X hR hL k => XS.iloadN X.here hx rfl (hb hby hd) (hL.2.1 _ _ h1) k
 ·obtain ⟨w, h1, h2, rfl⟩ := qload_inv hs
  obtain ⟨a, rfl⟩ := isI_inv h2
  exact QTri.stack h fun p e R s mid args below meth c T locs cells slots C target hx hZ hby hown X hR hL k => XS.iload X.here hx rfl (hb hby hd) (hL.2.1 _ _ h1) k
 ·obtain ⟨w, h1, h2, rfl⟩ := qload_inv hs
  obtain ⟨a, rfl⟩ := isJ_inv h2
  exact QTri.stack h fun p e R s mid args below meth c T locs cells slots C target hx hZ hby hown X hR hL k => XT.lloadN X.here hx rfl (hb hby hd) (hL.2.1 _ _ h1) k
 ·obtain ⟨w, h1, h2, rfl⟩ := qload_inv hs
  obtain ⟨a, rfl⟩ := isJ_inv h2
  exact QTri.stack h fun p e R s mid args below meth c T locs cells slots C target hx hZ hby hown X hR hL k => XT.lload X.here hx rfl (hb hby hd) (hL.2.1 _ _ h1) k
 ·cases hs -- iconst
  exact QTri.stack h fun p e R s mid args below meth c T locs cells slots C target hx hZ hby hown X hR hL k => XS.iconst X.here hx rfl (hb hby hd) k
 ·cases hs
  exact QTri.stack h fun p e R s mid args below meth c T locs cells slots C target hx hZ hby hown X hR hL k => XS.bipush X.here hx rfl (hb hby hd) k
 ·cases hs
  exact QTri.stack h fun p e R s mid args below meth c T locs cells slots C target hx hZ hby hown X hR hL k => XS.sipush X.here hx rfl (hb hby hd) k
 ·cases hs
  exact QTri.stack h fun p e R s mid args below meth c T locs cells slots C target hx hZ hby hown X hR hL k => XT.lconst X.here hx rfl (hb hby hd) k
 ·-- ldc
  unfold qldc at hs
  split at hs
  ·rename_i w hw
   cases hs
   obtain ⟨x, hx1, hx2⟩ := qw_cI W (pK m, _, aux) (mem_of_contains (show lkC.contains (pK m, _, aux) = true from hr))
   rw [show vget cK aux = some w from hw] at hx1
   cases hx1
   exact QTri.stack h fun p e R s mid args below meth c T locs cells slots C target hx hZ hby hown X hR hL k => X.ldcI hx hown (mv hZ hx2) rfl (hb hby hd) k
  ·cases hs
 ·unfold qldc at hs
  split at hs
  ·rename_i w hw
   cases hs
   obtain ⟨x, hx1, hx2⟩ := qw_cJ W (pK m, _, aux) (mem_of_contains (show lkD.contains (pK m, _, aux) = true from hr))
   rw [show vget cK aux = some w from hw] at hx1
   cases hx1
   exact QTri.stack h fun p e R s mid args below meth c T locs cells slots C target hx hZ hby hown X hR hL k => X.ldc2J hx hown (mv hZ hx2) rfl (hb hby hd) k
  ·cases hs
 ·-- istore_n
  obtain ⟨w, S', L', rfl, h2, h3, rfl⟩ := qstore_inv hs
  obtain ⟨a, rfl⟩ := isI_inv h2
  exact QTri.frame h fun p e R s mid args below meth c T locs cells slots C hcx X hR hL hC => by
   obtain ⟨D, d1, d2, d3⟩ := store_ok hL h3
   exact ⟨D, d2, d3.trans hC, fun target k => XS.istoreN X.here hcx.1 rfl (hb hcx.2.2.1 hd) rfl d1 k⟩
 ·obtain ⟨w, S', L', rfl, h2, h3, rfl⟩ := qstore_inv hs
  obtain ⟨a, rfl⟩ := isI_inv h2
  exact QTri.frame h fun p e R s mid args below meth c T locs cells slots C hcx X hR hL hC => by
   obtain ⟨D, d1, d2, d3⟩ := store_ok hL h3
   exact ⟨D, d2, d3.trans hC, fun target k => XS.istore X.here hcx.1 rfl (hb hcx.2.2.1 hd) rfl d1 k⟩
 ·obtain ⟨w, S', L', rfl, h2, h3, rfl⟩ := qstore_inv hs
  obtain ⟨a, rfl⟩ := isJ_inv h2
  exact QTri.frame h fun p e R s mid args below meth c T locs cells slots C hcx X hR hL hC => by
   obtain ⟨D, d1, d2, d3⟩ := store_ok hL h3
   exact ⟨D, d2, d3.trans hC, fun target k => XT.lstoreN X.here hcx.1 rfl (hb hcx.2.2.1 hd) rfl d1 k⟩
 ·obtain ⟨w, S', L', rfl, h2, h3, rfl⟩ := qstore_inv hs
  obtain ⟨a, rfl⟩ := isJ_inv h2
  exact QTri.frame h fun p e R s mid args below meth c T locs cells slots C hcx X hR hL hC => by
   obtain ⟨D, d1, d2, d3⟩ := store_ok hL h3
   exact ⟨D, d2, d3.trans hC, fun target k => XT.lstore X.here hcx.1 rfl (hb hcx.2.2.1 hd) rfl d1 k⟩
 ·obtain ⟨w, S', L', rfl, h2, h3, rfl⟩ := qstore_inv hs
  obtain ⟨a, rfl⟩ := isR_inv h2
  exact QTri.frame h fun p e R s mid args below meth c T locs cells slots C hcx X hR hL hC => by
   obtain ⟨D, d1, d2, d3⟩ := store_ok hL h3
   exact ⟨D, d2, d3.trans hC, fun target k => XS.astoreN X.here hcx.1 rfl (hb hcx.2.2.1 hd) rfl rfl d1 k⟩
 ·obtain ⟨w, S', L', rfl, h2, h3, rfl⟩ := qstore_inv hs
  obtain ⟨a, rfl⟩ := isR_inv h2
  exact QTri.frame h fun p e R s mid args below meth c T locs cells slots C hcx X hR hL hC => by
   obtain ⟨D, d1, d2, d3⟩ := store_ok hL h3
   exact ⟨D, d2, d3.trans hC, fun target k => XS.astore X.here hcx.1 rfl (hb hcx.2.2.1 hd) rfl rfl d1 k⟩
 ·-- iinc
  unfold qinc at hs
  split at hs
  ·rename_i x hx1
   split at hs
   ·rename_i L' hL'
    cases hs
    exact QTri.frame h fun p e R s mid args below meth c T locs cells slots C hcx X hR hL hC => by
     obtain ⟨D, d1, d2, d3⟩ := store_ok hL hL'
     exact ⟨D, d2, d3.trans hC, fun target k => XS.iinc X.here hcx.1 rfl (hb hcx.2.2.1 hd) (hL.2.1 _ _ hx1) d1 k⟩
   ·cases hs
  ·cases hs
 ·obtain ⟨x, y, S', rfl, rfl⟩ := qbin_inv hs -- iadd
  exact QTri.stack h fun p e R s mid args below meth c T locs cells slots C target hx hZ hby hown X hR hL k => XS.iadd X.here hx rfl (hb hby hd) rfl k
 ·obtain ⟨x, y, S', rfl, rfl⟩ := qbin_inv hs
  exact QTri.stack h fun p e R s mid args below meth c T locs cells slots C target hx hZ hby hown X hR hL k => XS.isub X.here hx rfl (hb hby hd) rfl k
 ·obtain ⟨x, y, S', rfl, rfl⟩ := qbin_inv hs
  exact QTri.stack h fun p e R s mid args below meth c T locs cells slots C target hx hZ hby hown X hR hL k => XS.imul X.here hx rfl (hb hby hd) rfl k
 ·obtain ⟨x, y, S', rfl, rfl⟩ := qbin_inv hs
  exact QTri.stack h fun p e R s mid args below meth c T locs cells slots C target hx hZ hby hown X hR hL k => XS.iand X.here hx rfl (hb hby hd) rfl k
 ·obtain ⟨x, y, S', rfl, rfl⟩ := qbin_inv hs
  exact QTri.stack h fun p e R s mid args below meth c T locs cells slots C target hx hZ hby hown X hR hL k => XT.ior X.here hx rfl (hb hby hd) rfl k
 ·obtain ⟨x, y, S', rfl, rfl⟩ := qbin_inv hs
  exact QTri.stack h fun p e R s mid args below meth c T locs cells slots C target hx hZ hby hown X hR hL k => XT.ixor X.here hx rfl (hb hby hd) rfl k
 ·obtain ⟨x, y, S', rfl, rfl⟩ := qbin_inv hs
  exact QTri.stack h fun p e R s mid args below meth c T locs cells slots C target hx hZ hby hown X hR hL k => XT.ishl X.here hx rfl (hb hby hd) rfl k
 ·obtain ⟨x, y, S', rfl, rfl⟩ := qbin_inv hs
  exact QTri.stack h fun p e R s mid args below meth c T locs cells slots C target hx hZ hby hown X hR hL k => XT.ishr X.here hx rfl (hb hby hd) rfl k
 ·obtain ⟨x, y, S', rfl, rfl⟩ := qbin_inv hs
  exact QTri.stack h fun p e R s mid args below meth c T locs cells slots C target hx hZ hby hown X hR hL k => XT.iushr X.here hx rfl (hb hby hd) rfl k
 ·obtain ⟨x, y, z, S', rfl, hz, rfl⟩ := qbino_inv hs -- idiv
  unfold qdiv at hz
  split at hz
  ·cases hz
  ·rename_i hy
   cases hz
   exact QTri.stack h fun p e R s mid args below meth c T locs cells slots C target hx hZ hby hown X hR hL k => XS.idiv X.here hx rfl (hb hby hd) rfl hy k
 ·obtain ⟨x, y, z, S', rfl, hz, rfl⟩ := qbino_inv hs
  unfold qrem at hz
  split at hz
  ·cases hz
  ·rename_i hy
   cases hz
   exact QTri.stack h fun p e R s mid args below meth c T locs cells slots C target hx hZ hby hown X hR hL k => iremM X hx rfl (hb hby hd) rfl hy k
 ·obtain ⟨x, S', rfl, rfl⟩ := quni_inv hs -- ineg
  exact QTri.stack h fun p e R s mid args below meth c T locs cells slots C target hx hZ hby hown X hR hL k => XS.ineg X.here hx rfl (hb hby hd) rfl k
 ·obtain ⟨x, S', rfl, rfl⟩ := quni_inv hs
  exact QTri.stack h fun p e R s mid args below meth c T locs cells slots C target hx hZ hby hown X hR hL k => XT.i2l X.here hx rfl (hb hby hd) rfl k
 ·obtain ⟨x, S', rfl, rfl⟩ := quni_inv hs
  exact QTri.stack h fun p e R s mid args below meth c T locs cells slots C target hx hZ hby hown X hR hL k => XT.i2b X.here hx rfl (hb hby hd) rfl k
 ·obtain ⟨x, S', rfl, rfl⟩ := quniJ_inv hs
  exact QTri.stack h fun p e R s mid args below meth c T locs cells slots C target hx hZ hby hown X hR hL k => XT.l2i X.here hx rfl (hb hby hd) rfl k
 ·obtain ⟨x, S', rfl, rfl⟩ := quniJ_inv hs
  exact QTri.stack h fun p e R s mid args below meth c T locs cells slots C target hx hZ hby hown X hR hL k => XT.lneg X.here hx rfl (hb hby hd) rfl k
 ·obtain ⟨x, y, S', rfl, rfl⟩ := qbinJ_inv hs
  exact QTri.stack h fun p e R s mid args below meth c T locs cells slots C target hx hZ hby hown X hR hL k => XT.ladd X.here hx rfl (hb hby hd) rfl k
 ·obtain ⟨x, y, S', rfl, rfl⟩ := qbinJ_inv hs
  exact QTri.stack h fun p e R s mid args below meth c T locs cells slots C target hx hZ hby hown X hR hL k => XT.lsub X.here hx rfl (hb hby hd) rfl k
 ·obtain ⟨x, y, S', rfl, rfl⟩ := qbinJ_inv hs
  exact QTri.stack h fun p e R s mid args below meth c T locs cells slots C target hx hZ hby hown X hR hL k => XT.lmul X.here hx rfl (hb hby hd) rfl k
 ·obtain ⟨x, y, S', rfl, rfl⟩ := qbinJ_inv hs
  exact QTri.stack h fun p e R s mid args below meth c T locs cells slots C target hx hZ hby hown X hR hL k => XT.land X.here hx rfl (hb hby hd) rfl k
 ·obtain ⟨x, y, S', rfl, rfl⟩ := qbinJ_inv hs
  exact QTri.stack h fun p e R s mid args below meth c T locs cells slots C target hx hZ hby hown X hR hL k => XT.lor X.here hx rfl (hb hby hd) rfl k
 ·obtain ⟨x, y, S', rfl, rfl⟩ := qbinJ_inv hs
  exact QTri.stack h fun p e R s mid args below meth c T locs cells slots C target hx hZ hby hown X hR hL k => XT.lxor X.here hx rfl (hb hby hd) rfl k
 ·obtain ⟨x, y, S', rfl, rfl⟩ := qshJ_inv hs
  exact QTri.stack h fun p e R s mid args below meth c T locs cells slots C target hx hZ hby hown X hR hL k => XT.lshl X.here hx rfl (hb hby hd) rfl k
 ·obtain ⟨x, y, S', rfl, rfl⟩ := qshJ_inv hs
  exact QTri.stack h fun p e R s mid args below meth c T locs cells slots C target hx hZ hby hown X hR hL k => XT.lshr X.here hx rfl (hb hby hd) rfl k
 ·obtain ⟨x, y, S', rfl, rfl⟩ := qshJ_inv hs
  exact QTri.stack h fun p e R s mid args below meth c T locs cells slots C target hx hZ hby hown X hR hL k => XT.lushr X.here hx rfl (hb hby hd) rfl k
 ·split at hs -- lcmp
  ·cases hs
   exact QTri.stack h fun p e R s mid args below meth c T locs cells slots C target hx hZ hby hown X hR hL k => XT.lcmp X.here hx rfl (hb hby hd) rfl k
  ·cases hs
 ·cases hs -- goto
  obtain ⟨t1, t2⟩ := qtgt_spec hr
  exact QTri.stack h fun p e R s mid args below meth c T locs cells slots C target hx hZ hby hown X hR hL k => XS.goto X.here hx rfl rfl (hb hby hd) t1 t2 k
 ·obtain ⟨x, S', rfl, rfl⟩ := qif_inv hs
  obtain ⟨t1, t2⟩ := qtgt_spec hr
  cases hh : ifCond.holds _ x with
  | true => rw [hh] at h; exact QTri.stack h fun p e R s mid args below meth c T locs cells slots C target hx hZ hby hown X hR hL k => XS.ifYes X.here hx rfl rfl (hb hby hd) rfl hh t1 t2 k
  | false => rw [hh] at h; exact QTri.stack h fun p e R s mid args below meth c T locs cells slots C target hx hZ hby hown X hR hL k => XS.ifNo X.here hx rfl (hb hby hd) rfl hh k
 ·obtain ⟨x, y, S', rfl, rfl⟩ := qicmp_inv hs
  obtain ⟨t1, t2⟩ := qtgt_spec hr
  cases hh : if_icmp.holds _ x y with
  | true => rw [hh] at h; exact QTri.stack h fun p e R s mid args below meth c T locs cells slots C target hx hZ hby hown X hR hL k => XS.icmpYes X.here hx rfl rfl (hb hby hd) rfl hh t1 t2 k
  | false => rw [hh] at h; exact QTri.stack h fun p e R s mid args below meth c T locs cells slots C target hx hZ hby hown X hR hL k => XS.icmpNo X.here hx rfl (hb hby hd) rfl hh k
 ·unfold qdup at hs
  split at hs
  ·cases hs
   exact QTri.stack h fun p e R s mid args below meth c T locs cells slots C target hx hZ hby hown X hR hL k => XS.dup X.here hx rfl (hb hby hd) rfl rfl k
  ·cases hs
   exact QTri.stack h fun p e R s mid args below meth c T locs cells slots C target hx hZ hby hown X hR hL k => XS.dup X.here hx rfl (hb hby hd) rfl rfl k
  ·cases hs
 ·unfold qdup2 at hs
  split at hs
  ·cases hs
   exact QTri.stack h fun p e R s mid args below meth c T locs cells slots C target hx hZ hby hown X hR hL k => XT.dup2 X.here hx rfl (hb hby hd) rfl rfl rfl k
  ·cases hs
   exact QTri.stack h fun p e R s mid args below meth c T locs cells slots C target hx hZ hby hown X hR hL k => XT.dup2 X.here hx rfl (hb hby hd) rfl rfl rfl k
  ·cases hs
   exact QTri.stack h fun p e R s mid args below meth c T locs cells slots C target hx hZ hby hown X hR hL k => XT.dup2L X.here hx rfl (hb hby hd) rfl k
  ·cases hs
 ·unfold qpop at hs
  split at hs
  ·cases hs
   exact QTri.stack h fun p e R s mid args below meth c T locs cells slots C target hx hZ hby hown X hR hL k => XT.pop X.here hx rfl (hb hby hd) rfl rfl k
  ·cases hs
   exact QTri.stack h fun p e R s mid args below meth c T locs cells slots C target hx hZ hby hown X hR hL k => XT.pop X.here hx rfl (hb hby hd) rfl rfl k
  ·cases hs
 ·exact QTri.getfield W h hc hs
 ·exact QTri.putfield Ad W h hc hs
 ·exact QTri.iaload h hc hs
 ·exact QTri.baload h hc hs
 ·exact QTri.laload h hc hs
 ·exact QTri.iastore Ad h hc hs
 ·exact QTri.bastore Ad h hc hs
 ·exact QTri.lastore Ad h hc hs
 ·exact QTri.alen h hc hs
 ·-- newarray
  unfold qnewA at hs
  split at hs
  ·split at hs
   ·obtain ⟨k, hk, hs⟩ := Option.bind_eq_some_iff.mp hs
    cases hs
    exact QTri.newArr (c := .inr (.inl (.int, List.replicate k 0))) Ad W hk hc (by simp [qsz]) (fun h' a cA A => ⟨_, A, by simp [newA, (qnew_inv hk).2.1]; exact Or.inr rfl⟩) h
   ·obtain ⟨k, hk, hs⟩ := Option.bind_eq_some_iff.mp hs
    cases hs
    exact QTri.newArr (c := .inr (.inl (.boolean, List.replicate k 0))) Ad W hk hc (by simp [qsz]) (fun h' a cA A => ⟨_, A, by simp [newA, (qnew_inv hk).2.1]; exact Or.inr rfl⟩) h
   ·obtain ⟨k, hk, hs⟩ := Option.bind_eq_some_iff.mp hs
    cases hs
    exact QTri.newArr (c := .inr (.inl (.byte, List.replicate k 0))) Ad W hk hc (by simp [qsz]) (fun h' a cA A => ⟨_, A, by simp [newA, (qnew_inv hk).2.1]; exact Or.inr rfl⟩) h
   ·obtain ⟨k, hk, hs⟩ := Option.bind_eq_some_iff.mp hs
    cases hs
    exact QTri.newArr (c := .inr (.inr (List.replicate k 0))) Ad W hk hc (by simp [qsz]) (fun h' a cA A => ⟨_, A, by simp [newA, (qnew_inv hk).2.1]; exact Or.inr rfl⟩) h
   ·cases hs
  ·cases hs
 ·cases hs; exact QTri.newObj Ad W h hc
 ·cases hs
theorem QTri.steps (Ad : QAd n0 ad) (W : QW Z a0) : ∀ (n : Nat) {st st' : QSt}, qsteps m n st = some st' → QTri l Z n0 ad m st' v σ' → QTri l Z n0 ad m st v σ'
 | 0, st, st', h, k => by cases h; exact k
 | n + 1, st, st', h, k => by
  simp only [qsteps] at h
  split at h
  ·rename_i st₁ h1
   exact QTri.step Ad W (QTri.steps Ad W n h k) h1
  ·cases h
def lmask : List Bool → QLoc → QLoc
 | b :: t, x :: u => (bif b then x else none) :: lmask t u
 | _, L => L.map fun _ => none
theorem lmask_len : ∀ (b : List Bool) (L : QLoc), (lmask b L).length = L.length
 | [], L => by simp [lmask]
 | _ :: _, [] => by simp [lmask]
 | _ :: t, _ :: u => by simp [lmask, lmask_len t u]
theorem lmask_get : ∀ (b : List Bool) (L : QLoc) (k : Nat) (v : Value), lget (lmask b L) k = some v → lget L k = some v
 | [], L, k, v, h => by
  simp only [lmask, lget_eq, List.getElem?_map] at h
  cases hq : L[k]? <;> simp [hq] at h
 | _ :: _, [], k, v, h => by simp [lmask, lget] at h
 | b :: t, x :: u, 0, v, h => by
  simp only [lmask, lget] at h ⊢
  cases b
  ·cases h
  ·exact h
 | b :: t, x :: u, k + 1, v, h => by
  simp only [lmask, lget] at h ⊢
  exact lmask_get t u k v h
theorem QTri.mask {pc : Nat} {L : QLoc} {S : List Value} {σ : QHeap} (b : List Bool) (h : QTri l Z n0 ad m (pc, lmask b L, S, σ) v σ') : QTri l Z n0 ad m (pc, L, S, σ) v σ' :=
 QTri.frame h fun p e R s mid args below meth c T locs cells slots C hcx X hR hL hC => ⟨C, ⟨by rw [lmask_len]; exact hL.1, fun k u hk => hL.2.1 k u (lmask_get b L k u hk), hL.2.2⟩, hC, fun target k => k⟩
theorem QTri.ret0 {pc aux : Nat} {L : QLoc} {σ : QHeap} (hc : pCode m pc = some (.return_, aux)) (hr : pRet m = none) : QTri l Z n0 ad m (pc, L, [], σ) none σ :=
 have hd : decode (pBytes m) pc = .ok (.return_, 1) := pDecN hc rfl
 ⟨Nat.le_refl _, Nat.le_refl _, fun p e R s mid args below meth c T locs cells slots C hcx X hR hF hL hC hn hc1 hsl => ⟨T, locs, by simpa using X, hR, hF, fun fs hf => X.returnOut hcx.1 (hcx.2.2.2.2.1.trans hr) (hb hcx.2.2.1 hd) hf⟩⟩
theorem QTri.retI {pc aux : Nat} {L : QLoc} {S : List Value} {σ : QHeap} {x : Int32} (hc : pCode m pc = some (.ireturn, aux)) (hr : pRet m = some .int) : QTri l Z n0 ad m (pc, L, .int x :: S, σ) (some (.int x)) σ :=
 have hd : decode (pBytes m) pc = .ok (.ireturn, 1) := pDecN hc rfl
 ⟨Nat.le_refl _, Nat.le_refl _, fun p e R s mid args below meth c T locs cells slots C hcx X hR hF hL hC hn hc1 hsl => ⟨T, locs, by simpa using X, hR, hF, fun fs hf => Jvm.RoadKit.retI X hcx.1 (hcx.2.2.2.2.1.trans hr) (hb hcx.2.2.1 hd) hf⟩⟩
theorem QTri.retZ {pc aux : Nat} {L : QLoc} {S : List Value} {σ : QHeap} {x : Int32} (hc : pCode m pc = some (.ireturn, aux)) (hr : pRet m = some .boolean) : QTri l Z n0 ad m (pc, L, .int x :: S, σ) (some (.int (x &&& 1))) σ :=
 have hd : decode (pBytes m) pc = .ok (.ireturn, 1) := pDecN hc rfl
 ⟨Nat.le_refl _, Nat.le_refl _, fun p e R s mid args below meth c T locs cells slots C hcx X hR hF hL hC hn hc1 hsl => ⟨T, locs, by simpa using X, hR, hF, fun fs hf => retN X hcx.1 (t := .boolean) (hcx.2.2.2.2.1.trans hr) (by simp) (hb hcx.2.2.1 hd) hf⟩⟩
theorem QTri.retJ {pc aux : Nat} {L : QLoc} {S : List Value} {σ : QHeap} {x : Int64} (hc : pCode m pc = some (.lreturn, aux)) (hr : pRet m = some .long) : QTri l Z n0 ad m (pc, L, .long x :: S, σ) (some (.long x)) σ :=
 have hd : decode (pBytes m) pc = .ok (.lreturn, 1) := pDecN hc rfl
 ⟨Nat.le_refl _, Nat.le_refl _, fun p e R s mid args below meth c T locs cells slots C hcx X hR hF hL hC hn hc1 hsl => ⟨T, locs, by simpa using X, hR, hF, fun fs hf => retOut X hcx.1 (t := .long) (hcx.2.2.2.2.1.trans hr) rfl (Or.inr (Or.inl ⟨rfl, rfl, _, rfl⟩)) (hb hcx.2.2.1 hd) hf⟩⟩
def LOk (ad : Nat → Addr) (L : QLoc) (C : List Slot) : Prop :=
 L.length = C.length ∧ (∀ k v, lget L k = some v → C[k]? = some (.val (qv ad v))) ∧ (∀ k w, C[k]? = some (.val w) → w.category = 2 → C[k + 1]? = some .second) ∧ ∀ k, C[k]? = some .second → ∃ j w, k = j + 1 ∧ C[j]? = some (.val w) ∧ w.category = 2
theorem LOk.base (ad : Nat → Addr) (n : Nat) : LOk ad (List.replicate n none) (List.replicate n .unset) := by
 refine ⟨by simp, fun k u h => ?_, fun k w h => ?_, fun k h => ?_⟩
 ·rw [lget_eq] at h
  rcases Nat.lt_or_ge k n with q | q
  ·simp [List.getElem?_replicate, q] at h
  ·simp [List.getElem?_eq_none, q] at h
 ·rcases Nat.lt_or_ge k n with q | q
  ·simp [List.getElem?_replicate, q] at h
  ·simp [List.getElem?_eq_none, q] at h
 ·rcases Nat.lt_or_ge k n with q | q
  ·simp [List.getElem?_replicate, q] at h
  ·simp [List.getElem?_eq_none, q] at h
theorem LOk.one {L : QLoc} {C : List Slot} (H : LOk ad L C) {u : Value} (hu : u.category = 1) : LOk ad (some u :: L) (.val (qv ad u) :: C) := by
 obtain ⟨h1, h2, h3, h4⟩ := H
 refine ⟨by simp [h1], fun k w h => ?_, fun k w h hw => ?_, fun k h => ?_⟩
 ·cases k with
  | zero => simp only [lget] at h; cases h; simp
  | succ k => simp only [lget] at h; simpa using h2 k w h
 ·cases k with
  | zero => simp at h; rw [← h, qv_cat, hu] at hw; cases hw
  | succ k => simpa using h3 k w (by simpa using h) hw
 ·cases k with
  | zero => simp at h
  | succ k =>
   obtain ⟨j, w, z1, z2, z3⟩ := h4 k (by simpa using h)
   exact ⟨j + 1, w, by omega, by simpa using z2, z3⟩
theorem LOk.two {L : QLoc} {C : List Slot} (H : LOk ad L C) {u : Value} (hu : u.category = 2) : LOk ad (some u :: none :: L) (.val (qv ad u) :: .second :: C) := by
 obtain ⟨h1, h2, h3, h4⟩ := H
 refine ⟨by simp [h1], fun k w h => ?_, fun k w h hw => ?_, fun k h => ?_⟩
 ·rcases k with _ | _ | k
  ·simp only [lget] at h; cases h; simp
  ·simp [lget] at h
  ·simp only [lget] at h; simpa using h2 k w h
 ·rcases k with _ | _ | k
  ·simp
  ·simp at h
  ·simpa using h3 k w (by simpa using h) hw
 ·rcases k with _ | _ | k
  ·simp at h
  ·exact ⟨0, qv ad u, rfl, by simp, by rw [qv_cat]; exact hu⟩
  ·obtain ⟨j, w, z1, z2, z3⟩ := h4 k (by simpa using h)
   exact ⟨j + 2, w, by omega, by simpa using z2, z3⟩
def slotsOf (u : Value) : List Slot := if u.category = 2 then [.val u, .second] else [.val u]
theorem fold_slots : ∀ (as : List Value) (acc : Array Slot), (as.foldl (fun acc v => if v.category = 2 then (acc.push (.val v)).push .second else acc.push (.val v)) acc).toList = acc.toList ++ as.flatMap slotsOf
 | [], acc => by simp
 | u :: t, acc => by
  rw [List.foldl_cons, fold_slots t]
  by_cases hc : u.category = 2 <;> simp [slotsOf, hc]
theorem slots_len : ∀ (as : List Value), (as.flatMap slotsOf).length = (as.map fun v => v.category).sum
 | [] => rfl
 | u :: t => by
  rw [List.flatMap_cons, List.length_append, slots_len t, List.map_cons, List.sum_cons]
  cases u <;> simp [slotsOf, Value.category]
theorem cats_qv (as : List Value) : ((as.map (qv ad)).map fun v => v.category).sum = (as.map fun v => v.category).sum := by
 rw [List.map_map]
 congr 1
 exact List.map_congr_left fun x _ => qv_cat ad x
theorem entry_list : ∀ (as : List Value) (n : Nat), LOk ad ((as.flatMap fun v => match v with | .long x => [some (.long x), none] | .double x => [some (.double x), none] | v => [some v]) ++ List.replicate n none) ((as.map (qv ad)).flatMap slotsOf ++ List.replicate n .unset)
 | [], n => by simpa using LOk.base ad n
 | u :: t, n => by
  have ih := entry_list t n
  cases u with
  | long x => exact LOk.two ih rfl
  | double x => exact LOk.two ih rfl
  | int x => exact LOk.one ih rfl
  | float x => exact LOk.one ih rfl
  | null => exact LOk.one ih rfl
  | ref x => exact LOk.one ih rfl
  | retAddr x => exact LOk.one ih rfl
theorem qentry_ok (as : List Value) (mx : Nat) (h : (as.map fun v => v.category).sum ≤ mx) : QLocOk ad (qentry as mx) (argsToLocals (as.map (qv ad)).toArray mx) ∧ (argsToLocals (as.map (qv ad)).toArray mx).size = mx := by
 have e : (argsToLocals (as.map (qv ad)).toArray mx).toList = (as.map (qv ad)).flatMap slotsOf ++ List.replicate (mx - (as.map fun v => v.category).sum) .unset := by
  unfold argsToLocals
  have q := fold_slots (as.map (qv ad)) #[]
  simp only [List.foldl_toArray', Array.toList_append, Array.toList_replicate]
  have q2 : ((as.map (qv ad)).foldl (fun (acc : Array Slot) (v : Value) => if v.category = 2 then (acc.push (.val v)).push .second else acc.push (.val v)) #[]).size = (as.map fun v => v.category).sum := by
   rw [← Array.length_toList, q]
   simp only [List.nil_append]
   rw [slots_len, cats_qv]
  rw [q, q2]
  simp
 have H := entry_list (ad := ad) as (mx - (as.map fun v => v.category).sum)
 rw [← e] at H
 obtain ⟨h1, h2, h3, h4⟩ := H
 have hs : (argsToLocals (as.map (qv ad)).toArray mx).size = mx := by
  rw [← Array.length_toList, e, List.length_append, slots_len, cats_qv, List.length_replicate]
  omega
 refine ⟨⟨h1.trans Array.length_toList, fun k u hk => ?_, fun k w hk hw => ?_, fun k hk => ?_⟩, hs⟩
 ·have := h2 k u hk; rwa [Array.getElem?_toList] at this
 ·have := h3 k w (by rw [Array.getElem?_toList]; exact hk) hw; rwa [Array.getElem?_toList] at this
 ·obtain ⟨j, w, z1, z2, z3⟩ := h4 k (by rw [Array.getElem?_toList]; exact hk)
  exact ⟨j, w, z1, by rwa [Array.getElem?_toList] at z2, z3⟩
set_option maxHeartbeats 4000000 in
theorem QTri.met {k : Nat} {as : List Value} {σ σ₁ : QHeap} {w : Option Value} {h0 : Heap} (hk : k < pN) (h : QTri l Z n0 ad k (0, qentry as (pMaxL k), [], σ) w σ₁) (hR : QRep Z n0 ad h0 σ) (hlen : (as.map fun v => v.category).sum ≤ pMaxL k) (hret : pRet k = none → w = none) (ws : List Jvm.Cond) {rm : Room}
  (r1 : pFr k ≤ rm.frames) (r2 : pLo k ≤ rm.locals) (r3 : σ₁.length - σ.length ≤ rm.cells) (r4 : qhs σ₁ - qhs σ ≤ rm.slots) :
  MetFree l (pName k) (head1 (Jvm.Cond.code (pName k) (pBytes k) (pMaxL k) (pRet k) :: ws) rm) (fun a U => a = (as.map (qv ad)).toArray ∧ Z.Warmed39 U.vm ∧ U.heap = h0) (fun _ _ _ _ _ => True)
   (fun _ U o U' => ∃ v L, o = .returned v ∧ (v = w.map (qv ad) ∧ QRep Z n0 ad U'.heap σ₁ ∧ Fr n0 L) ∧ FrameEnd U o U' L (σ₁.length - σ.length) (qhs σ₁ - qhs σ)) := by
 refine MetFree.of_bodySF (plainFor_of_name (kPlain _ (pKlt k hk))) hisR ?_
 intro p e s mid args below meth c s₁ Bd hml0 hP hK
 obtain ⟨rfl, hZ, hh⟩ := hP
 have e0 : s₁.heap = h0 := by rw [← hh, Bd.state]; rfl
 obtain ⟨hl1, hl2⟩ := qentry_ok (ad := ad) as (pMaxL k) hlen
 have hX : Stand p l e rm s mid (as.map (qv ad)).toArray below meth c s₁ [] 0 0 := Stand.of_body Bd
 obtain ⟨T', locs', X', R', F', S'⟩ := h.2.2 p e rm s mid _ below meth c s₁ [] 0 0 _ ⟨Bd.exec, hZ, Bd.bytes, hml0, Bd.returns, findClass_of_methodNamed Bd.named, (name_of_methodNamed Bd.named Bd.method).1, r1, r2⟩ hX (by rw [e0]; exact hR) (Fr.nil _) hl1 (hl2.trans hml0.symm) (by rw [hh, Nat.add_zero]; exact hR.2.1.symm) (by rw [Nat.zero_add]; exact r3) (by rw [Nat.zero_add]; exact r4)
 obtain ⟨fs, hr, hrun, hended, hW, hsame⟩ := X'.leave (v := w.map (qv ad)) (fun q => by rw [hret (Bd.returns.symm.trans q)]; rfl)
 refine ⟨_, _, S' fs hr, hrun, hended, _, _, rfl, ⟨rfl, R', F'⟩, ⟨_, rfl⟩, hW, ?_⟩
 simp only [Nat.zero_add] at hsame
 exact hsame
theorem QTri.room {k : Nat} {σ σ₁ : QHeap} {rest : List Value} {R : Room} (hroom : (Nat.ble (pFr k + 1) (pFr m) && Nat.ble ((rest.map fun v => v.category).sum + (pMaxL k + 11) + pLo k) (pLo m)) = true) (hfr : pFr m ≤ R.frames) (hlo : pLo m ≤ R.locals) :
  pFr k + 1 ≤ R.frames ∧ (rest.map fun v => v.category).sum + (pMaxL k + 11) + pLo k ≤ R.locals := by
 obtain ⟨q1, q2⟩ := Bool.and_eq_true_iff.mp hroom
 exact ⟨Nat.le_trans (Nat.le_of_ble_eq_true q1) hfr, Nat.le_trans (Nat.le_of_ble_eq_true q2) hlo⟩
theorem sig_len {k : Nat} (hk : k < pN) {as : List Value} (hna : as.length = pNA k) : ∀ sig, parseMethodDescriptor (pName k).desc = some sig → (as.map (qv ad)).length = sig.parameters.length := fun sig hs => by
 have q := pSig k hk
 rw [show parseMethodDescriptor (pDs k) = some sig from hs] at q
 simp at q
 simp [hna, q]
theorem ret_map (w : Option Value) (rest : List Value) : (w.toList ++ rest).map (qv ad) = (w.map (qv ad)).toList ++ rest.map (qv ad) := by cases w <;> simp
theorem QTri.after {as0 : List Value} {pc : Nat} {L : QLoc} {S rest : List Value} {σ σ₁ : QHeap} {w : Option Value} {k : Nat} (hcal : QTri l Z n0 ad k (0, qentry as0 (pMaxL k), [], σ) w σ₁) (h : QTri l Z n0 ad m (pc + 3, L, w.toList ++ rest, σ₁) v σ')
  (hs : ∀ (p : Program) (e : Env) (R : Room) (s : State) (mid : MethodId) (args : Array Value) (below : List Frame) (meth : Method) (c : Code) (T : State) (locs : List Loc) (cells slots : Nat) (C : Array Slot),
   QCx Z p R s mid meth c m → Stand p l e R s mid args below meth c T locs cells slots → QRep Z n0 ad T.heap σ → C.size = c.maxLocals → cells + (σ₁.length - σ.length) ≤ R.cells → slots + (qhs σ₁ - qhs σ) ≤ R.slots →
   ∃ T₁ Lc, Stand p l e R s mid args below meth c T₁ (locs ++ Lc) (cells + (σ₁.length - σ.length)) (slots + (qhs σ₁ - qhs σ)) ∧ QRep Z n0 ad T₁.heap σ₁ ∧ Fr n0 Lc ∧
    ∀ target, Steps p.tables e below (T₁.setTop (mkF mid (pc + 3) C ((w.map (qv ad)).toList ++ rest.map (qv ad)))) target → Steps p.tables e below (T.setTop (mkF mid pc C (S.map (qv ad)))) target) :
  QTri l Z n0 ad m (pc, L, S, σ) v σ' := by
 refine QTri.gen h hcal.1 hcal.2.1 fun p e R s mid args below meth c T locs cells slots C hcx X hR hF hL hC hn hc1 hsl => ?_
 obtain ⟨T₁, Lc, X₁, R₁, F₁, st⟩ := hs p e R s mid args below meth c T locs cells slots C hcx X hR hC hc1 hsl
 refine ⟨T₁, locs ++ Lc, C, X₁, R₁, hF.app F₁, hL, hC, fun target q => st target ?_⟩
 rw [← ret_map]
 exact q
set_option maxHeartbeats 4000000 in
theorem QTri.callV (W : QW Z a0) {pc idx k a : Nat} {L : QLoc} {S as rest vs : List Value} {σ σ₁ : QHeap} {w : Option Value} (hc : pCode m pc = some (.invokevirtual idx, k)) (hm : (lkV.contains (pK m, idx, k) && mV.contains k) = true) (hcell : hget σ a = some (.inl vs)) (hS : S = as.reverse ++ .ref a :: rest)
  (hna : as.length = pNA k) (hlen : Nat.ble (((Value.ref a :: as).map fun v => v.category).sum) (pMaxL k) = true) (hroom : (Nat.ble (pFr k + 1) (pFr m) && Nat.ble ((rest.map fun v => v.category).sum + (pMaxL k + 11) + pLo k) (pLo m)) = true) (hrb : (w.isNone || (pRet k).isSome) = true)
  (hcal : QTri l Z n0 ad k (0, qentry (.ref a :: as) (pMaxL k), [], σ) w σ₁) (h : QTri l Z n0 ad m (pc + 3, L, w.toList ++ rest, σ₁) v σ') : QTri l Z n0 ad m (pc, L, S, σ) v σ' := by
 have hd : decode (pBytes m) pc = .ok (.invokevirtual idx, 3) := pDecN hc rfl
 subst hS
 obtain ⟨m1, m2⟩ := Bool.and_eq_true_iff.mp hm
 have m1 := mem_of_contains m1
 have m2 := mem_of_contains m2
 have hkA := (mVlt k m2).1
 have hkN := mAlt k hkA
 have hret : pRet k = none → w = none := fun q => by
  rw [q] at hrb
  cases w with
  | none => rfl
  | some w => simp at hrb
 refine QTri.after hcal h fun p e R s mid args below meth c T locs cells slots C hcx X hR hC hc1 hsl => ?_
 obtain ⟨hx, hZ, hby, hml, hret', hown, hnm, hfr, hlo⟩ := hcx
 have hd2 : decode c.code pc = .ok (.invokevirtual idx, 3) := by rw [hby]; exact hd
 obtain ⟨f1, f2⟩ := QTri.room (σ := σ) (σ₁ := σ₁) hroom hfr hlo
 obtain ⟨cq, kq, q1, q2, q3⟩ := isOf hZ rfl (hR.2.2 _ _ hcell).1
 obtain ⟨w1, w2, w3⟩ := (qw_vi W) k m2
 obtain ⟨c1, c2⟩ := (qw_cod W) k hkA
 obtain ⟨_, _, ⟨T₁, L₁, k₁, n₁⟩, -, X₁, ⟨Lc, ⟨rfl, hR1, hF1⟩, l₁, y₁, z₁⟩, st⟩ := X.virtualBack hx (own := kName (pK m)) (index := idx) (y := pName k) (z := pName k) hown (mvT hZ (qw_ml W (pK m, idx, k) m1)) (mvT hZ w1) (notFace_of_selects (args := #[]) (mvT hZ w2)) (mvT hZ w2) (mvT hZ w3) (pOwn _ (pKlt k hkN))
  (backOf (W := (rest.map fun v => v.category).sum) (rm := ⟨pFr k, σ₁.length - σ.length, qhs σ₁ - qhs σ, pLo k⟩) (Q := fun v h L => v = Option.map (qv ad) w ∧ QRep Z n0 ad h σ₁ ∧ Fr n0 L) (QTri.met hkN hcal hR (Nat.le_of_ble_eq_true hlen) hret [] (Nat.le_refl _) (Nat.le_refl _) (Nat.le_refl _) (Nat.le_refl _)) hZ c1 c2 f1 f2) q1 q3 (g := mkF mid pc C (List.map (qv ad) (as.reverse ++ .ref a :: rest))) rfl hC (Steps.refl _) (argsL := as.map (qv ad)) (rest := rest.map (qv ad)) (sig_len hkN hna) (by simp [qv]) (by show 2 * 0 + _ ≤ _; rw [cats_qv]; omega) hd2 (fun _ _ => ⟨rfl, rfl, hc1, hsl⟩)
 dsimp only [Pt.U, Pt.locs, Pt.cells, Pt.slots] at X₁ l₁ y₁ z₁ st hR1
 subst l₁ y₁ z₁
 exact ⟨T₁, Lc, X₁, hR1, hF1, fun target q => st.trans q⟩
set_option maxHeartbeats 4000000 in
theorem QTri.callI (W : QW Z a0) {pc idx k a : Nat} {L : QLoc} {S as rest : List Value} {σ σ₁ : QHeap} (hc : pCode m pc = some (.invokespecial idx, k)) (hm : (lkV.contains (pK m, idx, k) && mI.contains k) = true) (hS : S = as.reverse ++ .ref a :: rest)
  (hna : as.length = pNA k) (hlen : Nat.ble (((Value.ref a :: as).map fun v => v.category).sum) (pMaxL k) = true) (hroom : (Nat.ble (pFr k + 1) (pFr m) && Nat.ble ((rest.map fun v => v.category).sum + (pMaxL k + 11) + pLo k) (pLo m)) = true)
  (hcal : QTri l Z n0 ad k (0, qentry (.ref a :: as) (pMaxL k), [], σ) none σ₁) (h : QTri l Z n0 ad m (pc + 3, L, rest, σ₁) v σ') : QTri l Z n0 ad m (pc, L, S, σ) v σ' := by
 have hd : decode (pBytes m) pc = .ok (.invokespecial idx, 3) := pDecN hc rfl
 subst hS
 obtain ⟨m1, m2⟩ := Bool.and_eq_true_iff.mp hm
 have m1 := mem_of_contains m1
 have m2 := mem_of_contains m2
 obtain ⟨hkA, -, hin, hrt⟩ := mIlt k m2
 have hkN := mAlt k hkA
 refine QTri.after (w := none) hcal h fun p e R s mid args below meth c T locs cells slots C hcx X hR hC hc1 hsl => ?_
 obtain ⟨hx, hZ, hby, hml, hret', hown, hnm, hfr, hlo⟩ := hcx
 have hd2 : decode c.code pc = .ok (.invokespecial idx, 3) := by rw [hby]; exact hd
 obtain ⟨f1, f2⟩ := QTri.room (σ := σ) (σ₁ := σ₁) hroom hfr hlo
 obtain ⟨c1, c2⟩ := (qw_cod W) k hkA
 have c1' := c1
 rw [hrt] at c1'
 obtain ⟨_, _, ⟨T₁, L₁, k₁, n₁⟩, -, X₁, ⟨Lc, ⟨rfl, hR1, hF1⟩, l₁, y₁, z₁⟩, st⟩ := X.specialBack hx (own := kName (pK m)) (index := idx) (y := pName k) hin hown (mvT hZ (qw_ml W (pK m, idx, k) m1)) (mvT hZ ((qw_ini W) k m2)) (mvT hZ c1') (pOwn _ (pKlt k hkN))
  (backOf (W := (rest.map fun v => v.category).sum) (rm := ⟨pFr k, σ₁.length - σ.length, qhs σ₁ - qhs σ, pLo k⟩) (Q := fun v h L => v = Option.map (qv ad) none ∧ QRep Z n0 ad h σ₁ ∧ Fr n0 L) (QTri.met hkN hcal hR (Nat.le_of_ble_eq_true hlen) (fun _ => rfl) [] (Nat.le_refl _) (Nat.le_refl _) (Nat.le_refl _) (Nat.le_refl _)) hZ c1 c2 f1 f2) (g := mkF mid pc C (List.map (qv ad) (as.reverse ++ .ref a :: rest))) rfl hC (Steps.refl _) (a := ad a) (argsL := as.map (qv ad)) (rest := rest.map (qv ad)) (sig_len hkN hna) (by simp [qv]) (by show 2 * 0 + _ ≤ _; rw [cats_qv]; omega) hd2 (fun _ _ => ⟨rfl, rfl, hc1, hsl⟩)
 dsimp only [Pt.U, Pt.locs, Pt.cells, Pt.slots] at X₁ l₁ y₁ z₁ st hR1
 subst l₁ y₁ z₁
 exact ⟨T₁, Lc, X₁, hR1, hF1, fun target q => st.trans q⟩
set_option maxHeartbeats 4000000 in
theorem QTri.callP (W : QW Z a0) {pc idx k a : Nat} {L : QLoc} {S as rest vs : List Value} {σ σ₁ : QHeap} {w : Option Value} (hc : pCode m pc = some (.invokevirtual idx, k)) (hm : (lkV.contains (pK m, idx, k) && mP.contains k) = true) (hcell : hget σ a = some (.inl vs)) (hS : S = as.reverse ++ .ref a :: rest)
  (hna : as.length = pNA k) (hlen : Nat.ble (((Value.ref a :: as).map fun v => v.category).sum) (pMaxL k) = true) (hroom : (Nat.ble (pFr k + 1) (pFr m) && Nat.ble ((rest.map fun v => v.category).sum + (pMaxL k + 11) + pLo k) (pLo m)) = true) (hrb : (w.isNone || (pRet k).isSome) = true)
  (hcal : QTri l Z n0 ad k (0, qentry (.ref a :: as) (pMaxL k), [], σ) w σ₁) (h : QTri l Z n0 ad m (pc + 3, L, w.toList ++ rest, σ₁) v σ') : QTri l Z n0 ad m (pc, L, S, σ) v σ' := by
 have hd : decode (pBytes m) pc = .ok (.invokevirtual idx, 3) := pDecN hc rfl
 subst hS
 obtain ⟨m1, m2⟩ := Bool.and_eq_true_iff.mp hm
 have m1 := mem_of_contains m1
 have m2 := mem_of_contains m2
 obtain ⟨hkA, hk1⟩ := mPlt k m2
 have hkN := mAlt k hkA
 have hret : pRet k = none → w = none := fun q => by
  rw [q] at hrb
  cases w with
  | none => rfl
  | some w => simp at hrb
 refine QTri.after hcal h fun p e R s mid args below meth c T locs cells slots C hcx X hR hC hc1 hsl => ?_
 obtain ⟨hx, hZ, hby, hml, hret', hown, hnm, hfr, hlo⟩ := hcx
 have hd2 : decode c.code pc = .ok (.invokevirtual idx, 3) := by rw [hby]; exact hd
 obtain ⟨f1, f2⟩ := QTri.room (σ := σ) (σ₁ := σ₁) hroom hfr hlo
 obtain ⟨cell, h1, h2⟩ := (hR.2.2 _ _ hcell).1.cell
 obtain ⟨w1, w2⟩ := (qw_pr W) k m2
 obtain ⟨c1, c2⟩ := (qw_cod W) k hkA
 have hpr : s.PrivateAt (pName k) := Cond.privateMethod_at (mvP hZ w2 (args := #[]))
 obtain ⟨cC, kC, i1, i2, i3, i4⟩ := Cond.instantiable_spec (args := #[]) (mvT hZ (qw_inst W))
 have hsel : (Cond.selects (pName k).cls (pName k) (pName k)).before args s = true := selects_self_of_private (c := cC) (k := kC) (by show s.vm.findClass (kName (pK k)) = _; rw [hk1]; exact i1) i2 (by have q := i4.1; cases hq : kC.isInterface with | false => rfl | true => rw [hq] at q; simp at q) hpr (mvT hZ w1) (pOwn _ (pKlt k hkN))
 obtain ⟨_, _, ⟨T₁, L₁, k₁, n₁⟩, -, X₁, ⟨Lc, ⟨rfl, hR1, hF1⟩, l₁, y₁, z₁⟩, st⟩ := X.privateBack hx (own := kName (pK m)) (index := idx) (y := pName k) hown (mvT hZ (qw_ml W (pK m, idx, k) m1)) (mvT hZ w1) hsel hpr (mvT hZ c1) (pOwn _ (pKlt k hkN))
  (backOf (W := (rest.map fun v => v.category).sum) (rm := ⟨pFr k, σ₁.length - σ.length, qhs σ₁ - qhs σ, pLo k⟩) (Q := fun v h L => v = Option.map (qv ad) w ∧ QRep Z n0 ad h σ₁ ∧ Fr n0 L) (QTri.met hkN hcal hR (Nat.le_of_ble_eq_true hlen) hret [] (Nat.le_refl _) (Nat.le_refl _) (Nat.le_refl _) (Nat.le_refl _)) hZ c1 c2 f1 f2) (g := mkF mid pc C (List.map (qv ad) (as.reverse ++ .ref a :: rest))) rfl hC (Steps.refl _) (a := ad a) h1 h2 (argsL := as.map (qv ad)) (rest := rest.map (qv ad)) (sig_len hkN hna) (by simp [qv]) (by show 2 * 0 + _ ≤ _; rw [cats_qv]; omega) hd2 (fun _ _ => ⟨rfl, rfl, hc1, hsl⟩)
 dsimp only [Pt.U, Pt.locs, Pt.cells, Pt.slots] at X₁ l₁ y₁ z₁ st hR1
 subst l₁ y₁ z₁
 exact ⟨T₁, Lc, X₁, hR1, hF1, fun target q => st.trans q⟩
set_option maxHeartbeats 4000000 in
theorem QTri.callS (W : QW Z a0) {pc idx k : Nat} {L : QLoc} {S as rest : List Value} {σ σ₁ : QHeap} {w : Option Value} (hc : pCode m pc = some (.invokestatic idx, k)) (hm : (lkV.contains (pK m, idx, k) && mS.contains k) = true) (hS : S = as.reverse ++ rest)
  (hna : as.length = pNA k) (hlen : Nat.ble ((as.map fun v => v.category).sum) (pMaxL k) = true) (hroom : (Nat.ble (pFr k + 1) (pFr m) && Nat.ble ((rest.map fun v => v.category).sum + (pMaxL k + 11) + pLo k) (pLo m)) = true) (hrb : (w.isNone || (pRet k).isSome) = true)
  (hcal : QTri l Z n0 ad k (0, qentry as (pMaxL k), [], σ) w σ₁) (h : QTri l Z n0 ad m (pc + 3, L, w.toList ++ rest, σ₁) v σ') : QTri l Z n0 ad m (pc, L, S, σ) v σ' := by
 have hd : decode (pBytes m) pc = .ok (.invokestatic idx, 3) := pDecN hc rfl
 subst hS
 obtain ⟨m1, m2⟩ := Bool.and_eq_true_iff.mp hm
 have m1 := mem_of_contains m1
 have m2 := mem_of_contains m2
 have hkA := mSlt k m2
 have hkN := mAlt k hkA
 have hret : pRet k = none → w = none := fun q => by
  rw [q] at hrb
  cases w with
  | none => rfl
  | some w => simp at hrb
 refine QTri.after hcal h fun p e R s mid args below meth c T locs cells slots C hcx X hR hC hc1 hsl => ?_
 obtain ⟨hx, hZ, hby, hml, hret', hown, hnm, hfr, hlo⟩ := hcx
 have hd2 : decode c.code pc = .ok (.invokestatic idx, 3) := by rw [hby]; exact hd
 obtain ⟨f1, f2⟩ := QTri.room (σ := σ) (σ₁ := σ₁) hroom hfr hlo
 obtain ⟨c1, c2⟩ := (qw_cod W) k hkA
 obtain ⟨_, _, ⟨T₁, L₁, k₁, n₁⟩, -, X₁, ⟨Lc, ⟨rfl, hR1, hF1⟩, l₁, y₁, z₁⟩, st⟩ := Jvm.LawKit.callS X hx (own := kName (pK m)) (index := idx) (y := pName k) hown (mvT hZ (qw_ml W (pK m, idx, k) m1)) (mvT hZ ((qw_st W) k m2)) (mvT hZ c2) (mvT hZ c1) (pOwn _ (pKlt k hkN))
  (backOf (W := (rest.map fun v => v.category).sum) (rm := ⟨pFr k, σ₁.length - σ.length, qhs σ₁ - qhs σ, pLo k⟩) (Q := fun v h L => v = Option.map (qv ad) w ∧ QRep Z n0 ad h σ₁ ∧ Fr n0 L) (QTri.met hkN hcal hR (Nat.le_of_ble_eq_true hlen) hret [] (Nat.le_refl _) (Nat.le_refl _) (Nat.le_refl _) (Nat.le_refl _)) hZ c1 c2 f1 f2) (g := mkF mid pc C (List.map (qv ad) (as.reverse ++ rest))) rfl hC (argsL := as.map (qv ad)) (rest := rest.map (qv ad)) (sig_len hkN hna) (by simp) (by show 2 * 0 + _ ≤ _; rw [cats_qv]; omega) hd2 (fun _ _ => ⟨rfl, rfl, hc1, hsl⟩)
 dsimp only [Pt.U, Pt.locs, Pt.cells, Pt.slots] at X₁ l₁ y₁ z₁ st hR1
 subst l₁ y₁ z₁
 exact ⟨T₁, Lc, X₁, hR1, hF1, fun target q => st target q⟩
set_option maxHeartbeats 4000000 in
theorem QTri.callO (W : QW Z a0) {pc idx k a : Nat} {L : QLoc} {rest : List Value} {σ : QHeap} (hc : pCode m pc = some (.invokespecial idx, k)) (hm : lkO.contains (pK m, idx) = true) (hroom : (Nat.ble 1 (pFr m) && Nat.ble ((rest.map fun v => v.category).sum + 12) (pLo m)) = true)
  (h : QTri l Z n0 ad m (pc + 3, L, rest, σ) v σ') : QTri l Z n0 ad m (pc, L, .ref a :: rest, σ) v σ' :=
 have hd : decode (pBytes m) pc = .ok (.invokespecial idx, 3) := pDecN hc rfl
 QTri.pure h rfl fun p e R s mid args below meth c T locs cells slots C hcx X hR hL hC => by
  obtain ⟨hx, hZ, hby, hml, hret', hown, hnm, hfr, hlo⟩ := hcx
  have hd2 : decode c.code pc = .ok (.invokespecial idx, 3) := by rw [hby]; exact hd
  obtain ⟨q1, q2⟩ := Bool.and_eq_true_iff.mp hroom
  obtain ⟨T₁, X₁, e₁, st⟩ := initO X hx hZ hown (idx := idx) (qw_mo W (pK m, idx) (mem_of_contains hm)) ((qw_oi W)) ((qw_oc W)) rfl (g := mkF mid pc C (List.map (qv ad) (.ref a :: rest))) rfl hC rfl hd2 (Nat.le_trans (Nat.le_of_ble_eq_true q1) hfr) (W := (rest.map fun v => v.category).sum) (by show 2 * 0 + _ ≤ _; rw [cats_qv]; omega) (Nat.le_trans (Nat.le_of_ble_eq_true q2) hlo)
  exact ⟨T₁, C, X₁, e₁, hL, hC, st⟩
theorem QTri.brT (Ad : QAd n0 ad) (W : QW Z a0) {st : QSt} {t f : Nat} {L : QLoc} {S : List Value} {σ : QHeap} {b : Bool} (hs : qstep m st = some (bif b then t else f, L, S, σ)) (hb : b = true) (h : QTri l Z n0 ad m (t, L, S, σ) v σ') : QTri l Z n0 ad m st v σ' := by
 subst hb; exact QTri.step Ad W h hs
theorem QTri.brF (Ad : QAd n0 ad) (W : QW Z a0) {st : QSt} {t f : Nat} {L : QLoc} {S : List Value} {σ : QHeap} {b : Bool} (hs : qstep m st = some (bif b then t else f, L, S, σ)) (hb : b = false) (h : QTri l Z n0 ad m (f, L, S, σ) v σ') : QTri l Z n0 ad m st v σ' := by
 subst hb; exact QTri.step Ad W h hs
theorem QTri.bnd {α : Type} (Ad : QAd n0 ad) (W : QW Z a0) {st : QSt} {x : Option α} {f : α → QSt} {a : α} (hs : qstep m st = x.bind fun v => some (f v)) (hx : x = some a) (h : QTri l Z n0 ad m (f a) v σ') : QTri l Z n0 ad m st v σ' :=
 QTri.step Ad W h (by rw [hs, hx]; rfl)
theorem QTri.bndB (Ad : QAd n0 ad) (W : QW Z a0) {st : QSt} {x y : Int32} {g : Value → QSt} (hs : qstep m st = ((qboo x).bind fun y => some (Value.int y)).bind fun w => some (g w)) (hx : qboo x = some y) (h : QTri l Z n0 ad m (g (.int y)) v σ') : QTri l Z n0 ad m st v σ' :=
 QTri.step Ad W h (by rw [hs, hx]; rfl)
end Triples
theorem qite {α : Type} {c : Prop} [Decidable c] {a b : Option α} {r : α} (h : (if c then a else b) = some r) : (c ∧ a = some r) ∨ (¬ c ∧ b = some r) := by
 by_cases hc : c
 ·exact Or.inl ⟨hc, by rwa [if_pos hc] at h⟩
 ·exact Or.inr ⟨hc, by rwa [if_neg hc] at h⟩
def qN : Nat := 4000
def loopN {V E : Type} (B : V → Option (E ⊕ V)) : Nat → V → Option E
 | 0, _ => none
 | n + 1, v => match B v with
  | none => none
  | some (.inl e) => some e
  | some (.inr v') => loopN B n v'
theorem loopN_tri {V E : Type} {B : V → Option (E ⊕ V)} {T : V → Prop} {KE : E → Prop} (hB : ∀ v r, B v = some r → (∀ e, r = .inl e → KE e) → (∀ v', r = .inr v' → T v') → T v) : ∀ (n : Nat) (v : V) (e : E), loopN B n v = some e → KE e → T v
 | 0, _, _, h, _ => by cases h
 | n + 1, v, e, h, k => by
  simp only [loopN] at h
  split at h
  ·cases h
  ·rename_i e' he
   cases h
   exact hB v _ he (fun e q => by cases q; exact k) (fun v' q => by cases q)
  ·rename_i v' he
   exact hB v _ he (fun e q => by cases q) (fun v'' q => by cases q; exact loopN_tri hB n v' e h k)
theorem loopN_inv {V E : Type} {B : V → Option (E ⊕ V)} (I : V → Prop) (P : E → Prop) (μ : V → Nat) (hB : ∀ v, I v → (∃ e, B v = some (.inl e) ∧ P e) ∨ ∃ v', B v = some (.inr v') ∧ I v' ∧ μ v' < μ v) : ∀ (n : Nat) (v : V), I v → μ v < n → ∃ e, loopN B n v = some e ∧ P e
 | 0, _, _, h => absurd h (Nat.not_lt_zero _)
 | n + 1, v, hv, hm => by
  rcases hB v hv with ⟨e, h1, h2⟩ | ⟨v', h1, h2, h3⟩
  ·exact ⟨e, by simp only [loopN, h1], h2⟩
  ·obtain ⟨e, g1, g2⟩ := loopN_inv I P μ hB n v' h2 (by omega)
   exact ⟨e, by simp only [loopN, h1]; exact g1, g2⟩
theorem qfn {α : Type} {P : α → Prop} : ∀ t ∈ ([] : List α), P t := fun _ h => nomatch h
theorem qfc {α : Type} {P : α → Prop} {a : α} {t : List α} (h : P a) (ht : ∀ x ∈ t, P x) : ∀ x ∈ a :: t, P x := fun x hx => by rcases List.mem_cons.mp hx with rfl | q; exact h; exact ht x q
theorem QW_ok {Z : State} {a0 : Array Value} (hw : ∀ d ∈ tables_1, d.before a0 Z = true) : QW Z a0 := by
  have w0 : ∀ k ∈ List.range nF, bif fFin k then (Jvm.Cond.laysFinal cName cName (fNm k) (fDs k)).before a0 Z = true else (Jvm.Cond.lays cName cName (fNm k) (fDs k)).before a0 Z = true :=
    show ∀ k ∈ [0, 1, 2, 3, 4, 5, 6, 7, 8, 9, 10, 11, 12], bif fFin k then (Jvm.Cond.laysFinal cName cName (fNm k) (fDs k)).before a0 Z = true else (Jvm.Cond.lays cName cName (fNm k) (fDs k)).before a0 Z = true from
    (qfc (hw _ (List.mem_of_getElem? (i := 11) rfl)) (qfc (hw _ (List.mem_of_getElem? (i := 13) rfl)) (qfc (hw _ (List.mem_of_getElem? (i := 16) rfl)) (qfc (hw _ (List.mem_of_getElem? (i := 18) rfl)) (qfc (hw _ (List.mem_of_getElem? (i := 20) rfl)) (qfc (hw _ (List.mem_of_getElem? (i := 22) rfl)) (qfc (hw _ (List.mem_of_getElem? (i := 24) rfl)) (qfc (hw _ (List.mem_of_getElem? (i := 30) rfl)) (qfc (hw _ (List.mem_of_getElem? (i := 32) rfl)) (qfc (hw _ (List.mem_of_getElem? (i := 34) rfl)) (qfc (hw _ (List.mem_of_getElem? (i := 36) rfl)) (qfc (hw _ (List.mem_of_getElem? (i := 38) rfl)) (qfc (hw _ (List.mem_of_getElem? (i := 40) rfl)) qfn)))))))))))))
  refine ⟨?_, ?_, ?_, ?_, ?_, ?_, ?_, ?_, ?_, ?_, ?_, ?_, ?_, (fun k hk => w0 k (List.mem_range.mpr hk)), ?_, ?_, ?_⟩
  · exact (qfc (hw _ (List.mem_of_getElem? (i := 10) rfl)) (qfc (hw _ (List.mem_of_getElem? (i := 12) rfl)) (qfc (hw _ (List.mem_of_getElem? (i := 15) rfl)) (qfc (hw _ (List.mem_of_getElem? (i := 17) rfl)) (qfc (hw _ (List.mem_of_getElem? (i := 19) rfl)) (qfc (hw _ (List.mem_of_getElem? (i := 21) rfl)) (qfc (hw _ (List.mem_of_getElem? (i := 23) rfl)) (qfc (hw _ (List.mem_of_getElem? (i := 29) rfl)) (qfc (hw _ (List.mem_of_getElem? (i := 31) rfl)) (qfc (hw _ (List.mem_of_getElem? (i := 33) rfl)) (qfc (hw _ (List.mem_of_getElem? (i := 35) rfl)) (qfc (hw _ (List.mem_of_getElem? (i := 37) rfl)) (qfc (hw _ (List.mem_of_getElem? (i := 39) rfl)) qfn)))))))))))))
  · exact (qfc (hw _ (List.mem_of_getElem? (i := 0) rfl)) qfn)
  · exact qfn
  · exact (qfc ⟨_, rfl, (hw _ (List.mem_of_getElem? (i := 66) rfl))⟩ (qfc ⟨_, rfl, (hw _ (List.mem_of_getElem? (i := 75) rfl))⟩ (qfc ⟨_, rfl, (hw _ (List.mem_of_getElem? (i := 109) rfl))⟩ qfn)))
  · exact (qfc (hw _ (List.mem_of_getElem? (i := 3) rfl)) (qfc (hw _ (List.mem_of_getElem? (i := 25) rfl)) (qfc (hw _ (List.mem_of_getElem? (i := 41) rfl)) (qfc (hw _ (List.mem_of_getElem? (i := 45) rfl)) (qfc (hw _ (List.mem_of_getElem? (i := 50) rfl)) (qfc (hw _ (List.mem_of_getElem? (i := 54) rfl)) (qfc (hw _ (List.mem_of_getElem? (i := 59) rfl)) (qfc (hw _ (List.mem_of_getElem? (i := 63) rfl)) (qfc (hw _ (List.mem_of_getElem? (i := 67) rfl)) (qfc (hw _ (List.mem_of_getElem? (i := 72) rfl)) (qfc (hw _ (List.mem_of_getElem? (i := 76) rfl)) (qfc (hw _ (List.mem_of_getElem? (i := 81) rfl)) (qfc (hw _ (List.mem_of_getElem? (i := 85) rfl)) (qfc (hw _ (List.mem_of_getElem? (i := 89) rfl)) (qfc (hw _ (List.mem_of_getElem? (i := 93) rfl)) (qfc (hw _ (List.mem_of_getElem? (i := 98) rfl)) (qfc (hw _ (List.mem_of_getElem? (i := 102) rfl)) (qfc (hw _ (List.mem_of_getElem? (i := 106) rfl)) (qfc (hw _ (List.mem_of_getElem? (i := 110) rfl)) (qfc (hw _ (List.mem_of_getElem? (i := 115) rfl)) (qfc (hw _ (List.mem_of_getElem? (i := 120) rfl)) (qfc (hw _ (List.mem_of_getElem? (i := 124) rfl)) (qfc (hw _ (List.mem_of_getElem? (i := 129) rfl)) (qfc (hw _ (List.mem_of_getElem? (i := 133) rfl)) (qfc (hw _ (List.mem_of_getElem? (i := 137) rfl)) (qfc (hw _ (List.mem_of_getElem? (i := 141) rfl)) (qfc (hw _ (List.mem_of_getElem? (i := 144) rfl)) qfn)))))))))))))))))))))))))))
  · exact (qfc (hw _ (List.mem_of_getElem? (i := 6) rfl)) qfn)
  · exact (qfc ⟨(hw _ (List.mem_of_getElem? (i := 46) rfl)), (hw _ (List.mem_of_getElem? (i := 48) rfl)), (hw _ (List.mem_of_getElem? (i := 47) rfl))⟩ (qfc ⟨(hw _ (List.mem_of_getElem? (i := 55) rfl)), (hw _ (List.mem_of_getElem? (i := 57) rfl)), (hw _ (List.mem_of_getElem? (i := 56) rfl))⟩ (qfc ⟨(hw _ (List.mem_of_getElem? (i := 68) rfl)), (hw _ (List.mem_of_getElem? (i := 70) rfl)), (hw _ (List.mem_of_getElem? (i := 69) rfl))⟩ (qfc ⟨(hw _ (List.mem_of_getElem? (i := 77) rfl)), (hw _ (List.mem_of_getElem? (i := 79) rfl)), (hw _ (List.mem_of_getElem? (i := 78) rfl))⟩ (qfc ⟨(hw _ (List.mem_of_getElem? (i := 94) rfl)), (hw _ (List.mem_of_getElem? (i := 96) rfl)), (hw _ (List.mem_of_getElem? (i := 95) rfl))⟩ (qfc ⟨(hw _ (List.mem_of_getElem? (i := 111) rfl)), (hw _ (List.mem_of_getElem? (i := 113) rfl)), (hw _ (List.mem_of_getElem? (i := 112) rfl))⟩ (qfc ⟨(hw _ (List.mem_of_getElem? (i := 116) rfl)), (hw _ (List.mem_of_getElem? (i := 118) rfl)), (hw _ (List.mem_of_getElem? (i := 117) rfl))⟩ (qfc ⟨(hw _ (List.mem_of_getElem? (i := 125) rfl)), (hw _ (List.mem_of_getElem? (i := 127) rfl)), (hw _ (List.mem_of_getElem? (i := 126) rfl))⟩ qfn))))))))
  · exact (qfc ⟨(hw _ (List.mem_of_getElem? (i := 26) rfl)), (hw _ (List.mem_of_getElem? (i := 27) rfl))⟩ (qfc ⟨(hw _ (List.mem_of_getElem? (i := 51) rfl)), (hw _ (List.mem_of_getElem? (i := 52) rfl))⟩ (qfc ⟨(hw _ (List.mem_of_getElem? (i := 60) rfl)), (hw _ (List.mem_of_getElem? (i := 61) rfl))⟩ (qfc ⟨(hw _ (List.mem_of_getElem? (i := 82) rfl)), (hw _ (List.mem_of_getElem? (i := 83) rfl))⟩ (qfc ⟨(hw _ (List.mem_of_getElem? (i := 86) rfl)), (hw _ (List.mem_of_getElem? (i := 87) rfl))⟩ (qfc ⟨(hw _ (List.mem_of_getElem? (i := 90) rfl)), (hw _ (List.mem_of_getElem? (i := 91) rfl))⟩ (qfc ⟨(hw _ (List.mem_of_getElem? (i := 99) rfl)), (hw _ (List.mem_of_getElem? (i := 100) rfl))⟩ (qfc ⟨(hw _ (List.mem_of_getElem? (i := 103) rfl)), (hw _ (List.mem_of_getElem? (i := 104) rfl))⟩ (qfc ⟨(hw _ (List.mem_of_getElem? (i := 121) rfl)), (hw _ (List.mem_of_getElem? (i := 122) rfl))⟩ (qfc ⟨(hw _ (List.mem_of_getElem? (i := 130) rfl)), (hw _ (List.mem_of_getElem? (i := 131) rfl))⟩ (qfc ⟨(hw _ (List.mem_of_getElem? (i := 134) rfl)), (hw _ (List.mem_of_getElem? (i := 135) rfl))⟩ (qfc ⟨(hw _ (List.mem_of_getElem? (i := 138) rfl)), (hw _ (List.mem_of_getElem? (i := 139) rfl))⟩ (qfc ⟨(hw _ (List.mem_of_getElem? (i := 145) rfl)), (hw _ (List.mem_of_getElem? (i := 146) rfl))⟩ qfn)))))))))))))
  · exact (qfc (hw _ (List.mem_of_getElem? (i := 42) rfl)) (qfc (hw _ (List.mem_of_getElem? (i := 64) rfl)) (qfc (hw _ (List.mem_of_getElem? (i := 73) rfl)) (qfc (hw _ (List.mem_of_getElem? (i := 107) rfl)) (qfc (hw _ (List.mem_of_getElem? (i := 142) rfl)) qfn)))))
  · exact (qfc (hw _ (List.mem_of_getElem? (i := 4) rfl)) qfn)
  · exact (qfc ⟨(hw _ (List.mem_of_getElem? (i := 5) rfl)), (hw _ (List.mem_of_getElem? (i := 2) rfl))⟩ (qfc ⟨(hw _ (List.mem_of_getElem? (i := 28) rfl)), (hw _ (List.mem_of_getElem? (i := 2) rfl))⟩ (qfc ⟨(hw _ (List.mem_of_getElem? (i := 44) rfl)), (hw _ (List.mem_of_getElem? (i := 43) rfl))⟩ (qfc ⟨(hw _ (List.mem_of_getElem? (i := 49) rfl)), (hw _ (List.mem_of_getElem? (i := 2) rfl))⟩ (qfc ⟨(hw _ (List.mem_of_getElem? (i := 53) rfl)), (hw _ (List.mem_of_getElem? (i := 2) rfl))⟩ (qfc ⟨(hw _ (List.mem_of_getElem? (i := 58) rfl)), (hw _ (List.mem_of_getElem? (i := 2) rfl))⟩ (qfc ⟨(hw _ (List.mem_of_getElem? (i := 62) rfl)), (hw _ (List.mem_of_getElem? (i := 2) rfl))⟩ (qfc ⟨(hw _ (List.mem_of_getElem? (i := 65) rfl)), (hw _ (List.mem_of_getElem? (i := 43) rfl))⟩ (qfc ⟨(hw _ (List.mem_of_getElem? (i := 71) rfl)), (hw _ (List.mem_of_getElem? (i := 2) rfl))⟩ (qfc ⟨(hw _ (List.mem_of_getElem? (i := 74) rfl)), (hw _ (List.mem_of_getElem? (i := 43) rfl))⟩ (qfc ⟨(hw _ (List.mem_of_getElem? (i := 80) rfl)), (hw _ (List.mem_of_getElem? (i := 2) rfl))⟩ (qfc ⟨(hw _ (List.mem_of_getElem? (i := 84) rfl)), (hw _ (List.mem_of_getElem? (i := 2) rfl))⟩ (qfc ⟨(hw _ (List.mem_of_getElem? (i := 88) rfl)), (hw _ (List.mem_of_getElem? (i := 2) rfl))⟩ (qfc ⟨(hw _ (List.mem_of_getElem? (i := 92) rfl)), (hw _ (List.mem_of_getElem? (i := 2) rfl))⟩ (qfc ⟨(hw _ (List.mem_of_getElem? (i := 97) rfl)), (hw _ (List.mem_of_getElem? (i := 2) rfl))⟩ (qfc ⟨(hw _ (List.mem_of_getElem? (i := 101) rfl)), (hw _ (List.mem_of_getElem? (i := 2) rfl))⟩ (qfc ⟨(hw _ (List.mem_of_getElem? (i := 105) rfl)), (hw _ (List.mem_of_getElem? (i := 2) rfl))⟩ (qfc ⟨(hw _ (List.mem_of_getElem? (i := 108) rfl)), (hw _ (List.mem_of_getElem? (i := 43) rfl))⟩ (qfc ⟨(hw _ (List.mem_of_getElem? (i := 114) rfl)), (hw _ (List.mem_of_getElem? (i := 2) rfl))⟩ (qfc ⟨(hw _ (List.mem_of_getElem? (i := 119) rfl)), (hw _ (List.mem_of_getElem? (i := 2) rfl))⟩ (qfc ⟨(hw _ (List.mem_of_getElem? (i := 123) rfl)), (hw _ (List.mem_of_getElem? (i := 2) rfl))⟩ (qfc ⟨(hw _ (List.mem_of_getElem? (i := 128) rfl)), (hw _ (List.mem_of_getElem? (i := 2) rfl))⟩ (qfc ⟨(hw _ (List.mem_of_getElem? (i := 132) rfl)), (hw _ (List.mem_of_getElem? (i := 2) rfl))⟩ (qfc ⟨(hw _ (List.mem_of_getElem? (i := 136) rfl)), (hw _ (List.mem_of_getElem? (i := 2) rfl))⟩ (qfc ⟨(hw _ (List.mem_of_getElem? (i := 140) rfl)), (hw _ (List.mem_of_getElem? (i := 2) rfl))⟩ (qfc ⟨(hw _ (List.mem_of_getElem? (i := 143) rfl)), (hw _ (List.mem_of_getElem? (i := 43) rfl))⟩ (qfc ⟨(hw _ (List.mem_of_getElem? (i := 147) rfl)), (hw _ (List.mem_of_getElem? (i := 2) rfl))⟩ qfn)))))))))))))))))))))))))))
  · exact (hw _ (List.mem_of_getElem? (i := 7) rfl))
  · exact (hw _ (List.mem_of_getElem? (i := 8) rfl))
  · exact (hw _ (List.mem_of_getElem? (i := 1) rfl))
  · exact (hw _ (List.mem_of_getElem? (i := 2) rfl))
  · exact (qfc (hw _ (List.mem_of_getElem? (i := 9) rfl)) (qfc (hw _ (List.mem_of_getElem? (i := 14) rfl)) qfn))
abbrev Ob := List Int32 × List Int32 × List Int32 × List Int32 × List Int32 × List Int32 × List Int32 × Int32 × Int32 × Int32 × Int32 × Int32 × Int32
def f_value (o : Ob) : List Int32 := o.1
def f_version (o : Ob) : List Int32 := o.2.1
def f_active (o : Ob) : List Int32 := o.2.2.1
def f_start (o : Ob) : List Int32 := o.2.2.2.1
def f_readSet (o : Ob) : List Int32 := o.2.2.2.2.1
def f_writeSet (o : Ob) : List Int32 := o.2.2.2.2.2.1
def f_buffered (o : Ob) : List Int32 := o.2.2.2.2.2.2.1
def f_keyCount (o : Ob) : Int32 := o.2.2.2.2.2.2.2.1
def f_slotCount (o : Ob) : Int32 := o.2.2.2.2.2.2.2.2.1
def f_window (o : Ob) : Int32 := o.2.2.2.2.2.2.2.2.2.1
def f_commitCount (o : Ob) : Int32 := o.2.2.2.2.2.2.2.2.2.2.1
def f_abortCount (o : Ob) : Int32 := o.2.2.2.2.2.2.2.2.2.2.2.1
def f_lastConflict (o : Ob) : Int32 := o.2.2.2.2.2.2.2.2.2.2.2.2
def s_value (o : Ob) (v : List Int32) : Ob := (v, o.2.1, o.2.2.1, o.2.2.2.1, o.2.2.2.2.1, o.2.2.2.2.2.1, o.2.2.2.2.2.2.1, o.2.2.2.2.2.2.2.1, o.2.2.2.2.2.2.2.2.1, o.2.2.2.2.2.2.2.2.2.1, o.2.2.2.2.2.2.2.2.2.2.1, o.2.2.2.2.2.2.2.2.2.2.2.1, o.2.2.2.2.2.2.2.2.2.2.2.2)
def s_version (o : Ob) (v : List Int32) : Ob := (o.1, v, o.2.2.1, o.2.2.2.1, o.2.2.2.2.1, o.2.2.2.2.2.1, o.2.2.2.2.2.2.1, o.2.2.2.2.2.2.2.1, o.2.2.2.2.2.2.2.2.1, o.2.2.2.2.2.2.2.2.2.1, o.2.2.2.2.2.2.2.2.2.2.1, o.2.2.2.2.2.2.2.2.2.2.2.1, o.2.2.2.2.2.2.2.2.2.2.2.2)
def s_active (o : Ob) (v : List Int32) : Ob := (o.1, o.2.1, v, o.2.2.2.1, o.2.2.2.2.1, o.2.2.2.2.2.1, o.2.2.2.2.2.2.1, o.2.2.2.2.2.2.2.1, o.2.2.2.2.2.2.2.2.1, o.2.2.2.2.2.2.2.2.2.1, o.2.2.2.2.2.2.2.2.2.2.1, o.2.2.2.2.2.2.2.2.2.2.2.1, o.2.2.2.2.2.2.2.2.2.2.2.2)
def s_start (o : Ob) (v : List Int32) : Ob := (o.1, o.2.1, o.2.2.1, v, o.2.2.2.2.1, o.2.2.2.2.2.1, o.2.2.2.2.2.2.1, o.2.2.2.2.2.2.2.1, o.2.2.2.2.2.2.2.2.1, o.2.2.2.2.2.2.2.2.2.1, o.2.2.2.2.2.2.2.2.2.2.1, o.2.2.2.2.2.2.2.2.2.2.2.1, o.2.2.2.2.2.2.2.2.2.2.2.2)
def s_readSet (o : Ob) (v : List Int32) : Ob := (o.1, o.2.1, o.2.2.1, o.2.2.2.1, v, o.2.2.2.2.2.1, o.2.2.2.2.2.2.1, o.2.2.2.2.2.2.2.1, o.2.2.2.2.2.2.2.2.1, o.2.2.2.2.2.2.2.2.2.1, o.2.2.2.2.2.2.2.2.2.2.1, o.2.2.2.2.2.2.2.2.2.2.2.1, o.2.2.2.2.2.2.2.2.2.2.2.2)
def s_writeSet (o : Ob) (v : List Int32) : Ob := (o.1, o.2.1, o.2.2.1, o.2.2.2.1, o.2.2.2.2.1, v, o.2.2.2.2.2.2.1, o.2.2.2.2.2.2.2.1, o.2.2.2.2.2.2.2.2.1, o.2.2.2.2.2.2.2.2.2.1, o.2.2.2.2.2.2.2.2.2.2.1, o.2.2.2.2.2.2.2.2.2.2.2.1, o.2.2.2.2.2.2.2.2.2.2.2.2)
def s_buffered (o : Ob) (v : List Int32) : Ob := (o.1, o.2.1, o.2.2.1, o.2.2.2.1, o.2.2.2.2.1, o.2.2.2.2.2.1, v, o.2.2.2.2.2.2.2.1, o.2.2.2.2.2.2.2.2.1, o.2.2.2.2.2.2.2.2.2.1, o.2.2.2.2.2.2.2.2.2.2.1, o.2.2.2.2.2.2.2.2.2.2.2.1, o.2.2.2.2.2.2.2.2.2.2.2.2)
def s_keyCount (o : Ob) (v : Int32) : Ob := (o.1, o.2.1, o.2.2.1, o.2.2.2.1, o.2.2.2.2.1, o.2.2.2.2.2.1, o.2.2.2.2.2.2.1, v, o.2.2.2.2.2.2.2.2.1, o.2.2.2.2.2.2.2.2.2.1, o.2.2.2.2.2.2.2.2.2.2.1, o.2.2.2.2.2.2.2.2.2.2.2.1, o.2.2.2.2.2.2.2.2.2.2.2.2)
def s_slotCount (o : Ob) (v : Int32) : Ob := (o.1, o.2.1, o.2.2.1, o.2.2.2.1, o.2.2.2.2.1, o.2.2.2.2.2.1, o.2.2.2.2.2.2.1, o.2.2.2.2.2.2.2.1, v, o.2.2.2.2.2.2.2.2.2.1, o.2.2.2.2.2.2.2.2.2.2.1, o.2.2.2.2.2.2.2.2.2.2.2.1, o.2.2.2.2.2.2.2.2.2.2.2.2)
def s_window (o : Ob) (v : Int32) : Ob := (o.1, o.2.1, o.2.2.1, o.2.2.2.1, o.2.2.2.2.1, o.2.2.2.2.2.1, o.2.2.2.2.2.2.1, o.2.2.2.2.2.2.2.1, o.2.2.2.2.2.2.2.2.1, v, o.2.2.2.2.2.2.2.2.2.2.1, o.2.2.2.2.2.2.2.2.2.2.2.1, o.2.2.2.2.2.2.2.2.2.2.2.2)
def s_commitCount (o : Ob) (v : Int32) : Ob := (o.1, o.2.1, o.2.2.1, o.2.2.2.1, o.2.2.2.2.1, o.2.2.2.2.2.1, o.2.2.2.2.2.2.1, o.2.2.2.2.2.2.2.1, o.2.2.2.2.2.2.2.2.1, o.2.2.2.2.2.2.2.2.2.1, v, o.2.2.2.2.2.2.2.2.2.2.2.1, o.2.2.2.2.2.2.2.2.2.2.2.2)
def s_abortCount (o : Ob) (v : Int32) : Ob := (o.1, o.2.1, o.2.2.1, o.2.2.2.1, o.2.2.2.2.1, o.2.2.2.2.2.1, o.2.2.2.2.2.2.1, o.2.2.2.2.2.2.2.1, o.2.2.2.2.2.2.2.2.1, o.2.2.2.2.2.2.2.2.2.1, o.2.2.2.2.2.2.2.2.2.2.1, v, o.2.2.2.2.2.2.2.2.2.2.2.2)
def s_lastConflict (o : Ob) (v : Int32) : Ob := (o.1, o.2.1, o.2.2.1, o.2.2.2.1, o.2.2.2.2.1, o.2.2.2.2.2.1, o.2.2.2.2.2.2.1, o.2.2.2.2.2.2.2.1, o.2.2.2.2.2.2.2.2.1, o.2.2.2.2.2.2.2.2.2.1, o.2.2.2.2.2.2.2.2.2.2.1, o.2.2.2.2.2.2.2.2.2.2.2.1, v)
theorem fs (o : Ob) : f_value o = o.1 ∧ f_version o = o.2.1 ∧ f_active o = o.2.2.1 ∧ f_start o = o.2.2.2.1 ∧ f_readSet o = o.2.2.2.2.1 ∧ f_writeSet o = o.2.2.2.2.2.1 ∧ f_buffered o = o.2.2.2.2.2.2.1 ∧ f_keyCount o = o.2.2.2.2.2.2.2.1 ∧ f_slotCount o = o.2.2.2.2.2.2.2.2.1 ∧ f_window o = o.2.2.2.2.2.2.2.2.2.1 ∧ f_commitCount o = o.2.2.2.2.2.2.2.2.2.2.1 ∧ f_abortCount o = o.2.2.2.2.2.2.2.2.2.2.2.1 ∧ f_lastConflict o = o.2.2.2.2.2.2.2.2.2.2.2.2 := by simp only [f_value, f_version, f_active, f_start, f_readSet, f_writeSet, f_buffered, f_keyCount, f_slotCount, f_window, f_commitCount, f_abortCount, f_lastConflict, and_self]
def ob0 : Ob := ([], [], [], [], [], [], [], 0, 0, 0, 0, 0, 0)
section Walks
variable {l : Launch} {Z : State} {n0 : Nat} {ad : Nat → Addr} {a0 : Array Value}
set_option maxRecDepth 20000
set_option maxHeartbeats 2000000
abbrev tt : Bool := true
abbrev ff : Bool := false
open QTri renaming steps → zS, brT → zT, brF → zF, bnd → zB, mask → zM
open Option (bind_eq_some_iff)
open Classical (em)
def H0 (s : List Int32) (o0 : Ob) : QHeap := [.inr (.inl (.int, s)), .inl [.ref 2, .ref 3, .ref 4, .ref 5, .ref 6, .ref 7, .ref 8, .int (f_keyCount o0), .int (f_slotCount o0), .int (f_window o0), .int (f_commitCount o0), .int (f_abortCount o0), .int (f_lastConflict o0)], .inr (.inl (.int, (f_value o0))), .inr (.inl (.int, (f_version o0))), .inr (.inl (.boolean, (f_active o0))), .inr (.inl (.int, (f_start o0))), .inr (.inl (.int, (f_readSet o0))), .inr (.inl (.int, (f_writeSet o0))), .inr (.inl (.int, (f_buffered o0)))]
def H0v (s : List Int32) (a0_0 : List Int32) (a0_1 : List Int32) (a0_2 : List Int32) (a0_3 : List Int32) (a0_4 : List Int32) (a0_5 : List Int32) (a0_6 : List Int32) (a0_7 : Int32) (a0_8 : Int32) (a0_9 : Int32) (a0_10 : Int32) (a0_11 : Int32) (a0_12 : Int32) : QHeap := [.inr (.inl (.int, s)), .inl [.ref 2, .ref 3, .ref 4, .ref 5, .ref 6, .ref 7, .ref 8, .int a0_7, .int a0_8, .int a0_9, .int a0_10, .int a0_11, .int a0_12], .inr (.inl (.int, a0_0)), .inr (.inl (.int, a0_1)), .inr (.inl (.boolean, a0_2)), .inr (.inl (.int, a0_3)), .inr (.inl (.int, a0_4)), .inr (.inl (.int, a0_5)), .inr (.inl (.int, a0_6))]
def H0x0 (s : List Int32) (o0 : Ob) (a0_0 : List Int32) (a0_1 : List Int32) (a0_2 : List Int32) (a0_3 : List Int32) (a0_4 : List Int32) (a0_5 : List Int32) (a0_6 : List Int32) : QHeap := H0v s a0_0 a0_1 a0_2 a0_3 a0_4 a0_5 a0_6 (f_keyCount o0) (f_slotCount o0) (f_window o0) (f_commitCount o0) (f_abortCount o0) (f_lastConflict o0)
/-- clamp(III)I -/
def F2 (x1 : Int32) (x2 : Int32) (x3 : Int32) : Option (Int32) :=
 (if x1 < x2 then some x2 else (if x3 < x1 then some x3 else some x1))
theorem tF2 (Ad : QAd n0 ad) (W : QW Z a0) {a : Nat} {σ : QHeap} (x1 : Int32) (x2 : Int32) (x3 : Int32) {r : Int32} (h : F2 x1 x2 x3 = some r) : QTri l Z n0 ad 2 (0, qentry [.ref a, .int x1, .int x2, .int x3] (pMaxL 2), [], σ) (some (Value.int r)) σ := by
 unfold F2 at h
 refine zS Ad W 2 (st' := (2, [vR a, vI x1, vI x2, vI x3], [.int x2, .int x1], σ)) rfl ?_
 rcases qite h with ⟨hc1, h⟩ | ⟨hc1, h⟩
 ·refine zF Ad W (t := 7) (f := 5) rfl (XT.ii_ge_f hc1) ?_
  refine zS Ad W 1 (st' := (6, [vR a, vI x1, vI x2, vI x3], [.int x2], σ)) rfl ?_
  obtain rfl := Option.some.inj h
  exact QTri.retI rfl rfl
 ·refine zT Ad W (t := 7) (f := 5) rfl (XT.ii_ge_t hc1) ?_
  refine zS Ad W 2 (st' := (9, [vR a, vI x1, vI x2, vI x3], [.int x3, .int x1], σ)) rfl ?_
  rcases qite h with ⟨hc2, h⟩ | ⟨hc2, h⟩
  ·refine zF Ad W (t := 14) (f := 12) rfl (XT.ii_le_f hc2) ?_
   refine zS Ad W 1 (st' := (13, [vR a, vI x1, vI x2, vI x3], [.int x3], σ)) rfl ?_
   obtain rfl := Option.some.inj h
   exact QTri.retI rfl rfl
  ·refine zT Ad W (t := 14) (f := 12) rfl (XT.ii_le_t hc2) ?_
   refine zS Ad W 1 (st' := (15, [vR a, vI x1, vI x2, vI x3], [.int x1], σ)) rfl ?_
   obtain rfl := Option.some.inj h
   exact QTri.retI rfl rfl
def H0x1 (s : List Int32) (o0 : Ob) (a0_0 : List Int32) (a0_1 : List Int32) (a0_2 : List Int32) (a0_3 : List Int32) (a0_4 : List Int32) (a0_5 : List Int32) (a0_6 : List Int32) (a0_7 : Int32) : QHeap := H0v s a0_0 a0_1 a0_2 a0_3 a0_4 a0_5 a0_6 a0_7 (f_slotCount o0) (f_window o0) (f_commitCount o0) (f_abortCount o0) (f_lastConflict o0)
def H0x2 (s : List Int32) (o0 : Ob) (a0_0 : List Int32) (a0_1 : List Int32) (a0_2 : List Int32) (a0_3 : List Int32) (a0_4 : List Int32) (a0_5 : List Int32) (a0_6 : List Int32) (a0_7 : Int32) (a0_8 : Int32) : QHeap := H0v s a0_0 a0_1 a0_2 a0_3 a0_4 a0_5 a0_6 a0_7 a0_8 (f_window o0) (f_commitCount o0) (f_abortCount o0) (f_lastConflict o0)
def H0x3 (s : List Int32) (o0 : Ob) (a0_0 : List Int32) (a0_1 : List Int32) (a0_2 : List Int32) (a0_3 : List Int32) (a0_4 : List Int32) (a0_5 : List Int32) (a0_6 : List Int32) (a0_7 : Int32) (a0_8 : Int32) (a0_9 : Int32) : QHeap := H0v s a0_0 a0_1 a0_2 a0_3 a0_4 a0_5 a0_6 a0_7 a0_8 a0_9 (f_commitCount o0) (f_abortCount o0) (f_lastConflict o0)
def H0x4 (s : List Int32) (o0 : Ob) (a0_0 : List Int32) (a0_1 : List Int32) (a0_2 : List Int32) (a0_3 : List Int32) (a0_4 : List Int32) (a0_5 : List Int32) (a0_6 : List Int32) (a0_7 : Int32) (a0_8 : Int32) (a0_9 : Int32) (a0_10 : Int32) : QHeap := H0v s a0_0 a0_1 a0_2 a0_3 a0_4 a0_5 a0_6 a0_7 a0_8 a0_9 a0_10 (f_abortCount o0) (f_lastConflict o0)
def H0x5 (s : List Int32) (o0 : Ob) (a0_0 : List Int32) (a0_1 : List Int32) (a0_2 : List Int32) (a0_3 : List Int32) (a0_4 : List Int32) (a0_5 : List Int32) (a0_6 : List Int32) (a0_7 : Int32) (a0_8 : Int32) (a0_9 : Int32) (a0_10 : Int32) (a0_11 : Int32) : QHeap := H0v s a0_0 a0_1 a0_2 a0_3 a0_4 a0_5 a0_6 a0_7 a0_8 a0_9 a0_10 a0_11 (f_lastConflict o0)
def H0x6 (s : List Int32) (o0 : Ob) (a0_0 : List Int32) (a0_1 : List Int32) (a0_2 : List Int32) (a0_3 : List Int32) (a0_4 : List Int32) (a0_5 : List Int32) (a0_6 : List Int32) (a0_7 : Int32) (a0_8 : Int32) (a0_9 : Int32) (a0_10 : Int32) (a0_11 : Int32) (a0_12 : Int32) : QHeap := H0v s a0_0 a0_1 a0_2 a0_3 a0_4 a0_5 a0_6 a0_7 a0_8 a0_9 a0_10 a0_11 a0_12
/-- init(III)V -/
def F1 (x1 : Int32) (x2 : Int32) (x3 : Int32) : Option (Ob) :=
 (F2 x1 (8:Int32) (32:Int32)).bind fun r3 => (F2 x2 (2:Int32) (8:Int32)).bind fun r4 => (F2 x3 (2:Int32) (16:Int32)).bind fun r5 => some (s_lastConflict (s_abortCount (s_commitCount (s_window (s_slotCount (s_keyCount (s_buffered (s_writeSet (s_readSet (s_start (s_active (s_version (s_value ob0 (List.replicate 32 0)) (List.replicate 32 0)) (List.replicate 8 0)) (List.replicate 8 0)) (List.replicate 8 0)) (List.replicate 8 0)) (List.replicate 256 0)) r3) r4) r5) (0:Int32)) (0:Int32)) (-1:Int32))
theorem tF1 (Ad : QAd n0 ad) (W : QW Z a0) (s : List Int32) (x1 : Int32) (x2 : Int32) (x3 : Int32) {r : Ob} (h : F1 x1 x2 x3 = some r) : QTri l Z n0 ad 1 (0, qentry [.ref 1, .int x1, .int x2, .int x3] (pMaxL 1), [], [.inr (.inl (.int, s)), .inl [.null, .null, .null, .null, .null, .null, .null, .int (f_keyCount ob0), .int (f_slotCount ob0), .int (f_window ob0), .int (f_commitCount ob0), .int (f_abortCount ob0), .int (f_lastConflict ob0)]]) (none : Option Value) (H0 s r) := by
 unfold F1 at h
 refine zS Ad W 1 (st' := (1, [vR 1, vI x1, vI x2, vI x3], [.ref 1], [.inr (.inl (.int, s)), .inl [.null, .null, .null, .null, .null, .null, .null, .int (f_keyCount ob0), .int (f_slotCount ob0), .int (f_window ob0), .int (f_commitCount ob0), .int (f_abortCount ob0), .int (f_lastConflict ob0)]])) rfl ?_
 refine QTri.callO W rfl rfl rfl ?_
 refine zS Ad W 3 (st' := (9, [vR 1, vI x1, vI x2, vI x3], [.ref 2, .ref 1], [.inr (.inl (.int, s)), .inl [.null, .null, .null, .null, .null, .null, .null, .int (f_keyCount ob0), .int (f_slotCount ob0), .int (f_window ob0), .int (f_commitCount ob0), .int (f_abortCount ob0), .int (f_lastConflict ob0)], .inr (.inl (.int, (List.replicate 32 0)))])) rfl ?_
 refine zS Ad W 1 (st' := (12, [vR 1, vI x1, vI x2, vI x3], [], [.inr (.inl (.int, s)), .inl [.ref 2, .null, .null, .null, .null, .null, .null, .int (f_keyCount ob0), .int (f_slotCount ob0), .int (f_window ob0), .int (f_commitCount ob0), .int (f_abortCount ob0), .int (f_lastConflict ob0)], .inr (.inl (.int, (List.replicate 32 0)))])) rfl ?_
 refine zS Ad W 3 (st' := (17, [vR 1, vI x1, vI x2, vI x3], [.ref 3, .ref 1], [.inr (.inl (.int, s)), .inl [.ref 2, .null, .null, .null, .null, .null, .null, .int (f_keyCount ob0), .int (f_slotCount ob0), .int (f_window ob0), .int (f_commitCount ob0), .int (f_abortCount ob0), .int (f_lastConflict ob0)], .inr (.inl (.int, (List.replicate 32 0))), .inr (.inl (.int, (List.replicate 32 0)))])) rfl ?_
 refine zS Ad W 1 (st' := (20, [vR 1, vI x1, vI x2, vI x3], [], [.inr (.inl (.int, s)), .inl [.ref 2, .ref 3, .null, .null, .null, .null, .null, .int (f_keyCount ob0), .int (f_slotCount ob0), .int (f_window ob0), .int (f_commitCount ob0), .int (f_abortCount ob0), .int (f_lastConflict ob0)], .inr (.inl (.int, (List.replicate 32 0))), .inr (.inl (.int, (List.replicate 32 0)))])) rfl ?_
 refine zS Ad W 3 (st' := (25, [vR 1, vI x1, vI x2, vI x3], [.ref 4, .ref 1], [.inr (.inl (.int, s)), .inl [.ref 2, .ref 3, .null, .null, .null, .null, .null, .int (f_keyCount ob0), .int (f_slotCount ob0), .int (f_window ob0), .int (f_commitCount ob0), .int (f_abortCount ob0), .int (f_lastConflict ob0)], .inr (.inl (.int, (List.replicate 32 0))), .inr (.inl (.int, (List.replicate 32 0))), .inr (.inl (.boolean, (List.replicate 8 0)))])) rfl ?_
 refine zS Ad W 1 (st' := (28, [vR 1, vI x1, vI x2, vI x3], [], [.inr (.inl (.int, s)), .inl [.ref 2, .ref 3, .ref 4, .null, .null, .null, .null, .int (f_keyCount ob0), .int (f_slotCount ob0), .int (f_window ob0), .int (f_commitCount ob0), .int (f_abortCount ob0), .int (f_lastConflict ob0)], .inr (.inl (.int, (List.replicate 32 0))), .inr (.inl (.int, (List.replicate 32 0))), .inr (.inl (.boolean, (List.replicate 8 0)))])) rfl ?_
 refine zS Ad W 3 (st' := (33, [vR 1, vI x1, vI x2, vI x3], [.ref 5, .ref 1], [.inr (.inl (.int, s)), .inl [.ref 2, .ref 3, .ref 4, .null, .null, .null, .null, .int (f_keyCount ob0), .int (f_slotCount ob0), .int (f_window ob0), .int (f_commitCount ob0), .int (f_abortCount ob0), .int (f_lastConflict ob0)], .inr (.inl (.int, (List.replicate 32 0))), .inr (.inl (.int, (List.replicate 32 0))), .inr (.inl (.boolean, (List.replicate 8 0))), .inr (.inl (.int, (List.replicate 8 0)))])) rfl ?_
 refine zS Ad W 1 (st' := (36, [vR 1, vI x1, vI x2, vI x3], [], [.inr (.inl (.int, s)), .inl [.ref 2, .ref 3, .ref 4, .ref 5, .null, .null, .null, .int (f_keyCount ob0), .int (f_slotCount ob0), .int (f_window ob0), .int (f_commitCount ob0), .int (f_abortCount ob0), .int (f_lastConflict ob0)], .inr (.inl (.int, (List.replicate 32 0))), .inr (.inl (.int, (List.replicate 32 0))), .inr (.inl (.boolean, (List.replicate 8 0))), .inr (.inl (.int, (List.replicate 8 0)))])) rfl ?_
 refine zS Ad W 3 (st' := (41, [vR 1, vI x1, vI x2, vI x3], [.ref 6, .ref 1], [.inr (.inl (.int, s)), .inl [.ref 2, .ref 3, .ref 4, .ref 5, .null, .null, .null, .int (f_keyCount ob0), .int (f_slotCount ob0), .int (f_window ob0), .int (f_commitCount ob0), .int (f_abortCount ob0), .int (f_lastConflict ob0)], .inr (.inl (.int, (List.replicate 32 0))), .inr (.inl (.int, (List.replicate 32 0))), .inr (.inl (.boolean, (List.replicate 8 0))), .inr (.inl (.int, (List.replicate 8 0))), .inr (.inl (.int, (List.replicate 8 0)))])) rfl ?_
 refine zS Ad W 1 (st' := (44, [vR 1, vI x1, vI x2, vI x3], [], [.inr (.inl (.int, s)), .inl [.ref 2, .ref 3, .ref 4, .ref 5, .ref 6, .null, .null, .int (f_keyCount ob0), .int (f_slotCount ob0), .int (f_window ob0), .int (f_commitCount ob0), .int (f_abortCount ob0), .int (f_lastConflict ob0)], .inr (.inl (.int, (List.replicate 32 0))), .inr (.inl (.int, (List.replicate 32 0))), .inr (.inl (.boolean, (List.replicate 8 0))), .inr (.inl (.int, (List.replicate 8 0))), .inr (.inl (.int, (List.replicate 8 0)))])) rfl ?_
 refine zS Ad W 3 (st' := (49, [vR 1, vI x1, vI x2, vI x3], [.ref 7, .ref 1], [.inr (.inl (.int, s)), .inl [.ref 2, .ref 3, .ref 4, .ref 5, .ref 6, .null, .null, .int (f_keyCount ob0), .int (f_slotCount ob0), .int (f_window ob0), .int (f_commitCount ob0), .int (f_abortCount ob0), .int (f_lastConflict ob0)], .inr (.inl (.int, (List.replicate 32 0))), .inr (.inl (.int, (List.replicate 32 0))), .inr (.inl (.boolean, (List.replicate 8 0))), .inr (.inl (.int, (List.replicate 8 0))), .inr (.inl (.int, (List.replicate 8 0))), .inr (.inl (.int, (List.replicate 8 0)))])) rfl ?_
 refine zS Ad W 1 (st' := (52, [vR 1, vI x1, vI x2, vI x3], [], [.inr (.inl (.int, s)), .inl [.ref 2, .ref 3, .ref 4, .ref 5, .ref 6, .ref 7, .null, .int (f_keyCount ob0), .int (f_slotCount ob0), .int (f_window ob0), .int (f_commitCount ob0), .int (f_abortCount ob0), .int (f_lastConflict ob0)], .inr (.inl (.int, (List.replicate 32 0))), .inr (.inl (.int, (List.replicate 32 0))), .inr (.inl (.boolean, (List.replicate 8 0))), .inr (.inl (.int, (List.replicate 8 0))), .inr (.inl (.int, (List.replicate 8 0))), .inr (.inl (.int, (List.replicate 8 0)))])) rfl ?_
 refine zS Ad W 3 (st' := (58, [vR 1, vI x1, vI x2, vI x3], [.ref 8, .ref 1], [.inr (.inl (.int, s)), .inl [.ref 2, .ref 3, .ref 4, .ref 5, .ref 6, .ref 7, .null, .int (f_keyCount ob0), .int (f_slotCount ob0), .int (f_window ob0), .int (f_commitCount ob0), .int (f_abortCount ob0), .int (f_lastConflict ob0)], .inr (.inl (.int, (List.replicate 32 0))), .inr (.inl (.int, (List.replicate 32 0))), .inr (.inl (.boolean, (List.replicate 8 0))), .inr (.inl (.int, (List.replicate 8 0))), .inr (.inl (.int, (List.replicate 8 0))), .inr (.inl (.int, (List.replicate 8 0))), .inr (.inl (.int, (List.replicate 256 0)))])) rfl ?_
 refine zS Ad W 1 (st' := (61, [vR 1, vI x1, vI x2, vI x3], [], (H0x0 s ob0 (List.replicate 32 0) (List.replicate 32 0) (List.replicate 8 0) (List.replicate 8 0) (List.replicate 8 0) (List.replicate 8 0) (List.replicate 256 0)))) rfl ?_
 refine zS Ad W 5 (st' := (68, [vR 1, vI x1, vI x2, vI x3], [.int (32:Int32), .int (8:Int32), .int x1, .ref 1, .ref 1], (H0x0 s ob0 (List.replicate 32 0) (List.replicate 32 0) (List.replicate 8 0) (List.replicate 8 0) (List.replicate 8 0) (List.replicate 8 0) (List.replicate 256 0)))) rfl ?_
 obtain ⟨r3, hr3, h⟩ := bind_eq_some_iff.mp h
 refine QTri.callP W (a := 1) (as := [.int x1, .int (8:Int32), .int (32:Int32)]) (rest := [.ref 1]) (w := (some (.int r3))) (σ₁ := (H0x0 s ob0 (List.replicate 32 0) (List.replicate 32 0) (List.replicate 8 0) (List.replicate 8 0) (List.replicate 8 0) (List.replicate 8 0) (List.replicate 256 0))) rfl rfl rfl rfl rfl rfl rfl rfl (tF2 Ad W x1 (8:Int32) (32:Int32) hr3) ?_
 refine zS Ad W 1 (st' := (74, [vR 1, vI x1, vI x2, vI x3], [], (H0x1 s ob0 (List.replicate 32 0) (List.replicate 32 0) (List.replicate 8 0) (List.replicate 8 0) (List.replicate 8 0) (List.replicate 8 0) (List.replicate 256 0) r3))) rfl ?_
 refine zS Ad W 5 (st' := (80, [vR 1, vI x1, vI x2, vI x3], [.int (8:Int32), .int (2:Int32), .int x2, .ref 1, .ref 1], (H0x1 s ob0 (List.replicate 32 0) (List.replicate 32 0) (List.replicate 8 0) (List.replicate 8 0) (List.replicate 8 0) (List.replicate 8 0) (List.replicate 256 0) r3))) rfl ?_
 obtain ⟨r4, hr4, h⟩ := bind_eq_some_iff.mp h
 refine QTri.callP W (a := 1) (as := [.int x2, .int (2:Int32), .int (8:Int32)]) (rest := [.ref 1]) (w := (some (.int r4))) (σ₁ := (H0x1 s ob0 (List.replicate 32 0) (List.replicate 32 0) (List.replicate 8 0) (List.replicate 8 0) (List.replicate 8 0) (List.replicate 8 0) (List.replicate 256 0) r3)) rfl rfl rfl rfl rfl rfl rfl rfl (tF2 Ad W x2 (2:Int32) (8:Int32) hr4) ?_
 refine zS Ad W 1 (st' := (86, [vR 1, vI x1, vI x2, vI x3], [], (H0x2 s ob0 (List.replicate 32 0) (List.replicate 32 0) (List.replicate 8 0) (List.replicate 8 0) (List.replicate 8 0) (List.replicate 8 0) (List.replicate 256 0) r3 r4))) rfl ?_
 refine zS Ad W 5 (st' := (92, [vR 1, vI x1, vI x2, vI x3], [.int (16:Int32), .int (2:Int32), .int x3, .ref 1, .ref 1], (H0x2 s ob0 (List.replicate 32 0) (List.replicate 32 0) (List.replicate 8 0) (List.replicate 8 0) (List.replicate 8 0) (List.replicate 8 0) (List.replicate 256 0) r3 r4))) rfl ?_
 obtain ⟨r5, hr5, h⟩ := bind_eq_some_iff.mp h
 refine QTri.callP W (a := 1) (as := [.int x3, .int (2:Int32), .int (16:Int32)]) (rest := [.ref 1]) (w := (some (.int r5))) (σ₁ := (H0x2 s ob0 (List.replicate 32 0) (List.replicate 32 0) (List.replicate 8 0) (List.replicate 8 0) (List.replicate 8 0) (List.replicate 8 0) (List.replicate 256 0) r3 r4)) rfl rfl rfl rfl rfl rfl rfl rfl (tF2 Ad W x3 (2:Int32) (16:Int32) hr5) ?_
 refine zS Ad W 1 (st' := (98, [vR 1, vI x1, vI x2, vI x3], [], (H0x3 s ob0 (List.replicate 32 0) (List.replicate 32 0) (List.replicate 8 0) (List.replicate 8 0) (List.replicate 8 0) (List.replicate 8 0) (List.replicate 256 0) r3 r4 r5))) rfl ?_
 refine zS Ad W 3 (st' := (103, [vR 1, vI x1, vI x2, vI x3], [], (H0x4 s ob0 (List.replicate 32 0) (List.replicate 32 0) (List.replicate 8 0) (List.replicate 8 0) (List.replicate 8 0) (List.replicate 8 0) (List.replicate 256 0) r3 r4 r5 (0:Int32)))) rfl ?_
 refine zS Ad W 3 (st' := (108, [vR 1, vI x1, vI x2, vI x3], [], (H0x5 s ob0 (List.replicate 32 0) (List.replicate 32 0) (List.replicate 8 0) (List.replicate 8 0) (List.replicate 8 0) (List.replicate 8 0) (List.replicate 256 0) r3 r4 r5 (0:Int32) (0:Int32)))) rfl ?_
 refine zS Ad W 3 (st' := (113, [vR 1, vI x1, vI x2, vI x3], [], (H0x6 s ob0 (List.replicate 32 0) (List.replicate 32 0) (List.replicate 8 0) (List.replicate 8 0) (List.replicate 8 0) (List.replicate 8 0) (List.replicate 256 0) r3 r4 r5 (0:Int32) (0:Int32) (-1:Int32)))) rfl ?_
 have E6 : ((H0x6 s ob0 (List.replicate 32 0) (List.replicate 32 0) (List.replicate 8 0) (List.replicate 8 0) (List.replicate 8 0) (List.replicate 8 0) (List.replicate 256 0) r3 r4 r5 (0:Int32) (0:Int32) (-1:Int32)) : QHeap) = (H0 s (s_lastConflict (s_abortCount (s_commitCount (s_window (s_slotCount (s_keyCount (s_buffered (s_writeSet (s_readSet (s_start (s_active (s_version (s_value ob0 (List.replicate 32 0)) (List.replicate 32 0)) (List.replicate 8 0)) (List.replicate 8 0)) (List.replicate 8 0)) (List.replicate 8 0)) (List.replicate 256 0)) r3) r4) r5) (0:Int32)) (0:Int32)) (-1:Int32))) := by simp only [fs, H0, H0v, H0x6, s_value, s_version, s_active, s_start, s_readSet, s_writeSet, s_buffered, s_keyCount, s_slotCount, s_window, s_commitCount, s_abortCount, s_lastConflict, ob0]
 rw [E6]
 obtain rfl := Option.some.inj h
 exact QTri.ret0 rfl rfl
/-- cell([II)I -/
def F3 (s : List Int32) (x1 : Int32) : Option (Int32) :=
 (if x1 < (s.length.toInt32) then (aget s x1).bind fun y13 => some y13 else some (0:Int32))
theorem tF3 (Ad : QAd n0 ad) (W : QW Z a0) (e0 : Ob) (s : List Int32) (x1 : Int32) {r : Int32} (h : F3 s x1 = some r) : QTri l Z n0 ad 3 (0, qentry [.ref 0, .int x1] (pMaxL 3), [], (H0 s e0)) (some (Value.int r)) (H0 s e0) := by
 unfold F3 at h
 refine zS Ad W 3 (st' := (3, [vR 0, vI x1], [.int (s.length.toInt32), .int x1], (H0 s e0))) rfl ?_
 rcases qite h with ⟨hc12, h⟩ | ⟨hc12, h⟩
 ·refine zF Ad W (t := 12) (f := 6) rfl (XT.ii_ge_f hc12) ?_
  refine zS Ad W 2 (st' := (8, [vR 0, vI x1], [.int x1, .ref 0], (H0 s e0))) rfl ?_
  obtain ⟨y13, hy13, h⟩ := bind_eq_some_iff.mp h
  refine zB Ad W (f := fun y13 => (9, [vR 0, vI x1], [.int y13], (H0 s e0))) rfl hy13 ?_
  refine zS Ad W 1 (st' := (13, [vR 0, vI x1], [.int y13], (H0 s e0))) rfl ?_
  obtain rfl := Option.some.inj h
  exact QTri.retI rfl rfl
 ·refine zT Ad W (t := 12) (f := 6) rfl (XT.ii_ge_t hc12) ?_
  refine zS Ad W 1 (st' := (13, [vR 0, vI x1], [.int (0:Int32)], (H0 s e0))) rfl ?_
  obtain rfl := Option.some.inj h
  exact QTri.retI rfl rfl
/-- isValidTx(I)Z -/
def F5 (o : Ob) (x1 : Int32) : Option (Int32) :=
 (if x1 < (0:Int32) then some (0:Int32) else (if x1 < (f_slotCount o) then (if x1 < (8:Int32) then (aget (f_active o) x1).bind fun y19 => some (y19 &&& 1) else some (0:Int32)) else some (0:Int32)))
theorem tF5 (Ad : QAd n0 ad) (W : QW Z a0) (s : List Int32) (o : Ob) (x1 : Int32) {r : Int32} (h : F5 o x1 = some r) : QTri l Z n0 ad 5 (0, qentry [.ref 1, .int x1] (pMaxL 5), [], (H0 s o)) (some (Value.int r)) (H0 s o) := by
 unfold F5 at h
 refine zS Ad W 1 (st' := (1, [vR 1, vI x1], [.int x1], (H0 s o))) rfl ?_
 rcases qite h with ⟨hc16, h⟩ | ⟨hc16, h⟩
 ·refine zT Ad W (t := 18) (f := 4) rfl (XT.i0_lt_t hc16) ?_
  refine zS Ad W 1 (st' := (19, [vR 1, vI x1], [.int (0:Int32)], (H0 s o))) rfl ?_
  obtain rfl := Option.some.inj h
  exact QTri.retZ rfl rfl
 ·refine zF Ad W (t := 18) (f := 4) rfl (XT.i0_lt_f hc16) ?_
  refine zS Ad W 3 (st' := (9, [vR 1, vI x1], [.int (f_slotCount o), .int x1], (H0 s o))) rfl ?_
  rcases qite h with ⟨hc17, h⟩ | ⟨hc17, h⟩
  ·refine zF Ad W (t := 18) (f := 12) rfl (XT.ii_ge_f hc17) ?_
   refine zS Ad W 2 (st' := (15, [vR 1, vI x1], [.int (8:Int32), .int x1], (H0 s o))) rfl ?_
   rcases qite h with ⟨hc18, h⟩ | ⟨hc18, h⟩
   ·refine zT Ad W (t := 20) (f := 18) rfl (XT.ii_lt_t hc18) ?_
    refine zS Ad W 3 (st' := (25, [vR 1, vI x1], [.int x1, .ref 4], (H0 s o))) rfl ?_
    obtain ⟨y19, hy19, h⟩ := bind_eq_some_iff.mp h
    refine zB Ad W (f := fun y19 => (26, [vR 1, vI x1], [.int y19], (H0 s o))) rfl hy19 ?_
    obtain rfl := Option.some.inj h
    exact QTri.retZ rfl rfl
   ·refine zF Ad W (t := 20) (f := 18) rfl (XT.ii_lt_f hc18) ?_
    refine zS Ad W 1 (st' := (19, [vR 1, vI x1], [.int (0:Int32)], (H0 s o))) rfl ?_
    obtain rfl := Option.some.inj h
    exact QTri.retZ rfl rfl
  ·refine zT Ad W (t := 18) (f := 12) rfl (XT.ii_ge_t hc17) ?_
   refine zS Ad W 1 (st' := (19, [vR 1, vI x1], [.int (0:Int32)], (H0 s o))) rfl ?_
   obtain rfl := Option.some.inj h
   exact QTri.retZ rfl rfl
/-- isActive(I)Z -/
def F4 (o : Ob) (x1 : Int32) : Option (Int32) :=
 (F5 o x1).bind fun r20 => some (r20 &&& 1)
theorem tF4 (Ad : QAd n0 ad) (W : QW Z a0) (s : List Int32) (o : Ob) (x1 : Int32) {r : Int32} (h : F4 o x1 = some r) : QTri l Z n0 ad 4 (0, qentry [.ref 1, .int x1] (pMaxL 4), [], (H0 s o)) (some (Value.int r)) (H0 s o) := by
 unfold F4 at h
 refine zS Ad W 2 (st' := (2, [vR 1, vI x1], [.int x1, .ref 1], (H0 s o))) rfl ?_
 obtain ⟨r20, hr20, h⟩ := bind_eq_some_iff.mp h
 refine QTri.callP W (a := 1) (as := [.int x1]) (rest := []) (w := (some (.int r20))) (σ₁ := (H0 s o)) rfl rfl rfl rfl rfl rfl rfl rfl (tF5 Ad W s o x1 hr20) ?_
 obtain rfl := Option.some.inj h
 exact QTri.retZ rfl rfl
/-- isValidKey(I)Z -/
def F7 (o : Ob) (x1 : Int32) : Option (Int32) :=
 (if x1 < (0:Int32) then some (0:Int32) else (if x1 < (f_keyCount o) then (if x1 < (32:Int32) then some (1:Int32) else some (0:Int32)) else some (0:Int32)))
theorem tF7 (Ad : QAd n0 ad) (W : QW Z a0) (s : List Int32) (o : Ob) (x1 : Int32) {r : Int32} (h : F7 o x1 = some r) : QTri l Z n0 ad 7 (0, qentry [.ref 1, .int x1] (pMaxL 7), [], (H0 s o)) (some (Value.int r)) (H0 s o) := by
 unfold F7 at h
 refine zS Ad W 1 (st' := (1, [vR 1, vI x1], [.int x1], (H0 s o))) rfl ?_
 rcases qite h with ⟨hc24, h⟩ | ⟨hc24, h⟩
 ·refine zT Ad W (t := 22) (f := 4) rfl (XT.i0_lt_t hc24) ?_
  refine zS Ad W 1 (st' := (23, [vR 1, vI x1], [.int (0:Int32)], (H0 s o))) rfl ?_
  obtain rfl := Option.some.inj h
  exact QTri.retZ rfl rfl
 ·refine zF Ad W (t := 22) (f := 4) rfl (XT.i0_lt_f hc24) ?_
  refine zS Ad W 3 (st' := (9, [vR 1, vI x1], [.int (f_keyCount o), .int x1], (H0 s o))) rfl ?_
  rcases qite h with ⟨hc25, h⟩ | ⟨hc25, h⟩
  ·refine zF Ad W (t := 22) (f := 12) rfl (XT.ii_ge_f hc25) ?_
   refine zS Ad W 2 (st' := (15, [vR 1, vI x1], [.int (32:Int32), .int x1], (H0 s o))) rfl ?_
   rcases qite h with ⟨hc26, h⟩ | ⟨hc26, h⟩
   ·refine zF Ad W (t := 22) (f := 18) rfl (XT.ii_ge_f hc26) ?_
    refine zS Ad W 2 (st' := (23, [vR 1, vI x1], [.int (1:Int32)], (H0 s o))) rfl ?_
    obtain rfl := Option.some.inj h
    exact QTri.retZ rfl rfl
   ·refine zT Ad W (t := 22) (f := 18) rfl (XT.ii_ge_t hc26) ?_
    refine zS Ad W 1 (st' := (23, [vR 1, vI x1], [.int (0:Int32)], (H0 s o))) rfl ?_
    obtain rfl := Option.some.inj h
    exact QTri.retZ rfl rfl
  ·refine zT Ad W (t := 22) (f := 12) rfl (XT.ii_ge_t hc25) ?_
   refine zS Ad W 1 (st' := (23, [vR 1, vI x1], [.int (0:Int32)], (H0 s o))) rfl ?_
   obtain rfl := Option.some.inj h
   exact QTri.retZ rfl rfl
/-- getValue(I)I -/
def F6 (o : Ob) (x1 : Int32) : Option (Int32) :=
 (F7 o x1).bind fun r27 => (if r27 = (0:Int32) then some (0:Int32) else (aget (f_value o) x1).bind fun y29 => some y29)
theorem tF6 (Ad : QAd n0 ad) (W : QW Z a0) (s : List Int32) (o : Ob) (x1 : Int32) {r : Int32} (h : F6 o x1 = some r) : QTri l Z n0 ad 6 (0, qentry [.ref 1, .int x1] (pMaxL 6), [], (H0 s o)) (some (Value.int r)) (H0 s o) := by
 unfold F6 at h
 refine zS Ad W 2 (st' := (2, [vR 1, vI x1], [.int x1, .ref 1], (H0 s o))) rfl ?_
 obtain ⟨r27, hr27, h⟩ := bind_eq_some_iff.mp h
 refine QTri.callP W (a := 1) (as := [.int x1]) (rest := []) (w := (some (.int r27))) (σ₁ := (H0 s o)) rfl rfl rfl rfl rfl rfl rfl rfl (tF7 Ad W s o x1 hr27) ?_
 rcases qite h with ⟨hc28, h⟩ | ⟨hc28, h⟩
 ·refine zF Ad W (t := 10) (f := 8) rfl (XT.i0_ne_f hc28) ?_
  refine zS Ad W 1 (st' := (9, [vR 1, vI x1], [.int (0:Int32)], (H0 s o))) rfl ?_
  obtain rfl := Option.some.inj h
  exact QTri.retI rfl rfl
 ·refine zT Ad W (t := 10) (f := 8) rfl (XT.i0_ne_t hc28) ?_
  refine zS Ad W 3 (st' := (15, [vR 1, vI x1], [.int x1, .ref 2], (H0 s o))) rfl ?_
  obtain ⟨y29, hy29, h⟩ := bind_eq_some_iff.mp h
  refine zB Ad W (f := fun y29 => (16, [vR 1, vI x1], [.int y29], (H0 s o))) rfl hy29 ?_
  obtain rfl := Option.some.inj h
  exact QTri.retI rfl rfl
/-- nib(JI)I -/
def F8 (x0 : Int64) (x2 : Int32) : Option (Int32) :=
 some (((XT.ushrL x0 ((4:Int32) * x2)) &&& (15 : Int64)).toInt32)
theorem tF8 (Ad : QAd n0 ad) (W : QW Z a0) {σ : QHeap} (x0 : Int64) (x2 : Int32) {r : Int32} (h : F8 x0 x2 = some r) : QTri l Z n0 ad 8 (0, qentry [.long x0, .int x2] (pMaxL 8), [], σ) (some (Value.int r)) σ := by
 unfold F8 at h
 refine zS Ad W 8 (st' := (10, [vL x0, none, vI x2], [.int (((XT.ushrL x0 ((4:Int32) * x2)) &&& (15 : Int64)).toInt32)], σ)) rfl ?_
 obtain rfl := Option.some.inj h
 exact QTri.retI rfl rfl
/-- getVersion(I)I -/
def F9 (o : Ob) (x1 : Int32) : Option (Int32) :=
 (F7 o x1).bind fun r33 => (if r33 = (0:Int32) then some (0:Int32) else (aget (f_version o) x1).bind fun y35 => some y35)
theorem tF9 (Ad : QAd n0 ad) (W : QW Z a0) (s : List Int32) (o : Ob) (x1 : Int32) {r : Int32} (h : F9 o x1 = some r) : QTri l Z n0 ad 9 (0, qentry [.ref 1, .int x1] (pMaxL 9), [], (H0 s o)) (some (Value.int r)) (H0 s o) := by
 unfold F9 at h
 refine zS Ad W 2 (st' := (2, [vR 1, vI x1], [.int x1, .ref 1], (H0 s o))) rfl ?_
 obtain ⟨r33, hr33, h⟩ := bind_eq_some_iff.mp h
 refine QTri.callP W (a := 1) (as := [.int x1]) (rest := []) (w := (some (.int r33))) (σ₁ := (H0 s o)) rfl rfl rfl rfl rfl rfl rfl rfl (tF7 Ad W s o x1 hr33) ?_
 rcases qite h with ⟨hc34, h⟩ | ⟨hc34, h⟩
 ·refine zF Ad W (t := 10) (f := 8) rfl (XT.i0_ne_f hc34) ?_
  refine zS Ad W 1 (st' := (9, [vR 1, vI x1], [.int (0:Int32)], (H0 s o))) rfl ?_
  obtain rfl := Option.some.inj h
  exact QTri.retI rfl rfl
 ·refine zT Ad W (t := 10) (f := 8) rfl (XT.i0_ne_t hc34) ?_
  refine zS Ad W 3 (st' := (15, [vR 1, vI x1], [.int x1, .ref 3], (H0 s o))) rfl ?_
  obtain ⟨y35, hy35, h⟩ := bind_eq_some_iff.mp h
  refine zB Ad W (f := fun y35 => (16, [vR 1, vI x1], [.int y35], (H0 s o))) rfl hy35 ?_
  obtain rfl := Option.some.inj h
  exact QTri.retI rfl rfl
/-- byt(JI)I -/
def F10 (x0 : Int64) (x2 : Int32) : Option (Int32) :=
 some (((XT.ushrL x0 ((8:Int32) * x2)) &&& (255 : Int64)).toInt32)
theorem tF10 (Ad : QAd n0 ad) (W : QW Z a0) {σ : QHeap} (x0 : Int64) (x2 : Int32) {r : Int32} (h : F10 x0 x2 = some r) : QTri l Z n0 ad 10 (0, qentry [.long x0, .int x2] (pMaxL 10), [], σ) (some (Value.int r)) σ := by
 unfold F10 at h
 refine zS Ad W 8 (st' := (11, [vL x0, none, vI x2], [.int (((XT.ushrL x0 ((8:Int32) * x2)) &&& (255 : Int64)).toInt32)], σ)) rfl ?_
 obtain rfl := Option.some.inj h
 exact QTri.retI rfl rfl
def B0_628 (s : List Int32) (p0 : Ob) (x2 : Int64) (x4 : Int64) (x6 : Int32) (x7 : Int32) (x8 : Int32) (x9 : Int32) (x10 : Int32) (x11 : Int32) (x12 : Int32) (x13 : Int64) (x15 : Int64) (x17 : Int64) (x19 : Int64) (x21 : Int32) (x22 : Int32) (v : Int32) : Option (((Unit) ⊕ (Int32 × QHeap)) ⊕ (Int32)) :=
  (if v < (8 : Int32) then (F6 p0 v).bind fun r30 => (F8 x2 v).bind fun r31 => (if r30 = r31 then (F9 p0 v).bind fun r36 => (F10 x4 v).bind fun r37 => (if r36 = r37 then some (.inr (v + (1 : Int32))) else some (.inl (Sum.inr ((0 : Int32), (H0 s p0))))) else some (.inl (Sum.inr ((0 : Int32), (H0 s p0))))) else some (.inl (Sum.inl ())))
theorem tB0_628 (Ad : QAd n0 ad) (W : QW Z a0) (s : List Int32) (p0 : Ob) (x2 : Int64) (x4 : Int64) (x6 : Int32) (x7 : Int32) (x8 : Int32) (x9 : Int32) (x10 : Int32) (x11 : Int32) (x12 : Int32) (x13 : Int64) (x15 : Int64) (x17 : Int64) (x19 : Int64) (x21 : Int32) (x22 : Int32) (v : Int32) {r : ((Unit) ⊕ (Int32 × QHeap)) ⊕ (Int32)} {u : Option Value} {τ : QHeap} (h : B0_628 s p0 x2 x4 x6 x7 x8 x9 x10 x11 x12 x13 x15 x17 x19 x21 x22 v = some r) (hx0 : ∀ x : Unit, r = .inl (Sum.inl x) → QTri l Z n0 ad 0 (676, [vR 0, vR 1, vL x2, none, vL x4, none, vI x6, vI x7, vI x8, vI x9, vI x10, vI x11, vI x12, vL x13, none, vL x15, none, vL x17, none, vL x19, none, vI x21, vI x22, none, none, none, none, none, none, none, none, none, none, none, none, none, none], [], (H0 s p0)) u τ) (hx1 : ∀ x : Int32 × QHeap, r = .inl (Sum.inr x) → u = (some (Value.int x.1)) ∧ τ = x.2) (hc : ∀ x : Int32, r = .inr x → QTri l Z n0 ad 0 (628, [vR 0, vR 1, vL x2, none, vL x4, none, vI x6, vI x7, vI x8, vI x9, vI x10, vI x11, vI x12, vL x13, none, vL x15, none, vL x17, none, vL x19, none, vI x21, vI x22, none, none, none, none, none, vI x, none, none, none, none, none, none, none, none], [], (H0 s p0)) u τ) : QTri l Z n0 ad 0 (628, [vR 0, vR 1, vL x2, none, vL x4, none, vI x6, vI x7, vI x8, vI x9, vI x10, vI x11, vI x12, vL x13, none, vL x15, none, vL x17, none, vL x19, none, vI x21, vI x22, none, none, none, none, none, vI v, none, none, none, none, none, none, none, none], [], (H0 s p0)) u τ := by
 unfold B0_628 at h
 refine zS Ad W 2 (st' := (632, [vR 0, vR 1, vL x2, none, vL x4, none, vI x6, vI x7, vI x8, vI x9, vI x10, vI x11, vI x12, vL x13, none, vL x15, none, vL x17, none, vL x19, none, vI x21, vI x22, none, none, none, none, none, vI v, none, none, none, none, none, none, none, none], [.int (8:Int32), .int v], (H0 s p0))) rfl ?_
 rcases qite h with ⟨hc23, h⟩ | ⟨hc23, h⟩
 ·refine zF Ad W (t := 676) (f := 635) rfl (XT.ii_ge_f hc23) ?_
  refine zS Ad W 2 (st' := (638, [vR 0, vR 1, vL x2, none, vL x4, none, vI x6, vI x7, vI x8, vI x9, vI x10, vI x11, vI x12, vL x13, none, vL x15, none, vL x17, none, vL x19, none, vI x21, vI x22, none, none, none, none, none, vI v, none, none, none, none, none, none, none, none], [.int v, .ref 1], (H0 s p0))) rfl ?_
  obtain ⟨r30, hr30, h⟩ := bind_eq_some_iff.mp h
  refine QTri.callV W (a := 1) (as := [.int v]) (rest := []) (w := (some (.int r30))) (σ₁ := (H0 s p0)) rfl rfl rfl rfl rfl rfl rfl rfl (tF6 Ad W s p0 v hr30) ?_
  refine zS Ad W 2 (st' := (644, [vR 0, vR 1, vL x2, none, vL x4, none, vI x6, vI x7, vI x8, vI x9, vI x10, vI x11, vI x12, vL x13, none, vL x15, none, vL x17, none, vL x19, none, vI x21, vI x22, none, none, none, none, none, vI v, none, none, none, none, none, none, none, none], [.int v, .long x2, .int r30], (H0 s p0))) rfl ?_
  obtain ⟨r31, hr31, h⟩ := bind_eq_some_iff.mp h
  refine QTri.callS W (as := [.long x2, .int v]) (rest := [.int r30]) (w := (some (.int r31))) (σ₁ := (H0 s p0)) rfl rfl rfl rfl rfl rfl rfl (tF8 Ad W x2 v hr31) ?_
  rcases qite h with ⟨hc32, h⟩ | ⟨hc32, h⟩
  ·refine zT Ad W (t := 652) (f := 650) rfl (XT.ii_eq_t hc32) ?_
   refine zS Ad W 2 (st' := (655, [vR 0, vR 1, vL x2, none, vL x4, none, vI x6, vI x7, vI x8, vI x9, vI x10, vI x11, vI x12, vL x13, none, vL x15, none, vL x17, none, vL x19, none, vI x21, vI x22, none, none, none, none, none, vI v, none, none, none, none, none, none, none, none], [.int v, .ref 1], (H0 s p0))) rfl ?_
   obtain ⟨r36, hr36, h⟩ := bind_eq_some_iff.mp h
   refine QTri.callV W (a := 1) (as := [.int v]) (rest := []) (w := (some (.int r36))) (σ₁ := (H0 s p0)) rfl rfl rfl rfl rfl rfl rfl rfl (tF9 Ad W s p0 v hr36) ?_
   refine zS Ad W 2 (st' := (662, [vR 0, vR 1, vL x2, none, vL x4, none, vI x6, vI x7, vI x8, vI x9, vI x10, vI x11, vI x12, vL x13, none, vL x15, none, vL x17, none, vL x19, none, vI x21, vI x22, none, none, none, none, none, vI v, none, none, none, none, none, none, none, none], [.int v, .long x4, .int r36], (H0 s p0))) rfl ?_
   obtain ⟨r37, hr37, h⟩ := bind_eq_some_iff.mp h
   refine QTri.callS W (as := [.long x4, .int v]) (rest := [.int r36]) (w := (some (.int r37))) (σ₁ := (H0 s p0)) rfl rfl rfl rfl rfl rfl rfl (tF10 Ad W x4 v hr37) ?_
   rcases qite h with ⟨hc38, h⟩ | ⟨hc38, h⟩
   ·refine zT Ad W (t := 670) (f := 668) rfl (XT.ii_eq_t hc38) ?_
    refine zS Ad W 2 (st' := (628, [vR 0, vR 1, vL x2, none, vL x4, none, vI x6, vI x7, vI x8, vI x9, vI x10, vI x11, vI x12, vL x13, none, vL x15, none, vL x17, none, vL x19, none, vI x21, vI x22, none, none, none, none, none, vI (v + (1:Int32)), none, none, none, none, none, none, none, none], [], (H0 s p0))) rfl ?_
    obtain rfl := Option.some.inj h
    exact zM [tt,tt,tt,ff,tt,ff,tt,tt,tt,tt,tt,tt,tt,tt,ff,tt,ff,tt,ff,tt,ff,tt,tt,ff,ff,ff,ff,ff,tt,ff,ff,ff,ff,ff,ff,ff,ff] (hc (v + (1:Int32)) rfl)
   ·refine zF Ad W (t := 670) (f := 668) rfl (XT.ii_eq_f hc38) ?_
    refine zS Ad W 1 (st' := (669, [vR 0, vR 1, vL x2, none, vL x4, none, vI x6, vI x7, vI x8, vI x9, vI x10, vI x11, vI x12, vL x13, none, vL x15, none, vL x17, none, vL x19, none, vI x21, vI x22, none, none, none, none, none, vI v, none, none, none, none, none, none, none, none], [.int (0:Int32)], (H0 s p0))) rfl ?_
    obtain rfl := Option.some.inj h
    obtain ⟨rfl, rfl⟩ := hx1 ((0:Int32), (H0 s p0)) rfl
    exact QTri.retZ rfl rfl
  ·refine zF Ad W (t := 652) (f := 650) rfl (XT.ii_eq_f hc32) ?_
   refine zS Ad W 1 (st' := (651, [vR 0, vR 1, vL x2, none, vL x4, none, vI x6, vI x7, vI x8, vI x9, vI x10, vI x11, vI x12, vL x13, none, vL x15, none, vL x17, none, vL x19, none, vI x21, vI x22, none, none, none, none, none, vI v, none, none, none, none, none, none, none, none], [.int (0:Int32)], (H0 s p0))) rfl ?_
   obtain rfl := Option.some.inj h
   obtain ⟨rfl, rfl⟩ := hx1 ((0:Int32), (H0 s p0)) rfl
   exact QTri.retZ rfl rfl
 ·refine zT Ad W (t := 676) (f := 635) rfl (XT.ii_ge_t hc23) ?_
  obtain rfl := Option.some.inj h
  exact zM [tt,tt,tt,ff,tt,ff,tt,tt,tt,tt,tt,tt,tt,tt,ff,tt,ff,tt,ff,tt,ff,tt,tt,ff,ff,ff,ff,ff,ff,ff,ff,ff,ff,ff,ff,ff,ff] (hx0 () rfl)
def J0_625 (s : List Int32) (p0 : Ob) (x2 : Int64) (x4 : Int64) (x6 : Int32) (x7 : Int32) (x8 : Int32) (x9 : Int32) (x10 : Int32) (x11 : Int32) (x12 : Int32) (x13 : Int64) (x15 : Int64) (x17 : Int64) (x19 : Int64) (x21 : Int32) (x22 : Int32) : Option (((Int32 × QHeap)) ⊕ (Int64 × Int64 × Int32 × Int32 × Int32 × Int32 × Int32 × Int32 × Int32 × Int64 × Int64 × Int64 × Int64 × Int32 × Ob)) :=
  ((loopN (B0_628 s p0 x2 x4 x6 x7 x8 x9 x10 x11 x12 x13 x15 x17 x19 x21 x22) qN (0 : Int32)).bind fun e39 => match e39 with | .inl e39a => some (.inr (x2, x4, x6, x7, x8, x9, x10, x11, x12, x13, x15, x17, x19, (x22 + (1 : Int32)), p0)) | .inr e39a => some (.inl e39a))
theorem tJ0_625 (Ad : QAd n0 ad) (W : QW Z a0) (s : List Int32) (p0 : Ob) (x2 : Int64) (x4 : Int64) (x6 : Int32) (x7 : Int32) (x8 : Int32) (x9 : Int32) (x10 : Int32) (x11 : Int32) (x12 : Int32) (x13 : Int64) (x15 : Int64) (x17 : Int64) (x19 : Int64) (x21 : Int32) (x22 : Int32) {r : ((Int32 × QHeap)) ⊕ (Int64 × Int64 × Int32 × Int32 × Int32 × Int32 × Int32 × Int32 × Int32 × Int64 × Int64 × Int64 × Int64 × Int32 × Ob)} {u : Option Value} {τ : QHeap} (h : J0_625 s p0 x2 x4 x6 x7 x8 x9 x10 x11 x12 x13 x15 x17 x19 x21 x22 = some r) (hx0 : ∀ x : Int32 × QHeap, r = .inl x → u = (some (Value.int x.1)) ∧ τ = x.2) (hc : ∀ x : Int64 × Int64 × Int32 × Int32 × Int32 × Int32 × Int32 × Int32 × Int32 × Int64 × Int64 × Int64 × Int64 × Int32 × Ob, r = .inr x → QTri l Z n0 ad 0 (71, [vR 0, vR 1, vL x.1, none, vL x.2.1, none, vI x.2.2.1, vI x.2.2.2.1, vI x.2.2.2.2.1, vI x.2.2.2.2.2.1, vI x.2.2.2.2.2.2.1, vI x.2.2.2.2.2.2.2.1, vI x.2.2.2.2.2.2.2.2.1, vL x.2.2.2.2.2.2.2.2.2.1, none, vL x.2.2.2.2.2.2.2.2.2.2.1, none, vL x.2.2.2.2.2.2.2.2.2.2.2.1, none, vL x.2.2.2.2.2.2.2.2.2.2.2.2.1, none, vI x21, vI x.2.2.2.2.2.2.2.2.2.2.2.2.2.1, none, none, none, none, none, none, none, none, none, none, none, none, none, none], [], (H0 s x.2.2.2.2.2.2.2.2.2.2.2.2.2.2)) u τ) : QTri l Z n0 ad 0 (625, [vR 0, vR 1, vL x2, none, vL x4, none, vI x6, vI x7, vI x8, vI x9, vI x10, vI x11, vI x12, vL x13, none, vL x15, none, vL x17, none, vL x19, none, vI x21, vI x22, none, none, none, none, none, none, none, none, none, none, none, none, none, none], [], (H0 s p0)) u τ := by
 unfold J0_625 at h
 refine zS Ad W 2 (st' := (628, [vR 0, vR 1, vL x2, none, vL x4, none, vI x6, vI x7, vI x8, vI x9, vI x10, vI x11, vI x12, vL x13, none, vL x15, none, vL x17, none, vL x19, none, vI x21, vI x22, none, none, none, none, none, vI (0:Int32), none, none, none, none, none, none, none, none], [], (H0 s p0))) rfl ?_
 obtain ⟨e39, he39, h⟩ := bind_eq_some_iff.mp h
 refine zM [tt,tt,tt,ff,tt,ff,tt,tt,tt,tt,tt,tt,tt,tt,ff,tt,ff,tt,ff,tt,ff,tt,tt,ff,ff,ff,ff,ff,tt,ff,ff,ff,ff,ff,ff,ff,ff] (loopN_tri (B := B0_628 s p0 x2 x4 x6 x7 x8 x9 x10 x11 x12 x13 x15 x17 x19 x21 x22) (T := fun lv40 => QTri l Z n0 ad 0 (628, [vR 0, vR 1, vL x2, none, vL x4, none, vI x6, vI x7, vI x8, vI x9, vI x10, vI x11, vI x12, vL x13, none, vL x15, none, vL x17, none, vL x19, none, vI x21, vI x22, none, none, none, none, none, vI lv40, none, none, none, none, none, none, none, none], [], (H0 s p0)) u τ) (KE := fun e => match e with | .inl e39a => QTri l Z n0 ad 0 (676, [vR 0, vR 1, vL x2, none, vL x4, none, vI x6, vI x7, vI x8, vI x9, vI x10, vI x11, vI x12, vL x13, none, vL x15, none, vL x17, none, vL x19, none, vI x21, vI x22, none, none, none, none, none, none, none, none, none, none, none, none, none, none], [], (H0 s p0)) u τ | .inr e39a => u = (some (Value.int e39a.1)) ∧ τ = e39a.2) (fun lv40 r hB hE hC => tB0_628 Ad W s p0 x2 x4 x6 x7 x8 x9 x10 x11 x12 x13 x15 x17 x19 x21 x22 lv40 hB (fun x q => hE _ q) (fun x q => hE _ q) (fun x q => hC x q)) qN (0:Int32) e39 he39 ?_)
 rcases e39 with e39a | e39a
 ·refine zS Ad W 2 (st' := (71, [vR 0, vR 1, vL x2, none, vL x4, none, vI x6, vI x7, vI x8, vI x9, vI x10, vI x11, vI x12, vL x13, none, vL x15, none, vL x17, none, vL x19, none, vI x21, vI (x22 + (1:Int32)), none, none, none, none, none, none, none, none, none, none, none, none, none, none], [], (H0 s p0))) rfl ?_
  obtain rfl := Option.some.inj h
  exact zM [tt,tt,tt,ff,tt,ff,tt,tt,tt,tt,tt,tt,tt,tt,ff,tt,ff,tt,ff,tt,ff,tt,tt,ff,ff,ff,ff,ff,ff,ff,ff,ff,ff,ff,ff,ff,ff] (hc (x2, x4, x6, x7, x8, x9, x10, x11, x12, x13, x15, x17, x19, (x22 + (1:Int32)), p0) rfl)
 ·obtain rfl := Option.some.inj h
  exact hx0 e39a rfl
/-- bit(I)I -/
def F16 (x1 : Int32) : Option (Int32) :=
 some ((1:Int32) <<< (x1 &&& 31))
theorem tF16 (Ad : QAd n0 ad) (W : QW Z a0) {a : Nat} {σ : QHeap} (x1 : Int32) {r : Int32} (h : F16 x1 = some r) : QTri l Z n0 ad 16 (0, qentry [.ref a, .int x1] (pMaxL 16), [], σ) (some (Value.int r)) σ := by
 unfold F16 at h
 refine zS Ad W 3 (st' := (3, [vR a, vI x1], [.int ((1:Int32) <<< (x1 &&& 31))], σ)) rfl ?_
 obtain rfl := Option.some.inj h
 exact QTri.retI rfl rfl
def H0x7 (s : List Int32) (o0 : Ob) (a0_4 : List Int32) : QHeap := H0v s (f_value o0) (f_version o0) (f_active o0) (f_start o0) a0_4 (f_writeSet o0) (f_buffered o0) (f_keyCount o0) (f_slotCount o0) (f_window o0) (f_commitCount o0) (f_abortCount o0) (f_lastConflict o0)
/-- bufIndex(II)I -/
def F17 (x1 : Int32) (x2 : Int32) : Option (Int32) :=
 some ((x1 * (32:Int32)) + x2)
theorem tF17 (Ad : QAd n0 ad) (W : QW Z a0) {a : Nat} {σ : QHeap} (x1 : Int32) (x2 : Int32) {r : Int32} (h : F17 x1 x2 = some r) : QTri l Z n0 ad 17 (0, qentry [.ref a, .int x1, .int x2] (pMaxL 17), [], σ) (some (Value.int r)) σ := by
 unfold F17 at h
 refine zS Ad W 5 (st' := (6, [vR a, vI x1, vI x2], [.int ((x1 * (32:Int32)) + x2)], σ)) rfl ?_
 obtain rfl := Option.some.inj h
 exact QTri.retI rfl rfl
/-- read(II)I -/
def F19 (o : Ob) (x1 : Int32) (x2 : Int32) : Option (Int32 × Ob) :=
 (F5 o x1).bind fun r57 => (if r57 = (0:Int32) then some ((0:Int32), o) else (F7 o x2).bind fun r59 => (if r59 = (0:Int32) then some ((0:Int32), o) else (F16 x2).bind fun r61 => (aget (f_writeSet o) x1).bind fun y62 => (if (y62 &&& r61) = (0:Int32) then (aget (f_readSet o) x1).bind fun y64 => (aset (f_readSet o) x1 (y64 ||| r61)).bind fun y65 => (aget (f_value o) x2).bind fun y66 => some (y66, (s_readSet o y65)) else (F17 x1 x2).bind fun r68 => (aget (f_buffered o) r68).bind fun y69 => some (y69, o))))
theorem tF19 (Ad : QAd n0 ad) (W : QW Z a0) (s : List Int32) (o : Ob) (x1 : Int32) (x2 : Int32) {r : Int32 × Ob} (h : F19 o x1 x2 = some r) : QTri l Z n0 ad 19 (0, qentry [.ref 1, .int x1, .int x2] (pMaxL 19), [], (H0 s o)) (some (Value.int r.1)) (H0 s r.2) := by
 unfold F19 at h
 refine zS Ad W 2 (st' := (2, [vR 1, vI x1, vI x2, none], [.int x1, .ref 1], (H0 s o))) rfl ?_
 obtain ⟨r57, hr57, h⟩ := bind_eq_some_iff.mp h
 refine QTri.callP W (a := 1) (as := [.int x1]) (rest := []) (w := (some (.int r57))) (σ₁ := (H0 s o)) rfl rfl rfl rfl rfl rfl rfl rfl (tF5 Ad W s o x1 hr57) ?_
 rcases qite h with ⟨hc58, h⟩ | ⟨hc58, h⟩
 ·refine zF Ad W (t := 10) (f := 8) rfl (XT.i0_ne_f hc58) ?_
  refine zS Ad W 1 (st' := (9, [vR 1, vI x1, vI x2, none], [.int (0:Int32)], (H0 s o))) rfl ?_
  obtain rfl := Option.some.inj h
  exact QTri.retI rfl rfl
 ·refine zT Ad W (t := 10) (f := 8) rfl (XT.i0_ne_t hc58) ?_
  refine zS Ad W 2 (st' := (12, [vR 1, vI x1, vI x2, none], [.int x2, .ref 1], (H0 s o))) rfl ?_
  obtain ⟨r59, hr59, h⟩ := bind_eq_some_iff.mp h
  refine QTri.callP W (a := 1) (as := [.int x2]) (rest := []) (w := (some (.int r59))) (σ₁ := (H0 s o)) rfl rfl rfl rfl rfl rfl rfl rfl (tF7 Ad W s o x2 hr59) ?_
  rcases qite h with ⟨hc60, h⟩ | ⟨hc60, h⟩
  ·refine zF Ad W (t := 20) (f := 18) rfl (XT.i0_ne_f hc60) ?_
   refine zS Ad W 1 (st' := (19, [vR 1, vI x1, vI x2, none], [.int (0:Int32)], (H0 s o))) rfl ?_
   obtain rfl := Option.some.inj h
   exact QTri.retI rfl rfl
  ·refine zT Ad W (t := 20) (f := 18) rfl (XT.i0_ne_t hc60) ?_
   refine zS Ad W 2 (st' := (22, [vR 1, vI x1, vI x2, none], [.int x2, .ref 1], (H0 s o))) rfl ?_
   obtain ⟨r61, hr61, h⟩ := bind_eq_some_iff.mp h
   refine QTri.callP W (a := 1) (as := [.int x2]) (rest := []) (w := (some (.int r61))) (σ₁ := (H0 s o)) rfl rfl rfl rfl rfl rfl rfl rfl (tF16 Ad W x2 hr61) ?_
   refine zS Ad W 4 (st' := (31, [vR 1, vI x1, vI x2, vI r61], [.int x1, .ref 7], (H0 s o))) rfl ?_
   obtain ⟨y62, hy62, h⟩ := bind_eq_some_iff.mp h
   refine zB Ad W (f := fun y62 => (32, [vR 1, vI x1, vI x2, vI r61], [.int y62], (H0 s o))) rfl hy62 ?_
   refine zS Ad W 2 (st' := (34, [vR 1, vI x1, vI x2, vI r61], [.int (y62 &&& r61)], (H0 s o))) rfl ?_
   rcases qite h with ⟨hc63, h⟩ | ⟨hc63, h⟩
   ·refine zT Ad W (t := 49) (f := 37) rfl (XT.i0_eq_t hc63) ?_
    refine zS Ad W 6 (st' := (59, [vR 1, vI x1, vI x2, vI r61], [.int x1, .ref 6, .int x1, .ref 6], (H0 s o))) rfl ?_
    obtain ⟨y64, hy64, h⟩ := bind_eq_some_iff.mp h
    refine zB Ad W (f := fun y64 => (60, [vR 1, vI x1, vI x2, vI r61], [.int y64, .int x1, .ref 6], (H0 s o))) rfl hy64 ?_
    refine zS Ad W 2 (st' := (62, [vR 1, vI x1, vI x2, vI r61], [.int (y64 ||| r61), .int x1, .ref 6], (H0 s o))) rfl ?_
    obtain ⟨y65, hy65, h⟩ := bind_eq_some_iff.mp h
    refine zB Ad W (f := fun y65 => (63, [vR 1, vI x1, vI x2, vI r61], [], (H0x7 s o y65))) rfl hy65 ?_
    refine zS Ad W 3 (st' := (68, [vR 1, vI x1, vI x2, vI r61], [.int x2, .ref 2], (H0x7 s o y65))) rfl ?_
    obtain ⟨y66, hy66, h⟩ := bind_eq_some_iff.mp h
    refine zB Ad W (f := fun y66 => (69, [vR 1, vI x1, vI x2, vI r61], [.int y66], (H0x7 s o y65))) rfl hy66 ?_
    have E67 : ((H0x7 s o y65) : QHeap) = (H0 s (s_readSet o y65)) := by simp only [fs, H0, H0v, H0x7, s_readSet]
    rw [E67]
    obtain rfl := Option.some.inj h
    exact QTri.retI rfl rfl
   ·refine zF Ad W (t := 49) (f := 37) rfl (XT.i0_eq_f hc63) ?_
    refine zS Ad W 5 (st' := (44, [vR 1, vI x1, vI x2, vI r61], [.int x2, .int x1, .ref 1, .ref 8], (H0 s o))) rfl ?_
    obtain ⟨r68, hr68, h⟩ := bind_eq_some_iff.mp h
    refine QTri.callP W (a := 1) (as := [.int x1, .int x2]) (rest := [.ref 8]) (w := (some (.int r68))) (σ₁ := (H0 s o)) rfl rfl rfl rfl rfl rfl rfl rfl (tF17 Ad W x1 x2 hr68) ?_
    obtain ⟨y69, hy69, h⟩ := bind_eq_some_iff.mp h
    refine zB Ad W (f := fun y69 => (48, [vR 1, vI x1, vI x2, vI r61], [.int y69], (H0 s o))) rfl hy69 ?_
    obtain rfl := Option.some.inj h
    exact QTri.retI rfl rfl
def J0_577 (s : List Int32) (p0 : Ob) (x2 : Int64) (x4 : Int64) (x6 : Int32) (x7 : Int32) (x8 : Int32) (x9 : Int32) (x10 : Int32) (x11 : Int32) (x12 : Int32) (x13 : Int64) (x15 : Int64) (x17 : Int64) (x19 : Int64) (x21 : Int32) (x22 : Int32) (x25 : Int32) (x28 : Int32) (x29 : Int32) (x30 : Int32) (x31 : Int64) (x33 : Int64) : Option (((Int32 × QHeap)) ⊕ (Int64 × Int64 × Int32 × Int32 × Int32 × Int32 × Int32 × Int32 × Int32 × Int64 × Int64 × Int64 × Int64 × Int32 × Ob)) :=
  (J0_625 s p0 x2 x4 x6 (if x25 = (0 : Int32) then x28 else x7) (if x25 = (0 : Int32) then x8 else x28) (if x25 = (0 : Int32) then x29 else x9) (if x25 = (0 : Int32) then x10 else x29) (if x25 = (0 : Int32) then x30 else x11) (if x25 = (0 : Int32) then x12 else x30) (if x25 = (0 : Int32) then x31 else x13) (if x25 = (0 : Int32) then x15 else x31) (if x25 = (0 : Int32) then x33 else x17) (if x25 = (0 : Int32) then x19 else x33) x21 x22)
theorem tJ0_577 (Ad : QAd n0 ad) (W : QW Z a0) (s : List Int32) (p0 : Ob) (x2 : Int64) (x4 : Int64) (x6 : Int32) (x7 : Int32) (x8 : Int32) (x9 : Int32) (x10 : Int32) (x11 : Int32) (x12 : Int32) (x13 : Int64) (x15 : Int64) (x17 : Int64) (x19 : Int64) (x21 : Int32) (x22 : Int32) (x25 : Int32) (x28 : Int32) (x29 : Int32) (x30 : Int32) (x31 : Int64) (x33 : Int64) {r : ((Int32 × QHeap)) ⊕ (Int64 × Int64 × Int32 × Int32 × Int32 × Int32 × Int32 × Int32 × Int32 × Int64 × Int64 × Int64 × Int64 × Int32 × Ob)} {u : Option Value} {τ : QHeap} (h : J0_577 s p0 x2 x4 x6 x7 x8 x9 x10 x11 x12 x13 x15 x17 x19 x21 x22 x25 x28 x29 x30 x31 x33 = some r) (hx0 : ∀ x : Int32 × QHeap, r = .inl x → u = (some (Value.int x.1)) ∧ τ = x.2) (hc : ∀ x : Int64 × Int64 × Int32 × Int32 × Int32 × Int32 × Int32 × Int32 × Int32 × Int64 × Int64 × Int64 × Int64 × Int32 × Ob, r = .inr x → QTri l Z n0 ad 0 (71, [vR 0, vR 1, vL x.1, none, vL x.2.1, none, vI x.2.2.1, vI x.2.2.2.1, vI x.2.2.2.2.1, vI x.2.2.2.2.2.1, vI x.2.2.2.2.2.2.1, vI x.2.2.2.2.2.2.2.1, vI x.2.2.2.2.2.2.2.2.1, vL x.2.2.2.2.2.2.2.2.2.1, none, vL x.2.2.2.2.2.2.2.2.2.2.1, none, vL x.2.2.2.2.2.2.2.2.2.2.2.1, none, vL x.2.2.2.2.2.2.2.2.2.2.2.2.1, none, vI x21, vI x.2.2.2.2.2.2.2.2.2.2.2.2.2.1, none, none, none, none, none, none, none, none, none, none, none, none, none, none], [], (H0 s x.2.2.2.2.2.2.2.2.2.2.2.2.2.2)) u τ) : QTri l Z n0 ad 0 (577, [vR 0, vR 1, vL x2, none, vL x4, none, vI x6, vI x7, vI x8, vI x9, vI x10, vI x11, vI x12, vL x13, none, vL x15, none, vL x17, none, vL x19, none, vI x21, vI x22, none, none, vI x25, none, none, vI x28, vI x29, vI x30, vL x31, none, vL x33, none, none, none], [], (H0 s p0)) u τ := by
 unfold J0_577 at h
 refine zS Ad W 1 (st' := (579, [vR 0, vR 1, vL x2, none, vL x4, none, vI x6, vI x7, vI x8, vI x9, vI x10, vI x11, vI x12, vL x13, none, vL x15, none, vL x17, none, vL x19, none, vI x21, vI x22, none, none, vI x25, none, none, vI x28, vI x29, vI x30, vL x31, none, vL x33, none, none, none], [.int x25], (H0 s p0))) rfl ?_
 have K83 : ∀ z73 : Int32, z73 = (if x25 = (0:Int32) then x28 else x7) → ∀ z74 : Int32, z74 = (if x25 = (0:Int32) then x8 else x28) → ∀ z75 : Int32, z75 = (if x25 = (0:Int32) then x29 else x9) → ∀ z76 : Int32, z76 = (if x25 = (0:Int32) then x10 else x29) → ∀ z77 : Int32, z77 = (if x25 = (0:Int32) then x30 else x11) → ∀ z78 : Int32, z78 = (if x25 = (0:Int32) then x12 else x30) → ∀ z79 : Int64, z79 = (if x25 = (0:Int32) then x31 else x13) → ∀ z80 : Int64, z80 = (if x25 = (0:Int32) then x15 else x31) → ∀ z81 : Int64, z81 = (if x25 = (0:Int32) then x33 else x17) → ∀ z82 : Int64, z82 = (if x25 = (0:Int32) then x19 else x33) → QTri l Z n0 ad 0 (625, [vR 0, vR 1, vL x2, none, vL x4, none, vI x6, vI z73, vI z74, vI z75, vI z76, vI z77, vI z78, vL z79, none, vL z80, none, vL z81, none, vL z82, none, vI x21, vI x22, none, none, none, none, none, none, none, none, none, none, none, none, none, none], [], (H0 s p0)) u τ := by
  intro z73 ez73
  intro z74 ez74
  intro z75 ez75
  intro z76 ez76
  intro z77 ez77
  intro z78 ez78
  intro z79 ez79
  intro z80 ez80
  intro z81 ez81
  intro z82 ez82
  subst ez73
  subst ez74
  subst ez75
  subst ez76
  subst ez77
  subst ez78
  subst ez79
  subst ez80
  subst ez81
  subst ez82
  exact zM [tt,tt,tt,ff,tt,ff,tt,tt,tt,tt,tt,tt,tt,tt,ff,tt,ff,tt,ff,tt,ff,tt,tt,ff,ff,ff,ff,ff,ff,ff,ff,ff,ff,ff,ff,ff,ff] (tJ0_625 Ad W s p0 x2 x4 x6 (if x25 = (0:Int32) then x28 else x7) (if x25 = (0:Int32) then x8 else x28) (if x25 = (0:Int32) then x29 else x9) (if x25 = (0:Int32) then x10 else x29) (if x25 = (0:Int32) then x30 else x11) (if x25 = (0:Int32) then x12 else x30) (if x25 = (0:Int32) then x31 else x13) (if x25 = (0:Int32) then x15 else x31) (if x25 = (0:Int32) then x33 else x17) (if x25 = (0:Int32) then x19 else x33) x21 x22 h hx0 hc)
 rcases em (x25 = (0:Int32)) with hc84 | hc84
 ·refine zF Ad W (t := 605) (f := 582) rfl (XT.i0_ne_f hc84) ?_
  refine zS Ad W 4 (st' := (590, [vR 0, vR 1, vL x2, none, vL x4, none, vI x6, vI x28, vI x8, vI x29, vI x10, vI x11, vI x12, vL x13, none, vL x15, none, vL x17, none, vL x19, none, vI x21, vI x22, none, none, vI x25, none, none, vI x28, vI x29, vI x30, vL x31, none, vL x33, none, none, none], [], (H0 s p0))) rfl ?_
  refine zS Ad W 4 (st' := (598, [vR 0, vR 1, vL x2, none, vL x4, none, vI x6, vI x28, vI x8, vI x29, vI x10, vI x30, vI x12, vL x31, none, vL x15, none, vL x17, none, vL x19, none, vI x21, vI x22, none, none, vI x25, none, none, vI x28, vI x29, vI x30, vL x31, none, vL x33, none, none, none], [], (H0 s p0))) rfl ?_
  refine zS Ad W 3 (st' := (625, [vR 0, vR 1, vL x2, none, vL x4, none, vI x6, vI x28, vI x8, vI x29, vI x10, vI x30, vI x12, vL x31, none, vL x15, none, vL x33, none, vL x19, none, vI x21, vI x22, none, none, vI x25, none, none, vI x28, vI x29, vI x30, vL x31, none, vL x33, none, none, none], [], (H0 s p0))) rfl ?_
  exact zM [tt,tt,tt,ff,tt,ff,tt,tt,tt,tt,tt,tt,tt,tt,ff,tt,ff,tt,ff,tt,ff,tt,tt,ff,ff,ff,ff,ff,ff,ff,ff,ff,ff,ff,ff,ff,ff] (K83 _ (if_pos hc84).symm _ (if_pos hc84).symm _ (if_pos hc84).symm _ (if_pos hc84).symm _ (if_pos hc84).symm _ (if_pos hc84).symm _ (if_pos hc84).symm _ (if_pos hc84).symm _ (if_pos hc84).symm _ (if_pos hc84).symm)
 ·refine zT Ad W (t := 605) (f := 582) rfl (XT.i0_ne_t hc84) ?_
  refine zS Ad W 4 (st' := (613, [vR 0, vR 1, vL x2, none, vL x4, none, vI x6, vI x7, vI x28, vI x9, vI x29, vI x11, vI x12, vL x13, none, vL x15, none, vL x17, none, vL x19, none, vI x21, vI x22, none, none, vI x25, none, none, vI x28, vI x29, vI x30, vL x31, none, vL x33, none, none, none], [], (H0 s p0))) rfl ?_
  refine zS Ad W 4 (st' := (621, [vR 0, vR 1, vL x2, none, vL x4, none, vI x6, vI x7, vI x28, vI x9, vI x29, vI x11, vI x30, vL x13, none, vL x31, none, vL x17, none, vL x19, none, vI x21, vI x22, none, none, vI x25, none, none, vI x28, vI x29, vI x30, vL x31, none, vL x33, none, none, none], [], (H0 s p0))) rfl ?_
  refine zS Ad W 2 (st' := (625, [vR 0, vR 1, vL x2, none, vL x4, none, vI x6, vI x7, vI x28, vI x9, vI x29, vI x11, vI x30, vL x13, none, vL x31, none, vL x17, none, vL x33, none, vI x21, vI x22, none, none, vI x25, none, none, vI x28, vI x29, vI x30, vL x31, none, vL x33, none, none, none], [], (H0 s p0))) rfl ?_
  exact zM [tt,tt,tt,ff,tt,ff,tt,tt,tt,tt,tt,tt,tt,tt,ff,tt,ff,tt,ff,tt,ff,tt,tt,ff,ff,ff,ff,ff,ff,ff,ff,ff,ff,ff,ff,ff,ff] (K83 _ (if_neg hc84).symm _ (if_neg hc84).symm _ (if_neg hc84).symm _ (if_neg hc84).symm _ (if_neg hc84).symm _ (if_neg hc84).symm _ (if_neg hc84).symm _ (if_neg hc84).symm _ (if_neg hc84).symm _ (if_neg hc84).symm)
def J0_368 (s : List Int32) (p0 : Ob) (x2 : Int64) (x4 : Int64) (x6 : Int32) (x7 : Int32) (x8 : Int32) (x9 : Int32) (x10 : Int32) (x11 : Int32) (x12 : Int32) (x13 : Int64) (x15 : Int64) (x17 : Int64) (x19 : Int64) (x21 : Int32) (x22 : Int32) (x25 : Int32) (x28 : Int32) (x29 : Int32) (x30 : Int32) (x31 : Int64) (x33 : Int64) : Option (((Int32 × QHeap)) ⊕ (Int64 × Int64 × Int32 × Int32 × Int32 × Int32 × Int32 × Int32 × Int32 × Int64 × Int64 × Int64 × Int64 × Int32 × Ob)) :=
  (J0_577 s p0 x2 x4 x6 x7 x8 x9 x10 x11 x12 x13 x15 x17 x19 x21 x22 x25 x28 x29 x30 x31 x33)
theorem tJ0_368 (Ad : QAd n0 ad) (W : QW Z a0) (s : List Int32) (p0 : Ob) (x2 : Int64) (x4 : Int64) (x6 : Int32) (x7 : Int32) (x8 : Int32) (x9 : Int32) (x10 : Int32) (x11 : Int32) (x12 : Int32) (x13 : Int64) (x15 : Int64) (x17 : Int64) (x19 : Int64) (x21 : Int32) (x22 : Int32) (x25 : Int32) (x28 : Int32) (x29 : Int32) (x30 : Int32) (x31 : Int64) (x33 : Int64) {r : ((Int32 × QHeap)) ⊕ (Int64 × Int64 × Int32 × Int32 × Int32 × Int32 × Int32 × Int32 × Int32 × Int64 × Int64 × Int64 × Int64 × Int32 × Ob)} {u : Option Value} {τ : QHeap} (h : J0_368 s p0 x2 x4 x6 x7 x8 x9 x10 x11 x12 x13 x15 x17 x19 x21 x22 x25 x28 x29 x30 x31 x33 = some r) (hx0 : ∀ x : Int32 × QHeap, r = .inl x → u = (some (Value.int x.1)) ∧ τ = x.2) (hc : ∀ x : Int64 × Int64 × Int32 × Int32 × Int32 × Int32 × Int32 × Int32 × Int32 × Int64 × Int64 × Int64 × Int64 × Int32 × Ob, r = .inr x → QTri l Z n0 ad 0 (71, [vR 0, vR 1, vL x.1, none, vL x.2.1, none, vI x.2.2.1, vI x.2.2.2.1, vI x.2.2.2.2.1, vI x.2.2.2.2.2.1, vI x.2.2.2.2.2.2.1, vI x.2.2.2.2.2.2.2.1, vI x.2.2.2.2.2.2.2.2.1, vL x.2.2.2.2.2.2.2.2.2.1, none, vL x.2.2.2.2.2.2.2.2.2.2.1, none, vL x.2.2.2.2.2.2.2.2.2.2.2.1, none, vL x.2.2.2.2.2.2.2.2.2.2.2.2.1, none, vI x21, vI x.2.2.2.2.2.2.2.2.2.2.2.2.2.1, none, none, none, none, none, none, none, none, none, none, none, none, none, none], [], (H0 s x.2.2.2.2.2.2.2.2.2.2.2.2.2.2)) u τ) : QTri l Z n0 ad 0 (368, [vR 0, vR 1, vL x2, none, vL x4, none, vI x6, vI x7, vI x8, vI x9, vI x10, vI x11, vI x12, vL x13, none, vL x15, none, vL x17, none, vL x19, none, vI x21, vI x22, none, none, vI x25, none, none, vI x28, vI x29, vI x30, vL x31, none, vL x33, none, none, none], [], (H0 s p0)) u τ := by
 unfold J0_368 at h
 refine zS Ad W 1 (st' := (577, [vR 0, vR 1, vL x2, none, vL x4, none, vI x6, vI x7, vI x8, vI x9, vI x10, vI x11, vI x12, vL x13, none, vL x15, none, vL x17, none, vL x19, none, vI x21, vI x22, none, none, vI x25, none, none, vI x28, vI x29, vI x30, vL x31, none, vL x33, none, none, none], [], (H0 s p0))) rfl ?_
 exact zM [tt,tt,tt,ff,tt,ff,tt,tt,tt,tt,tt,tt,tt,tt,ff,tt,ff,tt,ff,tt,ff,tt,tt,ff,ff,tt,ff,ff,tt,tt,tt,tt,ff,tt,ff,ff,ff] (tJ0_577 Ad W s p0 x2 x4 x6 x7 x8 x9 x10 x11 x12 x13 x15 x17 x19 x21 x22 x25 x28 x29 x30 x31 x33 h hx0 hc)
def J0_314 (s : List Int32) (p0 : Ob) (x2 : Int64) (x4 : Int64) (x6 : Int32) (x7 : Int32) (x8 : Int32) (x9 : Int32) (x10 : Int32) (x11 : Int32) (x12 : Int32) (x13 : Int64) (x15 : Int64) (x17 : Int64) (x19 : Int64) (x21 : Int32) (x22 : Int32) (x25 : Int32) (x28 : Int32) (x29 : Int32) (x31 : Int64) (x33 : Int64) : Option (((Int32 × QHeap)) ⊕ (Int64 × Int64 × Int32 × Int32 × Int32 × Int32 × Int32 × Int32 × Int32 × Int64 × Int64 × Int64 × Int64 × Int32 × Ob)) :=
  (J0_368 s p0 x2 x4 x6 x7 x8 x9 x10 x11 x12 x13 x15 x17 x19 x21 x22 x25 x28 x29 (1 : Int32) x31 x33)
theorem tJ0_314 (Ad : QAd n0 ad) (W : QW Z a0) (s : List Int32) (p0 : Ob) (x2 : Int64) (x4 : Int64) (x6 : Int32) (x7 : Int32) (x8 : Int32) (x9 : Int32) (x10 : Int32) (x11 : Int32) (x12 : Int32) (x13 : Int64) (x15 : Int64) (x17 : Int64) (x19 : Int64) (x21 : Int32) (x22 : Int32) (x25 : Int32) (x28 : Int32) (x29 : Int32) (x31 : Int64) (x33 : Int64) {r : ((Int32 × QHeap)) ⊕ (Int64 × Int64 × Int32 × Int32 × Int32 × Int32 × Int32 × Int32 × Int32 × Int64 × Int64 × Int64 × Int64 × Int32 × Ob)} {u : Option Value} {τ : QHeap} (h : J0_314 s p0 x2 x4 x6 x7 x8 x9 x10 x11 x12 x13 x15 x17 x19 x21 x22 x25 x28 x29 x31 x33 = some r) (hx0 : ∀ x : Int32 × QHeap, r = .inl x → u = (some (Value.int x.1)) ∧ τ = x.2) (hc : ∀ x : Int64 × Int64 × Int32 × Int32 × Int32 × Int32 × Int32 × Int32 × Int32 × Int64 × Int64 × Int64 × Int64 × Int32 × Ob, r = .inr x → QTri l Z n0 ad 0 (71, [vR 0, vR 1, vL x.1, none, vL x.2.1, none, vI x.2.2.1, vI x.2.2.2.1, vI x.2.2.2.2.1, vI x.2.2.2.2.2.1, vI x.2.2.2.2.2.2.1, vI x.2.2.2.2.2.2.2.1, vI x.2.2.2.2.2.2.2.2.1, vL x.2.2.2.2.2.2.2.2.2.1, none, vL x.2.2.2.2.2.2.2.2.2.2.1, none, vL x.2.2.2.2.2.2.2.2.2.2.2.1, none, vL x.2.2.2.2.2.2.2.2.2.2.2.2.1, none, vI x21, vI x.2.2.2.2.2.2.2.2.2.2.2.2.2.1, none, none, none, none, none, none, none, none, none, none, none, none, none, none], [], (H0 s x.2.2.2.2.2.2.2.2.2.2.2.2.2.2)) u τ) : QTri l Z n0 ad 0 (314, [vR 0, vR 1, vL x2, none, vL x4, none, vI x6, vI x7, vI x8, vI x9, vI x10, vI x11, vI x12, vL x13, none, vL x15, none, vL x17, none, vL x19, none, vI x21, vI x22, none, none, vI x25, none, none, vI x28, vI x29, none, vL x31, none, vL x33, none, none, none], [], (H0 s p0)) u τ := by
 unfold J0_314 at h
 refine zS Ad W 3 (st' := (368, [vR 0, vR 1, vL x2, none, vL x4, none, vI x6, vI x7, vI x8, vI x9, vI x10, vI x11, vI x12, vL x13, none, vL x15, none, vL x17, none, vL x19, none, vI x21, vI x22, none, none, vI x25, none, none, vI x28, vI x29, vI (1:Int32), vL x31, none, vL x33, none, none, none], [], (H0 s p0))) rfl ?_
 exact zM [tt,tt,tt,ff,tt,ff,tt,tt,tt,tt,tt,tt,tt,tt,ff,tt,ff,tt,ff,tt,ff,tt,tt,ff,ff,tt,ff,ff,tt,tt,tt,tt,ff,tt,ff,ff,ff] (tJ0_368 Ad W s p0 x2 x4 x6 x7 x8 x9 x10 x11 x12 x13 x15 x17 x19 x21 x22 x25 x28 x29 (1:Int32) x31 x33 h hx0 hc)
/-- setNib(JII)J -/
def F18 (x0 : Int64) (x2 : Int32) (x3 : Int32) : Option (Int64) :=
 some ((x0 &&& (((15 : Int64) <<< (((4:Int32) * x2).toInt64 &&& 63)) ^^^ (-1 : Int64))) ||| (((x3 &&& (15:Int32)).toInt64) <<< (((4:Int32) * x2).toInt64 &&& 63)))
theorem tF18 (Ad : QAd n0 ad) (W : QW Z a0) {σ : QHeap} (x0 : Int64) (x2 : Int32) (x3 : Int32) {r : Int64} (h : F18 x0 x2 x3 = some r) : QTri l Z n0 ad 18 (0, qentry [.long x0, .int x2, .int x3] (pMaxL 18), [], σ) (some (Value.long r)) σ := by
 unfold F18 at h
 refine zS Ad W 12 (st' := (17, [vL x0, none, vI x2, vI x3], [.int (x3 &&& (15:Int32)), .long (x0 &&& (((15 : Int64) <<< (((4:Int32) * x2).toInt64 &&& 63)) ^^^ (-1 : Int64)))], σ)) rfl ?_
 refine zS Ad W 6 (st' := (23, [vL x0, none, vI x2, vI x3], [.long ((x0 &&& (((15 : Int64) <<< (((4:Int32) * x2).toInt64 &&& 63)) ^^^ (-1 : Int64))) ||| (((x3 &&& (15:Int32)).toInt64) <<< (((4:Int32) * x2).toInt64 &&& 63)))], σ)) rfl ?_
 obtain rfl := Option.some.inj h
 exact QTri.retJ rfl rfl
def H0x8 (s : List Int32) (o0 : Ob) (a0_5 : List Int32) : QHeap := H0v s (f_value o0) (f_version o0) (f_active o0) (f_start o0) (f_readSet o0) a0_5 (f_buffered o0) (f_keyCount o0) (f_slotCount o0) (f_window o0) (f_commitCount o0) (f_abortCount o0) (f_lastConflict o0)
def H0x9 (s : List Int32) (o0 : Ob) (a0_5 : List Int32) (a0_6 : List Int32) : QHeap := H0v s (f_value o0) (f_version o0) (f_active o0) (f_start o0) (f_readSet o0) a0_5 a0_6 (f_keyCount o0) (f_slotCount o0) (f_window o0) (f_commitCount o0) (f_abortCount o0) (f_lastConflict o0)
/-- write(III)I -/
def F15 (o : Ob) (x1 : Int32) (x2 : Int32) (x3 : Int32) : Option (Int32 × Ob) :=
 (F5 o x1).bind fun r97 => (if r97 = (0:Int32) then some ((-1:Int32), o) else (F7 o x2).bind fun r99 => (if r99 = (0:Int32) then some ((-2:Int32), o) else (aget (f_writeSet o) x1).bind fun y101 => (F16 x2).bind fun r102 => (aset (f_writeSet o) x1 (y101 ||| r102)).bind fun y103 => (F17 x1 x2).bind fun r104 => (aset (f_buffered o) r104 x3).bind fun y105 => some ((0:Int32), (s_buffered (s_writeSet o y103) y105))))
theorem tF15 (Ad : QAd n0 ad) (W : QW Z a0) (s : List Int32) (o : Ob) (x1 : Int32) (x2 : Int32) (x3 : Int32) {r : Int32 × Ob} (h : F15 o x1 x2 x3 = some r) : QTri l Z n0 ad 15 (0, qentry [.ref 1, .int x1, .int x2, .int x3] (pMaxL 15), [], (H0 s o)) (some (Value.int r.1)) (H0 s r.2) := by
 unfold F15 at h
 refine zS Ad W 2 (st' := (2, [vR 1, vI x1, vI x2, vI x3], [.int x1, .ref 1], (H0 s o))) rfl ?_
 obtain ⟨r97, hr97, h⟩ := bind_eq_some_iff.mp h
 refine QTri.callP W (a := 1) (as := [.int x1]) (rest := []) (w := (some (.int r97))) (σ₁ := (H0 s o)) rfl rfl rfl rfl rfl rfl rfl rfl (tF5 Ad W s o x1 hr97) ?_
 rcases qite h with ⟨hc98, h⟩ | ⟨hc98, h⟩
 ·refine zF Ad W (t := 10) (f := 8) rfl (XT.i0_ne_f hc98) ?_
  refine zS Ad W 1 (st' := (9, [vR 1, vI x1, vI x2, vI x3], [.int (-1:Int32)], (H0 s o))) rfl ?_
  obtain rfl := Option.some.inj h
  exact QTri.retI rfl rfl
 ·refine zT Ad W (t := 10) (f := 8) rfl (XT.i0_ne_t hc98) ?_
  refine zS Ad W 2 (st' := (12, [vR 1, vI x1, vI x2, vI x3], [.int x2, .ref 1], (H0 s o))) rfl ?_
  obtain ⟨r99, hr99, h⟩ := bind_eq_some_iff.mp h
  refine QTri.callP W (a := 1) (as := [.int x2]) (rest := []) (w := (some (.int r99))) (σ₁ := (H0 s o)) rfl rfl rfl rfl rfl rfl rfl rfl (tF7 Ad W s o x2 hr99) ?_
  rcases qite h with ⟨hc100, h⟩ | ⟨hc100, h⟩
  ·refine zF Ad W (t := 21) (f := 18) rfl (XT.i0_ne_f hc100) ?_
   refine zS Ad W 1 (st' := (20, [vR 1, vI x1, vI x2, vI x3], [.int (-2:Int32)], (H0 s o))) rfl ?_
   obtain rfl := Option.some.inj h
   exact QTri.retI rfl rfl
  ·refine zT Ad W (t := 21) (f := 18) rfl (XT.i0_ne_t hc100) ?_
   refine zS Ad W 6 (st' := (31, [vR 1, vI x1, vI x2, vI x3], [.int x1, .ref 7, .int x1, .ref 7], (H0 s o))) rfl ?_
   obtain ⟨y101, hy101, h⟩ := bind_eq_some_iff.mp h
   refine zB Ad W (f := fun y101 => (32, [vR 1, vI x1, vI x2, vI x3], [.int y101, .int x1, .ref 7], (H0 s o))) rfl hy101 ?_
   refine zS Ad W 2 (st' := (34, [vR 1, vI x1, vI x2, vI x3], [.int x2, .ref 1, .int y101, .int x1, .ref 7], (H0 s o))) rfl ?_
   obtain ⟨r102, hr102, h⟩ := bind_eq_some_iff.mp h
   refine QTri.callP W (a := 1) (as := [.int x2]) (rest := [.int y101, .int x1, .ref 7]) (w := (some (.int r102))) (σ₁ := (H0 s o)) rfl rfl rfl rfl rfl rfl rfl rfl (tF16 Ad W x2 hr102) ?_
   refine zS Ad W 1 (st' := (38, [vR 1, vI x1, vI x2, vI x3], [.int (y101 ||| r102), .int x1, .ref 7], (H0 s o))) rfl ?_
   obtain ⟨y103, hy103, h⟩ := bind_eq_some_iff.mp h
   refine zB Ad W (f := fun y103 => (39, [vR 1, vI x1, vI x2, vI x3], [], (H0x8 s o y103))) rfl hy103 ?_
   refine zS Ad W 5 (st' := (46, [vR 1, vI x1, vI x2, vI x3], [.int x2, .int x1, .ref 1, .ref 8], (H0x8 s o y103))) rfl ?_
   obtain ⟨r104, hr104, h⟩ := bind_eq_some_iff.mp h
   refine QTri.callP W (a := 1) (as := [.int x1, .int x2]) (rest := [.ref 8]) (w := (some (.int r104))) (σ₁ := (H0x8 s o y103)) rfl rfl rfl rfl rfl rfl rfl rfl (tF17 Ad W x1 x2 hr104) ?_
   refine zS Ad W 1 (st' := (50, [vR 1, vI x1, vI x2, vI x3], [.int x3, .int r104, .ref 8], (H0x8 s o y103))) rfl ?_
   obtain ⟨y105, hy105, h⟩ := bind_eq_some_iff.mp h
   refine zB Ad W (f := fun y105 => (51, [vR 1, vI x1, vI x2, vI x3], [], (H0x9 s o y103 y105))) rfl hy105 ?_
   refine zS Ad W 1 (st' := (52, [vR 1, vI x1, vI x2, vI x3], [.int (0:Int32)], (H0x9 s o y103 y105))) rfl ?_
   have E106 : ((H0x9 s o y103 y105) : QHeap) = (H0 s (s_buffered (s_writeSet o y103) y105)) := by simp only [fs, H0, H0v, H0x9, s_writeSet, s_buffered]
   rw [E106]
   obtain rfl := Option.some.inj h
   exact QTri.retI rfl rfl
def J0_420 (s : List Int32) (p0 : Ob) (x2 : Int64) (x4 : Int64) (x6 : Int32) (x7 : Int32) (x8 : Int32) (x9 : Int32) (x10 : Int32) (x11 : Int32) (x12 : Int32) (x13 : Int64) (x15 : Int64) (x17 : Int64) (x19 : Int64) (x21 : Int32) (x22 : Int32) (x25 : Int32) (x28 : Int32) (x29 : Int32) (x30 : Int32) (x31 : Int64) (x33 : Int64) : Option (((Int32 × QHeap)) ⊕ (Int64 × Int64 × Int32 × Int32 × Int32 × Int32 × Int32 × Int32 × Int32 × Int64 × Int64 × Int64 × Int64 × Int32 × Ob)) :=
  (J0_577 s p0 x2 x4 x6 x7 x8 x9 x10 x11 x12 x13 x15 x17 x19 x21 x22 x25 x28 x29 x30 x31 x33)
theorem tJ0_420 (Ad : QAd n0 ad) (W : QW Z a0) (s : List Int32) (p0 : Ob) (x2 : Int64) (x4 : Int64) (x6 : Int32) (x7 : Int32) (x8 : Int32) (x9 : Int32) (x10 : Int32) (x11 : Int32) (x12 : Int32) (x13 : Int64) (x15 : Int64) (x17 : Int64) (x19 : Int64) (x21 : Int32) (x22 : Int32) (x25 : Int32) (x28 : Int32) (x29 : Int32) (x30 : Int32) (x31 : Int64) (x33 : Int64) {r : ((Int32 × QHeap)) ⊕ (Int64 × Int64 × Int32 × Int32 × Int32 × Int32 × Int32 × Int32 × Int32 × Int64 × Int64 × Int64 × Int64 × Int32 × Ob)} {u : Option Value} {τ : QHeap} (h : J0_420 s p0 x2 x4 x6 x7 x8 x9 x10 x11 x12 x13 x15 x17 x19 x21 x22 x25 x28 x29 x30 x31 x33 = some r) (hx0 : ∀ x : Int32 × QHeap, r = .inl x → u = (some (Value.int x.1)) ∧ τ = x.2) (hc : ∀ x : Int64 × Int64 × Int32 × Int32 × Int32 × Int32 × Int32 × Int32 × Int32 × Int64 × Int64 × Int64 × Int64 × Int32 × Ob, r = .inr x → QTri l Z n0 ad 0 (71, [vR 0, vR 1, vL x.1, none, vL x.2.1, none, vI x.2.2.1, vI x.2.2.2.1, vI x.2.2.2.2.1, vI x.2.2.2.2.2.1, vI x.2.2.2.2.2.2.1, vI x.2.2.2.2.2.2.2.1, vI x.2.2.2.2.2.2.2.2.1, vL x.2.2.2.2.2.2.2.2.2.1, none, vL x.2.2.2.2.2.2.2.2.2.2.1, none, vL x.2.2.2.2.2.2.2.2.2.2.2.1, none, vL x.2.2.2.2.2.2.2.2.2.2.2.2.1, none, vI x21, vI x.2.2.2.2.2.2.2.2.2.2.2.2.2.1, none, none, none, none, none, none, none, none, none, none, none, none, none, none], [], (H0 s x.2.2.2.2.2.2.2.2.2.2.2.2.2.2)) u τ) : QTri l Z n0 ad 0 (420, [vR 0, vR 1, vL x2, none, vL x4, none, vI x6, vI x7, vI x8, vI x9, vI x10, vI x11, vI x12, vL x13, none, vL x15, none, vL x17, none, vL x19, none, vI x21, vI x22, none, none, vI x25, none, none, vI x28, vI x29, vI x30, vL x31, none, vL x33, none, none, none], [], (H0 s p0)) u τ := by
 unfold J0_420 at h
 refine zS Ad W 1 (st' := (577, [vR 0, vR 1, vL x2, none, vL x4, none, vI x6, vI x7, vI x8, vI x9, vI x10, vI x11, vI x12, vL x13, none, vL x15, none, vL x17, none, vL x19, none, vI x21, vI x22, none, none, vI x25, none, none, vI x28, vI x29, vI x30, vL x31, none, vL x33, none, none, none], [], (H0 s p0))) rfl ?_
 exact zM [tt,tt,tt,ff,tt,ff,tt,tt,tt,tt,tt,tt,tt,tt,ff,tt,ff,tt,ff,tt,ff,tt,tt,ff,ff,tt,ff,ff,tt,tt,tt,tt,ff,tt,ff,ff,ff] (tJ0_577 Ad W s p0 x2 x4 x6 x7 x8 x9 x10 x11 x12 x13 x15 x17 x19 x21 x22 x25 x28 x29 x30 x31 x33 h hx0 hc)
def J0_383 (s : List Int32) (p0 : Ob) (x2 : Int64) (x4 : Int64) (x6 : Int32) (x7 : Int32) (x8 : Int32) (x9 : Int32) (x10 : Int32) (x11 : Int32) (x12 : Int32) (x13 : Int64) (x15 : Int64) (x17 : Int64) (x19 : Int64) (x21 : Int32) (x22 : Int32) (x25 : Int32) (x26 : Int32) (x27 : Int32) (x28 : Int32) (x29 : Int32) (x30 : Int32) (x31 : Int64) (x33 : Int64) : Option (((Int32 × QHeap)) ⊕ (Int64 × Int64 × Int32 × Int32 × Int32 × Int32 × Int32 × Int32 × Int32 × Int64 × Int64 × Int64 × Int64 × Int32 × Ob)) :=
  (F15 p0 x25 x26 x27).bind fun r107 => (if r107.1 = (0 : Int32) then (F18 x31 x26 x27).bind fun r109 => (J0_420 s r107.2 x2 x4 x6 x7 x8 x9 x10 x11 x12 x13 x15 x17 x19 x21 x22 x25 (x28 ||| ((1 : Int32) <<< (x26 &&& 31))) x29 x30 r109 x33) else (J0_420 s r107.2 x2 x4 x6 x7 x8 x9 x10 x11 x12 x13 x15 x17 x19 x21 x22 x25 x28 x29 x30 x31 x33))
theorem tJ0_383 (Ad : QAd n0 ad) (W : QW Z a0) (s : List Int32) (p0 : Ob) (x2 : Int64) (x4 : Int64) (x6 : Int32) (x7 : Int32) (x8 : Int32) (x9 : Int32) (x10 : Int32) (x11 : Int32) (x12 : Int32) (x13 : Int64) (x15 : Int64) (x17 : Int64) (x19 : Int64) (x21 : Int32) (x22 : Int32) (x25 : Int32) (x26 : Int32) (x27 : Int32) (x28 : Int32) (x29 : Int32) (x30 : Int32) (x31 : Int64) (x33 : Int64) {r : ((Int32 × QHeap)) ⊕ (Int64 × Int64 × Int32 × Int32 × Int32 × Int32 × Int32 × Int32 × Int32 × Int64 × Int64 × Int64 × Int64 × Int32 × Ob)} {u : Option Value} {τ : QHeap} (h : J0_383 s p0 x2 x4 x6 x7 x8 x9 x10 x11 x12 x13 x15 x17 x19 x21 x22 x25 x26 x27 x28 x29 x30 x31 x33 = some r) (hx0 : ∀ x : Int32 × QHeap, r = .inl x → u = (some (Value.int x.1)) ∧ τ = x.2) (hc : ∀ x : Int64 × Int64 × Int32 × Int32 × Int32 × Int32 × Int32 × Int32 × Int32 × Int64 × Int64 × Int64 × Int64 × Int32 × Ob, r = .inr x → QTri l Z n0 ad 0 (71, [vR 0, vR 1, vL x.1, none, vL x.2.1, none, vI x.2.2.1, vI x.2.2.2.1, vI x.2.2.2.2.1, vI x.2.2.2.2.2.1, vI x.2.2.2.2.2.2.1, vI x.2.2.2.2.2.2.2.1, vI x.2.2.2.2.2.2.2.2.1, vL x.2.2.2.2.2.2.2.2.2.1, none, vL x.2.2.2.2.2.2.2.2.2.2.1, none, vL x.2.2.2.2.2.2.2.2.2.2.2.1, none, vL x.2.2.2.2.2.2.2.2.2.2.2.2.1, none, vI x21, vI x.2.2.2.2.2.2.2.2.2.2.2.2.2.1, none, none, none, none, none, none, none, none, none, none, none, none, none, none], [], (H0 s x.2.2.2.2.2.2.2.2.2.2.2.2.2.2)) u τ) : QTri l Z n0 ad 0 (383, [vR 0, vR 1, vL x2, none, vL x4, none, vI x6, vI x7, vI x8, vI x9, vI x10, vI x11, vI x12, vL x13, none, vL x15, none, vL x17, none, vL x19, none, vI x21, vI x22, none, none, vI x25, vI x26, vI x27, vI x28, vI x29, vI x30, vL x31, none, vL x33, none, none, none], [], (H0 s p0)) u τ := by
 unfold J0_383 at h
 refine zS Ad W 4 (st' := (390, [vR 0, vR 1, vL x2, none, vL x4, none, vI x6, vI x7, vI x8, vI x9, vI x10, vI x11, vI x12, vL x13, none, vL x15, none, vL x17, none, vL x19, none, vI x21, vI x22, none, none, vI x25, vI x26, vI x27, vI x28, vI x29, vI x30, vL x31, none, vL x33, none, none, none], [.int x27, .int x26, .int x25, .ref 1], (H0 s p0))) rfl ?_
 obtain ⟨r107, hr107, h⟩ := bind_eq_some_iff.mp h
 refine QTri.callV W (a := 1) (as := [.int x25, .int x26, .int x27]) (rest := []) (w := (some (.int r107.1))) (σ₁ := (H0 s r107.2)) rfl rfl rfl rfl rfl rfl rfl rfl (tF15 Ad W s p0 x25 x26 x27 hr107) ?_
 refine zS Ad W 2 (st' := (397, [vR 0, vR 1, vL x2, none, vL x4, none, vI x6, vI x7, vI x8, vI x9, vI x10, vI x11, vI x12, vL x13, none, vL x15, none, vL x17, none, vL x19, none, vI x21, vI x22, none, none, vI x25, vI x26, vI x27, vI x28, vI x29, vI x30, vL x31, none, vL x33, none, vI r107.1, none], [.int r107.1], (H0 s r107.2))) rfl ?_
 rcases qite h with ⟨hc108, h⟩ | ⟨hc108, h⟩
 ·refine zF Ad W (t := 420) (f := 400) rfl (XT.i0_ne_f hc108) ?_
  refine zS Ad W 9 (st' := (415, [vR 0, vR 1, vL x2, none, vL x4, none, vI x6, vI x7, vI x8, vI x9, vI x10, vI x11, vI x12, vL x13, none, vL x15, none, vL x17, none, vL x19, none, vI x21, vI x22, none, none, vI x25, vI x26, vI x27, vI (x28 ||| ((1:Int32) <<< (x26 &&& 31))), vI x29, vI x30, vL x31, none, vL x33, none, vI r107.1, none], [.int x27, .int x26, .long x31], (H0 s r107.2))) rfl ?_
  obtain ⟨r109, hr109, h⟩ := bind_eq_some_iff.mp h
  refine QTri.callS W (as := [.long x31, .int x26, .int x27]) (rest := []) (w := (some (.long r109))) (σ₁ := (H0 s r107.2)) rfl rfl rfl rfl rfl rfl rfl (tF18 Ad W x31 x26 x27 hr109) ?_
  refine zS Ad W 1 (st' := (420, [vR 0, vR 1, vL x2, none, vL x4, none, vI x6, vI x7, vI x8, vI x9, vI x10, vI x11, vI x12, vL x13, none, vL x15, none, vL x17, none, vL x19, none, vI x21, vI x22, none, none, vI x25, vI x26, vI x27, vI (x28 ||| ((1:Int32) <<< (x26 &&& 31))), vI x29, vI x30, vL r109, none, vL x33, none, vI r107.1, none], [], (H0 s r107.2))) rfl ?_
  exact zM [tt,tt,tt,ff,tt,ff,tt,tt,tt,tt,tt,tt,tt,tt,ff,tt,ff,tt,ff,tt,ff,tt,tt,ff,ff,tt,ff,ff,tt,tt,tt,tt,ff,tt,ff,ff,ff] (tJ0_420 Ad W s r107.2 x2 x4 x6 x7 x8 x9 x10 x11 x12 x13 x15 x17 x19 x21 x22 x25 (x28 ||| ((1:Int32) <<< (x26 &&& 31))) x29 x30 r109 x33 h hx0 hc)
 ·refine zT Ad W (t := 420) (f := 400) rfl (XT.i0_ne_t hc108) ?_
  exact zM [tt,tt,tt,ff,tt,ff,tt,tt,tt,tt,tt,tt,tt,tt,ff,tt,ff,tt,ff,tt,ff,tt,tt,ff,ff,tt,ff,ff,tt,tt,tt,tt,ff,tt,ff,ff,ff] (tJ0_420 Ad W s r107.2 x2 x4 x6 x7 x8 x9 x10 x11 x12 x13 x15 x17 x19 x21 x22 x25 x28 x29 x30 x31 x33 h hx0 hc)
/-- isStale(I)Z -/
def F23 (o : Ob) (x1 : Int32) : Option (Int32) :=
 (aget (f_start o) x1).bind fun y114 => (if (f_window o) < ((f_commitCount o) - y114) then some (1:Int32) else some (0:Int32))
theorem tF23 (Ad : QAd n0 ad) (W : QW Z a0) (s : List Int32) (o : Ob) (x1 : Int32) {r : Int32} (h : F23 o x1 = some r) : QTri l Z n0 ad 23 (0, qentry [.ref 1, .int x1] (pMaxL 23), [], (H0 s o)) (some (Value.int r)) (H0 s o) := by
 unfold F23 at h
 refine zS Ad W 5 (st' := (9, [vR 1, vI x1], [.int x1, .ref 5, .int (f_commitCount o)], (H0 s o))) rfl ?_
 obtain ⟨y114, hy114, h⟩ := bind_eq_some_iff.mp h
 refine zB Ad W (f := fun y114 => (10, [vR 1, vI x1], [.int y114, .int (f_commitCount o)], (H0 s o))) rfl hy114 ?_
 refine zS Ad W 3 (st' := (15, [vR 1, vI x1], [.int (f_window o), .int ((f_commitCount o) - y114)], (H0 s o))) rfl ?_
 rcases qite h with ⟨hc115, h⟩ | ⟨hc115, h⟩
 ·refine zF Ad W (t := 22) (f := 18) rfl (XT.ii_le_f hc115) ?_
  refine zS Ad W 2 (st' := (23, [vR 1, vI x1], [.int (1:Int32)], (H0 s o))) rfl ?_
  obtain rfl := Option.some.inj h
  exact QTri.retZ rfl rfl
 ·refine zT Ad W (t := 22) (f := 18) rfl (XT.ii_le_t hc115) ?_
  refine zS Ad W 1 (st' := (23, [vR 1, vI x1], [.int (0:Int32)], (H0 s o))) rfl ?_
  obtain rfl := Option.some.inj h
  exact QTri.retZ rfl rfl
def J24_58 (o : Ob) (x2 : Int32) (x3 : Int32) (x4 : Int32) : Option (((Int32)) ⊕ (Int32)) :=
  some (.inr (x4 + (1 : Int32)))
theorem tJ24_58 (Ad : QAd n0 ad) (W : QW Z a0) (s : List Int32) (o : Ob) (x2 : Int32) (x3 : Int32) (x4 : Int32) {r : ((Int32)) ⊕ (Int32)} {u : Option Value} {τ : QHeap} (h : J24_58 o x2 x3 x4 = some r) (hx0 : ∀ x : Int32, r = .inl x → u = (some (Value.int x)) ∧ τ = (H0 s o)) (hc : ∀ x : Int32, r = .inr x → QTri l Z n0 ad 24 (17, [vR 1, none, vI x2, vI x3, vI x], [], (H0 s o)) u τ) : QTri l Z n0 ad 24 (58, [vR 1, none, vI x2, vI x3, vI x4], [], (H0 s o)) u τ := by
 unfold J24_58 at h
 refine zS Ad W 2 (st' := (17, [vR 1, none, vI x2, vI x3, vI (x4 + (1:Int32))], [], (H0 s o))) rfl ?_
 obtain rfl := Option.some.inj h
 exact zM [tt,ff,tt,tt,tt] (hc (x4 + (1:Int32)) rfl)
def B24_17 (o : Ob) (x2 : Int32) (x3 : Int32) (v : Int32) : Option (((Int32)) ⊕ (Int32)) :=
  (if v < (f_keyCount o) then (if v < (32 : Int32) then (F16 v).bind fun r122 => (if (x2 &&& r122) = (0 : Int32) then (J24_58 o x2 x3 v) else (aget (f_version o) v).bind fun y124 => (if x3 < y124 then some (.inl v) else (J24_58 o x2 x3 v))) else some (.inl (-1 : Int32))) else some (.inl (-1 : Int32)))
theorem tB24_17 (Ad : QAd n0 ad) (W : QW Z a0) (s : List Int32) (o : Ob) (x2 : Int32) (x3 : Int32) (v : Int32) {r : ((Int32)) ⊕ (Int32)} {u : Option Value} {τ : QHeap} (h : B24_17 o x2 x3 v = some r) (hx0 : ∀ x : Int32, r = .inl x → u = (some (Value.int x)) ∧ τ = (H0 s o)) (hc : ∀ x : Int32, r = .inr x → QTri l Z n0 ad 24 (17, [vR 1, none, vI x2, vI x3, vI x], [], (H0 s o)) u τ) : QTri l Z n0 ad 24 (17, [vR 1, none, vI x2, vI x3, vI v], [], (H0 s o)) u τ := by
 unfold B24_17 at h
 refine zS Ad W 3 (st' := (23, [vR 1, none, vI x2, vI x3, vI v], [.int (f_keyCount o), .int v], (H0 s o))) rfl ?_
 rcases qite h with ⟨hc120, h⟩ | ⟨hc120, h⟩
 ·refine zF Ad W (t := 64) (f := 26) rfl (XT.ii_ge_f hc120) ?_
  refine zS Ad W 2 (st' := (30, [vR 1, none, vI x2, vI x3, vI v], [.int (32:Int32), .int v], (H0 s o))) rfl ?_
  rcases qite h with ⟨hc121, h⟩ | ⟨hc121, h⟩
  ·refine zF Ad W (t := 64) (f := 33) rfl (XT.ii_ge_f hc121) ?_
   refine zS Ad W 3 (st' := (37, [vR 1, none, vI x2, vI x3, vI v], [.int v, .ref 1, .int x2], (H0 s o))) rfl ?_
   obtain ⟨r122, hr122, h⟩ := bind_eq_some_iff.mp h
   refine QTri.callP W (a := 1) (as := [.int v]) (rest := [.int x2]) (w := (some (.int r122))) (σ₁ := (H0 s o)) rfl rfl rfl rfl rfl rfl rfl rfl (tF16 Ad W v hr122) ?_
   refine zS Ad W 1 (st' := (41, [vR 1, none, vI x2, vI x3, vI v], [.int (x2 &&& r122)], (H0 s o))) rfl ?_
   rcases qite h with ⟨hc123, h⟩ | ⟨hc123, h⟩
   ·refine zT Ad W (t := 58) (f := 44) rfl (XT.i0_eq_t hc123) ?_
    exact zM [tt,ff,tt,tt,tt] (tJ24_58 Ad W s o x2 x3 v h hx0 hc)
   ·refine zF Ad W (t := 58) (f := 44) rfl (XT.i0_eq_f hc123) ?_
    refine zS Ad W 3 (st' := (50, [vR 1, none, vI x2, vI x3, vI v], [.int v, .ref 3], (H0 s o))) rfl ?_
    obtain ⟨y124, hy124, h⟩ := bind_eq_some_iff.mp h
    refine zB Ad W (f := fun y124 => (51, [vR 1, none, vI x2, vI x3, vI v], [.int y124], (H0 s o))) rfl hy124 ?_
    refine zS Ad W 1 (st' := (52, [vR 1, none, vI x2, vI x3, vI v], [.int x3, .int y124], (H0 s o))) rfl ?_
    rcases qite h with ⟨hc125, h⟩ | ⟨hc125, h⟩
    ·refine zF Ad W (t := 58) (f := 55) rfl (XT.ii_le_f hc125) ?_
     refine zS Ad W 1 (st' := (57, [vR 1, none, vI x2, vI x3, vI v], [.int v], (H0 s o))) rfl ?_
     obtain rfl := Option.some.inj h
     obtain ⟨rfl, rfl⟩ := hx0 v rfl
     exact QTri.retI rfl rfl
    ·refine zT Ad W (t := 58) (f := 55) rfl (XT.ii_le_t hc125) ?_
     exact zM [tt,ff,tt,tt,tt] (tJ24_58 Ad W s o x2 x3 v h hx0 hc)
  ·refine zT Ad W (t := 64) (f := 33) rfl (XT.ii_ge_t hc121) ?_
   refine zS Ad W 1 (st' := (65, [vR 1, none, vI x2, vI x3, vI v], [.int (-1:Int32)], (H0 s o))) rfl ?_
   obtain rfl := Option.some.inj h
   obtain ⟨rfl, rfl⟩ := hx0 (-1:Int32) rfl
   exact QTri.retI rfl rfl
 ·refine zT Ad W (t := 64) (f := 26) rfl (XT.ii_ge_t hc120) ?_
  refine zS Ad W 1 (st' := (65, [vR 1, none, vI x2, vI x3, vI v], [.int (-1:Int32)], (H0 s o))) rfl ?_
  obtain rfl := Option.some.inj h
  obtain ⟨rfl, rfl⟩ := hx0 (-1:Int32) rfl
  exact QTri.retI rfl rfl
/-- leastConflict(I)I -/
def F24 (o : Ob) (x1 : Int32) : Option (Int32) :=
 (aget (f_readSet o) x1).bind fun y118 => (aget (f_start o) x1).bind fun y119 => (loopN (B24_17 o y118 y119) qN (0:Int32)).bind fun e126 => some e126
theorem tF24 (Ad : QAd n0 ad) (W : QW Z a0) (s : List Int32) (o : Ob) (x1 : Int32) {r : Int32} (h : F24 o x1 = some r) : QTri l Z n0 ad 24 (0, qentry [.ref 1, .int x1] (pMaxL 24), [], (H0 s o)) (some (Value.int r)) (H0 s o) := by
 unfold F24 at h
 refine zS Ad W 3 (st' := (5, [vR 1, vI x1, none, none, none], [.int x1, .ref 6], (H0 s o))) rfl ?_
 obtain ⟨y118, hy118, h⟩ := bind_eq_some_iff.mp h
 refine zB Ad W (f := fun y118 => (6, [vR 1, vI x1, none, none, none], [.int y118], (H0 s o))) rfl hy118 ?_
 refine zS Ad W 4 (st' := (12, [vR 1, vI x1, vI y118, none, none], [.int x1, .ref 5], (H0 s o))) rfl ?_
 obtain ⟨y119, hy119, h⟩ := bind_eq_some_iff.mp h
 refine zB Ad W (f := fun y119 => (13, [vR 1, vI x1, vI y118, none, none], [.int y119], (H0 s o))) rfl hy119 ?_
 refine zS Ad W 3 (st' := (17, [vR 1, vI x1, vI y118, vI y119, vI (0:Int32)], [], (H0 s o))) rfl ?_
 obtain ⟨e126, he126, h⟩ := bind_eq_some_iff.mp h
 refine zM [tt,ff,tt,tt,tt] (loopN_tri (B := B24_17 o y118 y119) (T := fun lv127 => QTri l Z n0 ad 24 (17, [vR 1, none, vI y118, vI y119, vI lv127], [], (H0 s o)) (some (Value.int r)) (H0 s o)) (KE := fun e126a => (some (Value.int r)) = (some (Value.int e126a)) ∧ (H0 s o) = (H0 s o)) (fun lv127 r hB hE hC => tB24_17 Ad W s o y118 y119 lv127 hB (fun x q => hE _ q) (fun x q => hC x q)) qN (0:Int32) e126 he126 ?_)
 obtain rfl := Option.some.inj h
 exact ⟨rfl, rfl⟩
def H0x10 (s : List Int32) (o0 : Ob) (a0_10 : Int32) : QHeap := H0v s (f_value o0) (f_version o0) (f_active o0) (f_start o0) (f_readSet o0) (f_writeSet o0) (f_buffered o0) (f_keyCount o0) (f_slotCount o0) (f_window o0) a0_10 (f_abortCount o0) (f_lastConflict o0)
def J25_79 (o : Ob) (x1 : Int32) (x2 : Int32) (x3 : Int32) (x4 : Int32) : Option (((Ob)) ⊕ (Int32 × Ob)) :=
  some (.inr ((x4 + (1 : Int32)), o))
theorem tJ25_79 (Ad : QAd n0 ad) (W : QW Z a0) (s : List Int32) (o : Ob) (x1 : Int32) (x2 : Int32) (x3 : Int32) (x4 : Int32) {r : ((Ob)) ⊕ (Int32 × Ob)} {u : Option Value} {τ : QHeap} (h : J25_79 o x1 x2 x3 x4 = some r) (hx0 : ∀ x : Ob, r = .inl x → QTri l Z n0 ad 25 (85, [vR 1, vI x1, vI x2, none, none], [], (H0 s x)) u τ) (hc : ∀ x : Int32 × Ob, r = .inr x → QTri l Z n0 ad 25 (25, [vR 1, vI x1, vI x2, vI x3, vI x.1], [], (H0 s x.2)) u τ) : QTri l Z n0 ad 25 (79, [vR 1, vI x1, vI x2, vI x3, vI x4], [], (H0 s o)) u τ := by
 unfold J25_79 at h
 refine zS Ad W 2 (st' := (25, [vR 1, vI x1, vI x2, vI x3, vI (x4 + (1:Int32))], [], (H0 s o))) rfl ?_
 obtain rfl := Option.some.inj h
 exact zM [tt,tt,tt,tt,tt] (hc ((x4 + (1:Int32)), o) rfl)
def H0x11 (s : List Int32) (o0 : Ob) (a0_0 : List Int32) : QHeap := H0v s a0_0 (f_version o0) (f_active o0) (f_start o0) (f_readSet o0) (f_writeSet o0) (f_buffered o0) (f_keyCount o0) (f_slotCount o0) (f_window o0) (f_commitCount o0) (f_abortCount o0) (f_lastConflict o0)
def H0x12 (s : List Int32) (o0 : Ob) (a0_0 : List Int32) (a0_1 : List Int32) : QHeap := H0v s a0_0 a0_1 (f_active o0) (f_start o0) (f_readSet o0) (f_writeSet o0) (f_buffered o0) (f_keyCount o0) (f_slotCount o0) (f_window o0) (f_commitCount o0) (f_abortCount o0) (f_lastConflict o0)
def B25_25 (x1 : Int32) (x2 : Int32) (x3 : Int32) (v : Int32 × Ob) : Option (((Ob)) ⊕ (Int32 × Ob)) :=
  (if v.1 < (f_keyCount v.2) then (if v.1 < (32 : Int32) then (F16 v.1).bind fun r134 => (if (x3 &&& r134) = (0 : Int32) then (J25_79 v.2 x1 x2 x3 v.1) else (F17 x1 v.1).bind fun r136 => (aget (f_buffered v.2) r136).bind fun y137 => (aset (f_value v.2) v.1 y137).bind fun y138 => (aset (f_version v.2) v.1 x2).bind fun y139 => (J25_79 (s_version (s_value v.2 y138) y139) x1 x2 x3 v.1)) else some (.inl v.2)) else some (.inl v.2))
theorem tB25_25 (Ad : QAd n0 ad) (W : QW Z a0) (s : List Int32) (x1 : Int32) (x2 : Int32) (x3 : Int32) (v : Int32 × Ob) {r : ((Ob)) ⊕ (Int32 × Ob)} {u : Option Value} {τ : QHeap} (h : B25_25 x1 x2 x3 v = some r) (hx0 : ∀ x : Ob, r = .inl x → QTri l Z n0 ad 25 (85, [vR 1, vI x1, vI x2, none, none], [], (H0 s x)) u τ) (hc : ∀ x : Int32 × Ob, r = .inr x → QTri l Z n0 ad 25 (25, [vR 1, vI x1, vI x2, vI x3, vI x.1], [], (H0 s x.2)) u τ) : QTri l Z n0 ad 25 (25, [vR 1, vI x1, vI x2, vI x3, vI v.1], [], (H0 s v.2)) u τ := by
 unfold B25_25 at h
 refine zS Ad W 3 (st' := (31, [vR 1, vI x1, vI x2, vI x3, vI v.1], [.int (f_keyCount v.2), .int v.1], (H0 s v.2))) rfl ?_
 rcases qite h with ⟨hc132, h⟩ | ⟨hc132, h⟩
 ·refine zF Ad W (t := 85) (f := 34) rfl (XT.ii_ge_f hc132) ?_
  refine zS Ad W 2 (st' := (38, [vR 1, vI x1, vI x2, vI x3, vI v.1], [.int (32:Int32), .int v.1], (H0 s v.2))) rfl ?_
  rcases qite h with ⟨hc133, h⟩ | ⟨hc133, h⟩
  ·refine zF Ad W (t := 85) (f := 41) rfl (XT.ii_ge_f hc133) ?_
   refine zS Ad W 3 (st' := (45, [vR 1, vI x1, vI x2, vI x3, vI v.1], [.int v.1, .ref 1, .int x3], (H0 s v.2))) rfl ?_
   obtain ⟨r134, hr134, h⟩ := bind_eq_some_iff.mp h
   refine QTri.callP W (a := 1) (as := [.int v.1]) (rest := [.int x3]) (w := (some (.int r134))) (σ₁ := (H0 s v.2)) rfl rfl rfl rfl rfl rfl rfl rfl (tF16 Ad W v.1 hr134) ?_
   refine zS Ad W 1 (st' := (49, [vR 1, vI x1, vI x2, vI x3, vI v.1], [.int (x3 &&& r134)], (H0 s v.2))) rfl ?_
   rcases qite h with ⟨hc135, h⟩ | ⟨hc135, h⟩
   ·refine zT Ad W (t := 79) (f := 52) rfl (XT.i0_eq_t hc135) ?_
    exact zM [tt,tt,tt,tt,tt] (tJ25_79 Ad W s v.2 x1 x2 x3 v.1 h hx0 hc)
   ·refine zF Ad W (t := 79) (f := 52) rfl (XT.i0_eq_f hc135) ?_
    refine zS Ad W 8 (st' := (66, [vR 1, vI x1, vI x2, vI x3, vI v.1], [.int v.1, .int x1, .ref 1, .ref 8, .int v.1, .ref 2], (H0 s v.2))) rfl ?_
    obtain ⟨r136, hr136, h⟩ := bind_eq_some_iff.mp h
    refine QTri.callP W (a := 1) (as := [.int x1, .int v.1]) (rest := [.ref 8, .int v.1, .ref 2]) (w := (some (.int r136))) (σ₁ := (H0 s v.2)) rfl rfl rfl rfl rfl rfl rfl rfl (tF17 Ad W x1 v.1 hr136) ?_
    obtain ⟨y137, hy137, h⟩ := bind_eq_some_iff.mp h
    refine zB Ad W (f := fun y137 => (70, [vR 1, vI x1, vI x2, vI x3, vI v.1], [.int y137, .int v.1, .ref 2], (H0 s v.2))) rfl hy137 ?_
    obtain ⟨y138, hy138, h⟩ := bind_eq_some_iff.mp h
    refine zB Ad W (f := fun y138 => (71, [vR 1, vI x1, vI x2, vI x3, vI v.1], [], (H0x11 s v.2 y138))) rfl hy138 ?_
    refine zS Ad W 4 (st' := (78, [vR 1, vI x1, vI x2, vI x3, vI v.1], [.int x2, .int v.1, .ref 3], (H0x11 s v.2 y138))) rfl ?_
    obtain ⟨y139, hy139, h⟩ := bind_eq_some_iff.mp h
    refine zB Ad W (f := fun y139 => (79, [vR 1, vI x1, vI x2, vI x3, vI v.1], [], (H0x12 s v.2 y138 y139))) rfl hy139 ?_
    have E140 : ((H0x12 s v.2 y138 y139) : QHeap) = (H0 s (s_version (s_value v.2 y138) y139)) := by simp only [fs, H0, H0v, H0x12, s_value, s_version]
    rw [E140]
    exact zM [tt,tt,tt,tt,tt] (tJ25_79 Ad W s (s_version (s_value v.2 y138) y139) x1 x2 x3 v.1 h hx0 hc)
  ·refine zT Ad W (t := 85) (f := 41) rfl (XT.ii_ge_t hc133) ?_
   obtain rfl := Option.some.inj h
   exact zM [tt,tt,tt,ff,ff] (hx0 v.2 rfl)
 ·refine zT Ad W (t := 85) (f := 34) rfl (XT.ii_ge_t hc132) ?_
  obtain rfl := Option.some.inj h
  exact zM [tt,tt,tt,ff,ff] (hx0 v.2 rfl)
def H0x13 (s : List Int32) (o0 : Ob) (a0_2 : List Int32) : QHeap := H0v s (f_value o0) (f_version o0) a0_2 (f_start o0) (f_readSet o0) (f_writeSet o0) (f_buffered o0) (f_keyCount o0) (f_slotCount o0) (f_window o0) (f_commitCount o0) (f_abortCount o0) (f_lastConflict o0)
def H0x14 (s : List Int32) (o0 : Ob) (a0_2 : List Int32) (a0_3 : List Int32) : QHeap := H0v s (f_value o0) (f_version o0) a0_2 a0_3 (f_readSet o0) (f_writeSet o0) (f_buffered o0) (f_keyCount o0) (f_slotCount o0) (f_window o0) (f_commitCount o0) (f_abortCount o0) (f_lastConflict o0)
def H0x15 (s : List Int32) (o0 : Ob) (a0_2 : List Int32) (a0_3 : List Int32) (a0_4 : List Int32) : QHeap := H0v s (f_value o0) (f_version o0) a0_2 a0_3 a0_4 (f_writeSet o0) (f_buffered o0) (f_keyCount o0) (f_slotCount o0) (f_window o0) (f_commitCount o0) (f_abortCount o0) (f_lastConflict o0)
def H0x16 (s : List Int32) (o0 : Ob) (a0_2 : List Int32) (a0_3 : List Int32) (a0_4 : List Int32) (a0_5 : List Int32) : QHeap := H0v s (f_value o0) (f_version o0) a0_2 a0_3 a0_4 a0_5 (f_buffered o0) (f_keyCount o0) (f_slotCount o0) (f_window o0) (f_commitCount o0) (f_abortCount o0) (f_lastConflict o0)
def H0x17 (s : List Int32) (o0 : Ob) (a0_6 : List Int32) : QHeap := H0v s (f_value o0) (f_version o0) (f_active o0) (f_start o0) (f_readSet o0) (f_writeSet o0) a0_6 (f_keyCount o0) (f_slotCount o0) (f_window o0) (f_commitCount o0) (f_abortCount o0) (f_lastConflict o0)
def B14_35 (x2 : Int32) (v : Int32 × Ob) : Option (((Ob)) ⊕ (Int32 × Ob)) :=
  (if v.1 < (32 : Int32) then (aset (f_buffered v.2) (x2 + v.1) (0 : Int32)).bind fun y149 => some (.inr ((v.1 + (1 : Int32)), (s_buffered v.2 y149))) else some (.inl v.2))
theorem tB14_35 (Ad : QAd n0 ad) (W : QW Z a0) (s : List Int32) (x2 : Int32) (v : Int32 × Ob) {r : ((Ob)) ⊕ (Int32 × Ob)} {u : Option Value} {τ : QHeap} (h : B14_35 x2 v = some r) (hx0 : ∀ x : Ob, r = .inl x → u = (none : Option Value) ∧ τ = (H0 s x)) (hc : ∀ x : Int32 × Ob, r = .inr x → QTri l Z n0 ad 14 (35, [vR 1, none, vI x2, vI x.1], [], (H0 s x.2)) u τ) : QTri l Z n0 ad 14 (35, [vR 1, none, vI x2, vI v.1], [], (H0 s v.2)) u τ := by
 unfold B14_35 at h
 refine zS Ad W 2 (st' := (38, [vR 1, none, vI x2, vI v.1], [.int (32:Int32), .int v.1], (H0 s v.2))) rfl ?_
 rcases qite h with ⟨hc148, h⟩ | ⟨hc148, h⟩
 ·refine zF Ad W (t := 56) (f := 41) rfl (XT.ii_ge_f hc148) ?_
  refine zS Ad W 6 (st' := (49, [vR 1, none, vI x2, vI v.1], [.int (0:Int32), .int (x2 + v.1), .ref 8], (H0 s v.2))) rfl ?_
  obtain ⟨y149, hy149, h⟩ := bind_eq_some_iff.mp h
  refine zB Ad W (f := fun y149 => (50, [vR 1, none, vI x2, vI v.1], [], (H0x17 s v.2 y149))) rfl hy149 ?_
  refine zS Ad W 2 (st' := (35, [vR 1, none, vI x2, vI (v.1 + (1:Int32))], [], (H0x17 s v.2 y149))) rfl ?_
  have E150 : ((H0x17 s v.2 y149) : QHeap) = (H0 s (s_buffered v.2 y149)) := by simp only [fs, H0, H0v, H0x17, s_buffered]
  rw [E150]
  obtain rfl := Option.some.inj h
  exact zM [tt,ff,tt,tt] (hc ((v.1 + (1:Int32)), (s_buffered v.2 y149)) rfl)
 ·refine zT Ad W (t := 56) (f := 41) rfl (XT.ii_ge_t hc148) ?_
  obtain rfl := Option.some.inj h
  obtain ⟨rfl, rfl⟩ := hx0 v.2 rfl
  exact QTri.ret0 rfl rfl
/-- clearSlot(I)V -/
def F14 (o : Ob) (x1 : Int32) : Option (Ob) :=
 (aset (f_active o) x1 (0:Int32)).bind fun y143 => (aset (f_start o) x1 (0:Int32)).bind fun y144 => (aset (f_readSet o) x1 (0:Int32)).bind fun y145 => (aset (f_writeSet o) x1 (0:Int32)).bind fun y146 => (loopN (B14_35 (x1 * (32:Int32))) qN ((0:Int32), (s_writeSet (s_readSet (s_start (s_active o y143) y144) y145) y146))).bind fun e151 => some e151
theorem tF14 (Ad : QAd n0 ad) (W : QW Z a0) (s : List Int32) (o : Ob) (x1 : Int32) {r : Ob} (h : F14 o x1 = some r) : QTri l Z n0 ad 14 (0, qentry [.ref 1, .int x1] (pMaxL 14), [], (H0 s o)) (none : Option Value) (H0 s r) := by
 unfold F14 at h
 refine zS Ad W 4 (st' := (6, [vR 1, vI x1, none, none], [.int (0:Int32), .int x1, .ref 4], (H0 s o))) rfl ?_
 obtain ⟨y143, hy143, h⟩ := bind_eq_some_iff.mp h
 refine zB Ad W (f := fun y143 => (7, [vR 1, vI x1, none, none], [], (H0x13 s o y143))) rfl hy143 ?_
 refine zS Ad W 4 (st' := (13, [vR 1, vI x1, none, none], [.int (0:Int32), .int x1, .ref 5], (H0x13 s o y143))) rfl ?_
 obtain ⟨y144, hy144, h⟩ := bind_eq_some_iff.mp h
 refine zB Ad W (f := fun y144 => (14, [vR 1, vI x1, none, none], [], (H0x14 s o y143 y144))) rfl hy144 ?_
 refine zS Ad W 4 (st' := (20, [vR 1, vI x1, none, none], [.int (0:Int32), .int x1, .ref 6], (H0x14 s o y143 y144))) rfl ?_
 obtain ⟨y145, hy145, h⟩ := bind_eq_some_iff.mp h
 refine zB Ad W (f := fun y145 => (21, [vR 1, vI x1, none, none], [], (H0x15 s o y143 y144 y145))) rfl hy145 ?_
 refine zS Ad W 4 (st' := (27, [vR 1, vI x1, none, none], [.int (0:Int32), .int x1, .ref 7], (H0x15 s o y143 y144 y145))) rfl ?_
 obtain ⟨y146, hy146, h⟩ := bind_eq_some_iff.mp h
 refine zB Ad W (f := fun y146 => (28, [vR 1, vI x1, none, none], [], (H0x16 s o y143 y144 y145 y146))) rfl hy146 ?_
 refine zS Ad W 6 (st' := (35, [vR 1, vI x1, vI (x1 * (32:Int32)), vI (0:Int32)], [], (H0x16 s o y143 y144 y145 y146))) rfl ?_
 have E147 : ((H0x16 s o y143 y144 y145 y146) : QHeap) = (H0 s (s_writeSet (s_readSet (s_start (s_active o y143) y144) y145) y146)) := by simp only [fs, H0, H0v, H0x16, s_active, s_start, s_readSet, s_writeSet]
 rw [E147]
 obtain ⟨e151, he151, h⟩ := bind_eq_some_iff.mp h
 refine zM [tt,ff,tt,tt] (loopN_tri (B := B14_35 (x1 * (32:Int32))) (T := fun lv152 => QTri l Z n0 ad 14 (35, [vR 1, none, vI (x1 * (32:Int32)), vI lv152.1], [], (H0 s lv152.2)) (none : Option Value) (H0 s r)) (KE := fun e151a => (none : Option Value) = (none : Option Value) ∧ (H0 s r) = (H0 s e151a)) (fun lv152 r hB hE hC => tB14_35 Ad W s (x1 * (32:Int32)) lv152 hB (fun x q => hE _ q) (fun x q => hC x q)) qN ((0:Int32), (s_writeSet (s_readSet (s_start (s_active o y143) y144) y145) y146)) e151 he151 ?_)
 obtain rfl := Option.some.inj h
 exact ⟨rfl, rfl⟩
/-- endTx(I)V -/
def F21 (o : Ob) (x1 : Int32) : Option (Ob) :=
 (F14 o x1).bind fun r153 => some r153
theorem tF21 (Ad : QAd n0 ad) (W : QW Z a0) (s : List Int32) (o : Ob) (x1 : Int32) {r : Ob} (h : F21 o x1 = some r) : QTri l Z n0 ad 21 (0, qentry [.ref 1, .int x1] (pMaxL 21), [], (H0 s o)) (none : Option Value) (H0 s r) := by
 unfold F21 at h
 refine zS Ad W 2 (st' := (2, [vR 1, vI x1], [.int x1, .ref 1], (H0 s o))) rfl ?_
 obtain ⟨r153, hr153, h⟩ := bind_eq_some_iff.mp h
 refine QTri.callP W (a := 1) (as := [.int x1]) (rest := []) (w := none) (σ₁ := (H0 s r153)) rfl rfl rfl rfl rfl rfl rfl rfl (tF14 Ad W s o x1 hr153) ?_
 obtain rfl := Option.some.inj h
 exact QTri.ret0 rfl rfl
def H0x18 (s : List Int32) (o0 : Ob) (a0_12 : Int32) : QHeap := H0v s (f_value o0) (f_version o0) (f_active o0) (f_start o0) (f_readSet o0) (f_writeSet o0) (f_buffered o0) (f_keyCount o0) (f_slotCount o0) (f_window o0) (f_commitCount o0) (f_abortCount o0) a0_12
def J25_85 (o : Ob) (x1 : Int32) (x2 : Int32) : Option (Int32 × Ob) :=
  (F21 o x1).bind fun r154 => some (x2, (s_lastConflict r154 (-1 : Int32)))
theorem tJ25_85 (Ad : QAd n0 ad) (W : QW Z a0) (s : List Int32) (o : Ob) (x1 : Int32) (x2 : Int32) {r : Int32 × Ob} (h : J25_85 o x1 x2 = some r) : QTri l Z n0 ad 25 (85, [vR 1, vI x1, vI x2, none, none], [], (H0 s o)) (some (Value.int r.1)) (H0 s r.2) := by
 unfold J25_85 at h
 refine zS Ad W 2 (st' := (87, [vR 1, vI x1, vI x2, none, none], [.int x1, .ref 1], (H0 s o))) rfl ?_
 obtain ⟨r154, hr154, h⟩ := bind_eq_some_iff.mp h
 refine QTri.callP W (a := 1) (as := [.int x1]) (rest := []) (w := none) (σ₁ := (H0 s r154)) rfl rfl rfl rfl rfl rfl rfl rfl (tF21 Ad W s o x1 hr154) ?_
 refine zS Ad W 3 (st' := (95, [vR 1, vI x1, vI x2, none, none], [], (H0x18 s r154 (-1:Int32)))) rfl ?_
 refine zS Ad W 1 (st' := (96, [vR 1, vI x1, vI x2, none, none], [.int x2], (H0x18 s r154 (-1:Int32)))) rfl ?_
 have E155 : ((H0x18 s r154 (-1:Int32)) : QHeap) = (H0 s (s_lastConflict r154 (-1:Int32))) := by simp only [fs, H0, H0v, H0x18, s_lastConflict]
 rw [E155]
 obtain rfl := Option.some.inj h
 exact QTri.retI rfl rfl
/-- install(I)I -/
def F25 (o : Ob) (x1 : Int32) : Option (Int32 × Ob) :=
 (aget (f_writeSet o) x1).bind fun y130 => (loopN (B25_25 x1 ((f_commitCount o) + (1:Int32)) y130) qN ((0:Int32), (s_commitCount o ((f_commitCount o) + (1:Int32))))).bind fun e141 => (J25_85 e141 x1 ((f_commitCount o) + (1:Int32)))
theorem tF25 (Ad : QAd n0 ad) (W : QW Z a0) (s : List Int32) (o : Ob) (x1 : Int32) {r : Int32 × Ob} (h : F25 o x1 = some r) : QTri l Z n0 ad 25 (0, qentry [.ref 1, .int x1] (pMaxL 25), [], (H0 s o)) (some (Value.int r.1)) (H0 s r.2) := by
 unfold F25 at h
 refine zS Ad W 6 (st' := (10, [vR 1, vI x1, none, none, none], [], (H0x10 s o ((f_commitCount o) + (1:Int32))))) rfl ?_
 refine zS Ad W 6 (st' := (20, [vR 1, vI x1, vI ((f_commitCount o) + (1:Int32)), none, none], [.int x1, .ref 7], (H0x10 s o ((f_commitCount o) + (1:Int32))))) rfl ?_
 obtain ⟨y130, hy130, h⟩ := bind_eq_some_iff.mp h
 refine zB Ad W (f := fun y130 => (21, [vR 1, vI x1, vI ((f_commitCount o) + (1:Int32)), none, none], [.int y130], (H0x10 s o ((f_commitCount o) + (1:Int32))))) rfl hy130 ?_
 refine zS Ad W 3 (st' := (25, [vR 1, vI x1, vI ((f_commitCount o) + (1:Int32)), vI y130, vI (0:Int32)], [], (H0x10 s o ((f_commitCount o) + (1:Int32))))) rfl ?_
 have E131 : ((H0x10 s o ((f_commitCount o) + (1:Int32))) : QHeap) = (H0 s (s_commitCount o ((f_commitCount o) + (1:Int32)))) := by simp only [fs, H0, H0v, H0x10, s_commitCount]
 rw [E131]
 obtain ⟨e141, he141, h⟩ := bind_eq_some_iff.mp h
 refine zM [tt,tt,tt,tt,tt] (loopN_tri (B := B25_25 x1 ((f_commitCount o) + (1:Int32)) y130) (T := fun lv142 => QTri l Z n0 ad 25 (25, [vR 1, vI x1, vI ((f_commitCount o) + (1:Int32)), vI y130, vI lv142.1], [], (H0 s lv142.2)) (some (Value.int r.1)) (H0 s r.2)) (KE := fun e141a => QTri l Z n0 ad 25 (85, [vR 1, vI x1, vI ((f_commitCount o) + (1:Int32)), none, none], [], (H0 s e141a)) (some (Value.int r.1)) (H0 s r.2)) (fun lv142 r hB hE hC => tB25_25 Ad W s x1 ((f_commitCount o) + (1:Int32)) y130 lv142 hB (fun x q => hE _ q) (fun x q => hC x q)) qN ((0:Int32), (s_commitCount o ((f_commitCount o) + (1:Int32)))) e141 he141 ?_)
 exact zM [tt,tt,tt,ff,ff] (tJ25_85 Ad W s e141 x1 ((f_commitCount o) + (1:Int32)) h)
def H0x19 (s : List Int32) (o0 : Ob) (a0_11 : Int32) : QHeap := H0v s (f_value o0) (f_version o0) (f_active o0) (f_start o0) (f_readSet o0) (f_writeSet o0) (f_buffered o0) (f_keyCount o0) (f_slotCount o0) (f_window o0) (f_commitCount o0) a0_11 (f_lastConflict o0)
def H0x20 (s : List Int32) (o0 : Ob) (a0_11 : Int32) (a0_12 : Int32) : QHeap := H0v s (f_value o0) (f_version o0) (f_active o0) (f_start o0) (f_readSet o0) (f_writeSet o0) (f_buffered o0) (f_keyCount o0) (f_slotCount o0) (f_window o0) (f_commitCount o0) a0_11 a0_12
/-- failCommit(III)I -/
def F27 (o : Ob) (x1 : Int32) (x2 : Int32) (x3 : Int32) : Option (Int32 × Ob) :=
 (F21 o x1).bind fun r157 => some (x3, (s_lastConflict (s_abortCount r157 ((f_abortCount r157) + (1:Int32))) x2))
theorem tF27 (Ad : QAd n0 ad) (W : QW Z a0) (s : List Int32) (o : Ob) (x1 : Int32) (x2 : Int32) (x3 : Int32) {r : Int32 × Ob} (h : F27 o x1 x2 x3 = some r) : QTri l Z n0 ad 27 (0, qentry [.ref 1, .int x1, .int x2, .int x3] (pMaxL 27), [], (H0 s o)) (some (Value.int r.1)) (H0 s r.2) := by
 unfold F27 at h
 refine zS Ad W 2 (st' := (2, [vR 1, vI x1, vI x2, vI x3], [.int x1, .ref 1], (H0 s o))) rfl ?_
 obtain ⟨r157, hr157, h⟩ := bind_eq_some_iff.mp h
 refine QTri.callP W (a := 1) (as := [.int x1]) (rest := []) (w := none) (σ₁ := (H0 s r157)) rfl rfl rfl rfl rfl rfl rfl rfl (tF21 Ad W s o x1 hr157) ?_
 refine zS Ad W 6 (st' := (15, [vR 1, vI x1, vI x2, vI x3], [], (H0x19 s r157 ((f_abortCount r157) + (1:Int32))))) rfl ?_
 refine zS Ad W 3 (st' := (20, [vR 1, vI x1, vI x2, vI x3], [], (H0x20 s r157 ((f_abortCount r157) + (1:Int32)) x2))) rfl ?_
 refine zS Ad W 1 (st' := (21, [vR 1, vI x1, vI x2, vI x3], [.int x3], (H0x20 s r157 ((f_abortCount r157) + (1:Int32)) x2))) rfl ?_
 have E158 : ((H0x20 s r157 ((f_abortCount r157) + (1:Int32)) x2) : QHeap) = (H0 s (s_lastConflict (s_abortCount r157 ((f_abortCount r157) + (1:Int32))) x2)) := by simp only [fs, H0, H0v, H0x20, s_abortCount, s_lastConflict]
 rw [E158]
 obtain rfl := Option.some.inj h
 exact QTri.retI rfl rfl
/-- commit(I)I -/
def F22 (o : Ob) (x1 : Int32) : Option (Int32 × Ob) :=
 (F5 o x1).bind fun r112 => (if r112 = (0:Int32) then some ((-1:Int32), o) else (F23 o x1).bind fun r116 => (if r116 = (0:Int32) then (F24 o x1).bind fun r128 => (if r128 < (0:Int32) then (F25 o x1).bind fun r156 => some (r156.1, r156.2) else (F27 o x1 r128 (-3:Int32)).bind fun r159 => some (r159.1, r159.2)) else (F27 o x1 (-1:Int32) (-4:Int32)).bind fun r160 => some (r160.1, r160.2)))
theorem tF22 (Ad : QAd n0 ad) (W : QW Z a0) (s : List Int32) (o : Ob) (x1 : Int32) {r : Int32 × Ob} (h : F22 o x1 = some r) : QTri l Z n0 ad 22 (0, qentry [.ref 1, .int x1] (pMaxL 22), [], (H0 s o)) (some (Value.int r.1)) (H0 s r.2) := by
 unfold F22 at h
 refine zS Ad W 2 (st' := (2, [vR 1, vI x1, none], [.int x1, .ref 1], (H0 s o))) rfl ?_
 obtain ⟨r112, hr112, h⟩ := bind_eq_some_iff.mp h
 refine QTri.callP W (a := 1) (as := [.int x1]) (rest := []) (w := (some (.int r112))) (σ₁ := (H0 s o)) rfl rfl rfl rfl rfl rfl rfl rfl (tF5 Ad W s o x1 hr112) ?_
 rcases qite h with ⟨hc113, h⟩ | ⟨hc113, h⟩
 ·refine zF Ad W (t := 10) (f := 8) rfl (XT.i0_ne_f hc113) ?_
  refine zS Ad W 1 (st' := (9, [vR 1, vI x1, none], [.int (-1:Int32)], (H0 s o))) rfl ?_
  obtain rfl := Option.some.inj h
  exact QTri.retI rfl rfl
 ·refine zT Ad W (t := 10) (f := 8) rfl (XT.i0_ne_t hc113) ?_
  refine zS Ad W 2 (st' := (12, [vR 1, vI x1, none], [.int x1, .ref 1], (H0 s o))) rfl ?_
  obtain ⟨r116, hr116, h⟩ := bind_eq_some_iff.mp h
  refine QTri.callP W (a := 1) (as := [.int x1]) (rest := []) (w := (some (.int r116))) (σ₁ := (H0 s o)) rfl rfl rfl rfl rfl rfl rfl rfl (tF23 Ad W s o x1 hr116) ?_
  rcases qite h with ⟨hc117, h⟩ | ⟨hc117, h⟩
  ·refine zT Ad W (t := 27) (f := 18) rfl (XT.i0_eq_t hc117) ?_
   refine zS Ad W 2 (st' := (29, [vR 1, vI x1, none], [.int x1, .ref 1], (H0 s o))) rfl ?_
   obtain ⟨r128, hr128, h⟩ := bind_eq_some_iff.mp h
   refine QTri.callP W (a := 1) (as := [.int x1]) (rest := []) (w := (some (.int r128))) (σ₁ := (H0 s o)) rfl rfl rfl rfl rfl rfl rfl rfl (tF24 Ad W s o x1 hr128) ?_
   refine zS Ad W 2 (st' := (34, [vR 1, vI x1, vI r128], [.int r128], (H0 s o))) rfl ?_
   rcases qite h with ⟨hc129, h⟩ | ⟨hc129, h⟩
   ·refine zT Ad W (t := 46) (f := 37) rfl (XT.i0_lt_t hc129) ?_
    refine zS Ad W 2 (st' := (48, [vR 1, vI x1, vI r128], [.int x1, .ref 1], (H0 s o))) rfl ?_
    obtain ⟨r156, hr156, h⟩ := bind_eq_some_iff.mp h
    refine QTri.callP W (a := 1) (as := [.int x1]) (rest := []) (w := (some (.int r156.1))) (σ₁ := (H0 s r156.2)) rfl rfl rfl rfl rfl rfl rfl rfl (tF25 Ad W s o x1 hr156) ?_
    obtain rfl := Option.some.inj h
    exact QTri.retI rfl rfl
   ·refine zF Ad W (t := 46) (f := 37) rfl (XT.i0_lt_f hc129) ?_
    refine zS Ad W 4 (st' := (42, [vR 1, vI x1, vI r128], [.int (-3:Int32), .int r128, .int x1, .ref 1], (H0 s o))) rfl ?_
    obtain ⟨r159, hr159, h⟩ := bind_eq_some_iff.mp h
    refine QTri.callP W (a := 1) (as := [.int x1, .int r128, .int (-3:Int32)]) (rest := []) (w := (some (.int r159.1))) (σ₁ := (H0 s r159.2)) rfl rfl rfl rfl rfl rfl rfl rfl (tF27 Ad W s o x1 r128 (-3:Int32) hr159) ?_
    obtain rfl := Option.some.inj h
    exact QTri.retI rfl rfl
  ·refine zF Ad W (t := 27) (f := 18) rfl (XT.i0_eq_f hc117) ?_
   refine zS Ad W 4 (st' := (23, [vR 1, vI x1, none], [.int (-4:Int32), .int (-1:Int32), .int x1, .ref 1], (H0 s o))) rfl ?_
   obtain ⟨r160, hr160, h⟩ := bind_eq_some_iff.mp h
   refine QTri.callP W (a := 1) (as := [.int x1, .int (-1:Int32), .int (-4:Int32)]) (rest := []) (w := (some (.int r160.1))) (σ₁ := (H0 s r160.2)) rfl rfl rfl rfl rfl rfl rfl rfl (tF27 Ad W s o x1 (-1:Int32) (-4:Int32) hr160) ?_
   obtain rfl := Option.some.inj h
   exact QTri.retI rfl rfl
def J0_567 (s : List Int32) (p0 : Ob) (x2 : Int64) (x4 : Int64) (x6 : Int32) (x7 : Int32) (x8 : Int32) (x9 : Int32) (x10 : Int32) (x11 : Int32) (x12 : Int32) (x13 : Int64) (x15 : Int64) (x17 : Int64) (x19 : Int64) (x21 : Int32) (x22 : Int32) (x25 : Int32) (x28 : Int32) (x29 : Int32) (x30 : Int32) (x31 : Int64) (x33 : Int64) : Option (((Int32 × QHeap)) ⊕ (Int64 × Int64 × Int32 × Int32 × Int32 × Int32 × Int32 × Int32 × Int32 × Int64 × Int64 × Int64 × Int64 × Int32 × Ob)) :=
  (J0_577 s p0 x2 x4 x6 x7 x8 x9 x10 x11 x12 x13 x15 x17 x19 x21 x22 x25 x28 x29 x30 x31 x33)
theorem tJ0_567 (Ad : QAd n0 ad) (W : QW Z a0) (s : List Int32) (p0 : Ob) (x2 : Int64) (x4 : Int64) (x6 : Int32) (x7 : Int32) (x8 : Int32) (x9 : Int32) (x10 : Int32) (x11 : Int32) (x12 : Int32) (x13 : Int64) (x15 : Int64) (x17 : Int64) (x19 : Int64) (x21 : Int32) (x22 : Int32) (x25 : Int32) (x28 : Int32) (x29 : Int32) (x30 : Int32) (x31 : Int64) (x33 : Int64) {r : ((Int32 × QHeap)) ⊕ (Int64 × Int64 × Int32 × Int32 × Int32 × Int32 × Int32 × Int32 × Int32 × Int64 × Int64 × Int64 × Int64 × Int32 × Ob)} {u : Option Value} {τ : QHeap} (h : J0_567 s p0 x2 x4 x6 x7 x8 x9 x10 x11 x12 x13 x15 x17 x19 x21 x22 x25 x28 x29 x30 x31 x33 = some r) (hx0 : ∀ x : Int32 × QHeap, r = .inl x → u = (some (Value.int x.1)) ∧ τ = x.2) (hc : ∀ x : Int64 × Int64 × Int32 × Int32 × Int32 × Int32 × Int32 × Int32 × Int32 × Int64 × Int64 × Int64 × Int64 × Int32 × Ob, r = .inr x → QTri l Z n0 ad 0 (71, [vR 0, vR 1, vL x.1, none, vL x.2.1, none, vI x.2.2.1, vI x.2.2.2.1, vI x.2.2.2.2.1, vI x.2.2.2.2.2.1, vI x.2.2.2.2.2.2.1, vI x.2.2.2.2.2.2.2.1, vI x.2.2.2.2.2.2.2.2.1, vL x.2.2.2.2.2.2.2.2.2.1, none, vL x.2.2.2.2.2.2.2.2.2.2.1, none, vL x.2.2.2.2.2.2.2.2.2.2.2.1, none, vL x.2.2.2.2.2.2.2.2.2.2.2.2.1, none, vI x21, vI x.2.2.2.2.2.2.2.2.2.2.2.2.2.1, none, none, none, none, none, none, none, none, none, none, none, none, none, none], [], (H0 s x.2.2.2.2.2.2.2.2.2.2.2.2.2.2)) u τ) : QTri l Z n0 ad 0 (567, [vR 0, vR 1, vL x2, none, vL x4, none, vI x6, vI x7, vI x8, vI x9, vI x10, vI x11, vI x12, vL x13, none, vL x15, none, vL x17, none, vL x19, none, vI x21, vI x22, none, none, vI x25, none, none, vI x28, vI x29, vI x30, vL x31, none, vL x33, none, none, none], [], (H0 s p0)) u τ := by
 unfold J0_567 at h
 refine zS Ad W 1 (st' := (577, [vR 0, vR 1, vL x2, none, vL x4, none, vI x6, vI x7, vI x8, vI x9, vI x10, vI x11, vI x12, vL x13, none, vL x15, none, vL x17, none, vL x19, none, vI x21, vI x22, none, none, vI x25, none, none, vI x28, vI x29, vI x30, vL x31, none, vL x33, none, none, none], [], (H0 s p0))) rfl ?_
 exact zM [tt,tt,tt,ff,tt,ff,tt,tt,tt,tt,tt,tt,tt,tt,ff,tt,ff,tt,ff,tt,ff,tt,tt,ff,ff,tt,ff,ff,tt,tt,tt,tt,ff,tt,ff,ff,ff] (tJ0_577 Ad W s p0 x2 x4 x6 x7 x8 x9 x10 x11 x12 x13 x15 x17 x19 x21 x22 x25 x28 x29 x30 x31 x33 h hx0 hc)
def J0_506 (s : List Int32) (p0 : Ob) (x2 : Int64) (x4 : Int64) (x7 : Int32) (x8 : Int32) (x9 : Int32) (x10 : Int32) (x11 : Int32) (x12 : Int32) (x13 : Int64) (x15 : Int64) (x17 : Int64) (x19 : Int64) (x21 : Int32) (x22 : Int32) (x25 : Int32) (x28 : Int32) (x29 : Int32) (x30 : Int32) (x31 : Int64) (x33 : Int64) (x35 : Int32) (x36 : Int32) : Option (((Unit) ⊕ (Int32 × QHeap)) ⊕ (Int32)) :=
  some (.inr (x36 + (1 : Int32)))
theorem tJ0_506 (Ad : QAd n0 ad) (W : QW Z a0) (s : List Int32) (p0 : Ob) (x2 : Int64) (x4 : Int64) (x7 : Int32) (x8 : Int32) (x9 : Int32) (x10 : Int32) (x11 : Int32) (x12 : Int32) (x13 : Int64) (x15 : Int64) (x17 : Int64) (x19 : Int64) (x21 : Int32) (x22 : Int32) (x25 : Int32) (x28 : Int32) (x29 : Int32) (x30 : Int32) (x31 : Int64) (x33 : Int64) (x35 : Int32) (x36 : Int32) {r : ((Unit) ⊕ (Int32 × QHeap)) ⊕ (Int32)} {u : Option Value} {τ : QHeap} (h : J0_506 s p0 x2 x4 x7 x8 x9 x10 x11 x12 x13 x15 x17 x19 x21 x22 x25 x28 x29 x30 x31 x33 x35 x36 = some r) (hx0 : ∀ x : Unit, r = .inl (Sum.inl x) → QTri l Z n0 ad 0 (512, [vR 0, vR 1, vL x2, none, vL x4, none, none, vI x7, vI x8, vI x9, vI x10, vI x11, vI x12, vL x13, none, vL x15, none, vL x17, none, vL x19, none, vI x21, vI x22, none, none, vI x25, none, none, vI x28, vI x29, vI x30, vL x31, none, vL x33, none, vI x35, none], [], (H0 s p0)) u τ) (hx1 : ∀ x : Int32 × QHeap, r = .inl (Sum.inr x) → u = (some (Value.int x.1)) ∧ τ = x.2) (hc : ∀ x : Int32, r = .inr x → QTri l Z n0 ad 0 (471, [vR 0, vR 1, vL x2, none, vL x4, none, none, vI x7, vI x8, vI x9, vI x10, vI x11, vI x12, vL x13, none, vL x15, none, vL x17, none, vL x19, none, vI x21, vI x22, none, none, vI x25, none, none, vI x28, vI x29, vI x30, vL x31, none, vL x33, none, vI x35, vI x], [], (H0 s p0)) u τ) : QTri l Z n0 ad 0 (506, [vR 0, vR 1, vL x2, none, vL x4, none, none, vI x7, vI x8, vI x9, vI x10, vI x11, vI x12, vL x13, none, vL x15, none, vL x17, none, vL x19, none, vI x21, vI x22, none, none, vI x25, none, none, vI x28, vI x29, vI x30, vL x31, none, vL x33, none, vI x35, vI x36], [], (H0 s p0)) u τ := by
 unfold J0_506 at h
 refine zS Ad W 2 (st' := (471, [vR 0, vR 1, vL x2, none, vL x4, none, none, vI x7, vI x8, vI x9, vI x10, vI x11, vI x12, vL x13, none, vL x15, none, vL x17, none, vL x19, none, vI x21, vI x22, none, none, vI x25, none, none, vI x28, vI x29, vI x30, vL x31, none, vL x33, none, vI x35, vI (x36 + (1:Int32))], [], (H0 s p0))) rfl ?_
 obtain rfl := Option.some.inj h
 exact zM [tt,tt,tt,ff,tt,ff,ff,tt,tt,tt,tt,tt,tt,tt,ff,tt,ff,tt,ff,tt,ff,tt,tt,ff,ff,tt,ff,ff,tt,tt,tt,tt,ff,tt,ff,tt,tt] (hc (x36 + (1:Int32)) rfl)
def B0_471 (s : List Int32) (p0 : Ob) (x2 : Int64) (x4 : Int64) (x7 : Int32) (x8 : Int32) (x9 : Int32) (x10 : Int32) (x11 : Int32) (x12 : Int32) (x13 : Int64) (x15 : Int64) (x17 : Int64) (x19 : Int64) (x21 : Int32) (x22 : Int32) (x25 : Int32) (x28 : Int32) (x29 : Int32) (x30 : Int32) (x31 : Int64) (x33 : Int64) (x35 : Int32) (v : Int32) : Option (((Unit) ⊕ (Int32 × QHeap)) ⊕ (Int32)) :=
  (if v < (8 : Int32) then (if ((XT.ushr x29 v) &&& (1 : Int32)) = (0 : Int32) then (J0_506 s p0 x2 x4 x7 x8 x9 x10 x11 x12 x13 x15 x17 x19 x21 x22 x25 x28 x29 x30 x31 x33 x35 v) else (F8 x33 v).bind fun r167 => (F8 x2 v).bind fun r168 => (if r167 = r168 then (J0_506 s p0 x2 x4 x7 x8 x9 x10 x11 x12 x13 x15 x17 x19 x21 x22 x25 x28 x29 x30 x31 x33 x35 v) else some (.inl (Sum.inr ((0 : Int32), (H0 s p0)))))) else some (.inl (Sum.inl ())))
theorem tB0_471 (Ad : QAd n0 ad) (W : QW Z a0) (s : List Int32) (p0 : Ob) (x2 : Int64) (x4 : Int64) (x7 : Int32) (x8 : Int32) (x9 : Int32) (x10 : Int32) (x11 : Int32) (x12 : Int32) (x13 : Int64) (x15 : Int64) (x17 : Int64) (x19 : Int64) (x21 : Int32) (x22 : Int32) (x25 : Int32) (x28 : Int32) (x29 : Int32) (x30 : Int32) (x31 : Int64) (x33 : Int64) (x35 : Int32) (v : Int32) {r : ((Unit) ⊕ (Int32 × QHeap)) ⊕ (Int32)} {u : Option Value} {τ : QHeap} (h : B0_471 s p0 x2 x4 x7 x8 x9 x10 x11 x12 x13 x15 x17 x19 x21 x22 x25 x28 x29 x30 x31 x33 x35 v = some r) (hx0 : ∀ x : Unit, r = .inl (Sum.inl x) → QTri l Z n0 ad 0 (512, [vR 0, vR 1, vL x2, none, vL x4, none, none, vI x7, vI x8, vI x9, vI x10, vI x11, vI x12, vL x13, none, vL x15, none, vL x17, none, vL x19, none, vI x21, vI x22, none, none, vI x25, none, none, vI x28, vI x29, vI x30, vL x31, none, vL x33, none, vI x35, none], [], (H0 s p0)) u τ) (hx1 : ∀ x : Int32 × QHeap, r = .inl (Sum.inr x) → u = (some (Value.int x.1)) ∧ τ = x.2) (hc : ∀ x : Int32, r = .inr x → QTri l Z n0 ad 0 (471, [vR 0, vR 1, vL x2, none, vL x4, none, none, vI x7, vI x8, vI x9, vI x10, vI x11, vI x12, vL x13, none, vL x15, none, vL x17, none, vL x19, none, vI x21, vI x22, none, none, vI x25, none, none, vI x28, vI x29, vI x30, vL x31, none, vL x33, none, vI x35, vI x], [], (H0 s p0)) u τ) : QTri l Z n0 ad 0 (471, [vR 0, vR 1, vL x2, none, vL x4, none, none, vI x7, vI x8, vI x9, vI x10, vI x11, vI x12, vL x13, none, vL x15, none, vL x17, none, vL x19, none, vI x21, vI x22, none, none, vI x25, none, none, vI x28, vI x29, vI x30, vL x31, none, vL x33, none, vI x35, vI v], [], (H0 s p0)) u τ := by
 unfold B0_471 at h
 refine zS Ad W 2 (st' := (475, [vR 0, vR 1, vL x2, none, vL x4, none, none, vI x7, vI x8, vI x9, vI x10, vI x11, vI x12, vL x13, none, vL x15, none, vL x17, none, vL x19, none, vI x21, vI x22, none, none, vI x25, none, none, vI x28, vI x29, vI x30, vL x31, none, vL x33, none, vI x35, vI v], [.int (8:Int32), .int v], (H0 s p0))) rfl ?_
 rcases qite h with ⟨hc165, h⟩ | ⟨hc165, h⟩
 ·refine zF Ad W (t := 512) (f := 478) rfl (XT.ii_ge_f hc165) ?_
  refine zS Ad W 5 (st' := (485, [vR 0, vR 1, vL x2, none, vL x4, none, none, vI x7, vI x8, vI x9, vI x10, vI x11, vI x12, vL x13, none, vL x15, none, vL x17, none, vL x19, none, vI x21, vI x22, none, none, vI x25, none, none, vI x28, vI x29, vI x30, vL x31, none, vL x33, none, vI x35, vI v], [.int ((XT.ushr x29 v) &&& (1:Int32))], (H0 s p0))) rfl ?_
  rcases qite h with ⟨hc166, h⟩ | ⟨hc166, h⟩
  ·refine zT Ad W (t := 506) (f := 488) rfl (XT.i0_eq_t hc166) ?_
   exact zM [tt,tt,tt,ff,tt,ff,ff,tt,tt,tt,tt,tt,tt,tt,ff,tt,ff,tt,ff,tt,ff,tt,tt,ff,ff,tt,ff,ff,tt,tt,tt,tt,ff,tt,ff,tt,tt] (tJ0_506 Ad W s p0 x2 x4 x7 x8 x9 x10 x11 x12 x13 x15 x17 x19 x21 x22 x25 x28 x29 x30 x31 x33 x35 v h hx0 hx1 hc)
  ·refine zF Ad W (t := 506) (f := 488) rfl (XT.i0_eq_f hc166) ?_
   refine zS Ad W 2 (st' := (492, [vR 0, vR 1, vL x2, none, vL x4, none, none, vI x7, vI x8, vI x9, vI x10, vI x11, vI x12, vL x13, none, vL x15, none, vL x17, none, vL x19, none, vI x21, vI x22, none, none, vI x25, none, none, vI x28, vI x29, vI x30, vL x31, none, vL x33, none, vI x35, vI v], [.int v, .long x33], (H0 s p0))) rfl ?_
   obtain ⟨r167, hr167, h⟩ := bind_eq_some_iff.mp h
   refine QTri.callS W (as := [.long x33, .int v]) (rest := []) (w := (some (.int r167))) (σ₁ := (H0 s p0)) rfl rfl rfl rfl rfl rfl rfl (tF8 Ad W x33 v hr167) ?_
   refine zS Ad W 2 (st' := (498, [vR 0, vR 1, vL x2, none, vL x4, none, none, vI x7, vI x8, vI x9, vI x10, vI x11, vI x12, vL x13, none, vL x15, none, vL x17, none, vL x19, none, vI x21, vI x22, none, none, vI x25, none, none, vI x28, vI x29, vI x30, vL x31, none, vL x33, none, vI x35, vI v], [.int v, .long x2, .int r167], (H0 s p0))) rfl ?_
   obtain ⟨r168, hr168, h⟩ := bind_eq_some_iff.mp h
   refine QTri.callS W (as := [.long x2, .int v]) (rest := [.int r167]) (w := (some (.int r168))) (σ₁ := (H0 s p0)) rfl rfl rfl rfl rfl rfl rfl (tF8 Ad W x2 v hr168) ?_
   rcases qite h with ⟨hc169, h⟩ | ⟨hc169, h⟩
   ·refine zT Ad W (t := 506) (f := 504) rfl (XT.ii_eq_t hc169) ?_
    exact zM [tt,tt,tt,ff,tt,ff,ff,tt,tt,tt,tt,tt,tt,tt,ff,tt,ff,tt,ff,tt,ff,tt,tt,ff,ff,tt,ff,ff,tt,tt,tt,tt,ff,tt,ff,tt,tt] (tJ0_506 Ad W s p0 x2 x4 x7 x8 x9 x10 x11 x12 x13 x15 x17 x19 x21 x22 x25 x28 x29 x30 x31 x33 x35 v h hx0 hx1 hc)
   ·refine zF Ad W (t := 506) (f := 504) rfl (XT.ii_eq_f hc169) ?_
    refine zS Ad W 1 (st' := (505, [vR 0, vR 1, vL x2, none, vL x4, none, none, vI x7, vI x8, vI x9, vI x10, vI x11, vI x12, vL x13, none, vL x15, none, vL x17, none, vL x19, none, vI x21, vI x22, none, none, vI x25, none, none, vI x28, vI x29, vI x30, vL x31, none, vL x33, none, vI x35, vI v], [.int (0:Int32)], (H0 s p0))) rfl ?_
    obtain rfl := Option.some.inj h
    obtain ⟨rfl, rfl⟩ := hx1 ((0:Int32), (H0 s p0)) rfl
    exact QTri.retZ rfl rfl
 ·refine zT Ad W (t := 512) (f := 478) rfl (XT.ii_ge_t hc165) ?_
  obtain rfl := Option.some.inj h
  exact zM [tt,tt,tt,ff,tt,ff,ff,tt,tt,tt,tt,tt,tt,tt,ff,tt,ff,tt,ff,tt,ff,tt,tt,ff,ff,tt,ff,ff,tt,tt,tt,tt,ff,tt,ff,tt,ff] (hx0 () rfl)
def J0_557 (s : List Int32) (p0 : Ob) (x2 : Int64) (x4 : Int64) (x7 : Int32) (x8 : Int32) (x9 : Int32) (x10 : Int32) (x11 : Int32) (x12 : Int32) (x13 : Int64) (x15 : Int64) (x17 : Int64) (x19 : Int64) (x21 : Int32) (x22 : Int32) (x25 : Int32) (x28 : Int32) (x29 : Int32) (x30 : Int32) (x31 : Int64) (x33 : Int64) (x35 : Int32) (x36 : Int32) : Option (((Int64 × Int64)) ⊕ (Int64 × Int64 × Int32)) :=
  some (.inr (x2, x4, (x36 + (1 : Int32))))
theorem tJ0_557 (Ad : QAd n0 ad) (W : QW Z a0) (s : List Int32) (p0 : Ob) (x2 : Int64) (x4 : Int64) (x7 : Int32) (x8 : Int32) (x9 : Int32) (x10 : Int32) (x11 : Int32) (x12 : Int32) (x13 : Int64) (x15 : Int64) (x17 : Int64) (x19 : Int64) (x21 : Int32) (x22 : Int32) (x25 : Int32) (x28 : Int32) (x29 : Int32) (x30 : Int32) (x31 : Int64) (x33 : Int64) (x35 : Int32) (x36 : Int32) {r : ((Int64 × Int64)) ⊕ (Int64 × Int64 × Int32)} {u : Option Value} {τ : QHeap} (h : J0_557 s p0 x2 x4 x7 x8 x9 x10 x11 x12 x13 x15 x17 x19 x21 x22 x25 x28 x29 x30 x31 x33 x35 x36 = some r) (hx0 : ∀ x : Int64 × Int64, r = .inl x → QTri l Z n0 ad 0 (563, [vR 0, vR 1, vL x.1, none, vL x.2, none, none, vI x7, vI x8, vI x9, vI x10, vI x11, vI x12, vL x13, none, vL x15, none, vL x17, none, vL x19, none, vI x21, vI x22, none, none, vI x25, none, none, vI x28, vI x29, vI x30, vL x31, none, vL x33, none, vI x35, none], [], (H0 s p0)) u τ) (hc : ∀ x : Int64 × Int64 × Int32, r = .inr x → QTri l Z n0 ad 0 (515, [vR 0, vR 1, vL x.1, none, vL x.2.1, none, none, vI x7, vI x8, vI x9, vI x10, vI x11, vI x12, vL x13, none, vL x15, none, vL x17, none, vL x19, none, vI x21, vI x22, none, none, vI x25, none, none, vI x28, vI x29, vI x30, vL x31, none, vL x33, none, vI x35, vI x.2.2], [], (H0 s p0)) u τ) : QTri l Z n0 ad 0 (557, [vR 0, vR 1, vL x2, none, vL x4, none, none, vI x7, vI x8, vI x9, vI x10, vI x11, vI x12, vL x13, none, vL x15, none, vL x17, none, vL x19, none, vI x21, vI x22, none, none, vI x25, none, none, vI x28, vI x29, vI x30, vL x31, none, vL x33, none, vI x35, vI x36], [], (H0 s p0)) u τ := by
 unfold J0_557 at h
 refine zS Ad W 2 (st' := (515, [vR 0, vR 1, vL x2, none, vL x4, none, none, vI x7, vI x8, vI x9, vI x10, vI x11, vI x12, vL x13, none, vL x15, none, vL x17, none, vL x19, none, vI x21, vI x22, none, none, vI x25, none, none, vI x28, vI x29, vI x30, vL x31, none, vL x33, none, vI x35, vI (x36 + (1:Int32))], [], (H0 s p0))) rfl ?_
 obtain rfl := Option.some.inj h
 exact zM [tt,tt,tt,ff,tt,ff,ff,tt,tt,tt,tt,tt,tt,tt,ff,tt,ff,tt,ff,tt,ff,tt,tt,ff,ff,tt,ff,ff,tt,tt,tt,tt,ff,tt,ff,tt,tt] (hc (x2, x4, (x36 + (1:Int32))) rfl)
/-- setByt(JII)J -/
def F26 (x0 : Int64) (x2 : Int32) (x3 : Int32) : Option (Int64) :=
 some ((x0 &&& (((255 : Int64) <<< (((8:Int32) * x2).toInt64 &&& 63)) ^^^ (-1 : Int64))) ||| (((x3 &&& (255:Int32)).toInt64) <<< (((8:Int32) * x2).toInt64 &&& 63)))
theorem tF26 (Ad : QAd n0 ad) (W : QW Z a0) {σ : QHeap} (x0 : Int64) (x2 : Int32) (x3 : Int32) {r : Int64} (h : F26 x0 x2 x3 = some r) : QTri l Z n0 ad 26 (0, qentry [.long x0, .int x2, .int x3] (pMaxL 26), [], σ) (some (Value.long r)) σ := by
 unfold F26 at h
 refine zS Ad W 12 (st' := (19, [vL x0, none, vI x2, vI x3], [.int (x3 &&& (255:Int32)), .long (x0 &&& (((255 : Int64) <<< (((8:Int32) * x2).toInt64 &&& 63)) ^^^ (-1 : Int64)))], σ)) rfl ?_
 refine zS Ad W 6 (st' := (26, [vL x0, none, vI x2, vI x3], [.long ((x0 &&& (((255 : Int64) <<< (((8:Int32) * x2).toInt64 &&& 63)) ^^^ (-1 : Int64))) ||| (((x3 &&& (255:Int32)).toInt64) <<< (((8:Int32) * x2).toInt64 &&& 63)))], σ)) rfl ?_
 obtain rfl := Option.some.inj h
 exact QTri.retJ rfl rfl
def B0_515 (s : List Int32) (p0 : Ob) (x7 : Int32) (x8 : Int32) (x9 : Int32) (x10 : Int32) (x11 : Int32) (x12 : Int32) (x13 : Int64) (x15 : Int64) (x17 : Int64) (x19 : Int64) (x21 : Int32) (x22 : Int32) (x25 : Int32) (x28 : Int32) (x29 : Int32) (x30 : Int32) (x31 : Int64) (x33 : Int64) (x35 : Int32) (v : Int64 × Int64 × Int32) : Option (((Int64 × Int64)) ⊕ (Int64 × Int64 × Int32)) :=
  (if v.2.2 < (8 : Int32) then (if ((XT.ushr x28 v.2.2) &&& (1 : Int32)) = (0 : Int32) then (J0_557 s p0 v.1 v.2.1 x7 x8 x9 x10 x11 x12 x13 x15 x17 x19 x21 x22 x25 x28 x29 x30 x31 x33 x35 v.2.2) else (F8 x31 v.2.2).bind fun r174 => (F18 v.1 v.2.2 r174).bind fun r175 => (F26 v.2.1 v.2.2 x35).bind fun r176 => (J0_557 s p0 r175 r176 x7 x8 x9 x10 x11 x12 x13 x15 x17 x19 x21 x22 x25 x28 x29 x30 x31 x33 x35 v.2.2)) else some (.inl (v.1, v.2.1)))
theorem tB0_515 (Ad : QAd n0 ad) (W : QW Z a0) (s : List Int32) (p0 : Ob) (x7 : Int32) (x8 : Int32) (x9 : Int32) (x10 : Int32) (x11 : Int32) (x12 : Int32) (x13 : Int64) (x15 : Int64) (x17 : Int64) (x19 : Int64) (x21 : Int32) (x22 : Int32) (x25 : Int32) (x28 : Int32) (x29 : Int32) (x30 : Int32) (x31 : Int64) (x33 : Int64) (x35 : Int32) (v : Int64 × Int64 × Int32) {r : ((Int64 × Int64)) ⊕ (Int64 × Int64 × Int32)} {u : Option Value} {τ : QHeap} (h : B0_515 s p0 x7 x8 x9 x10 x11 x12 x13 x15 x17 x19 x21 x22 x25 x28 x29 x30 x31 x33 x35 v = some r) (hx0 : ∀ x : Int64 × Int64, r = .inl x → QTri l Z n0 ad 0 (563, [vR 0, vR 1, vL x.1, none, vL x.2, none, none, vI x7, vI x8, vI x9, vI x10, vI x11, vI x12, vL x13, none, vL x15, none, vL x17, none, vL x19, none, vI x21, vI x22, none, none, vI x25, none, none, vI x28, vI x29, vI x30, vL x31, none, vL x33, none, vI x35, none], [], (H0 s p0)) u τ) (hc : ∀ x : Int64 × Int64 × Int32, r = .inr x → QTri l Z n0 ad 0 (515, [vR 0, vR 1, vL x.1, none, vL x.2.1, none, none, vI x7, vI x8, vI x9, vI x10, vI x11, vI x12, vL x13, none, vL x15, none, vL x17, none, vL x19, none, vI x21, vI x22, none, none, vI x25, none, none, vI x28, vI x29, vI x30, vL x31, none, vL x33, none, vI x35, vI x.2.2], [], (H0 s p0)) u τ) : QTri l Z n0 ad 0 (515, [vR 0, vR 1, vL v.1, none, vL v.2.1, none, none, vI x7, vI x8, vI x9, vI x10, vI x11, vI x12, vL x13, none, vL x15, none, vL x17, none, vL x19, none, vI x21, vI x22, none, none, vI x25, none, none, vI x28, vI x29, vI x30, vL x31, none, vL x33, none, vI x35, vI v.2.2], [], (H0 s p0)) u τ := by
 unfold B0_515 at h
 refine zS Ad W 2 (st' := (519, [vR 0, vR 1, vL v.1, none, vL v.2.1, none, none, vI x7, vI x8, vI x9, vI x10, vI x11, vI x12, vL x13, none, vL x15, none, vL x17, none, vL x19, none, vI x21, vI x22, none, none, vI x25, none, none, vI x28, vI x29, vI x30, vL x31, none, vL x33, none, vI x35, vI v.2.2], [.int (8:Int32), .int v.2.2], (H0 s p0))) rfl ?_
 rcases qite h with ⟨hc172, h⟩ | ⟨hc172, h⟩
 ·refine zF Ad W (t := 563) (f := 522) rfl (XT.ii_ge_f hc172) ?_
  refine zS Ad W 5 (st' := (529, [vR 0, vR 1, vL v.1, none, vL v.2.1, none, none, vI x7, vI x8, vI x9, vI x10, vI x11, vI x12, vL x13, none, vL x15, none, vL x17, none, vL x19, none, vI x21, vI x22, none, none, vI x25, none, none, vI x28, vI x29, vI x30, vL x31, none, vL x33, none, vI x35, vI v.2.2], [.int ((XT.ushr x28 v.2.2) &&& (1:Int32))], (H0 s p0))) rfl ?_
  rcases qite h with ⟨hc173, h⟩ | ⟨hc173, h⟩
  ·refine zT Ad W (t := 557) (f := 532) rfl (XT.i0_eq_t hc173) ?_
   exact zM [tt,tt,tt,ff,tt,ff,ff,tt,tt,tt,tt,tt,tt,tt,ff,tt,ff,tt,ff,tt,ff,tt,tt,ff,ff,tt,ff,ff,tt,tt,tt,tt,ff,tt,ff,tt,tt] (tJ0_557 Ad W s p0 v.1 v.2.1 x7 x8 x9 x10 x11 x12 x13 x15 x17 x19 x21 x22 x25 x28 x29 x30 x31 x33 x35 v.2.2 h hx0 hc)
  ·refine zF Ad W (t := 557) (f := 532) rfl (XT.i0_eq_f hc173) ?_
   refine zS Ad W 4 (st' := (539, [vR 0, vR 1, vL v.1, none, vL v.2.1, none, none, vI x7, vI x8, vI x9, vI x10, vI x11, vI x12, vL x13, none, vL x15, none, vL x17, none, vL x19, none, vI x21, vI x22, none, none, vI x25, none, none, vI x28, vI x29, vI x30, vL x31, none, vL x33, none, vI x35, vI v.2.2], [.int v.2.2, .long x31, .int v.2.2, .long v.1], (H0 s p0))) rfl ?_
   obtain ⟨r174, hr174, h⟩ := bind_eq_some_iff.mp h
   refine QTri.callS W (as := [.long x31, .int v.2.2]) (rest := [.int v.2.2, .long v.1]) (w := (some (.int r174))) (σ₁ := (H0 s p0)) rfl rfl rfl rfl rfl rfl rfl (tF8 Ad W x31 v.2.2 hr174) ?_
   obtain ⟨r175, hr175, h⟩ := bind_eq_some_iff.mp h
   refine QTri.callS W (as := [.long v.1, .int v.2.2, .int r174]) (rest := []) (w := (some (.long r175))) (σ₁ := (H0 s p0)) rfl rfl rfl rfl rfl rfl rfl (tF18 Ad W v.1 v.2.2 r174 hr175) ?_
   refine zS Ad W 4 (st' := (552, [vR 0, vR 1, vL r175, none, vL v.2.1, none, none, vI x7, vI x8, vI x9, vI x10, vI x11, vI x12, vL x13, none, vL x15, none, vL x17, none, vL x19, none, vI x21, vI x22, none, none, vI x25, none, none, vI x28, vI x29, vI x30, vL x31, none, vL x33, none, vI x35, vI v.2.2], [.int x35, .int v.2.2, .long v.2.1], (H0 s p0))) rfl ?_
   obtain ⟨r176, hr176, h⟩ := bind_eq_some_iff.mp h
   refine QTri.callS W (as := [.long v.2.1, .int v.2.2, .int x35]) (rest := []) (w := (some (.long r176))) (σ₁ := (H0 s p0)) rfl rfl rfl rfl rfl rfl rfl (tF26 Ad W v.2.1 v.2.2 x35 hr176) ?_
   refine zS Ad W 1 (st' := (557, [vR 0, vR 1, vL r175, none, vL r176, none, none, vI x7, vI x8, vI x9, vI x10, vI x11, vI x12, vL x13, none, vL x15, none, vL x17, none, vL x19, none, vI x21, vI x22, none, none, vI x25, none, none, vI x28, vI x29, vI x30, vL x31, none, vL x33, none, vI x35, vI v.2.2], [], (H0 s p0))) rfl ?_
   exact zM [tt,tt,tt,ff,tt,ff,ff,tt,tt,tt,tt,tt,tt,tt,ff,tt,ff,tt,ff,tt,ff,tt,tt,ff,ff,tt,ff,ff,tt,tt,tt,tt,ff,tt,ff,tt,tt] (tJ0_557 Ad W s p0 r175 r176 x7 x8 x9 x10 x11 x12 x13 x15 x17 x19 x21 x22 x25 x28 x29 x30 x31 x33 x35 v.2.2 h hx0 hc)
 ·refine zT Ad W (t := 563) (f := 522) rfl (XT.ii_ge_t hc172) ?_
  obtain rfl := Option.some.inj h
  exact zM [tt,tt,tt,ff,tt,ff,ff,tt,tt,tt,tt,tt,tt,tt,ff,tt,ff,tt,ff,tt,ff,tt,tt,ff,ff,tt,ff,ff,tt,tt,tt,tt,ff,tt,ff,tt,ff] (hx0 (v.1, v.2.1) rfl)
def J0_436 (s : List Int32) (p0 : Ob) (x2 : Int64) (x4 : Int64) (x6 : Int32) (x7 : Int32) (x8 : Int32) (x9 : Int32) (x10 : Int32) (x11 : Int32) (x12 : Int32) (x13 : Int64) (x15 : Int64) (x17 : Int64) (x19 : Int64) (x21 : Int32) (x22 : Int32) (x25 : Int32) (x28 : Int32) (x29 : Int32) (x30 : Int32) (x31 : Int64) (x33 : Int64) : Option (((Int32 × QHeap)) ⊕ (Int64 × Int64 × Int32 × Int32 × Int32 × Int32 × Int32 × Int32 × Int32 × Int64 × Int64 × Int64 × Int64 × Int32 × Ob)) :=
  (F22 p0 x25).bind fun r161 => (if r161.1 < (1 : Int32) then (J0_567 s r161.2 x2 x4 x6 x7 x8 x9 x10 x11 x12 x13 x15 x17 x19 x21 x22 x25 x28 x29 x30 x31 x33) else (if r161.1 = (x6 + (1 : Int32)) then (if x30 = (0 : Int32) then ((loopN (B0_471 s r161.2 x2 x4 x7 x8 x9 x10 x11 x12 x13 x15 x17 x19 x21 x22 x25 x28 x29 x30 x31 x33 r161.1) qN (0 : Int32)).bind fun e170 => match e170 with | .inl e170a => (loopN (B0_515 s r161.2 x7 x8 x9 x10 x11 x12 x13 x15 x17 x19 x21 x22 x25 x28 x29 x30 x31 x33 r161.1) qN (x2, x4, (0 : Int32))).bind fun e177 => (J0_567 s r161.2 e177.1 e177.2 r161.1 x7 x8 x9 x10 x11 x12 x13 x15 x17 x19 x21 x22 x25 x28 x29 x30 x31 x33) | .inr e170a => some (.inl e170a)) else some (.inl ((0 : Int32), (H0 s r161.2)))) else some (.inl ((0 : Int32), (H0 s r161.2)))))
theorem tJ0_436 (Ad : QAd n0 ad) (W : QW Z a0) (s : List Int32) (p0 : Ob) (x2 : Int64) (x4 : Int64) (x6 : Int32) (x7 : Int32) (x8 : Int32) (x9 : Int32) (x10 : Int32) (x11 : Int32) (x12 : Int32) (x13 : Int64) (x15 : Int64) (x17 : Int64) (x19 : Int64) (x21 : Int32) (x22 : Int32) (x25 : Int32) (x28 : Int32) (x29 : Int32) (x30 : Int32) (x31 : Int64) (x33 : Int64) {r : ((Int32 × QHeap)) ⊕ (Int64 × Int64 × Int32 × Int32 × Int32 × Int32 × Int32 × Int32 × Int32 × Int64 × Int64 × Int64 × Int64 × Int32 × Ob)} {u : Option Value} {τ : QHeap} (h : J0_436 s p0 x2 x4 x6 x7 x8 x9 x10 x11 x12 x13 x15 x17 x19 x21 x22 x25 x28 x29 x30 x31 x33 = some r) (hx0 : ∀ x : Int32 × QHeap, r = .inl x → u = (some (Value.int x.1)) ∧ τ = x.2) (hc : ∀ x : Int64 × Int64 × Int32 × Int32 × Int32 × Int32 × Int32 × Int32 × Int32 × Int64 × Int64 × Int64 × Int64 × Int32 × Ob, r = .inr x → QTri l Z n0 ad 0 (71, [vR 0, vR 1, vL x.1, none, vL x.2.1, none, vI x.2.2.1, vI x.2.2.2.1, vI x.2.2.2.2.1, vI x.2.2.2.2.2.1, vI x.2.2.2.2.2.2.1, vI x.2.2.2.2.2.2.2.1, vI x.2.2.2.2.2.2.2.2.1, vL x.2.2.2.2.2.2.2.2.2.1, none, vL x.2.2.2.2.2.2.2.2.2.2.1, none, vL x.2.2.2.2.2.2.2.2.2.2.2.1, none, vL x.2.2.2.2.2.2.2.2.2.2.2.2.1, none, vI x21, vI x.2.2.2.2.2.2.2.2.2.2.2.2.2.1, none, none, none, none, none, none, none, none, none, none, none, none, none, none], [], (H0 s x.2.2.2.2.2.2.2.2.2.2.2.2.2.2)) u τ) : QTri l Z n0 ad 0 (436, [vR 0, vR 1, vL x2, none, vL x4, none, vI x6, vI x7, vI x8, vI x9, vI x10, vI x11, vI x12, vL x13, none, vL x15, none, vL x17, none, vL x19, none, vI x21, vI x22, none, none, vI x25, none, none, vI x28, vI x29, vI x30, vL x31, none, vL x33, none, none, none], [], (H0 s p0)) u τ := by
 unfold J0_436 at h
 refine zS Ad W 2 (st' := (439, [vR 0, vR 1, vL x2, none, vL x4, none, vI x6, vI x7, vI x8, vI x9, vI x10, vI x11, vI x12, vL x13, none, vL x15, none, vL x17, none, vL x19, none, vI x21, vI x22, none, none, vI x25, none, none, vI x28, vI x29, vI x30, vL x31, none, vL x33, none, none, none], [.int x25, .ref 1], (H0 s p0))) rfl ?_
 obtain ⟨r161, hr161, h⟩ := bind_eq_some_iff.mp h
 refine QTri.callV W (a := 1) (as := [.int x25]) (rest := []) (w := (some (.int r161.1))) (σ₁ := (H0 s r161.2)) rfl rfl rfl rfl rfl rfl rfl rfl (tF22 Ad W s p0 x25 hr161) ?_
 refine zS Ad W 3 (st' := (447, [vR 0, vR 1, vL x2, none, vL x4, none, vI x6, vI x7, vI x8, vI x9, vI x10, vI x11, vI x12, vL x13, none, vL x15, none, vL x17, none, vL x19, none, vI x21, vI x22, none, none, vI x25, none, none, vI x28, vI x29, vI x30, vL x31, none, vL x33, none, vI r161.1, none], [.int (1:Int32), .int r161.1], (H0 s r161.2))) rfl ?_
 rcases qite h with ⟨hc162, h⟩ | ⟨hc162, h⟩
 ·refine zT Ad W (t := 567) (f := 450) rfl (XT.ii_lt_t hc162) ?_
  exact zM [tt,tt,tt,ff,tt,ff,tt,tt,tt,tt,tt,tt,tt,tt,ff,tt,ff,tt,ff,tt,ff,tt,tt,ff,ff,tt,ff,ff,tt,tt,tt,tt,ff,tt,ff,ff,ff] (tJ0_567 Ad W s r161.2 x2 x4 x6 x7 x8 x9 x10 x11 x12 x13 x15 x17 x19 x21 x22 x25 x28 x29 x30 x31 x33 h hx0 hc)
 ·refine zF Ad W (t := 567) (f := 450) rfl (XT.ii_lt_f hc162) ?_
  refine zS Ad W 4 (st' := (456, [vR 0, vR 1, vL x2, none, vL x4, none, vI x6, vI x7, vI x8, vI x9, vI x10, vI x11, vI x12, vL x13, none, vL x15, none, vL x17, none, vL x19, none, vI x21, vI x22, none, none, vI x25, none, none, vI x28, vI x29, vI x30, vL x31, none, vL x33, none, vI r161.1, none], [.int (x6 + (1:Int32)), .int r161.1], (H0 s r161.2))) rfl ?_
  rcases qite h with ⟨hc163, h⟩ | ⟨hc163, h⟩
  ·refine zT Ad W (t := 461) (f := 459) rfl (XT.ii_eq_t hc163) ?_
   refine zS Ad W 1 (st' := (463, [vR 0, vR 1, vL x2, none, vL x4, none, vI x6, vI x7, vI x8, vI x9, vI x10, vI x11, vI x12, vL x13, none, vL x15, none, vL x17, none, vL x19, none, vI x21, vI x22, none, none, vI x25, none, none, vI x28, vI x29, vI x30, vL x31, none, vL x33, none, vI r161.1, none], [.int x30], (H0 s r161.2))) rfl ?_
   rcases qite h with ⟨hc164, h⟩ | ⟨hc164, h⟩
   ·refine zT Ad W (t := 468) (f := 466) rfl (XT.i0_eq_t hc164) ?_
    refine zS Ad W 2 (st' := (471, [vR 0, vR 1, vL x2, none, vL x4, none, vI x6, vI x7, vI x8, vI x9, vI x10, vI x11, vI x12, vL x13, none, vL x15, none, vL x17, none, vL x19, none, vI x21, vI x22, none, none, vI x25, none, none, vI x28, vI x29, vI x30, vL x31, none, vL x33, none, vI r161.1, vI (0:Int32)], [], (H0 s r161.2))) rfl ?_
    obtain ⟨e170, he170, h⟩ := bind_eq_some_iff.mp h
    refine zM [tt,tt,tt,ff,tt,ff,ff,tt,tt,tt,tt,tt,tt,tt,ff,tt,ff,tt,ff,tt,ff,tt,tt,ff,ff,tt,ff,ff,tt,tt,tt,tt,ff,tt,ff,tt,tt] (loopN_tri (B := B0_471 s r161.2 x2 x4 x7 x8 x9 x10 x11 x12 x13 x15 x17 x19 x21 x22 x25 x28 x29 x30 x31 x33 r161.1) (T := fun lv171 => QTri l Z n0 ad 0 (471, [vR 0, vR 1, vL x2, none, vL x4, none, none, vI x7, vI x8, vI x9, vI x10, vI x11, vI x12, vL x13, none, vL x15, none, vL x17, none, vL x19, none, vI x21, vI x22, none, none, vI x25, none, none, vI x28, vI x29, vI x30, vL x31, none, vL x33, none, vI r161.1, vI lv171], [], (H0 s r161.2)) u τ) (KE := fun e => match e with | .inl e170a => QTri l Z n0 ad 0 (512, [vR 0, vR 1, vL x2, none, vL x4, none, none, vI x7, vI x8, vI x9, vI x10, vI x11, vI x12, vL x13, none, vL x15, none, vL x17, none, vL x19, none, vI x21, vI x22, none, none, vI x25, none, none, vI x28, vI x29, vI x30, vL x31, none, vL x33, none, vI r161.1, none], [], (H0 s r161.2)) u τ | .inr e170a => u = (some (Value.int e170a.1)) ∧ τ = e170a.2) (fun lv171 r hB hE hC => tB0_471 Ad W s r161.2 x2 x4 x7 x8 x9 x10 x11 x12 x13 x15 x17 x19 x21 x22 x25 x28 x29 x30 x31 x33 r161.1 lv171 hB (fun x q => hE _ q) (fun x q => hE _ q) (fun x q => hC x q)) qN (0:Int32) e170 he170 ?_)
    rcases e170 with e170a | e170a
    ·refine zS Ad W 2 (st' := (515, [vR 0, vR 1, vL x2, none, vL x4, none, none, vI x7, vI x8, vI x9, vI x10, vI x11, vI x12, vL x13, none, vL x15, none, vL x17, none, vL x19, none, vI x21, vI x22, none, none, vI x25, none, none, vI x28, vI x29, vI x30, vL x31, none, vL x33, none, vI r161.1, vI (0:Int32)], [], (H0 s r161.2))) rfl ?_
     obtain ⟨e177, he177, h⟩ := bind_eq_some_iff.mp h
     refine zM [tt,tt,tt,ff,tt,ff,ff,tt,tt,tt,tt,tt,tt,tt,ff,tt,ff,tt,ff,tt,ff,tt,tt,ff,ff,tt,ff,ff,tt,tt,tt,tt,ff,tt,ff,tt,tt] (loopN_tri (B := B0_515 s r161.2 x7 x8 x9 x10 x11 x12 x13 x15 x17 x19 x21 x22 x25 x28 x29 x30 x31 x33 r161.1) (T := fun lv178 => QTri l Z n0 ad 0 (515, [vR 0, vR 1, vL lv178.1, none, vL lv178.2.1, none, none, vI x7, vI x8, vI x9, vI x10, vI x11, vI x12, vL x13, none, vL x15, none, vL x17, none, vL x19, none, vI x21, vI x22, none, none, vI x25, none, none, vI x28, vI x29, vI x30, vL x31, none, vL x33, none, vI r161.1, vI lv178.2.2], [], (H0 s r161.2)) u τ) (KE := fun e177a => QTri l Z n0 ad 0 (563, [vR 0, vR 1, vL e177a.1, none, vL e177a.2, none, none, vI x7, vI x8, vI x9, vI x10, vI x11, vI x12, vL x13, none, vL x15, none, vL x17, none, vL x19, none, vI x21, vI x22, none, none, vI x25, none, none, vI x28, vI x29, vI x30, vL x31, none, vL x33, none, vI r161.1, none], [], (H0 s r161.2)) u τ) (fun lv178 r hB hE hC => tB0_515 Ad W s r161.2 x7 x8 x9 x10 x11 x12 x13 x15 x17 x19 x21 x22 x25 x28 x29 x30 x31 x33 r161.1 lv178 hB (fun x q => hE _ q) (fun x q => hC x q)) qN (x2, x4, (0:Int32)) e177 he177 ?_)
     refine zS Ad W 2 (st' := (567, [vR 0, vR 1, vL e177.1, none, vL e177.2, none, vI r161.1, vI x7, vI x8, vI x9, vI x10, vI x11, vI x12, vL x13, none, vL x15, none, vL x17, none, vL x19, none, vI x21, vI x22, none, none, vI x25, none, none, vI x28, vI x29, vI x30, vL x31, none, vL x33, none, vI r161.1, none], [], (H0 s r161.2))) rfl ?_
     exact zM [tt,tt,tt,ff,tt,ff,tt,tt,tt,tt,tt,tt,tt,tt,ff,tt,ff,tt,ff,tt,ff,tt,tt,ff,ff,tt,ff,ff,tt,tt,tt,tt,ff,tt,ff,ff,ff] (tJ0_567 Ad W s r161.2 e177.1 e177.2 r161.1 x7 x8 x9 x10 x11 x12 x13 x15 x17 x19 x21 x22 x25 x28 x29 x30 x31 x33 h hx0 hc)
    ·obtain rfl := Option.some.inj h
     exact hx0 e170a rfl
   ·refine zF Ad W (t := 468) (f := 466) rfl (XT.i0_eq_f hc164) ?_
    refine zS Ad W 1 (st' := (467, [vR 0, vR 1, vL x2, none, vL x4, none, vI x6, vI x7, vI x8, vI x9, vI x10, vI x11, vI x12, vL x13, none, vL x15, none, vL x17, none, vL x19, none, vI x21, vI x22, none, none, vI x25, none, none, vI x28, vI x29, vI x30, vL x31, none, vL x33, none, vI r161.1, none], [.int (0:Int32)], (H0 s r161.2))) rfl ?_
    obtain rfl := Option.some.inj h
    obtain ⟨rfl, rfl⟩ := hx0 ((0:Int32), (H0 s r161.2)) rfl
    exact QTri.retZ rfl rfl
  ·refine zF Ad W (t := 461) (f := 459) rfl (XT.ii_eq_f hc163) ?_
   refine zS Ad W 1 (st' := (460, [vR 0, vR 1, vL x2, none, vL x4, none, vI x6, vI x7, vI x8, vI x9, vI x10, vI x11, vI x12, vL x13, none, vL x15, none, vL x17, none, vL x19, none, vI x21, vI x22, none, none, vI x25, none, none, vI x28, vI x29, vI x30, vL x31, none, vL x33, none, vI r161.1, none], [.int (0:Int32)], (H0 s r161.2))) rfl ?_
   obtain rfl := Option.some.inj h
   obtain ⟨rfl, rfl⟩ := hx0 ((0:Int32), (H0 s r161.2)) rfl
   exact QTri.retZ rfl rfl
/-- abort(I)I -/
def F20 (o : Ob) (x1 : Int32) : Option (Int32 × Ob) :=
 (F5 o x1).bind fun r180 => (if r180 = (0:Int32) then some ((-1:Int32), o) else (F21 o x1).bind fun r182 => some ((0:Int32), (s_abortCount r182 ((f_abortCount r182) + (1:Int32)))))
theorem tF20 (Ad : QAd n0 ad) (W : QW Z a0) (s : List Int32) (o : Ob) (x1 : Int32) {r : Int32 × Ob} (h : F20 o x1 = some r) : QTri l Z n0 ad 20 (0, qentry [.ref 1, .int x1] (pMaxL 20), [], (H0 s o)) (some (Value.int r.1)) (H0 s r.2) := by
 unfold F20 at h
 refine zS Ad W 2 (st' := (2, [vR 1, vI x1], [.int x1, .ref 1], (H0 s o))) rfl ?_
 obtain ⟨r180, hr180, h⟩ := bind_eq_some_iff.mp h
 refine QTri.callP W (a := 1) (as := [.int x1]) (rest := []) (w := (some (.int r180))) (σ₁ := (H0 s o)) rfl rfl rfl rfl rfl rfl rfl rfl (tF5 Ad W s o x1 hr180) ?_
 rcases qite h with ⟨hc181, h⟩ | ⟨hc181, h⟩
 ·refine zF Ad W (t := 10) (f := 8) rfl (XT.i0_ne_f hc181) ?_
  refine zS Ad W 1 (st' := (9, [vR 1, vI x1], [.int (-1:Int32)], (H0 s o))) rfl ?_
  obtain rfl := Option.some.inj h
  exact QTri.retI rfl rfl
 ·refine zT Ad W (t := 10) (f := 8) rfl (XT.i0_ne_t hc181) ?_
  refine zS Ad W 2 (st' := (12, [vR 1, vI x1], [.int x1, .ref 1], (H0 s o))) rfl ?_
  obtain ⟨r182, hr182, h⟩ := bind_eq_some_iff.mp h
  refine QTri.callP W (a := 1) (as := [.int x1]) (rest := []) (w := none) (σ₁ := (H0 s r182)) rfl rfl rfl rfl rfl rfl rfl rfl (tF21 Ad W s o x1 hr182) ?_
  refine zS Ad W 6 (st' := (25, [vR 1, vI x1], [], (H0x19 s r182 ((f_abortCount r182) + (1:Int32))))) rfl ?_
  refine zS Ad W 1 (st' := (26, [vR 1, vI x1], [.int (0:Int32)], (H0x19 s r182 ((f_abortCount r182) + (1:Int32))))) rfl ?_
  have E183 : ((H0x19 s r182 ((f_abortCount r182) + (1:Int32))) : QHeap) = (H0 s (s_abortCount r182 ((f_abortCount r182) + (1:Int32)))) := by simp only [fs, H0, H0v, H0x19, s_abortCount]
  rw [E183]
  obtain rfl := Option.some.inj h
  exact QTri.retI rfl rfl
def B12_2 (o : Ob) (v : Int32) : Option (((Int32)) ⊕ (Int32)) :=
  (if v < (f_slotCount o) then (if v < (8 : Int32) then (aget (f_active o) v).bind fun y187 => (if y187 = (0 : Int32) then some (.inl v) else some (.inr (v + (1 : Int32)))) else some (.inl (-1 : Int32))) else some (.inl (-1 : Int32)))
theorem tB12_2 (Ad : QAd n0 ad) (W : QW Z a0) (s : List Int32) (o : Ob) (v : Int32) {r : ((Int32)) ⊕ (Int32)} {u : Option Value} {τ : QHeap} (h : B12_2 o v = some r) (hx0 : ∀ x : Int32, r = .inl x → u = (some (Value.int x)) ∧ τ = (H0 s o)) (hc : ∀ x : Int32, r = .inr x → QTri l Z n0 ad 12 (2, [vR 1, vI x], [], (H0 s o)) u τ) : QTri l Z n0 ad 12 (2, [vR 1, vI v], [], (H0 s o)) u τ := by
 unfold B12_2 at h
 refine zS Ad W 3 (st' := (7, [vR 1, vI v], [.int (f_slotCount o), .int v], (H0 s o))) rfl ?_
 rcases qite h with ⟨hc185, h⟩ | ⟨hc185, h⟩
 ·refine zF Ad W (t := 33) (f := 10) rfl (XT.ii_ge_f hc185) ?_
  refine zS Ad W 2 (st' := (13, [vR 1, vI v], [.int (8:Int32), .int v], (H0 s o))) rfl ?_
  rcases qite h with ⟨hc186, h⟩ | ⟨hc186, h⟩
  ·refine zF Ad W (t := 33) (f := 16) rfl (XT.ii_ge_f hc186) ?_
   refine zS Ad W 3 (st' := (21, [vR 1, vI v], [.int v, .ref 4], (H0 s o))) rfl ?_
   obtain ⟨y187, hy187, h⟩ := bind_eq_some_iff.mp h
   refine zB Ad W (f := fun y187 => (22, [vR 1, vI v], [.int y187], (H0 s o))) rfl hy187 ?_
   rcases qite h with ⟨hc188, h⟩ | ⟨hc188, h⟩
   ·refine zF Ad W (t := 27) (f := 25) rfl (XT.i0_ne_f hc188) ?_
    refine zS Ad W 1 (st' := (26, [vR 1, vI v], [.int v], (H0 s o))) rfl ?_
    obtain rfl := Option.some.inj h
    obtain ⟨rfl, rfl⟩ := hx0 v rfl
    exact QTri.retI rfl rfl
   ·refine zT Ad W (t := 27) (f := 25) rfl (XT.i0_ne_t hc188) ?_
    refine zS Ad W 2 (st' := (2, [vR 1, vI (v + (1:Int32))], [], (H0 s o))) rfl ?_
    obtain rfl := Option.some.inj h
    exact zM [tt,tt] (hc (v + (1:Int32)) rfl)
  ·refine zT Ad W (t := 33) (f := 16) rfl (XT.ii_ge_t hc186) ?_
   refine zS Ad W 1 (st' := (34, [vR 1, vI v], [.int (-1:Int32)], (H0 s o))) rfl ?_
   obtain rfl := Option.some.inj h
   obtain ⟨rfl, rfl⟩ := hx0 (-1:Int32) rfl
   exact QTri.retI rfl rfl
 ·refine zT Ad W (t := 33) (f := 10) rfl (XT.ii_ge_t hc185) ?_
  refine zS Ad W 1 (st' := (34, [vR 1, vI v], [.int (-1:Int32)], (H0 s o))) rfl ?_
  obtain rfl := Option.some.inj h
  obtain ⟨rfl, rfl⟩ := hx0 (-1:Int32) rfl
  exact QTri.retI rfl rfl
/-- findFreeSlot()I -/
def F12 (o : Ob) : Option (Int32) :=
 (loopN (B12_2 o) qN (0:Int32)).bind fun e189 => some e189
theorem tF12 (Ad : QAd n0 ad) (W : QW Z a0) (s : List Int32) (o : Ob) {r : Int32} (h : F12 o = some r) : QTri l Z n0 ad 12 (0, qentry [.ref 1] (pMaxL 12), [], (H0 s o)) (some (Value.int r)) (H0 s o) := by
 unfold F12 at h
 refine zS Ad W 2 (st' := (2, [vR 1, vI (0:Int32)], [], (H0 s o))) rfl ?_
 obtain ⟨e189, he189, h⟩ := bind_eq_some_iff.mp h
 refine zM [tt,tt] (loopN_tri (B := B12_2 o) (T := fun lv190 => QTri l Z n0 ad 12 (2, [vR 1, vI lv190], [], (H0 s o)) (some (Value.int r)) (H0 s o)) (KE := fun e189a => (some (Value.int r)) = (some (Value.int e189a)) ∧ (H0 s o) = (H0 s o)) (fun lv190 r hB hE hC => tB12_2 Ad W s o lv190 hB (fun x q => hE _ q) (fun x q => hC x q)) qN (0:Int32) e189 he189 ?_)
 obtain rfl := Option.some.inj h
 exact ⟨rfl, rfl⟩
/-- openSlot(I)V -/
def F13 (o : Ob) (x1 : Int32) : Option (Ob) :=
 (F14 o x1).bind fun r193 => (aset (f_active r193) x1 (1:Int32)).bind fun y194 => (aset (f_start r193) x1 (f_commitCount r193)).bind fun y195 => some (s_start (s_active r193 y194) y195)
theorem tF13 (Ad : QAd n0 ad) (W : QW Z a0) (s : List Int32) (o : Ob) (x1 : Int32) {r : Ob} (h : F13 o x1 = some r) : QTri l Z n0 ad 13 (0, qentry [.ref 1, .int x1] (pMaxL 13), [], (H0 s o)) (none : Option Value) (H0 s r) := by
 unfold F13 at h
 refine zS Ad W 2 (st' := (2, [vR 1, vI x1], [.int x1, .ref 1], (H0 s o))) rfl ?_
 obtain ⟨r193, hr193, h⟩ := bind_eq_some_iff.mp h
 refine QTri.callP W (a := 1) (as := [.int x1]) (rest := []) (w := none) (σ₁ := (H0 s r193)) rfl rfl rfl rfl rfl rfl rfl rfl (tF14 Ad W s o x1 hr193) ?_
 refine zS Ad W 4 (st' := (11, [vR 1, vI x1], [.int (1:Int32), .int x1, .ref 4], (H0 s r193))) rfl ?_
 obtain ⟨y194, hy194, h⟩ := bind_eq_some_iff.mp h
 refine zB Ad W (f := fun y194 => (12, [vR 1, vI x1], [], (H0x13 s r193 y194))) rfl hy194 ?_
 refine zS Ad W 5 (st' := (21, [vR 1, vI x1], [.int (f_commitCount r193), .int x1, .ref 5], (H0x13 s r193 y194))) rfl ?_
 obtain ⟨y195, hy195, h⟩ := bind_eq_some_iff.mp h
 refine zB Ad W (f := fun y195 => (22, [vR 1, vI x1], [], (H0x14 s r193 y194 y195))) rfl hy195 ?_
 have E196 : ((H0x14 s r193 y194 y195) : QHeap) = (H0 s (s_start (s_active r193 y194) y195)) := by simp only [fs, H0, H0v, H0x14, s_active, s_start]
 rw [E196]
 obtain rfl := Option.some.inj h
 exact QTri.ret0 rfl rfl
/-- begin()I -/
def F11 (o : Ob) : Option (Int32 × Ob) :=
 (F12 o).bind fun r191 => (if r191 < (0:Int32) then some ((-5:Int32), o) else (F13 o r191).bind fun r197 => some (r191, r197))
theorem tF11 (Ad : QAd n0 ad) (W : QW Z a0) (s : List Int32) (o : Ob) {r : Int32 × Ob} (h : F11 o = some r) : QTri l Z n0 ad 11 (0, qentry [.ref 1] (pMaxL 11), [], (H0 s o)) (some (Value.int r.1)) (H0 s r.2) := by
 unfold F11 at h
 refine zS Ad W 1 (st' := (1, [vR 1, none], [.ref 1], (H0 s o))) rfl ?_
 obtain ⟨r191, hr191, h⟩ := bind_eq_some_iff.mp h
 refine QTri.callP W (a := 1) (as := []) (rest := []) (w := (some (.int r191))) (σ₁ := (H0 s o)) rfl rfl rfl rfl rfl rfl rfl rfl (tF12 Ad W s o hr191) ?_
 refine zS Ad W 2 (st' := (6, [vR 1, vI r191], [.int r191], (H0 s o))) rfl ?_
 rcases qite h with ⟨hc192, h⟩ | ⟨hc192, h⟩
 ·refine zF Ad W (t := 12) (f := 9) rfl (XT.i0_ge_f hc192) ?_
  refine zS Ad W 1 (st' := (11, [vR 1, vI r191], [.int (-5:Int32)], (H0 s o))) rfl ?_
  obtain rfl := Option.some.inj h
  exact QTri.retI rfl rfl
 ·refine zT Ad W (t := 12) (f := 9) rfl (XT.i0_ge_t hc192) ?_
  refine zS Ad W 2 (st' := (14, [vR 1, vI r191], [.int r191, .ref 1], (H0 s o))) rfl ?_
  obtain ⟨r197, hr197, h⟩ := bind_eq_some_iff.mp h
  refine QTri.callP W (a := 1) (as := [.int r191]) (rest := []) (w := none) (σ₁ := (H0 s r197)) rfl rfl rfl rfl rfl rfl rfl rfl (tF13 Ad W s o r191 hr197) ?_
  refine zS Ad W 1 (st' := (18, [vR 1, vI r191], [.int r191], (H0 s r197))) rfl ?_
  obtain rfl := Option.some.inj h
  exact QTri.retI rfl rfl
def B0_71 (s : List Int32) (x21 : Int32) (v : Int64 × Int64 × Int32 × Int32 × Int32 × Int32 × Int32 × Int32 × Int32 × Int64 × Int64 × Int64 × Int64 × Int32 × Ob) : Option (((Int32 × QHeap)) ⊕ (Int64 × Int64 × Int32 × Int32 × Int32 × Int32 × Int32 × Int32 × Int32 × Int64 × Int64 × Int64 × Int64 × Int32 × Ob)) :=
  (if v.2.2.2.2.2.2.2.2.2.2.2.2.2.1 < x21 then (F3 s v.2.2.2.2.2.2.2.2.2.2.2.2.2.1).bind fun r14 => (if (1 : Int32) < (r14 &&& (7 : Int32)) then (F4 v.2.2.2.2.2.2.2.2.2.2.2.2.2.2 ((XT.ushr r14 (3 : Int32)) &&& (1 : Int32))).bind fun r21 => (if r21 = (0 : Int32) then (J0_625 s v.2.2.2.2.2.2.2.2.2.2.2.2.2.2 v.1 v.2.1 v.2.2.1 v.2.2.2.1 v.2.2.2.2.1 v.2.2.2.2.2.1 v.2.2.2.2.2.2.1 v.2.2.2.2.2.2.2.1 v.2.2.2.2.2.2.2.2.1 v.2.2.2.2.2.2.2.2.2.1 v.2.2.2.2.2.2.2.2.2.2.1 v.2.2.2.2.2.2.2.2.2.2.2.1 v.2.2.2.2.2.2.2.2.2.2.2.2.1 x21 v.2.2.2.2.2.2.2.2.2.2.2.2.2.1) else (if (r14 &&& (7 : Int32)) = (2 : Int32) then (F19 v.2.2.2.2.2.2.2.2.2.2.2.2.2.2 ((XT.ushr r14 (3 : Int32)) &&& (1 : Int32)) ((XT.ushr r14 (4 : Int32)) &&& (7 : Int32))).bind fun r70 => (if ((XT.ushr (if ((XT.ushr r14 (3 : Int32)) &&& (1 : Int32)) = (0 : Int32) then v.2.2.2.1 else v.2.2.2.2.1) ((XT.ushr r14 (4 : Int32)) &&& (7 : Int32))) &&& (1 : Int32)) = (0 : Int32) then (if r70.1 < (0 : Int32) then (J0_314 s r70.2 v.1 v.2.1 v.2.2.1 v.2.2.2.1 v.2.2.2.2.1 v.2.2.2.2.2.1 v.2.2.2.2.2.2.1 v.2.2.2.2.2.2.2.1 v.2.2.2.2.2.2.2.2.1 v.2.2.2.2.2.2.2.2.2.1 v.2.2.2.2.2.2.2.2.2.2.1 v.2.2.2.2.2.2.2.2.2.2.2.1 v.2.2.2.2.2.2.2.2.2.2.2.2.1 x21 v.2.2.2.2.2.2.2.2.2.2.2.2.2.1 ((XT.ushr r14 (3 : Int32)) &&& (1 : Int32)) (if ((XT.ushr r14 (3 : Int32)) &&& (1 : Int32)) = (0 : Int32) then v.2.2.2.1 else v.2.2.2.2.1) (if ((XT.ushr r14 (3 : Int32)) &&& (1 : Int32)) = (0 : Int32) then v.2.2.2.2.2.1 else v.2.2.2.2.2.2.1) (if ((XT.ushr r14 (3 : Int32)) &&& (1 : Int32)) = (0 : Int32) then v.2.2.2.2.2.2.2.2.2.1 else v.2.2.2.2.2.2.2.2.2.2.1) (if ((XT.ushr r14 (3 : Int32)) &&& (1 : Int32)) = (0 : Int32) then v.2.2.2.2.2.2.2.2.2.2.2.1 else v.2.2.2.2.2.2.2.2.2.2.2.2.1)) else (if (15 : Int32) < r70.1 then (J0_314 s r70.2 v.1 v.2.1 v.2.2.1 v.2.2.2.1 v.2.2.2.2.1 v.2.2.2.2.2.1 v.2.2.2.2.2.2.1 v.2.2.2.2.2.2.2.1 v.2.2.2.2.2.2.2.2.1 v.2.2.2.2.2.2.2.2.2.1 v.2.2.2.2.2.2.2.2.2.2.1 v.2.2.2.2.2.2.2.2.2.2.2.1 v.2.2.2.2.2.2.2.2.2.2.2.2.1 x21 v.2.2.2.2.2.2.2.2.2.2.2.2.2.1 ((XT.ushr r14 (3 : Int32)) &&& (1 : Int32)) (if ((XT.ushr r14 (3 : Int32)) &&& (1 : Int32)) = (0 : Int32) then v.2.2.2.1 else v.2.2.2.2.1) (if ((XT.ushr r14 (3 : Int32)) &&& (1 : Int32)) = (0 : Int32) then v.2.2.2.2.2.1 else v.2.2.2.2.2.2.1) (if ((XT.ushr r14 (3 : Int32)) &&& (1 : Int32)) = (0 : Int32) then v.2.2.2.2.2.2.2.2.2.1 else v.2.2.2.2.2.2.2.2.2.2.1) (if ((XT.ushr r14 (3 : Int32)) &&& (1 : Int32)) = (0 : Int32) then v.2.2.2.2.2.2.2.2.2.2.2.1 else v.2.2.2.2.2.2.2.2.2.2.2.2.1)) else (if ((XT.ushr (if ((XT.ushr r14 (3 : Int32)) &&& (1 : Int32)) = (0 : Int32) then v.2.2.2.2.2.1 else v.2.2.2.2.2.2.1) ((XT.ushr r14 (4 : Int32)) &&& (7 : Int32))) &&& (1 : Int32)) = (0 : Int32) then (F18 (if ((XT.ushr r14 (3 : Int32)) &&& (1 : Int32)) = (0 : Int32) then v.2.2.2.2.2.2.2.2.2.2.2.1 else v.2.2.2.2.2.2.2.2.2.2.2.2.1) ((XT.ushr r14 (4 : Int32)) &&& (7 : Int32)) r70.1).bind fun r87 => (J0_368 s r70.2 v.1 v.2.1 v.2.2.1 v.2.2.2.1 v.2.2.2.2.1 v.2.2.2.2.2.1 v.2.2.2.2.2.2.1 v.2.2.2.2.2.2.2.1 v.2.2.2.2.2.2.2.2.1 v.2.2.2.2.2.2.2.2.2.1 v.2.2.2.2.2.2.2.2.2.2.1 v.2.2.2.2.2.2.2.2.2.2.2.1 v.2.2.2.2.2.2.2.2.2.2.2.2.1 x21 v.2.2.2.2.2.2.2.2.2.2.2.2.2.1 ((XT.ushr r14 (3 : Int32)) &&& (1 : Int32)) (if ((XT.ushr r14 (3 : Int32)) &&& (1 : Int32)) = (0 : Int32) then v.2.2.2.1 else v.2.2.2.2.1) ((if ((XT.ushr r14 (3 : Int32)) &&& (1 : Int32)) = (0 : Int32) then v.2.2.2.2.2.1 else v.2.2.2.2.2.2.1) ||| ((1 : Int32) <<< (((XT.ushr r14 (4 : Int32)) &&& (7 : Int32)) &&& 31))) (if ((XT.ushr r14 (3 : Int32)) &&& (1 : Int32)) = (0 : Int32) then v.2.2.2.2.2.2.2.1 else v.2.2.2.2.2.2.2.2.1) (if ((XT.ushr r14 (3 : Int32)) &&& (1 : Int32)) = (0 : Int32) then v.2.2.2.2.2.2.2.2.2.1 else v.2.2.2.2.2.2.2.2.2.2.1) r87) else (F8 (if ((XT.ushr r14 (3 : Int32)) &&& (1 : Int32)) = (0 : Int32) then v.2.2.2.2.2.2.2.2.2.2.2.1 else v.2.2.2.2.2.2.2.2.2.2.2.2.1) ((XT.ushr r14 (4 : Int32)) &&& (7 : Int32))).bind fun r88 => (J0_368 s r70.2 v.1 v.2.1 v.2.2.1 v.2.2.2.1 v.2.2.2.2.1 v.2.2.2.2.2.1 v.2.2.2.2.2.2.1 v.2.2.2.2.2.2.2.1 v.2.2.2.2.2.2.2.2.1 v.2.2.2.2.2.2.2.2.2.1 v.2.2.2.2.2.2.2.2.2.2.1 v.2.2.2.2.2.2.2.2.2.2.2.1 v.2.2.2.2.2.2.2.2.2.2.2.2.1 x21 v.2.2.2.2.2.2.2.2.2.2.2.2.2.1 ((XT.ushr r14 (3 : Int32)) &&& (1 : Int32)) (if ((XT.ushr r14 (3 : Int32)) &&& (1 : Int32)) = (0 : Int32) then v.2.2.2.1 else v.2.2.2.2.1) (if ((XT.ushr r14 (3 : Int32)) &&& (1 : Int32)) = (0 : Int32) then v.2.2.2.2.2.1 else v.2.2.2.2.2.2.1) (if r88 = r70.1 then (if ((XT.ushr r14 (3 : Int32)) &&& (1 : Int32)) = (0 : Int32) then v.2.2.2.2.2.2.2.1 else v.2.2.2.2.2.2.2.2.1) else (1 : Int32)) (if ((XT.ushr r14 (3 : Int32)) &&& (1 : Int32)) = (0 : Int32) then v.2.2.2.2.2.2.2.2.2.1 else v.2.2.2.2.2.2.2.2.2.2.1) (if ((XT.ushr r14 (3 : Int32)) &&& (1 : Int32)) = (0 : Int32) then v.2.2.2.2.2.2.2.2.2.2.2.1 else v.2.2.2.2.2.2.2.2.2.2.2.2.1))))) else (F8 (if ((XT.ushr r14 (3 : Int32)) &&& (1 : Int32)) = (0 : Int32) then v.2.2.2.2.2.2.2.2.2.1 else v.2.2.2.2.2.2.2.2.2.2.1) ((XT.ushr r14 (4 : Int32)) &&& (7 : Int32))).bind fun r92 => (J0_368 s r70.2 v.1 v.2.1 v.2.2.1 v.2.2.2.1 v.2.2.2.2.1 v.2.2.2.2.2.1 v.2.2.2.2.2.2.1 v.2.2.2.2.2.2.2.1 v.2.2.2.2.2.2.2.2.1 v.2.2.2.2.2.2.2.2.2.1 v.2.2.2.2.2.2.2.2.2.2.1 v.2.2.2.2.2.2.2.2.2.2.2.1 v.2.2.2.2.2.2.2.2.2.2.2.2.1 x21 v.2.2.2.2.2.2.2.2.2.2.2.2.2.1 ((XT.ushr r14 (3 : Int32)) &&& (1 : Int32)) (if ((XT.ushr r14 (3 : Int32)) &&& (1 : Int32)) = (0 : Int32) then v.2.2.2.1 else v.2.2.2.2.1) (if ((XT.ushr r14 (3 : Int32)) &&& (1 : Int32)) = (0 : Int32) then v.2.2.2.2.2.1 else v.2.2.2.2.2.2.1) (if r70.1 = r92 then (if ((XT.ushr r14 (3 : Int32)) &&& (1 : Int32)) = (0 : Int32) then v.2.2.2.2.2.2.2.1 else v.2.2.2.2.2.2.2.2.1) else (1 : Int32)) (if ((XT.ushr r14 (3 : Int32)) &&& (1 : Int32)) = (0 : Int32) then v.2.2.2.2.2.2.2.2.2.1 else v.2.2.2.2.2.2.2.2.2.2.1) (if ((XT.ushr r14 (3 : Int32)) &&& (1 : Int32)) = (0 : Int32) then v.2.2.2.2.2.2.2.2.2.2.2.1 else v.2.2.2.2.2.2.2.2.2.2.2.2.1))) else (if (r14 &&& (7 : Int32)) = (3 : Int32) then (J0_383 s v.2.2.2.2.2.2.2.2.2.2.2.2.2.2 v.1 v.2.1 v.2.2.1 v.2.2.2.1 v.2.2.2.2.1 v.2.2.2.2.2.1 v.2.2.2.2.2.2.1 v.2.2.2.2.2.2.2.1 v.2.2.2.2.2.2.2.2.1 v.2.2.2.2.2.2.2.2.2.1 v.2.2.2.2.2.2.2.2.2.2.1 v.2.2.2.2.2.2.2.2.2.2.2.1 v.2.2.2.2.2.2.2.2.2.2.2.2.1 x21 v.2.2.2.2.2.2.2.2.2.2.2.2.2.1 ((XT.ushr r14 (3 : Int32)) &&& (1 : Int32)) ((XT.ushr r14 (4 : Int32)) &&& (7 : Int32)) ((XT.ushr r14 (7 : Int32)) &&& (15 : Int32)) (if ((XT.ushr r14 (3 : Int32)) &&& (1 : Int32)) = (0 : Int32) then v.2.2.2.1 else v.2.2.2.2.1) (if ((XT.ushr r14 (3 : Int32)) &&& (1 : Int32)) = (0 : Int32) then v.2.2.2.2.2.1 else v.2.2.2.2.2.2.1) (if ((XT.ushr r14 (3 : Int32)) &&& (1 : Int32)) = (0 : Int32) then v.2.2.2.2.2.2.2.1 else v.2.2.2.2.2.2.2.2.1) (if ((XT.ushr r14 (3 : Int32)) &&& (1 : Int32)) = (0 : Int32) then v.2.2.2.2.2.2.2.2.2.1 else v.2.2.2.2.2.2.2.2.2.2.1) (if ((XT.ushr r14 (3 : Int32)) &&& (1 : Int32)) = (0 : Int32) then v.2.2.2.2.2.2.2.2.2.2.2.1 else v.2.2.2.2.2.2.2.2.2.2.2.2.1)) else (if (r14 &&& (7 : Int32)) = (4 : Int32) then (J0_383 s v.2.2.2.2.2.2.2.2.2.2.2.2.2.2 v.1 v.2.1 v.2.2.1 v.2.2.2.1 v.2.2.2.2.1 v.2.2.2.2.2.1 v.2.2.2.2.2.2.1 v.2.2.2.2.2.2.2.1 v.2.2.2.2.2.2.2.2.1 v.2.2.2.2.2.2.2.2.2.1 v.2.2.2.2.2.2.2.2.2.2.1 v.2.2.2.2.2.2.2.2.2.2.2.1 v.2.2.2.2.2.2.2.2.2.2.2.2.1 x21 v.2.2.2.2.2.2.2.2.2.2.2.2.2.1 ((XT.ushr r14 (3 : Int32)) &&& (1 : Int32)) ((XT.ushr r14 (4 : Int32)) &&& (7 : Int32)) ((XT.ushr r14 (7 : Int32)) &&& (15 : Int32)) (if ((XT.ushr r14 (3 : Int32)) &&& (1 : Int32)) = (0 : Int32) then v.2.2.2.1 else v.2.2.2.2.1) (if ((XT.ushr r14 (3 : Int32)) &&& (1 : Int32)) = (0 : Int32) then v.2.2.2.2.2.1 else v.2.2.2.2.2.2.1) (if ((XT.ushr r14 (3 : Int32)) &&& (1 : Int32)) = (0 : Int32) then v.2.2.2.2.2.2.2.1 else v.2.2.2.2.2.2.2.2.1) (if ((XT.ushr r14 (3 : Int32)) &&& (1 : Int32)) = (0 : Int32) then v.2.2.2.2.2.2.2.2.2.1 else v.2.2.2.2.2.2.2.2.2.2.1) (if ((XT.ushr r14 (3 : Int32)) &&& (1 : Int32)) = (0 : Int32) then v.2.2.2.2.2.2.2.2.2.2.2.1 else v.2.2.2.2.2.2.2.2.2.2.2.2.1)) else (if (r14 &&& (7 : Int32)) = (5 : Int32) then (J0_436 s v.2.2.2.2.2.2.2.2.2.2.2.2.2.2 v.1 v.2.1 v.2.2.1 v.2.2.2.1 v.2.2.2.2.1 v.2.2.2.2.2.1 v.2.2.2.2.2.2.1 v.2.2.2.2.2.2.2.1 v.2.2.2.2.2.2.2.2.1 v.2.2.2.2.2.2.2.2.2.1 v.2.2.2.2.2.2.2.2.2.2.1 v.2.2.2.2.2.2.2.2.2.2.2.1 v.2.2.2.2.2.2.2.2.2.2.2.2.1 x21 v.2.2.2.2.2.2.2.2.2.2.2.2.2.1 ((XT.ushr r14 (3 : Int32)) &&& (1 : Int32)) (if ((XT.ushr r14 (3 : Int32)) &&& (1 : Int32)) = (0 : Int32) then v.2.2.2.1 else v.2.2.2.2.1) (if ((XT.ushr r14 (3 : Int32)) &&& (1 : Int32)) = (0 : Int32) then v.2.2.2.2.2.1 else v.2.2.2.2.2.2.1) (if ((XT.ushr r14 (3 : Int32)) &&& (1 : Int32)) = (0 : Int32) then v.2.2.2.2.2.2.2.1 else v.2.2.2.2.2.2.2.2.1) (if ((XT.ushr r14 (3 : Int32)) &&& (1 : Int32)) = (0 : Int32) then v.2.2.2.2.2.2.2.2.2.1 else v.2.2.2.2.2.2.2.2.2.2.1) (if ((XT.ushr r14 (3 : Int32)) &&& (1 : Int32)) = (0 : Int32) then v.2.2.2.2.2.2.2.2.2.2.2.1 else v.2.2.2.2.2.2.2.2.2.2.2.2.1)) else (if (r14 &&& (7 : Int32)) = (6 : Int32) then (J0_436 s v.2.2.2.2.2.2.2.2.2.2.2.2.2.2 v.1 v.2.1 v.2.2.1 v.2.2.2.1 v.2.2.2.2.1 v.2.2.2.2.2.1 v.2.2.2.2.2.2.1 v.2.2.2.2.2.2.2.1 v.2.2.2.2.2.2.2.2.1 v.2.2.2.2.2.2.2.2.2.1 v.2.2.2.2.2.2.2.2.2.2.1 v.2.2.2.2.2.2.2.2.2.2.2.1 v.2.2.2.2.2.2.2.2.2.2.2.2.1 x21 v.2.2.2.2.2.2.2.2.2.2.2.2.2.1 ((XT.ushr r14 (3 : Int32)) &&& (1 : Int32)) (if ((XT.ushr r14 (3 : Int32)) &&& (1 : Int32)) = (0 : Int32) then v.2.2.2.1 else v.2.2.2.2.1) (if ((XT.ushr r14 (3 : Int32)) &&& (1 : Int32)) = (0 : Int32) then v.2.2.2.2.2.1 else v.2.2.2.2.2.2.1) (if ((XT.ushr r14 (3 : Int32)) &&& (1 : Int32)) = (0 : Int32) then v.2.2.2.2.2.2.2.1 else v.2.2.2.2.2.2.2.2.1) (if ((XT.ushr r14 (3 : Int32)) &&& (1 : Int32)) = (0 : Int32) then v.2.2.2.2.2.2.2.2.2.1 else v.2.2.2.2.2.2.2.2.2.2.1) (if ((XT.ushr r14 (3 : Int32)) &&& (1 : Int32)) = (0 : Int32) then v.2.2.2.2.2.2.2.2.2.2.2.1 else v.2.2.2.2.2.2.2.2.2.2.2.2.1)) else (F20 v.2.2.2.2.2.2.2.2.2.2.2.2.2.2 ((XT.ushr r14 (3 : Int32)) &&& (1 : Int32))).bind fun r184 => (J0_577 s r184.2 v.1 v.2.1 v.2.2.1 v.2.2.2.1 v.2.2.2.2.1 v.2.2.2.2.2.1 v.2.2.2.2.2.2.1 v.2.2.2.2.2.2.2.1 v.2.2.2.2.2.2.2.2.1 v.2.2.2.2.2.2.2.2.2.1 v.2.2.2.2.2.2.2.2.2.2.1 v.2.2.2.2.2.2.2.2.2.2.2.1 v.2.2.2.2.2.2.2.2.2.2.2.2.1 x21 v.2.2.2.2.2.2.2.2.2.2.2.2.2.1 ((XT.ushr r14 (3 : Int32)) &&& (1 : Int32)) (if ((XT.ushr r14 (3 : Int32)) &&& (1 : Int32)) = (0 : Int32) then v.2.2.2.1 else v.2.2.2.2.1) (if ((XT.ushr r14 (3 : Int32)) &&& (1 : Int32)) = (0 : Int32) then v.2.2.2.2.2.1 else v.2.2.2.2.2.2.1) (if ((XT.ushr r14 (3 : Int32)) &&& (1 : Int32)) = (0 : Int32) then v.2.2.2.2.2.2.2.1 else v.2.2.2.2.2.2.2.2.1) (if ((XT.ushr r14 (3 : Int32)) &&& (1 : Int32)) = (0 : Int32) then v.2.2.2.2.2.2.2.2.2.1 else v.2.2.2.2.2.2.2.2.2.2.1) (if ((XT.ushr r14 (3 : Int32)) &&& (1 : Int32)) = (0 : Int32) then v.2.2.2.2.2.2.2.2.2.2.2.1 else v.2.2.2.2.2.2.2.2.2.2.2.2.1)))))))) else (F11 v.2.2.2.2.2.2.2.2.2.2.2.2.2.2).bind fun r198 => (J0_625 s r198.2 v.1 v.2.1 v.2.2.1 (if r198.1 = (0 : Int32) then (0 : Int32) else v.2.2.2.1) (if r198.1 = (0 : Int32) then v.2.2.2.2.1 else (if r198.1 = (1 : Int32) then (0 : Int32) else v.2.2.2.2.1)) (if r198.1 = (0 : Int32) then (0 : Int32) else v.2.2.2.2.2.1) (if r198.1 = (0 : Int32) then v.2.2.2.2.2.2.1 else (if r198.1 = (1 : Int32) then (0 : Int32) else v.2.2.2.2.2.2.1)) (if r198.1 = (0 : Int32) then (0 : Int32) else v.2.2.2.2.2.2.2.1) (if r198.1 = (0 : Int32) then v.2.2.2.2.2.2.2.2.1 else (if r198.1 = (1 : Int32) then (0 : Int32) else v.2.2.2.2.2.2.2.2.1)) (if r198.1 = (0 : Int32) then (0 : Int64) else v.2.2.2.2.2.2.2.2.2.1) (if r198.1 = (0 : Int32) then v.2.2.2.2.2.2.2.2.2.2.1 else (if r198.1 = (1 : Int32) then (0 : Int64) else v.2.2.2.2.2.2.2.2.2.2.1)) (if r198.1 = (0 : Int32) then (0 : Int64) else v.2.2.2.2.2.2.2.2.2.2.2.1) (if r198.1 = (0 : Int32) then v.2.2.2.2.2.2.2.2.2.2.2.2.1 else (if r198.1 = (1 : Int32) then (0 : Int64) else v.2.2.2.2.2.2.2.2.2.2.2.2.1)) x21 v.2.2.2.2.2.2.2.2.2.2.2.2.2.1)) else some (.inl ((1 : Int32), (H0 s v.2.2.2.2.2.2.2.2.2.2.2.2.2.2))))
theorem tB0_71 (Ad : QAd n0 ad) (W : QW Z a0) (s : List Int32) (x21 : Int32) (v : Int64 × Int64 × Int32 × Int32 × Int32 × Int32 × Int32 × Int32 × Int32 × Int64 × Int64 × Int64 × Int64 × Int32 × Ob) {r : ((Int32 × QHeap)) ⊕ (Int64 × Int64 × Int32 × Int32 × Int32 × Int32 × Int32 × Int32 × Int32 × Int64 × Int64 × Int64 × Int64 × Int32 × Ob)} {u : Option Value} {τ : QHeap} (h : B0_71 s x21 v = some r) (hx0 : ∀ x : Int32 × QHeap, r = .inl x → u = (some (Value.int x.1)) ∧ τ = x.2) (hc : ∀ x : Int64 × Int64 × Int32 × Int32 × Int32 × Int32 × Int32 × Int32 × Int32 × Int64 × Int64 × Int64 × Int64 × Int32 × Ob, r = .inr x → QTri l Z n0 ad 0 (71, [vR 0, vR 1, vL x.1, none, vL x.2.1, none, vI x.2.2.1, vI x.2.2.2.1, vI x.2.2.2.2.1, vI x.2.2.2.2.2.1, vI x.2.2.2.2.2.2.1, vI x.2.2.2.2.2.2.2.1, vI x.2.2.2.2.2.2.2.2.1, vL x.2.2.2.2.2.2.2.2.2.1, none, vL x.2.2.2.2.2.2.2.2.2.2.1, none, vL x.2.2.2.2.2.2.2.2.2.2.2.1, none, vL x.2.2.2.2.2.2.2.2.2.2.2.2.1, none, vI x21, vI x.2.2.2.2.2.2.2.2.2.2.2.2.2.1, none, none, none, none, none, none, none, none, none, none, none, none, none, none], [], (H0 s x.2.2.2.2.2.2.2.2.2.2.2.2.2.2)) u τ) : QTri l Z n0 ad 0 (71, [vR 0, vR 1, vL v.1, none, vL v.2.1, none, vI v.2.2.1, vI v.2.2.2.1, vI v.2.2.2.2.1, vI v.2.2.2.2.2.1, vI v.2.2.2.2.2.2.1, vI v.2.2.2.2.2.2.2.1, vI v.2.2.2.2.2.2.2.2.1, vL v.2.2.2.2.2.2.2.2.2.1, none, vL v.2.2.2.2.2.2.2.2.2.2.1, none, vL v.2.2.2.2.2.2.2.2.2.2.2.1, none, vL v.2.2.2.2.2.2.2.2.2.2.2.2.1, none, vI x21, vI v.2.2.2.2.2.2.2.2.2.2.2.2.2.1, none, none, none, none, none, none, none, none, none, none, none, none, none, none], [], (H0 s v.2.2.2.2.2.2.2.2.2.2.2.2.2.2)) u τ := by
 unfold B0_71 at h
 refine zS Ad W 2 (st' := (75, [vR 0, vR 1, vL v.1, none, vL v.2.1, none, vI v.2.2.1, vI v.2.2.2.1, vI v.2.2.2.2.1, vI v.2.2.2.2.2.1, vI v.2.2.2.2.2.2.1, vI v.2.2.2.2.2.2.2.1, vI v.2.2.2.2.2.2.2.2.1, vL v.2.2.2.2.2.2.2.2.2.1, none, vL v.2.2.2.2.2.2.2.2.2.2.1, none, vL v.2.2.2.2.2.2.2.2.2.2.2.1, none, vL v.2.2.2.2.2.2.2.2.2.2.2.2.1, none, vI x21, vI v.2.2.2.2.2.2.2.2.2.2.2.2.2.1, none, none, none, none, none, none, none, none, none, none, none, none, none, none], [.int x21, .int v.2.2.2.2.2.2.2.2.2.2.2.2.2.1], (H0 s v.2.2.2.2.2.2.2.2.2.2.2.2.2.2))) rfl ?_
 rcases qite h with ⟨hc11, h⟩ | ⟨hc11, h⟩
 ·refine zF Ad W (t := 682) (f := 78) rfl (XT.ii_ge_f hc11) ?_
  refine zS Ad W 2 (st' := (81, [vR 0, vR 1, vL v.1, none, vL v.2.1, none, vI v.2.2.1, vI v.2.2.2.1, vI v.2.2.2.2.1, vI v.2.2.2.2.2.1, vI v.2.2.2.2.2.2.1, vI v.2.2.2.2.2.2.2.1, vI v.2.2.2.2.2.2.2.2.1, vL v.2.2.2.2.2.2.2.2.2.1, none, vL v.2.2.2.2.2.2.2.2.2.2.1, none, vL v.2.2.2.2.2.2.2.2.2.2.2.1, none, vL v.2.2.2.2.2.2.2.2.2.2.2.2.1, none, vI x21, vI v.2.2.2.2.2.2.2.2.2.2.2.2.2.1, none, none, none, none, none, none, none, none, none, none, none, none, none, none], [.int v.2.2.2.2.2.2.2.2.2.2.2.2.2.1, .ref 0], (H0 s v.2.2.2.2.2.2.2.2.2.2.2.2.2.2))) rfl ?_
  obtain ⟨r14, hr14, h⟩ := bind_eq_some_iff.mp h
  refine QTri.callS W (as := [.ref 0, .int v.2.2.2.2.2.2.2.2.2.2.2.2.2.1]) (rest := []) (w := (some (.int r14))) (σ₁ := (H0 s v.2.2.2.2.2.2.2.2.2.2.2.2.2.2)) rfl rfl rfl rfl rfl rfl rfl (tF3 Ad W v.2.2.2.2.2.2.2.2.2.2.2.2.2.2 s v.2.2.2.2.2.2.2.2.2.2.2.2.2.1 hr14) ?_
  refine zS Ad W 5 (st' := (93, [vR 0, vR 1, vL v.1, none, vL v.2.1, none, vI v.2.2.1, vI v.2.2.2.1, vI v.2.2.2.2.1, vI v.2.2.2.2.2.1, vI v.2.2.2.2.2.2.1, vI v.2.2.2.2.2.2.2.1, vI v.2.2.2.2.2.2.2.2.1, vL v.2.2.2.2.2.2.2.2.2.1, none, vL v.2.2.2.2.2.2.2.2.2.2.1, none, vL v.2.2.2.2.2.2.2.2.2.2.2.1, none, vL v.2.2.2.2.2.2.2.2.2.2.2.2.1, none, vI x21, vI v.2.2.2.2.2.2.2.2.2.2.2.2.2.1, vI r14, vI (r14 &&& (7:Int32)), none, none, none, none, none, none, none, none, none, none, none, none], [], (H0 s v.2.2.2.2.2.2.2.2.2.2.2.2.2.2))) rfl ?_
  refine zS Ad W 12 (st' := (110, [vR 0, vR 1, vL v.1, none, vL v.2.1, none, vI v.2.2.1, vI v.2.2.2.1, vI v.2.2.2.2.1, vI v.2.2.2.2.2.1, vI v.2.2.2.2.2.2.1, vI v.2.2.2.2.2.2.2.1, vI v.2.2.2.2.2.2.2.2.1, vL v.2.2.2.2.2.2.2.2.2.1, none, vL v.2.2.2.2.2.2.2.2.2.2.1, none, vL v.2.2.2.2.2.2.2.2.2.2.2.1, none, vL v.2.2.2.2.2.2.2.2.2.2.2.2.1, none, vI x21, vI v.2.2.2.2.2.2.2.2.2.2.2.2.2.1, vI r14, vI (r14 &&& (7:Int32)), vI ((XT.ushr r14 (3:Int32)) &&& (1:Int32)), vI ((XT.ushr r14 (4:Int32)) &&& (7:Int32)), none, none, none, none, none, none, none, none, none, none], [], (H0 s v.2.2.2.2.2.2.2.2.2.2.2.2.2.2))) rfl ?_
  refine zS Ad W 8 (st' := (123, [vR 0, vR 1, vL v.1, none, vL v.2.1, none, vI v.2.2.1, vI v.2.2.2.1, vI v.2.2.2.2.1, vI v.2.2.2.2.2.1, vI v.2.2.2.2.2.2.1, vI v.2.2.2.2.2.2.2.1, vI v.2.2.2.2.2.2.2.2.1, vL v.2.2.2.2.2.2.2.2.2.1, none, vL v.2.2.2.2.2.2.2.2.2.2.1, none, vL v.2.2.2.2.2.2.2.2.2.2.2.1, none, vL v.2.2.2.2.2.2.2.2.2.2.2.2.1, none, vI x21, vI v.2.2.2.2.2.2.2.2.2.2.2.2.2.1, vI r14, vI (r14 &&& (7:Int32)), vI ((XT.ushr r14 (3:Int32)) &&& (1:Int32)), vI ((XT.ushr r14 (4:Int32)) &&& (7:Int32)), vI ((XT.ushr r14 (7:Int32)) &&& (15:Int32)), none, none, none, none, none, none, none, none, none], [.int (1:Int32), .int (r14 &&& (7:Int32))], (H0 s v.2.2.2.2.2.2.2.2.2.2.2.2.2.2))) rfl ?_
  rcases qite h with ⟨hc15, h⟩ | ⟨hc15, h⟩
  ·refine zT Ad W (t := 179) (f := 126) rfl (XT.ii_gt_t hc15) ?_
   refine zS Ad W 2 (st' := (182, [vR 0, vR 1, vL v.1, none, vL v.2.1, none, vI v.2.2.1, vI v.2.2.2.1, vI v.2.2.2.2.1, vI v.2.2.2.2.2.1, vI v.2.2.2.2.2.2.1, vI v.2.2.2.2.2.2.2.1, vI v.2.2.2.2.2.2.2.2.1, vL v.2.2.2.2.2.2.2.2.2.1, none, vL v.2.2.2.2.2.2.2.2.2.2.1, none, vL v.2.2.2.2.2.2.2.2.2.2.2.1, none, vL v.2.2.2.2.2.2.2.2.2.2.2.2.1, none, vI x21, vI v.2.2.2.2.2.2.2.2.2.2.2.2.2.1, vI r14, vI (r14 &&& (7:Int32)), vI ((XT.ushr r14 (3:Int32)) &&& (1:Int32)), vI ((XT.ushr r14 (4:Int32)) &&& (7:Int32)), vI ((XT.ushr r14 (7:Int32)) &&& (15:Int32)), none, none, none, none, none, none, none, none, none], [.int ((XT.ushr r14 (3:Int32)) &&& (1:Int32)), .ref 1], (H0 s v.2.2.2.2.2.2.2.2.2.2.2.2.2.2))) rfl ?_
   obtain ⟨r21, hr21, h⟩ := bind_eq_some_iff.mp h
   refine QTri.callV W (a := 1) (as := [.int ((XT.ushr r14 (3:Int32)) &&& (1:Int32))]) (rest := []) (w := (some (.int r21))) (σ₁ := (H0 s v.2.2.2.2.2.2.2.2.2.2.2.2.2.2)) rfl rfl rfl rfl rfl rfl rfl rfl (tF4 Ad W s v.2.2.2.2.2.2.2.2.2.2.2.2.2.2 ((XT.ushr r14 (3:Int32)) &&& (1:Int32)) hr21) ?_
   rcases qite h with ⟨hc22, h⟩ | ⟨hc22, h⟩
   ·refine zT Ad W (t := 625) (f := 188) rfl (XT.i0_eq_t hc22) ?_
    exact zM [tt,tt,tt,ff,tt,ff,tt,tt,tt,tt,tt,tt,tt,tt,ff,tt,ff,tt,ff,tt,ff,tt,tt,ff,ff,ff,ff,ff,ff,ff,ff,ff,ff,ff,ff,ff,ff] (tJ0_625 Ad W s v.2.2.2.2.2.2.2.2.2.2.2.2.2.2 v.1 v.2.1 v.2.2.1 v.2.2.2.1 v.2.2.2.2.1 v.2.2.2.2.2.1 v.2.2.2.2.2.2.1 v.2.2.2.2.2.2.2.1 v.2.2.2.2.2.2.2.2.1 v.2.2.2.2.2.2.2.2.2.1 v.2.2.2.2.2.2.2.2.2.2.1 v.2.2.2.2.2.2.2.2.2.2.2.1 v.2.2.2.2.2.2.2.2.2.2.2.2.1 x21 v.2.2.2.2.2.2.2.2.2.2.2.2.2.1 h hx0 hc)
   ·refine zF Ad W (t := 625) (f := 188) rfl (XT.i0_eq_f hc22) ?_
    refine zS Ad W 1 (st' := (190, [vR 0, vR 1, vL v.1, none, vL v.2.1, none, vI v.2.2.1, vI v.2.2.2.1, vI v.2.2.2.2.1, vI v.2.2.2.2.2.1, vI v.2.2.2.2.2.2.1, vI v.2.2.2.2.2.2.2.1, vI v.2.2.2.2.2.2.2.2.1, vL v.2.2.2.2.2.2.2.2.2.1, none, vL v.2.2.2.2.2.2.2.2.2.2.1, none, vL v.2.2.2.2.2.2.2.2.2.2.2.1, none, vL v.2.2.2.2.2.2.2.2.2.2.2.2.1, none, vI x21, vI v.2.2.2.2.2.2.2.2.2.2.2.2.2.1, vI r14, vI (r14 &&& (7:Int32)), vI ((XT.ushr r14 (3:Int32)) &&& (1:Int32)), vI ((XT.ushr r14 (4:Int32)) &&& (7:Int32)), vI ((XT.ushr r14 (7:Int32)) &&& (15:Int32)), none, none, none, none, none, none, none, none, none], [.int ((XT.ushr r14 (3:Int32)) &&& (1:Int32))], (H0 s v.2.2.2.2.2.2.2.2.2.2.2.2.2.2))) rfl ?_
    have K42 : ∀ z41 : Int32, z41 = (if ((XT.ushr r14 (3:Int32)) &&& (1:Int32)) = (0:Int32) then v.2.2.2.1 else v.2.2.2.2.1) → QTri l Z n0 ad 0 (200, [vR 0, vR 1, vL v.1, none, vL v.2.1, none, vI v.2.2.1, vI v.2.2.2.1, vI v.2.2.2.2.1, vI v.2.2.2.2.2.1, vI v.2.2.2.2.2.2.1, vI v.2.2.2.2.2.2.2.1, vI v.2.2.2.2.2.2.2.2.1, vL v.2.2.2.2.2.2.2.2.2.1, none, vL v.2.2.2.2.2.2.2.2.2.2.1, none, vL v.2.2.2.2.2.2.2.2.2.2.2.1, none, vL v.2.2.2.2.2.2.2.2.2.2.2.2.1, none, vI x21, vI v.2.2.2.2.2.2.2.2.2.2.2.2.2.1, none, vI (r14 &&& (7:Int32)), vI ((XT.ushr r14 (3:Int32)) &&& (1:Int32)), vI ((XT.ushr r14 (4:Int32)) &&& (7:Int32)), vI ((XT.ushr r14 (7:Int32)) &&& (15:Int32)), none, none, none, none, none, none, none, none, none], [.int z41], (H0 s v.2.2.2.2.2.2.2.2.2.2.2.2.2.2)) u τ := by
     intro z41 ez41
     subst ez41
     refine zS Ad W 2 (st' := (204, [vR 0, vR 1, vL v.1, none, vL v.2.1, none, vI v.2.2.1, vI v.2.2.2.1, vI v.2.2.2.2.1, vI v.2.2.2.2.2.1, vI v.2.2.2.2.2.2.1, vI v.2.2.2.2.2.2.2.1, vI v.2.2.2.2.2.2.2.2.1, vL v.2.2.2.2.2.2.2.2.2.1, none, vL v.2.2.2.2.2.2.2.2.2.2.1, none, vL v.2.2.2.2.2.2.2.2.2.2.2.1, none, vL v.2.2.2.2.2.2.2.2.2.2.2.2.1, none, vI x21, vI v.2.2.2.2.2.2.2.2.2.2.2.2.2.1, none, vI (r14 &&& (7:Int32)), vI ((XT.ushr r14 (3:Int32)) &&& (1:Int32)), vI ((XT.ushr r14 (4:Int32)) &&& (7:Int32)), vI ((XT.ushr r14 (7:Int32)) &&& (15:Int32)), vI (if ((XT.ushr r14 (3:Int32)) &&& (1:Int32)) = (0:Int32) then v.2.2.2.1 else v.2.2.2.2.1), none, none, none, none, none, none, none, none], [.int ((XT.ushr r14 (3:Int32)) &&& (1:Int32))], (H0 s v.2.2.2.2.2.2.2.2.2.2.2.2.2.2))) rfl ?_
     have K45 : ∀ z44 : Int32, z44 = (if ((XT.ushr r14 (3:Int32)) &&& (1:Int32)) = (0:Int32) then v.2.2.2.2.2.1 else v.2.2.2.2.2.2.1) → QTri l Z n0 ad 0 (214, [vR 0, vR 1, vL v.1, none, vL v.2.1, none, vI v.2.2.1, vI v.2.2.2.1, vI v.2.2.2.2.1, vI v.2.2.2.2.2.1, vI v.2.2.2.2.2.2.1, vI v.2.2.2.2.2.2.2.1, vI v.2.2.2.2.2.2.2.2.1, vL v.2.2.2.2.2.2.2.2.2.1, none, vL v.2.2.2.2.2.2.2.2.2.2.1, none, vL v.2.2.2.2.2.2.2.2.2.2.2.1, none, vL v.2.2.2.2.2.2.2.2.2.2.2.2.1, none, vI x21, vI v.2.2.2.2.2.2.2.2.2.2.2.2.2.1, none, vI (r14 &&& (7:Int32)), vI ((XT.ushr r14 (3:Int32)) &&& (1:Int32)), vI ((XT.ushr r14 (4:Int32)) &&& (7:Int32)), vI ((XT.ushr r14 (7:Int32)) &&& (15:Int32)), vI (if ((XT.ushr r14 (3:Int32)) &&& (1:Int32)) = (0:Int32) then v.2.2.2.1 else v.2.2.2.2.1), none, none, none, none, none, none, none, none], [.int z44], (H0 s v.2.2.2.2.2.2.2.2.2.2.2.2.2.2)) u τ := by
      intro z44 ez44
      subst ez44
      refine zS Ad W 2 (st' := (218, [vR 0, vR 1, vL v.1, none, vL v.2.1, none, vI v.2.2.1, vI v.2.2.2.1, vI v.2.2.2.2.1, vI v.2.2.2.2.2.1, vI v.2.2.2.2.2.2.1, vI v.2.2.2.2.2.2.2.1, vI v.2.2.2.2.2.2.2.2.1, vL v.2.2.2.2.2.2.2.2.2.1, none, vL v.2.2.2.2.2.2.2.2.2.2.1, none, vL v.2.2.2.2.2.2.2.2.2.2.2.1, none, vL v.2.2.2.2.2.2.2.2.2.2.2.2.1, none, vI x21, vI v.2.2.2.2.2.2.2.2.2.2.2.2.2.1, none, vI (r14 &&& (7:Int32)), vI ((XT.ushr r14 (3:Int32)) &&& (1:Int32)), vI ((XT.ushr r14 (4:Int32)) &&& (7:Int32)), vI ((XT.ushr r14 (7:Int32)) &&& (15:Int32)), vI (if ((XT.ushr r14 (3:Int32)) &&& (1:Int32)) = (0:Int32) then v.2.2.2.1 else v.2.2.2.2.1), vI (if ((XT.ushr r14 (3:Int32)) &&& (1:Int32)) = (0:Int32) then v.2.2.2.2.2.1 else v.2.2.2.2.2.2.1), none, none, none, none, none, none, none], [.int ((XT.ushr r14 (3:Int32)) &&& (1:Int32))], (H0 s v.2.2.2.2.2.2.2.2.2.2.2.2.2.2))) rfl ?_
      have K48 : ∀ z47 : Int32, z47 = (if ((XT.ushr r14 (3:Int32)) &&& (1:Int32)) = (0:Int32) then v.2.2.2.2.2.2.2.1 else v.2.2.2.2.2.2.2.2.1) → QTri l Z n0 ad 0 (228, [vR 0, vR 1, vL v.1, none, vL v.2.1, none, vI v.2.2.1, vI v.2.2.2.1, vI v.2.2.2.2.1, vI v.2.2.2.2.2.1, vI v.2.2.2.2.2.2.1, vI v.2.2.2.2.2.2.2.1, vI v.2.2.2.2.2.2.2.2.1, vL v.2.2.2.2.2.2.2.2.2.1, none, vL v.2.2.2.2.2.2.2.2.2.2.1, none, vL v.2.2.2.2.2.2.2.2.2.2.2.1, none, vL v.2.2.2.2.2.2.2.2.2.2.2.2.1, none, vI x21, vI v.2.2.2.2.2.2.2.2.2.2.2.2.2.1, none, vI (r14 &&& (7:Int32)), vI ((XT.ushr r14 (3:Int32)) &&& (1:Int32)), vI ((XT.ushr r14 (4:Int32)) &&& (7:Int32)), vI ((XT.ushr r14 (7:Int32)) &&& (15:Int32)), vI (if ((XT.ushr r14 (3:Int32)) &&& (1:Int32)) = (0:Int32) then v.2.2.2.1 else v.2.2.2.2.1), vI (if ((XT.ushr r14 (3:Int32)) &&& (1:Int32)) = (0:Int32) then v.2.2.2.2.2.1 else v.2.2.2.2.2.2.1), none, none, none, none, none, none, none], [.int z47], (H0 s v.2.2.2.2.2.2.2.2.2.2.2.2.2.2)) u τ := by
       intro z47 ez47
       subst ez47
       refine zS Ad W 2 (st' := (232, [vR 0, vR 1, vL v.1, none, vL v.2.1, none, vI v.2.2.1, vI v.2.2.2.1, vI v.2.2.2.2.1, vI v.2.2.2.2.2.1, vI v.2.2.2.2.2.2.1, vI v.2.2.2.2.2.2.2.1, vI v.2.2.2.2.2.2.2.2.1, vL v.2.2.2.2.2.2.2.2.2.1, none, vL v.2.2.2.2.2.2.2.2.2.2.1, none, vL v.2.2.2.2.2.2.2.2.2.2.2.1, none, vL v.2.2.2.2.2.2.2.2.2.2.2.2.1, none, vI x21, vI v.2.2.2.2.2.2.2.2.2.2.2.2.2.1, none, vI (r14 &&& (7:Int32)), vI ((XT.ushr r14 (3:Int32)) &&& (1:Int32)), vI ((XT.ushr r14 (4:Int32)) &&& (7:Int32)), vI ((XT.ushr r14 (7:Int32)) &&& (15:Int32)), vI (if ((XT.ushr r14 (3:Int32)) &&& (1:Int32)) = (0:Int32) then v.2.2.2.1 else v.2.2.2.2.1), vI (if ((XT.ushr r14 (3:Int32)) &&& (1:Int32)) = (0:Int32) then v.2.2.2.2.2.1 else v.2.2.2.2.2.2.1), vI (if ((XT.ushr r14 (3:Int32)) &&& (1:Int32)) = (0:Int32) then v.2.2.2.2.2.2.2.1 else v.2.2.2.2.2.2.2.2.1), none, none, none, none, none, none], [.int ((XT.ushr r14 (3:Int32)) &&& (1:Int32))], (H0 s v.2.2.2.2.2.2.2.2.2.2.2.2.2.2))) rfl ?_
       have K51 : ∀ z50 : Int64, z50 = (if ((XT.ushr r14 (3:Int32)) &&& (1:Int32)) = (0:Int32) then v.2.2.2.2.2.2.2.2.2.1 else v.2.2.2.2.2.2.2.2.2.2.1) → QTri l Z n0 ad 0 (242, [vR 0, vR 1, vL v.1, none, vL v.2.1, none, vI v.2.2.1, vI v.2.2.2.1, vI v.2.2.2.2.1, vI v.2.2.2.2.2.1, vI v.2.2.2.2.2.2.1, vI v.2.2.2.2.2.2.2.1, vI v.2.2.2.2.2.2.2.2.1, vL v.2.2.2.2.2.2.2.2.2.1, none, vL v.2.2.2.2.2.2.2.2.2.2.1, none, vL v.2.2.2.2.2.2.2.2.2.2.2.1, none, vL v.2.2.2.2.2.2.2.2.2.2.2.2.1, none, vI x21, vI v.2.2.2.2.2.2.2.2.2.2.2.2.2.1, none, vI (r14 &&& (7:Int32)), vI ((XT.ushr r14 (3:Int32)) &&& (1:Int32)), vI ((XT.ushr r14 (4:Int32)) &&& (7:Int32)), vI ((XT.ushr r14 (7:Int32)) &&& (15:Int32)), vI (if ((XT.ushr r14 (3:Int32)) &&& (1:Int32)) = (0:Int32) then v.2.2.2.1 else v.2.2.2.2.1), vI (if ((XT.ushr r14 (3:Int32)) &&& (1:Int32)) = (0:Int32) then v.2.2.2.2.2.1 else v.2.2.2.2.2.2.1), vI (if ((XT.ushr r14 (3:Int32)) &&& (1:Int32)) = (0:Int32) then v.2.2.2.2.2.2.2.1 else v.2.2.2.2.2.2.2.2.1), none, none, none, none, none, none], [.long z50], (H0 s v.2.2.2.2.2.2.2.2.2.2.2.2.2.2)) u τ := by
        intro z50 ez50
        subst ez50
        refine zS Ad W 2 (st' := (246, [vR 0, vR 1, vL v.1, none, vL v.2.1, none, vI v.2.2.1, vI v.2.2.2.1, vI v.2.2.2.2.1, vI v.2.2.2.2.2.1, vI v.2.2.2.2.2.2.1, vI v.2.2.2.2.2.2.2.1, vI v.2.2.2.2.2.2.2.2.1, vL v.2.2.2.2.2.2.2.2.2.1, none, vL v.2.2.2.2.2.2.2.2.2.2.1, none, vL v.2.2.2.2.2.2.2.2.2.2.2.1, none, vL v.2.2.2.2.2.2.2.2.2.2.2.2.1, none, vI x21, vI v.2.2.2.2.2.2.2.2.2.2.2.2.2.1, none, vI (r14 &&& (7:Int32)), vI ((XT.ushr r14 (3:Int32)) &&& (1:Int32)), vI ((XT.ushr r14 (4:Int32)) &&& (7:Int32)), vI ((XT.ushr r14 (7:Int32)) &&& (15:Int32)), vI (if ((XT.ushr r14 (3:Int32)) &&& (1:Int32)) = (0:Int32) then v.2.2.2.1 else v.2.2.2.2.1), vI (if ((XT.ushr r14 (3:Int32)) &&& (1:Int32)) = (0:Int32) then v.2.2.2.2.2.1 else v.2.2.2.2.2.2.1), vI (if ((XT.ushr r14 (3:Int32)) &&& (1:Int32)) = (0:Int32) then v.2.2.2.2.2.2.2.1 else v.2.2.2.2.2.2.2.2.1), vL (if ((XT.ushr r14 (3:Int32)) &&& (1:Int32)) = (0:Int32) then v.2.2.2.2.2.2.2.2.2.1 else v.2.2.2.2.2.2.2.2.2.2.1), none, none, none, none, none], [.int ((XT.ushr r14 (3:Int32)) &&& (1:Int32))], (H0 s v.2.2.2.2.2.2.2.2.2.2.2.2.2.2))) rfl ?_
        have K54 : ∀ z53 : Int64, z53 = (if ((XT.ushr r14 (3:Int32)) &&& (1:Int32)) = (0:Int32) then v.2.2.2.2.2.2.2.2.2.2.2.1 else v.2.2.2.2.2.2.2.2.2.2.2.2.1) → QTri l Z n0 ad 0 (256, [vR 0, vR 1, vL v.1, none, vL v.2.1, none, vI v.2.2.1, vI v.2.2.2.1, vI v.2.2.2.2.1, vI v.2.2.2.2.2.1, vI v.2.2.2.2.2.2.1, vI v.2.2.2.2.2.2.2.1, vI v.2.2.2.2.2.2.2.2.1, vL v.2.2.2.2.2.2.2.2.2.1, none, vL v.2.2.2.2.2.2.2.2.2.2.1, none, vL v.2.2.2.2.2.2.2.2.2.2.2.1, none, vL v.2.2.2.2.2.2.2.2.2.2.2.2.1, none, vI x21, vI v.2.2.2.2.2.2.2.2.2.2.2.2.2.1, none, vI (r14 &&& (7:Int32)), vI ((XT.ushr r14 (3:Int32)) &&& (1:Int32)), vI ((XT.ushr r14 (4:Int32)) &&& (7:Int32)), vI ((XT.ushr r14 (7:Int32)) &&& (15:Int32)), vI (if ((XT.ushr r14 (3:Int32)) &&& (1:Int32)) = (0:Int32) then v.2.2.2.1 else v.2.2.2.2.1), vI (if ((XT.ushr r14 (3:Int32)) &&& (1:Int32)) = (0:Int32) then v.2.2.2.2.2.1 else v.2.2.2.2.2.2.1), vI (if ((XT.ushr r14 (3:Int32)) &&& (1:Int32)) = (0:Int32) then v.2.2.2.2.2.2.2.1 else v.2.2.2.2.2.2.2.2.1), vL (if ((XT.ushr r14 (3:Int32)) &&& (1:Int32)) = (0:Int32) then v.2.2.2.2.2.2.2.2.2.1 else v.2.2.2.2.2.2.2.2.2.2.1), none, none, none, none, none], [.long z53], (H0 s v.2.2.2.2.2.2.2.2.2.2.2.2.2.2)) u τ := by
         intro z53 ez53
         subst ez53
         refine zS Ad W 3 (st' := (261, [vR 0, vR 1, vL v.1, none, vL v.2.1, none, vI v.2.2.1, vI v.2.2.2.1, vI v.2.2.2.2.1, vI v.2.2.2.2.2.1, vI v.2.2.2.2.2.2.1, vI v.2.2.2.2.2.2.2.1, vI v.2.2.2.2.2.2.2.2.1, vL v.2.2.2.2.2.2.2.2.2.1, none, vL v.2.2.2.2.2.2.2.2.2.2.1, none, vL v.2.2.2.2.2.2.2.2.2.2.2.1, none, vL v.2.2.2.2.2.2.2.2.2.2.2.2.1, none, vI x21, vI v.2.2.2.2.2.2.2.2.2.2.2.2.2.1, none, vI (r14 &&& (7:Int32)), vI ((XT.ushr r14 (3:Int32)) &&& (1:Int32)), vI ((XT.ushr r14 (4:Int32)) &&& (7:Int32)), vI ((XT.ushr r14 (7:Int32)) &&& (15:Int32)), vI (if ((XT.ushr r14 (3:Int32)) &&& (1:Int32)) = (0:Int32) then v.2.2.2.1 else v.2.2.2.2.1), vI (if ((XT.ushr r14 (3:Int32)) &&& (1:Int32)) = (0:Int32) then v.2.2.2.2.2.1 else v.2.2.2.2.2.2.1), vI (if ((XT.ushr r14 (3:Int32)) &&& (1:Int32)) = (0:Int32) then v.2.2.2.2.2.2.2.1 else v.2.2.2.2.2.2.2.2.1), vL (if ((XT.ushr r14 (3:Int32)) &&& (1:Int32)) = (0:Int32) then v.2.2.2.2.2.2.2.2.2.1 else v.2.2.2.2.2.2.2.2.2.2.1), none, vL (if ((XT.ushr r14 (3:Int32)) &&& (1:Int32)) = (0:Int32) then v.2.2.2.2.2.2.2.2.2.2.2.1 else v.2.2.2.2.2.2.2.2.2.2.2.2.1), none, none, none], [.int (2:Int32), .int (r14 &&& (7:Int32))], (H0 s v.2.2.2.2.2.2.2.2.2.2.2.2.2.2))) rfl ?_
         rcases qite h with ⟨hc56, h⟩ | ⟨hc56, h⟩
         ·refine zF Ad W (t := 371) (f := 264) rfl (XT.ii_ne_f hc56) ?_
          refine zS Ad W 3 (st' := (269, [vR 0, vR 1, vL v.1, none, vL v.2.1, none, vI v.2.2.1, vI v.2.2.2.1, vI v.2.2.2.2.1, vI v.2.2.2.2.2.1, vI v.2.2.2.2.2.2.1, vI v.2.2.2.2.2.2.2.1, vI v.2.2.2.2.2.2.2.2.1, vL v.2.2.2.2.2.2.2.2.2.1, none, vL v.2.2.2.2.2.2.2.2.2.2.1, none, vL v.2.2.2.2.2.2.2.2.2.2.2.1, none, vL v.2.2.2.2.2.2.2.2.2.2.2.2.1, none, vI x21, vI v.2.2.2.2.2.2.2.2.2.2.2.2.2.1, none, vI (r14 &&& (7:Int32)), vI ((XT.ushr r14 (3:Int32)) &&& (1:Int32)), vI ((XT.ushr r14 (4:Int32)) &&& (7:Int32)), vI ((XT.ushr r14 (7:Int32)) &&& (15:Int32)), vI (if ((XT.ushr r14 (3:Int32)) &&& (1:Int32)) = (0:Int32) then v.2.2.2.1 else v.2.2.2.2.1), vI (if ((XT.ushr r14 (3:Int32)) &&& (1:Int32)) = (0:Int32) then v.2.2.2.2.2.1 else v.2.2.2.2.2.2.1), vI (if ((XT.ushr r14 (3:Int32)) &&& (1:Int32)) = (0:Int32) then v.2.2.2.2.2.2.2.1 else v.2.2.2.2.2.2.2.2.1), vL (if ((XT.ushr r14 (3:Int32)) &&& (1:Int32)) = (0:Int32) then v.2.2.2.2.2.2.2.2.2.1 else v.2.2.2.2.2.2.2.2.2.2.1), none, vL (if ((XT.ushr r14 (3:Int32)) &&& (1:Int32)) = (0:Int32) then v.2.2.2.2.2.2.2.2.2.2.2.1 else v.2.2.2.2.2.2.2.2.2.2.2.2.1), none, none, none], [.int ((XT.ushr r14 (4:Int32)) &&& (7:Int32)), .int ((XT.ushr r14 (3:Int32)) &&& (1:Int32)), .ref 1], (H0 s v.2.2.2.2.2.2.2.2.2.2.2.2.2.2))) rfl ?_
          obtain ⟨r70, hr70, h⟩ := bind_eq_some_iff.mp h
          refine QTri.callV W (a := 1) (as := [.int ((XT.ushr r14 (3:Int32)) &&& (1:Int32)), .int ((XT.ushr r14 (4:Int32)) &&& (7:Int32))]) (rest := []) (w := (some (.int r70.1))) (σ₁ := (H0 s r70.2)) rfl rfl rfl rfl rfl rfl rfl rfl (tF19 Ad W s v.2.2.2.2.2.2.2.2.2.2.2.2.2.2 ((XT.ushr r14 (3:Int32)) &&& (1:Int32)) ((XT.ushr r14 (4:Int32)) &&& (7:Int32)) hr70) ?_
          refine zS Ad W 6 (st' := (281, [vR 0, vR 1, vL v.1, none, vL v.2.1, none, vI v.2.2.1, vI v.2.2.2.1, vI v.2.2.2.2.1, vI v.2.2.2.2.2.1, vI v.2.2.2.2.2.2.1, vI v.2.2.2.2.2.2.2.1, vI v.2.2.2.2.2.2.2.2.1, vL v.2.2.2.2.2.2.2.2.2.1, none, vL v.2.2.2.2.2.2.2.2.2.2.1, none, vL v.2.2.2.2.2.2.2.2.2.2.2.1, none, vL v.2.2.2.2.2.2.2.2.2.2.2.2.1, none, vI x21, vI v.2.2.2.2.2.2.2.2.2.2.2.2.2.1, none, vI (r14 &&& (7:Int32)), vI ((XT.ushr r14 (3:Int32)) &&& (1:Int32)), vI ((XT.ushr r14 (4:Int32)) &&& (7:Int32)), vI ((XT.ushr r14 (7:Int32)) &&& (15:Int32)), vI (if ((XT.ushr r14 (3:Int32)) &&& (1:Int32)) = (0:Int32) then v.2.2.2.1 else v.2.2.2.2.1), vI (if ((XT.ushr r14 (3:Int32)) &&& (1:Int32)) = (0:Int32) then v.2.2.2.2.2.1 else v.2.2.2.2.2.2.1), vI (if ((XT.ushr r14 (3:Int32)) &&& (1:Int32)) = (0:Int32) then v.2.2.2.2.2.2.2.1 else v.2.2.2.2.2.2.2.2.1), vL (if ((XT.ushr r14 (3:Int32)) &&& (1:Int32)) = (0:Int32) then v.2.2.2.2.2.2.2.2.2.1 else v.2.2.2.2.2.2.2.2.2.2.1), none, vL (if ((XT.ushr r14 (3:Int32)) &&& (1:Int32)) = (0:Int32) then v.2.2.2.2.2.2.2.2.2.2.2.1 else v.2.2.2.2.2.2.2.2.2.2.2.2.1), none, vI r70.1, none], [.int ((XT.ushr (if ((XT.ushr r14 (3:Int32)) &&& (1:Int32)) = (0:Int32) then v.2.2.2.1 else v.2.2.2.2.1) ((XT.ushr r14 (4:Int32)) &&& (7:Int32))) &&& (1:Int32))], (H0 s r70.2))) rfl ?_
          rcases qite h with ⟨hc71, h⟩ | ⟨hc71, h⟩
          ·refine zT Ad W (t := 302) (f := 284) rfl (XT.i0_eq_t hc71) ?_
           refine zS Ad W 1 (st' := (304, [vR 0, vR 1, vL v.1, none, vL v.2.1, none, vI v.2.2.1, vI v.2.2.2.1, vI v.2.2.2.2.1, vI v.2.2.2.2.2.1, vI v.2.2.2.2.2.2.1, vI v.2.2.2.2.2.2.2.1, vI v.2.2.2.2.2.2.2.2.1, vL v.2.2.2.2.2.2.2.2.2.1, none, vL v.2.2.2.2.2.2.2.2.2.2.1, none, vL v.2.2.2.2.2.2.2.2.2.2.2.1, none, vL v.2.2.2.2.2.2.2.2.2.2.2.2.1, none, vI x21, vI v.2.2.2.2.2.2.2.2.2.2.2.2.2.1, none, vI (r14 &&& (7:Int32)), vI ((XT.ushr r14 (3:Int32)) &&& (1:Int32)), vI ((XT.ushr r14 (4:Int32)) &&& (7:Int32)), vI ((XT.ushr r14 (7:Int32)) &&& (15:Int32)), vI (if ((XT.ushr r14 (3:Int32)) &&& (1:Int32)) = (0:Int32) then v.2.2.2.1 else v.2.2.2.2.1), vI (if ((XT.ushr r14 (3:Int32)) &&& (1:Int32)) = (0:Int32) then v.2.2.2.2.2.1 else v.2.2.2.2.2.2.1), vI (if ((XT.ushr r14 (3:Int32)) &&& (1:Int32)) = (0:Int32) then v.2.2.2.2.2.2.2.1 else v.2.2.2.2.2.2.2.2.1), vL (if ((XT.ushr r14 (3:Int32)) &&& (1:Int32)) = (0:Int32) then v.2.2.2.2.2.2.2.2.2.1 else v.2.2.2.2.2.2.2.2.2.2.1), none, vL (if ((XT.ushr r14 (3:Int32)) &&& (1:Int32)) = (0:Int32) then v.2.2.2.2.2.2.2.2.2.2.2.1 else v.2.2.2.2.2.2.2.2.2.2.2.2.1), none, vI r70.1, none], [.int r70.1], (H0 s r70.2))) rfl ?_
           rcases qite h with ⟨hc72, h⟩ | ⟨hc72, h⟩
           ·refine zT Ad W (t := 314) (f := 307) rfl (XT.i0_lt_t hc72) ?_
            exact zM [tt,tt,tt,ff,tt,ff,tt,tt,tt,tt,tt,tt,tt,tt,ff,tt,ff,tt,ff,tt,ff,tt,tt,ff,ff,tt,ff,ff,tt,tt,ff,tt,ff,tt,ff,ff,ff] (tJ0_314 Ad W s r70.2 v.1 v.2.1 v.2.2.1 v.2.2.2.1 v.2.2.2.2.1 v.2.2.2.2.2.1 v.2.2.2.2.2.2.1 v.2.2.2.2.2.2.2.1 v.2.2.2.2.2.2.2.2.1 v.2.2.2.2.2.2.2.2.2.1 v.2.2.2.2.2.2.2.2.2.2.1 v.2.2.2.2.2.2.2.2.2.2.2.1 v.2.2.2.2.2.2.2.2.2.2.2.2.1 x21 v.2.2.2.2.2.2.2.2.2.2.2.2.2.1 ((XT.ushr r14 (3:Int32)) &&& (1:Int32)) (if ((XT.ushr r14 (3:Int32)) &&& (1:Int32)) = (0:Int32) then v.2.2.2.1 else v.2.2.2.2.1) (if ((XT.ushr r14 (3:Int32)) &&& (1:Int32)) = (0:Int32) then v.2.2.2.2.2.1 else v.2.2.2.2.2.2.1) (if ((XT.ushr r14 (3:Int32)) &&& (1:Int32)) = (0:Int32) then v.2.2.2.2.2.2.2.2.2.1 else v.2.2.2.2.2.2.2.2.2.2.1) (if ((XT.ushr r14 (3:Int32)) &&& (1:Int32)) = (0:Int32) then v.2.2.2.2.2.2.2.2.2.2.2.1 else v.2.2.2.2.2.2.2.2.2.2.2.2.1) h hx0 hc)
           ·refine zF Ad W (t := 314) (f := 307) rfl (XT.i0_lt_f hc72) ?_
            refine zS Ad W 2 (st' := (311, [vR 0, vR 1, vL v.1, none, vL v.2.1, none, vI v.2.2.1, vI v.2.2.2.1, vI v.2.2.2.2.1, vI v.2.2.2.2.2.1, vI v.2.2.2.2.2.2.1, vI v.2.2.2.2.2.2.2.1, vI v.2.2.2.2.2.2.2.2.1, vL v.2.2.2.2.2.2.2.2.2.1, none, vL v.2.2.2.2.2.2.2.2.2.2.1, none, vL v.2.2.2.2.2.2.2.2.2.2.2.1, none, vL v.2.2.2.2.2.2.2.2.2.2.2.2.1, none, vI x21, vI v.2.2.2.2.2.2.2.2.2.2.2.2.2.1, none, vI (r14 &&& (7:Int32)), vI ((XT.ushr r14 (3:Int32)) &&& (1:Int32)), vI ((XT.ushr r14 (4:Int32)) &&& (7:Int32)), vI ((XT.ushr r14 (7:Int32)) &&& (15:Int32)), vI (if ((XT.ushr r14 (3:Int32)) &&& (1:Int32)) = (0:Int32) then v.2.2.2.1 else v.2.2.2.2.1), vI (if ((XT.ushr r14 (3:Int32)) &&& (1:Int32)) = (0:Int32) then v.2.2.2.2.2.1 else v.2.2.2.2.2.2.1), vI (if ((XT.ushr r14 (3:Int32)) &&& (1:Int32)) = (0:Int32) then v.2.2.2.2.2.2.2.1 else v.2.2.2.2.2.2.2.2.1), vL (if ((XT.ushr r14 (3:Int32)) &&& (1:Int32)) = (0:Int32) then v.2.2.2.2.2.2.2.2.2.1 else v.2.2.2.2.2.2.2.2.2.2.1), none, vL (if ((XT.ushr r14 (3:Int32)) &&& (1:Int32)) = (0:Int32) then v.2.2.2.2.2.2.2.2.2.2.2.1 else v.2.2.2.2.2.2.2.2.2.2.2.2.1), none, vI r70.1, none], [.int (15:Int32), .int r70.1], (H0 s r70.2))) rfl ?_
            rcases qite h with ⟨hc85, h⟩ | ⟨hc85, h⟩
            ·refine zF Ad W (t := 320) (f := 314) rfl (XT.ii_le_f hc85) ?_
             exact zM [tt,tt,tt,ff,tt,ff,tt,tt,tt,tt,tt,tt,tt,tt,ff,tt,ff,tt,ff,tt,ff,tt,tt,ff,ff,tt,ff,ff,tt,tt,ff,tt,ff,tt,ff,ff,ff] (tJ0_314 Ad W s r70.2 v.1 v.2.1 v.2.2.1 v.2.2.2.1 v.2.2.2.2.1 v.2.2.2.2.2.1 v.2.2.2.2.2.2.1 v.2.2.2.2.2.2.2.1 v.2.2.2.2.2.2.2.2.1 v.2.2.2.2.2.2.2.2.2.1 v.2.2.2.2.2.2.2.2.2.2.1 v.2.2.2.2.2.2.2.2.2.2.2.1 v.2.2.2.2.2.2.2.2.2.2.2.2.1 x21 v.2.2.2.2.2.2.2.2.2.2.2.2.2.1 ((XT.ushr r14 (3:Int32)) &&& (1:Int32)) (if ((XT.ushr r14 (3:Int32)) &&& (1:Int32)) = (0:Int32) then v.2.2.2.1 else v.2.2.2.2.1) (if ((XT.ushr r14 (3:Int32)) &&& (1:Int32)) = (0:Int32) then v.2.2.2.2.2.1 else v.2.2.2.2.2.2.1) (if ((XT.ushr r14 (3:Int32)) &&& (1:Int32)) = (0:Int32) then v.2.2.2.2.2.2.2.2.2.1 else v.2.2.2.2.2.2.2.2.2.2.1) (if ((XT.ushr r14 (3:Int32)) &&& (1:Int32)) = (0:Int32) then v.2.2.2.2.2.2.2.2.2.2.2.1 else v.2.2.2.2.2.2.2.2.2.2.2.2.1) h hx0 hc)
            ·refine zT Ad W (t := 320) (f := 314) rfl (XT.ii_le_t hc85) ?_
             refine zS Ad W 5 (st' := (327, [vR 0, vR 1, vL v.1, none, vL v.2.1, none, vI v.2.2.1, vI v.2.2.2.1, vI v.2.2.2.2.1, vI v.2.2.2.2.2.1, vI v.2.2.2.2.2.2.1, vI v.2.2.2.2.2.2.2.1, vI v.2.2.2.2.2.2.2.2.1, vL v.2.2.2.2.2.2.2.2.2.1, none, vL v.2.2.2.2.2.2.2.2.2.2.1, none, vL v.2.2.2.2.2.2.2.2.2.2.2.1, none, vL v.2.2.2.2.2.2.2.2.2.2.2.2.1, none, vI x21, vI v.2.2.2.2.2.2.2.2.2.2.2.2.2.1, none, vI (r14 &&& (7:Int32)), vI ((XT.ushr r14 (3:Int32)) &&& (1:Int32)), vI ((XT.ushr r14 (4:Int32)) &&& (7:Int32)), vI ((XT.ushr r14 (7:Int32)) &&& (15:Int32)), vI (if ((XT.ushr r14 (3:Int32)) &&& (1:Int32)) = (0:Int32) then v.2.2.2.1 else v.2.2.2.2.1), vI (if ((XT.ushr r14 (3:Int32)) &&& (1:Int32)) = (0:Int32) then v.2.2.2.2.2.1 else v.2.2.2.2.2.2.1), vI (if ((XT.ushr r14 (3:Int32)) &&& (1:Int32)) = (0:Int32) then v.2.2.2.2.2.2.2.1 else v.2.2.2.2.2.2.2.2.1), vL (if ((XT.ushr r14 (3:Int32)) &&& (1:Int32)) = (0:Int32) then v.2.2.2.2.2.2.2.2.2.1 else v.2.2.2.2.2.2.2.2.2.2.1), none, vL (if ((XT.ushr r14 (3:Int32)) &&& (1:Int32)) = (0:Int32) then v.2.2.2.2.2.2.2.2.2.2.2.1 else v.2.2.2.2.2.2.2.2.2.2.2.2.1), none, vI r70.1, none], [.int ((XT.ushr (if ((XT.ushr r14 (3:Int32)) &&& (1:Int32)) = (0:Int32) then v.2.2.2.2.2.1 else v.2.2.2.2.2.2.1) ((XT.ushr r14 (4:Int32)) &&& (7:Int32))) &&& (1:Int32))], (H0 s r70.2))) rfl ?_
             rcases qite h with ⟨hc86, h⟩ | ⟨hc86, h⟩
             ·refine zT Ad W (t := 348) (f := 330) rfl (XT.i0_eq_t hc86) ?_
              refine zS Ad W 9 (st' := (363, [vR 0, vR 1, vL v.1, none, vL v.2.1, none, vI v.2.2.1, vI v.2.2.2.1, vI v.2.2.2.2.1, vI v.2.2.2.2.2.1, vI v.2.2.2.2.2.2.1, vI v.2.2.2.2.2.2.2.1, vI v.2.2.2.2.2.2.2.2.1, vL v.2.2.2.2.2.2.2.2.2.1, none, vL v.2.2.2.2.2.2.2.2.2.2.1, none, vL v.2.2.2.2.2.2.2.2.2.2.2.1, none, vL v.2.2.2.2.2.2.2.2.2.2.2.2.1, none, vI x21, vI v.2.2.2.2.2.2.2.2.2.2.2.2.2.1, none, vI (r14 &&& (7:Int32)), vI ((XT.ushr r14 (3:Int32)) &&& (1:Int32)), vI ((XT.ushr r14 (4:Int32)) &&& (7:Int32)), vI ((XT.ushr r14 (7:Int32)) &&& (15:Int32)), vI (if ((XT.ushr r14 (3:Int32)) &&& (1:Int32)) = (0:Int32) then v.2.2.2.1 else v.2.2.2.2.1), vI ((if ((XT.ushr r14 (3:Int32)) &&& (1:Int32)) = (0:Int32) then v.2.2.2.2.2.1 else v.2.2.2.2.2.2.1) ||| ((1:Int32) <<< (((XT.ushr r14 (4:Int32)) &&& (7:Int32)) &&& 31))), vI (if ((XT.ushr r14 (3:Int32)) &&& (1:Int32)) = (0:Int32) then v.2.2.2.2.2.2.2.1 else v.2.2.2.2.2.2.2.2.1), vL (if ((XT.ushr r14 (3:Int32)) &&& (1:Int32)) = (0:Int32) then v.2.2.2.2.2.2.2.2.2.1 else v.2.2.2.2.2.2.2.2.2.2.1), none, vL (if ((XT.ushr r14 (3:Int32)) &&& (1:Int32)) = (0:Int32) then v.2.2.2.2.2.2.2.2.2.2.2.1 else v.2.2.2.2.2.2.2.2.2.2.2.2.1), none, vI r70.1, none], [.int r70.1, .int ((XT.ushr r14 (4:Int32)) &&& (7:Int32)), .long (if ((XT.ushr r14 (3:Int32)) &&& (1:Int32)) = (0:Int32) then v.2.2.2.2.2.2.2.2.2.2.2.1 else v.2.2.2.2.2.2.2.2.2.2.2.2.1)], (H0 s r70.2))) rfl ?_
              obtain ⟨r87, hr87, h⟩ := bind_eq_some_iff.mp h
              refine QTri.callS W (as := [.long (if ((XT.ushr r14 (3:Int32)) &&& (1:Int32)) = (0:Int32) then v.2.2.2.2.2.2.2.2.2.2.2.1 else v.2.2.2.2.2.2.2.2.2.2.2.2.1), .int ((XT.ushr r14 (4:Int32)) &&& (7:Int32)), .int r70.1]) (rest := []) (w := (some (.long r87))) (σ₁ := (H0 s r70.2)) rfl rfl rfl rfl rfl rfl rfl (tF18 Ad W (if ((XT.ushr r14 (3:Int32)) &&& (1:Int32)) = (0:Int32) then v.2.2.2.2.2.2.2.2.2.2.2.1 else v.2.2.2.2.2.2.2.2.2.2.2.2.1) ((XT.ushr r14 (4:Int32)) &&& (7:Int32)) r70.1 hr87) ?_
              refine zS Ad W 1 (st' := (368, [vR 0, vR 1, vL v.1, none, vL v.2.1, none, vI v.2.2.1, vI v.2.2.2.1, vI v.2.2.2.2.1, vI v.2.2.2.2.2.1, vI v.2.2.2.2.2.2.1, vI v.2.2.2.2.2.2.2.1, vI v.2.2.2.2.2.2.2.2.1, vL v.2.2.2.2.2.2.2.2.2.1, none, vL v.2.2.2.2.2.2.2.2.2.2.1, none, vL v.2.2.2.2.2.2.2.2.2.2.2.1, none, vL v.2.2.2.2.2.2.2.2.2.2.2.2.1, none, vI x21, vI v.2.2.2.2.2.2.2.2.2.2.2.2.2.1, none, vI (r14 &&& (7:Int32)), vI ((XT.ushr r14 (3:Int32)) &&& (1:Int32)), vI ((XT.ushr r14 (4:Int32)) &&& (7:Int32)), vI ((XT.ushr r14 (7:Int32)) &&& (15:Int32)), vI (if ((XT.ushr r14 (3:Int32)) &&& (1:Int32)) = (0:Int32) then v.2.2.2.1 else v.2.2.2.2.1), vI ((if ((XT.ushr r14 (3:Int32)) &&& (1:Int32)) = (0:Int32) then v.2.2.2.2.2.1 else v.2.2.2.2.2.2.1) ||| ((1:Int32) <<< (((XT.ushr r14 (4:Int32)) &&& (7:Int32)) &&& 31))), vI (if ((XT.ushr r14 (3:Int32)) &&& (1:Int32)) = (0:Int32) then v.2.2.2.2.2.2.2.1 else v.2.2.2.2.2.2.2.2.1), vL (if ((XT.ushr r14 (3:Int32)) &&& (1:Int32)) = (0:Int32) then v.2.2.2.2.2.2.2.2.2.1 else v.2.2.2.2.2.2.2.2.2.2.1), none, vL r87, none, vI r70.1, none], [], (H0 s r70.2))) rfl ?_
              exact zM [tt,tt,tt,ff,tt,ff,tt,tt,tt,tt,tt,tt,tt,tt,ff,tt,ff,tt,ff,tt,ff,tt,tt,ff,ff,tt,ff,ff,tt,tt,tt,tt,ff,tt,ff,ff,ff] (tJ0_368 Ad W s r70.2 v.1 v.2.1 v.2.2.1 v.2.2.2.1 v.2.2.2.2.1 v.2.2.2.2.2.1 v.2.2.2.2.2.2.1 v.2.2.2.2.2.2.2.1 v.2.2.2.2.2.2.2.2.1 v.2.2.2.2.2.2.2.2.2.1 v.2.2.2.2.2.2.2.2.2.2.1 v.2.2.2.2.2.2.2.2.2.2.2.1 v.2.2.2.2.2.2.2.2.2.2.2.2.1 x21 v.2.2.2.2.2.2.2.2.2.2.2.2.2.1 ((XT.ushr r14 (3:Int32)) &&& (1:Int32)) (if ((XT.ushr r14 (3:Int32)) &&& (1:Int32)) = (0:Int32) then v.2.2.2.1 else v.2.2.2.2.1) ((if ((XT.ushr r14 (3:Int32)) &&& (1:Int32)) = (0:Int32) then v.2.2.2.2.2.1 else v.2.2.2.2.2.2.1) ||| ((1:Int32) <<< (((XT.ushr r14 (4:Int32)) &&& (7:Int32)) &&& 31))) (if ((XT.ushr r14 (3:Int32)) &&& (1:Int32)) = (0:Int32) then v.2.2.2.2.2.2.2.1 else v.2.2.2.2.2.2.2.2.1) (if ((XT.ushr r14 (3:Int32)) &&& (1:Int32)) = (0:Int32) then v.2.2.2.2.2.2.2.2.2.1 else v.2.2.2.2.2.2.2.2.2.2.1) r87 h hx0 hc)
             ·refine zF Ad W (t := 348) (f := 330) rfl (XT.i0_eq_f hc86) ?_
              refine zS Ad W 2 (st' := (334, [vR 0, vR 1, vL v.1, none, vL v.2.1, none, vI v.2.2.1, vI v.2.2.2.1, vI v.2.2.2.2.1, vI v.2.2.2.2.2.1, vI v.2.2.2.2.2.2.1, vI v.2.2.2.2.2.2.2.1, vI v.2.2.2.2.2.2.2.2.1, vL v.2.2.2.2.2.2.2.2.2.1, none, vL v.2.2.2.2.2.2.2.2.2.2.1, none, vL v.2.2.2.2.2.2.2.2.2.2.2.1, none, vL v.2.2.2.2.2.2.2.2.2.2.2.2.1, none, vI x21, vI v.2.2.2.2.2.2.2.2.2.2.2.2.2.1, none, vI (r14 &&& (7:Int32)), vI ((XT.ushr r14 (3:Int32)) &&& (1:Int32)), vI ((XT.ushr r14 (4:Int32)) &&& (7:Int32)), vI ((XT.ushr r14 (7:Int32)) &&& (15:Int32)), vI (if ((XT.ushr r14 (3:Int32)) &&& (1:Int32)) = (0:Int32) then v.2.2.2.1 else v.2.2.2.2.1), vI (if ((XT.ushr r14 (3:Int32)) &&& (1:Int32)) = (0:Int32) then v.2.2.2.2.2.1 else v.2.2.2.2.2.2.1), vI (if ((XT.ushr r14 (3:Int32)) &&& (1:Int32)) = (0:Int32) then v.2.2.2.2.2.2.2.1 else v.2.2.2.2.2.2.2.2.1), vL (if ((XT.ushr r14 (3:Int32)) &&& (1:Int32)) = (0:Int32) then v.2.2.2.2.2.2.2.2.2.1 else v.2.2.2.2.2.2.2.2.2.2.1), none, vL (if ((XT.ushr r14 (3:Int32)) &&& (1:Int32)) = (0:Int32) then v.2.2.2.2.2.2.2.2.2.2.2.1 else v.2.2.2.2.2.2.2.2.2.2.2.2.1), none, vI r70.1, none], [.int ((XT.ushr r14 (4:Int32)) &&& (7:Int32)), .long (if ((XT.ushr r14 (3:Int32)) &&& (1:Int32)) = (0:Int32) then v.2.2.2.2.2.2.2.2.2.2.2.1 else v.2.2.2.2.2.2.2.2.2.2.2.2.1)], (H0 s r70.2))) rfl ?_
              obtain ⟨r88, hr88, h⟩ := bind_eq_some_iff.mp h
              refine QTri.callS W (as := [.long (if ((XT.ushr r14 (3:Int32)) &&& (1:Int32)) = (0:Int32) then v.2.2.2.2.2.2.2.2.2.2.2.1 else v.2.2.2.2.2.2.2.2.2.2.2.2.1), .int ((XT.ushr r14 (4:Int32)) &&& (7:Int32))]) (rest := []) (w := (some (.int r88))) (σ₁ := (H0 s r70.2)) rfl rfl rfl rfl rfl rfl rfl (tF8 Ad W (if ((XT.ushr r14 (3:Int32)) &&& (1:Int32)) = (0:Int32) then v.2.2.2.2.2.2.2.2.2.2.2.1 else v.2.2.2.2.2.2.2.2.2.2.2.2.1) ((XT.ushr r14 (4:Int32)) &&& (7:Int32)) hr88) ?_
              refine zS Ad W 1 (st' := (339, [vR 0, vR 1, vL v.1, none, vL v.2.1, none, vI v.2.2.1, vI v.2.2.2.1, vI v.2.2.2.2.1, vI v.2.2.2.2.2.1, vI v.2.2.2.2.2.2.1, vI v.2.2.2.2.2.2.2.1, vI v.2.2.2.2.2.2.2.2.1, vL v.2.2.2.2.2.2.2.2.2.1, none, vL v.2.2.2.2.2.2.2.2.2.2.1, none, vL v.2.2.2.2.2.2.2.2.2.2.2.1, none, vL v.2.2.2.2.2.2.2.2.2.2.2.2.1, none, vI x21, vI v.2.2.2.2.2.2.2.2.2.2.2.2.2.1, none, vI (r14 &&& (7:Int32)), vI ((XT.ushr r14 (3:Int32)) &&& (1:Int32)), vI ((XT.ushr r14 (4:Int32)) &&& (7:Int32)), vI ((XT.ushr r14 (7:Int32)) &&& (15:Int32)), vI (if ((XT.ushr r14 (3:Int32)) &&& (1:Int32)) = (0:Int32) then v.2.2.2.1 else v.2.2.2.2.1), vI (if ((XT.ushr r14 (3:Int32)) &&& (1:Int32)) = (0:Int32) then v.2.2.2.2.2.1 else v.2.2.2.2.2.2.1), vI (if ((XT.ushr r14 (3:Int32)) &&& (1:Int32)) = (0:Int32) then v.2.2.2.2.2.2.2.1 else v.2.2.2.2.2.2.2.2.1), vL (if ((XT.ushr r14 (3:Int32)) &&& (1:Int32)) = (0:Int32) then v.2.2.2.2.2.2.2.2.2.1 else v.2.2.2.2.2.2.2.2.2.2.1), none, vL (if ((XT.ushr r14 (3:Int32)) &&& (1:Int32)) = (0:Int32) then v.2.2.2.2.2.2.2.2.2.2.2.1 else v.2.2.2.2.2.2.2.2.2.2.2.2.1), none, vI r70.1, none], [.int r70.1, .int r88], (H0 s r70.2))) rfl ?_
              have K90 : ∀ z89 : Int32, z89 = (if r88 = r70.1 then (if ((XT.ushr r14 (3:Int32)) &&& (1:Int32)) = (0:Int32) then v.2.2.2.2.2.2.2.1 else v.2.2.2.2.2.2.2.2.1) else (1:Int32)) → QTri l Z n0 ad 0 (368, [vR 0, vR 1, vL v.1, none, vL v.2.1, none, vI v.2.2.1, vI v.2.2.2.1, vI v.2.2.2.2.1, vI v.2.2.2.2.2.1, vI v.2.2.2.2.2.2.1, vI v.2.2.2.2.2.2.2.1, vI v.2.2.2.2.2.2.2.2.1, vL v.2.2.2.2.2.2.2.2.2.1, none, vL v.2.2.2.2.2.2.2.2.2.2.1, none, vL v.2.2.2.2.2.2.2.2.2.2.2.1, none, vL v.2.2.2.2.2.2.2.2.2.2.2.2.1, none, vI x21, vI v.2.2.2.2.2.2.2.2.2.2.2.2.2.1, none, none, vI ((XT.ushr r14 (3:Int32)) &&& (1:Int32)), none, none, vI (if ((XT.ushr r14 (3:Int32)) &&& (1:Int32)) = (0:Int32) then v.2.2.2.1 else v.2.2.2.2.1), vI (if ((XT.ushr r14 (3:Int32)) &&& (1:Int32)) = (0:Int32) then v.2.2.2.2.2.1 else v.2.2.2.2.2.2.1), vI z89, vL (if ((XT.ushr r14 (3:Int32)) &&& (1:Int32)) = (0:Int32) then v.2.2.2.2.2.2.2.2.2.1 else v.2.2.2.2.2.2.2.2.2.2.1), none, vL (if ((XT.ushr r14 (3:Int32)) &&& (1:Int32)) = (0:Int32) then v.2.2.2.2.2.2.2.2.2.2.2.1 else v.2.2.2.2.2.2.2.2.2.2.2.2.1), none, none, none], [], (H0 s r70.2)) u τ := by
               intro z89 ez89
               subst ez89
               exact zM [tt,tt,tt,ff,tt,ff,tt,tt,tt,tt,tt,tt,tt,tt,ff,tt,ff,tt,ff,tt,ff,tt,tt,ff,ff,tt,ff,ff,tt,tt,tt,tt,ff,tt,ff,ff,ff] (tJ0_368 Ad W s r70.2 v.1 v.2.1 v.2.2.1 v.2.2.2.1 v.2.2.2.2.1 v.2.2.2.2.2.1 v.2.2.2.2.2.2.1 v.2.2.2.2.2.2.2.1 v.2.2.2.2.2.2.2.2.1 v.2.2.2.2.2.2.2.2.2.1 v.2.2.2.2.2.2.2.2.2.2.1 v.2.2.2.2.2.2.2.2.2.2.2.1 v.2.2.2.2.2.2.2.2.2.2.2.2.1 x21 v.2.2.2.2.2.2.2.2.2.2.2.2.2.1 ((XT.ushr r14 (3:Int32)) &&& (1:Int32)) (if ((XT.ushr r14 (3:Int32)) &&& (1:Int32)) = (0:Int32) then v.2.2.2.1 else v.2.2.2.2.1) (if ((XT.ushr r14 (3:Int32)) &&& (1:Int32)) = (0:Int32) then v.2.2.2.2.2.1 else v.2.2.2.2.2.2.1) (if r88 = r70.1 then (if ((XT.ushr r14 (3:Int32)) &&& (1:Int32)) = (0:Int32) then v.2.2.2.2.2.2.2.1 else v.2.2.2.2.2.2.2.2.1) else (1:Int32)) (if ((XT.ushr r14 (3:Int32)) &&& (1:Int32)) = (0:Int32) then v.2.2.2.2.2.2.2.2.2.1 else v.2.2.2.2.2.2.2.2.2.2.1) (if ((XT.ushr r14 (3:Int32)) &&& (1:Int32)) = (0:Int32) then v.2.2.2.2.2.2.2.2.2.2.2.1 else v.2.2.2.2.2.2.2.2.2.2.2.2.1) h hx0 hc)
              rcases em (r88 = r70.1) with hc91 | hc91
              ·refine zT Ad W (t := 368) (f := 342) rfl (XT.ii_eq_t hc91) ?_
               exact zM [tt,tt,tt,ff,tt,ff,tt,tt,tt,tt,tt,tt,tt,tt,ff,tt,ff,tt,ff,tt,ff,tt,tt,ff,ff,tt,ff,ff,tt,tt,tt,tt,ff,tt,ff,ff,ff] (K90 _ (if_pos hc91).symm)
              ·refine zF Ad W (t := 368) (f := 342) rfl (XT.ii_eq_f hc91) ?_
               refine zS Ad W 3 (st' := (368, [vR 0, vR 1, vL v.1, none, vL v.2.1, none, vI v.2.2.1, vI v.2.2.2.1, vI v.2.2.2.2.1, vI v.2.2.2.2.2.1, vI v.2.2.2.2.2.2.1, vI v.2.2.2.2.2.2.2.1, vI v.2.2.2.2.2.2.2.2.1, vL v.2.2.2.2.2.2.2.2.2.1, none, vL v.2.2.2.2.2.2.2.2.2.2.1, none, vL v.2.2.2.2.2.2.2.2.2.2.2.1, none, vL v.2.2.2.2.2.2.2.2.2.2.2.2.1, none, vI x21, vI v.2.2.2.2.2.2.2.2.2.2.2.2.2.1, none, vI (r14 &&& (7:Int32)), vI ((XT.ushr r14 (3:Int32)) &&& (1:Int32)), vI ((XT.ushr r14 (4:Int32)) &&& (7:Int32)), vI ((XT.ushr r14 (7:Int32)) &&& (15:Int32)), vI (if ((XT.ushr r14 (3:Int32)) &&& (1:Int32)) = (0:Int32) then v.2.2.2.1 else v.2.2.2.2.1), vI (if ((XT.ushr r14 (3:Int32)) &&& (1:Int32)) = (0:Int32) then v.2.2.2.2.2.1 else v.2.2.2.2.2.2.1), vI (1:Int32), vL (if ((XT.ushr r14 (3:Int32)) &&& (1:Int32)) = (0:Int32) then v.2.2.2.2.2.2.2.2.2.1 else v.2.2.2.2.2.2.2.2.2.2.1), none, vL (if ((XT.ushr r14 (3:Int32)) &&& (1:Int32)) = (0:Int32) then v.2.2.2.2.2.2.2.2.2.2.2.1 else v.2.2.2.2.2.2.2.2.2.2.2.2.1), none, vI r70.1, none], [], (H0 s r70.2))) rfl ?_
               exact zM [tt,tt,tt,ff,tt,ff,tt,tt,tt,tt,tt,tt,tt,tt,ff,tt,ff,tt,ff,tt,ff,tt,tt,ff,ff,tt,ff,ff,tt,tt,tt,tt,ff,tt,ff,ff,ff] (K90 _ (if_neg hc91).symm)
          ·refine zF Ad W (t := 302) (f := 284) rfl (XT.i0_eq_f hc71) ?_
           refine zS Ad W 3 (st' := (290, [vR 0, vR 1, vL v.1, none, vL v.2.1, none, vI v.2.2.1, vI v.2.2.2.1, vI v.2.2.2.2.1, vI v.2.2.2.2.2.1, vI v.2.2.2.2.2.2.1, vI v.2.2.2.2.2.2.2.1, vI v.2.2.2.2.2.2.2.2.1, vL v.2.2.2.2.2.2.2.2.2.1, none, vL v.2.2.2.2.2.2.2.2.2.2.1, none, vL v.2.2.2.2.2.2.2.2.2.2.2.1, none, vL v.2.2.2.2.2.2.2.2.2.2.2.2.1, none, vI x21, vI v.2.2.2.2.2.2.2.2.2.2.2.2.2.1, none, vI (r14 &&& (7:Int32)), vI ((XT.ushr r14 (3:Int32)) &&& (1:Int32)), vI ((XT.ushr r14 (4:Int32)) &&& (7:Int32)), vI ((XT.ushr r14 (7:Int32)) &&& (15:Int32)), vI (if ((XT.ushr r14 (3:Int32)) &&& (1:Int32)) = (0:Int32) then v.2.2.2.1 else v.2.2.2.2.1), vI (if ((XT.ushr r14 (3:Int32)) &&& (1:Int32)) = (0:Int32) then v.2.2.2.2.2.1 else v.2.2.2.2.2.2.1), vI (if ((XT.ushr r14 (3:Int32)) &&& (1:Int32)) = (0:Int32) then v.2.2.2.2.2.2.2.1 else v.2.2.2.2.2.2.2.2.1), vL (if ((XT.ushr r14 (3:Int32)) &&& (1:Int32)) = (0:Int32) then v.2.2.2.2.2.2.2.2.2.1 else v.2.2.2.2.2.2.2.2.2.2.1), none, vL (if ((XT.ushr r14 (3:Int32)) &&& (1:Int32)) = (0:Int32) then v.2.2.2.2.2.2.2.2.2.2.2.1 else v.2.2.2.2.2.2.2.2.2.2.2.2.1), none, vI r70.1, none], [.int ((XT.ushr r14 (4:Int32)) &&& (7:Int32)), .long (if ((XT.ushr r14 (3:Int32)) &&& (1:Int32)) = (0:Int32) then v.2.2.2.2.2.2.2.2.2.1 else v.2.2.2.2.2.2.2.2.2.2.1), .int r70.1], (H0 s r70.2))) rfl ?_
           obtain ⟨r92, hr92, h⟩ := bind_eq_some_iff.mp h
           refine QTri.callS W (as := [.long (if ((XT.ushr r14 (3:Int32)) &&& (1:Int32)) = (0:Int32) then v.2.2.2.2.2.2.2.2.2.1 else v.2.2.2.2.2.2.2.2.2.2.1), .int ((XT.ushr r14 (4:Int32)) &&& (7:Int32))]) (rest := [.int r70.1]) (w := (some (.int r92))) (σ₁ := (H0 s r70.2)) rfl rfl rfl rfl rfl rfl rfl (tF8 Ad W (if ((XT.ushr r14 (3:Int32)) &&& (1:Int32)) = (0:Int32) then v.2.2.2.2.2.2.2.2.2.1 else v.2.2.2.2.2.2.2.2.2.2.1) ((XT.ushr r14 (4:Int32)) &&& (7:Int32)) hr92) ?_
           have K94 : ∀ z93 : Int32, z93 = (if r70.1 = r92 then (if ((XT.ushr r14 (3:Int32)) &&& (1:Int32)) = (0:Int32) then v.2.2.2.2.2.2.2.1 else v.2.2.2.2.2.2.2.2.1) else (1:Int32)) → QTri l Z n0 ad 0 (368, [vR 0, vR 1, vL v.1, none, vL v.2.1, none, vI v.2.2.1, vI v.2.2.2.1, vI v.2.2.2.2.1, vI v.2.2.2.2.2.1, vI v.2.2.2.2.2.2.1, vI v.2.2.2.2.2.2.2.1, vI v.2.2.2.2.2.2.2.2.1, vL v.2.2.2.2.2.2.2.2.2.1, none, vL v.2.2.2.2.2.2.2.2.2.2.1, none, vL v.2.2.2.2.2.2.2.2.2.2.2.1, none, vL v.2.2.2.2.2.2.2.2.2.2.2.2.1, none, vI x21, vI v.2.2.2.2.2.2.2.2.2.2.2.2.2.1, none, none, vI ((XT.ushr r14 (3:Int32)) &&& (1:Int32)), none, none, vI (if ((XT.ushr r14 (3:Int32)) &&& (1:Int32)) = (0:Int32) then v.2.2.2.1 else v.2.2.2.2.1), vI (if ((XT.ushr r14 (3:Int32)) &&& (1:Int32)) = (0:Int32) then v.2.2.2.2.2.1 else v.2.2.2.2.2.2.1), vI z93, vL (if ((XT.ushr r14 (3:Int32)) &&& (1:Int32)) = (0:Int32) then v.2.2.2.2.2.2.2.2.2.1 else v.2.2.2.2.2.2.2.2.2.2.1), none, vL (if ((XT.ushr r14 (3:Int32)) &&& (1:Int32)) = (0:Int32) then v.2.2.2.2.2.2.2.2.2.2.2.1 else v.2.2.2.2.2.2.2.2.2.2.2.2.1), none, none, none], [], (H0 s r70.2)) u τ := by
            intro z93 ez93
            subst ez93
            exact zM [tt,tt,tt,ff,tt,ff,tt,tt,tt,tt,tt,tt,tt,tt,ff,tt,ff,tt,ff,tt,ff,tt,tt,ff,ff,tt,ff,ff,tt,tt,tt,tt,ff,tt,ff,ff,ff] (tJ0_368 Ad W s r70.2 v.1 v.2.1 v.2.2.1 v.2.2.2.1 v.2.2.2.2.1 v.2.2.2.2.2.1 v.2.2.2.2.2.2.1 v.2.2.2.2.2.2.2.1 v.2.2.2.2.2.2.2.2.1 v.2.2.2.2.2.2.2.2.2.1 v.2.2.2.2.2.2.2.2.2.2.1 v.2.2.2.2.2.2.2.2.2.2.2.1 v.2.2.2.2.2.2.2.2.2.2.2.2.1 x21 v.2.2.2.2.2.2.2.2.2.2.2.2.2.1 ((XT.ushr r14 (3:Int32)) &&& (1:Int32)) (if ((XT.ushr r14 (3:Int32)) &&& (1:Int32)) = (0:Int32) then v.2.2.2.1 else v.2.2.2.2.1) (if ((XT.ushr r14 (3:Int32)) &&& (1:Int32)) = (0:Int32) then v.2.2.2.2.2.1 else v.2.2.2.2.2.2.1) (if r70.1 = r92 then (if ((XT.ushr r14 (3:Int32)) &&& (1:Int32)) = (0:Int32) then v.2.2.2.2.2.2.2.1 else v.2.2.2.2.2.2.2.2.1) else (1:Int32)) (if ((XT.ushr r14 (3:Int32)) &&& (1:Int32)) = (0:Int32) then v.2.2.2.2.2.2.2.2.2.1 else v.2.2.2.2.2.2.2.2.2.2.1) (if ((XT.ushr r14 (3:Int32)) &&& (1:Int32)) = (0:Int32) then v.2.2.2.2.2.2.2.2.2.2.2.1 else v.2.2.2.2.2.2.2.2.2.2.2.2.1) h hx0 hc)
           rcases em (r70.1 = r92) with hc95 | hc95
           ·refine zT Ad W (t := 368) (f := 296) rfl (XT.ii_eq_t hc95) ?_
            exact zM [tt,tt,tt,ff,tt,ff,tt,tt,tt,tt,tt,tt,tt,tt,ff,tt,ff,tt,ff,tt,ff,tt,tt,ff,ff,tt,ff,ff,tt,tt,tt,tt,ff,tt,ff,ff,ff] (K94 _ (if_pos hc95).symm)
           ·refine zF Ad W (t := 368) (f := 296) rfl (XT.ii_eq_f hc95) ?_
            refine zS Ad W 3 (st' := (368, [vR 0, vR 1, vL v.1, none, vL v.2.1, none, vI v.2.2.1, vI v.2.2.2.1, vI v.2.2.2.2.1, vI v.2.2.2.2.2.1, vI v.2.2.2.2.2.2.1, vI v.2.2.2.2.2.2.2.1, vI v.2.2.2.2.2.2.2.2.1, vL v.2.2.2.2.2.2.2.2.2.1, none, vL v.2.2.2.2.2.2.2.2.2.2.1, none, vL v.2.2.2.2.2.2.2.2.2.2.2.1, none, vL v.2.2.2.2.2.2.2.2.2.2.2.2.1, none, vI x21, vI v.2.2.2.2.2.2.2.2.2.2.2.2.2.1, none, vI (r14 &&& (7:Int32)), vI ((XT.ushr r14 (3:Int32)) &&& (1:Int32)), vI ((XT.ushr r14 (4:Int32)) &&& (7:Int32)), vI ((XT.ushr r14 (7:Int32)) &&& (15:Int32)), vI (if ((XT.ushr r14 (3:Int32)) &&& (1:Int32)) = (0:Int32) then v.2.2.2.1 else v.2.2.2.2.1), vI (if ((XT.ushr r14 (3:Int32)) &&& (1:Int32)) = (0:Int32) then v.2.2.2.2.2.1 else v.2.2.2.2.2.2.1), vI (1:Int32), vL (if ((XT.ushr r14 (3:Int32)) &&& (1:Int32)) = (0:Int32) then v.2.2.2.2.2.2.2.2.2.1 else v.2.2.2.2.2.2.2.2.2.2.1), none, vL (if ((XT.ushr r14 (3:Int32)) &&& (1:Int32)) = (0:Int32) then v.2.2.2.2.2.2.2.2.2.2.2.1 else v.2.2.2.2.2.2.2.2.2.2.2.2.1), none, vI r70.1, none], [], (H0 s r70.2))) rfl ?_
            exact zM [tt,tt,tt,ff,tt,ff,tt,tt,tt,tt,tt,tt,tt,tt,ff,tt,ff,tt,ff,tt,ff,tt,tt,ff,ff,tt,ff,ff,tt,tt,tt,tt,ff,tt,ff,ff,ff] (K94 _ (if_neg hc95).symm)
         ·refine zT Ad W (t := 371) (f := 264) rfl (XT.ii_ne_t hc56) ?_
          refine zS Ad W 2 (st' := (374, [vR 0, vR 1, vL v.1, none, vL v.2.1, none, vI v.2.2.1, vI v.2.2.2.1, vI v.2.2.2.2.1, vI v.2.2.2.2.2.1, vI v.2.2.2.2.2.2.1, vI v.2.2.2.2.2.2.2.1, vI v.2.2.2.2.2.2.2.2.1, vL v.2.2.2.2.2.2.2.2.2.1, none, vL v.2.2.2.2.2.2.2.2.2.2.1, none, vL v.2.2.2.2.2.2.2.2.2.2.2.1, none, vL v.2.2.2.2.2.2.2.2.2.2.2.2.1, none, vI x21, vI v.2.2.2.2.2.2.2.2.2.2.2.2.2.1, none, vI (r14 &&& (7:Int32)), vI ((XT.ushr r14 (3:Int32)) &&& (1:Int32)), vI ((XT.ushr r14 (4:Int32)) &&& (7:Int32)), vI ((XT.ushr r14 (7:Int32)) &&& (15:Int32)), vI (if ((XT.ushr r14 (3:Int32)) &&& (1:Int32)) = (0:Int32) then v.2.2.2.1 else v.2.2.2.2.1), vI (if ((XT.ushr r14 (3:Int32)) &&& (1:Int32)) = (0:Int32) then v.2.2.2.2.2.1 else v.2.2.2.2.2.2.1), vI (if ((XT.ushr r14 (3:Int32)) &&& (1:Int32)) = (0:Int32) then v.2.2.2.2.2.2.2.1 else v.2.2.2.2.2.2.2.2.1), vL (if ((XT.ushr r14 (3:Int32)) &&& (1:Int32)) = (0:Int32) then v.2.2.2.2.2.2.2.2.2.1 else v.2.2.2.2.2.2.2.2.2.2.1), none, vL (if ((XT.ushr r14 (3:Int32)) &&& (1:Int32)) = (0:Int32) then v.2.2.2.2.2.2.2.2.2.2.2.1 else v.2.2.2.2.2.2.2.2.2.2.2.2.1), none, none, none], [.int (3:Int32), .int (r14 &&& (7:Int32))], (H0 s v.2.2.2.2.2.2.2.2.2.2.2.2.2.2))) rfl ?_
          rcases qite h with ⟨hc96, h⟩ | ⟨hc96, h⟩
          ·refine zT Ad W (t := 383) (f := 377) rfl (XT.ii_eq_t hc96) ?_
           exact zM [tt,tt,tt,ff,tt,ff,tt,tt,tt,tt,tt,tt,tt,tt,ff,tt,ff,tt,ff,tt,ff,tt,tt,ff,ff,tt,tt,tt,tt,tt,tt,tt,ff,tt,ff,ff,ff] (tJ0_383 Ad W s v.2.2.2.2.2.2.2.2.2.2.2.2.2.2 v.1 v.2.1 v.2.2.1 v.2.2.2.1 v.2.2.2.2.1 v.2.2.2.2.2.1 v.2.2.2.2.2.2.1 v.2.2.2.2.2.2.2.1 v.2.2.2.2.2.2.2.2.1 v.2.2.2.2.2.2.2.2.2.1 v.2.2.2.2.2.2.2.2.2.2.1 v.2.2.2.2.2.2.2.2.2.2.2.1 v.2.2.2.2.2.2.2.2.2.2.2.2.1 x21 v.2.2.2.2.2.2.2.2.2.2.2.2.2.1 ((XT.ushr r14 (3:Int32)) &&& (1:Int32)) ((XT.ushr r14 (4:Int32)) &&& (7:Int32)) ((XT.ushr r14 (7:Int32)) &&& (15:Int32)) (if ((XT.ushr r14 (3:Int32)) &&& (1:Int32)) = (0:Int32) then v.2.2.2.1 else v.2.2.2.2.1) (if ((XT.ushr r14 (3:Int32)) &&& (1:Int32)) = (0:Int32) then v.2.2.2.2.2.1 else v.2.2.2.2.2.2.1) (if ((XT.ushr r14 (3:Int32)) &&& (1:Int32)) = (0:Int32) then v.2.2.2.2.2.2.2.1 else v.2.2.2.2.2.2.2.2.1) (if ((XT.ushr r14 (3:Int32)) &&& (1:Int32)) = (0:Int32) then v.2.2.2.2.2.2.2.2.2.1 else v.2.2.2.2.2.2.2.2.2.2.1) (if ((XT.ushr r14 (3:Int32)) &&& (1:Int32)) = (0:Int32) then v.2.2.2.2.2.2.2.2.2.2.2.1 else v.2.2.2.2.2.2.2.2.2.2.2.2.1) h hx0 hc)
          ·refine zF Ad W (t := 383) (f := 377) rfl (XT.ii_eq_f hc96) ?_
           refine zS Ad W 2 (st' := (380, [vR 0, vR 1, vL v.1, none, vL v.2.1, none, vI v.2.2.1, vI v.2.2.2.1, vI v.2.2.2.2.1, vI v.2.2.2.2.2.1, vI v.2.2.2.2.2.2.1, vI v.2.2.2.2.2.2.2.1, vI v.2.2.2.2.2.2.2.2.1, vL v.2.2.2.2.2.2.2.2.2.1, none, vL v.2.2.2.2.2.2.2.2.2.2.1, none, vL v.2.2.2.2.2.2.2.2.2.2.2.1, none, vL v.2.2.2.2.2.2.2.2.2.2.2.2.1, none, vI x21, vI v.2.2.2.2.2.2.2.2.2.2.2.2.2.1, none, vI (r14 &&& (7:Int32)), vI ((XT.ushr r14 (3:Int32)) &&& (1:Int32)), vI ((XT.ushr r14 (4:Int32)) &&& (7:Int32)), vI ((XT.ushr r14 (7:Int32)) &&& (15:Int32)), vI (if ((XT.ushr r14 (3:Int32)) &&& (1:Int32)) = (0:Int32) then v.2.2.2.1 else v.2.2.2.2.1), vI (if ((XT.ushr r14 (3:Int32)) &&& (1:Int32)) = (0:Int32) then v.2.2.2.2.2.1 else v.2.2.2.2.2.2.1), vI (if ((XT.ushr r14 (3:Int32)) &&& (1:Int32)) = (0:Int32) then v.2.2.2.2.2.2.2.1 else v.2.2.2.2.2.2.2.2.1), vL (if ((XT.ushr r14 (3:Int32)) &&& (1:Int32)) = (0:Int32) then v.2.2.2.2.2.2.2.2.2.1 else v.2.2.2.2.2.2.2.2.2.2.1), none, vL (if ((XT.ushr r14 (3:Int32)) &&& (1:Int32)) = (0:Int32) then v.2.2.2.2.2.2.2.2.2.2.2.1 else v.2.2.2.2.2.2.2.2.2.2.2.2.1), none, none, none], [.int (4:Int32), .int (r14 &&& (7:Int32))], (H0 s v.2.2.2.2.2.2.2.2.2.2.2.2.2.2))) rfl ?_
           rcases qite h with ⟨hc110, h⟩ | ⟨hc110, h⟩
           ·refine zF Ad W (t := 423) (f := 383) rfl (XT.ii_ne_f hc110) ?_
            exact zM [tt,tt,tt,ff,tt,ff,tt,tt,tt,tt,tt,tt,tt,tt,ff,tt,ff,tt,ff,tt,ff,tt,tt,ff,ff,tt,tt,tt,tt,tt,tt,tt,ff,tt,ff,ff,ff] (tJ0_383 Ad W s v.2.2.2.2.2.2.2.2.2.2.2.2.2.2 v.1 v.2.1 v.2.2.1 v.2.2.2.1 v.2.2.2.2.1 v.2.2.2.2.2.1 v.2.2.2.2.2.2.1 v.2.2.2.2.2.2.2.1 v.2.2.2.2.2.2.2.2.1 v.2.2.2.2.2.2.2.2.2.1 v.2.2.2.2.2.2.2.2.2.2.1 v.2.2.2.2.2.2.2.2.2.2.2.1 v.2.2.2.2.2.2.2.2.2.2.2.2.1 x21 v.2.2.2.2.2.2.2.2.2.2.2.2.2.1 ((XT.ushr r14 (3:Int32)) &&& (1:Int32)) ((XT.ushr r14 (4:Int32)) &&& (7:Int32)) ((XT.ushr r14 (7:Int32)) &&& (15:Int32)) (if ((XT.ushr r14 (3:Int32)) &&& (1:Int32)) = (0:Int32) then v.2.2.2.1 else v.2.2.2.2.1) (if ((XT.ushr r14 (3:Int32)) &&& (1:Int32)) = (0:Int32) then v.2.2.2.2.2.1 else v.2.2.2.2.2.2.1) (if ((XT.ushr r14 (3:Int32)) &&& (1:Int32)) = (0:Int32) then v.2.2.2.2.2.2.2.1 else v.2.2.2.2.2.2.2.2.1) (if ((XT.ushr r14 (3:Int32)) &&& (1:Int32)) = (0:Int32) then v.2.2.2.2.2.2.2.2.2.1 else v.2.2.2.2.2.2.2.2.2.2.1) (if ((XT.ushr r14 (3:Int32)) &&& (1:Int32)) = (0:Int32) then v.2.2.2.2.2.2.2.2.2.2.2.1 else v.2.2.2.2.2.2.2.2.2.2.2.2.1) h hx0 hc)
           ·refine zT Ad W (t := 423) (f := 383) rfl (XT.ii_ne_t hc110) ?_
            refine zS Ad W 2 (st' := (426, [vR 0, vR 1, vL v.1, none, vL v.2.1, none, vI v.2.2.1, vI v.2.2.2.1, vI v.2.2.2.2.1, vI v.2.2.2.2.2.1, vI v.2.2.2.2.2.2.1, vI v.2.2.2.2.2.2.2.1, vI v.2.2.2.2.2.2.2.2.1, vL v.2.2.2.2.2.2.2.2.2.1, none, vL v.2.2.2.2.2.2.2.2.2.2.1, none, vL v.2.2.2.2.2.2.2.2.2.2.2.1, none, vL v.2.2.2.2.2.2.2.2.2.2.2.2.1, none, vI x21, vI v.2.2.2.2.2.2.2.2.2.2.2.2.2.1, none, vI (r14 &&& (7:Int32)), vI ((XT.ushr r14 (3:Int32)) &&& (1:Int32)), vI ((XT.ushr r14 (4:Int32)) &&& (7:Int32)), vI ((XT.ushr r14 (7:Int32)) &&& (15:Int32)), vI (if ((XT.ushr r14 (3:Int32)) &&& (1:Int32)) = (0:Int32) then v.2.2.2.1 else v.2.2.2.2.1), vI (if ((XT.ushr r14 (3:Int32)) &&& (1:Int32)) = (0:Int32) then v.2.2.2.2.2.1 else v.2.2.2.2.2.2.1), vI (if ((XT.ushr r14 (3:Int32)) &&& (1:Int32)) = (0:Int32) then v.2.2.2.2.2.2.2.1 else v.2.2.2.2.2.2.2.2.1), vL (if ((XT.ushr r14 (3:Int32)) &&& (1:Int32)) = (0:Int32) then v.2.2.2.2.2.2.2.2.2.1 else v.2.2.2.2.2.2.2.2.2.2.1), none, vL (if ((XT.ushr r14 (3:Int32)) &&& (1:Int32)) = (0:Int32) then v.2.2.2.2.2.2.2.2.2.2.2.1 else v.2.2.2.2.2.2.2.2.2.2.2.2.1), none, none, none], [.int (5:Int32), .int (r14 &&& (7:Int32))], (H0 s v.2.2.2.2.2.2.2.2.2.2.2.2.2.2))) rfl ?_
            rcases qite h with ⟨hc111, h⟩ | ⟨hc111, h⟩
            ·refine zT Ad W (t := 436) (f := 429) rfl (XT.ii_eq_t hc111) ?_
             exact zM [tt,tt,tt,ff,tt,ff,tt,tt,tt,tt,tt,tt,tt,tt,ff,tt,ff,tt,ff,tt,ff,tt,tt,ff,ff,tt,ff,ff,tt,tt,tt,tt,ff,tt,ff,ff,ff] (tJ0_436 Ad W s v.2.2.2.2.2.2.2.2.2.2.2.2.2.2 v.1 v.2.1 v.2.2.1 v.2.2.2.1 v.2.2.2.2.1 v.2.2.2.2.2.1 v.2.2.2.2.2.2.1 v.2.2.2.2.2.2.2.1 v.2.2.2.2.2.2.2.2.1 v.2.2.2.2.2.2.2.2.2.1 v.2.2.2.2.2.2.2.2.2.2.1 v.2.2.2.2.2.2.2.2.2.2.2.1 v.2.2.2.2.2.2.2.2.2.2.2.2.1 x21 v.2.2.2.2.2.2.2.2.2.2.2.2.2.1 ((XT.ushr r14 (3:Int32)) &&& (1:Int32)) (if ((XT.ushr r14 (3:Int32)) &&& (1:Int32)) = (0:Int32) then v.2.2.2.1 else v.2.2.2.2.1) (if ((XT.ushr r14 (3:Int32)) &&& (1:Int32)) = (0:Int32) then v.2.2.2.2.2.1 else v.2.2.2.2.2.2.1) (if ((XT.ushr r14 (3:Int32)) &&& (1:Int32)) = (0:Int32) then v.2.2.2.2.2.2.2.1 else v.2.2.2.2.2.2.2.2.1) (if ((XT.ushr r14 (3:Int32)) &&& (1:Int32)) = (0:Int32) then v.2.2.2.2.2.2.2.2.2.1 else v.2.2.2.2.2.2.2.2.2.2.1) (if ((XT.ushr r14 (3:Int32)) &&& (1:Int32)) = (0:Int32) then v.2.2.2.2.2.2.2.2.2.2.2.1 else v.2.2.2.2.2.2.2.2.2.2.2.2.1) h hx0 hc)
            ·refine zF Ad W (t := 436) (f := 429) rfl (XT.ii_eq_f hc111) ?_
             refine zS Ad W 2 (st' := (433, [vR 0, vR 1, vL v.1, none, vL v.2.1, none, vI v.2.2.1, vI v.2.2.2.1, vI v.2.2.2.2.1, vI v.2.2.2.2.2.1, vI v.2.2.2.2.2.2.1, vI v.2.2.2.2.2.2.2.1, vI v.2.2.2.2.2.2.2.2.1, vL v.2.2.2.2.2.2.2.2.2.1, none, vL v.2.2.2.2.2.2.2.2.2.2.1, none, vL v.2.2.2.2.2.2.2.2.2.2.2.1, none, vL v.2.2.2.2.2.2.2.2.2.2.2.2.1, none, vI x21, vI v.2.2.2.2.2.2.2.2.2.2.2.2.2.1, none, vI (r14 &&& (7:Int32)), vI ((XT.ushr r14 (3:Int32)) &&& (1:Int32)), vI ((XT.ushr r14 (4:Int32)) &&& (7:Int32)), vI ((XT.ushr r14 (7:Int32)) &&& (15:Int32)), vI (if ((XT.ushr r14 (3:Int32)) &&& (1:Int32)) = (0:Int32) then v.2.2.2.1 else v.2.2.2.2.1), vI (if ((XT.ushr r14 (3:Int32)) &&& (1:Int32)) = (0:Int32) then v.2.2.2.2.2.1 else v.2.2.2.2.2.2.1), vI (if ((XT.ushr r14 (3:Int32)) &&& (1:Int32)) = (0:Int32) then v.2.2.2.2.2.2.2.1 else v.2.2.2.2.2.2.2.2.1), vL (if ((XT.ushr r14 (3:Int32)) &&& (1:Int32)) = (0:Int32) then v.2.2.2.2.2.2.2.2.2.1 else v.2.2.2.2.2.2.2.2.2.2.1), none, vL (if ((XT.ushr r14 (3:Int32)) &&& (1:Int32)) = (0:Int32) then v.2.2.2.2.2.2.2.2.2.2.2.1 else v.2.2.2.2.2.2.2.2.2.2.2.2.1), none, none, none], [.int (6:Int32), .int (r14 &&& (7:Int32))], (H0 s v.2.2.2.2.2.2.2.2.2.2.2.2.2.2))) rfl ?_
             rcases qite h with ⟨hc179, h⟩ | ⟨hc179, h⟩
             ·refine zF Ad W (t := 570) (f := 436) rfl (XT.ii_ne_f hc179) ?_
              exact zM [tt,tt,tt,ff,tt,ff,tt,tt,tt,tt,tt,tt,tt,tt,ff,tt,ff,tt,ff,tt,ff,tt,tt,ff,ff,tt,ff,ff,tt,tt,tt,tt,ff,tt,ff,ff,ff] (tJ0_436 Ad W s v.2.2.2.2.2.2.2.2.2.2.2.2.2.2 v.1 v.2.1 v.2.2.1 v.2.2.2.1 v.2.2.2.2.1 v.2.2.2.2.2.1 v.2.2.2.2.2.2.1 v.2.2.2.2.2.2.2.1 v.2.2.2.2.2.2.2.2.1 v.2.2.2.2.2.2.2.2.2.1 v.2.2.2.2.2.2.2.2.2.2.1 v.2.2.2.2.2.2.2.2.2.2.2.1 v.2.2.2.2.2.2.2.2.2.2.2.2.1 x21 v.2.2.2.2.2.2.2.2.2.2.2.2.2.1 ((XT.ushr r14 (3:Int32)) &&& (1:Int32)) (if ((XT.ushr r14 (3:Int32)) &&& (1:Int32)) = (0:Int32) then v.2.2.2.1 else v.2.2.2.2.1) (if ((XT.ushr r14 (3:Int32)) &&& (1:Int32)) = (0:Int32) then v.2.2.2.2.2.1 else v.2.2.2.2.2.2.1) (if ((XT.ushr r14 (3:Int32)) &&& (1:Int32)) = (0:Int32) then v.2.2.2.2.2.2.2.1 else v.2.2.2.2.2.2.2.2.1) (if ((XT.ushr r14 (3:Int32)) &&& (1:Int32)) = (0:Int32) then v.2.2.2.2.2.2.2.2.2.1 else v.2.2.2.2.2.2.2.2.2.2.1) (if ((XT.ushr r14 (3:Int32)) &&& (1:Int32)) = (0:Int32) then v.2.2.2.2.2.2.2.2.2.2.2.1 else v.2.2.2.2.2.2.2.2.2.2.2.2.1) h hx0 hc)
             ·refine zT Ad W (t := 570) (f := 436) rfl (XT.ii_ne_t hc179) ?_
              refine zS Ad W 2 (st' := (573, [vR 0, vR 1, vL v.1, none, vL v.2.1, none, vI v.2.2.1, vI v.2.2.2.1, vI v.2.2.2.2.1, vI v.2.2.2.2.2.1, vI v.2.2.2.2.2.2.1, vI v.2.2.2.2.2.2.2.1, vI v.2.2.2.2.2.2.2.2.1, vL v.2.2.2.2.2.2.2.2.2.1, none, vL v.2.2.2.2.2.2.2.2.2.2.1, none, vL v.2.2.2.2.2.2.2.2.2.2.2.1, none, vL v.2.2.2.2.2.2.2.2.2.2.2.2.1, none, vI x21, vI v.2.2.2.2.2.2.2.2.2.2.2.2.2.1, none, vI (r14 &&& (7:Int32)), vI ((XT.ushr r14 (3:Int32)) &&& (1:Int32)), vI ((XT.ushr r14 (4:Int32)) &&& (7:Int32)), vI ((XT.ushr r14 (7:Int32)) &&& (15:Int32)), vI (if ((XT.ushr r14 (3:Int32)) &&& (1:Int32)) = (0:Int32) then v.2.2.2.1 else v.2.2.2.2.1), vI (if ((XT.ushr r14 (3:Int32)) &&& (1:Int32)) = (0:Int32) then v.2.2.2.2.2.1 else v.2.2.2.2.2.2.1), vI (if ((XT.ushr r14 (3:Int32)) &&& (1:Int32)) = (0:Int32) then v.2.2.2.2.2.2.2.1 else v.2.2.2.2.2.2.2.2.1), vL (if ((XT.ushr r14 (3:Int32)) &&& (1:Int32)) = (0:Int32) then v.2.2.2.2.2.2.2.2.2.1 else v.2.2.2.2.2.2.2.2.2.2.1), none, vL (if ((XT.ushr r14 (3:Int32)) &&& (1:Int32)) = (0:Int32) then v.2.2.2.2.2.2.2.2.2.2.2.1 else v.2.2.2.2.2.2.2.2.2.2.2.2.1), none, none, none], [.int ((XT.ushr r14 (3:Int32)) &&& (1:Int32)), .ref 1], (H0 s v.2.2.2.2.2.2.2.2.2.2.2.2.2.2))) rfl ?_
              obtain ⟨r184, hr184, h⟩ := bind_eq_some_iff.mp h
              refine QTri.callV W (a := 1) (as := [.int ((XT.ushr r14 (3:Int32)) &&& (1:Int32))]) (rest := []) (w := (some (.int r184.1))) (σ₁ := (H0 s r184.2)) rfl rfl rfl rfl rfl rfl rfl rfl (tF20 Ad W s v.2.2.2.2.2.2.2.2.2.2.2.2.2.2 ((XT.ushr r14 (3:Int32)) &&& (1:Int32)) hr184) ?_
              refine zS Ad W 1 (st' := (577, [vR 0, vR 1, vL v.1, none, vL v.2.1, none, vI v.2.2.1, vI v.2.2.2.1, vI v.2.2.2.2.1, vI v.2.2.2.2.2.1, vI v.2.2.2.2.2.2.1, vI v.2.2.2.2.2.2.2.1, vI v.2.2.2.2.2.2.2.2.1, vL v.2.2.2.2.2.2.2.2.2.1, none, vL v.2.2.2.2.2.2.2.2.2.2.1, none, vL v.2.2.2.2.2.2.2.2.2.2.2.1, none, vL v.2.2.2.2.2.2.2.2.2.2.2.2.1, none, vI x21, vI v.2.2.2.2.2.2.2.2.2.2.2.2.2.1, none, vI (r14 &&& (7:Int32)), vI ((XT.ushr r14 (3:Int32)) &&& (1:Int32)), vI ((XT.ushr r14 (4:Int32)) &&& (7:Int32)), vI ((XT.ushr r14 (7:Int32)) &&& (15:Int32)), vI (if ((XT.ushr r14 (3:Int32)) &&& (1:Int32)) = (0:Int32) then v.2.2.2.1 else v.2.2.2.2.1), vI (if ((XT.ushr r14 (3:Int32)) &&& (1:Int32)) = (0:Int32) then v.2.2.2.2.2.1 else v.2.2.2.2.2.2.1), vI (if ((XT.ushr r14 (3:Int32)) &&& (1:Int32)) = (0:Int32) then v.2.2.2.2.2.2.2.1 else v.2.2.2.2.2.2.2.2.1), vL (if ((XT.ushr r14 (3:Int32)) &&& (1:Int32)) = (0:Int32) then v.2.2.2.2.2.2.2.2.2.1 else v.2.2.2.2.2.2.2.2.2.2.1), none, vL (if ((XT.ushr r14 (3:Int32)) &&& (1:Int32)) = (0:Int32) then v.2.2.2.2.2.2.2.2.2.2.2.1 else v.2.2.2.2.2.2.2.2.2.2.2.2.1), none, none, none], [], (H0 s r184.2))) rfl ?_
              exact zM [tt,tt,tt,ff,tt,ff,tt,tt,tt,tt,tt,tt,tt,tt,ff,tt,ff,tt,ff,tt,ff,tt,tt,ff,ff,tt,ff,ff,tt,tt,tt,tt,ff,tt,ff,ff,ff] (tJ0_577 Ad W s r184.2 v.1 v.2.1 v.2.2.1 v.2.2.2.1 v.2.2.2.2.1 v.2.2.2.2.2.1 v.2.2.2.2.2.2.1 v.2.2.2.2.2.2.2.1 v.2.2.2.2.2.2.2.2.1 v.2.2.2.2.2.2.2.2.2.1 v.2.2.2.2.2.2.2.2.2.2.1 v.2.2.2.2.2.2.2.2.2.2.2.1 v.2.2.2.2.2.2.2.2.2.2.2.2.1 x21 v.2.2.2.2.2.2.2.2.2.2.2.2.2.1 ((XT.ushr r14 (3:Int32)) &&& (1:Int32)) (if ((XT.ushr r14 (3:Int32)) &&& (1:Int32)) = (0:Int32) then v.2.2.2.1 else v.2.2.2.2.1) (if ((XT.ushr r14 (3:Int32)) &&& (1:Int32)) = (0:Int32) then v.2.2.2.2.2.1 else v.2.2.2.2.2.2.1) (if ((XT.ushr r14 (3:Int32)) &&& (1:Int32)) = (0:Int32) then v.2.2.2.2.2.2.2.1 else v.2.2.2.2.2.2.2.2.1) (if ((XT.ushr r14 (3:Int32)) &&& (1:Int32)) = (0:Int32) then v.2.2.2.2.2.2.2.2.2.1 else v.2.2.2.2.2.2.2.2.2.2.1) (if ((XT.ushr r14 (3:Int32)) &&& (1:Int32)) = (0:Int32) then v.2.2.2.2.2.2.2.2.2.2.2.1 else v.2.2.2.2.2.2.2.2.2.2.2.2.1) h hx0 hc)
        rcases em (((XT.ushr r14 (3:Int32)) &&& (1:Int32)) = (0:Int32)) with hc55 | hc55
        ·refine zF Ad W (t := 254) (f := 249) rfl (XT.i0_ne_f hc55) ?_
         refine zS Ad W 2 (st' := (256, [vR 0, vR 1, vL v.1, none, vL v.2.1, none, vI v.2.2.1, vI v.2.2.2.1, vI v.2.2.2.2.1, vI v.2.2.2.2.2.1, vI v.2.2.2.2.2.2.1, vI v.2.2.2.2.2.2.2.1, vI v.2.2.2.2.2.2.2.2.1, vL v.2.2.2.2.2.2.2.2.2.1, none, vL v.2.2.2.2.2.2.2.2.2.2.1, none, vL v.2.2.2.2.2.2.2.2.2.2.2.1, none, vL v.2.2.2.2.2.2.2.2.2.2.2.2.1, none, vI x21, vI v.2.2.2.2.2.2.2.2.2.2.2.2.2.1, none, vI (r14 &&& (7:Int32)), vI ((XT.ushr r14 (3:Int32)) &&& (1:Int32)), vI ((XT.ushr r14 (4:Int32)) &&& (7:Int32)), vI ((XT.ushr r14 (7:Int32)) &&& (15:Int32)), vI (if ((XT.ushr r14 (3:Int32)) &&& (1:Int32)) = (0:Int32) then v.2.2.2.1 else v.2.2.2.2.1), vI (if ((XT.ushr r14 (3:Int32)) &&& (1:Int32)) = (0:Int32) then v.2.2.2.2.2.1 else v.2.2.2.2.2.2.1), vI (if ((XT.ushr r14 (3:Int32)) &&& (1:Int32)) = (0:Int32) then v.2.2.2.2.2.2.2.1 else v.2.2.2.2.2.2.2.2.1), vL (if ((XT.ushr r14 (3:Int32)) &&& (1:Int32)) = (0:Int32) then v.2.2.2.2.2.2.2.2.2.1 else v.2.2.2.2.2.2.2.2.2.2.1), none, none, none, none, none], [.long v.2.2.2.2.2.2.2.2.2.2.2.1], (H0 s v.2.2.2.2.2.2.2.2.2.2.2.2.2.2))) rfl ?_
         exact zM [tt,tt,tt,ff,tt,ff,tt,tt,tt,tt,tt,tt,tt,tt,ff,tt,ff,tt,ff,tt,ff,tt,tt,ff,tt,tt,tt,tt,tt,tt,tt,tt,ff,ff,ff,ff,ff] (K54 _ (if_pos hc55).symm)
        ·refine zT Ad W (t := 254) (f := 249) rfl (XT.i0_ne_t hc55) ?_
         refine zS Ad W 1 (st' := (256, [vR 0, vR 1, vL v.1, none, vL v.2.1, none, vI v.2.2.1, vI v.2.2.2.1, vI v.2.2.2.2.1, vI v.2.2.2.2.2.1, vI v.2.2.2.2.2.2.1, vI v.2.2.2.2.2.2.2.1, vI v.2.2.2.2.2.2.2.2.1, vL v.2.2.2.2.2.2.2.2.2.1, none, vL v.2.2.2.2.2.2.2.2.2.2.1, none, vL v.2.2.2.2.2.2.2.2.2.2.2.1, none, vL v.2.2.2.2.2.2.2.2.2.2.2.2.1, none, vI x21, vI v.2.2.2.2.2.2.2.2.2.2.2.2.2.1, none, vI (r14 &&& (7:Int32)), vI ((XT.ushr r14 (3:Int32)) &&& (1:Int32)), vI ((XT.ushr r14 (4:Int32)) &&& (7:Int32)), vI ((XT.ushr r14 (7:Int32)) &&& (15:Int32)), vI (if ((XT.ushr r14 (3:Int32)) &&& (1:Int32)) = (0:Int32) then v.2.2.2.1 else v.2.2.2.2.1), vI (if ((XT.ushr r14 (3:Int32)) &&& (1:Int32)) = (0:Int32) then v.2.2.2.2.2.1 else v.2.2.2.2.2.2.1), vI (if ((XT.ushr r14 (3:Int32)) &&& (1:Int32)) = (0:Int32) then v.2.2.2.2.2.2.2.1 else v.2.2.2.2.2.2.2.2.1), vL (if ((XT.ushr r14 (3:Int32)) &&& (1:Int32)) = (0:Int32) then v.2.2.2.2.2.2.2.2.2.1 else v.2.2.2.2.2.2.2.2.2.2.1), none, none, none, none, none], [.long v.2.2.2.2.2.2.2.2.2.2.2.2.1], (H0 s v.2.2.2.2.2.2.2.2.2.2.2.2.2.2))) rfl ?_
         exact zM [tt,tt,tt,ff,tt,ff,tt,tt,tt,tt,tt,tt,tt,tt,ff,tt,ff,tt,ff,tt,ff,tt,tt,ff,tt,tt,tt,tt,tt,tt,tt,tt,ff,ff,ff,ff,ff] (K54 _ (if_neg hc55).symm)
       rcases em (((XT.ushr r14 (3:Int32)) &&& (1:Int32)) = (0:Int32)) with hc52 | hc52
       ·refine zF Ad W (t := 240) (f := 235) rfl (XT.i0_ne_f hc52) ?_
        refine zS Ad W 2 (st' := (242, [vR 0, vR 1, vL v.1, none, vL v.2.1, none, vI v.2.2.1, vI v.2.2.2.1, vI v.2.2.2.2.1, vI v.2.2.2.2.2.1, vI v.2.2.2.2.2.2.1, vI v.2.2.2.2.2.2.2.1, vI v.2.2.2.2.2.2.2.2.1, vL v.2.2.2.2.2.2.2.2.2.1, none, vL v.2.2.2.2.2.2.2.2.2.2.1, none, vL v.2.2.2.2.2.2.2.2.2.2.2.1, none, vL v.2.2.2.2.2.2.2.2.2.2.2.2.1, none, vI x21, vI v.2.2.2.2.2.2.2.2.2.2.2.2.2.1, none, vI (r14 &&& (7:Int32)), vI ((XT.ushr r14 (3:Int32)) &&& (1:Int32)), vI ((XT.ushr r14 (4:Int32)) &&& (7:Int32)), vI ((XT.ushr r14 (7:Int32)) &&& (15:Int32)), vI (if ((XT.ushr r14 (3:Int32)) &&& (1:Int32)) = (0:Int32) then v.2.2.2.1 else v.2.2.2.2.1), vI (if ((XT.ushr r14 (3:Int32)) &&& (1:Int32)) = (0:Int32) then v.2.2.2.2.2.1 else v.2.2.2.2.2.2.1), vI (if ((XT.ushr r14 (3:Int32)) &&& (1:Int32)) = (0:Int32) then v.2.2.2.2.2.2.2.1 else v.2.2.2.2.2.2.2.2.1), none, none, none, none, none, none], [.long v.2.2.2.2.2.2.2.2.2.1], (H0 s v.2.2.2.2.2.2.2.2.2.2.2.2.2.2))) rfl ?_
        exact zM [tt,tt,tt,ff,tt,ff,tt,tt,tt,tt,tt,tt,tt,tt,ff,tt,ff,tt,ff,tt,ff,tt,tt,ff,tt,tt,tt,tt,tt,tt,tt,ff,ff,ff,ff,ff,ff] (K51 _ (if_pos hc52).symm)
       ·refine zT Ad W (t := 240) (f := 235) rfl (XT.i0_ne_t hc52) ?_
        refine zS Ad W 1 (st' := (242, [vR 0, vR 1, vL v.1, none, vL v.2.1, none, vI v.2.2.1, vI v.2.2.2.1, vI v.2.2.2.2.1, vI v.2.2.2.2.2.1, vI v.2.2.2.2.2.2.1, vI v.2.2.2.2.2.2.2.1, vI v.2.2.2.2.2.2.2.2.1, vL v.2.2.2.2.2.2.2.2.2.1, none, vL v.2.2.2.2.2.2.2.2.2.2.1, none, vL v.2.2.2.2.2.2.2.2.2.2.2.1, none, vL v.2.2.2.2.2.2.2.2.2.2.2.2.1, none, vI x21, vI v.2.2.2.2.2.2.2.2.2.2.2.2.2.1, none, vI (r14 &&& (7:Int32)), vI ((XT.ushr r14 (3:Int32)) &&& (1:Int32)), vI ((XT.ushr r14 (4:Int32)) &&& (7:Int32)), vI ((XT.ushr r14 (7:Int32)) &&& (15:Int32)), vI (if ((XT.ushr r14 (3:Int32)) &&& (1:Int32)) = (0:Int32) then v.2.2.2.1 else v.2.2.2.2.1), vI (if ((XT.ushr r14 (3:Int32)) &&& (1:Int32)) = (0:Int32) then v.2.2.2.2.2.1 else v.2.2.2.2.2.2.1), vI (if ((XT.ushr r14 (3:Int32)) &&& (1:Int32)) = (0:Int32) then v.2.2.2.2.2.2.2.1 else v.2.2.2.2.2.2.2.2.1), none, none, none, none, none, none], [.long v.2.2.2.2.2.2.2.2.2.2.1], (H0 s v.2.2.2.2.2.2.2.2.2.2.2.2.2.2))) rfl ?_
        exact zM [tt,tt,tt,ff,tt,ff,tt,tt,tt,tt,tt,tt,tt,tt,ff,tt,ff,tt,ff,tt,ff,tt,tt,ff,tt,tt,tt,tt,tt,tt,tt,ff,ff,ff,ff,ff,ff] (K51 _ (if_neg hc52).symm)
      rcases em (((XT.ushr r14 (3:Int32)) &&& (1:Int32)) = (0:Int32)) with hc49 | hc49
      ·refine zF Ad W (t := 226) (f := 221) rfl (XT.i0_ne_f hc49) ?_
       refine zS Ad W 2 (st' := (228, [vR 0, vR 1, vL v.1, none, vL v.2.1, none, vI v.2.2.1, vI v.2.2.2.1, vI v.2.2.2.2.1, vI v.2.2.2.2.2.1, vI v.2.2.2.2.2.2.1, vI v.2.2.2.2.2.2.2.1, vI v.2.2.2.2.2.2.2.2.1, vL v.2.2.2.2.2.2.2.2.2.1, none, vL v.2.2.2.2.2.2.2.2.2.2.1, none, vL v.2.2.2.2.2.2.2.2.2.2.2.1, none, vL v.2.2.2.2.2.2.2.2.2.2.2.2.1, none, vI x21, vI v.2.2.2.2.2.2.2.2.2.2.2.2.2.1, none, vI (r14 &&& (7:Int32)), vI ((XT.ushr r14 (3:Int32)) &&& (1:Int32)), vI ((XT.ushr r14 (4:Int32)) &&& (7:Int32)), vI ((XT.ushr r14 (7:Int32)) &&& (15:Int32)), vI (if ((XT.ushr r14 (3:Int32)) &&& (1:Int32)) = (0:Int32) then v.2.2.2.1 else v.2.2.2.2.1), vI (if ((XT.ushr r14 (3:Int32)) &&& (1:Int32)) = (0:Int32) then v.2.2.2.2.2.1 else v.2.2.2.2.2.2.1), none, none, none, none, none, none, none], [.int v.2.2.2.2.2.2.2.1], (H0 s v.2.2.2.2.2.2.2.2.2.2.2.2.2.2))) rfl ?_
       exact zM [tt,tt,tt,ff,tt,ff,tt,tt,tt,tt,tt,tt,tt,tt,ff,tt,ff,tt,ff,tt,ff,tt,tt,ff,tt,tt,tt,tt,tt,tt,ff,ff,ff,ff,ff,ff,ff] (K48 _ (if_pos hc49).symm)
      ·refine zT Ad W (t := 226) (f := 221) rfl (XT.i0_ne_t hc49) ?_
       refine zS Ad W 1 (st' := (228, [vR 0, vR 1, vL v.1, none, vL v.2.1, none, vI v.2.2.1, vI v.2.2.2.1, vI v.2.2.2.2.1, vI v.2.2.2.2.2.1, vI v.2.2.2.2.2.2.1, vI v.2.2.2.2.2.2.2.1, vI v.2.2.2.2.2.2.2.2.1, vL v.2.2.2.2.2.2.2.2.2.1, none, vL v.2.2.2.2.2.2.2.2.2.2.1, none, vL v.2.2.2.2.2.2.2.2.2.2.2.1, none, vL v.2.2.2.2.2.2.2.2.2.2.2.2.1, none, vI x21, vI v.2.2.2.2.2.2.2.2.2.2.2.2.2.1, none, vI (r14 &&& (7:Int32)), vI ((XT.ushr r14 (3:Int32)) &&& (1:Int32)), vI ((XT.ushr r14 (4:Int32)) &&& (7:Int32)), vI ((XT.ushr r14 (7:Int32)) &&& (15:Int32)), vI (if ((XT.ushr r14 (3:Int32)) &&& (1:Int32)) = (0:Int32) then v.2.2.2.1 else v.2.2.2.2.1), vI (if ((XT.ushr r14 (3:Int32)) &&& (1:Int32)) = (0:Int32) then v.2.2.2.2.2.1 else v.2.2.2.2.2.2.1), none, none, none, none, none, none, none], [.int v.2.2.2.2.2.2.2.2.1], (H0 s v.2.2.2.2.2.2.2.2.2.2.2.2.2.2))) rfl ?_
       exact zM [tt,tt,tt,ff,tt,ff,tt,tt,tt,tt,tt,tt,tt,tt,ff,tt,ff,tt,ff,tt,ff,tt,tt,ff,tt,tt,tt,tt,tt,tt,ff,ff,ff,ff,ff,ff,ff] (K48 _ (if_neg hc49).symm)
     rcases em (((XT.ushr r14 (3:Int32)) &&& (1:Int32)) = (0:Int32)) with hc46 | hc46
     ·refine zF Ad W (t := 212) (f := 207) rfl (XT.i0_ne_f hc46) ?_
      refine zS Ad W 2 (st' := (214, [vR 0, vR 1, vL v.1, none, vL v.2.1, none, vI v.2.2.1, vI v.2.2.2.1, vI v.2.2.2.2.1, vI v.2.2.2.2.2.1, vI v.2.2.2.2.2.2.1, vI v.2.2.2.2.2.2.2.1, vI v.2.2.2.2.2.2.2.2.1, vL v.2.2.2.2.2.2.2.2.2.1, none, vL v.2.2.2.2.2.2.2.2.2.2.1, none, vL v.2.2.2.2.2.2.2.2.2.2.2.1, none, vL v.2.2.2.2.2.2.2.2.2.2.2.2.1, none, vI x21, vI v.2.2.2.2.2.2.2.2.2.2.2.2.2.1, none, vI (r14 &&& (7:Int32)), vI ((XT.ushr r14 (3:Int32)) &&& (1:Int32)), vI ((XT.ushr r14 (4:Int32)) &&& (7:Int32)), vI ((XT.ushr r14 (7:Int32)) &&& (15:Int32)), vI (if ((XT.ushr r14 (3:Int32)) &&& (1:Int32)) = (0:Int32) then v.2.2.2.1 else v.2.2.2.2.1), none, none, none, none, none, none, none, none], [.int v.2.2.2.2.2.1], (H0 s v.2.2.2.2.2.2.2.2.2.2.2.2.2.2))) rfl ?_
      exact zM [tt,tt,tt,ff,tt,ff,tt,tt,tt,tt,tt,tt,tt,tt,ff,tt,ff,tt,ff,tt,ff,tt,tt,ff,tt,tt,tt,tt,tt,ff,ff,ff,ff,ff,ff,ff,ff] (K45 _ (if_pos hc46).symm)
     ·refine zT Ad W (t := 212) (f := 207) rfl (XT.i0_ne_t hc46) ?_
      refine zS Ad W 1 (st' := (214, [vR 0, vR 1, vL v.1, none, vL v.2.1, none, vI v.2.2.1, vI v.2.2.2.1, vI v.2.2.2.2.1, vI v.2.2.2.2.2.1, vI v.2.2.2.2.2.2.1, vI v.2.2.2.2.2.2.2.1, vI v.2.2.2.2.2.2.2.2.1, vL v.2.2.2.2.2.2.2.2.2.1, none, vL v.2.2.2.2.2.2.2.2.2.2.1, none, vL v.2.2.2.2.2.2.2.2.2.2.2.1, none, vL v.2.2.2.2.2.2.2.2.2.2.2.2.1, none, vI x21, vI v.2.2.2.2.2.2.2.2.2.2.2.2.2.1, none, vI (r14 &&& (7:Int32)), vI ((XT.ushr r14 (3:Int32)) &&& (1:Int32)), vI ((XT.ushr r14 (4:Int32)) &&& (7:Int32)), vI ((XT.ushr r14 (7:Int32)) &&& (15:Int32)), vI (if ((XT.ushr r14 (3:Int32)) &&& (1:Int32)) = (0:Int32) then v.2.2.2.1 else v.2.2.2.2.1), none, none, none, none, none, none, none, none], [.int v.2.2.2.2.2.2.1], (H0 s v.2.2.2.2.2.2.2.2.2.2.2.2.2.2))) rfl ?_
      exact zM [tt,tt,tt,ff,tt,ff,tt,tt,tt,tt,tt,tt,tt,tt,ff,tt,ff,tt,ff,tt,ff,tt,tt,ff,tt,tt,tt,tt,tt,ff,ff,ff,ff,ff,ff,ff,ff] (K45 _ (if_neg hc46).symm)
    rcases em (((XT.ushr r14 (3:Int32)) &&& (1:Int32)) = (0:Int32)) with hc43 | hc43
    ·refine zF Ad W (t := 198) (f := 193) rfl (XT.i0_ne_f hc43) ?_
     refine zS Ad W 2 (st' := (200, [vR 0, vR 1, vL v.1, none, vL v.2.1, none, vI v.2.2.1, vI v.2.2.2.1, vI v.2.2.2.2.1, vI v.2.2.2.2.2.1, vI v.2.2.2.2.2.2.1, vI v.2.2.2.2.2.2.2.1, vI v.2.2.2.2.2.2.2.2.1, vL v.2.2.2.2.2.2.2.2.2.1, none, vL v.2.2.2.2.2.2.2.2.2.2.1, none, vL v.2.2.2.2.2.2.2.2.2.2.2.1, none, vL v.2.2.2.2.2.2.2.2.2.2.2.2.1, none, vI x21, vI v.2.2.2.2.2.2.2.2.2.2.2.2.2.1, vI r14, vI (r14 &&& (7:Int32)), vI ((XT.ushr r14 (3:Int32)) &&& (1:Int32)), vI ((XT.ushr r14 (4:Int32)) &&& (7:Int32)), vI ((XT.ushr r14 (7:Int32)) &&& (15:Int32)), none, none, none, none, none, none, none, none, none], [.int v.2.2.2.1], (H0 s v.2.2.2.2.2.2.2.2.2.2.2.2.2.2))) rfl ?_
     exact zM [tt,tt,tt,ff,tt,ff,tt,tt,tt,tt,tt,tt,tt,tt,ff,tt,ff,tt,ff,tt,ff,tt,tt,ff,tt,tt,tt,tt,ff,ff,ff,ff,ff,ff,ff,ff,ff] (K42 _ (if_pos hc43).symm)
    ·refine zT Ad W (t := 198) (f := 193) rfl (XT.i0_ne_t hc43) ?_
     refine zS Ad W 1 (st' := (200, [vR 0, vR 1, vL v.1, none, vL v.2.1, none, vI v.2.2.1, vI v.2.2.2.1, vI v.2.2.2.2.1, vI v.2.2.2.2.2.1, vI v.2.2.2.2.2.2.1, vI v.2.2.2.2.2.2.2.1, vI v.2.2.2.2.2.2.2.2.1, vL v.2.2.2.2.2.2.2.2.2.1, none, vL v.2.2.2.2.2.2.2.2.2.2.1, none, vL v.2.2.2.2.2.2.2.2.2.2.2.1, none, vL v.2.2.2.2.2.2.2.2.2.2.2.2.1, none, vI x21, vI v.2.2.2.2.2.2.2.2.2.2.2.2.2.1, vI r14, vI (r14 &&& (7:Int32)), vI ((XT.ushr r14 (3:Int32)) &&& (1:Int32)), vI ((XT.ushr r14 (4:Int32)) &&& (7:Int32)), vI ((XT.ushr r14 (7:Int32)) &&& (15:Int32)), none, none, none, none, none, none, none, none, none], [.int v.2.2.2.2.1], (H0 s v.2.2.2.2.2.2.2.2.2.2.2.2.2.2))) rfl ?_
     exact zM [tt,tt,tt,ff,tt,ff,tt,tt,tt,tt,tt,tt,tt,tt,ff,tt,ff,tt,ff,tt,ff,tt,tt,ff,tt,tt,tt,tt,ff,ff,ff,ff,ff,ff,ff,ff,ff] (K42 _ (if_neg hc43).symm)
  ·refine zF Ad W (t := 179) (f := 126) rfl (XT.ii_gt_f hc15) ?_
   refine zS Ad W 1 (st' := (127, [vR 0, vR 1, vL v.1, none, vL v.2.1, none, vI v.2.2.1, vI v.2.2.2.1, vI v.2.2.2.2.1, vI v.2.2.2.2.2.1, vI v.2.2.2.2.2.2.1, vI v.2.2.2.2.2.2.2.1, vI v.2.2.2.2.2.2.2.2.1, vL v.2.2.2.2.2.2.2.2.2.1, none, vL v.2.2.2.2.2.2.2.2.2.2.1, none, vL v.2.2.2.2.2.2.2.2.2.2.2.1, none, vL v.2.2.2.2.2.2.2.2.2.2.2.2.1, none, vI x21, vI v.2.2.2.2.2.2.2.2.2.2.2.2.2.1, vI r14, vI (r14 &&& (7:Int32)), vI ((XT.ushr r14 (3:Int32)) &&& (1:Int32)), vI ((XT.ushr r14 (4:Int32)) &&& (7:Int32)), vI ((XT.ushr r14 (7:Int32)) &&& (15:Int32)), none, none, none, none, none, none, none, none, none], [.ref 1], (H0 s v.2.2.2.2.2.2.2.2.2.2.2.2.2.2))) rfl ?_
   obtain ⟨r198, hr198, h⟩ := bind_eq_some_iff.mp h
   refine QTri.callV W (a := 1) (as := []) (rest := []) (w := (some (.int r198.1))) (σ₁ := (H0 s r198.2)) rfl rfl rfl rfl rfl rfl rfl rfl (tF11 Ad W s v.2.2.2.2.2.2.2.2.2.2.2.2.2.2 hr198) ?_
   refine zS Ad W 2 (st' := (134, [vR 0, vR 1, vL v.1, none, vL v.2.1, none, vI v.2.2.1, vI v.2.2.2.1, vI v.2.2.2.2.1, vI v.2.2.2.2.2.1, vI v.2.2.2.2.2.2.1, vI v.2.2.2.2.2.2.2.1, vI v.2.2.2.2.2.2.2.2.1, vL v.2.2.2.2.2.2.2.2.2.1, none, vL v.2.2.2.2.2.2.2.2.2.2.1, none, vL v.2.2.2.2.2.2.2.2.2.2.2.1, none, vL v.2.2.2.2.2.2.2.2.2.2.2.2.1, none, vI x21, vI v.2.2.2.2.2.2.2.2.2.2.2.2.2.1, vI r14, vI (r14 &&& (7:Int32)), vI ((XT.ushr r14 (3:Int32)) &&& (1:Int32)), vI ((XT.ushr r14 (4:Int32)) &&& (7:Int32)), vI ((XT.ushr r14 (7:Int32)) &&& (15:Int32)), vI r198.1, none, none, none, none, none, none, none, none], [.int r198.1], (H0 s r198.2))) rfl ?_
   have K209 : ∀ z199 : Int32, z199 = (if r198.1 = (0:Int32) then (0:Int32) else v.2.2.2.1) → ∀ z200 : Int32, z200 = (if r198.1 = (0:Int32) then v.2.2.2.2.1 else (if r198.1 = (1:Int32) then (0:Int32) else v.2.2.2.2.1)) → ∀ z201 : Int32, z201 = (if r198.1 = (0:Int32) then (0:Int32) else v.2.2.2.2.2.1) → ∀ z202 : Int32, z202 = (if r198.1 = (0:Int32) then v.2.2.2.2.2.2.1 else (if r198.1 = (1:Int32) then (0:Int32) else v.2.2.2.2.2.2.1)) → ∀ z203 : Int32, z203 = (if r198.1 = (0:Int32) then (0:Int32) else v.2.2.2.2.2.2.2.1) → ∀ z204 : Int32, z204 = (if r198.1 = (0:Int32) then v.2.2.2.2.2.2.2.2.1 else (if r198.1 = (1:Int32) then (0:Int32) else v.2.2.2.2.2.2.2.2.1)) → ∀ z205 : Int64, z205 = (if r198.1 = (0:Int32) then (0 : Int64) else v.2.2.2.2.2.2.2.2.2.1) → ∀ z206 : Int64, z206 = (if r198.1 = (0:Int32) then v.2.2.2.2.2.2.2.2.2.2.1 else (if r198.1 = (1:Int32) then (0 : Int64) else v.2.2.2.2.2.2.2.2.2.2.1)) → ∀ z207 : Int64, z207 = (if r198.1 = (0:Int32) then (0 : Int64) else v.2.2.2.2.2.2.2.2.2.2.2.1) → ∀ z208 : Int64, z208 = (if r198.1 = (0:Int32) then v.2.2.2.2.2.2.2.2.2.2.2.2.1 else (if r198.1 = (1:Int32) then (0 : Int64) else v.2.2.2.2.2.2.2.2.2.2.2.2.1)) → QTri l Z n0 ad 0 (176, [vR 0, vR 1, vL v.1, none, vL v.2.1, none, vI v.2.2.1, vI z199, vI z200, vI z201, vI z202, vI z203, vI z204, vL z205, none, vL z206, none, vL z207, none, vL z208, none, vI x21, vI v.2.2.2.2.2.2.2.2.2.2.2.2.2.1, none, none, none, none, none, none, none, none, none, none, none, none, none, none], [], (H0 s r198.2)) u τ := by
    intro z199 ez199
    intro z200 ez200
    intro z201 ez201
    intro z202 ez202
    intro z203 ez203
    intro z204 ez204
    intro z205 ez205
    intro z206 ez206
    intro z207 ez207
    intro z208 ez208
    subst ez199
    subst ez200
    subst ez201
    subst ez202
    subst ez203
    subst ez204
    subst ez205
    subst ez206
    subst ez207
    subst ez208
    refine zS Ad W 1 (st' := (625, [vR 0, vR 1, vL v.1, none, vL v.2.1, none, vI v.2.2.1, vI (if r198.1 = (0:Int32) then (0:Int32) else v.2.2.2.1), vI (if r198.1 = (0:Int32) then v.2.2.2.2.1 else (if r198.1 = (1:Int32) then (0:Int32) else v.2.2.2.2.1)), vI (if r198.1 = (0:Int32) then (0:Int32) else v.2.2.2.2.2.1), vI (if r198.1 = (0:Int32) then v.2.2.2.2.2.2.1 else (if r198.1 = (1:Int32) then (0:Int32) else v.2.2.2.2.2.2.1)), vI (if r198.1 = (0:Int32) then (0:Int32) else v.2.2.2.2.2.2.2.1), vI (if r198.1 = (0:Int32) then v.2.2.2.2.2.2.2.2.1 else (if r198.1 = (1:Int32) then (0:Int32) else v.2.2.2.2.2.2.2.2.1)), vL (if r198.1 = (0:Int32) then (0 : Int64) else v.2.2.2.2.2.2.2.2.2.1), none, vL (if r198.1 = (0:Int32) then v.2.2.2.2.2.2.2.2.2.2.1 else (if r198.1 = (1:Int32) then (0 : Int64) else v.2.2.2.2.2.2.2.2.2.2.1)), none, vL (if r198.1 = (0:Int32) then (0 : Int64) else v.2.2.2.2.2.2.2.2.2.2.2.1), none, vL (if r198.1 = (0:Int32) then v.2.2.2.2.2.2.2.2.2.2.2.2.1 else (if r198.1 = (1:Int32) then (0 : Int64) else v.2.2.2.2.2.2.2.2.2.2.2.2.1)), none, vI x21, vI v.2.2.2.2.2.2.2.2.2.2.2.2.2.1, none, none, none, none, none, none, none, none, none, none, none, none, none, none], [], (H0 s r198.2))) rfl ?_
    exact zM [tt,tt,tt,ff,tt,ff,tt,tt,tt,tt,tt,tt,tt,tt,ff,tt,ff,tt,ff,tt,ff,tt,tt,ff,ff,ff,ff,ff,ff,ff,ff,ff,ff,ff,ff,ff,ff] (tJ0_625 Ad W s r198.2 v.1 v.2.1 v.2.2.1 (if r198.1 = (0:Int32) then (0:Int32) else v.2.2.2.1) (if r198.1 = (0:Int32) then v.2.2.2.2.1 else (if r198.1 = (1:Int32) then (0:Int32) else v.2.2.2.2.1)) (if r198.1 = (0:Int32) then (0:Int32) else v.2.2.2.2.2.1) (if r198.1 = (0:Int32) then v.2.2.2.2.2.2.1 else (if r198.1 = (1:Int32) then (0:Int32) else v.2.2.2.2.2.2.1)) (if r198.1 = (0:Int32) then (0:Int32) else v.2.2.2.2.2.2.2.1) (if r198.1 = (0:Int32) then v.2.2.2.2.2.2.2.2.1 else (if r198.1 = (1:Int32) then (0:Int32) else v.2.2.2.2.2.2.2.2.1)) (if r198.1 = (0:Int32) then (0 : Int64) else v.2.2.2.2.2.2.2.2.2.1) (if r198.1 = (0:Int32) then v.2.2.2.2.2.2.2.2.2.2.1 else (if r198.1 = (1:Int32) then (0 : Int64) else v.2.2.2.2.2.2.2.2.2.2.1)) (if r198.1 = (0:Int32) then (0 : Int64) else v.2.2.2.2.2.2.2.2.2.2.2.1) (if r198.1 = (0:Int32) then v.2.2.2.2.2.2.2.2.2.2.2.2.1 else (if r198.1 = (1:Int32) then (0 : Int64) else v.2.2.2.2.2.2.2.2.2.2.2.2.1)) x21 v.2.2.2.2.2.2.2.2.2.2.2.2.2.1 h hx0 hc)
   rcases em (r198.1 = (0:Int32)) with hc210 | hc210
   ·refine zF Ad W (t := 155) (f := 137) rfl (XT.i0_ne_f hc210) ?_
    refine zS Ad W 4 (st' := (143, [vR 0, vR 1, vL v.1, none, vL v.2.1, none, vI v.2.2.1, vI (0:Int32), vI v.2.2.2.2.1, vI (0:Int32), vI v.2.2.2.2.2.2.1, vI v.2.2.2.2.2.2.2.1, vI v.2.2.2.2.2.2.2.2.1, vL v.2.2.2.2.2.2.2.2.2.1, none, vL v.2.2.2.2.2.2.2.2.2.2.1, none, vL v.2.2.2.2.2.2.2.2.2.2.2.1, none, vL v.2.2.2.2.2.2.2.2.2.2.2.2.1, none, vI x21, vI v.2.2.2.2.2.2.2.2.2.2.2.2.2.1, vI r14, vI (r14 &&& (7:Int32)), vI ((XT.ushr r14 (3:Int32)) &&& (1:Int32)), vI ((XT.ushr r14 (4:Int32)) &&& (7:Int32)), vI ((XT.ushr r14 (7:Int32)) &&& (15:Int32)), vI r198.1, none, none, none, none, none, none, none, none], [], (H0 s r198.2))) rfl ?_
    refine zS Ad W 4 (st' := (149, [vR 0, vR 1, vL v.1, none, vL v.2.1, none, vI v.2.2.1, vI (0:Int32), vI v.2.2.2.2.1, vI (0:Int32), vI v.2.2.2.2.2.2.1, vI (0:Int32), vI v.2.2.2.2.2.2.2.2.1, vL (0 : Int64), none, vL v.2.2.2.2.2.2.2.2.2.2.1, none, vL v.2.2.2.2.2.2.2.2.2.2.2.1, none, vL v.2.2.2.2.2.2.2.2.2.2.2.2.1, none, vI x21, vI v.2.2.2.2.2.2.2.2.2.2.2.2.2.1, vI r14, vI (r14 &&& (7:Int32)), vI ((XT.ushr r14 (3:Int32)) &&& (1:Int32)), vI ((XT.ushr r14 (4:Int32)) &&& (7:Int32)), vI ((XT.ushr r14 (7:Int32)) &&& (15:Int32)), vI r198.1, none, none, none, none, none, none, none, none], [], (H0 s r198.2))) rfl ?_
    refine zS Ad W 3 (st' := (176, [vR 0, vR 1, vL v.1, none, vL v.2.1, none, vI v.2.2.1, vI (0:Int32), vI v.2.2.2.2.1, vI (0:Int32), vI v.2.2.2.2.2.2.1, vI (0:Int32), vI v.2.2.2.2.2.2.2.2.1, vL (0 : Int64), none, vL v.2.2.2.2.2.2.2.2.2.2.1, none, vL (0 : Int64), none, vL v.2.2.2.2.2.2.2.2.2.2.2.2.1, none, vI x21, vI v.2.2.2.2.2.2.2.2.2.2.2.2.2.1, vI r14, vI (r14 &&& (7:Int32)), vI ((XT.ushr r14 (3:Int32)) &&& (1:Int32)), vI ((XT.ushr r14 (4:Int32)) &&& (7:Int32)), vI ((XT.ushr r14 (7:Int32)) &&& (15:Int32)), vI r198.1, none, none, none, none, none, none, none, none], [], (H0 s r198.2))) rfl ?_
    exact zM [tt,tt,tt,ff,tt,ff,tt,tt,tt,tt,tt,tt,tt,tt,ff,tt,ff,tt,ff,tt,ff,tt,tt,ff,ff,ff,ff,ff,ff,ff,ff,ff,ff,ff,ff,ff,ff] (K209 _ (if_pos hc210).symm _ (if_pos hc210).symm _ (if_pos hc210).symm _ (if_pos hc210).symm _ (if_pos hc210).symm _ (if_pos hc210).symm _ (if_pos hc210).symm _ (if_pos hc210).symm _ (if_pos hc210).symm _ (if_pos hc210).symm)
   ·refine zT Ad W (t := 155) (f := 137) rfl (XT.i0_ne_t hc210) ?_
    refine zS Ad W 2 (st' := (158, [vR 0, vR 1, vL v.1, none, vL v.2.1, none, vI v.2.2.1, vI v.2.2.2.1, vI v.2.2.2.2.1, vI v.2.2.2.2.2.1, vI v.2.2.2.2.2.2.1, vI v.2.2.2.2.2.2.2.1, vI v.2.2.2.2.2.2.2.2.1, vL v.2.2.2.2.2.2.2.2.2.1, none, vL v.2.2.2.2.2.2.2.2.2.2.1, none, vL v.2.2.2.2.2.2.2.2.2.2.2.1, none, vL v.2.2.2.2.2.2.2.2.2.2.2.2.1, none, vI x21, vI v.2.2.2.2.2.2.2.2.2.2.2.2.2.1, vI r14, vI (r14 &&& (7:Int32)), vI ((XT.ushr r14 (3:Int32)) &&& (1:Int32)), vI ((XT.ushr r14 (4:Int32)) &&& (7:Int32)), vI ((XT.ushr r14 (7:Int32)) &&& (15:Int32)), vI r198.1, none, none, none, none, none, none, none, none], [.int (1:Int32), .int r198.1], (H0 s r198.2))) rfl ?_
    rcases em (r198.1 = (1:Int32)) with hc211 | hc211
    ·refine zF Ad W (t := 176) (f := 161) rfl (XT.ii_ne_f hc211) ?_
     refine zS Ad W 4 (st' := (167, [vR 0, vR 1, vL v.1, none, vL v.2.1, none, vI v.2.2.1, vI v.2.2.2.1, vI (0:Int32), vI v.2.2.2.2.2.1, vI (0:Int32), vI v.2.2.2.2.2.2.2.1, vI v.2.2.2.2.2.2.2.2.1, vL v.2.2.2.2.2.2.2.2.2.1, none, vL v.2.2.2.2.2.2.2.2.2.2.1, none, vL v.2.2.2.2.2.2.2.2.2.2.2.1, none, vL v.2.2.2.2.2.2.2.2.2.2.2.2.1, none, vI x21, vI v.2.2.2.2.2.2.2.2.2.2.2.2.2.1, vI r14, vI (r14 &&& (7:Int32)), vI ((XT.ushr r14 (3:Int32)) &&& (1:Int32)), vI ((XT.ushr r14 (4:Int32)) &&& (7:Int32)), vI ((XT.ushr r14 (7:Int32)) &&& (15:Int32)), vI r198.1, none, none, none, none, none, none, none, none], [], (H0 s r198.2))) rfl ?_
     refine zS Ad W 4 (st' := (173, [vR 0, vR 1, vL v.1, none, vL v.2.1, none, vI v.2.2.1, vI v.2.2.2.1, vI (0:Int32), vI v.2.2.2.2.2.1, vI (0:Int32), vI v.2.2.2.2.2.2.2.1, vI (0:Int32), vL v.2.2.2.2.2.2.2.2.2.1, none, vL (0 : Int64), none, vL v.2.2.2.2.2.2.2.2.2.2.2.1, none, vL v.2.2.2.2.2.2.2.2.2.2.2.2.1, none, vI x21, vI v.2.2.2.2.2.2.2.2.2.2.2.2.2.1, vI r14, vI (r14 &&& (7:Int32)), vI ((XT.ushr r14 (3:Int32)) &&& (1:Int32)), vI ((XT.ushr r14 (4:Int32)) &&& (7:Int32)), vI ((XT.ushr r14 (7:Int32)) &&& (15:Int32)), vI r198.1, none, none, none, none, none, none, none, none], [], (H0 s r198.2))) rfl ?_
     refine zS Ad W 2 (st' := (176, [vR 0, vR 1, vL v.1, none, vL v.2.1, none, vI v.2.2.1, vI v.2.2.2.1, vI (0:Int32), vI v.2.2.2.2.2.1, vI (0:Int32), vI v.2.2.2.2.2.2.2.1, vI (0:Int32), vL v.2.2.2.2.2.2.2.2.2.1, none, vL (0 : Int64), none, vL v.2.2.2.2.2.2.2.2.2.2.2.1, none, vL (0 : Int64), none, vI x21, vI v.2.2.2.2.2.2.2.2.2.2.2.2.2.1, vI r14, vI (r14 &&& (7:Int32)), vI ((XT.ushr r14 (3:Int32)) &&& (1:Int32)), vI ((XT.ushr r14 (4:Int32)) &&& (7:Int32)), vI ((XT.ushr r14 (7:Int32)) &&& (15:Int32)), vI r198.1, none, none, none, none, none, none, none, none], [], (H0 s r198.2))) rfl ?_
     exact zM [tt,tt,tt,ff,tt,ff,tt,tt,tt,tt,tt,tt,tt,tt,ff,tt,ff,tt,ff,tt,ff,tt,tt,ff,ff,ff,ff,ff,ff,ff,ff,ff,ff,ff,ff,ff,ff] (K209 _ (if_neg hc210).symm _ ((if_neg hc210).trans (if_pos hc211)).symm _ (if_neg hc210).symm _ ((if_neg hc210).trans (if_pos hc211)).symm _ (if_neg hc210).symm _ ((if_neg hc210).trans (if_pos hc211)).symm _ (if_neg hc210).symm _ ((if_neg hc210).trans (if_pos hc211)).symm _ (if_neg hc210).symm _ ((if_neg hc210).trans (if_pos hc211)).symm)
    ·refine zT Ad W (t := 176) (f := 161) rfl (XT.ii_ne_t hc211) ?_
     exact zM [tt,tt,tt,ff,tt,ff,tt,tt,tt,tt,tt,tt,tt,tt,ff,tt,ff,tt,ff,tt,ff,tt,tt,ff,ff,ff,ff,ff,ff,ff,ff,ff,ff,ff,ff,ff,ff] (K209 _ (if_neg hc210).symm _ ((if_neg hc210).trans (if_neg hc211)).symm _ (if_neg hc210).symm _ ((if_neg hc210).trans (if_neg hc211)).symm _ (if_neg hc210).symm _ ((if_neg hc210).trans (if_neg hc211)).symm _ (if_neg hc210).symm _ ((if_neg hc210).trans (if_neg hc211)).symm _ (if_neg hc210).symm _ ((if_neg hc210).trans (if_neg hc211)).symm)
 ·refine zT Ad W (t := 682) (f := 78) rfl (XT.ii_ge_t hc11) ?_
  refine zS Ad W 1 (st' := (683, [vR 0, vR 1, vL v.1, none, vL v.2.1, none, vI v.2.2.1, vI v.2.2.2.1, vI v.2.2.2.2.1, vI v.2.2.2.2.2.1, vI v.2.2.2.2.2.2.1, vI v.2.2.2.2.2.2.2.1, vI v.2.2.2.2.2.2.2.2.1, vL v.2.2.2.2.2.2.2.2.2.1, none, vL v.2.2.2.2.2.2.2.2.2.2.1, none, vL v.2.2.2.2.2.2.2.2.2.2.2.1, none, vL v.2.2.2.2.2.2.2.2.2.2.2.2.1, none, vI x21, vI v.2.2.2.2.2.2.2.2.2.2.2.2.2.1, none, none, none, none, none, none, none, none, none, none, none, none, none, none], [.int (1:Int32)], (H0 s v.2.2.2.2.2.2.2.2.2.2.2.2.2.2))) rfl ?_
  obtain rfl := Option.some.inj h
  obtain ⟨rfl, rfl⟩ := hx0 ((1:Int32), (H0 s v.2.2.2.2.2.2.2.2.2.2.2.2.2.2)) rfl
  exact QTri.retZ rfl rfl
/-- the law -/
def F0 (s : List Int32) : Option (Int32 × QHeap) :=
 (F1 (8:Int32) (2:Int32) (2:Int32)).bind fun r7 => (loopN (B0_71 s (if (s.length.toInt32) < (240:Int32) then (s.length.toInt32) else (240:Int32))) qN ((0 : Int64), (0 : Int64), (0:Int32), (0:Int32), (0:Int32), (0:Int32), (0:Int32), (0:Int32), (0:Int32), (0 : Int64), (0 : Int64), (0 : Int64), (0 : Int64), (0:Int32), r7)).bind fun e212 => some e212
theorem tF0 (Ad : QAd n0 ad) (W : QW Z a0) (s : List Int32) {r : Int32 × QHeap} (h : F0 s = some r) : QTri l Z n0 ad 0 (0, qentry [.ref 0] (pMaxL 0), [], [.inr (.inl (.int, s))]) (some (Value.int r.1)) r.2 := by
 unfold F0 at h
 refine zS Ad W 1 (st' := (3, [vR 0, none, none, none, none, none, none, none, none, none, none, none, none, none, none, none, none, none, none, none, none, none, none, none, none, none, none, none, none, none, none, none, none, none, none, none, none], [.ref 1], [.inr (.inl (.int, s)), .inl [.null, .null, .null, .null, .null, .null, .null, .int (f_keyCount ob0), .int (f_slotCount ob0), .int (f_window ob0), .int (f_commitCount ob0), .int (f_abortCount ob0), .int (f_lastConflict ob0)]])) rfl ?_
 refine zS Ad W 4 (st' := (8, [vR 0, none, none, none, none, none, none, none, none, none, none, none, none, none, none, none, none, none, none, none, none, none, none, none, none, none, none, none, none, none, none, none, none, none, none, none, none], [.int (2:Int32), .int (2:Int32), .int (8:Int32), .ref 1, .ref 1], [.inr (.inl (.int, s)), .inl [.null, .null, .null, .null, .null, .null, .null, .int (f_keyCount ob0), .int (f_slotCount ob0), .int (f_window ob0), .int (f_commitCount ob0), .int (f_abortCount ob0), .int (f_lastConflict ob0)]])) rfl ?_
 obtain ⟨r7, hr7, h⟩ := bind_eq_some_iff.mp h
 refine QTri.callI W (a := 1) (as := [.int (8:Int32), .int (2:Int32), .int (2:Int32)]) (rest := [.ref 1]) (σ₁ := (H0 s r7)) rfl rfl rfl rfl rfl rfl (tF1 Ad W s (8:Int32) (2:Int32) (2:Int32) hr7) ?_
 refine zS Ad W 3 (st' := (14, [vR 0, vR 1, vL (0 : Int64), none, none, none, none, none, none, none, none, none, none, none, none, none, none, none, none, none, none, none, none, none, none, none, none, none, none, none, none, none, none, none, none, none, none], [], (H0 s r7))) rfl ?_
 refine zS Ad W 4 (st' := (20, [vR 0, vR 1, vL (0 : Int64), none, vL (0 : Int64), none, vI (0:Int32), none, none, none, none, none, none, none, none, none, none, none, none, none, none, none, none, none, none, none, none, none, none, none, none, none, none, none, none, none, none], [], (H0 s r7))) rfl ?_
 refine zS Ad W 4 (st' := (26, [vR 0, vR 1, vL (0 : Int64), none, vL (0 : Int64), none, vI (0:Int32), vI (0:Int32), vI (0:Int32), none, none, none, none, none, none, none, none, none, none, none, none, none, none, none, none, none, none, none, none, none, none, none, none, none, none, none, none], [], (H0 s r7))) rfl ?_
 refine zS Ad W 4 (st' := (32, [vR 0, vR 1, vL (0 : Int64), none, vL (0 : Int64), none, vI (0:Int32), vI (0:Int32), vI (0:Int32), vI (0:Int32), vI (0:Int32), none, none, none, none, none, none, none, none, none, none, none, none, none, none, none, none, none, none, none, none, none, none, none, none, none, none], [], (H0 s r7))) rfl ?_
 refine zS Ad W 4 (st' := (38, [vR 0, vR 1, vL (0 : Int64), none, vL (0 : Int64), none, vI (0:Int32), vI (0:Int32), vI (0:Int32), vI (0:Int32), vI (0:Int32), vI (0:Int32), vI (0:Int32), none, none, none, none, none, none, none, none, none, none, none, none, none, none, none, none, none, none, none, none, none, none, none, none], [], (H0 s r7))) rfl ?_
 refine zS Ad W 4 (st' := (44, [vR 0, vR 1, vL (0 : Int64), none, vL (0 : Int64), none, vI (0:Int32), vI (0:Int32), vI (0:Int32), vI (0:Int32), vI (0:Int32), vI (0:Int32), vI (0:Int32), vL (0 : Int64), none, vL (0 : Int64), none, none, none, none, none, none, none, none, none, none, none, none, none, none, none, none, none, none, none, none, none], [], (H0 s r7))) rfl ?_
 refine zS Ad W 4 (st' := (50, [vR 0, vR 1, vL (0 : Int64), none, vL (0 : Int64), none, vI (0:Int32), vI (0:Int32), vI (0:Int32), vI (0:Int32), vI (0:Int32), vI (0:Int32), vI (0:Int32), vL (0 : Int64), none, vL (0 : Int64), none, vL (0 : Int64), none, vL (0 : Int64), none, none, none, none, none, none, none, none, none, none, none, none, none, none, none, none, none], [], (H0 s r7))) rfl ?_
 refine zS Ad W 3 (st' := (55, [vR 0, vR 1, vL (0 : Int64), none, vL (0 : Int64), none, vI (0:Int32), vI (0:Int32), vI (0:Int32), vI (0:Int32), vI (0:Int32), vI (0:Int32), vI (0:Int32), vL (0 : Int64), none, vL (0 : Int64), none, vL (0 : Int64), none, vL (0 : Int64), none, none, none, none, none, none, none, none, none, none, none, none, none, none, none, none, none], [.int (240:Int32), .int (s.length.toInt32)], (H0 s r7))) rfl ?_
 have K9 : ∀ z8 : Int32, z8 = (if (s.length.toInt32) < (240:Int32) then (s.length.toInt32) else (240:Int32)) → QTri l Z n0 ad 0 (66, [vR 0, vR 1, vL (0 : Int64), none, vL (0 : Int64), none, vI (0:Int32), vI (0:Int32), vI (0:Int32), vI (0:Int32), vI (0:Int32), vI (0:Int32), vI (0:Int32), vL (0 : Int64), none, vL (0 : Int64), none, vL (0 : Int64), none, vL (0 : Int64), none, none, none, none, none, none, none, none, none, none, none, none, none, none, none, none, none], [.int z8], (H0 s r7)) (some (Value.int r.1)) r.2 := by
  intro z8 ez8
  subst ez8
  refine zS Ad W 3 (st' := (71, [vR 0, vR 1, vL (0 : Int64), none, vL (0 : Int64), none, vI (0:Int32), vI (0:Int32), vI (0:Int32), vI (0:Int32), vI (0:Int32), vI (0:Int32), vI (0:Int32), vL (0 : Int64), none, vL (0 : Int64), none, vL (0 : Int64), none, vL (0 : Int64), none, vI (if (s.length.toInt32) < (240:Int32) then (s.length.toInt32) else (240:Int32)), vI (0:Int32), none, none, none, none, none, none, none, none, none, none, none, none, none, none], [], (H0 s r7))) rfl ?_
  obtain ⟨e212, he212, h⟩ := bind_eq_some_iff.mp h
  refine zM [tt,tt,tt,ff,tt,ff,tt,tt,tt,tt,tt,tt,tt,tt,ff,tt,ff,tt,ff,tt,ff,tt,tt,ff,ff,ff,ff,ff,ff,ff,ff,ff,ff,ff,ff,ff,ff] (loopN_tri (B := B0_71 s (if (s.length.toInt32) < (240:Int32) then (s.length.toInt32) else (240:Int32))) (T := fun lv213 => QTri l Z n0 ad 0 (71, [vR 0, vR 1, vL lv213.1, none, vL lv213.2.1, none, vI lv213.2.2.1, vI lv213.2.2.2.1, vI lv213.2.2.2.2.1, vI lv213.2.2.2.2.2.1, vI lv213.2.2.2.2.2.2.1, vI lv213.2.2.2.2.2.2.2.1, vI lv213.2.2.2.2.2.2.2.2.1, vL lv213.2.2.2.2.2.2.2.2.2.1, none, vL lv213.2.2.2.2.2.2.2.2.2.2.1, none, vL lv213.2.2.2.2.2.2.2.2.2.2.2.1, none, vL lv213.2.2.2.2.2.2.2.2.2.2.2.2.1, none, vI (if (s.length.toInt32) < (240:Int32) then (s.length.toInt32) else (240:Int32)), vI lv213.2.2.2.2.2.2.2.2.2.2.2.2.2.1, none, none, none, none, none, none, none, none, none, none, none, none, none, none], [], (H0 s lv213.2.2.2.2.2.2.2.2.2.2.2.2.2.2)) (some (Value.int r.1)) r.2) (KE := fun e212a => (some (Value.int r.1)) = (some (Value.int e212a.1)) ∧ r.2 = e212a.2) (fun lv213 r hB hE hC => tB0_71 Ad W s (if (s.length.toInt32) < (240:Int32) then (s.length.toInt32) else (240:Int32)) lv213 hB (fun x q => hE _ q) (fun x q => hC x q)) qN ((0 : Int64), (0 : Int64), (0:Int32), (0:Int32), (0:Int32), (0:Int32), (0:Int32), (0:Int32), (0:Int32), (0 : Int64), (0 : Int64), (0 : Int64), (0 : Int64), (0:Int32), r7) e212 he212 ?_)
  obtain rfl := Option.some.inj h
  exact ⟨rfl, rfl⟩
 rcases em ((s.length.toInt32) < (240:Int32)) with hc10 | hc10
 ·refine zF Ad W (t := 63) (f := 58) rfl (XT.ii_ge_f hc10) ?_
  refine zS Ad W 3 (st' := (66, [vR 0, vR 1, vL (0 : Int64), none, vL (0 : Int64), none, vI (0:Int32), vI (0:Int32), vI (0:Int32), vI (0:Int32), vI (0:Int32), vI (0:Int32), vI (0:Int32), vL (0 : Int64), none, vL (0 : Int64), none, vL (0 : Int64), none, vL (0 : Int64), none, none, none, none, none, none, none, none, none, none, none, none, none, none, none, none, none], [.int (s.length.toInt32)], (H0 s r7))) rfl ?_
  exact zM [tt,tt,tt,ff,tt,ff,tt,tt,tt,tt,tt,tt,tt,tt,ff,tt,ff,tt,ff,tt,ff,ff,ff,ff,ff,ff,ff,ff,ff,ff,ff,ff,ff,ff,ff,ff,ff] (K9 _ (if_pos hc10).symm)
 ·refine zT Ad W (t := 63) (f := 58) rfl (XT.ii_ge_t hc10) ?_
  refine zS Ad W 1 (st' := (66, [vR 0, vR 1, vL (0 : Int64), none, vL (0 : Int64), none, vI (0:Int32), vI (0:Int32), vI (0:Int32), vI (0:Int32), vI (0:Int32), vI (0:Int32), vI (0:Int32), vL (0 : Int64), none, vL (0 : Int64), none, vL (0 : Int64), none, vL (0 : Int64), none, none, none, none, none, none, none, none, none, none, none, none, none, none, none, none, none], [.int (240:Int32)], (H0 s r7))) rfl ?_
  exact zM [tt,tt,tt,ff,tt,ff,tt,tt,tt,tt,tt,tt,tt,tt,ff,tt,ff,tt,ff,tt,ff,ff,ff,ff,ff,ff,ff,ff,ff,ff,ff,ff,ff,ff,ff,ff,ff] (K9 _ (if_neg hc10).symm)
end Walks
theorem script_ok {s : State} {w : Value} (hfit : Fit s) (h1 : (Jvm.Cond.arrayOf (Jvm.Term.arg 0) Jvm.ClassFile.FieldType.int).value #[w] s none s [] = some true) (h2 : (Jvm.Cond.le (Jvm.Term.length (Jvm.Term.arg 0)) (Jvm.Term.int 260)).value #[w] s none s [] = some true) :
    ∃ (a : Addr) (c : Cell) (xs : List Int32), w = .ref a ∧ Arr s s.heap a c .int ∧ c.slots = (xs.map Value.int).toArray ∧ xs.length ≤ 260 := by
  obtain ⟨a, ha⟩ := arr_v h1
  obtain ⟨c, A⟩ := Arr.start ha h1
  have hw : w = .ref a := by simpa [Term.eval] using ha
  subst hw
  have hel : ∀ i, i < c.slots.size → ∃ x, c.slots[i]? = some (.int x) := fun i hi => by
    have q := hfit A.1 hi
    obtain ⟨hs, k, hk, comp, hkind⟩ := A.2.1
    have e : s.slotType? c.cls c.vm i = some .int := by
      cases hq : c.vm <;> first | exact absurd hq (hs _) | simp [State.slotType?, hk, hkind]
    have q2 : fits .int c.slots[i] = true := by simpa [State.fitsSlot, e] using q
    obtain ⟨x, hx⟩ := fit_I q2 (Or.inl rfl)
    exact ⟨x, by rw [Array.getElem?_eq_getElem hi, hx]⟩
  refine ⟨a, c, c.slots.toList.map (fun v => match v with | .int x => x | _ => 0), rfl, A, ?_, ?_⟩
  · apply Array.ext'
    rw [List.map_map]
    have : c.slots.toList.map (Value.int ∘ fun v => match v with | .int x => x | _ => 0) = c.slots.toList := by
      conv => rhs; rw [← List.map_id c.slots.toList]
      refine List.map_congr_left fun v hv => ?_
      obtain ⟨i, hi⟩ := List.mem_iff_getElem?.mp hv
      rw [Array.getElem?_toList] at hi
      obtain ⟨x, hx⟩ := hel i (Array.getElem?_eq_some_iff.mp hi).1
      rw [hi] at hx
      cases hx
      rfl
    exact this.symm
  · have hl := A.fin (Vm.Alike.refl _)
    simp only [List.length_map, Array.length_toList]
    simp only [Cond.value, Term.eval] at h2
    simp [hl] at h2
    by_cases hs : c.slots.size < 2147483648
    · rw [if_pos hs] at h2
      have h3 : c.slots.size.toInt32 ≤ 260 := by simpa using h2
      rw [Int32.le_iff_toInt_le] at h3
      have h4 : (c.slots.size.toInt32).toInt = c.slots.size := Int32.toInt_ofNat_of_lt (by omega)
      rw [h4] at h3
      have h5 : (260 : Int32).toInt = 260 := rfl
      rw [h5] at h3
      omega
    · rw [if_neg hs] at h2
      simp at h2
set_option maxHeartbeats 4000000
theorem i_lt {x y : Int32} : x < y ↔ x.toInt < y.toInt := Int32.lt_iff_toInt_lt
theorem i_eq {x y : Int32} : x = y ↔ x.toInt = y.toInt := Int32.toInt_inj.symm
theorem i_lo (x : Int32) : -2147483648 ≤ x.toInt := Int32.le_toInt x
theorem i_hi (x : Int32) : x.toInt < 2147483648 := Int32.toInt_lt x
theorem i_add {x y : Int32} (h1 : -2147483648 ≤ x.toInt + y.toInt) (h2 : x.toInt + y.toInt < 2147483648) : (x + y).toInt = x.toInt + y.toInt := XT.add32 ⟨h1, by omega⟩
theorem i_sub {x y : Int32} (h1 : -2147483648 ≤ x.toInt - y.toInt) (h2 : x.toInt - y.toInt < 2147483648) : (x - y).toInt = x.toInt - y.toInt := XT.sub32 ⟨h1, by omega⟩
theorem i_mul {x y : Int32} (h1 : -2147483648 ≤ x.toInt * y.toInt) (h2 : x.toInt * y.toInt < 2147483648) : (x * y).toInt = x.toInt * y.toInt := XT.mul32 ⟨h1, by omega⟩
theorem i_nat (x : Int32) : x.toNatClampNeg = x.toInt.toNat := rfl
theorem aget_at {α : Type} {xs : List α} {j : Int32} {n : Nat} (hj : j.toInt = n) (hn : n < xs.length) : aget xs j = some xs[n] := by
 have h0 : ¬ j < 0 := by rw [i_lt]; show ¬ j.toInt < 0; omega
 unfold aget
 rw [if_neg h0, i_nat, hj]
 simp [hn]
theorem aget_rep {α : Type} {m : Nat} {a : α} {j : Int32} (h0 : 0 ≤ j.toInt) (h1 : j.toInt < m) : aget (List.replicate m a) j = some a := by
 rw [aget_at (n := j.toInt.toNat) (by omega) (by rw [List.length_replicate]; omega)]
 simp
theorem aset_at {α : Type} {xs : List α} {j : Int32} {n : Nat} {v : α} (hj : j.toInt = n) (hn : n < xs.length) : aset xs j v = some (xs.set n v) := by
 have h0 : ¬ j < 0 := by rw [i_lt]; show ¬ j.toInt < 0; omega
 unfold aset
 have e : j.toNatClampNeg = n := by rw [i_nat, hj]; simp
 rw [if_neg h0, e, if_pos hn]
theorem rep_set {α : Type} (m k : Nat) (a : α) : (List.replicate m a).set k a = List.replicate m a := by
 apply List.ext_getElem (by simp)
 intro i h1 h2
 rw [List.getElem_set]
 split <;> simp
theorem small_cases {x : Int32} (h0 : 0 ≤ x.toInt) {n : Nat} (h1 : x.toInt < n) {P : Int32 → Prop} (h : ∀ m : Nat, m < n → P (Int32.ofInt m)) : P x := by
 have e : Int32.ofInt (x.toInt.toNat : Nat) = x := by
  rw [Int.toNat_of_nonneg h0, Int32.ofInt_toInt]
 rw [← e]
 exact h _ (by omega)
theorem bit_ne {x : Int32} (h0 : 0 ≤ x.toInt) (h1 : x.toInt < 32) : ¬ (((1 : Int32) <<< (x &&& 31)) &&& ((1 : Int32) <<< (x &&& 31))) = 0 :=
 small_cases (P := fun x => ¬ (((1 : Int32) <<< (x &&& 31)) &&& ((1 : Int32) <<< (x &&& 31))) = 0) h0 (n := 32) h1 (by decide)
def okP {α : Type} (m : Option α) (P : α → Prop) : Prop := ∃ a, m = some a ∧ P a
theorem okP.some {α : Type} {a : α} {P : α → Prop} (h : P a) : okP (some a) P := ⟨a, rfl, h⟩
theorem okP.bind {α β : Type} {m : Option α} {f : α → Option β} {P : β → Prop} (h : okP m fun a => okP (f a) P) : okP (m.bind f) P := by
 obtain ⟨a, e, b, e2, h2⟩ := h
 exact ⟨b, by rw [e]; exact e2, h2⟩
theorem okP.ite {α : Type} {c : Prop} [Decidable c] {a b : Option α} {P : α → Prop} (h1 : c → okP a P) (h2 : ¬ c → okP b P) : okP (if c then a else b) P := by
 by_cases h : c
 ·rw [if_pos h]; exact h1 h
 ·rw [if_neg h]; exact h2 h
theorem okP.mono {α : Type} {m : Option α} {P Q : α → Prop} (h : okP m P) (k : ∀ a, P a → Q a) : okP m Q := by
 obtain ⟨a, e, h⟩ := h
 exact ⟨a, e, k a h⟩
theorem okP.of {α : Type} {m : Option α} {a : α} {P : α → Prop} (e : m = Option.some a) (h : P a) : okP m P := ⟨a, e, h⟩
theorem okP.aget {α : Type} {xs : List α} {j : Int32} {P : α → Prop} (h0 : 0 ≤ j.toInt) (h1 : j.toInt < xs.length) (k : ∀ v, xs[j.toInt.toNat]? = Option.some v → P v) : okP (aget xs j) P :=
 ⟨_, aget_at (n := j.toInt.toNat) (by omega) (by omega), k _ (List.getElem?_eq_getElem _)⟩
theorem okP.aset {α : Type} {xs : List α} {j : Int32} {v : α} {P : List α → Prop} (h0 : 0 ≤ j.toInt) (h1 : j.toInt < xs.length) (k : P (xs.set j.toInt.toNat v)) : okP (aset xs j v) P :=
 ⟨_, aset_at (n := j.toInt.toNat) (by omega) (by omega), k⟩
theorem okP.loop {V E : Type} {B : V → Option (E ⊕ V)} {P : E → Prop} {n : Nat} {v : V} (I : V → Prop) (μ : V → Nat) (hv : I v) (hm : μ v < n) (hB : ∀ v, I v → okP (B v) (fun r => Sum.elim P (fun v' => I v' ∧ μ v' < μ v) r)) : okP (loopN B n v) P := by
 refine loopN_inv I P μ ?_ n v hv hm
 intro v hv
 obtain ⟨r, e, h⟩ := hB v hv
 cases r with
 | inl x => exact Or.inl ⟨x, e, h⟩
 | inr x => exact Or.inr ⟨x, e, h⟩
theorem len_i {n : Nat} (h : n ≤ 1000) : (n.toInt32).toInt = n := by
 have e : n.toInt32 = Int32.ofInt n := rfl
 rw [e, Int32.toInt_ofInt_of_le (by show _ ≤ (n : Int); omega) (by show (n : Int) < _; omega)]
theorem and1 (x : Int32) : x &&& 1 = 0 ∨ x &&& 1 = 1 := by
 have e : (x &&& 1).toBitVec = x.toBitVec &&& 1#32 := rfl
 have h := BitVec.and_one_eq_setWidth_ofBool_getLsbD (x := x.toBitVec)
 cases g : x.toBitVec.getLsbD 0
 ·left; apply Int32.toBitVec_inj.1; rw [e, h, g]; rfl
 ·right; apply Int32.toBitVec_inj.1; rw [e, h, g]; rfl
theorem okP.not {α : Type} {m : Option α} {a : α} {P : α → Prop} (h : okP m P) (e : m = Option.some a) : P a := by
 obtain ⟨b, e2, h⟩ := h
 rw [e] at e2
 exact (Option.some.inj e2) ▸ h
theorem and_rng {x m : Int32} (hm : 0 ≤ m.toInt) : 0 ≤ (x &&& m).toInt ∧ (x &&& m).toInt ≤ m.toInt := by
 have e : (x &&& m).toBitVec.toNat = x.toBitVec.toNat &&& m.toBitVec.toNat := BitVec.toNat_and ..
 have l : (x &&& m).toBitVec.toNat ≤ m.toBitVec.toNat := by rw [e]; exact Nat.and_le_right
 have c1 : m.toInt = if 2 * m.toBitVec.toNat < 2 ^ 32 then (m.toBitVec.toNat : Int) else m.toBitVec.toNat - (2 ^ 32 : Nat) := BitVec.toInt_eq_toNat_cond m.toBitVec
 have c2 : (x &&& m).toInt = if 2 * (x &&& m).toBitVec.toNat < 2 ^ 32 then ((x &&& m).toBitVec.toNat : Int) else (x &&& m).toBitVec.toNat - (2 ^ 32 : Nat) := BitVec.toInt_eq_toNat_cond (x &&& m).toBitVec
 have b : m.toBitVec.toNat < 2 ^ 32 := m.toBitVec.isLt
 by_cases h : 2 * m.toBitVec.toNat < 2 ^ 32
 ·rw [if_pos h] at c1
  rw [if_pos (by omega)] at c2
  omega
 ·rw [if_neg h] at c1
  omega
theorem mod_rng {x m : Int32} (hx : 0 ≤ x.toInt) (hm : 0 < m.toInt) : 0 ≤ (x % m).toInt ∧ (x % m).toInt < m.toInt := by
 rw [Int32.toInt_mod, Int.tmod_eq_emod_of_nonneg hx]
 exact ⟨Int.emod_nonneg _ (by omega), Int.emod_lt_of_pos _ hm⟩
def sFit (s : List Int32) (τ : QHeap) : Prop := τ.length - List.length ([Sum.inr (Sum.inl (FieldType.int, s))] : QHeap) ≤ room_1.cells ∧ qhs τ - qhs [Sum.inr (Sum.inl (FieldType.int, s))] ≤ room_1.slots
def Sh (K n : Int32) (o : Ob) : Prop := (f_value o).length = 32 ∧ (f_version o).length = 32 ∧ (f_active o).length = 8 ∧ (f_start o).length = 8 ∧ (f_readSet o).length = 8 ∧ (f_writeSet o).length = 8 ∧ (f_buffered o).length = 256 ∧ f_keyCount o = K ∧ f_slotCount o = n
theorem Sh_buf {K n : Int32} {o : Ob} (h : Sh K n o) {x : List Int32} (hx : x.length = 256) : Sh K n (s_buffered o x) := ⟨h.1, h.2.1, h.2.2.1, h.2.2.2.1, h.2.2.2.2.1, h.2.2.2.2.2.1, hx, h.2.2.2.2.2.2.2⟩
theorem Sh_wr {K n : Int32} {o : Ob} (h : Sh K n o) {x : List Int32} (hx : x.length = 8) : Sh K n (s_writeSet o x) := ⟨h.1, h.2.1, h.2.2.1, h.2.2.2.1, h.2.2.2.2.1, hx, h.2.2.2.2.2.2.1, h.2.2.2.2.2.2.2⟩
theorem Sh_rd {K n : Int32} {o : Ob} (h : Sh K n o) {x : List Int32} (hx : x.length = 8) : Sh K n (s_readSet o x) := ⟨h.1, h.2.1, h.2.2.1, h.2.2.2.1, hx, h.2.2.2.2.2.1, h.2.2.2.2.2.2.1, h.2.2.2.2.2.2.2⟩
theorem Sh_st {K n : Int32} {o : Ob} (h : Sh K n o) {x : List Int32} (hx : x.length = 8) : Sh K n (s_start o x) := ⟨h.1, h.2.1, h.2.2.1, hx, h.2.2.2.2.1, h.2.2.2.2.2.1, h.2.2.2.2.2.2.1, h.2.2.2.2.2.2.2⟩
theorem Sh_ac {K n : Int32} {o : Ob} (h : Sh K n o) {x : List Int32} (hx : x.length = 8) : Sh K n (s_active o x) := ⟨h.1, h.2.1, hx, h.2.2.2.1, h.2.2.2.2.1, h.2.2.2.2.2.1, h.2.2.2.2.2.2.1, h.2.2.2.2.2.2.2⟩
theorem Sh_ve {K n : Int32} {o : Ob} (h : Sh K n o) {x : List Int32} (hx : x.length = 32) : Sh K n (s_version o x) := ⟨h.1, hx, h.2.2.1, h.2.2.2.1, h.2.2.2.2.1, h.2.2.2.2.2.1, h.2.2.2.2.2.2.1, h.2.2.2.2.2.2.2⟩
theorem Sh_va {K n : Int32} {o : Ob} (h : Sh K n o) {x : List Int32} (hx : x.length = 32) : Sh K n (s_value o x) := ⟨hx, h.2.1, h.2.2.1, h.2.2.2.1, h.2.2.2.2.1, h.2.2.2.2.2.1, h.2.2.2.2.2.2.1, h.2.2.2.2.2.2.2⟩
theorem Sh_cc {K n : Int32} {o : Ob} (h : Sh K n o) (x : Int32) : Sh K n (s_commitCount o x) := h
theorem Sh_ab {K n : Int32} {o : Ob} (h : Sh K n o) (x : Int32) : Sh K n (s_abortCount o x) := h
theorem Sh_lc {K n : Int32} {o : Ob} (h : Sh K n o) (x : Int32) : Sh K n (s_lastConflict o x) := h
theorem vtx {K n : Int32} {o : Ob} (h : Sh K n o) (hn : n.toInt ≤ 8) (x : Int32) : okP (F5 o x) (fun r => r = 0 ∨ (r ≠ 0 ∧ 0 ≤ x.toInt ∧ x.toInt < n.toInt)) := by
 obtain ⟨h1, h2, h3, h4, h5, h6, h7, h8, h9⟩ := h
 unfold F5
 rw [h9]
 repeat' with_reducible (first | apply okP.bind | apply okP.some | (apply okP.ite <;> intro _) | refine okP.aget ?_ ?_ (fun v hv => ?_) | refine okP.aset ?_ ?_ ?_)
 ·exact Or.inl rfl
 ·(simp only [i_lt, Int32.reduceToInt] at *; omega)
 ·(simp only [i_lt, Int32.reduceToInt] at *; omega)
 ·by_cases e : v &&& 1 = 0
  ·exact Or.inl e
  ·exact Or.inr ⟨e, by (simp only [i_lt, Int32.reduceToInt] at *; omega), by (simp only [i_lt, Int32.reduceToInt] at *; omega)⟩
 ·exact Or.inl rfl
 ·exact Or.inl rfl
theorem vkey {K n : Int32} {o : Ob} (h : Sh K n o) (hK : K.toInt ≤ 32) (x : Int32) : okP (F7 o x) (fun r => (r = 0 ∧ ¬ (0 ≤ x.toInt ∧ x.toInt < K.toInt)) ∨ (r ≠ 0 ∧ 0 ≤ x.toInt ∧ x.toInt < K.toInt)) := by
 obtain ⟨h1, h2, h3, h4, h5, h6, h7, h8, h9⟩ := h
 unfold F7
 rw [h8]
 repeat' with_reducible (first | apply okP.bind | apply okP.some | (apply okP.ite <;> intro _) | refine okP.aget ?_ ?_ (fun v hv => ?_) | refine okP.aset ?_ ?_ ?_)
 ·exact Or.inl ⟨rfl, by (simp only [i_lt, Int32.reduceToInt] at *; omega)⟩
 ·exact Or.inr ⟨by decide, by (simp only [i_lt, Int32.reduceToInt] at *; omega)⟩
 ·exact Or.inl ⟨rfl, by (simp only [i_lt, Int32.reduceToInt] at *; omega)⟩
 ·exact Or.inl ⟨rfl, by (simp only [i_lt, Int32.reduceToInt] at *; omega)⟩

def clr (o : Ob) (x : Nat) (b : List Int32) : Ob := s_buffered (s_writeSet (s_readSet (s_start (s_active o ((f_active o).set x 0)) ((f_start o).set x 0)) ((f_readSet o).set x 0)) ((f_writeSet o).set x 0)) b
theorem Sh_clr {K n : Int32} {o : Ob} (h : Sh K n o) (x : Nat) {b : List Int32} (hb : b.length = 256) : Sh K n (clr o x b) := by
 obtain ⟨h1, h2, h3, h4, h5, h6, h7, h8, h9⟩ := h
 exact ⟨h1, h2, by show (List.set _ _ _).length = _; rw [List.length_set]; exact h3, by show (List.set _ _ _).length = _; rw [List.length_set]; exact h4, by show (List.set _ _ _).length = _; rw [List.length_set]; exact h5, by show (List.set _ _ _).length = _; rw [List.length_set]; exact h6, hb, h8, h9⟩
theorem clear_ok {K n : Int32} {o : Ob} (h : Sh K n o) {x : Int32} (hx : 0 ≤ x.toInt) (hx8 : x.toInt < 8) : okP (F14 o x) (fun r => ∃ b : List Int32, b.length = 256 ∧ r = clr o x.toInt.toNat b) := by
 obtain ⟨h1, h2, h3, h4, h5, h6, h7, h8, h9⟩ := h
 unfold F14
 have e32 : (x * 32).toInt = x.toInt * 32 := i_mul (x := x) (y := 32) (by show _ ≤ x.toInt * 32; omega) (by show x.toInt * 32 < _; omega)
 repeat' with_reducible (first | apply okP.bind | apply okP.some | (apply okP.ite <;> intro _) | refine okP.aget ?_ ?_ (fun v hv => ?_) | refine okP.aset ?_ ?_ ?_)
 ·exact hx
 ·omega
 ·exact hx
 ·omega
 ·exact hx
 ·omega
 ·exact hx
 ·omega
 obtain ⟨p, hp⟩ : ∃ p, p = s_writeSet (s_readSet (s_start (s_active o ((f_active o).set x.toInt.toNat 0)) ((f_start o).set x.toInt.toNat 0)) ((f_readSet o).set x.toInt.toNat 0)) ((f_writeSet o).set x.toInt.toNat 0) := ⟨_, rfl⟩
 rw [← hp]
 refine okP.loop (fun w => 0 ≤ w.1.toInt ∧ w.1.toInt ≤ 32 ∧ ∃ b : List Int32, b.length = 256 ∧ w.2 = s_buffered p b) (fun w => (32 - w.1.toInt).toNat) ⟨by show (0 : Int) ≤ 0; decide, by show (0 : Int) ≤ 32; decide, f_buffered o, h7, by rw [hp]; rfl⟩ (by show (32 - (0 : Int)).toNat < 4000; decide) ?_
 intro w ⟨a1, a2, b, a3, a4⟩
 unfold B14_35
 rw [a4]
 have e1 : (1 : Int32).toInt = 1 := rfl
 apply okP.ite
 ·intro c
  have c' : w.1.toInt < 32 := by rw [i_lt] at c; exact c
  have ej : (x * 32 + w.1).toInt = x.toInt * 32 + w.1.toInt := by rw [i_add (by omega) (by omega), e32]
  have e2 : (w.1 + 1).toInt = w.1.toInt + 1 := by rw [i_add (by omega) (by omega), e1]
  apply okP.bind
  refine okP.aset (by omega) (by show _ < (b.length : Int); omega) ?_
  apply okP.some
  refine ⟨⟨?_, ?_, (b.set (x * 32 + w.1).toInt.toNat 0), by rw [List.length_set]; exact a3, rfl⟩, ?_⟩
  ·show 0 ≤ (w.1 + 1).toInt; omega
  ·show (w.1 + 1).toInt ≤ 32; omega
  ·show (32 - (w.1 + 1).toInt).toNat < (32 - w.1.toInt).toNat; omega
 ·intro c
  apply okP.some
  show okP (some (s_buffered p b)) _
  apply okP.some
  exact ⟨b, a3, by rw [hp]; rfl⟩
theorem bufi {x y : Int32} (hx : 0 ≤ x.toInt) (hx8 : x.toInt < 8) (hy : 0 ≤ y.toInt) (hy32 : y.toInt < 32) : (x * 32 + y).toInt = x.toInt * 32 + y.toInt := by
 have e32 : (x * 32).toInt = x.toInt * 32 := i_mul (x := x) (y := 32) (by show _ ≤ x.toInt * 32; omega) (by show x.toInt * 32 < _; omega)
 rw [i_add (by omega) (by omega), e32]
theorem inc1 {x : Int32} (h : x.toInt < 2147483647) : (x + 1).toInt = x.toInt + 1 := by
 have := i_lo x
 have e1 : (1 : Int32).toInt = 1 := rfl
 rw [i_add (by omega) (by omega), e1]
theorem free_ok {K n : Int32} {o : Ob} (h : Sh K n o) (hn0 : 0 ≤ n.toInt) (hn : n.toInt ≤ 8) : okP (F12 o) (fun r => (r = -1 ∧ ∀ i : Nat, i < n.toInt.toNat → (f_active o)[i]? ≠ some 0) ∨ (0 ≤ r.toInt ∧ r.toInt < n.toInt ∧ (f_active o)[r.toInt.toNat]? = some 0)) := by
 obtain ⟨h1, h2, h3, h4, h5, h6, h7, h8, h9⟩ := h
 unfold F12
 apply okP.bind
 refine okP.loop (fun w => 0 ≤ w.toInt ∧ w.toInt ≤ n.toInt ∧ ∀ i : Nat, i < w.toInt.toNat → (f_active o)[i]? ≠ some 0) (fun w => (8 - w.toInt).toNat) ⟨by show (0 : Int) ≤ 0; decide, hn0, fun i hi => absurd hi (Nat.not_lt_zero _)⟩ (by show (8 - (0 : Int)).toNat < 4000; decide) ?_
 intro w ⟨a1, a2, a3⟩
 unfold B12_2
 rw [h9]
 repeat' with_reducible (first | apply okP.bind | apply okP.some | (apply okP.ite <;> intro _) | refine okP.aget ?_ ?_ (fun v hv => ?_) | refine okP.aset ?_ ?_ ?_)
 ·exact a1
 ·(simp only [i_lt, Int32.reduceToInt] at *; omega)
 ·rename_i c
  have : v = 0 := c
  subst this
  exact okP.some (Or.inr ⟨a1, by (simp only [i_lt, Int32.reduceToInt] at *; omega), hv⟩)
 ·rename_i c1 c2 c3
  have e2 : (w + 1).toInt = w.toInt + 1 := inc1 (by rw [i_lt] at c2; have : (8 : Int32).toInt = 8 := rfl; omega)
  rw [i_lt] at c1 c2
  have e8 : (8 : Int32).toInt = 8 := rfl
  refine ⟨⟨by omega, by omega, ?_⟩, by omega⟩
  intro i hi
  rw [e2] at hi
  by_cases hj : i < w.toInt.toNat
  ·exact a3 i hj
  ·have : i = w.toInt.toNat := by omega
   rw [this, hv]
   intro q
   exact c3 (Option.some.inj q)
 ·rename_i c1 c2
  exfalso
  rw [i_lt] at c1 c2
  have e8 : (8 : Int32).toInt = 8 := rfl
  omega
 ·rename_i c1
  apply okP.some
  refine Or.inl ⟨rfl, fun i hi => a3 i ?_⟩
  rw [i_lt] at c1
  omega
def opn (o : Ob) (x : Nat) (b : List Int32) : Ob := s_start (s_active (clr o x b) ((f_active (clr o x b)).set x 1)) ((f_start (clr o x b)).set x (f_commitCount (clr o x b)))
theorem Sh_opn {K n : Int32} {o : Ob} (h : Sh K n o) (x : Nat) {b : List Int32} (hb : b.length = 256) : Sh K n (opn o x b) := by
 have g := Sh_clr h x hb
 unfold opn
 obtain ⟨q, hq⟩ : ∃ q, q = clr o x b := ⟨_, rfl⟩
 rw [← hq] at g ⊢
 exact Sh_st (Sh_ac g (by rw [List.length_set]; exact g.2.2.1)) (by rw [List.length_set]; exact g.2.2.2.1)
theorem begin_ok {K n : Int32} {o : Ob} (h : Sh K n o) (hn0 : 0 ≤ n.toInt) (hn : n.toInt ≤ 8) : okP (F11 o) (fun r => (r = (-5, o) ∧ ∀ i : Nat, i < n.toInt.toNat → (f_active o)[i]? ≠ some 0) ∨ (0 ≤ r.1.toInt ∧ r.1.toInt < n.toInt ∧ (f_active o)[r.1.toInt.toNat]? = some 0 ∧ ∃ b : List Int32, b.length = 256 ∧ r.2 = opn o r.1.toInt.toNat b)) := by
 unfold F11
 apply okP.bind
 refine okP.mono (free_ok h hn0 hn) ?_
 rintro r (⟨rfl, q⟩ | ⟨q1, q2, q3⟩)
 ·rw [if_pos (by decide)]
  apply okP.some
  exact Or.inl ⟨rfl, q⟩
 ·rw [if_neg (by rw [i_lt]; show ¬ r.toInt < 0; omega)]
  apply okP.bind
  unfold F13
  apply okP.bind
  refine okP.mono (clear_ok h q1 (by omega)) ?_
  rintro _ ⟨b, hb, rfl⟩
  have g := Sh_clr h r.toInt.toNat hb
  repeat' with_reducible (first | apply okP.bind | apply okP.some | (apply okP.ite <;> intro _) | refine okP.aget ?_ ?_ (fun v hv => ?_) | refine okP.aset ?_ ?_ ?_)
  ·exact q1
  ·rw [g.2.2.1]; omega
  ·exact q1
  ·rw [g.2.2.2.1]; omega
  ·exact Or.inr ⟨q1, q2, q3, b, hb, rfl⟩
theorem read_ok {K n : Int32} {o : Ob} (h : Sh K n o) (hn : n.toInt ≤ 8) (hK : K.toInt ≤ 32) (x y : Int32) : okP (F19 o x y) (fun r => r.2 = o ∨ (0 ≤ x.toInt ∧ x.toInt < n.toInt ∧ ∃ w, r.2 = s_readSet o ((f_readSet o).set x.toInt.toNat w))) := by
 unfold F19
 apply okP.bind
 refine okP.mono (vtx h hn x) ?_
 rintro r (rfl | ⟨q0, q1, q2⟩)
 ·rw [if_pos rfl]; exact okP.some (Or.inl rfl)
 rw [if_neg q0]
 apply okP.bind
 refine okP.mono (vkey h hK y) ?_
 rintro r' (⟨rfl, _⟩ | ⟨q3, q4, q5⟩)
 ·rw [if_pos rfl]; exact okP.some (Or.inl rfl)
 rw [if_neg q3]
 obtain ⟨h1, h2, h3, h4, h5, h6, h7, h8, h9⟩ := h
 have eb := bufi q1 (by omega) q4 (by omega)
 unfold F16 F17
 repeat' with_reducible (first | apply okP.bind | apply okP.some | (apply okP.ite <;> intro _) | refine okP.aget ?_ ?_ (fun v hv => ?_) | refine okP.aset ?_ ?_ ?_)
 ·exact q1
 ·omega
 ·exact q1
 ·omega
 ·exact q1
 ·omega
 ·exact q4
 ·omega
 ·exact Or.inr ⟨q1, q2, _, rfl⟩
 ·omega
 ·omega
 ·exact Or.inl rfl
theorem write_ok {K n : Int32} {o : Ob} (h : Sh K n o) (hn : n.toInt ≤ 8) (hK : K.toInt ≤ 32) (x y z : Int32) : okP (F15 o x y z) (fun r => r.2 = o ∨ (0 ≤ x.toInt ∧ x.toInt < n.toInt ∧ ∃ w b, b.length = 256 ∧ r.2 = s_buffered (s_writeSet o ((f_writeSet o).set x.toInt.toNat w)) b)) := by
 unfold F15
 apply okP.bind
 refine okP.mono (vtx h hn x) ?_
 rintro r (rfl | ⟨q0, q1, q2⟩)
 ·rw [if_pos rfl]; exact okP.some (Or.inl rfl)
 rw [if_neg q0]
 apply okP.bind
 refine okP.mono (vkey h hK y) ?_
 rintro r' (⟨rfl, _⟩ | ⟨q3, q4, q5⟩)
 ·rw [if_pos rfl]; exact okP.some (Or.inl rfl)
 rw [if_neg q3]
 obtain ⟨h1, h2, h3, h4, h5, h6, h7, h8, h9⟩ := h
 have eb := bufi q1 (by omega) q4 (by omega)
 unfold F16 F17
 repeat' with_reducible (first | apply okP.bind | apply okP.some | (apply okP.ite <;> intro _) | refine okP.aget ?_ ?_ (fun v hv => ?_) | refine okP.aset ?_ ?_ ?_)
 ·exact q1
 ·omega
 ·exact q1
 ·omega
 ·omega
 ·omega
 ·exact Or.inr ⟨q1, q2, _, _, by rw [List.length_set]; exact h7, rfl⟩
theorem stale_ok {K n : Int32} {o : Ob} (h : Sh K n o) {x : Int32} (hx : 0 ≤ x.toInt) (hx8 : x.toInt < 8) : okP (F23 o x) (fun _ => True) := by
 obtain ⟨h1, h2, h3, h4, h5, h6, h7, h8, h9⟩ := h
 unfold F23
 repeat' with_reducible (first | apply okP.bind | apply okP.some | (apply okP.ite <;> intro _) | refine okP.aget ?_ ?_ (fun v hv => ?_) | refine okP.aset ?_ ?_ ?_)
 ·exact hx
 ·omega
 ·trivial
 ·trivial
theorem least_ok {K n : Int32} {o : Ob} (h : Sh K n o) (hK0 : 0 ≤ K.toInt) (hK : K.toInt ≤ 32) {x : Int32} (hx : 0 ≤ x.toInt) (hx8 : x.toInt < 8) : okP (F24 o x) (fun _ => True) := by
 obtain ⟨h1, h2, h3, h4, h5, h6, h7, h8, h9⟩ := h
 unfold F24
 repeat' with_reducible (first | apply okP.bind | apply okP.some | (apply okP.ite <;> intro _) | refine okP.aget ?_ ?_ (fun v hv => ?_) | refine okP.aset ?_ ?_ ?_)
 ·exact hx
 ·omega
 ·exact hx
 ·omega
 refine okP.loop (fun w => 0 ≤ w.toInt ∧ w.toInt ≤ 32) (fun w => (32 - w.toInt).toNat) ⟨by show (0 : Int) ≤ 0; decide, by show (0 : Int) ≤ 32; decide⟩ (by show (32 - (0 : Int)).toNat < 4000; decide) ?_
 intro w ⟨a1, a2⟩
 unfold B24_17 F16 J24_58
 rw [h8]
 have e32 : (32 : Int32).toInt = 32 := rfl
 have fin : w < 32 → Sum.elim (fun a => okP (some a) fun _ => True) (fun v' => (0 ≤ v'.toInt ∧ v'.toInt ≤ 32) ∧ (32 - v'.toInt).toNat < (32 - w.toInt).toNat) (Sum.inr (w + 1) : Int32 ⊕ Int32) := by
  intro c
  rw [i_lt, e32] at c
  have e2 : (w + 1).toInt = w.toInt + 1 := inc1 (by omega)
  exact ⟨⟨by omega, by omega⟩, by omega⟩
 repeat' with_reducible (first | apply okP.bind | apply okP.some | (apply okP.ite <;> intro _) | refine okP.aget ?_ ?_ (fun v hv => ?_) | refine okP.aset ?_ ?_ ?_)
 all_goals first | exact fin (by assumption) | exact okP.some trivial | exact a1 | (simp only [i_lt, Int32.reduceToInt] at *; omega)
theorem install_ok {K n : Int32} {o : Ob} (h : Sh K n o) (hK0 : 0 ≤ K.toInt) (hK : K.toInt ≤ 32) {x : Int32} (hx : 0 ≤ x.toInt) (hx8 : x.toInt < 8) (Q : List Int32 → List Int32 → Prop) (hQ0 : Q (f_value o) (f_version o)) (hQ : ∀ va ve i y, va.length = 32 → ve.length = 32 → i < 32 → Q va ve → Q (va.set i y) (ve.set i (f_commitCount o + 1))) : okP (F25 o x) (fun r => r.1 = f_commitCount o + 1 ∧ ∃ va ve b, Q va ve ∧ va.length = 32 ∧ ve.length = 32 ∧ b.length = 256 ∧ r.2 = s_lastConflict (clr (s_version (s_value (s_commitCount o (f_commitCount o + 1)) va) ve) x.toInt.toNat b) (-1)) := by
 unfold F25
 obtain ⟨c, hc⟩ : ∃ c, c = f_commitCount o + 1 := ⟨_, rfl⟩
 rw [← hc] at hQ ⊢
 obtain ⟨p, hp⟩ : ∃ p, p = s_commitCount o c := ⟨_, rfl⟩
 rw [← hp]
 have g : Sh K n p := by rw [hp]; exact h
 have gv : f_value p = f_value o := by rw [hp]; rfl
 have gw : f_version p = f_version o := by rw [hp]; rfl
 obtain ⟨h1, h2, h3, h4, h5, h6, h7, h8, h9⟩ := h
 apply okP.bind
 refine okP.aget hx (by omega) (fun y hy => ?_)
 apply okP.bind
 refine okP.loop (fun w => 0 ≤ w.1.toInt ∧ w.1.toInt ≤ 32 ∧ ∃ va ve, Q va ve ∧ va.length = 32 ∧ ve.length = 32 ∧ w.2 = s_version (s_value p va) ve) (fun w => (32 - w.1.toInt).toNat) ⟨by show (0 : Int) ≤ 0; decide, by show (0 : Int) ≤ 32; decide, f_value o, f_version o, hQ0, h1, h2, by rw [← gv, ← gw]; rfl⟩ (by show (32 - (0 : Int)).toNat < 4000; decide) ?_
 intro w ⟨a1, a2, va, ve, a3, a4, a5, a6⟩
 unfold B25_25 F16 J25_79
 rw [a6]
 have g8 : f_keyCount (s_version (s_value p va) ve) = K := g.2.2.2.2.2.2.2.1
 have gb : (f_buffered (s_version (s_value p va) ve)).length = 256 := g.2.2.2.2.2.2.1
 rw [g8]
 have e32 : (32 : Int32).toInt = 32 := rfl
 have exi : okP (some (s_version (s_value p va) ve)) fun a => okP (J25_85 a x c) fun r => r.1 = c ∧ ∃ va ve b, Q va ve ∧ va.length = 32 ∧ ve.length = 32 ∧ b.length = 256 ∧ r.2 = s_lastConflict (clr (s_version (s_value p va) ve) x.toInt.toNat b) (-1) := by
  apply okP.some
  unfold J25_85 F21
  have g2 : Sh K n (s_version (s_value p va) ve) := Sh_ve (Sh_va g a4) a5
  apply okP.bind
  apply okP.bind
  refine okP.mono (clear_ok g2 hx hx8) ?_
  rintro _ ⟨b, hb, rfl⟩
  apply okP.some
  apply okP.some
  exact ⟨rfl, va, ve, b, a3, a4, a5, hb, rfl⟩
 obtain ⟨_, he, exi⟩ := exi
 cases he
 apply okP.ite
 ·intro c1
  apply okP.ite
  ·intro c2
   rw [i_lt, e32] at c2
   have e2 : (w.1 + 1).toInt = w.1.toInt + 1 := inc1 (by omega)
   have ej := bufi hx hx8 a1 c2
   apply okP.bind
   apply okP.some
   apply okP.ite
   ·intro _
    apply okP.some
    exact ⟨⟨by show 0 ≤ (w.1 + 1).toInt; omega, by show (w.1 + 1).toInt ≤ 32; omega, va, ve, a3, a4, a5, rfl⟩, by show (32 - (w.1 + 1).toInt).toNat < (32 - w.1.toInt).toNat; omega⟩
   ·intro _
    unfold F17
    apply okP.bind
    apply okP.some
    apply okP.bind
    refine okP.aget (by omega) (by omega) (fun v hv => ?_)
    apply okP.bind
    refine okP.aset a1 (by show _ < (va.length : Int); omega) ?_
    apply okP.bind
    refine okP.aset a1 (by show _ < (ve.length : Int); omega) ?_
    apply okP.some
    refine ⟨⟨by show 0 ≤ (w.1 + 1).toInt; omega, by show (w.1 + 1).toInt ≤ 32; omega, va.set w.1.toInt.toNat v, ve.set w.1.toInt.toNat c, hQ _ _ _ _ a4 a5 (by omega) a3, by rw [List.length_set]; exact a4, by rw [List.length_set]; exact a5, rfl⟩, by show (32 - (w.1 + 1).toInt).toNat < (32 - w.1.toInt).toNat; omega⟩
  ·intro c2
   exact okP.some exi
 ·intro c1
  exact okP.some exi
theorem commit_ok {K n : Int32} {o : Ob} (h : Sh K n o) (hn : n.toInt ≤ 8) (hK0 : 0 ≤ K.toInt) (hK : K.toInt ≤ 32) (x : Int32) (Q : List Int32 → List Int32 → Prop) (hQ0 : Q (f_value o) (f_version o)) (hQ : ∀ va ve i y, va.length = 32 → ve.length = 32 → i < 32 → Q va ve → Q (va.set i y) (ve.set i (f_commitCount o + 1))) : okP (F22 o x) (fun r => (F5 o x = some 0 ∧ r = (-1, o)) ∨ (0 ≤ x.toInt ∧ x.toInt < n.toInt ∧ (∃ w, w ≠ 0 ∧ F5 o x = some w) ∧ ((∃ va ve b, Q va ve ∧ va.length = 32 ∧ ve.length = 32 ∧ b.length = 256 ∧ r = (f_commitCount o + 1, s_lastConflict (clr (s_version (s_value (s_commitCount o (f_commitCount o + 1)) va) ve) x.toInt.toNat b) (-1))) ∨ ∃ b k, b.length = 256 ∧ r.2 = s_lastConflict (s_abortCount (clr o x.toInt.toNat b) (f_abortCount o + 1)) k))) := by
 unfold F22
 apply okP.bind
 obtain ⟨w, hw, q⟩ := vtx h hn x
 refine okP.of hw ?_
 rcases q with rfl | ⟨q0, q1, q2⟩
 ·rw [if_pos rfl]; exact okP.some (Or.inl ⟨hw, rfl⟩)
 rw [if_neg q0]
 have q8 : x.toInt < 8 := by omega
 have fail : ∀ k c : Int32, okP (F27 o x k c) (fun r => ∃ b k, b.length = 256 ∧ r.2 = s_lastConflict (s_abortCount (clr o x.toInt.toNat b) (f_abortCount o + 1)) k) := by
  intro k c
  unfold F27 F21
  apply okP.bind
  apply okP.bind
  refine okP.mono (clear_ok h q1 q8) ?_
  rintro _ ⟨b, hb, rfl⟩
  apply okP.some
  apply okP.some
  exact ⟨b, k, hb, rfl⟩
 apply okP.bind
 refine okP.mono (stale_ok h q1 q8) (fun r1 _ => ?_)
 apply okP.ite <;> intro _
 ·apply okP.bind
  refine okP.mono (least_ok h hK0 hK q1 q8) (fun r2 _ => ?_)
  apply okP.ite <;> intro _
  ·apply okP.bind
   refine okP.mono (install_ok h hK0 hK q1 q8 Q hQ0 hQ) ?_
   rintro r ⟨e, va, ve, b, e1, e2, e3, e4, e5⟩
   apply okP.some
   exact Or.inr ⟨q1, q2, ⟨w, q0, hw⟩, Or.inl ⟨va, ve, b, e1, e2, e3, e4, by rw [e, e5]⟩⟩
  ·apply okP.bind
   refine okP.mono (fail _ _) (fun r hr => okP.some (Or.inr ⟨q1, q2, ⟨w, q0, hw⟩, Or.inr hr⟩))
 ·apply okP.bind
  refine okP.mono (fail _ _) (fun r hr => okP.some (Or.inr ⟨q1, q2, ⟨w, q0, hw⟩, Or.inr hr⟩))
theorem abort_ok {K n : Int32} {o : Ob} (h : Sh K n o) (hn : n.toInt ≤ 8) (x : Int32) : okP (F20 o x) (fun r => (F5 o x = some 0 ∧ r = (-1, o)) ∨ (0 ≤ x.toInt ∧ x.toInt < n.toInt ∧ (∃ w, w ≠ 0 ∧ F5 o x = some w) ∧ ∃ b, b.length = 256 ∧ r = (0, s_abortCount (clr o x.toInt.toNat b) (f_abortCount o + 1)))) := by
 unfold F20
 apply okP.bind
 obtain ⟨w, hw, q⟩ := vtx h hn x
 refine okP.of hw ?_
 rcases q with rfl | ⟨q0, q1, q2⟩
 ·rw [if_pos rfl]; exact okP.some (Or.inl ⟨hw, rfl⟩)
 rw [if_neg q0]
 have q8 : x.toInt < 8 := by omega
 unfold F21
 apply okP.bind
 apply okP.bind
 refine okP.mono (clear_ok h q1 q8) ?_
 rintro _ ⟨b, hb, rfl⟩
 apply okP.some
 apply okP.some
 exact Or.inr ⟨q1, q2, ⟨w, q0, hw⟩, b, hb, rfl⟩
theorem getValue_ok {K n : Int32} {o : Ob} (h : Sh K n o) (hK : K.toInt ≤ 32) (x : Int32) : okP (F6 o x) (fun _ => True) := by
 unfold F6
 apply okP.bind
 refine okP.mono (vkey h hK x) ?_
 rintro r (⟨rfl, _⟩ | ⟨q3, q4, q5⟩)
 ·rw [if_pos rfl]; exact okP.some trivial
 rw [if_neg q3]
 have := h.1
 repeat' with_reducible (first | apply okP.bind | apply okP.some | (apply okP.ite <;> intro _) | refine okP.aget ?_ ?_ (fun v hv => ?_) | refine okP.aset ?_ ?_ ?_)
 ·exact q4
 ·omega
 ·trivial
theorem getVersion_ok {K n : Int32} {o : Ob} (h : Sh K n o) (hK : K.toInt ≤ 32) (x : Int32) : okP (F9 o x) (fun _ => True) := by
 unfold F9
 apply okP.bind
 refine okP.mono (vkey h hK x) ?_
 rintro r (⟨rfl, _⟩ | ⟨q3, q4, q5⟩)
 ·rw [if_pos rfl]; exact okP.some trivial
 rw [if_neg q3]
 have := h.2.1
 repeat' with_reducible (first | apply okP.bind | apply okP.some | (apply okP.ite <;> intro _) | refine okP.aget ?_ ?_ (fun v hv => ?_) | refine okP.aset ?_ ?_ ?_)
 ·exact q4
 ·omega
 ·trivial
theorem vtx1 {K n : Int32} {o : Ob} (h : Sh K n o) (hn : n.toInt ≤ 8) (x : Int32) : F5 o x = some 0 ∨ F5 o x = some 1 := by
 obtain ⟨h1, h2, h3, h4, h5, h6, h7, h8, h9⟩ := h
 have : okP (F5 o x) (fun r => r = 0 ∨ r = 1) := by
  unfold F5
  rw [h9]
  repeat' with_reducible (first | apply okP.bind | apply okP.some | (apply okP.ite <;> intro _) | refine okP.aget ?_ ?_ (fun v hv => ?_) | refine okP.aset ?_ ?_ ?_)
  ·exact Or.inl rfl
  ·(simp only [i_lt, Int32.reduceToInt] at *; omega)
  ·(simp only [i_lt, Int32.reduceToInt] at *; omega)
  ·exact and1 v
  ·exact Or.inl rfl
  ·exact Or.inl rfl
 obtain ⟨r, e, rfl | rfl⟩ := this
 ·exact Or.inl e
 ·exact Or.inr e
theorem read_ref {K n : Int32} {o : Ob} (h : Sh K n o) (hn : n.toInt ≤ 8) (hK : K.toInt ≤ 32) {x y : Int32} (hr : F5 o x = some 0 ∨ ¬ (0 ≤ y.toInt ∧ y.toInt < K.toInt)) : F19 o x y = some (0, o) := by
 unfold F19
 rcases vtx1 h hn x with e | e
 ·rw [e]; rfl
 ·rcases hr with q | q
  ·rw [q] at e; cases e
  ·obtain ⟨r, e2, ⟨rfl, _⟩ | ⟨_, q2⟩⟩ := vkey h hK y
   ·rw [e, e2]; rfl
   ·exact absurd q2 q
theorem write_ref {K n : Int32} {o : Ob} (h : Sh K n o) (hn : n.toInt ≤ 8) (hK : K.toInt ≤ 32) {x y z : Int32} (hr : F5 o x = some 0 ∨ ¬ (0 ≤ y.toInt ∧ y.toInt < K.toInt)) : ∃ r, F15 o x y z = some (r, o) := by
 unfold F15
 rcases vtx1 h hn x with e | e
 ·rw [e]; exact ⟨_, rfl⟩
 ·rcases hr with q | q
  ·rw [q] at e; cases e
  ·obtain ⟨r, e2, ⟨rfl, _⟩ | ⟨_, q2⟩⟩ := vkey h hK y
   ·rw [e, e2]; exact ⟨_, rfl⟩
   ·exact absurd q2 q

def hb (w : Int32) (k : Nat) : Prop := ¬ (w &&& ((1 : Int32) <<< (Int32.ofNat k &&& 31))) = 0
theorem ofn {x : Int32} (h : 0 ≤ x.toInt) : Int32.ofNat x.toInt.toNat = x := by
 have e : Int32.ofNat x.toInt.toNat = Int32.ofInt (x.toInt.toNat : Int) := rfl
 rw [e, Int.toNat_of_nonneg h, Int32.ofInt_toInt]
theorem install_ex {K n : Int32} {o : Ob} (h : Sh K n o) (hK0 : 0 ≤ K.toInt) (hK : K.toInt ≤ 32) {x w : Int32} (hx : 0 ≤ x.toInt) (hx8 : x.toInt < 8) (hw : (f_writeSet o)[x.toInt.toNat]? = some w) : okP (F25 o x) (fun r => ∃ va ve b, va.length = 32 ∧ ve.length = 32 ∧ b.length = 256 ∧ r = (f_commitCount o + 1, s_lastConflict (clr (s_version (s_value (s_commitCount o (f_commitCount o + 1)) va) ve) x.toInt.toNat b) (-1)) ∧ ∀ k, k < 32 → (k < K.toInt.toNat → hb w k → va[k]? = (f_buffered o)[x.toInt.toNat * 32 + k]? ∧ ve[k]? = some (f_commitCount o + 1)) ∧ (¬ (k < K.toInt.toNat ∧ hb w k) → va[k]? = (f_value o)[k]? ∧ ve[k]? = (f_version o)[k]?)) := by
 unfold F25
 obtain ⟨c, hc⟩ : ∃ c, c = f_commitCount o + 1 := ⟨_, rfl⟩
 rw [← hc]
 obtain ⟨p, hp⟩ : ∃ p, p = s_commitCount o c := ⟨_, rfl⟩
 rw [← hp]
 have g : Sh K n p := by rw [hp]; exact h
 have gv : f_value p = f_value o := by rw [hp]; rfl
 have gw : f_version p = f_version o := by rw [hp]; rfl
 have gbf : f_buffered p = f_buffered o := by rw [hp]; rfl
 obtain ⟨h1, h2, h3, h4, h5, h6, h7, h8, h9⟩ := h
 apply okP.bind
 refine okP.aget hx (by omega) (fun y hy => ?_)
 have ey : y = w := by rw [hw] at hy; exact (Option.some.inj hy).symm
 subst ey
 apply okP.bind
 have e32 : (32 : Int32).toInt = 32 := rfl
 have lp : okP (loopN (B25_25 x c y) qN (0, p)) (fun q => ∃ va ve, va.length = 32 ∧ ve.length = 32 ∧ q = s_version (s_value p va) ve ∧ ∀ k, k < 32 → (k < K.toInt.toNat → hb y k → va[k]? = (f_buffered o)[x.toInt.toNat * 32 + k]? ∧ ve[k]? = some c) ∧ (¬ (k < K.toInt.toNat ∧ hb y k) → va[k]? = (f_value o)[k]? ∧ ve[k]? = (f_version o)[k]?)) := by
  refine okP.loop (fun w => 0 ≤ w.1.toInt ∧ w.1.toInt ≤ 32 ∧ ∃ va ve, va.length = 32 ∧ ve.length = 32 ∧ w.2 = s_version (s_value p va) ve ∧ ∀ k, k < 32 → (k < w.1.toInt.toNat → k < K.toInt.toNat → hb y k → va[k]? = (f_buffered o)[x.toInt.toNat * 32 + k]? ∧ ve[k]? = some c) ∧ (¬ (k < w.1.toInt.toNat ∧ k < K.toInt.toNat ∧ hb y k) → va[k]? = (f_value o)[k]? ∧ ve[k]? = (f_version o)[k]?)) (fun w => (32 - w.1.toInt).toNat) ⟨by show (0 : Int) ≤ 0; decide, by show (0 : Int) ≤ 32; decide, f_value o, f_version o, h1, h2, by rw [← gv, ← gw]; rfl, fun k _ => ⟨fun q => absurd q (Nat.not_lt_zero _), fun _ => ⟨rfl, rfl⟩⟩⟩ (by show (32 - (0 : Int)).toNat < 4000; decide) ?_
  rintro ⟨w, q⟩ ⟨a1, a2, va, ve, a4, a5, a6, a7⟩
  simp only at a1 a2 a6 a7
  subst a6
  unfold B25_25 F16 J25_79
  have g8 : f_keyCount (s_version (s_value p va) ve) = K := g.2.2.2.2.2.2.2.1
  have gb : f_buffered (s_version (s_value p va) ve) = f_buffered o := gbf
  simp only
  rw [g8]
  have done : K.toInt ≤ w.toInt → ∃ va' ve', va'.length = 32 ∧ ve'.length = 32 ∧ s_version (s_value p va) ve = s_version (s_value p va') ve' ∧ ∀ k, k < 32 → (k < K.toInt.toNat → hb y k → va'[k]? = (f_buffered o)[x.toInt.toNat * 32 + k]? ∧ ve'[k]? = some c) ∧ (¬ (k < K.toInt.toNat ∧ hb y k) → va'[k]? = (f_value o)[k]? ∧ ve'[k]? = (f_version o)[k]?) := by
   intro kw
   refine ⟨va, ve, a4, a5, rfl, fun k hk => ⟨fun q1 q2 => (a7 k hk).1 (by omega) q1 q2, fun q => (a7 k hk).2 (fun z => q z.2)⟩⟩
  apply okP.ite
  ·intro c1
   rw [i_lt] at c1
   apply okP.ite
   ·intro c2
    rw [i_lt, e32] at c2
    have e2 : (w + 1).toInt = w.toInt + 1 := inc1 (by omega)
    have en : (w + 1).toInt.toNat = w.toInt.toNat + 1 := by omega
    have ej := bufi hx hx8 a1 c2
    have hbw : hb y w.toInt.toNat ↔ ¬ (y &&& ((1 : Int32) <<< (w &&& 31))) = 0 := by unfold hb; rw [ofn a1]
    apply okP.bind
    apply okP.some
    apply okP.ite
    ·intro z
     apply okP.some
     refine ⟨⟨by simp only; omega, by simp only; omega, va, ve, a4, a5, rfl, fun k hk => ⟨fun q1 q2 q3 => ?_, fun q => (a7 k hk).2 (fun z' => q ⟨by simp only; omega, z'.2⟩)⟩⟩, by simp only; omega⟩
     simp only at q1
     refine (a7 k hk).1 ?_ q2 q3
     by_cases e : k = w.toInt.toNat
     ·rw [e] at q3; exact absurd z (hbw.mp q3)
     ·omega
    ·intro z
     unfold F17
     apply okP.bind
     apply okP.some
     rw [gb]
     apply okP.bind
     refine okP.aget (by omega) (by omega) (fun v hv => ?_)
     have ev : (x * 32 + w).toInt.toNat = x.toInt.toNat * 32 + w.toInt.toNat := by omega
     rw [ev] at hv
     apply okP.bind
     refine okP.aset a1 (by show _ < (va.length : Int); omega) ?_
     apply okP.bind
     refine okP.aset a1 (by show _ < (ve.length : Int); omega) ?_
     apply okP.some
     refine ⟨⟨by simp only; omega, by simp only; omega, va.set w.toInt.toNat v, ve.set w.toInt.toNat c, by rw [List.length_set]; exact a4, by rw [List.length_set]; exact a5, rfl, fun k hk => ?_⟩, by simp only; omega⟩
     simp only [List.getElem?_set]
     by_cases e : w.toInt.toNat = k
     ·rw [if_pos e, if_pos e, if_pos (by omega), if_pos (by omega)]
      refine ⟨fun _ _ _ => ⟨by rw [← e]; exact hv.symm, rfl⟩, fun q => absurd ⟨by omega, by omega, ?_⟩ q⟩
      rw [← e]; exact hbw.mpr z
     ·rw [if_neg e, if_neg e]
      exact ⟨fun q1 q2 q3 => (a7 k hk).1 (by omega) q2 q3, fun q => (a7 k hk).2 (fun z' => q ⟨by omega, z'.2⟩)⟩
   ·intro c2
    rw [i_lt, e32] at c2
    exact okP.some (done (by omega))
  ·intro c1
   rw [i_lt] at c1
   exact okP.some (done (by omega))
 refine okP.mono lp ?_
 rintro _ ⟨va, ve, a4, a5, rfl, a7⟩
 unfold J25_85 F21
 have g2 : Sh K n (s_version (s_value p va) ve) := Sh_ve (Sh_va g a4) a5
 apply okP.bind
 apply okP.bind
 refine okP.mono (clear_ok g2 hx hx8) ?_
 rintro _ ⟨b, hb', rfl⟩
 apply okP.some
 apply okP.some
 exact ⟨va, ve, b, a4, a5, hb', rfl, a7⟩
theorem least_ex {K n : Int32} {o : Ob} (h : Sh K n o) (hK0 : 0 ≤ K.toInt) (hK : K.toInt ≤ 32) {x rs st : Int32} (hx : 0 ≤ x.toInt) (hx8 : x.toInt < 8) (hr : (f_readSet o)[x.toInt.toNat]? = some rs) (hs : (f_start o)[x.toInt.toNat]? = some st) : okP (F24 o x) (fun r => (r = -1 ∧ ∀ k, k < K.toInt.toNat → hb rs k → ∀ v, (f_version o)[k]? = some v → v.toInt ≤ st.toInt) ∨ (0 ≤ r.toInt ∧ r.toInt < K.toInt ∧ hb rs r.toInt.toNat ∧ (∃ v, (f_version o)[r.toInt.toNat]? = some v ∧ st.toInt < v.toInt) ∧ ∀ k, k < r.toInt.toNat → hb rs k → ∀ v, (f_version o)[k]? = some v → v.toInt ≤ st.toInt)) := by
 obtain ⟨h1, h2, h3, h4, h5, h6, h7, h8, h9⟩ := h
 unfold F24
 apply okP.bind
 refine okP.aget hx (by omega) (fun y hy => ?_)
 have ey : y = rs := by rw [hr] at hy; exact (Option.some.inj hy).symm
 subst ey
 apply okP.bind
 refine okP.aget hx (by omega) (fun z hz => ?_)
 have ez : z = st := by rw [hs] at hz; exact (Option.some.inj hz).symm
 subst ez
 apply okP.bind
 have e32 : (32 : Int32).toInt = 32 := rfl
 refine okP.loop (fun w => 0 ≤ w.toInt ∧ w.toInt ≤ K.toInt ∧ ∀ k, k < w.toInt.toNat → hb y k → ∀ v, (f_version o)[k]? = some v → v.toInt ≤ z.toInt) (fun w => (32 - w.toInt).toNat) ⟨by show (0 : Int) ≤ 0; decide, hK0, fun k hk => absurd hk (Nat.not_lt_zero _)⟩ (by show (32 - (0 : Int)).toNat < 4000; decide) ?_
 intro w ⟨a1, a2, a3⟩
 unfold B24_17 F16 J24_58
 rw [h8]
 apply okP.ite
 ·intro c1
  rw [i_lt] at c1
  rw [if_pos (by rw [i_lt, e32]; omega)]
  simp only [Option.bind_some]
  have e2 : (w + 1).toInt = w.toInt + 1 := inc1 (by omega)
  have hbw : hb y w.toInt.toNat ↔ ¬ (y &&& ((1 : Int32) <<< (w &&& 31))) = 0 := by unfold hb; rw [ofn a1]
  have nx : (hb y w.toInt.toNat → ∀ v, (f_version o)[w.toInt.toNat]? = some v → v.toInt ≤ z.toInt) → Sum.elim (fun a => okP (some a) fun r => (r = -1 ∧ ∀ k, k < K.toInt.toNat → hb y k → ∀ v, (f_version o)[k]? = some v → v.toInt ≤ z.toInt) ∨ (0 ≤ r.toInt ∧ r.toInt < K.toInt ∧ hb y r.toInt.toNat ∧ (∃ v, (f_version o)[r.toInt.toNat]? = some v ∧ z.toInt < v.toInt) ∧ ∀ k, k < r.toInt.toNat → hb y k → ∀ v, (f_version o)[k]? = some v → v.toInt ≤ z.toInt)) (fun v' => (0 ≤ v'.toInt ∧ v'.toInt ≤ K.toInt ∧ ∀ k, k < v'.toInt.toNat → hb y k → ∀ v, (f_version o)[k]? = some v → v.toInt ≤ z.toInt) ∧ (32 - v'.toInt).toNat < (32 - w.toInt).toNat) (Sum.inr (w + 1) : Int32 ⊕ Int32) := by
   intro q
   refine ⟨⟨by omega, by omega, fun k hk => ?_⟩, by omega⟩
   by_cases e : k = w.toInt.toNat
   ·rw [e]; exact q
   ·exact a3 k (by omega)
  apply okP.ite
  ·intro z0
   apply okP.some
   exact nx (fun q => absurd z0 (hbw.mp q))
  ·intro z0
   apply okP.bind
   refine okP.aget a1 (by omega) (fun v hv => ?_)
   apply okP.ite
   ·intro lt
    rw [i_lt] at lt
    apply okP.some
    exact okP.some (Or.inr ⟨a1, c1, hbw.mpr z0, ⟨v, hv, lt⟩, a3⟩)
   ·intro lt
    rw [i_lt] at lt
    apply okP.some
    refine nx (fun _ v' hv' => ?_)
    rw [hv] at hv'
    cases hv'
    omega
 ·intro c1
  rw [i_lt] at c1
  apply okP.some
  exact okP.some (Or.inl ⟨rfl, fun k hk => a3 k (by omega)⟩)

def Ot (x : Nat) (o : Ob) (b : List Int32) : Prop := ∀ j, (j < x * 32 ∨ x * 32 + 32 ≤ j) → b[j]? = (f_buffered o)[j]?
theorem clear_ex {K n : Int32} {o : Ob} (h : Sh K n o) {x : Int32} (hx : 0 ≤ x.toInt) (hx8 : x.toInt < 8) : okP (F14 o x) (fun r => ∃ b : List Int32, b.length = 256 ∧ Ot x.toInt.toNat o b ∧ r = clr o x.toInt.toNat b) := by
 obtain ⟨h1, h2, h3, h4, h5, h6, h7, h8, h9⟩ := h
 unfold F14
 have e32 : (x * 32).toInt = x.toInt * 32 := i_mul (x := x) (y := 32) (by show _ ≤ x.toInt * 32; omega) (by show x.toInt * 32 < _; omega)
 repeat' with_reducible (first | apply okP.bind | apply okP.some | (apply okP.ite <;> intro _) | refine okP.aget ?_ ?_ (fun v hv => ?_) | refine okP.aset ?_ ?_ ?_)
 ·exact hx
 ·omega
 ·exact hx
 ·omega
 ·exact hx
 ·omega
 ·exact hx
 ·omega
 obtain ⟨p, hp⟩ : ∃ p, p = s_writeSet (s_readSet (s_start (s_active o ((f_active o).set x.toInt.toNat 0)) ((f_start o).set x.toInt.toNat 0)) ((f_readSet o).set x.toInt.toNat 0)) ((f_writeSet o).set x.toInt.toNat 0) := ⟨_, rfl⟩
 rw [← hp]
 refine okP.loop (fun w => 0 ≤ w.1.toInt ∧ w.1.toInt ≤ 32 ∧ ∃ b : List Int32, b.length = 256 ∧ Ot x.toInt.toNat o b ∧ w.2 = s_buffered p b) (fun w => (32 - w.1.toInt).toNat) ⟨by show (0 : Int) ≤ 0; decide, by show (0 : Int) ≤ 32; decide, f_buffered o, h7, fun _ _ => rfl, by rw [hp]; rfl⟩ (by show (32 - (0 : Int)).toNat < 4000; decide) ?_
 intro w ⟨a1, a2, b, a3, a5, a4⟩
 unfold B14_35
 rw [a4]
 have e1 : (1 : Int32).toInt = 1 := rfl
 apply okP.ite
 ·intro c
  have c' : w.1.toInt < 32 := by rw [i_lt] at c; exact c
  have ej : (x * 32 + w.1).toInt = x.toInt * 32 + w.1.toInt := by rw [i_add (by omega) (by omega), e32]
  have e2 : (w.1 + 1).toInt = w.1.toInt + 1 := by rw [i_add (by omega) (by omega), e1]
  apply okP.bind
  refine okP.aset (by omega) (by show _ < (b.length : Int); omega) ?_
  apply okP.some
  refine ⟨⟨?_, ?_, (b.set (x * 32 + w.1).toInt.toNat 0), by rw [List.length_set]; exact a3, fun j hj => by rw [List.getElem?_set_ne (by omega)]; exact a5 j hj, rfl⟩, ?_⟩
  ·show 0 ≤ (w.1 + 1).toInt; omega
  ·show (w.1 + 1).toInt ≤ 32; omega
  ·show (32 - (w.1 + 1).toInt).toNat < (32 - w.1.toInt).toNat; omega
 ·intro c
  apply okP.some
  show okP (some (s_buffered p b)) _
  apply okP.some
  exact ⟨b, a3, a5, by rw [hp]; rfl⟩
theorem begin_ex {K n : Int32} {o : Ob} (h : Sh K n o) (hn0 : 0 ≤ n.toInt) (hn : n.toInt ≤ 8) : okP (F11 o) (fun r => (r = (-5, o) ∧ ∀ i : Nat, i < n.toInt.toNat → (f_active o)[i]? ≠ some 0) ∨ (0 ≤ r.1.toInt ∧ r.1.toInt < n.toInt ∧ (f_active o)[r.1.toInt.toNat]? = some 0 ∧ ∃ b : List Int32, b.length = 256 ∧ Ot r.1.toInt.toNat o b ∧ r.2 = opn o r.1.toInt.toNat b)) := by
 unfold F11
 apply okP.bind
 refine okP.mono (free_ok h hn0 hn) ?_
 rintro r (⟨rfl, q⟩ | ⟨q1, q2, q3⟩)
 ·rw [if_pos (by decide)]
  apply okP.some
  exact Or.inl ⟨rfl, q⟩
 ·rw [if_neg (by rw [i_lt]; show ¬ r.toInt < 0; omega)]
  apply okP.bind
  unfold F13
  apply okP.bind
  refine okP.mono (clear_ex h q1 (by omega)) ?_
  rintro _ ⟨b, hb, ho, rfl⟩
  have g := Sh_clr h r.toInt.toNat hb
  repeat' with_reducible (first | apply okP.bind | apply okP.some | (apply okP.ite <;> intro _) | refine okP.aget ?_ ?_ (fun v hv => ?_) | refine okP.aset ?_ ?_ ?_)
  ·exact q1
  ·rw [g.2.2.1]; omega
  ·exact q1
  ·rw [g.2.2.2.1]; omega
  ·exact Or.inr ⟨q1, q2, q3, b, hb, ho, rfl⟩
theorem install_e2 {K n : Int32} {o : Ob} (h : Sh K n o) (hK0 : 0 ≤ K.toInt) (hK : K.toInt ≤ 32) {x w : Int32} (hx : 0 ≤ x.toInt) (hx8 : x.toInt < 8) (hw : (f_writeSet o)[x.toInt.toNat]? = some w) : okP (F25 o x) (fun r => ∃ va ve b, va.length = 32 ∧ ve.length = 32 ∧ b.length = 256 ∧ Ot x.toInt.toNat o b ∧ r = (f_commitCount o + 1, s_lastConflict (clr (s_version (s_value (s_commitCount o (f_commitCount o + 1)) va) ve) x.toInt.toNat b) (-1)) ∧ ∀ k, k < 32 → (k < K.toInt.toNat → hb w k → va[k]? = (f_buffered o)[x.toInt.toNat * 32 + k]? ∧ ve[k]? = some (f_commitCount o + 1)) ∧ (¬ (k < K.toInt.toNat ∧ hb w k) → va[k]? = (f_value o)[k]? ∧ ve[k]? = (f_version o)[k]?)) := by
 unfold F25
 obtain ⟨c, hc⟩ : ∃ c, c = f_commitCount o + 1 := ⟨_, rfl⟩
 rw [← hc]
 obtain ⟨p, hp⟩ : ∃ p, p = s_commitCount o c := ⟨_, rfl⟩
 rw [← hp]
 have g : Sh K n p := by rw [hp]; exact h
 have gv : f_value p = f_value o := by rw [hp]; rfl
 have gw : f_version p = f_version o := by rw [hp]; rfl
 have gbf : f_buffered p = f_buffered o := by rw [hp]; rfl
 obtain ⟨h1, h2, h3, h4, h5, h6, h7, h8, h9⟩ := h
 apply okP.bind
 refine okP.aget hx (by omega) (fun y hy => ?_)
 have ey : y = w := by rw [hw] at hy; exact (Option.some.inj hy).symm
 subst ey
 apply okP.bind
 have e32 : (32 : Int32).toInt = 32 := rfl
 have lp : okP (loopN (B25_25 x c y) qN (0, p)) (fun q => ∃ va ve, va.length = 32 ∧ ve.length = 32 ∧ q = s_version (s_value p va) ve ∧ ∀ k, k < 32 → (k < K.toInt.toNat → hb y k → va[k]? = (f_buffered o)[x.toInt.toNat * 32 + k]? ∧ ve[k]? = some c) ∧ (¬ (k < K.toInt.toNat ∧ hb y k) → va[k]? = (f_value o)[k]? ∧ ve[k]? = (f_version o)[k]?)) := by
  refine okP.loop (fun w => 0 ≤ w.1.toInt ∧ w.1.toInt ≤ 32 ∧ ∃ va ve, va.length = 32 ∧ ve.length = 32 ∧ w.2 = s_version (s_value p va) ve ∧ ∀ k, k < 32 → (k < w.1.toInt.toNat → k < K.toInt.toNat → hb y k → va[k]? = (f_buffered o)[x.toInt.toNat * 32 + k]? ∧ ve[k]? = some c) ∧ (¬ (k < w.1.toInt.toNat ∧ k < K.toInt.toNat ∧ hb y k) → va[k]? = (f_value o)[k]? ∧ ve[k]? = (f_version o)[k]?)) (fun w => (32 - w.1.toInt).toNat) ⟨by show (0 : Int) ≤ 0; decide, by show (0 : Int) ≤ 32; decide, f_value o, f_version o, h1, h2, by rw [← gv, ← gw]; rfl, fun k _ => ⟨fun q => absurd q (Nat.not_lt_zero _), fun _ => ⟨rfl, rfl⟩⟩⟩ (by show (32 - (0 : Int)).toNat < 4000; decide) ?_
  rintro ⟨w, q⟩ ⟨a1, a2, va, ve, a4, a5, a6, a7⟩
  simp only at a1 a2 a6 a7
  subst a6
  unfold B25_25 F16 J25_79
  have g8 : f_keyCount (s_version (s_value p va) ve) = K := g.2.2.2.2.2.2.2.1
  have gb : f_buffered (s_version (s_value p va) ve) = f_buffered o := gbf
  simp only
  rw [g8]
  have done : K.toInt ≤ w.toInt → ∃ va' ve', va'.length = 32 ∧ ve'.length = 32 ∧ s_version (s_value p va) ve = s_version (s_value p va') ve' ∧ ∀ k, k < 32 → (k < K.toInt.toNat → hb y k → va'[k]? = (f_buffered o)[x.toInt.toNat * 32 + k]? ∧ ve'[k]? = some c) ∧ (¬ (k < K.toInt.toNat ∧ hb y k) → va'[k]? = (f_value o)[k]? ∧ ve'[k]? = (f_version o)[k]?) := by
   intro kw
   refine ⟨va, ve, a4, a5, rfl, fun k hk => ⟨fun q1 q2 => (a7 k hk).1 (by omega) q1 q2, fun q => (a7 k hk).2 (fun z => q z.2)⟩⟩
  apply okP.ite
  ·intro c1
   rw [i_lt] at c1
   apply okP.ite
   ·intro c2
    rw [i_lt, e32] at c2
    have e2 : (w + 1).toInt = w.toInt + 1 := inc1 (by omega)
    have en : (w + 1).toInt.toNat = w.toInt.toNat + 1 := by omega
    have ej := bufi hx hx8 a1 c2
    have hbw : hb y w.toInt.toNat ↔ ¬ (y &&& ((1 : Int32) <<< (w &&& 31))) = 0 := by unfold hb; rw [ofn a1]
    apply okP.bind
    apply okP.some
    apply okP.ite
    ·intro z
     apply okP.some
     refine ⟨⟨by simp only; omega, by simp only; omega, va, ve, a4, a5, rfl, fun k hk => ⟨fun q1 q2 q3 => ?_, fun q => (a7 k hk).2 (fun z' => q ⟨by simp only; omega, z'.2⟩)⟩⟩, by simp only; omega⟩
     simp only at q1
     refine (a7 k hk).1 ?_ q2 q3
     by_cases e : k = w.toInt.toNat
     ·rw [e] at q3; exact absurd z (hbw.mp q3)
     ·omega
    ·intro z
     unfold F17
     apply okP.bind
     apply okP.some
     rw [gb]
     apply okP.bind
     refine okP.aget (by omega) (by omega) (fun v hv => ?_)
     have ev : (x * 32 + w).toInt.toNat = x.toInt.toNat * 32 + w.toInt.toNat := by omega
     rw [ev] at hv
     apply okP.bind
     refine okP.aset a1 (by show _ < (va.length : Int); omega) ?_
     apply okP.bind
     refine okP.aset a1 (by show _ < (ve.length : Int); omega) ?_
     apply okP.some
     refine ⟨⟨by simp only; omega, by simp only; omega, va.set w.toInt.toNat v, ve.set w.toInt.toNat c, by rw [List.length_set]; exact a4, by rw [List.length_set]; exact a5, rfl, fun k hk => ?_⟩, by simp only; omega⟩
     simp only [List.getElem?_set]
     by_cases e : w.toInt.toNat = k
     ·rw [if_pos e, if_pos e, if_pos (by omega), if_pos (by omega)]
      refine ⟨fun _ _ _ => ⟨by rw [← e]; exact hv.symm, rfl⟩, fun q => absurd ⟨by omega, by omega, ?_⟩ q⟩
      rw [← e]; exact hbw.mpr z
     ·rw [if_neg e, if_neg e]
      exact ⟨fun q1 q2 q3 => (a7 k hk).1 (by omega) q2 q3, fun q => (a7 k hk).2 (fun z' => q ⟨by omega, z'.2⟩)⟩
   ·intro c2
    rw [i_lt, e32] at c2
    exact okP.some (done (by omega))
  ·intro c1
   rw [i_lt] at c1
   exact okP.some (done (by omega))
 refine okP.mono lp ?_
 rintro _ ⟨va, ve, a4, a5, rfl, a7⟩
 unfold J25_85 F21
 have g2 : Sh K n (s_version (s_value p va) ve) := Sh_ve (Sh_va g a4) a5
 apply okP.bind
 apply okP.bind
 refine okP.mono (clear_ex g2 hx hx8) ?_
 rintro _ ⟨b, hb', ho, rfl⟩
 apply okP.some
 apply okP.some
 exact ⟨va, ve, b, a4, a5, hb', fun j hj => by rw [ho j hj]; exact congrArg (fun l => l[j]?) gbf, rfl, a7⟩

theorem mskbit {w : Nat} (hw : w < 64) (i : Nat) : (BitVec.ofNat 64 (2 ^ w - 1)).getLsbD i = decide (i < w) := by
 rw [BitVec.getLsbD_ofNat, Nat.testBit_two_pow_sub_one]
 by_cases h : i < w
 ·have : i < 64 := by omega
  simp [h, this]
 ·simp [h]
theorem small_bit {V : BitVec 64} {w : Nat} (h : V.toNat < 2 ^ w) {i : Nat} (hi : w ≤ i) : V.getLsbD i = false := by
 rw [BitVec.getLsbD]
 exact Nat.testBit_lt_two_pow (Nat.lt_of_lt_of_le h (Nat.pow_le_pow_right (by decide) hi))
theorem onesbit (i : Nat) : (-1#64).getLsbD i = decide (i < 64) := by
 by_cases h : i < 64
 ·have : ∀ j : Fin 64, (-1#64).getLsbD j.1 = decide (j.1 < 64) := by decide
  exact this ⟨i, h⟩
 ·rw [BitVec.getLsbD_of_ge _ _ (by omega)]
  simp; omega
theorem putB (w : Nat) (X V : BitVec 64) (hV : V.toNat < 2 ^ w) (s t : Nat) (hw : w < 64) (hs : s + w ≤ 64) (ht : t + w ≤ 64) (d : s = t ∨ s + w ≤ t ∨ t + w ≤ s) :
  (((X &&& ((BitVec.ofNat 64 (2 ^ w - 1) <<< s) ^^^ (-1#64))) ||| (V <<< s)) >>> t) &&& BitVec.ofNat 64 (2 ^ w - 1) = if s = t then V else (X >>> t) &&& BitVec.ofNat 64 (2 ^ w - 1) := by
 have mb := mskbit hw
 apply BitVec.eq_of_getLsbD_eq
 intro i hi
 by_cases e : s = t
 ·subst e
  rw [if_pos rfl]
  simp only [BitVec.getLsbD_and, BitVec.getLsbD_or, BitVec.getLsbD_xor, BitVec.getLsbD_shiftLeft, BitVec.getLsbD_ushiftRight, mb, onesbit]
  by_cases c : i < w
  ·have a1 : s + i < 64 := by omega
   have a2 : ¬ (s + i < s) := by omega
   have a3 : s + i - s = i := by omega
   simp [a1, a2, a3, c]
  ·have := small_bit (w := w) hV (i := i) (by omega)
   simp [c, this]
 ·rw [if_neg e]
  simp only [BitVec.getLsbD_and, BitVec.getLsbD_or, BitVec.getLsbD_xor, BitVec.getLsbD_shiftLeft, BitVec.getLsbD_ushiftRight, mb, onesbit]
  by_cases c : i < w
  ·have a1 : t + i < 64 := by omega
   by_cases a2 : t + i < s
   ·simp [a1, a2, c]
   ·have a3 : ¬ (t + i - s < w) := by omega
    have := small_bit (w := w) hV (i := t + i - s) (by omega)
    simp [a1, a2, a3, c, this]
  ·simp [c]
theorem ofI {x : Int32} {n : Nat} (h : x.toInt = n) : x = Int32.ofInt n := by rw [← h, Int32.ofInt_toInt]
theorem shl64 (v : Int64) {y : Int32} {n : Nat} (h : y.toInt = n) (hn : n < 64) : (v <<< (y.toInt64 &&& 63)).toBitVec = v.toBitVec <<< n := by
 have : ∀ n : Fin 64, (((Int32.ofInt n.1).toInt64 &&& 63).toBitVec.smod 64) = BitVec.ofNat 64 n.1 := by decide
 rw [ofI h]
 show v.toBitVec <<< (((Int32.ofInt n).toInt64 &&& 63).toBitVec.smod 64) = _
 rw [this ⟨n, hn⟩, BitVec.shiftLeft_eq']
 congr 1
 simp; omega
theorem ushr64 (v : Int64) {y : Int32} {n : Nat} (h : y.toInt = n) (hn : n < 64) : (XT.ushrL v y).toBitVec = v.toBitVec >>> n := by
 have : ∀ n : Fin 64, (((Int32.ofInt n.1).toInt64.toUInt64 &&& Int64.toUInt64 63) % 64).toBitVec = BitVec.ofNat 64 n.1 := by decide
 rw [ofI h]
 show v.toBitVec >>> (((Int32.ofInt n).toInt64.toUInt64 &&& Int64.toUInt64 63) % 64).toBitVec = _
 rw [this ⟨n, hn⟩, BitVec.ushiftRight_eq']
 congr 1
 simp; omega
theorem clrB (w v : Nat) (X : BitVec 64) (s t : Nat) (hw : w < 64) (hv : v < 64) (hs : s + w ≤ 64) (ht : t + v ≤ 64) (d : (s ≤ t ∧ t + v ≤ s + w) ∨ s + w ≤ t ∨ t + v ≤ s) :
  ((X &&& ((BitVec.ofNat 64 (2 ^ w - 1) <<< s) ^^^ (-1#64))) >>> t) &&& BitVec.ofNat 64 (2 ^ v - 1) = if s ≤ t ∧ t + v ≤ s + w then 0#64 else (X >>> t) &&& BitVec.ofNat 64 (2 ^ v - 1) := by
 have mb := mskbit hw
 have mv := mskbit hv
 apply BitVec.eq_of_getLsbD_eq
 intro i hi
 by_cases e : s ≤ t ∧ t + v ≤ s + w
 ·rw [if_pos e]
  simp only [BitVec.getLsbD_and, BitVec.getLsbD_xor, BitVec.getLsbD_shiftLeft, BitVec.getLsbD_ushiftRight, mb, mv, onesbit]
  by_cases c : i < v
  ·have a1 : t + i < 64 := by omega
   have a2 : ¬ (t + i < s) := by omega
   have a3 : t + i - s < w := by omega
   simp [a1, a2, a3, c]
  ·simp [c]
 ·rw [if_neg e]
  simp only [BitVec.getLsbD_and, BitVec.getLsbD_xor, BitVec.getLsbD_shiftLeft, BitVec.getLsbD_ushiftRight, mb, mv, onesbit]
  by_cases c : i < v
  ·have a1 : t + i < 64 := by omega
   by_cases a2 : t + i < s
   ·simp [a1, a2, c]
   ·have a3 : ¬ (t + i - s < w) := by omega
    simp [a1, a2, a3, c]
  ·simp [c]
theorem shl32 (v : Int32) {y : Int32} {n : Nat} (h : y.toInt = n) (hn : n < 32) : (v <<< (y &&& 31)).toBitVec = v.toBitVec <<< n := by
 have : ∀ n : Fin 32, ((Int32.ofInt n.1 &&& 31).toBitVec.smod 32) = BitVec.ofNat 32 n.1 := by decide
 rw [ofI h]
 show v.toBitVec <<< ((Int32.ofInt n &&& 31).toBitVec.smod 32) = _
 rw [this ⟨n, hn⟩, BitVec.shiftLeft_eq']
 congr 1
 simp; omega
theorem shr32 (v : Int32) {y : Int32} {n : Nat} (h : y.toInt = n) (hn : n < 32) : (v >>> (y &&& 31)).toBitVec = v.toBitVec.sshiftRight n := by
 have : ∀ n : Fin 32, ((Int32.ofInt n.1 &&& 31).toBitVec.smod 32) = BitVec.ofNat 32 n.1 := by decide
 rw [ofI h]
 show v.toBitVec.sshiftRight' ((Int32.ofInt n &&& 31).toBitVec.smod 32) = _
 rw [this ⟨n, hn⟩, BitVec.sshiftRight_eq']
 congr 1
 simp; omega
def bt (x : Int32) (n : Nat) : Bool := x.toBitVec.getLsbD n
theorem bt_shr (x : Int32) {y : Int32} {n : Nat} (h : y.toInt = n) (hn : n < 32) : (x >>> (y &&& 31)) &&& 1 = if bt x n then 1 else 0 := by
 apply Int32.toBitVec_inj.1
 show (x >>> (y &&& 31)).toBitVec &&& 1#32 = _
 rw [shr32 x h hn, BitVec.and_one_eq_setWidth_ofBool_getLsbD]
 have e : (x.toBitVec.sshiftRight n).getLsbD 0 = bt x n := by
  rw [BitVec.getLsbD_sshiftRight]
  simp [hn, bt]
 rw [e]
 cases bt x n <;> rfl
theorem bt_or (x y : Int32) (n : Nat) : bt (x ||| y) n = (bt x n || bt y n) := by
 show (x.toBitVec ||| y.toBitVec).getLsbD n = _
 rw [BitVec.getLsbD_or]; rfl
theorem bt_andn (x y : Int32) {n : Nat} (hn : n < 32) : bt (x &&& (y ^^^ (-1))) n = (bt x n && !bt y n) := by
 show (x.toBitVec &&& (y.toBitVec ^^^ (-1#32))).getLsbD n = _
 have : ∀ i : Fin 32, (-1#32).getLsbD i.1 = true := by decide
 rw [BitVec.getLsbD_and, BitVec.getLsbD_xor, this ⟨n, hn⟩, Bool.xor_true]; rfl
theorem bt_one {y : Int32} {k : Nat} (h : y.toInt = k) (hk : k < 32) {n : Nat} (hn : n < 32) : bt ((1 : Int32) <<< (y &&& 31)) n = decide (n = k) := by
 have : ∀ k : Fin 32, ∀ n : Fin 32, bt ((1 : Int32) <<< (Int32.ofInt k.1 &&& 31)) n.1 = decide (n.1 = k.1) := by decide +kernel
 rw [ofI h]
 exact this ⟨k, hk⟩ ⟨n, hn⟩
theorem bt_0 (n : Nat) : bt 0 n = false := by
 show (0#32).getLsbD n = false
 simp
theorem mskbit32 {w : Nat} (hw : w < 32) (i : Nat) : (BitVec.ofNat 32 (2 ^ w - 1)).getLsbD i = decide (i < w) := by
 rw [BitVec.getLsbD_ofNat, Nat.testBit_two_pow_sub_one]
 by_cases h : i < w
 ·have : i < 32 := by omega
  simp [h, this]
 ·simp [h]
theorem onesbit32 (i : Nat) : (-1#32).getLsbD i = decide (i < 32) := by
 by_cases h : i < 32
 ·have : ∀ j : Fin 32, (-1#32).getLsbD j.1 = decide (j.1 < 32) := by decide
  exact this ⟨i, h⟩
 ·rw [BitVec.getLsbD_of_ge _ _ (by omega)]
  simp; omega
theorem small_bit32 {V : BitVec 32} {w : Nat} (h : V.toNat < 2 ^ w) {i : Nat} (hi : w ≤ i) : V.getLsbD i = false := by
 rw [BitVec.getLsbD]
 exact Nat.testBit_lt_two_pow (Nat.lt_of_lt_of_le h (Nat.pow_le_pow_right (by decide) hi))
theorem putB32 (w : Nat) (X V : BitVec 32) (hV : V.toNat < 2 ^ w) (s t : Nat) (hw : w < 32) (hs : s + w ≤ 32) (ht : t + w ≤ 32) (d : s = t ∨ s + w ≤ t ∨ t + w ≤ s) :
  (((X &&& ((BitVec.ofNat 32 (2 ^ w - 1) <<< s) ^^^ (-1#32))) ||| (V <<< s)).sshiftRight t) &&& BitVec.ofNat 32 (2 ^ w - 1) = if s = t then V else (X.sshiftRight t) &&& BitVec.ofNat 32 (2 ^ w - 1) := by
 have mb := mskbit32 hw
 apply BitVec.eq_of_getLsbD_eq
 intro i hi
 by_cases e : s = t
 ·subst e
  rw [if_pos rfl]
  simp only [BitVec.getLsbD_and, BitVec.getLsbD_or, BitVec.getLsbD_xor, BitVec.getLsbD_shiftLeft, BitVec.getLsbD_sshiftRight, mb, onesbit32]
  by_cases c : i < w
  ·have a1 : s + i < 32 := by omega
   have a2 : ¬ (s + i < s) := by omega
   have a3 : s + i - s = i := by omega
   have a4 : ¬ (32 ≤ i) := by omega
   simp [a1, a2, a3, a4, c]
  ·have := small_bit32 (w := w) hV (i := i) (by omega)
   simp [c, this]
 ·rw [if_neg e]
  simp only [BitVec.getLsbD_and, BitVec.getLsbD_or, BitVec.getLsbD_xor, BitVec.getLsbD_shiftLeft, BitVec.getLsbD_sshiftRight, mb, onesbit32]
  by_cases c : i < w
  ·have a1 : t + i < 32 := by omega
   have a4 : ¬ (32 ≤ i) := by omega
   by_cases a2 : t + i < s
   ·simp [a1, a2, a4, c]
   ·have a3 : ¬ (t + i - s < w) := by omega
    have := small_bit32 (w := w) hV (i := t + i - s) (by omega)
    simp [a1, a2, a3, a4, c, this]
  ·simp [c]
theorem fput (w : Nat) (M : Int64) (hM : M.toBitVec = BitVec.ofNat 64 (2 ^ w - 1)) (x V : Int64) (hV : V.toBitVec.toNat < 2 ^ w) {a b : Int32} {s t : Nat} (ha : a.toInt = s) (hb : b.toInt = t) (hw : w < 64) (hw0 : 0 < w) (hs : s + w ≤ 64) (ht : t + w ≤ 64) (d : s = t ∨ s + w ≤ t ∨ t + w ≤ s) : (XT.ushrL ((x &&& ((M <<< (a.toInt64 &&& 63)) ^^^ (-1 : Int64))) ||| (V <<< (a.toInt64 &&& 63))) b) &&& M = if s = t then V else (XT.ushrL x b) &&& M := by
 apply Int64.toBitVec_inj.1
 have e1 : ((XT.ushrL ((x &&& ((M <<< (a.toInt64 &&& 63)) ^^^ (-1 : Int64))) ||| (V <<< (a.toInt64 &&& 63))) b) &&& M).toBitVec = ((((x.toBitVec &&& ((BitVec.ofNat 64 (2 ^ w - 1) <<< s) ^^^ (-1#64))) ||| (V.toBitVec <<< s)) >>> t) &&& BitVec.ofNat 64 (2 ^ w - 1)) := by
  show (XT.ushrL ((x &&& ((M <<< (a.toInt64 &&& 63)) ^^^ (-1 : Int64))) ||| (V <<< (a.toInt64 &&& 63))) b).toBitVec &&& M.toBitVec = _
  rw [ushr64 _ hb (by omega), hM]
  show (((x.toBitVec &&& ((M <<< (a.toInt64 &&& 63)).toBitVec ^^^ (-1#64))) ||| (V <<< (a.toInt64 &&& 63)).toBitVec) >>> t) &&& _ = _
  rw [shl64 _ ha (by omega), shl64 _ ha (by omega), hM]
 rw [e1, putB w x.toBitVec V.toBitVec hV s t hw hs ht d]
 by_cases c : s = t
 ·rw [if_pos c, if_pos c]
 ·rw [if_neg c, if_neg c]
  show _ = (XT.ushrL x b).toBitVec &&& M.toBitVec
  rw [ushr64 _ hb (by omega), hM]
theorem ushr32 (v : Int32) {y : Int32} {n : Nat} (h : y.toInt = n) (hn : n < 32) : (XT.ushr v y).toBitVec = v.toBitVec >>> n := by
 have : ∀ n : Fin 32, ((Int32.ofInt n.1 &&& 31).toUInt32 % 32).toBitVec = BitVec.ofNat 32 n.1 := by decide
 rw [ofI h]
 show v.toBitVec >>> ((Int32.ofInt n &&& 31).toUInt32 % 32).toBitVec = _
 rw [this ⟨n, hn⟩, BitVec.ushiftRight_eq']
 congr 1
 simp; omega
theorem bt_ushr (x : Int32) {y : Int32} {n : Nat} (h : y.toInt = n) (hn : n < 32) : XT.ushr x y &&& 1 = if bt x n then 1 else 0 := by
 apply Int32.toBitVec_inj.1
 show (XT.ushr x y).toBitVec &&& 1#32 = _
 rw [ushr32 x h hn, BitVec.and_one_eq_setWidth_ofBool_getLsbD]
 have e : (x.toBitVec >>> n).getLsbD 0 = bt x n := by
  rw [BitVec.getLsbD_ushiftRight]; rfl
 rw [e]
 cases bt x n <;> rfl
theorem bt_ext {x y : Int32} (h : ∀ n, n < 32 → bt x n = bt y n) : x = y := by
 apply Int32.toBitVec_inj.1
 apply BitVec.eq_of_getLsbD_eq
 intro i hi
 exact h i hi
theorem bt_and (x y : Int32) (n : Nat) : bt (x &&& y) n = (bt x n && bt y n) := by
 show (x.toBitVec &&& y.toBitVec).getLsbD n = _
 rw [BitVec.getLsbD_and]; rfl
theorem bt_test (x : Int32) {y : Int32} {k : Nat} (h : y.toInt = k) (hk : k < 32) : (x &&& ((1 : Int32) <<< (y &&& 31))) = 0 ↔ bt x k = false := by
 constructor
 ·intro e
  have := congrArg (fun z => bt z k) e
  simp only [bt_and, bt_one h hk hk, bt_0, decide_true, Bool.and_true] at this
  exact this
 ·intro e
  apply bt_ext
  intro n hn
  rw [bt_and, bt_one h hk hn, bt_0]
  by_cases c : n = k
  ·rw [c, e, Bool.false_and]
  ·rw [decide_eq_false c, Bool.and_false]
theorem bt_same {x y : Int32} {k : Nat} (h : y.toInt = k) (hk : k < 32) (e : bt x k = true) : x ||| ((1 : Int32) <<< (y &&& 31)) = x := by
 apply bt_ext
 intro n hn
 rw [bt_or, bt_one h hk hn]
 by_cases c : n = k
 ·rw [c, e, Bool.true_or]
 ·rw [decide_eq_false c, Bool.or_false]

theorem g0 {l : List Int32} {x v : Int32} (h0 : 0 ≤ x.toInt) (h : l[x.toInt.toNat]? = some v) : aget l x = some v := by
 unfold aget
 rw [if_neg (by rw [i_lt]; show ¬ x.toInt < 0; omega)]
 exact h
def nb (x : Int64) (k : Int32) : Int32 := ((XT.ushrL x ((4 : Int32) * k)) &&& (15 : Int64)).toInt32
def by8 (x : Int64) (k : Int32) : Int32 := ((XT.ushrL x ((8 : Int32) * k)) &&& (255 : Int64)).toInt32
def sN (x : Int64) (k v : Int32) : Int64 := (x &&& (((15 : Int64) <<< (((4 : Int32) * k).toInt64 &&& 63)) ^^^ (-1 : Int64))) ||| (((v &&& (15 : Int32)).toInt64) <<< (((4 : Int32) * k).toInt64 &&& 63))
def sB (x : Int64) (k v : Int32) : Int64 := (x &&& (((255 : Int64) <<< (((8 : Int32) * k).toInt64 &&& 63)) ^^^ (-1 : Int64))) ||| (((v &&& (255 : Int32)).toInt64) <<< (((8 : Int32) * k).toInt64 &&& 63))
theorem nb_sN (x : Int64) {v : Int32} (hv : 0 ≤ v.toInt ∧ v.toInt ≤ 15) {k j : Int32} (hk : 0 ≤ k.toInt ∧ k.toInt < 8) (hj : 0 ≤ j.toInt ∧ j.toInt < 8) : nb (sN x k v) j = if k.toInt = j.toInt then v else nb x j := by
 have z4 : (4 : Int32).toInt = 4 := rfl
 have n1 : ((4 : Int32) * k).toInt = (4 * k.toInt.toNat : Nat) := by rw [i_mul (by rw [z4]; omega) (by rw [z4]; omega), z4]; omega
 have n2 : ((4 : Int32) * j).toInt = (4 * j.toInt.toNat : Nat) := by rw [i_mul (by rw [z4]; omega) (by rw [z4]; omega), z4]; omega
 have d1 : ∀ n : Nat, n < 16 → (Int32.ofInt n &&& 15).toInt64.toBitVec.toNat < 2 ^ 4 := by decide
 have d2 : ∀ n : Nat, n < 16 → (Int32.ofInt n &&& 15).toInt64.toInt32 = Int32.ofInt n := by decide
 have v1 : (v &&& 15).toInt64.toBitVec.toNat < 2 ^ 4 := small_cases (P := fun c => (c &&& 15).toInt64.toBitVec.toNat < 2 ^ 4) hv.1 (n := 16) (by omega) d1
 have v2 : (v &&& 15).toInt64.toInt32 = v := small_cases (P := fun c => (c &&& 15).toInt64.toInt32 = c) hv.1 (n := 16) (by omega) d2
 have main := fput 4 15 rfl x (v &&& 15).toInt64 v1 n1 n2 (by decide) (by decide) (by omega) (by omega) (by omega)
 unfold nb sN
 rw [main]
 by_cases q : k.toInt = j.toInt
 ·rw [if_pos q, if_pos (by omega), v2]
 ·rw [if_neg q, if_neg (by omega)]
theorem by_sB (x : Int64) {v : Int32} (hv : 0 ≤ v.toInt ∧ v.toInt ≤ 255) {k j : Int32} (hk : 0 ≤ k.toInt ∧ k.toInt < 8) (hj : 0 ≤ j.toInt ∧ j.toInt < 8) : by8 (sB x k v) j = if k.toInt = j.toInt then v else by8 x j := by
 have z8 : (8 : Int32).toInt = 8 := rfl
 have n1 : ((8 : Int32) * k).toInt = (8 * k.toInt.toNat : Nat) := by rw [i_mul (by rw [z8]; omega) (by rw [z8]; omega), z8]; omega
 have n2 : ((8 : Int32) * j).toInt = (8 * j.toInt.toNat : Nat) := by rw [i_mul (by rw [z8]; omega) (by rw [z8]; omega), z8]; omega
 have d1 : ∀ n : Nat, n < 256 → (Int32.ofInt n &&& 255).toInt64.toBitVec.toNat < 2 ^ 8 := by decide +kernel
 have d2 : ∀ n : Nat, n < 256 → (Int32.ofInt n &&& 255).toInt64.toInt32 = Int32.ofInt n := by decide +kernel
 have v1 : (v &&& 255).toInt64.toBitVec.toNat < 2 ^ 8 := small_cases (P := fun c => (c &&& 255).toInt64.toBitVec.toNat < 2 ^ 8) hv.1 (n := 256) (by omega) d1
 have v2 : (v &&& 255).toInt64.toInt32 = v := small_cases (P := fun c => (c &&& 255).toInt64.toInt32 = c) hv.1 (n := 256) (by omega) d2
 have main := fput 8 255 rfl x (v &&& 255).toInt64 v1 n1 n2 (by decide) (by decide) (by omega) (by omega) (by omega)
 unfold by8 sB
 rw [main]
 by_cases q : k.toInt = j.toInt
 ·rw [if_pos q, if_pos (by omega), v2]
 ·rw [if_neg q, if_neg (by omega)]
theorem hb_bt (w : Int32) {k : Nat} (hk : k < 32) : hb w k ↔ bt w k = true := by
 have e : (Int32.ofNat k).toInt = k := by
  have e : Int32.ofNat k = Int32.ofInt (k : Int) := rfl
  rw [e, Int32.toInt_ofInt_of_le (by show _ ≤ (k : Int); omega) (by show (k : Int) < _; omega)]
 unfold hb
 rw [bt_test w e hk]
 cases bt w k <;> simp
def i8 (k : Nat) : Int32 := Int32.ofInt k
theorem i8_i {k : Nat} (h : k < 8) : (i8 k).toInt = k := by
 unfold i8
 rw [Int32.toInt_ofInt_of_le (by show _ ≤ (k : Int); omega) (by show (k : Int) < _; omega)]
theorem i8_of {x : Int32} (h : 0 ≤ x.toInt) : i8 x.toInt.toNat = x := (ofI (x := x) (n := x.toInt.toNat) (by omega)).symm
def Tx (c : Int32) (o : Ob) (t : Nat) (w r d : Int32) (bf ob : Int64) : Prop := ∃ st : Int32, (f_start o)[t]? = some st ∧ st.toInt ≤ c.toInt ∧ (f_writeSet o)[t]? = some w ∧ (f_readSet o)[t]? = some r ∧ (∀ k : Nat, k < 8 → bt w k = true → (f_buffered o)[t * 32 + k]? = some (nb bf (i8 k)) ∧ 0 ≤ (nb bf (i8 k)).toInt ∧ (nb bf (i8 k)).toInt ≤ 15) ∧ (∀ k : Nat, k < 8 → bt r k = true → ∀ va ve, (f_value o)[k]? = some va → (f_version o)[k]? = some ve → ve.toInt ≤ st.toInt → nb ob (i8 k) = va) ∧ (d = 0 ∨ ∃ k : Nat, k < 8 ∧ bt r k = true ∧ ∃ ve, (f_version o)[k]? = some ve ∧ st.toInt < ve.toInt)
def TxS (c : Int32) (o : Ob) (t : Nat) (w r d : Int32) (bf ob : Int64) : Prop := (f_active o)[t]? = some 0 ∨ ((f_active o)[t]? = some 1 ∧ Tx c o t w r d bf ob)
def Gl (x2 x4 : Int64) (c : Int32) (o : Ob) : Prop := Sh 8 2 o ∧ f_commitCount o = c ∧ (0 ≤ c.toInt ∧ c.toInt ≤ 240) ∧ ∀ k : Nat, k < 8 → (f_value o)[k]? = some (nb x2 (i8 k)) ∧ (f_version o)[k]? = some (by8 x4 (i8 k)) ∧ (0 ≤ (nb x2 (i8 k)).toInt ∧ (nb x2 (i8 k)).toInt ≤ 15) ∧ (0 ≤ (by8 x4 (i8 k)).toInt ∧ (by8 x4 (i8 k)).toInt ≤ c.toInt)
theorem TxS.mono {c c' : Int32} {o p : Ob} {t : Nat} {w r d : Int32} {bf ob : Int64} (h : TxS c o t w r d bf ob) (hc : c.toInt ≤ c'.toInt) (h1 : (f_active p)[t]? = (f_active o)[t]?) (h2 : (f_start p)[t]? = (f_start o)[t]?) (h3 : (f_writeSet p)[t]? = (f_writeSet o)[t]?) (h4 : (f_readSet p)[t]? = (f_readSet o)[t]?) (h5 : ∀ k : Nat, k < 8 → (f_buffered p)[t * 32 + k]? = (f_buffered o)[t * 32 + k]?) (h6 : ∀ k : Nat, k < 8 → ((f_value p)[k]? = (f_value o)[k]? ∧ (f_version p)[k]? = (f_version o)[k]?) ∨ ∃ v, (f_version p)[k]? = some v ∧ c.toInt < v.toInt) : TxS c' p t w r d bf ob := by
 unfold TxS
 rw [h1]
 rcases h with h | ⟨h, st, t1, t2, t3, t4, t5, t6, t7⟩
 ·exact Or.inl h
 ·refine Or.inr ⟨h, st, by rw [h2]; exact t1, by omega, by rw [h3]; exact t3, by rw [h4]; exact t4, ?_, ?_, ?_⟩
  ·intro k hk hw
   rw [h5 k hk]
   exact t5 k hk hw
  ·intro k hk hr va ve q1 q2 q3
   rcases h6 k hk with ⟨e1, e2⟩ | ⟨v, e1, e2⟩
   ·rw [e1] at q1
    rw [e2] at q2
    exact t6 k hk hr va ve q1 q2 q3
   ·rw [e1] at q2
    cases q2
    omega
  ·rcases t7 with t7 | ⟨k, hk, hr, ve, q1, q2⟩
   ·exact Or.inl t7
   ·refine Or.inr ⟨k, hk, hr, ?_⟩
    rcases h6 k hk with ⟨e1, e2⟩ | ⟨v, e1, e2⟩
    ·exact ⟨ve, by rw [e2]; exact q1, q2⟩
    ·exact ⟨v, e1, by omega⟩
theorem vt2 {o : Ob} (S : Sh 8 2 o) {x a : Int32} (x0 : 0 ≤ x.toInt) (x1 : x.toInt < 2) (h : (f_active o)[x.toInt.toNat]? = some a) : F5 o x = some (a &&& 1) := by
 unfold F5
 rw [S.2.2.2.2.2.2.2.2, if_neg (by rw [i_lt]; show ¬ x.toInt < 0; omega), if_pos (by rw [i_lt]; exact x1), if_pos (by rw [i_lt]; show x.toInt < 8; omega), g0 x0 h]; rfl
theorem vk2 {o : Ob} (S : Sh 8 2 o) {y : Int32} (y0 : 0 ≤ y.toInt) (y1 : y.toInt < 8) : F7 o y = some 1 := by
 unfold F7
 rw [S.2.2.2.2.2.2.2.1, if_neg (by rw [i_lt]; show ¬ y.toInt < 0; omega), if_pos (by rw [i_lt]; exact y1), if_pos (by rw [i_lt]; show y.toInt < 32; omega)]
theorem rdw {o : Ob} (S : Sh 8 2 o) {x y w b : Int32} (x0 : 0 ≤ x.toInt) (x1 : x.toInt < 2) (y0 : 0 ≤ y.toInt) (y1 : y.toInt < 8) (ha : (f_active o)[x.toInt.toNat]? = some 1) (hw : (f_writeSet o)[x.toInt.toNat]? = some w) (hbt : bt w y.toInt.toNat = true) (hb' : (f_buffered o)[x.toInt.toNat * 32 + y.toInt.toNat]? = some b) : F19 o x y = some (b, o) := by
 have eb := bufi x0 (by omega) y0 (by omega)
 have en : (x * 32 + y).toInt.toNat = x.toInt.toNat * 32 + y.toInt.toNat := by omega
 unfold F19 F16 F17
 rw [vt2 S x0 x1 ha, vk2 S y0 y1, g0 x0 hw]
 simp only [Option.bind_some]
 rw [if_neg (by decide), if_neg (by decide), if_neg (by rw [bt_test w (k := y.toInt.toNat) (by omega) (by omega), hbt]; decide), g0 (x := x * 32 + y) (v := b) (by omega) (by rw [en]; exact hb')]
 rfl
theorem rdn {o : Ob} (S : Sh 8 2 o) {x y w r v : Int32} (x0 : 0 ≤ x.toInt) (x1 : x.toInt < 2) (y0 : 0 ≤ y.toInt) (y1 : y.toInt < 8) (ha : (f_active o)[x.toInt.toNat]? = some 1) (hw : (f_writeSet o)[x.toInt.toNat]? = some w) (hbt : bt w y.toInt.toNat = false) (hr : (f_readSet o)[x.toInt.toNat]? = some r) (hv : (f_value o)[y.toInt.toNat]? = some v) : F19 o x y = some (v, s_readSet o ((f_readSet o).set x.toInt.toNat (r ||| ((1 : Int32) <<< (y &&& 31))))) := by
 unfold F19 F16
 rw [vt2 S x0 x1 ha, vk2 S y0 y1, g0 x0 hw, g0 x0 hr, g0 y0 hv]
 simp only [Option.bind_some]
 rw [if_neg (by decide), if_neg (by decide), if_pos (by rw [bt_test w (k := y.toInt.toNat) (by omega) (by omega)]; exact hbt), aset_at (n := x.toInt.toNat) (by omega) (by rw [S.2.2.2.2.1]; omega)]
 rfl
theorem wr2 {o : Ob} (S : Sh 8 2 o) {x y w z : Int32} (x0 : 0 ≤ x.toInt) (x1 : x.toInt < 2) (y0 : 0 ≤ y.toInt) (y1 : y.toInt < 8) (ha : (f_active o)[x.toInt.toNat]? = some 1) (hw : (f_writeSet o)[x.toInt.toNat]? = some w) : F15 o x y z = some (0, s_buffered (s_writeSet o ((f_writeSet o).set x.toInt.toNat (w ||| ((1 : Int32) <<< (y &&& 31))))) ((f_buffered o).set (x.toInt.toNat * 32 + y.toInt.toNat) z)) := by
 have eb := bufi x0 (by omega) y0 (by omega)
 unfold F15 F16 F17
 rw [vt2 S x0 x1 ha, vk2 S y0 y1, g0 x0 hw]
 simp only [Option.bind_some]
 rw [if_neg (by decide), if_neg (by decide), aset_at (n := x.toInt.toNat) (by omega) (by rw [S.2.2.2.2.2.1]; omega)]
 simp only [Option.bind_some]
 rw [aset_at (n := x.toInt.toNat * 32 + y.toInt.toNat) (by omega) (by rw [S.2.2.2.2.2.2.1]; omega)]
 rfl
def Cls (o p : Ob) (t : Nat) (c' : Int32) : Prop := Sh 8 2 p ∧ f_commitCount p = c' ∧ f_active p = (f_active o).set t 0 ∧ f_start p = (f_start o).set t 0 ∧ f_writeSet p = (f_writeSet o).set t 0 ∧ f_readSet p = (f_readSet o).set t 0 ∧ Ot t o (f_buffered p)
theorem fail2 {o : Ob} (S : Sh 8 2 o) {x : Int32} (x0 : 0 ≤ x.toInt) (x1 : x.toInt < 2) (k c : Int32) : okP (F27 o x k c) (fun r => r.1 = c ∧ Cls o r.2 x.toInt.toNat (f_commitCount o) ∧ f_value r.2 = f_value o ∧ f_version r.2 = f_version o) := by
 unfold F27 F21
 apply okP.bind
 apply okP.bind
 refine okP.mono (clear_ex S x0 (by omega)) ?_
 rintro _ ⟨b, hb, ho, rfl⟩
 apply okP.some
 apply okP.some
 have g := Sh_clr S x.toInt.toNat hb
 obtain ⟨q, hq⟩ : ∃ q, q = clr o x.toInt.toNat b := ⟨_, rfl⟩
 refine ⟨rfl, ⟨?_, ?_, ?_, ?_, ?_, ?_, ?_⟩, ?_, ?_⟩
 ·rw [← hq] at g ⊢; exact g
 all_goals (simp only [clr])
 all_goals (dsimp only [f_value, f_version, f_active, f_start, f_readSet, f_writeSet, f_buffered, f_keyCount, f_slotCount, f_window, f_commitCount, f_abortCount, f_lastConflict, s_lastConflict, s_abortCount, s_buffered, s_writeSet, s_readSet, s_start, s_active])
 exact ho
theorem abort2 {o : Ob} (S : Sh 8 2 o) {x : Int32} (x0 : 0 ≤ x.toInt) (x1 : x.toInt < 2) (ha : (f_active o)[x.toInt.toNat]? = some 1) : okP (F20 o x) (fun r => Cls o r.2 x.toInt.toNat (f_commitCount o) ∧ f_value r.2 = f_value o ∧ f_version r.2 = f_version o) := by
 unfold F20 F21
 rw [vt2 S x0 x1 ha]
 simp only [Option.bind_some]
 rw [if_neg (by decide)]
 apply okP.bind
 apply okP.bind
 refine okP.mono (clear_ex S x0 (by omega)) ?_
 rintro _ ⟨b, hb, ho, rfl⟩
 apply okP.some
 apply okP.some
 have g := Sh_clr S x.toInt.toNat hb
 obtain ⟨q, hq⟩ : ∃ q, q = clr o x.toInt.toNat b := ⟨_, rfl⟩
 refine ⟨⟨?_, ?_, ?_, ?_, ?_, ?_, ?_⟩, ?_, ?_⟩
 ·rw [← hq] at g ⊢; exact g
 all_goals (simp only [clr])
 all_goals (dsimp only [f_value, f_version, f_active, f_start, f_readSet, f_writeSet, f_buffered, f_keyCount, f_slotCount, f_window, f_commitCount, f_abortCount, f_lastConflict, s_lastConflict, s_abortCount, s_buffered, s_writeSet, s_readSet, s_start, s_active])
 exact ho
theorem commit2 {o : Ob} (S : Sh 8 2 o) {x w r st : Int32} (x0 : 0 ≤ x.toInt) (x1 : x.toInt < 2) (ha : (f_active o)[x.toInt.toNat]? = some 1) (hw : (f_writeSet o)[x.toInt.toNat]? = some w) (hr : (f_readSet o)[x.toInt.toNat]? = some r) (hs : (f_start o)[x.toInt.toNat]? = some st) : okP (F22 o x) (fun z => (z.1 < 1 ∧ Cls o z.2 x.toInt.toNat (f_commitCount o) ∧ f_value z.2 = f_value o ∧ f_version z.2 = f_version o) ∨ (z.1 = f_commitCount o + 1 ∧ Cls o z.2 x.toInt.toNat (f_commitCount o + 1) ∧ (∀ k : Nat, k < 8 → bt r k = true → ∀ v, (f_version o)[k]? = some v → v.toInt ≤ st.toInt) ∧ ∀ k : Nat, k < 8 → (bt w k = true → (f_value z.2)[k]? = (f_buffered o)[x.toInt.toNat * 32 + k]? ∧ (f_version z.2)[k]? = some (f_commitCount o + 1)) ∧ (bt w k = false → (f_value z.2)[k]? = (f_value o)[k]? ∧ (f_version z.2)[k]? = (f_version o)[k]?))) := by
 have K8 : (8 : Int32).toInt.toNat = 8 := rfl
 unfold F22
 rw [vt2 S x0 x1 ha]
 simp only [Option.bind_some]
 rw [if_neg (by decide)]
 apply okP.bind
 refine okP.mono (stale_ok S x0 (by omega)) (fun r1 _ => ?_)
 apply okP.ite <;> intro _
 ·apply okP.bind
  refine okP.mono (least_ex S (by decide) (by decide) x0 (by omega) hr hs) ?_
  intro e he
  apply okP.ite <;> intro c
  ·rcases he with ⟨_, he⟩ | he
   ·apply okP.bind
    refine okP.mono (install_e2 S (by decide) (by decide) x0 (by omega) hw) ?_
    rintro _ ⟨va, ve, b, l1, l2, l3, ho, rfl, hk⟩
    apply okP.some
    refine Or.inr ⟨rfl, ?_, ?_, ?_⟩
    ·obtain ⟨p, hp⟩ : ∃ p, p = s_version (s_value (s_commitCount o (f_commitCount o + 1)) va) ve := ⟨_, rfl⟩
     have gp : Sh 8 2 p := by rw [hp]; exact Sh_ve (Sh_va (Sh_cc S _) l1) l2
     have p1 : f_commitCount p = f_commitCount o + 1 := by rw [hp]; rfl
     have p2 : f_active p = f_active o := by rw [hp]; rfl
     have p3 : f_start p = f_start o := by rw [hp]; rfl
     have p4 : f_writeSet p = f_writeSet o := by rw [hp]; rfl
     have p5 : f_readSet p = f_readSet o := by rw [hp]; rfl
     unfold Cls
     rw [← hp, ← p1, ← p2, ← p3, ← p4, ← p5]
     simp only
     have g := Sh_clr gp x.toInt.toNat l3
     obtain ⟨q, hq⟩ : ∃ q, q = clr p x.toInt.toNat b := ⟨_, rfl⟩
     refine ⟨?_, ?_, ?_, ?_, ?_, ?_, ?_⟩
     ·rw [← hq] at g ⊢; exact g
     all_goals (simp only [clr])
     all_goals (dsimp only [f_value, f_version, f_active, f_start, f_readSet, f_writeSet, f_buffered, f_keyCount, f_slotCount, f_window, f_commitCount, f_abortCount, f_lastConflict, s_lastConflict, s_abortCount, s_buffered, s_writeSet, s_readSet, s_start, s_active])
     exact ho
    ·intro k hk1 hb1 v hv
     exact he k (by rw [K8]; exact hk1) ((hb_bt r (by omega)).2 hb1) v hv
    ·intro k hk1
     obtain ⟨q1, q2⟩ := hk k (by omega)
     refine ⟨fun hb1 => q1 (by rw [K8]; exact hk1) ((hb_bt w (by omega)).2 hb1), fun hb1 => q2 (fun z => ?_)⟩
     have := (hb_bt w (by omega)).1 z.2
     rw [hb1] at this
     cases this
   ·rw [i_lt] at c
    have z0 : (0 : Int32).toInt = 0 := rfl
    omega
  ·apply okP.bind
   refine okP.mono (fail2 S x0 x1 _ _) ?_
   rintro ⟨a, p⟩ ⟨h1, h2⟩
   simp only at h1
   exact okP.some (Or.inl ⟨by simp only; rw [h1]; decide, h2⟩)
 ·apply okP.bind
  refine okP.mono (fail2 S x0 x1 _ _) ?_
  rintro ⟨a, p⟩ ⟨h1, h2⟩
  simp only at h1
  exact okP.some (Or.inl ⟨by simp only; rw [h1]; decide, h2⟩)
abbrev QI := Int64 × Int64 × Int32 × Int32 × Int32 × Int32 × Int32 × Int32 × Int32 × Int64 × Int64 × Int64 × Int64 × Int32 × Ob
theorem gv2 {o : Ob} (S : Sh 8 2 o) {y v : Int32} (y0 : 0 ≤ y.toInt) (y1 : y.toInt < 8) (h : (f_value o)[y.toInt.toNat]? = some v) : F6 o y = some v := by
 unfold F6
 rw [vk2 S y0 y1, g0 y0 h]
 simp only [Option.bind_some]
 rw [if_neg (by decide)]
theorem gr2 {o : Ob} (S : Sh 8 2 o) {y v : Int32} (y0 : 0 ≤ y.toInt) (y1 : y.toInt < 8) (h : (f_version o)[y.toInt.toNat]? = some v) : F9 o y = some v := by
 unfold F9
 rw [vk2 S y0 y1, g0 y0 h]
 simp only [Option.bind_some]
 rw [if_neg (by decide)]
theorem c625 {s : List Int32} {o : Ob} {x2 x4 x13 x15 x17 x19 : Int64} {x6 x7 x8 x9 x10 x11 x12 x21 x22 : Int32} (G : Gl x2 x4 x6 o) {P : (Int32 × QHeap) ⊕ QI → Prop} (h : P (.inr (x2, x4, x6, x7, x8, x9, x10, x11, x12, x13, x15, x17, x19, x22 + 1, o))) : okP (J0_625 s o x2 x4 x6 x7 x8 x9 x10 x11 x12 x13 x15 x17 x19 x21 x22) P := by
 obtain ⟨S, _, _, g⟩ := G
 have z8 : (8 : Int32).toInt = 8 := rfl
 unfold J0_625
 apply okP.bind
 have lp : okP (loopN (B0_628 s o x2 x4 x6 x7 x8 x9 x10 x11 x12 x13 x15 x17 x19 x21 x22) qN 0) (fun e => e = .inl ()) := by
  refine okP.loop (fun v => 0 ≤ v.toInt ∧ v.toInt ≤ 8) (fun v => (8 - v.toInt).toNat) ⟨by decide, by decide⟩ (by show (8 - (0 : Int)).toNat < 4000; decide) ?_
  rintro v ⟨v0, v1⟩
  unfold B0_628
  by_cases d : v < 8
  ·rw [if_pos d]
   rw [i_lt, z8] at d
   have e1 : (v + 1).toInt = v.toInt + 1 := inc1 (by omega)
   obtain ⟨q1, q2, _⟩ := g v.toInt.toNat (by omega)
   rw [i8_of v0] at q1 q2
   rw [gv2 S v0 d q1, gr2 S v0 d q2]
   simp only [Option.bind_some]
   have n1 : F8 x2 v = some (nb x2 v) := rfl
   have n2 : F10 x4 v = some (by8 x4 v) := rfl
   rw [n1, n2]
   simp only [Option.bind_some, if_true]
   exact okP.some ⟨⟨by omega, by omega⟩, by omega⟩
  ·rw [if_neg d]
   exact okP.some rfl
 refine okP.mono lp ?_
 rintro _ rfl
 exact okP.some h
theorem chk_ob {s : List Int32} {o : Ob} {x2 x4 x13 x15 x17 x19 x31 x33 : Int64} {x7 x8 x9 x10 x11 x12 x21 x22 x25 x28 x29 x30 x35 : Int32} (h : ∀ k : Nat, k < 8 → bt x29 k = true → nb x33 (i8 k) = nb x2 (i8 k)) : okP (loopN (B0_471 s o x2 x4 x7 x8 x9 x10 x11 x12 x13 x15 x17 x19 x21 x22 x25 x28 x29 x30 x31 x33 x35) qN 0) (fun e => e = .inl ()) := by
 have z8 : (8 : Int32).toInt = 8 := rfl
 refine okP.loop (fun v => 0 ≤ v.toInt ∧ v.toInt ≤ 8) (fun v => (8 - v.toInt).toNat) ⟨by decide, by decide⟩ (by show (8 - (0 : Int)).toNat < 4000; decide) ?_
 rintro v ⟨v0, v1⟩
 unfold B0_471 J0_506
 by_cases d : v < 8
 ·rw [if_pos d]
  rw [i_lt, z8] at d
  have e1 : (v + 1).toInt = v.toInt + 1 := inc1 (by omega)
  rw [bt_ushr x29 (n := v.toInt.toNat) (by omega) (by omega)]
  by_cases b : bt x29 v.toInt.toNat = true
  ·have q := h v.toInt.toNat (by omega) b
   rw [i8_of v0] at q
   rw [if_pos b, if_neg (by decide)]
   have n1 : F8 x33 v = some (nb x33 v) := rfl
   have n2 : F8 x2 v = some (nb x2 v) := rfl
   rw [n1, n2]
   simp only [Option.bind_some]
   rw [if_pos q]
   exact okP.some ⟨⟨by omega, by omega⟩, by omega⟩
  ·rw [if_neg b, if_pos rfl]
   exact okP.some ⟨⟨by omega, by omega⟩, by omega⟩
 ·rw [if_neg d]
  exact okP.some rfl
theorem upd {s : List Int32} {o : Ob} {y2 y4 x13 x15 x17 x19 x31 x33 : Int64} {x7 x8 x9 x10 x11 x12 x21 x22 x25 x28 x29 x30 x35 : Int32} (hv : ∀ k : Nat, k < 8 → bt x28 k = true → 0 ≤ (nb x31 (i8 k)).toInt ∧ (nb x31 (i8 k)).toInt ≤ 15) (ha : 0 ≤ x35.toInt ∧ x35.toInt ≤ 255) : okP (loopN (B0_515 s o x7 x8 x9 x10 x11 x12 x13 x15 x17 x19 x21 x22 x25 x28 x29 x30 x31 x33 x35) qN (y2, y4, 0)) (fun e => ∀ k : Nat, k < 8 → nb e.1 (i8 k) = (if bt x28 k = true then nb x31 (i8 k) else nb y2 (i8 k)) ∧ by8 e.2 (i8 k) = (if bt x28 k = true then x35 else by8 y4 (i8 k))) := by
 have z8 : (8 : Int32).toInt = 8 := rfl
 refine okP.loop (fun v : Int64 × Int64 × Int32 => 0 ≤ v.2.2.toInt ∧ v.2.2.toInt ≤ 8 ∧ ∀ k : Nat, k < 8 → nb v.1 (i8 k) = (if bt x28 k = true ∧ k < v.2.2.toInt.toNat then nb x31 (i8 k) else nb y2 (i8 k)) ∧ by8 v.2.1 (i8 k) = (if bt x28 k = true ∧ k < v.2.2.toInt.toNat then x35 else by8 y4 (i8 k))) (fun v => (8 - v.2.2.toInt).toNat) ⟨by show (0 : Int) ≤ 0; decide, by show (0 : Int) ≤ 8; decide, fun k hk => ⟨by rw [if_neg (fun q => absurd q.2 (Nat.not_lt_zero _))], by rw [if_neg (fun q => absurd q.2 (Nat.not_lt_zero _))]⟩⟩ (by show (8 - (0 : Int)).toNat < 4000; decide) ?_
 rintro ⟨a, b, v⟩ ⟨v0, v1, h⟩
 simp only at v0 v1 h
 unfold B0_515 J0_557
 simp only
 by_cases d : v < 8
 ·rw [if_pos d]
  rw [i_lt, z8] at d
  have e1 : (v + 1).toInt = v.toInt + 1 := inc1 (by omega)
  have en : (v + 1).toInt.toNat = v.toInt.toNat + 1 := by omega
  rw [bt_ushr x28 (n := v.toInt.toNat) (by omega) (by omega)]
  by_cases c : bt x28 v.toInt.toNat = true
  ·rw [if_pos c, if_neg (by decide)]
   have r := hv v.toInt.toNat (by omega) c
   rw [i8_of v0] at r
   have n1 : F8 x31 v = some (nb x31 v) := rfl
   have n2 : F18 a v (nb x31 v) = some (sN a v (nb x31 v)) := rfl
   have n3 : F26 b v x35 = some (sB b v x35) := rfl
   rw [n1]
   simp only [Option.bind_some]
   rw [n2, n3]
   simp only [Option.bind_some]
   apply okP.some
   refine ⟨⟨by simp only; omega, by simp only; omega, fun k hk => ?_⟩, by simp only; omega⟩
   have ik := i8_i hk
   simp only [en]
   rw [nb_sN a r ⟨v0, d⟩ (by omega), by_sB b ha ⟨v0, d⟩ (by omega), ik]
   obtain ⟨h1, h2⟩ := h k hk
   by_cases e : v.toInt = k
   ·have ek : k = v.toInt.toNat := by omega
    rw [if_pos e, if_pos e, if_pos ⟨by rw [ek]; exact c, by omega⟩, if_pos ⟨by rw [ek]; exact c, by omega⟩, ek, i8_of v0]
    exact ⟨rfl, rfl⟩
   ·rw [if_neg e, if_neg e, h1, h2]
    by_cases g : bt x28 k = true ∧ k < v.toInt.toNat
    ·rw [if_pos g, if_pos g, if_pos (show bt x28 k = true ∧ k < v.toInt.toNat + 1 from ⟨g.1, by omega⟩), if_pos (show bt x28 k = true ∧ k < v.toInt.toNat + 1 from ⟨g.1, by omega⟩)]
     exact ⟨rfl, rfl⟩
    ·rw [if_neg g, if_neg g, if_neg (show ¬ (bt x28 k = true ∧ k < v.toInt.toNat + 1) from fun q => g ⟨q.1, by omega⟩), if_neg (show ¬ (bt x28 k = true ∧ k < v.toInt.toNat + 1) from fun q => g ⟨q.1, by omega⟩)]
     exact ⟨rfl, rfl⟩
  ·rw [if_neg c, if_pos rfl]
   apply okP.some
   refine ⟨⟨by simp only; omega, by simp only; omega, fun k hk => ?_⟩, by simp only; omega⟩
   simp only [en]
   obtain ⟨h1, h2⟩ := h k hk
   rw [h1, h2]
   by_cases g : bt x28 k = true ∧ k < v.toInt.toNat
   ·rw [if_pos g, if_pos g, if_pos (show bt x28 k = true ∧ k < v.toInt.toNat + 1 from ⟨g.1, by omega⟩), if_pos (show bt x28 k = true ∧ k < v.toInt.toNat + 1 from ⟨g.1, by omega⟩)]
    exact ⟨rfl, rfl⟩
   ·have g' : ¬ (bt x28 k = true ∧ k < v.toInt.toNat + 1) := by
     rintro ⟨q1, q2⟩
     by_cases e : k = v.toInt.toNat
     ·rw [e] at q1; exact c q1
     ·exact g ⟨q1, by omega⟩
    rw [if_neg g, if_neg g, if_neg g', if_neg g']
    exact ⟨rfl, rfl⟩
 ·rw [if_neg d]
  rw [i_lt, z8] at d
  apply okP.some
  intro k hk
  obtain ⟨h1, h2⟩ := h k hk
  rw [h1, h2]
  by_cases g : bt x28 k = true
  ·have g1 : bt x28 k = true ∧ k < v.toInt.toNat := ⟨g, by omega⟩
   rw [if_pos g1, if_pos g1, if_pos g, if_pos g]
   exact ⟨rfl, rfl⟩
  ·have g1 : ¬ (bt x28 k = true ∧ k < v.toInt.toNat) := fun q => g q.1
   rw [if_neg g1, if_neg g1, if_neg g, if_neg g]
   exact ⟨rfl, rfl⟩
theorem Gl.keep {x2 x4 : Int64} {c : Int32} {o p : Ob} (G : Gl x2 x4 c o) (S : Sh 8 2 p) (h1 : f_commitCount p = c) (h2 : f_value p = f_value o) (h3 : f_version p = f_version o) : Gl x2 x4 c p := by
 obtain ⟨_, _, g2, g3⟩ := G
 refine ⟨S, h1, g2, ?_⟩
 rw [h2, h3]
 exact g3
theorem Cls.oth {c c' : Int32} {o p : Ob} {t u : Nat} {w r d : Int32} {bf ob : Int64} (h : Cls o p t c') (hu : u ≠ t) (hT : TxS c o u w r d bf ob) (hc : c.toInt ≤ c'.toInt) (h6 : ∀ k : Nat, k < 8 → ((f_value p)[k]? = (f_value o)[k]? ∧ (f_version p)[k]? = (f_version o)[k]?) ∨ ∃ v, (f_version p)[k]? = some v ∧ c.toInt < v.toInt) : TxS c' p u w r d bf ob := by
 obtain ⟨_, _, e1, e2, e3, e4, e5⟩ := h
 refine hT.mono hc ?_ ?_ ?_ ?_ ?_ h6
 ·rw [e1, List.getElem?_set_ne (fun q => hu q.symm)]
 ·rw [e2, List.getElem?_set_ne (fun q => hu q.symm)]
 ·rw [e3, List.getElem?_set_ne (fun q => hu q.symm)]
 ·rw [e4, List.getElem?_set_ne (fun q => hu q.symm)]
 ·intro k hk
  exact e5 _ (by omega)
theorem Cls.own {c' : Int32} {o p : Ob} {t : Nat} {w r d : Int32} {bf ob : Int64} (h : Cls o p t c') (S : Sh 8 2 o) (ht : t < 2) : TxS c' p t w r d bf ob := by
 obtain ⟨_, _, e1, _⟩ := h
 left
 rw [e1, List.getElem?_set_self (by rw [S.2.2.1]; omega)]
def Inv (v : QI) : Prop := Gl v.1 v.2.1 v.2.2.1 v.2.2.2.2.2.2.2.2.2.2.2.2.2.2 ∧ v.2.2.1.toInt ≤ v.2.2.2.2.2.2.2.2.2.2.2.2.2.1.toInt ∧ TxS v.2.2.1 v.2.2.2.2.2.2.2.2.2.2.2.2.2.2 0 v.2.2.2.1 v.2.2.2.2.2.1 v.2.2.2.2.2.2.2.1 v.2.2.2.2.2.2.2.2.2.1 v.2.2.2.2.2.2.2.2.2.2.2.1 ∧ TxS v.2.2.1 v.2.2.2.2.2.2.2.2.2.2.2.2.2.2 1 v.2.2.2.2.1 v.2.2.2.2.2.2.1 v.2.2.2.2.2.2.2.2.1 v.2.2.2.2.2.2.2.2.2.2.1 v.2.2.2.2.2.2.2.2.2.2.2.2.1
def Po (s : List Int32) (i : Int32) (r : (Int32 × QHeap) ⊕ QI) : Prop := Sum.elim (fun e => e.1 = 1 ∧ sFit s e.2) (fun w : QI => (0 ≤ w.2.2.2.2.2.2.2.2.2.2.2.2.2.1.toInt ∧ w.2.2.2.2.2.2.2.2.2.2.2.2.2.1.toInt ≤ 240 ∧ Inv w) ∧ (240 - w.2.2.2.2.2.2.2.2.2.2.2.2.2.1.toInt).toNat < (240 - i.toInt).toNat) r
theorem j577 {s : List Int32} {p : Ob} {x2 x4 x13 x15 x17 x19 x31 x33 : Int64} {x6 x7 x8 x9 x10 x11 x12 x21 i t x28 x29 x30 : Int32} (i0 : 0 ≤ i.toInt) (i1 : i.toInt < 240) (ht : t = 0 ∨ t = 1) (G : Gl x2 x4 x6 p) (hc : x6.toInt ≤ i.toInt + 1) (hA : TxS x6 p t.toInt.toNat x28 x29 x30 x31 x33) (h0 : t = 1 → TxS x6 p 0 x7 x9 x11 x13 x17) (h1 : t = 0 → TxS x6 p 1 x8 x10 x12 x15 x19) : okP (J0_577 s p x2 x4 x6 x7 x8 x9 x10 x11 x12 x13 x15 x17 x19 x21 i t x28 x29 x30 x31 x33) (Po s i) := by
 unfold J0_577
 have e1 : (i + 1).toInt = i.toInt + 1 := inc1 (by omega)
 apply c625 G
 rcases ht with e | e
 ·subst e
  simp only [if_true]
  exact ⟨⟨by simp only; omega, by simp only; omega, G, by simp only; omega, hA, h1 rfl⟩, by simp only; omega⟩
 ·subst e
  simp only [if_neg (show ¬ (1 : Int32) = 0 by decide)]
  exact ⟨⟨by simp only; omega, by simp only; omega, G, by simp only; omega, h0 rfl, hA⟩, by simp only; omega⟩
theorem nbr {x2 x4 : Int64} {c : Int32} {o : Ob} (G : Gl x2 x4 c o) {k : Int32} (k0 : 0 ≤ k.toInt) (k1 : k.toInt < 8) : (f_value o)[k.toInt.toNat]? = some (nb x2 k) ∧ 0 ≤ (nb x2 k).toInt ∧ (nb x2 k).toInt ≤ 15 := by
 obtain ⟨q1, _, q3, _⟩ := G.2.2.2 k.toInt.toNat (by omega)
 rw [i8_of k0] at q1 q3
 exact ⟨q1, q3⟩
theorem turn {s : List Int32} (hs : s.length ≤ 260) {x2 x4 f0 f1 b0 b1 : Int64} {c w0 w1 r0 r1 d0 d1 i n : Int32} {o : Ob} (hn : n.toInt ≤ 240) (h : Inv (x2, x4, c, w0, w1, r0, r1, d0, d1, f0, f1, b0, b1, i, o)) (j0 : 0 ≤ i.toInt) : okP (B0_71 s n (x2, x4, c, w0, w1, r0, r1, d0, d1, f0, f1, b0, b1, i, o)) (Po s i) := by
 have hl := len_i (n := s.length) (by omega)
 have z0 : (0 : Int32).toInt = 0 := rfl
 have z1 : (1 : Int32).toInt = 1 := rfl
 have z7 : (7 : Int32).toInt = 7 := rfl
 have z15 : (15 : Int32).toInt = 15 := rfl
 obtain ⟨G, ci, t0, t1⟩ := h
 simp only at G ci t0 t1
 have S := G.1
 have cc := G.2.1
 have cr := G.2.2.1
 have fn : sFit s (H0 s o) := by
  obtain ⟨y1, y2, y3, y4, y5, y6, y7, y8, y9⟩ := S
  refine ⟨by show 9 - 1 ≤ _; decide, ?_⟩
  simp only [H0, H0v, qhs, qsz, y1, y2, y3, y4, y5, y6, y7]
  simp only [cN, room_1]
  omega
 unfold B0_71
 simp only
 refine okP.ite (fun cl => ?_) (fun _ => okP.some ⟨rfl, fn⟩)
 rw [i_lt] at cl
 have i1 : i.toInt < 240 := by omega
 have e1 : (i + 1).toInt = i.toInt + 1 := inc1 (by omega)
 obtain ⟨y, hy⟩ : ∃ y, F3 s i = some y := by
  unfold F3
  by_cases q : i < s.length.toInt32
  ·rw [if_pos q]
   rw [i_lt, hl] at q
   rw [aget_at (n := i.toInt.toNat) (by omega) (by omega)]
   exact ⟨_, rfl⟩
  ·rw [if_neg q]; exact ⟨_, rfl⟩
 rw [hy]
 simp only [Option.bind_some]
 have kt := and_rng (x := XT.ushr y 3) (m := 1) (by decide)
 have kk := and_rng (x := XT.ushr y 4) (m := 7) (by decide)
 have kv := and_rng (x := XT.ushr y 7) (m := 15) (by decide)
 rw [z1] at kt
 rw [z7] at kk
 rw [z15] at kv
 obtain ⟨op, hop⟩ : ∃ op, op = y &&& 7 := ⟨_, rfl⟩
 obtain ⟨tx, htx⟩ : ∃ tx, tx = XT.ushr y 3 &&& 1 := ⟨_, rfl⟩
 obtain ⟨ky, hky⟩ : ∃ ky, ky = XT.ushr y 4 &&& 7 := ⟨_, rfl⟩
 obtain ⟨vv, hvv⟩ : ∃ vv, vv = XT.ushr y 7 &&& 15 := ⟨_, rfl⟩
 rw [← hop, ← htx, ← hky, ← hvv]
 rw [← htx] at kt
 rw [← hky] at kk
 rw [← hvv] at kv
 clear hop htx hky hvv hy
 refine okP.ite (fun _ => ?_) (fun _ => ?_)
 ·have tt : tx = 0 ∨ tx = 1 := by
   rw [i_eq, i_eq, z0, z1]; omega
  obtain ⟨W, hW⟩ : ∃ W, W = if tx = 0 then w0 else w1 := ⟨_, rfl⟩
  obtain ⟨R, hR⟩ : ∃ R, R = if tx = 0 then r0 else r1 := ⟨_, rfl⟩
  obtain ⟨D, hD⟩ : ∃ D, D = if tx = 0 then d0 else d1 := ⟨_, rfl⟩
  obtain ⟨BF, hBF⟩ : ∃ BF, BF = if tx = 0 then f0 else f1 := ⟨_, rfl⟩
  obtain ⟨OB, hOB⟩ : ∃ OB, OB = if tx = 0 then b0 else b1 := ⟨_, rfl⟩
  rw [← hW, ← hR, ← hD, ← hBF, ← hOB]
  have hA : TxS c o tx.toInt.toNat W R D BF OB := by
   rw [hW, hR, hD, hBF, hOB]
   rcases tt with e | e
   ·rw [e]; exact t0
   ·rw [e]; exact t1
  clear hW hR hD hBF hOB
  have act : ∃ a, (f_active o)[tx.toInt.toNat]? = some a ∧ (a = 0 ∨ a = 1) := by
   rcases hA with q | q
   ·exact ⟨0, q, Or.inl rfl⟩
   ·exact ⟨1, q.1, Or.inr rfl⟩
  obtain ⟨a, ha, a01⟩ := act
  have ia : F4 o tx = some a := by
   unfold F4
   rw [vt2 S kt.1 (by omega) ha]
   rcases a01 with e | e <;> rw [e] <;> rfl
  rw [ia]
  simp only [Option.bind_some]
  rcases a01 with e | e
  ·subst e
   rw [if_pos rfl]
   exact c625 G ⟨⟨by simp only; omega, by simp only; omega, G, by simp only; omega, t0, t1⟩, by simp only; omega⟩
  ·subst e
   rw [if_neg (by decide)]
   rcases hA with q | ⟨_, st, q1, q2, q3, q4, q5, q6, q7⟩
   ·rw [ha] at q; exact absurd q (by decide)
   have l5 := S.2.2.2.2.1
   have l6 := S.2.2.2.2.2.1
   have l7 := S.2.2.2.2.2.2.1
   have tn : tx.toInt.toNat < 2 := by omega
   have o0 : tx = 1 → (0 : Nat) ≠ tx.toInt.toNat := fun e => by rw [e]; decide
   have o1 : tx = 0 → (1 : Nat) ≠ tx.toInt.toNat := fun e => by rw [e]; decide
   have hA2 : TxS c o tx.toInt.toNat W R D BF OB := Or.inr ⟨ha, st, q1, q2, q3, q4, q5, q6, q7⟩
   have shut : ∀ p : Ob, Cls o p tx.toInt.toNat (f_commitCount o) → f_value p = f_value o → f_version p = f_version o → okP (J0_577 s p x2 x4 c w0 w1 r0 r1 d0 d1 f0 f1 b0 b1 n i tx W R D BF OB) (Po s i) := by
    intro p hp hv hv2
    rw [cc] at hp
    refine j577 j0 i1 tt (G.keep hp.1 hp.2.1 hv hv2) (by omega) (hp.own S tn) (fun e => hp.oth (o0 e) t0 (Int.le_refl _) (fun k _ => Or.inl ⟨by rw [hv], by rw [hv2]⟩)) (fun e => hp.oth (o1 e) t1 (Int.le_refl _) (fun k _ => Or.inl ⟨by rw [hv], by rw [hv2]⟩))
   have wrt : okP (J0_383 s o x2 x4 c w0 w1 r0 r1 d0 d1 f0 f1 b0 b1 n i tx ky vv W R D BF OB) (Po s i) := by
    unfold J0_383 J0_420
    rw [wr2 S kt.1 (by omega) kk.1 (by omega) ha q3]
    simp only [Option.bind_some, if_true]
    have n2 : F18 BF ky vv = some (sN BF ky vv) := rfl
    rw [n2]
    simp only [Option.bind_some]
    obtain ⟨p, hp⟩ : ∃ p, p = s_buffered (s_writeSet o ((f_writeSet o).set tx.toInt.toNat (W ||| ((1 : Int32) <<< (ky &&& 31))))) ((f_buffered o).set (tx.toInt.toNat * 32 + ky.toInt.toNat) vv) := ⟨_, rfl⟩
    have Sp : Sh 8 2 p := by rw [hp]; exact Sh_buf (Sh_wr S (by rw [List.length_set]; exact l6)) (by rw [List.length_set]; exact l7)
    have p1 : f_commitCount p = f_commitCount o := by rw [hp]; rfl
    have p2 : f_active p = f_active o := by rw [hp]; rfl
    have p3 : f_start p = f_start o := by rw [hp]; rfl
    have p4 : f_writeSet p = (f_writeSet o).set tx.toInt.toNat (W ||| ((1 : Int32) <<< (ky &&& 31))) := by rw [hp]; rfl
    have p5 : f_readSet p = f_readSet o := by rw [hp]; rfl
    have p6 : f_buffered p = (f_buffered o).set (tx.toInt.toNat * 32 + ky.toInt.toNat) vv := by rw [hp]; rfl
    have p7 : f_value p = f_value o := by rw [hp]; rfl
    have p8 : f_version p = f_version o := by rw [hp]; rfl
    rw [← hp]
    clear hp
    have oth : ∀ {u : Nat} {w r d : Int32} {bf ob : Int64}, u ≠ tx.toInt.toNat → u < 2 → TxS c o u w r d bf ob → TxS c p u w r d bf ob := by
     intro u w r d bf ob hu hu2 hT
     refine hT.mono (Int.le_refl _) (by rw [p2]) (by rw [p3]) (by rw [p4, List.getElem?_set_ne (fun q => hu q.symm)]) (by rw [p5]) (fun k hk => by rw [p6, List.getElem?_set_ne (by omega)]) (fun k _ => Or.inl ⟨by rw [p7], by rw [p8]⟩)
    refine j577 j0 i1 tt (G.keep Sp (p1.trans cc) p7 p8) (by omega) (Or.inr ⟨by rw [p2]; exact ha, st, by rw [p3]; exact q1, q2, by rw [p4, List.getElem?_set_self (by omega)], by rw [p5]; exact q4, ?_, ?_, ?_⟩) (fun e => oth (o0 e) (by decide) t0) (fun e => oth (o1 e) (by decide) t1)
    ·intro k hk hb1
     have ik := i8_i hk
     rw [p6, nb_sN BF kv ⟨kk.1, by omega⟩ (by omega), ik]
     by_cases e : ky.toInt = k
     ·rw [if_pos e]
      have : ky.toInt.toNat = k := by omega
      rw [this, List.getElem?_set_self (by omega)]
      exact ⟨rfl, kv⟩
     ·rw [if_neg e, List.getElem?_set_ne (by omega)]
      rw [bt_or, bt_one (k := ky.toInt.toNat) (by omega) (by omega) (by omega), decide_eq_false (by omega), Bool.or_false] at hb1
      exact q5 k hk hb1
    ·rw [p7, p8]; exact q6
    ·rw [p8]; exact q7
   have cmt : okP (J0_436 s o x2 x4 c w0 w1 r0 r1 d0 d1 f0 f1 b0 b1 n i tx W R D BF OB) (Po s i) := by
    unfold J0_436 J0_567
    apply okP.bind
    refine okP.mono (commit2 S kt.1 (by omega) ha q3 q4 q1) ?_
    rintro ⟨z, p⟩ (⟨u1, u2, u3, u4⟩ | ⟨u1, u2, u3, u4⟩)
    ·simp only at u1 u2 u3 u4 ⊢
     rw [if_pos u1]
     exact shut p u2 u3 u4
    ·simp only at u1 u2 u3 u4 ⊢
     rw [cc] at u1 u2 u4
     have c1 : (c + 1).toInt = c.toInt + 1 := inc1 (by omega)
     rw [if_neg (by rw [u1, i_lt, c1, z1]; omega), if_pos u1]
     have dz : D = 0 := by
      rcases q7 with e | ⟨k, hk, hr, ve, v1, v2⟩
      ·exact e
      ·have := u3 k hk hr ve v1
       omega
     rw [if_pos dz]
     apply okP.bind
     refine okP.mono (chk_ob (fun k hk hr => ?_)) ?_
     ·obtain ⟨v1, v2, _⟩ := G.2.2.2 k hk
      exact q6 k hk hr _ _ v1 v2 (u3 k hk hr _ v2)
     rintro _ rfl
     simp only
     apply okP.bind
     refine okP.mono (upd (fun k hk hb1 => (q5 k hk hb1).2) (by rw [u1]; omega)) ?_
     rintro ⟨y2, y4⟩ hu
     simp only at hu ⊢
     rw [u1] at hu ⊢
     have G' : Gl y2 y4 (c + 1) p := by
      refine ⟨u2.1, u2.2.1, by omega, fun k hk => ?_⟩
      obtain ⟨g1, g2, g3, g4⟩ := G.2.2.2 k hk
      obtain ⟨m1, m2⟩ := hu k hk
      obtain ⟨w1', w2'⟩ := u4 k hk
      rw [m1, m2]
      by_cases hb1 : bt W k = true
      ·rw [if_pos hb1, if_pos hb1, (w1' hb1).1, (w1' hb1).2]
       obtain ⟨b1', b2'⟩ := q5 k hk hb1
       exact ⟨b1', rfl, b2', by omega⟩
      ·have hb2 : bt W k = false := Bool.eq_false_iff.2 hb1
       rw [if_neg hb1, if_neg hb1, (w2' hb2).1, (w2' hb2).2]
       exact ⟨g1, g2, g3, by omega⟩
     have h6 : ∀ k : Nat, k < 8 → ((f_value p)[k]? = (f_value o)[k]? ∧ (f_version p)[k]? = (f_version o)[k]?) ∨ ∃ v, (f_version p)[k]? = some v ∧ c.toInt < v.toInt := by
      intro k hk
      obtain ⟨w1', w2'⟩ := u4 k hk
      by_cases hb1 : bt W k = true
      ·exact Or.inr ⟨_, (w1' hb1).2, by omega⟩
      ·exact Or.inl (w2' (Bool.eq_false_iff.2 hb1))
     exact j577 j0 i1 tt G' (by omega) (u2.own S tn) (fun e => u2.oth (o0 e) t0 (by omega) h6) (fun e => u2.oth (o1 e) t1 (by omega) h6)
   refine okP.ite (fun _ => ?_) (fun _ => ?_)
   ·rw [bt_ushr W (n := ky.toInt.toNat) (by omega) (by omega)]
    unfold J0_314 J0_368
    by_cases bw : bt W ky.toInt.toNat = true
    ·obtain ⟨b1', b2'⟩ := q5 ky.toInt.toNat (by omega) bw
     rw [i8_of kk.1] at b1'
     rw [rdw S kt.1 (by omega) kk.1 (by omega) ha q3 bw b1', if_pos bw]
     simp only [Option.bind_some]
     rw [if_neg (by decide)]
     have n1 : F8 BF ky = some (nb BF ky) := rfl
     rw [n1]
     simp only [Option.bind_some, if_true]
     exact j577 j0 i1 tt G (by omega) hA2 (fun _ => t0) (fun _ => t1)
    ·obtain ⟨v1, v2⟩ := nbr G kk.1 (by omega)
     rw [rdn S kt.1 (by omega) kk.1 (by omega) ha q3 (Bool.eq_false_iff.2 bw) q4 v1, if_neg bw]
     simp only [Option.bind_some, if_true]
     rw [if_neg (by rw [i_lt, z0]; omega), if_neg (by rw [i_lt, z15]; omega), bt_ushr R (n := ky.toInt.toNat) (by omega) (by omega)]
     obtain ⟨p, hp⟩ : ∃ p, p = s_readSet o ((f_readSet o).set tx.toInt.toNat (R ||| ((1 : Int32) <<< (ky &&& 31)))) := ⟨_, rfl⟩
     have Sp : Sh 8 2 p := by rw [hp]; exact Sh_rd S (by rw [List.length_set]; exact l5)
     have p1 : f_commitCount p = f_commitCount o := by rw [hp]; rfl
     have p2 : f_active p = f_active o := by rw [hp]; rfl
     have p3 : f_start p = f_start o := by rw [hp]; rfl
     have p4 : f_writeSet p = f_writeSet o := by rw [hp]; rfl
     have p5 : f_readSet p = (f_readSet o).set tx.toInt.toNat (R ||| ((1 : Int32) <<< (ky &&& 31))) := by rw [hp]; rfl
     have p6 : f_buffered p = f_buffered o := by rw [hp]; rfl
     have p7 : f_value p = f_value o := by rw [hp]; rfl
     have p8 : f_version p = f_version o := by rw [hp]; rfl
     rw [← hp]
     clear hp
     have oth : ∀ {u : Nat} {w r d : Int32} {bf ob : Int64}, u ≠ tx.toInt.toNat → TxS c o u w r d bf ob → TxS c p u w r d bf ob := by
      intro u w r d bf ob hu hT
      refine hT.mono (Int.le_refl _) (by rw [p2]) (by rw [p3]) (by rw [p4]) (by rw [p5, List.getElem?_set_ne (fun q => hu q.symm)]) (fun k hk => by rw [p6]) (fun k _ => Or.inl ⟨by rw [p7], by rw [p8]⟩)
     have Gp := G.keep Sp (p1.trans cc) p7 p8
     by_cases br : bt R ky.toInt.toNat = true
     ·rw [if_pos br, if_neg (by decide)]
      have n1 : F8 OB ky = some (nb OB ky) := rfl
      rw [n1]
      simp only [Option.bind_some]
      have rs : R ||| ((1 : Int32) <<< (ky &&& 31)) = R := bt_same (k := ky.toInt.toNat) (by omega) (by omega) br
      rw [rs] at p5
      refine j577 j0 i1 tt Gp (by omega) (Or.inr ⟨by rw [p2]; exact ha, st, by rw [p3]; exact q1, q2, by rw [p4]; exact q3, by rw [p5, List.getElem?_set_self (by omega)], by rw [p6]; exact q5, by rw [p7, p8]; exact q6, ?_⟩) (fun e => oth (o0 e) t0) (fun e => oth (o1 e) t1)
      rw [p8]
      by_cases eq : nb OB ky = nb x2 ky
      ·rw [if_pos eq]; exact q7
      ·rw [if_neg eq]
       right
       obtain ⟨_, g2, _⟩ := G.2.2.2 ky.toInt.toNat (by omega)
       refine ⟨ky.toInt.toNat, by omega, br, _, g2, ?_⟩
       by_cases le : (by8 x4 (i8 ky.toInt.toNat)).toInt ≤ st.toInt
       ·have := q6 ky.toInt.toNat (by omega) br _ _ v1 g2 le
        rw [i8_of kk.1] at this
        exact absurd this eq
       ·omega
     ·rw [if_neg br]
      simp only [if_true]
      have n2 : F18 OB ky (nb x2 ky) = some (sN OB ky (nb x2 ky)) := rfl
      rw [n2]
      simp only [Option.bind_some]
      refine j577 j0 i1 tt Gp (by omega) (Or.inr ⟨by rw [p2]; exact ha, st, by rw [p3]; exact q1, q2, by rw [p4]; exact q3, by rw [p5, List.getElem?_set_self (by omega)], by rw [p6]; exact q5, ?_, ?_⟩) (fun e => oth (o0 e) t0) (fun e => oth (o1 e) t1)
      ·intro k hk hr va ve w1' w2' w3'
       have ik := i8_i hk
       rw [p7] at w1'
       rw [p8] at w2'
       rw [nb_sN OB v2 ⟨kk.1, by omega⟩ (by omega), ik]
       by_cases e : ky.toInt = k
       ·rw [if_pos e]
        have ek : ky.toInt.toNat = k := by omega
        rw [ek] at v1
        rw [v1] at w1'
        exact Option.some.inj w1'
       ·rw [if_neg e]
        rw [bt_or, bt_one (k := ky.toInt.toNat) (by omega) (by omega) (by omega), decide_eq_false (by omega), Bool.or_false] at hr
        exact q6 k hk hr va ve w1' w2' w3'
      ·rw [p8]
       rcases q7 with e | ⟨k, hk, hr, ve, w1', w2'⟩
       ·exact Or.inl e
       ·exact Or.inr ⟨k, hk, by rw [bt_or, hr, Bool.true_or], ve, w1', w2'⟩
   refine okP.ite (fun _ => wrt) (fun _ => ?_)
   refine okP.ite (fun _ => wrt) (fun _ => ?_)
   refine okP.ite (fun _ => cmt) (fun _ => ?_)
   refine okP.ite (fun _ => cmt) (fun _ => ?_)
   apply okP.bind
   refine okP.mono (abort2 S kt.1 (by omega) ha) ?_
   rintro ⟨z, p⟩ ⟨u1, u2, u3⟩
   exact shut p u1 u2 u3
 ·apply okP.bind
  refine okP.mono (begin_ex S (by decide) (by decide)) ?_
  rintro ⟨b, p⟩ (⟨hb1, _⟩ | ⟨k0, k1, ka, bb, lb, ot, hp⟩)
  ·cases hb1
   simp only [if_neg (show ¬ (-5 : Int32) = 0 by decide), if_neg (show ¬ (-5 : Int32) = 1 by decide)]
   exact c625 G ⟨⟨by simp only; omega, by simp only; omega, G, by simp only; omega, t0, t1⟩, by simp only; omega⟩
  ·simp only at k0 k1 ka ot hp ⊢
   have k2 : b.toInt < 2 := k1
   have l3 := S.2.2.1
   have l4 := S.2.2.2.1
   have l5 := S.2.2.2.2.1
   have l6 := S.2.2.2.2.2.1
   have Sp : Sh 8 2 p := by rw [hp]; exact Sh_opn S _ lb
   have p1 : f_commitCount p = f_commitCount o := by rw [hp]; dsimp only [opn, clr, f_value, f_version, f_active, f_start, f_readSet, f_writeSet, f_buffered, f_keyCount, f_slotCount, f_window, f_commitCount, f_abortCount, f_lastConflict, s_buffered, s_writeSet, s_readSet, s_start, s_active]
   have p2 : f_active p = ((f_active o).set b.toInt.toNat 0).set b.toInt.toNat 1 := by rw [hp]; dsimp only [opn, clr, f_value, f_version, f_active, f_start, f_readSet, f_writeSet, f_buffered, f_keyCount, f_slotCount, f_window, f_commitCount, f_abortCount, f_lastConflict, s_buffered, s_writeSet, s_readSet, s_start, s_active]
   have p3 : f_start p = ((f_start o).set b.toInt.toNat 0).set b.toInt.toNat (f_commitCount o) := by rw [hp]; dsimp only [opn, clr, f_value, f_version, f_active, f_start, f_readSet, f_writeSet, f_buffered, f_keyCount, f_slotCount, f_window, f_commitCount, f_abortCount, f_lastConflict, s_buffered, s_writeSet, s_readSet, s_start, s_active]
   have p4 : f_writeSet p = (f_writeSet o).set b.toInt.toNat 0 := by rw [hp]; dsimp only [opn, clr, f_value, f_version, f_active, f_start, f_readSet, f_writeSet, f_buffered, f_keyCount, f_slotCount, f_window, f_commitCount, f_abortCount, f_lastConflict, s_buffered, s_writeSet, s_readSet, s_start, s_active]
   have p5 : f_readSet p = (f_readSet o).set b.toInt.toNat 0 := by rw [hp]; dsimp only [opn, clr, f_value, f_version, f_active, f_start, f_readSet, f_writeSet, f_buffered, f_keyCount, f_slotCount, f_window, f_commitCount, f_abortCount, f_lastConflict, s_buffered, s_writeSet, s_readSet, s_start, s_active]
   have p6 : f_buffered p = bb := by rw [hp]; dsimp only [opn, clr, f_value, f_version, f_active, f_start, f_readSet, f_writeSet, f_buffered, f_keyCount, f_slotCount, f_window, f_commitCount, f_abortCount, f_lastConflict, s_buffered, s_writeSet, s_readSet, s_start, s_active]
   have p7 : f_value p = f_value o := by rw [hp]; dsimp only [opn, clr, f_value, f_version, f_active, f_start, f_readSet, f_writeSet, f_buffered, f_keyCount, f_slotCount, f_window, f_commitCount, f_abortCount, f_lastConflict, s_buffered, s_writeSet, s_readSet, s_start, s_active]
   have p8 : f_version p = f_version o := by rw [hp]; dsimp only [opn, clr, f_value, f_version, f_active, f_start, f_readSet, f_writeSet, f_buffered, f_keyCount, f_slotCount, f_window, f_commitCount, f_abortCount, f_lastConflict, s_buffered, s_writeSet, s_readSet, s_start, s_active]
   clear hp
   have Gp := G.keep Sp (p1.trans cc) p7 p8
   have oth : ∀ {u : Nat} {w r d : Int32} {bf ob : Int64}, u ≠ b.toInt.toNat → TxS c o u w r d bf ob → TxS c p u w r d bf ob := by
    intro u w r d bf ob hu hT
    refine hT.mono (Int.le_refl _) (by rw [p2, List.getElem?_set_ne (fun q => hu q.symm), List.getElem?_set_ne (fun q => hu q.symm)]) (by rw [p3, List.getElem?_set_ne (fun q => hu q.symm), List.getElem?_set_ne (fun q => hu q.symm)]) (by rw [p4, List.getElem?_set_ne (fun q => hu q.symm)]) (by rw [p5, List.getElem?_set_ne (fun q => hu q.symm)]) (fun k hk => by rw [p6]; exact ot _ (by omega)) (fun k _ => Or.inl ⟨by rw [p7], by rw [p8]⟩)
   have own : TxS c p b.toInt.toNat 0 0 0 0 0 := by
    refine Or.inr ⟨by rw [p2, List.getElem?_set_self (by rw [List.length_set]; omega)], c, by rw [p3, cc, List.getElem?_set_self (by rw [List.length_set]; omega)], Int.le_refl _, by rw [p4, List.getElem?_set_self (by omega)], by rw [p5, List.getElem?_set_self (by omega)], ?_, ?_, Or.inl rfl⟩
    ·intro k _ q
     rw [bt_0] at q; cases q
    ·intro k _ q
     rw [bt_0] at q; cases q
   have bb2 : b = 0 ∨ b = 1 := by rw [i_eq, i_eq, z0, z1]; omega
   rcases bb2 with e | e
   ·subst e
    simp only [if_true]
    exact c625 Gp ⟨⟨by simp only; omega, by simp only; omega, Gp, by simp only; omega, own, oth (by decide) t1⟩, by simp only; omega⟩
   ·subst e
    simp only [if_neg (show ¬ (1 : Int32) = 0 by decide), if_true]
    exact c625 Gp ⟨⟨by simp only; omega, by simp only; omega, Gp, by simp only; omega, oth (by decide) t0, own⟩, by simp only; omega⟩
theorem law_ok (s : List Int32) (hs : s.length ≤ 260) : ∃ τ, F0 s = some (1, τ) ∧ τ.length - List.length ([Sum.inr (Sum.inl (FieldType.int, s))] : QHeap) ≤ room_1.cells ∧ qhs τ - qhs [Sum.inr (Sum.inl (FieldType.int, s))] ≤ room_1.slots := by
 have hl := len_i (n := s.length) (by omega)
 have z240 : (240 : Int32).toInt = 240 := rfl
 have : okP (F0 s) (fun e => e.1 = 1 ∧ sFit s e.2) := by
  unfold F0
  obtain ⟨n, hn⟩ : ∃ n, n = (if (s.length.toInt32) < (240 : Int32) then (s.length.toInt32) else (240 : Int32)) := ⟨_, rfl⟩
  rw [← hn]
  have n240 : n.toInt ≤ 240 := by
   rw [hn]
   by_cases q : s.length.toInt32 < 240
   ·rw [if_pos q]; rw [i_lt, z240] at q; omega
   ·rw [if_neg q]; decide
  obtain ⟨o, ho, hI⟩ : okP (F1 8 2 2) (fun o => Gl 0 0 0 o ∧ (f_active o)[0]? = some 0 ∧ (f_active o)[1]? = some 0) := by
   refine ⟨_, rfl, ?_⟩
   have z : ∀ n m : Nat, m < n → (List.replicate n (0 : Int32))[m]? = some 0 := by
    intro n m h
    rw [List.getElem?_replicate, if_pos h]
   have e1 : ∀ k : Nat, k < 8 → nb 0 (i8 k) = 0 := by decide
   have e2 : ∀ k : Nat, k < 8 → by8 0 (i8 k) = 0 := by decide
   dsimp only [Gl, Sh, f_value, f_version, f_active, f_start, f_readSet, f_writeSet, f_buffered, f_keyCount, f_slotCount, f_window, f_commitCount, f_abortCount, f_lastConflict, s_value, s_version, s_active, s_start, s_readSet, s_writeSet, s_buffered, s_keyCount, s_slotCount, s_window, s_commitCount, s_abortCount, s_lastConflict]
   refine ⟨⟨⟨List.length_replicate, List.length_replicate, List.length_replicate, List.length_replicate, List.length_replicate, List.length_replicate, List.length_replicate, rfl, rfl⟩, rfl, by decide, ?_⟩, z 8 0 (by decide), z 8 1 (by decide)⟩
   intro k hk
   rw [e1 k hk, e2 k hk]
   exact ⟨z 32 k (by omega), z 32 k (by omega), by decide, by decide⟩
  rw [ho]
  simp only [Option.bind_some]
  apply okP.bind
  refine okP.mono (P := fun e => e.1 = 1 ∧ sFit s e.2) ?_ (fun e he => okP.some he)
  refine okP.loop (fun w : QI => 0 ≤ w.2.2.2.2.2.2.2.2.2.2.2.2.2.1.toInt ∧ w.2.2.2.2.2.2.2.2.2.2.2.2.2.1.toInt ≤ 240 ∧ Inv w) (fun w => (240 - w.2.2.2.2.2.2.2.2.2.2.2.2.2.1.toInt).toNat) ⟨by show (0 : Int) ≤ 0; decide, by show (0 : Int) ≤ 240; decide, hI.1, by show (0 : Int) ≤ 0; decide, Or.inl hI.2.1, Or.inl hI.2.2⟩ (by show (240 - (0 : Int)).toNat < 4000; decide) ?_
  rintro ⟨x2, x4, c, w0, w1, r0, r1, d0, d1, f0, f1, b0, b1, i, o⟩ ⟨h1, h2, h3⟩
  exact turn hs n240 h3 h1
 obtain ⟨⟨r, τ⟩, q1, q2, q3⟩ := this
 simp only at q2
 subst q2
 exact ⟨τ, q1, q3⟩
set_option maxRecDepth 65536 in
theorem comes_1 {Post : Tables → Env → Array Value → State → Outcome → State → Prop} (hpost : ∀ tb e args s v u, (limb_1_1.after args s (.returned v) u = true ∧ limb_1_2.after args s (.returned v) u = true ∧ True) → FrameEnd s (.returned v) u (Jvm.fieldLocs frame_1_writes args s ++ Jvm.arrayLocs frame_1_arrays args s ++ Jvm.staticLocs frame_1_statics s) 24 832 → Post tb e args s (.returned v) u) :
    ArmFor flags0 classFile x code maxLocals ret World_1 tables_1 room_1 Calls_1 rest_1 Pre_1 Post := by
  intro l hfl _ _ p e ha hc hk s m args below hf hA hF happ hP
  obtain ⟨hcalls, hrest, hpre⟩ := hP
  obtain ⟨-, -, -, hnamed, -, -, -, hat⟩ := (Spec.applies_iff hf).mp happ
  obtain ⟨hg, hn⟩ := and_e (Cond.before_iff.mp (show (Jvm.Cond.and given_1 narrow_1).before args s = true from hpre))
  obtain ⟨g0, g1⟩ := and_e hg
  obtain ⟨w0, rfl⟩ : ∃ w0 : Value, args = #[w0] := by
    have hs : args.size = 1 := by simpa [Cond.value, given_1] using g0
    obtain ⟨L⟩ := args
    match L, hs with
    | [w0], _ => exact ⟨w0, rfl⟩
  have hw := fun d (hd : d ∈ tables_1) => atoms_spec (ws := Jvm.Cond.code x code maxLocals ret :: tables_1) hat d (List.mem_cons_of_mem _ hd)
  have hfit : Fit s := fun {y c} hc i hi => by
    obtain ⟨ha, rfl⟩ := Array.getElem?_eq_some_iff.mp hc
    have q := List.all_eq_true.mp ((Array.all_eq_true_iff_forall_mem.mp hF) _ (Array.getElem_mem ha)) i (List.mem_range.mpr hi)
    simpa [Array.getElem?_eq_getElem hi] using q
  obtain ⟨n1, n2⟩ := and_e hn
  obtain ⟨a, cl, xs, rfl, hA1, hA2, hlen⟩ := script_ok hfit n1 n2
  obtain ⟨τ, hF0, hc1, hs1⟩ := law_ok xs hlen
  have hlt := hA1.lt
  have Ad : QAd s.heap.size (fun k => match k with | 0 => a | k + 1 => s.heap.size + k) := ⟨fun k hk => by cases k with | zero => exact absurd hk (by decide) | succ k => rfl, fun i j h => by
    cases i with
    | zero => cases j with
      | zero => rfl
      | succ j => have h' : a = s.heap.size + j := h; exact absurd hA1.lt (by rw [h']; exact Nat.not_lt.mpr (Nat.le_add_right _ _))
    | succ i => cases j with
      | zero => have h' : s.heap.size + i = a := h; exact absurd hA1.lt (by rw [← h']; exact Nat.not_lt.mpr (Nat.le_add_right _ _))
      | succ j => have h' : s.heap.size + i = s.heap.size + j := h; omega⟩
  have hR : QRep s s.heap.size (fun k => match k with | 0 => a | k + 1 => s.heap.size + k) s.heap [.inr (.inl (.int, xs))] := ⟨Nat.le_refl _, rfl, fun k c h => by
    cases k with
    | zero => cases h; exact ⟨cl, hA1, hA2⟩
    | succ k => cases h⟩
  have T := tF0 (l := l) (Z := s) Ad (QW_ok hw) xs hF0
  have M := QTri.met (k := 0) (as := [.ref 0]) (by decide) T hR (Nat.le_of_ble_eq_true rfl) (fun q => by cases q) tables_1 (rm := room_1) (by decide) (by decide) hc1 hs1
  obtain ⟨n, o, h1, h2, h3, _, L, rfl, ⟨rfl, R', N⟩, hq⟩ := M p e ha hc hk s m _ below hf ((Spec.applies_iff_loose hf).mp happ).1 ⟨rfl, State.Warmed39.refl s, rfl⟩ trivial
  refine ⟨n, _, h1, h2, h3, hpost _ _ _ _ _ _ ⟨Cond.after_iff.mpr rfl, Cond.after_iff.mpr (eq_i res_at (Term.int_eval (1)) rfl), trivial⟩ ⟨hq.1, hq.2.1, (hq.2.2.sift fun y hy => Or.inr (N y hy)).mono hc1 hs1⟩⟩
theorem main_1_1 : Claimed_1_1 := comes_1 fun _ _ _ _ _ _ h hF => ⟨h.1, hF⟩
theorem main_1_2 : Claimed_1_2 := comes_1 fun _ _ _ _ _ _ h hF => ⟨h.2.1, hF⟩
end Jvm.Pilot.@@N@@
namespace Jvm.Pilot.@@N@@
open Jvm Jvm.ClassFile Sem Op Lib Jvm.Free Jvm.Stand Jvm.Pilot.@@N@@.Jvm.D
/-! MADE BY PROGRAM (witnessworld.py) out of the Statement's table words and the real class files: 11 classes; the members and pool entries that the words name. The judged class is class 1, her method 6. -/
namespace start1
open Jvm.ClassFile
def u (s : String) : CpInfo := .utf8 (stringToUtf16 s)
/-- a pool by its gaps: so many unusable entries, then the entry; so many at the end -/
def gap : Nat → List CpInfo → List CpInfo
  | 0, r => r
  | n + 1, r => .unusable :: gap n r
def poolList (es : List (Nat × CpInfo)) (last : Nat) : List CpInfo := es.foldr (fun e r => gap e.1 (e.2 :: r)) (gap last [])
def pool (es : List (Nat × CpInfo)) (last : Nat) : Array CpInfo := ⟨poolList es last⟩
def fileOf (pool : Array CpInfo) (this : Nat) (attrs : Array Attribute := #[]) (ms : Array MethodInfo := #[]) (fl : Nat := 33) (sup : Nat := 0) (ifs : Array Nat := #[]) (fds : Array FieldInfo := #[]) : ClassFile where
  minorVersion := 0
  majorVersion := 65
  constantPool := pool
  accessFlags := fl
  thisClass := this
  superClass := sup
  interfaces := ifs
  fields := fds
  methods := ms
  attributes := attrs
def plain (name : String) (sup : Option ClassId) : Class where
  name := name
  kind := .ordinary
  loader := none
  accessFlags := 33
  super := sup
  interfaces := #[]
  cf := none
  fields := #[]
  methods := #[]
  instanceTypes := #[]
  staticTypes := #[]
  resolved := #[]
  callSites := []
  init := .initialized
  statics := none
  mirror := none

def pool0 : Array CpInfo := pool [(5, u "<init>"), (0, u "()V"), (1, .class_ 10), (1, u "java/lang/Object")] 113

def k0c0 : Code := { maxStack := 0, maxLocals := 1, code := object_method_1_code, exceptionTable := #[], attributes := #[] }
def k0m0 : Method := { name := "<init>", desc := "()V", sig := { parameters := [], returnType := none }, accessFlags := 1, code := some k0c0 }
/-- java/lang/Object -/
def k0 : Class := { plain "java/lang/Object" none with
  accessFlags := 33
  interfaces := #[]
  cf := some (fileOf pool0 8 #[] #[{ accessFlags := 1, nameIndex := 5, descriptorIndex := 6, attributes := #[] }] 33 0 #[] #[])
  fields := #[]
  methods := #[k0m0]
  instanceTypes := #[]
  staticTypes := #[]
  resolved := Array.replicate 124 none
  statics := none }

def pool1 : Array CpInfo := pool [(2, .class_ 4), (1, u "java/lang/Object"), (0, u "<init>"), (0, u "()V"), (0, .long 15), (1, .long 18446744073709551615), (1, .long 255), (1, .class_ 14), (0, u "OccValidator"), (0, .methodref 13 16), (0, .nameAndType 5 17), (0, u "(III)V"), (0, .methodref 19 20), (0, .class_ 21), (0, .nameAndType 22 23), (0, u "OccValidatorOwnLaw"), (0, u "cell"), (0, u "([II)I"), (0, .methodref 13 25), (0, .nameAndType 26 27), (0, u "begin"), (0, u "()I"), (0, .methodref 13 29), (0, .nameAndType 30 31), (0, u "isActive"), (0, u "(I)Z"), (0, .methodref 13 33), (0, .nameAndType 34 35), (0, u "read"), (0, u "(II)I"), (0, .methodref 19 37), (0, .nameAndType 38 39), (0, u "nib"), (0, u "(JI)I"), (0, .methodref 19 41), (0, .nameAndType 42 43), (0, u "setNib"), (0, u "(JII)J"), (0, .methodref 13 45), (0, .nameAndType 46 47), (0, u "write"), (0, u "(III)I"), (0, .methodref 13 49), (0, .nameAndType 50 51), (0, u "commit"), (0, u "(I)I"), (0, .methodref 19 53), (0, .nameAndType 54 43), (0, u "setByt"), (0, .methodref 13 56), (0, .nameAndType 57 51), (0, u "abort"), (0, .methodref 13 59), (0, .nameAndType 60 51), (0, u "getValue"), (0, .methodref 13 62), (0, .nameAndType 63 51), (0, u "getVersion"), (0, .methodref 19 65), (0, .nameAndType 66 39), (0, u "byt"), (3, u "law"), (0, u "([I)Z")] 4

def k1m0 : Method := { name := "<init>", desc := "()V", sig := { parameters := [], returnType := none }, accessFlags := 1, code := none }
def k1c1 : Code := { maxStack := 2, maxLocals := 2, code := method_2_code, exceptionTable := #[], attributes := #[] }
def k1m1 : Method := { name := "cell", desc := "([II)I", sig := { parameters := [(.array .int), .int], returnType := some .int }, accessFlags := 10, code := some k1c1 }
def k1c2 : Code := { maxStack := 4, maxLocals := 3, code := method_3_code, exceptionTable := #[], attributes := #[] }
def k1m2 : Method := { name := "nib", desc := "(JI)I", sig := { parameters := [.long, .int], returnType := some .int }, accessFlags := 10, code := some k1c2 }
def k1c3 : Code := { maxStack := 6, maxLocals := 4, code := method_4_code, exceptionTable := #[], attributes := #[] }
def k1m3 : Method := { name := "setNib", desc := "(JII)J", sig := { parameters := [.long, .int, .int], returnType := some .long }, accessFlags := 10, code := some k1c3 }
def k1c4 : Code := { maxStack := 4, maxLocals := 3, code := method_5_code, exceptionTable := #[], attributes := #[] }
def k1m4 : Method := { name := "byt", desc := "(JI)I", sig := { parameters := [.long, .int], returnType := some .int }, accessFlags := 10, code := some k1c4 }
def k1c5 : Code := { maxStack := 6, maxLocals := 4, code := method_6_code, exceptionTable := #[], attributes := #[] }
def k1m5 : Method := { name := "setByt", desc := "(JII)J", sig := { parameters := [.long, .int, .int], returnType := some .long }, accessFlags := 10, code := some k1c5 }
def k1c6 : Code := { maxStack := 6, maxLocals := 37, code := code, exceptionTable := #[], attributes := #[] }
def k1m6 : Method := { name := "law", desc := "([I)Z", sig := { parameters := [(.array .int)], returnType := some .boolean }, accessFlags := 9, code := some k1c6 }
/-- OccValidatorOwnLaw -/
def k1 : Class := { plain "OccValidatorOwnLaw" (some 0) with
  accessFlags := 49
  interfaces := #[]
  cf := some (fileOf pool1 19 #[] #[{ accessFlags := 1, nameIndex := 5, descriptorIndex := 6, attributes := #[] }, { accessFlags := 10, nameIndex := 22, descriptorIndex := 23, attributes := #[] }, { accessFlags := 10, nameIndex := 38, descriptorIndex := 39, attributes := #[] }, { accessFlags := 10, nameIndex := 42, descriptorIndex := 43, attributes := #[] }, { accessFlags := 10, nameIndex := 66, descriptorIndex := 39, attributes := #[] }, { accessFlags := 10, nameIndex := 54, descriptorIndex := 43, attributes := #[] }, { accessFlags := 9, nameIndex := 70, descriptorIndex := 71, attributes := #[] }] 49 2 #[] #[])
  fields := #[]
  methods := #[k1m0, k1m1, k1m2, k1m3, k1m4, k1m5, k1m6]
  instanceTypes := #[]
  staticTypes := #[]
  resolved := Array.replicate 76 none
  statics := none }

def pool2 : Array CpInfo := pool [(1, .methodref 2 3), (0, .class_ 4), (0, .nameAndType 5 6), (0, u "java/lang/Object"), (0, u "<init>"), (0, u "()V"), (0, .fieldref 8 9), (0, .class_ 10), (0, .nameAndType 11 12), (0, u "OccValidator"), (0, u "value"), (0, u "[I"), (0, .fieldref 8 14), (0, .nameAndType 15 12), (0, u "version"), (0, .fieldref 8 17), (0, .nameAndType 18 19), (0, u "active"), (0, u "[Z"), (0, .fieldref 8 21), (0, .nameAndType 22 12), (0, u "start"), (0, .fieldref 8 24), (0, .nameAndType 25 12), (0, u "readSet"), (0, .fieldref 8 27), (0, .nameAndType 28 12), (0, u "writeSet"), (0, .fieldref 8 30), (0, .nameAndType 31 12), (0, u "buffered"), (0, .methodref 8 33), (0, .nameAndType 34 35), (0, u "clamp"), (0, u "(III)I"), (0, .fieldref 8 37), (0, .nameAndType 38 39), (0, u "keyCount"), (0, u "I"), (0, .fieldref 8 41), (0, .nameAndType 42 39), (0, u "slotCount"), (0, .fieldref 8 44), (0, .nameAndType 45 39), (0, u "window"), (0, .fieldref 8 47), (0, .nameAndType 48 39), (0, u "commitCount"), (0, .fieldref 8 50), (0, .nameAndType 51 39), (0, u "abortCount"), (0, .fieldref 8 53), (0, .nameAndType 54 39), (0, u "lastConflict"), (0, .methodref 8 56), (0, .nameAndType 57 58), (0, u "findFreeSlot"), (0, u "()I"), (0, .methodref 8 60), (0, .nameAndType 61 62), (0, u "openSlot"), (0, u "(I)V"), (0, .methodref 8 64), (0, .nameAndType 65 66), (0, u "isValidTx"), (0, u "(I)Z"), (0, .methodref 8 68), (0, .nameAndType 69 66), (0, u "isValidKey"), (0, .methodref 8 71), (0, .nameAndType 72 73), (0, u "bit"), (0, u "(I)I"), (0, .methodref 8 75), (0, .nameAndType 76 77), (0, u "bufIndex"), (0, u "(II)I"), (0, .methodref 8 79), (0, .nameAndType 80 66), (0, u "isStale"), (0, .methodref 8 82), (0, .nameAndType 83 35), (0, u "failCommit"), (0, .methodref 8 85), (0, .nameAndType 86 73), (0, u "leastConflict"), (0, .methodref 8 88), (0, .nameAndType 89 73), (0, u "install"), (0, .methodref 8 91), (0, .nameAndType 92 62), (0, u "endTx"), (0, .methodref 8 94), (0, .nameAndType 95 62), (0, u "clearSlot"), (0, u "OK"), (2, u "ERR_TX"), (1, u "ERR_KEY"), (1, u "ABORT_CONFLICT"), (1, u "ABORT_STALE"), (1, u "ERR_FULL"), (1, u "(III)V"), (2, u "begin"), (1, u "read"), (0, u "write"), (0, u "commit"), (0, u "abort"), (0, u "getValue"), (0, u "getVersion"), (3, u "isActive")] 6

def k2c0 : Code := { maxStack := 5, maxLocals := 4, code := prog_1_method_1_code, exceptionTable := #[], attributes := #[] }
def k2m0 : Method := { name := "<init>", desc := "(III)V", sig := { parameters := [.int, .int, .int], returnType := none }, accessFlags := 1, code := some k2c0 }
def k2c1 : Code := { maxStack := 2, maxLocals := 2, code := prog_1_method_2_code, exceptionTable := #[], attributes := #[] }
def k2m1 : Method := { name := "begin", desc := "()I", sig := { parameters := [], returnType := some .int }, accessFlags := 1, code := some k2c1 }
def k2c2 : Code := { maxStack := 4, maxLocals := 4, code := prog_1_method_3_code, exceptionTable := #[], attributes := #[] }
def k2m2 : Method := { name := "read", desc := "(II)I", sig := { parameters := [.int, .int], returnType := some .int }, accessFlags := 1, code := some k2c2 }
def k2c3 : Code := { maxStack := 5, maxLocals := 4, code := prog_1_method_4_code, exceptionTable := #[], attributes := #[] }
def k2m3 : Method := { name := "write", desc := "(III)I", sig := { parameters := [.int, .int, .int], returnType := some .int }, accessFlags := 1, code := some k2c3 }
def k2c4 : Code := { maxStack := 4, maxLocals := 3, code := prog_1_method_5_code, exceptionTable := #[], attributes := #[] }
def k2m4 : Method := { name := "commit", desc := "(I)I", sig := { parameters := [.int], returnType := some .int }, accessFlags := 1, code := some k2c4 }
def k2c5 : Code := { maxStack := 3, maxLocals := 2, code := prog_1_method_6_code, exceptionTable := #[], attributes := #[] }
def k2m5 : Method := { name := "abort", desc := "(I)I", sig := { parameters := [.int], returnType := some .int }, accessFlags := 1, code := some k2c5 }
def k2c6 : Code := { maxStack := 2, maxLocals := 2, code := prog_1_method_7_code, exceptionTable := #[], attributes := #[] }
def k2m6 : Method := { name := "getValue", desc := "(I)I", sig := { parameters := [.int], returnType := some .int }, accessFlags := 1, code := some k2c6 }
def k2c7 : Code := { maxStack := 2, maxLocals := 2, code := prog_1_method_8_code, exceptionTable := #[], attributes := #[] }
def k2m7 : Method := { name := "getVersion", desc := "(I)I", sig := { parameters := [.int], returnType := some .int }, accessFlags := 1, code := some k2c7 }
def k2c8 : Code := { maxStack := 2, maxLocals := 2, code := prog_1_method_12_code, exceptionTable := #[], attributes := #[] }
def k2m8 : Method := { name := "isActive", desc := "(I)Z", sig := { parameters := [.int], returnType := some .boolean }, accessFlags := 1, code := some k2c8 }
def k2c9 : Code := { maxStack := 2, maxLocals := 4, code := prog_1_method_17_code, exceptionTable := #[], attributes := #[] }
def k2m9 : Method := { name := "clamp", desc := "(III)I", sig := { parameters := [.int, .int, .int], returnType := some .int }, accessFlags := 2, code := some k2c9 }
def k2c10 : Code := { maxStack := 2, maxLocals := 2, code := prog_1_method_18_code, exceptionTable := #[], attributes := #[] }
def k2m10 : Method := { name := "isValidTx", desc := "(I)Z", sig := { parameters := [.int], returnType := some .boolean }, accessFlags := 2, code := some k2c10 }
def k2c11 : Code := { maxStack := 2, maxLocals := 2, code := prog_1_method_19_code, exceptionTable := #[], attributes := #[] }
def k2m11 : Method := { name := "isValidKey", desc := "(I)Z", sig := { parameters := [.int], returnType := some .boolean }, accessFlags := 2, code := some k2c11 }
def k2c12 : Code := { maxStack := 2, maxLocals := 2, code := prog_1_method_20_code, exceptionTable := #[], attributes := #[] }
def k2m12 : Method := { name := "bit", desc := "(I)I", sig := { parameters := [.int], returnType := some .int }, accessFlags := 2, code := some k2c12 }
def k2c13 : Code := { maxStack := 2, maxLocals := 3, code := prog_1_method_21_code, exceptionTable := #[], attributes := #[] }
def k2m13 : Method := { name := "bufIndex", desc := "(II)I", sig := { parameters := [.int, .int], returnType := some .int }, accessFlags := 2, code := some k2c13 }
def k2c14 : Code := { maxStack := 2, maxLocals := 2, code := prog_1_method_22_code, exceptionTable := #[], attributes := #[] }
def k2m14 : Method := { name := "findFreeSlot", desc := "()I", sig := { parameters := [], returnType := some .int }, accessFlags := 2, code := some k2c14 }
def k2c15 : Code := { maxStack := 3, maxLocals := 2, code := prog_1_method_23_code, exceptionTable := #[], attributes := #[] }
def k2m15 : Method := { name := "openSlot", desc := "(I)V", sig := { parameters := [.int], returnType := none }, accessFlags := 2, code := some k2c15 }
def k2c16 : Code := { maxStack := 3, maxLocals := 4, code := prog_1_method_24_code, exceptionTable := #[], attributes := #[] }
def k2m16 : Method := { name := "clearSlot", desc := "(I)V", sig := { parameters := [.int], returnType := none }, accessFlags := 2, code := some k2c16 }
def k2c17 : Code := { maxStack := 2, maxLocals := 2, code := prog_1_method_25_code, exceptionTable := #[], attributes := #[] }
def k2m17 : Method := { name := "endTx", desc := "(I)V", sig := { parameters := [.int], returnType := none }, accessFlags := 2, code := some k2c17 }
def k2c18 : Code := { maxStack := 3, maxLocals := 2, code := prog_1_method_26_code, exceptionTable := #[], attributes := #[] }
def k2m18 : Method := { name := "isStale", desc := "(I)Z", sig := { parameters := [.int], returnType := some .boolean }, accessFlags := 2, code := some k2c18 }
def k2c19 : Code := { maxStack := 3, maxLocals := 5, code := prog_1_method_27_code, exceptionTable := #[], attributes := #[] }
def k2m19 : Method := { name := "leastConflict", desc := "(I)I", sig := { parameters := [.int], returnType := some .int }, accessFlags := 2, code := some k2c19 }
def k2c20 : Code := { maxStack := 3, maxLocals := 4, code := prog_1_method_28_code, exceptionTable := #[], attributes := #[] }
def k2m20 : Method := { name := "failCommit", desc := "(III)I", sig := { parameters := [.int, .int, .int], returnType := some .int }, accessFlags := 2, code := some k2c20 }
def k2c21 : Code := { maxStack := 6, maxLocals := 5, code := prog_1_method_29_code, exceptionTable := #[], attributes := #[] }
def k2m21 : Method := { name := "install", desc := "(I)I", sig := { parameters := [.int], returnType := some .int }, accessFlags := 2, code := some k2c21 }
/-- OccValidator -/
def k2 : Class := { plain "OccValidator" (some 0) with
  accessFlags := 49
  interfaces := #[]
  cf := some (fileOf pool2 8 #[] #[{ accessFlags := 1, nameIndex := 5, descriptorIndex := 109, attributes := #[] }, { accessFlags := 1, nameIndex := 112, descriptorIndex := 58, attributes := #[] }, { accessFlags := 1, nameIndex := 114, descriptorIndex := 77, attributes := #[] }, { accessFlags := 1, nameIndex := 115, descriptorIndex := 35, attributes := #[] }, { accessFlags := 1, nameIndex := 116, descriptorIndex := 73, attributes := #[] }, { accessFlags := 1, nameIndex := 117, descriptorIndex := 73, attributes := #[] }, { accessFlags := 1, nameIndex := 118, descriptorIndex := 73, attributes := #[] }, { accessFlags := 1, nameIndex := 119, descriptorIndex := 73, attributes := #[] }, { accessFlags := 1, nameIndex := 123, descriptorIndex := 66, attributes := #[] }, { accessFlags := 2, nameIndex := 34, descriptorIndex := 35, attributes := #[] }, { accessFlags := 2, nameIndex := 65, descriptorIndex := 66, attributes := #[] }, { accessFlags := 2, nameIndex := 69, descriptorIndex := 66, attributes := #[] }, { accessFlags := 2, nameIndex := 72, descriptorIndex := 73, attributes := #[] }, { accessFlags := 2, nameIndex := 76, descriptorIndex := 77, attributes := #[] }, { accessFlags := 2, nameIndex := 57, descriptorIndex := 58, attributes := #[] }, { accessFlags := 2, nameIndex := 61, descriptorIndex := 62, attributes := #[] }, { accessFlags := 2, nameIndex := 95, descriptorIndex := 62, attributes := #[] }, { accessFlags := 2, nameIndex := 92, descriptorIndex := 62, attributes := #[] }, { accessFlags := 2, nameIndex := 80, descriptorIndex := 66, attributes := #[] }, { accessFlags := 2, nameIndex := 86, descriptorIndex := 73, attributes := #[] }, { accessFlags := 2, nameIndex := 83, descriptorIndex := 35, attributes := #[] }, { accessFlags := 2, nameIndex := 89, descriptorIndex := 73, attributes := #[] }] 49 2 #[] #[{ accessFlags := 25, nameIndex := 96, descriptorIndex := 39, attributes := #[] }, { accessFlags := 25, nameIndex := 99, descriptorIndex := 39, attributes := #[] }, { accessFlags := 25, nameIndex := 101, descriptorIndex := 39, attributes := #[] }, { accessFlags := 25, nameIndex := 103, descriptorIndex := 39, attributes := #[] }, { accessFlags := 25, nameIndex := 105, descriptorIndex := 39, attributes := #[] }, { accessFlags := 25, nameIndex := 107, descriptorIndex := 39, attributes := #[] }, { accessFlags := 2, nameIndex := 38, descriptorIndex := 39, attributes := #[] }, { accessFlags := 2, nameIndex := 42, descriptorIndex := 39, attributes := #[] }, { accessFlags := 2, nameIndex := 45, descriptorIndex := 39, attributes := #[] }, { accessFlags := 2, nameIndex := 48, descriptorIndex := 39, attributes := #[] }, { accessFlags := 2, nameIndex := 51, descriptorIndex := 39, attributes := #[] }, { accessFlags := 2, nameIndex := 54, descriptorIndex := 39, attributes := #[] }, { accessFlags := 2, nameIndex := 11, descriptorIndex := 12, attributes := #[] }, { accessFlags := 2, nameIndex := 15, descriptorIndex := 12, attributes := #[] }, { accessFlags := 2, nameIndex := 18, descriptorIndex := 19, attributes := #[] }, { accessFlags := 2, nameIndex := 22, descriptorIndex := 12, attributes := #[] }, { accessFlags := 2, nameIndex := 25, descriptorIndex := 12, attributes := #[] }, { accessFlags := 2, nameIndex := 28, descriptorIndex := 12, attributes := #[] }, { accessFlags := 2, nameIndex := 31, descriptorIndex := 12, attributes := #[] }])
  fields := #[{ name := "OK", type := .int, accessFlags := 25, slot := 0, constantValue := 0 }, { name := "ERR_TX", type := .int, accessFlags := 25, slot := 1, constantValue := 0 }, { name := "ERR_KEY", type := .int, accessFlags := 25, slot := 2, constantValue := 0 }, { name := "ABORT_CONFLICT", type := .int, accessFlags := 25, slot := 3, constantValue := 0 }, { name := "ABORT_STALE", type := .int, accessFlags := 25, slot := 4, constantValue := 0 }, { name := "ERR_FULL", type := .int, accessFlags := 25, slot := 5, constantValue := 0 }, { name := "keyCount", type := .int, accessFlags := 2, slot := 0, constantValue := 0 }, { name := "slotCount", type := .int, accessFlags := 2, slot := 1, constantValue := 0 }, { name := "window", type := .int, accessFlags := 2, slot := 2, constantValue := 0 }, { name := "commitCount", type := .int, accessFlags := 2, slot := 3, constantValue := 0 }, { name := "abortCount", type := .int, accessFlags := 2, slot := 4, constantValue := 0 }, { name := "lastConflict", type := .int, accessFlags := 2, slot := 5, constantValue := 0 }, { name := "value", type := (.array .int), accessFlags := 2, slot := 6, constantValue := 0 }, { name := "version", type := (.array .int), accessFlags := 2, slot := 7, constantValue := 0 }, { name := "active", type := (.array .boolean), accessFlags := 2, slot := 8, constantValue := 0 }, { name := "start", type := (.array .int), accessFlags := 2, slot := 9, constantValue := 0 }, { name := "readSet", type := (.array .int), accessFlags := 2, slot := 10, constantValue := 0 }, { name := "writeSet", type := (.array .int), accessFlags := 2, slot := 11, constantValue := 0 }, { name := "buffered", type := (.array .int), accessFlags := 2, slot := 12, constantValue := 0 }]
  methods := #[k2m0, k2m1, k2m2, k2m3, k2m4, k2m5, k2m6, k2m7, k2m8, k2m9, k2m10, k2m11, k2m12, k2m13, k2m14, k2m15, k2m16, k2m17, k2m18, k2m19, k2m20, k2m21]
  instanceTypes := #[.int, .int, .int, .int, .int, .int, (.array .int), (.array .int), (.array .boolean), (.array .int), (.array .int), (.array .int), (.array .int)]
  staticTypes := #[.int, .int, .int, .int, .int, .int]
  resolved := Array.replicate 130 none
  statics := none }

def pool3 : Array CpInfo := pool [(1, u "java/lang/Cloneable"), (0, .class_ 1), (0, u "java/lang/Object"), (0, .class_ 3)] 3

/-- java/lang/Cloneable -/
def k3 : Class := { plain "java/lang/Cloneable" (some 0) with
  accessFlags := 1537
  interfaces := #[]
  cf := some (fileOf pool3 2 #[] #[] 1537 4 #[] #[])
  fields := #[]
  methods := #[]
  instanceTypes := #[]
  staticTypes := #[]
  resolved := Array.replicate 8 none
  statics := none }

def pool4 : Array CpInfo := pool [(1, u "java/io/Serializable"), (0, .class_ 1), (0, u "java/lang/Object"), (0, .class_ 3)] 3

/-- java/io/Serializable -/
def k4 : Class := { plain "java/io/Serializable" (some 0) with
  accessFlags := 1537
  interfaces := #[]
  cf := some (fileOf pool4 2 #[] #[] 1537 4 #[] #[])
  fields := #[]
  methods := #[]
  instanceTypes := #[]
  staticTypes := #[]
  resolved := Array.replicate 8 none
  statics := none }

/-- the primitive boolean -/
def k5 : Class := { plain "boolean" none with kind := .primitive 'Z', accessFlags := 0x411 }
/-- [Z -/
def k6 : Class := { plain "[Z" (some 0) with kind := .array 5 .boolean, interfaces := #[3, 4], accessFlags := 1041 }

/-- the primitive byte -/
def k7 : Class := { plain "byte" none with kind := .primitive 'B', accessFlags := 0x411 }
/-- [B -/
def k8 : Class := { plain "[B" (some 0) with kind := .array 7 .byte, interfaces := #[3, 4], accessFlags := 1041 }

/-- the primitive int -/
def k9 : Class := { plain "int" none with kind := .primitive 'I', accessFlags := 0x411 }
/-- [I -/
def k10 : Class := { plain "[I" (some 0) with kind := .array 9 .int, interfaces := #[3, 4], accessFlags := 1041 }

def heap : Heap := #[{ cls := 10, slots := #[.int 1, .int 2, .int 3], vm := .none }]
def classes : Array Class := #[k0, k1, k2, k3, k4, k5, k6, k7, k8, k9, k10]
def interned : List (Array UInt16 × Addr) := []
def slotsUsed : Nat := 3
def theMethod : MethodId := ⟨1, 6⟩
def args0 : Array Value := #[.ref 0]
def aboutOver (below : List Frame) : State where
  vm := { classes := classes, interned := interned.toArray }
  heap := heap
  slotsUsed := slotsUsed
  threads := #[{ frames := .invoking theMethod args0 :: below }]
def below0 : List Frame := [.native { method := ⟨0, 0⟩, args := #[] }]
def about1 : State := aboutOver below0
def p0 : Program := .bare "" "" ""
def e0 : Env := launch0.env 0 0 0
theorem w_frames : about1.frames = Frame.invoking theMethod args0 :: below0 := rfl
set_option maxRecDepth 65536 in
theorem w_args : argsFit about1.vm theMethod args0 = true := by decide +kernel
set_option maxRecDepth 65536 in
theorem w_heap : heapFits about1 = true := by decide +kernel
set_option maxRecDepth 65536 in
theorem w_runnable : about1.curStatus? = some .runnable := by decide +kernel
set_option maxRecDepth 65536 in
theorem w_alone : about1.alone = true := by decide +kernel
set_option maxRecDepth 65536 in
theorem w_named : about1.methodNamed? x = some theMethod := by decide +kernel
set_option maxRecDepth 65536 in
theorem w_hears : about1.hears theMethod below0 = true := by decide +kernel
set_option maxRecDepth 65536 in
theorem w_ripe : about1.ripe theMethod args0 below0 = true := by decide +kernel
theorem w_running : about1.status = .running := rfl
set_option maxRecDepth 65536 in
theorem w_room : about1.hasRoom e0.platform room_1 = true :=
  launch0.hasRoom_least _ room_1 (by decide +kernel) (by decide +kernel) (by decide +kernel) (by decide +kernel) (by decide +kernel) (by decide +kernel)
theorem allAtoms_all (ts : List Jvm.Cond) (a : Array Jvm.Value) (st : Jvm.State) : (allAtoms ts).before a st = ts.all (fun c => c.before a st) := by
  induction ts with
  | nil => rfl
  | cons c t ih =>
    show (Jvm.Cond.and c (allAtoms t)).before a st = _
    rw [Jvm.Cond.before_and, ih, List.all_cons]
def words1 : List Jvm.Cond := Jvm.Cond.code x code maxLocals ret :: tables_1
/-- a 'code' word, met by the world's own term for the bytes: nothing is compared byte by byte -/
theorem code_word {y : MethodName} {bytes : ByteArray} {mx : Nat} {rt : Option FieldType} {a : Array Value} {s : State} {m : MethodId} {meth : Method} {c : Code} (h1 : s.methodNamed? y = some m) (h2 : s.vm.method? m = some meth) (h3 : meth.code = some c) (h4 : c.code = bytes)
    (h5 : (c.maxLocals == mx && c.exceptionTable.isEmpty && decide (c.maxStack ≤ mostOperands) && decide (meth.sig.returnType = rt) && !meth.locks && decide (parseMethodDescriptor y.desc = some meth.sig)) = true) : (Jvm.Cond.code y bytes mx rt).before a s = true := by
  simp only [Bool.and_eq_true, beq_iff_eq, Bool.not_eq_true', decide_eq_true_eq] at h5
  obtain ⟨⟨⟨⟨⟨g1, g2⟩, g3⟩, g4⟩, g5⟩, g6⟩ := h5
  simp [Cond.before, Cond.holds, Cond.value, h1, h2, h3, h4, g1, g2, g3, g4, g5, g6]
def isCode : Jvm.Cond → Bool
  | .code _ _ _ _ => true
  | _ => false
theorem all_split {L : List Jvm.Cond} {P : Jvm.Cond → Bool} (h1 : L.all (fun c => isCode c || P c) = true) (h2 : ∀ c ∈ L.filter isCode, P c = true) : L.all P = true := by
  refine List.all_eq_true.mpr fun c hc => ?_
  have h := List.all_eq_true.mp h1 c hc
  rcases Bool.eq_false_or_eq_true (isCode c) with hi | hi
  · exact h2 c (List.mem_filter.mpr ⟨hc, hi⟩)
  · simpa [hi] using h
set_option maxRecDepth 65536 in
theorem w_c0 : (Jvm.Cond.code x code maxLocals ret).before args0 about1 = true := code_word (m := ⟨1, 6⟩) (meth := k1m6) (c := k1c6) (by decide +kernel) rfl rfl rfl (by decide +kernel)
set_option maxRecDepth 65536 in
theorem w_c1 : (Jvm.Cond.code ({ cls := "OccValidator", name := "<init>", desc := "(III)V" } : Jvm.MethodName) prog_1_method_1_code (4 : Nat) (Option.none : Option Jvm.ClassFile.FieldType)).before args0 about1 = true := code_word (m := ⟨2, 0⟩) (meth := k2m0) (c := k2c0) (by decide +kernel) rfl rfl rfl (by decide +kernel)
set_option maxRecDepth 65536 in
theorem w_c2 : (Jvm.Cond.code ({ cls := "java/lang/Object", name := "<init>", desc := "()V" } : Jvm.MethodName) object_method_1_code (1 : Nat) (Option.none : Option Jvm.ClassFile.FieldType)).before args0 about1 = true := code_word (m := ⟨0, 0⟩) (meth := k0m0) (c := k0c0) (by decide +kernel) rfl rfl rfl (by decide +kernel)
set_option maxRecDepth 65536 in
theorem w_c3 : (Jvm.Cond.code ({ cls := "OccValidator", name := "clamp", desc := "(III)I" } : Jvm.MethodName) prog_1_method_17_code (4 : Nat) (Option.some Jvm.ClassFile.FieldType.int)).before args0 about1 = true := code_word (m := ⟨2, 9⟩) (meth := k2m9) (c := k2c9) (by decide +kernel) rfl rfl rfl (by decide +kernel)
set_option maxRecDepth 65536 in
theorem w_c4 : (Jvm.Cond.code ({ cls := "OccValidatorOwnLaw", name := "cell", desc := "([II)I" } : Jvm.MethodName) method_2_code (2 : Nat) (Option.some Jvm.ClassFile.FieldType.int)).before args0 about1 = true := code_word (m := ⟨1, 1⟩) (meth := k1m1) (c := k1c1) (by decide +kernel) rfl rfl rfl (by decide +kernel)
set_option maxRecDepth 65536 in
theorem w_c5 : (Jvm.Cond.code ({ cls := "OccValidator", name := "isActive", desc := "(I)Z" } : Jvm.MethodName) prog_1_method_12_code (2 : Nat) (Option.some Jvm.ClassFile.FieldType.boolean)).before args0 about1 = true := code_word (m := ⟨2, 8⟩) (meth := k2m8) (c := k2c8) (by decide +kernel) rfl rfl rfl (by decide +kernel)
set_option maxRecDepth 65536 in
theorem w_c6 : (Jvm.Cond.code ({ cls := "OccValidator", name := "isValidTx", desc := "(I)Z" } : Jvm.MethodName) prog_1_method_18_code (2 : Nat) (Option.some Jvm.ClassFile.FieldType.boolean)).before args0 about1 = true := code_word (m := ⟨2, 10⟩) (meth := k2m10) (c := k2c10) (by decide +kernel) rfl rfl rfl (by decide +kernel)
set_option maxRecDepth 65536 in
theorem w_c7 : (Jvm.Cond.code ({ cls := "OccValidator", name := "getValue", desc := "(I)I" } : Jvm.MethodName) prog_1_method_7_code (2 : Nat) (Option.some Jvm.ClassFile.FieldType.int)).before args0 about1 = true := code_word (m := ⟨2, 6⟩) (meth := k2m6) (c := k2c6) (by decide +kernel) rfl rfl rfl (by decide +kernel)
set_option maxRecDepth 65536 in
theorem w_c8 : (Jvm.Cond.code ({ cls := "OccValidator", name := "isValidKey", desc := "(I)Z" } : Jvm.MethodName) prog_1_method_19_code (2 : Nat) (Option.some Jvm.ClassFile.FieldType.boolean)).before args0 about1 = true := code_word (m := ⟨2, 11⟩) (meth := k2m11) (c := k2c11) (by decide +kernel) rfl rfl rfl (by decide +kernel)
set_option maxRecDepth 65536 in
theorem w_c9 : (Jvm.Cond.code ({ cls := "OccValidatorOwnLaw", name := "nib", desc := "(JI)I" } : Jvm.MethodName) method_3_code (3 : Nat) (Option.some Jvm.ClassFile.FieldType.int)).before args0 about1 = true := code_word (m := ⟨1, 2⟩) (meth := k1m2) (c := k1c2) (by decide +kernel) rfl rfl rfl (by decide +kernel)
set_option maxRecDepth 65536 in
theorem w_c10 : (Jvm.Cond.code ({ cls := "OccValidator", name := "getVersion", desc := "(I)I" } : Jvm.MethodName) prog_1_method_8_code (2 : Nat) (Option.some Jvm.ClassFile.FieldType.int)).before args0 about1 = true := code_word (m := ⟨2, 7⟩) (meth := k2m7) (c := k2c7) (by decide +kernel) rfl rfl rfl (by decide +kernel)
set_option maxRecDepth 65536 in
theorem w_c11 : (Jvm.Cond.code ({ cls := "OccValidatorOwnLaw", name := "byt", desc := "(JI)I" } : Jvm.MethodName) method_5_code (3 : Nat) (Option.some Jvm.ClassFile.FieldType.int)).before args0 about1 = true := code_word (m := ⟨1, 4⟩) (meth := k1m4) (c := k1c4) (by decide +kernel) rfl rfl rfl (by decide +kernel)
set_option maxRecDepth 65536 in
theorem w_c12 : (Jvm.Cond.code ({ cls := "OccValidator", name := "begin", desc := "()I" } : Jvm.MethodName) prog_1_method_2_code (2 : Nat) (Option.some Jvm.ClassFile.FieldType.int)).before args0 about1 = true := code_word (m := ⟨2, 1⟩) (meth := k2m1) (c := k2c1) (by decide +kernel) rfl rfl rfl (by decide +kernel)
set_option maxRecDepth 65536 in
theorem w_c13 : (Jvm.Cond.code ({ cls := "OccValidator", name := "findFreeSlot", desc := "()I" } : Jvm.MethodName) prog_1_method_22_code (2 : Nat) (Option.some Jvm.ClassFile.FieldType.int)).before args0 about1 = true := code_word (m := ⟨2, 14⟩) (meth := k2m14) (c := k2c14) (by decide +kernel) rfl rfl rfl (by decide +kernel)
set_option maxRecDepth 65536 in
theorem w_c14 : (Jvm.Cond.code ({ cls := "OccValidator", name := "openSlot", desc := "(I)V" } : Jvm.MethodName) prog_1_method_23_code (2 : Nat) (Option.none : Option Jvm.ClassFile.FieldType)).before args0 about1 = true := code_word (m := ⟨2, 15⟩) (meth := k2m15) (c := k2c15) (by decide +kernel) rfl rfl rfl (by decide +kernel)
set_option maxRecDepth 65536 in
theorem w_c15 : (Jvm.Cond.code ({ cls := "OccValidator", name := "clearSlot", desc := "(I)V" } : Jvm.MethodName) prog_1_method_24_code (4 : Nat) (Option.none : Option Jvm.ClassFile.FieldType)).before args0 about1 = true := code_word (m := ⟨2, 16⟩) (meth := k2m16) (c := k2c16) (by decide +kernel) rfl rfl rfl (by decide +kernel)
set_option maxRecDepth 65536 in
theorem w_c16 : (Jvm.Cond.code ({ cls := "OccValidator", name := "write", desc := "(III)I" } : Jvm.MethodName) prog_1_method_4_code (4 : Nat) (Option.some Jvm.ClassFile.FieldType.int)).before args0 about1 = true := code_word (m := ⟨2, 3⟩) (meth := k2m3) (c := k2c3) (by decide +kernel) rfl rfl rfl (by decide +kernel)
set_option maxRecDepth 65536 in
theorem w_c17 : (Jvm.Cond.code ({ cls := "OccValidator", name := "bit", desc := "(I)I" } : Jvm.MethodName) prog_1_method_20_code (2 : Nat) (Option.some Jvm.ClassFile.FieldType.int)).before args0 about1 = true := code_word (m := ⟨2, 12⟩) (meth := k2m12) (c := k2c12) (by decide +kernel) rfl rfl rfl (by decide +kernel)
set_option maxRecDepth 65536 in
theorem w_c18 : (Jvm.Cond.code ({ cls := "OccValidator", name := "bufIndex", desc := "(II)I" } : Jvm.MethodName) prog_1_method_21_code (3 : Nat) (Option.some Jvm.ClassFile.FieldType.int)).before args0 about1 = true := code_word (m := ⟨2, 13⟩) (meth := k2m13) (c := k2c13) (by decide +kernel) rfl rfl rfl (by decide +kernel)
set_option maxRecDepth 65536 in
theorem w_c19 : (Jvm.Cond.code ({ cls := "OccValidatorOwnLaw", name := "setNib", desc := "(JII)J" } : Jvm.MethodName) method_4_code (4 : Nat) (Option.some Jvm.ClassFile.FieldType.long)).before args0 about1 = true := code_word (m := ⟨1, 3⟩) (meth := k1m3) (c := k1c3) (by decide +kernel) rfl rfl rfl (by decide +kernel)
set_option maxRecDepth 65536 in
theorem w_c20 : (Jvm.Cond.code ({ cls := "OccValidator", name := "read", desc := "(II)I" } : Jvm.MethodName) prog_1_method_3_code (4 : Nat) (Option.some Jvm.ClassFile.FieldType.int)).before args0 about1 = true := code_word (m := ⟨2, 2⟩) (meth := k2m2) (c := k2c2) (by decide +kernel) rfl rfl rfl (by decide +kernel)
set_option maxRecDepth 65536 in
theorem w_c21 : (Jvm.Cond.code ({ cls := "OccValidator", name := "abort", desc := "(I)I" } : Jvm.MethodName) prog_1_method_6_code (2 : Nat) (Option.some Jvm.ClassFile.FieldType.int)).before args0 about1 = true := code_word (m := ⟨2, 5⟩) (meth := k2m5) (c := k2c5) (by decide +kernel) rfl rfl rfl (by decide +kernel)
set_option maxRecDepth 65536 in
theorem w_c22 : (Jvm.Cond.code ({ cls := "OccValidator", name := "endTx", desc := "(I)V" } : Jvm.MethodName) prog_1_method_25_code (2 : Nat) (Option.none : Option Jvm.ClassFile.FieldType)).before args0 about1 = true := code_word (m := ⟨2, 17⟩) (meth := k2m17) (c := k2c17) (by decide +kernel) rfl rfl rfl (by decide +kernel)
set_option maxRecDepth 65536 in
theorem w_c23 : (Jvm.Cond.code ({ cls := "OccValidator", name := "commit", desc := "(I)I" } : Jvm.MethodName) prog_1_method_5_code (3 : Nat) (Option.some Jvm.ClassFile.FieldType.int)).before args0 about1 = true := code_word (m := ⟨2, 4⟩) (meth := k2m4) (c := k2c4) (by decide +kernel) rfl rfl rfl (by decide +kernel)
set_option maxRecDepth 65536 in
theorem w_c24 : (Jvm.Cond.code ({ cls := "OccValidator", name := "isStale", desc := "(I)Z" } : Jvm.MethodName) prog_1_method_26_code (2 : Nat) (Option.some Jvm.ClassFile.FieldType.boolean)).before args0 about1 = true := code_word (m := ⟨2, 18⟩) (meth := k2m18) (c := k2c18) (by decide +kernel) rfl rfl rfl (by decide +kernel)
set_option maxRecDepth 65536 in
theorem w_c25 : (Jvm.Cond.code ({ cls := "OccValidator", name := "leastConflict", desc := "(I)I" } : Jvm.MethodName) prog_1_method_27_code (5 : Nat) (Option.some Jvm.ClassFile.FieldType.int)).before args0 about1 = true := code_word (m := ⟨2, 19⟩) (meth := k2m19) (c := k2c19) (by decide +kernel) rfl rfl rfl (by decide +kernel)
set_option maxRecDepth 65536 in
theorem w_c26 : (Jvm.Cond.code ({ cls := "OccValidator", name := "install", desc := "(I)I" } : Jvm.MethodName) prog_1_method_29_code (5 : Nat) (Option.some Jvm.ClassFile.FieldType.int)).before args0 about1 = true := code_word (m := ⟨2, 21⟩) (meth := k2m21) (c := k2c21) (by decide +kernel) rfl rfl rfl (by decide +kernel)
set_option maxRecDepth 65536 in
theorem w_c27 : (Jvm.Cond.code ({ cls := "OccValidatorOwnLaw", name := "setByt", desc := "(JII)J" } : Jvm.MethodName) method_6_code (4 : Nat) (Option.some Jvm.ClassFile.FieldType.long)).before args0 about1 = true := code_word (m := ⟨1, 5⟩) (meth := k1m5) (c := k1c5) (by decide +kernel) rfl rfl rfl (by decide +kernel)
set_option maxRecDepth 65536 in
theorem w_c28 : (Jvm.Cond.code ({ cls := "OccValidator", name := "failCommit", desc := "(III)I" } : Jvm.MethodName) prog_1_method_28_code (4 : Nat) (Option.some Jvm.ClassFile.FieldType.int)).before args0 about1 = true := code_word (m := ⟨2, 20⟩) (meth := k2m20) (c := k2c20) (by decide +kernel) rfl rfl rfl (by decide +kernel)
def codes1 : List Jvm.Cond := [Jvm.Cond.code x code maxLocals ret, Jvm.Cond.code ({ cls := "OccValidator", name := "<init>", desc := "(III)V" } : Jvm.MethodName) prog_1_method_1_code (4 : Nat) (Option.none : Option Jvm.ClassFile.FieldType), Jvm.Cond.code ({ cls := "java/lang/Object", name := "<init>", desc := "()V" } : Jvm.MethodName) object_method_1_code (1 : Nat) (Option.none : Option Jvm.ClassFile.FieldType), Jvm.Cond.code ({ cls := "OccValidator", name := "clamp", desc := "(III)I" } : Jvm.MethodName) prog_1_method_17_code (4 : Nat) (Option.some Jvm.ClassFile.FieldType.int), Jvm.Cond.code ({ cls := "OccValidatorOwnLaw", name := "cell", desc := "([II)I" } : Jvm.MethodName) method_2_code (2 : Nat) (Option.some Jvm.ClassFile.FieldType.int), Jvm.Cond.code ({ cls := "OccValidator", name := "isActive", desc := "(I)Z" } : Jvm.MethodName) prog_1_method_12_code (2 : Nat) (Option.some Jvm.ClassFile.FieldType.boolean), Jvm.Cond.code ({ cls := "OccValidator", name := "isValidTx", desc := "(I)Z" } : Jvm.MethodName) prog_1_method_18_code (2 : Nat) (Option.some Jvm.ClassFile.FieldType.boolean), Jvm.Cond.code ({ cls := "OccValidator", name := "getValue", desc := "(I)I" } : Jvm.MethodName) prog_1_method_7_code (2 : Nat) (Option.some Jvm.ClassFile.FieldType.int), Jvm.Cond.code ({ cls := "OccValidator", name := "isValidKey", desc := "(I)Z" } : Jvm.MethodName) prog_1_method_19_code (2 : Nat) (Option.some Jvm.ClassFile.FieldType.boolean), Jvm.Cond.code ({ cls := "OccValidatorOwnLaw", name := "nib", desc := "(JI)I" } : Jvm.MethodName) method_3_code (3 : Nat) (Option.some Jvm.ClassFile.FieldType.int), Jvm.Cond.code ({ cls := "OccValidator", name := "getVersion", desc := "(I)I" } : Jvm.MethodName) prog_1_method_8_code (2 : Nat) (Option.some Jvm.ClassFile.FieldType.int), Jvm.Cond.code ({ cls := "OccValidatorOwnLaw", name := "byt", desc := "(JI)I" } : Jvm.MethodName) method_5_code (3 : Nat) (Option.some Jvm.ClassFile.FieldType.int), Jvm.Cond.code ({ cls := "OccValidator", name := "begin", desc := "()I" } : Jvm.MethodName) prog_1_method_2_code (2 : Nat) (Option.some Jvm.ClassFile.FieldType.int), Jvm.Cond.code ({ cls := "OccValidator", name := "findFreeSlot", desc := "()I" } : Jvm.MethodName) prog_1_method_22_code (2 : Nat) (Option.some Jvm.ClassFile.FieldType.int), Jvm.Cond.code ({ cls := "OccValidator", name := "openSlot", desc := "(I)V" } : Jvm.MethodName) prog_1_method_23_code (2 : Nat) (Option.none : Option Jvm.ClassFile.FieldType), Jvm.Cond.code ({ cls := "OccValidator", name := "clearSlot", desc := "(I)V" } : Jvm.MethodName) prog_1_method_24_code (4 : Nat) (Option.none : Option Jvm.ClassFile.FieldType), Jvm.Cond.code ({ cls := "OccValidator", name := "write", desc := "(III)I" } : Jvm.MethodName) prog_1_method_4_code (4 : Nat) (Option.some Jvm.ClassFile.FieldType.int), Jvm.Cond.code ({ cls := "OccValidator", name := "bit", desc := "(I)I" } : Jvm.MethodName) prog_1_method_20_code (2 : Nat) (Option.some Jvm.ClassFile.FieldType.int), Jvm.Cond.code ({ cls := "OccValidator", name := "bufIndex", desc := "(II)I" } : Jvm.MethodName) prog_1_method_21_code (3 : Nat) (Option.some Jvm.ClassFile.FieldType.int), Jvm.Cond.code ({ cls := "OccValidatorOwnLaw", name := "setNib", desc := "(JII)J" } : Jvm.MethodName) method_4_code (4 : Nat) (Option.some Jvm.ClassFile.FieldType.long), Jvm.Cond.code ({ cls := "OccValidator", name := "read", desc := "(II)I" } : Jvm.MethodName) prog_1_method_3_code (4 : Nat) (Option.some Jvm.ClassFile.FieldType.int), Jvm.Cond.code ({ cls := "OccValidator", name := "abort", desc := "(I)I" } : Jvm.MethodName) prog_1_method_6_code (2 : Nat) (Option.some Jvm.ClassFile.FieldType.int), Jvm.Cond.code ({ cls := "OccValidator", name := "endTx", desc := "(I)V" } : Jvm.MethodName) prog_1_method_25_code (2 : Nat) (Option.none : Option Jvm.ClassFile.FieldType), Jvm.Cond.code ({ cls := "OccValidator", name := "commit", desc := "(I)I" } : Jvm.MethodName) prog_1_method_5_code (3 : Nat) (Option.some Jvm.ClassFile.FieldType.int), Jvm.Cond.code ({ cls := "OccValidator", name := "isStale", desc := "(I)Z" } : Jvm.MethodName) prog_1_method_26_code (2 : Nat) (Option.some Jvm.ClassFile.FieldType.boolean), Jvm.Cond.code ({ cls := "OccValidator", name := "leastConflict", desc := "(I)I" } : Jvm.MethodName) prog_1_method_27_code (5 : Nat) (Option.some Jvm.ClassFile.FieldType.int), Jvm.Cond.code ({ cls := "OccValidator", name := "install", desc := "(I)I" } : Jvm.MethodName) prog_1_method_29_code (5 : Nat) (Option.some Jvm.ClassFile.FieldType.int), Jvm.Cond.code ({ cls := "OccValidatorOwnLaw", name := "setByt", desc := "(JII)J" } : Jvm.MethodName) method_6_code (4 : Nat) (Option.some Jvm.ClassFile.FieldType.long), Jvm.Cond.code ({ cls := "OccValidator", name := "failCommit", desc := "(III)I" } : Jvm.MethodName) prog_1_method_28_code (4 : Nat) (Option.some Jvm.ClassFile.FieldType.int)]
set_option maxRecDepth 65536 in
theorem codes_eq : words1.filter isCode = codes1 := rfl
theorem w_codes : ∀ c ∈ words1.filter isCode, c.before args0 about1 = true := by
  rw [codes_eq]
  intro c hc
  simp only [codes1, List.mem_cons, List.not_mem_nil, or_false] at hc
  rcases hc with rfl | rfl | rfl | rfl | rfl | rfl | rfl | rfl | rfl | rfl | rfl | rfl | rfl | rfl | rfl | rfl | rfl | rfl | rfl | rfl | rfl | rfl | rfl | rfl | rfl | rfl | rfl | rfl | rfl
  · exact w_c0
  · exact w_c1
  · exact w_c2
  · exact w_c3
  · exact w_c4
  · exact w_c5
  · exact w_c6
  · exact w_c7
  · exact w_c8
  · exact w_c9
  · exact w_c10
  · exact w_c11
  · exact w_c12
  · exact w_c13
  · exact w_c14
  · exact w_c15
  · exact w_c16
  · exact w_c17
  · exact w_c18
  · exact w_c19
  · exact w_c20
  · exact w_c21
  · exact w_c22
  · exact w_c23
  · exact w_c24
  · exact w_c25
  · exact w_c26
  · exact w_c27
  · exact w_c28
set_option maxRecDepth 65536 in
theorem w_t1 : (words1.take 24).all (fun c => isCode c || c.before args0 about1) = true := by decide +kernel
set_option maxRecDepth 65536 in
theorem w_t2 : ((words1.drop 24).take 24).all (fun c => isCode c || c.before args0 about1) = true := by decide +kernel
set_option maxRecDepth 65536 in
theorem w_t3 : (((words1.drop 24).drop 24).take 24).all (fun c => isCode c || c.before args0 about1) = true := by decide +kernel
set_option maxRecDepth 65536 in
theorem w_t4 : ((((words1.drop 24).drop 24).drop 24).take 24).all (fun c => isCode c || c.before args0 about1) = true := by decide +kernel
set_option maxRecDepth 65536 in
theorem w_t5 : (((((words1.drop 24).drop 24).drop 24).drop 24).take 24).all (fun c => isCode c || c.before args0 about1) = true := by decide +kernel
set_option maxRecDepth 65536 in
theorem w_t6 : ((((((words1.drop 24).drop 24).drop 24).drop 24).drop 24).take 24).all (fun c => isCode c || c.before args0 about1) = true := by decide +kernel
set_option maxRecDepth 65536 in
theorem w_t7 : ((((((words1.drop 24).drop 24).drop 24).drop 24).drop 24).drop 24).all (fun c => isCode c || c.before args0 about1) = true := by decide +kernel
theorem w_tables : (allAtoms (Jvm.Cond.code x code maxLocals ret :: tables_1)).before args0 about1 = true := by
  rw [allAtoms_all]
  show words1.all (fun c => c.before args0 about1) = true
  refine all_split ?_ w_codes
  rw [← List.take_append_drop 24 words1, List.all_append, w_t1, ← List.take_append_drop 24 (words1.drop 24), List.all_append, w_t2, ← List.take_append_drop 24 ((words1.drop 24).drop 24), List.all_append, w_t3, ← List.take_append_drop 24 (((words1.drop 24).drop 24).drop 24), List.all_append, w_t4, ← List.take_append_drop 24 ((((words1.drop 24).drop 24).drop 24).drop 24), List.all_append, w_t5, ← List.take_append_drop 24 (((((words1.drop 24).drop 24).drop 24).drop 24).drop 24), List.all_append, w_t6, w_t7]
  rfl
set_option maxRecDepth 65536 in
theorem w_rest : rest_1_c.before args0 about1 = true := by decide +kernel
set_option maxRecDepth 65536 in
theorem w_case : (Jvm.Cond.and given_1 narrow_1).before args0 about1 = true := by decide +kernel
theorem w_applies : (headSpec (Jvm.Cond.code x code maxLocals ret :: tables_1) room_1).applies x e0.platform about1 = true :=
  (Spec.applies_iff w_frames).mpr ⟨w_running, w_runnable, w_alone, w_named, w_hears, w_ripe, w_room, w_tables⟩
theorem atStart : AtStart classFile x code maxLocals ret World_1 tables_1 room_1 Calls_1 rest_1 Pre_1 launch0 p0 e0 about1 theMethod args0 below0 :=
  ⟨lists_1, trivial, launch0.admits_env _ _ _, launch0.least_env, fairChoices_fair.cas, fairChoices_fair.clock, w_frames, w_args, w_heap, w_applies, trivial, w_rest, w_case⟩
end start1
theorem witness_1 : WitnessClaimed_1 := ⟨start1.p0, start1.e0, start1.about1, start1.theMethod, start1.args0, start1.below0, start1.atStart⟩
end Jvm.Pilot.@@N@@
