import JvmDerived
import JvmDerived.Pilot.@@N@@Statement
import JvmDerived.Pilot.@@N@@Code
set_option linter.unusedVariables false
set_option linter.unusedSimpArgs false
namespace Jvm.RoadKit
open Sem ClassFile Op Lib Jvm.Stand Jvm.Free Jvm.LawKit
section New
variable {p : Program} {l : Launch} {e : Env} {R : Room} {s : State} {m : MethodId} {args : Array Value} {below : List Frame} {meth : Method} {c : Code} {T : State} {locs : List Loc} {cells slots : Nat}
theorem retI (X : Stand p l e R s m args below meth c T locs cells slots) (hx : p.tables.exec = Jvm.exec) {pc : Nat} {Ls : Array Slot} {z : Int32} {rest : List Value} (hret : meth.sig.returnType = some .int) (hd : decode c.code pc = .ok (.ireturn, 1)) {fs : List Frame}
    (hl : ∀ (f : JFrame) (acts : List Action), f.method = m → f.locked = none → f.entered = [] → (doReturn e (T.setTop f) acts (some (.int z))).1 = T.setFrames fs) : Steps p.tables e below (T.setTop (mkF m pc Ls (.int z :: rest))) (T.setFrames fs) := by
  have hm' : T.vm.method? m = some meth := X.method'
  have hn : narrow .int (.int z) = .int z := rfl
  show Steps p.tables e below (T.setTop { method := m, pc := pc, locals := Ls, stack := _ :: rest, locked := none }) _
  jvm_step X.here [X.here.top, hx, hd, hm', hret, hn]
  first | (intro acts; rw [hl _ acts rfl rfl rfl]) | rw [hl _ _ rfl rfl rfl]
  exact Steps.refl _
end New
end Jvm.RoadKit
namespace Jvm.Pilot.@@N@@
open Jvm Jvm.ClassFile Sem Op Lib Jvm.Free Jvm.Stand Jvm.LawKit Jvm.RoadKit Bundle Jvm.Pilot.@@N@@.Jvm.D
/-! TABLES of this claim: printed by claim.py -/
def k0 : Nat := 1
def cName : String := "OccValidator"
def cN : Nat := 13
def nF : Nat := 13
def kName (k : Nat) : String := bif Nat.beq k 0 then "OccValidatorL6" else "OccValidator"
def fNm (k : Nat) : String := (bif Nat.ble 6 k then (bif Nat.ble 9 k then (bif Nat.ble 11 k then (bif Nat.ble 12 k then "lastConflict" else "abortCount") else (bif Nat.ble 10 k then "commitCount" else "window")) else (bif Nat.ble 7 k then (bif Nat.ble 8 k then "slotCount" else "keyCount") else "buffered")) else (bif Nat.ble 3 k then (bif Nat.ble 4 k then (bif Nat.ble 5 k then "writeSet" else "readSet") else "start") else (bif Nat.ble 1 k then (bif Nat.ble 2 k then "active" else "version") else "value")))
def fDs (k : Nat) : String := (bif Nat.ble 6 k then (bif Nat.ble 9 k then (bif Nat.ble 11 k then (bif Nat.ble 12 k then "I" else "I") else (bif Nat.ble 10 k then "I" else "I")) else (bif Nat.ble 7 k then (bif Nat.ble 8 k then "I" else "I") else "[I")) else (bif Nat.ble 3 k then (bif Nat.ble 4 k then (bif Nat.ble 5 k then "[I" else "[I") else "[I") else (bif Nat.ble 1 k then (bif Nat.ble 2 k then "[Z" else "[I") else "[I")))
def fTy (k : Nat) : FieldType := (bif Nat.ble 6 k then (bif Nat.ble 9 k then (bif Nat.ble 11 k then (bif Nat.ble 12 k then .int else .int) else (bif Nat.ble 10 k then .int else .int)) else (bif Nat.ble 7 k then (bif Nat.ble 8 k then .int else .int) else (.array .int))) else (bif Nat.ble 3 k then (bif Nat.ble 4 k then (bif Nat.ble 5 k then (.array .int) else (.array .int)) else (.array .int)) else (bif Nat.ble 1 k then (bif Nat.ble 2 k then (.array .boolean) else (.array .int)) else (.array .int))))
def fFin (k : Nat) : Bool := (bif Nat.ble 6 k then (bif Nat.ble 9 k then (bif Nat.ble 11 k then (bif Nat.ble 12 k then false else false) else (bif Nat.ble 10 k then false else false)) else (bif Nat.ble 7 k then (bif Nat.ble 8 k then false else false) else false)) else (bif Nat.ble 3 k then (bif Nat.ble 4 k then (bif Nat.ble 5 k then false else false) else false) else (bif Nat.ble 1 k then (bif Nat.ble 2 k then false else false) else false)))
def cDef : List Value := [.null, .null, .null, .null, .null, .null, .null, .int 0, .int 0, .int 0, .int 0, .int 0, .int 0]
def cK : List Value := []
def pN : Nat := 31
def pTop (m : Nat) : Nat := (bif Nat.ble 15 m then (bif Nat.ble 23 m then (bif Nat.ble 27 m then (bif Nat.ble 29 m then (bif Nat.ble 30 m then 22 else 27) else (bif Nat.ble 28 m then 17 else 7)) else (bif Nat.ble 25 m then (bif Nat.ble 26 m then 53 else 6) else (bif Nat.ble 24 m then 97 else 66))) else (bif Nat.ble 19 m then (bif Nat.ble 21 m then (bif Nat.ble 22 m then 24 else 4) else (bif Nat.ble 20 m then 57 else 23)) else (bif Nat.ble 17 m then (bif Nat.ble 18 m then 35 else 19) else (bif Nat.ble 16 m then 70 else 17)))) else (bif Nat.ble 7 m then (bif Nat.ble 11 m then (bif Nat.ble 13 m then (bif Nat.ble 14 m then 6 else 5) else (bif Nat.ble 12 m then 5 else 5)) else (bif Nat.ble 9 m then (bif Nat.ble 10 m then 52 else 23) else (bif Nat.ble 8 m then 24 else 17))) else (bif Nat.ble 3 m then (bif Nat.ble 5 m then (bif Nat.ble 6 m then 49 else 17) else (bif Nat.ble 4 m then 27 else 17)) else (bif Nat.ble 1 m then (bif Nat.ble 2 m then 16 else 114) else 895))))
def pK (m : Nat) : Nat := (bif Nat.ble 15 m then (bif Nat.ble 23 m then (bif Nat.ble 27 m then (bif Nat.ble 29 m then (bif Nat.ble 30 m then 1 else 1) else (bif Nat.ble 28 m then 1 else 1)) else (bif Nat.ble 25 m then (bif Nat.ble 26 m then 1 else 1) else (bif Nat.ble 24 m then 1 else 1))) else (bif Nat.ble 19 m then (bif Nat.ble 21 m then (bif Nat.ble 22 m then 1 else 1) else (bif Nat.ble 20 m then 1 else 1)) else (bif Nat.ble 17 m then (bif Nat.ble 18 m then 1 else 1) else (bif Nat.ble 16 m then 1 else 1)))) else (bif Nat.ble 7 m then (bif Nat.ble 11 m then (bif Nat.ble 13 m then (bif Nat.ble 14 m then 1 else 1) else (bif Nat.ble 12 m then 1 else 1)) else (bif Nat.ble 9 m then (bif Nat.ble 10 m then 1 else 0) else (bif Nat.ble 8 m then 1 else 1))) else (bif Nat.ble 3 m then (bif Nat.ble 5 m then (bif Nat.ble 6 m then 1 else 1) else (bif Nat.ble 4 m then 1 else 1)) else (bif Nat.ble 1 m then (bif Nat.ble 2 m then 1 else 1) else 0))))
def pNm (m : Nat) : String := (bif Nat.ble 15 m then (bif Nat.ble 23 m then (bif Nat.ble 27 m then (bif Nat.ble 29 m then (bif Nat.ble 30 m then "failCommit" else "abort") else (bif Nat.ble 28 m then "getVersion" else "bufIndex")) else (bif Nat.ble 25 m then (bif Nat.ble 26 m then "write" else "endTx") else (bif Nat.ble 24 m then "install" else "leastConflict"))) else (bif Nat.ble 19 m then (bif Nat.ble 21 m then (bif Nat.ble 22 m then "isStale" else "bit") else (bif Nat.ble 20 m then "clearSlot" else "openSlot")) else (bif Nat.ble 17 m then (bif Nat.ble 18 m then "findFreeSlot" else "begin") else (bif Nat.ble 16 m then "read" else "getStart")))) else (bif Nat.ble 7 m then (bif Nat.ble 11 m then (bif Nat.ble 13 m then (bif Nat.ble 14 m then "isActive" else "getLastConflictKey") else (bif Nat.ble 12 m then "getAbortCount" else "getCommitCount")) else (bif Nat.ble 9 m then (bif Nat.ble 10 m then "commit" else "pick") else (bif Nat.ble 8 m then "isValidKey" else "getValue"))) else (bif Nat.ble 3 m then (bif Nat.ble 5 m then (bif Nat.ble 6 m then "getBuffered" else "getWriteSet") else (bif Nat.ble 4 m then "isValidTx" else "getReadSet")) else (bif Nat.ble 1 m then (bif Nat.ble 2 m then "clamp" else "<init>") else "law"))))
def pDs (m : Nat) : String := (bif Nat.ble 15 m then (bif Nat.ble 23 m then (bif Nat.ble 27 m then (bif Nat.ble 29 m then (bif Nat.ble 30 m then "(III)I" else "(I)I") else (bif Nat.ble 28 m then "(I)I" else "(II)I")) else (bif Nat.ble 25 m then (bif Nat.ble 26 m then "(III)I" else "(I)V") else (bif Nat.ble 24 m then "(I)I" else "(I)I"))) else (bif Nat.ble 19 m then (bif Nat.ble 21 m then (bif Nat.ble 22 m then "(I)Z" else "(I)I") else (bif Nat.ble 20 m then "(I)V" else "(I)V")) else (bif Nat.ble 17 m then (bif Nat.ble 18 m then "()I" else "()I") else (bif Nat.ble 16 m then "(II)I" else "(I)I")))) else (bif Nat.ble 7 m then (bif Nat.ble 11 m then (bif Nat.ble 13 m then (bif Nat.ble 14 m then "(I)Z" else "()I") else (bif Nat.ble 12 m then "()I" else "()I")) else (bif Nat.ble 9 m then (bif Nat.ble 10 m then "(I)I" else "(IIIII)I") else (bif Nat.ble 8 m then "(I)Z" else "(I)I"))) else (bif Nat.ble 3 m then (bif Nat.ble 5 m then (bif Nat.ble 6 m then "(II)I" else "(I)I") else (bif Nat.ble 4 m then "(I)Z" else "(I)I")) else (bif Nat.ble 1 m then (bif Nat.ble 2 m then "(III)I" else "(III)V") else "([I)Z"))))
def pName (m : Nat) : MethodName := ⟨kName (pK m), pNm m, pDs m⟩
def pBytes (m : Nat) : ByteArray := (bif Nat.ble 15 m then (bif Nat.ble 23 m then (bif Nat.ble 27 m then (bif Nat.ble 29 m then (bif Nat.ble 30 m then prog_1_method_28_code else prog_1_method_6_code) else (bif Nat.ble 28 m then prog_1_method_8_code else prog_1_method_21_code)) else (bif Nat.ble 25 m then (bif Nat.ble 26 m then prog_1_method_4_code else prog_1_method_25_code) else (bif Nat.ble 24 m then prog_1_method_29_code else prog_1_method_27_code))) else (bif Nat.ble 19 m then (bif Nat.ble 21 m then (bif Nat.ble 22 m then prog_1_method_26_code else prog_1_method_20_code) else (bif Nat.ble 20 m then prog_1_method_24_code else prog_1_method_23_code)) else (bif Nat.ble 17 m then (bif Nat.ble 18 m then prog_1_method_22_code else prog_1_method_2_code) else (bif Nat.ble 16 m then prog_1_method_3_code else prog_1_method_13_code)))) else (bif Nat.ble 7 m then (bif Nat.ble 11 m then (bif Nat.ble 13 m then (bif Nat.ble 14 m then prog_1_method_12_code else prog_1_method_11_code) else (bif Nat.ble 12 m then prog_1_method_10_code else prog_1_method_9_code)) else (bif Nat.ble 9 m then (bif Nat.ble 10 m then prog_1_method_5_code else method_2_code) else (bif Nat.ble 8 m then prog_1_method_19_code else prog_1_method_7_code))) else (bif Nat.ble 3 m then (bif Nat.ble 5 m then (bif Nat.ble 6 m then prog_1_method_16_code else prog_1_method_15_code) else (bif Nat.ble 4 m then prog_1_method_18_code else prog_1_method_14_code)) else (bif Nat.ble 1 m then (bif Nat.ble 2 m then prog_1_method_17_code else prog_1_method_1_code) else code))))
def pMaxL (m : Nat) : Nat := (bif Nat.ble 15 m then (bif Nat.ble 23 m then (bif Nat.ble 27 m then (bif Nat.ble 29 m then (bif Nat.ble 30 m then 4 else 2) else (bif Nat.ble 28 m then 2 else 3)) else (bif Nat.ble 25 m then (bif Nat.ble 26 m then 4 else 2) else (bif Nat.ble 24 m then 5 else 5))) else (bif Nat.ble 19 m then (bif Nat.ble 21 m then (bif Nat.ble 22 m then 2 else 2) else (bif Nat.ble 20 m then 4 else 2)) else (bif Nat.ble 17 m then (bif Nat.ble 18 m then 2 else 2) else (bif Nat.ble 16 m then 4 else 2)))) else (bif Nat.ble 7 m then (bif Nat.ble 11 m then (bif Nat.ble 13 m then (bif Nat.ble 14 m then 2 else 1) else (bif Nat.ble 12 m then 1 else 1)) else (bif Nat.ble 9 m then (bif Nat.ble 10 m then 3 else 5) else (bif Nat.ble 8 m then 2 else 2))) else (bif Nat.ble 3 m then (bif Nat.ble 5 m then (bif Nat.ble 6 m then 3 else 2) else (bif Nat.ble 4 m then 2 else 2)) else (bif Nat.ble 1 m then (bif Nat.ble 2 m then 4 else 4) else 24))))
def pRet (m : Nat) : Option FieldType := (bif Nat.ble 15 m then (bif Nat.ble 23 m then (bif Nat.ble 27 m then (bif Nat.ble 29 m then (bif Nat.ble 30 m then (some .int) else (some .int)) else (bif Nat.ble 28 m then (some .int) else (some .int))) else (bif Nat.ble 25 m then (bif Nat.ble 26 m then (some .int) else none) else (bif Nat.ble 24 m then (some .int) else (some .int)))) else (bif Nat.ble 19 m then (bif Nat.ble 21 m then (bif Nat.ble 22 m then (some .boolean) else (some .int)) else (bif Nat.ble 20 m then none else none)) else (bif Nat.ble 17 m then (bif Nat.ble 18 m then (some .int) else (some .int)) else (bif Nat.ble 16 m then (some .int) else (some .int))))) else (bif Nat.ble 7 m then (bif Nat.ble 11 m then (bif Nat.ble 13 m then (bif Nat.ble 14 m then (some .boolean) else (some .int)) else (bif Nat.ble 12 m then (some .int) else (some .int))) else (bif Nat.ble 9 m then (bif Nat.ble 10 m then (some .int) else (some .int)) else (bif Nat.ble 8 m then (some .boolean) else (some .int)))) else (bif Nat.ble 3 m then (bif Nat.ble 5 m then (bif Nat.ble 6 m then (some .int) else (some .int)) else (bif Nat.ble 4 m then (some .boolean) else (some .int))) else (bif Nat.ble 1 m then (bif Nat.ble 2 m then (some .int) else none) else (some .boolean)))))
def pNA (m : Nat) : Nat := (bif Nat.ble 15 m then (bif Nat.ble 23 m then (bif Nat.ble 27 m then (bif Nat.ble 29 m then (bif Nat.ble 30 m then 3 else 1) else (bif Nat.ble 28 m then 1 else 2)) else (bif Nat.ble 25 m then (bif Nat.ble 26 m then 3 else 1) else (bif Nat.ble 24 m then 1 else 1))) else (bif Nat.ble 19 m then (bif Nat.ble 21 m then (bif Nat.ble 22 m then 1 else 1) else (bif Nat.ble 20 m then 1 else 1)) else (bif Nat.ble 17 m then (bif Nat.ble 18 m then 0 else 0) else (bif Nat.ble 16 m then 2 else 1)))) else (bif Nat.ble 7 m then (bif Nat.ble 11 m then (bif Nat.ble 13 m then (bif Nat.ble 14 m then 1 else 0) else (bif Nat.ble 12 m then 0 else 0)) else (bif Nat.ble 9 m then (bif Nat.ble 10 m then 1 else 5) else (bif Nat.ble 8 m then 1 else 1))) else (bif Nat.ble 3 m then (bif Nat.ble 5 m then (bif Nat.ble 6 m then 2 else 1) else (bif Nat.ble 4 m then 1 else 1)) else (bif Nat.ble 1 m then (bif Nat.ble 2 m then 3 else 3) else 1))))
def pFr (m : Nat) : Nat := (bif Nat.ble 15 m then (bif Nat.ble 23 m then (bif Nat.ble 27 m then (bif Nat.ble 29 m then (bif Nat.ble 30 m then 2 else 2) else (bif Nat.ble 28 m then 1 else 0)) else (bif Nat.ble 25 m then (bif Nat.ble 26 m then 1 else 1) else (bif Nat.ble 24 m then 2 else 1))) else (bif Nat.ble 19 m then (bif Nat.ble 21 m then (bif Nat.ble 22 m then 0 else 0) else (bif Nat.ble 20 m then 0 else 1)) else (bif Nat.ble 17 m then (bif Nat.ble 18 m then 0 else 2) else (bif Nat.ble 16 m then 1 else 1)))) else (bif Nat.ble 7 m then (bif Nat.ble 11 m then (bif Nat.ble 13 m then (bif Nat.ble 14 m then 1 else 0) else (bif Nat.ble 12 m then 0 else 0)) else (bif Nat.ble 9 m then (bif Nat.ble 10 m then 3 else 0) else (bif Nat.ble 8 m then 0 else 1))) else (bif Nat.ble 3 m then (bif Nat.ble 5 m then (bif Nat.ble 6 m then 1 else 1) else (bif Nat.ble 4 m then 0 else 1)) else (bif Nat.ble 1 m then (bif Nat.ble 2 m then 0 else 1) else 4))))
def pLo (m : Nat) : Nat := (bif Nat.ble 15 m then (bif Nat.ble 23 m then (bif Nat.ble 27 m then (bif Nat.ble 29 m then (bif Nat.ble 30 m then 28 else 28) else (bif Nat.ble 28 m then 13 else 0)) else (bif Nat.ble 25 m then (bif Nat.ble 26 m then 16 else 15) else (bif Nat.ble 24 m then 28 else 14))) else (bif Nat.ble 19 m then (bif Nat.ble 21 m then (bif Nat.ble 22 m then 0 else 0) else (bif Nat.ble 20 m then 0 else 15)) else (bif Nat.ble 17 m then (bif Nat.ble 18 m then 0 else 28) else (bif Nat.ble 16 m then 15 else 13)))) else (bif Nat.ble 7 m then (bif Nat.ble 11 m then (bif Nat.ble 13 m then (bif Nat.ble 14 m then 13 else 0) else (bif Nat.ble 12 m then 0 else 0)) else (bif Nat.ble 9 m then (bif Nat.ble 10 m then 44 else 0) else (bif Nat.ble 8 m then 0 else 13))) else (bif Nat.ble 3 m then (bif Nat.ble 5 m then (bif Nat.ble 6 m then 15 else 13) else (bif Nat.ble 4 m then 0 else 13)) else (bif Nat.ble 1 m then (bif Nat.ble 2 m then 0 else 16) else 58))))
def tB (k p : Nat) (a b : Option (Instr × Nat)) : Option (Instr × Nat) := bif Nat.ble k p then a else b
def tL (k p : Nat) (i : Instr) (x : Nat) : Option (Instr × Nat) := bif Nat.beq p k then some (i, x) else none
set_option maxHeartbeats 4000000 in
def cd0 (p : Nat) : Option (Instr × Nat) := (tB 434 p (tB 663 p (tB 775 p (tB 830 p (tB 861 p (tB 879 p (tB 887 p (tB 893 p (tB 894 p (tL 894 p .ireturn 0) (tL 893 p (.iconst 1) 0)) (tB 890 p (tL 890 p (.goto (-853)) 37) (tL 887 p (.iinc 10 4) 0))) (tB 881 p (tB 884 p (tL 884 p (.goto (-109)) 775) (tL 881 p (.iinc 21 1) 0)) (tB 880 p (tL 880 p .ireturn 0) (tL 879 p (.iconst 0) 0)))) (tB 870 p (tB 873 p (tB 876 p (tL 876 p (.ifCond .eq 5) 881) (tL 873 p (.invokevirtual 16) 5)) (tB 871 p (tL 871 p (.iload 21) 0) (tL 870 p (.aload_n 1) 0))) (tB 864 p (tB 867 p (tL 867 p (.ifCond .ne 12) 879) (tL 864 p (.invokevirtual 12) 3)) (tB 862 p (tL 862 p (.iload 21) 0) (tL 861 p (.aload_n 1) 0))))) (tB 845 p (tB 852 p (tB 857 p (tB 858 p (tL 858 p (.if_icmp .ne 21) 879) (tL 857 p (.iconst (-1)) 0)) (tB 854 p (tL 854 p (.invokevirtual 65) 15) (tL 852 p (.iload 21) 0))) (tB 848 p (tB 851 p (tL 851 p (.aload_n 1) 0) (tL 848 p (.ifCond .ne 33) 881)) (tB 846 p (tL 846 p (.iload 22) 0) (tL 845 p .ireturn 0)))) (tB 836 p (tB 841 p (tB 844 p (tL 844 p (.iconst 0) 0) (tL 841 p (.if_icmp .eq 5) 846)) (tB 838 p (tL 838 p (.invokestatic 26) 9) (tL 836 p (.iload 9) 0))) (tB 832 p (tB 834 p (tL 834 p (.iload 8) 0) (tL 832 p (.iload 7) 0)) (tL 830 p (.iload 6) 0))))) (tB 801 p (tB 815 p (tB 822 p (tB 825 p (tB 828 p (tL 828 p (.iload 21) 0) (tL 825 p (.invokevirtual 65) 15)) (tB 823 p (tL 823 p (.iload 21) 0) (tL 822 p (.aload_n 1) 0))) (tB 817 p (tB 819 p (tL 819 p (.ifCond .eq 27) 846) (tL 817 p (.iload 22) 0)) (tB 816 p (tL 816 p .ireturn 0) (tL 815 p (.iconst 0) 0)))) (tB 805 p (tB 810 p (tB 812 p (tL 812 p (.if_icmp .eq 5) 817) (tL 810 p (.iload 22) 0)) (tB 807 p (tL 807 p (.invokevirtual 61) 14) (tL 805 p (.iload 21) 0))) (tB 802 p (tB 804 p (tL 804 p (.aload_n 1) 0) (tL 802 p (.istore 22) 0)) (tL 801 p (.iconst 0) 0)))) (tB 788 p (tB 793 p (tB 797 p (tB 798 p (tL 798 p (.goto 4) 802) (tL 797 p (.iconst 1) 0)) (tB 794 p (tL 794 p (.if_icmp .ne 7) 801) (tL 793 p (.iconst 1) 0))) (tB 791 p (tB 792 p (tL 792 p .iand 0) (tL 791 p (.iconst 1) 0)) (tB 790 p (tL 790 p .ishr 0) (tL 788 p (.iload 21) 0)))) (tB 781 p (tB 784 p (tB 787 p (tL 787 p (.iload_n 2) 0) (tL 784 p (.if_icmp .ge 17) 801)) (tB 783 p (tL 783 p (.iconst 4) 0) (tL 781 p (.iload 21) 0))) (tB 777 p (tB 778 p (tL 778 p (.if_icmp .ge 109) 887) (tL 777 p (.iconst 5) 0)) (tL 775 p (.iload 21) 0)))))) (tB 723 p (tB 744 p (tB 761 p (tB 770 p (tB 772 p (tB 773 p (tL 773 p (.istore 21) 0) (tL 772 p (.iconst 0) 0)) (tB 771 p (tL 771 p .ireturn 0) (tL 770 p (.iconst 0) 0))) (tB 765 p (tB 767 p (tL 767 p (.if_icmp .eq 5) 772) (tL 765 p (.iload 5) 0)) (tB 762 p (tL 762 p (.invokevirtual 58) 13) (tL 761 p (.aload_n 1) 0)))) (tB 752 p (tB 756 p (tB 758 p (tL 758 p (.if_icmp .ne 12) 770) (tL 756 p (.iload 4) 0)) (tB 753 p (tL 753 p (.invokevirtual 55) 12) (tL 752 p (.aload_n 1) 0))) (tB 748 p (tB 749 p (tL 749 p (.if_icmp .ne 21) 770) (tL 748 p (.iload_n 3) 0)) (tB 745 p (tL 745 p (.invokevirtual 52) 11) (tL 744 p (.aload_n 1) 0))))) (tB 733 p (tB 738 p (tB 740 p (tB 741 p (tL 741 p (.iinc 4 1) 0) (tL 740 p (.istore_n 2) 0)) (tB 739 p (tL 739 p .iand 0) (tL 738 p .ixor 0))) (tB 736 p (tB 737 p (tL 737 p (.iconst (-1)) 0) (tL 736 p .ishl 0)) (tB 734 p (tL 734 p (.iload 12) 0) (tL 733 p (.iconst 1) 0)))) (tB 727 p (tB 731 p (tB 732 p (tL 732 p (.iload_n 2) 0) (tL 731 p .ireturn 0)) (tB 730 p (tL 730 p (.iconst 0) 0) (tL 727 p (.ifCond .eq 5) 732))) (tB 724 p (tB 725 p (tL 725 p (.iload 21) 0) (tL 724 p .ireturn 0)) (tL 723 p (.iconst 0) 0))))) (tB 691 p (tB 705 p (tB 714 p (tB 719 p (tB 720 p (tL 720 p (.if_icmp .eq 24) 744) (tL 719 p (.iconst (-1)) 0)) (tB 717 p (tL 717 p (.iload 21) 0) (tL 714 p (.ifCond .ne 11) 725))) (tB 710 p (tB 712 p (tL 712 p (.iload 15) 0) (tL 710 p (.istore 21) 0)) (tB 707 p (tL 707 p (.invokevirtual 49) 29) (tL 705 p (.iload 12) 0)))) (tB 699 p (tB 701 p (tB 704 p (tL 704 p (.aload_n 1) 0) (tL 701 p (.goto 43) 744)) (tB 700 p (tL 700 p .ireturn 0) (tL 699 p (.iconst 0) 0))) (tB 694 p (tB 696 p (tL 696 p (.if_icmp .eq 5) 701) (tL 694 p (.iload 18) 0)) (tL 691 p (.invokevirtual 23) 7)))) (tB 679 p (tB 684 p (tB 688 p (tB 689 p (tL 689 p (.iload 13) 0) (tL 688 p (.aload_n 1) 0)) (tB 685 p (tL 685 p (.if_icmp .ne 16) 701) (tL 684 p (.iconst 1) 0))) (tB 682 p (tB 683 p (tL 683 p .iand 0) (tL 682 p (.iconst 1) 0)) (tB 681 p (tL 681 p .ishr 0) (tL 679 p (.iload 13) 0)))) (tB 670 p (tB 674 p (tB 677 p (tL 677 p (.iload 17) 0) (tL 674 p (.if_icmp .ge 27) 701)) (tB 672 p (tL 672 p (.bipush 8) 0) (tL 670 p (.iload 13) 0))) (tB 664 p (tB 667 p (tL 667 p (.goto (-33)) 634) (tL 664 p (.iinc 23 1) 0)) (tL 663 p .ireturn 0))))))) (tB 556 p (tB 606 p (tB 634 p (tB 648 p (tB 655 p (tB 659 p (tB 662 p (tL 662 p (.iconst 0) 0) (tL 659 p (.if_icmp .eq 5) 664)) (tB 658 p (tL 658 p (.iload_n 3) 0) (tL 655 p (.invokevirtual 43) 28))) (tB 652 p (tB 653 p (tL 653 p (.iload 23) 0) (tL 652 p (.aload_n 1) 0)) (tB 649 p (tL 649 p (.if_icmp .ne 15) 664) (tL 648 p (.iconst 1) 0)))) (tB 643 p (tB 646 p (tB 647 p (tL 647 p .iand 0) (tL 646 p (.iconst 1) 0)) (tB 645 p (tL 645 p .ishr 0) (tL 643 p (.iload 23) 0))) (tB 638 p (tB 641 p (tL 641 p (.iload 17) 0) (tL 638 p (.if_icmp .ge 32) 670)) (tB 636 p (tL 636 p (.bipush 8) 0) (tL 634 p (.iload 23) 0))))) (tB 621 p (tB 629 p (tB 631 p (tB 632 p (tL 632 p (.istore 23) 0) (tL 631 p (.iconst 0) 0)) (tB 630 p (tL 630 p .ireturn 0) (tL 629 p (.iconst 0) 0))) (tB 625 p (tB 626 p (tL 626 p (.if_icmp .eq 5) 631) (tL 625 p (.iload_n 3) 0)) (tB 623 p (tL 623 p (.iload 22) 0) (tL 621 p (.istore 5) 0)))) (tB 612 p (tB 617 p (tB 620 p (tL 620 p (.iconst (-1)) 0) (tL 617 p (.iinc 3 1) 0)) (tB 614 p (tL 614 p (.goto 87) 701) (tL 612 p (.istore 5) 0))) (tB 607 p (tB 610 p (tL 610 p (.iload 21) 0) (tL 607 p (.iinc 4 1) 0)) (tL 606 p .ireturn 0))))) (tB 575 p (tB 588 p (tB 598 p (tB 602 p (tB 605 p (tL 605 p (.iconst 0) 0) (tL 602 p (.if_icmp .eq 5) 607)) (tB 600 p (tL 600 p (.bipush (-3)) 0) (tL 598 p (.iload 22) 0))) (tB 593 p (tB 595 p (tL 595 p (.ifCond .lt 22) 617) (tL 593 p (.iload 21) 0)) (tB 590 p (tL 590 p (.goto 111) 701) (tL 588 p (.istore 5) 0)))) (tB 582 p (tB 584 p (tB 587 p (tL 587 p (.iconst (-1)) 0) (tL 584 p (.iinc 4 1) 0)) (tB 583 p (tL 583 p .ireturn 0) (tL 582 p (.iconst 0) 0))) (tB 577 p (tB 579 p (tL 579 p (.if_icmp .eq 5) 584) (tL 577 p (.bipush (-4)) 0)) (tL 575 p (.iload 22) 0)))) (tB 564 p (tB 568 p (tB 571 p (tB 572 p (tL 572 p (.if_icmp .le 21) 593) (tL 571 p (.iconst 4) 0)) (tB 570 p (tL 570 p .isub 0) (tL 568 p (.iload 20) 0))) (tB 566 p (tB 567 p (tL 567 p (.iload_n 3) 0) (tL 566 p (.istore_n 2) 0)) (tB 565 p (tL 565 p .iand 0) (tL 564 p .ixor 0)))) (tB 559 p (tB 562 p (tB 563 p (tL 563 p (.iconst (-1)) 0) (tL 562 p .ishl 0)) (tB 560 p (tL 560 p (.iload 12) 0) (tL 559 p (.iconst 1) 0))) (tB 557 p (tB 558 p (tL 558 p (.iload_n 2) 0) (tL 557 p .ireturn 0)) (tL 556 p (.iconst 0) 0)))))) (tB 494 p (tB 522 p (tB 538 p (tB 547 p (tB 552 p (tB 553 p (tL 553 p (.if_icmp .eq 148) 701) (tL 552 p (.iconst (-1)) 0)) (tB 550 p (tL 550 p (.iload 22) 0) (tL 547 p (.ifCond .ne 11) 558))) (tB 543 p (tB 545 p (tL 545 p (.iload 15) 0) (tL 543 p (.istore 22) 0)) (tB 540 p (tL 540 p (.invokevirtual 46) 10) (tL 538 p (.iload 12) 0)))) (tB 529 p (tB 534 p (tB 537 p (tL 537 p (.aload_n 1) 0) (tL 534 p (.goto (-34)) 500)) (tB 531 p (tL 531 p (.iinc 22 (-1)) 0) (tL 529 p (.istore 21) 0))) (tB 524 p (tB 527 p (tL 527 p (.iload 22) 0) (tL 524 p (.if_icmp .le 7) 531)) (tL 522 p (.iload 20) 0)))) (tB 509 p (tB 513 p (tB 517 p (tB 519 p (tL 519 p (.invokevirtual 43) 28) (tL 517 p (.iload 22) 0)) (tB 516 p (tL 516 p (.aload_n 1) 0) (tL 513 p (.if_icmp .ne 18) 531))) (tB 511 p (tB 512 p (tL 512 p (.iconst 1) 0) (tL 511 p .iand 0)) (tB 510 p (tL 510 p (.iconst 1) 0) (tL 509 p .ishr 0)))) (tB 500 p (tB 505 p (tB 507 p (tL 507 p (.iload 22) 0) (tL 505 p (.iload 16) 0)) (tB 502 p (tL 502 p (.ifCond .lt 35) 537) (tL 500 p (.iload 22) 0))) (tB 496 p (tB 498 p (tL 498 p (.istore 22) 0) (tL 496 p (.bipush 7) 0)) (tL 494 p (.istore 21) 0))))) (tB 463 p (tB 479 p (tB 487 p (tB 490 p (tB 493 p (tL 493 p (.iconst (-1)) 0) (tL 490 p (.if_icmp .ne 214) 704)) (tB 489 p (tL 489 p (.iconst 3) 0) (tL 487 p (.iload 11) 0))) (tB 483 p (tB 484 p (tL 484 p (.goto 260) 744) (tL 483 p .ireturn 0)) (tB 482 p (tL 482 p (.iconst 0) 0) (tL 479 p (.if_icmp .eq 5) 484)))) (tB 471 p (tB 474 p (tB 477 p (tL 477 p (.iload 19) 0) (tL 474 p (.invokevirtual 23) 7)) (tB 472 p (tL 472 p (.iload 13) 0) (tL 471 p (.aload_n 1) 0))) (tB 466 p (tB 468 p (tL 468 p (.if_icmp .ne 14) 482) (tL 466 p (.iload 16) 0)) (tL 463 p (.invokevirtual 12) 3)))) (tB 450 p (tB 456 p (tB 460 p (tB 461 p (tL 461 p (.iload 12) 0) (tL 460 p (.aload_n 1) 0)) (tB 457 p (tL 457 p (.if_icmp .ne 25) 482) (tL 456 p .ior 0))) (tB 453 p (tB 455 p (tL 455 p .ishl 0) (tL 453 p (.iload 13) 0)) (tB 452 p (tL 452 p (.iconst 1) 0) (tL 450 p (.iload 17) 0)))) (tB 441 p (tB 445 p (tB 447 p (tL 447 p (.invokevirtual 16) 5) (tL 445 p (.iload 12) 0)) (tB 444 p (tL 444 p (.aload_n 1) 0) (tL 441 p (.if_icmp .ne 41) 482))) (tB 436 p (tB 439 p (tL 439 p (.iload 14) 0) (tL 436 p (.invokevirtual 19) 6)) (tL 434 p (.iload 13) 0)))))))) (tB 200 p (tB 319 p (tB 374 p (tB 404 p (tB 419 p (tB 426 p (tB 431 p (tB 432 p (tL 432 p (.iload 12) 0) (tL 431 p (.aload_n 1) 0)) (tB 428 p (tL 428 p (.ifCond .ne 54) 482) (tL 426 p (.iload 21) 0))) (tB 424 p (tB 425 p (tL 425 p .ireturn 0) (tL 424 p (.iconst 0) 0)) (tB 421 p (tL 421 p (.if_icmp .eq 63) 484) (tL 419 p (.bipush (-2)) 0)))) (tB 410 p (tB 414 p (tB 417 p (tL 417 p (.iload 21) 0) (tL 414 p (.if_icmp .lt 12) 426)) (tB 412 p (tL 412 p (.bipush 8) 0) (tL 410 p (.iload 13) 0))) (tB 408 p (tB 409 p (tL 409 p .ireturn 0) (tL 408 p (.iconst 0) 0)) (tB 405 p (tL 405 p (.if_icmp .eq 79) 484) (tL 404 p (.iconst (-1)) 0))))) (tB 386 p (tB 395 p (tB 399 p (tB 402 p (tL 402 p (.iload 21) 0) (tL 399 p (.ifCond .ne 11) 410)) (tB 397 p (tL 397 p (.iload 15) 0) (tL 395 p (.istore 21) 0))) (tB 390 p (tB 392 p (tL 392 p (.invokevirtual 39) 26) (tL 390 p (.iload 14) 0)) (tB 388 p (tL 388 p (.iload 13) 0) (tL 386 p (.iload 12) 0)))) (tB 379 p (tB 382 p (tB 385 p (tL 385 p (.aload_n 1) 0) (tL 382 p (.if_icmp .ne 105) 487)) (tB 381 p (tL 381 p (.iconst 2) 0) (tL 379 p (.iload 11) 0))) (tB 375 p (tB 376 p (tL 376 p (.goto 368) 744) (tL 375 p .ireturn 0)) (tL 374 p (.iconst 0) 0))))) (tB 346 p (tB 359 p (tB 367 p (tB 370 p (tB 371 p (tL 371 p (.if_icmp .eq 5) 376) (tL 370 p .ior 0)) (tB 369 p (tL 369 p .ishl 0) (tL 367 p (.iload 13) 0))) (tB 364 p (tB 366 p (tL 366 p (.iconst 1) 0) (tL 364 p (.iload 16) 0)) (tB 361 p (tL 361 p (.invokevirtual 12) 3) (tL 359 p (.iload 12) 0)))) (tB 351 p (tB 355 p (tB 358 p (tL 358 p (.aload_n 1) 0) (tL 355 p (.if_icmp .ne 19) 374)) (tB 353 p (tL 353 p (.iload 19) 0) (tL 351 p (.iload 21) 0))) (tB 349 p (tB 350 p (tL 350 p .ireturn 0) (tL 349 p (.iconst 0) 0)) (tL 346 p (.if_icmp .eq 30) 376)))) (tB 328 p (tB 338 p (tB 341 p (tB 344 p (tL 344 p (.iload 16) 0) (tL 341 p (.invokevirtual 12) 3)) (tB 339 p (tL 339 p (.iload 12) 0) (tL 338 p (.aload_n 1) 0))) (tB 333 p (tB 335 p (tL 335 p (.if_icmp .ne 14) 349) (tL 333 p (.iload 18) 0)) (tB 331 p (tL 331 p (.iload 21) 0) (tL 328 p (.if_icmp .ne 23) 351)))) (tB 324 p (tB 326 p (tB 327 p (tL 327 p (.iconst 1) 0) (tL 326 p .iand 0)) (tB 325 p (tL 325 p (.iconst 1) 0) (tL 324 p .ishr 0))) (tB 320 p (tB 322 p (tL 322 p (.iload 13) 0) (tL 320 p (.iload 17) 0)) (tL 319 p .ireturn 0)))))) (tB 253 p (tB 283 p (tB 302 p (tB 310 p (tB 315 p (tB 318 p (tL 318 p (.iconst 0) 0) (tL 315 p (.if_icmp .eq 61) 376)) (tB 313 p (tL 313 p (.iload 16) 0) (tL 310 p (.invokevirtual 12) 3))) (tB 307 p (tB 308 p (tL 308 p (.iload 12) 0) (tL 307 p (.aload_n 1) 0)) (tB 304 p (tL 304 p (.ifCond .ne 14) 318) (tL 302 p (.iload 21) 0)))) (tB 292 p (tB 297 p (tB 299 p (tL 299 p (.if_icmp .lt 21) 320) (tL 297 p (.bipush 8) 0)) (tB 295 p (tL 295 p (.iload 13) 0) (tL 292 p (.ifCond .eq 10) 302))) (tB 288 p (tB 290 p (tL 290 p (.iload 15) 0) (tL 288 p (.istore 21) 0)) (tB 285 p (tL 285 p (.invokevirtual 36) 16) (tL 283 p (.iload 13) 0))))) (tB 268 p (tB 276 p (tB 280 p (tB 281 p (tL 281 p (.iload 12) 0) (tL 280 p (.aload_n 1) 0)) (tB 277 p (tL 277 p (.if_icmp .ne 102) 379) (tL 276 p (.iconst 1) 0))) (tB 271 p (tB 274 p (tL 274 p (.iload 11) 0) (tL 271 p (.goto 473) 744)) (tB 269 p (tL 269 p (.istore 9) 0) (tL 268 p (.iload_n 3) 0)))) (tB 259 p (tB 263 p (tB 265 p (tL 265 p (.goto 6) 271) (tL 263 p (.istore 8) 0)) (tB 262 p (tL 262 p (.iload_n 3) 0) (tL 259 p (.if_icmp .ne 9) 268))) (tB 256 p (tB 258 p (tL 258 p (.iconst 2) 0) (tL 256 p (.iload 22) 0)) (tL 253 p (.goto 18) 271))))) (tB 227 p (tB 238 p (tB 246 p (tB 250 p (tB 251 p (tL 251 p (.istore 7) 0) (tL 250 p (.iload_n 3) 0)) (tB 247 p (tL 247 p (.if_icmp .ne 9) 256) (tL 246 p (.iconst 1) 0))) (tB 241 p (tB 244 p (tL 244 p (.iload 22) 0) (tL 241 p (.goto 30) 271)) (tB 239 p (tL 239 p (.istore 6) 0) (tL 238 p (.iload_n 3) 0)))) (tB 231 p (tB 233 p (tB 235 p (tL 235 p (.ifCond .ne 9) 244) (tL 233 p (.iload 22) 0)) (tB 232 p (tL 232 p (.istore_n 2) 0) (tL 231 p .ior 0))) (tB 228 p (tB 230 p (tL 230 p .ishl 0) (tL 228 p (.iload 22) 0)) (tL 227 p (.iconst 1) 0)))) (tB 215 p (tB 221 p (tB 225 p (tB 226 p (tL 226 p (.iload_n 2) 0) (tL 225 p .ireturn 0)) (tB 224 p (tL 224 p (.iconst 0) 0) (tL 221 p (.if_icmp .eq 5) 226))) (tB 217 p (tB 219 p (tL 219 p (.iload 21) 0) (tL 217 p (.iload 22) 0)) (tB 216 p (tL 216 p .ireturn 0) (tL 215 p (.iconst 0) 0)))) (tB 205 p (tB 210 p (tB 212 p (tL 212 p (.if_icmp .eq 59) 271) (tL 210 p (.bipush (-5)) 0)) (tB 208 p (tL 208 p (.iload 22) 0) (tL 205 p (.if_icmp .ne 12) 217))) (tB 202 p (tB 204 p (tL 204 p (.iconst 4) 0) (tL 202 p (.iload 21) 0)) (tL 200 p (.istore 22) 0))))))) (tB 87 p (tB 138 p (tB 171 p (tB 184 p (tB 190 p (tB 196 p (tB 197 p (tL 197 p (.invokevirtual 32) 17) (tL 196 p (.aload_n 1) 0)) (tB 193 p (tL 193 p (.goto (-19)) 174) (tL 190 p (.iinc 21 1) 0))) (tB 186 p (tB 187 p (tL 187 p (.if_icmp .ne 9) 196) (tL 186 p (.iconst 1) 0)) (tB 185 p (tL 185 p .iand 0) (tL 184 p (.iconst 1) 0)))) (tB 177 p (tB 181 p (tB 183 p (tL 183 p .ishr 0) (tL 181 p (.iload 21) 0)) (tB 180 p (tL 180 p (.iload_n 2) 0) (tL 177 p (.if_icmp .ge 19) 196))) (tB 174 p (tB 176 p (tL 176 p (.iconst 4) 0) (tL 174 p (.iload 21) 0)) (tB 172 p (tL 172 p (.istore 21) 0) (tL 171 p (.iconst 0) 0))))) (tB 153 p (tB 161 p (tB 166 p (tB 168 p (tL 168 p (.ifCond .ne 106) 274) (tL 166 p (.iload 11) 0)) (tB 164 p (tL 164 p (.istore 20) 0) (tL 161 p (.invokestatic 26) 9))) (tB 157 p (tB 159 p (tL 159 p (.iload 9) 0) (tL 157 p (.iload 8) 0)) (tB 155 p (tL 155 p (.iload 7) 0) (tL 153 p (.iload 6) 0)))) (tB 144 p (tB 149 p (tB 151 p (tL 151 p (.iload 12) 0) (tL 149 p (.istore 19) 0)) (tB 146 p (tL 146 p (.invokevirtual 23) 7) (tL 144 p (.iload 13) 0))) (tB 141 p (tB 143 p (tL 143 p (.aload_n 1) 0) (tL 141 p (.istore 18) 0)) (tL 138 p (.invokevirtual 19) 6))))) (tB 110 p (tB 123 p (tB 131 p (tB 134 p (tB 136 p (tL 136 p (.iload 13) 0) (tL 134 p (.iload 12) 0)) (tB 133 p (tL 133 p (.aload_n 1) 0) (tL 131 p (.istore 17) 0))) (tB 126 p (tB 128 p (tL 128 p (.invokevirtual 16) 5) (tL 126 p (.iload 12) 0)) (tB 125 p (tL 125 p (.aload_n 1) 0) (tL 123 p (.istore 16) 0)))) (tB 115 p (tB 118 p (tB 120 p (tL 120 p (.invokevirtual 12) 3) (tL 118 p (.iload 12) 0)) (tB 117 p (tL 117 p (.aload_n 1) 0) (tL 115 p (.istore 15) 0))) (tB 111 p (tB 114 p (tL 114 p (.iconst 0) 0) (tL 111 p (.goto 4) 115)) (tL 110 p (.iconst 1) 0)))) (tB 97 p (tB 104 p (tB 106 p (tB 107 p (tL 107 p (.if_icmp .ne 7) 114) (tL 106 p (.iconst 1) 0)) (tB 105 p (tL 105 p .iand 0) (tL 104 p (.iconst 1) 0))) (tB 101 p (tB 103 p (tL 103 p .ishr 0) (tL 101 p (.iload 12) 0)) (tB 100 p (tL 100 p (.iload_n 2) 0) (tL 97 p (.if_icmp .ge 17) 114)))) (tB 91 p (tB 94 p (tB 96 p (tL 96 p (.iconst 4) 0) (tL 94 p (.iload 12) 0)) (tB 92 p (tL 92 p (.istore 14) 0) (tL 91 p .iaload 0))) (tB 89 p (tB 90 p (tL 90 p .iadd 0) (tL 89 p (.iconst 3) 0)) (tL 87 p (.iload 10) 0)))))) (tB 43 p (tB 66 p (tB 75 p (tB 81 p (tB 84 p (tB 86 p (tL 86 p (.aload_n 0) 0) (tL 84 p (.istore 13) 0)) (tB 83 p (tL 83 p .irem 0) (tL 81 p (.bipush 9) 0))) (tB 77 p (tB 80 p (tL 80 p .iand 0) (tL 77 p (.sipush 255) 0)) (tB 76 p (tL 76 p .iaload 0) (tL 75 p .iadd 0)))) (tB 69 p (tB 72 p (tB 74 p (tL 74 p (.iconst 2) 0) (tL 72 p (.iload 10) 0)) (tB 71 p (tL 71 p (.aload_n 0) 0) (tL 69 p (.istore 12) 0))) (tB 67 p (tB 68 p (tL 68 p .irem 0) (tL 67 p (.iconst 5) 0)) (tL 66 p .iand 0)))) (tB 54 p (tB 60 p (tB 62 p (tB 63 p (tL 63 p (.sipush 255) 0) (tL 62 p .iaload 0)) (tB 61 p (tL 61 p .iadd 0) (tL 60 p (.iconst 1) 0))) (tB 57 p (tB 58 p (tL 58 p (.iload 10) 0) (tL 57 p (.aload_n 0) 0)) (tB 55 p (tL 55 p (.istore 11) 0) (tL 54 p .irem 0)))) (tB 49 p (tB 52 p (tB 53 p (tL 53 p (.iconst 5) 0) (tL 52 p .iand 0)) (tB 50 p (tL 50 p (.bipush 7) 0) (tL 49 p .iaload 0))) (tB 46 p (tB 47 p (tL 47 p (.iload 10) 0) (tL 46 p (.aload_n 0) 0)) (tL 43 p (.if_icmp .ge 850) 893))))) (tB 22 p (tB 32 p (tB 39 p (tB 41 p (tB 42 p (tL 42 p .arraylength 0) (tL 41 p (.aload_n 0) 0)) (tB 40 p (tL 40 p .iadd 0) (tL 39 p (.iconst 3) 0))) (tB 35 p (tB 37 p (tL 37 p (.iload 10) 0) (tL 35 p (.istore 10) 0)) (tB 34 p (tL 34 p (.iconst 0) 0) (tL 32 p (.istore 9) 0)))) (tB 26 p (tB 29 p (tB 31 p (tL 31 p (.iconst 0) 0) (tL 29 p (.istore 8) 0)) (tB 28 p (tL 28 p (.iconst 0) 0) (tL 26 p (.istore 7) 0))) (tB 23 p (tB 25 p (tL 25 p (.iconst 0) 0) (tL 23 p (.istore 6) 0)) (tL 22 p (.iconst 0) 0)))) (tB 12 p (tB 16 p (tB 19 p (tB 20 p (tL 20 p (.istore 5) 0) (tL 19 p (.iconst (-1)) 0)) (tB 17 p (tL 17 p (.istore 4) 0) (tL 16 p (.iconst 0) 0))) (tB 14 p (tB 15 p (tL 15 p (.istore_n 3) 0) (tL 14 p (.iconst 0) 0)) (tB 13 p (tL 13 p (.istore_n 2) 0) (tL 12 p (.iconst 0) 0)))) (tB 6 p (tB 8 p (tB 11 p (tL 11 p (.astore_n 1) 0) (tL 8 p (.invokespecial 9) 1)) (tB 7 p (tL 7 p (.iconst 4) 0) (tL 6 p (.iconst 4) 0))) (tB 3 p (tB 4 p (tL 4 p (.bipush 8) 0) (tL 3 p .dup 0)) (tL 0 p (.new 7) 0)))))))))
set_option maxHeartbeats 4000000 in
def cd1 (p : Nat) : Option (Instr × Nat) := (tB 61 p (tB 87 p (tB 100 p (tB 108 p (tB 110 p (tB 113 p (tL 113 p .return_ 0) (tL 110 p (.putfield 52) 12)) (tB 109 p (tL 109 p (.iconst (-1)) 0) (tL 108 p (.aload_n 0) 0))) (tB 104 p (tB 105 p (tL 105 p (.putfield 49) 11) (tL 104 p (.iconst 0) 0)) (tB 103 p (tL 103 p (.aload_n 0) 0) (tL 100 p (.putfield 46) 10)))) (tB 92 p (tB 98 p (tB 99 p (tL 99 p (.iconst 0) 0) (tL 98 p (.aload_n 0) 0)) (tB 95 p (tL 95 p (.putfield 43) 9) (tL 92 p (.invokevirtual 32) 2))) (tB 89 p (tB 90 p (tL 90 p (.bipush 16) 0) (tL 89 p (.iconst 2) 0)) (tB 88 p (tL 88 p (.iload_n 3) 0) (tL 87 p (.aload_n 0) 0))))) (tB 74 p (tB 78 p (tB 83 p (tB 86 p (tL 86 p (.aload_n 0) 0) (tL 83 p (.putfield 40) 8)) (tB 80 p (tL 80 p (.invokevirtual 32) 2) (tL 78 p (.bipush 8) 0))) (tB 76 p (tB 77 p (tL 77 p (.iconst 2) 0) (tL 76 p (.iload_n 2) 0)) (tB 75 p (tL 75 p (.aload_n 0) 0) (tL 74 p (.aload_n 0) 0)))) (tB 64 p (tB 68 p (tB 71 p (tL 71 p (.putfield 36) 7) (tL 68 p (.invokevirtual 32) 2)) (tB 66 p (tL 66 p (.bipush 32) 0) (tL 64 p (.bipush 8) 0))) (tB 62 p (tB 63 p (tL 63 p (.iload_n 1) 0) (tL 62 p (.aload_n 0) 0)) (tL 61 p (.aload_n 0) 0))))) (tB 29 p (tB 44 p (tB 52 p (tB 56 p (tB 58 p (tL 58 p (.putfield 29) 6) (tL 56 p (.newarray .int) 0)) (tB 53 p (tL 53 p (.sipush 256) 0) (tL 52 p (.aload_n 0) 0))) (tB 47 p (tB 49 p (tL 49 p (.putfield 26) 5) (tL 47 p (.newarray .int) 0)) (tB 45 p (tL 45 p (.bipush 8) 0) (tL 44 p (.aload_n 0) 0)))) (tB 36 p (tB 39 p (tB 41 p (tL 41 p (.putfield 23) 4) (tL 39 p (.newarray .int) 0)) (tB 37 p (tL 37 p (.bipush 8) 0) (tL 36 p (.aload_n 0) 0))) (tB 31 p (tB 33 p (tL 33 p (.putfield 20) 3) (tL 31 p (.newarray .int) 0)) (tL 29 p (.bipush 8) 0)))) (tB 13 p (tB 21 p (tB 25 p (tB 28 p (tL 28 p (.aload_n 0) 0) (tL 25 p (.putfield 16) 2)) (tB 23 p (tL 23 p (.newarray .boolean) 0) (tL 21 p (.bipush 8) 0))) (tB 17 p (tB 20 p (tL 20 p (.aload_n 0) 0) (tL 17 p (.putfield 13) 1)) (tB 15 p (tL 15 p (.newarray .int) 0) (tL 13 p (.bipush 32) 0)))) (tB 5 p (tB 9 p (tB 12 p (tL 12 p (.aload_n 0) 0) (tL 9 p (.putfield 7) 0)) (tB 7 p (tL 7 p (.newarray .int) 0) (tL 5 p (.bipush 32) 0))) (tB 1 p (tB 4 p (tL 4 p (.aload_n 0) 0) (tL 1 p (.invokespecial 1) 0)) (tL 0 p (.aload_n 0) 0))))))
set_option maxHeartbeats 4000000 in
def cd2 (p : Nat) : Option (Instr × Nat) := (tB 8 p (tB 13 p (tB 14 p (tB 15 p (tL 15 p .ireturn 0) (tL 14 p (.iload_n 1) 0)) (tL 13 p .ireturn 0)) (tB 9 p (tB 12 p (tL 12 p (.iload_n 3) 0) (tL 9 p (.if_icmp .le 5) 14)) (tL 8 p (.iload_n 3) 0))) (tB 5 p (tB 6 p (tB 7 p (tL 7 p (.iload_n 1) 0) (tL 6 p .ireturn 0)) (tL 5 p (.iload_n 2) 0)) (tB 1 p (tB 2 p (tL 2 p (.if_icmp .ge 5) 7) (tL 1 p (.iload_n 2) 0)) (tL 0 p (.iload_n 1) 0))))
set_option maxHeartbeats 4000000 in
def cd3 (p : Nat) : Option (Instr × Nat) := (tB 9 p (tB 14 p (tB 15 p (tB 16 p (tL 16 p .ireturn 0) (tL 15 p .iaload 0)) (tL 14 p (.iload_n 1) 0)) (tB 10 p (tB 11 p (tL 11 p (.getfield 23) 4) (tL 10 p (.aload_n 0) 0)) (tL 9 p .ireturn 0))) (tB 2 p (tB 5 p (tB 8 p (tL 8 p (.iconst 0) 0) (tL 5 p (.ifCond .ne 5) 10)) (tL 2 p (.invokevirtual 63) 4)) (tB 1 p (tL 1 p (.iload_n 1) 0) (tL 0 p (.aload_n 0) 0))))
set_option maxHeartbeats 4000000 in
def cd4 (p : Nat) : Option (Instr × Nat) := (tB 15 p (tB 21 p (tB 25 p (tB 26 p (tL 26 p .ireturn 0) (tL 25 p .baload 0)) (tB 24 p (tL 24 p (.iload_n 1) 0) (tL 21 p (.getfield 16) 2))) (tB 19 p (tB 20 p (tL 20 p (.aload_n 0) 0) (tL 19 p .ireturn 0)) (tB 18 p (tL 18 p (.iconst 0) 0) (tL 15 p (.if_icmp .lt 5) 20)))) (tB 6 p (tB 12 p (tB 13 p (tL 13 p (.bipush 8) 0) (tL 12 p (.iload_n 1) 0)) (tB 9 p (tL 9 p (.if_icmp .ge 9) 18) (tL 6 p (.getfield 40) 8))) (tB 4 p (tB 5 p (tL 5 p (.aload_n 0) 0) (tL 4 p (.iload_n 1) 0)) (tB 1 p (tL 1 p (.ifCond .lt 17) 18) (tL 0 p (.iload_n 1) 0)))))
set_option maxHeartbeats 4000000 in
def cd5 (p : Nat) : Option (Instr × Nat) := (tB 9 p (tB 14 p (tB 15 p (tB 16 p (tL 16 p .ireturn 0) (tL 15 p .iaload 0)) (tL 14 p (.iload_n 1) 0)) (tB 10 p (tB 11 p (tL 11 p (.getfield 26) 5) (tL 10 p (.aload_n 0) 0)) (tL 9 p .ireturn 0))) (tB 2 p (tB 5 p (tB 8 p (tL 8 p (.iconst 0) 0) (tL 5 p (.ifCond .ne 5) 10)) (tL 2 p (.invokevirtual 63) 4)) (tB 1 p (tL 1 p (.iload_n 1) 0) (tL 0 p (.aload_n 0) 0))))
set_option maxHeartbeats 4000000 in
def cd6 (p : Nat) : Option (Instr × Nat) := (tB 25 p (tB 37 p (tB 43 p (tB 47 p (tB 48 p (tL 48 p .ireturn 0) (tL 47 p .iaload 0)) (tB 44 p (tL 44 p (.invokevirtual 74) 27) (tL 43 p (.iload_n 2) 0))) (tB 41 p (tB 42 p (tL 42 p (.iload_n 1) 0) (tL 41 p (.aload_n 0) 0)) (tB 38 p (tL 38 p (.getfield 29) 6) (tL 37 p (.aload_n 0) 0)))) (tB 31 p (tB 35 p (tB 36 p (tL 36 p .ireturn 0) (tL 35 p (.iconst 0) 0)) (tB 32 p (tL 32 p (.ifCond .ne 5) 37) (tL 31 p .iand 0))) (tB 27 p (tB 28 p (tL 28 p (.invokevirtual 70) 21) (tL 27 p (.iload_n 2) 0)) (tB 26 p (tL 26 p (.aload_n 0) 0) (tL 25 p .iaload 0))))) (tB 11 p (tB 19 p (tB 21 p (tB 24 p (tL 24 p (.iload_n 1) 0) (tL 21 p (.getfield 26) 5)) (tB 20 p (tL 20 p (.aload_n 0) 0) (tL 19 p .ireturn 0))) (tB 15 p (tB 18 p (tL 18 p (.iconst 0) 0) (tL 15 p (.ifCond .ne 5) 20)) (tB 12 p (tL 12 p (.invokevirtual 67) 8) (tL 11 p (.iload_n 2) 0)))) (tB 5 p (tB 9 p (tB 10 p (tL 10 p (.aload_n 0) 0) (tL 9 p .ireturn 0)) (tB 8 p (tL 8 p (.iconst 0) 0) (tL 5 p (.ifCond .ne 5) 10))) (tB 1 p (tB 2 p (tL 2 p (.invokevirtual 63) 4) (tL 1 p (.iload_n 1) 0)) (tL 0 p (.aload_n 0) 0)))))
set_option maxHeartbeats 4000000 in
def cd7 (p : Nat) : Option (Instr × Nat) := (tB 9 p (tB 14 p (tB 15 p (tB 16 p (tL 16 p .ireturn 0) (tL 15 p .iaload 0)) (tL 14 p (.iload_n 1) 0)) (tB 10 p (tB 11 p (tL 11 p (.getfield 7) 0) (tL 10 p (.aload_n 0) 0)) (tL 9 p .ireturn 0))) (tB 2 p (tB 5 p (tB 8 p (tL 8 p (.iconst 0) 0) (tL 5 p (.ifCond .ne 5) 10)) (tL 2 p (.invokevirtual 67) 8)) (tB 1 p (tL 1 p (.iload_n 1) 0) (tL 0 p (.aload_n 0) 0))))
set_option maxHeartbeats 4000000 in
def cd8 (p : Nat) : Option (Instr × Nat) := (tB 12 p (tB 18 p (tB 22 p (tB 23 p (tL 23 p .ireturn 0) (tL 22 p (.iconst 0) 0)) (tB 19 p (tL 19 p (.goto 4) 23) (tL 18 p (.iconst 1) 0))) (tB 13 p (tB 15 p (tL 15 p (.if_icmp .ge 7) 22) (tL 13 p (.bipush 32) 0)) (tL 12 p (.iload_n 1) 0))) (tB 5 p (tB 6 p (tB 9 p (tL 9 p (.if_icmp .ge 13) 22) (tL 6 p (.getfield 36) 7)) (tL 5 p (.aload_n 0) 0)) (tB 1 p (tB 4 p (tL 4 p (.iload_n 1) 0) (tL 1 p (.ifCond .lt 21) 22)) (tL 0 p (.iload_n 1) 0))))
set_option maxHeartbeats 4000000 in
def cd9 (p : Nat) : Option (Instr × Nat) := (tB 12 p (tB 18 p (tB 20 p (tB 22 p (tL 22 p .ireturn 0) (tL 20 p (.iload 4) 0)) (tB 19 p (tL 19 p .ireturn 0) (tL 18 p (.iload_n 3) 0))) (tB 14 p (tB 15 p (tL 15 p (.if_icmp .ne 5) 20) (tL 14 p (.iconst 2) 0)) (tB 13 p (tL 13 p (.iload_n 0) 0) (tL 12 p .ireturn 0)))) (tB 6 p (tB 8 p (tB 11 p (tL 11 p (.iload_n 2) 0) (tL 8 p (.if_icmp .ne 5) 13)) (tB 7 p (tL 7 p (.iconst 1) 0) (tL 6 p (.iload_n 0) 0))) (tB 4 p (tB 5 p (tL 5 p .ireturn 0) (tL 4 p (.iload_n 1) 0)) (tB 1 p (tL 1 p (.ifCond .ne 5) 6) (tL 0 p (.iload_n 0) 0)))))
set_option maxHeartbeats 4000000 in
def cd10 (p : Nat) : Option (Instr × Nat) := (tB 27 p (tB 39 p (tB 46 p (tB 48 p (tB 51 p (tL 51 p .ireturn 0) (tL 48 p (.invokevirtual 87) 24)) (tB 47 p (tL 47 p (.iload_n 1) 0) (tL 46 p (.aload_n 0) 0))) (tB 42 p (tB 45 p (tL 45 p .ireturn 0) (tL 42 p (.invokevirtual 81) 30)) (tB 40 p (tL 40 p (.bipush (-3)) 0) (tL 39 p (.iload_n 2) 0)))) (tB 33 p (tB 37 p (tB 38 p (tL 38 p (.iload_n 1) 0) (tL 37 p (.aload_n 0) 0)) (tB 34 p (tL 34 p (.ifCond .lt 12) 46) (tL 33 p (.iload_n 2) 0))) (tB 29 p (tB 32 p (tL 32 p (.istore_n 2) 0) (tL 29 p (.invokevirtual 84) 23)) (tB 28 p (tL 28 p (.iload_n 1) 0) (tL 27 p (.aload_n 0) 0))))) (tB 12 p (tB 20 p (tB 23 p (tB 26 p (tL 26 p .ireturn 0) (tL 23 p (.invokevirtual 81) 30)) (tB 21 p (tL 21 p (.bipush (-4)) 0) (tL 20 p (.iconst (-1)) 0))) (tB 18 p (tB 19 p (tL 19 p (.iload_n 1) 0) (tL 18 p (.aload_n 0) 0)) (tB 15 p (tL 15 p (.ifCond .eq 12) 27) (tL 12 p (.invokevirtual 78) 22)))) (tB 8 p (tB 10 p (tB 11 p (tL 11 p (.iload_n 1) 0) (tL 10 p (.aload_n 0) 0)) (tB 9 p (tL 9 p .ireturn 0) (tL 8 p (.iconst (-1)) 0))) (tB 2 p (tB 5 p (tL 5 p (.ifCond .ne 5) 10) (tL 2 p (.invokevirtual 63) 4)) (tB 1 p (tL 1 p (.iload_n 1) 0) (tL 0 p (.aload_n 0) 0))))))
set_option maxHeartbeats 4000000 in
def cd11 (p : Nat) : Option (Instr × Nat) := (tB 1 p (tB 4 p (tL 4 p .ireturn 0) (tL 1 p (.getfield 46) 10)) (tL 0 p (.aload_n 0) 0))
set_option maxHeartbeats 4000000 in
def cd12 (p : Nat) : Option (Instr × Nat) := (tB 1 p (tB 4 p (tL 4 p .ireturn 0) (tL 1 p (.getfield 49) 11)) (tL 0 p (.aload_n 0) 0))
set_option maxHeartbeats 4000000 in
def cd13 (p : Nat) : Option (Instr × Nat) := (tB 1 p (tB 4 p (tL 4 p .ireturn 0) (tL 1 p (.getfield 52) 12)) (tL 0 p (.aload_n 0) 0))
set_option maxHeartbeats 4000000 in
def cd14 (p : Nat) : Option (Instr × Nat) := (tB 2 p (tB 5 p (tL 5 p .ireturn 0) (tL 2 p (.invokevirtual 63) 4)) (tB 1 p (tL 1 p (.iload_n 1) 0) (tL 0 p (.aload_n 0) 0)))
set_option maxHeartbeats 4000000 in
def cd15 (p : Nat) : Option (Instr × Nat) := (tB 9 p (tB 14 p (tB 15 p (tB 16 p (tL 16 p .ireturn 0) (tL 15 p .iaload 0)) (tL 14 p (.iload_n 1) 0)) (tB 10 p (tB 11 p (tL 11 p (.getfield 20) 3) (tL 10 p (.aload_n 0) 0)) (tL 9 p .ireturn 0))) (tB 2 p (tB 5 p (tB 8 p (tL 8 p (.iconst (-1)) 0) (tL 5 p (.ifCond .ne 5) 10)) (tL 2 p (.invokevirtual 63) 4)) (tB 1 p (tL 1 p (.iload_n 1) 0) (tL 0 p (.aload_n 0) 0))))
set_option maxHeartbeats 4000000 in
def cd16 (p : Nat) : Option (Instr × Nat) := (tB 37 p (tB 54 p (tB 62 p (tB 67 p (tB 68 p (tB 69 p (tL 69 p .ireturn 0) (tL 68 p .iaload 0)) (tL 67 p (.iload_n 2) 0)) (tB 63 p (tB 64 p (tL 64 p (.getfield 7) 0) (tL 63 p (.aload_n 0) 0)) (tL 62 p .iastore 0))) (tB 59 p (tB 60 p (tB 61 p (tL 61 p .ior 0) (tL 60 p (.iload_n 3) 0)) (tL 59 p .iaload 0)) (tB 55 p (tB 58 p (tL 58 p (.iload_n 1) 0) (tL 55 p (.getfield 23) 4)) (tL 54 p (.aload_n 0) 0)))) (tB 44 p (tB 49 p (tB 50 p (tB 53 p (tL 53 p (.iload_n 1) 0) (tL 50 p (.getfield 23) 4)) (tL 49 p (.aload_n 0) 0)) (tB 47 p (tB 48 p (tL 48 p .ireturn 0) (tL 47 p .iaload 0)) (tL 44 p (.invokevirtual 74) 27))) (tB 41 p (tB 42 p (tB 43 p (tL 43 p (.iload_n 2) 0) (tL 42 p (.iload_n 1) 0)) (tL 41 p (.aload_n 0) 0)) (tB 38 p (tL 38 p (.getfield 29) 6) (tL 37 p (.aload_n 0) 0))))) (tB 19 p (tB 27 p (tB 32 p (tB 33 p (tB 34 p (tL 34 p (.ifCond .eq 15) 49) (tL 33 p .iand 0)) (tL 32 p (.iload_n 3) 0)) (tB 30 p (tB 31 p (tL 31 p .iaload 0) (tL 30 p (.iload_n 1) 0)) (tL 27 p (.getfield 26) 5))) (tB 22 p (tB 25 p (tB 26 p (tL 26 p (.aload_n 0) 0) (tL 25 p (.istore_n 3) 0)) (tL 22 p (.invokevirtual 70) 21)) (tB 20 p (tB 21 p (tL 21 p (.iload_n 2) 0) (tL 20 p (.aload_n 0) 0)) (tL 19 p .ireturn 0)))) (tB 9 p (tB 12 p (tB 15 p (tB 18 p (tL 18 p (.iconst 0) 0) (tL 15 p (.ifCond .ne 5) 20)) (tL 12 p (.invokevirtual 67) 8)) (tB 10 p (tB 11 p (tL 11 p (.iload_n 2) 0) (tL 10 p (.aload_n 0) 0)) (tL 9 p .ireturn 0))) (tB 2 p (tB 5 p (tB 8 p (tL 8 p (.iconst 0) 0) (tL 5 p (.ifCond .ne 5) 10)) (tL 2 p (.invokevirtual 63) 4)) (tB 1 p (tL 1 p (.iload_n 1) 0) (tL 0 p (.aload_n 0) 0))))))
set_option maxHeartbeats 4000000 in
def cd17 (p : Nat) : Option (Instr × Nat) := (tB 11 p (tB 14 p (tB 17 p (tB 18 p (tL 18 p .ireturn 0) (tL 17 p (.iload_n 1) 0)) (tL 14 p (.invokevirtual 59) 19)) (tB 12 p (tB 13 p (tL 13 p (.iload_n 1) 0) (tL 12 p (.aload_n 0) 0)) (tL 11 p .ireturn 0))) (tB 5 p (tB 6 p (tB 9 p (tL 9 p (.bipush (-5)) 0) (tL 6 p (.ifCond .ge 6) 12)) (tL 5 p (.iload_n 1) 0)) (tB 1 p (tB 4 p (tL 4 p (.istore_n 1) 0) (tL 1 p (.invokevirtual 55) 18)) (tL 0 p (.aload_n 0) 0))))
set_option maxHeartbeats 4000000 in
def cd18 (p : Nat) : Option (Instr × Nat) := (tB 17 p (tB 26 p (tB 30 p (tB 33 p (tB 34 p (tL 34 p .ireturn 0) (tL 33 p (.iconst (-1)) 0)) (tL 30 p (.goto (-28)) 2)) (tB 27 p (tL 27 p (.iinc 1 1) 0) (tL 26 p .ireturn 0))) (tB 21 p (tB 22 p (tB 25 p (tL 25 p (.iload_n 1) 0) (tL 22 p (.ifCond .ne 5) 27)) (tL 21 p .baload 0)) (tB 20 p (tL 20 p (.iload_n 1) 0) (tL 17 p (.getfield 16) 2)))) (tB 7 p (tB 11 p (tB 13 p (tB 16 p (tL 16 p (.aload_n 0) 0) (tL 13 p (.if_icmp .ge 20) 33)) (tL 11 p (.bipush 8) 0)) (tB 10 p (tL 10 p (.iload_n 1) 0) (tL 7 p (.if_icmp .ge 26) 33))) (tB 2 p (tB 3 p (tB 4 p (tL 4 p (.getfield 40) 8) (tL 3 p (.aload_n 0) 0)) (tL 2 p (.iload_n 1) 0)) (tB 1 p (tL 1 p (.istore_n 1) 0) (tL 0 p (.iconst 0) 0)))))
set_option maxHeartbeats 4000000 in
def cd19 (p : Nat) : Option (Instr × Nat) := (tB 11 p (tB 17 p (tB 21 p (tB 22 p (tL 22 p .return_ 0) (tL 21 p .iastore 0)) (tB 18 p (tL 18 p (.getfield 46) 10) (tL 17 p (.aload_n 0) 0))) (tB 13 p (tB 16 p (tL 16 p (.iload_n 1) 0) (tL 13 p (.getfield 20) 3)) (tB 12 p (tL 12 p (.aload_n 0) 0) (tL 11 p .bastore 0)))) (tB 5 p (tB 9 p (tB 10 p (tL 10 p (.iconst 1) 0) (tL 9 p (.iload_n 1) 0)) (tB 6 p (tL 6 p (.getfield 16) 2) (tL 5 p (.aload_n 0) 0))) (tB 1 p (tB 2 p (tL 2 p (.invokevirtual 93) 20) (tL 1 p (.iload_n 1) 0)) (tL 0 p (.aload_n 0) 0))))
set_option maxHeartbeats 4000000 in
def cd20 (p : Nat) : Option (Instr × Nat) := (tB 27 p (tB 41 p (tB 48 p (tB 50 p (tB 53 p (tB 56 p (tL 56 p .return_ 0) (tL 53 p (.goto (-18)) 35)) (tL 50 p (.iinc 3 1) 0)) (tB 49 p (tL 49 p .iastore 0) (tL 48 p (.iconst 0) 0))) (tB 45 p (tB 46 p (tB 47 p (tL 47 p .iadd 0) (tL 46 p (.iload_n 3) 0)) (tL 45 p (.iload_n 2) 0)) (tB 42 p (tL 42 p (.getfield 29) 6) (tL 41 p (.aload_n 0) 0)))) (tB 33 p (tB 35 p (tB 36 p (tB 38 p (tL 38 p (.if_icmp .ge 18) 56) (tL 36 p (.bipush 32) 0)) (tL 35 p (.iload_n 3) 0)) (tB 34 p (tL 34 p (.istore_n 3) 0) (tL 33 p (.iconst 0) 0))) (tB 29 p (tB 31 p (tB 32 p (tL 32 p (.istore_n 2) 0) (tL 31 p .imul 0)) (tL 29 p (.bipush 32) 0)) (tB 28 p (tL 28 p (.iload_n 1) 0) (tL 27 p .iastore 0))))) (tB 13 p (tB 20 p (tB 22 p (tB 25 p (tB 26 p (tL 26 p (.iconst 0) 0) (tL 25 p (.iload_n 1) 0)) (tL 22 p (.getfield 26) 5)) (tB 21 p (tL 21 p (.aload_n 0) 0) (tL 20 p .iastore 0))) (tB 15 p (tB 18 p (tB 19 p (tL 19 p (.iconst 0) 0) (tL 18 p (.iload_n 1) 0)) (tL 15 p (.getfield 23) 4)) (tB 14 p (tL 14 p (.aload_n 0) 0) (tL 13 p .iastore 0)))) (tB 6 p (tB 8 p (tB 11 p (tB 12 p (tL 12 p (.iconst 0) 0) (tL 11 p (.iload_n 1) 0)) (tL 8 p (.getfield 20) 3)) (tB 7 p (tL 7 p (.aload_n 0) 0) (tL 6 p .bastore 0))) (tB 4 p (tB 5 p (tL 5 p (.iconst 0) 0) (tL 4 p (.iload_n 1) 0)) (tB 1 p (tL 1 p (.getfield 16) 2) (tL 0 p (.aload_n 0) 0))))))
set_option maxHeartbeats 4000000 in
def cd21 (p : Nat) : Option (Instr × Nat) := (tB 2 p (tB 3 p (tL 3 p .ireturn 0) (tL 2 p .ishl 0)) (tB 1 p (tL 1 p (.iload_n 1) 0) (tL 0 p (.iconst 1) 0)))
set_option maxHeartbeats 4000000 in
def cd22 (p : Nat) : Option (Instr × Nat) := (tB 11 p (tB 18 p (tB 22 p (tB 23 p (tL 23 p .ireturn 0) (tL 22 p (.iconst 0) 0)) (tB 19 p (tL 19 p (.goto 4) 23) (tL 18 p (.iconst 1) 0))) (tB 12 p (tB 15 p (tL 15 p (.if_icmp .le 7) 22) (tL 12 p (.getfield 43) 9)) (tL 11 p (.aload_n 0) 0))) (tB 5 p (tB 9 p (tB 10 p (tL 10 p .isub 0) (tL 9 p .iaload 0)) (tB 8 p (tL 8 p (.iload_n 1) 0) (tL 5 p (.getfield 20) 3))) (tB 1 p (tB 4 p (tL 4 p (.aload_n 0) 0) (tL 1 p (.getfield 46) 10)) (tL 0 p (.aload_n 0) 0))))
set_option maxHeartbeats 4000000 in
def cd23 (p : Nat) : Option (Instr × Nat) := (tB 30 p (tB 48 p (tB 57 p (tB 61 p (tB 64 p (tB 65 p (tL 65 p .ireturn 0) (tL 64 p (.iconst (-1)) 0)) (tL 61 p (.goto (-44)) 17)) (tB 58 p (tL 58 p (.iinc 4 1) 0) (tL 57 p .ireturn 0))) (tB 51 p (tB 52 p (tB 55 p (tL 55 p (.iload 4) 0) (tL 52 p (.if_icmp .le 6) 58)) (tL 51 p (.iload_n 3) 0)) (tB 50 p (tL 50 p .iaload 0) (tL 48 p (.iload 4) 0)))) (tB 37 p (tB 41 p (tB 44 p (tB 45 p (tL 45 p (.getfield 13) 1) (tL 44 p (.aload_n 0) 0)) (tL 41 p (.ifCond .eq 17) 58)) (tB 40 p (tL 40 p .iand 0) (tL 37 p (.invokevirtual 70) 21))) (tB 34 p (tB 35 p (tL 35 p (.iload 4) 0) (tL 34 p (.aload_n 0) 0)) (tB 33 p (tL 33 p (.iload_n 2) 0) (tL 30 p (.if_icmp .ge 34) 64))))) (tB 13 p (tB 19 p (tB 23 p (tB 26 p (tB 28 p (tL 28 p (.bipush 32) 0) (tL 26 p (.iload 4) 0)) (tL 23 p (.if_icmp .ge 41) 64)) (tB 20 p (tL 20 p (.getfield 36) 7) (tL 19 p (.aload_n 0) 0))) (tB 15 p (tB 17 p (tL 17 p (.iload 4) 0) (tL 15 p (.istore 4) 0)) (tB 14 p (tL 14 p (.iconst 0) 0) (tL 13 p (.istore_n 3) 0)))) (tB 6 p (tB 8 p (tB 11 p (tB 12 p (tL 12 p .iaload 0) (tL 11 p (.iload_n 1) 0)) (tL 8 p (.getfield 20) 3)) (tB 7 p (tL 7 p (.aload_n 0) 0) (tL 6 p (.istore_n 2) 0))) (tB 4 p (tB 5 p (tL 5 p .iaload 0) (tL 4 p (.iload_n 1) 0)) (tB 1 p (tL 1 p (.getfield 23) 4) (tL 0 p (.aload_n 0) 0))))))
set_option maxHeartbeats 4000000 in
def cd24 (p : Nat) : Option (Instr × Nat) := (tB 48 p (tB 72 p (tB 86 p (tB 91 p (tB 95 p (tB 96 p (tL 96 p .ireturn 0) (tL 95 p (.iload_n 2) 0)) (tB 92 p (tL 92 p (.putfield 52) 12) (tL 91 p (.iconst (-1)) 0))) (tB 87 p (tB 90 p (tL 90 p (.aload_n 0) 0) (tL 87 p (.invokevirtual 90) 25)) (tL 86 p (.iload_n 1) 0))) (tB 78 p (tB 82 p (tB 85 p (tL 85 p (.aload_n 0) 0) (tL 82 p (.goto (-57)) 25)) (tB 79 p (tL 79 p (.iinc 4 1) 0) (tL 78 p .iastore 0))) (tB 75 p (tB 77 p (tL 77 p (.iload_n 2) 0) (tL 75 p (.iload 4) 0)) (tL 72 p (.getfield 13) 1)))) (tB 62 p (tB 66 p (tB 70 p (tB 71 p (tL 71 p (.aload_n 0) 0) (tL 70 p .iastore 0)) (tB 69 p (tL 69 p .iaload 0) (tL 66 p (.invokevirtual 74) 27))) (tB 63 p (tB 64 p (tL 64 p (.iload 4) 0) (tL 63 p (.iload_n 1) 0)) (tL 62 p (.aload_n 0) 0))) (tB 53 p (tB 58 p (tB 59 p (tL 59 p (.getfield 29) 6) (tL 58 p (.aload_n 0) 0)) (tB 56 p (tL 56 p (.iload 4) 0) (tL 53 p (.getfield 7) 0))) (tB 49 p (tB 52 p (tL 52 p (.aload_n 0) 0) (tL 49 p (.ifCond .eq 30) 79)) (tL 48 p .iand 0))))) (tB 21 p (tB 34 p (tB 41 p (tB 43 p (tB 45 p (tL 45 p (.invokevirtual 70) 21) (tL 43 p (.iload 4) 0)) (tB 42 p (tL 42 p (.aload_n 0) 0) (tL 41 p (.iload_n 3) 0))) (tB 36 p (tB 38 p (tL 38 p (.if_icmp .ge 47) 85) (tL 36 p (.bipush 32) 0)) (tL 34 p (.iload 4) 0))) (tB 25 p (tB 28 p (tB 31 p (tL 31 p (.if_icmp .ge 54) 85) (tL 28 p (.getfield 36) 7)) (tB 27 p (tL 27 p (.aload_n 0) 0) (tL 25 p (.iload 4) 0))) (tB 22 p (tB 23 p (tL 23 p (.istore 4) 0) (tL 22 p (.iconst 0) 0)) (tL 21 p (.istore_n 3) 0)))) (tB 10 p (tB 15 p (tB 19 p (tB 20 p (tL 20 p .iaload 0) (tL 19 p (.iload_n 1) 0)) (tB 16 p (tL 16 p (.getfield 26) 5) (tL 15 p (.aload_n 0) 0))) (tB 11 p (tB 14 p (tL 14 p (.istore_n 2) 0) (tL 11 p (.getfield 46) 10)) (tL 10 p (.aload_n 0) 0))) (tB 5 p (tB 6 p (tB 7 p (tL 7 p (.putfield 46) 10) (tL 6 p .iadd 0)) (tL 5 p (.iconst 1) 0)) (tB 1 p (tB 2 p (tL 2 p (.getfield 46) 10) (tL 1 p (.aload_n 0) 0)) (tL 0 p (.aload_n 0) 0))))))
set_option maxHeartbeats 4000000 in
def cd25 (p : Nat) : Option (Instr × Nat) := (tB 2 p (tB 5 p (tL 5 p .return_ 0) (tL 2 p (.invokevirtual 93) 20)) (tB 1 p (tL 1 p (.iload_n 1) 0) (tL 0 p (.aload_n 0) 0)))
set_option maxHeartbeats 4000000 in
def cd26 (p : Nat) : Option (Instr × Nat) := (tB 30 p (tB 40 p (tB 46 p (tB 50 p (tB 51 p (tB 52 p (tL 52 p .ireturn 0) (tL 51 p (.iconst 0) 0)) (tL 50 p .iastore 0)) (tB 49 p (tL 49 p (.iload_n 3) 0) (tL 46 p (.invokevirtual 74) 27))) (tB 44 p (tB 45 p (tL 45 p (.iload_n 2) 0) (tL 44 p (.iload_n 1) 0)) (tB 43 p (tL 43 p (.aload_n 0) 0) (tL 40 p (.getfield 29) 6)))) (tB 34 p (tB 38 p (tB 39 p (tL 39 p (.aload_n 0) 0) (tL 38 p .iastore 0)) (tB 37 p (tL 37 p .ior 0) (tL 34 p (.invokevirtual 70) 21))) (tB 32 p (tB 33 p (tL 33 p (.iload_n 2) 0) (tL 32 p (.aload_n 0) 0)) (tB 31 p (tL 31 p .iaload 0) (tL 30 p (.iload_n 1) 0))))) (tB 12 p (tB 21 p (tB 25 p (tB 26 p (tB 27 p (tL 27 p (.getfield 26) 5) (tL 26 p (.aload_n 0) 0)) (tL 25 p (.iload_n 1) 0)) (tB 22 p (tL 22 p (.getfield 26) 5) (tL 21 p (.aload_n 0) 0))) (tB 18 p (tB 20 p (tL 20 p .ireturn 0) (tL 18 p (.bipush (-2)) 0)) (tB 15 p (tL 15 p (.ifCond .ne 6) 21) (tL 12 p (.invokevirtual 67) 8)))) (tB 8 p (tB 10 p (tB 11 p (tL 11 p (.iload_n 2) 0) (tL 10 p (.aload_n 0) 0)) (tB 9 p (tL 9 p .ireturn 0) (tL 8 p (.iconst (-1)) 0))) (tB 2 p (tB 5 p (tL 5 p (.ifCond .ne 5) 10) (tL 2 p (.invokevirtual 63) 4)) (tB 1 p (tL 1 p (.iload_n 1) 0) (tL 0 p (.aload_n 0) 0))))))
set_option maxHeartbeats 4000000 in
def cd27 (p : Nat) : Option (Instr × Nat) := (tB 4 p (tB 5 p (tB 6 p (tL 6 p .ireturn 0) (tL 5 p .iadd 0)) (tL 4 p (.iload_n 2) 0)) (tB 1 p (tB 3 p (tL 3 p .imul 0) (tL 1 p (.bipush 32) 0)) (tL 0 p (.iload_n 1) 0)))
set_option maxHeartbeats 4000000 in
def cd28 (p : Nat) : Option (Instr × Nat) := (tB 9 p (tB 14 p (tB 15 p (tB 16 p (tL 16 p .ireturn 0) (tL 15 p .iaload 0)) (tL 14 p (.iload_n 1) 0)) (tB 10 p (tB 11 p (tL 11 p (.getfield 13) 1) (tL 10 p (.aload_n 0) 0)) (tL 9 p .ireturn 0))) (tB 2 p (tB 5 p (tB 8 p (tL 8 p (.iconst 0) 0) (tL 5 p (.ifCond .ne 5) 10)) (tL 2 p (.invokevirtual 67) 8)) (tB 1 p (tL 1 p (.iload_n 1) 0) (tL 0 p (.aload_n 0) 0))))
set_option maxHeartbeats 4000000 in
def cd29 (p : Nat) : Option (Instr × Nat) := (tB 12 p (tB 20 p (tB 22 p (tB 25 p (tB 26 p (tL 26 p .ireturn 0) (tL 25 p (.iconst 0) 0)) (tL 22 p (.putfield 49) 11)) (tB 21 p (tL 21 p .iadd 0) (tL 20 p (.iconst 1) 0))) (tB 16 p (tB 17 p (tL 17 p (.getfield 49) 11) (tL 16 p (.aload_n 0) 0)) (tB 15 p (tL 15 p (.aload_n 0) 0) (tL 12 p (.invokevirtual 90) 25)))) (tB 8 p (tB 10 p (tB 11 p (tL 11 p (.iload_n 1) 0) (tL 10 p (.aload_n 0) 0)) (tB 9 p (tL 9 p .ireturn 0) (tL 8 p (.iconst (-1)) 0))) (tB 2 p (tB 5 p (tL 5 p (.ifCond .ne 5) 10) (tL 2 p (.invokevirtual 63) 4)) (tB 1 p (tL 1 p (.iload_n 1) 0) (tL 0 p (.aload_n 0) 0)))))
set_option maxHeartbeats 4000000 in
def cd30 (p : Nat) : Option (Instr × Nat) := (tB 11 p (tB 16 p (tB 20 p (tB 21 p (tL 21 p .ireturn 0) (tL 20 p (.iload_n 3) 0)) (tB 17 p (tL 17 p (.putfield 52) 12) (tL 16 p (.iload_n 2) 0))) (tB 12 p (tB 15 p (tL 15 p (.aload_n 0) 0) (tL 12 p (.putfield 49) 11)) (tL 11 p .iadd 0))) (tB 5 p (tB 7 p (tB 10 p (tL 10 p (.iconst 1) 0) (tL 7 p (.getfield 49) 11)) (tB 6 p (tL 6 p (.aload_n 0) 0) (tL 5 p (.aload_n 0) 0))) (tB 1 p (tB 2 p (tL 2 p (.invokevirtual 90) 25) (tL 1 p (.iload_n 1) 0)) (tL 0 p (.aload_n 0) 0))))
def pCode (m pc : Nat) : Option (Instr × Nat) := bif Nat.ble pN m then none else bif Nat.ble (pTop m) pc then none else (bif Nat.ble 15 m then (bif Nat.ble 23 m then (bif Nat.ble 27 m then (bif Nat.ble 29 m then (bif Nat.ble 30 m then cd30 pc else cd29 pc) else (bif Nat.ble 28 m then cd28 pc else cd27 pc)) else (bif Nat.ble 25 m then (bif Nat.ble 26 m then cd26 pc else cd25 pc) else (bif Nat.ble 24 m then cd24 pc else cd23 pc))) else (bif Nat.ble 19 m then (bif Nat.ble 21 m then (bif Nat.ble 22 m then cd22 pc else cd21 pc) else (bif Nat.ble 20 m then cd20 pc else cd19 pc)) else (bif Nat.ble 17 m then (bif Nat.ble 18 m then cd18 pc else cd17 pc) else (bif Nat.ble 16 m then cd16 pc else cd15 pc)))) else (bif Nat.ble 7 m then (bif Nat.ble 11 m then (bif Nat.ble 13 m then (bif Nat.ble 14 m then cd14 pc else cd13 pc) else (bif Nat.ble 12 m then cd12 pc else cd11 pc)) else (bif Nat.ble 9 m then (bif Nat.ble 10 m then cd10 pc else cd9 pc) else (bif Nat.ble 8 m then cd8 pc else cd7 pc))) else (bif Nat.ble 3 m then (bif Nat.ble 5 m then (bif Nat.ble 6 m then cd6 pc else cd5 pc) else (bif Nat.ble 4 m then cd4 pc else cd3 pc)) else (bif Nat.ble 1 m then (bif Nat.ble 2 m then cd2 pc else cd1 pc) else cd0 pc))))
def lkF : List (Nat × Nat × Nat) := [(1, 7, 0), (1, 13, 1), (1, 16, 2), (1, 20, 3), (1, 23, 4), (1, 26, 5), (1, 29, 6), (1, 36, 7), (1, 40, 8), (1, 43, 9), (1, 46, 10), (1, 49, 11), (1, 52, 12)]
def lkN : List (Nat × Nat) := [(0, 7)]
def lkC : List (Nat × Nat × Nat) := []
def lkD : List (Nat × Nat × Nat) := []
def lkV : List (Nat × Nat × Nat) := [(0, 9, 1), (1, 32, 2), (0, 12, 3), (1, 63, 4), (0, 16, 5), (0, 19, 6), (0, 23, 7), (1, 67, 8), (0, 26, 9), (0, 46, 10), (0, 52, 11), (0, 55, 12), (0, 58, 13), (0, 61, 14), (0, 65, 15), (0, 36, 16), (0, 32, 17), (1, 55, 18), (1, 59, 19), (1, 93, 20), (1, 70, 21), (1, 78, 22), (1, 84, 23), (1, 87, 24), (1, 90, 25), (0, 39, 26), (1, 74, 27), (0, 43, 28), (0, 49, 29), (1, 81, 30)]
def lkO : List (Nat × Nat) := [(1, 1)]
def mV : List Nat := [3, 5, 6, 7, 10, 11, 12, 13, 14, 15, 16, 17, 26, 28, 29]
def mP : List Nat := [2, 4, 8, 18, 19, 20, 21, 22, 23, 24, 25, 27, 30]
def mS : List Nat := [9]
def mI : List Nat := [1]
def mA : List Nat := [1, 2, 3, 4, 5, 6, 7, 8, 9, 10, 11, 12, 13, 14, 15, 16, 17, 18, 19, 20, 21, 22, 23, 24, 25, 26, 27, 28, 29, 30]
def aTys : List FieldType := [.int, .boolean]
abbrev QCell := List Value ⊕ ((FieldType × List Int32) ⊕ List Int64)
abbrev QHeap := List QCell
abbrev QLoc := List (Option Value)
abbrev vI (x : Int32) : Option Value := some (.int x)
abbrev vR (a : Addr) : Option Value := some (.ref a)
abbrev QSt := Nat × QLoc × List Value × QHeap
def qv (ad : Nat → Addr) : Value → Value
 | .ref k => .ref (ad k)
 | v => v
def qsz : QCell → Nat
 | .inl _ => cN
 | .inr (.inl x) => x.2.length
 | .inr (.inr x) => x.length
def qhs : QHeap → Nat
 | [] => 0
 | c :: t => qsz c + qhs t
def aget {α : Type} (xs : List α) (j : Int32) : Option α := if j < 0 then none else xs[j.toNatClampNeg]?
def aset {α : Type} (xs : List α) (j : Int32) (v : α) : Option (List α) := if j < 0 then none else if j.toNatClampNeg < xs.length then some (xs.set j.toNatClampNeg v) else none
def qnew (n : Int32) : Option Nat := if n < 0 then none else if n.toNatClampNeg ≤ 67108864 then some n.toNatClampNeg else none
def qdiv (x y : Int32) : Option Int32 := if y = 0 then none else some (x / y)
def qrem (x y : Int32) : Option Int32 := if y = 0 then none else some (x % y)
def qboo (x : Int32) : Option Int32 := if x = 0 then some x else if x = 1 then some x else none
def lget : QLoc → Nat → Option Value
 | [], _ => none
 | v :: _, 0 => v
 | _ :: t, k + 1 => lget t k
def hget : QHeap → Nat → Option QCell
 | [], _ => none
 | v :: _, 0 => some v
 | _ :: t, k + 1 => hget t k
def vget : List Value → Nat → Option Value
 | [], _ => none
 | v :: _, 0 => some v
 | _ :: t, k + 1 => vget t k
def lkill (L : QLoc) : Nat → QLoc
 | 0 => L
 | k + 1 => match lget L k with
  | some (.long _) => L.set k none
  | some (.double _) => L.set k none
  | _ => L
def lput (L : QLoc) (k : Nat) (v : Value) : Option QLoc :=
 match v with
 | .long x => bif Nat.ble (k + 2) L.length then some (((lkill L k).set k (some (.long x))).set (k + 1) none) else none
 | .double _ => none
 | v => bif Nat.ble (k + 1) L.length then some ((lkill L k).set k (some v)) else none
def qload (pc : Nat) (L : QLoc) (S : List Value) (σ : QHeap) (k : Nat) (ok : Value → Bool) : Option QSt :=
 match lget L k with
 | some v => bif ok v then some (pc, L, v :: S, σ) else none
 | none => none
def isI : Value → Bool | .int _ => true | _ => false
def isJ : Value → Bool | .long _ => true | _ => false
def isR : Value → Bool | .ref _ => true | _ => false
def qstore (pc : Nat) (L : QLoc) (S : List Value) (σ : QHeap) (k : Nat) (ok : Value → Bool) : Option QSt :=
 match S with
 | v :: S' => bif ok v then (match lput L k v with | some L' => some (pc, L', S', σ) | none => none) else none
 | [] => none
def qbin (pc : Nat) (L : QLoc) (S : List Value) (σ : QHeap) (f : Int32 → Int32 → Int32) : Option QSt :=
 match S with
 | .int y :: .int x :: S' => some (pc, L, .int (f x y) :: S', σ)
 | _ => none
def qbino (pc : Nat) (L : QLoc) (S : List Value) (σ : QHeap) (f : Int32 → Int32 → Option Int32) : Option QSt :=
 match S with
 | .int y :: .int x :: S' => (f x y).bind fun z => some (pc, L, .int z :: S', σ)
 | _ => none
def qbinJ (pc : Nat) (L : QLoc) (S : List Value) (σ : QHeap) (f : Int64 → Int64 → Int64) : Option QSt :=
 match S with
 | .long y :: .long x :: S' => some (pc, L, .long (f x y) :: S', σ)
 | _ => none
def qshJ (pc : Nat) (L : QLoc) (S : List Value) (σ : QHeap) (f : Int64 → Int32 → Int64) : Option QSt :=
 match S with
 | .int y :: .long x :: S' => some (pc, L, .long (f x y) :: S', σ)
 | _ => none
def quni (pc : Nat) (L : QLoc) (S : List Value) (σ : QHeap) (f : Int32 → Value) : Option QSt :=
 match S with
 | .int x :: S' => some (pc, L, f x :: S', σ)
 | _ => none
def quniJ (pc : Nat) (L : QLoc) (S : List Value) (σ : QHeap) (f : Int64 → Value) : Option QSt :=
 match S with
 | .long x :: S' => some (pc, L, f x :: S', σ)
 | _ => none
def qald (pc : Nat) (L : QLoc) (S : List Value) (σ : QHeap) (ok : FieldType → Bool) : Option QSt :=
 match S with
 | .int j :: .ref a :: S' => (match hget σ a with
  | some (.inr (.inl x)) => bif ok x.1 then (aget x.2 j).bind fun v => some (pc, L, .int v :: S', σ) else none
  | _ => none)
 | _ => none
def qaldJ (pc : Nat) (L : QLoc) (S : List Value) (σ : QHeap) : Option QSt :=
 match S with
 | .int j :: .ref a :: S' => (match hget σ a with
  | some (.inr (.inr x)) => (aget x j).bind fun v => some (pc, L, .long v :: S', σ)
  | _ => none)
 | _ => none
def qnar : FieldType → Int32 → Int32
 | .boolean, x => x &&& 1
 | .byte, x => x.toInt8.toInt32
 | _, x => x
def qast (pc : Nat) (L : QLoc) (S : List Value) (σ : QHeap) (ok : FieldType → Bool) : Option QSt :=
 match S with
 | .int v :: .int j :: .ref a :: S' => (match hget σ a with
  | some (.inr (.inl x)) => bif ok x.1 && Nat.ble k0 a then (aset x.2 j (qnar x.1 v)).bind fun y => some (pc, L, S', σ.set a (.inr (.inl (x.1, y)))) else none
  | _ => none)
 | _ => none
def qastJ (pc : Nat) (L : QLoc) (S : List Value) (σ : QHeap) : Option QSt :=
 match S with
 | .long v :: .int j :: .ref a :: S' => (match hget σ a with
  | some (.inr (.inr x)) => bif Nat.ble k0 a then (aset x j v).bind fun y => some (pc, L, S', σ.set a (.inr (.inr y))) else none
  | _ => none)
 | _ => none
def tyI : FieldType → Bool | .int => true | _ => false
def tyB : FieldType → Bool | .boolean => true | .byte => true | _ => false
def qfit : FieldType → Value → Option Value
 | .int, .int x => some (.int x)
 | .boolean, .int x => (qboo x).bind fun y => some (.int y)
 | .long, .long x => some (.long x)
 | .array t, .ref a => some (.ref a)
 | _, _ => none
def qget (pc : Nat) (L : QLoc) (S : List Value) (σ : QHeap) (k : Nat) : Option QSt :=
 match S with
 | .ref a :: S' => (match hget σ a with
  | some (.inl vs) => (match vget vs k with | some v => some (pc, L, v :: S', σ) | none => none)
  | _ => none)
 | _ => none
def qput (pc : Nat) (L : QLoc) (S : List Value) (σ : QHeap) (k : Nat) : Option QSt :=
 match S with
 | v :: .ref a :: S' => (match hget σ a with
  | some (.inl vs) => bif Nat.ble k0 a && Nat.ble (k + 1) vs.length then (qfit (fTy k) v).bind fun w => some (pc, L, S', σ.set a (.inl (vs.set k w))) else none
  | _ => none)
 | _ => none
def qnewA (pc : Nat) (L : QLoc) (S : List Value) (σ : QHeap) (t : ArrayType) : Option QSt :=
 match S with
 | .int n :: S' => (match t with
  | .int => (qnew n).bind fun k => some (pc, L, .ref σ.length :: S', σ ++ [.inr (.inl (.int, List.replicate k 0))])
  | .boolean => (qnew n).bind fun k => some (pc, L, .ref σ.length :: S', σ ++ [.inr (.inl (.boolean, List.replicate k 0))])
  | .byte => (qnew n).bind fun k => some (pc, L, .ref σ.length :: S', σ ++ [.inr (.inl (.byte, List.replicate k 0))])
  | .long => (qnew n).bind fun k => some (pc, L, .ref σ.length :: S', σ ++ [.inr (.inr (List.replicate k 0))])
  | _ => none)
 | _ => none
def qlen (pc : Nat) (L : QLoc) (S : List Value) (σ : QHeap) : Option QSt :=
 match S with
 | .ref a :: S' => (match hget σ a with
  | some (.inr (.inl x)) => some (pc, L, .int x.2.length.toInt32 :: S', σ)
  | some (.inr (.inr x)) => some (pc, L, .int x.length.toInt32 :: S', σ)
  | _ => none)
 | _ => none
def qdup (pc : Nat) (L : QLoc) (S : List Value) (σ : QHeap) : Option QSt :=
 match S with
 | .int x :: S' => some (pc, L, .int x :: .int x :: S', σ)
 | .ref x :: S' => some (pc, L, .ref x :: .ref x :: S', σ)
 | _ => none
def qdup2 (pc : Nat) (L : QLoc) (S : List Value) (σ : QHeap) : Option QSt :=
 match S with
 | .int x :: .ref y :: S' => some (pc, L, .int x :: .ref y :: .int x :: .ref y :: S', σ)
 | .int x :: .int y :: S' => some (pc, L, .int x :: .int y :: .int x :: .int y :: S', σ)
 | .long x :: S' => some (pc, L, .long x :: .long x :: S', σ)
 | _ => none
def qpop (pc : Nat) (L : QLoc) (S : List Value) (σ : QHeap) : Option QSt :=
 match S with
 | .int _ :: S' => some (pc, L, S', σ)
 | .ref _ :: S' => some (pc, L, S', σ)
 | _ => none
def qif (pc : Nat) (L : QLoc) (S : List Value) (σ : QHeap) (cd : ClassFile.Cond) (tgt : Nat) : Option QSt :=
 match S with
 | .int x :: S' => some (bif ifCond.holds cd x then tgt else pc, L, S', σ)
 | _ => none
def qicmp (pc : Nat) (L : QLoc) (S : List Value) (σ : QHeap) (cd : ClassFile.Cond) (tgt : Nat) : Option QSt :=
 match S with
 | .int y :: .int x :: S' => some (bif if_icmp.holds cd x y then tgt else pc, L, S', σ)
 | _ => none
def qinc (pc : Nat) (L : QLoc) (S : List Value) (σ : QHeap) (k : Nat) (i : Int) : Option QSt :=
 match lget L k with
 | some (.int x) => (match lput L k (.int (x + Int32.ofInt i)) with | some L' => some (pc, L', S, σ) | none => none)
 | _ => none
def qldc (pc : Nat) (L : QLoc) (S : List Value) (σ : QHeap) (k : Nat) : Option QSt :=
 match vget cK k with
 | some v => some (pc, L, v :: S, σ)
 | none => none
def qexec (pc : Nat) (L : QLoc) (S : List Value) (σ : QHeap) (aux : Nat) : Instr → Option QSt
 | .aload_n k => qload (pc + 1) L S σ k.val isR
 | .aload k => qload (pc + 2) L S σ k isR
 | .iload_n k => qload (pc + 1) L S σ k.val isI
 | .iload k => qload (pc + 2) L S σ k isI
 | .lload_n k => qload (pc + 1) L S σ k.val isJ
 | .lload k => qload (pc + 2) L S σ k isJ
 | .iconst i => some (pc + 1, L, .int (Int32.ofInt i) :: S, σ)
 | .bipush i => some (pc + 2, L, .int (Int8.ofInt i).toInt32 :: S, σ)
 | .sipush i => some (pc + 3, L, .int (Int16.ofInt i).toInt32 :: S, σ)
 | .lconst k => some (pc + 1, L, .long (Int64.ofNat k.val) :: S, σ)
 | .ldc _ => qldc (pc + 2) L S σ aux
 | .ldc2_w _ => qldc (pc + 3) L S σ aux
 | .istore_n k => qstore (pc + 1) L S σ k.val isI
 | .istore k => qstore (pc + 2) L S σ k isI
 | .lstore_n k => qstore (pc + 1) L S σ k.val isJ
 | .lstore k => qstore (pc + 2) L S σ k isJ
 | .astore_n k => qstore (pc + 1) L S σ k.val isR
 | .astore k => qstore (pc + 2) L S σ k isR
 | .iinc k i => qinc (pc + 3) L S σ k i
 | .iadd => qbin (pc + 1) L S σ fun x y => x + y
 | .isub => qbin (pc + 1) L S σ fun x y => x - y
 | .imul => qbin (pc + 1) L S σ fun x y => x * y
 | .iand => qbin (pc + 1) L S σ fun x y => x &&& y
 | .ior => qbin (pc + 1) L S σ fun x y => x ||| y
 | .ixor => qbin (pc + 1) L S σ fun x y => x ^^^ y
 | .ishl => qbin (pc + 1) L S σ fun x y => x <<< (y &&& 31)
 | .ishr => qbin (pc + 1) L S σ fun x y => x >>> (y &&& 31)
 | .iushr => qbin (pc + 1) L S σ fun x y => XT.ushr x y
 | .idiv => qbino (pc + 1) L S σ qdiv
 | .irem => qbino (pc + 1) L S σ qrem
 | .ineg => quni (pc + 1) L S σ fun x => .int (-x)
 | .i2l => quni (pc + 1) L S σ fun x => .long x.toInt64
 | .i2b => quni (pc + 1) L S σ fun x => .int x.toInt8.toInt32
 | .l2i => quniJ (pc + 1) L S σ fun x => .int x.toInt32
 | .lneg => quniJ (pc + 1) L S σ fun x => .long (-x)
 | .ladd => qbinJ (pc + 1) L S σ fun x y => x + y
 | .lsub => qbinJ (pc + 1) L S σ fun x y => x - y
 | .lmul => qbinJ (pc + 1) L S σ fun x y => x * y
 | .land => qbinJ (pc + 1) L S σ fun x y => x &&& y
 | .lor => qbinJ (pc + 1) L S σ fun x y => x ||| y
 | .lxor => qbinJ (pc + 1) L S σ fun x y => x ^^^ y
 | .lshl => qshJ (pc + 1) L S σ fun x y => x <<< (y.toInt64 &&& 63)
 | .lshr => qshJ (pc + 1) L S σ fun x y => x >>> (y.toInt64 &&& 63)
 | .lushr => qshJ (pc + 1) L S σ fun x y => XT.ushrL x y
 | .lcmp => (match S with
  | .long y :: .long x :: S' => some (pc + 1, L, .int (XT.cmpL x y) :: S', σ)
  | _ => none)
 | .goto _ => some (aux, L, S, σ)
 | .ifCond cd _ => qif (pc + 3) L S σ cd aux
 | .if_icmp cd _ => qicmp (pc + 3) L S σ cd aux
 | .dup => qdup (pc + 1) L S σ
 | .dup2 => qdup2 (pc + 1) L S σ
 | .pop => qpop (pc + 1) L S σ
 | .getfield _ => qget (pc + 3) L S σ aux
 | .putfield _ => qput (pc + 3) L S σ aux
 | .iaload => qald (pc + 1) L S σ tyI
 | .baload => qald (pc + 1) L S σ tyB
 | .laload => qaldJ (pc + 1) L S σ
 | .iastore => qast (pc + 1) L S σ tyI
 | .bastore => qast (pc + 1) L S σ tyB
 | .lastore => qastJ (pc + 1) L S σ
 | .arraylength => qlen (pc + 1) L S σ
 | .newarray t => qnewA (pc + 2) L S σ t
 | .new _ => some (pc + 3, L, .ref σ.length :: S, σ ++ [.inl cDef])
 | _ => none
def qstep (m : Nat) (st : QSt) : Option QSt :=
 match pCode m st.1 with
 | some (i, aux) => qexec st.1 st.2.1 st.2.2.1 st.2.2.2 aux i
 | none => none
def qsteps (m : Nat) : Nat → QSt → Option QSt
 | 0, st => some st
 | n + 1, st => match qstep m st with | some st' => qsteps m n st' | none => none
def qentry (args : List Value) (mx : Nat) : QLoc := (args.flatMap fun v => match v with | .long x => [some (.long x), none] | .double x => [some (.double x), none] | v => [some v]) ++ List.replicate (mx - (args.map fun v => v.category).sum) none
def ilen : Instr → Nat
 | .aload _ | .iload _ | .lload _ | .istore _ | .lstore _ | .astore _ | .bipush _ | .ldc _ | .newarray _ => 2
 | .sipush _ | .ldc2_w _ | .iinc _ _ | .goto _ | .ifCond _ _ | .if_icmp _ _ | .getfield _ | .putfield _ | .new _ | .invokevirtual _ | .invokespecial _ | .invokestatic _ => 3
 | _ => 1
def qtgt (pc : Nat) (o : Int) (aux : Nat) : Bool := decide (0 ≤ (pc : Int) + o) && decide (((pc : Int) + o).toNat = aux)
def qlk (m pc : Nat) (i : Instr) (aux : Nat) : Bool :=
 match i with
 | .goto o => qtgt pc o aux
 | .ifCond _ o => qtgt pc o aux
 | .if_icmp _ o => qtgt pc o aux
 | .getfield idx => lkF.contains (pK m, idx, aux)
 | .putfield idx => lkF.contains (pK m, idx, aux) && (!fFin aux || (pK m == 1 && pNm m == "<init>"))
 | .new idx => lkN.contains (pK m, idx)
 | .newarray t => aTys.contains (newarray.typeOf t)
 | .ldc idx => lkC.contains (pK m, idx, aux)
 | .ldc2_w idx => lkD.contains (pK m, idx, aux)
 | _ => true
def qchk (m pc : Nat) (i : Instr) (aux : Nat) : Bool := decide (decode (pBytes m) pc = .ok (i, ilen i)) && qlk m pc i aux
def QCellOk (Z : State) (ad : Nat → Addr) (h : Heap) (a : Addr) : QCell → Prop
 | .inl vs => Exa Z h a cName ∧ vs.length = nF ∧ ∀ (k : Nat) (v : Value), k < nF → vget vs k = some v → Fld Z h a cName (fNm k) (fDs k) (qv ad v)
 | .inr (.inl x) => ∃ c : Cell, Arr Z h a c x.1 ∧ c.slots = (x.2.map Value.int).toArray
 | .inr (.inr x) => ∃ c : Cell, Arr Z h a c .long ∧ c.slots = (x.map Value.long).toArray
def QAd (n0 : Nat) (ad : Nat → Addr) : Prop := (∀ k, k0 ≤ k → ad k = n0 + (k - k0)) ∧ ∀ i j, ad i = ad j → i = j
def QRep (Z : State) (n0 : Nat) (ad : Nat → Addr) (h : Heap) (σ : QHeap) : Prop := k0 ≤ σ.length ∧ h.size = n0 + (σ.length - k0) ∧ ∀ k c, hget σ k = some c → QCellOk Z ad h (ad k) c
def QLocOk (ad : Nat → Addr) (L : QLoc) (C : Array Slot) : Prop :=
 L.length = C.size ∧ (∀ k v, lget L k = some v → C[k]? = some (.val (qv ad v))) ∧ (∀ k w, C[k]? = some (.val w) → w.category = 2 → C[k + 1]? = some .second) ∧ ∀ k, C[k]? = some .second → ∃ j w, k = j + 1 ∧ C[j]? = some (.val w) ∧ w.category = 2
def QW (Z : State) (a0 : Array Value) : Prop :=
 (∀ t ∈ lkF, (Cond.fieldLink (kName t.1) t.2.1 cName (fNm t.2.2) (fDs t.2.2)).before a0 Z = true) ∧
 (∀ t ∈ lkN, (Cond.classLink (kName t.1) t.2 cName).before a0 Z = true) ∧
 (∀ t ∈ lkC, ∃ v, vget cK t.2.2 = some (.int v) ∧ (Cond.constant (kName t.1) t.2.1 v).before a0 Z = true) ∧
 (∀ t ∈ lkD, ∃ v, vget cK t.2.2 = some (.long v) ∧ (Cond.constantLong (kName t.1) t.2.1 v).before a0 Z = true) ∧
 (∀ t ∈ lkV, (Cond.methodLink (kName t.1) t.2.1 (pName t.2.2)).before a0 Z = true) ∧
 (∀ t ∈ lkO, (Cond.methodLink (kName t.1) t.2 Lib.objectInit).before a0 Z = true) ∧
 (∀ m ∈ mV, (Cond.declares (pName m)).before a0 Z = true ∧ (Cond.selects cName (pName m) (pName m)).before a0 Z = true ∧ (Cond.instanceMethod (pName m)).before a0 Z = true) ∧
 (∀ m ∈ mP, (Cond.instanceMethod (pName m)).before a0 Z = true ∧ (Cond.privateMethod (pName m)).before a0 Z = true) ∧
 (∀ m ∈ mS, (Cond.static (pName m)).before a0 Z = true) ∧
 (∀ m ∈ mI, (Cond.instanceMethod (pName m)).before a0 Z = true) ∧
 (∀ m ∈ mA, (Cond.code (pName m) (pBytes m) (pMaxL m) (pRet m)).before a0 Z = true ∧ (Cond.initialized (kName (pK m))).before a0 Z = true) ∧
 (Cond.instanceMethod Lib.objectInit).before a0 Z = true ∧ (Cond.code Lib.objectInit ⟨#[0xb1]⟩ 1 none).before a0 Z = true ∧
 (∀ k, k < nF → bif fFin k then (Cond.laysFinal cName cName (fNm k) (fDs k)).before a0 Z = true else (Cond.lays cName cName (fNm k) (fDs k)).before a0 Z = true) ∧
 (Cond.instantiable cName cN).before a0 Z = true ∧ (Cond.initialized cName).before a0 Z = true ∧
 ∀ ty ∈ aTys, (Cond.arrayClass ty).before a0 Z = true
section Words
variable {Z : State} {a0 : Array Value}
theorem qw_fl (W : QW Z a0) : ∀ t ∈ lkF, (Cond.fieldLink (kName t.1) t.2.1 cName (fNm t.2.2) (fDs t.2.2)).before a0 Z = true := W.1
theorem qw_nw (W : QW Z a0) : ∀ t ∈ lkN, (Cond.classLink (kName t.1) t.2 cName).before a0 Z = true := W.2.1
theorem qw_cI (W : QW Z a0) : ∀ t ∈ lkC, ∃ v, vget cK t.2.2 = some (.int v) ∧ (Cond.constant (kName t.1) t.2.1 v).before a0 Z = true := W.2.2.1
theorem qw_cJ (W : QW Z a0) : ∀ t ∈ lkD, ∃ v, vget cK t.2.2 = some (.long v) ∧ (Cond.constantLong (kName t.1) t.2.1 v).before a0 Z = true := W.2.2.2.1
theorem qw_ml (W : QW Z a0) : ∀ t ∈ lkV, (Cond.methodLink (kName t.1) t.2.1 (pName t.2.2)).before a0 Z = true := W.2.2.2.2.1
theorem qw_mo (W : QW Z a0) : ∀ t ∈ lkO, (Cond.methodLink (kName t.1) t.2 Lib.objectInit).before a0 Z = true := W.2.2.2.2.2.1
theorem qw_vi (W : QW Z a0) : ∀ m ∈ mV, (Cond.declares (pName m)).before a0 Z = true ∧ (Cond.selects cName (pName m) (pName m)).before a0 Z = true ∧ (Cond.instanceMethod (pName m)).before a0 Z = true := W.2.2.2.2.2.2.1
theorem qw_pr (W : QW Z a0) : ∀ m ∈ mP, (Cond.instanceMethod (pName m)).before a0 Z = true ∧ (Cond.privateMethod (pName m)).before a0 Z = true := W.2.2.2.2.2.2.2.1
theorem qw_st (W : QW Z a0) : ∀ m ∈ mS, (Cond.static (pName m)).before a0 Z = true := W.2.2.2.2.2.2.2.2.1
theorem qw_ini (W : QW Z a0) : ∀ m ∈ mI, (Cond.instanceMethod (pName m)).before a0 Z = true := W.2.2.2.2.2.2.2.2.2.1
theorem qw_cod (W : QW Z a0) : ∀ m ∈ mA, (Cond.code (pName m) (pBytes m) (pMaxL m) (pRet m)).before a0 Z = true ∧ (Cond.initialized (kName (pK m))).before a0 Z = true := W.2.2.2.2.2.2.2.2.2.2.1
theorem qw_oi (W : QW Z a0) : (Cond.instanceMethod Lib.objectInit).before a0 Z = true := W.2.2.2.2.2.2.2.2.2.2.2.1
theorem qw_oc (W : QW Z a0) : (Cond.code Lib.objectInit ⟨#[0xb1]⟩ 1 none).before a0 Z = true := W.2.2.2.2.2.2.2.2.2.2.2.2.1
theorem qw_lay (W : QW Z a0) : ∀ k, k < nF → bif fFin k then (Cond.laysFinal cName cName (fNm k) (fDs k)).before a0 Z = true else (Cond.lays cName cName (fNm k) (fDs k)).before a0 Z = true := W.2.2.2.2.2.2.2.2.2.2.2.2.2.1
theorem qw_inst (W : QW Z a0) : (Cond.instantiable cName cN).before a0 Z = true := W.2.2.2.2.2.2.2.2.2.2.2.2.2.2.1
theorem qw_init (W : QW Z a0) : (Cond.initialized cName).before a0 Z = true := W.2.2.2.2.2.2.2.2.2.2.2.2.2.2.2.1
theorem qw_arr (W : QW Z a0) : ∀ ty ∈ aTys, (Cond.arrayClass ty).before a0 Z = true := W.2.2.2.2.2.2.2.2.2.2.2.2.2.2.2.2
end Words
theorem hget_eq : ∀ (σ : QHeap) k, hget σ k = σ[k]?
 | [], _ => by simp [hget]
 | _ :: _, 0 => by simp [hget]
 | _ :: t, k + 1 => by simp [hget, hget_eq t k]
theorem vget_eq : ∀ (σ : List Value) k, vget σ k = σ[k]?
 | [], _ => by simp [vget]
 | _ :: _, 0 => by simp [vget]
 | _ :: t, k + 1 => by simp [vget, vget_eq t k]
theorem lget_eq : ∀ (L : QLoc) k, lget L k = (L[k]?).getD none
 | [], _ => by simp [lget]
 | _ :: _, 0 => by simp [lget]
 | _ :: t, k + 1 => by simp [lget, lget_eq t k]
theorem lget_lt {L : QLoc} {k : Nat} {v : Value} (h : lget L k = some v) : k < L.length := by
 rw [lget_eq] at h
 rcases Nat.lt_or_ge k L.length with q | q
 ·exact q
 ·simp [List.getElem?_eq_none q] at h
theorem lget_set {L : QLoc} {k j : Nat} {o : Option Value} (hk : k < L.length) : lget (L.set k o) j = if j = k then o else lget L j := by
 simp only [lget_eq, List.getElem?_set]
 by_cases e : k = j
 ·subst e; simp [hk]
 ·simp [e, Ne.symm e]
theorem qhs_app (σ τ : QHeap) : qhs (σ ++ τ) = qhs σ + qhs τ := by
 induction σ with
 | nil => simp [qhs]
 | cons c t ih => simp [qhs, ih, Nat.add_assoc]
theorem qhs_set {σ : QHeap} {k : Nat} {c d : QCell} (h : hget σ k = some c) (hs : qsz d = qsz c) : qhs (σ.set k d) = qhs σ := by
 induction σ generalizing k with
 | nil => simp [hget] at h
 | cons x t ih =>
  cases k with
  | zero => simp only [hget, Option.some.injEq] at h; subst h; simp [qhs, hs]
  | succ k => simp only [hget] at h; simp [qhs, ih h]
theorem hget_set {σ : QHeap} {k j : Nat} {c d : QCell} (h : hget σ k = some c) : hget (σ.set k d) j = if j = k then some d else hget σ j := by
 rw [hget_eq] at h
 have hk := (List.getElem?_eq_some_iff.mp h).1
 simp only [hget_eq, List.getElem?_set]
 by_cases e : k = j
 ·subst e; simp [hk]
 ·simp [e, Ne.symm e]
theorem lkill_len (L : QLoc) (k : Nat) : (lkill L k).length = L.length := by
 cases k with
 | zero => rfl
 | succ k => simp only [lkill]; split <;> simp
theorem lget_kill {L : QLoc} {k j : Nat} {v : Value} (h : lget (lkill L k) j = some v) : lget L j = some v ∧ (k = j + 1 → v.category ≠ 2) := by
 cases k with
 | zero => exact ⟨h, fun e => by omega⟩
 | succ k =>
  simp only [lkill] at h
  split at h
  ·rename_i x q
   rw [lget_set (lget_lt q)] at h
   split at h
   ·cases h
   ·rename_i ne; exact ⟨h, fun e => absurd (by omega) ne⟩
  ·rename_i x q
   rw [lget_set (lget_lt q)] at h
   split at h
   ·cases h
   ·rename_i ne; exact ⟨h, fun e => absurd (by omega) ne⟩
  ·rename_i q1 q2
   refine ⟨h, fun e hc => ?_⟩
   obtain rfl : j = k := by omega
   cases v with
   | long x => exact q1 _ h
   | double x => exact q2 _ h
   | _ => simp [Value.category] at hc
theorem qv_cat (ad : Nat → Addr) (v : Value) : (qv ad v).category = v.category := by cases v <;> rfl
def kA (C : Array Slot) (k j : Nat) : Prop := k = j + 1 ∧ C[k]? = some .second
def kB (C : Array Slot) (k j : Nat) : Prop := j = k + 1 ∧ ∃ u, C[k]? = some (.val u) ∧ u.category = 2
def kD (C : Array Slot) (k j : Nat) : Prop := j = k + 2 ∧ ∃ u, C[k + 1]? = some (.val u) ∧ u.category = 2
theorem set1_at {C D : Array Slot} {k : Nat} {w : Value} (hk : k < C.size) (hw : w.category = 1) (h : storeLocals C k w = some D) :
  D.size = C.size ∧ D[k]? = some (.val w) ∧ ∀ j, j ≠ k → (D[j]? = C[j]? ∧ ¬ kA C k j ∧ ¬ kB C k j) ∨ D[j]? = some .unset ∧ (kA C k j ∨ kB C k j) := by
 have hck : C[k]? = some C[k] := Array.getElem?_eq_getElem hk
 unfold storeLocals at h
 simp only [hck, Option.bind_eq_bind, Option.bind_some] at h
 have self : ∀ {E : Array Slot}, k < E.size → storeSelf E k w = some D → D = E.setIfInBounds k (.val w) := by
  intro E hE q
  simp only [storeSelf, setAt, hE, if_true, Option.bind_eq_bind, Option.bind_some, hw] at q
  simpa using q.symm
 split at h
 ·rename_i q
  have hk1 : k - 1 < C.size := by omega
  simp only [setAt, hk1, if_true, Option.bind_some] at h
  have e := self (by simpa using hk) h
  subst e
  refine ⟨by simp, by simp [hk], fun j hj => ?_⟩
  by_cases ej : k = j + 1
  ·refine Or.inr ⟨?_, Or.inl ⟨ej, by rw [hck, q]⟩⟩
   rw [Array.getElem?_setIfInBounds_ne (Ne.symm hj), show j = k - 1 by omega]
   simp [hk1]
  ·refine Or.inl ⟨?_, fun x => ej x.1, fun x => ?_⟩
   ·rw [Array.getElem?_setIfInBounds_ne (Ne.symm hj), Array.getElem?_setIfInBounds_ne (by omega)]
   ·obtain ⟨-, u, x1, -⟩ := x
    rw [hck, q] at x1; cases x1
 ·rename_i u q
  split at h
  ·rename_i hu
   by_cases hk1 : k + 1 < C.size
   ·simp only [setAt, hk1, if_true, Option.bind_some] at h
    have e := self (by simpa using hk) h
    subst e
    refine ⟨by simp, by simp [hk], fun j hj => ?_⟩
    by_cases ej : j = k + 1
    ·refine Or.inr ⟨?_, Or.inr ⟨ej, u, by rw [hck, q], hu⟩⟩
     rw [Array.getElem?_setIfInBounds_ne (Ne.symm hj), ej]
     simp [hk1]
    ·refine Or.inl ⟨?_, fun x => ?_, fun x => ej x.1⟩
     ·rw [Array.getElem?_setIfInBounds_ne (Ne.symm hj), Array.getElem?_setIfInBounds_ne (by omega)]
     ·obtain ⟨-, x1⟩ := x
      rw [hck, q] at x1; cases x1
   ·simp [setAt, hk1] at h
  ·rename_i hu
   have e := self hk h
   subst e
   refine ⟨by simp, by simp [hk], fun j hj => Or.inl ⟨Array.getElem?_setIfInBounds_ne (Ne.symm hj), fun x => ?_, fun x => ?_⟩⟩
   ·obtain ⟨-, x1⟩ := x
    rw [hck, q] at x1; cases x1
   ·obtain ⟨-, u', x1, x2⟩ := x
    rw [hck, q] at x1; cases x1; exact hu x2
 ·rename_i q
  have e := self hk h
  subst e
  refine ⟨by simp, by simp [hk], fun j hj => Or.inl ⟨Array.getElem?_setIfInBounds_ne (Ne.symm hj), fun x => ?_, fun x => ?_⟩⟩
  ·obtain ⟨-, x1⟩ := x
   rw [hck, q] at x1; cases x1
  ·obtain ⟨-, u', x1, x2⟩ := x
   rw [hck, q] at x1; cases x1
theorem set2_at {C D : Array Slot} {k : Nat} {w : Value} (hk : k + 1 < C.size) (hw : w.category = 2) (wf : ∀ k w, C[k]? = some (.val w) → w.category = 2 → C[k + 1]? = some .second) (h : storeLocals C k w = some D) :
  D.size = C.size ∧ D[k]? = some (.val w) ∧ D[k + 1]? = some .second ∧ ∀ j, j ≠ k → j ≠ k + 1 → (D[j]? = C[j]? ∧ ¬ kA C k j ∧ ¬ kD C k j) ∨ D[j]? = some .unset ∧ (kA C k j ∨ kD C k j) := by
 have hk0 : k < C.size := by omega
 have hck : C[k]? = some C[k] := Array.getElem?_eq_getElem hk0
 unfold storeLocals at h
 simp only [hck, Option.bind_eq_bind, Option.bind_some] at h
 have self : ∀ {E : Array Slot}, E.size = C.size → storeSelf E k w = some D → D.size = C.size ∧ D[k]? = some (.val w) ∧ D[k + 1]? = some .second ∧ ∀ j, j ≠ k → j ≠ k + 1 → (D[j]? = E[j]? ∧ ¬ kD E k j) ∨ D[j]? = some .unset ∧ kD E k j := by
  intro E hs q
  have h1 : k < E.size := by omega
  have h2 : k + 1 < E.size := by omega
  have h3 : (E.setIfInBounds k (.val w))[k + 1]? = some E[k + 1] := by rw [Array.getElem?_setIfInBounds_ne (by omega)]; exact Array.getElem?_eq_getElem h2
  simp only [storeSelf, setAt, h1, if_true, Option.bind_eq_bind, Option.bind_some, hw, h3] at q
  have plain : (¬ ∃ u, E[k + 1]? = some (.val u) ∧ u.category = 2) → some ((E.setIfInBounds k (.val w)).setIfInBounds (k + 1) .second) = some D → D.size = C.size ∧ D[k]? = some (.val w) ∧ D[k + 1]? = some .second ∧ ∀ j, j ≠ k → j ≠ k + 1 → (D[j]? = E[j]? ∧ ¬ kD E k j) ∨ D[j]? = some .unset ∧ kD E k j := by
   intro no q
   cases q
   refine ⟨by simp [hs], ?_, ?_, fun j hj hj1 => Or.inl ⟨?_, fun x => no x.2⟩⟩
   ·rw [Array.getElem?_setIfInBounds_ne (by omega)]; simp [h1]
   ·simp [h2]
   ·rw [Array.getElem?_setIfInBounds_ne (by omega), Array.getElem?_setIfInBounds_ne (by omega)]
  split at q
  ·rename_i u hu
   split at q
   ·rename_i hu2
    by_cases h5 : k + 2 < E.size
    ·simp [h5, h2] at q
     cases q
     refine ⟨by simp [hs], ?_, ?_, fun j hj hj1 => ?_⟩
     ·rw [Array.getElem?_setIfInBounds_ne (by omega), Array.getElem?_setIfInBounds_ne (by omega)]; simp [h1]
     ·simp [h2]
     ·by_cases e : j = k + 2
      ·refine Or.inr ⟨?_, e, u, by rw [Array.getElem?_eq_getElem h2, hu], hu2⟩
       rw [Array.getElem?_setIfInBounds_ne (by omega), e]
       simp [h5]
      ·refine Or.inl ⟨?_, fun x => e x.1⟩
       rw [Array.getElem?_setIfInBounds_ne (by omega), Array.getElem?_setIfInBounds_ne (by omega), Array.getElem?_setIfInBounds_ne (by omega)]
    ·simp [h5] at q
   ·rename_i hu2
    refine plain ?_ (by simpa [h2] using q)
    rintro ⟨u', x1, x2⟩
    rw [Array.getElem?_eq_getElem h2, hu] at x1; cases x1; exact hu2 x2
  ·rename_i hu
   refine plain ?_ (by simpa [h2] using q)
   rintro ⟨u', x1, x2⟩
   rw [Array.getElem?_eq_getElem h2] at x1; exact hu _ (Option.some.inj x1)
 split at h
 ·rename_i q
  have hk1 : k - 1 < C.size := by omega
  simp only [setAt, hk1, if_true, Option.bind_some] at h
  obtain ⟨e1, e2, e3, e4⟩ := self (by simp) h
  refine ⟨e1, e2, e3, fun j hj hj1 => ?_⟩
  have h6 : ∀ i, i + 1 ≠ k ∨ k = 0 → i ≠ k ∨ k ≠ 0 → (C.setIfInBounds (k - 1) Slot.unset)[i]? = C[i]? := fun i hi hi2 => Array.getElem?_setIfInBounds_ne (by omega)
  have h7 : (C.setIfInBounds (k - 1) Slot.unset)[k + 1]? = C[k + 1]? := Array.getElem?_setIfInBounds_ne (by omega)
  rcases e4 j hj hj1 with ⟨r, r'⟩ | ⟨r, r1, u, r2, r3⟩
  ·by_cases ej : k = j + 1
   ·refine Or.inr ⟨?_, Or.inl ⟨ej, by rw [hck, q]⟩⟩
    rw [r, show j = k - 1 by omega]; simp [hk1]
   ·refine Or.inl ⟨by rw [r]; exact h6 _ (by omega) (by omega), fun x => ej x.1, fun x => r' ⟨x.1, ?_⟩⟩
    rw [h7]; exact x.2
  ·exact Or.inr ⟨r, Or.inr ⟨r1, u, by rw [← h7]; exact r2, r3⟩⟩
 ·rename_i u q
  split at h
  ·rename_i hu
   simp only [setAt, hk, if_true, Option.bind_some] at h
   obtain ⟨e1, e2, e3, e4⟩ := self (by simp) h
   have hsec := wf k u (by rw [hck, q]) hu
   refine ⟨e1, e2, e3, fun j hj hj1 => ?_⟩
   rcases e4 j hj hj1 with ⟨r, r'⟩ | ⟨r, r1, u', r2, r3⟩
   ·refine Or.inl ⟨by rw [r]; exact Array.getElem?_setIfInBounds_ne (by omega), fun x => ?_, fun x => ?_⟩
    ·obtain ⟨-, x1⟩ := x
     rw [hck, q] at x1; cases x1
    ·obtain ⟨-, u', x1, x2⟩ := x
     rw [hsec] at x1; cases x1
   ·simp [hk] at r2
  ·rename_i hu
   obtain ⟨e1, e2, e3, e4⟩ := self rfl h
   refine ⟨e1, e2, e3, fun j hj hj1 => ?_⟩
   rcases e4 j hj hj1 with ⟨r, r'⟩ | ⟨r, r'⟩
   ·refine Or.inl ⟨r, fun x => ?_, r'⟩
    obtain ⟨-, x1⟩ := x
    rw [hck, q] at x1; cases x1
   ·exact Or.inr ⟨r, Or.inr r'⟩
 ·rename_i q
  obtain ⟨e1, e2, e3, e4⟩ := self rfl h
  refine ⟨e1, e2, e3, fun j hj hj1 => ?_⟩
  rcases e4 j hj hj1 with ⟨r, r'⟩ | ⟨r, r'⟩
  ·refine Or.inl ⟨r, fun x => ?_, r'⟩
   obtain ⟨-, x1⟩ := x
   rw [hck, q] at x1; cases x1
  ·exact Or.inr ⟨r, Or.inr r'⟩
theorem store_some {C : Array Slot} {k : Nat} {w : Value} (hk : k + (w.category - 1) < C.size) (hc : w.category = 1 ∨ w.category = 2) (wf : ∀ k w, C[k]? = some (.val w) → w.category = 2 → C[k + 1]? = some .second) :
  ∃ D, storeLocals C k w = some D := by
 have hk0 : k < C.size := by omega
 have hck : C[k]? = some C[k] := Array.getElem?_eq_getElem hk0
 have self : ∀ {E : Array Slot}, E.size = C.size → (∀ u, E[k + 1]? = some (.val u) → u.category = 2 → k + 2 < E.size) → ∃ D, storeSelf E k w = some D := by
  intro E hs hn
  have h1 : k < E.size := by omega
  simp only [storeSelf, setAt, h1, if_true, Option.bind_eq_bind, Option.bind_some]
  rcases hc with hc | hc
  ·exact ⟨E.setIfInBounds k (.val w), by simp [hc]⟩
  ·have h2 : k + 1 < E.size := by omega
   have h3 : (E.setIfInBounds k (.val w))[k + 1]? = some E[k + 1] := by rw [Array.getElem?_setIfInBounds_ne (by omega)]; exact Array.getElem?_eq_getElem h2
   simp only [hc, if_true, h3, Option.bind_some]
   split
   ·rename_i u hu
    split
    ·rename_i hu2
     have h5 := hn u (by rw [Array.getElem?_eq_getElem h2, hu]) hu2
     exact ⟨_, by simp [h5, h2]; rfl⟩
    ·exact ⟨_, by simp [h2]; rfl⟩
   ·exact ⟨_, by simp [h2]; rfl⟩
 have next : ∀ u, C[k + 1]? = some (.val u) → u.category = 2 → k + 2 < C.size := fun u h1 h2 => (Array.getElem?_eq_some_iff.mp (wf _ _ h1 h2)).1
 unfold storeLocals
 simp only [hck, Option.bind_eq_bind, Option.bind_some]
 split
 ·have hk1 : k - 1 < C.size := by omega
  simp only [setAt, hk1, if_true, Option.bind_some]
  refine self (by simp) fun u h1 h2 => ?_
  rw [Array.getElem?_setIfInBounds_ne (by omega)] at h1
  simpa using next u h1 h2
 ·rename_i u q
  split
  ·rename_i hu
   have h5 := (Array.getElem?_eq_some_iff.mp (wf k u (by rw [hck, q]) hu)).1
   simp only [setAt, h5, if_true, Option.bind_some]
   refine self (by simp) fun u h1 h2 => ?_
   simp [h5] at h1
  ·exact self rfl next
 ·exact self rfl next
theorem store_ok1 {ad : Nat → Addr} {L : QLoc} {C : Array Slot} {k : Nat} {v : Value} (H : QLocOk ad L C) (hv : v.category = 1) (hk : k < L.length) :
  ∃ D, storeLocals C k (qv ad v) = some D ∧ QLocOk ad ((lkill L k).set k (some v)) D ∧ D.size = C.size := by
 obtain ⟨H1, H2, H3, H4⟩ := H
 have hc : (qv ad v).category = 1 := by rw [qv_cat, hv]
 obtain ⟨D, hD⟩ := store_some (C := C) (k := k) (w := qv ad v) (by rw [hc]; omega) (Or.inl hc) H3
 obtain ⟨d1, d2, d3⟩ := set1_at (by omega) hc hD
 refine ⟨D, hD, ⟨by simp [lkill_len, H1, d1], fun j u hj => ?_, fun j w hj hw => ?_, fun j hj => ?_⟩, d1⟩
 ·rw [lget_set (by rw [lkill_len]; exact hk)] at hj
  split at hj
  ·rename_i e; cases hj; rw [e]; exact d2
  ·rename_i ne
   obtain ⟨g1, g2⟩ := lget_kill hj
   have g3 := H2 j u g1
   rcases d3 j ne with ⟨r, -, -⟩ | ⟨-, ⟨r1, r2⟩ | ⟨r1, w, r2, r3⟩⟩
   ·rw [r]; exact g3
   ·obtain ⟨i, w, z1, z2, z3⟩ := H4 k r2
    obtain rfl : i = j := by omega
    rw [g3] at z2
    cases z2
    rw [qv_cat] at z3
    exact absurd z3 (g2 r1)
   ·have := H3 k w r2 r3
    rw [← r1, g3] at this
    cases this
 ·by_cases e : j = k
  ·subst e; rw [d2] at hj; cases hj; rw [hc] at hw; cases hw
  ·rcases d3 j e with ⟨r, nA, nB⟩ | ⟨r, -⟩
   ·rw [r] at hj
    have g := H3 j w hj hw
    have e2 : j + 1 ≠ k := fun q => nA ⟨q.symm, by rw [← q]; exact g⟩
    rcases d3 (j + 1) e2 with ⟨z, -, -⟩ | ⟨-, ⟨z1, z2⟩ | ⟨z1, -⟩⟩
    ·rw [z]; exact g
    ·obtain ⟨i, u, y1, y2, y3⟩ := H4 k z2
     obtain rfl : i = j + 1 := by omega
     rw [g] at y2; cases y2
    ·omega
   ·rw [r] at hj; cases hj
 ·by_cases e : j = k
  ·subst e; rw [d2] at hj; cases hj
  ·rcases d3 j e with ⟨r, nA, nB⟩ | ⟨r, -⟩
   ·rw [r] at hj
    obtain ⟨i, w, y1, y2, y3⟩ := H4 j hj
    refine ⟨i, w, y1, ?_, y3⟩
    have ei : i ≠ k := fun q => nB ⟨by omega, w, by rw [← q]; exact y2, y3⟩
    rcases d3 i ei with ⟨z, -, -⟩ | ⟨-, ⟨z1, z2⟩ | ⟨z1, u, z2, z3⟩⟩
    ·rw [z]; exact y2
    ·omega
    ·have := H3 k u z2 z3
     rw [← z1, y2] at this; cases this
   ·rw [r] at hj; cases hj
theorem store_ok2 {ad : Nat → Addr} {L : QLoc} {C : Array Slot} {k : Nat} {x : Int64} (H : QLocOk ad L C) (hk : k + 1 < L.length) :
  ∃ D, storeLocals C k (.long x) = some D ∧ QLocOk ad (((lkill L k).set k (some (.long x))).set (k + 1) none) D ∧ D.size = C.size := by
 obtain ⟨H1, H2, H3, H4⟩ := H
 have hc : (Value.long x).category = 2 := rfl
 obtain ⟨D, hD⟩ := store_some (C := C) (k := k) (w := .long x) (by rw [hc]; omega) (Or.inr hc) H3
 obtain ⟨d1, d2, d2', d3⟩ := set2_at (by omega) hc H3 hD
 refine ⟨D, hD, ⟨by simp [lkill_len, H1, d1], fun j u hj => ?_, fun j w hj hw => ?_, fun j hj => ?_⟩, d1⟩
 ·rw [lget_set (by simp [lkill_len]; exact hk)] at hj
  split at hj
  ·cases hj
  ·rename_i ne1
   rw [lget_set (by rw [lkill_len]; omega)] at hj
   split at hj
   ·rename_i e; cases hj; rw [e]; exact d2
   ·rename_i ne
    obtain ⟨g1, g2⟩ := lget_kill hj
    have g3 := H2 j u g1
    rcases d3 j ne ne1 with ⟨r, -, -⟩ | ⟨-, ⟨r1, r2⟩ | ⟨r1, w, r2, r3⟩⟩
    ·rw [r]; exact g3
    ·obtain ⟨i, w, z1, z2, z3⟩ := H4 k r2
     obtain rfl : i = j := by omega
     rw [g3] at z2
     cases z2
     rw [qv_cat] at z3
     exact absurd z3 (g2 r1)
    ·have := H3 (k + 1) w r2 r3
     rw [show k + 1 + 1 = j by omega, g3] at this
     cases this
 ·by_cases e : j = k
  ·rw [e]; exact d2'
  ·by_cases e1 : j = k + 1
   ·rw [e1, d2'] at hj; cases hj
   ·rcases d3 j e e1 with ⟨r, nA, nB⟩ | ⟨r, -⟩
    ·rw [r] at hj
     have g := H3 j w hj hw
     have e2 : j + 1 ≠ k := fun q => nA ⟨q.symm, by rw [← q]; exact g⟩
     rcases d3 (j + 1) e2 (by omega) with ⟨z, -, -⟩ | ⟨-, ⟨z1, z2⟩ | ⟨z1, -⟩⟩
     ·rw [z]; exact g
     ·obtain ⟨i, u, y1, y2, y3⟩ := H4 k z2
      obtain rfl : i = j + 1 := by omega
      rw [g] at y2; cases y2
     ·omega
    ·rw [r] at hj; cases hj
 ·by_cases e : j = k
  ·rw [e, d2] at hj; cases hj
  ·by_cases e1 : j = k + 1
   ·exact ⟨k, _, e1, d2, hc⟩
   ·rcases d3 j e e1 with ⟨r, nA, nB⟩ | ⟨r, -⟩
    ·rw [r] at hj
     obtain ⟨i, w, y1, y2, y3⟩ := H4 j hj
     refine ⟨i, w, y1, ?_, y3⟩
     have ei : i ≠ k := fun q => e1 (by omega)
     have ei1 : i ≠ k + 1 := fun q => nB ⟨by omega, w, by rw [← q]; exact y2, y3⟩
     rcases d3 i ei ei1 with ⟨z, -, -⟩ | ⟨-, ⟨z1, z2⟩ | ⟨z1, u, z2, z3⟩⟩
     ·rw [z]; exact y2
     ·omega
     ·have := H3 (k + 1) u z2 z3
      rw [show k + 1 + 1 = i by omega, y2] at this; cases this
    ·rw [r] at hj; cases hj
theorem store_ok {ad : Nat → Addr} {L L' : QLoc} {C : Array Slot} {k : Nat} {v : Value} (H : QLocOk ad L C) (h : lput L k v = some L') :
  ∃ D, storeLocals C k (qv ad v) = some D ∧ QLocOk ad L' D ∧ D.size = C.size := by
 have one : v.category = 1 → (bif Nat.ble (k + 1) L.length then some ((lkill L k).set k (some v)) else none) = some L' → ∃ D, storeLocals C k (qv ad v) = some D ∧ QLocOk ad L' D ∧ D.size = C.size := by
  intro hv h
  cases hb : Nat.ble (k + 1) L.length with
  | false => rw [hb] at h; cases h
  | true => rw [hb] at h; cases h; exact store_ok1 H hv (Nat.le_of_ble_eq_true hb)
 cases v with
 | long x =>
  simp only [lput] at h
  cases hb : Nat.ble (k + 2) L.length with
  | false => rw [hb] at h; cases h
  | true => rw [hb] at h; cases h; exact store_ok2 H (Nat.le_of_ble_eq_true hb)
 | double x => simp [lput] at h
 | int x => exact one rfl h
 | float x => exact one rfl h
 | null => exact one rfl h
 | ref x => exact one rfl h
 | retAddr x => exact one rfl h
theorem fInj : ∀ i, i < nF → ∀ j, j < nF → fNm i = fNm j → i = j := by decide +kernel
theorem fPrs : ∀ i, i < nF → parseFieldDescriptor (fDs i) = some (fTy i) := by decide +kernel
theorem cDefs : ∀ i, i < nF → vget cDef i = some (defaultValue (fTy i)) := by decide +kernel
theorem cDefL : cDef.length = nF := by decide +kernel
theorem fDef : ∀ i, i < nF → ∀ a, defaultValue (fTy i) ≠ .ref a := by
 intro i _ a
 cases fTy i <;> simp [defaultValue]
theorem kPlain : ∀ k, k < 2 → plainName (kName k) = true := by
 intro k hk
 rcases k with _ | _ | k
 ·first | decide +kernel | (simp [kName, plainName, overriddenIn]; done)
 ·first | decide +kernel | (simp [kName, plainName, overriddenIn]; done)
 ·omega
theorem pKlt : ∀ m, m < pN → pK m < 2 := by decide +kernel
theorem pSig : ∀ m, m < pN → (parseMethodDescriptor (pDs m)).map (fun sg => sg.parameters.length) = some (pNA m) := by decide +kernel
theorem pOwn : ∀ k, k < 2 → kName k ≠ "java/lang/invoke/MethodHandle" ∧ kName k ≠ "java/lang/invoke/VarHandle" := by decide +kernel
theorem mAlt : ∀ m ∈ mA, m < pN := by decide +kernel
theorem mVlt : ∀ m ∈ mV, m ∈ mA ∧ pK m = 1 := by decide +kernel
theorem mPlt : ∀ m ∈ mP, m ∈ mA ∧ pK m = 1 := by decide +kernel
theorem mSlt : ∀ m ∈ mS, m ∈ mA := by decide +kernel
theorem mIlt : ∀ m ∈ mI, m ∈ mA ∧ pK m = 1 ∧ pNm m = "<init>" ∧ pRet m = none := by decide +kernel
theorem kOne : kName 1 = cName := rfl
set_option maxRecDepth 100000 in
set_option maxHeartbeats 4000000 in
theorem pChk0 : ∀ m, m < pN → ∀ pc, pc < pTop m → (match pCode m pc with | some t => qchk m pc t.1 t.2 | none => true) = true := by decide +kernel
theorem pIn {m pc : Nat} {t : Instr × Nat} (h : pCode m pc = some t) : m < pN ∧ pc < pTop m := by
 unfold pCode at h
 cases h1 : Nat.ble pN m with
 | true => rw [h1] at h; cases h
 | false =>
  cases h2 : Nat.ble (pTop m) pc with
  | true => rw [h1, h2] at h; cases h
  | false => exact ⟨Nat.lt_of_not_le (fun q => by rw [Nat.ble_eq_true_of_le q] at h1; cases h1), Nat.lt_of_not_le (fun q => by rw [Nat.ble_eq_true_of_le q] at h2; cases h2)⟩
theorem pChk {m pc : Nat} {i : Instr} {aux : Nat} (h : pCode m pc = some (i, aux)) : qchk m pc i aux = true := by
 have q := pChk0 m (pIn h).1 pc (pIn h).2
 rw [h] at q
 exact q
theorem pDec {m pc : Nat} {i : Instr} {aux : Nat} (h : pCode m pc = some (i, aux)) : decode (pBytes m) pc = .ok (i, ilen i) := by
 have q := pChk h
 unfold qchk at q
 exact of_decide_eq_true (Bool.and_eq_true_iff.mp q).1
theorem pDecN {m pc n : Nat} {i : Instr} {aux : Nat} (h : pCode m pc = some (i, aux)) (hn : ilen i = n) : decode (pBytes m) pc = .ok (i, n) := by
 rw [← hn]; exact pDec h
theorem pRest {m pc : Nat} {i : Instr} {aux : Nat} (h : pCode m pc = some (i, aux)) : qlk m pc i aux = true := by
 have q := pChk h
 unfold qchk at q
 exact (Bool.and_eq_true_iff.mp q).2
theorem qtgt_spec {pc : Nat} {o : Int} {aux : Nat} (h : qtgt pc o aux = true) : 0 ≤ (pc : Int) + o ∧ ((pc : Int) + o).toNat = aux := by
 unfold qtgt at h
 have h2 := Bool.and_eq_true_iff.mp h
 exact ⟨of_decide_eq_true h2.1, of_decide_eq_true h2.2⟩
def QCx (Z : State) (p : Program) (R : Room) (s : State) (mid : MethodId) (meth : Method) (c : Code) (m : Nat) : Prop :=
 p.tables.exec = Jvm.exec ∧ Z.Warmed39 s.vm ∧ c.code = pBytes m ∧ c.maxLocals = pMaxL m ∧ meth.sig.returnType = pRet m ∧ s.vm.findClass (kName (pK m)) = some mid.cls ∧ meth.name = pNm m ∧ pFr m ≤ R.frames ∧ pLo m ≤ R.locals
def QTri (l : Launch) (Z : State) (n0 : Nat) (ad : Nat → Addr) (m : Nat) (st : QSt) (v : Option Value) (σ' : QHeap) : Prop :=
 st.2.2.2.length ≤ σ'.length ∧ qhs st.2.2.2 ≤ qhs σ' ∧
 ∀ (p : Program) (e : Env) (R : Room) (s : State) (mid : MethodId) (args : Array Value) (below : List Frame) (meth : Method) (c : Code) (T : State) (locs : List Loc) (cells slots : Nat) (C : Array Slot),
  QCx Z p R s mid meth c m → Stand p l e R s mid args below meth c T locs cells slots → QRep Z n0 ad T.heap st.2.2.2 → Fr n0 locs → QLocOk ad st.2.1 C → C.size = c.maxLocals →
  n0 + (st.2.2.2.length - k0) = s.heap.size + cells → cells + (σ'.length - st.2.2.2.length) ≤ R.cells → slots + (qhs σ' - qhs st.2.2.2) ≤ R.slots →
  ∃ T' locs', Stand p l e R s mid args below meth c T' locs' (cells + (σ'.length - st.2.2.2.length)) (slots + (qhs σ' - qhs st.2.2.2)) ∧ QRep Z n0 ad T'.heap σ' ∧ Fr n0 locs' ∧
   ∀ fs, (∀ (f : JFrame) (acts : List Action), f.method = mid → f.locked = none → f.entered = [] → (doReturn e (T'.setTop f) acts (v.map (qv ad))).1 = T'.setFrames fs) →
    Steps p.tables e below (T.setTop (mkF mid st.1 C (st.2.2.1.map (qv ad)))) (T'.setFrames fs)
section Triples
variable {l : Launch} {Z : State} {n0 : Nat} {ad : Nat → Addr} {a0 : Array Value} {m : Nat} {v : Option Value} {σ' : QHeap}
theorem QTri.gen {st st' : QSt} (h : QTri l Z n0 ad m st' v σ') (g1 : st.2.2.2.length ≤ st'.2.2.2.length) (g2 : qhs st.2.2.2 ≤ qhs st'.2.2.2)
  (hs : ∀ (p : Program) (e : Env) (R : Room) (s : State) (mid : MethodId) (args : Array Value) (below : List Frame) (meth : Method) (c : Code) (T : State) (locs : List Loc) (cells slots : Nat) (C : Array Slot),
   QCx Z p R s mid meth c m → Stand p l e R s mid args below meth c T locs cells slots → QRep Z n0 ad T.heap st.2.2.2 → Fr n0 locs → QLocOk ad st.2.1 C → C.size = c.maxLocals →
   n0 + (st.2.2.2.length - k0) = s.heap.size + cells → cells + (st'.2.2.2.length - st.2.2.2.length) ≤ R.cells → slots + (qhs st'.2.2.2 - qhs st.2.2.2) ≤ R.slots →
   ∃ T₁ locs₁ C₁, Stand p l e R s mid args below meth c T₁ locs₁ (cells + (st'.2.2.2.length - st.2.2.2.length)) (slots + (qhs st'.2.2.2 - qhs st.2.2.2)) ∧ QRep Z n0 ad T₁.heap st'.2.2.2 ∧ Fr n0 locs₁ ∧ QLocOk ad st'.2.1 C₁ ∧ C₁.size = c.maxLocals ∧
    ∀ target, Steps p.tables e below (T₁.setTop (mkF mid st'.1 C₁ (st'.2.2.1.map (qv ad)))) target → Steps p.tables e below (T.setTop (mkF mid st.1 C (st.2.2.1.map (qv ad)))) target) :
  QTri l Z n0 ad m st v σ' := by
 obtain ⟨h1, h2, h3⟩ := h
 refine ⟨Nat.le_trans g1 h1, Nat.le_trans g2 h2, fun p e R s mid args below meth c T locs cells slots C hcx X hR hF hL hC hn hc hsl => ?_⟩
 obtain ⟨T₁, locs₁, C₁, X₁, R₁, F₁, L₁, C1, S₁⟩ := hs p e R s mid args below meth c T locs cells slots C hcx X hR hF hL hC hn (by omega) (by omega)
 have hk := hR.1
 obtain ⟨T', locs', X', R', F', S'⟩ := h3 p e R s mid args below meth c T₁ locs₁ _ _ C₁ hcx X₁ R₁ F₁ L₁ C1 (by omega) (by omega) (by omega)
 have e1 : cells + (st'.2.2.2.length - st.2.2.2.length) + (σ'.length - st'.2.2.2.length) = cells + (σ'.length - st.2.2.2.length) := by omega
 have e2 : slots + (qhs st'.2.2.2 - qhs st.2.2.2) + (qhs σ' - qhs st'.2.2.2) = slots + (qhs σ' - qhs st.2.2.2) := by omega
 rw [e1, e2] at X'
 exact ⟨T', locs', X', R', F', fun fs hf => S₁ _ (S' fs hf)⟩
theorem QTri.pure {st st' : QSt} (h : QTri l Z n0 ad m st' v σ') (hσ : st'.2.2.2 = st.2.2.2)
  (hs : ∀ (p : Program) (e : Env) (R : Room) (s : State) (mid : MethodId) (args : Array Value) (below : List Frame) (meth : Method) (c : Code) (T : State) (locs : List Loc) (cells slots : Nat) (C : Array Slot),
   QCx Z p R s mid meth c m → Stand p l e R s mid args below meth c T locs cells slots → QRep Z n0 ad T.heap st.2.2.2 → QLocOk ad st.2.1 C → C.size = c.maxLocals →
   ∃ T₁ C₁, Stand p l e R s mid args below meth c T₁ locs cells slots ∧ T₁.heap = T.heap ∧ QLocOk ad st'.2.1 C₁ ∧ C₁.size = c.maxLocals ∧
    ∀ target, Steps p.tables e below (T₁.setTop (mkF mid st'.1 C₁ (st'.2.2.1.map (qv ad)))) target → Steps p.tables e below (T.setTop (mkF mid st.1 C (st.2.2.1.map (qv ad)))) target) :
  QTri l Z n0 ad m st v σ' := by
 refine QTri.gen h (by rw [hσ]; exact Nat.le_refl _) (by rw [hσ]; exact Nat.le_refl _) fun p e R s mid args below meth c T locs cells slots C hcx X hR hF hL hC hn hc hsl => ?_
 obtain ⟨T₁, C₁, X₁, hh, L₁, C1, S₁⟩ := hs p e R s mid args below meth c T locs cells slots C hcx X hR hL hC
 refine ⟨T₁, locs, C₁, ?_, by rw [hσ, hh]; exact hR, hF, L₁, C1, S₁⟩
 rw [hσ, Nat.sub_self, Nat.sub_self]
 exact X₁
theorem QTri.frame {pc pc' : Nat} {L L' : QLoc} {S S' : List Value} {σ : QHeap} (h : QTri l Z n0 ad m (pc', L', S', σ) v σ')
  (hs : ∀ (p : Program) (e : Env) (R : Room) (s : State) (mid : MethodId) (args : Array Value) (below : List Frame) (meth : Method) (c : Code) (T : State) (locs : List Loc) (cells slots : Nat) (C : Array Slot),
   QCx Z p R s mid meth c m → Stand p l e R s mid args below meth c T locs cells slots → QRep Z n0 ad T.heap σ → QLocOk ad L C → C.size = c.maxLocals →
   ∃ C₁, QLocOk ad L' C₁ ∧ C₁.size = c.maxLocals ∧ ∀ target, Steps p.tables e below (T.setTop (mkF mid pc' C₁ (S'.map (qv ad)))) target → Steps p.tables e below (T.setTop (mkF mid pc C (S.map (qv ad)))) target) :
  QTri l Z n0 ad m (pc, L, S, σ) v σ' :=
 QTri.pure h rfl fun p e R s mid args below meth c T locs cells slots C hcx X hR hL hC => by
  obtain ⟨C₁, h1, h2, h3⟩ := hs p e R s mid args below meth c T locs cells slots C hcx X hR hL hC
  exact ⟨T, C₁, X, rfl, h1, h2, h3⟩
theorem QTri.stack {pc pc' : Nat} {L : QLoc} {S S' : List Value} {σ : QHeap} (h : QTri l Z n0 ad m (pc', L, S', σ) v σ')
  (hs : ∀ (p : Program) (e : Env) (R : Room) (s : State) (mid : MethodId) (args : Array Value) (below : List Frame) (meth : Method) (c : Code) (T : State) (locs : List Loc) (cells slots : Nat) (C : Array Slot) (target : State),
   p.tables.exec = Jvm.exec → Z.Warmed39 s.vm → c.code = pBytes m → s.vm.findClass (kName (pK m)) = some mid.cls → Stand p l e R s mid args below meth c T locs cells slots → QRep Z n0 ad T.heap σ → QLocOk ad L C →
   Steps p.tables e below (T.setTop (mkF mid pc' C (S'.map (qv ad)))) target → Steps p.tables e below (T.setTop (mkF mid pc C (S.map (qv ad)))) target) :
  QTri l Z n0 ad m (pc, L, S, σ) v σ' :=
 QTri.frame h fun p e R s mid args below meth c T locs cells slots C hcx X hR hL hC => ⟨C, hL, hC, fun target k => hs p e R s mid args below meth c T locs cells slots C target hcx.1 hcx.2.1 hcx.2.2.1 hcx.2.2.2.2.2.1 X hR hL k⟩
theorem qload_inv {pc : Nat} {L : QLoc} {S : List Value} {σ : QHeap} {k : Nat} {ok : Value → Bool} {st' : QSt} (h : qload pc L S σ k ok = some st') : ∃ v, lget L k = some v ∧ ok v = true ∧ st' = (pc, L, v :: S, σ) := by
 unfold qload at h
 split at h
 ·rename_i v hv
  cases ho : ok v with
  | true => rw [ho] at h; cases h; exact ⟨v, hv, ho, rfl⟩
  | false => rw [ho] at h; cases h
 ·cases h
theorem qstore_inv {pc : Nat} {L : QLoc} {S : List Value} {σ : QHeap} {k : Nat} {ok : Value → Bool} {st' : QSt} (h : qstore pc L S σ k ok = some st') : ∃ v S' L', S = v :: S' ∧ ok v = true ∧ lput L k v = some L' ∧ st' = (pc, L', S', σ) := by
 unfold qstore at h
 split at h
 ·rename_i v S'
  cases ho : ok v with
  | true =>
   rw [ho] at h
   simp only [cond_true] at h
   split at h
   ·rename_i L' hL'
    cases h; exact ⟨v, S', L', rfl, ho, hL', rfl⟩
   ·cases h
  | false => rw [ho] at h; cases h
 ·cases h
theorem qbin_inv {pc : Nat} {L : QLoc} {S : List Value} {σ : QHeap} {f : Int32 → Int32 → Int32} {st' : QSt} (h : qbin pc L S σ f = some st') : ∃ x y S', S = .int y :: .int x :: S' ∧ st' = (pc, L, .int (f x y) :: S', σ) := by
 unfold qbin at h
 split at h
 ·cases h; exact ⟨_, _, _, rfl, rfl⟩
 ·cases h
theorem qbino_inv {pc : Nat} {L : QLoc} {S : List Value} {σ : QHeap} {f : Int32 → Int32 → Option Int32} {st' : QSt} (h : qbino pc L S σ f = some st') : ∃ x y z S', S = .int y :: .int x :: S' ∧ f x y = some z ∧ st' = (pc, L, .int z :: S', σ) := by
 unfold qbino at h
 split at h
 ·obtain ⟨z, hz, h⟩ := Option.bind_eq_some_iff.mp h
  cases h; exact ⟨_, _, _, _, rfl, hz, rfl⟩
 ·cases h
theorem qbinJ_inv {pc : Nat} {L : QLoc} {S : List Value} {σ : QHeap} {f : Int64 → Int64 → Int64} {st' : QSt} (h : qbinJ pc L S σ f = some st') : ∃ x y S', S = .long y :: .long x :: S' ∧ st' = (pc, L, .long (f x y) :: S', σ) := by
 unfold qbinJ at h
 split at h
 ·cases h; exact ⟨_, _, _, rfl, rfl⟩
 ·cases h
theorem qshJ_inv {pc : Nat} {L : QLoc} {S : List Value} {σ : QHeap} {f : Int64 → Int32 → Int64} {st' : QSt} (h : qshJ pc L S σ f = some st') : ∃ x y S', S = .int y :: .long x :: S' ∧ st' = (pc, L, .long (f x y) :: S', σ) := by
 unfold qshJ at h
 split at h
 ·cases h; exact ⟨_, _, _, rfl, rfl⟩
 ·cases h
theorem quni_inv {pc : Nat} {L : QLoc} {S : List Value} {σ : QHeap} {f : Int32 → Value} {st' : QSt} (h : quni pc L S σ f = some st') : ∃ x S', S = .int x :: S' ∧ st' = (pc, L, f x :: S', σ) := by
 unfold quni at h
 split at h
 ·cases h; exact ⟨_, _, rfl, rfl⟩
 ·cases h
theorem quniJ_inv {pc : Nat} {L : QLoc} {S : List Value} {σ : QHeap} {f : Int64 → Value} {st' : QSt} (h : quniJ pc L S σ f = some st') : ∃ x S', S = .long x :: S' ∧ st' = (pc, L, f x :: S', σ) := by
 unfold quniJ at h
 split at h
 ·cases h; exact ⟨_, _, rfl, rfl⟩
 ·cases h
theorem qif_inv {pc : Nat} {L : QLoc} {S : List Value} {σ : QHeap} {cd : ClassFile.Cond} {t : Nat} {st' : QSt} (h : qif pc L S σ cd t = some st') : ∃ x S', S = .int x :: S' ∧ st' = (bif ifCond.holds cd x then t else pc, L, S', σ) := by
 unfold qif at h
 split at h
 ·cases h; exact ⟨_, _, rfl, rfl⟩
 ·cases h
theorem qicmp_inv {pc : Nat} {L : QLoc} {S : List Value} {σ : QHeap} {cd : ClassFile.Cond} {t : Nat} {st' : QSt} (h : qicmp pc L S σ cd t = some st') : ∃ x y S', S = .int y :: .int x :: S' ∧ st' = (bif if_icmp.holds cd x y then t else pc, L, S', σ) := by
 unfold qicmp at h
 split at h
 ·cases h; exact ⟨_, _, _, rfl, rfl⟩
 ·cases h
theorem qget_inv {pc : Nat} {L : QLoc} {S : List Value} {σ : QHeap} {k : Nat} {st' : QSt} (h : qget pc L S σ k = some st') : ∃ a S' vs v, S = .ref a :: S' ∧ hget σ a = some (.inl vs) ∧ vget vs k = some v ∧ st' = (pc, L, v :: S', σ) := by
 unfold qget at h
 split at h
 ·split at h
  ·split at h
   ·cases h; exact ⟨_, _, _, _, rfl, by assumption, by assumption, rfl⟩
   ·cases h
  ·cases h
 ·cases h
theorem qput_inv {pc : Nat} {L : QLoc} {S : List Value} {σ : QHeap} {k : Nat} {st' : QSt} (h : qput pc L S σ k = some st') : ∃ v a S' vs w, S = v :: .ref a :: S' ∧ hget σ a = some (.inl vs) ∧ k0 ≤ a ∧ k < vs.length ∧ qfit (fTy k) v = some w ∧ st' = (pc, L, S', σ.set a (.inl (vs.set k w))) := by
 unfold qput at h
 split at h
 ·rename_i v a S'
  split at h
  ·rename_i vs hvs
   cases hbb : (Nat.ble k0 a && Nat.ble (k + 1) vs.length) with
   | false => rw [hbb] at h; cases h
   | true =>
    rw [hbb] at h
    simp only [cond_true] at h
    obtain ⟨u, hu, h⟩ := Option.bind_eq_some_iff.mp h
    cases h
    obtain ⟨b1, b2⟩ := Bool.and_eq_true_iff.mp hbb
    exact ⟨v, a, S', vs, u, rfl, hvs, Nat.le_of_ble_eq_true b1, Nat.le_of_ble_eq_true b2, hu, rfl⟩
  ·cases h
 ·cases h
theorem qald_inv {pc : Nat} {L : QLoc} {S : List Value} {σ : QHeap} {ok : FieldType → Bool} {st' : QSt} (h : qald pc L S σ ok = some st') : ∃ j a S' ty xs v, S = .int j :: .ref a :: S' ∧ hget σ a = some (.inr (.inl (ty, xs))) ∧ ok ty = true ∧ aget xs j = some v ∧ st' = (pc, L, .int v :: S', σ) := by
 unfold qald at h
 split at h
 ·rename_i j a S'
  split at h
  ·rename_i x hx
   cases ht : ok x.1 with
   | false => rw [ht] at h; cases h
   | true =>
    rw [ht] at h
    simp only [cond_true] at h
    obtain ⟨u, hu, h⟩ := Option.bind_eq_some_iff.mp h
    cases h
    exact ⟨j, a, S', x.1, x.2, u, rfl, hx, ht, hu, rfl⟩
  ·cases h
 ·cases h
theorem qaldJ_inv {pc : Nat} {L : QLoc} {S : List Value} {σ : QHeap} {st' : QSt} (h : qaldJ pc L S σ = some st') : ∃ j a S' xs v, S = .int j :: .ref a :: S' ∧ hget σ a = some (.inr (.inr xs)) ∧ aget xs j = some v ∧ st' = (pc, L, .long v :: S', σ) := by
 unfold qaldJ at h
 split at h
 ·rename_i j a S'
  split at h
  ·rename_i x hx
   obtain ⟨u, hu, h⟩ := Option.bind_eq_some_iff.mp h
   cases h
   exact ⟨j, a, S', x, u, rfl, hx, hu, rfl⟩
  ·cases h
 ·cases h
theorem qast_inv {pc : Nat} {L : QLoc} {S : List Value} {σ : QHeap} {ok : FieldType → Bool} {st' : QSt} (h : qast pc L S σ ok = some st') : ∃ v j a S' ty xs ys, S = .int v :: .int j :: .ref a :: S' ∧ hget σ a = some (.inr (.inl (ty, xs))) ∧ ok ty = true ∧ k0 ≤ a ∧ aset xs j (qnar ty v) = some ys ∧ st' = (pc, L, S', σ.set a (.inr (.inl (ty, ys)))) := by
 unfold qast at h
 split at h
 ·rename_i v j a S'
  split at h
  ·rename_i x hx
   cases ht : (ok x.1 && Nat.ble k0 a) with
   | false => rw [ht] at h; cases h
   | true =>
    rw [ht] at h
    simp only [cond_true] at h
    obtain ⟨u, hu, h⟩ := Option.bind_eq_some_iff.mp h
    cases h
    obtain ⟨b1, b2⟩ := Bool.and_eq_true_iff.mp ht
    exact ⟨v, j, a, S', x.1, x.2, u, rfl, hx, b1, Nat.le_of_ble_eq_true b2, hu, rfl⟩
  ·cases h
 ·cases h
theorem qastJ_inv {pc : Nat} {L : QLoc} {S : List Value} {σ : QHeap} {st' : QSt} (h : qastJ pc L S σ = some st') : ∃ v j a S' xs ys, S = .long v :: .int j :: .ref a :: S' ∧ hget σ a = some (.inr (.inr xs)) ∧ k0 ≤ a ∧ aset xs j v = some ys ∧ st' = (pc, L, S', σ.set a (.inr (.inr ys))) := by
 unfold qastJ at h
 split at h
 ·rename_i v j a S'
  split at h
  ·rename_i x hx
   cases ht : (Nat.ble k0 a) with
   | false => rw [ht] at h; cases h
   | true =>
    rw [ht] at h
    simp only [cond_true] at h
    obtain ⟨u, hu, h⟩ := Option.bind_eq_some_iff.mp h
    cases h
    exact ⟨v, j, a, S', x, u, rfl, hx, Nat.le_of_ble_eq_true ht, hu, rfl⟩
  ·cases h
 ·cases h
theorem qlen_inv {pc : Nat} {L : QLoc} {S : List Value} {σ : QHeap} {st' : QSt} (h : qlen pc L S σ = some st') : ∃ a S' n, S = .ref a :: S' ∧ ((∃ ty xs, hget σ a = some (.inr (.inl (ty, xs))) ∧ n = xs.length) ∨ ∃ xs, hget σ a = some (.inr (.inr xs)) ∧ n = xs.length) ∧ st' = (pc, L, .int n.toInt32 :: S', σ) := by
 unfold qlen at h
 split at h
 ·rename_i a S'
  split at h
  ·rename_i x hx
   cases h; exact ⟨a, S', _, rfl, Or.inl ⟨x.1, x.2, hx, rfl⟩, rfl⟩
  ·rename_i x hx
   cases h; exact ⟨a, S', _, rfl, Or.inr ⟨x, hx, rfl⟩, rfl⟩
  ·cases h
 ·cases h
theorem isI_inv {v : Value} (h : isI v = true) : ∃ x, v = .int x := by cases v <;> simp [isI] at h; exact ⟨_, rfl⟩
theorem isJ_inv {v : Value} (h : isJ v = true) : ∃ x, v = .long x := by cases v <;> simp [isJ] at h; exact ⟨_, rfl⟩
theorem isR_inv {v : Value} (h : isR v = true) : ∃ x, v = .ref x := by cases v <;> simp [isR] at h; exact ⟨_, rfl⟩
theorem aget_inv {α : Type} {xs : List α} {j : Int32} {x : α} (h : aget xs j = some x) : ¬ j < 0 ∧ xs[j.toNatClampNeg]? = some x := by
 unfold aget at h
 split at h
 ·cases h
 ·rename_i q; exact ⟨q, h⟩
theorem aset_inv {α : Type} {xs ys : List α} {j : Int32} {x : α} (h : aset xs j x = some ys) : ¬ j < 0 ∧ j.toNatClampNeg < xs.length ∧ ys = xs.set j.toNatClampNeg x := by
 unfold aset at h
 split at h
 ·cases h
 ·rename_i q
  split at h
  ·rename_i q2; cases h; exact ⟨q, q2, rfl⟩
  ·cases h
theorem qnew_inv {n : Int32} {k : Nat} (h : qnew n = some k) : ¬ n < 0 ∧ n.toNatClampNeg = k ∧ k ≤ 67108864 := by
 unfold qnew at h
 split at h
 ·cases h
 ·rename_i q
  split at h
  ·rename_i q2; cases h; exact ⟨q, rfl, q2⟩
  ·cases h
theorem QCellOk.other {h h' : Heap} {a b : Addr} {sl : Nat} {w : Value} {c : QCell} (H : QCellOk Z ad h b c) (W : Wr h h' a sl w) (ne : b ≠ a) : QCellOk Z ad h' b c := by
 rcases c with vs | ⟨ty, xs⟩ | xs
 ·obtain ⟨h1, h2, h3⟩ := H
  exact ⟨h1.wr W, h2, fun k u hk hu => (h3 k u hk hu).other W (Or.inl ne)⟩
 ·obtain ⟨c, h1, h2⟩ := H
  exact ⟨c, h1.other W ne, h2⟩
 ·obtain ⟨c, h1, h2⟩ := H
  exact ⟨c, h1.other W ne, h2⟩
theorem QCellOk.ext {h h' : Heap} {b : Addr} {c : QCell} (H : QCellOk Z ad h b c) (E : Ext h h') : QCellOk Z ad h' b c := by
 rcases c with vs | ⟨ty, xs⟩ | xs
 ·obtain ⟨h1, h2, h3⟩ := H
  exact ⟨h1.ext E, h2, fun k u hk hu => (h3 k u hk hu).ext E⟩
 ·obtain ⟨c, h1, h2⟩ := H
  exact ⟨c, h1.ext E, h2⟩
 ·obtain ⟨c, h1, h2⟩ := H
  exact ⟨c, h1.ext E, h2⟩
theorem QRep.set {h h' : Heap} {σ : QHeap} {a : Nat} {sl : Nat} {w : Value} {c d : QCell} (H : QRep Z n0 ad h σ) (Ad : QAd n0 ad) (W : Wr h h' (ad a) sl w) (hc : hget σ a = some c) (hd : QCellOk Z ad h' (ad a) d) : QRep Z n0 ad h' (σ.set a d) := by
 obtain ⟨h1, h2, h3⟩ := H
 refine ⟨by simpa using h1, by rw [W.size, h2]; simp, fun k e he => ?_⟩
 rw [hget_set hc] at he
 split at he
 ·rename_i q; cases he; rw [q]; exact hd
 ·rename_i q; exact (h3 k e he).other W fun z => q (Ad.2 _ _ z)
theorem QRep.push {h h' : Heap} {σ : QHeap} {c : QCell} (H : QRep Z n0 ad h σ) (Ad : QAd n0 ad) (E : Ext h h') (hs : h'.size = h.size + 1) (hc : QCellOk Z ad h' h.size c) : QRep Z n0 ad h' (σ ++ [c]) := by
 obtain ⟨h1, h2, h3⟩ := H
 refine ⟨by simp; omega, by rw [hs, h2]; simp; omega, fun k e he => ?_⟩
 rw [hget_eq] at he
 rcases Nat.lt_or_ge k σ.length with q | q
 ·rw [List.getElem?_append_left q, ← hget_eq] at he
  exact (h3 k e he).ext E
 ·rw [List.getElem?_append_right q] at he
  obtain rfl : k = σ.length := by
   rcases Nat.lt_or_ge (k - σ.length) 1 with z | z
   ·omega
   ·rw [List.getElem?_eq_none (by simpa using z)] at he; cases he
  simp at he
  rw [← he, Ad.1 _ h1, ← h2]
  exact hc
theorem mem_of_contains {α : Type} [BEq α] [LawfulBEq α] {L : List α} {a : α} (h : L.contains a = true) : a ∈ L := by simpa using h
theorem lkF_lt : ∀ t ∈ lkF, t.2.2 < nF := by decide +kernel
theorem laid_of (W : QW Z a0) {k : Nat} (hk : k < nF) : Laid Z a0 cName cName (fNm k) (fDs k) := by
 have q := (qw_lay W) k hk
 cases hf : fFin k with
 | true => rw [hf] at q; exact Or.inr q
 | false => rw [hf] at q; exact Or.inl q
theorem qfit_inv {ty : FieldType} {v w : Value} (h : qfit ty v = some w) : v = w ∧ narrow ty (qv ad w) = qv ad w ∧ fits ty (qv ad w) = true := by
 unfold qfit at h
 split at h
 ·cases h; exact ⟨rfl, rfl, rfl⟩
 ·rename_i x
  obtain ⟨y, hy, h⟩ := Option.bind_eq_some_iff.mp h
  cases h
  unfold qboo at hy
  split at hy
  ·rename_i e; cases hy; subst e; exact ⟨rfl, rfl, rfl⟩
  ·split at hy
   ·rename_i e; cases hy; subst e; exact ⟨rfl, rfl, rfl⟩
   ·cases hy
 ·cases h; exact ⟨rfl, rfl, rfl⟩
 ·cases h; exact ⟨rfl, rfl, rfl⟩
 ·cases h
theorem vget_set {vs : List Value} {k j : Nat} {w : Value} (hk : k < vs.length) : vget (vs.set k w) j = if j = k then some w else vget vs j := by
 simp only [vget_eq, List.getElem?_set]
 by_cases e : k = j
 ·subst e; simp [hk]
 ·simp [e, Ne.symm e]
theorem ald_in {α : Type} {f : α → Value} {xs : List α} {c : Cell} {j : Int32} {x : α} (hc : c.slots = (xs.map f).toArray) (h : aget xs j = some x) : ¬ (j < 0 ∨ c.slots.size ≤ j.toNatClampNeg) ∧ c.slots[j.toNatClampNeg]? = some (f x) := by
 obtain ⟨h1, h2⟩ := aget_inv h
 have h3 := (List.getElem?_eq_some_iff.mp h2).1
 refine ⟨fun q => ?_, by rw [hc]; simp [h2]⟩
 rcases q with q | q
 ·exact h1 q
 ·rw [hc] at q; simp at q; omega
theorem ast_in {α : Type} {f : α → Value} {xs ys : List α} {c : Cell} {j : Int32} {x : α} (hc : c.slots = (xs.map f).toArray) (h : aset xs j x = some ys) : ¬ (j < 0 ∨ c.slots.size ≤ j.toNatClampNeg) ∧ (c.setSlot j.toNatClampNeg (f x)).slots = (ys.map f).toArray := by
 obtain ⟨h1, h2, rfl⟩ := aset_inv h
 refine ⟨fun q => ?_, by simp [Cell.setSlot, hc, List.map_set]⟩
 rcases q with q | q
 ·exact h1 q
 ·rw [hc] at q; simp at q; omega
theorem qgrow {σ : QHeap} {c : QCell} : qhs (σ ++ [c]) - qhs σ = qsz c := by rw [qhs_app]; simp [qhs]
set_option maxHeartbeats 4000000 in
theorem QTri.newArr (Ad : QAd n0 ad) (W : QW Z a0) {pc aux : Nat} {L : QLoc} {S : List Value} {σ : QHeap} {aty : ArrayType} {n : Int32} {k : Nat} {c : QCell} (hk : qnew n = some k) (hc : pCode m pc = some (.newarray aty, aux)) (hz : qsz c = k)
  (hq : ∀ (h' : Heap) (a : Addr) (cA : ClassId), Arr Z h' a (newA cA (newarray.typeOf aty) n) (newarray.typeOf aty) → QCellOk Z ad h' a c)
  (h : QTri l Z n0 ad m (pc + 2, L, .ref σ.length :: S, σ ++ [c]) v σ') : QTri l Z n0 ad m (pc, L, .int n :: S, σ) v σ' := by
 have hd : decode (pBytes m) pc = .ok (.newarray aty, 2) := pDecN hc rfl
 obtain ⟨n1, n2, n3⟩ := qnew_inv hk
 refine QTri.gen h (by simp) (by simp [qhs_app]) fun p e R s mid args below meth c' T locs cells slots C hcx X hR hF hL hC hn hc1 hsl => ?_
 obtain ⟨hx, hZ, hby, hml, hret, hown, hnm, hfr, hlo⟩ := hcx
 have hd2 : decode c'.code pc = .ok (.newarray aty, 2) := by rw [hby]; exact hd
 simp only [List.length_append, List.length_singleton, Nat.add_sub_cancel_left, qgrow, hz] at hc1 hsl ⊢
 obtain ⟨T₁, h₁, cA, X₁, e₁, E₁, A₁, st⟩ := newP X hx hZ (aty := aty) (qw_arr W (newarray.typeOf aty) (mem_of_contains (show aTys.contains (newarray.typeOf aty) = true from pRest hc))) rfl (g := mkF mid pc C (.int n :: S.map (qv ad))) rfl hd2 rfl n1 (cap := k) (by omega) (by omega) hc1 hsl
 have hsz : h₁.size = T.heap.size + 1 := by
  have q1 := X₁.heapSize
  have q2 : T.heap.size < h₁.size := A₁.lt
  have q3 := hR.2.1
  rw [e₁] at q1
  have : n0 + (σ.length - k0) = s.heap.size + cells := hn
  have q3' : T.heap.size = n0 + (σ.length - k0) := q3
  omega
 refine ⟨T₁, locs, C, X₁, ?_, hF, hL, hC, fun target q => ?_⟩
 ·rw [e₁]; exact QRep.push hR Ad E₁ hsz (hq _ _ _ A₁)
 ·refine st _ ?_
  have e2 : ad σ.length = T.heap.size := by rw [Ad.1 _ hR.1]; exact hR.2.1.symm
  simp only [List.map_cons, qv, e2] at q
  exact q
set_option maxHeartbeats 4000000 in
theorem QTri.getfield (W : QW Z a0) {pc idx aux : Nat} {L : QLoc} {S : List Value} {σ : QHeap} {st' : QSt} (h : QTri l Z n0 ad m st' v σ') (hc : pCode m pc = some (.getfield idx, aux)) (hs : qget (pc + 3) L S σ aux = some st') : QTri l Z n0 ad m (pc, L, S, σ) v σ' := by
 have hd : decode (pBytes m) pc = .ok (.getfield idx, 3) := pDecN hc rfl
 obtain ⟨a, S', vs, w, rfl, hvs, hw, rfl⟩ := qget_inv hs
 have hm := mem_of_contains (show lkF.contains (pK m, idx, aux) = true from pRest hc)
 have hlt := lkF_lt _ hm
 refine QTri.pure h rfl fun p e R s mid args below meth c T locs cells slots C hcx X hR hL hC => ?_
 obtain ⟨hx, hZ, hby, hml, hret, hown, hnm, hfr, hlo⟩ := hcx
 have hd2 : decode c.code pc = .ok (.getfield idx, 3) := by rw [hby]; exact hd
 have F := (hR.2.2 _ _ hvs).2.2 aux w hlt hw
 obtain ⟨T₁, X₁, e₁, st⟩ := getF X hx hZ hown (host := "") (index := idx) (Or.inl (qw_fl W (pK m, idx, aux) hm)) Via.refl rfl F (g := mkF mid pc C (List.map (qv ad) (.ref a :: S'))) rfl rfl hd2
 exact ⟨T₁, C, X₁, e₁, hL, hC, st⟩
set_option maxHeartbeats 4000000 in
theorem QTri.putfield (Ad : QAd n0 ad) (W : QW Z a0) {pc idx aux : Nat} {L : QLoc} {S : List Value} {σ : QHeap} {st' : QSt} (h : QTri l Z n0 ad m st' v σ') (hc : pCode m pc = some (.putfield idx, aux)) (hs : qput (pc + 3) L S σ aux = some st') : QTri l Z n0 ad m (pc, L, S, σ) v σ' := by
 have hd : decode (pBytes m) pc = .ok (.putfield idx, 3) := pDecN hc rfl
 obtain ⟨w, a, S', vs, u, rfl, hvs, b1, b2, hu, rfl⟩ := qput_inv hs
 obtain ⟨r1, r2⟩ := Bool.and_eq_true_iff.mp (show (lkF.contains (pK m, idx, aux) && (!fFin aux || (pK m == 1 && pNm m == "<init>"))) = true from pRest hc)
 have hm := mem_of_contains r1
 have hlt := lkF_lt _ hm
 obtain ⟨rfl, q2, q3⟩ := qfit_inv (ad := ad) hu
 have hsz : qhs (σ.set a (Sum.inl (vs.set aux w))) = qhs σ := qhs_set hvs rfl
 refine QTri.gen h (by simp) (by show qhs σ ≤ qhs (σ.set a (Sum.inl (vs.set aux w))); rw [hsz]; exact Nat.le_refl _) fun p e R s mid args below meth c T locs cells slots C hcx X hR hF hL hC hn hc1 hsl => ?_
 obtain ⟨hx, hZ, hby, hml, hret, hown, hnm, hfr, hlo⟩ := hcx
 have hd2 : decode c.code pc = .ok (.putfield idx, 3) := by rw [hby]; exact hd
 obtain ⟨E, l1, Fs⟩ := hR.2.2 _ _ hvs
 obtain ⟨old, hold⟩ : ∃ old, vget vs aux = some old := by rw [vget_eq]; exact ⟨_, List.getElem?_eq_getElem b2⟩
 have lay : (Cond.lays cName cName (fNm aux) (fDs aux)).before a0 Z = true ∨ ((Cond.laysFinal cName cName (fNm aux) (fDs aux)).before a0 Z = true ∧ kName (pK m) = cName ∧ meth.name = "<init>") := by
  have q := (qw_lay W) aux hlt
  cases hf : fFin aux with
  | false => rw [hf] at q; exact Or.inl q
  | true =>
   rw [hf] at q r2
   simp at r2
   exact Or.inr ⟨q, by rw [r2.1]; exact kOne, by rw [hnm]; exact r2.2⟩
 obtain ⟨T₁, h₁, X₁, e₁, W₁, st⟩ := putF X hx hZ hown (host := "") (index := idx) (Or.inl (qw_fl W (pK m, idx, aux) hm)) Via.refl rfl (Fs aux old hlt hold) E lay ((qw_inst W)) (fPrs aux hlt) q2 q3 (g := mkF mid pc C (List.map (qv ad) (w :: .ref a :: S'))) rfl rfl hd2
 refine ⟨T₁, _, C, ?_, ?_, Fr.snoc X₁ hF (by rw [Ad.1 a b1]; exact Nat.le_add_right _ _), hL, hC, st⟩
 ·show Stand _ _ _ _ _ _ _ _ _ _ _ _ (cells + ((σ.set a (Sum.inl (vs.set aux w))).length - σ.length)) (slots + (qhs (σ.set a (Sum.inl (vs.set aux w))) - qhs σ))
  rw [hsz, Nat.sub_self, List.length_set, Nat.sub_self]
  exact X₁
 ·rw [e₁]
  refine QRep.set hR Ad W₁ hvs ⟨E.wr W₁, by simpa using l1, fun k u hk hu => ?_⟩
  rw [vget_set b2] at hu
  split at hu
  ·rename_i e; cases hu; rw [e]; exact (Fs aux old hlt hold).same W₁
  ·rename_i ne
   exact (Fs k u hk hu).other W₁ (Or.inr (slot_ne (laid_of W hk) (laid_of W hlt) (fun z => ne (fInj _ hk _ hlt z)) (fPrs _ hk) (fPrs _ hlt)))
theorem tyI_inv {ty : FieldType} (h : tyI ty = true) : ty = .int := by cases ty <;> simp [tyI] at h; rfl
theorem tyB_inv {ty : FieldType} (h : tyB ty = true) : ty = .boolean ∨ ty = .byte := by cases ty <;> simp [tyB] at h <;> simp
set_option maxHeartbeats 4000000 in
theorem QTri.iaload {pc aux : Nat} {L : QLoc} {S : List Value} {σ : QHeap} {st' : QSt} (h : QTri l Z n0 ad m st' v σ') (hc : pCode m pc = some (.iaload, aux)) (hs : qald (pc + 1) L S σ tyI = some st') : QTri l Z n0 ad m (pc, L, S, σ) v σ' := by
 have hd : decode (pBytes m) pc = .ok (.iaload, 1) := pDecN hc rfl
 obtain ⟨j, a, S', ty, xs, w, rfl, hx1, ht, hw, rfl⟩ := qald_inv hs
 obtain rfl := tyI_inv ht
 refine QTri.stack h fun p e R s mid args below meth c T locs cells slots C target hx hZ hby hown X hR hL k => ?_
 have hd2 : decode c.code pc = .ok (.iaload, 1) := by rw [hby]; exact hd
 obtain ⟨cl, A, hsl⟩ := hR.2.2 _ _ hx1
 obtain ⟨i1, i2⟩ := ald_in hsl hw
 exact X.iaload hx A.1 (State.isArrayOf_alike hZ.alike A.2.1) A.2.2 i1 i2 (g := mkF mid pc C (List.map (qv ad) (.int j :: .ref a :: S'))) rfl rfl hd2 _ k
set_option maxHeartbeats 4000000 in
theorem QTri.baload {pc aux : Nat} {L : QLoc} {S : List Value} {σ : QHeap} {st' : QSt} (h : QTri l Z n0 ad m st' v σ') (hc : pCode m pc = some (.baload, aux)) (hs : qald (pc + 1) L S σ tyB = some st') : QTri l Z n0 ad m (pc, L, S, σ) v σ' := by
 have hd : decode (pBytes m) pc = .ok (.baload, 1) := pDecN hc rfl
 obtain ⟨j, a, S', ty, xs, w, rfl, hx1, ht, hw, rfl⟩ := qald_inv hs
 refine QTri.stack h fun p e R s mid args below meth c T locs cells slots C target hx hZ hby hown X hR hL k => ?_
 have hd2 : decode c.code pc = .ok (.baload, 1) := by rw [hby]; exact hd
 obtain ⟨cl, A, hsl⟩ := hR.2.2 _ _ hx1
 obtain ⟨i1, i2⟩ := ald_in hsl hw
 rcases tyB_inv ht with rfl | rfl
 ·exact X.baloadBooleans hx A.1 (State.isArrayOf_alike hZ.alike A.2.1) A.2.2 i1 i2 (g := mkF mid pc C (List.map (qv ad) (.int j :: .ref a :: S'))) rfl rfl hd2 _ k
 ·exact X.baloadBytes hx A.1 (State.isArrayOf_alike hZ.alike A.2.1) A.2.2 i1 i2 (g := mkF mid pc C (List.map (qv ad) (.int j :: .ref a :: S'))) rfl rfl hd2 _ k
set_option maxHeartbeats 4000000 in
theorem QTri.laload {pc aux : Nat} {L : QLoc} {S : List Value} {σ : QHeap} {st' : QSt} (h : QTri l Z n0 ad m st' v σ') (hc : pCode m pc = some (.laload, aux)) (hs : qaldJ (pc + 1) L S σ = some st') : QTri l Z n0 ad m (pc, L, S, σ) v σ' := by
 have hd : decode (pBytes m) pc = .ok (.laload, 1) := pDecN hc rfl
 obtain ⟨j, a, S', xs, w, rfl, hx1, hw, rfl⟩ := qaldJ_inv hs
 refine QTri.stack h fun p e R s mid args below meth c T locs cells slots C target hx hZ hby hown X hR hL k => ?_
 have hd2 : decode c.code pc = .ok (.laload, 1) := by rw [hby]; exact hd
 obtain ⟨cl, A, hsl⟩ := hR.2.2 _ _ hx1
 obtain ⟨i1, i2⟩ := ald_in hsl hw
 exact X.laload hx A.1 (State.isArrayOf_alike hZ.alike A.2.1) A.2.2 i1 i2 (g := mkF mid pc C (List.map (qv ad) (.int j :: .ref a :: S'))) rfl rfl hd2 _ k
theorem QTri.stored (Ad : QAd n0 ad) {pc : Nat} {L : QLoc} {S S' : List Value} {σ : QHeap} {a j : Nat} {w : Value} {c d : QCell} (hx1 : hget σ a = some c) (b1 : k0 ≤ a) (hz : qsz d = qsz c) (h : QTri l Z n0 ad m (pc + 1, L, S', σ.set a d) v σ')
  (hs : ∀ (p : Program) (e : Env) (R : Room) (s : State) (mid : MethodId) (args : Array Value) (below : List Frame) (meth : Method) (c : Code) (T : State) (locs : List Loc) (cells slots : Nat) (C : Array Slot),
   QCx Z p R s mid meth c m → Stand p l e R s mid args below meth c T locs cells slots → QRep Z n0 ad T.heap σ →
   ∃ T' h', Stand p l e R s mid args below meth c T' (locs ++ [⟨ad a, j⟩]) cells slots ∧ T'.heap = h' ∧ Wr T.heap h' (ad a) j w ∧ QCellOk Z ad h' (ad a) d ∧ ∀ target, Steps p.tables e below (T'.setTop (mkF mid (pc + 1) C (S'.map (qv ad)))) target → Steps p.tables e below (T.setTop (mkF mid pc C (S.map (qv ad)))) target) :
  QTri l Z n0 ad m (pc, L, S, σ) v σ' := by
 have hsz : qhs (σ.set a d) = qhs σ := qhs_set hx1 hz
 refine QTri.gen h (by simp) (by show qhs σ ≤ qhs (σ.set a d); rw [hsz]; exact Nat.le_refl _) fun p e R s mid args below meth c T locs cells slots C hcx X hR hF hL hC hn hc1 hsl => ?_
 obtain ⟨T₁, h₁, X₁, e₁, W₁, Q₁, st⟩ := hs p e R s mid args below meth c T locs cells slots C hcx X hR
 refine ⟨T₁, _, C, ?_, ?_, Fr.snoc X₁ hF (by rw [Ad.1 a b1]; exact Nat.le_add_right _ _), hL, hC, st⟩
 ·show Stand _ _ _ _ _ _ _ _ _ _ _ _ (cells + ((σ.set a d).length - σ.length)) (slots + (qhs (σ.set a d) - qhs σ))
  rw [hsz, Nat.sub_self, List.length_set, Nat.sub_self]
  exact X₁
 ·rw [e₁]
  exact QRep.set hR Ad W₁ hx1 Q₁
set_option maxHeartbeats 4000000 in
theorem QTri.iastore (Ad : QAd n0 ad) {pc aux : Nat} {L : QLoc} {S : List Value} {σ : QHeap} {st' : QSt} (h : QTri l Z n0 ad m st' v σ') (hc : pCode m pc = some (.iastore, aux)) (hs : qast (pc + 1) L S σ tyI = some st') : QTri l Z n0 ad m (pc, L, S, σ) v σ' := by
 have hd : decode (pBytes m) pc = .ok (.iastore, 1) := pDecN hc rfl
 obtain ⟨w, j, a, S', ty, xs, ys, rfl, hx1, ht, b1, hw, rfl⟩ := qast_inv hs
 obtain rfl := tyI_inv ht
 refine QTri.stored Ad (j := j.toNatClampNeg) (w := .int w) hx1 b1 (by rw [(aset_inv hw).2.2]; simp [qsz]) h fun p e R s mid args below meth c T locs cells slots C hcx X hR => ?_
 have hd2 : decode c.code pc = .ok (.iastore, 1) := by rw [hcx.2.2.1]; exact hd
 obtain ⟨cl, A, hsl⟩ := hR.2.2 _ _ hx1
 obtain ⟨i1, i2⟩ := ast_in hsl hw
 obtain ⟨T₁, h₁, X₁, e₁, W₁, st⟩ := stI X hcx.1 hcx.2.1 rfl A i1 (g := mkF mid pc C (List.map (qv ad) (.int w :: .int j :: .ref a :: S'))) rfl rfl hd2
 exact ⟨T₁, h₁, X₁, e₁, W₁, ⟨_, A.same W₁, i2⟩, st⟩
set_option maxHeartbeats 4000000 in
theorem QTri.bastore (Ad : QAd n0 ad) {pc aux : Nat} {L : QLoc} {S : List Value} {σ : QHeap} {st' : QSt} (h : QTri l Z n0 ad m st' v σ') (hc : pCode m pc = some (.bastore, aux)) (hs : qast (pc + 1) L S σ tyB = some st') : QTri l Z n0 ad m (pc, L, S, σ) v σ' := by
 have hd : decode (pBytes m) pc = .ok (.bastore, 1) := pDecN hc rfl
 obtain ⟨w, j, a, S', ty, xs, ys, rfl, hx1, ht, b1, hw, rfl⟩ := qast_inv hs
 refine QTri.stored Ad (j := j.toNatClampNeg) (w := .int (qnar ty w)) hx1 b1 (by rw [(aset_inv hw).2.2]; simp [qsz]) h fun p e R s mid args below meth c T locs cells slots C hcx X hR => ?_
 have hd2 : decode c.code pc = .ok (.bastore, 1) := by rw [hcx.2.2.1]; exact hd
 obtain ⟨cl, A, hsl⟩ := hR.2.2 _ _ hx1
 obtain ⟨i1, i2⟩ := ast_in hsl hw
 rcases tyB_inv ht with rfl | rfl
 ·obtain ⟨T₁, h₁, X₁, e₁, W₁, st⟩ := stZ X hcx.1 hcx.2.1 rfl A i1 (g := mkF mid pc C (List.map (qv ad) (.int w :: .int j :: .ref a :: S'))) rfl rfl hd2
  exact ⟨T₁, h₁, X₁, e₁, W₁, ⟨_, A.same W₁, i2⟩, st⟩
 ·obtain ⟨T₁, h₁, X₁, e₁, W₁, st⟩ := stB X hcx.1 hcx.2.1 rfl A i1 (g := mkF mid pc C (List.map (qv ad) (.int w :: .int j :: .ref a :: S'))) rfl rfl hd2
  exact ⟨T₁, h₁, X₁, e₁, W₁, ⟨_, A.same W₁, i2⟩, st⟩
set_option maxHeartbeats 4000000 in
theorem QTri.lastore (Ad : QAd n0 ad) {pc aux : Nat} {L : QLoc} {S : List Value} {σ : QHeap} {st' : QSt} (h : QTri l Z n0 ad m st' v σ') (hc : pCode m pc = some (.lastore, aux)) (hs : qastJ (pc + 1) L S σ = some st') : QTri l Z n0 ad m (pc, L, S, σ) v σ' := by
 have hd : decode (pBytes m) pc = .ok (.lastore, 1) := pDecN hc rfl
 obtain ⟨w, j, a, S', xs, ys, rfl, hx1, b1, hw, rfl⟩ := qastJ_inv hs
 refine QTri.stored Ad (j := j.toNatClampNeg) (w := .long w) hx1 b1 (by rw [(aset_inv hw).2.2]; simp [qsz]) h fun p e R s mid args below meth c T locs cells slots C hcx X hR => ?_
 have hd2 : decode c.code pc = .ok (.lastore, 1) := by rw [hcx.2.2.1]; exact hd
 obtain ⟨cl, A, hsl⟩ := hR.2.2 _ _ hx1
 obtain ⟨i1, i2⟩ := ast_in hsl hw
 obtain ⟨T₁, h₁, X₁, e₁, W₁, st⟩ := stJ X hcx.1 hcx.2.1 rfl A i1 (g := mkF mid pc C (List.map (qv ad) (.long w :: .int j :: .ref a :: S'))) rfl rfl hd2
 exact ⟨T₁, h₁, X₁, e₁, W₁, ⟨_, A.same W₁, i2⟩, st⟩
set_option maxHeartbeats 4000000 in
theorem QTri.alen {pc aux : Nat} {L : QLoc} {S : List Value} {σ : QHeap} {st' : QSt} (h : QTri l Z n0 ad m st' v σ') (hc : pCode m pc = some (.arraylength, aux)) (hs : qlen (pc + 1) L S σ = some st') : QTri l Z n0 ad m (pc, L, S, σ) v σ' := by
 have hd : decode (pBytes m) pc = .ok (.arraylength, 1) := pDecN hc rfl
 obtain ⟨a, S', n, rfl, hx1, rfl⟩ := qlen_inv hs
 refine QTri.stack h fun p e R s mid args below meth c T locs cells slots C target hx hZ hby hown X hR hL k => ?_
 have hd2 : decode c.code pc = .ok (.arraylength, 1) := by rw [hby]; exact hd
 rcases hx1 with ⟨ty, xs, hx1, rfl⟩ | ⟨xs, hx1, rfl⟩
 ·obtain ⟨cl, A, hsl⟩ := hR.2.2 _ _ hx1
  have e1 : cl.slots.size = xs.length := by rw [hsl]; simp
  rw [← e1] at k
  exact X.arraylength hx A.1 (State.isArrayOf_alike hZ.alike A.2.1) (g := mkF mid pc C (List.map (qv ad) (.ref a :: S'))) rfl rfl hd2 _ k
 ·obtain ⟨cl, A, hsl⟩ := hR.2.2 _ _ hx1
  have e1 : cl.slots.size = xs.length := by rw [hsl]; simp
  rw [← e1] at k
  exact X.arraylength hx A.1 (State.isArrayOf_alike hZ.alike A.2.1) (g := mkF mid pc C (List.map (qv ad) (.ref a :: S'))) rfl rfl hd2 _ k
set_option maxHeartbeats 4000000 in
theorem QTri.newObj (Ad : QAd n0 ad) (W : QW Z a0) {pc idx aux : Nat} {L : QLoc} {S : List Value} {σ : QHeap} (h : QTri l Z n0 ad m (pc + 3, L, .ref σ.length :: S, σ ++ [.inl cDef]) v σ') (hc : pCode m pc = some (.new idx, aux)) : QTri l Z n0 ad m (pc, L, S, σ) v σ' := by
 have hd : decode (pBytes m) pc = .ok (.new idx, 3) := pDecN hc rfl
 have hm := mem_of_contains (show lkN.contains (pK m, idx) = true from pRest hc)
 refine QTri.gen h (by simp) (by simp [qhs_app]) fun p e R s mid args below meth c T locs cells slots C hcx X hR hF hL hC hn hc1 hsl => ?_
 obtain ⟨hx, hZ, hby, hml, hret, hown, hnm, hfr, hlo⟩ := hcx
 have hd2 : decode c.code pc = .ok (.new idx, 3) := by rw [hby]; exact hd
 simp only [List.length_append, List.length_singleton, Nat.add_sub_cancel_left, qgrow, qsz] at hc1 hsl ⊢
 obtain ⟨T₁, h₁, X₁, e₁, E₁, A₁, D₁, -, st⟩ := newO X hx hZ hown (index := idx) (qw_nw W (pK m, idx) hm) ((qw_inst W)) ((qw_init W)) rfl (g := mkF mid pc C (S.map (qv ad))) rfl hd2 hc1 hsl
 have hsz : h₁.size = T.heap.size + 1 := by
  have q1 := X₁.heapSize
  have q2 : T.heap.size < h₁.size := A₁.lt
  have q3 : T.heap.size = n0 + (σ.length - k0) := hR.2.1
  rw [e₁] at q1
  have : n0 + (σ.length - k0) = s.heap.size + cells := hn
  omega
 refine ⟨T₁, locs, C, X₁, ?_, hF, hL, hC, fun target q => ?_⟩
 ·rw [e₁]
  refine QRep.push hR Ad E₁ hsz ⟨A₁, cDefL, fun k u hk hu => ?_⟩
  rw [cDefs k hk] at hu
  cases hu
  have e3 : qv ad (defaultValue (fTy k)) = defaultValue (fTy k) := by
   cases hq : defaultValue (fTy k) with
   | ref a => exact absurd hq (fDef k hk a)
   | _ => rfl
  rw [e3]
  exact D₁ (laid_of W hk) (fPrs k hk)
 ·refine st _ ?_
  have e2 : ad σ.length = T.heap.size := by rw [Ad.1 _ hR.1]; exact hR.2.1.symm
  simp only [List.map_cons, qv, e2] at q
  exact q
set_option maxHeartbeats 8000000 in
theorem QTri.step (Ad : QAd n0 ad) (W : QW Z a0) {st st' : QSt} (h : QTri l Z n0 ad m st' v σ') (hs : qstep m st = some st') : QTri l Z n0 ad m st v σ' := by
 obtain ⟨pc, L, S, σ⟩ := st
 unfold qstep at hs
 dsimp only at hs
 split at hs
 rotate_left
 ·cases hs
 rename_i i aux hc
 have hd := pDecN hc rfl
 have hr := pRest hc
 unfold qexec at hs
 split at hs
 ·-- aload_n
  obtain ⟨w, h1, h2, rfl⟩ := qload_inv hs
  obtain ⟨a, rfl⟩ := isR_inv h2
  exact QTri.stack h fun p e R s mid args below meth c T locs cells slots C target hx hZ hby hown X hR hL k => XS.aloadN X.here hx rfl (hb hby hd) (hL.2.1 _ _ h1) rfl k
 ·obtain ⟨w, h1, h2, rfl⟩ := qload_inv hs
  obtain ⟨a, rfl⟩ := isR_inv h2
  exact QTri.stack h fun p e R s mid args below meth c T locs cells slots C target hx hZ hby hown X hR hL k => XS.aload X.here hx rfl (hb hby hd) (hL.2.1 _ _ h1) rfl k
 ·obtain ⟨w, h1, h2, rfl⟩ := qload_inv hs
  obtain ⟨a, rfl⟩ := isI_inv h2
  exact QTri.stack h fun p e R s mid args below meth c T locs cells slots C target hx hZ hby hown X hR hL k => XS.iloadN X.here hx rfl (hb hby hd) (hL.2.1 _ _ h1) k
 ·obtain ⟨w, h1, h2, rfl⟩ := qload_inv hs
  obtain ⟨a, rfl⟩ := isI_inv h2
  exact QTri.stack h fun p e R s mid args below meth c T locs cells slots C target hx hZ hby hown X hR hL k => XS.iload X.here hx rfl (hb hby hd) (hL.2.1 _ _ h1) k
 ·obtain ⟨w, h1, h2, rfl⟩ := qload_inv hs
  obtain ⟨a, rfl⟩ := isJ_inv h2
  exact QTri.stack h fun p e R s mid args below meth c T locs cells slots C target hx hZ hby hown X hR hL k => XT.lloadN X.here hx rfl (hb hby hd) (hL.2.1 _ _ h1) k
 ·obtain ⟨w, h1, h2, rfl⟩ := qload_inv hs
  obtain ⟨a, rfl⟩ := isJ_inv h2
  exact QTri.stack h fun p e R s mid args below meth c T locs cells slots C target hx hZ hby hown X hR hL k => XT.lload X.here hx rfl (hb hby hd) (hL.2.1 _ _ h1) k
 ·cases hs -- iconst
  exact QTri.stack h fun p e R s mid args below meth c T locs cells slots C target hx hZ hby hown X hR hL k => XS.iconst X.here hx rfl (hb hby hd) k
 ·cases hs
  exact QTri.stack h fun p e R s mid args below meth c T locs cells slots C target hx hZ hby hown X hR hL k => XS.bipush X.here hx rfl (hb hby hd) k
 ·cases hs
  exact QTri.stack h fun p e R s mid args below meth c T locs cells slots C target hx hZ hby hown X hR hL k => XS.sipush X.here hx rfl (hb hby hd) k
 ·cases hs
  exact QTri.stack h fun p e R s mid args below meth c T locs cells slots C target hx hZ hby hown X hR hL k => XT.lconst X.here hx rfl (hb hby hd) k
 ·-- ldc
  unfold qldc at hs
  split at hs
  ·rename_i w hw
   cases hs
   obtain ⟨x, hx1, hx2⟩ := qw_cI W (pK m, _, aux) (mem_of_contains (show lkC.contains (pK m, _, aux) = true from hr))
   rw [show vget cK aux = some w from hw] at hx1
   cases hx1
   exact QTri.stack h fun p e R s mid args below meth c T locs cells slots C target hx hZ hby hown X hR hL k => X.ldcI hx hown (mv hZ hx2) rfl (hb hby hd) k
  ·cases hs
 ·unfold qldc at hs
  split at hs
  ·rename_i w hw
   cases hs
   obtain ⟨x, hx1, hx2⟩ := qw_cJ W (pK m, _, aux) (mem_of_contains (show lkD.contains (pK m, _, aux) = true from hr))
   rw [show vget cK aux = some w from hw] at hx1
   cases hx1
   exact QTri.stack h fun p e R s mid args below meth c T locs cells slots C target hx hZ hby hown X hR hL k => X.ldc2J hx hown (mv hZ hx2) rfl (hb hby hd) k
  ·cases hs
 ·-- istore_n
  obtain ⟨w, S', L', rfl, h2, h3, rfl⟩ := qstore_inv hs
  obtain ⟨a, rfl⟩ := isI_inv h2
  exact QTri.frame h fun p e R s mid args below meth c T locs cells slots C hcx X hR hL hC => by
   obtain ⟨D, d1, d2, d3⟩ := store_ok hL h3
   exact ⟨D, d2, d3.trans hC, fun target k => XS.istoreN X.here hcx.1 rfl (hb hcx.2.2.1 hd) rfl d1 k⟩
 ·obtain ⟨w, S', L', rfl, h2, h3, rfl⟩ := qstore_inv hs
  obtain ⟨a, rfl⟩ := isI_inv h2
  exact QTri.frame h fun p e R s mid args below meth c T locs cells slots C hcx X hR hL hC => by
   obtain ⟨D, d1, d2, d3⟩ := store_ok hL h3
   exact ⟨D, d2, d3.trans hC, fun target k => XS.istore X.here hcx.1 rfl (hb hcx.2.2.1 hd) rfl d1 k⟩
 ·obtain ⟨w, S', L', rfl, h2, h3, rfl⟩ := qstore_inv hs
  obtain ⟨a, rfl⟩ := isJ_inv h2
  exact QTri.frame h fun p e R s mid args below meth c T locs cells slots C hcx X hR hL hC => by
   obtain ⟨D, d1, d2, d3⟩ := store_ok hL h3
   exact ⟨D, d2, d3.trans hC, fun target k => XT.lstoreN X.here hcx.1 rfl (hb hcx.2.2.1 hd) rfl d1 k⟩
 ·obtain ⟨w, S', L', rfl, h2, h3, rfl⟩ := qstore_inv hs
  obtain ⟨a, rfl⟩ := isJ_inv h2
  exact QTri.frame h fun p e R s mid args below meth c T locs cells slots C hcx X hR hL hC => by
   obtain ⟨D, d1, d2, d3⟩ := store_ok hL h3
   exact ⟨D, d2, d3.trans hC, fun target k => XT.lstore X.here hcx.1 rfl (hb hcx.2.2.1 hd) rfl d1 k⟩
 ·obtain ⟨w, S', L', rfl, h2, h3, rfl⟩ := qstore_inv hs
  obtain ⟨a, rfl⟩ := isR_inv h2
  exact QTri.frame h fun p e R s mid args below meth c T locs cells slots C hcx X hR hL hC => by
   obtain ⟨D, d1, d2, d3⟩ := store_ok hL h3
   exact ⟨D, d2, d3.trans hC, fun target k => XS.astoreN X.here hcx.1 rfl (hb hcx.2.2.1 hd) rfl rfl d1 k⟩
 ·obtain ⟨w, S', L', rfl, h2, h3, rfl⟩ := qstore_inv hs
  obtain ⟨a, rfl⟩ := isR_inv h2
  exact QTri.frame h fun p e R s mid args below meth c T locs cells slots C hcx X hR hL hC => by
   obtain ⟨D, d1, d2, d3⟩ := store_ok hL h3
   exact ⟨D, d2, d3.trans hC, fun target k => XS.astore X.here hcx.1 rfl (hb hcx.2.2.1 hd) rfl rfl d1 k⟩
 ·-- iinc
  unfold qinc at hs
  split at hs
  ·rename_i x hx1
   split at hs
   ·rename_i L' hL'
    cases hs
    exact QTri.frame h fun p e R s mid args below meth c T locs cells slots C hcx X hR hL hC => by
     obtain ⟨D, d1, d2, d3⟩ := store_ok hL hL'
     exact ⟨D, d2, d3.trans hC, fun target k => XS.iinc X.here hcx.1 rfl (hb hcx.2.2.1 hd) (hL.2.1 _ _ hx1) d1 k⟩
   ·cases hs
  ·cases hs
 ·obtain ⟨x, y, S', rfl, rfl⟩ := qbin_inv hs -- iadd
  exact QTri.stack h fun p e R s mid args below meth c T locs cells slots C target hx hZ hby hown X hR hL k => XS.iadd X.here hx rfl (hb hby hd) rfl k
 ·obtain ⟨x, y, S', rfl, rfl⟩ := qbin_inv hs
  exact QTri.stack h fun p e R s mid args below meth c T locs cells slots C target hx hZ hby hown X hR hL k => XS.isub X.here hx rfl (hb hby hd) rfl k
 ·obtain ⟨x, y, S', rfl, rfl⟩ := qbin_inv hs
  exact QTri.stack h fun p e R s mid args below meth c T locs cells slots C target hx hZ hby hown X hR hL k => XS.imul X.here hx rfl (hb hby hd) rfl k
 ·obtain ⟨x, y, S', rfl, rfl⟩ := qbin_inv hs
  exact QTri.stack h fun p e R s mid args below meth c T locs cells slots C target hx hZ hby hown X hR hL k => XS.iand X.here hx rfl (hb hby hd) rfl k
 ·obtain ⟨x, y, S', rfl, rfl⟩ := qbin_inv hs
  exact QTri.stack h fun p e R s mid args below meth c T locs cells slots C target hx hZ hby hown X hR hL k => XT.ior X.here hx rfl (hb hby hd) rfl k
 ·obtain ⟨x, y, S', rfl, rfl⟩ := qbin_inv hs
  exact QTri.stack h fun p e R s mid args below meth c T locs cells slots C target hx hZ hby hown X hR hL k => XT.ixor X.here hx rfl (hb hby hd) rfl k
 ·obtain ⟨x, y, S', rfl, rfl⟩ := qbin_inv hs
  exact QTri.stack h fun p e R s mid args below meth c T locs cells slots C target hx hZ hby hown X hR hL k => XT.ishl X.here hx rfl (hb hby hd) rfl k
 ·obtain ⟨x, y, S', rfl, rfl⟩ := qbin_inv hs
  exact QTri.stack h fun p e R s mid args below meth c T locs cells slots C target hx hZ hby hown X hR hL k => XT.ishr X.here hx rfl (hb hby hd) rfl k
 ·obtain ⟨x, y, S', rfl, rfl⟩ := qbin_inv hs
  exact QTri.stack h fun p e R s mid args below meth c T locs cells slots C target hx hZ hby hown X hR hL k => XT.iushr X.here hx rfl (hb hby hd) rfl k
 ·obtain ⟨x, y, z, S', rfl, hz, rfl⟩ := qbino_inv hs -- idiv
  unfold qdiv at hz
  split at hz
  ·cases hz
  ·rename_i hy
   cases hz
   exact QTri.stack h fun p e R s mid args below meth c T locs cells slots C target hx hZ hby hown X hR hL k => XS.idiv X.here hx rfl (hb hby hd) rfl hy k
 ·obtain ⟨x, y, z, S', rfl, hz, rfl⟩ := qbino_inv hs
  unfold qrem at hz
  split at hz
  ·cases hz
  ·rename_i hy
   cases hz
   exact QTri.stack h fun p e R s mid args below meth c T locs cells slots C target hx hZ hby hown X hR hL k => iremM X hx rfl (hb hby hd) rfl hy k
 ·obtain ⟨x, S', rfl, rfl⟩ := quni_inv hs -- ineg
  exact QTri.stack h fun p e R s mid args below meth c T locs cells slots C target hx hZ hby hown X hR hL k => XS.ineg X.here hx rfl (hb hby hd) rfl k
 ·obtain ⟨x, S', rfl, rfl⟩ := quni_inv hs
  exact QTri.stack h fun p e R s mid args below meth c T locs cells slots C target hx hZ hby hown X hR hL k => XT.i2l X.here hx rfl (hb hby hd) rfl k
 ·obtain ⟨x, S', rfl, rfl⟩ := quni_inv hs
  exact QTri.stack h fun p e R s mid args below meth c T locs cells slots C target hx hZ hby hown X hR hL k => XT.i2b X.here hx rfl (hb hby hd) rfl k
 ·obtain ⟨x, S', rfl, rfl⟩ := quniJ_inv hs
  exact QTri.stack h fun p e R s mid args below meth c T locs cells slots C target hx hZ hby hown X hR hL k => XT.l2i X.here hx rfl (hb hby hd) rfl k
 ·obtain ⟨x, S', rfl, rfl⟩ := quniJ_inv hs
  exact QTri.stack h fun p e R s mid args below meth c T locs cells slots C target hx hZ hby hown X hR hL k => XT.lneg X.here hx rfl (hb hby hd) rfl k
 ·obtain ⟨x, y, S', rfl, rfl⟩ := qbinJ_inv hs
  exact QTri.stack h fun p e R s mid args below meth c T locs cells slots C target hx hZ hby hown X hR hL k => XT.ladd X.here hx rfl (hb hby hd) rfl k
 ·obtain ⟨x, y, S', rfl, rfl⟩ := qbinJ_inv hs
  exact QTri.stack h fun p e R s mid args below meth c T locs cells slots C target hx hZ hby hown X hR hL k => XT.lsub X.here hx rfl (hb hby hd) rfl k
 ·obtain ⟨x, y, S', rfl, rfl⟩ := qbinJ_inv hs
  exact QTri.stack h fun p e R s mid args below meth c T locs cells slots C target hx hZ hby hown X hR hL k => XT.lmul X.here hx rfl (hb hby hd) rfl k
 ·obtain ⟨x, y, S', rfl, rfl⟩ := qbinJ_inv hs
  exact QTri.stack h fun p e R s mid args below meth c T locs cells slots C target hx hZ hby hown X hR hL k => XT.land X.here hx rfl (hb hby hd) rfl k
 ·obtain ⟨x, y, S', rfl, rfl⟩ := qbinJ_inv hs
  exact QTri.stack h fun p e R s mid args below meth c T locs cells slots C target hx hZ hby hown X hR hL k => XT.lor X.here hx rfl (hb hby hd) rfl k
 ·obtain ⟨x, y, S', rfl, rfl⟩ := qbinJ_inv hs
  exact QTri.stack h fun p e R s mid args below meth c T locs cells slots C target hx hZ hby hown X hR hL k => XT.lxor X.here hx rfl (hb hby hd) rfl k
 ·obtain ⟨x, y, S', rfl, rfl⟩ := qshJ_inv hs
  exact QTri.stack h fun p e R s mid args below meth c T locs cells slots C target hx hZ hby hown X hR hL k => XT.lshl X.here hx rfl (hb hby hd) rfl k
 ·obtain ⟨x, y, S', rfl, rfl⟩ := qshJ_inv hs
  exact QTri.stack h fun p e R s mid args below meth c T locs cells slots C target hx hZ hby hown X hR hL k => XT.lshr X.here hx rfl (hb hby hd) rfl k
 ·obtain ⟨x, y, S', rfl, rfl⟩ := qshJ_inv hs
  exact QTri.stack h fun p e R s mid args below meth c T locs cells slots C target hx hZ hby hown X hR hL k => XT.lushr X.here hx rfl (hb hby hd) rfl k
 ·split at hs -- lcmp
  ·cases hs
   exact QTri.stack h fun p e R s mid args below meth c T locs cells slots C target hx hZ hby hown X hR hL k => XT.lcmp X.here hx rfl (hb hby hd) rfl k
  ·cases hs
 ·cases hs -- goto
  obtain ⟨t1, t2⟩ := qtgt_spec hr
  exact QTri.stack h fun p e R s mid args below meth c T locs cells slots C target hx hZ hby hown X hR hL k => XS.goto X.here hx rfl rfl (hb hby hd) t1 t2 k
 ·obtain ⟨x, S', rfl, rfl⟩ := qif_inv hs
  obtain ⟨t1, t2⟩ := qtgt_spec hr
  cases hh : ifCond.holds _ x with
  | true => rw [hh] at h; exact QTri.stack h fun p e R s mid args below meth c T locs cells slots C target hx hZ hby hown X hR hL k => XS.ifYes X.here hx rfl rfl (hb hby hd) rfl hh t1 t2 k
  | false => rw [hh] at h; exact QTri.stack h fun p e R s mid args below meth c T locs cells slots C target hx hZ hby hown X hR hL k => XS.ifNo X.here hx rfl (hb hby hd) rfl hh k
 ·obtain ⟨x, y, S', rfl, rfl⟩ := qicmp_inv hs
  obtain ⟨t1, t2⟩ := qtgt_spec hr
  cases hh : if_icmp.holds _ x y with
  | true => rw [hh] at h; exact QTri.stack h fun p e R s mid args below meth c T locs cells slots C target hx hZ hby hown X hR hL k => XS.icmpYes X.here hx rfl rfl (hb hby hd) rfl hh t1 t2 k
  | false => rw [hh] at h; exact QTri.stack h fun p e R s mid args below meth c T locs cells slots C target hx hZ hby hown X hR hL k => XS.icmpNo X.here hx rfl (hb hby hd) rfl hh k
 ·unfold qdup at hs
  split at hs
  ·cases hs
   exact QTri.stack h fun p e R s mid args below meth c T locs cells slots C target hx hZ hby hown X hR hL k => XS.dup X.here hx rfl (hb hby hd) rfl rfl k
  ·cases hs
   exact QTri.stack h fun p e R s mid args below meth c T locs cells slots C target hx hZ hby hown X hR hL k => XS.dup X.here hx rfl (hb hby hd) rfl rfl k
  ·cases hs
 ·unfold qdup2 at hs
  split at hs
  ·cases hs
   exact QTri.stack h fun p e R s mid args below meth c T locs cells slots C target hx hZ hby hown X hR hL k => XT.dup2 X.here hx rfl (hb hby hd) rfl rfl rfl k
  ·cases hs
   exact QTri.stack h fun p e R s mid args below meth c T locs cells slots C target hx hZ hby hown X hR hL k => XT.dup2 X.here hx rfl (hb hby hd) rfl rfl rfl k
  ·cases hs
   exact QTri.stack h fun p e R s mid args below meth c T locs cells slots C target hx hZ hby hown X hR hL k => XT.dup2L X.here hx rfl (hb hby hd) rfl k
  ·cases hs
 ·unfold qpop at hs
  split at hs
  ·cases hs
   exact QTri.stack h fun p e R s mid args below meth c T locs cells slots C target hx hZ hby hown X hR hL k => XT.pop X.here hx rfl (hb hby hd) rfl rfl k
  ·cases hs
   exact QTri.stack h fun p e R s mid args below meth c T locs cells slots C target hx hZ hby hown X hR hL k => XT.pop X.here hx rfl (hb hby hd) rfl rfl k
  ·cases hs
 ·exact QTri.getfield W h hc hs
 ·exact QTri.putfield Ad W h hc hs
 ·exact QTri.iaload h hc hs
 ·exact QTri.baload h hc hs
 ·exact QTri.laload h hc hs
 ·exact QTri.iastore Ad h hc hs
 ·exact QTri.bastore Ad h hc hs
 ·exact QTri.lastore Ad h hc hs
 ·exact QTri.alen h hc hs
 ·-- newarray
  unfold qnewA at hs
  split at hs
  ·split at hs
   ·obtain ⟨k, hk, hs⟩ := Option.bind_eq_some_iff.mp hs
    cases hs
    exact QTri.newArr (c := .inr (.inl (.int, List.replicate k 0))) Ad W hk hc (by simp [qsz]) (fun h' a cA A => ⟨_, A, by simp [newA, (qnew_inv hk).2.1]; exact Or.inr rfl⟩) h
   ·obtain ⟨k, hk, hs⟩ := Option.bind_eq_some_iff.mp hs
    cases hs
    exact QTri.newArr (c := .inr (.inl (.boolean, List.replicate k 0))) Ad W hk hc (by simp [qsz]) (fun h' a cA A => ⟨_, A, by simp [newA, (qnew_inv hk).2.1]; exact Or.inr rfl⟩) h
   ·obtain ⟨k, hk, hs⟩ := Option.bind_eq_some_iff.mp hs
    cases hs
    exact QTri.newArr (c := .inr (.inl (.byte, List.replicate k 0))) Ad W hk hc (by simp [qsz]) (fun h' a cA A => ⟨_, A, by simp [newA, (qnew_inv hk).2.1]; exact Or.inr rfl⟩) h
   ·obtain ⟨k, hk, hs⟩ := Option.bind_eq_some_iff.mp hs
    cases hs
    exact QTri.newArr (c := .inr (.inr (List.replicate k 0))) Ad W hk hc (by simp [qsz]) (fun h' a cA A => ⟨_, A, by simp [newA, (qnew_inv hk).2.1]; exact Or.inr rfl⟩) h
   ·cases hs
  ·cases hs
 ·cases hs; exact QTri.newObj Ad W h hc
 ·cases hs
theorem QTri.steps (Ad : QAd n0 ad) (W : QW Z a0) : ∀ (n : Nat) {st st' : QSt}, qsteps m n st = some st' → QTri l Z n0 ad m st' v σ' → QTri l Z n0 ad m st v σ'
 | 0, st, st', h, k => by cases h; exact k
 | n + 1, st, st', h, k => by
  simp only [qsteps] at h
  split at h
  ·rename_i st₁ h1
   exact QTri.step Ad W (QTri.steps Ad W n h k) h1
  ·cases h
def lmask : List Bool → QLoc → QLoc
 | b :: t, x :: u => (bif b then x else none) :: lmask t u
 | _, L => L.map fun _ => none
theorem lmask_len : ∀ (b : List Bool) (L : QLoc), (lmask b L).length = L.length
 | [], L => by simp [lmask]
 | _ :: _, [] => by simp [lmask]
 | _ :: t, _ :: u => by simp [lmask, lmask_len t u]
theorem lmask_get : ∀ (b : List Bool) (L : QLoc) (k : Nat) (v : Value), lget (lmask b L) k = some v → lget L k = some v
 | [], L, k, v, h => by
  simp only [lmask, lget_eq, List.getElem?_map] at h
  cases hq : L[k]? <;> simp [hq] at h
 | _ :: _, [], k, v, h => by simp [lmask, lget] at h
 | b :: t, x :: u, 0, v, h => by
  simp only [lmask, lget] at h ⊢
  cases b
  ·cases h
  ·exact h
 | b :: t, x :: u, k + 1, v, h => by
  simp only [lmask, lget] at h ⊢
  exact lmask_get t u k v h
theorem QTri.mask {pc : Nat} {L : QLoc} {S : List Value} {σ : QHeap} (b : List Bool) (h : QTri l Z n0 ad m (pc, lmask b L, S, σ) v σ') : QTri l Z n0 ad m (pc, L, S, σ) v σ' :=
 QTri.frame h fun p e R s mid args below meth c T locs cells slots C hcx X hR hL hC => ⟨C, ⟨by rw [lmask_len]; exact hL.1, fun k u hk => hL.2.1 k u (lmask_get b L k u hk), hL.2.2⟩, hC, fun target k => k⟩
theorem QTri.ret0 {pc aux : Nat} {L : QLoc} {σ : QHeap} (hc : pCode m pc = some (.return_, aux)) (hr : pRet m = none) : QTri l Z n0 ad m (pc, L, [], σ) none σ :=
 have hd : decode (pBytes m) pc = .ok (.return_, 1) := pDecN hc rfl
 ⟨Nat.le_refl _, Nat.le_refl _, fun p e R s mid args below meth c T locs cells slots C hcx X hR hF hL hC hn hc1 hsl => ⟨T, locs, by simpa using X, hR, hF, fun fs hf => X.returnOut hcx.1 (hcx.2.2.2.2.1.trans hr) (hb hcx.2.2.1 hd) hf⟩⟩
theorem QTri.retI {pc aux : Nat} {L : QLoc} {S : List Value} {σ : QHeap} {x : Int32} (hc : pCode m pc = some (.ireturn, aux)) (hr : pRet m = some .int) : QTri l Z n0 ad m (pc, L, .int x :: S, σ) (some (.int x)) σ :=
 have hd : decode (pBytes m) pc = .ok (.ireturn, 1) := pDecN hc rfl
 ⟨Nat.le_refl _, Nat.le_refl _, fun p e R s mid args below meth c T locs cells slots C hcx X hR hF hL hC hn hc1 hsl => ⟨T, locs, by simpa using X, hR, hF, fun fs hf => Jvm.RoadKit.retI X hcx.1 (hcx.2.2.2.2.1.trans hr) (hb hcx.2.2.1 hd) hf⟩⟩
theorem QTri.retZ {pc aux : Nat} {L : QLoc} {S : List Value} {σ : QHeap} {x : Int32} (hc : pCode m pc = some (.ireturn, aux)) (hr : pRet m = some .boolean) : QTri l Z n0 ad m (pc, L, .int x :: S, σ) (some (.int (x &&& 1))) σ :=
 have hd : decode (pBytes m) pc = .ok (.ireturn, 1) := pDecN hc rfl
 ⟨Nat.le_refl _, Nat.le_refl _, fun p e R s mid args below meth c T locs cells slots C hcx X hR hF hL hC hn hc1 hsl => ⟨T, locs, by simpa using X, hR, hF, fun fs hf => retN X hcx.1 (t := .boolean) (hcx.2.2.2.2.1.trans hr) (by simp) (hb hcx.2.2.1 hd) hf⟩⟩
theorem QTri.retJ {pc aux : Nat} {L : QLoc} {S : List Value} {σ : QHeap} {x : Int64} (hc : pCode m pc = some (.lreturn, aux)) (hr : pRet m = some .long) : QTri l Z n0 ad m (pc, L, .long x :: S, σ) (some (.long x)) σ :=
 have hd : decode (pBytes m) pc = .ok (.lreturn, 1) := pDecN hc rfl
 ⟨Nat.le_refl _, Nat.le_refl _, fun p e R s mid args below meth c T locs cells slots C hcx X hR hF hL hC hn hc1 hsl => ⟨T, locs, by simpa using X, hR, hF, fun fs hf => retOut X hcx.1 (t := .long) (hcx.2.2.2.2.1.trans hr) rfl (Or.inr (Or.inl ⟨rfl, rfl, _, rfl⟩)) (hb hcx.2.2.1 hd) hf⟩⟩
def LOk (ad : Nat → Addr) (L : QLoc) (C : List Slot) : Prop :=
 L.length = C.length ∧ (∀ k v, lget L k = some v → C[k]? = some (.val (qv ad v))) ∧ (∀ k w, C[k]? = some (.val w) → w.category = 2 → C[k + 1]? = some .second) ∧ ∀ k, C[k]? = some .second → ∃ j w, k = j + 1 ∧ C[j]? = some (.val w) ∧ w.category = 2
theorem LOk.base (ad : Nat → Addr) (n : Nat) : LOk ad (List.replicate n none) (List.replicate n .unset) := by
 refine ⟨by simp, fun k u h => ?_, fun k w h => ?_, fun k h => ?_⟩
 ·rw [lget_eq] at h
  rcases Nat.lt_or_ge k n with q | q
  ·simp [List.getElem?_replicate, q] at h
  ·simp [List.getElem?_eq_none, q] at h
 ·rcases Nat.lt_or_ge k n with q | q
  ·simp [List.getElem?_replicate, q] at h
  ·simp [List.getElem?_eq_none, q] at h
 ·rcases Nat.lt_or_ge k n with q | q
  ·simp [List.getElem?_replicate, q] at h
  ·simp [List.getElem?_eq_none, q] at h
theorem LOk.one {L : QLoc} {C : List Slot} (H : LOk ad L C) {u : Value} (hu : u.category = 1) : LOk ad (some u :: L) (.val (qv ad u) :: C) := by
 obtain ⟨h1, h2, h3, h4⟩ := H
 refine ⟨by simp [h1], fun k w h => ?_, fun k w h hw => ?_, fun k h => ?_⟩
 ·cases k with
  | zero => simp only [lget] at h; cases h; simp
  | succ k => simp only [lget] at h; simpa using h2 k w h
 ·cases k with
  | zero => simp at h; rw [← h, qv_cat, hu] at hw; cases hw
  | succ k => simpa using h3 k w (by simpa using h) hw
 ·cases k with
  | zero => simp at h
  | succ k =>
   obtain ⟨j, w, z1, z2, z3⟩ := h4 k (by simpa using h)
   exact ⟨j + 1, w, by omega, by simpa using z2, z3⟩
theorem LOk.two {L : QLoc} {C : List Slot} (H : LOk ad L C) {u : Value} (hu : u.category = 2) : LOk ad (some u :: none :: L) (.val (qv ad u) :: .second :: C) := by
 obtain ⟨h1, h2, h3, h4⟩ := H
 refine ⟨by simp [h1], fun k w h => ?_, fun k w h hw => ?_, fun k h => ?_⟩
 ·rcases k with _ | _ | k
  ·simp only [lget] at h; cases h; simp
  ·simp [lget] at h
  ·simp only [lget] at h; simpa using h2 k w h
 ·rcases k with _ | _ | k
  ·simp
  ·simp at h
  ·simpa using h3 k w (by simpa using h) hw
 ·rcases k with _ | _ | k
  ·simp at h
  ·exact ⟨0, qv ad u, rfl, by simp, by rw [qv_cat]; exact hu⟩
  ·obtain ⟨j, w, z1, z2, z3⟩ := h4 k (by simpa using h)
   exact ⟨j + 2, w, by omega, by simpa using z2, z3⟩
def slotsOf (u : Value) : List Slot := if u.category = 2 then [.val u, .second] else [.val u]
theorem fold_slots : ∀ (as : List Value) (acc : Array Slot), (as.foldl (fun acc v => if v.category = 2 then (acc.push (.val v)).push .second else acc.push (.val v)) acc).toList = acc.toList ++ as.flatMap slotsOf
 | [], acc => by simp
 | u :: t, acc => by
  rw [List.foldl_cons, fold_slots t]
  by_cases hc : u.category = 2 <;> simp [slotsOf, hc]
theorem slots_len : ∀ (as : List Value), (as.flatMap slotsOf).length = (as.map fun v => v.category).sum
 | [] => rfl
 | u :: t => by
  rw [List.flatMap_cons, List.length_append, slots_len t, List.map_cons, List.sum_cons]
  cases u <;> simp [slotsOf, Value.category]
theorem cats_qv (as : List Value) : ((as.map (qv ad)).map fun v => v.category).sum = (as.map fun v => v.category).sum := by
 rw [List.map_map]
 congr 1
 exact List.map_congr_left fun x _ => qv_cat ad x
theorem entry_list : ∀ (as : List Value) (n : Nat), LOk ad ((as.flatMap fun v => match v with | .long x => [some (.long x), none] | .double x => [some (.double x), none] | v => [some v]) ++ List.replicate n none) ((as.map (qv ad)).flatMap slotsOf ++ List.replicate n .unset)
 | [], n => by simpa using LOk.base ad n
 | u :: t, n => by
  have ih := entry_list t n
  cases u with
  | long x => exact LOk.two ih rfl
  | double x => exact LOk.two ih rfl
  | int x => exact LOk.one ih rfl
  | float x => exact LOk.one ih rfl
  | null => exact LOk.one ih rfl
  | ref x => exact LOk.one ih rfl
  | retAddr x => exact LOk.one ih rfl
theorem qentry_ok (as : List Value) (mx : Nat) (h : (as.map fun v => v.category).sum ≤ mx) : QLocOk ad (qentry as mx) (argsToLocals (as.map (qv ad)).toArray mx) ∧ (argsToLocals (as.map (qv ad)).toArray mx).size = mx := by
 have e : (argsToLocals (as.map (qv ad)).toArray mx).toList = (as.map (qv ad)).flatMap slotsOf ++ List.replicate (mx - (as.map fun v => v.category).sum) .unset := by
  unfold argsToLocals
  have q := fold_slots (as.map (qv ad)) #[]
  simp only [List.foldl_toArray', Array.toList_append, Array.toList_replicate]
  have q2 : ((as.map (qv ad)).foldl (fun (acc : Array Slot) (v : Value) => if v.category = 2 then (acc.push (.val v)).push .second else acc.push (.val v)) #[]).size = (as.map fun v => v.category).sum := by
   rw [← Array.length_toList, q]
   simp only [List.nil_append]
   rw [slots_len, cats_qv]
  rw [q, q2]
  simp
 have H := entry_list (ad := ad) as (mx - (as.map fun v => v.category).sum)
 rw [← e] at H
 obtain ⟨h1, h2, h3, h4⟩ := H
 have hs : (argsToLocals (as.map (qv ad)).toArray mx).size = mx := by
  rw [← Array.length_toList, e, List.length_append, slots_len, cats_qv, List.length_replicate]
  omega
 refine ⟨⟨h1.trans Array.length_toList, fun k u hk => ?_, fun k w hk hw => ?_, fun k hk => ?_⟩, hs⟩
 ·have := h2 k u hk; rwa [Array.getElem?_toList] at this
 ·have := h3 k w (by rw [Array.getElem?_toList]; exact hk) hw; rwa [Array.getElem?_toList] at this
 ·obtain ⟨j, w, z1, z2, z3⟩ := h4 k (by rw [Array.getElem?_toList]; exact hk)
  exact ⟨j, w, z1, by rwa [Array.getElem?_toList] at z2, z3⟩
set_option maxHeartbeats 4000000 in
theorem QTri.met {k : Nat} {as : List Value} {σ σ₁ : QHeap} {w : Option Value} {h0 : Heap} (hk : k < pN) (h : QTri l Z n0 ad k (0, qentry as (pMaxL k), [], σ) w σ₁) (hR : QRep Z n0 ad h0 σ) (hlen : (as.map fun v => v.category).sum ≤ pMaxL k) (hret : pRet k = none → w = none) (ws : List Jvm.Cond) {rm : Room}
  (r1 : pFr k ≤ rm.frames) (r2 : pLo k ≤ rm.locals) (r3 : σ₁.length - σ.length ≤ rm.cells) (r4 : qhs σ₁ - qhs σ ≤ rm.slots) :
  MetFree l (pName k) (head1 (Jvm.Cond.code (pName k) (pBytes k) (pMaxL k) (pRet k) :: ws) rm) (fun a U => a = (as.map (qv ad)).toArray ∧ Z.Warmed39 U.vm ∧ U.heap = h0) (fun _ _ _ _ _ => True)
   (fun _ U o U' => ∃ v L, o = .returned v ∧ (v = w.map (qv ad) ∧ QRep Z n0 ad U'.heap σ₁ ∧ Fr n0 L) ∧ FrameEnd U o U' L (σ₁.length - σ.length) (qhs σ₁ - qhs σ)) := by
 refine MetFree.of_bodySF (plainFor_of_name (kPlain _ (pKlt k hk))) hisR ?_
 intro p e s mid args below meth c s₁ Bd hml0 hP hK
 obtain ⟨rfl, hZ, hh⟩ := hP
 have e0 : s₁.heap = h0 := by rw [← hh, Bd.state]; rfl
 obtain ⟨hl1, hl2⟩ := qentry_ok (ad := ad) as (pMaxL k) hlen
 have hX : Stand p l e rm s mid (as.map (qv ad)).toArray below meth c s₁ [] 0 0 := Stand.of_body Bd
 obtain ⟨T', locs', X', R', F', S'⟩ := h.2.2 p e rm s mid _ below meth c s₁ [] 0 0 _ ⟨Bd.exec, hZ, Bd.bytes, hml0, Bd.returns, findClass_of_methodNamed Bd.named, (name_of_methodNamed Bd.named Bd.method).1, r1, r2⟩ hX (by rw [e0]; exact hR) (Fr.nil _) hl1 (hl2.trans hml0.symm) (by rw [hh, Nat.add_zero]; exact hR.2.1.symm) (by rw [Nat.zero_add]; exact r3) (by rw [Nat.zero_add]; exact r4)
 obtain ⟨fs, hr, hrun, hended, hW, hsame⟩ := X'.leave (v := w.map (qv ad)) (fun q => by rw [hret (Bd.returns.symm.trans q)]; rfl)
 refine ⟨_, _, S' fs hr, hrun, hended, _, _, rfl, ⟨rfl, R', F'⟩, ⟨_, rfl⟩, hW, ?_⟩
 simp only [Nat.zero_add] at hsame
 exact hsame
theorem QTri.room {k : Nat} {σ σ₁ : QHeap} {rest : List Value} {R : Room} (hroom : (Nat.ble (pFr k + 1) (pFr m) && Nat.ble ((rest.map fun v => v.category).sum + (pMaxL k + 11) + pLo k) (pLo m)) = true) (hfr : pFr m ≤ R.frames) (hlo : pLo m ≤ R.locals) :
  pFr k + 1 ≤ R.frames ∧ (rest.map fun v => v.category).sum + (pMaxL k + 11) + pLo k ≤ R.locals := by
 obtain ⟨q1, q2⟩ := Bool.and_eq_true_iff.mp hroom
 exact ⟨Nat.le_trans (Nat.le_of_ble_eq_true q1) hfr, Nat.le_trans (Nat.le_of_ble_eq_true q2) hlo⟩
theorem sig_len {k : Nat} (hk : k < pN) {as : List Value} (hna : as.length = pNA k) : ∀ sig, parseMethodDescriptor (pName k).desc = some sig → (as.map (qv ad)).length = sig.parameters.length := fun sig hs => by
 have q := pSig k hk
 rw [show parseMethodDescriptor (pDs k) = some sig from hs] at q
 simp at q
 simp [hna, q]
theorem ret_map (w : Option Value) (rest : List Value) : (w.toList ++ rest).map (qv ad) = (w.map (qv ad)).toList ++ rest.map (qv ad) := by cases w <;> simp
theorem QTri.after {as0 : List Value} {pc : Nat} {L : QLoc} {S rest : List Value} {σ σ₁ : QHeap} {w : Option Value} {k : Nat} (hcal : QTri l Z n0 ad k (0, qentry as0 (pMaxL k), [], σ) w σ₁) (h : QTri l Z n0 ad m (pc + 3, L, w.toList ++ rest, σ₁) v σ')
  (hs : ∀ (p : Program) (e : Env) (R : Room) (s : State) (mid : MethodId) (args : Array Value) (below : List Frame) (meth : Method) (c : Code) (T : State) (locs : List Loc) (cells slots : Nat) (C : Array Slot),
   QCx Z p R s mid meth c m → Stand p l e R s mid args below meth c T locs cells slots → QRep Z n0 ad T.heap σ → C.size = c.maxLocals → cells + (σ₁.length - σ.length) ≤ R.cells → slots + (qhs σ₁ - qhs σ) ≤ R.slots →
   ∃ T₁ Lc, Stand p l e R s mid args below meth c T₁ (locs ++ Lc) (cells + (σ₁.length - σ.length)) (slots + (qhs σ₁ - qhs σ)) ∧ QRep Z n0 ad T₁.heap σ₁ ∧ Fr n0 Lc ∧
    ∀ target, Steps p.tables e below (T₁.setTop (mkF mid (pc + 3) C ((w.map (qv ad)).toList ++ rest.map (qv ad)))) target → Steps p.tables e below (T.setTop (mkF mid pc C (S.map (qv ad)))) target) :
  QTri l Z n0 ad m (pc, L, S, σ) v σ' := by
 refine QTri.gen h hcal.1 hcal.2.1 fun p e R s mid args below meth c T locs cells slots C hcx X hR hF hL hC hn hc1 hsl => ?_
 obtain ⟨T₁, Lc, X₁, R₁, F₁, st⟩ := hs p e R s mid args below meth c T locs cells slots C hcx X hR hC hc1 hsl
 refine ⟨T₁, locs ++ Lc, C, X₁, R₁, hF.app F₁, hL, hC, fun target q => st target ?_⟩
 rw [← ret_map]
 exact q
set_option maxHeartbeats 4000000 in
theorem QTri.callV (W : QW Z a0) {pc idx k a : Nat} {L : QLoc} {S as rest vs : List Value} {σ σ₁ : QHeap} {w : Option Value} (hc : pCode m pc = some (.invokevirtual idx, k)) (hm : (lkV.contains (pK m, idx, k) && mV.contains k) = true) (hcell : hget σ a = some (.inl vs)) (hS : S = as.reverse ++ .ref a :: rest)
  (hna : as.length = pNA k) (hlen : Nat.ble (((Value.ref a :: as).map fun v => v.category).sum) (pMaxL k) = true) (hroom : (Nat.ble (pFr k + 1) (pFr m) && Nat.ble ((rest.map fun v => v.category).sum + (pMaxL k + 11) + pLo k) (pLo m)) = true) (hrb : (w.isNone || (pRet k).isSome) = true)
  (hcal : QTri l Z n0 ad k (0, qentry (.ref a :: as) (pMaxL k), [], σ) w σ₁) (h : QTri l Z n0 ad m (pc + 3, L, w.toList ++ rest, σ₁) v σ') : QTri l Z n0 ad m (pc, L, S, σ) v σ' := by
 have hd : decode (pBytes m) pc = .ok (.invokevirtual idx, 3) := pDecN hc rfl
 subst hS
 obtain ⟨m1, m2⟩ := Bool.and_eq_true_iff.mp hm
 have m1 := mem_of_contains m1
 have m2 := mem_of_contains m2
 have hkA := (mVlt k m2).1
 have hkN := mAlt k hkA
 have hret : pRet k = none → w = none := fun q => by
  rw [q] at hrb
  cases w with
  | none => rfl
  | some w => simp at hrb
 refine QTri.after hcal h fun p e R s mid args below meth c T locs cells slots C hcx X hR hC hc1 hsl => ?_
 obtain ⟨hx, hZ, hby, hml, hret', hown, hnm, hfr, hlo⟩ := hcx
 have hd2 : decode c.code pc = .ok (.invokevirtual idx, 3) := by rw [hby]; exact hd
 obtain ⟨f1, f2⟩ := QTri.room (σ := σ) (σ₁ := σ₁) hroom hfr hlo
 obtain ⟨cq, kq, q1, q2, q3⟩ := isOf hZ rfl (hR.2.2 _ _ hcell).1
 obtain ⟨w1, w2, w3⟩ := (qw_vi W) k m2
 obtain ⟨c1, c2⟩ := (qw_cod W) k hkA
 obtain ⟨_, _, ⟨T₁, L₁, k₁, n₁⟩, -, X₁, ⟨Lc, ⟨rfl, hR1, hF1⟩, l₁, y₁, z₁⟩, st⟩ := X.virtualBack hx (own := kName (pK m)) (index := idx) (y := pName k) (z := pName k) hown (mvT hZ (qw_ml W (pK m, idx, k) m1)) (mvT hZ w1) (notFace_of_selects (args := #[]) (mvT hZ w2)) (mvT hZ w2) (mvT hZ w3) (pOwn _ (pKlt k hkN))
  (backOf (W := (rest.map fun v => v.category).sum) (rm := ⟨pFr k, σ₁.length - σ.length, qhs σ₁ - qhs σ, pLo k⟩) (Q := fun v h L => v = Option.map (qv ad) w ∧ QRep Z n0 ad h σ₁ ∧ Fr n0 L) (QTri.met hkN hcal hR (Nat.le_of_ble_eq_true hlen) hret [] (Nat.le_refl _) (Nat.le_refl _) (Nat.le_refl _) (Nat.le_refl _)) hZ c1 c2 f1 f2) q1 q3 (g := mkF mid pc C (List.map (qv ad) (as.reverse ++ .ref a :: rest))) rfl hC (Steps.refl _) (argsL := as.map (qv ad)) (rest := rest.map (qv ad)) (sig_len hkN hna) (by simp [qv]) (by show 2 * 0 + _ ≤ _; rw [cats_qv]; omega) hd2 (fun _ _ => ⟨rfl, rfl, hc1, hsl⟩)
 dsimp only [Pt.U, Pt.locs, Pt.cells, Pt.slots] at X₁ l₁ y₁ z₁ st hR1
 subst l₁ y₁ z₁
 exact ⟨T₁, Lc, X₁, hR1, hF1, fun target q => st.trans q⟩
set_option maxHeartbeats 4000000 in
theorem QTri.callI (W : QW Z a0) {pc idx k a : Nat} {L : QLoc} {S as rest : List Value} {σ σ₁ : QHeap} (hc : pCode m pc = some (.invokespecial idx, k)) (hm : (lkV.contains (pK m, idx, k) && mI.contains k) = true) (hS : S = as.reverse ++ .ref a :: rest)
  (hna : as.length = pNA k) (hlen : Nat.ble (((Value.ref a :: as).map fun v => v.category).sum) (pMaxL k) = true) (hroom : (Nat.ble (pFr k + 1) (pFr m) && Nat.ble ((rest.map fun v => v.category).sum + (pMaxL k + 11) + pLo k) (pLo m)) = true)
  (hcal : QTri l Z n0 ad k (0, qentry (.ref a :: as) (pMaxL k), [], σ) none σ₁) (h : QTri l Z n0 ad m (pc + 3, L, rest, σ₁) v σ') : QTri l Z n0 ad m (pc, L, S, σ) v σ' := by
 have hd : decode (pBytes m) pc = .ok (.invokespecial idx, 3) := pDecN hc rfl
 subst hS
 obtain ⟨m1, m2⟩ := Bool.and_eq_true_iff.mp hm
 have m1 := mem_of_contains m1
 have m2 := mem_of_contains m2
 obtain ⟨hkA, -, hin, hrt⟩ := mIlt k m2
 have hkN := mAlt k hkA
 refine QTri.after (w := none) hcal h fun p e R s mid args below meth c T locs cells slots C hcx X hR hC hc1 hsl => ?_
 obtain ⟨hx, hZ, hby, hml, hret', hown, hnm, hfr, hlo⟩ := hcx
 have hd2 : decode c.code pc = .ok (.invokespecial idx, 3) := by rw [hby]; exact hd
 obtain ⟨f1, f2⟩ := QTri.room (σ := σ) (σ₁ := σ₁) hroom hfr hlo
 obtain ⟨c1, c2⟩ := (qw_cod W) k hkA
 have c1' := c1
 rw [hrt] at c1'
 obtain ⟨_, _, ⟨T₁, L₁, k₁, n₁⟩, -, X₁, ⟨Lc, ⟨rfl, hR1, hF1⟩, l₁, y₁, z₁⟩, st⟩ := X.specialBack hx (own := kName (pK m)) (index := idx) (y := pName k) hin hown (mvT hZ (qw_ml W (pK m, idx, k) m1)) (mvT hZ ((qw_ini W) k m2)) (mvT hZ c1') (pOwn _ (pKlt k hkN))
  (backOf (W := (rest.map fun v => v.category).sum) (rm := ⟨pFr k, σ₁.length - σ.length, qhs σ₁ - qhs σ, pLo k⟩) (Q := fun v h L => v = Option.map (qv ad) none ∧ QRep Z n0 ad h σ₁ ∧ Fr n0 L) (QTri.met hkN hcal hR (Nat.le_of_ble_eq_true hlen) (fun _ => rfl) [] (Nat.le_refl _) (Nat.le_refl _) (Nat.le_refl _) (Nat.le_refl _)) hZ c1 c2 f1 f2) (g := mkF mid pc C (List.map (qv ad) (as.reverse ++ .ref a :: rest))) rfl hC (Steps.refl _) (a := ad a) (argsL := as.map (qv ad)) (rest := rest.map (qv ad)) (sig_len hkN hna) (by simp [qv]) (by show 2 * 0 + _ ≤ _; rw [cats_qv]; omega) hd2 (fun _ _ => ⟨rfl, rfl, hc1, hsl⟩)
 dsimp only [Pt.U, Pt.locs, Pt.cells, Pt.slots] at X₁ l₁ y₁ z₁ st hR1
 subst l₁ y₁ z₁
 exact ⟨T₁, Lc, X₁, hR1, hF1, fun target q => st.trans q⟩
set_option maxHeartbeats 4000000 in
theorem QTri.callP (W : QW Z a0) {pc idx k a : Nat} {L : QLoc} {S as rest vs : List Value} {σ σ₁ : QHeap} {w : Option Value} (hc : pCode m pc = some (.invokevirtual idx, k)) (hm : (lkV.contains (pK m, idx, k) && mP.contains k) = true) (hcell : hget σ a = some (.inl vs)) (hS : S = as.reverse ++ .ref a :: rest)
  (hna : as.length = pNA k) (hlen : Nat.ble (((Value.ref a :: as).map fun v => v.category).sum) (pMaxL k) = true) (hroom : (Nat.ble (pFr k + 1) (pFr m) && Nat.ble ((rest.map fun v => v.category).sum + (pMaxL k + 11) + pLo k) (pLo m)) = true) (hrb : (w.isNone || (pRet k).isSome) = true)
  (hcal : QTri l Z n0 ad k (0, qentry (.ref a :: as) (pMaxL k), [], σ) w σ₁) (h : QTri l Z n0 ad m (pc + 3, L, w.toList ++ rest, σ₁) v σ') : QTri l Z n0 ad m (pc, L, S, σ) v σ' := by
 have hd : decode (pBytes m) pc = .ok (.invokevirtual idx, 3) := pDecN hc rfl
 subst hS
 obtain ⟨m1, m2⟩ := Bool.and_eq_true_iff.mp hm
 have m1 := mem_of_contains m1
 have m2 := mem_of_contains m2
 obtain ⟨hkA, hk1⟩ := mPlt k m2
 have hkN := mAlt k hkA
 have hret : pRet k = none → w = none := fun q => by
  rw [q] at hrb
  cases w with
  | none => rfl
  | some w => simp at hrb
 refine QTri.after hcal h fun p e R s mid args below meth c T locs cells slots C hcx X hR hC hc1 hsl => ?_
 obtain ⟨hx, hZ, hby, hml, hret', hown, hnm, hfr, hlo⟩ := hcx
 have hd2 : decode c.code pc = .ok (.invokevirtual idx, 3) := by rw [hby]; exact hd
 obtain ⟨f1, f2⟩ := QTri.room (σ := σ) (σ₁ := σ₁) hroom hfr hlo
 obtain ⟨cell, h1, h2⟩ := (hR.2.2 _ _ hcell).1.cell
 obtain ⟨w1, w2⟩ := (qw_pr W) k m2
 obtain ⟨c1, c2⟩ := (qw_cod W) k hkA
 have hpr : s.PrivateAt (pName k) := Cond.privateMethod_at (mvP hZ w2 (args := #[]))
 obtain ⟨cC, kC, i1, i2, i3, i4⟩ := Cond.instantiable_spec (args := #[]) (mvT hZ (qw_inst W))
 have hsel : (Cond.selects (pName k).cls (pName k) (pName k)).before args s = true := selects_self_of_private (c := cC) (k := kC) (by show s.vm.findClass (kName (pK k)) = _; rw [hk1]; exact i1) i2 (by have q := i4.1; cases hq : kC.isInterface with | false => rfl | true => rw [hq] at q; simp at q) hpr (mvT hZ w1) (pOwn _ (pKlt k hkN))
 obtain ⟨_, _, ⟨T₁, L₁, k₁, n₁⟩, -, X₁, ⟨Lc, ⟨rfl, hR1, hF1⟩, l₁, y₁, z₁⟩, st⟩ := X.privateBack hx (own := kName (pK m)) (index := idx) (y := pName k) hown (mvT hZ (qw_ml W (pK m, idx, k) m1)) (mvT hZ w1) hsel hpr (mvT hZ c1) (pOwn _ (pKlt k hkN))
  (backOf (W := (rest.map fun v => v.category).sum) (rm := ⟨pFr k, σ₁.length - σ.length, qhs σ₁ - qhs σ, pLo k⟩) (Q := fun v h L => v = Option.map (qv ad) w ∧ QRep Z n0 ad h σ₁ ∧ Fr n0 L) (QTri.met hkN hcal hR (Nat.le_of_ble_eq_true hlen) hret [] (Nat.le_refl _) (Nat.le_refl _) (Nat.le_refl _) (Nat.le_refl _)) hZ c1 c2 f1 f2) (g := mkF mid pc C (List.map (qv ad) (as.reverse ++ .ref a :: rest))) rfl hC (Steps.refl _) (a := ad a) h1 h2 (argsL := as.map (qv ad)) (rest := rest.map (qv ad)) (sig_len hkN hna) (by simp [qv]) (by show 2 * 0 + _ ≤ _; rw [cats_qv]; omega) hd2 (fun _ _ => ⟨rfl, rfl, hc1, hsl⟩)
 dsimp only [Pt.U, Pt.locs, Pt.cells, Pt.slots] at X₁ l₁ y₁ z₁ st hR1
 subst l₁ y₁ z₁
 exact ⟨T₁, Lc, X₁, hR1, hF1, fun target q => st.trans q⟩
set_option maxHeartbeats 4000000 in
theorem QTri.callS (W : QW Z a0) {pc idx k : Nat} {L : QLoc} {S as rest : List Value} {σ σ₁ : QHeap} {w : Option Value} (hc : pCode m pc = some (.invokestatic idx, k)) (hm : (lkV.contains (pK m, idx, k) && mS.contains k) = true) (hS : S = as.reverse ++ rest)
  (hna : as.length = pNA k) (hlen : Nat.ble ((as.map fun v => v.category).sum) (pMaxL k) = true) (hroom : (Nat.ble (pFr k + 1) (pFr m) && Nat.ble ((rest.map fun v => v.category).sum + (pMaxL k + 11) + pLo k) (pLo m)) = true) (hrb : (w.isNone || (pRet k).isSome) = true)
  (hcal : QTri l Z n0 ad k (0, qentry as (pMaxL k), [], σ) w σ₁) (h : QTri l Z n0 ad m (pc + 3, L, w.toList ++ rest, σ₁) v σ') : QTri l Z n0 ad m (pc, L, S, σ) v σ' := by
 have hd : decode (pBytes m) pc = .ok (.invokestatic idx, 3) := pDecN hc rfl
 subst hS
 obtain ⟨m1, m2⟩ := Bool.and_eq_true_iff.mp hm
 have m1 := mem_of_contains m1
 have m2 := mem_of_contains m2
 have hkA := mSlt k m2
 have hkN := mAlt k hkA
 have hret : pRet k = none → w = none := fun q => by
  rw [q] at hrb
  cases w with
  | none => rfl
  | some w => simp at hrb
 refine QTri.after hcal h fun p e R s mid args below meth c T locs cells slots C hcx X hR hC hc1 hsl => ?_
 obtain ⟨hx, hZ, hby, hml, hret', hown, hnm, hfr, hlo⟩ := hcx
 have hd2 : decode c.code pc = .ok (.invokestatic idx, 3) := by rw [hby]; exact hd
 obtain ⟨f1, f2⟩ := QTri.room (σ := σ) (σ₁ := σ₁) hroom hfr hlo
 obtain ⟨c1, c2⟩ := (qw_cod W) k hkA
 obtain ⟨_, _, ⟨T₁, L₁, k₁, n₁⟩, -, X₁, ⟨Lc, ⟨rfl, hR1, hF1⟩, l₁, y₁, z₁⟩, st⟩ := Jvm.LawKit.callS X hx (own := kName (pK m)) (index := idx) (y := pName k) hown (mvT hZ (qw_ml W (pK m, idx, k) m1)) (mvT hZ ((qw_st W) k m2)) (mvT hZ c2) (mvT hZ c1) (pOwn _ (pKlt k hkN))
  (backOf (W := (rest.map fun v => v.category).sum) (rm := ⟨pFr k, σ₁.length - σ.length, qhs σ₁ - qhs σ, pLo k⟩) (Q := fun v h L => v = Option.map (qv ad) w ∧ QRep Z n0 ad h σ₁ ∧ Fr n0 L) (QTri.met hkN hcal hR (Nat.le_of_ble_eq_true hlen) hret [] (Nat.le_refl _) (Nat.le_refl _) (Nat.le_refl _) (Nat.le_refl _)) hZ c1 c2 f1 f2) (g := mkF mid pc C (List.map (qv ad) (as.reverse ++ rest))) rfl hC (argsL := as.map (qv ad)) (rest := rest.map (qv ad)) (sig_len hkN hna) (by simp) (by show 2 * 0 + _ ≤ _; rw [cats_qv]; omega) hd2 (fun _ _ => ⟨rfl, rfl, hc1, hsl⟩)
 dsimp only [Pt.U, Pt.locs, Pt.cells, Pt.slots] at X₁ l₁ y₁ z₁ st hR1
 subst l₁ y₁ z₁
 exact ⟨T₁, Lc, X₁, hR1, hF1, fun target q => st target q⟩
set_option maxHeartbeats 4000000 in
theorem QTri.callO (W : QW Z a0) {pc idx k a : Nat} {L : QLoc} {rest : List Value} {σ : QHeap} (hc : pCode m pc = some (.invokespecial idx, k)) (hm : lkO.contains (pK m, idx) = true) (hroom : (Nat.ble 1 (pFr m) && Nat.ble ((rest.map fun v => v.category).sum + 12) (pLo m)) = true)
  (h : QTri l Z n0 ad m (pc + 3, L, rest, σ) v σ') : QTri l Z n0 ad m (pc, L, .ref a :: rest, σ) v σ' :=
 have hd : decode (pBytes m) pc = .ok (.invokespecial idx, 3) := pDecN hc rfl
 QTri.pure h rfl fun p e R s mid args below meth c T locs cells slots C hcx X hR hL hC => by
  obtain ⟨hx, hZ, hby, hml, hret', hown, hnm, hfr, hlo⟩ := hcx
  have hd2 : decode c.code pc = .ok (.invokespecial idx, 3) := by rw [hby]; exact hd
  obtain ⟨q1, q2⟩ := Bool.and_eq_true_iff.mp hroom
  obtain ⟨T₁, X₁, e₁, st⟩ := initO X hx hZ hown (idx := idx) (qw_mo W (pK m, idx) (mem_of_contains hm)) ((qw_oi W)) ((qw_oc W)) rfl (g := mkF mid pc C (List.map (qv ad) (.ref a :: rest))) rfl hC rfl hd2 (Nat.le_trans (Nat.le_of_ble_eq_true q1) hfr) (W := (rest.map fun v => v.category).sum) (by show 2 * 0 + _ ≤ _; rw [cats_qv]; omega) (Nat.le_trans (Nat.le_of_ble_eq_true q2) hlo)
  exact ⟨T₁, C, X₁, e₁, hL, hC, st⟩
theorem QTri.brT (Ad : QAd n0 ad) (W : QW Z a0) {st : QSt} {t f : Nat} {L : QLoc} {S : List Value} {σ : QHeap} {b : Bool} (hs : qstep m st = some (bif b then t else f, L, S, σ)) (hb : b = true) (h : QTri l Z n0 ad m (t, L, S, σ) v σ') : QTri l Z n0 ad m st v σ' := by
 subst hb; exact QTri.step Ad W h hs
theorem QTri.brF (Ad : QAd n0 ad) (W : QW Z a0) {st : QSt} {t f : Nat} {L : QLoc} {S : List Value} {σ : QHeap} {b : Bool} (hs : qstep m st = some (bif b then t else f, L, S, σ)) (hb : b = false) (h : QTri l Z n0 ad m (f, L, S, σ) v σ') : QTri l Z n0 ad m st v σ' := by
 subst hb; exact QTri.step Ad W h hs
theorem QTri.bnd {α : Type} (Ad : QAd n0 ad) (W : QW Z a0) {st : QSt} {x : Option α} {f : α → QSt} {a : α} (hs : qstep m st = x.bind fun v => some (f v)) (hx : x = some a) (h : QTri l Z n0 ad m (f a) v σ') : QTri l Z n0 ad m st v σ' :=
 QTri.step Ad W h (by rw [hs, hx]; rfl)
theorem QTri.bndB (Ad : QAd n0 ad) (W : QW Z a0) {st : QSt} {x y : Int32} {g : Value → QSt} (hs : qstep m st = ((qboo x).bind fun y => some (Value.int y)).bind fun w => some (g w)) (hx : qboo x = some y) (h : QTri l Z n0 ad m (g (.int y)) v σ') : QTri l Z n0 ad m st v σ' :=
 QTri.step Ad W h (by rw [hs, hx]; rfl)
end Triples
theorem qite {α : Type} {c : Prop} [Decidable c] {a b : Option α} {r : α} (h : (if c then a else b) = some r) : (c ∧ a = some r) ∨ (¬ c ∧ b = some r) := by
 by_cases hc : c
 ·exact Or.inl ⟨hc, by rwa [if_pos hc] at h⟩
 ·exact Or.inr ⟨hc, by rwa [if_neg hc] at h⟩
def qN : Nat := 4000
def loopN {V E : Type} (B : V → Option (E ⊕ V)) : Nat → V → Option E
 | 0, _ => none
 | n + 1, v => match B v with
  | none => none
  | some (.inl e) => some e
  | some (.inr v') => loopN B n v'
theorem loopN_tri {V E : Type} {B : V → Option (E ⊕ V)} {T : V → Prop} {KE : E → Prop} (hB : ∀ v r, B v = some r → (∀ e, r = .inl e → KE e) → (∀ v', r = .inr v' → T v') → T v) : ∀ (n : Nat) (v : V) (e : E), loopN B n v = some e → KE e → T v
 | 0, _, _, h, _ => by cases h
 | n + 1, v, e, h, k => by
  simp only [loopN] at h
  split at h
  ·cases h
  ·rename_i e' he
   cases h
   exact hB v _ he (fun e q => by cases q; exact k) (fun v' q => by cases q)
  ·rename_i v' he
   exact hB v _ he (fun e q => by cases q) (fun v'' q => by cases q; exact loopN_tri hB n v' e h k)
theorem loopN_inv {V E : Type} {B : V → Option (E ⊕ V)} (I : V → Prop) (P : E → Prop) (μ : V → Nat) (hB : ∀ v, I v → (∃ e, B v = some (.inl e) ∧ P e) ∨ ∃ v', B v = some (.inr v') ∧ I v' ∧ μ v' < μ v) : ∀ (n : Nat) (v : V), I v → μ v < n → ∃ e, loopN B n v = some e ∧ P e
 | 0, _, _, h => absurd h (Nat.not_lt_zero _)
 | n + 1, v, hv, hm => by
  rcases hB v hv with ⟨e, h1, h2⟩ | ⟨v', h1, h2, h3⟩
  ·exact ⟨e, by simp only [loopN, h1], h2⟩
  ·obtain ⟨e, g1, g2⟩ := loopN_inv I P μ hB n v' h2 (by omega)
   exact ⟨e, by simp only [loopN, h1]; exact g1, g2⟩
theorem qfn {α : Type} {P : α → Prop} : ∀ t ∈ ([] : List α), P t := fun _ h => nomatch h
theorem qfc {α : Type} {P : α → Prop} {a : α} {t : List α} (h : P a) (ht : ∀ x ∈ t, P x) : ∀ x ∈ a :: t, P x := fun x hx => by rcases List.mem_cons.mp hx with rfl | q; exact h; exact ht x q
theorem QW_ok {Z : State} {a0 : Array Value} (hw : ∀ d ∈ tables_1, d.before a0 Z = true) : QW Z a0 := by
  have w0 : ∀ k ∈ List.range nF, bif fFin k then (Jvm.Cond.laysFinal cName cName (fNm k) (fDs k)).before a0 Z = true else (Jvm.Cond.lays cName cName (fNm k) (fDs k)).before a0 Z = true :=
    show ∀ k ∈ [0, 1, 2, 3, 4, 5, 6, 7, 8, 9, 10, 11, 12], bif fFin k then (Jvm.Cond.laysFinal cName cName (fNm k) (fDs k)).before a0 Z = true else (Jvm.Cond.lays cName cName (fNm k) (fDs k)).before a0 Z = true from
    (qfc (hw _ (List.mem_of_getElem? (i := 11) rfl)) (qfc (hw _ (List.mem_of_getElem? (i := 13) rfl)) (qfc (hw _ (List.mem_of_getElem? (i := 16) rfl)) (qfc (hw _ (List.mem_of_getElem? (i := 18) rfl)) (qfc (hw _ (List.mem_of_getElem? (i := 20) rfl)) (qfc (hw _ (List.mem_of_getElem? (i := 22) rfl)) (qfc (hw _ (List.mem_of_getElem? (i := 24) rfl)) (qfc (hw _ (List.mem_of_getElem? (i := 30) rfl)) (qfc (hw _ (List.mem_of_getElem? (i := 32) rfl)) (qfc (hw _ (List.mem_of_getElem? (i := 34) rfl)) (qfc (hw _ (List.mem_of_getElem? (i := 36) rfl)) (qfc (hw _ (List.mem_of_getElem? (i := 38) rfl)) (qfc (hw _ (List.mem_of_getElem? (i := 40) rfl)) qfn)))))))))))))
  refine ⟨?_, ?_, ?_, ?_, ?_, ?_, ?_, ?_, ?_, ?_, ?_, ?_, ?_, (fun k hk => w0 k (List.mem_range.mpr hk)), ?_, ?_, ?_⟩
  · exact (qfc (hw _ (List.mem_of_getElem? (i := 10) rfl)) (qfc (hw _ (List.mem_of_getElem? (i := 12) rfl)) (qfc (hw _ (List.mem_of_getElem? (i := 15) rfl)) (qfc (hw _ (List.mem_of_getElem? (i := 17) rfl)) (qfc (hw _ (List.mem_of_getElem? (i := 19) rfl)) (qfc (hw _ (List.mem_of_getElem? (i := 21) rfl)) (qfc (hw _ (List.mem_of_getElem? (i := 23) rfl)) (qfc (hw _ (List.mem_of_getElem? (i := 29) rfl)) (qfc (hw _ (List.mem_of_getElem? (i := 31) rfl)) (qfc (hw _ (List.mem_of_getElem? (i := 33) rfl)) (qfc (hw _ (List.mem_of_getElem? (i := 35) rfl)) (qfc (hw _ (List.mem_of_getElem? (i := 37) rfl)) (qfc (hw _ (List.mem_of_getElem? (i := 39) rfl)) qfn)))))))))))))
  · exact (qfc (hw _ (List.mem_of_getElem? (i := 0) rfl)) qfn)
  · exact qfn
  · exact qfn
  · exact (qfc (hw _ (List.mem_of_getElem? (i := 3) rfl)) (qfc (hw _ (List.mem_of_getElem? (i := 25) rfl)) (qfc (hw _ (List.mem_of_getElem? (i := 41) rfl)) (qfc (hw _ (List.mem_of_getElem? (i := 46) rfl)) (qfc (hw _ (List.mem_of_getElem? (i := 50) rfl)) (qfc (hw _ (List.mem_of_getElem? (i := 55) rfl)) (qfc (hw _ (List.mem_of_getElem? (i := 60) rfl)) (qfc (hw _ (List.mem_of_getElem? (i := 65) rfl)) (qfc (hw _ (List.mem_of_getElem? (i := 69) rfl)) (qfc (hw _ (List.mem_of_getElem? (i := 73) rfl)) (qfc (hw _ (List.mem_of_getElem? (i := 78) rfl)) (qfc (hw _ (List.mem_of_getElem? (i := 83) rfl)) (qfc (hw _ (List.mem_of_getElem? (i := 88) rfl)) (qfc (hw _ (List.mem_of_getElem? (i := 93) rfl)) (qfc (hw _ (List.mem_of_getElem? (i := 98) rfl)) (qfc (hw _ (List.mem_of_getElem? (i := 103) rfl)) (qfc (hw _ (List.mem_of_getElem? (i := 108) rfl)) (qfc (hw _ (List.mem_of_getElem? (i := 113) rfl)) (qfc (hw _ (List.mem_of_getElem? (i := 117) rfl)) (qfc (hw _ (List.mem_of_getElem? (i := 121) rfl)) (qfc (hw _ (List.mem_of_getElem? (i := 125) rfl)) (qfc (hw _ (List.mem_of_getElem? (i := 129) rfl)) (qfc (hw _ (List.mem_of_getElem? (i := 133) rfl)) (qfc (hw _ (List.mem_of_getElem? (i := 137) rfl)) (qfc (hw _ (List.mem_of_getElem? (i := 141) rfl)) (qfc (hw _ (List.mem_of_getElem? (i := 145) rfl)) (qfc (hw _ (List.mem_of_getElem? (i := 150) rfl)) (qfc (hw _ (List.mem_of_getElem? (i := 154) rfl)) (qfc (hw _ (List.mem_of_getElem? (i := 159) rfl)) (qfc (hw _ (List.mem_of_getElem? (i := 164) rfl)) qfn))))))))))))))))))))))))))))))
  · exact (qfc (hw _ (List.mem_of_getElem? (i := 6) rfl)) qfn)
  · exact (qfc ⟨(hw _ (List.mem_of_getElem? (i := 42) rfl)), (hw _ (List.mem_of_getElem? (i := 44) rfl)), (hw _ (List.mem_of_getElem? (i := 43) rfl))⟩ (qfc ⟨(hw _ (List.mem_of_getElem? (i := 51) rfl)), (hw _ (List.mem_of_getElem? (i := 53) rfl)), (hw _ (List.mem_of_getElem? (i := 52) rfl))⟩ (qfc ⟨(hw _ (List.mem_of_getElem? (i := 56) rfl)), (hw _ (List.mem_of_getElem? (i := 58) rfl)), (hw _ (List.mem_of_getElem? (i := 57) rfl))⟩ (qfc ⟨(hw _ (List.mem_of_getElem? (i := 61) rfl)), (hw _ (List.mem_of_getElem? (i := 63) rfl)), (hw _ (List.mem_of_getElem? (i := 62) rfl))⟩ (qfc ⟨(hw _ (List.mem_of_getElem? (i := 74) rfl)), (hw _ (List.mem_of_getElem? (i := 76) rfl)), (hw _ (List.mem_of_getElem? (i := 75) rfl))⟩ (qfc ⟨(hw _ (List.mem_of_getElem? (i := 79) rfl)), (hw _ (List.mem_of_getElem? (i := 81) rfl)), (hw _ (List.mem_of_getElem? (i := 80) rfl))⟩ (qfc ⟨(hw _ (List.mem_of_getElem? (i := 84) rfl)), (hw _ (List.mem_of_getElem? (i := 86) rfl)), (hw _ (List.mem_of_getElem? (i := 85) rfl))⟩ (qfc ⟨(hw _ (List.mem_of_getElem? (i := 89) rfl)), (hw _ (List.mem_of_getElem? (i := 91) rfl)), (hw _ (List.mem_of_getElem? (i := 90) rfl))⟩ (qfc ⟨(hw _ (List.mem_of_getElem? (i := 94) rfl)), (hw _ (List.mem_of_getElem? (i := 96) rfl)), (hw _ (List.mem_of_getElem? (i := 95) rfl))⟩ (qfc ⟨(hw _ (List.mem_of_getElem? (i := 99) rfl)), (hw _ (List.mem_of_getElem? (i := 101) rfl)), (hw _ (List.mem_of_getElem? (i := 100) rfl))⟩ (qfc ⟨(hw _ (List.mem_of_getElem? (i := 104) rfl)), (hw _ (List.mem_of_getElem? (i := 106) rfl)), (hw _ (List.mem_of_getElem? (i := 105) rfl))⟩ (qfc ⟨(hw _ (List.mem_of_getElem? (i := 109) rfl)), (hw _ (List.mem_of_getElem? (i := 111) rfl)), (hw _ (List.mem_of_getElem? (i := 110) rfl))⟩ (qfc ⟨(hw _ (List.mem_of_getElem? (i := 146) rfl)), (hw _ (List.mem_of_getElem? (i := 148) rfl)), (hw _ (List.mem_of_getElem? (i := 147) rfl))⟩ (qfc ⟨(hw _ (List.mem_of_getElem? (i := 155) rfl)), (hw _ (List.mem_of_getElem? (i := 157) rfl)), (hw _ (List.mem_of_getElem? (i := 156) rfl))⟩ (qfc ⟨(hw _ (List.mem_of_getElem? (i := 160) rfl)), (hw _ (List.mem_of_getElem? (i := 162) rfl)), (hw _ (List.mem_of_getElem? (i := 161) rfl))⟩ qfn)))))))))))))))
  · exact (qfc ⟨(hw _ (List.mem_of_getElem? (i := 26) rfl)), (hw _ (List.mem_of_getElem? (i := 27) rfl))⟩ (qfc ⟨(hw _ (List.mem_of_getElem? (i := 47) rfl)), (hw _ (List.mem_of_getElem? (i := 48) rfl))⟩ (qfc ⟨(hw _ (List.mem_of_getElem? (i := 66) rfl)), (hw _ (List.mem_of_getElem? (i := 67) rfl))⟩ (qfc ⟨(hw _ (List.mem_of_getElem? (i := 114) rfl)), (hw _ (List.mem_of_getElem? (i := 115) rfl))⟩ (qfc ⟨(hw _ (List.mem_of_getElem? (i := 118) rfl)), (hw _ (List.mem_of_getElem? (i := 119) rfl))⟩ (qfc ⟨(hw _ (List.mem_of_getElem? (i := 122) rfl)), (hw _ (List.mem_of_getElem? (i := 123) rfl))⟩ (qfc ⟨(hw _ (List.mem_of_getElem? (i := 126) rfl)), (hw _ (List.mem_of_getElem? (i := 127) rfl))⟩ (qfc ⟨(hw _ (List.mem_of_getElem? (i := 130) rfl)), (hw _ (List.mem_of_getElem? (i := 131) rfl))⟩ (qfc ⟨(hw _ (List.mem_of_getElem? (i := 134) rfl)), (hw _ (List.mem_of_getElem? (i := 135) rfl))⟩ (qfc ⟨(hw _ (List.mem_of_getElem? (i := 138) rfl)), (hw _ (List.mem_of_getElem? (i := 139) rfl))⟩ (qfc ⟨(hw _ (List.mem_of_getElem? (i := 142) rfl)), (hw _ (List.mem_of_getElem? (i := 143) rfl))⟩ (qfc ⟨(hw _ (List.mem_of_getElem? (i := 151) rfl)), (hw _ (List.mem_of_getElem? (i := 152) rfl))⟩ (qfc ⟨(hw _ (List.mem_of_getElem? (i := 165) rfl)), (hw _ (List.mem_of_getElem? (i := 166) rfl))⟩ qfn)))))))))))))
  · exact (qfc (hw _ (List.mem_of_getElem? (i := 70) rfl)) qfn)
  · exact (qfc (hw _ (List.mem_of_getElem? (i := 4) rfl)) qfn)
  · exact (qfc ⟨(hw _ (List.mem_of_getElem? (i := 5) rfl)), (hw _ (List.mem_of_getElem? (i := 2) rfl))⟩ (qfc ⟨(hw _ (List.mem_of_getElem? (i := 28) rfl)), (hw _ (List.mem_of_getElem? (i := 2) rfl))⟩ (qfc ⟨(hw _ (List.mem_of_getElem? (i := 45) rfl)), (hw _ (List.mem_of_getElem? (i := 2) rfl))⟩ (qfc ⟨(hw _ (List.mem_of_getElem? (i := 49) rfl)), (hw _ (List.mem_of_getElem? (i := 2) rfl))⟩ (qfc ⟨(hw _ (List.mem_of_getElem? (i := 54) rfl)), (hw _ (List.mem_of_getElem? (i := 2) rfl))⟩ (qfc ⟨(hw _ (List.mem_of_getElem? (i := 59) rfl)), (hw _ (List.mem_of_getElem? (i := 2) rfl))⟩ (qfc ⟨(hw _ (List.mem_of_getElem? (i := 64) rfl)), (hw _ (List.mem_of_getElem? (i := 2) rfl))⟩ (qfc ⟨(hw _ (List.mem_of_getElem? (i := 68) rfl)), (hw _ (List.mem_of_getElem? (i := 2) rfl))⟩ (qfc ⟨(hw _ (List.mem_of_getElem? (i := 72) rfl)), (hw _ (List.mem_of_getElem? (i := 71) rfl))⟩ (qfc ⟨(hw _ (List.mem_of_getElem? (i := 77) rfl)), (hw _ (List.mem_of_getElem? (i := 2) rfl))⟩ (qfc ⟨(hw _ (List.mem_of_getElem? (i := 82) rfl)), (hw _ (List.mem_of_getElem? (i := 2) rfl))⟩ (qfc ⟨(hw _ (List.mem_of_getElem? (i := 87) rfl)), (hw _ (List.mem_of_getElem? (i := 2) rfl))⟩ (qfc ⟨(hw _ (List.mem_of_getElem? (i := 92) rfl)), (hw _ (List.mem_of_getElem? (i := 2) rfl))⟩ (qfc ⟨(hw _ (List.mem_of_getElem? (i := 97) rfl)), (hw _ (List.mem_of_getElem? (i := 2) rfl))⟩ (qfc ⟨(hw _ (List.mem_of_getElem? (i := 102) rfl)), (hw _ (List.mem_of_getElem? (i := 2) rfl))⟩ (qfc ⟨(hw _ (List.mem_of_getElem? (i := 107) rfl)), (hw _ (List.mem_of_getElem? (i := 2) rfl))⟩ (qfc ⟨(hw _ (List.mem_of_getElem? (i := 112) rfl)), (hw _ (List.mem_of_getElem? (i := 2) rfl))⟩ (qfc ⟨(hw _ (List.mem_of_getElem? (i := 116) rfl)), (hw _ (List.mem_of_getElem? (i := 2) rfl))⟩ (qfc ⟨(hw _ (List.mem_of_getElem? (i := 120) rfl)), (hw _ (List.mem_of_getElem? (i := 2) rfl))⟩ (qfc ⟨(hw _ (List.mem_of_getElem? (i := 124) rfl)), (hw _ (List.mem_of_getElem? (i := 2) rfl))⟩ (qfc ⟨(hw _ (List.mem_of_getElem? (i := 128) rfl)), (hw _ (List.mem_of_getElem? (i := 2) rfl))⟩ (qfc ⟨(hw _ (List.mem_of_getElem? (i := 132) rfl)), (hw _ (List.mem_of_getElem? (i := 2) rfl))⟩ (qfc ⟨(hw _ (List.mem_of_getElem? (i := 136) rfl)), (hw _ (List.mem_of_getElem? (i := 2) rfl))⟩ (qfc ⟨(hw _ (List.mem_of_getElem? (i := 140) rfl)), (hw _ (List.mem_of_getElem? (i := 2) rfl))⟩ (qfc ⟨(hw _ (List.mem_of_getElem? (i := 144) rfl)), (hw _ (List.mem_of_getElem? (i := 2) rfl))⟩ (qfc ⟨(hw _ (List.mem_of_getElem? (i := 149) rfl)), (hw _ (List.mem_of_getElem? (i := 2) rfl))⟩ (qfc ⟨(hw _ (List.mem_of_getElem? (i := 153) rfl)), (hw _ (List.mem_of_getElem? (i := 2) rfl))⟩ (qfc ⟨(hw _ (List.mem_of_getElem? (i := 158) rfl)), (hw _ (List.mem_of_getElem? (i := 2) rfl))⟩ (qfc ⟨(hw _ (List.mem_of_getElem? (i := 163) rfl)), (hw _ (List.mem_of_getElem? (i := 2) rfl))⟩ (qfc ⟨(hw _ (List.mem_of_getElem? (i := 167) rfl)), (hw _ (List.mem_of_getElem? (i := 2) rfl))⟩ qfn))))))))))))))))))))))))))))))
  · exact (hw _ (List.mem_of_getElem? (i := 7) rfl))
  · exact (hw _ (List.mem_of_getElem? (i := 8) rfl))
  · exact (hw _ (List.mem_of_getElem? (i := 1) rfl))
  · exact (hw _ (List.mem_of_getElem? (i := 2) rfl))
  · exact (qfc (hw _ (List.mem_of_getElem? (i := 9) rfl)) (qfc (hw _ (List.mem_of_getElem? (i := 14) rfl)) qfn))
abbrev Ob := List Int32 × List Int32 × List Int32 × List Int32 × List Int32 × List Int32 × List Int32 × Int32 × Int32 × Int32 × Int32 × Int32 × Int32
def f_value (o : Ob) : List Int32 := o.1
def f_version (o : Ob) : List Int32 := o.2.1
def f_active (o : Ob) : List Int32 := o.2.2.1
def f_start (o : Ob) : List Int32 := o.2.2.2.1
def f_readSet (o : Ob) : List Int32 := o.2.2.2.2.1
def f_writeSet (o : Ob) : List Int32 := o.2.2.2.2.2.1
def f_buffered (o : Ob) : List Int32 := o.2.2.2.2.2.2.1
def f_keyCount (o : Ob) : Int32 := o.2.2.2.2.2.2.2.1
def f_slotCount (o : Ob) : Int32 := o.2.2.2.2.2.2.2.2.1
def f_window (o : Ob) : Int32 := o.2.2.2.2.2.2.2.2.2.1
def f_commitCount (o : Ob) : Int32 := o.2.2.2.2.2.2.2.2.2.2.1
def f_abortCount (o : Ob) : Int32 := o.2.2.2.2.2.2.2.2.2.2.2.1
def f_lastConflict (o : Ob) : Int32 := o.2.2.2.2.2.2.2.2.2.2.2.2
def s_value (o : Ob) (v : List Int32) : Ob := (v, o.2.1, o.2.2.1, o.2.2.2.1, o.2.2.2.2.1, o.2.2.2.2.2.1, o.2.2.2.2.2.2.1, o.2.2.2.2.2.2.2.1, o.2.2.2.2.2.2.2.2.1, o.2.2.2.2.2.2.2.2.2.1, o.2.2.2.2.2.2.2.2.2.2.1, o.2.2.2.2.2.2.2.2.2.2.2.1, o.2.2.2.2.2.2.2.2.2.2.2.2)
def s_version (o : Ob) (v : List Int32) : Ob := (o.1, v, o.2.2.1, o.2.2.2.1, o.2.2.2.2.1, o.2.2.2.2.2.1, o.2.2.2.2.2.2.1, o.2.2.2.2.2.2.2.1, o.2.2.2.2.2.2.2.2.1, o.2.2.2.2.2.2.2.2.2.1, o.2.2.2.2.2.2.2.2.2.2.1, o.2.2.2.2.2.2.2.2.2.2.2.1, o.2.2.2.2.2.2.2.2.2.2.2.2)
def s_active (o : Ob) (v : List Int32) : Ob := (o.1, o.2.1, v, o.2.2.2.1, o.2.2.2.2.1, o.2.2.2.2.2.1, o.2.2.2.2.2.2.1, o.2.2.2.2.2.2.2.1, o.2.2.2.2.2.2.2.2.1, o.2.2.2.2.2.2.2.2.2.1, o.2.2.2.2.2.2.2.2.2.2.1, o.2.2.2.2.2.2.2.2.2.2.2.1, o.2.2.2.2.2.2.2.2.2.2.2.2)
def s_start (o : Ob) (v : List Int32) : Ob := (o.1, o.2.1, o.2.2.1, v, o.2.2.2.2.1, o.2.2.2.2.2.1, o.2.2.2.2.2.2.1, o.2.2.2.2.2.2.2.1, o.2.2.2.2.2.2.2.2.1, o.2.2.2.2.2.2.2.2.2.1, o.2.2.2.2.2.2.2.2.2.2.1, o.2.2.2.2.2.2.2.2.2.2.2.1, o.2.2.2.2.2.2.2.2.2.2.2.2)
def s_readSet (o : Ob) (v : List Int32) : Ob := (o.1, o.2.1, o.2.2.1, o.2.2.2.1, v, o.2.2.2.2.2.1, o.2.2.2.2.2.2.1, o.2.2.2.2.2.2.2.1, o.2.2.2.2.2.2.2.2.1, o.2.2.2.2.2.2.2.2.2.1, o.2.2.2.2.2.2.2.2.2.2.1, o.2.2.2.2.2.2.2.2.2.2.2.1, o.2.2.2.2.2.2.2.2.2.2.2.2)
def s_writeSet (o : Ob) (v : List Int32) : Ob := (o.1, o.2.1, o.2.2.1, o.2.2.2.1, o.2.2.2.2.1, v, o.2.2.2.2.2.2.1, o.2.2.2.2.2.2.2.1, o.2.2.2.2.2.2.2.2.1, o.2.2.2.2.2.2.2.2.2.1, o.2.2.2.2.2.2.2.2.2.2.1, o.2.2.2.2.2.2.2.2.2.2.2.1, o.2.2.2.2.2.2.2.2.2.2.2.2)
def s_buffered (o : Ob) (v : List Int32) : Ob := (o.1, o.2.1, o.2.2.1, o.2.2.2.1, o.2.2.2.2.1, o.2.2.2.2.2.1, v, o.2.2.2.2.2.2.2.1, o.2.2.2.2.2.2.2.2.1, o.2.2.2.2.2.2.2.2.2.1, o.2.2.2.2.2.2.2.2.2.2.1, o.2.2.2.2.2.2.2.2.2.2.2.1, o.2.2.2.2.2.2.2.2.2.2.2.2)
def s_keyCount (o : Ob) (v : Int32) : Ob := (o.1, o.2.1, o.2.2.1, o.2.2.2.1, o.2.2.2.2.1, o.2.2.2.2.2.1, o.2.2.2.2.2.2.1, v, o.2.2.2.2.2.2.2.2.1, o.2.2.2.2.2.2.2.2.2.1, o.2.2.2.2.2.2.2.2.2.2.1, o.2.2.2.2.2.2.2.2.2.2.2.1, o.2.2.2.2.2.2.2.2.2.2.2.2)
def s_slotCount (o : Ob) (v : Int32) : Ob := (o.1, o.2.1, o.2.2.1, o.2.2.2.1, o.2.2.2.2.1, o.2.2.2.2.2.1, o.2.2.2.2.2.2.1, o.2.2.2.2.2.2.2.1, v, o.2.2.2.2.2.2.2.2.2.1, o.2.2.2.2.2.2.2.2.2.2.1, o.2.2.2.2.2.2.2.2.2.2.2.1, o.2.2.2.2.2.2.2.2.2.2.2.2)
def s_window (o : Ob) (v : Int32) : Ob := (o.1, o.2.1, o.2.2.1, o.2.2.2.1, o.2.2.2.2.1, o.2.2.2.2.2.1, o.2.2.2.2.2.2.1, o.2.2.2.2.2.2.2.1, o.2.2.2.2.2.2.2.2.1, v, o.2.2.2.2.2.2.2.2.2.2.1, o.2.2.2.2.2.2.2.2.2.2.2.1, o.2.2.2.2.2.2.2.2.2.2.2.2)
def s_commitCount (o : Ob) (v : Int32) : Ob := (o.1, o.2.1, o.2.2.1, o.2.2.2.1, o.2.2.2.2.1, o.2.2.2.2.2.1, o.2.2.2.2.2.2.1, o.2.2.2.2.2.2.2.1, o.2.2.2.2.2.2.2.2.1, o.2.2.2.2.2.2.2.2.2.1, v, o.2.2.2.2.2.2.2.2.2.2.2.1, o.2.2.2.2.2.2.2.2.2.2.2.2)
def s_abortCount (o : Ob) (v : Int32) : Ob := (o.1, o.2.1, o.2.2.1, o.2.2.2.1, o.2.2.2.2.1, o.2.2.2.2.2.1, o.2.2.2.2.2.2.1, o.2.2.2.2.2.2.2.1, o.2.2.2.2.2.2.2.2.1, o.2.2.2.2.2.2.2.2.2.1, o.2.2.2.2.2.2.2.2.2.2.1, v, o.2.2.2.2.2.2.2.2.2.2.2.2)
def s_lastConflict (o : Ob) (v : Int32) : Ob := (o.1, o.2.1, o.2.2.1, o.2.2.2.1, o.2.2.2.2.1, o.2.2.2.2.2.1, o.2.2.2.2.2.2.1, o.2.2.2.2.2.2.2.1, o.2.2.2.2.2.2.2.2.1, o.2.2.2.2.2.2.2.2.2.1, o.2.2.2.2.2.2.2.2.2.2.1, o.2.2.2.2.2.2.2.2.2.2.2.1, v)
theorem fs (o : Ob) : f_value o = o.1 ∧ f_version o = o.2.1 ∧ f_active o = o.2.2.1 ∧ f_start o = o.2.2.2.1 ∧ f_readSet o = o.2.2.2.2.1 ∧ f_writeSet o = o.2.2.2.2.2.1 ∧ f_buffered o = o.2.2.2.2.2.2.1 ∧ f_keyCount o = o.2.2.2.2.2.2.2.1 ∧ f_slotCount o = o.2.2.2.2.2.2.2.2.1 ∧ f_window o = o.2.2.2.2.2.2.2.2.2.1 ∧ f_commitCount o = o.2.2.2.2.2.2.2.2.2.2.1 ∧ f_abortCount o = o.2.2.2.2.2.2.2.2.2.2.2.1 ∧ f_lastConflict o = o.2.2.2.2.2.2.2.2.2.2.2.2 := by simp only [f_value, f_version, f_active, f_start, f_readSet, f_writeSet, f_buffered, f_keyCount, f_slotCount, f_window, f_commitCount, f_abortCount, f_lastConflict, and_self]
def ob0 : Ob := ([], [], [], [], [], [], [], 0, 0, 0, 0, 0, 0)
section Walks
variable {l : Launch} {Z : State} {n0 : Nat} {ad : Nat → Addr} {a0 : Array Value}
set_option maxRecDepth 20000
abbrev tt : Bool := true
abbrev ff : Bool := false
open QTri renaming steps → zS, brT → zT, brF → zF, bnd → zB, mask → zM
open Option (bind_eq_some_iff)
open Classical (em)
def H0 (s : List Int32) (o0 : Ob) : QHeap := [.inr (.inl (.int, s)), .inl [.ref 2, .ref 3, .ref 4, .ref 5, .ref 6, .ref 7, .ref 8, .int (f_keyCount o0), .int (f_slotCount o0), .int (f_window o0), .int (f_commitCount o0), .int (f_abortCount o0), .int (f_lastConflict o0)], .inr (.inl (.int, (f_value o0))), .inr (.inl (.int, (f_version o0))), .inr (.inl (.boolean, (f_active o0))), .inr (.inl (.int, (f_start o0))), .inr (.inl (.int, (f_readSet o0))), .inr (.inl (.int, (f_writeSet o0))), .inr (.inl (.int, (f_buffered o0)))]
def H0v (s : List Int32) (a0_0 : List Int32) (a0_1 : List Int32) (a0_2 : List Int32) (a0_3 : List Int32) (a0_4 : List Int32) (a0_5 : List Int32) (a0_6 : List Int32) (a0_7 : Int32) (a0_8 : Int32) (a0_9 : Int32) (a0_10 : Int32) (a0_11 : Int32) (a0_12 : Int32) : QHeap := [.inr (.inl (.int, s)), .inl [.ref 2, .ref 3, .ref 4, .ref 5, .ref 6, .ref 7, .ref 8, .int a0_7, .int a0_8, .int a0_9, .int a0_10, .int a0_11, .int a0_12], .inr (.inl (.int, a0_0)), .inr (.inl (.int, a0_1)), .inr (.inl (.boolean, a0_2)), .inr (.inl (.int, a0_3)), .inr (.inl (.int, a0_4)), .inr (.inl (.int, a0_5)), .inr (.inl (.int, a0_6))]
def H0x0 (s : List Int32) (o0 : Ob) (a0_0 : List Int32) (a0_1 : List Int32) (a0_2 : List Int32) (a0_3 : List Int32) (a0_4 : List Int32) (a0_5 : List Int32) (a0_6 : List Int32) : QHeap := H0v s a0_0 a0_1 a0_2 a0_3 a0_4 a0_5 a0_6 (f_keyCount o0) (f_slotCount o0) (f_window o0) (f_commitCount o0) (f_abortCount o0) (f_lastConflict o0)
/-- clamp(III)I -/
def F2 (x1 : Int32) (x2 : Int32) (x3 : Int32) : Option (Int32) :=
 (if x1 < x2 then some x2 else (if x3 < x1 then some x3 else some x1))
theorem tF2 (Ad : QAd n0 ad) (W : QW Z a0) {a : Nat} {σ : QHeap} (x1 : Int32) (x2 : Int32) (x3 : Int32) {r : Int32} (h : F2 x1 x2 x3 = some r) : QTri l Z n0 ad 2 (0, qentry [.ref a, .int x1, .int x2, .int x3] (pMaxL 2), [], σ) (some (Value.int r)) σ := by
 unfold F2 at h
 refine zS Ad W 2 (st' := (2, [vR a, vI x1, vI x2, vI x3], [.int x2, .int x1], σ)) rfl ?_
 rcases qite h with ⟨hc1, h⟩ | ⟨hc1, h⟩
 ·refine zF Ad W (t := 7) (f := 5) rfl (XT.ii_ge_f hc1) ?_
  refine zS Ad W 1 (st' := (6, [vR a, vI x1, vI x2, vI x3], [.int x2], σ)) rfl ?_
  obtain rfl := Option.some.inj h
  exact QTri.retI rfl rfl
 ·refine zT Ad W (t := 7) (f := 5) rfl (XT.ii_ge_t hc1) ?_
  refine zS Ad W 2 (st' := (9, [vR a, vI x1, vI x2, vI x3], [.int x3, .int x1], σ)) rfl ?_
  rcases qite h with ⟨hc2, h⟩ | ⟨hc2, h⟩
  ·refine zF Ad W (t := 14) (f := 12) rfl (XT.ii_le_f hc2) ?_
   refine zS Ad W 1 (st' := (13, [vR a, vI x1, vI x2, vI x3], [.int x3], σ)) rfl ?_
   obtain rfl := Option.some.inj h
   exact QTri.retI rfl rfl
  ·refine zT Ad W (t := 14) (f := 12) rfl (XT.ii_le_t hc2) ?_
   refine zS Ad W 1 (st' := (15, [vR a, vI x1, vI x2, vI x3], [.int x1], σ)) rfl ?_
   obtain rfl := Option.some.inj h
   exact QTri.retI rfl rfl
def H0x1 (s : List Int32) (o0 : Ob) (a0_0 : List Int32) (a0_1 : List Int32) (a0_2 : List Int32) (a0_3 : List Int32) (a0_4 : List Int32) (a0_5 : List Int32) (a0_6 : List Int32) (a0_7 : Int32) : QHeap := H0v s a0_0 a0_1 a0_2 a0_3 a0_4 a0_5 a0_6 a0_7 (f_slotCount o0) (f_window o0) (f_commitCount o0) (f_abortCount o0) (f_lastConflict o0)
def H0x2 (s : List Int32) (o0 : Ob) (a0_0 : List Int32) (a0_1 : List Int32) (a0_2 : List Int32) (a0_3 : List Int32) (a0_4 : List Int32) (a0_5 : List Int32) (a0_6 : List Int32) (a0_7 : Int32) (a0_8 : Int32) : QHeap := H0v s a0_0 a0_1 a0_2 a0_3 a0_4 a0_5 a0_6 a0_7 a0_8 (f_window o0) (f_commitCount o0) (f_abortCount o0) (f_lastConflict o0)
def H0x3 (s : List Int32) (o0 : Ob) (a0_0 : List Int32) (a0_1 : List Int32) (a0_2 : List Int32) (a0_3 : List Int32) (a0_4 : List Int32) (a0_5 : List Int32) (a0_6 : List Int32) (a0_7 : Int32) (a0_8 : Int32) (a0_9 : Int32) : QHeap := H0v s a0_0 a0_1 a0_2 a0_3 a0_4 a0_5 a0_6 a0_7 a0_8 a0_9 (f_commitCount o0) (f_abortCount o0) (f_lastConflict o0)
def H0x4 (s : List Int32) (o0 : Ob) (a0_0 : List Int32) (a0_1 : List Int32) (a0_2 : List Int32) (a0_3 : List Int32) (a0_4 : List Int32) (a0_5 : List Int32) (a0_6 : List Int32) (a0_7 : Int32) (a0_8 : Int32) (a0_9 : Int32) (a0_10 : Int32) : QHeap := H0v s a0_0 a0_1 a0_2 a0_3 a0_4 a0_5 a0_6 a0_7 a0_8 a0_9 a0_10 (f_abortCount o0) (f_lastConflict o0)
def H0x5 (s : List Int32) (o0 : Ob) (a0_0 : List Int32) (a0_1 : List Int32) (a0_2 : List Int32) (a0_3 : List Int32) (a0_4 : List Int32) (a0_5 : List Int32) (a0_6 : List Int32) (a0_7 : Int32) (a0_8 : Int32) (a0_9 : Int32) (a0_10 : Int32) (a0_11 : Int32) : QHeap := H0v s a0_0 a0_1 a0_2 a0_3 a0_4 a0_5 a0_6 a0_7 a0_8 a0_9 a0_10 a0_11 (f_lastConflict o0)
def H0x6 (s : List Int32) (o0 : Ob) (a0_0 : List Int32) (a0_1 : List Int32) (a0_2 : List Int32) (a0_3 : List Int32) (a0_4 : List Int32) (a0_5 : List Int32) (a0_6 : List Int32) (a0_7 : Int32) (a0_8 : Int32) (a0_9 : Int32) (a0_10 : Int32) (a0_11 : Int32) (a0_12 : Int32) : QHeap := H0v s a0_0 a0_1 a0_2 a0_3 a0_4 a0_5 a0_6 a0_7 a0_8 a0_9 a0_10 a0_11 a0_12
/-- init(III)V -/
def F1 (x1 : Int32) (x2 : Int32) (x3 : Int32) : Option (Ob) :=
 (F2 x1 (8:Int32) (32:Int32)).bind fun r3 => (F2 x2 (2:Int32) (8:Int32)).bind fun r4 => (F2 x3 (2:Int32) (16:Int32)).bind fun r5 => some (s_lastConflict (s_abortCount (s_commitCount (s_window (s_slotCount (s_keyCount (s_buffered (s_writeSet (s_readSet (s_start (s_active (s_version (s_value ob0 (List.replicate 32 0)) (List.replicate 32 0)) (List.replicate 8 0)) (List.replicate 8 0)) (List.replicate 8 0)) (List.replicate 8 0)) (List.replicate 256 0)) r3) r4) r5) (0:Int32)) (0:Int32)) (-1:Int32))
theorem tF1 (Ad : QAd n0 ad) (W : QW Z a0) (s : List Int32) (x1 : Int32) (x2 : Int32) (x3 : Int32) {r : Ob} (h : F1 x1 x2 x3 = some r) : QTri l Z n0 ad 1 (0, qentry [.ref 1, .int x1, .int x2, .int x3] (pMaxL 1), [], [.inr (.inl (.int, s)), .inl [.null, .null, .null, .null, .null, .null, .null, .int (f_keyCount ob0), .int (f_slotCount ob0), .int (f_window ob0), .int (f_commitCount ob0), .int (f_abortCount ob0), .int (f_lastConflict ob0)]]) (none : Option Value) (H0 s r) := by
 unfold F1 at h
 refine zS Ad W 1 (st' := (1, [vR 1, vI x1, vI x2, vI x3], [.ref 1], [.inr (.inl (.int, s)), .inl [.null, .null, .null, .null, .null, .null, .null, .int (f_keyCount ob0), .int (f_slotCount ob0), .int (f_window ob0), .int (f_commitCount ob0), .int (f_abortCount ob0), .int (f_lastConflict ob0)]])) rfl ?_
 refine QTri.callO W rfl rfl rfl ?_
 refine zS Ad W 3 (st' := (9, [vR 1, vI x1, vI x2, vI x3], [.ref 2, .ref 1], [.inr (.inl (.int, s)), .inl [.null, .null, .null, .null, .null, .null, .null, .int (f_keyCount ob0), .int (f_slotCount ob0), .int (f_window ob0), .int (f_commitCount ob0), .int (f_abortCount ob0), .int (f_lastConflict ob0)], .inr (.inl (.int, (List.replicate 32 0)))])) rfl ?_
 refine zS Ad W 1 (st' := (12, [vR 1, vI x1, vI x2, vI x3], [], [.inr (.inl (.int, s)), .inl [.ref 2, .null, .null, .null, .null, .null, .null, .int (f_keyCount ob0), .int (f_slotCount ob0), .int (f_window ob0), .int (f_commitCount ob0), .int (f_abortCount ob0), .int (f_lastConflict ob0)], .inr (.inl (.int, (List.replicate 32 0)))])) rfl ?_
 refine zS Ad W 3 (st' := (17, [vR 1, vI x1, vI x2, vI x3], [.ref 3, .ref 1], [.inr (.inl (.int, s)), .inl [.ref 2, .null, .null, .null, .null, .null, .null, .int (f_keyCount ob0), .int (f_slotCount ob0), .int (f_window ob0), .int (f_commitCount ob0), .int (f_abortCount ob0), .int (f_lastConflict ob0)], .inr (.inl (.int, (List.replicate 32 0))), .inr (.inl (.int, (List.replicate 32 0)))])) rfl ?_
 refine zS Ad W 1 (st' := (20, [vR 1, vI x1, vI x2, vI x3], [], [.inr (.inl (.int, s)), .inl [.ref 2, .ref 3, .null, .null, .null, .null, .null, .int (f_keyCount ob0), .int (f_slotCount ob0), .int (f_window ob0), .int (f_commitCount ob0), .int (f_abortCount ob0), .int (f_lastConflict ob0)], .inr (.inl (.int, (List.replicate 32 0))), .inr (.inl (.int, (List.replicate 32 0)))])) rfl ?_
 refine zS Ad W 3 (st' := (25, [vR 1, vI x1, vI x2, vI x3], [.ref 4, .ref 1], [.inr (.inl (.int, s)), .inl [.ref 2, .ref 3, .null, .null, .null, .null, .null, .int (f_keyCount ob0), .int (f_slotCount ob0), .int (f_window ob0), .int (f_commitCount ob0), .int (f_abortCount ob0), .int (f_lastConflict ob0)], .inr (.inl (.int, (List.replicate 32 0))), .inr (.inl (.int, (List.replicate 32 0))), .inr (.inl (.boolean, (List.replicate 8 0)))])) rfl ?_
 refine zS Ad W 1 (st' := (28, [vR 1, vI x1, vI x2, vI x3], [], [.inr (.inl (.int, s)), .inl [.ref 2, .ref 3, .ref 4, .null, .null, .null, .null, .int (f_keyCount ob0), .int (f_slotCount ob0), .int (f_window ob0), .int (f_commitCount ob0), .int (f_abortCount ob0), .int (f_lastConflict ob0)], .inr (.inl (.int, (List.replicate 32 0))), .inr (.inl (.int, (List.replicate 32 0))), .inr (.inl (.boolean, (List.replicate 8 0)))])) rfl ?_
 refine zS Ad W 3 (st' := (33, [vR 1, vI x1, vI x2, vI x3], [.ref 5, .ref 1], [.inr (.inl (.int, s)), .inl [.ref 2, .ref 3, .ref 4, .null, .null, .null, .null, .int (f_keyCount ob0), .int (f_slotCount ob0), .int (f_window ob0), .int (f_commitCount ob0), .int (f_abortCount ob0), .int (f_lastConflict ob0)], .inr (.inl (.int, (List.replicate 32 0))), .inr (.inl (.int, (List.replicate 32 0))), .inr (.inl (.boolean, (List.replicate 8 0))), .inr (.inl (.int, (List.replicate 8 0)))])) rfl ?_
 refine zS Ad W 1 (st' := (36, [vR 1, vI x1, vI x2, vI x3], [], [.inr (.inl (.int, s)), .inl [.ref 2, .ref 3, .ref 4, .ref 5, .null, .null, .null, .int (f_keyCount ob0), .int (f_slotCount ob0), .int (f_window ob0), .int (f_commitCount ob0), .int (f_abortCount ob0), .int (f_lastConflict ob0)], .inr (.inl (.int, (List.replicate 32 0))), .inr (.inl (.int, (List.replicate 32 0))), .inr (.inl (.boolean, (List.replicate 8 0))), .inr (.inl (.int, (List.replicate 8 0)))])) rfl ?_
 refine zS Ad W 3 (st' := (41, [vR 1, vI x1, vI x2, vI x3], [.ref 6, .ref 1], [.inr (.inl (.int, s)), .inl [.ref 2, .ref 3, .ref 4, .ref 5, .null, .null, .null, .int (f_keyCount ob0), .int (f_slotCount ob0), .int (f_window ob0), .int (f_commitCount ob0), .int (f_abortCount ob0), .int (f_lastConflict ob0)], .inr (.inl (.int, (List.replicate 32 0))), .inr (.inl (.int, (List.replicate 32 0))), .inr (.inl (.boolean, (List.replicate 8 0))), .inr (.inl (.int, (List.replicate 8 0))), .inr (.inl (.int, (List.replicate 8 0)))])) rfl ?_
 refine zS Ad W 1 (st' := (44, [vR 1, vI x1, vI x2, vI x3], [], [.inr (.inl (.int, s)), .inl [.ref 2, .ref 3, .ref 4, .ref 5, .ref 6, .null, .null, .int (f_keyCount ob0), .int (f_slotCount ob0), .int (f_window ob0), .int (f_commitCount ob0), .int (f_abortCount ob0), .int (f_lastConflict ob0)], .inr (.inl (.int, (List.replicate 32 0))), .inr (.inl (.int, (List.replicate 32 0))), .inr (.inl (.boolean, (List.replicate 8 0))), .inr (.inl (.int, (List.replicate 8 0))), .inr (.inl (.int, (List.replicate 8 0)))])) rfl ?_
 refine zS Ad W 3 (st' := (49, [vR 1, vI x1, vI x2, vI x3], [.ref 7, .ref 1], [.inr (.inl (.int, s)), .inl [.ref 2, .ref 3, .ref 4, .ref 5, .ref 6, .null, .null, .int (f_keyCount ob0), .int (f_slotCount ob0), .int (f_window ob0), .int (f_commitCount ob0), .int (f_abortCount ob0), .int (f_lastConflict ob0)], .inr (.inl (.int, (List.replicate 32 0))), .inr (.inl (.int, (List.replicate 32 0))), .inr (.inl (.boolean, (List.replicate 8 0))), .inr (.inl (.int, (List.replicate 8 0))), .inr (.inl (.int, (List.replicate 8 0))), .inr (.inl (.int, (List.replicate 8 0)))])) rfl ?_
 refine zS Ad W 1 (st' := (52, [vR 1, vI x1, vI x2, vI x3], [], [.inr (.inl (.int, s)), .inl [.ref 2, .ref 3, .ref 4, .ref 5, .ref 6, .ref 7, .null, .int (f_keyCount ob0), .int (f_slotCount ob0), .int (f_window ob0), .int (f_commitCount ob0), .int (f_abortCount ob0), .int (f_lastConflict ob0)], .inr (.inl (.int, (List.replicate 32 0))), .inr (.inl (.int, (List.replicate 32 0))), .inr (.inl (.boolean, (List.replicate 8 0))), .inr (.inl (.int, (List.replicate 8 0))), .inr (.inl (.int, (List.replicate 8 0))), .inr (.inl (.int, (List.replicate 8 0)))])) rfl ?_
 refine zS Ad W 3 (st' := (58, [vR 1, vI x1, vI x2, vI x3], [.ref 8, .ref 1], [.inr (.inl (.int, s)), .inl [.ref 2, .ref 3, .ref 4, .ref 5, .ref 6, .ref 7, .null, .int (f_keyCount ob0), .int (f_slotCount ob0), .int (f_window ob0), .int (f_commitCount ob0), .int (f_abortCount ob0), .int (f_lastConflict ob0)], .inr (.inl (.int, (List.replicate 32 0))), .inr (.inl (.int, (List.replicate 32 0))), .inr (.inl (.boolean, (List.replicate 8 0))), .inr (.inl (.int, (List.replicate 8 0))), .inr (.inl (.int, (List.replicate 8 0))), .inr (.inl (.int, (List.replicate 8 0))), .inr (.inl (.int, (List.replicate 256 0)))])) rfl ?_
 refine zS Ad W 1 (st' := (61, [vR 1, vI x1, vI x2, vI x3], [], (H0x0 s ob0 (List.replicate 32 0) (List.replicate 32 0) (List.replicate 8 0) (List.replicate 8 0) (List.replicate 8 0) (List.replicate 8 0) (List.replicate 256 0)))) rfl ?_
 refine zS Ad W 5 (st' := (68, [vR 1, vI x1, vI x2, vI x3], [.int (32:Int32), .int (8:Int32), .int x1, .ref 1, .ref 1], (H0x0 s ob0 (List.replicate 32 0) (List.replicate 32 0) (List.replicate 8 0) (List.replicate 8 0) (List.replicate 8 0) (List.replicate 8 0) (List.replicate 256 0)))) rfl ?_
 obtain ⟨r3, hr3, h⟩ := bind_eq_some_iff.mp h
 refine QTri.callP W (a := 1) (as := [.int x1, .int (8:Int32), .int (32:Int32)]) (rest := [.ref 1]) (w := (some (.int r3))) (σ₁ := (H0x0 s ob0 (List.replicate 32 0) (List.replicate 32 0) (List.replicate 8 0) (List.replicate 8 0) (List.replicate 8 0) (List.replicate 8 0) (List.replicate 256 0))) rfl rfl rfl rfl rfl rfl rfl rfl (tF2 Ad W x1 (8:Int32) (32:Int32) hr3) ?_
 refine zS Ad W 1 (st' := (74, [vR 1, vI x1, vI x2, vI x3], [], (H0x1 s ob0 (List.replicate 32 0) (List.replicate 32 0) (List.replicate 8 0) (List.replicate 8 0) (List.replicate 8 0) (List.replicate 8 0) (List.replicate 256 0) r3))) rfl ?_
 refine zS Ad W 5 (st' := (80, [vR 1, vI x1, vI x2, vI x3], [.int (8:Int32), .int (2:Int32), .int x2, .ref 1, .ref 1], (H0x1 s ob0 (List.replicate 32 0) (List.replicate 32 0) (List.replicate 8 0) (List.replicate 8 0) (List.replicate 8 0) (List.replicate 8 0) (List.replicate 256 0) r3))) rfl ?_
 obtain ⟨r4, hr4, h⟩ := bind_eq_some_iff.mp h
 refine QTri.callP W (a := 1) (as := [.int x2, .int (2:Int32), .int (8:Int32)]) (rest := [.ref 1]) (w := (some (.int r4))) (σ₁ := (H0x1 s ob0 (List.replicate 32 0) (List.replicate 32 0) (List.replicate 8 0) (List.replicate 8 0) (List.replicate 8 0) (List.replicate 8 0) (List.replicate 256 0) r3)) rfl rfl rfl rfl rfl rfl rfl rfl (tF2 Ad W x2 (2:Int32) (8:Int32) hr4) ?_
 refine zS Ad W 1 (st' := (86, [vR 1, vI x1, vI x2, vI x3], [], (H0x2 s ob0 (List.replicate 32 0) (List.replicate 32 0) (List.replicate 8 0) (List.replicate 8 0) (List.replicate 8 0) (List.replicate 8 0) (List.replicate 256 0) r3 r4))) rfl ?_
 refine zS Ad W 5 (st' := (92, [vR 1, vI x1, vI x2, vI x3], [.int (16:Int32), .int (2:Int32), .int x3, .ref 1, .ref 1], (H0x2 s ob0 (List.replicate 32 0) (List.replicate 32 0) (List.replicate 8 0) (List.replicate 8 0) (List.replicate 8 0) (List.replicate 8 0) (List.replicate 256 0) r3 r4))) rfl ?_
 obtain ⟨r5, hr5, h⟩ := bind_eq_some_iff.mp h
 refine QTri.callP W (a := 1) (as := [.int x3, .int (2:Int32), .int (16:Int32)]) (rest := [.ref 1]) (w := (some (.int r5))) (σ₁ := (H0x2 s ob0 (List.replicate 32 0) (List.replicate 32 0) (List.replicate 8 0) (List.replicate 8 0) (List.replicate 8 0) (List.replicate 8 0) (List.replicate 256 0) r3 r4)) rfl rfl rfl rfl rfl rfl rfl rfl (tF2 Ad W x3 (2:Int32) (16:Int32) hr5) ?_
 refine zS Ad W 1 (st' := (98, [vR 1, vI x1, vI x2, vI x3], [], (H0x3 s ob0 (List.replicate 32 0) (List.replicate 32 0) (List.replicate 8 0) (List.replicate 8 0) (List.replicate 8 0) (List.replicate 8 0) (List.replicate 256 0) r3 r4 r5))) rfl ?_
 refine zS Ad W 3 (st' := (103, [vR 1, vI x1, vI x2, vI x3], [], (H0x4 s ob0 (List.replicate 32 0) (List.replicate 32 0) (List.replicate 8 0) (List.replicate 8 0) (List.replicate 8 0) (List.replicate 8 0) (List.replicate 256 0) r3 r4 r5 (0:Int32)))) rfl ?_
 refine zS Ad W 3 (st' := (108, [vR 1, vI x1, vI x2, vI x3], [], (H0x5 s ob0 (List.replicate 32 0) (List.replicate 32 0) (List.replicate 8 0) (List.replicate 8 0) (List.replicate 8 0) (List.replicate 8 0) (List.replicate 256 0) r3 r4 r5 (0:Int32) (0:Int32)))) rfl ?_
 refine zS Ad W 3 (st' := (113, [vR 1, vI x1, vI x2, vI x3], [], (H0x6 s ob0 (List.replicate 32 0) (List.replicate 32 0) (List.replicate 8 0) (List.replicate 8 0) (List.replicate 8 0) (List.replicate 8 0) (List.replicate 256 0) r3 r4 r5 (0:Int32) (0:Int32) (-1:Int32)))) rfl ?_
 have E6 : ((H0x6 s ob0 (List.replicate 32 0) (List.replicate 32 0) (List.replicate 8 0) (List.replicate 8 0) (List.replicate 8 0) (List.replicate 8 0) (List.replicate 256 0) r3 r4 r5 (0:Int32) (0:Int32) (-1:Int32)) : QHeap) = (H0 s (s_lastConflict (s_abortCount (s_commitCount (s_window (s_slotCount (s_keyCount (s_buffered (s_writeSet (s_readSet (s_start (s_active (s_version (s_value ob0 (List.replicate 32 0)) (List.replicate 32 0)) (List.replicate 8 0)) (List.replicate 8 0)) (List.replicate 8 0)) (List.replicate 8 0)) (List.replicate 256 0)) r3) r4) r5) (0:Int32)) (0:Int32)) (-1:Int32))) := by simp only [fs, H0, H0v, H0x6, s_value, s_version, s_active, s_start, s_readSet, s_writeSet, s_buffered, s_keyCount, s_slotCount, s_window, s_commitCount, s_abortCount, s_lastConflict, ob0]
 rw [E6]
 obtain rfl := Option.some.inj h
 exact QTri.ret0 rfl rfl
/-- isValidTx(I)Z -/
def F4 (o : Ob) (x1 : Int32) : Option (Int32) :=
 (if x1 < (0:Int32) then some (0:Int32) else (if x1 < (f_slotCount o) then (if x1 < (8:Int32) then (aget (f_active o) x1).bind fun y23 => some (y23 &&& 1) else some (0:Int32)) else some (0:Int32)))
theorem tF4 (Ad : QAd n0 ad) (W : QW Z a0) (s : List Int32) (o : Ob) (x1 : Int32) {r : Int32} (h : F4 o x1 = some r) : QTri l Z n0 ad 4 (0, qentry [.ref 1, .int x1] (pMaxL 4), [], (H0 s o)) (some (Value.int r)) (H0 s o) := by
 unfold F4 at h
 refine zS Ad W 1 (st' := (1, [vR 1, vI x1], [.int x1], (H0 s o))) rfl ?_
 rcases qite h with ⟨hc20, h⟩ | ⟨hc20, h⟩
 ·refine zT Ad W (t := 18) (f := 4) rfl (XT.i0_lt_t hc20) ?_
  refine zS Ad W 1 (st' := (19, [vR 1, vI x1], [.int (0:Int32)], (H0 s o))) rfl ?_
  obtain rfl := Option.some.inj h
  exact QTri.retZ rfl rfl
 ·refine zF Ad W (t := 18) (f := 4) rfl (XT.i0_lt_f hc20) ?_
  refine zS Ad W 3 (st' := (9, [vR 1, vI x1], [.int (f_slotCount o), .int x1], (H0 s o))) rfl ?_
  rcases qite h with ⟨hc21, h⟩ | ⟨hc21, h⟩
  ·refine zF Ad W (t := 18) (f := 12) rfl (XT.ii_ge_f hc21) ?_
   refine zS Ad W 2 (st' := (15, [vR 1, vI x1], [.int (8:Int32), .int x1], (H0 s o))) rfl ?_
   rcases qite h with ⟨hc22, h⟩ | ⟨hc22, h⟩
   ·refine zT Ad W (t := 20) (f := 18) rfl (XT.ii_lt_t hc22) ?_
    refine zS Ad W 3 (st' := (25, [vR 1, vI x1], [.int x1, .ref 4], (H0 s o))) rfl ?_
    obtain ⟨y23, hy23, h⟩ := bind_eq_some_iff.mp h
    refine zB Ad W (f := fun y23 => (26, [vR 1, vI x1], [.int y23], (H0 s o))) rfl hy23 ?_
    obtain rfl := Option.some.inj h
    exact QTri.retZ rfl rfl
   ·refine zF Ad W (t := 20) (f := 18) rfl (XT.ii_lt_f hc22) ?_
    refine zS Ad W 1 (st' := (19, [vR 1, vI x1], [.int (0:Int32)], (H0 s o))) rfl ?_
    obtain rfl := Option.some.inj h
    exact QTri.retZ rfl rfl
  ·refine zT Ad W (t := 18) (f := 12) rfl (XT.ii_ge_t hc21) ?_
   refine zS Ad W 1 (st' := (19, [vR 1, vI x1], [.int (0:Int32)], (H0 s o))) rfl ?_
   obtain rfl := Option.some.inj h
   exact QTri.retZ rfl rfl
/-- getReadSet(I)I -/
def F3 (o : Ob) (x1 : Int32) : Option (Int32) :=
 (F4 o x1).bind fun r24 => (if r24 = (0:Int32) then some (0:Int32) else (aget (f_readSet o) x1).bind fun y26 => some y26)
theorem tF3 (Ad : QAd n0 ad) (W : QW Z a0) (s : List Int32) (o : Ob) (x1 : Int32) {r : Int32} (h : F3 o x1 = some r) : QTri l Z n0 ad 3 (0, qentry [.ref 1, .int x1] (pMaxL 3), [], (H0 s o)) (some (Value.int r)) (H0 s o) := by
 unfold F3 at h
 refine zS Ad W 2 (st' := (2, [vR 1, vI x1], [.int x1, .ref 1], (H0 s o))) rfl ?_
 obtain ⟨r24, hr24, h⟩ := bind_eq_some_iff.mp h
 refine QTri.callP W (a := 1) (as := [.int x1]) (rest := []) (w := (some (.int r24))) (σ₁ := (H0 s o)) rfl rfl rfl rfl rfl rfl rfl rfl (tF4 Ad W s o x1 hr24) ?_
 rcases qite h with ⟨hc25, h⟩ | ⟨hc25, h⟩
 ·refine zF Ad W (t := 10) (f := 8) rfl (XT.i0_ne_f hc25) ?_
  refine zS Ad W 1 (st' := (9, [vR 1, vI x1], [.int (0:Int32)], (H0 s o))) rfl ?_
  obtain rfl := Option.some.inj h
  exact QTri.retI rfl rfl
 ·refine zT Ad W (t := 10) (f := 8) rfl (XT.i0_ne_t hc25) ?_
  refine zS Ad W 3 (st' := (15, [vR 1, vI x1], [.int x1, .ref 6], (H0 s o))) rfl ?_
  obtain ⟨y26, hy26, h⟩ := bind_eq_some_iff.mp h
  refine zB Ad W (f := fun y26 => (16, [vR 1, vI x1], [.int y26], (H0 s o))) rfl hy26 ?_
  obtain rfl := Option.some.inj h
  exact QTri.retI rfl rfl
/-- getWriteSet(I)I -/
def F5 (o : Ob) (x1 : Int32) : Option (Int32) :=
 (F4 o x1).bind fun r28 => (if r28 = (0:Int32) then some (0:Int32) else (aget (f_writeSet o) x1).bind fun y30 => some y30)
theorem tF5 (Ad : QAd n0 ad) (W : QW Z a0) (s : List Int32) (o : Ob) (x1 : Int32) {r : Int32} (h : F5 o x1 = some r) : QTri l Z n0 ad 5 (0, qentry [.ref 1, .int x1] (pMaxL 5), [], (H0 s o)) (some (Value.int r)) (H0 s o) := by
 unfold F5 at h
 refine zS Ad W 2 (st' := (2, [vR 1, vI x1], [.int x1, .ref 1], (H0 s o))) rfl ?_
 obtain ⟨r28, hr28, h⟩ := bind_eq_some_iff.mp h
 refine QTri.callP W (a := 1) (as := [.int x1]) (rest := []) (w := (some (.int r28))) (σ₁ := (H0 s o)) rfl rfl rfl rfl rfl rfl rfl rfl (tF4 Ad W s o x1 hr28) ?_
 rcases qite h with ⟨hc29, h⟩ | ⟨hc29, h⟩
 ·refine zF Ad W (t := 10) (f := 8) rfl (XT.i0_ne_f hc29) ?_
  refine zS Ad W 1 (st' := (9, [vR 1, vI x1], [.int (0:Int32)], (H0 s o))) rfl ?_
  obtain rfl := Option.some.inj h
  exact QTri.retI rfl rfl
 ·refine zT Ad W (t := 10) (f := 8) rfl (XT.i0_ne_t hc29) ?_
  refine zS Ad W 3 (st' := (15, [vR 1, vI x1], [.int x1, .ref 7], (H0 s o))) rfl ?_
  obtain ⟨y30, hy30, h⟩ := bind_eq_some_iff.mp h
  refine zB Ad W (f := fun y30 => (16, [vR 1, vI x1], [.int y30], (H0 s o))) rfl hy30 ?_
  obtain rfl := Option.some.inj h
  exact QTri.retI rfl rfl
/-- isValidKey(I)Z -/
def F8 (o : Ob) (x1 : Int32) : Option (Int32) :=
 (if x1 < (0:Int32) then some (0:Int32) else (if x1 < (f_keyCount o) then (if x1 < (32:Int32) then some (1:Int32) else some (0:Int32)) else some (0:Int32)))
theorem tF8 (Ad : QAd n0 ad) (W : QW Z a0) (s : List Int32) (o : Ob) (x1 : Int32) {r : Int32} (h : F8 o x1 = some r) : QTri l Z n0 ad 8 (0, qentry [.ref 1, .int x1] (pMaxL 8), [], (H0 s o)) (some (Value.int r)) (H0 s o) := by
 unfold F8 at h
 refine zS Ad W 1 (st' := (1, [vR 1, vI x1], [.int x1], (H0 s o))) rfl ?_
 rcases qite h with ⟨hc34, h⟩ | ⟨hc34, h⟩
 ·refine zT Ad W (t := 22) (f := 4) rfl (XT.i0_lt_t hc34) ?_
  refine zS Ad W 1 (st' := (23, [vR 1, vI x1], [.int (0:Int32)], (H0 s o))) rfl ?_
  obtain rfl := Option.some.inj h
  exact QTri.retZ rfl rfl
 ·refine zF Ad W (t := 22) (f := 4) rfl (XT.i0_lt_f hc34) ?_
  refine zS Ad W 3 (st' := (9, [vR 1, vI x1], [.int (f_keyCount o), .int x1], (H0 s o))) rfl ?_
  rcases qite h with ⟨hc35, h⟩ | ⟨hc35, h⟩
  ·refine zF Ad W (t := 22) (f := 12) rfl (XT.ii_ge_f hc35) ?_
   refine zS Ad W 2 (st' := (15, [vR 1, vI x1], [.int (32:Int32), .int x1], (H0 s o))) rfl ?_
   rcases qite h with ⟨hc36, h⟩ | ⟨hc36, h⟩
   ·refine zF Ad W (t := 22) (f := 18) rfl (XT.ii_ge_f hc36) ?_
    refine zS Ad W 2 (st' := (23, [vR 1, vI x1], [.int (1:Int32)], (H0 s o))) rfl ?_
    obtain rfl := Option.some.inj h
    exact QTri.retZ rfl rfl
   ·refine zT Ad W (t := 22) (f := 18) rfl (XT.ii_ge_t hc36) ?_
    refine zS Ad W 1 (st' := (23, [vR 1, vI x1], [.int (0:Int32)], (H0 s o))) rfl ?_
    obtain rfl := Option.some.inj h
    exact QTri.retZ rfl rfl
  ·refine zT Ad W (t := 22) (f := 12) rfl (XT.ii_ge_t hc35) ?_
   refine zS Ad W 1 (st' := (23, [vR 1, vI x1], [.int (0:Int32)], (H0 s o))) rfl ?_
   obtain rfl := Option.some.inj h
   exact QTri.retZ rfl rfl
/-- bit(I)I -/
def F21 (x1 : Int32) : Option (Int32) :=
 some ((1:Int32) <<< (x1 &&& 31))
theorem tF21 (Ad : QAd n0 ad) (W : QW Z a0) {a : Nat} {σ : QHeap} (x1 : Int32) {r : Int32} (h : F21 x1 = some r) : QTri l Z n0 ad 21 (0, qentry [.ref a, .int x1] (pMaxL 21), [], σ) (some (Value.int r)) σ := by
 unfold F21 at h
 refine zS Ad W 3 (st' := (3, [vR a, vI x1], [.int ((1:Int32) <<< (x1 &&& 31))], σ)) rfl ?_
 obtain rfl := Option.some.inj h
 exact QTri.retI rfl rfl
/-- bufIndex(II)I -/
def F27 (x1 : Int32) (x2 : Int32) : Option (Int32) :=
 some ((x1 * (32:Int32)) + x2)
theorem tF27 (Ad : QAd n0 ad) (W : QW Z a0) {a : Nat} {σ : QHeap} (x1 : Int32) (x2 : Int32) {r : Int32} (h : F27 x1 x2 = some r) : QTri l Z n0 ad 27 (0, qentry [.ref a, .int x1, .int x2] (pMaxL 27), [], σ) (some (Value.int r)) σ := by
 unfold F27 at h
 refine zS Ad W 5 (st' := (6, [vR a, vI x1, vI x2], [.int ((x1 * (32:Int32)) + x2)], σ)) rfl ?_
 obtain rfl := Option.some.inj h
 exact QTri.retI rfl rfl
/-- getBuffered(II)I -/
def F6 (o : Ob) (x1 : Int32) (x2 : Int32) : Option (Int32) :=
 (F4 o x1).bind fun r32 => (if r32 = (0:Int32) then some (0:Int32) else (F8 o x2).bind fun r37 => (if r37 = (0:Int32) then some (0:Int32) else (aget (f_writeSet o) x1).bind fun y39 => (F21 x2).bind fun r40 => (if (y39 &&& r40) = (0:Int32) then some (0:Int32) else (F27 x1 x2).bind fun r42 => (aget (f_buffered o) r42).bind fun y43 => some y43)))
theorem tF6 (Ad : QAd n0 ad) (W : QW Z a0) (s : List Int32) (o : Ob) (x1 : Int32) (x2 : Int32) {r : Int32} (h : F6 o x1 x2 = some r) : QTri l Z n0 ad 6 (0, qentry [.ref 1, .int x1, .int x2] (pMaxL 6), [], (H0 s o)) (some (Value.int r)) (H0 s o) := by
 unfold F6 at h
 refine zS Ad W 2 (st' := (2, [vR 1, vI x1, vI x2], [.int x1, .ref 1], (H0 s o))) rfl ?_
 obtain ⟨r32, hr32, h⟩ := bind_eq_some_iff.mp h
 refine QTri.callP W (a := 1) (as := [.int x1]) (rest := []) (w := (some (.int r32))) (σ₁ := (H0 s o)) rfl rfl rfl rfl rfl rfl rfl rfl (tF4 Ad W s o x1 hr32) ?_
 rcases qite h with ⟨hc33, h⟩ | ⟨hc33, h⟩
 ·refine zF Ad W (t := 10) (f := 8) rfl (XT.i0_ne_f hc33) ?_
  refine zS Ad W 1 (st' := (9, [vR 1, vI x1, vI x2], [.int (0:Int32)], (H0 s o))) rfl ?_
  obtain rfl := Option.some.inj h
  exact QTri.retI rfl rfl
 ·refine zT Ad W (t := 10) (f := 8) rfl (XT.i0_ne_t hc33) ?_
  refine zS Ad W 2 (st' := (12, [vR 1, vI x1, vI x2], [.int x2, .ref 1], (H0 s o))) rfl ?_
  obtain ⟨r37, hr37, h⟩ := bind_eq_some_iff.mp h
  refine QTri.callP W (a := 1) (as := [.int x2]) (rest := []) (w := (some (.int r37))) (σ₁ := (H0 s o)) rfl rfl rfl rfl rfl rfl rfl rfl (tF8 Ad W s o x2 hr37) ?_
  rcases qite h with ⟨hc38, h⟩ | ⟨hc38, h⟩
  ·refine zF Ad W (t := 20) (f := 18) rfl (XT.i0_ne_f hc38) ?_
   refine zS Ad W 1 (st' := (19, [vR 1, vI x1, vI x2], [.int (0:Int32)], (H0 s o))) rfl ?_
   obtain rfl := Option.some.inj h
   exact QTri.retI rfl rfl
  ·refine zT Ad W (t := 20) (f := 18) rfl (XT.i0_ne_t hc38) ?_
   refine zS Ad W 3 (st' := (25, [vR 1, vI x1, vI x2], [.int x1, .ref 7], (H0 s o))) rfl ?_
   obtain ⟨y39, hy39, h⟩ := bind_eq_some_iff.mp h
   refine zB Ad W (f := fun y39 => (26, [vR 1, vI x1, vI x2], [.int y39], (H0 s o))) rfl hy39 ?_
   refine zS Ad W 2 (st' := (28, [vR 1, vI x1, vI x2], [.int x2, .ref 1, .int y39], (H0 s o))) rfl ?_
   obtain ⟨r40, hr40, h⟩ := bind_eq_some_iff.mp h
   refine QTri.callP W (a := 1) (as := [.int x2]) (rest := [.int y39]) (w := (some (.int r40))) (σ₁ := (H0 s o)) rfl rfl rfl rfl rfl rfl rfl rfl (tF21 Ad W x2 hr40) ?_
   refine zS Ad W 1 (st' := (32, [vR 1, vI x1, vI x2], [.int (y39 &&& r40)], (H0 s o))) rfl ?_
   rcases qite h with ⟨hc41, h⟩ | ⟨hc41, h⟩
   ·refine zF Ad W (t := 37) (f := 35) rfl (XT.i0_ne_f hc41) ?_
    refine zS Ad W 1 (st' := (36, [vR 1, vI x1, vI x2], [.int (0:Int32)], (H0 s o))) rfl ?_
    obtain rfl := Option.some.inj h
    exact QTri.retI rfl rfl
   ·refine zT Ad W (t := 37) (f := 35) rfl (XT.i0_ne_t hc41) ?_
    refine zS Ad W 5 (st' := (44, [vR 1, vI x1, vI x2], [.int x2, .int x1, .ref 1, .ref 8], (H0 s o))) rfl ?_
    obtain ⟨r42, hr42, h⟩ := bind_eq_some_iff.mp h
    refine QTri.callP W (a := 1) (as := [.int x1, .int x2]) (rest := [.ref 8]) (w := (some (.int r42))) (σ₁ := (H0 s o)) rfl rfl rfl rfl rfl rfl rfl rfl (tF27 Ad W x1 x2 hr42) ?_
    obtain ⟨y43, hy43, h⟩ := bind_eq_some_iff.mp h
    refine zB Ad W (f := fun y43 => (48, [vR 1, vI x1, vI x2], [.int y43], (H0 s o))) rfl hy43 ?_
    obtain rfl := Option.some.inj h
    exact QTri.retI rfl rfl
/-- getValue(I)I -/
def F7 (o : Ob) (x1 : Int32) : Option (Int32) :=
 (F8 o x1).bind fun r45 => (if r45 = (0:Int32) then some (0:Int32) else (aget (f_value o) x1).bind fun y47 => some y47)
theorem tF7 (Ad : QAd n0 ad) (W : QW Z a0) (s : List Int32) (o : Ob) (x1 : Int32) {r : Int32} (h : F7 o x1 = some r) : QTri l Z n0 ad 7 (0, qentry [.ref 1, .int x1] (pMaxL 7), [], (H0 s o)) (some (Value.int r)) (H0 s o) := by
 unfold F7 at h
 refine zS Ad W 2 (st' := (2, [vR 1, vI x1], [.int x1, .ref 1], (H0 s o))) rfl ?_
 obtain ⟨r45, hr45, h⟩ := bind_eq_some_iff.mp h
 refine QTri.callP W (a := 1) (as := [.int x1]) (rest := []) (w := (some (.int r45))) (σ₁ := (H0 s o)) rfl rfl rfl rfl rfl rfl rfl rfl (tF8 Ad W s o x1 hr45) ?_
 rcases qite h with ⟨hc46, h⟩ | ⟨hc46, h⟩
 ·refine zF Ad W (t := 10) (f := 8) rfl (XT.i0_ne_f hc46) ?_
  refine zS Ad W 1 (st' := (9, [vR 1, vI x1], [.int (0:Int32)], (H0 s o))) rfl ?_
  obtain rfl := Option.some.inj h
  exact QTri.retI rfl rfl
 ·refine zT Ad W (t := 10) (f := 8) rfl (XT.i0_ne_t hc46) ?_
  refine zS Ad W 3 (st' := (15, [vR 1, vI x1], [.int x1, .ref 2], (H0 s o))) rfl ?_
  obtain ⟨y47, hy47, h⟩ := bind_eq_some_iff.mp h
  refine zB Ad W (f := fun y47 => (16, [vR 1, vI x1], [.int y47], (H0 s o))) rfl hy47 ?_
  obtain rfl := Option.some.inj h
  exact QTri.retI rfl rfl
/-- pick(IIIII)I -/
def F9 (x0 : Int32) (x1 : Int32) (x2 : Int32) (x3 : Int32) (x4 : Int32) : Option (Int32) :=
 (if x0 = (0:Int32) then some x1 else (if x0 = (1:Int32) then some x2 else (if x0 = (2:Int32) then some x3 else some x4)))
theorem tF9 (Ad : QAd n0 ad) (W : QW Z a0) {σ : QHeap} (x0 : Int32) (x1 : Int32) (x2 : Int32) (x3 : Int32) (x4 : Int32) {r : Int32} (h : F9 x0 x1 x2 x3 x4 = some r) : QTri l Z n0 ad 9 (0, qentry [.int x0, .int x1, .int x2, .int x3, .int x4] (pMaxL 9), [], σ) (some (Value.int r)) σ := by
 unfold F9 at h
 refine zS Ad W 1 (st' := (1, [vI x0, vI x1, vI x2, vI x3, vI x4], [.int x0], σ)) rfl ?_
 rcases qite h with ⟨hc49, h⟩ | ⟨hc49, h⟩
 ·refine zF Ad W (t := 6) (f := 4) rfl (XT.i0_ne_f hc49) ?_
  refine zS Ad W 1 (st' := (5, [vI x0, vI x1, vI x2, vI x3, vI x4], [.int x1], σ)) rfl ?_
  obtain rfl := Option.some.inj h
  exact QTri.retI rfl rfl
 ·refine zT Ad W (t := 6) (f := 4) rfl (XT.i0_ne_t hc49) ?_
  refine zS Ad W 2 (st' := (8, [vI x0, vI x1, vI x2, vI x3, vI x4], [.int (1:Int32), .int x0], σ)) rfl ?_
  rcases qite h with ⟨hc50, h⟩ | ⟨hc50, h⟩
  ·refine zF Ad W (t := 13) (f := 11) rfl (XT.ii_ne_f hc50) ?_
   refine zS Ad W 1 (st' := (12, [vI x0, vI x1, vI x2, vI x3, vI x4], [.int x2], σ)) rfl ?_
   obtain rfl := Option.some.inj h
   exact QTri.retI rfl rfl
  ·refine zT Ad W (t := 13) (f := 11) rfl (XT.ii_ne_t hc50) ?_
   refine zS Ad W 2 (st' := (15, [vI x0, vI x1, vI x2, vI x3, vI x4], [.int (2:Int32), .int x0], σ)) rfl ?_
   rcases qite h with ⟨hc51, h⟩ | ⟨hc51, h⟩
   ·refine zF Ad W (t := 20) (f := 18) rfl (XT.ii_ne_f hc51) ?_
    refine zS Ad W 1 (st' := (19, [vI x0, vI x1, vI x2, vI x3, vI x4], [.int x3], σ)) rfl ?_
    obtain rfl := Option.some.inj h
    exact QTri.retI rfl rfl
   ·refine zT Ad W (t := 20) (f := 18) rfl (XT.ii_ne_t hc51) ?_
    refine zS Ad W 1 (st' := (22, [vI x0, vI x1, vI x2, vI x3, vI x4], [.int x4], σ)) rfl ?_
    obtain rfl := Option.some.inj h
    exact QTri.retI rfl rfl
def B0_174 (s : List Int32) (p0 : Ob) (x2 : Int32) (x3 : Int32) (x4 : Int32) (x5 : Int32) (x6 : Int32) (x7 : Int32) (x8 : Int32) (x9 : Int32) (x10 : Int32) (v : Int32) : Option (((Int32)) ⊕ (Int32)) :=
  (if v < (4 : Int32) then (if ((x2 >>> (v &&& 31)) &&& (1 : Int32)) = (1 : Int32) then some (.inr (v + (1 : Int32))) else some (.inl v)) else some (.inl v))
theorem tB0_174 (Ad : QAd n0 ad) (W : QW Z a0) (s : List Int32) (p0 : Ob) (x2 : Int32) (x3 : Int32) (x4 : Int32) (x5 : Int32) (x6 : Int32) (x7 : Int32) (x8 : Int32) (x9 : Int32) (x10 : Int32) (v : Int32) {r : ((Int32)) ⊕ (Int32)} {u : Option Value} {τ : QHeap} (h : B0_174 s p0 x2 x3 x4 x5 x6 x7 x8 x9 x10 v = some r) (hx0 : ∀ x : Int32, r = .inl x → QTri l Z n0 ad 0 (196, [vR 0, vR 1, vI x2, vI x3, vI x4, vI x5, vI x6, vI x7, vI x8, vI x9, vI x10, none, none, none, none, none, none, none, none, none, none, vI x, none, none], [], (H0 s p0)) u τ) (hc : ∀ x : Int32, r = .inr x → QTri l Z n0 ad 0 (174, [vR 0, vR 1, vI x2, vI x3, vI x4, vI x5, vI x6, vI x7, vI x8, vI x9, vI x10, none, none, none, none, none, none, none, none, none, none, vI x, none, none], [], (H0 s p0)) u τ) : QTri l Z n0 ad 0 (174, [vR 0, vR 1, vI x2, vI x3, vI x4, vI x5, vI x6, vI x7, vI x8, vI x9, vI x10, none, none, none, none, none, none, none, none, none, none, vI v, none, none], [], (H0 s p0)) u τ := by
 unfold B0_174 at h
 refine zS Ad W 2 (st' := (177, [vR 0, vR 1, vI x2, vI x3, vI x4, vI x5, vI x6, vI x7, vI x8, vI x9, vI x10, none, none, none, none, none, none, none, none, none, none, vI v, none, none], [.int (4:Int32), .int v], (H0 s p0))) rfl ?_
 rcases qite h with ⟨hc54, h⟩ | ⟨hc54, h⟩
 ·refine zF Ad W (t := 196) (f := 180) rfl (XT.ii_ge_f hc54) ?_
  refine zS Ad W 6 (st' := (187, [vR 0, vR 1, vI x2, vI x3, vI x4, vI x5, vI x6, vI x7, vI x8, vI x9, vI x10, none, none, none, none, none, none, none, none, none, none, vI v, none, none], [.int (1:Int32), .int ((x2 >>> (v &&& 31)) &&& (1:Int32))], (H0 s p0))) rfl ?_
  rcases qite h with ⟨hc55, h⟩ | ⟨hc55, h⟩
  ·refine zF Ad W (t := 196) (f := 190) rfl (XT.ii_ne_f hc55) ?_
   refine zS Ad W 2 (st' := (174, [vR 0, vR 1, vI x2, vI x3, vI x4, vI x5, vI x6, vI x7, vI x8, vI x9, vI x10, none, none, none, none, none, none, none, none, none, none, vI (v + (1:Int32)), none, none], [], (H0 s p0))) rfl ?_
   obtain rfl := Option.some.inj h
   exact zM [tt,tt,tt,tt,tt,tt,tt,tt,tt,tt,tt,ff,ff,ff,ff,ff,ff,ff,ff,ff,ff,tt,ff,ff] (hc (v + (1:Int32)) rfl)
  ·refine zT Ad W (t := 196) (f := 190) rfl (XT.ii_ne_t hc55) ?_
   obtain rfl := Option.some.inj h
   exact zM [tt,tt,tt,tt,tt,tt,tt,tt,tt,tt,tt,ff,ff,ff,ff,ff,ff,ff,ff,ff,ff,tt,ff,ff] (hx0 v rfl)
 ·refine zT Ad W (t := 196) (f := 180) rfl (XT.ii_ge_t hc54) ?_
  obtain rfl := Option.some.inj h
  exact zM [tt,tt,tt,tt,tt,tt,tt,tt,tt,tt,tt,ff,ff,ff,ff,ff,ff,ff,ff,ff,ff,tt,ff,ff] (hx0 v rfl)
def B18_2 (o : Ob) (v : Int32) : Option (((Int32)) ⊕ (Int32)) :=
  (if v < (f_slotCount o) then (if v < (8 : Int32) then (aget (f_active o) v).bind fun y60 => (if y60 = (0 : Int32) then some (.inl v) else some (.inr (v + (1 : Int32)))) else some (.inl (-1 : Int32))) else some (.inl (-1 : Int32)))
theorem tB18_2 (Ad : QAd n0 ad) (W : QW Z a0) (s : List Int32) (o : Ob) (v : Int32) {r : ((Int32)) ⊕ (Int32)} {u : Option Value} {τ : QHeap} (h : B18_2 o v = some r) (hx0 : ∀ x : Int32, r = .inl x → u = (some (Value.int x)) ∧ τ = (H0 s o)) (hc : ∀ x : Int32, r = .inr x → QTri l Z n0 ad 18 (2, [vR 1, vI x], [], (H0 s o)) u τ) : QTri l Z n0 ad 18 (2, [vR 1, vI v], [], (H0 s o)) u τ := by
 unfold B18_2 at h
 refine zS Ad W 3 (st' := (7, [vR 1, vI v], [.int (f_slotCount o), .int v], (H0 s o))) rfl ?_
 rcases qite h with ⟨hc58, h⟩ | ⟨hc58, h⟩
 ·refine zF Ad W (t := 33) (f := 10) rfl (XT.ii_ge_f hc58) ?_
  refine zS Ad W 2 (st' := (13, [vR 1, vI v], [.int (8:Int32), .int v], (H0 s o))) rfl ?_
  rcases qite h with ⟨hc59, h⟩ | ⟨hc59, h⟩
  ·refine zF Ad W (t := 33) (f := 16) rfl (XT.ii_ge_f hc59) ?_
   refine zS Ad W 3 (st' := (21, [vR 1, vI v], [.int v, .ref 4], (H0 s o))) rfl ?_
   obtain ⟨y60, hy60, h⟩ := bind_eq_some_iff.mp h
   refine zB Ad W (f := fun y60 => (22, [vR 1, vI v], [.int y60], (H0 s o))) rfl hy60 ?_
   rcases qite h with ⟨hc61, h⟩ | ⟨hc61, h⟩
   ·refine zF Ad W (t := 27) (f := 25) rfl (XT.i0_ne_f hc61) ?_
    refine zS Ad W 1 (st' := (26, [vR 1, vI v], [.int v], (H0 s o))) rfl ?_
    obtain rfl := Option.some.inj h
    obtain ⟨rfl, rfl⟩ := hx0 v rfl
    exact QTri.retI rfl rfl
   ·refine zT Ad W (t := 27) (f := 25) rfl (XT.i0_ne_t hc61) ?_
    refine zS Ad W 2 (st' := (2, [vR 1, vI (v + (1:Int32))], [], (H0 s o))) rfl ?_
    obtain rfl := Option.some.inj h
    exact zM [tt,tt] (hc (v + (1:Int32)) rfl)
  ·refine zT Ad W (t := 33) (f := 16) rfl (XT.ii_ge_t hc59) ?_
   refine zS Ad W 1 (st' := (34, [vR 1, vI v], [.int (-1:Int32)], (H0 s o))) rfl ?_
   obtain rfl := Option.some.inj h
   obtain ⟨rfl, rfl⟩ := hx0 (-1:Int32) rfl
   exact QTri.retI rfl rfl
 ·refine zT Ad W (t := 33) (f := 10) rfl (XT.ii_ge_t hc58) ?_
  refine zS Ad W 1 (st' := (34, [vR 1, vI v], [.int (-1:Int32)], (H0 s o))) rfl ?_
  obtain rfl := Option.some.inj h
  obtain ⟨rfl, rfl⟩ := hx0 (-1:Int32) rfl
  exact QTri.retI rfl rfl
/-- findFreeSlot()I -/
def F18 (o : Ob) : Option (Int32) :=
 (loopN (B18_2 o) qN (0:Int32)).bind fun e62 => some e62
theorem tF18 (Ad : QAd n0 ad) (W : QW Z a0) (s : List Int32) (o : Ob) {r : Int32} (h : F18 o = some r) : QTri l Z n0 ad 18 (0, qentry [.ref 1] (pMaxL 18), [], (H0 s o)) (some (Value.int r)) (H0 s o) := by
 unfold F18 at h
 refine zS Ad W 2 (st' := (2, [vR 1, vI (0:Int32)], [], (H0 s o))) rfl ?_
 obtain ⟨e62, he62, h⟩ := bind_eq_some_iff.mp h
 refine zM [tt,tt] (loopN_tri (B := B18_2 o) (T := fun lv63 => QTri l Z n0 ad 18 (2, [vR 1, vI lv63], [], (H0 s o)) (some (Value.int r)) (H0 s o)) (KE := fun e62a => (some (Value.int r)) = (some (Value.int e62a)) ∧ (H0 s o) = (H0 s o)) (fun lv63 r hB hE hC => tB18_2 Ad W s o lv63 hB (fun x q => hE _ q) (fun x q => hC x q)) qN (0:Int32) e62 he62 ?_)
 obtain rfl := Option.some.inj h
 exact ⟨rfl, rfl⟩
def H0x7 (s : List Int32) (o0 : Ob) (a0_2 : List Int32) : QHeap := H0v s (f_value o0) (f_version o0) a0_2 (f_start o0) (f_readSet o0) (f_writeSet o0) (f_buffered o0) (f_keyCount o0) (f_slotCount o0) (f_window o0) (f_commitCount o0) (f_abortCount o0) (f_lastConflict o0)
def H0x8 (s : List Int32) (o0 : Ob) (a0_2 : List Int32) (a0_3 : List Int32) : QHeap := H0v s (f_value o0) (f_version o0) a0_2 a0_3 (f_readSet o0) (f_writeSet o0) (f_buffered o0) (f_keyCount o0) (f_slotCount o0) (f_window o0) (f_commitCount o0) (f_abortCount o0) (f_lastConflict o0)
def H0x9 (s : List Int32) (o0 : Ob) (a0_2 : List Int32) (a0_3 : List Int32) (a0_4 : List Int32) : QHeap := H0v s (f_value o0) (f_version o0) a0_2 a0_3 a0_4 (f_writeSet o0) (f_buffered o0) (f_keyCount o0) (f_slotCount o0) (f_window o0) (f_commitCount o0) (f_abortCount o0) (f_lastConflict o0)
def H0x10 (s : List Int32) (o0 : Ob) (a0_2 : List Int32) (a0_3 : List Int32) (a0_4 : List Int32) (a0_5 : List Int32) : QHeap := H0v s (f_value o0) (f_version o0) a0_2 a0_3 a0_4 a0_5 (f_buffered o0) (f_keyCount o0) (f_slotCount o0) (f_window o0) (f_commitCount o0) (f_abortCount o0) (f_lastConflict o0)
def H0x11 (s : List Int32) (o0 : Ob) (a0_6 : List Int32) : QHeap := H0v s (f_value o0) (f_version o0) (f_active o0) (f_start o0) (f_readSet o0) (f_writeSet o0) a0_6 (f_keyCount o0) (f_slotCount o0) (f_window o0) (f_commitCount o0) (f_abortCount o0) (f_lastConflict o0)
def B20_35 (x2 : Int32) (v : Int32 × Ob) : Option (((Ob)) ⊕ (Int32 × Ob)) :=
  (if v.1 < (32 : Int32) then (aset (f_buffered v.2) (x2 + v.1) (0 : Int32)).bind fun y72 => some (.inr ((v.1 + (1 : Int32)), (s_buffered v.2 y72))) else some (.inl v.2))
theorem tB20_35 (Ad : QAd n0 ad) (W : QW Z a0) (s : List Int32) (x2 : Int32) (v : Int32 × Ob) {r : ((Ob)) ⊕ (Int32 × Ob)} {u : Option Value} {τ : QHeap} (h : B20_35 x2 v = some r) (hx0 : ∀ x : Ob, r = .inl x → u = (none : Option Value) ∧ τ = (H0 s x)) (hc : ∀ x : Int32 × Ob, r = .inr x → QTri l Z n0 ad 20 (35, [vR 1, none, vI x2, vI x.1], [], (H0 s x.2)) u τ) : QTri l Z n0 ad 20 (35, [vR 1, none, vI x2, vI v.1], [], (H0 s v.2)) u τ := by
 unfold B20_35 at h
 refine zS Ad W 2 (st' := (38, [vR 1, none, vI x2, vI v.1], [.int (32:Int32), .int v.1], (H0 s v.2))) rfl ?_
 rcases qite h with ⟨hc71, h⟩ | ⟨hc71, h⟩
 ·refine zF Ad W (t := 56) (f := 41) rfl (XT.ii_ge_f hc71) ?_
  refine zS Ad W 6 (st' := (49, [vR 1, none, vI x2, vI v.1], [.int (0:Int32), .int (x2 + v.1), .ref 8], (H0 s v.2))) rfl ?_
  obtain ⟨y72, hy72, h⟩ := bind_eq_some_iff.mp h
  refine zB Ad W (f := fun y72 => (50, [vR 1, none, vI x2, vI v.1], [], (H0x11 s v.2 y72))) rfl hy72 ?_
  refine zS Ad W 2 (st' := (35, [vR 1, none, vI x2, vI (v.1 + (1:Int32))], [], (H0x11 s v.2 y72))) rfl ?_
  have E73 : ((H0x11 s v.2 y72) : QHeap) = (H0 s (s_buffered v.2 y72)) := by simp only [fs, H0, H0v, H0x11, s_buffered]
  rw [E73]
  obtain rfl := Option.some.inj h
  exact zM [tt,ff,tt,tt] (hc ((v.1 + (1:Int32)), (s_buffered v.2 y72)) rfl)
 ·refine zT Ad W (t := 56) (f := 41) rfl (XT.ii_ge_t hc71) ?_
  obtain rfl := Option.some.inj h
  obtain ⟨rfl, rfl⟩ := hx0 v.2 rfl
  exact QTri.ret0 rfl rfl
/-- clearSlot(I)V -/
def F20 (o : Ob) (x1 : Int32) : Option (Ob) :=
 (aset (f_active o) x1 (0:Int32)).bind fun y66 => (aset (f_start o) x1 (0:Int32)).bind fun y67 => (aset (f_readSet o) x1 (0:Int32)).bind fun y68 => (aset (f_writeSet o) x1 (0:Int32)).bind fun y69 => (loopN (B20_35 (x1 * (32:Int32))) qN ((0:Int32), (s_writeSet (s_readSet (s_start (s_active o y66) y67) y68) y69))).bind fun e74 => some e74
theorem tF20 (Ad : QAd n0 ad) (W : QW Z a0) (s : List Int32) (o : Ob) (x1 : Int32) {r : Ob} (h : F20 o x1 = some r) : QTri l Z n0 ad 20 (0, qentry [.ref 1, .int x1] (pMaxL 20), [], (H0 s o)) (none : Option Value) (H0 s r) := by
 unfold F20 at h
 refine zS Ad W 4 (st' := (6, [vR 1, vI x1, none, none], [.int (0:Int32), .int x1, .ref 4], (H0 s o))) rfl ?_
 obtain ⟨y66, hy66, h⟩ := bind_eq_some_iff.mp h
 refine zB Ad W (f := fun y66 => (7, [vR 1, vI x1, none, none], [], (H0x7 s o y66))) rfl hy66 ?_
 refine zS Ad W 4 (st' := (13, [vR 1, vI x1, none, none], [.int (0:Int32), .int x1, .ref 5], (H0x7 s o y66))) rfl ?_
 obtain ⟨y67, hy67, h⟩ := bind_eq_some_iff.mp h
 refine zB Ad W (f := fun y67 => (14, [vR 1, vI x1, none, none], [], (H0x8 s o y66 y67))) rfl hy67 ?_
 refine zS Ad W 4 (st' := (20, [vR 1, vI x1, none, none], [.int (0:Int32), .int x1, .ref 6], (H0x8 s o y66 y67))) rfl ?_
 obtain ⟨y68, hy68, h⟩ := bind_eq_some_iff.mp h
 refine zB Ad W (f := fun y68 => (21, [vR 1, vI x1, none, none], [], (H0x9 s o y66 y67 y68))) rfl hy68 ?_
 refine zS Ad W 4 (st' := (27, [vR 1, vI x1, none, none], [.int (0:Int32), .int x1, .ref 7], (H0x9 s o y66 y67 y68))) rfl ?_
 obtain ⟨y69, hy69, h⟩ := bind_eq_some_iff.mp h
 refine zB Ad W (f := fun y69 => (28, [vR 1, vI x1, none, none], [], (H0x10 s o y66 y67 y68 y69))) rfl hy69 ?_
 refine zS Ad W 6 (st' := (35, [vR 1, vI x1, vI (x1 * (32:Int32)), vI (0:Int32)], [], (H0x10 s o y66 y67 y68 y69))) rfl ?_
 have E70 : ((H0x10 s o y66 y67 y68 y69) : QHeap) = (H0 s (s_writeSet (s_readSet (s_start (s_active o y66) y67) y68) y69)) := by simp only [fs, H0, H0v, H0x10, s_active, s_start, s_readSet, s_writeSet]
 rw [E70]
 obtain ⟨e74, he74, h⟩ := bind_eq_some_iff.mp h
 refine zM [tt,ff,tt,tt] (loopN_tri (B := B20_35 (x1 * (32:Int32))) (T := fun lv75 => QTri l Z n0 ad 20 (35, [vR 1, none, vI (x1 * (32:Int32)), vI lv75.1], [], (H0 s lv75.2)) (none : Option Value) (H0 s r)) (KE := fun e74a => (none : Option Value) = (none : Option Value) ∧ (H0 s r) = (H0 s e74a)) (fun lv75 r hB hE hC => tB20_35 Ad W s (x1 * (32:Int32)) lv75 hB (fun x q => hE _ q) (fun x q => hC x q)) qN ((0:Int32), (s_writeSet (s_readSet (s_start (s_active o y66) y67) y68) y69)) e74 he74 ?_)
 obtain rfl := Option.some.inj h
 exact ⟨rfl, rfl⟩
/-- openSlot(I)V -/
def F19 (o : Ob) (x1 : Int32) : Option (Ob) :=
 (F20 o x1).bind fun r76 => (aset (f_active r76) x1 (1:Int32)).bind fun y77 => (aset (f_start r76) x1 (f_commitCount r76)).bind fun y78 => some (s_start (s_active r76 y77) y78)
theorem tF19 (Ad : QAd n0 ad) (W : QW Z a0) (s : List Int32) (o : Ob) (x1 : Int32) {r : Ob} (h : F19 o x1 = some r) : QTri l Z n0 ad 19 (0, qentry [.ref 1, .int x1] (pMaxL 19), [], (H0 s o)) (none : Option Value) (H0 s r) := by
 unfold F19 at h
 refine zS Ad W 2 (st' := (2, [vR 1, vI x1], [.int x1, .ref 1], (H0 s o))) rfl ?_
 obtain ⟨r76, hr76, h⟩ := bind_eq_some_iff.mp h
 refine QTri.callP W (a := 1) (as := [.int x1]) (rest := []) (w := none) (σ₁ := (H0 s r76)) rfl rfl rfl rfl rfl rfl rfl rfl (tF20 Ad W s o x1 hr76) ?_
 refine zS Ad W 4 (st' := (11, [vR 1, vI x1], [.int (1:Int32), .int x1, .ref 4], (H0 s r76))) rfl ?_
 obtain ⟨y77, hy77, h⟩ := bind_eq_some_iff.mp h
 refine zB Ad W (f := fun y77 => (12, [vR 1, vI x1], [], (H0x7 s r76 y77))) rfl hy77 ?_
 refine zS Ad W 5 (st' := (21, [vR 1, vI x1], [.int (f_commitCount r76), .int x1, .ref 5], (H0x7 s r76 y77))) rfl ?_
 obtain ⟨y78, hy78, h⟩ := bind_eq_some_iff.mp h
 refine zB Ad W (f := fun y78 => (22, [vR 1, vI x1], [], (H0x8 s r76 y77 y78))) rfl hy78 ?_
 have E79 : ((H0x8 s r76 y77 y78) : QHeap) = (H0 s (s_start (s_active r76 y77) y78)) := by simp only [fs, H0, H0v, H0x8, s_active, s_start]
 rw [E79]
 obtain rfl := Option.some.inj h
 exact QTri.ret0 rfl rfl
/-- begin()I -/
def F17 (o : Ob) : Option (Int32 × Ob) :=
 (F18 o).bind fun r64 => (if r64 < (0:Int32) then some ((-5:Int32), o) else (F19 o r64).bind fun r80 => some (r64, r80))
theorem tF17 (Ad : QAd n0 ad) (W : QW Z a0) (s : List Int32) (o : Ob) {r : Int32 × Ob} (h : F17 o = some r) : QTri l Z n0 ad 17 (0, qentry [.ref 1] (pMaxL 17), [], (H0 s o)) (some (Value.int r.1)) (H0 s r.2) := by
 unfold F17 at h
 refine zS Ad W 1 (st' := (1, [vR 1, none], [.ref 1], (H0 s o))) rfl ?_
 obtain ⟨r64, hr64, h⟩ := bind_eq_some_iff.mp h
 refine QTri.callP W (a := 1) (as := []) (rest := []) (w := (some (.int r64))) (σ₁ := (H0 s o)) rfl rfl rfl rfl rfl rfl rfl rfl (tF18 Ad W s o hr64) ?_
 refine zS Ad W 2 (st' := (6, [vR 1, vI r64], [.int r64], (H0 s o))) rfl ?_
 rcases qite h with ⟨hc65, h⟩ | ⟨hc65, h⟩
 ·refine zF Ad W (t := 12) (f := 9) rfl (XT.i0_ge_f hc65) ?_
  refine zS Ad W 1 (st' := (11, [vR 1, vI r64], [.int (-5:Int32)], (H0 s o))) rfl ?_
  obtain rfl := Option.some.inj h
  exact QTri.retI rfl rfl
 ·refine zT Ad W (t := 12) (f := 9) rfl (XT.i0_ge_t hc65) ?_
  refine zS Ad W 2 (st' := (14, [vR 1, vI r64], [.int r64, .ref 1], (H0 s o))) rfl ?_
  obtain ⟨r80, hr80, h⟩ := bind_eq_some_iff.mp h
  refine QTri.callP W (a := 1) (as := [.int r64]) (rest := []) (w := none) (σ₁ := (H0 s r80)) rfl rfl rfl rfl rfl rfl rfl rfl (tF19 Ad W s o r64 hr80) ?_
  refine zS Ad W 1 (st' := (18, [vR 1, vI r64], [.int r64], (H0 s r80))) rfl ?_
  obtain rfl := Option.some.inj h
  exact QTri.retI rfl rfl
/-- getCommitCount()I -/
def F11 (o : Ob) : Option (Int32) :=
 some (f_commitCount o)
theorem tF11 (Ad : QAd n0 ad) (W : QW Z a0) (s : List Int32) (o : Ob) {r : Int32} (h : F11 o = some r) : QTri l Z n0 ad 11 (0, qentry [.ref 1] (pMaxL 11), [], (H0 s o)) (some (Value.int r)) (H0 s o) := by
 unfold F11 at h
 refine zS Ad W 2 (st' := (4, [vR 1], [.int (f_commitCount o)], (H0 s o))) rfl ?_
 obtain rfl := Option.some.inj h
 exact QTri.retI rfl rfl
/-- getAbortCount()I -/
def F12 (o : Ob) : Option (Int32) :=
 some (f_abortCount o)
theorem tF12 (Ad : QAd n0 ad) (W : QW Z a0) (s : List Int32) (o : Ob) {r : Int32} (h : F12 o = some r) : QTri l Z n0 ad 12 (0, qentry [.ref 1] (pMaxL 12), [], (H0 s o)) (some (Value.int r)) (H0 s o) := by
 unfold F12 at h
 refine zS Ad W 2 (st' := (4, [vR 1], [.int (f_abortCount o)], (H0 s o))) rfl ?_
 obtain rfl := Option.some.inj h
 exact QTri.retI rfl rfl
/-- getLastConflictKey()I -/
def F13 (o : Ob) : Option (Int32) :=
 some (f_lastConflict o)
theorem tF13 (Ad : QAd n0 ad) (W : QW Z a0) (s : List Int32) (o : Ob) {r : Int32} (h : F13 o = some r) : QTri l Z n0 ad 13 (0, qentry [.ref 1] (pMaxL 13), [], (H0 s o)) (some (Value.int r)) (H0 s o) := by
 unfold F13 at h
 refine zS Ad W 2 (st' := (4, [vR 1], [.int (f_lastConflict o)], (H0 s o))) rfl ?_
 obtain rfl := Option.some.inj h
 exact QTri.retI rfl rfl
/-- isActive(I)Z -/
def F14 (o : Ob) (x1 : Int32) : Option (Int32) :=
 (F4 o x1).bind fun r95 => some (r95 &&& 1)
theorem tF14 (Ad : QAd n0 ad) (W : QW Z a0) (s : List Int32) (o : Ob) (x1 : Int32) {r : Int32} (h : F14 o x1 = some r) : QTri l Z n0 ad 14 (0, qentry [.ref 1, .int x1] (pMaxL 14), [], (H0 s o)) (some (Value.int r)) (H0 s o) := by
 unfold F14 at h
 refine zS Ad W 2 (st' := (2, [vR 1, vI x1], [.int x1, .ref 1], (H0 s o))) rfl ?_
 obtain ⟨r95, hr95, h⟩ := bind_eq_some_iff.mp h
 refine QTri.callP W (a := 1) (as := [.int x1]) (rest := []) (w := (some (.int r95))) (σ₁ := (H0 s o)) rfl rfl rfl rfl rfl rfl rfl rfl (tF4 Ad W s o x1 hr95) ?_
 obtain rfl := Option.some.inj h
 exact QTri.retZ rfl rfl
/-- getStart(I)I -/
def F15 (o : Ob) (x1 : Int32) : Option (Int32) :=
 (F4 o x1).bind fun r100 => (if r100 = (0:Int32) then some (-1:Int32) else (aget (f_start o) x1).bind fun y102 => some y102)
theorem tF15 (Ad : QAd n0 ad) (W : QW Z a0) (s : List Int32) (o : Ob) (x1 : Int32) {r : Int32} (h : F15 o x1 = some r) : QTri l Z n0 ad 15 (0, qentry [.ref 1, .int x1] (pMaxL 15), [], (H0 s o)) (some (Value.int r)) (H0 s o) := by
 unfold F15 at h
 refine zS Ad W 2 (st' := (2, [vR 1, vI x1], [.int x1, .ref 1], (H0 s o))) rfl ?_
 obtain ⟨r100, hr100, h⟩ := bind_eq_some_iff.mp h
 refine QTri.callP W (a := 1) (as := [.int x1]) (rest := []) (w := (some (.int r100))) (σ₁ := (H0 s o)) rfl rfl rfl rfl rfl rfl rfl rfl (tF4 Ad W s o x1 hr100) ?_
 rcases qite h with ⟨hc101, h⟩ | ⟨hc101, h⟩
 ·refine zF Ad W (t := 10) (f := 8) rfl (XT.i0_ne_f hc101) ?_
  refine zS Ad W 1 (st' := (9, [vR 1, vI x1], [.int (-1:Int32)], (H0 s o))) rfl ?_
  obtain rfl := Option.some.inj h
  exact QTri.retI rfl rfl
 ·refine zT Ad W (t := 10) (f := 8) rfl (XT.i0_ne_t hc101) ?_
  refine zS Ad W 3 (st' := (15, [vR 1, vI x1], [.int x1, .ref 5], (H0 s o))) rfl ?_
  obtain ⟨y102, hy102, h⟩ := bind_eq_some_iff.mp h
  refine zB Ad W (f := fun y102 => (16, [vR 1, vI x1], [.int y102], (H0 s o))) rfl hy102 ?_
  obtain rfl := Option.some.inj h
  exact QTri.retI rfl rfl
def J0_881 (s : List Int32) (p0 : Ob) (x2 : Int32) (x3 : Int32) (x4 : Int32) (x5 : Int32) (x6 : Int32) (x7 : Int32) (x8 : Int32) (x9 : Int32) (x10 : Int32) (x21 : Int32) : Option (((Unit) ⊕ (Int32 × QHeap)) ⊕ (Int32)) :=
  some (.inr (x21 + (1 : Int32)))
theorem tJ0_881 (Ad : QAd n0 ad) (W : QW Z a0) (s : List Int32) (p0 : Ob) (x2 : Int32) (x3 : Int32) (x4 : Int32) (x5 : Int32) (x6 : Int32) (x7 : Int32) (x8 : Int32) (x9 : Int32) (x10 : Int32) (x21 : Int32) {r : ((Unit) ⊕ (Int32 × QHeap)) ⊕ (Int32)} {u : Option Value} {τ : QHeap} (h : J0_881 s p0 x2 x3 x4 x5 x6 x7 x8 x9 x10 x21 = some r) (hx0 : ∀ x : Unit, r = .inl (Sum.inl x) → QTri l Z n0 ad 0 (887, [vR 0, vR 1, vI x2, vI x3, vI x4, vI x5, vI x6, vI x7, vI x8, vI x9, vI x10, none, none, none, none, none, none, none, none, none, none, none, none, none], [], (H0 s p0)) u τ) (hx1 : ∀ x : Int32 × QHeap, r = .inl (Sum.inr x) → u = (some (Value.int x.1)) ∧ τ = x.2) (hc : ∀ x : Int32, r = .inr x → QTri l Z n0 ad 0 (775, [vR 0, vR 1, vI x2, vI x3, vI x4, vI x5, vI x6, vI x7, vI x8, vI x9, vI x10, none, none, none, none, none, none, none, none, none, none, vI x, none, none], [], (H0 s p0)) u τ) : QTri l Z n0 ad 0 (881, [vR 0, vR 1, vI x2, vI x3, vI x4, vI x5, vI x6, vI x7, vI x8, vI x9, vI x10, none, none, none, none, none, none, none, none, none, none, vI x21, none, none], [], (H0 s p0)) u τ := by
 unfold J0_881 at h
 refine zS Ad W 2 (st' := (775, [vR 0, vR 1, vI x2, vI x3, vI x4, vI x5, vI x6, vI x7, vI x8, vI x9, vI x10, none, none, none, none, none, none, none, none, none, none, vI (x21 + (1:Int32)), none, none], [], (H0 s p0))) rfl ?_
 obtain rfl := Option.some.inj h
 exact zM [tt,tt,tt,tt,tt,tt,tt,tt,tt,tt,tt,ff,ff,ff,ff,ff,ff,ff,ff,ff,ff,tt,ff,ff] (hc (x21 + (1:Int32)) rfl)
def J0_846 (s : List Int32) (p0 : Ob) (x2 : Int32) (x3 : Int32) (x4 : Int32) (x5 : Int32) (x6 : Int32) (x7 : Int32) (x8 : Int32) (x9 : Int32) (x10 : Int32) (x21 : Int32) (x22 : Int32) : Option (((Unit) ⊕ (Int32 × QHeap)) ⊕ (Int32)) :=
  (if x22 = (0 : Int32) then (F15 p0 x21).bind fun r103 => (if r103 = (-1 : Int32) then (F3 p0 x21).bind fun r105 => (if r105 = (0 : Int32) then (F5 p0 x21).bind fun r107 => (if r107 = (0 : Int32) then (J0_881 s p0 x2 x3 x4 x5 x6 x7 x8 x9 x10 x21) else some (.inl (Sum.inr ((0 : Int32), (H0 s p0))))) else some (.inl (Sum.inr ((0 : Int32), (H0 s p0))))) else some (.inl (Sum.inr ((0 : Int32), (H0 s p0))))) else (J0_881 s p0 x2 x3 x4 x5 x6 x7 x8 x9 x10 x21))
theorem tJ0_846 (Ad : QAd n0 ad) (W : QW Z a0) (s : List Int32) (p0 : Ob) (x2 : Int32) (x3 : Int32) (x4 : Int32) (x5 : Int32) (x6 : Int32) (x7 : Int32) (x8 : Int32) (x9 : Int32) (x10 : Int32) (x21 : Int32) (x22 : Int32) {r : ((Unit) ⊕ (Int32 × QHeap)) ⊕ (Int32)} {u : Option Value} {τ : QHeap} (h : J0_846 s p0 x2 x3 x4 x5 x6 x7 x8 x9 x10 x21 x22 = some r) (hx0 : ∀ x : Unit, r = .inl (Sum.inl x) → QTri l Z n0 ad 0 (887, [vR 0, vR 1, vI x2, vI x3, vI x4, vI x5, vI x6, vI x7, vI x8, vI x9, vI x10, none, none, none, none, none, none, none, none, none, none, none, none, none], [], (H0 s p0)) u τ) (hx1 : ∀ x : Int32 × QHeap, r = .inl (Sum.inr x) → u = (some (Value.int x.1)) ∧ τ = x.2) (hc : ∀ x : Int32, r = .inr x → QTri l Z n0 ad 0 (775, [vR 0, vR 1, vI x2, vI x3, vI x4, vI x5, vI x6, vI x7, vI x8, vI x9, vI x10, none, none, none, none, none, none, none, none, none, none, vI x, none, none], [], (H0 s p0)) u τ) : QTri l Z n0 ad 0 (846, [vR 0, vR 1, vI x2, vI x3, vI x4, vI x5, vI x6, vI x7, vI x8, vI x9, vI x10, none, none, none, none, none, none, none, none, none, none, vI x21, vI x22, none], [], (H0 s p0)) u τ := by
 unfold J0_846 at h
 refine zS Ad W 1 (st' := (848, [vR 0, vR 1, vI x2, vI x3, vI x4, vI x5, vI x6, vI x7, vI x8, vI x9, vI x10, none, none, none, none, none, none, none, none, none, none, vI x21, vI x22, none], [.int x22], (H0 s p0))) rfl ?_
 rcases qite h with ⟨hc99, h⟩ | ⟨hc99, h⟩
 ·refine zF Ad W (t := 881) (f := 851) rfl (XT.i0_ne_f hc99) ?_
  refine zS Ad W 2 (st' := (854, [vR 0, vR 1, vI x2, vI x3, vI x4, vI x5, vI x6, vI x7, vI x8, vI x9, vI x10, none, none, none, none, none, none, none, none, none, none, vI x21, vI x22, none], [.int x21, .ref 1], (H0 s p0))) rfl ?_
  obtain ⟨r103, hr103, h⟩ := bind_eq_some_iff.mp h
  refine QTri.callV W (a := 1) (as := [.int x21]) (rest := []) (w := (some (.int r103))) (σ₁ := (H0 s p0)) rfl rfl rfl rfl rfl rfl rfl rfl (tF15 Ad W s p0 x21 hr103) ?_
  refine zS Ad W 1 (st' := (858, [vR 0, vR 1, vI x2, vI x3, vI x4, vI x5, vI x6, vI x7, vI x8, vI x9, vI x10, none, none, none, none, none, none, none, none, none, none, vI x21, vI x22, none], [.int (-1:Int32), .int r103], (H0 s p0))) rfl ?_
  rcases qite h with ⟨hc104, h⟩ | ⟨hc104, h⟩
  ·refine zF Ad W (t := 879) (f := 861) rfl (XT.ii_ne_f hc104) ?_
   refine zS Ad W 2 (st' := (864, [vR 0, vR 1, vI x2, vI x3, vI x4, vI x5, vI x6, vI x7, vI x8, vI x9, vI x10, none, none, none, none, none, none, none, none, none, none, vI x21, vI x22, none], [.int x21, .ref 1], (H0 s p0))) rfl ?_
   obtain ⟨r105, hr105, h⟩ := bind_eq_some_iff.mp h
   refine QTri.callV W (a := 1) (as := [.int x21]) (rest := []) (w := (some (.int r105))) (σ₁ := (H0 s p0)) rfl rfl rfl rfl rfl rfl rfl rfl (tF3 Ad W s p0 x21 hr105) ?_
   rcases qite h with ⟨hc106, h⟩ | ⟨hc106, h⟩
   ·refine zF Ad W (t := 879) (f := 870) rfl (XT.i0_ne_f hc106) ?_
    refine zS Ad W 2 (st' := (873, [vR 0, vR 1, vI x2, vI x3, vI x4, vI x5, vI x6, vI x7, vI x8, vI x9, vI x10, none, none, none, none, none, none, none, none, none, none, vI x21, vI x22, none], [.int x21, .ref 1], (H0 s p0))) rfl ?_
    obtain ⟨r107, hr107, h⟩ := bind_eq_some_iff.mp h
    refine QTri.callV W (a := 1) (as := [.int x21]) (rest := []) (w := (some (.int r107))) (σ₁ := (H0 s p0)) rfl rfl rfl rfl rfl rfl rfl rfl (tF5 Ad W s p0 x21 hr107) ?_
    rcases qite h with ⟨hc108, h⟩ | ⟨hc108, h⟩
    ·refine zT Ad W (t := 881) (f := 879) rfl (XT.i0_eq_t hc108) ?_
     exact zM [tt,tt,tt,tt,tt,tt,tt,tt,tt,tt,tt,ff,ff,ff,ff,ff,ff,ff,ff,ff,ff,tt,ff,ff] (tJ0_881 Ad W s p0 x2 x3 x4 x5 x6 x7 x8 x9 x10 x21 h hx0 hx1 hc)
    ·refine zF Ad W (t := 881) (f := 879) rfl (XT.i0_eq_f hc108) ?_
     refine zS Ad W 1 (st' := (880, [vR 0, vR 1, vI x2, vI x3, vI x4, vI x5, vI x6, vI x7, vI x8, vI x9, vI x10, none, none, none, none, none, none, none, none, none, none, vI x21, vI x22, none], [.int (0:Int32)], (H0 s p0))) rfl ?_
     obtain rfl := Option.some.inj h
     obtain ⟨rfl, rfl⟩ := hx1 ((0:Int32), (H0 s p0)) rfl
     exact QTri.retZ rfl rfl
   ·refine zT Ad W (t := 879) (f := 870) rfl (XT.i0_ne_t hc106) ?_
    refine zS Ad W 1 (st' := (880, [vR 0, vR 1, vI x2, vI x3, vI x4, vI x5, vI x6, vI x7, vI x8, vI x9, vI x10, none, none, none, none, none, none, none, none, none, none, vI x21, vI x22, none], [.int (0:Int32)], (H0 s p0))) rfl ?_
    obtain rfl := Option.some.inj h
    obtain ⟨rfl, rfl⟩ := hx1 ((0:Int32), (H0 s p0)) rfl
    exact QTri.retZ rfl rfl
  ·refine zT Ad W (t := 879) (f := 861) rfl (XT.ii_ne_t hc104) ?_
   refine zS Ad W 1 (st' := (880, [vR 0, vR 1, vI x2, vI x3, vI x4, vI x5, vI x6, vI x7, vI x8, vI x9, vI x10, none, none, none, none, none, none, none, none, none, none, vI x21, vI x22, none], [.int (0:Int32)], (H0 s p0))) rfl ?_
   obtain rfl := Option.some.inj h
   obtain ⟨rfl, rfl⟩ := hx1 ((0:Int32), (H0 s p0)) rfl
   exact QTri.retZ rfl rfl
 ·refine zT Ad W (t := 881) (f := 851) rfl (XT.i0_ne_t hc99) ?_
  exact zM [tt,tt,tt,tt,tt,tt,tt,tt,tt,tt,tt,ff,ff,ff,ff,ff,ff,ff,ff,ff,ff,tt,ff,ff] (tJ0_881 Ad W s p0 x2 x3 x4 x5 x6 x7 x8 x9 x10 x21 h hx0 hx1 hc)
def B0_775 (s : List Int32) (p0 : Ob) (x2 : Int32) (x3 : Int32) (x4 : Int32) (x5 : Int32) (x6 : Int32) (x7 : Int32) (x8 : Int32) (x9 : Int32) (x10 : Int32) (v : Int32) : Option (((Unit) ⊕ (Int32 × QHeap)) ⊕ (Int32)) :=
  (if v < (5 : Int32) then (F14 p0 v).bind fun r96 => (if r96 = (if v < (4 : Int32) then (if ((x2 >>> (v &&& 31)) &&& (1 : Int32)) = (1 : Int32) then (1 : Int32) else (0 : Int32)) else (0 : Int32)) then (if (if v < (4 : Int32) then (if ((x2 >>> (v &&& 31)) &&& (1 : Int32)) = (1 : Int32) then (1 : Int32) else (0 : Int32)) else (0 : Int32)) = (0 : Int32) then (J0_846 s p0 x2 x3 x4 x5 x6 x7 x8 x9 x10 v (if v < (4 : Int32) then (if ((x2 >>> (v &&& 31)) &&& (1 : Int32)) = (1 : Int32) then (1 : Int32) else (0 : Int32)) else (0 : Int32))) else (F15 p0 v).bind fun r109 => (F9 v x6 x7 x8 x9).bind fun r110 => (if r109 = r110 then (J0_846 s p0 x2 x3 x4 x5 x6 x7 x8 x9 x10 v (if v < (4 : Int32) then (if ((x2 >>> (v &&& 31)) &&& (1 : Int32)) = (1 : Int32) then (1 : Int32) else (0 : Int32)) else (0 : Int32))) else some (.inl (Sum.inr ((0 : Int32), (H0 s p0)))))) else some (.inl (Sum.inr ((0 : Int32), (H0 s p0))))) else some (.inl (Sum.inl ())))
theorem tB0_775 (Ad : QAd n0 ad) (W : QW Z a0) (s : List Int32) (p0 : Ob) (x2 : Int32) (x3 : Int32) (x4 : Int32) (x5 : Int32) (x6 : Int32) (x7 : Int32) (x8 : Int32) (x9 : Int32) (x10 : Int32) (v : Int32) {r : ((Unit) ⊕ (Int32 × QHeap)) ⊕ (Int32)} {u : Option Value} {τ : QHeap} (h : B0_775 s p0 x2 x3 x4 x5 x6 x7 x8 x9 x10 v = some r) (hx0 : ∀ x : Unit, r = .inl (Sum.inl x) → QTri l Z n0 ad 0 (887, [vR 0, vR 1, vI x2, vI x3, vI x4, vI x5, vI x6, vI x7, vI x8, vI x9, vI x10, none, none, none, none, none, none, none, none, none, none, none, none, none], [], (H0 s p0)) u τ) (hx1 : ∀ x : Int32 × QHeap, r = .inl (Sum.inr x) → u = (some (Value.int x.1)) ∧ τ = x.2) (hc : ∀ x : Int32, r = .inr x → QTri l Z n0 ad 0 (775, [vR 0, vR 1, vI x2, vI x3, vI x4, vI x5, vI x6, vI x7, vI x8, vI x9, vI x10, none, none, none, none, none, none, none, none, none, none, vI x, none, none], [], (H0 s p0)) u τ) : QTri l Z n0 ad 0 (775, [vR 0, vR 1, vI x2, vI x3, vI x4, vI x5, vI x6, vI x7, vI x8, vI x9, vI x10, none, none, none, none, none, none, none, none, none, none, vI v, none, none], [], (H0 s p0)) u τ := by
 unfold B0_775 at h
 refine zS Ad W 2 (st' := (778, [vR 0, vR 1, vI x2, vI x3, vI x4, vI x5, vI x6, vI x7, vI x8, vI x9, vI x10, none, none, none, none, none, none, none, none, none, none, vI v, none, none], [.int (5:Int32), .int v], (H0 s p0))) rfl ?_
 rcases qite h with ⟨hc90, h⟩ | ⟨hc90, h⟩
 ·refine zF Ad W (t := 887) (f := 781) rfl (XT.ii_ge_f hc90) ?_
  refine zS Ad W 2 (st' := (784, [vR 0, vR 1, vI x2, vI x3, vI x4, vI x5, vI x6, vI x7, vI x8, vI x9, vI x10, none, none, none, none, none, none, none, none, none, none, vI v, none, none], [.int (4:Int32), .int v], (H0 s p0))) rfl ?_
  have K92 : ∀ z91 : Int32, z91 = (if v < (4:Int32) then (if ((x2 >>> (v &&& 31)) &&& (1:Int32)) = (1:Int32) then (1:Int32) else (0:Int32)) else (0:Int32)) → QTri l Z n0 ad 0 (802, [vR 0, vR 1, vI x2, vI x3, vI x4, vI x5, vI x6, vI x7, vI x8, vI x9, vI x10, none, none, none, none, none, none, none, none, none, none, vI v, none, none], [.int z91], (H0 s p0)) u τ := by
   intro z91 ez91
   subst ez91
   refine zS Ad W 3 (st' := (807, [vR 0, vR 1, vI x2, vI x3, vI x4, vI x5, vI x6, vI x7, vI x8, vI x9, vI x10, none, none, none, none, none, none, none, none, none, none, vI v, vI (if v < (4:Int32) then (if ((x2 >>> (v &&& 31)) &&& (1:Int32)) = (1:Int32) then (1:Int32) else (0:Int32)) else (0:Int32)), none], [.int v, .ref 1], (H0 s p0))) rfl ?_
   obtain ⟨r96, hr96, h⟩ := bind_eq_some_iff.mp h
   refine QTri.callV W (a := 1) (as := [.int v]) (rest := []) (w := (some (.int r96))) (σ₁ := (H0 s p0)) rfl rfl rfl rfl rfl rfl rfl rfl (tF14 Ad W s p0 v hr96) ?_
   refine zS Ad W 1 (st' := (812, [vR 0, vR 1, vI x2, vI x3, vI x4, vI x5, vI x6, vI x7, vI x8, vI x9, vI x10, none, none, none, none, none, none, none, none, none, none, vI v, vI (if v < (4:Int32) then (if ((x2 >>> (v &&& 31)) &&& (1:Int32)) = (1:Int32) then (1:Int32) else (0:Int32)) else (0:Int32)), none], [.int (if v < (4:Int32) then (if ((x2 >>> (v &&& 31)) &&& (1:Int32)) = (1:Int32) then (1:Int32) else (0:Int32)) else (0:Int32)), .int r96], (H0 s p0))) rfl ?_
   rcases qite h with ⟨hc97, h⟩ | ⟨hc97, h⟩
   ·refine zT Ad W (t := 817) (f := 815) rfl (XT.ii_eq_t hc97) ?_
    refine zS Ad W 1 (st' := (819, [vR 0, vR 1, vI x2, vI x3, vI x4, vI x5, vI x6, vI x7, vI x8, vI x9, vI x10, none, none, none, none, none, none, none, none, none, none, vI v, vI (if v < (4:Int32) then (if ((x2 >>> (v &&& 31)) &&& (1:Int32)) = (1:Int32) then (1:Int32) else (0:Int32)) else (0:Int32)), none], [.int (if v < (4:Int32) then (if ((x2 >>> (v &&& 31)) &&& (1:Int32)) = (1:Int32) then (1:Int32) else (0:Int32)) else (0:Int32))], (H0 s p0))) rfl ?_
    rcases qite h with ⟨hc98, h⟩ | ⟨hc98, h⟩
    ·refine zT Ad W (t := 846) (f := 822) rfl (XT.i0_eq_t hc98) ?_
     exact zM [tt,tt,tt,tt,tt,tt,tt,tt,tt,tt,tt,ff,ff,ff,ff,ff,ff,ff,ff,ff,ff,tt,tt,ff] (tJ0_846 Ad W s p0 x2 x3 x4 x5 x6 x7 x8 x9 x10 v (if v < (4:Int32) then (if ((x2 >>> (v &&& 31)) &&& (1:Int32)) = (1:Int32) then (1:Int32) else (0:Int32)) else (0:Int32)) h hx0 hx1 hc)
    ·refine zF Ad W (t := 846) (f := 822) rfl (XT.i0_eq_f hc98) ?_
     refine zS Ad W 2 (st' := (825, [vR 0, vR 1, vI x2, vI x3, vI x4, vI x5, vI x6, vI x7, vI x8, vI x9, vI x10, none, none, none, none, none, none, none, none, none, none, vI v, vI (if v < (4:Int32) then (if ((x2 >>> (v &&& 31)) &&& (1:Int32)) = (1:Int32) then (1:Int32) else (0:Int32)) else (0:Int32)), none], [.int v, .ref 1], (H0 s p0))) rfl ?_
     obtain ⟨r109, hr109, h⟩ := bind_eq_some_iff.mp h
     refine QTri.callV W (a := 1) (as := [.int v]) (rest := []) (w := (some (.int r109))) (σ₁ := (H0 s p0)) rfl rfl rfl rfl rfl rfl rfl rfl (tF15 Ad W s p0 v hr109) ?_
     refine zS Ad W 5 (st' := (838, [vR 0, vR 1, vI x2, vI x3, vI x4, vI x5, vI x6, vI x7, vI x8, vI x9, vI x10, none, none, none, none, none, none, none, none, none, none, vI v, vI (if v < (4:Int32) then (if ((x2 >>> (v &&& 31)) &&& (1:Int32)) = (1:Int32) then (1:Int32) else (0:Int32)) else (0:Int32)), none], [.int x9, .int x8, .int x7, .int x6, .int v, .int r109], (H0 s p0))) rfl ?_
     obtain ⟨r110, hr110, h⟩ := bind_eq_some_iff.mp h
     refine QTri.callS W (as := [.int v, .int x6, .int x7, .int x8, .int x9]) (rest := [.int r109]) (w := (some (.int r110))) (σ₁ := (H0 s p0)) rfl rfl rfl rfl rfl rfl rfl (tF9 Ad W v x6 x7 x8 x9 hr110) ?_
     rcases qite h with ⟨hc111, h⟩ | ⟨hc111, h⟩
     ·refine zT Ad W (t := 846) (f := 844) rfl (XT.ii_eq_t hc111) ?_
      exact zM [tt,tt,tt,tt,tt,tt,tt,tt,tt,tt,tt,ff,ff,ff,ff,ff,ff,ff,ff,ff,ff,tt,tt,ff] (tJ0_846 Ad W s p0 x2 x3 x4 x5 x6 x7 x8 x9 x10 v (if v < (4:Int32) then (if ((x2 >>> (v &&& 31)) &&& (1:Int32)) = (1:Int32) then (1:Int32) else (0:Int32)) else (0:Int32)) h hx0 hx1 hc)
     ·refine zF Ad W (t := 846) (f := 844) rfl (XT.ii_eq_f hc111) ?_
      refine zS Ad W 1 (st' := (845, [vR 0, vR 1, vI x2, vI x3, vI x4, vI x5, vI x6, vI x7, vI x8, vI x9, vI x10, none, none, none, none, none, none, none, none, none, none, vI v, vI (if v < (4:Int32) then (if ((x2 >>> (v &&& 31)) &&& (1:Int32)) = (1:Int32) then (1:Int32) else (0:Int32)) else (0:Int32)), none], [.int (0:Int32)], (H0 s p0))) rfl ?_
      obtain rfl := Option.some.inj h
      obtain ⟨rfl, rfl⟩ := hx1 ((0:Int32), (H0 s p0)) rfl
      exact QTri.retZ rfl rfl
   ·refine zF Ad W (t := 817) (f := 815) rfl (XT.ii_eq_f hc97) ?_
    refine zS Ad W 1 (st' := (816, [vR 0, vR 1, vI x2, vI x3, vI x4, vI x5, vI x6, vI x7, vI x8, vI x9, vI x10, none, none, none, none, none, none, none, none, none, none, vI v, vI (if v < (4:Int32) then (if ((x2 >>> (v &&& 31)) &&& (1:Int32)) = (1:Int32) then (1:Int32) else (0:Int32)) else (0:Int32)), none], [.int (0:Int32)], (H0 s p0))) rfl ?_
    obtain rfl := Option.some.inj h
    obtain ⟨rfl, rfl⟩ := hx1 ((0:Int32), (H0 s p0)) rfl
    exact QTri.retZ rfl rfl
  rcases em (v < (4:Int32)) with hc93 | hc93
  ·refine zF Ad W (t := 801) (f := 787) rfl (XT.ii_ge_f hc93) ?_
   refine zS Ad W 6 (st' := (794, [vR 0, vR 1, vI x2, vI x3, vI x4, vI x5, vI x6, vI x7, vI x8, vI x9, vI x10, none, none, none, none, none, none, none, none, none, none, vI v, none, none], [.int (1:Int32), .int ((x2 >>> (v &&& 31)) &&& (1:Int32))], (H0 s p0))) rfl ?_
   rcases em (((x2 >>> (v &&& 31)) &&& (1:Int32)) = (1:Int32)) with hc94 | hc94
   ·refine zF Ad W (t := 801) (f := 797) rfl (XT.ii_ne_f hc94) ?_
    refine zS Ad W 2 (st' := (802, [vR 0, vR 1, vI x2, vI x3, vI x4, vI x5, vI x6, vI x7, vI x8, vI x9, vI x10, none, none, none, none, none, none, none, none, none, none, vI v, none, none], [.int (1:Int32)], (H0 s p0))) rfl ?_
    exact zM [tt,tt,tt,tt,tt,tt,tt,tt,tt,tt,tt,ff,ff,ff,ff,ff,ff,ff,ff,ff,ff,tt,ff,ff] (K92 _ ((if_pos hc93).trans (if_pos hc94)).symm)
   ·refine zT Ad W (t := 801) (f := 797) rfl (XT.ii_ne_t hc94) ?_
    refine zS Ad W 1 (st' := (802, [vR 0, vR 1, vI x2, vI x3, vI x4, vI x5, vI x6, vI x7, vI x8, vI x9, vI x10, none, none, none, none, none, none, none, none, none, none, vI v, none, none], [.int (0:Int32)], (H0 s p0))) rfl ?_
    exact zM [tt,tt,tt,tt,tt,tt,tt,tt,tt,tt,tt,ff,ff,ff,ff,ff,ff,ff,ff,ff,ff,tt,ff,ff] (K92 _ ((if_pos hc93).trans (if_neg hc94)).symm)
  ·refine zT Ad W (t := 801) (f := 787) rfl (XT.ii_ge_t hc93) ?_
   refine zS Ad W 1 (st' := (802, [vR 0, vR 1, vI x2, vI x3, vI x4, vI x5, vI x6, vI x7, vI x8, vI x9, vI x10, none, none, none, none, none, none, none, none, none, none, vI v, none, none], [.int (0:Int32)], (H0 s p0))) rfl ?_
   exact zM [tt,tt,tt,tt,tt,tt,tt,tt,tt,tt,tt,ff,ff,ff,ff,ff,ff,ff,ff,ff,ff,tt,ff,ff] (K92 _ (if_neg hc93).symm)
 ·refine zT Ad W (t := 887) (f := 781) rfl (XT.ii_ge_t hc90) ?_
  obtain rfl := Option.some.inj h
  exact zM [tt,tt,tt,tt,tt,tt,tt,tt,tt,tt,tt,ff,ff,ff,ff,ff,ff,ff,ff,ff,ff,ff,ff,ff] (hx0 () rfl)
def J0_744 (s : List Int32) (p0 : Ob) (x2 : Int32) (x3 : Int32) (x4 : Int32) (x5 : Int32) (x6 : Int32) (x7 : Int32) (x8 : Int32) (x9 : Int32) (x10 : Int32) : Option (((Int32 × QHeap)) ⊕ (Int32 × Int32 × Int32 × Int32 × Int32 × Int32 × Int32 × Int32 × Int32 × Ob)) :=
  (F11 p0).bind fun r84 => (if r84 = x3 then (F12 p0).bind fun r86 => (if r86 = x4 then (F13 p0).bind fun r88 => (if r88 = x5 then ((loopN (B0_775 s p0 x2 x3 x4 x5 x6 x7 x8 x9 x10) qN (0 : Int32)).bind fun e112 => match e112 with | .inl e112a => some (.inr (x2, x3, x4, x5, x6, x7, x8, x9, (x10 + (4 : Int32)), p0)) | .inr e112a => some (.inl e112a)) else some (.inl ((0 : Int32), (H0 s p0)))) else some (.inl ((0 : Int32), (H0 s p0)))) else some (.inl ((0 : Int32), (H0 s p0))))
theorem tJ0_744 (Ad : QAd n0 ad) (W : QW Z a0) (s : List Int32) (p0 : Ob) (x2 : Int32) (x3 : Int32) (x4 : Int32) (x5 : Int32) (x6 : Int32) (x7 : Int32) (x8 : Int32) (x9 : Int32) (x10 : Int32) {r : ((Int32 × QHeap)) ⊕ (Int32 × Int32 × Int32 × Int32 × Int32 × Int32 × Int32 × Int32 × Int32 × Ob)} {u : Option Value} {τ : QHeap} (h : J0_744 s p0 x2 x3 x4 x5 x6 x7 x8 x9 x10 = some r) (hx0 : ∀ x : Int32 × QHeap, r = .inl x → u = (some (Value.int x.1)) ∧ τ = x.2) (hc : ∀ x : Int32 × Int32 × Int32 × Int32 × Int32 × Int32 × Int32 × Int32 × Int32 × Ob, r = .inr x → QTri l Z n0 ad 0 (37, [vR 0, vR 1, vI x.1, vI x.2.1, vI x.2.2.1, vI x.2.2.2.1, vI x.2.2.2.2.1, vI x.2.2.2.2.2.1, vI x.2.2.2.2.2.2.1, vI x.2.2.2.2.2.2.2.1, vI x.2.2.2.2.2.2.2.2.1, none, none, none, none, none, none, none, none, none, none, none, none, none], [], (H0 s x.2.2.2.2.2.2.2.2.2)) u τ) : QTri l Z n0 ad 0 (744, [vR 0, vR 1, vI x2, vI x3, vI x4, vI x5, vI x6, vI x7, vI x8, vI x9, vI x10, none, none, none, none, none, none, none, none, none, none, none, none, none], [], (H0 s p0)) u τ := by
 unfold J0_744 at h
 refine zS Ad W 1 (st' := (745, [vR 0, vR 1, vI x2, vI x3, vI x4, vI x5, vI x6, vI x7, vI x8, vI x9, vI x10, none, none, none, none, none, none, none, none, none, none, none, none, none], [.ref 1], (H0 s p0))) rfl ?_
 obtain ⟨r84, hr84, h⟩ := bind_eq_some_iff.mp h
 refine QTri.callV W (a := 1) (as := []) (rest := []) (w := (some (.int r84))) (σ₁ := (H0 s p0)) rfl rfl rfl rfl rfl rfl rfl rfl (tF11 Ad W s p0 hr84) ?_
 refine zS Ad W 1 (st' := (749, [vR 0, vR 1, vI x2, vI x3, vI x4, vI x5, vI x6, vI x7, vI x8, vI x9, vI x10, none, none, none, none, none, none, none, none, none, none, none, none, none], [.int x3, .int r84], (H0 s p0))) rfl ?_
 rcases qite h with ⟨hc85, h⟩ | ⟨hc85, h⟩
 ·refine zF Ad W (t := 770) (f := 752) rfl (XT.ii_ne_f hc85) ?_
  refine zS Ad W 1 (st' := (753, [vR 0, vR 1, vI x2, vI x3, vI x4, vI x5, vI x6, vI x7, vI x8, vI x9, vI x10, none, none, none, none, none, none, none, none, none, none, none, none, none], [.ref 1], (H0 s p0))) rfl ?_
  obtain ⟨r86, hr86, h⟩ := bind_eq_some_iff.mp h
  refine QTri.callV W (a := 1) (as := []) (rest := []) (w := (some (.int r86))) (σ₁ := (H0 s p0)) rfl rfl rfl rfl rfl rfl rfl rfl (tF12 Ad W s p0 hr86) ?_
  refine zS Ad W 1 (st' := (758, [vR 0, vR 1, vI x2, vI x3, vI x4, vI x5, vI x6, vI x7, vI x8, vI x9, vI x10, none, none, none, none, none, none, none, none, none, none, none, none, none], [.int x4, .int r86], (H0 s p0))) rfl ?_
  rcases qite h with ⟨hc87, h⟩ | ⟨hc87, h⟩
  ·refine zF Ad W (t := 770) (f := 761) rfl (XT.ii_ne_f hc87) ?_
   refine zS Ad W 1 (st' := (762, [vR 0, vR 1, vI x2, vI x3, vI x4, vI x5, vI x6, vI x7, vI x8, vI x9, vI x10, none, none, none, none, none, none, none, none, none, none, none, none, none], [.ref 1], (H0 s p0))) rfl ?_
   obtain ⟨r88, hr88, h⟩ := bind_eq_some_iff.mp h
   refine QTri.callV W (a := 1) (as := []) (rest := []) (w := (some (.int r88))) (σ₁ := (H0 s p0)) rfl rfl rfl rfl rfl rfl rfl rfl (tF13 Ad W s p0 hr88) ?_
   refine zS Ad W 1 (st' := (767, [vR 0, vR 1, vI x2, vI x3, vI x4, vI x5, vI x6, vI x7, vI x8, vI x9, vI x10, none, none, none, none, none, none, none, none, none, none, none, none, none], [.int x5, .int r88], (H0 s p0))) rfl ?_
   rcases qite h with ⟨hc89, h⟩ | ⟨hc89, h⟩
   ·refine zT Ad W (t := 772) (f := 770) rfl (XT.ii_eq_t hc89) ?_
    refine zS Ad W 2 (st' := (775, [vR 0, vR 1, vI x2, vI x3, vI x4, vI x5, vI x6, vI x7, vI x8, vI x9, vI x10, none, none, none, none, none, none, none, none, none, none, vI (0:Int32), none, none], [], (H0 s p0))) rfl ?_
    obtain ⟨e112, he112, h⟩ := bind_eq_some_iff.mp h
    refine zM [tt,tt,tt,tt,tt,tt,tt,tt,tt,tt,tt,ff,ff,ff,ff,ff,ff,ff,ff,ff,ff,tt,ff,ff] (loopN_tri (B := B0_775 s p0 x2 x3 x4 x5 x6 x7 x8 x9 x10) (T := fun lv113 => QTri l Z n0 ad 0 (775, [vR 0, vR 1, vI x2, vI x3, vI x4, vI x5, vI x6, vI x7, vI x8, vI x9, vI x10, none, none, none, none, none, none, none, none, none, none, vI lv113, none, none], [], (H0 s p0)) u τ) (KE := fun e => match e with | .inl e112a => QTri l Z n0 ad 0 (887, [vR 0, vR 1, vI x2, vI x3, vI x4, vI x5, vI x6, vI x7, vI x8, vI x9, vI x10, none, none, none, none, none, none, none, none, none, none, none, none, none], [], (H0 s p0)) u τ | .inr e112a => u = (some (Value.int e112a.1)) ∧ τ = e112a.2) (fun lv113 r hB hE hC => tB0_775 Ad W s p0 x2 x3 x4 x5 x6 x7 x8 x9 x10 lv113 hB (fun x q => hE _ q) (fun x q => hE _ q) (fun x q => hC x q)) qN (0:Int32) e112 he112 ?_)
    rcases e112 with e112a | e112a
    ·refine zS Ad W 2 (st' := (37, [vR 0, vR 1, vI x2, vI x3, vI x4, vI x5, vI x6, vI x7, vI x8, vI x9, vI (x10 + (4:Int32)), none, none, none, none, none, none, none, none, none, none, none, none, none], [], (H0 s p0))) rfl ?_
     obtain rfl := Option.some.inj h
     exact zM [tt,tt,tt,tt,tt,tt,tt,tt,tt,tt,tt,ff,ff,ff,ff,ff,ff,ff,ff,ff,ff,ff,ff,ff] (hc (x2, x3, x4, x5, x6, x7, x8, x9, (x10 + (4:Int32)), p0) rfl)
    ·obtain rfl := Option.some.inj h
     exact hx0 e112a rfl
   ·refine zF Ad W (t := 772) (f := 770) rfl (XT.ii_eq_f hc89) ?_
    refine zS Ad W 1 (st' := (771, [vR 0, vR 1, vI x2, vI x3, vI x4, vI x5, vI x6, vI x7, vI x8, vI x9, vI x10, none, none, none, none, none, none, none, none, none, none, none, none, none], [.int (0:Int32)], (H0 s p0))) rfl ?_
    obtain rfl := Option.some.inj h
    obtain ⟨rfl, rfl⟩ := hx0 ((0:Int32), (H0 s p0)) rfl
    exact QTri.retZ rfl rfl
  ·refine zT Ad W (t := 770) (f := 761) rfl (XT.ii_ne_t hc87) ?_
   refine zS Ad W 1 (st' := (771, [vR 0, vR 1, vI x2, vI x3, vI x4, vI x5, vI x6, vI x7, vI x8, vI x9, vI x10, none, none, none, none, none, none, none, none, none, none, none, none, none], [.int (0:Int32)], (H0 s p0))) rfl ?_
   obtain rfl := Option.some.inj h
   obtain ⟨rfl, rfl⟩ := hx0 ((0:Int32), (H0 s p0)) rfl
   exact QTri.retZ rfl rfl
 ·refine zT Ad W (t := 770) (f := 752) rfl (XT.ii_ne_t hc85) ?_
  refine zS Ad W 1 (st' := (771, [vR 0, vR 1, vI x2, vI x3, vI x4, vI x5, vI x6, vI x7, vI x8, vI x9, vI x10, none, none, none, none, none, none, none, none, none, none, none, none, none], [.int (0:Int32)], (H0 s p0))) rfl ?_
  obtain rfl := Option.some.inj h
  obtain ⟨rfl, rfl⟩ := hx0 ((0:Int32), (H0 s p0)) rfl
  exact QTri.retZ rfl rfl
def J0_271 (s : List Int32) (p0 : Ob) (x2 : Int32) (x3 : Int32) (x4 : Int32) (x5 : Int32) (x6 : Int32) (x7 : Int32) (x8 : Int32) (x9 : Int32) (x10 : Int32) : Option (((Int32 × QHeap)) ⊕ (Int32 × Int32 × Int32 × Int32 × Int32 × Int32 × Int32 × Int32 × Int32 × Ob)) :=
  (J0_744 s p0 x2 x3 x4 x5 x6 x7 x8 x9 x10)
theorem tJ0_271 (Ad : QAd n0 ad) (W : QW Z a0) (s : List Int32) (p0 : Ob) (x2 : Int32) (x3 : Int32) (x4 : Int32) (x5 : Int32) (x6 : Int32) (x7 : Int32) (x8 : Int32) (x9 : Int32) (x10 : Int32) {r : ((Int32 × QHeap)) ⊕ (Int32 × Int32 × Int32 × Int32 × Int32 × Int32 × Int32 × Int32 × Int32 × Ob)} {u : Option Value} {τ : QHeap} (h : J0_271 s p0 x2 x3 x4 x5 x6 x7 x8 x9 x10 = some r) (hx0 : ∀ x : Int32 × QHeap, r = .inl x → u = (some (Value.int x.1)) ∧ τ = x.2) (hc : ∀ x : Int32 × Int32 × Int32 × Int32 × Int32 × Int32 × Int32 × Int32 × Int32 × Ob, r = .inr x → QTri l Z n0 ad 0 (37, [vR 0, vR 1, vI x.1, vI x.2.1, vI x.2.2.1, vI x.2.2.2.1, vI x.2.2.2.2.1, vI x.2.2.2.2.2.1, vI x.2.2.2.2.2.2.1, vI x.2.2.2.2.2.2.2.1, vI x.2.2.2.2.2.2.2.2.1, none, none, none, none, none, none, none, none, none, none, none, none, none], [], (H0 s x.2.2.2.2.2.2.2.2.2)) u τ) : QTri l Z n0 ad 0 (271, [vR 0, vR 1, vI x2, vI x3, vI x4, vI x5, vI x6, vI x7, vI x8, vI x9, vI x10, none, none, none, none, none, none, none, none, none, none, none, none, none], [], (H0 s p0)) u τ := by
 unfold J0_271 at h
 refine zS Ad W 1 (st' := (744, [vR 0, vR 1, vI x2, vI x3, vI x4, vI x5, vI x6, vI x7, vI x8, vI x9, vI x10, none, none, none, none, none, none, none, none, none, none, none, none, none], [], (H0 s p0))) rfl ?_
 exact zM [tt,tt,tt,tt,tt,tt,tt,tt,tt,tt,tt,ff,ff,ff,ff,ff,ff,ff,ff,ff,ff,ff,ff,ff] (tJ0_744 Ad W s p0 x2 x3 x4 x5 x6 x7 x8 x9 x10 h hx0 hc)
def J0_196 (s : List Int32) (p0 : Ob) (x2 : Int32) (x3 : Int32) (x4 : Int32) (x5 : Int32) (x6 : Int32) (x7 : Int32) (x8 : Int32) (x9 : Int32) (x10 : Int32) (x21 : Int32) : Option (((Int32 × QHeap)) ⊕ (Int32 × Int32 × Int32 × Int32 × Int32 × Int32 × Int32 × Int32 × Int32 × Ob)) :=
  (F17 p0).bind fun r81 => (if x21 = (4 : Int32) then (if r81.1 = (-5 : Int32) then (J0_271 s r81.2 x2 x3 x4 x5 x6 x7 x8 x9 x10) else some (.inl ((0 : Int32), (H0 s r81.2)))) else (if r81.1 = x21 then (J0_271 s r81.2 (x2 ||| ((1 : Int32) <<< (r81.1 &&& 31))) x3 x4 x5 (if r81.1 = (0 : Int32) then x3 else x6) (if r81.1 = (0 : Int32) then x7 else (if r81.1 = (1 : Int32) then x3 else x7)) (if r81.1 = (0 : Int32) then x8 else (if r81.1 = (1 : Int32) then x8 else (if r81.1 = (2 : Int32) then x3 else x8))) (if r81.1 = (0 : Int32) then x9 else (if r81.1 = (1 : Int32) then x9 else (if r81.1 = (2 : Int32) then x9 else x3))) x10) else some (.inl ((0 : Int32), (H0 s r81.2)))))
theorem tJ0_196 (Ad : QAd n0 ad) (W : QW Z a0) (s : List Int32) (p0 : Ob) (x2 : Int32) (x3 : Int32) (x4 : Int32) (x5 : Int32) (x6 : Int32) (x7 : Int32) (x8 : Int32) (x9 : Int32) (x10 : Int32) (x21 : Int32) {r : ((Int32 × QHeap)) ⊕ (Int32 × Int32 × Int32 × Int32 × Int32 × Int32 × Int32 × Int32 × Int32 × Ob)} {u : Option Value} {τ : QHeap} (h : J0_196 s p0 x2 x3 x4 x5 x6 x7 x8 x9 x10 x21 = some r) (hx0 : ∀ x : Int32 × QHeap, r = .inl x → u = (some (Value.int x.1)) ∧ τ = x.2) (hc : ∀ x : Int32 × Int32 × Int32 × Int32 × Int32 × Int32 × Int32 × Int32 × Int32 × Ob, r = .inr x → QTri l Z n0 ad 0 (37, [vR 0, vR 1, vI x.1, vI x.2.1, vI x.2.2.1, vI x.2.2.2.1, vI x.2.2.2.2.1, vI x.2.2.2.2.2.1, vI x.2.2.2.2.2.2.1, vI x.2.2.2.2.2.2.2.1, vI x.2.2.2.2.2.2.2.2.1, none, none, none, none, none, none, none, none, none, none, none, none, none], [], (H0 s x.2.2.2.2.2.2.2.2.2)) u τ) : QTri l Z n0 ad 0 (196, [vR 0, vR 1, vI x2, vI x3, vI x4, vI x5, vI x6, vI x7, vI x8, vI x9, vI x10, none, none, none, none, none, none, none, none, none, none, vI x21, none, none], [], (H0 s p0)) u τ := by
 unfold J0_196 at h
 refine zS Ad W 1 (st' := (197, [vR 0, vR 1, vI x2, vI x3, vI x4, vI x5, vI x6, vI x7, vI x8, vI x9, vI x10, none, none, none, none, none, none, none, none, none, none, vI x21, none, none], [.ref 1], (H0 s p0))) rfl ?_
 obtain ⟨r81, hr81, h⟩ := bind_eq_some_iff.mp h
 refine QTri.callV W (a := 1) (as := []) (rest := []) (w := (some (.int r81.1))) (σ₁ := (H0 s r81.2)) rfl rfl rfl rfl rfl rfl rfl rfl (tF17 Ad W s p0 hr81) ?_
 refine zS Ad W 3 (st' := (205, [vR 0, vR 1, vI x2, vI x3, vI x4, vI x5, vI x6, vI x7, vI x8, vI x9, vI x10, none, none, none, none, none, none, none, none, none, none, vI x21, vI r81.1, none], [.int (4:Int32), .int x21], (H0 s r81.2))) rfl ?_
 rcases qite h with ⟨hc82, h⟩ | ⟨hc82, h⟩
 ·refine zF Ad W (t := 217) (f := 208) rfl (XT.ii_ne_f hc82) ?_
  refine zS Ad W 2 (st' := (212, [vR 0, vR 1, vI x2, vI x3, vI x4, vI x5, vI x6, vI x7, vI x8, vI x9, vI x10, none, none, none, none, none, none, none, none, none, none, vI x21, vI r81.1, none], [.int (-5:Int32), .int r81.1], (H0 s r81.2))) rfl ?_
  rcases qite h with ⟨hc83, h⟩ | ⟨hc83, h⟩
  ·refine zT Ad W (t := 271) (f := 215) rfl (XT.ii_eq_t hc83) ?_
   exact zM [tt,tt,tt,tt,tt,tt,tt,tt,tt,tt,tt,ff,ff,ff,ff,ff,ff,ff,ff,ff,ff,ff,ff,ff] (tJ0_271 Ad W s r81.2 x2 x3 x4 x5 x6 x7 x8 x9 x10 h hx0 hc)
  ·refine zF Ad W (t := 271) (f := 215) rfl (XT.ii_eq_f hc83) ?_
   refine zS Ad W 1 (st' := (216, [vR 0, vR 1, vI x2, vI x3, vI x4, vI x5, vI x6, vI x7, vI x8, vI x9, vI x10, none, none, none, none, none, none, none, none, none, none, vI x21, vI r81.1, none], [.int (0:Int32)], (H0 s r81.2))) rfl ?_
   obtain rfl := Option.some.inj h
   obtain ⟨rfl, rfl⟩ := hx0 ((0:Int32), (H0 s r81.2)) rfl
   exact QTri.retZ rfl rfl
 ·refine zT Ad W (t := 217) (f := 208) rfl (XT.ii_ne_t hc82) ?_
  refine zS Ad W 2 (st' := (221, [vR 0, vR 1, vI x2, vI x3, vI x4, vI x5, vI x6, vI x7, vI x8, vI x9, vI x10, none, none, none, none, none, none, none, none, none, none, vI x21, vI r81.1, none], [.int x21, .int r81.1], (H0 s r81.2))) rfl ?_
  rcases qite h with ⟨hc114, h⟩ | ⟨hc114, h⟩
  ·refine zT Ad W (t := 226) (f := 224) rfl (XT.ii_eq_t hc114) ?_
   refine zS Ad W 7 (st' := (235, [vR 0, vR 1, vI (x2 ||| ((1:Int32) <<< (r81.1 &&& 31))), vI x3, vI x4, vI x5, vI x6, vI x7, vI x8, vI x9, vI x10, none, none, none, none, none, none, none, none, none, none, vI x21, vI r81.1, none], [.int r81.1], (H0 s r81.2))) rfl ?_
   have K119 : ∀ z115 : Int32, z115 = (if r81.1 = (0:Int32) then x3 else x6) → ∀ z116 : Int32, z116 = (if r81.1 = (0:Int32) then x7 else (if r81.1 = (1:Int32) then x3 else x7)) → ∀ z117 : Int32, z117 = (if r81.1 = (0:Int32) then x8 else (if r81.1 = (1:Int32) then x8 else (if r81.1 = (2:Int32) then x3 else x8))) → ∀ z118 : Int32, z118 = (if r81.1 = (0:Int32) then x9 else (if r81.1 = (1:Int32) then x9 else (if r81.1 = (2:Int32) then x9 else x3))) → QTri l Z n0 ad 0 (271, [vR 0, vR 1, vI (x2 ||| ((1:Int32) <<< (r81.1 &&& 31))), vI x3, vI x4, vI x5, vI z115, vI z116, vI z117, vI z118, vI x10, none, none, none, none, none, none, none, none, none, none, none, none, none], [], (H0 s r81.2)) u τ := by
    intro z115 ez115
    intro z116 ez116
    intro z117 ez117
    intro z118 ez118
    subst ez115
    subst ez116
    subst ez117
    subst ez118
    exact zM [tt,tt,tt,tt,tt,tt,tt,tt,tt,tt,tt,ff,ff,ff,ff,ff,ff,ff,ff,ff,ff,ff,ff,ff] (tJ0_271 Ad W s r81.2 (x2 ||| ((1:Int32) <<< (r81.1 &&& 31))) x3 x4 x5 (if r81.1 = (0:Int32) then x3 else x6) (if r81.1 = (0:Int32) then x7 else (if r81.1 = (1:Int32) then x3 else x7)) (if r81.1 = (0:Int32) then x8 else (if r81.1 = (1:Int32) then x8 else (if r81.1 = (2:Int32) then x3 else x8))) (if r81.1 = (0:Int32) then x9 else (if r81.1 = (1:Int32) then x9 else (if r81.1 = (2:Int32) then x9 else x3))) x10 h hx0 hc)
   rcases em (r81.1 = (0:Int32)) with hc120 | hc120
   ·refine zF Ad W (t := 244) (f := 238) rfl (XT.i0_ne_f hc120) ?_
    refine zS Ad W 3 (st' := (271, [vR 0, vR 1, vI (x2 ||| ((1:Int32) <<< (r81.1 &&& 31))), vI x3, vI x4, vI x5, vI x3, vI x7, vI x8, vI x9, vI x10, none, none, none, none, none, none, none, none, none, none, vI x21, vI r81.1, none], [], (H0 s r81.2))) rfl ?_
    exact zM [tt,tt,tt,tt,tt,tt,tt,tt,tt,tt,tt,ff,ff,ff,ff,ff,ff,ff,ff,ff,ff,ff,ff,ff] (K119 _ (if_pos hc120).symm _ (if_pos hc120).symm _ (if_pos hc120).symm _ (if_pos hc120).symm)
   ·refine zT Ad W (t := 244) (f := 238) rfl (XT.i0_ne_t hc120) ?_
    refine zS Ad W 2 (st' := (247, [vR 0, vR 1, vI (x2 ||| ((1:Int32) <<< (r81.1 &&& 31))), vI x3, vI x4, vI x5, vI x6, vI x7, vI x8, vI x9, vI x10, none, none, none, none, none, none, none, none, none, none, vI x21, vI r81.1, none], [.int (1:Int32), .int r81.1], (H0 s r81.2))) rfl ?_
    rcases em (r81.1 = (1:Int32)) with hc121 | hc121
    ·refine zF Ad W (t := 256) (f := 250) rfl (XT.ii_ne_f hc121) ?_
     refine zS Ad W 3 (st' := (271, [vR 0, vR 1, vI (x2 ||| ((1:Int32) <<< (r81.1 &&& 31))), vI x3, vI x4, vI x5, vI x6, vI x3, vI x8, vI x9, vI x10, none, none, none, none, none, none, none, none, none, none, vI x21, vI r81.1, none], [], (H0 s r81.2))) rfl ?_
     exact zM [tt,tt,tt,tt,tt,tt,tt,tt,tt,tt,tt,ff,ff,ff,ff,ff,ff,ff,ff,ff,ff,ff,ff,ff] (K119 _ (if_neg hc120).symm _ ((if_neg hc120).trans (if_pos hc121)).symm _ ((if_neg hc120).trans (if_pos hc121)).symm _ ((if_neg hc120).trans (if_pos hc121)).symm)
    ·refine zT Ad W (t := 256) (f := 250) rfl (XT.ii_ne_t hc121) ?_
     refine zS Ad W 2 (st' := (259, [vR 0, vR 1, vI (x2 ||| ((1:Int32) <<< (r81.1 &&& 31))), vI x3, vI x4, vI x5, vI x6, vI x7, vI x8, vI x9, vI x10, none, none, none, none, none, none, none, none, none, none, vI x21, vI r81.1, none], [.int (2:Int32), .int r81.1], (H0 s r81.2))) rfl ?_
     rcases em (r81.1 = (2:Int32)) with hc122 | hc122
     ·refine zF Ad W (t := 268) (f := 262) rfl (XT.ii_ne_f hc122) ?_
      refine zS Ad W 3 (st' := (271, [vR 0, vR 1, vI (x2 ||| ((1:Int32) <<< (r81.1 &&& 31))), vI x3, vI x4, vI x5, vI x6, vI x7, vI x3, vI x9, vI x10, none, none, none, none, none, none, none, none, none, none, vI x21, vI r81.1, none], [], (H0 s r81.2))) rfl ?_
      exact zM [tt,tt,tt,tt,tt,tt,tt,tt,tt,tt,tt,ff,ff,ff,ff,ff,ff,ff,ff,ff,ff,ff,ff,ff] (K119 _ (if_neg hc120).symm _ ((if_neg hc120).trans (if_neg hc121)).symm _ ((if_neg hc120).trans ((if_neg hc121).trans (if_pos hc122))).symm _ ((if_neg hc120).trans ((if_neg hc121).trans (if_pos hc122))).symm)
     ·refine zT Ad W (t := 268) (f := 262) rfl (XT.ii_ne_t hc122) ?_
      refine zS Ad W 2 (st' := (271, [vR 0, vR 1, vI (x2 ||| ((1:Int32) <<< (r81.1 &&& 31))), vI x3, vI x4, vI x5, vI x6, vI x7, vI x8, vI x3, vI x10, none, none, none, none, none, none, none, none, none, none, vI x21, vI r81.1, none], [], (H0 s r81.2))) rfl ?_
      exact zM [tt,tt,tt,tt,tt,tt,tt,tt,tt,tt,tt,ff,ff,ff,ff,ff,ff,ff,ff,ff,ff,ff,ff,ff] (K119 _ (if_neg hc120).symm _ ((if_neg hc120).trans (if_neg hc121)).symm _ ((if_neg hc120).trans ((if_neg hc121).trans (if_neg hc122))).symm _ ((if_neg hc120).trans ((if_neg hc121).trans (if_neg hc122))).symm)
  ·refine zF Ad W (t := 226) (f := 224) rfl (XT.ii_eq_f hc114) ?_
   refine zS Ad W 1 (st' := (225, [vR 0, vR 1, vI x2, vI x3, vI x4, vI x5, vI x6, vI x7, vI x8, vI x9, vI x10, none, none, none, none, none, none, none, none, none, none, vI x21, vI r81.1, none], [.int (0:Int32)], (H0 s r81.2))) rfl ?_
   obtain rfl := Option.some.inj h
   obtain ⟨rfl, rfl⟩ := hx0 ((0:Int32), (H0 s r81.2)) rfl
   exact QTri.retZ rfl rfl
def H0x12 (s : List Int32) (o0 : Ob) (a0_4 : List Int32) : QHeap := H0v s (f_value o0) (f_version o0) (f_active o0) (f_start o0) a0_4 (f_writeSet o0) (f_buffered o0) (f_keyCount o0) (f_slotCount o0) (f_window o0) (f_commitCount o0) (f_abortCount o0) (f_lastConflict o0)
/-- read(II)I -/
def F16 (o : Ob) (x1 : Int32) (x2 : Int32) : Option (Int32 × Ob) :=
 (F4 o x1).bind fun r124 => (if r124 = (0:Int32) then some ((0:Int32), o) else (F8 o x2).bind fun r126 => (if r126 = (0:Int32) then some ((0:Int32), o) else (F21 x2).bind fun r128 => (aget (f_writeSet o) x1).bind fun y129 => (if (y129 &&& r128) = (0:Int32) then (aget (f_readSet o) x1).bind fun y131 => (aset (f_readSet o) x1 (y131 ||| r128)).bind fun y132 => (aget (f_value o) x2).bind fun y133 => some (y133, (s_readSet o y132)) else (F27 x1 x2).bind fun r135 => (aget (f_buffered o) r135).bind fun y136 => some (y136, o))))
theorem tF16 (Ad : QAd n0 ad) (W : QW Z a0) (s : List Int32) (o : Ob) (x1 : Int32) (x2 : Int32) {r : Int32 × Ob} (h : F16 o x1 x2 = some r) : QTri l Z n0 ad 16 (0, qentry [.ref 1, .int x1, .int x2] (pMaxL 16), [], (H0 s o)) (some (Value.int r.1)) (H0 s r.2) := by
 unfold F16 at h
 refine zS Ad W 2 (st' := (2, [vR 1, vI x1, vI x2, none], [.int x1, .ref 1], (H0 s o))) rfl ?_
 obtain ⟨r124, hr124, h⟩ := bind_eq_some_iff.mp h
 refine QTri.callP W (a := 1) (as := [.int x1]) (rest := []) (w := (some (.int r124))) (σ₁ := (H0 s o)) rfl rfl rfl rfl rfl rfl rfl rfl (tF4 Ad W s o x1 hr124) ?_
 rcases qite h with ⟨hc125, h⟩ | ⟨hc125, h⟩
 ·refine zF Ad W (t := 10) (f := 8) rfl (XT.i0_ne_f hc125) ?_
  refine zS Ad W 1 (st' := (9, [vR 1, vI x1, vI x2, none], [.int (0:Int32)], (H0 s o))) rfl ?_
  obtain rfl := Option.some.inj h
  exact QTri.retI rfl rfl
 ·refine zT Ad W (t := 10) (f := 8) rfl (XT.i0_ne_t hc125) ?_
  refine zS Ad W 2 (st' := (12, [vR 1, vI x1, vI x2, none], [.int x2, .ref 1], (H0 s o))) rfl ?_
  obtain ⟨r126, hr126, h⟩ := bind_eq_some_iff.mp h
  refine QTri.callP W (a := 1) (as := [.int x2]) (rest := []) (w := (some (.int r126))) (σ₁ := (H0 s o)) rfl rfl rfl rfl rfl rfl rfl rfl (tF8 Ad W s o x2 hr126) ?_
  rcases qite h with ⟨hc127, h⟩ | ⟨hc127, h⟩
  ·refine zF Ad W (t := 20) (f := 18) rfl (XT.i0_ne_f hc127) ?_
   refine zS Ad W 1 (st' := (19, [vR 1, vI x1, vI x2, none], [.int (0:Int32)], (H0 s o))) rfl ?_
   obtain rfl := Option.some.inj h
   exact QTri.retI rfl rfl
  ·refine zT Ad W (t := 20) (f := 18) rfl (XT.i0_ne_t hc127) ?_
   refine zS Ad W 2 (st' := (22, [vR 1, vI x1, vI x2, none], [.int x2, .ref 1], (H0 s o))) rfl ?_
   obtain ⟨r128, hr128, h⟩ := bind_eq_some_iff.mp h
   refine QTri.callP W (a := 1) (as := [.int x2]) (rest := []) (w := (some (.int r128))) (σ₁ := (H0 s o)) rfl rfl rfl rfl rfl rfl rfl rfl (tF21 Ad W x2 hr128) ?_
   refine zS Ad W 4 (st' := (31, [vR 1, vI x1, vI x2, vI r128], [.int x1, .ref 7], (H0 s o))) rfl ?_
   obtain ⟨y129, hy129, h⟩ := bind_eq_some_iff.mp h
   refine zB Ad W (f := fun y129 => (32, [vR 1, vI x1, vI x2, vI r128], [.int y129], (H0 s o))) rfl hy129 ?_
   refine zS Ad W 2 (st' := (34, [vR 1, vI x1, vI x2, vI r128], [.int (y129 &&& r128)], (H0 s o))) rfl ?_
   rcases qite h with ⟨hc130, h⟩ | ⟨hc130, h⟩
   ·refine zT Ad W (t := 49) (f := 37) rfl (XT.i0_eq_t hc130) ?_
    refine zS Ad W 6 (st' := (59, [vR 1, vI x1, vI x2, vI r128], [.int x1, .ref 6, .int x1, .ref 6], (H0 s o))) rfl ?_
    obtain ⟨y131, hy131, h⟩ := bind_eq_some_iff.mp h
    refine zB Ad W (f := fun y131 => (60, [vR 1, vI x1, vI x2, vI r128], [.int y131, .int x1, .ref 6], (H0 s o))) rfl hy131 ?_
    refine zS Ad W 2 (st' := (62, [vR 1, vI x1, vI x2, vI r128], [.int (y131 ||| r128), .int x1, .ref 6], (H0 s o))) rfl ?_
    obtain ⟨y132, hy132, h⟩ := bind_eq_some_iff.mp h
    refine zB Ad W (f := fun y132 => (63, [vR 1, vI x1, vI x2, vI r128], [], (H0x12 s o y132))) rfl hy132 ?_
    refine zS Ad W 3 (st' := (68, [vR 1, vI x1, vI x2, vI r128], [.int x2, .ref 2], (H0x12 s o y132))) rfl ?_
    obtain ⟨y133, hy133, h⟩ := bind_eq_some_iff.mp h
    refine zB Ad W (f := fun y133 => (69, [vR 1, vI x1, vI x2, vI r128], [.int y133], (H0x12 s o y132))) rfl hy133 ?_
    have E134 : ((H0x12 s o y132) : QHeap) = (H0 s (s_readSet o y132)) := by simp only [fs, H0, H0v, H0x12, s_readSet]
    rw [E134]
    obtain rfl := Option.some.inj h
    exact QTri.retI rfl rfl
   ·refine zF Ad W (t := 49) (f := 37) rfl (XT.i0_eq_f hc130) ?_
    refine zS Ad W 5 (st' := (44, [vR 1, vI x1, vI x2, vI r128], [.int x2, .int x1, .ref 1, .ref 8], (H0 s o))) rfl ?_
    obtain ⟨r135, hr135, h⟩ := bind_eq_some_iff.mp h
    refine QTri.callP W (a := 1) (as := [.int x1, .int x2]) (rest := [.ref 8]) (w := (some (.int r135))) (σ₁ := (H0 s o)) rfl rfl rfl rfl rfl rfl rfl rfl (tF27 Ad W x1 x2 hr135) ?_
    obtain ⟨y136, hy136, h⟩ := bind_eq_some_iff.mp h
    refine zB Ad W (f := fun y136 => (48, [vR 1, vI x1, vI x2, vI r128], [.int y136], (H0 s o))) rfl hy136 ?_
    obtain rfl := Option.some.inj h
    exact QTri.retI rfl rfl
def J0_376 (s : List Int32) (p0 : Ob) (x2 : Int32) (x3 : Int32) (x4 : Int32) (x5 : Int32) (x6 : Int32) (x7 : Int32) (x8 : Int32) (x9 : Int32) (x10 : Int32) : Option (((Int32 × QHeap)) ⊕ (Int32 × Int32 × Int32 × Int32 × Int32 × Int32 × Int32 × Int32 × Int32 × Ob)) :=
  (J0_744 s p0 x2 x3 x4 x5 x6 x7 x8 x9 x10)
theorem tJ0_376 (Ad : QAd n0 ad) (W : QW Z a0) (s : List Int32) (p0 : Ob) (x2 : Int32) (x3 : Int32) (x4 : Int32) (x5 : Int32) (x6 : Int32) (x7 : Int32) (x8 : Int32) (x9 : Int32) (x10 : Int32) {r : ((Int32 × QHeap)) ⊕ (Int32 × Int32 × Int32 × Int32 × Int32 × Int32 × Int32 × Int32 × Int32 × Ob)} {u : Option Value} {τ : QHeap} (h : J0_376 s p0 x2 x3 x4 x5 x6 x7 x8 x9 x10 = some r) (hx0 : ∀ x : Int32 × QHeap, r = .inl x → u = (some (Value.int x.1)) ∧ τ = x.2) (hc : ∀ x : Int32 × Int32 × Int32 × Int32 × Int32 × Int32 × Int32 × Int32 × Int32 × Ob, r = .inr x → QTri l Z n0 ad 0 (37, [vR 0, vR 1, vI x.1, vI x.2.1, vI x.2.2.1, vI x.2.2.2.1, vI x.2.2.2.2.1, vI x.2.2.2.2.2.1, vI x.2.2.2.2.2.2.1, vI x.2.2.2.2.2.2.2.1, vI x.2.2.2.2.2.2.2.2.1, none, none, none, none, none, none, none, none, none, none, none, none, none], [], (H0 s x.2.2.2.2.2.2.2.2.2)) u τ) : QTri l Z n0 ad 0 (376, [vR 0, vR 1, vI x2, vI x3, vI x4, vI x5, vI x6, vI x7, vI x8, vI x9, vI x10, none, none, none, none, none, none, none, none, none, none, none, none, none], [], (H0 s p0)) u τ := by
 unfold J0_376 at h
 refine zS Ad W 1 (st' := (744, [vR 0, vR 1, vI x2, vI x3, vI x4, vI x5, vI x6, vI x7, vI x8, vI x9, vI x10, none, none, none, none, none, none, none, none, none, none, none, none, none], [], (H0 s p0))) rfl ?_
 exact zM [tt,tt,tt,tt,tt,tt,tt,tt,tt,tt,tt,ff,ff,ff,ff,ff,ff,ff,ff,ff,ff,ff,ff,ff] (tJ0_744 Ad W s p0 x2 x3 x4 x5 x6 x7 x8 x9 x10 h hx0 hc)
def J0_302 (s : List Int32) (p0 : Ob) (x2 : Int32) (x3 : Int32) (x4 : Int32) (x5 : Int32) (x6 : Int32) (x7 : Int32) (x8 : Int32) (x9 : Int32) (x10 : Int32) (x12 : Int32) (x16 : Int32) (x21 : Int32) : Option (((Int32 × QHeap)) ⊕ (Int32 × Int32 × Int32 × Int32 × Int32 × Int32 × Int32 × Int32 × Int32 × Ob)) :=
  (if x21 = (0 : Int32) then (F3 p0 x12).bind fun r140 => (if r140 = x16 then (J0_376 s p0 x2 x3 x4 x5 x6 x7 x8 x9 x10) else some (.inl ((0 : Int32), (H0 s p0)))) else some (.inl ((0 : Int32), (H0 s p0))))
theorem tJ0_302 (Ad : QAd n0 ad) (W : QW Z a0) (s : List Int32) (p0 : Ob) (x2 : Int32) (x3 : Int32) (x4 : Int32) (x5 : Int32) (x6 : Int32) (x7 : Int32) (x8 : Int32) (x9 : Int32) (x10 : Int32) (x12 : Int32) (x16 : Int32) (x21 : Int32) {r : ((Int32 × QHeap)) ⊕ (Int32 × Int32 × Int32 × Int32 × Int32 × Int32 × Int32 × Int32 × Int32 × Ob)} {u : Option Value} {τ : QHeap} (h : J0_302 s p0 x2 x3 x4 x5 x6 x7 x8 x9 x10 x12 x16 x21 = some r) (hx0 : ∀ x : Int32 × QHeap, r = .inl x → u = (some (Value.int x.1)) ∧ τ = x.2) (hc : ∀ x : Int32 × Int32 × Int32 × Int32 × Int32 × Int32 × Int32 × Int32 × Int32 × Ob, r = .inr x → QTri l Z n0 ad 0 (37, [vR 0, vR 1, vI x.1, vI x.2.1, vI x.2.2.1, vI x.2.2.2.1, vI x.2.2.2.2.1, vI x.2.2.2.2.2.1, vI x.2.2.2.2.2.2.1, vI x.2.2.2.2.2.2.2.1, vI x.2.2.2.2.2.2.2.2.1, none, none, none, none, none, none, none, none, none, none, none, none, none], [], (H0 s x.2.2.2.2.2.2.2.2.2)) u τ) : QTri l Z n0 ad 0 (302, [vR 0, vR 1, vI x2, vI x3, vI x4, vI x5, vI x6, vI x7, vI x8, vI x9, vI x10, none, vI x12, none, none, none, vI x16, none, none, none, none, vI x21, none, none], [], (H0 s p0)) u τ := by
 unfold J0_302 at h
 refine zS Ad W 1 (st' := (304, [vR 0, vR 1, vI x2, vI x3, vI x4, vI x5, vI x6, vI x7, vI x8, vI x9, vI x10, none, vI x12, none, none, none, vI x16, none, none, none, none, vI x21, none, none], [.int x21], (H0 s p0))) rfl ?_
 rcases qite h with ⟨hc139, h⟩ | ⟨hc139, h⟩
 ·refine zF Ad W (t := 318) (f := 307) rfl (XT.i0_ne_f hc139) ?_
  refine zS Ad W 2 (st' := (310, [vR 0, vR 1, vI x2, vI x3, vI x4, vI x5, vI x6, vI x7, vI x8, vI x9, vI x10, none, vI x12, none, none, none, vI x16, none, none, none, none, vI x21, none, none], [.int x12, .ref 1], (H0 s p0))) rfl ?_
  obtain ⟨r140, hr140, h⟩ := bind_eq_some_iff.mp h
  refine QTri.callV W (a := 1) (as := [.int x12]) (rest := []) (w := (some (.int r140))) (σ₁ := (H0 s p0)) rfl rfl rfl rfl rfl rfl rfl rfl (tF3 Ad W s p0 x12 hr140) ?_
  refine zS Ad W 1 (st' := (315, [vR 0, vR 1, vI x2, vI x3, vI x4, vI x5, vI x6, vI x7, vI x8, vI x9, vI x10, none, vI x12, none, none, none, vI x16, none, none, none, none, vI x21, none, none], [.int x16, .int r140], (H0 s p0))) rfl ?_
  rcases qite h with ⟨hc141, h⟩ | ⟨hc141, h⟩
  ·refine zT Ad W (t := 376) (f := 318) rfl (XT.ii_eq_t hc141) ?_
   exact zM [tt,tt,tt,tt,tt,tt,tt,tt,tt,tt,tt,ff,ff,ff,ff,ff,ff,ff,ff,ff,ff,ff,ff,ff] (tJ0_376 Ad W s p0 x2 x3 x4 x5 x6 x7 x8 x9 x10 h hx0 hc)
  ·refine zF Ad W (t := 376) (f := 318) rfl (XT.ii_eq_f hc141) ?_
   refine zS Ad W 1 (st' := (319, [vR 0, vR 1, vI x2, vI x3, vI x4, vI x5, vI x6, vI x7, vI x8, vI x9, vI x10, none, vI x12, none, none, none, vI x16, none, none, none, none, vI x21, none, none], [.int (0:Int32)], (H0 s p0))) rfl ?_
   obtain rfl := Option.some.inj h
   obtain ⟨rfl, rfl⟩ := hx0 ((0:Int32), (H0 s p0)) rfl
   exact QTri.retZ rfl rfl
 ·refine zT Ad W (t := 318) (f := 307) rfl (XT.i0_ne_t hc139) ?_
  refine zS Ad W 1 (st' := (319, [vR 0, vR 1, vI x2, vI x3, vI x4, vI x5, vI x6, vI x7, vI x8, vI x9, vI x10, none, vI x12, none, none, none, vI x16, none, none, none, none, vI x21, none, none], [.int (0:Int32)], (H0 s p0))) rfl ?_
  obtain rfl := Option.some.inj h
  obtain ⟨rfl, rfl⟩ := hx0 ((0:Int32), (H0 s p0)) rfl
  exact QTri.retZ rfl rfl
def H0x13 (s : List Int32) (o0 : Ob) (a0_5 : List Int32) : QHeap := H0v s (f_value o0) (f_version o0) (f_active o0) (f_start o0) (f_readSet o0) a0_5 (f_buffered o0) (f_keyCount o0) (f_slotCount o0) (f_window o0) (f_commitCount o0) (f_abortCount o0) (f_lastConflict o0)
def H0x14 (s : List Int32) (o0 : Ob) (a0_5 : List Int32) (a0_6 : List Int32) : QHeap := H0v s (f_value o0) (f_version o0) (f_active o0) (f_start o0) (f_readSet o0) a0_5 a0_6 (f_keyCount o0) (f_slotCount o0) (f_window o0) (f_commitCount o0) (f_abortCount o0) (f_lastConflict o0)
/-- write(III)I -/
def F26 (o : Ob) (x1 : Int32) (x2 : Int32) (x3 : Int32) : Option (Int32 × Ob) :=
 (F4 o x1).bind fun r151 => (if r151 = (0:Int32) then some ((-1:Int32), o) else (F8 o x2).bind fun r153 => (if r153 = (0:Int32) then some ((-2:Int32), o) else (aget (f_writeSet o) x1).bind fun y155 => (F21 x2).bind fun r156 => (aset (f_writeSet o) x1 (y155 ||| r156)).bind fun y157 => (F27 x1 x2).bind fun r158 => (aset (f_buffered o) r158 x3).bind fun y159 => some ((0:Int32), (s_buffered (s_writeSet o y157) y159))))
theorem tF26 (Ad : QAd n0 ad) (W : QW Z a0) (s : List Int32) (o : Ob) (x1 : Int32) (x2 : Int32) (x3 : Int32) {r : Int32 × Ob} (h : F26 o x1 x2 x3 = some r) : QTri l Z n0 ad 26 (0, qentry [.ref 1, .int x1, .int x2, .int x3] (pMaxL 26), [], (H0 s o)) (some (Value.int r.1)) (H0 s r.2) := by
 unfold F26 at h
 refine zS Ad W 2 (st' := (2, [vR 1, vI x1, vI x2, vI x3], [.int x1, .ref 1], (H0 s o))) rfl ?_
 obtain ⟨r151, hr151, h⟩ := bind_eq_some_iff.mp h
 refine QTri.callP W (a := 1) (as := [.int x1]) (rest := []) (w := (some (.int r151))) (σ₁ := (H0 s o)) rfl rfl rfl rfl rfl rfl rfl rfl (tF4 Ad W s o x1 hr151) ?_
 rcases qite h with ⟨hc152, h⟩ | ⟨hc152, h⟩
 ·refine zF Ad W (t := 10) (f := 8) rfl (XT.i0_ne_f hc152) ?_
  refine zS Ad W 1 (st' := (9, [vR 1, vI x1, vI x2, vI x3], [.int (-1:Int32)], (H0 s o))) rfl ?_
  obtain rfl := Option.some.inj h
  exact QTri.retI rfl rfl
 ·refine zT Ad W (t := 10) (f := 8) rfl (XT.i0_ne_t hc152) ?_
  refine zS Ad W 2 (st' := (12, [vR 1, vI x1, vI x2, vI x3], [.int x2, .ref 1], (H0 s o))) rfl ?_
  obtain ⟨r153, hr153, h⟩ := bind_eq_some_iff.mp h
  refine QTri.callP W (a := 1) (as := [.int x2]) (rest := []) (w := (some (.int r153))) (σ₁ := (H0 s o)) rfl rfl rfl rfl rfl rfl rfl rfl (tF8 Ad W s o x2 hr153) ?_
  rcases qite h with ⟨hc154, h⟩ | ⟨hc154, h⟩
  ·refine zF Ad W (t := 21) (f := 18) rfl (XT.i0_ne_f hc154) ?_
   refine zS Ad W 1 (st' := (20, [vR 1, vI x1, vI x2, vI x3], [.int (-2:Int32)], (H0 s o))) rfl ?_
   obtain rfl := Option.some.inj h
   exact QTri.retI rfl rfl
  ·refine zT Ad W (t := 21) (f := 18) rfl (XT.i0_ne_t hc154) ?_
   refine zS Ad W 6 (st' := (31, [vR 1, vI x1, vI x2, vI x3], [.int x1, .ref 7, .int x1, .ref 7], (H0 s o))) rfl ?_
   obtain ⟨y155, hy155, h⟩ := bind_eq_some_iff.mp h
   refine zB Ad W (f := fun y155 => (32, [vR 1, vI x1, vI x2, vI x3], [.int y155, .int x1, .ref 7], (H0 s o))) rfl hy155 ?_
   refine zS Ad W 2 (st' := (34, [vR 1, vI x1, vI x2, vI x3], [.int x2, .ref 1, .int y155, .int x1, .ref 7], (H0 s o))) rfl ?_
   obtain ⟨r156, hr156, h⟩ := bind_eq_some_iff.mp h
   refine QTri.callP W (a := 1) (as := [.int x2]) (rest := [.int y155, .int x1, .ref 7]) (w := (some (.int r156))) (σ₁ := (H0 s o)) rfl rfl rfl rfl rfl rfl rfl rfl (tF21 Ad W x2 hr156) ?_
   refine zS Ad W 1 (st' := (38, [vR 1, vI x1, vI x2, vI x3], [.int (y155 ||| r156), .int x1, .ref 7], (H0 s o))) rfl ?_
   obtain ⟨y157, hy157, h⟩ := bind_eq_some_iff.mp h
   refine zB Ad W (f := fun y157 => (39, [vR 1, vI x1, vI x2, vI x3], [], (H0x13 s o y157))) rfl hy157 ?_
   refine zS Ad W 5 (st' := (46, [vR 1, vI x1, vI x2, vI x3], [.int x2, .int x1, .ref 1, .ref 8], (H0x13 s o y157))) rfl ?_
   obtain ⟨r158, hr158, h⟩ := bind_eq_some_iff.mp h
   refine QTri.callP W (a := 1) (as := [.int x1, .int x2]) (rest := [.ref 8]) (w := (some (.int r158))) (σ₁ := (H0x13 s o y157)) rfl rfl rfl rfl rfl rfl rfl rfl (tF27 Ad W x1 x2 hr158) ?_
   refine zS Ad W 1 (st' := (50, [vR 1, vI x1, vI x2, vI x3], [.int x3, .int r158, .ref 8], (H0x13 s o y157))) rfl ?_
   obtain ⟨y159, hy159, h⟩ := bind_eq_some_iff.mp h
   refine zB Ad W (f := fun y159 => (51, [vR 1, vI x1, vI x2, vI x3], [], (H0x14 s o y157 y159))) rfl hy159 ?_
   refine zS Ad W 1 (st' := (52, [vR 1, vI x1, vI x2, vI x3], [.int (0:Int32)], (H0x14 s o y157 y159))) rfl ?_
   have E160 : ((H0x14 s o y157 y159) : QHeap) = (H0 s (s_buffered (s_writeSet o y157) y159)) := by simp only [fs, H0, H0v, H0x14, s_writeSet, s_buffered]
   rw [E160]
   obtain rfl := Option.some.inj h
   exact QTri.retI rfl rfl
def J0_484 (s : List Int32) (p0 : Ob) (x2 : Int32) (x3 : Int32) (x4 : Int32) (x5 : Int32) (x6 : Int32) (x7 : Int32) (x8 : Int32) (x9 : Int32) (x10 : Int32) : Option (((Int32 × QHeap)) ⊕ (Int32 × Int32 × Int32 × Int32 × Int32 × Int32 × Int32 × Int32 × Int32 × Ob)) :=
  (J0_744 s p0 x2 x3 x4 x5 x6 x7 x8 x9 x10)
theorem tJ0_484 (Ad : QAd n0 ad) (W : QW Z a0) (s : List Int32) (p0 : Ob) (x2 : Int32) (x3 : Int32) (x4 : Int32) (x5 : Int32) (x6 : Int32) (x7 : Int32) (x8 : Int32) (x9 : Int32) (x10 : Int32) {r : ((Int32 × QHeap)) ⊕ (Int32 × Int32 × Int32 × Int32 × Int32 × Int32 × Int32 × Int32 × Int32 × Ob)} {u : Option Value} {τ : QHeap} (h : J0_484 s p0 x2 x3 x4 x5 x6 x7 x8 x9 x10 = some r) (hx0 : ∀ x : Int32 × QHeap, r = .inl x → u = (some (Value.int x.1)) ∧ τ = x.2) (hc : ∀ x : Int32 × Int32 × Int32 × Int32 × Int32 × Int32 × Int32 × Int32 × Int32 × Ob, r = .inr x → QTri l Z n0 ad 0 (37, [vR 0, vR 1, vI x.1, vI x.2.1, vI x.2.2.1, vI x.2.2.2.1, vI x.2.2.2.2.1, vI x.2.2.2.2.2.1, vI x.2.2.2.2.2.2.1, vI x.2.2.2.2.2.2.2.1, vI x.2.2.2.2.2.2.2.2.1, none, none, none, none, none, none, none, none, none, none, none, none, none], [], (H0 s x.2.2.2.2.2.2.2.2.2)) u τ) : QTri l Z n0 ad 0 (484, [vR 0, vR 1, vI x2, vI x3, vI x4, vI x5, vI x6, vI x7, vI x8, vI x9, vI x10, none, none, none, none, none, none, none, none, none, none, none, none, none], [], (H0 s p0)) u τ := by
 unfold J0_484 at h
 refine zS Ad W 1 (st' := (744, [vR 0, vR 1, vI x2, vI x3, vI x4, vI x5, vI x6, vI x7, vI x8, vI x9, vI x10, none, none, none, none, none, none, none, none, none, none, none, none, none], [], (H0 s p0))) rfl ?_
 exact zM [tt,tt,tt,tt,tt,tt,tt,tt,tt,tt,tt,ff,ff,ff,ff,ff,ff,ff,ff,ff,ff,ff,ff,ff] (tJ0_744 Ad W s p0 x2 x3 x4 x5 x6 x7 x8 x9 x10 h hx0 hc)
/-- getVersion(I)I -/
def F28 (o : Ob) (x1 : Int32) : Option (Int32) :=
 (F8 o x1).bind fun r178 => (if r178 = (0:Int32) then some (0:Int32) else (aget (f_version o) x1).bind fun y180 => some y180)
theorem tF28 (Ad : QAd n0 ad) (W : QW Z a0) (s : List Int32) (o : Ob) (x1 : Int32) {r : Int32} (h : F28 o x1 = some r) : QTri l Z n0 ad 28 (0, qentry [.ref 1, .int x1] (pMaxL 28), [], (H0 s o)) (some (Value.int r)) (H0 s o) := by
 unfold F28 at h
 refine zS Ad W 2 (st' := (2, [vR 1, vI x1], [.int x1, .ref 1], (H0 s o))) rfl ?_
 obtain ⟨r178, hr178, h⟩ := bind_eq_some_iff.mp h
 refine QTri.callP W (a := 1) (as := [.int x1]) (rest := []) (w := (some (.int r178))) (σ₁ := (H0 s o)) rfl rfl rfl rfl rfl rfl rfl rfl (tF8 Ad W s o x1 hr178) ?_
 rcases qite h with ⟨hc179, h⟩ | ⟨hc179, h⟩
 ·refine zF Ad W (t := 10) (f := 8) rfl (XT.i0_ne_f hc179) ?_
  refine zS Ad W 1 (st' := (9, [vR 1, vI x1], [.int (0:Int32)], (H0 s o))) rfl ?_
  obtain rfl := Option.some.inj h
  exact QTri.retI rfl rfl
 ·refine zT Ad W (t := 10) (f := 8) rfl (XT.i0_ne_t hc179) ?_
  refine zS Ad W 3 (st' := (15, [vR 1, vI x1], [.int x1, .ref 3], (H0 s o))) rfl ?_
  obtain ⟨y180, hy180, h⟩ := bind_eq_some_iff.mp h
  refine zB Ad W (f := fun y180 => (16, [vR 1, vI x1], [.int y180], (H0 s o))) rfl hy180 ?_
  obtain rfl := Option.some.inj h
  exact QTri.retI rfl rfl
def J0_531 (s : List Int32) (p0 : Ob) (x2 : Int32) (x3 : Int32) (x4 : Int32) (x5 : Int32) (x6 : Int32) (x7 : Int32) (x8 : Int32) (x9 : Int32) (x10 : Int32) (x12 : Int32) (x13 : Int32) (x15 : Int32) (x16 : Int32) (x17 : Int32) (x18 : Int32) (x20 : Int32) (x21 : Int32) (x22 : Int32) : Option (((Int32)) ⊕ (Int32 × Int32)) :=
  some (.inr (x21, (x22 + (-1 : Int32))))
theorem tJ0_531 (Ad : QAd n0 ad) (W : QW Z a0) (s : List Int32) (p0 : Ob) (x2 : Int32) (x3 : Int32) (x4 : Int32) (x5 : Int32) (x6 : Int32) (x7 : Int32) (x8 : Int32) (x9 : Int32) (x10 : Int32) (x12 : Int32) (x13 : Int32) (x15 : Int32) (x16 : Int32) (x17 : Int32) (x18 : Int32) (x20 : Int32) (x21 : Int32) (x22 : Int32) {r : ((Int32)) ⊕ (Int32 × Int32)} {u : Option Value} {τ : QHeap} (h : J0_531 s p0 x2 x3 x4 x5 x6 x7 x8 x9 x10 x12 x13 x15 x16 x17 x18 x20 x21 x22 = some r) (hx0 : ∀ x : Int32, r = .inl x → QTri l Z n0 ad 0 (537, [vR 0, vR 1, vI x2, vI x3, vI x4, vI x5, vI x6, vI x7, vI x8, vI x9, vI x10, none, vI x12, vI x13, none, vI x15, none, vI x17, vI x18, none, vI x20, vI x, none, none], [], (H0 s p0)) u τ) (hc : ∀ x : Int32 × Int32, r = .inr x → QTri l Z n0 ad 0 (500, [vR 0, vR 1, vI x2, vI x3, vI x4, vI x5, vI x6, vI x7, vI x8, vI x9, vI x10, none, vI x12, vI x13, none, vI x15, vI x16, vI x17, vI x18, none, vI x20, vI x.1, vI x.2, none], [], (H0 s p0)) u τ) : QTri l Z n0 ad 0 (531, [vR 0, vR 1, vI x2, vI x3, vI x4, vI x5, vI x6, vI x7, vI x8, vI x9, vI x10, none, vI x12, vI x13, none, vI x15, vI x16, vI x17, vI x18, none, vI x20, vI x21, vI x22, none], [], (H0 s p0)) u τ := by
 unfold J0_531 at h
 refine zS Ad W 2 (st' := (500, [vR 0, vR 1, vI x2, vI x3, vI x4, vI x5, vI x6, vI x7, vI x8, vI x9, vI x10, none, vI x12, vI x13, none, vI x15, vI x16, vI x17, vI x18, none, vI x20, vI x21, vI (x22 + (-1:Int32)), none], [], (H0 s p0))) rfl ?_
 obtain rfl := Option.some.inj h
 exact zM [tt,tt,tt,tt,tt,tt,tt,tt,tt,tt,tt,ff,tt,tt,ff,tt,tt,tt,tt,ff,tt,tt,tt,ff] (hc (x21, (x22 + (-1:Int32))) rfl)
def B0_500 (s : List Int32) (p0 : Ob) (x2 : Int32) (x3 : Int32) (x4 : Int32) (x5 : Int32) (x6 : Int32) (x7 : Int32) (x8 : Int32) (x9 : Int32) (x10 : Int32) (x12 : Int32) (x13 : Int32) (x15 : Int32) (x16 : Int32) (x17 : Int32) (x18 : Int32) (x20 : Int32) (v : Int32 × Int32) : Option (((Int32)) ⊕ (Int32 × Int32)) :=
  (if v.2 < (0 : Int32) then some (.inl v.1) else (if ((x16 >>> (v.2 &&& 31)) &&& (1 : Int32)) = (1 : Int32) then (F28 p0 v.2).bind fun r181 => (J0_531 s p0 x2 x3 x4 x5 x6 x7 x8 x9 x10 x12 x13 x15 x16 x17 x18 x20 (if x20 < r181 then v.2 else v.1) v.2) else (J0_531 s p0 x2 x3 x4 x5 x6 x7 x8 x9 x10 x12 x13 x15 x16 x17 x18 x20 v.1 v.2)))
theorem tB0_500 (Ad : QAd n0 ad) (W : QW Z a0) (s : List Int32) (p0 : Ob) (x2 : Int32) (x3 : Int32) (x4 : Int32) (x5 : Int32) (x6 : Int32) (x7 : Int32) (x8 : Int32) (x9 : Int32) (x10 : Int32) (x12 : Int32) (x13 : Int32) (x15 : Int32) (x16 : Int32) (x17 : Int32) (x18 : Int32) (x20 : Int32) (v : Int32 × Int32) {r : ((Int32)) ⊕ (Int32 × Int32)} {u : Option Value} {τ : QHeap} (h : B0_500 s p0 x2 x3 x4 x5 x6 x7 x8 x9 x10 x12 x13 x15 x16 x17 x18 x20 v = some r) (hx0 : ∀ x : Int32, r = .inl x → QTri l Z n0 ad 0 (537, [vR 0, vR 1, vI x2, vI x3, vI x4, vI x5, vI x6, vI x7, vI x8, vI x9, vI x10, none, vI x12, vI x13, none, vI x15, none, vI x17, vI x18, none, vI x20, vI x, none, none], [], (H0 s p0)) u τ) (hc : ∀ x : Int32 × Int32, r = .inr x → QTri l Z n0 ad 0 (500, [vR 0, vR 1, vI x2, vI x3, vI x4, vI x5, vI x6, vI x7, vI x8, vI x9, vI x10, none, vI x12, vI x13, none, vI x15, vI x16, vI x17, vI x18, none, vI x20, vI x.1, vI x.2, none], [], (H0 s p0)) u τ) : QTri l Z n0 ad 0 (500, [vR 0, vR 1, vI x2, vI x3, vI x4, vI x5, vI x6, vI x7, vI x8, vI x9, vI x10, none, vI x12, vI x13, none, vI x15, vI x16, vI x17, vI x18, none, vI x20, vI v.1, vI v.2, none], [], (H0 s p0)) u τ := by
 unfold B0_500 at h
 refine zS Ad W 1 (st' := (502, [vR 0, vR 1, vI x2, vI x3, vI x4, vI x5, vI x6, vI x7, vI x8, vI x9, vI x10, none, vI x12, vI x13, none, vI x15, vI x16, vI x17, vI x18, none, vI x20, vI v.1, vI v.2, none], [.int v.2], (H0 s p0))) rfl ?_
 rcases qite h with ⟨hc176, h⟩ | ⟨hc176, h⟩
 ·refine zT Ad W (t := 537) (f := 505) rfl (XT.i0_lt_t hc176) ?_
  obtain rfl := Option.some.inj h
  exact zM [tt,tt,tt,tt,tt,tt,tt,tt,tt,tt,tt,ff,tt,tt,ff,tt,ff,tt,tt,ff,tt,tt,ff,ff] (hx0 v.1 rfl)
 ·refine zF Ad W (t := 537) (f := 505) rfl (XT.i0_lt_f hc176) ?_
  refine zS Ad W 6 (st' := (513, [vR 0, vR 1, vI x2, vI x3, vI x4, vI x5, vI x6, vI x7, vI x8, vI x9, vI x10, none, vI x12, vI x13, none, vI x15, vI x16, vI x17, vI x18, none, vI x20, vI v.1, vI v.2, none], [.int (1:Int32), .int ((x16 >>> (v.2 &&& 31)) &&& (1:Int32))], (H0 s p0))) rfl ?_
  rcases qite h with ⟨hc177, h⟩ | ⟨hc177, h⟩
  ·refine zF Ad W (t := 531) (f := 516) rfl (XT.ii_ne_f hc177) ?_
   refine zS Ad W 2 (st' := (519, [vR 0, vR 1, vI x2, vI x3, vI x4, vI x5, vI x6, vI x7, vI x8, vI x9, vI x10, none, vI x12, vI x13, none, vI x15, vI x16, vI x17, vI x18, none, vI x20, vI v.1, vI v.2, none], [.int v.2, .ref 1], (H0 s p0))) rfl ?_
   obtain ⟨r181, hr181, h⟩ := bind_eq_some_iff.mp h
   refine QTri.callV W (a := 1) (as := [.int v.2]) (rest := []) (w := (some (.int r181))) (σ₁ := (H0 s p0)) rfl rfl rfl rfl rfl rfl rfl rfl (tF28 Ad W s p0 v.2 hr181) ?_
   refine zS Ad W 1 (st' := (524, [vR 0, vR 1, vI x2, vI x3, vI x4, vI x5, vI x6, vI x7, vI x8, vI x9, vI x10, none, vI x12, vI x13, none, vI x15, vI x16, vI x17, vI x18, none, vI x20, vI v.1, vI v.2, none], [.int x20, .int r181], (H0 s p0))) rfl ?_
   have K183 : ∀ z182 : Int32, z182 = (if x20 < r181 then v.2 else v.1) → QTri l Z n0 ad 0 (531, [vR 0, vR 1, vI x2, vI x3, vI x4, vI x5, vI x6, vI x7, vI x8, vI x9, vI x10, none, vI x12, vI x13, none, vI x15, vI x16, vI x17, vI x18, none, vI x20, vI z182, vI v.2, none], [], (H0 s p0)) u τ := by
    intro z182 ez182
    subst ez182
    exact zM [tt,tt,tt,tt,tt,tt,tt,tt,tt,tt,tt,ff,tt,tt,ff,tt,tt,tt,tt,ff,tt,tt,tt,ff] (tJ0_531 Ad W s p0 x2 x3 x4 x5 x6 x7 x8 x9 x10 x12 x13 x15 x16 x17 x18 x20 (if x20 < r181 then v.2 else v.1) v.2 h hx0 hc)
   rcases em (x20 < r181) with hc184 | hc184
   ·refine zF Ad W (t := 531) (f := 527) rfl (XT.ii_le_f hc184) ?_
    refine zS Ad W 2 (st' := (531, [vR 0, vR 1, vI x2, vI x3, vI x4, vI x5, vI x6, vI x7, vI x8, vI x9, vI x10, none, vI x12, vI x13, none, vI x15, vI x16, vI x17, vI x18, none, vI x20, vI v.2, vI v.2, none], [], (H0 s p0))) rfl ?_
    exact zM [tt,tt,tt,tt,tt,tt,tt,tt,tt,tt,tt,ff,tt,tt,ff,tt,tt,tt,tt,ff,tt,tt,tt,ff] (K183 _ (if_pos hc184).symm)
   ·refine zT Ad W (t := 531) (f := 527) rfl (XT.ii_le_t hc184) ?_
    exact zM [tt,tt,tt,tt,tt,tt,tt,tt,tt,tt,tt,ff,tt,tt,ff,tt,tt,tt,tt,ff,tt,tt,tt,ff] (K183 _ (if_neg hc184).symm)
  ·refine zT Ad W (t := 531) (f := 516) rfl (XT.ii_ne_t hc177) ?_
   exact zM [tt,tt,tt,tt,tt,tt,tt,tt,tt,tt,tt,ff,tt,tt,ff,tt,tt,tt,tt,ff,tt,tt,tt,ff] (tJ0_531 Ad W s p0 x2 x3 x4 x5 x6 x7 x8 x9 x10 x12 x13 x15 x16 x17 x18 x20 v.1 v.2 h hx0 hc)
/-- isStale(I)Z -/
def F22 (o : Ob) (x1 : Int32) : Option (Int32) :=
 (aget (f_start o) x1).bind fun y189 => (if (f_window o) < ((f_commitCount o) - y189) then some (1:Int32) else some (0:Int32))
theorem tF22 (Ad : QAd n0 ad) (W : QW Z a0) (s : List Int32) (o : Ob) (x1 : Int32) {r : Int32} (h : F22 o x1 = some r) : QTri l Z n0 ad 22 (0, qentry [.ref 1, .int x1] (pMaxL 22), [], (H0 s o)) (some (Value.int r)) (H0 s o) := by
 unfold F22 at h
 refine zS Ad W 5 (st' := (9, [vR 1, vI x1], [.int x1, .ref 5, .int (f_commitCount o)], (H0 s o))) rfl ?_
 obtain ⟨y189, hy189, h⟩ := bind_eq_some_iff.mp h
 refine zB Ad W (f := fun y189 => (10, [vR 1, vI x1], [.int y189, .int (f_commitCount o)], (H0 s o))) rfl hy189 ?_
 refine zS Ad W 3 (st' := (15, [vR 1, vI x1], [.int (f_window o), .int ((f_commitCount o) - y189)], (H0 s o))) rfl ?_
 rcases qite h with ⟨hc190, h⟩ | ⟨hc190, h⟩
 ·refine zF Ad W (t := 22) (f := 18) rfl (XT.ii_le_f hc190) ?_
  refine zS Ad W 2 (st' := (23, [vR 1, vI x1], [.int (1:Int32)], (H0 s o))) rfl ?_
  obtain rfl := Option.some.inj h
  exact QTri.retZ rfl rfl
 ·refine zT Ad W (t := 22) (f := 18) rfl (XT.ii_le_t hc190) ?_
  refine zS Ad W 1 (st' := (23, [vR 1, vI x1], [.int (0:Int32)], (H0 s o))) rfl ?_
  obtain rfl := Option.some.inj h
  exact QTri.retZ rfl rfl
def J23_58 (o : Ob) (x2 : Int32) (x3 : Int32) (x4 : Int32) : Option (((Int32)) ⊕ (Int32)) :=
  some (.inr (x4 + (1 : Int32)))
theorem tJ23_58 (Ad : QAd n0 ad) (W : QW Z a0) (s : List Int32) (o : Ob) (x2 : Int32) (x3 : Int32) (x4 : Int32) {r : ((Int32)) ⊕ (Int32)} {u : Option Value} {τ : QHeap} (h : J23_58 o x2 x3 x4 = some r) (hx0 : ∀ x : Int32, r = .inl x → u = (some (Value.int x)) ∧ τ = (H0 s o)) (hc : ∀ x : Int32, r = .inr x → QTri l Z n0 ad 23 (17, [vR 1, none, vI x2, vI x3, vI x], [], (H0 s o)) u τ) : QTri l Z n0 ad 23 (58, [vR 1, none, vI x2, vI x3, vI x4], [], (H0 s o)) u τ := by
 unfold J23_58 at h
 refine zS Ad W 2 (st' := (17, [vR 1, none, vI x2, vI x3, vI (x4 + (1:Int32))], [], (H0 s o))) rfl ?_
 obtain rfl := Option.some.inj h
 exact zM [tt,ff,tt,tt,tt] (hc (x4 + (1:Int32)) rfl)
def B23_17 (o : Ob) (x2 : Int32) (x3 : Int32) (v : Int32) : Option (((Int32)) ⊕ (Int32)) :=
  (if v < (f_keyCount o) then (if v < (32 : Int32) then (F21 v).bind fun r197 => (if (x2 &&& r197) = (0 : Int32) then (J23_58 o x2 x3 v) else (aget (f_version o) v).bind fun y199 => (if x3 < y199 then some (.inl v) else (J23_58 o x2 x3 v))) else some (.inl (-1 : Int32))) else some (.inl (-1 : Int32)))
theorem tB23_17 (Ad : QAd n0 ad) (W : QW Z a0) (s : List Int32) (o : Ob) (x2 : Int32) (x3 : Int32) (v : Int32) {r : ((Int32)) ⊕ (Int32)} {u : Option Value} {τ : QHeap} (h : B23_17 o x2 x3 v = some r) (hx0 : ∀ x : Int32, r = .inl x → u = (some (Value.int x)) ∧ τ = (H0 s o)) (hc : ∀ x : Int32, r = .inr x → QTri l Z n0 ad 23 (17, [vR 1, none, vI x2, vI x3, vI x], [], (H0 s o)) u τ) : QTri l Z n0 ad 23 (17, [vR 1, none, vI x2, vI x3, vI v], [], (H0 s o)) u τ := by
 unfold B23_17 at h
 refine zS Ad W 3 (st' := (23, [vR 1, none, vI x2, vI x3, vI v], [.int (f_keyCount o), .int v], (H0 s o))) rfl ?_
 rcases qite h with ⟨hc195, h⟩ | ⟨hc195, h⟩
 ·refine zF Ad W (t := 64) (f := 26) rfl (XT.ii_ge_f hc195) ?_
  refine zS Ad W 2 (st' := (30, [vR 1, none, vI x2, vI x3, vI v], [.int (32:Int32), .int v], (H0 s o))) rfl ?_
  rcases qite h with ⟨hc196, h⟩ | ⟨hc196, h⟩
  ·refine zF Ad W (t := 64) (f := 33) rfl (XT.ii_ge_f hc196) ?_
   refine zS Ad W 3 (st' := (37, [vR 1, none, vI x2, vI x3, vI v], [.int v, .ref 1, .int x2], (H0 s o))) rfl ?_
   obtain ⟨r197, hr197, h⟩ := bind_eq_some_iff.mp h
   refine QTri.callP W (a := 1) (as := [.int v]) (rest := [.int x2]) (w := (some (.int r197))) (σ₁ := (H0 s o)) rfl rfl rfl rfl rfl rfl rfl rfl (tF21 Ad W v hr197) ?_
   refine zS Ad W 1 (st' := (41, [vR 1, none, vI x2, vI x3, vI v], [.int (x2 &&& r197)], (H0 s o))) rfl ?_
   rcases qite h with ⟨hc198, h⟩ | ⟨hc198, h⟩
   ·refine zT Ad W (t := 58) (f := 44) rfl (XT.i0_eq_t hc198) ?_
    exact zM [tt,ff,tt,tt,tt] (tJ23_58 Ad W s o x2 x3 v h hx0 hc)
   ·refine zF Ad W (t := 58) (f := 44) rfl (XT.i0_eq_f hc198) ?_
    refine zS Ad W 3 (st' := (50, [vR 1, none, vI x2, vI x3, vI v], [.int v, .ref 3], (H0 s o))) rfl ?_
    obtain ⟨y199, hy199, h⟩ := bind_eq_some_iff.mp h
    refine zB Ad W (f := fun y199 => (51, [vR 1, none, vI x2, vI x3, vI v], [.int y199], (H0 s o))) rfl hy199 ?_
    refine zS Ad W 1 (st' := (52, [vR 1, none, vI x2, vI x3, vI v], [.int x3, .int y199], (H0 s o))) rfl ?_
    rcases qite h with ⟨hc200, h⟩ | ⟨hc200, h⟩
    ·refine zF Ad W (t := 58) (f := 55) rfl (XT.ii_le_f hc200) ?_
     refine zS Ad W 1 (st' := (57, [vR 1, none, vI x2, vI x3, vI v], [.int v], (H0 s o))) rfl ?_
     obtain rfl := Option.some.inj h
     obtain ⟨rfl, rfl⟩ := hx0 v rfl
     exact QTri.retI rfl rfl
    ·refine zT Ad W (t := 58) (f := 55) rfl (XT.ii_le_t hc200) ?_
     exact zM [tt,ff,tt,tt,tt] (tJ23_58 Ad W s o x2 x3 v h hx0 hc)
  ·refine zT Ad W (t := 64) (f := 33) rfl (XT.ii_ge_t hc196) ?_
   refine zS Ad W 1 (st' := (65, [vR 1, none, vI x2, vI x3, vI v], [.int (-1:Int32)], (H0 s o))) rfl ?_
   obtain rfl := Option.some.inj h
   obtain ⟨rfl, rfl⟩ := hx0 (-1:Int32) rfl
   exact QTri.retI rfl rfl
 ·refine zT Ad W (t := 64) (f := 26) rfl (XT.ii_ge_t hc195) ?_
  refine zS Ad W 1 (st' := (65, [vR 1, none, vI x2, vI x3, vI v], [.int (-1:Int32)], (H0 s o))) rfl ?_
  obtain rfl := Option.some.inj h
  obtain ⟨rfl, rfl⟩ := hx0 (-1:Int32) rfl
  exact QTri.retI rfl rfl
/-- leastConflict(I)I -/
def F23 (o : Ob) (x1 : Int32) : Option (Int32) :=
 (aget (f_readSet o) x1).bind fun y193 => (aget (f_start o) x1).bind fun y194 => (loopN (B23_17 o y193 y194) qN (0:Int32)).bind fun e201 => some e201
theorem tF23 (Ad : QAd n0 ad) (W : QW Z a0) (s : List Int32) (o : Ob) (x1 : Int32) {r : Int32} (h : F23 o x1 = some r) : QTri l Z n0 ad 23 (0, qentry [.ref 1, .int x1] (pMaxL 23), [], (H0 s o)) (some (Value.int r)) (H0 s o) := by
 unfold F23 at h
 refine zS Ad W 3 (st' := (5, [vR 1, vI x1, none, none, none], [.int x1, .ref 6], (H0 s o))) rfl ?_
 obtain ⟨y193, hy193, h⟩ := bind_eq_some_iff.mp h
 refine zB Ad W (f := fun y193 => (6, [vR 1, vI x1, none, none, none], [.int y193], (H0 s o))) rfl hy193 ?_
 refine zS Ad W 4 (st' := (12, [vR 1, vI x1, vI y193, none, none], [.int x1, .ref 5], (H0 s o))) rfl ?_
 obtain ⟨y194, hy194, h⟩ := bind_eq_some_iff.mp h
 refine zB Ad W (f := fun y194 => (13, [vR 1, vI x1, vI y193, none, none], [.int y194], (H0 s o))) rfl hy194 ?_
 refine zS Ad W 3 (st' := (17, [vR 1, vI x1, vI y193, vI y194, vI (0:Int32)], [], (H0 s o))) rfl ?_
 obtain ⟨e201, he201, h⟩ := bind_eq_some_iff.mp h
 refine zM [tt,ff,tt,tt,tt] (loopN_tri (B := B23_17 o y193 y194) (T := fun lv202 => QTri l Z n0 ad 23 (17, [vR 1, none, vI y193, vI y194, vI lv202], [], (H0 s o)) (some (Value.int r)) (H0 s o)) (KE := fun e201a => (some (Value.int r)) = (some (Value.int e201a)) ∧ (H0 s o) = (H0 s o)) (fun lv202 r hB hE hC => tB23_17 Ad W s o y193 y194 lv202 hB (fun x q => hE _ q) (fun x q => hC x q)) qN (0:Int32) e201 he201 ?_)
 obtain rfl := Option.some.inj h
 exact ⟨rfl, rfl⟩
def H0x15 (s : List Int32) (o0 : Ob) (a0_10 : Int32) : QHeap := H0v s (f_value o0) (f_version o0) (f_active o0) (f_start o0) (f_readSet o0) (f_writeSet o0) (f_buffered o0) (f_keyCount o0) (f_slotCount o0) (f_window o0) a0_10 (f_abortCount o0) (f_lastConflict o0)
def J24_79 (o : Ob) (x1 : Int32) (x2 : Int32) (x3 : Int32) (x4 : Int32) : Option (((Ob)) ⊕ (Int32 × Ob)) :=
  some (.inr ((x4 + (1 : Int32)), o))
theorem tJ24_79 (Ad : QAd n0 ad) (W : QW Z a0) (s : List Int32) (o : Ob) (x1 : Int32) (x2 : Int32) (x3 : Int32) (x4 : Int32) {r : ((Ob)) ⊕ (Int32 × Ob)} {u : Option Value} {τ : QHeap} (h : J24_79 o x1 x2 x3 x4 = some r) (hx0 : ∀ x : Ob, r = .inl x → QTri l Z n0 ad 24 (85, [vR 1, vI x1, vI x2, none, none], [], (H0 s x)) u τ) (hc : ∀ x : Int32 × Ob, r = .inr x → QTri l Z n0 ad 24 (25, [vR 1, vI x1, vI x2, vI x3, vI x.1], [], (H0 s x.2)) u τ) : QTri l Z n0 ad 24 (79, [vR 1, vI x1, vI x2, vI x3, vI x4], [], (H0 s o)) u τ := by
 unfold J24_79 at h
 refine zS Ad W 2 (st' := (25, [vR 1, vI x1, vI x2, vI x3, vI (x4 + (1:Int32))], [], (H0 s o))) rfl ?_
 obtain rfl := Option.some.inj h
 exact zM [tt,tt,tt,tt,tt] (hc ((x4 + (1:Int32)), o) rfl)
def H0x16 (s : List Int32) (o0 : Ob) (a0_0 : List Int32) : QHeap := H0v s a0_0 (f_version o0) (f_active o0) (f_start o0) (f_readSet o0) (f_writeSet o0) (f_buffered o0) (f_keyCount o0) (f_slotCount o0) (f_window o0) (f_commitCount o0) (f_abortCount o0) (f_lastConflict o0)
def H0x17 (s : List Int32) (o0 : Ob) (a0_0 : List Int32) (a0_1 : List Int32) : QHeap := H0v s a0_0 a0_1 (f_active o0) (f_start o0) (f_readSet o0) (f_writeSet o0) (f_buffered o0) (f_keyCount o0) (f_slotCount o0) (f_window o0) (f_commitCount o0) (f_abortCount o0) (f_lastConflict o0)
def B24_25 (x1 : Int32) (x2 : Int32) (x3 : Int32) (v : Int32 × Ob) : Option (((Ob)) ⊕ (Int32 × Ob)) :=
  (if v.1 < (f_keyCount v.2) then (if v.1 < (32 : Int32) then (F21 v.1).bind fun r209 => (if (x3 &&& r209) = (0 : Int32) then (J24_79 v.2 x1 x2 x3 v.1) else (F27 x1 v.1).bind fun r211 => (aget (f_buffered v.2) r211).bind fun y212 => (aset (f_value v.2) v.1 y212).bind fun y213 => (aset (f_version v.2) v.1 x2).bind fun y214 => (J24_79 (s_version (s_value v.2 y213) y214) x1 x2 x3 v.1)) else some (.inl v.2)) else some (.inl v.2))
theorem tB24_25 (Ad : QAd n0 ad) (W : QW Z a0) (s : List Int32) (x1 : Int32) (x2 : Int32) (x3 : Int32) (v : Int32 × Ob) {r : ((Ob)) ⊕ (Int32 × Ob)} {u : Option Value} {τ : QHeap} (h : B24_25 x1 x2 x3 v = some r) (hx0 : ∀ x : Ob, r = .inl x → QTri l Z n0 ad 24 (85, [vR 1, vI x1, vI x2, none, none], [], (H0 s x)) u τ) (hc : ∀ x : Int32 × Ob, r = .inr x → QTri l Z n0 ad 24 (25, [vR 1, vI x1, vI x2, vI x3, vI x.1], [], (H0 s x.2)) u τ) : QTri l Z n0 ad 24 (25, [vR 1, vI x1, vI x2, vI x3, vI v.1], [], (H0 s v.2)) u τ := by
 unfold B24_25 at h
 refine zS Ad W 3 (st' := (31, [vR 1, vI x1, vI x2, vI x3, vI v.1], [.int (f_keyCount v.2), .int v.1], (H0 s v.2))) rfl ?_
 rcases qite h with ⟨hc207, h⟩ | ⟨hc207, h⟩
 ·refine zF Ad W (t := 85) (f := 34) rfl (XT.ii_ge_f hc207) ?_
  refine zS Ad W 2 (st' := (38, [vR 1, vI x1, vI x2, vI x3, vI v.1], [.int (32:Int32), .int v.1], (H0 s v.2))) rfl ?_
  rcases qite h with ⟨hc208, h⟩ | ⟨hc208, h⟩
  ·refine zF Ad W (t := 85) (f := 41) rfl (XT.ii_ge_f hc208) ?_
   refine zS Ad W 3 (st' := (45, [vR 1, vI x1, vI x2, vI x3, vI v.1], [.int v.1, .ref 1, .int x3], (H0 s v.2))) rfl ?_
   obtain ⟨r209, hr209, h⟩ := bind_eq_some_iff.mp h
   refine QTri.callP W (a := 1) (as := [.int v.1]) (rest := [.int x3]) (w := (some (.int r209))) (σ₁ := (H0 s v.2)) rfl rfl rfl rfl rfl rfl rfl rfl (tF21 Ad W v.1 hr209) ?_
   refine zS Ad W 1 (st' := (49, [vR 1, vI x1, vI x2, vI x3, vI v.1], [.int (x3 &&& r209)], (H0 s v.2))) rfl ?_
   rcases qite h with ⟨hc210, h⟩ | ⟨hc210, h⟩
   ·refine zT Ad W (t := 79) (f := 52) rfl (XT.i0_eq_t hc210) ?_
    exact zM [tt,tt,tt,tt,tt] (tJ24_79 Ad W s v.2 x1 x2 x3 v.1 h hx0 hc)
   ·refine zF Ad W (t := 79) (f := 52) rfl (XT.i0_eq_f hc210) ?_
    refine zS Ad W 8 (st' := (66, [vR 1, vI x1, vI x2, vI x3, vI v.1], [.int v.1, .int x1, .ref 1, .ref 8, .int v.1, .ref 2], (H0 s v.2))) rfl ?_
    obtain ⟨r211, hr211, h⟩ := bind_eq_some_iff.mp h
    refine QTri.callP W (a := 1) (as := [.int x1, .int v.1]) (rest := [.ref 8, .int v.1, .ref 2]) (w := (some (.int r211))) (σ₁ := (H0 s v.2)) rfl rfl rfl rfl rfl rfl rfl rfl (tF27 Ad W x1 v.1 hr211) ?_
    obtain ⟨y212, hy212, h⟩ := bind_eq_some_iff.mp h
    refine zB Ad W (f := fun y212 => (70, [vR 1, vI x1, vI x2, vI x3, vI v.1], [.int y212, .int v.1, .ref 2], (H0 s v.2))) rfl hy212 ?_
    obtain ⟨y213, hy213, h⟩ := bind_eq_some_iff.mp h
    refine zB Ad W (f := fun y213 => (71, [vR 1, vI x1, vI x2, vI x3, vI v.1], [], (H0x16 s v.2 y213))) rfl hy213 ?_
    refine zS Ad W 4 (st' := (78, [vR 1, vI x1, vI x2, vI x3, vI v.1], [.int x2, .int v.1, .ref 3], (H0x16 s v.2 y213))) rfl ?_
    obtain ⟨y214, hy214, h⟩ := bind_eq_some_iff.mp h
    refine zB Ad W (f := fun y214 => (79, [vR 1, vI x1, vI x2, vI x3, vI v.1], [], (H0x17 s v.2 y213 y214))) rfl hy214 ?_
    have E215 : ((H0x17 s v.2 y213 y214) : QHeap) = (H0 s (s_version (s_value v.2 y213) y214)) := by simp only [fs, H0, H0v, H0x17, s_value, s_version]
    rw [E215]
    exact zM [tt,tt,tt,tt,tt] (tJ24_79 Ad W s (s_version (s_value v.2 y213) y214) x1 x2 x3 v.1 h hx0 hc)
  ·refine zT Ad W (t := 85) (f := 41) rfl (XT.ii_ge_t hc208) ?_
   obtain rfl := Option.some.inj h
   exact zM [tt,tt,tt,ff,ff] (hx0 v.2 rfl)
 ·refine zT Ad W (t := 85) (f := 34) rfl (XT.ii_ge_t hc207) ?_
  obtain rfl := Option.some.inj h
  exact zM [tt,tt,tt,ff,ff] (hx0 v.2 rfl)
/-- endTx(I)V -/
def F25 (o : Ob) (x1 : Int32) : Option (Ob) :=
 (F20 o x1).bind fun r218 => some r218
theorem tF25 (Ad : QAd n0 ad) (W : QW Z a0) (s : List Int32) (o : Ob) (x1 : Int32) {r : Ob} (h : F25 o x1 = some r) : QTri l Z n0 ad 25 (0, qentry [.ref 1, .int x1] (pMaxL 25), [], (H0 s o)) (none : Option Value) (H0 s r) := by
 unfold F25 at h
 refine zS Ad W 2 (st' := (2, [vR 1, vI x1], [.int x1, .ref 1], (H0 s o))) rfl ?_
 obtain ⟨r218, hr218, h⟩ := bind_eq_some_iff.mp h
 refine QTri.callP W (a := 1) (as := [.int x1]) (rest := []) (w := none) (σ₁ := (H0 s r218)) rfl rfl rfl rfl rfl rfl rfl rfl (tF20 Ad W s o x1 hr218) ?_
 obtain rfl := Option.some.inj h
 exact QTri.ret0 rfl rfl
def H0x18 (s : List Int32) (o0 : Ob) (a0_12 : Int32) : QHeap := H0v s (f_value o0) (f_version o0) (f_active o0) (f_start o0) (f_readSet o0) (f_writeSet o0) (f_buffered o0) (f_keyCount o0) (f_slotCount o0) (f_window o0) (f_commitCount o0) (f_abortCount o0) a0_12
def J24_85 (o : Ob) (x1 : Int32) (x2 : Int32) : Option (Int32 × Ob) :=
  (F25 o x1).bind fun r219 => some (x2, (s_lastConflict r219 (-1 : Int32)))
theorem tJ24_85 (Ad : QAd n0 ad) (W : QW Z a0) (s : List Int32) (o : Ob) (x1 : Int32) (x2 : Int32) {r : Int32 × Ob} (h : J24_85 o x1 x2 = some r) : QTri l Z n0 ad 24 (85, [vR 1, vI x1, vI x2, none, none], [], (H0 s o)) (some (Value.int r.1)) (H0 s r.2) := by
 unfold J24_85 at h
 refine zS Ad W 2 (st' := (87, [vR 1, vI x1, vI x2, none, none], [.int x1, .ref 1], (H0 s o))) rfl ?_
 obtain ⟨r219, hr219, h⟩ := bind_eq_some_iff.mp h
 refine QTri.callP W (a := 1) (as := [.int x1]) (rest := []) (w := none) (σ₁ := (H0 s r219)) rfl rfl rfl rfl rfl rfl rfl rfl (tF25 Ad W s o x1 hr219) ?_
 refine zS Ad W 3 (st' := (95, [vR 1, vI x1, vI x2, none, none], [], (H0x18 s r219 (-1:Int32)))) rfl ?_
 refine zS Ad W 1 (st' := (96, [vR 1, vI x1, vI x2, none, none], [.int x2], (H0x18 s r219 (-1:Int32)))) rfl ?_
 have E220 : ((H0x18 s r219 (-1:Int32)) : QHeap) = (H0 s (s_lastConflict r219 (-1:Int32))) := by simp only [fs, H0, H0v, H0x18, s_lastConflict]
 rw [E220]
 obtain rfl := Option.some.inj h
 exact QTri.retI rfl rfl
/-- install(I)I -/
def F24 (o : Ob) (x1 : Int32) : Option (Int32 × Ob) :=
 (aget (f_writeSet o) x1).bind fun y205 => (loopN (B24_25 x1 ((f_commitCount o) + (1:Int32)) y205) qN ((0:Int32), (s_commitCount o ((f_commitCount o) + (1:Int32))))).bind fun e216 => (J24_85 e216 x1 ((f_commitCount o) + (1:Int32)))
theorem tF24 (Ad : QAd n0 ad) (W : QW Z a0) (s : List Int32) (o : Ob) (x1 : Int32) {r : Int32 × Ob} (h : F24 o x1 = some r) : QTri l Z n0 ad 24 (0, qentry [.ref 1, .int x1] (pMaxL 24), [], (H0 s o)) (some (Value.int r.1)) (H0 s r.2) := by
 unfold F24 at h
 refine zS Ad W 6 (st' := (10, [vR 1, vI x1, none, none, none], [], (H0x15 s o ((f_commitCount o) + (1:Int32))))) rfl ?_
 refine zS Ad W 6 (st' := (20, [vR 1, vI x1, vI ((f_commitCount o) + (1:Int32)), none, none], [.int x1, .ref 7], (H0x15 s o ((f_commitCount o) + (1:Int32))))) rfl ?_
 obtain ⟨y205, hy205, h⟩ := bind_eq_some_iff.mp h
 refine zB Ad W (f := fun y205 => (21, [vR 1, vI x1, vI ((f_commitCount o) + (1:Int32)), none, none], [.int y205], (H0x15 s o ((f_commitCount o) + (1:Int32))))) rfl hy205 ?_
 refine zS Ad W 3 (st' := (25, [vR 1, vI x1, vI ((f_commitCount o) + (1:Int32)), vI y205, vI (0:Int32)], [], (H0x15 s o ((f_commitCount o) + (1:Int32))))) rfl ?_
 have E206 : ((H0x15 s o ((f_commitCount o) + (1:Int32))) : QHeap) = (H0 s (s_commitCount o ((f_commitCount o) + (1:Int32)))) := by simp only [fs, H0, H0v, H0x15, s_commitCount]
 rw [E206]
 obtain ⟨e216, he216, h⟩ := bind_eq_some_iff.mp h
 refine zM [tt,tt,tt,tt,tt] (loopN_tri (B := B24_25 x1 ((f_commitCount o) + (1:Int32)) y205) (T := fun lv217 => QTri l Z n0 ad 24 (25, [vR 1, vI x1, vI ((f_commitCount o) + (1:Int32)), vI y205, vI lv217.1], [], (H0 s lv217.2)) (some (Value.int r.1)) (H0 s r.2)) (KE := fun e216a => QTri l Z n0 ad 24 (85, [vR 1, vI x1, vI ((f_commitCount o) + (1:Int32)), none, none], [], (H0 s e216a)) (some (Value.int r.1)) (H0 s r.2)) (fun lv217 r hB hE hC => tB24_25 Ad W s x1 ((f_commitCount o) + (1:Int32)) y205 lv217 hB (fun x q => hE _ q) (fun x q => hC x q)) qN ((0:Int32), (s_commitCount o ((f_commitCount o) + (1:Int32)))) e216 he216 ?_)
 exact zM [tt,tt,tt,ff,ff] (tJ24_85 Ad W s e216 x1 ((f_commitCount o) + (1:Int32)) h)
def H0x19 (s : List Int32) (o0 : Ob) (a0_11 : Int32) : QHeap := H0v s (f_value o0) (f_version o0) (f_active o0) (f_start o0) (f_readSet o0) (f_writeSet o0) (f_buffered o0) (f_keyCount o0) (f_slotCount o0) (f_window o0) (f_commitCount o0) a0_11 (f_lastConflict o0)
def H0x20 (s : List Int32) (o0 : Ob) (a0_11 : Int32) (a0_12 : Int32) : QHeap := H0v s (f_value o0) (f_version o0) (f_active o0) (f_start o0) (f_readSet o0) (f_writeSet o0) (f_buffered o0) (f_keyCount o0) (f_slotCount o0) (f_window o0) (f_commitCount o0) a0_11 a0_12
/-- failCommit(III)I -/
def F30 (o : Ob) (x1 : Int32) (x2 : Int32) (x3 : Int32) : Option (Int32 × Ob) :=
 (F25 o x1).bind fun r222 => some (x3, (s_lastConflict (s_abortCount r222 ((f_abortCount r222) + (1:Int32))) x2))
theorem tF30 (Ad : QAd n0 ad) (W : QW Z a0) (s : List Int32) (o : Ob) (x1 : Int32) (x2 : Int32) (x3 : Int32) {r : Int32 × Ob} (h : F30 o x1 x2 x3 = some r) : QTri l Z n0 ad 30 (0, qentry [.ref 1, .int x1, .int x2, .int x3] (pMaxL 30), [], (H0 s o)) (some (Value.int r.1)) (H0 s r.2) := by
 unfold F30 at h
 refine zS Ad W 2 (st' := (2, [vR 1, vI x1, vI x2, vI x3], [.int x1, .ref 1], (H0 s o))) rfl ?_
 obtain ⟨r222, hr222, h⟩ := bind_eq_some_iff.mp h
 refine QTri.callP W (a := 1) (as := [.int x1]) (rest := []) (w := none) (σ₁ := (H0 s r222)) rfl rfl rfl rfl rfl rfl rfl rfl (tF25 Ad W s o x1 hr222) ?_
 refine zS Ad W 6 (st' := (15, [vR 1, vI x1, vI x2, vI x3], [], (H0x19 s r222 ((f_abortCount r222) + (1:Int32))))) rfl ?_
 refine zS Ad W 3 (st' := (20, [vR 1, vI x1, vI x2, vI x3], [], (H0x20 s r222 ((f_abortCount r222) + (1:Int32)) x2))) rfl ?_
 refine zS Ad W 1 (st' := (21, [vR 1, vI x1, vI x2, vI x3], [.int x3], (H0x20 s r222 ((f_abortCount r222) + (1:Int32)) x2))) rfl ?_
 have E223 : ((H0x20 s r222 ((f_abortCount r222) + (1:Int32)) x2) : QHeap) = (H0 s (s_lastConflict (s_abortCount r222 ((f_abortCount r222) + (1:Int32))) x2)) := by simp only [fs, H0, H0v, H0x20, s_abortCount, s_lastConflict]
 rw [E223]
 obtain rfl := Option.some.inj h
 exact QTri.retI rfl rfl
/-- commit(I)I -/
def F10 (o : Ob) (x1 : Int32) : Option (Int32 × Ob) :=
 (F4 o x1).bind fun r187 => (if r187 = (0:Int32) then some ((-1:Int32), o) else (F22 o x1).bind fun r191 => (if r191 = (0:Int32) then (F23 o x1).bind fun r203 => (if r203 < (0:Int32) then (F24 o x1).bind fun r221 => some (r221.1, r221.2) else (F30 o x1 r203 (-3:Int32)).bind fun r224 => some (r224.1, r224.2)) else (F30 o x1 (-1:Int32) (-4:Int32)).bind fun r225 => some (r225.1, r225.2)))
theorem tF10 (Ad : QAd n0 ad) (W : QW Z a0) (s : List Int32) (o : Ob) (x1 : Int32) {r : Int32 × Ob} (h : F10 o x1 = some r) : QTri l Z n0 ad 10 (0, qentry [.ref 1, .int x1] (pMaxL 10), [], (H0 s o)) (some (Value.int r.1)) (H0 s r.2) := by
 unfold F10 at h
 refine zS Ad W 2 (st' := (2, [vR 1, vI x1, none], [.int x1, .ref 1], (H0 s o))) rfl ?_
 obtain ⟨r187, hr187, h⟩ := bind_eq_some_iff.mp h
 refine QTri.callP W (a := 1) (as := [.int x1]) (rest := []) (w := (some (.int r187))) (σ₁ := (H0 s o)) rfl rfl rfl rfl rfl rfl rfl rfl (tF4 Ad W s o x1 hr187) ?_
 rcases qite h with ⟨hc188, h⟩ | ⟨hc188, h⟩
 ·refine zF Ad W (t := 10) (f := 8) rfl (XT.i0_ne_f hc188) ?_
  refine zS Ad W 1 (st' := (9, [vR 1, vI x1, none], [.int (-1:Int32)], (H0 s o))) rfl ?_
  obtain rfl := Option.some.inj h
  exact QTri.retI rfl rfl
 ·refine zT Ad W (t := 10) (f := 8) rfl (XT.i0_ne_t hc188) ?_
  refine zS Ad W 2 (st' := (12, [vR 1, vI x1, none], [.int x1, .ref 1], (H0 s o))) rfl ?_
  obtain ⟨r191, hr191, h⟩ := bind_eq_some_iff.mp h
  refine QTri.callP W (a := 1) (as := [.int x1]) (rest := []) (w := (some (.int r191))) (σ₁ := (H0 s o)) rfl rfl rfl rfl rfl rfl rfl rfl (tF22 Ad W s o x1 hr191) ?_
  rcases qite h with ⟨hc192, h⟩ | ⟨hc192, h⟩
  ·refine zT Ad W (t := 27) (f := 18) rfl (XT.i0_eq_t hc192) ?_
   refine zS Ad W 2 (st' := (29, [vR 1, vI x1, none], [.int x1, .ref 1], (H0 s o))) rfl ?_
   obtain ⟨r203, hr203, h⟩ := bind_eq_some_iff.mp h
   refine QTri.callP W (a := 1) (as := [.int x1]) (rest := []) (w := (some (.int r203))) (σ₁ := (H0 s o)) rfl rfl rfl rfl rfl rfl rfl rfl (tF23 Ad W s o x1 hr203) ?_
   refine zS Ad W 2 (st' := (34, [vR 1, vI x1, vI r203], [.int r203], (H0 s o))) rfl ?_
   rcases qite h with ⟨hc204, h⟩ | ⟨hc204, h⟩
   ·refine zT Ad W (t := 46) (f := 37) rfl (XT.i0_lt_t hc204) ?_
    refine zS Ad W 2 (st' := (48, [vR 1, vI x1, vI r203], [.int x1, .ref 1], (H0 s o))) rfl ?_
    obtain ⟨r221, hr221, h⟩ := bind_eq_some_iff.mp h
    refine QTri.callP W (a := 1) (as := [.int x1]) (rest := []) (w := (some (.int r221.1))) (σ₁ := (H0 s r221.2)) rfl rfl rfl rfl rfl rfl rfl rfl (tF24 Ad W s o x1 hr221) ?_
    obtain rfl := Option.some.inj h
    exact QTri.retI rfl rfl
   ·refine zF Ad W (t := 46) (f := 37) rfl (XT.i0_lt_f hc204) ?_
    refine zS Ad W 4 (st' := (42, [vR 1, vI x1, vI r203], [.int (-3:Int32), .int r203, .int x1, .ref 1], (H0 s o))) rfl ?_
    obtain ⟨r224, hr224, h⟩ := bind_eq_some_iff.mp h
    refine QTri.callP W (a := 1) (as := [.int x1, .int r203, .int (-3:Int32)]) (rest := []) (w := (some (.int r224.1))) (σ₁ := (H0 s r224.2)) rfl rfl rfl rfl rfl rfl rfl rfl (tF30 Ad W s o x1 r203 (-3:Int32) hr224) ?_
    obtain rfl := Option.some.inj h
    exact QTri.retI rfl rfl
  ·refine zF Ad W (t := 27) (f := 18) rfl (XT.i0_eq_f hc192) ?_
   refine zS Ad W 4 (st' := (23, [vR 1, vI x1, none], [.int (-4:Int32), .int (-1:Int32), .int x1, .ref 1], (H0 s o))) rfl ?_
   obtain ⟨r225, hr225, h⟩ := bind_eq_some_iff.mp h
   refine QTri.callP W (a := 1) (as := [.int x1, .int (-1:Int32), .int (-4:Int32)]) (rest := []) (w := (some (.int r225.1))) (σ₁ := (H0 s r225.2)) rfl rfl rfl rfl rfl rfl rfl rfl (tF30 Ad W s o x1 (-1:Int32) (-4:Int32) hr225) ?_
   obtain rfl := Option.some.inj h
   exact QTri.retI rfl rfl
def J0_701 (s : List Int32) (p0 : Ob) (x2 : Int32) (x3 : Int32) (x4 : Int32) (x5 : Int32) (x6 : Int32) (x7 : Int32) (x8 : Int32) (x9 : Int32) (x10 : Int32) : Option (((Int32 × QHeap)) ⊕ (Int32 × Int32 × Int32 × Int32 × Int32 × Int32 × Int32 × Int32 × Int32 × Ob)) :=
  (J0_744 s p0 x2 x3 x4 x5 x6 x7 x8 x9 x10)
theorem tJ0_701 (Ad : QAd n0 ad) (W : QW Z a0) (s : List Int32) (p0 : Ob) (x2 : Int32) (x3 : Int32) (x4 : Int32) (x5 : Int32) (x6 : Int32) (x7 : Int32) (x8 : Int32) (x9 : Int32) (x10 : Int32) {r : ((Int32 × QHeap)) ⊕ (Int32 × Int32 × Int32 × Int32 × Int32 × Int32 × Int32 × Int32 × Int32 × Ob)} {u : Option Value} {τ : QHeap} (h : J0_701 s p0 x2 x3 x4 x5 x6 x7 x8 x9 x10 = some r) (hx0 : ∀ x : Int32 × QHeap, r = .inl x → u = (some (Value.int x.1)) ∧ τ = x.2) (hc : ∀ x : Int32 × Int32 × Int32 × Int32 × Int32 × Int32 × Int32 × Int32 × Int32 × Ob, r = .inr x → QTri l Z n0 ad 0 (37, [vR 0, vR 1, vI x.1, vI x.2.1, vI x.2.2.1, vI x.2.2.2.1, vI x.2.2.2.2.1, vI x.2.2.2.2.2.1, vI x.2.2.2.2.2.2.1, vI x.2.2.2.2.2.2.2.1, vI x.2.2.2.2.2.2.2.2.1, none, none, none, none, none, none, none, none, none, none, none, none, none], [], (H0 s x.2.2.2.2.2.2.2.2.2)) u τ) : QTri l Z n0 ad 0 (701, [vR 0, vR 1, vI x2, vI x3, vI x4, vI x5, vI x6, vI x7, vI x8, vI x9, vI x10, none, none, none, none, none, none, none, none, none, none, none, none, none], [], (H0 s p0)) u τ := by
 unfold J0_701 at h
 refine zS Ad W 1 (st' := (744, [vR 0, vR 1, vI x2, vI x3, vI x4, vI x5, vI x6, vI x7, vI x8, vI x9, vI x10, none, none, none, none, none, none, none, none, none, none, none, none, none], [], (H0 s p0))) rfl ?_
 exact zM [tt,tt,tt,tt,tt,tt,tt,tt,tt,tt,tt,ff,ff,ff,ff,ff,ff,ff,ff,ff,ff,ff,ff,ff] (tJ0_744 Ad W s p0 x2 x3 x4 x5 x6 x7 x8 x9 x10 h hx0 hc)
def J0_664 (s : List Int32) (p0 : Ob) (x2 : Int32) (x3 : Int32) (x4 : Int32) (x5 : Int32) (x6 : Int32) (x7 : Int32) (x8 : Int32) (x9 : Int32) (x10 : Int32) (x13 : Int32) (x17 : Int32) (x18 : Int32) (x23 : Int32) : Option (((Unit) ⊕ (Int32 × QHeap)) ⊕ (Int32)) :=
  some (.inr (x23 + (1 : Int32)))
theorem tJ0_664 (Ad : QAd n0 ad) (W : QW Z a0) (s : List Int32) (p0 : Ob) (x2 : Int32) (x3 : Int32) (x4 : Int32) (x5 : Int32) (x6 : Int32) (x7 : Int32) (x8 : Int32) (x9 : Int32) (x10 : Int32) (x13 : Int32) (x17 : Int32) (x18 : Int32) (x23 : Int32) {r : ((Unit) ⊕ (Int32 × QHeap)) ⊕ (Int32)} {u : Option Value} {τ : QHeap} (h : J0_664 s p0 x2 x3 x4 x5 x6 x7 x8 x9 x10 x13 x17 x18 x23 = some r) (hx0 : ∀ x : Unit, r = .inl (Sum.inl x) → QTri l Z n0 ad 0 (670, [vR 0, vR 1, vI x2, vI x3, vI x4, vI x5, vI x6, vI x7, vI x8, vI x9, vI x10, none, none, vI x13, none, none, none, vI x17, vI x18, none, none, none, none, none], [], (H0 s p0)) u τ) (hx1 : ∀ x : Int32 × QHeap, r = .inl (Sum.inr x) → u = (some (Value.int x.1)) ∧ τ = x.2) (hc : ∀ x : Int32, r = .inr x → QTri l Z n0 ad 0 (634, [vR 0, vR 1, vI x2, vI x3, vI x4, vI x5, vI x6, vI x7, vI x8, vI x9, vI x10, none, none, vI x13, none, none, none, vI x17, vI x18, none, none, none, none, vI x], [], (H0 s p0)) u τ) : QTri l Z n0 ad 0 (664, [vR 0, vR 1, vI x2, vI x3, vI x4, vI x5, vI x6, vI x7, vI x8, vI x9, vI x10, none, none, vI x13, none, none, none, vI x17, vI x18, none, none, none, none, vI x23], [], (H0 s p0)) u τ := by
 unfold J0_664 at h
 refine zS Ad W 2 (st' := (634, [vR 0, vR 1, vI x2, vI x3, vI x4, vI x5, vI x6, vI x7, vI x8, vI x9, vI x10, none, none, vI x13, none, none, none, vI x17, vI x18, none, none, none, none, vI (x23 + (1:Int32))], [], (H0 s p0))) rfl ?_
 obtain rfl := Option.some.inj h
 exact zM [tt,tt,tt,tt,tt,tt,tt,tt,tt,tt,tt,ff,ff,tt,ff,ff,ff,tt,tt,ff,ff,ff,ff,tt] (hc (x23 + (1:Int32)) rfl)
def B0_634 (s : List Int32) (p0 : Ob) (x2 : Int32) (x3 : Int32) (x4 : Int32) (x5 : Int32) (x6 : Int32) (x7 : Int32) (x8 : Int32) (x9 : Int32) (x10 : Int32) (x13 : Int32) (x17 : Int32) (x18 : Int32) (v : Int32) : Option (((Unit) ⊕ (Int32 × QHeap)) ⊕ (Int32)) :=
  (if v < (8 : Int32) then (if ((x17 >>> (v &&& 31)) &&& (1 : Int32)) = (1 : Int32) then (F28 p0 v).bind fun r235 => (if r235 = x3 then (J0_664 s p0 x2 x3 x4 x5 x6 x7 x8 x9 x10 x13 x17 x18 v) else some (.inl (Sum.inr ((0 : Int32), (H0 s p0))))) else (J0_664 s p0 x2 x3 x4 x5 x6 x7 x8 x9 x10 x13 x17 x18 v)) else some (.inl (Sum.inl ())))
theorem tB0_634 (Ad : QAd n0 ad) (W : QW Z a0) (s : List Int32) (p0 : Ob) (x2 : Int32) (x3 : Int32) (x4 : Int32) (x5 : Int32) (x6 : Int32) (x7 : Int32) (x8 : Int32) (x9 : Int32) (x10 : Int32) (x13 : Int32) (x17 : Int32) (x18 : Int32) (v : Int32) {r : ((Unit) ⊕ (Int32 × QHeap)) ⊕ (Int32)} {u : Option Value} {τ : QHeap} (h : B0_634 s p0 x2 x3 x4 x5 x6 x7 x8 x9 x10 x13 x17 x18 v = some r) (hx0 : ∀ x : Unit, r = .inl (Sum.inl x) → QTri l Z n0 ad 0 (670, [vR 0, vR 1, vI x2, vI x3, vI x4, vI x5, vI x6, vI x7, vI x8, vI x9, vI x10, none, none, vI x13, none, none, none, vI x17, vI x18, none, none, none, none, none], [], (H0 s p0)) u τ) (hx1 : ∀ x : Int32 × QHeap, r = .inl (Sum.inr x) → u = (some (Value.int x.1)) ∧ τ = x.2) (hc : ∀ x : Int32, r = .inr x → QTri l Z n0 ad 0 (634, [vR 0, vR 1, vI x2, vI x3, vI x4, vI x5, vI x6, vI x7, vI x8, vI x9, vI x10, none, none, vI x13, none, none, none, vI x17, vI x18, none, none, none, none, vI x], [], (H0 s p0)) u τ) : QTri l Z n0 ad 0 (634, [vR 0, vR 1, vI x2, vI x3, vI x4, vI x5, vI x6, vI x7, vI x8, vI x9, vI x10, none, none, vI x13, none, none, none, vI x17, vI x18, none, none, none, none, vI v], [], (H0 s p0)) u τ := by
 unfold B0_634 at h
 refine zS Ad W 2 (st' := (638, [vR 0, vR 1, vI x2, vI x3, vI x4, vI x5, vI x6, vI x7, vI x8, vI x9, vI x10, none, none, vI x13, none, none, none, vI x17, vI x18, none, none, none, none, vI v], [.int (8:Int32), .int v], (H0 s p0))) rfl ?_
 rcases qite h with ⟨hc233, h⟩ | ⟨hc233, h⟩
 ·refine zF Ad W (t := 670) (f := 641) rfl (XT.ii_ge_f hc233) ?_
  refine zS Ad W 6 (st' := (649, [vR 0, vR 1, vI x2, vI x3, vI x4, vI x5, vI x6, vI x7, vI x8, vI x9, vI x10, none, none, vI x13, none, none, none, vI x17, vI x18, none, none, none, none, vI v], [.int (1:Int32), .int ((x17 >>> (v &&& 31)) &&& (1:Int32))], (H0 s p0))) rfl ?_
  rcases qite h with ⟨hc234, h⟩ | ⟨hc234, h⟩
  ·refine zF Ad W (t := 664) (f := 652) rfl (XT.ii_ne_f hc234) ?_
   refine zS Ad W 2 (st' := (655, [vR 0, vR 1, vI x2, vI x3, vI x4, vI x5, vI x6, vI x7, vI x8, vI x9, vI x10, none, none, vI x13, none, none, none, vI x17, vI x18, none, none, none, none, vI v], [.int v, .ref 1], (H0 s p0))) rfl ?_
   obtain ⟨r235, hr235, h⟩ := bind_eq_some_iff.mp h
   refine QTri.callV W (a := 1) (as := [.int v]) (rest := []) (w := (some (.int r235))) (σ₁ := (H0 s p0)) rfl rfl rfl rfl rfl rfl rfl rfl (tF28 Ad W s p0 v hr235) ?_
   refine zS Ad W 1 (st' := (659, [vR 0, vR 1, vI x2, vI x3, vI x4, vI x5, vI x6, vI x7, vI x8, vI x9, vI x10, none, none, vI x13, none, none, none, vI x17, vI x18, none, none, none, none, vI v], [.int x3, .int r235], (H0 s p0))) rfl ?_
   rcases qite h with ⟨hc236, h⟩ | ⟨hc236, h⟩
   ·refine zT Ad W (t := 664) (f := 662) rfl (XT.ii_eq_t hc236) ?_
    exact zM [tt,tt,tt,tt,tt,tt,tt,tt,tt,tt,tt,ff,ff,tt,ff,ff,ff,tt,tt,ff,ff,ff,ff,tt] (tJ0_664 Ad W s p0 x2 x3 x4 x5 x6 x7 x8 x9 x10 x13 x17 x18 v h hx0 hx1 hc)
   ·refine zF Ad W (t := 664) (f := 662) rfl (XT.ii_eq_f hc236) ?_
    refine zS Ad W 1 (st' := (663, [vR 0, vR 1, vI x2, vI x3, vI x4, vI x5, vI x6, vI x7, vI x8, vI x9, vI x10, none, none, vI x13, none, none, none, vI x17, vI x18, none, none, none, none, vI v], [.int (0:Int32)], (H0 s p0))) rfl ?_
    obtain rfl := Option.some.inj h
    obtain ⟨rfl, rfl⟩ := hx1 ((0:Int32), (H0 s p0)) rfl
    exact QTri.retZ rfl rfl
  ·refine zT Ad W (t := 664) (f := 652) rfl (XT.ii_ne_t hc234) ?_
   exact zM [tt,tt,tt,tt,tt,tt,tt,tt,tt,tt,tt,ff,ff,tt,ff,ff,ff,tt,tt,ff,ff,ff,ff,tt] (tJ0_664 Ad W s p0 x2 x3 x4 x5 x6 x7 x8 x9 x10 x13 x17 x18 v h hx0 hx1 hc)
 ·refine zT Ad W (t := 670) (f := 641) rfl (XT.ii_ge_t hc233) ?_
  obtain rfl := Option.some.inj h
  exact zM [tt,tt,tt,tt,tt,tt,tt,tt,tt,tt,tt,ff,ff,tt,ff,ff,ff,tt,tt,ff,ff,ff,ff,ff] (hx0 () rfl)
/-- abort(I)I -/
def F29 (o : Ob) (x1 : Int32) : Option (Int32 × Ob) :=
 (F4 o x1).bind fun r244 => (if r244 = (0:Int32) then some ((-1:Int32), o) else (F25 o x1).bind fun r246 => some ((0:Int32), (s_abortCount r246 ((f_abortCount r246) + (1:Int32)))))
theorem tF29 (Ad : QAd n0 ad) (W : QW Z a0) (s : List Int32) (o : Ob) (x1 : Int32) {r : Int32 × Ob} (h : F29 o x1 = some r) : QTri l Z n0 ad 29 (0, qentry [.ref 1, .int x1] (pMaxL 29), [], (H0 s o)) (some (Value.int r.1)) (H0 s r.2) := by
 unfold F29 at h
 refine zS Ad W 2 (st' := (2, [vR 1, vI x1], [.int x1, .ref 1], (H0 s o))) rfl ?_
 obtain ⟨r244, hr244, h⟩ := bind_eq_some_iff.mp h
 refine QTri.callP W (a := 1) (as := [.int x1]) (rest := []) (w := (some (.int r244))) (σ₁ := (H0 s o)) rfl rfl rfl rfl rfl rfl rfl rfl (tF4 Ad W s o x1 hr244) ?_
 rcases qite h with ⟨hc245, h⟩ | ⟨hc245, h⟩
 ·refine zF Ad W (t := 10) (f := 8) rfl (XT.i0_ne_f hc245) ?_
  refine zS Ad W 1 (st' := (9, [vR 1, vI x1], [.int (-1:Int32)], (H0 s o))) rfl ?_
  obtain rfl := Option.some.inj h
  exact QTri.retI rfl rfl
 ·refine zT Ad W (t := 10) (f := 8) rfl (XT.i0_ne_t hc245) ?_
  refine zS Ad W 2 (st' := (12, [vR 1, vI x1], [.int x1, .ref 1], (H0 s o))) rfl ?_
  obtain ⟨r246, hr246, h⟩ := bind_eq_some_iff.mp h
  refine QTri.callP W (a := 1) (as := [.int x1]) (rest := []) (w := none) (σ₁ := (H0 s r246)) rfl rfl rfl rfl rfl rfl rfl rfl (tF25 Ad W s o x1 hr246) ?_
  refine zS Ad W 6 (st' := (25, [vR 1, vI x1], [], (H0x19 s r246 ((f_abortCount r246) + (1:Int32))))) rfl ?_
  refine zS Ad W 1 (st' := (26, [vR 1, vI x1], [.int (0:Int32)], (H0x19 s r246 ((f_abortCount r246) + (1:Int32))))) rfl ?_
  have E247 : ((H0x19 s r246 ((f_abortCount r246) + (1:Int32))) : QHeap) = (H0 s (s_abortCount r246 ((f_abortCount r246) + (1:Int32)))) := by simp only [fs, H0, H0v, H0x19, s_abortCount]
  rw [E247]
  obtain rfl := Option.some.inj h
  exact QTri.retI rfl rfl
def B0_37 (s : List Int32) (v : Int32 × Int32 × Int32 × Int32 × Int32 × Int32 × Int32 × Int32 × Int32 × Ob) : Option (((Int32 × QHeap)) ⊕ (Int32 × Int32 × Int32 × Int32 × Int32 × Int32 × Int32 × Int32 × Int32 × Ob)) :=
  (if (v.2.2.2.2.2.2.2.2.1 + (3 : Int32)) < (s.length.toInt32) then (aget s v.2.2.2.2.2.2.2.2.1).bind fun y9 => (aget s (v.2.2.2.2.2.2.2.2.1 + (1 : Int32))).bind fun y11 => (aget s (v.2.2.2.2.2.2.2.2.1 + (2 : Int32))).bind fun y13 => (aget s (v.2.2.2.2.2.2.2.2.1 + (3 : Int32))).bind fun y15 => (F3 v.2.2.2.2.2.2.2.2.2 ((y11 &&& (255 : Int32)) % (5 : Int32))).bind fun r27 => (F5 v.2.2.2.2.2.2.2.2.2 ((y11 &&& (255 : Int32)) % (5 : Int32))).bind fun r31 => (F6 v.2.2.2.2.2.2.2.2.2 ((y11 &&& (255 : Int32)) % (5 : Int32)) ((y13 &&& (255 : Int32)) % (9 : Int32))).bind fun r44 => (F7 v.2.2.2.2.2.2.2.2.2 ((y13 &&& (255 : Int32)) % (9 : Int32))).bind fun r48 => (F9 ((y11 &&& (255 : Int32)) % (5 : Int32)) v.2.2.2.2.1 v.2.2.2.2.2.1 v.2.2.2.2.2.2.1 v.2.2.2.2.2.2.2.1).bind fun r52 => (if ((y9 &&& (7 : Int32)) % (5 : Int32)) = (0 : Int32) then (loopN (B0_174 s v.2.2.2.2.2.2.2.2.2 v.1 v.2.1 v.2.2.1 v.2.2.2.1 v.2.2.2.2.1 v.2.2.2.2.2.1 v.2.2.2.2.2.2.1 v.2.2.2.2.2.2.2.1 v.2.2.2.2.2.2.2.2.1) qN (0 : Int32)).bind fun e56 => (J0_196 s v.2.2.2.2.2.2.2.2.2 v.1 v.2.1 v.2.2.1 v.2.2.2.1 v.2.2.2.2.1 v.2.2.2.2.2.1 v.2.2.2.2.2.2.1 v.2.2.2.2.2.2.2.1 v.2.2.2.2.2.2.2.2.1 e56) else (if ((y9 &&& (7 : Int32)) % (5 : Int32)) = (1 : Int32) then (F16 v.2.2.2.2.2.2.2.2.2 ((y11 &&& (255 : Int32)) % (5 : Int32)) ((y13 &&& (255 : Int32)) % (9 : Int32))).bind fun r137 => (if (if ((y11 &&& (255 : Int32)) % (5 : Int32)) < (4 : Int32) then (if ((v.1 >>> (((y11 &&& (255 : Int32)) % (5 : Int32)) &&& 31)) &&& (1 : Int32)) = (1 : Int32) then (1 : Int32) else (0 : Int32)) else (0 : Int32)) = (0 : Int32) then (J0_302 s r137.2 v.1 v.2.1 v.2.2.1 v.2.2.2.1 v.2.2.2.2.1 v.2.2.2.2.2.1 v.2.2.2.2.2.2.1 v.2.2.2.2.2.2.2.1 v.2.2.2.2.2.2.2.2.1 ((y11 &&& (255 : Int32)) % (5 : Int32)) r27 r137.1) else (if ((y13 &&& (255 : Int32)) % (9 : Int32)) < (8 : Int32) then (if ((r31 >>> (((y13 &&& (255 : Int32)) % (9 : Int32)) &&& 31)) &&& (1 : Int32)) = (1 : Int32) then (if r137.1 = r44 then (F3 r137.2 ((y11 &&& (255 : Int32)) % (5 : Int32))).bind fun r145 => (if r145 = r27 then (J0_376 s r137.2 v.1 v.2.1 v.2.2.1 v.2.2.2.1 v.2.2.2.2.1 v.2.2.2.2.2.1 v.2.2.2.2.2.2.1 v.2.2.2.2.2.2.2.1 v.2.2.2.2.2.2.2.2.1) else some (.inl ((0 : Int32), (H0 s r137.2)))) else some (.inl ((0 : Int32), (H0 s r137.2)))) else (if r137.1 = r48 then (F3 r137.2 ((y11 &&& (255 : Int32)) % (5 : Int32))).bind fun r148 => (if r148 = (r27 ||| ((1 : Int32) <<< (((y13 &&& (255 : Int32)) % (9 : Int32)) &&& 31))) then (J0_376 s r137.2 v.1 v.2.1 v.2.2.1 v.2.2.2.1 v.2.2.2.2.1 v.2.2.2.2.2.1 v.2.2.2.2.2.2.1 v.2.2.2.2.2.2.2.1 v.2.2.2.2.2.2.2.2.1) else some (.inl ((0 : Int32), (H0 s r137.2)))) else some (.inl ((0 : Int32), (H0 s r137.2))))) else (J0_302 s r137.2 v.1 v.2.1 v.2.2.1 v.2.2.2.1 v.2.2.2.2.1 v.2.2.2.2.2.1 v.2.2.2.2.2.2.1 v.2.2.2.2.2.2.2.1 v.2.2.2.2.2.2.2.2.1 ((y11 &&& (255 : Int32)) % (5 : Int32)) r27 r137.1))) else (if ((y9 &&& (7 : Int32)) % (5 : Int32)) = (2 : Int32) then (F26 v.2.2.2.2.2.2.2.2.2 ((y11 &&& (255 : Int32)) % (5 : Int32)) ((y13 &&& (255 : Int32)) % (9 : Int32)) y15).bind fun r161 => (if (if ((y11 &&& (255 : Int32)) % (5 : Int32)) < (4 : Int32) then (if ((v.1 >>> (((y11 &&& (255 : Int32)) % (5 : Int32)) &&& 31)) &&& (1 : Int32)) = (1 : Int32) then (1 : Int32) else (0 : Int32)) else (0 : Int32)) = (0 : Int32) then (if r161.1 = (-1 : Int32) then (J0_484 s r161.2 v.1 v.2.1 v.2.2.1 v.2.2.2.1 v.2.2.2.2.1 v.2.2.2.2.2.1 v.2.2.2.2.2.2.1 v.2.2.2.2.2.2.2.1 v.2.2.2.2.2.2.2.2.1) else some (.inl ((0 : Int32), (H0 s r161.2)))) else (if ((y13 &&& (255 : Int32)) % (9 : Int32)) < (8 : Int32) then (if r161.1 = (0 : Int32) then (F6 r161.2 ((y11 &&& (255 : Int32)) % (5 : Int32)) ((y13 &&& (255 : Int32)) % (9 : Int32))).bind fun r166 => (if r166 = y15 then (F5 r161.2 ((y11 &&& (255 : Int32)) % (5 : Int32))).bind fun r168 => (if r168 = (r31 ||| ((1 : Int32) <<< (((y13 &&& (255 : Int32)) % (9 : Int32)) &&& 31))) then (F3 r161.2 ((y11 &&& (255 : Int32)) % (5 : Int32))).bind fun r170 => (if r170 = r27 then (F7 r161.2 ((y13 &&& (255 : Int32)) % (9 : Int32))).bind fun r172 => (if r172 = r48 then (J0_484 s r161.2 v.1 v.2.1 v.2.2.1 v.2.2.2.1 v.2.2.2.2.1 v.2.2.2.2.2.1 v.2.2.2.2.2.2.1 v.2.2.2.2.2.2.2.1 v.2.2.2.2.2.2.2.2.1) else some (.inl ((0 : Int32), (H0 s r161.2)))) else some (.inl ((0 : Int32), (H0 s r161.2)))) else some (.inl ((0 : Int32), (H0 s r161.2)))) else some (.inl ((0 : Int32), (H0 s r161.2)))) else some (.inl ((0 : Int32), (H0 s r161.2)))) else (if r161.1 = (-2 : Int32) then (J0_484 s r161.2 v.1 v.2.1 v.2.2.1 v.2.2.2.1 v.2.2.2.2.1 v.2.2.2.2.2.1 v.2.2.2.2.2.2.1 v.2.2.2.2.2.2.2.1 v.2.2.2.2.2.2.2.2.1) else some (.inl ((0 : Int32), (H0 s r161.2)))))) else (if ((y9 &&& (7 : Int32)) % (5 : Int32)) = (3 : Int32) then (loopN (B0_500 s v.2.2.2.2.2.2.2.2.2 v.1 v.2.1 v.2.2.1 v.2.2.2.1 v.2.2.2.2.1 v.2.2.2.2.2.1 v.2.2.2.2.2.2.1 v.2.2.2.2.2.2.2.1 v.2.2.2.2.2.2.2.2.1 ((y11 &&& (255 : Int32)) % (5 : Int32)) ((y13 &&& (255 : Int32)) % (9 : Int32)) (if ((y11 &&& (255 : Int32)) % (5 : Int32)) < (4 : Int32) then (if ((v.1 >>> (((y11 &&& (255 : Int32)) % (5 : Int32)) &&& 31)) &&& (1 : Int32)) = (1 : Int32) then (1 : Int32) else (0 : Int32)) else (0 : Int32)) r27 r31 r44 r52) qN ((-1 : Int32), (7 : Int32))).bind fun e185 => (F10 v.2.2.2.2.2.2.2.2.2 ((y11 &&& (255 : Int32)) % (5 : Int32))).bind fun r226 => (if (if ((y11 &&& (255 : Int32)) % (5 : Int32)) < (4 : Int32) then (if ((v.1 >>> (((y11 &&& (255 : Int32)) % (5 : Int32)) &&& 31)) &&& (1 : Int32)) = (1 : Int32) then (1 : Int32) else (0 : Int32)) else (0 : Int32)) = (0 : Int32) then (if r226.1 = (-1 : Int32) then (J0_701 s r226.2 v.1 v.2.1 v.2.2.1 v.2.2.2.1 v.2.2.2.2.1 v.2.2.2.2.2.1 v.2.2.2.2.2.2.1 v.2.2.2.2.2.2.2.1 v.2.2.2.2.2.2.2.2.1) else some (.inl ((0 : Int32), (H0 s r226.2)))) else (if (4 : Int32) < (v.2.1 - r52) then (if r226.1 = (-4 : Int32) then (J0_701 s r226.2 (v.1 &&& (((1 : Int32) <<< (((y11 &&& (255 : Int32)) % (5 : Int32)) &&& 31)) ^^^ (-1 : Int32))) v.2.1 (v.2.2.1 + (1 : Int32)) (-1 : Int32) v.2.2.2.2.1 v.2.2.2.2.2.1 v.2.2.2.2.2.2.1 v.2.2.2.2.2.2.2.1 v.2.2.2.2.2.2.2.2.1) else some (.inl ((0 : Int32), (H0 s r226.2)))) else (if e185 < (0 : Int32) then (if r226.1 = (v.2.1 + (1 : Int32)) then ((loopN (B0_634 s r226.2 (v.1 &&& (((1 : Int32) <<< (((y11 &&& (255 : Int32)) % (5 : Int32)) &&& 31)) ^^^ (-1 : Int32))) (v.2.1 + (1 : Int32)) v.2.2.1 (-1 : Int32) v.2.2.2.2.1 v.2.2.2.2.2.1 v.2.2.2.2.2.2.1 v.2.2.2.2.2.2.2.1 v.2.2.2.2.2.2.2.2.1 ((y13 &&& (255 : Int32)) % (9 : Int32)) r31 r44) qN (0 : Int32)).bind fun e237 => match e237 with | .inl e237a => (if ((y13 &&& (255 : Int32)) % (9 : Int32)) < (8 : Int32) then (if ((r31 >>> (((y13 &&& (255 : Int32)) % (9 : Int32)) &&& 31)) &&& (1 : Int32)) = (1 : Int32) then (F7 r226.2 ((y13 &&& (255 : Int32)) % (9 : Int32))).bind fun r241 => (if r241 = r44 then (J0_701 s r226.2 (v.1 &&& (((1 : Int32) <<< (((y11 &&& (255 : Int32)) % (5 : Int32)) &&& 31)) ^^^ (-1 : Int32))) (v.2.1 + (1 : Int32)) v.2.2.1 (-1 : Int32) v.2.2.2.2.1 v.2.2.2.2.2.1 v.2.2.2.2.2.2.1 v.2.2.2.2.2.2.2.1 v.2.2.2.2.2.2.2.2.1) else some (.inl ((0 : Int32), (H0 s r226.2)))) else (J0_701 s r226.2 (v.1 &&& (((1 : Int32) <<< (((y11 &&& (255 : Int32)) % (5 : Int32)) &&& 31)) ^^^ (-1 : Int32))) (v.2.1 + (1 : Int32)) v.2.2.1 (-1 : Int32) v.2.2.2.2.1 v.2.2.2.2.2.1 v.2.2.2.2.2.2.1 v.2.2.2.2.2.2.2.1 v.2.2.2.2.2.2.2.2.1)) else (J0_701 s r226.2 (v.1 &&& (((1 : Int32) <<< (((y11 &&& (255 : Int32)) % (5 : Int32)) &&& 31)) ^^^ (-1 : Int32))) (v.2.1 + (1 : Int32)) v.2.2.1 (-1 : Int32) v.2.2.2.2.1 v.2.2.2.2.2.1 v.2.2.2.2.2.2.1 v.2.2.2.2.2.2.2.1 v.2.2.2.2.2.2.2.2.1)) | .inr e237a => some (.inl e237a)) else some (.inl ((0 : Int32), (H0 s r226.2)))) else (if r226.1 = (-3 : Int32) then (J0_701 s r226.2 (v.1 &&& (((1 : Int32) <<< (((y11 &&& (255 : Int32)) % (5 : Int32)) &&& 31)) ^^^ (-1 : Int32))) v.2.1 (v.2.2.1 + (1 : Int32)) e185 v.2.2.2.2.1 v.2.2.2.2.2.1 v.2.2.2.2.2.2.1 v.2.2.2.2.2.2.2.1 v.2.2.2.2.2.2.2.2.1) else some (.inl ((0 : Int32), (H0 s r226.2))))))) else (F29 v.2.2.2.2.2.2.2.2.2 ((y11 &&& (255 : Int32)) % (5 : Int32))).bind fun r248 => (if (if ((y11 &&& (255 : Int32)) % (5 : Int32)) < (4 : Int32) then (if ((v.1 >>> (((y11 &&& (255 : Int32)) % (5 : Int32)) &&& 31)) &&& (1 : Int32)) = (1 : Int32) then (1 : Int32) else (0 : Int32)) else (0 : Int32)) = (0 : Int32) then (if r248.1 = (-1 : Int32) then (J0_744 s r248.2 v.1 v.2.1 v.2.2.1 v.2.2.2.1 v.2.2.2.2.1 v.2.2.2.2.2.1 v.2.2.2.2.2.2.1 v.2.2.2.2.2.2.2.1 v.2.2.2.2.2.2.2.2.1) else some (.inl ((0 : Int32), (H0 s r248.2)))) else (if r248.1 = (0 : Int32) then (J0_744 s r248.2 (v.1 &&& (((1 : Int32) <<< (((y11 &&& (255 : Int32)) % (5 : Int32)) &&& 31)) ^^^ (-1 : Int32))) v.2.1 (v.2.2.1 + (1 : Int32)) v.2.2.2.1 v.2.2.2.2.1 v.2.2.2.2.2.1 v.2.2.2.2.2.2.1 v.2.2.2.2.2.2.2.1 v.2.2.2.2.2.2.2.2.1) else some (.inl ((0 : Int32), (H0 s r248.2))))))))) else some (.inl ((1 : Int32), (H0 s v.2.2.2.2.2.2.2.2.2))))
theorem tB0_37 (Ad : QAd n0 ad) (W : QW Z a0) (s : List Int32) (v : Int32 × Int32 × Int32 × Int32 × Int32 × Int32 × Int32 × Int32 × Int32 × Ob) {r : ((Int32 × QHeap)) ⊕ (Int32 × Int32 × Int32 × Int32 × Int32 × Int32 × Int32 × Int32 × Int32 × Ob)} {u : Option Value} {τ : QHeap} (h : B0_37 s v = some r) (hx0 : ∀ x : Int32 × QHeap, r = .inl x → u = (some (Value.int x.1)) ∧ τ = x.2) (hc : ∀ x : Int32 × Int32 × Int32 × Int32 × Int32 × Int32 × Int32 × Int32 × Int32 × Ob, r = .inr x → QTri l Z n0 ad 0 (37, [vR 0, vR 1, vI x.1, vI x.2.1, vI x.2.2.1, vI x.2.2.2.1, vI x.2.2.2.2.1, vI x.2.2.2.2.2.1, vI x.2.2.2.2.2.2.1, vI x.2.2.2.2.2.2.2.1, vI x.2.2.2.2.2.2.2.2.1, none, none, none, none, none, none, none, none, none, none, none, none, none], [], (H0 s x.2.2.2.2.2.2.2.2.2)) u τ) : QTri l Z n0 ad 0 (37, [vR 0, vR 1, vI v.1, vI v.2.1, vI v.2.2.1, vI v.2.2.2.1, vI v.2.2.2.2.1, vI v.2.2.2.2.2.1, vI v.2.2.2.2.2.2.1, vI v.2.2.2.2.2.2.2.1, vI v.2.2.2.2.2.2.2.2.1, none, none, none, none, none, none, none, none, none, none, none, none, none], [], (H0 s v.2.2.2.2.2.2.2.2.2)) u τ := by
 unfold B0_37 at h
 refine zS Ad W 5 (st' := (43, [vR 0, vR 1, vI v.1, vI v.2.1, vI v.2.2.1, vI v.2.2.2.1, vI v.2.2.2.2.1, vI v.2.2.2.2.2.1, vI v.2.2.2.2.2.2.1, vI v.2.2.2.2.2.2.2.1, vI v.2.2.2.2.2.2.2.2.1, none, none, none, none, none, none, none, none, none, none, none, none, none], [.int (s.length.toInt32), .int (v.2.2.2.2.2.2.2.2.1 + (3:Int32))], (H0 s v.2.2.2.2.2.2.2.2.2))) rfl ?_
 rcases qite h with ⟨hc8, h⟩ | ⟨hc8, h⟩
 ·refine zF Ad W (t := 893) (f := 46) rfl (XT.ii_ge_f hc8) ?_
  refine zS Ad W 2 (st' := (49, [vR 0, vR 1, vI v.1, vI v.2.1, vI v.2.2.1, vI v.2.2.2.1, vI v.2.2.2.2.1, vI v.2.2.2.2.2.1, vI v.2.2.2.2.2.2.1, vI v.2.2.2.2.2.2.2.1, vI v.2.2.2.2.2.2.2.2.1, none, none, none, none, none, none, none, none, none, none, none, none, none], [.int v.2.2.2.2.2.2.2.2.1, .ref 0], (H0 s v.2.2.2.2.2.2.2.2.2))) rfl ?_
  obtain ⟨y9, hy9, h⟩ := bind_eq_some_iff.mp h
  refine zB Ad W (f := fun y9 => (50, [vR 0, vR 1, vI v.1, vI v.2.1, vI v.2.2.1, vI v.2.2.2.1, vI v.2.2.2.2.1, vI v.2.2.2.2.2.1, vI v.2.2.2.2.2.2.1, vI v.2.2.2.2.2.2.2.1, vI v.2.2.2.2.2.2.2.2.1, none, none, none, none, none, none, none, none, none, none, none, none, none], [.int y9], (H0 s v.2.2.2.2.2.2.2.2.2))) rfl hy9 ?_
  refine zS Ad W 9 (st' := (62, [vR 0, vR 1, vI v.1, vI v.2.1, vI v.2.2.1, vI v.2.2.2.1, vI v.2.2.2.2.1, vI v.2.2.2.2.2.1, vI v.2.2.2.2.2.2.1, vI v.2.2.2.2.2.2.2.1, vI v.2.2.2.2.2.2.2.2.1, vI ((y9 &&& (7:Int32)) % (5:Int32)), none, none, none, none, none, none, none, none, none, none, none, none], [.int (v.2.2.2.2.2.2.2.2.1 + (1:Int32)), .ref 0], (H0 s v.2.2.2.2.2.2.2.2.2))) rfl ?_
  obtain ⟨y11, hy11, h⟩ := bind_eq_some_iff.mp h
  refine zB Ad W (f := fun y11 => (63, [vR 0, vR 1, vI v.1, vI v.2.1, vI v.2.2.1, vI v.2.2.2.1, vI v.2.2.2.2.1, vI v.2.2.2.2.2.1, vI v.2.2.2.2.2.2.1, vI v.2.2.2.2.2.2.2.1, vI v.2.2.2.2.2.2.2.2.1, vI ((y9 &&& (7:Int32)) % (5:Int32)), none, none, none, none, none, none, none, none, none, none, none, none], [.int y11], (H0 s v.2.2.2.2.2.2.2.2.2))) rfl hy11 ?_
  refine zS Ad W 9 (st' := (76, [vR 0, vR 1, vI v.1, vI v.2.1, vI v.2.2.1, vI v.2.2.2.1, vI v.2.2.2.2.1, vI v.2.2.2.2.2.1, vI v.2.2.2.2.2.2.1, vI v.2.2.2.2.2.2.2.1, vI v.2.2.2.2.2.2.2.2.1, vI ((y9 &&& (7:Int32)) % (5:Int32)), vI ((y11 &&& (255:Int32)) % (5:Int32)), none, none, none, none, none, none, none, none, none, none, none], [.int (v.2.2.2.2.2.2.2.2.1 + (2:Int32)), .ref 0], (H0 s v.2.2.2.2.2.2.2.2.2))) rfl ?_
  obtain ⟨y13, hy13, h⟩ := bind_eq_some_iff.mp h
  refine zB Ad W (f := fun y13 => (77, [vR 0, vR 1, vI v.1, vI v.2.1, vI v.2.2.1, vI v.2.2.2.1, vI v.2.2.2.2.1, vI v.2.2.2.2.2.1, vI v.2.2.2.2.2.2.1, vI v.2.2.2.2.2.2.2.1, vI v.2.2.2.2.2.2.2.2.1, vI ((y9 &&& (7:Int32)) % (5:Int32)), vI ((y11 &&& (255:Int32)) % (5:Int32)), none, none, none, none, none, none, none, none, none, none, none], [.int y13], (H0 s v.2.2.2.2.2.2.2.2.2))) rfl hy13 ?_
  refine zS Ad W 9 (st' := (91, [vR 0, vR 1, vI v.1, vI v.2.1, vI v.2.2.1, vI v.2.2.2.1, vI v.2.2.2.2.1, vI v.2.2.2.2.2.1, vI v.2.2.2.2.2.2.1, vI v.2.2.2.2.2.2.2.1, vI v.2.2.2.2.2.2.2.2.1, vI ((y9 &&& (7:Int32)) % (5:Int32)), vI ((y11 &&& (255:Int32)) % (5:Int32)), vI ((y13 &&& (255:Int32)) % (9:Int32)), none, none, none, none, none, none, none, none, none, none], [.int (v.2.2.2.2.2.2.2.2.1 + (3:Int32)), .ref 0], (H0 s v.2.2.2.2.2.2.2.2.2))) rfl ?_
  obtain ⟨y15, hy15, h⟩ := bind_eq_some_iff.mp h
  refine zB Ad W (f := fun y15 => (92, [vR 0, vR 1, vI v.1, vI v.2.1, vI v.2.2.1, vI v.2.2.2.1, vI v.2.2.2.2.1, vI v.2.2.2.2.2.1, vI v.2.2.2.2.2.2.1, vI v.2.2.2.2.2.2.2.1, vI v.2.2.2.2.2.2.2.2.1, vI ((y9 &&& (7:Int32)) % (5:Int32)), vI ((y11 &&& (255:Int32)) % (5:Int32)), vI ((y13 &&& (255:Int32)) % (9:Int32)), none, none, none, none, none, none, none, none, none, none], [.int y15], (H0 s v.2.2.2.2.2.2.2.2.2))) rfl hy15 ?_
  refine zS Ad W 3 (st' := (97, [vR 0, vR 1, vI v.1, vI v.2.1, vI v.2.2.1, vI v.2.2.2.1, vI v.2.2.2.2.1, vI v.2.2.2.2.2.1, vI v.2.2.2.2.2.2.1, vI v.2.2.2.2.2.2.2.1, vI v.2.2.2.2.2.2.2.2.1, vI ((y9 &&& (7:Int32)) % (5:Int32)), vI ((y11 &&& (255:Int32)) % (5:Int32)), vI ((y13 &&& (255:Int32)) % (9:Int32)), vI y15, none, none, none, none, none, none, none, none, none], [.int (4:Int32), .int ((y11 &&& (255:Int32)) % (5:Int32))], (H0 s v.2.2.2.2.2.2.2.2.2))) rfl ?_
  have K17 : ∀ z16 : Int32, z16 = (if ((y11 &&& (255:Int32)) % (5:Int32)) < (4:Int32) then (if ((v.1 >>> (((y11 &&& (255:Int32)) % (5:Int32)) &&& 31)) &&& (1:Int32)) = (1:Int32) then (1:Int32) else (0:Int32)) else (0:Int32)) → QTri l Z n0 ad 0 (115, [vR 0, vR 1, vI v.1, vI v.2.1, vI v.2.2.1, vI v.2.2.2.1, vI v.2.2.2.2.1, vI v.2.2.2.2.2.1, vI v.2.2.2.2.2.2.1, vI v.2.2.2.2.2.2.2.1, vI v.2.2.2.2.2.2.2.2.1, vI ((y9 &&& (7:Int32)) % (5:Int32)), vI ((y11 &&& (255:Int32)) % (5:Int32)), vI ((y13 &&& (255:Int32)) % (9:Int32)), vI y15, none, none, none, none, none, none, none, none, none], [.int z16], (H0 s v.2.2.2.2.2.2.2.2.2)) u τ := by
   intro z16 ez16
   subst ez16
   refine zS Ad W 3 (st' := (120, [vR 0, vR 1, vI v.1, vI v.2.1, vI v.2.2.1, vI v.2.2.2.1, vI v.2.2.2.2.1, vI v.2.2.2.2.2.1, vI v.2.2.2.2.2.2.1, vI v.2.2.2.2.2.2.2.1, vI v.2.2.2.2.2.2.2.2.1, vI ((y9 &&& (7:Int32)) % (5:Int32)), vI ((y11 &&& (255:Int32)) % (5:Int32)), vI ((y13 &&& (255:Int32)) % (9:Int32)), vI y15, vI (if ((y11 &&& (255:Int32)) % (5:Int32)) < (4:Int32) then (if ((v.1 >>> (((y11 &&& (255:Int32)) % (5:Int32)) &&& 31)) &&& (1:Int32)) = (1:Int32) then (1:Int32) else (0:Int32)) else (0:Int32)), none, none, none, none, none, none, none, none], [.int ((y11 &&& (255:Int32)) % (5:Int32)), .ref 1], (H0 s v.2.2.2.2.2.2.2.2.2))) rfl ?_
   obtain ⟨r27, hr27, h⟩ := bind_eq_some_iff.mp h
   refine QTri.callV W (a := 1) (as := [.int ((y11 &&& (255:Int32)) % (5:Int32))]) (rest := []) (w := (some (.int r27))) (σ₁ := (H0 s v.2.2.2.2.2.2.2.2.2)) rfl rfl rfl rfl rfl rfl rfl rfl (tF3 Ad W s v.2.2.2.2.2.2.2.2.2 ((y11 &&& (255:Int32)) % (5:Int32)) hr27) ?_
   refine zS Ad W 3 (st' := (128, [vR 0, vR 1, vI v.1, vI v.2.1, vI v.2.2.1, vI v.2.2.2.1, vI v.2.2.2.2.1, vI v.2.2.2.2.2.1, vI v.2.2.2.2.2.2.1, vI v.2.2.2.2.2.2.2.1, vI v.2.2.2.2.2.2.2.2.1, vI ((y9 &&& (7:Int32)) % (5:Int32)), vI ((y11 &&& (255:Int32)) % (5:Int32)), vI ((y13 &&& (255:Int32)) % (9:Int32)), vI y15, vI (if ((y11 &&& (255:Int32)) % (5:Int32)) < (4:Int32) then (if ((v.1 >>> (((y11 &&& (255:Int32)) % (5:Int32)) &&& 31)) &&& (1:Int32)) = (1:Int32) then (1:Int32) else (0:Int32)) else (0:Int32)), vI r27, none, none, none, none, none, none, none], [.int ((y11 &&& (255:Int32)) % (5:Int32)), .ref 1], (H0 s v.2.2.2.2.2.2.2.2.2))) rfl ?_
   obtain ⟨r31, hr31, h⟩ := bind_eq_some_iff.mp h
   refine QTri.callV W (a := 1) (as := [.int ((y11 &&& (255:Int32)) % (5:Int32))]) (rest := []) (w := (some (.int r31))) (σ₁ := (H0 s v.2.2.2.2.2.2.2.2.2)) rfl rfl rfl rfl rfl rfl rfl rfl (tF5 Ad W s v.2.2.2.2.2.2.2.2.2 ((y11 &&& (255:Int32)) % (5:Int32)) hr31) ?_
   refine zS Ad W 4 (st' := (138, [vR 0, vR 1, vI v.1, vI v.2.1, vI v.2.2.1, vI v.2.2.2.1, vI v.2.2.2.2.1, vI v.2.2.2.2.2.1, vI v.2.2.2.2.2.2.1, vI v.2.2.2.2.2.2.2.1, vI v.2.2.2.2.2.2.2.2.1, vI ((y9 &&& (7:Int32)) % (5:Int32)), vI ((y11 &&& (255:Int32)) % (5:Int32)), vI ((y13 &&& (255:Int32)) % (9:Int32)), vI y15, vI (if ((y11 &&& (255:Int32)) % (5:Int32)) < (4:Int32) then (if ((v.1 >>> (((y11 &&& (255:Int32)) % (5:Int32)) &&& 31)) &&& (1:Int32)) = (1:Int32) then (1:Int32) else (0:Int32)) else (0:Int32)), vI r27, vI r31, none, none, none, none, none, none], [.int ((y13 &&& (255:Int32)) % (9:Int32)), .int ((y11 &&& (255:Int32)) % (5:Int32)), .ref 1], (H0 s v.2.2.2.2.2.2.2.2.2))) rfl ?_
   obtain ⟨r44, hr44, h⟩ := bind_eq_some_iff.mp h
   refine QTri.callV W (a := 1) (as := [.int ((y11 &&& (255:Int32)) % (5:Int32)), .int ((y13 &&& (255:Int32)) % (9:Int32))]) (rest := []) (w := (some (.int r44))) (σ₁ := (H0 s v.2.2.2.2.2.2.2.2.2)) rfl rfl rfl rfl rfl rfl rfl rfl (tF6 Ad W s v.2.2.2.2.2.2.2.2.2 ((y11 &&& (255:Int32)) % (5:Int32)) ((y13 &&& (255:Int32)) % (9:Int32)) hr44) ?_
   refine zS Ad W 3 (st' := (146, [vR 0, vR 1, vI v.1, vI v.2.1, vI v.2.2.1, vI v.2.2.2.1, vI v.2.2.2.2.1, vI v.2.2.2.2.2.1, vI v.2.2.2.2.2.2.1, vI v.2.2.2.2.2.2.2.1, vI v.2.2.2.2.2.2.2.2.1, vI ((y9 &&& (7:Int32)) % (5:Int32)), vI ((y11 &&& (255:Int32)) % (5:Int32)), vI ((y13 &&& (255:Int32)) % (9:Int32)), vI y15, vI (if ((y11 &&& (255:Int32)) % (5:Int32)) < (4:Int32) then (if ((v.1 >>> (((y11 &&& (255:Int32)) % (5:Int32)) &&& 31)) &&& (1:Int32)) = (1:Int32) then (1:Int32) else (0:Int32)) else (0:Int32)), vI r27, vI r31, vI r44, none, none, none, none, none], [.int ((y13 &&& (255:Int32)) % (9:Int32)), .ref 1], (H0 s v.2.2.2.2.2.2.2.2.2))) rfl ?_
   obtain ⟨r48, hr48, h⟩ := bind_eq_some_iff.mp h
   refine QTri.callV W (a := 1) (as := [.int ((y13 &&& (255:Int32)) % (9:Int32))]) (rest := []) (w := (some (.int r48))) (σ₁ := (H0 s v.2.2.2.2.2.2.2.2.2)) rfl rfl rfl rfl rfl rfl rfl rfl (tF7 Ad W s v.2.2.2.2.2.2.2.2.2 ((y13 &&& (255:Int32)) % (9:Int32)) hr48) ?_
   refine zS Ad W 6 (st' := (161, [vR 0, vR 1, vI v.1, vI v.2.1, vI v.2.2.1, vI v.2.2.2.1, vI v.2.2.2.2.1, vI v.2.2.2.2.2.1, vI v.2.2.2.2.2.2.1, vI v.2.2.2.2.2.2.2.1, vI v.2.2.2.2.2.2.2.2.1, vI ((y9 &&& (7:Int32)) % (5:Int32)), vI ((y11 &&& (255:Int32)) % (5:Int32)), vI ((y13 &&& (255:Int32)) % (9:Int32)), vI y15, vI (if ((y11 &&& (255:Int32)) % (5:Int32)) < (4:Int32) then (if ((v.1 >>> (((y11 &&& (255:Int32)) % (5:Int32)) &&& 31)) &&& (1:Int32)) = (1:Int32) then (1:Int32) else (0:Int32)) else (0:Int32)), vI r27, vI r31, vI r44, vI r48, none, none, none, none], [.int v.2.2.2.2.2.2.2.1, .int v.2.2.2.2.2.2.1, .int v.2.2.2.2.2.1, .int v.2.2.2.2.1, .int ((y11 &&& (255:Int32)) % (5:Int32))], (H0 s v.2.2.2.2.2.2.2.2.2))) rfl ?_
   obtain ⟨r52, hr52, h⟩ := bind_eq_some_iff.mp h
   refine QTri.callS W (as := [.int ((y11 &&& (255:Int32)) % (5:Int32)), .int v.2.2.2.2.1, .int v.2.2.2.2.2.1, .int v.2.2.2.2.2.2.1, .int v.2.2.2.2.2.2.2.1]) (rest := []) (w := (some (.int r52))) (σ₁ := (H0 s v.2.2.2.2.2.2.2.2.2)) rfl rfl rfl rfl rfl rfl rfl (tF9 Ad W ((y11 &&& (255:Int32)) % (5:Int32)) v.2.2.2.2.1 v.2.2.2.2.2.1 v.2.2.2.2.2.2.1 v.2.2.2.2.2.2.2.1 hr52) ?_
   refine zS Ad W 2 (st' := (168, [vR 0, vR 1, vI v.1, vI v.2.1, vI v.2.2.1, vI v.2.2.2.1, vI v.2.2.2.2.1, vI v.2.2.2.2.2.1, vI v.2.2.2.2.2.2.1, vI v.2.2.2.2.2.2.2.1, vI v.2.2.2.2.2.2.2.2.1, vI ((y9 &&& (7:Int32)) % (5:Int32)), vI ((y11 &&& (255:Int32)) % (5:Int32)), vI ((y13 &&& (255:Int32)) % (9:Int32)), vI y15, vI (if ((y11 &&& (255:Int32)) % (5:Int32)) < (4:Int32) then (if ((v.1 >>> (((y11 &&& (255:Int32)) % (5:Int32)) &&& 31)) &&& (1:Int32)) = (1:Int32) then (1:Int32) else (0:Int32)) else (0:Int32)), vI r27, vI r31, vI r44, vI r48, vI r52, none, none, none], [.int ((y9 &&& (7:Int32)) % (5:Int32))], (H0 s v.2.2.2.2.2.2.2.2.2))) rfl ?_
   rcases qite h with ⟨hc53, h⟩ | ⟨hc53, h⟩
   ·refine zF Ad W (t := 274) (f := 171) rfl (XT.i0_ne_f hc53) ?_
    refine zS Ad W 2 (st' := (174, [vR 0, vR 1, vI v.1, vI v.2.1, vI v.2.2.1, vI v.2.2.2.1, vI v.2.2.2.2.1, vI v.2.2.2.2.2.1, vI v.2.2.2.2.2.2.1, vI v.2.2.2.2.2.2.2.1, vI v.2.2.2.2.2.2.2.2.1, vI ((y9 &&& (7:Int32)) % (5:Int32)), vI ((y11 &&& (255:Int32)) % (5:Int32)), vI ((y13 &&& (255:Int32)) % (9:Int32)), vI y15, vI (if ((y11 &&& (255:Int32)) % (5:Int32)) < (4:Int32) then (if ((v.1 >>> (((y11 &&& (255:Int32)) % (5:Int32)) &&& 31)) &&& (1:Int32)) = (1:Int32) then (1:Int32) else (0:Int32)) else (0:Int32)), vI r27, vI r31, vI r44, vI r48, vI r52, vI (0:Int32), none, none], [], (H0 s v.2.2.2.2.2.2.2.2.2))) rfl ?_
    obtain ⟨e56, he56, h⟩ := bind_eq_some_iff.mp h
    refine zM [tt,tt,tt,tt,tt,tt,tt,tt,tt,tt,tt,ff,ff,ff,ff,ff,ff,ff,ff,ff,ff,tt,ff,ff] (loopN_tri (B := B0_174 s v.2.2.2.2.2.2.2.2.2 v.1 v.2.1 v.2.2.1 v.2.2.2.1 v.2.2.2.2.1 v.2.2.2.2.2.1 v.2.2.2.2.2.2.1 v.2.2.2.2.2.2.2.1 v.2.2.2.2.2.2.2.2.1) (T := fun lv57 => QTri l Z n0 ad 0 (174, [vR 0, vR 1, vI v.1, vI v.2.1, vI v.2.2.1, vI v.2.2.2.1, vI v.2.2.2.2.1, vI v.2.2.2.2.2.1, vI v.2.2.2.2.2.2.1, vI v.2.2.2.2.2.2.2.1, vI v.2.2.2.2.2.2.2.2.1, none, none, none, none, none, none, none, none, none, none, vI lv57, none, none], [], (H0 s v.2.2.2.2.2.2.2.2.2)) u τ) (KE := fun e56a => QTri l Z n0 ad 0 (196, [vR 0, vR 1, vI v.1, vI v.2.1, vI v.2.2.1, vI v.2.2.2.1, vI v.2.2.2.2.1, vI v.2.2.2.2.2.1, vI v.2.2.2.2.2.2.1, vI v.2.2.2.2.2.2.2.1, vI v.2.2.2.2.2.2.2.2.1, none, none, none, none, none, none, none, none, none, none, vI e56a, none, none], [], (H0 s v.2.2.2.2.2.2.2.2.2)) u τ) (fun lv57 r hB hE hC => tB0_174 Ad W s v.2.2.2.2.2.2.2.2.2 v.1 v.2.1 v.2.2.1 v.2.2.2.1 v.2.2.2.2.1 v.2.2.2.2.2.1 v.2.2.2.2.2.2.1 v.2.2.2.2.2.2.2.1 v.2.2.2.2.2.2.2.2.1 lv57 hB (fun x q => hE _ q) (fun x q => hC x q)) qN (0:Int32) e56 he56 ?_)
    exact zM [tt,tt,tt,tt,tt,tt,tt,tt,tt,tt,tt,ff,ff,ff,ff,ff,ff,ff,ff,ff,ff,tt,ff,ff] (tJ0_196 Ad W s v.2.2.2.2.2.2.2.2.2 v.1 v.2.1 v.2.2.1 v.2.2.2.1 v.2.2.2.2.1 v.2.2.2.2.2.1 v.2.2.2.2.2.2.1 v.2.2.2.2.2.2.2.1 v.2.2.2.2.2.2.2.2.1 e56 h hx0 hc)
   ·refine zT Ad W (t := 274) (f := 171) rfl (XT.i0_ne_t hc53) ?_
    refine zS Ad W 2 (st' := (277, [vR 0, vR 1, vI v.1, vI v.2.1, vI v.2.2.1, vI v.2.2.2.1, vI v.2.2.2.2.1, vI v.2.2.2.2.2.1, vI v.2.2.2.2.2.2.1, vI v.2.2.2.2.2.2.2.1, vI v.2.2.2.2.2.2.2.2.1, vI ((y9 &&& (7:Int32)) % (5:Int32)), vI ((y11 &&& (255:Int32)) % (5:Int32)), vI ((y13 &&& (255:Int32)) % (9:Int32)), vI y15, vI (if ((y11 &&& (255:Int32)) % (5:Int32)) < (4:Int32) then (if ((v.1 >>> (((y11 &&& (255:Int32)) % (5:Int32)) &&& 31)) &&& (1:Int32)) = (1:Int32) then (1:Int32) else (0:Int32)) else (0:Int32)), vI r27, vI r31, vI r44, vI r48, vI r52, none, none, none], [.int (1:Int32), .int ((y9 &&& (7:Int32)) % (5:Int32))], (H0 s v.2.2.2.2.2.2.2.2.2))) rfl ?_
    rcases qite h with ⟨hc123, h⟩ | ⟨hc123, h⟩
    ·refine zF Ad W (t := 379) (f := 280) rfl (XT.ii_ne_f hc123) ?_
     refine zS Ad W 3 (st' := (285, [vR 0, vR 1, vI v.1, vI v.2.1, vI v.2.2.1, vI v.2.2.2.1, vI v.2.2.2.2.1, vI v.2.2.2.2.2.1, vI v.2.2.2.2.2.2.1, vI v.2.2.2.2.2.2.2.1, vI v.2.2.2.2.2.2.2.2.1, vI ((y9 &&& (7:Int32)) % (5:Int32)), vI ((y11 &&& (255:Int32)) % (5:Int32)), vI ((y13 &&& (255:Int32)) % (9:Int32)), vI y15, vI (if ((y11 &&& (255:Int32)) % (5:Int32)) < (4:Int32) then (if ((v.1 >>> (((y11 &&& (255:Int32)) % (5:Int32)) &&& 31)) &&& (1:Int32)) = (1:Int32) then (1:Int32) else (0:Int32)) else (0:Int32)), vI r27, vI r31, vI r44, vI r48, vI r52, none, none, none], [.int ((y13 &&& (255:Int32)) % (9:Int32)), .int ((y11 &&& (255:Int32)) % (5:Int32)), .ref 1], (H0 s v.2.2.2.2.2.2.2.2.2))) rfl ?_
     obtain ⟨r137, hr137, h⟩ := bind_eq_some_iff.mp h
     refine QTri.callV W (a := 1) (as := [.int ((y11 &&& (255:Int32)) % (5:Int32)), .int ((y13 &&& (255:Int32)) % (9:Int32))]) (rest := []) (w := (some (.int r137.1))) (σ₁ := (H0 s r137.2)) rfl rfl rfl rfl rfl rfl rfl rfl (tF16 Ad W s v.2.2.2.2.2.2.2.2.2 ((y11 &&& (255:Int32)) % (5:Int32)) ((y13 &&& (255:Int32)) % (9:Int32)) hr137) ?_
     refine zS Ad W 2 (st' := (292, [vR 0, vR 1, vI v.1, vI v.2.1, vI v.2.2.1, vI v.2.2.2.1, vI v.2.2.2.2.1, vI v.2.2.2.2.2.1, vI v.2.2.2.2.2.2.1, vI v.2.2.2.2.2.2.2.1, vI v.2.2.2.2.2.2.2.2.1, vI ((y9 &&& (7:Int32)) % (5:Int32)), vI ((y11 &&& (255:Int32)) % (5:Int32)), vI ((y13 &&& (255:Int32)) % (9:Int32)), vI y15, vI (if ((y11 &&& (255:Int32)) % (5:Int32)) < (4:Int32) then (if ((v.1 >>> (((y11 &&& (255:Int32)) % (5:Int32)) &&& 31)) &&& (1:Int32)) = (1:Int32) then (1:Int32) else (0:Int32)) else (0:Int32)), vI r27, vI r31, vI r44, vI r48, vI r52, vI r137.1, none, none], [.int (if ((y11 &&& (255:Int32)) % (5:Int32)) < (4:Int32) then (if ((v.1 >>> (((y11 &&& (255:Int32)) % (5:Int32)) &&& 31)) &&& (1:Int32)) = (1:Int32) then (1:Int32) else (0:Int32)) else (0:Int32))], (H0 s r137.2))) rfl ?_
     rcases qite h with ⟨hc138, h⟩ | ⟨hc138, h⟩
     ·refine zT Ad W (t := 302) (f := 295) rfl (XT.i0_eq_t hc138) ?_
      exact zM [tt,tt,tt,tt,tt,tt,tt,tt,tt,tt,tt,ff,tt,ff,ff,ff,tt,ff,ff,ff,ff,tt,ff,ff] (tJ0_302 Ad W s r137.2 v.1 v.2.1 v.2.2.1 v.2.2.2.1 v.2.2.2.2.1 v.2.2.2.2.2.1 v.2.2.2.2.2.2.1 v.2.2.2.2.2.2.2.1 v.2.2.2.2.2.2.2.2.1 ((y11 &&& (255:Int32)) % (5:Int32)) r27 r137.1 h hx0 hc)
     ·refine zF Ad W (t := 302) (f := 295) rfl (XT.i0_eq_f hc138) ?_
      refine zS Ad W 2 (st' := (299, [vR 0, vR 1, vI v.1, vI v.2.1, vI v.2.2.1, vI v.2.2.2.1, vI v.2.2.2.2.1, vI v.2.2.2.2.2.1, vI v.2.2.2.2.2.2.1, vI v.2.2.2.2.2.2.2.1, vI v.2.2.2.2.2.2.2.2.1, vI ((y9 &&& (7:Int32)) % (5:Int32)), vI ((y11 &&& (255:Int32)) % (5:Int32)), vI ((y13 &&& (255:Int32)) % (9:Int32)), vI y15, vI (if ((y11 &&& (255:Int32)) % (5:Int32)) < (4:Int32) then (if ((v.1 >>> (((y11 &&& (255:Int32)) % (5:Int32)) &&& 31)) &&& (1:Int32)) = (1:Int32) then (1:Int32) else (0:Int32)) else (0:Int32)), vI r27, vI r31, vI r44, vI r48, vI r52, vI r137.1, none, none], [.int (8:Int32), .int ((y13 &&& (255:Int32)) % (9:Int32))], (H0 s r137.2))) rfl ?_
      rcases qite h with ⟨hc142, h⟩ | ⟨hc142, h⟩
      ·refine zT Ad W (t := 320) (f := 302) rfl (XT.ii_lt_t hc142) ?_
       refine zS Ad W 6 (st' := (328, [vR 0, vR 1, vI v.1, vI v.2.1, vI v.2.2.1, vI v.2.2.2.1, vI v.2.2.2.2.1, vI v.2.2.2.2.2.1, vI v.2.2.2.2.2.2.1, vI v.2.2.2.2.2.2.2.1, vI v.2.2.2.2.2.2.2.2.1, vI ((y9 &&& (7:Int32)) % (5:Int32)), vI ((y11 &&& (255:Int32)) % (5:Int32)), vI ((y13 &&& (255:Int32)) % (9:Int32)), vI y15, vI (if ((y11 &&& (255:Int32)) % (5:Int32)) < (4:Int32) then (if ((v.1 >>> (((y11 &&& (255:Int32)) % (5:Int32)) &&& 31)) &&& (1:Int32)) = (1:Int32) then (1:Int32) else (0:Int32)) else (0:Int32)), vI r27, vI r31, vI r44, vI r48, vI r52, vI r137.1, none, none], [.int (1:Int32), .int ((r31 >>> (((y13 &&& (255:Int32)) % (9:Int32)) &&& 31)) &&& (1:Int32))], (H0 s r137.2))) rfl ?_
       rcases qite h with ⟨hc143, h⟩ | ⟨hc143, h⟩
       ·refine zF Ad W (t := 351) (f := 331) rfl (XT.ii_ne_f hc143) ?_
        refine zS Ad W 2 (st' := (335, [vR 0, vR 1, vI v.1, vI v.2.1, vI v.2.2.1, vI v.2.2.2.1, vI v.2.2.2.2.1, vI v.2.2.2.2.2.1, vI v.2.2.2.2.2.2.1, vI v.2.2.2.2.2.2.2.1, vI v.2.2.2.2.2.2.2.2.1, vI ((y9 &&& (7:Int32)) % (5:Int32)), vI ((y11 &&& (255:Int32)) % (5:Int32)), vI ((y13 &&& (255:Int32)) % (9:Int32)), vI y15, vI (if ((y11 &&& (255:Int32)) % (5:Int32)) < (4:Int32) then (if ((v.1 >>> (((y11 &&& (255:Int32)) % (5:Int32)) &&& 31)) &&& (1:Int32)) = (1:Int32) then (1:Int32) else (0:Int32)) else (0:Int32)), vI r27, vI r31, vI r44, vI r48, vI r52, vI r137.1, none, none], [.int r44, .int r137.1], (H0 s r137.2))) rfl ?_
        rcases qite h with ⟨hc144, h⟩ | ⟨hc144, h⟩
        ·refine zF Ad W (t := 349) (f := 338) rfl (XT.ii_ne_f hc144) ?_
         refine zS Ad W 2 (st' := (341, [vR 0, vR 1, vI v.1, vI v.2.1, vI v.2.2.1, vI v.2.2.2.1, vI v.2.2.2.2.1, vI v.2.2.2.2.2.1, vI v.2.2.2.2.2.2.1, vI v.2.2.2.2.2.2.2.1, vI v.2.2.2.2.2.2.2.2.1, vI ((y9 &&& (7:Int32)) % (5:Int32)), vI ((y11 &&& (255:Int32)) % (5:Int32)), vI ((y13 &&& (255:Int32)) % (9:Int32)), vI y15, vI (if ((y11 &&& (255:Int32)) % (5:Int32)) < (4:Int32) then (if ((v.1 >>> (((y11 &&& (255:Int32)) % (5:Int32)) &&& 31)) &&& (1:Int32)) = (1:Int32) then (1:Int32) else (0:Int32)) else (0:Int32)), vI r27, vI r31, vI r44, vI r48, vI r52, vI r137.1, none, none], [.int ((y11 &&& (255:Int32)) % (5:Int32)), .ref 1], (H0 s r137.2))) rfl ?_
         obtain ⟨r145, hr145, h⟩ := bind_eq_some_iff.mp h
         refine QTri.callV W (a := 1) (as := [.int ((y11 &&& (255:Int32)) % (5:Int32))]) (rest := []) (w := (some (.int r145))) (σ₁ := (H0 s r137.2)) rfl rfl rfl rfl rfl rfl rfl rfl (tF3 Ad W s r137.2 ((y11 &&& (255:Int32)) % (5:Int32)) hr145) ?_
         refine zS Ad W 1 (st' := (346, [vR 0, vR 1, vI v.1, vI v.2.1, vI v.2.2.1, vI v.2.2.2.1, vI v.2.2.2.2.1, vI v.2.2.2.2.2.1, vI v.2.2.2.2.2.2.1, vI v.2.2.2.2.2.2.2.1, vI v.2.2.2.2.2.2.2.2.1, vI ((y9 &&& (7:Int32)) % (5:Int32)), vI ((y11 &&& (255:Int32)) % (5:Int32)), vI ((y13 &&& (255:Int32)) % (9:Int32)), vI y15, vI (if ((y11 &&& (255:Int32)) % (5:Int32)) < (4:Int32) then (if ((v.1 >>> (((y11 &&& (255:Int32)) % (5:Int32)) &&& 31)) &&& (1:Int32)) = (1:Int32) then (1:Int32) else (0:Int32)) else (0:Int32)), vI r27, vI r31, vI r44, vI r48, vI r52, vI r137.1, none, none], [.int r27, .int r145], (H0 s r137.2))) rfl ?_
         rcases qite h with ⟨hc146, h⟩ | ⟨hc146, h⟩
         ·refine zT Ad W (t := 376) (f := 349) rfl (XT.ii_eq_t hc146) ?_
          exact zM [tt,tt,tt,tt,tt,tt,tt,tt,tt,tt,tt,ff,ff,ff,ff,ff,ff,ff,ff,ff,ff,ff,ff,ff] (tJ0_376 Ad W s r137.2 v.1 v.2.1 v.2.2.1 v.2.2.2.1 v.2.2.2.2.1 v.2.2.2.2.2.1 v.2.2.2.2.2.2.1 v.2.2.2.2.2.2.2.1 v.2.2.2.2.2.2.2.2.1 h hx0 hc)
         ·refine zF Ad W (t := 376) (f := 349) rfl (XT.ii_eq_f hc146) ?_
          refine zS Ad W 1 (st' := (350, [vR 0, vR 1, vI v.1, vI v.2.1, vI v.2.2.1, vI v.2.2.2.1, vI v.2.2.2.2.1, vI v.2.2.2.2.2.1, vI v.2.2.2.2.2.2.1, vI v.2.2.2.2.2.2.2.1, vI v.2.2.2.2.2.2.2.2.1, vI ((y9 &&& (7:Int32)) % (5:Int32)), vI ((y11 &&& (255:Int32)) % (5:Int32)), vI ((y13 &&& (255:Int32)) % (9:Int32)), vI y15, vI (if ((y11 &&& (255:Int32)) % (5:Int32)) < (4:Int32) then (if ((v.1 >>> (((y11 &&& (255:Int32)) % (5:Int32)) &&& 31)) &&& (1:Int32)) = (1:Int32) then (1:Int32) else (0:Int32)) else (0:Int32)), vI r27, vI r31, vI r44, vI r48, vI r52, vI r137.1, none, none], [.int (0:Int32)], (H0 s r137.2))) rfl ?_
          obtain rfl := Option.some.inj h
          obtain ⟨rfl, rfl⟩ := hx0 ((0:Int32), (H0 s r137.2)) rfl
          exact QTri.retZ rfl rfl
        ·refine zT Ad W (t := 349) (f := 338) rfl (XT.ii_ne_t hc144) ?_
         refine zS Ad W 1 (st' := (350, [vR 0, vR 1, vI v.1, vI v.2.1, vI v.2.2.1, vI v.2.2.2.1, vI v.2.2.2.2.1, vI v.2.2.2.2.2.1, vI v.2.2.2.2.2.2.1, vI v.2.2.2.2.2.2.2.1, vI v.2.2.2.2.2.2.2.2.1, vI ((y9 &&& (7:Int32)) % (5:Int32)), vI ((y11 &&& (255:Int32)) % (5:Int32)), vI ((y13 &&& (255:Int32)) % (9:Int32)), vI y15, vI (if ((y11 &&& (255:Int32)) % (5:Int32)) < (4:Int32) then (if ((v.1 >>> (((y11 &&& (255:Int32)) % (5:Int32)) &&& 31)) &&& (1:Int32)) = (1:Int32) then (1:Int32) else (0:Int32)) else (0:Int32)), vI r27, vI r31, vI r44, vI r48, vI r52, vI r137.1, none, none], [.int (0:Int32)], (H0 s r137.2))) rfl ?_
         obtain rfl := Option.some.inj h
         obtain ⟨rfl, rfl⟩ := hx0 ((0:Int32), (H0 s r137.2)) rfl
         exact QTri.retZ rfl rfl
       ·refine zT Ad W (t := 351) (f := 331) rfl (XT.ii_ne_t hc143) ?_
        refine zS Ad W 2 (st' := (355, [vR 0, vR 1, vI v.1, vI v.2.1, vI v.2.2.1, vI v.2.2.2.1, vI v.2.2.2.2.1, vI v.2.2.2.2.2.1, vI v.2.2.2.2.2.2.1, vI v.2.2.2.2.2.2.2.1, vI v.2.2.2.2.2.2.2.2.1, vI ((y9 &&& (7:Int32)) % (5:Int32)), vI ((y11 &&& (255:Int32)) % (5:Int32)), vI ((y13 &&& (255:Int32)) % (9:Int32)), vI y15, vI (if ((y11 &&& (255:Int32)) % (5:Int32)) < (4:Int32) then (if ((v.1 >>> (((y11 &&& (255:Int32)) % (5:Int32)) &&& 31)) &&& (1:Int32)) = (1:Int32) then (1:Int32) else (0:Int32)) else (0:Int32)), vI r27, vI r31, vI r44, vI r48, vI r52, vI r137.1, none, none], [.int r48, .int r137.1], (H0 s r137.2))) rfl ?_
        rcases qite h with ⟨hc147, h⟩ | ⟨hc147, h⟩
        ·refine zF Ad W (t := 374) (f := 358) rfl (XT.ii_ne_f hc147) ?_
         refine zS Ad W 2 (st' := (361, [vR 0, vR 1, vI v.1, vI v.2.1, vI v.2.2.1, vI v.2.2.2.1, vI v.2.2.2.2.1, vI v.2.2.2.2.2.1, vI v.2.2.2.2.2.2.1, vI v.2.2.2.2.2.2.2.1, vI v.2.2.2.2.2.2.2.2.1, vI ((y9 &&& (7:Int32)) % (5:Int32)), vI ((y11 &&& (255:Int32)) % (5:Int32)), vI ((y13 &&& (255:Int32)) % (9:Int32)), vI y15, vI (if ((y11 &&& (255:Int32)) % (5:Int32)) < (4:Int32) then (if ((v.1 >>> (((y11 &&& (255:Int32)) % (5:Int32)) &&& 31)) &&& (1:Int32)) = (1:Int32) then (1:Int32) else (0:Int32)) else (0:Int32)), vI r27, vI r31, vI r44, vI r48, vI r52, vI r137.1, none, none], [.int ((y11 &&& (255:Int32)) % (5:Int32)), .ref 1], (H0 s r137.2))) rfl ?_
         obtain ⟨r148, hr148, h⟩ := bind_eq_some_iff.mp h
         refine QTri.callV W (a := 1) (as := [.int ((y11 &&& (255:Int32)) % (5:Int32))]) (rest := []) (w := (some (.int r148))) (σ₁ := (H0 s r137.2)) rfl rfl rfl rfl rfl rfl rfl rfl (tF3 Ad W s r137.2 ((y11 &&& (255:Int32)) % (5:Int32)) hr148) ?_
         refine zS Ad W 5 (st' := (371, [vR 0, vR 1, vI v.1, vI v.2.1, vI v.2.2.1, vI v.2.2.2.1, vI v.2.2.2.2.1, vI v.2.2.2.2.2.1, vI v.2.2.2.2.2.2.1, vI v.2.2.2.2.2.2.2.1, vI v.2.2.2.2.2.2.2.2.1, vI ((y9 &&& (7:Int32)) % (5:Int32)), vI ((y11 &&& (255:Int32)) % (5:Int32)), vI ((y13 &&& (255:Int32)) % (9:Int32)), vI y15, vI (if ((y11 &&& (255:Int32)) % (5:Int32)) < (4:Int32) then (if ((v.1 >>> (((y11 &&& (255:Int32)) % (5:Int32)) &&& 31)) &&& (1:Int32)) = (1:Int32) then (1:Int32) else (0:Int32)) else (0:Int32)), vI r27, vI r31, vI r44, vI r48, vI r52, vI r137.1, none, none], [.int (r27 ||| ((1:Int32) <<< (((y13 &&& (255:Int32)) % (9:Int32)) &&& 31))), .int r148], (H0 s r137.2))) rfl ?_
         rcases qite h with ⟨hc149, h⟩ | ⟨hc149, h⟩
         ·refine zT Ad W (t := 376) (f := 374) rfl (XT.ii_eq_t hc149) ?_
          exact zM [tt,tt,tt,tt,tt,tt,tt,tt,tt,tt,tt,ff,ff,ff,ff,ff,ff,ff,ff,ff,ff,ff,ff,ff] (tJ0_376 Ad W s r137.2 v.1 v.2.1 v.2.2.1 v.2.2.2.1 v.2.2.2.2.1 v.2.2.2.2.2.1 v.2.2.2.2.2.2.1 v.2.2.2.2.2.2.2.1 v.2.2.2.2.2.2.2.2.1 h hx0 hc)
         ·refine zF Ad W (t := 376) (f := 374) rfl (XT.ii_eq_f hc149) ?_
          refine zS Ad W 1 (st' := (375, [vR 0, vR 1, vI v.1, vI v.2.1, vI v.2.2.1, vI v.2.2.2.1, vI v.2.2.2.2.1, vI v.2.2.2.2.2.1, vI v.2.2.2.2.2.2.1, vI v.2.2.2.2.2.2.2.1, vI v.2.2.2.2.2.2.2.2.1, vI ((y9 &&& (7:Int32)) % (5:Int32)), vI ((y11 &&& (255:Int32)) % (5:Int32)), vI ((y13 &&& (255:Int32)) % (9:Int32)), vI y15, vI (if ((y11 &&& (255:Int32)) % (5:Int32)) < (4:Int32) then (if ((v.1 >>> (((y11 &&& (255:Int32)) % (5:Int32)) &&& 31)) &&& (1:Int32)) = (1:Int32) then (1:Int32) else (0:Int32)) else (0:Int32)), vI r27, vI r31, vI r44, vI r48, vI r52, vI r137.1, none, none], [.int (0:Int32)], (H0 s r137.2))) rfl ?_
          obtain rfl := Option.some.inj h
          obtain ⟨rfl, rfl⟩ := hx0 ((0:Int32), (H0 s r137.2)) rfl
          exact QTri.retZ rfl rfl
        ·refine zT Ad W (t := 374) (f := 358) rfl (XT.ii_ne_t hc147) ?_
         refine zS Ad W 1 (st' := (375, [vR 0, vR 1, vI v.1, vI v.2.1, vI v.2.2.1, vI v.2.2.2.1, vI v.2.2.2.2.1, vI v.2.2.2.2.2.1, vI v.2.2.2.2.2.2.1, vI v.2.2.2.2.2.2.2.1, vI v.2.2.2.2.2.2.2.2.1, vI ((y9 &&& (7:Int32)) % (5:Int32)), vI ((y11 &&& (255:Int32)) % (5:Int32)), vI ((y13 &&& (255:Int32)) % (9:Int32)), vI y15, vI (if ((y11 &&& (255:Int32)) % (5:Int32)) < (4:Int32) then (if ((v.1 >>> (((y11 &&& (255:Int32)) % (5:Int32)) &&& 31)) &&& (1:Int32)) = (1:Int32) then (1:Int32) else (0:Int32)) else (0:Int32)), vI r27, vI r31, vI r44, vI r48, vI r52, vI r137.1, none, none], [.int (0:Int32)], (H0 s r137.2))) rfl ?_
         obtain rfl := Option.some.inj h
         obtain ⟨rfl, rfl⟩ := hx0 ((0:Int32), (H0 s r137.2)) rfl
         exact QTri.retZ rfl rfl
      ·refine zF Ad W (t := 320) (f := 302) rfl (XT.ii_lt_f hc142) ?_
       exact zM [tt,tt,tt,tt,tt,tt,tt,tt,tt,tt,tt,ff,tt,ff,ff,ff,tt,ff,ff,ff,ff,tt,ff,ff] (tJ0_302 Ad W s r137.2 v.1 v.2.1 v.2.2.1 v.2.2.2.1 v.2.2.2.2.1 v.2.2.2.2.2.1 v.2.2.2.2.2.2.1 v.2.2.2.2.2.2.2.1 v.2.2.2.2.2.2.2.2.1 ((y11 &&& (255:Int32)) % (5:Int32)) r27 r137.1 h hx0 hc)
    ·refine zT Ad W (t := 379) (f := 280) rfl (XT.ii_ne_t hc123) ?_
     refine zS Ad W 2 (st' := (382, [vR 0, vR 1, vI v.1, vI v.2.1, vI v.2.2.1, vI v.2.2.2.1, vI v.2.2.2.2.1, vI v.2.2.2.2.2.1, vI v.2.2.2.2.2.2.1, vI v.2.2.2.2.2.2.2.1, vI v.2.2.2.2.2.2.2.2.1, vI ((y9 &&& (7:Int32)) % (5:Int32)), vI ((y11 &&& (255:Int32)) % (5:Int32)), vI ((y13 &&& (255:Int32)) % (9:Int32)), vI y15, vI (if ((y11 &&& (255:Int32)) % (5:Int32)) < (4:Int32) then (if ((v.1 >>> (((y11 &&& (255:Int32)) % (5:Int32)) &&& 31)) &&& (1:Int32)) = (1:Int32) then (1:Int32) else (0:Int32)) else (0:Int32)), vI r27, vI r31, vI r44, vI r48, vI r52, none, none, none], [.int (2:Int32), .int ((y9 &&& (7:Int32)) % (5:Int32))], (H0 s v.2.2.2.2.2.2.2.2.2))) rfl ?_
     rcases qite h with ⟨hc150, h⟩ | ⟨hc150, h⟩
     ·refine zF Ad W (t := 487) (f := 385) rfl (XT.ii_ne_f hc150) ?_
      refine zS Ad W 4 (st' := (392, [vR 0, vR 1, vI v.1, vI v.2.1, vI v.2.2.1, vI v.2.2.2.1, vI v.2.2.2.2.1, vI v.2.2.2.2.2.1, vI v.2.2.2.2.2.2.1, vI v.2.2.2.2.2.2.2.1, vI v.2.2.2.2.2.2.2.2.1, vI ((y9 &&& (7:Int32)) % (5:Int32)), vI ((y11 &&& (255:Int32)) % (5:Int32)), vI ((y13 &&& (255:Int32)) % (9:Int32)), vI y15, vI (if ((y11 &&& (255:Int32)) % (5:Int32)) < (4:Int32) then (if ((v.1 >>> (((y11 &&& (255:Int32)) % (5:Int32)) &&& 31)) &&& (1:Int32)) = (1:Int32) then (1:Int32) else (0:Int32)) else (0:Int32)), vI r27, vI r31, vI r44, vI r48, vI r52, none, none, none], [.int y15, .int ((y13 &&& (255:Int32)) % (9:Int32)), .int ((y11 &&& (255:Int32)) % (5:Int32)), .ref 1], (H0 s v.2.2.2.2.2.2.2.2.2))) rfl ?_
      obtain ⟨r161, hr161, h⟩ := bind_eq_some_iff.mp h
      refine QTri.callV W (a := 1) (as := [.int ((y11 &&& (255:Int32)) % (5:Int32)), .int ((y13 &&& (255:Int32)) % (9:Int32)), .int y15]) (rest := []) (w := (some (.int r161.1))) (σ₁ := (H0 s r161.2)) rfl rfl rfl rfl rfl rfl rfl rfl (tF26 Ad W s v.2.2.2.2.2.2.2.2.2 ((y11 &&& (255:Int32)) % (5:Int32)) ((y13 &&& (255:Int32)) % (9:Int32)) y15 hr161) ?_
      refine zS Ad W 2 (st' := (399, [vR 0, vR 1, vI v.1, vI v.2.1, vI v.2.2.1, vI v.2.2.2.1, vI v.2.2.2.2.1, vI v.2.2.2.2.2.1, vI v.2.2.2.2.2.2.1, vI v.2.2.2.2.2.2.2.1, vI v.2.2.2.2.2.2.2.2.1, vI ((y9 &&& (7:Int32)) % (5:Int32)), vI ((y11 &&& (255:Int32)) % (5:Int32)), vI ((y13 &&& (255:Int32)) % (9:Int32)), vI y15, vI (if ((y11 &&& (255:Int32)) % (5:Int32)) < (4:Int32) then (if ((v.1 >>> (((y11 &&& (255:Int32)) % (5:Int32)) &&& 31)) &&& (1:Int32)) = (1:Int32) then (1:Int32) else (0:Int32)) else (0:Int32)), vI r27, vI r31, vI r44, vI r48, vI r52, vI r161.1, none, none], [.int (if ((y11 &&& (255:Int32)) % (5:Int32)) < (4:Int32) then (if ((v.1 >>> (((y11 &&& (255:Int32)) % (5:Int32)) &&& 31)) &&& (1:Int32)) = (1:Int32) then (1:Int32) else (0:Int32)) else (0:Int32))], (H0 s r161.2))) rfl ?_
      rcases qite h with ⟨hc162, h⟩ | ⟨hc162, h⟩
      ·refine zF Ad W (t := 410) (f := 402) rfl (XT.i0_ne_f hc162) ?_
       refine zS Ad W 2 (st' := (405, [vR 0, vR 1, vI v.1, vI v.2.1, vI v.2.2.1, vI v.2.2.2.1, vI v.2.2.2.2.1, vI v.2.2.2.2.2.1, vI v.2.2.2.2.2.2.1, vI v.2.2.2.2.2.2.2.1, vI v.2.2.2.2.2.2.2.2.1, vI ((y9 &&& (7:Int32)) % (5:Int32)), vI ((y11 &&& (255:Int32)) % (5:Int32)), vI ((y13 &&& (255:Int32)) % (9:Int32)), vI y15, vI (if ((y11 &&& (255:Int32)) % (5:Int32)) < (4:Int32) then (if ((v.1 >>> (((y11 &&& (255:Int32)) % (5:Int32)) &&& 31)) &&& (1:Int32)) = (1:Int32) then (1:Int32) else (0:Int32)) else (0:Int32)), vI r27, vI r31, vI r44, vI r48, vI r52, vI r161.1, none, none], [.int (-1:Int32), .int r161.1], (H0 s r161.2))) rfl ?_
       rcases qite h with ⟨hc163, h⟩ | ⟨hc163, h⟩
       ·refine zT Ad W (t := 484) (f := 408) rfl (XT.ii_eq_t hc163) ?_
        exact zM [tt,tt,tt,tt,tt,tt,tt,tt,tt,tt,tt,ff,ff,ff,ff,ff,ff,ff,ff,ff,ff,ff,ff,ff] (tJ0_484 Ad W s r161.2 v.1 v.2.1 v.2.2.1 v.2.2.2.1 v.2.2.2.2.1 v.2.2.2.2.2.1 v.2.2.2.2.2.2.1 v.2.2.2.2.2.2.2.1 v.2.2.2.2.2.2.2.2.1 h hx0 hc)
       ·refine zF Ad W (t := 484) (f := 408) rfl (XT.ii_eq_f hc163) ?_
        refine zS Ad W 1 (st' := (409, [vR 0, vR 1, vI v.1, vI v.2.1, vI v.2.2.1, vI v.2.2.2.1, vI v.2.2.2.2.1, vI v.2.2.2.2.2.1, vI v.2.2.2.2.2.2.1, vI v.2.2.2.2.2.2.2.1, vI v.2.2.2.2.2.2.2.2.1, vI ((y9 &&& (7:Int32)) % (5:Int32)), vI ((y11 &&& (255:Int32)) % (5:Int32)), vI ((y13 &&& (255:Int32)) % (9:Int32)), vI y15, vI (if ((y11 &&& (255:Int32)) % (5:Int32)) < (4:Int32) then (if ((v.1 >>> (((y11 &&& (255:Int32)) % (5:Int32)) &&& 31)) &&& (1:Int32)) = (1:Int32) then (1:Int32) else (0:Int32)) else (0:Int32)), vI r27, vI r31, vI r44, vI r48, vI r52, vI r161.1, none, none], [.int (0:Int32)], (H0 s r161.2))) rfl ?_
        obtain rfl := Option.some.inj h
        obtain ⟨rfl, rfl⟩ := hx0 ((0:Int32), (H0 s r161.2)) rfl
        exact QTri.retZ rfl rfl
      ·refine zT Ad W (t := 410) (f := 402) rfl (XT.i0_ne_t hc162) ?_
       refine zS Ad W 2 (st' := (414, [vR 0, vR 1, vI v.1, vI v.2.1, vI v.2.2.1, vI v.2.2.2.1, vI v.2.2.2.2.1, vI v.2.2.2.2.2.1, vI v.2.2.2.2.2.2.1, vI v.2.2.2.2.2.2.2.1, vI v.2.2.2.2.2.2.2.2.1, vI ((y9 &&& (7:Int32)) % (5:Int32)), vI ((y11 &&& (255:Int32)) % (5:Int32)), vI ((y13 &&& (255:Int32)) % (9:Int32)), vI y15, vI (if ((y11 &&& (255:Int32)) % (5:Int32)) < (4:Int32) then (if ((v.1 >>> (((y11 &&& (255:Int32)) % (5:Int32)) &&& 31)) &&& (1:Int32)) = (1:Int32) then (1:Int32) else (0:Int32)) else (0:Int32)), vI r27, vI r31, vI r44, vI r48, vI r52, vI r161.1, none, none], [.int (8:Int32), .int ((y13 &&& (255:Int32)) % (9:Int32))], (H0 s r161.2))) rfl ?_
       rcases qite h with ⟨hc164, h⟩ | ⟨hc164, h⟩
       ·refine zT Ad W (t := 426) (f := 417) rfl (XT.ii_lt_t hc164) ?_
        refine zS Ad W 1 (st' := (428, [vR 0, vR 1, vI v.1, vI v.2.1, vI v.2.2.1, vI v.2.2.2.1, vI v.2.2.2.2.1, vI v.2.2.2.2.2.1, vI v.2.2.2.2.2.2.1, vI v.2.2.2.2.2.2.2.1, vI v.2.2.2.2.2.2.2.2.1, vI ((y9 &&& (7:Int32)) % (5:Int32)), vI ((y11 &&& (255:Int32)) % (5:Int32)), vI ((y13 &&& (255:Int32)) % (9:Int32)), vI y15, vI (if ((y11 &&& (255:Int32)) % (5:Int32)) < (4:Int32) then (if ((v.1 >>> (((y11 &&& (255:Int32)) % (5:Int32)) &&& 31)) &&& (1:Int32)) = (1:Int32) then (1:Int32) else (0:Int32)) else (0:Int32)), vI r27, vI r31, vI r44, vI r48, vI r52, vI r161.1, none, none], [.int r161.1], (H0 s r161.2))) rfl ?_
        rcases qite h with ⟨hc165, h⟩ | ⟨hc165, h⟩
        ·refine zF Ad W (t := 482) (f := 431) rfl (XT.i0_ne_f hc165) ?_
         refine zS Ad W 3 (st' := (436, [vR 0, vR 1, vI v.1, vI v.2.1, vI v.2.2.1, vI v.2.2.2.1, vI v.2.2.2.2.1, vI v.2.2.2.2.2.1, vI v.2.2.2.2.2.2.1, vI v.2.2.2.2.2.2.2.1, vI v.2.2.2.2.2.2.2.2.1, vI ((y9 &&& (7:Int32)) % (5:Int32)), vI ((y11 &&& (255:Int32)) % (5:Int32)), vI ((y13 &&& (255:Int32)) % (9:Int32)), vI y15, vI (if ((y11 &&& (255:Int32)) % (5:Int32)) < (4:Int32) then (if ((v.1 >>> (((y11 &&& (255:Int32)) % (5:Int32)) &&& 31)) &&& (1:Int32)) = (1:Int32) then (1:Int32) else (0:Int32)) else (0:Int32)), vI r27, vI r31, vI r44, vI r48, vI r52, vI r161.1, none, none], [.int ((y13 &&& (255:Int32)) % (9:Int32)), .int ((y11 &&& (255:Int32)) % (5:Int32)), .ref 1], (H0 s r161.2))) rfl ?_
         obtain ⟨r166, hr166, h⟩ := bind_eq_some_iff.mp h
         refine QTri.callV W (a := 1) (as := [.int ((y11 &&& (255:Int32)) % (5:Int32)), .int ((y13 &&& (255:Int32)) % (9:Int32))]) (rest := []) (w := (some (.int r166))) (σ₁ := (H0 s r161.2)) rfl rfl rfl rfl rfl rfl rfl rfl (tF6 Ad W s r161.2 ((y11 &&& (255:Int32)) % (5:Int32)) ((y13 &&& (255:Int32)) % (9:Int32)) hr166) ?_
         refine zS Ad W 1 (st' := (441, [vR 0, vR 1, vI v.1, vI v.2.1, vI v.2.2.1, vI v.2.2.2.1, vI v.2.2.2.2.1, vI v.2.2.2.2.2.1, vI v.2.2.2.2.2.2.1, vI v.2.2.2.2.2.2.2.1, vI v.2.2.2.2.2.2.2.2.1, vI ((y9 &&& (7:Int32)) % (5:Int32)), vI ((y11 &&& (255:Int32)) % (5:Int32)), vI ((y13 &&& (255:Int32)) % (9:Int32)), vI y15, vI (if ((y11 &&& (255:Int32)) % (5:Int32)) < (4:Int32) then (if ((v.1 >>> (((y11 &&& (255:Int32)) % (5:Int32)) &&& 31)) &&& (1:Int32)) = (1:Int32) then (1:Int32) else (0:Int32)) else (0:Int32)), vI r27, vI r31, vI r44, vI r48, vI r52, vI r161.1, none, none], [.int y15, .int r166], (H0 s r161.2))) rfl ?_
         rcases qite h with ⟨hc167, h⟩ | ⟨hc167, h⟩
         ·refine zF Ad W (t := 482) (f := 444) rfl (XT.ii_ne_f hc167) ?_
          refine zS Ad W 2 (st' := (447, [vR 0, vR 1, vI v.1, vI v.2.1, vI v.2.2.1, vI v.2.2.2.1, vI v.2.2.2.2.1, vI v.2.2.2.2.2.1, vI v.2.2.2.2.2.2.1, vI v.2.2.2.2.2.2.2.1, vI v.2.2.2.2.2.2.2.2.1, vI ((y9 &&& (7:Int32)) % (5:Int32)), vI ((y11 &&& (255:Int32)) % (5:Int32)), vI ((y13 &&& (255:Int32)) % (9:Int32)), vI y15, vI (if ((y11 &&& (255:Int32)) % (5:Int32)) < (4:Int32) then (if ((v.1 >>> (((y11 &&& (255:Int32)) % (5:Int32)) &&& 31)) &&& (1:Int32)) = (1:Int32) then (1:Int32) else (0:Int32)) else (0:Int32)), vI r27, vI r31, vI r44, vI r48, vI r52, vI r161.1, none, none], [.int ((y11 &&& (255:Int32)) % (5:Int32)), .ref 1], (H0 s r161.2))) rfl ?_
          obtain ⟨r168, hr168, h⟩ := bind_eq_some_iff.mp h
          refine QTri.callV W (a := 1) (as := [.int ((y11 &&& (255:Int32)) % (5:Int32))]) (rest := []) (w := (some (.int r168))) (σ₁ := (H0 s r161.2)) rfl rfl rfl rfl rfl rfl rfl rfl (tF5 Ad W s r161.2 ((y11 &&& (255:Int32)) % (5:Int32)) hr168) ?_
          refine zS Ad W 5 (st' := (457, [vR 0, vR 1, vI v.1, vI v.2.1, vI v.2.2.1, vI v.2.2.2.1, vI v.2.2.2.2.1, vI v.2.2.2.2.2.1, vI v.2.2.2.2.2.2.1, vI v.2.2.2.2.2.2.2.1, vI v.2.2.2.2.2.2.2.2.1, vI ((y9 &&& (7:Int32)) % (5:Int32)), vI ((y11 &&& (255:Int32)) % (5:Int32)), vI ((y13 &&& (255:Int32)) % (9:Int32)), vI y15, vI (if ((y11 &&& (255:Int32)) % (5:Int32)) < (4:Int32) then (if ((v.1 >>> (((y11 &&& (255:Int32)) % (5:Int32)) &&& 31)) &&& (1:Int32)) = (1:Int32) then (1:Int32) else (0:Int32)) else (0:Int32)), vI r27, vI r31, vI r44, vI r48, vI r52, vI r161.1, none, none], [.int (r31 ||| ((1:Int32) <<< (((y13 &&& (255:Int32)) % (9:Int32)) &&& 31))), .int r168], (H0 s r161.2))) rfl ?_
          rcases qite h with ⟨hc169, h⟩ | ⟨hc169, h⟩
          ·refine zF Ad W (t := 482) (f := 460) rfl (XT.ii_ne_f hc169) ?_
           refine zS Ad W 2 (st' := (463, [vR 0, vR 1, vI v.1, vI v.2.1, vI v.2.2.1, vI v.2.2.2.1, vI v.2.2.2.2.1, vI v.2.2.2.2.2.1, vI v.2.2.2.2.2.2.1, vI v.2.2.2.2.2.2.2.1, vI v.2.2.2.2.2.2.2.2.1, vI ((y9 &&& (7:Int32)) % (5:Int32)), vI ((y11 &&& (255:Int32)) % (5:Int32)), vI ((y13 &&& (255:Int32)) % (9:Int32)), vI y15, vI (if ((y11 &&& (255:Int32)) % (5:Int32)) < (4:Int32) then (if ((v.1 >>> (((y11 &&& (255:Int32)) % (5:Int32)) &&& 31)) &&& (1:Int32)) = (1:Int32) then (1:Int32) else (0:Int32)) else (0:Int32)), vI r27, vI r31, vI r44, vI r48, vI r52, vI r161.1, none, none], [.int ((y11 &&& (255:Int32)) % (5:Int32)), .ref 1], (H0 s r161.2))) rfl ?_
           obtain ⟨r170, hr170, h⟩ := bind_eq_some_iff.mp h
           refine QTri.callV W (a := 1) (as := [.int ((y11 &&& (255:Int32)) % (5:Int32))]) (rest := []) (w := (some (.int r170))) (σ₁ := (H0 s r161.2)) rfl rfl rfl rfl rfl rfl rfl rfl (tF3 Ad W s r161.2 ((y11 &&& (255:Int32)) % (5:Int32)) hr170) ?_
           refine zS Ad W 1 (st' := (468, [vR 0, vR 1, vI v.1, vI v.2.1, vI v.2.2.1, vI v.2.2.2.1, vI v.2.2.2.2.1, vI v.2.2.2.2.2.1, vI v.2.2.2.2.2.2.1, vI v.2.2.2.2.2.2.2.1, vI v.2.2.2.2.2.2.2.2.1, vI ((y9 &&& (7:Int32)) % (5:Int32)), vI ((y11 &&& (255:Int32)) % (5:Int32)), vI ((y13 &&& (255:Int32)) % (9:Int32)), vI y15, vI (if ((y11 &&& (255:Int32)) % (5:Int32)) < (4:Int32) then (if ((v.1 >>> (((y11 &&& (255:Int32)) % (5:Int32)) &&& 31)) &&& (1:Int32)) = (1:Int32) then (1:Int32) else (0:Int32)) else (0:Int32)), vI r27, vI r31, vI r44, vI r48, vI r52, vI r161.1, none, none], [.int r27, .int r170], (H0 s r161.2))) rfl ?_
           rcases qite h with ⟨hc171, h⟩ | ⟨hc171, h⟩
           ·refine zF Ad W (t := 482) (f := 471) rfl (XT.ii_ne_f hc171) ?_
            refine zS Ad W 2 (st' := (474, [vR 0, vR 1, vI v.1, vI v.2.1, vI v.2.2.1, vI v.2.2.2.1, vI v.2.2.2.2.1, vI v.2.2.2.2.2.1, vI v.2.2.2.2.2.2.1, vI v.2.2.2.2.2.2.2.1, vI v.2.2.2.2.2.2.2.2.1, vI ((y9 &&& (7:Int32)) % (5:Int32)), vI ((y11 &&& (255:Int32)) % (5:Int32)), vI ((y13 &&& (255:Int32)) % (9:Int32)), vI y15, vI (if ((y11 &&& (255:Int32)) % (5:Int32)) < (4:Int32) then (if ((v.1 >>> (((y11 &&& (255:Int32)) % (5:Int32)) &&& 31)) &&& (1:Int32)) = (1:Int32) then (1:Int32) else (0:Int32)) else (0:Int32)), vI r27, vI r31, vI r44, vI r48, vI r52, vI r161.1, none, none], [.int ((y13 &&& (255:Int32)) % (9:Int32)), .ref 1], (H0 s r161.2))) rfl ?_
            obtain ⟨r172, hr172, h⟩ := bind_eq_some_iff.mp h
            refine QTri.callV W (a := 1) (as := [.int ((y13 &&& (255:Int32)) % (9:Int32))]) (rest := []) (w := (some (.int r172))) (σ₁ := (H0 s r161.2)) rfl rfl rfl rfl rfl rfl rfl rfl (tF7 Ad W s r161.2 ((y13 &&& (255:Int32)) % (9:Int32)) hr172) ?_
            refine zS Ad W 1 (st' := (479, [vR 0, vR 1, vI v.1, vI v.2.1, vI v.2.2.1, vI v.2.2.2.1, vI v.2.2.2.2.1, vI v.2.2.2.2.2.1, vI v.2.2.2.2.2.2.1, vI v.2.2.2.2.2.2.2.1, vI v.2.2.2.2.2.2.2.2.1, vI ((y9 &&& (7:Int32)) % (5:Int32)), vI ((y11 &&& (255:Int32)) % (5:Int32)), vI ((y13 &&& (255:Int32)) % (9:Int32)), vI y15, vI (if ((y11 &&& (255:Int32)) % (5:Int32)) < (4:Int32) then (if ((v.1 >>> (((y11 &&& (255:Int32)) % (5:Int32)) &&& 31)) &&& (1:Int32)) = (1:Int32) then (1:Int32) else (0:Int32)) else (0:Int32)), vI r27, vI r31, vI r44, vI r48, vI r52, vI r161.1, none, none], [.int r48, .int r172], (H0 s r161.2))) rfl ?_
            rcases qite h with ⟨hc173, h⟩ | ⟨hc173, h⟩
            ·refine zT Ad W (t := 484) (f := 482) rfl (XT.ii_eq_t hc173) ?_
             exact zM [tt,tt,tt,tt,tt,tt,tt,tt,tt,tt,tt,ff,ff,ff,ff,ff,ff,ff,ff,ff,ff,ff,ff,ff] (tJ0_484 Ad W s r161.2 v.1 v.2.1 v.2.2.1 v.2.2.2.1 v.2.2.2.2.1 v.2.2.2.2.2.1 v.2.2.2.2.2.2.1 v.2.2.2.2.2.2.2.1 v.2.2.2.2.2.2.2.2.1 h hx0 hc)
            ·refine zF Ad W (t := 484) (f := 482) rfl (XT.ii_eq_f hc173) ?_
             refine zS Ad W 1 (st' := (483, [vR 0, vR 1, vI v.1, vI v.2.1, vI v.2.2.1, vI v.2.2.2.1, vI v.2.2.2.2.1, vI v.2.2.2.2.2.1, vI v.2.2.2.2.2.2.1, vI v.2.2.2.2.2.2.2.1, vI v.2.2.2.2.2.2.2.2.1, vI ((y9 &&& (7:Int32)) % (5:Int32)), vI ((y11 &&& (255:Int32)) % (5:Int32)), vI ((y13 &&& (255:Int32)) % (9:Int32)), vI y15, vI (if ((y11 &&& (255:Int32)) % (5:Int32)) < (4:Int32) then (if ((v.1 >>> (((y11 &&& (255:Int32)) % (5:Int32)) &&& 31)) &&& (1:Int32)) = (1:Int32) then (1:Int32) else (0:Int32)) else (0:Int32)), vI r27, vI r31, vI r44, vI r48, vI r52, vI r161.1, none, none], [.int (0:Int32)], (H0 s r161.2))) rfl ?_
             obtain rfl := Option.some.inj h
             obtain ⟨rfl, rfl⟩ := hx0 ((0:Int32), (H0 s r161.2)) rfl
             exact QTri.retZ rfl rfl
           ·refine zT Ad W (t := 482) (f := 471) rfl (XT.ii_ne_t hc171) ?_
            refine zS Ad W 1 (st' := (483, [vR 0, vR 1, vI v.1, vI v.2.1, vI v.2.2.1, vI v.2.2.2.1, vI v.2.2.2.2.1, vI v.2.2.2.2.2.1, vI v.2.2.2.2.2.2.1, vI v.2.2.2.2.2.2.2.1, vI v.2.2.2.2.2.2.2.2.1, vI ((y9 &&& (7:Int32)) % (5:Int32)), vI ((y11 &&& (255:Int32)) % (5:Int32)), vI ((y13 &&& (255:Int32)) % (9:Int32)), vI y15, vI (if ((y11 &&& (255:Int32)) % (5:Int32)) < (4:Int32) then (if ((v.1 >>> (((y11 &&& (255:Int32)) % (5:Int32)) &&& 31)) &&& (1:Int32)) = (1:Int32) then (1:Int32) else (0:Int32)) else (0:Int32)), vI r27, vI r31, vI r44, vI r48, vI r52, vI r161.1, none, none], [.int (0:Int32)], (H0 s r161.2))) rfl ?_
            obtain rfl := Option.some.inj h
            obtain ⟨rfl, rfl⟩ := hx0 ((0:Int32), (H0 s r161.2)) rfl
            exact QTri.retZ rfl rfl
          ·refine zT Ad W (t := 482) (f := 460) rfl (XT.ii_ne_t hc169) ?_
           refine zS Ad W 1 (st' := (483, [vR 0, vR 1, vI v.1, vI v.2.1, vI v.2.2.1, vI v.2.2.2.1, vI v.2.2.2.2.1, vI v.2.2.2.2.2.1, vI v.2.2.2.2.2.2.1, vI v.2.2.2.2.2.2.2.1, vI v.2.2.2.2.2.2.2.2.1, vI ((y9 &&& (7:Int32)) % (5:Int32)), vI ((y11 &&& (255:Int32)) % (5:Int32)), vI ((y13 &&& (255:Int32)) % (9:Int32)), vI y15, vI (if ((y11 &&& (255:Int32)) % (5:Int32)) < (4:Int32) then (if ((v.1 >>> (((y11 &&& (255:Int32)) % (5:Int32)) &&& 31)) &&& (1:Int32)) = (1:Int32) then (1:Int32) else (0:Int32)) else (0:Int32)), vI r27, vI r31, vI r44, vI r48, vI r52, vI r161.1, none, none], [.int (0:Int32)], (H0 s r161.2))) rfl ?_
           obtain rfl := Option.some.inj h
           obtain ⟨rfl, rfl⟩ := hx0 ((0:Int32), (H0 s r161.2)) rfl
           exact QTri.retZ rfl rfl
         ·refine zT Ad W (t := 482) (f := 444) rfl (XT.ii_ne_t hc167) ?_
          refine zS Ad W 1 (st' := (483, [vR 0, vR 1, vI v.1, vI v.2.1, vI v.2.2.1, vI v.2.2.2.1, vI v.2.2.2.2.1, vI v.2.2.2.2.2.1, vI v.2.2.2.2.2.2.1, vI v.2.2.2.2.2.2.2.1, vI v.2.2.2.2.2.2.2.2.1, vI ((y9 &&& (7:Int32)) % (5:Int32)), vI ((y11 &&& (255:Int32)) % (5:Int32)), vI ((y13 &&& (255:Int32)) % (9:Int32)), vI y15, vI (if ((y11 &&& (255:Int32)) % (5:Int32)) < (4:Int32) then (if ((v.1 >>> (((y11 &&& (255:Int32)) % (5:Int32)) &&& 31)) &&& (1:Int32)) = (1:Int32) then (1:Int32) else (0:Int32)) else (0:Int32)), vI r27, vI r31, vI r44, vI r48, vI r52, vI r161.1, none, none], [.int (0:Int32)], (H0 s r161.2))) rfl ?_
          obtain rfl := Option.some.inj h
          obtain ⟨rfl, rfl⟩ := hx0 ((0:Int32), (H0 s r161.2)) rfl
          exact QTri.retZ rfl rfl
        ·refine zT Ad W (t := 482) (f := 431) rfl (XT.i0_ne_t hc165) ?_
         refine zS Ad W 1 (st' := (483, [vR 0, vR 1, vI v.1, vI v.2.1, vI v.2.2.1, vI v.2.2.2.1, vI v.2.2.2.2.1, vI v.2.2.2.2.2.1, vI v.2.2.2.2.2.2.1, vI v.2.2.2.2.2.2.2.1, vI v.2.2.2.2.2.2.2.2.1, vI ((y9 &&& (7:Int32)) % (5:Int32)), vI ((y11 &&& (255:Int32)) % (5:Int32)), vI ((y13 &&& (255:Int32)) % (9:Int32)), vI y15, vI (if ((y11 &&& (255:Int32)) % (5:Int32)) < (4:Int32) then (if ((v.1 >>> (((y11 &&& (255:Int32)) % (5:Int32)) &&& 31)) &&& (1:Int32)) = (1:Int32) then (1:Int32) else (0:Int32)) else (0:Int32)), vI r27, vI r31, vI r44, vI r48, vI r52, vI r161.1, none, none], [.int (0:Int32)], (H0 s r161.2))) rfl ?_
         obtain rfl := Option.some.inj h
         obtain ⟨rfl, rfl⟩ := hx0 ((0:Int32), (H0 s r161.2)) rfl
         exact QTri.retZ rfl rfl
       ·refine zF Ad W (t := 426) (f := 417) rfl (XT.ii_lt_f hc164) ?_
        refine zS Ad W 2 (st' := (421, [vR 0, vR 1, vI v.1, vI v.2.1, vI v.2.2.1, vI v.2.2.2.1, vI v.2.2.2.2.1, vI v.2.2.2.2.2.1, vI v.2.2.2.2.2.2.1, vI v.2.2.2.2.2.2.2.1, vI v.2.2.2.2.2.2.2.2.1, vI ((y9 &&& (7:Int32)) % (5:Int32)), vI ((y11 &&& (255:Int32)) % (5:Int32)), vI ((y13 &&& (255:Int32)) % (9:Int32)), vI y15, vI (if ((y11 &&& (255:Int32)) % (5:Int32)) < (4:Int32) then (if ((v.1 >>> (((y11 &&& (255:Int32)) % (5:Int32)) &&& 31)) &&& (1:Int32)) = (1:Int32) then (1:Int32) else (0:Int32)) else (0:Int32)), vI r27, vI r31, vI r44, vI r48, vI r52, vI r161.1, none, none], [.int (-2:Int32), .int r161.1], (H0 s r161.2))) rfl ?_
        rcases qite h with ⟨hc174, h⟩ | ⟨hc174, h⟩
        ·refine zT Ad W (t := 484) (f := 424) rfl (XT.ii_eq_t hc174) ?_
         exact zM [tt,tt,tt,tt,tt,tt,tt,tt,tt,tt,tt,ff,ff,ff,ff,ff,ff,ff,ff,ff,ff,ff,ff,ff] (tJ0_484 Ad W s r161.2 v.1 v.2.1 v.2.2.1 v.2.2.2.1 v.2.2.2.2.1 v.2.2.2.2.2.1 v.2.2.2.2.2.2.1 v.2.2.2.2.2.2.2.1 v.2.2.2.2.2.2.2.2.1 h hx0 hc)
        ·refine zF Ad W (t := 484) (f := 424) rfl (XT.ii_eq_f hc174) ?_
         refine zS Ad W 1 (st' := (425, [vR 0, vR 1, vI v.1, vI v.2.1, vI v.2.2.1, vI v.2.2.2.1, vI v.2.2.2.2.1, vI v.2.2.2.2.2.1, vI v.2.2.2.2.2.2.1, vI v.2.2.2.2.2.2.2.1, vI v.2.2.2.2.2.2.2.2.1, vI ((y9 &&& (7:Int32)) % (5:Int32)), vI ((y11 &&& (255:Int32)) % (5:Int32)), vI ((y13 &&& (255:Int32)) % (9:Int32)), vI y15, vI (if ((y11 &&& (255:Int32)) % (5:Int32)) < (4:Int32) then (if ((v.1 >>> (((y11 &&& (255:Int32)) % (5:Int32)) &&& 31)) &&& (1:Int32)) = (1:Int32) then (1:Int32) else (0:Int32)) else (0:Int32)), vI r27, vI r31, vI r44, vI r48, vI r52, vI r161.1, none, none], [.int (0:Int32)], (H0 s r161.2))) rfl ?_
         obtain rfl := Option.some.inj h
         obtain ⟨rfl, rfl⟩ := hx0 ((0:Int32), (H0 s r161.2)) rfl
         exact QTri.retZ rfl rfl
     ·refine zT Ad W (t := 487) (f := 385) rfl (XT.ii_ne_t hc150) ?_
      refine zS Ad W 2 (st' := (490, [vR 0, vR 1, vI v.1, vI v.2.1, vI v.2.2.1, vI v.2.2.2.1, vI v.2.2.2.2.1, vI v.2.2.2.2.2.1, vI v.2.2.2.2.2.2.1, vI v.2.2.2.2.2.2.2.1, vI v.2.2.2.2.2.2.2.2.1, vI ((y9 &&& (7:Int32)) % (5:Int32)), vI ((y11 &&& (255:Int32)) % (5:Int32)), vI ((y13 &&& (255:Int32)) % (9:Int32)), vI y15, vI (if ((y11 &&& (255:Int32)) % (5:Int32)) < (4:Int32) then (if ((v.1 >>> (((y11 &&& (255:Int32)) % (5:Int32)) &&& 31)) &&& (1:Int32)) = (1:Int32) then (1:Int32) else (0:Int32)) else (0:Int32)), vI r27, vI r31, vI r44, vI r48, vI r52, none, none, none], [.int (3:Int32), .int ((y9 &&& (7:Int32)) % (5:Int32))], (H0 s v.2.2.2.2.2.2.2.2.2))) rfl ?_
      rcases qite h with ⟨hc175, h⟩ | ⟨hc175, h⟩
      ·refine zF Ad W (t := 704) (f := 493) rfl (XT.ii_ne_f hc175) ?_
       refine zS Ad W 4 (st' := (500, [vR 0, vR 1, vI v.1, vI v.2.1, vI v.2.2.1, vI v.2.2.2.1, vI v.2.2.2.2.1, vI v.2.2.2.2.2.1, vI v.2.2.2.2.2.2.1, vI v.2.2.2.2.2.2.2.1, vI v.2.2.2.2.2.2.2.2.1, vI ((y9 &&& (7:Int32)) % (5:Int32)), vI ((y11 &&& (255:Int32)) % (5:Int32)), vI ((y13 &&& (255:Int32)) % (9:Int32)), vI y15, vI (if ((y11 &&& (255:Int32)) % (5:Int32)) < (4:Int32) then (if ((v.1 >>> (((y11 &&& (255:Int32)) % (5:Int32)) &&& 31)) &&& (1:Int32)) = (1:Int32) then (1:Int32) else (0:Int32)) else (0:Int32)), vI r27, vI r31, vI r44, vI r48, vI r52, vI (-1:Int32), vI (7:Int32), none], [], (H0 s v.2.2.2.2.2.2.2.2.2))) rfl ?_
       obtain ⟨e185, he185, h⟩ := bind_eq_some_iff.mp h
       refine zM [tt,tt,tt,tt,tt,tt,tt,tt,tt,tt,tt,ff,tt,tt,ff,tt,tt,tt,tt,ff,tt,tt,tt,ff] (loopN_tri (B := B0_500 s v.2.2.2.2.2.2.2.2.2 v.1 v.2.1 v.2.2.1 v.2.2.2.1 v.2.2.2.2.1 v.2.2.2.2.2.1 v.2.2.2.2.2.2.1 v.2.2.2.2.2.2.2.1 v.2.2.2.2.2.2.2.2.1 ((y11 &&& (255:Int32)) % (5:Int32)) ((y13 &&& (255:Int32)) % (9:Int32)) (if ((y11 &&& (255:Int32)) % (5:Int32)) < (4:Int32) then (if ((v.1 >>> (((y11 &&& (255:Int32)) % (5:Int32)) &&& 31)) &&& (1:Int32)) = (1:Int32) then (1:Int32) else (0:Int32)) else (0:Int32)) r27 r31 r44 r52) (T := fun lv186 => QTri l Z n0 ad 0 (500, [vR 0, vR 1, vI v.1, vI v.2.1, vI v.2.2.1, vI v.2.2.2.1, vI v.2.2.2.2.1, vI v.2.2.2.2.2.1, vI v.2.2.2.2.2.2.1, vI v.2.2.2.2.2.2.2.1, vI v.2.2.2.2.2.2.2.2.1, none, vI ((y11 &&& (255:Int32)) % (5:Int32)), vI ((y13 &&& (255:Int32)) % (9:Int32)), none, vI (if ((y11 &&& (255:Int32)) % (5:Int32)) < (4:Int32) then (if ((v.1 >>> (((y11 &&& (255:Int32)) % (5:Int32)) &&& 31)) &&& (1:Int32)) = (1:Int32) then (1:Int32) else (0:Int32)) else (0:Int32)), vI r27, vI r31, vI r44, none, vI r52, vI lv186.1, vI lv186.2, none], [], (H0 s v.2.2.2.2.2.2.2.2.2)) u τ) (KE := fun e185a => QTri l Z n0 ad 0 (537, [vR 0, vR 1, vI v.1, vI v.2.1, vI v.2.2.1, vI v.2.2.2.1, vI v.2.2.2.2.1, vI v.2.2.2.2.2.1, vI v.2.2.2.2.2.2.1, vI v.2.2.2.2.2.2.2.1, vI v.2.2.2.2.2.2.2.2.1, none, vI ((y11 &&& (255:Int32)) % (5:Int32)), vI ((y13 &&& (255:Int32)) % (9:Int32)), none, vI (if ((y11 &&& (255:Int32)) % (5:Int32)) < (4:Int32) then (if ((v.1 >>> (((y11 &&& (255:Int32)) % (5:Int32)) &&& 31)) &&& (1:Int32)) = (1:Int32) then (1:Int32) else (0:Int32)) else (0:Int32)), none, vI r31, vI r44, none, vI r52, vI e185a, none, none], [], (H0 s v.2.2.2.2.2.2.2.2.2)) u τ) (fun lv186 r hB hE hC => tB0_500 Ad W s v.2.2.2.2.2.2.2.2.2 v.1 v.2.1 v.2.2.1 v.2.2.2.1 v.2.2.2.2.1 v.2.2.2.2.2.1 v.2.2.2.2.2.2.1 v.2.2.2.2.2.2.2.1 v.2.2.2.2.2.2.2.2.1 ((y11 &&& (255:Int32)) % (5:Int32)) ((y13 &&& (255:Int32)) % (9:Int32)) (if ((y11 &&& (255:Int32)) % (5:Int32)) < (4:Int32) then (if ((v.1 >>> (((y11 &&& (255:Int32)) % (5:Int32)) &&& 31)) &&& (1:Int32)) = (1:Int32) then (1:Int32) else (0:Int32)) else (0:Int32)) r27 r31 r44 r52 lv186 hB (fun x q => hE _ q) (fun x q => hC x q)) qN ((-1:Int32), (7:Int32)) e185 he185 ?_)
       refine zS Ad W 2 (st' := (540, [vR 0, vR 1, vI v.1, vI v.2.1, vI v.2.2.1, vI v.2.2.2.1, vI v.2.2.2.2.1, vI v.2.2.2.2.2.1, vI v.2.2.2.2.2.2.1, vI v.2.2.2.2.2.2.2.1, vI v.2.2.2.2.2.2.2.2.1, none, vI ((y11 &&& (255:Int32)) % (5:Int32)), vI ((y13 &&& (255:Int32)) % (9:Int32)), none, vI (if ((y11 &&& (255:Int32)) % (5:Int32)) < (4:Int32) then (if ((v.1 >>> (((y11 &&& (255:Int32)) % (5:Int32)) &&& 31)) &&& (1:Int32)) = (1:Int32) then (1:Int32) else (0:Int32)) else (0:Int32)), none, vI r31, vI r44, none, vI r52, vI e185, none, none], [.int ((y11 &&& (255:Int32)) % (5:Int32)), .ref 1], (H0 s v.2.2.2.2.2.2.2.2.2))) rfl ?_
       obtain ⟨r226, hr226, h⟩ := bind_eq_some_iff.mp h
       refine QTri.callV W (a := 1) (as := [.int ((y11 &&& (255:Int32)) % (5:Int32))]) (rest := []) (w := (some (.int r226.1))) (σ₁ := (H0 s r226.2)) rfl rfl rfl rfl rfl rfl rfl rfl (tF10 Ad W s v.2.2.2.2.2.2.2.2.2 ((y11 &&& (255:Int32)) % (5:Int32)) hr226) ?_
       refine zS Ad W 2 (st' := (547, [vR 0, vR 1, vI v.1, vI v.2.1, vI v.2.2.1, vI v.2.2.2.1, vI v.2.2.2.2.1, vI v.2.2.2.2.2.1, vI v.2.2.2.2.2.2.1, vI v.2.2.2.2.2.2.2.1, vI v.2.2.2.2.2.2.2.2.1, none, vI ((y11 &&& (255:Int32)) % (5:Int32)), vI ((y13 &&& (255:Int32)) % (9:Int32)), none, vI (if ((y11 &&& (255:Int32)) % (5:Int32)) < (4:Int32) then (if ((v.1 >>> (((y11 &&& (255:Int32)) % (5:Int32)) &&& 31)) &&& (1:Int32)) = (1:Int32) then (1:Int32) else (0:Int32)) else (0:Int32)), none, vI r31, vI r44, none, vI r52, vI e185, vI r226.1, none], [.int (if ((y11 &&& (255:Int32)) % (5:Int32)) < (4:Int32) then (if ((v.1 >>> (((y11 &&& (255:Int32)) % (5:Int32)) &&& 31)) &&& (1:Int32)) = (1:Int32) then (1:Int32) else (0:Int32)) else (0:Int32))], (H0 s r226.2))) rfl ?_
       rcases qite h with ⟨hc227, h⟩ | ⟨hc227, h⟩
       ·refine zF Ad W (t := 558) (f := 550) rfl (XT.i0_ne_f hc227) ?_
        refine zS Ad W 2 (st' := (553, [vR 0, vR 1, vI v.1, vI v.2.1, vI v.2.2.1, vI v.2.2.2.1, vI v.2.2.2.2.1, vI v.2.2.2.2.2.1, vI v.2.2.2.2.2.2.1, vI v.2.2.2.2.2.2.2.1, vI v.2.2.2.2.2.2.2.2.1, none, vI ((y11 &&& (255:Int32)) % (5:Int32)), vI ((y13 &&& (255:Int32)) % (9:Int32)), none, vI (if ((y11 &&& (255:Int32)) % (5:Int32)) < (4:Int32) then (if ((v.1 >>> (((y11 &&& (255:Int32)) % (5:Int32)) &&& 31)) &&& (1:Int32)) = (1:Int32) then (1:Int32) else (0:Int32)) else (0:Int32)), none, vI r31, vI r44, none, vI r52, vI e185, vI r226.1, none], [.int (-1:Int32), .int r226.1], (H0 s r226.2))) rfl ?_
        rcases qite h with ⟨hc228, h⟩ | ⟨hc228, h⟩
        ·refine zT Ad W (t := 701) (f := 556) rfl (XT.ii_eq_t hc228) ?_
         exact zM [tt,tt,tt,tt,tt,tt,tt,tt,tt,tt,tt,ff,ff,ff,ff,ff,ff,ff,ff,ff,ff,ff,ff,ff] (tJ0_701 Ad W s r226.2 v.1 v.2.1 v.2.2.1 v.2.2.2.1 v.2.2.2.2.1 v.2.2.2.2.2.1 v.2.2.2.2.2.2.1 v.2.2.2.2.2.2.2.1 v.2.2.2.2.2.2.2.2.1 h hx0 hc)
        ·refine zF Ad W (t := 701) (f := 556) rfl (XT.ii_eq_f hc228) ?_
         refine zS Ad W 1 (st' := (557, [vR 0, vR 1, vI v.1, vI v.2.1, vI v.2.2.1, vI v.2.2.2.1, vI v.2.2.2.2.1, vI v.2.2.2.2.2.1, vI v.2.2.2.2.2.2.1, vI v.2.2.2.2.2.2.2.1, vI v.2.2.2.2.2.2.2.2.1, none, vI ((y11 &&& (255:Int32)) % (5:Int32)), vI ((y13 &&& (255:Int32)) % (9:Int32)), none, vI (if ((y11 &&& (255:Int32)) % (5:Int32)) < (4:Int32) then (if ((v.1 >>> (((y11 &&& (255:Int32)) % (5:Int32)) &&& 31)) &&& (1:Int32)) = (1:Int32) then (1:Int32) else (0:Int32)) else (0:Int32)), none, vI r31, vI r44, none, vI r52, vI e185, vI r226.1, none], [.int (0:Int32)], (H0 s r226.2))) rfl ?_
         obtain rfl := Option.some.inj h
         obtain ⟨rfl, rfl⟩ := hx0 ((0:Int32), (H0 s r226.2)) rfl
         exact QTri.retZ rfl rfl
       ·refine zT Ad W (t := 558) (f := 550) rfl (XT.i0_ne_t hc227) ?_
        refine zS Ad W 12 (st' := (572, [vR 0, vR 1, vI (v.1 &&& (((1:Int32) <<< (((y11 &&& (255:Int32)) % (5:Int32)) &&& 31)) ^^^ (-1:Int32))), vI v.2.1, vI v.2.2.1, vI v.2.2.2.1, vI v.2.2.2.2.1, vI v.2.2.2.2.2.1, vI v.2.2.2.2.2.2.1, vI v.2.2.2.2.2.2.2.1, vI v.2.2.2.2.2.2.2.2.1, none, vI ((y11 &&& (255:Int32)) % (5:Int32)), vI ((y13 &&& (255:Int32)) % (9:Int32)), none, vI (if ((y11 &&& (255:Int32)) % (5:Int32)) < (4:Int32) then (if ((v.1 >>> (((y11 &&& (255:Int32)) % (5:Int32)) &&& 31)) &&& (1:Int32)) = (1:Int32) then (1:Int32) else (0:Int32)) else (0:Int32)), none, vI r31, vI r44, none, vI r52, vI e185, vI r226.1, none], [.int (4:Int32), .int (v.2.1 - r52)], (H0 s r226.2))) rfl ?_
        rcases qite h with ⟨hc229, h⟩ | ⟨hc229, h⟩
        ·refine zF Ad W (t := 593) (f := 575) rfl (XT.ii_le_f hc229) ?_
         refine zS Ad W 2 (st' := (579, [vR 0, vR 1, vI (v.1 &&& (((1:Int32) <<< (((y11 &&& (255:Int32)) % (5:Int32)) &&& 31)) ^^^ (-1:Int32))), vI v.2.1, vI v.2.2.1, vI v.2.2.2.1, vI v.2.2.2.2.1, vI v.2.2.2.2.2.1, vI v.2.2.2.2.2.2.1, vI v.2.2.2.2.2.2.2.1, vI v.2.2.2.2.2.2.2.2.1, none, vI ((y11 &&& (255:Int32)) % (5:Int32)), vI ((y13 &&& (255:Int32)) % (9:Int32)), none, vI (if ((y11 &&& (255:Int32)) % (5:Int32)) < (4:Int32) then (if ((v.1 >>> (((y11 &&& (255:Int32)) % (5:Int32)) &&& 31)) &&& (1:Int32)) = (1:Int32) then (1:Int32) else (0:Int32)) else (0:Int32)), none, vI r31, vI r44, none, vI r52, vI e185, vI r226.1, none], [.int (-4:Int32), .int r226.1], (H0 s r226.2))) rfl ?_
         rcases qite h with ⟨hc230, h⟩ | ⟨hc230, h⟩
         ·refine zT Ad W (t := 584) (f := 582) rfl (XT.ii_eq_t hc230) ?_
          refine zS Ad W 3 (st' := (590, [vR 0, vR 1, vI (v.1 &&& (((1:Int32) <<< (((y11 &&& (255:Int32)) % (5:Int32)) &&& 31)) ^^^ (-1:Int32))), vI v.2.1, vI (v.2.2.1 + (1:Int32)), vI (-1:Int32), vI v.2.2.2.2.1, vI v.2.2.2.2.2.1, vI v.2.2.2.2.2.2.1, vI v.2.2.2.2.2.2.2.1, vI v.2.2.2.2.2.2.2.2.1, none, vI ((y11 &&& (255:Int32)) % (5:Int32)), vI ((y13 &&& (255:Int32)) % (9:Int32)), none, vI (if ((y11 &&& (255:Int32)) % (5:Int32)) < (4:Int32) then (if ((v.1 >>> (((y11 &&& (255:Int32)) % (5:Int32)) &&& 31)) &&& (1:Int32)) = (1:Int32) then (1:Int32) else (0:Int32)) else (0:Int32)), none, vI r31, vI r44, none, vI r52, vI e185, vI r226.1, none], [], (H0 s r226.2))) rfl ?_
          refine zS Ad W 1 (st' := (701, [vR 0, vR 1, vI (v.1 &&& (((1:Int32) <<< (((y11 &&& (255:Int32)) % (5:Int32)) &&& 31)) ^^^ (-1:Int32))), vI v.2.1, vI (v.2.2.1 + (1:Int32)), vI (-1:Int32), vI v.2.2.2.2.1, vI v.2.2.2.2.2.1, vI v.2.2.2.2.2.2.1, vI v.2.2.2.2.2.2.2.1, vI v.2.2.2.2.2.2.2.2.1, none, vI ((y11 &&& (255:Int32)) % (5:Int32)), vI ((y13 &&& (255:Int32)) % (9:Int32)), none, vI (if ((y11 &&& (255:Int32)) % (5:Int32)) < (4:Int32) then (if ((v.1 >>> (((y11 &&& (255:Int32)) % (5:Int32)) &&& 31)) &&& (1:Int32)) = (1:Int32) then (1:Int32) else (0:Int32)) else (0:Int32)), none, vI r31, vI r44, none, vI r52, vI e185, vI r226.1, none], [], (H0 s r226.2))) rfl ?_
          exact zM [tt,tt,tt,tt,tt,tt,tt,tt,tt,tt,tt,ff,ff,ff,ff,ff,ff,ff,ff,ff,ff,ff,ff,ff] (tJ0_701 Ad W s r226.2 (v.1 &&& (((1:Int32) <<< (((y11 &&& (255:Int32)) % (5:Int32)) &&& 31)) ^^^ (-1:Int32))) v.2.1 (v.2.2.1 + (1:Int32)) (-1:Int32) v.2.2.2.2.1 v.2.2.2.2.2.1 v.2.2.2.2.2.2.1 v.2.2.2.2.2.2.2.1 v.2.2.2.2.2.2.2.2.1 h hx0 hc)
         ·refine zF Ad W (t := 584) (f := 582) rfl (XT.ii_eq_f hc230) ?_
          refine zS Ad W 1 (st' := (583, [vR 0, vR 1, vI (v.1 &&& (((1:Int32) <<< (((y11 &&& (255:Int32)) % (5:Int32)) &&& 31)) ^^^ (-1:Int32))), vI v.2.1, vI v.2.2.1, vI v.2.2.2.1, vI v.2.2.2.2.1, vI v.2.2.2.2.2.1, vI v.2.2.2.2.2.2.1, vI v.2.2.2.2.2.2.2.1, vI v.2.2.2.2.2.2.2.2.1, none, vI ((y11 &&& (255:Int32)) % (5:Int32)), vI ((y13 &&& (255:Int32)) % (9:Int32)), none, vI (if ((y11 &&& (255:Int32)) % (5:Int32)) < (4:Int32) then (if ((v.1 >>> (((y11 &&& (255:Int32)) % (5:Int32)) &&& 31)) &&& (1:Int32)) = (1:Int32) then (1:Int32) else (0:Int32)) else (0:Int32)), none, vI r31, vI r44, none, vI r52, vI e185, vI r226.1, none], [.int (0:Int32)], (H0 s r226.2))) rfl ?_
          obtain rfl := Option.some.inj h
          obtain ⟨rfl, rfl⟩ := hx0 ((0:Int32), (H0 s r226.2)) rfl
          exact QTri.retZ rfl rfl
        ·refine zT Ad W (t := 593) (f := 575) rfl (XT.ii_le_t hc229) ?_
         refine zS Ad W 1 (st' := (595, [vR 0, vR 1, vI (v.1 &&& (((1:Int32) <<< (((y11 &&& (255:Int32)) % (5:Int32)) &&& 31)) ^^^ (-1:Int32))), vI v.2.1, vI v.2.2.1, vI v.2.2.2.1, vI v.2.2.2.2.1, vI v.2.2.2.2.2.1, vI v.2.2.2.2.2.2.1, vI v.2.2.2.2.2.2.2.1, vI v.2.2.2.2.2.2.2.2.1, none, vI ((y11 &&& (255:Int32)) % (5:Int32)), vI ((y13 &&& (255:Int32)) % (9:Int32)), none, vI (if ((y11 &&& (255:Int32)) % (5:Int32)) < (4:Int32) then (if ((v.1 >>> (((y11 &&& (255:Int32)) % (5:Int32)) &&& 31)) &&& (1:Int32)) = (1:Int32) then (1:Int32) else (0:Int32)) else (0:Int32)), none, vI r31, vI r44, none, vI r52, vI e185, vI r226.1, none], [.int e185], (H0 s r226.2))) rfl ?_
         rcases qite h with ⟨hc231, h⟩ | ⟨hc231, h⟩
         ·refine zT Ad W (t := 617) (f := 598) rfl (XT.i0_lt_t hc231) ?_
          refine zS Ad W 3 (st' := (623, [vR 0, vR 1, vI (v.1 &&& (((1:Int32) <<< (((y11 &&& (255:Int32)) % (5:Int32)) &&& 31)) ^^^ (-1:Int32))), vI (v.2.1 + (1:Int32)), vI v.2.2.1, vI (-1:Int32), vI v.2.2.2.2.1, vI v.2.2.2.2.2.1, vI v.2.2.2.2.2.2.1, vI v.2.2.2.2.2.2.2.1, vI v.2.2.2.2.2.2.2.2.1, none, vI ((y11 &&& (255:Int32)) % (5:Int32)), vI ((y13 &&& (255:Int32)) % (9:Int32)), none, vI (if ((y11 &&& (255:Int32)) % (5:Int32)) < (4:Int32) then (if ((v.1 >>> (((y11 &&& (255:Int32)) % (5:Int32)) &&& 31)) &&& (1:Int32)) = (1:Int32) then (1:Int32) else (0:Int32)) else (0:Int32)), none, vI r31, vI r44, none, vI r52, vI e185, vI r226.1, none], [], (H0 s r226.2))) rfl ?_
          refine zS Ad W 2 (st' := (626, [vR 0, vR 1, vI (v.1 &&& (((1:Int32) <<< (((y11 &&& (255:Int32)) % (5:Int32)) &&& 31)) ^^^ (-1:Int32))), vI (v.2.1 + (1:Int32)), vI v.2.2.1, vI (-1:Int32), vI v.2.2.2.2.1, vI v.2.2.2.2.2.1, vI v.2.2.2.2.2.2.1, vI v.2.2.2.2.2.2.2.1, vI v.2.2.2.2.2.2.2.2.1, none, vI ((y11 &&& (255:Int32)) % (5:Int32)), vI ((y13 &&& (255:Int32)) % (9:Int32)), none, vI (if ((y11 &&& (255:Int32)) % (5:Int32)) < (4:Int32) then (if ((v.1 >>> (((y11 &&& (255:Int32)) % (5:Int32)) &&& 31)) &&& (1:Int32)) = (1:Int32) then (1:Int32) else (0:Int32)) else (0:Int32)), none, vI r31, vI r44, none, vI r52, vI e185, vI r226.1, none], [.int (v.2.1 + (1:Int32)), .int r226.1], (H0 s r226.2))) rfl ?_
          rcases qite h with ⟨hc232, h⟩ | ⟨hc232, h⟩
          ·refine zT Ad W (t := 631) (f := 629) rfl (XT.ii_eq_t hc232) ?_
           refine zS Ad W 2 (st' := (634, [vR 0, vR 1, vI (v.1 &&& (((1:Int32) <<< (((y11 &&& (255:Int32)) % (5:Int32)) &&& 31)) ^^^ (-1:Int32))), vI (v.2.1 + (1:Int32)), vI v.2.2.1, vI (-1:Int32), vI v.2.2.2.2.1, vI v.2.2.2.2.2.1, vI v.2.2.2.2.2.2.1, vI v.2.2.2.2.2.2.2.1, vI v.2.2.2.2.2.2.2.2.1, none, vI ((y11 &&& (255:Int32)) % (5:Int32)), vI ((y13 &&& (255:Int32)) % (9:Int32)), none, vI (if ((y11 &&& (255:Int32)) % (5:Int32)) < (4:Int32) then (if ((v.1 >>> (((y11 &&& (255:Int32)) % (5:Int32)) &&& 31)) &&& (1:Int32)) = (1:Int32) then (1:Int32) else (0:Int32)) else (0:Int32)), none, vI r31, vI r44, none, vI r52, vI e185, vI r226.1, vI (0:Int32)], [], (H0 s r226.2))) rfl ?_
           obtain ⟨e237, he237, h⟩ := bind_eq_some_iff.mp h
           refine zM [tt,tt,tt,tt,tt,tt,tt,tt,tt,tt,tt,ff,ff,tt,ff,ff,ff,tt,tt,ff,ff,ff,ff,tt] (loopN_tri (B := B0_634 s r226.2 (v.1 &&& (((1:Int32) <<< (((y11 &&& (255:Int32)) % (5:Int32)) &&& 31)) ^^^ (-1:Int32))) (v.2.1 + (1:Int32)) v.2.2.1 (-1:Int32) v.2.2.2.2.1 v.2.2.2.2.2.1 v.2.2.2.2.2.2.1 v.2.2.2.2.2.2.2.1 v.2.2.2.2.2.2.2.2.1 ((y13 &&& (255:Int32)) % (9:Int32)) r31 r44) (T := fun lv238 => QTri l Z n0 ad 0 (634, [vR 0, vR 1, vI (v.1 &&& (((1:Int32) <<< (((y11 &&& (255:Int32)) % (5:Int32)) &&& 31)) ^^^ (-1:Int32))), vI (v.2.1 + (1:Int32)), vI v.2.2.1, vI (-1:Int32), vI v.2.2.2.2.1, vI v.2.2.2.2.2.1, vI v.2.2.2.2.2.2.1, vI v.2.2.2.2.2.2.2.1, vI v.2.2.2.2.2.2.2.2.1, none, none, vI ((y13 &&& (255:Int32)) % (9:Int32)), none, none, none, vI r31, vI r44, none, none, none, none, vI lv238], [], (H0 s r226.2)) u τ) (KE := fun e => match e with | .inl e237a => QTri l Z n0 ad 0 (670, [vR 0, vR 1, vI (v.1 &&& (((1:Int32) <<< (((y11 &&& (255:Int32)) % (5:Int32)) &&& 31)) ^^^ (-1:Int32))), vI (v.2.1 + (1:Int32)), vI v.2.2.1, vI (-1:Int32), vI v.2.2.2.2.1, vI v.2.2.2.2.2.1, vI v.2.2.2.2.2.2.1, vI v.2.2.2.2.2.2.2.1, vI v.2.2.2.2.2.2.2.2.1, none, none, vI ((y13 &&& (255:Int32)) % (9:Int32)), none, none, none, vI r31, vI r44, none, none, none, none, none], [], (H0 s r226.2)) u τ | .inr e237a => u = (some (Value.int e237a.1)) ∧ τ = e237a.2) (fun lv238 r hB hE hC => tB0_634 Ad W s r226.2 (v.1 &&& (((1:Int32) <<< (((y11 &&& (255:Int32)) % (5:Int32)) &&& 31)) ^^^ (-1:Int32))) (v.2.1 + (1:Int32)) v.2.2.1 (-1:Int32) v.2.2.2.2.1 v.2.2.2.2.2.1 v.2.2.2.2.2.2.1 v.2.2.2.2.2.2.2.1 v.2.2.2.2.2.2.2.2.1 ((y13 &&& (255:Int32)) % (9:Int32)) r31 r44 lv238 hB (fun x q => hE _ q) (fun x q => hE _ q) (fun x q => hC x q)) qN (0:Int32) e237 he237 ?_)
           rcases e237 with e237a | e237a
           ·refine zS Ad W 2 (st' := (674, [vR 0, vR 1, vI (v.1 &&& (((1:Int32) <<< (((y11 &&& (255:Int32)) % (5:Int32)) &&& 31)) ^^^ (-1:Int32))), vI (v.2.1 + (1:Int32)), vI v.2.2.1, vI (-1:Int32), vI v.2.2.2.2.1, vI v.2.2.2.2.2.1, vI v.2.2.2.2.2.2.1, vI v.2.2.2.2.2.2.2.1, vI v.2.2.2.2.2.2.2.2.1, none, none, vI ((y13 &&& (255:Int32)) % (9:Int32)), none, none, none, vI r31, vI r44, none, none, none, none, none], [.int (8:Int32), .int ((y13 &&& (255:Int32)) % (9:Int32))], (H0 s r226.2))) rfl ?_
            rcases qite h with ⟨hc239, h⟩ | ⟨hc239, h⟩
            ·refine zF Ad W (t := 701) (f := 677) rfl (XT.ii_ge_f hc239) ?_
             refine zS Ad W 6 (st' := (685, [vR 0, vR 1, vI (v.1 &&& (((1:Int32) <<< (((y11 &&& (255:Int32)) % (5:Int32)) &&& 31)) ^^^ (-1:Int32))), vI (v.2.1 + (1:Int32)), vI v.2.2.1, vI (-1:Int32), vI v.2.2.2.2.1, vI v.2.2.2.2.2.1, vI v.2.2.2.2.2.2.1, vI v.2.2.2.2.2.2.2.1, vI v.2.2.2.2.2.2.2.2.1, none, none, vI ((y13 &&& (255:Int32)) % (9:Int32)), none, none, none, vI r31, vI r44, none, none, none, none, none], [.int (1:Int32), .int ((r31 >>> (((y13 &&& (255:Int32)) % (9:Int32)) &&& 31)) &&& (1:Int32))], (H0 s r226.2))) rfl ?_
             rcases qite h with ⟨hc240, h⟩ | ⟨hc240, h⟩
             ·refine zF Ad W (t := 701) (f := 688) rfl (XT.ii_ne_f hc240) ?_
              refine zS Ad W 2 (st' := (691, [vR 0, vR 1, vI (v.1 &&& (((1:Int32) <<< (((y11 &&& (255:Int32)) % (5:Int32)) &&& 31)) ^^^ (-1:Int32))), vI (v.2.1 + (1:Int32)), vI v.2.2.1, vI (-1:Int32), vI v.2.2.2.2.1, vI v.2.2.2.2.2.1, vI v.2.2.2.2.2.2.1, vI v.2.2.2.2.2.2.2.1, vI v.2.2.2.2.2.2.2.2.1, none, none, vI ((y13 &&& (255:Int32)) % (9:Int32)), none, none, none, vI r31, vI r44, none, none, none, none, none], [.int ((y13 &&& (255:Int32)) % (9:Int32)), .ref 1], (H0 s r226.2))) rfl ?_
              obtain ⟨r241, hr241, h⟩ := bind_eq_some_iff.mp h
              refine QTri.callV W (a := 1) (as := [.int ((y13 &&& (255:Int32)) % (9:Int32))]) (rest := []) (w := (some (.int r241))) (σ₁ := (H0 s r226.2)) rfl rfl rfl rfl rfl rfl rfl rfl (tF7 Ad W s r226.2 ((y13 &&& (255:Int32)) % (9:Int32)) hr241) ?_
              refine zS Ad W 1 (st' := (696, [vR 0, vR 1, vI (v.1 &&& (((1:Int32) <<< (((y11 &&& (255:Int32)) % (5:Int32)) &&& 31)) ^^^ (-1:Int32))), vI (v.2.1 + (1:Int32)), vI v.2.2.1, vI (-1:Int32), vI v.2.2.2.2.1, vI v.2.2.2.2.2.1, vI v.2.2.2.2.2.2.1, vI v.2.2.2.2.2.2.2.1, vI v.2.2.2.2.2.2.2.2.1, none, none, vI ((y13 &&& (255:Int32)) % (9:Int32)), none, none, none, vI r31, vI r44, none, none, none, none, none], [.int r44, .int r241], (H0 s r226.2))) rfl ?_
              rcases qite h with ⟨hc242, h⟩ | ⟨hc242, h⟩
              ·refine zT Ad W (t := 701) (f := 699) rfl (XT.ii_eq_t hc242) ?_
               exact zM [tt,tt,tt,tt,tt,tt,tt,tt,tt,tt,tt,ff,ff,ff,ff,ff,ff,ff,ff,ff,ff,ff,ff,ff] (tJ0_701 Ad W s r226.2 (v.1 &&& (((1:Int32) <<< (((y11 &&& (255:Int32)) % (5:Int32)) &&& 31)) ^^^ (-1:Int32))) (v.2.1 + (1:Int32)) v.2.2.1 (-1:Int32) v.2.2.2.2.1 v.2.2.2.2.2.1 v.2.2.2.2.2.2.1 v.2.2.2.2.2.2.2.1 v.2.2.2.2.2.2.2.2.1 h hx0 hc)
              ·refine zF Ad W (t := 701) (f := 699) rfl (XT.ii_eq_f hc242) ?_
               refine zS Ad W 1 (st' := (700, [vR 0, vR 1, vI (v.1 &&& (((1:Int32) <<< (((y11 &&& (255:Int32)) % (5:Int32)) &&& 31)) ^^^ (-1:Int32))), vI (v.2.1 + (1:Int32)), vI v.2.2.1, vI (-1:Int32), vI v.2.2.2.2.1, vI v.2.2.2.2.2.1, vI v.2.2.2.2.2.2.1, vI v.2.2.2.2.2.2.2.1, vI v.2.2.2.2.2.2.2.2.1, none, none, vI ((y13 &&& (255:Int32)) % (9:Int32)), none, none, none, vI r31, vI r44, none, none, none, none, none], [.int (0:Int32)], (H0 s r226.2))) rfl ?_
               obtain rfl := Option.some.inj h
               obtain ⟨rfl, rfl⟩ := hx0 ((0:Int32), (H0 s r226.2)) rfl
               exact QTri.retZ rfl rfl
             ·refine zT Ad W (t := 701) (f := 688) rfl (XT.ii_ne_t hc240) ?_
              exact zM [tt,tt,tt,tt,tt,tt,tt,tt,tt,tt,tt,ff,ff,ff,ff,ff,ff,ff,ff,ff,ff,ff,ff,ff] (tJ0_701 Ad W s r226.2 (v.1 &&& (((1:Int32) <<< (((y11 &&& (255:Int32)) % (5:Int32)) &&& 31)) ^^^ (-1:Int32))) (v.2.1 + (1:Int32)) v.2.2.1 (-1:Int32) v.2.2.2.2.1 v.2.2.2.2.2.1 v.2.2.2.2.2.2.1 v.2.2.2.2.2.2.2.1 v.2.2.2.2.2.2.2.2.1 h hx0 hc)
            ·refine zT Ad W (t := 701) (f := 677) rfl (XT.ii_ge_t hc239) ?_
             exact zM [tt,tt,tt,tt,tt,tt,tt,tt,tt,tt,tt,ff,ff,ff,ff,ff,ff,ff,ff,ff,ff,ff,ff,ff] (tJ0_701 Ad W s r226.2 (v.1 &&& (((1:Int32) <<< (((y11 &&& (255:Int32)) % (5:Int32)) &&& 31)) ^^^ (-1:Int32))) (v.2.1 + (1:Int32)) v.2.2.1 (-1:Int32) v.2.2.2.2.1 v.2.2.2.2.2.1 v.2.2.2.2.2.2.1 v.2.2.2.2.2.2.2.1 v.2.2.2.2.2.2.2.2.1 h hx0 hc)
           ·obtain rfl := Option.some.inj h
            exact hx0 e237a rfl
          ·refine zF Ad W (t := 631) (f := 629) rfl (XT.ii_eq_f hc232) ?_
           refine zS Ad W 1 (st' := (630, [vR 0, vR 1, vI (v.1 &&& (((1:Int32) <<< (((y11 &&& (255:Int32)) % (5:Int32)) &&& 31)) ^^^ (-1:Int32))), vI (v.2.1 + (1:Int32)), vI v.2.2.1, vI (-1:Int32), vI v.2.2.2.2.1, vI v.2.2.2.2.2.1, vI v.2.2.2.2.2.2.1, vI v.2.2.2.2.2.2.2.1, vI v.2.2.2.2.2.2.2.2.1, none, vI ((y11 &&& (255:Int32)) % (5:Int32)), vI ((y13 &&& (255:Int32)) % (9:Int32)), none, vI (if ((y11 &&& (255:Int32)) % (5:Int32)) < (4:Int32) then (if ((v.1 >>> (((y11 &&& (255:Int32)) % (5:Int32)) &&& 31)) &&& (1:Int32)) = (1:Int32) then (1:Int32) else (0:Int32)) else (0:Int32)), none, vI r31, vI r44, none, vI r52, vI e185, vI r226.1, none], [.int (0:Int32)], (H0 s r226.2))) rfl ?_
           obtain rfl := Option.some.inj h
           obtain ⟨rfl, rfl⟩ := hx0 ((0:Int32), (H0 s r226.2)) rfl
           exact QTri.retZ rfl rfl
         ·refine zF Ad W (t := 617) (f := 598) rfl (XT.i0_lt_f hc231) ?_
          refine zS Ad W 2 (st' := (602, [vR 0, vR 1, vI (v.1 &&& (((1:Int32) <<< (((y11 &&& (255:Int32)) % (5:Int32)) &&& 31)) ^^^ (-1:Int32))), vI v.2.1, vI v.2.2.1, vI v.2.2.2.1, vI v.2.2.2.2.1, vI v.2.2.2.2.2.1, vI v.2.2.2.2.2.2.1, vI v.2.2.2.2.2.2.2.1, vI v.2.2.2.2.2.2.2.2.1, none, vI ((y11 &&& (255:Int32)) % (5:Int32)), vI ((y13 &&& (255:Int32)) % (9:Int32)), none, vI (if ((y11 &&& (255:Int32)) % (5:Int32)) < (4:Int32) then (if ((v.1 >>> (((y11 &&& (255:Int32)) % (5:Int32)) &&& 31)) &&& (1:Int32)) = (1:Int32) then (1:Int32) else (0:Int32)) else (0:Int32)), none, vI r31, vI r44, none, vI r52, vI e185, vI r226.1, none], [.int (-3:Int32), .int r226.1], (H0 s r226.2))) rfl ?_
          rcases qite h with ⟨hc243, h⟩ | ⟨hc243, h⟩
          ·refine zT Ad W (t := 607) (f := 605) rfl (XT.ii_eq_t hc243) ?_
           refine zS Ad W 3 (st' := (614, [vR 0, vR 1, vI (v.1 &&& (((1:Int32) <<< (((y11 &&& (255:Int32)) % (5:Int32)) &&& 31)) ^^^ (-1:Int32))), vI v.2.1, vI (v.2.2.1 + (1:Int32)), vI e185, vI v.2.2.2.2.1, vI v.2.2.2.2.2.1, vI v.2.2.2.2.2.2.1, vI v.2.2.2.2.2.2.2.1, vI v.2.2.2.2.2.2.2.2.1, none, vI ((y11 &&& (255:Int32)) % (5:Int32)), vI ((y13 &&& (255:Int32)) % (9:Int32)), none, vI (if ((y11 &&& (255:Int32)) % (5:Int32)) < (4:Int32) then (if ((v.1 >>> (((y11 &&& (255:Int32)) % (5:Int32)) &&& 31)) &&& (1:Int32)) = (1:Int32) then (1:Int32) else (0:Int32)) else (0:Int32)), none, vI r31, vI r44, none, vI r52, vI e185, vI r226.1, none], [], (H0 s r226.2))) rfl ?_
           refine zS Ad W 1 (st' := (701, [vR 0, vR 1, vI (v.1 &&& (((1:Int32) <<< (((y11 &&& (255:Int32)) % (5:Int32)) &&& 31)) ^^^ (-1:Int32))), vI v.2.1, vI (v.2.2.1 + (1:Int32)), vI e185, vI v.2.2.2.2.1, vI v.2.2.2.2.2.1, vI v.2.2.2.2.2.2.1, vI v.2.2.2.2.2.2.2.1, vI v.2.2.2.2.2.2.2.2.1, none, vI ((y11 &&& (255:Int32)) % (5:Int32)), vI ((y13 &&& (255:Int32)) % (9:Int32)), none, vI (if ((y11 &&& (255:Int32)) % (5:Int32)) < (4:Int32) then (if ((v.1 >>> (((y11 &&& (255:Int32)) % (5:Int32)) &&& 31)) &&& (1:Int32)) = (1:Int32) then (1:Int32) else (0:Int32)) else (0:Int32)), none, vI r31, vI r44, none, vI r52, vI e185, vI r226.1, none], [], (H0 s r226.2))) rfl ?_
           exact zM [tt,tt,tt,tt,tt,tt,tt,tt,tt,tt,tt,ff,ff,ff,ff,ff,ff,ff,ff,ff,ff,ff,ff,ff] (tJ0_701 Ad W s r226.2 (v.1 &&& (((1:Int32) <<< (((y11 &&& (255:Int32)) % (5:Int32)) &&& 31)) ^^^ (-1:Int32))) v.2.1 (v.2.2.1 + (1:Int32)) e185 v.2.2.2.2.1 v.2.2.2.2.2.1 v.2.2.2.2.2.2.1 v.2.2.2.2.2.2.2.1 v.2.2.2.2.2.2.2.2.1 h hx0 hc)
          ·refine zF Ad W (t := 607) (f := 605) rfl (XT.ii_eq_f hc243) ?_
           refine zS Ad W 1 (st' := (606, [vR 0, vR 1, vI (v.1 &&& (((1:Int32) <<< (((y11 &&& (255:Int32)) % (5:Int32)) &&& 31)) ^^^ (-1:Int32))), vI v.2.1, vI v.2.2.1, vI v.2.2.2.1, vI v.2.2.2.2.1, vI v.2.2.2.2.2.1, vI v.2.2.2.2.2.2.1, vI v.2.2.2.2.2.2.2.1, vI v.2.2.2.2.2.2.2.2.1, none, vI ((y11 &&& (255:Int32)) % (5:Int32)), vI ((y13 &&& (255:Int32)) % (9:Int32)), none, vI (if ((y11 &&& (255:Int32)) % (5:Int32)) < (4:Int32) then (if ((v.1 >>> (((y11 &&& (255:Int32)) % (5:Int32)) &&& 31)) &&& (1:Int32)) = (1:Int32) then (1:Int32) else (0:Int32)) else (0:Int32)), none, vI r31, vI r44, none, vI r52, vI e185, vI r226.1, none], [.int (0:Int32)], (H0 s r226.2))) rfl ?_
           obtain rfl := Option.some.inj h
           obtain ⟨rfl, rfl⟩ := hx0 ((0:Int32), (H0 s r226.2)) rfl
           exact QTri.retZ rfl rfl
      ·refine zT Ad W (t := 704) (f := 493) rfl (XT.ii_ne_t hc175) ?_
       refine zS Ad W 2 (st' := (707, [vR 0, vR 1, vI v.1, vI v.2.1, vI v.2.2.1, vI v.2.2.2.1, vI v.2.2.2.2.1, vI v.2.2.2.2.2.1, vI v.2.2.2.2.2.2.1, vI v.2.2.2.2.2.2.2.1, vI v.2.2.2.2.2.2.2.2.1, vI ((y9 &&& (7:Int32)) % (5:Int32)), vI ((y11 &&& (255:Int32)) % (5:Int32)), vI ((y13 &&& (255:Int32)) % (9:Int32)), vI y15, vI (if ((y11 &&& (255:Int32)) % (5:Int32)) < (4:Int32) then (if ((v.1 >>> (((y11 &&& (255:Int32)) % (5:Int32)) &&& 31)) &&& (1:Int32)) = (1:Int32) then (1:Int32) else (0:Int32)) else (0:Int32)), vI r27, vI r31, vI r44, vI r48, vI r52, none, none, none], [.int ((y11 &&& (255:Int32)) % (5:Int32)), .ref 1], (H0 s v.2.2.2.2.2.2.2.2.2))) rfl ?_
       obtain ⟨r248, hr248, h⟩ := bind_eq_some_iff.mp h
       refine QTri.callV W (a := 1) (as := [.int ((y11 &&& (255:Int32)) % (5:Int32))]) (rest := []) (w := (some (.int r248.1))) (σ₁ := (H0 s r248.2)) rfl rfl rfl rfl rfl rfl rfl rfl (tF29 Ad W s v.2.2.2.2.2.2.2.2.2 ((y11 &&& (255:Int32)) % (5:Int32)) hr248) ?_
       refine zS Ad W 2 (st' := (714, [vR 0, vR 1, vI v.1, vI v.2.1, vI v.2.2.1, vI v.2.2.2.1, vI v.2.2.2.2.1, vI v.2.2.2.2.2.1, vI v.2.2.2.2.2.2.1, vI v.2.2.2.2.2.2.2.1, vI v.2.2.2.2.2.2.2.2.1, vI ((y9 &&& (7:Int32)) % (5:Int32)), vI ((y11 &&& (255:Int32)) % (5:Int32)), vI ((y13 &&& (255:Int32)) % (9:Int32)), vI y15, vI (if ((y11 &&& (255:Int32)) % (5:Int32)) < (4:Int32) then (if ((v.1 >>> (((y11 &&& (255:Int32)) % (5:Int32)) &&& 31)) &&& (1:Int32)) = (1:Int32) then (1:Int32) else (0:Int32)) else (0:Int32)), vI r27, vI r31, vI r44, vI r48, vI r52, vI r248.1, none, none], [.int (if ((y11 &&& (255:Int32)) % (5:Int32)) < (4:Int32) then (if ((v.1 >>> (((y11 &&& (255:Int32)) % (5:Int32)) &&& 31)) &&& (1:Int32)) = (1:Int32) then (1:Int32) else (0:Int32)) else (0:Int32))], (H0 s r248.2))) rfl ?_
       rcases qite h with ⟨hc249, h⟩ | ⟨hc249, h⟩
       ·refine zF Ad W (t := 725) (f := 717) rfl (XT.i0_ne_f hc249) ?_
        refine zS Ad W 2 (st' := (720, [vR 0, vR 1, vI v.1, vI v.2.1, vI v.2.2.1, vI v.2.2.2.1, vI v.2.2.2.2.1, vI v.2.2.2.2.2.1, vI v.2.2.2.2.2.2.1, vI v.2.2.2.2.2.2.2.1, vI v.2.2.2.2.2.2.2.2.1, vI ((y9 &&& (7:Int32)) % (5:Int32)), vI ((y11 &&& (255:Int32)) % (5:Int32)), vI ((y13 &&& (255:Int32)) % (9:Int32)), vI y15, vI (if ((y11 &&& (255:Int32)) % (5:Int32)) < (4:Int32) then (if ((v.1 >>> (((y11 &&& (255:Int32)) % (5:Int32)) &&& 31)) &&& (1:Int32)) = (1:Int32) then (1:Int32) else (0:Int32)) else (0:Int32)), vI r27, vI r31, vI r44, vI r48, vI r52, vI r248.1, none, none], [.int (-1:Int32), .int r248.1], (H0 s r248.2))) rfl ?_
        rcases qite h with ⟨hc250, h⟩ | ⟨hc250, h⟩
        ·refine zT Ad W (t := 744) (f := 723) rfl (XT.ii_eq_t hc250) ?_
         exact zM [tt,tt,tt,tt,tt,tt,tt,tt,tt,tt,tt,ff,ff,ff,ff,ff,ff,ff,ff,ff,ff,ff,ff,ff] (tJ0_744 Ad W s r248.2 v.1 v.2.1 v.2.2.1 v.2.2.2.1 v.2.2.2.2.1 v.2.2.2.2.2.1 v.2.2.2.2.2.2.1 v.2.2.2.2.2.2.2.1 v.2.2.2.2.2.2.2.2.1 h hx0 hc)
        ·refine zF Ad W (t := 744) (f := 723) rfl (XT.ii_eq_f hc250) ?_
         refine zS Ad W 1 (st' := (724, [vR 0, vR 1, vI v.1, vI v.2.1, vI v.2.2.1, vI v.2.2.2.1, vI v.2.2.2.2.1, vI v.2.2.2.2.2.1, vI v.2.2.2.2.2.2.1, vI v.2.2.2.2.2.2.2.1, vI v.2.2.2.2.2.2.2.2.1, vI ((y9 &&& (7:Int32)) % (5:Int32)), vI ((y11 &&& (255:Int32)) % (5:Int32)), vI ((y13 &&& (255:Int32)) % (9:Int32)), vI y15, vI (if ((y11 &&& (255:Int32)) % (5:Int32)) < (4:Int32) then (if ((v.1 >>> (((y11 &&& (255:Int32)) % (5:Int32)) &&& 31)) &&& (1:Int32)) = (1:Int32) then (1:Int32) else (0:Int32)) else (0:Int32)), vI r27, vI r31, vI r44, vI r48, vI r52, vI r248.1, none, none], [.int (0:Int32)], (H0 s r248.2))) rfl ?_
         obtain rfl := Option.some.inj h
         obtain ⟨rfl, rfl⟩ := hx0 ((0:Int32), (H0 s r248.2)) rfl
         exact QTri.retZ rfl rfl
       ·refine zT Ad W (t := 725) (f := 717) rfl (XT.i0_ne_t hc249) ?_
        refine zS Ad W 1 (st' := (727, [vR 0, vR 1, vI v.1, vI v.2.1, vI v.2.2.1, vI v.2.2.2.1, vI v.2.2.2.2.1, vI v.2.2.2.2.2.1, vI v.2.2.2.2.2.2.1, vI v.2.2.2.2.2.2.2.1, vI v.2.2.2.2.2.2.2.2.1, vI ((y9 &&& (7:Int32)) % (5:Int32)), vI ((y11 &&& (255:Int32)) % (5:Int32)), vI ((y13 &&& (255:Int32)) % (9:Int32)), vI y15, vI (if ((y11 &&& (255:Int32)) % (5:Int32)) < (4:Int32) then (if ((v.1 >>> (((y11 &&& (255:Int32)) % (5:Int32)) &&& 31)) &&& (1:Int32)) = (1:Int32) then (1:Int32) else (0:Int32)) else (0:Int32)), vI r27, vI r31, vI r44, vI r48, vI r52, vI r248.1, none, none], [.int r248.1], (H0 s r248.2))) rfl ?_
        rcases qite h with ⟨hc251, h⟩ | ⟨hc251, h⟩
        ·refine zT Ad W (t := 732) (f := 730) rfl (XT.i0_eq_t hc251) ?_
         refine zS Ad W 9 (st' := (744, [vR 0, vR 1, vI (v.1 &&& (((1:Int32) <<< (((y11 &&& (255:Int32)) % (5:Int32)) &&& 31)) ^^^ (-1:Int32))), vI v.2.1, vI (v.2.2.1 + (1:Int32)), vI v.2.2.2.1, vI v.2.2.2.2.1, vI v.2.2.2.2.2.1, vI v.2.2.2.2.2.2.1, vI v.2.2.2.2.2.2.2.1, vI v.2.2.2.2.2.2.2.2.1, vI ((y9 &&& (7:Int32)) % (5:Int32)), vI ((y11 &&& (255:Int32)) % (5:Int32)), vI ((y13 &&& (255:Int32)) % (9:Int32)), vI y15, vI (if ((y11 &&& (255:Int32)) % (5:Int32)) < (4:Int32) then (if ((v.1 >>> (((y11 &&& (255:Int32)) % (5:Int32)) &&& 31)) &&& (1:Int32)) = (1:Int32) then (1:Int32) else (0:Int32)) else (0:Int32)), vI r27, vI r31, vI r44, vI r48, vI r52, vI r248.1, none, none], [], (H0 s r248.2))) rfl ?_
         exact zM [tt,tt,tt,tt,tt,tt,tt,tt,tt,tt,tt,ff,ff,ff,ff,ff,ff,ff,ff,ff,ff,ff,ff,ff] (tJ0_744 Ad W s r248.2 (v.1 &&& (((1:Int32) <<< (((y11 &&& (255:Int32)) % (5:Int32)) &&& 31)) ^^^ (-1:Int32))) v.2.1 (v.2.2.1 + (1:Int32)) v.2.2.2.1 v.2.2.2.2.1 v.2.2.2.2.2.1 v.2.2.2.2.2.2.1 v.2.2.2.2.2.2.2.1 v.2.2.2.2.2.2.2.2.1 h hx0 hc)
        ·refine zF Ad W (t := 732) (f := 730) rfl (XT.i0_eq_f hc251) ?_
         refine zS Ad W 1 (st' := (731, [vR 0, vR 1, vI v.1, vI v.2.1, vI v.2.2.1, vI v.2.2.2.1, vI v.2.2.2.2.1, vI v.2.2.2.2.2.1, vI v.2.2.2.2.2.2.1, vI v.2.2.2.2.2.2.2.1, vI v.2.2.2.2.2.2.2.2.1, vI ((y9 &&& (7:Int32)) % (5:Int32)), vI ((y11 &&& (255:Int32)) % (5:Int32)), vI ((y13 &&& (255:Int32)) % (9:Int32)), vI y15, vI (if ((y11 &&& (255:Int32)) % (5:Int32)) < (4:Int32) then (if ((v.1 >>> (((y11 &&& (255:Int32)) % (5:Int32)) &&& 31)) &&& (1:Int32)) = (1:Int32) then (1:Int32) else (0:Int32)) else (0:Int32)), vI r27, vI r31, vI r44, vI r48, vI r52, vI r248.1, none, none], [.int (0:Int32)], (H0 s r248.2))) rfl ?_
         obtain rfl := Option.some.inj h
         obtain ⟨rfl, rfl⟩ := hx0 ((0:Int32), (H0 s r248.2)) rfl
         exact QTri.retZ rfl rfl
  rcases em (((y11 &&& (255:Int32)) % (5:Int32)) < (4:Int32)) with hc18 | hc18
  ·refine zF Ad W (t := 114) (f := 100) rfl (XT.ii_ge_f hc18) ?_
   refine zS Ad W 6 (st' := (107, [vR 0, vR 1, vI v.1, vI v.2.1, vI v.2.2.1, vI v.2.2.2.1, vI v.2.2.2.2.1, vI v.2.2.2.2.2.1, vI v.2.2.2.2.2.2.1, vI v.2.2.2.2.2.2.2.1, vI v.2.2.2.2.2.2.2.2.1, vI ((y9 &&& (7:Int32)) % (5:Int32)), vI ((y11 &&& (255:Int32)) % (5:Int32)), vI ((y13 &&& (255:Int32)) % (9:Int32)), vI y15, none, none, none, none, none, none, none, none, none], [.int (1:Int32), .int ((v.1 >>> (((y11 &&& (255:Int32)) % (5:Int32)) &&& 31)) &&& (1:Int32))], (H0 s v.2.2.2.2.2.2.2.2.2))) rfl ?_
   rcases em (((v.1 >>> (((y11 &&& (255:Int32)) % (5:Int32)) &&& 31)) &&& (1:Int32)) = (1:Int32)) with hc19 | hc19
   ·refine zF Ad W (t := 114) (f := 110) rfl (XT.ii_ne_f hc19) ?_
    refine zS Ad W 2 (st' := (115, [vR 0, vR 1, vI v.1, vI v.2.1, vI v.2.2.1, vI v.2.2.2.1, vI v.2.2.2.2.1, vI v.2.2.2.2.2.1, vI v.2.2.2.2.2.2.1, vI v.2.2.2.2.2.2.2.1, vI v.2.2.2.2.2.2.2.2.1, vI ((y9 &&& (7:Int32)) % (5:Int32)), vI ((y11 &&& (255:Int32)) % (5:Int32)), vI ((y13 &&& (255:Int32)) % (9:Int32)), vI y15, none, none, none, none, none, none, none, none, none], [.int (1:Int32)], (H0 s v.2.2.2.2.2.2.2.2.2))) rfl ?_
    exact zM [tt,tt,tt,tt,tt,tt,tt,tt,tt,tt,tt,tt,tt,tt,tt,ff,ff,ff,ff,ff,ff,ff,ff,ff] (K17 _ ((if_pos hc18).trans (if_pos hc19)).symm)
   ·refine zT Ad W (t := 114) (f := 110) rfl (XT.ii_ne_t hc19) ?_
    refine zS Ad W 1 (st' := (115, [vR 0, vR 1, vI v.1, vI v.2.1, vI v.2.2.1, vI v.2.2.2.1, vI v.2.2.2.2.1, vI v.2.2.2.2.2.1, vI v.2.2.2.2.2.2.1, vI v.2.2.2.2.2.2.2.1, vI v.2.2.2.2.2.2.2.2.1, vI ((y9 &&& (7:Int32)) % (5:Int32)), vI ((y11 &&& (255:Int32)) % (5:Int32)), vI ((y13 &&& (255:Int32)) % (9:Int32)), vI y15, none, none, none, none, none, none, none, none, none], [.int (0:Int32)], (H0 s v.2.2.2.2.2.2.2.2.2))) rfl ?_
    exact zM [tt,tt,tt,tt,tt,tt,tt,tt,tt,tt,tt,tt,tt,tt,tt,ff,ff,ff,ff,ff,ff,ff,ff,ff] (K17 _ ((if_pos hc18).trans (if_neg hc19)).symm)
  ·refine zT Ad W (t := 114) (f := 100) rfl (XT.ii_ge_t hc18) ?_
   refine zS Ad W 1 (st' := (115, [vR 0, vR 1, vI v.1, vI v.2.1, vI v.2.2.1, vI v.2.2.2.1, vI v.2.2.2.2.1, vI v.2.2.2.2.2.1, vI v.2.2.2.2.2.2.1, vI v.2.2.2.2.2.2.2.1, vI v.2.2.2.2.2.2.2.2.1, vI ((y9 &&& (7:Int32)) % (5:Int32)), vI ((y11 &&& (255:Int32)) % (5:Int32)), vI ((y13 &&& (255:Int32)) % (9:Int32)), vI y15, none, none, none, none, none, none, none, none, none], [.int (0:Int32)], (H0 s v.2.2.2.2.2.2.2.2.2))) rfl ?_
   exact zM [tt,tt,tt,tt,tt,tt,tt,tt,tt,tt,tt,tt,tt,tt,tt,ff,ff,ff,ff,ff,ff,ff,ff,ff] (K17 _ (if_neg hc18).symm)
 ·refine zT Ad W (t := 893) (f := 46) rfl (XT.ii_ge_t hc8) ?_
  refine zS Ad W 1 (st' := (894, [vR 0, vR 1, vI v.1, vI v.2.1, vI v.2.2.1, vI v.2.2.2.1, vI v.2.2.2.2.1, vI v.2.2.2.2.2.1, vI v.2.2.2.2.2.2.1, vI v.2.2.2.2.2.2.2.1, vI v.2.2.2.2.2.2.2.2.1, none, none, none, none, none, none, none, none, none, none, none, none, none], [.int (1:Int32)], (H0 s v.2.2.2.2.2.2.2.2.2))) rfl ?_
  obtain rfl := Option.some.inj h
  obtain ⟨rfl, rfl⟩ := hx0 ((1:Int32), (H0 s v.2.2.2.2.2.2.2.2.2)) rfl
  exact QTri.retZ rfl rfl
/-- the law -/
def F0 (s : List Int32) : Option (Int32 × QHeap) :=
 (F1 (8:Int32) (4:Int32) (4:Int32)).bind fun r7 => (loopN (B0_37 s) qN ((0:Int32), (0:Int32), (0:Int32), (-1:Int32), (0:Int32), (0:Int32), (0:Int32), (0:Int32), (0:Int32), r7)).bind fun e252 => some e252
theorem tF0 (Ad : QAd n0 ad) (W : QW Z a0) (s : List Int32) {r : Int32 × QHeap} (h : F0 s = some r) : QTri l Z n0 ad 0 (0, qentry [.ref 0] (pMaxL 0), [], [.inr (.inl (.int, s))]) (some (Value.int r.1)) r.2 := by
 unfold F0 at h
 refine zS Ad W 1 (st' := (3, [vR 0, none, none, none, none, none, none, none, none, none, none, none, none, none, none, none, none, none, none, none, none, none, none, none], [.ref 1], [.inr (.inl (.int, s)), .inl [.null, .null, .null, .null, .null, .null, .null, .int (f_keyCount ob0), .int (f_slotCount ob0), .int (f_window ob0), .int (f_commitCount ob0), .int (f_abortCount ob0), .int (f_lastConflict ob0)]])) rfl ?_
 refine zS Ad W 4 (st' := (8, [vR 0, none, none, none, none, none, none, none, none, none, none, none, none, none, none, none, none, none, none, none, none, none, none, none], [.int (4:Int32), .int (4:Int32), .int (8:Int32), .ref 1, .ref 1], [.inr (.inl (.int, s)), .inl [.null, .null, .null, .null, .null, .null, .null, .int (f_keyCount ob0), .int (f_slotCount ob0), .int (f_window ob0), .int (f_commitCount ob0), .int (f_abortCount ob0), .int (f_lastConflict ob0)]])) rfl ?_
 obtain ⟨r7, hr7, h⟩ := bind_eq_some_iff.mp h
 refine QTri.callI W (a := 1) (as := [.int (8:Int32), .int (4:Int32), .int (4:Int32)]) (rest := [.ref 1]) (σ₁ := (H0 s r7)) rfl rfl rfl rfl rfl rfl (tF1 Ad W s (8:Int32) (4:Int32) (4:Int32) hr7) ?_
 refine zS Ad W 3 (st' := (14, [vR 0, vR 1, vI (0:Int32), none, none, none, none, none, none, none, none, none, none, none, none, none, none, none, none, none, none, none, none, none], [], (H0 s r7))) rfl ?_
 refine zS Ad W 4 (st' := (19, [vR 0, vR 1, vI (0:Int32), vI (0:Int32), vI (0:Int32), none, none, none, none, none, none, none, none, none, none, none, none, none, none, none, none, none, none, none], [], (H0 s r7))) rfl ?_
 refine zS Ad W 4 (st' := (25, [vR 0, vR 1, vI (0:Int32), vI (0:Int32), vI (0:Int32), vI (-1:Int32), vI (0:Int32), none, none, none, none, none, none, none, none, none, none, none, none, none, none, none, none, none], [], (H0 s r7))) rfl ?_
 refine zS Ad W 4 (st' := (31, [vR 0, vR 1, vI (0:Int32), vI (0:Int32), vI (0:Int32), vI (-1:Int32), vI (0:Int32), vI (0:Int32), vI (0:Int32), none, none, none, none, none, none, none, none, none, none, none, none, none, none, none], [], (H0 s r7))) rfl ?_
 refine zS Ad W 4 (st' := (37, [vR 0, vR 1, vI (0:Int32), vI (0:Int32), vI (0:Int32), vI (-1:Int32), vI (0:Int32), vI (0:Int32), vI (0:Int32), vI (0:Int32), vI (0:Int32), none, none, none, none, none, none, none, none, none, none, none, none, none], [], (H0 s r7))) rfl ?_
 obtain ⟨e252, he252, h⟩ := bind_eq_some_iff.mp h
 refine zM [tt,tt,tt,tt,tt,tt,tt,tt,tt,tt,tt,ff,ff,ff,ff,ff,ff,ff,ff,ff,ff,ff,ff,ff] (loopN_tri (B := B0_37 s) (T := fun lv253 => QTri l Z n0 ad 0 (37, [vR 0, vR 1, vI lv253.1, vI lv253.2.1, vI lv253.2.2.1, vI lv253.2.2.2.1, vI lv253.2.2.2.2.1, vI lv253.2.2.2.2.2.1, vI lv253.2.2.2.2.2.2.1, vI lv253.2.2.2.2.2.2.2.1, vI lv253.2.2.2.2.2.2.2.2.1, none, none, none, none, none, none, none, none, none, none, none, none, none], [], (H0 s lv253.2.2.2.2.2.2.2.2.2)) (some (Value.int r.1)) r.2) (KE := fun e252a => (some (Value.int r.1)) = (some (Value.int e252a.1)) ∧ r.2 = e252a.2) (fun lv253 r hB hE hC => tB0_37 Ad W s lv253 hB (fun x q => hE _ q) (fun x q => hC x q)) qN ((0:Int32), (0:Int32), (0:Int32), (-1:Int32), (0:Int32), (0:Int32), (0:Int32), (0:Int32), (0:Int32), r7) e252 he252 ?_)
 obtain rfl := Option.some.inj h
 exact ⟨rfl, rfl⟩
end Walks
theorem script_ok {s : State} {w : Value} (hfit : Fit s) (h1 : (Jvm.Cond.arrayOf (Jvm.Term.arg 0) Jvm.ClassFile.FieldType.int).value #[w] s none s [] = some true) (h2 : (Jvm.Cond.le (Jvm.Term.length (Jvm.Term.arg 0)) (Jvm.Term.int 260)).value #[w] s none s [] = some true) :
    ∃ (a : Addr) (c : Cell) (xs : List Int32), w = .ref a ∧ Arr s s.heap a c .int ∧ c.slots = (xs.map Value.int).toArray ∧ xs.length ≤ 260 := by
  obtain ⟨a, ha⟩ := arr_v h1
  obtain ⟨c, A⟩ := Arr.start ha h1
  have hw : w = .ref a := by simpa [Term.eval] using ha
  subst hw
  have hel : ∀ i, i < c.slots.size → ∃ x, c.slots[i]? = some (.int x) := fun i hi => by
    have q := hfit A.1 hi
    obtain ⟨hs, k, hk, comp, hkind⟩ := A.2.1
    have e : s.slotType? c.cls c.vm i = some .int := by
      cases hq : c.vm <;> first | exact absurd hq (hs _) | simp [State.slotType?, hk, hkind]
    have q2 : fits .int c.slots[i] = true := by simpa [State.fitsSlot, e] using q
    obtain ⟨x, hx⟩ := fit_I q2 (Or.inl rfl)
    exact ⟨x, by rw [Array.getElem?_eq_getElem hi, hx]⟩
  refine ⟨a, c, c.slots.toList.map (fun v => match v with | .int x => x | _ => 0), rfl, A, ?_, ?_⟩
  · apply Array.ext'
    rw [List.map_map]
    have : c.slots.toList.map (Value.int ∘ fun v => match v with | .int x => x | _ => 0) = c.slots.toList := by
      conv => rhs; rw [← List.map_id c.slots.toList]
      refine List.map_congr_left fun v hv => ?_
      obtain ⟨i, hi⟩ := List.mem_iff_getElem?.mp hv
      rw [Array.getElem?_toList] at hi
      obtain ⟨x, hx⟩ := hel i (Array.getElem?_eq_some_iff.mp hi).1
      rw [hi] at hx
      cases hx
      rfl
    exact this.symm
  · have hl := A.fin (Vm.Alike.refl _)
    simp only [List.length_map, Array.length_toList]
    simp only [Cond.value, Term.eval] at h2
    simp [hl] at h2
    by_cases hs : c.slots.size < 2147483648
    · rw [if_pos hs] at h2
      have h3 : c.slots.size.toInt32 ≤ 260 := by simpa using h2
      rw [Int32.le_iff_toInt_le] at h3
      have h4 : (c.slots.size.toInt32).toInt = c.slots.size := Int32.toInt_ofNat_of_lt (by omega)
      rw [h4] at h3
      have h5 : (260 : Int32).toInt = 260 := rfl
      rw [h5] at h3
      omega
    · rw [if_neg hs] at h2
      simp at h2
set_option maxHeartbeats 4000000
theorem i_lt {x y : Int32} : x < y ↔ x.toInt < y.toInt := Int32.lt_iff_toInt_lt
theorem i_eq {x y : Int32} : x = y ↔ x.toInt = y.toInt := Int32.toInt_inj.symm
theorem i_lo (x : Int32) : -2147483648 ≤ x.toInt := Int32.le_toInt x
theorem i_hi (x : Int32) : x.toInt < 2147483648 := Int32.toInt_lt x
theorem i_add {x y : Int32} (h1 : -2147483648 ≤ x.toInt + y.toInt) (h2 : x.toInt + y.toInt < 2147483648) : (x + y).toInt = x.toInt + y.toInt := XT.add32 ⟨h1, by omega⟩
theorem i_sub {x y : Int32} (h1 : -2147483648 ≤ x.toInt - y.toInt) (h2 : x.toInt - y.toInt < 2147483648) : (x - y).toInt = x.toInt - y.toInt := XT.sub32 ⟨h1, by omega⟩
theorem i_mul {x y : Int32} (h1 : -2147483648 ≤ x.toInt * y.toInt) (h2 : x.toInt * y.toInt < 2147483648) : (x * y).toInt = x.toInt * y.toInt := XT.mul32 ⟨h1, by omega⟩
theorem i_nat (x : Int32) : x.toNatClampNeg = x.toInt.toNat := rfl
theorem aget_at {α : Type} {xs : List α} {j : Int32} {n : Nat} (hj : j.toInt = n) (hn : n < xs.length) : aget xs j = some xs[n] := by
 have h0 : ¬ j < 0 := by rw [i_lt]; show ¬ j.toInt < 0; omega
 unfold aget
 rw [if_neg h0, i_nat, hj]
 simp [hn]
theorem aget_rep {α : Type} {m : Nat} {a : α} {j : Int32} (h0 : 0 ≤ j.toInt) (h1 : j.toInt < m) : aget (List.replicate m a) j = some a := by
 rw [aget_at (n := j.toInt.toNat) (by omega) (by rw [List.length_replicate]; omega)]
 simp
theorem aset_at {α : Type} {xs : List α} {j : Int32} {n : Nat} {v : α} (hj : j.toInt = n) (hn : n < xs.length) : aset xs j v = some (xs.set n v) := by
 have h0 : ¬ j < 0 := by rw [i_lt]; show ¬ j.toInt < 0; omega
 unfold aset
 have e : j.toNatClampNeg = n := by rw [i_nat, hj]; simp
 rw [if_neg h0, e, if_pos hn]
theorem rep_set {α : Type} (m k : Nat) (a : α) : (List.replicate m a).set k a = List.replicate m a := by
 apply List.ext_getElem (by simp)
 intro i h1 h2
 rw [List.getElem_set]
 split <;> simp
theorem small_cases {x : Int32} (h0 : 0 ≤ x.toInt) {n : Nat} (h1 : x.toInt < n) {P : Int32 → Prop} (h : ∀ m : Nat, m < n → P (Int32.ofInt m)) : P x := by
 have e : Int32.ofInt (x.toInt.toNat : Nat) = x := by
  rw [Int.toNat_of_nonneg h0, Int32.ofInt_toInt]
 rw [← e]
 exact h _ (by omega)
theorem bit_ne {x : Int32} (h0 : 0 ≤ x.toInt) (h1 : x.toInt < 32) : ¬ (((1 : Int32) <<< (x &&& 31)) &&& ((1 : Int32) <<< (x &&& 31))) = 0 :=
 small_cases (P := fun x => ¬ (((1 : Int32) <<< (x &&& 31)) &&& ((1 : Int32) <<< (x &&& 31))) = 0) h0 (n := 32) h1 (by decide)
def okP {α : Type} (m : Option α) (P : α → Prop) : Prop := ∃ a, m = some a ∧ P a
theorem okP.some {α : Type} {a : α} {P : α → Prop} (h : P a) : okP (some a) P := ⟨a, rfl, h⟩
theorem okP.bind {α β : Type} {m : Option α} {f : α → Option β} {P : β → Prop} (h : okP m fun a => okP (f a) P) : okP (m.bind f) P := by
 obtain ⟨a, e, b, e2, h2⟩ := h
 exact ⟨b, by rw [e]; exact e2, h2⟩
theorem okP.ite {α : Type} {c : Prop} [Decidable c] {a b : Option α} {P : α → Prop} (h1 : c → okP a P) (h2 : ¬ c → okP b P) : okP (if c then a else b) P := by
 by_cases h : c
 ·rw [if_pos h]; exact h1 h
 ·rw [if_neg h]; exact h2 h
theorem okP.mono {α : Type} {m : Option α} {P Q : α → Prop} (h : okP m P) (k : ∀ a, P a → Q a) : okP m Q := by
 obtain ⟨a, e, h⟩ := h
 exact ⟨a, e, k a h⟩
theorem okP.of {α : Type} {m : Option α} {a : α} {P : α → Prop} (e : m = Option.some a) (h : P a) : okP m P := ⟨a, e, h⟩
theorem okP.aget {α : Type} {xs : List α} {j : Int32} {P : α → Prop} (h0 : 0 ≤ j.toInt) (h1 : j.toInt < xs.length) (k : ∀ v, xs[j.toInt.toNat]? = Option.some v → P v) : okP (aget xs j) P :=
 ⟨_, aget_at (n := j.toInt.toNat) (by omega) (by omega), k _ (List.getElem?_eq_getElem _)⟩
theorem okP.aset {α : Type} {xs : List α} {j : Int32} {v : α} {P : List α → Prop} (h0 : 0 ≤ j.toInt) (h1 : j.toInt < xs.length) (k : P (xs.set j.toInt.toNat v)) : okP (aset xs j v) P :=
 ⟨_, aset_at (n := j.toInt.toNat) (by omega) (by omega), k⟩
theorem okP.loop {V E : Type} {B : V → Option (E ⊕ V)} {P : E → Prop} {n : Nat} {v : V} (I : V → Prop) (μ : V → Nat) (hv : I v) (hm : μ v < n) (hB : ∀ v, I v → okP (B v) (fun r => Sum.elim P (fun v' => I v' ∧ μ v' < μ v) r)) : okP (loopN B n v) P := by
 refine loopN_inv I P μ ?_ n v hv hm
 intro v hv
 obtain ⟨r, e, h⟩ := hB v hv
 cases r with
 | inl x => exact Or.inl ⟨x, e, h⟩
 | inr x => exact Or.inr ⟨x, e, h⟩
theorem len_i {n : Nat} (h : n ≤ 1000) : (n.toInt32).toInt = n := by
 have e : n.toInt32 = Int32.ofInt n := rfl
 rw [e, Int32.toInt_ofInt_of_le (by show _ ≤ (n : Int); omega) (by show (n : Int) < _; omega)]
theorem and1 (x : Int32) : x &&& 1 = 0 ∨ x &&& 1 = 1 := by
 have e : (x &&& 1).toBitVec = x.toBitVec &&& 1#32 := rfl
 have h := BitVec.and_one_eq_setWidth_ofBool_getLsbD (x := x.toBitVec)
 cases g : x.toBitVec.getLsbD 0
 ·left; apply Int32.toBitVec_inj.1; rw [e, h, g]; rfl
 ·right; apply Int32.toBitVec_inj.1; rw [e, h, g]; rfl
theorem okP.not {α : Type} {m : Option α} {a : α} {P : α → Prop} (h : okP m P) (e : m = Option.some a) : P a := by
 obtain ⟨b, e2, h⟩ := h
 rw [e] at e2
 exact (Option.some.inj e2) ▸ h
theorem and_rng {x m : Int32} (hm : 0 ≤ m.toInt) : 0 ≤ (x &&& m).toInt ∧ (x &&& m).toInt ≤ m.toInt := by
 have e : (x &&& m).toBitVec.toNat = x.toBitVec.toNat &&& m.toBitVec.toNat := BitVec.toNat_and ..
 have l : (x &&& m).toBitVec.toNat ≤ m.toBitVec.toNat := by rw [e]; exact Nat.and_le_right
 have c1 : m.toInt = if 2 * m.toBitVec.toNat < 2 ^ 32 then (m.toBitVec.toNat : Int) else m.toBitVec.toNat - (2 ^ 32 : Nat) := BitVec.toInt_eq_toNat_cond m.toBitVec
 have c2 : (x &&& m).toInt = if 2 * (x &&& m).toBitVec.toNat < 2 ^ 32 then ((x &&& m).toBitVec.toNat : Int) else (x &&& m).toBitVec.toNat - (2 ^ 32 : Nat) := BitVec.toInt_eq_toNat_cond (x &&& m).toBitVec
 have b : m.toBitVec.toNat < 2 ^ 32 := m.toBitVec.isLt
 by_cases h : 2 * m.toBitVec.toNat < 2 ^ 32
 ·rw [if_pos h] at c1
  rw [if_pos (by omega)] at c2
  omega
 ·rw [if_neg h] at c1
  omega
theorem mod_rng {x m : Int32} (hx : 0 ≤ x.toInt) (hm : 0 < m.toInt) : 0 ≤ (x % m).toInt ∧ (x % m).toInt < m.toInt := by
 rw [Int32.toInt_mod, Int.tmod_eq_emod_of_nonneg hx]
 exact ⟨Int.emod_nonneg _ (by omega), Int.emod_lt_of_pos _ hm⟩
def sFit (s : List Int32) (τ : QHeap) : Prop := τ.length - List.length ([Sum.inr (Sum.inl (FieldType.int, s))] : QHeap) ≤ room_1.cells ∧ qhs τ - qhs [Sum.inr (Sum.inl (FieldType.int, s))] ≤ room_1.slots
def Sh (K n : Int32) (o : Ob) : Prop := (f_value o).length = 32 ∧ (f_version o).length = 32 ∧ (f_active o).length = 8 ∧ (f_start o).length = 8 ∧ (f_readSet o).length = 8 ∧ (f_writeSet o).length = 8 ∧ (f_buffered o).length = 256 ∧ f_keyCount o = K ∧ f_slotCount o = n
theorem Sh_buf {K n : Int32} {o : Ob} (h : Sh K n o) {x : List Int32} (hx : x.length = 256) : Sh K n (s_buffered o x) := ⟨h.1, h.2.1, h.2.2.1, h.2.2.2.1, h.2.2.2.2.1, h.2.2.2.2.2.1, hx, h.2.2.2.2.2.2.2⟩
theorem Sh_wr {K n : Int32} {o : Ob} (h : Sh K n o) {x : List Int32} (hx : x.length = 8) : Sh K n (s_writeSet o x) := ⟨h.1, h.2.1, h.2.2.1, h.2.2.2.1, h.2.2.2.2.1, hx, h.2.2.2.2.2.2.1, h.2.2.2.2.2.2.2⟩
theorem Sh_rd {K n : Int32} {o : Ob} (h : Sh K n o) {x : List Int32} (hx : x.length = 8) : Sh K n (s_readSet o x) := ⟨h.1, h.2.1, h.2.2.1, h.2.2.2.1, hx, h.2.2.2.2.2.1, h.2.2.2.2.2.2.1, h.2.2.2.2.2.2.2⟩
theorem Sh_st {K n : Int32} {o : Ob} (h : Sh K n o) {x : List Int32} (hx : x.length = 8) : Sh K n (s_start o x) := ⟨h.1, h.2.1, h.2.2.1, hx, h.2.2.2.2.1, h.2.2.2.2.2.1, h.2.2.2.2.2.2.1, h.2.2.2.2.2.2.2⟩
theorem Sh_ac {K n : Int32} {o : Ob} (h : Sh K n o) {x : List Int32} (hx : x.length = 8) : Sh K n (s_active o x) := ⟨h.1, h.2.1, hx, h.2.2.2.1, h.2.2.2.2.1, h.2.2.2.2.2.1, h.2.2.2.2.2.2.1, h.2.2.2.2.2.2.2⟩
theorem Sh_ve {K n : Int32} {o : Ob} (h : Sh K n o) {x : List Int32} (hx : x.length = 32) : Sh K n (s_version o x) := ⟨h.1, hx, h.2.2.1, h.2.2.2.1, h.2.2.2.2.1, h.2.2.2.2.2.1, h.2.2.2.2.2.2.1, h.2.2.2.2.2.2.2⟩
theorem Sh_va {K n : Int32} {o : Ob} (h : Sh K n o) {x : List Int32} (hx : x.length = 32) : Sh K n (s_value o x) := ⟨hx, h.2.1, h.2.2.1, h.2.2.2.1, h.2.2.2.2.1, h.2.2.2.2.2.1, h.2.2.2.2.2.2.1, h.2.2.2.2.2.2.2⟩
theorem Sh_cc {K n : Int32} {o : Ob} (h : Sh K n o) (x : Int32) : Sh K n (s_commitCount o x) := h
theorem Sh_ab {K n : Int32} {o : Ob} (h : Sh K n o) (x : Int32) : Sh K n (s_abortCount o x) := h
theorem Sh_lc {K n : Int32} {o : Ob} (h : Sh K n o) (x : Int32) : Sh K n (s_lastConflict o x) := h
theorem vtx {K n : Int32} {o : Ob} (h : Sh K n o) (hn : n.toInt ≤ 8) (x : Int32) : okP (F4 o x) (fun r => r = 0 ∨ (r ≠ 0 ∧ 0 ≤ x.toInt ∧ x.toInt < n.toInt)) := by
 obtain ⟨h1, h2, h3, h4, h5, h6, h7, h8, h9⟩ := h
 unfold F4
 rw [h9]
 repeat' with_reducible (first | apply okP.bind | apply okP.some | (apply okP.ite <;> intro _) | refine okP.aget ?_ ?_ (fun v hv => ?_) | refine okP.aset ?_ ?_ ?_)
 ·exact Or.inl rfl
 ·(simp only [i_lt, Int32.reduceToInt] at *; omega)
 ·(simp only [i_lt, Int32.reduceToInt] at *; omega)
 ·by_cases e : v &&& 1 = 0
  ·exact Or.inl e
  ·exact Or.inr ⟨e, by (simp only [i_lt, Int32.reduceToInt] at *; omega), by (simp only [i_lt, Int32.reduceToInt] at *; omega)⟩
 ·exact Or.inl rfl
 ·exact Or.inl rfl
theorem vkey {K n : Int32} {o : Ob} (h : Sh K n o) (hK : K.toInt ≤ 32) (x : Int32) : okP (F8 o x) (fun r => (r = 0 ∧ ¬ (0 ≤ x.toInt ∧ x.toInt < K.toInt)) ∨ (r ≠ 0 ∧ 0 ≤ x.toInt ∧ x.toInt < K.toInt)) := by
 obtain ⟨h1, h2, h3, h4, h5, h6, h7, h8, h9⟩ := h
 unfold F8
 rw [h8]
 repeat' with_reducible (first | apply okP.bind | apply okP.some | (apply okP.ite <;> intro _) | refine okP.aget ?_ ?_ (fun v hv => ?_) | refine okP.aset ?_ ?_ ?_)
 ·exact Or.inl ⟨rfl, by (simp only [i_lt, Int32.reduceToInt] at *; omega)⟩
 ·exact Or.inr ⟨by decide, by (simp only [i_lt, Int32.reduceToInt] at *; omega)⟩
 ·exact Or.inl ⟨rfl, by (simp only [i_lt, Int32.reduceToInt] at *; omega)⟩
 ·exact Or.inl ⟨rfl, by (simp only [i_lt, Int32.reduceToInt] at *; omega)⟩

def clr (o : Ob) (x : Nat) (b : List Int32) : Ob := s_buffered (s_writeSet (s_readSet (s_start (s_active o ((f_active o).set x 0)) ((f_start o).set x 0)) ((f_readSet o).set x 0)) ((f_writeSet o).set x 0)) b
theorem Sh_clr {K n : Int32} {o : Ob} (h : Sh K n o) (x : Nat) {b : List Int32} (hb : b.length = 256) : Sh K n (clr o x b) := by
 obtain ⟨h1, h2, h3, h4, h5, h6, h7, h8, h9⟩ := h
 exact ⟨h1, h2, by show (List.set _ _ _).length = _; rw [List.length_set]; exact h3, by show (List.set _ _ _).length = _; rw [List.length_set]; exact h4, by show (List.set _ _ _).length = _; rw [List.length_set]; exact h5, by show (List.set _ _ _).length = _; rw [List.length_set]; exact h6, hb, h8, h9⟩
theorem clear_ok {K n : Int32} {o : Ob} (h : Sh K n o) {x : Int32} (hx : 0 ≤ x.toInt) (hx8 : x.toInt < 8) : okP (F20 o x) (fun r => ∃ b : List Int32, b.length = 256 ∧ r = clr o x.toInt.toNat b) := by
 obtain ⟨h1, h2, h3, h4, h5, h6, h7, h8, h9⟩ := h
 unfold F20
 have e32 : (x * 32).toInt = x.toInt * 32 := i_mul (x := x) (y := 32) (by show _ ≤ x.toInt * 32; omega) (by show x.toInt * 32 < _; omega)
 repeat' with_reducible (first | apply okP.bind | apply okP.some | (apply okP.ite <;> intro _) | refine okP.aget ?_ ?_ (fun v hv => ?_) | refine okP.aset ?_ ?_ ?_)
 ·exact hx
 ·omega
 ·exact hx
 ·omega
 ·exact hx
 ·omega
 ·exact hx
 ·omega
 obtain ⟨p, hp⟩ : ∃ p, p = s_writeSet (s_readSet (s_start (s_active o ((f_active o).set x.toInt.toNat 0)) ((f_start o).set x.toInt.toNat 0)) ((f_readSet o).set x.toInt.toNat 0)) ((f_writeSet o).set x.toInt.toNat 0) := ⟨_, rfl⟩
 rw [← hp]
 refine okP.loop (fun w => 0 ≤ w.1.toInt ∧ w.1.toInt ≤ 32 ∧ ∃ b : List Int32, b.length = 256 ∧ w.2 = s_buffered p b) (fun w => (32 - w.1.toInt).toNat) ⟨by show (0 : Int) ≤ 0; decide, by show (0 : Int) ≤ 32; decide, f_buffered o, h7, by rw [hp]; rfl⟩ (by show (32 - (0 : Int)).toNat < 4000; decide) ?_
 intro w ⟨a1, a2, b, a3, a4⟩
 unfold B20_35
 rw [a4]
 have e1 : (1 : Int32).toInt = 1 := rfl
 apply okP.ite
 ·intro c
  have c' : w.1.toInt < 32 := by rw [i_lt] at c; exact c
  have ej : (x * 32 + w.1).toInt = x.toInt * 32 + w.1.toInt := by rw [i_add (by omega) (by omega), e32]
  have e2 : (w.1 + 1).toInt = w.1.toInt + 1 := by rw [i_add (by omega) (by omega), e1]
  apply okP.bind
  refine okP.aset (by omega) (by show _ < (b.length : Int); omega) ?_
  apply okP.some
  refine ⟨⟨?_, ?_, (b.set (x * 32 + w.1).toInt.toNat 0), by rw [List.length_set]; exact a3, rfl⟩, ?_⟩
  ·show 0 ≤ (w.1 + 1).toInt; omega
  ·show (w.1 + 1).toInt ≤ 32; omega
  ·show (32 - (w.1 + 1).toInt).toNat < (32 - w.1.toInt).toNat; omega
 ·intro c
  apply okP.some
  show okP (some (s_buffered p b)) _
  apply okP.some
  exact ⟨b, a3, by rw [hp]; rfl⟩
theorem bufi {x y : Int32} (hx : 0 ≤ x.toInt) (hx8 : x.toInt < 8) (hy : 0 ≤ y.toInt) (hy32 : y.toInt < 32) : (x * 32 + y).toInt = x.toInt * 32 + y.toInt := by
 have e32 : (x * 32).toInt = x.toInt * 32 := i_mul (x := x) (y := 32) (by show _ ≤ x.toInt * 32; omega) (by show x.toInt * 32 < _; omega)
 rw [i_add (by omega) (by omega), e32]
theorem inc1 {x : Int32} (h : x.toInt < 2147483647) : (x + 1).toInt = x.toInt + 1 := by
 have := i_lo x
 have e1 : (1 : Int32).toInt = 1 := rfl
 rw [i_add (by omega) (by omega), e1]
theorem free_ok {K n : Int32} {o : Ob} (h : Sh K n o) (hn0 : 0 ≤ n.toInt) (hn : n.toInt ≤ 8) : okP (F18 o) (fun r => (r = -1 ∧ ∀ i : Nat, i < n.toInt.toNat → (f_active o)[i]? ≠ some 0) ∨ (0 ≤ r.toInt ∧ r.toInt < n.toInt ∧ (f_active o)[r.toInt.toNat]? = some 0)) := by
 obtain ⟨h1, h2, h3, h4, h5, h6, h7, h8, h9⟩ := h
 unfold F18
 apply okP.bind
 refine okP.loop (fun w => 0 ≤ w.toInt ∧ w.toInt ≤ n.toInt ∧ ∀ i : Nat, i < w.toInt.toNat → (f_active o)[i]? ≠ some 0) (fun w => (8 - w.toInt).toNat) ⟨by show (0 : Int) ≤ 0; decide, hn0, fun i hi => absurd hi (Nat.not_lt_zero _)⟩ (by show (8 - (0 : Int)).toNat < 4000; decide) ?_
 intro w ⟨a1, a2, a3⟩
 unfold B18_2
 rw [h9]
 repeat' with_reducible (first | apply okP.bind | apply okP.some | (apply okP.ite <;> intro _) | refine okP.aget ?_ ?_ (fun v hv => ?_) | refine okP.aset ?_ ?_ ?_)
 ·exact a1
 ·(simp only [i_lt, Int32.reduceToInt] at *; omega)
 ·rename_i c
  have : v = 0 := c
  subst this
  exact okP.some (Or.inr ⟨a1, by (simp only [i_lt, Int32.reduceToInt] at *; omega), hv⟩)
 ·rename_i c1 c2 c3
  have e2 : (w + 1).toInt = w.toInt + 1 := inc1 (by rw [i_lt] at c2; have : (8 : Int32).toInt = 8 := rfl; omega)
  rw [i_lt] at c1 c2
  have e8 : (8 : Int32).toInt = 8 := rfl
  refine ⟨⟨by omega, by omega, ?_⟩, by omega⟩
  intro i hi
  rw [e2] at hi
  by_cases hj : i < w.toInt.toNat
  ·exact a3 i hj
  ·have : i = w.toInt.toNat := by omega
   rw [this, hv]
   intro q
   exact c3 (Option.some.inj q)
 ·rename_i c1 c2
  exfalso
  rw [i_lt] at c1 c2
  have e8 : (8 : Int32).toInt = 8 := rfl
  omega
 ·rename_i c1
  apply okP.some
  refine Or.inl ⟨rfl, fun i hi => a3 i ?_⟩
  rw [i_lt] at c1
  omega
def opn (o : Ob) (x : Nat) (b : List Int32) : Ob := s_start (s_active (clr o x b) ((f_active (clr o x b)).set x 1)) ((f_start (clr o x b)).set x (f_commitCount (clr o x b)))
theorem Sh_opn {K n : Int32} {o : Ob} (h : Sh K n o) (x : Nat) {b : List Int32} (hb : b.length = 256) : Sh K n (opn o x b) := by
 have g := Sh_clr h x hb
 unfold opn
 obtain ⟨q, hq⟩ : ∃ q, q = clr o x b := ⟨_, rfl⟩
 rw [← hq] at g ⊢
 exact Sh_st (Sh_ac g (by rw [List.length_set]; exact g.2.2.1)) (by rw [List.length_set]; exact g.2.2.2.1)
theorem begin_ok {K n : Int32} {o : Ob} (h : Sh K n o) (hn0 : 0 ≤ n.toInt) (hn : n.toInt ≤ 8) : okP (F17 o) (fun r => (r = (-5, o) ∧ ∀ i : Nat, i < n.toInt.toNat → (f_active o)[i]? ≠ some 0) ∨ (0 ≤ r.1.toInt ∧ r.1.toInt < n.toInt ∧ (f_active o)[r.1.toInt.toNat]? = some 0 ∧ ∃ b : List Int32, b.length = 256 ∧ r.2 = opn o r.1.toInt.toNat b)) := by
 unfold F17
 apply okP.bind
 refine okP.mono (free_ok h hn0 hn) ?_
 rintro r (⟨rfl, q⟩ | ⟨q1, q2, q3⟩)
 ·rw [if_pos (by decide)]
  apply okP.some
  exact Or.inl ⟨rfl, q⟩
 ·rw [if_neg (by rw [i_lt]; show ¬ r.toInt < 0; omega)]
  apply okP.bind
  unfold F19
  apply okP.bind
  refine okP.mono (clear_ok h q1 (by omega)) ?_
  rintro _ ⟨b, hb, rfl⟩
  have g := Sh_clr h r.toInt.toNat hb
  repeat' with_reducible (first | apply okP.bind | apply okP.some | (apply okP.ite <;> intro _) | refine okP.aget ?_ ?_ (fun v hv => ?_) | refine okP.aset ?_ ?_ ?_)
  ·exact q1
  ·rw [g.2.2.1]; omega
  ·exact q1
  ·rw [g.2.2.2.1]; omega
  ·exact Or.inr ⟨q1, q2, q3, b, hb, rfl⟩
theorem read_ok {K n : Int32} {o : Ob} (h : Sh K n o) (hn : n.toInt ≤ 8) (hK : K.toInt ≤ 32) (x y : Int32) : okP (F16 o x y) (fun r => r.2 = o ∨ (0 ≤ x.toInt ∧ x.toInt < n.toInt ∧ ∃ w, r.2 = s_readSet o ((f_readSet o).set x.toInt.toNat w))) := by
 unfold F16
 apply okP.bind
 refine okP.mono (vtx h hn x) ?_
 rintro r (rfl | ⟨q0, q1, q2⟩)
 ·rw [if_pos rfl]; exact okP.some (Or.inl rfl)
 rw [if_neg q0]
 apply okP.bind
 refine okP.mono (vkey h hK y) ?_
 rintro r' (⟨rfl, _⟩ | ⟨q3, q4, q5⟩)
 ·rw [if_pos rfl]; exact okP.some (Or.inl rfl)
 rw [if_neg q3]
 obtain ⟨h1, h2, h3, h4, h5, h6, h7, h8, h9⟩ := h
 have eb := bufi q1 (by omega) q4 (by omega)
 unfold F21 F27
 repeat' with_reducible (first | apply okP.bind | apply okP.some | (apply okP.ite <;> intro _) | refine okP.aget ?_ ?_ (fun v hv => ?_) | refine okP.aset ?_ ?_ ?_)
 ·exact q1
 ·omega
 ·exact q1
 ·omega
 ·exact q1
 ·omega
 ·exact q4
 ·omega
 ·exact Or.inr ⟨q1, q2, _, rfl⟩
 ·omega
 ·omega
 ·exact Or.inl rfl
theorem write_ok {K n : Int32} {o : Ob} (h : Sh K n o) (hn : n.toInt ≤ 8) (hK : K.toInt ≤ 32) (x y z : Int32) : okP (F26 o x y z) (fun r => r.2 = o ∨ (0 ≤ x.toInt ∧ x.toInt < n.toInt ∧ ∃ w b, b.length = 256 ∧ r.2 = s_buffered (s_writeSet o ((f_writeSet o).set x.toInt.toNat w)) b)) := by
 unfold F26
 apply okP.bind
 refine okP.mono (vtx h hn x) ?_
 rintro r (rfl | ⟨q0, q1, q2⟩)
 ·rw [if_pos rfl]; exact okP.some (Or.inl rfl)
 rw [if_neg q0]
 apply okP.bind
 refine okP.mono (vkey h hK y) ?_
 rintro r' (⟨rfl, _⟩ | ⟨q3, q4, q5⟩)
 ·rw [if_pos rfl]; exact okP.some (Or.inl rfl)
 rw [if_neg q3]
 obtain ⟨h1, h2, h3, h4, h5, h6, h7, h8, h9⟩ := h
 have eb := bufi q1 (by omega) q4 (by omega)
 unfold F21 F27
 repeat' with_reducible (first | apply okP.bind | apply okP.some | (apply okP.ite <;> intro _) | refine okP.aget ?_ ?_ (fun v hv => ?_) | refine okP.aset ?_ ?_ ?_)
 ·exact q1
 ·omega
 ·exact q1
 ·omega
 ·omega
 ·omega
 ·exact Or.inr ⟨q1, q2, _, _, by rw [List.length_set]; exact h7, rfl⟩
theorem stale_ok {K n : Int32} {o : Ob} (h : Sh K n o) {x : Int32} (hx : 0 ≤ x.toInt) (hx8 : x.toInt < 8) : okP (F22 o x) (fun _ => True) := by
 obtain ⟨h1, h2, h3, h4, h5, h6, h7, h8, h9⟩ := h
 unfold F22
 repeat' with_reducible (first | apply okP.bind | apply okP.some | (apply okP.ite <;> intro _) | refine okP.aget ?_ ?_ (fun v hv => ?_) | refine okP.aset ?_ ?_ ?_)
 ·exact hx
 ·omega
 ·trivial
 ·trivial
theorem least_ok {K n : Int32} {o : Ob} (h : Sh K n o) (hK0 : 0 ≤ K.toInt) (hK : K.toInt ≤ 32) {x : Int32} (hx : 0 ≤ x.toInt) (hx8 : x.toInt < 8) : okP (F23 o x) (fun _ => True) := by
 obtain ⟨h1, h2, h3, h4, h5, h6, h7, h8, h9⟩ := h
 unfold F23
 repeat' with_reducible (first | apply okP.bind | apply okP.some | (apply okP.ite <;> intro _) | refine okP.aget ?_ ?_ (fun v hv => ?_) | refine okP.aset ?_ ?_ ?_)
 ·exact hx
 ·omega
 ·exact hx
 ·omega
 refine okP.loop (fun w => 0 ≤ w.toInt ∧ w.toInt ≤ 32) (fun w => (32 - w.toInt).toNat) ⟨by show (0 : Int) ≤ 0; decide, by show (0 : Int) ≤ 32; decide⟩ (by show (32 - (0 : Int)).toNat < 4000; decide) ?_
 intro w ⟨a1, a2⟩
 unfold B23_17 F21 J23_58
 rw [h8]
 have e32 : (32 : Int32).toInt = 32 := rfl
 have fin : w < 32 → Sum.elim (fun a => okP (some a) fun _ => True) (fun v' => (0 ≤ v'.toInt ∧ v'.toInt ≤ 32) ∧ (32 - v'.toInt).toNat < (32 - w.toInt).toNat) (Sum.inr (w + 1) : Int32 ⊕ Int32) := by
  intro c
  rw [i_lt, e32] at c
  have e2 : (w + 1).toInt = w.toInt + 1 := inc1 (by omega)
  exact ⟨⟨by omega, by omega⟩, by omega⟩
 repeat' with_reducible (first | apply okP.bind | apply okP.some | (apply okP.ite <;> intro _) | refine okP.aget ?_ ?_ (fun v hv => ?_) | refine okP.aset ?_ ?_ ?_)
 all_goals first | exact fin (by assumption) | exact okP.some trivial | exact a1 | (simp only [i_lt, Int32.reduceToInt] at *; omega)
theorem install_ok {K n : Int32} {o : Ob} (h : Sh K n o) (hK0 : 0 ≤ K.toInt) (hK : K.toInt ≤ 32) {x : Int32} (hx : 0 ≤ x.toInt) (hx8 : x.toInt < 8) (Q : List Int32 → List Int32 → Prop) (hQ0 : Q (f_value o) (f_version o)) (hQ : ∀ va ve i y, va.length = 32 → ve.length = 32 → i < 32 → Q va ve → Q (va.set i y) (ve.set i (f_commitCount o + 1))) : okP (F24 o x) (fun r => r.1 = f_commitCount o + 1 ∧ ∃ va ve b, Q va ve ∧ va.length = 32 ∧ ve.length = 32 ∧ b.length = 256 ∧ r.2 = s_lastConflict (clr (s_version (s_value (s_commitCount o (f_commitCount o + 1)) va) ve) x.toInt.toNat b) (-1)) := by
 unfold F24
 obtain ⟨c, hc⟩ : ∃ c, c = f_commitCount o + 1 := ⟨_, rfl⟩
 rw [← hc] at hQ ⊢
 obtain ⟨p, hp⟩ : ∃ p, p = s_commitCount o c := ⟨_, rfl⟩
 rw [← hp]
 have g : Sh K n p := by rw [hp]; exact h
 have gv : f_value p = f_value o := by rw [hp]; rfl
 have gw : f_version p = f_version o := by rw [hp]; rfl
 obtain ⟨h1, h2, h3, h4, h5, h6, h7, h8, h9⟩ := h
 apply okP.bind
 refine okP.aget hx (by omega) (fun y hy => ?_)
 apply okP.bind
 refine okP.loop (fun w => 0 ≤ w.1.toInt ∧ w.1.toInt ≤ 32 ∧ ∃ va ve, Q va ve ∧ va.length = 32 ∧ ve.length = 32 ∧ w.2 = s_version (s_value p va) ve) (fun w => (32 - w.1.toInt).toNat) ⟨by show (0 : Int) ≤ 0; decide, by show (0 : Int) ≤ 32; decide, f_value o, f_version o, hQ0, h1, h2, by rw [← gv, ← gw]; rfl⟩ (by show (32 - (0 : Int)).toNat < 4000; decide) ?_
 intro w ⟨a1, a2, va, ve, a3, a4, a5, a6⟩
 unfold B24_25 F21 J24_79
 rw [a6]
 have g8 : f_keyCount (s_version (s_value p va) ve) = K := g.2.2.2.2.2.2.2.1
 have gb : (f_buffered (s_version (s_value p va) ve)).length = 256 := g.2.2.2.2.2.2.1
 rw [g8]
 have e32 : (32 : Int32).toInt = 32 := rfl
 have exi : okP (some (s_version (s_value p va) ve)) fun a => okP (J24_85 a x c) fun r => r.1 = c ∧ ∃ va ve b, Q va ve ∧ va.length = 32 ∧ ve.length = 32 ∧ b.length = 256 ∧ r.2 = s_lastConflict (clr (s_version (s_value p va) ve) x.toInt.toNat b) (-1) := by
  apply okP.some
  unfold J24_85 F25
  have g2 : Sh K n (s_version (s_value p va) ve) := Sh_ve (Sh_va g a4) a5
  apply okP.bind
  apply okP.bind
  refine okP.mono (clear_ok g2 hx hx8) ?_
  rintro _ ⟨b, hb, rfl⟩
  apply okP.some
  apply okP.some
  exact ⟨rfl, va, ve, b, a3, a4, a5, hb, rfl⟩
 obtain ⟨_, he, exi⟩ := exi
 cases he
 apply okP.ite
 ·intro c1
  apply okP.ite
  ·intro c2
   rw [i_lt, e32] at c2
   have e2 : (w.1 + 1).toInt = w.1.toInt + 1 := inc1 (by omega)
   have ej := bufi hx hx8 a1 c2
   apply okP.bind
   apply okP.some
   apply okP.ite
   ·intro _
    apply okP.some
    exact ⟨⟨by show 0 ≤ (w.1 + 1).toInt; omega, by show (w.1 + 1).toInt ≤ 32; omega, va, ve, a3, a4, a5, rfl⟩, by show (32 - (w.1 + 1).toInt).toNat < (32 - w.1.toInt).toNat; omega⟩
   ·intro _
    unfold F27
    apply okP.bind
    apply okP.some
    apply okP.bind
    refine okP.aget (by omega) (by omega) (fun v hv => ?_)
    apply okP.bind
    refine okP.aset a1 (by show _ < (va.length : Int); omega) ?_
    apply okP.bind
    refine okP.aset a1 (by show _ < (ve.length : Int); omega) ?_
    apply okP.some
    refine ⟨⟨by show 0 ≤ (w.1 + 1).toInt; omega, by show (w.1 + 1).toInt ≤ 32; omega, va.set w.1.toInt.toNat v, ve.set w.1.toInt.toNat c, hQ _ _ _ _ a4 a5 (by omega) a3, by rw [List.length_set]; exact a4, by rw [List.length_set]; exact a5, rfl⟩, by show (32 - (w.1 + 1).toInt).toNat < (32 - w.1.toInt).toNat; omega⟩
  ·intro c2
   exact okP.some exi
 ·intro c1
  exact okP.some exi
theorem commit_ok {K n : Int32} {o : Ob} (h : Sh K n o) (hn : n.toInt ≤ 8) (hK0 : 0 ≤ K.toInt) (hK : K.toInt ≤ 32) (x : Int32) (Q : List Int32 → List Int32 → Prop) (hQ0 : Q (f_value o) (f_version o)) (hQ : ∀ va ve i y, va.length = 32 → ve.length = 32 → i < 32 → Q va ve → Q (va.set i y) (ve.set i (f_commitCount o + 1))) : okP (F10 o x) (fun r => (F4 o x = some 0 ∧ r = (-1, o)) ∨ (0 ≤ x.toInt ∧ x.toInt < n.toInt ∧ (∃ w, w ≠ 0 ∧ F4 o x = some w) ∧ ((∃ va ve b, Q va ve ∧ va.length = 32 ∧ ve.length = 32 ∧ b.length = 256 ∧ r = (f_commitCount o + 1, s_lastConflict (clr (s_version (s_value (s_commitCount o (f_commitCount o + 1)) va) ve) x.toInt.toNat b) (-1))) ∨ ∃ b k, b.length = 256 ∧ r.2 = s_lastConflict (s_abortCount (clr o x.toInt.toNat b) (f_abortCount o + 1)) k))) := by
 unfold F10
 apply okP.bind
 obtain ⟨w, hw, q⟩ := vtx h hn x
 refine okP.of hw ?_
 rcases q with rfl | ⟨q0, q1, q2⟩
 ·rw [if_pos rfl]; exact okP.some (Or.inl ⟨hw, rfl⟩)
 rw [if_neg q0]
 have q8 : x.toInt < 8 := by omega
 have fail : ∀ k c : Int32, okP (F30 o x k c) (fun r => ∃ b k, b.length = 256 ∧ r.2 = s_lastConflict (s_abortCount (clr o x.toInt.toNat b) (f_abortCount o + 1)) k) := by
  intro k c
  unfold F30 F25
  apply okP.bind
  apply okP.bind
  refine okP.mono (clear_ok h q1 q8) ?_
  rintro _ ⟨b, hb, rfl⟩
  apply okP.some
  apply okP.some
  exact ⟨b, k, hb, rfl⟩
 apply okP.bind
 refine okP.mono (stale_ok h q1 q8) (fun r1 _ => ?_)
 apply okP.ite <;> intro _
 ·apply okP.bind
  refine okP.mono (least_ok h hK0 hK q1 q8) (fun r2 _ => ?_)
  apply okP.ite <;> intro _
  ·apply okP.bind
   refine okP.mono (install_ok h hK0 hK q1 q8 Q hQ0 hQ) ?_
   rintro r ⟨e, va, ve, b, e1, e2, e3, e4, e5⟩
   apply okP.some
   exact Or.inr ⟨q1, q2, ⟨w, q0, hw⟩, Or.inl ⟨va, ve, b, e1, e2, e3, e4, by rw [e, e5]⟩⟩
  ·apply okP.bind
   refine okP.mono (fail _ _) (fun r hr => okP.some (Or.inr ⟨q1, q2, ⟨w, q0, hw⟩, Or.inr hr⟩))
 ·apply okP.bind
  refine okP.mono (fail _ _) (fun r hr => okP.some (Or.inr ⟨q1, q2, ⟨w, q0, hw⟩, Or.inr hr⟩))
theorem abort_ok {K n : Int32} {o : Ob} (h : Sh K n o) (hn : n.toInt ≤ 8) (x : Int32) : okP (F29 o x) (fun r => (F4 o x = some 0 ∧ r = (-1, o)) ∨ (0 ≤ x.toInt ∧ x.toInt < n.toInt ∧ (∃ w, w ≠ 0 ∧ F4 o x = some w) ∧ ∃ b, b.length = 256 ∧ r = (0, s_abortCount (clr o x.toInt.toNat b) (f_abortCount o + 1)))) := by
 unfold F29
 apply okP.bind
 obtain ⟨w, hw, q⟩ := vtx h hn x
 refine okP.of hw ?_
 rcases q with rfl | ⟨q0, q1, q2⟩
 ·rw [if_pos rfl]; exact okP.some (Or.inl ⟨hw, rfl⟩)
 rw [if_neg q0]
 have q8 : x.toInt < 8 := by omega
 unfold F25
 apply okP.bind
 apply okP.bind
 refine okP.mono (clear_ok h q1 q8) ?_
 rintro _ ⟨b, hb, rfl⟩
 apply okP.some
 apply okP.some
 exact Or.inr ⟨q1, q2, ⟨w, q0, hw⟩, b, hb, rfl⟩
theorem getValue_ok {K n : Int32} {o : Ob} (h : Sh K n o) (hK : K.toInt ≤ 32) (x : Int32) : okP (F7 o x) (fun _ => True) := by
 unfold F7
 apply okP.bind
 refine okP.mono (vkey h hK x) ?_
 rintro r (⟨rfl, _⟩ | ⟨q3, q4, q5⟩)
 ·rw [if_pos rfl]; exact okP.some trivial
 rw [if_neg q3]
 have := h.1
 repeat' with_reducible (first | apply okP.bind | apply okP.some | (apply okP.ite <;> intro _) | refine okP.aget ?_ ?_ (fun v hv => ?_) | refine okP.aset ?_ ?_ ?_)
 ·exact q4
 ·omega
 ·trivial
theorem getVersion_ok {K n : Int32} {o : Ob} (h : Sh K n o) (hK : K.toInt ≤ 32) (x : Int32) : okP (F28 o x) (fun _ => True) := by
 unfold F28
 apply okP.bind
 refine okP.mono (vkey h hK x) ?_
 rintro r (⟨rfl, _⟩ | ⟨q3, q4, q5⟩)
 ·rw [if_pos rfl]; exact okP.some trivial
 rw [if_neg q3]
 have := h.2.1
 repeat' with_reducible (first | apply okP.bind | apply okP.some | (apply okP.ite <;> intro _) | refine okP.aget ?_ ?_ (fun v hv => ?_) | refine okP.aset ?_ ?_ ?_)
 ·exact q4
 ·omega
 ·trivial
theorem getStart_ok {K n : Int32} {o : Ob} (h : Sh K n o) (hn : n.toInt ≤ 8) (x : Int32) : okP (F15 o x) (fun _ => True) := by
 unfold F15
 apply okP.bind
 refine okP.mono (vtx h hn x) ?_
 rintro r (rfl | ⟨q3, q4, q5⟩)
 ·rw [if_pos rfl]; exact okP.some trivial
 rw [if_neg q3]
 have := h.2.2.2.1
 repeat' with_reducible (first | apply okP.bind | apply okP.some | (apply okP.ite <;> intro _) | refine okP.aget ?_ ?_ (fun v hv => ?_) | refine okP.aset ?_ ?_ ?_)
 ·exact q4
 ·omega
 ·trivial
theorem getReadSet_ok {K n : Int32} {o : Ob} (h : Sh K n o) (hn : n.toInt ≤ 8) (x : Int32) : okP (F3 o x) (fun _ => True) := by
 unfold F3
 apply okP.bind
 refine okP.mono (vtx h hn x) ?_
 rintro r (rfl | ⟨q3, q4, q5⟩)
 ·rw [if_pos rfl]; exact okP.some trivial
 rw [if_neg q3]
 have := h.2.2.2.2.1
 repeat' with_reducible (first | apply okP.bind | apply okP.some | (apply okP.ite <;> intro _) | refine okP.aget ?_ ?_ (fun v hv => ?_) | refine okP.aset ?_ ?_ ?_)
 ·exact q4
 ·omega
 ·trivial
theorem getWriteSet_ok {K n : Int32} {o : Ob} (h : Sh K n o) (hn : n.toInt ≤ 8) (x : Int32) : okP (F5 o x) (fun _ => True) := by
 unfold F5
 apply okP.bind
 refine okP.mono (vtx h hn x) ?_
 rintro r (rfl | ⟨q3, q4, q5⟩)
 ·rw [if_pos rfl]; exact okP.some trivial
 rw [if_neg q3]
 have := h.2.2.2.2.2.1
 repeat' with_reducible (first | apply okP.bind | apply okP.some | (apply okP.ite <;> intro _) | refine okP.aget ?_ ?_ (fun v hv => ?_) | refine okP.aset ?_ ?_ ?_)
 ·exact q4
 ·omega
 ·trivial
theorem getBuffered_ok {K n : Int32} {o : Ob} (h : Sh K n o) (hn : n.toInt ≤ 8) (hK : K.toInt ≤ 32) (x y : Int32) : okP (F6 o x y) (fun _ => True) := by
 unfold F6
 apply okP.bind
 refine okP.mono (vtx h hn x) ?_
 rintro r (rfl | ⟨q3, q4, q5⟩)
 ·rw [if_pos rfl]; exact okP.some trivial
 rw [if_neg q3]
 apply okP.bind
 refine okP.mono (vkey h hK y) ?_
 rintro r' (⟨rfl, _⟩ | ⟨q6, q7, q8⟩)
 ·rw [if_pos rfl]; exact okP.some trivial
 rw [if_neg q6]
 have := h.2.2.2.2.2.1
 have := h.2.2.2.2.2.2.1
 have eb := bufi q4 (by omega) q7 (by omega)
 unfold F21 F27
 repeat' with_reducible (first | apply okP.bind | apply okP.some | (apply okP.ite <;> intro _) | refine okP.aget ?_ ?_ (fun v hv => ?_) | refine okP.aset ?_ ?_ ?_)
 ·exact q4
 ·omega
 ·trivial
 ·omega
 ·omega
 ·trivial
theorem vtx1 {K n : Int32} {o : Ob} (h : Sh K n o) (hn : n.toInt ≤ 8) (x : Int32) : F4 o x = some 0 ∨ F4 o x = some 1 := by
 obtain ⟨h1, h2, h3, h4, h5, h6, h7, h8, h9⟩ := h
 have : okP (F4 o x) (fun r => r = 0 ∨ r = 1) := by
  unfold F4
  rw [h9]
  repeat' with_reducible (first | apply okP.bind | apply okP.some | (apply okP.ite <;> intro _) | refine okP.aget ?_ ?_ (fun v hv => ?_) | refine okP.aset ?_ ?_ ?_)
  ·exact Or.inl rfl
  ·(simp only [i_lt, Int32.reduceToInt] at *; omega)
  ·(simp only [i_lt, Int32.reduceToInt] at *; omega)
  ·exact and1 v
  ·exact Or.inl rfl
  ·exact Or.inl rfl
 obtain ⟨r, e, rfl | rfl⟩ := this
 ·exact Or.inl e
 ·exact Or.inr e
theorem read_ref {K n : Int32} {o : Ob} (h : Sh K n o) (hn : n.toInt ≤ 8) (hK : K.toInt ≤ 32) {x y : Int32} (hr : F4 o x = some 0 ∨ ¬ (0 ≤ y.toInt ∧ y.toInt < K.toInt)) : F16 o x y = some (0, o) := by
 unfold F16
 rcases vtx1 h hn x with e | e
 ·rw [e]; rfl
 ·rcases hr with q | q
  ·rw [q] at e; cases e
  ·obtain ⟨r, e2, ⟨rfl, _⟩ | ⟨_, q2⟩⟩ := vkey h hK y
   ·rw [e, e2]; rfl
   ·exact absurd q2 q
theorem write_ref {K n : Int32} {o : Ob} (h : Sh K n o) (hn : n.toInt ≤ 8) (hK : K.toInt ≤ 32) {x y z : Int32} (hr : F4 o x = some 0 ∨ ¬ (0 ≤ y.toInt ∧ y.toInt < K.toInt)) : ∃ r, F26 o x y z = some (r, o) := by
 unfold F26
 rcases vtx1 h hn x with e | e
 ·rw [e]; exact ⟨_, rfl⟩
 ·rcases hr with q | q
  ·rw [q] at e; cases e
  ·obtain ⟨r, e2, ⟨rfl, _⟩ | ⟨_, q2⟩⟩ := vkey h hK y
   ·rw [e, e2]; exact ⟨_, rfl⟩
   ·exact absurd q2 q

def hb (w : Int32) (k : Nat) : Prop := ¬ (w &&& ((1 : Int32) <<< (Int32.ofNat k &&& 31))) = 0
theorem ofn {x : Int32} (h : 0 ≤ x.toInt) : Int32.ofNat x.toInt.toNat = x := by
 have e : Int32.ofNat x.toInt.toNat = Int32.ofInt (x.toInt.toNat : Int) := rfl
 rw [e, Int.toNat_of_nonneg h, Int32.ofInt_toInt]
theorem install_ex {K n : Int32} {o : Ob} (h : Sh K n o) (hK0 : 0 ≤ K.toInt) (hK : K.toInt ≤ 32) {x w : Int32} (hx : 0 ≤ x.toInt) (hx8 : x.toInt < 8) (hw : (f_writeSet o)[x.toInt.toNat]? = some w) : okP (F24 o x) (fun r => ∃ va ve b, va.length = 32 ∧ ve.length = 32 ∧ b.length = 256 ∧ r = (f_commitCount o + 1, s_lastConflict (clr (s_version (s_value (s_commitCount o (f_commitCount o + 1)) va) ve) x.toInt.toNat b) (-1)) ∧ ∀ k, k < 32 → (k < K.toInt.toNat → hb w k → va[k]? = (f_buffered o)[x.toInt.toNat * 32 + k]? ∧ ve[k]? = some (f_commitCount o + 1)) ∧ (¬ (k < K.toInt.toNat ∧ hb w k) → va[k]? = (f_value o)[k]? ∧ ve[k]? = (f_version o)[k]?)) := by
 unfold F24
 obtain ⟨c, hc⟩ : ∃ c, c = f_commitCount o + 1 := ⟨_, rfl⟩
 rw [← hc]
 obtain ⟨p, hp⟩ : ∃ p, p = s_commitCount o c := ⟨_, rfl⟩
 rw [← hp]
 have g : Sh K n p := by rw [hp]; exact h
 have gv : f_value p = f_value o := by rw [hp]; rfl
 have gw : f_version p = f_version o := by rw [hp]; rfl
 have gbf : f_buffered p = f_buffered o := by rw [hp]; rfl
 obtain ⟨h1, h2, h3, h4, h5, h6, h7, h8, h9⟩ := h
 apply okP.bind
 refine okP.aget hx (by omega) (fun y hy => ?_)
 have ey : y = w := by rw [hw] at hy; exact (Option.some.inj hy).symm
 subst ey
 apply okP.bind
 have e32 : (32 : Int32).toInt = 32 := rfl
 have lp : okP (loopN (B24_25 x c y) qN (0, p)) (fun q => ∃ va ve, va.length = 32 ∧ ve.length = 32 ∧ q = s_version (s_value p va) ve ∧ ∀ k, k < 32 → (k < K.toInt.toNat → hb y k → va[k]? = (f_buffered o)[x.toInt.toNat * 32 + k]? ∧ ve[k]? = some c) ∧ (¬ (k < K.toInt.toNat ∧ hb y k) → va[k]? = (f_value o)[k]? ∧ ve[k]? = (f_version o)[k]?)) := by
  refine okP.loop (fun w => 0 ≤ w.1.toInt ∧ w.1.toInt ≤ 32 ∧ ∃ va ve, va.length = 32 ∧ ve.length = 32 ∧ w.2 = s_version (s_value p va) ve ∧ ∀ k, k < 32 → (k < w.1.toInt.toNat → k < K.toInt.toNat → hb y k → va[k]? = (f_buffered o)[x.toInt.toNat * 32 + k]? ∧ ve[k]? = some c) ∧ (¬ (k < w.1.toInt.toNat ∧ k < K.toInt.toNat ∧ hb y k) → va[k]? = (f_value o)[k]? ∧ ve[k]? = (f_version o)[k]?)) (fun w => (32 - w.1.toInt).toNat) ⟨by show (0 : Int) ≤ 0; decide, by show (0 : Int) ≤ 32; decide, f_value o, f_version o, h1, h2, by rw [← gv, ← gw]; rfl, fun k _ => ⟨fun q => absurd q (Nat.not_lt_zero _), fun _ => ⟨rfl, rfl⟩⟩⟩ (by show (32 - (0 : Int)).toNat < 4000; decide) ?_
  rintro ⟨w, q⟩ ⟨a1, a2, va, ve, a4, a5, a6, a7⟩
  simp only at a1 a2 a6 a7
  subst a6
  unfold B24_25 F21 J24_79
  have g8 : f_keyCount (s_version (s_value p va) ve) = K := g.2.2.2.2.2.2.2.1
  have gb : f_buffered (s_version (s_value p va) ve) = f_buffered o := gbf
  simp only
  rw [g8]
  have done : K.toInt ≤ w.toInt → ∃ va' ve', va'.length = 32 ∧ ve'.length = 32 ∧ s_version (s_value p va) ve = s_version (s_value p va') ve' ∧ ∀ k, k < 32 → (k < K.toInt.toNat → hb y k → va'[k]? = (f_buffered o)[x.toInt.toNat * 32 + k]? ∧ ve'[k]? = some c) ∧ (¬ (k < K.toInt.toNat ∧ hb y k) → va'[k]? = (f_value o)[k]? ∧ ve'[k]? = (f_version o)[k]?) := by
   intro kw
   refine ⟨va, ve, a4, a5, rfl, fun k hk => ⟨fun q1 q2 => (a7 k hk).1 (by omega) q1 q2, fun q => (a7 k hk).2 (fun z => q z.2)⟩⟩
  apply okP.ite
  ·intro c1
   rw [i_lt] at c1
   apply okP.ite
   ·intro c2
    rw [i_lt, e32] at c2
    have e2 : (w + 1).toInt = w.toInt + 1 := inc1 (by omega)
    have en : (w + 1).toInt.toNat = w.toInt.toNat + 1 := by omega
    have ej := bufi hx hx8 a1 c2
    have hbw : hb y w.toInt.toNat ↔ ¬ (y &&& ((1 : Int32) <<< (w &&& 31))) = 0 := by unfold hb; rw [ofn a1]
    apply okP.bind
    apply okP.some
    apply okP.ite
    ·intro z
     apply okP.some
     refine ⟨⟨by simp only; omega, by simp only; omega, va, ve, a4, a5, rfl, fun k hk => ⟨fun q1 q2 q3 => ?_, fun q => (a7 k hk).2 (fun z' => q ⟨by simp only; omega, z'.2⟩)⟩⟩, by simp only; omega⟩
     simp only at q1
     refine (a7 k hk).1 ?_ q2 q3
     by_cases e : k = w.toInt.toNat
     ·rw [e] at q3; exact absurd z (hbw.mp q3)
     ·omega
    ·intro z
     unfold F27
     apply okP.bind
     apply okP.some
     rw [gb]
     apply okP.bind
     refine okP.aget (by omega) (by omega) (fun v hv => ?_)
     have ev : (x * 32 + w).toInt.toNat = x.toInt.toNat * 32 + w.toInt.toNat := by omega
     rw [ev] at hv
     apply okP.bind
     refine okP.aset a1 (by show _ < (va.length : Int); omega) ?_
     apply okP.bind
     refine okP.aset a1 (by show _ < (ve.length : Int); omega) ?_
     apply okP.some
     refine ⟨⟨by simp only; omega, by simp only; omega, va.set w.toInt.toNat v, ve.set w.toInt.toNat c, by rw [List.length_set]; exact a4, by rw [List.length_set]; exact a5, rfl, fun k hk => ?_⟩, by simp only; omega⟩
     simp only [List.getElem?_set]
     by_cases e : w.toInt.toNat = k
     ·rw [if_pos e, if_pos e, if_pos (by omega), if_pos (by omega)]
      refine ⟨fun _ _ _ => ⟨by rw [← e]; exact hv.symm, rfl⟩, fun q => absurd ⟨by omega, by omega, ?_⟩ q⟩
      rw [← e]; exact hbw.mpr z
     ·rw [if_neg e, if_neg e]
      exact ⟨fun q1 q2 q3 => (a7 k hk).1 (by omega) q2 q3, fun q => (a7 k hk).2 (fun z' => q ⟨by omega, z'.2⟩)⟩
   ·intro c2
    rw [i_lt, e32] at c2
    exact okP.some (done (by omega))
  ·intro c1
   rw [i_lt] at c1
   exact okP.some (done (by omega))
 refine okP.mono lp ?_
 rintro _ ⟨va, ve, a4, a5, rfl, a7⟩
 unfold J24_85 F25
 have g2 : Sh K n (s_version (s_value p va) ve) := Sh_ve (Sh_va g a4) a5
 apply okP.bind
 apply okP.bind
 refine okP.mono (clear_ok g2 hx hx8) ?_
 rintro _ ⟨b, hb', rfl⟩
 apply okP.some
 apply okP.some
 exact ⟨va, ve, b, a4, a5, hb', rfl, a7⟩
theorem least_ex {K n : Int32} {o : Ob} (h : Sh K n o) (hK0 : 0 ≤ K.toInt) (hK : K.toInt ≤ 32) {x rs st : Int32} (hx : 0 ≤ x.toInt) (hx8 : x.toInt < 8) (hr : (f_readSet o)[x.toInt.toNat]? = some rs) (hs : (f_start o)[x.toInt.toNat]? = some st) : okP (F23 o x) (fun r => (r = -1 ∧ ∀ k, k < K.toInt.toNat → hb rs k → ∀ v, (f_version o)[k]? = some v → v.toInt ≤ st.toInt) ∨ (0 ≤ r.toInt ∧ r.toInt < K.toInt ∧ hb rs r.toInt.toNat ∧ (∃ v, (f_version o)[r.toInt.toNat]? = some v ∧ st.toInt < v.toInt) ∧ ∀ k, k < r.toInt.toNat → hb rs k → ∀ v, (f_version o)[k]? = some v → v.toInt ≤ st.toInt)) := by
 obtain ⟨h1, h2, h3, h4, h5, h6, h7, h8, h9⟩ := h
 unfold F23
 apply okP.bind
 refine okP.aget hx (by omega) (fun y hy => ?_)
 have ey : y = rs := by rw [hr] at hy; exact (Option.some.inj hy).symm
 subst ey
 apply okP.bind
 refine okP.aget hx (by omega) (fun z hz => ?_)
 have ez : z = st := by rw [hs] at hz; exact (Option.some.inj hz).symm
 subst ez
 apply okP.bind
 have e32 : (32 : Int32).toInt = 32 := rfl
 refine okP.loop (fun w => 0 ≤ w.toInt ∧ w.toInt ≤ K.toInt ∧ ∀ k, k < w.toInt.toNat → hb y k → ∀ v, (f_version o)[k]? = some v → v.toInt ≤ z.toInt) (fun w => (32 - w.toInt).toNat) ⟨by show (0 : Int) ≤ 0; decide, hK0, fun k hk => absurd hk (Nat.not_lt_zero _)⟩ (by show (32 - (0 : Int)).toNat < 4000; decide) ?_
 intro w ⟨a1, a2, a3⟩
 unfold B23_17 F21 J23_58
 rw [h8]
 apply okP.ite
 ·intro c1
  rw [i_lt] at c1
  rw [if_pos (by rw [i_lt, e32]; omega)]
  simp only [Option.bind_some]
  have e2 : (w + 1).toInt = w.toInt + 1 := inc1 (by omega)
  have hbw : hb y w.toInt.toNat ↔ ¬ (y &&& ((1 : Int32) <<< (w &&& 31))) = 0 := by unfold hb; rw [ofn a1]
  have nx : (hb y w.toInt.toNat → ∀ v, (f_version o)[w.toInt.toNat]? = some v → v.toInt ≤ z.toInt) → Sum.elim (fun a => okP (some a) fun r => (r = -1 ∧ ∀ k, k < K.toInt.toNat → hb y k → ∀ v, (f_version o)[k]? = some v → v.toInt ≤ z.toInt) ∨ (0 ≤ r.toInt ∧ r.toInt < K.toInt ∧ hb y r.toInt.toNat ∧ (∃ v, (f_version o)[r.toInt.toNat]? = some v ∧ z.toInt < v.toInt) ∧ ∀ k, k < r.toInt.toNat → hb y k → ∀ v, (f_version o)[k]? = some v → v.toInt ≤ z.toInt)) (fun v' => (0 ≤ v'.toInt ∧ v'.toInt ≤ K.toInt ∧ ∀ k, k < v'.toInt.toNat → hb y k → ∀ v, (f_version o)[k]? = some v → v.toInt ≤ z.toInt) ∧ (32 - v'.toInt).toNat < (32 - w.toInt).toNat) (Sum.inr (w + 1) : Int32 ⊕ Int32) := by
   intro q
   refine ⟨⟨by omega, by omega, fun k hk => ?_⟩, by omega⟩
   by_cases e : k = w.toInt.toNat
   ·rw [e]; exact q
   ·exact a3 k (by omega)
  apply okP.ite
  ·intro z0
   apply okP.some
   exact nx (fun q => absurd z0 (hbw.mp q))
  ·intro z0
   apply okP.bind
   refine okP.aget a1 (by omega) (fun v hv => ?_)
   apply okP.ite
   ·intro lt
    rw [i_lt] at lt
    apply okP.some
    exact okP.some (Or.inr ⟨a1, c1, hbw.mpr z0, ⟨v, hv, lt⟩, a3⟩)
   ·intro lt
    rw [i_lt] at lt
    apply okP.some
    refine nx (fun _ v' hv' => ?_)
    rw [hv] at hv'
    cases hv'
    omega
 ·intro c1
  rw [i_lt] at c1
  apply okP.some
  exact okP.some (Or.inl ⟨rfl, fun k hk => a3 k (by omega)⟩)

theorem g0 {l : List Int32} {x v : Int32} (h0 : 0 ≤ x.toInt) (h : l[x.toInt.toNat]? = some v) : aget l x = some v := by
 unfold aget
 rw [if_neg (by rw [i_lt]; show ¬ x.toInt < 0; omega)]
 exact h
def bv (act : Int32) (k : Nat) : Int32 := (act >>> (Int32.ofNat k &&& 31)) &&& 1
def pk (s0 s1 s2 s3 : Int32) (k : Nat) : Int32 := if k = 0 then s0 else if k = 1 then s1 else if k = 2 then s2 else s3
theorem bv01 (a : Int32) (k : Nat) : bv a k = 0 ∨ bv a k = 1 := and1 _
theorem bv_at {a x : Int32} (x0 : 0 ≤ x.toInt) : (a >>> (x &&& 31)) &&& 1 = bv a x.toInt.toNat := by unfold bv; rw [ofn x0]
theorem or_act {a x : Int32} (a0 : 0 ≤ a.toInt) (a1 : a.toInt ≤ 15) (x0 : 0 ≤ x.toInt) (x1 : x.toInt < 4) : (0 ≤ (a ||| ((1 : Int32) <<< (x &&& 31))).toInt ∧ (a ||| ((1 : Int32) <<< (x &&& 31))).toInt ≤ 15) ∧ ∀ k, k < 4 → bv (a ||| ((1 : Int32) <<< (x &&& 31))) k = if k = x.toInt.toNat then 1 else bv a k := by
 have h1 : ∀ i, i < 16 → ∀ j, j < 4 → (0 ≤ (Int32.ofInt (i : Nat) ||| ((1 : Int32) <<< (Int32.ofInt (j : Nat) &&& 31))).toInt ∧ (Int32.ofInt (i : Nat) ||| ((1 : Int32) <<< (Int32.ofInt (j : Nat) &&& 31))).toInt ≤ 15) := by decide +kernel
 have h2 : ∀ i, i < 16 → ∀ j, j < 4 → ∀ k, k < 4 → ((Int32.ofInt (i : Nat) ||| ((1 : Int32) <<< (Int32.ofInt (j : Nat) &&& 31))) >>> (Int32.ofNat k &&& 31)) &&& 1 = if k = j then 1 else (Int32.ofInt (i : Nat) >>> (Int32.ofNat k &&& 31)) &&& 1 := by decide +kernel
 have t1 := h1 a.toInt.toNat (by omega) x.toInt.toNat (by omega)
 have t2 := h2 a.toInt.toNat (by omega) x.toInt.toNat (by omega)
 rw [Int.toNat_of_nonneg a0, Int32.ofInt_toInt, Int.toNat_of_nonneg x0, Int32.ofInt_toInt] at t1 t2
 exact ⟨t1, t2⟩
theorem cl_act {a x : Int32} (a0 : 0 ≤ a.toInt) (a1 : a.toInt ≤ 15) (x0 : 0 ≤ x.toInt) (x1 : x.toInt < 4) : (0 ≤ (a &&& (((1 : Int32) <<< (x &&& 31)) ^^^ (-1))).toInt ∧ (a &&& (((1 : Int32) <<< (x &&& 31)) ^^^ (-1))).toInt ≤ 15) ∧ ∀ k, k < 4 → bv (a &&& (((1 : Int32) <<< (x &&& 31)) ^^^ (-1))) k = if k = x.toInt.toNat then 0 else bv a k := by
 have h1 : ∀ i, i < 16 → ∀ j, j < 4 → (0 ≤ (Int32.ofInt (i : Nat) &&& (((1 : Int32) <<< (Int32.ofInt (j : Nat) &&& 31)) ^^^ (-1))).toInt ∧ (Int32.ofInt (i : Nat) &&& (((1 : Int32) <<< (Int32.ofInt (j : Nat) &&& 31)) ^^^ (-1))).toInt ≤ 15) := by decide +kernel
 have h2 : ∀ i, i < 16 → ∀ j, j < 4 → ∀ k, k < 4 → ((Int32.ofInt (i : Nat) &&& (((1 : Int32) <<< (Int32.ofInt (j : Nat) &&& 31)) ^^^ (-1))) >>> (Int32.ofNat k &&& 31)) &&& 1 = if k = j then 0 else (Int32.ofInt (i : Nat) >>> (Int32.ofNat k &&& 31)) &&& 1 := by decide +kernel
 have t1 := h1 a.toInt.toNat (by omega) x.toInt.toNat (by omega)
 have t2 := h2 a.toInt.toNat (by omega) x.toInt.toNat (by omega)
 rw [Int.toNat_of_nonneg a0, Int32.ofInt_toInt, Int.toNat_of_nonneg x0, Int32.ofInt_toInt] at t1 t2
 exact ⟨t1, t2⟩
theorem hb_shr {x : Int32} (x0 : 0 ≤ x.toInt) (x1 : x.toInt ≤ 255) {k : Int32} (k0 : 0 ≤ k.toInt) (k1 : k.toInt < 8) : ((x >>> (k &&& 31)) &&& 1 = 1) ↔ hb x k.toInt.toNat := by
 have : ∀ i, i < 256 → ∀ k, k < 8 → (((Int32.ofInt (i : Nat) >>> (Int32.ofNat k &&& 31)) &&& 1 = 1) ↔ ¬ (Int32.ofInt (i : Nat) &&& ((1 : Int32) <<< (Int32.ofNat k &&& 31)) = 0)) := by decide +kernel
 have t := this x.toInt.toNat (by omega) k.toInt.toNat (by omega)
 rw [Int.toNat_of_nonneg x0, Int32.ofInt_toInt] at t
 unfold hb
 rw [← t, ofn k0]
theorem or_set {x k : Int32} (x0 : 0 ≤ x.toInt) (x1 : x.toInt ≤ 255) (k0 : 0 ≤ k.toInt) (k1 : k.toInt < 8) : 0 ≤ (x ||| ((1 : Int32) <<< (k &&& 31))).toInt ∧ (x ||| ((1 : Int32) <<< (k &&& 31))).toInt ≤ 255 := by
 have h1 : ∀ i, i < 256 → ∀ j, j < 8 → (0 ≤ (Int32.ofInt (i : Nat) ||| ((1 : Int32) <<< (Int32.ofInt (j : Nat) &&& 31))).toInt ∧ (Int32.ofInt (i : Nat) ||| ((1 : Int32) <<< (Int32.ofInt (j : Nat) &&& 31))).toInt ≤ 255) := by decide +kernel
 have t1 := h1 x.toInt.toNat (by omega) k.toInt.toNat (by omega)
 rw [Int.toNat_of_nonneg x0, Int32.ofInt_toInt, Int.toNat_of_nonneg k0, Int32.ofInt_toInt] at t1
 exact t1
def Ok8 (a c ab lc s0 s1 s2 s3 : Int32) (o : Ob) : Prop := Sh 8 4 o ∧ f_window o = 4 ∧ f_commitCount o = c ∧ f_abortCount o = ab ∧ f_lastConflict o = lc ∧ (0 ≤ a.toInt ∧ a.toInt ≤ 15) ∧ (∀ k, k < 4 → (f_active o)[k]? = some (bv a k)) ∧ (∀ k, k < 4 → bv a k = 1 → (f_start o)[k]? = some (pk s0 s1 s2 s3 k)) ∧ ∀ k, k < 4 → ∃ r w, (f_readSet o)[k]? = some r ∧ (f_writeSet o)[k]? = some w ∧ (0 ≤ r.toInt ∧ r.toInt ≤ 255) ∧ (0 ≤ w.toInt ∧ w.toInt ≤ 255)
theorem vtx8 {a c ab lc s0 s1 s2 s3 : Int32} {o : Ob} (I : Ok8 a c ab lc s0 s1 s2 s3 o) {x : Int32} (x0 : 0 ≤ x.toInt) : F4 o x = some (if x < 4 then (if (a >>> (x &&& 31)) &&& 1 = 1 then 1 else 0) else 0) := by
 obtain ⟨S, i1, i2, i3, i4, i5, i6, i7, i8⟩ := I
 have z4 : (4 : Int32).toInt = 4 := rfl
 unfold F4
 rw [S.2.2.2.2.2.2.2.2, if_neg (by rw [i_lt]; show ¬ x.toInt < 0; omega)]
 by_cases q : x < 4
 ·rw [if_pos q, if_pos q]
  rw [i_lt, z4] at q
  rw [if_pos (by rw [i_lt]; show x.toInt < 8; omega), g0 x0 (i6 x.toInt.toNat (by omega)), bv_at x0]
  simp only [Option.bind_some]
  rcases bv01 a x.toInt.toNat with e | e <;> rw [e] <;> rfl
 ·rw [if_neg q, if_neg q]
theorem chk8 {s : List Int32} {a c ab lc s0 s1 s2 s3 i : Int32} {o : Ob} (I : Ok8 a c ab lc s0 s1 s2 s3 o) : J0_744 s o a c ab lc s0 s1 s2 s3 i = some (.inr (a, c, ab, lc, s0, s1, s2, s3, i + 4, o)) := by
 obtain ⟨S, i1, i2, i3, i4, i5, i6, i7, i8⟩ := id I
 have z4 : (4 : Int32).toInt = 4 := rfl
 have z5 : (5 : Int32).toInt = 5 := rfl
 have z0 : (0 : Int32).toInt = 0 := rfl
 obtain ⟨_, hl, rfl⟩ : okP (loopN (B0_775 s o a c ab lc s0 s1 s2 s3 i) qN 0) (fun r => r = Sum.inl ()) := by
  refine okP.loop (fun w => 0 ≤ w.toInt ∧ w.toInt ≤ 5) (fun w => (5 - w.toInt).toNat) ⟨by decide, by decide⟩ (by show (5 - (0 : Int)).toNat < 4000; decide) ?_
  intro w ⟨a1, a2⟩
  unfold B0_775
  refine okP.ite (fun wl => ?_) (fun _ => okP.some rfl)
  rw [i_lt, z5] at wl
  have e2 : (w + 1).toInt = w.toInt + 1 := inc1 (by omega)
  have nx : okP (J0_881 s o a c ab lc s0 s1 s2 s3 i w) (fun r => Sum.elim (fun r => r = Sum.inl ()) (fun v' => (0 ≤ v'.toInt ∧ v'.toInt ≤ 5) ∧ (5 - v'.toInt).toNat < (5 - w.toInt).toNat) r) := by
   unfold J0_881
   exact okP.some ⟨⟨by omega, by omega⟩, by omega⟩
  have vt := vtx8 I a1
  obtain ⟨f, hf⟩ : ∃ f, f = (if w < 4 then (if (a >>> (w &&& 31)) &&& 1 = 1 then (1 : Int32) else 0) else 0) := ⟨_, rfl⟩
  rw [← hf] at vt ⊢
  have f01 : f = 0 ∨ f = 1 := by
   rw [hf]
   split
   ·split
    ·exact Or.inr rfl
    ·exact Or.inl rfl
   ·exact Or.inl rfl
  have act : F14 o w = some f := by
   unfold F14
   rw [vt]
   rcases f01 with e | e <;> rw [e] <;> rfl
  rw [act]
  simp only [Option.bind_some, if_true]
  rcases f01 with e | e
  ·subst e
   rw [if_pos rfl]
   unfold J0_846 F15 F3 F5
   rw [vt]
   simp only [Option.bind_some, if_true]
   exact nx
  ·rw [e] at vt ⊢
   have n1 : ¬ (1 : Int32) = 0 := by decide
   rw [if_neg n1]
   have w4 : w.toInt < 4 ∧ bv a w.toInt.toNat = 1 := by
    rw [e] at hf
    by_cases q : w < 4
    ·rw [if_pos q, bv_at a1] at hf
     rw [i_lt, z4] at q
     refine ⟨q, ?_⟩
     by_cases p : bv a w.toInt.toNat = 1
     ·exact p
     ·rw [if_neg p] at hf; exact absurd hf (by decide)
    ·rw [if_neg q] at hf; exact absurd hf (by decide)
   have st : F15 o w = some (pk s0 s1 s2 s3 w.toInt.toNat) := by
    unfold F15
    rw [vt]
    simp only [Option.bind_some]
    rw [if_neg n1, g0 a1 (i7 w.toInt.toNat (by omega) w4.2)]; rfl
   have pc : F9 w s0 s1 s2 s3 = some (pk s0 s1 s2 s3 w.toInt.toNat) := by
    unfold F9 pk
    have e0 : (w = 0) = (w.toInt.toNat = 0) := by rw [i_eq, z0]; exact propext ⟨fun q => by omega, fun q => by omega⟩
    have e1 : (w = 1) = (w.toInt.toNat = 1) := by rw [i_eq]; exact propext ⟨fun q => by rw [q]; rfl, fun q => by show w.toInt = 1; omega⟩
    have e2 : (w = 2) = (w.toInt.toNat = 2) := by rw [i_eq]; exact propext ⟨fun q => by rw [q]; rfl, fun q => by show w.toInt = 2; omega⟩
    simp only [e0, e1, e2]
    split
    ·rfl
    ·split
     ·rfl
     ·split <;> rfl
   rw [st, pc]
   simp only [Option.bind_some, if_true]
   unfold J0_846
   rw [if_neg n1]
   exact nx
 unfold J0_744 F11 F12 F13
 simp only [Option.bind_some, i2, i3, i4, if_true, hl]
theorem cl8 {a c ab lc s0 s1 s2 s3 c' ab' lc' : Int32} {o p : Ob} (I : Ok8 a c ab lc s0 s1 s2 s3 o) {x : Int32} (x0 : 0 ≤ x.toInt) (x1 : x.toInt < 4) (Sp : Sh 8 4 p) (pw : f_window p = f_window o) (pc : f_commitCount p = c') (pb : f_abortCount p = ab') (pl : f_lastConflict p = lc') (pa : f_active p = (f_active o).set x.toInt.toNat 0) (ps : f_start p = (f_start o).set x.toInt.toNat 0) (pr : f_readSet p = (f_readSet o).set x.toInt.toNat 0) (pq : f_writeSet p = (f_writeSet o).set x.toInt.toNat 0) : Ok8 (a &&& (((1 : Int32) <<< (x &&& 31)) ^^^ (-1))) c' ab' lc' s0 s1 s2 s3 p := by
 obtain ⟨S, i1, i2, i3, i4, i5, i6, i7, i8⟩ := I
 obtain ⟨r1, r2⟩ := cl_act i5.1 i5.2 x0 x1
 refine ⟨Sp, by rw [pw]; exact i1, pc, pb, pl, r1, fun k hk => ?_, fun k hk hb => ?_, fun k hk => ?_⟩
 ·rw [pa, r2 k hk]
  by_cases e : k = x.toInt.toNat
  ·rw [if_pos e, e, List.getElem?_set_self (by rw [S.2.2.1]; omega)]
  ·rw [if_neg e, List.getElem?_set_ne (fun q => e q.symm)]; exact i6 k hk
 ·rw [r2 k hk] at hb
  by_cases e : k = x.toInt.toNat
  ·rw [if_pos e] at hb; exact absurd hb (by decide)
  ·rw [if_neg e] at hb
   rw [ps, List.getElem?_set_ne (fun q => e q.symm)]; exact i7 k hk hb
 ·rw [pr, pq]
  by_cases e : k = x.toInt.toNat
  ·rw [e, List.getElem?_set_self (by rw [S.2.2.2.2.1]; omega), List.getElem?_set_self (by rw [S.2.2.2.2.2.1]; omega)]
   exact ⟨0, 0, rfl, rfl, by decide, by decide⟩
  ·rw [List.getElem?_set_ne (fun q => e q.symm), List.getElem?_set_ne (fun q => e q.symm)]; exact i8 k hk
theorem op8 {a c ab lc s0 s1 s2 s3 : Int32} {o : Ob} (I : Ok8 a c ab lc s0 s1 s2 s3 o) {x : Int32} (x0 : 0 ≤ x.toInt) (x1 : x.toInt < 4) {b : List Int32} (hb : b.length = 256) : Ok8 (a ||| ((1 : Int32) <<< (x &&& 31))) c ab lc (if x = 0 then c else s0) (if x = 0 then s1 else if x = 1 then c else s1) (if x = 0 then s2 else if x = 1 then s2 else if x = 2 then c else s2) (if x = 0 then s3 else if x = 1 then s3 else if x = 2 then s3 else c) (opn o x.toInt.toNat b) := by
 obtain ⟨S, i1, i2, i3, i4, i5, i6, i7, i8⟩ := I
 obtain ⟨r1, r2⟩ := or_act i5.1 i5.2 x0 x1
 have pa : f_active (opn o x.toInt.toNat b) = ((f_active o).set x.toInt.toNat 0).set x.toInt.toNat 1 := rfl
 have ps : f_start (opn o x.toInt.toNat b) = ((f_start o).set x.toInt.toNat 0).set x.toInt.toNat (f_commitCount o) := rfl
 have pr : f_readSet (opn o x.toInt.toNat b) = (f_readSet o).set x.toInt.toNat 0 := rfl
 have pq : f_writeSet (opn o x.toInt.toNat b) = (f_writeSet o).set x.toInt.toNat 0 := rfl
 have pickx : ∀ k, k < 4 → pk (if x = 0 then c else s0) (if x = 0 then s1 else if x = 1 then c else s1) (if x = 0 then s2 else if x = 1 then s2 else if x = 2 then c else s2) (if x = 0 then s3 else if x = 1 then s3 else if x = 2 then s3 else c) k = if k = x.toInt.toNat then c else pk s0 s1 s2 s3 k := by
  intro k hk
  have z0 : (0 : Int32).toInt = 0 := rfl
  have z1 : (1 : Int32).toInt = 1 := rfl
  have z2 : (2 : Int32).toInt = 2 := rfl
  have cx : x = 0 ∨ x = 1 ∨ x = 2 ∨ x.toInt = 3 := by
   simp only [i_eq]; omega
  have ck : k = 0 ∨ k = 1 ∨ k = 2 ∨ k = 3 := by omega
  rcases cx with rfl | rfl | rfl | e
  ·rcases ck with rfl | rfl | rfl | rfl <;> rfl
  ·rcases ck with rfl | rfl | rfl | rfl <;> rfl
  ·rcases ck with rfl | rfl | rfl | rfl <;> rfl
  ·have x3 : x = 3 := by rw [i_eq]; exact e
   subst x3
   rcases ck with rfl | rfl | rfl | rfl <;> rfl
 refine ⟨Sh_opn S _ hb, i1, i2, i3, i4, r1, fun k hk => ?_, fun k hk hb' => ?_, fun k hk => ?_⟩
 ·rw [pa, r2 k hk]
  by_cases e : k = x.toInt.toNat
  ·rw [if_pos e, e, List.getElem?_set_self (by rw [List.length_set, S.2.2.1]; omega)]
  ·rw [if_neg e, List.getElem?_set_ne (fun q => e q.symm), List.getElem?_set_ne (fun q => e q.symm)]; exact i6 k hk
 ·rw [r2 k hk] at hb'
  rw [ps, pickx k hk]
  by_cases e : k = x.toInt.toNat
  ·rw [if_pos e, e, List.getElem?_set_self (by rw [List.length_set, S.2.2.2.1]; omega), i2]
  ·rw [if_neg e] at hb' ⊢
   rw [List.getElem?_set_ne (fun q => e q.symm), List.getElem?_set_ne (fun q => e q.symm)]; exact i7 k hk hb'
 ·rw [pr, pq]
  by_cases e : k = x.toInt.toNat
  ·rw [e, List.getElem?_set_self (by rw [S.2.2.2.2.1]; omega), List.getElem?_set_self (by rw [S.2.2.2.2.2.1]; omega)]
   exact ⟨0, 0, rfl, rfl, by decide, by decide⟩
  ·rw [List.getElem?_set_ne (fun q => e q.symm), List.getElem?_set_ne (fun q => e q.symm)]; exact i8 k hk
theorem free8 {s : List Int32} {a c ab lc s0 s1 s2 s3 i : Int32} {o : Ob} (I : Ok8 a c ab lc s0 s1 s2 s3 o) : (F18 o = some (-1) ∧ loopN (B0_174 s o a c ab lc s0 s1 s2 s3 i) qN 0 = some 4) ∨ ∃ x : Int32, 0 ≤ x.toInt ∧ x.toInt < 4 ∧ F18 o = some x ∧ loopN (B0_174 s o a c ab lc s0 s1 s2 s3 i) qN 0 = some x := by
 obtain ⟨S, i1, i2, i3, i4, i5, i6, i7, i8⟩ := I
 have z4 : (4 : Int32).toInt = 4 := rfl
 have L1 : okP (loopN (B0_174 s o a c ab lc s0 s1 s2 s3 i) qN 0) (fun w => 0 ≤ w.toInt ∧ w.toInt ≤ 4 ∧ (∀ k, k < w.toInt.toNat → bv a k = 1) ∧ (w.toInt < 4 → bv a w.toInt.toNat = 0)) := by
  refine okP.loop (fun w => 0 ≤ w.toInt ∧ w.toInt ≤ 4 ∧ ∀ k, k < w.toInt.toNat → bv a k = 1) (fun w => (4 - w.toInt).toNat) ⟨by decide, by decide, fun k hk => absurd hk (Nat.not_lt_zero _)⟩ (by show (4 - (0 : Int)).toNat < 4000; decide) ?_
  intro w ⟨a1, a2, a3⟩
  unfold B0_174
  refine okP.ite (fun wl => ?_) (fun wl => ?_)
  ·rw [i_lt, z4] at wl
   have e2 : (w + 1).toInt = w.toInt + 1 := inc1 (by omega)
   rw [bv_at a1]
   refine okP.ite (fun e => ?_) (fun e => ?_)
   ·apply okP.some
    refine ⟨⟨by omega, by omega, fun k hk => ?_⟩, by omega⟩
    by_cases q : k = w.toInt.toNat
    ·rw [q]; exact e
    ·exact a3 k (by omega)
   ·exact okP.some ⟨a1, by omega, a3, fun _ => (bv01 a _).resolve_right e⟩
  ·rw [i_lt, z4] at wl
   exact okP.some ⟨a1, a2, a3, fun q => absurd q wl⟩
 obtain ⟨w, hw, w0, w1, w2, w3⟩ := L1
 have L2 : okP (F18 o) (fun r => (r = -1 ∧ ∀ k, k < 4 → bv a k = 1) ∨ (0 ≤ r.toInt ∧ r.toInt < 4 ∧ (∀ k, k < r.toInt.toNat → bv a k = 1) ∧ bv a r.toInt.toNat = 0)) := by
  unfold F18
  apply okP.bind
  refine okP.loop (fun w => 0 ≤ w.toInt ∧ w.toInt ≤ 4 ∧ ∀ k, k < w.toInt.toNat → bv a k = 1) (fun w => (4 - w.toInt).toNat) ⟨by decide, by decide, fun k hk => absurd hk (Nat.not_lt_zero _)⟩ (by show (4 - (0 : Int)).toNat < 4000; decide) ?_
  intro w ⟨a1, a2, a3⟩
  unfold B18_2
  rw [S.2.2.2.2.2.2.2.2]
  refine okP.ite (fun wl => ?_) (fun wl => ?_)
  ·rw [i_lt, z4] at wl
   have e2 : (w + 1).toInt = w.toInt + 1 := inc1 (by omega)
   rw [if_pos (by rw [i_lt]; show w.toInt < 8; omega), g0 a1 (i6 w.toInt.toNat (by omega))]
   simp only [Option.bind_some]
   refine okP.ite (fun e => ?_) (fun e => ?_)
   ·exact okP.some (okP.some (Or.inr ⟨a1, wl, a3, e⟩))
   ·apply okP.some
    refine ⟨⟨by omega, by omega, fun k hk => ?_⟩, by omega⟩
    by_cases q : k = w.toInt.toNat
    ·rw [q]; exact (bv01 a _).resolve_left e
    ·exact a3 k (by omega)
  ·rw [i_lt, z4] at wl
   exact okP.some (okP.some (Or.inl ⟨rfl, fun k hk => a3 k (by omega)⟩))
 obtain ⟨r, hr, ⟨rfl, q⟩ | ⟨r0, r1, r2, r3⟩⟩ := L2
 ·left
  refine ⟨hr, ?_⟩
  rw [hw]
  congr 1
  rw [i_eq, z4]
  by_cases e : w.toInt < 4
  ·exfalso
   have t := w3 e
   rw [q _ (by omega)] at t
   exact absurd t (by decide)
  ·omega
 ·right
  refine ⟨r, r0, r1, hr, ?_⟩
  rw [hw]
  congr 1
  rw [i_eq]
  by_cases lt : w.toInt < r.toInt
  ·exfalso
   have t := w3 (by omega)
   rw [r2 _ (by omega)] at t
   exact absurd t (by decide)
  ·by_cases gt : r.toInt < w.toInt
   ·exfalso
    have t := w2 r.toInt.toNat (by omega)
    rw [r3] at t
    exact absurd t (by decide)
   ·omega
theorem conf8 {s : List Int32} {a c ab lc s0 s1 s2 s3 i tx ky f rs ws bvv st : Int32} {o : Ob} (S : Sh 8 4 o) (rr : 0 ≤ rs.toInt ∧ rs.toInt ≤ 255) {e : Int32} (h1 : ∀ k : Nat, k < 8 → (k : Int) < (if e.toInt < 0 then 8 else e.toInt) → hb rs k → ∀ v, (f_version o)[k]? = some v → v.toInt ≤ st.toInt) (h2 : e = -1 ∨ (0 ≤ e.toInt ∧ e.toInt < 8 ∧ hb rs e.toInt.toNat ∧ ∃ v, (f_version o)[e.toInt.toNat]? = some v ∧ st.toInt < v.toInt)) : loopN (B0_500 s o a c ab lc s0 s1 s2 s3 i tx ky f rs ws bvv st) qN (-1, 7) = some e := by
 have z0 : (0 : Int32).toInt = 0 := rfl
 have zm : (-1 : Int32).toInt = -1 := rfl
 have z8 : (8 : Int32).toInt = 8 := rfl
 have : okP (loopN (B0_500 s o a c ab lc s0 s1 s2 s3 i tx ky f rs ws bvv st) qN (-1, 7)) (fun l => l = e) := by
  refine okP.loop (fun w => -1 ≤ w.2.toInt ∧ w.2.toInt ≤ 7 ∧ (w.1 = -1 ∨ (w.2.toInt < w.1.toInt ∧ w.1.toInt < 8)) ∧ (w.1 = -1 → ∀ k : Nat, w.2.toInt < k → k < 8 → hb rs k → ∀ v, (f_version o)[k]? = some v → v.toInt ≤ st.toInt) ∧ (w.1 ≠ -1 → (hb rs w.1.toInt.toNat ∧ ∃ v, (f_version o)[w.1.toInt.toNat]? = some v ∧ st.toInt < v.toInt) ∧ ∀ k : Nat, w.2.toInt < k → (k : Int) < w.1.toInt → hb rs k → ∀ v, (f_version o)[k]? = some v → v.toInt ≤ st.toInt)) (fun w => (w.2.toInt + 1).toNat) ⟨by show (-1 : Int) ≤ 7; decide, by show (7 : Int) ≤ 7; decide, Or.inl rfl, fun _ k q1 q2 => absurd q1 (by show ¬ (7 : Int) < k; omega), fun q => absurd rfl q⟩ (by show ((7 : Int) + 1).toNat < 4000; decide) ?_
  rintro ⟨l, w⟩ ⟨a1, a2, a3, a4, a5⟩
  simp only at a1 a2 a3 a4 a5
  unfold B0_500 J0_531
  simp only
  refine okP.ite (fun wn => ?_) (fun wn => ?_)
  ·rw [i_lt, z0] at wn
   apply okP.some
   show l = e
   have wm : w.toInt = -1 := by omega
   by_cases ln : l = -1
   ·rcases h2 with q | ⟨q0, q1, q2, v, q3, q4⟩
    ·rw [ln, q]
    ·have t := a4 ln e.toInt.toNat (by omega) (by omega) q2 v q3
     omega
   ·obtain ⟨⟨p1, v, p2, p3⟩, p4⟩ := a5 ln
    have lr : w.toInt < l.toInt ∧ l.toInt < 8 := a3.resolve_left ln
    rcases h2 with q | ⟨q0, q1, q2, u, q3, q4⟩
    ·have t := h1 l.toInt.toNat (by omega) (by rw [q, zm, if_pos (by decide)]; omega) p1 v p2
     omega
    ·rw [i_eq]
     by_cases lt : l.toInt < e.toInt
     ·have t := h1 l.toInt.toNat (by omega) (by rw [if_neg (by omega)]; omega) p1 v p2
      omega
     ·by_cases gt : e.toInt < l.toInt
      ·have t := p4 e.toInt.toNat (by omega) (by omega) q2 u q3
       omega
      ·omega
  ·rw [i_lt, z0] at wn
   have w0 : 0 ≤ w.toInt := by omega
   obtain ⟨w', hw'⟩ : ∃ u, u = w + -1 := ⟨_, rfl⟩
   rw [← hw']
   have we' : w'.toInt = w.toInt - 1 := by rw [hw', i_add (by rw [zm]; omega) (by rw [zm]; omega), zm]; omega
   have hbw := hb_shr rr.1 rr.2 w0 (show w.toInt < 8 by omega)
   have gv : okP (F28 o w) (fun v => (f_version o)[w.toInt.toNat]? = some v) := by
    unfold F28
    obtain ⟨k, hk, ⟨rfl, q⟩ | ⟨k0, _⟩⟩ := vkey S (by decide) w
    ·exact absurd ⟨w0, by rw [z8]; omega⟩ q
    rw [hk]
    simp only [Option.bind_some]
    rw [if_neg k0]
    apply okP.bind
    exact okP.aget w0 (by rw [S.2.1]; omega) (fun v hv => okP.some hv)
   have stay : (hb rs w.toInt.toNat → ∀ v, (f_version o)[w.toInt.toNat]? = some v → v.toInt ≤ st.toInt) → Sum.elim (fun l => l = e) (fun v' : Int32 × Int32 => (-1 ≤ v'.2.toInt ∧ v'.2.toInt ≤ 7 ∧ (v'.1 = -1 ∨ (v'.2.toInt < v'.1.toInt ∧ v'.1.toInt < 8)) ∧ (v'.1 = -1 → ∀ k : Nat, v'.2.toInt < k → k < 8 → hb rs k → ∀ v, (f_version o)[k]? = some v → v.toInt ≤ st.toInt) ∧ (v'.1 ≠ -1 → (hb rs v'.1.toInt.toNat ∧ ∃ v, (f_version o)[v'.1.toInt.toNat]? = some v ∧ st.toInt < v.toInt) ∧ ∀ k : Nat, v'.2.toInt < k → (k : Int) < v'.1.toInt → hb rs k → ∀ v, (f_version o)[k]? = some v → v.toInt ≤ st.toInt)) ∧ (v'.2.toInt + 1).toNat < (w.toInt + 1).toNat) (Sum.inr (l, w') : Int32 ⊕ (Int32 × Int32)) := by
    intro hq
    refine ⟨⟨by simp only; omega, by simp only; omega, a3.imp id (fun q => ⟨by simp only; omega, q.2⟩), fun q k k1 k2 => ?_, fun q => ⟨(a5 q).1, fun k k1 k2 => ?_⟩⟩, by simp only; omega⟩
    ·simp only at k1
     by_cases e' : k = w.toInt.toNat
     ·rw [e']; exact hq
     ·exact a4 q k (by omega) k2
    ·simp only at k1 k2
     by_cases e' : k = w.toInt.toNat
     ·rw [e']; exact hq
     ·exact (a5 q).2 k (by omega) k2
   refine okP.ite (fun yes => ?_) (fun no => ?_)
   ·apply okP.bind
    refine okP.mono gv (fun v hv => ?_)
    apply okP.some
    by_cases lt : st < v
    ·rw [if_pos lt]
     rw [i_lt] at lt
     refine ⟨⟨by simp only; omega, by simp only; omega, Or.inr ⟨by simp only; omega, by simp only; omega⟩, fun q => ?_, fun _ => ⟨⟨hbw.mp yes, v, hv, lt⟩, fun k k1 k2 => by simp only at k1 k2; omega⟩⟩, by simp only; omega⟩
     exfalso
     simp only at q
     rw [q] at w0
     revert w0
     decide
    ·rw [if_neg lt]
     rw [i_lt] at lt
     refine stay (fun _ v' hv' => ?_)
     rw [hv] at hv'
     cases hv'
     omega
   ·apply okP.some
    exact stay (fun q => absurd (hbw.mpr q) no)
 obtain ⟨_, h, rfl⟩ := this
 exact h
abbrev T8 := Int32 × Int32 × Int32 × Int32 × Int32 × Int32 × Int32 × Int32 × Int32 × Ob
def P8 (s : List Int32) (i : Int32) : (Int32 × QHeap) ⊕ T8 → Prop := fun r => Sum.elim (fun e => e.1 = 1 ∧ sFit s e.2) (fun v' : T8 => (0 ≤ v'.2.2.2.2.2.2.2.2.1.toInt ∧ v'.2.2.2.2.2.2.2.2.1.toInt ≤ 260 ∧ Ok8 v'.1 v'.2.1 v'.2.2.1 v'.2.2.2.1 v'.2.2.2.2.1 v'.2.2.2.2.2.1 v'.2.2.2.2.2.2.1 v'.2.2.2.2.2.2.2.1 v'.2.2.2.2.2.2.2.2.2) ∧ (264 - v'.2.2.2.2.2.2.2.2.1.toInt).toNat < (264 - i.toInt).toNat) r
set_option maxHeartbeats 4000000 in
theorem turn8 {s : List Int32} (hs : s.length ≤ 260) {a c ab lc s0 s1 s2 s3 i : Int32} {o : Ob} (I : Ok8 a c ab lc s0 s1 s2 s3 o) (j0 : 0 ≤ i.toInt) (j1 : i.toInt ≤ 260) : okP (B0_37 s (a, c, ab, lc, s0, s1, s2, s3, i, o)) (P8 s i) := by
 have hl := len_i (n := s.length) (by omega)
 obtain ⟨S, i1, i2, i3, i4, i5, i6, i7, i8⟩ := id I
 have z0 : (0 : Int32).toInt = 0 := rfl
 have z4 : (4 : Int32).toInt = 4 := rfl
 have z8 : (8 : Int32).toInt = 8 := rfl
 have z5 : (5 : Int32).toInt = 5 := rfl
 have z9 : (9 : Int32).toInt = 9 := rfl
 have h4 : (4 : Int32).toInt ≤ 8 := by decide
 have h8 : (8 : Int32).toInt ≤ 32 := by decide
 have h80 : 0 ≤ (8 : Int32).toInt := by decide
 have e1 : (1 : Int32).toInt = 1 := rfl
 have e2 : (2 : Int32).toInt = 2 := rfl
 have e3 : (3 : Int32).toInt = 3 := rfl
 have k1 : (i + 1).toInt = i.toInt + 1 := by rw [i_add (by omega) (by omega), e1]
 have k2 : (i + 2).toInt = i.toInt + 2 := by rw [i_add (by omega) (by omega), e2]
 have k3 : (i + 3).toInt = i.toInt + 3 := by rw [i_add (by omega) (by omega), e3]
 have k4 : (i + 4).toInt = i.toInt + 4 := by rw [i_add (by omega) (by omega), z4]
 have n10 : ¬ (1 : Int32) = 0 := by decide
 unfold B0_37
 simp only
 refine okP.ite (fun cc => ?_) (fun _ => ?_)
 ·rw [i_lt, hl, k3] at cc
  have rest : ∀ {a c ab lc s0 s1 s2 s3 : Int32} {p : Ob}, Ok8 a c ab lc s0 s1 s2 s3 p → okP (J0_744 s p a c ab lc s0 s1 s2 s3 i) (P8 s i) := by
   intro a c ab lc s0 s1 s2 s3 p I
   rw [chk8 I]
   exact okP.some ⟨⟨by simp only; omega, by simp only; omega, I⟩, by simp only; omega⟩
  apply okP.bind
  refine okP.aget (by omega) (by omega) (fun w0 _ => ?_)
  apply okP.bind
  refine okP.aget (by omega) (by omega) (fun w1 _ => ?_)
  apply okP.bind
  refine okP.aget (by omega) (by omega) (fun w2 _ => ?_)
  apply okP.bind
  refine okP.aget (by omega) (by omega) (fun w3 _ => ?_)
  have rx := mod_rng (x := w1 &&& 255) (m := 5) (and_rng (by decide)).1 (by decide)
  have ry := mod_rng (x := w2 &&& 255) (m := 9) (and_rng (by decide)).1 (by decide)
  obtain ⟨x, hx⟩ : ∃ x, x = (w1 &&& 255) % 5 := ⟨_, rfl⟩
  obtain ⟨y, hy⟩ : ∃ x, x = (w2 &&& 255) % 9 := ⟨_, rfl⟩
  obtain ⟨op, hop⟩ : ∃ x, x = (w0 &&& 7) % 5 := ⟨_, rfl⟩
  rw [← hx, z5] at rx
  rw [← hy, z9] at ry
  simp only [← hx, ← hy, ← hop]
  have vt := vtx8 I rx.1
  obtain ⟨f, hf⟩ : ∃ f, f = (if x < 4 then (if (a >>> (x &&& 31)) &&& 1 = 1 then (1 : Int32) else 0) else 0) := ⟨_, rfl⟩
  rw [← hf] at vt ⊢
  obtain ⟨rs, hrs, _⟩ := getReadSet_ok S h4 x
  obtain ⟨ws, hws, _⟩ := getWriteSet_ok S h4 x
  obtain ⟨bb, hbb, _⟩ := getBuffered_ok S h4 h8 x y
  obtain ⟨vv, hvv, _⟩ := getValue_ok S h8 y
  obtain ⟨st, hst⟩ : ∃ st, F9 x s0 s1 s2 s3 = some st := by
   unfold F9
   repeat' split
   all_goals exact ⟨_, rfl⟩
  rw [hrs, hws, hbb, hvv, hst]
  simp only [Option.bind_some]
  have f01 : f = 0 ∨ f = 1 := by
   rw [hf]
   split
   ·split
    ·exact Or.inr rfl
    ·exact Or.inl rfl
   ·exact Or.inl rfl
  have good : f = 1 → x.toInt < 4 ∧ (f_active o)[x.toInt.toNat]? = some 1 ∧ (f_start o)[x.toInt.toNat]? = some st ∧ (f_readSet o)[x.toInt.toNat]? = some rs ∧ (f_writeSet o)[x.toInt.toNat]? = some ws ∧ (0 ≤ rs.toInt ∧ rs.toInt ≤ 255) ∧ (0 ≤ ws.toInt ∧ ws.toInt ≤ 255) := by
   intro e
   rw [e] at hf vt
   have x4 : x.toInt < 4 ∧ bv a x.toInt.toNat = 1 := by
    by_cases q : x < 4
    ·rw [if_pos q, bv_at rx.1] at hf
     rw [i_lt, z4] at q
     refine ⟨q, ?_⟩
     by_cases p : bv a x.toInt.toNat = 1
     ·exact p
     ·rw [if_neg p] at hf; exact absurd hf (by decide)
    ·rw [if_neg q] at hf; exact absurd hf (by decide)
   obtain ⟨r, w, q1, q2, q3, q4⟩ := i8 x.toInt.toNat (by omega)
   have er : rs = r := by
    unfold F3 at hrs
    rw [vt] at hrs
    simp only [Option.bind_some] at hrs
    rw [if_neg n10, g0 rx.1 q1] at hrs
    exact (Option.some.inj hrs).symm
   have ew : ws = w := by
    unfold F5 at hws
    rw [vt] at hws
    simp only [Option.bind_some] at hws
    rw [if_neg n10, g0 rx.1 q2] at hws
    exact (Option.some.inj hws).symm
   have es : st = pk s0 s1 s2 s3 x.toInt.toNat := by
    unfold F9 at hst
    unfold pk
    have t0 : (x = 0) = (x.toInt.toNat = 0) := by rw [i_eq, z0]; exact propext ⟨fun q => by omega, fun q => by omega⟩
    have t1 : (x = 1) = (x.toInt.toNat = 1) := by rw [i_eq, e1]; exact propext ⟨fun q => by omega, fun q => by omega⟩
    have t2 : (x = 2) = (x.toInt.toNat = 2) := by rw [i_eq, e2]; exact propext ⟨fun q => by omega, fun q => by omega⟩
    simp only [t0, t1, t2] at hst
    split at hst
    ·rename_i q; rw [if_pos q]; exact (Option.some.inj hst).symm
    ·rename_i q
     rw [if_neg q]
     split at hst
     ·rename_i q; rw [if_pos q]; exact (Option.some.inj hst).symm
     ·rename_i q
      rw [if_neg q]
      split at hst
      ·rename_i q; rw [if_pos q]; exact (Option.some.inj hst).symm
      ·rename_i q; rw [if_neg q]; exact (Option.some.inj hst).symm
   rw [er, ew, es]
   exact ⟨x4.1, by rw [i6 x.toInt.toNat (by omega), x4.2], i7 x.toInt.toNat (by omega) x4.2, q1, q2, q3, q4⟩
  have vk : y.toInt < 8 → F8 o y = some 1 := by
   intro yl
   unfold F8
   rw [S.2.2.2.2.2.2.2.1, if_neg (by rw [i_lt]; show ¬ y.toInt < 0; omega), if_pos (by rw [i_lt]; exact yl), if_pos (by rw [i_lt]; show y.toInt < 32; omega)]
  have vkn : ¬ y.toInt < 8 → F8 o y = some 0 := by
   intro yl
   unfold F8
   rw [S.2.2.2.2.2.2.2.1, if_neg (by rw [i_lt]; show ¬ y.toInt < 0; omega), if_neg (by rw [i_lt]; exact yl)]
  have valy : y.toInt < 8 → (f_value o)[y.toInt.toNat]? = some vv := by
   intro yl
   unfold F7 at hvv
   rw [vk yl] at hvv
   simp only [Option.bind_some] at hvv
   rw [if_neg n10] at hvv
   obtain ⟨t, q1, q2⟩ := Option.bind_eq_some_iff.mp hvv
   cases q2
   unfold aget at q1
   rw [if_neg (by rw [i_lt]; show ¬ y.toInt < 0; omega)] at q1
   exact q1
  refine okP.ite (fun _ => ?_) (fun _ => ?_)
  ·-- begin
   apply okP.bind
   rcases free8 (s := s) (i := i) I with ⟨q1, q2⟩ | ⟨r, r0, r1, q1, q2⟩
   ·refine okP.of q2 ?_
    unfold J0_196 J0_271
    have hb' : F17 o = some (-5, o) := by unfold F17; rw [q1]; rfl
    rw [hb']
    simp only [Option.bind_some, if_true]
    exact rest I
   ·refine okP.of q2 ?_
    unfold J0_196 J0_271
    obtain ⟨⟨rr, p⟩, hp, e, b, hb, ep⟩ : okP (F17 o) (fun q => q.1 = r ∧ ∃ b : List Int32, b.length = 256 ∧ q.2 = opn o r.toInt.toNat b) := by
     unfold F17
     rw [q1]
     simp only [Option.bind_some]
     rw [if_neg (by rw [i_lt]; show ¬ r.toInt < 0; omega)]
     apply okP.bind
     unfold F19
     apply okP.bind
     refine okP.mono (clear_ok S r0 (by omega)) ?_
     rintro _ ⟨b, hb, rfl⟩
     have g := Sh_clr S r.toInt.toNat hb
     apply okP.bind
     refine okP.aset r0 (by rw [g.2.2.1]; omega) ?_
     apply okP.bind
     refine okP.aset r0 (by rw [g.2.2.2.1]; omega) ?_
     apply okP.some
     apply okP.some
     exact ⟨rfl, b, hb, rfl⟩
    simp only at e ep
    subst e
    subst ep
    rw [hp]
    simp only [Option.bind_some, if_true]
    rw [if_neg (by intro q; rw [q] at r1; revert r1; decide)]
    exact rest (op8 I r0 r1 hb)
  refine okP.ite (fun _ => ?_) (fun _ => ?_)
  ·-- read
   apply okP.bind
   unfold J0_302 J0_376
   rcases f01 with e | e
   ·have hr : F16 o x y = some (0, o) := by unfold F16; rw [vt, e]; rfl
    refine okP.of hr ?_
    simp only [e, if_true, hrs, Option.bind_some]
    exact rest I
   ·obtain ⟨x4, ga, gs, gr, gw, rr, rw'⟩ := good e
    by_cases yl : y.toInt < 8
    ·have yl' : y < 8 := by rw [i_lt, z8]; exact yl
     by_cases hw : (ws >>> (y &&& 31)) &&& 1 = 1
     ·have nz : ¬ (ws &&& ((1 : Int32) <<< (y &&& 31))) = 0 := by
       have t := (hb_shr rw'.1 rw'.2 ry.1 yl).mp hw
       unfold hb at t
       rw [ofn ry.1] at t
       exact t
      have hr : F16 o x y = some (bb, o) := by
       unfold F6 at hbb
       unfold F16
       rw [vt, e, vk yl] at hbb
       rw [vt, e, vk yl]
       unfold F21 at hbb ⊢
       simp only [Option.bind_some] at hbb ⊢
       rw [if_neg n10, if_neg n10, g0 rx.1 gw] at hbb
       rw [if_neg n10, if_neg n10, g0 rx.1 gw]
       simp only [Option.bind_some] at hbb ⊢
       rw [if_neg nz] at hbb
       rw [if_neg nz]
       unfold F27 at hbb ⊢
       simp only [Option.bind_some] at hbb ⊢
       obtain ⟨t, q1, q2⟩ := Option.bind_eq_some_iff.mp hbb
       cases q2
       rw [q1]; rfl
      refine okP.of hr ?_
      simp only [e, if_neg n10, if_pos yl', if_pos hw, if_true, hrs, Option.bind_some]
      exact rest I
     ·have z : (ws &&& ((1 : Int32) <<< (y &&& 31))) = 0 := by
       apply Classical.byContradiction
       intro q
       apply hw
       refine (hb_shr rw'.1 rw'.2 ry.1 yl).mpr ?_
       unfold hb
       rw [ofn ry.1]
       exact q
      obtain ⟨p, hp⟩ : ∃ p, p = s_readSet o ((f_readSet o).set x.toInt.toNat (rs ||| ((1 : Int32) <<< (y &&& 31)))) := ⟨_, rfl⟩
      have hr : F16 o x y = some (vv, p) := by
       unfold F16 F21
       rw [vt, e, vk yl, g0 rx.1 gw, g0 rx.1 gr, g0 ry.1 (valy yl)]
       simp only [Option.bind_some]
       rw [if_neg n10, if_neg n10, if_pos z, aset_at (n := x.toInt.toNat) (by omega) (by rw [S.2.2.2.2.1]; omega), hp]
       rfl
      have pr : f_readSet p = (f_readSet o).set x.toInt.toNat (rs ||| ((1 : Int32) <<< (y &&& 31))) := by rw [hp]; rfl
      have Ip : Ok8 a c ab lc s0 s1 s2 s3 p := by
       refine ⟨by rw [hp]; exact Sh_rd S (by rw [List.length_set]; exact S.2.2.2.2.1), by rw [hp]; exact i1, by rw [hp]; exact i2, by rw [hp]; exact i3, by rw [hp]; exact i4, i5, by rw [hp]; exact i6, by rw [hp]; exact i7, fun k hk => ?_⟩
       have pw : f_writeSet p = f_writeSet o := by rw [hp]; rfl
       rw [pr, pw]
       by_cases ek : k = x.toInt.toNat
       ·rw [ek, List.getElem?_set_self (by rw [S.2.2.2.2.1]; omega)]
        exact ⟨_, ws, rfl, gw, or_set rr.1 rr.2 ry.1 yl, rw'⟩
       ·rw [List.getElem?_set_ne (fun q => ek q.symm)]
        exact i8 k hk
      have grs : F3 p x = some (rs ||| ((1 : Int32) <<< (y &&& 31))) := by
       have t := vtx8 Ip rx.1
       rw [← hf] at t
       unfold F3
       rw [t, e]
       simp only [Option.bind_some]
       rw [if_neg n10, g0 rx.1 (by rw [pr, List.getElem?_set_self (by rw [S.2.2.2.2.1]; omega)])]
       rfl
      refine okP.of hr ?_
      simp only [e, if_neg n10, if_pos yl', if_neg hw, if_true, grs, Option.bind_some]
      exact rest Ip
    ·have yl' : ¬ y < 8 := by rw [i_lt, z8]; exact yl
     have hr : F16 o x y = some (0, o) := by
      unfold F16
      rw [vt, e, vkn yl]; rfl
     refine okP.of hr ?_
     simp only [e, if_neg n10, if_neg yl', if_true, hrs, Option.bind_some]
     exact rest I
  refine okP.ite (fun _ => ?_) (fun _ => ?_)
  ·-- write
   apply okP.bind
   unfold J0_484
   rcases f01 with e | e
   ·have hr : F26 o x y w3 = some (-1, o) := by unfold F26; rw [vt, e]; rfl
    refine okP.of hr ?_
    simp only [e, if_true]
    exact rest I
   ·obtain ⟨x4, ga, gs, gr, gw, rr, rw'⟩ := good e
    by_cases yl : y.toInt < 8
    ·have yl' : y < 8 := by rw [i_lt, z8]; exact yl
     have eb := bufi rx.1 (by omega) ry.1 (show y.toInt < 32 by omega)
     obtain ⟨p, hp⟩ : ∃ p, p = s_buffered (s_writeSet o ((f_writeSet o).set x.toInt.toNat (ws ||| ((1 : Int32) <<< (y &&& 31))))) ((f_buffered o).set (x.toInt.toNat * 32 + y.toInt.toNat) w3) := ⟨_, rfl⟩
     have hr : F26 o x y w3 = some (0, p) := by
      unfold F26 F21 F27
      rw [vt, e, vk yl, g0 rx.1 gw]
      simp only [Option.bind_some]
      rw [if_neg n10, if_neg n10, aset_at (n := x.toInt.toNat) (by omega) (by rw [S.2.2.2.2.2.1]; omega)]
      simp only [Option.bind_some]
      rw [aset_at (n := x.toInt.toNat * 32 + y.toInt.toNat) (by omega) (by rw [S.2.2.2.2.2.2.1]; omega), hp]
      rfl
     have pq : f_writeSet p = (f_writeSet o).set x.toInt.toNat (ws ||| ((1 : Int32) <<< (y &&& 31))) := by rw [hp]; rfl
     have pbf : f_buffered p = (f_buffered o).set (x.toInt.toNat * 32 + y.toInt.toNat) w3 := by rw [hp]; rfl
     have Sp : Sh 8 4 p := by rw [hp]; exact Sh_buf (Sh_wr S (by rw [List.length_set]; exact S.2.2.2.2.2.1)) (by rw [List.length_set]; exact S.2.2.2.2.2.2.1)
     have os := or_set rw'.1 rw'.2 ry.1 yl
     have Ip : Ok8 a c ab lc s0 s1 s2 s3 p := by
      refine ⟨Sp, by rw [hp]; exact i1, by rw [hp]; exact i2, by rw [hp]; exact i3, by rw [hp]; exact i4, i5, by rw [hp]; exact i6, by rw [hp]; exact i7, fun k hk => ?_⟩
      have pr : f_readSet p = f_readSet o := by rw [hp]; rfl
      rw [pr, pq]
      by_cases ek : k = x.toInt.toNat
      ·rw [ek, List.getElem?_set_self (by rw [S.2.2.2.2.2.1]; omega)]
       exact ⟨rs, _, gr, rfl, rr, os⟩
      ·rw [List.getElem?_set_ne (fun q => ek q.symm)]
       exact i8 k hk
     have t := vtx8 Ip rx.1
     rw [← hf, e] at t
     have pw : (f_writeSet p)[x.toInt.toNat]? = some (ws ||| ((1 : Int32) <<< (y &&& 31))) := by rw [pq, List.getElem?_set_self (by rw [S.2.2.2.2.2.1]; omega)]
     have gw2 : F5 p x = some (ws ||| ((1 : Int32) <<< (y &&& 31))) := by
      unfold F5
      rw [t]
      simp only [Option.bind_some]
      rw [if_neg n10, g0 rx.1 pw]; rfl
     have gr2 : F3 p x = some rs := by
      unfold F3
      rw [t]
      simp only [Option.bind_some]
      rw [if_neg n10, g0 rx.1 (by rw [hp]; exact gr)]; rfl
     have vkp : F8 p y = some 1 := by
      unfold F8
      rw [Sp.2.2.2.2.2.2.2.1, if_neg (by rw [i_lt]; show ¬ y.toInt < 0; omega), if_pos yl', if_pos (by rw [i_lt]; show y.toInt < 32; omega)]
     have gv2 : F7 p y = some vv := by
      unfold F7
      rw [vkp]
      simp only [Option.bind_some]
      rw [if_neg n10, g0 ry.1 (by rw [hp]; exact valy yl)]; rfl
     have nzb : ¬ ((ws ||| ((1 : Int32) <<< (y &&& 31))) &&& ((1 : Int32) <<< (y &&& 31))) = 0 := by
      have D : ∀ i, i < 256 → ∀ j, j < 8 → ¬ ((Int32.ofInt (i : Nat) ||| ((1 : Int32) <<< (Int32.ofInt (j : Nat) &&& 31))) &&& ((1 : Int32) <<< (Int32.ofInt (j : Nat) &&& 31))) = 0 := by decide +kernel
      have t := D ws.toInt.toNat (by omega) y.toInt.toNat (by omega)
      rw [Int.toNat_of_nonneg rw'.1, Int32.ofInt_toInt, Int.toNat_of_nonneg ry.1, Int32.ofInt_toInt] at t
      exact t
     have gb2 : F6 p x y = some w3 := by
      unfold F6 F21 F27
      rw [t, vkp]
      simp only [Option.bind_some]
      rw [if_neg n10, if_neg n10, g0 rx.1 pw]
      simp only [Option.bind_some]
      rw [if_neg nzb, g0 (x := x * 32 + y) (by omega) (by
       have : (x * 32 + y).toInt.toNat = x.toInt.toNat * 32 + y.toInt.toNat := by omega
       rw [this, pbf, List.getElem?_set_self (by rw [S.2.2.2.2.2.2.1]; omega)])]
      rfl
     refine okP.of hr ?_
     simp only [e, if_neg n10, if_pos yl', if_true, gb2, gw2, gr2, gv2, Option.bind_some]
     exact rest Ip
    ·have yl' : ¬ y < 8 := by rw [i_lt, z8]; exact yl
     have hr : F26 o x y w3 = some (-2, o) := by
      unfold F26
      rw [vt, e, vkn yl]; rfl
     refine okP.of hr ?_
     simp only [e, if_neg n10, if_neg yl', if_true]
     exact rest I
  refine okP.ite (fun _ => ?_) (fun _ => ?_)
  ·-- commit
   unfold J0_701
   rcases f01 with e | e
   ·have hr : F10 o x = some (-1, o) := by unfold F10; rw [vt, e]; rfl
    have rs0 : rs = 0 := by
     unfold F3 at hrs
     rw [vt, e] at hrs
     exact (Option.some.inj hrs).symm
    have cf := conf8 (s := s) (a := a) (c := c) (ab := ab) (lc := lc) (s0 := s0) (s1 := s1) (s2 := s2) (s3 := s3) (i := i) (tx := x) (ky := y) (f := 0) (ws := ws) (bvv := bb) (st := st) (rs := rs) S (by rw [rs0]; decide) (e := -1) (fun k _ _ q => absurd (by rw [rs0, Int32.zero_and]) q) (Or.inl rfl)
    rw [e, cf, hr]
    simp only [Option.bind_some, if_true]
    exact rest I
   ·obtain ⟨x4, ga, gs, gr, gw, rr, rw'⟩ := good e
    obtain ⟨l, hle, hl2⟩ := least_ex S h80 h8 rx.1 (by omega) gr gs
    have cf : loopN (B0_500 s o a c ab lc s0 s1 s2 s3 i x y f rs ws bb st) qN (-1, 7) = some l := by
     refine conf8 S rr ?_ ?_
     ·intro k hk kl hbk v hv
      rcases hl2 with ⟨rfl, q⟩ | ⟨l0, l1, _, _, q⟩
      ·exact q k (by show k < 8; omega) hbk v hv
      ·rw [if_neg (by omega)] at kl
       exact q k (by omega) hbk v hv
     ·rcases hl2 with ⟨rfl, _⟩ | ⟨l0, l1, l2, l3, _⟩
      ·exact Or.inl rfl
      ·exact Or.inr ⟨l0, by rw [z8] at l1; exact l1, l2, l3⟩
    rw [cf]
    simp only [Option.bind_some]
    have com : F10 o x = (if (4 : Int32) < c - st then (F30 o x (-1) (-4)).bind fun r => some (r.1, r.2) else (if l < 0 then (F24 o x).bind fun r => some (r.1, r.2) else (F30 o x l (-3)).bind fun r => some (r.1, r.2))) := by
     unfold F10 F22
     rw [vt, e, g0 rx.1 gs, i1, i2]
     simp only [Option.bind_some]
     rw [if_neg n10]
     by_cases q : (4 : Int32) < c - st
     ·rw [if_pos q, if_pos q]
      simp only [Option.bind_some]
      rw [if_neg n10]
     ·rw [if_neg q, if_neg q]
      simp only [Option.bind_some, if_true]
      rw [hle]
      rfl
    have fail : ∀ k r : Int32, okP (F30 o x k r) (fun q => ∃ b : List Int32, b.length = 256 ∧ q = (r, s_lastConflict (s_abortCount (clr o x.toInt.toNat b) (ab + 1)) k)) := by
     intro k r
     unfold F30 F25
     apply okP.bind
     apply okP.bind
     refine okP.mono (clear_ok S rx.1 (by omega)) ?_
     rintro _ ⟨b, hb, rfl⟩
     apply okP.some
     apply okP.some
     refine ⟨b, hb, ?_⟩
     rw [show f_abortCount (clr o x.toInt.toNat b) = ab from i3]
    have okf : ∀ (k : Int32) (b : List Int32), b.length = 256 → Ok8 (a &&& (((1 : Int32) <<< (x &&& 31)) ^^^ (-1))) c (ab + 1) k s0 s1 s2 s3 (s_lastConflict (s_abortCount (clr o x.toInt.toNat b) (ab + 1)) k) := by
     intro k b hb
     obtain ⟨m, hm⟩ : ∃ m, m = ab + 1 := ⟨_, rfl⟩
     rw [← hm]
     exact cl8 I rx.1 x4 (Sh_lc (Sh_ab (Sh_clr S _ hb) _) _) rfl i2 rfl rfl rfl rfl rfl rfl
    apply okP.bind
    rw [com, e]
    simp only [if_neg n10]
    by_cases q : (4 : Int32) < c - st
    ·rw [if_pos q]
     apply okP.bind
     refine okP.mono (fail _ _) ?_
     rintro _ ⟨b, hb, rfl⟩
     apply okP.some
     simp only [if_pos q, if_true]
     exact rest (okf _ b hb)
    ·rw [if_neg q]
     by_cases ln : l < 0
     ·rw [if_pos ln]
      apply okP.bind
      refine okP.mono (install_ex S h80 h8 rx.1 (by omega) gw) ?_
      rintro _ ⟨va, ve, b, v1, v2, v3, rfl, v5⟩
      rw [i2] at v5 ⊢
      apply okP.some
      simp only [if_neg q, if_pos ln, if_true]
      obtain ⟨m, hm⟩ : ∃ m, m = c + 1 := ⟨_, rfl⟩
      rw [← hm] at v5 ⊢
      obtain ⟨p, hp⟩ : ∃ p, p = s_lastConflict (clr (s_version (s_value (s_commitCount o m) va) ve) x.toInt.toNat b) (-1) := ⟨_, rfl⟩
      rw [← hp]
      have Sp : Sh 8 4 p := by rw [hp]; exact Sh_lc (Sh_clr (Sh_ve (Sh_va (Sh_cc S _) v1) v2) _ v3) _
      have Ip : Ok8 (a &&& (((1 : Int32) <<< (x &&& 31)) ^^^ (-1))) m ab (-1) s0 s1 s2 s3 p := by
       refine cl8 I rx.1 x4 Sp ?_ ?_ ?_ ?_ ?_ ?_ ?_ ?_ <;> rw [hp]
       ·rfl
       ·rfl
       ·exact i3
       ·rfl
       ·rfl
       ·rfl
       ·rfl
       ·rfl
      have pv : f_value p = va := by rw [hp]; rfl
      have pe : f_version p = ve := by rw [hp]; rfl
      have vkp : ∀ k : Int32, 0 ≤ k.toInt → k.toInt < 8 → F8 p k = some 1 := by
       intro k k0 k1
       unfold F8
       rw [Sp.2.2.2.2.2.2.2.1, if_neg (by rw [i_lt]; show ¬ k.toInt < 0; omega), if_pos (by rw [i_lt]; exact k1), if_pos (by rw [i_lt]; show k.toInt < 32; omega)]
      obtain ⟨_, lv, rfl⟩ : okP (loopN (B0_634 s p (a &&& (((1 : Int32) <<< (x &&& 31)) ^^^ (-1))) m ab (-1) s0 s1 s2 s3 i y ws bb) qN 0) (fun r => r = Sum.inl ()) := by
       refine okP.loop (fun w => 0 ≤ w.toInt ∧ w.toInt ≤ 8) (fun w => (8 - w.toInt).toNat) ⟨by decide, by decide⟩ (by show (8 - (0 : Int)).toNat < 4000; decide) ?_
       intro w ⟨w0', w1'⟩
       unfold B0_634 J0_664
       refine okP.ite (fun wl => ?_) (fun _ => okP.some rfl)
       rw [i_lt, z8] at wl
       have e2' : (w + 1).toInt = w.toInt + 1 := inc1 (by omega)
       refine okP.ite (fun yes => ?_) (fun _ => okP.some ⟨⟨by omega, by omega⟩, by omega⟩)
       have hbw := (hb_shr rw'.1 rw'.2 w0' wl).mp yes
       have gv : F28 p w = some m := by
        unfold F28
        rw [vkp w w0' wl]
        simp only [Option.bind_some]
        rw [if_neg n10, g0 w0' (by rw [pe]; exact ((v5 w.toInt.toNat (by omega)).1 (by show _ < 8; omega) hbw).2)]; rfl
       rw [gv]
       simp only [Option.bind_some, if_true]
       exact okP.some ⟨⟨by omega, by omega⟩, by omega⟩
      rw [lv]
      simp only [Option.bind_some]
      refine okP.ite (fun yl' => ?_) (fun _ => rest Ip)
      have yl : y.toInt < 8 := by rw [i_lt, z8] at yl'; exact yl'
      refine okP.ite (fun yes => ?_) (fun _ => rest Ip)
      have hbw := (hb_shr rw'.1 rw'.2 ry.1 yl).mp yes
      have nz : ¬ (ws &&& ((1 : Int32) <<< (y &&& 31))) = 0 := by
       have t := hbw
       unfold hb at t
       rw [ofn ry.1] at t
       exact t
      have bufv : (f_buffered o)[x.toInt.toNat * 32 + y.toInt.toNat]? = some bb := by
       have eb := bufi rx.1 (by omega) ry.1 (show y.toInt < 32 by omega)
       unfold F6 at hbb
       rw [vt, e, vk yl] at hbb
       unfold F21 F27 at hbb
       simp only [Option.bind_some] at hbb
       rw [if_neg n10, if_neg n10, g0 rx.1 gw] at hbb
       simp only [Option.bind_some] at hbb
       rw [if_neg nz] at hbb
       obtain ⟨t, q1, q2⟩ := Option.bind_eq_some_iff.mp hbb
       cases q2
       unfold aget at q1
       rw [if_neg (by rw [i_lt]; show ¬ (x * 32 + y).toInt < 0; omega)] at q1
       have : (x * 32 + y).toNatClampNeg = x.toInt.toNat * 32 + y.toInt.toNat := by rw [i_nat]; omega
       rw [this] at q1
       exact q1
      have gv : F7 p y = some bb := by
       unfold F7
       rw [vkp y ry.1 yl]
       simp only [Option.bind_some]
       rw [if_neg n10, g0 ry.1 (by rw [pv, ((v5 y.toInt.toNat (by omega)).1 (by show _ < 8; omega) hbw).1]; exact bufv)]; rfl
      rw [gv]
      simp only [Option.bind_some, if_true]
      exact rest Ip
     ·rw [if_neg ln]
      apply okP.bind
      refine okP.mono (fail _ _) ?_
      rintro _ ⟨b, hb, rfl⟩
      apply okP.some
      simp only [if_neg q, if_neg ln, if_true]
      exact rest (okf _ b hb)
  ·-- abort
   rcases f01 with e | e
   ·have hr : F29 o x = some (-1, o) := by unfold F29; rw [vt, e]; rfl
    rw [hr, e]
    simp only [Option.bind_some, if_true]
    exact rest I
   ·obtain ⟨x4, ga, gs, gr, gw, rr, rw'⟩ := good e
    apply okP.bind
    unfold F29 F25
    rw [vt, e]
    simp only [Option.bind_some]
    rw [if_neg n10]
    apply okP.bind
    apply okP.bind
    refine okP.mono (clear_ok S rx.1 (by omega)) ?_
    rintro _ ⟨b, hb, rfl⟩
    apply okP.some
    apply okP.some
    simp only [if_neg n10, if_true]
    rw [show f_abortCount (clr o x.toInt.toNat b) = ab from i3]
    obtain ⟨m, hm⟩ : ∃ m, m = ab + 1 := ⟨_, rfl⟩
    rw [← hm]
    exact rest (cl8 I rx.1 x4 (Sh_ab (Sh_clr S _ hb) _) rfl i2 rfl i4 rfl rfl rfl rfl)
 ·apply okP.some
  obtain ⟨z1', z2', z3', z4', z5', z6', z7', _, _⟩ := S
  refine ⟨rfl, by show 9 - 1 ≤ _; decide, ?_⟩
  simp only [H0, qhs, qsz, z1', z2', z3', z4', z5', z6', z7']
  simp only [cN, room_1]
  omega
theorem law_ok (s : List Int32) (hs : s.length ≤ 260) : ∃ τ, F0 s = some (1, τ) ∧ τ.length - List.length ([Sum.inr (Sum.inl (FieldType.int, s))] : QHeap) ≤ room_1.cells ∧ qhs τ - qhs [Sum.inr (Sum.inl (FieldType.int, s))] ≤ room_1.slots := by
 obtain ⟨o, ho, I⟩ : ∃ o, F1 8 4 4 = some o ∧ Ok8 0 0 0 (-1) 0 0 0 0 o := by
  refine ⟨_, rfl, ?_, rfl, rfl, rfl, rfl, by decide, ?_, ?_, ?_⟩
  ·refine ⟨?_, ?_, ?_, ?_, ?_, ?_, ?_, rfl, rfl⟩ <;> exact List.length_replicate
  ·intro k hk
   show (List.replicate 8 (0 : Int32))[k]? = _
   have : ∀ k, k < 4 → bv 0 k = 0 := by decide
   rw [this k hk, List.getElem?_replicate, if_pos (by omega)]
  ·intro k hk q
   have : ∀ k, k < 4 → bv 0 k = 0 := by decide
   rw [this k hk] at q
   exact absurd q (by decide)
  ·intro k hk
   refine ⟨0, 0, ?_, ?_, by decide, by decide⟩
   ·show (List.replicate 8 (0 : Int32))[k]? = _
    rw [List.getElem?_replicate, if_pos (by omega)]
   ·show (List.replicate 8 (0 : Int32))[k]? = _
    rw [List.getElem?_replicate, if_pos (by omega)]
 have key : okP (loopN (B0_37 s) qN (0, 0, 0, -1, 0, 0, 0, 0, 0, o)) (fun e => e.1 = 1 ∧ sFit s e.2) := by
  refine okP.loop (fun v' : T8 => 0 ≤ v'.2.2.2.2.2.2.2.2.1.toInt ∧ v'.2.2.2.2.2.2.2.2.1.toInt ≤ 260 ∧ Ok8 v'.1 v'.2.1 v'.2.2.1 v'.2.2.2.1 v'.2.2.2.2.1 v'.2.2.2.2.2.1 v'.2.2.2.2.2.2.1 v'.2.2.2.2.2.2.2.1 v'.2.2.2.2.2.2.2.2.2) (fun v' => (264 - v'.2.2.2.2.2.2.2.2.1.toInt).toNat) ⟨by show (0 : Int) ≤ 0; decide, by show (0 : Int) ≤ 260; decide, I⟩ (by show (264 - (0 : Int)).toNat < 4000; decide) ?_
  rintro ⟨a, c, ab, lc, s0, s1, s2, s3, i, o⟩ ⟨h1, h2, h3⟩
  exact turn8 hs h3 h1 h2
 unfold F0
 rw [ho]
 simp only [Option.bind_some]
 obtain ⟨⟨r, τ⟩, q1, q2, q3⟩ := key
 rw [q1]
 simp only at q2
 subst q2
 exact ⟨τ, rfl, q3⟩
set_option maxRecDepth 65536 in
theorem comes_1 {Post : Tables → Env → Array Value → State → Outcome → State → Prop} (hpost : ∀ tb e args s v u, (limb_1_1.after args s (.returned v) u = true ∧ limb_1_2.after args s (.returned v) u = true ∧ True) → FrameEnd s (.returned v) u (Jvm.fieldLocs frame_1_writes args s ++ Jvm.arrayLocs frame_1_arrays args s ++ Jvm.staticLocs frame_1_statics s) 24 832 → Post tb e args s (.returned v) u) :
    ArmFor flags0 classFile x code maxLocals ret World_1 tables_1 room_1 Calls_1 rest_1 Pre_1 Post := by
  intro l hfl _ _ p e ha hc hk s m args below hf hA hF happ hP
  obtain ⟨hcalls, hrest, hpre⟩ := hP
  obtain ⟨-, -, -, hnamed, -, -, -, hat⟩ := (Spec.applies_iff hf).mp happ
  obtain ⟨hg, hn⟩ := and_e (Cond.before_iff.mp (show (Jvm.Cond.and given_1 narrow_1).before args s = true from hpre))
  obtain ⟨g0, g1⟩ := and_e hg
  obtain ⟨w0, rfl⟩ : ∃ w0 : Value, args = #[w0] := by
    have hs : args.size = 1 := by simpa [Cond.value, given_1] using g0
    obtain ⟨L⟩ := args
    match L, hs with
    | [w0], _ => exact ⟨w0, rfl⟩
  have hw := fun d (hd : d ∈ tables_1) => atoms_spec (ws := Jvm.Cond.code x code maxLocals ret :: tables_1) hat d (List.mem_cons_of_mem _ hd)
  have hfit : Fit s := fun {y c} hc i hi => by
    obtain ⟨ha, rfl⟩ := Array.getElem?_eq_some_iff.mp hc
    have q := List.all_eq_true.mp ((Array.all_eq_true_iff_forall_mem.mp hF) _ (Array.getElem_mem ha)) i (List.mem_range.mpr hi)
    simpa [Array.getElem?_eq_getElem hi] using q
  obtain ⟨n1, n2⟩ := and_e hn
  obtain ⟨a, cl, xs, rfl, hA1, hA2, hlen⟩ := script_ok hfit n1 n2
  obtain ⟨τ, hF0, hc1, hs1⟩ := law_ok xs hlen
  have hlt := hA1.lt
  have Ad : QAd s.heap.size (fun k => match k with | 0 => a | k + 1 => s.heap.size + k) := ⟨fun k hk => by cases k with | zero => exact absurd hk (by decide) | succ k => rfl, fun i j h => by
    cases i with
    | zero => cases j with
      | zero => rfl
      | succ j => have h' : a = s.heap.size + j := h; exact absurd hA1.lt (by rw [h']; exact Nat.not_lt.mpr (Nat.le_add_right _ _))
    | succ i => cases j with
      | zero => have h' : s.heap.size + i = a := h; exact absurd hA1.lt (by rw [← h']; exact Nat.not_lt.mpr (Nat.le_add_right _ _))
      | succ j => have h' : s.heap.size + i = s.heap.size + j := h; omega⟩
  have hR : QRep s s.heap.size (fun k => match k with | 0 => a | k + 1 => s.heap.size + k) s.heap [.inr (.inl (.int, xs))] := ⟨Nat.le_refl _, rfl, fun k c h => by
    cases k with
    | zero => cases h; exact ⟨cl, hA1, hA2⟩
    | succ k => cases h⟩
  have T := tF0 (l := l) (Z := s) Ad (QW_ok hw) xs hF0
  have M := QTri.met (k := 0) (as := [.ref 0]) (by decide) T hR (Nat.le_of_ble_eq_true rfl) (fun q => by cases q) tables_1 (rm := room_1) (by decide) (by decide) hc1 hs1
  obtain ⟨n, o, h1, h2, h3, _, L, rfl, ⟨rfl, R', N⟩, hq⟩ := M p e ha hc hk s m _ below hf ((Spec.applies_iff_loose hf).mp happ).1 ⟨rfl, State.Warmed39.refl s, rfl⟩ trivial
  refine ⟨n, _, h1, h2, h3, hpost _ _ _ _ _ _ ⟨Cond.after_iff.mpr rfl, Cond.after_iff.mpr (eq_i res_at (Term.int_eval (1)) rfl), trivial⟩ ⟨hq.1, hq.2.1, (hq.2.2.sift fun y hy => Or.inr (N y hy)).mono hc1 hs1⟩⟩
theorem main_1_1 : Claimed_1_1 := comes_1 fun _ _ _ _ _ _ h hF => ⟨h.1, hF⟩
theorem main_1_2 : Claimed_1_2 := comes_1 fun _ _ _ _ _ _ h hF => ⟨h.2.1, hF⟩
end Jvm.Pilot.@@N@@
namespace Jvm.Pilot.@@N@@
open Jvm Jvm.ClassFile Sem Op Lib Jvm.Free Jvm.Stand Jvm.Pilot.@@N@@.Jvm.D
/-! MADE BY PROGRAM (witnessworld.py) out of the Statement's table words and the real class files: 11 classes; the members and pool entries that the words name. The judged class is class 1, her method 2. -/
namespace start1
open Jvm.ClassFile
def u (s : String) : CpInfo := .utf8 (stringToUtf16 s)
/-- a pool by its gaps: so many unusable entries, then the entry; so many at the end -/
def gap : Nat → List CpInfo → List CpInfo
  | 0, r => r
  | n + 1, r => .unusable :: gap n r
def poolList (es : List (Nat × CpInfo)) (last : Nat) : List CpInfo := es.foldr (fun e r => gap e.1 (e.2 :: r)) (gap last [])
def pool (es : List (Nat × CpInfo)) (last : Nat) : Array CpInfo := ⟨poolList es last⟩
def fileOf (pool : Array CpInfo) (this : Nat) (attrs : Array Attribute := #[]) (ms : Array MethodInfo := #[]) (fl : Nat := 33) (sup : Nat := 0) (ifs : Array Nat := #[]) (fds : Array FieldInfo := #[]) : ClassFile where
  minorVersion := 0
  majorVersion := 65
  constantPool := pool
  accessFlags := fl
  thisClass := this
  superClass := sup
  interfaces := ifs
  fields := fds
  methods := ms
  attributes := attrs
def plain (name : String) (sup : Option ClassId) : Class where
  name := name
  kind := .ordinary
  loader := none
  accessFlags := 33
  super := sup
  interfaces := #[]
  cf := none
  fields := #[]
  methods := #[]
  instanceTypes := #[]
  staticTypes := #[]
  resolved := #[]
  callSites := []
  init := .initialized
  statics := none
  mirror := none

def pool0 : Array CpInfo := pool [(5, u "<init>"), (0, u "()V"), (1, .class_ 10), (1, u "java/lang/Object")] 113

def k0c0 : Code := { maxStack := 0, maxLocals := 1, code := object_method_1_code, exceptionTable := #[], attributes := #[] }
def k0m0 : Method := { name := "<init>", desc := "()V", sig := { parameters := [], returnType := none }, accessFlags := 1, code := some k0c0 }
/-- java/lang/Object -/
def k0 : Class := { plain "java/lang/Object" none with
  accessFlags := 33
  interfaces := #[]
  cf := some (fileOf pool0 8 #[] #[{ accessFlags := 1, nameIndex := 5, descriptorIndex := 6, attributes := #[] }] 33 0 #[] #[])
  fields := #[]
  methods := #[k0m0]
  instanceTypes := #[]
  staticTypes := #[]
  resolved := Array.replicate 124 none
  statics := none }

def pool1 : Array CpInfo := pool [(2, .class_ 4), (1, u "java/lang/Object"), (0, u "<init>"), (0, u "()V"), (0, .class_ 8), (0, u "OccValidator"), (0, .methodref 7 10), (0, .nameAndType 5 11), (0, u "(III)V"), (0, .methodref 7 13), (0, .nameAndType 14 15), (0, u "getReadSet"), (0, u "(I)I"), (0, .methodref 7 17), (0, .nameAndType 18 15), (0, u "getWriteSet"), (0, .methodref 7 20), (0, .nameAndType 21 22), (0, u "getBuffered"), (0, u "(II)I"), (0, .methodref 7 24), (0, .nameAndType 25 15), (0, u "getValue"), (0, .methodref 27 28), (0, .class_ 29), (0, .nameAndType 30 31), (0, u "OccValidatorL6"), (0, u "pick"), (0, u "(IIIII)I"), (0, .methodref 7 33), (0, .nameAndType 34 35), (0, u "begin"), (0, u "()I"), (0, .methodref 7 37), (0, .nameAndType 38 22), (0, u "read"), (0, .methodref 7 40), (0, .nameAndType 41 42), (0, u "write"), (0, u "(III)I"), (0, .methodref 7 44), (0, .nameAndType 45 15), (0, u "getVersion"), (0, .methodref 7 47), (0, .nameAndType 48 15), (0, u "commit"), (0, .methodref 7 50), (0, .nameAndType 51 15), (0, u "abort"), (0, .methodref 7 53), (0, .nameAndType 54 35), (0, u "getCommitCount"), (0, .methodref 7 56), (0, .nameAndType 57 35), (0, u "getAbortCount"), (0, .methodref 7 59), (0, .nameAndType 60 35), (0, u "getLastConflictKey"), (0, .methodref 7 62), (0, .nameAndType 63 64), (0, u "isActive"), (0, u "(I)Z"), (0, .methodref 7 66), (0, .nameAndType 67 15), (0, u "getStart"), (3, u "law"), (0, u "([I)Z")] 4

def k1m0 : Method := { name := "<init>", desc := "()V", sig := { parameters := [], returnType := none }, accessFlags := 1, code := none }
def k1c1 : Code := { maxStack := 2, maxLocals := 5, code := method_2_code, exceptionTable := #[], attributes := #[] }
def k1m1 : Method := { name := "pick", desc := "(IIIII)I", sig := { parameters := [.int, .int, .int, .int, .int], returnType := some .int }, accessFlags := 10, code := some k1c1 }
def k1c2 : Code := { maxStack := 6, maxLocals := 24, code := code, exceptionTable := #[], attributes := #[] }
def k1m2 : Method := { name := "law", desc := "([I)Z", sig := { parameters := [(.array .int)], returnType := some .boolean }, accessFlags := 9, code := some k1c2 }
/-- OccValidatorL6 -/
def k1 : Class := { plain "OccValidatorL6" (some 0) with
  accessFlags := 33
  interfaces := #[]
  cf := some (fileOf pool1 27 #[] #[{ accessFlags := 1, nameIndex := 5, descriptorIndex := 6, attributes := #[] }, { accessFlags := 10, nameIndex := 30, descriptorIndex := 31, attributes := #[] }, { accessFlags := 9, nameIndex := 71, descriptorIndex := 72, attributes := #[] }] 33 2 #[] #[])
  fields := #[]
  methods := #[k1m0, k1m1, k1m2]
  instanceTypes := #[]
  staticTypes := #[]
  resolved := Array.replicate 77 none
  statics := none }

def pool2 : Array CpInfo := pool [(1, .methodref 2 3), (0, .class_ 4), (0, .nameAndType 5 6), (0, u "java/lang/Object"), (0, u "<init>"), (0, u "()V"), (0, .fieldref 8 9), (0, .class_ 10), (0, .nameAndType 11 12), (0, u "OccValidator"), (0, u "value"), (0, u "[I"), (0, .fieldref 8 14), (0, .nameAndType 15 12), (0, u "version"), (0, .fieldref 8 17), (0, .nameAndType 18 19), (0, u "active"), (0, u "[Z"), (0, .fieldref 8 21), (0, .nameAndType 22 12), (0, u "start"), (0, .fieldref 8 24), (0, .nameAndType 25 12), (0, u "readSet"), (0, .fieldref 8 27), (0, .nameAndType 28 12), (0, u "writeSet"), (0, .fieldref 8 30), (0, .nameAndType 31 12), (0, u "buffered"), (0, .methodref 8 33), (0, .nameAndType 34 35), (0, u "clamp"), (0, u "(III)I"), (0, .fieldref 8 37), (0, .nameAndType 38 39), (0, u "keyCount"), (0, u "I"), (0, .fieldref 8 41), (0, .nameAndType 42 39), (0, u "slotCount"), (0, .fieldref 8 44), (0, .nameAndType 45 39), (0, u "window"), (0, .fieldref 8 47), (0, .nameAndType 48 39), (0, u "commitCount"), (0, .fieldref 8 50), (0, .nameAndType 51 39), (0, u "abortCount"), (0, .fieldref 8 53), (0, .nameAndType 54 39), (0, u "lastConflict"), (0, .methodref 8 56), (0, .nameAndType 57 58), (0, u "findFreeSlot"), (0, u "()I"), (0, .methodref 8 60), (0, .nameAndType 61 62), (0, u "openSlot"), (0, u "(I)V"), (0, .methodref 8 64), (0, .nameAndType 65 66), (0, u "isValidTx"), (0, u "(I)Z"), (0, .methodref 8 68), (0, .nameAndType 69 66), (0, u "isValidKey"), (0, .methodref 8 71), (0, .nameAndType 72 73), (0, u "bit"), (0, u "(I)I"), (0, .methodref 8 75), (0, .nameAndType 76 77), (0, u "bufIndex"), (0, u "(II)I"), (0, .methodref 8 79), (0, .nameAndType 80 66), (0, u "isStale"), (0, .methodref 8 82), (0, .nameAndType 83 35), (0, u "failCommit"), (0, .methodref 8 85), (0, .nameAndType 86 73), (0, u "leastConflict"), (0, .methodref 8 88), (0, .nameAndType 89 73), (0, u "install"), (0, .methodref 8 91), (0, .nameAndType 92 62), (0, u "endTx"), (0, .methodref 8 94), (0, .nameAndType 95 62), (0, u "clearSlot"), (0, u "OK"), (2, u "ERR_TX"), (1, u "ERR_KEY"), (1, u "ABORT_CONFLICT"), (1, u "ABORT_STALE"), (1, u "ERR_FULL"), (1, u "(III)V"), (2, u "begin"), (1, u "read"), (0, u "write"), (0, u "commit"), (0, u "abort"), (0, u "getValue"), (0, u "getVersion"), (0, u "getCommitCount"), (0, u "getAbortCount"), (0, u "getLastConflictKey"), (0, u "isActive"), (0, u "getStart"), (0, u "getReadSet"), (0, u "getWriteSet"), (0, u "getBuffered")] 2

def k2c0 : Code := { maxStack := 5, maxLocals := 4, code := prog_1_method_1_code, exceptionTable := #[], attributes := #[] }
def k2m0 : Method := { name := "<init>", desc := "(III)V", sig := { parameters := [.int, .int, .int], returnType := none }, accessFlags := 1, code := some k2c0 }
def k2c1 : Code := { maxStack := 2, maxLocals := 2, code := prog_1_method_2_code, exceptionTable := #[], attributes := #[] }
def k2m1 : Method := { name := "begin", desc := "()I", sig := { parameters := [], returnType := some .int }, accessFlags := 1, code := some k2c1 }
def k2c2 : Code := { maxStack := 4, maxLocals := 4, code := prog_1_method_3_code, exceptionTable := #[], attributes := #[] }
def k2m2 : Method := { name := "read", desc := "(II)I", sig := { parameters := [.int, .int], returnType := some .int }, accessFlags := 1, code := some k2c2 }
def k2c3 : Code := { maxStack := 5, maxLocals := 4, code := prog_1_method_4_code, exceptionTable := #[], attributes := #[] }
def k2m3 : Method := { name := "write", desc := "(III)I", sig := { parameters := [.int, .int, .int], returnType := some .int }, accessFlags := 1, code := some k2c3 }
def k2c4 : Code := { maxStack := 4, maxLocals := 3, code := prog_1_method_5_code, exceptionTable := #[], attributes := #[] }
def k2m4 : Method := { name := "commit", desc := "(I)I", sig := { parameters := [.int], returnType := some .int }, accessFlags := 1, code := some k2c4 }
def k2c5 : Code := { maxStack := 3, maxLocals := 2, code := prog_1_method_6_code, exceptionTable := #[], attributes := #[] }
def k2m5 : Method := { name := "abort", desc := "(I)I", sig := { parameters := [.int], returnType := some .int }, accessFlags := 1, code := some k2c5 }
def k2c6 : Code := { maxStack := 2, maxLocals := 2, code := prog_1_method_7_code, exceptionTable := #[], attributes := #[] }
def k2m6 : Method := { name := "getValue", desc := "(I)I", sig := { parameters := [.int], returnType := some .int }, accessFlags := 1, code := some k2c6 }
def k2c7 : Code := { maxStack := 2, maxLocals := 2, code := prog_1_method_8_code, exceptionTable := #[], attributes := #[] }
def k2m7 : Method := { name := "getVersion", desc := "(I)I", sig := { parameters := [.int], returnType := some .int }, accessFlags := 1, code := some k2c7 }
def k2c8 : Code := { maxStack := 1, maxLocals := 1, code := prog_1_method_9_code, exceptionTable := #[], attributes := #[] }
def k2m8 : Method := { name := "getCommitCount", desc := "()I", sig := { parameters := [], returnType := some .int }, accessFlags := 1, code := some k2c8 }
def k2c9 : Code := { maxStack := 1, maxLocals := 1, code := prog_1_method_10_code, exceptionTable := #[], attributes := #[] }
def k2m9 : Method := { name := "getAbortCount", desc := "()I", sig := { parameters := [], returnType := some .int }, accessFlags := 1, code := some k2c9 }
def k2c10 : Code := { maxStack := 1, maxLocals := 1, code := prog_1_method_11_code, exceptionTable := #[], attributes := #[] }
def k2m10 : Method := { name := "getLastConflictKey", desc := "()I", sig := { parameters := [], returnType := some .int }, accessFlags := 1, code := some k2c10 }
def k2c11 : Code := { maxStack := 2, maxLocals := 2, code := prog_1_method_12_code, exceptionTable := #[], attributes := #[] }
def k2m11 : Method := { name := "isActive", desc := "(I)Z", sig := { parameters := [.int], returnType := some .boolean }, accessFlags := 1, code := some k2c11 }
def k2c12 : Code := { maxStack := 2, maxLocals := 2, code := prog_1_method_13_code, exceptionTable := #[], attributes := #[] }
def k2m12 : Method := { name := "getStart", desc := "(I)I", sig := { parameters := [.int], returnType := some .int }, accessFlags := 1, code := some k2c12 }
def k2c13 : Code := { maxStack := 2, maxLocals := 2, code := prog_1_method_14_code, exceptionTable := #[], attributes := #[] }
def k2m13 : Method := { name := "getReadSet", desc := "(I)I", sig := { parameters := [.int], returnType := some .int }, accessFlags := 1, code := some k2c13 }
def k2c14 : Code := { maxStack := 2, maxLocals := 2, code := prog_1_method_15_code, exceptionTable := #[], attributes := #[] }
def k2m14 : Method := { name := "getWriteSet", desc := "(I)I", sig := { parameters := [.int], returnType := some .int }, accessFlags := 1, code := some k2c14 }
def k2c15 : Code := { maxStack := 4, maxLocals := 3, code := prog_1_method_16_code, exceptionTable := #[], attributes := #[] }
def k2m15 : Method := { name := "getBuffered", desc := "(II)I", sig := { parameters := [.int, .int], returnType := some .int }, accessFlags := 1, code := some k2c15 }
def k2c16 : Code := { maxStack := 2, maxLocals := 4, code := prog_1_method_17_code, exceptionTable := #[], attributes := #[] }
def k2m16 : Method := { name := "clamp", desc := "(III)I", sig := { parameters := [.int, .int, .int], returnType := some .int }, accessFlags := 2, code := some k2c16 }
def k2c17 : Code := { maxStack := 2, maxLocals := 2, code := prog_1_method_18_code, exceptionTable := #[], attributes := #[] }
def k2m17 : Method := { name := "isValidTx", desc := "(I)Z", sig := { parameters := [.int], returnType := some .boolean }, accessFlags := 2, code := some k2c17 }
def k2c18 : Code := { maxStack := 2, maxLocals := 2, code := prog_1_method_19_code, exceptionTable := #[], attributes := #[] }
def k2m18 : Method := { name := "isValidKey", desc := "(I)Z", sig := { parameters := [.int], returnType := some .boolean }, accessFlags := 2, code := some k2c18 }
def k2c19 : Code := { maxStack := 2, maxLocals := 2, code := prog_1_method_20_code, exceptionTable := #[], attributes := #[] }
def k2m19 : Method := { name := "bit", desc := "(I)I", sig := { parameters := [.int], returnType := some .int }, accessFlags := 2, code := some k2c19 }
def k2c20 : Code := { maxStack := 2, maxLocals := 3, code := prog_1_method_21_code, exceptionTable := #[], attributes := #[] }
def k2m20 : Method := { name := "bufIndex", desc := "(II)I", sig := { parameters := [.int, .int], returnType := some .int }, accessFlags := 2, code := some k2c20 }
def k2c21 : Code := { maxStack := 2, maxLocals := 2, code := prog_1_method_22_code, exceptionTable := #[], attributes := #[] }
def k2m21 : Method := { name := "findFreeSlot", desc := "()I", sig := { parameters := [], returnType := some .int }, accessFlags := 2, code := some k2c21 }
def k2c22 : Code := { maxStack := 3, maxLocals := 2, code := prog_1_method_23_code, exceptionTable := #[], attributes := #[] }
def k2m22 : Method := { name := "openSlot", desc := "(I)V", sig := { parameters := [.int], returnType := none }, accessFlags := 2, code := some k2c22 }
def k2c23 : Code := { maxStack := 3, maxLocals := 4, code := prog_1_method_24_code, exceptionTable := #[], attributes := #[] }
def k2m23 : Method := { name := "clearSlot", desc := "(I)V", sig := { parameters := [.int], returnType := none }, accessFlags := 2, code := some k2c23 }
def k2c24 : Code := { maxStack := 2, maxLocals := 2, code := prog_1_method_25_code, exceptionTable := #[], attributes := #[] }
def k2m24 : Method := { name := "endTx", desc := "(I)V", sig := { parameters := [.int], returnType := none }, accessFlags := 2, code := some k2c24 }
def k2c25 : Code := { maxStack := 3, maxLocals := 2, code := prog_1_method_26_code, exceptionTable := #[], attributes := #[] }
def k2m25 : Method := { name := "isStale", desc := "(I)Z", sig := { parameters := [.int], returnType := some .boolean }, accessFlags := 2, code := some k2c25 }
def k2c26 : Code := { maxStack := 3, maxLocals := 5, code := prog_1_method_27_code, exceptionTable := #[], attributes := #[] }
def k2m26 : Method := { name := "leastConflict", desc := "(I)I", sig := { parameters := [.int], returnType := some .int }, accessFlags := 2, code := some k2c26 }
def k2c27 : Code := { maxStack := 3, maxLocals := 4, code := prog_1_method_28_code, exceptionTable := #[], attributes := #[] }
def k2m27 : Method := { name := "failCommit", desc := "(III)I", sig := { parameters := [.int, .int, .int], returnType := some .int }, accessFlags := 2, code := some k2c27 }
def k2c28 : Code := { maxStack := 6, maxLocals := 5, code := prog_1_method_29_code, exceptionTable := #[], attributes := #[] }
def k2m28 : Method := { name := "install", desc := "(I)I", sig := { parameters := [.int], returnType := some .int }, accessFlags := 2, code := some k2c28 }
/-- OccValidator -/
def k2 : Class := { plain "OccValidator" (some 0) with
  accessFlags := 49
  interfaces := #[]
  cf := some (fileOf pool2 8 #[] #[{ accessFlags := 1, nameIndex := 5, descriptorIndex := 109, attributes := #[] }, { accessFlags := 1, nameIndex := 112, descriptorIndex := 58, attributes := #[] }, { accessFlags := 1, nameIndex := 114, descriptorIndex := 77, attributes := #[] }, { accessFlags := 1, nameIndex := 115, descriptorIndex := 35, attributes := #[] }, { accessFlags := 1, nameIndex := 116, descriptorIndex := 73, attributes := #[] }, { accessFlags := 1, nameIndex := 117, descriptorIndex := 73, attributes := #[] }, { accessFlags := 1, nameIndex := 118, descriptorIndex := 73, attributes := #[] }, { accessFlags := 1, nameIndex := 119, descriptorIndex := 73, attributes := #[] }, { accessFlags := 1, nameIndex := 120, descriptorIndex := 58, attributes := #[] }, { accessFlags := 1, nameIndex := 121, descriptorIndex := 58, attributes := #[] }, { accessFlags := 1, nameIndex := 122, descriptorIndex := 58, attributes := #[] }, { accessFlags := 1, nameIndex := 123, descriptorIndex := 66, attributes := #[] }, { accessFlags := 1, nameIndex := 124, descriptorIndex := 73, attributes := #[] }, { accessFlags := 1, nameIndex := 125, descriptorIndex := 73, attributes := #[] }, { accessFlags := 1, nameIndex := 126, descriptorIndex := 73, attributes := #[] }, { accessFlags := 1, nameIndex := 127, descriptorIndex := 77, attributes := #[] }, { accessFlags := 2, nameIndex := 34, descriptorIndex := 35, attributes := #[] }, { accessFlags := 2, nameIndex := 65, descriptorIndex := 66, attributes := #[] }, { accessFlags := 2, nameIndex := 69, descriptorIndex := 66, attributes := #[] }, { accessFlags := 2, nameIndex := 72, descriptorIndex := 73, attributes := #[] }, { accessFlags := 2, nameIndex := 76, descriptorIndex := 77, attributes := #[] }, { accessFlags := 2, nameIndex := 57, descriptorIndex := 58, attributes := #[] }, { accessFlags := 2, nameIndex := 61, descriptorIndex := 62, attributes := #[] }, { accessFlags := 2, nameIndex := 95, descriptorIndex := 62, attributes := #[] }, { accessFlags := 2, nameIndex := 92, descriptorIndex := 62, attributes := #[] }, { accessFlags := 2, nameIndex := 80, descriptorIndex := 66, attributes := #[] }, { accessFlags := 2, nameIndex := 86, descriptorIndex := 73, attributes := #[] }, { accessFlags := 2, nameIndex := 83, descriptorIndex := 35, attributes := #[] }, { accessFlags := 2, nameIndex := 89, descriptorIndex := 73, attributes := #[] }] 49 2 #[] #[{ accessFlags := 25, nameIndex := 96, descriptorIndex := 39, attributes := #[] }, { accessFlags := 25, nameIndex := 99, descriptorIndex := 39, attributes := #[] }, { accessFlags := 25, nameIndex := 101, descriptorIndex := 39, attributes := #[] }, { accessFlags := 25, nameIndex := 103, descriptorIndex := 39, attributes := #[] }, { accessFlags := 25, nameIndex := 105, descriptorIndex := 39, attributes := #[] }, { accessFlags := 25, nameIndex := 107, descriptorIndex := 39, attributes := #[] }, { accessFlags := 2, nameIndex := 38, descriptorIndex := 39, attributes := #[] }, { accessFlags := 2, nameIndex := 42, descriptorIndex := 39, attributes := #[] }, { accessFlags := 2, nameIndex := 45, descriptorIndex := 39, attributes := #[] }, { accessFlags := 2, nameIndex := 48, descriptorIndex := 39, attributes := #[] }, { accessFlags := 2, nameIndex := 51, descriptorIndex := 39, attributes := #[] }, { accessFlags := 2, nameIndex := 54, descriptorIndex := 39, attributes := #[] }, { accessFlags := 2, nameIndex := 11, descriptorIndex := 12, attributes := #[] }, { accessFlags := 2, nameIndex := 15, descriptorIndex := 12, attributes := #[] }, { accessFlags := 2, nameIndex := 18, descriptorIndex := 19, attributes := #[] }, { accessFlags := 2, nameIndex := 22, descriptorIndex := 12, attributes := #[] }, { accessFlags := 2, nameIndex := 25, descriptorIndex := 12, attributes := #[] }, { accessFlags := 2, nameIndex := 28, descriptorIndex := 12, attributes := #[] }, { accessFlags := 2, nameIndex := 31, descriptorIndex := 12, attributes := #[] }])
  fields := #[{ name := "OK", type := .int, accessFlags := 25, slot := 0, constantValue := 0 }, { name := "ERR_TX", type := .int, accessFlags := 25, slot := 1, constantValue := 0 }, { name := "ERR_KEY", type := .int, accessFlags := 25, slot := 2, constantValue := 0 }, { name := "ABORT_CONFLICT", type := .int, accessFlags := 25, slot := 3, constantValue := 0 }, { name := "ABORT_STALE", type := .int, accessFlags := 25, slot := 4, constantValue := 0 }, { name := "ERR_FULL", type := .int, accessFlags := 25, slot := 5, constantValue := 0 }, { name := "keyCount", type := .int, accessFlags := 2, slot := 0, constantValue := 0 }, { name := "slotCount", type := .int, accessFlags := 2, slot := 1, constantValue := 0 }, { name := "window", type := .int, accessFlags := 2, slot := 2, constantValue := 0 }, { name := "commitCount", type := .int, accessFlags := 2, slot := 3, constantValue := 0 }, { name := "abortCount", type := .int, accessFlags := 2, slot := 4, constantValue := 0 }, { name := "lastConflict", type := .int, accessFlags := 2, slot := 5, constantValue := 0 }, { name := "value", type := (.array .int), accessFlags := 2, slot := 6, constantValue := 0 }, { name := "version", type := (.array .int), accessFlags := 2, slot := 7, constantValue := 0 }, { name := "active", type := (.array .boolean), accessFlags := 2, slot := 8, constantValue := 0 }, { name := "start", type := (.array .int), accessFlags := 2, slot := 9, constantValue := 0 }, { name := "readSet", type := (.array .int), accessFlags := 2, slot := 10, constantValue := 0 }, { name := "writeSet", type := (.array .int), accessFlags := 2, slot := 11, constantValue := 0 }, { name := "buffered", type := (.array .int), accessFlags := 2, slot := 12, constantValue := 0 }]
  methods := #[k2m0, k2m1, k2m2, k2m3, k2m4, k2m5, k2m6, k2m7, k2m8, k2m9, k2m10, k2m11, k2m12, k2m13, k2m14, k2m15, k2m16, k2m17, k2m18, k2m19, k2m20, k2m21, k2m22, k2m23, k2m24, k2m25, k2m26, k2m27, k2m28]
  instanceTypes := #[.int, .int, .int, .int, .int, .int, (.array .int), (.array .int), (.array .boolean), (.array .int), (.array .int), (.array .int), (.array .int)]
  staticTypes := #[.int, .int, .int, .int, .int, .int]
  resolved := Array.replicate 130 none
  statics := none }

def pool3 : Array CpInfo := pool [(1, u "java/lang/Cloneable"), (0, .class_ 1), (0, u "java/lang/Object"), (0, .class_ 3)] 3

/-- java/lang/Cloneable -/
def k3 : Class := { plain "java/lang/Cloneable" (some 0) with
  accessFlags := 1537
  interfaces := #[]
  cf := some (fileOf pool3 2 #[] #[] 1537 4 #[] #[])
  fields := #[]
  methods := #[]
  instanceTypes := #[]
  staticTypes := #[]
  resolved := Array.replicate 8 none
  statics := none }

def pool4 : Array CpInfo := pool [(1, u "java/io/Serializable"), (0, .class_ 1), (0, u "java/lang/Object"), (0, .class_ 3)] 3

/-- java/io/Serializable -/
def k4 : Class := { plain "java/io/Serializable" (some 0) with
  accessFlags := 1537
  interfaces := #[]
  cf := some (fileOf pool4 2 #[] #[] 1537 4 #[] #[])
  fields := #[]
  methods := #[]
  instanceTypes := #[]
  staticTypes := #[]
  resolved := Array.replicate 8 none
  statics := none }

/-- the primitive boolean -/
def k5 : Class := { plain "boolean" none with kind := .primitive 'Z', accessFlags := 0x411 }
/-- [Z -/
def k6 : Class := { plain "[Z" (some 0) with kind := .array 5 .boolean, interfaces := #[3, 4], accessFlags := 1041 }

/-- the primitive byte -/
def k7 : Class := { plain "byte" none with kind := .primitive 'B', accessFlags := 0x411 }
/-- [B -/
def k8 : Class := { plain "[B" (some 0) with kind := .array 7 .byte, interfaces := #[3, 4], accessFlags := 1041 }

/-- the primitive int -/
def k9 : Class := { plain "int" none with kind := .primitive 'I', accessFlags := 0x411 }
/-- [I -/
def k10 : Class := { plain "[I" (some 0) with kind := .array 9 .int, interfaces := #[3, 4], accessFlags := 1041 }

def heap : Heap := #[{ cls := 10, slots := #[.int 1, .int 2, .int 3], vm := .none }]
def classes : Array Class := #[k0, k1, k2, k3, k4, k5, k6, k7, k8, k9, k10]
def interned : List (Array UInt16 × Addr) := []
def slotsUsed : Nat := 3
def theMethod : MethodId := ⟨1, 2⟩
def args0 : Array Value := #[.ref 0]
def aboutOver (below : List Frame) : State where
  vm := { classes := classes, interned := interned.toArray }
  heap := heap
  slotsUsed := slotsUsed
  threads := #[{ frames := .invoking theMethod args0 :: below }]
def below0 : List Frame := [.native { method := ⟨0, 0⟩, args := #[] }]
def about1 : State := aboutOver below0
def p0 : Program := .bare "" "" ""
def e0 : Env := launch0.env 0 0 0
theorem w_frames : about1.frames = Frame.invoking theMethod args0 :: below0 := rfl
set_option maxRecDepth 65536 in
theorem w_args : argsFit about1.vm theMethod args0 = true := by decide +kernel
set_option maxRecDepth 65536 in
theorem w_heap : heapFits about1 = true := by decide +kernel
set_option maxRecDepth 65536 in
theorem w_runnable : about1.curStatus? = some .runnable := by decide +kernel
set_option maxRecDepth 65536 in
theorem w_alone : about1.alone = true := by decide +kernel
set_option maxRecDepth 65536 in
theorem w_named : about1.methodNamed? x = some theMethod := by decide +kernel
set_option maxRecDepth 65536 in
theorem w_hears : about1.hears theMethod below0 = true := by decide +kernel
set_option maxRecDepth 65536 in
theorem w_ripe : about1.ripe theMethod args0 below0 = true := by decide +kernel
theorem w_running : about1.status = .running := rfl
set_option maxRecDepth 65536 in
theorem w_room : about1.hasRoom e0.platform room_1 = true :=
  launch0.hasRoom_least _ room_1 (by decide +kernel) (by decide +kernel) (by decide +kernel) (by decide +kernel) (by decide +kernel) (by decide +kernel)
theorem allAtoms_all (ts : List Jvm.Cond) (a : Array Jvm.Value) (st : Jvm.State) : (allAtoms ts).before a st = ts.all (fun c => c.before a st) := by
  induction ts with
  | nil => rfl
  | cons c t ih =>
    show (Jvm.Cond.and c (allAtoms t)).before a st = _
    rw [Jvm.Cond.before_and, ih, List.all_cons]
def words1 : List Jvm.Cond := Jvm.Cond.code x code maxLocals ret :: tables_1
/-- a 'code' word, met by the world's own term for the bytes: nothing is compared byte by byte -/
theorem code_word {y : MethodName} {bytes : ByteArray} {mx : Nat} {rt : Option FieldType} {a : Array Value} {s : State} {m : MethodId} {meth : Method} {c : Code} (h1 : s.methodNamed? y = some m) (h2 : s.vm.method? m = some meth) (h3 : meth.code = some c) (h4 : c.code = bytes)
    (h5 : (c.maxLocals == mx && c.exceptionTable.isEmpty && decide (c.maxStack ≤ mostOperands) && decide (meth.sig.returnType = rt) && !meth.locks && decide (parseMethodDescriptor y.desc = some meth.sig)) = true) : (Jvm.Cond.code y bytes mx rt).before a s = true := by
  simp only [Bool.and_eq_true, beq_iff_eq, Bool.not_eq_true', decide_eq_true_eq] at h5
  obtain ⟨⟨⟨⟨⟨g1, g2⟩, g3⟩, g4⟩, g5⟩, g6⟩ := h5
  simp [Cond.before, Cond.holds, Cond.value, h1, h2, h3, h4, g1, g2, g3, g4, g5, g6]
def isCode : Jvm.Cond → Bool
  | .code _ _ _ _ => true
  | _ => false
theorem all_split {L : List Jvm.Cond} {P : Jvm.Cond → Bool} (h1 : L.all (fun c => isCode c || P c) = true) (h2 : ∀ c ∈ L.filter isCode, P c = true) : L.all P = true := by
  refine List.all_eq_true.mpr fun c hc => ?_
  have h := List.all_eq_true.mp h1 c hc
  rcases Bool.eq_false_or_eq_true (isCode c) with hi | hi
  · exact h2 c (List.mem_filter.mpr ⟨hc, hi⟩)
  · simpa [hi] using h
set_option maxRecDepth 65536 in
theorem w_c0 : (Jvm.Cond.code x code maxLocals ret).before args0 about1 = true := code_word (m := ⟨1, 2⟩) (meth := k1m2) (c := k1c2) (by decide +kernel) rfl rfl rfl (by decide +kernel)
set_option maxRecDepth 65536 in
theorem w_c1 : (Jvm.Cond.code ({ cls := "OccValidator", name := "<init>", desc := "(III)V" } : Jvm.MethodName) prog_1_method_1_code (4 : Nat) (Option.none : Option Jvm.ClassFile.FieldType)).before args0 about1 = true := code_word (m := ⟨2, 0⟩) (meth := k2m0) (c := k2c0) (by decide +kernel) rfl rfl rfl (by decide +kernel)
set_option maxRecDepth 65536 in
theorem w_c2 : (Jvm.Cond.code ({ cls := "java/lang/Object", name := "<init>", desc := "()V" } : Jvm.MethodName) object_method_1_code (1 : Nat) (Option.none : Option Jvm.ClassFile.FieldType)).before args0 about1 = true := code_word (m := ⟨0, 0⟩) (meth := k0m0) (c := k0c0) (by decide +kernel) rfl rfl rfl (by decide +kernel)
set_option maxRecDepth 65536 in
theorem w_c3 : (Jvm.Cond.code ({ cls := "OccValidator", name := "clamp", desc := "(III)I" } : Jvm.MethodName) prog_1_method_17_code (4 : Nat) (Option.some Jvm.ClassFile.FieldType.int)).before args0 about1 = true := code_word (m := ⟨2, 16⟩) (meth := k2m16) (c := k2c16) (by decide +kernel) rfl rfl rfl (by decide +kernel)
set_option maxRecDepth 65536 in
theorem w_c4 : (Jvm.Cond.code ({ cls := "OccValidator", name := "getReadSet", desc := "(I)I" } : Jvm.MethodName) prog_1_method_14_code (2 : Nat) (Option.some Jvm.ClassFile.FieldType.int)).before args0 about1 = true := code_word (m := ⟨2, 13⟩) (meth := k2m13) (c := k2c13) (by decide +kernel) rfl rfl rfl (by decide +kernel)
set_option maxRecDepth 65536 in
theorem w_c5 : (Jvm.Cond.code ({ cls := "OccValidator", name := "isValidTx", desc := "(I)Z" } : Jvm.MethodName) prog_1_method_18_code (2 : Nat) (Option.some Jvm.ClassFile.FieldType.boolean)).before args0 about1 = true := code_word (m := ⟨2, 17⟩) (meth := k2m17) (c := k2c17) (by decide +kernel) rfl rfl rfl (by decide +kernel)
set_option maxRecDepth 65536 in
theorem w_c6 : (Jvm.Cond.code ({ cls := "OccValidator", name := "getWriteSet", desc := "(I)I" } : Jvm.MethodName) prog_1_method_15_code (2 : Nat) (Option.some Jvm.ClassFile.FieldType.int)).before args0 about1 = true := code_word (m := ⟨2, 14⟩) (meth := k2m14) (c := k2c14) (by decide +kernel) rfl rfl rfl (by decide +kernel)
set_option maxRecDepth 65536 in
theorem w_c7 : (Jvm.Cond.code ({ cls := "OccValidator", name := "getBuffered", desc := "(II)I" } : Jvm.MethodName) prog_1_method_16_code (3 : Nat) (Option.some Jvm.ClassFile.FieldType.int)).before args0 about1 = true := code_word (m := ⟨2, 15⟩) (meth := k2m15) (c := k2c15) (by decide +kernel) rfl rfl rfl (by decide +kernel)
set_option maxRecDepth 65536 in
theorem w_c8 : (Jvm.Cond.code ({ cls := "OccValidator", name := "getValue", desc := "(I)I" } : Jvm.MethodName) prog_1_method_7_code (2 : Nat) (Option.some Jvm.ClassFile.FieldType.int)).before args0 about1 = true := code_word (m := ⟨2, 6⟩) (meth := k2m6) (c := k2c6) (by decide +kernel) rfl rfl rfl (by decide +kernel)
set_option maxRecDepth 65536 in
theorem w_c9 : (Jvm.Cond.code ({ cls := "OccValidator", name := "isValidKey", desc := "(I)Z" } : Jvm.MethodName) prog_1_method_19_code (2 : Nat) (Option.some Jvm.ClassFile.FieldType.boolean)).before args0 about1 = true := code_word (m := ⟨2, 18⟩) (meth := k2m18) (c := k2c18) (by decide +kernel) rfl rfl rfl (by decide +kernel)
set_option maxRecDepth 65536 in
theorem w_c10 : (Jvm.Cond.code ({ cls := "OccValidatorL6", name := "pick", desc := "(IIIII)I" } : Jvm.MethodName) method_2_code (5 : Nat) (Option.some Jvm.ClassFile.FieldType.int)).before args0 about1 = true := code_word (m := ⟨1, 1⟩) (meth := k1m1) (c := k1c1) (by decide +kernel) rfl rfl rfl (by decide +kernel)
set_option maxRecDepth 65536 in
theorem w_c11 : (Jvm.Cond.code ({ cls := "OccValidator", name := "commit", desc := "(I)I" } : Jvm.MethodName) prog_1_method_5_code (3 : Nat) (Option.some Jvm.ClassFile.FieldType.int)).before args0 about1 = true := code_word (m := ⟨2, 4⟩) (meth := k2m4) (c := k2c4) (by decide +kernel) rfl rfl rfl (by decide +kernel)
set_option maxRecDepth 65536 in
theorem w_c12 : (Jvm.Cond.code ({ cls := "OccValidator", name := "getCommitCount", desc := "()I" } : Jvm.MethodName) prog_1_method_9_code (1 : Nat) (Option.some Jvm.ClassFile.FieldType.int)).before args0 about1 = true := code_word (m := ⟨2, 8⟩) (meth := k2m8) (c := k2c8) (by decide +kernel) rfl rfl rfl (by decide +kernel)
set_option maxRecDepth 65536 in
theorem w_c13 : (Jvm.Cond.code ({ cls := "OccValidator", name := "getAbortCount", desc := "()I" } : Jvm.MethodName) prog_1_method_10_code (1 : Nat) (Option.some Jvm.ClassFile.FieldType.int)).before args0 about1 = true := code_word (m := ⟨2, 9⟩) (meth := k2m9) (c := k2c9) (by decide +kernel) rfl rfl rfl (by decide +kernel)
set_option maxRecDepth 65536 in
theorem w_c14 : (Jvm.Cond.code ({ cls := "OccValidator", name := "getLastConflictKey", desc := "()I" } : Jvm.MethodName) prog_1_method_11_code (1 : Nat) (Option.some Jvm.ClassFile.FieldType.int)).before args0 about1 = true := code_word (m := ⟨2, 10⟩) (meth := k2m10) (c := k2c10) (by decide +kernel) rfl rfl rfl (by decide +kernel)
set_option maxRecDepth 65536 in
theorem w_c15 : (Jvm.Cond.code ({ cls := "OccValidator", name := "isActive", desc := "(I)Z" } : Jvm.MethodName) prog_1_method_12_code (2 : Nat) (Option.some Jvm.ClassFile.FieldType.boolean)).before args0 about1 = true := code_word (m := ⟨2, 11⟩) (meth := k2m11) (c := k2c11) (by decide +kernel) rfl rfl rfl (by decide +kernel)
set_option maxRecDepth 65536 in
theorem w_c16 : (Jvm.Cond.code ({ cls := "OccValidator", name := "getStart", desc := "(I)I" } : Jvm.MethodName) prog_1_method_13_code (2 : Nat) (Option.some Jvm.ClassFile.FieldType.int)).before args0 about1 = true := code_word (m := ⟨2, 12⟩) (meth := k2m12) (c := k2c12) (by decide +kernel) rfl rfl rfl (by decide +kernel)
set_option maxRecDepth 65536 in
theorem w_c17 : (Jvm.Cond.code ({ cls := "OccValidator", name := "read", desc := "(II)I" } : Jvm.MethodName) prog_1_method_3_code (4 : Nat) (Option.some Jvm.ClassFile.FieldType.int)).before args0 about1 = true := code_word (m := ⟨2, 2⟩) (meth := k2m2) (c := k2c2) (by decide +kernel) rfl rfl rfl (by decide +kernel)
set_option maxRecDepth 65536 in
theorem w_c18 : (Jvm.Cond.code ({ cls := "OccValidator", name := "begin", desc := "()I" } : Jvm.MethodName) prog_1_method_2_code (2 : Nat) (Option.some Jvm.ClassFile.FieldType.int)).before args0 about1 = true := code_word (m := ⟨2, 1⟩) (meth := k2m1) (c := k2c1) (by decide +kernel) rfl rfl rfl (by decide +kernel)
set_option maxRecDepth 65536 in
theorem w_c19 : (Jvm.Cond.code ({ cls := "OccValidator", name := "findFreeSlot", desc := "()I" } : Jvm.MethodName) prog_1_method_22_code (2 : Nat) (Option.some Jvm.ClassFile.FieldType.int)).before args0 about1 = true := code_word (m := ⟨2, 21⟩) (meth := k2m21) (c := k2c21) (by decide +kernel) rfl rfl rfl (by decide +kernel)
set_option maxRecDepth 65536 in
theorem w_c20 : (Jvm.Cond.code ({ cls := "OccValidator", name := "openSlot", desc := "(I)V" } : Jvm.MethodName) prog_1_method_23_code (2 : Nat) (Option.none : Option Jvm.ClassFile.FieldType)).before args0 about1 = true := code_word (m := ⟨2, 22⟩) (meth := k2m22) (c := k2c22) (by decide +kernel) rfl rfl rfl (by decide +kernel)
set_option maxRecDepth 65536 in
theorem w_c21 : (Jvm.Cond.code ({ cls := "OccValidator", name := "clearSlot", desc := "(I)V" } : Jvm.MethodName) prog_1_method_24_code (4 : Nat) (Option.none : Option Jvm.ClassFile.FieldType)).before args0 about1 = true := code_word (m := ⟨2, 23⟩) (meth := k2m23) (c := k2c23) (by decide +kernel) rfl rfl rfl (by decide +kernel)
set_option maxRecDepth 65536 in
theorem w_c22 : (Jvm.Cond.code ({ cls := "OccValidator", name := "bit", desc := "(I)I" } : Jvm.MethodName) prog_1_method_20_code (2 : Nat) (Option.some Jvm.ClassFile.FieldType.int)).before args0 about1 = true := code_word (m := ⟨2, 19⟩) (meth := k2m19) (c := k2c19) (by decide +kernel) rfl rfl rfl (by decide +kernel)
set_option maxRecDepth 65536 in
theorem w_c23 : (Jvm.Cond.code ({ cls := "OccValidator", name := "isStale", desc := "(I)Z" } : Jvm.MethodName) prog_1_method_26_code (2 : Nat) (Option.some Jvm.ClassFile.FieldType.boolean)).before args0 about1 = true := code_word (m := ⟨2, 25⟩) (meth := k2m25) (c := k2c25) (by decide +kernel) rfl rfl rfl (by decide +kernel)
set_option maxRecDepth 65536 in
theorem w_c24 : (Jvm.Cond.code ({ cls := "OccValidator", name := "leastConflict", desc := "(I)I" } : Jvm.MethodName) prog_1_method_27_code (5 : Nat) (Option.some Jvm.ClassFile.FieldType.int)).before args0 about1 = true := code_word (m := ⟨2, 26⟩) (meth := k2m26) (c := k2c26) (by decide +kernel) rfl rfl rfl (by decide +kernel)
set_option maxRecDepth 65536 in
theorem w_c25 : (Jvm.Cond.code ({ cls := "OccValidator", name := "install", desc := "(I)I" } : Jvm.MethodName) prog_1_method_29_code (5 : Nat) (Option.some Jvm.ClassFile.FieldType.int)).before args0 about1 = true := code_word (m := ⟨2, 28⟩) (meth := k2m28) (c := k2c28) (by decide +kernel) rfl rfl rfl (by decide +kernel)
set_option maxRecDepth 65536 in
theorem w_c26 : (Jvm.Cond.code ({ cls := "OccValidator", name := "endTx", desc := "(I)V" } : Jvm.MethodName) prog_1_method_25_code (2 : Nat) (Option.none : Option Jvm.ClassFile.FieldType)).before args0 about1 = true := code_word (m := ⟨2, 24⟩) (meth := k2m24) (c := k2c24) (by decide +kernel) rfl rfl rfl (by decide +kernel)
set_option maxRecDepth 65536 in
theorem w_c27 : (Jvm.Cond.code ({ cls := "OccValidator", name := "write", desc := "(III)I" } : Jvm.MethodName) prog_1_method_4_code (4 : Nat) (Option.some Jvm.ClassFile.FieldType.int)).before args0 about1 = true := code_word (m := ⟨2, 3⟩) (meth := k2m3) (c := k2c3) (by decide +kernel) rfl rfl rfl (by decide +kernel)
set_option maxRecDepth 65536 in
theorem w_c28 : (Jvm.Cond.code ({ cls := "OccValidator", name := "bufIndex", desc := "(II)I" } : Jvm.MethodName) prog_1_method_21_code (3 : Nat) (Option.some Jvm.ClassFile.FieldType.int)).before args0 about1 = true := code_word (m := ⟨2, 20⟩) (meth := k2m20) (c := k2c20) (by decide +kernel) rfl rfl rfl (by decide +kernel)
set_option maxRecDepth 65536 in
theorem w_c29 : (Jvm.Cond.code ({ cls := "OccValidator", name := "getVersion", desc := "(I)I" } : Jvm.MethodName) prog_1_method_8_code (2 : Nat) (Option.some Jvm.ClassFile.FieldType.int)).before args0 about1 = true := code_word (m := ⟨2, 7⟩) (meth := k2m7) (c := k2c7) (by decide +kernel) rfl rfl rfl (by decide +kernel)
set_option maxRecDepth 65536 in
theorem w_c30 : (Jvm.Cond.code ({ cls := "OccValidator", name := "abort", desc := "(I)I" } : Jvm.MethodName) prog_1_method_6_code (2 : Nat) (Option.some Jvm.ClassFile.FieldType.int)).before args0 about1 = true := code_word (m := ⟨2, 5⟩) (meth := k2m5) (c := k2c5) (by decide +kernel) rfl rfl rfl (by decide +kernel)
set_option maxRecDepth 65536 in
theorem w_c31 : (Jvm.Cond.code ({ cls := "OccValidator", name := "failCommit", desc := "(III)I" } : Jvm.MethodName) prog_1_method_28_code (4 : Nat) (Option.some Jvm.ClassFile.FieldType.int)).before args0 about1 = true := code_word (m := ⟨2, 27⟩) (meth := k2m27) (c := k2c27) (by decide +kernel) rfl rfl rfl (by decide +kernel)
def codes1 : List Jvm.Cond := [Jvm.Cond.code x code maxLocals ret, Jvm.Cond.code ({ cls := "OccValidator", name := "<init>", desc := "(III)V" } : Jvm.MethodName) prog_1_method_1_code (4 : Nat) (Option.none : Option Jvm.ClassFile.FieldType), Jvm.Cond.code ({ cls := "java/lang/Object", name := "<init>", desc := "()V" } : Jvm.MethodName) object_method_1_code (1 : Nat) (Option.none : Option Jvm.ClassFile.FieldType), Jvm.Cond.code ({ cls := "OccValidator", name := "clamp", desc := "(III)I" } : Jvm.MethodName) prog_1_method_17_code (4 : Nat) (Option.some Jvm.ClassFile.FieldType.int), Jvm.Cond.code ({ cls := "OccValidator", name := "getReadSet", desc := "(I)I" } : Jvm.MethodName) prog_1_method_14_code (2 : Nat) (Option.some Jvm.ClassFile.FieldType.int), Jvm.Cond.code ({ cls := "OccValidator", name := "isValidTx", desc := "(I)Z" } : Jvm.MethodName) prog_1_method_18_code (2 : Nat) (Option.some Jvm.ClassFile.FieldType.boolean), Jvm.Cond.code ({ cls := "OccValidator", name := "getWriteSet", desc := "(I)I" } : Jvm.MethodName) prog_1_method_15_code (2 : Nat) (Option.some Jvm.ClassFile.FieldType.int), Jvm.Cond.code ({ cls := "OccValidator", name := "getBuffered", desc := "(II)I" } : Jvm.MethodName) prog_1_method_16_code (3 : Nat) (Option.some Jvm.ClassFile.FieldType.int), Jvm.Cond.code ({ cls := "OccValidator", name := "getValue", desc := "(I)I" } : Jvm.MethodName) prog_1_method_7_code (2 : Nat) (Option.some Jvm.ClassFile.FieldType.int), Jvm.Cond.code ({ cls := "OccValidator", name := "isValidKey", desc := "(I)Z" } : Jvm.MethodName) prog_1_method_19_code (2 : Nat) (Option.some Jvm.ClassFile.FieldType.boolean), Jvm.Cond.code ({ cls := "OccValidatorL6", name := "pick", desc := "(IIIII)I" } : Jvm.MethodName) method_2_code (5 : Nat) (Option.some Jvm.ClassFile.FieldType.int), Jvm.Cond.code ({ cls := "OccValidator", name := "commit", desc := "(I)I" } : Jvm.MethodName) prog_1_method_5_code (3 : Nat) (Option.some Jvm.ClassFile.FieldType.int), Jvm.Cond.code ({ cls := "OccValidator", name := "getCommitCount", desc := "()I" } : Jvm.MethodName) prog_1_method_9_code (1 : Nat) (Option.some Jvm.ClassFile.FieldType.int), Jvm.Cond.code ({ cls := "OccValidator", name := "getAbortCount", desc := "()I" } : Jvm.MethodName) prog_1_method_10_code (1 : Nat) (Option.some Jvm.ClassFile.FieldType.int), Jvm.Cond.code ({ cls := "OccValidator", name := "getLastConflictKey", desc := "()I" } : Jvm.MethodName) prog_1_method_11_code (1 : Nat) (Option.some Jvm.ClassFile.FieldType.int), Jvm.Cond.code ({ cls := "OccValidator", name := "isActive", desc := "(I)Z" } : Jvm.MethodName) prog_1_method_12_code (2 : Nat) (Option.some Jvm.ClassFile.FieldType.boolean), Jvm.Cond.code ({ cls := "OccValidator", name := "getStart", desc := "(I)I" } : Jvm.MethodName) prog_1_method_13_code (2 : Nat) (Option.some Jvm.ClassFile.FieldType.int), Jvm.Cond.code ({ cls := "OccValidator", name := "read", desc := "(II)I" } : Jvm.MethodName) prog_1_method_3_code (4 : Nat) (Option.some Jvm.ClassFile.FieldType.int), Jvm.Cond.code ({ cls := "OccValidator", name := "begin", desc := "()I" } : Jvm.MethodName) prog_1_method_2_code (2 : Nat) (Option.some Jvm.ClassFile.FieldType.int), Jvm.Cond.code ({ cls := "OccValidator", name := "findFreeSlot", desc := "()I" } : Jvm.MethodName) prog_1_method_22_code (2 : Nat) (Option.some Jvm.ClassFile.FieldType.int), Jvm.Cond.code ({ cls := "OccValidator", name := "openSlot", desc := "(I)V" } : Jvm.MethodName) prog_1_method_23_code (2 : Nat) (Option.none : Option Jvm.ClassFile.FieldType), Jvm.Cond.code ({ cls := "OccValidator", name := "clearSlot", desc := "(I)V" } : Jvm.MethodName) prog_1_method_24_code (4 : Nat) (Option.none : Option Jvm.ClassFile.FieldType), Jvm.Cond.code ({ cls := "OccValidator", name := "bit", desc := "(I)I" } : Jvm.MethodName) prog_1_method_20_code (2 : Nat) (Option.some Jvm.ClassFile.FieldType.int), Jvm.Cond.code ({ cls := "OccValidator", name := "isStale", desc := "(I)Z" } : Jvm.MethodName) prog_1_method_26_code (2 : Nat) (Option.some Jvm.ClassFile.FieldType.boolean), Jvm.Cond.code ({ cls := "OccValidator", name := "leastConflict", desc := "(I)I" } : Jvm.MethodName) prog_1_method_27_code (5 : Nat) (Option.some Jvm.ClassFile.FieldType.int), Jvm.Cond.code ({ cls := "OccValidator", name := "install", desc := "(I)I" } : Jvm.MethodName) prog_1_method_29_code (5 : Nat) (Option.some Jvm.ClassFile.FieldType.int), Jvm.Cond.code ({ cls := "OccValidator", name := "endTx", desc := "(I)V" } : Jvm.MethodName) prog_1_method_25_code (2 : Nat) (Option.none : Option Jvm.ClassFile.FieldType), Jvm.Cond.code ({ cls := "OccValidator", name := "write", desc := "(III)I" } : Jvm.MethodName) prog_1_method_4_code (4 : Nat) (Option.some Jvm.ClassFile.FieldType.int), Jvm.Cond.code ({ cls := "OccValidator", name := "bufIndex", desc := "(II)I" } : Jvm.MethodName) prog_1_method_21_code (3 : Nat) (Option.some Jvm.ClassFile.FieldType.int), Jvm.Cond.code ({ cls := "OccValidator", name := "getVersion", desc := "(I)I" } : Jvm.MethodName) prog_1_method_8_code (2 : Nat) (Option.some Jvm.ClassFile.FieldType.int), Jvm.Cond.code ({ cls := "OccValidator", name := "abort", desc := "(I)I" } : Jvm.MethodName) prog_1_method_6_code (2 : Nat) (Option.some Jvm.ClassFile.FieldType.int), Jvm.Cond.code ({ cls := "OccValidator", name := "failCommit", desc := "(III)I" } : Jvm.MethodName) prog_1_method_28_code (4 : Nat) (Option.some Jvm.ClassFile.FieldType.int)]
set_option maxRecDepth 65536 in
theorem codes_eq : words1.filter isCode = codes1 := rfl
theorem w_codes : ∀ c ∈ words1.filter isCode, c.before args0 about1 = true := by
  rw [codes_eq]
  intro c hc
  simp only [codes1, List.mem_cons, List.not_mem_nil, or_false] at hc
  rcases hc with rfl | rfl | rfl | rfl | rfl | rfl | rfl | rfl | rfl | rfl | rfl | rfl | rfl | rfl | rfl | rfl | rfl | rfl | rfl | rfl | rfl | rfl | rfl | rfl | rfl | rfl | rfl | rfl | rfl | rfl | rfl | rfl
  · exact w_c0
  · exact w_c1
  · exact w_c2
  · exact w_c3
  · exact w_c4
  · exact w_c5
  · exact w_c6
  · exact w_c7
  · exact w_c8
  · exact w_c9
  · exact w_c10
  · exact w_c11
  · exact w_c12
  · exact w_c13
  · exact w_c14
  · exact w_c15
  · exact w_c16
  · exact w_c17
  · exact w_c18
  · exact w_c19
  · exact w_c20
  · exact w_c21
  · exact w_c22
  · exact w_c23
  · exact w_c24
  · exact w_c25
  · exact w_c26
  · exact w_c27
  · exact w_c28
  · exact w_c29
  · exact w_c30
  · exact w_c31
set_option maxRecDepth 65536 in
theorem w_t1 : (words1.take 24).all (fun c => isCode c || c.before args0 about1) = true := by decide +kernel
set_option maxRecDepth 65536 in
theorem w_t2 : ((words1.drop 24).take 24).all (fun c => isCode c || c.before args0 about1) = true := by decide +kernel
set_option maxRecDepth 65536 in
theorem w_t3 : (((words1.drop 24).drop 24).take 24).all (fun c => isCode c || c.before args0 about1) = true := by decide +kernel
set_option maxRecDepth 65536 in
theorem w_t4 : ((((words1.drop 24).drop 24).drop 24).take 24).all (fun c => isCode c || c.before args0 about1) = true := by decide +kernel
set_option maxRecDepth 65536 in
theorem w_t5 : (((((words1.drop 24).drop 24).drop 24).drop 24).take 24).all (fun c => isCode c || c.before args0 about1) = true := by decide +kernel
set_option maxRecDepth 65536 in
theorem w_t6 : ((((((words1.drop 24).drop 24).drop 24).drop 24).drop 24).take 24).all (fun c => isCode c || c.before args0 about1) = true := by decide +kernel
set_option maxRecDepth 65536 in
theorem w_t7 : (((((((words1.drop 24).drop 24).drop 24).drop 24).drop 24).drop 24).take 24).all (fun c => isCode c || c.before args0 about1) = true := by decide +kernel
set_option maxRecDepth 65536 in
theorem w_t8 : (((((((words1.drop 24).drop 24).drop 24).drop 24).drop 24).drop 24).drop 24).all (fun c => isCode c || c.before args0 about1) = true := by decide +kernel
theorem w_tables : (allAtoms (Jvm.Cond.code x code maxLocals ret :: tables_1)).before args0 about1 = true := by
  rw [allAtoms_all]
  show words1.all (fun c => c.before args0 about1) = true
  refine all_split ?_ w_codes
  rw [← List.take_append_drop 24 words1, List.all_append, w_t1, ← List.take_append_drop 24 (words1.drop 24), List.all_append, w_t2, ← List.take_append_drop 24 ((words1.drop 24).drop 24), List.all_append, w_t3, ← List.take_append_drop 24 (((words1.drop 24).drop 24).drop 24), List.all_append, w_t4, ← List.take_append_drop 24 ((((words1.drop 24).drop 24).drop 24).drop 24), List.all_append, w_t5, ← List.take_append_drop 24 (((((words1.drop 24).drop 24).drop 24).drop 24).drop 24), List.all_append, w_t6, ← List.take_append_drop 24 ((((((words1.drop 24).drop 24).drop 24).drop 24).drop 24).drop 24), List.all_append, w_t7, w_t8]
  rfl
set_option maxRecDepth 65536 in
theorem w_rest : rest_1_c.before args0 about1 = true := by decide +kernel
set_option maxRecDepth 65536 in
theorem w_case : (Jvm.Cond.and given_1 narrow_1).before args0 about1 = true := by decide +kernel
theorem w_applies : (headSpec (Jvm.Cond.code x code maxLocals ret :: tables_1) room_1).applies x e0.platform about1 = true :=
  (Spec.applies_iff w_frames).mpr ⟨w_running, w_runnable, w_alone, w_named, w_hears, w_ripe, w_room, w_tables⟩
theorem atStart : AtStart classFile x code maxLocals ret World_1 tables_1 room_1 Calls_1 rest_1 Pre_1 launch0 p0 e0 about1 theMethod args0 below0 :=
  ⟨lists_1, trivial, launch0.admits_env _ _ _, launch0.least_env, fairChoices_fair.cas, fairChoices_fair.clock, w_frames, w_args, w_heap, w_applies, trivial, w_rest, w_case⟩
end start1
theorem witness_1 : WitnessClaimed_1 := ⟨start1.p0, start1.e0, start1.about1, start1.theMethod, start1.args0, start1.below0, start1.atStart⟩
end Jvm.Pilot.@@N@@
