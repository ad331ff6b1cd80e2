import JvmDerived
import JvmDerived.Pilot.@@N@@Statement
import JvmDerived.Pilot.@@N@@Code
set_option linter.unusedVariables false
set_option linter.unusedSimpArgs false
namespace Jvm.RoadKit
open Sem ClassFile Op Lib Jvm.Stand Jvm.Free Jvm.LawKit
section New
variable {p : Program} {l : Launch} {e : Env} {R : Room} {s : State} {m : MethodId} {args : Array Value} {below : List Frame} {meth : Method} {c : Code} {T : State} {locs : List Loc} {cells slots : Nat}
theorem retI (X : Stand p l e R s m args below meth c T locs cells slots) (hx : p.tables.exec = Jvm.exec) {pc : Nat} {Ls : Array Slot} {z : Int32} {rest : List Value} (hret : meth.sig.returnType = some .int) (hd : decode c.code pc = .ok (.ireturn, 1)) {fs : List Frame}
    (hl : ∀ (f : JFrame) (acts : List Action), f.method = m → f.locked = none → f.entered = [] → (doReturn e (T.setTop f) acts (some (.int z))).1 = T.setFrames fs) : Steps p.tables e below (T.setTop (mkF m pc Ls (.int z :: rest))) (T.setFrames fs) := by
  have hm' : T.vm.method? m = some meth := X.method'
  have hn : narrow .int (.int z) = .int z := rfl
  show Steps p.tables e below (T.setTop { method := m, pc := pc, locals := Ls, stack := _ :: rest, locked := none }) _
  jvm_step X.here [X.here.top, hx, hd, hm', hret, hn]
  first | (intro acts; rw [hl _ acts rfl rfl rfl]) | rw [hl _ _ rfl rfl rfl]
  exact Steps.refl _
end New
end Jvm.RoadKit
namespace Jvm.Pilot.@@N@@
open Jvm Jvm.ClassFile Sem Op Lib Jvm.Free Jvm.Stand Jvm.LawKit Jvm.RoadKit Bundle Jvm.Pilot.@@N@@.Jvm.D
/-! TABLES of this claim: printed by claim.py -/
def k0 : Nat := 0
def cName : String := "OccValidator"
def cN : Nat := 13
def nF : Nat := 13
def kName (k : Nat) : String := bif Nat.beq k 0 then "OccValidatorL3" else "OccValidator"
def fNm (k : Nat) : String := (bif Nat.ble 6 k then (bif Nat.ble 9 k then (bif Nat.ble 11 k then (bif Nat.ble 12 k then "lastConflict" else "abortCount") else (bif Nat.ble 10 k then "commitCount" else "window")) else (bif Nat.ble 7 k then (bif Nat.ble 8 k then "slotCount" else "keyCount") else "buffered")) else (bif Nat.ble 3 k then (bif Nat.ble 4 k then (bif Nat.ble 5 k then "writeSet" else "readSet") else "start") else (bif Nat.ble 1 k then (bif Nat.ble 2 k then "active" else "version") else "value")))
def fDs (k : Nat) : String := (bif Nat.ble 6 k then (bif Nat.ble 9 k then (bif Nat.ble 11 k then (bif Nat.ble 12 k then "I" else "I") else (bif Nat.ble 10 k then "I" else "I")) else (bif Nat.ble 7 k then (bif Nat.ble 8 k then "I" else "I") else "[I")) else (bif Nat.ble 3 k then (bif Nat.ble 4 k then (bif Nat.ble 5 k then "[I" else "[I") else "[I") else (bif Nat.ble 1 k then (bif Nat.ble 2 k then "[Z" else "[I") else "[I")))
def fTy (k : Nat) : FieldType := (bif Nat.ble 6 k then (bif Nat.ble 9 k then (bif Nat.ble 11 k then (bif Nat.ble 12 k then .int else .int) else (bif Nat.ble 10 k then .int else .int)) else (bif Nat.ble 7 k then (bif Nat.ble 8 k then .int else .int) else (.array .int))) else (bif Nat.ble 3 k then (bif Nat.ble 4 k then (bif Nat.ble 5 k then (.array .int) else (.array .int)) else (.array .int)) else (bif Nat.ble 1 k then (bif Nat.ble 2 k then (.array .boolean) else (.array .int)) else (.array .int))))
def fFin (k : Nat) : Bool := (bif Nat.ble 6 k then (bif Nat.ble 9 k then (bif Nat.ble 11 k then (bif Nat.ble 12 k then false else false) else (bif Nat.ble 10 k then false else false)) else (bif Nat.ble 7 k then (bif Nat.ble 8 k then false else false) else false)) else (bif Nat.ble 3 k then (bif Nat.ble 4 k then (bif Nat.ble 5 k then false else false) else false) else (bif Nat.ble 1 k then (bif Nat.ble 2 k then false else false) else false)))
def cDef : List Value := [.null, .null, .null, .null, .null, .null, .null, .int 0, .int 0, .int 0, .int 0, .int 0, .int 0]
def cK : List Value := []
def pN : Nat := 25
def pTop : Nat := 422
def pK (m : Nat) : Nat := (bif Nat.ble 12 m then (bif Nat.ble 18 m then (bif Nat.ble 21 m then (bif Nat.ble 23 m then (bif Nat.ble 24 m then 1 else 1) else (bif Nat.ble 22 m then 1 else 1)) else (bif Nat.ble 19 m then (bif Nat.ble 20 m then 1 else 1) else 1)) else (bif Nat.ble 15 m then (bif Nat.ble 16 m then (bif Nat.ble 17 m then 1 else 1) else 1) else (bif Nat.ble 13 m then (bif Nat.ble 14 m then 1 else 1) else 1))) else (bif Nat.ble 6 m then (bif Nat.ble 9 m then (bif Nat.ble 10 m then (bif Nat.ble 11 m then 1 else 1) else 1) else (bif Nat.ble 7 m then (bif Nat.ble 8 m then 1 else 1) else 1)) else (bif Nat.ble 3 m then (bif Nat.ble 4 m then (bif Nat.ble 5 m then 1 else 1) else 1) else (bif Nat.ble 1 m then (bif Nat.ble 2 m then 1 else 1) else 0))))
def pNm (m : Nat) : String := (bif Nat.ble 12 m then (bif Nat.ble 18 m then (bif Nat.ble 21 m then (bif Nat.ble 23 m then (bif Nat.ble 24 m then "getVersion" else "getValue") else (bif Nat.ble 22 m then "isActive" else "getLastConflictKey")) else (bif Nat.ble 19 m then (bif Nat.ble 20 m then "getAbortCount" else "getCommitCount") else "failCommit")) else (bif Nat.ble 15 m then (bif Nat.ble 16 m then (bif Nat.ble 17 m then "endTx" else "install") else "leastConflict") else (bif Nat.ble 13 m then (bif Nat.ble 14 m then "isStale" else "commit") else "bufIndex"))) else (bif Nat.ble 6 m then (bif Nat.ble 9 m then (bif Nat.ble 10 m then (bif Nat.ble 11 m then "write" else "bit") else "isValidKey") else (bif Nat.ble 7 m then (bif Nat.ble 8 m then "isValidTx" else "read") else "clearSlot")) else (bif Nat.ble 3 m then (bif Nat.ble 4 m then (bif Nat.ble 5 m then "openSlot" else "findFreeSlot") else "begin") else (bif Nat.ble 1 m then (bif Nat.ble 2 m then "clamp" else "<init>") else "law"))))
def pDs (m : Nat) : String := (bif Nat.ble 12 m then (bif Nat.ble 18 m then (bif Nat.ble 21 m then (bif Nat.ble 23 m then (bif Nat.ble 24 m then "(I)I" else "(I)I") else (bif Nat.ble 22 m then "(I)Z" else "()I")) else (bif Nat.ble 19 m then (bif Nat.ble 20 m then "()I" else "()I") else "(III)I")) else (bif Nat.ble 15 m then (bif Nat.ble 16 m then (bif Nat.ble 17 m then "(I)V" else "(I)I") else "(I)I") else (bif Nat.ble 13 m then (bif Nat.ble 14 m then "(I)Z" else "(I)I") else "(II)I"))) else (bif Nat.ble 6 m then (bif Nat.ble 9 m then (bif Nat.ble 10 m then (bif Nat.ble 11 m then "(III)I" else "(I)I") else "(I)Z") else (bif Nat.ble 7 m then (bif Nat.ble 8 m then "(I)Z" else "(II)I") else "(I)V")) else (bif Nat.ble 3 m then (bif Nat.ble 4 m then (bif Nat.ble 5 m then "(I)V" else "()I") else "()I") else (bif Nat.ble 1 m then (bif Nat.ble 2 m then "(III)I" else "(III)V") else "(IIIIII)Z"))))
def pName (m : Nat) : MethodName := ⟨kName (pK m), pNm m, pDs m⟩
def pBytes (m : Nat) : ByteArray := (bif Nat.ble 12 m then (bif Nat.ble 18 m then (bif Nat.ble 21 m then (bif Nat.ble 23 m then (bif Nat.ble 24 m then prog_1_method_8_code else prog_1_method_7_code) else (bif Nat.ble 22 m then prog_1_method_12_code else prog_1_method_11_code)) else (bif Nat.ble 19 m then (bif Nat.ble 20 m then prog_1_method_10_code else prog_1_method_9_code) else prog_1_method_28_code)) else (bif Nat.ble 15 m then (bif Nat.ble 16 m then (bif Nat.ble 17 m then prog_1_method_25_code else prog_1_method_29_code) else prog_1_method_27_code) else (bif Nat.ble 13 m then (bif Nat.ble 14 m then prog_1_method_26_code else prog_1_method_5_code) else prog_1_method_21_code))) else (bif Nat.ble 6 m then (bif Nat.ble 9 m then (bif Nat.ble 10 m then (bif Nat.ble 11 m then prog_1_method_4_code else prog_1_method_20_code) else prog_1_method_19_code) else (bif Nat.ble 7 m then (bif Nat.ble 8 m then prog_1_method_18_code else prog_1_method_3_code) else prog_1_method_24_code)) else (bif Nat.ble 3 m then (bif Nat.ble 4 m then (bif Nat.ble 5 m then prog_1_method_23_code else prog_1_method_22_code) else prog_1_method_2_code) else (bif Nat.ble 1 m then (bif Nat.ble 2 m then prog_1_method_17_code else prog_1_method_1_code) else code))))
def pMaxL (m : Nat) : Nat := (bif Nat.ble 12 m then (bif Nat.ble 18 m then (bif Nat.ble 21 m then (bif Nat.ble 23 m then (bif Nat.ble 24 m then 2 else 2) else (bif Nat.ble 22 m then 2 else 1)) else (bif Nat.ble 19 m then (bif Nat.ble 20 m then 1 else 1) else 4)) else (bif Nat.ble 15 m then (bif Nat.ble 16 m then (bif Nat.ble 17 m then 2 else 5) else 5) else (bif Nat.ble 13 m then (bif Nat.ble 14 m then 2 else 3) else 3))) else (bif Nat.ble 6 m then (bif Nat.ble 9 m then (bif Nat.ble 10 m then (bif Nat.ble 11 m then 4 else 2) else 2) else (bif Nat.ble 7 m then (bif Nat.ble 8 m then 2 else 4) else 4)) else (bif Nat.ble 3 m then (bif Nat.ble 4 m then (bif Nat.ble 5 m then 2 else 2) else 2) else (bif Nat.ble 1 m then (bif Nat.ble 2 m then 4 else 4) else 19))))
def pRet (m : Nat) : Option FieldType := (bif Nat.ble 12 m then (bif Nat.ble 18 m then (bif Nat.ble 21 m then (bif Nat.ble 23 m then (bif Nat.ble 24 m then (some .int) else (some .int)) else (bif Nat.ble 22 m then (some .boolean) else (some .int))) else (bif Nat.ble 19 m then (bif Nat.ble 20 m then (some .int) else (some .int)) else (some .int))) else (bif Nat.ble 15 m then (bif Nat.ble 16 m then (bif Nat.ble 17 m then none else (some .int)) else (some .int)) else (bif Nat.ble 13 m then (bif Nat.ble 14 m then (some .boolean) else (some .int)) else (some .int)))) else (bif Nat.ble 6 m then (bif Nat.ble 9 m then (bif Nat.ble 10 m then (bif Nat.ble 11 m then (some .int) else (some .int)) else (some .boolean)) else (bif Nat.ble 7 m then (bif Nat.ble 8 m then (some .boolean) else (some .int)) else none)) else (bif Nat.ble 3 m then (bif Nat.ble 4 m then (bif Nat.ble 5 m then none else (some .int)) else (some .int)) else (bif Nat.ble 1 m then (bif Nat.ble 2 m then (some .int) else none) else (some .boolean)))))
def pNA (m : Nat) : Nat := (bif Nat.ble 12 m then (bif Nat.ble 18 m then (bif Nat.ble 21 m then (bif Nat.ble 23 m then (bif Nat.ble 24 m then 1 else 1) else (bif Nat.ble 22 m then 1 else 0)) else (bif Nat.ble 19 m then (bif Nat.ble 20 m then 0 else 0) else 3)) else (bif Nat.ble 15 m then (bif Nat.ble 16 m then (bif Nat.ble 17 m then 1 else 1) else 1) else (bif Nat.ble 13 m then (bif Nat.ble 14 m then 1 else 1) else 2))) else (bif Nat.ble 6 m then (bif Nat.ble 9 m then (bif Nat.ble 10 m then (bif Nat.ble 11 m then 3 else 1) else 1) else (bif Nat.ble 7 m then (bif Nat.ble 8 m then 1 else 2) else 1)) else (bif Nat.ble 3 m then (bif Nat.ble 4 m then (bif Nat.ble 5 m then 1 else 0) else 0) else (bif Nat.ble 1 m then (bif Nat.ble 2 m then 3 else 3) else 6))))
def pFr (m : Nat) : Nat := (bif Nat.ble 12 m then (bif Nat.ble 18 m then (bif Nat.ble 21 m then (bif Nat.ble 23 m then (bif Nat.ble 24 m then 1 else 1) else (bif Nat.ble 22 m then 1 else 0)) else (bif Nat.ble 19 m then (bif Nat.ble 20 m then 0 else 0) else 2)) else (bif Nat.ble 15 m then (bif Nat.ble 16 m then (bif Nat.ble 17 m then 1 else 2) else 1) else (bif Nat.ble 13 m then (bif Nat.ble 14 m then 0 else 3) else 0))) else (bif Nat.ble 6 m then (bif Nat.ble 9 m then (bif Nat.ble 10 m then (bif Nat.ble 11 m then 1 else 0) else 0) else (bif Nat.ble 7 m then (bif Nat.ble 8 m then 0 else 1) else 0)) else (bif Nat.ble 3 m then (bif Nat.ble 4 m then (bif Nat.ble 5 m then 1 else 0) else 2) else (bif Nat.ble 1 m then (bif Nat.ble 2 m then 0 else 1) else 4))))
def pLo (m : Nat) : Nat := (bif Nat.ble 12 m then (bif Nat.ble 18 m then (bif Nat.ble 21 m then (bif Nat.ble 23 m then (bif Nat.ble 24 m then 13 else 13) else (bif Nat.ble 22 m then 13 else 0)) else (bif Nat.ble 19 m then (bif Nat.ble 20 m then 0 else 0) else 28)) else (bif Nat.ble 15 m then (bif Nat.ble 16 m then (bif Nat.ble 17 m then 15 else 28) else 14) else (bif Nat.ble 13 m then (bif Nat.ble 14 m then 0 else 44) else 0))) else (bif Nat.ble 6 m then (bif Nat.ble 9 m then (bif Nat.ble 10 m then (bif Nat.ble 11 m then 16 else 0) else 0) else (bif Nat.ble 7 m then (bif Nat.ble 8 m then 0 else 15) else 0)) else (bif Nat.ble 3 m then (bif Nat.ble 4 m then (bif Nat.ble 5 m then 15 else 0) else 28) else (bif Nat.ble 1 m then (bif Nat.ble 2 m then 0 else 16) else 58))))
def tB (k p : Nat) (a b : Option (Instr × Nat)) : Option (Instr × Nat) := bif Nat.ble k p then a else b
def tL (k p : Nat) (i : Instr) (x : Nat) : Option (Instr × Nat) := bif Nat.beq p k then some (i, x) else none
set_option maxHeartbeats 4000000 in
def cd0 (p : Nat) : Option (Instr × Nat) := (tB 195 p (tB 311 p (tB 364 p (tB 393 p (tB 407 p (tB 414 p (tB 420 p (tB 421 p (tL 421 p .ireturn 0) (tL 420 p (.iconst 1) 0)) (tB 417 p (tL 417 p (.goto (-90)) 327) (tL 414 p (.iinc 16 1) 0))) (tB 412 p (tB 413 p (tL 413 p .ireturn 0) (tL 412 p (.iconst 0) 0)) (tB 409 p (tL 409 p (.if_icmp .eq 5) 414) (tL 407 p (.iload 18) 0)))) (tB 399 p (tB 402 p (tB 404 p (tL 404 p (.invokevirtual 44) 24) (tL 402 p (.iload 16) 0)) (tB 400 p (tL 400 p (.aload 11) 0) (tL 399 p .ireturn 0))) (tB 395 p (tB 398 p (tL 398 p (.iconst 0) 0) (tL 395 p (.if_icmp .eq 5) 400)) (tL 393 p (.iload 17) 0)))) (tB 379 p (tB 384 p (tB 388 p (tB 390 p (tL 390 p (.invokevirtual 41) 23) (tL 388 p (.iload 16) 0)) (tB 386 p (tL 386 p (.aload 11) 0) (tL 384 p (.istore 18) 0))) (tB 381 p (tB 383 p (tL 383 p (.iconst 2) 0) (tL 381 p (.istore 17) 0)) (tL 379 p (.iload 5) 0))) (tB 369 p (tB 374 p (tB 376 p (tL 376 p (.if_icmp .ne 10) 386) (tL 374 p (.iload 10) 0)) (tB 372 p (tL 372 p (.iload 16) 0) (tL 369 p (.ifCond .eq 17) 386))) (tB 365 p (tB 367 p (tL 367 p (.iload 15) 0) (tL 365 p (.istore 18) 0)) (tL 364 p (.iconst 1) 0))))) (tB 335 p (tB 348 p (tB 355 p (tB 360 p (tB 362 p (tL 362 p (.istore 17) 0) (tL 360 p (.iload 4) 0)) (tB 357 p (tL 357 p (.if_icmp .ne 10) 367) (tL 355 p (.iload 9) 0))) (tB 351 p (tB 353 p (tL 353 p (.iload 16) 0) (tL 351 p (.istore 18) 0)) (tB 350 p (tL 350 p (.iconst 1) 0) (tL 348 p (.istore 17) 0)))) (tB 340 p (tB 344 p (tB 347 p (tL 347 p (.iload_n 3) 0) (tL 344 p (.if_icmp .ne 9) 353)) (tB 342 p (tL 342 p (.iload 8) 0) (tL 340 p (.iload 16) 0))) (tB 337 p (tB 338 p (tL 338 p (.istore 18) 0) (tL 337 p (.iconst 0) 0)) (tL 335 p (.istore 17) 0)))) (tB 323 p (tB 327 p (tB 331 p (tB 334 p (tL 334 p (.iconst 0) 0) (tL 331 p (.if_icmp .ge 89) 420)) (tB 329 p (tL 329 p (.bipush 8) 0) (tL 327 p (.iload 16) 0))) (tB 324 p (tB 325 p (tL 325 p (.istore 16) 0) (tL 324 p (.iconst 0) 0)) (tL 323 p .ireturn 0))) (tB 315 p (tB 319 p (tB 322 p (tL 322 p (.iconst 0) 0) (tL 319 p (.ifCond .eq 5) 324)) (tB 316 p (tL 316 p (.invokevirtual 37) 22) (tL 315 p (.iconst 1) 0))) (tB 312 p (tB 313 p (tL 313 p (.aload 11) 0) (tL 312 p .ireturn 0)) (tL 311 p (.iconst 0) 0)))))) (tB 252 p (tB 280 p (tB 295 p (tB 302 p (tB 305 p (tB 308 p (tL 308 p (.ifCond .eq 5) 313) (tL 305 p (.invokevirtual 37) 22)) (tB 304 p (tL 304 p (.iconst 0) 0) (tL 302 p (.aload 11) 0))) (tB 300 p (tB 301 p (tL 301 p .ireturn 0) (tL 300 p (.iconst 0) 0)) (tB 297 p (tL 297 p (.if_icmp .eq 5) 302) (tL 295 p (.iload 14) 0)))) (tB 286 p (tB 291 p (tB 292 p (tL 292 p (.goto 5) 297) (tL 291 p (.iconst (-1)) 0)) (tB 288 p (tL 288 p (.ifCond .eq 7) 295) (tL 286 p (.iload 15) 0))) (tB 281 p (tB 283 p (tL 283 p (.invokevirtual 34) 21) (tL 281 p (.aload 11) 0)) (tL 280 p .ireturn 0)))) (tB 266 p (tB 272 p (tB 276 p (tB 279 p (tL 279 p (.iconst 0) 0) (tL 276 p (.if_icmp .eq 5) 281)) (tB 275 p (tL 275 p (.iconst 1) 0) (tL 272 p (.goto 4) 276))) (tB 268 p (tB 271 p (tL 271 p (.iconst 0) 0) (tL 268 p (.ifCond .eq 7) 275)) (tL 266 p (.iload 15) 0))) (tB 259 p (tB 261 p (tB 263 p (tL 263 p (.invokevirtual 31) 20) (tL 261 p (.aload 11) 0)) (tB 260 p (tL 260 p .ireturn 0) (tL 259 p (.iconst 0) 0))) (tB 255 p (tB 256 p (tL 256 p (.if_icmp .eq 5) 261) (tL 255 p (.iconst 1) 0)) (tL 252 p (.goto 4) 256))))) (tB 223 p (tB 239 p (tB 243 p (tB 248 p (tB 251 p (tL 251 p (.iconst 2) 0) (tL 248 p (.ifCond .eq 7) 255)) (tB 246 p (tL 246 p (.iload 15) 0) (tL 243 p (.invokevirtual 28) 19))) (tB 240 p (tB 241 p (tL 241 p (.aload 11) 0) (tL 240 p .ireturn 0)) (tL 239 p (.iconst 0) 0))) (tB 230 p (tB 234 p (tB 236 p (tL 236 p (.if_icmp .eq 5) 241) (tL 234 p (.bipush (-3)) 0)) (tB 231 p (tL 231 p (.goto 5) 236) (tL 230 p (.iconst 2) 0))) (tB 225 p (tB 227 p (tL 227 p (.ifCond .eq 7) 234) (tL 225 p (.iload 15) 0)) (tL 223 p (.iload 12) 0)))) (tB 208 p (tB 216 p (tB 220 p (tB 221 p (tL 221 p (.istore 15) 0) (tL 220 p (.iconst 0) 0)) (tB 217 p (tL 217 p (.goto 4) 221) (tL 216 p (.iconst 1) 0))) (tB 211 p (tB 213 p (tL 213 p (.ifCond .ne 7) 220) (tL 211 p (.iload 13) 0)) (tL 208 p (.goto (-22)) 186))) (tB 198 p (tB 203 p (tB 205 p (tL 205 p (.iinc 15 (-1)) 0) (tL 203 p (.istore 14) 0)) (tB 201 p (tL 201 p (.iload 15) 0) (tL 198 p (.ifCond .eq 7) 205))) (tB 196 p (tB 197 p (tL 197 p .iand 0) (tL 196 p (.iconst 1) 0)) (tL 195 p .ishr 0))))))) (tB 96 p (tB 149 p (tB 170 p (tB 179 p (tB 186 p (tB 191 p (tB 193 p (tL 193 p (.iload 15) 0) (tL 191 p (.iload 13) 0)) (tB 188 p (tL 188 p (.ifCond .lt 23) 211) (tL 186 p (.iload 15) 0))) (tB 182 p (tB 184 p (tL 184 p (.istore 15) 0) (tL 182 p (.bipush 7) 0)) (tB 180 p (tL 180 p (.istore 14) 0) (tL 179 p (.iconst (-1)) 0)))) (tB 174 p (tB 176 p (tB 177 p (tL 177 p (.istore 13) 0) (tL 176 p .iand 0)) (tB 175 p (tL 175 p .ior 0) (tL 174 p .ishl 0))) (tB 171 p (tB 172 p (tL 172 p (.iload 9) 0) (tL 171 p (.iconst 1) 0)) (tL 170 p .ishl 0)))) (tB 161 p (tB 165 p (tB 167 p (tB 168 p (tL 168 p (.iload 8) 0) (tL 167 p (.iconst 1) 0)) (tB 166 p (tL 166 p .ior 0) (tL 165 p .ishl 0))) (tB 162 p (tB 163 p (tL 163 p (.iload 7) 0) (tL 162 p (.iconst 1) 0)) (tL 161 p .ishl 0))) (tB 153 p (tB 158 p (tB 159 p (tL 159 p (.iload 6) 0) (tL 158 p (.iconst 1) 0)) (tB 156 p (tL 156 p (.istore 12) 0) (tL 153 p (.invokevirtual 24) 13))) (tB 150 p (tB 152 p (tL 152 p (.iconst 0) 0) (tL 150 p (.aload 11) 0)) (tL 149 p .ireturn 0))))) (tB 122 p (tB 134 p (tB 140 p (tB 145 p (tB 148 p (tL 148 p (.iconst 0) 0) (tL 145 p (.ifCond .eq 5) 150)) (tB 142 p (tL 142 p (.invokevirtual 20) 11) (tL 140 p (.iload 5) 0))) (tB 137 p (tB 138 p (tL 138 p (.iload 10) 0) (tL 137 p (.iconst 0) 0)) (tB 135 p (tL 135 p (.aload 11) 0) (tL 134 p .ireturn 0)))) (tB 126 p (tB 130 p (tB 133 p (tL 133 p (.iconst 0) 0) (tL 130 p (.if_icmp .eq 5) 135)) (tB 129 p (tL 129 p (.iconst 1) 0) (tL 126 p (.invokevirtual 24) 13))) (tB 123 p (tB 125 p (tL 125 p (.iconst 1) 0) (tL 123 p (.aload 11) 0)) (tL 122 p .ireturn 0)))) (tB 108 p (tB 113 p (tB 118 p (tB 121 p (tL 121 p (.iconst 0) 0) (tL 118 p (.ifCond .eq 5) 123)) (tB 115 p (tL 115 p (.invokevirtual 20) 11) (tL 113 p (.iload 4) 0))) (tB 110 p (tB 111 p (tL 111 p (.iload 9) 0) (tL 110 p (.iconst 1) 0)) (tL 108 p (.aload 11) 0))) (tB 100 p (tB 106 p (tB 107 p (tL 107 p .ireturn 0) (tL 106 p (.iconst 0) 0)) (tB 103 p (tL 103 p (.ifCond .eq 5) 108) (tL 100 p (.invokevirtual 20) 11))) (tB 97 p (tB 99 p (tL 99 p (.iload_n 3) 0) (tL 97 p (.iload 8) 0)) (tL 96 p (.iconst 1) 0)))))) (tB 41 p (tB 68 p (tB 81 p (tB 89 p (tB 93 p (tB 94 p (tL 94 p (.aload 11) 0) (tL 93 p .ireturn 0)) (tB 92 p (tL 92 p (.iconst 0) 0) (tL 89 p (.ifCond .eq 5) 94))) (tB 84 p (tB 86 p (tL 86 p (.invokevirtual 16) 7) (tL 84 p (.iload 7) 0)) (tB 83 p (tL 83 p (.iconst 0) 0) (tL 81 p (.aload 11) 0)))) (tB 73 p (tB 79 p (tB 80 p (tL 80 p .ireturn 0) (tL 79 p (.iconst 0) 0)) (tB 76 p (tL 76 p (.ifCond .eq 5) 81) (tL 73 p (.invokevirtual 16) 7))) (tB 70 p (tB 71 p (tL 71 p (.iload 6) 0) (tL 70 p (.iconst 0) 0)) (tL 68 p (.aload 11) 0)))) (tB 56 p (tB 62 p (tB 66 p (tB 67 p (tL 67 p .ireturn 0) (tL 66 p (.iconst 0) 0)) (tB 63 p (tL 63 p (.if_icmp .eq 5) 68) (tL 62 p (.iconst 1) 0))) (tB 57 p (tB 59 p (tL 59 p (.invokevirtual 12) 3) (tL 57 p (.aload 11) 0)) (tL 56 p .ireturn 0))) (tB 47 p (tB 52 p (tB 55 p (tL 55 p (.iconst 0) 0) (tL 52 p (.ifCond .eq 5) 57)) (tB 49 p (tL 49 p (.invokevirtual 12) 3) (tL 47 p (.aload 11) 0))) (tB 42 p (tB 45 p (tL 45 p (.astore 11) 0) (tL 42 p (.invokespecial 9) 1)) (tL 41 p (.iconst 2) 0))))) (tB 20 p (tB 29 p (tB 34 p (tB 38 p (tB 40 p (tL 40 p (.iconst 2) 0) (tL 38 p (.bipush 8) 0)) (tB 37 p (tL 37 p .dup 0) (tL 34 p (.new 7) 0))) (tB 31 p (tB 32 p (tL 32 p (.istore 10) 0) (tL 31 p .iand 0)) (tL 29 p (.bipush 7) 0))) (tB 23 p (tB 26 p (tB 28 p (tL 28 p (.iload_n 2) 0) (tL 26 p (.istore 9) 0)) (tB 25 p (tL 25 p .iand 0) (tL 23 p (.bipush 7) 0))) (tB 21 p (tB 22 p (tL 22 p .ishr 0) (tL 21 p (.iconst 3) 0)) (tL 20 p (.iload_n 1) 0)))) (tB 9 p (tB 14 p (tB 17 p (tB 18 p (tL 18 p (.istore 8) 0) (tL 17 p .iand 0)) (tB 15 p (tL 15 p (.bipush 7) 0) (tL 14 p (.iload_n 1) 0))) (tB 11 p (tB 12 p (tL 12 p (.istore 7) 0) (tL 11 p .iand 0)) (tL 9 p (.bipush 7) 0))) (tB 4 p (tB 7 p (tB 8 p (tL 8 p .ishr 0) (tL 7 p (.iconst 3) 0)) (tB 6 p (tL 6 p (.iload_n 0) 0) (tL 4 p (.istore 6) 0))) (tB 1 p (tB 3 p (tL 3 p .iand 0) (tL 1 p (.bipush 7) 0)) (tL 0 p (.iload_n 0) 0))))))))
set_option maxHeartbeats 4000000 in
def cd1 (p : Nat) : Option (Instr × Nat) := (tB 61 p (tB 87 p (tB 100 p (tB 108 p (tB 110 p (tB 113 p (tL 113 p .return_ 0) (tL 110 p (.putfield 52) 12)) (tB 109 p (tL 109 p (.iconst (-1)) 0) (tL 108 p (.aload_n 0) 0))) (tB 104 p (tB 105 p (tL 105 p (.putfield 49) 11) (tL 104 p (.iconst 0) 0)) (tB 103 p (tL 103 p (.aload_n 0) 0) (tL 100 p (.putfield 46) 10)))) (tB 92 p (tB 98 p (tB 99 p (tL 99 p (.iconst 0) 0) (tL 98 p (.aload_n 0) 0)) (tB 95 p (tL 95 p (.putfield 43) 9) (tL 92 p (.invokevirtual 32) 2))) (tB 89 p (tB 90 p (tL 90 p (.bipush 16) 0) (tL 89 p (.iconst 2) 0)) (tB 88 p (tL 88 p (.iload_n 3) 0) (tL 87 p (.aload_n 0) 0))))) (tB 74 p (tB 78 p (tB 83 p (tB 86 p (tL 86 p (.aload_n 0) 0) (tL 83 p (.putfield 40) 8)) (tB 80 p (tL 80 p (.invokevirtual 32) 2) (tL 78 p (.bipush 8) 0))) (tB 76 p (tB 77 p (tL 77 p (.iconst 2) 0) (tL 76 p (.iload_n 2) 0)) (tB 75 p (tL 75 p (.aload_n 0) 0) (tL 74 p (.aload_n 0) 0)))) (tB 64 p (tB 68 p (tB 71 p (tL 71 p (.putfield 36) 7) (tL 68 p (.invokevirtual 32) 2)) (tB 66 p (tL 66 p (.bipush 32) 0) (tL 64 p (.bipush 8) 0))) (tB 62 p (tB 63 p (tL 63 p (.iload_n 1) 0) (tL 62 p (.aload_n 0) 0)) (tL 61 p (.aload_n 0) 0))))) (tB 29 p (tB 44 p (tB 52 p (tB 56 p (tB 58 p (tL 58 p (.putfield 29) 6) (tL 56 p (.newarray .int) 0)) (tB 53 p (tL 53 p (.sipush 256) 0) (tL 52 p (.aload_n 0) 0))) (tB 47 p (tB 49 p (tL 49 p (.putfield 26) 5) (tL 47 p (.newarray .int) 0)) (tB 45 p (tL 45 p (.bipush 8) 0) (tL 44 p (.aload_n 0) 0)))) (tB 36 p (tB 39 p (tB 41 p (tL 41 p (.putfield 23) 4) (tL 39 p (.newarray .int) 0)) (tB 37 p (tL 37 p (.bipush 8) 0) (tL 36 p (.aload_n 0) 0))) (tB 31 p (tB 33 p (tL 33 p (.putfield 20) 3) (tL 31 p (.newarray .int) 0)) (tL 29 p (.bipush 8) 0)))) (tB 13 p (tB 21 p (tB 25 p (tB 28 p (tL 28 p (.aload_n 0) 0) (tL 25 p (.putfield 16) 2)) (tB 23 p (tL 23 p (.newarray .boolean) 0) (tL 21 p (.bipush 8) 0))) (tB 17 p (tB 20 p (tL 20 p (.aload_n 0) 0) (tL 17 p (.putfield 13) 1)) (tB 15 p (tL 15 p (.newarray .int) 0) (tL 13 p (.bipush 32) 0)))) (tB 5 p (tB 9 p (tB 12 p (tL 12 p (.aload_n 0) 0) (tL 9 p (.putfield 7) 0)) (tB 7 p (tL 7 p (.newarray .int) 0) (tL 5 p (.bipush 32) 0))) (tB 1 p (tB 4 p (tL 4 p (.aload_n 0) 0) (tL 1 p (.invokespecial 1) 0)) (tL 0 p (.aload_n 0) 0))))))
set_option maxHeartbeats 4000000 in
def cd2 (p : Nat) : Option (Instr × Nat) := (tB 8 p (tB 13 p (tB 14 p (tB 15 p (tL 15 p .ireturn 0) (tL 14 p (.iload_n 1) 0)) (tL 13 p .ireturn 0)) (tB 9 p (tB 12 p (tL 12 p (.iload_n 3) 0) (tL 9 p (.if_icmp .le 5) 14)) (tL 8 p (.iload_n 3) 0))) (tB 5 p (tB 6 p (tB 7 p (tL 7 p (.iload_n 1) 0) (tL 6 p .ireturn 0)) (tL 5 p (.iload_n 2) 0)) (tB 1 p (tB 2 p (tL 2 p (.if_icmp .ge 5) 7) (tL 1 p (.iload_n 2) 0)) (tL 0 p (.iload_n 1) 0))))
set_option maxHeartbeats 4000000 in
def cd3 (p : Nat) : Option (Instr × Nat) := (tB 11 p (tB 14 p (tB 17 p (tB 18 p (tL 18 p .ireturn 0) (tL 17 p (.iload_n 1) 0)) (tL 14 p (.invokevirtual 59) 5)) (tB 12 p (tB 13 p (tL 13 p (.iload_n 1) 0) (tL 12 p (.aload_n 0) 0)) (tL 11 p .ireturn 0))) (tB 5 p (tB 6 p (tB 9 p (tL 9 p (.bipush (-5)) 0) (tL 6 p (.ifCond .ge 6) 12)) (tL 5 p (.iload_n 1) 0)) (tB 1 p (tB 4 p (tL 4 p (.istore_n 1) 0) (tL 1 p (.invokevirtual 55) 4)) (tL 0 p (.aload_n 0) 0))))
set_option maxHeartbeats 4000000 in
def cd4 (p : Nat) : Option (Instr × Nat) := (tB 17 p (tB 26 p (tB 30 p (tB 33 p (tB 34 p (tL 34 p .ireturn 0) (tL 33 p (.iconst (-1)) 0)) (tL 30 p (.goto (-28)) 2)) (tB 27 p (tL 27 p (.iinc 1 1) 0) (tL 26 p .ireturn 0))) (tB 21 p (tB 22 p (tB 25 p (tL 25 p (.iload_n 1) 0) (tL 22 p (.ifCond .ne 5) 27)) (tL 21 p .baload 0)) (tB 20 p (tL 20 p (.iload_n 1) 0) (tL 17 p (.getfield 16) 2)))) (tB 7 p (tB 11 p (tB 13 p (tB 16 p (tL 16 p (.aload_n 0) 0) (tL 13 p (.if_icmp .ge 20) 33)) (tL 11 p (.bipush 8) 0)) (tB 10 p (tL 10 p (.iload_n 1) 0) (tL 7 p (.if_icmp .ge 26) 33))) (tB 2 p (tB 3 p (tB 4 p (tL 4 p (.getfield 40) 8) (tL 3 p (.aload_n 0) 0)) (tL 2 p (.iload_n 1) 0)) (tB 1 p (tL 1 p (.istore_n 1) 0) (tL 0 p (.iconst 0) 0)))))
set_option maxHeartbeats 4000000 in
def cd5 (p : Nat) : Option (Instr × Nat) := (tB 11 p (tB 17 p (tB 21 p (tB 22 p (tL 22 p .return_ 0) (tL 21 p .iastore 0)) (tB 18 p (tL 18 p (.getfield 46) 10) (tL 17 p (.aload_n 0) 0))) (tB 13 p (tB 16 p (tL 16 p (.iload_n 1) 0) (tL 13 p (.getfield 20) 3)) (tB 12 p (tL 12 p (.aload_n 0) 0) (tL 11 p .bastore 0)))) (tB 5 p (tB 9 p (tB 10 p (tL 10 p (.iconst 1) 0) (tL 9 p (.iload_n 1) 0)) (tB 6 p (tL 6 p (.getfield 16) 2) (tL 5 p (.aload_n 0) 0))) (tB 1 p (tB 2 p (tL 2 p (.invokevirtual 93) 6) (tL 1 p (.iload_n 1) 0)) (tL 0 p (.aload_n 0) 0))))
set_option maxHeartbeats 4000000 in
def cd6 (p : Nat) : Option (Instr × Nat) := (tB 27 p (tB 41 p (tB 48 p (tB 50 p (tB 53 p (tB 56 p (tL 56 p .return_ 0) (tL 53 p (.goto (-18)) 35)) (tL 50 p (.iinc 3 1) 0)) (tB 49 p (tL 49 p .iastore 0) (tL 48 p (.iconst 0) 0))) (tB 45 p (tB 46 p (tB 47 p (tL 47 p .iadd 0) (tL 46 p (.iload_n 3) 0)) (tL 45 p (.iload_n 2) 0)) (tB 42 p (tL 42 p (.getfield 29) 6) (tL 41 p (.aload_n 0) 0)))) (tB 33 p (tB 35 p (tB 36 p (tB 38 p (tL 38 p (.if_icmp .ge 18) 56) (tL 36 p (.bipush 32) 0)) (tL 35 p (.iload_n 3) 0)) (tB 34 p (tL 34 p (.istore_n 3) 0) (tL 33 p (.iconst 0) 0))) (tB 29 p (tB 31 p (tB 32 p (tL 32 p (.istore_n 2) 0) (tL 31 p .imul 0)) (tL 29 p (.bipush 32) 0)) (tB 28 p (tL 28 p (.iload_n 1) 0) (tL 27 p .iastore 0))))) (tB 13 p (tB 20 p (tB 22 p (tB 25 p (tB 26 p (tL 26 p (.iconst 0) 0) (tL 25 p (.iload_n 1) 0)) (tL 22 p (.getfield 26) 5)) (tB 21 p (tL 21 p (.aload_n 0) 0) (tL 20 p .iastore 0))) (tB 15 p (tB 18 p (tB 19 p (tL 19 p (.iconst 0) 0) (tL 18 p (.iload_n 1) 0)) (tL 15 p (.getfield 23) 4)) (tB 14 p (tL 14 p (.aload_n 0) 0) (tL 13 p .iastore 0)))) (tB 6 p (tB 8 p (tB 11 p (tB 12 p (tL 12 p (.iconst 0) 0) (tL 11 p (.iload_n 1) 0)) (tL 8 p (.getfield 20) 3)) (tB 7 p (tL 7 p (.aload_n 0) 0) (tL 6 p .bastore 0))) (tB 4 p (tB 5 p (tL 5 p (.iconst 0) 0) (tL 4 p (.iload_n 1) 0)) (tB 1 p (tL 1 p (.getfield 16) 2) (tL 0 p (.aload_n 0) 0))))))
set_option maxHeartbeats 4000000 in
def cd7 (p : Nat) : Option (Instr × Nat) := (tB 37 p (tB 54 p (tB 62 p (tB 67 p (tB 68 p (tB 69 p (tL 69 p .ireturn 0) (tL 68 p .iaload 0)) (tL 67 p (.iload_n 2) 0)) (tB 63 p (tB 64 p (tL 64 p (.getfield 7) 0) (tL 63 p (.aload_n 0) 0)) (tL 62 p .iastore 0))) (tB 59 p (tB 60 p (tB 61 p (tL 61 p .ior 0) (tL 60 p (.iload_n 3) 0)) (tL 59 p .iaload 0)) (tB 55 p (tB 58 p (tL 58 p (.iload_n 1) 0) (tL 55 p (.getfield 23) 4)) (tL 54 p (.aload_n 0) 0)))) (tB 44 p (tB 49 p (tB 50 p (tB 53 p (tL 53 p (.iload_n 1) 0) (tL 50 p (.getfield 23) 4)) (tL 49 p (.aload_n 0) 0)) (tB 47 p (tB 48 p (tL 48 p .ireturn 0) (tL 47 p .iaload 0)) (tL 44 p (.invokevirtual 74) 12))) (tB 41 p (tB 42 p (tB 43 p (tL 43 p (.iload_n 2) 0) (tL 42 p (.iload_n 1) 0)) (tL 41 p (.aload_n 0) 0)) (tB 38 p (tL 38 p (.getfield 29) 6) (tL 37 p (.aload_n 0) 0))))) (tB 19 p (tB 27 p (tB 32 p (tB 33 p (tB 34 p (tL 34 p (.ifCond .eq 15) 49) (tL 33 p .iand 0)) (tL 32 p (.iload_n 3) 0)) (tB 30 p (tB 31 p (tL 31 p .iaload 0) (tL 30 p (.iload_n 1) 0)) (tL 27 p (.getfield 26) 5))) (tB 22 p (tB 25 p (tB 26 p (tL 26 p (.aload_n 0) 0) (tL 25 p (.istore_n 3) 0)) (tL 22 p (.invokevirtual 70) 10)) (tB 20 p (tB 21 p (tL 21 p (.iload_n 2) 0) (tL 20 p (.aload_n 0) 0)) (tL 19 p .ireturn 0)))) (tB 9 p (tB 12 p (tB 15 p (tB 18 p (tL 18 p (.iconst 0) 0) (tL 15 p (.ifCond .ne 5) 20)) (tL 12 p (.invokevirtual 67) 9)) (tB 10 p (tB 11 p (tL 11 p (.iload_n 2) 0) (tL 10 p (.aload_n 0) 0)) (tL 9 p .ireturn 0))) (tB 2 p (tB 5 p (tB 8 p (tL 8 p (.iconst 0) 0) (tL 5 p (.ifCond .ne 5) 10)) (tL 2 p (.invokevirtual 63) 8)) (tB 1 p (tL 1 p (.iload_n 1) 0) (tL 0 p (.aload_n 0) 0))))))
set_option maxHeartbeats 4000000 in
def cd8 (p : Nat) : Option (Instr × Nat) := (tB 15 p (tB 21 p (tB 25 p (tB 26 p (tL 26 p .ireturn 0) (tL 25 p .baload 0)) (tB 24 p (tL 24 p (.iload_n 1) 0) (tL 21 p (.getfield 16) 2))) (tB 19 p (tB 20 p (tL 20 p (.aload_n 0) 0) (tL 19 p .ireturn 0)) (tB 18 p (tL 18 p (.iconst 0) 0) (tL 15 p (.if_icmp .lt 5) 20)))) (tB 6 p (tB 12 p (tB 13 p (tL 13 p (.bipush 8) 0) (tL 12 p (.iload_n 1) 0)) (tB 9 p (tL 9 p (.if_icmp .ge 9) 18) (tL 6 p (.getfield 40) 8))) (tB 4 p (tB 5 p (tL 5 p (.aload_n 0) 0) (tL 4 p (.iload_n 1) 0)) (tB 1 p (tL 1 p (.ifCond .lt 17) 18) (tL 0 p (.iload_n 1) 0)))))
set_option maxHeartbeats 4000000 in
def cd9 (p : Nat) : Option (Instr × Nat) := (tB 12 p (tB 18 p (tB 22 p (tB 23 p (tL 23 p .ireturn 0) (tL 22 p (.iconst 0) 0)) (tB 19 p (tL 19 p (.goto 4) 23) (tL 18 p (.iconst 1) 0))) (tB 13 p (tB 15 p (tL 15 p (.if_icmp .ge 7) 22) (tL 13 p (.bipush 32) 0)) (tL 12 p (.iload_n 1) 0))) (tB 5 p (tB 6 p (tB 9 p (tL 9 p (.if_icmp .ge 13) 22) (tL 6 p (.getfield 36) 7)) (tL 5 p (.aload_n 0) 0)) (tB 1 p (tB 4 p (tL 4 p (.iload_n 1) 0) (tL 1 p (.ifCond .lt 21) 22)) (tL 0 p (.iload_n 1) 0))))
set_option maxHeartbeats 4000000 in
def cd10 (p : Nat) : Option (Instr × Nat) := (tB 2 p (tB 3 p (tL 3 p .ireturn 0) (tL 2 p .ishl 0)) (tB 1 p (tL 1 p (.iload_n 1) 0) (tL 0 p (.iconst 1) 0)))
set_option maxHeartbeats 4000000 in
def cd11 (p : Nat) : Option (Instr × Nat) := (tB 30 p (tB 40 p (tB 46 p (tB 50 p (tB 51 p (tB 52 p (tL 52 p .ireturn 0) (tL 51 p (.iconst 0) 0)) (tL 50 p .iastore 0)) (tB 49 p (tL 49 p (.iload_n 3) 0) (tL 46 p (.invokevirtual 74) 12))) (tB 44 p (tB 45 p (tL 45 p (.iload_n 2) 0) (tL 44 p (.iload_n 1) 0)) (tB 43 p (tL 43 p (.aload_n 0) 0) (tL 40 p (.getfield 29) 6)))) (tB 34 p (tB 38 p (tB 39 p (tL 39 p (.aload_n 0) 0) (tL 38 p .iastore 0)) (tB 37 p (tL 37 p .ior 0) (tL 34 p (.invokevirtual 70) 10))) (tB 32 p (tB 33 p (tL 33 p (.iload_n 2) 0) (tL 32 p (.aload_n 0) 0)) (tB 31 p (tL 31 p .iaload 0) (tL 30 p (.iload_n 1) 0))))) (tB 12 p (tB 21 p (tB 25 p (tB 26 p (tB 27 p (tL 27 p (.getfield 26) 5) (tL 26 p (.aload_n 0) 0)) (tL 25 p (.iload_n 1) 0)) (tB 22 p (tL 22 p (.getfield 26) 5) (tL 21 p (.aload_n 0) 0))) (tB 18 p (tB 20 p (tL 20 p .ireturn 0) (tL 18 p (.bipush (-2)) 0)) (tB 15 p (tL 15 p (.ifCond .ne 6) 21) (tL 12 p (.invokevirtual 67) 9)))) (tB 8 p (tB 10 p (tB 11 p (tL 11 p (.iload_n 2) 0) (tL 10 p (.aload_n 0) 0)) (tB 9 p (tL 9 p .ireturn 0) (tL 8 p (.iconst (-1)) 0))) (tB 2 p (tB 5 p (tL 5 p (.ifCond .ne 5) 10) (tL 2 p (.invokevirtual 63) 8)) (tB 1 p (tL 1 p (.iload_n 1) 0) (tL 0 p (.aload_n 0) 0))))))
set_option maxHeartbeats 4000000 in
def cd12 (p : Nat) : Option (Instr × Nat) := (tB 4 p (tB 5 p (tB 6 p (tL 6 p .ireturn 0) (tL 5 p .iadd 0)) (tL 4 p (.iload_n 2) 0)) (tB 1 p (tB 3 p (tL 3 p .imul 0) (tL 1 p (.bipush 32) 0)) (tL 0 p (.iload_n 1) 0)))
set_option maxHeartbeats 4000000 in
def cd13 (p : Nat) : Option (Instr × Nat) := (tB 27 p (tB 39 p (tB 46 p (tB 48 p (tB 51 p (tL 51 p .ireturn 0) (tL 48 p (.invokevirtual 87) 16)) (tB 47 p (tL 47 p (.iload_n 1) 0) (tL 46 p (.aload_n 0) 0))) (tB 42 p (tB 45 p (tL 45 p .ireturn 0) (tL 42 p (.invokevirtual 81) 18)) (tB 40 p (tL 40 p (.bipush (-3)) 0) (tL 39 p (.iload_n 2) 0)))) (tB 33 p (tB 37 p (tB 38 p (tL 38 p (.iload_n 1) 0) (tL 37 p (.aload_n 0) 0)) (tB 34 p (tL 34 p (.ifCond .lt 12) 46) (tL 33 p (.iload_n 2) 0))) (tB 29 p (tB 32 p (tL 32 p (.istore_n 2) 0) (tL 29 p (.invokevirtual 84) 15)) (tB 28 p (tL 28 p (.iload_n 1) 0) (tL 27 p (.aload_n 0) 0))))) (tB 12 p (tB 20 p (tB 23 p (tB 26 p (tL 26 p .ireturn 0) (tL 23 p (.invokevirtual 81) 18)) (tB 21 p (tL 21 p (.bipush (-4)) 0) (tL 20 p (.iconst (-1)) 0))) (tB 18 p (tB 19 p (tL 19 p (.iload_n 1) 0) (tL 18 p (.aload_n 0) 0)) (tB 15 p (tL 15 p (.ifCond .eq 12) 27) (tL 12 p (.invokevirtual 78) 14)))) (tB 8 p (tB 10 p (tB 11 p (tL 11 p (.iload_n 1) 0) (tL 10 p (.aload_n 0) 0)) (tB 9 p (tL 9 p .ireturn 0) (tL 8 p (.iconst (-1)) 0))) (tB 2 p (tB 5 p (tL 5 p (.ifCond .ne 5) 10) (tL 2 p (.invokevirtual 63) 8)) (tB 1 p (tL 1 p (.iload_n 1) 0) (tL 0 p (.aload_n 0) 0))))))
set_option maxHeartbeats 4000000 in
def cd14 (p : Nat) : Option (Instr × Nat) := (tB 11 p (tB 18 p (tB 22 p (tB 23 p (tL 23 p .ireturn 0) (tL 22 p (.iconst 0) 0)) (tB 19 p (tL 19 p (.goto 4) 23) (tL 18 p (.iconst 1) 0))) (tB 12 p (tB 15 p (tL 15 p (.if_icmp .le 7) 22) (tL 12 p (.getfield 43) 9)) (tL 11 p (.aload_n 0) 0))) (tB 5 p (tB 9 p (tB 10 p (tL 10 p .isub 0) (tL 9 p .iaload 0)) (tB 8 p (tL 8 p (.iload_n 1) 0) (tL 5 p (.getfield 20) 3))) (tB 1 p (tB 4 p (tL 4 p (.aload_n 0) 0) (tL 1 p (.getfield 46) 10)) (tL 0 p (.aload_n 0) 0))))
set_option maxHeartbeats 4000000 in
def cd15 (p : Nat) : Option (Instr × Nat) := (tB 30 p (tB 48 p (tB 57 p (tB 61 p (tB 64 p (tB 65 p (tL 65 p .ireturn 0) (tL 64 p (.iconst (-1)) 0)) (tL 61 p (.goto (-44)) 17)) (tB 58 p (tL 58 p (.iinc 4 1) 0) (tL 57 p .ireturn 0))) (tB 51 p (tB 52 p (tB 55 p (tL 55 p (.iload 4) 0) (tL 52 p (.if_icmp .le 6) 58)) (tL 51 p (.iload_n 3) 0)) (tB 50 p (tL 50 p .iaload 0) (tL 48 p (.iload 4) 0)))) (tB 37 p (tB 41 p (tB 44 p (tB 45 p (tL 45 p (.getfield 13) 1) (tL 44 p (.aload_n 0) 0)) (tL 41 p (.ifCond .eq 17) 58)) (tB 40 p (tL 40 p .iand 0) (tL 37 p (.invokevirtual 70) 10))) (tB 34 p (tB 35 p (tL 35 p (.iload 4) 0) (tL 34 p (.aload_n 0) 0)) (tB 33 p (tL 33 p (.iload_n 2) 0) (tL 30 p (.if_icmp .ge 34) 64))))) (tB 13 p (tB 19 p (tB 23 p (tB 26 p (tB 28 p (tL 28 p (.bipush 32) 0) (tL 26 p (.iload 4) 0)) (tL 23 p (.if_icmp .ge 41) 64)) (tB 20 p (tL 20 p (.getfield 36) 7) (tL 19 p (.aload_n 0) 0))) (tB 15 p (tB 17 p (tL 17 p (.iload 4) 0) (tL 15 p (.istore 4) 0)) (tB 14 p (tL 14 p (.iconst 0) 0) (tL 13 p (.istore_n 3) 0)))) (tB 6 p (tB 8 p (tB 11 p (tB 12 p (tL 12 p .iaload 0) (tL 11 p (.iload_n 1) 0)) (tL 8 p (.getfield 20) 3)) (tB 7 p (tL 7 p (.aload_n 0) 0) (tL 6 p (.istore_n 2) 0))) (tB 4 p (tB 5 p (tL 5 p .iaload 0) (tL 4 p (.iload_n 1) 0)) (tB 1 p (tL 1 p (.getfield 23) 4) (tL 0 p (.aload_n 0) 0))))))
set_option maxHeartbeats 4000000 in
def cd16 (p : Nat) : Option (Instr × Nat) := (tB 48 p (tB 72 p (tB 86 p (tB 91 p (tB 95 p (tB 96 p (tL 96 p .ireturn 0) (tL 95 p (.iload_n 2) 0)) (tB 92 p (tL 92 p (.putfield 52) 12) (tL 91 p (.iconst (-1)) 0))) (tB 87 p (tB 90 p (tL 90 p (.aload_n 0) 0) (tL 87 p (.invokevirtual 90) 17)) (tL 86 p (.iload_n 1) 0))) (tB 78 p (tB 82 p (tB 85 p (tL 85 p (.aload_n 0) 0) (tL 82 p (.goto (-57)) 25)) (tB 79 p (tL 79 p (.iinc 4 1) 0) (tL 78 p .iastore 0))) (tB 75 p (tB 77 p (tL 77 p (.iload_n 2) 0) (tL 75 p (.iload 4) 0)) (tL 72 p (.getfield 13) 1)))) (tB 62 p (tB 66 p (tB 70 p (tB 71 p (tL 71 p (.aload_n 0) 0) (tL 70 p .iastore 0)) (tB 69 p (tL 69 p .iaload 0) (tL 66 p (.invokevirtual 74) 12))) (tB 63 p (tB 64 p (tL 64 p (.iload 4) 0) (tL 63 p (.iload_n 1) 0)) (tL 62 p (.aload_n 0) 0))) (tB 53 p (tB 58 p (tB 59 p (tL 59 p (.getfield 29) 6) (tL 58 p (.aload_n 0) 0)) (tB 56 p (tL 56 p (.iload 4) 0) (tL 53 p (.getfield 7) 0))) (tB 49 p (tB 52 p (tL 52 p (.aload_n 0) 0) (tL 49 p (.ifCond .eq 30) 79)) (tL 48 p .iand 0))))) (tB 21 p (tB 34 p (tB 41 p (tB 43 p (tB 45 p (tL 45 p (.invokevirtual 70) 10) (tL 43 p (.iload 4) 0)) (tB 42 p (tL 42 p (.aload_n 0) 0) (tL 41 p (.iload_n 3) 0))) (tB 36 p (tB 38 p (tL 38 p (.if_icmp .ge 47) 85) (tL 36 p (.bipush 32) 0)) (tL 34 p (.iload 4) 0))) (tB 25 p (tB 28 p (tB 31 p (tL 31 p (.if_icmp .ge 54) 85) (tL 28 p (.getfield 36) 7)) (tB 27 p (tL 27 p (.aload_n 0) 0) (tL 25 p (.iload 4) 0))) (tB 22 p (tB 23 p (tL 23 p (.istore 4) 0) (tL 22 p (.iconst 0) 0)) (tL 21 p (.istore_n 3) 0)))) (tB 10 p (tB 15 p (tB 19 p (tB 20 p (tL 20 p .iaload 0) (tL 19 p (.iload_n 1) 0)) (tB 16 p (tL 16 p (.getfield 26) 5) (tL 15 p (.aload_n 0) 0))) (tB 11 p (tB 14 p (tL 14 p (.istore_n 2) 0) (tL 11 p (.getfield 46) 10)) (tL 10 p (.aload_n 0) 0))) (tB 5 p (tB 6 p (tB 7 p (tL 7 p (.putfield 46) 10) (tL 6 p .iadd 0)) (tL 5 p (.iconst 1) 0)) (tB 1 p (tB 2 p (tL 2 p (.getfield 46) 10) (tL 1 p (.aload_n 0) 0)) (tL 0 p (.aload_n 0) 0))))))
set_option maxHeartbeats 4000000 in
def cd17 (p : Nat) : Option (Instr × Nat) := (tB 2 p (tB 5 p (tL 5 p .return_ 0) (tL 2 p (.invokevirtual 93) 6)) (tB 1 p (tL 1 p (.iload_n 1) 0) (tL 0 p (.aload_n 0) 0)))
set_option maxHeartbeats 4000000 in
def cd18 (p : Nat) : Option (Instr × Nat) := (tB 11 p (tB 16 p (tB 20 p (tB 21 p (tL 21 p .ireturn 0) (tL 20 p (.iload_n 3) 0)) (tB 17 p (tL 17 p (.putfield 52) 12) (tL 16 p (.iload_n 2) 0))) (tB 12 p (tB 15 p (tL 15 p (.aload_n 0) 0) (tL 12 p (.putfield 49) 11)) (tL 11 p .iadd 0))) (tB 5 p (tB 7 p (tB 10 p (tL 10 p (.iconst 1) 0) (tL 7 p (.getfield 49) 11)) (tB 6 p (tL 6 p (.aload_n 0) 0) (tL 5 p (.aload_n 0) 0))) (tB 1 p (tB 2 p (tL 2 p (.invokevirtual 90) 17) (tL 1 p (.iload_n 1) 0)) (tL 0 p (.aload_n 0) 0))))
set_option maxHeartbeats 4000000 in
def cd19 (p : Nat) : Option (Instr × Nat) := (tB 1 p (tB 4 p (tL 4 p .ireturn 0) (tL 1 p (.getfield 46) 10)) (tL 0 p (.aload_n 0) 0))
set_option maxHeartbeats 4000000 in
def cd20 (p : Nat) : Option (Instr × Nat) := (tB 1 p (tB 4 p (tL 4 p .ireturn 0) (tL 1 p (.getfield 49) 11)) (tL 0 p (.aload_n 0) 0))
set_option maxHeartbeats 4000000 in
def cd21 (p : Nat) : Option (Instr × Nat) := (tB 1 p (tB 4 p (tL 4 p .ireturn 0) (tL 1 p (.getfield 52) 12)) (tL 0 p (.aload_n 0) 0))
set_option maxHeartbeats 4000000 in
def cd22 (p : Nat) : Option (Instr × Nat) := (tB 2 p (tB 5 p (tL 5 p .ireturn 0) (tL 2 p (.invokevirtual 63) 8)) (tB 1 p (tL 1 p (.iload_n 1) 0) (tL 0 p (.aload_n 0) 0)))
set_option maxHeartbeats 4000000 in
def cd23 (p : Nat) : Option (Instr × Nat) := (tB 9 p (tB 14 p (tB 15 p (tB 16 p (tL 16 p .ireturn 0) (tL 15 p .iaload 0)) (tL 14 p (.iload_n 1) 0)) (tB 10 p (tB 11 p (tL 11 p (.getfield 7) 0) (tL 10 p (.aload_n 0) 0)) (tL 9 p .ireturn 0))) (tB 2 p (tB 5 p (tB 8 p (tL 8 p (.iconst 0) 0) (tL 5 p (.ifCond .ne 5) 10)) (tL 2 p (.invokevirtual 67) 9)) (tB 1 p (tL 1 p (.iload_n 1) 0) (tL 0 p (.aload_n 0) 0))))
set_option maxHeartbeats 4000000 in
def cd24 (p : Nat) : Option (Instr × Nat) := (tB 9 p (tB 14 p (tB 15 p (tB 16 p (tL 16 p .ireturn 0) (tL 15 p .iaload 0)) (tL 14 p (.iload_n 1) 0)) (tB 10 p (tB 11 p (tL 11 p (.getfield 13) 1) (tL 10 p (.aload_n 0) 0)) (tL 9 p .ireturn 0))) (tB 2 p (tB 5 p (tB 8 p (tL 8 p (.iconst 0) 0) (tL 5 p (.ifCond .ne 5) 10)) (tL 2 p (.invokevirtual 67) 9)) (tB 1 p (tL 1 p (.iload_n 1) 0) (tL 0 p (.aload_n 0) 0))))
def pCode (m pc : Nat) : Option (Instr × Nat) := bif Nat.ble pN m then none else bif Nat.ble pTop pc then none else (bif Nat.ble 12 m then (bif Nat.ble 18 m then (bif Nat.ble 21 m then (bif Nat.ble 23 m then (bif Nat.ble 24 m then cd24 pc else cd23 pc) else (bif Nat.ble 22 m then cd22 pc else cd21 pc)) else (bif Nat.ble 19 m then (bif Nat.ble 20 m then cd20 pc else cd19 pc) else cd18 pc)) else (bif Nat.ble 15 m then (bif Nat.ble 16 m then (bif Nat.ble 17 m then cd17 pc else cd16 pc) else cd15 pc) else (bif Nat.ble 13 m then (bif Nat.ble 14 m then cd14 pc else cd13 pc) else cd12 pc))) else (bif Nat.ble 6 m then (bif Nat.ble 9 m then (bif Nat.ble 10 m then (bif Nat.ble 11 m then cd11 pc else cd10 pc) else cd9 pc) else (bif Nat.ble 7 m then (bif Nat.ble 8 m then cd8 pc else cd7 pc) else cd6 pc)) else (bif Nat.ble 3 m then (bif Nat.ble 4 m then (bif Nat.ble 5 m then cd5 pc else cd4 pc) else cd3 pc) else (bif Nat.ble 1 m then (bif Nat.ble 2 m then cd2 pc else cd1 pc) else cd0 pc))))
def lkF : List (Nat × Nat × Nat) := [(1, 7, 0), (1, 13, 1), (1, 16, 2), (1, 20, 3), (1, 23, 4), (1, 26, 5), (1, 29, 6), (1, 36, 7), (1, 40, 8), (1, 43, 9), (1, 46, 10), (1, 49, 11), (1, 52, 12)]
def lkN : List (Nat × Nat) := [(0, 7)]
def lkC : List (Nat × Nat × Nat) := []
def lkD : List (Nat × Nat × Nat) := []
def lkV : List (Nat × Nat × Nat) := [(0, 9, 1), (1, 32, 2), (0, 12, 3), (1, 55, 4), (1, 59, 5), (1, 93, 6), (0, 16, 7), (1, 63, 8), (1, 67, 9), (1, 70, 10), (0, 20, 11), (1, 74, 12), (0, 24, 13), (1, 78, 14), (1, 84, 15), (1, 87, 16), (1, 90, 17), (1, 81, 18), (0, 28, 19), (0, 31, 20), (0, 34, 21), (0, 37, 22), (0, 41, 23), (0, 44, 24)]
def lkO : List (Nat × Nat) := [(1, 1)]
def mV : List Nat := [3, 7, 11, 13, 19, 20, 21, 22, 23, 24]
def mP : List Nat := [2, 4, 5, 6, 8, 9, 10, 12, 14, 15, 16, 17, 18]
def mS : List Nat := []
def mI : List Nat := [1]
def mA : List Nat := [1, 2, 3, 4, 5, 6, 7, 8, 9, 10, 11, 12, 13, 14, 15, 16, 17, 18, 19, 20, 21, 22, 23, 24]
def aTys : List FieldType := [.int, .boolean]
abbrev QCell := List Value ⊕ ((FieldType × List Int32) ⊕ List Int64)
abbrev QHeap := List QCell
abbrev QLoc := List (Option Value)
abbrev vI (x : Int32) : Option Value := some (.int x)
abbrev vR (a : Addr) : Option Value := some (.ref a)
abbrev QSt := Nat × QLoc × List Value × QHeap
def qv (ad : Nat → Addr) : Value → Value
 | .ref k => .ref (ad k)
 | v => v
def qsz : QCell → Nat
 | .inl _ => cN
 | .inr (.inl x) => x.2.length
 | .inr (.inr x) => x.length
def qhs : QHeap → Nat
 | [] => 0
 | c :: t => qsz c + qhs t
def aget {α : Type} (xs : List α) (j : Int32) : Option α := if j < 0 then none else xs[j.toNatClampNeg]?
def aset {α : Type} (xs : List α) (j : Int32) (v : α) : Option (List α) := if j < 0 then none else if j.toNatClampNeg < xs.length then some (xs.set j.toNatClampNeg v) else none
def qnew (n : Int32) : Option Nat := if n < 0 then none else if n.toNatClampNeg ≤ 67108864 then some n.toNatClampNeg else none
def qdiv (x y : Int32) : Option Int32 := if y = 0 then none else some (x / y)
def qrem (x y : Int32) : Option Int32 := if y = 0 then none else some (x % y)
def qboo (x : Int32) : Option Int32 := if x = 0 then some x else if x = 1 then some x else none
def lget : QLoc → Nat → Option Value
 | [], _ => none
 | v :: _, 0 => v
 | _ :: t, k + 1 => lget t k
def hget : QHeap → Nat → Option QCell
 | [], _ => none
 | v :: _, 0 => some v
 | _ :: t, k + 1 => hget t k
def vget : List Value → Nat → Option Value
 | [], _ => none
 | v :: _, 0 => some v
 | _ :: t, k + 1 => vget t k
def lkill (L : QLoc) : Nat → QLoc
 | 0 => L
 | k + 1 => match lget L k with
  | some (.long _) => L.set k none
  | some (.double _) => L.set k none
  | _ => L
def lput (L : QLoc) (k : Nat) (v : Value) : Option QLoc :=
 match v with
 | .long x => bif Nat.ble (k + 2) L.length then some (((lkill L k).set k (some (.long x))).set (k + 1) none) else none
 | .double _ => none
 | v => bif Nat.ble (k + 1) L.length then some ((lkill L k).set k (some v)) else none
def qload (pc : Nat) (L : QLoc) (S : List Value) (σ : QHeap) (k : Nat) (ok : Value → Bool) : Option QSt :=
 match lget L k with
 | some v => bif ok v then some (pc, L, v :: S, σ) else none
 | none => none
def isI : Value → Bool | .int _ => true | _ => false
def isJ : Value → Bool | .long _ => true | _ => false
def isR : Value → Bool | .ref _ => true | _ => false
def qstore (pc : Nat) (L : QLoc) (S : List Value) (σ : QHeap) (k : Nat) (ok : Value → Bool) : Option QSt :=
 match S with
 | v :: S' => bif ok v then (match lput L k v with | some L' => some (pc, L', S', σ) | none => none) else none
 | [] => none
def qbin (pc : Nat) (L : QLoc) (S : List Value) (σ : QHeap) (f : Int32 → Int32 → Int32) : Option QSt :=
 match S with
 | .int y :: .int x :: S' => some (pc, L, .int (f x y) :: S', σ)
 | _ => none
def qbino (pc : Nat) (L : QLoc) (S : List Value) (σ : QHeap) (f : Int32 → Int32 → Option Int32) : Option QSt :=
 match S with
 | .int y :: .int x :: S' => (f x y).bind fun z => some (pc, L, .int z :: S', σ)
 | _ => none
def qbinJ (pc : Nat) (L : QLoc) (S : List Value) (σ : QHeap) (f : Int64 → Int64 → Int64) : Option QSt :=
 match S with
 | .long y :: .long x :: S' => some (pc, L, .long (f x y) :: S', σ)
 | _ => none
def qshJ (pc : Nat) (L : QLoc) (S : List Value) (σ : QHeap) (f : Int64 → Int32 → Int64) : Option QSt :=
 match S with
 | .int y :: .long x :: S' => some (pc, L, .long (f x y) :: S', σ)
 | _ => none
def quni (pc : Nat) (L : QLoc) (S : List Value) (σ : QHeap) (f : Int32 → Value) : Option QSt :=
 match S with
 | .int x :: S' => some (pc, L, f x :: S', σ)
 | _ => none
def quniJ (pc : Nat) (L : QLoc) (S : List Value) (σ : QHeap) (f : Int64 → Value) : Option QSt :=
 match S with
 | .long x :: S' => some (pc, L, f x :: S', σ)
 | _ => none
def qald (pc : Nat) (L : QLoc) (S : List Value) (σ : QHeap) (ok : FieldType → Bool) : Option QSt :=
 match S with
 | .int j :: .ref a :: S' => (match hget σ a with
  | some (.inr (.inl x)) => bif ok x.1 then (aget x.2 j).bind fun v => some (pc, L, .int v :: S', σ) else none
  | _ => none)
 | _ => none
def qaldJ (pc : Nat) (L : QLoc) (S : List Value) (σ : QHeap) : Option QSt :=
 match S with
 | .int j :: .ref a :: S' => (match hget σ a with
  | some (.inr (.inr x)) => (aget x j).bind fun v => some (pc, L, .long v :: S', σ)
  | _ => none)
 | _ => none
def qnar : FieldType → Int32 → Int32
 | .boolean, x => x &&& 1
 | .byte, x => x.toInt8.toInt32
 | _, x => x
def qast (pc : Nat) (L : QLoc) (S : List Value) (σ : QHeap) (ok : FieldType → Bool) : Option QSt :=
 match S with
 | .int v :: .int j :: .ref a :: S' => (match hget σ a with
  | some (.inr (.inl x)) => bif ok x.1 && Nat.ble k0 a then (aset x.2 j (qnar x.1 v)).bind fun y => some (pc, L, S', σ.set a (.inr (.inl (x.1, y)))) else none
  | _ => none)
 | _ => none
def qastJ (pc : Nat) (L : QLoc) (S : List Value) (σ : QHeap) : Option QSt :=
 match S with
 | .long v :: .int j :: .ref a :: S' => (match hget σ a with
  | some (.inr (.inr x)) => bif Nat.ble k0 a then (aset x j v).bind fun y => some (pc, L, S', σ.set a (.inr (.inr y))) else none
  | _ => none)
 | _ => none
def tyI : FieldType → Bool | .int => true | _ => false
def tyB : FieldType → Bool | .boolean => true | .byte => true | _ => false
def qfit : FieldType → Value → Option Value
 | .int, .int x => some (.int x)
 | .boolean, .int x => (qboo x).bind fun y => some (.int y)
 | .long, .long x => some (.long x)
 | .array t, .ref a => some (.ref a)
 | _, _ => none
def qget (pc : Nat) (L : QLoc) (S : List Value) (σ : QHeap) (k : Nat) : Option QSt :=
 match S with
 | .ref a :: S' => (match hget σ a with
  | some (.inl vs) => (match vget vs k with | some v => some (pc, L, v :: S', σ) | none => none)
  | _ => none)
 | _ => none
def qput (pc : Nat) (L : QLoc) (S : List Value) (σ : QHeap) (k : Nat) : Option QSt :=
 match S with
 | v :: .ref a :: S' => (match hget σ a with
  | some (.inl vs) => bif Nat.ble k0 a && Nat.ble (k + 1) vs.length then (qfit (fTy k) v).bind fun w => some (pc, L, S', σ.set a (.inl (vs.set k w))) else none
  | _ => none)
 | _ => none
def qnewA (pc : Nat) (L : QLoc) (S : List Value) (σ : QHeap) (t : ArrayType) : Option QSt :=
 match S with
 | .int n :: S' => (match t with
  | .int => (qnew n).bind fun k => some (pc, L, .ref σ.length :: S', σ ++ [.inr (.inl (.int, List.replicate k 0))])
  | .boolean => (qnew n).bind fun k => some (pc, L, .ref σ.length :: S', σ ++ [.inr (.inl (.boolean, List.replicate k 0))])
  | .byte => (qnew n).bind fun k => some (pc, L, .ref σ.length :: S', σ ++ [.inr (.inl (.byte, List.replicate k 0))])
  | .long => (qnew n).bind fun k => some (pc, L, .ref σ.length :: S', σ ++ [.inr (.inr (List.replicate k 0))])
  | _ => none)
 | _ => none
def qlen (pc : Nat) (L : QLoc) (S : List Value) (σ : QHeap) : Option QSt :=
 match S with
 | .ref a :: S' => (match hget σ a with
  | some (.inr (.inl x)) => some (pc, L, .int x.2.length.toInt32 :: S', σ)
  | some (.inr (.inr x)) => some (pc, L, .int x.length.toInt32 :: S', σ)
  | _ => none)
 | _ => none
def qdup (pc : Nat) (L : QLoc) (S : List Value) (σ : QHeap) : Option QSt :=
 match S with
 | .int x :: S' => some (pc, L, .int x :: .int x :: S', σ)
 | .ref x :: S' => some (pc, L, .ref x :: .ref x :: S', σ)
 | _ => none
def qdup2 (pc : Nat) (L : QLoc) (S : List Value) (σ : QHeap) : Option QSt :=
 match S with
 | .int x :: .ref y :: S' => some (pc, L, .int x :: .ref y :: .int x :: .ref y :: S', σ)
 | .int x :: .int y :: S' => some (pc, L, .int x :: .int y :: .int x :: .int y :: S', σ)
 | .long x :: S' => some (pc, L, .long x :: .long x :: S', σ)
 | _ => none
def qpop (pc : Nat) (L : QLoc) (S : List Value) (σ : QHeap) : Option QSt :=
 match S with
 | .int _ :: S' => some (pc, L, S', σ)
 | .ref _ :: S' => some (pc, L, S', σ)
 | _ => none
def qif (pc : Nat) (L : QLoc) (S : List Value) (σ : QHeap) (cd : ClassFile.Cond) (tgt : Nat) : Option QSt :=
 match S with
 | .int x :: S' => some (bif ifCond.holds cd x then tgt else pc, L, S', σ)
 | _ => none
def qicmp (pc : Nat) (L : QLoc) (S : List Value) (σ : QHeap) (cd : ClassFile.Cond) (tgt : Nat) : Option QSt :=
 match S with
 | .int y :: .int x :: S' => some (bif if_icmp.holds cd x y then tgt else pc, L, S', σ)
 | _ => none
def qinc (pc : Nat) (L : QLoc) (S : List Value) (σ : QHeap) (k : Nat) (i : Int) : Option QSt :=
 match lget L k with
 | some (.int x) => (match lput L k (.int (x + Int32.ofInt i)) with | some L' => some (pc, L', S, σ) | none => none)
 | _ => none
def qldc (pc : Nat) (L : QLoc) (S : List Value) (σ : QHeap) (k : Nat) : Option QSt :=
 match vget cK k with
 | some v => some (pc, L, v :: S, σ)
 | none => none
def qexec (pc : Nat) (L : QLoc) (S : List Value) (σ : QHeap) (aux : Nat) : Instr → Option QSt
 | .aload_n k => qload (pc + 1) L S σ k.val isR
 | .aload k => qload (pc + 2) L S σ k isR
 | .iload_n k => qload (pc + 1) L S σ k.val isI
 | .iload k => qload (pc + 2) L S σ k isI
 | .lload_n k => qload (pc + 1) L S σ k.val isJ
 | .lload k => qload (pc + 2) L S σ k isJ
 | .iconst i => some (pc + 1, L, .int (Int32.ofInt i) :: S, σ)
 | .bipush i => some (pc + 2, L, .int (Int8.ofInt i).toInt32 :: S, σ)
 | .sipush i => some (pc + 3, L, .int (Int16.ofInt i).toInt32 :: S, σ)
 | .lconst k => some (pc + 1, L, .long (Int64.ofNat k.val) :: S, σ)
 | .ldc _ => qldc (pc + 2) L S σ aux
 | .ldc2_w _ => qldc (pc + 3) L S σ aux
 | .istore_n k => qstore (pc + 1) L S σ k.val isI
 | .istore k => qstore (pc + 2) L S σ k isI
 | .lstore_n k => qstore (pc + 1) L S σ k.val isJ
 | .lstore k => qstore (pc + 2) L S σ k isJ
 | .astore_n k => qstore (pc + 1) L S σ k.val isR
 | .astore k => qstore (pc + 2) L S σ k isR
 | .iinc k i => qinc (pc + 3) L S σ k i
 | .iadd => qbin (pc + 1) L S σ fun x y => x + y
 | .isub => qbin (pc + 1) L S σ fun x y => x - y
 | .imul => qbin (pc + 1) L S σ fun x y => x * y
 | .iand => qbin (pc + 1) L S σ fun x y => x &&& y
 | .ior => qbin (pc + 1) L S σ fun x y => x ||| y
 | .ixor => qbin (pc + 1) L S σ fun x y => x ^^^ y
 | .ishl => qbin (pc + 1) L S σ fun x y => x <<< (y &&& 31)
 | .ishr => qbin (pc + 1) L S σ fun x y => x >>> (y &&& 31)
 | .iushr => qbin (pc + 1) L S σ fun x y => XT.ushr x y
 | .idiv => qbino (pc + 1) L S σ qdiv
 | .irem => qbino (pc + 1) L S σ qrem
 | .ineg => quni (pc + 1) L S σ fun x => .int (-x)
 | .i2l => quni (pc + 1) L S σ fun x => .long x.toInt64
 | .i2b => quni (pc + 1) L S σ fun x => .int x.toInt8.toInt32
 | .l2i => quniJ (pc + 1) L S σ fun x => .int x.toInt32
 | .lneg => quniJ (pc + 1) L S σ fun x => .long (-x)
 | .ladd => qbinJ (pc + 1) L S σ fun x y => x + y
 | .lsub => qbinJ (pc + 1) L S σ fun x y => x - y
 | .lmul => qbinJ (pc + 1) L S σ fun x y => x * y
 | .land => qbinJ (pc + 1) L S σ fun x y => x &&& y
 | .lor => qbinJ (pc + 1) L S σ fun x y => x ||| y
 | .lxor => qbinJ (pc + 1) L S σ fun x y => x ^^^ y
 | .lshl => qshJ (pc + 1) L S σ fun x y => x <<< (y.toInt64 &&& 63)
 | .lshr => qshJ (pc + 1) L S σ fun x y => x >>> (y.toInt64 &&& 63)
 | .lushr => qshJ (pc + 1) L S σ fun x y => XT.ushrL x y
 | .lcmp => (match S with
  | .long y :: .long x :: S' => some (pc + 1, L, .int (XT.cmpL x y) :: S', σ)
  | _ => none)
 | .goto _ => some (aux, L, S, σ)
 | .ifCond cd _ => qif (pc + 3) L S σ cd aux
 | .if_icmp cd _ => qicmp (pc + 3) L S σ cd aux
 | .dup => qdup (pc + 1) L S σ
 | .dup2 => qdup2 (pc + 1) L S σ
 | .pop => qpop (pc + 1) L S σ
 | .getfield _ => qget (pc + 3) L S σ aux
 | .putfield _ => qput (pc + 3) L S σ aux
 | .iaload => qald (pc + 1) L S σ tyI
 | .baload => qald (pc + 1) L S σ tyB
 | .laload => qaldJ (pc + 1) L S σ
 | .iastore => qast (pc + 1) L S σ tyI
 | .bastore => qast (pc + 1) L S σ tyB
 | .lastore => qastJ (pc + 1) L S σ
 | .arraylength => qlen (pc + 1) L S σ
 | .newarray t => qnewA (pc + 2) L S σ t
 | .new _ => some (pc + 3, L, .ref σ.length :: S, σ ++ [.inl cDef])
 | _ => none
def qstep (m : Nat) (st : QSt) : Option QSt :=
 match pCode m st.1 with
 | some (i, aux) => qexec st.1 st.2.1 st.2.2.1 st.2.2.2 aux i
 | none => none
def qsteps (m : Nat) : Nat → QSt → Option QSt
 | 0, st => some st
 | n + 1, st => match qstep m st with | some st' => qsteps m n st' | none => none
def qentry (args : List Value) (mx : Nat) : QLoc := (args.flatMap fun v => match v with | .long x => [some (.long x), none] | .double x => [some (.double x), none] | v => [some v]) ++ List.replicate (mx - (args.map fun v => v.category).sum) none
def ilen : Instr → Nat
 | .aload _ | .iload _ | .lload _ | .istore _ | .lstore _ | .astore _ | .bipush _ | .ldc _ | .newarray _ => 2
 | .sipush _ | .ldc2_w _ | .iinc _ _ | .goto _ | .ifCond _ _ | .if_icmp _ _ | .getfield _ | .putfield _ | .new _ | .invokevirtual _ | .invokespecial _ | .invokestatic _ => 3
 | _ => 1
def qtgt (pc : Nat) (o : Int) (aux : Nat) : Bool := decide (0 ≤ (pc : Int) + o) && decide (((pc : Int) + o).toNat = aux)
def qlk (m pc : Nat) (i : Instr) (aux : Nat) : Bool :=
 match i with
 | .goto o => qtgt pc o aux
 | .ifCond _ o => qtgt pc o aux
 | .if_icmp _ o => qtgt pc o aux
 | .getfield idx => lkF.contains (pK m, idx, aux)
 | .putfield idx => lkF.contains (pK m, idx, aux) && (!fFin aux || (pK m == 1 && pNm m == "<init>"))
 | .new idx => lkN.contains (pK m, idx)
 | .newarray t => aTys.contains (newarray.typeOf t)
 | .ldc idx => lkC.contains (pK m, idx, aux)
 | .ldc2_w idx => lkD.contains (pK m, idx, aux)
 | _ => true
def qchk (m pc : Nat) (i : Instr) (aux : Nat) : Bool := decide (decode (pBytes m) pc = .ok (i, ilen i)) && qlk m pc i aux
def QCellOk (Z : State) (ad : Nat → Addr) (h : Heap) (a : Addr) : QCell → Prop
 | .inl vs => Exa Z h a cName ∧ vs.length = nF ∧ ∀ (k : Nat) (v : Value), k < nF → vget vs k = some v → Fld Z h a cName (fNm k) (fDs k) (qv ad v)
 | .inr (.inl x) => ∃ c : Cell, Arr Z h a c x.1 ∧ c.slots = (x.2.map Value.int).toArray
 | .inr (.inr x) => ∃ c : Cell, Arr Z h a c .long ∧ c.slots = (x.map Value.long).toArray
def QAd (n0 : Nat) (ad : Nat → Addr) : Prop := (∀ k, k0 ≤ k → ad k = n0 + (k - k0)) ∧ ∀ i j, ad i = ad j → i = j
def QRep (Z : State) (n0 : Nat) (ad : Nat → Addr) (h : Heap) (σ : QHeap) : Prop := k0 ≤ σ.length ∧ h.size = n0 + (σ.length - k0) ∧ ∀ k c, hget σ k = some c → QCellOk Z ad h (ad k) c
def QLocOk (ad : Nat → Addr) (L : QLoc) (C : Array Slot) : Prop :=
 L.length = C.size ∧ (∀ k v, lget L k = some v → C[k]? = some (.val (qv ad v))) ∧ (∀ k w, C[k]? = some (.val w) → w.category = 2 → C[k + 1]? = some .second) ∧ ∀ k, C[k]? = some .second → ∃ j w, k = j + 1 ∧ C[j]? = some (.val w) ∧ w.category = 2
def QW (Z : State) (a0 : Array Value) : Prop :=
 (∀ t ∈ lkF, (Cond.fieldLink (kName t.1) t.2.1 cName (fNm t.2.2) (fDs t.2.2)).before a0 Z = true) ∧
 (∀ t ∈ lkN, (Cond.classLink (kName t.1) t.2 cName).before a0 Z = true) ∧
 (∀ t ∈ lkC, ∃ v, vget cK t.2.2 = some (.int v) ∧ (Cond.constant (kName t.1) t.2.1 v).before a0 Z = true) ∧
 (∀ t ∈ lkD, ∃ v, vget cK t.2.2 = some (.long v) ∧ (Cond.constantLong (kName t.1) t.2.1 v).before a0 Z = true) ∧
 (∀ t ∈ lkV, (Cond.methodLink (kName t.1) t.2.1 (pName t.2.2)).before a0 Z = true) ∧
 (∀ t ∈ lkO, (Cond.methodLink (kName t.1) t.2 Lib.objectInit).before a0 Z = true) ∧
 (∀ m ∈ mV, (Cond.declares (pName m)).before a0 Z = true ∧ (Cond.selects cName (pName m) (pName m)).before a0 Z = true ∧ (Cond.instanceMethod (pName m)).before a0 Z = true) ∧
 (∀ m ∈ mP, (Cond.instanceMethod (pName m)).before a0 Z = true ∧ (Cond.privateMethod (pName m)).before a0 Z = true) ∧
 (∀ m ∈ mS, (Cond.static (pName m)).before a0 Z = true) ∧
 (∀ m ∈ mI, (Cond.instanceMethod (pName m)).before a0 Z = true) ∧
 (∀ m ∈ mA, (Cond.code (pName m) (pBytes m) (pMaxL m) (pRet m)).before a0 Z = true ∧ (Cond.initialized (kName (pK m))).before a0 Z = true) ∧
 (Cond.instanceMethod Lib.objectInit).before a0 Z = true ∧ (Cond.code Lib.objectInit ⟨#[0xb1]⟩ 1 none).before a0 Z = true ∧
 (∀ k, k < nF → bif fFin k then (Cond.laysFinal cName cName (fNm k) (fDs k)).before a0 Z = true else (Cond.lays cName cName (fNm k) (fDs k)).before a0 Z = true) ∧
 (Cond.instantiable cName cN).before a0 Z = true ∧ (Cond.initialized cName).before a0 Z = true ∧
 ∀ ty ∈ aTys, (Cond.arrayClass ty).before a0 Z = true
section Words
variable {Z : State} {a0 : Array Value}
theorem qw_fl (W : QW Z a0) : ∀ t ∈ lkF, (Cond.fieldLink (kName t.1) t.2.1 cName (fNm t.2.2) (fDs t.2.2)).before a0 Z = true := W.1
theorem qw_nw (W : QW Z a0) : ∀ t ∈ lkN, (Cond.classLink (kName t.1) t.2 cName).before a0 Z = true := W.2.1
theorem qw_cI (W : QW Z a0) : ∀ t ∈ lkC, ∃ v, vget cK t.2.2 = some (.int v) ∧ (Cond.constant (kName t.1) t.2.1 v).before a0 Z = true := W.2.2.1
theorem qw_cJ (W : QW Z a0) : ∀ t ∈ lkD, ∃ v, vget cK t.2.2 = some (.long v) ∧ (Cond.constantLong (kName t.1) t.2.1 v).before a0 Z = true := W.2.2.2.1
theorem qw_ml (W : QW Z a0) : ∀ t ∈ lkV, (Cond.methodLink (kName t.1) t.2.1 (pName t.2.2)).before a0 Z = true := W.2.2.2.2.1
theorem qw_mo (W : QW Z a0) : ∀ t ∈ lkO, (Cond.methodLink (kName t.1) t.2 Lib.objectInit).before a0 Z = true := W.2.2.2.2.2.1
theorem qw_vi (W : QW Z a0) : ∀ m ∈ mV, (Cond.declares (pName m)).before a0 Z = true ∧ (Cond.selects cName (pName m) (pName m)).before a0 Z = true ∧ (Cond.instanceMethod (pName m)).before a0 Z = true := W.2.2.2.2.2.2.1
theorem qw_pr (W : QW Z a0) : ∀ m ∈ mP, (Cond.instanceMethod (pName m)).before a0 Z = true ∧ (Cond.privateMethod (pName m)).before a0 Z = true := W.2.2.2.2.2.2.2.1
theorem qw_st (W : QW Z a0) : ∀ m ∈ mS, (Cond.static (pName m)).before a0 Z = true := W.2.2.2.2.2.2.2.2.1
theorem qw_ini (W : QW Z a0) : ∀ m ∈ mI, (Cond.instanceMethod (pName m)).before a0 Z = true := W.2.2.2.2.2.2.2.2.2.1
theorem qw_cod (W : QW Z a0) : ∀ m ∈ mA, (Cond.code (pName m) (pBytes m) (pMaxL m) (pRet m)).before a0 Z = true ∧ (Cond.initialized (kName (pK m))).before a0 Z = true := W.2.2.2.2.2.2.2.2.2.2.1
theorem qw_oi (W : QW Z a0) : (Cond.instanceMethod Lib.objectInit).before a0 Z = true := W.2.2.2.2.2.2.2.2.2.2.2.1
theorem qw_oc (W : QW Z a0) : (Cond.code Lib.objectInit ⟨#[0xb1]⟩ 1 none).before a0 Z = true := W.2.2.2.2.2.2.2.2.2.2.2.2.1
theorem qw_lay (W : QW Z a0) : ∀ k, k < nF → bif fFin k then (Cond.laysFinal cName cName (fNm k) (fDs k)).before a0 Z = true else (Cond.lays cName cName (fNm k) (fDs k)).before a0 Z = true := W.2.2.2.2.2.2.2.2.2.2.2.2.2.1
theorem qw_inst (W : QW Z a0) : (Cond.instantiable cName cN).before a0 Z = true := W.2.2.2.2.2.2.2.2.2.2.2.2.2.2.1
theorem qw_init (W : QW Z a0) : (Cond.initialized cName).before a0 Z = true := W.2.2.2.2.2.2.2.2.2.2.2.2.2.2.2.1
theorem qw_arr (W : QW Z a0) : ∀ ty ∈ aTys, (Cond.arrayClass ty).before a0 Z = true := W.2.2.2.2.2.2.2.2.2.2.2.2.2.2.2.2
end Words
theorem hget_eq : ∀ (σ : QHeap) k, hget σ k = σ[k]?
 | [], _ => by simp [hget]
 | _ :: _, 0 => by simp [hget]
 | _ :: t, k + 1 => by simp [hget, hget_eq t k]
theorem vget_eq : ∀ (σ : List Value) k, vget σ k = σ[k]?
 | [], _ => by simp [vget]
 | _ :: _, 0 => by simp [vget]
 | _ :: t, k + 1 => by simp [vget, vget_eq t k]
theorem lget_eq : ∀ (L : QLoc) k, lget L k = (L[k]?).getD none
 | [], _ => by simp [lget]
 | _ :: _, 0 => by simp [lget]
 | _ :: t, k + 1 => by simp [lget, lget_eq t k]
theorem lget_lt {L : QLoc} {k : Nat} {v : Value} (h : lget L k = some v) : k < L.length := by
 rw [lget_eq] at h
 rcases Nat.lt_or_ge k L.length with q | q
 ·exact q
 ·simp [List.getElem?_eq_none q] at h
theorem lget_set {L : QLoc} {k j : Nat} {o : Option Value} (hk : k < L.length) : lget (L.set k o) j = if j = k then o else lget L j := by
 simp only [lget_eq, List.getElem?_set]
 by_cases e : k = j
 ·subst e; simp [hk]
 ·simp [e, Ne.symm e]
theorem qhs_app (σ τ : QHeap) : qhs (σ ++ τ) = qhs σ + qhs τ := by
 induction σ with
 | nil => simp [qhs]
 | cons c t ih => simp [qhs, ih, Nat.add_assoc]
theorem qhs_set {σ : QHeap} {k : Nat} {c d : QCell} (h : hget σ k = some c) (hs : qsz d = qsz c) : qhs (σ.set k d) = qhs σ := by
 induction σ generalizing k with
 | nil => simp [hget] at h
 | cons x t ih =>
  cases k with
  | zero => simp only [hget, Option.some.injEq] at h; subst h; simp [qhs, hs]
  | succ k => simp only [hget] at h; simp [qhs, ih h]
theorem hget_set {σ : QHeap} {k j : Nat} {c d : QCell} (h : hget σ k = some c) : hget (σ.set k d) j = if j = k then some d else hget σ j := by
 rw [hget_eq] at h
 have hk := (List.getElem?_eq_some_iff.mp h).1
 simp only [hget_eq, List.getElem?_set]
 by_cases e : k = j
 ·subst e; simp [hk]
 ·simp [e, Ne.symm e]
theorem lkill_len (L : QLoc) (k : Nat) : (lkill L k).length = L.length := by
 cases k with
 | zero => rfl
 | succ k => simp only [lkill]; split <;> simp
theorem lget_kill {L : QLoc} {k j : Nat} {v : Value} (h : lget (lkill L k) j = some v) : lget L j = some v ∧ (k = j + 1 → v.category ≠ 2) := by
 cases k with
 | zero => exact ⟨h, fun e => by omega⟩
 | succ k =>
  simp only [lkill] at h
  split at h
  ·rename_i x q
   rw [lget_set (lget_lt q)] at h
   split at h
   ·cases h
   ·rename_i ne; exact ⟨h, fun e => absurd (by omega) ne⟩
  ·rename_i x q
   rw [lget_set (lget_lt q)] at h
   split at h
   ·cases h
   ·rename_i ne; exact ⟨h, fun e => absurd (by omega) ne⟩
  ·rename_i q1 q2
   refine ⟨h, fun e hc => ?_⟩
   obtain rfl : j = k := by omega
   cases v with
   | long x => exact q1 _ h
   | double x => exact q2 _ h
   | _ => simp [Value.category] at hc
theorem qv_cat (ad : Nat → Addr) (v : Value) : (qv ad v).category = v.category := by cases v <;> rfl
def kA (C : Array Slot) (k j : Nat) : Prop := k = j + 1 ∧ C[k]? = some .second
def kB (C : Array Slot) (k j : Nat) : Prop := j = k + 1 ∧ ∃ u, C[k]? = some (.val u) ∧ u.category = 2
def kD (C : Array Slot) (k j : Nat) : Prop := j = k + 2 ∧ ∃ u, C[k + 1]? = some (.val u) ∧ u.category = 2
theorem set1_at {C D : Array Slot} {k : Nat} {w : Value} (hk : k < C.size) (hw : w.category = 1) (h : storeLocals C k w = some D) :
  D.size = C.size ∧ D[k]? = some (.val w) ∧ ∀ j, j ≠ k → (D[j]? = C[j]? ∧ ¬ kA C k j ∧ ¬ kB C k j) ∨ D[j]? = some .unset ∧ (kA C k j ∨ kB C k j) := by
 have hck : C[k]? = some C[k] := Array.getElem?_eq_getElem hk
 unfold storeLocals at h
 simp only [hck, Option.bind_eq_bind, Option.bind_some] at h
 have self : ∀ {E : Array Slot}, k < E.size → storeSelf E k w = some D → D = E.setIfInBounds k (.val w) := by
  intro E hE q
  simp only [storeSelf, setAt, hE, if_true, Option.bind_eq_bind, Option.bind_some, hw] at q
  simpa using q.symm
 split at h
 ·rename_i q
  have hk1 : k - 1 < C.size := by omega
  simp only [setAt, hk1, if_true, Option.bind_some] at h
  have e := self (by simpa using hk) h
  subst e
  refine ⟨by simp, by simp [hk], fun j hj => ?_⟩
  by_cases ej : k = j + 1
  ·refine Or.inr ⟨?_, Or.inl ⟨ej, by rw [hck, q]⟩⟩
   rw [Array.getElem?_setIfInBounds_ne (Ne.symm hj), show j = k - 1 by omega]
   simp [hk1]
  ·refine Or.inl ⟨?_, fun x => ej x.1, fun x => ?_⟩
   ·rw [Array.getElem?_setIfInBounds_ne (Ne.symm hj), Array.getElem?_setIfInBounds_ne (by omega)]
   ·obtain ⟨-, u, x1, -⟩ := x
    rw [hck, q] at x1; cases x1
 ·rename_i u q
  split at h
  ·rename_i hu
   by_cases hk1 : k + 1 < C.size
   ·simp only [setAt, hk1, if_true, Option.bind_some] at h
    have e := self (by simpa using hk) h
    subst e
    refine ⟨by simp, by simp [hk], fun j hj => ?_⟩
    by_cases ej : j = k + 1
    ·refine Or.inr ⟨?_, Or.inr ⟨ej, u, by rw [hck, q], hu⟩⟩
     rw [Array.getElem?_setIfInBounds_ne (Ne.symm hj), ej]
     simp [hk1]
    ·refine Or.inl ⟨?_, fun x => ?_, fun x => ej x.1⟩
     ·rw [Array.getElem?_setIfInBounds_ne (Ne.symm hj), Array.getElem?_setIfInBounds_ne (by omega)]
     ·obtain ⟨-, x1⟩ := x
      rw [hck, q] at x1; cases x1
   ·simp [setAt, hk1] at h
  ·rename_i hu
   have e := self hk h
   subst e
   refine ⟨by simp, by simp [hk], fun j hj => Or.inl ⟨Array.getElem?_setIfInBounds_ne (Ne.symm hj), fun x => ?_, fun x => ?_⟩⟩
   ·obtain ⟨-, x1⟩ := x
    rw [hck, q] at x1; cases x1
   ·obtain ⟨-, u', x1, x2⟩ := x
    rw [hck, q] at x1; cases x1; exact hu x2
 ·rename_i q
  have e := self hk h
  subst e
  refine ⟨by simp, by simp [hk], fun j hj => Or.inl ⟨Array.getElem?_setIfInBounds_ne (Ne.symm hj), fun x => ?_, fun x => ?_⟩⟩
  ·obtain ⟨-, x1⟩ := x
   rw [hck, q] at x1; cases x1
  ·obtain ⟨-, u', x1, x2⟩ := x
   rw [hck, q] at x1; cases x1
theorem set2_at {C D : Array Slot} {k : Nat} {w : Value} (hk : k + 1 < C.size) (hw : w.category = 2) (wf : ∀ k w, C[k]? = some (.val w) → w.category = 2 → C[k + 1]? = some .second) (h : storeLocals C k w = some D) :
  D.size = C.size ∧ D[k]? = some (.val w) ∧ D[k + 1]? = some .second ∧ ∀ j, j ≠ k → j ≠ k + 1 → (D[j]? = C[j]? ∧ ¬ kA C k j ∧ ¬ kD C k j) ∨ D[j]? = some .unset ∧ (kA C k j ∨ kD C k j) := by
 have hk0 : k < C.size := by omega
 have hck : C[k]? = some C[k] := Array.getElem?_eq_getElem hk0
 unfold storeLocals at h
 simp only [hck, Option.bind_eq_bind, Option.bind_some] at h
 have self : ∀ {E : Array Slot}, E.size = C.size → storeSelf E k w = some D → D.size = C.size ∧ D[k]? = some (.val w) ∧ D[k + 1]? = some .second ∧ ∀ j, j ≠ k → j ≠ k + 1 → (D[j]? = E[j]? ∧ ¬ kD E k j) ∨ D[j]? = some .unset ∧ kD E k j := by
  intro E hs q
  have h1 : k < E.size := by omega
  have h2 : k + 1 < E.size := by omega
  have h3 : (E.setIfInBounds k (.val w))[k + 1]? = some E[k + 1] := by rw [Array.getElem?_setIfInBounds_ne (by omega)]; exact Array.getElem?_eq_getElem h2
  simp only [storeSelf, setAt, h1, if_true, Option.bind_eq_bind, Option.bind_some, hw, h3] at q
  have plain : (¬ ∃ u, E[k + 1]? = some (.val u) ∧ u.category = 2) → some ((E.setIfInBounds k (.val w)).setIfInBounds (k + 1) .second) = some D → D.size = C.size ∧ D[k]? = some (.val w) ∧ D[k + 1]? = some .second ∧ ∀ j, j ≠ k → j ≠ k + 1 → (D[j]? = E[j]? ∧ ¬ kD E k j) ∨ D[j]? = some .unset ∧ kD E k j := by
   intro no q
   cases q
   refine ⟨by simp [hs], ?_, ?_, fun j hj hj1 => Or.inl ⟨?_, fun x => no x.2⟩⟩
   ·rw [Array.getElem?_setIfInBounds_ne (by omega)]; simp [h1]
   ·simp [h2]
   ·rw [Array.getElem?_setIfInBounds_ne (by omega), Array.getElem?_setIfInBounds_ne (by omega)]
  split at q
  ·rename_i u hu
   split at q
   ·rename_i hu2
    by_cases h5 : k + 2 < E.size
    ·simp [h5, h2] at q
     cases q
     refine ⟨by simp [hs], ?_, ?_, fun j hj hj1 => ?_⟩
     ·rw [Array.getElem?_setIfInBounds_ne (by omega), Array.getElem?_setIfInBounds_ne (by omega)]; simp [h1]
     ·simp [h2]
     ·by_cases e : j = k + 2
      ·refine Or.inr ⟨?_, e, u, by rw [Array.getElem?_eq_getElem h2, hu], hu2⟩
       rw [Array.getElem?_setIfInBounds_ne (by omega), e]
       simp [h5]
      ·refine Or.inl ⟨?_, fun x => e x.1⟩
       rw [Array.getElem?_setIfInBounds_ne (by omega), Array.getElem?_setIfInBounds_ne (by omega), Array.getElem?_setIfInBounds_ne (by omega)]
    ·simp [h5] at q
   ·rename_i hu2
    refine plain ?_ (by simpa [h2] using q)
    rintro ⟨u', x1, x2⟩
    rw [Array.getElem?_eq_getElem h2, hu] at x1; cases x1; exact hu2 x2
  ·rename_i hu
   refine plain ?_ (by simpa [h2] using q)
   rintro ⟨u', x1, x2⟩
   rw [Array.getElem?_eq_getElem h2] at x1; exact hu _ (Option.some.inj x1)
 split at h
 ·rename_i q
  have hk1 : k - 1 < C.size := by omega
  simp only [setAt, hk1, if_true, Option.bind_some] at h
  obtain ⟨e1, e2, e3, e4⟩ := self (by simp) h
  refine ⟨e1, e2, e3, fun j hj hj1 => ?_⟩
  have h6 : ∀ i, i + 1 ≠ k ∨ k = 0 → i ≠ k ∨ k ≠ 0 → (C.setIfInBounds (k - 1) Slot.unset)[i]? = C[i]? := fun i hi hi2 => Array.getElem?_setIfInBounds_ne (by omega)
  have h7 : (C.setIfInBounds (k - 1) Slot.unset)[k + 1]? = C[k + 1]? := Array.getElem?_setIfInBounds_ne (by omega)
  rcases e4 j hj hj1 with ⟨r, r'⟩ | ⟨r, r1, u, r2, r3⟩
  ·by_cases ej : k = j + 1
   ·refine Or.inr ⟨?_, Or.inl ⟨ej, by rw [hck, q]⟩⟩
    rw [r, show j = k - 1 by omega]; simp [hk1]
   ·refine Or.inl ⟨by rw [r]; exact h6 _ (by omega) (by omega), fun x => ej x.1, fun x => r' ⟨x.1, ?_⟩⟩
    rw [h7]; exact x.2
  ·exact Or.inr ⟨r, Or.inr ⟨r1, u, by rw [← h7]; exact r2, r3⟩⟩
 ·rename_i u q
  split at h
  ·rename_i hu
   simp only [setAt, hk, if_true, Option.bind_some] at h
   obtain ⟨e1, e2, e3, e4⟩ := self (by simp) h
   have hsec := wf k u (by rw [hck, q]) hu
   refine ⟨e1, e2, e3, fun j hj hj1 => ?_⟩
   rcases e4 j hj hj1 with ⟨r, r'⟩ | ⟨r, r1, u', r2, r3⟩
   ·refine Or.inl ⟨by rw [r]; exact Array.getElem?_setIfInBounds_ne (by omega), fun x => ?_, fun x => ?_⟩
    ·obtain ⟨-, x1⟩ := x
     rw [hck, q] at x1; cases x1
    ·obtain ⟨-, u', x1, x2⟩ := x
     rw [hsec] at x1; cases x1
   ·simp [hk] at r2
  ·rename_i hu
   obtain ⟨e1, e2, e3, e4⟩ := self rfl h
   refine ⟨e1, e2, e3, fun j hj hj1 => ?_⟩
   rcases e4 j hj hj1 with ⟨r, r'⟩ | ⟨r, r'⟩
   ·refine Or.inl ⟨r, fun x => ?_, r'⟩
    obtain ⟨-, x1⟩ := x
    rw [hck, q] at x1; cases x1
   ·exact Or.inr ⟨r, Or.inr r'⟩
 ·rename_i q
  obtain ⟨e1, e2, e3, e4⟩ := self rfl h
  refine ⟨e1, e2, e3, fun j hj hj1 => ?_⟩
  rcases e4 j hj hj1 with ⟨r, r'⟩ | ⟨r, r'⟩
  ·refine Or.inl ⟨r, fun x => ?_, r'⟩
   obtain ⟨-, x1⟩ := x
   rw [hck, q] at x1; cases x1
  ·exact Or.inr ⟨r, Or.inr r'⟩
theorem store_some {C : Array Slot} {k : Nat} {w : Value} (hk : k + (w.category - 1) < C.size) (hc : w.category = 1 ∨ w.category = 2) (wf : ∀ k w, C[k]? = some (.val w) → w.category = 2 → C[k + 1]? = some .second) :
  ∃ D, storeLocals C k w = some D := by
 have hk0 : k < C.size := by omega
 have hck : C[k]? = some C[k] := Array.getElem?_eq_getElem hk0
 have self : ∀ {E : Array Slot}, E.size = C.size → (∀ u, E[k + 1]? = some (.val u) → u.category = 2 → k + 2 < E.size) → ∃ D, storeSelf E k w = some D := by
  intro E hs hn
  have h1 : k < E.size := by omega
  simp only [storeSelf, setAt, h1, if_true, Option.bind_eq_bind, Option.bind_some]
  rcases hc with hc | hc
  ·exact ⟨E.setIfInBounds k (.val w), by simp [hc]⟩
  ·have h2 : k + 1 < E.size := by omega
   have h3 : (E.setIfInBounds k (.val w))[k + 1]? = some E[k + 1] := by rw [Array.getElem?_setIfInBounds_ne (by omega)]; exact Array.getElem?_eq_getElem h2
   simp only [hc, if_true, h3, Option.bind_some]
   split
   ·rename_i u hu
    split
    ·rename_i hu2
     have h5 := hn u (by rw [Array.getElem?_eq_getElem h2, hu]) hu2
     exact ⟨_, by simp [h5, h2]; rfl⟩
    ·exact ⟨_, by simp [h2]; rfl⟩
   ·exact ⟨_, by simp [h2]; rfl⟩
 have next : ∀ u, C[k + 1]? = some (.val u) → u.category = 2 → k + 2 < C.size := fun u h1 h2 => (Array.getElem?_eq_some_iff.mp (wf _ _ h1 h2)).1
 unfold storeLocals
 simp only [hck, Option.bind_eq_bind, Option.bind_some]
 split
 ·have hk1 : k - 1 < C.size := by omega
  simp only [setAt, hk1, if_true, Option.bind_some]
  refine self (by simp) fun u h1 h2 => ?_
  rw [Array.getElem?_setIfInBounds_ne (by omega)] at h1
  simpa using next u h1 h2
 ·rename_i u q
  split
  ·rename_i hu
   have h5 := (Array.getElem?_eq_some_iff.mp (wf k u (by rw [hck, q]) hu)).1
   simp only [setAt, h5, if_true, Option.bind_some]
   refine self (by simp) fun u h1 h2 => ?_
   simp [h5] at h1
  ·exact self rfl next
 ·exact self rfl next
theorem store_ok1 {ad : Nat → Addr} {L : QLoc} {C : Array Slot} {k : Nat} {v : Value} (H : QLocOk ad L C) (hv : v.category = 1) (hk : k < L.length) :
  ∃ D, storeLocals C k (qv ad v) = some D ∧ QLocOk ad ((lkill L k).set k (some v)) D ∧ D.size = C.size := by
 obtain ⟨H1, H2, H3, H4⟩ := H
 have hc : (qv ad v).category = 1 := by rw [qv_cat, hv]
 obtain ⟨D, hD⟩ := store_some (C := C) (k := k) (w := qv ad v) (by rw [hc]; omega) (Or.inl hc) H3
 obtain ⟨d1, d2, d3⟩ := set1_at (by omega) hc hD
 refine ⟨D, hD, ⟨by simp [lkill_len, H1, d1], fun j u hj => ?_, fun j w hj hw => ?_, fun j hj => ?_⟩, d1⟩
 ·rw [lget_set (by rw [lkill_len]; exact hk)] at hj
  split at hj
  ·rename_i e; cases hj; rw [e]; exact d2
  ·rename_i ne
   obtain ⟨g1, g2⟩ := lget_kill hj
   have g3 := H2 j u g1
   rcases d3 j ne with ⟨r, -, -⟩ | ⟨-, ⟨r1, r2⟩ | ⟨r1, w, r2, r3⟩⟩
   ·rw [r]; exact g3
   ·obtain ⟨i, w, z1, z2, z3⟩ := H4 k r2
    obtain rfl : i = j := by omega
    rw [g3] at z2
    cases z2
    rw [qv_cat] at z3
    exact absurd z3 (g2 r1)
   ·have := H3 k w r2 r3
    rw [← r1, g3] at this
    cases this
 ·by_cases e : j = k
  ·subst e; rw [d2] at hj; cases hj; rw [hc] at hw; cases hw
  ·rcases d3 j e with ⟨r, nA, nB⟩ | ⟨r, -⟩
   ·rw [r] at hj
    have g := H3 j w hj hw
    have e2 : j + 1 ≠ k := fun q => nA ⟨q.symm, by rw [← q]; exact g⟩
    rcases d3 (j + 1) e2 with ⟨z, -, -⟩ | ⟨-, ⟨z1, z2⟩ | ⟨z1, -⟩⟩
    ·rw [z]; exact g
    ·obtain ⟨i, u, y1, y2, y3⟩ := H4 k z2
     obtain rfl : i = j + 1 := by omega
     rw [g] at y2; cases y2
    ·omega
   ·rw [r] at hj; cases hj
 ·by_cases e : j = k
  ·subst e; rw [d2] at hj; cases hj
  ·rcases d3 j e with ⟨r, nA, nB⟩ | ⟨r, -⟩
   ·rw [r] at hj
    obtain ⟨i, w, y1, y2, y3⟩ := H4 j hj
    refine ⟨i, w, y1, ?_, y3⟩
    have ei : i ≠ k := fun q => nB ⟨by omega, w, by rw [← q]; exact y2, y3⟩
    rcases d3 i ei with ⟨z, -, -⟩ | ⟨-, ⟨z1, z2⟩ | ⟨z1, u, z2, z3⟩⟩
    ·rw [z]; exact y2
    ·omega
    ·have := H3 k u z2 z3
     rw [← z1, y2] at this; cases this
   ·rw [r] at hj; cases hj
theorem store_ok2 {ad : Nat → Addr} {L : QLoc} {C : Array Slot} {k : Nat} {x : Int64} (H : QLocOk ad L C) (hk : k + 1 < L.length) :
  ∃ D, storeLocals C k (.long x) = some D ∧ QLocOk ad (((lkill L k).set k (some (.long x))).set (k + 1) none) D ∧ D.size = C.size := by
 obtain ⟨H1, H2, H3, H4⟩ := H
 have hc : (Value.long x).category = 2 := rfl
 obtain ⟨D, hD⟩ := store_some (C := C) (k := k) (w := .long x) (by rw [hc]; omega) (Or.inr hc) H3
 obtain ⟨d1, d2, d2', d3⟩ := set2_at (by omega) hc H3 hD
 refine ⟨D, hD, ⟨by simp [lkill_len, H1, d1], fun j u hj => ?_, fun j w hj hw => ?_, fun j hj => ?_⟩, d1⟩
 ·rw [lget_set (by simp [lkill_len]; exact hk)] at hj
  split at hj
  ·cases hj
  ·rename_i ne1
   rw [lget_set (by rw [lkill_len]; omega)] at hj
   split at hj
   ·rename_i e; cases hj; rw [e]; exact d2
   ·rename_i ne
    obtain ⟨g1, g2⟩ := lget_kill hj
    have g3 := H2 j u g1
    rcases d3 j ne ne1 with ⟨r, -, -⟩ | ⟨-, ⟨r1, r2⟩ | ⟨r1, w, r2, r3⟩⟩
    ·rw [r]; exact g3
    ·obtain ⟨i, w, z1, z2, z3⟩ := H4 k r2
     obtain rfl : i = j := by omega
     rw [g3] at z2
     cases z2
     rw [qv_cat] at z3
     exact absurd z3 (g2 r1)
    ·have := H3 (k + 1) w r2 r3
     rw [show k + 1 + 1 = j by omega, g3] at this
     cases this
 ·by_cases e : j = k
  ·rw [e]; exact d2'
  ·by_cases e1 : j = k + 1
   ·rw [e1, d2'] at hj; cases hj
   ·rcases d3 j e e1 with ⟨r, nA, nB⟩ | ⟨r, -⟩
    ·rw [r] at hj
     have g := H3 j w hj hw
     have e2 : j + 1 ≠ k := fun q => nA ⟨q.symm, by rw [← q]; exact g⟩
     rcases d3 (j + 1) e2 (by omega) with ⟨z, -, -⟩ | ⟨-, ⟨z1, z2⟩ | ⟨z1, -⟩⟩
     ·rw [z]; exact g
     ·obtain ⟨i, u, y1, y2, y3⟩ := H4 k z2
      obtain rfl : i = j + 1 := by omega
      rw [g] at y2; cases y2
     ·omega
    ·rw [r] at hj; cases hj
 ·by_cases e : j = k
  ·rw [e, d2] at hj; cases hj
  ·by_cases e1 : j = k + 1
   ·exact ⟨k, _, e1, d2, hc⟩
   ·rcases d3 j e e1 with ⟨r, nA, nB⟩ | ⟨r, -⟩
    ·rw [r] at hj
     obtain ⟨i, w, y1, y2, y3⟩ := H4 j hj
     refine ⟨i, w, y1, ?_, y3⟩
     have ei : i ≠ k := fun q => e1 (by omega)
     have ei1 : i ≠ k + 1 := fun q => nB ⟨by omega, w, by rw [← q]; exact y2, y3⟩
     rcases d3 i ei ei1 with ⟨z, -, -⟩ | ⟨-, ⟨z1, z2⟩ | ⟨z1, u, z2, z3⟩⟩
     ·rw [z]; exact y2
     ·omega
     ·have := H3 (k + 1) u z2 z3
      rw [show k + 1 + 1 = i by omega, y2] at this; cases this
    ·rw [r] at hj; cases hj
theorem store_ok {ad : Nat → Addr} {L L' : QLoc} {C : Array Slot} {k : Nat} {v : Value} (H : QLocOk ad L C) (h : lput L k v = some L') :
  ∃ D, storeLocals C k (qv ad v) = some D ∧ QLocOk ad L' D ∧ D.size = C.size := by
 have one : v.category = 1 → (bif Nat.ble (k + 1) L.length then some ((lkill L k).set k (some v)) else none) = some L' → ∃ D, storeLocals C k (qv ad v) = some D ∧ QLocOk ad L' D ∧ D.size = C.size := by
  intro hv h
  cases hb : Nat.ble (k + 1) L.length with
  | false => rw [hb] at h; cases h
  | true => rw [hb] at h; cases h; exact store_ok1 H hv (Nat.le_of_ble_eq_true hb)
 cases v with
 | long x =>
  simp only [lput] at h
  cases hb : Nat.ble (k + 2) L.length with
  | false => rw [hb] at h; cases h
  | true => rw [hb] at h; cases h; exact store_ok2 H (Nat.le_of_ble_eq_true hb)
 | double x => simp [lput] at h
 | int x => exact one rfl h
 | float x => exact one rfl h
 | null => exact one rfl h
 | ref x => exact one rfl h
 | retAddr x => exact one rfl h
theorem fInj : ∀ i, i < nF → ∀ j, j < nF → fNm i = fNm j → i = j := by decide +kernel
theorem fPrs : ∀ i, i < nF → parseFieldDescriptor (fDs i) = some (fTy i) := by decide +kernel
theorem cDefs : ∀ i, i < nF → vget cDef i = some (defaultValue (fTy i)) := by decide +kernel
theorem cDefL : cDef.length = nF := by decide +kernel
theorem fDef : ∀ i, i < nF → ∀ a, defaultValue (fTy i) ≠ .ref a := by
 intro i _ a
 cases fTy i <;> simp [defaultValue]
theorem kPlain : ∀ k, k < 2 → plainName (kName k) = true := by
 intro k hk
 rcases k with _ | _ | k
 ·first | decide +kernel | (simp [kName, plainName, overriddenIn]; done)
 ·first | decide +kernel | (simp [kName, plainName, overriddenIn]; done)
 ·omega
theorem pKlt : ∀ m, m < pN → pK m < 2 := by decide +kernel
theorem pSig : ∀ m, m < pN → (parseMethodDescriptor (pDs m)).map (fun sg => sg.parameters.length) = some (pNA m) := by decide +kernel
theorem pOwn : ∀ k, k < 2 → kName k ≠ "java/lang/invoke/MethodHandle" ∧ kName k ≠ "java/lang/invoke/VarHandle" := by decide +kernel
theorem mAlt : ∀ m ∈ mA, m < pN := by decide +kernel
theorem mVlt : ∀ m ∈ mV, m ∈ mA ∧ pK m = 1 := by decide +kernel
theorem mPlt : ∀ m ∈ mP, m ∈ mA ∧ pK m = 1 := by decide +kernel
theorem mSlt : ∀ m ∈ mS, m ∈ mA := by decide +kernel
theorem mIlt : ∀ m ∈ mI, m ∈ mA ∧ pK m = 1 ∧ pNm m = "<init>" ∧ pRet m = none := by decide +kernel
theorem kOne : kName 1 = cName := rfl
set_option maxRecDepth 100000 in
set_option maxHeartbeats 4000000 in
theorem pChk0 : ∀ m, m < pN → ∀ pc, pc < pTop → (match pCode m pc with | some t => qchk m pc t.1 t.2 | none => true) = true := by decide +kernel
theorem pIn {m pc : Nat} {t : Instr × Nat} (h : pCode m pc = some t) : m < pN ∧ pc < pTop := by
 unfold pCode at h
 cases h1 : Nat.ble pN m with
 | true => rw [h1] at h; cases h
 | false =>
  cases h2 : Nat.ble pTop pc with
  | true => rw [h1, h2] at h; cases h
  | false => exact ⟨Nat.lt_of_not_le (fun q => by rw [Nat.ble_eq_true_of_le q] at h1; cases h1), Nat.lt_of_not_le (fun q => by rw [Nat.ble_eq_true_of_le q] at h2; cases h2)⟩
theorem pChk {m pc : Nat} {i : Instr} {aux : Nat} (h : pCode m pc = some (i, aux)) : qchk m pc i aux = true := by
 have q := pChk0 m (pIn h).1 pc (pIn h).2
 rw [h] at q
 exact q
theorem pDec {m pc : Nat} {i : Instr} {aux : Nat} (h : pCode m pc = some (i, aux)) : decode (pBytes m) pc = .ok (i, ilen i) := by
 have q := pChk h
 unfold qchk at q
 exact of_decide_eq_true (Bool.and_eq_true_iff.mp q).1
theorem pDecN {m pc n : Nat} {i : Instr} {aux : Nat} (h : pCode m pc = some (i, aux)) (hn : ilen i = n) : decode (pBytes m) pc = .ok (i, n) := by
 rw [← hn]; exact pDec h
theorem pRest {m pc : Nat} {i : Instr} {aux : Nat} (h : pCode m pc = some (i, aux)) : qlk m pc i aux = true := by
 have q := pChk h
 unfold qchk at q
 exact (Bool.and_eq_true_iff.mp q).2
theorem qtgt_spec {pc : Nat} {o : Int} {aux : Nat} (h : qtgt pc o aux = true) : 0 ≤ (pc : Int) + o ∧ ((pc : Int) + o).toNat = aux := by
 unfold qtgt at h
 have h2 := Bool.and_eq_true_iff.mp h
 exact ⟨of_decide_eq_true h2.1, of_decide_eq_true h2.2⟩
def QCx (Z : State) (p : Program) (R : Room) (s : State) (mid : MethodId) (meth : Method) (c : Code) (m : Nat) : Prop :=
 p.tables.exec = Jvm.exec ∧ Z.Warmed39 s.vm ∧ c.code = pBytes m ∧ c.maxLocals = pMaxL m ∧ meth.sig.returnType = pRet m ∧ s.vm.findClass (kName (pK m)) = some mid.cls ∧ meth.name = pNm m ∧ pFr m ≤ R.frames ∧ pLo m ≤ R.locals
def QTri (l : Launch) (Z : State) (n0 : Nat) (ad : Nat → Addr) (m : Nat) (st : QSt) (v : Option Value) (σ' : QHeap) : Prop :=
 st.2.2.2.length ≤ σ'.length ∧ qhs st.2.2.2 ≤ qhs σ' ∧
 ∀ (p : Program) (e : Env) (R : Room) (s : State) (mid : MethodId) (args : Array Value) (below : List Frame) (meth : Method) (c : Code) (T : State) (locs : List Loc) (cells slots : Nat) (C : Array Slot),
  QCx Z p R s mid meth c m → Stand p l e R s mid args below meth c T locs cells slots → QRep Z n0 ad T.heap st.2.2.2 → Fr n0 locs → QLocOk ad st.2.1 C → C.size = c.maxLocals →
  n0 + (st.2.2.2.length - k0) = s.heap.size + cells → cells + (σ'.length - st.2.2.2.length) ≤ R.cells → slots + (qhs σ' - qhs st.2.2.2) ≤ R.slots →
  ∃ T' locs', Stand p l e R s mid args below meth c T' locs' (cells + (σ'.length - st.2.2.2.length)) (slots + (qhs σ' - qhs st.2.2.2)) ∧ QRep Z n0 ad T'.heap σ' ∧ Fr n0 locs' ∧
   ∀ fs, (∀ (f : JFrame) (acts : List Action), f.method = mid → f.locked = none → f.entered = [] → (doReturn e (T'.setTop f) acts (v.map (qv ad))).1 = T'.setFrames fs) →
    Steps p.tables e below (T.setTop (mkF mid st.1 C (st.2.2.1.map (qv ad)))) (T'.setFrames fs)
section Triples
variable {l : Launch} {Z : State} {n0 : Nat} {ad : Nat → Addr} {a0 : Array Value} {m : Nat} {v : Option Value} {σ' : QHeap}
theorem QTri.gen {st st' : QSt} (h : QTri l Z n0 ad m st' v σ') (g1 : st.2.2.2.length ≤ st'.2.2.2.length) (g2 : qhs st.2.2.2 ≤ qhs st'.2.2.2)
  (hs : ∀ (p : Program) (e : Env) (R : Room) (s : State) (mid : MethodId) (args : Array Value) (below : List Frame) (meth : Method) (c : Code) (T : State) (locs : List Loc) (cells slots : Nat) (C : Array Slot),
   QCx Z p R s mid meth c m → Stand p l e R s mid args below meth c T locs cells slots → QRep Z n0 ad T.heap st.2.2.2 → Fr n0 locs → QLocOk ad st.2.1 C → C.size = c.maxLocals →
   n0 + (st.2.2.2.length - k0) = s.heap.size + cells → cells + (st'.2.2.2.length - st.2.2.2.length) ≤ R.cells → slots + (qhs st'.2.2.2 - qhs st.2.2.2) ≤ R.slots →
   ∃ T₁ locs₁ C₁, Stand p l e R s mid args below meth c T₁ locs₁ (cells + (st'.2.2.2.length - st.2.2.2.length)) (slots + (qhs st'.2.2.2 - qhs st.2.2.2)) ∧ QRep Z n0 ad T₁.heap st'.2.2.2 ∧ Fr n0 locs₁ ∧ QLocOk ad st'.2.1 C₁ ∧ C₁.size = c.maxLocals ∧
    ∀ target, Steps p.tables e below (T₁.setTop (mkF mid st'.1 C₁ (st'.2.2.1.map (qv ad)))) target → Steps p.tables e below (T.setTop (mkF mid st.1 C (st.2.2.1.map (qv ad)))) target) :
  QTri l Z n0 ad m st v σ' := by
 obtain ⟨h1, h2, h3⟩ := h
 refine ⟨Nat.le_trans g1 h1, Nat.le_trans g2 h2, fun p e R s mid args below meth c T locs cells slots C hcx X hR hF hL hC hn hc hsl => ?_⟩
 obtain ⟨T₁, locs₁, C₁, X₁, R₁, F₁, L₁, C1, S₁⟩ := hs p e R s mid args below meth c T locs cells slots C hcx X hR hF hL hC hn (by omega) (by omega)
 have hk := hR.1
 obtain ⟨T', locs', X', R', F', S'⟩ := h3 p e R s mid args below meth c T₁ locs₁ _ _ C₁ hcx X₁ R₁ F₁ L₁ C1 (by omega) (by omega) (by omega)
 have e1 : cells + (st'.2.2.2.length - st.2.2.2.length) + (σ'.length - st'.2.2.2.length) = cells + (σ'.length - st.2.2.2.length) := by omega
 have e2 : slots + (qhs st'.2.2.2 - qhs st.2.2.2) + (qhs σ' - qhs st'.2.2.2) = slots + (qhs σ' - qhs st.2.2.2) := by omega
 rw [e1, e2] at X'
 exact ⟨T', locs', X', R', F', fun fs hf => S₁ _ (S' fs hf)⟩
theorem QTri.pure {st st' : QSt} (h : QTri l Z n0 ad m st' v σ') (hσ : st'.2.2.2 = st.2.2.2)
  (hs : ∀ (p : Program) (e : Env) (R : Room) (s : State) (mid : MethodId) (args : Array Value) (below : List Frame) (meth : Method) (c : Code) (T : State) (locs : List Loc) (cells slots : Nat) (C : Array Slot),
   QCx Z p R s mid meth c m → Stand p l e R s mid args below meth c T locs cells slots → QRep Z n0 ad T.heap st.2.2.2 → QLocOk ad st.2.1 C → C.size = c.maxLocals →
   ∃ T₁ C₁, Stand p l e R s mid args below meth c T₁ locs cells slots ∧ T₁.heap = T.heap ∧ QLocOk ad st'.2.1 C₁ ∧ C₁.size = c.maxLocals ∧
    ∀ target, Steps p.tables e below (T₁.setTop (mkF mid st'.1 C₁ (st'.2.2.1.map (qv ad)))) target → Steps p.tables e below (T.setTop (mkF mid st.1 C (st.2.2.1.map (qv ad)))) target) :
  QTri l Z n0 ad m st v σ' := by
 refine QTri.gen h (by rw [hσ]; exact Nat.le_refl _) (by rw [hσ]; exact Nat.le_refl _) fun p e R s mid args below meth c T locs cells slots C hcx X hR hF hL hC hn hc hsl => ?_
 obtain ⟨T₁, C₁, X₁, hh, L₁, C1, S₁⟩ := hs p e R s mid args below meth c T locs cells slots C hcx X hR hL hC
 refine ⟨T₁, locs, C₁, ?_, by rw [hσ, hh]; exact hR, hF, L₁, C1, S₁⟩
 rw [hσ, Nat.sub_self, Nat.sub_self]
 exact X₁
theorem QTri.frame {pc pc' : Nat} {L L' : QLoc} {S S' : List Value} {σ : QHeap} (h : QTri l Z n0 ad m (pc', L', S', σ) v σ')
  (hs : ∀ (p : Program) (e : Env) (R : Room) (s : State) (mid : MethodId) (args : Array Value) (below : List Frame) (meth : Method) (c : Code) (T : State) (locs : List Loc) (cells slots : Nat) (C : Array Slot),
   QCx Z p R s mid meth c m → Stand p l e R s mid args below meth c T locs cells slots → QRep Z n0 ad T.heap σ → QLocOk ad L C → C.size = c.maxLocals →
   ∃ C₁, QLocOk ad L' C₁ ∧ C₁.size = c.maxLocals ∧ ∀ target, Steps p.tables e below (T.setTop (mkF mid pc' C₁ (S'.map (qv ad)))) target → Steps p.tables e below (T.setTop (mkF mid pc C (S.map (qv ad)))) target) :
  QTri l Z n0 ad m (pc, L, S, σ) v σ' :=
 QTri.pure h rfl fun p e R s mid args below meth c T locs cells slots C hcx X hR hL hC => by
  obtain ⟨C₁, h1, h2, h3⟩ := hs p e R s mid args below meth c T locs cells slots C hcx X hR hL hC
  exact ⟨T, C₁, X, rfl, h1, h2, h3⟩
theorem QTri.stack {pc pc' : Nat} {L : QLoc} {S S' : List Value} {σ : QHeap} (h : QTri l Z n0 ad m (pc', L, S', σ) v σ')
  (hs : ∀ (p : Program) (e : Env) (R : Room) (s : State) (mid : MethodId) (args : Array Value) (below : List Frame) (meth : Method) (c : Code) (T : State) (locs : List Loc) (cells slots : Nat) (C : Array Slot) (target : State),
   p.tables.exec = Jvm.exec → Z.Warmed39 s.vm → c.code = pBytes m → s.vm.findClass (kName (pK m)) = some mid.cls → Stand p l e R s mid args below meth c T locs cells slots → QRep Z n0 ad T.heap σ → QLocOk ad L C →
   Steps p.tables e below (T.setTop (mkF mid pc' C (S'.map (qv ad)))) target → Steps p.tables e below (T.setTop (mkF mid pc C (S.map (qv ad)))) target) :
  QTri l Z n0 ad m (pc, L, S, σ) v σ' :=
 QTri.frame h fun p e R s mid args below meth c T locs cells slots C hcx X hR hL hC => ⟨C, hL, hC, fun target k => hs p e R s mid args below meth c T locs cells slots C target hcx.1 hcx.2.1 hcx.2.2.1 hcx.2.2.2.2.2.1 X hR hL k⟩
theorem qload_inv {pc : Nat} {L : QLoc} {S : List Value} {σ : QHeap} {k : Nat} {ok : Value → Bool} {st' : QSt} (h : qload pc L S σ k ok = some st') : ∃ v, lget L k = some v ∧ ok v = true ∧ st' = (pc, L, v :: S, σ) := by
 unfold qload at h
 split at h
 ·rename_i v hv
  cases ho : ok v with
  | true => rw [ho] at h; cases h; exact ⟨v, hv, ho, rfl⟩
  | false => rw [ho] at h; cases h
 ·cases h
theorem qstore_inv {pc : Nat} {L : QLoc} {S : List Value} {σ : QHeap} {k : Nat} {ok : Value → Bool} {st' : QSt} (h : qstore pc L S σ k ok = some st') : ∃ v S' L', S = v :: S' ∧ ok v = true ∧ lput L k v = some L' ∧ st' = (pc, L', S', σ) := by
 unfold qstore at h
 split at h
 ·rename_i v S'
  cases ho : ok v with
  | true =>
   rw [ho] at h
   simp only [cond_true] at h
   split at h
   ·rename_i L' hL'
    cases h; exact ⟨v, S', L', rfl, ho, hL', rfl⟩
   ·cases h
  | false => rw [ho] at h; cases h
 ·cases h
theorem qbin_inv {pc : Nat} {L : QLoc} {S : List Value} {σ : QHeap} {f : Int32 → Int32 → Int32} {st' : QSt} (h : qbin pc L S σ f = some st') : ∃ x y S', S = .int y :: .int x :: S' ∧ st' = (pc, L, .int (f x y) :: S', σ) := by
 unfold qbin at h
 split at h
 ·cases h; exact ⟨_, _, _, rfl, rfl⟩
 ·cases h
theorem qbino_inv {pc : Nat} {L : QLoc} {S : List Value} {σ : QHeap} {f : Int32 → Int32 → Option Int32} {st' : QSt} (h : qbino pc L S σ f = some st') : ∃ x y z S', S = .int y :: .int x :: S' ∧ f x y = some z ∧ st' = (pc, L, .int z :: S', σ) := by
 unfold qbino at h
 split at h
 ·obtain ⟨z, hz, h⟩ := Option.bind_eq_some_iff.mp h
  cases h; exact ⟨_, _, _, _, rfl, hz, rfl⟩
 ·cases h
theorem qbinJ_inv {pc : Nat} {L : QLoc} {S : List Value} {σ : QHeap} {f : Int64 → Int64 → Int64} {st' : QSt} (h : qbinJ pc L S σ f = some st') : ∃ x y S', S = .long y :: .long x :: S' ∧ st' = (pc, L, .long (f x y) :: S', σ) := by
 unfold qbinJ at h
 split at h
 ·cases h; exact ⟨_, _, _, rfl, rfl⟩
 ·cases h
theorem qshJ_inv {pc : Nat} {L : QLoc} {S : List Value} {σ : QHeap} {f : Int64 → Int32 → Int64} {st' : QSt} (h : qshJ pc L S σ f = some st') : ∃ x y S', S = .int y :: .long x :: S' ∧ st' = (pc, L, .long (f x y) :: S', σ) := by
 unfold qshJ at h
 split at h
 ·cases h; exact ⟨_, _, _, rfl, rfl⟩
 ·cases h
theorem quni_inv {pc : Nat} {L : QLoc} {S : List Value} {σ : QHeap} {f : Int32 → Value} {st' : QSt} (h : quni pc L S σ f = some st') : ∃ x S', S = .int x :: S' ∧ st' = (pc, L, f x :: S', σ) := by
 unfold quni at h
 split at h
 ·cases h; exact ⟨_, _, rfl, rfl⟩
 ·cases h
theorem quniJ_inv {pc : Nat} {L : QLoc} {S : List Value} {σ : QHeap} {f : Int64 → Value} {st' : QSt} (h : quniJ pc L S σ f = some st') : ∃ x S', S = .long x :: S' ∧ st' = (pc, L, f x :: S', σ) := by
 unfold quniJ at h
 split at h
 ·cases h; exact ⟨_, _, rfl, rfl⟩
 ·cases h
theorem qif_inv {pc : Nat} {L : QLoc} {S : List Value} {σ : QHeap} {cd : ClassFile.Cond} {t : Nat} {st' : QSt} (h : qif pc L S σ cd t = some st') : ∃ x S', S = .int x :: S' ∧ st' = (bif ifCond.holds cd x then t else pc, L, S', σ) := by
 unfold qif at h
 split at h
 ·cases h; exact ⟨_, _, rfl, rfl⟩
 ·cases h
theorem qicmp_inv {pc : Nat} {L : QLoc} {S : List Value} {σ : QHeap} {cd : ClassFile.Cond} {t : Nat} {st' : QSt} (h : qicmp pc L S σ cd t = some st') : ∃ x y S', S = .int y :: .int x :: S' ∧ st' = (bif if_icmp.holds cd x y then t else pc, L, S', σ) := by
 unfold qicmp at h
 split at h
 ·cases h; exact ⟨_, _, _, rfl, rfl⟩
 ·cases h
theorem qget_inv {pc : Nat} {L : QLoc} {S : List Value} {σ : QHeap} {k : Nat} {st' : QSt} (h : qget pc L S σ k = some st') : ∃ a S' vs v, S = .ref a :: S' ∧ hget σ a = some (.inl vs) ∧ vget vs k = some v ∧ st' = (pc, L, v :: S', σ) := by
 unfold qget at h
 split at h
 ·split at h
  ·split at h
   ·cases h; exact ⟨_, _, _, _, rfl, by assumption, by assumption, rfl⟩
   ·cases h
  ·cases h
 ·cases h
theorem qput_inv {pc : Nat} {L : QLoc} {S : List Value} {σ : QHeap} {k : Nat} {st' : QSt} (h : qput pc L S σ k = some st') : ∃ v a S' vs w, S = v :: .ref a :: S' ∧ hget σ a = some (.inl vs) ∧ k0 ≤ a ∧ k < vs.length ∧ qfit (fTy k) v = some w ∧ st' = (pc, L, S', σ.set a (.inl (vs.set k w))) := by
 unfold qput at h
 split at h
 ·rename_i v a S'
  split at h
  ·rename_i vs hvs
   cases hbb : (Nat.ble k0 a && Nat.ble (k + 1) vs.length) with
   | false => rw [hbb] at h; cases h
   | true =>
    rw [hbb] at h
    simp only [cond_true] at h
    obtain ⟨u, hu, h⟩ := Option.bind_eq_some_iff.mp h
    cases h
    obtain ⟨b1, b2⟩ := Bool.and_eq_true_iff.mp hbb
    exact ⟨v, a, S', vs, u, rfl, hvs, Nat.le_of_ble_eq_true b1, Nat.le_of_ble_eq_true b2, hu, rfl⟩
  ·cases h
 ·cases h
theorem qald_inv {pc : Nat} {L : QLoc} {S : List Value} {σ : QHeap} {ok : FieldType → Bool} {st' : QSt} (h : qald pc L S σ ok = some st') : ∃ j a S' ty xs v, S = .int j :: .ref a :: S' ∧ hget σ a = some (.inr (.inl (ty, xs))) ∧ ok ty = true ∧ aget xs j = some v ∧ st' = (pc, L, .int v :: S', σ) := by
 unfold qald at h
 split at h
 ·rename_i j a S'
  split at h
  ·rename_i x hx
   cases ht : ok x.1 with
   | false => rw [ht] at h; cases h
   | true =>
    rw [ht] at h
    simp only [cond_true] at h
    obtain ⟨u, hu, h⟩ := Option.bind_eq_some_iff.mp h
    cases h
    exact ⟨j, a, S', x.1, x.2, u, rfl, hx, ht, hu, rfl⟩
  ·cases h
 ·cases h
theorem qaldJ_inv {pc : Nat} {L : QLoc} {S : List Value} {σ : QHeap} {st' : QSt} (h : qaldJ pc L S σ = some st') : ∃ j a S' xs v, S = .int j :: .ref a :: S' ∧ hget σ a = some (.inr (.inr xs)) ∧ aget xs j = some v ∧ st' = (pc, L, .long v :: S', σ) := by
 unfold qaldJ at h
 split at h
 ·rename_i j a S'
  split at h
  ·rename_i x hx
   obtain ⟨u, hu, h⟩ := Option.bind_eq_some_iff.mp h
   cases h
   exact ⟨j, a, S', x, u, rfl, hx, hu, rfl⟩
  ·cases h
 ·cases h
theorem qast_inv {pc : Nat} {L : QLoc} {S : List Value} {σ : QHeap} {ok : FieldType → Bool} {st' : QSt} (h : qast pc L S σ ok = some st') : ∃ v j a S' ty xs ys, S = .int v :: .int j :: .ref a :: S' ∧ hget σ a = some (.inr (.inl (ty, xs))) ∧ ok ty = true ∧ k0 ≤ a ∧ aset xs j (qnar ty v) = some ys ∧ st' = (pc, L, S', σ.set a (.inr (.inl (ty, ys)))) := by
 unfold qast at h
 split at h
 ·rename_i v j a S'
  split at h
  ·rename_i x hx
   cases ht : (ok x.1 && Nat.ble k0 a) with
   | false => rw [ht] at h; cases h
   | true =>
    rw [ht] at h
    simp only [cond_true] at h
    obtain ⟨u, hu, h⟩ := Option.bind_eq_some_iff.mp h
    cases h
    obtain ⟨b1, b2⟩ := Bool.and_eq_true_iff.mp ht
    exact ⟨v, j, a, S', x.1, x.2, u, rfl, hx, b1, Nat.le_of_ble_eq_true b2, hu, rfl⟩
  ·cases h
 ·cases h
theorem qastJ_inv {pc : Nat} {L : QLoc} {S : List Value} {σ : QHeap} {st' : QSt} (h : qastJ pc L S σ = some st') : ∃ v j a S' xs ys, S = .long v :: .int j :: .ref a :: S' ∧ hget σ a = some (.inr (.inr xs)) ∧ k0 ≤ a ∧ aset xs j v = some ys ∧ st' = (pc, L, S', σ.set a (.inr (.inr ys))) := by
 unfold qastJ at h
 split at h
 ·rename_i v j a S'
  split at h
  ·rename_i x hx
   cases ht : (Nat.ble k0 a) with
   | false => rw [ht] at h; cases h
   | true =>
    rw [ht] at h
    simp only [cond_true] at h
    obtain ⟨u, hu, h⟩ := Option.bind_eq_some_iff.mp h
    cases h
    exact ⟨v, j, a, S', x, u, rfl, hx, Nat.le_of_ble_eq_true ht, hu, rfl⟩
  ·cases h
 ·cases h
theorem qlen_inv {pc : Nat} {L : QLoc} {S : List Value} {σ : QHeap} {st' : QSt} (h : qlen pc L S σ = some st') : ∃ a S' n, S = .ref a :: S' ∧ ((∃ ty xs, hget σ a = some (.inr (.inl (ty, xs))) ∧ n = xs.length) ∨ ∃ xs, hget σ a = some (.inr (.inr xs)) ∧ n = xs.length) ∧ st' = (pc, L, .int n.toInt32 :: S', σ) := by
 unfold qlen at h
 split at h
 ·rename_i a S'
  split at h
  ·rename_i x hx
   cases h; exact ⟨a, S', _, rfl, Or.inl ⟨x.1, x.2, hx, rfl⟩, rfl⟩
  ·rename_i x hx
   cases h; exact ⟨a, S', _, rfl, Or.inr ⟨x, hx, rfl⟩, rfl⟩
  ·cases h
 ·cases h
theorem isI_inv {v : Value} (h : isI v = true) : ∃ x, v = .int x := by cases v <;> simp [isI] at h; exact ⟨_, rfl⟩
theorem isJ_inv {v : Value} (h : isJ v = true) : ∃ x, v = .long x := by cases v <;> simp [isJ] at h; exact ⟨_, rfl⟩
theorem isR_inv {v : Value} (h : isR v = true) : ∃ x, v = .ref x := by cases v <;> simp [isR] at h; exact ⟨_, rfl⟩
theorem aget_inv {α : Type} {xs : List α} {j : Int32} {x : α} (h : aget xs j = some x) : ¬ j < 0 ∧ xs[j.toNatClampNeg]? = some x := by
 unfold aget at h
 split at h
 ·cases h
 ·rename_i q; exact ⟨q, h⟩
theorem aset_inv {α : Type} {xs ys : List α} {j : Int32} {x : α} (h : aset xs j x = some ys) : ¬ j < 0 ∧ j.toNatClampNeg < xs.length ∧ ys = xs.set j.toNatClampNeg x := by
 unfold aset at h
 split at h
 ·cases h
 ·rename_i q
  split at h
  ·rename_i q2; cases h; exact ⟨q, q2, rfl⟩
  ·cases h
theorem qnew_inv {n : Int32} {k : Nat} (h : qnew n = some k) : ¬ n < 0 ∧ n.toNatClampNeg = k ∧ k ≤ 67108864 := by
 unfold qnew at h
 split at h
 ·cases h
 ·rename_i q
  split at h
  ·rename_i q2; cases h; exact ⟨q, rfl, q2⟩
  ·cases h
theorem QCellOk.other {h h' : Heap} {a b : Addr} {sl : Nat} {w : Value} {c : QCell} (H : QCellOk Z ad h b c) (W : Wr h h' a sl w) (ne : b ≠ a) : QCellOk Z ad h' b c := by
 rcases c with vs | ⟨ty, xs⟩ | xs
 ·obtain ⟨h1, h2, h3⟩ := H
  exact ⟨h1.wr W, h2, fun k u hk hu => (h3 k u hk hu).other W (Or.inl ne)⟩
 ·obtain ⟨c, h1, h2⟩ := H
  exact ⟨c, h1.other W ne, h2⟩
 ·obtain ⟨c, h1, h2⟩ := H
  exact ⟨c, h1.other W ne, h2⟩
theorem QCellOk.ext {h h' : Heap} {b : Addr} {c : QCell} (H : QCellOk Z ad h b c) (E : Ext h h') : QCellOk Z ad h' b c := by
 rcases c with vs | ⟨ty, xs⟩ | xs
 ·obtain ⟨h1, h2, h3⟩ := H
  exact ⟨h1.ext E, h2, fun k u hk hu => (h3 k u hk hu).ext E⟩
 ·obtain ⟨c, h1, h2⟩ := H
  exact ⟨c, h1.ext E, h2⟩
 ·obtain ⟨c, h1, h2⟩ := H
  exact ⟨c, h1.ext E, h2⟩
theorem QRep.set {h h' : Heap} {σ : QHeap} {a : Nat} {sl : Nat} {w : Value} {c d : QCell} (H : QRep Z n0 ad h σ) (Ad : QAd n0 ad) (W : Wr h h' (ad a) sl w) (hc : hget σ a = some c) (hd : QCellOk Z ad h' (ad a) d) : QRep Z n0 ad h' (σ.set a d) := by
 obtain ⟨h1, h2, h3⟩ := H
 refine ⟨by simpa using h1, by rw [W.size, h2]; simp, fun k e he => ?_⟩
 rw [hget_set hc] at he
 split at he
 ·rename_i q; cases he; rw [q]; exact hd
 ·rename_i q; exact (h3 k e he).other W fun z => q (Ad.2 _ _ z)
theorem QRep.push {h h' : Heap} {σ : QHeap} {c : QCell} (H : QRep Z n0 ad h σ) (Ad : QAd n0 ad) (E : Ext h h') (hs : h'.size = h.size + 1) (hc : QCellOk Z ad h' h.size c) : QRep Z n0 ad h' (σ ++ [c]) := by
 obtain ⟨h1, h2, h3⟩ := H
 refine ⟨by simp; omega, by rw [hs, h2]; simp; omega, fun k e he => ?_⟩
 rw [hget_eq] at he
 rcases Nat.lt_or_ge k σ.length with q | q
 ·rw [List.getElem?_append_left q, ← hget_eq] at he
  exact (h3 k e he).ext E
 ·rw [List.getElem?_append_right q] at he
  obtain rfl : k = σ.length := by
   rcases Nat.lt_or_ge (k - σ.length) 1 with z | z
   ·omega
   ·rw [List.getElem?_eq_none (by simpa using z)] at he; cases he
  simp at he
  rw [← he, Ad.1 _ h1, ← h2]
  exact hc
theorem mem_of_contains {α : Type} [BEq α] [LawfulBEq α] {L : List α} {a : α} (h : L.contains a = true) : a ∈ L := by simpa using h
theorem lkF_lt : ∀ t ∈ lkF, t.2.2 < nF := by decide +kernel
theorem laid_of (W : QW Z a0) {k : Nat} (hk : k < nF) : Laid Z a0 cName cName (fNm k) (fDs k) := by
 have q := (qw_lay W) k hk
 cases hf : fFin k with
 | true => rw [hf] at q; exact Or.inr q
 | false => rw [hf] at q; exact Or.inl q
theorem qfit_inv {ty : FieldType} {v w : Value} (h : qfit ty v = some w) : v = w ∧ narrow ty (qv ad w) = qv ad w ∧ fits ty (qv ad w) = true := by
 unfold qfit at h
 split at h
 ·cases h; exact ⟨rfl, rfl, rfl⟩
 ·rename_i x
  obtain ⟨y, hy, h⟩ := Option.bind_eq_some_iff.mp h
  cases h
  unfold qboo at hy
  split at hy
  ·rename_i e; cases hy; subst e; exact ⟨rfl, rfl, rfl⟩
  ·split at hy
   ·rename_i e; cases hy; subst e; exact ⟨rfl, rfl, rfl⟩
   ·cases hy
 ·cases h; exact ⟨rfl, rfl, rfl⟩
 ·cases h; exact ⟨rfl, rfl, rfl⟩
 ·cases h
theorem vget_set {vs : List Value} {k j : Nat} {w : Value} (hk : k < vs.length) : vget (vs.set k w) j = if j = k then some w else vget vs j := by
 simp only [vget_eq, List.getElem?_set]
 by_cases e : k = j
 ·subst e; simp [hk]
 ·simp [e, Ne.symm e]
theorem ald_in {α : Type} {f : α → Value} {xs : List α} {c : Cell} {j : Int32} {x : α} (hc : c.slots = (xs.map f).toArray) (h : aget xs j = some x) : ¬ (j < 0 ∨ c.slots.size ≤ j.toNatClampNeg) ∧ c.slots[j.toNatClampNeg]? = some (f x) := by
 obtain ⟨h1, h2⟩ := aget_inv h
 have h3 := (List.getElem?_eq_some_iff.mp h2).1
 refine ⟨fun q => ?_, by rw [hc]; simp [h2]⟩
 rcases q with q | q
 ·exact h1 q
 ·rw [hc] at q; simp at q; omega
theorem ast_in {α : Type} {f : α → Value} {xs ys : List α} {c : Cell} {j : Int32} {x : α} (hc : c.slots = (xs.map f).toArray) (h : aset xs j x = some ys) : ¬ (j < 0 ∨ c.slots.size ≤ j.toNatClampNeg) ∧ (c.setSlot j.toNatClampNeg (f x)).slots = (ys.map f).toArray := by
 obtain ⟨h1, h2, rfl⟩ := aset_inv h
 refine ⟨fun q => ?_, by simp [Cell.setSlot, hc, List.map_set]⟩
 rcases q with q | q
 ·exact h1 q
 ·rw [hc] at q; simp at q; omega
theorem qgrow {σ : QHeap} {c : QCell} : qhs (σ ++ [c]) - qhs σ = qsz c := by rw [qhs_app]; simp [qhs]
set_option maxHeartbeats 4000000 in
theorem QTri.newArr (Ad : QAd n0 ad) (W : QW Z a0) {pc aux : Nat} {L : QLoc} {S : List Value} {σ : QHeap} {aty : ArrayType} {n : Int32} {k : Nat} {c : QCell} (hk : qnew n = some k) (hc : pCode m pc = some (.newarray aty, aux)) (hz : qsz c = k)
  (hq : ∀ (h' : Heap) (a : Addr) (cA : ClassId), Arr Z h' a (newA cA (newarray.typeOf aty) n) (newarray.typeOf aty) → QCellOk Z ad h' a c)
  (h : QTri l Z n0 ad m (pc + 2, L, .ref σ.length :: S, σ ++ [c]) v σ') : QTri l Z n0 ad m (pc, L, .int n :: S, σ) v σ' := by
 have hd : decode (pBytes m) pc = .ok (.newarray aty, 2) := pDecN hc rfl
 obtain ⟨n1, n2, n3⟩ := qnew_inv hk
 refine QTri.gen h (by simp) (by simp [qhs_app]) fun p e R s mid args below meth c' T locs cells slots C hcx X hR hF hL hC hn hc1 hsl => ?_
 obtain ⟨hx, hZ, hby, hml, hret, hown, hnm, hfr, hlo⟩ := hcx
 have hd2 : decode c'.code pc = .ok (.newarray aty, 2) := by rw [hby]; exact hd
 simp only [List.length_append, List.length_singleton, Nat.add_sub_cancel_left, qgrow, hz] at hc1 hsl ⊢
 obtain ⟨T₁, h₁, cA, X₁, e₁, E₁, A₁, st⟩ := newP X hx hZ (aty := aty) (qw_arr W (newarray.typeOf aty) (mem_of_contains (show aTys.contains (newarray.typeOf aty) = true from pRest hc))) rfl (g := mkF mid pc C (.int n :: S.map (qv ad))) rfl hd2 rfl n1 (cap := k) (by omega) (by omega) hc1 hsl
 have hsz : h₁.size = T.heap.size + 1 := by
  have q1 := X₁.heapSize
  have q2 : T.heap.size < h₁.size := A₁.lt
  have q3 := hR.2.1
  rw [e₁] at q1
  have : n0 + (σ.length - k0) = s.heap.size + cells := hn
  have q3' : T.heap.size = n0 + (σ.length - k0) := q3
  omega
 refine ⟨T₁, locs, C, X₁, ?_, hF, hL, hC, fun target q => ?_⟩
 ·rw [e₁]; exact QRep.push hR Ad E₁ hsz (hq _ _ _ A₁)
 ·refine st _ ?_
  have e2 : ad σ.length = T.heap.size := by rw [Ad.1 _ hR.1]; exact hR.2.1.symm
  simp only [List.map_cons, qv, e2] at q
  exact q
set_option maxHeartbeats 4000000 in
theorem QTri.getfield (W : QW Z a0) {pc idx aux : Nat} {L : QLoc} {S : List Value} {σ : QHeap} {st' : QSt} (h : QTri l Z n0 ad m st' v σ') (hc : pCode m pc = some (.getfield idx, aux)) (hs : qget (pc + 3) L S σ aux = some st') : QTri l Z n0 ad m (pc, L, S, σ) v σ' := by
 have hd : decode (pBytes m) pc = .ok (.getfield idx, 3) := pDecN hc rfl
 obtain ⟨a, S', vs, w, rfl, hvs, hw, rfl⟩ := qget_inv hs
 have hm := mem_of_contains (show lkF.contains (pK m, idx, aux) = true from pRest hc)
 have hlt := lkF_lt _ hm
 refine QTri.pure h rfl fun p e R s mid args below meth c T locs cells slots C hcx X hR hL hC => ?_
 obtain ⟨hx, hZ, hby, hml, hret, hown, hnm, hfr, hlo⟩ := hcx
 have hd2 : decode c.code pc = .ok (.getfield idx, 3) := by rw [hby]; exact hd
 have F := (hR.2.2 _ _ hvs).2.2 aux w hlt hw
 obtain ⟨T₁, X₁, e₁, st⟩ := getF X hx hZ hown (host := "") (index := idx) (Or.inl (qw_fl W (pK m, idx, aux) hm)) Via.refl rfl F (g := mkF mid pc C (List.map (qv ad) (.ref a :: S'))) rfl rfl hd2
 exact ⟨T₁, C, X₁, e₁, hL, hC, st⟩
set_option maxHeartbeats 4000000 in
theorem QTri.putfield (Ad : QAd n0 ad) (W : QW Z a0) {pc idx aux : Nat} {L : QLoc} {S : List Value} {σ : QHeap} {st' : QSt} (h : QTri l Z n0 ad m st' v σ') (hc : pCode m pc = some (.putfield idx, aux)) (hs : qput (pc + 3) L S σ aux = some st') : QTri l Z n0 ad m (pc, L, S, σ) v σ' := by
 have hd : decode (pBytes m) pc = .ok (.putfield idx, 3) := pDecN hc rfl
 obtain ⟨w, a, S', vs, u, rfl, hvs, b1, b2, hu, rfl⟩ := qput_inv hs
 obtain ⟨r1, r2⟩ := Bool.and_eq_true_iff.mp (show (lkF.contains (pK m, idx, aux) && (!fFin aux || (pK m == 1 && pNm m == "<init>"))) = true from pRest hc)
 have hm := mem_of_contains r1
 have hlt := lkF_lt _ hm
 obtain ⟨rfl, q2, q3⟩ := qfit_inv (ad := ad) hu
 have hsz : qhs (σ.set a (Sum.inl (vs.set aux w))) = qhs σ := qhs_set hvs rfl
 refine QTri.gen h (by simp) (by show qhs σ ≤ qhs (σ.set a (Sum.inl (vs.set aux w))); rw [hsz]; exact Nat.le_refl _) fun p e R s mid args below meth c T locs cells slots C hcx X hR hF hL hC hn hc1 hsl => ?_
 obtain ⟨hx, hZ, hby, hml, hret, hown, hnm, hfr, hlo⟩ := hcx
 have hd2 : decode c.code pc = .ok (.putfield idx, 3) := by rw [hby]; exact hd
 obtain ⟨E, l1, Fs⟩ := hR.2.2 _ _ hvs
 obtain ⟨old, hold⟩ : ∃ old, vget vs aux = some old := by rw [vget_eq]; exact ⟨_, List.getElem?_eq_getElem b2⟩
 have lay : (Cond.lays cName cName (fNm aux) (fDs aux)).before a0 Z = true ∨ ((Cond.laysFinal cName cName (fNm aux) (fDs aux)).before a0 Z = true ∧ kName (pK m) = cName ∧ meth.name = "<init>") := by
  have q := (qw_lay W) aux hlt
  cases hf : fFin aux with
  | false => rw [hf] at q; exact Or.inl q
  | true =>
   rw [hf] at q r2
   simp at r2
   exact Or.inr ⟨q, by rw [r2.1]; exact kOne, by rw [hnm]; exact r2.2⟩
 obtain ⟨T₁, h₁, X₁, e₁, W₁, st⟩ := putF X hx hZ hown (host := "") (index := idx) (Or.inl (qw_fl W (pK m, idx, aux) hm)) Via.refl rfl (Fs aux old hlt hold) E lay ((qw_inst W)) (fPrs aux hlt) q2 q3 (g := mkF mid pc C (List.map (qv ad) (w :: .ref a :: S'))) rfl rfl hd2
 refine ⟨T₁, _, C, ?_, ?_, Fr.snoc X₁ hF (by rw [Ad.1 a b1]; exact Nat.le_add_right _ _), hL, hC, st⟩
 ·show Stand _ _ _ _ _ _ _ _ _ _ _ _ (cells + ((σ.set a (Sum.inl (vs.set aux w))).length - σ.length)) (slots + (qhs (σ.set a (Sum.inl (vs.set aux w))) - qhs σ))
  rw [hsz, Nat.sub_self, List.length_set, Nat.sub_self]
  exact X₁
 ·rw [e₁]
  refine QRep.set hR Ad W₁ hvs ⟨E.wr W₁, by simpa using l1, fun k u hk hu => ?_⟩
  rw [vget_set b2] at hu
  split at hu
  ·rename_i e; cases hu; rw [e]; exact (Fs aux old hlt hold).same W₁
  ·rename_i ne
   exact (Fs k u hk hu).other W₁ (Or.inr (slot_ne (laid_of W hk) (laid_of W hlt) (fun z => ne (fInj _ hk _ hlt z)) (fPrs _ hk) (fPrs _ hlt)))
theorem tyI_inv {ty : FieldType} (h : tyI ty = true) : ty = .int := by cases ty <;> simp [tyI] at h; rfl
theorem tyB_inv {ty : FieldType} (h : tyB ty = true) : ty = .boolean ∨ ty = .byte := by cases ty <;> simp [tyB] at h <;> simp
set_option maxHeartbeats 4000000 in
theorem QTri.iaload {pc aux : Nat} {L : QLoc} {S : List Value} {σ : QHeap} {st' : QSt} (h : QTri l Z n0 ad m st' v σ') (hc : pCode m pc = some (.iaload, aux)) (hs : qald (pc + 1) L S σ tyI = some st') : QTri l Z n0 ad m (pc, L, S, σ) v σ' := by
 have hd : decode (pBytes m) pc = .ok (.iaload, 1) := pDecN hc rfl
 obtain ⟨j, a, S', ty, xs, w, rfl, hx1, ht, hw, rfl⟩ := qald_inv hs
 obtain rfl := tyI_inv ht
 refine QTri.stack h fun p e R s mid args below meth c T locs cells slots C target hx hZ hby hown X hR hL k => ?_
 have hd2 : decode c.code pc = .ok (.iaload, 1) := by rw [hby]; exact hd
 obtain ⟨cl, A, hsl⟩ := hR.2.2 _ _ hx1
 obtain ⟨i1, i2⟩ := ald_in hsl hw
 exact X.iaload hx A.1 (State.isArrayOf_alike hZ.alike A.2.1) A.2.2 i1 i2 (g := mkF mid pc C (List.map (qv ad) (.int j :: .ref a :: S'))) rfl rfl hd2 _ k
set_option maxHeartbeats 4000000 in
theorem QTri.baload {pc aux : Nat} {L : QLoc} {S : List Value} {σ : QHeap} {st' : QSt} (h : QTri l Z n0 ad m st' v σ') (hc : pCode m pc = some (.baload, aux)) (hs : qald (pc + 1) L S σ tyB = some st') : QTri l Z n0 ad m (pc, L, S, σ) v σ' := by
 have hd : decode (pBytes m) pc = .ok (.baload, 1) := pDecN hc rfl
 obtain ⟨j, a, S', ty, xs, w, rfl, hx1, ht, hw, rfl⟩ := qald_inv hs
 refine QTri.stack h fun p e R s mid args below meth c T locs cells slots C target hx hZ hby hown X hR hL k => ?_
 have hd2 : decode c.code pc = .ok (.baload, 1) := by rw [hby]; exact hd
 obtain ⟨cl, A, hsl⟩ := hR.2.2 _ _ hx1
 obtain ⟨i1, i2⟩ := ald_in hsl hw
 rcases tyB_inv ht with rfl | rfl
 ·exact X.baloadBooleans hx A.1 (State.isArrayOf_alike hZ.alike A.2.1) A.2.2 i1 i2 (g := mkF mid pc C (List.map (qv ad) (.int j :: .ref a :: S'))) rfl rfl hd2 _ k
 ·exact X.baloadBytes hx A.1 (State.isArrayOf_alike hZ.alike A.2.1) A.2.2 i1 i2 (g := mkF mid pc C (List.map (qv ad) (.int j :: .ref a :: S'))) rfl rfl hd2 _ k
set_option maxHeartbeats 4000000 in
theorem QTri.laload {pc aux : Nat} {L : QLoc} {S : List Value} {σ : QHeap} {st' : QSt} (h : QTri l Z n0 ad m st' v σ') (hc : pCode m pc = some (.laload, aux)) (hs : qaldJ (pc + 1) L S σ = some st') : QTri l Z n0 ad m (pc, L, S, σ) v σ' := by
 have hd : decode (pBytes m) pc = .ok (.laload, 1) := pDecN hc rfl
 obtain ⟨j, a, S', xs, w, rfl, hx1, hw, rfl⟩ := qaldJ_inv hs
 refine QTri.stack h fun p e R s mid args below meth c T locs cells slots C target hx hZ hby hown X hR hL k => ?_
 have hd2 : decode c.code pc = .ok (.laload, 1) := by rw [hby]; exact hd
 obtain ⟨cl, A, hsl⟩ := hR.2.2 _ _ hx1
 obtain ⟨i1, i2⟩ := ald_in hsl hw
 exact X.laload hx A.1 (State.isArrayOf_alike hZ.alike A.2.1) A.2.2 i1 i2 (g := mkF mid pc C (List.map (qv ad) (.int j :: .ref a :: S'))) rfl rfl hd2 _ k
theorem QTri.stored (Ad : QAd n0 ad) {pc : Nat} {L : QLoc} {S S' : List Value} {σ : QHeap} {a j : Nat} {w : Value} {c d : QCell} (hx1 : hget σ a = some c) (b1 : k0 ≤ a) (hz : qsz d = qsz c) (h : QTri l Z n0 ad m (pc + 1, L, S', σ.set a d) v σ')
  (hs : ∀ (p : Program) (e : Env) (R : Room) (s : State) (mid : MethodId) (args : Array Value) (below : List Frame) (meth : Method) (c : Code) (T : State) (locs : List Loc) (cells slots : Nat) (C : Array Slot),
   QCx Z p R s mid meth c m → Stand p l e R s mid args below meth c T locs cells slots → QRep Z n0 ad T.heap σ →
   ∃ T' h', Stand p l e R s mid args below meth c T' (locs ++ [⟨ad a, j⟩]) cells slots ∧ T'.heap = h' ∧ Wr T.heap h' (ad a) j w ∧ QCellOk Z ad h' (ad a) d ∧ ∀ target, Steps p.tables e below (T'.setTop (mkF mid (pc + 1) C (S'.map (qv ad)))) target → Steps p.tables e below (T.setTop (mkF mid pc C (S.map (qv ad)))) target) :
  QTri l Z n0 ad m (pc, L, S, σ) v σ' := by
 have hsz : qhs (σ.set a d) = qhs σ := qhs_set hx1 hz
 refine QTri.gen h (by simp) (by show qhs σ ≤ qhs (σ.set a d); rw [hsz]; exact Nat.le_refl _) fun p e R s mid args below meth c T locs cells slots C hcx X hR hF hL hC hn hc1 hsl => ?_
 obtain ⟨T₁, h₁, X₁, e₁, W₁, Q₁, st⟩ := hs p e R s mid args below meth c T locs cells slots C hcx X hR
 refine ⟨T₁, _, C, ?_, ?_, Fr.snoc X₁ hF (by rw [Ad.1 a b1]; exact Nat.le_add_right _ _), hL, hC, st⟩
 ·show Stand _ _ _ _ _ _ _ _ _ _ _ _ (cells + ((σ.set a d).length - σ.length)) (slots + (qhs (σ.set a d) - qhs σ))
  rw [hsz, Nat.sub_self, List.length_set, Nat.sub_self]
  exact X₁
 ·rw [e₁]
  exact QRep.set hR Ad W₁ hx1 Q₁
set_option maxHeartbeats 4000000 in
theorem QTri.iastore (Ad : QAd n0 ad) {pc aux : Nat} {L : QLoc} {S : List Value} {σ : QHeap} {st' : QSt} (h : QTri l Z n0 ad m st' v σ') (hc : pCode m pc = some (.iastore, aux)) (hs : qast (pc + 1) L S σ tyI = some st') : QTri l Z n0 ad m (pc, L, S, σ) v σ' := by
 have hd : decode (pBytes m) pc = .ok (.iastore, 1) := pDecN hc rfl
 obtain ⟨w, j, a, S', ty, xs, ys, rfl, hx1, ht, b1, hw, rfl⟩ := qast_inv hs
 obtain rfl := tyI_inv ht
 refine QTri.stored Ad (j := j.toNatClampNeg) (w := .int w) hx1 b1 (by rw [(aset_inv hw).2.2]; simp [qsz]) h fun p e R s mid args below meth c T locs cells slots C hcx X hR => ?_
 have hd2 : decode c.code pc = .ok (.iastore, 1) := by rw [hcx.2.2.1]; exact hd
 obtain ⟨cl, A, hsl⟩ := hR.2.2 _ _ hx1
 obtain ⟨i1, i2⟩ := ast_in hsl hw
 obtain ⟨T₁, h₁, X₁, e₁, W₁, st⟩ := stI X hcx.1 hcx.2.1 rfl A i1 (g := mkF mid pc C (List.map (qv ad) (.int w :: .int j :: .ref a :: S'))) rfl rfl hd2
 exact ⟨T₁, h₁, X₁, e₁, W₁, ⟨_, A.same W₁, i2⟩, st⟩
set_option maxHeartbeats 4000000 in
theorem QTri.bastore (Ad : QAd n0 ad) {pc aux : Nat} {L : QLoc} {S : List Value} {σ : QHeap} {st' : QSt} (h : QTri l Z n0 ad m st' v σ') (hc : pCode m pc = some (.bastore, aux)) (hs : qast (pc + 1) L S σ tyB = some st') : QTri l Z n0 ad m (pc, L, S, σ) v σ' := by
 have hd : decode (pBytes m) pc = .ok (.bastore, 1) := pDecN hc rfl
 obtain ⟨w, j, a, S', ty, xs, ys, rfl, hx1, ht, b1, hw, rfl⟩ := qast_inv hs
 refine QTri.stored Ad (j := j.toNatClampNeg) (w := .int (qnar ty w)) hx1 b1 (by rw [(aset_inv hw).2.2]; simp [qsz]) h fun p e R s mid args below meth c T locs cells slots C hcx X hR => ?_
 have hd2 : decode c.code pc = .ok (.bastore, 1) := by rw [hcx.2.2.1]; exact hd
 obtain ⟨cl, A, hsl⟩ := hR.2.2 _ _ hx1
 obtain ⟨i1, i2⟩ := ast_in hsl hw
 rcases tyB_inv ht with rfl | rfl
 ·obtain ⟨T₁, h₁, X₁, e₁, W₁, st⟩ := stZ X hcx.1 hcx.2.1 rfl A i1 (g := mkF mid pc C (List.map (qv ad) (.int w :: .int j :: .ref a :: S'))) rfl rfl hd2
  exact ⟨T₁, h₁, X₁, e₁, W₁, ⟨_, A.same W₁, i2⟩, st⟩
 ·obtain ⟨T₁, h₁, X₁, e₁, W₁, st⟩ := stB X hcx.1 hcx.2.1 rfl A i1 (g := mkF mid pc C (List.map (qv ad) (.int w :: .int j :: .ref a :: S'))) rfl rfl hd2
  exact ⟨T₁, h₁, X₁, e₁, W₁, ⟨_, A.same W₁, i2⟩, st⟩
set_option maxHeartbeats 4000000 in
theorem QTri.lastore (Ad : QAd n0 ad) {pc aux : Nat} {L : QLoc} {S : List Value} {σ : QHeap} {st' : QSt} (h : QTri l Z n0 ad m st' v σ') (hc : pCode m pc = some (.lastore, aux)) (hs : qastJ (pc + 1) L S σ = some st') : QTri l Z n0 ad m (pc, L, S, σ) v σ' := by
 have hd : decode (pBytes m) pc = .ok (.lastore, 1) := pDecN hc rfl
 obtain ⟨w, j, a, S', xs, ys, rfl, hx1, b1, hw, rfl⟩ := qastJ_inv hs
 refine QTri.stored Ad (j := j.toNatClampNeg) (w := .long w) hx1 b1 (by rw [(aset_inv hw).2.2]; simp [qsz]) h fun p e R s mid args below meth c T locs cells slots C hcx X hR => ?_
 have hd2 : decode c.code pc = .ok (.lastore, 1) := by rw [hcx.2.2.1]; exact hd
 obtain ⟨cl, A, hsl⟩ := hR.2.2 _ _ hx1
 obtain ⟨i1, i2⟩ := ast_in hsl hw
 obtain ⟨T₁, h₁, X₁, e₁, W₁, st⟩ := stJ X hcx.1 hcx.2.1 rfl A i1 (g := mkF mid pc C (List.map (qv ad) (.long w :: .int j :: .ref a :: S'))) rfl rfl hd2
 exact ⟨T₁, h₁, X₁, e₁, W₁, ⟨_, A.same W₁, i2⟩, st⟩
set_option maxHeartbeats 4000000 in
theorem QTri.alen {pc aux : Nat} {L : QLoc} {S : List Value} {σ : QHeap} {st' : QSt} (h : QTri l Z n0 ad m st' v σ') (hc : pCode m pc = some (.arraylength, aux)) (hs : qlen (pc + 1) L S σ = some st') : QTri l Z n0 ad m (pc, L, S, σ) v σ' := by
 have hd : decode (pBytes m) pc = .ok (.arraylength, 1) := pDecN hc rfl
 obtain ⟨a, S', n, rfl, hx1, rfl⟩ := qlen_inv hs
 refine QTri.stack h fun p e R s mid args below meth c T locs cells slots C target hx hZ hby hown X hR hL k => ?_
 have hd2 : decode c.code pc = .ok (.arraylength, 1) := by rw [hby]; exact hd
 rcases hx1 with ⟨ty, xs, hx1, rfl⟩ | ⟨xs, hx1, rfl⟩
 ·obtain ⟨cl, A, hsl⟩ := hR.2.2 _ _ hx1
  have e1 : cl.slots.size = xs.length := by rw [hsl]; simp
  rw [← e1] at k
  exact X.arraylength hx A.1 (State.isArrayOf_alike hZ.alike A.2.1) (g := mkF mid pc C (List.map (qv ad) (.ref a :: S'))) rfl rfl hd2 _ k
 ·obtain ⟨cl, A, hsl⟩ := hR.2.2 _ _ hx1
  have e1 : cl.slots.size = xs.length := by rw [hsl]; simp
  rw [← e1] at k
  exact X.arraylength hx A.1 (State.isArrayOf_alike hZ.alike A.2.1) (g := mkF mid pc C (List.map (qv ad) (.ref a :: S'))) rfl rfl hd2 _ k
set_option maxHeartbeats 4000000 in
theorem QTri.newObj (Ad : QAd n0 ad) (W : QW Z a0) {pc idx aux : Nat} {L : QLoc} {S : List Value} {σ : QHeap} (h : QTri l Z n0 ad m (pc + 3, L, .ref σ.length :: S, σ ++ [.inl cDef]) v σ') (hc : pCode m pc = some (.new idx, aux)) : QTri l Z n0 ad m (pc, L, S, σ) v σ' := by
 have hd : decode (pBytes m) pc = .ok (.new idx, 3) := pDecN hc rfl
 have hm := mem_of_contains (show lkN.contains (pK m, idx) = true from pRest hc)
 refine QTri.gen h (by simp) (by simp [qhs_app]) fun p e R s mid args below meth c T locs cells slots C hcx X hR hF hL hC hn hc1 hsl => ?_
 obtain ⟨hx, hZ, hby, hml, hret, hown, hnm, hfr, hlo⟩ := hcx
 have hd2 : decode c.code pc = .ok (.new idx, 3) := by rw [hby]; exact hd
 simp only [List.length_append, List.length_singleton, Nat.add_sub_cancel_left, qgrow, qsz] at hc1 hsl ⊢
 obtain ⟨T₁, h₁, X₁, e₁, E₁, A₁, D₁, -, st⟩ := newO X hx hZ hown (index := idx) (qw_nw W (pK m, idx) hm) ((qw_inst W)) ((qw_init W)) rfl (g := mkF mid pc C (S.map (qv ad))) rfl hd2 hc1 hsl
 have hsz : h₁.size = T.heap.size + 1 := by
  have q1 := X₁.heapSize
  have q2 : T.heap.size < h₁.size := A₁.lt
  have q3 : T.heap.size = n0 + (σ.length - k0) := hR.2.1
  rw [e₁] at q1
  have : n0 + (σ.length - k0) = s.heap.size + cells := hn
  omega
 refine ⟨T₁, locs, C, X₁, ?_, hF, hL, hC, fun target q => ?_⟩
 ·rw [e₁]
  refine QRep.push hR Ad E₁ hsz ⟨A₁, cDefL, fun k u hk hu => ?_⟩
  rw [cDefs k hk] at hu
  cases hu
  have e3 : qv ad (defaultValue (fTy k)) = defaultValue (fTy k) := by
   cases hq : defaultValue (fTy k) with
   | ref a => exact absurd hq (fDef k hk a)
   | _ => rfl
  rw [e3]
  exact D₁ (laid_of W hk) (fPrs k hk)
 ·refine st _ ?_
  have e2 : ad σ.length = T.heap.size := by rw [Ad.1 _ hR.1]; exact hR.2.1.symm
  simp only [List.map_cons, qv, e2] at q
  exact q
set_option maxHeartbeats 8000000 in
theorem QTri.step (Ad : QAd n0 ad) (W : QW Z a0) {st st' : QSt} (h : QTri l Z n0 ad m st' v σ') (hs : qstep m st = some st') : QTri l Z n0 ad m st v σ' := by
 obtain ⟨pc, L, S, σ⟩ := st
 unfold qstep at hs
 dsimp only at hs
 split at hs
 rotate_left
 ·cases hs
 rename_i i aux hc
 have hd := pDecN hc rfl
 have hr := pRest hc
 unfold qexec at hs
 split at hs
 ·-- aload_n
  obtain ⟨w, h1, h2, rfl⟩ := qload_inv hs
  obtain ⟨a, rfl⟩ := isR_inv h2
  exact QTri.stack h fun p e R s mid args below meth c T locs cells slots C target hx hZ hby hown X hR hL k => XS.aloadN X.here hx rfl (hb hby hd) (hL.2.1 _ _ h1) rfl k
 ·obtain ⟨w, h1, h2, rfl⟩ := qload_inv hs
  obtain ⟨a, rfl⟩ := isR_inv h2
  exact QTri.stack h fun p e R s mid args below meth c T locs cells slots C target hx hZ hby hown X hR hL k => XS.aload X.here hx rfl (hb hby hd) (hL.2.1 _ _ h1) rfl k
 ·obtain ⟨w, h1, h2, rfl⟩ := qload_inv hs
  obtain ⟨a, rfl⟩ := isI_inv h2
  exact QTri.stack h fun p e R s mid args below meth c T locs cells slots C target hx hZ hby hown X hR hL k => XS.iloadN X.here hx rfl (hb hby hd) (hL.2.1 _ _ h1) k
 ·obtain ⟨w, h1, h2, rfl⟩ := qload_inv hs
  obtain ⟨a, rfl⟩ := isI_inv h2
  exact QTri.stack h fun p e R s mid args below meth c T locs cells slots C target hx hZ hby hown X hR hL k => XS.iload X.here hx rfl (hb hby hd) (hL.2.1 _ _ h1) k
 ·obtain ⟨w, h1, h2, rfl⟩ := qload_inv hs
  obtain ⟨a, rfl⟩ := isJ_inv h2
  exact QTri.stack h fun p e R s mid args below meth c T locs cells slots C target hx hZ hby hown X hR hL k => XT.lloadN X.here hx rfl (hb hby hd) (hL.2.1 _ _ h1) k
 ·obtain ⟨w, h1, h2, rfl⟩ := qload_inv hs
  obtain ⟨a, rfl⟩ := isJ_inv h2
  exact QTri.stack h fun p e R s mid args below meth c T locs cells slots C target hx hZ hby hown X hR hL k => XT.lload X.here hx rfl (hb hby hd) (hL.2.1 _ _ h1) k
 ·cases hs -- iconst
  exact QTri.stack h fun p e R s mid args below meth c T locs cells slots C target hx hZ hby hown X hR hL k => XS.iconst X.here hx rfl (hb hby hd) k
 ·cases hs
  exact QTri.stack h fun p e R s mid args below meth c T locs cells slots C target hx hZ hby hown X hR hL k => XS.bipush X.here hx rfl (hb hby hd) k
 ·cases hs
  exact QTri.stack h fun p e R s mid args below meth c T locs cells slots C target hx hZ hby hown X hR hL k => XS.sipush X.here hx rfl (hb hby hd) k
 ·cases hs
  exact QTri.stack h fun p e R s mid args below meth c T locs cells slots C target hx hZ hby hown X hR hL k => XT.lconst X.here hx rfl (hb hby hd) k
 ·-- ldc
  unfold qldc at hs
  split at hs
  ·rename_i w hw
   cases hs
   obtain ⟨x, hx1, hx2⟩ := qw_cI W (pK m, _, aux) (mem_of_contains (show lkC.contains (pK m, _, aux) = true from hr))
   rw [show vget cK aux = some w from hw] at hx1
   cases hx1
   exact QTri.stack h fun p e R s mid args below meth c T locs cells slots C target hx hZ hby hown X hR hL k => X.ldcI hx hown (mv hZ hx2) rfl (hb hby hd) k
  ·cases hs
 ·unfold qldc at hs
  split at hs
  ·rename_i w hw
   cases hs
   obtain ⟨x, hx1, hx2⟩ := qw_cJ W (pK m, _, aux) (mem_of_contains (show lkD.contains (pK m, _, aux) = true from hr))
   rw [show vget cK aux = some w from hw] at hx1
   cases hx1
   exact QTri.stack h fun p e R s mid args below meth c T locs cells slots C target hx hZ hby hown X hR hL k => X.ldc2J hx hown (mv hZ hx2) rfl (hb hby hd) k
  ·cases hs
 ·-- istore_n
  obtain ⟨w, S', L', rfl, h2, h3, rfl⟩ := qstore_inv hs
  obtain ⟨a, rfl⟩ := isI_inv h2
  exact QTri.frame h fun p e R s mid args below meth c T locs cells slots C hcx X hR hL hC => by
   obtain ⟨D, d1, d2, d3⟩ := store_ok hL h3
   exact ⟨D, d2, d3.trans hC, fun target k => XS.istoreN X.here hcx.1 rfl (hb hcx.2.2.1 hd) rfl d1 k⟩
 ·obtain ⟨w, S', L', rfl, h2, h3, rfl⟩ := qstore_inv hs
  obtain ⟨a, rfl⟩ := isI_inv h2
  exact QTri.frame h fun p e R s mid args below meth c T locs cells slots C hcx X hR hL hC => by
   obtain ⟨D, d1, d2, d3⟩ := store_ok hL h3
   exact ⟨D, d2, d3.trans hC, fun target k => XS.istore X.here hcx.1 rfl (hb hcx.2.2.1 hd) rfl d1 k⟩
 ·obtain ⟨w, S', L', rfl, h2, h3, rfl⟩ := qstore_inv hs
  obtain ⟨a, rfl⟩ := isJ_inv h2
  exact QTri.frame h fun p e R s mid args below meth c T locs cells slots C hcx X hR hL hC => by
   obtain ⟨D, d1, d2, d3⟩ := store_ok hL h3
   exact ⟨D, d2, d3.trans hC, fun target k => XT.lstoreN X.here hcx.1 rfl (hb hcx.2.2.1 hd) rfl d1 k⟩
 ·obtain ⟨w, S', L', rfl, h2, h3, rfl⟩ := qstore_inv hs
  obtain ⟨a, rfl⟩ := isJ_inv h2
  exact QTri.frame h fun p e R s mid args below meth c T locs cells slots C hcx X hR hL hC => by
   obtain ⟨D, d1, d2, d3⟩ := store_ok hL h3
   exact ⟨D, d2, d3.trans hC, fun target k => XT.lstore X.here hcx.1 rfl (hb hcx.2.2.1 hd) rfl d1 k⟩
 ·obtain ⟨w, S', L', rfl, h2, h3, rfl⟩ := qstore_inv hs
  obtain ⟨a, rfl⟩ := isR_inv h2
  exact QTri.frame h fun p e R s mid args below meth c T locs cells slots C hcx X hR hL hC => by
   obtain ⟨D, d1, d2, d3⟩ := store_ok hL h3
   exact ⟨D, d2, d3.trans hC, fun target k => XS.astoreN X.here hcx.1 rfl (hb hcx.2.2.1 hd) rfl rfl d1 k⟩
 ·obtain ⟨w, S', L', rfl, h2, h3, rfl⟩ := qstore_inv hs
  obtain ⟨a, rfl⟩ := isR_inv h2
  exact QTri.frame h fun p e R s mid args below meth c T locs cells slots C hcx X hR hL hC => by
   obtain ⟨D, d1, d2, d3⟩ := store_ok hL h3
   exact ⟨D, d2, d3.trans hC, fun target k => XS.astore X.here hcx.1 rfl (hb hcx.2.2.1 hd) rfl rfl d1 k⟩
 ·-- iinc
  unfold qinc at hs
  split at hs
  ·rename_i x hx1
   split at hs
   ·rename_i L' hL'
    cases hs
    exact QTri.frame h fun p e R s mid args below meth c T locs cells slots C hcx X hR hL hC => by
     obtain ⟨D, d1, d2, d3⟩ := store_ok hL hL'
     exact ⟨D, d2, d3.trans hC, fun target k => XS.iinc X.here hcx.1 rfl (hb hcx.2.2.1 hd) (hL.2.1 _ _ hx1) d1 k⟩
   ·cases hs
  ·cases hs
 ·obtain ⟨x, y, S', rfl, rfl⟩ := qbin_inv hs -- iadd
  exact QTri.stack h fun p e R s mid args below meth c T locs cells slots C target hx hZ hby hown X hR hL k => XS.iadd X.here hx rfl (hb hby hd) rfl k
 ·obtain ⟨x, y, S', rfl, rfl⟩ := qbin_inv hs
  exact QTri.stack h fun p e R s mid args below meth c T locs cells slots C target hx hZ hby hown X hR hL k => XS.isub X.here hx rfl (hb hby hd) rfl k
 ·obtain ⟨x, y, S', rfl, rfl⟩ := qbin_inv hs
  exact QTri.stack h fun p e R s mid args below meth c T locs cells slots C target hx hZ hby hown X hR hL k => XS.imul X.here hx rfl (hb hby hd) rfl k
 ·obtain ⟨x, y, S', rfl, rfl⟩ := qbin_inv hs
  exact QTri.stack h fun p e R s mid args below meth c T locs cells slots C target hx hZ hby hown X hR hL k => XS.iand X.here hx rfl (hb hby hd) rfl k
 ·obtain ⟨x, y, S', rfl, rfl⟩ := qbin_inv hs
  exact QTri.stack h fun p e R s mid args below meth c T locs cells slots C target hx hZ hby hown X hR hL k => XT.ior X.here hx rfl (hb hby hd) rfl k
 ·obtain ⟨x, y, S', rfl, rfl⟩ := qbin_inv hs
  exact QTri.stack h fun p e R s mid args below meth c T locs cells slots C target hx hZ hby hown X hR hL k => XT.ixor X.here hx rfl (hb hby hd) rfl k
 ·obtain ⟨x, y, S', rfl, rfl⟩ := qbin_inv hs
  exact QTri.stack h fun p e R s mid args below meth c T locs cells slots C target hx hZ hby hown X hR hL k => XT.ishl X.here hx rfl (hb hby hd) rfl k
 ·obtain ⟨x, y, S', rfl, rfl⟩ := qbin_inv hs
  exact QTri.stack h fun p e R s mid args below meth c T locs cells slots C target hx hZ hby hown X hR hL k => XT.ishr X.here hx rfl (hb hby hd) rfl k
 ·obtain ⟨x, y, S', rfl, rfl⟩ := qbin_inv hs
  exact QTri.stack h fun p e R s mid args below meth c T locs cells slots C target hx hZ hby hown X hR hL k => XT.iushr X.here hx rfl (hb hby hd) rfl k
 ·obtain ⟨x, y, z, S', rfl, hz, rfl⟩ := qbino_inv hs -- idiv
  unfold qdiv at hz
  split at hz
  ·cases hz
  ·rename_i hy
   cases hz
   exact QTri.stack h fun p e R s mid args below meth c T locs cells slots C target hx hZ hby hown X hR hL k => XS.idiv X.here hx rfl (hb hby hd) rfl hy k
 ·obtain ⟨x, y, z, S', rfl, hz, rfl⟩ := qbino_inv hs
  unfold qrem at hz
  split at hz
  ·cases hz
  ·rename_i hy
   cases hz
   exact QTri.stack h fun p e R s mid args below meth c T locs cells slots C target hx hZ hby hown X hR hL k => iremM X hx rfl (hb hby hd) rfl hy k
 ·obtain ⟨x, S', rfl, rfl⟩ := quni_inv hs -- ineg
  exact QTri.stack h fun p e R s mid args below meth c T locs cells slots C target hx hZ hby hown X hR hL k => XS.ineg X.here hx rfl (hb hby hd) rfl k
 ·obtain ⟨x, S', rfl, rfl⟩ := quni_inv hs
  exact QTri.stack h fun p e R s mid args below meth c T locs cells slots C target hx hZ hby hown X hR hL k => XT.i2l X.here hx rfl (hb hby hd) rfl k
 ·obtain ⟨x, S', rfl, rfl⟩ := quni_inv hs
  exact QTri.stack h fun p e R s mid args below meth c T locs cells slots C target hx hZ hby hown X hR hL k => XT.i2b X.here hx rfl (hb hby hd) rfl k
 ·obtain ⟨x, S', rfl, rfl⟩ := quniJ_inv hs
  exact QTri.stack h fun p e R s mid args below meth c T locs cells slots C target hx hZ hby hown X hR hL k => XT.l2i X.here hx rfl (hb hby hd) rfl k
 ·obtain ⟨x, S', rfl, rfl⟩ := quniJ_inv hs
  exact QTri.stack h fun p e R s mid args below meth c T locs cells slots C target hx hZ hby hown X hR hL k => XT.lneg X.here hx rfl (hb hby hd) rfl k
 ·obtain ⟨x, y, S', rfl, rfl⟩ := qbinJ_inv hs
  exact QTri.stack h fun p e R s mid args below meth c T locs cells slots C target hx hZ hby hown X hR hL k => XT.ladd X.here hx rfl (hb hby hd) rfl k
 ·obtain ⟨x, y, S', rfl, rfl⟩ := qbinJ_inv hs
  exact QTri.stack h fun p e R s mid args below meth c T locs cells slots C target hx hZ hby hown X hR hL k => XT.lsub X.here hx rfl (hb hby hd) rfl k
 ·obtain ⟨x, y, S', rfl, rfl⟩ := qbinJ_inv hs
  exact QTri.stack h fun p e R s mid args below meth c T locs cells slots C target hx hZ hby hown X hR hL k => XT.lmul X.here hx rfl (hb hby hd) rfl k
 ·obtain ⟨x, y, S', rfl, rfl⟩ := qbinJ_inv hs
  exact QTri.stack h fun p e R s mid args below meth c T locs cells slots C target hx hZ hby hown X hR hL k => XT.land X.here hx rfl (hb hby hd) rfl k
 ·obtain ⟨x, y, S', rfl, rfl⟩ := qbinJ_inv hs
  exact QTri.stack h fun p e R s mid args below meth c T locs cells slots C target hx hZ hby hown X hR hL k => XT.lor X.here hx rfl (hb hby hd) rfl k
 ·obtain ⟨x, y, S', rfl, rfl⟩ := qbinJ_inv hs
  exact QTri.stack h fun p e R s mid args below meth c T locs cells slots C target hx hZ hby hown X hR hL k => XT.lxor X.here hx rfl (hb hby hd) rfl k
 ·obtain ⟨x, y, S', rfl, rfl⟩ := qshJ_inv hs
  exact QTri.stack h fun p e R s mid args below meth c T locs cells slots C target hx hZ hby hown X hR hL k => XT.lshl X.here hx rfl (hb hby hd) rfl k
 ·obtain ⟨x, y, S', rfl, rfl⟩ := qshJ_inv hs
  exact QTri.stack h fun p e R s mid args below meth c T locs cells slots C target hx hZ hby hown X hR hL k => XT.lshr X.here hx rfl (hb hby hd) rfl k
 ·obtain ⟨x, y, S', rfl, rfl⟩ := qshJ_inv hs
  exact QTri.stack h fun p e R s mid args below meth c T locs cells slots C target hx hZ hby hown X hR hL k => XT.lushr X.here hx rfl (hb hby hd) rfl k
 ·split at hs -- lcmp
  ·cases hs
   exact QTri.stack h fun p e R s mid args below meth c T locs cells slots C target hx hZ hby hown X hR hL k => XT.lcmp X.here hx rfl (hb hby hd) rfl k
  ·cases hs
 ·cases hs -- goto
  obtain ⟨t1, t2⟩ := qtgt_spec hr
  exact QTri.stack h fun p e R s mid args below meth c T locs cells slots C target hx hZ hby hown X hR hL k => XS.goto X.here hx rfl rfl (hb hby hd) t1 t2 k
 ·obtain ⟨x, S', rfl, rfl⟩ := qif_inv hs
  obtain ⟨t1, t2⟩ := qtgt_spec hr
  cases hh : ifCond.holds _ x with
  | true => rw [hh] at h; exact QTri.stack h fun p e R s mid args below meth c T locs cells slots C target hx hZ hby hown X hR hL k => XS.ifYes X.here hx rfl rfl (hb hby hd) rfl hh t1 t2 k
  | false => rw [hh] at h; exact QTri.stack h fun p e R s mid args below meth c T locs cells slots C target hx hZ hby hown X hR hL k => XS.ifNo X.here hx rfl (hb hby hd) rfl hh k
 ·obtain ⟨x, y, S', rfl, rfl⟩ := qicmp_inv hs
  obtain ⟨t1, t2⟩ := qtgt_spec hr
  cases hh : if_icmp.holds _ x y with
  | true => rw [hh] at h; exact QTri.stack h fun p e R s mid args below meth c T locs cells slots C target hx hZ hby hown X hR hL k => XS.icmpYes X.here hx rfl rfl (hb hby hd) rfl hh t1 t2 k
  | false => rw [hh] at h; exact QTri.stack h fun p e R s mid args below meth c T locs cells slots C target hx hZ hby hown X hR hL k => XS.icmpNo X.here hx rfl (hb hby hd) rfl hh k
 ·unfold qdup at hs
  split at hs
  ·cases hs
   exact QTri.stack h fun p e R s mid args below meth c T locs cells slots C target hx hZ hby hown X hR hL k => XS.dup X.here hx rfl (hb hby hd) rfl rfl k
  ·cases hs
   exact QTri.stack h fun p e R s mid args below meth c T locs cells slots C target hx hZ hby hown X hR hL k => XS.dup X.here hx rfl (hb hby hd) rfl rfl k
  ·cases hs
 ·unfold qdup2 at hs
  split at hs
  ·cases hs
   exact QTri.stack h fun p e R s mid args below meth c T locs cells slots C target hx hZ hby hown X hR hL k => XT.dup2 X.here hx rfl (hb hby hd) rfl rfl rfl k
  ·cases hs
   exact QTri.stack h fun p e R s mid args below meth c T locs cells slots C target hx hZ hby hown X hR hL k => XT.dup2 X.here hx rfl (hb hby hd) rfl rfl rfl k
  ·cases hs
   exact QTri.stack h fun p e R s mid args below meth c T locs cells slots C target hx hZ hby hown X hR hL k => XT.dup2L X.here hx rfl (hb hby hd) rfl k
  ·cases hs
 ·unfold qpop at hs
  split at hs
  ·cases hs
   exact QTri.stack h fun p e R s mid args below meth c T locs cells slots C target hx hZ hby hown X hR hL k => XT.pop X.here hx rfl (hb hby hd) rfl rfl k
  ·cases hs
   exact QTri.stack h fun p e R s mid args below meth c T locs cells slots C target hx hZ hby hown X hR hL k => XT.pop X.here hx rfl (hb hby hd) rfl rfl k
  ·cases hs
 ·exact QTri.getfield W h hc hs
 ·exact QTri.putfield Ad W h hc hs
 ·exact QTri.iaload h hc hs
 ·exact QTri.baload h hc hs
 ·exact QTri.laload h hc hs
 ·exact QTri.iastore Ad h hc hs
 ·exact QTri.bastore Ad h hc hs
 ·exact QTri.lastore Ad h hc hs
 ·exact QTri.alen h hc hs
 ·-- newarray
  unfold qnewA at hs
  split at hs
  ·split at hs
   ·obtain ⟨k, hk, hs⟩ := Option.bind_eq_some_iff.mp hs
    cases hs
    exact QTri.newArr (c := .inr (.inl (.int, List.replicate k 0))) Ad W hk hc (by simp [qsz]) (fun h' a cA A => ⟨_, A, by simp [newA, (qnew_inv hk).2.1]; exact Or.inr rfl⟩) h
   ·obtain ⟨k, hk, hs⟩ := Option.bind_eq_some_iff.mp hs
    cases hs
    exact QTri.newArr (c := .inr (.inl (.boolean, List.replicate k 0))) Ad W hk hc (by simp [qsz]) (fun h' a cA A => ⟨_, A, by simp [newA, (qnew_inv hk).2.1]; exact Or.inr rfl⟩) h
   ·obtain ⟨k, hk, hs⟩ := Option.bind_eq_some_iff.mp hs
    cases hs
    exact QTri.newArr (c := .inr (.inl (.byte, List.replicate k 0))) Ad W hk hc (by simp [qsz]) (fun h' a cA A => ⟨_, A, by simp [newA, (qnew_inv hk).2.1]; exact Or.inr rfl⟩) h
   ·obtain ⟨k, hk, hs⟩ := Option.bind_eq_some_iff.mp hs
    cases hs
    exact QTri.newArr (c := .inr (.inr (List.replicate k 0))) Ad W hk hc (by simp [qsz]) (fun h' a cA A => ⟨_, A, by simp [newA, (qnew_inv hk).2.1]; exact Or.inr rfl⟩) h
   ·cases hs
  ·cases hs
 ·cases hs; exact QTri.newObj Ad W h hc
 ·cases hs
theorem QTri.steps (Ad : QAd n0 ad) (W : QW Z a0) : ∀ (n : Nat) {st st' : QSt}, qsteps m n st = some st' → QTri l Z n0 ad m st' v σ' → QTri l Z n0 ad m st v σ'
 | 0, st, st', h, k => by cases h; exact k
 | n + 1, st, st', h, k => by
  simp only [qsteps] at h
  split at h
  ·rename_i st₁ h1
   exact QTri.step Ad W (QTri.steps Ad W n h k) h1
  ·cases h
def lmask : List Bool → QLoc → QLoc
 | b :: t, x :: u => (bif b then x else none) :: lmask t u
 | _, L => L.map fun _ => none
theorem lmask_len : ∀ (b : List Bool) (L : QLoc), (lmask b L).length = L.length
 | [], L => by simp [lmask]
 | _ :: _, [] => by simp [lmask]
 | _ :: t, _ :: u => by simp [lmask, lmask_len t u]
theorem lmask_get : ∀ (b : List Bool) (L : QLoc) (k : Nat) (v : Value), lget (lmask b L) k = some v → lget L k = some v
 | [], L, k, v, h => by
  simp only [lmask, lget_eq, List.getElem?_map] at h
  cases hq : L[k]? <;> simp [hq] at h
 | _ :: _, [], k, v, h => by simp [lmask, lget] at h
 | b :: t, x :: u, 0, v, h => by
  simp only [lmask, lget] at h ⊢
  cases b
  ·cases h
  ·exact h
 | b :: t, x :: u, k + 1, v, h => by
  simp only [lmask, lget] at h ⊢
  exact lmask_get t u k v h
theorem QTri.mask {pc : Nat} {L : QLoc} {S : List Value} {σ : QHeap} (b : List Bool) (h : QTri l Z n0 ad m (pc, lmask b L, S, σ) v σ') : QTri l Z n0 ad m (pc, L, S, σ) v σ' :=
 QTri.frame h fun p e R s mid args below meth c T locs cells slots C hcx X hR hL hC => ⟨C, ⟨by rw [lmask_len]; exact hL.1, fun k u hk => hL.2.1 k u (lmask_get b L k u hk), hL.2.2⟩, hC, fun target k => k⟩
theorem QTri.ret0 {pc aux : Nat} {L : QLoc} {σ : QHeap} (hc : pCode m pc = some (.return_, aux)) (hr : pRet m = none) : QTri l Z n0 ad m (pc, L, [], σ) none σ :=
 have hd : decode (pBytes m) pc = .ok (.return_, 1) := pDecN hc rfl
 ⟨Nat.le_refl _, Nat.le_refl _, fun p e R s mid args below meth c T locs cells slots C hcx X hR hF hL hC hn hc1 hsl => ⟨T, locs, by simpa using X, hR, hF, fun fs hf => X.returnOut hcx.1 (hcx.2.2.2.2.1.trans hr) (hb hcx.2.2.1 hd) hf⟩⟩
theorem QTri.retI {pc aux : Nat} {L : QLoc} {S : List Value} {σ : QHeap} {x : Int32} (hc : pCode m pc = some (.ireturn, aux)) (hr : pRet m = some .int) : QTri l Z n0 ad m (pc, L, .int x :: S, σ) (some (.int x)) σ :=
 have hd : decode (pBytes m) pc = .ok (.ireturn, 1) := pDecN hc rfl
 ⟨Nat.le_refl _, Nat.le_refl _, fun p e R s mid args below meth c T locs cells slots C hcx X hR hF hL hC hn hc1 hsl => ⟨T, locs, by simpa using X, hR, hF, fun fs hf => Jvm.RoadKit.retI X hcx.1 (hcx.2.2.2.2.1.trans hr) (hb hcx.2.2.1 hd) hf⟩⟩
theorem QTri.retZ {pc aux : Nat} {L : QLoc} {S : List Value} {σ : QHeap} {x : Int32} (hc : pCode m pc = some (.ireturn, aux)) (hr : pRet m = some .boolean) : QTri l Z n0 ad m (pc, L, .int x :: S, σ) (some (.int (x &&& 1))) σ :=
 have hd : decode (pBytes m) pc = .ok (.ireturn, 1) := pDecN hc rfl
 ⟨Nat.le_refl _, Nat.le_refl _, fun p e R s mid args below meth c T locs cells slots C hcx X hR hF hL hC hn hc1 hsl => ⟨T, locs, by simpa using X, hR, hF, fun fs hf => retN X hcx.1 (t := .boolean) (hcx.2.2.2.2.1.trans hr) (by simp) (hb hcx.2.2.1 hd) hf⟩⟩
theorem QTri.retJ {pc aux : Nat} {L : QLoc} {S : List Value} {σ : QHeap} {x : Int64} (hc : pCode m pc = some (.lreturn, aux)) (hr : pRet m = some .long) : QTri l Z n0 ad m (pc, L, .long x :: S, σ) (some (.long x)) σ :=
 have hd : decode (pBytes m) pc = .ok (.lreturn, 1) := pDecN hc rfl
 ⟨Nat.le_refl _, Nat.le_refl _, fun p e R s mid args below meth c T locs cells slots C hcx X hR hF hL hC hn hc1 hsl => ⟨T, locs, by simpa using X, hR, hF, fun fs hf => retOut X hcx.1 (t := .long) (hcx.2.2.2.2.1.trans hr) rfl (Or.inr (Or.inl ⟨rfl, rfl, _, rfl⟩)) (hb hcx.2.2.1 hd) hf⟩⟩
def LOk (ad : Nat → Addr) (L : QLoc) (C : List Slot) : Prop :=
 L.length = C.length ∧ (∀ k v, lget L k = some v → C[k]? = some (.val (qv ad v))) ∧ (∀ k w, C[k]? = some (.val w) → w.category = 2 → C[k + 1]? = some .second) ∧ ∀ k, C[k]? = some .second → ∃ j w, k = j + 1 ∧ C[j]? = some (.val w) ∧ w.category = 2
theorem LOk.base (ad : Nat → Addr) (n : Nat) : LOk ad (List.replicate n none) (List.replicate n .unset) := by
 refine ⟨by simp, fun k u h => ?_, fun k w h => ?_, fun k h => ?_⟩
 ·rw [lget_eq] at h
  rcases Nat.lt_or_ge k n with q | q
  ·simp [List.getElem?_replicate, q] at h
  ·simp [List.getElem?_eq_none, q] at h
 ·rcases Nat.lt_or_ge k n with q | q
  ·simp [List.getElem?_replicate, q] at h
  ·simp [List.getElem?_eq_none, q] at h
 ·rcases Nat.lt_or_ge k n with q | q
  ·simp [List.getElem?_replicate, q] at h
  ·simp [List.getElem?_eq_none, q] at h
theorem LOk.one {L : QLoc} {C : List Slot} (H : LOk ad L C) {u : Value} (hu : u.category = 1) : LOk ad (some u :: L) (.val (qv ad u) :: C) := by
 obtain ⟨h1, h2, h3, h4⟩ := H
 refine ⟨by simp [h1], fun k w h => ?_, fun k w h hw => ?_, fun k h => ?_⟩
 ·cases k with
  | zero => simp only [lget] at h; cases h; simp
  | succ k => simp only [lget] at h; simpa using h2 k w h
 ·cases k with
  | zero => simp at h; rw [← h, qv_cat, hu] at hw; cases hw
  | succ k => simpa using h3 k w (by simpa using h) hw
 ·cases k with
  | zero => simp at h
  | succ k =>
   obtain ⟨j, w, z1, z2, z3⟩ := h4 k (by simpa using h)
   exact ⟨j + 1, w, by omega, by simpa using z2, z3⟩
theorem LOk.two {L : QLoc} {C : List Slot} (H : LOk ad L C) {u : Value} (hu : u.category = 2) : LOk ad (some u :: none :: L) (.val (qv ad u) :: .second :: C) := by
 obtain ⟨h1, h2, h3, h4⟩ := H
 refine ⟨by simp [h1], fun k w h => ?_, fun k w h hw => ?_, fun k h => ?_⟩
 ·rcases k with _ | _ | k
  ·simp only [lget] at h; cases h; simp
  ·simp [lget] at h
  ·simp only [lget] at h; simpa using h2 k w h
 ·rcases k with _ | _ | k
  ·simp
  ·simp at h
  ·simpa using h3 k w (by simpa using h) hw
 ·rcases k with _ | _ | k
  ·simp at h
  ·exact ⟨0, qv ad u, rfl, by simp, by rw [qv_cat]; exact hu⟩
  ·obtain ⟨j, w, z1, z2, z3⟩ := h4 k (by simpa using h)
   exact ⟨j + 2, w, by omega, by simpa using z2, z3⟩
def slotsOf (u : Value) : List Slot := if u.category = 2 then [.val u, .second] else [.val u]
theorem fold_slots : ∀ (as : List Value) (acc : Array Slot), (as.foldl (fun acc v => if v.category = 2 then (acc.push (.val v)).push .second else acc.push (.val v)) acc).toList = acc.toList ++ as.flatMap slotsOf
 | [], acc => by simp
 | u :: t, acc => by
  rw [List.foldl_cons, fold_slots t]
  by_cases hc : u.category = 2 <;> simp [slotsOf, hc]
theorem slots_len : ∀ (as : List Value), (as.flatMap slotsOf).length = (as.map fun v => v.category).sum
 | [] => rfl
 | u :: t => by
  rw [List.flatMap_cons, List.length_append, slots_len t, List.map_cons, List.sum_cons]
  cases u <;> simp [slotsOf, Value.category]
theorem cats_qv (as : List Value) : ((as.map (qv ad)).map fun v => v.category).sum = (as.map fun v => v.category).sum := by
 rw [List.map_map]
 congr 1
 exact List.map_congr_left fun x _ => qv_cat ad x
theorem entry_list : ∀ (as : List Value) (n : Nat), LOk ad ((as.flatMap fun v => match v with | .long x => [some (.long x), none] | .double x => [some (.double x), none] | v => [some v]) ++ List.replicate n none) ((as.map (qv ad)).flatMap slotsOf ++ List.replicate n .unset)
 | [], n => by simpa using LOk.base ad n
 | u :: t, n => by
  have ih := entry_list t n
  cases u with
  | long x => exact LOk.two ih rfl
  | double x => exact LOk.two ih rfl
  | int x => exact LOk.one ih rfl
  | float x => exact LOk.one ih rfl
  | null => exact LOk.one ih rfl
  | ref x => exact LOk.one ih rfl
  | retAddr x => exact LOk.one ih rfl
theorem qentry_ok (as : List Value) (mx : Nat) (h : (as.map fun v => v.category).sum ≤ mx) : QLocOk ad (qentry as mx) (argsToLocals (as.map (qv ad)).toArray mx) ∧ (argsToLocals (as.map (qv ad)).toArray mx).size = mx := by
 have e : (argsToLocals (as.map (qv ad)).toArray mx).toList = (as.map (qv ad)).flatMap slotsOf ++ List.replicate (mx - (as.map fun v => v.category).sum) .unset := by
  unfold argsToLocals
  have q := fold_slots (as.map (qv ad)) #[]
  simp only [List.foldl_toArray', Array.toList_append, Array.toList_replicate]
  have q2 : ((as.map (qv ad)).foldl (fun (acc : Array Slot) (v : Value) => if v.category = 2 then (acc.push (.val v)).push .second else acc.push (.val v)) #[]).size = (as.map fun v => v.category).sum := by
   rw [← Array.length_toList, q]
   simp only [List.nil_append]
   rw [slots_len, cats_qv]
  rw [q, q2]
  simp
 have H := entry_list (ad := ad) as (mx - (as.map fun v => v.category).sum)
 rw [← e] at H
 obtain ⟨h1, h2, h3, h4⟩ := H
 have hs : (argsToLocals (as.map (qv ad)).toArray mx).size = mx := by
  rw [← Array.length_toList, e, List.length_append, slots_len, cats_qv, List.length_replicate]
  omega
 refine ⟨⟨h1.trans Array.length_toList, fun k u hk => ?_, fun k w hk hw => ?_, fun k hk => ?_⟩, hs⟩
 ·have := h2 k u hk; rwa [Array.getElem?_toList] at this
 ·have := h3 k w (by rw [Array.getElem?_toList]; exact hk) hw; rwa [Array.getElem?_toList] at this
 ·obtain ⟨j, w, z1, z2, z3⟩ := h4 k (by rw [Array.getElem?_toList]; exact hk)
  exact ⟨j, w, z1, by rwa [Array.getElem?_toList] at z2, z3⟩
set_option maxHeartbeats 4000000 in
theorem QTri.met {k : Nat} {as : List Value} {σ σ₁ : QHeap} {w : Option Value} {h0 : Heap} (hk : k < pN) (h : QTri l Z n0 ad k (0, qentry as (pMaxL k), [], σ) w σ₁) (hR : QRep Z n0 ad h0 σ) (hlen : (as.map fun v => v.category).sum ≤ pMaxL k) (hret : pRet k = none → w = none) (ws : List Jvm.Cond) {rm : Room}
  (r1 : pFr k ≤ rm.frames) (r2 : pLo k ≤ rm.locals) (r3 : σ₁.length - σ.length ≤ rm.cells) (r4 : qhs σ₁ - qhs σ ≤ rm.slots) :
  MetFree l (pName k) (head1 (Jvm.Cond.code (pName k) (pBytes k) (pMaxL k) (pRet k) :: ws) rm) (fun a U => a = (as.map (qv ad)).toArray ∧ Z.Warmed39 U.vm ∧ U.heap = h0) (fun _ _ _ _ _ => True)
   (fun _ U o U' => ∃ v L, o = .returned v ∧ (v = w.map (qv ad) ∧ QRep Z n0 ad U'.heap σ₁ ∧ Fr n0 L) ∧ FrameEnd U o U' L (σ₁.length - σ.length) (qhs σ₁ - qhs σ)) := by
 refine MetFree.of_bodySF (plainFor_of_name (kPlain _ (pKlt k hk))) hisR ?_
 intro p e s mid args below meth c s₁ Bd hml0 hP hK
 obtain ⟨rfl, hZ, hh⟩ := hP
 have e0 : s₁.heap = h0 := by rw [← hh, Bd.state]; rfl
 obtain ⟨hl1, hl2⟩ := qentry_ok (ad := ad) as (pMaxL k) hlen
 have hX : Stand p l e rm s mid (as.map (qv ad)).toArray below meth c s₁ [] 0 0 := Stand.of_body Bd
 obtain ⟨T', locs', X', R', F', S'⟩ := h.2.2 p e rm s mid _ below meth c s₁ [] 0 0 _ ⟨Bd.exec, hZ, Bd.bytes, hml0, Bd.returns, findClass_of_methodNamed Bd.named, (name_of_methodNamed Bd.named Bd.method).1, r1, r2⟩ hX (by rw [e0]; exact hR) (Fr.nil _) hl1 (hl2.trans hml0.symm) (by rw [hh, Nat.add_zero]; exact hR.2.1.symm) (by rw [Nat.zero_add]; exact r3) (by rw [Nat.zero_add]; exact r4)
 obtain ⟨fs, hr, hrun, hended, hW, hsame⟩ := X'.leave (v := w.map (qv ad)) (fun q => by rw [hret (Bd.returns.symm.trans q)]; rfl)
 refine ⟨_, _, S' fs hr, hrun, hended, _, _, rfl, ⟨rfl, R', F'⟩, ⟨_, rfl⟩, hW, ?_⟩
 simp only [Nat.zero_add] at hsame
 exact hsame
theorem QTri.room {k : Nat} {σ σ₁ : QHeap} {rest : List Value} {R : Room} (hroom : (Nat.ble (pFr k + 1) (pFr m) && Nat.ble ((rest.map fun v => v.category).sum + (pMaxL k + 11) + pLo k) (pLo m)) = true) (hfr : pFr m ≤ R.frames) (hlo : pLo m ≤ R.locals) :
  pFr k + 1 ≤ R.frames ∧ (rest.map fun v => v.category).sum + (pMaxL k + 11) + pLo k ≤ R.locals := by
 obtain ⟨q1, q2⟩ := Bool.and_eq_true_iff.mp hroom
 exact ⟨Nat.le_trans (Nat.le_of_ble_eq_true q1) hfr, Nat.le_trans (Nat.le_of_ble_eq_true q2) hlo⟩
theorem sig_len {k : Nat} (hk : k < pN) {as : List Value} (hna : as.length = pNA k) : ∀ sig, parseMethodDescriptor (pName k).desc = some sig → (as.map (qv ad)).length = sig.parameters.length := fun sig hs => by
 have q := pSig k hk
 rw [show parseMethodDescriptor (pDs k) = some sig from hs] at q
 simp at q
 simp [hna, q]
theorem ret_map (w : Option Value) (rest : List Value) : (w.toList ++ rest).map (qv ad) = (w.map (qv ad)).toList ++ rest.map (qv ad) := by cases w <;> simp
theorem QTri.after {as0 : List Value} {pc : Nat} {L : QLoc} {S rest : List Value} {σ σ₁ : QHeap} {w : Option Value} {k : Nat} (hcal : QTri l Z n0 ad k (0, qentry as0 (pMaxL k), [], σ) w σ₁) (h : QTri l Z n0 ad m (pc + 3, L, w.toList ++ rest, σ₁) v σ')
  (hs : ∀ (p : Program) (e : Env) (R : Room) (s : State) (mid : MethodId) (args : Array Value) (below : List Frame) (meth : Method) (c : Code) (T : State) (locs : List Loc) (cells slots : Nat) (C : Array Slot),
   QCx Z p R s mid meth c m → Stand p l e R s mid args below meth c T locs cells slots → QRep Z n0 ad T.heap σ → C.size = c.maxLocals → cells + (σ₁.length - σ.length) ≤ R.cells → slots + (qhs σ₁ - qhs σ) ≤ R.slots →
   ∃ T₁ Lc, Stand p l e R s mid args below meth c T₁ (locs ++ Lc) (cells + (σ₁.length - σ.length)) (slots + (qhs σ₁ - qhs σ)) ∧ QRep Z n0 ad T₁.heap σ₁ ∧ Fr n0 Lc ∧
    ∀ target, Steps p.tables e below (T₁.setTop (mkF mid (pc + 3) C ((w.map (qv ad)).toList ++ rest.map (qv ad)))) target → Steps p.tables e below (T.setTop (mkF mid pc C (S.map (qv ad)))) target) :
  QTri l Z n0 ad m (pc, L, S, σ) v σ' := by
 refine QTri.gen h hcal.1 hcal.2.1 fun p e R s mid args below meth c T locs cells slots C hcx X hR hF hL hC hn hc1 hsl => ?_
 obtain ⟨T₁, Lc, X₁, R₁, F₁, st⟩ := hs p e R s mid args below meth c T locs cells slots C hcx X hR hC hc1 hsl
 refine ⟨T₁, locs ++ Lc, C, X₁, R₁, hF.app F₁, hL, hC, fun target q => st target ?_⟩
 rw [← ret_map]
 exact q
set_option maxHeartbeats 4000000 in
theorem QTri.callV (W : QW Z a0) {pc idx k a : Nat} {L : QLoc} {S as rest vs : List Value} {σ σ₁ : QHeap} {w : Option Value} (hc : pCode m pc = some (.invokevirtual idx, k)) (hm : (lkV.contains (pK m, idx, k) && mV.contains k) = true) (hcell : hget σ a = some (.inl vs)) (hS : S = as.reverse ++ .ref a :: rest)
  (hna : as.length = pNA k) (hlen : Nat.ble (((Value.ref a :: as).map fun v => v.category).sum) (pMaxL k) = true) (hroom : (Nat.ble (pFr k + 1) (pFr m) && Nat.ble ((rest.map fun v => v.category).sum + (pMaxL k + 11) + pLo k) (pLo m)) = true) (hrb : (w.isNone || (pRet k).isSome) = true)
  (hcal : QTri l Z n0 ad k (0, qentry (.ref a :: as) (pMaxL k), [], σ) w σ₁) (h : QTri l Z n0 ad m (pc + 3, L, w.toList ++ rest, σ₁) v σ') : QTri l Z n0 ad m (pc, L, S, σ) v σ' := by
 have hd : decode (pBytes m) pc = .ok (.invokevirtual idx, 3) := pDecN hc rfl
 subst hS
 obtain ⟨m1, m2⟩ := Bool.and_eq_true_iff.mp hm
 have m1 := mem_of_contains m1
 have m2 := mem_of_contains m2
 have hkA := (mVlt k m2).1
 have hkN := mAlt k hkA
 have hret : pRet k = none → w = none := fun q => by
  rw [q] at hrb
  cases w with
  | none => rfl
  | some w => simp at hrb
 refine QTri.after hcal h fun p e R s mid args below meth c T locs cells slots C hcx X hR hC hc1 hsl => ?_
 obtain ⟨hx, hZ, hby, hml, hret', hown, hnm, hfr, hlo⟩ := hcx
 have hd2 : decode c.code pc = .ok (.invokevirtual idx, 3) := by rw [hby]; exact hd
 obtain ⟨f1, f2⟩ := QTri.room (σ := σ) (σ₁ := σ₁) hroom hfr hlo
 obtain ⟨cq, kq, q1, q2, q3⟩ := isOf hZ rfl (hR.2.2 _ _ hcell).1
 obtain ⟨w1, w2, w3⟩ := (qw_vi W) k m2
 obtain ⟨c1, c2⟩ := (qw_cod W) k hkA
 obtain ⟨_, _, ⟨T₁, L₁, k₁, n₁⟩, -, X₁, ⟨Lc, ⟨rfl, hR1, hF1⟩, l₁, y₁, z₁⟩, st⟩ := X.virtualBack hx (own := kName (pK m)) (index := idx) (y := pName k) (z := pName k) hown (mvT hZ (qw_ml W (pK m, idx, k) m1)) (mvT hZ w1) (notFace_of_selects (args := #[]) (mvT hZ w2)) (mvT hZ w2) (mvT hZ w3) (pOwn _ (pKlt k hkN))
  (backOf (W := (rest.map fun v => v.category).sum) (rm := ⟨pFr k, σ₁.length - σ.length, qhs σ₁ - qhs σ, pLo k⟩) (Q := fun v h L => v = Option.map (qv ad) w ∧ QRep Z n0 ad h σ₁ ∧ Fr n0 L) (QTri.met hkN hcal hR (Nat.le_of_ble_eq_true hlen) hret [] (Nat.le_refl _) (Nat.le_refl _) (Nat.le_refl _) (Nat.le_refl _)) hZ c1 c2 f1 f2) q1 q3 (g := mkF mid pc C (List.map (qv ad) (as.reverse ++ .ref a :: rest))) rfl hC (Steps.refl _) (argsL := as.map (qv ad)) (rest := rest.map (qv ad)) (sig_len hkN hna) (by simp [qv]) (by show 2 * 0 + _ ≤ _; rw [cats_qv]; omega) hd2 (fun _ _ => ⟨rfl, rfl, hc1, hsl⟩)
 dsimp only [Pt.U, Pt.locs, Pt.cells, Pt.slots] at X₁ l₁ y₁ z₁ st hR1
 subst l₁ y₁ z₁
 exact ⟨T₁, Lc, X₁, hR1, hF1, fun target q => st.trans q⟩
set_option maxHeartbeats 4000000 in
theorem QTri.callI (W : QW Z a0) {pc idx k a : Nat} {L : QLoc} {S as rest : List Value} {σ σ₁ : QHeap} (hc : pCode m pc = some (.invokespecial idx, k)) (hm : (lkV.contains (pK m, idx, k) && mI.contains k) = true) (hS : S = as.reverse ++ .ref a :: rest)
  (hna : as.length = pNA k) (hlen : Nat.ble (((Value.ref a :: as).map fun v => v.category).sum) (pMaxL k) = true) (hroom : (Nat.ble (pFr k + 1) (pFr m) && Nat.ble ((rest.map fun v => v.category).sum + (pMaxL k + 11) + pLo k) (pLo m)) = true)
  (hcal : QTri l Z n0 ad k (0, qentry (.ref a :: as) (pMaxL k), [], σ) none σ₁) (h : QTri l Z n0 ad m (pc + 3, L, rest, σ₁) v σ') : QTri l Z n0 ad m (pc, L, S, σ) v σ' := by
 have hd : decode (pBytes m) pc = .ok (.invokespecial idx, 3) := pDecN hc rfl
 subst hS
 obtain ⟨m1, m2⟩ := Bool.and_eq_true_iff.mp hm
 have m1 := mem_of_contains m1
 have m2 := mem_of_contains m2
 obtain ⟨hkA, -, hin, hrt⟩ := mIlt k m2
 have hkN := mAlt k hkA
 refine QTri.after (w := none) hcal h fun p e R s mid args below meth c T locs cells slots C hcx X hR hC hc1 hsl => ?_
 obtain ⟨hx, hZ, hby, hml, hret', hown, hnm, hfr, hlo⟩ := hcx
 have hd2 : decode c.code pc = .ok (.invokespecial idx, 3) := by rw [hby]; exact hd
 obtain ⟨f1, f2⟩ := QTri.room (σ := σ) (σ₁ := σ₁) hroom hfr hlo
 obtain ⟨c1, c2⟩ := (qw_cod W) k hkA
 have c1' := c1
 rw [hrt] at c1'
 obtain ⟨_, _, ⟨T₁, L₁, k₁, n₁⟩, -, X₁, ⟨Lc, ⟨rfl, hR1, hF1⟩, l₁, y₁, z₁⟩, st⟩ := X.specialBack hx (own := kName (pK m)) (index := idx) (y := pName k) hin hown (mvT hZ (qw_ml W (pK m, idx, k) m1)) (mvT hZ ((qw_ini W) k m2)) (mvT hZ c1') (pOwn _ (pKlt k hkN))
  (backOf (W := (rest.map fun v => v.category).sum) (rm := ⟨pFr k, σ₁.length - σ.length, qhs σ₁ - qhs σ, pLo k⟩) (Q := fun v h L => v = Option.map (qv ad) none ∧ QRep Z n0 ad h σ₁ ∧ Fr n0 L) (QTri.met hkN hcal hR (Nat.le_of_ble_eq_true hlen) (fun _ => rfl) [] (Nat.le_refl _) (Nat.le_refl _) (Nat.le_refl _) (Nat.le_refl _)) hZ c1 c2 f1 f2) (g := mkF mid pc C (List.map (qv ad) (as.reverse ++ .ref a :: rest))) rfl hC (Steps.refl _) (a := ad a) (argsL := as.map (qv ad)) (rest := rest.map (qv ad)) (sig_len hkN hna) (by simp [qv]) (by show 2 * 0 + _ ≤ _; rw [cats_qv]; omega) hd2 (fun _ _ => ⟨rfl, rfl, hc1, hsl⟩)
 dsimp only [Pt.U, Pt.locs, Pt.cells, Pt.slots] at X₁ l₁ y₁ z₁ st hR1
 subst l₁ y₁ z₁
 exact ⟨T₁, Lc, X₁, hR1, hF1, fun target q => st.trans q⟩
set_option maxHeartbeats 4000000 in
theorem QTri.callP (W : QW Z a0) {pc idx k a : Nat} {L : QLoc} {S as rest vs : List Value} {σ σ₁ : QHeap} {w : Option Value} (hc : pCode m pc = some (.invokevirtual idx, k)) (hm : (lkV.contains (pK m, idx, k) && mP.contains k) = true) (hcell : hget σ a = some (.inl vs)) (hS : S = as.reverse ++ .ref a :: rest)
  (hna : as.length = pNA k) (hlen : Nat.ble (((Value.ref a :: as).map fun v => v.category).sum) (pMaxL k) = true) (hroom : (Nat.ble (pFr k + 1) (pFr m) && Nat.ble ((rest.map fun v => v.category).sum + (pMaxL k + 11) + pLo k) (pLo m)) = true) (hrb : (w.isNone || (pRet k).isSome) = true)
  (hcal : QTri l Z n0 ad k (0, qentry (.ref a :: as) (pMaxL k), [], σ) w σ₁) (h : QTri l Z n0 ad m (pc + 3, L, w.toList ++ rest, σ₁) v σ') : QTri l Z n0 ad m (pc, L, S, σ) v σ' := by
 have hd : decode (pBytes m) pc = .ok (.invokevirtual idx, 3) := pDecN hc rfl
 subst hS
 obtain ⟨m1, m2⟩ := Bool.and_eq_true_iff.mp hm
 have m1 := mem_of_contains m1
 have m2 := mem_of_contains m2
 obtain ⟨hkA, hk1⟩ := mPlt k m2
 have hkN := mAlt k hkA
 have hret : pRet k = none → w = none := fun q => by
  rw [q] at hrb
  cases w with
  | none => rfl
  | some w => simp at hrb
 refine QTri.after hcal h fun p e R s mid args below meth c T locs cells slots C hcx X hR hC hc1 hsl => ?_
 obtain ⟨hx, hZ, hby, hml, hret', hown, hnm, hfr, hlo⟩ := hcx
 have hd2 : decode c.code pc = .ok (.invokevirtual idx, 3) := by rw [hby]; exact hd
 obtain ⟨f1, f2⟩ := QTri.room (σ := σ) (σ₁ := σ₁) hroom hfr hlo
 obtain ⟨cell, h1, h2⟩ := (hR.2.2 _ _ hcell).1.cell
 obtain ⟨w1, w2⟩ := (qw_pr W) k m2
 obtain ⟨c1, c2⟩ := (qw_cod W) k hkA
 have hpr : s.PrivateAt (pName k) := Cond.privateMethod_at (mvP hZ w2 (args := #[]))
 obtain ⟨cC, kC, i1, i2, i3, i4⟩ := Cond.instantiable_spec (args := #[]) (mvT hZ (qw_inst W))
 have hsel : (Cond.selects (pName k).cls (pName k) (pName k)).before args s = true := selects_self_of_private (c := cC) (k := kC) (by show s.vm.findClass (kName (pK k)) = _; rw [hk1]; exact i1) i2 (by have q := i4.1; cases hq : kC.isInterface with | false => rfl | true => rw [hq] at q; simp at q) hpr (mvT hZ w1) (pOwn _ (pKlt k hkN))
 obtain ⟨_, _, ⟨T₁, L₁, k₁, n₁⟩, -, X₁, ⟨Lc, ⟨rfl, hR1, hF1⟩, l₁, y₁, z₁⟩, st⟩ := X.privateBack hx (own := kName (pK m)) (index := idx) (y := pName k) hown (mvT hZ (qw_ml W (pK m, idx, k) m1)) (mvT hZ w1) hsel hpr (mvT hZ c1) (pOwn _ (pKlt k hkN))
  (backOf (W := (rest.map fun v => v.category).sum) (rm := ⟨pFr k, σ₁.length - σ.length, qhs σ₁ - qhs σ, pLo k⟩) (Q := fun v h L => v = Option.map (qv ad) w ∧ QRep Z n0 ad h σ₁ ∧ Fr n0 L) (QTri.met hkN hcal hR (Nat.le_of_ble_eq_true hlen) hret [] (Nat.le_refl _) (Nat.le_refl _) (Nat.le_refl _) (Nat.le_refl _)) hZ c1 c2 f1 f2) (g := mkF mid pc C (List.map (qv ad) (as.reverse ++ .ref a :: rest))) rfl hC (Steps.refl _) (a := ad a) h1 h2 (argsL := as.map (qv ad)) (rest := rest.map (qv ad)) (sig_len hkN hna) (by simp [qv]) (by show 2 * 0 + _ ≤ _; rw [cats_qv]; omega) hd2 (fun _ _ => ⟨rfl, rfl, hc1, hsl⟩)
 dsimp only [Pt.U, Pt.locs, Pt.cells, Pt.slots] at X₁ l₁ y₁ z₁ st hR1
 subst l₁ y₁ z₁
 exact ⟨T₁, Lc, X₁, hR1, hF1, fun target q => st.trans q⟩
set_option maxHeartbeats 4000000 in
theorem QTri.callS (W : QW Z a0) {pc idx k : Nat} {L : QLoc} {S as rest : List Value} {σ σ₁ : QHeap} {w : Option Value} (hc : pCode m pc = some (.invokestatic idx, k)) (hm : (lkV.contains (pK m, idx, k) && mS.contains k) = true) (hS : S = as.reverse ++ rest)
  (hna : as.length = pNA k) (hlen : Nat.ble ((as.map fun v => v.category).sum) (pMaxL k) = true) (hroom : (Nat.ble (pFr k + 1) (pFr m) && Nat.ble ((rest.map fun v => v.category).sum + (pMaxL k + 11) + pLo k) (pLo m)) = true) (hrb : (w.isNone || (pRet k).isSome) = true)
  (hcal : QTri l Z n0 ad k (0, qentry as (pMaxL k), [], σ) w σ₁) (h : QTri l Z n0 ad m (pc + 3, L, w.toList ++ rest, σ₁) v σ') : QTri l Z n0 ad m (pc, L, S, σ) v σ' := by
 have hd : decode (pBytes m) pc = .ok (.invokestatic idx, 3) := pDecN hc rfl
 subst hS
 obtain ⟨m1, m2⟩ := Bool.and_eq_true_iff.mp hm
 have m1 := mem_of_contains m1
 have m2 := mem_of_contains m2
 have hkA := mSlt k m2
 have hkN := mAlt k hkA
 have hret : pRet k = none → w = none := fun q => by
  rw [q] at hrb
  cases w with
  | none => rfl
  | some w => simp at hrb
 refine QTri.after hcal h fun p e R s mid args below meth c T locs cells slots C hcx X hR hC hc1 hsl => ?_
 obtain ⟨hx, hZ, hby, hml, hret', hown, hnm, hfr, hlo⟩ := hcx
 have hd2 : decode c.code pc = .ok (.invokestatic idx, 3) := by rw [hby]; exact hd
 obtain ⟨f1, f2⟩ := QTri.room (σ := σ) (σ₁ := σ₁) hroom hfr hlo
 obtain ⟨c1, c2⟩ := (qw_cod W) k hkA
 obtain ⟨_, _, ⟨T₁, L₁, k₁, n₁⟩, -, X₁, ⟨Lc, ⟨rfl, hR1, hF1⟩, l₁, y₁, z₁⟩, st⟩ := Jvm.LawKit.callS X hx (own := kName (pK m)) (index := idx) (y := pName k) hown (mvT hZ (qw_ml W (pK m, idx, k) m1)) (mvT hZ ((qw_st W) k m2)) (mvT hZ c2) (mvT hZ c1) (pOwn _ (pKlt k hkN))
  (backOf (W := (rest.map fun v => v.category).sum) (rm := ⟨pFr k, σ₁.length - σ.length, qhs σ₁ - qhs σ, pLo k⟩) (Q := fun v h L => v = Option.map (qv ad) w ∧ QRep Z n0 ad h σ₁ ∧ Fr n0 L) (QTri.met hkN hcal hR (Nat.le_of_ble_eq_true hlen) hret [] (Nat.le_refl _) (Nat.le_refl _) (Nat.le_refl _) (Nat.le_refl _)) hZ c1 c2 f1 f2) (g := mkF mid pc C (List.map (qv ad) (as.reverse ++ rest))) rfl hC (argsL := as.map (qv ad)) (rest := rest.map (qv ad)) (sig_len hkN hna) (by simp) (by show 2 * 0 + _ ≤ _; rw [cats_qv]; omega) hd2 (fun _ _ => ⟨rfl, rfl, hc1, hsl⟩)
 dsimp only [Pt.U, Pt.locs, Pt.cells, Pt.slots] at X₁ l₁ y₁ z₁ st hR1
 subst l₁ y₁ z₁
 exact ⟨T₁, Lc, X₁, hR1, hF1, fun target q => st target q⟩
set_option maxHeartbeats 4000000 in
theorem QTri.callO (W : QW Z a0) {pc idx k a : Nat} {L : QLoc} {rest : List Value} {σ : QHeap} (hc : pCode m pc = some (.invokespecial idx, k)) (hm : lkO.contains (pK m, idx) = true) (hroom : (Nat.ble 1 (pFr m) && Nat.ble ((rest.map fun v => v.category).sum + 12) (pLo m)) = true)
  (h : QTri l Z n0 ad m (pc + 3, L, rest, σ) v σ') : QTri l Z n0 ad m (pc, L, .ref a :: rest, σ) v σ' :=
 have hd : decode (pBytes m) pc = .ok (.invokespecial idx, 3) := pDecN hc rfl
 QTri.pure h rfl fun p e R s mid args below meth c T locs cells slots C hcx X hR hL hC => by
  obtain ⟨hx, hZ, hby, hml, hret', hown, hnm, hfr, hlo⟩ := hcx
  have hd2 : decode c.code pc = .ok (.invokespecial idx, 3) := by rw [hby]; exact hd
  obtain ⟨q1, q2⟩ := Bool.and_eq_true_iff.mp hroom
  obtain ⟨T₁, X₁, e₁, st⟩ := initO X hx hZ hown (idx := idx) (qw_mo W (pK m, idx) (mem_of_contains hm)) ((qw_oi W)) ((qw_oc W)) rfl (g := mkF mid pc C (List.map (qv ad) (.ref a :: rest))) rfl hC rfl hd2 (Nat.le_trans (Nat.le_of_ble_eq_true q1) hfr) (W := (rest.map fun v => v.category).sum) (by show 2 * 0 + _ ≤ _; rw [cats_qv]; omega) (Nat.le_trans (Nat.le_of_ble_eq_true q2) hlo)
  exact ⟨T₁, C, X₁, e₁, hL, hC, st⟩
theorem QTri.brT (Ad : QAd n0 ad) (W : QW Z a0) {st : QSt} {t f : Nat} {L : QLoc} {S : List Value} {σ : QHeap} {b : Bool} (hs : qstep m st = some (bif b then t else f, L, S, σ)) (hb : b = true) (h : QTri l Z n0 ad m (t, L, S, σ) v σ') : QTri l Z n0 ad m st v σ' := by
 subst hb; exact QTri.step Ad W h hs
theorem QTri.brF (Ad : QAd n0 ad) (W : QW Z a0) {st : QSt} {t f : Nat} {L : QLoc} {S : List Value} {σ : QHeap} {b : Bool} (hs : qstep m st = some (bif b then t else f, L, S, σ)) (hb : b = false) (h : QTri l Z n0 ad m (f, L, S, σ) v σ') : QTri l Z n0 ad m st v σ' := by
 subst hb; exact QTri.step Ad W h hs
theorem QTri.bnd {α : Type} (Ad : QAd n0 ad) (W : QW Z a0) {st : QSt} {x : Option α} {f : α → QSt} {a : α} (hs : qstep m st = x.bind fun v => some (f v)) (hx : x = some a) (h : QTri l Z n0 ad m (f a) v σ') : QTri l Z n0 ad m st v σ' :=
 QTri.step Ad W h (by rw [hs, hx]; rfl)
theorem QTri.bndB (Ad : QAd n0 ad) (W : QW Z a0) {st : QSt} {x y : Int32} {g : Value → QSt} (hs : qstep m st = ((qboo x).bind fun y => some (Value.int y)).bind fun w => some (g w)) (hx : qboo x = some y) (h : QTri l Z n0 ad m (g (.int y)) v σ') : QTri l Z n0 ad m st v σ' :=
 QTri.step Ad W h (by rw [hs, hx]; rfl)
end Triples
theorem qite {α : Type} {c : Prop} [Decidable c] {a b : Option α} {r : α} (h : (if c then a else b) = some r) : (c ∧ a = some r) ∨ (¬ c ∧ b = some r) := by
 by_cases hc : c
 ·exact Or.inl ⟨hc, by rwa [if_pos hc] at h⟩
 ·exact Or.inr ⟨hc, by rwa [if_neg hc] at h⟩
def qN : Nat := 4000
def loopN {V E : Type} (B : V → Option (E ⊕ V)) : Nat → V → Option E
 | 0, _ => none
 | n + 1, v => match B v with
  | none => none
  | some (.inl e) => some e
  | some (.inr v') => loopN B n v'
theorem loopN_tri {V E : Type} {B : V → Option (E ⊕ V)} {T : V → Prop} {KE : E → Prop} (hB : ∀ v r, B v = some r → (∀ e, r = .inl e → KE e) → (∀ v', r = .inr v' → T v') → T v) : ∀ (n : Nat) (v : V) (e : E), loopN B n v = some e → KE e → T v
 | 0, _, _, h, _ => by cases h
 | n + 1, v, e, h, k => by
  simp only [loopN] at h
  split at h
  ·cases h
  ·rename_i e' he
   cases h
   exact hB v _ he (fun e q => by cases q; exact k) (fun v' q => by cases q)
  ·rename_i v' he
   exact hB v _ he (fun e q => by cases q) (fun v'' q => by cases q; exact loopN_tri hB n v' e h k)
theorem loopN_inv {V E : Type} {B : V → Option (E ⊕ V)} (I : V → Prop) (P : E → Prop) (μ : V → Nat) (hB : ∀ v, I v → (∃ e, B v = some (.inl e) ∧ P e) ∨ ∃ v', B v = some (.inr v') ∧ I v' ∧ μ v' < μ v) : ∀ (n : Nat) (v : V), I v → μ v < n → ∃ e, loopN B n v = some e ∧ P e
 | 0, _, _, h => absurd h (Nat.not_lt_zero _)
 | n + 1, v, hv, hm => by
  rcases hB v hv with ⟨e, h1, h2⟩ | ⟨v', h1, h2, h3⟩
  ·exact ⟨e, by simp only [loopN, h1], h2⟩
  ·obtain ⟨e, g1, g2⟩ := loopN_inv I P μ hB n v' h2 (by omega)
   exact ⟨e, by simp only [loopN, h1]; exact g1, g2⟩
theorem qfn {α : Type} {P : α → Prop} : ∀ t ∈ ([] : List α), P t := fun _ h => nomatch h
theorem qfc {α : Type} {P : α → Prop} {a : α} {t : List α} (h : P a) (ht : ∀ x ∈ t, P x) : ∀ x ∈ a :: t, P x := fun x hx => by rcases List.mem_cons.mp hx with rfl | q; exact h; exact ht x q
theorem QW_ok {Z : State} {a0 : Array Value} (hw : ∀ d ∈ tables_1, d.before a0 Z = true) : QW Z a0 := by
  have w0 : ∀ k ∈ List.range nF, bif fFin k then (Jvm.Cond.laysFinal cName cName (fNm k) (fDs k)).before a0 Z = true else (Jvm.Cond.lays cName cName (fNm k) (fDs k)).before a0 Z = true :=
    show ∀ k ∈ [0, 1, 2, 3, 4, 5, 6, 7, 8, 9, 10, 11, 12], bif fFin k then (Jvm.Cond.laysFinal cName cName (fNm k) (fDs k)).before a0 Z = true else (Jvm.Cond.lays cName cName (fNm k) (fDs k)).before a0 Z = true from
    (qfc (hw _ (List.mem_of_getElem? (i := 11) rfl)) (qfc (hw _ (List.mem_of_getElem? (i := 13) rfl)) (qfc (hw _ (List.mem_of_getElem? (i := 16) rfl)) (qfc (hw _ (List.mem_of_getElem? (i := 18) rfl)) (qfc (hw _ (List.mem_of_getElem? (i := 20) rfl)) (qfc (hw _ (List.mem_of_getElem? (i := 22) rfl)) (qfc (hw _ (List.mem_of_getElem? (i := 24) rfl)) (qfc (hw _ (List.mem_of_getElem? (i := 30) rfl)) (qfc (hw _ (List.mem_of_getElem? (i := 32) rfl)) (qfc (hw _ (List.mem_of_getElem? (i := 34) rfl)) (qfc (hw _ (List.mem_of_getElem? (i := 36) rfl)) (qfc (hw _ (List.mem_of_getElem? (i := 38) rfl)) (qfc (hw _ (List.mem_of_getElem? (i := 40) rfl)) qfn)))))))))))))
  refine ⟨?_, ?_, ?_, ?_, ?_, ?_, ?_, ?_, ?_, ?_, ?_, ?_, ?_, (fun k hk => w0 k (List.mem_range.mpr hk)), ?_, ?_, ?_⟩
  · exact (qfc (hw _ (List.mem_of_getElem? (i := 10) rfl)) (qfc (hw _ (List.mem_of_getElem? (i := 12) rfl)) (qfc (hw _ (List.mem_of_getElem? (i := 15) rfl)) (qfc (hw _ (List.mem_of_getElem? (i := 17) rfl)) (qfc (hw _ (List.mem_of_getElem? (i := 19) rfl)) (qfc (hw _ (List.mem_of_getElem? (i := 21) rfl)) (qfc (hw _ (List.mem_of_getElem? (i := 23) rfl)) (qfc (hw _ (List.mem_of_getElem? (i := 29) rfl)) (qfc (hw _ (List.mem_of_getElem? (i := 31) rfl)) (qfc (hw _ (List.mem_of_getElem? (i := 33) rfl)) (qfc (hw _ (List.mem_of_getElem? (i := 35) rfl)) (qfc (hw _ (List.mem_of_getElem? (i := 37) rfl)) (qfc (hw _ (List.mem_of_getElem? (i := 39) rfl)) qfn)))))))))))))
  · exact (qfc (hw _ (List.mem_of_getElem? (i := 0) rfl)) qfn)
  · exact qfn
  · exact qfn
  · exact (qfc (hw _ (List.mem_of_getElem? (i := 3) rfl)) (qfc (hw _ (List.mem_of_getElem? (i := 25) rfl)) (qfc (hw _ (List.mem_of_getElem? (i := 41) rfl)) (qfc (hw _ (List.mem_of_getElem? (i := 46) rfl)) (qfc (hw _ (List.mem_of_getElem? (i := 50) rfl)) (qfc (hw _ (List.mem_of_getElem? (i := 54) rfl)) (qfc (hw _ (List.mem_of_getElem? (i := 58) rfl)) (qfc (hw _ (List.mem_of_getElem? (i := 63) rfl)) (qfc (hw _ (List.mem_of_getElem? (i := 67) rfl)) (qfc (hw _ (List.mem_of_getElem? (i := 71) rfl)) (qfc (hw _ (List.mem_of_getElem? (i := 75) rfl)) (qfc (hw _ (List.mem_of_getElem? (i := 80) rfl)) (qfc (hw _ (List.mem_of_getElem? (i := 84) rfl)) (qfc (hw _ (List.mem_of_getElem? (i := 89) rfl)) (qfc (hw _ (List.mem_of_getElem? (i := 93) rfl)) (qfc (hw _ (List.mem_of_getElem? (i := 97) rfl)) (qfc (hw _ (List.mem_of_getElem? (i := 101) rfl)) (qfc (hw _ (List.mem_of_getElem? (i := 105) rfl)) (qfc (hw _ (List.mem_of_getElem? (i := 109) rfl)) (qfc (hw _ (List.mem_of_getElem? (i := 114) rfl)) (qfc (hw _ (List.mem_of_getElem? (i := 119) rfl)) (qfc (hw _ (List.mem_of_getElem? (i := 124) rfl)) (qfc (hw _ (List.mem_of_getElem? (i := 129) rfl)) (qfc (hw _ (List.mem_of_getElem? (i := 134) rfl)) qfn))))))))))))))))))))))))
  · exact (qfc (hw _ (List.mem_of_getElem? (i := 6) rfl)) qfn)
  · exact (qfc ⟨(hw _ (List.mem_of_getElem? (i := 42) rfl)), (hw _ (List.mem_of_getElem? (i := 44) rfl)), (hw _ (List.mem_of_getElem? (i := 43) rfl))⟩ (qfc ⟨(hw _ (List.mem_of_getElem? (i := 59) rfl)), (hw _ (List.mem_of_getElem? (i := 61) rfl)), (hw _ (List.mem_of_getElem? (i := 60) rfl))⟩ (qfc ⟨(hw _ (List.mem_of_getElem? (i := 76) rfl)), (hw _ (List.mem_of_getElem? (i := 78) rfl)), (hw _ (List.mem_of_getElem? (i := 77) rfl))⟩ (qfc ⟨(hw _ (List.mem_of_getElem? (i := 85) rfl)), (hw _ (List.mem_of_getElem? (i := 87) rfl)), (hw _ (List.mem_of_getElem? (i := 86) rfl))⟩ (qfc ⟨(hw _ (List.mem_of_getElem? (i := 110) rfl)), (hw _ (List.mem_of_getElem? (i := 112) rfl)), (hw _ (List.mem_of_getElem? (i := 111) rfl))⟩ (qfc ⟨(hw _ (List.mem_of_getElem? (i := 115) rfl)), (hw _ (List.mem_of_getElem? (i := 117) rfl)), (hw _ (List.mem_of_getElem? (i := 116) rfl))⟩ (qfc ⟨(hw _ (List.mem_of_getElem? (i := 120) rfl)), (hw _ (List.mem_of_getElem? (i := 122) rfl)), (hw _ (List.mem_of_getElem? (i := 121) rfl))⟩ (qfc ⟨(hw _ (List.mem_of_getElem? (i := 125) rfl)), (hw _ (List.mem_of_getElem? (i := 127) rfl)), (hw _ (List.mem_of_getElem? (i := 126) rfl))⟩ (qfc ⟨(hw _ (List.mem_of_getElem? (i := 130) rfl)), (hw _ (List.mem_of_getElem? (i := 132) rfl)), (hw _ (List.mem_of_getElem? (i := 131) rfl))⟩ (qfc ⟨(hw _ (List.mem_of_getElem? (i := 135) rfl)), (hw _ (List.mem_of_getElem? (i := 137) rfl)), (hw _ (List.mem_of_getElem? (i := 136) rfl))⟩ qfn))))))))))
  · exact (qfc ⟨(hw _ (List.mem_of_getElem? (i := 26) rfl)), (hw _ (List.mem_of_getElem? (i := 27) rfl))⟩ (qfc ⟨(hw _ (List.mem_of_getElem? (i := 47) rfl)), (hw _ (List.mem_of_getElem? (i := 48) rfl))⟩ (qfc ⟨(hw _ (List.mem_of_getElem? (i := 51) rfl)), (hw _ (List.mem_of_getElem? (i := 52) rfl))⟩ (qfc ⟨(hw _ (List.mem_of_getElem? (i := 55) rfl)), (hw _ (List.mem_of_getElem? (i := 56) rfl))⟩ (qfc ⟨(hw _ (List.mem_of_getElem? (i := 64) rfl)), (hw _ (List.mem_of_getElem? (i := 65) rfl))⟩ (qfc ⟨(hw _ (List.mem_of_getElem? (i := 68) rfl)), (hw _ (List.mem_of_getElem? (i := 69) rfl))⟩ (qfc ⟨(hw _ (List.mem_of_getElem? (i := 72) rfl)), (hw _ (List.mem_of_getElem? (i := 73) rfl))⟩ (qfc ⟨(hw _ (List.mem_of_getElem? (i := 81) rfl)), (hw _ (List.mem_of_getElem? (i := 82) rfl))⟩ (qfc ⟨(hw _ (List.mem_of_getElem? (i := 90) rfl)), (hw _ (List.mem_of_getElem? (i := 91) rfl))⟩ (qfc ⟨(hw _ (List.mem_of_getElem? (i := 94) rfl)), (hw _ (List.mem_of_getElem? (i := 95) rfl))⟩ (qfc ⟨(hw _ (List.mem_of_getElem? (i := 98) rfl)), (hw _ (List.mem_of_getElem? (i := 99) rfl))⟩ (qfc ⟨(hw _ (List.mem_of_getElem? (i := 102) rfl)), (hw _ (List.mem_of_getElem? (i := 103) rfl))⟩ (qfc ⟨(hw _ (List.mem_of_getElem? (i := 106) rfl)), (hw _ (List.mem_of_getElem? (i := 107) rfl))⟩ qfn)))))))))))))
  · exact qfn
  · exact (qfc (hw _ (List.mem_of_getElem? (i := 4) rfl)) qfn)
  · exact (qfc ⟨(hw _ (List.mem_of_getElem? (i := 5) rfl)), (hw _ (List.mem_of_getElem? (i := 2) rfl))⟩ (qfc ⟨(hw _ (List.mem_of_getElem? (i := 28) rfl)), (hw _ (List.mem_of_getElem? (i := 2) rfl))⟩ (qfc ⟨(hw _ (List.mem_of_getElem? (i := 45) rfl)), (hw _ (List.mem_of_getElem? (i := 2) rfl))⟩ (qfc ⟨(hw _ (List.mem_of_getElem? (i := 49) rfl)), (hw _ (List.mem_of_getElem? (i := 2) rfl))⟩ (qfc ⟨(hw _ (List.mem_of_getElem? (i := 53) rfl)), (hw _ (List.mem_of_getElem? (i := 2) rfl))⟩ (qfc ⟨(hw _ (List.mem_of_getElem? (i := 57) rfl)), (hw _ (List.mem_of_getElem? (i := 2) rfl))⟩ (qfc ⟨(hw _ (List.mem_of_getElem? (i := 62) rfl)), (hw _ (List.mem_of_getElem? (i := 2) rfl))⟩ (qfc ⟨(hw _ (List.mem_of_getElem? (i := 66) rfl)), (hw _ (List.mem_of_getElem? (i := 2) rfl))⟩ (qfc ⟨(hw _ (List.mem_of_getElem? (i := 70) rfl)), (hw _ (List.mem_of_getElem? (i := 2) rfl))⟩ (qfc ⟨(hw _ (List.mem_of_getElem? (i := 74) rfl)), (hw _ (List.mem_of_getElem? (i := 2) rfl))⟩ (qfc ⟨(hw _ (List.mem_of_getElem? (i := 79) rfl)), (hw _ (List.mem_of_getElem? (i := 2) rfl))⟩ (qfc ⟨(hw _ (List.mem_of_getElem? (i := 83) rfl)), (hw _ (List.mem_of_getElem? (i := 2) rfl))⟩ (qfc ⟨(hw _ (List.mem_of_getElem? (i := 88) rfl)), (hw _ (List.mem_of_getElem? (i := 2) rfl))⟩ (qfc ⟨(hw _ (List.mem_of_getElem? (i := 92) rfl)), (hw _ (List.mem_of_getElem? (i := 2) rfl))⟩ (qfc ⟨(hw _ (List.mem_of_getElem? (i := 96) rfl)), (hw _ (List.mem_of_getElem? (i := 2) rfl))⟩ (qfc ⟨(hw _ (List.mem_of_getElem? (i := 100) rfl)), (hw _ (List.mem_of_getElem? (i := 2) rfl))⟩ (qfc ⟨(hw _ (List.mem_of_getElem? (i := 104) rfl)), (hw _ (List.mem_of_getElem? (i := 2) rfl))⟩ (qfc ⟨(hw _ (List.mem_of_getElem? (i := 108) rfl)), (hw _ (List.mem_of_getElem? (i := 2) rfl))⟩ (qfc ⟨(hw _ (List.mem_of_getElem? (i := 113) rfl)), (hw _ (List.mem_of_getElem? (i := 2) rfl))⟩ (qfc ⟨(hw _ (List.mem_of_getElem? (i := 118) rfl)), (hw _ (List.mem_of_getElem? (i := 2) rfl))⟩ (qfc ⟨(hw _ (List.mem_of_getElem? (i := 123) rfl)), (hw _ (List.mem_of_getElem? (i := 2) rfl))⟩ (qfc ⟨(hw _ (List.mem_of_getElem? (i := 128) rfl)), (hw _ (List.mem_of_getElem? (i := 2) rfl))⟩ (qfc ⟨(hw _ (List.mem_of_getElem? (i := 133) rfl)), (hw _ (List.mem_of_getElem? (i := 2) rfl))⟩ (qfc ⟨(hw _ (List.mem_of_getElem? (i := 138) rfl)), (hw _ (List.mem_of_getElem? (i := 2) rfl))⟩ qfn))))))))))))))))))))))))
  · exact (hw _ (List.mem_of_getElem? (i := 7) rfl))
  · exact (hw _ (List.mem_of_getElem? (i := 8) rfl))
  · exact (hw _ (List.mem_of_getElem? (i := 1) rfl))
  · exact (hw _ (List.mem_of_getElem? (i := 2) rfl))
  · exact (qfc (hw _ (List.mem_of_getElem? (i := 9) rfl)) (qfc (hw _ (List.mem_of_getElem? (i := 14) rfl)) qfn))
abbrev Ob := List Int32 × List Int32 × List Int32 × List Int32 × List Int32 × List Int32 × List Int32 × Int32 × Int32 × Int32 × Int32 × Int32 × Int32
def f_value (o : Ob) : List Int32 := o.1
def f_version (o : Ob) : List Int32 := o.2.1
def f_active (o : Ob) : List Int32 := o.2.2.1
def f_start (o : Ob) : List Int32 := o.2.2.2.1
def f_readSet (o : Ob) : List Int32 := o.2.2.2.2.1
def f_writeSet (o : Ob) : List Int32 := o.2.2.2.2.2.1
def f_buffered (o : Ob) : List Int32 := o.2.2.2.2.2.2.1
def f_keyCount (o : Ob) : Int32 := o.2.2.2.2.2.2.2.1
def f_slotCount (o : Ob) : Int32 := o.2.2.2.2.2.2.2.2.1
def f_window (o : Ob) : Int32 := o.2.2.2.2.2.2.2.2.2.1
def f_commitCount (o : Ob) : Int32 := o.2.2.2.2.2.2.2.2.2.2.1
def f_abortCount (o : Ob) : Int32 := o.2.2.2.2.2.2.2.2.2.2.2.1
def f_lastConflict (o : Ob) : Int32 := o.2.2.2.2.2.2.2.2.2.2.2.2
def s_value (o : Ob) (v : List Int32) : Ob := (v, o.2.1, o.2.2.1, o.2.2.2.1, o.2.2.2.2.1, o.2.2.2.2.2.1, o.2.2.2.2.2.2.1, o.2.2.2.2.2.2.2.1, o.2.2.2.2.2.2.2.2.1, o.2.2.2.2.2.2.2.2.2.1, o.2.2.2.2.2.2.2.2.2.2.1, o.2.2.2.2.2.2.2.2.2.2.2.1, o.2.2.2.2.2.2.2.2.2.2.2.2)
def s_version (o : Ob) (v : List Int32) : Ob := (o.1, v, o.2.2.1, o.2.2.2.1, o.2.2.2.2.1, o.2.2.2.2.2.1, o.2.2.2.2.2.2.1, o.2.2.2.2.2.2.2.1, o.2.2.2.2.2.2.2.2.1, o.2.2.2.2.2.2.2.2.2.1, o.2.2.2.2.2.2.2.2.2.2.1, o.2.2.2.2.2.2.2.2.2.2.2.1, o.2.2.2.2.2.2.2.2.2.2.2.2)
def s_active (o : Ob) (v : List Int32) : Ob := (o.1, o.2.1, v, o.2.2.2.1, o.2.2.2.2.1, o.2.2.2.2.2.1, o.2.2.2.2.2.2.1, o.2.2.2.2.2.2.2.1, o.2.2.2.2.2.2.2.2.1, o.2.2.2.2.2.2.2.2.2.1, o.2.2.2.2.2.2.2.2.2.2.1, o.2.2.2.2.2.2.2.2.2.2.2.1, o.2.2.2.2.2.2.2.2.2.2.2.2)
def s_start (o : Ob) (v : List Int32) : Ob := (o.1, o.2.1, o.2.2.1, v, o.2.2.2.2.1, o.2.2.2.2.2.1, o.2.2.2.2.2.2.1, o.2.2.2.2.2.2.2.1, o.2.2.2.2.2.2.2.2.1, o.2.2.2.2.2.2.2.2.2.1, o.2.2.2.2.2.2.2.2.2.2.1, o.2.2.2.2.2.2.2.2.2.2.2.1, o.2.2.2.2.2.2.2.2.2.2.2.2)
def s_readSet (o : Ob) (v : List Int32) : Ob := (o.1, o.2.1, o.2.2.1, o.2.2.2.1, v, o.2.2.2.2.2.1, o.2.2.2.2.2.2.1, o.2.2.2.2.2.2.2.1, o.2.2.2.2.2.2.2.2.1, o.2.2.2.2.2.2.2.2.2.1, o.2.2.2.2.2.2.2.2.2.2.1, o.2.2.2.2.2.2.2.2.2.2.2.1, o.2.2.2.2.2.2.2.2.2.2.2.2)
def s_writeSet (o : Ob) (v : List Int32) : Ob := (o.1, o.2.1, o.2.2.1, o.2.2.2.1, o.2.2.2.2.1, v, o.2.2.2.2.2.2.1, o.2.2.2.2.2.2.2.1, o.2.2.2.2.2.2.2.2.1, o.2.2.2.2.2.2.2.2.2.1, o.2.2.2.2.2.2.2.2.2.2.1, o.2.2.2.2.2.2.2.2.2.2.2.1, o.2.2.2.2.2.2.2.2.2.2.2.2)
def s_buffered (o : Ob) (v : List Int32) : Ob := (o.1, o.2.1, o.2.2.1, o.2.2.2.1, o.2.2.2.2.1, o.2.2.2.2.2.1, v, o.2.2.2.2.2.2.2.1, o.2.2.2.2.2.2.2.2.1, o.2.2.2.2.2.2.2.2.2.1, o.2.2.2.2.2.2.2.2.2.2.1, o.2.2.2.2.2.2.2.2.2.2.2.1, o.2.2.2.2.2.2.2.2.2.2.2.2)
def s_keyCount (o : Ob) (v : Int32) : Ob := (o.1, o.2.1, o.2.2.1, o.2.2.2.1, o.2.2.2.2.1, o.2.2.2.2.2.1, o.2.2.2.2.2.2.1, v, o.2.2.2.2.2.2.2.2.1, o.2.2.2.2.2.2.2.2.2.1, o.2.2.2.2.2.2.2.2.2.2.1, o.2.2.2.2.2.2.2.2.2.2.2.1, o.2.2.2.2.2.2.2.2.2.2.2.2)
def s_slotCount (o : Ob) (v : Int32) : Ob := (o.1, o.2.1, o.2.2.1, o.2.2.2.1, o.2.2.2.2.1, o.2.2.2.2.2.1, o.2.2.2.2.2.2.1, o.2.2.2.2.2.2.2.1, v, o.2.2.2.2.2.2.2.2.2.1, o.2.2.2.2.2.2.2.2.2.2.1, o.2.2.2.2.2.2.2.2.2.2.2.1, o.2.2.2.2.2.2.2.2.2.2.2.2)
def s_window (o : Ob) (v : Int32) : Ob := (o.1, o.2.1, o.2.2.1, o.2.2.2.1, o.2.2.2.2.1, o.2.2.2.2.2.1, o.2.2.2.2.2.2.1, o.2.2.2.2.2.2.2.1, o.2.2.2.2.2.2.2.2.1, v, o.2.2.2.2.2.2.2.2.2.2.1, o.2.2.2.2.2.2.2.2.2.2.2.1, o.2.2.2.2.2.2.2.2.2.2.2.2)
def s_commitCount (o : Ob) (v : Int32) : Ob := (o.1, o.2.1, o.2.2.1, o.2.2.2.1, o.2.2.2.2.1, o.2.2.2.2.2.1, o.2.2.2.2.2.2.1, o.2.2.2.2.2.2.2.1, o.2.2.2.2.2.2.2.2.1, o.2.2.2.2.2.2.2.2.2.1, v, o.2.2.2.2.2.2.2.2.2.2.2.1, o.2.2.2.2.2.2.2.2.2.2.2.2)
def s_abortCount (o : Ob) (v : Int32) : Ob := (o.1, o.2.1, o.2.2.1, o.2.2.2.1, o.2.2.2.2.1, o.2.2.2.2.2.1, o.2.2.2.2.2.2.1, o.2.2.2.2.2.2.2.1, o.2.2.2.2.2.2.2.2.1, o.2.2.2.2.2.2.2.2.2.1, o.2.2.2.2.2.2.2.2.2.2.1, v, o.2.2.2.2.2.2.2.2.2.2.2.2)
def s_lastConflict (o : Ob) (v : Int32) : Ob := (o.1, o.2.1, o.2.2.1, o.2.2.2.1, o.2.2.2.2.1, o.2.2.2.2.2.1, o.2.2.2.2.2.2.1, o.2.2.2.2.2.2.2.1, o.2.2.2.2.2.2.2.2.1, o.2.2.2.2.2.2.2.2.2.1, o.2.2.2.2.2.2.2.2.2.2.1, o.2.2.2.2.2.2.2.2.2.2.2.1, v)
theorem fs (o : Ob) : f_value o = o.1 ∧ f_version o = o.2.1 ∧ f_active o = o.2.2.1 ∧ f_start o = o.2.2.2.1 ∧ f_readSet o = o.2.2.2.2.1 ∧ f_writeSet o = o.2.2.2.2.2.1 ∧ f_buffered o = o.2.2.2.2.2.2.1 ∧ f_keyCount o = o.2.2.2.2.2.2.2.1 ∧ f_slotCount o = o.2.2.2.2.2.2.2.2.1 ∧ f_window o = o.2.2.2.2.2.2.2.2.2.1 ∧ f_commitCount o = o.2.2.2.2.2.2.2.2.2.2.1 ∧ f_abortCount o = o.2.2.2.2.2.2.2.2.2.2.2.1 ∧ f_lastConflict o = o.2.2.2.2.2.2.2.2.2.2.2.2 := by simp only [f_value, f_version, f_active, f_start, f_readSet, f_writeSet, f_buffered, f_keyCount, f_slotCount, f_window, f_commitCount, f_abortCount, f_lastConflict, and_self]
def ob0 : Ob := ([], [], [], [], [], [], [], 0, 0, 0, 0, 0, 0)
section Walks
variable {l : Launch} {Z : State} {n0 : Nat} {ad : Nat → Addr} {a0 : Array Value}
set_option maxRecDepth 20000
abbrev tt : Bool := true
abbrev ff : Bool := false
open QTri renaming steps → zS, brT → zT, brF → zF, bnd → zB, mask → zM
open Option (bind_eq_some_iff)
open Classical (em)
def H0 (o0 : Ob) : QHeap := [.inl [.ref 1, .ref 2, .ref 3, .ref 4, .ref 5, .ref 6, .ref 7, .int (f_keyCount o0), .int (f_slotCount o0), .int (f_window o0), .int (f_commitCount o0), .int (f_abortCount o0), .int (f_lastConflict o0)], .inr (.inl (.int, (f_value o0))), .inr (.inl (.int, (f_version o0))), .inr (.inl (.boolean, (f_active o0))), .inr (.inl (.int, (f_start o0))), .inr (.inl (.int, (f_readSet o0))), .inr (.inl (.int, (f_writeSet o0))), .inr (.inl (.int, (f_buffered o0)))]
def H0v (a0_0 : List Int32) (a0_1 : List Int32) (a0_2 : List Int32) (a0_3 : List Int32) (a0_4 : List Int32) (a0_5 : List Int32) (a0_6 : List Int32) (a0_7 : Int32) (a0_8 : Int32) (a0_9 : Int32) (a0_10 : Int32) (a0_11 : Int32) (a0_12 : Int32) : QHeap := [.inl [.ref 1, .ref 2, .ref 3, .ref 4, .ref 5, .ref 6, .ref 7, .int a0_7, .int a0_8, .int a0_9, .int a0_10, .int a0_11, .int a0_12], .inr (.inl (.int, a0_0)), .inr (.inl (.int, a0_1)), .inr (.inl (.boolean, a0_2)), .inr (.inl (.int, a0_3)), .inr (.inl (.int, a0_4)), .inr (.inl (.int, a0_5)), .inr (.inl (.int, a0_6))]
def H0x0 (o0 : Ob) (a0_0 : List Int32) (a0_1 : List Int32) (a0_2 : List Int32) (a0_3 : List Int32) (a0_4 : List Int32) (a0_5 : List Int32) (a0_6 : List Int32) : QHeap := H0v a0_0 a0_1 a0_2 a0_3 a0_4 a0_5 a0_6 (f_keyCount o0) (f_slotCount o0) (f_window o0) (f_commitCount o0) (f_abortCount o0) (f_lastConflict o0)
/-- clamp(III)I -/
def F2 (x1 : Int32) (x2 : Int32) (x3 : Int32) : Option (Int32) :=
 (if x1 < x2 then some x2 else (if x3 < x1 then some x3 else some x1))
theorem tF2 (Ad : QAd n0 ad) (W : QW Z a0) {a : Nat} {σ : QHeap} (x1 : Int32) (x2 : Int32) (x3 : Int32) {r : Int32} (h : F2 x1 x2 x3 = some r) : QTri l Z n0 ad 2 (0, qentry [.ref a, .int x1, .int x2, .int x3] (pMaxL 2), [], σ) (some (Value.int r)) σ := by
 unfold F2 at h
 refine zS Ad W 2 (st' := (2, [vR a, vI x1, vI x2, vI x3], [.int x2, .int x1], σ)) rfl ?_
 rcases qite h with ⟨hc1, h⟩ | ⟨hc1, h⟩
 ·refine zF Ad W (t := 7) (f := 5) rfl (XT.ii_ge_f hc1) ?_
  refine zS Ad W 1 (st' := (6, [vR a, vI x1, vI x2, vI x3], [.int x2], σ)) rfl ?_
  obtain rfl := Option.some.inj h
  exact QTri.retI rfl rfl
 ·refine zT Ad W (t := 7) (f := 5) rfl (XT.ii_ge_t hc1) ?_
  refine zS Ad W 2 (st' := (9, [vR a, vI x1, vI x2, vI x3], [.int x3, .int x1], σ)) rfl ?_
  rcases qite h with ⟨hc2, h⟩ | ⟨hc2, h⟩
  ·refine zF Ad W (t := 14) (f := 12) rfl (XT.ii_le_f hc2) ?_
   refine zS Ad W 1 (st' := (13, [vR a, vI x1, vI x2, vI x3], [.int x3], σ)) rfl ?_
   obtain rfl := Option.some.inj h
   exact QTri.retI rfl rfl
  ·refine zT Ad W (t := 14) (f := 12) rfl (XT.ii_le_t hc2) ?_
   refine zS Ad W 1 (st' := (15, [vR a, vI x1, vI x2, vI x3], [.int x1], σ)) rfl ?_
   obtain rfl := Option.some.inj h
   exact QTri.retI rfl rfl
def H0x1 (o0 : Ob) (a0_0 : List Int32) (a0_1 : List Int32) (a0_2 : List Int32) (a0_3 : List Int32) (a0_4 : List Int32) (a0_5 : List Int32) (a0_6 : List Int32) (a0_7 : Int32) : QHeap := H0v a0_0 a0_1 a0_2 a0_3 a0_4 a0_5 a0_6 a0_7 (f_slotCount o0) (f_window o0) (f_commitCount o0) (f_abortCount o0) (f_lastConflict o0)
def H0x2 (o0 : Ob) (a0_0 : List Int32) (a0_1 : List Int32) (a0_2 : List Int32) (a0_3 : List Int32) (a0_4 : List Int32) (a0_5 : List Int32) (a0_6 : List Int32) (a0_7 : Int32) (a0_8 : Int32) : QHeap := H0v a0_0 a0_1 a0_2 a0_3 a0_4 a0_5 a0_6 a0_7 a0_8 (f_window o0) (f_commitCount o0) (f_abortCount o0) (f_lastConflict o0)
def H0x3 (o0 : Ob) (a0_0 : List Int32) (a0_1 : List Int32) (a0_2 : List Int32) (a0_3 : List Int32) (a0_4 : List Int32) (a0_5 : List Int32) (a0_6 : List Int32) (a0_7 : Int32) (a0_8 : Int32) (a0_9 : Int32) : QHeap := H0v a0_0 a0_1 a0_2 a0_3 a0_4 a0_5 a0_6 a0_7 a0_8 a0_9 (f_commitCount o0) (f_abortCount o0) (f_lastConflict o0)
def H0x4 (o0 : Ob) (a0_0 : List Int32) (a0_1 : List Int32) (a0_2 : List Int32) (a0_3 : List Int32) (a0_4 : List Int32) (a0_5 : List Int32) (a0_6 : List Int32) (a0_7 : Int32) (a0_8 : Int32) (a0_9 : Int32) (a0_10 : Int32) : QHeap := H0v a0_0 a0_1 a0_2 a0_3 a0_4 a0_5 a0_6 a0_7 a0_8 a0_9 a0_10 (f_abortCount o0) (f_lastConflict o0)
def H0x5 (o0 : Ob) (a0_0 : List Int32) (a0_1 : List Int32) (a0_2 : List Int32) (a0_3 : List Int32) (a0_4 : List Int32) (a0_5 : List Int32) (a0_6 : List Int32) (a0_7 : Int32) (a0_8 : Int32) (a0_9 : Int32) (a0_10 : Int32) (a0_11 : Int32) : QHeap := H0v a0_0 a0_1 a0_2 a0_3 a0_4 a0_5 a0_6 a0_7 a0_8 a0_9 a0_10 a0_11 (f_lastConflict o0)
def H0x6 (o0 : Ob) (a0_0 : List Int32) (a0_1 : List Int32) (a0_2 : List Int32) (a0_3 : List Int32) (a0_4 : List Int32) (a0_5 : List Int32) (a0_6 : List Int32) (a0_7 : Int32) (a0_8 : Int32) (a0_9 : Int32) (a0_10 : Int32) (a0_11 : Int32) (a0_12 : Int32) : QHeap := H0v a0_0 a0_1 a0_2 a0_3 a0_4 a0_5 a0_6 a0_7 a0_8 a0_9 a0_10 a0_11 a0_12
/-- init(III)V -/
def F1 (x1 : Int32) (x2 : Int32) (x3 : Int32) : Option (Ob) :=
 (F2 x1 (8:Int32) (32:Int32)).bind fun r3 => (F2 x2 (2:Int32) (8:Int32)).bind fun r4 => (F2 x3 (2:Int32) (16:Int32)).bind fun r5 => some (s_lastConflict (s_abortCount (s_commitCount (s_window (s_slotCount (s_keyCount (s_buffered (s_writeSet (s_readSet (s_start (s_active (s_version (s_value ob0 (List.replicate 32 0)) (List.replicate 32 0)) (List.replicate 8 0)) (List.replicate 8 0)) (List.replicate 8 0)) (List.replicate 8 0)) (List.replicate 256 0)) r3) r4) r5) (0:Int32)) (0:Int32)) (-1:Int32))
theorem tF1 (Ad : QAd n0 ad) (W : QW Z a0) (x1 : Int32) (x2 : Int32) (x3 : Int32) {r : Ob} (h : F1 x1 x2 x3 = some r) : QTri l Z n0 ad 1 (0, qentry [.ref 0, .int x1, .int x2, .int x3] (pMaxL 1), [], [.inl [.null, .null, .null, .null, .null, .null, .null, .int (f_keyCount ob0), .int (f_slotCount ob0), .int (f_window ob0), .int (f_commitCount ob0), .int (f_abortCount ob0), .int (f_lastConflict ob0)]]) (none : Option Value) (H0 r) := by
 unfold F1 at h
 refine zS Ad W 1 (st' := (1, [vR 0, vI x1, vI x2, vI x3], [.ref 0], [.inl [.null, .null, .null, .null, .null, .null, .null, .int (f_keyCount ob0), .int (f_slotCount ob0), .int (f_window ob0), .int (f_commitCount ob0), .int (f_abortCount ob0), .int (f_lastConflict ob0)]])) rfl ?_
 refine QTri.callO W rfl rfl rfl ?_
 refine zS Ad W 3 (st' := (9, [vR 0, vI x1, vI x2, vI x3], [.ref 1, .ref 0], [.inl [.null, .null, .null, .null, .null, .null, .null, .int (f_keyCount ob0), .int (f_slotCount ob0), .int (f_window ob0), .int (f_commitCount ob0), .int (f_abortCount ob0), .int (f_lastConflict ob0)], .inr (.inl (.int, (List.replicate 32 0)))])) rfl ?_
 refine zS Ad W 1 (st' := (12, [vR 0, vI x1, vI x2, vI x3], [], [.inl [.ref 1, .null, .null, .null, .null, .null, .null, .int (f_keyCount ob0), .int (f_slotCount ob0), .int (f_window ob0), .int (f_commitCount ob0), .int (f_abortCount ob0), .int (f_lastConflict ob0)], .inr (.inl (.int, (List.replicate 32 0)))])) rfl ?_
 refine zS Ad W 3 (st' := (17, [vR 0, vI x1, vI x2, vI x3], [.ref 2, .ref 0], [.inl [.ref 1, .null, .null, .null, .null, .null, .null, .int (f_keyCount ob0), .int (f_slotCount ob0), .int (f_window ob0), .int (f_commitCount ob0), .int (f_abortCount ob0), .int (f_lastConflict ob0)], .inr (.inl (.int, (List.replicate 32 0))), .inr (.inl (.int, (List.replicate 32 0)))])) rfl ?_
 refine zS Ad W 1 (st' := (20, [vR 0, vI x1, vI x2, vI x3], [], [.inl [.ref 1, .ref 2, .null, .null, .null, .null, .null, .int (f_keyCount ob0), .int (f_slotCount ob0), .int (f_window ob0), .int (f_commitCount ob0), .int (f_abortCount ob0), .int (f_lastConflict ob0)], .inr (.inl (.int, (List.replicate 32 0))), .inr (.inl (.int, (List.replicate 32 0)))])) rfl ?_
 refine zS Ad W 3 (st' := (25, [vR 0, vI x1, vI x2, vI x3], [.ref 3, .ref 0], [.inl [.ref 1, .ref 2, .null, .null, .null, .null, .null, .int (f_keyCount ob0), .int (f_slotCount ob0), .int (f_window ob0), .int (f_commitCount ob0), .int (f_abortCount ob0), .int (f_lastConflict ob0)], .inr (.inl (.int, (List.replicate 32 0))), .inr (.inl (.int, (List.replicate 32 0))), .inr (.inl (.boolean, (List.replicate 8 0)))])) rfl ?_
 refine zS Ad W 1 (st' := (28, [vR 0, vI x1, vI x2, vI x3], [], [.inl [.ref 1, .ref 2, .ref 3, .null, .null, .null, .null, .int (f_keyCount ob0), .int (f_slotCount ob0), .int (f_window ob0), .int (f_commitCount ob0), .int (f_abortCount ob0), .int (f_lastConflict ob0)], .inr (.inl (.int, (List.replicate 32 0))), .inr (.inl (.int, (List.replicate 32 0))), .inr (.inl (.boolean, (List.replicate 8 0)))])) rfl ?_
 refine zS Ad W 3 (st' := (33, [vR 0, vI x1, vI x2, vI x3], [.ref 4, .ref 0], [.inl [.ref 1, .ref 2, .ref 3, .null, .null, .null, .null, .int (f_keyCount ob0), .int (f_slotCount ob0), .int (f_window ob0), .int (f_commitCount ob0), .int (f_abortCount ob0), .int (f_lastConflict ob0)], .inr (.inl (.int, (List.replicate 32 0))), .inr (.inl (.int, (List.replicate 32 0))), .inr (.inl (.boolean, (List.replicate 8 0))), .inr (.inl (.int, (List.replicate 8 0)))])) rfl ?_
 refine zS Ad W 1 (st' := (36, [vR 0, vI x1, vI x2, vI x3], [], [.inl [.ref 1, .ref 2, .ref 3, .ref 4, .null, .null, .null, .int (f_keyCount ob0), .int (f_slotCount ob0), .int (f_window ob0), .int (f_commitCount ob0), .int (f_abortCount ob0), .int (f_lastConflict ob0)], .inr (.inl (.int, (List.replicate 32 0))), .inr (.inl (.int, (List.replicate 32 0))), .inr (.inl (.boolean, (List.replicate 8 0))), .inr (.inl (.int, (List.replicate 8 0)))])) rfl ?_
 refine zS Ad W 3 (st' := (41, [vR 0, vI x1, vI x2, vI x3], [.ref 5, .ref 0], [.inl [.ref 1, .ref 2, .ref 3, .ref 4, .null, .null, .null, .int (f_keyCount ob0), .int (f_slotCount ob0), .int (f_window ob0), .int (f_commitCount ob0), .int (f_abortCount ob0), .int (f_lastConflict ob0)], .inr (.inl (.int, (List.replicate 32 0))), .inr (.inl (.int, (List.replicate 32 0))), .inr (.inl (.boolean, (List.replicate 8 0))), .inr (.inl (.int, (List.replicate 8 0))), .inr (.inl (.int, (List.replicate 8 0)))])) rfl ?_
 refine zS Ad W 1 (st' := (44, [vR 0, vI x1, vI x2, vI x3], [], [.inl [.ref 1, .ref 2, .ref 3, .ref 4, .ref 5, .null, .null, .int (f_keyCount ob0), .int (f_slotCount ob0), .int (f_window ob0), .int (f_commitCount ob0), .int (f_abortCount ob0), .int (f_lastConflict ob0)], .inr (.inl (.int, (List.replicate 32 0))), .inr (.inl (.int, (List.replicate 32 0))), .inr (.inl (.boolean, (List.replicate 8 0))), .inr (.inl (.int, (List.replicate 8 0))), .inr (.inl (.int, (List.replicate 8 0)))])) rfl ?_
 refine zS Ad W 3 (st' := (49, [vR 0, vI x1, vI x2, vI x3], [.ref 6, .ref 0], [.inl [.ref 1, .ref 2, .ref 3, .ref 4, .ref 5, .null, .null, .int (f_keyCount ob0), .int (f_slotCount ob0), .int (f_window ob0), .int (f_commitCount ob0), .int (f_abortCount ob0), .int (f_lastConflict ob0)], .inr (.inl (.int, (List.replicate 32 0))), .inr (.inl (.int, (List.replicate 32 0))), .inr (.inl (.boolean, (List.replicate 8 0))), .inr (.inl (.int, (List.replicate 8 0))), .inr (.inl (.int, (List.replicate 8 0))), .inr (.inl (.int, (List.replicate 8 0)))])) rfl ?_
 refine zS Ad W 1 (st' := (52, [vR 0, vI x1, vI x2, vI x3], [], [.inl [.ref 1, .ref 2, .ref 3, .ref 4, .ref 5, .ref 6, .null, .int (f_keyCount ob0), .int (f_slotCount ob0), .int (f_window ob0), .int (f_commitCount ob0), .int (f_abortCount ob0), .int (f_lastConflict ob0)], .inr (.inl (.int, (List.replicate 32 0))), .inr (.inl (.int, (List.replicate 32 0))), .inr (.inl (.boolean, (List.replicate 8 0))), .inr (.inl (.int, (List.replicate 8 0))), .inr (.inl (.int, (List.replicate 8 0))), .inr (.inl (.int, (List.replicate 8 0)))])) rfl ?_
 refine zS Ad W 3 (st' := (58, [vR 0, vI x1, vI x2, vI x3], [.ref 7, .ref 0], [.inl [.ref 1, .ref 2, .ref 3, .ref 4, .ref 5, .ref 6, .null, .int (f_keyCount ob0), .int (f_slotCount ob0), .int (f_window ob0), .int (f_commitCount ob0), .int (f_abortCount ob0), .int (f_lastConflict ob0)], .inr (.inl (.int, (List.replicate 32 0))), .inr (.inl (.int, (List.replicate 32 0))), .inr (.inl (.boolean, (List.replicate 8 0))), .inr (.inl (.int, (List.replicate 8 0))), .inr (.inl (.int, (List.replicate 8 0))), .inr (.inl (.int, (List.replicate 8 0))), .inr (.inl (.int, (List.replicate 256 0)))])) rfl ?_
 refine zS Ad W 1 (st' := (61, [vR 0, vI x1, vI x2, vI x3], [], (H0x0 ob0 (List.replicate 32 0) (List.replicate 32 0) (List.replicate 8 0) (List.replicate 8 0) (List.replicate 8 0) (List.replicate 8 0) (List.replicate 256 0)))) rfl ?_
 refine zS Ad W 5 (st' := (68, [vR 0, vI x1, vI x2, vI x3], [.int (32:Int32), .int (8:Int32), .int x1, .ref 0, .ref 0], (H0x0 ob0 (List.replicate 32 0) (List.replicate 32 0) (List.replicate 8 0) (List.replicate 8 0) (List.replicate 8 0) (List.replicate 8 0) (List.replicate 256 0)))) rfl ?_
 obtain ⟨r3, hr3, h⟩ := bind_eq_some_iff.mp h
 refine QTri.callP W (a := 0) (as := [.int x1, .int (8:Int32), .int (32:Int32)]) (rest := [.ref 0]) (w := (some (.int r3))) (σ₁ := (H0x0 ob0 (List.replicate 32 0) (List.replicate 32 0) (List.replicate 8 0) (List.replicate 8 0) (List.replicate 8 0) (List.replicate 8 0) (List.replicate 256 0))) rfl rfl rfl rfl rfl rfl rfl rfl (tF2 Ad W x1 (8:Int32) (32:Int32) hr3) ?_
 refine zS Ad W 1 (st' := (74, [vR 0, vI x1, vI x2, vI x3], [], (H0x1 ob0 (List.replicate 32 0) (List.replicate 32 0) (List.replicate 8 0) (List.replicate 8 0) (List.replicate 8 0) (List.replicate 8 0) (List.replicate 256 0) r3))) rfl ?_
 refine zS Ad W 5 (st' := (80, [vR 0, vI x1, vI x2, vI x3], [.int (8:Int32), .int (2:Int32), .int x2, .ref 0, .ref 0], (H0x1 ob0 (List.replicate 32 0) (List.replicate 32 0) (List.replicate 8 0) (List.replicate 8 0) (List.replicate 8 0) (List.replicate 8 0) (List.replicate 256 0) r3))) rfl ?_
 obtain ⟨r4, hr4, h⟩ := bind_eq_some_iff.mp h
 refine QTri.callP W (a := 0) (as := [.int x2, .int (2:Int32), .int (8:Int32)]) (rest := [.ref 0]) (w := (some (.int r4))) (σ₁ := (H0x1 ob0 (List.replicate 32 0) (List.replicate 32 0) (List.replicate 8 0) (List.replicate 8 0) (List.replicate 8 0) (List.replicate 8 0) (List.replicate 256 0) r3)) rfl rfl rfl rfl rfl rfl rfl rfl (tF2 Ad W x2 (2:Int32) (8:Int32) hr4) ?_
 refine zS Ad W 1 (st' := (86, [vR 0, vI x1, vI x2, vI x3], [], (H0x2 ob0 (List.replicate 32 0) (List.replicate 32 0) (List.replicate 8 0) (List.replicate 8 0) (List.replicate 8 0) (List.replicate 8 0) (List.replicate 256 0) r3 r4))) rfl ?_
 refine zS Ad W 5 (st' := (92, [vR 0, vI x1, vI x2, vI x3], [.int (16:Int32), .int (2:Int32), .int x3, .ref 0, .ref 0], (H0x2 ob0 (List.replicate 32 0) (List.replicate 32 0) (List.replicate 8 0) (List.replicate 8 0) (List.replicate 8 0) (List.replicate 8 0) (List.replicate 256 0) r3 r4))) rfl ?_
 obtain ⟨r5, hr5, h⟩ := bind_eq_some_iff.mp h
 refine QTri.callP W (a := 0) (as := [.int x3, .int (2:Int32), .int (16:Int32)]) (rest := [.ref 0]) (w := (some (.int r5))) (σ₁ := (H0x2 ob0 (List.replicate 32 0) (List.replicate 32 0) (List.replicate 8 0) (List.replicate 8 0) (List.replicate 8 0) (List.replicate 8 0) (List.replicate 256 0) r3 r4)) rfl rfl rfl rfl rfl rfl rfl rfl (tF2 Ad W x3 (2:Int32) (16:Int32) hr5) ?_
 refine zS Ad W 1 (st' := (98, [vR 0, vI x1, vI x2, vI x3], [], (H0x3 ob0 (List.replicate 32 0) (List.replicate 32 0) (List.replicate 8 0) (List.replicate 8 0) (List.replicate 8 0) (List.replicate 8 0) (List.replicate 256 0) r3 r4 r5))) rfl ?_
 refine zS Ad W 3 (st' := (103, [vR 0, vI x1, vI x2, vI x3], [], (H0x4 ob0 (List.replicate 32 0) (List.replicate 32 0) (List.replicate 8 0) (List.replicate 8 0) (List.replicate 8 0) (List.replicate 8 0) (List.replicate 256 0) r3 r4 r5 (0:Int32)))) rfl ?_
 refine zS Ad W 3 (st' := (108, [vR 0, vI x1, vI x2, vI x3], [], (H0x5 ob0 (List.replicate 32 0) (List.replicate 32 0) (List.replicate 8 0) (List.replicate 8 0) (List.replicate 8 0) (List.replicate 8 0) (List.replicate 256 0) r3 r4 r5 (0:Int32) (0:Int32)))) rfl ?_
 refine zS Ad W 3 (st' := (113, [vR 0, vI x1, vI x2, vI x3], [], (H0x6 ob0 (List.replicate 32 0) (List.replicate 32 0) (List.replicate 8 0) (List.replicate 8 0) (List.replicate 8 0) (List.replicate 8 0) (List.replicate 256 0) r3 r4 r5 (0:Int32) (0:Int32) (-1:Int32)))) rfl ?_
 have E6 : ((H0x6 ob0 (List.replicate 32 0) (List.replicate 32 0) (List.replicate 8 0) (List.replicate 8 0) (List.replicate 8 0) (List.replicate 8 0) (List.replicate 256 0) r3 r4 r5 (0:Int32) (0:Int32) (-1:Int32)) : QHeap) = (H0 (s_lastConflict (s_abortCount (s_commitCount (s_window (s_slotCount (s_keyCount (s_buffered (s_writeSet (s_readSet (s_start (s_active (s_version (s_value ob0 (List.replicate 32 0)) (List.replicate 32 0)) (List.replicate 8 0)) (List.replicate 8 0)) (List.replicate 8 0)) (List.replicate 8 0)) (List.replicate 256 0)) r3) r4) r5) (0:Int32)) (0:Int32)) (-1:Int32))) := by simp only [fs, H0, H0v, H0x6, s_value, s_version, s_active, s_start, s_readSet, s_writeSet, s_buffered, s_keyCount, s_slotCount, s_window, s_commitCount, s_abortCount, s_lastConflict, ob0]
 rw [E6]
 obtain rfl := Option.some.inj h
 exact QTri.ret0 rfl rfl
def B4_2 (o : Ob) (v : Int32) : Option (((Int32)) ⊕ (Int32)) :=
  (if v < (f_slotCount o) then (if v < (8 : Int32) then (aget (f_active o) v).bind fun y10 => (if y10 = (0 : Int32) then some (.inl v) else some (.inr (v + (1 : Int32)))) else some (.inl (-1 : Int32))) else some (.inl (-1 : Int32)))
theorem tB4_2 (Ad : QAd n0 ad) (W : QW Z a0) (o : Ob) (v : Int32) {r : ((Int32)) ⊕ (Int32)} {u : Option Value} {τ : QHeap} (h : B4_2 o v = some r) (hx0 : ∀ x : Int32, r = .inl x → u = (some (Value.int x)) ∧ τ = (H0 o)) (hc : ∀ x : Int32, r = .inr x → QTri l Z n0 ad 4 (2, [vR 0, vI x], [], (H0 o)) u τ) : QTri l Z n0 ad 4 (2, [vR 0, vI v], [], (H0 o)) u τ := by
 unfold B4_2 at h
 refine zS Ad W 3 (st' := (7, [vR 0, vI v], [.int (f_slotCount o), .int v], (H0 o))) rfl ?_
 rcases qite h with ⟨hc8, h⟩ | ⟨hc8, h⟩
 ·refine zF Ad W (t := 33) (f := 10) rfl (XT.ii_ge_f hc8) ?_
  refine zS Ad W 2 (st' := (13, [vR 0, vI v], [.int (8:Int32), .int v], (H0 o))) rfl ?_
  rcases qite h with ⟨hc9, h⟩ | ⟨hc9, h⟩
  ·refine zF Ad W (t := 33) (f := 16) rfl (XT.ii_ge_f hc9) ?_
   refine zS Ad W 3 (st' := (21, [vR 0, vI v], [.int v, .ref 3], (H0 o))) rfl ?_
   obtain ⟨y10, hy10, h⟩ := bind_eq_some_iff.mp h
   refine zB Ad W (f := fun y10 => (22, [vR 0, vI v], [.int y10], (H0 o))) rfl hy10 ?_
   rcases qite h with ⟨hc11, h⟩ | ⟨hc11, h⟩
   ·refine zF Ad W (t := 27) (f := 25) rfl (XT.i0_ne_f hc11) ?_
    refine zS Ad W 1 (st' := (26, [vR 0, vI v], [.int v], (H0 o))) rfl ?_
    obtain rfl := Option.some.inj h
    obtain ⟨rfl, rfl⟩ := hx0 v rfl
    exact QTri.retI rfl rfl
   ·refine zT Ad W (t := 27) (f := 25) rfl (XT.i0_ne_t hc11) ?_
    refine zS Ad W 2 (st' := (2, [vR 0, vI (v + (1:Int32))], [], (H0 o))) rfl ?_
    obtain rfl := Option.some.inj h
    exact zM [tt,tt] (hc (v + (1:Int32)) rfl)
  ·refine zT Ad W (t := 33) (f := 16) rfl (XT.ii_ge_t hc9) ?_
   refine zS Ad W 1 (st' := (34, [vR 0, vI v], [.int (-1:Int32)], (H0 o))) rfl ?_
   obtain rfl := Option.some.inj h
   obtain ⟨rfl, rfl⟩ := hx0 (-1:Int32) rfl
   exact QTri.retI rfl rfl
 ·refine zT Ad W (t := 33) (f := 10) rfl (XT.ii_ge_t hc8) ?_
  refine zS Ad W 1 (st' := (34, [vR 0, vI v], [.int (-1:Int32)], (H0 o))) rfl ?_
  obtain rfl := Option.some.inj h
  obtain ⟨rfl, rfl⟩ := hx0 (-1:Int32) rfl
  exact QTri.retI rfl rfl
/-- findFreeSlot()I -/
def F4 (o : Ob) : Option (Int32) :=
 (loopN (B4_2 o) qN (0:Int32)).bind fun e12 => some e12
theorem tF4 (Ad : QAd n0 ad) (W : QW Z a0) (o : Ob) {r : Int32} (h : F4 o = some r) : QTri l Z n0 ad 4 (0, qentry [.ref 0] (pMaxL 4), [], (H0 o)) (some (Value.int r)) (H0 o) := by
 unfold F4 at h
 refine zS Ad W 2 (st' := (2, [vR 0, vI (0:Int32)], [], (H0 o))) rfl ?_
 obtain ⟨e12, he12, h⟩ := bind_eq_some_iff.mp h
 refine zM [tt,tt] (loopN_tri (B := B4_2 o) (T := fun lv13 => QTri l Z n0 ad 4 (2, [vR 0, vI lv13], [], (H0 o)) (some (Value.int r)) (H0 o)) (KE := fun e12a => (some (Value.int r)) = (some (Value.int e12a)) ∧ (H0 o) = (H0 o)) (fun lv13 r hB hE hC => tB4_2 Ad W o lv13 hB (fun x q => hE _ q) (fun x q => hC x q)) qN (0:Int32) e12 he12 ?_)
 obtain rfl := Option.some.inj h
 exact ⟨rfl, rfl⟩
def H0x7 (o0 : Ob) (a0_2 : List Int32) : QHeap := H0v (f_value o0) (f_version o0) a0_2 (f_start o0) (f_readSet o0) (f_writeSet o0) (f_buffered o0) (f_keyCount o0) (f_slotCount o0) (f_window o0) (f_commitCount o0) (f_abortCount o0) (f_lastConflict o0)
def H0x8 (o0 : Ob) (a0_2 : List Int32) (a0_3 : List Int32) : QHeap := H0v (f_value o0) (f_version o0) a0_2 a0_3 (f_readSet o0) (f_writeSet o0) (f_buffered o0) (f_keyCount o0) (f_slotCount o0) (f_window o0) (f_commitCount o0) (f_abortCount o0) (f_lastConflict o0)
def H0x9 (o0 : Ob) (a0_2 : List Int32) (a0_3 : List Int32) (a0_4 : List Int32) : QHeap := H0v (f_value o0) (f_version o0) a0_2 a0_3 a0_4 (f_writeSet o0) (f_buffered o0) (f_keyCount o0) (f_slotCount o0) (f_window o0) (f_commitCount o0) (f_abortCount o0) (f_lastConflict o0)
def H0x10 (o0 : Ob) (a0_2 : List Int32) (a0_3 : List Int32) (a0_4 : List Int32) (a0_5 : List Int32) : QHeap := H0v (f_value o0) (f_version o0) a0_2 a0_3 a0_4 a0_5 (f_buffered o0) (f_keyCount o0) (f_slotCount o0) (f_window o0) (f_commitCount o0) (f_abortCount o0) (f_lastConflict o0)
def H0x11 (o0 : Ob) (a0_6 : List Int32) : QHeap := H0v (f_value o0) (f_version o0) (f_active o0) (f_start o0) (f_readSet o0) (f_writeSet o0) a0_6 (f_keyCount o0) (f_slotCount o0) (f_window o0) (f_commitCount o0) (f_abortCount o0) (f_lastConflict o0)
def B6_35 (x2 : Int32) (v : Int32 × Ob) : Option (((Ob)) ⊕ (Int32 × Ob)) :=
  (if v.1 < (32 : Int32) then (aset (f_buffered v.2) (x2 + v.1) (0 : Int32)).bind fun y22 => some (.inr ((v.1 + (1 : Int32)), (s_buffered v.2 y22))) else some (.inl v.2))
theorem tB6_35 (Ad : QAd n0 ad) (W : QW Z a0) (x2 : Int32) (v : Int32 × Ob) {r : ((Ob)) ⊕ (Int32 × Ob)} {u : Option Value} {τ : QHeap} (h : B6_35 x2 v = some r) (hx0 : ∀ x : Ob, r = .inl x → u = (none : Option Value) ∧ τ = (H0 x)) (hc : ∀ x : Int32 × Ob, r = .inr x → QTri l Z n0 ad 6 (35, [vR 0, none, vI x2, vI x.1], [], (H0 x.2)) u τ) : QTri l Z n0 ad 6 (35, [vR 0, none, vI x2, vI v.1], [], (H0 v.2)) u τ := by
 unfold B6_35 at h
 refine zS Ad W 2 (st' := (38, [vR 0, none, vI x2, vI v.1], [.int (32:Int32), .int v.1], (H0 v.2))) rfl ?_
 rcases qite h with ⟨hc21, h⟩ | ⟨hc21, h⟩
 ·refine zF Ad W (t := 56) (f := 41) rfl (XT.ii_ge_f hc21) ?_
  refine zS Ad W 6 (st' := (49, [vR 0, none, vI x2, vI v.1], [.int (0:Int32), .int (x2 + v.1), .ref 7], (H0 v.2))) rfl ?_
  obtain ⟨y22, hy22, h⟩ := bind_eq_some_iff.mp h
  refine zB Ad W (f := fun y22 => (50, [vR 0, none, vI x2, vI v.1], [], (H0x11 v.2 y22))) rfl hy22 ?_
  refine zS Ad W 2 (st' := (35, [vR 0, none, vI x2, vI (v.1 + (1:Int32))], [], (H0x11 v.2 y22))) rfl ?_
  have E23 : ((H0x11 v.2 y22) : QHeap) = (H0 (s_buffered v.2 y22)) := by simp only [fs, H0, H0v, H0x11, s_buffered]
  rw [E23]
  obtain rfl := Option.some.inj h
  exact zM [tt,ff,tt,tt] (hc ((v.1 + (1:Int32)), (s_buffered v.2 y22)) rfl)
 ·refine zT Ad W (t := 56) (f := 41) rfl (XT.ii_ge_t hc21) ?_
  obtain rfl := Option.some.inj h
  obtain ⟨rfl, rfl⟩ := hx0 v.2 rfl
  exact QTri.ret0 rfl rfl
/-- clearSlot(I)V -/
def F6 (o : Ob) (x1 : Int32) : Option (Ob) :=
 (aset (f_active o) x1 (0:Int32)).bind fun y16 => (aset (f_start o) x1 (0:Int32)).bind fun y17 => (aset (f_readSet o) x1 (0:Int32)).bind fun y18 => (aset (f_writeSet o) x1 (0:Int32)).bind fun y19 => (loopN (B6_35 (x1 * (32:Int32))) qN ((0:Int32), (s_writeSet (s_readSet (s_start (s_active o y16) y17) y18) y19))).bind fun e24 => some e24
theorem tF6 (Ad : QAd n0 ad) (W : QW Z a0) (o : Ob) (x1 : Int32) {r : Ob} (h : F6 o x1 = some r) : QTri l Z n0 ad 6 (0, qentry [.ref 0, .int x1] (pMaxL 6), [], (H0 o)) (none : Option Value) (H0 r) := by
 unfold F6 at h
 refine zS Ad W 4 (st' := (6, [vR 0, vI x1, none, none], [.int (0:Int32), .int x1, .ref 3], (H0 o))) rfl ?_
 obtain ⟨y16, hy16, h⟩ := bind_eq_some_iff.mp h
 refine zB Ad W (f := fun y16 => (7, [vR 0, vI x1, none, none], [], (H0x7 o y16))) rfl hy16 ?_
 refine zS Ad W 4 (st' := (13, [vR 0, vI x1, none, none], [.int (0:Int32), .int x1, .ref 4], (H0x7 o y16))) rfl ?_
 obtain ⟨y17, hy17, h⟩ := bind_eq_some_iff.mp h
 refine zB Ad W (f := fun y17 => (14, [vR 0, vI x1, none, none], [], (H0x8 o y16 y17))) rfl hy17 ?_
 refine zS Ad W 4 (st' := (20, [vR 0, vI x1, none, none], [.int (0:Int32), .int x1, .ref 5], (H0x8 o y16 y17))) rfl ?_
 obtain ⟨y18, hy18, h⟩ := bind_eq_some_iff.mp h
 refine zB Ad W (f := fun y18 => (21, [vR 0, vI x1, none, none], [], (H0x9 o y16 y17 y18))) rfl hy18 ?_
 refine zS Ad W 4 (st' := (27, [vR 0, vI x1, none, none], [.int (0:Int32), .int x1, .ref 6], (H0x9 o y16 y17 y18))) rfl ?_
 obtain ⟨y19, hy19, h⟩ := bind_eq_some_iff.mp h
 refine zB Ad W (f := fun y19 => (28, [vR 0, vI x1, none, none], [], (H0x10 o y16 y17 y18 y19))) rfl hy19 ?_
 refine zS Ad W 6 (st' := (35, [vR 0, vI x1, vI (x1 * (32:Int32)), vI (0:Int32)], [], (H0x10 o y16 y17 y18 y19))) rfl ?_
 have E20 : ((H0x10 o y16 y17 y18 y19) : QHeap) = (H0 (s_writeSet (s_readSet (s_start (s_active o y16) y17) y18) y19)) := by simp only [fs, H0, H0v, H0x10, s_active, s_start, s_readSet, s_writeSet]
 rw [E20]
 obtain ⟨e24, he24, h⟩ := bind_eq_some_iff.mp h
 refine zM [tt,ff,tt,tt] (loopN_tri (B := B6_35 (x1 * (32:Int32))) (T := fun lv25 => QTri l Z n0 ad 6 (35, [vR 0, none, vI (x1 * (32:Int32)), vI lv25.1], [], (H0 lv25.2)) (none : Option Value) (H0 r)) (KE := fun e24a => (none : Option Value) = (none : Option Value) ∧ (H0 r) = (H0 e24a)) (fun lv25 r hB hE hC => tB6_35 Ad W (x1 * (32:Int32)) lv25 hB (fun x q => hE _ q) (fun x q => hC x q)) qN ((0:Int32), (s_writeSet (s_readSet (s_start (s_active o y16) y17) y18) y19)) e24 he24 ?_)
 obtain rfl := Option.some.inj h
 exact ⟨rfl, rfl⟩
/-- openSlot(I)V -/
def F5 (o : Ob) (x1 : Int32) : Option (Ob) :=
 (F6 o x1).bind fun r26 => (aset (f_active r26) x1 (1:Int32)).bind fun y27 => (aset (f_start r26) x1 (f_commitCount r26)).bind fun y28 => some (s_start (s_active r26 y27) y28)
theorem tF5 (Ad : QAd n0 ad) (W : QW Z a0) (o : Ob) (x1 : Int32) {r : Ob} (h : F5 o x1 = some r) : QTri l Z n0 ad 5 (0, qentry [.ref 0, .int x1] (pMaxL 5), [], (H0 o)) (none : Option Value) (H0 r) := by
 unfold F5 at h
 refine zS Ad W 2 (st' := (2, [vR 0, vI x1], [.int x1, .ref 0], (H0 o))) rfl ?_
 obtain ⟨r26, hr26, h⟩ := bind_eq_some_iff.mp h
 refine QTri.callP W (a := 0) (as := [.int x1]) (rest := []) (w := none) (σ₁ := (H0 r26)) rfl rfl rfl rfl rfl rfl rfl rfl (tF6 Ad W o x1 hr26) ?_
 refine zS Ad W 4 (st' := (11, [vR 0, vI x1], [.int (1:Int32), .int x1, .ref 3], (H0 r26))) rfl ?_
 obtain ⟨y27, hy27, h⟩ := bind_eq_some_iff.mp h
 refine zB Ad W (f := fun y27 => (12, [vR 0, vI x1], [], (H0x7 r26 y27))) rfl hy27 ?_
 refine zS Ad W 5 (st' := (21, [vR 0, vI x1], [.int (f_commitCount r26), .int x1, .ref 4], (H0x7 r26 y27))) rfl ?_
 obtain ⟨y28, hy28, h⟩ := bind_eq_some_iff.mp h
 refine zB Ad W (f := fun y28 => (22, [vR 0, vI x1], [], (H0x8 r26 y27 y28))) rfl hy28 ?_
 have E29 : ((H0x8 r26 y27 y28) : QHeap) = (H0 (s_start (s_active r26 y27) y28)) := by simp only [fs, H0, H0v, H0x8, s_active, s_start]
 rw [E29]
 obtain rfl := Option.some.inj h
 exact QTri.ret0 rfl rfl
/-- begin()I -/
def F3 (o : Ob) : Option (Int32 × Ob) :=
 (F4 o).bind fun r14 => (if r14 < (0:Int32) then some ((-5:Int32), o) else (F5 o r14).bind fun r30 => some (r14, r30))
theorem tF3 (Ad : QAd n0 ad) (W : QW Z a0) (o : Ob) {r : Int32 × Ob} (h : F3 o = some r) : QTri l Z n0 ad 3 (0, qentry [.ref 0] (pMaxL 3), [], (H0 o)) (some (Value.int r.1)) (H0 r.2) := by
 unfold F3 at h
 refine zS Ad W 1 (st' := (1, [vR 0, none], [.ref 0], (H0 o))) rfl ?_
 obtain ⟨r14, hr14, h⟩ := bind_eq_some_iff.mp h
 refine QTri.callP W (a := 0) (as := []) (rest := []) (w := (some (.int r14))) (σ₁ := (H0 o)) rfl rfl rfl rfl rfl rfl rfl rfl (tF4 Ad W o hr14) ?_
 refine zS Ad W 2 (st' := (6, [vR 0, vI r14], [.int r14], (H0 o))) rfl ?_
 rcases qite h with ⟨hc15, h⟩ | ⟨hc15, h⟩
 ·refine zF Ad W (t := 12) (f := 9) rfl (XT.i0_ge_f hc15) ?_
  refine zS Ad W 1 (st' := (11, [vR 0, vI r14], [.int (-5:Int32)], (H0 o))) rfl ?_
  obtain rfl := Option.some.inj h
  exact QTri.retI rfl rfl
 ·refine zT Ad W (t := 12) (f := 9) rfl (XT.i0_ge_t hc15) ?_
  refine zS Ad W 2 (st' := (14, [vR 0, vI r14], [.int r14, .ref 0], (H0 o))) rfl ?_
  obtain ⟨r30, hr30, h⟩ := bind_eq_some_iff.mp h
  refine QTri.callP W (a := 0) (as := [.int r14]) (rest := []) (w := none) (σ₁ := (H0 r30)) rfl rfl rfl rfl rfl rfl rfl rfl (tF5 Ad W o r14 hr30) ?_
  refine zS Ad W 1 (st' := (18, [vR 0, vI r14], [.int r14], (H0 r30))) rfl ?_
  obtain rfl := Option.some.inj h
  exact QTri.retI rfl rfl
/-- isValidTx(I)Z -/
def F8 (o : Ob) (x1 : Int32) : Option (Int32) :=
 (if x1 < (0:Int32) then some (0:Int32) else (if x1 < (f_slotCount o) then (if x1 < (8:Int32) then (aget (f_active o) x1).bind fun y38 => some (y38 &&& 1) else some (0:Int32)) else some (0:Int32)))
theorem tF8 (Ad : QAd n0 ad) (W : QW Z a0) (o : Ob) (x1 : Int32) {r : Int32} (h : F8 o x1 = some r) : QTri l Z n0 ad 8 (0, qentry [.ref 0, .int x1] (pMaxL 8), [], (H0 o)) (some (Value.int r)) (H0 o) := by
 unfold F8 at h
 refine zS Ad W 1 (st' := (1, [vR 0, vI x1], [.int x1], (H0 o))) rfl ?_
 rcases qite h with ⟨hc35, h⟩ | ⟨hc35, h⟩
 ·refine zT Ad W (t := 18) (f := 4) rfl (XT.i0_lt_t hc35) ?_
  refine zS Ad W 1 (st' := (19, [vR 0, vI x1], [.int (0:Int32)], (H0 o))) rfl ?_
  obtain rfl := Option.some.inj h
  exact QTri.retZ rfl rfl
 ·refine zF Ad W (t := 18) (f := 4) rfl (XT.i0_lt_f hc35) ?_
  refine zS Ad W 3 (st' := (9, [vR 0, vI x1], [.int (f_slotCount o), .int x1], (H0 o))) rfl ?_
  rcases qite h with ⟨hc36, h⟩ | ⟨hc36, h⟩
  ·refine zF Ad W (t := 18) (f := 12) rfl (XT.ii_ge_f hc36) ?_
   refine zS Ad W 2 (st' := (15, [vR 0, vI x1], [.int (8:Int32), .int x1], (H0 o))) rfl ?_
   rcases qite h with ⟨hc37, h⟩ | ⟨hc37, h⟩
   ·refine zT Ad W (t := 20) (f := 18) rfl (XT.ii_lt_t hc37) ?_
    refine zS Ad W 3 (st' := (25, [vR 0, vI x1], [.int x1, .ref 3], (H0 o))) rfl ?_
    obtain ⟨y38, hy38, h⟩ := bind_eq_some_iff.mp h
    refine zB Ad W (f := fun y38 => (26, [vR 0, vI x1], [.int y38], (H0 o))) rfl hy38 ?_
    obtain rfl := Option.some.inj h
    exact QTri.retZ rfl rfl
   ·refine zF Ad W (t := 20) (f := 18) rfl (XT.ii_lt_f hc37) ?_
    refine zS Ad W 1 (st' := (19, [vR 0, vI x1], [.int (0:Int32)], (H0 o))) rfl ?_
    obtain rfl := Option.some.inj h
    exact QTri.retZ rfl rfl
  ·refine zT Ad W (t := 18) (f := 12) rfl (XT.ii_ge_t hc36) ?_
   refine zS Ad W 1 (st' := (19, [vR 0, vI x1], [.int (0:Int32)], (H0 o))) rfl ?_
   obtain rfl := Option.some.inj h
   exact QTri.retZ rfl rfl
/-- isValidKey(I)Z -/
def F9 (o : Ob) (x1 : Int32) : Option (Int32) :=
 (if x1 < (0:Int32) then some (0:Int32) else (if x1 < (f_keyCount o) then (if x1 < (32:Int32) then some (1:Int32) else some (0:Int32)) else some (0:Int32)))
theorem tF9 (Ad : QAd n0 ad) (W : QW Z a0) (o : Ob) (x1 : Int32) {r : Int32} (h : F9 o x1 = some r) : QTri l Z n0 ad 9 (0, qentry [.ref 0, .int x1] (pMaxL 9), [], (H0 o)) (some (Value.int r)) (H0 o) := by
 unfold F9 at h
 refine zS Ad W 1 (st' := (1, [vR 0, vI x1], [.int x1], (H0 o))) rfl ?_
 rcases qite h with ⟨hc41, h⟩ | ⟨hc41, h⟩
 ·refine zT Ad W (t := 22) (f := 4) rfl (XT.i0_lt_t hc41) ?_
  refine zS Ad W 1 (st' := (23, [vR 0, vI x1], [.int (0:Int32)], (H0 o))) rfl ?_
  obtain rfl := Option.some.inj h
  exact QTri.retZ rfl rfl
 ·refine zF Ad W (t := 22) (f := 4) rfl (XT.i0_lt_f hc41) ?_
  refine zS Ad W 3 (st' := (9, [vR 0, vI x1], [.int (f_keyCount o), .int x1], (H0 o))) rfl ?_
  rcases qite h with ⟨hc42, h⟩ | ⟨hc42, h⟩
  ·refine zF Ad W (t := 22) (f := 12) rfl (XT.ii_ge_f hc42) ?_
   refine zS Ad W 2 (st' := (15, [vR 0, vI x1], [.int (32:Int32), .int x1], (H0 o))) rfl ?_
   rcases qite h with ⟨hc43, h⟩ | ⟨hc43, h⟩
   ·refine zF Ad W (t := 22) (f := 18) rfl (XT.ii_ge_f hc43) ?_
    refine zS Ad W 2 (st' := (23, [vR 0, vI x1], [.int (1:Int32)], (H0 o))) rfl ?_
    obtain rfl := Option.some.inj h
    exact QTri.retZ rfl rfl
   ·refine zT Ad W (t := 22) (f := 18) rfl (XT.ii_ge_t hc43) ?_
    refine zS Ad W 1 (st' := (23, [vR 0, vI x1], [.int (0:Int32)], (H0 o))) rfl ?_
    obtain rfl := Option.some.inj h
    exact QTri.retZ rfl rfl
  ·refine zT Ad W (t := 22) (f := 12) rfl (XT.ii_ge_t hc42) ?_
   refine zS Ad W 1 (st' := (23, [vR 0, vI x1], [.int (0:Int32)], (H0 o))) rfl ?_
   obtain rfl := Option.some.inj h
   exact QTri.retZ rfl rfl
/-- bit(I)I -/
def F10 (x1 : Int32) : Option (Int32) :=
 some ((1:Int32) <<< (x1 &&& 31))
theorem tF10 (Ad : QAd n0 ad) (W : QW Z a0) {a : Nat} {σ : QHeap} (x1 : Int32) {r : Int32} (h : F10 x1 = some r) : QTri l Z n0 ad 10 (0, qentry [.ref a, .int x1] (pMaxL 10), [], σ) (some (Value.int r)) σ := by
 unfold F10 at h
 refine zS Ad W 3 (st' := (3, [vR a, vI x1], [.int ((1:Int32) <<< (x1 &&& 31))], σ)) rfl ?_
 obtain rfl := Option.some.inj h
 exact QTri.retI rfl rfl
def H0x12 (o0 : Ob) (a0_4 : List Int32) : QHeap := H0v (f_value o0) (f_version o0) (f_active o0) (f_start o0) a0_4 (f_writeSet o0) (f_buffered o0) (f_keyCount o0) (f_slotCount o0) (f_window o0) (f_commitCount o0) (f_abortCount o0) (f_lastConflict o0)
/-- bufIndex(II)I -/
def F12 (x1 : Int32) (x2 : Int32) : Option (Int32) :=
 some ((x1 * (32:Int32)) + x2)
theorem tF12 (Ad : QAd n0 ad) (W : QW Z a0) {a : Nat} {σ : QHeap} (x1 : Int32) (x2 : Int32) {r : Int32} (h : F12 x1 x2 = some r) : QTri l Z n0 ad 12 (0, qentry [.ref a, .int x1, .int x2] (pMaxL 12), [], σ) (some (Value.int r)) σ := by
 unfold F12 at h
 refine zS Ad W 5 (st' := (6, [vR a, vI x1, vI x2], [.int ((x1 * (32:Int32)) + x2)], σ)) rfl ?_
 obtain rfl := Option.some.inj h
 exact QTri.retI rfl rfl
/-- read(II)I -/
def F7 (o : Ob) (x1 : Int32) (x2 : Int32) : Option (Int32 × Ob) :=
 (F8 o x1).bind fun r39 => (if r39 = (0:Int32) then some ((0:Int32), o) else (F9 o x2).bind fun r44 => (if r44 = (0:Int32) then some ((0:Int32), o) else (F10 x2).bind fun r46 => (aget (f_writeSet o) x1).bind fun y47 => (if (y47 &&& r46) = (0:Int32) then (aget (f_readSet o) x1).bind fun y49 => (aset (f_readSet o) x1 (y49 ||| r46)).bind fun y50 => (aget (f_value o) x2).bind fun y51 => some (y51, (s_readSet o y50)) else (F12 x1 x2).bind fun r53 => (aget (f_buffered o) r53).bind fun y54 => some (y54, o))))
theorem tF7 (Ad : QAd n0 ad) (W : QW Z a0) (o : Ob) (x1 : Int32) (x2 : Int32) {r : Int32 × Ob} (h : F7 o x1 x2 = some r) : QTri l Z n0 ad 7 (0, qentry [.ref 0, .int x1, .int x2] (pMaxL 7), [], (H0 o)) (some (Value.int r.1)) (H0 r.2) := by
 unfold F7 at h
 refine zS Ad W 2 (st' := (2, [vR 0, vI x1, vI x2, none], [.int x1, .ref 0], (H0 o))) rfl ?_
 obtain ⟨r39, hr39, h⟩ := bind_eq_some_iff.mp h
 refine QTri.callP W (a := 0) (as := [.int x1]) (rest := []) (w := (some (.int r39))) (σ₁ := (H0 o)) rfl rfl rfl rfl rfl rfl rfl rfl (tF8 Ad W o x1 hr39) ?_
 rcases qite h with ⟨hc40, h⟩ | ⟨hc40, h⟩
 ·refine zF Ad W (t := 10) (f := 8) rfl (XT.i0_ne_f hc40) ?_
  refine zS Ad W 1 (st' := (9, [vR 0, vI x1, vI x2, none], [.int (0:Int32)], (H0 o))) rfl ?_
  obtain rfl := Option.some.inj h
  exact QTri.retI rfl rfl
 ·refine zT Ad W (t := 10) (f := 8) rfl (XT.i0_ne_t hc40) ?_
  refine zS Ad W 2 (st' := (12, [vR 0, vI x1, vI x2, none], [.int x2, .ref 0], (H0 o))) rfl ?_
  obtain ⟨r44, hr44, h⟩ := bind_eq_some_iff.mp h
  refine QTri.callP W (a := 0) (as := [.int x2]) (rest := []) (w := (some (.int r44))) (σ₁ := (H0 o)) rfl rfl rfl rfl rfl rfl rfl rfl (tF9 Ad W o x2 hr44) ?_
  rcases qite h with ⟨hc45, h⟩ | ⟨hc45, h⟩
  ·refine zF Ad W (t := 20) (f := 18) rfl (XT.i0_ne_f hc45) ?_
   refine zS Ad W 1 (st' := (19, [vR 0, vI x1, vI x2, none], [.int (0:Int32)], (H0 o))) rfl ?_
   obtain rfl := Option.some.inj h
   exact QTri.retI rfl rfl
  ·refine zT Ad W (t := 20) (f := 18) rfl (XT.i0_ne_t hc45) ?_
   refine zS Ad W 2 (st' := (22, [vR 0, vI x1, vI x2, none], [.int x2, .ref 0], (H0 o))) rfl ?_
   obtain ⟨r46, hr46, h⟩ := bind_eq_some_iff.mp h
   refine QTri.callP W (a := 0) (as := [.int x2]) (rest := []) (w := (some (.int r46))) (σ₁ := (H0 o)) rfl rfl rfl rfl rfl rfl rfl rfl (tF10 Ad W x2 hr46) ?_
   refine zS Ad W 4 (st' := (31, [vR 0, vI x1, vI x2, vI r46], [.int x1, .ref 6], (H0 o))) rfl ?_
   obtain ⟨y47, hy47, h⟩ := bind_eq_some_iff.mp h
   refine zB Ad W (f := fun y47 => (32, [vR 0, vI x1, vI x2, vI r46], [.int y47], (H0 o))) rfl hy47 ?_
   refine zS Ad W 2 (st' := (34, [vR 0, vI x1, vI x2, vI r46], [.int (y47 &&& r46)], (H0 o))) rfl ?_
   rcases qite h with ⟨hc48, h⟩ | ⟨hc48, h⟩
   ·refine zT Ad W (t := 49) (f := 37) rfl (XT.i0_eq_t hc48) ?_
    refine zS Ad W 6 (st' := (59, [vR 0, vI x1, vI x2, vI r46], [.int x1, .ref 5, .int x1, .ref 5], (H0 o))) rfl ?_
    obtain ⟨y49, hy49, h⟩ := bind_eq_some_iff.mp h
    refine zB Ad W (f := fun y49 => (60, [vR 0, vI x1, vI x2, vI r46], [.int y49, .int x1, .ref 5], (H0 o))) rfl hy49 ?_
    refine zS Ad W 2 (st' := (62, [vR 0, vI x1, vI x2, vI r46], [.int (y49 ||| r46), .int x1, .ref 5], (H0 o))) rfl ?_
    obtain ⟨y50, hy50, h⟩ := bind_eq_some_iff.mp h
    refine zB Ad W (f := fun y50 => (63, [vR 0, vI x1, vI x2, vI r46], [], (H0x12 o y50))) rfl hy50 ?_
    refine zS Ad W 3 (st' := (68, [vR 0, vI x1, vI x2, vI r46], [.int x2, .ref 1], (H0x12 o y50))) rfl ?_
    obtain ⟨y51, hy51, h⟩ := bind_eq_some_iff.mp h
    refine zB Ad W (f := fun y51 => (69, [vR 0, vI x1, vI x2, vI r46], [.int y51], (H0x12 o y50))) rfl hy51 ?_
    have E52 : ((H0x12 o y50) : QHeap) = (H0 (s_readSet o y50)) := by simp only [fs, H0, H0v, H0x12, s_readSet]
    rw [E52]
    obtain rfl := Option.some.inj h
    exact QTri.retI rfl rfl
   ·refine zF Ad W (t := 49) (f := 37) rfl (XT.i0_eq_f hc48) ?_
    refine zS Ad W 5 (st' := (44, [vR 0, vI x1, vI x2, vI r46], [.int x2, .int x1, .ref 0, .ref 7], (H0 o))) rfl ?_
    obtain ⟨r53, hr53, h⟩ := bind_eq_some_iff.mp h
    refine QTri.callP W (a := 0) (as := [.int x1, .int x2]) (rest := [.ref 7]) (w := (some (.int r53))) (σ₁ := (H0 o)) rfl rfl rfl rfl rfl rfl rfl rfl (tF12 Ad W x1 x2 hr53) ?_
    obtain ⟨y54, hy54, h⟩ := bind_eq_some_iff.mp h
    refine zB Ad W (f := fun y54 => (48, [vR 0, vI x1, vI x2, vI r46], [.int y54], (H0 o))) rfl hy54 ?_
    obtain rfl := Option.some.inj h
    exact QTri.retI rfl rfl
def H0x13 (o0 : Ob) (a0_5 : List Int32) : QHeap := H0v (f_value o0) (f_version o0) (f_active o0) (f_start o0) (f_readSet o0) a0_5 (f_buffered o0) (f_keyCount o0) (f_slotCount o0) (f_window o0) (f_commitCount o0) (f_abortCount o0) (f_lastConflict o0)
def H0x14 (o0 : Ob) (a0_5 : List Int32) (a0_6 : List Int32) : QHeap := H0v (f_value o0) (f_version o0) (f_active o0) (f_start o0) (f_readSet o0) a0_5 a0_6 (f_keyCount o0) (f_slotCount o0) (f_window o0) (f_commitCount o0) (f_abortCount o0) (f_lastConflict o0)
/-- write(III)I -/
def F11 (o : Ob) (x1 : Int32) (x2 : Int32) (x3 : Int32) : Option (Int32 × Ob) :=
 (F8 o x1).bind fun r59 => (if r59 = (0:Int32) then some ((-1:Int32), o) else (F9 o x2).bind fun r61 => (if r61 = (0:Int32) then some ((-2:Int32), o) else (aget (f_writeSet o) x1).bind fun y63 => (F10 x2).bind fun r64 => (aset (f_writeSet o) x1 (y63 ||| r64)).bind fun y65 => (F12 x1 x2).bind fun r66 => (aset (f_buffered o) r66 x3).bind fun y67 => some ((0:Int32), (s_buffered (s_writeSet o y65) y67))))
theorem tF11 (Ad : QAd n0 ad) (W : QW Z a0) (o : Ob) (x1 : Int32) (x2 : Int32) (x3 : Int32) {r : Int32 × Ob} (h : F11 o x1 x2 x3 = some r) : QTri l Z n0 ad 11 (0, qentry [.ref 0, .int x1, .int x2, .int x3] (pMaxL 11), [], (H0 o)) (some (Value.int r.1)) (H0 r.2) := by
 unfold F11 at h
 refine zS Ad W 2 (st' := (2, [vR 0, vI x1, vI x2, vI x3], [.int x1, .ref 0], (H0 o))) rfl ?_
 obtain ⟨r59, hr59, h⟩ := bind_eq_some_iff.mp h
 refine QTri.callP W (a := 0) (as := [.int x1]) (rest := []) (w := (some (.int r59))) (σ₁ := (H0 o)) rfl rfl rfl rfl rfl rfl rfl rfl (tF8 Ad W o x1 hr59) ?_
 rcases qite h with ⟨hc60, h⟩ | ⟨hc60, h⟩
 ·refine zF Ad W (t := 10) (f := 8) rfl (XT.i0_ne_f hc60) ?_
  refine zS Ad W 1 (st' := (9, [vR 0, vI x1, vI x2, vI x3], [.int (-1:Int32)], (H0 o))) rfl ?_
  obtain rfl := Option.some.inj h
  exact QTri.retI rfl rfl
 ·refine zT Ad W (t := 10) (f := 8) rfl (XT.i0_ne_t hc60) ?_
  refine zS Ad W 2 (st' := (12, [vR 0, vI x1, vI x2, vI x3], [.int x2, .ref 0], (H0 o))) rfl ?_
  obtain ⟨r61, hr61, h⟩ := bind_eq_some_iff.mp h
  refine QTri.callP W (a := 0) (as := [.int x2]) (rest := []) (w := (some (.int r61))) (σ₁ := (H0 o)) rfl rfl rfl rfl rfl rfl rfl rfl (tF9 Ad W o x2 hr61) ?_
  rcases qite h with ⟨hc62, h⟩ | ⟨hc62, h⟩
  ·refine zF Ad W (t := 21) (f := 18) rfl (XT.i0_ne_f hc62) ?_
   refine zS Ad W 1 (st' := (20, [vR 0, vI x1, vI x2, vI x3], [.int (-2:Int32)], (H0 o))) rfl ?_
   obtain rfl := Option.some.inj h
   exact QTri.retI rfl rfl
  ·refine zT Ad W (t := 21) (f := 18) rfl (XT.i0_ne_t hc62) ?_
   refine zS Ad W 6 (st' := (31, [vR 0, vI x1, vI x2, vI x3], [.int x1, .ref 6, .int x1, .ref 6], (H0 o))) rfl ?_
   obtain ⟨y63, hy63, h⟩ := bind_eq_some_iff.mp h
   refine zB Ad W (f := fun y63 => (32, [vR 0, vI x1, vI x2, vI x3], [.int y63, .int x1, .ref 6], (H0 o))) rfl hy63 ?_
   refine zS Ad W 2 (st' := (34, [vR 0, vI x1, vI x2, vI x3], [.int x2, .ref 0, .int y63, .int x1, .ref 6], (H0 o))) rfl ?_
   obtain ⟨r64, hr64, h⟩ := bind_eq_some_iff.mp h
   refine QTri.callP W (a := 0) (as := [.int x2]) (rest := [.int y63, .int x1, .ref 6]) (w := (some (.int r64))) (σ₁ := (H0 o)) rfl rfl rfl rfl rfl rfl rfl rfl (tF10 Ad W x2 hr64) ?_
   refine zS Ad W 1 (st' := (38, [vR 0, vI x1, vI x2, vI x3], [.int (y63 ||| r64), .int x1, .ref 6], (H0 o))) rfl ?_
   obtain ⟨y65, hy65, h⟩ := bind_eq_some_iff.mp h
   refine zB Ad W (f := fun y65 => (39, [vR 0, vI x1, vI x2, vI x3], [], (H0x13 o y65))) rfl hy65 ?_
   refine zS Ad W 5 (st' := (46, [vR 0, vI x1, vI x2, vI x3], [.int x2, .int x1, .ref 0, .ref 7], (H0x13 o y65))) rfl ?_
   obtain ⟨r66, hr66, h⟩ := bind_eq_some_iff.mp h
   refine QTri.callP W (a := 0) (as := [.int x1, .int x2]) (rest := [.ref 7]) (w := (some (.int r66))) (σ₁ := (H0x13 o y65)) rfl rfl rfl rfl rfl rfl rfl rfl (tF12 Ad W x1 x2 hr66) ?_
   refine zS Ad W 1 (st' := (50, [vR 0, vI x1, vI x2, vI x3], [.int x3, .int r66, .ref 7], (H0x13 o y65))) rfl ?_
   obtain ⟨y67, hy67, h⟩ := bind_eq_some_iff.mp h
   refine zB Ad W (f := fun y67 => (51, [vR 0, vI x1, vI x2, vI x3], [], (H0x14 o y65 y67))) rfl hy67 ?_
   refine zS Ad W 1 (st' := (52, [vR 0, vI x1, vI x2, vI x3], [.int (0:Int32)], (H0x14 o y65 y67))) rfl ?_
   have E68 : ((H0x14 o y65 y67) : QHeap) = (H0 (s_buffered (s_writeSet o y65) y67)) := by simp only [fs, H0, H0v, H0x14, s_writeSet, s_buffered]
   rw [E68]
   obtain rfl := Option.some.inj h
   exact QTri.retI rfl rfl
/-- isStale(I)Z -/
def F14 (o : Ob) (x1 : Int32) : Option (Int32) :=
 (aget (f_start o) x1).bind fun y75 => (if (f_window o) < ((f_commitCount o) - y75) then some (1:Int32) else some (0:Int32))
theorem tF14 (Ad : QAd n0 ad) (W : QW Z a0) (o : Ob) (x1 : Int32) {r : Int32} (h : F14 o x1 = some r) : QTri l Z n0 ad 14 (0, qentry [.ref 0, .int x1] (pMaxL 14), [], (H0 o)) (some (Value.int r)) (H0 o) := by
 unfold F14 at h
 refine zS Ad W 5 (st' := (9, [vR 0, vI x1], [.int x1, .ref 4, .int (f_commitCount o)], (H0 o))) rfl ?_
 obtain ⟨y75, hy75, h⟩ := bind_eq_some_iff.mp h
 refine zB Ad W (f := fun y75 => (10, [vR 0, vI x1], [.int y75, .int (f_commitCount o)], (H0 o))) rfl hy75 ?_
 refine zS Ad W 3 (st' := (15, [vR 0, vI x1], [.int (f_window o), .int ((f_commitCount o) - y75)], (H0 o))) rfl ?_
 rcases qite h with ⟨hc76, h⟩ | ⟨hc76, h⟩
 ·refine zF Ad W (t := 22) (f := 18) rfl (XT.ii_le_f hc76) ?_
  refine zS Ad W 2 (st' := (23, [vR 0, vI x1], [.int (1:Int32)], (H0 o))) rfl ?_
  obtain rfl := Option.some.inj h
  exact QTri.retZ rfl rfl
 ·refine zT Ad W (t := 22) (f := 18) rfl (XT.ii_le_t hc76) ?_
  refine zS Ad W 1 (st' := (23, [vR 0, vI x1], [.int (0:Int32)], (H0 o))) rfl ?_
  obtain rfl := Option.some.inj h
  exact QTri.retZ rfl rfl
def J15_58 (o : Ob) (x2 : Int32) (x3 : Int32) (x4 : Int32) : Option (((Int32)) ⊕ (Int32)) :=
  some (.inr (x4 + (1 : Int32)))
theorem tJ15_58 (Ad : QAd n0 ad) (W : QW Z a0) (o : Ob) (x2 : Int32) (x3 : Int32) (x4 : Int32) {r : ((Int32)) ⊕ (Int32)} {u : Option Value} {τ : QHeap} (h : J15_58 o x2 x3 x4 = some r) (hx0 : ∀ x : Int32, r = .inl x → u = (some (Value.int x)) ∧ τ = (H0 o)) (hc : ∀ x : Int32, r = .inr x → QTri l Z n0 ad 15 (17, [vR 0, none, vI x2, vI x3, vI x], [], (H0 o)) u τ) : QTri l Z n0 ad 15 (58, [vR 0, none, vI x2, vI x3, vI x4], [], (H0 o)) u τ := by
 unfold J15_58 at h
 refine zS Ad W 2 (st' := (17, [vR 0, none, vI x2, vI x3, vI (x4 + (1:Int32))], [], (H0 o))) rfl ?_
 obtain rfl := Option.some.inj h
 exact zM [tt,ff,tt,tt,tt] (hc (x4 + (1:Int32)) rfl)
def B15_17 (o : Ob) (x2 : Int32) (x3 : Int32) (v : Int32) : Option (((Int32)) ⊕ (Int32)) :=
  (if v < (f_keyCount o) then (if v < (32 : Int32) then (F10 v).bind fun r83 => (if (x2 &&& r83) = (0 : Int32) then (J15_58 o x2 x3 v) else (aget (f_version o) v).bind fun y85 => (if x3 < y85 then some (.inl v) else (J15_58 o x2 x3 v))) else some (.inl (-1 : Int32))) else some (.inl (-1 : Int32)))
theorem tB15_17 (Ad : QAd n0 ad) (W : QW Z a0) (o : Ob) (x2 : Int32) (x3 : Int32) (v : Int32) {r : ((Int32)) ⊕ (Int32)} {u : Option Value} {τ : QHeap} (h : B15_17 o x2 x3 v = some r) (hx0 : ∀ x : Int32, r = .inl x → u = (some (Value.int x)) ∧ τ = (H0 o)) (hc : ∀ x : Int32, r = .inr x → QTri l Z n0 ad 15 (17, [vR 0, none, vI x2, vI x3, vI x], [], (H0 o)) u τ) : QTri l Z n0 ad 15 (17, [vR 0, none, vI x2, vI x3, vI v], [], (H0 o)) u τ := by
 unfold B15_17 at h
 refine zS Ad W 3 (st' := (23, [vR 0, none, vI x2, vI x3, vI v], [.int (f_keyCount o), .int v], (H0 o))) rfl ?_
 rcases qite h with ⟨hc81, h⟩ | ⟨hc81, h⟩
 ·refine zF Ad W (t := 64) (f := 26) rfl (XT.ii_ge_f hc81) ?_
  refine zS Ad W 2 (st' := (30, [vR 0, none, vI x2, vI x3, vI v], [.int (32:Int32), .int v], (H0 o))) rfl ?_
  rcases qite h with ⟨hc82, h⟩ | ⟨hc82, h⟩
  ·refine zF Ad W (t := 64) (f := 33) rfl (XT.ii_ge_f hc82) ?_
   refine zS Ad W 3 (st' := (37, [vR 0, none, vI x2, vI x3, vI v], [.int v, .ref 0, .int x2], (H0 o))) rfl ?_
   obtain ⟨r83, hr83, h⟩ := bind_eq_some_iff.mp h
   refine QTri.callP W (a := 0) (as := [.int v]) (rest := [.int x2]) (w := (some (.int r83))) (σ₁ := (H0 o)) rfl rfl rfl rfl rfl rfl rfl rfl (tF10 Ad W v hr83) ?_
   refine zS Ad W 1 (st' := (41, [vR 0, none, vI x2, vI x3, vI v], [.int (x2 &&& r83)], (H0 o))) rfl ?_
   rcases qite h with ⟨hc84, h⟩ | ⟨hc84, h⟩
   ·refine zT Ad W (t := 58) (f := 44) rfl (XT.i0_eq_t hc84) ?_
    exact zM [tt,ff,tt,tt,tt] (tJ15_58 Ad W o x2 x3 v h hx0 hc)
   ·refine zF Ad W (t := 58) (f := 44) rfl (XT.i0_eq_f hc84) ?_
    refine zS Ad W 3 (st' := (50, [vR 0, none, vI x2, vI x3, vI v], [.int v, .ref 2], (H0 o))) rfl ?_
    obtain ⟨y85, hy85, h⟩ := bind_eq_some_iff.mp h
    refine zB Ad W (f := fun y85 => (51, [vR 0, none, vI x2, vI x3, vI v], [.int y85], (H0 o))) rfl hy85 ?_
    refine zS Ad W 1 (st' := (52, [vR 0, none, vI x2, vI x3, vI v], [.int x3, .int y85], (H0 o))) rfl ?_
    rcases qite h with ⟨hc86, h⟩ | ⟨hc86, h⟩
    ·refine zF Ad W (t := 58) (f := 55) rfl (XT.ii_le_f hc86) ?_
     refine zS Ad W 1 (st' := (57, [vR 0, none, vI x2, vI x3, vI v], [.int v], (H0 o))) rfl ?_
     obtain rfl := Option.some.inj h
     obtain ⟨rfl, rfl⟩ := hx0 v rfl
     exact QTri.retI rfl rfl
    ·refine zT Ad W (t := 58) (f := 55) rfl (XT.ii_le_t hc86) ?_
     exact zM [tt,ff,tt,tt,tt] (tJ15_58 Ad W o x2 x3 v h hx0 hc)
  ·refine zT Ad W (t := 64) (f := 33) rfl (XT.ii_ge_t hc82) ?_
   refine zS Ad W 1 (st' := (65, [vR 0, none, vI x2, vI x3, vI v], [.int (-1:Int32)], (H0 o))) rfl ?_
   obtain rfl := Option.some.inj h
   obtain ⟨rfl, rfl⟩ := hx0 (-1:Int32) rfl
   exact QTri.retI rfl rfl
 ·refine zT Ad W (t := 64) (f := 26) rfl (XT.ii_ge_t hc81) ?_
  refine zS Ad W 1 (st' := (65, [vR 0, none, vI x2, vI x3, vI v], [.int (-1:Int32)], (H0 o))) rfl ?_
  obtain rfl := Option.some.inj h
  obtain ⟨rfl, rfl⟩ := hx0 (-1:Int32) rfl
  exact QTri.retI rfl rfl
/-- leastConflict(I)I -/
def F15 (o : Ob) (x1 : Int32) : Option (Int32) :=
 (aget (f_readSet o) x1).bind fun y79 => (aget (f_start o) x1).bind fun y80 => (loopN (B15_17 o y79 y80) qN (0:Int32)).bind fun e87 => some e87
theorem tF15 (Ad : QAd n0 ad) (W : QW Z a0) (o : Ob) (x1 : Int32) {r : Int32} (h : F15 o x1 = some r) : QTri l Z n0 ad 15 (0, qentry [.ref 0, .int x1] (pMaxL 15), [], (H0 o)) (some (Value.int r)) (H0 o) := by
 unfold F15 at h
 refine zS Ad W 3 (st' := (5, [vR 0, vI x1, none, none, none], [.int x1, .ref 5], (H0 o))) rfl ?_
 obtain ⟨y79, hy79, h⟩ := bind_eq_some_iff.mp h
 refine zB Ad W (f := fun y79 => (6, [vR 0, vI x1, none, none, none], [.int y79], (H0 o))) rfl hy79 ?_
 refine zS Ad W 4 (st' := (12, [vR 0, vI x1, vI y79, none, none], [.int x1, .ref 4], (H0 o))) rfl ?_
 obtain ⟨y80, hy80, h⟩ := bind_eq_some_iff.mp h
 refine zB Ad W (f := fun y80 => (13, [vR 0, vI x1, vI y79, none, none], [.int y80], (H0 o))) rfl hy80 ?_
 refine zS Ad W 3 (st' := (17, [vR 0, vI x1, vI y79, vI y80, vI (0:Int32)], [], (H0 o))) rfl ?_
 obtain ⟨e87, he87, h⟩ := bind_eq_some_iff.mp h
 refine zM [tt,ff,tt,tt,tt] (loopN_tri (B := B15_17 o y79 y80) (T := fun lv88 => QTri l Z n0 ad 15 (17, [vR 0, none, vI y79, vI y80, vI lv88], [], (H0 o)) (some (Value.int r)) (H0 o)) (KE := fun e87a => (some (Value.int r)) = (some (Value.int e87a)) ∧ (H0 o) = (H0 o)) (fun lv88 r hB hE hC => tB15_17 Ad W o y79 y80 lv88 hB (fun x q => hE _ q) (fun x q => hC x q)) qN (0:Int32) e87 he87 ?_)
 obtain rfl := Option.some.inj h
 exact ⟨rfl, rfl⟩
def H0x15 (o0 : Ob) (a0_10 : Int32) : QHeap := H0v (f_value o0) (f_version o0) (f_active o0) (f_start o0) (f_readSet o0) (f_writeSet o0) (f_buffered o0) (f_keyCount o0) (f_slotCount o0) (f_window o0) a0_10 (f_abortCount o0) (f_lastConflict o0)
def J16_79 (o : Ob) (x1 : Int32) (x2 : Int32) (x3 : Int32) (x4 : Int32) : Option (((Ob)) ⊕ (Int32 × Ob)) :=
  some (.inr ((x4 + (1 : Int32)), o))
theorem tJ16_79 (Ad : QAd n0 ad) (W : QW Z a0) (o : Ob) (x1 : Int32) (x2 : Int32) (x3 : Int32) (x4 : Int32) {r : ((Ob)) ⊕ (Int32 × Ob)} {u : Option Value} {τ : QHeap} (h : J16_79 o x1 x2 x3 x4 = some r) (hx0 : ∀ x : Ob, r = .inl x → QTri l Z n0 ad 16 (85, [vR 0, vI x1, vI x2, none, none], [], (H0 x)) u τ) (hc : ∀ x : Int32 × Ob, r = .inr x → QTri l Z n0 ad 16 (25, [vR 0, vI x1, vI x2, vI x3, vI x.1], [], (H0 x.2)) u τ) : QTri l Z n0 ad 16 (79, [vR 0, vI x1, vI x2, vI x3, vI x4], [], (H0 o)) u τ := by
 unfold J16_79 at h
 refine zS Ad W 2 (st' := (25, [vR 0, vI x1, vI x2, vI x3, vI (x4 + (1:Int32))], [], (H0 o))) rfl ?_
 obtain rfl := Option.some.inj h
 exact zM [tt,tt,tt,tt,tt] (hc ((x4 + (1:Int32)), o) rfl)
def H0x16 (o0 : Ob) (a0_0 : List Int32) : QHeap := H0v a0_0 (f_version o0) (f_active o0) (f_start o0) (f_readSet o0) (f_writeSet o0) (f_buffered o0) (f_keyCount o0) (f_slotCount o0) (f_window o0) (f_commitCount o0) (f_abortCount o0) (f_lastConflict o0)
def H0x17 (o0 : Ob) (a0_0 : List Int32) (a0_1 : List Int32) : QHeap := H0v a0_0 a0_1 (f_active o0) (f_start o0) (f_readSet o0) (f_writeSet o0) (f_buffered o0) (f_keyCount o0) (f_slotCount o0) (f_window o0) (f_commitCount o0) (f_abortCount o0) (f_lastConflict o0)
def B16_25 (x1 : Int32) (x2 : Int32) (x3 : Int32) (v : Int32 × Ob) : Option (((Ob)) ⊕ (Int32 × Ob)) :=
  (if v.1 < (f_keyCount v.2) then (if v.1 < (32 : Int32) then (F10 v.1).bind fun r95 => (if (x3 &&& r95) = (0 : Int32) then (J16_79 v.2 x1 x2 x3 v.1) else (F12 x1 v.1).bind fun r97 => (aget (f_buffered v.2) r97).bind fun y98 => (aset (f_value v.2) v.1 y98).bind fun y99 => (aset (f_version v.2) v.1 x2).bind fun y100 => (J16_79 (s_version (s_value v.2 y99) y100) x1 x2 x3 v.1)) else some (.inl v.2)) else some (.inl v.2))
theorem tB16_25 (Ad : QAd n0 ad) (W : QW Z a0) (x1 : Int32) (x2 : Int32) (x3 : Int32) (v : Int32 × Ob) {r : ((Ob)) ⊕ (Int32 × Ob)} {u : Option Value} {τ : QHeap} (h : B16_25 x1 x2 x3 v = some r) (hx0 : ∀ x : Ob, r = .inl x → QTri l Z n0 ad 16 (85, [vR 0, vI x1, vI x2, none, none], [], (H0 x)) u τ) (hc : ∀ x : Int32 × Ob, r = .inr x → QTri l Z n0 ad 16 (25, [vR 0, vI x1, vI x2, vI x3, vI x.1], [], (H0 x.2)) u τ) : QTri l Z n0 ad 16 (25, [vR 0, vI x1, vI x2, vI x3, vI v.1], [], (H0 v.2)) u τ := by
 unfold B16_25 at h
 refine zS Ad W 3 (st' := (31, [vR 0, vI x1, vI x2, vI x3, vI v.1], [.int (f_keyCount v.2), .int v.1], (H0 v.2))) rfl ?_
 rcases qite h with ⟨hc93, h⟩ | ⟨hc93, h⟩
 ·refine zF Ad W (t := 85) (f := 34) rfl (XT.ii_ge_f hc93) ?_
  refine zS Ad W 2 (st' := (38, [vR 0, vI x1, vI x2, vI x3, vI v.1], [.int (32:Int32), .int v.1], (H0 v.2))) rfl ?_
  rcases qite h with ⟨hc94, h⟩ | ⟨hc94, h⟩
  ·refine zF Ad W (t := 85) (f := 41) rfl (XT.ii_ge_f hc94) ?_
   refine zS Ad W 3 (st' := (45, [vR 0, vI x1, vI x2, vI x3, vI v.1], [.int v.1, .ref 0, .int x3], (H0 v.2))) rfl ?_
   obtain ⟨r95, hr95, h⟩ := bind_eq_some_iff.mp h
   refine QTri.callP W (a := 0) (as := [.int v.1]) (rest := [.int x3]) (w := (some (.int r95))) (σ₁ := (H0 v.2)) rfl rfl rfl rfl rfl rfl rfl rfl (tF10 Ad W v.1 hr95) ?_
   refine zS Ad W 1 (st' := (49, [vR 0, vI x1, vI x2, vI x3, vI v.1], [.int (x3 &&& r95)], (H0 v.2))) rfl ?_
   rcases qite h with ⟨hc96, h⟩ | ⟨hc96, h⟩
   ·refine zT Ad W (t := 79) (f := 52) rfl (XT.i0_eq_t hc96) ?_
    exact zM [tt,tt,tt,tt,tt] (tJ16_79 Ad W v.2 x1 x2 x3 v.1 h hx0 hc)
   ·refine zF Ad W (t := 79) (f := 52) rfl (XT.i0_eq_f hc96) ?_
    refine zS Ad W 8 (st' := (66, [vR 0, vI x1, vI x2, vI x3, vI v.1], [.int v.1, .int x1, .ref 0, .ref 7, .int v.1, .ref 1], (H0 v.2))) rfl ?_
    obtain ⟨r97, hr97, h⟩ := bind_eq_some_iff.mp h
    refine QTri.callP W (a := 0) (as := [.int x1, .int v.1]) (rest := [.ref 7, .int v.1, .ref 1]) (w := (some (.int r97))) (σ₁ := (H0 v.2)) rfl rfl rfl rfl rfl rfl rfl rfl (tF12 Ad W x1 v.1 hr97) ?_
    obtain ⟨y98, hy98, h⟩ := bind_eq_some_iff.mp h
    refine zB Ad W (f := fun y98 => (70, [vR 0, vI x1, vI x2, vI x3, vI v.1], [.int y98, .int v.1, .ref 1], (H0 v.2))) rfl hy98 ?_
    obtain ⟨y99, hy99, h⟩ := bind_eq_some_iff.mp h
    refine zB Ad W (f := fun y99 => (71, [vR 0, vI x1, vI x2, vI x3, vI v.1], [], (H0x16 v.2 y99))) rfl hy99 ?_
    refine zS Ad W 4 (st' := (78, [vR 0, vI x1, vI x2, vI x3, vI v.1], [.int x2, .int v.1, .ref 2], (H0x16 v.2 y99))) rfl ?_
    obtain ⟨y100, hy100, h⟩ := bind_eq_some_iff.mp h
    refine zB Ad W (f := fun y100 => (79, [vR 0, vI x1, vI x2, vI x3, vI v.1], [], (H0x17 v.2 y99 y100))) rfl hy100 ?_
    have E101 : ((H0x17 v.2 y99 y100) : QHeap) = (H0 (s_version (s_value v.2 y99) y100)) := by simp only [fs, H0, H0v, H0x17, s_value, s_version]
    rw [E101]
    exact zM [tt,tt,tt,tt,tt] (tJ16_79 Ad W (s_version (s_value v.2 y99) y100) x1 x2 x3 v.1 h hx0 hc)
  ·refine zT Ad W (t := 85) (f := 41) rfl (XT.ii_ge_t hc94) ?_
   obtain rfl := Option.some.inj h
   exact zM [tt,tt,tt,ff,ff] (hx0 v.2 rfl)
 ·refine zT Ad W (t := 85) (f := 34) rfl (XT.ii_ge_t hc93) ?_
  obtain rfl := Option.some.inj h
  exact zM [tt,tt,tt,ff,ff] (hx0 v.2 rfl)
/-- endTx(I)V -/
def F17 (o : Ob) (x1 : Int32) : Option (Ob) :=
 (F6 o x1).bind fun r104 => some r104
theorem tF17 (Ad : QAd n0 ad) (W : QW Z a0) (o : Ob) (x1 : Int32) {r : Ob} (h : F17 o x1 = some r) : QTri l Z n0 ad 17 (0, qentry [.ref 0, .int x1] (pMaxL 17), [], (H0 o)) (none : Option Value) (H0 r) := by
 unfold F17 at h
 refine zS Ad W 2 (st' := (2, [vR 0, vI x1], [.int x1, .ref 0], (H0 o))) rfl ?_
 obtain ⟨r104, hr104, h⟩ := bind_eq_some_iff.mp h
 refine QTri.callP W (a := 0) (as := [.int x1]) (rest := []) (w := none) (σ₁ := (H0 r104)) rfl rfl rfl rfl rfl rfl rfl rfl (tF6 Ad W o x1 hr104) ?_
 obtain rfl := Option.some.inj h
 exact QTri.ret0 rfl rfl
def H0x18 (o0 : Ob) (a0_12 : Int32) : QHeap := H0v (f_value o0) (f_version o0) (f_active o0) (f_start o0) (f_readSet o0) (f_writeSet o0) (f_buffered o0) (f_keyCount o0) (f_slotCount o0) (f_window o0) (f_commitCount o0) (f_abortCount o0) a0_12
def J16_85 (o : Ob) (x1 : Int32) (x2 : Int32) : Option (Int32 × Ob) :=
  (F17 o x1).bind fun r105 => some (x2, (s_lastConflict r105 (-1 : Int32)))
theorem tJ16_85 (Ad : QAd n0 ad) (W : QW Z a0) (o : Ob) (x1 : Int32) (x2 : Int32) {r : Int32 × Ob} (h : J16_85 o x1 x2 = some r) : QTri l Z n0 ad 16 (85, [vR 0, vI x1, vI x2, none, none], [], (H0 o)) (some (Value.int r.1)) (H0 r.2) := by
 unfold J16_85 at h
 refine zS Ad W 2 (st' := (87, [vR 0, vI x1, vI x2, none, none], [.int x1, .ref 0], (H0 o))) rfl ?_
 obtain ⟨r105, hr105, h⟩ := bind_eq_some_iff.mp h
 refine QTri.callP W (a := 0) (as := [.int x1]) (rest := []) (w := none) (σ₁ := (H0 r105)) rfl rfl rfl rfl rfl rfl rfl rfl (tF17 Ad W o x1 hr105) ?_
 refine zS Ad W 3 (st' := (95, [vR 0, vI x1, vI x2, none, none], [], (H0x18 r105 (-1:Int32)))) rfl ?_
 refine zS Ad W 1 (st' := (96, [vR 0, vI x1, vI x2, none, none], [.int x2], (H0x18 r105 (-1:Int32)))) rfl ?_
 have E106 : ((H0x18 r105 (-1:Int32)) : QHeap) = (H0 (s_lastConflict r105 (-1:Int32))) := by simp only [fs, H0, H0v, H0x18, s_lastConflict]
 rw [E106]
 obtain rfl := Option.some.inj h
 exact QTri.retI rfl rfl
/-- install(I)I -/
def F16 (o : Ob) (x1 : Int32) : Option (Int32 × Ob) :=
 (aget (f_writeSet o) x1).bind fun y91 => (loopN (B16_25 x1 ((f_commitCount o) + (1:Int32)) y91) qN ((0:Int32), (s_commitCount o ((f_commitCount o) + (1:Int32))))).bind fun e102 => (J16_85 e102 x1 ((f_commitCount o) + (1:Int32)))
theorem tF16 (Ad : QAd n0 ad) (W : QW Z a0) (o : Ob) (x1 : Int32) {r : Int32 × Ob} (h : F16 o x1 = some r) : QTri l Z n0 ad 16 (0, qentry [.ref 0, .int x1] (pMaxL 16), [], (H0 o)) (some (Value.int r.1)) (H0 r.2) := by
 unfold F16 at h
 refine zS Ad W 6 (st' := (10, [vR 0, vI x1, none, none, none], [], (H0x15 o ((f_commitCount o) + (1:Int32))))) rfl ?_
 refine zS Ad W 6 (st' := (20, [vR 0, vI x1, vI ((f_commitCount o) + (1:Int32)), none, none], [.int x1, .ref 6], (H0x15 o ((f_commitCount o) + (1:Int32))))) rfl ?_
 obtain ⟨y91, hy91, h⟩ := bind_eq_some_iff.mp h
 refine zB Ad W (f := fun y91 => (21, [vR 0, vI x1, vI ((f_commitCount o) + (1:Int32)), none, none], [.int y91], (H0x15 o ((f_commitCount o) + (1:Int32))))) rfl hy91 ?_
 refine zS Ad W 3 (st' := (25, [vR 0, vI x1, vI ((f_commitCount o) + (1:Int32)), vI y91, vI (0:Int32)], [], (H0x15 o ((f_commitCount o) + (1:Int32))))) rfl ?_
 have E92 : ((H0x15 o ((f_commitCount o) + (1:Int32))) : QHeap) = (H0 (s_commitCount o ((f_commitCount o) + (1:Int32)))) := by simp only [fs, H0, H0v, H0x15, s_commitCount]
 rw [E92]
 obtain ⟨e102, he102, h⟩ := bind_eq_some_iff.mp h
 refine zM [tt,tt,tt,tt,tt] (loopN_tri (B := B16_25 x1 ((f_commitCount o) + (1:Int32)) y91) (T := fun lv103 => QTri l Z n0 ad 16 (25, [vR 0, vI x1, vI ((f_commitCount o) + (1:Int32)), vI y91, vI lv103.1], [], (H0 lv103.2)) (some (Value.int r.1)) (H0 r.2)) (KE := fun e102a => QTri l Z n0 ad 16 (85, [vR 0, vI x1, vI ((f_commitCount o) + (1:Int32)), none, none], [], (H0 e102a)) (some (Value.int r.1)) (H0 r.2)) (fun lv103 r hB hE hC => tB16_25 Ad W x1 ((f_commitCount o) + (1:Int32)) y91 lv103 hB (fun x q => hE _ q) (fun x q => hC x q)) qN ((0:Int32), (s_commitCount o ((f_commitCount o) + (1:Int32)))) e102 he102 ?_)
 exact zM [tt,tt,tt,ff,ff] (tJ16_85 Ad W e102 x1 ((f_commitCount o) + (1:Int32)) h)
def H0x19 (o0 : Ob) (a0_11 : Int32) : QHeap := H0v (f_value o0) (f_version o0) (f_active o0) (f_start o0) (f_readSet o0) (f_writeSet o0) (f_buffered o0) (f_keyCount o0) (f_slotCount o0) (f_window o0) (f_commitCount o0) a0_11 (f_lastConflict o0)
def H0x20 (o0 : Ob) (a0_11 : Int32) (a0_12 : Int32) : QHeap := H0v (f_value o0) (f_version o0) (f_active o0) (f_start o0) (f_readSet o0) (f_writeSet o0) (f_buffered o0) (f_keyCount o0) (f_slotCount o0) (f_window o0) (f_commitCount o0) a0_11 a0_12
/-- failCommit(III)I -/
def F18 (o : Ob) (x1 : Int32) (x2 : Int32) (x3 : Int32) : Option (Int32 × Ob) :=
 (F17 o x1).bind fun r108 => some (x3, (s_lastConflict (s_abortCount r108 ((f_abortCount r108) + (1:Int32))) x2))
theorem tF18 (Ad : QAd n0 ad) (W : QW Z a0) (o : Ob) (x1 : Int32) (x2 : Int32) (x3 : Int32) {r : Int32 × Ob} (h : F18 o x1 x2 x3 = some r) : QTri l Z n0 ad 18 (0, qentry [.ref 0, .int x1, .int x2, .int x3] (pMaxL 18), [], (H0 o)) (some (Value.int r.1)) (H0 r.2) := by
 unfold F18 at h
 refine zS Ad W 2 (st' := (2, [vR 0, vI x1, vI x2, vI x3], [.int x1, .ref 0], (H0 o))) rfl ?_
 obtain ⟨r108, hr108, h⟩ := bind_eq_some_iff.mp h
 refine QTri.callP W (a := 0) (as := [.int x1]) (rest := []) (w := none) (σ₁ := (H0 r108)) rfl rfl rfl rfl rfl rfl rfl rfl (tF17 Ad W o x1 hr108) ?_
 refine zS Ad W 6 (st' := (15, [vR 0, vI x1, vI x2, vI x3], [], (H0x19 r108 ((f_abortCount r108) + (1:Int32))))) rfl ?_
 refine zS Ad W 3 (st' := (20, [vR 0, vI x1, vI x2, vI x3], [], (H0x20 r108 ((f_abortCount r108) + (1:Int32)) x2))) rfl ?_
 refine zS Ad W 1 (st' := (21, [vR 0, vI x1, vI x2, vI x3], [.int x3], (H0x20 r108 ((f_abortCount r108) + (1:Int32)) x2))) rfl ?_
 have E109 : ((H0x20 r108 ((f_abortCount r108) + (1:Int32)) x2) : QHeap) = (H0 (s_lastConflict (s_abortCount r108 ((f_abortCount r108) + (1:Int32))) x2)) := by simp only [fs, H0, H0v, H0x20, s_abortCount, s_lastConflict]
 rw [E109]
 obtain rfl := Option.some.inj h
 exact QTri.retI rfl rfl
/-- commit(I)I -/
def F13 (o : Ob) (x1 : Int32) : Option (Int32 × Ob) :=
 (F8 o x1).bind fun r73 => (if r73 = (0:Int32) then some ((-1:Int32), o) else (F14 o x1).bind fun r77 => (if r77 = (0:Int32) then (F15 o x1).bind fun r89 => (if r89 < (0:Int32) then (F16 o x1).bind fun r107 => some (r107.1, r107.2) else (F18 o x1 r89 (-3:Int32)).bind fun r110 => some (r110.1, r110.2)) else (F18 o x1 (-1:Int32) (-4:Int32)).bind fun r111 => some (r111.1, r111.2)))
theorem tF13 (Ad : QAd n0 ad) (W : QW Z a0) (o : Ob) (x1 : Int32) {r : Int32 × Ob} (h : F13 o x1 = some r) : QTri l Z n0 ad 13 (0, qentry [.ref 0, .int x1] (pMaxL 13), [], (H0 o)) (some (Value.int r.1)) (H0 r.2) := by
 unfold F13 at h
 refine zS Ad W 2 (st' := (2, [vR 0, vI x1, none], [.int x1, .ref 0], (H0 o))) rfl ?_
 obtain ⟨r73, hr73, h⟩ := bind_eq_some_iff.mp h
 refine QTri.callP W (a := 0) (as := [.int x1]) (rest := []) (w := (some (.int r73))) (σ₁ := (H0 o)) rfl rfl rfl rfl rfl rfl rfl rfl (tF8 Ad W o x1 hr73) ?_
 rcases qite h with ⟨hc74, h⟩ | ⟨hc74, h⟩
 ·refine zF Ad W (t := 10) (f := 8) rfl (XT.i0_ne_f hc74) ?_
  refine zS Ad W 1 (st' := (9, [vR 0, vI x1, none], [.int (-1:Int32)], (H0 o))) rfl ?_
  obtain rfl := Option.some.inj h
  exact QTri.retI rfl rfl
 ·refine zT Ad W (t := 10) (f := 8) rfl (XT.i0_ne_t hc74) ?_
  refine zS Ad W 2 (st' := (12, [vR 0, vI x1, none], [.int x1, .ref 0], (H0 o))) rfl ?_
  obtain ⟨r77, hr77, h⟩ := bind_eq_some_iff.mp h
  refine QTri.callP W (a := 0) (as := [.int x1]) (rest := []) (w := (some (.int r77))) (σ₁ := (H0 o)) rfl rfl rfl rfl rfl rfl rfl rfl (tF14 Ad W o x1 hr77) ?_
  rcases qite h with ⟨hc78, h⟩ | ⟨hc78, h⟩
  ·refine zT Ad W (t := 27) (f := 18) rfl (XT.i0_eq_t hc78) ?_
   refine zS Ad W 2 (st' := (29, [vR 0, vI x1, none], [.int x1, .ref 0], (H0 o))) rfl ?_
   obtain ⟨r89, hr89, h⟩ := bind_eq_some_iff.mp h
   refine QTri.callP W (a := 0) (as := [.int x1]) (rest := []) (w := (some (.int r89))) (σ₁ := (H0 o)) rfl rfl rfl rfl rfl rfl rfl rfl (tF15 Ad W o x1 hr89) ?_
   refine zS Ad W 2 (st' := (34, [vR 0, vI x1, vI r89], [.int r89], (H0 o))) rfl ?_
   rcases qite h with ⟨hc90, h⟩ | ⟨hc90, h⟩
   ·refine zT Ad W (t := 46) (f := 37) rfl (XT.i0_lt_t hc90) ?_
    refine zS Ad W 2 (st' := (48, [vR 0, vI x1, vI r89], [.int x1, .ref 0], (H0 o))) rfl ?_
    obtain ⟨r107, hr107, h⟩ := bind_eq_some_iff.mp h
    refine QTri.callP W (a := 0) (as := [.int x1]) (rest := []) (w := (some (.int r107.1))) (σ₁ := (H0 r107.2)) rfl rfl rfl rfl rfl rfl rfl rfl (tF16 Ad W o x1 hr107) ?_
    obtain rfl := Option.some.inj h
    exact QTri.retI rfl rfl
   ·refine zF Ad W (t := 46) (f := 37) rfl (XT.i0_lt_f hc90) ?_
    refine zS Ad W 4 (st' := (42, [vR 0, vI x1, vI r89], [.int (-3:Int32), .int r89, .int x1, .ref 0], (H0 o))) rfl ?_
    obtain ⟨r110, hr110, h⟩ := bind_eq_some_iff.mp h
    refine QTri.callP W (a := 0) (as := [.int x1, .int r89, .int (-3:Int32)]) (rest := []) (w := (some (.int r110.1))) (σ₁ := (H0 r110.2)) rfl rfl rfl rfl rfl rfl rfl rfl (tF18 Ad W o x1 r89 (-3:Int32) hr110) ?_
    obtain rfl := Option.some.inj h
    exact QTri.retI rfl rfl
  ·refine zF Ad W (t := 27) (f := 18) rfl (XT.i0_eq_f hc78) ?_
   refine zS Ad W 4 (st' := (23, [vR 0, vI x1, none], [.int (-4:Int32), .int (-1:Int32), .int x1, .ref 0], (H0 o))) rfl ?_
   obtain ⟨r111, hr111, h⟩ := bind_eq_some_iff.mp h
   refine QTri.callP W (a := 0) (as := [.int x1, .int (-1:Int32), .int (-4:Int32)]) (rest := []) (w := (some (.int r111.1))) (σ₁ := (H0 r111.2)) rfl rfl rfl rfl rfl rfl rfl rfl (tF18 Ad W o x1 (-1:Int32) (-4:Int32) hr111) ?_
   obtain rfl := Option.some.inj h
   exact QTri.retI rfl rfl
def B0_186 (p0 : Ob) (x3 : Int32) (x4 : Int32) (x5 : Int32) (x8 : Int32) (x9 : Int32) (x10 : Int32) (x12 : Int32) (x13 : Int32) (v : Int32 × Int32) : Option (((Int32)) ⊕ (Int32 × Int32)) :=
  (if v.2 < (0 : Int32) then some (.inl v.1) else some (.inr ((if ((x13 >>> (v.2 &&& 31)) &&& (1 : Int32)) = (0 : Int32) then v.1 else v.2), (v.2 + (-1 : Int32)))))
theorem tB0_186 (Ad : QAd n0 ad) (W : QW Z a0) (p0 : Ob) (x3 : Int32) (x4 : Int32) (x5 : Int32) (x8 : Int32) (x9 : Int32) (x10 : Int32) (x12 : Int32) (x13 : Int32) (v : Int32 × Int32) {r : ((Int32)) ⊕ (Int32 × Int32)} {u : Option Value} {τ : QHeap} (h : B0_186 p0 x3 x4 x5 x8 x9 x10 x12 x13 v = some r) (hx0 : ∀ x : Int32, r = .inl x → QTri l Z n0 ad 0 (211, [none, none, none, vI x3, vI x4, vI x5, none, none, vI x8, vI x9, vI x10, vR 0, vI x12, vI x13, vI x, none, none, none, none], [], (H0 p0)) u τ) (hc : ∀ x : Int32 × Int32, r = .inr x → QTri l Z n0 ad 0 (186, [none, none, none, vI x3, vI x4, vI x5, none, none, vI x8, vI x9, vI x10, vR 0, vI x12, vI x13, vI x.1, vI x.2, none, none, none], [], (H0 p0)) u τ) : QTri l Z n0 ad 0 (186, [none, none, none, vI x3, vI x4, vI x5, none, none, vI x8, vI x9, vI x10, vR 0, vI x12, vI x13, vI v.1, vI v.2, none, none, none], [], (H0 p0)) u τ := by
 unfold B0_186 at h
 refine zS Ad W 1 (st' := (188, [none, none, none, vI x3, vI x4, vI x5, none, none, vI x8, vI x9, vI x10, vR 0, vI x12, vI x13, vI v.1, vI v.2, none, none, none], [.int v.2], (H0 p0))) rfl ?_
 rcases qite h with ⟨hc117, h⟩ | ⟨hc117, h⟩
 ·refine zT Ad W (t := 211) (f := 191) rfl (XT.i0_lt_t hc117) ?_
  obtain rfl := Option.some.inj h
  exact zM [ff,ff,ff,tt,tt,tt,ff,ff,tt,tt,tt,tt,tt,tt,tt,ff,ff,ff,ff] (hx0 v.1 rfl)
 ·refine zF Ad W (t := 211) (f := 191) rfl (XT.i0_lt_f hc117) ?_
  refine zS Ad W 5 (st' := (198, [none, none, none, vI x3, vI x4, vI x5, none, none, vI x8, vI x9, vI x10, vR 0, vI x12, vI x13, vI v.1, vI v.2, none, none, none], [.int ((x13 >>> (v.2 &&& 31)) &&& (1:Int32))], (H0 p0))) rfl ?_
  have K119 : ∀ z118 : Int32, z118 = (if ((x13 >>> (v.2 &&& 31)) &&& (1:Int32)) = (0:Int32) then v.1 else v.2) → QTri l Z n0 ad 0 (205, [none, none, none, vI x3, vI x4, vI x5, none, none, vI x8, vI x9, vI x10, vR 0, vI x12, vI x13, vI z118, vI v.2, none, none, none], [], (H0 p0)) u τ := by
   intro z118 ez118
   subst ez118
   refine zS Ad W 2 (st' := (186, [none, none, none, vI x3, vI x4, vI x5, none, none, vI x8, vI x9, vI x10, vR 0, vI x12, vI x13, vI (if ((x13 >>> (v.2 &&& 31)) &&& (1:Int32)) = (0:Int32) then v.1 else v.2), vI (v.2 + (-1:Int32)), none, none, none], [], (H0 p0))) rfl ?_
   obtain rfl := Option.some.inj h
   exact zM [ff,ff,ff,tt,tt,tt,ff,ff,tt,tt,tt,tt,tt,tt,tt,tt,ff,ff,ff] (hc ((if ((x13 >>> (v.2 &&& 31)) &&& (1:Int32)) = (0:Int32) then v.1 else v.2), (v.2 + (-1:Int32))) rfl)
  rcases em (((x13 >>> (v.2 &&& 31)) &&& (1:Int32)) = (0:Int32)) with hc120 | hc120
  ·refine zT Ad W (t := 205) (f := 201) rfl (XT.i0_eq_t hc120) ?_
   exact zM [ff,ff,ff,tt,tt,tt,ff,ff,tt,tt,tt,tt,tt,tt,tt,tt,ff,ff,ff] (K119 _ (if_pos hc120).symm)
  ·refine zF Ad W (t := 205) (f := 201) rfl (XT.i0_eq_f hc120) ?_
   refine zS Ad W 2 (st' := (205, [none, none, none, vI x3, vI x4, vI x5, none, none, vI x8, vI x9, vI x10, vR 0, vI x12, vI x13, vI v.2, vI v.2, none, none, none], [], (H0 p0))) rfl ?_
   exact zM [ff,ff,ff,tt,tt,tt,ff,ff,tt,tt,tt,tt,tt,tt,tt,tt,ff,ff,ff] (K119 _ (if_neg hc120).symm)
/-- getCommitCount()I -/
def F19 (o : Ob) : Option (Int32) :=
 some (f_commitCount o)
theorem tF19 (Ad : QAd n0 ad) (W : QW Z a0) (o : Ob) {r : Int32} (h : F19 o = some r) : QTri l Z n0 ad 19 (0, qentry [.ref 0] (pMaxL 19), [], (H0 o)) (some (Value.int r)) (H0 o) := by
 unfold F19 at h
 refine zS Ad W 2 (st' := (4, [vR 0], [.int (f_commitCount o)], (H0 o))) rfl ?_
 obtain rfl := Option.some.inj h
 exact QTri.retI rfl rfl
/-- getAbortCount()I -/
def F20 (o : Ob) : Option (Int32) :=
 some (f_abortCount o)
theorem tF20 (Ad : QAd n0 ad) (W : QW Z a0) (o : Ob) {r : Int32} (h : F20 o = some r) : QTri l Z n0 ad 20 (0, qentry [.ref 0] (pMaxL 20), [], (H0 o)) (some (Value.int r)) (H0 o) := by
 unfold F20 at h
 refine zS Ad W 2 (st' := (4, [vR 0], [.int (f_abortCount o)], (H0 o))) rfl ?_
 obtain rfl := Option.some.inj h
 exact QTri.retI rfl rfl
/-- getLastConflictKey()I -/
def F21 (o : Ob) : Option (Int32) :=
 some (f_lastConflict o)
theorem tF21 (Ad : QAd n0 ad) (W : QW Z a0) (o : Ob) {r : Int32} (h : F21 o = some r) : QTri l Z n0 ad 21 (0, qentry [.ref 0] (pMaxL 21), [], (H0 o)) (some (Value.int r)) (H0 o) := by
 unfold F21 at h
 refine zS Ad W 2 (st' := (4, [vR 0], [.int (f_lastConflict o)], (H0 o))) rfl ?_
 obtain rfl := Option.some.inj h
 exact QTri.retI rfl rfl
/-- isActive(I)Z -/
def F22 (o : Ob) (x1 : Int32) : Option (Int32) :=
 (F8 o x1).bind fun r145 => some (r145 &&& 1)
theorem tF22 (Ad : QAd n0 ad) (W : QW Z a0) (o : Ob) (x1 : Int32) {r : Int32} (h : F22 o x1 = some r) : QTri l Z n0 ad 22 (0, qentry [.ref 0, .int x1] (pMaxL 22), [], (H0 o)) (some (Value.int r)) (H0 o) := by
 unfold F22 at h
 refine zS Ad W 2 (st' := (2, [vR 0, vI x1], [.int x1, .ref 0], (H0 o))) rfl ?_
 obtain ⟨r145, hr145, h⟩ := bind_eq_some_iff.mp h
 refine QTri.callP W (a := 0) (as := [.int x1]) (rest := []) (w := (some (.int r145))) (σ₁ := (H0 o)) rfl rfl rfl rfl rfl rfl rfl rfl (tF8 Ad W o x1 hr145) ?_
 obtain rfl := Option.some.inj h
 exact QTri.retZ rfl rfl
/-- getValue(I)I -/
def F23 (o : Ob) (x1 : Int32) : Option (Int32) :=
 (F9 o x1).bind fun r164 => (if r164 = (0:Int32) then some (0:Int32) else (aget (f_value o) x1).bind fun y166 => some y166)
theorem tF23 (Ad : QAd n0 ad) (W : QW Z a0) (o : Ob) (x1 : Int32) {r : Int32} (h : F23 o x1 = some r) : QTri l Z n0 ad 23 (0, qentry [.ref 0, .int x1] (pMaxL 23), [], (H0 o)) (some (Value.int r)) (H0 o) := by
 unfold F23 at h
 refine zS Ad W 2 (st' := (2, [vR 0, vI x1], [.int x1, .ref 0], (H0 o))) rfl ?_
 obtain ⟨r164, hr164, h⟩ := bind_eq_some_iff.mp h
 refine QTri.callP W (a := 0) (as := [.int x1]) (rest := []) (w := (some (.int r164))) (σ₁ := (H0 o)) rfl rfl rfl rfl rfl rfl rfl rfl (tF9 Ad W o x1 hr164) ?_
 rcases qite h with ⟨hc165, h⟩ | ⟨hc165, h⟩
 ·refine zF Ad W (t := 10) (f := 8) rfl (XT.i0_ne_f hc165) ?_
  refine zS Ad W 1 (st' := (9, [vR 0, vI x1], [.int (0:Int32)], (H0 o))) rfl ?_
  obtain rfl := Option.some.inj h
  exact QTri.retI rfl rfl
 ·refine zT Ad W (t := 10) (f := 8) rfl (XT.i0_ne_t hc165) ?_
  refine zS Ad W 3 (st' := (15, [vR 0, vI x1], [.int x1, .ref 1], (H0 o))) rfl ?_
  obtain ⟨y166, hy166, h⟩ := bind_eq_some_iff.mp h
  refine zB Ad W (f := fun y166 => (16, [vR 0, vI x1], [.int y166], (H0 o))) rfl hy166 ?_
  obtain rfl := Option.some.inj h
  exact QTri.retI rfl rfl
/-- getVersion(I)I -/
def F24 (o : Ob) (x1 : Int32) : Option (Int32) :=
 (F9 o x1).bind fun r169 => (if r169 = (0:Int32) then some (0:Int32) else (aget (f_version o) x1).bind fun y171 => some y171)
theorem tF24 (Ad : QAd n0 ad) (W : QW Z a0) (o : Ob) (x1 : Int32) {r : Int32} (h : F24 o x1 = some r) : QTri l Z n0 ad 24 (0, qentry [.ref 0, .int x1] (pMaxL 24), [], (H0 o)) (some (Value.int r)) (H0 o) := by
 unfold F24 at h
 refine zS Ad W 2 (st' := (2, [vR 0, vI x1], [.int x1, .ref 0], (H0 o))) rfl ?_
 obtain ⟨r169, hr169, h⟩ := bind_eq_some_iff.mp h
 refine QTri.callP W (a := 0) (as := [.int x1]) (rest := []) (w := (some (.int r169))) (σ₁ := (H0 o)) rfl rfl rfl rfl rfl rfl rfl rfl (tF9 Ad W o x1 hr169) ?_
 rcases qite h with ⟨hc170, h⟩ | ⟨hc170, h⟩
 ·refine zF Ad W (t := 10) (f := 8) rfl (XT.i0_ne_f hc170) ?_
  refine zS Ad W 1 (st' := (9, [vR 0, vI x1], [.int (0:Int32)], (H0 o))) rfl ?_
  obtain rfl := Option.some.inj h
  exact QTri.retI rfl rfl
 ·refine zT Ad W (t := 10) (f := 8) rfl (XT.i0_ne_t hc170) ?_
  refine zS Ad W 3 (st' := (15, [vR 0, vI x1], [.int x1, .ref 2], (H0 o))) rfl ?_
  obtain ⟨y171, hy171, h⟩ := bind_eq_some_iff.mp h
  refine zB Ad W (f := fun y171 => (16, [vR 0, vI x1], [.int y171], (H0 o))) rfl hy171 ?_
  obtain rfl := Option.some.inj h
  exact QTri.retI rfl rfl
def B0_327 (p0 : Ob) (x3 : Int32) (x4 : Int32) (x5 : Int32) (x8 : Int32) (x9 : Int32) (x10 : Int32) (x15 : Int32) (v : Int32) : Option (((Int32 × QHeap)) ⊕ (Int32)) :=
  (if v < (8 : Int32) then (F23 p0 v).bind fun r167 => (if r167 = (if x15 = (0 : Int32) then (if v = x9 then x4 else (if v = x8 then x3 else (0 : Int32))) else (if v = x10 then x5 else (if v = x9 then x4 else (if v = x8 then x3 else (0 : Int32))))) then (F24 p0 v).bind fun r172 => (if r172 = (if x15 = (0 : Int32) then (if v = x9 then (1 : Int32) else (if v = x8 then (1 : Int32) else (0 : Int32))) else (if v = x10 then (2 : Int32) else (if v = x9 then (1 : Int32) else (if v = x8 then (1 : Int32) else (0 : Int32))))) then some (.inr (v + (1 : Int32))) else some (.inl ((0 : Int32), (H0 p0)))) else some (.inl ((0 : Int32), (H0 p0)))) else some (.inl ((1 : Int32), (H0 p0))))
theorem tB0_327 (Ad : QAd n0 ad) (W : QW Z a0) (p0 : Ob) (x3 : Int32) (x4 : Int32) (x5 : Int32) (x8 : Int32) (x9 : Int32) (x10 : Int32) (x15 : Int32) (v : Int32) {r : ((Int32 × QHeap)) ⊕ (Int32)} {u : Option Value} {τ : QHeap} (h : B0_327 p0 x3 x4 x5 x8 x9 x10 x15 v = some r) (hx0 : ∀ x : Int32 × QHeap, r = .inl x → u = (some (Value.int x.1)) ∧ τ = x.2) (hc : ∀ x : Int32, r = .inr x → QTri l Z n0 ad 0 (327, [none, none, none, vI x3, vI x4, vI x5, none, none, vI x8, vI x9, vI x10, vR 0, none, none, none, vI x15, vI x, none, none], [], (H0 p0)) u τ) : QTri l Z n0 ad 0 (327, [none, none, none, vI x3, vI x4, vI x5, none, none, vI x8, vI x9, vI x10, vR 0, none, none, none, vI x15, vI v, none, none], [], (H0 p0)) u τ := by
 unfold B0_327 at h
 refine zS Ad W 2 (st' := (331, [none, none, none, vI x3, vI x4, vI x5, none, none, vI x8, vI x9, vI x10, vR 0, none, none, none, vI x15, vI v, none, none], [.int (8:Int32), .int v], (H0 p0))) rfl ?_
 rcases qite h with ⟨hc150, h⟩ | ⟨hc150, h⟩
 ·refine zF Ad W (t := 420) (f := 334) rfl (XT.ii_ge_f hc150) ?_
  refine zS Ad W 4 (st' := (340, [none, none, none, vI x3, vI x4, vI x5, none, none, vI x8, vI x9, vI x10, vR 0, none, none, none, vI x15, vI v, vI (0:Int32), vI (0:Int32)], [], (H0 p0))) rfl ?_
  refine zS Ad W 2 (st' := (344, [none, none, none, vI x3, vI x4, vI x5, none, none, vI x8, vI x9, vI x10, vR 0, none, none, none, vI x15, vI v, vI (0:Int32), vI (0:Int32)], [.int x8, .int v], (H0 p0))) rfl ?_
  have K153 : ∀ z151 : Int32, z151 = (if v = x8 then x3 else (0:Int32)) → ∀ z152 : Int32, z152 = (if v = x8 then (1:Int32) else (0:Int32)) → QTri l Z n0 ad 0 (353, [none, none, none, vI x3, vI x4, vI x5, none, none, vI x8, vI x9, vI x10, vR 0, none, none, none, vI x15, vI v, vI z151, vI z152], [], (H0 p0)) u τ := by
   intro z151 ez151
   intro z152 ez152
   subst ez151
   subst ez152
   refine zS Ad W 2 (st' := (357, [none, none, none, vI x3, vI x4, vI x5, none, none, vI x8, vI x9, vI x10, vR 0, none, none, none, vI x15, vI v, vI (if v = x8 then x3 else (0:Int32)), vI (if v = x8 then (1:Int32) else (0:Int32))], [.int x9, .int v], (H0 p0))) rfl ?_
   have K157 : ∀ z155 : Int32, z155 = (if v = x9 then x4 else (if v = x8 then x3 else (0:Int32))) → ∀ z156 : Int32, z156 = (if v = x9 then (1:Int32) else (if v = x8 then (1:Int32) else (0:Int32))) → QTri l Z n0 ad 0 (367, [none, none, none, vI x3, vI x4, vI x5, none, none, vI x8, vI x9, vI x10, vR 0, none, none, none, vI x15, vI v, vI z155, vI z156], [], (H0 p0)) u τ := by
    intro z155 ez155
    intro z156 ez156
    subst ez155
    subst ez156
    refine zS Ad W 1 (st' := (369, [none, none, none, vI x3, vI x4, vI x5, none, none, vI x8, vI x9, vI x10, vR 0, none, none, none, vI x15, vI v, vI (if v = x9 then x4 else (if v = x8 then x3 else (0:Int32))), vI (if v = x9 then (1:Int32) else (if v = x8 then (1:Int32) else (0:Int32)))], [.int x15], (H0 p0))) rfl ?_
    have K161 : ∀ z159 : Int32, z159 = (if x15 = (0:Int32) then (if v = x9 then x4 else (if v = x8 then x3 else (0:Int32))) else (if v = x10 then x5 else (if v = x9 then x4 else (if v = x8 then x3 else (0:Int32))))) → ∀ z160 : Int32, z160 = (if x15 = (0:Int32) then (if v = x9 then (1:Int32) else (if v = x8 then (1:Int32) else (0:Int32))) else (if v = x10 then (2:Int32) else (if v = x9 then (1:Int32) else (if v = x8 then (1:Int32) else (0:Int32))))) → QTri l Z n0 ad 0 (386, [none, none, none, vI x3, vI x4, vI x5, none, none, vI x8, vI x9, vI x10, vR 0, none, none, none, vI x15, vI v, vI z159, vI z160], [], (H0 p0)) u τ := by
     intro z159 ez159
     intro z160 ez160
     subst ez159
     subst ez160
     refine zS Ad W 2 (st' := (390, [none, none, none, vI x3, vI x4, vI x5, none, none, vI x8, vI x9, vI x10, vR 0, none, none, none, vI x15, vI v, vI (if x15 = (0:Int32) then (if v = x9 then x4 else (if v = x8 then x3 else (0:Int32))) else (if v = x10 then x5 else (if v = x9 then x4 else (if v = x8 then x3 else (0:Int32))))), vI (if x15 = (0:Int32) then (if v = x9 then (1:Int32) else (if v = x8 then (1:Int32) else (0:Int32))) else (if v = x10 then (2:Int32) else (if v = x9 then (1:Int32) else (if v = x8 then (1:Int32) else (0:Int32)))))], [.int v, .ref 0], (H0 p0))) rfl ?_
     obtain ⟨r167, hr167, h⟩ := bind_eq_some_iff.mp h
     refine QTri.callV W (a := 0) (as := [.int v]) (rest := []) (w := (some (.int r167))) (σ₁ := (H0 p0)) rfl rfl rfl rfl rfl rfl rfl rfl (tF23 Ad W p0 v hr167) ?_
     refine zS Ad W 1 (st' := (395, [none, none, none, vI x3, vI x4, vI x5, none, none, vI x8, vI x9, vI x10, vR 0, none, none, none, vI x15, vI v, vI (if x15 = (0:Int32) then (if v = x9 then x4 else (if v = x8 then x3 else (0:Int32))) else (if v = x10 then x5 else (if v = x9 then x4 else (if v = x8 then x3 else (0:Int32))))), vI (if x15 = (0:Int32) then (if v = x9 then (1:Int32) else (if v = x8 then (1:Int32) else (0:Int32))) else (if v = x10 then (2:Int32) else (if v = x9 then (1:Int32) else (if v = x8 then (1:Int32) else (0:Int32)))))], [.int (if x15 = (0:Int32) then (if v = x9 then x4 else (if v = x8 then x3 else (0:Int32))) else (if v = x10 then x5 else (if v = x9 then x4 else (if v = x8 then x3 else (0:Int32))))), .int r167], (H0 p0))) rfl ?_
     rcases qite h with ⟨hc168, h⟩ | ⟨hc168, h⟩
     ·refine zT Ad W (t := 400) (f := 398) rfl (XT.ii_eq_t hc168) ?_
      refine zS Ad W 2 (st' := (404, [none, none, none, vI x3, vI x4, vI x5, none, none, vI x8, vI x9, vI x10, vR 0, none, none, none, vI x15, vI v, vI (if x15 = (0:Int32) then (if v = x9 then x4 else (if v = x8 then x3 else (0:Int32))) else (if v = x10 then x5 else (if v = x9 then x4 else (if v = x8 then x3 else (0:Int32))))), vI (if x15 = (0:Int32) then (if v = x9 then (1:Int32) else (if v = x8 then (1:Int32) else (0:Int32))) else (if v = x10 then (2:Int32) else (if v = x9 then (1:Int32) else (if v = x8 then (1:Int32) else (0:Int32)))))], [.int v, .ref 0], (H0 p0))) rfl ?_
      obtain ⟨r172, hr172, h⟩ := bind_eq_some_iff.mp h
      refine QTri.callV W (a := 0) (as := [.int v]) (rest := []) (w := (some (.int r172))) (σ₁ := (H0 p0)) rfl rfl rfl rfl rfl rfl rfl rfl (tF24 Ad W p0 v hr172) ?_
      refine zS Ad W 1 (st' := (409, [none, none, none, vI x3, vI x4, vI x5, none, none, vI x8, vI x9, vI x10, vR 0, none, none, none, vI x15, vI v, vI (if x15 = (0:Int32) then (if v = x9 then x4 else (if v = x8 then x3 else (0:Int32))) else (if v = x10 then x5 else (if v = x9 then x4 else (if v = x8 then x3 else (0:Int32))))), vI (if x15 = (0:Int32) then (if v = x9 then (1:Int32) else (if v = x8 then (1:Int32) else (0:Int32))) else (if v = x10 then (2:Int32) else (if v = x9 then (1:Int32) else (if v = x8 then (1:Int32) else (0:Int32)))))], [.int (if x15 = (0:Int32) then (if v = x9 then (1:Int32) else (if v = x8 then (1:Int32) else (0:Int32))) else (if v = x10 then (2:Int32) else (if v = x9 then (1:Int32) else (if v = x8 then (1:Int32) else (0:Int32))))), .int r172], (H0 p0))) rfl ?_
      rcases qite h with ⟨hc173, h⟩ | ⟨hc173, h⟩
      ·refine zT Ad W (t := 414) (f := 412) rfl (XT.ii_eq_t hc173) ?_
       refine zS Ad W 2 (st' := (327, [none, none, none, vI x3, vI x4, vI x5, none, none, vI x8, vI x9, vI x10, vR 0, none, none, none, vI x15, vI (v + (1:Int32)), vI (if x15 = (0:Int32) then (if v = x9 then x4 else (if v = x8 then x3 else (0:Int32))) else (if v = x10 then x5 else (if v = x9 then x4 else (if v = x8 then x3 else (0:Int32))))), vI (if x15 = (0:Int32) then (if v = x9 then (1:Int32) else (if v = x8 then (1:Int32) else (0:Int32))) else (if v = x10 then (2:Int32) else (if v = x9 then (1:Int32) else (if v = x8 then (1:Int32) else (0:Int32)))))], [], (H0 p0))) rfl ?_
       obtain rfl := Option.some.inj h
       exact zM [ff,ff,ff,tt,tt,tt,ff,ff,tt,tt,tt,tt,ff,ff,ff,tt,tt,ff,ff] (hc (v + (1:Int32)) rfl)
      ·refine zF Ad W (t := 414) (f := 412) rfl (XT.ii_eq_f hc173) ?_
       refine zS Ad W 1 (st' := (413, [none, none, none, vI x3, vI x4, vI x5, none, none, vI x8, vI x9, vI x10, vR 0, none, none, none, vI x15, vI v, vI (if x15 = (0:Int32) then (if v = x9 then x4 else (if v = x8 then x3 else (0:Int32))) else (if v = x10 then x5 else (if v = x9 then x4 else (if v = x8 then x3 else (0:Int32))))), vI (if x15 = (0:Int32) then (if v = x9 then (1:Int32) else (if v = x8 then (1:Int32) else (0:Int32))) else (if v = x10 then (2:Int32) else (if v = x9 then (1:Int32) else (if v = x8 then (1:Int32) else (0:Int32)))))], [.int (0:Int32)], (H0 p0))) rfl ?_
       obtain rfl := Option.some.inj h
       obtain ⟨rfl, rfl⟩ := hx0 ((0:Int32), (H0 p0)) rfl
       exact QTri.retZ rfl rfl
     ·refine zF Ad W (t := 400) (f := 398) rfl (XT.ii_eq_f hc168) ?_
      refine zS Ad W 1 (st' := (399, [none, none, none, vI x3, vI x4, vI x5, none, none, vI x8, vI x9, vI x10, vR 0, none, none, none, vI x15, vI v, vI (if x15 = (0:Int32) then (if v = x9 then x4 else (if v = x8 then x3 else (0:Int32))) else (if v = x10 then x5 else (if v = x9 then x4 else (if v = x8 then x3 else (0:Int32))))), vI (if x15 = (0:Int32) then (if v = x9 then (1:Int32) else (if v = x8 then (1:Int32) else (0:Int32))) else (if v = x10 then (2:Int32) else (if v = x9 then (1:Int32) else (if v = x8 then (1:Int32) else (0:Int32)))))], [.int (0:Int32)], (H0 p0))) rfl ?_
      obtain rfl := Option.some.inj h
      obtain ⟨rfl, rfl⟩ := hx0 ((0:Int32), (H0 p0)) rfl
      exact QTri.retZ rfl rfl
    rcases em (x15 = (0:Int32)) with hc162 | hc162
    ·refine zT Ad W (t := 386) (f := 372) rfl (XT.i0_eq_t hc162) ?_
     exact zM [ff,ff,ff,tt,tt,tt,ff,ff,tt,tt,tt,tt,ff,ff,ff,tt,tt,tt,tt] (K161 _ (if_pos hc162).symm _ (if_pos hc162).symm)
    ·refine zF Ad W (t := 386) (f := 372) rfl (XT.i0_eq_f hc162) ?_
     refine zS Ad W 2 (st' := (376, [none, none, none, vI x3, vI x4, vI x5, none, none, vI x8, vI x9, vI x10, vR 0, none, none, none, vI x15, vI v, vI (if v = x9 then x4 else (if v = x8 then x3 else (0:Int32))), vI (if v = x9 then (1:Int32) else (if v = x8 then (1:Int32) else (0:Int32)))], [.int x10, .int v], (H0 p0))) rfl ?_
     rcases em (v = x10) with hc163 | hc163
     ·refine zF Ad W (t := 386) (f := 379) rfl (XT.ii_ne_f hc163) ?_
      refine zS Ad W 4 (st' := (386, [none, none, none, vI x3, vI x4, vI x5, none, none, vI x8, vI x9, vI x10, vR 0, none, none, none, vI x15, vI v, vI x5, vI (2:Int32)], [], (H0 p0))) rfl ?_
      exact zM [ff,ff,ff,tt,tt,tt,ff,ff,tt,tt,tt,tt,ff,ff,ff,tt,tt,tt,tt] (K161 _ ((if_neg hc162).trans (if_pos hc163)).symm _ ((if_neg hc162).trans (if_pos hc163)).symm)
     ·refine zT Ad W (t := 386) (f := 379) rfl (XT.ii_ne_t hc163) ?_
      exact zM [ff,ff,ff,tt,tt,tt,ff,ff,tt,tt,tt,tt,ff,ff,ff,tt,tt,tt,tt] (K161 _ ((if_neg hc162).trans (if_neg hc163)).symm _ ((if_neg hc162).trans (if_neg hc163)).symm)
   rcases em (v = x9) with hc158 | hc158
   ·refine zF Ad W (t := 367) (f := 360) rfl (XT.ii_ne_f hc158) ?_
    refine zS Ad W 4 (st' := (367, [none, none, none, vI x3, vI x4, vI x5, none, none, vI x8, vI x9, vI x10, vR 0, none, none, none, vI x15, vI v, vI x4, vI (1:Int32)], [], (H0 p0))) rfl ?_
    exact zM [ff,ff,ff,tt,tt,tt,ff,ff,tt,tt,tt,tt,ff,ff,ff,tt,tt,tt,tt] (K157 _ (if_pos hc158).symm _ (if_pos hc158).symm)
   ·refine zT Ad W (t := 367) (f := 360) rfl (XT.ii_ne_t hc158) ?_
    exact zM [ff,ff,ff,tt,tt,tt,ff,ff,tt,tt,tt,tt,ff,ff,ff,tt,tt,tt,tt] (K157 _ (if_neg hc158).symm _ (if_neg hc158).symm)
  rcases em (v = x8) with hc154 | hc154
  ·refine zF Ad W (t := 353) (f := 347) rfl (XT.ii_ne_f hc154) ?_
   refine zS Ad W 4 (st' := (353, [none, none, none, vI x3, vI x4, vI x5, none, none, vI x8, vI x9, vI x10, vR 0, none, none, none, vI x15, vI v, vI x3, vI (1:Int32)], [], (H0 p0))) rfl ?_
   exact zM [ff,ff,ff,tt,tt,tt,ff,ff,tt,tt,tt,tt,ff,ff,ff,tt,tt,tt,tt] (K153 _ (if_pos hc154).symm _ (if_pos hc154).symm)
  ·refine zT Ad W (t := 353) (f := 347) rfl (XT.ii_ne_t hc154) ?_
   exact zM [ff,ff,ff,tt,tt,tt,ff,ff,tt,tt,tt,tt,ff,ff,ff,tt,tt,tt,tt] (K153 _ (if_neg hc154).symm _ (if_neg hc154).symm)
 ·refine zT Ad W (t := 420) (f := 334) rfl (XT.ii_ge_t hc150) ?_
  refine zS Ad W 1 (st' := (421, [none, none, none, vI x3, vI x4, vI x5, none, none, vI x8, vI x9, vI x10, vR 0, none, none, none, vI x15, vI v, none, none], [.int (1:Int32)], (H0 p0))) rfl ?_
  obtain rfl := Option.some.inj h
  obtain ⟨rfl, rfl⟩ := hx0 ((1:Int32), (H0 p0)) rfl
  exact QTri.retZ rfl rfl
/-- the law -/
def F0 (x0 : Int32) (x1 : Int32) (x2 : Int32) (x3 : Int32) (x4 : Int32) (x5 : Int32) : Option (Int32 × QHeap) :=
 (F1 (8:Int32) (2:Int32) (2:Int32)).bind fun r7 => (F3 r7).bind fun r31 => (if r31.1 = (0:Int32) then (F3 r31.2).bind fun r33 => (if r33.1 = (1:Int32) then (F7 r33.2 (0:Int32) (x0 &&& (7:Int32))).bind fun r55 => (if r55.1 = (0:Int32) then (F7 r55.2 (0:Int32) ((x0 >>> ((3:Int32) &&& 31)) &&& (7:Int32))).bind fun r57 => (if r57.1 = (0:Int32) then (F11 r57.2 (1:Int32) (x1 &&& (7:Int32)) x3).bind fun r69 => (if r69.1 = (0:Int32) then (F11 r69.2 (1:Int32) ((x1 >>> ((3:Int32) &&& 31)) &&& (7:Int32)) x4).bind fun r71 => (if r71.1 = (0:Int32) then (F13 r71.2 (1:Int32)).bind fun r112 => (if r112.1 = (1:Int32) then (F11 r112.2 (0:Int32) (x2 &&& (7:Int32)) x5).bind fun r114 => (if r114.1 = (0:Int32) then (F13 r114.2 (0:Int32)).bind fun r116 => (loopN (B0_186 r116.2 x3 x4 x5 (x1 &&& (7:Int32)) ((x1 >>> ((3:Int32) &&& 31)) &&& (7:Int32)) (x2 &&& (7:Int32)) r116.1 ((((1:Int32) <<< ((x0 &&& (7:Int32)) &&& 31)) ||| ((1:Int32) <<< (((x0 >>> ((3:Int32) &&& 31)) &&& (7:Int32)) &&& 31))) &&& (((1:Int32) <<< ((x1 &&& (7:Int32)) &&& 31)) ||| ((1:Int32) <<< (((x1 >>> ((3:Int32) &&& 31)) &&& (7:Int32)) &&& 31))))) qN ((-1:Int32), (7:Int32))).bind fun e121 => (if r116.1 = (if (if ((((1:Int32) <<< ((x0 &&& (7:Int32)) &&& 31)) ||| ((1:Int32) <<< (((x0 >>> ((3:Int32) &&& 31)) &&& (7:Int32)) &&& 31))) &&& (((1:Int32) <<< ((x1 &&& (7:Int32)) &&& 31)) ||| ((1:Int32) <<< (((x1 >>> ((3:Int32) &&& 31)) &&& (7:Int32)) &&& 31)))) = (0:Int32) then (1:Int32) else (0:Int32)) = (0:Int32) then (-3:Int32) else (2:Int32)) then (F19 r116.2).bind fun r130 => (if r130 = (if (if ((((1:Int32) <<< ((x0 &&& (7:Int32)) &&& 31)) ||| ((1:Int32) <<< (((x0 >>> ((3:Int32) &&& 31)) &&& (7:Int32)) &&& 31))) &&& (((1:Int32) <<< ((x1 &&& (7:Int32)) &&& 31)) ||| ((1:Int32) <<< (((x1 >>> ((3:Int32) &&& 31)) &&& (7:Int32)) &&& 31)))) = (0:Int32) then (1:Int32) else (0:Int32)) = (0:Int32) then (1:Int32) else (2:Int32)) then (F20 r116.2).bind fun r135 => (if r135 = (if (if ((((1:Int32) <<< ((x0 &&& (7:Int32)) &&& 31)) ||| ((1:Int32) <<< (((x0 >>> ((3:Int32) &&& 31)) &&& (7:Int32)) &&& 31))) &&& (((1:Int32) <<< ((x1 &&& (7:Int32)) &&& 31)) ||| ((1:Int32) <<< (((x1 >>> ((3:Int32) &&& 31)) &&& (7:Int32)) &&& 31)))) = (0:Int32) then (1:Int32) else (0:Int32)) = (0:Int32) then (1:Int32) else (0:Int32)) then (F21 r116.2).bind fun r140 => (if r140 = (if (if ((((1:Int32) <<< ((x0 &&& (7:Int32)) &&& 31)) ||| ((1:Int32) <<< (((x0 >>> ((3:Int32) &&& 31)) &&& (7:Int32)) &&& 31))) &&& (((1:Int32) <<< ((x1 &&& (7:Int32)) &&& 31)) ||| ((1:Int32) <<< (((x1 >>> ((3:Int32) &&& 31)) &&& (7:Int32)) &&& 31)))) = (0:Int32) then (1:Int32) else (0:Int32)) = (0:Int32) then e121 else (-1:Int32)) then (F22 r116.2 (0:Int32)).bind fun r146 => (if r146 = (0:Int32) then (F22 r116.2 (1:Int32)).bind fun r148 => (if r148 = (0:Int32) then (loopN (B0_327 r116.2 x3 x4 x5 (x1 &&& (7:Int32)) ((x1 >>> ((3:Int32) &&& 31)) &&& (7:Int32)) (x2 &&& (7:Int32)) (if ((((1:Int32) <<< ((x0 &&& (7:Int32)) &&& 31)) ||| ((1:Int32) <<< (((x0 >>> ((3:Int32) &&& 31)) &&& (7:Int32)) &&& 31))) &&& (((1:Int32) <<< ((x1 &&& (7:Int32)) &&& 31)) ||| ((1:Int32) <<< (((x1 >>> ((3:Int32) &&& 31)) &&& (7:Int32)) &&& 31)))) = (0:Int32) then (1:Int32) else (0:Int32))) qN (0:Int32)).bind fun e174 => some e174 else some ((0:Int32), (H0 r116.2))) else some ((0:Int32), (H0 r116.2))) else some ((0:Int32), (H0 r116.2))) else some ((0:Int32), (H0 r116.2))) else some ((0:Int32), (H0 r116.2))) else some ((0:Int32), (H0 r116.2))) else some ((0:Int32), (H0 r114.2))) else some ((0:Int32), (H0 r112.2))) else some ((0:Int32), (H0 r71.2))) else some ((0:Int32), (H0 r69.2))) else some ((0:Int32), (H0 r57.2))) else some ((0:Int32), (H0 r55.2))) else some ((0:Int32), (H0 r33.2))) else some ((0:Int32), (H0 r31.2)))
theorem tF0 (Ad : QAd n0 ad) (W : QW Z a0) (x0 : Int32) (x1 : Int32) (x2 : Int32) (x3 : Int32) (x4 : Int32) (x5 : Int32) {r : Int32 × QHeap} (h : F0 x0 x1 x2 x3 x4 x5 = some r) : QTri l Z n0 ad 0 (0, qentry [.int x0, .int x1, .int x2, .int x3, .int x4, .int x5] (pMaxL 0), [], []) (some (Value.int r.1)) r.2 := by
 unfold F0 at h
 refine zS Ad W 10 (st' := (14, [vI x0, vI x1, vI x2, vI x3, vI x4, vI x5, vI (x0 &&& (7:Int32)), vI ((x0 >>> ((3:Int32) &&& 31)) &&& (7:Int32)), none, none, none, none, none, none, none, none, none, none, none], [], [])) rfl ?_
 refine zS Ad W 10 (st' := (28, [vI x0, vI x1, vI x2, vI x3, vI x4, vI x5, vI (x0 &&& (7:Int32)), vI ((x0 >>> ((3:Int32) &&& 31)) &&& (7:Int32)), vI (x1 &&& (7:Int32)), vI ((x1 >>> ((3:Int32) &&& 31)) &&& (7:Int32)), none, none, none, none, none, none, none, none, none], [], [])) rfl ?_
 refine zS Ad W 5 (st' := (37, [vI x0, vI x1, vI x2, vI x3, vI x4, vI x5, vI (x0 &&& (7:Int32)), vI ((x0 >>> ((3:Int32) &&& 31)) &&& (7:Int32)), vI (x1 &&& (7:Int32)), vI ((x1 >>> ((3:Int32) &&& 31)) &&& (7:Int32)), vI (x2 &&& (7:Int32)), none, none, none, none, none, none, none, none], [.ref 0], [.inl [.null, .null, .null, .null, .null, .null, .null, .int (f_keyCount ob0), .int (f_slotCount ob0), .int (f_window ob0), .int (f_commitCount ob0), .int (f_abortCount ob0), .int (f_lastConflict ob0)]])) rfl ?_
 refine zS Ad W 4 (st' := (42, [vI x0, vI x1, vI x2, vI x3, vI x4, vI x5, vI (x0 &&& (7:Int32)), vI ((x0 >>> ((3:Int32) &&& 31)) &&& (7:Int32)), vI (x1 &&& (7:Int32)), vI ((x1 >>> ((3:Int32) &&& 31)) &&& (7:Int32)), vI (x2 &&& (7:Int32)), none, none, none, none, none, none, none, none], [.int (2:Int32), .int (2:Int32), .int (8:Int32), .ref 0, .ref 0], [.inl [.null, .null, .null, .null, .null, .null, .null, .int (f_keyCount ob0), .int (f_slotCount ob0), .int (f_window ob0), .int (f_commitCount ob0), .int (f_abortCount ob0), .int (f_lastConflict ob0)]])) rfl ?_
 obtain ⟨r7, hr7, h⟩ := bind_eq_some_iff.mp h
 refine QTri.callI W (a := 0) (as := [.int (8:Int32), .int (2:Int32), .int (2:Int32)]) (rest := [.ref 0]) (σ₁ := (H0 r7)) rfl rfl rfl rfl rfl rfl (tF1 Ad W (8:Int32) (2:Int32) (2:Int32) hr7) ?_
 refine zS Ad W 2 (st' := (49, [vI x0, vI x1, vI x2, vI x3, vI x4, vI x5, vI (x0 &&& (7:Int32)), vI ((x0 >>> ((3:Int32) &&& 31)) &&& (7:Int32)), vI (x1 &&& (7:Int32)), vI ((x1 >>> ((3:Int32) &&& 31)) &&& (7:Int32)), vI (x2 &&& (7:Int32)), vR 0, none, none, none, none, none, none, none], [.ref 0], (H0 r7))) rfl ?_
 obtain ⟨r31, hr31, h⟩ := bind_eq_some_iff.mp h
 refine QTri.callV W (a := 0) (as := []) (rest := []) (w := (some (.int r31.1))) (σ₁ := (H0 r31.2)) rfl rfl rfl rfl rfl rfl rfl rfl (tF3 Ad W r7 hr31) ?_
 rcases qite h with ⟨hc32, h⟩ | ⟨hc32, h⟩
 ·refine zT Ad W (t := 57) (f := 55) rfl (XT.i0_eq_t hc32) ?_
  refine zS Ad W 1 (st' := (59, [vI x0, vI x1, vI x2, vI x3, vI x4, vI x5, vI (x0 &&& (7:Int32)), vI ((x0 >>> ((3:Int32) &&& 31)) &&& (7:Int32)), vI (x1 &&& (7:Int32)), vI ((x1 >>> ((3:Int32) &&& 31)) &&& (7:Int32)), vI (x2 &&& (7:Int32)), vR 0, none, none, none, none, none, none, none], [.ref 0], (H0 r31.2))) rfl ?_
  obtain ⟨r33, hr33, h⟩ := bind_eq_some_iff.mp h
  refine QTri.callV W (a := 0) (as := []) (rest := []) (w := (some (.int r33.1))) (σ₁ := (H0 r33.2)) rfl rfl rfl rfl rfl rfl rfl rfl (tF3 Ad W r31.2 hr33) ?_
  refine zS Ad W 1 (st' := (63, [vI x0, vI x1, vI x2, vI x3, vI x4, vI x5, vI (x0 &&& (7:Int32)), vI ((x0 >>> ((3:Int32) &&& 31)) &&& (7:Int32)), vI (x1 &&& (7:Int32)), vI ((x1 >>> ((3:Int32) &&& 31)) &&& (7:Int32)), vI (x2 &&& (7:Int32)), vR 0, none, none, none, none, none, none, none], [.int (1:Int32), .int r33.1], (H0 r33.2))) rfl ?_
  rcases qite h with ⟨hc34, h⟩ | ⟨hc34, h⟩
  ·refine zT Ad W (t := 68) (f := 66) rfl (XT.ii_eq_t hc34) ?_
   refine zS Ad W 3 (st' := (73, [vI x0, vI x1, vI x2, vI x3, vI x4, vI x5, vI (x0 &&& (7:Int32)), vI ((x0 >>> ((3:Int32) &&& 31)) &&& (7:Int32)), vI (x1 &&& (7:Int32)), vI ((x1 >>> ((3:Int32) &&& 31)) &&& (7:Int32)), vI (x2 &&& (7:Int32)), vR 0, none, none, none, none, none, none, none], [.int (x0 &&& (7:Int32)), .int (0:Int32), .ref 0], (H0 r33.2))) rfl ?_
   obtain ⟨r55, hr55, h⟩ := bind_eq_some_iff.mp h
   refine QTri.callV W (a := 0) (as := [.int (0:Int32), .int (x0 &&& (7:Int32))]) (rest := []) (w := (some (.int r55.1))) (σ₁ := (H0 r55.2)) rfl rfl rfl rfl rfl rfl rfl rfl (tF7 Ad W r33.2 (0:Int32) (x0 &&& (7:Int32)) hr55) ?_
   rcases qite h with ⟨hc56, h⟩ | ⟨hc56, h⟩
   ·refine zT Ad W (t := 81) (f := 79) rfl (XT.i0_eq_t hc56) ?_
    refine zS Ad W 3 (st' := (86, [vI x0, vI x1, vI x2, vI x3, vI x4, vI x5, vI (x0 &&& (7:Int32)), vI ((x0 >>> ((3:Int32) &&& 31)) &&& (7:Int32)), vI (x1 &&& (7:Int32)), vI ((x1 >>> ((3:Int32) &&& 31)) &&& (7:Int32)), vI (x2 &&& (7:Int32)), vR 0, none, none, none, none, none, none, none], [.int ((x0 >>> ((3:Int32) &&& 31)) &&& (7:Int32)), .int (0:Int32), .ref 0], (H0 r55.2))) rfl ?_
    obtain ⟨r57, hr57, h⟩ := bind_eq_some_iff.mp h
    refine QTri.callV W (a := 0) (as := [.int (0:Int32), .int ((x0 >>> ((3:Int32) &&& 31)) &&& (7:Int32))]) (rest := []) (w := (some (.int r57.1))) (σ₁ := (H0 r57.2)) rfl rfl rfl rfl rfl rfl rfl rfl (tF7 Ad W r55.2 (0:Int32) ((x0 >>> ((3:Int32) &&& 31)) &&& (7:Int32)) hr57) ?_
    rcases qite h with ⟨hc58, h⟩ | ⟨hc58, h⟩
    ·refine zT Ad W (t := 94) (f := 92) rfl (XT.i0_eq_t hc58) ?_
     refine zS Ad W 4 (st' := (100, [vI x0, vI x1, vI x2, vI x3, vI x4, vI x5, vI (x0 &&& (7:Int32)), vI ((x0 >>> ((3:Int32) &&& 31)) &&& (7:Int32)), vI (x1 &&& (7:Int32)), vI ((x1 >>> ((3:Int32) &&& 31)) &&& (7:Int32)), vI (x2 &&& (7:Int32)), vR 0, none, none, none, none, none, none, none], [.int x3, .int (x1 &&& (7:Int32)), .int (1:Int32), .ref 0], (H0 r57.2))) rfl ?_
     obtain ⟨r69, hr69, h⟩ := bind_eq_some_iff.mp h
     refine QTri.callV W (a := 0) (as := [.int (1:Int32), .int (x1 &&& (7:Int32)), .int x3]) (rest := []) (w := (some (.int r69.1))) (σ₁ := (H0 r69.2)) rfl rfl rfl rfl rfl rfl rfl rfl (tF11 Ad W r57.2 (1:Int32) (x1 &&& (7:Int32)) x3 hr69) ?_
     rcases qite h with ⟨hc70, h⟩ | ⟨hc70, h⟩
     ·refine zT Ad W (t := 108) (f := 106) rfl (XT.i0_eq_t hc70) ?_
      refine zS Ad W 4 (st' := (115, [vI x0, vI x1, vI x2, vI x3, vI x4, vI x5, vI (x0 &&& (7:Int32)), vI ((x0 >>> ((3:Int32) &&& 31)) &&& (7:Int32)), vI (x1 &&& (7:Int32)), vI ((x1 >>> ((3:Int32) &&& 31)) &&& (7:Int32)), vI (x2 &&& (7:Int32)), vR 0, none, none, none, none, none, none, none], [.int x4, .int ((x1 >>> ((3:Int32) &&& 31)) &&& (7:Int32)), .int (1:Int32), .ref 0], (H0 r69.2))) rfl ?_
      obtain ⟨r71, hr71, h⟩ := bind_eq_some_iff.mp h
      refine QTri.callV W (a := 0) (as := [.int (1:Int32), .int ((x1 >>> ((3:Int32) &&& 31)) &&& (7:Int32)), .int x4]) (rest := []) (w := (some (.int r71.1))) (σ₁ := (H0 r71.2)) rfl rfl rfl rfl rfl rfl rfl rfl (tF11 Ad W r69.2 (1:Int32) ((x1 >>> ((3:Int32) &&& 31)) &&& (7:Int32)) x4 hr71) ?_
      rcases qite h with ⟨hc72, h⟩ | ⟨hc72, h⟩
      ·refine zT Ad W (t := 123) (f := 121) rfl (XT.i0_eq_t hc72) ?_
       refine zS Ad W 2 (st' := (126, [vI x0, vI x1, vI x2, vI x3, vI x4, vI x5, vI (x0 &&& (7:Int32)), vI ((x0 >>> ((3:Int32) &&& 31)) &&& (7:Int32)), vI (x1 &&& (7:Int32)), vI ((x1 >>> ((3:Int32) &&& 31)) &&& (7:Int32)), vI (x2 &&& (7:Int32)), vR 0, none, none, none, none, none, none, none], [.int (1:Int32), .ref 0], (H0 r71.2))) rfl ?_
       obtain ⟨r112, hr112, h⟩ := bind_eq_some_iff.mp h
       refine QTri.callV W (a := 0) (as := [.int (1:Int32)]) (rest := []) (w := (some (.int r112.1))) (σ₁ := (H0 r112.2)) rfl rfl rfl rfl rfl rfl rfl rfl (tF13 Ad W r71.2 (1:Int32) hr112) ?_
       refine zS Ad W 1 (st' := (130, [vI x0, vI x1, vI x2, vI x3, vI x4, vI x5, vI (x0 &&& (7:Int32)), vI ((x0 >>> ((3:Int32) &&& 31)) &&& (7:Int32)), vI (x1 &&& (7:Int32)), vI ((x1 >>> ((3:Int32) &&& 31)) &&& (7:Int32)), vI (x2 &&& (7:Int32)), vR 0, none, none, none, none, none, none, none], [.int (1:Int32), .int r112.1], (H0 r112.2))) rfl ?_
       rcases qite h with ⟨hc113, h⟩ | ⟨hc113, h⟩
       ·refine zT Ad W (t := 135) (f := 133) rfl (XT.ii_eq_t hc113) ?_
        refine zS Ad W 4 (st' := (142, [vI x0, vI x1, vI x2, vI x3, vI x4, vI x5, vI (x0 &&& (7:Int32)), vI ((x0 >>> ((3:Int32) &&& 31)) &&& (7:Int32)), vI (x1 &&& (7:Int32)), vI ((x1 >>> ((3:Int32) &&& 31)) &&& (7:Int32)), vI (x2 &&& (7:Int32)), vR 0, none, none, none, none, none, none, none], [.int x5, .int (x2 &&& (7:Int32)), .int (0:Int32), .ref 0], (H0 r112.2))) rfl ?_
        obtain ⟨r114, hr114, h⟩ := bind_eq_some_iff.mp h
        refine QTri.callV W (a := 0) (as := [.int (0:Int32), .int (x2 &&& (7:Int32)), .int x5]) (rest := []) (w := (some (.int r114.1))) (σ₁ := (H0 r114.2)) rfl rfl rfl rfl rfl rfl rfl rfl (tF11 Ad W r112.2 (0:Int32) (x2 &&& (7:Int32)) x5 hr114) ?_
        rcases qite h with ⟨hc115, h⟩ | ⟨hc115, h⟩
        ·refine zT Ad W (t := 150) (f := 148) rfl (XT.i0_eq_t hc115) ?_
         refine zS Ad W 2 (st' := (153, [vI x0, vI x1, vI x2, vI x3, vI x4, vI x5, vI (x0 &&& (7:Int32)), vI ((x0 >>> ((3:Int32) &&& 31)) &&& (7:Int32)), vI (x1 &&& (7:Int32)), vI ((x1 >>> ((3:Int32) &&& 31)) &&& (7:Int32)), vI (x2 &&& (7:Int32)), vR 0, none, none, none, none, none, none, none], [.int (0:Int32), .ref 0], (H0 r114.2))) rfl ?_
         obtain ⟨r116, hr116, h⟩ := bind_eq_some_iff.mp h
         refine QTri.callV W (a := 0) (as := [.int (0:Int32)]) (rest := []) (w := (some (.int r116.1))) (σ₁ := (H0 r116.2)) rfl rfl rfl rfl rfl rfl rfl rfl (tF13 Ad W r114.2 (0:Int32) hr116) ?_
         refine zS Ad W 12 (st' := (172, [vI x0, vI x1, vI x2, vI x3, vI x4, vI x5, vI (x0 &&& (7:Int32)), vI ((x0 >>> ((3:Int32) &&& 31)) &&& (7:Int32)), vI (x1 &&& (7:Int32)), vI ((x1 >>> ((3:Int32) &&& 31)) &&& (7:Int32)), vI (x2 &&& (7:Int32)), vR 0, vI r116.1, none, none, none, none, none, none], [.int (1:Int32), .int ((1:Int32) <<< ((x1 &&& (7:Int32)) &&& 31)), .int (((1:Int32) <<< ((x0 &&& (7:Int32)) &&& 31)) ||| ((1:Int32) <<< (((x0 >>> ((3:Int32) &&& 31)) &&& (7:Int32)) &&& 31)))], (H0 r116.2))) rfl ?_
         refine zS Ad W 7 (st' := (182, [vI x0, vI x1, vI x2, vI x3, vI x4, vI x5, vI (x0 &&& (7:Int32)), vI ((x0 >>> ((3:Int32) &&& 31)) &&& (7:Int32)), vI (x1 &&& (7:Int32)), vI ((x1 >>> ((3:Int32) &&& 31)) &&& (7:Int32)), vI (x2 &&& (7:Int32)), vR 0, vI r116.1, vI ((((1:Int32) <<< ((x0 &&& (7:Int32)) &&& 31)) ||| ((1:Int32) <<< (((x0 >>> ((3:Int32) &&& 31)) &&& (7:Int32)) &&& 31))) &&& (((1:Int32) <<< ((x1 &&& (7:Int32)) &&& 31)) ||| ((1:Int32) <<< (((x1 >>> ((3:Int32) &&& 31)) &&& (7:Int32)) &&& 31)))), vI (-1:Int32), none, none, none, none], [], (H0 r116.2))) rfl ?_
         refine zS Ad W 2 (st' := (186, [vI x0, vI x1, vI x2, vI x3, vI x4, vI x5, vI (x0 &&& (7:Int32)), vI ((x0 >>> ((3:Int32) &&& 31)) &&& (7:Int32)), vI (x1 &&& (7:Int32)), vI ((x1 >>> ((3:Int32) &&& 31)) &&& (7:Int32)), vI (x2 &&& (7:Int32)), vR 0, vI r116.1, vI ((((1:Int32) <<< ((x0 &&& (7:Int32)) &&& 31)) ||| ((1:Int32) <<< (((x0 >>> ((3:Int32) &&& 31)) &&& (7:Int32)) &&& 31))) &&& (((1:Int32) <<< ((x1 &&& (7:Int32)) &&& 31)) ||| ((1:Int32) <<< (((x1 >>> ((3:Int32) &&& 31)) &&& (7:Int32)) &&& 31)))), vI (-1:Int32), vI (7:Int32), none, none, none], [], (H0 r116.2))) rfl ?_
         obtain ⟨e121, he121, h⟩ := bind_eq_some_iff.mp h
         refine zM [ff,ff,ff,tt,tt,tt,ff,ff,tt,tt,tt,tt,tt,tt,tt,tt,ff,ff,ff] (loopN_tri (B := B0_186 r116.2 x3 x4 x5 (x1 &&& (7:Int32)) ((x1 >>> ((3:Int32) &&& 31)) &&& (7:Int32)) (x2 &&& (7:Int32)) r116.1 ((((1:Int32) <<< ((x0 &&& (7:Int32)) &&& 31)) ||| ((1:Int32) <<< (((x0 >>> ((3:Int32) &&& 31)) &&& (7:Int32)) &&& 31))) &&& (((1:Int32) <<< ((x1 &&& (7:Int32)) &&& 31)) ||| ((1:Int32) <<< (((x1 >>> ((3:Int32) &&& 31)) &&& (7:Int32)) &&& 31))))) (T := fun lv122 => QTri l Z n0 ad 0 (186, [none, none, none, vI x3, vI x4, vI x5, none, none, vI (x1 &&& (7:Int32)), vI ((x1 >>> ((3:Int32) &&& 31)) &&& (7:Int32)), vI (x2 &&& (7:Int32)), vR 0, vI r116.1, vI ((((1:Int32) <<< ((x0 &&& (7:Int32)) &&& 31)) ||| ((1:Int32) <<< (((x0 >>> ((3:Int32) &&& 31)) &&& (7:Int32)) &&& 31))) &&& (((1:Int32) <<< ((x1 &&& (7:Int32)) &&& 31)) ||| ((1:Int32) <<< (((x1 >>> ((3:Int32) &&& 31)) &&& (7:Int32)) &&& 31)))), vI lv122.1, vI lv122.2, none, none, none], [], (H0 r116.2)) (some (Value.int r.1)) r.2) (KE := fun e121a => QTri l Z n0 ad 0 (211, [none, none, none, vI x3, vI x4, vI x5, none, none, vI (x1 &&& (7:Int32)), vI ((x1 >>> ((3:Int32) &&& 31)) &&& (7:Int32)), vI (x2 &&& (7:Int32)), vR 0, vI r116.1, vI ((((1:Int32) <<< ((x0 &&& (7:Int32)) &&& 31)) ||| ((1:Int32) <<< (((x0 >>> ((3:Int32) &&& 31)) &&& (7:Int32)) &&& 31))) &&& (((1:Int32) <<< ((x1 &&& (7:Int32)) &&& 31)) ||| ((1:Int32) <<< (((x1 >>> ((3:Int32) &&& 31)) &&& (7:Int32)) &&& 31)))), vI e121a, none, none, none, none], [], (H0 r116.2)) (some (Value.int r.1)) r.2) (fun lv122 r hB hE hC => tB0_186 Ad W r116.2 x3 x4 x5 (x1 &&& (7:Int32)) ((x1 >>> ((3:Int32) &&& 31)) &&& (7:Int32)) (x2 &&& (7:Int32)) r116.1 ((((1:Int32) <<< ((x0 &&& (7:Int32)) &&& 31)) ||| ((1:Int32) <<< (((x0 >>> ((3:Int32) &&& 31)) &&& (7:Int32)) &&& 31))) &&& (((1:Int32) <<< ((x1 &&& (7:Int32)) &&& 31)) ||| ((1:Int32) <<< (((x1 >>> ((3:Int32) &&& 31)) &&& (7:Int32)) &&& 31)))) lv122 hB (fun x q => hE _ q) (fun x q => hC x q)) qN ((-1:Int32), (7:Int32)) e121 he121 ?_)
         refine zS Ad W 1 (st' := (213, [none, none, none, vI x3, vI x4, vI x5, none, none, vI (x1 &&& (7:Int32)), vI ((x1 >>> ((3:Int32) &&& 31)) &&& (7:Int32)), vI (x2 &&& (7:Int32)), vR 0, vI r116.1, vI ((((1:Int32) <<< ((x0 &&& (7:Int32)) &&& 31)) ||| ((1:Int32) <<< (((x0 >>> ((3:Int32) &&& 31)) &&& (7:Int32)) &&& 31))) &&& (((1:Int32) <<< ((x1 &&& (7:Int32)) &&& 31)) ||| ((1:Int32) <<< (((x1 >>> ((3:Int32) &&& 31)) &&& (7:Int32)) &&& 31)))), vI e121, none, none, none, none], [.int ((((1:Int32) <<< ((x0 &&& (7:Int32)) &&& 31)) ||| ((1:Int32) <<< (((x0 >>> ((3:Int32) &&& 31)) &&& (7:Int32)) &&& 31))) &&& (((1:Int32) <<< ((x1 &&& (7:Int32)) &&& 31)) ||| ((1:Int32) <<< (((x1 >>> ((3:Int32) &&& 31)) &&& (7:Int32)) &&& 31))))], (H0 r116.2))) rfl ?_
         have K124 : ∀ z123 : Int32, z123 = (if ((((1:Int32) <<< ((x0 &&& (7:Int32)) &&& 31)) ||| ((1:Int32) <<< (((x0 >>> ((3:Int32) &&& 31)) &&& (7:Int32)) &&& 31))) &&& (((1:Int32) <<< ((x1 &&& (7:Int32)) &&& 31)) ||| ((1:Int32) <<< (((x1 >>> ((3:Int32) &&& 31)) &&& (7:Int32)) &&& 31)))) = (0:Int32) then (1:Int32) else (0:Int32)) → QTri l Z n0 ad 0 (221, [none, none, none, vI x3, vI x4, vI x5, none, none, vI (x1 &&& (7:Int32)), vI ((x1 >>> ((3:Int32) &&& 31)) &&& (7:Int32)), vI (x2 &&& (7:Int32)), vR 0, vI r116.1, none, vI e121, none, none, none, none], [.int z123], (H0 r116.2)) (some (Value.int r.1)) r.2 := by
          intro z123 ez123
          subst ez123
          refine zS Ad W 3 (st' := (227, [none, none, none, vI x3, vI x4, vI x5, none, none, vI (x1 &&& (7:Int32)), vI ((x1 >>> ((3:Int32) &&& 31)) &&& (7:Int32)), vI (x2 &&& (7:Int32)), vR 0, vI r116.1, none, vI e121, vI (if ((((1:Int32) <<< ((x0 &&& (7:Int32)) &&& 31)) ||| ((1:Int32) <<< (((x0 >>> ((3:Int32) &&& 31)) &&& (7:Int32)) &&& 31))) &&& (((1:Int32) <<< ((x1 &&& (7:Int32)) &&& 31)) ||| ((1:Int32) <<< (((x1 >>> ((3:Int32) &&& 31)) &&& (7:Int32)) &&& 31)))) = (0:Int32) then (1:Int32) else (0:Int32)), none, none, none], [.int (if ((((1:Int32) <<< ((x0 &&& (7:Int32)) &&& 31)) ||| ((1:Int32) <<< (((x0 >>> ((3:Int32) &&& 31)) &&& (7:Int32)) &&& 31))) &&& (((1:Int32) <<< ((x1 &&& (7:Int32)) &&& 31)) ||| ((1:Int32) <<< (((x1 >>> ((3:Int32) &&& 31)) &&& (7:Int32)) &&& 31)))) = (0:Int32) then (1:Int32) else (0:Int32)), .int r116.1], (H0 r116.2))) rfl ?_
          have K127 : ∀ z126 : Int32, z126 = (if (if ((((1:Int32) <<< ((x0 &&& (7:Int32)) &&& 31)) ||| ((1:Int32) <<< (((x0 >>> ((3:Int32) &&& 31)) &&& (7:Int32)) &&& 31))) &&& (((1:Int32) <<< ((x1 &&& (7:Int32)) &&& 31)) ||| ((1:Int32) <<< (((x1 >>> ((3:Int32) &&& 31)) &&& (7:Int32)) &&& 31)))) = (0:Int32) then (1:Int32) else (0:Int32)) = (0:Int32) then (-3:Int32) else (2:Int32)) → QTri l Z n0 ad 0 (236, [none, none, none, vI x3, vI x4, vI x5, none, none, vI (x1 &&& (7:Int32)), vI ((x1 >>> ((3:Int32) &&& 31)) &&& (7:Int32)), vI (x2 &&& (7:Int32)), vR 0, none, none, vI e121, vI (if ((((1:Int32) <<< ((x0 &&& (7:Int32)) &&& 31)) ||| ((1:Int32) <<< (((x0 >>> ((3:Int32) &&& 31)) &&& (7:Int32)) &&& 31))) &&& (((1:Int32) <<< ((x1 &&& (7:Int32)) &&& 31)) ||| ((1:Int32) <<< (((x1 >>> ((3:Int32) &&& 31)) &&& (7:Int32)) &&& 31)))) = (0:Int32) then (1:Int32) else (0:Int32)), none, none, none], [.int z126, .int r116.1], (H0 r116.2)) (some (Value.int r.1)) r.2 := by
           intro z126 ez126
           subst ez126
           rcases qite h with ⟨hc129, h⟩ | ⟨hc129, h⟩
           ·refine zT Ad W (t := 241) (f := 239) rfl (XT.ii_eq_t hc129) ?_
            refine zS Ad W 1 (st' := (243, [none, none, none, vI x3, vI x4, vI x5, none, none, vI (x1 &&& (7:Int32)), vI ((x1 >>> ((3:Int32) &&& 31)) &&& (7:Int32)), vI (x2 &&& (7:Int32)), vR 0, none, none, vI e121, vI (if ((((1:Int32) <<< ((x0 &&& (7:Int32)) &&& 31)) ||| ((1:Int32) <<< (((x0 >>> ((3:Int32) &&& 31)) &&& (7:Int32)) &&& 31))) &&& (((1:Int32) <<< ((x1 &&& (7:Int32)) &&& 31)) ||| ((1:Int32) <<< (((x1 >>> ((3:Int32) &&& 31)) &&& (7:Int32)) &&& 31)))) = (0:Int32) then (1:Int32) else (0:Int32)), none, none, none], [.ref 0], (H0 r116.2))) rfl ?_
            obtain ⟨r130, hr130, h⟩ := bind_eq_some_iff.mp h
            refine QTri.callV W (a := 0) (as := []) (rest := []) (w := (some (.int r130))) (σ₁ := (H0 r116.2)) rfl rfl rfl rfl rfl rfl rfl rfl (tF19 Ad W r116.2 hr130) ?_
            refine zS Ad W 1 (st' := (248, [none, none, none, vI x3, vI x4, vI x5, none, none, vI (x1 &&& (7:Int32)), vI ((x1 >>> ((3:Int32) &&& 31)) &&& (7:Int32)), vI (x2 &&& (7:Int32)), vR 0, none, none, vI e121, vI (if ((((1:Int32) <<< ((x0 &&& (7:Int32)) &&& 31)) ||| ((1:Int32) <<< (((x0 >>> ((3:Int32) &&& 31)) &&& (7:Int32)) &&& 31))) &&& (((1:Int32) <<< ((x1 &&& (7:Int32)) &&& 31)) ||| ((1:Int32) <<< (((x1 >>> ((3:Int32) &&& 31)) &&& (7:Int32)) &&& 31)))) = (0:Int32) then (1:Int32) else (0:Int32)), none, none, none], [.int (if ((((1:Int32) <<< ((x0 &&& (7:Int32)) &&& 31)) ||| ((1:Int32) <<< (((x0 >>> ((3:Int32) &&& 31)) &&& (7:Int32)) &&& 31))) &&& (((1:Int32) <<< ((x1 &&& (7:Int32)) &&& 31)) ||| ((1:Int32) <<< (((x1 >>> ((3:Int32) &&& 31)) &&& (7:Int32)) &&& 31)))) = (0:Int32) then (1:Int32) else (0:Int32)), .int r130], (H0 r116.2))) rfl ?_
            have K132 : ∀ z131 : Int32, z131 = (if (if ((((1:Int32) <<< ((x0 &&& (7:Int32)) &&& 31)) ||| ((1:Int32) <<< (((x0 >>> ((3:Int32) &&& 31)) &&& (7:Int32)) &&& 31))) &&& (((1:Int32) <<< ((x1 &&& (7:Int32)) &&& 31)) ||| ((1:Int32) <<< (((x1 >>> ((3:Int32) &&& 31)) &&& (7:Int32)) &&& 31)))) = (0:Int32) then (1:Int32) else (0:Int32)) = (0:Int32) then (1:Int32) else (2:Int32)) → QTri l Z n0 ad 0 (256, [none, none, none, vI x3, vI x4, vI x5, none, none, vI (x1 &&& (7:Int32)), vI ((x1 >>> ((3:Int32) &&& 31)) &&& (7:Int32)), vI (x2 &&& (7:Int32)), vR 0, none, none, vI e121, vI (if ((((1:Int32) <<< ((x0 &&& (7:Int32)) &&& 31)) ||| ((1:Int32) <<< (((x0 >>> ((3:Int32) &&& 31)) &&& (7:Int32)) &&& 31))) &&& (((1:Int32) <<< ((x1 &&& (7:Int32)) &&& 31)) ||| ((1:Int32) <<< (((x1 >>> ((3:Int32) &&& 31)) &&& (7:Int32)) &&& 31)))) = (0:Int32) then (1:Int32) else (0:Int32)), none, none, none], [.int z131, .int r130], (H0 r116.2)) (some (Value.int r.1)) r.2 := by
             intro z131 ez131
             subst ez131
             rcases qite h with ⟨hc134, h⟩ | ⟨hc134, h⟩
             ·refine zT Ad W (t := 261) (f := 259) rfl (XT.ii_eq_t hc134) ?_
              refine zS Ad W 1 (st' := (263, [none, none, none, vI x3, vI x4, vI x5, none, none, vI (x1 &&& (7:Int32)), vI ((x1 >>> ((3:Int32) &&& 31)) &&& (7:Int32)), vI (x2 &&& (7:Int32)), vR 0, none, none, vI e121, vI (if ((((1:Int32) <<< ((x0 &&& (7:Int32)) &&& 31)) ||| ((1:Int32) <<< (((x0 >>> ((3:Int32) &&& 31)) &&& (7:Int32)) &&& 31))) &&& (((1:Int32) <<< ((x1 &&& (7:Int32)) &&& 31)) ||| ((1:Int32) <<< (((x1 >>> ((3:Int32) &&& 31)) &&& (7:Int32)) &&& 31)))) = (0:Int32) then (1:Int32) else (0:Int32)), none, none, none], [.ref 0], (H0 r116.2))) rfl ?_
              obtain ⟨r135, hr135, h⟩ := bind_eq_some_iff.mp h
              refine QTri.callV W (a := 0) (as := []) (rest := []) (w := (some (.int r135))) (σ₁ := (H0 r116.2)) rfl rfl rfl rfl rfl rfl rfl rfl (tF20 Ad W r116.2 hr135) ?_
              refine zS Ad W 1 (st' := (268, [none, none, none, vI x3, vI x4, vI x5, none, none, vI (x1 &&& (7:Int32)), vI ((x1 >>> ((3:Int32) &&& 31)) &&& (7:Int32)), vI (x2 &&& (7:Int32)), vR 0, none, none, vI e121, vI (if ((((1:Int32) <<< ((x0 &&& (7:Int32)) &&& 31)) ||| ((1:Int32) <<< (((x0 >>> ((3:Int32) &&& 31)) &&& (7:Int32)) &&& 31))) &&& (((1:Int32) <<< ((x1 &&& (7:Int32)) &&& 31)) ||| ((1:Int32) <<< (((x1 >>> ((3:Int32) &&& 31)) &&& (7:Int32)) &&& 31)))) = (0:Int32) then (1:Int32) else (0:Int32)), none, none, none], [.int (if ((((1:Int32) <<< ((x0 &&& (7:Int32)) &&& 31)) ||| ((1:Int32) <<< (((x0 >>> ((3:Int32) &&& 31)) &&& (7:Int32)) &&& 31))) &&& (((1:Int32) <<< ((x1 &&& (7:Int32)) &&& 31)) ||| ((1:Int32) <<< (((x1 >>> ((3:Int32) &&& 31)) &&& (7:Int32)) &&& 31)))) = (0:Int32) then (1:Int32) else (0:Int32)), .int r135], (H0 r116.2))) rfl ?_
              have K137 : ∀ z136 : Int32, z136 = (if (if ((((1:Int32) <<< ((x0 &&& (7:Int32)) &&& 31)) ||| ((1:Int32) <<< (((x0 >>> ((3:Int32) &&& 31)) &&& (7:Int32)) &&& 31))) &&& (((1:Int32) <<< ((x1 &&& (7:Int32)) &&& 31)) ||| ((1:Int32) <<< (((x1 >>> ((3:Int32) &&& 31)) &&& (7:Int32)) &&& 31)))) = (0:Int32) then (1:Int32) else (0:Int32)) = (0:Int32) then (1:Int32) else (0:Int32)) → QTri l Z n0 ad 0 (276, [none, none, none, vI x3, vI x4, vI x5, none, none, vI (x1 &&& (7:Int32)), vI ((x1 >>> ((3:Int32) &&& 31)) &&& (7:Int32)), vI (x2 &&& (7:Int32)), vR 0, none, none, vI e121, vI (if ((((1:Int32) <<< ((x0 &&& (7:Int32)) &&& 31)) ||| ((1:Int32) <<< (((x0 >>> ((3:Int32) &&& 31)) &&& (7:Int32)) &&& 31))) &&& (((1:Int32) <<< ((x1 &&& (7:Int32)) &&& 31)) ||| ((1:Int32) <<< (((x1 >>> ((3:Int32) &&& 31)) &&& (7:Int32)) &&& 31)))) = (0:Int32) then (1:Int32) else (0:Int32)), none, none, none], [.int z136, .int r135], (H0 r116.2)) (some (Value.int r.1)) r.2 := by
               intro z136 ez136
               subst ez136
               rcases qite h with ⟨hc139, h⟩ | ⟨hc139, h⟩
               ·refine zT Ad W (t := 281) (f := 279) rfl (XT.ii_eq_t hc139) ?_
                refine zS Ad W 1 (st' := (283, [none, none, none, vI x3, vI x4, vI x5, none, none, vI (x1 &&& (7:Int32)), vI ((x1 >>> ((3:Int32) &&& 31)) &&& (7:Int32)), vI (x2 &&& (7:Int32)), vR 0, none, none, vI e121, vI (if ((((1:Int32) <<< ((x0 &&& (7:Int32)) &&& 31)) ||| ((1:Int32) <<< (((x0 >>> ((3:Int32) &&& 31)) &&& (7:Int32)) &&& 31))) &&& (((1:Int32) <<< ((x1 &&& (7:Int32)) &&& 31)) ||| ((1:Int32) <<< (((x1 >>> ((3:Int32) &&& 31)) &&& (7:Int32)) &&& 31)))) = (0:Int32) then (1:Int32) else (0:Int32)), none, none, none], [.ref 0], (H0 r116.2))) rfl ?_
                obtain ⟨r140, hr140, h⟩ := bind_eq_some_iff.mp h
                refine QTri.callV W (a := 0) (as := []) (rest := []) (w := (some (.int r140))) (σ₁ := (H0 r116.2)) rfl rfl rfl rfl rfl rfl rfl rfl (tF21 Ad W r116.2 hr140) ?_
                refine zS Ad W 1 (st' := (288, [none, none, none, vI x3, vI x4, vI x5, none, none, vI (x1 &&& (7:Int32)), vI ((x1 >>> ((3:Int32) &&& 31)) &&& (7:Int32)), vI (x2 &&& (7:Int32)), vR 0, none, none, vI e121, vI (if ((((1:Int32) <<< ((x0 &&& (7:Int32)) &&& 31)) ||| ((1:Int32) <<< (((x0 >>> ((3:Int32) &&& 31)) &&& (7:Int32)) &&& 31))) &&& (((1:Int32) <<< ((x1 &&& (7:Int32)) &&& 31)) ||| ((1:Int32) <<< (((x1 >>> ((3:Int32) &&& 31)) &&& (7:Int32)) &&& 31)))) = (0:Int32) then (1:Int32) else (0:Int32)), none, none, none], [.int (if ((((1:Int32) <<< ((x0 &&& (7:Int32)) &&& 31)) ||| ((1:Int32) <<< (((x0 >>> ((3:Int32) &&& 31)) &&& (7:Int32)) &&& 31))) &&& (((1:Int32) <<< ((x1 &&& (7:Int32)) &&& 31)) ||| ((1:Int32) <<< (((x1 >>> ((3:Int32) &&& 31)) &&& (7:Int32)) &&& 31)))) = (0:Int32) then (1:Int32) else (0:Int32)), .int r140], (H0 r116.2))) rfl ?_
                have K142 : ∀ z141 : Int32, z141 = (if (if ((((1:Int32) <<< ((x0 &&& (7:Int32)) &&& 31)) ||| ((1:Int32) <<< (((x0 >>> ((3:Int32) &&& 31)) &&& (7:Int32)) &&& 31))) &&& (((1:Int32) <<< ((x1 &&& (7:Int32)) &&& 31)) ||| ((1:Int32) <<< (((x1 >>> ((3:Int32) &&& 31)) &&& (7:Int32)) &&& 31)))) = (0:Int32) then (1:Int32) else (0:Int32)) = (0:Int32) then e121 else (-1:Int32)) → QTri l Z n0 ad 0 (297, [none, none, none, vI x3, vI x4, vI x5, none, none, vI (x1 &&& (7:Int32)), vI ((x1 >>> ((3:Int32) &&& 31)) &&& (7:Int32)), vI (x2 &&& (7:Int32)), vR 0, none, none, none, vI (if ((((1:Int32) <<< ((x0 &&& (7:Int32)) &&& 31)) ||| ((1:Int32) <<< (((x0 >>> ((3:Int32) &&& 31)) &&& (7:Int32)) &&& 31))) &&& (((1:Int32) <<< ((x1 &&& (7:Int32)) &&& 31)) ||| ((1:Int32) <<< (((x1 >>> ((3:Int32) &&& 31)) &&& (7:Int32)) &&& 31)))) = (0:Int32) then (1:Int32) else (0:Int32)), none, none, none], [.int z141, .int r140], (H0 r116.2)) (some (Value.int r.1)) r.2 := by
                 intro z141 ez141
                 subst ez141
                 rcases qite h with ⟨hc144, h⟩ | ⟨hc144, h⟩
                 ·refine zT Ad W (t := 302) (f := 300) rfl (XT.ii_eq_t hc144) ?_
                  refine zS Ad W 2 (st' := (305, [none, none, none, vI x3, vI x4, vI x5, none, none, vI (x1 &&& (7:Int32)), vI ((x1 >>> ((3:Int32) &&& 31)) &&& (7:Int32)), vI (x2 &&& (7:Int32)), vR 0, none, none, none, vI (if ((((1:Int32) <<< ((x0 &&& (7:Int32)) &&& 31)) ||| ((1:Int32) <<< (((x0 >>> ((3:Int32) &&& 31)) &&& (7:Int32)) &&& 31))) &&& (((1:Int32) <<< ((x1 &&& (7:Int32)) &&& 31)) ||| ((1:Int32) <<< (((x1 >>> ((3:Int32) &&& 31)) &&& (7:Int32)) &&& 31)))) = (0:Int32) then (1:Int32) else (0:Int32)), none, none, none], [.int (0:Int32), .ref 0], (H0 r116.2))) rfl ?_
                  obtain ⟨r146, hr146, h⟩ := bind_eq_some_iff.mp h
                  refine QTri.callV W (a := 0) (as := [.int (0:Int32)]) (rest := []) (w := (some (.int r146))) (σ₁ := (H0 r116.2)) rfl rfl rfl rfl rfl rfl rfl rfl (tF22 Ad W r116.2 (0:Int32) hr146) ?_
                  rcases qite h with ⟨hc147, h⟩ | ⟨hc147, h⟩
                  ·refine zT Ad W (t := 313) (f := 311) rfl (XT.i0_eq_t hc147) ?_
                   refine zS Ad W 2 (st' := (316, [none, none, none, vI x3, vI x4, vI x5, none, none, vI (x1 &&& (7:Int32)), vI ((x1 >>> ((3:Int32) &&& 31)) &&& (7:Int32)), vI (x2 &&& (7:Int32)), vR 0, none, none, none, vI (if ((((1:Int32) <<< ((x0 &&& (7:Int32)) &&& 31)) ||| ((1:Int32) <<< (((x0 >>> ((3:Int32) &&& 31)) &&& (7:Int32)) &&& 31))) &&& (((1:Int32) <<< ((x1 &&& (7:Int32)) &&& 31)) ||| ((1:Int32) <<< (((x1 >>> ((3:Int32) &&& 31)) &&& (7:Int32)) &&& 31)))) = (0:Int32) then (1:Int32) else (0:Int32)), none, none, none], [.int (1:Int32), .ref 0], (H0 r116.2))) rfl ?_
                   obtain ⟨r148, hr148, h⟩ := bind_eq_some_iff.mp h
                   refine QTri.callV W (a := 0) (as := [.int (1:Int32)]) (rest := []) (w := (some (.int r148))) (σ₁ := (H0 r116.2)) rfl rfl rfl rfl rfl rfl rfl rfl (tF22 Ad W r116.2 (1:Int32) hr148) ?_
                   rcases qite h with ⟨hc149, h⟩ | ⟨hc149, h⟩
                   ·refine zT Ad W (t := 324) (f := 322) rfl (XT.i0_eq_t hc149) ?_
                    refine zS Ad W 2 (st' := (327, [none, none, none, vI x3, vI x4, vI x5, none, none, vI (x1 &&& (7:Int32)), vI ((x1 >>> ((3:Int32) &&& 31)) &&& (7:Int32)), vI (x2 &&& (7:Int32)), vR 0, none, none, none, vI (if ((((1:Int32) <<< ((x0 &&& (7:Int32)) &&& 31)) ||| ((1:Int32) <<< (((x0 >>> ((3:Int32) &&& 31)) &&& (7:Int32)) &&& 31))) &&& (((1:Int32) <<< ((x1 &&& (7:Int32)) &&& 31)) ||| ((1:Int32) <<< (((x1 >>> ((3:Int32) &&& 31)) &&& (7:Int32)) &&& 31)))) = (0:Int32) then (1:Int32) else (0:Int32)), vI (0:Int32), none, none], [], (H0 r116.2))) rfl ?_
                    obtain ⟨e174, he174, h⟩ := bind_eq_some_iff.mp h
                    refine zM [ff,ff,ff,tt,tt,tt,ff,ff,tt,tt,tt,tt,ff,ff,ff,tt,tt,ff,ff] (loopN_tri (B := B0_327 r116.2 x3 x4 x5 (x1 &&& (7:Int32)) ((x1 >>> ((3:Int32) &&& 31)) &&& (7:Int32)) (x2 &&& (7:Int32)) (if ((((1:Int32) <<< ((x0 &&& (7:Int32)) &&& 31)) ||| ((1:Int32) <<< (((x0 >>> ((3:Int32) &&& 31)) &&& (7:Int32)) &&& 31))) &&& (((1:Int32) <<< ((x1 &&& (7:Int32)) &&& 31)) ||| ((1:Int32) <<< (((x1 >>> ((3:Int32) &&& 31)) &&& (7:Int32)) &&& 31)))) = (0:Int32) then (1:Int32) else (0:Int32))) (T := fun lv175 => QTri l Z n0 ad 0 (327, [none, none, none, vI x3, vI x4, vI x5, none, none, vI (x1 &&& (7:Int32)), vI ((x1 >>> ((3:Int32) &&& 31)) &&& (7:Int32)), vI (x2 &&& (7:Int32)), vR 0, none, none, none, vI (if ((((1:Int32) <<< ((x0 &&& (7:Int32)) &&& 31)) ||| ((1:Int32) <<< (((x0 >>> ((3:Int32) &&& 31)) &&& (7:Int32)) &&& 31))) &&& (((1:Int32) <<< ((x1 &&& (7:Int32)) &&& 31)) ||| ((1:Int32) <<< (((x1 >>> ((3:Int32) &&& 31)) &&& (7:Int32)) &&& 31)))) = (0:Int32) then (1:Int32) else (0:Int32)), vI lv175, none, none], [], (H0 r116.2)) (some (Value.int r.1)) r.2) (KE := fun e174a => (some (Value.int r.1)) = (some (Value.int e174a.1)) ∧ r.2 = e174a.2) (fun lv175 r hB hE hC => tB0_327 Ad W r116.2 x3 x4 x5 (x1 &&& (7:Int32)) ((x1 >>> ((3:Int32) &&& 31)) &&& (7:Int32)) (x2 &&& (7:Int32)) (if ((((1:Int32) <<< ((x0 &&& (7:Int32)) &&& 31)) ||| ((1:Int32) <<< (((x0 >>> ((3:Int32) &&& 31)) &&& (7:Int32)) &&& 31))) &&& (((1:Int32) <<< ((x1 &&& (7:Int32)) &&& 31)) ||| ((1:Int32) <<< (((x1 >>> ((3:Int32) &&& 31)) &&& (7:Int32)) &&& 31)))) = (0:Int32) then (1:Int32) else (0:Int32)) lv175 hB (fun x q => hE _ q) (fun x q => hC x q)) qN (0:Int32) e174 he174 ?_)
                    obtain rfl := Option.some.inj h
                    exact ⟨rfl, rfl⟩
                   ·refine zF Ad W (t := 324) (f := 322) rfl (XT.i0_eq_f hc149) ?_
                    refine zS Ad W 1 (st' := (323, [none, none, none, vI x3, vI x4, vI x5, none, none, vI (x1 &&& (7:Int32)), vI ((x1 >>> ((3:Int32) &&& 31)) &&& (7:Int32)), vI (x2 &&& (7:Int32)), vR 0, none, none, none, vI (if ((((1:Int32) <<< ((x0 &&& (7:Int32)) &&& 31)) ||| ((1:Int32) <<< (((x0 >>> ((3:Int32) &&& 31)) &&& (7:Int32)) &&& 31))) &&& (((1:Int32) <<< ((x1 &&& (7:Int32)) &&& 31)) ||| ((1:Int32) <<< (((x1 >>> ((3:Int32) &&& 31)) &&& (7:Int32)) &&& 31)))) = (0:Int32) then (1:Int32) else (0:Int32)), none, none, none], [.int (0:Int32)], (H0 r116.2))) rfl ?_
                    obtain rfl := Option.some.inj h
                    exact QTri.retZ rfl rfl
                  ·refine zF Ad W (t := 313) (f := 311) rfl (XT.i0_eq_f hc147) ?_
                   refine zS Ad W 1 (st' := (312, [none, none, none, vI x3, vI x4, vI x5, none, none, vI (x1 &&& (7:Int32)), vI ((x1 >>> ((3:Int32) &&& 31)) &&& (7:Int32)), vI (x2 &&& (7:Int32)), vR 0, none, none, none, vI (if ((((1:Int32) <<< ((x0 &&& (7:Int32)) &&& 31)) ||| ((1:Int32) <<< (((x0 >>> ((3:Int32) &&& 31)) &&& (7:Int32)) &&& 31))) &&& (((1:Int32) <<< ((x1 &&& (7:Int32)) &&& 31)) ||| ((1:Int32) <<< (((x1 >>> ((3:Int32) &&& 31)) &&& (7:Int32)) &&& 31)))) = (0:Int32) then (1:Int32) else (0:Int32)), none, none, none], [.int (0:Int32)], (H0 r116.2))) rfl ?_
                   obtain rfl := Option.some.inj h
                   exact QTri.retZ rfl rfl
                 ·refine zF Ad W (t := 302) (f := 300) rfl (XT.ii_eq_f hc144) ?_
                  refine zS Ad W 1 (st' := (301, [none, none, none, vI x3, vI x4, vI x5, none, none, vI (x1 &&& (7:Int32)), vI ((x1 >>> ((3:Int32) &&& 31)) &&& (7:Int32)), vI (x2 &&& (7:Int32)), vR 0, none, none, none, vI (if ((((1:Int32) <<< ((x0 &&& (7:Int32)) &&& 31)) ||| ((1:Int32) <<< (((x0 >>> ((3:Int32) &&& 31)) &&& (7:Int32)) &&& 31))) &&& (((1:Int32) <<< ((x1 &&& (7:Int32)) &&& 31)) ||| ((1:Int32) <<< (((x1 >>> ((3:Int32) &&& 31)) &&& (7:Int32)) &&& 31)))) = (0:Int32) then (1:Int32) else (0:Int32)), none, none, none], [.int (0:Int32)], (H0 r116.2))) rfl ?_
                  obtain rfl := Option.some.inj h
                  exact QTri.retZ rfl rfl
                rcases em ((if ((((1:Int32) <<< ((x0 &&& (7:Int32)) &&& 31)) ||| ((1:Int32) <<< (((x0 >>> ((3:Int32) &&& 31)) &&& (7:Int32)) &&& 31))) &&& (((1:Int32) <<< ((x1 &&& (7:Int32)) &&& 31)) ||| ((1:Int32) <<< (((x1 >>> ((3:Int32) &&& 31)) &&& (7:Int32)) &&& 31)))) = (0:Int32) then (1:Int32) else (0:Int32)) = (0:Int32)) with hc143 | hc143
                ·refine zT Ad W (t := 295) (f := 291) rfl (XT.i0_eq_t hc143) ?_
                 refine zS Ad W 1 (st' := (297, [none, none, none, vI x3, vI x4, vI x5, none, none, vI (x1 &&& (7:Int32)), vI ((x1 >>> ((3:Int32) &&& 31)) &&& (7:Int32)), vI (x2 &&& (7:Int32)), vR 0, none, none, vI e121, vI (if ((((1:Int32) <<< ((x0 &&& (7:Int32)) &&& 31)) ||| ((1:Int32) <<< (((x0 >>> ((3:Int32) &&& 31)) &&& (7:Int32)) &&& 31))) &&& (((1:Int32) <<< ((x1 &&& (7:Int32)) &&& 31)) ||| ((1:Int32) <<< (((x1 >>> ((3:Int32) &&& 31)) &&& (7:Int32)) &&& 31)))) = (0:Int32) then (1:Int32) else (0:Int32)), none, none, none], [.int e121, .int r140], (H0 r116.2))) rfl ?_
                 exact zM [ff,ff,ff,tt,tt,tt,ff,ff,tt,tt,tt,tt,ff,ff,ff,tt,ff,ff,ff] (K142 _ (if_pos hc143).symm)
                ·refine zF Ad W (t := 295) (f := 291) rfl (XT.i0_eq_f hc143) ?_
                 refine zS Ad W 2 (st' := (297, [none, none, none, vI x3, vI x4, vI x5, none, none, vI (x1 &&& (7:Int32)), vI ((x1 >>> ((3:Int32) &&& 31)) &&& (7:Int32)), vI (x2 &&& (7:Int32)), vR 0, none, none, vI e121, vI (if ((((1:Int32) <<< ((x0 &&& (7:Int32)) &&& 31)) ||| ((1:Int32) <<< (((x0 >>> ((3:Int32) &&& 31)) &&& (7:Int32)) &&& 31))) &&& (((1:Int32) <<< ((x1 &&& (7:Int32)) &&& 31)) ||| ((1:Int32) <<< (((x1 >>> ((3:Int32) &&& 31)) &&& (7:Int32)) &&& 31)))) = (0:Int32) then (1:Int32) else (0:Int32)), none, none, none], [.int (-1:Int32), .int r140], (H0 r116.2))) rfl ?_
                 exact zM [ff,ff,ff,tt,tt,tt,ff,ff,tt,tt,tt,tt,ff,ff,ff,tt,ff,ff,ff] (K142 _ (if_neg hc143).symm)
               ·refine zF Ad W (t := 281) (f := 279) rfl (XT.ii_eq_f hc139) ?_
                refine zS Ad W 1 (st' := (280, [none, none, none, vI x3, vI x4, vI x5, none, none, vI (x1 &&& (7:Int32)), vI ((x1 >>> ((3:Int32) &&& 31)) &&& (7:Int32)), vI (x2 &&& (7:Int32)), vR 0, none, none, vI e121, vI (if ((((1:Int32) <<< ((x0 &&& (7:Int32)) &&& 31)) ||| ((1:Int32) <<< (((x0 >>> ((3:Int32) &&& 31)) &&& (7:Int32)) &&& 31))) &&& (((1:Int32) <<< ((x1 &&& (7:Int32)) &&& 31)) ||| ((1:Int32) <<< (((x1 >>> ((3:Int32) &&& 31)) &&& (7:Int32)) &&& 31)))) = (0:Int32) then (1:Int32) else (0:Int32)), none, none, none], [.int (0:Int32)], (H0 r116.2))) rfl ?_
                obtain rfl := Option.some.inj h
                exact QTri.retZ rfl rfl
              rcases em ((if ((((1:Int32) <<< ((x0 &&& (7:Int32)) &&& 31)) ||| ((1:Int32) <<< (((x0 >>> ((3:Int32) &&& 31)) &&& (7:Int32)) &&& 31))) &&& (((1:Int32) <<< ((x1 &&& (7:Int32)) &&& 31)) ||| ((1:Int32) <<< (((x1 >>> ((3:Int32) &&& 31)) &&& (7:Int32)) &&& 31)))) = (0:Int32) then (1:Int32) else (0:Int32)) = (0:Int32)) with hc138 | hc138
              ·refine zT Ad W (t := 275) (f := 271) rfl (XT.i0_eq_t hc138) ?_
               refine zS Ad W 1 (st' := (276, [none, none, none, vI x3, vI x4, vI x5, none, none, vI (x1 &&& (7:Int32)), vI ((x1 >>> ((3:Int32) &&& 31)) &&& (7:Int32)), vI (x2 &&& (7:Int32)), vR 0, none, none, vI e121, vI (if ((((1:Int32) <<< ((x0 &&& (7:Int32)) &&& 31)) ||| ((1:Int32) <<< (((x0 >>> ((3:Int32) &&& 31)) &&& (7:Int32)) &&& 31))) &&& (((1:Int32) <<< ((x1 &&& (7:Int32)) &&& 31)) ||| ((1:Int32) <<< (((x1 >>> ((3:Int32) &&& 31)) &&& (7:Int32)) &&& 31)))) = (0:Int32) then (1:Int32) else (0:Int32)), none, none, none], [.int (1:Int32), .int r135], (H0 r116.2))) rfl ?_
               exact zM [ff,ff,ff,tt,tt,tt,ff,ff,tt,tt,tt,tt,ff,ff,tt,tt,ff,ff,ff] (K137 _ (if_pos hc138).symm)
              ·refine zF Ad W (t := 275) (f := 271) rfl (XT.i0_eq_f hc138) ?_
               refine zS Ad W 2 (st' := (276, [none, none, none, vI x3, vI x4, vI x5, none, none, vI (x1 &&& (7:Int32)), vI ((x1 >>> ((3:Int32) &&& 31)) &&& (7:Int32)), vI (x2 &&& (7:Int32)), vR 0, none, none, vI e121, vI (if ((((1:Int32) <<< ((x0 &&& (7:Int32)) &&& 31)) ||| ((1:Int32) <<< (((x0 >>> ((3:Int32) &&& 31)) &&& (7:Int32)) &&& 31))) &&& (((1:Int32) <<< ((x1 &&& (7:Int32)) &&& 31)) ||| ((1:Int32) <<< (((x1 >>> ((3:Int32) &&& 31)) &&& (7:Int32)) &&& 31)))) = (0:Int32) then (1:Int32) else (0:Int32)), none, none, none], [.int (0:Int32), .int r135], (H0 r116.2))) rfl ?_
               exact zM [ff,ff,ff,tt,tt,tt,ff,ff,tt,tt,tt,tt,ff,ff,tt,tt,ff,ff,ff] (K137 _ (if_neg hc138).symm)
             ·refine zF Ad W (t := 261) (f := 259) rfl (XT.ii_eq_f hc134) ?_
              refine zS Ad W 1 (st' := (260, [none, none, none, vI x3, vI x4, vI x5, none, none, vI (x1 &&& (7:Int32)), vI ((x1 >>> ((3:Int32) &&& 31)) &&& (7:Int32)), vI (x2 &&& (7:Int32)), vR 0, none, none, vI e121, vI (if ((((1:Int32) <<< ((x0 &&& (7:Int32)) &&& 31)) ||| ((1:Int32) <<< (((x0 >>> ((3:Int32) &&& 31)) &&& (7:Int32)) &&& 31))) &&& (((1:Int32) <<< ((x1 &&& (7:Int32)) &&& 31)) ||| ((1:Int32) <<< (((x1 >>> ((3:Int32) &&& 31)) &&& (7:Int32)) &&& 31)))) = (0:Int32) then (1:Int32) else (0:Int32)), none, none, none], [.int (0:Int32)], (H0 r116.2))) rfl ?_
              obtain rfl := Option.some.inj h
              exact QTri.retZ rfl rfl
            rcases em ((if ((((1:Int32) <<< ((x0 &&& (7:Int32)) &&& 31)) ||| ((1:Int32) <<< (((x0 >>> ((3:Int32) &&& 31)) &&& (7:Int32)) &&& 31))) &&& (((1:Int32) <<< ((x1 &&& (7:Int32)) &&& 31)) ||| ((1:Int32) <<< (((x1 >>> ((3:Int32) &&& 31)) &&& (7:Int32)) &&& 31)))) = (0:Int32) then (1:Int32) else (0:Int32)) = (0:Int32)) with hc133 | hc133
            ·refine zT Ad W (t := 255) (f := 251) rfl (XT.i0_eq_t hc133) ?_
             refine zS Ad W 1 (st' := (256, [none, none, none, vI x3, vI x4, vI x5, none, none, vI (x1 &&& (7:Int32)), vI ((x1 >>> ((3:Int32) &&& 31)) &&& (7:Int32)), vI (x2 &&& (7:Int32)), vR 0, none, none, vI e121, vI (if ((((1:Int32) <<< ((x0 &&& (7:Int32)) &&& 31)) ||| ((1:Int32) <<< (((x0 >>> ((3:Int32) &&& 31)) &&& (7:Int32)) &&& 31))) &&& (((1:Int32) <<< ((x1 &&& (7:Int32)) &&& 31)) ||| ((1:Int32) <<< (((x1 >>> ((3:Int32) &&& 31)) &&& (7:Int32)) &&& 31)))) = (0:Int32) then (1:Int32) else (0:Int32)), none, none, none], [.int (1:Int32), .int r130], (H0 r116.2))) rfl ?_
             exact zM [ff,ff,ff,tt,tt,tt,ff,ff,tt,tt,tt,tt,ff,ff,tt,tt,ff,ff,ff] (K132 _ (if_pos hc133).symm)
            ·refine zF Ad W (t := 255) (f := 251) rfl (XT.i0_eq_f hc133) ?_
             refine zS Ad W 2 (st' := (256, [none, none, none, vI x3, vI x4, vI x5, none, none, vI (x1 &&& (7:Int32)), vI ((x1 >>> ((3:Int32) &&& 31)) &&& (7:Int32)), vI (x2 &&& (7:Int32)), vR 0, none, none, vI e121, vI (if ((((1:Int32) <<< ((x0 &&& (7:Int32)) &&& 31)) ||| ((1:Int32) <<< (((x0 >>> ((3:Int32) &&& 31)) &&& (7:Int32)) &&& 31))) &&& (((1:Int32) <<< ((x1 &&& (7:Int32)) &&& 31)) ||| ((1:Int32) <<< (((x1 >>> ((3:Int32) &&& 31)) &&& (7:Int32)) &&& 31)))) = (0:Int32) then (1:Int32) else (0:Int32)), none, none, none], [.int (2:Int32), .int r130], (H0 r116.2))) rfl ?_
             exact zM [ff,ff,ff,tt,tt,tt,ff,ff,tt,tt,tt,tt,ff,ff,tt,tt,ff,ff,ff] (K132 _ (if_neg hc133).symm)
           ·refine zF Ad W (t := 241) (f := 239) rfl (XT.ii_eq_f hc129) ?_
            refine zS Ad W 1 (st' := (240, [none, none, none, vI x3, vI x4, vI x5, none, none, vI (x1 &&& (7:Int32)), vI ((x1 >>> ((3:Int32) &&& 31)) &&& (7:Int32)), vI (x2 &&& (7:Int32)), vR 0, none, none, vI e121, vI (if ((((1:Int32) <<< ((x0 &&& (7:Int32)) &&& 31)) ||| ((1:Int32) <<< (((x0 >>> ((3:Int32) &&& 31)) &&& (7:Int32)) &&& 31))) &&& (((1:Int32) <<< ((x1 &&& (7:Int32)) &&& 31)) ||| ((1:Int32) <<< (((x1 >>> ((3:Int32) &&& 31)) &&& (7:Int32)) &&& 31)))) = (0:Int32) then (1:Int32) else (0:Int32)), none, none, none], [.int (0:Int32)], (H0 r116.2))) rfl ?_
            obtain rfl := Option.some.inj h
            exact QTri.retZ rfl rfl
          rcases em ((if ((((1:Int32) <<< ((x0 &&& (7:Int32)) &&& 31)) ||| ((1:Int32) <<< (((x0 >>> ((3:Int32) &&& 31)) &&& (7:Int32)) &&& 31))) &&& (((1:Int32) <<< ((x1 &&& (7:Int32)) &&& 31)) ||| ((1:Int32) <<< (((x1 >>> ((3:Int32) &&& 31)) &&& (7:Int32)) &&& 31)))) = (0:Int32) then (1:Int32) else (0:Int32)) = (0:Int32)) with hc128 | hc128
          ·refine zT Ad W (t := 234) (f := 230) rfl (XT.i0_eq_t hc128) ?_
           refine zS Ad W 1 (st' := (236, [none, none, none, vI x3, vI x4, vI x5, none, none, vI (x1 &&& (7:Int32)), vI ((x1 >>> ((3:Int32) &&& 31)) &&& (7:Int32)), vI (x2 &&& (7:Int32)), vR 0, vI r116.1, none, vI e121, vI (if ((((1:Int32) <<< ((x0 &&& (7:Int32)) &&& 31)) ||| ((1:Int32) <<< (((x0 >>> ((3:Int32) &&& 31)) &&& (7:Int32)) &&& 31))) &&& (((1:Int32) <<< ((x1 &&& (7:Int32)) &&& 31)) ||| ((1:Int32) <<< (((x1 >>> ((3:Int32) &&& 31)) &&& (7:Int32)) &&& 31)))) = (0:Int32) then (1:Int32) else (0:Int32)), none, none, none], [.int (-3:Int32), .int r116.1], (H0 r116.2))) rfl ?_
           exact zM [ff,ff,ff,tt,tt,tt,ff,ff,tt,tt,tt,tt,ff,ff,tt,tt,ff,ff,ff] (K127 _ (if_pos hc128).symm)
          ·refine zF Ad W (t := 234) (f := 230) rfl (XT.i0_eq_f hc128) ?_
           refine zS Ad W 2 (st' := (236, [none, none, none, vI x3, vI x4, vI x5, none, none, vI (x1 &&& (7:Int32)), vI ((x1 >>> ((3:Int32) &&& 31)) &&& (7:Int32)), vI (x2 &&& (7:Int32)), vR 0, vI r116.1, none, vI e121, vI (if ((((1:Int32) <<< ((x0 &&& (7:Int32)) &&& 31)) ||| ((1:Int32) <<< (((x0 >>> ((3:Int32) &&& 31)) &&& (7:Int32)) &&& 31))) &&& (((1:Int32) <<< ((x1 &&& (7:Int32)) &&& 31)) ||| ((1:Int32) <<< (((x1 >>> ((3:Int32) &&& 31)) &&& (7:Int32)) &&& 31)))) = (0:Int32) then (1:Int32) else (0:Int32)), none, none, none], [.int (2:Int32), .int r116.1], (H0 r116.2))) rfl ?_
           exact zM [ff,ff,ff,tt,tt,tt,ff,ff,tt,tt,tt,tt,ff,ff,tt,tt,ff,ff,ff] (K127 _ (if_neg hc128).symm)
         rcases em (((((1:Int32) <<< ((x0 &&& (7:Int32)) &&& 31)) ||| ((1:Int32) <<< (((x0 >>> ((3:Int32) &&& 31)) &&& (7:Int32)) &&& 31))) &&& (((1:Int32) <<< ((x1 &&& (7:Int32)) &&& 31)) ||| ((1:Int32) <<< (((x1 >>> ((3:Int32) &&& 31)) &&& (7:Int32)) &&& 31)))) = (0:Int32)) with hc125 | hc125
         ·refine zF Ad W (t := 220) (f := 216) rfl (XT.i0_ne_f hc125) ?_
          refine zS Ad W 2 (st' := (221, [none, none, none, vI x3, vI x4, vI x5, none, none, vI (x1 &&& (7:Int32)), vI ((x1 >>> ((3:Int32) &&& 31)) &&& (7:Int32)), vI (x2 &&& (7:Int32)), vR 0, vI r116.1, vI ((((1:Int32) <<< ((x0 &&& (7:Int32)) &&& 31)) ||| ((1:Int32) <<< (((x0 >>> ((3:Int32) &&& 31)) &&& (7:Int32)) &&& 31))) &&& (((1:Int32) <<< ((x1 &&& (7:Int32)) &&& 31)) ||| ((1:Int32) <<< (((x1 >>> ((3:Int32) &&& 31)) &&& (7:Int32)) &&& 31)))), vI e121, none, none, none, none], [.int (1:Int32)], (H0 r116.2))) rfl ?_
          exact zM [ff,ff,ff,tt,tt,tt,ff,ff,tt,tt,tt,tt,tt,ff,tt,ff,ff,ff,ff] (K124 _ (if_pos hc125).symm)
         ·refine zT Ad W (t := 220) (f := 216) rfl (XT.i0_ne_t hc125) ?_
          refine zS Ad W 1 (st' := (221, [none, none, none, vI x3, vI x4, vI x5, none, none, vI (x1 &&& (7:Int32)), vI ((x1 >>> ((3:Int32) &&& 31)) &&& (7:Int32)), vI (x2 &&& (7:Int32)), vR 0, vI r116.1, vI ((((1:Int32) <<< ((x0 &&& (7:Int32)) &&& 31)) ||| ((1:Int32) <<< (((x0 >>> ((3:Int32) &&& 31)) &&& (7:Int32)) &&& 31))) &&& (((1:Int32) <<< ((x1 &&& (7:Int32)) &&& 31)) ||| ((1:Int32) <<< (((x1 >>> ((3:Int32) &&& 31)) &&& (7:Int32)) &&& 31)))), vI e121, none, none, none, none], [.int (0:Int32)], (H0 r116.2))) rfl ?_
          exact zM [ff,ff,ff,tt,tt,tt,ff,ff,tt,tt,tt,tt,tt,ff,tt,ff,ff,ff,ff] (K124 _ (if_neg hc125).symm)
        ·refine zF Ad W (t := 150) (f := 148) rfl (XT.i0_eq_f hc115) ?_
         refine zS Ad W 1 (st' := (149, [vI x0, vI x1, vI x2, vI x3, vI x4, vI x5, vI (x0 &&& (7:Int32)), vI ((x0 >>> ((3:Int32) &&& 31)) &&& (7:Int32)), vI (x1 &&& (7:Int32)), vI ((x1 >>> ((3:Int32) &&& 31)) &&& (7:Int32)), vI (x2 &&& (7:Int32)), vR 0, none, none, none, none, none, none, none], [.int (0:Int32)], (H0 r114.2))) rfl ?_
         obtain rfl := Option.some.inj h
         exact QTri.retZ rfl rfl
       ·refine zF Ad W (t := 135) (f := 133) rfl (XT.ii_eq_f hc113) ?_
        refine zS Ad W 1 (st' := (134, [vI x0, vI x1, vI x2, vI x3, vI x4, vI x5, vI (x0 &&& (7:Int32)), vI ((x0 >>> ((3:Int32) &&& 31)) &&& (7:Int32)), vI (x1 &&& (7:Int32)), vI ((x1 >>> ((3:Int32) &&& 31)) &&& (7:Int32)), vI (x2 &&& (7:Int32)), vR 0, none, none, none, none, none, none, none], [.int (0:Int32)], (H0 r112.2))) rfl ?_
        obtain rfl := Option.some.inj h
        exact QTri.retZ rfl rfl
      ·refine zF Ad W (t := 123) (f := 121) rfl (XT.i0_eq_f hc72) ?_
       refine zS Ad W 1 (st' := (122, [vI x0, vI x1, vI x2, vI x3, vI x4, vI x5, vI (x0 &&& (7:Int32)), vI ((x0 >>> ((3:Int32) &&& 31)) &&& (7:Int32)), vI (x1 &&& (7:Int32)), vI ((x1 >>> ((3:Int32) &&& 31)) &&& (7:Int32)), vI (x2 &&& (7:Int32)), vR 0, none, none, none, none, none, none, none], [.int (0:Int32)], (H0 r71.2))) rfl ?_
       obtain rfl := Option.some.inj h
       exact QTri.retZ rfl rfl
     ·refine zF Ad W (t := 108) (f := 106) rfl (XT.i0_eq_f hc70) ?_
      refine zS Ad W 1 (st' := (107, [vI x0, vI x1, vI x2, vI x3, vI x4, vI x5, vI (x0 &&& (7:Int32)), vI ((x0 >>> ((3:Int32) &&& 31)) &&& (7:Int32)), vI (x1 &&& (7:Int32)), vI ((x1 >>> ((3:Int32) &&& 31)) &&& (7:Int32)), vI (x2 &&& (7:Int32)), vR 0, none, none, none, none, none, none, none], [.int (0:Int32)], (H0 r69.2))) rfl ?_
      obtain rfl := Option.some.inj h
      exact QTri.retZ rfl rfl
    ·refine zF Ad W (t := 94) (f := 92) rfl (XT.i0_eq_f hc58) ?_
     refine zS Ad W 1 (st' := (93, [vI x0, vI x1, vI x2, vI x3, vI x4, vI x5, vI (x0 &&& (7:Int32)), vI ((x0 >>> ((3:Int32) &&& 31)) &&& (7:Int32)), vI (x1 &&& (7:Int32)), vI ((x1 >>> ((3:Int32) &&& 31)) &&& (7:Int32)), vI (x2 &&& (7:Int32)), vR 0, none, none, none, none, none, none, none], [.int (0:Int32)], (H0 r57.2))) rfl ?_
     obtain rfl := Option.some.inj h
     exact QTri.retZ rfl rfl
   ·refine zF Ad W (t := 81) (f := 79) rfl (XT.i0_eq_f hc56) ?_
    refine zS Ad W 1 (st' := (80, [vI x0, vI x1, vI x2, vI x3, vI x4, vI x5, vI (x0 &&& (7:Int32)), vI ((x0 >>> ((3:Int32) &&& 31)) &&& (7:Int32)), vI (x1 &&& (7:Int32)), vI ((x1 >>> ((3:Int32) &&& 31)) &&& (7:Int32)), vI (x2 &&& (7:Int32)), vR 0, none, none, none, none, none, none, none], [.int (0:Int32)], (H0 r55.2))) rfl ?_
    obtain rfl := Option.some.inj h
    exact QTri.retZ rfl rfl
  ·refine zF Ad W (t := 68) (f := 66) rfl (XT.ii_eq_f hc34) ?_
   refine zS Ad W 1 (st' := (67, [vI x0, vI x1, vI x2, vI x3, vI x4, vI x5, vI (x0 &&& (7:Int32)), vI ((x0 >>> ((3:Int32) &&& 31)) &&& (7:Int32)), vI (x1 &&& (7:Int32)), vI ((x1 >>> ((3:Int32) &&& 31)) &&& (7:Int32)), vI (x2 &&& (7:Int32)), vR 0, none, none, none, none, none, none, none], [.int (0:Int32)], (H0 r33.2))) rfl ?_
   obtain rfl := Option.some.inj h
   exact QTri.retZ rfl rfl
 ·refine zF Ad W (t := 57) (f := 55) rfl (XT.i0_eq_f hc32) ?_
  refine zS Ad W 1 (st' := (56, [vI x0, vI x1, vI x2, vI x3, vI x4, vI x5, vI (x0 &&& (7:Int32)), vI ((x0 >>> ((3:Int32) &&& 31)) &&& (7:Int32)), vI (x1 &&& (7:Int32)), vI ((x1 >>> ((3:Int32) &&& 31)) &&& (7:Int32)), vI (x2 &&& (7:Int32)), vR 0, none, none, none, none, none, none, none], [.int (0:Int32)], (H0 r31.2))) rfl ?_
  obtain rfl := Option.some.inj h
  exact QTri.retZ rfl rfl
end Walks
set_option maxHeartbeats 4000000
theorem i_lt {x y : Int32} : x < y ↔ x.toInt < y.toInt := Int32.lt_iff_toInt_lt
theorem i_eq {x y : Int32} : x = y ↔ x.toInt = y.toInt := Int32.toInt_inj.symm
theorem i_lo (x : Int32) : -2147483648 ≤ x.toInt := Int32.le_toInt x
theorem i_hi (x : Int32) : x.toInt < 2147483648 := Int32.toInt_lt x
theorem i_add {x y : Int32} (h1 : -2147483648 ≤ x.toInt + y.toInt) (h2 : x.toInt + y.toInt < 2147483648) : (x + y).toInt = x.toInt + y.toInt := XT.add32 ⟨h1, by omega⟩
theorem i_sub {x y : Int32} (h1 : -2147483648 ≤ x.toInt - y.toInt) (h2 : x.toInt - y.toInt < 2147483648) : (x - y).toInt = x.toInt - y.toInt := XT.sub32 ⟨h1, by omega⟩
theorem i_mul {x y : Int32} (h1 : -2147483648 ≤ x.toInt * y.toInt) (h2 : x.toInt * y.toInt < 2147483648) : (x * y).toInt = x.toInt * y.toInt := XT.mul32 ⟨h1, by omega⟩
theorem i_nat (x : Int32) : x.toNatClampNeg = x.toInt.toNat := rfl
theorem aget_at {α : Type} {xs : List α} {j : Int32} {n : Nat} (hj : j.toInt = n) (hn : n < xs.length) : aget xs j = some xs[n] := by
 have h0 : ¬ j < 0 := by rw [i_lt]; show ¬ j.toInt < 0; omega
 unfold aget
 rw [if_neg h0, i_nat, hj]
 simp [hn]
theorem aget_rep {α : Type} {m : Nat} {a : α} {j : Int32} (h0 : 0 ≤ j.toInt) (h1 : j.toInt < m) : aget (List.replicate m a) j = some a := by
 rw [aget_at (n := j.toInt.toNat) (by omega) (by rw [List.length_replicate]; omega)]
 simp
theorem aset_at {α : Type} {xs : List α} {j : Int32} {n : Nat} {v : α} (hj : j.toInt = n) (hn : n < xs.length) : aset xs j v = some (xs.set n v) := by
 have h0 : ¬ j < 0 := by rw [i_lt]; show ¬ j.toInt < 0; omega
 unfold aset
 have e : j.toNatClampNeg = n := by rw [i_nat, hj]; simp
 rw [if_neg h0, e, if_pos hn]
theorem rep_set {α : Type} (m k : Nat) (a : α) : (List.replicate m a).set k a = List.replicate m a := by
 apply List.ext_getElem (by simp)
 intro i h1 h2
 rw [List.getElem_set]
 split <;> simp
theorem small_cases {x : Int32} (h0 : 0 ≤ x.toInt) {n : Nat} (h1 : x.toInt < n) {P : Int32 → Prop} (h : ∀ m : Nat, m < n → P (Int32.ofInt m)) : P x := by
 have e : Int32.ofInt (x.toInt.toNat : Nat) = x := by
  rw [Int.toNat_of_nonneg h0, Int32.ofInt_toInt]
 rw [← e]
 exact h _ (by omega)
theorem bit_ne {x : Int32} (h0 : 0 ≤ x.toInt) (h1 : x.toInt < 32) : ¬ (((1 : Int32) <<< (x &&& 31)) &&& ((1 : Int32) <<< (x &&& 31))) = 0 :=
 small_cases (P := fun x => ¬ (((1 : Int32) <<< (x &&& 31)) &&& ((1 : Int32) <<< (x &&& 31))) = 0) h0 (n := 32) h1 (by decide)
def okP {α : Type} (m : Option α) (P : α → Prop) : Prop := ∃ a, m = some a ∧ P a
theorem okP.some {α : Type} {a : α} {P : α → Prop} (h : P a) : okP (some a) P := ⟨a, rfl, h⟩
theorem okP.bind {α β : Type} {m : Option α} {f : α → Option β} {P : β → Prop} (h : okP m fun a => okP (f a) P) : okP (m.bind f) P := by
 obtain ⟨a, e, b, e2, h2⟩ := h
 exact ⟨b, by rw [e]; exact e2, h2⟩
theorem okP.ite {α : Type} {c : Prop} [Decidable c] {a b : Option α} {P : α → Prop} (h1 : c → okP a P) (h2 : ¬ c → okP b P) : okP (if c then a else b) P := by
 by_cases h : c
 ·rw [if_pos h]; exact h1 h
 ·rw [if_neg h]; exact h2 h
theorem okP.mono {α : Type} {m : Option α} {P Q : α → Prop} (h : okP m P) (k : ∀ a, P a → Q a) : okP m Q := by
 obtain ⟨a, e, h⟩ := h
 exact ⟨a, e, k a h⟩
theorem okP.of {α : Type} {m : Option α} {a : α} {P : α → Prop} (e : m = Option.some a) (h : P a) : okP m P := ⟨a, e, h⟩
theorem okP.aget {α : Type} {xs : List α} {j : Int32} {P : α → Prop} (h0 : 0 ≤ j.toInt) (h1 : j.toInt < xs.length) (k : ∀ v, xs[j.toInt.toNat]? = Option.some v → P v) : okP (aget xs j) P :=
 ⟨_, aget_at (n := j.toInt.toNat) (by omega) (by omega), k _ (List.getElem?_eq_getElem _)⟩
theorem okP.aset {α : Type} {xs : List α} {j : Int32} {v : α} {P : List α → Prop} (h0 : 0 ≤ j.toInt) (h1 : j.toInt < xs.length) (k : P (xs.set j.toInt.toNat v)) : okP (aset xs j v) P :=
 ⟨_, aset_at (n := j.toInt.toNat) (by omega) (by omega), k⟩
theorem okP.loop {V E : Type} {B : V → Option (E ⊕ V)} {P : E → Prop} {n : Nat} {v : V} (I : V → Prop) (μ : V → Nat) (hv : I v) (hm : μ v < n) (hB : ∀ v, I v → okP (B v) (fun r => Sum.elim P (fun v' => I v' ∧ μ v' < μ v) r)) : okP (loopN B n v) P := by
 refine loopN_inv I P μ ?_ n v hv hm
 intro v hv
 obtain ⟨r, e, h⟩ := hB v hv
 cases r with
 | inl x => exact Or.inl ⟨x, e, h⟩
 | inr x => exact Or.inr ⟨x, e, h⟩
theorem len_i {n : Nat} (h : n ≤ 1000) : (n.toInt32).toInt = n := by
 have e : n.toInt32 = Int32.ofInt n := rfl
 rw [e, Int32.toInt_ofInt_of_le (by show _ ≤ (n : Int); omega) (by show (n : Int) < _; omega)]
theorem and1 (x : Int32) : x &&& 1 = 0 ∨ x &&& 1 = 1 := by
 have e : (x &&& 1).toBitVec = x.toBitVec &&& 1#32 := rfl
 have h := BitVec.and_one_eq_setWidth_ofBool_getLsbD (x := x.toBitVec)
 cases g : x.toBitVec.getLsbD 0
 ·left; apply Int32.toBitVec_inj.1; rw [e, h, g]; rfl
 ·right; apply Int32.toBitVec_inj.1; rw [e, h, g]; rfl
theorem okP.not {α : Type} {m : Option α} {a : α} {P : α → Prop} (h : okP m P) (e : m = Option.some a) : P a := by
 obtain ⟨b, e2, h⟩ := h
 rw [e] at e2
 exact (Option.some.inj e2) ▸ h
theorem and_rng {x m : Int32} (hm : 0 ≤ m.toInt) : 0 ≤ (x &&& m).toInt ∧ (x &&& m).toInt ≤ m.toInt := by
 have e : (x &&& m).toBitVec.toNat = x.toBitVec.toNat &&& m.toBitVec.toNat := BitVec.toNat_and ..
 have l : (x &&& m).toBitVec.toNat ≤ m.toBitVec.toNat := by rw [e]; exact Nat.and_le_right
 have c1 : m.toInt = if 2 * m.toBitVec.toNat < 2 ^ 32 then (m.toBitVec.toNat : Int) else m.toBitVec.toNat - (2 ^ 32 : Nat) := BitVec.toInt_eq_toNat_cond m.toBitVec
 have c2 : (x &&& m).toInt = if 2 * (x &&& m).toBitVec.toNat < 2 ^ 32 then ((x &&& m).toBitVec.toNat : Int) else (x &&& m).toBitVec.toNat - (2 ^ 32 : Nat) := BitVec.toInt_eq_toNat_cond (x &&& m).toBitVec
 have b : m.toBitVec.toNat < 2 ^ 32 := m.toBitVec.isLt
 by_cases h : 2 * m.toBitVec.toNat < 2 ^ 32
 ·rw [if_pos h] at c1
  rw [if_pos (by omega)] at c2
  omega
 ·rw [if_neg h] at c1
  omega
theorem mod_rng {x m : Int32} (hx : 0 ≤ x.toInt) (hm : 0 < m.toInt) : 0 ≤ (x % m).toInt ∧ (x % m).toInt < m.toInt := by
 rw [Int32.toInt_mod, Int.tmod_eq_emod_of_nonneg hx]
 exact ⟨Int.emod_nonneg _ (by omega), Int.emod_lt_of_pos _ hm⟩
def sFit (s : List Int32) (τ : QHeap) : Prop := τ.length - List.length ([Sum.inr (Sum.inl (FieldType.int, s))] : QHeap) ≤ room_1.cells ∧ qhs τ - qhs [Sum.inr (Sum.inl (FieldType.int, s))] ≤ room_1.slots
def Sh (K n : Int32) (o : Ob) : Prop := (f_value o).length = 32 ∧ (f_version o).length = 32 ∧ (f_active o).length = 8 ∧ (f_start o).length = 8 ∧ (f_readSet o).length = 8 ∧ (f_writeSet o).length = 8 ∧ (f_buffered o).length = 256 ∧ f_keyCount o = K ∧ f_slotCount o = n
theorem Sh_buf {K n : Int32} {o : Ob} (h : Sh K n o) {x : List Int32} (hx : x.length = 256) : Sh K n (s_buffered o x) := ⟨h.1, h.2.1, h.2.2.1, h.2.2.2.1, h.2.2.2.2.1, h.2.2.2.2.2.1, hx, h.2.2.2.2.2.2.2⟩
theorem Sh_wr {K n : Int32} {o : Ob} (h : Sh K n o) {x : List Int32} (hx : x.length = 8) : Sh K n (s_writeSet o x) := ⟨h.1, h.2.1, h.2.2.1, h.2.2.2.1, h.2.2.2.2.1, hx, h.2.2.2.2.2.2.1, h.2.2.2.2.2.2.2⟩
theorem Sh_rd {K n : Int32} {o : Ob} (h : Sh K n o) {x : List Int32} (hx : x.length = 8) : Sh K n (s_readSet o x) := ⟨h.1, h.2.1, h.2.2.1, h.2.2.2.1, hx, h.2.2.2.2.2.1, h.2.2.2.2.2.2.1, h.2.2.2.2.2.2.2⟩
theorem Sh_st {K n : Int32} {o : Ob} (h : Sh K n o) {x : List Int32} (hx : x.length = 8) : Sh K n (s_start o x) := ⟨h.1, h.2.1, h.2.2.1, hx, h.2.2.2.2.1, h.2.2.2.2.2.1, h.2.2.2.2.2.2.1, h.2.2.2.2.2.2.2⟩
theorem Sh_ac {K n : Int32} {o : Ob} (h : Sh K n o) {x : List Int32} (hx : x.length = 8) : Sh K n (s_active o x) := ⟨h.1, h.2.1, hx, h.2.2.2.1, h.2.2.2.2.1, h.2.2.2.2.2.1, h.2.2.2.2.2.2.1, h.2.2.2.2.2.2.2⟩
theorem Sh_ve {K n : Int32} {o : Ob} (h : Sh K n o) {x : List Int32} (hx : x.length = 32) : Sh K n (s_version o x) := ⟨h.1, hx, h.2.2.1, h.2.2.2.1, h.2.2.2.2.1, h.2.2.2.2.2.1, h.2.2.2.2.2.2.1, h.2.2.2.2.2.2.2⟩
theorem Sh_va {K n : Int32} {o : Ob} (h : Sh K n o) {x : List Int32} (hx : x.length = 32) : Sh K n (s_value o x) := ⟨hx, h.2.1, h.2.2.1, h.2.2.2.1, h.2.2.2.2.1, h.2.2.2.2.2.1, h.2.2.2.2.2.2.1, h.2.2.2.2.2.2.2⟩
theorem Sh_cc {K n : Int32} {o : Ob} (h : Sh K n o) (x : Int32) : Sh K n (s_commitCount o x) := h
theorem Sh_ab {K n : Int32} {o : Ob} (h : Sh K n o) (x : Int32) : Sh K n (s_abortCount o x) := h
theorem Sh_lc {K n : Int32} {o : Ob} (h : Sh K n o) (x : Int32) : Sh K n (s_lastConflict o x) := h
theorem vtx {K n : Int32} {o : Ob} (h : Sh K n o) (hn : n.toInt ≤ 8) (x : Int32) : okP (F8 o x) (fun r => r = 0 ∨ (r ≠ 0 ∧ 0 ≤ x.toInt ∧ x.toInt < n.toInt)) := by
 obtain ⟨h1, h2, h3, h4, h5, h6, h7, h8, h9⟩ := h
 unfold F8
 rw [h9]
 repeat' with_reducible (first | apply okP.bind | apply okP.some | (apply okP.ite <;> intro _) | refine okP.aget ?_ ?_ (fun v hv => ?_) | refine okP.aset ?_ ?_ ?_)
 ·exact Or.inl rfl
 ·(simp only [i_lt, Int32.reduceToInt] at *; omega)
 ·(simp only [i_lt, Int32.reduceToInt] at *; omega)
 ·by_cases e : v &&& 1 = 0
  ·exact Or.inl e
  ·exact Or.inr ⟨e, by (simp only [i_lt, Int32.reduceToInt] at *; omega), by (simp only [i_lt, Int32.reduceToInt] at *; omega)⟩
 ·exact Or.inl rfl
 ·exact Or.inl rfl
theorem vkey {K n : Int32} {o : Ob} (h : Sh K n o) (hK : K.toInt ≤ 32) (x : Int32) : okP (F9 o x) (fun r => (r = 0 ∧ ¬ (0 ≤ x.toInt ∧ x.toInt < K.toInt)) ∨ (r ≠ 0 ∧ 0 ≤ x.toInt ∧ x.toInt < K.toInt)) := by
 obtain ⟨h1, h2, h3, h4, h5, h6, h7, h8, h9⟩ := h
 unfold F9
 rw [h8]
 repeat' with_reducible (first | apply okP.bind | apply okP.some | (apply okP.ite <;> intro _) | refine okP.aget ?_ ?_ (fun v hv => ?_) | refine okP.aset ?_ ?_ ?_)
 ·exact Or.inl ⟨rfl, by (simp only [i_lt, Int32.reduceToInt] at *; omega)⟩
 ·exact Or.inr ⟨by decide, by (simp only [i_lt, Int32.reduceToInt] at *; omega)⟩
 ·exact Or.inl ⟨rfl, by (simp only [i_lt, Int32.reduceToInt] at *; omega)⟩
 ·exact Or.inl ⟨rfl, by (simp only [i_lt, Int32.reduceToInt] at *; omega)⟩

def clr (o : Ob) (x : Nat) (b : List Int32) : Ob := s_buffered (s_writeSet (s_readSet (s_start (s_active o ((f_active o).set x 0)) ((f_start o).set x 0)) ((f_readSet o).set x 0)) ((f_writeSet o).set x 0)) b
theorem Sh_clr {K n : Int32} {o : Ob} (h : Sh K n o) (x : Nat) {b : List Int32} (hb : b.length = 256) : Sh K n (clr o x b) := by
 obtain ⟨h1, h2, h3, h4, h5, h6, h7, h8, h9⟩ := h
 exact ⟨h1, h2, by show (List.set _ _ _).length = _; rw [List.length_set]; exact h3, by show (List.set _ _ _).length = _; rw [List.length_set]; exact h4, by show (List.set _ _ _).length = _; rw [List.length_set]; exact h5, by show (List.set _ _ _).length = _; rw [List.length_set]; exact h6, hb, h8, h9⟩
theorem clear_ok {K n : Int32} {o : Ob} (h : Sh K n o) {x : Int32} (hx : 0 ≤ x.toInt) (hx8 : x.toInt < 8) : okP (F6 o x) (fun r => ∃ b : List Int32, b.length = 256 ∧ r = clr o x.toInt.toNat b) := by
 obtain ⟨h1, h2, h3, h4, h5, h6, h7, h8, h9⟩ := h
 unfold F6
 have e32 : (x * 32).toInt = x.toInt * 32 := i_mul (x := x) (y := 32) (by show _ ≤ x.toInt * 32; omega) (by show x.toInt * 32 < _; omega)
 repeat' with_reducible (first | apply okP.bind | apply okP.some | (apply okP.ite <;> intro _) | refine okP.aget ?_ ?_ (fun v hv => ?_) | refine okP.aset ?_ ?_ ?_)
 ·exact hx
 ·omega
 ·exact hx
 ·omega
 ·exact hx
 ·omega
 ·exact hx
 ·omega
 obtain ⟨p, hp⟩ : ∃ p, p = s_writeSet (s_readSet (s_start (s_active o ((f_active o).set x.toInt.toNat 0)) ((f_start o).set x.toInt.toNat 0)) ((f_readSet o).set x.toInt.toNat 0)) ((f_writeSet o).set x.toInt.toNat 0) := ⟨_, rfl⟩
 rw [← hp]
 refine okP.loop (fun w => 0 ≤ w.1.toInt ∧ w.1.toInt ≤ 32 ∧ ∃ b : List Int32, b.length = 256 ∧ w.2 = s_buffered p b) (fun w => (32 - w.1.toInt).toNat) ⟨by show (0 : Int) ≤ 0; decide, by show (0 : Int) ≤ 32; decide, f_buffered o, h7, by rw [hp]; rfl⟩ (by show (32 - (0 : Int)).toNat < 4000; decide) ?_
 intro w ⟨a1, a2, b, a3, a4⟩
 unfold B6_35
 rw [a4]
 have e1 : (1 : Int32).toInt = 1 := rfl
 apply okP.ite
 ·intro c
  have c' : w.1.toInt < 32 := by rw [i_lt] at c; exact c
  have ej : (x * 32 + w.1).toInt = x.toInt * 32 + w.1.toInt := by rw [i_add (by omega) (by omega), e32]
  have e2 : (w.1 + 1).toInt = w.1.toInt + 1 := by rw [i_add (by omega) (by omega), e1]
  apply okP.bind
  refine okP.aset (by omega) (by show _ < (b.length : Int); omega) ?_
  apply okP.some
  refine ⟨⟨?_, ?_, (b.set (x * 32 + w.1).toInt.toNat 0), by rw [List.length_set]; exact a3, rfl⟩, ?_⟩
  ·show 0 ≤ (w.1 + 1).toInt; omega
  ·show (w.1 + 1).toInt ≤ 32; omega
  ·show (32 - (w.1 + 1).toInt).toNat < (32 - w.1.toInt).toNat; omega
 ·intro c
  apply okP.some
  show okP (some (s_buffered p b)) _
  apply okP.some
  exact ⟨b, a3, by rw [hp]; rfl⟩
theorem bufi {x y : Int32} (hx : 0 ≤ x.toInt) (hx8 : x.toInt < 8) (hy : 0 ≤ y.toInt) (hy32 : y.toInt < 32) : (x * 32 + y).toInt = x.toInt * 32 + y.toInt := by
 have e32 : (x * 32).toInt = x.toInt * 32 := i_mul (x := x) (y := 32) (by show _ ≤ x.toInt * 32; omega) (by show x.toInt * 32 < _; omega)
 rw [i_add (by omega) (by omega), e32]
theorem inc1 {x : Int32} (h : x.toInt < 2147483647) : (x + 1).toInt = x.toInt + 1 := by
 have := i_lo x
 have e1 : (1 : Int32).toInt = 1 := rfl
 rw [i_add (by omega) (by omega), e1]
theorem free_ok {K n : Int32} {o : Ob} (h : Sh K n o) (hn0 : 0 ≤ n.toInt) (hn : n.toInt ≤ 8) : okP (F4 o) (fun r => (r = -1 ∧ ∀ i : Nat, i < n.toInt.toNat → (f_active o)[i]? ≠ some 0) ∨ (0 ≤ r.toInt ∧ r.toInt < n.toInt ∧ (f_active o)[r.toInt.toNat]? = some 0)) := by
 obtain ⟨h1, h2, h3, h4, h5, h6, h7, h8, h9⟩ := h
 unfold F4
 apply okP.bind
 refine okP.loop (fun w => 0 ≤ w.toInt ∧ w.toInt ≤ n.toInt ∧ ∀ i : Nat, i < w.toInt.toNat → (f_active o)[i]? ≠ some 0) (fun w => (8 - w.toInt).toNat) ⟨by show (0 : Int) ≤ 0; decide, hn0, fun i hi => absurd hi (Nat.not_lt_zero _)⟩ (by show (8 - (0 : Int)).toNat < 4000; decide) ?_
 intro w ⟨a1, a2, a3⟩
 unfold B4_2
 rw [h9]
 repeat' with_reducible (first | apply okP.bind | apply okP.some | (apply okP.ite <;> intro _) | refine okP.aget ?_ ?_ (fun v hv => ?_) | refine okP.aset ?_ ?_ ?_)
 ·exact a1
 ·(simp only [i_lt, Int32.reduceToInt] at *; omega)
 ·rename_i c
  have : v = 0 := c
  subst this
  exact okP.some (Or.inr ⟨a1, by (simp only [i_lt, Int32.reduceToInt] at *; omega), hv⟩)
 ·rename_i c1 c2 c3
  have e2 : (w + 1).toInt = w.toInt + 1 := inc1 (by rw [i_lt] at c2; have : (8 : Int32).toInt = 8 := rfl; omega)
  rw [i_lt] at c1 c2
  have e8 : (8 : Int32).toInt = 8 := rfl
  refine ⟨⟨by omega, by omega, ?_⟩, by omega⟩
  intro i hi
  rw [e2] at hi
  by_cases hj : i < w.toInt.toNat
  ·exact a3 i hj
  ·have : i = w.toInt.toNat := by omega
   rw [this, hv]
   intro q
   exact c3 (Option.some.inj q)
 ·rename_i c1 c2
  exfalso
  rw [i_lt] at c1 c2
  have e8 : (8 : Int32).toInt = 8 := rfl
  omega
 ·rename_i c1
  apply okP.some
  refine Or.inl ⟨rfl, fun i hi => a3 i ?_⟩
  rw [i_lt] at c1
  omega
def opn (o : Ob) (x : Nat) (b : List Int32) : Ob := s_start (s_active (clr o x b) ((f_active (clr o x b)).set x 1)) ((f_start (clr o x b)).set x (f_commitCount (clr o x b)))
theorem Sh_opn {K n : Int32} {o : Ob} (h : Sh K n o) (x : Nat) {b : List Int32} (hb : b.length = 256) : Sh K n (opn o x b) := by
 have g := Sh_clr h x hb
 unfold opn
 obtain ⟨q, hq⟩ : ∃ q, q = clr o x b := ⟨_, rfl⟩
 rw [← hq] at g ⊢
 exact Sh_st (Sh_ac g (by rw [List.length_set]; exact g.2.2.1)) (by rw [List.length_set]; exact g.2.2.2.1)
theorem begin_ok {K n : Int32} {o : Ob} (h : Sh K n o) (hn0 : 0 ≤ n.toInt) (hn : n.toInt ≤ 8) : okP (F3 o) (fun r => (r = (-5, o) ∧ ∀ i : Nat, i < n.toInt.toNat → (f_active o)[i]? ≠ some 0) ∨ (0 ≤ r.1.toInt ∧ r.1.toInt < n.toInt ∧ (f_active o)[r.1.toInt.toNat]? = some 0 ∧ ∃ b : List Int32, b.length = 256 ∧ r.2 = opn o r.1.toInt.toNat b)) := by
 unfold F3
 apply okP.bind
 refine okP.mono (free_ok h hn0 hn) ?_
 rintro r (⟨rfl, q⟩ | ⟨q1, q2, q3⟩)
 ·rw [if_pos (by decide)]
  apply okP.some
  exact Or.inl ⟨rfl, q⟩
 ·rw [if_neg (by rw [i_lt]; show ¬ r.toInt < 0; omega)]
  apply okP.bind
  unfold F5
  apply okP.bind
  refine okP.mono (clear_ok h q1 (by omega)) ?_
  rintro _ ⟨b, hb, rfl⟩
  have g := Sh_clr h r.toInt.toNat hb
  repeat' with_reducible (first | apply okP.bind | apply okP.some | (apply okP.ite <;> intro _) | refine okP.aget ?_ ?_ (fun v hv => ?_) | refine okP.aset ?_ ?_ ?_)
  ·exact q1
  ·rw [g.2.2.1]; omega
  ·exact q1
  ·rw [g.2.2.2.1]; omega
  ·exact Or.inr ⟨q1, q2, q3, b, hb, rfl⟩
theorem read_ok {K n : Int32} {o : Ob} (h : Sh K n o) (hn : n.toInt ≤ 8) (hK : K.toInt ≤ 32) (x y : Int32) : okP (F7 o x y) (fun r => r.2 = o ∨ (0 ≤ x.toInt ∧ x.toInt < n.toInt ∧ ∃ w, r.2 = s_readSet o ((f_readSet o).set x.toInt.toNat w))) := by
 unfold F7
 apply okP.bind
 refine okP.mono (vtx h hn x) ?_
 rintro r (rfl | ⟨q0, q1, q2⟩)
 ·rw [if_pos rfl]; exact okP.some (Or.inl rfl)
 rw [if_neg q0]
 apply okP.bind
 refine okP.mono (vkey h hK y) ?_
 rintro r' (⟨rfl, _⟩ | ⟨q3, q4, q5⟩)
 ·rw [if_pos rfl]; exact okP.some (Or.inl rfl)
 rw [if_neg q3]
 obtain ⟨h1, h2, h3, h4, h5, h6, h7, h8, h9⟩ := h
 have eb := bufi q1 (by omega) q4 (by omega)
 unfold F10 F12
 repeat' with_reducible (first | apply okP.bind | apply okP.some | (apply okP.ite <;> intro _) | refine okP.aget ?_ ?_ (fun v hv => ?_) | refine okP.aset ?_ ?_ ?_)
 ·exact q1
 ·omega
 ·exact q1
 ·omega
 ·exact q1
 ·omega
 ·exact q4
 ·omega
 ·exact Or.inr ⟨q1, q2, _, rfl⟩
 ·omega
 ·omega
 ·exact Or.inl rfl
theorem write_ok {K n : Int32} {o : Ob} (h : Sh K n o) (hn : n.toInt ≤ 8) (hK : K.toInt ≤ 32) (x y z : Int32) : okP (F11 o x y z) (fun r => r.2 = o ∨ (0 ≤ x.toInt ∧ x.toInt < n.toInt ∧ ∃ w b, b.length = 256 ∧ r.2 = s_buffered (s_writeSet o ((f_writeSet o).set x.toInt.toNat w)) b)) := by
 unfold F11
 apply okP.bind
 refine okP.mono (vtx h hn x) ?_
 rintro r (rfl | ⟨q0, q1, q2⟩)
 ·rw [if_pos rfl]; exact okP.some (Or.inl rfl)
 rw [if_neg q0]
 apply okP.bind
 refine okP.mono (vkey h hK y) ?_
 rintro r' (⟨rfl, _⟩ | ⟨q3, q4, q5⟩)
 ·rw [if_pos rfl]; exact okP.some (Or.inl rfl)
 rw [if_neg q3]
 obtain ⟨h1, h2, h3, h4, h5, h6, h7, h8, h9⟩ := h
 have eb := bufi q1 (by omega) q4 (by omega)
 unfold F10 F12
 repeat' with_reducible (first | apply okP.bind | apply okP.some | (apply okP.ite <;> intro _) | refine okP.aget ?_ ?_ (fun v hv => ?_) | refine okP.aset ?_ ?_ ?_)
 ·exact q1
 ·omega
 ·exact q1
 ·omega
 ·omega
 ·omega
 ·exact Or.inr ⟨q1, q2, _, _, by rw [List.length_set]; exact h7, rfl⟩
theorem stale_ok {K n : Int32} {o : Ob} (h : Sh K n o) {x : Int32} (hx : 0 ≤ x.toInt) (hx8 : x.toInt < 8) : okP (F14 o x) (fun _ => True) := by
 obtain ⟨h1, h2, h3, h4, h5, h6, h7, h8, h9⟩ := h
 unfold F14
 repeat' with_reducible (first | apply okP.bind | apply okP.some | (apply okP.ite <;> intro _) | refine okP.aget ?_ ?_ (fun v hv => ?_) | refine okP.aset ?_ ?_ ?_)
 ·exact hx
 ·omega
 ·trivial
 ·trivial
theorem least_ok {K n : Int32} {o : Ob} (h : Sh K n o) (hK0 : 0 ≤ K.toInt) (hK : K.toInt ≤ 32) {x : Int32} (hx : 0 ≤ x.toInt) (hx8 : x.toInt < 8) : okP (F15 o x) (fun _ => True) := by
 obtain ⟨h1, h2, h3, h4, h5, h6, h7, h8, h9⟩ := h
 unfold F15
 repeat' with_reducible (first | apply okP.bind | apply okP.some | (apply okP.ite <;> intro _) | refine okP.aget ?_ ?_ (fun v hv => ?_) | refine okP.aset ?_ ?_ ?_)
 ·exact hx
 ·omega
 ·exact hx
 ·omega
 refine okP.loop (fun w => 0 ≤ w.toInt ∧ w.toInt ≤ 32) (fun w => (32 - w.toInt).toNat) ⟨by show (0 : Int) ≤ 0; decide, by show (0 : Int) ≤ 32; decide⟩ (by show (32 - (0 : Int)).toNat < 4000; decide) ?_
 intro w ⟨a1, a2⟩
 unfold B15_17 F10 J15_58
 rw [h8]
 have e32 : (32 : Int32).toInt = 32 := rfl
 have fin : w < 32 → Sum.elim (fun a => okP (some a) fun _ => True) (fun v' => (0 ≤ v'.toInt ∧ v'.toInt ≤ 32) ∧ (32 - v'.toInt).toNat < (32 - w.toInt).toNat) (Sum.inr (w + 1) : Int32 ⊕ Int32) := by
  intro c
  rw [i_lt, e32] at c
  have e2 : (w + 1).toInt = w.toInt + 1 := inc1 (by omega)
  exact ⟨⟨by omega, by omega⟩, by omega⟩
 repeat' with_reducible (first | apply okP.bind | apply okP.some | (apply okP.ite <;> intro _) | refine okP.aget ?_ ?_ (fun v hv => ?_) | refine okP.aset ?_ ?_ ?_)
 all_goals first | exact fin (by assumption) | exact okP.some trivial | exact a1 | (simp only [i_lt, Int32.reduceToInt] at *; omega)
theorem install_ok {K n : Int32} {o : Ob} (h : Sh K n o) (hK0 : 0 ≤ K.toInt) (hK : K.toInt ≤ 32) {x : Int32} (hx : 0 ≤ x.toInt) (hx8 : x.toInt < 8) (Q : List Int32 → List Int32 → Prop) (hQ0 : Q (f_value o) (f_version o)) (hQ : ∀ va ve i y, va.length = 32 → ve.length = 32 → i < 32 → Q va ve → Q (va.set i y) (ve.set i (f_commitCount o + 1))) : okP (F16 o x) (fun r => r.1 = f_commitCount o + 1 ∧ ∃ va ve b, Q va ve ∧ va.length = 32 ∧ ve.length = 32 ∧ b.length = 256 ∧ r.2 = s_lastConflict (clr (s_version (s_value (s_commitCount o (f_commitCount o + 1)) va) ve) x.toInt.toNat b) (-1)) := by
 unfold F16
 obtain ⟨c, hc⟩ : ∃ c, c = f_commitCount o + 1 := ⟨_, rfl⟩
 rw [← hc] at hQ ⊢
 obtain ⟨p, hp⟩ : ∃ p, p = s_commitCount o c := ⟨_, rfl⟩
 rw [← hp]
 have g : Sh K n p := by rw [hp]; exact h
 have gv : f_value p = f_value o := by rw [hp]; rfl
 have gw : f_version p = f_version o := by rw [hp]; rfl
 obtain ⟨h1, h2, h3, h4, h5, h6, h7, h8, h9⟩ := h
 apply okP.bind
 refine okP.aget hx (by omega) (fun y hy => ?_)
 apply okP.bind
 refine okP.loop (fun w => 0 ≤ w.1.toInt ∧ w.1.toInt ≤ 32 ∧ ∃ va ve, Q va ve ∧ va.length = 32 ∧ ve.length = 32 ∧ w.2 = s_version (s_value p va) ve) (fun w => (32 - w.1.toInt).toNat) ⟨by show (0 : Int) ≤ 0; decide, by show (0 : Int) ≤ 32; decide, f_value o, f_version o, hQ0, h1, h2, by rw [← gv, ← gw]; rfl⟩ (by show (32 - (0 : Int)).toNat < 4000; decide) ?_
 intro w ⟨a1, a2, va, ve, a3, a4, a5, a6⟩
 unfold B16_25 F10 J16_79
 rw [a6]
 have g8 : f_keyCount (s_version (s_value p va) ve) = K := g.2.2.2.2.2.2.2.1
 have gb : (f_buffered (s_version (s_value p va) ve)).length = 256 := g.2.2.2.2.2.2.1
 rw [g8]
 have e32 : (32 : Int32).toInt = 32 := rfl
 have exi : okP (some (s_version (s_value p va) ve)) fun a => okP (J16_85 a x c) fun r => r.1 = c ∧ ∃ va ve b, Q va ve ∧ va.length = 32 ∧ ve.length = 32 ∧ b.length = 256 ∧ r.2 = s_lastConflict (clr (s_version (s_value p va) ve) x.toInt.toNat b) (-1) := by
  apply okP.some
  unfold J16_85 F17
  have g2 : Sh K n (s_version (s_value p va) ve) := Sh_ve (Sh_va g a4) a5
  apply okP.bind
  apply okP.bind
  refine okP.mono (clear_ok g2 hx hx8) ?_
  rintro _ ⟨b, hb, rfl⟩
  apply okP.some
  apply okP.some
  exact ⟨rfl, va, ve, b, a3, a4, a5, hb, rfl⟩
 obtain ⟨_, he, exi⟩ := exi
 cases he
 apply okP.ite
 ·intro c1
  apply okP.ite
  ·intro c2
   rw [i_lt, e32] at c2
   have e2 : (w.1 + 1).toInt = w.1.toInt + 1 := inc1 (by omega)
   have ej := bufi hx hx8 a1 c2
   apply okP.bind
   apply okP.some
   apply okP.ite
   ·intro _
    apply okP.some
    exact ⟨⟨by show 0 ≤ (w.1 + 1).toInt; omega, by show (w.1 + 1).toInt ≤ 32; omega, va, ve, a3, a4, a5, rfl⟩, by show (32 - (w.1 + 1).toInt).toNat < (32 - w.1.toInt).toNat; omega⟩
   ·intro _
    unfold F12
    apply okP.bind
    apply okP.some
    apply okP.bind
    refine okP.aget (by omega) (by omega) (fun v hv => ?_)
    apply okP.bind
    refine okP.aset a1 (by show _ < (va.length : Int); omega) ?_
    apply okP.bind
    refine okP.aset a1 (by show _ < (ve.length : Int); omega) ?_
    apply okP.some
    refine ⟨⟨by show 0 ≤ (w.1 + 1).toInt; omega, by show (w.1 + 1).toInt ≤ 32; omega, va.set w.1.toInt.toNat v, ve.set w.1.toInt.toNat c, hQ _ _ _ _ a4 a5 (by omega) a3, by rw [List.length_set]; exact a4, by rw [List.length_set]; exact a5, rfl⟩, by show (32 - (w.1 + 1).toInt).toNat < (32 - w.1.toInt).toNat; omega⟩
  ·intro c2
   exact okP.some exi
 ·intro c1
  exact okP.some exi
theorem commit_ok {K n : Int32} {o : Ob} (h : Sh K n o) (hn : n.toInt ≤ 8) (hK0 : 0 ≤ K.toInt) (hK : K.toInt ≤ 32) (x : Int32) (Q : List Int32 → List Int32 → Prop) (hQ0 : Q (f_value o) (f_version o)) (hQ : ∀ va ve i y, va.length = 32 → ve.length = 32 → i < 32 → Q va ve → Q (va.set i y) (ve.set i (f_commitCount o + 1))) : okP (F13 o x) (fun r => (F8 o x = some 0 ∧ r = (-1, o)) ∨ (0 ≤ x.toInt ∧ x.toInt < n.toInt ∧ (∃ w, w ≠ 0 ∧ F8 o x = some w) ∧ ((∃ va ve b, Q va ve ∧ va.length = 32 ∧ ve.length = 32 ∧ b.length = 256 ∧ r = (f_commitCount o + 1, s_lastConflict (clr (s_version (s_value (s_commitCount o (f_commitCount o + 1)) va) ve) x.toInt.toNat b) (-1))) ∨ ∃ b k, b.length = 256 ∧ r.2 = s_lastConflict (s_abortCount (clr o x.toInt.toNat b) (f_abortCount o + 1)) k))) := by
 unfold F13
 apply okP.bind
 obtain ⟨w, hw, q⟩ := vtx h hn x
 refine okP.of hw ?_
 rcases q with rfl | ⟨q0, q1, q2⟩
 ·rw [if_pos rfl]; exact okP.some (Or.inl ⟨hw, rfl⟩)
 rw [if_neg q0]
 have q8 : x.toInt < 8 := by omega
 have fail : ∀ k c : Int32, okP (F18 o x k c) (fun r => ∃ b k, b.length = 256 ∧ r.2 = s_lastConflict (s_abortCount (clr o x.toInt.toNat b) (f_abortCount o + 1)) k) := by
  intro k c
  unfold F18 F17
  apply okP.bind
  apply okP.bind
  refine okP.mono (clear_ok h q1 q8) ?_
  rintro _ ⟨b, hb, rfl⟩
  apply okP.some
  apply okP.some
  exact ⟨b, k, hb, rfl⟩
 apply okP.bind
 refine okP.mono (stale_ok h q1 q8) (fun r1 _ => ?_)
 apply okP.ite <;> intro _
 ·apply okP.bind
  refine okP.mono (least_ok h hK0 hK q1 q8) (fun r2 _ => ?_)
  apply okP.ite <;> intro _
  ·apply okP.bind
   refine okP.mono (install_ok h hK0 hK q1 q8 Q hQ0 hQ) ?_
   rintro r ⟨e, va, ve, b, e1, e2, e3, e4, e5⟩
   apply okP.some
   exact Or.inr ⟨q1, q2, ⟨w, q0, hw⟩, Or.inl ⟨va, ve, b, e1, e2, e3, e4, by rw [e, e5]⟩⟩
  ·apply okP.bind
   refine okP.mono (fail _ _) (fun r hr => okP.some (Or.inr ⟨q1, q2, ⟨w, q0, hw⟩, Or.inr hr⟩))
 ·apply okP.bind
  refine okP.mono (fail _ _) (fun r hr => okP.some (Or.inr ⟨q1, q2, ⟨w, q0, hw⟩, Or.inr hr⟩))
theorem getValue_ok {K n : Int32} {o : Ob} (h : Sh K n o) (hK : K.toInt ≤ 32) (x : Int32) : okP (F23 o x) (fun _ => True) := by
 unfold F23
 apply okP.bind
 refine okP.mono (vkey h hK x) ?_
 rintro r (⟨rfl, _⟩ | ⟨q3, q4, q5⟩)
 ·rw [if_pos rfl]; exact okP.some trivial
 rw [if_neg q3]
 have := h.1
 repeat' with_reducible (first | apply okP.bind | apply okP.some | (apply okP.ite <;> intro _) | refine okP.aget ?_ ?_ (fun v hv => ?_) | refine okP.aset ?_ ?_ ?_)
 ·exact q4
 ·omega
 ·trivial
theorem getVersion_ok {K n : Int32} {o : Ob} (h : Sh K n o) (hK : K.toInt ≤ 32) (x : Int32) : okP (F24 o x) (fun _ => True) := by
 unfold F24
 apply okP.bind
 refine okP.mono (vkey h hK x) ?_
 rintro r (⟨rfl, _⟩ | ⟨q3, q4, q5⟩)
 ·rw [if_pos rfl]; exact okP.some trivial
 rw [if_neg q3]
 have := h.2.1
 repeat' with_reducible (first | apply okP.bind | apply okP.some | (apply okP.ite <;> intro _) | refine okP.aget ?_ ?_ (fun v hv => ?_) | refine okP.aset ?_ ?_ ?_)
 ·exact q4
 ·omega
 ·trivial
theorem vtx1 {K n : Int32} {o : Ob} (h : Sh K n o) (hn : n.toInt ≤ 8) (x : Int32) : F8 o x = some 0 ∨ F8 o x = some 1 := by
 obtain ⟨h1, h2, h3, h4, h5, h6, h7, h8, h9⟩ := h
 have : okP (F8 o x) (fun r => r = 0 ∨ r = 1) := by
  unfold F8
  rw [h9]
  repeat' with_reducible (first | apply okP.bind | apply okP.some | (apply okP.ite <;> intro _) | refine okP.aget ?_ ?_ (fun v hv => ?_) | refine okP.aset ?_ ?_ ?_)
  ·exact Or.inl rfl
  ·(simp only [i_lt, Int32.reduceToInt] at *; omega)
  ·(simp only [i_lt, Int32.reduceToInt] at *; omega)
  ·exact and1 v
  ·exact Or.inl rfl
  ·exact Or.inl rfl
 obtain ⟨r, e, rfl | rfl⟩ := this
 ·exact Or.inl e
 ·exact Or.inr e
theorem read_ref {K n : Int32} {o : Ob} (h : Sh K n o) (hn : n.toInt ≤ 8) (hK : K.toInt ≤ 32) {x y : Int32} (hr : F8 o x = some 0 ∨ ¬ (0 ≤ y.toInt ∧ y.toInt < K.toInt)) : F7 o x y = some (0, o) := by
 unfold F7
 rcases vtx1 h hn x with e | e
 ·rw [e]; rfl
 ·rcases hr with q | q
  ·rw [q] at e; cases e
  ·obtain ⟨r, e2, ⟨rfl, _⟩ | ⟨_, q2⟩⟩ := vkey h hK y
   ·rw [e, e2]; rfl
   ·exact absurd q2 q
theorem write_ref {K n : Int32} {o : Ob} (h : Sh K n o) (hn : n.toInt ≤ 8) (hK : K.toInt ≤ 32) {x y z : Int32} (hr : F8 o x = some 0 ∨ ¬ (0 ≤ y.toInt ∧ y.toInt < K.toInt)) : ∃ r, F11 o x y z = some (r, o) := by
 unfold F11
 rcases vtx1 h hn x with e | e
 ·rw [e]; exact ⟨_, rfl⟩
 ·rcases hr with q | q
  ·rw [q] at e; cases e
  ·obtain ⟨r, e2, ⟨rfl, _⟩ | ⟨_, q2⟩⟩ := vkey h hK y
   ·rw [e, e2]; exact ⟨_, rfl⟩
   ·exact absurd q2 q

def hb (w : Int32) (k : Nat) : Prop := ¬ (w &&& ((1 : Int32) <<< (Int32.ofNat k &&& 31))) = 0
theorem ofn {x : Int32} (h : 0 ≤ x.toInt) : Int32.ofNat x.toInt.toNat = x := by
 have e : Int32.ofNat x.toInt.toNat = Int32.ofInt (x.toInt.toNat : Int) := rfl
 rw [e, Int.toNat_of_nonneg h, Int32.ofInt_toInt]
theorem install_ex {K n : Int32} {o : Ob} (h : Sh K n o) (hK0 : 0 ≤ K.toInt) (hK : K.toInt ≤ 32) {x w : Int32} (hx : 0 ≤ x.toInt) (hx8 : x.toInt < 8) (hw : (f_writeSet o)[x.toInt.toNat]? = some w) : okP (F16 o x) (fun r => ∃ va ve b, va.length = 32 ∧ ve.length = 32 ∧ b.length = 256 ∧ r = (f_commitCount o + 1, s_lastConflict (clr (s_version (s_value (s_commitCount o (f_commitCount o + 1)) va) ve) x.toInt.toNat b) (-1)) ∧ ∀ k, k < 32 → (k < K.toInt.toNat → hb w k → va[k]? = (f_buffered o)[x.toInt.toNat * 32 + k]? ∧ ve[k]? = some (f_commitCount o + 1)) ∧ (¬ (k < K.toInt.toNat ∧ hb w k) → va[k]? = (f_value o)[k]? ∧ ve[k]? = (f_version o)[k]?)) := by
 unfold F16
 obtain ⟨c, hc⟩ : ∃ c, c = f_commitCount o + 1 := ⟨_, rfl⟩
 rw [← hc]
 obtain ⟨p, hp⟩ : ∃ p, p = s_commitCount o c := ⟨_, rfl⟩
 rw [← hp]
 have g : Sh K n p := by rw [hp]; exact h
 have gv : f_value p = f_value o := by rw [hp]; rfl
 have gw : f_version p = f_version o := by rw [hp]; rfl
 have gbf : f_buffered p = f_buffered o := by rw [hp]; rfl
 obtain ⟨h1, h2, h3, h4, h5, h6, h7, h8, h9⟩ := h
 apply okP.bind
 refine okP.aget hx (by omega) (fun y hy => ?_)
 have ey : y = w := by rw [hw] at hy; exact (Option.some.inj hy).symm
 subst ey
 apply okP.bind
 have e32 : (32 : Int32).toInt = 32 := rfl
 have lp : okP (loopN (B16_25 x c y) qN (0, p)) (fun q => ∃ va ve, va.length = 32 ∧ ve.length = 32 ∧ q = s_version (s_value p va) ve ∧ ∀ k, k < 32 → (k < K.toInt.toNat → hb y k → va[k]? = (f_buffered o)[x.toInt.toNat * 32 + k]? ∧ ve[k]? = some c) ∧ (¬ (k < K.toInt.toNat ∧ hb y k) → va[k]? = (f_value o)[k]? ∧ ve[k]? = (f_version o)[k]?)) := by
  refine okP.loop (fun w => 0 ≤ w.1.toInt ∧ w.1.toInt ≤ 32 ∧ ∃ va ve, va.length = 32 ∧ ve.length = 32 ∧ w.2 = s_version (s_value p va) ve ∧ ∀ k, k < 32 → (k < w.1.toInt.toNat → k < K.toInt.toNat → hb y k → va[k]? = (f_buffered o)[x.toInt.toNat * 32 + k]? ∧ ve[k]? = some c) ∧ (¬ (k < w.1.toInt.toNat ∧ k < K.toInt.toNat ∧ hb y k) → va[k]? = (f_value o)[k]? ∧ ve[k]? = (f_version o)[k]?)) (fun w => (32 - w.1.toInt).toNat) ⟨by show (0 : Int) ≤ 0; decide, by show (0 : Int) ≤ 32; decide, f_value o, f_version o, h1, h2, by rw [← gv, ← gw]; rfl, fun k _ => ⟨fun q => absurd q (Nat.not_lt_zero _), fun _ => ⟨rfl, rfl⟩⟩⟩ (by show (32 - (0 : Int)).toNat < 4000; decide) ?_
  rintro ⟨w, q⟩ ⟨a1, a2, va, ve, a4, a5, a6, a7⟩
  simp only at a1 a2 a6 a7
  subst a6
  unfold B16_25 F10 J16_79
  have g8 : f_keyCount (s_version (s_value p va) ve) = K := g.2.2.2.2.2.2.2.1
  have gb : f_buffered (s_version (s_value p va) ve) = f_buffered o := gbf
  simp only
  rw [g8]
  have done : K.toInt ≤ w.toInt → ∃ va' ve', va'.length = 32 ∧ ve'.length = 32 ∧ s_version (s_value p va) ve = s_version (s_value p va') ve' ∧ ∀ k, k < 32 → (k < K.toInt.toNat → hb y k → va'[k]? = (f_buffered o)[x.toInt.toNat * 32 + k]? ∧ ve'[k]? = some c) ∧ (¬ (k < K.toInt.toNat ∧ hb y k) → va'[k]? = (f_value o)[k]? ∧ ve'[k]? = (f_version o)[k]?) := by
   intro kw
   refine ⟨va, ve, a4, a5, rfl, fun k hk => ⟨fun q1 q2 => (a7 k hk).1 (by omega) q1 q2, fun q => (a7 k hk).2 (fun z => q z.2)⟩⟩
  apply okP.ite
  ·intro c1
   rw [i_lt] at c1
   apply okP.ite
   ·intro c2
    rw [i_lt, e32] at c2
    have e2 : (w + 1).toInt = w.toInt + 1 := inc1 (by omega)
    have en : (w + 1).toInt.toNat = w.toInt.toNat + 1 := by omega
    have ej := bufi hx hx8 a1 c2
    have hbw : hb y w.toInt.toNat ↔ ¬ (y &&& ((1 : Int32) <<< (w &&& 31))) = 0 := by unfold hb; rw [ofn a1]
    apply okP.bind
    apply okP.some
    apply okP.ite
    ·intro z
     apply okP.some
     refine ⟨⟨by simp only; omega, by simp only; omega, va, ve, a4, a5, rfl, fun k hk => ⟨fun q1 q2 q3 => ?_, fun q => (a7 k hk).2 (fun z' => q ⟨by simp only; omega, z'.2⟩)⟩⟩, by simp only; omega⟩
     simp only at q1
     refine (a7 k hk).1 ?_ q2 q3
     by_cases e : k = w.toInt.toNat
     ·rw [e] at q3; exact absurd z (hbw.mp q3)
     ·omega
    ·intro z
     unfold F12
     apply okP.bind
     apply okP.some
     rw [gb]
     apply okP.bind
     refine okP.aget (by omega) (by omega) (fun v hv => ?_)
     have ev : (x * 32 + w).toInt.toNat = x.toInt.toNat * 32 + w.toInt.toNat := by omega
     rw [ev] at hv
     apply okP.bind
     refine okP.aset a1 (by show _ < (va.length : Int); omega) ?_
     apply okP.bind
     refine okP.aset a1 (by show _ < (ve.length : Int); omega) ?_
     apply okP.some
     refine ⟨⟨by simp only; omega, by simp only; omega, va.set w.toInt.toNat v, ve.set w.toInt.toNat c, by rw [List.length_set]; exact a4, by rw [List.length_set]; exact a5, rfl, fun k hk => ?_⟩, by simp only; omega⟩
     simp only [List.getElem?_set]
     by_cases e : w.toInt.toNat = k
     ·rw [if_pos e, if_pos e, if_pos (by omega), if_pos (by omega)]
      refine ⟨fun _ _ _ => ⟨by rw [← e]; exact hv.symm, rfl⟩, fun q => absurd ⟨by omega, by omega, ?_⟩ q⟩
      rw [← e]; exact hbw.mpr z
     ·rw [if_neg e, if_neg e]
      exact ⟨fun q1 q2 q3 => (a7 k hk).1 (by omega) q2 q3, fun q => (a7 k hk).2 (fun z' => q ⟨by omega, z'.2⟩)⟩
   ·intro c2
    rw [i_lt, e32] at c2
    exact okP.some (done (by omega))
  ·intro c1
   rw [i_lt] at c1
   exact okP.some (done (by omega))
 refine okP.mono lp ?_
 rintro _ ⟨va, ve, a4, a5, rfl, a7⟩
 unfold J16_85 F17
 have g2 : Sh K n (s_version (s_value p va) ve) := Sh_ve (Sh_va g a4) a5
 apply okP.bind
 apply okP.bind
 refine okP.mono (clear_ok g2 hx hx8) ?_
 rintro _ ⟨b, hb', rfl⟩
 apply okP.some
 apply okP.some
 exact ⟨va, ve, b, a4, a5, hb', rfl, a7⟩
theorem least_ex {K n : Int32} {o : Ob} (h : Sh K n o) (hK0 : 0 ≤ K.toInt) (hK : K.toInt ≤ 32) {x rs st : Int32} (hx : 0 ≤ x.toInt) (hx8 : x.toInt < 8) (hr : (f_readSet o)[x.toInt.toNat]? = some rs) (hs : (f_start o)[x.toInt.toNat]? = some st) : okP (F15 o x) (fun r => (r = -1 ∧ ∀ k, k < K.toInt.toNat → hb rs k → ∀ v, (f_version o)[k]? = some v → v.toInt ≤ st.toInt) ∨ (0 ≤ r.toInt ∧ r.toInt < K.toInt ∧ hb rs r.toInt.toNat ∧ (∃ v, (f_version o)[r.toInt.toNat]? = some v ∧ st.toInt < v.toInt) ∧ ∀ k, k < r.toInt.toNat → hb rs k → ∀ v, (f_version o)[k]? = some v → v.toInt ≤ st.toInt)) := by
 obtain ⟨h1, h2, h3, h4, h5, h6, h7, h8, h9⟩ := h
 unfold F15
 apply okP.bind
 refine okP.aget hx (by omega) (fun y hy => ?_)
 have ey : y = rs := by rw [hr] at hy; exact (Option.some.inj hy).symm
 subst ey
 apply okP.bind
 refine okP.aget hx (by omega) (fun z hz => ?_)
 have ez : z = st := by rw [hs] at hz; exact (Option.some.inj hz).symm
 subst ez
 apply okP.bind
 have e32 : (32 : Int32).toInt = 32 := rfl
 refine okP.loop (fun w => 0 ≤ w.toInt ∧ w.toInt ≤ K.toInt ∧ ∀ k, k < w.toInt.toNat → hb y k → ∀ v, (f_version o)[k]? = some v → v.toInt ≤ z.toInt) (fun w => (32 - w.toInt).toNat) ⟨by show (0 : Int) ≤ 0; decide, hK0, fun k hk => absurd hk (Nat.not_lt_zero _)⟩ (by show (32 - (0 : Int)).toNat < 4000; decide) ?_
 intro w ⟨a1, a2, a3⟩
 unfold B15_17 F10 J15_58
 rw [h8]
 apply okP.ite
 ·intro c1
  rw [i_lt] at c1
  rw [if_pos (by rw [i_lt, e32]; omega)]
  simp only [Option.bind_some]
  have e2 : (w + 1).toInt = w.toInt + 1 := inc1 (by omega)
  have hbw : hb y w.toInt.toNat ↔ ¬ (y &&& ((1 : Int32) <<< (w &&& 31))) = 0 := by unfold hb; rw [ofn a1]
  have nx : (hb y w.toInt.toNat → ∀ v, (f_version o)[w.toInt.toNat]? = some v → v.toInt ≤ z.toInt) → Sum.elim (fun a => okP (some a) fun r => (r = -1 ∧ ∀ k, k < K.toInt.toNat → hb y k → ∀ v, (f_version o)[k]? = some v → v.toInt ≤ z.toInt) ∨ (0 ≤ r.toInt ∧ r.toInt < K.toInt ∧ hb y r.toInt.toNat ∧ (∃ v, (f_version o)[r.toInt.toNat]? = some v ∧ z.toInt < v.toInt) ∧ ∀ k, k < r.toInt.toNat → hb y k → ∀ v, (f_version o)[k]? = some v → v.toInt ≤ z.toInt)) (fun v' => (0 ≤ v'.toInt ∧ v'.toInt ≤ K.toInt ∧ ∀ k, k < v'.toInt.toNat → hb y k → ∀ v, (f_version o)[k]? = some v → v.toInt ≤ z.toInt) ∧ (32 - v'.toInt).toNat < (32 - w.toInt).toNat) (Sum.inr (w + 1) : Int32 ⊕ Int32) := by
   intro q
   refine ⟨⟨by omega, by omega, fun k hk => ?_⟩, by omega⟩
   by_cases e : k = w.toInt.toNat
   ·rw [e]; exact q
   ·exact a3 k (by omega)
  apply okP.ite
  ·intro z0
   apply okP.some
   exact nx (fun q => absurd z0 (hbw.mp q))
  ·intro z0
   apply okP.bind
   refine okP.aget a1 (by omega) (fun v hv => ?_)
   apply okP.ite
   ·intro lt
    rw [i_lt] at lt
    apply okP.some
    exact okP.some (Or.inr ⟨a1, c1, hbw.mpr z0, ⟨v, hv, lt⟩, a3⟩)
   ·intro lt
    rw [i_lt] at lt
    apply okP.some
    refine nx (fun _ v' hv' => ?_)
    rw [hv] at hv'
    cases hv'
    omega
 ·intro c1
  rw [i_lt] at c1
  apply okP.some
  exact okP.some (Or.inl ⟨rfl, fun k hk => a3 k (by omega)⟩)

theorem g0 {l : List Int32} {x v : Int32} (h0 : 0 ≤ x.toInt) (h : l[x.toInt.toNat]? = some v) : aget l x = some v := by
 unfold aget
 rw [if_neg (by rw [i_lt]; show ¬ x.toInt < 0; omega)]
 exact h
def bt (a : Int32) : Int32 := (1 : Int32) <<< (a &&& 31)
theorem vt2 {o : Ob} (S : Sh 8 2 o) {x a : Int32} (x0 : 0 ≤ x.toInt) (x1 : x.toInt < 2) (h : (f_active o)[x.toInt.toNat]? = some a) : F8 o x = some (a &&& 1) := by
 unfold F8
 rw [S.2.2.2.2.2.2.2.2, if_neg (by rw [i_lt]; show ¬ x.toInt < 0; omega), if_pos (by rw [i_lt]; exact x1), if_pos (by rw [i_lt]; show x.toInt < 8; omega), g0 x0 h]; rfl
theorem vk2 {o : Ob} (S : Sh 8 2 o) {y : Int32} (y0 : 0 ≤ y.toInt) (y1 : y.toInt < 8) : F9 o y = some 1 := by
 unfold F9
 rw [S.2.2.2.2.2.2.2.1, if_neg (by rw [i_lt]; show ¬ y.toInt < 0; omega), if_pos (by rw [i_lt]; exact y1), if_pos (by rw [i_lt]; show y.toInt < 32; omega)]
theorem rd2 {o : Ob} (S : Sh 8 2 o) {x y r v : Int32} (x0 : 0 ≤ x.toInt) (x1 : x.toInt < 2) (y0 : 0 ≤ y.toInt) (y1 : y.toInt < 8) (ha : (f_active o)[x.toInt.toNat]? = some 1) (hw : (f_writeSet o)[x.toInt.toNat]? = some 0) (hr : (f_readSet o)[x.toInt.toNat]? = some r) (hv : (f_value o)[y.toInt.toNat]? = some v) : F7 o x y = some (v, s_readSet o ((f_readSet o).set x.toInt.toNat (r ||| bt y))) := by
 unfold F7 F10
 rw [vt2 S x0 x1 ha, vk2 S y0 y1, g0 x0 hw, g0 x0 hr, g0 y0 hv]
 simp only [Option.bind_some]
 rw [if_neg (by decide), if_neg (by decide), if_pos (by rw [Int32.zero_and]), aset_at (n := x.toInt.toNat) (by omega) (by rw [S.2.2.2.2.1]; omega)]
 rfl
theorem wr2 {o : Ob} (S : Sh 8 2 o) {x y w z : Int32} (x0 : 0 ≤ x.toInt) (x1 : x.toInt < 2) (y0 : 0 ≤ y.toInt) (y1 : y.toInt < 8) (ha : (f_active o)[x.toInt.toNat]? = some 1) (hw : (f_writeSet o)[x.toInt.toNat]? = some w) : F11 o x y z = some (0, s_buffered (s_writeSet o ((f_writeSet o).set x.toInt.toNat (w ||| bt y))) ((f_buffered o).set (x.toInt.toNat * 32 + y.toInt.toNat) z)) := by
 have eb := bufi x0 (by omega) y0 (by omega)
 unfold F11 F10 F12
 rw [vt2 S x0 x1 ha, vk2 S y0 y1, g0 x0 hw]
 simp only [Option.bind_some]
 rw [if_neg (by decide), if_neg (by decide), aset_at (n := x.toInt.toNat) (by omega) (by rw [S.2.2.2.2.2.1]; omega)]
 simp only [Option.bind_some]
 rw [aset_at (n := x.toInt.toNat * 32 + y.toInt.toNat) (by omega) (by rw [S.2.2.2.2.2.2.1]; omega)]
 rfl
theorem op2 {o : Ob} (S : Sh 8 2 o) {x : Int32} (x0 : 0 ≤ x.toInt) (x1 : x.toInt < 2) (hf : F4 o = some x) : okP (F3 o) (fun r => r.1 = x ∧ ∃ b : List Int32, b.length = 256 ∧ r.2 = opn o x.toInt.toNat b) := by
 unfold F3
 rw [hf]
 simp only [Option.bind_some]
 rw [if_neg (by rw [i_lt]; show ¬ x.toInt < 0; omega)]
 apply okP.bind
 unfold F5
 apply okP.bind
 refine okP.mono (clear_ok S x0 (by omega)) ?_
 rintro _ ⟨b, hb, rfl⟩
 have g := Sh_clr S x.toInt.toNat hb
 apply okP.bind
 refine okP.aset x0 (by rw [g.2.2.1]; omega) ?_
 apply okP.bind
 refine okP.aset x0 (by rw [g.2.2.2.1]; omega) ?_
 apply okP.some
 apply okP.some
 exact ⟨rfl, b, hb, rfl⟩
theorem two_bits {a b : Int32} {k : Nat} (a0 : 0 ≤ a.toInt) (a1 : a.toInt < 8) (b0 : 0 ≤ b.toInt) (b1 : b.toInt < 8) (hk : k < 8) : hb ((0 ||| bt a) ||| bt b) k ↔ (k = a.toInt.toNat ∨ k = b.toInt.toNat) := by
 have : ∀ i, i < 8 → ∀ j, j < 8 → ∀ k, k < 8 → ((¬ (((0 ||| ((1 : Int32) <<< (Int32.ofInt (i : Nat) &&& 31))) ||| ((1 : Int32) <<< (Int32.ofInt (j : Nat) &&& 31))) &&& ((1 : Int32) <<< (Int32.ofNat k &&& 31))) = 0) ↔ (k = i ∨ k = j)) := by decide +kernel
 have t := this a.toInt.toNat (by omega) b.toInt.toNat (by omega) k hk
 rw [Int.toNat_of_nonneg a0, Int32.ofInt_toInt, Int.toNat_of_nonneg b0, Int32.ofInt_toInt] at t
 exact t
theorem one_bit {a : Int32} {k : Nat} (a0 : 0 ≤ a.toInt) (a1 : a.toInt < 8) (hk : k < 8) : hb (0 ||| bt a) k ↔ k = a.toInt.toNat := by
 have := two_bits (b := a) a0 a1 a0 a1 hk
 have e : (0 ||| bt a) ||| bt a = 0 ||| bt a := by rw [Int32.or_assoc, Int32.or_self]
 rw [e] at this
 rw [this]
 exact ⟨fun q => q.elim id id, Or.inl⟩
theorem bit_or {a b : Int32} {k : Nat} (a0 : 0 ≤ a.toInt) (a1 : a.toInt < 8) (b0 : 0 ≤ b.toInt) (b1 : b.toInt < 8) (hk : k < 8) : (0 ≤ (bt a ||| bt b).toInt ∧ (bt a ||| bt b).toInt ≤ 255) ∧ ((k = a.toInt.toNat ∨ k = b.toInt.toNat) → (bt a ||| bt b) &&& ((1 : Int32) <<< (Int32.ofNat k &&& 31)) = (1 : Int32) <<< (Int32.ofNat k &&& 31)) ∧ (¬ (k = a.toInt.toNat ∨ k = b.toInt.toNat) → (bt a ||| bt b) &&& ((1 : Int32) <<< (Int32.ofNat k &&& 31)) = 0) := by
 have h1 : ∀ i, i < 8 → ∀ j, j < 8 → (0 ≤ (((1 : Int32) <<< (Int32.ofInt (i : Nat) &&& 31)) ||| ((1 : Int32) <<< (Int32.ofInt (j : Nat) &&& 31))).toInt ∧ (((1 : Int32) <<< (Int32.ofInt (i : Nat) &&& 31)) ||| ((1 : Int32) <<< (Int32.ofInt (j : Nat) &&& 31))).toInt ≤ 255) := by decide +kernel
 have h2 : ∀ i, i < 8 → ∀ k, k < 8 → ∀ j, j < 8 → (k = i ∨ k = j → (((1 : Int32) <<< (Int32.ofInt (i : Nat) &&& 31)) ||| ((1 : Int32) <<< (Int32.ofInt (j : Nat) &&& 31))) &&& ((1 : Int32) <<< (Int32.ofNat k &&& 31)) = ((1 : Int32) <<< (Int32.ofNat k &&& 31))) := by decide +kernel
 have h3 : ∀ i, i < 8 → ∀ k, k < 8 → ∀ j, j < 8 → (¬ (k = i ∨ k = j) → (((1 : Int32) <<< (Int32.ofInt (i : Nat) &&& 31)) ||| ((1 : Int32) <<< (Int32.ofInt (j : Nat) &&& 31))) &&& ((1 : Int32) <<< (Int32.ofNat k &&& 31)) = 0) := by decide +kernel
 have t1 := h1 a.toInt.toNat (by omega) b.toInt.toNat (by omega)
 have t2 := h2 a.toInt.toNat (by omega) k hk b.toInt.toNat (by omega)
 have t3 := h3 a.toInt.toNat (by omega) k hk b.toInt.toNat (by omega)
 rw [Int.toNat_of_nonneg a0, Int32.ofInt_toInt, Int.toNat_of_nonneg b0, Int32.ofInt_toInt] at t1 t2 t3
 exact ⟨t1, t2, t3⟩
theorem shr_bit {x : Int32} (x0 : 0 ≤ x.toInt) (x1 : x.toInt ≤ 255) {k : Nat} (hk : k < 8) : ((x >>> (Int32.ofNat k &&& 31)) &&& 1 = 0) ↔ (x &&& ((1 : Int32) <<< (Int32.ofNat k &&& 31)) = 0) := by
 have : ∀ i, i < 256 → ∀ k, k < 8 → (((Int32.ofInt (i : Nat) >>> (Int32.ofNat k &&& 31)) &&& 1 = 0) ↔ (Int32.ofInt (i : Nat) &&& ((1 : Int32) <<< (Int32.ofNat k &&& 31)) = 0)) := by decide +kernel
 have t := this x.toInt.toNat (by omega) k hk
 rw [Int.toNat_of_nonneg x0, Int32.ofInt_toInt] at t
 exact t
theorem all_zero {x : Int32} (x0 : 0 ≤ x.toInt) (x1 : x.toInt ≤ 255) : x = 0 ↔ ∀ k, k < 8 → x &&& ((1 : Int32) <<< (Int32.ofNat k &&& 31)) = 0 := by
 have : ∀ i, i < 256 → (Int32.ofInt (i : Nat) = 0 ↔ ∀ k, k < 8 → Int32.ofInt (i : Nat) &&& ((1 : Int32) <<< (Int32.ofNat k &&& 31)) = 0) := by decide +kernel
 have t := this x.toInt.toNat (by omega)
 rw [Int.toNat_of_nonneg x0, Int32.ofInt_toInt] at t
 exact t
theorem common {a b c d : Int32} (a0 : 0 ≤ a.toInt) (a1 : a.toInt < 8) (b0 : 0 ≤ b.toInt) (b1 : b.toInt < 8) (c0 : 0 ≤ c.toInt) (c1 : c.toInt < 8) (d0 : 0 ≤ d.toInt) (d1 : d.toInt < 8) : (((bt a ||| bt b) &&& (bt c ||| bt d)) = 0 ↔ ∀ k, k < 8 → ¬ ((k = a.toInt.toNat ∨ k = b.toInt.toNat) ∧ (k = c.toInt.toNat ∨ k = d.toInt.toNat))) ∧ ∀ k, k < 8 → ((((bt a ||| bt b) &&& (bt c ||| bt d)) >>> (Int32.ofNat k &&& 31)) &&& 1 = 0 ↔ ¬ ((k = a.toInt.toNat ∨ k = b.toInt.toNat) ∧ (k = c.toInt.toNat ∨ k = d.toInt.toNat))) := by
 have X := bit_or (k := 0) a0 a1 b0 b1 (by decide)
 have Y := bit_or (k := 0) c0 c1 d0 d1 (by decide)
 have R := and_rng (x := bt a ||| bt b) (m := bt c ||| bt d) Y.1.1
 have bits : ∀ k, k < 8 → (((bt a ||| bt b) &&& (bt c ||| bt d)) &&& ((1 : Int32) <<< (Int32.ofNat k &&& 31)) = 0 ↔ ¬ ((k = a.toInt.toNat ∨ k = b.toInt.toNat) ∧ (k = c.toInt.toNat ∨ k = d.toInt.toNat))) := by
  intro k hk
  have X := (bit_or a0 a1 b0 b1 hk).2
  have Y := (bit_or c0 c1 d0 d1 hk).2
  have nz : ∀ k, k < 8 → ¬ ((1 : Int32) <<< (Int32.ofNat k &&& 31)) = 0 := by decide
  rw [Int32.and_assoc]
  by_cases q : k = c.toInt.toNat ∨ k = d.toInt.toNat
  ·rw [Y.1 q]
   by_cases p : k = a.toInt.toNat ∨ k = b.toInt.toNat
   ·rw [X.1 p]
    exact ⟨fun z => absurd z (nz k hk), fun z => absurd ⟨p, q⟩ z⟩
   ·rw [X.2 p]
    exact ⟨fun _ z => p z.1, fun _ => rfl⟩
  ·rw [Y.2 q, Int32.and_zero]
   exact ⟨fun _ z => q z.2, fun _ => rfl⟩
 constructor
 ·rw [all_zero R.1 (by omega)]
  exact ⟨fun h k hk => (bits k hk).mp (h k hk), fun h k hk => (bits k hk).mpr (h k hk)⟩
 ·intro k hk
  rw [shr_bit R.1 (by omega) hk]
  exact bits k hk
theorem free0 {o : Ob} (S : Sh 8 2 o) (h : (f_active o)[0]? = some 0) : F4 o = some 0 := by
 unfold F4
 have : loopN (B4_2 o) qN 0 = some 0 := by
  show loopN (B4_2 o) (3999 + 1) 0 = some 0
  have hB : B4_2 o 0 = some (.inl 0) := by
   unfold B4_2
   rw [S.2.2.2.2.2.2.2.2, if_pos (by decide), if_pos (by decide), g0 (x := 0) (by decide) h]
   rfl
  simp only [loopN, hB]
 rw [this]; rfl
theorem free1 {o : Ob} (S : Sh 8 2 o) (h : (f_active o)[0]? = some 1) (h1 : (f_active o)[1]? = some 0) : F4 o = some 1 := by
 unfold F4
 have : loopN (B4_2 o) qN 0 = some 1 := by
  show loopN (B4_2 o) (3998 + 1 + 1) 0 = some 1
  have hB : B4_2 o 0 = some (.inr 1) := by
   unfold B4_2
   rw [S.2.2.2.2.2.2.2.2, if_pos (by decide), if_pos (by decide), g0 (x := 0) (by decide) h]
   rfl
  have hB1 : B4_2 o 1 = some (.inl 1) := by
   unfold B4_2
   rw [S.2.2.2.2.2.2.2.2, if_pos (by decide), if_pos (by decide), g0 (x := 1) (by decide) h1]
   rfl
  simp only [loopN, hB, hB1]
 rw [this]; rfl
theorem law_ok (x0 x1 x2 x3 x4 x5 : Int32) : ∃ τ, F0 x0 x1 x2 x3 x4 x5 = some (1, τ) ∧ τ.length - List.length ([] : QHeap) ≤ room_1.cells ∧ qhs τ - qhs [] ≤ room_1.slots := by
 have z0 : (0 : Int32).toInt = 0 := rfl
 have z1 : (1 : Int32).toInt = 1 := rfl
 have z2 : (2 : Int32).toInt = 2 := rfl
 have z7 : (7 : Int32).toInt = 7 := rfl
 have z8 : (8 : Int32).toInt = 8 := rfl
 have K0 : 0 ≤ (8 : Int32).toInt := by decide
 have K32 : (8 : Int32).toInt ≤ 32 := by decide
 have K8 : (8 : Int32).toInt.toNat = 8 := rfl
 have ra1 := and_rng (x := x0) (m := 7) (by decide)
 have ra2 := and_rng (x := x0 >>> ((3 : Int32) &&& 31)) (m := 7) (by decide)
 have rb1 := and_rng (x := x1) (m := 7) (by decide)
 have rb2 := and_rng (x := x1 >>> ((3 : Int32) &&& 31)) (m := 7) (by decide)
 have rc := and_rng (x := x2) (m := 7) (by decide)
 rw [z7] at ra1 ra2 rb1 rb2 rc
 unfold F0
 generalize x0 &&& 7 = a1 at *
 generalize (x0 >>> ((3 : Int32) &&& 31)) &&& 7 = a2 at *
 generalize x1 &&& 7 = b1 at *
 generalize (x1 >>> ((3 : Int32) &&& 31)) &&& 7 = b2 at *
 generalize x2 &&& 7 = c at *
 obtain ⟨cm1, cm2⟩ := common ra1.1 (by omega) ra2.1 (by omega) rb1.1 (by omega) rb2.1 (by omega)
 simp only [show ∀ a : Int32, (1 : Int32) <<< (a &&& 31) = bt a from fun _ => rfl]
 obtain ⟨I, hI⟩ : ∃ I, I = (bt a1 ||| bt a2) &&& (bt b1 ||| bt b2) := ⟨_, rfl⟩
 rw [← hI] at cm1 cm2 ⊢
 obtain ⟨o, ho, S, i1, i2, i3, i4, i5, i6, i8, i9⟩ : ∃ o, F1 8 2 2 = some o ∧ Sh 8 2 o ∧ f_value o = List.replicate 32 0 ∧ f_version o = List.replicate 32 0 ∧ f_active o = List.replicate 8 0 ∧ f_window o = 2 ∧ f_commitCount o = 0 ∧ f_abortCount o = 0 ∧ f_readSet o = List.replicate 8 0 ∧ f_writeSet o = List.replicate 8 0 := by
  refine ⟨_, rfl, ?_, rfl, rfl, rfl, rfl, rfl, rfl, rfl, rfl⟩
  refine ⟨?_, ?_, ?_, ?_, ?_, ?_, ?_, rfl, rfl⟩ <;> exact List.length_replicate
 obtain ⟨⟨r, p⟩, hp, q0, b, hb0, q1⟩ := op2 S (x := 0) (by decide) (by decide) (free0 S (by rw [i3]; rfl))
 simp only at q0 q1
 subst q0
 rw [show (0 : Int32).toInt.toNat = 0 from rfl] at q1
 have Sp : Sh 8 2 p := by rw [q1]; exact Sh_opn S 0 hb0
 have pa : f_active p = ((List.replicate 8 0).set 0 0).set 0 1 := by rw [q1, ← i3]; rfl
 have ps : f_start p = ((f_start o).set 0 0).set 0 0 := by
  have : f_start p = ((f_start o).set 0 0).set 0 (f_commitCount o) := by rw [q1]; rfl
  rw [this, i5]
 have pr : f_readSet p = (List.replicate 8 0).set 0 0 := by rw [q1, ← i8]; rfl
 have pw : f_writeSet p = (List.replicate 8 0).set 0 0 := by rw [q1, ← i9]; rfl
 have pv : f_value p = List.replicate 32 0 := by rw [q1]; exact i1
 have pe : f_version p = List.replicate 32 0 := by rw [q1]; exact i2
 have px : f_window p = 2 := by rw [q1]; exact i4
 have pc : f_commitCount p = 0 := by rw [q1]; exact i5
 have pb : f_abortCount p = 0 := by rw [q1]; exact i6
 have lst : (f_start o).length = 8 := S.2.2.2.1
 clear q1 i1 i2 i3 i4 i5 i6 i8 i9
 obtain ⟨⟨r, q⟩, hq, q0, b', hb1, q1⟩ := op2 Sp (x := 1) (by decide) (by decide) (free1 Sp (by rw [pa]; rfl) (by rw [pa]; rfl))
 simp only at q0 q1
 subst q0
 rw [show (1 : Int32).toInt.toNat = 1 from rfl] at q1
 have Sq : Sh 8 2 q := by rw [q1]; exact Sh_opn Sp 1 hb1
 have qa : f_active q = ((((List.replicate 8 0).set 0 0).set 0 1).set 1 0).set 1 1 := by rw [q1, ← pa]; rfl
 have qs : f_start q = ((((f_start o).set 0 0).set 0 0).set 1 0).set 1 0 := by
  have : f_start q = ((f_start p).set 1 0).set 1 (f_commitCount p) := by rw [q1]; rfl
  rw [this, pc, ps]
 have qr : f_readSet q = ((List.replicate 8 0).set 0 0).set 1 0 := by rw [q1, ← pr]; rfl
 have qw : f_writeSet q = ((List.replicate 8 0).set 0 0).set 1 0 := by rw [q1, ← pw]; rfl
 have qv : f_value q = List.replicate 32 0 := by rw [q1]; exact pv
 have qe : f_version q = List.replicate 32 0 := by rw [q1]; exact pe
 have qx : f_window q = 2 := by rw [q1]; exact px
 have qc : f_commitCount q = 0 := by rw [q1]; exact pc
 have qb : f_abortCount q = 0 := by rw [q1]; exact pb
 clear q1 pa ps pr pw pv pe px pc pb
 have qa0 : (f_active q)[0]? = some 1 := by rw [qa]; rfl
 have qa1 : (f_active q)[1]? = some 1 := by rw [qa]; rfl
 have qs0 : (f_start q)[0]? = some 0 := by
  rw [qs, List.getElem?_set_ne (by decide), List.getElem?_set_ne (by decide), List.getElem?_set_self (by simp only [List.length_set]; omega)]
 have qs1 : (f_start q)[1]? = some 0 := by rw [qs, List.getElem?_set_self (by simp only [List.length_set]; omega)]
 have qr0 : (f_readSet q)[0]? = some 0 := by rw [qr]; rfl
 have qr1 : (f_readSet q)[1]? = some 0 := by rw [qr]; rfl
 have qw0 : (f_writeSet q)[0]? = some 0 := by rw [qw]; rfl
 have qw1 : (f_writeSet q)[1]? = some 0 := by rw [qw]; rfl
 have rep : ∀ k, k < 32 → (List.replicate 32 (0 : Int32))[k]? = some 0 := fun k hk => by rw [List.getElem?_replicate, if_pos hk]
 clear qa qs qr qw
 have h1 := rd2 Sq (x := 0) (y := a1) (r := 0) (v := 0) (by decide) (by decide) ra1.1 (by omega) qa0 qw0 qr0 (by rw [qv]; exact rep _ (by omega))
 rw [show (0 : Int32).toInt.toNat = 0 from rfl] at h1
 obtain ⟨t, ht⟩ : ∃ t, t = s_readSet q ((f_readSet q).set 0 (0 ||| bt a1)) := ⟨_, rfl⟩
 rw [← ht] at h1
 have St : Sh 8 2 t := by rw [ht]; exact Sh_rd Sq (by rw [List.length_set]; exact Sq.2.2.2.2.1)
 have tr0 : (f_readSet t)[0]? = some (0 ||| bt a1) := by
  have : f_readSet t = (f_readSet q).set 0 (0 ||| bt a1) := by rw [ht]; rfl
  rw [this, List.getElem?_set_self (by rw [Sq.2.2.2.2.1]; decide)]
 have tr1 : (f_readSet t)[1]? = some 0 := by
  have : f_readSet t = (f_readSet q).set 0 (0 ||| bt a1) := by rw [ht]; rfl
  rw [this, List.getElem?_set_ne (by decide)]; exact qr1
 have ta : f_active t = f_active q := by rw [ht]; rfl
 have ts : f_start t = f_start q := by rw [ht]; rfl
 have tw : f_writeSet t = f_writeSet q := by rw [ht]; rfl
 have tv : f_value t = List.replicate 32 0 := by rw [ht]; exact qv
 have te : f_version t = List.replicate 32 0 := by rw [ht]; exact qe
 have tx : f_window t = 2 := by rw [ht]; exact qx
 have tc : f_commitCount t = 0 := by rw [ht]; exact qc
 have tb : f_abortCount t = 0 := by rw [ht]; exact qb
 clear ht qv qe qx qc qb
 have h2 := rd2 St (x := 0) (y := a2) (r := 0 ||| bt a1) (v := 0) (by decide) (by decide) ra2.1 (by omega) (by rw [ta]; exact qa0) (by rw [tw]; exact qw0) tr0 (by rw [tv]; exact rep _ (by omega))
 rw [show (0 : Int32).toInt.toNat = 0 from rfl] at h2
 obtain ⟨u, hu⟩ : ∃ u, u = s_readSet t ((f_readSet t).set 0 ((0 ||| bt a1) ||| bt a2)) := ⟨_, rfl⟩
 rw [← hu] at h2
 have Su : Sh 8 2 u := by rw [hu]; exact Sh_rd St (by rw [List.length_set]; exact St.2.2.2.2.1)
 have ur0 : (f_readSet u)[0]? = some ((0 ||| bt a1) ||| bt a2) := by
  have : f_readSet u = (f_readSet t).set 0 ((0 ||| bt a1) ||| bt a2) := by rw [hu]; rfl
  rw [this, List.getElem?_set_self (by rw [St.2.2.2.2.1]; decide)]
 have ur1 : (f_readSet u)[1]? = some 0 := by
  have : f_readSet u = (f_readSet t).set 0 ((0 ||| bt a1) ||| bt a2) := by rw [hu]; rfl
  rw [this, List.getElem?_set_ne (by decide)]; exact tr1
 have ua : f_active u = f_active q := by rw [hu]; exact ta
 have us : f_start u = f_start q := by rw [hu]; exact ts
 have uw : f_writeSet u = f_writeSet q := by rw [hu]; exact tw
 have uv : f_value u = List.replicate 32 0 := by rw [hu]; exact tv
 have ue : f_version u = List.replicate 32 0 := by rw [hu]; exact te
 have ux : f_window u = 2 := by rw [hu]; exact tx
 have uc : f_commitCount u = 0 := by rw [hu]; exact tc
 have ub : f_abortCount u = 0 := by rw [hu]; exact tb
 clear hu tr0 tr1 ta ts tw tv te tx tc tb
 have h3 := wr2 Su (x := 1) (y := b1) (w := 0) (z := x3) (by decide) (by decide) rb1.1 (by omega) (by rw [ua]; exact qa1) (by rw [uw]; exact qw1)
 rw [show (1 : Int32).toInt.toNat = 1 from rfl] at h3
 obtain ⟨v, hv⟩ : ∃ u', u' = s_buffered (s_writeSet u ((f_writeSet u).set 1 (0 ||| bt b1))) ((f_buffered u).set (1 * 32 + b1.toInt.toNat) x3) := ⟨_, rfl⟩
 rw [← hv] at h3
 have Sv : Sh 8 2 v := by rw [hv]; exact Sh_buf (Sh_wr Su (by rw [List.length_set]; exact Su.2.2.2.2.2.1)) (by rw [List.length_set]; exact Su.2.2.2.2.2.2.1)
 have vw : f_writeSet v = (f_writeSet u).set 1 (0 ||| bt b1) := by rw [hv]; rfl
 have vb : f_buffered v = (f_buffered u).set (1 * 32 + b1.toInt.toNat) x3 := by rw [hv]; rfl
 have va : f_active v = f_active q := by rw [hv]; exact ua
 have vs : f_start v = f_start q := by rw [hv]; exact us
 have vr : f_readSet v = f_readSet u := by rw [hv]; rfl
 have vv : f_value v = List.replicate 32 0 := by rw [hv]; exact uv
 have ve : f_version v = List.replicate 32 0 := by rw [hv]; exact ue
 have vx : f_window v = 2 := by rw [hv]; exact ux
 have vc : f_commitCount v = 0 := by rw [hv]; exact uc
 have vab : f_abortCount v = 0 := by rw [hv]; exact ub
 clear hv ua us uv ue ux uc ub
 have vw1 : (f_writeSet v)[1]? = some (0 ||| bt b1) := by rw [vw, List.getElem?_set_self (by rw [Su.2.2.2.2.2.1]; decide)]
 have h4 := wr2 Sv (x := 1) (y := b2) (w := 0 ||| bt b1) (z := x4) (by decide) (by decide) rb2.1 (by omega) (by rw [va]; exact qa1) vw1
 rw [show (1 : Int32).toInt.toNat = 1 from rfl] at h4
 obtain ⟨w, hw⟩ : ∃ u, u = s_buffered (s_writeSet v ((f_writeSet v).set 1 ((0 ||| bt b1) ||| bt b2))) ((f_buffered v).set (1 * 32 + b2.toInt.toNat) x4) := ⟨_, rfl⟩
 rw [← hw] at h4
 have Sw : Sh 8 2 w := by rw [hw]; exact Sh_buf (Sh_wr Sv (by rw [List.length_set]; exact Sv.2.2.2.2.2.1)) (by rw [List.length_set]; exact Sv.2.2.2.2.2.2.1)
 have ww : f_writeSet w = (f_writeSet v).set 1 ((0 ||| bt b1) ||| bt b2) := by rw [hw]; rfl
 have wb : f_buffered w = (f_buffered v).set (1 * 32 + b2.toInt.toNat) x4 := by rw [hw]; rfl
 have wa : f_active w = f_active q := by rw [hw]; exact va
 have ws : f_start w = f_start q := by rw [hw]; exact vs
 have wr : f_readSet w = f_readSet u := by rw [hw]; exact vr
 have wv : f_value w = List.replicate 32 0 := by rw [hw]; exact vv
 have we : f_version w = List.replicate 32 0 := by rw [hw]; exact ve
 have wx : f_window w = 2 := by rw [hw]; exact vx
 have wc : f_commitCount w = 0 := by rw [hw]; exact vc
 have wab : f_abortCount w = 0 := by rw [hw]; exact vab
 have ww1 : (f_writeSet w)[1]? = some ((0 ||| bt b1) ||| bt b2) := by rw [ww, List.getElem?_set_self (by rw [Sv.2.2.2.2.2.1]; decide)]
 have ww0 : (f_writeSet w)[0]? = some 0 := by
  rw [ww, List.getElem?_set_ne (by decide), vw, List.getElem?_set_ne (by decide), uw]; exact qw0
 have wbk : ∀ k, k < 8 → (k = b1.toInt.toNat ∨ k = b2.toInt.toNat) → (f_buffered w)[1 * 32 + k]? = some (if k = b2.toInt.toNat then x4 else x3) := by
  intro k hk hkb
  rw [wb]
  by_cases e : k = b2.toInt.toNat
  ·rw [if_pos e, e, List.getElem?_set_self (by rw [Sv.2.2.2.2.2.2.1]; omega)]
  ·rw [if_neg e, List.getElem?_set_ne (by omega), vb]
   have e1 : k = b1.toInt.toNat := by omega
   rw [e1, List.getElem?_set_self (by rw [Su.2.2.2.2.2.2.1]; omega)]
 clear hw va vs vr vv ve vx vc vab vw vb vw1 ww wb
 have nost : ∀ {t : Ob} {x c : Int32}, f_window t = 2 → f_commitCount t = c → 0 ≤ c.toInt → c.toInt ≤ 1 → 0 ≤ x.toInt → (f_start t)[x.toInt.toNat]? = some 0 → F14 t x = some 0 := by
  intro t x c h1 h2 c0 c1 x0 h3
  unfold F14
  rw [g0 x0 h3, h1, h2]
  simp only [Option.bind_some]
  rw [if_neg (by rw [i_lt, i_sub (by omega) (by omega), z0, z2]; omega)]
 obtain ⟨r1, hr1, cva, cve, cb, v1, v2, v3, v4, v5⟩ : okP (F13 w 1) (fun r => ∃ va ve b, va.length = 32 ∧ ve.length = 32 ∧ b.length = 256 ∧ r = (f_commitCount w + 1, s_lastConflict (clr (s_version (s_value (s_commitCount w (f_commitCount w + 1)) va) ve) (1 : Int32).toInt.toNat b) (-1)) ∧ ∀ k, k < 32 → (k < (8 : Int32).toInt.toNat → hb ((0 ||| bt b1) ||| bt b2) k → va[k]? = (f_buffered w)[(1 : Int32).toInt.toNat * 32 + k]? ∧ ve[k]? = some (f_commitCount w + 1)) ∧ (¬ (k < (8 : Int32).toInt.toNat ∧ hb ((0 ||| bt b1) ||| bt b2) k) → va[k]? = (f_value w)[k]? ∧ ve[k]? = (f_version w)[k]?)) := by
  unfold F13
  rw [vt2 Sw (x := 1) (by decide) (by decide) (by rw [wa]; exact qa1)]
  simp only [Option.bind_some]
  rw [if_neg (by decide), nost wx wc (by decide) (by decide) (x := 1) (by decide) (by rw [ws]; exact qs1)]
  simp only [Option.bind_some, if_true]
  apply okP.bind
  refine okP.mono (least_ex Sw K0 K32 (x := 1) (rs := 0) (st := 0) (by decide) (by decide) (by rw [wr]; exact ur1) (by rw [ws]; exact qs1)) ?_
  intro r hr
  have rm : r < 0 := by
   rcases hr with ⟨rfl, _⟩ | ⟨_, _, r2, _⟩
   ·decide
   ·exact absurd (Int32.zero_and ..) r2
  rw [if_pos rm]
  apply okP.bind
  exact okP.mono (install_ex Sw K0 K32 (x := 1) (by decide) (by decide) ww1) (fun r hr => okP.some hr)
 rw [wc] at v4 v5
 obtain ⟨m, hm⟩ : ∃ m, m = s_lastConflict (clr (s_version (s_value (s_commitCount w (0 + 1)) cva) cve) (1 : Int32).toInt.toNat cb) (-1) := ⟨_, rfl⟩
 rw [← hm] at v4
 have Sm : Sh 8 2 m := by rw [hm]; exact Sh_lc (Sh_clr (Sh_ve (Sh_va (Sh_cc Sw _) v1) v2) _ v3) _
 have mc : f_commitCount m = 1 := by rw [hm]; rfl
 have mab : f_abortCount m = 0 := by rw [hm]; exact wab
 have ma : f_active m = (f_active w).set 1 0 := by rw [hm]; rfl
 have ms : f_start m = (f_start w).set 1 0 := by rw [hm]; rfl
 have mr : f_readSet m = (f_readSet w).set 1 0 := by rw [hm]; rfl
 have mw : f_writeSet m = (f_writeSet w).set 1 0 := by rw [hm]; rfl
 have mv : f_value m = cva := by rw [hm]; rfl
 have me : f_version m = cve := by rw [hm]; rfl
 have mx : f_window m = 2 := by rw [hm]; exact wx
 have ma0 : (f_active m)[0]? = some 1 := by rw [ma, List.getElem?_set_ne (by decide), wa]; exact qa0
 have ma1 : (f_active m)[1]? = some 0 := by rw [ma, List.getElem?_set_self (by rw [Sw.2.2.1]; decide)]
 have ms0 : (f_start m)[0]? = some 0 := by rw [ms, List.getElem?_set_ne (by decide), ws]; exact qs0
 have mr0 : (f_readSet m)[0]? = some ((0 ||| bt a1) ||| bt a2) := by rw [mr, List.getElem?_set_ne (by decide), wr]; exact ur0
 have mw0 : (f_writeSet m)[0]? = some 0 := by rw [mw, List.getElem?_set_ne (by decide)]; exact ww0
 have store : ∀ k, k < 8 → (f_value m)[k]? = some (if k = b2.toInt.toNat then x4 else if k = b1.toInt.toNat then x3 else 0) ∧ (f_version m)[k]? = some (if k = b2.toInt.toNat then 1 else if k = b1.toInt.toNat then 1 else 0) := by
  intro k hk
  rw [mv, me]
  obtain ⟨q1, q2⟩ := v5 k (by omega)
  by_cases e : k = b1.toInt.toNat ∨ k = b2.toInt.toNat
  ·have t := q1 (by rw [K8]; exact hk) ((two_bits rb1.1 (by omega) rb2.1 (by omega) hk).mpr e)
   rw [t.1, t.2, show (1 : Int32).toInt.toNat = 1 from rfl, wbk k hk e]
   by_cases e2 : k = b2.toInt.toNat
   ·rw [if_pos e2, if_pos e2, if_pos e2]; exact ⟨rfl, rfl⟩
   ·have e1 : k = b1.toInt.toNat := by omega
    rw [if_neg e2, if_neg e2, if_neg e2, if_pos e1, if_pos e1]; exact ⟨rfl, rfl⟩
  ·have t := q2 (fun z => e ((two_bits rb1.1 (by omega) rb2.1 (by omega) hk).mp z.2))
   rw [t.1, t.2, wv, we, if_neg (fun z => e (Or.inr z)), if_neg (fun z => e (Or.inl z)), if_neg (fun z => e (Or.inr z)), if_neg (fun z => e (Or.inl z))]
   exact ⟨rep k (by omega), rep k (by omega)⟩
 clear hm v5 mv me wbk
 have h5 := wr2 Sm (x := 0) (y := c) (w := 0) (z := x5) (by decide) (by decide) rc.1 (by omega) ma0 mw0
 rw [show (0 : Int32).toInt.toNat = 0 from rfl] at h5
 obtain ⟨n, hn⟩ : ∃ u, u = s_buffered (s_writeSet m ((f_writeSet m).set 0 (0 ||| bt c))) ((f_buffered m).set (0 * 32 + c.toInt.toNat) x5) := ⟨_, rfl⟩
 rw [← hn] at h5
 have Sn : Sh 8 2 n := by rw [hn]; exact Sh_buf (Sh_wr Sm (by rw [List.length_set]; exact Sm.2.2.2.2.2.1)) (by rw [List.length_set]; exact Sm.2.2.2.2.2.2.1)
 have nw0 : (f_writeSet n)[0]? = some (0 ||| bt c) := by
  have : f_writeSet n = (f_writeSet m).set 0 (0 ||| bt c) := by rw [hn]; rfl
  rw [this, List.getElem?_set_self (by rw [Sm.2.2.2.2.2.1]; decide)]
 have nbc : (f_buffered n)[0 * 32 + c.toInt.toNat]? = some x5 := by
  have : f_buffered n = (f_buffered m).set (0 * 32 + c.toInt.toNat) x5 := by rw [hn]; rfl
  rw [this, List.getElem?_set_self (by rw [Sm.2.2.2.2.2.2.1]; omega)]
 have nc : f_commitCount n = 1 := by rw [hn]; exact mc
 have nab : f_abortCount n = 0 := by rw [hn]; exact mab
 have na : f_active n = f_active m := by rw [hn]; rfl
 have ns : f_start n = f_start m := by rw [hn]; rfl
 have nr : f_readSet n = f_readSet m := by rw [hn]; rfl
 have nv : f_value n = f_value m := by rw [hn]; rfl
 have ne : f_version n = f_version m := by rw [hn]; rfl
 have nx : f_window n = 2 := by rw [hn]; exact mx
 clear hn
 have leastL : ∀ (t : Ob) (e : Int32), (∀ k : Nat, k < 8 → (k : Int) < (if e.toInt < 0 then 8 else e.toInt) → ¬ ((k = a1.toInt.toNat ∨ k = a2.toInt.toNat) ∧ (k = b1.toInt.toNat ∨ k = b2.toInt.toNat))) → (e = -1 ∨ (0 ≤ e.toInt ∧ e.toInt < 8 ∧ ((e.toInt.toNat = a1.toInt.toNat ∨ e.toInt.toNat = a2.toInt.toNat) ∧ (e.toInt.toNat = b1.toInt.toNat ∨ e.toInt.toNat = b2.toInt.toNat)))) → ∀ (y : Int32), okP (loopN (B0_186 t x3 x4 x5 b1 b2 c y I) qN (-1, 7)) (fun l => l = e) := by
  intro t e he1 he2 y
  have zm : (-1 : Int32).toInt = -1 := rfl
  refine okP.loop (fun w => -1 ≤ w.2.toInt ∧ w.2.toInt ≤ 7 ∧ (w.1 = -1 ∨ (w.2.toInt < w.1.toInt ∧ w.1.toInt < 8)) ∧ (w.1 = -1 → ∀ k : Nat, w.2.toInt < k → k < 8 → ¬ ((k = a1.toInt.toNat ∨ k = a2.toInt.toNat) ∧ (k = b1.toInt.toNat ∨ k = b2.toInt.toNat))) ∧ (w.1 ≠ -1 → ((w.1.toInt.toNat = a1.toInt.toNat ∨ w.1.toInt.toNat = a2.toInt.toNat) ∧ (w.1.toInt.toNat = b1.toInt.toNat ∨ w.1.toInt.toNat = b2.toInt.toNat)) ∧ ∀ k : Nat, w.2.toInt < k → (k : Int) < w.1.toInt → ¬ ((k = a1.toInt.toNat ∨ k = a2.toInt.toNat) ∧ (k = b1.toInt.toNat ∨ k = b2.toInt.toNat)))) (fun w => (w.2.toInt + 1).toNat) ⟨by show (-1 : Int) ≤ 7; decide, by show (7 : Int) ≤ 7; decide, Or.inl rfl, fun _ k h1 h2 => absurd h1 (by show ¬ (7 : Int) < k; omega), fun q => absurd rfl q⟩ (by show ((7 : Int) + 1).toNat < 4000; decide) ?_
  rintro ⟨l, w⟩ ⟨a1', a2', a3', a4', a5'⟩
  simp only at a1' a2' a3' a4' a5'
  unfold B0_186
  simp only
  refine okP.ite (fun wn => ?_) (fun wn => ?_)
  ·rw [i_lt, z0] at wn
   apply okP.some
   show l = e
   have wm : w.toInt = -1 := by omega
   by_cases ln : l = -1
   ·rcases he2 with q | ⟨q0, q1, q2⟩
    ·rw [ln, q]
    ·exact absurd q2 (a4' ln e.toInt.toNat (by omega) (by omega))
   ·obtain ⟨p1, p2⟩ := a5' ln
    have lr : w.toInt < l.toInt ∧ l.toInt < 8 := a3'.resolve_left ln
    rcases he2 with q | ⟨q0, q1, q2⟩
    ·exact absurd p1 (he1 l.toInt.toNat (by omega) (by rw [q, zm, if_pos (by decide)]; omega))
    ·rw [i_eq]
     by_cases lt : l.toInt < e.toInt
     ·exact absurd p1 (he1 l.toInt.toNat (by omega) (by rw [if_neg (by omega)]; omega))
     ·by_cases gt : e.toInt < l.toInt
      ·exact absurd q2 (p2 e.toInt.toNat (by omega) (by omega))
      ·omega
  ·rw [i_lt, z0] at wn
   obtain ⟨w', hw'⟩ : ∃ u, u = w + -1 := ⟨_, rfl⟩
   rw [← hw']
   have we' : w'.toInt = w.toInt - 1 := by rw [hw', i_add (by rw [zm]; omega) (by rw [zm]; omega), zm]; omega
   have cw := cm2 w.toInt.toNat (by omega)
   rw [ofn (by omega)] at cw
   apply okP.some
   refine ⟨?_, by simp only; omega⟩
   simp only
   by_cases z : (I >>> (w &&& 31)) &&& 1 = 0
   ·rw [if_pos z]
    have nz := cw.mp z
    refine ⟨by omega, by omega, a3'.imp id (fun q => ⟨by omega, q.2⟩), fun q k k1 k2 => ?_, fun q => ⟨(a5' q).1, fun k k1 k2 => ?_⟩⟩
    ·by_cases e' : k = w.toInt.toNat
     ·rw [e']; exact nz
     ·exact a4' q k (by omega) k2
    ·by_cases e' : k = w.toInt.toNat
     ·rw [e']; exact nz
     ·exact (a5' q).2 k (by omega) k2
   ·rw [if_neg z]
    have yes := Classical.not_not.mp (fun q => z (cw.mpr q))
    refine ⟨by omega, by omega, Or.inr ⟨by omega, by omega⟩, fun q => ?_, fun _ => ⟨yes, fun k k1 k2 => by omega⟩⟩
    exfalso
    rw [q] at wn
    revert wn
    decide
 have fin : ∀ (t : Ob) (ok : Int32), Sh 8 2 t → (∀ k, k < 8 → (f_value t)[k]? = some (if ok = 0 then (if k = b2.toInt.toNat then x4 else if k = b1.toInt.toNat then x3 else 0) else (if k = c.toInt.toNat then x5 else if k = b2.toInt.toNat then x4 else if k = b1.toInt.toNat then x3 else 0)) ∧ (f_version t)[k]? = some (if ok = 0 then (if k = b2.toInt.toNat then 1 else if k = b1.toInt.toNat then 1 else 0) else (if k = c.toInt.toNat then 2 else if k = b2.toInt.toNat then 1 else if k = b1.toInt.toNat then 1 else 0))) → loopN (B0_327 t x3 x4 x5 b1 b2 c ok) qN 0 = some (1, H0 t) := by
  intro t ok St hs
  have : okP (loopN (B0_327 t x3 x4 x5 b1 b2 c ok) qN 0) (fun r => r = (1, H0 t)) := by
   refine okP.loop (fun w => 0 ≤ w.toInt ∧ w.toInt ≤ 8) (fun w => (8 - w.toInt).toNat) ⟨by decide, by decide⟩ (by show (8 - (0 : Int)).toNat < 4000; decide) ?_
   intro w ⟨w0, w1⟩
   unfold B0_327
   refine okP.ite (fun wl => ?_) (fun _ => okP.some rfl)
   rw [i_lt, z8] at wl
   have e2 : (w + 1).toInt = w.toInt + 1 := inc1 (by omega)
   obtain ⟨q1, q2⟩ := hs w.toInt.toNat (by omega)
   have eqv : ∀ y : Int32, 0 ≤ y.toInt → ((w.toInt.toNat = y.toInt.toNat) = (w = y)) := by
    intro y y0
    rw [i_eq]
    exact propext ⟨fun q => by omega, fun q => by rw [q]⟩
   simp only [eqv b1 rb1.1, eqv b2 rb2.1, eqv c rc.1] at q1 q2
   unfold F23 F24
   rw [vk2 St w0 wl]
   simp only [Option.bind_some, if_neg (show ¬ (1 : Int32) = 0 by decide), g0 w0 q1, g0 w0 q2, if_true]
   exact okP.some ⟨⟨by omega, by omega⟩, by omega⟩
  obtain ⟨_, e, rfl⟩ := this
  exact e
 have siz : ∀ q : Ob, Sh 8 2 q → qhs (H0 q) ≤ 400 := by
  rintro q ⟨y1, y2, y3, y4, y5, y6, y7, _, _⟩
  simp only [H0, qhs, qsz, y1, y2, y3, y4, y5, y6, y7, cN]
  omega
 have res : ∀ t : Ob, Sh 8 2 t → H0 t = H0 t ∧ (H0 t).length - List.length ([] : QHeap) ≤ room_1.cells ∧ qhs (H0 t) - qhs [] ≤ room_1.slots := by
  intro t St
  refine ⟨rfl, by show 8 - 0 ≤ _; decide, ?_⟩
  have := siz t St
  have e : room_1.slots = 832 := rfl
  show qhs (H0 t) - 0 ≤ room_1.slots
  rw [e]; omega
 obtain ⟨l, hl, hl2⟩ := least_ex Sn K0 K32 (x := 0) (by decide) (by decide) (by rw [show (0 : Int32).toInt.toNat = 0 from rfl, nr]; exact mr0) (by rw [show (0 : Int32).toInt.toNat = 0 from rfl, ns]; exact ms0)
 have hcom : F13 n 0 = (if l < 0 then (F16 n 0).bind fun r => some (r.1, r.2) else (F18 n 0 l (-3)).bind fun r => some (r.1, r.2)) := by
  unfold F13
  rw [vt2 Sn (x := 0) (by decide) (by decide) (by rw [na]; exact ma0)]
  simp only [Option.bind_some]
  rw [if_neg (by decide), nost nx nc (by decide) (by decide) (x := 0) (by decide) (by rw [ns]; exact ms0)]
  simp only [Option.bind_some, if_true]
  rw [hl]
  rfl
 have inb : ∀ k, k < 8 → (hb ((0 ||| bt a1) ||| bt a2) k ↔ (k = a1.toInt.toNat ∨ k = a2.toInt.toNat)) := fun k hk => two_bits ra1.1 (by omega) ra2.1 (by omega) hk
 have verk : ∀ k, k < 8 → ∀ v, (f_version n)[k]? = some v → ((k = b1.toInt.toNat ∨ k = b2.toInt.toNat) ↔ 0 < v.toInt) := by
  intro k hk v hv
  rw [ne, (store k hk).2] at hv
  cases hv
  by_cases e2 : k = b2.toInt.toNat
  ·rw [if_pos e2]; exact ⟨fun _ => by decide, fun _ => Or.inr e2⟩
  ·rw [if_neg e2]
   by_cases e1 : k = b1.toInt.toNat
   ·rw [if_pos e1]; exact ⟨fun _ => by decide, fun _ => Or.inl e1⟩
   ·rw [if_neg e1]; exact ⟨fun q => by omega, fun q => absurd q (by decide)⟩
 rw [ho]
 simp only [Option.bind_some, hp, if_true, hq, h1, h2, h3, h4, hr1, v4]
 rw [show (0 : Int32) + 1 = 1 from by decide]
 simp only [if_true, h5, Option.bind_some]
 rcases hl2 with ⟨lm, none'⟩ | ⟨l0, l1, l2, ⟨lv, lv1, lv2⟩, l3⟩
 ·-- no conflict
  have dis : ∀ k, k < 8 → ¬ ((k = a1.toInt.toNat ∨ k = a2.toInt.toNat) ∧ (k = b1.toInt.toNat ∨ k = b2.toInt.toNat)) := by
   intro k hk ⟨q1, q2⟩
   have gv : (f_version n)[k]? = some (if k = b2.toInt.toNat then 1 else if k = b1.toInt.toNat then 1 else 0) := by rw [ne]; exact (store k hk).2
   have t := none' k (by rw [K8]; exact hk) ((inb k hk).mpr q1) _ gv
   have t2 := (verk k hk _ gv).mp q2
   rw [z0] at t
   omega
  have I0 : I = 0 := cm1.mpr dis
  subst lm
  rw [if_pos (by decide)] at hcom
  obtain ⟨r2, hr2, nva, nve, nb, n1, n2, n3, n4, n5⟩ := install_ex Sn K0 K32 (x := 0) (by decide) (by decide) nw0
  rw [nc] at n4 n5
  obtain ⟨f, hf⟩ : ∃ m, m = s_lastConflict (clr (s_version (s_value (s_commitCount n (1 + 1)) nva) nve) (0 : Int32).toInt.toNat nb) (-1) := ⟨_, rfl⟩
  rw [← hf] at n4
  have Sf : Sh 8 2 f := by rw [hf]; exact Sh_lc (Sh_clr (Sh_ve (Sh_va (Sh_cc Sn _) n1) n2) _ n3) _
  have fc : f_commitCount f = 2 := by rw [hf]; rfl
  have fab : f_abortCount f = 0 := by rw [hf]; exact nab
  have fl : f_lastConflict f = -1 := by rw [hf]; rfl
  have fa : f_active f = (f_active n).set 0 0 := by rw [hf]; rfl
  have fa0 : (f_active f)[0]? = some 0 := by rw [fa, List.getElem?_set_self (by rw [Sn.2.2.1]; decide)]
  have fa1 : (f_active f)[1]? = some 0 := by rw [fa, List.getElem?_set_ne (by decide), na]; exact ma1
  have fv : f_value f = nva := by rw [hf]; rfl
  have fe : f_version f = nve := by rw [hf]; rfl
  have done := fin f 1 Sf (by
   intro k hk
   rw [fv, fe]
   simp only [if_neg (show ¬ (1 : Int32) = 0 by decide)]
   obtain ⟨q1, q2⟩ := n5 k (by omega)
   by_cases e : k = c.toInt.toNat
   ·have t := q1 (by rw [K8]; exact hk) ((one_bit rc.1 (by omega) hk).mpr e)
    rw [t.1, t.2, if_pos e, if_pos e, e]
    refine ⟨?_, rfl⟩
    rw [← nbc]; rfl
   ·have t := q2 (fun z => e ((one_bit rc.1 (by omega) hk).mp z.2))
    rw [t.1, t.2, if_neg e, if_neg e, nv, ne]
    exact store k hk)
  obtain ⟨_, lq, rfl⟩ := leastL f (-1) (fun k hk _ => dis k hk) (Or.inl rfl) 2
  have com : F13 n 0 = some (2, f) := by
   rw [hcom, hr2, n4]; rfl
  refine ⟨H0 f, ?_, (res f Sf).2⟩
  unfold F19 F20 F21 F22
  simp only [com, Option.bind_some, lq, I0, fc, fab, fl, if_true, vt2 Sf (x := 0) (by decide) (by decide) fa0, vt2 Sf (x := 1) (by decide) (by decide) fa1]
  have lq' := lq
  rw [I0] at lq'
  simp only [lq', Option.bind_some]
  simp +decide [done]
 ·-- a conflict
  rw [z8] at l1
  have lk : l.toInt.toNat < 8 := by omega
  have both : (l.toInt.toNat = a1.toInt.toNat ∨ l.toInt.toNat = a2.toInt.toNat) ∧ (l.toInt.toNat = b1.toInt.toNat ∨ l.toInt.toNat = b2.toInt.toNat) := ⟨(inb _ lk).mp l2, (verk _ lk _ lv1).mpr (by rw [z0] at lv2; exact lv2)⟩
  have low : ∀ k : Nat, k < 8 → (k : Int) < (if l.toInt < 0 then 8 else l.toInt) → ¬ ((k = a1.toInt.toNat ∨ k = a2.toInt.toNat) ∧ (k = b1.toInt.toNat ∨ k = b2.toInt.toNat)) := by
   intro k hk kl ⟨q1, q2⟩
   rw [if_neg (by omega)] at kl
   have gv : (f_version n)[k]? = some (if k = b2.toInt.toNat then 1 else if k = b1.toInt.toNat then 1 else 0) := by rw [ne]; exact (store k hk).2
   have t := l3 k (by omega) ((inb k hk).mpr q1) _ gv
   have t2 := (verk k hk _ gv).mp q2
   rw [z0] at t
   omega
  have I0 : ¬ I = 0 := fun q => cm1.mp q l.toInt.toNat lk both
  have ln : ¬ l < 0 := by rw [i_lt, z0]; omega
  rw [if_neg ln] at hcom
  obtain ⟨r2, hr2, bb, hbb, n4⟩ : okP (F18 n 0 l (-3)) (fun r => ∃ b, b.length = 256 ∧ r = (-3, s_lastConflict (s_abortCount (clr n 0 b) (f_abortCount n + 1)) l)) := by
   unfold F18 F17
   apply okP.bind
   apply okP.bind
   refine okP.mono (clear_ok Sn (x := 0) (by decide) (by decide)) ?_
   rintro _ ⟨b, hb, rfl⟩
   apply okP.some
   apply okP.some
   exact ⟨b, hb, rfl⟩
  obtain ⟨f, hf⟩ : ∃ m, m = s_lastConflict (s_abortCount (clr n 0 bb) (f_abortCount n + 1)) l := ⟨_, rfl⟩
  rw [← hf] at n4
  have Sf : Sh 8 2 f := by rw [hf]; exact Sh_lc (Sh_ab (Sh_clr Sn _ hbb) _) _
  have fc : f_commitCount f = 1 := by rw [hf]; exact nc
  have fab : f_abortCount f = 1 := by
   have : f_abortCount f = f_abortCount n + 1 := by rw [hf]; rfl
   rw [this, nab]; rfl
  have fl : f_lastConflict f = l := by rw [hf]; rfl
  have fa : f_active f = (f_active n).set 0 0 := by rw [hf]; rfl
  have fa0 : (f_active f)[0]? = some 0 := by rw [fa, List.getElem?_set_self (by rw [Sn.2.2.1]; decide)]
  have fa1 : (f_active f)[1]? = some 0 := by rw [fa, List.getElem?_set_ne (by decide), na]; exact ma1
  have done := fin f 0 Sf (by
   intro k hk
   rw [show f_value f = f_value n from by rw [hf]; rfl, show f_version f = f_version n from by rw [hf]; rfl, if_pos rfl, if_pos rfl, nv, ne]
   exact store k hk)
  obtain ⟨_, lq, rfl⟩ := leastL f l low (Or.inr ⟨l0, l1, both⟩) (-3)
  have com : F13 n 0 = some (-3, f) := by
   rw [hcom, hr2, n4]; rfl
  refine ⟨H0 f, ?_, (res f Sf).2⟩
  unfold F19 F20 F21 F22
  simp only [com, Option.bind_some, lq, if_neg I0, fc, fab, fl, if_true, vt2 Sf (x := 0) (by decide) (by decide) fa0, vt2 Sf (x := 1) (by decide) (by decide) fa1]
  simp +decide [done]
set_option maxRecDepth 65536 in
theorem comes_1 {Post : Tables → Env → Array Value → State → Outcome → State → Prop} (hpost : ∀ tb e args s v u, (limb_1_1.after args s (.returned v) u = true ∧ limb_1_2.after args s (.returned v) u = true ∧ True) → FrameEnd s (.returned v) u (Jvm.fieldLocs frame_1_writes args s ++ Jvm.arrayLocs frame_1_arrays args s ++ Jvm.staticLocs frame_1_statics s) 24 832 → Post tb e args s (.returned v) u) :
    ArmFor flags0 classFile x code maxLocals ret World_1 tables_1 room_1 Calls_1 rest_1 Pre_1 Post := by
  intro l hfl _ _ p e ha hc hk s m args below hf hA hF happ hP
  obtain ⟨hcalls, hrest, hpre⟩ := hP
  obtain ⟨-, -, -, hnamed, -, -, -, hat⟩ := (Spec.applies_iff hf).mp happ
  obtain ⟨hg, hn⟩ := and_e (Cond.before_iff.mp (show (Jvm.Cond.and given_1 narrow_1).before args s = true from hpre))
  obtain ⟨g0, g1⟩ := and_e hg
  obtain ⟨w0, w1, w2, w3, w4, w5, rfl⟩ : ∃ w0 w1 w2 w3 w4 w5 : Value, args = #[w0, w1, w2, w3, w4, w5] := by
    have hs : args.size = 6 := by simpa [Cond.value, given_1] using g0
    obtain ⟨L⟩ := args
    match L, hs with
    | [w0, w1, w2, w3, w4, w5], _ => exact ⟨w0, w1, w2, w3, w4, w5, rfl⟩
  have hw := fun d (hd : d ∈ tables_1) => atoms_spec (ws := Jvm.Cond.code x code maxLocals ret :: tables_1) hat d (List.mem_cons_of_mem _ hd)
  obtain ⟨a0, g2⟩ := and_e g1
  obtain ⟨i0, ei0⟩ := is_v a0
  obtain rfl : w0 = (.int i0) := Option.some.inj ei0
  obtain ⟨a1, g3⟩ := and_e g2
  obtain ⟨i1, ei1⟩ := is_v a1
  obtain rfl : w1 = (.int i1) := Option.some.inj ei1
  obtain ⟨a2, g4⟩ := and_e g3
  obtain ⟨i2, ei2⟩ := is_v a2
  obtain rfl : w2 = (.int i2) := Option.some.inj ei2
  obtain ⟨a3, g5⟩ := and_e g4
  obtain ⟨i3, ei3⟩ := is_v a3
  obtain rfl : w3 = (.int i3) := Option.some.inj ei3
  obtain ⟨a4, g6⟩ := and_e g5
  obtain ⟨i4, ei4⟩ := is_v a4
  obtain rfl : w4 = (.int i4) := Option.some.inj ei4
  obtain ⟨i5, ei5⟩ := is_v g6
  obtain rfl : w5 = (.int i5) := Option.some.inj ei5
  obtain ⟨τ, hF0, hc1, hs1⟩ := law_ok i0 i1 i2 i3 i4 i5
  have Ad : QAd s.heap.size (fun k => s.heap.size + k) := ⟨fun k _ => rfl, fun i j h => Nat.add_left_cancel h⟩
  have hR : QRep s s.heap.size (fun k => s.heap.size + k) s.heap [] := ⟨Nat.le_refl _, rfl, fun k c h => by cases h⟩
  have T := tF0 (l := l) (Z := s) Ad (QW_ok hw) i0 i1 i2 i3 i4 i5 hF0
  have M := QTri.met (k := 0) (as := [.int i0, .int i1, .int i2, .int i3, .int i4, .int i5]) (by decide) T hR (Nat.le_of_ble_eq_true rfl) (fun q => by cases q) tables_1 (rm := room_1) (by decide) (by decide) hc1 hs1
  obtain ⟨n, o, h1, h2, h3, _, L, rfl, ⟨rfl, R', N⟩, hq⟩ := M p e ha hc hk s m _ below hf ((Spec.applies_iff_loose hf).mp happ).1 ⟨rfl, State.Warmed39.refl s, rfl⟩ trivial
  refine ⟨n, _, h1, h2, h3, hpost _ _ _ _ _ _ ⟨Cond.after_iff.mpr rfl, Cond.after_iff.mpr (eq_i res_at (Term.int_eval (1)) rfl), trivial⟩ ⟨hq.1, hq.2.1, (hq.2.2.sift fun y hy => Or.inr (N y hy)).mono hc1 hs1⟩⟩
theorem main_1_1 : Claimed_1_1 := comes_1 fun _ _ _ _ _ _ h hF => ⟨h.1, hF⟩
theorem main_1_2 : Claimed_1_2 := comes_1 fun _ _ _ _ _ _ h hF => ⟨h.2.1, hF⟩
end Jvm.Pilot.@@N@@
namespace Jvm.Pilot.@@N@@
open Jvm Jvm.ClassFile Sem Op Lib Jvm.Free Jvm.Stand Jvm.Pilot.@@N@@.Jvm.D
/-! MADE BY PROGRAM (witnessworld.py) out of the Statement's table words and the real class files: 11 classes; the members and pool entries that the words name. The judged class is class 1, her method 1. -/
namespace start1
open Jvm.ClassFile
def u (s : String) : CpInfo := .utf8 (stringToUtf16 s)
/-- a pool by its gaps: so many unusable entries, then the entry; so many at the end -/
def gap : Nat → List CpInfo → List CpInfo
  | 0, r => r
  | n + 1, r => .unusable :: gap n r
def poolList (es : List (Nat × CpInfo)) (last : Nat) : List CpInfo := es.foldr (fun e r => gap e.1 (e.2 :: r)) (gap last [])
def pool (es : List (Nat × CpInfo)) (last : Nat) : Array CpInfo := ⟨poolList es last⟩
def fileOf (pool : Array CpInfo) (this : Nat) (attrs : Array Attribute := #[]) (ms : Array MethodInfo := #[]) (fl : Nat := 33) (sup : Nat := 0) (ifs : Array Nat := #[]) (fds : Array FieldInfo := #[]) : ClassFile where
  minorVersion := 0
  majorVersion := 65
  constantPool := pool
  accessFlags := fl
  thisClass := this
  superClass := sup
  interfaces := ifs
  fields := fds
  methods := ms
  attributes := attrs
def plain (name : String) (sup : Option ClassId) : Class where
  name := name
  kind := .ordinary
  loader := none
  accessFlags := 33
  super := sup
  interfaces := #[]
  cf := none
  fields := #[]
  methods := #[]
  instanceTypes := #[]
  staticTypes := #[]
  resolved := #[]
  callSites := []
  init := .initialized
  statics := none
  mirror := none

def pool0 : Array CpInfo := pool [(5, u "<init>"), (0, u "()V"), (1, .class_ 10), (1, u "java/lang/Object")] 113

def k0c0 : Code := { maxStack := 0, maxLocals := 1, code := object_method_1_code, exceptionTable := #[], attributes := #[] }
def k0m0 : Method := { name := "<init>", desc := "()V", sig := { parameters := [], returnType := none }, accessFlags := 1, code := some k0c0 }
/-- java/lang/Object -/
def k0 : Class := { plain "java/lang/Object" none with
  accessFlags := 33
  interfaces := #[]
  cf := some (fileOf pool0 8 #[] #[{ accessFlags := 1, nameIndex := 5, descriptorIndex := 6, attributes := #[] }] 33 0 #[] #[])
  fields := #[]
  methods := #[k0m0]
  instanceTypes := #[]
  staticTypes := #[]
  resolved := Array.replicate 124 none
  statics := none }

def pool1 : Array CpInfo := pool [(2, .class_ 4), (1, u "java/lang/Object"), (0, u "<init>"), (0, u "()V"), (0, .class_ 8), (0, u "OccValidator"), (0, .methodref 7 10), (0, .nameAndType 5 11), (0, u "(III)V"), (0, .methodref 7 13), (0, .nameAndType 14 15), (0, u "begin"), (0, u "()I"), (0, .methodref 7 17), (0, .nameAndType 18 19), (0, u "read"), (0, u "(II)I"), (0, .methodref 7 21), (0, .nameAndType 22 23), (0, u "write"), (0, u "(III)I"), (0, .methodref 7 25), (0, .nameAndType 26 27), (0, u "commit"), (0, u "(I)I"), (0, .methodref 7 29), (0, .nameAndType 30 15), (0, u "getCommitCount"), (0, .methodref 7 32), (0, .nameAndType 33 15), (0, u "getAbortCount"), (0, .methodref 7 35), (0, .nameAndType 36 15), (0, u "getLastConflictKey"), (0, .methodref 7 38), (0, .nameAndType 39 40), (0, u "isActive"), (0, u "(I)Z"), (0, .methodref 7 42), (0, .nameAndType 43 27), (0, u "getValue"), (0, .methodref 7 45), (0, .nameAndType 46 27), (0, u "getVersion"), (0, .class_ 48), (0, u "OccValidatorL3"), (2, u "law"), (0, u "(IIIIII)Z")] 3

def k1m0 : Method := { name := "<init>", desc := "()V", sig := { parameters := [], returnType := none }, accessFlags := 1, code := none }
def k1c1 : Code := { maxStack := 5, maxLocals := 19, code := code, exceptionTable := #[], attributes := #[] }
def k1m1 : Method := { name := "law", desc := "(IIIIII)Z", sig := { parameters := [.int, .int, .int, .int, .int, .int], returnType := some .boolean }, accessFlags := 9, code := some k1c1 }
/-- OccValidatorL3 -/
def k1 : Class := { plain "OccValidatorL3" (some 0) with
  accessFlags := 49
  interfaces := #[]
  cf := some (fileOf pool1 47 #[] #[{ accessFlags := 1, nameIndex := 5, descriptorIndex := 6, attributes := #[] }, { accessFlags := 9, nameIndex := 51, descriptorIndex := 52, attributes := #[] }] 49 2 #[] #[])
  fields := #[]
  methods := #[k1m0, k1m1]
  instanceTypes := #[]
  staticTypes := #[]
  resolved := Array.replicate 56 none
  statics := none }

def pool2 : Array CpInfo := pool [(1, .methodref 2 3), (0, .class_ 4), (0, .nameAndType 5 6), (0, u "java/lang/Object"), (0, u "<init>"), (0, u "()V"), (0, .fieldref 8 9), (0, .class_ 10), (0, .nameAndType 11 12), (0, u "OccValidator"), (0, u "value"), (0, u "[I"), (0, .fieldref 8 14), (0, .nameAndType 15 12), (0, u "version"), (0, .fieldref 8 17), (0, .nameAndType 18 19), (0, u "active"), (0, u "[Z"), (0, .fieldref 8 21), (0, .nameAndType 22 12), (0, u "start"), (0, .fieldref 8 24), (0, .nameAndType 25 12), (0, u "readSet"), (0, .fieldref 8 27), (0, .nameAndType 28 12), (0, u "writeSet"), (0, .fieldref 8 30), (0, .nameAndType 31 12), (0, u "buffered"), (0, .methodref 8 33), (0, .nameAndType 34 35), (0, u "clamp"), (0, u "(III)I"), (0, .fieldref 8 37), (0, .nameAndType 38 39), (0, u "keyCount"), (0, u "I"), (0, .fieldref 8 41), (0, .nameAndType 42 39), (0, u "slotCount"), (0, .fieldref 8 44), (0, .nameAndType 45 39), (0, u "window"), (0, .fieldref 8 47), (0, .nameAndType 48 39), (0, u "commitCount"), (0, .fieldref 8 50), (0, .nameAndType 51 39), (0, u "abortCount"), (0, .fieldref 8 53), (0, .nameAndType 54 39), (0, u "lastConflict"), (0, .methodref 8 56), (0, .nameAndType 57 58), (0, u "findFreeSlot"), (0, u "()I"), (0, .methodref 8 60), (0, .nameAndType 61 62), (0, u "openSlot"), (0, u "(I)V"), (0, .methodref 8 64), (0, .nameAndType 65 66), (0, u "isValidTx"), (0, u "(I)Z"), (0, .methodref 8 68), (0, .nameAndType 69 66), (0, u "isValidKey"), (0, .methodref 8 71), (0, .nameAndType 72 73), (0, u "bit"), (0, u "(I)I"), (0, .methodref 8 75), (0, .nameAndType 76 77), (0, u "bufIndex"), (0, u "(II)I"), (0, .methodref 8 79), (0, .nameAndType 80 66), (0, u "isStale"), (0, .methodref 8 82), (0, .nameAndType 83 35), (0, u "failCommit"), (0, .methodref 8 85), (0, .nameAndType 86 73), (0, u "leastConflict"), (0, .methodref 8 88), (0, .nameAndType 89 73), (0, u "install"), (0, .methodref 8 91), (0, .nameAndType 92 62), (0, u "endTx"), (0, .methodref 8 94), (0, .nameAndType 95 62), (0, u "clearSlot"), (0, u "OK"), (2, u "ERR_TX"), (1, u "ERR_KEY"), (1, u "ABORT_CONFLICT"), (1, u "ABORT_STALE"), (1, u "ERR_FULL"), (1, u "(III)V"), (2, u "begin"), (1, u "read"), (0, u "write"), (0, u "commit"), (1, u "getValue"), (0, u "getVersion"), (0, u "getCommitCount"), (0, u "getAbortCount"), (0, u "getLastConflictKey"), (0, u "isActive")] 6

def k2c0 : Code := { maxStack := 5, maxLocals := 4, code := prog_1_method_1_code, exceptionTable := #[], attributes := #[] }
def k2m0 : Method := { name := "<init>", desc := "(III)V", sig := { parameters := [.int, .int, .int], returnType := none }, accessFlags := 1, code := some k2c0 }
def k2c1 : Code := { maxStack := 2, maxLocals := 2, code := prog_1_method_2_code, exceptionTable := #[], attributes := #[] }
def k2m1 : Method := { name := "begin", desc := "()I", sig := { parameters := [], returnType := some .int }, accessFlags := 1, code := some k2c1 }
def k2c2 : Code := { maxStack := 4, maxLocals := 4, code := prog_1_method_3_code, exceptionTable := #[], attributes := #[] }
def k2m2 : Method := { name := "read", desc := "(II)I", sig := { parameters := [.int, .int], returnType := some .int }, accessFlags := 1, code := some k2c2 }
def k2c3 : Code := { maxStack := 5, maxLocals := 4, code := prog_1_method_4_code, exceptionTable := #[], attributes := #[] }
def k2m3 : Method := { name := "write", desc := "(III)I", sig := { parameters := [.int, .int, .int], returnType := some .int }, accessFlags := 1, code := some k2c3 }
def k2c4 : Code := { maxStack := 4, maxLocals := 3, code := prog_1_method_5_code, exceptionTable := #[], attributes := #[] }
def k2m4 : Method := { name := "commit", desc := "(I)I", sig := { parameters := [.int], returnType := some .int }, accessFlags := 1, code := some k2c4 }
def k2c5 : Code := { maxStack := 2, maxLocals := 2, code := prog_1_method_7_code, exceptionTable := #[], attributes := #[] }
def k2m5 : Method := { name := "getValue", desc := "(I)I", sig := { parameters := [.int], returnType := some .int }, accessFlags := 1, code := some k2c5 }
def k2c6 : Code := { maxStack := 2, maxLocals := 2, code := prog_1_method_8_code, exceptionTable := #[], attributes := #[] }
def k2m6 : Method := { name := "getVersion", desc := "(I)I", sig := { parameters := [.int], returnType := some .int }, accessFlags := 1, code := some k2c6 }
def k2c7 : Code := { maxStack := 1, maxLocals := 1, code := prog_1_method_9_code, exceptionTable := #[], attributes := #[] }
def k2m7 : Method := { name := "getCommitCount", desc := "()I", sig := { parameters := [], returnType := some .int }, accessFlags := 1, code := some k2c7 }
def k2c8 : Code := { maxStack := 1, maxLocals := 1, code := prog_1_method_10_code, exceptionTable := #[], attributes := #[] }
def k2m8 : Method := { name := "getAbortCount", desc := "()I", sig := { parameters := [], returnType := some .int }, accessFlags := 1, code := some k2c8 }
def k2c9 : Code := { maxStack := 1, maxLocals := 1, code := prog_1_method_11_code, exceptionTable := #[], attributes := #[] }
def k2m9 : Method := { name := "getLastConflictKey", desc := "()I", sig := { parameters := [], returnType := some .int }, accessFlags := 1, code := some k2c9 }
def k2c10 : Code := { maxStack := 2, maxLocals := 2, code := prog_1_method_12_code, exceptionTable := #[], attributes := #[] }
def k2m10 : Method := { name := "isActive", desc := "(I)Z", sig := { parameters := [.int], returnType := some .boolean }, accessFlags := 1, code := some k2c10 }
def k2c11 : Code := { maxStack := 2, maxLocals := 4, code := prog_1_method_17_code, exceptionTable := #[], attributes := #[] }
def k2m11 : Method := { name := "clamp", desc := "(III)I", sig := { parameters := [.int, .int, .int], returnType := some .int }, accessFlags := 2, code := some k2c11 }
def k2c12 : Code := { maxStack := 2, maxLocals := 2, code := prog_1_method_18_code, exceptionTable := #[], attributes := #[] }
def k2m12 : Method := { name := "isValidTx", desc := "(I)Z", sig := { parameters := [.int], returnType := some .boolean }, accessFlags := 2, code := some k2c12 }
def k2c13 : Code := { maxStack := 2, maxLocals := 2, code := prog_1_method_19_code, exceptionTable := #[], attributes := #[] }
def k2m13 : Method := { name := "isValidKey", desc := "(I)Z", sig := { parameters := [.int], returnType := some .boolean }, accessFlags := 2, code := some k2c13 }
def k2c14 : Code := { maxStack := 2, maxLocals := 2, code := prog_1_method_20_code, exceptionTable := #[], attributes := #[] }
def k2m14 : Method := { name := "bit", desc := "(I)I", sig := { parameters := [.int], returnType := some .int }, accessFlags := 2, code := some k2c14 }
def k2c15 : Code := { maxStack := 2, maxLocals := 3, code := prog_1_method_21_code, exceptionTable := #[], attributes := #[] }
def k2m15 : Method := { name := "bufIndex", desc := "(II)I", sig := { parameters := [.int, .int], returnType := some .int }, accessFlags := 2, code := some k2c15 }
def k2c16 : Code := { maxStack := 2, maxLocals := 2, code := prog_1_method_22_code, exceptionTable := #[], attributes := #[] }
def k2m16 : Method := { name := "findFreeSlot", desc := "()I", sig := { parameters := [], returnType := some .int }, accessFlags := 2, code := some k2c16 }
def k2c17 : Code := { maxStack := 3, maxLocals := 2, code := prog_1_method_23_code, exceptionTable := #[], attributes := #[] }
def k2m17 : Method := { name := "openSlot", desc := "(I)V", sig := { parameters := [.int], returnType := none }, accessFlags := 2, code := some k2c17 }
def k2c18 : Code := { maxStack := 3, maxLocals := 4, code := prog_1_method_24_code, exceptionTable := #[], attributes := #[] }
def k2m18 : Method := { name := "clearSlot", desc := "(I)V", sig := { parameters := [.int], returnType := none }, accessFlags := 2, code := some k2c18 }
def k2c19 : Code := { maxStack := 2, maxLocals := 2, code := prog_1_method_25_code, exceptionTable := #[], attributes := #[] }
def k2m19 : Method := { name := "endTx", desc := "(I)V", sig := { parameters := [.int], returnType := none }, accessFlags := 2, code := some k2c19 }
def k2c20 : Code := { maxStack := 3, maxLocals := 2, code := prog_1_method_26_code, exceptionTable := #[], attributes := #[] }
def k2m20 : Method := { name := "isStale", desc := "(I)Z", sig := { parameters := [.int], returnType := some .boolean }, accessFlags := 2, code := some k2c20 }
def k2c21 : Code := { maxStack := 3, maxLocals := 5, code := prog_1_method_27_code, exceptionTable := #[], attributes := #[] }
def k2m21 : Method := { name := "leastConflict", desc := "(I)I", sig := { parameters := [.int], returnType := some .int }, accessFlags := 2, code := some k2c21 }
def k2c22 : Code := { maxStack := 3, maxLocals := 4, code := prog_1_method_28_code, exceptionTable := #[], attributes := #[] }
def k2m22 : Method := { name := "failCommit", desc := "(III)I", sig := { parameters := [.int, .int, .int], returnType := some .int }, accessFlags := 2, code := some k2c22 }
def k2c23 : Code := { maxStack := 6, maxLocals := 5, code := prog_1_method_29_code, exceptionTable := #[], attributes := #[] }
def k2m23 : Method := { name := "install", desc := "(I)I", sig := { parameters := [.int], returnType := some .int }, accessFlags := 2, code := some k2c23 }
/-- OccValidator -/
def k2 : Class := { plain "OccValidator" (some 0) with
  accessFlags := 49
  interfaces := #[]
  cf := some (fileOf pool2 8 #[] #[{ accessFlags := 1, nameIndex := 5, descriptorIndex := 109, attributes := #[] }, { accessFlags := 1, nameIndex := 112, descriptorIndex := 58, attributes := #[] }, { accessFlags := 1, nameIndex := 114, descriptorIndex := 77, attributes := #[] }, { accessFlags := 1, nameIndex := 115, descriptorIndex := 35, attributes := #[] }, { accessFlags := 1, nameIndex := 116, descriptorIndex := 73, attributes := #[] }, { accessFlags := 1, nameIndex := 118, descriptorIndex := 73, attributes := #[] }, { accessFlags := 1, nameIndex := 119, descriptorIndex := 73, attributes := #[] }, { accessFlags := 1, nameIndex := 120, descriptorIndex := 58, attributes := #[] }, { accessFlags := 1, nameIndex := 121, descriptorIndex := 58, attributes := #[] }, { accessFlags := 1, nameIndex := 122, descriptorIndex := 58, attributes := #[] }, { accessFlags := 1, nameIndex := 123, descriptorIndex := 66, attributes := #[] }, { accessFlags := 2, nameIndex := 34, descriptorIndex := 35, attributes := #[] }, { accessFlags := 2, nameIndex := 65, descriptorIndex := 66, attributes := #[] }, { accessFlags := 2, nameIndex := 69, descriptorIndex := 66, attributes := #[] }, { accessFlags := 2, nameIndex := 72, descriptorIndex := 73, attributes := #[] }, { accessFlags := 2, nameIndex := 76, descriptorIndex := 77, attributes := #[] }, { accessFlags := 2, nameIndex := 57, descriptorIndex := 58, attributes := #[] }, { accessFlags := 2, nameIndex := 61, descriptorIndex := 62, attributes := #[] }, { accessFlags := 2, nameIndex := 95, descriptorIndex := 62, attributes := #[] }, { accessFlags := 2, nameIndex := 92, descriptorIndex := 62, attributes := #[] }, { accessFlags := 2, nameIndex := 80, descriptorIndex := 66, attributes := #[] }, { accessFlags := 2, nameIndex := 86, descriptorIndex := 73, attributes := #[] }, { accessFlags := 2, nameIndex := 83, descriptorIndex := 35, attributes := #[] }, { accessFlags := 2, nameIndex := 89, descriptorIndex := 73, attributes := #[] }] 49 2 #[] #[{ accessFlags := 25, nameIndex := 96, descriptorIndex := 39, attributes := #[] }, { accessFlags := 25, nameIndex := 99, descriptorIndex := 39, attributes := #[] }, { accessFlags := 25, nameIndex := 101, descriptorIndex := 39, attributes := #[] }, { accessFlags := 25, nameIndex := 103, descriptorIndex := 39, attributes := #[] }, { accessFlags := 25, nameIndex := 105, descriptorIndex := 39, attributes := #[] }, { accessFlags := 25, nameIndex := 107, descriptorIndex := 39, attributes := #[] }, { accessFlags := 2, nameIndex := 38, descriptorIndex := 39, attributes := #[] }, { accessFlags := 2, nameIndex := 42, descriptorIndex := 39, attributes := #[] }, { accessFlags := 2, nameIndex := 45, descriptorIndex := 39, attributes := #[] }, { accessFlags := 2, nameIndex := 48, descriptorIndex := 39, attributes := #[] }, { accessFlags := 2, nameIndex := 51, descriptorIndex := 39, attributes := #[] }, { accessFlags := 2, nameIndex := 54, descriptorIndex := 39, attributes := #[] }, { accessFlags := 2, nameIndex := 11, descriptorIndex := 12, attributes := #[] }, { accessFlags := 2, nameIndex := 15, descriptorIndex := 12, attributes := #[] }, { accessFlags := 2, nameIndex := 18, descriptorIndex := 19, attributes := #[] }, { accessFlags := 2, nameIndex := 22, descriptorIndex := 12, attributes := #[] }, { accessFlags := 2, nameIndex := 25, descriptorIndex := 12, attributes := #[] }, { accessFlags := 2, nameIndex := 28, descriptorIndex := 12, attributes := #[] }, { accessFlags := 2, nameIndex := 31, descriptorIndex := 12, attributes := #[] }])
  fields := #[{ name := "OK", type := .int, accessFlags := 25, slot := 0, constantValue := 0 }, { name := "ERR_TX", type := .int, accessFlags := 25, slot := 1, constantValue := 0 }, { name := "ERR_KEY", type := .int, accessFlags := 25, slot := 2, constantValue := 0 }, { name := "ABORT_CONFLICT", type := .int, accessFlags := 25, slot := 3, constantValue := 0 }, { name := "ABORT_STALE", type := .int, accessFlags := 25, slot := 4, constantValue := 0 }, { name := "ERR_FULL", type := .int, accessFlags := 25, slot := 5, constantValue := 0 }, { name := "keyCount", type := .int, accessFlags := 2, slot := 0, constantValue := 0 }, { name := "slotCount", type := .int, accessFlags := 2, slot := 1, constantValue := 0 }, { name := "window", type := .int, accessFlags := 2, slot := 2, constantValue := 0 }, { name := "commitCount", type := .int, accessFlags := 2, slot := 3, constantValue := 0 }, { name := "abortCount", type := .int, accessFlags := 2, slot := 4, constantValue := 0 }, { name := "lastConflict", type := .int, accessFlags := 2, slot := 5, constantValue := 0 }, { name := "value", type := (.array .int), accessFlags := 2, slot := 6, constantValue := 0 }, { name := "version", type := (.array .int), accessFlags := 2, slot := 7, constantValue := 0 }, { name := "active", type := (.array .boolean), accessFlags := 2, slot := 8, constantValue := 0 }, { name := "start", type := (.array .int), accessFlags := 2, slot := 9, constantValue := 0 }, { name := "readSet", type := (.array .int), accessFlags := 2, slot := 10, constantValue := 0 }, { name := "writeSet", type := (.array .int), accessFlags := 2, slot := 11, constantValue := 0 }, { name := "buffered", type := (.array .int), accessFlags := 2, slot := 12, constantValue := 0 }]
  methods := #[k2m0, k2m1, k2m2, k2m3, k2m4, k2m5, k2m6, k2m7, k2m8, k2m9, k2m10, k2m11, k2m12, k2m13, k2m14, k2m15, k2m16, k2m17, k2m18, k2m19, k2m20, k2m21, k2m22, k2m23]
  instanceTypes := #[.int, .int, .int, .int, .int, .int, (.array .int), (.array .int), (.array .boolean), (.array .int), (.array .int), (.array .int), (.array .int)]
  staticTypes := #[.int, .int, .int, .int, .int, .int]
  resolved := Array.replicate 130 none
  statics := none }

def pool3 : Array CpInfo := pool [(1, u "java/lang/Cloneable"), (0, .class_ 1), (0, u "java/lang/Object"), (0, .class_ 3)] 3

/-- java/lang/Cloneable -/
def k3 : Class := { plain "java/lang/Cloneable" (some 0) with
  accessFlags := 1537
  interfaces := #[]
  cf := some (fileOf pool3 2 #[] #[] 1537 4 #[] #[])
  fields := #[]
  methods := #[]
  instanceTypes := #[]
  staticTypes := #[]
  resolved := Array.replicate 8 none
  statics := none }

def pool4 : Array CpInfo := pool [(1, u "java/io/Serializable"), (0, .class_ 1), (0, u "java/lang/Object"), (0, .class_ 3)] 3

/-- java/io/Serializable -/
def k4 : Class := { plain "java/io/Serializable" (some 0) with
  accessFlags := 1537
  interfaces := #[]
  cf := some (fileOf pool4 2 #[] #[] 1537 4 #[] #[])
  fields := #[]
  methods := #[]
  instanceTypes := #[]
  staticTypes := #[]
  resolved := Array.replicate 8 none
  statics := none }

/-- the primitive boolean -/
def k5 : Class := { plain "boolean" none with kind := .primitive 'Z', accessFlags := 0x411 }
/-- [Z -/
def k6 : Class := { plain "[Z" (some 0) with kind := .array 5 .boolean, interfaces := #[3, 4], accessFlags := 1041 }

/-- the primitive byte -/
def k7 : Class := { plain "byte" none with kind := .primitive 'B', accessFlags := 0x411 }
/-- [B -/
def k8 : Class := { plain "[B" (some 0) with kind := .array 7 .byte, interfaces := #[3, 4], accessFlags := 1041 }

/-- the primitive int -/
def k9 : Class := { plain "int" none with kind := .primitive 'I', accessFlags := 0x411 }
/-- [I -/
def k10 : Class := { plain "[I" (some 0) with kind := .array 9 .int, interfaces := #[3, 4], accessFlags := 1041 }

def heap : Heap := #[]
def classes : Array Class := #[k0, k1, k2, k3, k4, k5, k6, k7, k8, k9, k10]
def interned : List (Array UInt16 × Addr) := []
def slotsUsed : Nat := 0
def theMethod : MethodId := ⟨1, 1⟩
def args0 : Array Value := #[.int 5, .int 5, .int 5, .int 5, .int 5, .int 5]
def aboutOver (below : List Frame) : State where
  vm := { classes := classes, interned := interned.toArray }
  heap := heap
  slotsUsed := slotsUsed
  threads := #[{ frames := .invoking theMethod args0 :: below }]
def below0 : List Frame := [.native { method := ⟨0, 0⟩, args := #[] }]
def about1 : State := aboutOver below0
def p0 : Program := .bare "" "" ""
def e0 : Env := launch0.env 0 0 0
theorem w_frames : about1.frames = Frame.invoking theMethod args0 :: below0 := rfl
set_option maxRecDepth 65536 in
theorem w_args : argsFit about1.vm theMethod args0 = true := by decide +kernel
set_option maxRecDepth 65536 in
theorem w_heap : heapFits about1 = true := by decide +kernel
set_option maxRecDepth 65536 in
theorem w_runnable : about1.curStatus? = some .runnable := by decide +kernel
set_option maxRecDepth 65536 in
theorem w_alone : about1.alone = true := by decide +kernel
set_option maxRecDepth 65536 in
theorem w_named : about1.methodNamed? x = some theMethod := by decide +kernel
set_option maxRecDepth 65536 in
theorem w_hears : about1.hears theMethod below0 = true := by decide +kernel
set_option maxRecDepth 65536 in
theorem w_ripe : about1.ripe theMethod args0 below0 = true := by decide +kernel
theorem w_running : about1.status = .running := rfl
set_option maxRecDepth 65536 in
theorem w_room : about1.hasRoom e0.platform room_1 = true :=
  launch0.hasRoom_least _ room_1 (by decide +kernel) (by decide +kernel) (by decide +kernel) (by decide +kernel) (by decide +kernel) (by decide +kernel)
theorem allAtoms_all (ts : List Jvm.Cond) (a : Array Jvm.Value) (st : Jvm.State) : (allAtoms ts).before a st = ts.all (fun c => c.before a st) := by
  induction ts with
  | nil => rfl
  | cons c t ih =>
    show (Jvm.Cond.and c (allAtoms t)).before a st = _
    rw [Jvm.Cond.before_and, ih, List.all_cons]
def words1 : List Jvm.Cond := Jvm.Cond.code x code maxLocals ret :: tables_1
/-- a 'code' word, met by the world's own term for the bytes: nothing is compared byte by byte -/
theorem code_word {y : MethodName} {bytes : ByteArray} {mx : Nat} {rt : Option FieldType} {a : Array Value} {s : State} {m : MethodId} {meth : Method} {c : Code} (h1 : s.methodNamed? y = some m) (h2 : s.vm.method? m = some meth) (h3 : meth.code = some c) (h4 : c.code = bytes)
    (h5 : (c.maxLocals == mx && c.exceptionTable.isEmpty && decide (c.maxStack ≤ mostOperands) && decide (meth.sig.returnType = rt) && !meth.locks && decide (parseMethodDescriptor y.desc = some meth.sig)) = true) : (Jvm.Cond.code y bytes mx rt).before a s = true := by
  simp only [Bool.and_eq_true, beq_iff_eq, Bool.not_eq_true', decide_eq_true_eq] at h5
  obtain ⟨⟨⟨⟨⟨g1, g2⟩, g3⟩, g4⟩, g5⟩, g6⟩ := h5
  simp [Cond.before, Cond.holds, Cond.value, h1, h2, h3, h4, g1, g2, g3, g4, g5, g6]
def isCode : Jvm.Cond → Bool
  | .code _ _ _ _ => true
  | _ => false
theorem all_split {L : List Jvm.Cond} {P : Jvm.Cond → Bool} (h1 : L.all (fun c => isCode c || P c) = true) (h2 : ∀ c ∈ L.filter isCode, P c = true) : L.all P = true := by
  refine List.all_eq_true.mpr fun c hc => ?_
  have h := List.all_eq_true.mp h1 c hc
  rcases Bool.eq_false_or_eq_true (isCode c) with hi | hi
  · exact h2 c (List.mem_filter.mpr ⟨hc, hi⟩)
  · simpa [hi] using h
set_option maxRecDepth 65536 in
theorem w_c0 : (Jvm.Cond.code x code maxLocals ret).before args0 about1 = true := code_word (m := ⟨1, 1⟩) (meth := k1m1) (c := k1c1) (by decide +kernel) rfl rfl rfl (by decide +kernel)
set_option maxRecDepth 65536 in
theorem w_c1 : (Jvm.Cond.code ({ cls := "OccValidator", name := "<init>", desc := "(III)V" } : Jvm.MethodName) prog_1_method_1_code (4 : Nat) (Option.none : Option Jvm.ClassFile.FieldType)).before args0 about1 = true := code_word (m := ⟨2, 0⟩) (meth := k2m0) (c := k2c0) (by decide +kernel) rfl rfl rfl (by decide +kernel)
set_option maxRecDepth 65536 in
theorem w_c2 : (Jvm.Cond.code ({ cls := "java/lang/Object", name := "<init>", desc := "()V" } : Jvm.MethodName) object_method_1_code (1 : Nat) (Option.none : Option Jvm.ClassFile.FieldType)).before args0 about1 = true := code_word (m := ⟨0, 0⟩) (meth := k0m0) (c := k0c0) (by decide +kernel) rfl rfl rfl (by decide +kernel)
set_option maxRecDepth 65536 in
theorem w_c3 : (Jvm.Cond.code ({ cls := "OccValidator", name := "clamp", desc := "(III)I" } : Jvm.MethodName) prog_1_method_17_code (4 : Nat) (Option.some Jvm.ClassFile.FieldType.int)).before args0 about1 = true := code_word (m := ⟨2, 11⟩) (meth := k2m11) (c := k2c11) (by decide +kernel) rfl rfl rfl (by decide +kernel)
set_option maxRecDepth 65536 in
theorem w_c4 : (Jvm.Cond.code ({ cls := "OccValidator", name := "begin", desc := "()I" } : Jvm.MethodName) prog_1_method_2_code (2 : Nat) (Option.some Jvm.ClassFile.FieldType.int)).before args0 about1 = true := code_word (m := ⟨2, 1⟩) (meth := k2m1) (c := k2c1) (by decide +kernel) rfl rfl rfl (by decide +kernel)
set_option maxRecDepth 65536 in
theorem w_c5 : (Jvm.Cond.code ({ cls := "OccValidator", name := "findFreeSlot", desc := "()I" } : Jvm.MethodName) prog_1_method_22_code (2 : Nat) (Option.some Jvm.ClassFile.FieldType.int)).before args0 about1 = true := code_word (m := ⟨2, 16⟩) (meth := k2m16) (c := k2c16) (by decide +kernel) rfl rfl rfl (by decide +kernel)
set_option maxRecDepth 65536 in
theorem w_c6 : (Jvm.Cond.code ({ cls := "OccValidator", name := "openSlot", desc := "(I)V" } : Jvm.MethodName) prog_1_method_23_code (2 : Nat) (Option.none : Option Jvm.ClassFile.FieldType)).before args0 about1 = true := code_word (m := ⟨2, 17⟩) (meth := k2m17) (c := k2c17) (by decide +kernel) rfl rfl rfl (by decide +kernel)
set_option maxRecDepth 65536 in
theorem w_c7 : (Jvm.Cond.code ({ cls := "OccValidator", name := "clearSlot", desc := "(I)V" } : Jvm.MethodName) prog_1_method_24_code (4 : Nat) (Option.none : Option Jvm.ClassFile.FieldType)).before args0 about1 = true := code_word (m := ⟨2, 18⟩) (meth := k2m18) (c := k2c18) (by decide +kernel) rfl rfl rfl (by decide +kernel)
set_option maxRecDepth 65536 in
theorem w_c8 : (Jvm.Cond.code ({ cls := "OccValidator", name := "read", desc := "(II)I" } : Jvm.MethodName) prog_1_method_3_code (4 : Nat) (Option.some Jvm.ClassFile.FieldType.int)).before args0 about1 = true := code_word (m := ⟨2, 2⟩) (meth := k2m2) (c := k2c2) (by decide +kernel) rfl rfl rfl (by decide +kernel)
set_option maxRecDepth 65536 in
theorem w_c9 : (Jvm.Cond.code ({ cls := "OccValidator", name := "isValidTx", desc := "(I)Z" } : Jvm.MethodName) prog_1_method_18_code (2 : Nat) (Option.some Jvm.ClassFile.FieldType.boolean)).before args0 about1 = true := code_word (m := ⟨2, 12⟩) (meth := k2m12) (c := k2c12) (by decide +kernel) rfl rfl rfl (by decide +kernel)
set_option maxRecDepth 65536 in
theorem w_c10 : (Jvm.Cond.code ({ cls := "OccValidator", name := "isValidKey", desc := "(I)Z" } : Jvm.MethodName) prog_1_method_19_code (2 : Nat) (Option.some Jvm.ClassFile.FieldType.boolean)).before args0 about1 = true := code_word (m := ⟨2, 13⟩) (meth := k2m13) (c := k2c13) (by decide +kernel) rfl rfl rfl (by decide +kernel)
set_option maxRecDepth 65536 in
theorem w_c11 : (Jvm.Cond.code ({ cls := "OccValidator", name := "bit", desc := "(I)I" } : Jvm.MethodName) prog_1_method_20_code (2 : Nat) (Option.some Jvm.ClassFile.FieldType.int)).before args0 about1 = true := code_word (m := ⟨2, 14⟩) (meth := k2m14) (c := k2c14) (by decide +kernel) rfl rfl rfl (by decide +kernel)
set_option maxRecDepth 65536 in
theorem w_c12 : (Jvm.Cond.code ({ cls := "OccValidator", name := "write", desc := "(III)I" } : Jvm.MethodName) prog_1_method_4_code (4 : Nat) (Option.some Jvm.ClassFile.FieldType.int)).before args0 about1 = true := code_word (m := ⟨2, 3⟩) (meth := k2m3) (c := k2c3) (by decide +kernel) rfl rfl rfl (by decide +kernel)
set_option maxRecDepth 65536 in
theorem w_c13 : (Jvm.Cond.code ({ cls := "OccValidator", name := "bufIndex", desc := "(II)I" } : Jvm.MethodName) prog_1_method_21_code (3 : Nat) (Option.some Jvm.ClassFile.FieldType.int)).before args0 about1 = true := code_word (m := ⟨2, 15⟩) (meth := k2m15) (c := k2c15) (by decide +kernel) rfl rfl rfl (by decide +kernel)
set_option maxRecDepth 65536 in
theorem w_c14 : (Jvm.Cond.code ({ cls := "OccValidator", name := "commit", desc := "(I)I" } : Jvm.MethodName) prog_1_method_5_code (3 : Nat) (Option.some Jvm.ClassFile.FieldType.int)).before args0 about1 = true := code_word (m := ⟨2, 4⟩) (meth := k2m4) (c := k2c4) (by decide +kernel) rfl rfl rfl (by decide +kernel)
set_option maxRecDepth 65536 in
theorem w_c15 : (Jvm.Cond.code ({ cls := "OccValidator", name := "isStale", desc := "(I)Z" } : Jvm.MethodName) prog_1_method_26_code (2 : Nat) (Option.some Jvm.ClassFile.FieldType.boolean)).before args0 about1 = true := code_word (m := ⟨2, 20⟩) (meth := k2m20) (c := k2c20) (by decide +kernel) rfl rfl rfl (by decide +kernel)
set_option maxRecDepth 65536 in
theorem w_c16 : (Jvm.Cond.code ({ cls := "OccValidator", name := "leastConflict", desc := "(I)I" } : Jvm.MethodName) prog_1_method_27_code (5 : Nat) (Option.some Jvm.ClassFile.FieldType.int)).before args0 about1 = true := code_word (m := ⟨2, 21⟩) (meth := k2m21) (c := k2c21) (by decide +kernel) rfl rfl rfl (by decide +kernel)
set_option maxRecDepth 65536 in
theorem w_c17 : (Jvm.Cond.code ({ cls := "OccValidator", name := "install", desc := "(I)I" } : Jvm.MethodName) prog_1_method_29_code (5 : Nat) (Option.some Jvm.ClassFile.FieldType.int)).before args0 about1 = true := code_word (m := ⟨2, 23⟩) (meth := k2m23) (c := k2c23) (by decide +kernel) rfl rfl rfl (by decide +kernel)
set_option maxRecDepth 65536 in
theorem w_c18 : (Jvm.Cond.code ({ cls := "OccValidator", name := "endTx", desc := "(I)V" } : Jvm.MethodName) prog_1_method_25_code (2 : Nat) (Option.none : Option Jvm.ClassFile.FieldType)).before args0 about1 = true := code_word (m := ⟨2, 19⟩) (meth := k2m19) (c := k2c19) (by decide +kernel) rfl rfl rfl (by decide +kernel)
set_option maxRecDepth 65536 in
theorem w_c19 : (Jvm.Cond.code ({ cls := "OccValidator", name := "failCommit", desc := "(III)I" } : Jvm.MethodName) prog_1_method_28_code (4 : Nat) (Option.some Jvm.ClassFile.FieldType.int)).before args0 about1 = true := code_word (m := ⟨2, 22⟩) (meth := k2m22) (c := k2c22) (by decide +kernel) rfl rfl rfl (by decide +kernel)
set_option maxRecDepth 65536 in
theorem w_c20 : (Jvm.Cond.code ({ cls := "OccValidator", name := "getCommitCount", desc := "()I" } : Jvm.MethodName) prog_1_method_9_code (1 : Nat) (Option.some Jvm.ClassFile.FieldType.int)).before args0 about1 = true := code_word (m := ⟨2, 7⟩) (meth := k2m7) (c := k2c7) (by decide +kernel) rfl rfl rfl (by decide +kernel)
set_option maxRecDepth 65536 in
theorem w_c21 : (Jvm.Cond.code ({ cls := "OccValidator", name := "getAbortCount", desc := "()I" } : Jvm.MethodName) prog_1_method_10_code (1 : Nat) (Option.some Jvm.ClassFile.FieldType.int)).before args0 about1 = true := code_word (m := ⟨2, 8⟩) (meth := k2m8) (c := k2c8) (by decide +kernel) rfl rfl rfl (by decide +kernel)
set_option maxRecDepth 65536 in
theorem w_c22 : (Jvm.Cond.code ({ cls := "OccValidator", name := "getLastConflictKey", desc := "()I" } : Jvm.MethodName) prog_1_method_11_code (1 : Nat) (Option.some Jvm.ClassFile.FieldType.int)).before args0 about1 = true := code_word (m := ⟨2, 9⟩) (meth := k2m9) (c := k2c9) (by decide +kernel) rfl rfl rfl (by decide +kernel)
set_option maxRecDepth 65536 in
theorem w_c23 : (Jvm.Cond.code ({ cls := "OccValidator", name := "isActive", desc := "(I)Z" } : Jvm.MethodName) prog_1_method_12_code (2 : Nat) (Option.some Jvm.ClassFile.FieldType.boolean)).before args0 about1 = true := code_word (m := ⟨2, 10⟩) (meth := k2m10) (c := k2c10) (by decide +kernel) rfl rfl rfl (by decide +kernel)
set_option maxRecDepth 65536 in
theorem w_c24 : (Jvm.Cond.code ({ cls := "OccValidator", name := "getValue", desc := "(I)I" } : Jvm.MethodName) prog_1_method_7_code (2 : Nat) (Option.some Jvm.ClassFile.FieldType.int)).before args0 about1 = true := code_word (m := ⟨2, 5⟩) (meth := k2m5) (c := k2c5) (by decide +kernel) rfl rfl rfl (by decide +kernel)
set_option maxRecDepth 65536 in
theorem w_c25 : (Jvm.Cond.code ({ cls := "OccValidator", name := "getVersion", desc := "(I)I" } : Jvm.MethodName) prog_1_method_8_code (2 : Nat) (Option.some Jvm.ClassFile.FieldType.int)).before args0 about1 = true := code_word (m := ⟨2, 6⟩) (meth := k2m6) (c := k2c6) (by decide +kernel) rfl rfl rfl (by decide +kernel)
def codes1 : List Jvm.Cond := [Jvm.Cond.code x code maxLocals ret, Jvm.Cond.code ({ cls := "OccValidator", name := "<init>", desc := "(III)V" } : Jvm.MethodName) prog_1_method_1_code (4 : Nat) (Option.none : Option Jvm.ClassFile.FieldType), Jvm.Cond.code ({ cls := "java/lang/Object", name := "<init>", desc := "()V" } : Jvm.MethodName) object_method_1_code (1 : Nat) (Option.none : Option Jvm.ClassFile.FieldType), Jvm.Cond.code ({ cls := "OccValidator", name := "clamp", desc := "(III)I" } : Jvm.MethodName) prog_1_method_17_code (4 : Nat) (Option.some Jvm.ClassFile.FieldType.int), Jvm.Cond.code ({ cls := "OccValidator", name := "begin", desc := "()I" } : Jvm.MethodName) prog_1_method_2_code (2 : Nat) (Option.some Jvm.ClassFile.FieldType.int), Jvm.Cond.code ({ cls := "OccValidator", name := "findFreeSlot", desc := "()I" } : Jvm.MethodName) prog_1_method_22_code (2 : Nat) (Option.some Jvm.ClassFile.FieldType.int), Jvm.Cond.code ({ cls := "OccValidator", name := "openSlot", desc := "(I)V" } : Jvm.MethodName) prog_1_method_23_code (2 : Nat) (Option.none : Option Jvm.ClassFile.FieldType), Jvm.Cond.code ({ cls := "OccValidator", name := "clearSlot", desc := "(I)V" } : Jvm.MethodName) prog_1_method_24_code (4 : Nat) (Option.none : Option Jvm.ClassFile.FieldType), Jvm.Cond.code ({ cls := "OccValidator", name := "read", desc := "(II)I" } : Jvm.MethodName) prog_1_method_3_code (4 : Nat) (Option.some Jvm.ClassFile.FieldType.int), Jvm.Cond.code ({ cls := "OccValidator", name := "isValidTx", desc := "(I)Z" } : Jvm.MethodName) prog_1_method_18_code (2 : Nat) (Option.some Jvm.ClassFile.FieldType.boolean), Jvm.Cond.code ({ cls := "OccValidator", name := "isValidKey", desc := "(I)Z" } : Jvm.MethodName) prog_1_method_19_code (2 : Nat) (Option.some Jvm.ClassFile.FieldType.boolean), Jvm.Cond.code ({ cls := "OccValidator", name := "bit", desc := "(I)I" } : Jvm.MethodName) prog_1_method_20_code (2 : Nat) (Option.some Jvm.ClassFile.FieldType.int), Jvm.Cond.code ({ cls := "OccValidator", name := "write", desc := "(III)I" } : Jvm.MethodName) prog_1_method_4_code (4 : Nat) (Option.some Jvm.ClassFile.FieldType.int), Jvm.Cond.code ({ cls := "OccValidator", name := "bufIndex", desc := "(II)I" } : Jvm.MethodName) prog_1_method_21_code (3 : Nat) (Option.some Jvm.ClassFile.FieldType.int), Jvm.Cond.code ({ cls := "OccValidator", name := "commit", desc := "(I)I" } : Jvm.MethodName) prog_1_method_5_code (3 : Nat) (Option.some Jvm.ClassFile.FieldType.int), Jvm.Cond.code ({ cls := "OccValidator", name := "isStale", desc := "(I)Z" } : Jvm.MethodName) prog_1_method_26_code (2 : Nat) (Option.some Jvm.ClassFile.FieldType.boolean), Jvm.Cond.code ({ cls := "OccValidator", name := "leastConflict", desc := "(I)I" } : Jvm.MethodName) prog_1_method_27_code (5 : Nat) (Option.some Jvm.ClassFile.FieldType.int), Jvm.Cond.code ({ cls := "OccValidator", name := "install", desc := "(I)I" } : Jvm.MethodName) prog_1_method_29_code (5 : Nat) (Option.some Jvm.ClassFile.FieldType.int), Jvm.Cond.code ({ cls := "OccValidator", name := "endTx", desc := "(I)V" } : Jvm.MethodName) prog_1_method_25_code (2 : Nat) (Option.none : Option Jvm.ClassFile.FieldType), Jvm.Cond.code ({ cls := "OccValidator", name := "failCommit", desc := "(III)I" } : Jvm.MethodName) prog_1_method_28_code (4 : Nat) (Option.some Jvm.ClassFile.FieldType.int), Jvm.Cond.code ({ cls := "OccValidator", name := "getCommitCount", desc := "()I" } : Jvm.MethodName) prog_1_method_9_code (1 : Nat) (Option.some Jvm.ClassFile.FieldType.int), Jvm.Cond.code ({ cls := "OccValidator", name := "getAbortCount", desc := "()I" } : Jvm.MethodName) prog_1_method_10_code (1 : Nat) (Option.some Jvm.ClassFile.FieldType.int), Jvm.Cond.code ({ cls := "OccValidator", name := "getLastConflictKey", desc := "()I" } : Jvm.MethodName) prog_1_method_11_code (1 : Nat) (Option.some Jvm.ClassFile.FieldType.int), Jvm.Cond.code ({ cls := "OccValidator", name := "isActive", desc := "(I)Z" } : Jvm.MethodName) prog_1_method_12_code (2 : Nat) (Option.some Jvm.ClassFile.FieldType.boolean), Jvm.Cond.code ({ cls := "OccValidator", name := "getValue", desc := "(I)I" } : Jvm.MethodName) prog_1_method_7_code (2 : Nat) (Option.some Jvm.ClassFile.FieldType.int), Jvm.Cond.code ({ cls := "OccValidator", name := "getVersion", desc := "(I)I" } : Jvm.MethodName) prog_1_method_8_code (2 : Nat) (Option.some Jvm.ClassFile.FieldType.int)]
set_option maxRecDepth 65536 in
theorem codes_eq : words1.filter isCode = codes1 := rfl
theorem w_codes : ∀ c ∈ words1.filter isCode, c.before args0 about1 = true := by
  rw [codes_eq]
  intro c hc
  simp only [codes1, List.mem_cons, List.not_mem_nil, or_false] at hc
  rcases hc with rfl | rfl | rfl | rfl | rfl | rfl | rfl | rfl | rfl | rfl | rfl | rfl | rfl | rfl | rfl | rfl | rfl | rfl | rfl | rfl | rfl | rfl | rfl | rfl | rfl | rfl
  · exact w_c0
  · exact w_c1
  · exact w_c2
  · exact w_c3
  · exact w_c4
  · exact w_c5
  · exact w_c6
  · exact w_c7
  · exact w_c8
  · exact w_c9
  · exact w_c10
  · exact w_c11
  · exact w_c12
  · exact w_c13
  · exact w_c14
  · exact w_c15
  · exact w_c16
  · exact w_c17
  · exact w_c18
  · exact w_c19
  · exact w_c20
  · exact w_c21
  · exact w_c22
  · exact w_c23
  · exact w_c24
  · exact w_c25
set_option maxRecDepth 65536 in
theorem w_t1 : (words1.take 24).all (fun c => isCode c || c.before args0 about1) = true := by decide +kernel
set_option maxRecDepth 65536 in
theorem w_t2 : ((words1.drop 24).take 24).all (fun c => isCode c || c.before args0 about1) = true := by decide +kernel
set_option maxRecDepth 65536 in
theorem w_t3 : (((words1.drop 24).drop 24).take 24).all (fun c => isCode c || c.before args0 about1) = true := by decide +kernel
set_option maxRecDepth 65536 in
theorem w_t4 : ((((words1.drop 24).drop 24).drop 24).take 24).all (fun c => isCode c || c.before args0 about1) = true := by decide +kernel
set_option maxRecDepth 65536 in
theorem w_t5 : (((((words1.drop 24).drop 24).drop 24).drop 24).take 24).all (fun c => isCode c || c.before args0 about1) = true := by decide +kernel
set_option maxRecDepth 65536 in
theorem w_t6 : (((((words1.drop 24).drop 24).drop 24).drop 24).drop 24).all (fun c => isCode c || c.before args0 about1) = true := by decide +kernel
theorem w_tables : (allAtoms (Jvm.Cond.code x code maxLocals ret :: tables_1)).before args0 about1 = true := by
  rw [allAtoms_all]
  show words1.all (fun c => c.before args0 about1) = true
  refine all_split ?_ w_codes
  rw [← List.take_append_drop 24 words1, List.all_append, w_t1, ← List.take_append_drop 24 (words1.drop 24), List.all_append, w_t2, ← List.take_append_drop 24 ((words1.drop 24).drop 24), List.all_append, w_t3, ← List.take_append_drop 24 (((words1.drop 24).drop 24).drop 24), List.all_append, w_t4, ← List.take_append_drop 24 ((((words1.drop 24).drop 24).drop 24).drop 24), List.all_append, w_t5, w_t6]
  rfl
set_option maxRecDepth 65536 in
theorem w_case : (Jvm.Cond.and given_1 narrow_1).before args0 about1 = true := by decide +kernel
theorem w_applies : (headSpec (Jvm.Cond.code x code maxLocals ret :: tables_1) room_1).applies x e0.platform about1 = true :=
  (Spec.applies_iff w_frames).mpr ⟨w_running, w_runnable, w_alone, w_named, w_hears, w_ripe, w_room, w_tables⟩
theorem atStart : AtStart classFile x code maxLocals ret World_1 tables_1 room_1 Calls_1 rest_1 Pre_1 launch0 p0 e0 about1 theMethod args0 below0 :=
  ⟨lists_1, trivial, launch0.admits_env _ _ _, launch0.least_env, fairChoices_fair.cas, fairChoices_fair.clock, w_frames, w_args, w_heap, w_applies, trivial, trivial, w_case⟩
end start1
theorem witness_1 : WitnessClaimed_1 := ⟨start1.p0, start1.e0, start1.about1, start1.theMethod, start1.args0, start1.below0, start1.atStart⟩
end Jvm.Pilot.@@N@@
