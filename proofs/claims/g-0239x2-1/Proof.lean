import JvmDerived
import JvmDerived.Pilot.@@N@@Statement
import JvmDerived.Pilot.@@N@@Code
set_option linter.unusedVariables false
set_option linter.unusedSimpArgs false
set_option maxRecDepth 4096
namespace Jvm.RoadKit
open Sem ClassFile Op Lib Jvm.Stand Jvm.Free Jvm.LawKit
section New
variable {p : Program} {l : Launch} {e : Env} {R : Room} {s : State} {m : MethodId} {args : Array Value} {below : List Frame} {meth : Method} {c : Code} {T : State} {locs : List Loc} {cells slots : Nat}
theorem retI (X : Stand p l e R s m args below meth c T locs cells slots) (hx : p.tables.exec = Jvm.exec) {pc : Nat} {Ls : Array Slot} {z : Int32} {rest : List Value} (hret : meth.sig.returnType = some .int) (hd : decode c.code pc = .ok (.ireturn, 1)) {fs : List Frame}
    (hl : ∀ (f : JFrame) (acts : List Action), f.method = m → f.locked = none → f.entered = [] → (doReturn e (T.setTop f) acts (some (.int z))).1 = T.setFrames fs) : Steps p.tables e below (T.setTop (mkF m pc Ls (.int z :: rest))) (T.setFrames fs) := by
  have hm' : T.vm.method? m = some meth := X.method'
  have hn : narrow .int (.int z) = .int z := rfl
  show Steps p.tables e below (T.setTop { method := m, pc := pc, locals := Ls, stack := _ :: rest, locked := none }) _
  jvm_step X.here [X.here.top, hx, hd, hm', hret, hn]
  first | (intro acts; rw [hl _ acts rfl rfl rfl]) | rw [hl _ _ rfl rfl rfl]
  exact Steps.refl _
theorem retL (X : Stand p l e R s m args below meth c T locs cells slots) (hx : p.tables.exec = Jvm.exec) {pc : Nat} {Ls : Array Slot} {z : Int64} {rest : List Value} (hret : meth.sig.returnType = some .long) (hd : decode c.code pc = .ok (.lreturn, 1)) {fs : List Frame}
    (hl : ∀ (f : JFrame) (acts : List Action), f.method = m → f.locked = none → f.entered = [] → (doReturn e (T.setTop f) acts (some (.long z))).1 = T.setFrames fs) : Steps p.tables e below (T.setTop (mkF m pc Ls (.long z :: rest))) (T.setFrames fs) := by
  have hm' : T.vm.method? m = some meth := X.method'
  have hn : narrow .long (.long z) = .long z := rfl
  show Steps p.tables e below (T.setTop { method := m, pc := pc, locals := Ls, stack := _ :: rest, locked := none }) _
  jvm_step X.here [X.here.top, hx, hd, hm', hret, hn]
  first | (intro acts; rw [hl _ acts rfl rfl rfl]) | rw [hl _ _ rfl rfl rfl]
  exact Steps.refl _
theorem retV (X : Stand p l e R s m args below meth c T locs cells slots) (hx : p.tables.exec = Jvm.exec) {pc : Nat} {Ls : Array Slot} {S : List Value} (hret : meth.sig.returnType = none) (hd : decode c.code pc = .ok (.return_, 1)) {fs : List Frame}
    (hl : ∀ (f : JFrame) (acts : List Action), f.method = m → f.locked = none → f.entered = [] → (doReturn e (T.setTop f) acts none).1 = T.setFrames fs) : Steps p.tables e below (T.setTop (mkF m pc Ls S)) (T.setFrames fs) := by
  have hm' : T.vm.method? m = some meth := X.method'
  show Steps p.tables e below (T.setTop { method := m, pc := pc, locals := Ls, stack := S, locked := none }) _
  jvm_step X.here [X.here.top, hx, hd, hm', hret]
  first | (intro acts; rw [hl _ acts rfl rfl rfl]) | rw [hl _ _ rfl rfl rfl]
  exact Steps.refl _
/-- an invokevirtual of a private method whose class is named by an 'instantiable' word -/
theorem privBack (X : Stand p l e R s m args below meth c T locs cells slots) (hexec : p.tables.exec = Jvm.exec) {own : String} {index kk : Nat} {y : MethodName} {bytes : ByteArray} {maxL : Nat} {ret : Option FieldType}
    (hown : s.vm.findClass own = some m.cls) (hlink : (Cond.methodLink own index y).before args s = true) (hinst : (Cond.instanceMethod y).before args s = true) (hni : (Cond.instantiable y.cls kk).before args s = true)
    (hpriv : s.PrivateAt y) (hcode : (Cond.code y bytes maxL ret).before args s = true) (hy : y.cls ≠ "java/lang/invoke/MethodHandle" ∧ y.cls ≠ "java/lang/invoke/VarHandle")
    {W : Nat} {Pre : Free.Pt → Array Value → Prop} {Post : Free.Pt → Array Value → Option Value → Free.Pt → Prop} (hK : Free.Back l R p e below s args y 3 W Pre Post)
    {g : JFrame} (hg : g.method = m) (hsize : g.locals.size = c.maxLocals) {a : Addr} {cell : Cell} (hcell : T.heap[a]? = some cell) (hobj : ∀ q, cell.vm ≠ .statics q)
    {argsL rest : List Value} (hlen : ∀ sig, parseMethodDescriptor y.desc = some sig → argsL.length = sig.parameters.length)
    (hstack : g.stack = argsL.reverse ++ .ref a :: rest) (hW : 2 * g.monitorRoom + (rest.map fun v => v.category).sum ≤ W) (hdg : decode c.code g.pc = .ok (.invokevirtual index, 3))
    (hpre : ∀ vm₁, s.WarmedH vm₁ → Pre ⟨T.setVm vm₁, locs, cells, slots⟩ (.ref a :: argsL).toArray) :
    ∃ (v : Option Value) (vm₁ : Vm) (B : Free.Pt), s.WarmedH vm₁ ∧ Stand p l e R s m args below meth c B.U B.locs B.cells B.slots ∧ Post ⟨T.setVm vm₁, locs, cells, slots⟩ (.ref a :: argsL).toArray v B ∧
      ∀ target, Steps p.tables e below (B.U.setTop { g with pc := g.pc + 3, stack := v.toList ++ rest }) target → Steps p.tables e below (T.setTop g) target := by
  obtain ⟨mk, methM, hnamed, hmethM, hstM, habM⟩ := Cond.instanceMethod_spec hinst
  obtain ⟨methM', cM, hmethM', -, -, -, -, -, -, hsigM⟩ := Cond.code_spec hnamed hcode
  cases hmethM.symm.trans hmethM'
  obtain ⟨c2, kP, q1, hkP, -, q3, -⟩ := Cond.instantiable_spec hni
  cases (findClass_of_methodNamed hnamed).symm.trans q1
  have hkPi : kP.isInterface = false := by
    simp only [Bool.or_eq_false_iff] at q3; exact q3.1
  have hselP : selectMethod e.platform s.vm cell.cls mk = .method mk := selectMethod_private hmethM (hpriv mk methM hnamed hmethM)
  obtain ⟨vm₁, X₁, hstep₁⟩ := X.invokevirtual hexec hown hlink hnamed hmethM hstM hkP hkPi hy (a := a) (cell := cell) hcell hobj hselP hmethM habM hkP hkPi (g := g) hg (argsL := argsL) (rest := rest) (hlen _ hsigM) hstack hdg
  obtain ⟨v, B, X', hpost, hsteps⟩ := hK m meth c ⟨T.setVm vm₁, locs, cells, slots⟩ { g with stack := rest } (.invokevirtual index) mk (Value.ref a :: argsL).toArray X₁ hg hsize hdg hW (X₁.named hnamed) (hpre vm₁ X₁.warmed)
  exact ⟨v, vm₁, B, X₁.warmed, X', hpost, fun target h => hstep₁ _ fun acts => by rw [doInvoke_state]; exact hsteps.trans h⟩
end New
end Jvm.RoadKit
namespace Jvm.Pilot.@@N@@
open Jvm Jvm.ClassFile Sem Op Lib Jvm.Free Jvm.Stand Jvm.LawKit Jvm.RoadKit Bundle Jvm.Pilot.@@N@@.Jvm.D
/-! ## tables of the claim, printed by B_gen.py out of made/ -/
def t_C : String := "MinVersionSelect"
def t_flds : List (String × String × FieldType) := [("modCount", "I", .int), ("verCount", "I", .int), ("queueHead", "I", .int), ("queueTail", "I", .int), ("buildFailed", "Z", .boolean), ("listedFlag", "[Z", (.array .boolean)), ("excludedFlag", "[Z", (.array .boolean)), ("replTo", "[I", (.array .int)), ("reqTo", "[I", (.array .int)), ("mainTo", "[I", (.array .int)), ("rootOf", "[I", (.array .int)), ("selOf", "[I", (.array .int)), ("inBuild", "[Z", (.array .boolean)), ("queueMod", "[I", (.array .int)), ("queueVer", "[I", (.array .int)), ("savedSel", "[I", (.array .int)), ("keepRoot", "[Z", (.array .boolean)), ("nextMain", "[I", (.array .int))]
def t_arrs : List (FieldType × Nat) := [(.boolean, 81), (.boolean, 81), (.int, 81), (.int, 729), (.int, 9), (.int, 9), (.int, 9), (.boolean, 81), (.int, 81), (.int, 81), (.int, 9), (.boolean, 9), (.int, 9)]
def t_ns : Nat := 18
def t_full : Nat := 14
def t_sc : Bool := true
def t_n : Nat := 50
def t_nm : Nat → MethodName
  | 0 => x
  | 1 => ⟨"MinVersionSelect", "<init>", "(II)V"⟩
  | 2 => ⟨"MinVersionSelect", "clampModules", "(I)I"⟩
  | 3 => ⟨"MinVersionSelect", "clampVersions", "(I)I"⟩
  | 4 => ⟨"MinVersionSelect", "modInRange", "(I)Z"⟩
  | 5 => ⟨"MinVersionSelect", "verInRange", "(I)Z"⟩
  | 6 => ⟨"MinVersionSelect", "verOrNone", "(I)Z"⟩
  | 7 => ⟨"MinVersionSelect", "pairInRange", "(II)Z"⟩
  | 8 => ⟨"MinVersionSelect", "slot", "(II)I"⟩
  | 9 => ⟨"MinVersionSelect", "reqSlot", "(III)I"⟩
  | 10 => ⟨"MinVersionSelect", "isListed", "(II)Z"⟩
  | 11 => ⟨"MinVersionSelect", "isExcluded", "(II)Z"⟩
  | 12 => ⟨"MinVersionSelect", "usableVersion", "(II)Z"⟩
  | 13 => ⟨"MinVersionSelect", "requireArgsOk", "(IIII)Z"⟩
  | 14 => ⟨"MinVersionSelect", "listVersion", "(II)I"⟩
  | 15 => ⟨"MinVersionSelect", "require", "(IIII)I"⟩
  | 16 => ⟨"MinVersionSelect", "requireMain", "(II)I"⟩
  | 17 => ⟨"MinVersionSelect", "exclude", "(III)I"⟩
  | 18 => ⟨"MinVersionSelect", "replace", "(III)I"⟩
  | 19 => ⟨"MinVersionSelect", "buildStatus", "()I"⟩
  | 20 => ⟨"MinVersionSelect", "selected", "(I)I"⟩
  | 21 => ⟨"MinVersionSelect", "buildSize", "()I"⟩
  | 22 => ⟨"MinVersionSelect", "mainRequirement", "(I)I"⟩
  | 23 => ⟨"MinVersionSelect", "requirementOf", "(III)I"⟩
  | 24 => ⟨"MinVersionSelect", "versionFlags", "(II)I"⟩
  | 25 => ⟨"MinVersionSelect", "replacementOf", "(II)I"⟩
  | 26 => ⟨"MinVersionSelect", "upgrade", "(II)I"⟩
  | 27 => ⟨"MinVersionSelect", "downgrade", "(II)I"⟩
  | 28 => ⟨"MinVersionSelect", "computeDowngradedMain", "(II)V"⟩
  | 29 => ⟨"MinVersionSelect", "bestAllowed", "(IIII)I"⟩
  | 30 => ⟨"MinVersionSelect", "isAllowed", "(IIII)Z"⟩
  | 31 => ⟨"MinVersionSelect", "copyNextMain", "()V"⟩
  | 32 => ⟨"MinVersionSelect", "prune", "()I"⟩
  | 33 => ⟨"MinVersionSelect", "saveSelection", "()V"⟩
  | 34 => ⟨"MinVersionSelect", "loadRootsWithout", "(I)V"⟩
  | 35 => ⟨"MinVersionSelect", "sameAsSaved", "()Z"⟩
  | 36 => ⟨"MinVersionSelect", "storePrunedMain", "()I"⟩
  | 37 => ⟨"MinVersionSelect", "loadMainRoots", "()V"⟩
  | 38 => ⟨"MinVersionSelect", "loadSingleRoot", "(II)V"⟩
  | 39 => ⟨"MinVersionSelect", "buildCurrent", "()Z"⟩
  | 40 => ⟨"MinVersionSelect", "countSelected", "()I"⟩
  | 41 => ⟨"MinVersionSelect", "runBuild", "()Z"⟩
  | 42 => ⟨"MinVersionSelect", "resetBuild", "()V"⟩
  | 43 => ⟨"MinVersionSelect", "drainQueue", "()V"⟩
  | 44 => ⟨"MinVersionSelect", "expandNode", "(II)V"⟩
  | 45 => ⟨"MinVersionSelect", "addNode", "(II)V"⟩
  | 46 => ⟨"MinVersionSelect", "adjust", "(II)I"⟩
  | 47 => ⟨"MinVersionSelect", "computeSelection", "()V"⟩
  | 48 => ⟨"MinVersionSelectOwnLaw", "cell", "([II)I"⟩
  | 49 => ⟨"MinVersionSelectOwnLaw", "pos", "(II)I"⟩
  | _ => ⟨"", "", ""⟩
def t_bytes : Nat → ByteArray
  | 0 => code
  | 1 => prog_1_method_1_code
  | 2 => prog_1_method_2_code
  | 3 => prog_1_method_3_code
  | 4 => prog_1_method_4_code
  | 5 => prog_1_method_5_code
  | 6 => prog_1_method_6_code
  | 7 => prog_1_method_7_code
  | 8 => prog_1_method_8_code
  | 9 => prog_1_method_9_code
  | 10 => prog_1_method_10_code
  | 11 => prog_1_method_11_code
  | 12 => prog_1_method_12_code
  | 13 => prog_1_method_13_code
  | 14 => prog_1_method_14_code
  | 15 => prog_1_method_15_code
  | 16 => prog_1_method_16_code
  | 17 => prog_1_method_17_code
  | 18 => prog_1_method_18_code
  | 19 => prog_1_method_19_code
  | 20 => prog_1_method_20_code
  | 21 => prog_1_method_21_code
  | 22 => prog_1_method_23_code
  | 23 => prog_1_method_24_code
  | 24 => prog_1_method_25_code
  | 25 => prog_1_method_26_code
  | 26 => prog_1_method_27_code
  | 27 => prog_1_method_28_code
  | 28 => prog_1_method_29_code
  | 29 => prog_1_method_30_code
  | 30 => prog_1_method_31_code
  | 31 => prog_1_method_32_code
  | 32 => prog_1_method_33_code
  | 33 => prog_1_method_34_code
  | 34 => prog_1_method_35_code
  | 35 => prog_1_method_36_code
  | 36 => prog_1_method_37_code
  | 37 => prog_1_method_38_code
  | 38 => prog_1_method_39_code
  | 39 => prog_1_method_40_code
  | 40 => prog_1_method_41_code
  | 41 => prog_1_method_42_code
  | 42 => prog_1_method_43_code
  | 43 => prog_1_method_44_code
  | 44 => prog_1_method_45_code
  | 45 => prog_1_method_46_code
  | 46 => prog_1_method_47_code
  | 47 => prog_1_method_48_code
  | 48 => method_2_code
  | 49 => method_3_code
  | _ => code
def t_ml : Nat → Nat
  | 0 => maxLocals
  | 1 => 3
  | 2 => 2
  | 3 => 2
  | 4 => 2
  | 5 => 2
  | 6 => 2
  | 7 => 3
  | 8 => 3
  | 9 => 4
  | 10 => 3
  | 11 => 3
  | 12 => 3
  | 13 => 5
  | 14 => 4
  | 15 => 5
  | 16 => 3
  | 17 => 5
  | 18 => 5
  | 19 => 1
  | 20 => 2
  | 21 => 1
  | 22 => 2
  | 23 => 4
  | 24 => 5
  | 25 => 3
  | 26 => 4
  | 27 => 3
  | 28 => 5
  | 29 => 7
  | 30 => 5
  | 31 => 2
  | 32 => 2
  | 33 => 2
  | 34 => 3
  | 35 => 2
  | 36 => 3
  | 37 => 2
  | 38 => 4
  | 39 => 1
  | 40 => 3
  | 41 => 2
  | 42 => 2
  | 43 => 4
  | 44 => 6
  | 45 => 5
  | 46 => 5
  | 47 => 4
  | 48 => 2
  | 49 => 3
  | _ => 0
def t_rt : Nat → Option FieldType
  | 0 => ret
  | 1 => none
  | 2 => some .int
  | 3 => some .int
  | 4 => some .boolean
  | 5 => some .boolean
  | 6 => some .boolean
  | 7 => some .boolean
  | 8 => some .int
  | 9 => some .int
  | 10 => some .boolean
  | 11 => some .boolean
  | 12 => some .boolean
  | 13 => some .boolean
  | 14 => some .int
  | 15 => some .int
  | 16 => some .int
  | 17 => some .int
  | 18 => some .int
  | 19 => some .int
  | 20 => some .int
  | 21 => some .int
  | 22 => some .int
  | 23 => some .int
  | 24 => some .int
  | 25 => some .int
  | 26 => some .int
  | 27 => some .int
  | 28 => none
  | 29 => some .int
  | 30 => some .boolean
  | 31 => none
  | 32 => some .int
  | 33 => none
  | 34 => none
  | 35 => some .boolean
  | 36 => some .int
  | 37 => none
  | 38 => none
  | 39 => some .boolean
  | 40 => some .int
  | 41 => some .boolean
  | 42 => none
  | 43 => none
  | 44 => none
  | 45 => none
  | 46 => some .int
  | 47 => none
  | 48 => some .int
  | 49 => some .int
  | _ => none
def t_np : Nat → Nat
  | 0 => 1
  | 1 => 3
  | 2 => 2
  | 3 => 2
  | 4 => 2
  | 5 => 2
  | 6 => 2
  | 7 => 3
  | 8 => 3
  | 9 => 4
  | 10 => 3
  | 11 => 3
  | 12 => 3
  | 13 => 5
  | 14 => 3
  | 15 => 5
  | 16 => 3
  | 17 => 4
  | 18 => 4
  | 19 => 1
  | 20 => 2
  | 21 => 1
  | 22 => 2
  | 23 => 4
  | 24 => 3
  | 25 => 3
  | 26 => 3
  | 27 => 3
  | 28 => 3
  | 29 => 5
  | 30 => 5
  | 31 => 1
  | 32 => 1
  | 33 => 1
  | 34 => 2
  | 35 => 1
  | 36 => 1
  | 37 => 1
  | 38 => 3
  | 39 => 1
  | 40 => 1
  | 41 => 1
  | 42 => 1
  | 43 => 1
  | 44 => 3
  | 45 => 3
  | 46 => 3
  | 47 => 1
  | 48 => 2
  | 49 => 2
  | _ => 0
def t_mode : Nat → Nat
  | 0 => 2
  | 1 => 1
  | 2 => 0
  | 3 => 0
  | 4 => 0
  | 5 => 0
  | 6 => 0
  | 7 => 0
  | 8 => 0
  | 9 => 0
  | 10 => 0
  | 11 => 0
  | 12 => 0
  | 13 => 0
  | 14 => 0
  | 15 => 0
  | 16 => 0
  | 17 => 0
  | 18 => 0
  | 19 => 0
  | 20 => 0
  | 21 => 0
  | 22 => 0
  | 23 => 0
  | 24 => 0
  | 25 => 0
  | 26 => 0
  | 27 => 0
  | 28 => 0
  | 29 => 0
  | 30 => 0
  | 31 => 0
  | 32 => 0
  | 33 => 0
  | 34 => 0
  | 35 => 0
  | 36 => 0
  | 37 => 0
  | 38 => 0
  | 39 => 0
  | 40 => 0
  | 41 => 0
  | 42 => 0
  | 43 => 0
  | 44 => 0
  | 45 => 0
  | 46 => 0
  | 47 => 0
  | 48 => 0
  | 49 => 0
  | _ => 0
def t_rm : Nat → Room
  | 0 => room_1
  | 1 => { frames := 1, cells := 13, slots := 1269, locals := 14 }
  | 2 => { frames := 0, cells := 0, slots := 0, locals := 0 }
  | 3 => { frames := 0, cells := 0, slots := 0, locals := 0 }
  | 4 => { frames := 0, cells := 0, slots := 0, locals := 0 }
  | 5 => { frames := 0, cells := 0, slots := 0, locals := 0 }
  | 6 => { frames := 0, cells := 0, slots := 0, locals := 0 }
  | 7 => { frames := 1, cells := 0, slots := 0, locals := 13 }
  | 8 => { frames := 0, cells := 0, slots := 0, locals := 0 }
  | 9 => { frames := 0, cells := 0, slots := 0, locals := 0 }
  | 10 => { frames := 2, cells := 0, slots := 0, locals := 27 }
  | 11 => { frames := 2, cells := 0, slots := 0, locals := 27 }
  | 12 => { frames := 3, cells := 0, slots := 0, locals := 41 }
  | 13 => { frames := 2, cells := 0, slots := 0, locals := 27 }
  | 14 => { frames := 2, cells := 0, slots := 0, locals := 27 }
  | 15 => { frames := 3, cells := 0, slots := 0, locals := 43 }
  | 16 => { frames := 3, cells := 0, slots := 0, locals := 41 }
  | 17 => { frames := 2, cells := 0, slots := 0, locals := 27 }
  | 18 => { frames := 3, cells := 0, slots := 0, locals := 41 }
  | 19 => { frames := 8, cells := 0, slots := 0, locals := 116 }
  | 20 => { frames := 8, cells := 0, slots := 0, locals := 116 }
  | 21 => { frames := 8, cells := 0, slots := 0, locals := 116 }
  | 22 => { frames := 1, cells := 0, slots := 0, locals := 13 }
  | 23 => { frames := 2, cells := 0, slots := 0, locals := 27 }
  | 24 => { frames := 2, cells := 0, slots := 0, locals := 27 }
  | 25 => { frames := 2, cells := 0, slots := 0, locals := 27 }
  | 26 => { frames := 8, cells := 0, slots := 0, locals := 116 }
  | 27 => { frames := 10, cells := 0, slots := 0, locals := 156 }
  | 28 => { frames := 9, cells := 0, slots := 0, locals := 140 }
  | 29 => { frames := 8, cells := 0, slots := 0, locals := 120 }
  | 30 => { frames := 7, cells := 0, slots := 0, locals := 104 }
  | 31 => { frames := 0, cells := 0, slots := 0, locals := 0 }
  | 32 => { frames := 8, cells := 0, slots := 0, locals := 116 }
  | 33 => { frames := 0, cells := 0, slots := 0, locals := 0 }
  | 34 => { frames := 0, cells := 0, slots := 0, locals := 0 }
  | 35 => { frames := 0, cells := 0, slots := 0, locals := 0 }
  | 36 => { frames := 0, cells := 0, slots := 0, locals := 0 }
  | 37 => { frames := 0, cells := 0, slots := 0, locals := 0 }
  | 38 => { frames := 1, cells := 0, slots := 0, locals := 13 }
  | 39 => { frames := 7, cells := 0, slots := 0, locals := 104 }
  | 40 => { frames := 0, cells := 0, slots := 0, locals := 0 }
  | 41 => { frames := 6, cells := 0, slots := 0, locals := 91 }
  | 42 => { frames := 0, cells := 0, slots := 0, locals := 0 }
  | 43 => { frames := 5, cells := 0, slots := 0, locals := 76 }
  | 44 => { frames := 4, cells := 0, slots := 0, locals := 59 }
  | 45 => { frames := 3, cells := 0, slots := 0, locals := 43 }
  | 46 => { frames := 2, cells := 0, slots := 0, locals := 27 }
  | 47 => { frames := 1, cells := 0, slots := 0, locals := 15 }
  | 48 => { frames := 0, cells := 0, slots := 0, locals := 0 }
  | 49 => { frames := 0, cells := 0, slots := 0, locals := 0 }
  | _ => {}
def pmLk {α : Type} : List (Nat × α) → Nat → Option α
  | [], _ => none
  | (a, b) :: r, i => bif Nat.beq a i then some b else pmLk r i
theorem pmLk_mem {α : Type} {l : List (Nat × α)} {i : Nat} {b : α} (h : pmLk l i = some b) : (i, b) ∈ l := by
  induction l with
  | nil => cases h
  | cons q r ih =>
    obtain ⟨a, c⟩ := q
    simp only [pmLk] at h
    cases e : Nat.beq a i with
    | true => rw [e] at h; cases h; rw [Nat.eq_of_beq_eq_true e]; exact List.mem_cons_self ..
    | false => rw [e] at h; exact List.mem_cons_of_mem _ (ih h)
def t_isC : Nat → Bool
  | 0 => false
  | 1 => true
  | 2 => true
  | 3 => true
  | 4 => true
  | 5 => true
  | 6 => true
  | 7 => true
  | 8 => true
  | 9 => true
  | 10 => true
  | 11 => true
  | 12 => true
  | 13 => true
  | 14 => true
  | 15 => true
  | 16 => true
  | 17 => true
  | 18 => true
  | 19 => true
  | 20 => true
  | 21 => true
  | 22 => true
  | 23 => true
  | 24 => true
  | 25 => true
  | 26 => true
  | 27 => true
  | 28 => true
  | 29 => true
  | 30 => true
  | 31 => true
  | 32 => true
  | 33 => true
  | 34 => true
  | 35 => true
  | 36 => true
  | 37 => true
  | 38 => true
  | 39 => true
  | 40 => true
  | 41 => true
  | 42 => true
  | 43 => true
  | 44 => true
  | 45 => true
  | 46 => true
  | 47 => true
  | 48 => false
  | 49 => false
  | _ => false
def t_fls : List (Nat × Nat) := [(7, 5), (13, 6), (16, 7), (20, 8), (23, 9), (26, 10), (29, 11), (32, 12), (35, 13), (38, 14), (41, 15), (44, 16), (47, 17), (54, 0), (61, 1), (159, 2), (162, 3), (149, 4)]
def t_fl (k j : Nat) : Option Nat := match t_isC k with | true => pmLk t_fls j | false => none
def t_mkC : List (Nat × Nat × Nat) := [(1, 4, 0), (50, 2, 2), (58, 2, 3), (71, 2, 7), (64, 2, 4), (68, 2, 5), (84, 2, 8), (96, 2, 39), (140, 2, 37), (108, 2, 41), (143, 2, 42), (153, 2, 43), (156, 2, 47), (81, 2, 6), (88, 2, 13), (75, 2, 10), (92, 2, 9), (146, 2, 45), (168, 2, 46), (165, 2, 44), (100, 2, 40), (127, 2, 33), (137, 2, 36), (78, 2, 11), (111, 2, 28), (117, 2, 29), (114, 2, 31), (130, 2, 34), (134, 2, 35), (121, 2, 30), (124, 2, 12), (104, 2, 38)]
def t_mkL : List (Nat × Nat × Nat) := [(7, 0, 48), (13, 0, 49), (19, 3, 1), (22, 1, 14), (42, 1, 19), (59, 1, 22), (46, 1, 20), (29, 1, 16), (25, 1, 15), (62, 1, 24), (65, 1, 25), (68, 1, 23), (53, 1, 21), (56, 1, 32), (39, 1, 26), (32, 1, 17), (50, 1, 27), (36, 1, 18)]
def t_mk (k j : Nat) : Option (Nat × Nat) := match t_isC k with | true => pmLk t_mkC j | false => pmLk t_mkL j
def t_new (k j : Nat) : Bool := Nat.beq k 0 && Nat.beq j 17
def t_ldcs : List (Nat × Int32) := []
def t_ldc2s : List (Nat × Int64) := []
def t_ldc (k j : Nat) : Option Int32 := match t_isC k with | true => none | false => pmLk t_ldcs j
def t_ldc2 (k j : Nat) : Option Int64 := match t_isC k with | true => none | false => pmLk t_ldc2s j
/-- law -/
def t_ins_0 (pc : Nat) : Option (Instr × Nat × Nat) := bif Nat.blt pc 816 then (bif Nat.blt pc 393 then (bif Nat.blt pc 184 then (bif Nat.blt pc 87 then (bif Nat.blt pc 41 then (bif Nat.blt pc 19 then (bif Nat.blt pc 10 then (bif Nat.blt pc 3 then (bif Nat.blt pc 1 then (bif Nat.beq pc 0 then some (.iconst 3, 1, 0) else none) else (bif Nat.blt pc 2 then (bif Nat.beq pc 1 then some (.aload_n 0, 2, 0) else none) else (bif Nat.beq pc 2 then some (.iconst 0, 3, 0) else none))) else (bif Nat.blt pc 6 then (bif Nat.beq pc 3 then some (.invokestatic 7, 6, 0) else none) else (bif Nat.blt pc 7 then (bif Nat.beq pc 6 then some (.iconst 4, 7, 0) else none) else (bif Nat.beq pc 7 then some (.invokestatic 13, 10, 0) else none)))) else (bif Nat.blt pc 13 then (bif Nat.blt pc 11 then (bif Nat.beq pc 10 then some (.iadd, 11, 0) else none) else (bif Nat.blt pc 12 then (bif Nat.beq pc 11 then some (.istore_n 1, 12, 0) else none) else (bif Nat.beq pc 12 then some (.iconst 2, 13, 0) else none))) else (bif Nat.blt pc 15 then (bif Nat.blt pc 14 then (bif Nat.beq pc 13 then some (.aload_n 0, 14, 0) else none) else (bif Nat.beq pc 14 then some (.iconst 1, 15, 0) else none)) else (bif Nat.blt pc 18 then (bif Nat.beq pc 15 then some (.invokestatic 7, 18, 0) else none) else (bif Nat.beq pc 18 then some (.iconst 5, 19, 0) else none))))) else (bif Nat.blt pc 29 then (bif Nat.blt pc 24 then (bif Nat.blt pc 22 then (bif Nat.beq pc 19 then some (.invokestatic 13, 22, 0) else none) else (bif Nat.blt pc 23 then (bif Nat.beq pc 22 then some (.iadd, 23, 0) else none) else (bif Nat.beq pc 23 then some (.istore_n 2, 24, 0) else none))) else (bif Nat.blt pc 27 then (bif Nat.beq pc 24 then some (.new 17, 27, 0) else none) else (bif Nat.blt pc 28 then (bif Nat.beq pc 27 then some (.dup, 28, 0) else none) else (bif Nat.beq pc 28 then some (.iload_n 1, 29, 0) else none)))) else (bif Nat.blt pc 34 then (bif Nat.blt pc 30 then (bif Nat.beq pc 29 then some (.iload_n 2, 30, 0) else none) else (bif Nat.blt pc 33 then (bif Nat.beq pc 30 then some (.invokespecial 19, 33, 0) else none) else (bif Nat.beq pc 33 then some (.astore_n 3, 34, 0) else none))) else (bif Nat.blt pc 36 then (bif Nat.blt pc 35 then (bif Nat.beq pc 34 then some (.aload_n 0, 35, 0) else none) else (bif Nat.beq pc 35 then some (.iconst 2, 36, 0) else none)) else (bif Nat.blt pc 39 then (bif Nat.beq pc 36 then some (.invokestatic 7, 39, 0) else none) else (bif Nat.beq pc 39 then some (.istore 4, 41, 0) else none)))))) else (bif Nat.blt pc 65 then (bif Nat.blt pc 51 then (bif Nat.blt pc 46 then (bif Nat.blt pc 42 then (bif Nat.beq pc 41 then some (.iconst 1, 42, 0) else none) else (bif Nat.blt pc 44 then (bif Nat.beq pc 42 then some (.istore 5, 44, 0) else none) else (bif Nat.beq pc 44 then some (.iload 5, 46, 0) else none))) else (bif Nat.blt pc 47 then (bif Nat.beq pc 46 then some (.iload_n 1, 47, 0) else none) else (bif Nat.blt pc 50 then (bif Nat.beq pc 47 then some (.if_icmp .ge 58, 50, 105) else none) else (bif Nat.beq pc 50 then some (.iconst 1, 51, 0) else none)))) else (bif Nat.blt pc 56 then (bif Nat.blt pc 53 then (bif Nat.beq pc 51 then some (.istore 6, 53, 0) else none) else (bif Nat.blt pc 55 then (bif Nat.beq pc 53 then some (.iload 6, 55, 0) else none) else (bif Nat.beq pc 55 then some (.iload_n 2, 56, 0) else none))) else (bif Nat.blt pc 61 then (bif Nat.blt pc 59 then (bif Nat.beq pc 56 then some (.if_icmp .gt 43, 59, 99) else none) else (bif Nat.beq pc 59 then some (.iload 6, 61, 0) else none)) else (bif Nat.blt pc 62 then (bif Nat.beq pc 61 then some (.iconst 1, 62, 0) else none) else (bif Nat.beq pc 62 then some (.if_icmp .eq 22, 65, 84) else none))))) else (bif Nat.blt pc 77 then (bif Nat.blt pc 71 then (bif Nat.blt pc 67 then (bif Nat.beq pc 65 then some (.iload 4, 67, 0) else none) else (bif Nat.blt pc 69 then (bif Nat.beq pc 67 then some (.iload 5, 69, 0) else none) else (bif Nat.beq pc 69 then some (.bipush 8, 71, 0) else none))) else (bif Nat.blt pc 74 then (bif Nat.blt pc 72 then (bif Nat.beq pc 71 then some (.imul, 72, 0) else none) else (bif Nat.beq pc 72 then some (.iload 6, 74, 0) else none)) else (bif Nat.blt pc 75 then (bif Nat.beq pc 74 then some (.iadd, 75, 0) else none) else (bif Nat.beq pc 75 then some (.bipush 31, 77, 0) else none)))) else (bif Nat.blt pc 80 then (bif Nat.blt pc 78 then (bif Nat.beq pc 77 then some (.iand, 78, 0) else none) else (bif Nat.blt pc 79 then (bif Nat.beq pc 78 then some (.iushr, 79, 0) else none) else (bif Nat.beq pc 79 then some (.iconst 1, 80, 0) else none))) else (bif Nat.blt pc 84 then (bif Nat.blt pc 81 then (bif Nat.beq pc 80 then some (.iand, 81, 0) else none) else (bif Nat.beq pc 81 then some (.ifCond .ne 12, 84, 93) else none)) else (bif Nat.blt pc 85 then (bif Nat.beq pc 84 then some (.aload_n 3, 85, 0) else none) else (bif Nat.beq pc 85 then some (.iload 5, 87, 0) else none))))))) else (bif Nat.blt pc 141 then (bif Nat.blt pc 115 then (bif Nat.blt pc 102 then (bif Nat.blt pc 93 then (bif Nat.blt pc 89 then (bif Nat.beq pc 87 then some (.iload 6, 89, 0) else none) else (bif Nat.blt pc 92 then (bif Nat.beq pc 89 then some (.invokevirtual 22, 92, 0) else none) else (bif Nat.beq pc 92 then some (.pop, 93, 0) else none))) else (bif Nat.blt pc 96 then (bif Nat.beq pc 93 then some (.iinc 6 1, 96, 0) else none) else (bif Nat.blt pc 99 then (bif Nat.beq pc 96 then some (.goto (-43), 99, 53) else none) else (bif Nat.beq pc 99 then some (.iinc 5 1, 102, 0) else none)))) else (bif Nat.blt pc 108 then (bif Nat.blt pc 105 then (bif Nat.beq pc 102 then some (.goto (-58), 105, 44) else none) else (bif Nat.blt pc 106 then (bif Nat.beq pc 105 then some (.iconst 3, 106, 0) else none) else (bif Nat.beq pc 106 then some (.istore 5, 108, 0) else none))) else (bif Nat.blt pc 111 then (bif Nat.blt pc 110 then (bif Nat.beq pc 108 then some (.iload 5, 110, 0) else none) else (bif Nat.beq pc 110 then some (.aload_n 0, 111, 0) else none)) else (bif Nat.blt pc 112 then (bif Nat.beq pc 111 then some (.arraylength, 112, 0) else none) else (bif Nat.beq pc 112 then some (.if_icmp .ge 702, 115, 814) else none))))) else (bif Nat.blt pc 129 then (bif Nat.blt pc 121 then (bif Nat.blt pc 116 then (bif Nat.beq pc 115 then some (.aload_n 0, 116, 0) else none) else (bif Nat.blt pc 118 then (bif Nat.beq pc 116 then some (.iload 5, 118, 0) else none) else (bif Nat.beq pc 118 then some (.invokestatic 7, 121, 0) else none))) else (bif Nat.blt pc 126 then (bif Nat.blt pc 123 then (bif Nat.beq pc 121 then some (.bipush 10, 123, 0) else none) else (bif Nat.beq pc 123 then some (.invokestatic 13, 126, 0) else none)) else (bif Nat.blt pc 128 then (bif Nat.beq pc 126 then some (.istore 6, 128, 0) else none) else (bif Nat.beq pc 128 then some (.aload_n 0, 129, 0) else none)))) else (bif Nat.blt pc 133 then (bif Nat.blt pc 131 then (bif Nat.beq pc 129 then some (.iload 5, 131, 0) else none) else (bif Nat.blt pc 132 then (bif Nat.beq pc 131 then some (.iconst 1, 132, 0) else none) else (bif Nat.beq pc 132 then some (.iadd, 133, 0) else none))) else (bif Nat.blt pc 138 then (bif Nat.blt pc 136 then (bif Nat.beq pc 133 then some (.invokestatic 7, 136, 0) else none) else (bif Nat.beq pc 136 then some (.istore 7, 138, 0) else none)) else (bif Nat.blt pc 139 then (bif Nat.beq pc 138 then some (.aload_n 0, 139, 0) else none) else (bif Nat.beq pc 139 then some (.iload 5, 141, 0) else none)))))) else (bif Nat.blt pc 162 then (bif Nat.blt pc 151 then (bif Nat.blt pc 146 then (bif Nat.blt pc 142 then (bif Nat.beq pc 141 then some (.iconst 2, 142, 0) else none) else (bif Nat.blt pc 143 then (bif Nat.beq pc 142 then some (.iadd, 143, 0) else none) else (bif Nat.beq pc 143 then some (.invokestatic 7, 146, 0) else none))) else (bif Nat.blt pc 148 then (bif Nat.beq pc 146 then some (.istore 8, 148, 0) else none) else (bif Nat.blt pc 149 then (bif Nat.beq pc 148 then some (.aload_n 0, 149, 0) else none) else (bif Nat.beq pc 149 then some (.iload 5, 151, 0) else none)))) else (bif Nat.blt pc 156 then (bif Nat.blt pc 152 then (bif Nat.beq pc 151 then some (.iconst 3, 152, 0) else none) else (bif Nat.blt pc 153 then (bif Nat.beq pc 152 then some (.iadd, 153, 0) else none) else (bif Nat.beq pc 153 then some (.invokestatic 7, 156, 0) else none))) else (bif Nat.blt pc 159 then (bif Nat.blt pc 158 then (bif Nat.beq pc 156 then some (.istore 9, 158, 0) else none) else (bif Nat.beq pc 158 then some (.iconst 1, 159, 0) else none)) else (bif Nat.blt pc 161 then (bif Nat.beq pc 159 then some (.iload 7, 161, 0) else none) else (bif Nat.beq pc 161 then some (.iload_n 1, 162, 0) else none))))) else (bif Nat.blt pc 173 then (bif Nat.blt pc 167 then (bif Nat.blt pc 163 then (bif Nat.beq pc 162 then some (.iconst 1, 163, 0) else none) else (bif Nat.blt pc 164 then (bif Nat.beq pc 163 then some (.isub, 164, 0) else none) else (bif Nat.beq pc 164 then some (.invokestatic 13, 167, 0) else none))) else (bif Nat.blt pc 170 then (bif Nat.blt pc 168 then (bif Nat.beq pc 167 then some (.iadd, 168, 0) else none) else (bif Nat.beq pc 168 then some (.istore 10, 170, 0) else none)) else (bif Nat.blt pc 171 then (bif Nat.beq pc 170 then some (.iconst 1, 171, 0) else none) else (bif Nat.beq pc 171 then some (.iload 8, 173, 0) else none)))) else (bif Nat.blt pc 178 then (bif Nat.blt pc 174 then (bif Nat.beq pc 173 then some (.iload_n 2, 174, 0) else none) else (bif Nat.blt pc 177 then (bif Nat.beq pc 174 then some (.invokestatic 13, 177, 0) else none) else (bif Nat.beq pc 177 then some (.iadd, 178, 0) else none))) else (bif Nat.blt pc 181 then (bif Nat.blt pc 180 then (bif Nat.beq pc 178 then some (.istore 11, 180, 0) else none) else (bif Nat.beq pc 180 then some (.iconst 1, 181, 0) else none)) else (bif Nat.blt pc 183 then (bif Nat.beq pc 181 then some (.iload 9, 183, 0) else none) else (bif Nat.beq pc 183 then some (.iload_n 1, 184, 0) else none)))))))) else (bif Nat.blt pc 284 then (bif Nat.blt pc 231 then (bif Nat.blt pc 205 then (bif Nat.blt pc 194 then (bif Nat.blt pc 189 then (bif Nat.blt pc 185 then (bif Nat.beq pc 184 then some (.iconst 1, 185, 0) else none) else (bif Nat.blt pc 186 then (bif Nat.beq pc 185 then some (.isub, 186, 0) else none) else (bif Nat.beq pc 186 then some (.invokestatic 13, 189, 0) else none))) else (bif Nat.blt pc 190 then (bif Nat.beq pc 189 then some (.iadd, 190, 0) else none) else (bif Nat.blt pc 192 then (bif Nat.beq pc 190 then some (.istore 12, 192, 0) else none) else (bif Nat.beq pc 192 then some (.iload 9, 194, 0) else none)))) else (bif Nat.blt pc 198 then (bif Nat.blt pc 196 then (bif Nat.beq pc 194 then some (.bipush 16, 196, 0) else none) else (bif Nat.blt pc 197 then (bif Nat.beq pc 196 then some (.idiv, 197, 0) else none) else (bif Nat.beq pc 197 then some (.iload_n 2, 198, 0) else none))) else (bif Nat.blt pc 200 then (bif Nat.blt pc 199 then (bif Nat.beq pc 198 then some (.iconst 1, 199, 0) else none) else (bif Nat.beq pc 199 then some (.iadd, 200, 0) else none)) else (bif Nat.blt pc 203 then (bif Nat.beq pc 200 then some (.invokestatic 13, 203, 0) else none) else (bif Nat.beq pc 203 then some (.istore 13, 205, 0) else none))))) else (bif Nat.blt pc 218 then (bif Nat.blt pc 211 then (bif Nat.blt pc 207 then (bif Nat.beq pc 205 then some (.iload 6, 207, 0) else none) else (bif Nat.blt pc 210 then (bif Nat.beq pc 207 then some (.ifCond .ne 15, 210, 222) else none) else (bif Nat.beq pc 210 then some (.aload_n 3, 211, 0) else none))) else (bif Nat.blt pc 213 then (bif Nat.beq pc 211 then some (.iload 10, 213, 0) else none) else (bif Nat.blt pc 215 then (bif Nat.beq pc 213 then some (.iload 11, 215, 0) else none) else (bif Nat.beq pc 215 then some (.invokevirtual 22, 218, 0) else none)))) else (bif Nat.blt pc 224 then (bif Nat.blt pc 219 then (bif Nat.beq pc 218 then some (.pop, 219, 0) else none) else (bif Nat.blt pc 222 then (bif Nat.beq pc 219 then some (.goto 432, 222, 651) else none) else (bif Nat.beq pc 222 then some (.iload 6, 224, 0) else none))) else (bif Nat.blt pc 228 then (bif Nat.blt pc 225 then (bif Nat.beq pc 224 then some (.iconst 1, 225, 0) else none) else (bif Nat.beq pc 225 then some (.if_icmp .eq 9, 228, 234) else none)) else (bif Nat.blt pc 230 then (bif Nat.beq pc 228 then some (.iload 6, 230, 0) else none) else (bif Nat.beq pc 230 then some (.iconst 2, 231, 0) else none)))))) else (bif Nat.blt pc 258 then (bif Nat.blt pc 243 then (bif Nat.blt pc 237 then (bif Nat.blt pc 234 then (bif Nat.beq pc 231 then some (.if_icmp .ne 19, 234, 250) else none) else (bif Nat.blt pc 235 then (bif Nat.beq pc 234 then some (.aload_n 3, 235, 0) else none) else (bif Nat.beq pc 235 then some (.iload 10, 237, 0) else none))) else (bif Nat.blt pc 239 then (bif Nat.beq pc 237 then some (.iload 11, 239, 0) else none) else (bif Nat.blt pc 241 then (bif Nat.beq pc 239 then some (.iload 12, 241, 0) else none) else (bif Nat.beq pc 241 then some (.iload 13, 243, 0) else none)))) else (bif Nat.blt pc 250 then (bif Nat.blt pc 246 then (bif Nat.beq pc 243 then some (.invokevirtual 25, 246, 0) else none) else (bif Nat.blt pc 247 then (bif Nat.beq pc 246 then some (.pop, 247, 0) else none) else (bif Nat.beq pc 247 then some (.goto 404, 250, 651) else none))) else (bif Nat.blt pc 253 then (bif Nat.blt pc 252 then (bif Nat.beq pc 250 then some (.iload 6, 252, 0) else none) else (bif Nat.beq pc 252 then some (.iconst 3, 253, 0) else none)) else (bif Nat.blt pc 256 then (bif Nat.beq pc 253 then some (.if_icmp .eq 10, 256, 263) else none) else (bif Nat.beq pc 256 then some (.iload 6, 258, 0) else none))))) else (bif Nat.blt pc 270 then (bif Nat.blt pc 264 then (bif Nat.blt pc 260 then (bif Nat.beq pc 258 then some (.bipush 9, 260, 0) else none) else (bif Nat.blt pc 263 then (bif Nat.beq pc 260 then some (.if_icmp .ne 21, 263, 281) else none) else (bif Nat.beq pc 263 then some (.aload_n 3, 264, 0) else none))) else (bif Nat.blt pc 268 then (bif Nat.blt pc 266 then (bif Nat.beq pc 264 then some (.iload 10, 266, 0) else none) else (bif Nat.beq pc 266 then some (.iload 8, 268, 0) else none)) else (bif Nat.blt pc 269 then (bif Nat.beq pc 268 then some (.iload_n 2, 269, 0) else none) else (bif Nat.beq pc 269 then some (.iconst 1, 270, 0) else none)))) else (bif Nat.blt pc 277 then (bif Nat.blt pc 271 then (bif Nat.beq pc 270 then some (.iadd, 271, 0) else none) else (bif Nat.blt pc 274 then (bif Nat.beq pc 271 then some (.invokestatic 13, 274, 0) else none) else (bif Nat.beq pc 274 then some (.invokevirtual 29, 277, 0) else none))) else (bif Nat.blt pc 281 then (bif Nat.blt pc 278 then (bif Nat.beq pc 277 then some (.pop, 278, 0) else none) else (bif Nat.beq pc 278 then some (.goto 373, 281, 651) else none)) else (bif Nat.blt pc 283 then (bif Nat.beq pc 281 then some (.iload 6, 283, 0) else none) else (bif Nat.beq pc 283 then some (.iconst 4, 284, 0) else none))))))) else (bif Nat.blt pc 336 then (bif Nat.blt pc 310 then (bif Nat.blt pc 295 then (bif Nat.blt pc 290 then (bif Nat.blt pc 287 then (bif Nat.beq pc 284 then some (.if_icmp .ne 29, 287, 313) else none) else (bif Nat.blt pc 288 then (bif Nat.beq pc 287 then some (.aload_n 3, 288, 0) else none) else (bif Nat.beq pc 288 then some (.iload 10, 290, 0) else none))) else (bif Nat.blt pc 292 then (bif Nat.beq pc 290 then some (.iload 11, 292, 0) else none) else (bif Nat.blt pc 294 then (bif Nat.beq pc 292 then some (.iload 9, 294, 0) else none) else (bif Nat.beq pc 294 then some (.iconst 3, 295, 0) else none)))) else (bif Nat.blt pc 302 then (bif Nat.blt pc 298 then (bif Nat.beq pc 295 then some (.invokestatic 13, 298, 0) else none) else (bif Nat.blt pc 301 then (bif Nat.beq pc 298 then some (.ifCond .ne 7, 301, 305) else none) else (bif Nat.beq pc 301 then some (.iconst 1, 302, 0) else none))) else (bif Nat.blt pc 306 then (bif Nat.blt pc 305 then (bif Nat.beq pc 302 then some (.goto 4, 305, 306) else none) else (bif Nat.beq pc 305 then some (.iconst 0, 306, 0) else none)) else (bif Nat.blt pc 309 then (bif Nat.beq pc 306 then some (.invokevirtual 32, 309, 0) else none) else (bif Nat.beq pc 309 then some (.pop, 310, 0) else none))))) else (bif Nat.blt pc 324 then (bif Nat.blt pc 316 then (bif Nat.blt pc 313 then (bif Nat.beq pc 310 then some (.goto 341, 313, 651) else none) else (bif Nat.blt pc 315 then (bif Nat.beq pc 313 then some (.iload 6, 315, 0) else none) else (bif Nat.beq pc 315 then some (.iconst 5, 316, 0) else none))) else (bif Nat.blt pc 320 then (bif Nat.blt pc 319 then (bif Nat.beq pc 316 then some (.if_icmp .ne 23, 319, 339) else none) else (bif Nat.beq pc 319 then some (.aload_n 3, 320, 0) else none)) else (bif Nat.blt pc 322 then (bif Nat.beq pc 320 then some (.iload 10, 322, 0) else none) else (bif Nat.beq pc 322 then some (.iload 11, 324, 0) else none)))) else (bif Nat.blt pc 328 then (bif Nat.blt pc 326 then (bif Nat.beq pc 324 then some (.iload 9, 326, 0) else none) else (bif Nat.blt pc 327 then (bif Nat.beq pc 326 then some (.iload_n 2, 327, 0) else none) else (bif Nat.beq pc 327 then some (.iconst 1, 328, 0) else none))) else (bif Nat.blt pc 332 then (bif Nat.blt pc 329 then (bif Nat.beq pc 328 then some (.iadd, 329, 0) else none) else (bif Nat.beq pc 329 then some (.invokestatic 13, 332, 0) else none)) else (bif Nat.blt pc 335 then (bif Nat.beq pc 332 then some (.invokevirtual 36, 335, 0) else none) else (bif Nat.beq pc 335 then some (.pop, 336, 0) else none)))))) else (bif Nat.blt pc 365 then (bif Nat.blt pc 349 then (bif Nat.blt pc 343 then (bif Nat.blt pc 339 then (bif Nat.beq pc 336 then some (.goto 315, 339, 651) else none) else (bif Nat.blt pc 341 then (bif Nat.beq pc 339 then some (.iload 6, 341, 0) else none) else (bif Nat.beq pc 341 then some (.bipush 6, 343, 0) else none))) else (bif Nat.blt pc 346 then (bif Nat.beq pc 343 then some (.if_icmp .ne 50, 346, 393) else none) else (bif Nat.blt pc 347 then (bif Nat.beq pc 346 then some (.aload_n 3, 347, 0) else none) else (bif Nat.beq pc 347 then some (.iload 10, 349, 0) else none)))) else (bif Nat.blt pc 356 then (bif Nat.blt pc 351 then (bif Nat.beq pc 349 then some (.iload 11, 351, 0) else none) else (bif Nat.blt pc 354 then (bif Nat.beq pc 351 then some (.invokevirtual 39, 354, 0) else none) else (bif Nat.beq pc 354 then some (.istore 14, 356, 0) else none))) else (bif Nat.blt pc 361 then (bif Nat.blt pc 358 then (bif Nat.beq pc 356 then some (.iload 14, 358, 0) else none) else (bif Nat.beq pc 358 then some (.ifCond .lt 32, 361, 390) else none)) else (bif Nat.blt pc 362 then (bif Nat.beq pc 361 then some (.aload_n 3, 362, 0) else none) else (bif Nat.beq pc 362 then some (.invokevirtual 42, 365, 0) else none))))) else (bif Nat.blt pc 378 then (bif Nat.blt pc 370 then (bif Nat.blt pc 368 then (bif Nat.beq pc 365 then some (.ifCond .eq 5, 368, 370) else none) else (bif Nat.blt pc 369 then (bif Nat.beq pc 368 then some (.iconst 0, 369, 0) else none) else (bif Nat.beq pc 369 then some (.ireturn, 370, 0) else none))) else (bif Nat.blt pc 373 then (bif Nat.blt pc 371 then (bif Nat.beq pc 370 then some (.aload_n 3, 371, 0) else none) else (bif Nat.beq pc 371 then some (.iload 10, 373, 0) else none)) else (bif Nat.blt pc 376 then (bif Nat.beq pc 373 then some (.invokevirtual 46, 376, 0) else none) else (bif Nat.beq pc 376 then some (.iload 14, 378, 0) else none)))) else (bif Nat.blt pc 385 then (bif Nat.blt pc 381 then (bif Nat.beq pc 378 then some (.if_icmp .ne 10, 381, 388) else none) else (bif Nat.blt pc 383 then (bif Nat.beq pc 381 then some (.iload 14, 383, 0) else none) else (bif Nat.beq pc 383 then some (.iload 11, 385, 0) else none))) else (bif Nat.blt pc 389 then (bif Nat.blt pc 388 then (bif Nat.beq pc 385 then some (.if_icmp .ge 5, 388, 390) else none) else (bif Nat.beq pc 388 then some (.iconst 0, 389, 0) else none)) else (bif Nat.blt pc 390 then (bif Nat.beq pc 389 then some (.ireturn, 390, 0) else none) else (bif Nat.beq pc 390 then some (.goto 261, 393, 651) else none))))))))) else (bif Nat.blt pc 594 then (bif Nat.blt pc 497 then (bif Nat.blt pc 445 then (bif Nat.blt pc 418 then (bif Nat.blt pc 404 then (bif Nat.blt pc 400 then (bif Nat.blt pc 395 then (bif Nat.beq pc 393 then some (.iload 6, 395, 0) else none) else (bif Nat.blt pc 397 then (bif Nat.beq pc 395 then some (.bipush 7, 397, 0) else none) else (bif Nat.beq pc 397 then some (.if_icmp .ne 60, 400, 457) else none))) else (bif Nat.blt pc 402 then (bif Nat.beq pc 400 then some (.iload 8, 402, 0) else none) else (bif Nat.blt pc 403 then (bif Nat.beq pc 402 then some (.iload_n 2, 403, 0) else none) else (bif Nat.beq pc 403 then some (.iconst 1, 404, 0) else none)))) else (bif Nat.blt pc 410 then (bif Nat.blt pc 405 then (bif Nat.beq pc 404 then some (.iadd, 405, 0) else none) else (bif Nat.blt pc 408 then (bif Nat.beq pc 405 then some (.invokestatic 13, 408, 0) else none) else (bif Nat.beq pc 408 then some (.istore 14, 410, 0) else none))) else (bif Nat.blt pc 413 then (bif Nat.blt pc 411 then (bif Nat.beq pc 410 then some (.aload_n 3, 411, 0) else none) else (bif Nat.beq pc 411 then some (.iload 10, 413, 0) else none)) else (bif Nat.blt pc 415 then (bif Nat.beq pc 413 then some (.iload 14, 415, 0) else none) else (bif Nat.beq pc 415 then some (.invokevirtual 50, 418, 0) else none))))) else (bif Nat.blt pc 432 then (bif Nat.blt pc 425 then (bif Nat.blt pc 420 then (bif Nat.beq pc 418 then some (.istore 15, 420, 0) else none) else (bif Nat.blt pc 422 then (bif Nat.beq pc 420 then some (.iload 15, 422, 0) else none) else (bif Nat.beq pc 422 then some (.ifCond .lt 32, 425, 454) else none))) else (bif Nat.blt pc 426 then (bif Nat.beq pc 425 then some (.aload_n 3, 426, 0) else none) else (bif Nat.blt pc 429 then (bif Nat.beq pc 426 then some (.invokevirtual 42, 429, 0) else none) else (bif Nat.beq pc 429 then some (.ifCond .eq 5, 432, 434) else none)))) else (bif Nat.blt pc 435 then (bif Nat.blt pc 433 then (bif Nat.beq pc 432 then some (.iconst 0, 433, 0) else none) else (bif Nat.blt pc 434 then (bif Nat.beq pc 433 then some (.ireturn, 434, 0) else none) else (bif Nat.beq pc 434 then some (.aload_n 3, 435, 0) else none))) else (bif Nat.blt pc 440 then (bif Nat.blt pc 437 then (bif Nat.beq pc 435 then some (.iload 10, 437, 0) else none) else (bif Nat.beq pc 437 then some (.invokevirtual 46, 440, 0) else none)) else (bif Nat.blt pc 442 then (bif Nat.beq pc 440 then some (.iload 15, 442, 0) else none) else (bif Nat.beq pc 442 then some (.if_icmp .ne 10, 445, 452) else none)))))) else (bif Nat.blt pc 471 then (bif Nat.blt pc 457 then (bif Nat.blt pc 452 then (bif Nat.blt pc 447 then (bif Nat.beq pc 445 then some (.iload 15, 447, 0) else none) else (bif Nat.blt pc 449 then (bif Nat.beq pc 447 then some (.iload 14, 449, 0) else none) else (bif Nat.beq pc 449 then some (.if_icmp .le 5, 452, 454) else none))) else (bif Nat.blt pc 453 then (bif Nat.beq pc 452 then some (.iconst 0, 453, 0) else none) else (bif Nat.blt pc 454 then (bif Nat.beq pc 453 then some (.ireturn, 454, 0) else none) else (bif Nat.beq pc 454 then some (.goto 197, 457, 651) else none)))) else (bif Nat.blt pc 464 then (bif Nat.blt pc 458 then (bif Nat.beq pc 457 then some (.aload_n 3, 458, 0) else none) else (bif Nat.blt pc 461 then (bif Nat.beq pc 458 then some (.invokevirtual 42, 461, 0) else none) else (bif Nat.beq pc 461 then some (.ifCond .ne 7, 464, 468) else none))) else (bif Nat.blt pc 468 then (bif Nat.blt pc 465 then (bif Nat.beq pc 464 then some (.iconst 1, 465, 0) else none) else (bif Nat.beq pc 465 then some (.goto 4, 468, 469) else none)) else (bif Nat.blt pc 469 then (bif Nat.beq pc 468 then some (.iconst 0, 469, 0) else none) else (bif Nat.beq pc 469 then some (.istore 14, 471, 0) else none))))) else (bif Nat.blt pc 485 then (bif Nat.blt pc 475 then (bif Nat.blt pc 472 then (bif Nat.beq pc 471 then some (.lconst 0, 472, 0) else none) else (bif Nat.blt pc 474 then (bif Nat.beq pc 472 then some (.lstore 15, 474, 0) else none) else (bif Nat.beq pc 474 then some (.aload_n 3, 475, 0) else none))) else (bif Nat.blt pc 480 then (bif Nat.blt pc 478 then (bif Nat.beq pc 475 then some (.invokevirtual 53, 478, 0) else none) else (bif Nat.beq pc 478 then some (.istore 17, 480, 0) else none)) else (bif Nat.blt pc 482 then (bif Nat.beq pc 480 then some (.iload 14, 482, 0) else none) else (bif Nat.beq pc 482 then some (.ifCond .eq 35, 485, 517) else none)))) else (bif Nat.blt pc 490 then (bif Nat.blt pc 486 then (bif Nat.beq pc 485 then some (.iconst 1, 486, 0) else none) else (bif Nat.blt pc 488 then (bif Nat.beq pc 486 then some (.istore 18, 488, 0) else none) else (bif Nat.beq pc 488 then some (.iload 18, 490, 0) else none))) else (bif Nat.blt pc 494 then (bif Nat.blt pc 491 then (bif Nat.beq pc 490 then some (.iload_n 1, 491, 0) else none) else (bif Nat.beq pc 491 then some (.if_icmp .ge 26, 494, 517) else none)) else (bif Nat.blt pc 496 then (bif Nat.beq pc 494 then some (.lload 15, 496, 0) else none) else (bif Nat.beq pc 496 then some (.aload_n 3, 497, 0) else none))))))) else (bif Nat.blt pc 548 then (bif Nat.blt pc 521 then (bif Nat.blt pc 507 then (bif Nat.blt pc 503 then (bif Nat.blt pc 499 then (bif Nat.beq pc 497 then some (.iload 18, 499, 0) else none) else (bif Nat.blt pc 502 then (bif Nat.beq pc 499 then some (.invokevirtual 46, 502, 0) else none) else (bif Nat.beq pc 502 then some (.i2l, 503, 0) else none))) else (bif Nat.blt pc 504 then (bif Nat.beq pc 503 then some (.iconst 4, 504, 0) else none) else (bif Nat.blt pc 506 then (bif Nat.beq pc 504 then some (.iload 18, 506, 0) else none) else (bif Nat.beq pc 506 then some (.imul, 507, 0) else none)))) else (bif Nat.blt pc 511 then (bif Nat.blt pc 508 then (bif Nat.beq pc 507 then some (.lshl, 508, 0) else none) else (bif Nat.blt pc 509 then (bif Nat.beq pc 508 then some (.lor, 509, 0) else none) else (bif Nat.beq pc 509 then some (.lstore 15, 511, 0) else none))) else (bif Nat.blt pc 517 then (bif Nat.blt pc 514 then (bif Nat.beq pc 511 then some (.iinc 18 1, 514, 0) else none) else (bif Nat.beq pc 514 then some (.goto (-26), 517, 488) else none)) else (bif Nat.blt pc 518 then (bif Nat.beq pc 517 then some (.aload_n 3, 518, 0) else none) else (bif Nat.beq pc 518 then some (.invokevirtual 56, 521, 0) else none))))) else (bif Nat.blt pc 535 then (bif Nat.blt pc 528 then (bif Nat.blt pc 523 then (bif Nat.beq pc 521 then some (.istore 18, 523, 0) else none) else (bif Nat.blt pc 525 then (bif Nat.beq pc 523 then some (.iload 14, 525, 0) else none) else (bif Nat.beq pc 525 then some (.ifCond .eq 10, 528, 535) else none))) else (bif Nat.blt pc 533 then (bif Nat.blt pc 530 then (bif Nat.beq pc 528 then some (.iload 18, 530, 0) else none) else (bif Nat.beq pc 530 then some (.ifCond .ge 5, 533, 535) else none)) else (bif Nat.blt pc 534 then (bif Nat.beq pc 533 then some (.iconst 0, 534, 0) else none) else (bif Nat.beq pc 534 then some (.ireturn, 535, 0) else none)))) else (bif Nat.blt pc 542 then (bif Nat.blt pc 537 then (bif Nat.beq pc 535 then some (.iload 18, 537, 0) else none) else (bif Nat.blt pc 540 then (bif Nat.beq pc 537 then some (.ifCond .lt 114, 540, 651) else none) else (bif Nat.beq pc 540 then some (.iload 14, 542, 0) else none))) else (bif Nat.blt pc 546 then (bif Nat.blt pc 545 then (bif Nat.beq pc 542 then some (.ifCond .ne 5, 545, 547) else none) else (bif Nat.beq pc 545 then some (.iconst 0, 546, 0) else none)) else (bif Nat.blt pc 547 then (bif Nat.beq pc 546 then some (.ireturn, 547, 0) else none) else (bif Nat.beq pc 547 then some (.aload_n 3, 548, 0) else none)))))) else (bif Nat.blt pc 571 then (bif Nat.blt pc 560 then (bif Nat.blt pc 555 then (bif Nat.blt pc 551 then (bif Nat.beq pc 548 then some (.invokevirtual 42, 551, 0) else none) else (bif Nat.blt pc 554 then (bif Nat.beq pc 551 then some (.ifCond .eq 5, 554, 556) else none) else (bif Nat.beq pc 554 then some (.iconst 0, 555, 0) else none))) else (bif Nat.blt pc 556 then (bif Nat.beq pc 555 then some (.ireturn, 556, 0) else none) else (bif Nat.blt pc 557 then (bif Nat.beq pc 556 then some (.aload_n 3, 557, 0) else none) else (bif Nat.beq pc 557 then some (.invokevirtual 53, 560, 0) else none)))) else (bif Nat.blt pc 566 then (bif Nat.blt pc 562 then (bif Nat.beq pc 560 then some (.iload 17, 562, 0) else none) else (bif Nat.blt pc 565 then (bif Nat.beq pc 562 then some (.if_icmp .eq 5, 565, 567) else none) else (bif Nat.beq pc 565 then some (.iconst 0, 566, 0) else none))) else (bif Nat.blt pc 568 then (bif Nat.blt pc 567 then (bif Nat.beq pc 566 then some (.ireturn, 567, 0) else none) else (bif Nat.beq pc 567 then some (.lconst 0, 568, 0) else none)) else (bif Nat.blt pc 570 then (bif Nat.beq pc 568 then some (.lstore 19, 570, 0) else none) else (bif Nat.beq pc 570 then some (.iconst 1, 571, 0) else none))))) else (bif Nat.blt pc 584 then (bif Nat.blt pc 576 then (bif Nat.blt pc 573 then (bif Nat.beq pc 571 then some (.istore 21, 573, 0) else none) else (bif Nat.blt pc 575 then (bif Nat.beq pc 573 then some (.iload 21, 575, 0) else none) else (bif Nat.beq pc 575 then some (.iload_n 1, 576, 0) else none))) else (bif Nat.blt pc 581 then (bif Nat.blt pc 579 then (bif Nat.beq pc 576 then some (.if_icmp .ge 26, 579, 602) else none) else (bif Nat.beq pc 579 then some (.lload 19, 581, 0) else none)) else (bif Nat.blt pc 582 then (bif Nat.beq pc 581 then some (.aload_n 3, 582, 0) else none) else (bif Nat.beq pc 582 then some (.iload 21, 584, 0) else none)))) else (bif Nat.blt pc 589 then (bif Nat.blt pc 587 then (bif Nat.beq pc 584 then some (.invokevirtual 46, 587, 0) else none) else (bif Nat.blt pc 588 then (bif Nat.beq pc 587 then some (.i2l, 588, 0) else none) else (bif Nat.beq pc 588 then some (.iconst 4, 589, 0) else none))) else (bif Nat.blt pc 592 then (bif Nat.blt pc 591 then (bif Nat.beq pc 589 then some (.iload 21, 591, 0) else none) else (bif Nat.beq pc 591 then some (.imul, 592, 0) else none)) else (bif Nat.blt pc 593 then (bif Nat.beq pc 592 then some (.lshl, 593, 0) else none) else (bif Nat.beq pc 593 then some (.lor, 594, 0) else none)))))))) else (bif Nat.blt pc 703 then (bif Nat.blt pc 650 then (bif Nat.blt pc 618 then (bif Nat.blt pc 607 then (bif Nat.blt pc 602 then (bif Nat.blt pc 596 then (bif Nat.beq pc 594 then some (.lstore 19, 596, 0) else none) else (bif Nat.blt pc 599 then (bif Nat.beq pc 596 then some (.iinc 21 1, 599, 0) else none) else (bif Nat.beq pc 599 then some (.goto (-26), 602, 573) else none))) else (bif Nat.blt pc 604 then (bif Nat.beq pc 602 then some (.lload 19, 604, 0) else none) else (bif Nat.blt pc 606 then (bif Nat.beq pc 604 then some (.lload 15, 606, 0) else none) else (bif Nat.beq pc 606 then some (.lcmp, 607, 0) else none)))) else (bif Nat.blt pc 612 then (bif Nat.blt pc 610 then (bif Nat.beq pc 607 then some (.ifCond .eq 5, 610, 612) else none) else (bif Nat.blt pc 611 then (bif Nat.beq pc 610 then some (.iconst 0, 611, 0) else none) else (bif Nat.beq pc 611 then some (.ireturn, 612, 0) else none))) else (bif Nat.blt pc 615 then (bif Nat.blt pc 613 then (bif Nat.beq pc 612 then some (.iconst 0, 613, 0) else none) else (bif Nat.beq pc 613 then some (.istore 21, 615, 0) else none)) else (bif Nat.blt pc 616 then (bif Nat.beq pc 615 then some (.iconst 1, 616, 0) else none) else (bif Nat.beq pc 616 then some (.istore 22, 618, 0) else none))))) else (bif Nat.blt pc 633 then (bif Nat.blt pc 624 then (bif Nat.blt pc 620 then (bif Nat.beq pc 618 then some (.iload 22, 620, 0) else none) else (bif Nat.blt pc 621 then (bif Nat.beq pc 620 then some (.iload_n 1, 621, 0) else none) else (bif Nat.beq pc 621 then some (.if_icmp .ge 21, 624, 642) else none))) else (bif Nat.blt pc 627 then (bif Nat.blt pc 625 then (bif Nat.beq pc 624 then some (.aload_n 3, 625, 0) else none) else (bif Nat.beq pc 625 then some (.iload 22, 627, 0) else none)) else (bif Nat.blt pc 630 then (bif Nat.beq pc 627 then some (.invokevirtual 59, 630, 0) else none) else (bif Nat.beq pc 630 then some (.ifCond .eq 6, 633, 636) else none)))) else (bif Nat.blt pc 642 then (bif Nat.blt pc 636 then (bif Nat.beq pc 633 then some (.iinc 21 1, 636, 0) else none) else (bif Nat.blt pc 639 then (bif Nat.beq pc 636 then some (.iinc 22 1, 639, 0) else none) else (bif Nat.beq pc 639 then some (.goto (-21), 642, 618) else none))) else (bif Nat.blt pc 646 then (bif Nat.blt pc 644 then (bif Nat.beq pc 642 then some (.iload 21, 644, 0) else none) else (bif Nat.beq pc 644 then some (.iload 18, 646, 0) else none)) else (bif Nat.blt pc 649 then (bif Nat.beq pc 646 then some (.if_icmp .eq 5, 649, 651) else none) else (bif Nat.beq pc 649 then some (.iconst 0, 650, 0) else none)))))) else (bif Nat.blt pc 675 then (bif Nat.blt pc 661 then (bif Nat.blt pc 655 then (bif Nat.blt pc 651 then (bif Nat.beq pc 650 then some (.ireturn, 651, 0) else none) else (bif Nat.blt pc 652 then (bif Nat.beq pc 651 then some (.aload_n 3, 652, 0) else none) else (bif Nat.beq pc 652 then some (.invokevirtual 42, 655, 0) else none))) else (bif Nat.blt pc 658 then (bif Nat.beq pc 655 then some (.ifCond .ne 153, 658, 808) else none) else (bif Nat.blt pc 659 then (bif Nat.beq pc 658 then some (.iconst 1, 659, 0) else none) else (bif Nat.beq pc 659 then some (.istore 14, 661, 0) else none)))) else (bif Nat.blt pc 667 then (bif Nat.blt pc 663 then (bif Nat.beq pc 661 then some (.iload 14, 663, 0) else none) else (bif Nat.blt pc 664 then (bif Nat.beq pc 663 then some (.iload_n 1, 664, 0) else none) else (bif Nat.beq pc 664 then some (.if_icmp .ge 144, 667, 808) else none))) else (bif Nat.blt pc 670 then (bif Nat.blt pc 668 then (bif Nat.beq pc 667 then some (.aload_n 3, 668, 0) else none) else (bif Nat.beq pc 668 then some (.iload 14, 670, 0) else none)) else (bif Nat.blt pc 673 then (bif Nat.beq pc 670 then some (.invokevirtual 59, 673, 0) else none) else (bif Nat.beq pc 673 then some (.istore 15, 675, 0) else none))))) else (bif Nat.blt pc 689 then (bif Nat.blt pc 681 then (bif Nat.blt pc 676 then (bif Nat.beq pc 675 then some (.aload_n 3, 676, 0) else none) else (bif Nat.blt pc 678 then (bif Nat.beq pc 676 then some (.iload 14, 678, 0) else none) else (bif Nat.beq pc 678 then some (.invokevirtual 46, 681, 0) else none))) else (bif Nat.blt pc 685 then (bif Nat.blt pc 683 then (bif Nat.beq pc 681 then some (.istore 16, 683, 0) else none) else (bif Nat.beq pc 683 then some (.iload 16, 685, 0) else none)) else (bif Nat.blt pc 688 then (bif Nat.beq pc 685 then some (.ifCond .ge 5, 688, 690) else none) else (bif Nat.beq pc 688 then some (.iconst 0, 689, 0) else none)))) else (bif Nat.blt pc 695 then (bif Nat.blt pc 690 then (bif Nat.beq pc 689 then some (.ireturn, 690, 0) else none) else (bif Nat.blt pc 692 then (bif Nat.beq pc 690 then some (.iload 15, 692, 0) else none) else (bif Nat.beq pc 692 then some (.ifCond .eq 12, 695, 704) else none))) else (bif Nat.blt pc 699 then (bif Nat.blt pc 697 then (bif Nat.beq pc 695 then some (.iload 16, 697, 0) else none) else (bif Nat.beq pc 697 then some (.iload 15, 699, 0) else none)) else (bif Nat.blt pc 702 then (bif Nat.beq pc 699 then some (.if_icmp .ge 5, 702, 704) else none) else (bif Nat.beq pc 702 then some (.iconst 0, 703, 0) else none))))))) else (bif Nat.blt pc 756 then (bif Nat.blt pc 726 then (bif Nat.blt pc 714 then (bif Nat.blt pc 709 then (bif Nat.blt pc 704 then (bif Nat.beq pc 703 then some (.ireturn, 704, 0) else none) else (bif Nat.blt pc 706 then (bif Nat.beq pc 704 then some (.iload 16, 706, 0) else none) else (bif Nat.beq pc 706 then some (.ifCond .eq 96, 709, 802) else none))) else (bif Nat.blt pc 710 then (bif Nat.beq pc 709 then some (.aload_n 3, 710, 0) else none) else (bif Nat.blt pc 712 then (bif Nat.beq pc 710 then some (.iload 14, 712, 0) else none) else (bif Nat.beq pc 712 then some (.iload 16, 714, 0) else none)))) else (bif Nat.blt pc 721 then (bif Nat.blt pc 717 then (bif Nat.beq pc 714 then some (.invokevirtual 62, 717, 0) else none) else (bif Nat.blt pc 718 then (bif Nat.beq pc 717 then some (.iconst 1, 718, 0) else none) else (bif Nat.beq pc 718 then some (.if_icmp .eq 5, 721, 723) else none))) else (bif Nat.blt pc 723 then (bif Nat.blt pc 722 then (bif Nat.beq pc 721 then some (.iconst 0, 722, 0) else none) else (bif Nat.beq pc 722 then some (.ireturn, 723, 0) else none)) else (bif Nat.blt pc 724 then (bif Nat.beq pc 723 then some (.aload_n 3, 724, 0) else none) else (bif Nat.beq pc 724 then some (.iload 14, 726, 0) else none))))) else (bif Nat.blt pc 743 then (bif Nat.blt pc 733 then (bif Nat.blt pc 728 then (bif Nat.beq pc 726 then some (.iload 16, 728, 0) else none) else (bif Nat.blt pc 731 then (bif Nat.beq pc 728 then some (.invokevirtual 65, 731, 0) else none) else (bif Nat.beq pc 731 then some (.istore 17, 733, 0) else none))) else (bif Nat.blt pc 738 then (bif Nat.blt pc 735 then (bif Nat.beq pc 733 then some (.iload 17, 735, 0) else none) else (bif Nat.beq pc 735 then some (.ifCond .eq 8, 738, 743) else none)) else (bif Nat.blt pc 740 then (bif Nat.beq pc 738 then some (.iload 17, 740, 0) else none) else (bif Nat.beq pc 740 then some (.goto 5, 743, 745) else none)))) else (bif Nat.blt pc 748 then (bif Nat.blt pc 745 then (bif Nat.beq pc 743 then some (.iload 16, 745, 0) else none) else (bif Nat.blt pc 747 then (bif Nat.beq pc 745 then some (.istore 18, 747, 0) else none) else (bif Nat.beq pc 747 then some (.iconst 1, 748, 0) else none))) else (bif Nat.blt pc 752 then (bif Nat.blt pc 750 then (bif Nat.beq pc 748 then some (.istore 19, 750, 0) else none) else (bif Nat.beq pc 750 then some (.iload 19, 752, 0) else none)) else (bif Nat.blt pc 753 then (bif Nat.beq pc 752 then some (.iload_n 1, 753, 0) else none) else (bif Nat.beq pc 753 then some (.if_icmp .ge 49, 756, 802) else none)))))) else (bif Nat.blt pc 784 then (bif Nat.blt pc 769 then (bif Nat.blt pc 763 then (bif Nat.blt pc 758 then (bif Nat.beq pc 756 then some (.iload 19, 758, 0) else none) else (bif Nat.blt pc 760 then (bif Nat.beq pc 758 then some (.iload 14, 760, 0) else none) else (bif Nat.beq pc 760 then some (.if_icmp .ne 6, 763, 766) else none))) else (bif Nat.blt pc 766 then (bif Nat.beq pc 763 then some (.goto 33, 766, 796) else none) else (bif Nat.blt pc 767 then (bif Nat.beq pc 766 then some (.aload_n 3, 767, 0) else none) else (bif Nat.beq pc 767 then some (.iload 14, 769, 0) else none)))) else (bif Nat.blt pc 776 then (bif Nat.blt pc 771 then (bif Nat.beq pc 769 then some (.iload 18, 771, 0) else none) else (bif Nat.blt pc 773 then (bif Nat.beq pc 771 then some (.iload 19, 773, 0) else none) else (bif Nat.beq pc 773 then some (.invokevirtual 68, 776, 0) else none))) else (bif Nat.blt pc 780 then (bif Nat.blt pc 778 then (bif Nat.beq pc 776 then some (.istore 20, 778, 0) else none) else (bif Nat.beq pc 778 then some (.iload 20, 780, 0) else none)) else (bif Nat.blt pc 783 then (bif Nat.beq pc 780 then some (.ifCond .eq 16, 783, 796) else none) else (bif Nat.beq pc 783 then some (.aload_n 3, 784, 0) else none))))) else (bif Nat.blt pc 799 then (bif Nat.blt pc 791 then (bif Nat.blt pc 786 then (bif Nat.beq pc 784 then some (.iload 19, 786, 0) else none) else (bif Nat.blt pc 789 then (bif Nat.beq pc 786 then some (.invokevirtual 46, 789, 0) else none) else (bif Nat.beq pc 789 then some (.iload 20, 791, 0) else none))) else (bif Nat.blt pc 795 then (bif Nat.blt pc 794 then (bif Nat.beq pc 791 then some (.if_icmp .ge 5, 794, 796) else none) else (bif Nat.beq pc 794 then some (.iconst 0, 795, 0) else none)) else (bif Nat.blt pc 796 then (bif Nat.beq pc 795 then some (.ireturn, 796, 0) else none) else (bif Nat.beq pc 796 then some (.iinc 19 1, 799, 0) else none)))) else (bif Nat.blt pc 808 then (bif Nat.blt pc 802 then (bif Nat.beq pc 799 then some (.goto (-49), 802, 750) else none) else (bif Nat.blt pc 805 then (bif Nat.beq pc 802 then some (.iinc 14 1, 805, 0) else none) else (bif Nat.beq pc 805 then some (.goto (-144), 808, 661) else none))) else (bif Nat.blt pc 814 then (bif Nat.blt pc 811 then (bif Nat.beq pc 808 then some (.iinc 5 4, 811, 0) else none) else (bif Nat.beq pc 811 then some (.goto (-703), 814, 108) else none)) else (bif Nat.blt pc 815 then (bif Nat.beq pc 814 then some (.iconst 1, 815, 0) else none) else (bif Nat.beq pc 815 then some (.ireturn, 816, 0) else none)))))))))) else none
/-- the constructor -/
def t_ins_1 (pc : Nat) : Option (Instr × Nat × Nat) := bif Nat.blt pc 128 then (bif Nat.blt pc 64 then (bif Nat.blt pc 32 then (bif Nat.blt pc 15 then (bif Nat.blt pc 7 then (bif Nat.blt pc 4 then (bif Nat.blt pc 1 then (bif Nat.beq pc 0 then some (.aload_n 0, 1, 0) else none) else (bif Nat.beq pc 1 then some (.invokespecial 1, 4, 0) else none)) else (bif Nat.blt pc 5 then (bif Nat.beq pc 4 then some (.aload_n 0, 5, 0) else none) else (bif Nat.beq pc 5 then some (.bipush 81, 7, 0) else none))) else (bif Nat.blt pc 12 then (bif Nat.blt pc 9 then (bif Nat.beq pc 7 then some (.newarray .boolean, 9, 0) else none) else (bif Nat.beq pc 9 then some (.putfield 7, 12, 0) else none)) else (bif Nat.blt pc 13 then (bif Nat.beq pc 12 then some (.aload_n 0, 13, 0) else none) else (bif Nat.beq pc 13 then some (.bipush 81, 15, 0) else none)))) else (bif Nat.blt pc 23 then (bif Nat.blt pc 20 then (bif Nat.blt pc 17 then (bif Nat.beq pc 15 then some (.newarray .boolean, 17, 0) else none) else (bif Nat.beq pc 17 then some (.putfield 13, 20, 0) else none)) else (bif Nat.blt pc 21 then (bif Nat.beq pc 20 then some (.aload_n 0, 21, 0) else none) else (bif Nat.beq pc 21 then some (.bipush 81, 23, 0) else none))) else (bif Nat.blt pc 28 then (bif Nat.blt pc 25 then (bif Nat.beq pc 23 then some (.newarray .int, 25, 0) else none) else (bif Nat.beq pc 25 then some (.putfield 16, 28, 0) else none)) else (bif Nat.blt pc 29 then (bif Nat.beq pc 28 then some (.aload_n 0, 29, 0) else none) else (bif Nat.beq pc 29 then some (.sipush 729, 32, 0) else none))))) else (bif Nat.blt pc 48 then (bif Nat.blt pc 40 then (bif Nat.blt pc 37 then (bif Nat.blt pc 34 then (bif Nat.beq pc 32 then some (.newarray .int, 34, 0) else none) else (bif Nat.beq pc 34 then some (.putfield 20, 37, 0) else none)) else (bif Nat.blt pc 38 then (bif Nat.beq pc 37 then some (.aload_n 0, 38, 0) else none) else (bif Nat.beq pc 38 then some (.bipush 9, 40, 0) else none))) else (bif Nat.blt pc 45 then (bif Nat.blt pc 42 then (bif Nat.beq pc 40 then some (.newarray .int, 42, 0) else none) else (bif Nat.beq pc 42 then some (.putfield 23, 45, 0) else none)) else (bif Nat.blt pc 46 then (bif Nat.beq pc 45 then some (.aload_n 0, 46, 0) else none) else (bif Nat.beq pc 46 then some (.bipush 9, 48, 0) else none)))) else (bif Nat.blt pc 56 then (bif Nat.blt pc 53 then (bif Nat.blt pc 50 then (bif Nat.beq pc 48 then some (.newarray .int, 50, 0) else none) else (bif Nat.beq pc 50 then some (.putfield 26, 53, 0) else none)) else (bif Nat.blt pc 54 then (bif Nat.beq pc 53 then some (.aload_n 0, 54, 0) else none) else (bif Nat.beq pc 54 then some (.bipush 9, 56, 0) else none))) else (bif Nat.blt pc 61 then (bif Nat.blt pc 58 then (bif Nat.beq pc 56 then some (.newarray .int, 58, 0) else none) else (bif Nat.beq pc 58 then some (.putfield 29, 61, 0) else none)) else (bif Nat.blt pc 62 then (bif Nat.beq pc 61 then some (.aload_n 0, 62, 0) else none) else (bif Nat.beq pc 62 then some (.bipush 81, 64, 0) else none)))))) else (bif Nat.blt pc 96 then (bif Nat.blt pc 80 then (bif Nat.blt pc 72 then (bif Nat.blt pc 69 then (bif Nat.blt pc 66 then (bif Nat.beq pc 64 then some (.newarray .boolean, 66, 0) else none) else (bif Nat.beq pc 66 then some (.putfield 32, 69, 0) else none)) else (bif Nat.blt pc 70 then (bif Nat.beq pc 69 then some (.aload_n 0, 70, 0) else none) else (bif Nat.beq pc 70 then some (.bipush 81, 72, 0) else none))) else (bif Nat.blt pc 77 then (bif Nat.blt pc 74 then (bif Nat.beq pc 72 then some (.newarray .int, 74, 0) else none) else (bif Nat.beq pc 74 then some (.putfield 35, 77, 0) else none)) else (bif Nat.blt pc 78 then (bif Nat.beq pc 77 then some (.aload_n 0, 78, 0) else none) else (bif Nat.beq pc 78 then some (.bipush 81, 80, 0) else none)))) else (bif Nat.blt pc 88 then (bif Nat.blt pc 85 then (bif Nat.blt pc 82 then (bif Nat.beq pc 80 then some (.newarray .int, 82, 0) else none) else (bif Nat.beq pc 82 then some (.putfield 38, 85, 0) else none)) else (bif Nat.blt pc 86 then (bif Nat.beq pc 85 then some (.aload_n 0, 86, 0) else none) else (bif Nat.beq pc 86 then some (.bipush 9, 88, 0) else none))) else (bif Nat.blt pc 93 then (bif Nat.blt pc 90 then (bif Nat.beq pc 88 then some (.newarray .int, 90, 0) else none) else (bif Nat.beq pc 90 then some (.putfield 41, 93, 0) else none)) else (bif Nat.blt pc 94 then (bif Nat.beq pc 93 then some (.aload_n 0, 94, 0) else none) else (bif Nat.beq pc 94 then some (.bipush 9, 96, 0) else none))))) else (bif Nat.blt pc 111 then (bif Nat.blt pc 104 then (bif Nat.blt pc 101 then (bif Nat.blt pc 98 then (bif Nat.beq pc 96 then some (.newarray .boolean, 98, 0) else none) else (bif Nat.beq pc 98 then some (.putfield 44, 101, 0) else none)) else (bif Nat.blt pc 102 then (bif Nat.beq pc 101 then some (.aload_n 0, 102, 0) else none) else (bif Nat.beq pc 102 then some (.bipush 9, 104, 0) else none))) else (bif Nat.blt pc 109 then (bif Nat.blt pc 106 then (bif Nat.beq pc 104 then some (.newarray .int, 106, 0) else none) else (bif Nat.beq pc 106 then some (.putfield 47, 109, 0) else none)) else (bif Nat.blt pc 110 then (bif Nat.beq pc 109 then some (.aload_n 0, 110, 0) else none) else (bif Nat.beq pc 110 then some (.aload_n 0, 111, 0) else none)))) else (bif Nat.blt pc 119 then (bif Nat.blt pc 115 then (bif Nat.blt pc 112 then (bif Nat.beq pc 111 then some (.iload_n 1, 112, 0) else none) else (bif Nat.beq pc 112 then some (.invokevirtual 50, 115, 0) else none)) else (bif Nat.blt pc 118 then (bif Nat.beq pc 115 then some (.putfield 54, 118, 0) else none) else (bif Nat.beq pc 118 then some (.aload_n 0, 119, 0) else none))) else (bif Nat.blt pc 121 then (bif Nat.blt pc 120 then (bif Nat.beq pc 119 then some (.aload_n 0, 120, 0) else none) else (bif Nat.beq pc 120 then some (.iload_n 2, 121, 0) else none)) else (bif Nat.blt pc 124 then (bif Nat.beq pc 121 then some (.invokevirtual 58, 124, 0) else none) else (bif Nat.blt pc 127 then (bif Nat.beq pc 124 then some (.putfield 61, 127, 0) else none) else (bif Nat.beq pc 127 then some (.return_, 128, 0) else none)))))))) else none
/-- clampModules -/
def t_ins_2 (pc : Nat) : Option (Instr × Nat × Nat) := bif Nat.blt pc 18 then (bif Nat.blt pc 8 then (bif Nat.blt pc 5 then (bif Nat.blt pc 1 then (bif Nat.beq pc 0 then some (.iload_n 1, 1, 0) else none) else (bif Nat.blt pc 2 then (bif Nat.beq pc 1 then some (.iconst 2, 2, 0) else none) else (bif Nat.beq pc 2 then some (.if_icmp .ge 5, 5, 7) else none))) else (bif Nat.blt pc 6 then (bif Nat.beq pc 5 then some (.iconst 2, 6, 0) else none) else (bif Nat.blt pc 7 then (bif Nat.beq pc 6 then some (.ireturn, 7, 0) else none) else (bif Nat.beq pc 7 then some (.iload_n 1, 8, 0) else none)))) else (bif Nat.blt pc 15 then (bif Nat.blt pc 10 then (bif Nat.beq pc 8 then some (.bipush 8, 10, 0) else none) else (bif Nat.blt pc 13 then (bif Nat.beq pc 10 then some (.if_icmp .le 6, 13, 16) else none) else (bif Nat.beq pc 13 then some (.bipush 8, 15, 0) else none))) else (bif Nat.blt pc 16 then (bif Nat.beq pc 15 then some (.ireturn, 16, 0) else none) else (bif Nat.blt pc 17 then (bif Nat.beq pc 16 then some (.iload_n 1, 17, 0) else none) else (bif Nat.beq pc 17 then some (.ireturn, 18, 0) else none))))) else none
/-- clampVersions -/
def t_ins_3 (pc : Nat) : Option (Instr × Nat × Nat) := bif Nat.blt pc 18 then (bif Nat.blt pc 8 then (bif Nat.blt pc 5 then (bif Nat.blt pc 1 then (bif Nat.beq pc 0 then some (.iload_n 1, 1, 0) else none) else (bif Nat.blt pc 2 then (bif Nat.beq pc 1 then some (.iconst 1, 2, 0) else none) else (bif Nat.beq pc 2 then some (.if_icmp .ge 5, 5, 7) else none))) else (bif Nat.blt pc 6 then (bif Nat.beq pc 5 then some (.iconst 1, 6, 0) else none) else (bif Nat.blt pc 7 then (bif Nat.beq pc 6 then some (.ireturn, 7, 0) else none) else (bif Nat.beq pc 7 then some (.iload_n 1, 8, 0) else none)))) else (bif Nat.blt pc 15 then (bif Nat.blt pc 10 then (bif Nat.beq pc 8 then some (.bipush 8, 10, 0) else none) else (bif Nat.blt pc 13 then (bif Nat.beq pc 10 then some (.if_icmp .le 6, 13, 16) else none) else (bif Nat.beq pc 13 then some (.bipush 8, 15, 0) else none))) else (bif Nat.blt pc 16 then (bif Nat.beq pc 15 then some (.ireturn, 16, 0) else none) else (bif Nat.blt pc 17 then (bif Nat.beq pc 16 then some (.iload_n 1, 17, 0) else none) else (bif Nat.beq pc 17 then some (.ireturn, 18, 0) else none))))) else none
/-- modInRange -/
def t_ins_4 (pc : Nat) : Option (Instr × Nat × Nat) := bif Nat.blt pc 19 then (bif Nat.blt pc 7 then (bif Nat.blt pc 2 then (bif Nat.blt pc 1 then (bif Nat.beq pc 0 then some (.iload_n 1, 1, 0) else none) else (bif Nat.beq pc 1 then some (.iconst 1, 2, 0) else none)) else (bif Nat.blt pc 5 then (bif Nat.beq pc 2 then some (.if_icmp .lt 15, 5, 17) else none) else (bif Nat.blt pc 6 then (bif Nat.beq pc 5 then some (.iload_n 1, 6, 0) else none) else (bif Nat.beq pc 6 then some (.aload_n 0, 7, 0) else none)))) else (bif Nat.blt pc 14 then (bif Nat.blt pc 10 then (bif Nat.beq pc 7 then some (.getfield 54, 10, 0) else none) else (bif Nat.blt pc 13 then (bif Nat.beq pc 10 then some (.if_icmp .ge 7, 13, 17) else none) else (bif Nat.beq pc 13 then some (.iconst 1, 14, 0) else none))) else (bif Nat.blt pc 17 then (bif Nat.beq pc 14 then some (.goto 4, 17, 18) else none) else (bif Nat.blt pc 18 then (bif Nat.beq pc 17 then some (.iconst 0, 18, 0) else none) else (bif Nat.beq pc 18 then some (.ireturn, 19, 0) else none))))) else none
/-- verInRange -/
def t_ins_5 (pc : Nat) : Option (Instr × Nat × Nat) := bif Nat.blt pc 19 then (bif Nat.blt pc 7 then (bif Nat.blt pc 2 then (bif Nat.blt pc 1 then (bif Nat.beq pc 0 then some (.iload_n 1, 1, 0) else none) else (bif Nat.beq pc 1 then some (.iconst 1, 2, 0) else none)) else (bif Nat.blt pc 5 then (bif Nat.beq pc 2 then some (.if_icmp .lt 15, 5, 17) else none) else (bif Nat.blt pc 6 then (bif Nat.beq pc 5 then some (.iload_n 1, 6, 0) else none) else (bif Nat.beq pc 6 then some (.aload_n 0, 7, 0) else none)))) else (bif Nat.blt pc 14 then (bif Nat.blt pc 10 then (bif Nat.beq pc 7 then some (.getfield 61, 10, 0) else none) else (bif Nat.blt pc 13 then (bif Nat.beq pc 10 then some (.if_icmp .gt 7, 13, 17) else none) else (bif Nat.beq pc 13 then some (.iconst 1, 14, 0) else none))) else (bif Nat.blt pc 17 then (bif Nat.beq pc 14 then some (.goto 4, 17, 18) else none) else (bif Nat.blt pc 18 then (bif Nat.beq pc 17 then some (.iconst 0, 18, 0) else none) else (bif Nat.beq pc 18 then some (.ireturn, 19, 0) else none))))) else none
/-- verOrNone -/
def t_ins_6 (pc : Nat) : Option (Instr × Nat × Nat) := bif Nat.blt pc 18 then (bif Nat.blt pc 9 then (bif Nat.blt pc 4 then (bif Nat.blt pc 1 then (bif Nat.beq pc 0 then some (.iload_n 1, 1, 0) else none) else (bif Nat.beq pc 1 then some (.ifCond .lt 15, 4, 16) else none)) else (bif Nat.blt pc 5 then (bif Nat.beq pc 4 then some (.iload_n 1, 5, 0) else none) else (bif Nat.blt pc 6 then (bif Nat.beq pc 5 then some (.aload_n 0, 6, 0) else none) else (bif Nat.beq pc 6 then some (.getfield 61, 9, 0) else none)))) else (bif Nat.blt pc 13 then (bif Nat.blt pc 12 then (bif Nat.beq pc 9 then some (.if_icmp .gt 7, 12, 16) else none) else (bif Nat.beq pc 12 then some (.iconst 1, 13, 0) else none)) else (bif Nat.blt pc 16 then (bif Nat.beq pc 13 then some (.goto 4, 16, 17) else none) else (bif Nat.blt pc 17 then (bif Nat.beq pc 16 then some (.iconst 0, 17, 0) else none) else (bif Nat.beq pc 17 then some (.ireturn, 18, 0) else none))))) else none
/-- pairInRange -/
def t_ins_7 (pc : Nat) : Option (Instr × Nat × Nat) := bif Nat.blt pc 16 then (bif Nat.blt pc 9 then (bif Nat.blt pc 2 then (bif Nat.blt pc 1 then (bif Nat.beq pc 0 then some (.aload_n 0, 1, 0) else none) else (bif Nat.beq pc 1 then some (.iload_n 1, 2, 0) else none)) else (bif Nat.blt pc 5 then (bif Nat.beq pc 2 then some (.invokevirtual 64, 5, 0) else none) else (bif Nat.blt pc 8 then (bif Nat.beq pc 5 then some (.ifCond .ne 5, 8, 10) else none) else (bif Nat.beq pc 8 then some (.iconst 0, 9, 0) else none)))) else (bif Nat.blt pc 11 then (bif Nat.blt pc 10 then (bif Nat.beq pc 9 then some (.ireturn, 10, 0) else none) else (bif Nat.beq pc 10 then some (.aload_n 0, 11, 0) else none)) else (bif Nat.blt pc 12 then (bif Nat.beq pc 11 then some (.iload_n 2, 12, 0) else none) else (bif Nat.blt pc 15 then (bif Nat.beq pc 12 then some (.invokevirtual 68, 15, 0) else none) else (bif Nat.beq pc 15 then some (.ireturn, 16, 0) else none))))) else none
/-- slot -/
def t_ins_8 (pc : Nat) : Option (Instr × Nat × Nat) := bif Nat.blt pc 7 then (bif Nat.blt pc 4 then (bif Nat.blt pc 1 then (bif Nat.beq pc 0 then some (.iload_n 1, 1, 0) else none) else (bif Nat.blt pc 3 then (bif Nat.beq pc 1 then some (.bipush 9, 3, 0) else none) else (bif Nat.beq pc 3 then some (.imul, 4, 0) else none))) else (bif Nat.blt pc 5 then (bif Nat.beq pc 4 then some (.iload_n 2, 5, 0) else none) else (bif Nat.blt pc 6 then (bif Nat.beq pc 5 then some (.iadd, 6, 0) else none) else (bif Nat.beq pc 6 then some (.ireturn, 7, 0) else none)))) else none
/-- reqSlot -/
def t_ins_9 (pc : Nat) : Option (Instr × Nat × Nat) := bif Nat.blt pc 12 then (bif Nat.blt pc 6 then (bif Nat.blt pc 3 then (bif Nat.blt pc 1 then (bif Nat.beq pc 0 then some (.iload_n 1, 1, 0) else none) else (bif Nat.beq pc 1 then some (.bipush 9, 3, 0) else none)) else (bif Nat.blt pc 4 then (bif Nat.beq pc 3 then some (.imul, 4, 0) else none) else (bif Nat.blt pc 5 then (bif Nat.beq pc 4 then some (.iload_n 2, 5, 0) else none) else (bif Nat.beq pc 5 then some (.iadd, 6, 0) else none)))) else (bif Nat.blt pc 9 then (bif Nat.blt pc 8 then (bif Nat.beq pc 6 then some (.bipush 9, 8, 0) else none) else (bif Nat.beq pc 8 then some (.imul, 9, 0) else none)) else (bif Nat.blt pc 10 then (bif Nat.beq pc 9 then some (.iload_n 3, 10, 0) else none) else (bif Nat.blt pc 11 then (bif Nat.beq pc 10 then some (.iadd, 11, 0) else none) else (bif Nat.beq pc 11 then some (.ireturn, 12, 0) else none))))) else none
/-- isListed -/
def t_ins_10 (pc : Nat) : Option (Instr × Nat × Nat) := bif Nat.blt pc 23 then (bif Nat.blt pc 12 then (bif Nat.blt pc 6 then (bif Nat.blt pc 2 then (bif Nat.blt pc 1 then (bif Nat.beq pc 0 then some (.aload_n 0, 1, 0) else none) else (bif Nat.beq pc 1 then some (.iload_n 1, 2, 0) else none)) else (bif Nat.blt pc 3 then (bif Nat.beq pc 2 then some (.iload_n 2, 3, 0) else none) else (bif Nat.beq pc 3 then some (.invokevirtual 71, 6, 0) else none))) else (bif Nat.blt pc 10 then (bif Nat.blt pc 9 then (bif Nat.beq pc 6 then some (.ifCond .ne 5, 9, 11) else none) else (bif Nat.beq pc 9 then some (.iconst 0, 10, 0) else none)) else (bif Nat.blt pc 11 then (bif Nat.beq pc 10 then some (.ireturn, 11, 0) else none) else (bif Nat.beq pc 11 then some (.aload_n 0, 12, 0) else none)))) else (bif Nat.blt pc 19 then (bif Nat.blt pc 16 then (bif Nat.blt pc 15 then (bif Nat.beq pc 12 then some (.getfield 7, 15, 0) else none) else (bif Nat.beq pc 15 then some (.iload_n 1, 16, 0) else none)) else (bif Nat.blt pc 18 then (bif Nat.beq pc 16 then some (.bipush 9, 18, 0) else none) else (bif Nat.beq pc 18 then some (.imul, 19, 0) else none))) else (bif Nat.blt pc 21 then (bif Nat.blt pc 20 then (bif Nat.beq pc 19 then some (.iload_n 2, 20, 0) else none) else (bif Nat.beq pc 20 then some (.iadd, 21, 0) else none)) else (bif Nat.blt pc 22 then (bif Nat.beq pc 21 then some (.baload, 22, 0) else none) else (bif Nat.beq pc 22 then some (.ireturn, 23, 0) else none))))) else none
/-- isExcluded -/
def t_ins_11 (pc : Nat) : Option (Instr × Nat × Nat) := bif Nat.blt pc 23 then (bif Nat.blt pc 12 then (bif Nat.blt pc 6 then (bif Nat.blt pc 2 then (bif Nat.blt pc 1 then (bif Nat.beq pc 0 then some (.aload_n 0, 1, 0) else none) else (bif Nat.beq pc 1 then some (.iload_n 1, 2, 0) else none)) else (bif Nat.blt pc 3 then (bif Nat.beq pc 2 then some (.iload_n 2, 3, 0) else none) else (bif Nat.beq pc 3 then some (.invokevirtual 71, 6, 0) else none))) else (bif Nat.blt pc 10 then (bif Nat.blt pc 9 then (bif Nat.beq pc 6 then some (.ifCond .ne 5, 9, 11) else none) else (bif Nat.beq pc 9 then some (.iconst 0, 10, 0) else none)) else (bif Nat.blt pc 11 then (bif Nat.beq pc 10 then some (.ireturn, 11, 0) else none) else (bif Nat.beq pc 11 then some (.aload_n 0, 12, 0) else none)))) else (bif Nat.blt pc 19 then (bif Nat.blt pc 16 then (bif Nat.blt pc 15 then (bif Nat.beq pc 12 then some (.getfield 13, 15, 0) else none) else (bif Nat.beq pc 15 then some (.iload_n 1, 16, 0) else none)) else (bif Nat.blt pc 18 then (bif Nat.beq pc 16 then some (.bipush 9, 18, 0) else none) else (bif Nat.beq pc 18 then some (.imul, 19, 0) else none))) else (bif Nat.blt pc 21 then (bif Nat.blt pc 20 then (bif Nat.beq pc 19 then some (.iload_n 2, 20, 0) else none) else (bif Nat.beq pc 20 then some (.iadd, 21, 0) else none)) else (bif Nat.blt pc 22 then (bif Nat.beq pc 21 then some (.baload, 22, 0) else none) else (bif Nat.beq pc 22 then some (.ireturn, 23, 0) else none))))) else none
/-- usableVersion -/
def t_ins_12 (pc : Nat) : Option (Instr × Nat × Nat) := bif Nat.blt pc 26 then (bif Nat.blt pc 12 then (bif Nat.blt pc 6 then (bif Nat.blt pc 2 then (bif Nat.blt pc 1 then (bif Nat.beq pc 0 then some (.aload_n 0, 1, 0) else none) else (bif Nat.beq pc 1 then some (.iload_n 1, 2, 0) else none)) else (bif Nat.blt pc 3 then (bif Nat.beq pc 2 then some (.iload_n 2, 3, 0) else none) else (bif Nat.beq pc 3 then some (.invokevirtual 75, 6, 0) else none))) else (bif Nat.blt pc 10 then (bif Nat.blt pc 9 then (bif Nat.beq pc 6 then some (.ifCond .ne 5, 9, 11) else none) else (bif Nat.beq pc 9 then some (.iconst 0, 10, 0) else none)) else (bif Nat.blt pc 11 then (bif Nat.beq pc 10 then some (.ireturn, 11, 0) else none) else (bif Nat.beq pc 11 then some (.aload_n 0, 12, 0) else none)))) else (bif Nat.blt pc 20 then (bif Nat.blt pc 14 then (bif Nat.blt pc 13 then (bif Nat.beq pc 12 then some (.iload_n 1, 13, 0) else none) else (bif Nat.beq pc 13 then some (.iload_n 2, 14, 0) else none)) else (bif Nat.blt pc 17 then (bif Nat.beq pc 14 then some (.invokevirtual 78, 17, 0) else none) else (bif Nat.beq pc 17 then some (.ifCond .ne 7, 20, 24) else none))) else (bif Nat.blt pc 24 then (bif Nat.blt pc 21 then (bif Nat.beq pc 20 then some (.iconst 1, 21, 0) else none) else (bif Nat.beq pc 21 then some (.goto 4, 24, 25) else none)) else (bif Nat.blt pc 25 then (bif Nat.beq pc 24 then some (.iconst 0, 25, 0) else none) else (bif Nat.beq pc 25 then some (.ireturn, 26, 0) else none))))) else none
/-- requireArgsOk -/
def t_ins_13 (pc : Nat) : Option (Instr × Nat × Nat) := bif Nat.blt pc 33 then (bif Nat.blt pc 16 then (bif Nat.blt pc 9 then (bif Nat.blt pc 2 then (bif Nat.blt pc 1 then (bif Nat.beq pc 0 then some (.aload_n 0, 1, 0) else none) else (bif Nat.beq pc 1 then some (.iload_n 1, 2, 0) else none)) else (bif Nat.blt pc 3 then (bif Nat.beq pc 2 then some (.iload_n 2, 3, 0) else none) else (bif Nat.blt pc 6 then (bif Nat.beq pc 3 then some (.invokevirtual 71, 6, 0) else none) else (bif Nat.beq pc 6 then some (.ifCond .ne 5, 9, 11) else none)))) else (bif Nat.blt pc 11 then (bif Nat.blt pc 10 then (bif Nat.beq pc 9 then some (.iconst 0, 10, 0) else none) else (bif Nat.beq pc 10 then some (.ireturn, 11, 0) else none)) else (bif Nat.blt pc 12 then (bif Nat.beq pc 11 then some (.aload_n 0, 12, 0) else none) else (bif Nat.blt pc 13 then (bif Nat.beq pc 12 then some (.iload_n 3, 13, 0) else none) else (bif Nat.beq pc 13 then some (.invokevirtual 64, 16, 0) else none))))) else (bif Nat.blt pc 25 then (bif Nat.blt pc 20 then (bif Nat.blt pc 19 then (bif Nat.beq pc 16 then some (.ifCond .eq 8, 19, 24) else none) else (bif Nat.beq pc 19 then some (.iload_n 3, 20, 0) else none)) else (bif Nat.blt pc 21 then (bif Nat.beq pc 20 then some (.iload_n 1, 21, 0) else none) else (bif Nat.blt pc 24 then (bif Nat.beq pc 21 then some (.if_icmp .ne 5, 24, 26) else none) else (bif Nat.beq pc 24 then some (.iconst 0, 25, 0) else none)))) else (bif Nat.blt pc 27 then (bif Nat.blt pc 26 then (bif Nat.beq pc 25 then some (.ireturn, 26, 0) else none) else (bif Nat.beq pc 26 then some (.aload_n 0, 27, 0) else none)) else (bif Nat.blt pc 29 then (bif Nat.beq pc 27 then some (.iload 4, 29, 0) else none) else (bif Nat.blt pc 32 then (bif Nat.beq pc 29 then some (.invokevirtual 81, 32, 0) else none) else (bif Nat.beq pc 32 then some (.ireturn, 33, 0) else none)))))) else none
/-- listVersion -/
def t_ins_14 (pc : Nat) : Option (Instr × Nat × Nat) := bif Nat.blt pc 39 then (bif Nat.blt pc 19 then (bif Nat.blt pc 10 then (bif Nat.blt pc 3 then (bif Nat.blt pc 1 then (bif Nat.beq pc 0 then some (.aload_n 0, 1, 0) else none) else (bif Nat.blt pc 2 then (bif Nat.beq pc 1 then some (.iload_n 1, 2, 0) else none) else (bif Nat.beq pc 2 then some (.iload_n 2, 3, 0) else none))) else (bif Nat.blt pc 6 then (bif Nat.beq pc 3 then some (.invokevirtual 71, 6, 0) else none) else (bif Nat.blt pc 9 then (bif Nat.beq pc 6 then some (.ifCond .ne 5, 9, 11) else none) else (bif Nat.beq pc 9 then some (.iconst (-1), 10, 0) else none)))) else (bif Nat.blt pc 13 then (bif Nat.blt pc 11 then (bif Nat.beq pc 10 then some (.ireturn, 11, 0) else none) else (bif Nat.blt pc 12 then (bif Nat.beq pc 11 then some (.aload_n 0, 12, 0) else none) else (bif Nat.beq pc 12 then some (.iload_n 1, 13, 0) else none))) else (bif Nat.blt pc 17 then (bif Nat.blt pc 14 then (bif Nat.beq pc 13 then some (.iload_n 2, 14, 0) else none) else (bif Nat.beq pc 14 then some (.invokevirtual 84, 17, 0) else none)) else (bif Nat.blt pc 18 then (bif Nat.beq pc 17 then some (.istore_n 3, 18, 0) else none) else (bif Nat.beq pc 18 then some (.aload_n 0, 19, 0) else none))))) else (bif Nat.blt pc 30 then (bif Nat.blt pc 24 then (bif Nat.blt pc 22 then (bif Nat.beq pc 19 then some (.getfield 7, 22, 0) else none) else (bif Nat.blt pc 23 then (bif Nat.beq pc 22 then some (.iload_n 3, 23, 0) else none) else (bif Nat.beq pc 23 then some (.baload, 24, 0) else none))) else (bif Nat.blt pc 27 then (bif Nat.beq pc 24 then some (.ifCond .eq 6, 27, 30) else none) else (bif Nat.blt pc 29 then (bif Nat.beq pc 27 then some (.bipush (-3), 29, 0) else none) else (bif Nat.beq pc 29 then some (.ireturn, 30, 0) else none)))) else (bif Nat.blt pc 35 then (bif Nat.blt pc 31 then (bif Nat.beq pc 30 then some (.aload_n 0, 31, 0) else none) else (bif Nat.blt pc 34 then (bif Nat.beq pc 31 then some (.getfield 7, 34, 0) else none) else (bif Nat.beq pc 34 then some (.iload_n 3, 35, 0) else none))) else (bif Nat.blt pc 37 then (bif Nat.blt pc 36 then (bif Nat.beq pc 35 then some (.iconst 1, 36, 0) else none) else (bif Nat.beq pc 36 then some (.bastore, 37, 0) else none)) else (bif Nat.blt pc 38 then (bif Nat.beq pc 37 then some (.iconst 0, 38, 0) else none) else (bif Nat.beq pc 38 then some (.ireturn, 39, 0) else none)))))) else none
/-- require -/
def t_ins_15 (pc : Nat) : Option (Instr × Nat × Nat) := bif Nat.blt pc 60 then (bif Nat.blt pc 31 then (bif Nat.blt pc 14 then (bif Nat.blt pc 4 then (bif Nat.blt pc 2 then (bif Nat.blt pc 1 then (bif Nat.beq pc 0 then some (.aload_n 0, 1, 0) else none) else (bif Nat.beq pc 1 then some (.iload_n 1, 2, 0) else none)) else (bif Nat.blt pc 3 then (bif Nat.beq pc 2 then some (.iload_n 2, 3, 0) else none) else (bif Nat.beq pc 3 then some (.iload_n 3, 4, 0) else none))) else (bif Nat.blt pc 9 then (bif Nat.blt pc 6 then (bif Nat.beq pc 4 then some (.iload 4, 6, 0) else none) else (bif Nat.beq pc 6 then some (.invokevirtual 88, 9, 0) else none)) else (bif Nat.blt pc 12 then (bif Nat.beq pc 9 then some (.ifCond .ne 5, 12, 14) else none) else (bif Nat.blt pc 13 then (bif Nat.beq pc 12 then some (.iconst (-1), 13, 0) else none) else (bif Nat.beq pc 13 then some (.ireturn, 14, 0) else none))))) else (bif Nat.blt pc 20 then (bif Nat.blt pc 16 then (bif Nat.blt pc 15 then (bif Nat.beq pc 14 then some (.aload_n 0, 15, 0) else none) else (bif Nat.beq pc 15 then some (.iload_n 1, 16, 0) else none)) else (bif Nat.blt pc 17 then (bif Nat.beq pc 16 then some (.iload_n 2, 17, 0) else none) else (bif Nat.beq pc 17 then some (.invokevirtual 75, 20, 0) else none))) else (bif Nat.blt pc 25 then (bif Nat.blt pc 23 then (bif Nat.beq pc 20 then some (.ifCond .ne 6, 23, 26) else none) else (bif Nat.beq pc 23 then some (.bipush (-2), 25, 0) else none)) else (bif Nat.blt pc 26 then (bif Nat.beq pc 25 then some (.ireturn, 26, 0) else none) else (bif Nat.blt pc 28 then (bif Nat.beq pc 26 then some (.iload 4, 28, 0) else none) else (bif Nat.beq pc 28 then some (.ifCond .eq 16, 31, 44) else none)))))) else (bif Nat.blt pc 48 then (bif Nat.blt pc 38 then (bif Nat.blt pc 33 then (bif Nat.blt pc 32 then (bif Nat.beq pc 31 then some (.aload_n 0, 32, 0) else none) else (bif Nat.beq pc 32 then some (.iload_n 3, 33, 0) else none)) else (bif Nat.blt pc 35 then (bif Nat.beq pc 33 then some (.iload 4, 35, 0) else none) else (bif Nat.beq pc 35 then some (.invokevirtual 75, 38, 0) else none))) else (bif Nat.blt pc 43 then (bif Nat.blt pc 41 then (bif Nat.beq pc 38 then some (.ifCond .ne 6, 41, 44) else none) else (bif Nat.beq pc 41 then some (.bipush (-2), 43, 0) else none)) else (bif Nat.blt pc 44 then (bif Nat.beq pc 43 then some (.ireturn, 44, 0) else none) else (bif Nat.blt pc 45 then (bif Nat.beq pc 44 then some (.aload_n 0, 45, 0) else none) else (bif Nat.beq pc 45 then some (.getfield 20, 48, 0) else none))))) else (bif Nat.blt pc 52 then (bif Nat.blt pc 50 then (bif Nat.blt pc 49 then (bif Nat.beq pc 48 then some (.aload_n 0, 49, 0) else none) else (bif Nat.beq pc 49 then some (.iload_n 1, 50, 0) else none)) else (bif Nat.blt pc 51 then (bif Nat.beq pc 50 then some (.iload_n 2, 51, 0) else none) else (bif Nat.beq pc 51 then some (.iload_n 3, 52, 0) else none))) else (bif Nat.blt pc 57 then (bif Nat.blt pc 55 then (bif Nat.beq pc 52 then some (.invokevirtual 92, 55, 0) else none) else (bif Nat.beq pc 55 then some (.iload 4, 57, 0) else none)) else (bif Nat.blt pc 58 then (bif Nat.beq pc 57 then some (.iastore, 58, 0) else none) else (bif Nat.blt pc 59 then (bif Nat.beq pc 58 then some (.iconst 0, 59, 0) else none) else (bif Nat.beq pc 59 then some (.ireturn, 60, 0) else none))))))) else none
/-- requireMain -/
def t_ins_16 (pc : Nat) : Option (Instr × Nat × Nat) := bif Nat.blt pc 43 then (bif Nat.blt pc 23 then (bif Nat.blt pc 10 then (bif Nat.blt pc 5 then (bif Nat.blt pc 1 then (bif Nat.beq pc 0 then some (.aload_n 0, 1, 0) else none) else (bif Nat.blt pc 2 then (bif Nat.beq pc 1 then some (.iload_n 1, 2, 0) else none) else (bif Nat.beq pc 2 then some (.invokevirtual 64, 5, 0) else none))) else (bif Nat.blt pc 8 then (bif Nat.beq pc 5 then some (.ifCond .eq 11, 8, 16) else none) else (bif Nat.blt pc 9 then (bif Nat.beq pc 8 then some (.aload_n 0, 9, 0) else none) else (bif Nat.beq pc 9 then some (.iload_n 2, 10, 0) else none)))) else (bif Nat.blt pc 17 then (bif Nat.blt pc 13 then (bif Nat.beq pc 10 then some (.invokevirtual 81, 13, 0) else none) else (bif Nat.blt pc 16 then (bif Nat.beq pc 13 then some (.ifCond .ne 5, 16, 18) else none) else (bif Nat.beq pc 16 then some (.iconst (-1), 17, 0) else none))) else (bif Nat.blt pc 19 then (bif Nat.blt pc 18 then (bif Nat.beq pc 17 then some (.ireturn, 18, 0) else none) else (bif Nat.beq pc 18 then some (.iload_n 2, 19, 0) else none)) else (bif Nat.blt pc 22 then (bif Nat.beq pc 19 then some (.ifCond .eq 15, 22, 34) else none) else (bif Nat.beq pc 22 then some (.aload_n 0, 23, 0) else none))))) else (bif Nat.blt pc 34 then (bif Nat.blt pc 28 then (bif Nat.blt pc 24 then (bif Nat.beq pc 23 then some (.iload_n 1, 24, 0) else none) else (bif Nat.blt pc 25 then (bif Nat.beq pc 24 then some (.iload_n 2, 25, 0) else none) else (bif Nat.beq pc 25 then some (.invokevirtual 75, 28, 0) else none))) else (bif Nat.blt pc 31 then (bif Nat.beq pc 28 then some (.ifCond .ne 6, 31, 34) else none) else (bif Nat.blt pc 33 then (bif Nat.beq pc 31 then some (.bipush (-2), 33, 0) else none) else (bif Nat.beq pc 33 then some (.ireturn, 34, 0) else none)))) else (bif Nat.blt pc 39 then (bif Nat.blt pc 35 then (bif Nat.beq pc 34 then some (.aload_n 0, 35, 0) else none) else (bif Nat.blt pc 38 then (bif Nat.beq pc 35 then some (.getfield 23, 38, 0) else none) else (bif Nat.beq pc 38 then some (.iload_n 1, 39, 0) else none))) else (bif Nat.blt pc 41 then (bif Nat.blt pc 40 then (bif Nat.beq pc 39 then some (.iload_n 2, 40, 0) else none) else (bif Nat.beq pc 40 then some (.iastore, 41, 0) else none)) else (bif Nat.blt pc 42 then (bif Nat.beq pc 41 then some (.iconst 0, 42, 0) else none) else (bif Nat.beq pc 42 then some (.ireturn, 43, 0) else none)))))) else none
/-- exclude -/
def t_ins_17 (pc : Nat) : Option (Instr × Nat × Nat) := bif Nat.blt pc 50 then (bif Nat.blt pc 25 then (bif Nat.blt pc 11 then (bif Nat.blt pc 3 then (bif Nat.blt pc 1 then (bif Nat.beq pc 0 then some (.aload_n 0, 1, 0) else none) else (bif Nat.blt pc 2 then (bif Nat.beq pc 1 then some (.iload_n 1, 2, 0) else none) else (bif Nat.beq pc 2 then some (.iload_n 2, 3, 0) else none))) else (bif Nat.blt pc 9 then (bif Nat.blt pc 6 then (bif Nat.beq pc 3 then some (.invokevirtual 71, 6, 0) else none) else (bif Nat.beq pc 6 then some (.ifCond .ne 5, 9, 11) else none)) else (bif Nat.blt pc 10 then (bif Nat.beq pc 9 then some (.iconst (-1), 10, 0) else none) else (bif Nat.beq pc 10 then some (.ireturn, 11, 0) else none)))) else (bif Nat.blt pc 17 then (bif Nat.blt pc 13 then (bif Nat.blt pc 12 then (bif Nat.beq pc 11 then some (.aload_n 0, 12, 0) else none) else (bif Nat.beq pc 12 then some (.iload_n 1, 13, 0) else none)) else (bif Nat.blt pc 14 then (bif Nat.beq pc 13 then some (.iload_n 2, 14, 0) else none) else (bif Nat.beq pc 14 then some (.invokevirtual 84, 17, 0) else none))) else (bif Nat.blt pc 20 then (bif Nat.blt pc 19 then (bif Nat.beq pc 17 then some (.istore 4, 19, 0) else none) else (bif Nat.beq pc 19 then some (.aload_n 0, 20, 0) else none)) else (bif Nat.blt pc 23 then (bif Nat.beq pc 20 then some (.getfield 7, 23, 0) else none) else (bif Nat.beq pc 23 then some (.iload 4, 25, 0) else none))))) else (bif Nat.blt pc 38 then (bif Nat.blt pc 31 then (bif Nat.blt pc 26 then (bif Nat.beq pc 25 then some (.baload, 26, 0) else none) else (bif Nat.blt pc 29 then (bif Nat.beq pc 26 then some (.ifCond .ne 6, 29, 32) else none) else (bif Nat.beq pc 29 then some (.bipush (-2), 31, 0) else none))) else (bif Nat.blt pc 33 then (bif Nat.blt pc 32 then (bif Nat.beq pc 31 then some (.ireturn, 32, 0) else none) else (bif Nat.beq pc 32 then some (.aload_n 0, 33, 0) else none)) else (bif Nat.blt pc 36 then (bif Nat.beq pc 33 then some (.getfield 13, 36, 0) else none) else (bif Nat.beq pc 36 then some (.iload 4, 38, 0) else none)))) else (bif Nat.blt pc 46 then (bif Nat.blt pc 42 then (bif Nat.blt pc 39 then (bif Nat.beq pc 38 then some (.iload_n 3, 39, 0) else none) else (bif Nat.beq pc 39 then some (.ifCond .eq 7, 42, 46) else none)) else (bif Nat.blt pc 43 then (bif Nat.beq pc 42 then some (.iconst 1, 43, 0) else none) else (bif Nat.beq pc 43 then some (.goto 4, 46, 47) else none))) else (bif Nat.blt pc 48 then (bif Nat.blt pc 47 then (bif Nat.beq pc 46 then some (.iconst 0, 47, 0) else none) else (bif Nat.beq pc 47 then some (.bastore, 48, 0) else none)) else (bif Nat.blt pc 49 then (bif Nat.beq pc 48 then some (.iconst 0, 49, 0) else none) else (bif Nat.beq pc 49 then some (.ireturn, 50, 0) else none)))))) else none
/-- replace -/
def t_ins_18 (pc : Nat) : Option (Instr × Nat × Nat) := bif Nat.blt pc 82 then (bif Nat.blt pc 41 then (bif Nat.blt pc 20 then (bif Nat.blt pc 10 then (bif Nat.blt pc 3 then (bif Nat.blt pc 1 then (bif Nat.beq pc 0 then some (.aload_n 0, 1, 0) else none) else (bif Nat.blt pc 2 then (bif Nat.beq pc 1 then some (.iload_n 1, 2, 0) else none) else (bif Nat.beq pc 2 then some (.iload_n 2, 3, 0) else none))) else (bif Nat.blt pc 6 then (bif Nat.beq pc 3 then some (.invokevirtual 71, 6, 0) else none) else (bif Nat.blt pc 9 then (bif Nat.beq pc 6 then some (.ifCond .eq 11, 9, 17) else none) else (bif Nat.beq pc 9 then some (.aload_n 0, 10, 0) else none)))) else (bif Nat.blt pc 17 then (bif Nat.blt pc 11 then (bif Nat.beq pc 10 then some (.iload_n 3, 11, 0) else none) else (bif Nat.blt pc 14 then (bif Nat.beq pc 11 then some (.invokevirtual 81, 14, 0) else none) else (bif Nat.beq pc 14 then some (.ifCond .ne 5, 17, 19) else none))) else (bif Nat.blt pc 18 then (bif Nat.beq pc 17 then some (.iconst (-1), 18, 0) else none) else (bif Nat.blt pc 19 then (bif Nat.beq pc 18 then some (.ireturn, 19, 0) else none) else (bif Nat.beq pc 19 then some (.aload_n 0, 20, 0) else none))))) else (bif Nat.blt pc 31 then (bif Nat.blt pc 25 then (bif Nat.blt pc 21 then (bif Nat.beq pc 20 then some (.iload_n 1, 21, 0) else none) else (bif Nat.blt pc 22 then (bif Nat.beq pc 21 then some (.iload_n 2, 22, 0) else none) else (bif Nat.beq pc 22 then some (.invokevirtual 84, 25, 0) else none))) else (bif Nat.blt pc 27 then (bif Nat.beq pc 25 then some (.istore 4, 27, 0) else none) else (bif Nat.blt pc 28 then (bif Nat.beq pc 27 then some (.aload_n 0, 28, 0) else none) else (bif Nat.beq pc 28 then some (.getfield 7, 31, 0) else none)))) else (bif Nat.blt pc 37 then (bif Nat.blt pc 33 then (bif Nat.beq pc 31 then some (.iload 4, 33, 0) else none) else (bif Nat.blt pc 34 then (bif Nat.beq pc 33 then some (.baload, 34, 0) else none) else (bif Nat.beq pc 34 then some (.ifCond .ne 6, 37, 40) else none))) else (bif Nat.blt pc 39 then (bif Nat.beq pc 37 then some (.bipush (-2), 39, 0) else none) else (bif Nat.blt pc 40 then (bif Nat.beq pc 39 then some (.ireturn, 40, 0) else none) else (bif Nat.beq pc 40 then some (.iload_n 3, 41, 0) else none)))))) else (bif Nat.blt pc 62 then (bif Nat.blt pc 53 then (bif Nat.blt pc 46 then (bif Nat.blt pc 44 then (bif Nat.beq pc 41 then some (.ifCond .eq 15, 44, 56) else none) else (bif Nat.blt pc 45 then (bif Nat.beq pc 44 then some (.aload_n 0, 45, 0) else none) else (bif Nat.beq pc 45 then some (.iload_n 1, 46, 0) else none))) else (bif Nat.blt pc 47 then (bif Nat.beq pc 46 then some (.iload_n 3, 47, 0) else none) else (bif Nat.blt pc 50 then (bif Nat.beq pc 47 then some (.invokevirtual 75, 50, 0) else none) else (bif Nat.beq pc 50 then some (.ifCond .ne 6, 53, 56) else none)))) else (bif Nat.blt pc 57 then (bif Nat.blt pc 55 then (bif Nat.beq pc 53 then some (.bipush (-2), 55, 0) else none) else (bif Nat.blt pc 56 then (bif Nat.beq pc 55 then some (.ireturn, 56, 0) else none) else (bif Nat.beq pc 56 then some (.iload_n 3, 57, 0) else none))) else (bif Nat.blt pc 58 then (bif Nat.beq pc 57 then some (.iload_n 2, 58, 0) else none) else (bif Nat.blt pc 61 then (bif Nat.beq pc 58 then some (.if_icmp .ne 14, 61, 72) else none) else (bif Nat.beq pc 61 then some (.aload_n 0, 62, 0) else none))))) else (bif Nat.blt pc 73 then (bif Nat.blt pc 68 then (bif Nat.blt pc 65 then (bif Nat.beq pc 62 then some (.getfield 16, 65, 0) else none) else (bif Nat.blt pc 67 then (bif Nat.beq pc 65 then some (.iload 4, 67, 0) else none) else (bif Nat.beq pc 67 then some (.iconst 0, 68, 0) else none))) else (bif Nat.blt pc 69 then (bif Nat.beq pc 68 then some (.iastore, 69, 0) else none) else (bif Nat.blt pc 72 then (bif Nat.beq pc 69 then some (.goto 11, 72, 80) else none) else (bif Nat.beq pc 72 then some (.aload_n 0, 73, 0) else none)))) else (bif Nat.blt pc 79 then (bif Nat.blt pc 76 then (bif Nat.beq pc 73 then some (.getfield 16, 76, 0) else none) else (bif Nat.blt pc 78 then (bif Nat.beq pc 76 then some (.iload 4, 78, 0) else none) else (bif Nat.beq pc 78 then some (.iload_n 3, 79, 0) else none))) else (bif Nat.blt pc 80 then (bif Nat.beq pc 79 then some (.iastore, 80, 0) else none) else (bif Nat.blt pc 81 then (bif Nat.beq pc 80 then some (.iconst 0, 81, 0) else none) else (bif Nat.beq pc 81 then some (.ireturn, 82, 0) else none))))))) else none
/-- buildStatus -/
def t_ins_19 (pc : Nat) : Option (Instr × Nat × Nat) := bif Nat.blt pc 12 then (bif Nat.blt pc 7 then (bif Nat.blt pc 1 then (bif Nat.beq pc 0 then some (.aload_n 0, 1, 0) else none) else (bif Nat.blt pc 4 then (bif Nat.beq pc 1 then some (.invokevirtual 96, 4, 0) else none) else (bif Nat.beq pc 4 then some (.ifCond .eq 5, 7, 9) else none))) else (bif Nat.blt pc 9 then (bif Nat.blt pc 8 then (bif Nat.beq pc 7 then some (.iconst 0, 8, 0) else none) else (bif Nat.beq pc 8 then some (.ireturn, 9, 0) else none)) else (bif Nat.blt pc 11 then (bif Nat.beq pc 9 then some (.bipush (-4), 11, 0) else none) else (bif Nat.beq pc 11 then some (.ireturn, 12, 0) else none)))) else none
/-- selected -/
def t_ins_20 (pc : Nat) : Option (Instr × Nat × Nat) := bif Nat.blt pc 27 then (bif Nat.blt pc 14 then (bif Nat.blt pc 8 then (bif Nat.blt pc 2 then (bif Nat.blt pc 1 then (bif Nat.beq pc 0 then some (.aload_n 0, 1, 0) else none) else (bif Nat.beq pc 1 then some (.iload_n 1, 2, 0) else none)) else (bif Nat.blt pc 5 then (bif Nat.beq pc 2 then some (.invokevirtual 64, 5, 0) else none) else (bif Nat.beq pc 5 then some (.ifCond .ne 5, 8, 10) else none))) else (bif Nat.blt pc 10 then (bif Nat.blt pc 9 then (bif Nat.beq pc 8 then some (.iconst (-1), 9, 0) else none) else (bif Nat.beq pc 9 then some (.ireturn, 10, 0) else none)) else (bif Nat.blt pc 11 then (bif Nat.beq pc 10 then some (.aload_n 0, 11, 0) else none) else (bif Nat.beq pc 11 then some (.invokevirtual 96, 14, 0) else none)))) else (bif Nat.blt pc 21 then (bif Nat.blt pc 19 then (bif Nat.blt pc 17 then (bif Nat.beq pc 14 then some (.ifCond .ne 6, 17, 20) else none) else (bif Nat.beq pc 17 then some (.bipush (-4), 19, 0) else none)) else (bif Nat.blt pc 20 then (bif Nat.beq pc 19 then some (.ireturn, 20, 0) else none) else (bif Nat.beq pc 20 then some (.aload_n 0, 21, 0) else none))) else (bif Nat.blt pc 25 then (bif Nat.blt pc 24 then (bif Nat.beq pc 21 then some (.getfield 29, 24, 0) else none) else (bif Nat.beq pc 24 then some (.iload_n 1, 25, 0) else none)) else (bif Nat.blt pc 26 then (bif Nat.beq pc 25 then some (.iaload, 26, 0) else none) else (bif Nat.beq pc 26 then some (.ireturn, 27, 0) else none))))) else none
/-- buildSize -/
def t_ins_21 (pc : Nat) : Option (Instr × Nat × Nat) := bif Nat.blt pc 15 then (bif Nat.blt pc 9 then (bif Nat.blt pc 4 then (bif Nat.blt pc 1 then (bif Nat.beq pc 0 then some (.aload_n 0, 1, 0) else none) else (bif Nat.beq pc 1 then some (.invokevirtual 96, 4, 0) else none)) else (bif Nat.blt pc 7 then (bif Nat.beq pc 4 then some (.ifCond .ne 6, 7, 10) else none) else (bif Nat.beq pc 7 then some (.bipush (-4), 9, 0) else none))) else (bif Nat.blt pc 11 then (bif Nat.blt pc 10 then (bif Nat.beq pc 9 then some (.ireturn, 10, 0) else none) else (bif Nat.beq pc 10 then some (.aload_n 0, 11, 0) else none)) else (bif Nat.blt pc 14 then (bif Nat.beq pc 11 then some (.invokevirtual 100, 14, 0) else none) else (bif Nat.beq pc 14 then some (.ireturn, 15, 0) else none)))) else none
/-- mainRequirement -/
def t_ins_22 (pc : Nat) : Option (Instr × Nat × Nat) := bif Nat.blt pc 17 then (bif Nat.blt pc 9 then (bif Nat.blt pc 2 then (bif Nat.blt pc 1 then (bif Nat.beq pc 0 then some (.aload_n 0, 1, 0) else none) else (bif Nat.beq pc 1 then some (.iload_n 1, 2, 0) else none)) else (bif Nat.blt pc 5 then (bif Nat.beq pc 2 then some (.invokevirtual 64, 5, 0) else none) else (bif Nat.blt pc 8 then (bif Nat.beq pc 5 then some (.ifCond .ne 5, 8, 10) else none) else (bif Nat.beq pc 8 then some (.iconst (-1), 9, 0) else none)))) else (bif Nat.blt pc 14 then (bif Nat.blt pc 10 then (bif Nat.beq pc 9 then some (.ireturn, 10, 0) else none) else (bif Nat.blt pc 11 then (bif Nat.beq pc 10 then some (.aload_n 0, 11, 0) else none) else (bif Nat.beq pc 11 then some (.getfield 23, 14, 0) else none))) else (bif Nat.blt pc 15 then (bif Nat.beq pc 14 then some (.iload_n 1, 15, 0) else none) else (bif Nat.blt pc 16 then (bif Nat.beq pc 15 then some (.iaload, 16, 0) else none) else (bif Nat.beq pc 16 then some (.ireturn, 17, 0) else none))))) else none
/-- requirementOf -/
def t_ins_23 (pc : Nat) : Option (Instr × Nat × Nat) := bif Nat.blt pc 39 then (bif Nat.blt pc 20 then (bif Nat.blt pc 10 then (bif Nat.blt pc 3 then (bif Nat.blt pc 1 then (bif Nat.beq pc 0 then some (.aload_n 0, 1, 0) else none) else (bif Nat.blt pc 2 then (bif Nat.beq pc 1 then some (.iload_n 1, 2, 0) else none) else (bif Nat.beq pc 2 then some (.iload_n 2, 3, 0) else none))) else (bif Nat.blt pc 6 then (bif Nat.beq pc 3 then some (.invokevirtual 71, 6, 0) else none) else (bif Nat.blt pc 9 then (bif Nat.beq pc 6 then some (.ifCond .ne 5, 9, 11) else none) else (bif Nat.beq pc 9 then some (.iconst (-1), 10, 0) else none)))) else (bif Nat.blt pc 13 then (bif Nat.blt pc 11 then (bif Nat.beq pc 10 then some (.ireturn, 11, 0) else none) else (bif Nat.blt pc 12 then (bif Nat.beq pc 11 then some (.aload_n 0, 12, 0) else none) else (bif Nat.beq pc 12 then some (.iload_n 3, 13, 0) else none))) else (bif Nat.blt pc 16 then (bif Nat.beq pc 13 then some (.invokevirtual 64, 16, 0) else none) else (bif Nat.blt pc 19 then (bif Nat.beq pc 16 then some (.ifCond .eq 8, 19, 24) else none) else (bif Nat.beq pc 19 then some (.iload_n 3, 20, 0) else none))))) else (bif Nat.blt pc 30 then (bif Nat.blt pc 25 then (bif Nat.blt pc 21 then (bif Nat.beq pc 20 then some (.iload_n 1, 21, 0) else none) else (bif Nat.blt pc 24 then (bif Nat.beq pc 21 then some (.if_icmp .ne 5, 24, 26) else none) else (bif Nat.beq pc 24 then some (.iconst (-1), 25, 0) else none))) else (bif Nat.blt pc 26 then (bif Nat.beq pc 25 then some (.ireturn, 26, 0) else none) else (bif Nat.blt pc 27 then (bif Nat.beq pc 26 then some (.aload_n 0, 27, 0) else none) else (bif Nat.beq pc 27 then some (.getfield 20, 30, 0) else none)))) else (bif Nat.blt pc 33 then (bif Nat.blt pc 31 then (bif Nat.beq pc 30 then some (.aload_n 0, 31, 0) else none) else (bif Nat.blt pc 32 then (bif Nat.beq pc 31 then some (.iload_n 1, 32, 0) else none) else (bif Nat.beq pc 32 then some (.iload_n 2, 33, 0) else none))) else (bif Nat.blt pc 37 then (bif Nat.blt pc 34 then (bif Nat.beq pc 33 then some (.iload_n 3, 34, 0) else none) else (bif Nat.beq pc 34 then some (.invokevirtual 92, 37, 0) else none)) else (bif Nat.blt pc 38 then (bif Nat.beq pc 37 then some (.iaload, 38, 0) else none) else (bif Nat.beq pc 38 then some (.ireturn, 39, 0) else none)))))) else none
/-- versionFlags -/
def t_ins_24 (pc : Nat) : Option (Instr × Nat × Nat) := bif Nat.blt pc 48 then (bif Nat.blt pc 21 then (bif Nat.blt pc 11 then (bif Nat.blt pc 3 then (bif Nat.blt pc 1 then (bif Nat.beq pc 0 then some (.aload_n 0, 1, 0) else none) else (bif Nat.blt pc 2 then (bif Nat.beq pc 1 then some (.iload_n 1, 2, 0) else none) else (bif Nat.beq pc 2 then some (.iload_n 2, 3, 0) else none))) else (bif Nat.blt pc 9 then (bif Nat.blt pc 6 then (bif Nat.beq pc 3 then some (.invokevirtual 71, 6, 0) else none) else (bif Nat.beq pc 6 then some (.ifCond .ne 5, 9, 11) else none)) else (bif Nat.blt pc 10 then (bif Nat.beq pc 9 then some (.iconst (-1), 10, 0) else none) else (bif Nat.beq pc 10 then some (.ireturn, 11, 0) else none)))) else (bif Nat.blt pc 14 then (bif Nat.blt pc 12 then (bif Nat.beq pc 11 then some (.aload_n 0, 12, 0) else none) else (bif Nat.blt pc 13 then (bif Nat.beq pc 12 then some (.iload_n 1, 13, 0) else none) else (bif Nat.beq pc 13 then some (.iload_n 2, 14, 0) else none))) else (bif Nat.blt pc 18 then (bif Nat.blt pc 17 then (bif Nat.beq pc 14 then some (.invokevirtual 84, 17, 0) else none) else (bif Nat.beq pc 17 then some (.istore_n 3, 18, 0) else none)) else (bif Nat.blt pc 19 then (bif Nat.beq pc 18 then some (.iconst 0, 19, 0) else none) else (bif Nat.beq pc 19 then some (.istore 4, 21, 0) else none))))) else (bif Nat.blt pc 34 then (bif Nat.blt pc 26 then (bif Nat.blt pc 22 then (bif Nat.beq pc 21 then some (.aload_n 0, 22, 0) else none) else (bif Nat.blt pc 25 then (bif Nat.beq pc 22 then some (.getfield 7, 25, 0) else none) else (bif Nat.beq pc 25 then some (.iload_n 3, 26, 0) else none))) else (bif Nat.blt pc 30 then (bif Nat.blt pc 27 then (bif Nat.beq pc 26 then some (.baload, 27, 0) else none) else (bif Nat.beq pc 27 then some (.ifCond .eq 6, 30, 33) else none)) else (bif Nat.blt pc 33 then (bif Nat.beq pc 30 then some (.iinc 4 1, 33, 0) else none) else (bif Nat.beq pc 33 then some (.aload_n 0, 34, 0) else none)))) else (bif Nat.blt pc 39 then (bif Nat.blt pc 37 then (bif Nat.beq pc 34 then some (.getfield 13, 37, 0) else none) else (bif Nat.blt pc 38 then (bif Nat.beq pc 37 then some (.iload_n 3, 38, 0) else none) else (bif Nat.beq pc 38 then some (.baload, 39, 0) else none))) else (bif Nat.blt pc 45 then (bif Nat.blt pc 42 then (bif Nat.beq pc 39 then some (.ifCond .eq 6, 42, 45) else none) else (bif Nat.beq pc 42 then some (.iinc 4 2, 45, 0) else none)) else (bif Nat.blt pc 47 then (bif Nat.beq pc 45 then some (.iload 4, 47, 0) else none) else (bif Nat.beq pc 47 then some (.ireturn, 48, 0) else none)))))) else none
/-- replacementOf -/
def t_ins_25 (pc : Nat) : Option (Instr × Nat × Nat) := bif Nat.blt pc 23 then (bif Nat.blt pc 11 then (bif Nat.blt pc 3 then (bif Nat.blt pc 1 then (bif Nat.beq pc 0 then some (.aload_n 0, 1, 0) else none) else (bif Nat.blt pc 2 then (bif Nat.beq pc 1 then some (.iload_n 1, 2, 0) else none) else (bif Nat.beq pc 2 then some (.iload_n 2, 3, 0) else none))) else (bif Nat.blt pc 9 then (bif Nat.blt pc 6 then (bif Nat.beq pc 3 then some (.invokevirtual 71, 6, 0) else none) else (bif Nat.beq pc 6 then some (.ifCond .ne 5, 9, 11) else none)) else (bif Nat.blt pc 10 then (bif Nat.beq pc 9 then some (.iconst (-1), 10, 0) else none) else (bif Nat.beq pc 10 then some (.ireturn, 11, 0) else none)))) else (bif Nat.blt pc 17 then (bif Nat.blt pc 15 then (bif Nat.blt pc 12 then (bif Nat.beq pc 11 then some (.aload_n 0, 12, 0) else none) else (bif Nat.beq pc 12 then some (.getfield 16, 15, 0) else none)) else (bif Nat.blt pc 16 then (bif Nat.beq pc 15 then some (.aload_n 0, 16, 0) else none) else (bif Nat.beq pc 16 then some (.iload_n 1, 17, 0) else none))) else (bif Nat.blt pc 21 then (bif Nat.blt pc 18 then (bif Nat.beq pc 17 then some (.iload_n 2, 18, 0) else none) else (bif Nat.beq pc 18 then some (.invokevirtual 84, 21, 0) else none)) else (bif Nat.blt pc 22 then (bif Nat.beq pc 21 then some (.iaload, 22, 0) else none) else (bif Nat.beq pc 22 then some (.ireturn, 23, 0) else none))))) else none
/-- upgrade -/
def t_ins_26 (pc : Nat) : Option (Instr × Nat × Nat) := bif Nat.blt pc 103 then (bif Nat.blt pc 56 then (bif Nat.blt pc 27 then (bif Nat.blt pc 13 then (bif Nat.blt pc 5 then (bif Nat.blt pc 1 then (bif Nat.beq pc 0 then some (.aload_n 0, 1, 0) else none) else (bif Nat.blt pc 2 then (bif Nat.beq pc 1 then some (.iload_n 1, 2, 0) else none) else (bif Nat.beq pc 2 then some (.invokevirtual 64, 5, 0) else none))) else (bif Nat.blt pc 9 then (bif Nat.blt pc 8 then (bif Nat.beq pc 5 then some (.ifCond .eq 11, 8, 16) else none) else (bif Nat.beq pc 8 then some (.aload_n 0, 9, 0) else none)) else (bif Nat.blt pc 10 then (bif Nat.beq pc 9 then some (.iload_n 2, 10, 0) else none) else (bif Nat.beq pc 10 then some (.invokevirtual 68, 13, 0) else none)))) else (bif Nat.blt pc 19 then (bif Nat.blt pc 17 then (bif Nat.blt pc 16 then (bif Nat.beq pc 13 then some (.ifCond .ne 5, 16, 18) else none) else (bif Nat.beq pc 16 then some (.iconst (-1), 17, 0) else none)) else (bif Nat.blt pc 18 then (bif Nat.beq pc 17 then some (.ireturn, 18, 0) else none) else (bif Nat.beq pc 18 then some (.aload_n 0, 19, 0) else none))) else (bif Nat.blt pc 21 then (bif Nat.blt pc 20 then (bif Nat.beq pc 19 then some (.iload_n 1, 20, 0) else none) else (bif Nat.beq pc 20 then some (.iload_n 2, 21, 0) else none)) else (bif Nat.blt pc 24 then (bif Nat.beq pc 21 then some (.invokevirtual 75, 24, 0) else none) else (bif Nat.beq pc 24 then some (.ifCond .ne 6, 27, 30) else none))))) else (bif Nat.blt pc 41 then (bif Nat.blt pc 32 then (bif Nat.blt pc 30 then (bif Nat.blt pc 29 then (bif Nat.beq pc 27 then some (.bipush (-2), 29, 0) else none) else (bif Nat.beq pc 29 then some (.ireturn, 30, 0) else none)) else (bif Nat.blt pc 31 then (bif Nat.beq pc 30 then some (.aload_n 0, 31, 0) else none) else (bif Nat.beq pc 31 then some (.iload_n 1, 32, 0) else none))) else (bif Nat.blt pc 36 then (bif Nat.blt pc 33 then (bif Nat.beq pc 32 then some (.iload_n 2, 33, 0) else none) else (bif Nat.beq pc 33 then some (.invokevirtual 78, 36, 0) else none)) else (bif Nat.blt pc 39 then (bif Nat.beq pc 36 then some (.ifCond .eq 6, 39, 42) else none) else (bif Nat.beq pc 39 then some (.bipush (-5), 41, 0) else none)))) else (bif Nat.blt pc 49 then (bif Nat.blt pc 43 then (bif Nat.blt pc 42 then (bif Nat.beq pc 41 then some (.ireturn, 42, 0) else none) else (bif Nat.beq pc 42 then some (.aload_n 0, 43, 0) else none)) else (bif Nat.blt pc 46 then (bif Nat.beq pc 43 then some (.invokevirtual 96, 46, 0) else none) else (bif Nat.beq pc 46 then some (.ifCond .ne 6, 49, 52) else none))) else (bif Nat.blt pc 52 then (bif Nat.blt pc 51 then (bif Nat.beq pc 49 then some (.bipush (-4), 51, 0) else none) else (bif Nat.beq pc 51 then some (.ireturn, 52, 0) else none)) else (bif Nat.blt pc 53 then (bif Nat.beq pc 52 then some (.aload_n 0, 53, 0) else none) else (bif Nat.beq pc 53 then some (.getfield 29, 56, 0) else none)))))) else (bif Nat.blt pc 78 then (bif Nat.blt pc 66 then (bif Nat.blt pc 59 then (bif Nat.blt pc 57 then (bif Nat.beq pc 56 then some (.iload_n 1, 57, 0) else none) else (bif Nat.blt pc 58 then (bif Nat.beq pc 57 then some (.iaload, 58, 0) else none) else (bif Nat.beq pc 58 then some (.iload_n 2, 59, 0) else none))) else (bif Nat.blt pc 64 then (bif Nat.blt pc 62 then (bif Nat.beq pc 59 then some (.if_icmp .lt 6, 62, 65) else none) else (bif Nat.beq pc 62 then some (.bipush (-6), 64, 0) else none)) else (bif Nat.blt pc 65 then (bif Nat.beq pc 64 then some (.ireturn, 65, 0) else none) else (bif Nat.beq pc 65 then some (.aload_n 0, 66, 0) else none)))) else (bif Nat.blt pc 72 then (bif Nat.blt pc 70 then (bif Nat.blt pc 69 then (bif Nat.beq pc 66 then some (.getfield 23, 69, 0) else none) else (bif Nat.beq pc 69 then some (.iload_n 1, 70, 0) else none)) else (bif Nat.blt pc 71 then (bif Nat.beq pc 70 then some (.iaload, 71, 0) else none) else (bif Nat.beq pc 71 then some (.istore_n 3, 72, 0) else none))) else (bif Nat.blt pc 76 then (bif Nat.blt pc 73 then (bif Nat.beq pc 72 then some (.aload_n 0, 73, 0) else none) else (bif Nat.beq pc 73 then some (.getfield 23, 76, 0) else none)) else (bif Nat.blt pc 77 then (bif Nat.beq pc 76 then some (.iload_n 1, 77, 0) else none) else (bif Nat.beq pc 77 then some (.iload_n 2, 78, 0) else none))))) else (bif Nat.blt pc 92 then (bif Nat.blt pc 86 then (bif Nat.blt pc 80 then (bif Nat.blt pc 79 then (bif Nat.beq pc 78 then some (.iastore, 79, 0) else none) else (bif Nat.beq pc 79 then some (.aload_n 0, 80, 0) else none)) else (bif Nat.blt pc 83 then (bif Nat.beq pc 80 then some (.invokevirtual 96, 83, 0) else none) else (bif Nat.beq pc 83 then some (.ifCond .ne 13, 86, 96) else none))) else (bif Nat.blt pc 90 then (bif Nat.blt pc 87 then (bif Nat.beq pc 86 then some (.aload_n 0, 87, 0) else none) else (bif Nat.beq pc 87 then some (.getfield 23, 90, 0) else none)) else (bif Nat.blt pc 91 then (bif Nat.beq pc 90 then some (.iload_n 1, 91, 0) else none) else (bif Nat.beq pc 91 then some (.iload_n 3, 92, 0) else none)))) else (bif Nat.blt pc 97 then (bif Nat.blt pc 95 then (bif Nat.blt pc 93 then (bif Nat.beq pc 92 then some (.iastore, 93, 0) else none) else (bif Nat.beq pc 93 then some (.bipush (-7), 95, 0) else none)) else (bif Nat.blt pc 96 then (bif Nat.beq pc 95 then some (.ireturn, 96, 0) else none) else (bif Nat.beq pc 96 then some (.aload_n 0, 97, 0) else none))) else (bif Nat.blt pc 101 then (bif Nat.blt pc 100 then (bif Nat.beq pc 97 then some (.getfield 29, 100, 0) else none) else (bif Nat.beq pc 100 then some (.iload_n 1, 101, 0) else none)) else (bif Nat.blt pc 102 then (bif Nat.beq pc 101 then some (.iaload, 102, 0) else none) else (bif Nat.beq pc 102 then some (.ireturn, 103, 0) else none))))))) else none
/-- downgrade -/
def t_ins_27 (pc : Nat) : Option (Instr × Nat × Nat) := bif Nat.blt pc 68 then (bif Nat.blt pc 34 then (bif Nat.blt pc 17 then (bif Nat.blt pc 8 then (bif Nat.blt pc 2 then (bif Nat.blt pc 1 then (bif Nat.beq pc 0 then some (.aload_n 0, 1, 0) else none) else (bif Nat.beq pc 1 then some (.iload_n 1, 2, 0) else none)) else (bif Nat.blt pc 5 then (bif Nat.beq pc 2 then some (.invokevirtual 64, 5, 0) else none) else (bif Nat.beq pc 5 then some (.ifCond .eq 11, 8, 16) else none))) else (bif Nat.blt pc 10 then (bif Nat.blt pc 9 then (bif Nat.beq pc 8 then some (.aload_n 0, 9, 0) else none) else (bif Nat.beq pc 9 then some (.iload_n 2, 10, 0) else none)) else (bif Nat.blt pc 13 then (bif Nat.beq pc 10 then some (.invokevirtual 81, 13, 0) else none) else (bif Nat.blt pc 16 then (bif Nat.beq pc 13 then some (.ifCond .ne 5, 16, 18) else none) else (bif Nat.beq pc 16 then some (.iconst (-1), 17, 0) else none))))) else (bif Nat.blt pc 27 then (bif Nat.blt pc 19 then (bif Nat.blt pc 18 then (bif Nat.beq pc 17 then some (.ireturn, 18, 0) else none) else (bif Nat.beq pc 18 then some (.aload_n 0, 19, 0) else none)) else (bif Nat.blt pc 22 then (bif Nat.beq pc 19 then some (.invokevirtual 96, 22, 0) else none) else (bif Nat.blt pc 25 then (bif Nat.beq pc 22 then some (.ifCond .ne 6, 25, 28) else none) else (bif Nat.beq pc 25 then some (.bipush (-4), 27, 0) else none)))) else (bif Nat.blt pc 29 then (bif Nat.blt pc 28 then (bif Nat.beq pc 27 then some (.ireturn, 28, 0) else none) else (bif Nat.beq pc 28 then some (.aload_n 0, 29, 0) else none)) else (bif Nat.blt pc 32 then (bif Nat.beq pc 29 then some (.getfield 29, 32, 0) else none) else (bif Nat.blt pc 33 then (bif Nat.beq pc 32 then some (.iload_n 1, 33, 0) else none) else (bif Nat.beq pc 33 then some (.iaload, 34, 0) else none)))))) else (bif Nat.blt pc 51 then (bif Nat.blt pc 42 then (bif Nat.blt pc 38 then (bif Nat.blt pc 35 then (bif Nat.beq pc 34 then some (.iload_n 2, 35, 0) else none) else (bif Nat.beq pc 35 then some (.if_icmp .gt 6, 38, 41) else none)) else (bif Nat.blt pc 40 then (bif Nat.beq pc 38 then some (.bipush (-6), 40, 0) else none) else (bif Nat.blt pc 41 then (bif Nat.beq pc 40 then some (.ireturn, 41, 0) else none) else (bif Nat.beq pc 41 then some (.aload_n 0, 42, 0) else none)))) else (bif Nat.blt pc 44 then (bif Nat.blt pc 43 then (bif Nat.beq pc 42 then some (.iload_n 1, 43, 0) else none) else (bif Nat.beq pc 43 then some (.iload_n 2, 44, 0) else none)) else (bif Nat.blt pc 47 then (bif Nat.beq pc 44 then some (.invokevirtual 111, 47, 0) else none) else (bif Nat.blt pc 48 then (bif Nat.beq pc 47 then some (.aload_n 0, 48, 0) else none) else (bif Nat.beq pc 48 then some (.invokevirtual 114, 51, 0) else none))))) else (bif Nat.blt pc 61 then (bif Nat.blt pc 55 then (bif Nat.blt pc 52 then (bif Nat.beq pc 51 then some (.aload_n 0, 52, 0) else none) else (bif Nat.beq pc 52 then some (.invokevirtual 96, 55, 0) else none)) else (bif Nat.blt pc 58 then (bif Nat.beq pc 55 then some (.ifCond .ne 6, 58, 61) else none) else (bif Nat.blt pc 60 then (bif Nat.beq pc 58 then some (.bipush (-4), 60, 0) else none) else (bif Nat.beq pc 60 then some (.ireturn, 61, 0) else none)))) else (bif Nat.blt pc 65 then (bif Nat.blt pc 62 then (bif Nat.beq pc 61 then some (.aload_n 0, 62, 0) else none) else (bif Nat.beq pc 62 then some (.getfield 29, 65, 0) else none)) else (bif Nat.blt pc 66 then (bif Nat.beq pc 65 then some (.iload_n 1, 66, 0) else none) else (bif Nat.blt pc 67 then (bif Nat.beq pc 66 then some (.iaload, 67, 0) else none) else (bif Nat.beq pc 67 then some (.ireturn, 68, 0) else none))))))) else none
/-- computeDowngradedMain -/
def t_ins_28 (pc : Nat) : Option (Instr × Nat × Nat) := bif Nat.blt pc 83 then (bif Nat.blt pc 39 then (bif Nat.blt pc 18 then (bif Nat.blt pc 8 then (bif Nat.blt pc 2 then (bif Nat.blt pc 1 then (bif Nat.beq pc 0 then some (.iconst 0, 1, 0) else none) else (bif Nat.beq pc 1 then some (.istore_n 3, 2, 0) else none)) else (bif Nat.blt pc 3 then (bif Nat.beq pc 2 then some (.iload_n 3, 3, 0) else none) else (bif Nat.blt pc 5 then (bif Nat.beq pc 3 then some (.bipush 9, 5, 0) else none) else (bif Nat.beq pc 5 then some (.if_icmp .ge 16, 8, 21) else none)))) else (bif Nat.blt pc 13 then (bif Nat.blt pc 9 then (bif Nat.beq pc 8 then some (.aload_n 0, 9, 0) else none) else (bif Nat.blt pc 12 then (bif Nat.beq pc 9 then some (.getfield 47, 12, 0) else none) else (bif Nat.beq pc 12 then some (.iload_n 3, 13, 0) else none))) else (bif Nat.blt pc 14 then (bif Nat.beq pc 13 then some (.iconst 0, 14, 0) else none) else (bif Nat.blt pc 15 then (bif Nat.beq pc 14 then some (.iastore, 15, 0) else none) else (bif Nat.beq pc 15 then some (.iinc 3 1, 18, 0) else none))))) else (bif Nat.blt pc 28 then (bif Nat.blt pc 23 then (bif Nat.blt pc 21 then (bif Nat.beq pc 18 then some (.goto (-16), 21, 2) else none) else (bif Nat.blt pc 22 then (bif Nat.beq pc 21 then some (.iconst 1, 22, 0) else none) else (bif Nat.beq pc 22 then some (.istore_n 3, 23, 0) else none))) else (bif Nat.blt pc 24 then (bif Nat.beq pc 23 then some (.iload_n 3, 24, 0) else none) else (bif Nat.blt pc 25 then (bif Nat.beq pc 24 then some (.aload_n 0, 25, 0) else none) else (bif Nat.beq pc 25 then some (.getfield 54, 28, 0) else none)))) else (bif Nat.blt pc 35 then (bif Nat.blt pc 31 then (bif Nat.beq pc 28 then some (.if_icmp .ge 54, 31, 82) else none) else (bif Nat.blt pc 32 then (bif Nat.beq pc 31 then some (.aload_n 0, 32, 0) else none) else (bif Nat.beq pc 32 then some (.getfield 23, 35, 0) else none))) else (bif Nat.blt pc 36 then (bif Nat.beq pc 35 then some (.iload_n 3, 36, 0) else none) else (bif Nat.blt pc 37 then (bif Nat.beq pc 36 then some (.iaload, 37, 0) else none) else (bif Nat.beq pc 37 then some (.istore 4, 39, 0) else none)))))) else (bif Nat.blt pc 62 then (bif Nat.blt pc 52 then (bif Nat.blt pc 47 then (bif Nat.blt pc 41 then (bif Nat.beq pc 39 then some (.iload 4, 41, 0) else none) else (bif Nat.blt pc 44 then (bif Nat.beq pc 41 then some (.ifCond .ne 6, 44, 47) else none) else (bif Nat.beq pc 44 then some (.goto 32, 47, 76) else none))) else (bif Nat.blt pc 48 then (bif Nat.beq pc 47 then some (.iload_n 3, 48, 0) else none) else (bif Nat.blt pc 49 then (bif Nat.beq pc 48 then some (.iload_n 1, 49, 0) else none) else (bif Nat.beq pc 49 then some (.if_icmp .ne 12, 52, 61) else none)))) else (bif Nat.blt pc 58 then (bif Nat.blt pc 53 then (bif Nat.beq pc 52 then some (.iload_n 2, 53, 0) else none) else (bif Nat.blt pc 55 then (bif Nat.beq pc 53 then some (.iload 4, 55, 0) else none) else (bif Nat.beq pc 55 then some (.if_icmp .ge 6, 58, 61) else none))) else (bif Nat.blt pc 59 then (bif Nat.beq pc 58 then some (.iload_n 2, 59, 0) else none) else (bif Nat.blt pc 61 then (bif Nat.beq pc 59 then some (.istore 4, 61, 0) else none) else (bif Nat.beq pc 61 then some (.aload_n 0, 62, 0) else none))))) else (bif Nat.blt pc 71 then (bif Nat.blt pc 67 then (bif Nat.blt pc 65 then (bif Nat.beq pc 62 then some (.getfield 47, 65, 0) else none) else (bif Nat.blt pc 66 then (bif Nat.beq pc 65 then some (.iload_n 3, 66, 0) else none) else (bif Nat.beq pc 66 then some (.aload_n 0, 67, 0) else none))) else (bif Nat.blt pc 68 then (bif Nat.beq pc 67 then some (.iload_n 3, 68, 0) else none) else (bif Nat.blt pc 70 then (bif Nat.beq pc 68 then some (.iload 4, 70, 0) else none) else (bif Nat.beq pc 70 then some (.iload_n 1, 71, 0) else none)))) else (bif Nat.blt pc 76 then (bif Nat.blt pc 72 then (bif Nat.beq pc 71 then some (.iload_n 2, 72, 0) else none) else (bif Nat.blt pc 75 then (bif Nat.beq pc 72 then some (.invokevirtual 117, 75, 0) else none) else (bif Nat.beq pc 75 then some (.iastore, 76, 0) else none))) else (bif Nat.blt pc 79 then (bif Nat.beq pc 76 then some (.iinc 3 1, 79, 0) else none) else (bif Nat.blt pc 82 then (bif Nat.beq pc 79 then some (.goto (-56), 82, 23) else none) else (bif Nat.beq pc 82 then some (.return_, 83, 0) else none))))))) else none
/-- bestAllowed -/
def t_ins_29 (pc : Nat) : Option (Instr × Nat × Nat) := bif Nat.blt pc 52 then (bif Nat.blt pc 25 then (bif Nat.blt pc 12 then (bif Nat.blt pc 5 then (bif Nat.blt pc 1 then (bif Nat.beq pc 0 then some (.iload_n 2, 1, 0) else none) else (bif Nat.blt pc 3 then (bif Nat.beq pc 1 then some (.istore 5, 3, 0) else none) else (bif Nat.beq pc 3 then some (.iload 5, 5, 0) else none))) else (bif Nat.blt pc 6 then (bif Nat.beq pc 5 then some (.aload_n 0, 6, 0) else none) else (bif Nat.blt pc 9 then (bif Nat.beq pc 6 then some (.getfield 61, 9, 0) else none) else (bif Nat.beq pc 9 then some (.if_icmp .le 9, 12, 18) else none)))) else (bif Nat.blt pc 18 then (bif Nat.blt pc 13 then (bif Nat.beq pc 12 then some (.aload_n 0, 13, 0) else none) else (bif Nat.blt pc 16 then (bif Nat.beq pc 13 then some (.getfield 61, 16, 0) else none) else (bif Nat.beq pc 16 then some (.istore 5, 18, 0) else none))) else (bif Nat.blt pc 22 then (bif Nat.blt pc 20 then (bif Nat.beq pc 18 then some (.iload 5, 20, 0) else none) else (bif Nat.beq pc 20 then some (.istore 6, 22, 0) else none)) else (bif Nat.blt pc 24 then (bif Nat.beq pc 22 then some (.iload 6, 24, 0) else none) else (bif Nat.beq pc 24 then some (.iconst 1, 25, 0) else none))))) else (bif Nat.blt pc 38 then (bif Nat.blt pc 30 then (bif Nat.blt pc 28 then (bif Nat.beq pc 25 then some (.if_icmp .lt 25, 28, 50) else none) else (bif Nat.blt pc 29 then (bif Nat.beq pc 28 then some (.aload_n 0, 29, 0) else none) else (bif Nat.beq pc 29 then some (.iload_n 1, 30, 0) else none))) else (bif Nat.blt pc 33 then (bif Nat.blt pc 32 then (bif Nat.beq pc 30 then some (.iload 6, 32, 0) else none) else (bif Nat.beq pc 32 then some (.iload_n 3, 33, 0) else none)) else (bif Nat.blt pc 35 then (bif Nat.beq pc 33 then some (.iload 4, 35, 0) else none) else (bif Nat.beq pc 35 then some (.invokevirtual 121, 38, 0) else none)))) else (bif Nat.blt pc 44 then (bif Nat.blt pc 41 then (bif Nat.beq pc 38 then some (.ifCond .eq 6, 41, 44) else none) else (bif Nat.blt pc 43 then (bif Nat.beq pc 41 then some (.iload 6, 43, 0) else none) else (bif Nat.beq pc 43 then some (.ireturn, 44, 0) else none))) else (bif Nat.blt pc 50 then (bif Nat.blt pc 47 then (bif Nat.beq pc 44 then some (.iinc 6 (-1), 47, 0) else none) else (bif Nat.beq pc 47 then some (.goto (-25), 50, 22) else none)) else (bif Nat.blt pc 51 then (bif Nat.beq pc 50 then some (.iconst 0, 51, 0) else none) else (bif Nat.beq pc 51 then some (.ireturn, 52, 0) else none)))))) else none
/-- isAllowed -/
def t_ins_30 (pc : Nat) : Option (Instr × Nat × Nat) := bif Nat.blt pc 43 then (bif Nat.blt pc 21 then (bif Nat.blt pc 10 then (bif Nat.blt pc 3 then (bif Nat.blt pc 1 then (bif Nat.beq pc 0 then some (.aload_n 0, 1, 0) else none) else (bif Nat.blt pc 2 then (bif Nat.beq pc 1 then some (.iload_n 1, 2, 0) else none) else (bif Nat.beq pc 2 then some (.iload_n 2, 3, 0) else none))) else (bif Nat.blt pc 6 then (bif Nat.beq pc 3 then some (.invokevirtual 124, 6, 0) else none) else (bif Nat.blt pc 9 then (bif Nat.beq pc 6 then some (.ifCond .ne 5, 9, 11) else none) else (bif Nat.beq pc 9 then some (.iconst 0, 10, 0) else none)))) else (bif Nat.blt pc 13 then (bif Nat.blt pc 11 then (bif Nat.beq pc 10 then some (.ireturn, 11, 0) else none) else (bif Nat.blt pc 12 then (bif Nat.beq pc 11 then some (.aload_n 0, 12, 0) else none) else (bif Nat.beq pc 12 then some (.iload_n 1, 13, 0) else none))) else (bif Nat.blt pc 17 then (bif Nat.blt pc 14 then (bif Nat.beq pc 13 then some (.iload_n 2, 14, 0) else none) else (bif Nat.beq pc 14 then some (.invokevirtual 104, 17, 0) else none)) else (bif Nat.blt pc 18 then (bif Nat.beq pc 17 then some (.aload_n 0, 18, 0) else none) else (bif Nat.beq pc 18 then some (.invokevirtual 108, 21, 0) else none))))) else (bif Nat.blt pc 31 then (bif Nat.blt pc 26 then (bif Nat.blt pc 24 then (bif Nat.beq pc 21 then some (.ifCond .ne 5, 24, 26) else none) else (bif Nat.blt pc 25 then (bif Nat.beq pc 24 then some (.iconst 0, 25, 0) else none) else (bif Nat.beq pc 25 then some (.ireturn, 26, 0) else none))) else (bif Nat.blt pc 27 then (bif Nat.beq pc 26 then some (.aload_n 0, 27, 0) else none) else (bif Nat.blt pc 30 then (bif Nat.beq pc 27 then some (.getfield 29, 30, 0) else none) else (bif Nat.beq pc 30 then some (.iload_n 3, 31, 0) else none)))) else (bif Nat.blt pc 37 then (bif Nat.blt pc 32 then (bif Nat.beq pc 31 then some (.iaload, 32, 0) else none) else (bif Nat.blt pc 34 then (bif Nat.beq pc 32 then some (.iload 4, 34, 0) else none) else (bif Nat.beq pc 34 then some (.if_icmp .gt 7, 37, 41) else none))) else (bif Nat.blt pc 41 then (bif Nat.blt pc 38 then (bif Nat.beq pc 37 then some (.iconst 1, 38, 0) else none) else (bif Nat.beq pc 38 then some (.goto 4, 41, 42) else none)) else (bif Nat.blt pc 42 then (bif Nat.beq pc 41 then some (.iconst 0, 42, 0) else none) else (bif Nat.beq pc 42 then some (.ireturn, 43, 0) else none)))))) else none
/-- copyNextMain -/
def t_ins_31 (pc : Nat) : Option (Instr × Nat × Nat) := bif Nat.blt pc 29 then (bif Nat.blt pc 14 then (bif Nat.blt pc 4 then (bif Nat.blt pc 2 then (bif Nat.blt pc 1 then (bif Nat.beq pc 0 then some (.iconst 1, 1, 0) else none) else (bif Nat.beq pc 1 then some (.istore_n 1, 2, 0) else none)) else (bif Nat.blt pc 3 then (bif Nat.beq pc 2 then some (.iload_n 1, 3, 0) else none) else (bif Nat.beq pc 3 then some (.aload_n 0, 4, 0) else none))) else (bif Nat.blt pc 10 then (bif Nat.blt pc 7 then (bif Nat.beq pc 4 then some (.getfield 54, 7, 0) else none) else (bif Nat.beq pc 7 then some (.if_icmp .ge 21, 10, 28) else none)) else (bif Nat.blt pc 11 then (bif Nat.beq pc 10 then some (.aload_n 0, 11, 0) else none) else (bif Nat.beq pc 11 then some (.getfield 23, 14, 0) else none)))) else (bif Nat.blt pc 20 then (bif Nat.blt pc 16 then (bif Nat.blt pc 15 then (bif Nat.beq pc 14 then some (.iload_n 1, 15, 0) else none) else (bif Nat.beq pc 15 then some (.aload_n 0, 16, 0) else none)) else (bif Nat.blt pc 19 then (bif Nat.beq pc 16 then some (.getfield 47, 19, 0) else none) else (bif Nat.beq pc 19 then some (.iload_n 1, 20, 0) else none))) else (bif Nat.blt pc 22 then (bif Nat.blt pc 21 then (bif Nat.beq pc 20 then some (.iaload, 21, 0) else none) else (bif Nat.beq pc 21 then some (.iastore, 22, 0) else none)) else (bif Nat.blt pc 25 then (bif Nat.beq pc 22 then some (.iinc 1 1, 25, 0) else none) else (bif Nat.blt pc 28 then (bif Nat.beq pc 25 then some (.goto (-23), 28, 2) else none) else (bif Nat.beq pc 28 then some (.return_, 29, 0) else none)))))) else none
/-- prune -/
def t_ins_32 (pc : Nat) : Option (Instr × Nat × Nat) := bif Nat.blt pc 73 then (bif Nat.blt pc 36 then (bif Nat.blt pc 16 then (bif Nat.blt pc 9 then (bif Nat.blt pc 4 then (bif Nat.blt pc 1 then (bif Nat.beq pc 0 then some (.aload_n 0, 1, 0) else none) else (bif Nat.beq pc 1 then some (.invokevirtual 96, 4, 0) else none)) else (bif Nat.blt pc 7 then (bif Nat.beq pc 4 then some (.ifCond .ne 6, 7, 10) else none) else (bif Nat.beq pc 7 then some (.bipush (-4), 9, 0) else none))) else (bif Nat.blt pc 11 then (bif Nat.blt pc 10 then (bif Nat.beq pc 9 then some (.ireturn, 10, 0) else none) else (bif Nat.beq pc 10 then some (.aload_n 0, 11, 0) else none)) else (bif Nat.blt pc 14 then (bif Nat.beq pc 11 then some (.invokevirtual 127, 14, 0) else none) else (bif Nat.blt pc 15 then (bif Nat.beq pc 14 then some (.iconst 1, 15, 0) else none) else (bif Nat.beq pc 15 then some (.istore_n 1, 16, 0) else none))))) else (bif Nat.blt pc 25 then (bif Nat.blt pc 18 then (bif Nat.blt pc 17 then (bif Nat.beq pc 16 then some (.iload_n 1, 17, 0) else none) else (bif Nat.beq pc 17 then some (.aload_n 0, 18, 0) else none)) else (bif Nat.blt pc 21 then (bif Nat.beq pc 18 then some (.getfield 54, 21, 0) else none) else (bif Nat.blt pc 24 then (bif Nat.beq pc 21 then some (.if_icmp .ge 47, 24, 68) else none) else (bif Nat.beq pc 24 then some (.aload_n 0, 25, 0) else none)))) else (bif Nat.blt pc 29 then (bif Nat.blt pc 28 then (bif Nat.beq pc 25 then some (.getfield 44, 28, 0) else none) else (bif Nat.beq pc 28 then some (.iload_n 1, 29, 0) else none)) else (bif Nat.blt pc 30 then (bif Nat.beq pc 29 then some (.baload, 30, 0) else none) else (bif Nat.blt pc 33 then (bif Nat.beq pc 30 then some (.ifCond .ne 6, 33, 36) else none) else (bif Nat.beq pc 33 then some (.goto 29, 36, 62) else none)))))) else (bif Nat.blt pc 55 then (bif Nat.blt pc 42 then (bif Nat.blt pc 38 then (bif Nat.blt pc 37 then (bif Nat.beq pc 36 then some (.aload_n 0, 37, 0) else none) else (bif Nat.beq pc 37 then some (.iload_n 1, 38, 0) else none)) else (bif Nat.blt pc 41 then (bif Nat.beq pc 38 then some (.invokevirtual 130, 41, 0) else none) else (bif Nat.beq pc 41 then some (.aload_n 0, 42, 0) else none))) else (bif Nat.blt pc 48 then (bif Nat.blt pc 45 then (bif Nat.beq pc 42 then some (.invokevirtual 108, 45, 0) else none) else (bif Nat.beq pc 45 then some (.ifCond .eq 17, 48, 62) else none)) else (bif Nat.blt pc 49 then (bif Nat.beq pc 48 then some (.aload_n 0, 49, 0) else none) else (bif Nat.blt pc 52 then (bif Nat.beq pc 49 then some (.invokevirtual 134, 52, 0) else none) else (bif Nat.beq pc 52 then some (.ifCond .eq 10, 55, 62) else none))))) else (bif Nat.blt pc 62 then (bif Nat.blt pc 59 then (bif Nat.blt pc 56 then (bif Nat.beq pc 55 then some (.aload_n 0, 56, 0) else none) else (bif Nat.beq pc 56 then some (.getfield 44, 59, 0) else none)) else (bif Nat.blt pc 60 then (bif Nat.beq pc 59 then some (.iload_n 1, 60, 0) else none) else (bif Nat.blt pc 61 then (bif Nat.beq pc 60 then some (.iconst 0, 61, 0) else none) else (bif Nat.beq pc 61 then some (.bastore, 62, 0) else none)))) else (bif Nat.blt pc 68 then (bif Nat.blt pc 65 then (bif Nat.beq pc 62 then some (.iinc 1 1, 65, 0) else none) else (bif Nat.beq pc 65 then some (.goto (-49), 68, 16) else none)) else (bif Nat.blt pc 69 then (bif Nat.beq pc 68 then some (.aload_n 0, 69, 0) else none) else (bif Nat.blt pc 72 then (bif Nat.beq pc 69 then some (.invokevirtual 137, 72, 0) else none) else (bif Nat.beq pc 72 then some (.ireturn, 73, 0) else none))))))) else none
/-- saveSelection -/
def t_ins_33 (pc : Nat) : Option (Instr × Nat × Nat) := bif Nat.blt pc 77 then (bif Nat.blt pc 38 then (bif Nat.blt pc 16 then (bif Nat.blt pc 8 then (bif Nat.blt pc 2 then (bif Nat.blt pc 1 then (bif Nat.beq pc 0 then some (.iconst 0, 1, 0) else none) else (bif Nat.beq pc 1 then some (.istore_n 1, 2, 0) else none)) else (bif Nat.blt pc 3 then (bif Nat.beq pc 2 then some (.iload_n 1, 3, 0) else none) else (bif Nat.blt pc 5 then (bif Nat.beq pc 3 then some (.bipush 9, 5, 0) else none) else (bif Nat.beq pc 5 then some (.if_icmp .ge 23, 8, 28) else none)))) else (bif Nat.blt pc 13 then (bif Nat.blt pc 9 then (bif Nat.beq pc 8 then some (.aload_n 0, 9, 0) else none) else (bif Nat.blt pc 12 then (bif Nat.beq pc 9 then some (.getfield 41, 12, 0) else none) else (bif Nat.beq pc 12 then some (.iload_n 1, 13, 0) else none))) else (bif Nat.blt pc 14 then (bif Nat.beq pc 13 then some (.iconst 0, 14, 0) else none) else (bif Nat.blt pc 15 then (bif Nat.beq pc 14 then some (.iastore, 15, 0) else none) else (bif Nat.beq pc 15 then some (.aload_n 0, 16, 0) else none))))) else (bif Nat.blt pc 28 then (bif Nat.blt pc 21 then (bif Nat.blt pc 19 then (bif Nat.beq pc 16 then some (.getfield 44, 19, 0) else none) else (bif Nat.blt pc 20 then (bif Nat.beq pc 19 then some (.iload_n 1, 20, 0) else none) else (bif Nat.beq pc 20 then some (.iconst 0, 21, 0) else none))) else (bif Nat.blt pc 22 then (bif Nat.beq pc 21 then some (.bastore, 22, 0) else none) else (bif Nat.blt pc 25 then (bif Nat.beq pc 22 then some (.iinc 1 1, 25, 0) else none) else (bif Nat.beq pc 25 then some (.goto (-23), 28, 2) else none)))) else (bif Nat.blt pc 31 then (bif Nat.blt pc 29 then (bif Nat.beq pc 28 then some (.iconst 1, 29, 0) else none) else (bif Nat.blt pc 30 then (bif Nat.beq pc 29 then some (.istore_n 1, 30, 0) else none) else (bif Nat.beq pc 30 then some (.iload_n 1, 31, 0) else none))) else (bif Nat.blt pc 32 then (bif Nat.beq pc 31 then some (.aload_n 0, 32, 0) else none) else (bif Nat.blt pc 35 then (bif Nat.beq pc 32 then some (.getfield 54, 35, 0) else none) else (bif Nat.beq pc 35 then some (.if_icmp .ge 41, 38, 76) else none)))))) else (bif Nat.blt pc 55 then (bif Nat.blt pc 47 then (bif Nat.blt pc 42 then (bif Nat.blt pc 39 then (bif Nat.beq pc 38 then some (.aload_n 0, 39, 0) else none) else (bif Nat.beq pc 39 then some (.getfield 41, 42, 0) else none)) else (bif Nat.blt pc 43 then (bif Nat.beq pc 42 then some (.iload_n 1, 43, 0) else none) else (bif Nat.blt pc 44 then (bif Nat.beq pc 43 then some (.aload_n 0, 44, 0) else none) else (bif Nat.beq pc 44 then some (.getfield 29, 47, 0) else none)))) else (bif Nat.blt pc 50 then (bif Nat.blt pc 48 then (bif Nat.beq pc 47 then some (.iload_n 1, 48, 0) else none) else (bif Nat.blt pc 49 then (bif Nat.beq pc 48 then some (.iaload, 49, 0) else none) else (bif Nat.beq pc 49 then some (.iastore, 50, 0) else none))) else (bif Nat.blt pc 51 then (bif Nat.beq pc 50 then some (.aload_n 0, 51, 0) else none) else (bif Nat.blt pc 54 then (bif Nat.beq pc 51 then some (.getfield 44, 54, 0) else none) else (bif Nat.beq pc 54 then some (.iload_n 1, 55, 0) else none))))) else (bif Nat.blt pc 65 then (bif Nat.blt pc 60 then (bif Nat.blt pc 56 then (bif Nat.beq pc 55 then some (.aload_n 0, 56, 0) else none) else (bif Nat.blt pc 59 then (bif Nat.beq pc 56 then some (.getfield 29, 59, 0) else none) else (bif Nat.beq pc 59 then some (.iload_n 1, 60, 0) else none))) else (bif Nat.blt pc 61 then (bif Nat.beq pc 60 then some (.iaload, 61, 0) else none) else (bif Nat.blt pc 64 then (bif Nat.beq pc 61 then some (.ifCond .eq 7, 64, 68) else none) else (bif Nat.beq pc 64 then some (.iconst 1, 65, 0) else none)))) else (bif Nat.blt pc 70 then (bif Nat.blt pc 68 then (bif Nat.beq pc 65 then some (.goto 4, 68, 69) else none) else (bif Nat.blt pc 69 then (bif Nat.beq pc 68 then some (.iconst 0, 69, 0) else none) else (bif Nat.beq pc 69 then some (.bastore, 70, 0) else none))) else (bif Nat.blt pc 73 then (bif Nat.beq pc 70 then some (.iinc 1 1, 73, 0) else none) else (bif Nat.blt pc 76 then (bif Nat.beq pc 73 then some (.goto (-43), 76, 30) else none) else (bif Nat.beq pc 76 then some (.return_, 77, 0) else none))))))) else none
/-- loadRootsWithout -/
def t_ins_34 (pc : Nat) : Option (Instr × Nat × Nat) := bif Nat.blt pc 64 then (bif Nat.blt pc 31 then (bif Nat.blt pc 14 then (bif Nat.blt pc 5 then (bif Nat.blt pc 2 then (bif Nat.blt pc 1 then (bif Nat.beq pc 0 then some (.iconst 0, 1, 0) else none) else (bif Nat.beq pc 1 then some (.istore_n 2, 2, 0) else none)) else (bif Nat.blt pc 3 then (bif Nat.beq pc 2 then some (.iload_n 2, 3, 0) else none) else (bif Nat.beq pc 3 then some (.bipush 9, 5, 0) else none))) else (bif Nat.blt pc 9 then (bif Nat.blt pc 8 then (bif Nat.beq pc 5 then some (.if_icmp .ge 16, 8, 21) else none) else (bif Nat.beq pc 8 then some (.aload_n 0, 9, 0) else none)) else (bif Nat.blt pc 12 then (bif Nat.beq pc 9 then some (.getfield 26, 12, 0) else none) else (bif Nat.blt pc 13 then (bif Nat.beq pc 12 then some (.iload_n 2, 13, 0) else none) else (bif Nat.beq pc 13 then some (.iconst 0, 14, 0) else none))))) else (bif Nat.blt pc 22 then (bif Nat.blt pc 18 then (bif Nat.blt pc 15 then (bif Nat.beq pc 14 then some (.iastore, 15, 0) else none) else (bif Nat.beq pc 15 then some (.iinc 2 1, 18, 0) else none)) else (bif Nat.blt pc 21 then (bif Nat.beq pc 18 then some (.goto (-16), 21, 2) else none) else (bif Nat.beq pc 21 then some (.iconst 1, 22, 0) else none))) else (bif Nat.blt pc 24 then (bif Nat.blt pc 23 then (bif Nat.beq pc 22 then some (.istore_n 2, 23, 0) else none) else (bif Nat.beq pc 23 then some (.iload_n 2, 24, 0) else none)) else (bif Nat.blt pc 25 then (bif Nat.beq pc 24 then some (.aload_n 0, 25, 0) else none) else (bif Nat.blt pc 28 then (bif Nat.beq pc 25 then some (.getfield 54, 28, 0) else none) else (bif Nat.beq pc 28 then some (.if_icmp .ge 35, 31, 63) else none)))))) else (bif Nat.blt pc 46 then (bif Nat.blt pc 37 then (bif Nat.blt pc 33 then (bif Nat.blt pc 32 then (bif Nat.beq pc 31 then some (.iload_n 2, 32, 0) else none) else (bif Nat.beq pc 32 then some (.iload_n 1, 33, 0) else none)) else (bif Nat.blt pc 36 then (bif Nat.beq pc 33 then some (.if_icmp .eq 24, 36, 57) else none) else (bif Nat.beq pc 36 then some (.aload_n 0, 37, 0) else none))) else (bif Nat.blt pc 41 then (bif Nat.blt pc 40 then (bif Nat.beq pc 37 then some (.getfield 44, 40, 0) else none) else (bif Nat.beq pc 40 then some (.iload_n 2, 41, 0) else none)) else (bif Nat.blt pc 42 then (bif Nat.beq pc 41 then some (.baload, 42, 0) else none) else (bif Nat.blt pc 45 then (bif Nat.beq pc 42 then some (.ifCond .eq 15, 45, 57) else none) else (bif Nat.beq pc 45 then some (.aload_n 0, 46, 0) else none))))) else (bif Nat.blt pc 55 then (bif Nat.blt pc 50 then (bif Nat.blt pc 49 then (bif Nat.beq pc 46 then some (.getfield 26, 49, 0) else none) else (bif Nat.beq pc 49 then some (.iload_n 2, 50, 0) else none)) else (bif Nat.blt pc 51 then (bif Nat.beq pc 50 then some (.aload_n 0, 51, 0) else none) else (bif Nat.blt pc 54 then (bif Nat.beq pc 51 then some (.getfield 41, 54, 0) else none) else (bif Nat.beq pc 54 then some (.iload_n 2, 55, 0) else none)))) else (bif Nat.blt pc 57 then (bif Nat.blt pc 56 then (bif Nat.beq pc 55 then some (.iaload, 56, 0) else none) else (bif Nat.beq pc 56 then some (.iastore, 57, 0) else none)) else (bif Nat.blt pc 60 then (bif Nat.beq pc 57 then some (.iinc 2 1, 60, 0) else none) else (bif Nat.blt pc 63 then (bif Nat.beq pc 60 then some (.goto (-37), 63, 23) else none) else (bif Nat.beq pc 63 then some (.return_, 64, 0) else none))))))) else none
/-- sameAsSaved -/
def t_ins_35 (pc : Nat) : Option (Instr × Nat × Nat) := bif Nat.blt pc 35 then (bif Nat.blt pc 16 then (bif Nat.blt pc 7 then (bif Nat.blt pc 2 then (bif Nat.blt pc 1 then (bif Nat.beq pc 0 then some (.iconst 1, 1, 0) else none) else (bif Nat.beq pc 1 then some (.istore_n 1, 2, 0) else none)) else (bif Nat.blt pc 3 then (bif Nat.beq pc 2 then some (.iload_n 1, 3, 0) else none) else (bif Nat.blt pc 4 then (bif Nat.beq pc 3 then some (.aload_n 0, 4, 0) else none) else (bif Nat.beq pc 4 then some (.getfield 54, 7, 0) else none)))) else (bif Nat.blt pc 11 then (bif Nat.blt pc 10 then (bif Nat.beq pc 7 then some (.if_icmp .ge 26, 10, 33) else none) else (bif Nat.beq pc 10 then some (.aload_n 0, 11, 0) else none)) else (bif Nat.blt pc 14 then (bif Nat.beq pc 11 then some (.getfield 29, 14, 0) else none) else (bif Nat.blt pc 15 then (bif Nat.beq pc 14 then some (.iload_n 1, 15, 0) else none) else (bif Nat.beq pc 15 then some (.iaload, 16, 0) else none))))) else (bif Nat.blt pc 25 then (bif Nat.blt pc 20 then (bif Nat.blt pc 17 then (bif Nat.beq pc 16 then some (.aload_n 0, 17, 0) else none) else (bif Nat.beq pc 17 then some (.getfield 41, 20, 0) else none)) else (bif Nat.blt pc 21 then (bif Nat.beq pc 20 then some (.iload_n 1, 21, 0) else none) else (bif Nat.blt pc 22 then (bif Nat.beq pc 21 then some (.iaload, 22, 0) else none) else (bif Nat.beq pc 22 then some (.if_icmp .eq 5, 25, 27) else none)))) else (bif Nat.blt pc 30 then (bif Nat.blt pc 26 then (bif Nat.beq pc 25 then some (.iconst 0, 26, 0) else none) else (bif Nat.blt pc 27 then (bif Nat.beq pc 26 then some (.ireturn, 27, 0) else none) else (bif Nat.beq pc 27 then some (.iinc 1 1, 30, 0) else none))) else (bif Nat.blt pc 33 then (bif Nat.beq pc 30 then some (.goto (-28), 33, 2) else none) else (bif Nat.blt pc 34 then (bif Nat.beq pc 33 then some (.iconst 1, 34, 0) else none) else (bif Nat.beq pc 34 then some (.ireturn, 35, 0) else none)))))) else none
/-- storePrunedMain -/
def t_ins_36 (pc : Nat) : Option (Instr × Nat × Nat) := bif Nat.blt pc 54 then (bif Nat.blt pc 26 then (bif Nat.blt pc 12 then (bif Nat.blt pc 4 then (bif Nat.blt pc 2 then (bif Nat.blt pc 1 then (bif Nat.beq pc 0 then some (.iconst 0, 1, 0) else none) else (bif Nat.beq pc 1 then some (.istore_n 1, 2, 0) else none)) else (bif Nat.blt pc 3 then (bif Nat.beq pc 2 then some (.iconst 1, 3, 0) else none) else (bif Nat.beq pc 3 then some (.istore_n 2, 4, 0) else none))) else (bif Nat.blt pc 6 then (bif Nat.blt pc 5 then (bif Nat.beq pc 4 then some (.iload_n 2, 5, 0) else none) else (bif Nat.beq pc 5 then some (.aload_n 0, 6, 0) else none)) else (bif Nat.blt pc 9 then (bif Nat.beq pc 6 then some (.getfield 54, 9, 0) else none) else (bif Nat.beq pc 9 then some (.if_icmp .ge 43, 12, 52) else none)))) else (bif Nat.blt pc 18 then (bif Nat.blt pc 16 then (bif Nat.blt pc 13 then (bif Nat.beq pc 12 then some (.aload_n 0, 13, 0) else none) else (bif Nat.beq pc 13 then some (.getfield 44, 16, 0) else none)) else (bif Nat.blt pc 17 then (bif Nat.beq pc 16 then some (.iload_n 2, 17, 0) else none) else (bif Nat.beq pc 17 then some (.baload, 18, 0) else none))) else (bif Nat.blt pc 22 then (bif Nat.blt pc 21 then (bif Nat.beq pc 18 then some (.ifCond .eq 21, 21, 39) else none) else (bif Nat.beq pc 21 then some (.aload_n 0, 22, 0) else none)) else (bif Nat.blt pc 25 then (bif Nat.beq pc 22 then some (.getfield 23, 25, 0) else none) else (bif Nat.beq pc 25 then some (.iload_n 2, 26, 0) else none))))) else (bif Nat.blt pc 40 then (bif Nat.blt pc 32 then (bif Nat.blt pc 30 then (bif Nat.blt pc 27 then (bif Nat.beq pc 26 then some (.aload_n 0, 27, 0) else none) else (bif Nat.beq pc 27 then some (.getfield 41, 30, 0) else none)) else (bif Nat.blt pc 31 then (bif Nat.beq pc 30 then some (.iload_n 2, 31, 0) else none) else (bif Nat.beq pc 31 then some (.iaload, 32, 0) else none))) else (bif Nat.blt pc 36 then (bif Nat.blt pc 33 then (bif Nat.beq pc 32 then some (.iastore, 33, 0) else none) else (bif Nat.beq pc 33 then some (.iinc 1 1, 36, 0) else none)) else (bif Nat.blt pc 39 then (bif Nat.beq pc 36 then some (.goto 10, 39, 46) else none) else (bif Nat.beq pc 39 then some (.aload_n 0, 40, 0) else none)))) else (bif Nat.blt pc 46 then (bif Nat.blt pc 44 then (bif Nat.blt pc 43 then (bif Nat.beq pc 40 then some (.getfield 23, 43, 0) else none) else (bif Nat.beq pc 43 then some (.iload_n 2, 44, 0) else none)) else (bif Nat.blt pc 45 then (bif Nat.beq pc 44 then some (.iconst 0, 45, 0) else none) else (bif Nat.beq pc 45 then some (.iastore, 46, 0) else none))) else (bif Nat.blt pc 52 then (bif Nat.blt pc 49 then (bif Nat.beq pc 46 then some (.iinc 2 1, 49, 0) else none) else (bif Nat.beq pc 49 then some (.goto (-45), 52, 4) else none)) else (bif Nat.blt pc 53 then (bif Nat.beq pc 52 then some (.iload_n 1, 53, 0) else none) else (bif Nat.beq pc 53 then some (.ireturn, 54, 0) else none)))))) else none
/-- loadMainRoots -/
def t_ins_37 (pc : Nat) : Option (Instr × Nat × Nat) := bif Nat.blt pc 50 then (bif Nat.blt pc 23 then (bif Nat.blt pc 12 then (bif Nat.blt pc 3 then (bif Nat.blt pc 1 then (bif Nat.beq pc 0 then some (.iconst 0, 1, 0) else none) else (bif Nat.blt pc 2 then (bif Nat.beq pc 1 then some (.istore_n 1, 2, 0) else none) else (bif Nat.beq pc 2 then some (.iload_n 1, 3, 0) else none))) else (bif Nat.blt pc 8 then (bif Nat.blt pc 5 then (bif Nat.beq pc 3 then some (.bipush 9, 5, 0) else none) else (bif Nat.beq pc 5 then some (.if_icmp .ge 16, 8, 21) else none)) else (bif Nat.blt pc 9 then (bif Nat.beq pc 8 then some (.aload_n 0, 9, 0) else none) else (bif Nat.beq pc 9 then some (.getfield 26, 12, 0) else none)))) else (bif Nat.blt pc 15 then (bif Nat.blt pc 13 then (bif Nat.beq pc 12 then some (.iload_n 1, 13, 0) else none) else (bif Nat.blt pc 14 then (bif Nat.beq pc 13 then some (.iconst 0, 14, 0) else none) else (bif Nat.beq pc 14 then some (.iastore, 15, 0) else none))) else (bif Nat.blt pc 21 then (bif Nat.blt pc 18 then (bif Nat.beq pc 15 then some (.iinc 1 1, 18, 0) else none) else (bif Nat.beq pc 18 then some (.goto (-16), 21, 2) else none)) else (bif Nat.blt pc 22 then (bif Nat.beq pc 21 then some (.iconst 1, 22, 0) else none) else (bif Nat.beq pc 22 then some (.istore_n 1, 23, 0) else none))))) else (bif Nat.blt pc 36 then (bif Nat.blt pc 28 then (bif Nat.blt pc 24 then (bif Nat.beq pc 23 then some (.iload_n 1, 24, 0) else none) else (bif Nat.blt pc 25 then (bif Nat.beq pc 24 then some (.aload_n 0, 25, 0) else none) else (bif Nat.beq pc 25 then some (.getfield 54, 28, 0) else none))) else (bif Nat.blt pc 32 then (bif Nat.blt pc 31 then (bif Nat.beq pc 28 then some (.if_icmp .ge 21, 31, 49) else none) else (bif Nat.beq pc 31 then some (.aload_n 0, 32, 0) else none)) else (bif Nat.blt pc 35 then (bif Nat.beq pc 32 then some (.getfield 26, 35, 0) else none) else (bif Nat.beq pc 35 then some (.iload_n 1, 36, 0) else none)))) else (bif Nat.blt pc 42 then (bif Nat.blt pc 40 then (bif Nat.blt pc 37 then (bif Nat.beq pc 36 then some (.aload_n 0, 37, 0) else none) else (bif Nat.beq pc 37 then some (.getfield 23, 40, 0) else none)) else (bif Nat.blt pc 41 then (bif Nat.beq pc 40 then some (.iload_n 1, 41, 0) else none) else (bif Nat.beq pc 41 then some (.iaload, 42, 0) else none))) else (bif Nat.blt pc 46 then (bif Nat.blt pc 43 then (bif Nat.beq pc 42 then some (.iastore, 43, 0) else none) else (bif Nat.beq pc 43 then some (.iinc 1 1, 46, 0) else none)) else (bif Nat.blt pc 49 then (bif Nat.beq pc 46 then some (.goto (-23), 49, 23) else none) else (bif Nat.beq pc 49 then some (.return_, 50, 0) else none)))))) else none
/-- loadSingleRoot -/
def t_ins_38 (pc : Nat) : Option (Instr × Nat × Nat) := bif Nat.blt pc 37 then (bif Nat.blt pc 18 then (bif Nat.blt pc 8 then (bif Nat.blt pc 2 then (bif Nat.blt pc 1 then (bif Nat.beq pc 0 then some (.iconst 0, 1, 0) else none) else (bif Nat.beq pc 1 then some (.istore_n 3, 2, 0) else none)) else (bif Nat.blt pc 3 then (bif Nat.beq pc 2 then some (.iload_n 3, 3, 0) else none) else (bif Nat.blt pc 5 then (bif Nat.beq pc 3 then some (.bipush 9, 5, 0) else none) else (bif Nat.beq pc 5 then some (.if_icmp .ge 16, 8, 21) else none)))) else (bif Nat.blt pc 13 then (bif Nat.blt pc 9 then (bif Nat.beq pc 8 then some (.aload_n 0, 9, 0) else none) else (bif Nat.blt pc 12 then (bif Nat.beq pc 9 then some (.getfield 26, 12, 0) else none) else (bif Nat.beq pc 12 then some (.iload_n 3, 13, 0) else none))) else (bif Nat.blt pc 14 then (bif Nat.beq pc 13 then some (.iconst 0, 14, 0) else none) else (bif Nat.blt pc 15 then (bif Nat.beq pc 14 then some (.iastore, 15, 0) else none) else (bif Nat.beq pc 15 then some (.iinc 3 1, 18, 0) else none))))) else (bif Nat.blt pc 29 then (bif Nat.blt pc 22 then (bif Nat.blt pc 21 then (bif Nat.beq pc 18 then some (.goto (-16), 21, 2) else none) else (bif Nat.beq pc 21 then some (.aload_n 0, 22, 0) else none)) else (bif Nat.blt pc 23 then (bif Nat.beq pc 22 then some (.iload_n 1, 23, 0) else none) else (bif Nat.blt pc 26 then (bif Nat.beq pc 23 then some (.invokevirtual 64, 26, 0) else none) else (bif Nat.beq pc 26 then some (.ifCond .eq 10, 29, 36) else none)))) else (bif Nat.blt pc 34 then (bif Nat.blt pc 30 then (bif Nat.beq pc 29 then some (.aload_n 0, 30, 0) else none) else (bif Nat.blt pc 33 then (bif Nat.beq pc 30 then some (.getfield 26, 33, 0) else none) else (bif Nat.beq pc 33 then some (.iload_n 1, 34, 0) else none))) else (bif Nat.blt pc 35 then (bif Nat.beq pc 34 then some (.iload_n 2, 35, 0) else none) else (bif Nat.blt pc 36 then (bif Nat.beq pc 35 then some (.iastore, 36, 0) else none) else (bif Nat.beq pc 36 then some (.return_, 37, 0) else none)))))) else none
/-- buildCurrent -/
def t_ins_39 (pc : Nat) : Option (Instr × Nat × Nat) := bif Nat.blt pc 9 then (bif Nat.blt pc 4 then (bif Nat.blt pc 1 then (bif Nat.beq pc 0 then some (.aload_n 0, 1, 0) else none) else (bif Nat.beq pc 1 then some (.invokevirtual 140, 4, 0) else none)) else (bif Nat.blt pc 5 then (bif Nat.beq pc 4 then some (.aload_n 0, 5, 0) else none) else (bif Nat.blt pc 8 then (bif Nat.beq pc 5 then some (.invokevirtual 108, 8, 0) else none) else (bif Nat.beq pc 8 then some (.ireturn, 9, 0) else none)))) else none
/-- countSelected -/
def t_ins_40 (pc : Nat) : Option (Instr × Nat × Nat) := bif Nat.blt pc 32 then (bif Nat.blt pc 13 then (bif Nat.blt pc 4 then (bif Nat.blt pc 2 then (bif Nat.blt pc 1 then (bif Nat.beq pc 0 then some (.iconst 0, 1, 0) else none) else (bif Nat.beq pc 1 then some (.istore_n 1, 2, 0) else none)) else (bif Nat.blt pc 3 then (bif Nat.beq pc 2 then some (.iconst 1, 3, 0) else none) else (bif Nat.beq pc 3 then some (.istore_n 2, 4, 0) else none))) else (bif Nat.blt pc 6 then (bif Nat.blt pc 5 then (bif Nat.beq pc 4 then some (.iload_n 2, 5, 0) else none) else (bif Nat.beq pc 5 then some (.aload_n 0, 6, 0) else none)) else (bif Nat.blt pc 9 then (bif Nat.beq pc 6 then some (.getfield 54, 9, 0) else none) else (bif Nat.blt pc 12 then (bif Nat.beq pc 9 then some (.if_icmp .ge 21, 12, 30) else none) else (bif Nat.beq pc 12 then some (.aload_n 0, 13, 0) else none))))) else (bif Nat.blt pc 21 then (bif Nat.blt pc 17 then (bif Nat.blt pc 16 then (bif Nat.beq pc 13 then some (.getfield 29, 16, 0) else none) else (bif Nat.beq pc 16 then some (.iload_n 2, 17, 0) else none)) else (bif Nat.blt pc 18 then (bif Nat.beq pc 17 then some (.iaload, 18, 0) else none) else (bif Nat.beq pc 18 then some (.ifCond .eq 6, 21, 24) else none))) else (bif Nat.blt pc 27 then (bif Nat.blt pc 24 then (bif Nat.beq pc 21 then some (.iinc 1 1, 24, 0) else none) else (bif Nat.beq pc 24 then some (.iinc 2 1, 27, 0) else none)) else (bif Nat.blt pc 30 then (bif Nat.beq pc 27 then some (.goto (-23), 30, 4) else none) else (bif Nat.blt pc 31 then (bif Nat.beq pc 30 then some (.iload_n 1, 31, 0) else none) else (bif Nat.beq pc 31 then some (.ireturn, 32, 0) else none)))))) else none
/-- runBuild -/
def t_ins_41 (pc : Nat) : Option (Instr × Nat × Nat) := bif Nat.blt pc 68 then (bif Nat.blt pc 31 then (bif Nat.blt pc 15 then (bif Nat.blt pc 6 then (bif Nat.blt pc 4 then (bif Nat.blt pc 1 then (bif Nat.beq pc 0 then some (.aload_n 0, 1, 0) else none) else (bif Nat.beq pc 1 then some (.invokevirtual 143, 4, 0) else none)) else (bif Nat.blt pc 5 then (bif Nat.beq pc 4 then some (.iconst 1, 5, 0) else none) else (bif Nat.beq pc 5 then some (.istore_n 1, 6, 0) else none))) else (bif Nat.blt pc 8 then (bif Nat.blt pc 7 then (bif Nat.beq pc 6 then some (.iload_n 1, 7, 0) else none) else (bif Nat.beq pc 7 then some (.aload_n 0, 8, 0) else none)) else (bif Nat.blt pc 11 then (bif Nat.beq pc 8 then some (.getfield 54, 11, 0) else none) else (bif Nat.blt pc 14 then (bif Nat.beq pc 11 then some (.if_icmp .ge 38, 14, 49) else none) else (bif Nat.beq pc 14 then some (.aload_n 0, 15, 0) else none))))) else (bif Nat.blt pc 24 then (bif Nat.blt pc 19 then (bif Nat.blt pc 18 then (bif Nat.beq pc 15 then some (.getfield 26, 18, 0) else none) else (bif Nat.beq pc 18 then some (.iload_n 1, 19, 0) else none)) else (bif Nat.blt pc 20 then (bif Nat.beq pc 19 then some (.iaload, 20, 0) else none) else (bif Nat.blt pc 23 then (bif Nat.beq pc 20 then some (.ifCond .eq 14, 23, 34) else none) else (bif Nat.beq pc 23 then some (.aload_n 0, 24, 0) else none)))) else (bif Nat.blt pc 26 then (bif Nat.blt pc 25 then (bif Nat.beq pc 24 then some (.iload_n 1, 25, 0) else none) else (bif Nat.beq pc 25 then some (.aload_n 0, 26, 0) else none)) else (bif Nat.blt pc 29 then (bif Nat.beq pc 26 then some (.getfield 26, 29, 0) else none) else (bif Nat.blt pc 30 then (bif Nat.beq pc 29 then some (.iload_n 1, 30, 0) else none) else (bif Nat.beq pc 30 then some (.iaload, 31, 0) else none)))))) else (bif Nat.blt pc 50 then (bif Nat.blt pc 41 then (bif Nat.blt pc 35 then (bif Nat.blt pc 34 then (bif Nat.beq pc 31 then some (.invokevirtual 146, 34, 0) else none) else (bif Nat.beq pc 34 then some (.aload_n 0, 35, 0) else none)) else (bif Nat.blt pc 38 then (bif Nat.beq pc 35 then some (.getfield 149, 38, 0) else none) else (bif Nat.beq pc 38 then some (.ifCond .eq 5, 41, 43) else none))) else (bif Nat.blt pc 43 then (bif Nat.blt pc 42 then (bif Nat.beq pc 41 then some (.iconst 0, 42, 0) else none) else (bif Nat.beq pc 42 then some (.ireturn, 43, 0) else none)) else (bif Nat.blt pc 46 then (bif Nat.beq pc 43 then some (.iinc 1 1, 46, 0) else none) else (bif Nat.blt pc 49 then (bif Nat.beq pc 46 then some (.goto (-40), 49, 6) else none) else (bif Nat.beq pc 49 then some (.aload_n 0, 50, 0) else none))))) else (bif Nat.blt pc 61 then (bif Nat.blt pc 54 then (bif Nat.blt pc 53 then (bif Nat.beq pc 50 then some (.invokevirtual 153, 53, 0) else none) else (bif Nat.beq pc 53 then some (.aload_n 0, 54, 0) else none)) else (bif Nat.blt pc 57 then (bif Nat.beq pc 54 then some (.getfield 149, 57, 0) else none) else (bif Nat.blt pc 60 then (bif Nat.beq pc 57 then some (.ifCond .eq 5, 60, 62) else none) else (bif Nat.beq pc 60 then some (.iconst 0, 61, 0) else none)))) else (bif Nat.blt pc 63 then (bif Nat.blt pc 62 then (bif Nat.beq pc 61 then some (.ireturn, 62, 0) else none) else (bif Nat.beq pc 62 then some (.aload_n 0, 63, 0) else none)) else (bif Nat.blt pc 66 then (bif Nat.beq pc 63 then some (.invokevirtual 156, 66, 0) else none) else (bif Nat.blt pc 67 then (bif Nat.beq pc 66 then some (.iconst 1, 67, 0) else none) else (bif Nat.beq pc 67 then some (.ireturn, 68, 0) else none))))))) else none
/-- resetBuild -/
def t_ins_42 (pc : Nat) : Option (Instr × Nat × Nat) := bif Nat.blt pc 58 then (bif Nat.blt pc 29 then (bif Nat.blt pc 13 then (bif Nat.blt pc 5 then (bif Nat.blt pc 2 then (bif Nat.blt pc 1 then (bif Nat.beq pc 0 then some (.iconst 0, 1, 0) else none) else (bif Nat.beq pc 1 then some (.istore_n 1, 2, 0) else none)) else (bif Nat.blt pc 3 then (bif Nat.beq pc 2 then some (.iload_n 1, 3, 0) else none) else (bif Nat.beq pc 3 then some (.bipush 81, 5, 0) else none))) else (bif Nat.blt pc 9 then (bif Nat.blt pc 8 then (bif Nat.beq pc 5 then some (.if_icmp .ge 16, 8, 21) else none) else (bif Nat.beq pc 8 then some (.aload_n 0, 9, 0) else none)) else (bif Nat.blt pc 12 then (bif Nat.beq pc 9 then some (.getfield 32, 12, 0) else none) else (bif Nat.beq pc 12 then some (.iload_n 1, 13, 0) else none)))) else (bif Nat.blt pc 21 then (bif Nat.blt pc 15 then (bif Nat.blt pc 14 then (bif Nat.beq pc 13 then some (.iconst 0, 14, 0) else none) else (bif Nat.beq pc 14 then some (.bastore, 15, 0) else none)) else (bif Nat.blt pc 18 then (bif Nat.beq pc 15 then some (.iinc 1 1, 18, 0) else none) else (bif Nat.beq pc 18 then some (.goto (-16), 21, 2) else none))) else (bif Nat.blt pc 23 then (bif Nat.blt pc 22 then (bif Nat.beq pc 21 then some (.iconst 0, 22, 0) else none) else (bif Nat.beq pc 22 then some (.istore_n 1, 23, 0) else none)) else (bif Nat.blt pc 24 then (bif Nat.beq pc 23 then some (.iload_n 1, 24, 0) else none) else (bif Nat.blt pc 26 then (bif Nat.beq pc 24 then some (.bipush 9, 26, 0) else none) else (bif Nat.beq pc 26 then some (.if_icmp .ge 16, 29, 42) else none)))))) else (bif Nat.blt pc 43 then (bif Nat.blt pc 35 then (bif Nat.blt pc 33 then (bif Nat.blt pc 30 then (bif Nat.beq pc 29 then some (.aload_n 0, 30, 0) else none) else (bif Nat.beq pc 30 then some (.getfield 29, 33, 0) else none)) else (bif Nat.blt pc 34 then (bif Nat.beq pc 33 then some (.iload_n 1, 34, 0) else none) else (bif Nat.beq pc 34 then some (.iconst 0, 35, 0) else none))) else (bif Nat.blt pc 39 then (bif Nat.blt pc 36 then (bif Nat.beq pc 35 then some (.iastore, 36, 0) else none) else (bif Nat.beq pc 36 then some (.iinc 1 1, 39, 0) else none)) else (bif Nat.blt pc 42 then (bif Nat.beq pc 39 then some (.goto (-16), 42, 23) else none) else (bif Nat.beq pc 42 then some (.aload_n 0, 43, 0) else none)))) else (bif Nat.blt pc 49 then (bif Nat.blt pc 47 then (bif Nat.blt pc 44 then (bif Nat.beq pc 43 then some (.iconst 0, 44, 0) else none) else (bif Nat.beq pc 44 then some (.putfield 159, 47, 0) else none)) else (bif Nat.blt pc 48 then (bif Nat.beq pc 47 then some (.aload_n 0, 48, 0) else none) else (bif Nat.beq pc 48 then some (.iconst 0, 49, 0) else none))) else (bif Nat.blt pc 53 then (bif Nat.blt pc 52 then (bif Nat.beq pc 49 then some (.putfield 162, 52, 0) else none) else (bif Nat.beq pc 52 then some (.aload_n 0, 53, 0) else none)) else (bif Nat.blt pc 54 then (bif Nat.beq pc 53 then some (.iconst 0, 54, 0) else none) else (bif Nat.blt pc 57 then (bif Nat.beq pc 54 then some (.putfield 149, 57, 0) else none) else (bif Nat.beq pc 57 then some (.return_, 58, 0) else none))))))) else none
/-- drainQueue -/
def t_ins_43 (pc : Nat) : Option (Instr × Nat × Nat) := bif Nat.blt pc 70 then (bif Nat.blt pc 36 then (bif Nat.blt pc 16 then (bif Nat.blt pc 5 then (bif Nat.blt pc 2 then (bif Nat.blt pc 1 then (bif Nat.beq pc 0 then some (.iconst 0, 1, 0) else none) else (bif Nat.beq pc 1 then some (.istore_n 1, 2, 0) else none)) else (bif Nat.blt pc 3 then (bif Nat.beq pc 2 then some (.iload_n 1, 3, 0) else none) else (bif Nat.beq pc 3 then some (.bipush 81, 5, 0) else none))) else (bif Nat.blt pc 9 then (bif Nat.blt pc 8 then (bif Nat.beq pc 5 then some (.if_icmp .ge 64, 8, 69) else none) else (bif Nat.beq pc 8 then some (.aload_n 0, 9, 0) else none)) else (bif Nat.blt pc 12 then (bif Nat.beq pc 9 then some (.getfield 149, 12, 0) else none) else (bif Nat.blt pc 15 then (bif Nat.beq pc 12 then some (.ifCond .ne 14, 15, 26) else none) else (bif Nat.beq pc 15 then some (.aload_n 0, 16, 0) else none))))) else (bif Nat.blt pc 27 then (bif Nat.blt pc 20 then (bif Nat.blt pc 19 then (bif Nat.beq pc 16 then some (.getfield 159, 19, 0) else none) else (bif Nat.beq pc 19 then some (.aload_n 0, 20, 0) else none)) else (bif Nat.blt pc 23 then (bif Nat.beq pc 20 then some (.getfield 162, 23, 0) else none) else (bif Nat.blt pc 26 then (bif Nat.beq pc 23 then some (.if_icmp .lt 4, 26, 27) else none) else (bif Nat.beq pc 26 then some (.return_, 27, 0) else none)))) else (bif Nat.blt pc 31 then (bif Nat.blt pc 28 then (bif Nat.beq pc 27 then some (.aload_n 0, 28, 0) else none) else (bif Nat.beq pc 28 then some (.getfield 35, 31, 0) else none)) else (bif Nat.blt pc 32 then (bif Nat.beq pc 31 then some (.aload_n 0, 32, 0) else none) else (bif Nat.blt pc 35 then (bif Nat.beq pc 32 then some (.getfield 159, 35, 0) else none) else (bif Nat.beq pc 35 then some (.iaload, 36, 0) else none)))))) else (bif Nat.blt pc 52 then (bif Nat.blt pc 45 then (bif Nat.blt pc 38 then (bif Nat.blt pc 37 then (bif Nat.beq pc 36 then some (.istore_n 2, 37, 0) else none) else (bif Nat.beq pc 37 then some (.aload_n 0, 38, 0) else none)) else (bif Nat.blt pc 41 then (bif Nat.beq pc 38 then some (.getfield 38, 41, 0) else none) else (bif Nat.blt pc 42 then (bif Nat.beq pc 41 then some (.aload_n 0, 42, 0) else none) else (bif Nat.beq pc 42 then some (.getfield 159, 45, 0) else none)))) else (bif Nat.blt pc 47 then (bif Nat.blt pc 46 then (bif Nat.beq pc 45 then some (.iaload, 46, 0) else none) else (bif Nat.beq pc 46 then some (.istore_n 3, 47, 0) else none)) else (bif Nat.blt pc 48 then (bif Nat.beq pc 47 then some (.aload_n 0, 48, 0) else none) else (bif Nat.blt pc 49 then (bif Nat.beq pc 48 then some (.dup, 49, 0) else none) else (bif Nat.beq pc 49 then some (.getfield 159, 52, 0) else none))))) else (bif Nat.blt pc 59 then (bif Nat.blt pc 54 then (bif Nat.blt pc 53 then (bif Nat.beq pc 52 then some (.iconst 1, 53, 0) else none) else (bif Nat.beq pc 53 then some (.iadd, 54, 0) else none)) else (bif Nat.blt pc 57 then (bif Nat.beq pc 54 then some (.putfield 159, 57, 0) else none) else (bif Nat.blt pc 58 then (bif Nat.beq pc 57 then some (.aload_n 0, 58, 0) else none) else (bif Nat.beq pc 58 then some (.iload_n 2, 59, 0) else none)))) else (bif Nat.blt pc 63 then (bif Nat.blt pc 60 then (bif Nat.beq pc 59 then some (.iload_n 3, 60, 0) else none) else (bif Nat.beq pc 60 then some (.invokevirtual 165, 63, 0) else none)) else (bif Nat.blt pc 66 then (bif Nat.beq pc 63 then some (.iinc 1 1, 66, 0) else none) else (bif Nat.blt pc 69 then (bif Nat.beq pc 66 then some (.goto (-64), 69, 2) else none) else (bif Nat.beq pc 69 then some (.return_, 70, 0) else none))))))) else none
/-- expandNode -/
def t_ins_44 (pc : Nat) : Option (Instr × Nat × Nat) := bif Nat.blt pc 92 then (bif Nat.blt pc 42 then (bif Nat.blt pc 20 then (bif Nat.blt pc 10 then (bif Nat.blt pc 3 then (bif Nat.blt pc 1 then (bif Nat.beq pc 0 then some (.aload_n 0, 1, 0) else none) else (bif Nat.blt pc 2 then (bif Nat.beq pc 1 then some (.iload_n 1, 2, 0) else none) else (bif Nat.beq pc 2 then some (.iload_n 2, 3, 0) else none))) else (bif Nat.blt pc 6 then (bif Nat.beq pc 3 then some (.invokevirtual 71, 6, 0) else none) else (bif Nat.blt pc 9 then (bif Nat.beq pc 6 then some (.ifCond .ne 4, 9, 10) else none) else (bif Nat.beq pc 9 then some (.return_, 10, 0) else none)))) else (bif Nat.blt pc 15 then (bif Nat.blt pc 11 then (bif Nat.beq pc 10 then some (.aload_n 0, 11, 0) else none) else (bif Nat.blt pc 14 then (bif Nat.beq pc 11 then some (.getfield 16, 14, 0) else none) else (bif Nat.beq pc 14 then some (.aload_n 0, 15, 0) else none))) else (bif Nat.blt pc 16 then (bif Nat.beq pc 15 then some (.iload_n 1, 16, 0) else none) else (bif Nat.blt pc 17 then (bif Nat.beq pc 16 then some (.iload_n 2, 17, 0) else none) else (bif Nat.beq pc 17 then some (.invokevirtual 84, 20, 0) else none))))) else (bif Nat.blt pc 28 then (bif Nat.blt pc 23 then (bif Nat.blt pc 21 then (bif Nat.beq pc 20 then some (.iaload, 21, 0) else none) else (bif Nat.blt pc 22 then (bif Nat.beq pc 21 then some (.istore_n 3, 22, 0) else none) else (bif Nat.beq pc 22 then some (.iload_n 3, 23, 0) else none))) else (bif Nat.blt pc 26 then (bif Nat.beq pc 23 then some (.ifCond .ne 5, 26, 28) else none) else (bif Nat.blt pc 27 then (bif Nat.beq pc 26 then some (.iload_n 2, 27, 0) else none) else (bif Nat.beq pc 27 then some (.istore_n 3, 28, 0) else none)))) else (bif Nat.blt pc 33 then (bif Nat.blt pc 29 then (bif Nat.beq pc 28 then some (.iconst 1, 29, 0) else none) else (bif Nat.blt pc 31 then (bif Nat.beq pc 29 then some (.istore 4, 31, 0) else none) else (bif Nat.beq pc 31 then some (.iload 4, 33, 0) else none))) else (bif Nat.blt pc 37 then (bif Nat.blt pc 34 then (bif Nat.beq pc 33 then some (.aload_n 0, 34, 0) else none) else (bif Nat.beq pc 34 then some (.getfield 54, 37, 0) else none)) else (bif Nat.blt pc 40 then (bif Nat.beq pc 37 then some (.if_icmp .ge 54, 40, 91) else none) else (bif Nat.beq pc 40 then some (.iload 4, 42, 0) else none)))))) else (bif Nat.blt pc 64 then (bif Nat.blt pc 54 then (bif Nat.blt pc 49 then (bif Nat.blt pc 43 then (bif Nat.beq pc 42 then some (.iload_n 1, 43, 0) else none) else (bif Nat.blt pc 46 then (bif Nat.beq pc 43 then some (.if_icmp .ne 6, 46, 49) else none) else (bif Nat.beq pc 46 then some (.goto 39, 49, 85) else none))) else (bif Nat.blt pc 50 then (bif Nat.beq pc 49 then some (.aload_n 0, 50, 0) else none) else (bif Nat.blt pc 53 then (bif Nat.beq pc 50 then some (.getfield 20, 53, 0) else none) else (bif Nat.beq pc 53 then some (.aload_n 0, 54, 0) else none)))) else (bif Nat.blt pc 58 then (bif Nat.blt pc 55 then (bif Nat.beq pc 54 then some (.iload_n 1, 55, 0) else none) else (bif Nat.blt pc 56 then (bif Nat.beq pc 55 then some (.iload_n 3, 56, 0) else none) else (bif Nat.beq pc 56 then some (.iload 4, 58, 0) else none))) else (bif Nat.blt pc 61 then (bif Nat.beq pc 58 then some (.invokevirtual 92, 61, 0) else none) else (bif Nat.blt pc 62 then (bif Nat.beq pc 61 then some (.iaload, 62, 0) else none) else (bif Nat.beq pc 62 then some (.istore 5, 64, 0) else none))))) else (bif Nat.blt pc 77 then (bif Nat.blt pc 70 then (bif Nat.blt pc 66 then (bif Nat.beq pc 64 then some (.iload 5, 66, 0) else none) else (bif Nat.blt pc 69 then (bif Nat.beq pc 66 then some (.ifCond .eq 11, 69, 77) else none) else (bif Nat.beq pc 69 then some (.aload_n 0, 70, 0) else none))) else (bif Nat.blt pc 72 then (bif Nat.beq pc 70 then some (.iload 4, 72, 0) else none) else (bif Nat.blt pc 74 then (bif Nat.beq pc 72 then some (.iload 5, 74, 0) else none) else (bif Nat.beq pc 74 then some (.invokevirtual 146, 77, 0) else none)))) else (bif Nat.blt pc 84 then (bif Nat.blt pc 78 then (bif Nat.beq pc 77 then some (.aload_n 0, 78, 0) else none) else (bif Nat.blt pc 81 then (bif Nat.beq pc 78 then some (.getfield 149, 81, 0) else none) else (bif Nat.beq pc 81 then some (.ifCond .eq 4, 84, 85) else none))) else (bif Nat.blt pc 88 then (bif Nat.blt pc 85 then (bif Nat.beq pc 84 then some (.return_, 85, 0) else none) else (bif Nat.beq pc 85 then some (.iinc 4 1, 88, 0) else none)) else (bif Nat.blt pc 91 then (bif Nat.beq pc 88 then some (.goto (-57), 91, 31) else none) else (bif Nat.beq pc 91 then some (.return_, 92, 0) else none))))))) else none
/-- addNode -/
def t_ins_45 (pc : Nat) : Option (Instr × Nat × Nat) := bif Nat.blt pc 84 then (bif Nat.blt pc 42 then (bif Nat.blt pc 18 then (bif Nat.blt pc 8 then (bif Nat.blt pc 3 then (bif Nat.blt pc 1 then (bif Nat.beq pc 0 then some (.aload_n 0, 1, 0) else none) else (bif Nat.blt pc 2 then (bif Nat.beq pc 1 then some (.iload_n 1, 2, 0) else none) else (bif Nat.beq pc 2 then some (.iload_n 2, 3, 0) else none))) else (bif Nat.blt pc 6 then (bif Nat.beq pc 3 then some (.invokevirtual 168, 6, 0) else none) else (bif Nat.blt pc 7 then (bif Nat.beq pc 6 then some (.istore_n 3, 7, 0) else none) else (bif Nat.beq pc 7 then some (.iload_n 3, 8, 0) else none)))) else (bif Nat.blt pc 13 then (bif Nat.blt pc 11 then (bif Nat.beq pc 8 then some (.ifCond .ne 9, 11, 17) else none) else (bif Nat.blt pc 12 then (bif Nat.beq pc 11 then some (.aload_n 0, 12, 0) else none) else (bif Nat.beq pc 12 then some (.iconst 1, 13, 0) else none))) else (bif Nat.blt pc 16 then (bif Nat.beq pc 13 then some (.putfield 149, 16, 0) else none) else (bif Nat.blt pc 17 then (bif Nat.beq pc 16 then some (.return_, 17, 0) else none) else (bif Nat.beq pc 17 then some (.aload_n 0, 18, 0) else none))))) else (bif Nat.blt pc 29 then (bif Nat.blt pc 23 then (bif Nat.blt pc 19 then (bif Nat.beq pc 18 then some (.iload_n 1, 19, 0) else none) else (bif Nat.blt pc 20 then (bif Nat.beq pc 19 then some (.iload_n 3, 20, 0) else none) else (bif Nat.beq pc 20 then some (.invokevirtual 84, 23, 0) else none))) else (bif Nat.blt pc 25 then (bif Nat.beq pc 23 then some (.istore 4, 25, 0) else none) else (bif Nat.blt pc 26 then (bif Nat.beq pc 25 then some (.aload_n 0, 26, 0) else none) else (bif Nat.beq pc 26 then some (.getfield 32, 29, 0) else none)))) else (bif Nat.blt pc 35 then (bif Nat.blt pc 31 then (bif Nat.beq pc 29 then some (.iload 4, 31, 0) else none) else (bif Nat.blt pc 32 then (bif Nat.beq pc 31 then some (.baload, 32, 0) else none) else (bif Nat.beq pc 32 then some (.ifCond .eq 4, 35, 36) else none))) else (bif Nat.blt pc 37 then (bif Nat.blt pc 36 then (bif Nat.beq pc 35 then some (.return_, 36, 0) else none) else (bif Nat.beq pc 36 then some (.aload_n 0, 37, 0) else none)) else (bif Nat.blt pc 40 then (bif Nat.beq pc 37 then some (.getfield 32, 40, 0) else none) else (bif Nat.beq pc 40 then some (.iload 4, 42, 0) else none)))))) else (bif Nat.blt pc 63 then (bif Nat.blt pc 53 then (bif Nat.blt pc 45 then (bif Nat.blt pc 43 then (bif Nat.beq pc 42 then some (.iconst 1, 43, 0) else none) else (bif Nat.blt pc 44 then (bif Nat.beq pc 43 then some (.bastore, 44, 0) else none) else (bif Nat.beq pc 44 then some (.aload_n 0, 45, 0) else none))) else (bif Nat.blt pc 48 then (bif Nat.beq pc 45 then some (.getfield 162, 48, 0) else none) else (bif Nat.blt pc 50 then (bif Nat.beq pc 48 then some (.bipush 81, 50, 0) else none) else (bif Nat.beq pc 50 then some (.if_icmp .ge 33, 53, 83) else none)))) else (bif Nat.blt pc 58 then (bif Nat.blt pc 54 then (bif Nat.beq pc 53 then some (.aload_n 0, 54, 0) else none) else (bif Nat.blt pc 57 then (bif Nat.beq pc 54 then some (.getfield 35, 57, 0) else none) else (bif Nat.beq pc 57 then some (.aload_n 0, 58, 0) else none))) else (bif Nat.blt pc 61 then (bif Nat.beq pc 58 then some (.getfield 162, 61, 0) else none) else (bif Nat.blt pc 62 then (bif Nat.beq pc 61 then some (.iload_n 1, 62, 0) else none) else (bif Nat.beq pc 62 then some (.iastore, 63, 0) else none))))) else (bif Nat.blt pc 73 then (bif Nat.blt pc 68 then (bif Nat.blt pc 64 then (bif Nat.beq pc 63 then some (.aload_n 0, 64, 0) else none) else (bif Nat.blt pc 67 then (bif Nat.beq pc 64 then some (.getfield 38, 67, 0) else none) else (bif Nat.beq pc 67 then some (.aload_n 0, 68, 0) else none))) else (bif Nat.blt pc 71 then (bif Nat.beq pc 68 then some (.getfield 162, 71, 0) else none) else (bif Nat.blt pc 72 then (bif Nat.beq pc 71 then some (.iload_n 3, 72, 0) else none) else (bif Nat.beq pc 72 then some (.iastore, 73, 0) else none)))) else (bif Nat.blt pc 78 then (bif Nat.blt pc 74 then (bif Nat.beq pc 73 then some (.aload_n 0, 74, 0) else none) else (bif Nat.blt pc 75 then (bif Nat.beq pc 74 then some (.dup, 75, 0) else none) else (bif Nat.beq pc 75 then some (.getfield 162, 78, 0) else none))) else (bif Nat.blt pc 80 then (bif Nat.blt pc 79 then (bif Nat.beq pc 78 then some (.iconst 1, 79, 0) else none) else (bif Nat.beq pc 79 then some (.iadd, 80, 0) else none)) else (bif Nat.blt pc 83 then (bif Nat.beq pc 80 then some (.putfield 162, 83, 0) else none) else (bif Nat.beq pc 83 then some (.return_, 84, 0) else none))))))) else none
/-- adjust -/
def t_ins_46 (pc : Nat) : Option (Instr × Nat × Nat) := bif Nat.blt pc 77 then (bif Nat.blt pc 33 then (bif Nat.blt pc 17 then (bif Nat.blt pc 9 then (bif Nat.blt pc 2 then (bif Nat.blt pc 1 then (bif Nat.beq pc 0 then some (.aload_n 0, 1, 0) else none) else (bif Nat.beq pc 1 then some (.iload_n 1, 2, 0) else none)) else (bif Nat.blt pc 3 then (bif Nat.beq pc 2 then some (.iload_n 2, 3, 0) else none) else (bif Nat.blt pc 6 then (bif Nat.beq pc 3 then some (.invokevirtual 71, 6, 0) else none) else (bif Nat.beq pc 6 then some (.ifCond .ne 5, 9, 11) else none)))) else (bif Nat.blt pc 12 then (bif Nat.blt pc 10 then (bif Nat.beq pc 9 then some (.iconst 0, 10, 0) else none) else (bif Nat.blt pc 11 then (bif Nat.beq pc 10 then some (.ireturn, 11, 0) else none) else (bif Nat.beq pc 11 then some (.aload_n 0, 12, 0) else none))) else (bif Nat.blt pc 15 then (bif Nat.beq pc 12 then some (.getfield 13, 15, 0) else none) else (bif Nat.blt pc 16 then (bif Nat.beq pc 15 then some (.aload_n 0, 16, 0) else none) else (bif Nat.beq pc 16 then some (.iload_n 1, 17, 0) else none))))) else (bif Nat.blt pc 27 then (bif Nat.blt pc 22 then (bif Nat.blt pc 18 then (bif Nat.beq pc 17 then some (.iload_n 2, 18, 0) else none) else (bif Nat.blt pc 21 then (bif Nat.beq pc 18 then some (.invokevirtual 84, 21, 0) else none) else (bif Nat.beq pc 21 then some (.baload, 22, 0) else none))) else (bif Nat.blt pc 25 then (bif Nat.beq pc 22 then some (.ifCond .ne 5, 25, 27) else none) else (bif Nat.blt pc 26 then (bif Nat.beq pc 25 then some (.iload_n 2, 26, 0) else none) else (bif Nat.beq pc 26 then some (.ireturn, 27, 0) else none)))) else (bif Nat.blt pc 30 then (bif Nat.blt pc 28 then (bif Nat.beq pc 27 then some (.iload_n 2, 28, 0) else none) else (bif Nat.blt pc 29 then (bif Nat.beq pc 28 then some (.iconst 1, 29, 0) else none) else (bif Nat.beq pc 29 then some (.iadd, 30, 0) else none))) else (bif Nat.blt pc 31 then (bif Nat.beq pc 30 then some (.istore_n 3, 31, 0) else none) else (bif Nat.blt pc 32 then (bif Nat.beq pc 31 then some (.iload_n 3, 32, 0) else none) else (bif Nat.beq pc 32 then some (.aload_n 0, 33, 0) else none)))))) else (bif Nat.blt pc 54 then (bif Nat.blt pc 42 then (bif Nat.blt pc 39 then (bif Nat.blt pc 36 then (bif Nat.beq pc 33 then some (.getfield 61, 36, 0) else none) else (bif Nat.beq pc 36 then some (.if_icmp .gt 39, 39, 75) else none)) else (bif Nat.blt pc 40 then (bif Nat.beq pc 39 then some (.aload_n 0, 40, 0) else none) else (bif Nat.blt pc 41 then (bif Nat.beq pc 40 then some (.iload_n 1, 41, 0) else none) else (bif Nat.beq pc 41 then some (.iload_n 3, 42, 0) else none)))) else (bif Nat.blt pc 48 then (bif Nat.blt pc 45 then (bif Nat.beq pc 42 then some (.invokevirtual 84, 45, 0) else none) else (bif Nat.blt pc 47 then (bif Nat.beq pc 45 then some (.istore 4, 47, 0) else none) else (bif Nat.beq pc 47 then some (.aload_n 0, 48, 0) else none))) else (bif Nat.blt pc 51 then (bif Nat.beq pc 48 then some (.getfield 7, 51, 0) else none) else (bif Nat.blt pc 53 then (bif Nat.beq pc 51 then some (.iload 4, 53, 0) else none) else (bif Nat.beq pc 53 then some (.baload, 54, 0) else none))))) else (bif Nat.blt pc 67 then (bif Nat.blt pc 61 then (bif Nat.blt pc 57 then (bif Nat.beq pc 54 then some (.ifCond .eq 15, 57, 69) else none) else (bif Nat.blt pc 58 then (bif Nat.beq pc 57 then some (.aload_n 0, 58, 0) else none) else (bif Nat.beq pc 58 then some (.getfield 13, 61, 0) else none))) else (bif Nat.blt pc 63 then (bif Nat.beq pc 61 then some (.iload 4, 63, 0) else none) else (bif Nat.blt pc 64 then (bif Nat.beq pc 63 then some (.baload, 64, 0) else none) else (bif Nat.beq pc 64 then some (.ifCond .ne 5, 67, 69) else none)))) else (bif Nat.blt pc 72 then (bif Nat.blt pc 68 then (bif Nat.beq pc 67 then some (.iload_n 3, 68, 0) else none) else (bif Nat.blt pc 69 then (bif Nat.beq pc 68 then some (.ireturn, 69, 0) else none) else (bif Nat.beq pc 69 then some (.iinc 3 1, 72, 0) else none))) else (bif Nat.blt pc 75 then (bif Nat.beq pc 72 then some (.goto (-41), 75, 31) else none) else (bif Nat.blt pc 76 then (bif Nat.beq pc 75 then some (.iconst 0, 76, 0) else none) else (bif Nat.beq pc 76 then some (.ireturn, 77, 0) else none))))))) else none
/-- computeSelection -/
def t_ins_47 (pc : Nat) : Option (Instr × Nat × Nat) := bif Nat.blt pc 58 then (bif Nat.blt pc 27 then (bif Nat.blt pc 12 then (bif Nat.blt pc 4 then (bif Nat.blt pc 2 then (bif Nat.blt pc 1 then (bif Nat.beq pc 0 then some (.iconst 1, 1, 0) else none) else (bif Nat.beq pc 1 then some (.istore_n 1, 2, 0) else none)) else (bif Nat.blt pc 3 then (bif Nat.beq pc 2 then some (.iload_n 1, 3, 0) else none) else (bif Nat.beq pc 3 then some (.aload_n 0, 4, 0) else none))) else (bif Nat.blt pc 10 then (bif Nat.blt pc 7 then (bif Nat.beq pc 4 then some (.getfield 54, 7, 0) else none) else (bif Nat.beq pc 7 then some (.if_icmp .ge 50, 10, 57) else none)) else (bif Nat.blt pc 11 then (bif Nat.beq pc 10 then some (.iconst 0, 11, 0) else none) else (bif Nat.beq pc 11 then some (.istore_n 2, 12, 0) else none)))) else (bif Nat.blt pc 16 then (bif Nat.blt pc 14 then (bif Nat.blt pc 13 then (bif Nat.beq pc 12 then some (.iconst 1, 13, 0) else none) else (bif Nat.beq pc 13 then some (.istore_n 3, 14, 0) else none)) else (bif Nat.blt pc 15 then (bif Nat.beq pc 14 then some (.iload_n 3, 15, 0) else none) else (bif Nat.beq pc 15 then some (.aload_n 0, 16, 0) else none))) else (bif Nat.blt pc 22 then (bif Nat.blt pc 19 then (bif Nat.beq pc 16 then some (.getfield 61, 19, 0) else none) else (bif Nat.beq pc 19 then some (.if_icmp .gt 25, 22, 44) else none)) else (bif Nat.blt pc 23 then (bif Nat.beq pc 22 then some (.aload_n 0, 23, 0) else none) else (bif Nat.blt pc 26 then (bif Nat.beq pc 23 then some (.getfield 32, 26, 0) else none) else (bif Nat.beq pc 26 then some (.aload_n 0, 27, 0) else none)))))) else (bif Nat.blt pc 41 then (bif Nat.blt pc 33 then (bif Nat.blt pc 29 then (bif Nat.blt pc 28 then (bif Nat.beq pc 27 then some (.iload_n 1, 28, 0) else none) else (bif Nat.beq pc 28 then some (.iload_n 3, 29, 0) else none)) else (bif Nat.blt pc 32 then (bif Nat.beq pc 29 then some (.invokevirtual 84, 32, 0) else none) else (bif Nat.beq pc 32 then some (.baload, 33, 0) else none))) else (bif Nat.blt pc 37 then (bif Nat.blt pc 36 then (bif Nat.beq pc 33 then some (.ifCond .eq 5, 36, 38) else none) else (bif Nat.beq pc 36 then some (.iload_n 3, 37, 0) else none)) else (bif Nat.blt pc 38 then (bif Nat.beq pc 37 then some (.istore_n 2, 38, 0) else none) else (bif Nat.beq pc 38 then some (.iinc 3 1, 41, 0) else none)))) else (bif Nat.blt pc 49 then (bif Nat.blt pc 45 then (bif Nat.blt pc 44 then (bif Nat.beq pc 41 then some (.goto (-27), 44, 14) else none) else (bif Nat.beq pc 44 then some (.aload_n 0, 45, 0) else none)) else (bif Nat.blt pc 48 then (bif Nat.beq pc 45 then some (.getfield 29, 48, 0) else none) else (bif Nat.beq pc 48 then some (.iload_n 1, 49, 0) else none))) else (bif Nat.blt pc 51 then (bif Nat.blt pc 50 then (bif Nat.beq pc 49 then some (.iload_n 2, 50, 0) else none) else (bif Nat.beq pc 50 then some (.iastore, 51, 0) else none)) else (bif Nat.blt pc 54 then (bif Nat.beq pc 51 then some (.iinc 1 1, 54, 0) else none) else (bif Nat.blt pc 57 then (bif Nat.beq pc 54 then some (.goto (-52), 57, 2) else none) else (bif Nat.beq pc 57 then some (.return_, 58, 0) else none))))))) else none
/-- cell -/
def t_ins_48 (pc : Nat) : Option (Instr × Nat × Nat) := bif Nat.blt pc 14 then (bif Nat.blt pc 7 then (bif Nat.blt pc 2 then (bif Nat.blt pc 1 then (bif Nat.beq pc 0 then some (.iload_n 1, 1, 0) else none) else (bif Nat.beq pc 1 then some (.aload_n 0, 2, 0) else none)) else (bif Nat.blt pc 3 then (bif Nat.beq pc 2 then some (.arraylength, 3, 0) else none) else (bif Nat.blt pc 6 then (bif Nat.beq pc 3 then some (.if_icmp .ge 9, 6, 12) else none) else (bif Nat.beq pc 6 then some (.aload_n 0, 7, 0) else none)))) else (bif Nat.blt pc 9 then (bif Nat.blt pc 8 then (bif Nat.beq pc 7 then some (.iload_n 1, 8, 0) else none) else (bif Nat.beq pc 8 then some (.iaload, 9, 0) else none)) else (bif Nat.blt pc 12 then (bif Nat.beq pc 9 then some (.goto 4, 12, 13) else none) else (bif Nat.blt pc 13 then (bif Nat.beq pc 12 then some (.iconst 0, 13, 0) else none) else (bif Nat.beq pc 13 then some (.ireturn, 14, 0) else none))))) else none
/-- pos -/
def t_ins_49 (pc : Nat) : Option (Instr × Nat × Nat) := bif Nat.blt pc 16 then (bif Nat.blt pc 8 then (bif Nat.blt pc 3 then (bif Nat.blt pc 1 then (bif Nat.beq pc 0 then some (.iload_n 0, 1, 0) else none) else (bif Nat.blt pc 2 then (bif Nat.beq pc 1 then some (.iload_n 1, 2, 0) else none) else (bif Nat.beq pc 2 then some (.irem, 3, 0) else none))) else (bif Nat.blt pc 4 then (bif Nat.beq pc 3 then some (.istore_n 2, 4, 0) else none) else (bif Nat.blt pc 5 then (bif Nat.beq pc 4 then some (.iload_n 2, 5, 0) else none) else (bif Nat.beq pc 5 then some (.ifCond .ge 9, 8, 14) else none)))) else (bif Nat.blt pc 11 then (bif Nat.blt pc 9 then (bif Nat.beq pc 8 then some (.iload_n 2, 9, 0) else none) else (bif Nat.blt pc 10 then (bif Nat.beq pc 9 then some (.iload_n 1, 10, 0) else none) else (bif Nat.beq pc 10 then some (.iadd, 11, 0) else none))) else (bif Nat.blt pc 14 then (bif Nat.beq pc 11 then some (.goto 4, 14, 15) else none) else (bif Nat.blt pc 15 then (bif Nat.beq pc 14 then some (.iload_n 2, 15, 0) else none) else (bif Nat.beq pc 15 then some (.ireturn, 16, 0) else none))))) else none
def t_ins : Nat → Nat → Option (Instr × Nat × Nat)
  | 0 => t_ins_0
  | 1 => t_ins_1
  | 2 => t_ins_2
  | 3 => t_ins_3
  | 4 => t_ins_4
  | 5 => t_ins_5
  | 6 => t_ins_6
  | 7 => t_ins_7
  | 8 => t_ins_8
  | 9 => t_ins_9
  | 10 => t_ins_10
  | 11 => t_ins_11
  | 12 => t_ins_12
  | 13 => t_ins_13
  | 14 => t_ins_14
  | 15 => t_ins_15
  | 16 => t_ins_16
  | 17 => t_ins_17
  | 18 => t_ins_18
  | 19 => t_ins_19
  | 20 => t_ins_20
  | 21 => t_ins_21
  | 22 => t_ins_22
  | 23 => t_ins_23
  | 24 => t_ins_24
  | 25 => t_ins_25
  | 26 => t_ins_26
  | 27 => t_ins_27
  | 28 => t_ins_28
  | 29 => t_ins_29
  | 30 => t_ins_30
  | 31 => t_ins_31
  | 32 => t_ins_32
  | 33 => t_ins_33
  | 34 => t_ins_34
  | 35 => t_ins_35
  | 36 => t_ins_36
  | 37 => t_ins_37
  | 38 => t_ins_38
  | 39 => t_ins_39
  | 40 => t_ins_40
  | 41 => t_ins_41
  | 42 => t_ins_42
  | 43 => t_ins_43
  | 44 => t_ins_44
  | 45 => t_ins_45
  | 46 => t_ins_46
  | 47 => t_ins_47
  | 48 => t_ins_48
  | 49 => t_ins_49
  | _ => fun _ => none
/-- an instruction's length -/
def pmIL : Instr → Nat
  | .bipush _ | .iload _ | .lload _ | .aload _ | .istore _ | .lstore _ | .astore _ | .ldc _ | .newarray _ => 2
  | .sipush _ | .ldc2_w _ | .iinc _ _ | .goto _ | .ifCond _ _ | .if_icmp _ _ | .getfield _ | .putfield _ | .new _ | .invokestatic _ | .invokevirtual _ | .invokespecial _ => 3
  | _ => 1
def pmOkI (pc np tg : Nat) : Instr → Bool
  | .bipush c => decide ((Int8.ofInt c).toInt32 = Int32.ofInt c) && decide (np = pc + 2)
  | .sipush c => decide ((Int16.ofInt c).toInt32 = Int32.ofInt c) && decide (np = pc + 3)
  | .goto o | .ifCond _ o | .if_icmp _ o => decide (0 ≤ (pc : Int) + o ∧ tg = ((pc : Int) + o).toNat) && decide (np = pc + 3)
  | i => decide (np = pc + pmIL i)
def pmChk (f : Nat → Option (Instr × Nat × Nat)) (b : ByteArray) (n : Nat) : Bool := (List.range n).all fun pc => match f pc with
  | none => true
  | some (i, np, tg) => decide (decode b pc = .ok (i, pmIL i)) && pmOkI pc np tg i
theorem pmChk_out {f : Nat → Option (Instr × Nat × Nat)} {b : ByteArray} {n : Nat} (h : pmChk f b n = true) (hn : ∀ pc, ¬ pc < n → f pc = none) {pc np tg : Nat} {i : Instr} (e : f pc = some (i, np, tg)) : decode b pc = .ok (i, pmIL i) ∧ pmOkI pc np tg i = true := by
  by_cases hp : pc < n
  · have q := List.all_eq_true.mp h pc (List.mem_range.mpr hp)
    rw [e] at q
    simpa using q
  · rw [hn pc hp] at e; cases e
theorem pmBlt {α : Type} {pc n : Nat} {a : Option α} (h : ¬ pc < n) : (bif Nat.blt pc n then a else none) = none := by
  have : Nat.blt pc n = false := by
    cases e : Nat.blt pc n with
    | false => rfl
    | true => exact absurd (Nat.le_of_ble_eq_true e) h
  rw [this]; rfl
theorem chk_0 : pmChk t_ins_0 code 816 = true := by decide +kernel
theorem chk_1 : pmChk t_ins_1 prog_1_method_1_code 128 = true := by decide +kernel
theorem chk_2 : pmChk t_ins_2 prog_1_method_2_code 18 = true := by decide +kernel
theorem chk_3 : pmChk t_ins_3 prog_1_method_3_code 18 = true := by decide +kernel
theorem chk_4 : pmChk t_ins_4 prog_1_method_4_code 19 = true := by decide +kernel
theorem chk_5 : pmChk t_ins_5 prog_1_method_5_code 19 = true := by decide +kernel
theorem chk_6 : pmChk t_ins_6 prog_1_method_6_code 18 = true := by decide +kernel
theorem chk_7 : pmChk t_ins_7 prog_1_method_7_code 16 = true := by decide +kernel
theorem chk_8 : pmChk t_ins_8 prog_1_method_8_code 7 = true := by decide +kernel
theorem chk_9 : pmChk t_ins_9 prog_1_method_9_code 12 = true := by decide +kernel
theorem chk_10 : pmChk t_ins_10 prog_1_method_10_code 23 = true := by decide +kernel
theorem chk_11 : pmChk t_ins_11 prog_1_method_11_code 23 = true := by decide +kernel
theorem chk_12 : pmChk t_ins_12 prog_1_method_12_code 26 = true := by decide +kernel
theorem chk_13 : pmChk t_ins_13 prog_1_method_13_code 33 = true := by decide +kernel
theorem chk_14 : pmChk t_ins_14 prog_1_method_14_code 39 = true := by decide +kernel
theorem chk_15 : pmChk t_ins_15 prog_1_method_15_code 60 = true := by decide +kernel
theorem chk_16 : pmChk t_ins_16 prog_1_method_16_code 43 = true := by decide +kernel
theorem chk_17 : pmChk t_ins_17 prog_1_method_17_code 50 = true := by decide +kernel
theorem chk_18 : pmChk t_ins_18 prog_1_method_18_code 82 = true := by decide +kernel
theorem chk_19 : pmChk t_ins_19 prog_1_method_19_code 12 = true := by decide +kernel
theorem chk_20 : pmChk t_ins_20 prog_1_method_20_code 27 = true := by decide +kernel
theorem chk_21 : pmChk t_ins_21 prog_1_method_21_code 15 = true := by decide +kernel
theorem chk_22 : pmChk t_ins_22 prog_1_method_23_code 17 = true := by decide +kernel
theorem chk_23 : pmChk t_ins_23 prog_1_method_24_code 39 = true := by decide +kernel
theorem chk_24 : pmChk t_ins_24 prog_1_method_25_code 48 = true := by decide +kernel
theorem chk_25 : pmChk t_ins_25 prog_1_method_26_code 23 = true := by decide +kernel
theorem chk_26 : pmChk t_ins_26 prog_1_method_27_code 103 = true := by decide +kernel
theorem chk_27 : pmChk t_ins_27 prog_1_method_28_code 68 = true := by decide +kernel
theorem chk_28 : pmChk t_ins_28 prog_1_method_29_code 83 = true := by decide +kernel
theorem chk_29 : pmChk t_ins_29 prog_1_method_30_code 52 = true := by decide +kernel
theorem chk_30 : pmChk t_ins_30 prog_1_method_31_code 43 = true := by decide +kernel
theorem chk_31 : pmChk t_ins_31 prog_1_method_32_code 29 = true := by decide +kernel
theorem chk_32 : pmChk t_ins_32 prog_1_method_33_code 73 = true := by decide +kernel
theorem chk_33 : pmChk t_ins_33 prog_1_method_34_code 77 = true := by decide +kernel
theorem chk_34 : pmChk t_ins_34 prog_1_method_35_code 64 = true := by decide +kernel
theorem chk_35 : pmChk t_ins_35 prog_1_method_36_code 35 = true := by decide +kernel
theorem chk_36 : pmChk t_ins_36 prog_1_method_37_code 54 = true := by decide +kernel
theorem chk_37 : pmChk t_ins_37 prog_1_method_38_code 50 = true := by decide +kernel
theorem chk_38 : pmChk t_ins_38 prog_1_method_39_code 37 = true := by decide +kernel
theorem chk_39 : pmChk t_ins_39 prog_1_method_40_code 9 = true := by decide +kernel
theorem chk_40 : pmChk t_ins_40 prog_1_method_41_code 32 = true := by decide +kernel
theorem chk_41 : pmChk t_ins_41 prog_1_method_42_code 68 = true := by decide +kernel
theorem chk_42 : pmChk t_ins_42 prog_1_method_43_code 58 = true := by decide +kernel
theorem chk_43 : pmChk t_ins_43 prog_1_method_44_code 70 = true := by decide +kernel
theorem chk_44 : pmChk t_ins_44 prog_1_method_45_code 92 = true := by decide +kernel
theorem chk_45 : pmChk t_ins_45 prog_1_method_46_code 84 = true := by decide +kernel
theorem chk_46 : pmChk t_ins_46 prog_1_method_47_code 77 = true := by decide +kernel
theorem chk_47 : pmChk t_ins_47 prog_1_method_48_code 58 = true := by decide +kernel
theorem chk_48 : pmChk t_ins_48 method_2_code 14 = true := by decide +kernel
theorem chk_49 : pmChk t_ins_49 method_3_code 16 = true := by decide +kernel
theorem f_ins {k pc np tg : Nat} {i : Instr} (h : t_ins k pc = some (i, np, tg)) : decode (t_bytes k) pc = .ok (i, pmIL i) ∧ pmOkI pc np tg i = true := by
  match k, h with
  | 0, h => exact pmChk_out chk_0 (fun _ q => pmBlt q) h
  | 1, h => exact pmChk_out chk_1 (fun _ q => pmBlt q) h
  | 2, h => exact pmChk_out chk_2 (fun _ q => pmBlt q) h
  | 3, h => exact pmChk_out chk_3 (fun _ q => pmBlt q) h
  | 4, h => exact pmChk_out chk_4 (fun _ q => pmBlt q) h
  | 5, h => exact pmChk_out chk_5 (fun _ q => pmBlt q) h
  | 6, h => exact pmChk_out chk_6 (fun _ q => pmBlt q) h
  | 7, h => exact pmChk_out chk_7 (fun _ q => pmBlt q) h
  | 8, h => exact pmChk_out chk_8 (fun _ q => pmBlt q) h
  | 9, h => exact pmChk_out chk_9 (fun _ q => pmBlt q) h
  | 10, h => exact pmChk_out chk_10 (fun _ q => pmBlt q) h
  | 11, h => exact pmChk_out chk_11 (fun _ q => pmBlt q) h
  | 12, h => exact pmChk_out chk_12 (fun _ q => pmBlt q) h
  | 13, h => exact pmChk_out chk_13 (fun _ q => pmBlt q) h
  | 14, h => exact pmChk_out chk_14 (fun _ q => pmBlt q) h
  | 15, h => exact pmChk_out chk_15 (fun _ q => pmBlt q) h
  | 16, h => exact pmChk_out chk_16 (fun _ q => pmBlt q) h
  | 17, h => exact pmChk_out chk_17 (fun _ q => pmBlt q) h
  | 18, h => exact pmChk_out chk_18 (fun _ q => pmBlt q) h
  | 19, h => exact pmChk_out chk_19 (fun _ q => pmBlt q) h
  | 20, h => exact pmChk_out chk_20 (fun _ q => pmBlt q) h
  | 21, h => exact pmChk_out chk_21 (fun _ q => pmBlt q) h
  | 22, h => exact pmChk_out chk_22 (fun _ q => pmBlt q) h
  | 23, h => exact pmChk_out chk_23 (fun _ q => pmBlt q) h
  | 24, h => exact pmChk_out chk_24 (fun _ q => pmBlt q) h
  | 25, h => exact pmChk_out chk_25 (fun _ q => pmBlt q) h
  | 26, h => exact pmChk_out chk_26 (fun _ q => pmBlt q) h
  | 27, h => exact pmChk_out chk_27 (fun _ q => pmBlt q) h
  | 28, h => exact pmChk_out chk_28 (fun _ q => pmBlt q) h
  | 29, h => exact pmChk_out chk_29 (fun _ q => pmBlt q) h
  | 30, h => exact pmChk_out chk_30 (fun _ q => pmBlt q) h
  | 31, h => exact pmChk_out chk_31 (fun _ q => pmBlt q) h
  | 32, h => exact pmChk_out chk_32 (fun _ q => pmBlt q) h
  | 33, h => exact pmChk_out chk_33 (fun _ q => pmBlt q) h
  | 34, h => exact pmChk_out chk_34 (fun _ q => pmBlt q) h
  | 35, h => exact pmChk_out chk_35 (fun _ q => pmBlt q) h
  | 36, h => exact pmChk_out chk_36 (fun _ q => pmBlt q) h
  | 37, h => exact pmChk_out chk_37 (fun _ q => pmBlt q) h
  | 38, h => exact pmChk_out chk_38 (fun _ q => pmBlt q) h
  | 39, h => exact pmChk_out chk_39 (fun _ q => pmBlt q) h
  | 40, h => exact pmChk_out chk_40 (fun _ q => pmBlt q) h
  | 41, h => exact pmChk_out chk_41 (fun _ q => pmBlt q) h
  | 42, h => exact pmChk_out chk_42 (fun _ q => pmBlt q) h
  | 43, h => exact pmChk_out chk_43 (fun _ q => pmBlt q) h
  | 44, h => exact pmChk_out chk_44 (fun _ q => pmBlt q) h
  | 45, h => exact pmChk_out chk_45 (fun _ q => pmBlt q) h
  | 46, h => exact pmChk_out chk_46 (fun _ q => pmBlt q) h
  | 47, h => exact pmChk_out chk_47 (fun _ q => pmBlt q) h
  | 48, h => exact pmChk_out chk_48 (fun _ q => pmBlt q) h
  | 49, h => exact pmChk_out chk_49 (fun _ q => pmBlt q) h
  | _ + 50, h => have h2 : (none : Option (Instr × Nat × Nat)) = some _ := h; cases h2
theorem f_fls : ∀ q ∈ t_fls, ∃ n d ty, t_flds[q.2]? = some (n, d, ty) ∧ (Jvm.Cond.fieldLink t_C q.1 t_C n d) ∈ tables_1 := by
  unfold t_fls
  refine List.forall_mem_cons.mpr ⟨⟨_, _, _, rfl, (List.mem_of_getElem? (i := 17) rfl)⟩, ?_⟩
  refine List.forall_mem_cons.mpr ⟨⟨_, _, _, rfl, (List.mem_of_getElem? (i := 19) rfl)⟩, ?_⟩
  refine List.forall_mem_cons.mpr ⟨⟨_, _, _, rfl, (List.mem_of_getElem? (i := 22) rfl)⟩, ?_⟩
  refine List.forall_mem_cons.mpr ⟨⟨_, _, _, rfl, (List.mem_of_getElem? (i := 24) rfl)⟩, ?_⟩
  refine List.forall_mem_cons.mpr ⟨⟨_, _, _, rfl, (List.mem_of_getElem? (i := 26) rfl)⟩, ?_⟩
  refine List.forall_mem_cons.mpr ⟨⟨_, _, _, rfl, (List.mem_of_getElem? (i := 28) rfl)⟩, ?_⟩
  refine List.forall_mem_cons.mpr ⟨⟨_, _, _, rfl, (List.mem_of_getElem? (i := 30) rfl)⟩, ?_⟩
  refine List.forall_mem_cons.mpr ⟨⟨_, _, _, rfl, (List.mem_of_getElem? (i := 32) rfl)⟩, ?_⟩
  refine List.forall_mem_cons.mpr ⟨⟨_, _, _, rfl, (List.mem_of_getElem? (i := 34) rfl)⟩, ?_⟩
  refine List.forall_mem_cons.mpr ⟨⟨_, _, _, rfl, (List.mem_of_getElem? (i := 36) rfl)⟩, ?_⟩
  refine List.forall_mem_cons.mpr ⟨⟨_, _, _, rfl, (List.mem_of_getElem? (i := 38) rfl)⟩, ?_⟩
  refine List.forall_mem_cons.mpr ⟨⟨_, _, _, rfl, (List.mem_of_getElem? (i := 40) rfl)⟩, ?_⟩
  refine List.forall_mem_cons.mpr ⟨⟨_, _, _, rfl, (List.mem_of_getElem? (i := 42) rfl)⟩, ?_⟩
  refine List.forall_mem_cons.mpr ⟨⟨_, _, _, rfl, (List.mem_of_getElem? (i := 48) rfl)⟩, ?_⟩
  refine List.forall_mem_cons.mpr ⟨⟨_, _, _, rfl, (List.mem_of_getElem? (i := 54) rfl)⟩, ?_⟩
  refine List.forall_mem_cons.mpr ⟨⟨_, _, _, rfl, (List.mem_of_getElem? (i := 98) rfl)⟩, ?_⟩
  refine List.forall_mem_cons.mpr ⟨⟨_, _, _, rfl, (List.mem_of_getElem? (i := 100) rfl)⟩, ?_⟩
  refine List.forall_mem_cons.mpr ⟨⟨_, _, _, rfl, (List.mem_of_getElem? (i := 102) rfl)⟩, ?_⟩
  exact fun _ h => nomatch h
theorem f_lays : ∀ q ∈ t_flds, (Jvm.Cond.lays t_C t_C q.1 q.2.1) ∈ tables_1 ∧ parseFieldDescriptor q.2.1 = some q.2.2 := by
  unfold t_flds
  refine List.forall_mem_cons.mpr ⟨⟨(List.mem_of_getElem? (i := 49) rfl), by decide +kernel⟩, ?_⟩
  refine List.forall_mem_cons.mpr ⟨⟨(List.mem_of_getElem? (i := 55) rfl), by decide +kernel⟩, ?_⟩
  refine List.forall_mem_cons.mpr ⟨⟨(List.mem_of_getElem? (i := 99) rfl), by decide +kernel⟩, ?_⟩
  refine List.forall_mem_cons.mpr ⟨⟨(List.mem_of_getElem? (i := 101) rfl), by decide +kernel⟩, ?_⟩
  refine List.forall_mem_cons.mpr ⟨⟨(List.mem_of_getElem? (i := 103) rfl), by decide +kernel⟩, ?_⟩
  refine List.forall_mem_cons.mpr ⟨⟨(List.mem_of_getElem? (i := 18) rfl), by decide +kernel⟩, ?_⟩
  refine List.forall_mem_cons.mpr ⟨⟨(List.mem_of_getElem? (i := 20) rfl), by decide +kernel⟩, ?_⟩
  refine List.forall_mem_cons.mpr ⟨⟨(List.mem_of_getElem? (i := 23) rfl), by decide +kernel⟩, ?_⟩
  refine List.forall_mem_cons.mpr ⟨⟨(List.mem_of_getElem? (i := 25) rfl), by decide +kernel⟩, ?_⟩
  refine List.forall_mem_cons.mpr ⟨⟨(List.mem_of_getElem? (i := 27) rfl), by decide +kernel⟩, ?_⟩
  refine List.forall_mem_cons.mpr ⟨⟨(List.mem_of_getElem? (i := 29) rfl), by decide +kernel⟩, ?_⟩
  refine List.forall_mem_cons.mpr ⟨⟨(List.mem_of_getElem? (i := 31) rfl), by decide +kernel⟩, ?_⟩
  refine List.forall_mem_cons.mpr ⟨⟨(List.mem_of_getElem? (i := 33) rfl), by decide +kernel⟩, ?_⟩
  refine List.forall_mem_cons.mpr ⟨⟨(List.mem_of_getElem? (i := 35) rfl), by decide +kernel⟩, ?_⟩
  refine List.forall_mem_cons.mpr ⟨⟨(List.mem_of_getElem? (i := 37) rfl), by decide +kernel⟩, ?_⟩
  refine List.forall_mem_cons.mpr ⟨⟨(List.mem_of_getElem? (i := 39) rfl), by decide +kernel⟩, ?_⟩
  refine List.forall_mem_cons.mpr ⟨⟨(List.mem_of_getElem? (i := 41) rfl), by decide +kernel⟩, ?_⟩
  refine List.forall_mem_cons.mpr ⟨⟨(List.mem_of_getElem? (i := 43) rfl), by decide +kernel⟩, ?_⟩
  exact fun _ h => nomatch h
theorem f_arrs : ∀ q ∈ t_arrs, (Jvm.Cond.arrayClass q.1) ∈ tables_1 ∧ (q.1 = .int ∨ q.1 = .byte ∨ q.1 = .boolean) ∧ q.2 < 4096 := by
  unfold t_arrs
  refine List.forall_mem_cons.mpr ⟨⟨(List.mem_of_getElem? (i := 16) rfl), by decide, by decide⟩, ?_⟩
  refine List.forall_mem_cons.mpr ⟨⟨(List.mem_of_getElem? (i := 16) rfl), by decide, by decide⟩, ?_⟩
  refine List.forall_mem_cons.mpr ⟨⟨(List.mem_of_getElem? (i := 21) rfl), by decide, by decide⟩, ?_⟩
  refine List.forall_mem_cons.mpr ⟨⟨(List.mem_of_getElem? (i := 21) rfl), by decide, by decide⟩, ?_⟩
  refine List.forall_mem_cons.mpr ⟨⟨(List.mem_of_getElem? (i := 21) rfl), by decide, by decide⟩, ?_⟩
  refine List.forall_mem_cons.mpr ⟨⟨(List.mem_of_getElem? (i := 21) rfl), by decide, by decide⟩, ?_⟩
  refine List.forall_mem_cons.mpr ⟨⟨(List.mem_of_getElem? (i := 21) rfl), by decide, by decide⟩, ?_⟩
  refine List.forall_mem_cons.mpr ⟨⟨(List.mem_of_getElem? (i := 16) rfl), by decide, by decide⟩, ?_⟩
  refine List.forall_mem_cons.mpr ⟨⟨(List.mem_of_getElem? (i := 21) rfl), by decide, by decide⟩, ?_⟩
  refine List.forall_mem_cons.mpr ⟨⟨(List.mem_of_getElem? (i := 21) rfl), by decide, by decide⟩, ?_⟩
  refine List.forall_mem_cons.mpr ⟨⟨(List.mem_of_getElem? (i := 21) rfl), by decide, by decide⟩, ?_⟩
  refine List.forall_mem_cons.mpr ⟨⟨(List.mem_of_getElem? (i := 16) rfl), by decide, by decide⟩, ?_⟩
  refine List.forall_mem_cons.mpr ⟨⟨(List.mem_of_getElem? (i := 21) rfl), by decide, by decide⟩, ?_⟩
  exact fun _ h => nomatch h
theorem f_inst : (Jvm.Cond.instantiable t_C t_ns) ∈ tables_1 := (List.mem_of_getElem? (i := 8) rfl)
theorem f_init : (Jvm.Cond.initialized t_C) ∈ tables_1 := (List.mem_of_getElem? (i := 9) rfl)
theorem f_new {k j : Nat} (h : t_new k j = true) : (Jvm.Cond.classLink (t_nm k).cls j t_C) ∈ tables_1 := by
  simp only [t_new, Bool.and_eq_true] at h
  rw [Nat.eq_of_beq_eq_true h.1, Nat.eq_of_beq_eq_true h.2]; exact (List.mem_of_getElem? (i := 7) rfl)
def pmWords (own : String) (j kd k' : Nat) : Prop :=
  match kd with
  | 4 => (Jvm.Cond.methodLink own j Lib.objectInit) ∈ tables_1 ∧ (Jvm.Cond.instanceMethod Lib.objectInit) ∈ tables_1 ∧ (Jvm.Cond.code Lib.objectInit ⟨#[0xb1]⟩ 1 none) ∈ tables_1
  | kd => (Jvm.Cond.methodLink own j (t_nm k')) ∈ tables_1 ∧ (Jvm.Cond.code (t_nm k') (t_bytes k') (t_ml k') (t_rt k')) ∈ tables_1 ∧ (Jvm.Cond.initialized (t_nm k').cls) ∈ tables_1 ∧ plainName (t_nm k').cls = true ∧
    ((t_nm k').cls ≠ "java/lang/invoke/MethodHandle" ∧ (t_nm k').cls ≠ "java/lang/invoke/VarHandle") ∧ (∃ ps r, parseMethodDescriptor (t_nm k').desc = some ⟨ps, r⟩ ∧ (match kd with | 0 => 0 | _ => 1) + ps.length = t_np k') ∧
    match kd with
    | 0 => (Jvm.Cond.static (t_nm k')) ∈ tables_1
    | 1 => (Jvm.Cond.declares (t_nm k')) ∈ tables_1 ∧ (Jvm.Cond.selects t_C (t_nm k') (t_nm k')) ∈ tables_1 ∧ (Jvm.Cond.instanceMethod (t_nm k')) ∈ tables_1
    | 2 => (Jvm.Cond.instanceMethod (t_nm k')) ∈ tables_1 ∧ (Jvm.Cond.privateMethod (t_nm k')) ∈ tables_1 ∧ (t_nm k').cls = t_C
    | 3 => (Jvm.Cond.instanceMethod (t_nm k')) ∈ tables_1 ∧ (t_nm k').name = "<init>" ∧ t_rt k' = none
    | _ => False
theorem pn_C : plainName "MinVersionSelect" = true := by first | (simp [plainName, overriddenIn]; done) | decide +kernel
theorem pn_L : plainName "MinVersionSelectOwnLaw" = true := by first | (simp [plainName, overriddenIn]; done) | decide +kernel
theorem pd_0 : parseMethodDescriptor "()I" = some ⟨[], some .int⟩ := by decide +kernel
theorem pd_1 : parseMethodDescriptor "()V" = some ⟨[], none⟩ := by decide +kernel
theorem pd_2 : parseMethodDescriptor "()Z" = some ⟨[], some .boolean⟩ := by decide +kernel
theorem pd_3 : parseMethodDescriptor "(I)I" = some ⟨[.int], some .int⟩ := by decide +kernel
theorem pd_4 : parseMethodDescriptor "(I)V" = some ⟨[.int], none⟩ := by decide +kernel
theorem pd_5 : parseMethodDescriptor "(I)Z" = some ⟨[.int], some .boolean⟩ := by decide +kernel
theorem pd_6 : parseMethodDescriptor "(II)I" = some ⟨[.int, .int], some .int⟩ := by decide +kernel
theorem pd_7 : parseMethodDescriptor "(II)V" = some ⟨[.int, .int], none⟩ := by decide +kernel
theorem pd_8 : parseMethodDescriptor "(II)Z" = some ⟨[.int, .int], some .boolean⟩ := by decide +kernel
theorem pd_9 : parseMethodDescriptor "(III)I" = some ⟨[.int, .int, .int], some .int⟩ := by decide +kernel
theorem pd_10 : parseMethodDescriptor "(IIII)I" = some ⟨[.int, .int, .int, .int], some .int⟩ := by decide +kernel
theorem pd_11 : parseMethodDescriptor "(IIII)Z" = some ⟨[.int, .int, .int, .int], some .boolean⟩ := by decide +kernel
theorem pd_12 : parseMethodDescriptor "([II)I" = some ⟨[(.array .int), .int], some .int⟩ := by decide +kernel
theorem f_mkC : ∀ q ∈ t_mkC, pmWords "MinVersionSelect" q.1 q.2.1 q.2.2 := by
  unfold t_mkC
  refine List.forall_mem_cons.mpr ⟨⟨(List.mem_of_getElem? (i := 13) rfl), (List.mem_of_getElem? (i := 14) rfl), (List.mem_of_getElem? (i := 15) rfl)⟩, ?_⟩
  refine List.forall_mem_cons.mpr ⟨⟨(List.mem_of_getElem? (i := 44) rfl), (List.mem_of_getElem? (i := 47) rfl), (List.mem_of_getElem? (i := 9) rfl), pn_C, by decide, ⟨_, _, pd_3, rfl⟩, (List.mem_of_getElem? (i := 45) rfl), (List.mem_of_getElem? (i := 46) rfl), rfl⟩, ?_⟩
  refine List.forall_mem_cons.mpr ⟨⟨(List.mem_of_getElem? (i := 50) rfl), (List.mem_of_getElem? (i := 53) rfl), (List.mem_of_getElem? (i := 9) rfl), pn_C, by decide, ⟨_, _, pd_3, rfl⟩, (List.mem_of_getElem? (i := 51) rfl), (List.mem_of_getElem? (i := 52) rfl), rfl⟩, ?_⟩
  refine List.forall_mem_cons.mpr ⟨⟨(List.mem_of_getElem? (i := 61) rfl), (List.mem_of_getElem? (i := 64) rfl), (List.mem_of_getElem? (i := 9) rfl), pn_C, by decide, ⟨_, _, pd_8, rfl⟩, (List.mem_of_getElem? (i := 62) rfl), (List.mem_of_getElem? (i := 63) rfl), rfl⟩, ?_⟩
  refine List.forall_mem_cons.mpr ⟨⟨(List.mem_of_getElem? (i := 65) rfl), (List.mem_of_getElem? (i := 68) rfl), (List.mem_of_getElem? (i := 9) rfl), pn_C, by decide, ⟨_, _, pd_5, rfl⟩, (List.mem_of_getElem? (i := 66) rfl), (List.mem_of_getElem? (i := 67) rfl), rfl⟩, ?_⟩
  refine List.forall_mem_cons.mpr ⟨⟨(List.mem_of_getElem? (i := 69) rfl), (List.mem_of_getElem? (i := 72) rfl), (List.mem_of_getElem? (i := 9) rfl), pn_C, by decide, ⟨_, _, pd_5, rfl⟩, (List.mem_of_getElem? (i := 70) rfl), (List.mem_of_getElem? (i := 71) rfl), rfl⟩, ?_⟩
  refine List.forall_mem_cons.mpr ⟨⟨(List.mem_of_getElem? (i := 73) rfl), (List.mem_of_getElem? (i := 76) rfl), (List.mem_of_getElem? (i := 9) rfl), pn_C, by decide, ⟨_, _, pd_6, rfl⟩, (List.mem_of_getElem? (i := 74) rfl), (List.mem_of_getElem? (i := 75) rfl), rfl⟩, ?_⟩
  refine List.forall_mem_cons.mpr ⟨⟨(List.mem_of_getElem? (i := 82) rfl), (List.mem_of_getElem? (i := 85) rfl), (List.mem_of_getElem? (i := 9) rfl), pn_C, by decide, ⟨_, _, pd_2, rfl⟩, (List.mem_of_getElem? (i := 83) rfl), (List.mem_of_getElem? (i := 84) rfl), rfl⟩, ?_⟩
  refine List.forall_mem_cons.mpr ⟨⟨(List.mem_of_getElem? (i := 86) rfl), (List.mem_of_getElem? (i := 89) rfl), (List.mem_of_getElem? (i := 9) rfl), pn_C, by decide, ⟨_, _, pd_1, rfl⟩, (List.mem_of_getElem? (i := 87) rfl), (List.mem_of_getElem? (i := 88) rfl), rfl⟩, ?_⟩
  refine List.forall_mem_cons.mpr ⟨⟨(List.mem_of_getElem? (i := 90) rfl), (List.mem_of_getElem? (i := 93) rfl), (List.mem_of_getElem? (i := 9) rfl), pn_C, by decide, ⟨_, _, pd_2, rfl⟩, (List.mem_of_getElem? (i := 91) rfl), (List.mem_of_getElem? (i := 92) rfl), rfl⟩, ?_⟩
  refine List.forall_mem_cons.mpr ⟨⟨(List.mem_of_getElem? (i := 94) rfl), (List.mem_of_getElem? (i := 97) rfl), (List.mem_of_getElem? (i := 9) rfl), pn_C, by decide, ⟨_, _, pd_1, rfl⟩, (List.mem_of_getElem? (i := 95) rfl), (List.mem_of_getElem? (i := 96) rfl), rfl⟩, ?_⟩
  refine List.forall_mem_cons.mpr ⟨⟨(List.mem_of_getElem? (i := 104) rfl), (List.mem_of_getElem? (i := 107) rfl), (List.mem_of_getElem? (i := 9) rfl), pn_C, by decide, ⟨_, _, pd_1, rfl⟩, (List.mem_of_getElem? (i := 105) rfl), (List.mem_of_getElem? (i := 106) rfl), rfl⟩, ?_⟩
  refine List.forall_mem_cons.mpr ⟨⟨(List.mem_of_getElem? (i := 108) rfl), (List.mem_of_getElem? (i := 111) rfl), (List.mem_of_getElem? (i := 9) rfl), pn_C, by decide, ⟨_, _, pd_1, rfl⟩, (List.mem_of_getElem? (i := 109) rfl), (List.mem_of_getElem? (i := 110) rfl), rfl⟩, ?_⟩
  refine List.forall_mem_cons.mpr ⟨⟨(List.mem_of_getElem? (i := 127) rfl), (List.mem_of_getElem? (i := 130) rfl), (List.mem_of_getElem? (i := 9) rfl), pn_C, by decide, ⟨_, _, pd_5, rfl⟩, (List.mem_of_getElem? (i := 128) rfl), (List.mem_of_getElem? (i := 129) rfl), rfl⟩, ?_⟩
  refine List.forall_mem_cons.mpr ⟨⟨(List.mem_of_getElem? (i := 136) rfl), (List.mem_of_getElem? (i := 139) rfl), (List.mem_of_getElem? (i := 9) rfl), pn_C, by decide, ⟨_, _, pd_11, rfl⟩, (List.mem_of_getElem? (i := 137) rfl), (List.mem_of_getElem? (i := 138) rfl), rfl⟩, ?_⟩
  refine List.forall_mem_cons.mpr ⟨⟨(List.mem_of_getElem? (i := 140) rfl), (List.mem_of_getElem? (i := 143) rfl), (List.mem_of_getElem? (i := 9) rfl), pn_C, by decide, ⟨_, _, pd_8, rfl⟩, (List.mem_of_getElem? (i := 141) rfl), (List.mem_of_getElem? (i := 142) rfl), rfl⟩, ?_⟩
  refine List.forall_mem_cons.mpr ⟨⟨(List.mem_of_getElem? (i := 144) rfl), (List.mem_of_getElem? (i := 147) rfl), (List.mem_of_getElem? (i := 9) rfl), pn_C, by decide, ⟨_, _, pd_9, rfl⟩, (List.mem_of_getElem? (i := 145) rfl), (List.mem_of_getElem? (i := 146) rfl), rfl⟩, ?_⟩
  refine List.forall_mem_cons.mpr ⟨⟨(List.mem_of_getElem? (i := 148) rfl), (List.mem_of_getElem? (i := 151) rfl), (List.mem_of_getElem? (i := 9) rfl), pn_C, by decide, ⟨_, _, pd_7, rfl⟩, (List.mem_of_getElem? (i := 149) rfl), (List.mem_of_getElem? (i := 150) rfl), rfl⟩, ?_⟩
  refine List.forall_mem_cons.mpr ⟨⟨(List.mem_of_getElem? (i := 152) rfl), (List.mem_of_getElem? (i := 155) rfl), (List.mem_of_getElem? (i := 9) rfl), pn_C, by decide, ⟨_, _, pd_6, rfl⟩, (List.mem_of_getElem? (i := 153) rfl), (List.mem_of_getElem? (i := 154) rfl), rfl⟩, ?_⟩
  refine List.forall_mem_cons.mpr ⟨⟨(List.mem_of_getElem? (i := 156) rfl), (List.mem_of_getElem? (i := 159) rfl), (List.mem_of_getElem? (i := 9) rfl), pn_C, by decide, ⟨_, _, pd_7, rfl⟩, (List.mem_of_getElem? (i := 157) rfl), (List.mem_of_getElem? (i := 158) rfl), rfl⟩, ?_⟩
  refine List.forall_mem_cons.mpr ⟨⟨(List.mem_of_getElem? (i := 180) rfl), (List.mem_of_getElem? (i := 183) rfl), (List.mem_of_getElem? (i := 9) rfl), pn_C, by decide, ⟨_, _, pd_0, rfl⟩, (List.mem_of_getElem? (i := 181) rfl), (List.mem_of_getElem? (i := 182) rfl), rfl⟩, ?_⟩
  refine List.forall_mem_cons.mpr ⟨⟨(List.mem_of_getElem? (i := 189) rfl), (List.mem_of_getElem? (i := 192) rfl), (List.mem_of_getElem? (i := 9) rfl), pn_C, by decide, ⟨_, _, pd_1, rfl⟩, (List.mem_of_getElem? (i := 190) rfl), (List.mem_of_getElem? (i := 191) rfl), rfl⟩, ?_⟩
  refine List.forall_mem_cons.mpr ⟨⟨(List.mem_of_getElem? (i := 193) rfl), (List.mem_of_getElem? (i := 196) rfl), (List.mem_of_getElem? (i := 9) rfl), pn_C, by decide, ⟨_, _, pd_0, rfl⟩, (List.mem_of_getElem? (i := 194) rfl), (List.mem_of_getElem? (i := 195) rfl), rfl⟩, ?_⟩
  refine List.forall_mem_cons.mpr ⟨⟨(List.mem_of_getElem? (i := 202) rfl), (List.mem_of_getElem? (i := 205) rfl), (List.mem_of_getElem? (i := 9) rfl), pn_C, by decide, ⟨_, _, pd_8, rfl⟩, (List.mem_of_getElem? (i := 203) rfl), (List.mem_of_getElem? (i := 204) rfl), rfl⟩, ?_⟩
  refine List.forall_mem_cons.mpr ⟨⟨(List.mem_of_getElem? (i := 216) rfl), (List.mem_of_getElem? (i := 219) rfl), (List.mem_of_getElem? (i := 9) rfl), pn_C, by decide, ⟨_, _, pd_7, rfl⟩, (List.mem_of_getElem? (i := 217) rfl), (List.mem_of_getElem? (i := 218) rfl), rfl⟩, ?_⟩
  refine List.forall_mem_cons.mpr ⟨⟨(List.mem_of_getElem? (i := 220) rfl), (List.mem_of_getElem? (i := 223) rfl), (List.mem_of_getElem? (i := 9) rfl), pn_C, by decide, ⟨_, _, pd_10, rfl⟩, (List.mem_of_getElem? (i := 221) rfl), (List.mem_of_getElem? (i := 222) rfl), rfl⟩, ?_⟩
  refine List.forall_mem_cons.mpr ⟨⟨(List.mem_of_getElem? (i := 224) rfl), (List.mem_of_getElem? (i := 227) rfl), (List.mem_of_getElem? (i := 9) rfl), pn_C, by decide, ⟨_, _, pd_1, rfl⟩, (List.mem_of_getElem? (i := 225) rfl), (List.mem_of_getElem? (i := 226) rfl), rfl⟩, ?_⟩
  refine List.forall_mem_cons.mpr ⟨⟨(List.mem_of_getElem? (i := 228) rfl), (List.mem_of_getElem? (i := 231) rfl), (List.mem_of_getElem? (i := 9) rfl), pn_C, by decide, ⟨_, _, pd_4, rfl⟩, (List.mem_of_getElem? (i := 229) rfl), (List.mem_of_getElem? (i := 230) rfl), rfl⟩, ?_⟩
  refine List.forall_mem_cons.mpr ⟨⟨(List.mem_of_getElem? (i := 232) rfl), (List.mem_of_getElem? (i := 235) rfl), (List.mem_of_getElem? (i := 9) rfl), pn_C, by decide, ⟨_, _, pd_2, rfl⟩, (List.mem_of_getElem? (i := 233) rfl), (List.mem_of_getElem? (i := 234) rfl), rfl⟩, ?_⟩
  refine List.forall_mem_cons.mpr ⟨⟨(List.mem_of_getElem? (i := 236) rfl), (List.mem_of_getElem? (i := 239) rfl), (List.mem_of_getElem? (i := 9) rfl), pn_C, by decide, ⟨_, _, pd_11, rfl⟩, (List.mem_of_getElem? (i := 237) rfl), (List.mem_of_getElem? (i := 238) rfl), rfl⟩, ?_⟩
  refine List.forall_mem_cons.mpr ⟨⟨(List.mem_of_getElem? (i := 240) rfl), (List.mem_of_getElem? (i := 243) rfl), (List.mem_of_getElem? (i := 9) rfl), pn_C, by decide, ⟨_, _, pd_8, rfl⟩, (List.mem_of_getElem? (i := 241) rfl), (List.mem_of_getElem? (i := 242) rfl), rfl⟩, ?_⟩
  refine List.forall_mem_cons.mpr ⟨⟨(List.mem_of_getElem? (i := 244) rfl), (List.mem_of_getElem? (i := 247) rfl), (List.mem_of_getElem? (i := 9) rfl), pn_C, by decide, ⟨_, _, pd_7, rfl⟩, (List.mem_of_getElem? (i := 245) rfl), (List.mem_of_getElem? (i := 246) rfl), rfl⟩, ?_⟩
  exact fun _ h => nomatch h
theorem f_mkL : ∀ q ∈ t_mkL, pmWords "MinVersionSelectOwnLaw" q.1 q.2.1 q.2.2 := by
  unfold t_mkL
  refine List.forall_mem_cons.mpr ⟨⟨(List.mem_of_getElem? (i := 0) rfl), (List.mem_of_getElem? (i := 3) rfl), (List.mem_of_getElem? (i := 2) rfl), pn_L, by decide, ⟨_, _, pd_12, rfl⟩, (List.mem_of_getElem? (i := 1) rfl)⟩, ?_⟩
  refine List.forall_mem_cons.mpr ⟨⟨(List.mem_of_getElem? (i := 4) rfl), (List.mem_of_getElem? (i := 6) rfl), (List.mem_of_getElem? (i := 2) rfl), pn_L, by decide, ⟨_, _, pd_6, rfl⟩, (List.mem_of_getElem? (i := 5) rfl)⟩, ?_⟩
  refine List.forall_mem_cons.mpr ⟨⟨(List.mem_of_getElem? (i := 10) rfl), (List.mem_of_getElem? (i := 12) rfl), (List.mem_of_getElem? (i := 9) rfl), pn_C, by decide, ⟨_, _, pd_7, rfl⟩, (List.mem_of_getElem? (i := 11) rfl), rfl, rfl⟩, ?_⟩
  refine List.forall_mem_cons.mpr ⟨⟨(List.mem_of_getElem? (i := 56) rfl), (List.mem_of_getElem? (i := 60) rfl), (List.mem_of_getElem? (i := 9) rfl), pn_C, by decide, ⟨_, _, pd_6, rfl⟩, (List.mem_of_getElem? (i := 57) rfl), (List.mem_of_getElem? (i := 59) rfl), (List.mem_of_getElem? (i := 58) rfl)⟩, ?_⟩
  refine List.forall_mem_cons.mpr ⟨⟨(List.mem_of_getElem? (i := 77) rfl), (List.mem_of_getElem? (i := 81) rfl), (List.mem_of_getElem? (i := 9) rfl), pn_C, by decide, ⟨_, _, pd_0, rfl⟩, (List.mem_of_getElem? (i := 78) rfl), (List.mem_of_getElem? (i := 80) rfl), (List.mem_of_getElem? (i := 79) rfl)⟩, ?_⟩
  refine List.forall_mem_cons.mpr ⟨⟨(List.mem_of_getElem? (i := 112) rfl), (List.mem_of_getElem? (i := 116) rfl), (List.mem_of_getElem? (i := 9) rfl), pn_C, by decide, ⟨_, _, pd_3, rfl⟩, (List.mem_of_getElem? (i := 113) rfl), (List.mem_of_getElem? (i := 115) rfl), (List.mem_of_getElem? (i := 114) rfl)⟩, ?_⟩
  refine List.forall_mem_cons.mpr ⟨⟨(List.mem_of_getElem? (i := 117) rfl), (List.mem_of_getElem? (i := 121) rfl), (List.mem_of_getElem? (i := 9) rfl), pn_C, by decide, ⟨_, _, pd_3, rfl⟩, (List.mem_of_getElem? (i := 118) rfl), (List.mem_of_getElem? (i := 120) rfl), (List.mem_of_getElem? (i := 119) rfl)⟩, ?_⟩
  refine List.forall_mem_cons.mpr ⟨⟨(List.mem_of_getElem? (i := 122) rfl), (List.mem_of_getElem? (i := 126) rfl), (List.mem_of_getElem? (i := 9) rfl), pn_C, by decide, ⟨_, _, pd_6, rfl⟩, (List.mem_of_getElem? (i := 123) rfl), (List.mem_of_getElem? (i := 125) rfl), (List.mem_of_getElem? (i := 124) rfl)⟩, ?_⟩
  refine List.forall_mem_cons.mpr ⟨⟨(List.mem_of_getElem? (i := 131) rfl), (List.mem_of_getElem? (i := 135) rfl), (List.mem_of_getElem? (i := 9) rfl), pn_C, by decide, ⟨_, _, pd_10, rfl⟩, (List.mem_of_getElem? (i := 132) rfl), (List.mem_of_getElem? (i := 134) rfl), (List.mem_of_getElem? (i := 133) rfl)⟩, ?_⟩
  refine List.forall_mem_cons.mpr ⟨⟨(List.mem_of_getElem? (i := 160) rfl), (List.mem_of_getElem? (i := 164) rfl), (List.mem_of_getElem? (i := 9) rfl), pn_C, by decide, ⟨_, _, pd_6, rfl⟩, (List.mem_of_getElem? (i := 161) rfl), (List.mem_of_getElem? (i := 163) rfl), (List.mem_of_getElem? (i := 162) rfl)⟩, ?_⟩
  refine List.forall_mem_cons.mpr ⟨⟨(List.mem_of_getElem? (i := 165) rfl), (List.mem_of_getElem? (i := 169) rfl), (List.mem_of_getElem? (i := 9) rfl), pn_C, by decide, ⟨_, _, pd_6, rfl⟩, (List.mem_of_getElem? (i := 166) rfl), (List.mem_of_getElem? (i := 168) rfl), (List.mem_of_getElem? (i := 167) rfl)⟩, ?_⟩
  refine List.forall_mem_cons.mpr ⟨⟨(List.mem_of_getElem? (i := 170) rfl), (List.mem_of_getElem? (i := 174) rfl), (List.mem_of_getElem? (i := 9) rfl), pn_C, by decide, ⟨_, _, pd_9, rfl⟩, (List.mem_of_getElem? (i := 171) rfl), (List.mem_of_getElem? (i := 173) rfl), (List.mem_of_getElem? (i := 172) rfl)⟩, ?_⟩
  refine List.forall_mem_cons.mpr ⟨⟨(List.mem_of_getElem? (i := 175) rfl), (List.mem_of_getElem? (i := 179) rfl), (List.mem_of_getElem? (i := 9) rfl), pn_C, by decide, ⟨_, _, pd_0, rfl⟩, (List.mem_of_getElem? (i := 176) rfl), (List.mem_of_getElem? (i := 178) rfl), (List.mem_of_getElem? (i := 177) rfl)⟩, ?_⟩
  refine List.forall_mem_cons.mpr ⟨⟨(List.mem_of_getElem? (i := 184) rfl), (List.mem_of_getElem? (i := 188) rfl), (List.mem_of_getElem? (i := 9) rfl), pn_C, by decide, ⟨_, _, pd_0, rfl⟩, (List.mem_of_getElem? (i := 185) rfl), (List.mem_of_getElem? (i := 187) rfl), (List.mem_of_getElem? (i := 186) rfl)⟩, ?_⟩
  refine List.forall_mem_cons.mpr ⟨⟨(List.mem_of_getElem? (i := 197) rfl), (List.mem_of_getElem? (i := 201) rfl), (List.mem_of_getElem? (i := 9) rfl), pn_C, by decide, ⟨_, _, pd_6, rfl⟩, (List.mem_of_getElem? (i := 198) rfl), (List.mem_of_getElem? (i := 200) rfl), (List.mem_of_getElem? (i := 199) rfl)⟩, ?_⟩
  refine List.forall_mem_cons.mpr ⟨⟨(List.mem_of_getElem? (i := 206) rfl), (List.mem_of_getElem? (i := 210) rfl), (List.mem_of_getElem? (i := 9) rfl), pn_C, by decide, ⟨_, _, pd_9, rfl⟩, (List.mem_of_getElem? (i := 207) rfl), (List.mem_of_getElem? (i := 209) rfl), (List.mem_of_getElem? (i := 208) rfl)⟩, ?_⟩
  refine List.forall_mem_cons.mpr ⟨⟨(List.mem_of_getElem? (i := 211) rfl), (List.mem_of_getElem? (i := 215) rfl), (List.mem_of_getElem? (i := 9) rfl), pn_C, by decide, ⟨_, _, pd_6, rfl⟩, (List.mem_of_getElem? (i := 212) rfl), (List.mem_of_getElem? (i := 214) rfl), (List.mem_of_getElem? (i := 213) rfl)⟩, ?_⟩
  refine List.forall_mem_cons.mpr ⟨⟨(List.mem_of_getElem? (i := 248) rfl), (List.mem_of_getElem? (i := 252) rfl), (List.mem_of_getElem? (i := 9) rfl), pn_C, by decide, ⟨_, _, pd_9, rfl⟩, (List.mem_of_getElem? (i := 249) rfl), (List.mem_of_getElem? (i := 251) rfl), (List.mem_of_getElem? (i := 250) rfl)⟩, ?_⟩
  exact fun _ h => nomatch h
theorem f_own {k : Nat} {pc : Nat} {i : Instr × Nat × Nat} (h : t_ins k pc = some i) : (t_nm k).cls = match t_isC k with | true => t_C | false => "MinVersionSelectOwnLaw" := by
  match k, h with
  | 0, _ => rfl
  | 1, _ => rfl
  | 2, _ => rfl
  | 3, _ => rfl
  | 4, _ => rfl
  | 5, _ => rfl
  | 6, _ => rfl
  | 7, _ => rfl
  | 8, _ => rfl
  | 9, _ => rfl
  | 10, _ => rfl
  | 11, _ => rfl
  | 12, _ => rfl
  | 13, _ => rfl
  | 14, _ => rfl
  | 15, _ => rfl
  | 16, _ => rfl
  | 17, _ => rfl
  | 18, _ => rfl
  | 19, _ => rfl
  | 20, _ => rfl
  | 21, _ => rfl
  | 22, _ => rfl
  | 23, _ => rfl
  | 24, _ => rfl
  | 25, _ => rfl
  | 26, _ => rfl
  | 27, _ => rfl
  | 28, _ => rfl
  | 29, _ => rfl
  | 30, _ => rfl
  | 31, _ => rfl
  | 32, _ => rfl
  | 33, _ => rfl
  | 34, _ => rfl
  | 35, _ => rfl
  | 36, _ => rfl
  | 37, _ => rfl
  | 38, _ => rfl
  | 39, _ => rfl
  | 40, _ => rfl
  | 41, _ => rfl
  | 42, _ => rfl
  | 43, _ => rfl
  | 44, _ => rfl
  | 45, _ => rfl
  | 46, _ => rfl
  | 47, _ => rfl
  | 48, _ => rfl
  | 49, _ => rfl
  | _ + 50, h => have h2 : (none : Option (Instr × Nat × Nat)) = some _ := h; cases h2
theorem f_ldcs : ∀ q ∈ t_ldcs, (Jvm.Cond.constant "MinVersionSelectOwnLaw" q.1 q.2) ∈ tables_1 := by
  unfold t_ldcs
  exact fun _ h => nomatch h
theorem f_ldc2s : ∀ q ∈ t_ldc2s, (Jvm.Cond.constantLong "MinVersionSelectOwnLaw" q.1 q.2) ∈ tables_1 := by
  unfold t_ldc2s
  exact fun _ h => nomatch h
theorem f_full : t_full = t_arrs.length + 1 := rfl
theorem f_nsl : t_ns = t_flds.length := rfl
theorem f_mode {k : Nat} : t_mode k = 0 ∨ t_mode k = 1 ∨ (t_mode k = 2 ∧ k = 0) := by
  match k with
  | 0 => exact Or.inr (Or.inr ⟨rfl, rfl⟩)
  | 1 => exact Or.inr (Or.inl rfl)
  | 2 => exact Or.inl rfl
  | 3 => exact Or.inl rfl
  | 4 => exact Or.inl rfl
  | 5 => exact Or.inl rfl
  | 6 => exact Or.inl rfl
  | 7 => exact Or.inl rfl
  | 8 => exact Or.inl rfl
  | 9 => exact Or.inl rfl
  | 10 => exact Or.inl rfl
  | 11 => exact Or.inl rfl
  | 12 => exact Or.inl rfl
  | 13 => exact Or.inl rfl
  | 14 => exact Or.inl rfl
  | 15 => exact Or.inl rfl
  | 16 => exact Or.inl rfl
  | 17 => exact Or.inl rfl
  | 18 => exact Or.inl rfl
  | 19 => exact Or.inl rfl
  | 20 => exact Or.inl rfl
  | 21 => exact Or.inl rfl
  | 22 => exact Or.inl rfl
  | 23 => exact Or.inl rfl
  | 24 => exact Or.inl rfl
  | 25 => exact Or.inl rfl
  | 26 => exact Or.inl rfl
  | 27 => exact Or.inl rfl
  | 28 => exact Or.inl rfl
  | 29 => exact Or.inl rfl
  | 30 => exact Or.inl rfl
  | 31 => exact Or.inl rfl
  | 32 => exact Or.inl rfl
  | 33 => exact Or.inl rfl
  | 34 => exact Or.inl rfl
  | 35 => exact Or.inl rfl
  | 36 => exact Or.inl rfl
  | 37 => exact Or.inl rfl
  | 38 => exact Or.inl rfl
  | 39 => exact Or.inl rfl
  | 40 => exact Or.inl rfl
  | 41 => exact Or.inl rfl
  | 42 => exact Or.inl rfl
  | 43 => exact Or.inl rfl
  | 44 => exact Or.inl rfl
  | 45 => exact Or.inl rfl
  | 46 => exact Or.inl rfl
  | 47 => exact Or.inl rfl
  | 48 => exact Or.inl rfl
  | 49 => exact Or.inl rfl
  | _ + 50 => exact Or.inl rfl
theorem f_names : ∀ i j : Nat, i < t_flds.length → j < t_flds.length → i ≠ j → (t_flds[i]?).map (·.1) ≠ (t_flds[j]?).map (·.1) := by
  have h : ∀ i : Fin t_flds.length, ∀ j : Fin t_flds.length, i.1 ≠ j.1 → (t_flds[i.1]?).map (·.1) ≠ (t_flds[j.1]?).map (·.1) := by decide +kernel
  exact fun i j hi hj => h ⟨i, hi⟩ ⟨j, hj⟩
abbrev k_law : Nat := 0
abbrev k_init : Nat := 1
abbrev k_clampModules : Nat := 2
abbrev k_clampVersions : Nat := 3
abbrev k_modInRange : Nat := 4
abbrev k_verInRange : Nat := 5
abbrev k_verOrNone : Nat := 6
abbrev k_pairInRange : Nat := 7
abbrev k_slot : Nat := 8
abbrev k_reqSlot : Nat := 9
abbrev k_isListed : Nat := 10
abbrev k_isExcluded : Nat := 11
abbrev k_usableVersion : Nat := 12
abbrev k_requireArgsOk : Nat := 13
abbrev k_listVersion : Nat := 14
abbrev k_require : Nat := 15
abbrev k_requireMain : Nat := 16
abbrev k_exclude : Nat := 17
abbrev k_replace : Nat := 18
abbrev k_buildStatus : Nat := 19
abbrev k_selected : Nat := 20
abbrev k_buildSize : Nat := 21
abbrev k_mainRequirement : Nat := 22
abbrev k_requirementOf : Nat := 23
abbrev k_versionFlags : Nat := 24
abbrev k_replacementOf : Nat := 25
abbrev k_upgrade : Nat := 26
abbrev k_downgrade : Nat := 27
abbrev k_computeDowngradedMain : Nat := 28
abbrev k_bestAllowed : Nat := 29
abbrev k_isAllowed : Nat := 30
abbrev k_copyNextMain : Nat := 31
abbrev k_prune : Nat := 32
abbrev k_saveSelection : Nat := 33
abbrev k_loadRootsWithout : Nat := 34
abbrev k_sameAsSaved : Nat := 35
abbrev k_storePrunedMain : Nat := 36
abbrev k_loadMainRoots : Nat := 37
abbrev k_loadSingleRoot : Nat := 38
abbrev k_buildCurrent : Nat := 39
abbrev k_countSelected : Nat := 40
abbrev k_runBuild : Nat := 41
abbrev k_resetBuild : Nat := 42
abbrev k_drainQueue : Nat := 43
abbrev k_expandNode : Nat := 44
abbrev k_addNode : Nat := 45
abbrev k_adjust : Nat := 46
abbrev k_computeSelection : Nat := 47
abbrev k_cell : Nat := 48
abbrev k_pos : Nat := 49
/-! ## the pure machine: what one instruction does, over a plain memory -/
abbrev Mem := Nat × Nat × List Value × (Nat → Nat → Int32)
abbrev Pst := Option Value → Mem → Prop
abbrev WPr := Nat → Nat → List Slot → List Value → Mem → Pst → Prop
def pmStl (L : List Slot) (i : Nat) (v : Value) : Option (List Slot) :=
  match L[i]? with
  | none => none
  | some .second => none
  | some (.val (.long _)) => some ((L.set (i + 1) .unset).set i (.val v))
  | some (.val (.double _)) => none
  | some .unset =>
    match L[i - 1]?, L[i + 1]? with
    | some (.val (.long _)), _ => none
    | some (.val (.double _)), _ => none
    | _, some .second => none
    | _, _ => some (L.set i (.val v))
  | some _ => some (L.set i (.val v))
def pmStlL (L : List Slot) (i : Nat) (v : Value) : Option (List Slot) :=
  match pmStl L i (.int 0) with
  | none => none
  | some L1 =>
    match pmStl L1 (i + 1) (.int 0) with
    | none => none
    | some L2 => some ((L2.set i (.val v)).set (i + 1) .second)
def fcS : List Slot → (List Slot → Prop) → Prop
  | [], K => K []
  | x :: r, K => fcS r fun r' => K (x :: r')
def fcV : List Value → (List Value → Prop) → Prop
  | [], K => K []
  | x :: r, K => fcV r fun r' => K (x :: r')
theorem fcS_eq (L : List Slot) : ∀ K : List Slot → Prop, fcS L K = K L := by
  induction L with
  | nil => intro K; rfl
  | cons x r ih => intro K; exact ih _
theorem fcV_eq (L : List Value) : ∀ K : List Value → Prop, fcV L K = K L := by
  induction L with
  | nil => intro K; rfl
  | cons x r ih => intro K; exact ih _
def pmTgt (pc : Nat) (o : Int) : Nat := ((pc : Int) + o).toNat
def pmBr (cd : ClassFile.Cond) (x y : Int32) (T F : Prop) : Prop :=
  match cd with
  | .eq => (x = y → T) ∧ (¬ x = y → F)
  | .ne => (x = y → F) ∧ (¬ x = y → T)
  | .lt => (x.toInt < y.toInt → T) ∧ (¬ x.toInt < y.toInt → F)
  | .ge => (x.toInt < y.toInt → F) ∧ (¬ x.toInt < y.toInt → T)
  | .gt => (y.toInt < x.toInt → T) ∧ (¬ y.toInt < x.toInt → F)
  | .le => (y.toInt < x.toInt → F) ∧ (¬ y.toInt < x.toInt → T)
def pmLen (r : Nat) (σ : Mem) : Nat :=
  match r with
  | 0 => σ.2.1
  | 1 => 0
  | r + 2 => match t_arrs[r]? with | some q => q.2 | none => 0
def pmTy (r : Nat) : FieldType :=
  match r with
  | 0 => .int
  | 1 => .float
  | r + 2 => match t_arrs[r]? with | some q => q.1 | none => .float
/-- is there an array of this number? -/
def pmThere (r : Nat) (a : Nat) : Bool :=
  match r with
  | 0 => t_sc
  | 1 => false
  | r + 2 => Nat.ble (r + 2) a
def pmSet (A : Nat → Nat → Int32) (r i : Nat) (v : Int32) : Nat → Nat → Int32 := fun r' j => if r' = r then (if j = i then v else A r j) else A r' j
def pmSlots : List Value → List Slot
  | [] => []
  | .long z :: r => .val (.long z) :: .second :: pmSlots r
  | v :: r => .val v :: pmSlots r
def pmEntry (n : Nat) (as : List Value) : List Slot := pmSlots as ++ List.replicate (n - (pmSlots as).length) .unset
def pmPop : Nat → List Value → List Value → Option (List Value × List Value)
  | 0, as, S => some (as, S)
  | _ + 1, _, [] => none
  | n + 1, as, v :: S => pmPop n (v :: as) S
def pmWt : List Value → Nat
  | [] => 0
  | .long _ :: r => 2 + pmWt r
  | .double _ :: r => 2 + pmWt r
  | _ :: r => 1 + pmWt r
/-- slots of the first a cells -/
def pmSS : Nat → Nat
  | 0 => 0
  | a + 1 => t_ns + ((t_arrs.take a).map (·.2)).sum
/-- 0: plain, 1: the constructor, 2: the law -/
def pmBC (k a : Nat) : Nat := match t_mode k with | 0 => 0 | 1 => a - 1 | _ => a
def pmBS (k a : Nat) : Nat := match t_mode k with | 0 => 0 | 1 => pmSS a - pmSS 1 | _ => pmSS a
/-- may k call k' here? -/
def pmRoom (k k' : Nat) (S : List Value) (a : Nat) : Bool :=
  Nat.ble ((t_rm k').frames + 1) (t_rm k).frames && Nat.ble (pmWt S + (t_ml k' + 11) + (t_rm k').locals) (t_rm k).locals &&
  match t_mode k' with
  | 0 => Nat.ble (pmBC k a) (t_rm k).cells && Nat.ble (pmBS k a) (t_rm k).slots
  | 1 => Nat.beq (t_mode k) 2 && Nat.beq a 1
  | _ => false
def pmFit (k' : Nat) (as : List Value) : Bool := Nat.ble (pmSlots as).length (t_ml k') && as.all fun v => match v with | .double _ => false | _ => true
def pmCall (W : WPr) (k k' : Nat) (as R : List Value) (σ : Mem) (K : Pst) : Prop :=
  match pmRoom k k' R σ.1 && pmFit k' as with
  | true => W k' 0 (pmEntry (t_ml k') as) [] σ K
  | false => False
def pmPush (v : Option Value) (R : List Value) : List Value := match v with | none => R | some w => w :: R
def pmInt (S : List Value) (K : Int32 → List Value → Prop) : Prop := match S with | .int x :: R => K x R | _ => False
def pmInt2 (S : List Value) (K : Int32 → Int32 → List Value → Prop) : Prop := match S with | .int y :: .int x :: R => K x y R | _ => False
def pmLng2 (S : List Value) (K : Int64 → Int64 → List Value → Prop) : Prop := match S with | .long y :: .long x :: R => K x y R | _ => False
def pmLI (S : List Value) (K : Int64 → Int32 → List Value → Prop) : Prop := match S with | .int y :: .long x :: R => K x y R | _ => False
def pmLdI (Ls : List Slot) (n : Nat) (K : Int32 → Prop) : Prop := match Ls[n]? with | some (.val (.int x)) => K x | _ => False
def pmLdL (Ls : List Slot) (n : Nat) (K : Int64 → Prop) : Prop := match Ls[n]? with | some (.val (.long x)) => K x | _ => False
def pmLdR (Ls : List Slot) (n : Nat) (K : Nat → Prop) : Prop := match Ls[n]? with | some (.val (.ref x)) => K x | _ => False
def pmStI (Ls : List Slot) (n : Nat) (S : List Value) (K : List Slot → List Value → Prop) : Prop := match S with | .int x :: R => (match pmStl Ls n (.int x) with | some L' => fcS L' (fun L' => K L' R) | none => False) | _ => False
def pmStL (Ls : List Slot) (n : Nat) (S : List Value) (K : List Slot → List Value → Prop) : Prop := match S with | .long x :: R => (match pmStlL Ls n (.long x) with | some L' => fcS L' (fun L' => K L' R) | none => False) | _ => False
def pmStR (Ls : List Slot) (n : Nat) (S : List Value) (K : List Slot → List Value → Prop) : Prop := match S with | .ref x :: R => (match pmStl Ls n (.ref x) with | some L' => fcS L' (fun L' => K L' R) | none => False) | _ => False
def pmALd (ty : FieldType) (S : List Value) (σ : Mem) (K : Int32 → List Value → Prop) : Prop :=
  match S with
  | .int i :: .ref r :: R =>
    match pmThere r σ.1, decide (pmTy r = ty) with
    | true, true => (0 ≤ i.toInt ∧ i.toInt < (pmLen r σ : Int)) ∧ K (σ.2.2.2 r i.toInt.toNat) R
    | _, _ => False
  | _ => False
def pmASt (ty : FieldType) (S : List Value) (σ : Mem) (K : Mem → List Value → Prop) : Prop :=
  match S with
  | .int v :: .int i :: .ref (r + 2) :: R =>
    match pmThere (r + 2) σ.1, decide (pmTy (r + 2) = ty) with
    | true, true => (0 ≤ i.toInt ∧ i.toInt < (pmLen (r + 2) σ : Int)) ∧ (match σ with | (a, n, F, A) => K (a, n, F, pmSet A (r + 2) i.toInt.toNat (nar ty v)) R)
    | _, _ => False
  | _ => False
def pmTop (S : List Value) : Nat := match S with | .int _ :: .ref r :: _ => r | .int _ :: .int _ :: .ref r :: _ => r | _ => 1
/-- what a field of this type takes of a value -/
def pmPut (ty : FieldType) (v : Value) : Option Value :=
  match ty, v with
  | .int, .int x => some (.int x)
  | .boolean, .int x => some (.int (x &&& 1))
  | .array _, .ref (r + 2) => some (.ref (r + 2))
  | _, _ => none
def pmRet (k : Nat) (a : Nat) : Bool := match t_mode k with | 1 => Nat.beq a t_full | _ => true
def pmILdc (k np : Nat) (Ls : List Slot) (S : List Value) (σ : Mem) (nx : Nat → List Slot → List Value → Mem → Prop) (j : Nat) : Prop :=
  match t_ldc k j with | some v => nx np Ls (.int v :: S) σ | none => False
def pmILdc2 (k np : Nat) (Ls : List Slot) (S : List Value) (σ : Mem) (nx : Nat → List Slot → List Value → Mem → Prop) (j : Nat) : Prop :=
  match t_ldc2 k j with | some v => nx np Ls (.long v :: S) σ | none => False
def pmIL2i (np : Nat) (Ls : List Slot) (S : List Value) (σ : Mem) (nx : Nat → List Slot → List Value → Mem → Prop) : Prop :=
  match S with | .long x :: R => nx np Ls (.int x.toInt32 :: R) σ | _ => False
def pmIPop (np : Nat) (Ls : List Slot) (S : List Value) (σ : Mem) (nx : Nat → List Slot → List Value → Mem → Prop) : Prop :=
  match S with | .int _ :: R => nx np Ls R σ | .ref _ :: R => nx np Ls R σ | _ => False
def pmIDup (np : Nat) (Ls : List Slot) (S : List Value) (σ : Mem) (nx : Nat → List Slot → List Value → Mem → Prop) : Prop :=
  match S with | .int x :: R => nx np Ls (.int x :: .int x :: R) σ | .ref x :: R => nx np Ls (.ref x :: .ref x :: R) σ | _ => False
def pmILen (np : Nat) (Ls : List Slot) (S : List Value) (σ : Mem) (nx : Nat → List Slot → List Value → Mem → Prop) : Prop :=
  match S with | .ref r :: R => (match pmThere r σ.1 with | true => nx np Ls (.int (Int32.ofNat (pmLen r σ)) :: R) σ | false => False) | _ => False
def pmIBal (np : Nat) (Ls : List Slot) (S : List Value) (σ : Mem) (nx : Nat → List Slot → List Value → Mem → Prop) : Prop :=
  match pmTy (pmTop S) with
    | .byte => pmALd .byte S σ fun x R => nx np Ls (.int x :: R) σ
    | .boolean => pmALd .boolean S σ fun x R => nx np Ls (.int x :: R) σ
    | _ => False
def pmIBas (np : Nat) (Ls : List Slot) (S : List Value) (σ : Mem) (nx : Nat → List Slot → List Value → Mem → Prop) : Prop :=
  match pmTy (pmTop S) with
    | .byte => pmASt .byte S σ fun σ' R => nx np Ls R σ'
    | .boolean => pmASt .boolean S σ fun σ' R => nx np Ls R σ'
    | _ => False
def pmIGet (k np : Nat) (Ls : List Slot) (S : List Value) (σ : Mem) (nx : Nat → List Slot → List Value → Mem → Prop) (j : Nat) : Prop :=
  match S, t_fl k j, Nat.ble 1 σ.1 with
    | .ref 1 :: R, some q, true => (match σ.2.2.1[q]? with | some v => nx np Ls (v :: R) σ | none => False)
    | _, _, _ => False
def pmIPut (k np : Nat) (Ls : List Slot) (S : List Value) (σ : Mem) (nx : Nat → List Slot → List Value → Mem → Prop) (j : Nat) : Prop :=
  match S, t_fl k j, Nat.ble 1 σ.1 with
    | v :: .ref 1 :: R, some q, true => (match t_flds[q]? with
      | some f => (match pmPut f.2.2 v with | some v' => (match σ with | (a, n, F, A) => fcV (F.set q v') fun F' => nx np Ls R (a, n, F', A)) | none => False)
      | none => False)
    | _, _, _ => False
def pmINew (k np : Nat) (Ls : List Slot) (S : List Value) (σ : Mem) (nx : Nat → List Slot → List Value → Mem → Prop) (j : Nat) : Prop :=
  match σ, t_new k j, t_mode k with
    | (0, n, _, A), true, 2 => (1 ≤ (t_rm k).cells ∧ t_ns ≤ (t_rm k).slots) ∧ fcV (t_flds.map (fun f => defaultValue f.2.2)) fun F' => nx np Ls (.ref 1 :: S) (1, n, F', A)
    | _, _, _ => False
def pmINewA (k np : Nat) (Ls : List Slot) (S : List Value) (σ : Mem) (nx : Nat → List Slot → List Value → Mem → Prop) (aty : ArrayType) : Prop :=
  match S, σ with
    | .int n :: R, (a + 1, n', F, A) => (match t_arrs[a]? with
      | some q => (n = Int32.ofNat q.2 ∧ newarray.typeOf aty = q.1 ∧ q.2 < 4096 ∧ ¬ t_mode k = 0 ∧ pmBC k (a + 1) + 1 ≤ (t_rm k).cells ∧ pmBS k (a + 1) + q.2 ≤ (t_rm k).slots) ∧ nx np Ls (.ref (a + 2) :: R) (a + 2, n', F, A)
      | none => False)
    | _, _ => False
def pmISta (W : WPr) (k np : Nat) (Ls : List Slot) (S : List Value) (σ : Mem) (nx : Nat → List Slot → List Value → Mem → Prop) (j : Nat) : Prop :=
  match t_mk k j with
    | some (0, k') => (match pmPop (t_np k') [] S with | some (as, R) => pmCall W k k' as R σ fun v σ' => nx np Ls (pmPush v R) σ' | none => False)
    | _ => False
def pmIVir (W : WPr) (k np : Nat) (Ls : List Slot) (S : List Value) (σ : Mem) (nx : Nat → List Slot → List Value → Mem → Prop) (j : Nat) : Prop :=
  match t_mk k j, Nat.ble 1 σ.1 with
    | some (1, k'), true => (match pmPop (t_np k') [] S with | some (.ref 1 :: as, R) => pmCall W k k' (.ref 1 :: as) R σ fun v σ' => nx np Ls (pmPush v R) σ' | _ => False)
    | some (2, k'), true => (match pmPop (t_np k') [] S with | some (.ref 1 :: as, R) => pmCall W k k' (.ref 1 :: as) R σ fun v σ' => nx np Ls (pmPush v R) σ' | _ => False)
    | _, _ => False
def pmISpe (W : WPr) (k np : Nat) (Ls : List Slot) (S : List Value) (σ : Mem) (nx : Nat → List Slot → List Value → Mem → Prop) (j : Nat) : Prop :=
  match t_mk k j, Nat.ble 1 σ.1 with
    | some (3, k'), true => (match pmPop (t_np k') [] S with | some (.ref 1 :: as, R) => pmCall W k k' (.ref 1 :: as) R σ fun v σ' => nx np Ls (pmPush v R) σ' | _ => False)
    | some (4, _), true => (match S with | .ref 1 :: R => (1 ≤ (t_rm k).frames ∧ pmWt R + 12 ≤ (t_rm k).locals) ∧ nx np Ls R σ | _ => False)
    | _, _ => False
def pmIRet (k : Nat) (S : List Value) (σ : Mem) (Q : Pst) : Prop :=
  match t_rt k, pmRet k σ.1 with
    | some .int, true => pmInt S fun x _ => Q (some (.int x)) σ
    | some .boolean, true => pmInt S fun x _ => Q (some (.int (x &&& 1))) σ
    | _, _ => False
def pmIRtL (k : Nat) (S : List Value) (σ : Mem) (Q : Pst) : Prop :=
  match t_rt k, pmRet k σ.1, S with
    | some .long, true, .long x :: _ => Q (some (.long x)) σ
    | _, _, _ => False
def pmIRtV (k : Nat) (σ : Mem) (Q : Pst) : Prop :=
  match t_rt k, pmRet k σ.1 with
    | none, true => Q none σ
    | _, _ => False
def stp (W : WPr) (k np tg : Nat) (Ls : List Slot) (S : List Value) (σ : Mem) (Q : Pst) (nx : Nat → List Slot → List Value → Mem → Prop) (i : Instr) : Prop :=
  match i with
  | .iconst c => nx np Ls (.int (Int32.ofInt c) :: S) σ
  | .bipush c => nx np Ls (.int (Int32.ofInt c) :: S) σ
  | .sipush c => nx np Ls (.int (Int32.ofInt c) :: S) σ
  | .lconst c => nx np Ls (.long (Int64.ofNat c) :: S) σ
  | .ldc j => pmILdc k np Ls S σ nx j
  | .ldc2_w j => pmILdc2 k np Ls S σ nx j
  | .iload n => pmLdI Ls n fun x => nx np Ls (.int x :: S) σ
  | .iload_n n => pmLdI Ls n.val fun x => nx np Ls (.int x :: S) σ
  | .lload n => pmLdL Ls n fun x => nx np Ls (.long x :: S) σ
  | .lload_n n => pmLdL Ls n.val fun x => nx np Ls (.long x :: S) σ
  | .aload n => pmLdR Ls n fun x => nx np Ls (.ref x :: S) σ
  | .aload_n n => pmLdR Ls n.val fun x => nx np Ls (.ref x :: S) σ
  | .istore n => pmStI Ls n S fun L' R => nx np L' R σ
  | .istore_n n => pmStI Ls n.val S fun L' R => nx np L' R σ
  | .lstore n => pmStL Ls n S fun L' R => nx np L' R σ
  | .lstore_n n => pmStL Ls n.val S fun L' R => nx np L' R σ
  | .astore n => pmStR Ls n S fun L' R => nx np L' R σ
  | .astore_n n => pmStR Ls n.val S fun L' R => nx np L' R σ
  | .iinc n c => pmLdI Ls n fun x => fcS (Ls.set n (.val (.int (x + Int32.ofInt c)))) fun L' => nx np L' S σ
  | .iadd => pmInt2 S fun x y R => nx np Ls (.int (x + y) :: R) σ
  | .isub => pmInt2 S fun x y R => nx np Ls (.int (x - y) :: R) σ
  | .imul => pmInt2 S fun x y R => nx np Ls (.int (x * y) :: R) σ
  | .idiv => pmInt2 S fun x y R => ¬ y = 0 ∧ nx np Ls (.int (x / y) :: R) σ
  | .irem => pmInt2 S fun x y R => ¬ y = 0 ∧ nx np Ls (.int (x % y) :: R) σ
  | .iand => pmInt2 S fun x y R => nx np Ls (.int (x &&& y) :: R) σ
  | .ior => pmInt2 S fun x y R => nx np Ls (.int (x ||| y) :: R) σ
  | .ixor => pmInt2 S fun x y R => nx np Ls (.int (x ^^^ y) :: R) σ
  | .ishl => pmInt2 S fun x y R => nx np Ls (.int (x <<< (y &&& 31)) :: R) σ
  | .ishr => pmInt2 S fun x y R => nx np Ls (.int (x >>> (y &&& 31)) :: R) σ
  | .iushr => pmInt2 S fun x y R => nx np Ls (.int (Jvm.Free.XT.ushr x y) :: R) σ
  | .land => pmLng2 S fun x y R => nx np Ls (.long (x &&& y) :: R) σ
  | .lor => pmLng2 S fun x y R => nx np Ls (.long (x ||| y) :: R) σ
  | .lxor => pmLng2 S fun x y R => nx np Ls (.long (x ^^^ y) :: R) σ
  | .lcmp => pmLng2 S fun x y R => nx np Ls (.int (Jvm.Free.XT.cmpL x y) :: R) σ
  | .lshl => pmLI S fun x y R => nx np Ls (.long (x <<< (y.toInt64 &&& 63)) :: R) σ
  | .lushr => pmLI S fun x y R => nx np Ls (.long (Jvm.Free.XT.ushrL x y) :: R) σ
  | .i2b => pmInt S fun x R => nx np Ls (.int x.toInt8.toInt32 :: R) σ
  | .i2l => pmInt S fun x R => nx np Ls (.long x.toInt64 :: R) σ
  | .l2i => pmIL2i np Ls S σ nx
  | .pop => pmIPop np Ls S σ nx
  | .dup => pmIDup np Ls S σ nx
  | .goto o => nx tg Ls S σ
  | .ifCond cd o => pmInt S fun x R => pmBr cd x 0 (nx tg Ls R σ) (nx np Ls R σ)
  | .if_icmp cd o => pmInt2 S fun x y R => pmBr cd x y (nx tg Ls R σ) (nx np Ls R σ)
  | .arraylength => pmILen np Ls S σ nx
  | .iaload => pmALd .int S σ fun x R => nx np Ls (.int x :: R) σ
  | .baload => pmIBal np Ls S σ nx
  | .iastore => pmASt .int S σ fun σ' R => nx np Ls R σ'
  | .bastore => pmIBas np Ls S σ nx
  | .getfield j => pmIGet k np Ls S σ nx j
  | .putfield j => pmIPut k np Ls S σ nx j
  | .new j => pmINew k np Ls S σ nx j
  | .newarray aty => pmINewA k np Ls S σ nx aty
  | .invokestatic j => pmISta W k np Ls S σ nx j
  | .invokevirtual j => pmIVir W k np Ls S σ nx j
  | .invokespecial j => pmISpe W k np Ls S σ nx j
  | .ireturn => pmIRet k S σ Q
  | .lreturn => pmIRtL k S σ Q
  | .return_ => pmIRtV k σ Q
  | _ => False
def wp (W : WPr) (cut : List Nat) : Nat → WPr
  | 0, _, _, _, _, _, _ => False
  | n + 1, k, pc, Ls, S, σ, Q =>
    match t_ins k pc with
    | none => False
    | some (i, np, tg) => stp W k np tg Ls S σ Q (fun pc' Ls' S' σ' => match cut.contains pc' with | true => W k pc' Ls' S' σ' Q | false => wp W cut n k pc' Ls' S' σ' Q) i
/-- less is known of the locals -/
def pmLe : List Slot → List Slot → Prop
  | [], [] => True
  | x :: xs, y :: ys => (x = .unset ∨ x = y) ∧ pmLe xs ys
  | _, _ => False
theorem f_rm (k : Nat) : (t_mode k = 0 → (t_rm k).cells = 0 ∧ (t_rm k).slots = 0) ∧ (t_mode k = 1 → (t_rm k).cells = t_full - 1 ∧ (t_rm k).slots = pmSS t_full - pmSS 1) := by
  match k with
  | 0 => exact ⟨fun h => absurd h (by decide), fun h => absurd h (by decide)⟩
  | 1 => exact ⟨fun h => absurd h (by decide), fun _ => ⟨by decide, by decide⟩⟩
  | 2 => exact ⟨fun _ => ⟨rfl, rfl⟩, fun h => absurd h (by decide)⟩
  | 3 => exact ⟨fun _ => ⟨rfl, rfl⟩, fun h => absurd h (by decide)⟩
  | 4 => exact ⟨fun _ => ⟨rfl, rfl⟩, fun h => absurd h (by decide)⟩
  | 5 => exact ⟨fun _ => ⟨rfl, rfl⟩, fun h => absurd h (by decide)⟩
  | 6 => exact ⟨fun _ => ⟨rfl, rfl⟩, fun h => absurd h (by decide)⟩
  | 7 => exact ⟨fun _ => ⟨rfl, rfl⟩, fun h => absurd h (by decide)⟩
  | 8 => exact ⟨fun _ => ⟨rfl, rfl⟩, fun h => absurd h (by decide)⟩
  | 9 => exact ⟨fun _ => ⟨rfl, rfl⟩, fun h => absurd h (by decide)⟩
  | 10 => exact ⟨fun _ => ⟨rfl, rfl⟩, fun h => absurd h (by decide)⟩
  | 11 => exact ⟨fun _ => ⟨rfl, rfl⟩, fun h => absurd h (by decide)⟩
  | 12 => exact ⟨fun _ => ⟨rfl, rfl⟩, fun h => absurd h (by decide)⟩
  | 13 => exact ⟨fun _ => ⟨rfl, rfl⟩, fun h => absurd h (by decide)⟩
  | 14 => exact ⟨fun _ => ⟨rfl, rfl⟩, fun h => absurd h (by decide)⟩
  | 15 => exact ⟨fun _ => ⟨rfl, rfl⟩, fun h => absurd h (by decide)⟩
  | 16 => exact ⟨fun _ => ⟨rfl, rfl⟩, fun h => absurd h (by decide)⟩
  | 17 => exact ⟨fun _ => ⟨rfl, rfl⟩, fun h => absurd h (by decide)⟩
  | 18 => exact ⟨fun _ => ⟨rfl, rfl⟩, fun h => absurd h (by decide)⟩
  | 19 => exact ⟨fun _ => ⟨rfl, rfl⟩, fun h => absurd h (by decide)⟩
  | 20 => exact ⟨fun _ => ⟨rfl, rfl⟩, fun h => absurd h (by decide)⟩
  | 21 => exact ⟨fun _ => ⟨rfl, rfl⟩, fun h => absurd h (by decide)⟩
  | 22 => exact ⟨fun _ => ⟨rfl, rfl⟩, fun h => absurd h (by decide)⟩
  | 23 => exact ⟨fun _ => ⟨rfl, rfl⟩, fun h => absurd h (by decide)⟩
  | 24 => exact ⟨fun _ => ⟨rfl, rfl⟩, fun h => absurd h (by decide)⟩
  | 25 => exact ⟨fun _ => ⟨rfl, rfl⟩, fun h => absurd h (by decide)⟩
  | 26 => exact ⟨fun _ => ⟨rfl, rfl⟩, fun h => absurd h (by decide)⟩
  | 27 => exact ⟨fun _ => ⟨rfl, rfl⟩, fun h => absurd h (by decide)⟩
  | 28 => exact ⟨fun _ => ⟨rfl, rfl⟩, fun h => absurd h (by decide)⟩
  | 29 => exact ⟨fun _ => ⟨rfl, rfl⟩, fun h => absurd h (by decide)⟩
  | 30 => exact ⟨fun _ => ⟨rfl, rfl⟩, fun h => absurd h (by decide)⟩
  | 31 => exact ⟨fun _ => ⟨rfl, rfl⟩, fun h => absurd h (by decide)⟩
  | 32 => exact ⟨fun _ => ⟨rfl, rfl⟩, fun h => absurd h (by decide)⟩
  | 33 => exact ⟨fun _ => ⟨rfl, rfl⟩, fun h => absurd h (by decide)⟩
  | 34 => exact ⟨fun _ => ⟨rfl, rfl⟩, fun h => absurd h (by decide)⟩
  | 35 => exact ⟨fun _ => ⟨rfl, rfl⟩, fun h => absurd h (by decide)⟩
  | 36 => exact ⟨fun _ => ⟨rfl, rfl⟩, fun h => absurd h (by decide)⟩
  | 37 => exact ⟨fun _ => ⟨rfl, rfl⟩, fun h => absurd h (by decide)⟩
  | 38 => exact ⟨fun _ => ⟨rfl, rfl⟩, fun h => absurd h (by decide)⟩
  | 39 => exact ⟨fun _ => ⟨rfl, rfl⟩, fun h => absurd h (by decide)⟩
  | 40 => exact ⟨fun _ => ⟨rfl, rfl⟩, fun h => absurd h (by decide)⟩
  | 41 => exact ⟨fun _ => ⟨rfl, rfl⟩, fun h => absurd h (by decide)⟩
  | 42 => exact ⟨fun _ => ⟨rfl, rfl⟩, fun h => absurd h (by decide)⟩
  | 43 => exact ⟨fun _ => ⟨rfl, rfl⟩, fun h => absurd h (by decide)⟩
  | 44 => exact ⟨fun _ => ⟨rfl, rfl⟩, fun h => absurd h (by decide)⟩
  | 45 => exact ⟨fun _ => ⟨rfl, rfl⟩, fun h => absurd h (by decide)⟩
  | 46 => exact ⟨fun _ => ⟨rfl, rfl⟩, fun h => absurd h (by decide)⟩
  | 47 => exact ⟨fun _ => ⟨rfl, rfl⟩, fun h => absurd h (by decide)⟩
  | 48 => exact ⟨fun _ => ⟨rfl, rfl⟩, fun h => absurd h (by decide)⟩
  | 49 => exact ⟨fun _ => ⟨rfl, rfl⟩, fun h => absurd h (by decide)⟩
  | _ + 50 => exact ⟨fun _ => ⟨rfl, rfl⟩, fun h => absurd (show (0 : Nat) = 1 from h) (by decide)⟩
theorem f_law : 1 + (t_full - 1) ≤ (t_rm 0).cells ∧ pmSS 1 + (pmSS t_full - pmSS 1) ≤ (t_rm 0).slots := by decide
theorem f_ss : pmSS 1 ≤ pmSS t_full := by decide
/-! ## the pure machine is sound: what it says of a body, the model's run does -/
def pmRho (n0 scA : Nat) : Nat → Addr
  | 0 => scA
  | r + 1 => n0 + r
def cv (n0 scA : Nat) : Value → Value
  | .ref r => .ref (pmRho n0 scA r)
  | v => v
def cs (n0 scA : Nat) : Slot → Slot
  | .val v => .val (cv n0 scA v)
  | s => s
theorem cv_cat (n0 scA : Nat) (v : Value) : (cv n0 scA v).category = v.category := by cases v <;> rfl
def pmLR (n0 scA : Nat) (Ls : List Slot) (Lc : Array Slot) : Prop := Lc.size = Ls.length ∧ ∀ (i : Nat) (x : Slot), Ls[i]? = some x → x ≠ .unset → Lc[i]? = some (cs n0 scA x)
def pmWC (Lc : Array Slot) : Prop := (∀ i : Nat, Lc[i]? = some .second → ∃ j v, i = j + 1 ∧ Lc[j]? = some (.val v) ∧ v.category = 2) ∧ ∀ (i : Nat) (v : Value), Lc[i]? = some (.val v) → v.category = 2 → Lc[i + 1]? = some .second
theorem pmSet1 {Lc : Array Slot} {i : Nat} (h : i < Lc.size) (x : Slot) : setAt Lc i x = some (Lc.setIfInBounds i x) := by simp [setAt, h]
theorem pmGet (Lc : Array Slot) (i j : Nat) (x : Slot) (h : i < Lc.size) : (Lc.setIfInBounds i x)[j]? = if i = j then some x else Lc[j]? := by
  by_cases e : i = j
  · subst e; simp [h]
  · simp [e, Array.getElem?_setIfInBounds_ne]
theorem pmLt {Lc : Array Slot} {i : Nat} {x : Slot} (h : Lc[i]? = some x) : i < Lc.size := (Array.getElem?_eq_some_iff.mp h).1
theorem pmStoreDef (l : Array Slot) (i : Nat) (v : Value) : storeLocals l i v = (l[i]?).bind (fun x => match x with
  | .second => (setAt l (i - 1) .unset).bind fun l' => storeSelf l' i v
  | .val old => if old.category = 2 then (setAt l (i + 1) .unset).bind fun l' => storeSelf l' i v else storeSelf l i v
  | .unset => storeSelf l i v) := rfl
theorem pmSelfDef (l : Array Slot) (i : Nat) (v : Value) (h : v.category = 1) : storeSelf l i v = setAt l i (.val v) := by
  unfold storeSelf
  cases hs : setAt l i (.val v) with
  | none => rfl
  | some l' => simp [h]
/-- one word is stored -/
theorem pmStore1 {n0 scA : Nat} {Ls L' : List Slot} {Lc : Array Slot} {i : Nat} {v : Value} (hR : pmLR n0 scA Ls Lc) (hC : pmWC Lc) (hv : v.category = 1) (h : pmStl Ls i v = some L') :
    ∃ Lc', storeLocals Lc i (cv n0 scA v) = some Lc' ∧ pmLR n0 scA L' Lc' ∧ pmWC Lc' := by
  have hv' : (cv n0 scA v).category = 1 := by rw [cv_cat]; exact hv
  have hcs : cs n0 scA (.val v) = .val (cv n0 scA v) := rfl
  -- what stands at i
  cases hx : Ls[i]? with
  | none => simp [pmStl, hx] at h
  | some x =>
    have hi : i < Lc.size := by rw [hR.1]; exact (List.getElem?_eq_some_iff.mp hx).1
    obtain ⟨y, hy⟩ : ∃ y, Lc[i]? = some y := ⟨_, Array.getElem?_eq_getElem hi⟩
    -- the three shapes of y
    have key : ∀ (Lc1 : Array Slot), Lc1.size = Lc.size → storeLocals Lc i (cv n0 scA v) = some (Lc1.setIfInBounds i (.val (cv n0 scA v))) →
        (∀ j, j ≠ i → Lc1[j]? = Lc[j]? ∨ (Lc1[j]? = some .unset ∧ L'[j]? = some .unset) ∨ (Lc1[j]? = some .unset ∧ ∀ z, L'[j]? = some z → z = .unset)) →
        (∀ j, j ≠ i → Lc1[j]? = some .second → ∃ q w, j = q + 1 ∧ q ≠ i ∧ Lc1[q]? = some (.val w) ∧ w.category = 2) → (∀ j w, j ≠ i → Lc1[j]? = some (.val w) → w.category = 2 → j + 1 ≠ i ∧ Lc1[j + 1]? = some .second) →
        (∀ j z, j ≠ i → L'[j]? = some z → z ≠ .unset → Ls[j]? = some z) → L'[i]? = some (.val v) → L'.length = Ls.length →
        ∃ Lc', storeLocals Lc i (cv n0 scA v) = some Lc' ∧ pmLR n0 scA L' Lc' ∧ pmWC Lc' := by
      intro Lc1 hs hst ho hw1 hw2 hL hLi hlen
      refine ⟨_, hst, ⟨by simp [hs, hlen, hR.1], ?_⟩, ?_, ?_⟩
      · intro j z hz hne
        rw [pmGet _ _ _ _ (by rw [hs]; exact hi)]
        by_cases e : i = j
        · subst e; rw [if_pos rfl]; rw [hLi] at hz; cases hz; rfl
        · rw [if_neg e]
          have hz' := hL j z (Ne.symm e) hz hne
          rcases ho j (Ne.symm e) with q | ⟨q1, q2⟩ | ⟨q1, q2⟩
          · rw [q]; exact hR.2 j z hz' hne
          · rw [hz] at q2; cases q2; exact absurd rfl hne
          · exact absurd (q2 z hz) hne
      · intro j hj
        rw [pmGet _ _ _ _ (by rw [hs]; exact hi)] at hj
        by_cases e : i = j
        · rw [if_pos e] at hj; cases hj
        · rw [if_neg e] at hj
          obtain ⟨q, w, r1, r2, r3, r4⟩ := hw1 j (Ne.symm e) hj
          exact ⟨q, w, r1, by rw [pmGet _ _ _ _ (by rw [hs]; exact hi), if_neg (Ne.symm r2)]; exact r3, r4⟩
      · intro j w hj hw
        rw [pmGet _ _ _ _ (by rw [hs]; exact hi)] at hj
        by_cases e : i = j
        · rw [if_pos e] at hj; cases hj; rw [hv'] at hw; cases hw
        · rw [if_neg e] at hj
          obtain ⟨r1, r2⟩ := hw2 j w (Ne.symm e) hj hw
          rw [pmGet _ _ _ _ (by rw [hs]; exact hi), if_neg (Ne.symm r1)]; exact r2
    cases y with
    | second =>
      obtain ⟨j0, w0, e0, g0, c0⟩ := hC.1 i hy
      have hj0 : j0 < Lc.size := pmLt g0
      have hst : storeLocals Lc i (cv n0 scA v) = some ((Lc.setIfInBounds j0 .unset).setIfInBounds i (.val (cv n0 scA v))) := by
        have : i - 1 = j0 := by omega
        rw [pmStoreDef, hy]; simp [this, setAt, hj0, storeSelf, hv', hi]
      have hxu : x = .unset := by
        cases x with
        | unset => rfl
        | second => simp [pmStl, hx] at h
        | val z => have := hR.2 i _ hx (by simp); rw [hy] at this; cases this
      subst hxu
      have hL' : L' = Ls.set i (.val v) ∧ ∀ z, Ls[j0]? = some z → z = .unset := by
        have hj : i - 1 = j0 := by omega
        simp only [pmStl, hx, hj] at h
        refine ⟨?_, fun z hz => ?_⟩
        · split at h <;> first | (cases h; done) | (exact (Option.some.inj h).symm)
        · cases z with
          | unset => rfl
          | second => have := hR.2 j0 _ hz (by simp); rw [g0] at this; cases this
          | val z =>
            exfalso
            have q := hR.2 j0 _ hz (by simp); rw [g0] at q
            have q' : w0 = cv n0 scA z := by cases q; rfl
            have q2 : z.category = 2 := by rw [← cv_cat n0 scA z, ← q']; exact c0
            rw [hz] at h
            cases z <;> simp [Value.category] at q2 <;> simp at h
      obtain ⟨rfl, hj0u⟩ := hL'
      refine key (Lc.setIfInBounds j0 .unset) (by simp) hst ?_ ?_ ?_ ?_ ?_ ?_
      · intro j hj
        rw [pmGet _ _ _ _ hj0]
        by_cases e : j0 = j
        · rw [if_pos e]; subst e; exact Or.inr (Or.inr ⟨rfl, fun z hz => hj0u z (by rwa [List.getElem?_set_ne (Ne.symm hj)] at hz)⟩)
        · rw [if_neg e]; exact Or.inl rfl
      · intro j hj hj2
        rw [pmGet _ _ _ _ hj0] at hj2
        by_cases e : j0 = j
        · rw [if_pos e] at hj2; cases hj2
        · rw [if_neg e] at hj2
          obtain ⟨q, w, r1, r2, r3⟩ := hC.1 j hj2
          have qi : q ≠ i := fun z => by rw [z, hy] at r2; cases r2
          have qj : j0 ≠ q := fun z => by omega
          exact ⟨q, w, r1, qi, by rw [pmGet _ _ _ _ hj0, if_neg qj]; exact r2, r3⟩
      · intro j w hj hj2 hw
        rw [pmGet _ _ _ _ hj0] at hj2
        by_cases e : j0 = j
        · rw [if_pos e] at hj2; cases hj2
        · rw [if_neg e] at hj2
          have r := hC.2 j w hj2 hw
          exact ⟨by omega, by rw [pmGet _ _ _ _ hj0, if_neg (fun z => by rw [← z, g0] at r; cases r)]; exact r⟩
      · intro j z hj hz hne; rwa [List.getElem?_set_ne (Ne.symm hj)] at hz
      · simp [(List.getElem?_eq_some_iff.mp hx).1]
      · simp
    | unset =>
      have hst : storeLocals Lc i (cv n0 scA v) = some (Lc.setIfInBounds i (.val (cv n0 scA v))) := by rw [pmStoreDef, hy]; simp [setAt, storeSelf, hv', hi]
      have hxu : x = .unset := by
        cases x with
        | unset => rfl
        | second => simp [pmStl, hx] at h
        | val z => have := hR.2 i _ hx (by simp); rw [hy] at this; cases this
      subst hxu
      have hL' : L' = Ls.set i (.val v) := by
        simp only [pmStl, hx] at h
        split at h <;> first | (cases h; done) | (exact (Option.some.inj h).symm)
      subst hL'
      refine key Lc rfl hst (fun _ _ => Or.inl rfl) ?_ ?_ ?_ ?_ ?_
      · intro j hj hj2
        obtain ⟨q, w, r1, r2, r3⟩ := hC.1 j hj2
        exact ⟨q, w, r1, fun z => (by rw [z, hy] at r2; cases r2), r2, r3⟩
      · intro j w hj hj2 hw
        have r := hC.2 j w hj2 hw
        exact ⟨fun z => (by rw [z, hy] at r; cases r), r⟩
      · intro j z hj hz hne; rwa [List.getElem?_set_ne (Ne.symm hj)] at hz
      · simp [(List.getElem?_eq_some_iff.mp hx).1]
      · simp
    | val y =>
      by_cases hy2 : y.category = 2
      · have g1 := hC.2 i y hy hy2
        have hi1 : i + 1 < Lc.size := pmLt g1
        have hst : storeLocals Lc i (cv n0 scA v) = some ((Lc.setIfInBounds (i + 1) .unset).setIfInBounds i (.val (cv n0 scA v))) := by
          rw [pmStoreDef, hy]; simp [hy2, setAt, hi1, storeSelf, hv', hi]
        have hL' : L'.length = Ls.length ∧ L'[i]? = some (.val v) ∧ (∀ j, j ≠ i → j ≠ i + 1 → L'[j]? = Ls[j]?) ∧ ∀ z, L'[i + 1]? = some z → z = .unset := by
          have hil := (List.getElem?_eq_some_iff.mp hx).1
          cases x with
          | second => simp [pmStl, hx] at h
          | unset =>
            have hL2 : L' = Ls.set i (.val v) ∧ Ls[i + 1]? ≠ some .second := by
              simp only [pmStl, hx] at h
              refine ⟨?_, fun z => ?_⟩
              · split at h <;> first | (cases h; done) | (exact (Option.some.inj h).symm)
              · rw [z] at h
                split at h <;> first | (cases h; done) | (rename_i a b c; first | exact c rfl | exact absurd rfl (by assumption) | skip)
                all_goals simp_all
            obtain ⟨rfl, hn⟩ := hL2
            refine ⟨by simp, by simp [hil], fun j h1 h2 => List.getElem?_set_ne (Ne.symm h1), fun z hz => ?_⟩
            rw [List.getElem?_set_ne (by omega)] at hz
            cases z with
            | unset => rfl
            | second => exact absurd hz hn
            | val z => have := hR.2 (i + 1) _ hz (by simp); rw [g1] at this; cases this
          | val z =>
            have q := hR.2 i _ hx (by simp); rw [hy] at q
            have q' : y = cv n0 scA z := by cases q; rfl
            have q2 : z.category = 2 := by rw [← cv_cat n0 scA z, ← q']; exact hy2
            cases z <;> simp [Value.category] at q2
            · simp only [pmStl, hx] at h
              cases h
              have hl1 : i + 1 < Ls.length := by rw [← hR.1]; exact hi1
              refine ⟨by simp, by simp [hil], fun j h1 h2 => ?_, fun z hz => ?_⟩
              · rw [List.getElem?_set_ne (Ne.symm h1), List.getElem?_set_ne (Ne.symm h2)]
              · rw [List.getElem?_set_ne (by omega)] at hz; simp [hl1] at hz; exact hz.symm
            · simp [pmStl, hx] at h
        obtain ⟨a1, a2, a3, a4⟩ := hL'
        refine key (Lc.setIfInBounds (i + 1) .unset) (by simp) hst ?_ ?_ ?_ ?_ a2 a1
        · intro j hj
          rw [pmGet _ _ _ _ hi1]
          by_cases e : i + 1 = j
          · rw [if_pos e]; subst e; exact Or.inr (Or.inr ⟨rfl, a4⟩)
          · rw [if_neg e]; exact Or.inl rfl
        · intro j hj hj2
          rw [pmGet _ _ _ _ hi1] at hj2
          by_cases e : i + 1 = j
          · rw [if_pos e] at hj2; cases hj2
          · rw [if_neg e] at hj2
            obtain ⟨q, w, r1, r2, r3⟩ := hC.1 j hj2
            exact ⟨q, w, r1, fun z => by omega, by rw [pmGet _ _ _ _ hi1, if_neg (fun z => by rw [← z, g1] at r2; cases r2)]; exact r2, r3⟩
        · intro j w hj hj2 hw
          rw [pmGet _ _ _ _ hi1] at hj2
          by_cases e : i + 1 = j
          · rw [if_pos e] at hj2; cases hj2
          · rw [if_neg e] at hj2
            have r := hC.2 j w hj2 hw
            exact ⟨fun z => (by rw [z, hy] at r; cases r), by rw [pmGet _ _ _ _ hi1, if_neg (fun z => hj (by omega))]; exact r⟩
        · intro j z hj hz hne
          by_cases e : j = i + 1
          · subst e; exact absurd (a4 z hz) hne
          · rwa [a3 j hj e] at hz
      · have hst : storeLocals Lc i (cv n0 scA v) = some (Lc.setIfInBounds i (.val (cv n0 scA v))) := by rw [pmStoreDef, hy]; simp [hy2, setAt, storeSelf, hv', hi]
        have hL' : L' = Ls.set i (.val v) := by
          cases x with
          | second => simp [pmStl, hx] at h
          | unset =>
            simp only [pmStl, hx] at h
            split at h <;> first | (cases h; done) | (exact (Option.some.inj h).symm)
          | val z =>
            have q := hR.2 i _ hx (by simp); rw [hy] at q
            have q' : y = cv n0 scA z := by cases q; rfl
            have q2 : ¬ z.category = 2 := by rw [← cv_cat n0 scA z, ← q']; exact hy2
            cases z <;> first | (simp [Value.category] at q2; done) | (simp only [pmStl, hx] at h; exact (Option.some.inj h).symm)
        subst hL'
        refine key Lc rfl hst (fun _ _ => Or.inl rfl) ?_ ?_ ?_ ?_ ?_
        · intro j hj hj2
          obtain ⟨q, w, r1, r2, r3⟩ := hC.1 j hj2
          exact ⟨q, w, r1, fun z => (by rw [z, hy] at r2; cases r2; exact hy2 r3), r2, r3⟩
        · intro j w hj hj2 hw
          have r := hC.2 j w hj2 hw
          exact ⟨fun z => (by rw [z, hy] at r; cases r), r⟩
        · intro j z hj hz hne; rwa [List.getElem?_set_ne (Ne.symm hj)] at hz
        · simp [(List.getElem?_eq_some_iff.mp hx).1]
        · simp
def pmClean (Lc : Array Slot) (i : Nat) (y : Slot) : Array Slot :=
  match y with
  | .second => Lc.setIfInBounds (i - 1) .unset
  | .val w => if w.category = 2 then Lc.setIfInBounds (i + 1) .unset else Lc
  | .unset => Lc
theorem pmClean_size (Lc : Array Slot) (i : Nat) (y : Slot) : (pmClean Lc i y).size = Lc.size := by
  cases y with
  | second => simp [pmClean]
  | unset => rfl
  | val w => simp only [pmClean]; split <;> simp
theorem pmPh {Lc : Array Slot} {i : Nat} {y : Slot} (hC : pmWC Lc) (hy : Lc[i]? = some y) (v : Value) : storeLocals Lc i v = storeSelf (pmClean Lc i y) i v := by
  rw [pmStoreDef, hy]
  cases y with
  | second =>
    obtain ⟨j, w, e, g, -⟩ := hC.1 i hy
    have h1 : i - 1 < Lc.size := by have := pmLt g; omega
    simp [pmSet1 h1, pmClean]
  | unset => rfl
  | val w =>
    by_cases hw : w.category = 2
    · have h1 : i + 1 < Lc.size := pmLt (hC.2 i w hy hw)
      simp [pmSet1 h1, pmClean, hw]
    · simp [pmClean, hw]
theorem pmSelf1 {A : Array Slot} {i : Nat} {v : Value} (h : i < A.size) (hv : v.category = 1) : storeSelf A i v = some (A.setIfInBounds i (.val v)) := by rw [pmSelfDef _ _ _ hv, pmSet1 h]
theorem pmSelf2 {A : Array Slot} {i : Nat} {z : Int64} {y : Slot} (h : i < A.size) (hy : A[i + 1]? = some y) (h2 : ∀ w, y = .val w → w.category = 2 → i + 2 < A.size) (hn : y ≠ .second) :
    storeSelf A i (.long z) = some (((pmClean A (i + 1) y).setIfInBounds i (.val (.long z))).setIfInBounds (i + 1) .second) := by
  have h1 : i + 1 < A.size := pmLt hy
  have hy' : (A.setIfInBounds i (.val (.long z)))[i + 1]? = some y := by rw [pmGet _ _ _ _ h, if_neg (by omega)]; exact hy
  have ex : storeSelf A i (.long z) = (setAt A i (.val (.long z))).bind fun l => (l[i + 1]?).bind fun x => match x with
    | .val old => if old.category = 2 then (setAt l (i + 2) .unset).bind fun l' => setAt l' (i + 1) .second else setAt l (i + 1) .second
    | _ => setAt l (i + 1) .second := rfl
  rw [ex, pmSet1 h]
  simp only [Option.bind_some, hy']
  have s1 : i + 1 < (A.setIfInBounds i (.val (.long z))).size := by simpa using h1
  cases y with
  | second => exact absurd rfl hn
  | unset => simp [pmSet1 s1, pmClean]
  | val w =>
    by_cases hw : w.category = 2
    · have h3 := h2 w rfl hw
      have s2 : i + 2 < (A.setIfInBounds i (.val (.long z))).size := by simpa using h3
      have s3 : i + 1 < ((A.setIfInBounds i (.val (.long z))).setIfInBounds (i + 2) .unset).size := by simpa using h1
      simp only [hw, if_true, pmSet1 s2, Option.bind_some, pmSet1 s3, pmClean]
      congr 2
      apply Array.ext_getElem?
      intro j
      have h3' : i + 1 + 1 < A.size := h3
      rw [pmGet _ _ _ _ s2, pmGet _ _ _ _ h, pmGet _ _ _ _ (by simpa using h), pmGet _ _ _ _ h3']
      by_cases e1 : i + 2 = j
      · rw [if_pos e1, if_neg (by omega), if_pos (by omega)]
      · rw [if_neg e1]
        by_cases e2 : i = j
        · rw [if_pos e2, if_pos e2]
        · rw [if_neg e2, if_neg e2, if_neg (by omega)]
    · simp [hw, pmSet1 s1, pmClean]
theorem pmClean_set {A : Array Slot} {i : Nat} {y1 : Slot} (iA : i < A.size) (h3 : ∀ w, y1 = .val w → w.category = 2 → i + 2 < A.size) (ny1 : y1 ≠ .second) (x : Slot) {j : Nat} (hj : j ≠ i) : (pmClean (A.setIfInBounds i x) (i + 1) y1)[j]? = (pmClean A (i + 1) y1)[j]? := by
  cases y1 with
  | second => exact absurd rfl ny1
  | unset => simp only [pmClean]; rw [pmGet _ _ _ _ iA, if_neg (Ne.symm hj)]
  | val w =>
    by_cases hw : w.category = 2
    · have h3' : i + 1 + 1 < A.size := h3 w rfl hw
      have h4 : i + 1 + 1 < (A.setIfInBounds i x).size := by simpa using h3'
      simp only [pmClean, hw, if_true]
      rw [pmGet _ _ _ _ h4, pmGet _ _ _ _ iA, pmGet _ _ _ _ h3', if_neg (Ne.symm hj)]
    · simp only [pmClean, hw, if_false]; rw [pmGet _ _ _ _ iA, if_neg (Ne.symm hj)]
theorem pmStore2 {n0 scA : Nat} {Ls L' : List Slot} {Lc : Array Slot} {i : Nat} {z : Int64} (hR : pmLR n0 scA Ls Lc) (hC : pmWC Lc) (h : pmStlL Ls i (.long z) = some L') :
    ∃ Lc', storeLocals Lc i (.long z) = some Lc' ∧ pmLR n0 scA L' Lc' ∧ pmWC Lc' := by
  simp only [pmStlL] at h
  cases h1 : pmStl Ls i (.int 0) with
  | none => rw [h1] at h; cases h
  | some L1 =>
    rw [h1] at h
    dsimp only at h
    cases h2 : pmStl L1 (i + 1) (.int 0) with
    | none => rw [h2] at h; cases h
    | some L2 =>
      rw [h2] at h
      cases h
      obtain ⟨Lc1, e1, R1, C1⟩ := pmStore1 hR hC rfl h1
      obtain ⟨Lc2, e2, R2, C2⟩ := pmStore1 R1 C1 rfl h2
      change storeLocals Lc i (.int 0) = some Lc1 at e1
      change storeLocals Lc1 (i + 1) (.int 0) = some Lc2 at e2
      obtain ⟨y, hy⟩ : ∃ y, Lc[i]? = some y := by
        cases q : Lc[i]? with
        | none => rw [pmStoreDef, q] at e1; cases e1
        | some y => exact ⟨y, rfl⟩
      have hi : i < Lc.size := pmLt hy
      have iA : i < (pmClean Lc i y).size := by rw [pmClean_size]; exact hi
      rw [pmPh hC hy, pmSelf1 iA rfl] at e1
      have e1' : Lc1 = (pmClean Lc i y).setIfInBounds i (.val (.int 0)) := (Option.some.inj e1).symm
      obtain ⟨y1, hy1⟩ : ∃ y, Lc1[i + 1]? = some y := by
        cases q : Lc1[i + 1]? with
        | none => rw [pmStoreDef, q] at e2; cases e2
        | some y => exact ⟨y, rfl⟩
      have l2 : i + 1 < Lc1.size := pmLt hy1
      have iB : i + 1 < (pmClean Lc1 (i + 1) y1).size := by rw [pmClean_size]; exact l2
      rw [pmPh C1 hy1, pmSelf1 iB rfl] at e2
      have e2' : Lc2 = (pmClean Lc1 (i + 1) y1).setIfInBounds (i + 1) (.val (.int 0)) := (Option.some.inj e2).symm
      have g1 : Lc1[i]? = some (.val (.int 0)) := by rw [e1', pmGet _ _ _ _ iA, if_pos rfl]
      have ny1 : y1 ≠ .second := by
        rintro rfl
        obtain ⟨j, w, r1, r2, r3⟩ := C1.1 _ hy1
        have : j = i := by omega
        subst this; rw [g1] at r2; cases r2; simp [Value.category] at r3
      have hyA : (pmClean Lc i y)[i + 1]? = some y1 := by rw [e1', pmGet _ _ _ _ iA, if_neg (by omega)] at hy1; exact hy1
      have h3 : ∀ w, y1 = .val w → w.category = 2 → i + 2 < (pmClean Lc i y).size := by
        intro w hw hc
        subst hw
        have := pmLt (C1.2 _ _ hy1 hc)
        rw [e1'] at this; simpa using this
      have fin := pmSelf2 (z := z) iA hyA h3 ny1
      rw [← pmPh hC hy] at fin
      -- the same array, over the one with two ints
      have clc : ∀ j, j ≠ i → (pmClean Lc1 (i + 1) y1)[j]? = (pmClean (pmClean Lc i y) (i + 1) y1)[j]? := by
        intro j hj
        rw [e1']
        exact pmClean_set iA h3 ny1 _ hj
      have fin' : storeLocals Lc i (.long z) = some ((Lc2.setIfInBounds i (.val (.long z))).setIfInBounds (i + 1) .second) := by
        rw [fin]
        congr 1
        apply Array.ext_getElem?
        intro j
        have q1 : i < (pmClean (pmClean Lc i y) (i + 1) y1).size := by rw [pmClean_size]; exact iA
        have q2 : i + 1 < (pmClean (pmClean Lc i y) (i + 1) y1).size := by rw [pmClean_size]; exact pmLt hyA
        have q3 : i < Lc2.size := by rw [e2']; simp [pmClean_size]; omega
        have q4 : i + 1 < Lc2.size := by rw [e2']; simp [pmClean_size]; omega
        rw [pmGet _ _ _ _ (by simpa using q2), pmGet _ _ _ _ q1, pmGet _ _ _ _ (by simpa using q4), pmGet _ _ _ _ q3]
        by_cases z1 : i + 1 = j
        · rw [if_pos z1, if_pos z1]
        · rw [if_neg z1, if_neg z1]
          by_cases z2 : i = j
          · rw [if_pos z2, if_pos z2]
          · rw [if_neg z2, if_neg z2, e2', pmGet _ _ _ _ iB, if_neg z1]
            exact (clc j (Ne.symm z2)).symm
      have i2 : i < Lc2.size := by rw [e2']; simp [pmClean_size]; omega
      have i21 : i + 1 < Lc2.size := by rw [e2']; simp [pmClean_size]; omega
      have g2 : Lc2[i + 1]? = some (.val (.int 0)) := by rw [e2', pmGet _ _ _ _ iB, if_pos rfl]
      have g2i' : Lc2[i]? = some (.val (.int 0)) := by
        rw [e2', pmGet _ _ _ _ iB, if_neg (by omega)]
        cases y1 with
        | second => exact absurd rfl ny1
        | unset => exact g1
        | val w =>
          simp only [pmClean]
          split
          · rename_i hw
            rw [pmGet _ _ _ _ (pmLt (C1.2 _ _ hy1 hw)), if_neg (by omega)]; exact g1
          · exact g1
      have hget : ∀ j, ((Lc2.setIfInBounds i (.val (.long z))).setIfInBounds (i + 1) .second)[j]? = if i + 1 = j then some .second else if i = j then some (.val (.long z)) else Lc2[j]? := fun j => by
        rw [pmGet _ _ _ _ (by simpa using i21), pmGet _ _ _ _ i2]
      refine ⟨_, fin', ⟨by simp [R2.1], ?_⟩, ?_, ?_⟩
      · intro j x hx hne
        rw [hget]
        by_cases e : i + 1 = j
        · subst e
          rw [if_pos rfl]
          have : i + 1 < L2.length := by rw [← R2.1]; exact i21
          simp [this] at hx; subst hx; rfl
        · rw [if_neg e]
          rw [List.getElem?_set_ne e] at hx
          by_cases e' : i = j
          · subst e'
            rw [if_pos rfl]
            have : i < L2.length := by rw [← R2.1]; exact i2
            simp [this] at hx; subst hx; rfl
          · rw [if_neg e']
            rw [List.getElem?_set_ne e'] at hx
            exact R2.2 j x hx hne
      · intro j hj
        rw [hget] at hj
        by_cases e : i + 1 = j
        · exact ⟨i, .long z, e.symm, by rw [hget, if_neg (by omega), if_pos rfl], rfl⟩
        · rw [if_neg e] at hj
          by_cases e' : i = j
          · rw [if_pos e'] at hj; cases hj
          · rw [if_neg e'] at hj
            obtain ⟨q, w, r1, r2, r3⟩ := C2.1 j hj
            refine ⟨q, w, r1, ?_, r3⟩
            rw [hget, if_neg (fun u => by rw [← u, g2] at r2; cases r2; simp [Value.category] at r3), if_neg (fun u => by rw [← u, g2i'] at r2; cases r2; simp [Value.category] at r3)]
            exact r2
      · intro j w hj hw
        rw [hget] at hj
        by_cases e : i + 1 = j
        · rw [if_pos e] at hj; cases hj
        · rw [if_neg e] at hj
          by_cases e' : i = j
          · subst e'; rw [hget, if_pos rfl]
          · rw [if_neg e'] at hj
            have r := C2.2 j w hj hw
            rw [hget]
            by_cases e2 : i + 1 = j + 1
            · rw [if_pos e2]
            · rw [if_neg e2, if_neg (fun u => by rw [← u, g2i'] at r; cases r)]; exact r
def pmRel (Z : State) (n0 scA : Nat) (σ : Mem) (h : Heap) : Prop :=
  h.size = n0 + σ.1 ∧ σ.1 ≤ t_full ∧
  (t_sc = true → scA < n0 ∧ σ.2.1 < 2147483648 ∧ ∃ c : Cell, Arr Z h scA c .int ∧ c.slots.size = σ.2.1 ∧ ∀ i, i < σ.2.1 → c.slots[i]? = some (.int (σ.2.2.2 0 i))) ∧
  (1 ≤ σ.1 → Exa Z h n0 t_C ∧ σ.2.2.1.length = t_flds.length ∧ ∀ (q : Nat) (f : String × String × FieldType) (v : Value), t_flds[q]? = some f → σ.2.2.1[q]? = some v → Fld Z h n0 t_C f.1 f.2.1 (cv n0 scA v)) ∧
  ∀ (r : Nat) (q : FieldType × Nat), t_arrs[r]? = some q → (r + 2 ≤ σ.1 → ∃ c : Cell, Arr Z h (n0 + (r + 1)) c q.1 ∧ c.slots.size = q.2 ∧ ∀ i, i < q.2 → c.slots[i]? = some (.int (σ.2.2.2 (r + 2) i))) ∧ (σ.1 < r + 2 → ∀ i, i < q.2 → σ.2.2.2 (r + 2) i = 0)
def pmCtx (l : Launch) (Z : State) (n0 scA k : Nat) (σ : Mem) (p : Program) (e : Env) (s : State) (m : MethodId) (args : Array Value) (below : List Frame) (meth : Method) (c : Code) (T : State) (locs : List Loc) : Prop :=
  Stand p l e (t_rm k) s m args below meth c T locs (pmBC k σ.1) (pmBS k σ.1) ∧ p.tables.exec = Jvm.exec ∧ Z.Warmed39 s.vm ∧ c.code = t_bytes k ∧ c.maxLocals = t_ml k ∧ s.vm.findClass (t_nm k).cls = some m.cls ∧ meth.sig.returnType = t_rt k ∧ pmRel Z n0 scA σ T.heap ∧ Fr n0 locs ∧ s.heap.size + pmBC k σ.1 = n0 + σ.1
def pmROk (k a a' : Nat) : Prop := (t_mode k = 0 → a' = a) ∧ (t_mode k = 1 → a' = t_full)
def WM (l : Launch) (Z : State) (n0 scA : Nat) : WPr := fun k pc Ls S σ Q =>
  ∀ (p : Program) (e : Env) (s : State) (m : MethodId) (args : Array Value) (below : List Frame) (meth : Method) (c : Code) (T : State) (locs : List Loc) (Lc : Array Slot),
    pmCtx l Z n0 scA k σ p e s m args below meth c T locs → pmLR n0 scA Ls Lc → pmWC Lc → Ls.length = t_ml k →
    ∃ (v : Option Value) (σ' : Mem) (T' : State) (locs' : List Loc), pmCtx l Z n0 scA k σ' p e s m args below meth c T' locs' ∧ Q v σ' ∧ pmROk k σ.1 σ'.1 ∧ (t_rt k = none → v = none) ∧
      ∀ fs, (∀ (f : JFrame) (acts : List Action), f.method = m → f.locked = none → f.entered = [] → (doReturn e (T'.setTop f) acts (v.map (cv n0 scA))).1 = T'.setFrames fs) → Steps p.tables e below (T.setTop (mkF m pc Lc (S.map (cv n0 scA)))) (T'.setFrames fs)
section Sound
variable {l : Launch} {Z : State} {a0 : Array Value} {n0 scA : Nat}
/-- one step that goes from one point of the same body to another -/
theorem pmStep {k pc pc' : Nat} {Ls Ls' : List Slot} {S S' : List Value} {σ σ' : Mem} {Q : Pst} (h : WM l Z n0 scA k pc' Ls' S' σ' Q) (hlen : Ls'.length = Ls.length) (hro : ∀ a, pmROk k σ'.1 a → pmROk k σ.1 a)
    (st : ∀ (p : Program) (e : Env) (s : State) (m : MethodId) (args : Array Value) (below : List Frame) (meth : Method) (c : Code) (T : State) (locs : List Loc) (Lc : Array Slot), pmCtx l Z n0 scA k σ p e s m args below meth c T locs → pmLR n0 scA Ls Lc → pmWC Lc → Ls.length = t_ml k →
      ∃ (T' : State) (locs' : List Loc) (Lc' : Array Slot), pmCtx l Z n0 scA k σ' p e s m args below meth c T' locs' ∧ pmLR n0 scA Ls' Lc' ∧ pmWC Lc' ∧
        ∀ target, Steps p.tables e below (T'.setTop (mkF m pc' Lc' (S'.map (cv n0 scA)))) target → Steps p.tables e below (T.setTop (mkF m pc Lc (S.map (cv n0 scA)))) target) : WM l Z n0 scA k pc Ls S σ Q := by
  intro p e s m args below meth c T locs Lc hX hR hC hL
  obtain ⟨T1, locs1, Lc1, X1, R1, C1, s1⟩ := st p e s m args below meth c T locs Lc hX hR hC hL
  obtain ⟨v, σ2, T2, locs2, X2, q2, r2, n2, s2⟩ := h p e s m args below meth c T1 locs1 Lc1 X1 R1 C1 (hlen.trans hL)
  exact ⟨v, σ2, T2, locs2, X2, q2, hro _ r2, n2, fun fs hr => s1 _ (s2 fs hr)⟩
/-- a step that touches neither heap nor tables -/
theorem pmPure {k pc pc' : Nat} {Ls Ls' : List Slot} {S S' : List Value} {σ : Mem} {Q : Pst} (h : WM l Z n0 scA k pc' Ls' S' σ Q) (hlen : Ls'.length = Ls.length)
    (st : ∀ (p : Program) (e : Env) (m : MethodId) (below : List Frame) (c : Code) (T : State) (Lc : Array Slot), p.tables.exec = Jvm.exec → At T m c below → c.code = t_bytes k → pmLR n0 scA Ls Lc → pmWC Lc →
      ∃ (Lc' : Array Slot), pmLR n0 scA Ls' Lc' ∧ pmWC Lc' ∧ ∀ target, Steps p.tables e below (T.setTop (mkF m pc' Lc' (S'.map (cv n0 scA)))) target → Steps p.tables e below (T.setTop (mkF m pc Lc (S.map (cv n0 scA)))) target) : WM l Z n0 scA k pc Ls S σ Q :=
  pmStep h hlen (fun _ q => q) fun p e s m args below meth c T locs Lc hX hR hC hL => by
    obtain ⟨Lc', R1, C1, s1⟩ := st p e m below c T Lc hX.2.1 hX.1.here hX.2.2.2.1 hR hC
    exact ⟨T, locs, Lc', hX, R1, C1, s1⟩
/-- and leaves the locals as they are -/
theorem pmPure0 {k pc pc' : Nat} {Ls : List Slot} {S S' : List Value} {σ : Mem} {Q : Pst} (h : WM l Z n0 scA k pc' Ls S' σ Q)
    (st : ∀ (p : Program) (e : Env) (m : MethodId) (below : List Frame) (c : Code) (T : State) (Lc : Array Slot), p.tables.exec = Jvm.exec → At T m c below → c.code = t_bytes k → pmLR n0 scA Ls Lc →
      ∀ target, Steps p.tables e below (T.setTop (mkF m pc' Lc (S'.map (cv n0 scA)))) target → Steps p.tables e below (T.setTop (mkF m pc Lc (S.map (cv n0 scA)))) target) : WM l Z n0 scA k pc Ls S σ Q :=
  pmPure h rfl fun p e m below c T Lc hx hat hby hR hC => ⟨Lc, hR, hC, st p e m below c T Lc hx hat hby hR⟩
/-- a branch -/
theorem pmBranch {k pc : Nat} {Ls : List Slot} {S R : List Value} {σ : Mem} {Q : Pst} {cd : ClassFile.Cond} {x y : Int32} {o : Int} {T F : Prop} (h : pmBr cd x y T F) (hT : T → WM l Z n0 scA k (pmTgt pc o) Ls R σ Q) (hF : F → WM l Z n0 scA k (pc + 3) Ls R σ Q)
    (yes : ∀ (p : Program) (e : Env) (m : MethodId) (below : List Frame) (c : Code) (T : State) (Lc : Array Slot), p.tables.exec = Jvm.exec → At T m c below → c.code = t_bytes k → if_icmp.holds cd x y = true →
      ∀ target, Steps p.tables e below (T.setTop (mkF m (pmTgt pc o) Lc (R.map (cv n0 scA)))) target → Steps p.tables e below (T.setTop (mkF m pc Lc (S.map (cv n0 scA)))) target)
    (no : ∀ (p : Program) (e : Env) (m : MethodId) (below : List Frame) (c : Code) (T : State) (Lc : Array Slot), p.tables.exec = Jvm.exec → At T m c below → c.code = t_bytes k → if_icmp.holds cd x y = false →
      ∀ target, Steps p.tables e below (T.setTop (mkF m (pc + 3) Lc (R.map (cv n0 scA)))) target → Steps p.tables e below (T.setTop (mkF m pc Lc (S.map (cv n0 scA)))) target) : WM l Z n0 scA k pc Ls S σ Q := by
  have go : ∀ b, if_icmp.holds cd x y = b → (b = true → T) → (b = false → F) → WM l Z n0 scA k pc Ls S σ Q := by
    intro b hb h1 h2
    cases b with
    | true => exact pmPure0 (hT (h1 rfl)) fun p e m below c T Lc hx hat hby _ => yes p e m below c T Lc hx hat hby hb
    | false => exact pmPure0 (hF (h2 rfl)) fun p e m below c T Lc hx hat hby _ => no p e m below c T Lc hx hat hby hb
  cases cd
  · by_cases q : x = y
    · exact go true (teq q).1 (fun _ => h.1 q) (fun z => by cases z)
    · exact go false (feq q).1 (fun z => by cases z) (fun _ => h.2 q)
  · by_cases q : x = y
    · exact go false (teq q).2 (fun z => by cases z) (fun _ => h.1 q)
    · exact go true (feq q).2 (fun _ => h.2 q) (fun z => by cases z)
  · by_cases q : x.toInt < y.toInt
    · exact go true (tlt (Int32.lt_iff_toInt_lt.mpr q)).1 (fun _ => h.1 q) (fun z => by cases z)
    · exact go false (flt (fun z => q (Int32.lt_iff_toInt_lt.mp z))).1 (fun z => by cases z) (fun _ => h.2 q)
  · by_cases q : x.toInt < y.toInt
    · exact go false (tlt (Int32.lt_iff_toInt_lt.mpr q)).2.1 (fun z => by cases z) (fun _ => h.1 q)
    · exact go true (flt (fun z => q (Int32.lt_iff_toInt_lt.mp z))).2.1 (fun _ => h.2 q) (fun z => by cases z)
  · by_cases q : y.toInt < x.toInt
    · exact go true (tlt (Int32.lt_iff_toInt_lt.mpr q)).2.2.1 (fun _ => h.1 q) (fun z => by cases z)
    · exact go false (flt (fun z => q (Int32.lt_iff_toInt_lt.mp z))).2.2.1 (fun z => by cases z) (fun _ => h.2 q)
  · by_cases q : y.toInt < x.toInt
    · exact go false (tlt (Int32.lt_iff_toInt_lt.mpr q)).2.2.2 (fun z => by cases z) (fun _ => h.1 q)
    · exact go true (flt (fun z => q (Int32.lt_iff_toInt_lt.mp z))).2.2.2 (fun _ => h.2 q) (fun z => by cases z)
theorem pmStl_len {L L' : List Slot} {i : Nat} {v : Value} (h : pmStl L i v = some L') : L'.length = L.length := by
  unfold pmStl at h
  split at h <;> first | (cases h; done) | (cases h; simp; done) | (split at h <;> first | (cases h; done) | (cases h; simp; done))
theorem pmStlL_len {L L' : List Slot} {i : Nat} {v : Value} (h : pmStlL L i v = some L') : L'.length = L.length := by
  unfold pmStlL at h
  split at h
  · cases h
  · rename_i L1 h1
    split at h
    · cases h
    · rename_i L2 h2
      cases h
      simp [pmStl_len h2, pmStl_len h1]
theorem clampNeg (x : Int32) : x.toNatClampNeg = x.toInt.toNat := rfl
theorem pmInb {j : Int32} {n : Nat} {c : Cell} (hs : c.slots.size = n) (h : 0 ≤ j.toInt ∧ j.toInt < (n : Int)) : ¬ (j < 0 ∨ c.slots.size ≤ j.toNatClampNeg) := by
  rw [hs, clampNeg, Int32.lt_iff_toInt_lt]
  have e0 : (0 : Int32).toInt = 0 := rfl
  rw [e0]; omega
/-- an array as the memory says -/
theorem pmArr {σ : Mem} {h : Heap} {r : Nat} (R : pmRel Z n0 scA σ h) (ht : pmThere r σ.1 = true) : ∃ c : Cell, Arr Z h (pmRho n0 scA r) c (pmTy r) ∧ c.slots.size = pmLen r σ ∧ ∀ i, i < pmLen r σ → c.slots[i]? = some (.int (σ.2.2.2 r i)) := by
  match r, ht with
  | 0, ht =>
    obtain ⟨-, -, c, h1, h2, h3⟩ := R.2.2.1 ht
    exact ⟨c, h1, h2, h3⟩
  | r + 2, ht =>
    have ht' : r + 2 ≤ σ.1 := Nat.le_of_ble_eq_true ht
    have hr : r < t_arrs.length := by have := R.2.1; rw [f_full] at this; omega
    have hq : t_arrs[r]? = some t_arrs[r] := List.getElem?_eq_getElem hr
    obtain ⟨c, h1, h2, h3⟩ := (R.2.2.2.2 r _ hq).1 ht'
    have e1 : pmTy (r + 2) = t_arrs[r].1 := by simp only [pmTy, hq]
    have e2 : pmLen (r + 2) σ = t_arrs[r].2 := by simp only [pmLen, hq]
    rw [e1, e2]
    exact ⟨c, h1, h2, h3⟩
theorem pmROk_same {k : Nat} {σ σ' : Mem} (h : σ'.1 = σ.1) : ∀ a, pmROk k σ'.1 a → pmROk k σ.1 a := fun a q => h ▸ q
end Sound
section Sound
variable {l : Launch} {Z : State} {a0 : Array Value} {n0 scA : Nat}
theorem pmLaid (hw : ∀ d ∈ tables_1, d.before a0 Z = true) {q : Nat} {f : String × String × FieldType} (h : t_flds[q]? = some f) : (Jvm.Cond.lays t_C t_C f.1 f.2.1).before a0 Z = true ∧ parseFieldDescriptor f.2.1 = some f.2.2 :=
  ⟨hw _ (f_lays f (List.mem_of_getElem? h)).1, (f_lays f (List.mem_of_getElem? h)).2⟩
theorem pmSlotNe (hw : ∀ d ∈ tables_1, d.before a0 Z = true) {q q' : Nat} {f f' : String × String × FieldType} (h : t_flds[q]? = some f) (h' : t_flds[q']? = some f') (hne : q ≠ q') : Jvm.RoadKit.slotOf Z t_C f.1 f.2.1 ≠ Jvm.RoadKit.slotOf Z t_C f'.1 f'.2.1 := by
  have n := f_names q q' (List.getElem?_eq_some_iff.mp h).1 (List.getElem?_eq_some_iff.mp h').1 hne
  rw [h, h'] at n
  exact slot_ne (Or.inl (pmLaid hw h).1) (Or.inl (pmLaid hw h').1) (fun e => n (by simp [e])) (pmLaid hw h).2 (pmLaid hw h').2
theorem pmRel_put (hw : ∀ d ∈ tables_1, d.before a0 Z = true) {σ : Mem} {h h' : Heap} {q : Nat} {f : String × String × FieldType} {v : Value} (R : pmRel Z n0 scA σ h) (h1 : 1 ≤ σ.1) (hf : t_flds[q]? = some f) (W : Wr h h' n0 (Jvm.RoadKit.slotOf Z t_C f.1 f.2.1) (cv n0 scA v)) :
    pmRel Z n0 scA (σ.1, σ.2.1, σ.2.2.1.set q v, σ.2.2.2) h' := by
  obtain ⟨r1, r2, r3, r4, r5⟩ := R
  refine ⟨W.size.trans r1, r2, fun ht => ?_, fun h1' => ?_, fun r z hz => ⟨fun hr => ?_, (r5 r z hz).2⟩⟩
  · obtain ⟨a1, a2, c, A, a3⟩ := r3 ht
    exact ⟨a1, a2, c, A.other W (show (scA : Nat) ≠ n0 by omega), a3⟩
  · obtain ⟨E, hl, F⟩ := r4 h1
    refine ⟨E.wr W, by simpa using hl, fun q' f' v' hf' hv' => ?_⟩
    by_cases e : q = q'
    · subst e
      cases hf.symm.trans hf'
      have hq : q < σ.2.2.1.length := by rw [hl]; exact (List.getElem?_eq_some_iff.mp hf).1
      have e2 : v' = v := by simpa [hq] using hv'.symm
      subst e2
      exact Fld.same W (F q f _ hf (List.getElem?_eq_getElem hq))
    · have hv2 : σ.2.2.1[q']? = some v' := by simpa [List.getElem?_set_ne e] using hv'
      exact Fld.other W (F q' f' v' hf' hv2) (Or.inr (pmSlotNe hw hf' hf (Ne.symm e)))
  · obtain ⟨c, A, a3⟩ := (r5 r z hz).1 hr
    exact ⟨c, A.other W (show (n0 + (r + 1) : Nat) ≠ n0 by omega), a3⟩
theorem pmRel_set {σ : Mem} {h h' : Heap} {r i : Nat} {v : Int32} (R : pmRel Z n0 scA σ h) (hr : r + 2 ≤ σ.1) (hi : i < pmLen (r + 2) σ) (W : Wr h h' (n0 + (r + 1)) i (.int v)) :
    pmRel Z n0 scA (σ.1, σ.2.1, σ.2.2.1, pmSet σ.2.2.2 (r + 2) i v) h' := by
  obtain ⟨r1, r2, r3, r4, r5⟩ := R
  refine ⟨W.size.trans r1, r2, fun ht => ?_, fun h1 => ?_, fun r' z hz => ⟨fun hr' => ?_, fun hr' j hj => ?_⟩⟩
  · obtain ⟨a1, a2, c, A, a3, a4⟩ := r3 ht
    exact ⟨a1, a2, c, A.other W (show (scA : Nat) ≠ n0 + (r + 1) by omega), a3, fun j hj => by rw [a4 j hj]; simp [pmSet]⟩
  · obtain ⟨E, hl, F⟩ := r4 h1
    exact ⟨E.wr W, hl, fun q' f' v' hf' hv' => Fld.other W (F q' f' v' hf' hv') (Or.inl (show (n0 : Nat) ≠ n0 + (r + 1) by omega))⟩
  · obtain ⟨c, A, a3, a4⟩ := (r5 r' z hz).1 hr'
    by_cases e : r' = r
    · subst e
      have hi' : i < z.2 := by simpa only [pmLen, hz] using hi
      refine ⟨_, A.same W, by simp [Cell.setSlot, a3], fun j hj => ?_⟩
      by_cases e2 : i = j
      · subst e2; simp [Cell.setSlot, a3, hi', pmSet]
      · simp only [Cell.setSlot, Array.getElem?_setIfInBounds_ne e2]
        rw [a4 j hj]; simp [pmSet, Ne.symm e2]
    · refine ⟨c, A.other W (show (n0 + (r' + 1) : Nat) ≠ n0 + (r + 1) by omega), a3, fun j hj => ?_⟩
      rw [a4 j hj]
      simp [pmSet, e]
  · have e : ¬ r' = r := fun e => by subst e; simp only at hr'; omega
    have := (r5 r' z hz).2 hr' j hj
    simp [pmSet, e, this]
theorem pmRel_new (hw : ∀ d ∈ tables_1, d.before a0 Z = true) {n : Nat} {F : List Value} {A : Nat → Nat → Int32} {h h' : Heap} (R : pmRel Z n0 scA (0, n, F, A) h) (E : Ext h h') (hs : h'.size = h.size + 1) (X : Exa Z h' h.size t_C)
    (D : ∀ {O nm d : String} {ty : FieldType}, Laid Z a0 t_C O nm d → parseFieldDescriptor d = some ty → Fld Z h' h.size O nm d (defaultValue ty)) : pmRel Z n0 scA (1, n, t_flds.map (fun f => defaultValue f.2.2), A) h' := by
  obtain ⟨r1, r2, r3, r4, r5⟩ := R
  have r1' : h.size = n0 := r1
  refine ⟨by rw [hs, r1'], by rw [f_full]; simp, fun ht => ?_, fun _ => ⟨by rw [← r1']; exact X, by simp, fun q f v hf hv => ?_⟩, fun r z hz => ⟨fun hr => ?_, fun hr j hj => ?_⟩⟩
  · obtain ⟨a1, a2, c, A1, a3⟩ := r3 ht
    exact ⟨a1, a2, c, A1.ext E, a3⟩
  · have e : v = defaultValue f.2.2 := by simpa [hf] using hv.symm
    subst e
    have := D (Or.inl (pmLaid hw hf).1) (pmLaid hw hf).2
    rw [r1'] at this
    have e2 : cv n0 scA (defaultValue f.2.2) = defaultValue f.2.2 := by cases f.2.2 <;> rfl
    rw [e2]; exact this
  · simp only at hr; omega
  · exact (r5 r z hz).2 (by simp) j hj
theorem pmRel_arr {a n : Nat} {F : List Value} {A : Nat → Nat → Int32} {h h' : Heap} {z : FieldType × Nat} {cA : ClassId} {m : Int32} (R : pmRel Z n0 scA (a + 1, n, F, A) h) (E : Ext h h') (hs : h'.size = h.size + 1) (hz : t_arrs[a]? = some z) (hm : m = Int32.ofNat z.2) (hz2 : z.2 < 4096)
    (hd : defaultValue z.1 = .int 0) (B : Arr Z h' h.size (newA cA z.1 m) z.1) : pmRel Z n0 scA (a + 2, n, F, A) h' := by
  obtain ⟨r1, r2, r3, r4, r5⟩ := R
  have r1' : h.size = n0 + (a + 1) := r1
  have ha : a < t_arrs.length := (List.getElem?_eq_some_iff.mp hz).1
  have hm' : m.toNatClampNeg = z.2 := by
    subst hm
    rw [clampNeg]
    have : (Int32.ofNat z.2).toInt = (z.2 : Int) := Int32.toInt_ofNat_of_lt (by omega)
    rw [this]; simp
  refine ⟨by rw [hs, r1']; omega, by rw [f_full]; omega, fun ht => ?_, fun _ => ?_, fun r w hw => ⟨fun hr => ?_, fun hr j hj => ?_⟩⟩
  · obtain ⟨a1, a2, c, A1, a3⟩ := r3 ht
    exact ⟨a1, a2, c, A1.ext E, a3⟩
  · obtain ⟨X, hl, F1⟩ := r4 (by simp)
    exact ⟨X.ext E, hl, fun q f v hf hv => (F1 q f v hf hv).ext E⟩
  · by_cases e : r = a
    · subst e
      cases hz.symm.trans hw
      refine ⟨_, by rw [← r1']; exact B, by simp [newA, hm'], fun j hj => ?_⟩
      have z0 : A (r + 2) j = 0 := (r5 r z hz).2 (by simp) j hj
      show (newA cA z.1 m).slots[j]? = some (.int (A (r + 2) j))
      rw [z0]
      simp [newA, hm', hj, hd]
    · have hr' : r + 2 ≤ a + 2 := hr
      obtain ⟨c, A1, a3⟩ := (r5 r w hw).1 (show r + 2 ≤ a + 1 by omega)
      exact ⟨c, A1.ext E, a3⟩
  · exact (r5 r w hw).2 (show a + 1 < r + 2 by have : a + 2 < r + 2 := hr; omega) j hj
/-! entering a body -/
theorem pmSlots_loc (n0 scA : Nat) (as : List Value) (hnd : ∀ v ∈ as, ∀ b, v ≠ .double b) : ((as.map (cv n0 scA)).foldl (fun (acc : Array Slot) v => if v.category = 2 then (acc.push (.val v)).push .second else acc.push (.val v)) #[]).toList = (pmSlots as).map (cs n0 scA) := by
  have gen : ∀ (as : List Value) (acc : Array Slot), (∀ v ∈ as, ∀ b, v ≠ .double b) → ((as.map (cv n0 scA)).foldl (fun (acc : Array Slot) v => if v.category = 2 then (acc.push (.val v)).push .second else acc.push (.val v)) acc).toList = acc.toList ++ (pmSlots as).map (cs n0 scA) := by
    intro as
    induction as with
    | nil => intro acc _; simp [pmSlots]
    | cons v r ih =>
      intro acc hnd
      rw [List.map_cons, List.foldl_cons, ih _ (fun w hw => hnd w (List.mem_cons_of_mem _ hw))]
      cases v <;> first | (simp [pmSlots, cv, cs, Value.category]; done) | exact absurd rfl (hnd _ (List.mem_cons_self ..) _)
  simpa using gen as #[] hnd
theorem pmEntry_loc (n0 scA ml : Nat) (as : List Value) (hnd : ∀ v ∈ as, ∀ b, v ≠ .double b) : argsToLocals (as.map (cv n0 scA)).toArray ml = ((pmEntry ml as).map (cs n0 scA)).toArray := by
  have h := pmSlots_loc n0 scA as hnd
  apply Array.toList_inj.mp
  unfold argsToLocals
  simp only [List.foldl_toArray', Array.toList_append, Array.toList_replicate, List.toList_toArray]
  rw [pmEntry, List.map_append, h]
  congr 1
  have : (List.foldl (fun (acc : Array Slot) v => if v.category = 2 then (acc.push (.val v)).push .second else acc.push (.val v)) #[] (as.map (cv n0 scA))).size = (pmSlots as).length := by
    rw [← Array.length_toList, h, List.length_map]
  rw [this]
  simp [cs]
theorem pmSlots_wc (as : List Value) : (∀ i : Nat, (pmSlots as)[i]? = some .second → ∃ j v, i = j + 1 ∧ (pmSlots as)[j]? = some (.val v) ∧ v.category = 2) ∧ (∀ (i : Nat) (v : Value), (pmSlots as)[i]? = some (.val v) → v.category = 2 → (∀ b, v ≠ .double b) → (pmSlots as)[i + 1]? = some .second) := by
  induction as with
  | nil => exact ⟨fun i h => by simp [pmSlots] at h, fun i v h => by simp [pmSlots] at h⟩
  | cons v r ih =>
    have one : ∀ w : Value, w.category = 1 ∨ (∃ b, w = .double b) → ((∀ i : Nat, (.val w :: pmSlots r)[i]? = some .second → ∃ j v, i = j + 1 ∧ (.val w :: pmSlots r)[j]? = some (.val v) ∧ v.category = 2) ∧ (∀ (i : Nat) (v : Value), (.val w :: pmSlots r)[i]? = some (.val v) → v.category = 2 → (∀ b, v ≠ .double b) → (.val w :: pmSlots r)[i + 1]? = some .second)) := by
      intro w hw
      refine ⟨fun i h => ?_, fun i u h hc hd => ?_⟩
      · cases i with
        | zero => simp at h
        | succ i =>
          obtain ⟨j, u, e, g, q⟩ := ih.1 i (by simpa using h)
          exact ⟨j + 1, u, by omega, by simpa using g, q⟩
      · cases i with
        | zero =>
          have : u = w := by simpa using h.symm
          subst this
          rcases hw with hw | ⟨b, rfl⟩
          · rw [hw] at hc; cases hc
          · exact absurd rfl (hd b)
        | succ i => simpa using ih.2 i u (by simpa using h) hc hd
    cases v with
    | long z =>
      refine ⟨fun i h => ?_, fun i u h hc hd => ?_⟩
      · match i, h with
        | 0, h => simp [pmSlots] at h
        | 1, h => exact ⟨0, .long z, rfl, by simp [pmSlots], rfl⟩
        | i + 2, h =>
          obtain ⟨j, u, e, g, q⟩ := ih.1 i (by simpa [pmSlots] using h)
          exact ⟨j + 2, u, by omega, by simpa [pmSlots] using g, q⟩
      · match i, h with
        | 0, h => simp [pmSlots]
        | 1, h => simp [pmSlots] at h
        | i + 2, h => simpa [pmSlots] using ih.2 i u (by simpa [pmSlots] using h) hc hd
    | int z => exact one _ (Or.inl rfl)
    | float z => exact one _ (Or.inl rfl)
    | double z => exact one _ (Or.inr ⟨_, rfl⟩)
    | null => exact one _ (Or.inl rfl)
    | ref z => exact one _ (Or.inl rfl)
    | retAddr z => exact one _ (Or.inl rfl)
theorem pmEntry_ok (n0 scA ml : Nat) (as : List Value) (hnd : ∀ v ∈ as, ∀ b, v ≠ .double b) : pmLR n0 scA (pmEntry ml as) ((pmEntry ml as).map (cs n0 scA)).toArray ∧ pmWC ((pmEntry ml as).map (cs n0 scA)).toArray := by
  have nd : ∀ (i : Nat) (v : Value), (pmSlots as)[i]? = some (.val v) → ∀ b, v ≠ .double b := by
    intro i v h b e
    subst e
    have : ∀ (as : List Value), (∀ v ∈ as, ∀ b, v ≠ .double b) → Slot.val (.double b) ∉ pmSlots as := by
      intro as
      induction as with
      | nil => intro _ q; simp [pmSlots] at q
      | cons w r ih =>
        intro hn q
        have ih' := ih (fun w hw => hn w (List.mem_cons_of_mem _ hw))
        cases w with
        | double d => exact hn _ (List.mem_cons_self ..) _ rfl
        | _ => simp [pmSlots] at q; exact ih' q
    exact this as hnd (List.mem_of_getElem? h)
  have app : ∀ (i : Nat) (x : Slot), (pmEntry ml as)[i]? = some x → x ≠ .unset → (pmSlots as)[i]? = some x := by
    intro i x h hx
    unfold pmEntry at h
    by_cases q : i < (pmSlots as).length
    · rwa [List.getElem?_append_left q] at h
    · rw [List.getElem?_append_right (Nat.le_of_not_lt q), List.getElem?_replicate] at h
      split at h
      · cases h; exact absurd rfl hx
      · cases h
  have app' : ∀ (i : Nat) (x : Slot), (pmSlots as)[i]? = some x → (pmEntry ml as)[i]? = some x := by
    intro i x h
    unfold pmEntry
    rw [List.getElem?_append_left (List.getElem?_eq_some_iff.mp h).1]; exact h
  refine ⟨⟨by simp, fun i x h _ => by simp [h]⟩, fun i h => ?_, fun i v h hc => ?_⟩
  · have h' : (pmEntry ml as)[i]? = some .second := by
      simp only [List.getElem?_toArray, List.getElem?_map, Option.map_eq_some_iff] at h
      obtain ⟨x, h1, h2⟩ := h
      cases x <;> simp [cs] at h2
      exact h1
    obtain ⟨j, v, e, g, q⟩ := (pmSlots_wc as).1 i (app i _ h' (by simp))
    exact ⟨j, cv n0 scA v, e, by simp [app' j _ g, cs], by rw [cv_cat]; exact q⟩
  · simp only [List.getElem?_toArray, List.getElem?_map, Option.map_eq_some_iff] at h
    obtain ⟨x, h1, h2⟩ := h
    cases x with
    | unset => simp [cs] at h2
    | second => simp [cs] at h2
    | val w =>
      have e : cv n0 scA w = v := by simpa [cs] using h2
      subst e
      rw [cv_cat] at hc
      have g := app i _ h1 (by simp)
      have := (pmSlots_wc as).2 i w g hc (nd i w g)
      simp [app' _ _ this, cs]
end Sound
section Sound
variable {l : Launch} {Z : State} {a0 : Array Value} {n0 scA : Nat}
theorem pmWt_sum (n0 scA : Nat) (S : List Value) : ((S.map (cv n0 scA)).map fun v => v.category).sum = pmWt S := by
  induction S with
  | nil => rfl
  | cons v r ih =>
    rw [List.map_cons, List.map_cons, List.sum_cons, ih]
    cases v <;> rfl
theorem pmPop_spec {n : Nat} : ∀ {as S bs R : List Value}, pmPop n as S = some (bs, R) → bs.reverse ++ R = as.reverse ++ S ∧ bs.length = n + as.length := by
  induction n with
  | zero => intro as S bs R h; cases h; exact ⟨rfl, by simp⟩
  | succ n ih =>
    intro as S bs R h
    cases S with
    | nil => cases h
    | cons v S =>
      obtain ⟨h1, h2⟩ := ih (show pmPop n (v :: as) S = some (bs, R) from h)
      exact ⟨by rw [h1]; simp, by rw [h2]; simp; omega⟩
/-- what a body leaves -/
def pmLeft (Z : State) (n0 scA k : Nat) (a : Nat) (Q : Pst) (v : Option Value) (h : Heap) (L : List Loc) : Prop := ∃ (w : Option Value) (σ' : Mem), v = w.map (cv n0 scA) ∧ Q w σ' ∧ pmRel Z n0 scA σ' h ∧ Fr n0 L ∧ pmROk k a σ'.1
theorem pmMet (hw : ∀ d ∈ tables_1, d.before a0 Z = true) {k : Nat} {as : List Value} {σ : Mem} {Q : Pst} {h0 : Heap} (ws : List Jvm.Cond) (H : WM l Z n0 scA k 0 (pmEntry (t_ml k) as) [] σ Q) (R : pmRel Z n0 scA σ h0) (hpl : plainName (t_nm k).cls = true) (hnd : ∀ v ∈ as, ∀ b, v ≠ .double b)
    (hlen : (pmEntry (t_ml k) as).length = t_ml k) (hc : pmBC k σ.1 = 0) (hs : pmBS k σ.1 = 0) (cc ss : Nat) (hcc : ∀ a, pmROk k σ.1 a → a ≤ t_full → pmBC k a ≤ cc ∧ pmBS k a ≤ ss) :
    MetFree l (t_nm k) (head1 (Jvm.Cond.code (t_nm k) (t_bytes k) (t_ml k) (t_rt k) :: ws) (t_rm k)) (fun a U => a = (as.map (cv n0 scA)).toArray ∧ Z.Warmed39 U.vm ∧ U.heap = h0) (fun _ _ _ _ _ => True)
      (fun _ U o U' => ∃ v L, o = .returned v ∧ pmLeft Z n0 scA k σ.1 Q v U'.heap L ∧ FrameEnd U o U' L cc ss) := by
  refine MetFree.of_bodySF (plainFor_of_name hpl) hisR ?_
  intro p e s m args below meth c s₁ Bd hml0 hP hK
  obtain ⟨rfl, hZ, hh⟩ := hP
  have hx := Bd.exec
  have hby := Bd.bytes
  have hown : s.vm.findClass (t_nm k).cls = some m.cls := findClass_of_methodNamed Bd.named
  have X0 : Stand p l e (t_rm k) s m (as.map (cv n0 scA)).toArray below meth c s₁ [] 0 0 := Stand.of_body Bd
  have e0 : s₁.heap = h0 := by rw [← hh, Bd.state]; rfl
  obtain ⟨eR, eC⟩ := pmEntry_ok n0 scA (t_ml k) as hnd
  have X0' : pmCtx l Z n0 scA k σ p e s m (as.map (cv n0 scA)).toArray below meth c s₁ [] := ⟨by rw [hc, hs]; exact X0, hx, hZ, hby, hml0, hown, Bd.returns, by rw [e0]; exact R, Fr.nil n0, by rw [hc, hh, R.1]; rfl⟩
  obtain ⟨v, σ', T', locs', X', q', r', n', st⟩ := H p e s m _ below meth c s₁ [] _ X0' eR eC hlen
  have ef : entryFrame m (as.map (cv n0 scA)).toArray (t_ml k) = mkF m 0 ((pmEntry (t_ml k) as).map (cs n0 scA)).toArray [] := by
    rw [entryFrame, pmEntry_loc n0 scA _ as hnd]
  obtain ⟨fs, hr, hrun, hended, hW, hsame⟩ := X'.1.leave (v := v.map (cv n0 scA)) (fun h => by rw [Bd.returns] at h; rw [n' h]; rfl)
  obtain ⟨b1, b2⟩ := hcc σ'.1 r' X'.2.2.2.2.2.2.2.1.2.1
  refine ⟨_, _, castTop ef (st fs hr), hrun, hended, _, _, rfl, ⟨v, σ', rfl, q', ?_, X'.2.2.2.2.2.2.2.2.1, r'⟩, ⟨_, rfl⟩, hW, hsame.mono b1 b2⟩
  exact X'.2.2.2.2.2.2.2.1
theorem pmRm {k : Nat} : (t_mode k = 0 → (t_rm k).cells = 0 ∧ (t_rm k).slots = 0) ∧ (t_mode k = 1 → (t_rm k).cells = t_full - 1 ∧ (t_rm k).slots = pmSS t_full - pmSS 1) := f_rm k
/-- a call, whatever links it -/
theorem pmCallS (hw : ∀ d ∈ tables_1, d.before a0 Z = true) {k k' pc : Nat} {Ls : List Slot} {S as R : List Value} {σ : Mem} {Q : Pst} (hpop : pmPop (t_np k') [] S = some (as, R)) (hpl : plainName (t_nm k').cls = true)
    (hcode : (Jvm.Cond.code (t_nm k') (t_bytes k') (t_ml k') (t_rt k')) ∈ tables_1) (hinit : (Jvm.Cond.initialized (t_nm k').cls) ∈ tables_1)
    (h : pmCall (WM l Z n0 scA) k k' as R σ fun v σ' => WM l Z n0 scA k (pc + 3) Ls (pmPush v R) σ' Q)
    (link : ∀ (p : Program) (e : Env) (s : State) (m : MethodId) (args : Array Value) (below : List Frame) (meth : Method) (c : Code) (T : State) (locs : List Loc) (Lc : Array Slot) (Pre : Pt → Array Value → Prop) (Post : Pt → Array Value → Option Value → Pt → Prop),
      pmCtx l Z n0 scA k σ p e s m args below meth c T locs → Lc.size = c.maxLocals → Back l (t_rm k) p e below s args (t_nm k') 3 (pmWt R) Pre Post →
      (∀ vm₁, s.WarmedH vm₁ → Pre ⟨T.setVm vm₁, locs, pmBC k σ.1, pmBS k σ.1⟩ (as.map (cv n0 scA)).toArray) →
      ∃ (v : Option Value) (vm₁ : Vm) (B : Pt), s.WarmedH vm₁ ∧ Stand p l e (t_rm k) s m args below meth c B.U B.locs B.cells B.slots ∧ Post ⟨T.setVm vm₁, locs, pmBC k σ.1, pmBS k σ.1⟩ (as.map (cv n0 scA)).toArray v B ∧
        ∀ target, Steps p.tables e below (B.U.setTop (mkF m (pc + 3) Lc (v.toList ++ R.map (cv n0 scA)))) target → Steps p.tables e below (T.setTop (mkF m pc Lc (S.map (cv n0 scA)))) target) : WM l Z n0 scA k pc Ls S σ Q := by
  unfold pmCall at h
  cases hrf : (pmRoom k k' R σ.1 && pmFit k' as) with
  | false => rw [hrf] at h; exact h.elim
  | true =>
    rw [hrf] at h
    dsimp only at h
    obtain ⟨hr, hfit⟩ := Bool.and_eq_true_iff.mp hrf
    intro p e s m args below meth c T locs Lc hX hR hC hL
    obtain ⟨X, hx, hZ, hby, hml, hown, hret, hRel, hFr, hSz⟩ := id hX
    simp only [pmRoom, Bool.and_eq_true] at hr
    obtain ⟨⟨hf, hl⟩, hm⟩ := hr
    have hf' := Nat.le_of_ble_eq_true hf
    have hl' := Nat.le_of_ble_eq_true hl
    have hnd : ∀ v ∈ as, ∀ b, v ≠ .double b := by
      intro v hv b e
      subst e
      simp only [pmFit, Bool.and_eq_true, List.all_eq_true] at hfit
      exact Bool.noConfusion (hfit.2 _ hv)
    have hlen : (pmEntry (t_ml k') as).length = t_ml k' := by
      simp only [pmFit, Bool.and_eq_true] at hfit
      have := Nat.le_of_ble_eq_true hfit.1
      simp [pmEntry]; omega
    have facts : pmBC k' σ.1 = 0 ∧ pmBS k' σ.1 = 0 ∧ pmBC k σ.1 + (t_rm k').cells ≤ (t_rm k).cells ∧ pmBS k σ.1 + (t_rm k').slots ≤ (t_rm k).slots ∧ (∀ a, pmROk k' σ.1 a → a ≤ t_full → pmBC k' a ≤ (t_rm k').cells ∧ pmBS k' a ≤ (t_rm k').slots) ∧
        (∀ a, pmROk k' σ.1 a → pmBC k a = pmBC k σ.1 + (t_rm k').cells ∧ pmBS k a = pmBS k σ.1 + (t_rm k').slots ∧ (∀ b, pmROk k a b → pmROk k σ.1 b) ∧ (s.heap.size + pmBC k σ.1 = n0 + σ.1 → s.heap.size + pmBC k a = n0 + a)) := by
      rcases f_mode (k := k') with h0 | h0 | ⟨h0, -⟩
      · obtain ⟨c1, c2⟩ := pmRm.1 h0
        rw [h0] at hm
        simp only [Bool.and_eq_true] at hm
        have g1 := Nat.le_of_ble_eq_true hm.1
        have g2 := Nat.le_of_ble_eq_true hm.2
        refine ⟨by simp [pmBC, h0], by simp [pmBS, h0], by omega, by omega, fun a _ _ => ⟨by simp [pmBC, h0], by simp [pmBS, h0]⟩, fun a ha => ?_⟩
        rw [ha.1 h0, c1, c2]
        exact ⟨rfl, rfl, fun _ q => q, fun q => q⟩
      · obtain ⟨c1, c2⟩ := pmRm.2 h0
        rw [h0] at hm
        simp only [Bool.and_eq_true] at hm
        have g1 := Nat.eq_of_beq_eq_true hm.1
        have g2 := Nat.eq_of_beq_eq_true hm.2
        have k0 : k = 0 := by
          rcases f_mode (k := k) with q | q | q
          · omega
          · omega
          · exact q.2
        have q1 : pmBC k 1 = 1 := by simp [pmBC, g1]
        have q2 : pmBS k 1 = pmSS 1 := by simp [pmBS, g1]
        have q3 : 1 ≤ t_full := by rw [f_full]; omega
        refine ⟨by simp [pmBC, h0, g2], by simp [pmBS, h0, g2], ?_, ?_, fun a ha _ => ?_, fun a ha => ?_⟩
        · rw [g2, q1, c1, k0]; exact f_law.1
        · rw [g2, q2, c2, k0]; exact f_law.2
        · rw [ha.2 h0, c1, c2]; exact ⟨by simp [pmBC, h0], by simp [pmBS, h0]⟩
        · have := ha.2 h0
          subst this
          rw [g2, q1, q2, c1, c2]
          refine ⟨by simp only [pmBC, g1]; omega, ?_, fun b hb => ⟨fun z => by omega, fun z => by omega⟩, fun q => by simp only [pmBC, g1]; omega⟩
          have : pmSS 1 ≤ pmSS t_full := f_ss
          simp only [pmBS, g1]; omega
      · rw [h0] at hm; cases hm
    obtain ⟨d1, d2, d3, d4, d5, d6⟩ := facts
    have met := pmMet hw [] h hRel hpl hnd hlen d1 d2 (t_rm k').cells (t_rm k').slots d5
    have bk := backOf (W := pmWt R) (R := t_rm k) (p := p) (e := e) (below := below) (s := s) (args := args) (len := 3) met hZ (hw _ hcode) (hw _ hinit) hf' hl'
    obtain ⟨v, vm₁, ⟨T1, L1, c1, s1⟩, -, X1, ⟨Lc1, hQ, e1, e2, e3⟩, st⟩ := link p e s m args below meth c T locs Lc _ _ hX (by rw [hR.1, hL, hml]) bk (fun vm₁ _ => ⟨rfl, rfl, d3, d4⟩)
    dsimp only [Pt.U, Pt.locs, Pt.cells, Pt.slots] at X1 e1 e2 e3 hQ st
    obtain ⟨w, σ1, rfl, hK, hR1, hF1, hO1⟩ := hQ
    obtain ⟨g1, g2, g3, g4⟩ := d6 σ1.1 hO1
    subst e1 e2 e3
    have hctx : pmCtx l Z n0 scA k σ1 p e s m args below meth c T1 (locs ++ Lc1) := ⟨by rw [g1, g2]; exact X1, hx, hZ, hby, hml, hown, hret, hR1, Fr.app hFr hF1, g4 hSz⟩
    obtain ⟨v2, σ2, T2, locs2, X2, q2, r2, n2, st2⟩ := hK p e s m args below meth c T1 (locs ++ Lc1) Lc hctx hR hC hL
    refine ⟨v2, σ2, T2, locs2, X2, q2, g3 _ r2, n2, fun fs hr => st _ ?_⟩
    have := st2 fs hr
    cases w with
    | none => exact this
    | some w => exact this
theorem pmMono {k pc : Nat} {Ls : List Slot} {S : List Value} {σ : Mem} {Q Q' : Pst} (h : WM l Z n0 scA k pc Ls S σ Q) (hq : ∀ v σ', Q v σ' → Q' v σ') : WM l Z n0 scA k pc Ls S σ Q' := by
  intro p e s m args below meth c T locs Lc hX hR hC hL
  obtain ⟨v, σ2, T2, locs2, X2, q2, r⟩ := h p e s m args below meth c T locs Lc hX hR hC hL
  exact ⟨v, σ2, T2, locs2, X2, hq _ _ q2, r⟩
theorem pmCallMono {k k' : Nat} {as R : List Value} {σ : Mem} {K K' : Pst} (h : pmCall (WM l Z n0 scA) k k' as R σ K) (hk : ∀ v σ', K v σ' → K' v σ') : pmCall (WM l Z n0 scA) k k' as R σ K' := by
  unfold pmCall at h ⊢
  split at h
  · exact pmMono h hk
  · exact h.elim
theorem pmOwnC {k pc : Nat} {i : Instr × Nat × Nat} (h : t_ins k pc = some i) (hc : t_isC k = true) : (t_nm k).cls = t_C := by have := f_own h; rw [hc] at this; exact this
theorem pmFieldW (hw : ∀ d ∈ tables_1, d.before a0 Z = true) {k pc j q : Nat} {i : Instr × Nat × Nat} (hi : t_ins k pc = some i) (h : t_fl k j = some q) : ∃ f : String × String × FieldType, t_flds[q]? = some f ∧ (Jvm.Cond.fieldLink (t_nm k).cls j t_C f.1 f.2.1).before a0 Z = true := by
  unfold t_fl at h
  cases hc : t_isC k with
  | false => rw [hc] at h; cases h
  | true =>
    rw [hc] at h
    obtain ⟨n, d, ty, h1, h2⟩ := f_fls _ (pmLk_mem h)
    rw [pmOwnC hi hc]
    exact ⟨(n, d, ty), h1, hw _ h2⟩
theorem pmCallW {k pc j kd k' : Nat} {i : Instr × Nat × Nat} (hi : t_ins k pc = some i) (h : t_mk k j = some (kd, k')) : pmWords (t_nm k).cls j kd k' := by
  unfold t_mk at h
  have ho := f_own hi
  cases hc : t_isC k with
  | false => rw [hc] at h ho; rw [ho]; exact f_mkL _ (pmLk_mem h)
  | true => rw [hc] at h ho; rw [ho]; exact f_mkC _ (pmLk_mem h)
end Sound
section Sound
variable {l : Launch} {Z : State} {a0 : Array Value} {n0 scA : Nat}
theorem pmLook {Ls : List Slot} {Lc : Array Slot} {n : Nat} {v : Value} (hR : pmLR n0 scA Ls Lc) (h : Ls[n]? = some (.val v)) : Lc[n]? = some (.val (cv n0 scA v)) := hR.2 n _ h (by simp)
theorem pmStpI {k pc pc' n : Nat} {Ls : List Slot} {S : List Value} {σ : Mem} {Q : Pst} {nx : List Slot → List Value → Prop} (h : pmStI Ls n S nx) (hnx : ∀ L' R, nx L' R → WM l Z n0 scA k pc' L' R σ Q)
    (st : ∀ (p : Program) (e : Env) (m : MethodId) (below : List Frame) (c : Code) (T : State) (Lc Lc' : Array Slot) (x : Int32) (R : List Value), p.tables.exec = Jvm.exec → At T m c below → c.code = t_bytes k → storeLocals Lc n (.int x) = some Lc' → ∀ target, Steps p.tables e below (T.setTop (mkF m pc' Lc' R)) target → Steps p.tables e below (T.setTop (mkF m pc Lc (.int x :: R))) target) : WM l Z n0 scA k pc Ls S σ Q := by
  unfold pmStI at h
  split at h
  · rename_i x R
    split at h
    · rename_i L' hL
      rw [fcS_eq] at h
      refine pmPure (hnx _ _ h) (pmStl_len hL) fun p e m below c T Lc hx hat hby hR hC => ?_
      obtain ⟨Lc', e1, R1, C1⟩ := pmStore1 hR hC rfl hL
      exact ⟨Lc', R1, C1, st p e m below c T Lc Lc' x _ hx hat hby e1⟩
    · exact h.elim
  · exact h.elim
theorem pmStpR {k pc pc' n : Nat} {Ls : List Slot} {S : List Value} {σ : Mem} {Q : Pst} {nx : List Slot → List Value → Prop} (h : pmStR Ls n S nx) (hnx : ∀ L' R, nx L' R → WM l Z n0 scA k pc' L' R σ Q)
    (st : ∀ (p : Program) (e : Env) (m : MethodId) (below : List Frame) (c : Code) (T : State) (Lc Lc' : Array Slot) (x : Addr) (R : List Value), p.tables.exec = Jvm.exec → At T m c below → c.code = t_bytes k → storeLocals Lc n (.ref x) = some Lc' → ∀ target, Steps p.tables e below (T.setTop (mkF m pc' Lc' R)) target → Steps p.tables e below (T.setTop (mkF m pc Lc (.ref x :: R))) target) : WM l Z n0 scA k pc Ls S σ Q := by
  unfold pmStR at h
  split at h
  · rename_i x R
    split at h
    · rename_i L' hL
      rw [fcS_eq] at h
      refine pmPure (hnx _ _ h) (pmStl_len hL) fun p e m below c T Lc hx hat hby hR hC => ?_
      obtain ⟨Lc', e1, R1, C1⟩ := pmStore1 hR hC rfl hL
      exact ⟨Lc', R1, C1, st p e m below c T Lc Lc' _ _ hx hat hby e1⟩
    · exact h.elim
  · exact h.elim
theorem pmStpL {k pc pc' n : Nat} {Ls : List Slot} {S : List Value} {σ : Mem} {Q : Pst} {nx : List Slot → List Value → Prop} (h : pmStL Ls n S nx) (hnx : ∀ L' R, nx L' R → WM l Z n0 scA k pc' L' R σ Q)
    (st : ∀ (p : Program) (e : Env) (m : MethodId) (below : List Frame) (c : Code) (T : State) (Lc Lc' : Array Slot) (x : Int64) (R : List Value), p.tables.exec = Jvm.exec → At T m c below → c.code = t_bytes k → storeLocals Lc n (.long x) = some Lc' → ∀ target, Steps p.tables e below (T.setTop (mkF m pc' Lc' R)) target → Steps p.tables e below (T.setTop (mkF m pc Lc (.long x :: R))) target) : WM l Z n0 scA k pc Ls S σ Q := by
  unfold pmStL at h
  split at h
  · rename_i x R
    split at h
    · rename_i L' hL
      rw [fcS_eq] at h
      refine pmPure (hnx _ _ h) (pmStlL_len hL) fun p e m below c T Lc hx hat hby hR hC => ?_
      obtain ⟨Lc', e1, R1, C1⟩ := pmStore2 hR hC hL
      exact ⟨Lc', R1, C1, st p e m below c T Lc Lc' x _ hx hat hby e1⟩
    · exact h.elim
  · exact h.elim
theorem pmLdSt {k pc pc' : Nat} {ty : FieldType} {Ls : List Slot} {S : List Value} {σ : Mem} {Q : Pst} {nx : Int32 → List Value → Prop} (h : pmALd ty S σ nx) (hnx : ∀ x R, nx x R → WM l Z n0 scA k pc' Ls (.int x :: R) σ Q)
    (st : ∀ (p : Program) (e : Env) (s : State) (m : MethodId) (args : Array Value) (below : List Frame) (meth : Method) (c : Code) (T : State) (locs : List Loc) (Lc : Array Slot) (a : Addr) (cell : Cell) (j x : Int32) (R : List Value), pmCtx l Z n0 scA k σ p e s m args below meth c T locs → T.heap[a]? = some cell → s.isArrayOf cell ty → cell.vm ≠ .unknown → ¬ (j < 0 ∨ cell.slots.size ≤ j.toNatClampNeg) → cell.slots[j.toNatClampNeg]? = some (.int x) →
      ∀ target, Steps p.tables e below (T.setTop (mkF m pc' Lc (.int x :: R))) target → Steps p.tables e below (T.setTop (mkF m pc Lc (.int j :: .ref a :: R))) target) : WM l Z n0 scA k pc Ls S σ Q := by
  unfold pmALd at h
  split at h
  · rename_i i r R
    split at h
    · rename_i h1 h2
      obtain ⟨hb, hk⟩ := h
      have hty : pmTy r = ty := of_decide_eq_true h2
      refine pmStep (hnx _ _ hk) rfl (fun _ q => q) fun p e s m args below meth c T locs Lc hX hR hC hL => ⟨T, locs, Lc, hX, hR, hC, ?_⟩
      obtain ⟨cl, A, hs, hv⟩ := pmArr hX.2.2.2.2.2.2.2.1 h1
      rw [hty] at A
      exact st p e s m args below meth c T locs Lc _ cl i _ _ hX A.1 (State.isArrayOf_alike hX.2.2.1.alike A.2.1) A.2.2 (pmInb hs hb) (hv i.toInt.toNat (by omega))
    · exact h.elim
  · exact h.elim
theorem pmStSt {k pc pc' : Nat} {ty : FieldType} {Ls : List Slot} {S : List Value} {σ : Mem} {Q : Pst} {nx : Mem → List Value → Prop} (h : pmASt ty S σ nx) (hnx : ∀ σ' R, nx σ' R → WM l Z n0 scA k pc' Ls R σ' Q)
    (st : ∀ (p : Program) (e : Env) (s : State) (m : MethodId) (args : Array Value) (below : List Frame) (meth : Method) (c : Code) (T : State) (locs : List Loc) (Lc : Array Slot) (a : Addr) (cell : Cell) (j x : Int32) (R : List Value), pmCtx l Z n0 scA k σ p e s m args below meth c T locs → Arr Z T.heap a cell ty → ¬ (j < 0 ∨ cell.slots.size ≤ j.toNatClampNeg) →
      ∃ T' h', Stand p l e (t_rm k) s m args below meth c T' (locs ++ [⟨a, j.toNatClampNeg⟩]) (pmBC k σ.1) (pmBS k σ.1) ∧ T'.heap = h' ∧ Wr T.heap h' a j.toNatClampNeg (.int (nar ty x)) ∧ ∀ target, Steps p.tables e below (T'.setTop (mkF m pc' Lc R)) target → Steps p.tables e below (T.setTop (mkF m pc Lc (.int x :: .int j :: .ref a :: R))) target) : WM l Z n0 scA k pc Ls S σ Q := by
  unfold pmASt at h
  split at h
  · rename_i v i r R
    split at h
    · rename_i h1 h2
      obtain ⟨hb, hk⟩ := h
      obtain ⟨a', n', F', A'⟩ := σ
      dsimp only at hk
      have hty : pmTy (r + 2) = ty := of_decide_eq_true h2
      refine pmStep (hnx _ _ hk) rfl (fun _ q => q) fun p e s m args below meth c T locs Lc hX hR hC hL => ?_
      obtain ⟨X, hx, hZ, hby, hml, hown, hret, hRel, hFr, hSz⟩ := id hX
      obtain ⟨cl, A, hs, hv⟩ := pmArr hRel h1
      rw [hty] at A
      obtain ⟨T', h', X', e', W, s'⟩ := st p e s m args below meth c T locs Lc _ cl i v (R.map (cv n0 scA)) hX A (pmInb hs hb)
      subst e'
      exact ⟨T', _, Lc, ⟨X', hx, hZ, hby, hml, hown, hret, pmRel_set hRel (Nat.le_of_ble_eq_true h1) (by omega) W, Fr.snoc X' hFr (show n0 ≤ n0 + (r + 1) by omega), hSz⟩, hR, hC, s'⟩
    · exact h.elim
  · exact h.elim
theorem pmPut_spec {ty : FieldType} {v v' : Value} (h : pmPut ty v = some v') : narrow ty (cv n0 scA v) = cv n0 scA v' ∧ fits ty (cv n0 scA v') = true := by
  unfold pmPut at h
  split at h
  · cases h; exact ⟨rfl, rfl⟩
  · cases h; rename_i x; exact ⟨rfl, fits_nar_bool x⟩
  · cases h; exact ⟨rfl, rfl⟩
  · cases h
set_option maxHeartbeats 4000000 in
theorem pmSound (hw : ∀ d ∈ tables_1, d.before a0 Z = true) {k pc np tg : Nat} {Ls : List Slot} {S : List Value} {σ : Mem} {Q : Pst} {nx : Nat → List Slot → List Value → Mem → Prop} {i : Instr} (hi : t_ins k pc = some (i, np, tg)) (hnx : ∀ pc Ls S σ, nx pc Ls S σ → WM l Z n0 scA k pc Ls S σ Q)
    (h : stp (WM l Z n0 scA) k np tg Ls S σ Q nx i) : WM l Z n0 scA k pc Ls S σ Q := by
  obtain ⟨hd, hok⟩ := f_ins hi
  have hnp : np = pc + pmIL i ∧ (∀ c, i = .bipush c → (Int8.ofInt c).toInt32 = Int32.ofInt c) ∧ (∀ c, i = .sipush c → (Int16.ofInt c).toInt32 = Int32.ofInt c) ∧ (∀ o, (i = .goto o ∨ (∃ cd, i = .ifCond cd o) ∨ ∃ cd, i = .if_icmp cd o) → 0 ≤ (pc : Int) + o ∧ tg = pmTgt pc o) := by
    cases i
    case bipush c => simp only [pmOkI, Bool.and_eq_true, decide_eq_true_eq] at hok; exact ⟨hok.2, fun _ e => (by cases e; exact hok.1), fun _ e => (by cases e), fun _ e => (by rcases e with e | ⟨_, e⟩ | ⟨_, e⟩ <;> cases e)⟩
    case sipush c => simp only [pmOkI, Bool.and_eq_true, decide_eq_true_eq] at hok; exact ⟨hok.2, fun _ e => (by cases e), fun _ e => (by cases e; exact hok.1), fun _ e => (by rcases e with e | ⟨_, e⟩ | ⟨_, e⟩ <;> cases e)⟩
    case goto o => simp only [pmOkI, Bool.and_eq_true, decide_eq_true_eq] at hok; exact ⟨hok.2, fun _ e => (by cases e), fun _ e => (by cases e), fun _ e => (by rcases e with e | ⟨_, e⟩ | ⟨_, e⟩ <;> cases e; exact hok.1)⟩
    case ifCond cd o => simp only [pmOkI, Bool.and_eq_true, decide_eq_true_eq] at hok; exact ⟨hok.2, fun _ e => (by cases e), fun _ e => (by cases e), fun _ e => (by rcases e with e | ⟨_, e⟩ | ⟨_, e⟩ <;> cases e; exact hok.1)⟩
    case if_icmp cd o => simp only [pmOkI, Bool.and_eq_true, decide_eq_true_eq] at hok; exact ⟨hok.2, fun _ e => (by cases e), fun _ e => (by cases e), fun _ e => (by rcases e with e | ⟨_, e⟩ | ⟨_, e⟩ <;> cases e; exact hok.1)⟩
    all_goals exact ⟨of_decide_eq_true hok, fun _ e => (by cases e), fun _ e => (by cases e), fun _ e => (by rcases e with e | ⟨_, e⟩ | ⟨_, e⟩ <;> cases e)⟩
  obtain ⟨rfl, ok1, ok2, ok3⟩ := hnp
  cases i
  case iconst c => exact pmPure0 (hnx _ _ _ _ h) fun p e m below c T Lc hx hat hby _ target kt => XS.iconst hat hx rfl (hb hby hd) kt
  case bipush c =>
    have e1 : (Int8.ofInt c).toInt32 = Int32.ofInt c := ok1 _ rfl
    exact pmPure0 (hnx _ _ _ _ h) fun p e m below c T Lc hx hat hby _ target kt => XS.bipush hat hx rfl (hb hby hd) (by rw [e1]; exact kt)
  case sipush c =>
    have e1 : (Int16.ofInt c).toInt32 = Int32.ofInt c := ok2 _ rfl
    exact pmPure0 (hnx _ _ _ _ h) fun p e m below c T Lc hx hat hby _ target kt => XS.sipush hat hx rfl (hb hby hd) (by rw [e1]; exact kt)
  case lconst c => exact pmPure0 (hnx _ _ _ _ h) fun p e m below c T Lc hx hat hby _ target kt => Jvm.Free.XT.lconst hat hx rfl (hb hby hd) kt
  case ldc j =>
    simp only [stp, pmILdc] at h
    split at h
    · rename_i v hv
      refine pmStep (hnx _ _ _ _ h) rfl (fun _ q => q) fun p e s m args below meth c T locs Lc hX hR hC hL => ⟨T, locs, Lc, hX, hR, hC, fun target kt => ?_⟩
      have hwd : (Jvm.Cond.constant (t_nm k).cls j v).before a0 Z = true := by
        unfold t_ldc at hv
        have ho := f_own hi
        cases hc : t_isC k with
        | true => rw [hc] at hv; cases hv
        | false => rw [hc] at hv ho; rw [ho]; exact hw _ (f_ldcs _ (pmLk_mem hv))
      exact hX.1.ldcInt hX.2.1 hX.2.2.2.2.2.1 (mvT hX.2.2.1 hwd) (g := mkF m pc Lc (S.map (cv n0 scA))) rfl (hb hX.2.2.2.1 hd) _ kt
    · exact h.elim
  case ldc2_w j =>
    simp only [stp, pmILdc2] at h
    split at h
    · rename_i v hv
      refine pmStep (hnx _ _ _ _ h) rfl (fun _ q => q) fun p e s m args below meth c T locs Lc hX hR hC hL => ⟨T, locs, Lc, hX, hR, hC, fun target kt => ?_⟩
      have hwd : (Jvm.Cond.constantLong (t_nm k).cls j v).before a0 Z = true := by
        unfold t_ldc2 at hv
        have ho := f_own hi
        cases hc : t_isC k with
        | true => rw [hc] at hv; cases hv
        | false => rw [hc] at hv ho; rw [ho]; exact hw _ (f_ldc2s _ (pmLk_mem hv))
      exact hX.1.ldc2Long hX.2.1 hX.2.2.2.2.2.1 (mvT hX.2.2.1 hwd) (g := mkF m pc Lc (S.map (cv n0 scA))) rfl (hb hX.2.2.2.1 hd) _ kt
    · exact h.elim
  case iload n =>
    simp only [stp, pmLdI] at h
    split at h
    · rename_i x hx0
      exact pmPure0 (hnx _ _ _ _ h) fun p e m below c T Lc hx hat hby hR target kt => XS.iload hat hx rfl (hb hby hd) (pmLook hR hx0) kt
    · exact h.elim
  case iload_n n =>
    simp only [stp, pmLdI] at h
    split at h
    · rename_i x hx0
      exact pmPure0 (hnx _ _ _ _ h) fun p e m below c T Lc hx hat hby hR target kt => XS.iloadN hat hx rfl (hb hby hd) (pmLook hR hx0) kt
    · exact h.elim
  case lload n =>
    simp only [stp, pmLdL] at h
    split at h
    · rename_i x hx0
      exact pmPure0 (hnx _ _ _ _ h) fun p e m below c T Lc hx hat hby hR target kt => Jvm.Free.XT.lload hat hx rfl (hb hby hd) (pmLook hR hx0) kt
    · exact h.elim
  case lload_n n =>
    simp only [stp, pmLdL] at h
    split at h
    · rename_i x hx0
      exact pmPure0 (hnx _ _ _ _ h) fun p e m below c T Lc hx hat hby hR target kt => Jvm.Free.XT.lloadN hat hx rfl (hb hby hd) (pmLook hR hx0) kt
    · exact h.elim
  case aload n =>
    simp only [stp, pmLdR] at h
    split at h
    · rename_i x hx0
      exact pmPure0 (hnx _ _ _ _ h) fun p e m below c T Lc hx hat hby hR target kt => XS.aload hat hx rfl (hb hby hd) (pmLook hR hx0) rfl kt
    · exact h.elim
  case aload_n n =>
    simp only [stp, pmLdR] at h
    split at h
    · rename_i x hx0
      exact pmPure0 (hnx _ _ _ _ h) fun p e m below c T Lc hx hat hby hR target kt => XS.aloadN hat hx rfl (hb hby hd) (pmLook hR hx0) rfl kt
    · exact h.elim
  case istore n => exact pmStpI h (fun _ _ q => hnx _ _ _ _ q) fun p e m below c T Lc Lc' x R hx hat hby e1 target kt => XS.istore hat hx rfl (hb hby hd) rfl e1 kt
  case istore_n n => exact pmStpI h (fun _ _ q => hnx _ _ _ _ q) fun p e m below c T Lc Lc' x R hx hat hby e1 target kt => XS.istoreN hat hx rfl (hb hby hd) rfl e1 kt
  case lstore n => exact pmStpL h (fun _ _ q => hnx _ _ _ _ q) fun p e m below c T Lc Lc' x R hx hat hby e1 target kt => Jvm.Free.XT.lstore hat hx rfl (hb hby hd) rfl e1 kt
  case lstore_n n => exact pmStpL h (fun _ _ q => hnx _ _ _ _ q) fun p e m below c T Lc Lc' x R hx hat hby e1 target kt => Jvm.Free.XT.lstoreN hat hx rfl (hb hby hd) rfl e1 kt
  case astore n => exact pmStpR h (fun _ _ q => hnx _ _ _ _ q) fun p e m below c T Lc Lc' x R hx hat hby e1 target kt => XS.astore hat hx rfl (hb hby hd) rfl rfl e1 kt
  case astore_n n => exact pmStpR h (fun _ _ q => hnx _ _ _ _ q) fun p e m below c T Lc Lc' x R hx hat hby e1 target kt => XS.astoreN hat hx rfl (hb hby hd) rfl rfl e1 kt
  case iinc n c =>
    simp only [stp, pmLdI] at h
    split at h
    · rename_i x hx0
      have hS : pmStl Ls n (.int (x + Int32.ofInt c)) = some (Ls.set n (.val (.int (x + Int32.ofInt c)))) := by simp only [pmStl, hx0]
      rw [fcS_eq] at h
      refine pmPure (hnx _ _ _ _ h) (by simp) fun p e m below c T Lc hx hat hby hR hC => ?_
      obtain ⟨Lc', e1, R1, C1⟩ := pmStore1 hR hC rfl hS
      exact ⟨Lc', R1, C1, fun target kt => XS.iinc hat hx rfl (hb hby hd) (pmLook hR hx0) e1 kt⟩
    · exact h.elim
  case iadd =>
    simp only [stp, pmInt2] at h
    split at h
    · exact pmPure0 (hnx _ _ _ _ h) fun p e m below c T Lc hx hat hby hR target kt => XS.iadd hat hx rfl (hb hby hd) rfl kt
    · exact h.elim
  case isub =>
    simp only [stp, pmInt2] at h
    split at h
    · exact pmPure0 (hnx _ _ _ _ h) fun p e m below c T Lc hx hat hby hR target kt => XS.isub hat hx rfl (hb hby hd) rfl kt
    · exact h.elim
  case imul =>
    simp only [stp, pmInt2] at h
    split at h
    · exact pmPure0 (hnx _ _ _ _ h) fun p e m below c T Lc hx hat hby hR target kt => XS.imul hat hx rfl (hb hby hd) rfl kt
    · exact h.elim
  case idiv =>
    simp only [stp, pmInt2] at h
    split at h
    · exact pmPure0 (hnx _ _ _ _ h.2) fun p e m below c T Lc hx hat hby hR target kt => XS.idiv hat hx rfl (hb hby hd) rfl h.1 kt
    · exact h.elim
  case irem =>
    simp only [stp, pmInt2] at h
    split at h
    · refine pmStep (hnx _ _ _ _ h.2) rfl (fun _ q => q) fun p e s m args below meth c T locs Lc hX hR hC hL => ⟨T, locs, Lc, hX, hR, hC, fun target kt => ?_⟩
      exact iremM hX.1 hX.2.1 rfl (hb hX.2.2.2.1 hd) rfl h.1 kt
    · exact h.elim
  case iand =>
    simp only [stp, pmInt2] at h
    split at h
    · exact pmPure0 (hnx _ _ _ _ h) fun p e m below c T Lc hx hat hby hR target kt => XS.iand hat hx rfl (hb hby hd) rfl kt
    · exact h.elim
  case ior =>
    simp only [stp, pmInt2] at h
    split at h
    · exact pmPure0 (hnx _ _ _ _ h) fun p e m below c T Lc hx hat hby hR target kt => Jvm.Free.XT.ior hat hx rfl (hb hby hd) rfl kt
    · exact h.elim
  case ixor =>
    simp only [stp, pmInt2] at h
    split at h
    · exact pmPure0 (hnx _ _ _ _ h) fun p e m below c T Lc hx hat hby hR target kt => Jvm.Free.XT.ixor hat hx rfl (hb hby hd) rfl kt
    · exact h.elim
  case ishl =>
    simp only [stp, pmInt2] at h
    split at h
    · exact pmPure0 (hnx _ _ _ _ h) fun p e m below c T Lc hx hat hby hR target kt => Jvm.Free.XT.ishl hat hx rfl (hb hby hd) rfl kt
    · exact h.elim
  case ishr =>
    simp only [stp, pmInt2] at h
    split at h
    · exact pmPure0 (hnx _ _ _ _ h) fun p e m below c T Lc hx hat hby hR target kt => Jvm.Free.XT.ishr hat hx rfl (hb hby hd) rfl kt
    · exact h.elim
  case iushr =>
    simp only [stp, pmInt2] at h
    split at h
    · exact pmPure0 (hnx _ _ _ _ h) fun p e m below c T Lc hx hat hby hR target kt => Jvm.Free.XT.iushr hat hx rfl (hb hby hd) rfl kt
    · exact h.elim
  case land =>
    simp only [stp, pmLng2] at h
    split at h
    · exact pmPure0 (hnx _ _ _ _ h) fun p e m below c T Lc hx hat hby hR target kt => Jvm.Free.XT.land hat hx rfl (hb hby hd) rfl kt
    · exact h.elim
  case lor =>
    simp only [stp, pmLng2] at h
    split at h
    · exact pmPure0 (hnx _ _ _ _ h) fun p e m below c T Lc hx hat hby hR target kt => Jvm.Free.XT.lor hat hx rfl (hb hby hd) rfl kt
    · exact h.elim
  case lxor =>
    simp only [stp, pmLng2] at h
    split at h
    · exact pmPure0 (hnx _ _ _ _ h) fun p e m below c T Lc hx hat hby hR target kt => Jvm.Free.XT.lxor hat hx rfl (hb hby hd) rfl kt
    · exact h.elim
  case lcmp =>
    simp only [stp, pmLng2] at h
    split at h
    · exact pmPure0 (hnx _ _ _ _ h) fun p e m below c T Lc hx hat hby hR target kt => Jvm.Free.XT.lcmp hat hx rfl (hb hby hd) rfl kt
    · exact h.elim
  case lshl =>
    simp only [stp, pmLI] at h
    split at h
    · exact pmPure0 (hnx _ _ _ _ h) fun p e m below c T Lc hx hat hby hR target kt => Jvm.Free.XT.lshl hat hx rfl (hb hby hd) rfl kt
    · exact h.elim
  case lushr =>
    simp only [stp, pmLI] at h
    split at h
    · exact pmPure0 (hnx _ _ _ _ h) fun p e m below c T Lc hx hat hby hR target kt => Jvm.Free.XT.lushr hat hx rfl (hb hby hd) rfl kt
    · exact h.elim
  case i2b =>
    simp only [stp, pmInt] at h
    split at h
    · exact pmPure0 (hnx _ _ _ _ h) fun p e m below c T Lc hx hat hby hR target kt => Jvm.Free.XT.i2b hat hx rfl (hb hby hd) rfl kt
    · exact h.elim
  case i2l =>
    simp only [stp, pmInt] at h
    split at h
    · exact pmPure0 (hnx _ _ _ _ h) fun p e m below c T Lc hx hat hby hR target kt => Jvm.Free.XT.i2l hat hx rfl (hb hby hd) rfl kt
    · exact h.elim
  case l2i =>
    simp only [stp, pmIL2i] at h
    split at h
    · exact pmPure0 (hnx _ _ _ _ h) fun p e m below c T Lc hx hat hby hR target kt => Jvm.Free.XT.l2i hat hx rfl (hb hby hd) rfl kt
    · exact h.elim
  case pop =>
    simp only [stp, pmIPop] at h
    split at h
    · exact pmPure0 (hnx _ _ _ _ h) fun p e m below c T Lc hx hat hby hR target kt => Jvm.Free.XT.pop hat hx rfl (hb hby hd) rfl rfl kt
    · exact pmPure0 (hnx _ _ _ _ h) fun p e m below c T Lc hx hat hby hR target kt => Jvm.Free.XT.pop hat hx rfl (hb hby hd) rfl rfl kt
    · exact h.elim
  case dup =>
    simp only [stp, pmIDup] at h
    split at h
    · exact pmPure0 (hnx _ _ _ _ h) fun p e m below c T Lc hx hat hby hR target kt => XS.dup hat hx rfl (hb hby hd) rfl rfl kt
    · exact pmPure0 (hnx _ _ _ _ h) fun p e m below c T Lc hx hat hby hR target kt => XS.dup hat hx rfl (hb hby hd) rfl rfl kt
    · exact h.elim
  case goto o =>
    obtain ⟨e1, rfl⟩ := ok3 o (Or.inl rfl)
    exact pmPure0 (hnx _ _ _ _ h) fun p e m below c T Lc hx hat hby hR target kt => XS.goto hat hx rfl (pc0 := pc) (pc' := pmTgt pc o) rfl (hb hby hd) e1 rfl kt
  case ifCond cd o =>
    obtain ⟨e1, rfl⟩ := ok3 o (Or.inr (Or.inl ⟨_, rfl⟩))
    simp only [stp, pmInt] at h
    split at h
    · refine pmBranch h (fun q => hnx _ _ _ _ q) (fun q => hnx _ _ _ _ q) ?_ ?_
      · intro p e m below c T Lc hx hat hby hc target kt
        exact XS.ifYes hat hx rfl (pc0 := pc) (pc' := pmTgt pc o) rfl (hb hby hd) rfl ((if0 _ _).trans hc) e1 rfl kt
      · intro p e m below c T Lc hx hat hby hc target kt
        exact XS.ifNo hat hx rfl (hb hby hd) rfl ((if0 _ _).trans hc) kt
    · exact h.elim
  case if_icmp cd o =>
    obtain ⟨e1, rfl⟩ := ok3 o (Or.inr (Or.inr ⟨_, rfl⟩))
    simp only [stp, pmInt2] at h
    split at h
    · refine pmBranch h (fun q => hnx _ _ _ _ q) (fun q => hnx _ _ _ _ q) ?_ ?_
      · intro p e m below c T Lc hx hat hby hc target kt
        exact XS.icmpYes hat hx rfl (pc0 := pc) (pc' := pmTgt pc o) rfl (hb hby hd) rfl hc e1 rfl kt
      · intro p e m below c T Lc hx hat hby hc target kt
        exact XS.icmpNo hat hx rfl (hb hby hd) rfl hc kt
    · exact h.elim
  case arraylength =>
    simp only [stp, pmILen] at h
    split at h
    · rename_i r R
      split at h
      · rename_i ht
        refine pmStep (hnx _ _ _ _ h) rfl (fun _ q => q) fun p e s m args below meth c T locs Lc hX hR hC hL => ⟨T, locs, Lc, hX, hR, hC, fun target kt => ?_⟩
        obtain ⟨cl, A, hs, hv⟩ := pmArr hX.2.2.2.2.2.2.2.1 ht
        refine hX.1.arraylength hX.2.1 A.1 (State.isArrayOf_alike hX.2.2.1.alike A.2.1) (g := mkF m pc Lc _) rfl rfl (hb hX.2.2.2.1 hd) _ ?_
        rw [hs]; exact kt
      · exact h.elim
    · exact h.elim
  case iaload =>
    refine pmLdSt (nx := fun x R => nx (pc + 1) Ls (.int x :: R) σ) h (fun _ _ q => hnx _ _ _ _ q) ?_
    intro p e s m args below meth c T locs Lc a cell j x R hX hc ha hk hj hv target kt
    exact hX.1.iaload hX.2.1 hc ha hk hj hv (g := mkF m pc Lc _) rfl rfl (hb hX.2.2.2.1 hd) _ kt
  case baload =>
    simp only [stp, pmIBal] at h
    split at h
    · refine pmLdSt (nx := fun x R => nx (pc + 1) Ls (.int x :: R) σ) h (fun _ _ q => hnx _ _ _ _ q) ?_
      intro p e s m args below meth c T locs Lc a cell j x R hX hc ha hk hj hv target kt
      exact hX.1.baloadBytes hX.2.1 hc ha hk hj hv (g := mkF m pc Lc _) rfl rfl (hb hX.2.2.2.1 hd) _ kt
    · refine pmLdSt (nx := fun x R => nx (pc + 1) Ls (.int x :: R) σ) h (fun _ _ q => hnx _ _ _ _ q) ?_
      intro p e s m args below meth c T locs Lc a cell j x R hX hc ha hk hj hv target kt
      exact hX.1.baloadBooleans hX.2.1 hc ha hk hj hv (g := mkF m pc Lc _) rfl rfl (hb hX.2.2.2.1 hd) _ kt
    · exact h.elim
  case iastore =>
    refine pmStSt (nx := fun σ' R => nx (pc + 1) Ls R σ') h (fun _ _ q => hnx _ _ _ _ q) ?_
    intro p e s m args below meth c T locs Lc a cell j x R hX A hj
    exact Jvm.RoadKit.stI hX.1 hX.2.1 hX.2.2.1 rfl A hj (g := mkF m pc Lc _) rfl rfl (hb hX.2.2.2.1 hd)
  case bastore =>
    simp only [stp, pmIBas] at h
    split at h
    · refine pmStSt (nx := fun σ' R => nx (pc + 1) Ls R σ') h (fun _ _ q => hnx _ _ _ _ q) ?_
      intro p e s m args below meth c T locs Lc a cell j x R hX A hj
      exact stB hX.1 hX.2.1 hX.2.2.1 rfl A hj (g := mkF m pc Lc _) rfl rfl (hb hX.2.2.2.1 hd)
    · refine pmStSt (nx := fun σ' R => nx (pc + 1) Ls R σ') h (fun _ _ q => hnx _ _ _ _ q) ?_
      intro p e s m args below meth c T locs Lc a cell j x R hX A hj
      exact stZ hX.1 hX.2.1 hX.2.2.1 rfl A hj (g := mkF m pc Lc _) rfl rfl (hb hX.2.2.2.1 hd)
    · exact h.elim
  case getfield j =>
    simp only [stp, pmIGet] at h
    split at h
    · rename_i R q hq h1
      split at h
      · rename_i v hv
        refine pmStep (hnx _ _ _ _ h) rfl (fun _ q => q) fun p e s m args below meth c T locs Lc hX hR hC hL => ?_
        obtain ⟨X, hx, hZ, hby, hml, hown, hret, hRel, hFr, hSz⟩ := id hX
        obtain ⟨f, hf, wf⟩ := pmFieldW hw hi hq
        have Fq := (hRel.2.2.2.1 (Nat.le_of_ble_eq_true h1)).2.2 q f v hf hv
        obtain ⟨T', X', e', s'⟩ := getF X hx hZ hown (host := "") (Or.inl wf) Via.refl rfl Fq (g := mkF m pc Lc (.ref n0 :: R.map (cv n0 scA))) rfl rfl (hb hby hd)
        exact ⟨T', locs, Lc, ⟨X', hx, hZ, hby, hml, hown, hret, by rw [e']; exact hRel, hFr, hSz⟩, hR, hC, s'⟩
      · exact h.elim
    · exact h.elim
  case putfield j =>
    simp only [stp, pmIPut] at h
    split at h
    · rename_i v R q hq h1
      split at h
      · rename_i f hf
        split at h
        · rename_i v' hv'
          obtain ⟨a, n, F, A⟩ := σ
          dsimp only at h
          rw [fcV_eq] at h
          refine pmStep (hnx _ _ _ _ h) rfl (fun _ q => q) fun p e s m args below meth c T locs Lc hX hR hC hL => ?_
          obtain ⟨X, hx, hZ, hby, hml, hown, hret, hRel, hFr, hSz⟩ := id hX
          obtain ⟨f', hf', wf⟩ := pmFieldW hw hi hq
          cases hf.symm.trans hf'
          have h1' := Nat.le_of_ble_eq_true h1
          obtain ⟨E, hl0, F0⟩ := hRel.2.2.2.1 h1'
          have hql : q < F.length := by have hl1 : F.length = t_flds.length := hl0; rw [hl1]; exact (List.getElem?_eq_some_iff.mp hf).1
          have Fq := F0 q f _ hf (List.getElem?_eq_getElem hql)
          have hnar := pmPut_spec (n0 := n0) (scA := scA) hv'
          obtain ⟨T', h', X', e', W, s'⟩ := putFN X hx hZ hown wf Via.refl rfl Fq E (Or.inl (pmLaid hw hf).1) (hw _ f_inst) (ty := f.2.2) (v' := cv n0 scA v') (pmLaid hw hf).2 hnar.1 hnar.2 (g := mkF m pc Lc (cv n0 scA v :: .ref n0 :: R.map (cv n0 scA))) rfl rfl (hb hby hd)
          subst e'
          exact ⟨T', _, Lc, ⟨X', hx, hZ, hby, hml, hown, hret, pmRel_put hw hRel h1' hf W, Fr.snoc X' hFr (Nat.le_refl _), hSz⟩, hR, hC, s'⟩
        · exact h.elim
      · exact h.elim
    · exact h.elim
  case new j =>
    simp only [stp, pmINew] at h
    split at h
    · rename_i n F A hn hm
      obtain ⟨⟨b1, b2⟩, h⟩ := h
      rw [fcV_eq] at h
      refine pmStep (hnx _ _ _ _ h) rfl (fun a q => ⟨fun z => by omega, fun z => by omega⟩) fun p e s m args below meth c T locs Lc hX hR hC hL => ?_
      obtain ⟨X, hx, hZ, hby, hml, hown, hret, hRel, hFr, hSz⟩ := id hX
      have z1 : pmBC k 0 = 0 := by simp [pmBC, hm]
      have z2 : pmBS k 0 = 0 := by simp [pmBS, hm, pmSS]
      have z3 : pmBC k 1 = 0 + 1 := by simp [pmBC, hm]
      have z4 : pmBS k 1 = 0 + t_ns := by simp [pmBS, hm, pmSS]
      have X0 : Stand p l e (t_rm k) s m args below meth c T locs 0 0 := by have := X; simp only [z1, z2] at this; exact this
      obtain ⟨T', h', X', e', E, A1, D, -, s'⟩ := newO X0 hx hZ hown (hw _ (f_new hn)) (hw _ f_inst) (hw _ f_init) rfl (g := mkF m pc Lc (S.map (cv n0 scA))) rfl (hb hby hd) (by omega) (by omega)
      have hsz : h'.size = T.heap.size + 1 := by
        have q1 : T.heap.size < h'.size := A1.lt
        have q2 := X'.heapSize
        rw [e'] at q2
        have q3 : T.heap.size = n0 + 0 := hRel.1
        have q4 : s.heap.size + pmBC k 0 = n0 + 0 := hSz
        rw [z1] at q4
        omega
      subst e'
      have r1' : T.heap.size = n0 := hRel.1
      refine ⟨T', locs, Lc, ⟨by simp only [z3, z4]; exact X', hx, hZ, hby, hml, hown, hret, pmRel_new hw hRel E hsz A1 D, hFr, by have q4 : s.heap.size + pmBC k 0 = n0 + 0 := hSz; rw [z1] at q4; simp only [z3]; omega⟩, hR, hC, ?_⟩
      intro target kt
      refine s' target ?_
      rw [r1']
      exact kt
    · exact h.elim
  case newarray aty =>
    simp only [stp, pmINewA] at h
    split at h
    · rename_i n R a n' F A
      split at h
      · rename_i q hq
        obtain ⟨⟨b1, b2, b3, b4, b5, b6⟩, h⟩ := h
        have md : t_mode k = 1 ∨ t_mode k = 2 := by
          rcases f_mode (k := k) with z | z | z
          · exact absurd z b4
          · exact Or.inl z
          · exact Or.inr z.1
        have hss : pmSS (a + 2) = pmSS (a + 1) + q.2 := by
          have hl := (List.getElem?_eq_some_iff.mp hq)
          show t_ns + ((t_arrs.take (a + 1)).map (·.2)).sum = t_ns + ((t_arrs.take a).map (·.2)).sum + q.2
          rw [List.take_succ_eq_append_getElem hl.1, hl.2]
          simp; omega
        have hs1 : pmSS 1 ≤ pmSS (a + 1) := by
          show t_ns + ((t_arrs.take 0).map (·.2)).sum ≤ t_ns + ((t_arrs.take a).map (·.2)).sum
          simp
        have z3 : pmBC k (a + 2) = pmBC k (a + 1) + 1 := by
          rcases md with z | z
          · simp only [pmBC, z]; omega
          · simp only [pmBC, z]
        have z4 : pmBS k (a + 2) = pmBS k (a + 1) + q.2 := by
          rcases md with z | z
          · simp only [pmBS, z]; omega
          · simp only [pmBS, z]; exact hss
        have hro : ∀ b, pmROk k (a + 2) b → pmROk k (a + 1) b := fun b hb => ⟨fun z => absurd z b4, hb.2⟩
        refine pmStep (hnx _ _ _ _ h) rfl hro fun p e s m args below meth c T locs Lc hX hR hC hL => ?_
        obtain ⟨X, hx, hZ, hby, hml, hown, hret, hRel, hFr, hSz⟩ := id hX
        have hq' := f_arrs q (List.mem_of_getElem? hq)
        have ntoi : n.toInt = (q.2 : Int) := by rw [b1]; exact Int32.toInt_ofNat_of_lt (by omega)
        have hn0 : ¬ n < 0 := by
          rw [Int32.lt_iff_toInt_lt, ntoi]
          have e0 : (0 : Int32).toInt = 0 := rfl
          rw [e0]; omega
        have hcl : n.toNatClampNeg = q.2 := by rw [clampNeg, ntoi]; simp
        obtain ⟨T', h', cA, X', e', E, A1, s'⟩ := newP X hx hZ (aty := aty) (by rw [b2]; exact hw _ hq'.1) rfl (g := mkF m pc Lc (.int n :: R.map (cv n0 scA))) rfl (hb hby hd) rfl hn0 (cap := q.2) (Nat.le_of_eq hcl) (by omega) b5 b6
        have hsz : h'.size = T.heap.size + 1 := by
          have q1 : T.heap.size < h'.size := A1.lt
          have q2 := X'.heapSize
          rw [e'] at q2
          have q3 : T.heap.size = n0 + (a + 1) := hRel.1
          have q4 : s.heap.size + pmBC k (a + 1) = n0 + (a + 1) := hSz
          have q5 : pmBC k ((a + 1, n', F, A) : Mem).1 = pmBC k (a + 1) := rfl
          rw [q5] at q2
          omega
        subst e'
        rw [b2] at A1
        have r1' : T.heap.size = n0 + (a + 1) := hRel.1
        have hdv : defaultValue q.1 = .int 0 := by
          rcases hq'.2.1 with z | z | z <;> rw [z] <;> rfl
        refine ⟨T', locs, Lc, ⟨by show Stand p l e (t_rm k) s m args below meth c T' locs (pmBC k (a + 2)) (pmBS k (a + 2)); rw [z3, z4]; exact X', hx, hZ, hby, hml, hown, hret, pmRel_arr hRel E hsz hq b1 b3 hdv A1, hFr, ?_⟩, hR, hC, ?_⟩
        · have q4 : s.heap.size + pmBC k (a + 1) = n0 + (a + 1) := hSz
          show s.heap.size + pmBC k (a + 2) = n0 + (a + 2)
          rw [z3]; omega
        · intro target kt
          refine s' target ?_
          rw [r1']
          exact kt
      · exact h.elim
    · exact h.elim
  case invokestatic j =>
    simp only [stp, pmISta] at h
    split at h
    · rename_i k' hmk
      split at h
      · rename_i as R hpop
        have W := pmCallW hi hmk
        obtain ⟨wl, wc, wi, hpl, hne, ⟨ps, r, hp, hn⟩, ws⟩ := W
        obtain ⟨p1, p2⟩ := pmPop_spec hpop
        have hS : S = as.reverse ++ R := by simpa using p1.symm
        refine pmCallS hw hpop hpl wc wi (pmCallMono h fun v σ' q => hnx _ _ _ _ q) ?_
        intro p e s m args below meth c T locs Lc Pre Post hX hsz bk hpre
        obtain ⟨X, hx, hZ, hby, hml, hown, hret, hRel, hFr, hSz⟩ := id hX
        exact Jvm.LawKit.callS X hx (y := t_nm k') hown (mvT hZ (hw _ wl)) (mvT hZ (hw _ ws)) (mvT hZ (hw _ wi)) (mvT hZ (hw _ wc)) hne bk (g := mkF m pc Lc (S.map (cv n0 scA))) rfl hsz (argsL := as.map (cv n0 scA)) (rest := R.map (cv n0 scA)) (lenOf hp (by simp at p2 hn ⊢; omega)) (by rw [hS]; simp) (by show 2 * 0 + _ ≤ _; rw [pmWt_sum]; omega) (hb hby hd) hpre
      · exact h.elim
    · exact h.elim
  case invokevirtual j =>
    simp only [stp, pmIVir] at h
    split at h
    · rename_i k' hmk h1
      split at h
      · rename_i as R hpop
        have W := pmCallW hi hmk
        obtain ⟨wl, wc, wi, hpl, hne, ⟨ps, r, hp, hn⟩, wd, wsel, winst⟩ := W
        obtain ⟨p1, p2⟩ := pmPop_spec hpop
        have hS : S = (.ref 1 :: as).reverse ++ R := by simpa using p1.symm
        refine pmCallS hw hpop hpl wc wi (pmCallMono h fun v σ' q => hnx _ _ _ _ q) ?_
        intro p e s m args below meth c T locs Lc Pre Post hX hsz bk hpre
        obtain ⟨X, hx, hZ, hby, hml, hown, hret, hRel, hFr, hSz⟩ := id hX
        obtain ⟨E, -, -⟩ := hRel.2.2.2.1 (Nat.le_of_ble_eq_true h1)
        obtain ⟨cB, kB, qa, qb, qc⟩ := isOf hZ rfl E
        obtain ⟨v, vm₁, B, w1, w2, w3, w4⟩ := X.virtualBack hx (y := t_nm k') (z := t_nm k') hown (mvT hZ (hw _ wl)) (mvT hZ (hw _ wd)) (notFace_of_selects (args := #[]) (mvT hZ (hw _ wsel))) (mvT hZ (hw _ wsel)) (mvT hZ (hw _ winst)) hne bk qa qc (g := mkF m pc Lc (S.map (cv n0 scA))) rfl hsz (Steps.refl _) (argsL := as.map (cv n0 scA)) (rest := R.map (cv n0 scA)) (lenOf hp (by simp at p2 hn ⊢; omega)) (by rw [hS]; simp [cv, pmRho]) (by show 2 * 0 + _ ≤ _; rw [pmWt_sum]; omega) (hb hby hd) hpre
        exact ⟨v, vm₁, B, w1, w2, w3, fun target q => w4.trans q⟩
      · exact h.elim
    · rename_i k' hmk h1
      split at h
      · rename_i as R hpop
        have W := pmCallW hi hmk
        obtain ⟨wl, wc, wi, hpl, hne, ⟨ps, r, hp, hn⟩, winst, wpriv, wcls⟩ := W
        obtain ⟨p1, p2⟩ := pmPop_spec hpop
        have hS : S = (.ref 1 :: as).reverse ++ R := by simpa using p1.symm
        refine pmCallS hw hpop hpl wc wi (pmCallMono h fun v σ' q => hnx _ _ _ _ q) ?_
        intro p e s m args below meth c T locs Lc Pre Post hX hsz bk hpre
        obtain ⟨X, hx, hZ, hby, hml, hown, hret, hRel, hFr, hSz⟩ := id hX
        obtain ⟨E, -, -⟩ := hRel.2.2.2.1 (Nat.le_of_ble_eq_true h1)
        obtain ⟨cq, q1, q2⟩ := E.cell
        exact privBack X hx (kk := t_ns) (y := t_nm k') hown (mvT hZ (hw _ wl)) (mvT hZ (hw _ winst)) (by rw [wcls]; exact mvT hZ (hw _ f_inst)) (Cond.privateMethod_at (mvP hZ (hw _ wpriv) (args := #[]))) (mvT hZ (hw _ wc)) hne bk (g := mkF m pc Lc (S.map (cv n0 scA))) rfl hsz q1 q2 (argsL := as.map (cv n0 scA)) (rest := R.map (cv n0 scA)) (lenOf hp (by simp at p2 hn ⊢; omega)) (by rw [hS]; simp [cv, pmRho]) (by show 2 * 0 + _ ≤ _; rw [pmWt_sum]; omega) (hb hby hd) hpre
      · exact h.elim
    · exact h.elim
  case invokespecial j =>
    simp only [stp, pmISpe] at h
    split at h
    · rename_i k' hmk h1
      split at h
      · rename_i as R hpop
        have W := pmCallW hi hmk
        obtain ⟨wl, wc, wi, hpl, hne, ⟨ps, r, hp, hn⟩, winst, wnm, wrt⟩ := W
        obtain ⟨p1, p2⟩ := pmPop_spec hpop
        have hS : S = (.ref 1 :: as).reverse ++ R := by simpa using p1.symm
        refine pmCallS hw hpop hpl wc wi (pmCallMono h fun v σ' q => hnx _ _ _ _ q) ?_
        intro p e s m args below meth c T locs Lc Pre Post hX hsz bk hpre
        obtain ⟨X, hx, hZ, hby, hml, hown, hret, hRel, hFr, hSz⟩ := id hX
        rw [wrt] at wc
        obtain ⟨v, vm₁, B, w1, w2, w3, w4⟩ := X.specialBack hx (y := t_nm k') wnm hown (mvT hZ (hw _ wl)) (mvT hZ (hw _ winst)) (mvT hZ (hw _ wc)) hne bk (g := mkF m pc Lc (S.map (cv n0 scA))) rfl hsz (Steps.refl _) (a := n0) (argsL := as.map (cv n0 scA)) (rest := R.map (cv n0 scA)) (lenOf hp (by simp at p2 hn ⊢; omega)) (by rw [hS]; simp [cv, pmRho]) (by show 2 * 0 + _ ≤ _; rw [pmWt_sum]; omega) (hb hby hd) hpre
        exact ⟨v, vm₁, B, w1, w2, w3, fun target q => w4.trans q⟩
      · exact h.elim
    · rename_i k' hmk h1
      split at h
      · rename_i R
        have W := pmCallW hi hmk
        obtain ⟨w1, w2, w3⟩ := W
        obtain ⟨⟨b1, b2⟩, h⟩ := h
        refine pmStep (hnx _ _ _ _ h) rfl (fun _ q => q) fun p e s m args below meth c T locs Lc hX hR hC hL => ?_
        obtain ⟨X, hx, hZ, hby, hml, hown, hret, hRel, hFr, hSz⟩ := id hX
        obtain ⟨T', X', e', s'⟩ := initO X hx hZ hown (hw _ w1) (hw _ w2) (hw _ w3) rfl (g := mkF m pc Lc (.ref n0 :: R.map (cv n0 scA))) rfl (by show Lc.size = c.maxLocals; rw [hR.1, hL, hml]) rfl (hb hby hd) b1 (W := pmWt R) (by show 2 * 0 + _ ≤ _; rw [pmWt_sum]; omega) b2
        exact ⟨T', locs, Lc, ⟨X', hx, hZ, hby, hml, hown, hret, by rw [e']; exact hRel, hFr, hSz⟩, hR, hC, s'⟩
      · exact h.elim
    · exact h.elim
  case ireturn =>
    have ro : pmRet k σ.1 = true → pmROk k σ.1 σ.1 := fun q => ⟨fun _ => rfl, fun z => by simp only [pmRet, z] at q; exact Nat.eq_of_beq_eq_true q⟩
    simp only [stp, pmIRet] at h
    split at h
    · rename_i hrt hre
      simp only [pmInt] at h
      split at h
      · rename_i x R
        intro p e s m args below meth c T locs Lc hX hR hC hL
        refine ⟨_, σ, T, locs, hX, h, ro hre, fun z => (by rw [hrt] at z; cases z), fun fs hr => ?_⟩
        exact retI hX.1 hX.2.1 (hX.2.2.2.2.2.2.1.trans hrt) (hb hX.2.2.2.1 hd) hr
      · exact h.elim
    · rename_i hrt hre
      simp only [pmInt] at h
      split at h
      · rename_i x R
        intro p e s m args below meth c T locs Lc hX hR hC hL
        refine ⟨_, σ, T, locs, hX, h, ro hre, fun z => (by rw [hrt] at z; cases z), fun fs hr => ?_⟩
        exact retN hX.1 hX.2.1 (t := .boolean) (hX.2.2.2.2.2.2.1.trans hrt) (Or.inl rfl) (hb hX.2.2.2.1 hd) hr
      · exact h.elim
    · exact h.elim
  case lreturn =>
    have ro : pmRet k σ.1 = true → pmROk k σ.1 σ.1 := fun q => ⟨fun _ => rfl, fun z => by simp only [pmRet, z] at q; exact Nat.eq_of_beq_eq_true q⟩
    simp only [stp, pmIRtL] at h
    split at h
    · rename_i x R hrt hre
      intro p e s m args below meth c T locs Lc hX hR hC hL
      refine ⟨_, σ, T, locs, hX, h, ro hre, fun z => (by rw [hrt] at z; cases z), fun fs hr => ?_⟩
      exact retL hX.1 hX.2.1 (hX.2.2.2.2.2.2.1.trans hrt) (hb hX.2.2.2.1 hd) hr
    · exact h.elim
  case return_ =>
    have ro : pmRet k σ.1 = true → pmROk k σ.1 σ.1 := fun q => ⟨fun _ => rfl, fun z => by simp only [pmRet, z] at q; exact Nat.eq_of_beq_eq_true q⟩
    simp only [stp, pmIRtV] at h
    split at h
    · rename_i hrt hre
      intro p e s m args below meth c T locs Lc hX hR hC hL
      refine ⟨_, σ, T, locs, hX, h, ro hre, fun z => rfl, fun fs hr => ?_⟩
      exact retV hX.1 hX.2.1 (hX.2.2.2.2.2.2.1.trans hrt) (hb hX.2.2.2.1 hd) hr
    · exact h.elim
  all_goals exact False.elim h
theorem pmClosed (hw : ∀ d ∈ tables_1, d.before a0 Z = true) (cut : List Nat) (n : Nat) : ∀ (k pc : Nat) (Ls : List Slot) (S : List Value) (σ : Mem) (Q : Pst), wp (WM l Z n0 scA) cut n k pc Ls S σ Q → WM l Z n0 scA k pc Ls S σ Q := by
  induction n with
  | zero => intro k pc Ls S σ Q h; exact h.elim
  | succ n ih =>
    intro k pc Ls S σ Q h
    simp only [wp] at h
    split at h
    · exact h.elim
    · rename_i i hi
      refine pmSound hw hi ?_ h
      intro pc' Ls' S' σ' h'
      split at h'
      · exact h'
      · exact ih _ _ _ _ _ _ h'
theorem pmForget {k pc : Nat} {Ls Ls' : List Slot} {S : List Value} {σ : Mem} {Q : Pst} (hle : pmLe Ls' Ls) (h : WM l Z n0 scA k pc Ls' S σ Q) : WM l Z n0 scA k pc Ls S σ Q := by
  have key : ∀ (A B : List Slot), pmLe A B → A.length = B.length ∧ ∀ (i : Nat) (x : Slot), A[i]? = some x → x ≠ .unset → B[i]? = some x := by
    intro A
    induction A with
    | nil => intro B h; cases B with
      | nil => exact ⟨rfl, fun i x h => by simp at h⟩
      | cons _ _ => exact h.elim
    | cons a A ih => intro B h; cases B with
      | nil => exact h.elim
      | cons b B =>
        obtain ⟨h1, h2⟩ := ih B h.2
        refine ⟨by simp [h1], fun i x hx hne => ?_⟩
        cases i with
        | zero =>
          have : a = x := by simpa using hx
          subst this
          rcases h.1 with e | e
          · exact absurd e hne
          · simp [e]
        | succ i => simpa using h2 i x (by simpa using hx) hne
  obtain ⟨h1, h2⟩ := key _ _ hle
  exact pmStep h h1 (fun _ q => q) fun p e s m args below meth c T locs Lc hX hR hC hL => ⟨T, locs, Lc, hX, ⟨by rw [hR.1, h1], fun i x hx hne => hR.2 i x (h2 i x hx hne) hne⟩, hC, fun _ q => q⟩
end Sound
/-! ## MinVersionSelect in the pure machine -/
def Clo (W : WPr) : Prop := ∀ (cut : List Nat) (n k pc : Nat) (Ls : List Slot) (S : List Value) (σ : Mem) (Q : Pst), wp W cut n k pc Ls S σ Q → W k pc Ls S σ Q
def Fgt (W : WPr) : Prop := ∀ (k pc : Nat) (Ls Ls' : List Slot) (S : List Value) (σ : Mem) (Q : Pst), pmLe Ls' Ls → W k pc Ls' S σ Q → W k pc Ls S σ Q
def mst (n : Nat) (I : Nat → Int32) (A : Nat → Nat → Int32) : Mem :=
  (14, n, [.int (I 0), .int (I 1), .int (I 2), .int (I 3), .int (I 4), .ref 2, .ref 3, .ref 4, .ref 5, .ref 6, .ref 7, .ref 8, .ref 9, .ref 10, .ref 11, .ref 12, .ref 13, .ref 14], A)
def fSt (I : Nat → Int32) (j : Nat) (v : Int32) : Nat → Int32 := fun i => if i = j then v else I i
theorem pmSet_eq (A : Nat → Nat → Int32) (r i : Nat) (v : Int32) : pmSet A r i v r i = v := by simp [pmSet]
theorem pmSet_ne (A : Nat → Nat → Int32) (r : Nat) (v : Int32) {i j : Nat} (h : ¬ j = i) : pmSet A r i v r j = A r j := by simp only [pmSet, if_true, if_neg h]
theorem pmSet_r (A : Nat → Nat → Int32) (i : Nat) (v : Int32) {r r' : Nat} (h : ¬ r' = r) : pmSet A r i v r' = A r' := by funext j; simp only [pmSet, if_neg h]
abbrev i32 (n : Nat) : Int32 := Int32.ofNat n
theorem i32_toInt {n : Nat} (h : n < 2147483648) : (i32 n).toInt = (n : Int) := Int32.toInt_ofNat_of_lt h
theorem i32_succ (n : Nat) : i32 n + Int32.ofInt 1 = i32 (n + 1) := by
  show Int32.ofNat n + 1 = Int32.ofNat (n + 1)
  rw [Int32.ofNat_add]; rfl
theorem i32_of {x : Int32} (h : 0 ≤ x.toInt) : x = i32 x.toInt.toNat := by
  apply Int32.toInt_inj.mp
  have := Int32.toInt_lt x
  rw [i32_toInt (by omega)]; omega
theorem n10 : ¬ (1 : Int32) = 0 := by decide
theorem tI_add {x y : Int32} (h1 : -2147483648 ≤ x.toInt + y.toInt) (h2 : x.toInt + y.toInt < 2147483648) : (x + y).toInt = x.toInt + y.toInt := by
  rw [Int32.toInt_add]; exact Int.bmod_eq_of_le (by omega) (by omega)
theorem tI_sub {x y : Int32} (h1 : -2147483648 ≤ x.toInt - y.toInt) (h2 : x.toInt - y.toInt < 2147483648) : (x - y).toInt = x.toInt - y.toInt := by
  rw [Int32.toInt_sub]; exact Int.bmod_eq_of_le (by omega) (by omega)
theorem tI_mul {x y : Int32} (h1 : -2147483648 ≤ x.toInt * y.toInt) (h2 : x.toInt * y.toInt < 2147483648) : (x * y).toInt = x.toInt * y.toInt := by
  rw [Int32.toInt_mul]; exact Int.bmod_eq_of_le (by omega) (by omega)
theorem tI0 : (0 : Int32).toInt = 0 := rfl
theorem tI1 : (1 : Int32).toInt = 1 := rfl
theorem oI0 : (Int32.ofInt 0).toInt = 0 := by decide
theorem oI1 : (Int32.ofInt 1).toInt = 1 := by decide
theorem oI9 : (Int32.ofInt 9).toInt = 9 := by decide
theorem oI81 : (Int32.ofInt 81).toInt = 81 := by decide
theorem tI_9k {x y : Int32} (h0 : 0 ≤ x.toInt) (h1 : x.toInt < 9) (h2 : 0 ≤ y.toInt) (h3 : y.toInt < 9) : (x * Int32.ofInt 9 + y).toInt = 9 * x.toInt + y.toInt := by
  have m : (x * Int32.ofInt 9).toInt = 9 * x.toInt := by rw [tI_mul (by rw [oI9]; omega) (by rw [oI9]; omega), oI9]; omega
  rw [tI_add (by rw [m]; omega) (by rw [m]; omega), m]
theorem tI_9kk {x y z : Int32} (h0 : 0 ≤ x.toInt) (h1 : x.toInt < 9) (h2 : 0 ≤ y.toInt) (h3 : y.toInt < 9) (h4 : 0 ≤ z.toInt) (h5 : z.toInt < 9) : ((x * Int32.ofInt 9 + y) * Int32.ofInt 9 + z).toInt = 81 * x.toInt + 9 * y.toInt + z.toInt := by
  have a := tI_9k h0 h1 h2 h3
  have m : ((x * Int32.ofInt 9 + y) * Int32.ofInt 9).toInt = 81 * x.toInt + 9 * y.toInt := by rw [tI_mul (by rw [a, oI9]; omega) (by rw [a, oI9]; omega), a, oI9]; omega
  rw [tI_add (by rw [m]; omega) (by rw [m]; omega), m]
variable {W : WPr}
theorem oI2 : (Int32.ofInt 2).toInt = 2 := by decide
theorem oI8 : (Int32.ofInt 8).toInt = 8 := by decide
def clM (v : Int32) : Int32 := if v.toInt < (Int32.ofInt 2).toInt then Int32.ofInt 2 else if (Int32.ofInt 8).toInt < v.toInt then Int32.ofInt 8 else v
def clV (v : Int32) : Int32 := if v.toInt < (Int32.ofInt 1).toInt then Int32.ofInt 1 else if (Int32.ofInt 8).toInt < v.toInt then Int32.ofInt 8 else v
theorem clM_rng (v : Int32) : 2 ≤ (clM v).toInt ∧ (clM v).toInt ≤ 8 := by
  have := oI2; have := oI8
  unfold clM; split
  · decide
  · split
    · decide
    · omega
theorem clV_rng (v : Int32) : 1 ≤ (clV v).toInt ∧ (clV v).toInt ≤ 8 := by
  have := oI1; have := oI8
  unfold clV; split
  · decide
  · split
    · decide
    · omega
theorem clampModules_ok (hW : Clo W) {σ : Mem} {v : Int32} {Q : Pst} (hq : Q (some (.int (clM v))) σ) : W k_clampModules 0 [.val (.ref 1), .val (.int v)] [] σ Q := by
  refine hW [] 20 _ _ _ _ _ _ ?_
  unfold clM at hq
  refine ⟨fun q => ?_, fun q => ⟨fun q2 => ?_, fun q2 => ?_⟩⟩
  · rw [if_pos q] at hq; exact hq
  · rw [if_neg q, if_pos q2] at hq; exact hq
  · rw [if_neg q, if_neg q2] at hq; exact hq
theorem clampVersions_ok (hW : Clo W) {σ : Mem} {v : Int32} {Q : Pst} (hq : Q (some (.int (clV v))) σ) : W k_clampVersions 0 [.val (.ref 1), .val (.int v)] [] σ Q := by
  refine hW [] 20 _ _ _ _ _ _ ?_
  unfold clV at hq
  refine ⟨fun q => ?_, fun q => ⟨fun q2 => ?_, fun q2 => ?_⟩⟩
  · rw [if_pos q] at hq; exact hq
  · rw [if_neg q, if_pos q2] at hq; exact hq
  · rw [if_neg q, if_neg q2] at hq; exact hq
def mI (a b : Int32) : Nat → Int32
  | 0 => clM a
  | 1 => clV b
  | _ => 0
theorem init_ok (hW : Clo W) {n : Nat} {A : Nat → Nat → Int32} {a b : Int32} {Q : Pst} (hq : Q none (mst n (mI a b) A)) : W k_init 0 [.val (.ref 1), .val (.int a), .val (.int b)] [] (1, n, t_flds.map (fun f => defaultValue f.2.2), A) Q := by
  refine hW [] 100 _ _ _ _ _ _ ?_
  refine ⟨by decide, ⟨by decide, ⟨by decide, ⟨by decide, ⟨by decide, ⟨by decide, ⟨by decide, ⟨by decide, ⟨by decide, ⟨by decide, ⟨by decide, ⟨by decide, ⟨by decide, ⟨by decide, ?_⟩⟩⟩⟩⟩⟩⟩⟩⟩⟩⟩⟩⟩⟩
  refine clampModules_ok hW ?_
  refine clampVersions_ok hW ?_
  exact hq
/-- the tables' bounds -/
def mB (I : Nat → Int32) : Prop := (2 ≤ (I 0).toInt ∧ (I 0).toInt ≤ 8) ∧ 1 ≤ (I 1).toInt ∧ (I 1).toInt ≤ 8
def mR (I : Nat → Int32) (m : Int32) : Prop := 1 ≤ m.toInt ∧ m.toInt < (I 0).toInt
def vR (I : Nat → Int32) (x : Int32) : Prop := 1 ≤ x.toInt ∧ x.toInt ≤ (I 1).toInt
def vN (I : Nat → Int32) (x : Int32) : Prop := 0 ≤ x.toInt ∧ x.toInt ≤ (I 1).toInt
theorem modInRange_ok (hW : Clo W) {n : Nat} {I : Nat → Int32} {A : Nat → Nat → Int32} {m : Int32} {Q : Pst} (h1 : mR I m → Q (some (.int 1)) (mst n I A)) (h0 : ¬ mR I m → Q (some (.int 0)) (mst n I A)) : W k_modInRange 0 [.val (.ref 1), .val (.int m)] [] (mst n I A) Q := by
  refine hW [] 20 _ _ _ _ _ _ ?_
  refine ⟨fun q => ?_, fun q => ⟨fun q2 => ?_, fun q2 => ?_⟩⟩
  · exact h0 fun w => by have q' : m.toInt < (Int32.ofInt 1).toInt := q; rw [oI1] at q'; have := w.1; omega
  · exact h1 ⟨by have q' : ¬ m.toInt < (Int32.ofInt 1).toInt := q; rw [oI1] at q'; omega, q2⟩
  · exact h0 fun w => q2 w.2
theorem verInRange_ok (hW : Clo W) {n : Nat} {I : Nat → Int32} {A : Nat → Nat → Int32} {m : Int32} {Q : Pst} (h1 : vR I m → Q (some (.int 1)) (mst n I A)) (h0 : ¬ vR I m → Q (some (.int 0)) (mst n I A)) : W k_verInRange 0 [.val (.ref 1), .val (.int m)] [] (mst n I A) Q := by
  refine hW [] 20 _ _ _ _ _ _ ?_
  refine ⟨fun q => ?_, fun q => ⟨fun q2 => ?_, fun q2 => ?_⟩⟩
  · exact h0 fun w => by have q' : m.toInt < (Int32.ofInt 1).toInt := q; rw [oI1] at q'; have := w.1; omega
  · exact h0 fun w => by have q2' : (I 1).toInt < m.toInt := q2; have := w.2; omega
  · exact h1 ⟨by have q' : ¬ m.toInt < (Int32.ofInt 1).toInt := q; rw [oI1] at q'; omega, by have q2' : ¬ (I 1).toInt < m.toInt := q2; omega⟩
theorem verOrNone_ok (hW : Clo W) {n : Nat} {I : Nat → Int32} {A : Nat → Nat → Int32} {m : Int32} {Q : Pst} (h1 : vN I m → Q (some (.int 1)) (mst n I A)) (h0 : ¬ vN I m → Q (some (.int 0)) (mst n I A)) : W k_verOrNone 0 [.val (.ref 1), .val (.int m)] [] (mst n I A) Q := by
  refine hW [] 20 _ _ _ _ _ _ ?_
  refine ⟨fun q => ?_, fun q => ⟨fun q2 => ?_, fun q2 => ?_⟩⟩
  · exact h0 fun w => by have q' : m.toInt < (0 : Int32).toInt := q; rw [tI0] at q'; have := w.1; omega
  · exact h0 fun w => by have q2' : (I 1).toInt < m.toInt := q2; have := w.2; omega
  · exact h1 ⟨by have q' : ¬ m.toInt < (0 : Int32).toInt := q; rw [tI0] at q'; omega, by have q2' : ¬ (I 1).toInt < m.toInt := q2; omega⟩
theorem pairInRange_ok (hW : Clo W) {n : Nat} {I : Nat → Int32} {A : Nat → Nat → Int32} {m x : Int32} {Q : Pst} (h1 : mR I m → vR I x → Q (some (.int 1)) (mst n I A)) (h0 : ¬ (mR I m ∧ vR I x) → Q (some (.int 0)) (mst n I A)) : W k_pairInRange 0 [.val (.ref 1), .val (.int m), .val (.int x)] [] (mst n I A) Q := by
  refine hW [] 20 _ _ _ _ _ _ ?_
  refine modInRange_ok hW (fun a => ?_) (fun a => ?_)
  · refine ⟨fun z => absurd z n10, fun _ => ?_⟩
    exact verInRange_ok hW (fun b => h1 a b) (fun b => h0 fun w => b w.2)
  · exact ⟨fun _ => h0 fun w => a w.1, fun z => absurd rfl z⟩
theorem slot_ok (hW : Clo W) {σ : Mem} {m x : Int32} {Q : Pst} (hq : Q (some (.int (m * Int32.ofInt 9 + x))) σ) : W k_slot 0 [.val (.ref 1), .val (.int m), .val (.int x)] [] σ Q := hW [] 20 _ _ _ _ _ _ hq
theorem reqSlot_ok (hW : Clo W) {σ : Mem} {m x s : Int32} {Q : Pst} (hq : Q (some (.int ((m * Int32.ofInt 9 + x) * Int32.ofInt 9 + s))) σ) : W k_reqSlot 0 [.val (.ref 1), .val (.int m), .val (.int x), .val (.int s)] [] σ Q := hW [] 20 _ _ _ _ _ _ hq
/-- the place of a version -/
def sl (m x : Int32) : Nat := 9 * m.toInt.toNat + x.toInt.toNat
theorem sl_in {I : Nat → Int32} (hB : mB I) {m x : Int32} (hm : mR I m) (hx : vR I x) : (0 ≤ (m * Int32.ofInt 9 + x).toInt ∧ (m * Int32.ofInt 9 + x).toInt < 81) ∧ (m * Int32.ofInt 9 + x).toInt.toNat = sl m x := by
  obtain ⟨⟨_, b1⟩, _, b2⟩ := hB
  obtain ⟨c1, c2⟩ := hm
  obtain ⟨d1, d2⟩ := hx
  have := tI_9k (x := m) (y := x) (by omega) (by omega) (by omega) (by omega)
  unfold sl
  omega
theorem listVersion_ok (hW : Clo W) {n : Nat} {I : Nat → Int32} {A : Nat → Nat → Int32} {m x : Int32} {Q : Pst} (hB : mB I)
    (h0 : ¬ (mR I m ∧ vR I x) → Q (some (.int (-1))) (mst n I A)) (h1 : mR I m → vR I x → ¬ A 2 (sl m x) = 0 → Q (some (.int (-3))) (mst n I A)) (h2 : mR I m → vR I x → A 2 (sl m x) = 0 → Q (some (.int 0)) (mst n I (pmSet A 2 (sl m x) 1))) :
    W k_listVersion 0 [.val (.ref 1), .val (.int m), .val (.int x), .unset] [] (mst n I A) Q := by
  refine hW [] 30 _ _ _ _ _ _ ?_
  refine pairInRange_ok hW (fun a b => ?_) (fun a => ⟨fun _ => h0 a, fun z => absurd rfl z⟩)
  obtain ⟨s1, s2⟩ := sl_in hB a b
  refine ⟨fun z => absurd z n10, fun _ => ?_⟩
  refine slot_ok hW ?_
  refine ⟨s1, ⟨fun z => ⟨s1, ?_⟩, fun z => ?_⟩⟩
  · have z' : A 2 (m * Int32.ofInt 9 + x).toInt.toNat = 0 := z
    show Q (some (.int 0)) (mst n I (pmSet A 2 (m * Int32.ofInt 9 + x).toInt.toNat 1))
    rw [s2] at z' ⊢
    exact h2 a b z'
  · have z' : ¬ A 2 (m * Int32.ofInt 9 + x).toInt.toNat = 0 := z
    rw [s2] at z'
    exact h1 a b z'
theorem versionFlags_ok (hW : Clo W) {n : Nat} {I : Nat → Int32} {A : Nat → Nat → Int32} {m x : Int32} {Q : Pst} (hB : mB I)
    (h0 : ¬ (mR I m ∧ vR I x) → Q (some (.int (-1))) (mst n I A)) (h1 : mR I m → vR I x → Q (some (.int ((if A 2 (sl m x) = 0 then 0 else 1) + (if A 3 (sl m x) = 0 then 0 else 2)))) (mst n I A)) :
    W k_versionFlags 0 [.val (.ref 1), .val (.int m), .val (.int x), .unset, .unset] [] (mst n I A) Q := by
  refine hW [] 40 _ _ _ _ _ _ ?_
  refine pairInRange_ok hW (fun a b => ?_) (fun a => ⟨fun _ => h0 a, fun z => absurd rfl z⟩)
  obtain ⟨s1, s2⟩ := sl_in hB a b
  have h1' := h1 a b
  refine ⟨fun z => absurd z n10, fun _ => ?_⟩
  refine slot_ok hW ?_
  refine ⟨s1, ⟨fun z => ⟨s1, ⟨fun w => ?_, fun w => ?_⟩⟩, fun z => ⟨s1, ⟨fun w => ?_, fun w => ?_⟩⟩⟩⟩
  · have z' : A 2 (m * Int32.ofInt 9 + x).toInt.toNat = 0 := z
    have w' : A 3 (m * Int32.ofInt 9 + x).toInt.toNat = 0 := w
    rw [s2] at z' w'
    rw [if_pos z', if_pos w'] at h1'
    exact h1'
  · have z' : A 2 (m * Int32.ofInt 9 + x).toInt.toNat = 0 := z
    have w' : ¬ A 3 (m * Int32.ofInt 9 + x).toInt.toNat = 0 := w
    rw [s2] at z' w'
    rw [if_pos z', if_neg w'] at h1'
    exact h1'
  · have z' : ¬ A 2 (m * Int32.ofInt 9 + x).toInt.toNat = 0 := z
    have w' : A 3 (m * Int32.ofInt 9 + x).toInt.toNat = 0 := w
    rw [s2] at z' w'
    rw [if_neg z', if_pos w'] at h1'
    exact h1'
  · have z' : ¬ A 2 (m * Int32.ofInt 9 + x).toInt.toNat = 0 := z
    have w' : ¬ A 3 (m * Int32.ofInt 9 + x).toInt.toNat = 0 := w
    rw [s2] at z' w'
    rw [if_neg z', if_neg w'] at h1'
    exact h1'
def cntF (p : Nat → Bool) : Nat → Nat
  | 0 => 0
  | c + 1 => cntF p c + (if p c = true then 1 else 0)
theorem cntF_le (p : Nat → Bool) (c : Nat) : cntF p c ≤ c := by
  induction c with
  | zero => exact Nat.le_refl _
  | succ c ih => simp only [cntF]; split <;> omega
def rI (I : Nat → Int32) : Nat → Int32 := fSt (fSt (fSt I 2 0) 3 0) 4 0
theorem resetBuild_ok (hW : Clo W) {n : Nat} {I : Nat → Int32} {A : Nat → Nat → Int32} {Q : Pst}
    (hq : ∀ A' : Nat → Nat → Int32, (∀ j, j < 81 → A' 9 j = 0) → (∀ j, j < 9 → A' 8 j = 0) → (∀ r, r ≠ 8 → r ≠ 9 → A' r = A r) → Q none (mst n (rI I) A')) :
    W k_resetBuild 0 [.val (.ref 1), .unset] [] (mst n I A) Q := by
  have loop2 : ∀ (m j : Nat) (B : Nat → Nat → Int32), j + m = 9 → (∀ i, i < 81 → B 9 i = 0) → (∀ i, i < j → B 8 i = 0) → (∀ r, r ≠ 8 → r ≠ 9 → B r = A r) → W k_resetBuild 23 [.val (.ref 1), .val (.int (i32 j))] [] (mst n I B) Q := by
    intro m
    induction m with
    | zero =>
      intro j B hj h9 hB hr
      have ji : (i32 j).toInt = (j : Int) := i32_toInt (by omega)
      refine hW [] 30 _ _ _ _ _ _ ?_
      refine ⟨fun q => ?_, fun q => ?_⟩
      · have q' : (i32 j).toInt < (Int32.ofInt 9).toInt := q
        rw [ji, oI9] at q'; omega
      · exact hq B h9 (fun i hi => hB i (by omega)) hr
    | succ m ih =>
      intro j B hj h9 hB hr
      have ji : (i32 j).toInt = (j : Int) := i32_toInt (by omega)
      refine hW [23] 20 _ _ _ _ _ _ ?_
      refine ⟨fun q => ⟨?_, ?_⟩, fun q => ?_⟩
      · show 0 ≤ (i32 j).toInt ∧ (i32 j).toInt < 9; omega
      · show W k_resetBuild 23 [.val (.ref 1), .val (.int (i32 j + Int32.ofInt 1))] [] (mst n I (pmSet B 8 (i32 j).toInt.toNat 0)) Q
        rw [i32_succ, ji]
        refine ih (j + 1) _ (by omega) (fun i hi => ?_) (fun i hi => ?_) (fun r r8 r9 => ?_)
        · rw [pmSet_r _ _ _ (by decide)]; exact h9 i hi
        · by_cases e : i = j
          · rw [e]; exact pmSet_eq _ _ _ _
          · rw [pmSet_ne _ _ _ (by omega)]; exact hB i (by omega)
        · rw [pmSet_r _ _ _ r8]; exact hr r r8 r9
      · have q' : ¬ (i32 j).toInt < (Int32.ofInt 9).toInt := q
        rw [ji, oI9] at q'; omega
  have loop1 : ∀ (m j : Nat) (B : Nat → Nat → Int32), j + m = 81 → (∀ i, i < j → B 9 i = 0) → (∀ r, r ≠ 9 → B r = A r) → W k_resetBuild 2 [.val (.ref 1), .val (.int (i32 j))] [] (mst n I B) Q := by
    intro m
    induction m with
    | zero =>
      intro j B hj hB hr
      have ji : (i32 j).toInt = (j : Int) := i32_toInt (by omega)
      refine hW [23] 20 _ _ _ _ _ _ ?_
      refine ⟨fun q => ?_, fun q => ?_⟩
      · have q' : (i32 j).toInt < (Int32.ofInt 81).toInt := q
        rw [ji, oI81] at q'; omega
      · exact loop2 9 0 B rfl (fun i hi => hB i (by omega)) (fun i hi => by omega) (fun r _ r9 => hr r r9)
    | succ m ih =>
      intro j B hj hB hr
      have ji : (i32 j).toInt = (j : Int) := i32_toInt (by omega)
      refine hW [2] 20 _ _ _ _ _ _ ?_
      refine ⟨fun q => ⟨?_, ?_⟩, fun q => ?_⟩
      · show 0 ≤ (i32 j).toInt ∧ (i32 j).toInt < 81; omega
      · show W k_resetBuild 2 [.val (.ref 1), .val (.int (i32 j + Int32.ofInt 1))] [] (mst n I (pmSet B 9 (i32 j).toInt.toNat 0)) Q
        rw [i32_succ, ji]
        refine ih (j + 1) _ (by omega) (fun i hi => ?_) (fun r r9 => ?_)
        · by_cases e : i = j
          · rw [e]; exact pmSet_eq _ _ _ _
          · rw [pmSet_ne _ _ _ (by omega)]; exact hB i (by omega)
        · rw [pmSet_r _ _ _ r9]; exact hr r r9
      · have q' : ¬ (i32 j).toInt < (Int32.ofInt 81).toInt := q
        rw [ji, oI81] at q'; omega
  refine hW [2] 20 _ _ _ _ _ _ ?_
  exact loop1 81 0 A rfl (fun i hi => by omega) (fun _ _ => rfl)
theorem loadMainRoots_ok (hW : Clo W) {n : Nat} {I : Nat → Int32} {A : Nat → Nat → Int32} {Q : Pst} (hB : mB I)
    (hq : ∀ A' : Nat → Nat → Int32, (∀ s, s < 9 → A' 7 s = if (1 ≤ s ∧ (s : Int) < (I 0).toInt) then A 6 s else 0) → (∀ r, r ≠ 7 → A' r = A r) → Q none (mst n I A')) :
    W k_loadMainRoots 0 [.val (.ref 1), .unset] [] (mst n I A) Q := by
  obtain ⟨⟨b0, b1⟩, _⟩ := hB
  generalize hM : (I 0).toInt.toNat = M
  have hMi : (I 0).toInt = (M : Int) := by omega
  have loop2 : ∀ (m j : Nat) (B : Nat → Nat → Int32), j + m = M → 1 ≤ j → (∀ s, s < 9 → B 7 s = if (1 ≤ s ∧ s < j) then A 6 s else 0) → (∀ r, r ≠ 7 → B r = A r) → W k_loadMainRoots 23 [.val (.ref 1), .val (.int (i32 j))] [] (mst n I B) Q := by
    intro m
    induction m with
    | zero =>
      intro j B hj j1 hB hr
      have ji : (i32 j).toInt = (j : Int) := i32_toInt (by omega)
      refine hW [] 20 _ _ _ _ _ _ ?_
      refine ⟨fun q => ?_, fun q => ?_⟩
      · have q' : (i32 j).toInt < (I 0).toInt := q
        omega
      · refine hq B (fun s hs => ?_) hr
        rw [hB s hs]
        have : (1 ≤ s ∧ s < j) ↔ (1 ≤ s ∧ (s : Int) < (I 0).toInt) := by omega
        simp only [this]
    | succ m ih =>
      intro j B hj j1 hB hr
      have ji : (i32 j).toInt = (j : Int) := i32_toInt (by omega)
      refine hW [23] 30 _ _ _ _ _ _ ?_
      refine ⟨fun q => ⟨?_, ⟨?_, ?_⟩⟩, fun q => ?_⟩
      · show 0 ≤ (i32 j).toInt ∧ (i32 j).toInt < 9; omega
      · show 0 ≤ (i32 j).toInt ∧ (i32 j).toInt < 9; omega
      · show W k_loadMainRoots 23 [.val (.ref 1), .val (.int (i32 j + Int32.ofInt 1))] [] (mst n I (pmSet B 7 (i32 j).toInt.toNat (B 6 (i32 j).toInt.toNat))) Q
        rw [i32_succ, ji, hr 6 (by decide)]
        refine ih (j + 1) _ (by omega) (by omega) (fun s hs => ?_) (fun r r7 => ?_)
        · by_cases e : s = j
          · rw [e, if_pos (by omega)]; exact pmSet_eq _ _ _ _
          · rw [pmSet_ne _ _ _ (show ¬ s = (j : Int).toNat by omega), hB s hs]
            have : (1 ≤ s ∧ s < j) ↔ (1 ≤ s ∧ s < j + 1) := by omega
            simp only [this]
        · rw [pmSet_r _ _ _ r7]; exact hr r r7
      · have q' : ¬ (i32 j).toInt < (I 0).toInt := q
        omega
  have loop1 : ∀ (m j : Nat) (B : Nat → Nat → Int32), j + m = 9 → (∀ i, i < j → B 7 i = 0) → (∀ r, r ≠ 7 → B r = A r) → W k_loadMainRoots 2 [.val (.ref 1), .val (.int (i32 j))] [] (mst n I B) Q := by
    intro m
    induction m with
    | zero =>
      intro j B hj hB hr
      have ji : (i32 j).toInt = (j : Int) := i32_toInt (by omega)
      refine hW [23] 20 _ _ _ _ _ _ ?_
      refine ⟨fun q => ?_, fun q => ?_⟩
      · have q' : (i32 j).toInt < (Int32.ofInt 9).toInt := q
        rw [ji, oI9] at q'; omega
      · exact loop2 (M - 1) 1 B (by omega) (by omega) (fun s hs => by rw [if_neg (by omega)]; exact hB s (by omega)) hr
    | succ m ih =>
      intro j B hj hB hr
      have ji : (i32 j).toInt = (j : Int) := i32_toInt (by omega)
      refine hW [2] 20 _ _ _ _ _ _ ?_
      refine ⟨fun q => ⟨?_, ?_⟩, fun q => ?_⟩
      · show 0 ≤ (i32 j).toInt ∧ (i32 j).toInt < 9; omega
      · show W k_loadMainRoots 2 [.val (.ref 1), .val (.int (i32 j + Int32.ofInt 1))] [] (mst n I (pmSet B 7 (i32 j).toInt.toNat 0)) Q
        rw [i32_succ, ji]
        refine ih (j + 1) _ (by omega) (fun i hi => ?_) (fun r r7 => ?_)
        · by_cases e : i = j
          · rw [e]; exact pmSet_eq _ _ _ _
          · rw [pmSet_ne _ _ _ (by omega)]; exact hB i (by omega)
        · rw [pmSet_r _ _ _ r7]; exact hr r r7
      · have q' : ¬ (i32 j).toInt < (Int32.ofInt 9).toInt := q
        rw [ji, oI9] at q'; omega
  refine hW [2] 20 _ _ _ _ _ _ ?_
  exact loop1 9 0 A rfl (fun i hi => by omega) (fun _ _ => rfl)
/-- the last marked version of s -/
def bestF (N : Nat → Int32) (s : Nat) : Nat → Nat
  | 0 => 0
  | x + 1 => if N (9 * s + (x + 1)) = 0 then bestF N s x else x + 1
theorem computeSelection_ok (hW : Clo W) (hF : Fgt W) {n : Nat} {I : Nat → Int32} {A : Nat → Nat → Int32} {Q : Pst} (hB : mB I)
    (hq : ∀ A' : Nat → Nat → Int32, (∀ s : Nat, 1 ≤ s → (s : Int) < (I 0).toInt → A' 8 s = i32 (bestF (A 9) s (I 1).toInt.toNat)) → (∀ r, r ≠ 8 → A' r = A r) → Q none (mst n I A')) :
    W k_computeSelection 0 [.val (.ref 1), .unset, .unset, .unset] [] (mst n I A) Q := by
  obtain ⟨⟨b0, b1⟩, b2, b3⟩ := id hB
  generalize hM : (I 0).toInt.toNat = M
  generalize hV : (I 1).toInt.toNat = V at hq
  have hMi : (I 0).toInt = (M : Int) := by omega
  have hVi : (I 1).toInt = (V : Int) := by omega
  have outer : ∀ (m j : Nat) (B : Nat → Nat → Int32), j + m = M → 1 ≤ j → (∀ s, 1 ≤ s → s < j → B 8 s = i32 (bestF (A 9) s V)) → (∀ r, r ≠ 8 → B r = A r) → W k_computeSelection 2 [.val (.ref 1), .val (.int (i32 j)), .unset, .unset] [] (mst n I B) Q := by
    intro m
    induction m with
    | zero =>
      intro j B hj j1 h8 hr
      have ji : (i32 j).toInt = (j : Int) := i32_toInt (by omega)
      refine hW [] 20 _ _ _ _ _ _ ?_
      refine ⟨fun q => ?_, fun q => ?_⟩
      · have q' : (i32 j).toInt < (I 0).toInt := q
        omega
      · exact hq B (fun s s1 s2 => h8 s s1 (by omega)) hr
    | succ m ih =>
      intro j B hj j1 h8 hr
      have ji : (i32 j).toInt = (j : Int) := i32_toInt (by omega)
      have inner : ∀ (p x : Nat), x + p = V → W k_computeSelection 14 [.val (.ref 1), .val (.int (i32 j)), .val (.int (i32 (bestF (A 9) j x))), .val (.int (i32 (x + 1)))] [] (mst n I B) Q := by
        intro p
        induction p with
        | zero =>
          intro x hx
          have xi : (i32 (x + 1)).toInt = ((x + 1 : Nat) : Int) := i32_toInt (by omega)
          refine hW [2] 30 _ _ _ _ _ _ ?_
          refine ⟨fun q => ⟨?_, ?_⟩, fun q => ?_⟩
          · show 0 ≤ (i32 j).toInt ∧ (i32 j).toInt < 9; omega
          · show W k_computeSelection 2 [.val (.ref 1), .val (.int (i32 j + Int32.ofInt 1)), .val (.int (i32 (bestF (A 9) j x))), .val (.int (i32 (x + 1)))] [] (mst n I (pmSet B 8 (i32 j).toInt.toNat (i32 (bestF (A 9) j x)))) Q
            refine hF _ _ _ [.val (.ref 1), .val (.int (i32 j + Int32.ofInt 1)), .unset, .unset] _ _ _ ⟨Or.inr rfl, Or.inr rfl, Or.inl rfl, Or.inl rfl, trivial⟩ ?_
            rw [i32_succ, ji]
            have hx' : x = V := by omega
            subst hx'
            refine ih (j + 1) _ (by omega) (by omega) (fun s s1 s2 => ?_) (fun r r8 => ?_)
            · by_cases e : s = j
              · rw [e]; exact pmSet_eq _ _ _ _
              · rw [pmSet_ne _ _ _ (show ¬ s = (j : Int).toNat by omega)]; exact h8 s s1 (by omega)
            · rw [pmSet_r _ _ _ r8]; exact hr r r8
          · have q' : ¬ (I 1).toInt < (i32 (x + 1)).toInt := q
            omega
        | succ p ihp =>
          intro x hx
          have xi : (i32 (x + 1)).toInt = ((x + 1 : Nat) : Int) := i32_toInt (by omega)
          obtain ⟨s1, s2⟩ := sl_in (m := i32 j) (x := i32 (x + 1)) hB ⟨by omega, by omega⟩ ⟨by omega, by omega⟩
          have s3 : (i32 j * Int32.ofInt 9 + i32 (x + 1)).toInt.toNat = 9 * j + (x + 1) := by rw [s2, sl, ji, xi]; omega
          have e9 : B 9 (i32 j * Int32.ofInt 9 + i32 (x + 1)).toInt.toNat = A 9 (9 * j + (x + 1)) := by rw [s3, hr 9 (by decide)]
          refine hW [14] 30 _ _ _ _ _ _ ?_
          refine ⟨fun q => ?_, fun q => ?_⟩
          · have q' : (I 1).toInt < (i32 (x + 1)).toInt := q
            omega
          · refine slot_ok hW ?_
            refine ⟨s1, ⟨fun z => ?_, fun z => ?_⟩⟩
            · have z' : B 9 (i32 j * Int32.ofInt 9 + i32 (x + 1)).toInt.toNat = 0 := z
              rw [e9] at z'
              show W k_computeSelection 14 [.val (.ref 1), .val (.int (i32 j)), .val (.int (i32 (bestF (A 9) j x))), .val (.int (i32 (x + 1) + Int32.ofInt 1))] [] (mst n I B) Q
              rw [i32_succ]
              have := ihp (x + 1) (by omega)
              simpa only [bestF, if_pos z'] using this
            · have z' : ¬ B 9 (i32 j * Int32.ofInt 9 + i32 (x + 1)).toInt.toNat = 0 := z
              rw [e9] at z'
              show W k_computeSelection 14 [.val (.ref 1), .val (.int (i32 j)), .val (.int (i32 (x + 1))), .val (.int (i32 (x + 1) + Int32.ofInt 1))] [] (mst n I B) Q
              rw [i32_succ]
              have := ihp (x + 1) (by omega)
              simpa only [bestF, if_neg z'] using this
      refine hW [14] 30 _ _ _ _ _ _ ?_
      refine ⟨fun q => ?_, fun q => ?_⟩
      · exact inner V 0 (by omega)
      · have q' : ¬ (i32 j).toInt < (I 0).toInt := q
        omega
  refine hW [2] 20 _ _ _ _ _ _ ?_
  exact outer (M - 1) 1 A (by omega) (by omega) (fun s s1 s2 => by omega) (fun _ _ => rfl)
theorem countSelected_ok (hW : Clo W) {n : Nat} {I : Nat → Int32} {A : Nat → Nat → Int32} {Q : Pst} (hB : mB I)
    (hq : Q (some (.int (i32 (cntF (fun s => decide (¬ A 8 (s + 1) = 0)) ((I 0).toInt.toNat - 1))))) (mst n I A)) :
    W k_countSelected 0 [.val (.ref 1), .unset, .unset] [] (mst n I A) Q := by
  obtain ⟨⟨b0, b1⟩, _⟩ := hB
  generalize hM : (I 0).toInt.toNat = M at hq
  have hMi : (I 0).toInt = (M : Int) := by omega
  have loop : ∀ (m j : Nat), j + 1 + m = M → W k_countSelected 4 [.val (.ref 1), .val (.int (i32 (cntF (fun s => decide (¬ A 8 (s + 1) = 0)) j))), .val (.int (i32 (j + 1)))] [] (mst n I A) Q := by
    intro m
    induction m with
    | zero =>
      intro j hj
      have ji : (i32 (j + 1)).toInt = ((j + 1 : Nat) : Int) := i32_toInt (by omega)
      refine hW [] 20 _ _ _ _ _ _ ?_
      refine ⟨fun q => ?_, fun q => ?_⟩
      · have q' : (i32 (j + 1)).toInt < (I 0).toInt := q
        omega
      · have e : M - 1 = j := by omega
        rw [e] at hq; exact hq
    | succ m ih =>
      intro j hj
      have ji : (i32 (j + 1)).toInt = ((j + 1 : Nat) : Int) := i32_toInt (by omega)
      have jn : (i32 (j + 1)).toInt.toNat = j + 1 := by omega
      refine hW [4] 30 _ _ _ _ _ _ ?_
      refine ⟨fun q => ⟨?_, ⟨fun z => ?_, fun z => ?_⟩⟩, fun q => ?_⟩
      · show 0 ≤ (i32 (j + 1)).toInt ∧ (i32 (j + 1)).toInt < 9; omega
      · have z' : A 8 (i32 (j + 1)).toInt.toNat = 0 := z
        rw [jn] at z'
        show W k_countSelected 4 [.val (.ref 1), .val (.int (i32 (cntF (fun s => decide (¬ A 8 (s + 1) = 0)) j))), .val (.int (i32 (j + 1) + Int32.ofInt 1))] [] (mst n I A) Q
        rw [i32_succ]
        have := ih (j + 1) (by omega)
        simpa [cntF, z'] using this
      · have z' : ¬ A 8 (i32 (j + 1)).toInt.toNat = 0 := z
        rw [jn] at z'
        show W k_countSelected 4 [.val (.ref 1), .val (.int (i32 (cntF (fun s => decide (¬ A 8 (s + 1) = 0)) j) + Int32.ofInt 1)), .val (.int (i32 (j + 1) + Int32.ofInt 1))] [] (mst n I A) Q
        rw [i32_succ, i32_succ]
        have := ih (j + 1) (by omega)
        simpa [cntF, z'] using this
      · have q' : ¬ (i32 (j + 1)).toInt < (I 0).toInt := q
        omega
  refine hW [4] 20 _ _ _ _ _ _ ?_
  exact loop (M - 1) 0 (by omega)
theorem mainRequirement_ok (hW : Clo W) {n : Nat} {I : Nat → Int32} {A : Nat → Nat → Int32} {m : Int32} {Q : Pst} (hB : mB I) (h0 : ¬ mR I m → Q (some (.int (-1))) (mst n I A)) (h1 : mR I m → Q (some (.int (A 6 m.toInt.toNat))) (mst n I A)) :
    W k_mainRequirement 0 [.val (.ref 1), .val (.int m)] [] (mst n I A) Q := by
  refine hW [] 20 _ _ _ _ _ _ ?_
  refine modInRange_ok hW (fun a => ?_) (fun a => ⟨fun _ => h0 a, fun z => absurd rfl z⟩)
  refine ⟨fun z => absurd z n10, fun _ => ⟨?_, h1 a⟩⟩
  obtain ⟨a1, a2⟩ := a
  obtain ⟨⟨_, b1⟩, _⟩ := hB
  show 0 ≤ m.toInt ∧ m.toInt < 9; omega
theorem isListed_ok (hW : Clo W) {n : Nat} {I : Nat → Int32} {A : Nat → Nat → Int32} {m x : Int32} {Q : Pst} (hB : mB I) (h0 : ¬ (mR I m ∧ vR I x) → Q (some (.int 0)) (mst n I A)) (h1 : mR I m → vR I x → Q (some (.int (A 2 (sl m x) &&& 1))) (mst n I A)) :
    W k_isListed 0 [.val (.ref 1), .val (.int m), .val (.int x)] [] (mst n I A) Q := by
  refine hW [] 30 _ _ _ _ _ _ ?_
  refine pairInRange_ok hW (fun a b => ?_) (fun a => ⟨fun _ => h0 a, fun z => absurd rfl z⟩)
  obtain ⟨s1, s2⟩ := sl_in hB a b
  refine ⟨fun z => absurd z n10, fun _ => ⟨s1, ?_⟩⟩
  show Q (some (.int (A 2 (m * Int32.ofInt 9 + x).toInt.toNat &&& 1))) (mst n I A)
  rw [s2]; exact h1 a b
theorem isExcluded_ok (hW : Clo W) {n : Nat} {I : Nat → Int32} {A : Nat → Nat → Int32} {m x : Int32} {Q : Pst} (hB : mB I) (h0 : ¬ (mR I m ∧ vR I x) → Q (some (.int 0)) (mst n I A)) (h1 : mR I m → vR I x → Q (some (.int (A 3 (sl m x) &&& 1))) (mst n I A)) :
    W k_isExcluded 0 [.val (.ref 1), .val (.int m), .val (.int x)] [] (mst n I A) Q := by
  refine hW [] 30 _ _ _ _ _ _ ?_
  refine pairInRange_ok hW (fun a b => ?_) (fun a => ⟨fun _ => h0 a, fun z => absurd rfl z⟩)
  obtain ⟨s1, s2⟩ := sl_in hB a b
  refine ⟨fun z => absurd z n10, fun _ => ⟨s1, ?_⟩⟩
  show Q (some (.int (A 3 (m * Int32.ofInt 9 + x).toInt.toNat &&& 1))) (mst n I A)
  rw [s2]; exact h1 a b
/-! the graph -/
def adjUp (L E : Nat → Int32) (s V : Nat) : Nat → Nat → Nat
  | 0, _ => 0
  | f + 1, y => if V < y then 0 else if ¬ L (9 * s + y) = 0 ∧ E (9 * s + y) = 0 then y else adjUp L E s V f (y + 1)
def fAdj (M V : Nat) (L E : Nat → Int32) (s u : Nat) : Nat := if 1 ≤ s ∧ s < M ∧ 1 ≤ u ∧ u ≤ V then (if E (9 * s + u) = 0 then u else adjUp L E s V (V - u + 1) (u + 1)) else 0
theorem adjUp_spec {L E : Nat → Int32} {s V : Nat} (f : Nat) : ∀ y, adjUp L E s V f y ≠ 0 → y ≤ adjUp L E s V f y ∧ adjUp L E s V f y ≤ V ∧ ¬ L (9 * s + adjUp L E s V f y) = 0 ∧ E (9 * s + adjUp L E s V f y) = 0 := by
  induction f with
  | zero => intro y h; exact absurd rfl h
  | succ f ih =>
    intro y h
    simp only [adjUp] at h ⊢
    by_cases h1 : V < y
    · rw [if_pos h1] at h; exact absurd rfl h
    · rw [if_neg h1] at h ⊢
      by_cases h2 : ¬ L (9 * s + y) = 0 ∧ E (9 * s + y) = 0
      · rw [if_pos h2]; exact ⟨Nat.le_refl _, by omega, h2.1, h2.2⟩
      · rw [if_neg h2] at h ⊢
        obtain ⟨a, b, c, d⟩ := ih (y + 1) h
        exact ⟨by omega, b, c, d⟩
theorem fAdj_spec {M V : Nat} {L E : Nat → Int32} {s u : Nat} (h : fAdj M V L E s u ≠ 0) : (1 ≤ s ∧ s < M ∧ 1 ≤ u ∧ u ≤ V) ∧ u ≤ fAdj M V L E s u ∧ fAdj M V L E s u ≤ V ∧ E (9 * s + fAdj M V L E s u) = 0 ∧ (fAdj M V L E s u = u ∨ ¬ L (9 * s + fAdj M V L E s u) = 0) := by
  unfold fAdj at h ⊢
  by_cases h1 : 1 ≤ s ∧ s < M ∧ 1 ≤ u ∧ u ≤ V
  · rw [if_pos h1] at h ⊢
    refine ⟨h1, ?_⟩
    by_cases h2 : E (9 * s + u) = 0
    · rw [if_pos h2] at h ⊢; exact ⟨Nat.le_refl _, h1.2.2.2, h2, Or.inl rfl⟩
    · rw [if_neg h2] at h ⊢
      obtain ⟨a, b, c, d⟩ := adjUp_spec _ _ h
      exact ⟨by omega, b, d, Or.inr c⟩
  · rw [if_neg h1] at h; exact absurd rfl h
theorem fAdj_self {M V : Nat} {L E : Nat → Int32} {s u : Nat} (h1 : 1 ≤ s ∧ s < M ∧ 1 ≤ u ∧ u ≤ V) (h2 : E (9 * s + u) = 0) : fAdj M V L E s u = u := by unfold fAdj; rw [if_pos h1, if_pos h2]
abbrev MM (I : Nat → Int32) : Nat := (I 0).toInt.toNat
abbrev VV (I : Nat → Int32) : Nat := (I 1).toInt.toNat
theorem adjust_ok (hW : Clo W) (hF : Fgt W) {n : Nat} {I : Nat → Int32} {A : Nat → Nat → Int32} {s u : Nat} {Q : Pst} (hB : mB I) (hs : s < 9) (hu : u < 9) (hq : Q (some (.int (i32 (fAdj (MM I) (VV I) (A 2) (A 3) s u)))) (mst n I A)) :
    W k_adjust 0 [.val (.ref 1), .val (.int (i32 s)), .val (.int (i32 u)), .unset, .unset] [] (mst n I A) Q := by
  obtain ⟨⟨b0, b1⟩, b2, b3⟩ := id hB
  have si : (i32 s).toInt = (s : Int) := i32_toInt (by omega)
  have ui : (i32 u).toInt = (u : Int) := i32_toInt (by omega)
  have hVi : (I 1).toInt = (VV I : Int) := by simp only [VV]; omega
  have hMi : (I 0).toInt = (MM I : Int) := by simp only [MM]; omega
  have loop : ∀ (f y : Nat), 1 ≤ y → y ≤ 9 → VV I + 1 ≤ y + f → (1 ≤ s ∧ s < MM I) → Q (some (.int (i32 (adjUp (A 2) (A 3) s (VV I) f y)))) (mst n I A) → W k_adjust 31 [.val (.ref 1), .val (.int (i32 s)), .val (.int (i32 u)), .val (.int (i32 y)), .unset] [] (mst n I A) Q := by
    intro f
    induction f with
    | zero =>
      intro y y1 y9 hy hs1 hq
      have yi : (i32 y).toInt = (y : Int) := i32_toInt (by omega)
      refine hW [] 20 _ _ _ _ _ _ ?_
      refine ⟨fun q => hq, fun q => ?_⟩
      have q' : ¬ (I 1).toInt < (i32 y).toInt := q
      omega
    | succ f ih =>
      intro y y1 y9 hy hs1 hq
      have yi : (i32 y).toInt = (y : Int) := i32_toInt (by omega)
      simp only [adjUp] at hq
      refine hW [31] 40 _ _ _ _ _ _ ?_
      refine ⟨fun q => ?_, fun q => ?_⟩
      · have q' : (I 1).toInt < (i32 y).toInt := q
        rw [if_pos (show VV I < y by omega)] at hq
        exact hq
      · have q' : ¬ (I 1).toInt < (i32 y).toInt := q
        rw [if_neg (show ¬ VV I < y by omega)] at hq
        obtain ⟨s1, s2⟩ := sl_in (m := i32 s) (x := i32 y) hB ⟨by omega, by omega⟩ ⟨by omega, by omega⟩
        have s3 : (i32 s * Int32.ofInt 9 + i32 y).toInt.toNat = 9 * s + y := by rw [s2, sl, si, yi]; omega
        have next : ¬ (¬ A 2 (9 * s + y) = 0 ∧ A 3 (9 * s + y) = 0) → ∀ z : Int32, W k_adjust 31 [.val (.ref 1), .val (.int (i32 s)), .val (.int (i32 u)), .val (.int (i32 y + Int32.ofInt 1)), .val (.int z)] [] (mst n I A) Q := by
          intro hn z
          rw [if_neg hn] at hq
          refine hF _ _ _ [.val (.ref 1), .val (.int (i32 s)), .val (.int (i32 u)), .val (.int (i32 y + Int32.ofInt 1)), .unset] _ _ _ ⟨Or.inr rfl, Or.inr rfl, Or.inr rfl, Or.inr rfl, Or.inl rfl, trivial⟩ ?_
          rw [i32_succ]
          exact ih (y + 1) (by omega) (by omega) (by omega) hs1 hq
        refine slot_ok hW ?_
        refine ⟨s1, ⟨fun z => ?_, fun z => ⟨s1, ⟨fun z2 => ?_, fun z2 => ?_⟩⟩⟩⟩
        · have z' : A 2 (i32 s * Int32.ofInt 9 + i32 y).toInt.toNat = 0 := z
          rw [s3] at z'
          exact next (fun w => w.1 z') _
        · have z' : ¬ A 2 (i32 s * Int32.ofInt 9 + i32 y).toInt.toNat = 0 := z
          have z2' : A 3 (i32 s * Int32.ofInt 9 + i32 y).toInt.toNat = 0 := z2
          rw [s3] at z' z2'
          rw [if_pos ⟨z', z2'⟩] at hq
          exact hq
        · have z2' : ¬ A 3 (i32 s * Int32.ofInt 9 + i32 y).toInt.toNat = 0 := z2
          rw [s3] at z2'
          exact next (fun w => z2' w.2) _
  refine hW [31] 40 _ _ _ _ _ _ ?_
  refine pairInRange_ok hW (fun a b => ?_) (fun a => ?_)
  · have hs1 : 1 ≤ s ∧ s < MM I := by have := a.1; have := a.2; omega
    have hu1 : 1 ≤ u ∧ u ≤ VV I := by have := b.1; have := b.2; omega
    obtain ⟨s1, s2⟩ := sl_in hB a b
    have s3 : (i32 s * Int32.ofInt 9 + i32 u).toInt.toNat = 9 * s + u := by rw [s2, sl, si, ui]; omega
    unfold fAdj at hq
    rw [if_pos (show 1 ≤ s ∧ s < MM I ∧ 1 ≤ u ∧ u ≤ VV I by omega)] at hq
    refine ⟨fun z => absurd z n10, fun _ => ?_⟩
    refine slot_ok hW ?_
    refine ⟨s1, ⟨fun z => ?_, fun z => ?_⟩⟩
    · have z' : A 3 (i32 s * Int32.ofInt 9 + i32 u).toInt.toNat = 0 := z
      rw [s3] at z'
      rw [if_pos z'] at hq
      exact hq
    · have z' : ¬ A 3 (i32 s * Int32.ofInt 9 + i32 u).toInt.toNat = 0 := z
      rw [s3] at z'
      rw [if_neg z'] at hq
      show W k_adjust 31 [.val (.ref 1), .val (.int (i32 s)), .val (.int (i32 u)), .val (.int (i32 u + Int32.ofInt 1)), .unset] [] (mst n I A) Q
      rw [i32_succ]
      exact loop _ (u + 1) (by omega) (by omega) (by omega) hs1 hq
  · unfold fAdj at hq
    rw [if_neg (show ¬ (1 ≤ s ∧ s < MM I ∧ 1 ≤ u ∧ u ≤ VV I) from fun w => a ⟨⟨by omega, by omega⟩, ⟨by omega, by omega⟩⟩)] at hq
    exact ⟨fun _ => hq, fun z => absurd rfl z⟩
theorem addNode_ok (hW : Clo W) (hF : Fgt W) {n : Nat} {I : Nat → Int32} {A : Nat → Nat → Int32} {s u : Nat} {Q : Pst} (hB : mB I) (hs : s < 9) (hu : u < 9) (t0 : 0 ≤ (I 3).toInt) (t1 : (I 3).toInt < 81)
    (h0 : fAdj (MM I) (VV I) (A 2) (A 3) s u = 0 → Q none (mst n (fSt I 4 1) A))
    (h1 : fAdj (MM I) (VV I) (A 2) (A 3) s u ≠ 0 → ¬ A 9 (9 * s + fAdj (MM I) (VV I) (A 2) (A 3) s u) = 0 → Q none (mst n I A))
    (h2 : fAdj (MM I) (VV I) (A 2) (A 3) s u ≠ 0 → A 9 (9 * s + fAdj (MM I) (VV I) (A 2) (A 3) s u) = 0 → Q none (mst n (fSt I 3 (I 3 + Int32.ofInt 1)) (pmSet (pmSet (pmSet A 9 (9 * s + fAdj (MM I) (VV I) (A 2) (A 3) s u) 1) 10 (I 3).toInt.toNat (i32 s)) 11 (I 3).toInt.toNat (i32 (fAdj (MM I) (VV I) (A 2) (A 3) s u))))) :
    W k_addNode 0 [.val (.ref 1), .val (.int (i32 s)), .val (.int (i32 u)), .unset, .unset] [] (mst n I A) Q := by
  obtain ⟨⟨b0, b1⟩, b2, b3⟩ := id hB
  have hsp := fun w => fAdj_spec (M := MM I) (V := VV I) (L := A 2) (E := A 3) (s := s) (u := u) w
  refine hW [] 60 _ _ _ _ _ _ ?_
  refine adjust_ok hW hF hB hs hu ?_
  generalize hy : fAdj (MM I) (VV I) (A 2) (A 3) s u = y at *
  have si : (i32 s).toInt = (s : Int) := i32_toInt (by omega)
  have y9 : y < 9 := by
    by_cases e : y = 0
    · omega
    · have := (hsp e).2.2.1
      simp only [VV] at this; omega
  have yi : (i32 y).toInt = (y : Int) := i32_toInt (by omega)
  refine ⟨fun z => ?_, fun z => ?_⟩
  · have z' : i32 y = 0 := z
    have : y = 0 := by have := congrArg Int32.toInt z'; rw [yi, tI0] at this; omega
    exact h0 this
  · have z' : ¬ i32 y = 0 := z
    have yn : y ≠ 0 := fun e => z' (by rw [e]; rfl)
    obtain ⟨⟨g1, g2, g3, g4⟩, g5, g6, -⟩ := hsp yn
    simp only [MM, VV] at g2 g6
    obtain ⟨s1, s2⟩ := sl_in (m := i32 s) (x := i32 y) hB ⟨by omega, by omega⟩ ⟨by omega, by omega⟩
    have s3 : (i32 s * Int32.ofInt 9 + i32 y).toInt.toNat = 9 * s + y := by rw [s2, sl, si, yi]; omega
    refine slot_ok hW ?_
    refine ⟨s1, ⟨fun w => ?_, fun w => ?_⟩⟩
    · have w' : A 9 (i32 s * Int32.ofInt 9 + i32 y).toInt.toNat = 0 := w
      rw [s3] at w'
      refine ⟨s1, ⟨fun q => ⟨⟨t0, t1⟩, ⟨⟨t0, t1⟩, ?_⟩⟩, fun q => ?_⟩⟩
      · show Q none (mst n (fSt I 3 (I 3 + Int32.ofInt 1)) (pmSet (pmSet (pmSet A 9 (i32 s * Int32.ofInt 9 + i32 y).toInt.toNat 1) 10 (I 3).toInt.toNat (i32 s)) 11 (I 3).toInt.toNat (i32 y)))
        rw [s3]
        exact h2 yn w'
      · have q' : ¬ (I 3).toInt < (Int32.ofInt 81).toInt := q
        rw [oI81] at q'; omega
    · have w' : ¬ A 9 (i32 s * Int32.ofInt 9 + i32 y).toInt.toNat = 0 := w
      rw [s3] at w'
      exact h1 yn w'
def gIn (I : Nat → Int32) (m x : Nat) : Prop := 1 ≤ m ∧ m < MM I ∧ 1 ≤ x ∧ x ≤ VV I
def gAdj (I : Nat → Int32) (T : Nat → Nat → Int32) (s u : Nat) : Nat := fAdj (MM I) (VV I) (T 2) (T 3) s u
def gSrc (T : Nat → Nat → Int32) (m x : Nat) : Nat := if T 4 (9 * m + x) = 0 then x else (T 4 (9 * m + x)).toInt.toNat
def gReq (T : Nat → Nat → Int32) (m x s : Nat) : Nat := (T 5 (81 * m + 9 * gSrc T m x + s)).toInt.toNat
/-- the sets that hold the roots and all that they require -/
def gCL (I : Nat → Int32) (T : Nat → Nat → Int32) (rt : Nat → Nat) (P : Nat → Nat → Prop) : Prop :=
  (∀ s, 1 ≤ s → s < MM I → rt s ≠ 0 → gAdj I T s (rt s) ≠ 0 ∧ P s (gAdj I T s (rt s))) ∧
  ∀ m x, gIn I m x → P m x → ∀ s, 1 ≤ s → s < MM I → s ≠ m → gReq T m x s ≠ 0 → gAdj I T s (gReq T m x s) ≠ 0 ∧ P s (gAdj I T s (gReq T m x s))
def gWF (T : Nat → Nat → Int32) : Prop := (∀ j, j < 81 → 0 ≤ (T 4 j).toInt ∧ (T 4 j).toInt ≤ 8) ∧ ∀ j, j < 729 → 0 ≤ (T 5 j).toInt ∧ (T 5 j).toInt ≤ 8
def mk (A : Nat → Nat → Int32) (m x : Nat) : Prop := ¬ A 9 (9 * m + x) = 0
/-- A has T's tables; the workspace may differ -/
def tSame (I0 : Nat → Int32) (T : Nat → Nat → Int32) (I : Nat → Int32) (A : Nat → Nat → Int32) : Prop := I 0 = I0 0 ∧ I 1 = I0 1 ∧ ∀ r, r ≠ 8 → r ≠ 9 → r ≠ 10 → r ≠ 11 → A r = T r
/-- the search as it stands: t nodes found, h of them done -/
def bI (I0 : Nat → Int32) (T : Nat → Nat → Int32) (rt : Nat → Nat) (I : Nat → Int32) (A : Nat → Nat → Int32) (t h : Nat) : Prop :=
  tSame I0 T I A ∧ I 3 = i32 t ∧ I 2 = i32 h ∧ A 9 0 = 0 ∧ t = cntF (fun j => decide (¬ A 9 j = 0)) 81 ∧
  (∀ k, k < t → ∃ m x, gIn I0 m x ∧ A 10 k = i32 m ∧ A 11 k = i32 x ∧ mk A m x) ∧
  (∀ m x, gIn I0 m x → mk A m x → ∃ k, k < t ∧ A 10 k = i32 m ∧ A 11 k = i32 x) ∧
  (∀ P, gCL I0 T rt P → ∀ m x, gIn I0 m x → mk A m x → P m x) ∧ (¬ I 4 = 0 → ∀ P, gCL I0 T rt P → False)
theorem cntF_congr {p q : Nat → Bool} {c : Nat} (h : ∀ i, i < c → p i = q i) : cntF p c = cntF q c := by
  induction c with
  | zero => rfl
  | succ c ih => simp only [cntF]; rw [ih (fun i hi => h i (by omega)), h c (by omega)]
theorem cntF_lt {p : Nat → Bool} {c j : Nat} (hj : j < c) (h : p j = false) : cntF p c < c := by
  induction c with
  | zero => omega
  | succ c ih =>
    simp only [cntF]
    by_cases e : j = c
    · subst e; rw [if_neg (by simp [h])]; have := cntF_le p j; omega
    · have := ih (by omega); split <;> omega
theorem cntF_set {p q : Nat → Bool} {c j : Nat} (hj : j < c) (h0 : p j = false) (h1 : q j = true) (h : ∀ i, i ≠ j → p i = q i) : cntF q c = cntF p c + 1 := by
  induction c with
  | zero => omega
  | succ c ih =>
    simp only [cntF]
    by_cases e : j = c
    · subst e
      rw [cntF_congr (p := q) (q := p) (fun i hi => (h i (by omega)).symm), if_pos h1, if_neg (by simp [h0])]
    · rw [ih (by omega), h c (Ne.symm e)]; omega
theorem slot_inj {m x m' x' : Nat} (hx : 1 ≤ x) (hx8 : x ≤ 8) (hx' : 1 ≤ x') (hx8' : x' ≤ 8) (h : 9 * m + x = 9 * m' + x') : m = m' ∧ x = x' := by omega
theorem gIn_bd {I : Nat → Int32} (hB : mB I) {m x : Nat} (h : gIn I m x) : m ≤ 7 ∧ x ≤ 8 ∧ 1 ≤ m ∧ 1 ≤ x := by
  obtain ⟨a, b, c, d⟩ := h
  obtain ⟨⟨_, b1⟩, _, b3⟩ := hB
  simp only [MM, VV] at b d
  omega
theorem gAdj_in {I : Nat → Int32} {T : Nat → Nat → Int32} {s u : Nat} (h : gAdj I T s u ≠ 0) : gIn I s (gAdj I T s u) := by
  obtain ⟨⟨a, b, c, d⟩, e, f, -⟩ := fAdj_spec h
  exact ⟨a, b, by unfold gAdj at h ⊢; omega, f⟩
theorem tSame_mB {I0 I : Nat → Int32} {T A : Nat → Nat → Int32} (h : tSame I0 T I A) (hB : mB I0) : mB I := by
  unfold mB; rw [h.1, h.2.1]; exact hB
theorem tSame_adj {I0 I : Nat → Int32} {T A : Nat → Nat → Int32} (h : tSame I0 T I A) (s u : Nat) : fAdj (MM I) (VV I) (A 2) (A 3) s u = gAdj I0 T s u := by
  unfold gAdj MM VV
  rw [h.1, h.2.1, h.2.2 2 (by decide) (by decide) (by decide) (by decide), h.2.2 3 (by decide) (by decide) (by decide) (by decide)]
theorem i32_inj {a b : Nat} (ha : a < 2147483648) (hb : b < 2147483648) (h : i32 a = i32 b) : a = b := by
  have := congrArg Int32.toInt h
  rw [i32_toInt ha, i32_toInt hb] at this; omega
/-- a node that every closed set must hold is added -/
theorem addNode_b (hW : Clo W) (hF : Fgt W) {n : Nat} {I0 I : Nat → Int32} {T A : Nat → Nat → Int32} {rt : Nat → Nat} {t h s u : Nat} {Q : Pst} (hB : mB I0) (b : bI I0 T rt I A t h) (hs : s < 9) (hu : u < 9)
    (must : ∀ P, gCL I0 T rt P → gAdj I0 T s u ≠ 0 ∧ P s (gAdj I0 T s u))
    (hq : ∀ (I' : Nat → Int32) (A' : Nat → Nat → Int32) (t' : Nat), bI I0 T rt I' A' t' h → t ≤ t' → (∀ k, k < t → A' 10 k = A 10 k ∧ A' 11 k = A 11 k) → (∀ m x, mk A m x → mk A' m x) → (I' 4 = 0 → gAdj I0 T s u ≠ 0 ∧ mk A' s (gAdj I0 T s u)) → A' 8 = A 8 → Q none (mst n I' A')) :
    W k_addNode 0 [.val (.ref 1), .val (.int (i32 s)), .val (.int (i32 u)), .unset, .unset] [] (mst n I A) Q := by
  obtain ⟨bs, b3, b2, b0, bc, bq, bm, bp, bf⟩ := id b
  have tlt : t < 81 := by rw [bc]; exact cntF_lt (j := 0) (by decide) (by simp [b0])
  have ti : (I 3).toInt = (t : Int) := by rw [b3]; exact i32_toInt (by omega)
  have e := tSame_adj bs s u
  refine addNode_ok hW hF (tSame_mB bs hB) hs hu (by omega) (by omega) ?_ ?_ ?_
  · rw [e]
    intro z
    refine hq _ A t ⟨⟨bs.1, bs.2.1, bs.2.2⟩, b3, b2, b0, bc, bq, bm, bp, fun _ P hP => (must P hP).1 z⟩ (Nat.le_refl _) (fun _ _ => ⟨rfl, rfl⟩) (fun _ _ w => w) (fun w => absurd w (by show ¬ (1 : Int32) = 0; decide)) rfl
  · rw [e]
    intro z w
    exact hq I A t b (Nat.le_refl _) (fun _ _ => ⟨rfl, rfl⟩) (fun _ _ w => w) (fun _ => ⟨z, w⟩) rfl
  · rw [e]
    intro z w
    have hin := gAdj_in z
    have hbd := gIn_bd hB hin
    generalize hy : gAdj I0 T s u = y at *
    have tn : (I 3).toInt.toNat = t := by omega
    rw [tn]
    -- the new arrays
    generalize hA' : pmSet (pmSet (pmSet A 9 (9 * s + y) 1) 10 t (i32 s)) 11 t (i32 y) = A'
    have a9 : A' 9 = pmSet A 9 (9 * s + y) 1 9 := by rw [← hA', pmSet_r _ _ _ (by decide), pmSet_r _ _ _ (by decide)]
    have a9s : ∀ j, A' 9 j = if j = 9 * s + y then 1 else A 9 j := by
      intro j; rw [a9]
      by_cases e : j = 9 * s + y
      · rw [if_pos e, e]; exact pmSet_eq _ _ _ _
      · rw [if_neg e]; exact pmSet_ne _ _ _ e
    have a10 : ∀ k, A' 10 k = if k = t then i32 s else A 10 k := by
      intro k; rw [← hA', pmSet_r _ _ _ (by decide)]
      by_cases e : k = t
      · rw [if_pos e, e]; exact pmSet_eq _ _ _ _
      · rw [if_neg e, pmSet_ne _ _ _ e, pmSet_r _ _ _ (by decide)]
    have a11 : ∀ k, A' 11 k = if k = t then i32 y else A 11 k := by
      intro k; rw [← hA']
      by_cases e : k = t
      · rw [if_pos e, e]; exact pmSet_eq _ _ _ _
      · rw [if_neg e, pmSet_ne _ _ _ e, pmSet_r _ _ _ (by decide), pmSet_r _ _ _ (by decide)]
    have ar : ∀ r, r ≠ 9 → r ≠ 10 → r ≠ 11 → A' r = A r := by
      intro r h1 h2 h3; rw [← hA', pmSet_r _ _ _ h3, pmSet_r _ _ _ h2, pmSet_r _ _ _ h1]
    have mono : ∀ m x, mk A m x → mk A' m x := by
      intro m x hm; unfold mk at hm ⊢; rw [a9s]; split
      · decide
      · exact hm
    have new : mk A' s y := by unfold mk; rw [a9s, if_pos rfl]; decide
    refine hq _ A' (t + 1) ⟨⟨bs.1, bs.2.1, fun r r8 r9 r10 r11 => (ar r r9 r10 r11).trans (bs.2.2 r r8 r9 r10 r11)⟩, ?_, b2, ?_, ?_, ?_, ?_, ?_, bf⟩ (by omega) (fun k hk => ⟨by rw [a10, if_neg (by omega)], by rw [a11, if_neg (by omega)]⟩) mono (fun _ => ⟨z, new⟩) (ar 8 (by decide) (by decide) (by decide))
    · show I 3 + Int32.ofInt 1 = i32 (t + 1)
      rw [b3, i32_succ]
    · rw [a9s, if_neg (by omega)]; exact b0
    · rw [bc]
      refine (cntF_set (j := 9 * s + y) (by omega) ?_ ?_ ?_).symm
      · simp [w]
      · rw [a9s, if_pos rfl]; decide
      · intro i hi; rw [a9s, if_neg hi]
    · intro k hk
      by_cases e : k = t
      · subst e
        exact ⟨s, y, hin, by rw [a10, if_pos rfl], by rw [a11, if_pos rfl], new⟩
      · obtain ⟨m, x, q1, q2, q3, q4⟩ := bq k (by omega)
        exact ⟨m, x, q1, by rw [a10, if_neg e]; exact q2, by rw [a11, if_neg e]; exact q3, mono m x q4⟩
    · intro m x hmx hm
      by_cases e : 9 * m + x = 9 * s + y
      · have hbd2 := gIn_bd hB hmx
        obtain ⟨rfl, rfl⟩ := slot_inj (by omega) (by omega) (by omega) (by omega) e
        exact ⟨t, by omega, by rw [a10, if_pos rfl], by rw [a11, if_pos rfl]⟩
      · obtain ⟨k, k1, k2, k3⟩ := bm m x hmx (by unfold mk at hm ⊢; rwa [a9s, if_neg e] at hm)
        exact ⟨k, by omega, by rw [a10, if_neg (by omega)]; exact k2, by rw [a11, if_neg (by omega)]; exact k3⟩
    · intro P hP m x hmx hm
      by_cases e : 9 * m + x = 9 * s + y
      · have hbd2 := gIn_bd hB hmx
        obtain ⟨rfl, rfl⟩ := slot_inj (by omega) (by omega) (by omega) (by omega) e
        exact (must P hP).2
      · exact bp P hP m x hmx (by unfold mk at hm ⊢; rwa [a9s, if_neg e] at hm)
/-- all that (m, x) requires, up to s, is marked -/
def rDone (I0 : Nat → Int32) (T A : Nat → Nat → Int32) (m x lim : Nat) : Prop := ∀ s, 1 ≤ s → s < lim → s < MM I0 → s ≠ m → gReq T m x s ≠ 0 → gAdj I0 T s (gReq T m x s) ≠ 0 ∧ mk A s (gAdj I0 T s (gReq T m x s))
theorem expandNode_b (hW : Clo W) (hF : Fgt W) {n : Nat} {I0 I : Nat → Int32} {T A : Nat → Nat → Int32} {rt : Nat → Nat} {t h m x : Nat} {Q : Pst} (hB : mB I0) (hT : gWF T) (b : bI I0 T rt I A t h) (hmx : gIn I0 m x) (hmk : mk A m x) (h4 : I 4 = 0)
    (hq : ∀ (I' : Nat → Int32) (A' : Nat → Nat → Int32) (t' : Nat), bI I0 T rt I' A' t' h → t ≤ t' → (∀ k, k < t → A' 10 k = A 10 k ∧ A' 11 k = A 11 k) → (∀ m x, mk A m x → mk A' m x) → (I' 4 = 0 → rDone I0 T A' m x (MM I0)) → Q none (mst n I' A')) :
    W k_expandNode 0 [.val (.ref 1), .val (.int (i32 m)), .val (.int (i32 x)), .unset, .unset, .unset] [] (mst n I A) Q := by
  have hbd := gIn_bd hB hmx
  obtain ⟨⟨b00, b01⟩, b02, b03⟩ := id hB
  obtain ⟨hm1, hm2, hx1, hx2⟩ := id hmx
  have hMi : (I0 0).toInt = (MM I0 : Int) := by simp only [MM]; omega
  have hVi : (I0 1).toInt = (VV I0 : Int) := by simp only [VV]; omega
  have mi : (i32 m).toInt = (m : Int) := i32_toInt (by omega)
  have xi : (i32 x).toInt = (x : Int) := i32_toInt (by omega)
  have src8 : gSrc T m x ≤ 8 := by
    unfold gSrc; split
    · omega
    · have := hT.1 (9 * m + x) (by omega); omega
  -- the loop over the modules
  have loop : ∀ (c j : Nat) (z : Int32) (I' : Nat → Int32) (A' : Nat → Nat → Int32) (t' : Nat), j + c = MM I0 → 1 ≤ j → z.toInt = (gSrc T m x : Int) → bI I0 T rt I' A' t' h → t ≤ t' → (∀ k, k < t → A' 10 k = A 10 k ∧ A' 11 k = A 11 k) → (∀ m x, mk A m x → mk A' m x) → rDone I0 T A' m x j → I' 4 = 0 →
      W k_expandNode 31 [.val (.ref 1), .val (.int (i32 m)), .val (.int (i32 x)), .val (.int z), .val (.int (i32 j)), .unset] [] (mst n I' A') Q := by
    intro c
    induction c with
    | zero =>
      intro j z I' A' t' hj j1 hz b' ht hk hmo hd h4'
      have ji : (i32 j).toInt = (j : Int) := i32_toInt (by omega)
      refine hW [] 20 _ _ _ _ _ _ ?_
      refine ⟨fun q => ?_, fun q => ?_⟩
      · have q' : (i32 j).toInt < (I' 0).toInt := q
        rw [b'.1.1] at q'; omega
      · exact hq I' A' t' b' ht hk hmo (fun _ => by have : MM I0 = j := by omega
                                                    rw [this]; exact hd)
    | succ c ih =>
      intro j z I' A' t' hj j1 hz b' ht hk hmo hd h4'
      have ji : (i32 j).toInt = (j : Int) := i32_toInt (by omega)
      have idx := tI_9kk (x := i32 m) (y := z) (z := i32 j) (by omega) (by omega) (by omega) (by omega) (by omega) (by omega)
      have idn : ((i32 m * Int32.ofInt 9 + z) * Int32.ofInt 9 + i32 j).toInt.toNat = 81 * m + 9 * gSrc T m x + j := by omega
      have e5 : A' 5 ((i32 m * Int32.ofInt 9 + z) * Int32.ofInt 9 + i32 j).toInt.toNat = T 5 (81 * m + 9 * gSrc T m x + j) := by rw [idn, b'.1.2.2 5 (by decide) (by decide) (by decide) (by decide)]
      have r8 := hT.2 (81 * m + 9 * gSrc T m x + j) (by omega)
      have re : T 5 (81 * m + 9 * gSrc T m x + j) = i32 (gReq T m x j) := by unfold gReq; exact i32_of r8.1
      have rl : gReq T m x j < 9 := by unfold gReq; omega
      refine hW [31] 60 _ _ _ _ _ _ ?_
      refine ⟨fun q => ⟨fun q2 => ?_, fun q2 => ?_⟩, fun q => ?_⟩
      · -- its own module
        have q2' : i32 j = i32 m := q2
        have jm : j = m := i32_inj (by omega) (by omega) q2'
        show W k_expandNode 31 [.val (.ref 1), .val (.int (i32 m)), .val (.int (i32 x)), .val (.int z), .val (.int (i32 j + Int32.ofInt 1)), .unset] [] (mst n I' A') Q
        rw [i32_succ]
        refine ih (j + 1) z I' A' t' (by omega) (by omega) hz b' ht hk hmo (fun s s1 s2 s3 s4 => ?_) h4'
        exact hd s s1 (by omega) s3 s4
      · have q2' : ¬ i32 j = i32 m := q2
        have jm : j ≠ m := fun e => q2' (by rw [e])
        refine reqSlot_ok hW ?_
        refine ⟨?_, ⟨fun w => ⟨fun _ => ?_, fun w2 => absurd h4' w2⟩, fun w => ?_⟩⟩
        · show 0 ≤ ((i32 m * Int32.ofInt 9 + z) * Int32.ofInt 9 + i32 j).toInt ∧ ((i32 m * Int32.ofInt 9 + z) * Int32.ofInt 9 + i32 j).toInt < 729; omega
        · have w' : A' 5 ((i32 m * Int32.ofInt 9 + z) * Int32.ofInt 9 + i32 j).toInt.toNat = 0 := w
          rw [e5, re] at w'
          have r0 : gReq T m x j = 0 := i32_inj (by omega) (by omega) (b := 0) w'
          show W k_expandNode 31 [.val (.ref 1), .val (.int (i32 m)), .val (.int (i32 x)), .val (.int z), .val (.int (i32 j + Int32.ofInt 1)), .val (.int (A' 5 ((i32 m * Int32.ofInt 9 + z) * Int32.ofInt 9 + i32 j).toInt.toNat))] [] (mst n I' A') Q
          refine hF _ _ _ [.val (.ref 1), .val (.int (i32 m)), .val (.int (i32 x)), .val (.int z), .val (.int (i32 j + Int32.ofInt 1)), .unset] _ _ _ ⟨Or.inr rfl, Or.inr rfl, Or.inr rfl, Or.inr rfl, Or.inr rfl, Or.inl rfl, trivial⟩ ?_
          rw [i32_succ]
          refine ih (j + 1) z I' A' t' (by omega) (by omega) hz b' ht hk hmo (fun s s1 s2 s3 s4 s5 => ?_) h4'
          by_cases e : s = j
          · subst e; exact absurd r0 s5
          · exact hd s s1 (by omega) s3 s4 s5
        · have w' : ¬ A' 5 ((i32 m * Int32.ofInt 9 + z) * Int32.ofInt 9 + i32 j).toInt.toNat = 0 := w
          rw [e5, re] at w'
          have r0 : gReq T m x j ≠ 0 := fun e => w' (by rw [e]; rfl)
          show W k_addNode 0 [.val (.ref 1), .val (.int (i32 j)), .val (.int (A' 5 ((i32 m * Int32.ofInt 9 + z) * Int32.ofInt 9 + i32 j).toInt.toNat)), .unset, .unset] [] (mst n I' A') _
          rw [e5, re]
          refine addNode_b hW hF hB b' (by omega) rl (fun P hP => hP.2 m x hmx (b'.2.2.2.2.2.2.2.1 P hP m x hmx (hmo m x hmk)) j j1 (by omega) jm r0) fun I2 A2 t2 b2 g1 g2 g3 g4 g5 => ?_
          have key : rDone I0 T A2 m x j := fun s s1 s2 s3 s4 s5 => ⟨(hd s s1 s2 s3 s4 s5).1, g3 _ _ (hd s s1 s2 s3 s4 s5).2⟩
          refine ⟨fun f0 => ?_, fun f0 => ?_⟩
          · have f0' : I2 4 = 0 := f0
            show W k_expandNode 31 [.val (.ref 1), .val (.int (i32 m)), .val (.int (i32 x)), .val (.int z), .val (.int (i32 j + Int32.ofInt 1)), .val (.int (A' 5 ((i32 m * Int32.ofInt 9 + z) * Int32.ofInt 9 + i32 j).toInt.toNat))] [] (mst n I2 A2) Q
            refine hF _ _ _ [.val (.ref 1), .val (.int (i32 m)), .val (.int (i32 x)), .val (.int z), .val (.int (i32 j + Int32.ofInt 1)), .unset] _ _ _ ⟨Or.inr rfl, Or.inr rfl, Or.inr rfl, Or.inr rfl, Or.inr rfl, Or.inl rfl, trivial⟩ ?_
            rw [i32_succ]
            refine ih (j + 1) z I2 A2 t2 (by omega) (by omega) hz b2 (by omega) (fun k hk' => ⟨(g2 k (by omega)).1.trans (hk k hk').1, (g2 k (by omega)).2.trans (hk k hk').2⟩) (fun m' x' w => g3 m' x' (hmo m' x' w)) (fun s s1 s2 s3 s4 s5 => ?_) f0'
            by_cases e : s = j
            · subst e; exact g4 f0'
            · exact key s s1 (by omega) s3 s4 s5
          · have f0' : ¬ I2 4 = 0 := f0
            exact hq I2 A2 t2 b2 (by omega) (fun k hk' => ⟨(g2 k (by omega)).1.trans (hk k hk').1, (g2 k (by omega)).2.trans (hk k hk').2⟩) (fun m' x' w => g3 m' x' (hmo m' x' w)) (fun w => absurd w f0')
      · have q' : ¬ (i32 j).toInt < (I' 0).toInt := q
        rw [b'.1.1] at q'; omega
  obtain ⟨s1, s2⟩ := sl_in (m := i32 m) (x := i32 x) (tSame_mB b.1 hB) ⟨by omega, by rw [b.1.1]; omega⟩ ⟨by omega, by rw [b.1.2.1]; omega⟩
  have s3 : (i32 m * Int32.ofInt 9 + i32 x).toInt.toNat = 9 * m + x := by rw [s2, sl, mi, xi]; omega
  have e4 : A 4 (i32 m * Int32.ofInt 9 + i32 x).toInt.toNat = T 4 (9 * m + x) := by rw [s3, b.1.2.2 4 (by decide) (by decide) (by decide) (by decide)]
  refine hW [31] 60 _ _ _ _ _ _ ?_
  refine pairInRange_ok hW (fun _ _ => ?_) (fun a => absurd ⟨⟨by omega, by rw [b.1.1]; omega⟩, ⟨by omega, by rw [b.1.2.1]; omega⟩⟩ a)
  refine ⟨fun z => absurd z n10, fun _ => ?_⟩
  refine slot_ok hW ?_
  refine ⟨s1, ⟨fun w => ?_, fun w => ?_⟩⟩
  · have w' : A 4 (i32 m * Int32.ofInt 9 + i32 x).toInt.toNat = 0 := w
    rw [e4] at w'
    refine loop (MM I0 - 1) 1 (i32 x) I A t (by omega) (by omega) ?_ b (Nat.le_refl _) (fun _ _ => ⟨rfl, rfl⟩) (fun _ _ w => w) (fun s s1 s2 => by omega) h4
    rw [xi]; unfold gSrc; rw [if_pos w']
  · have w' : ¬ A 4 (i32 m * Int32.ofInt 9 + i32 x).toInt.toNat = 0 := w
    rw [e4] at w'
    refine loop (MM I0 - 1) 1 (A 4 (i32 m * Int32.ofInt 9 + i32 x).toInt.toNat) I A t (by omega) (by omega) ?_ b (Nat.le_refl _) (fun _ _ => ⟨rfl, rfl⟩) (fun _ _ w => w) (fun s s1 s2 => by omega) h4
    rw [e4]; unfold gSrc; rw [if_neg w']
    have := hT.1 (9 * m + x) (by omega); omega
theorem drainQueue_b (hW : Clo W) (hF : Fgt W) {n : Nat} {I0 I : Nat → Int32} {T A : Nat → Nat → Int32} {rt : Nat → Nat} {t : Nat} {Q : Pst} (hB : mB I0) (hT : gWF T) (b : bI I0 T rt I A t 0)
    (hq : ∀ (I' : Nat → Int32) (A' : Nat → Nat → Int32) (t' h' : Nat), bI I0 T rt I' A' t' h' → (∀ m x, mk A m x → mk A' m x) → (I' 4 = 0 → ∀ m x, gIn I0 m x → mk A' m x → rDone I0 T A' m x (MM I0)) → Q none (mst n I' A')) :
    W k_drainQueue 0 [.val (.ref 1), .unset, .unset, .unset] [] (mst n I A) Q := by
  have loop : ∀ (c k : Nat) (I' : Nat → Int32) (A' : Nat → Nat → Int32) (t' : Nat), k + c = 81 → k ≤ t' → bI I0 T rt I' A' t' k → (∀ m x, mk A m x → mk A' m x) → (I' 4 = 0 → ∀ i, i < k → ∀ m x, gIn I0 m x → A' 10 i = i32 m → A' 11 i = i32 x → rDone I0 T A' m x (MM I0)) →
      W k_drainQueue 2 [.val (.ref 1), .val (.int (i32 k)), .unset, .unset] [] (mst n I' A') Q := by
    intro c
    induction c with
    | zero =>
      intro k I' A' t' hk hkt b' hmo hc
      obtain ⟨bs, b3, b2, b0, bc, bq, bm, bp, bf⟩ := id b'
      have tlt : t' < 81 := by rw [bc]; exact cntF_lt (j := 0) (by decide) (by simp [b0])
      omega
    | succ c ih =>
      intro k I' A' t' hk hkt b' hmo hc
      obtain ⟨bs, b3, b2, b0, bc, bq, bm, bp, bf⟩ := id b'
      have tlt : t' < 81 := by rw [bc]; exact cntF_lt (j := 0) (by decide) (by simp [b0])
      have ki : (i32 k).toInt = (k : Int) := i32_toInt (by omega)
      have hi : (I' 2).toInt = (k : Int) := by rw [b2]; exact ki
      have ti : (I' 3).toInt = (t' : Int) := by rw [b3]; exact i32_toInt (by omega)
      refine hW [2] 60 _ _ _ _ _ _ ?_
      refine ⟨fun q => ⟨fun f0 => ⟨fun q2 => ?_, fun q2 => ?_⟩, fun f0 => ?_⟩, fun q => ?_⟩
      · have f0' : I' 4 = 0 := f0
        have q2' : (I' 2).toInt < (I' 3).toInt := q2
        have hn : (I' 2).toInt.toNat = k := by omega
        refine ⟨?_, ⟨?_, ?_⟩⟩
        · show 0 ≤ (I' 2).toInt ∧ (I' 2).toInt < 81; omega
        · show 0 ≤ (I' 2).toInt ∧ (I' 2).toInt < 81; omega
        · obtain ⟨m, x, g1, g2, g3, g4⟩ := bq k (by omega)
          show W k_expandNode 0 [.val (.ref 1), .val (.int (A' 10 (I' 2).toInt.toNat)), .val (.int (A' 11 (I' 2).toInt.toNat)), .unset, .unset, .unset] [] (mst n (fSt I' 2 (I' 2 + Int32.ofInt 1)) A') _
          rw [hn, g2, g3]
          have b1 : bI I0 T rt (fSt I' 2 (I' 2 + Int32.ofInt 1)) A' t' (k + 1) := ⟨bs, b3, by show I' 2 + Int32.ofInt 1 = i32 (k + 1); rw [b2, i32_succ], b0, bc, bq, bm, bp, bf⟩
          refine expandNode_b hW hF hB hT b1 g1 g4 f0' fun I2 A2 t2 b2' e1 e2 e3 e4 => ?_
          show W k_drainQueue 2 [.val (.ref 1), .val (.int (i32 k + Int32.ofInt 1)), .val (.int (A' 10 k)), .val (.int (A' 11 k))] [] (mst n I2 A2) Q
          refine hF _ _ _ [.val (.ref 1), .val (.int (i32 k + Int32.ofInt 1)), .unset, .unset] _ _ _ ⟨Or.inr rfl, Or.inr rfl, Or.inl rfl, Or.inl rfl, trivial⟩ ?_
          rw [i32_succ]
          refine ih (k + 1) I2 A2 t2 (by omega) (by omega) b2' (fun m' x' w => e3 m' x' (hmo m' x' w)) (fun f2 i hi' m' x' g1' a10 a11 => ?_)
          by_cases ei : i = k
          · subst ei
            rw [(e2 i (by omega)).1, g2] at a10
            rw [(e2 i (by omega)).2, g3] at a11
            have hbd := gIn_bd hB g1
            have hbd' := gIn_bd hB g1'
            have em : m = m' := i32_inj (by omega) (by omega) a10
            have ex : x = x' := i32_inj (by omega) (by omega) a11
            subst em ex
            exact e4 f2
          · rw [(e2 i (by omega)).1] at a10
            rw [(e2 i (by omega)).2] at a11
            intro s s1 s2 s3 s4 s5
            obtain ⟨w1, w2⟩ := hc f0' i (by omega) m' x' g1' a10 a11 s s1 s2 s3 s4 s5
            exact ⟨w1, e3 _ _ w2⟩
      · have q2' : ¬ (I' 2).toInt < (I' 3).toInt := q2
        refine hq I' A' t' k b' hmo (fun f0' m x g1 g2 => ?_)
        obtain ⟨i, i1, i2, i3⟩ := bm m x g1 g2
        exact hc f0' i (by omega) m x g1 i2 i3
      · have f0' : ¬ I' 4 = 0 := f0
        exact hq I' A' t' k b' hmo (fun w => absurd w f0')
      · have q' : ¬ (i32 k).toInt < (Int32.ofInt 81).toInt := q
        rw [oI81] at q'; omega
  refine hW [2] 20 _ _ _ _ _ _ ?_
  exact loop 81 0 I A t (by omega) (Nat.zero_le _) b (fun _ _ w => w) (fun _ i hi => by omega)
theorem bestF_spec (N : Nat → Int32) (s : Nat) (V : Nat) : bestF N s V ≤ V ∧ (bestF N s V ≠ 0 → ¬ N (9 * s + bestF N s V) = 0) ∧ ∀ x, 1 ≤ x → x ≤ V → ¬ N (9 * s + x) = 0 → x ≤ bestF N s V := by
  induction V with
  | zero => exact ⟨Nat.le_refl _, fun h => absurd rfl h, fun x h1 h2 => by omega⟩
  | succ V ih =>
    simp only [bestF]
    obtain ⟨a, b, c⟩ := ih
    split
    · rename_i h
      refine ⟨by omega, b, fun x h1 h2 h3 => ?_⟩
      by_cases e : x = V + 1
      · subst e; exact absurd h h3
      · exact c x h1 (by omega) h3
    · rename_i h
      exact ⟨Nat.le_refl _, fun _ => h, fun x h1 h2 h3 => h2⟩
/-- what a build selects -/
def gSel (I : Nat → Int32) (T : Nat → Nat → Int32) (rt : Nat → Nat) (sel : Nat → Nat) : Prop :=
  ∃ N : Nat → Nat → Prop, gCL I T rt N ∧ (∀ P, gCL I T rt P → ∀ m x, N m x → P m x) ∧ (∀ m x, N m x → gIn I m x) ∧ ∀ s, 1 ≤ s → s < MM I → sel s ≤ VV I ∧ (sel s ≠ 0 → N s (sel s)) ∧ ∀ x, N s x → x ≤ sel s
def rtA (A : Nat → Nat → Int32) (r : Nat) : Nat → Nat := fun s => (A r s).toInt.toNat
theorem runBuild_ok (hW : Clo W) (hF : Fgt W) {n : Nat} {I : Nat → Int32} {A : Nat → Nat → Int32} {Q : Pst} (hB : mB I) (hT : gWF A) (h7 : ∀ s, s < 9 → 0 ≤ (A 7 s).toInt ∧ (A 7 s).toInt ≤ 8)
    (h1 : ∀ (I' : Nat → Int32) (A' : Nat → Nat → Int32) (sel : Nat → Nat), tSame I A I' A' → gSel I A (rtA A 7) sel → (∀ s, 1 ≤ s → s < MM I → A' 8 s = i32 (sel s)) → Q (some (.int 1)) (mst n I' A'))
    (h0 : ∀ (I' : Nat → Int32) (A' : Nat → Nat → Int32), tSame I A I' A' → (∀ P, gCL I A (rtA A 7) P → False) → Q (some (.int 0)) (mst n I' A')) :
    W k_runBuild 0 [.val (.ref 1), .unset] [] (mst n I A) Q := by
  obtain ⟨⟨b00, b01⟩, b02, b03⟩ := id hB
  have hMi : (I 0).toInt = (MM I : Int) := by simp only [MM]; omega
  have hVi : (I 1).toInt = (VV I : Int) := by simp only [VV]; omega
  refine hW [6] 20 _ _ _ _ _ _ ?_
  refine resetBuild_ok hW fun A1 z9 z8 zr => ?_
  have start : bI I A (rtA A 7) (rI I) A1 0 0 := by
    refine ⟨⟨rfl, rfl, fun r r8 r9 _ _ => zr r r8 r9⟩, rfl, rfl, z9 0 (by decide), ?_, fun k hk => by omega, fun m x hmx hm => ?_, fun P _ m x hmx hm => ?_, fun w => absurd rfl w⟩
    · have : ∀ c, c ≤ 81 → cntF (fun j => decide (¬ A1 9 j = 0)) c = 0 := by
        intro c
        induction c with
        | zero => intro _; rfl
        | succ c ih => intro hc; simp only [cntF]; rw [ih (by omega), if_neg (by simp [z9 c (by omega)])]
      exact (this 81 (Nat.le_refl _)).symm
    · have := gIn_bd hB hmx; exact absurd (z9 _ (by omega)) hm
    · have := gIn_bd hB hmx; exact absurd (z9 _ (by omega)) hm
  have loop : ∀ (c j : Nat) (I' : Nat → Int32) (A' : Nat → Nat → Int32) (t' : Nat), j + c = MM I → 1 ≤ j → bI I A (rtA A 7) I' A' t' 0 → (∀ s, 1 ≤ s → s < j → rtA A 7 s ≠ 0 → gAdj I A s (rtA A 7 s) ≠ 0 ∧ mk A' s (gAdj I A s (rtA A 7 s))) → I' 4 = 0 →
      W k_runBuild 6 [.val (.ref 1), .val (.int (i32 j))] [] (mst n I' A') Q := by
    intro c
    induction c with
    | zero =>
      intro j I' A' t' hj j1 b' hr f0
      have ji : (i32 j).toInt = (j : Int) := i32_toInt (by omega)
      refine hW [] 40 _ _ _ _ _ _ ?_
      refine ⟨fun q => ?_, fun q => ?_⟩
      · have q' : (i32 j).toInt < (I' 0).toInt := q
        rw [b'.1.1] at q'; omega
      · refine drainQueue_b hW hF hB hT b' fun I2 A2 t2 k2 b2 mo dn => ?_
        refine ⟨fun w => ?_, fun w => ?_⟩
        · have w' : I2 4 = 0 := w
          refine computeSelection_ok hW hF (tSame_mB b2.1 hB) fun A3 y8 yr => ?_
          have i0 : I2 0 = I 0 := b2.1.1
          have i1 : I2 1 = I 1 := b2.1.2.1
          have cl : gCL I A (rtA A 7) (fun m x => gIn I m x ∧ mk A2 m x) := by
            refine ⟨fun s s1 s2 s3 => ?_, fun m x g1 g2 s s1 s2 s3 s4 => ?_⟩
            · obtain ⟨w1, w2⟩ := hr s s1 (by omega) s3
              exact ⟨w1, gAdj_in w1, mo _ _ w2⟩
            · obtain ⟨w1, w2⟩ := dn w' m x g1 g2.2 s s1 s2 s2 s3 s4
              exact ⟨w1, gAdj_in w1, w2⟩
          refine h1 I2 A3 (fun s => bestF (A2 9) s (VV I)) ⟨i0, i1, fun r r8 r9 r10 r11 => (yr r r8).trans (b2.1.2.2 r r8 r9 r10 r11)⟩ ⟨_, cl, fun P hP m x hm => b2.2.2.2.2.2.2.2.1 P hP m x hm.1 hm.2, fun m x hm => hm.1, fun s s1 s2 => ?_⟩ (fun s s1 s2 => ?_)
          · obtain ⟨p1, p2, p3⟩ := bestF_spec (A2 9) s (VV I)
            exact ⟨p1, fun w => ⟨⟨s1, s2, by omega, p1⟩, p2 w⟩, fun x hx => p3 x hx.1.2.2.1 hx.1.2.2.2 hx.2⟩
          · have := y8 s s1 (by rw [i0]; omega)
            rw [this, i1]
        · have w' : ¬ I2 4 = 0 := w
          exact h0 I2 A2 b2.1 (b2.2.2.2.2.2.2.2.2 w')
    | succ c ih =>
      intro j I' A' t' hj j1 b' hr f0
      have ji : (i32 j).toInt = (j : Int) := i32_toInt (by omega)
      have jn : (i32 j).toInt.toNat = j := by omega
      have r8 := h7 j (by omega)
      have e7 : A' 7 (i32 j).toInt.toNat = i32 (rtA A 7 j) := by
        rw [jn, b'.1.2.2 7 (by decide) (by decide) (by decide) (by decide)]; unfold rtA; exact i32_of r8.1
      have rl : rtA A 7 j < 9 := by unfold rtA; omega
      refine hW [6] 60 _ _ _ _ _ _ ?_
      refine ⟨fun q => ⟨?_, ⟨fun w => ⟨fun _ => ?_, fun w2 => absurd f0 w2⟩, fun w => ⟨?_, ?_⟩⟩⟩, fun q => ?_⟩
      · show 0 ≤ (i32 j).toInt ∧ (i32 j).toInt < 9; omega
      · have w' : A' 7 (i32 j).toInt.toNat = 0 := w
        rw [e7] at w'
        have r0 : rtA A 7 j = 0 := i32_inj (by omega) (by omega) (b := 0) w'
        show W k_runBuild 6 [.val (.ref 1), .val (.int (i32 j + Int32.ofInt 1))] [] (mst n I' A') Q
        rw [i32_succ]
        refine ih (j + 1) I' A' t' (by omega) (by omega) b' (fun s s1 s2 s3 => ?_) f0
        by_cases e : s = j
        · subst e; exact absurd r0 s3
        · exact hr s s1 (by omega) s3
      · show 0 ≤ (i32 j).toInt ∧ (i32 j).toInt < 9; omega
      · have w' : ¬ A' 7 (i32 j).toInt.toNat = 0 := w
        rw [e7] at w'
        have r0 : rtA A 7 j ≠ 0 := fun e => w' (by rw [e]; rfl)
        show W k_addNode 0 [.val (.ref 1), .val (.int (i32 j)), .val (.int (A' 7 (i32 j).toInt.toNat)), .unset, .unset] [] (mst n I' A') _
        rw [e7]
        refine addNode_b hW hF hB b' (by omega) rl (fun P hP => hP.1 j j1 (by omega) r0) fun I2 A2 t2 b2 g1 g2 g3 g4 g5 => ?_
        refine ⟨fun w2 => ?_, fun w2 => ?_⟩
        · have w2' : I2 4 = 0 := w2
          show W k_runBuild 6 [.val (.ref 1), .val (.int (i32 j + Int32.ofInt 1))] [] (mst n I2 A2) Q
          rw [i32_succ]
          refine ih (j + 1) I2 A2 t2 (by omega) (by omega) b2 (fun s s1 s2 s3 => ?_) w2'
          by_cases e : s = j
          · subst e; exact g4 w2'
          · obtain ⟨v1, v2⟩ := hr s s1 (by omega) s3
            exact ⟨v1, g3 _ _ v2⟩
        · have w2' : ¬ I2 4 = 0 := w2
          exact h0 I2 A2 b2.1 (b2.2.2.2.2.2.2.2.2 w2')
      · have q' : ¬ (i32 j).toInt < (I' 0).toInt := q
        rw [b'.1.1] at q'; omega
  exact loop (MM I - 1) 1 (rI I) A1 0 (by omega) (by omega) start (fun s s1 s2 => by omega) rfl
/-! two roots lists that agree, two tables that agree -/
theorem gCL_congr {I I' : Nat → Int32} {T T' : Nat → Nat → Int32} {rt rt' : Nat → Nat} {P : Nat → Nat → Prop} (i0 : I' 0 = I 0) (i1 : I' 1 = I 1) (h2 : T' 2 = T 2) (h3 : T' 3 = T 3) (h4 : T' 4 = T 4) (h5 : T' 5 = T 5) (hr : ∀ s, 1 ≤ s → s < MM I → rt' s = rt s) (h : gCL I T rt P) : gCL I' T' rt' P := by
  have eM : MM I' = MM I := by simp only [MM, i0]
  have eV : VV I' = VV I := by simp only [VV, i1]
  have ea : ∀ s u, gAdj I' T' s u = gAdj I T s u := fun s u => by unfold gAdj; rw [eM, eV, h2, h3]
  have es : ∀ m x, gSrc T' m x = gSrc T m x := fun m x => by unfold gSrc; rw [h4]
  have eq : ∀ m x s, gReq T' m x s = gReq T m x s := fun m x s => by unfold gReq; rw [h5, es]
  obtain ⟨c1, c2⟩ := h
  refine ⟨fun s s1 s2 s3 => ?_, fun m x g1 g2 s s1 s2 s3 s4 => ?_⟩
  · rw [eM] at s2; rw [hr s s1 s2] at s3 ⊢; rw [ea]; exact c1 s s1 s2 s3
  · rw [eM] at s2; rw [eq] at s4 ⊢; rw [ea]
    exact c2 m x (by unfold gIn at g1 ⊢; rw [eM, eV] at g1; exact g1) g2 s s1 s2 s3 s4
theorem gSel_congr {I I' : Nat → Int32} {T T' : Nat → Nat → Int32} {rt rt' sel : Nat → Nat} (i0 : I' 0 = I 0) (i1 : I' 1 = I 1) (h2 : T' 2 = T 2) (h3 : T' 3 = T 3) (h4 : T' 4 = T 4) (h5 : T' 5 = T 5) (hr : ∀ s, 1 ≤ s → s < MM I → rt' s = rt s) (h : gSel I T rt sel) : gSel I' T' rt' sel := by
  have eM : MM I' = MM I := by simp only [MM, i0]
  have eV : VV I' = VV I := by simp only [VV, i1]
  obtain ⟨N, a, b, c, d⟩ := h
  refine ⟨N, gCL_congr i0 i1 h2 h3 h4 h5 hr a, fun P hP m x hm => b P (gCL_congr i0.symm i1.symm h2.symm h3.symm h4.symm h5.symm (fun s s1 s2 => (hr s s1 (by rw [eM] at s2; exact s2)).symm) hP) m x hm, fun m x hm => ?_, fun s s1 s2 => ?_⟩
  · have := c m x hm; unfold gIn at this ⊢; rw [eM, eV]; exact this
  · rw [eV]; exact d s s1 (by rw [eM] at s2; exact s2)
/-- the build is one -/
theorem gSel_uniq {I : Nat → Int32} {T : Nat → Nat → Int32} {rt sel sel' : Nat → Nat} (h : gSel I T rt sel) (h' : gSel I T rt sel') : ∀ s, 1 ≤ s → s < MM I → sel s = sel' s := by
  obtain ⟨N, a, b, c, d⟩ := h
  obtain ⟨N', a', b', c', d'⟩ := h'
  intro s s1 s2
  obtain ⟨d1, d2, d3⟩ := d s s1 s2
  obtain ⟨e1, e2, e3⟩ := d' s s1 s2
  apply Nat.le_antisymm
  · by_cases z : sel s = 0
    · omega
    · exact e3 _ (b N' a' _ _ (d2 z))
  · by_cases z : sel' s = 0
    · omega
    · exact d3 _ (b' N a _ _ (e2 z))
/-- tables as a law sees them: workspace and roots set aside -/
def pSame (I : Nat → Int32) (A : Nat → Nat → Int32) (I' : Nat → Int32) (A' : Nat → Nat → Int32) : Prop := I' 0 = I 0 ∧ I' 1 = I 1 ∧ ∀ r, r ≠ 7 → r ≠ 8 → r ≠ 9 → r ≠ 10 → r ≠ 11 → A' r = A r
theorem pSame.refl (I : Nat → Int32) (A : Nat → Nat → Int32) : pSame I A I A := ⟨rfl, rfl, fun _ _ _ _ _ _ => rfl⟩
theorem pSame.trans {I I' I'' : Nat → Int32} {A A' A'' : Nat → Nat → Int32} (h : pSame I A I' A') (h' : pSame I' A' I'' A'') : pSame I A I'' A'' := ⟨h'.1.trans h.1, h'.2.1.trans h.2.1, fun r a b c d e => (h'.2.2 r a b c d e).trans (h.2.2 r a b c d e)⟩
def mWF (A : Nat → Nat → Int32) : Prop := gWF A ∧ ∀ s, s < 9 → 0 ≤ (A 6 s).toInt ∧ (A 6 s).toInt ≤ 8
theorem buildCurrent_ok (hW : Clo W) (hF : Fgt W) {n : Nat} {I : Nat → Int32} {A : Nat → Nat → Int32} {Q : Pst} (hB : mB I) (hT : mWF A)
    (h1 : ∀ (I' : Nat → Int32) (A' : Nat → Nat → Int32) (sel : Nat → Nat), pSame I A I' A' → gSel I A (rtA A 6) sel → (∀ s, 1 ≤ s → s < MM I → A' 8 s = i32 (sel s)) → Q (some (.int 1)) (mst n I' A'))
    (h0 : ∀ (I' : Nat → Int32) (A' : Nat → Nat → Int32), pSame I A I' A' → (∀ P, gCL I A (rtA A 6) P → False) → Q (some (.int 0)) (mst n I' A')) :
    W k_buildCurrent 0 [.val (.ref 1)] [] (mst n I A) Q := by
  refine hW [] 20 _ _ _ _ _ _ ?_
  refine loadMainRoots_ok hW hB fun A1 y7 yr => ?_
  have hMi : (I 0).toInt = (MM I : Int) := by obtain ⟨⟨_, _⟩, _⟩ := id hB; simp only [MM]; omega
  have hr : ∀ s, 1 ≤ s → s < MM I → rtA A1 7 s = rtA A 6 s := by
    intro s s1 s2
    obtain ⟨⟨_, b1⟩, _⟩ := id hB
    unfold rtA; rw [y7 s (by omega), if_pos (by omega)]
  have e : ∀ r, r ≠ 7 → A1 r = A r := yr
  refine runBuild_ok hW hF hB ?_ ?_ (fun I' A' sel t g s8 => ?_) (fun I' A' t g => ?_)
  · unfold gWF; rw [yr 4 (by decide), yr 5 (by decide)]; exact hT.1
  · intro s hs; rw [y7 s hs]; split
    · exact hT.2 s hs
    · exact ⟨by decide, by decide⟩
  · exact h1 I' A' sel ⟨t.1, t.2.1, fun r r7 r8 r9 r10 r11 => (t.2.2 r r8 r9 r10 r11).trans (yr r r7)⟩ (gSel_congr rfl rfl (yr 2 (by decide)).symm (yr 3 (by decide)).symm (yr 4 (by decide)).symm (yr 5 (by decide)).symm (fun s s1 s2 => (hr s s1 s2).symm) g) s8
  · exact h0 I' A' ⟨t.1, t.2.1, fun r r7 r8 r9 r10 r11 => (t.2.2 r r8 r9 r10 r11).trans (yr r r7)⟩ (fun P hP => g P (gCL_congr rfl rfl (yr 2 (by decide)) (yr 3 (by decide)) (yr 4 (by decide)) (yr 5 (by decide)) hr hP))
def tb (A : Nat → Nat → Int32) : Prop := ∀ j, j < 81 → (A 2 j = 0 ∨ A 2 j = 1) ∧ (A 3 j = 0 ∨ A 3 j = 1)
theorem sl_lt {I : Nat → Int32} (hB : mB I) {m x : Int32} (hm : mR I m) (hx : vR I x) : sl m x < 81 := by
  obtain ⟨⟨_, b1⟩, _, b2⟩ := hB
  obtain ⟨c1, c2⟩ := hm
  obtain ⟨d1, d2⟩ := hx
  unfold sl; omega
def isL (I : Nat → Int32) (A : Nat → Nat → Int32) (m x : Int32) : Prop := mR I m ∧ vR I x ∧ ¬ A 2 (sl m x) = 0
def isE (I : Nat → Int32) (A : Nat → Nat → Int32) (m x : Int32) : Prop := mR I m ∧ vR I x ∧ ¬ A 3 (sl m x) = 0
theorem isListed_b (hW : Clo W) {n : Nat} {I : Nat → Int32} {A : Nat → Nat → Int32} {m x : Int32} {Q : Pst} (hB : mB I) (ht : tb A) (h1 : isL I A m x → Q (some (.int 1)) (mst n I A)) (h0 : ¬ isL I A m x → Q (some (.int 0)) (mst n I A)) :
    W k_isListed 0 [.val (.ref 1), .val (.int m), .val (.int x)] [] (mst n I A) Q := by
  refine isListed_ok hW hB (fun a => h0 fun w => a ⟨w.1, w.2.1⟩) (fun a b => ?_)
  rcases (ht _ (sl_lt hB a b)).1 with e | e
  · rw [e]; exact h0 fun w => w.2.2 e
  · rw [e]; exact h1 ⟨a, b, by rw [e]; decide⟩
theorem isExcluded_b (hW : Clo W) {n : Nat} {I : Nat → Int32} {A : Nat → Nat → Int32} {m x : Int32} {Q : Pst} (hB : mB I) (ht : tb A) (h1 : isE I A m x → Q (some (.int 1)) (mst n I A)) (h0 : ¬ isE I A m x → Q (some (.int 0)) (mst n I A)) :
    W k_isExcluded 0 [.val (.ref 1), .val (.int m), .val (.int x)] [] (mst n I A) Q := by
  refine isExcluded_ok hW hB (fun a => h0 fun w => a ⟨w.1, w.2.1⟩) (fun a b => ?_)
  rcases (ht _ (sl_lt hB a b)).2 with e | e
  · rw [e]; exact h0 fun w => w.2.2 e
  · rw [e]; exact h1 ⟨a, b, by rw [e]; decide⟩
/-- the place of a requirement -/
def rsl (m x s : Int32) : Nat := 81 * m.toInt.toNat + 9 * x.toInt.toNat + s.toInt.toNat
theorem rsl_in {I : Nat → Int32} (hB : mB I) {m x s : Int32} (hm : mR I m) (hx : vR I x) (hs : mR I s) : (0 ≤ ((m * Int32.ofInt 9 + x) * Int32.ofInt 9 + s).toInt ∧ ((m * Int32.ofInt 9 + x) * Int32.ofInt 9 + s).toInt < 729) ∧ ((m * Int32.ofInt 9 + x) * Int32.ofInt 9 + s).toInt.toNat = rsl m x s := by
  obtain ⟨⟨_, b1⟩, _, b2⟩ := hB
  obtain ⟨c1, c2⟩ := hm
  obtain ⟨d1, d2⟩ := hx
  obtain ⟨e1, e2⟩ := hs
  have := tI_9kk (x := m) (y := x) (z := s) (by omega) (by omega) (by omega) (by omega) (by omega) (by omega)
  unfold rsl; omega
def rqOk (I : Nat → Int32) (m x s u : Int32) : Prop := mR I m ∧ vR I x ∧ mR I s ∧ ¬ s = m ∧ vN I u
theorem requireArgsOk_ok (hW : Clo W) {n : Nat} {I : Nat → Int32} {A : Nat → Nat → Int32} {m x s u : Int32} {Q : Pst} (h1 : rqOk I m x s u → Q (some (.int 1)) (mst n I A)) (h0 : ¬ rqOk I m x s u → Q (some (.int 0)) (mst n I A)) :
    W k_requireArgsOk 0 [.val (.ref 1), .val (.int m), .val (.int x), .val (.int s), .val (.int u)] [] (mst n I A) Q := by
  refine hW [] 40 _ _ _ _ _ _ ?_
  refine pairInRange_ok hW (fun a b => ?_) (fun a => ⟨fun _ => h0 fun w => a ⟨w.1, w.2.1⟩, fun z => absurd rfl z⟩)
  refine ⟨fun z => absurd z n10, fun _ => ?_⟩
  refine modInRange_ok hW (fun c => ?_) (fun c => ⟨fun _ => h0 fun w => c w.2.2.1, fun z => absurd rfl z⟩)
  refine ⟨fun z => absurd z n10, fun _ => ⟨fun e => h0 fun w => w.2.2.2.1 e, fun e => ?_⟩⟩
  exact verOrNone_ok hW (fun d => h1 ⟨a, b, c, e, d⟩) (fun d => h0 fun w => d w.2.2.2.2)
theorem require_ok (hW : Clo W) {n : Nat} {I : Nat → Int32} {A : Nat → Nat → Int32} {m x s u : Int32} {Q : Pst} (hB : mB I) (ht : tb A)
    (h0 : ¬ rqOk I m x s u → Q (some (.int (-1))) (mst n I A)) (h1 : rqOk I m x s u → ¬ (isL I A m x ∧ (u = 0 ∨ isL I A s u)) → Q (some (.int (-2))) (mst n I A)) (h2 : rqOk I m x s u → isL I A m x → (u = 0 ∨ isL I A s u) → Q (some (.int 0)) (mst n I (pmSet A 5 (rsl m x s) u))) :
    W k_require 0 [.val (.ref 1), .val (.int m), .val (.int x), .val (.int s), .val (.int u)] [] (mst n I A) Q := by
  have put : rqOk I m x s u → isL I A m x → (u = 0 ∨ isL I A s u) → W k_require 44 [.val (.ref 1), .val (.int m), .val (.int x), .val (.int s), .val (.int u)] [] (mst n I A) Q := by
    intro a b c
    obtain ⟨r1, r2⟩ := rsl_in hB a.1 a.2.1 a.2.2.1
    refine hW [] 20 _ _ _ _ _ _ ?_
    refine reqSlot_ok hW ⟨r1, ?_⟩
    show Q (some (.int 0)) (mst n I (pmSet A 5 ((m * Int32.ofInt 9 + x) * Int32.ofInt 9 + s).toInt.toNat u))
    rw [r2]; exact h2 a b c
  refine hW [44] 40 _ _ _ _ _ _ ?_
  refine requireArgsOk_ok hW (fun a => ?_) (fun a => ⟨fun _ => h0 a, fun z => absurd rfl z⟩)
  refine ⟨fun z => absurd z n10, fun _ => ?_⟩
  refine isListed_b hW hB ht (fun b => ?_) (fun b => ⟨fun _ => h1 a fun w => b w.1, fun z => absurd rfl z⟩)
  refine ⟨fun z => absurd z n10, fun _ => ⟨fun e => put a b (Or.inl e), fun e => ?_⟩⟩
  refine isListed_b hW hB ht (fun c => ?_) (fun c => ⟨fun _ => h1 a fun w => w.2.elim e c, fun z => absurd rfl z⟩)
  exact ⟨fun z => absurd z n10, fun _ => put a b (Or.inr c)⟩
theorem requireMain_ok (hW : Clo W) {n : Nat} {I : Nat → Int32} {A : Nat → Nat → Int32} {s u : Int32} {Q : Pst} (hB : mB I) (ht : tb A)
    (h0 : ¬ (mR I s ∧ vN I u) → Q (some (.int (-1))) (mst n I A)) (h1 : mR I s → vN I u → ¬ (u = 0 ∨ isL I A s u) → Q (some (.int (-2))) (mst n I A)) (h2 : mR I s → vN I u → (u = 0 ∨ isL I A s u) → Q (some (.int 0)) (mst n I (pmSet A 6 s.toInt.toNat u))) :
    W k_requireMain 0 [.val (.ref 1), .val (.int s), .val (.int u)] [] (mst n I A) Q := by
  have put : mR I s → vN I u → (u = 0 ∨ isL I A s u) → W k_requireMain 34 [.val (.ref 1), .val (.int s), .val (.int u)] [] (mst n I A) Q := by
    intro a b c
    refine hW [] 20 _ _ _ _ _ _ ?_
    refine ⟨?_, h2 a b c⟩
    obtain ⟨a1, a2⟩ := a
    obtain ⟨⟨_, b1⟩, _⟩ := hB
    show 0 ≤ s.toInt ∧ s.toInt < 9; omega
  refine hW [34] 40 _ _ _ _ _ _ ?_
  refine modInRange_ok hW (fun a => ?_) (fun a => ⟨fun _ => h0 fun w => a w.1, fun z => absurd rfl z⟩)
  refine ⟨fun z => absurd z n10, fun _ => ?_⟩
  refine verOrNone_ok hW (fun b => ?_) (fun b => ⟨fun _ => h0 fun w => b w.2, fun z => absurd rfl z⟩)
  refine ⟨fun z => absurd z n10, fun _ => ⟨fun e => put a b (Or.inl e), fun e => ?_⟩⟩
  refine isListed_b hW hB ht (fun c => ?_) (fun c => ⟨fun _ => h1 a b fun w => w.elim e c, fun z => absurd rfl z⟩)
  exact ⟨fun z => absurd z n10, fun _ => put a b (Or.inr c)⟩
theorem exclude_ok (hW : Clo W) {n : Nat} {I : Nat → Int32} {A : Nat → Nat → Int32} {m x o : Int32} {Q : Pst} (hB : mB I)
    (h0 : ¬ (mR I m ∧ vR I x) → Q (some (.int (-1))) (mst n I A)) (h1 : mR I m → vR I x → A 2 (sl m x) = 0 → Q (some (.int (-2))) (mst n I A)) (h2 : mR I m → vR I x → ¬ A 2 (sl m x) = 0 → Q (some (.int 0)) (mst n I (pmSet A 3 (sl m x) (if o = 0 then 0 else 1)))) :
    W k_exclude 0 [.val (.ref 1), .val (.int m), .val (.int x), .val (.int o), .unset] [] (mst n I A) Q := by
  refine hW [] 50 _ _ _ _ _ _ ?_
  refine pairInRange_ok hW (fun a b => ?_) (fun a => ⟨fun _ => h0 a, fun z => absurd rfl z⟩)
  obtain ⟨s1, s2⟩ := sl_in hB a b
  refine ⟨fun z => absurd z n10, fun _ => ?_⟩
  refine slot_ok hW ?_
  refine ⟨s1, ⟨fun z => ?_, fun z => ⟨fun e => ⟨s1, ?_⟩, fun e => ⟨s1, ?_⟩⟩⟩⟩
  · have z' : A 2 (m * Int32.ofInt 9 + x).toInt.toNat = 0 := z
    rw [s2] at z'
    exact h1 a b z'
  · have z' : ¬ A 2 (m * Int32.ofInt 9 + x).toInt.toNat = 0 := z
    show Q (some (.int 0)) (mst n I (pmSet A 3 (m * Int32.ofInt 9 + x).toInt.toNat 0))
    rw [s2] at z' ⊢
    have := h2 a b z'
    rwa [if_pos e] at this
  · have z' : ¬ A 2 (m * Int32.ofInt 9 + x).toInt.toNat = 0 := z
    show Q (some (.int 0)) (mst n I (pmSet A 3 (m * Int32.ofInt 9 + x).toInt.toNat 1))
    rw [s2] at z' ⊢
    have := h2 a b z'
    rwa [if_neg e] at this
theorem replace_ok (hW : Clo W) {n : Nat} {I : Nat → Int32} {A : Nat → Nat → Int32} {m x w : Int32} {Q : Pst} (hB : mB I) (ht : tb A)
    (h0 : ¬ (mR I m ∧ vR I x ∧ vN I w) → Q (some (.int (-1))) (mst n I A)) (h1 : mR I m → vR I x → vN I w → ¬ (isL I A m x ∧ (w = 0 ∨ isL I A m w)) → Q (some (.int (-2))) (mst n I A)) (h2 : mR I m → vR I x → vN I w → isL I A m x → (w = 0 ∨ isL I A m w) → Q (some (.int 0)) (mst n I (pmSet A 4 (sl m x) (if w = x then 0 else w)))) :
    W k_replace 0 [.val (.ref 1), .val (.int m), .val (.int x), .val (.int w), .unset] [] (mst n I A) Q := by
  have put : mR I m → vR I x → vN I w → isL I A m x → (w = 0 ∨ isL I A m w) → W k_replace 56 [.val (.ref 1), .val (.int m), .val (.int x), .val (.int w), .val (.int (m * Int32.ofInt 9 + x))] [] (mst n I A) Q := by
    intro a b c d e
    obtain ⟨s1, s2⟩ := sl_in hB a b
    have := h2 a b c d e
    refine hW [] 20 _ _ _ _ _ _ ?_
    refine ⟨fun f => ⟨s1, ?_⟩, fun f => ⟨s1, ?_⟩⟩
    · show Q (some (.int 0)) (mst n I (pmSet A 4 (m * Int32.ofInt 9 + x).toInt.toNat 0))
      rw [s2]; rwa [if_pos f] at this
    · show Q (some (.int 0)) (mst n I (pmSet A 4 (m * Int32.ofInt 9 + x).toInt.toNat w))
      rw [s2]; rwa [if_neg f] at this
  refine hW [56] 50 _ _ _ _ _ _ ?_
  refine pairInRange_ok hW (fun a b => ?_) (fun a => ⟨fun _ => h0 fun z => a ⟨z.1, z.2.1⟩, fun z => absurd rfl z⟩)
  obtain ⟨s1, s2⟩ := sl_in hB a b
  refine ⟨fun z => absurd z n10, fun _ => ?_⟩
  refine verOrNone_ok hW (fun c => ?_) (fun c => ⟨fun _ => h0 fun z => c z.2.2, fun z => absurd rfl z⟩)
  refine ⟨fun z => absurd z n10, fun _ => ?_⟩
  refine slot_ok hW ?_
  refine ⟨s1, ⟨fun z => ?_, fun z => ?_⟩⟩
  · have z' : A 2 (m * Int32.ofInt 9 + x).toInt.toNat = 0 := z
    rw [s2] at z'
    exact h1 a b c fun v => v.1.2.2 z'
  · have z' : ¬ A 2 (m * Int32.ofInt 9 + x).toInt.toNat = 0 := z
    rw [s2] at z'
    have d : isL I A m x := ⟨a, b, z'⟩
    refine ⟨fun e => put a b c d (Or.inl e), fun e => ?_⟩
    refine isListed_b hW hB ht (fun f => ?_) (fun f => ⟨fun _ => h1 a b c fun v => v.2.elim e f, fun z => absurd rfl z⟩)
    exact ⟨fun z => absurd z n10, fun _ => put a b c d (Or.inr f)⟩
theorem requirementOf_ok (hW : Clo W) {n : Nat} {I : Nat → Int32} {A : Nat → Nat → Int32} {m x s : Int32} {Q : Pst} (hB : mB I)
    (h0 : ¬ (mR I m ∧ vR I x ∧ mR I s ∧ ¬ s = m) → Q (some (.int (-1))) (mst n I A)) (h1 : mR I m → vR I x → mR I s → ¬ s = m → Q (some (.int (A 5 (rsl m x s)))) (mst n I A)) :
    W k_requirementOf 0 [.val (.ref 1), .val (.int m), .val (.int x), .val (.int s)] [] (mst n I A) Q := by
  refine hW [] 50 _ _ _ _ _ _ ?_
  refine pairInRange_ok hW (fun a b => ?_) (fun a => ⟨fun _ => h0 fun w => a ⟨w.1, w.2.1⟩, fun z => absurd rfl z⟩)
  refine ⟨fun z => absurd z n10, fun _ => ?_⟩
  refine modInRange_ok hW (fun c => ?_) (fun c => ⟨fun _ => h0 fun w => c w.2.2.1, fun z => absurd rfl z⟩)
  refine ⟨fun z => absurd z n10, fun _ => ⟨fun e => h0 fun w => w.2.2.2 e, fun e => ?_⟩⟩
  obtain ⟨r1, r2⟩ := rsl_in hB a b c
  refine reqSlot_ok hW ⟨r1, ?_⟩
  show Q (some (.int (A 5 ((m * Int32.ofInt 9 + x) * Int32.ofInt 9 + s).toInt.toNat))) (mst n I A)
  rw [r2]; exact h1 a b c e
theorem replacementOf_ok (hW : Clo W) {n : Nat} {I : Nat → Int32} {A : Nat → Nat → Int32} {m x : Int32} {Q : Pst} (hB : mB I)
    (h0 : ¬ (mR I m ∧ vR I x) → Q (some (.int (-1))) (mst n I A)) (h1 : mR I m → vR I x → Q (some (.int (A 4 (sl m x)))) (mst n I A)) :
    W k_replacementOf 0 [.val (.ref 1), .val (.int m), .val (.int x)] [] (mst n I A) Q := by
  refine hW [] 50 _ _ _ _ _ _ ?_
  refine pairInRange_ok hW (fun a b => ?_) (fun a => ⟨fun _ => h0 a, fun z => absurd rfl z⟩)
  obtain ⟨s1, s2⟩ := sl_in hB a b
  refine ⟨fun z => absurd z n10, fun _ => ?_⟩
  refine slot_ok hW ⟨s1, ?_⟩
  show Q (some (.int (A 4 (m * Int32.ofInt 9 + x).toInt.toNat))) (mst n I A)
  rw [s2]; exact h1 a b
theorem buildStatus_ok (hW : Clo W) (hF : Fgt W) {n : Nat} {I : Nat → Int32} {A : Nat → Nat → Int32} {Q : Pst} (hB : mB I) (hT : mWF A)
    (h1 : ∀ (I' : Nat → Int32) (A' : Nat → Nat → Int32) (sel : Nat → Nat), pSame I A I' A' → gSel I A (rtA A 6) sel → Q (some (.int 0)) (mst n I' A'))
    (h0 : ∀ (I' : Nat → Int32) (A' : Nat → Nat → Int32), pSame I A I' A' → (∀ P, gCL I A (rtA A 6) P → False) → Q (some (.int (-4))) (mst n I' A')) :
    W k_buildStatus 0 [.val (.ref 1)] [] (mst n I A) Q := by
  refine hW [] 20 _ _ _ _ _ _ ?_
  refine buildCurrent_ok hW hF hB hT (fun I' A' sel p g _ => ?_) (fun I' A' p g => ?_)
  · exact ⟨fun z => absurd z n10, fun _ => h1 I' A' sel p g⟩
  · exact ⟨fun _ => h0 I' A' p g, fun z => absurd rfl z⟩
theorem selected_ok (hW : Clo W) (hF : Fgt W) {n : Nat} {I : Nat → Int32} {A : Nat → Nat → Int32} {s : Int32} {Q : Pst} (hB : mB I) (hT : mWF A)
    (h2 : ¬ mR I s → Q (some (.int (-1))) (mst n I A))
    (h1 : mR I s → ∀ (I' : Nat → Int32) (A' : Nat → Nat → Int32) (sel : Nat → Nat), pSame I A I' A' → gSel I A (rtA A 6) sel → Q (some (.int (i32 (sel s.toInt.toNat)))) (mst n I' A'))
    (h0 : mR I s → ∀ (I' : Nat → Int32) (A' : Nat → Nat → Int32), pSame I A I' A' → (∀ P, gCL I A (rtA A 6) P → False) → Q (some (.int (-4))) (mst n I' A')) :
    W k_selected 0 [.val (.ref 1), .val (.int s)] [] (mst n I A) Q := by
  refine hW [] 30 _ _ _ _ _ _ ?_
  refine modInRange_ok hW (fun a => ?_) (fun a => ⟨fun _ => h2 a, fun z => absurd rfl z⟩)
  refine ⟨fun z => absurd z n10, fun _ => ?_⟩
  refine buildCurrent_ok hW hF hB hT (fun I' A' sel p g s8 => ?_) (fun I' A' p g => ?_)
  · refine ⟨fun z => absurd z n10, fun _ => ?_⟩
    obtain ⟨a1, a2⟩ := id a
    obtain ⟨⟨b0, b1⟩, _⟩ := id hB
    refine ⟨?_, ?_⟩
    · show 0 ≤ s.toInt ∧ s.toInt < 9; omega
    · show Q (some (.int (A' 8 s.toInt.toNat))) (mst n I' A')
      rw [s8 s.toInt.toNat (by omega) (by simp only [MM]; omega)]
      exact h1 a I' A' sel p g
  · exact ⟨fun _ => h0 a I' A' p g, fun z => absurd rfl z⟩
def szF (sel : Nat → Nat) (M : Nat) : Nat := cntF (fun s => decide (¬ sel (s + 1) = 0)) (M - 1)
theorem buildSize_ok (hW : Clo W) (hF : Fgt W) {n : Nat} {I : Nat → Int32} {A : Nat → Nat → Int32} {Q : Pst} (hB : mB I) (hT : mWF A)
    (h1 : ∀ (I' : Nat → Int32) (A' : Nat → Nat → Int32) (sel : Nat → Nat), pSame I A I' A' → gSel I A (rtA A 6) sel → Q (some (.int (i32 (szF sel (MM I))))) (mst n I' A'))
    (h0 : ∀ (I' : Nat → Int32) (A' : Nat → Nat → Int32), pSame I A I' A' → (∀ P, gCL I A (rtA A 6) P → False) → Q (some (.int (-4))) (mst n I' A')) :
    W k_buildSize 0 [.val (.ref 1)] [] (mst n I A) Q := by
  refine hW [] 20 _ _ _ _ _ _ ?_
  refine buildCurrent_ok hW hF hB hT (fun I' A' sel p g s8 => ?_) (fun I' A' p g => ?_)
  · refine ⟨fun z => absurd z n10, fun _ => ?_⟩
    have hB' : mB I' := by unfold mB; rw [p.1, p.2.1]; exact hB
    refine countSelected_ok hW hB' ?_
    have e : cntF (fun s => decide (¬ A' 8 (s + 1) = 0)) ((I' 0).toInt.toNat - 1) = szF sel (MM I) := by
      rw [p.1]
      unfold szF
      obtain ⟨N, a, b, c, d⟩ := g
      obtain ⟨_, _, b3⟩ := id hB
      refine cntF_congr fun s hs => ?_
      have ss := s8 (s + 1) (by omega) (by simp only [MM]; omega)
      have := (d (s + 1) (by omega) (by simp only [MM]; omega)).1
      have v8 : sel (s + 1) ≤ 8 := by simp only [VV] at this; omega
      rw [ss]
      by_cases z : sel (s + 1) = 0
      · have z0 : i32 0 = 0 := rfl
        simp [z, z0]
      · have : ¬ i32 (sel (s + 1)) = 0 := fun w => z (i32_inj (by omega) (by omega) (b := 0) w)
        simp [z, this]
    rw [e]
    exact h1 I' A' sel p g
  · exact ⟨fun _ => h0 I' A' p g, fun z => absurd rfl z⟩

theorem loadSingleRoot_ok (hW : Clo W) {n : Nat} {I : Nat → Int32} {A : Nat → Nat → Int32} {r w : Int32} {Q : Pst} (hB : mB I) (hr : mR I r)
    (hq : ∀ A' : Nat → Nat → Int32, (∀ s, s < 9 → A' 7 s = if s = r.toInt.toNat then w else 0) → (∀ k, k ≠ 7 → A' k = A k) → Q none (mst n I A')) :
    W k_loadSingleRoot 0 [.val (.ref 1), .val (.int r), .val (.int w), .unset] [] (mst n I A) Q := by
  obtain ⟨r1, r2⟩ := id hr
  obtain ⟨⟨b0, b1⟩, _⟩ := id hB
  have loop1 : ∀ (m j : Nat) (B : Nat → Nat → Int32), j + m = 9 → (∀ i, i < j → B 7 i = 0) → (∀ k, k ≠ 7 → B k = A k) → W k_loadSingleRoot 2 [.val (.ref 1), .val (.int r), .val (.int w), .val (.int (i32 j))] [] (mst n I B) Q := by
    intro m
    induction m with
    | zero =>
      intro j B hj h7 hk
      have ji : (i32 j).toInt = (j : Int) := i32_toInt (by omega)
      refine hW [] 30 _ _ _ _ _ _ ?_
      refine ⟨fun q => ?_, fun q => ?_⟩
      · have q' : (i32 j).toInt < (Int32.ofInt 9).toInt := q
        rw [ji, oI9] at q'; omega
      · refine modInRange_ok hW (fun _ => ?_) (fun a => absurd hr a)
        refine ⟨fun z => absurd z n10, fun _ => ⟨?_, ?_⟩⟩
        · show 0 ≤ r.toInt ∧ r.toInt < 9; omega
        · refine hq (pmSet B 7 r.toInt.toNat w) (fun s hs => ?_) (fun k k7 => ?_)
          · by_cases e : s = r.toInt.toNat
            · rw [if_pos e, e]; exact pmSet_eq _ _ _ _
            · rw [if_neg e, pmSet_ne _ _ _ e]; exact h7 s (by omega)
          · rw [pmSet_r _ _ _ k7]; exact hk k k7
    | succ m ih =>
      intro j B hj h7 hk
      have ji : (i32 j).toInt = (j : Int) := i32_toInt (by omega)
      refine hW [2] 20 _ _ _ _ _ _ ?_
      refine ⟨fun q => ⟨?_, ?_⟩, fun q => ?_⟩
      · show 0 ≤ (i32 j).toInt ∧ (i32 j).toInt < 9; omega
      · show W k_loadSingleRoot 2 [.val (.ref 1), .val (.int r), .val (.int w), .val (.int (i32 j + Int32.ofInt 1))] [] (mst n I (pmSet B 7 (i32 j).toInt.toNat 0)) Q
        rw [i32_succ, ji]
        refine ih (j + 1) _ (by omega) (fun i hi => ?_) (fun k k7 => ?_)
        · by_cases e : i = j
          · rw [e]; exact pmSet_eq _ _ _ _
          · rw [pmSet_ne _ _ _ (by omega)]; exact h7 i (by omega)
        · rw [pmSet_r _ _ _ k7]; exact hk k k7
      · have q' : ¬ (i32 j).toInt < (Int32.ofInt 9).toInt := q
        rw [ji, oI9] at q'; omega
  refine hW [2] 20 _ _ _ _ _ _ ?_
  exact loop1 9 0 A rfl (fun i hi => by omega) (fun _ _ => rfl)
/-- one root -/
def rt1 (r w : Nat) : Nat → Nat := fun s => if s = r then w else 0
theorem runSingle_ok (hW : Clo W) (hF : Fgt W) {n : Nat} {I : Nat → Int32} {A B : Nat → Nat → Int32} {r w : Int32} {Q : Pst} (hB : mB I) (hT : gWF A) (hr : mR I r) (hw : vN I w) (y7 : ∀ s, s < 9 → B 7 s = if s = r.toInt.toNat then w else 0) (yr : ∀ k, k ≠ 7 → B k = A k)
    (h1 : ∀ (I' : Nat → Int32) (A' : Nat → Nat → Int32) (sel : Nat → Nat), pSame I A I' A' → gSel I A (rt1 r.toInt.toNat w.toInt.toNat) sel → (∀ s, 1 ≤ s → s < MM I → A' 8 s = i32 (sel s)) → Q (some (.int 1)) (mst n I' A'))
    (h0 : ∀ (I' : Nat → Int32) (A' : Nat → Nat → Int32), pSame I A I' A' → (∀ P, gCL I A (rt1 r.toInt.toNat w.toInt.toNat) P → False) → Q (some (.int 0)) (mst n I' A')) :
    W k_runBuild 0 [.val (.ref 1), .unset] [] (mst n I B) Q := by
  obtain ⟨⟨b0, b1⟩, b2, b3⟩ := id hB
  obtain ⟨w1, w2⟩ := hw
  have hrt : ∀ s, 1 ≤ s → s < MM I → rtA B 7 s = rt1 r.toInt.toNat w.toInt.toNat s := by
    intro s s1 s2
    simp only [MM] at s2
    unfold rtA rt1; rw [y7 s (by omega)]
    split <;> rfl
  refine runBuild_ok hW hF hB ?_ ?_ (fun I' A' sel t g s8 => ?_) (fun I' A' t g => ?_)
  · unfold gWF; rw [yr 4 (by decide), yr 5 (by decide)]; exact hT
  · intro s hs; rw [y7 s hs]; split
    · omega
    · exact ⟨by decide, by decide⟩
  · exact h1 I' A' sel ⟨t.1, t.2.1, fun k r7 r8 r9 r10 r11 => (t.2.2 k r8 r9 r10 r11).trans (yr k r7)⟩ (gSel_congr rfl rfl (yr 2 (by decide)).symm (yr 3 (by decide)).symm (yr 4 (by decide)).symm (yr 5 (by decide)).symm (fun s s1 s2 => (hrt s s1 s2).symm) g) s8
  · exact h0 I' A' ⟨t.1, t.2.1, fun k r7 r8 r9 r10 r11 => (t.2.2 k r8 r9 r10 r11).trans (yr k r7)⟩ (fun P hP => g P (gCL_congr rfl rfl (yr 2 (by decide)) (yr 3 (by decide)) (yr 4 (by decide)) (yr 5 (by decide)) hrt hP))
/-! ## pruning: the four helpers -/
theorem MM_i {I : Nat → Int32} (hB : mB I) : (I 0).toInt = (MM I : Int) ∧ MM I ≤ 8 ∧ 2 ≤ MM I := by
  obtain ⟨⟨_, _⟩, _⟩ := id hB
  simp only [MM]; omega
theorem saveSelection_ok (hW : Clo W) {n : Nat} {I : Nat → Int32} {A : Nat → Nat → Int32} {Q : Pst} (hB : mB I)
    (hq : ∀ B : Nat → Nat → Int32, (∀ r, r ≠ 12 → r ≠ 13 → B r = A r) → (∀ s, 1 ≤ s → s < MM I → B 12 s = A 8 s ∧ B 13 s = (if A 8 s = 0 then 0 else 1)) → Q none (mst n I B)) :
    W k_saveSelection 0 [.val (.ref 1), .unset] [] (mst n I A) Q := by
  obtain ⟨hMi, hM8, hM2⟩ := MM_i hB
  have loop2 : ∀ (m j : Nat) (B : Nat → Nat → Int32), j + m = MM I → 1 ≤ j → (∀ r, r ≠ 12 → r ≠ 13 → B r = A r) → (∀ s, 1 ≤ s → s < j → B 12 s = A 8 s ∧ B 13 s = (if A 8 s = 0 then 0 else 1)) → W k_saveSelection 30 [.val (.ref 1), .val (.int (i32 j))] [] (mst n I B) Q := by
    intro m
    induction m with
    | zero =>
      intro j B hj h1 g1 g2
      have ji : (i32 j).toInt = (j : Int) := i32_toInt (by omega)
      refine hW [] 20 _ _ _ _ _ _ ?_
      refine ⟨fun q => ?_, fun _ => hq B g1 (fun s s1 s2 => g2 s s1 (by omega))⟩
      have q' : (i32 j).toInt < (I 0).toInt := q
      omega
    | succ m ih =>
      intro j B hj h1 g1 g2
      have ji : (i32 j).toInt = (j : Int) := i32_toInt (by omega)
      have jt : (i32 j).toInt.toNat = j := by omega
      have next : ∀ v : Int32, v = (if A 8 j = 0 then 0 else 1) → W k_saveSelection 30 [.val (.ref 1), .val (.int (i32 j + Int32.ofInt 1))] [] (mst n I (pmSet (pmSet B 12 j (A 8 j)) 13 j v)) Q := by
        intro v hv
        rw [i32_succ]
        refine ih (j + 1) _ (by omega) (by omega) (fun r r12 r13 => by rw [pmSet_r _ _ _ r13, pmSet_r _ _ _ r12]; exact g1 r r12 r13) (fun s s1 s2 => ?_)
        by_cases e : s = j
        · subst e; rw [pmSet_eq, pmSet_r _ _ _ (by decide), pmSet_eq]; exact ⟨rfl, hv⟩
        · refine ⟨?_, ?_⟩
          · rw [pmSet_r _ _ _ (by decide), pmSet_ne _ _ _ e]; exact (g2 s s1 (by omega)).1
          · rw [pmSet_ne _ _ _ e, pmSet_r _ _ _ (by decide)]; exact (g2 s s1 (by omega)).2
      have e8 : B 8 (i32 j).toInt.toNat = A 8 j := by rw [jt, g1 8 (by decide) (by decide)]
      refine hW [30] 40 _ _ _ _ _ _ ?_
      refine ⟨fun q => ⟨?_, ⟨?_, ⟨?_, ⟨fun z => ⟨?_, ?_⟩, fun z => ⟨?_, ?_⟩⟩⟩⟩⟩, fun q => ?_⟩
      · show 0 ≤ (i32 j).toInt ∧ (i32 j).toInt < 9; omega
      · show 0 ≤ (i32 j).toInt ∧ (i32 j).toInt < 9; omega
      · show 0 ≤ (i32 j).toInt ∧ (i32 j).toInt < 9; omega
      · show 0 ≤ (i32 j).toInt ∧ (i32 j).toInt < 9; omega
      · have z' : B 8 (i32 j).toInt.toNat = 0 := z
        rw [e8] at z'
        have := next 0 (by rw [if_pos z'])
        rw [← e8] at this
        simp only [jt] at this ⊢
        exact this
      · show 0 ≤ (i32 j).toInt ∧ (i32 j).toInt < 9; omega
      · have z' : ¬ B 8 (i32 j).toInt.toNat = 0 := z
        rw [e8] at z'
        have := next 1 (by rw [if_neg z'])
        rw [← e8] at this
        simp only [jt] at this ⊢
        exact this
      · have q' : ¬ (i32 j).toInt < (I 0).toInt := q
        omega
  have loop1 : ∀ (m j : Nat) (B : Nat → Nat → Int32), j + m = 9 → (∀ r, r ≠ 12 → r ≠ 13 → B r = A r) → W k_saveSelection 2 [.val (.ref 1), .val (.int (i32 j))] [] (mst n I B) Q := by
    intro m
    induction m with
    | zero =>
      intro j B hj g1
      have ji : (i32 j).toInt = (j : Int) := i32_toInt (by omega)
      refine hW [30] 20 _ _ _ _ _ _ ?_
      refine ⟨fun q => ?_, fun _ => loop2 (MM I - 1) 1 B (by omega) (by omega) g1 (fun s s1 s2 => by omega)⟩
      have q' : (i32 j).toInt < (Int32.ofInt 9).toInt := q
      rw [oI9] at q'; omega
    | succ m ih =>
      intro j B hj g1
      have ji : (i32 j).toInt = (j : Int) := i32_toInt (by omega)
      have jt : (i32 j).toInt.toNat = j := by omega
      refine hW [2] 30 _ _ _ _ _ _ ?_
      refine ⟨fun q => ⟨?_, ⟨?_, ?_⟩⟩, fun q => ?_⟩
      · show 0 ≤ (i32 j).toInt ∧ (i32 j).toInt < 9; omega
      · show 0 ≤ (i32 j).toInt ∧ (i32 j).toInt < 9; omega
      · show W k_saveSelection 2 [.val (.ref 1), .val (.int (i32 j + Int32.ofInt 1))] [] (mst n I (pmSet (pmSet B 12 (i32 j).toInt.toNat 0) 13 (i32 j).toInt.toNat 0)) Q
        rw [i32_succ]
        exact ih (j + 1) _ (by omega) (fun r r12 r13 => by rw [pmSet_r _ _ _ r13, pmSet_r _ _ _ r12]; exact g1 r r12 r13)
      · have q' : ¬ (i32 j).toInt < (Int32.ofInt 9).toInt := q
        rw [oI9] at q'; omega
  refine hW [2] 20 _ _ _ _ _ _ ?_
  exact loop1 9 0 A (by omega) (fun _ _ _ => rfl)
theorem loadRootsWithout_ok (hW : Clo W) {n : Nat} {I : Nat → Int32} {A : Nat → Nat → Int32} {k : Int32} {Q : Pst} (hB : mB I)
    (hq : ∀ B : Nat → Nat → Int32, (∀ r, r ≠ 7 → B r = A r) → (∀ s, s < 9 → B 7 s = if (1 ≤ s ∧ s < MM I ∧ ¬ i32 s = k ∧ ¬ A 13 s = 0) then A 12 s else 0) → Q none (mst n I B)) :
    W k_loadRootsWithout 0 [.val (.ref 1), .val (.int k), .unset] [] (mst n I A) Q := by
  obtain ⟨hMi, hM8, hM2⟩ := MM_i hB
  have loop2 : ∀ (m j : Nat) (B : Nat → Nat → Int32), j + m = MM I → 1 ≤ j → (∀ r, r ≠ 7 → B r = A r) → (∀ s, s < 9 → B 7 s = if (1 ≤ s ∧ s < j ∧ ¬ i32 s = k ∧ ¬ A 13 s = 0) then A 12 s else 0) → W k_loadRootsWithout 23 [.val (.ref 1), .val (.int k), .val (.int (i32 j))] [] (mst n I B) Q := by
    intro m
    induction m with
    | zero =>
      intro j B hj h1 g1 g2
      have ji : (i32 j).toInt = (j : Int) := i32_toInt (by omega)
      have e : j = MM I := by omega
      subst e
      refine hW [] 20 _ _ _ _ _ _ ?_
      refine ⟨fun q => ?_, fun _ => hq B g1 g2⟩
      have q' : (i32 (MM I)).toInt < (I 0).toInt := q
      omega
    | succ m ih =>
      intro j B hj h1 g1 g2
      have ji : (i32 j).toInt = (j : Int) := i32_toInt (by omega)
      have jt : (i32 j).toInt.toNat = j := by omega
      have e13 : B 13 (i32 j).toInt.toNat = A 13 j := by rw [jt, g1 13 (by decide)]
      have e12 : B 12 (i32 j).toInt.toNat = A 12 j := by rw [jt, g1 12 (by decide)]
      have skip : ¬ (¬ i32 j = k ∧ ¬ A 13 j = 0) → W k_loadRootsWithout 57 [.val (.ref 1), .val (.int k), .val (.int (i32 j))] [] (mst n I B) Q := by
        intro hn
        refine hW [23] 10 _ _ _ _ _ _ ?_
        show W k_loadRootsWithout 23 [.val (.ref 1), .val (.int k), .val (.int (i32 j + Int32.ofInt 1))] [] (mst n I B) Q
        rw [i32_succ]
        refine ih (j + 1) B (by omega) (by omega) g1 (fun s hs => ?_)
        rw [g2 s hs]
        by_cases w : 1 ≤ s ∧ s < j ∧ ¬ i32 s = k ∧ ¬ A 13 s = 0
        · rw [if_pos w, if_pos ⟨w.1, by omega, w.2.2⟩]
        · rw [if_neg w, if_neg]
          rintro ⟨w1, w2, w3⟩
          by_cases e : s = j
          · subst e; exact hn w3
          · exact w ⟨w1, by omega, w3⟩
      refine hW [23, 57] 40 _ _ _ _ _ _ ?_
      refine ⟨fun q => ⟨fun z => skip fun w => w.1 z, fun z => ⟨?_, ⟨fun z2 => skip ?_, fun z2 => ⟨?_, ⟨?_, ?_⟩⟩⟩⟩⟩, fun q => ?_⟩
      · show 0 ≤ (i32 j).toInt ∧ (i32 j).toInt < 9; omega
      · have z' : B 13 (i32 j).toInt.toNat = 0 := z2
        rw [e13] at z'
        exact fun w => w.2 z'
      · show 0 ≤ (i32 j).toInt ∧ (i32 j).toInt < 9; omega
      · show 0 ≤ (i32 j).toInt ∧ (i32 j).toInt < 9; omega
      · have z' : ¬ B 13 (i32 j).toInt.toNat = 0 := z2
        rw [e13] at z'
        show W k_loadRootsWithout 57 [.val (.ref 1), .val (.int k), .val (.int (i32 j))] [] (mst n I (pmSet B 7 (i32 j).toInt.toNat (B 12 (i32 j).toInt.toNat))) Q
        rw [e12, jt]
        refine hW [23] 10 _ _ _ _ _ _ ?_
        show W k_loadRootsWithout 23 [.val (.ref 1), .val (.int k), .val (.int (i32 j + Int32.ofInt 1))] [] (mst n I (pmSet B 7 j (A 12 j))) Q
        rw [i32_succ]
        refine ih (j + 1) _ (by omega) (by omega) (fun r hr => by rw [pmSet_r _ _ _ hr]; exact g1 r hr) (fun s hs => ?_)
        by_cases e : s = j
        · subst e; rw [pmSet_eq, if_pos ⟨h1, by omega, z, z'⟩]
        · rw [pmSet_ne _ _ _ e, g2 s hs]
          by_cases w : 1 ≤ s ∧ s < j ∧ ¬ i32 s = k ∧ ¬ A 13 s = 0
          · rw [if_pos w, if_pos ⟨w.1, by omega, w.2.2⟩]
          · rw [if_neg w, if_neg]
            rintro ⟨w1, w2, w3⟩
            exact w ⟨w1, by omega, w3⟩
      · have q' : ¬ (i32 j).toInt < (I 0).toInt := q
        omega
  have loop1 : ∀ (m j : Nat) (B : Nat → Nat → Int32), j + m = 9 → (∀ r, r ≠ 7 → B r = A r) → (∀ s, s < j → B 7 s = 0) → W k_loadRootsWithout 2 [.val (.ref 1), .val (.int k), .val (.int (i32 j))] [] (mst n I B) Q := by
    intro m
    induction m with
    | zero =>
      intro j B hj g1 g2
      have ji : (i32 j).toInt = (j : Int) := i32_toInt (by omega)
      refine hW [23] 20 _ _ _ _ _ _ ?_
      refine ⟨fun q => ?_, fun _ => loop2 (MM I - 1) 1 B (by omega) (by omega) g1 (fun s hs => by rw [if_neg (by omega)]; exact g2 s (by omega))⟩
      have q' : (i32 j).toInt < (Int32.ofInt 9).toInt := q
      rw [oI9] at q'; omega
    | succ m ih =>
      intro j B hj g1 g2
      have ji : (i32 j).toInt = (j : Int) := i32_toInt (by omega)
      have jt : (i32 j).toInt.toNat = j := by omega
      refine hW [2] 30 _ _ _ _ _ _ ?_
      refine ⟨fun q => ⟨?_, ?_⟩, fun q => ?_⟩
      · show 0 ≤ (i32 j).toInt ∧ (i32 j).toInt < 9; omega
      · show W k_loadRootsWithout 2 [.val (.ref 1), .val (.int k), .val (.int (i32 j + Int32.ofInt 1))] [] (mst n I (pmSet B 7 (i32 j).toInt.toNat 0)) Q
        rw [i32_succ, jt]
        refine ih (j + 1) _ (by omega) (fun r hr => by rw [pmSet_r _ _ _ hr]; exact g1 r hr) (fun s hs => ?_)
        by_cases e : s = j
        · subst e; rw [pmSet_eq]
        · rw [pmSet_ne _ _ _ e]; exact g2 s (by omega)
      · have q' : ¬ (i32 j).toInt < (Int32.ofInt 9).toInt := q
        rw [oI9] at q'; omega
  refine hW [2] 20 _ _ _ _ _ _ ?_
  exact loop1 9 0 A (by omega) (fun _ _ => rfl) (fun s hs => absurd hs (Nat.not_lt_zero _))
theorem sameAsSaved_ok (hW : Clo W) {n : Nat} {I : Nat → Int32} {A : Nat → Nat → Int32} {Q : Pst} (hB : mB I)
    (h1 : (∀ s, 1 ≤ s → s < MM I → A 8 s = A 12 s) → Q (some (.int 1)) (mst n I A)) (h0 : ∀ s, 1 ≤ s → s < MM I → ¬ A 8 s = A 12 s → Q (some (.int 0)) (mst n I A)) :
    W k_sameAsSaved 0 [.val (.ref 1), .unset] [] (mst n I A) Q := by
  obtain ⟨hMi, hM8, hM2⟩ := MM_i hB
  have loop : ∀ (m j : Nat), j + m = MM I → 1 ≤ j → (∀ s, 1 ≤ s → s < j → A 8 s = A 12 s) → W k_sameAsSaved 2 [.val (.ref 1), .val (.int (i32 j))] [] (mst n I A) Q := by
    intro m
    induction m with
    | zero =>
      intro j hj hj1 g
      have ji : (i32 j).toInt = (j : Int) := i32_toInt (by omega)
      refine hW [] 20 _ _ _ _ _ _ ?_
      refine ⟨fun q => ?_, fun _ => h1 (fun s s1 s2 => g s s1 (by omega))⟩
      have q' : (i32 j).toInt < (I 0).toInt := q
      omega
    | succ m ih =>
      intro j hj hj1 g
      have ji : (i32 j).toInt = (j : Int) := i32_toInt (by omega)
      have jt : (i32 j).toInt.toNat = j := by omega
      refine hW [2] 30 _ _ _ _ _ _ ?_
      refine ⟨fun q => ⟨?_, ⟨?_, ⟨fun z => ?_, fun z => ?_⟩⟩⟩, fun q => ?_⟩
      · show 0 ≤ (i32 j).toInt ∧ (i32 j).toInt < 9; omega
      · show 0 ≤ (i32 j).toInt ∧ (i32 j).toInt < 9; omega
      · have z' : A 8 (i32 j).toInt.toNat = A 12 (i32 j).toInt.toNat := z
        rw [jt] at z'
        show W k_sameAsSaved 2 [.val (.ref 1), .val (.int (i32 j + Int32.ofInt 1))] [] (mst n I A) Q
        rw [i32_succ]
        refine ih (j + 1) (by omega) (by omega) (fun s s1 s2 => ?_)
        by_cases e : s = j
        · rw [e]; exact z'
        · exact g s s1 (by omega)
      · have z' : ¬ A 8 (i32 j).toInt.toNat = A 12 (i32 j).toInt.toNat := z
        rw [jt] at z'
        exact h0 j hj1 (by omega) z'
      · have q' : ¬ (i32 j).toInt < (I 0).toInt := q
        omega
  refine hW [2] 20 _ _ _ _ _ _ ?_
  exact loop (MM I - 1) 1 (by omega) (by omega) (fun s s1 s2 => by omega)
theorem storePrunedMain_ok (hW : Clo W) {n : Nat} {I : Nat → Int32} {A : Nat → Nat → Int32} {Q : Pst} (hB : mB I)
    (hq : ∀ B : Nat → Nat → Int32, (∀ r, r ≠ 6 → B r = A r) → (∀ s, B 6 s = if (1 ≤ s ∧ s < MM I) then (if A 13 s = 0 then 0 else A 12 s) else A 6 s) → Q (some (.int (i32 (cntF (fun s => decide (¬ A 13 (s + 1) = 0)) (MM I - 1))))) (mst n I B)) :
    W k_storePrunedMain 0 [.val (.ref 1), .unset, .unset] [] (mst n I A) Q := by
  obtain ⟨hMi, hM8, hM2⟩ := MM_i hB
  have loop : ∀ (m j : Nat) (B : Nat → Nat → Int32), j + m = MM I - 1 → (∀ r, r ≠ 6 → B r = A r) → (∀ s, B 6 s = if (1 ≤ s ∧ s < j + 1) then (if A 13 s = 0 then 0 else A 12 s) else A 6 s) →
      W k_storePrunedMain 4 [.val (.ref 1), .val (.int (i32 (cntF (fun s => decide (¬ A 13 (s + 1) = 0)) j))), .val (.int (i32 (j + 1)))] [] (mst n I B) Q := by
    intro m
    induction m with
    | zero =>
      intro j B hj g1 g2
      have ji : (i32 (j + 1)).toInt = ((j + 1 : Nat) : Int) := i32_toInt (by omega)
      have e : j = MM I - 1 := by omega
      refine hW [] 20 _ _ _ _ _ _ ?_
      refine ⟨fun q => ?_, fun _ => ?_⟩
      · have q' : (i32 (j + 1)).toInt < (I 0).toInt := q
        omega
      · subst e
        have : MM I - 1 + 1 = MM I := by omega
        rw [this] at g2
        exact hq B g1 g2
    | succ m ih =>
      intro j B hj g1 g2
      have ji : (i32 (j + 1)).toInt = ((j + 1 : Nat) : Int) := i32_toInt (by omega)
      have jt : (i32 (j + 1)).toInt.toNat = j + 1 := by omega
      have e13 : B 13 (i32 (j + 1)).toInt.toNat = A 13 (j + 1) := by rw [jt, g1 13 (by decide)]
      have e12 : B 12 (i32 (j + 1)).toInt.toNat = A 12 (j + 1) := by rw [jt, g1 12 (by decide)]
      have upd : ∀ v : Int32, v = (if A 13 (j + 1) = 0 then 0 else A 12 (j + 1)) → ∀ s, pmSet B 6 (j + 1) v 6 s = if (1 ≤ s ∧ s < j + 1 + 1) then (if A 13 s = 0 then 0 else A 12 s) else A 6 s := by
        intro v hv s
        by_cases e : s = j + 1
        · subst e; rw [pmSet_eq, if_pos ⟨by omega, by omega⟩]; exact hv
        · rw [pmSet_ne _ _ _ e, g2 s]
          by_cases w : 1 ≤ s ∧ s < j + 1
          · rw [if_pos w, if_pos (show 1 ≤ s ∧ s < j + 1 + 1 by omega)]
          · rw [if_neg w, if_neg (show ¬ (1 ≤ s ∧ s < j + 1 + 1) by omega)]
      refine hW [4] 40 _ _ _ _ _ _ ?_
      refine ⟨fun q => ⟨?_, ⟨fun z => ⟨?_, ?_⟩, fun z => ⟨?_, ⟨?_, ?_⟩⟩⟩⟩, fun q => ?_⟩
      · show 0 ≤ (i32 (j + 1)).toInt ∧ (i32 (j + 1)).toInt < 9; omega
      · show 0 ≤ (i32 (j + 1)).toInt ∧ (i32 (j + 1)).toInt < 9; omega
      · have z' : B 13 (i32 (j + 1)).toInt.toNat = 0 := z
        rw [e13] at z'
        show W k_storePrunedMain 4 [.val (.ref 1), .val (.int (i32 (cntF (fun s => decide (¬ A 13 (s + 1) = 0)) j))), .val (.int (i32 (j + 1) + Int32.ofInt 1))] [] (mst n I (pmSet B 6 (i32 (j + 1)).toInt.toNat 0)) Q
        rw [jt, i32_succ]
        have := ih (j + 1) _ (by omega) (fun r hr => by rw [pmSet_r _ _ _ hr]; exact g1 r hr) (upd 0 (by rw [if_pos z']))
        simpa [cntF, z'] using this
      · show 0 ≤ (i32 (j + 1)).toInt ∧ (i32 (j + 1)).toInt < 9; omega
      · show 0 ≤ (i32 (j + 1)).toInt ∧ (i32 (j + 1)).toInt < 9; omega
      · have z' : ¬ B 13 (i32 (j + 1)).toInt.toNat = 0 := z
        rw [e13] at z'
        show W k_storePrunedMain 4 [.val (.ref 1), .val (.int (i32 (cntF (fun s => decide (¬ A 13 (s + 1) = 0)) j) + Int32.ofInt 1)), .val (.int (i32 (j + 1) + Int32.ofInt 1))] [] (mst n I (pmSet B 6 (i32 (j + 1)).toInt.toNat (B 12 (i32 (j + 1)).toInt.toNat))) Q
        rw [e12, jt, i32_succ, i32_succ]
        have := ih (j + 1) _ (by omega) (fun r hr => by rw [pmSet_r _ _ _ hr]; exact g1 r hr) (upd (A 12 (j + 1)) (by rw [if_neg z']))
        simpa [cntF, z'] using this
      · have q' : ¬ (i32 (j + 1)).toInt < (I 0).toInt := q
        omega
  refine hW [4] 20 _ _ _ _ _ _ ?_
  exact loop (MM I - 1) 0 A (by omega) (fun _ _ => rfl) (fun s => by rw [if_neg (by omega)])
/-! ## pruning: the loop -/
theorem gSel_E {I : Nat → Int32} {T : Nat → Nat → Int32} {rt : Nat → Nat} {N : Nat → Nat → Prop} (h1 : gCL I T rt N) (h2 : ∀ P, gCL I T rt P → ∀ m x, N m x → P m x) : ∀ m x, N m x → T 3 (9 * m + x) = 0 := by
  intro m x hN
  refine (h2 (fun m x => N m x ∧ T 3 (9 * m + x) = 0) ⟨fun s s1 s2 hr => ?_, fun m x hi hp s s1 s2 hne hr => ?_⟩ m x hN).2
  · obtain ⟨a, b⟩ := h1.1 s s1 s2 hr
    exact ⟨a, b, (fAdj_spec a).2.2.2.1⟩
  · obtain ⟨a, b⟩ := h1.2 m x hi hp.1 s s1 s2 hne hr
    exact ⟨a, b, (fAdj_spec a).2.2.2.1⟩
/-- a closed set there: the least one, and what is chosen of it -/
theorem gSel_roots {I : Nat → Int32} {T : Nat → Nat → Int32} {rt sel : Nat → Nat} (h : gSel I T rt sel) : gSel I T sel sel := by
  obtain ⟨N, n1, n2, n3, n4⟩ := h
  have hE := gSel_E n1 n2
  have self : ∀ s, 1 ≤ s → s < MM I → sel s ≠ 0 → gAdj I T s (sel s) = sel s := by
    intro s s1 s2 hs
    have hN := (n4 s s1 s2).2.1 hs
    exact fAdj_self (n3 s _ hN) (hE s _ hN)
  have cN : gCL I T sel N := by
    refine ⟨fun s s1 s2 hr => ?_, n1.2⟩
    rw [self s s1 s2 hr]
    exact ⟨hr, (n4 s s1 s2).2.1 hr⟩
  refine ⟨fun m x => ∀ P, gCL I T sel P → P m x, ⟨fun s s1 s2 hr => ⟨(cN.1 s s1 s2 hr).1, fun P hP => (hP.1 s s1 s2 hr).2⟩, fun m x hi hp s s1 s2 hne hr => ⟨(cN.2 m x hi (hp N cN) s s1 s2 hne hr).1, fun P hP => (hP.2 m x hi (hp P hP) s s1 s2 hne hr).2⟩⟩, fun P hP m x hp => hp P hP, fun m x hp => n3 m x (hp N cN), fun s s1 s2 => ⟨(n4 s s1 s2).1, fun hs P hP => ?_, fun x hp => (n4 s s1 s2).2.2 x (hp N cN)⟩⟩
  have := (hP.1 s s1 s2 hs).2
  rwa [self s s1 s2 hs] at this
theorem gSel_sel {I : Nat → Int32} {T : Nat → Nat → Int32} {rt sel sel' : Nat → Nat} (h : gSel I T rt sel) (e : ∀ s, 1 ≤ s → s < MM I → sel' s = sel s) : gSel I T rt sel' := by
  obtain ⟨N, n1, n2, n3, n4⟩ := h
  exact ⟨N, n1, n2, n3, fun s s1 s2 => by rw [e s s1 s2]; exact n4 s s1 s2⟩
def rk (sel : Nat → Nat) (K : Nat → Bool) : Nat → Nat := fun q => if K q = true then sel q else 0
def rkm (sel : Nat → Nat) (K : Nat → Bool) (s : Nat) : Nat → Nat := fun q => if (¬ q = s ∧ K q = true) then sel q else 0
/-- the kept roots, module by module -/
def pk (I : Nat → Int32) (T : Nat → Nat → Int32) (sel : Nat → Nat) (j : Nat) (K : Nat → Bool) : Prop :=
  ∃ S : Nat → Nat → Bool, (∀ q, 1 ≤ q → q < MM I → (S 1 q = true ↔ sel q ≠ 0)) ∧ (∀ s, 1 ≤ s → s < j → ∀ q, 1 ≤ q → q < MM I → (S (s + 1) q = true ↔ (S s q = true ∧ ¬ (q = s ∧ gSel I T (rkm sel (S s) s) sel)))) ∧ ∀ q, 1 ≤ q → q < MM I → K q = S j q
theorem pk_uniq {I : Nat → Int32} {T : Nat → Nat → Int32} {sel : Nat → Nat} {j : Nat} {K K' : Nat → Bool} (hj : 1 ≤ j) (h : pk I T sel j K) (h' : pk I T sel j K') : ∀ q, 1 ≤ q → q < MM I → K q = K' q := by
  obtain ⟨S, a1, a2, a3⟩ := h
  obtain ⟨S', b1, b2, b3⟩ := h'
  have rr : ∀ s, (∀ q, 1 ≤ q → q < MM I → S s q = S' s q) → ∀ q, 1 ≤ q → q < MM I → rkm sel (S' s) s q = rkm sel (S s) s q := by
    intro s e q q1 q2
    unfold rkm
    rw [e q q1 q2]
  have key : ∀ i, i + 1 ≤ j → ∀ q, 1 ≤ q → q < MM I → S (i + 1) q = S' (i + 1) q := by
    intro i
    induction i with
    | zero =>
      intro _ q q1 q2
      rw [Bool.eq_iff_iff, a1 q q1 q2, b1 q q1 q2]
    | succ i ih =>
      intro hi q q1 q2
      have e := ih (by omega)
      rw [Bool.eq_iff_iff, a2 (i + 1) (by omega) (by omega) q q1 q2, b2 (i + 1) (by omega) (by omega) q q1 q2, e q q1 q2]
      have g : gSel I T (rkm sel (S (i + 1)) (i + 1)) sel ↔ gSel I T (rkm sel (S' (i + 1)) (i + 1)) sel :=
        ⟨gSel_congr rfl rfl rfl rfl rfl rfl (rr _ e), gSel_congr rfl rfl rfl rfl rfl rfl (fun q q1 q2 => (rr _ e q q1 q2).symm)⟩
      rw [g]
  intro q q1 q2
  rw [a3 q q1 q2, b3 q q1 q2]
  have := key (j - 1) (by omega) q q1 q2
  rwa [show j - 1 + 1 = j by omega] at this
/-- the tables stand -/
def qSame (I : Nat → Int32) (A : Nat → Nat → Int32) (I' : Nat → Int32) (A' : Nat → Nat → Int32) : Prop := I' 0 = I 0 ∧ I' 1 = I 1 ∧ ∀ r, r < 7 → A' r = A r
theorem pk_step {I : Nat → Int32} {T : Nat → Nat → Int32} {sel : Nat → Nat} {j : Nat} {K K' : Nat → Bool} (hj : 1 ≤ j) (h : pk I T sel j K) (h' : ∀ q, 1 ≤ q → q < MM I → (K' q = true ↔ (K q = true ∧ ¬ (q = j ∧ gSel I T (rkm sel K j) sel)))) : pk I T sel (j + 1) K' := by
  obtain ⟨S, a1, a2, a3⟩ := h
  have g : gSel I T (rkm sel (S j) j) sel ↔ gSel I T (rkm sel K j) sel := by
    have e : ∀ q, 1 ≤ q → q < MM I → rkm sel (S j) j q = rkm sel K j q := fun q q1 q2 => by unfold rkm; rw [a3 q q1 q2]
    exact ⟨gSel_congr rfl rfl rfl rfl rfl rfl (fun q q1 q2 => (e q q1 q2).symm), gSel_congr rfl rfl rfl rfl rfl rfl e⟩
  refine ⟨fun i q => if i ≤ j then S i q else K' q, fun q q1 q2 => ?_, fun s s1 s2 q q1 q2 => ?_, fun q q1 q2 => ?_⟩
  · show (if 1 ≤ j then S 1 q else K' q) = true ↔ _
    rw [if_pos hj]; exact a1 q q1 q2
  · show (if s + 1 ≤ j then S (s + 1) q else K' q) = true ↔ ((if s ≤ j then S s q else K' q) = true ∧ ¬ (q = s ∧ gSel I T (rkm sel (fun q => if s ≤ j then S s q else K' q) s) sel))
    have e : (fun q => if s ≤ j then S s q else K' q) = S s := funext fun q => if_pos (by omega)
    rw [e, if_pos (show s ≤ j by omega)]
    by_cases w : s + 1 ≤ j
    · rw [if_pos w]; exact a2 s s1 (by omega) q q1 q2
    · have sj : s = j := by omega
      subst sj
      rw [if_neg w, h' q q1 q2, a3 q q1 q2, g]
  · show K' q = if j + 1 ≤ j then S (j + 1) q else K' q
    rw [if_neg (by omega)]
set_option maxHeartbeats 2000000 in
theorem prune_ok (hW : Clo W) (hF : Fgt W) {n : Nat} {I : Nat → Int32} {A : Nat → Nat → Int32} {Q : Pst} (hB : mB I) (hT : mWF A)
    (h0 : ∀ (I' : Nat → Int32) (A' : Nat → Nat → Int32), pSame I A I' A' → (∀ P, gCL I A (rtA A 6) P → False) → Q (some (.int (-4))) (mst n I' A'))
    (h1 : ∀ (I' : Nat → Int32) (A' : Nat → Nat → Int32) (sel : Nat → Nat) (K : Nat → Bool), I' 0 = I 0 → I' 1 = I 1 → (∀ r, r < 6 → A' r = A r) → gSel I A (rtA A 6) sel → pk I A sel (MM I) K → gSel I A (rk sel K) sel →
      (∀ s, A' 6 s = if (1 ≤ s ∧ s < MM I) then (if K s = true then i32 (sel s) else 0) else A 6 s) → Q (some (.int (i32 (cntF (fun s => K (s + 1)) (MM I - 1))))) (mst n I' A')) :
    W k_prune 0 [.val (.ref 1), .unset] [] (mst n I A) Q := by
  obtain ⟨hMi, hM8, hM2⟩ := MM_i hB
  have hV8 : VV I ≤ 8 := by obtain ⟨_, _, _⟩ := id hB; simp only [VV]; omega
  refine hW [16] 30 _ _ _ _ _ _ ?_
  refine buildCurrent_ok hW hF hB hT (fun I1 A1 sel p1 g1 s8 => ?_) (fun I1 A1 p1 g1 => ?_)
  · refine ⟨fun z => absurd z n10, fun _ => ?_⟩
    have hB1 : mB I1 := by unfold mB; rw [p1.1, p1.2.1]; exact hB
    have M1 : MM I1 = MM I := by simp only [MM, p1.1]
    have selV : ∀ s, 1 ≤ s → s < MM I → sel s ≤ 8 := fun s s1 s2 => by obtain ⟨N, _, _, _, n4⟩ := g1; have := (n4 s s1 s2).1; omega
    refine saveSelection_ok hW hB1 fun A2 b1 b2 => ?_
    have loop : ∀ (m j : Nat) (I' : Nat → Int32) (B : Nat → Nat → Int32) (K : Nat → Bool), j + m = MM I → 1 ≤ j → qSame I A I' B → (∀ s, 1 ≤ s → s < MM I → B 12 s = i32 (sel s) ∧ B 13 s = (if K s = true then 1 else 0)) → pk I A sel j K → gSel I A (rk sel K) sel →
        W k_prune 16 [.val (.ref 1), .val (.int (i32 j))] [] (mst n I' B) Q := by
      intro m
      induction m with
      | zero =>
        intro j I' B K hj hj1 q1 q2 hk hg
        have ji : (i32 j).toInt = (j : Int) := i32_toInt (by omega)
        have hB' : mB I' := by unfold mB; rw [q1.1, q1.2.1]; exact hB
        have M' : MM I' = MM I := by simp only [MM, q1.1]
        have e : j = MM I := by omega
        subst e
        refine hW [] 20 _ _ _ _ _ _ ?_
        refine ⟨fun q => ?_, fun _ => ?_⟩
        · have q' : (i32 (MM I)).toInt < (I' 0).toInt := q
          rw [q1.1] at q'; omega
        · refine storePrunedMain_ok hW hB' fun C c1 c2 => ?_
          rw [M'] at c2 ⊢
          have cc : cntF (fun s => decide (¬ B 13 (s + 1) = 0)) (MM I - 1) = cntF (fun s => K (s + 1)) (MM I - 1) := by
            refine cntF_congr fun s hs => ?_
            rw [(q2 (s + 1) (by omega) (by omega)).2]
            cases K (s + 1) <;> decide
          rw [cc]
          refine h1 I' C sel K q1.1 q1.2.1 (fun r hr => (c1 r (by omega)).trans (q1.2.2 r (by omega))) g1 hk hg (fun s => ?_)
          rw [c2 s, q1.2.2 6 (by decide)]
          by_cases w : 1 ≤ s ∧ s < MM I
          · rw [if_pos w, if_pos w, (q2 s w.1 w.2).1, (q2 s w.1 w.2).2]
            cases K s <;> simp
          · rw [if_neg w, if_neg w]
      | succ m ih =>
        intro j I' B K hj hj1 q1 q2 hk hg
        have ji : (i32 j).toInt = (j : Int) := i32_toInt (by omega)
        have jt : (i32 j).toInt.toNat = j := by omega
        have hB' : mB I' := by unfold mB; rw [q1.1, q1.2.1]; exact hB
        have M' : MM I' = MM I := by simp only [MM, q1.1]
        have back : ∀ (I' : Nat → Int32) (B : Nat → Nat → Int32) (K : Nat → Bool), qSame I A I' B → (∀ s, 1 ≤ s → s < MM I → B 12 s = i32 (sel s) ∧ B 13 s = (if K s = true then 1 else 0)) → pk I A sel (j + 1) K → gSel I A (rk sel K) sel → W k_prune 62 [.val (.ref 1), .val (.int (i32 j))] [] (mst n I' B) Q := by
          intro I' B K a b c d
          refine hW [16] 10 _ _ _ _ _ _ ?_
          show W k_prune 16 [.val (.ref 1), .val (.int (i32 j + Int32.ofInt 1))] [] (mst n I' B) Q
          rw [i32_succ]
          exact ih (j + 1) I' B K (by omega) (by omega) a b c d
        have b13 := (q2 j hj1 (by omega)).2
        refine hW [62] 40 _ _ _ _ _ _ ?_
        refine ⟨fun q => ⟨?_, ⟨fun z => ?_, fun z => ?_⟩⟩, fun q => ?_⟩
        · show 0 ≤ (i32 j).toInt ∧ (i32 j).toInt < 9; omega
        · have z' : B 13 (i32 j).toInt.toNat = 0 := z
          rw [jt, b13] at z'
          have kj : K j = false := by
            cases w : K j with
            | true => rw [w, if_pos rfl] at z'; exact absurd z' (by decide)
            | false => rfl
          refine back I' B K q1 q2 (pk_step hj1 hk (fun q _ _ => ⟨fun w => ⟨w, fun y => ?_⟩, fun w => w.1⟩)) hg
          rw [y.1, kj] at w; exact absurd w (by decide)
        · refine loadRootsWithout_ok hW hB' fun C c1 c2 => ?_
          rw [M'] at c2
          have cA : ∀ r, r < 7 → C r = A r := fun r hr => (c1 r (by omega)).trans (q1.2.2 r hr)
          have hrt : ∀ q, 1 ≤ q → q < MM I → rtA C 7 q = rkm sel K j q := by
            intro q q1' q2'
            show (C 7 q).toInt.toNat = _
            have sv := selV q q1' q2'
            have ne : i32 q = i32 j ↔ q = j := ⟨fun e => i32_inj (by omega) (by omega) e, fun e => by rw [e]⟩
            rw [c2 q (by omega), (q2 q q1' q2').1, (q2 q q1' q2').2]
            unfold rkm
            by_cases w : ¬ q = j ∧ K q = true
            · rw [if_pos ⟨q1', q2', fun e => w.1 (ne.1 e), by rw [if_pos w.2]; decide⟩, if_pos w, i32_toInt (by omega)]; omega
            · rw [if_neg w, if_neg]
              · rfl
              · rintro ⟨_, _, w3, w4⟩
                refine w ⟨fun e => w3 (ne.2 e), ?_⟩
                cases kq : K q with
                | true => rfl
                | false => rw [kq] at w4; exact absurd rfl w4
          have toA : ∀ s', gSel I' C (rtA C 7) s' → gSel I A (rkm sel K j) s' := fun s' g => gSel_congr q1.1.symm q1.2.1.symm (cA 2 (by decide)).symm (cA 3 (by decide)).symm (cA 4 (by decide)).symm (cA 5 (by decide)).symm (fun s s1 s2 => (hrt s s1 (by rw [← M']; exact s2)).symm) g
          have notSame : ¬ gSel I A (rkm sel K j) sel → ∀ (I2 : Nat → Int32) (D : Nat → Nat → Int32), tSame I' C I2 D → W k_prune 62 [.val (.ref 1), .val (.int (i32 j))] [] (mst n I2 D) Q := by
            intro hn I2 D t
            refine back I2 D K ⟨t.1.trans q1.1, t.2.1.trans q1.2.1, fun r hr => (t.2.2 r (by omega) (by omega) (by omega) (by omega)).trans (cA r hr)⟩ (fun s s1 s2 => ?_) (pk_step hj1 hk (fun q _ _ => ⟨fun w => ⟨w, fun y => hn y.2⟩, fun w => w.1⟩)) hg
            rw [t.2.2 12 (by decide) (by decide) (by decide) (by decide), t.2.2 13 (by decide) (by decide) (by decide) (by decide), c1 12 (by decide), c1 13 (by decide)]
            exact q2 s s1 s2
          refine runBuild_ok hW hF hB' ⟨by rw [cA 4 (by decide)]; exact hT.1.1, by rw [cA 5 (by decide)]; exact hT.1.2⟩ (fun s hs => ?_) (fun I2 D sel2 t g2 d8 => ?_) (fun I2 D t g2 => ?_)
          · rw [c2 s hs]
            by_cases w : 1 ≤ s ∧ s < MM I ∧ ¬ i32 s = i32 j ∧ ¬ B 13 s = 0
            · rw [if_pos w, (q2 s w.1 w.2.1).1]
              have := selV s w.1 w.2.1
              rw [i32_toInt (by omega)]; omega
            · rw [if_neg w]; decide
          · have g2' := toA sel2 g2
            refine ⟨fun z => absurd z n10, fun _ => ?_⟩
            have hB2 : mB I2 := by unfold mB; rw [t.1, t.2.1]; exact hB'
            have M2 : MM I2 = MM I := by simp only [MM, t.1, q1.1]
            have sel2V : ∀ s, 1 ≤ s → s < MM I → sel2 s ≤ 8 := fun s s1 s2 => by obtain ⟨N, _, _, _, n4⟩ := g2'; have := (n4 s s1 s2).1; omega
            have d12 : ∀ s, 1 ≤ s → s < MM I → D 12 s = i32 (sel s) := fun s s1 s2 => by rw [t.2.2 12 (by decide) (by decide) (by decide) (by decide), c1 12 (by decide)]; exact (q2 s s1 s2).1
            refine sameAsSaved_ok hW hB2 (fun w => ?_) (fun s s1 s2 w => ?_)
            · rw [M2] at w
              have es : ∀ s, 1 ≤ s → s < MM I → sel s = sel2 s := fun s s1 s2 => by
                have := w s s1 s2
                rw [d8 s s1 (by rw [M']; exact s2), d12 s s1 s2] at this
                have a := selV s s1 s2
                have b := sel2V s s1 s2
                exact (i32_inj (by omega) (by omega) this).symm
              have gs := gSel_sel g2' es
              refine ⟨fun z => absurd z n10, fun _ => ⟨?_, ?_⟩⟩
              · show 0 ≤ (i32 j).toInt ∧ (i32 j).toInt < 9; omega
              · show W k_prune 62 [.val (.ref 1), .val (.int (i32 j))] [] (mst n I2 (pmSet D 13 (i32 j).toInt.toNat 0)) Q
                rw [jt]
                refine back I2 _ (fun q => K q && !(decide (q = j))) ⟨t.1.trans q1.1, t.2.1.trans q1.2.1, fun r hr => ?_⟩ (fun s s1 s2 => ?_) (pk_step hj1 hk (fun q _ _ => ?_)) ?_
                · rw [pmSet_r _ _ _ (by omega)]; exact (t.2.2 r (by omega) (by omega) (by omega) (by omega)).trans (cA r hr)
                · rw [pmSet_r _ _ _ (by decide)]
                  refine ⟨d12 s s1 s2, ?_⟩
                  by_cases e : s = j
                  · subst e; rw [pmSet_eq]; simp
                  · rw [pmSet_ne _ _ _ e, t.2.2 13 (by decide) (by decide) (by decide) (by decide), c1 13 (by decide), (q2 s s1 s2).2]; simp [e]
                · by_cases e : q = j
                  · simp [e, gs]
                  · simp [e]
                · refine gSel_congr rfl rfl rfl rfl rfl rfl (fun q _ _ => ?_) gs
                  unfold rk rkm
                  by_cases e : q = j
                  · simp [e]
                  · simp [e]
            · rw [M2] at s2
              refine ⟨fun _ => notSame (fun gs => w ?_) I2 D t, fun z => absurd rfl z⟩
              rw [d8 s s1 (by rw [M']; exact s2), d12 s s1 s2, gSel_uniq g2' gs s s1 s2]
          · refine ⟨fun _ => notSame (fun gs => ?_) I2 D t, fun z => absurd rfl z⟩
            obtain ⟨N, n1, _⟩ := gs
            exact g2 N (gCL_congr q1.1 q1.2.1 (cA 2 (by decide)) (cA 3 (by decide)) (cA 4 (by decide)) (cA 5 (by decide)) (fun s s1 s2 => hrt s s1 s2) n1)
        · have q' : ¬ (i32 j).toInt < (I' 0).toInt := q
          rw [q1.1] at q'; omega
    have init := loop (MM I - 1) 1 I1 A2 (fun q => decide (¬ sel q = 0)) (by omega) (by omega) ⟨p1.1, p1.2.1, fun r hr => (b1 r (by omega) (by omega)).trans ?_⟩ (fun s s1 s2 => ?_) ⟨fun _ q => decide (¬ sel q = 0), fun q _ _ => by simp, fun s s1 s2 => by omega, fun _ _ _ => rfl⟩ ?_
    · exact init
    · exact p1.2.2 r (by omega) (by omega) (by omega) (by omega) (by omega)
    · obtain ⟨b3, b4⟩ := b2 s s1 (by rw [M1]; exact s2)
      have sv := selV s s1 s2
      rw [b3, b4, s8 s s1 s2]
      refine ⟨rfl, ?_⟩
      by_cases w : sel s = 0
      · rw [w, if_pos (show i32 0 = 0 from rfl)]; simp
      · rw [if_neg (show ¬ i32 (sel s) = 0 from fun e => w (i32_inj (a := sel s) (b := 0) (by omega) (by omega) e))]; simp [w]
    · refine gSel_congr rfl rfl rfl rfl rfl rfl (fun q _ _ => ?_) (gSel_roots g1)
      unfold rk
      by_cases w : sel q = 0
      · simp [w]
      · simp [w]
  · exact ⟨fun _ => h0 I1 A1 p1 g1, fun z => absurd rfl z⟩
/-! ## upgrade -/
theorem upgrade_ok (hW : Clo W) (hF : Fgt W) {n : Nat} {I : Nat → Int32} {A : Nat → Nat → Int32} {s v : Int32} {Q : Pst} (hB : mB I) (hT : mWF A) (ht : tb A)
    (h1 : ¬ (mR I s ∧ vR I v) → Q (some (.int (-1))) (mst n I A)) (h2 : mR I s → vR I v → ¬ isL I A s v → Q (some (.int (-2))) (mst n I A)) (h5 : isL I A s v → isE I A s v → Q (some (.int (-5))) (mst n I A))
    (h4 : isL I A s v → ¬ isE I A s v → ∀ (I' : Nat → Int32) (A' : Nat → Nat → Int32), pSame I A I' A' → (∀ P, gCL I A (rtA A 6) P → False) → Q (some (.int (-4))) (mst n I' A'))
    (h6 : isL I A s v → ¬ isE I A s v → ∀ (I' : Nat → Int32) (A' : Nat → Nat → Int32) (sel : Nat → Nat), pSame I A I' A' → gSel I A (rtA A 6) sel → Q (some (.int (-6))) (mst n I' A'))
    (h7 : isL I A s v → ¬ isE I A s v → ∀ (I' : Nat → Int32) (A' : Nat → Nat → Int32) (sel : Nat → Nat), pSame I A I' A' → gSel I A (rtA A 6) sel → Q (some (.int (-7))) (mst n I' A'))
    (h0 : isL I A s v → ¬ isE I A s v → ∀ (I' : Nat → Int32) (A' : Nat → Nat → Int32) (sel0 sel : Nat → Nat), pSame I (pmSet A 6 s.toInt.toNat v) I' A' → gSel I A (rtA A 6) sel0 → gSel I (pmSet A 6 s.toInt.toNat v) (rtA (pmSet A 6 s.toInt.toNat v) 6) sel → Q (some (.int (i32 (sel s.toInt.toNat)))) (mst n I' A')) :
    W k_upgrade 0 [.val (.ref 1), .val (.int s), .val (.int v), .unset] [] (mst n I A) Q := by
  have body : mR I s → vR I v → W k_upgrade 18 [.val (.ref 1), .val (.int s), .val (.int v), .unset] [] (mst n I A) Q := by
    intro ms vv
    obtain ⟨m1, m2⟩ := id ms
    obtain ⟨⟨b0, b1⟩, b2, b3⟩ := id hB
    obtain ⟨v1, v2⟩ := id vv
    have s9 : 0 ≤ s.toInt ∧ s.toInt < 9 := by omega
    have hMi := (MM_i hB).1
    have sM : s.toInt.toNat < MM I := by omega
    refine hW [] 100 _ _ _ _ _ _ ?_
    refine isListed_b hW hB ht (fun l => ?_) (fun l => ⟨fun _ => h2 ms vv l, fun z => absurd rfl z⟩)
    refine ⟨fun z => absurd z n10, fun _ => ?_⟩
    refine isExcluded_b hW hB ht (fun e => ⟨fun z => absurd z n10, fun _ => h5 l e⟩) (fun e => ⟨fun _ => ?_, fun z => absurd rfl z⟩)
    refine buildCurrent_ok hW hF hB hT (fun I1 A1 sel p g s8 => ?_) (fun I1 A1 p g => ⟨fun _ => h4 l e I1 A1 p g, fun z => absurd rfl z⟩)
    refine ⟨fun z => absurd z n10, fun _ => ⟨s9, ⟨fun q => ?_, fun q => h6 l e I1 A1 sel p g⟩⟩⟩
    refine ⟨s9, ⟨s9, ?_⟩⟩
    show W k_buildCurrent 0 [.val (.ref 1)] [] (mst n I1 (pmSet A1 6 s.toInt.toNat v)) _
    have e6 : A1 6 = A 6 := p.2.2 6 (by decide) (by decide) (by decide) (by decide) (by decide)
    have hB1 : mB I1 := by unfold mB; rw [p.1, p.2.1]; exact hB
    have hT1 : mWF (pmSet A1 6 s.toInt.toNat v) := by
      refine ⟨⟨?_, ?_⟩, fun j hj => ?_⟩
      · rw [pmSet_r _ _ _ (by decide), p.2.2 4 (by decide) (by decide) (by decide) (by decide) (by decide)]; exact hT.1.1
      · rw [pmSet_r _ _ _ (by decide), p.2.2 5 (by decide) (by decide) (by decide) (by decide) (by decide)]; exact hT.1.2
      · by_cases ej : j = s.toInt.toNat
        · subst ej; rw [pmSet_eq]; omega
        · rw [pmSet_ne _ _ _ ej, e6]; exact hT.2 j hj
    have pp : ∀ (I2 : Nat → Int32) (A2 : Nat → Nat → Int32), pSame I1 (pmSet A1 6 s.toInt.toNat v) I2 A2 → pSame I (pmSet A 6 s.toInt.toNat v) I2 A2 := by
      intro I2 A2 h
      refine ⟨h.1.trans p.1, h.2.1.trans p.2.1, fun r r7 r8 r9 r10 r11 => (h.2.2 r r7 r8 r9 r10 r11).trans ?_⟩
      funext j
      simp only [pmSet]
      by_cases er : r = 6
      · rw [if_pos er, if_pos er, e6]
      · rw [if_neg er, if_neg er, p.2.2 r r7 r8 r9 r10 r11]
    refine buildCurrent_ok hW hF hB1 hT1 (fun I2 A2 sel2 p2 g2 s82 => ?_) (fun I2 A2 p2 g2 => ?_)
    · refine ⟨fun z => absurd z n10, fun _ => ⟨s9, ?_⟩⟩
      have M1 : MM I1 = MM I := by simp only [MM, p.1]
      have q8 := s82 s.toInt.toNat (by omega) (by rw [M1]; exact sM)
      show Q (some (.int (A2 8 s.toInt.toNat))) (mst n I2 A2)
      rw [q8]
      refine h0 l e I2 A2 sel sel2 (pp I2 A2 p2) g (gSel_congr p.1.symm p.2.1.symm ?_ ?_ ?_ ?_ (fun j _ _ => ?_) g2)
      · rw [pmSet_r _ _ _ (by decide), pmSet_r _ _ _ (by decide), p.2.2 2 (by decide) (by decide) (by decide) (by decide) (by decide)]
      · rw [pmSet_r _ _ _ (by decide), pmSet_r _ _ _ (by decide), p.2.2 3 (by decide) (by decide) (by decide) (by decide) (by decide)]
      · rw [pmSet_r _ _ _ (by decide), pmSet_r _ _ _ (by decide), p.2.2 4 (by decide) (by decide) (by decide) (by decide) (by decide)]
      · rw [pmSet_r _ _ _ (by decide), pmSet_r _ _ _ (by decide), p.2.2 5 (by decide) (by decide) (by decide) (by decide) (by decide)]
      · simp only [rtA, pmSet, if_true, e6]
    · refine ⟨fun _ => ⟨s9, ?_⟩, fun z => absurd rfl z⟩
      refine h7 l e I2 _ sel ⟨p2.1.trans p.1, p2.2.1.trans p.2.1, fun r r7 r8 r9 r10 r11 => ?_⟩ g
      have q2 := (pp I2 A2 p2).2.2 r r7 r8 r9 r10 r11
      funext j
      show pmSet A2 6 s.toInt.toNat (A1 6 s.toInt.toNat) r j = A r j
      simp only [pmSet]
      by_cases er : r = 6
      · subst er
        rw [if_pos rfl]
        by_cases ej : j = s.toInt.toNat
        · rw [if_pos ej, e6, ej]
        · have := congrFun q2 j
          rw [pmSet_ne _ _ _ ej] at this
          rw [if_neg ej, this]
      · have := congrFun q2 j
        rw [pmSet_r _ _ _ er] at this
        rw [if_neg er, this]
  refine hW [18] 30 _ _ _ _ _ _ ?_
  refine modInRange_ok hW (fun a => ?_) (fun a => ⟨fun _ => h1 fun w => a w.1, fun z => absurd rfl z⟩)
  refine ⟨fun z => absurd z n10, fun _ => ?_⟩
  refine verInRange_ok hW (fun b => ?_) (fun b => ⟨fun _ => h1 fun w => b w.2, fun z => absurd rfl z⟩)
  exact ⟨fun z => absurd z n10, fun _ => body a b⟩
/-! ## downgrade -/
theorem usableVersion_ok (hW : Clo W) {n : Nat} {I : Nat → Int32} {A : Nat → Nat → Int32} {m x : Int32} {Q : Pst} (hB : mB I) (ht : tb A) (h1 : isL I A m x → ¬ isE I A m x → Q (some (.int 1)) (mst n I A)) (h0 : ¬ (isL I A m x ∧ ¬ isE I A m x) → Q (some (.int 0)) (mst n I A)) :
    W k_usableVersion 0 [.val (.ref 1), .val (.int m), .val (.int x)] [] (mst n I A) Q := by
  refine hW [] 30 _ _ _ _ _ _ ?_
  refine isListed_b hW hB ht (fun l => ⟨fun z => absurd z n10, fun _ => ?_⟩) (fun l => ⟨fun _ => h0 fun w => l w.1, fun z => absurd rfl z⟩)
  exact isExcluded_b hW hB ht (fun e => ⟨fun z => absurd z n10, fun _ => h0 fun w => w.2 e⟩) (fun e => ⟨fun _ => h1 l e, fun z => absurd rfl z⟩)
/-- w is allowed for s: its own build stands and keeps t at most v -/
def aOK (I : Nat → Int32) (A : Nat → Nat → Int32) (s w t v : Int32) : Prop := isL I A s w ∧ ¬ isE I A s w ∧ ∃ sel, gSel I A (rt1 s.toInt.toNat w.toInt.toNat) sel ∧ (sel t.toInt.toNat : Int) ≤ v.toInt
theorem isAllowed_ok (hW : Clo W) (hF : Fgt W) {n : Nat} {I : Nat → Int32} {A : Nat → Nat → Int32} {s w t v : Int32} {Q : Pst} (hB : mB I) (hT : gWF A) (ht : tb A) (mt : mR I t)
    (h1 : ∀ I' A', pSame I A I' A' → aOK I A s w t v → Q (some (.int 1)) (mst n I' A')) (h0 : ∀ I' A', pSame I A I' A' → Q (some (.int 0)) (mst n I' A')) :
    W k_isAllowed 0 [.val (.ref 1), .val (.int s), .val (.int w), .val (.int t), .val (.int v)] [] (mst n I A) Q := by
  obtain ⟨t1, t2⟩ := id mt
  obtain ⟨⟨b0, b1⟩, b2, b3⟩ := id hB
  have hMi := (MM_i hB).1
  refine hW [] 60 _ _ _ _ _ _ ?_
  refine usableVersion_ok hW hB ht (fun l e => ⟨fun z => absurd z n10, fun _ => ?_⟩) (fun _ => ⟨fun _ => h0 I A (pSame.refl I A), fun z => absurd rfl z⟩)
  have vw : vN I w := ⟨by have := l.2.1.1; omega, l.2.1.2⟩
  refine loadSingleRoot_ok hW hB l.1 fun A1 y7 yr => ?_
  refine runSingle_ok hW hF hB hT l.1 vw y7 yr (fun I2 A2 sel p g s8 => ?_) (fun I2 A2 p g => ⟨fun _ => h0 I2 A2 p, fun z => absurd rfl z⟩)
  have q8 := s8 t.toInt.toNat (by omega) (by omega)
  have sv : sel t.toInt.toNat ≤ VV I := by obtain ⟨N, _, _, _, n4⟩ := g; exact (n4 _ (by omega) (by omega)).1
  have v8 : VV I ≤ 8 := by simp only [VV]; omega
  have i8 : (A2 8 t.toInt.toNat).toInt = (sel t.toInt.toNat : Int) := by rw [q8, i32_toInt (by omega)]
  refine ⟨fun z => absurd z n10, fun _ => ⟨?_, ⟨fun q => h0 I2 A2 p, fun q => h1 I2 A2 p ⟨l, e, sel, g, ?_⟩⟩⟩⟩
  · show 0 ≤ t.toInt ∧ t.toInt < 9; omega
  · have q' : ¬ v.toInt < (A2 8 t.toInt.toNat).toInt := q
    omega
theorem pSame_mB {I I' : Nat → Int32} {A A' : Nat → Nat → Int32} (p : pSame I A I' A') (hB : mB I) : mB I' := by unfold mB; rw [p.1, p.2.1]; exact hB
theorem pSame_aOK {I I' : Nat → Int32} {A A' : Nat → Nat → Int32} {s w t v : Int32} (i0 : I' 0 = I 0) (i1 : I' 1 = I 1) (h : ∀ r, r < 6 → A' r = A r) (a : aOK I' A' s w t v) : aOK I A s w t v := by
  unfold aOK isL isE mR vR at *
  rw [i0, i1, h 2 (by decide), h 3 (by decide)] at a
  obtain ⟨a1, a2, sel, a3, a4⟩ := a
  exact ⟨a1, a2, sel, gSel_congr i0.symm i1.symm (h 2 (by decide)).symm (h 3 (by decide)).symm (h 4 (by decide)).symm (h 5 (by decide)).symm (fun _ _ _ => rfl) a3, a4⟩
theorem bestAllowed_ok (hW : Clo W) (hF : Fgt W) {n : Nat} {I : Nat → Int32} {A : Nat → Nat → Int32} {s lim t v : Int32} {Q : Pst} (hB : mB I) (hT : gWF A) (ht : tb A) (mt : mR I t) (hl : 0 ≤ lim.toInt)
    (hq : ∀ I' A' (w : Int32), pSame I A I' A' → 0 ≤ w.toInt → w.toInt ≤ lim.toInt → w.toInt ≤ (I 1).toInt → (¬ w = 0 → aOK I A s w t v) → Q (some (.int w)) (mst n I' A')) :
    W k_bestAllowed 0 [.val (.ref 1), .val (.int s), .val (.int lim), .val (.int t), .val (.int v), .unset, .unset] [] (mst n I A) Q := by
  obtain ⟨⟨b0, b1⟩, b2, b3⟩ := id hB
  have loop : ∀ (j : Nat) (I' : Nat → Int32) (A' : Nat → Nat → Int32) (top w : Int32), w.toInt = (j : Int) → w.toInt ≤ lim.toInt → w.toInt ≤ (I 1).toInt → pSame I A I' A' → W k_bestAllowed 22 [.val (.ref 1), .val (.int s), .val (.int lim), .val (.int t), .val (.int v), .val (.int top), .val (.int w)] [] (mst n I' A') Q := by
    intro j
    induction j with
    | zero =>
      intro I' A' top w hw w1 w2 p
      refine hW [] 20 _ _ _ _ _ _ ?_
      refine ⟨fun _ => hq I' A' 0 p (by decide) (by rw [tI0]; omega) (by rw [tI0]; omega) (fun z => absurd rfl z), fun q => ?_⟩
      have q' : ¬ w.toInt < (Int32.ofInt 1).toInt := q
      rw [oI1] at q'; omega
    | succ j ih =>
      intro I' A' top w hw w1 w2 p
      have hB' := pSame_mB p hB
      have r6 : ∀ r, r < 7 → A' r = A r := fun r hr => p.2.2 r (by omega) (by omega) (by omega) (by omega) (by omega)
      have hT' : gWF A' := by unfold gWF; rw [r6 4 (by decide), r6 5 (by decide)]; exact hT
      have ht' : tb A' := by unfold tb; rw [r6 2 (by decide), r6 3 (by decide)]; exact ht
      have mt' : mR I' t := by unfold mR; rw [p.1]; exact mt
      refine hW [22] 40 _ _ _ _ _ _ ?_
      refine ⟨fun q => ?_, fun q => ?_⟩
      · have q' : w.toInt < (Int32.ofInt 1).toInt := q
        rw [oI1] at q'; omega
      · refine isAllowed_ok hW hF hB' hT' ht' mt' (fun I2 A2 p2 a => ?_) (fun I2 A2 p2 => ?_)
        · refine ⟨fun z => absurd z n10, fun _ => ?_⟩
          exact hq I2 A2 w (p.trans p2) (by omega) w1 w2 (fun _ => pSame_aOK p.1 p.2.1 (fun r hr => r6 r (by omega)) a)
        · refine ⟨fun _ => ?_, fun z => absurd rfl z⟩
          have om : (Int32.ofInt (-1)).toInt = -1 := by decide
          have e : (w + Int32.ofInt (-1)).toInt = (j : Int) := by rw [tI_add (by rw [om]; omega) (by rw [om]; omega), om]; omega
          exact ih I2 A2 top _ e (by omega) (by omega) (p.trans p2)
  refine hW [22] 30 _ _ _ _ _ _ ?_
  refine ⟨fun q => ?_, fun q => ?_⟩
  · have q' : (I 1).toInt < lim.toInt := q
    exact loop (I 1).toInt.toNat I A _ _ (by show (I 1).toInt = _; omega) (by show (I 1).toInt ≤ _; omega) (Int.le_refl _) (pSame.refl I A)
  · have q' : ¬ (I 1).toInt < lim.toInt := q
    exact loop lim.toInt.toNat I A _ _ (by omega) (Int.le_refl _) (by omega) (pSame.refl I A)
def dOK (I : Nat → Int32) (A : Nat → Nat → Int32) (t v : Int32) (s : Nat) (w : Int32) : Prop := 0 ≤ w.toInt ∧ w.toInt ≤ (A 6 s).toInt ∧ w.toInt ≤ 8 ∧ (i32 s = t → w.toInt ≤ v.toInt) ∧ (¬ w = 0 → aOK I A (i32 s) w t v)
set_option maxHeartbeats 2000000 in
theorem computeDowngradedMain_ok (hW : Clo W) (hF : Fgt W) {n : Nat} {I : Nat → Int32} {A : Nat → Nat → Int32} {t v : Int32} {Q : Pst} (hB : mB I) (hT : mWF A) (ht : tb A) (mt : mR I t) (hv : 0 ≤ v.toInt)
    (hq : ∀ I' A', qSame I A I' A' → (∀ s, 1 ≤ s → s < MM I → dOK I A t v s (A' 14 s)) → Q none (mst n I' A')) :
    W k_computeDowngradedMain 0 [.val (.ref 1), .val (.int t), .val (.int v), .unset, .unset] [] (mst n I A) Q := by
  obtain ⟨hMi, hM8, hM2⟩ := MM_i hB
  obtain ⟨⟨b0, b1⟩, b2, b3⟩ := id hB
  have loop2 : ∀ (m j : Nat) (I' : Nat → Int32) (B : Nat → Nat → Int32), j + m = MM I → 1 ≤ j → qSame I A I' B → (∀ s, 1 ≤ s → s < j → dOK I A t v s (B 14 s)) → (∀ s, j ≤ s → s < 9 → B 14 s = 0) → W k_computeDowngradedMain 23 [.val (.ref 1), .val (.int t), .val (.int v), .val (.int (i32 j)), .unset] [] (mst n I' B) Q := by
    intro m
    induction m with
    | zero =>
      intro j I' B hj hj1 q1 q2 q3
      have ji : (i32 j).toInt = (j : Int) := i32_toInt (by omega)
      refine hW [] 20 _ _ _ _ _ _ ?_
      refine ⟨fun q => ?_, fun _ => hq I' B q1 (fun s s1 s2 => q2 s s1 (by omega))⟩
      have q' : (i32 j).toInt < (I' 0).toInt := q
      rw [q1.1] at q'; omega
    | succ m ih =>
      intro j I' B hj hj1 q1 q2 q3
      have ji : (i32 j).toInt = (j : Int) := i32_toInt (by omega)
      have jt : (i32 j).toInt.toNat = j := by omega
      have hB' : mB I' := by unfold mB; rw [q1.1, q1.2.1]; exact hB
      have hT' : gWF B := by unfold gWF; rw [q1.2.2 4 (by decide), q1.2.2 5 (by decide)]; exact hT.1
      have ht' : tb B := by unfold tb; rw [q1.2.2 2 (by decide), q1.2.2 3 (by decide)]; exact ht
      have mt' : mR I' t := by unfold mR; rw [q1.1]; exact mt
      have e6 : B 6 (i32 j).toInt.toNat = A 6 j := by rw [jt, q1.2.2 6 (by decide)]
      obtain ⟨m0, m8⟩ := hT.2 j (by omega)
      have next : ∀ (I2 : Nat → Int32) (C : Nat → Nat → Int32) (x : Slot), qSame I A I2 C → (∀ s, 1 ≤ s → s < j + 1 → dOK I A t v s (C 14 s)) → (∀ s, j + 1 ≤ s → s < 9 → C 14 s = 0) → W k_computeDowngradedMain 76 [.val (.ref 1), .val (.int t), .val (.int v), .val (.int (i32 j)), x] [] (mst n I2 C) Q := by
        intro I2 C x a b c
        refine hF _ _ _ [.val (.ref 1), .val (.int t), .val (.int v), .val (.int (i32 j)), .unset] _ _ _ ⟨Or.inr rfl, Or.inr rfl, Or.inr rfl, Or.inr rfl, Or.inl rfl, trivial⟩ ?_
        refine hW [23] 10 _ _ _ _ _ _ ?_
        show W k_computeDowngradedMain 23 [.val (.ref 1), .val (.int t), .val (.int v), .val (.int (i32 j + Int32.ofInt 1)), .unset] [] (mst n I2 C) Q
        rw [i32_succ]
        exact ih (j + 1) I2 C (by omega) (by omega) a b c
      have pick : ∀ lim : Int32, 0 ≤ lim.toInt → lim.toInt ≤ (A 6 j).toInt → (i32 j = t → lim.toInt ≤ v.toInt) → W k_computeDowngradedMain 61 [.val (.ref 1), .val (.int t), .val (.int v), .val (.int (i32 j)), .val (.int lim)] [] (mst n I' B) Q := by
        intro lim l0 l1 l2
        refine hW [76] 30 _ _ _ _ _ _ ?_
        refine bestAllowed_ok hW hF hB' hT' ht' mt' l0 (fun I2 C w p w0 w1 w2 wa => ?_)
        refine ⟨?_, ?_⟩
        · show 0 ≤ (i32 j).toInt ∧ (i32 j).toInt < 9; omega
        · show W k_computeDowngradedMain 76 [.val (.ref 1), .val (.int t), .val (.int v), .val (.int (i32 j)), .val (.int lim)] [] (mst n I2 (pmSet C 14 (i32 j).toInt.toNat w)) Q
          rw [jt]
          refine next I2 _ _ ⟨p.1.trans q1.1, p.2.1.trans q1.2.1, fun r hr => ?_⟩ (fun s s1 s2 => ?_) (fun s s1 s2 => ?_)
          · rw [pmSet_r _ _ _ (by omega)]
            exact (p.2.2 r (by omega) (by omega) (by omega) (by omega) (by omega)).trans (q1.2.2 r hr)
          · by_cases e : s = j
            · subst e
              rw [pmSet_eq]
              exact ⟨w0, by omega, by omega, fun z => by have := l2 z; omega, fun z => pSame_aOK q1.1 q1.2.1 (fun r hr => q1.2.2 r (by omega)) (wa z)⟩
            · rw [pmSet_ne _ _ _ e, p.2.2 14 (by decide) (by decide) (by decide) (by decide) (by decide)]; exact q2 s s1 (by omega)
          · rw [pmSet_ne _ _ _ (by omega), p.2.2 14 (by decide) (by decide) (by decide) (by decide) (by decide)]; exact q3 s (by omega) s2
      refine hW [61, 76] 40 _ _ _ _ _ _ ?_
      refine ⟨fun q => ⟨?_, ?_⟩, fun q => ?_⟩
      · show 0 ≤ (i32 j).toInt ∧ (i32 j).toInt < 9; omega
      · rw [show (mst n I' B).2.2.2 6 (i32 j).toInt.toNat = A 6 j from e6]
        refine ⟨fun z => ?_, fun z => ⟨fun z2 => ⟨fun z3 => ?_, fun z3 => ?_⟩, fun z2 => ?_⟩⟩
        · refine next I' B _ q1 (fun s s1 s2 => ?_) (fun s s1 s2 => q3 s (by omega) s2)
          by_cases e : s = j
          · subst e
            rw [q3 s (Nat.le_refl _) (by omega)]
            exact ⟨by decide, by rw [tI0]; omega, by decide, fun _ => by rw [tI0]; omega, fun y => absurd rfl y⟩
          · exact q2 s s1 (by omega)
        · have z3' : v.toInt < (A 6 j).toInt := z3
          exact pick v hv (by omega) (fun _ => Int.le_refl _)
        · have z3' : ¬ v.toInt < (A 6 j).toInt := z3
          exact pick _ m0 (Int.le_refl _) (fun _ => by omega)
        · exact pick _ m0 (Int.le_refl _) (fun y => absurd y z2)
      · have q' : ¬ (i32 j).toInt < (I' 0).toInt := q
        rw [q1.1] at q'; omega
  have loop1 : ∀ (m j : Nat) (B : Nat → Nat → Int32), j + m = 9 → (∀ r, r ≠ 14 → B r = A r) → (∀ s, s < j → B 14 s = 0) → W k_computeDowngradedMain 2 [.val (.ref 1), .val (.int t), .val (.int v), .val (.int (i32 j)), .unset] [] (mst n I B) Q := by
    intro m
    induction m with
    | zero =>
      intro j B hj g1 g2
      have ji : (i32 j).toInt = (j : Int) := i32_toInt (by omega)
      refine hW [23] 20 _ _ _ _ _ _ ?_
      refine ⟨fun q => ?_, fun _ => loop2 (MM I - 1) 1 I B (by omega) (by omega) ⟨rfl, rfl, fun r hr => g1 r (by omega)⟩ (fun s s1 s2 => by omega) (fun s _ hs => g2 s (by omega))⟩
      have q' : (i32 j).toInt < (Int32.ofInt 9).toInt := q
      rw [oI9] at q'; omega
    | succ m ih =>
      intro j B hj g1 g2
      have ji : (i32 j).toInt = (j : Int) := i32_toInt (by omega)
      have jt : (i32 j).toInt.toNat = j := by omega
      refine hW [2] 30 _ _ _ _ _ _ ?_
      refine ⟨fun q => ⟨?_, ?_⟩, fun q => ?_⟩
      · show 0 ≤ (i32 j).toInt ∧ (i32 j).toInt < 9; omega
      · show W k_computeDowngradedMain 2 [.val (.ref 1), .val (.int t), .val (.int v), .val (.int (i32 j + Int32.ofInt 1)), .unset] [] (mst n I (pmSet B 14 (i32 j).toInt.toNat 0)) Q
        rw [i32_succ, jt]
        refine ih (j + 1) _ (by omega) (fun r hr => by rw [pmSet_r _ _ _ hr]; exact g1 r hr) (fun s hs => ?_)
        by_cases e : s = j
        · subst e; rw [pmSet_eq]
        · rw [pmSet_ne _ _ _ e]; exact g2 s (by omega)
      · have q' : ¬ (i32 j).toInt < (Int32.ofInt 9).toInt := q
        rw [oI9] at q'; omega
  refine hW [2] 20 _ _ _ _ _ _ ?_
  exact loop1 9 0 A (by omega) (fun _ _ => rfl) (fun s hs => absurd hs (Nat.not_lt_zero _))
theorem copyNextMain_ok (hW : Clo W) {n : Nat} {I : Nat → Int32} {A : Nat → Nat → Int32} {Q : Pst} (hB : mB I)
    (hq : ∀ B : Nat → Nat → Int32, (∀ r, r ≠ 6 → B r = A r) → (∀ s, B 6 s = if (1 ≤ s ∧ s < MM I) then A 14 s else A 6 s) → Q none (mst n I B)) :
    W k_copyNextMain 0 [.val (.ref 1), .unset] [] (mst n I A) Q := by
  obtain ⟨hMi, hM8, hM2⟩ := MM_i hB
  have loop : ∀ (m j : Nat) (B : Nat → Nat → Int32), j + m = MM I → 1 ≤ j → (∀ r, r ≠ 6 → B r = A r) → (∀ s, B 6 s = if (1 ≤ s ∧ s < j) then A 14 s else A 6 s) → W k_copyNextMain 2 [.val (.ref 1), .val (.int (i32 j))] [] (mst n I B) Q := by
    intro m
    induction m with
    | zero =>
      intro j B hj hj1 g1 g2
      have ji : (i32 j).toInt = (j : Int) := i32_toInt (by omega)
      have e : j = MM I := by omega
      subst e
      refine hW [] 20 _ _ _ _ _ _ ?_
      refine ⟨fun q => ?_, fun _ => hq B g1 g2⟩
      have q' : (i32 (MM I)).toInt < (I 0).toInt := q
      omega
    | succ m ih =>
      intro j B hj hj1 g1 g2
      have ji : (i32 j).toInt = (j : Int) := i32_toInt (by omega)
      have jt : (i32 j).toInt.toNat = j := by omega
      have e14 : B 14 (i32 j).toInt.toNat = A 14 j := by rw [jt, g1 14 (by decide)]
      refine hW [2] 30 _ _ _ _ _ _ ?_
      refine ⟨fun q => ⟨?_, ⟨?_, ?_⟩⟩, fun q => ?_⟩
      · show 0 ≤ (i32 j).toInt ∧ (i32 j).toInt < 9; omega
      · show 0 ≤ (i32 j).toInt ∧ (i32 j).toInt < 9; omega
      · show W k_copyNextMain 2 [.val (.ref 1), .val (.int (i32 j + Int32.ofInt 1))] [] (mst n I (pmSet B 6 (i32 j).toInt.toNat (B 14 (i32 j).toInt.toNat))) Q
        rw [e14, jt, i32_succ]
        refine ih (j + 1) _ (by omega) (by omega) (fun r hr => by rw [pmSet_r _ _ _ hr]; exact g1 r hr) (fun s => ?_)
        by_cases e : s = j
        · subst e; rw [pmSet_eq, if_pos ⟨hj1, by omega⟩]
        · rw [pmSet_ne _ _ _ e, g2 s]
          by_cases w : 1 ≤ s ∧ s < j
          · rw [if_pos w, if_pos (show 1 ≤ s ∧ s < j + 1 by omega)]
          · rw [if_neg w, if_neg (show ¬ (1 ≤ s ∧ s < j + 1) by omega)]
      · have q' : ¬ (i32 j).toInt < (I 0).toInt := q
        omega
  refine hW [2] 20 _ _ _ _ _ _ ?_
  exact loop (MM I - 1) 1 A (by omega) (by omega) (fun _ _ => rfl) (fun s => by rw [if_neg (by omega)])
/-- the lowered roots have a closed set, and in it t is at most v -/
theorem dn_math {I : Nat → Int32} {T : Nat → Nat → Int32} {t v : Int32} {rt : Nat → Nat} (mt : mR I t) (hMi : (I 0).toInt = (MM I : Int)) (hM8 : MM I ≤ 8) (hv : 0 ≤ v.toInt) (h : ∀ s, 1 ≤ s → s < MM I → rt s ≤ 8 ∧ (rt s ≠ 0 → aOK I T (i32 s) (i32 (rt s)) t v)) :
    (∃ P, gCL I T rt P) ∧ ∀ sel, gSel I T rt sel → (sel t.toInt.toNat : Int) ≤ v.toInt := by
  obtain ⟨t1, t2⟩ := id mt
  have st : ∀ s, s < MM I → (i32 s).toInt.toNat = s := fun s hs => by rw [i32_toInt (by omega)]; omega
  have wt : ∀ s, 1 ≤ s → s < MM I → (i32 (rt s)).toInt.toNat = rt s := fun s s1 hs => by have := (h s s1 hs).1; rw [i32_toInt (by omega)]; omega
  have cl : gCL I T rt (fun m x => ∃ s, 1 ≤ s ∧ s < MM I ∧ rt s ≠ 0 ∧ ∃ (N : Nat → Nat → Prop), gCL I T (rt1 s (rt s)) N ∧ N m x ∧ ∀ x', N t.toInt.toNat x' → (x' : Int) ≤ v.toInt) := by
    refine ⟨fun s s1 s2 hr => ?_, fun m x hi hp s s1 s2 hne hr => ?_⟩
    · obtain ⟨a1, a2, sel, ⟨N, n1, n2, n3, n4⟩, a4⟩ := (h s s1 s2).2 hr
      rw [st s s2, wt s s1 s2] at n1
      have e : rt1 s (rt s) s = rt s := if_pos rfl
      obtain ⟨r1, r2⟩ := n1.1 s s1 s2 (by rw [e]; exact hr)
      rw [e] at r1 r2
      refine ⟨r1, s, s1, s2, hr, N, n1, r2, fun x' hx => ?_⟩
      have := (n4 t.toInt.toNat (by omega) (by omega)).2.2 x' hx
      omega
    · obtain ⟨s', p1, p2, p3, N, n1, n2, n3⟩ := hp
      obtain ⟨r1, r2⟩ := n1.2 m x hi n2 s s1 s2 hne hr
      exact ⟨r1, s', p1, p2, p3, N, n1, r2, n3⟩
  refine ⟨⟨_, cl⟩, fun sel hs => ?_⟩
  obtain ⟨N, n1, n2, n3, n4⟩ := hs
  by_cases z : sel t.toInt.toNat = 0
  · rw [z]; omega
  · obtain ⟨s', _, _, _, N', _, q2, q3⟩ := n2 _ cl _ _ ((n4 t.toInt.toNat (by omega) (by omega)).2.1 z)
    exact q3 _ q2
set_option maxHeartbeats 2000000 in
theorem downgrade_ok (hW : Clo W) (hF : Fgt W) {n : Nat} {I : Nat → Int32} {A : Nat → Nat → Int32} {t v : Int32} {Q : Pst} (hB : mB I) (hT : mWF A) (ht : tb A)
    (h1 : ¬ (mR I t ∧ vN I v) → Q (some (.int (-1))) (mst n I A))
    (h4 : mR I t → vN I v → ∀ I' A', pSame I A I' A' → (∀ P, gCL I A (rtA A 6) P → False) → Q (some (.int (-4))) (mst n I' A'))
    (h6 : mR I t → vN I v → ∀ I' A' sel, pSame I A I' A' → gSel I A (rtA A 6) sel → Q (some (.int (-6))) (mst n I' A'))
    (h0 : mR I t → vN I v → ∀ I' A' sel0 sel, I' 0 = I 0 → I' 1 = I 1 → (∀ r, r < 6 → A' r = A r) → gSel I A (rtA A 6) sel0 → (∀ s, 1 ≤ s → s < MM I → dOK I A t v s (A' 6 s)) → (∀ s, ¬ (1 ≤ s ∧ s < MM I) → A' 6 s = A 6 s) → gSel I A (rtA A' 6) sel → (sel t.toInt.toNat : Int) ≤ v.toInt → Q (some (.int (i32 (sel t.toInt.toNat)))) (mst n I' A')) :
    W k_downgrade 0 [.val (.ref 1), .val (.int t), .val (.int v)] [] (mst n I A) Q := by
  obtain ⟨hMi, hM8, hM2⟩ := MM_i hB
  have body : mR I t → vN I v → W k_downgrade 18 [.val (.ref 1), .val (.int t), .val (.int v)] [] (mst n I A) Q := by
    intro mt vv
    obtain ⟨t1, t2⟩ := id mt
    have t9 : 0 ≤ t.toInt ∧ t.toInt < 9 := by omega
    refine hW [] 80 _ _ _ _ _ _ ?_
    refine buildCurrent_ok hW hF hB hT (fun I1 A1 sel0 p g s8 => ?_) (fun I1 A1 p g => ⟨fun _ => h4 mt vv I1 A1 p g, fun z => absurd rfl z⟩)
    have hB1 := pSame_mB p hB
    have M1 : MM I1 = MM I := by simp only [MM, p.1]
    have r1 : ∀ r, r < 7 → A1 r = A r := fun r hr => p.2.2 r (by omega) (by omega) (by omega) (by omega) (by omega)
    have hT1 : mWF A1 := by unfold mWF gWF; rw [r1 4 (by decide), r1 5 (by decide), r1 6 (by decide)]; exact hT
    have ht1 : tb A1 := by unfold tb; rw [r1 2 (by decide), r1 3 (by decide)]; exact ht
    refine ⟨fun z => absurd z n10, fun _ => ⟨t9, ⟨fun q => ?_, fun q => h6 mt vv I1 A1 sel0 p g⟩⟩⟩
    refine computeDowngradedMain_ok hW hF hB1 hT1 ht1 (by unfold mR; rw [p.1]; exact mt) vv.1 (fun I2 A2 q1 q2 => ?_)
    rw [M1] at q2
    have hB2 : mB I2 := by unfold mB; rw [q1.1, q1.2.1]; exact hB1
    have M2 : MM I2 = MM I := by simp only [MM, q1.1, p.1]
    refine copyNextMain_ok hW hB2 (fun A3 c1 c2 => ?_)
    rw [M2] at c2
    have r3 : ∀ r, r < 6 → A3 r = A r := fun r hr => (c1 r (by omega)).trans ((q1.2.2 r (by omega)).trans (r1 r (by omega)))
    have i0 : I2 0 = I 0 := q1.1.trans p.1
    have i1 : I2 1 = I 1 := q1.2.1.trans p.2.1
    have d3 : ∀ s, 1 ≤ s → s < MM I → dOK I A t v s (A3 6 s) := by
      intro s s1 s2
      rw [c2 s, if_pos ⟨s1, s2⟩]
      obtain ⟨a, b, c, d, e⟩ := q2 s s1 s2
      rw [r1 6 (by decide)] at b
      exact ⟨a, b, c, d, fun z => pSame_aOK p.1 p.2.1 (fun r hr => r1 r (by omega)) (e z)⟩
    have o3 : ∀ s, ¬ (1 ≤ s ∧ s < MM I) → A3 6 s = A 6 s := by
      intro s hs
      rw [c2 s, if_neg hs, q1.2.2 6 (by decide), r1 6 (by decide)]
    have hT3 : mWF A3 := by
      refine ⟨?_, fun s hs => ?_⟩
      · unfold gWF; rw [r3 4 (by decide), r3 5 (by decide)]; exact hT.1
      · by_cases w : 1 ≤ s ∧ s < MM I
        · obtain ⟨a, b, c, d, e⟩ := d3 s w.1 w.2; omega
        · rw [o3 s w]; exact hT.2 s hs
    have toA : ∀ sel, gSel I2 A3 (rtA A3 6) sel → gSel I A (rtA A3 6) sel := fun sel g => gSel_congr i0.symm i1.symm (r3 2 (by decide)).symm (r3 3 (by decide)).symm (r3 4 (by decide)).symm (r3 5 (by decide)).symm (fun _ _ _ => rfl) g
    have mth := dn_math (I := I) (T := A) (t := t) (v := v) (rt := rtA A3 6) mt hMi hM8 vv.1 (fun s s1 s2 => by
      obtain ⟨a, b, c, d, e⟩ := d3 s s1 s2
      refine ⟨by show (A3 6 s).toInt.toNat ≤ 8; omega, fun z => ?_⟩
      have := e fun y => z (by show (A3 6 s).toInt.toNat = 0; rw [y]; rfl)
      rw [show i32 (rtA A3 6 s) = A3 6 s from (i32_of a).symm]
      exact this)
    refine buildCurrent_ok hW hF hB2 hT3 (fun I4 A4 sel p4 g4 s84 => ?_) (fun I4 A4 p4 g4 => ?_)
    · refine ⟨fun z => absurd z n10, fun _ => ⟨t9, ?_⟩⟩
      show Q (some (.int (A4 8 t.toInt.toNat))) (mst n I4 A4)
      rw [s84 t.toInt.toNat (by omega) (by rw [M2]; omega)]
      have e6 : A4 6 = A3 6 := p4.2.2 6 (by decide) (by decide) (by decide) (by decide) (by decide)
      have g5 := toA sel g4
      refine h0 mt vv I4 A4 sel0 sel (p4.1.trans i0) (p4.2.1.trans i1) (fun r hr => (p4.2.2 r (by omega) (by omega) (by omega) (by omega) (by omega)).trans (r3 r hr)) g (by rw [e6]; exact d3) (by rw [e6]; exact o3) ?_ (mth.2 sel g5)
      have : rtA A4 6 = rtA A3 6 := by unfold rtA; rw [e6]
      rw [this]; exact g5
    · exfalso
      obtain ⟨P, hP⟩ := mth.1
      exact g4 P (gCL_congr i0 i1 (r3 2 (by decide)) (r3 3 (by decide)) (r3 4 (by decide)) (r3 5 (by decide)) (fun _ _ _ => rfl) hP)
  refine hW [18] 30 _ _ _ _ _ _ ?_
  refine modInRange_ok hW (fun a => ?_) (fun a => ⟨fun _ => h1 fun w => a w.1, fun z => absurd rfl z⟩)
  refine ⟨fun z => absurd z n10, fun _ => ?_⟩
  refine verOrNone_ok hW (fun b => ?_) (fun b => ⟨fun _ => h1 fun w => b w.2, fun z => absurd rfl z⟩)
  exact ⟨fun z => absurd z n10, fun _ => body a b⟩
/-! ## what the scripts keep: every version that is named in a table is listed -/
def lsN (I : Nat → Int32) (A : Nat → Nat → Int32) (s : Nat) (w : Int32) : Prop := 1 ≤ w.toInt ∧ w.toInt ≤ (I 1).toInt ∧ ¬ A 2 (9 * s + w.toInt.toNat) = 0
def mV (I : Nat → Int32) (A : Nat → Nat → Int32) : Prop :=
  mB I ∧ mWF A ∧ tb A ∧ (∀ s, 1 ≤ s → s < MM I → A 6 s = 0 ∨ lsN I A s (A 6 s)) ∧
  (∀ m x s, gIn I m x → 1 ≤ s → s < MM I → A 5 (81 * m + 9 * x + s) = 0 ∨ lsN I A s (A 5 (81 * m + 9 * x + s))) ∧
  ∀ m x, gIn I m x → A 4 (9 * m + x) = 0 ∨ lsN I A m (A 4 (9 * m + x))
theorem isL_ls {I : Nat → Int32} {A : Nat → Nat → Int32} {m x : Int32} (h : isL I A m x) : lsN I A m.toInt.toNat x := ⟨h.2.1.1, h.2.1.2, h.2.2⟩
theorem mV_same {I I' : Nat → Int32} {A A' : Nat → Nat → Int32} (i0 : I' 0 = I 0) (i1 : I' 1 = I 1) (h : ∀ r, r < 7 → A' r = A r) (v : mV I A) : mV I' A' := by
  unfold mV mB mWF gWF tb lsN gIn MM VV at *
  rw [i0, i1, h 2 (by decide), h 3 (by decide), h 4 (by decide), h 5 (by decide), h 6 (by decide)]
  exact v
theorem mV_list {I : Nat → Int32} {A : Nat → Nat → Int32} {j : Nat} (v : mV I A) : mV I (pmSet A 2 j 1) := by
  obtain ⟨a, b, c, d, e, f⟩ := v
  have r3 : pmSet A 2 j 1 3 = A 3 := pmSet_r _ _ _ (by decide)
  have r4 : pmSet A 2 j 1 4 = A 4 := pmSet_r _ _ _ (by decide)
  have r5 : pmSet A 2 j 1 5 = A 5 := pmSet_r _ _ _ (by decide)
  have r6 : pmSet A 2 j 1 6 = A 6 := pmSet_r _ _ _ (by decide)
  have ls : ∀ s w, lsN I A s w → lsN I (pmSet A 2 j 1) s w := by
    intro s w hw
    refine ⟨hw.1, hw.2.1, ?_⟩
    by_cases z : 9 * s + w.toInt.toNat = j
    · rw [z, pmSet_eq]; decide
    · rw [pmSet_ne _ _ _ z]; exact hw.2.2
  refine ⟨a, ?_, ?_, ?_, ?_, ?_⟩
  · unfold mWF gWF; rw [r4, r5, r6]; exact b
  · intro k hk
    rw [r3]
    refine ⟨?_, (c k hk).2⟩
    by_cases z : k = j
    · rw [z, pmSet_eq]; exact Or.inr rfl
    · rw [pmSet_ne _ _ _ z]; exact (c k hk).1
  · rw [r6]; exact fun s s1 s2 => (d s s1 s2).imp id (ls _ _)
  · rw [r5]; exact fun m x s g s1 s2 => (e m x s g s1 s2).imp id (ls _ _)
  · rw [r4]; exact fun m x g => (f m x g).imp id (ls _ _)
theorem mV_excl {I : Nat → Int32} {A : Nat → Nat → Int32} {j : Nat} {w : Int32} (hw : w = 0 ∨ w = 1) (v : mV I A) : mV I (pmSet A 3 j w) := by
  obtain ⟨a, b, c, d, e, f⟩ := v
  have r2 : pmSet A 3 j w 2 = A 2 := pmSet_r _ _ _ (by decide)
  have r4 : pmSet A 3 j w 4 = A 4 := pmSet_r _ _ _ (by decide)
  have r5 : pmSet A 3 j w 5 = A 5 := pmSet_r _ _ _ (by decide)
  have r6 : pmSet A 3 j w 6 = A 6 := pmSet_r _ _ _ (by decide)
  refine ⟨a, ?_, ?_, ?_, ?_, ?_⟩
  · unfold mWF gWF; rw [r4, r5, r6]; exact b
  · intro k hk
    rw [r2]
    refine ⟨(c k hk).1, ?_⟩
    by_cases z : k = j
    · rw [z, pmSet_eq]; exact hw
    · rw [pmSet_ne _ _ _ z]; exact (c k hk).2
  · unfold lsN; rw [r2, r6]; exact d
  · unfold lsN; rw [r2, r5]; exact e
  · unfold lsN; rw [r2, r4]; exact f
theorem vN8 {I : Nat → Int32} {A : Nat → Nat → Int32} {s : Nat} {u : Int32} (hB : mB I) (h : u = 0 ∨ lsN I A s u) : 0 ≤ u.toInt ∧ u.toInt ≤ 8 := by
  obtain ⟨_, _, b⟩ := hB
  rcases h with h | h
  · rw [h]; decide
  · have := h.1; have := h.2.1; omega
theorem mV_main {I : Nat → Int32} {A : Nat → Nat → Int32} {j : Nat} {u : Int32} (hu : u = 0 ∨ lsN I A j u) (v : mV I A) : mV I (pmSet A 6 j u) := by
  obtain ⟨a, b, c, d, e, f⟩ := v
  have r2 : pmSet A 6 j u 2 = A 2 := pmSet_r _ _ _ (by decide)
  have r3 : pmSet A 6 j u 3 = A 3 := pmSet_r _ _ _ (by decide)
  have r4 : pmSet A 6 j u 4 = A 4 := pmSet_r _ _ _ (by decide)
  have r5 : pmSet A 6 j u 5 = A 5 := pmSet_r _ _ _ (by decide)
  refine ⟨a, ⟨?_, fun s hs => ?_⟩, ?_, fun s s1 s2 => ?_, ?_, ?_⟩
  · unfold gWF; rw [r4, r5]; exact b.1
  · by_cases z : s = j
    · rw [z, pmSet_eq]; exact vN8 a hu
    · rw [pmSet_ne _ _ _ z]; exact b.2 s hs
  · unfold tb; rw [r2, r3]; exact c
  · unfold lsN; rw [r2]
    by_cases z : s = j
    · rw [z, pmSet_eq]; exact hu
    · rw [pmSet_ne _ _ _ z]; exact d s s1 s2
  · unfold lsN; rw [r2, r5]; exact e
  · unfold lsN; rw [r2, r4]; exact f
theorem mV_req {I : Nat → Int32} {A : Nat → Nat → Int32} {m x s u : Int32} (hs : mR I s) (hu : u = 0 ∨ lsN I A s.toInt.toNat u) (v : mV I A) : mV I (pmSet A 5 (rsl m x s) u) := by
  obtain ⟨a, b, c, d, e, f⟩ := v
  have r2 : pmSet A 5 (rsl m x s) u 2 = A 2 := pmSet_r _ _ _ (by decide)
  have r3 : pmSet A 5 (rsl m x s) u 3 = A 3 := pmSet_r _ _ _ (by decide)
  have r4 : pmSet A 5 (rsl m x s) u 4 = A 4 := pmSet_r _ _ _ (by decide)
  have r6 : pmSet A 5 (rsl m x s) u 6 = A 6 := pmSet_r _ _ _ (by decide)
  refine ⟨a, ⟨⟨?_, fun k hk => ?_⟩, ?_⟩, ?_, ?_, fun m' x' s' g s1 s2 => ?_, ?_⟩
  · rw [r4]; exact b.1.1
  · by_cases z : k = rsl m x s
    · rw [z, pmSet_eq]; exact vN8 a hu
    · rw [pmSet_ne _ _ _ z]; exact b.1.2 k hk
  · rw [r6]; exact b.2
  · unfold tb; rw [r2, r3]; exact c
  · unfold lsN; rw [r2, r6]; exact d
  · unfold lsN; rw [r2]
    by_cases z : 81 * m' + 9 * x' + s' = rsl m x s
    · rw [z, pmSet_eq]
      have e' : s' = s.toInt.toNat := by
        obtain ⟨h1, h2⟩ := hs
        obtain ⟨hMi, hM8, _⟩ := MM_i a
        unfold rsl at z
        omega
      rw [e']; exact hu
    · rw [pmSet_ne _ _ _ z]; exact e m' x' s' g s1 s2
  · unfold lsN; rw [r2, r4]; exact f
theorem mV_repl {I : Nat → Int32} {A : Nat → Nat → Int32} {m x u : Int32} (hx : vR I x) (hu : u = 0 ∨ lsN I A m.toInt.toNat u) (v : mV I A) : mV I (pmSet A 4 (sl m x) u) := by
  obtain ⟨a, b, c, d, e, f⟩ := v
  have r2 : pmSet A 4 (sl m x) u 2 = A 2 := pmSet_r _ _ _ (by decide)
  have r3 : pmSet A 4 (sl m x) u 3 = A 3 := pmSet_r _ _ _ (by decide)
  have r5 : pmSet A 4 (sl m x) u 5 = A 5 := pmSet_r _ _ _ (by decide)
  have r6 : pmSet A 4 (sl m x) u 6 = A 6 := pmSet_r _ _ _ (by decide)
  refine ⟨a, ⟨⟨fun k hk => ?_, ?_⟩, ?_⟩, ?_, ?_, ?_, fun m' x' g => ?_⟩
  · by_cases z : k = sl m x
    · rw [z, pmSet_eq]; exact vN8 a hu
    · rw [pmSet_ne _ _ _ z]; exact b.1.1 k hk
  · rw [r5]; exact b.1.2
  · rw [r6]; exact b.2
  · unfold tb; rw [r2, r3]; exact c
  · unfold lsN; rw [r2, r6]; exact d
  · unfold lsN; rw [r2, r5]; exact e
  · unfold lsN; rw [r2]
    by_cases z : 9 * m' + x' = sl m x
    · rw [z, pmSet_eq]
      have e' : m' = m.toInt.toNat := by
        obtain ⟨h1, h2⟩ := hx
        obtain ⟨_, _, b8⟩ := id a
        have := (gIn_bd a g).2.1
        unfold sl at z
        have := g.2.2.1
        omega
      rw [e']; exact hu
    · rw [pmSet_ne _ _ _ z]; exact f m' x' g
/-- new mains, all listed -/
theorem mV_six {I I' : Nat → Int32} {A A' : Nat → Nat → Int32} (i0 : I' 0 = I 0) (i1 : I' 1 = I 1) (h : ∀ r, r < 6 → A' r = A r) (h6 : ∀ s, 1 ≤ s → s < MM I → A' 6 s = 0 ∨ lsN I A s (A' 6 s)) (ho : ∀ s, ¬ (1 ≤ s ∧ s < MM I) → A' 6 s = A 6 s) (v : mV I A) : mV I' A' := by
  obtain ⟨a, b, c, d, e, f⟩ := v
  have w6 : ∀ s, s < 9 → 0 ≤ (A' 6 s).toInt ∧ (A' 6 s).toInt ≤ 8 := by
    intro s hs
    by_cases z : 1 ≤ s ∧ s < MM I
    · exact vN8 a (h6 s z.1 z.2)
    · rw [ho s z]; exact b.2 s hs
  unfold mV mB mWF gWF tb lsN gIn MM VV at *
  rw [i0, i1, h 2 (by decide), h 3 (by decide), h 4 (by decide), h 5 (by decide)]
  exact ⟨a, ⟨b.1, w6⟩, c, h6, e, f⟩
/-- the chosen versions are listed, not excluded, and enough -/
theorem gSel_ls {I : Nat → Int32} {A : Nat → Nat → Int32} {rt sel : Nat → Nat} (v : mV I A) (hr : ∀ s, 1 ≤ s → s < MM I → rt s ≠ 0 → ¬ A 2 (9 * s + rt s) = 0) (h : gSel I A rt sel) :
    ∀ s, 1 ≤ s → s < MM I → sel s ≤ VV I ∧ (sel s ≠ 0 → ¬ A 2 (9 * s + sel s) = 0 ∧ A 3 (9 * s + sel s) = 0) := by
  obtain ⟨N, n1, n2, n3, n4⟩ := h
  have hE := gSel_E n1 n2
  have hL : ∀ m x, N m x → ¬ A 2 (9 * m + x) = 0 := by
    intro m x hN
    refine (n2 (fun m x => N m x ∧ ¬ A 2 (9 * m + x) = 0) ⟨fun s s1 s2 hr' => ?_, fun m x hi hp s s1 s2 hne hr' => ?_⟩ m x hN).2
    · obtain ⟨a, b⟩ := n1.1 s s1 s2 hr'
      refine ⟨a, b, ?_⟩
      rcases (fAdj_spec a).2.2.2.2 with z | z
      · show ¬ A 2 (9 * s + gAdj I A s (rt s)) = 0
        rw [show gAdj I A s (rt s) = rt s from z]; exact hr s s1 s2 hr'
      · exact z
    · obtain ⟨a, b⟩ := n1.2 m x hi hp.1 s s1 s2 hne hr'
      refine ⟨a, b, ?_⟩
      rcases (fAdj_spec a).2.2.2.2 with z | z
      · show ¬ A 2 (9 * s + gAdj I A s (gReq A m x s)) = 0
        rw [show gAdj I A s (gReq A m x s) = gReq A m x s from z]
        obtain ⟨va, vb, vc, vd, ve, vf⟩ := v
        have src : gIn I m (gSrc A m x) := by
          unfold gSrc
          by_cases z4 : A 4 (9 * m + x) = 0
          · rw [if_pos z4]; exact hi
          · rw [if_neg z4]
            rcases vf m x hi with y | y
            · exact absurd y z4
            · have := y.1; have := y.2.1
              exact ⟨hi.1, hi.2.1, by omega, by show _ ≤ (I 1).toInt.toNat; omega⟩
        rcases ve m _ s src s1 s2 with y | y
        · exfalso; apply hr'; unfold gReq; rw [y]; rfl
        · exact y.2.2
      · exact z
  intro s s1 s2
  refine ⟨(n4 s s1 s2).1, fun hs => ?_⟩
  have := (n4 s s1 s2).2.1 hs
  exact ⟨hL _ _ this, hE _ _ this⟩
theorem gSel_ge {I : Nat → Int32} {A : Nat → Nat → Int32} {rt sel : Nat → Nat} (h : gSel I A rt sel) {s : Nat} (s1 : 1 ≤ s) (s2 : s < MM I) : rt s ≤ sel s := by
  obtain ⟨N, n1, n2, n3, n4⟩ := h
  by_cases z : rt s = 0
  · omega
  · obtain ⟨a, b⟩ := n1.1 s s1 s2 z
    have := (fAdj_spec a).2.1
    have := (n4 s s1 s2).2.2 _ b
    unfold gAdj at this
    omega
theorem gSel_req {I : Nat → Int32} {A : Nat → Nat → Int32} {rt sel : Nat → Nat} (h : gSel I A rt sel) {q t : Nat} (q1 : 1 ≤ q) (q2 : q < MM I) (t1 : 1 ≤ t) (t2 : t < MM I) (hne : t ≠ q) (hs : sel q ≠ 0) : gReq A q (sel q) t ≤ sel t := by
  obtain ⟨N, n1, n2, n3, n4⟩ := h
  by_cases z : gReq A q (sel q) t = 0
  · omega
  · have nq := (n4 q q1 q2).2.1 hs
    obtain ⟨a, b⟩ := n1.2 q _ (n3 _ _ nq) nq t t1 t2 hne z
    have := (fAdj_spec a).2.1
    have := (n4 t t1 t2).2.2 _ b
    unfold gAdj at this
    omega
theorem gSel_zero {I : Nat → Int32} {A : Nat → Nat → Int32} {rt sel : Nat → Nat} (h : gSel I A rt sel) (hz : ∀ s, 1 ≤ s → s < MM I → rt s = 0) : ∀ s, 1 ≤ s → s < MM I → sel s = 0 := by
  obtain ⟨N, n1, n2, n3, n4⟩ := h
  intro s s1 s2
  refine Classical.byContradiction fun w => ?_
  exact n2 (fun _ _ => False) ⟨fun s s1 s2 hr => absurd (hz s s1 s2) hr, fun _ _ _ hp => hp.elim⟩ _ _ ((n4 s s1 s2).2.1 w)
theorem mV_rt {I : Nat → Int32} {A : Nat → Nat → Int32} (v : mV I A) : ∀ s, 1 ≤ s → s < MM I → rtA A 6 s ≠ 0 → ¬ A 2 (9 * s + rtA A 6 s) = 0 := by
  intro s s1 s2 hr
  rcases v.2.2.2.1 s s1 s2 with y | y
  · exfalso; apply hr; unfold rtA; rw [y]; rfl
  · exact y.2.2
theorem pS_q {I I' : Nat → Int32} {A A' : Nat → Nat → Int32} (p : pSame I A I' A') : qSame I A I' A' := ⟨p.1, p.2.1, fun r hr => p.2.2 r (by omega) (by omega) (by omega) (by omega) (by omega)⟩
theorem qSame.trans {I I' I'' : Nat → Int32} {A A' A'' : Nat → Nat → Int32} (h : qSame I A I' A') (h' : qSame I' A' I'' A'') : qSame I A I'' A'' := ⟨h'.1.trans h.1, h'.2.1.trans h.2.1, fun r hr => (h'.2.2 r hr).trans (h.2.2 r hr)⟩
theorem qSame.refl (I : Nat → Int32) (A : Nat → Nat → Int32) : qSame I A I A := ⟨rfl, rfl, fun _ _ => rfl⟩
theorem q_mV {I I' : Nat → Int32} {A A' : Nat → Nat → Int32} (q : qSame I A I' A') (v : mV I A) : mV I' A' := mV_same q.1 q.2.1 q.2.2 v
theorem q_MM {I I' : Nat → Int32} {A A' : Nat → Nat → Int32} (q : qSame I A I' A') : MM I' = MM I := by simp only [MM, q.1]
theorem q_VV {I I' : Nat → Int32} {A A' : Nat → Nat → Int32} (q : qSame I A I' A') : VV I' = VV I := by simp only [VV, q.2.1]
theorem q_rt {I I' : Nat → Int32} {A A' : Nat → Nat → Int32} (q : qSame I A I' A') : rtA A' 6 = rtA A 6 := by unfold rtA; rw [q.2.2 6 (by decide)]
theorem q_sel {I I' : Nat → Int32} {A A' : Nat → Nat → Int32} {rt sel : Nat → Nat} (q : qSame I A I' A') (g : gSel I' A' rt sel) : gSel I A rt sel :=
  gSel_congr q.1.symm q.2.1.symm (q.2.2 2 (by decide)).symm (q.2.2 3 (by decide)).symm (q.2.2 4 (by decide)).symm (q.2.2 5 (by decide)).symm (fun _ _ _ => rfl) g
theorem q_sel6 {I I' : Nat → Int32} {A A' : Nat → Nat → Int32} {sel : Nat → Nat} (q : qSame I A I' A') (g : gSel I' A' (rtA A' 6) sel) : gSel I A (rtA A 6) sel := by
  have := q_sel q g; rwa [q_rt q] at this
theorem q_no {I I' : Nat → Int32} {A A' : Nat → Nat → Int32} (q : qSame I A I' A') (g : ∀ P, gCL I' A' (rtA A' 6) P → False) : ∀ P, gCL I A (rtA A 6) P → False := by
  intro P hP
  refine g P (gCL_congr q.1 q.2.1 (q.2.2 2 (by decide)) (q.2.2 3 (by decide)) (q.2.2 4 (by decide)) (q.2.2 5 (by decide)) (fun _ _ _ => ?_) hP)
  rw [q_rt q]
theorem sel_no {I : Nat → Int32} {A : Nat → Nat → Int32} {rt sel : Nat → Nat} (g : gSel I A rt sel) (h : ∀ P, gCL I A rt P → False) : False := by
  obtain ⟨N, n1, _⟩ := g
  exact h N n1
/-! the readers, at a state whose tables are A's -/
theorem st_status (hW : Clo W) (hF : Fgt W) {n : Nat} {I I1 : Nat → Int32} {A A1 : Nat → Nat → Int32} {sel : Nat → Nat} {Q : Pst} (v : mV I A) (q : qSame I A I1 A1) (g : gSel I A (rtA A 6) sel) (h : ∀ I' A', qSame I A I' A' → Q (some (.int 0)) (mst n I' A')) :
    W k_buildStatus 0 [.val (.ref 1)] [] (mst n I1 A1) Q := by
  have v1 := q_mV q v
  refine buildStatus_ok hW hF v1.1 v1.2.1 (fun I' A' _ p _ => h I' A' (q.trans (pS_q p))) (fun I' A' p hn => ?_)
  exact (sel_no g (q_no q hn)).elim
theorem no_status (hW : Clo W) (hF : Fgt W) {n : Nat} {I I1 : Nat → Int32} {A A1 : Nat → Nat → Int32} {Q : Pst} (v : mV I A) (q : qSame I A I1 A1) (g : ∀ P, gCL I A (rtA A 6) P → False) (h : ∀ I' A', qSame I A I' A' → Q (some (.int (-4))) (mst n I' A')) :
    W k_buildStatus 0 [.val (.ref 1)] [] (mst n I1 A1) Q := by
  have v1 := q_mV q v
  refine buildStatus_ok hW hF v1.1 v1.2.1 (fun I' A' sel p hs => ?_) (fun I' A' p hn => h I' A' (q.trans (pS_q p)))
  exact (sel_no (q_sel6 q hs) g).elim
theorem st_selected (hW : Clo W) (hF : Fgt W) {n : Nat} {I I1 : Nat → Int32} {A A1 : Nat → Nat → Int32} {sel : Nat → Nat} {s : Int32} {Q : Pst} (v : mV I A) (q : qSame I A I1 A1) (g : gSel I A (rtA A 6) sel) (hs : mR I s) (h : ∀ I' A', qSame I A I' A' → Q (some (.int (i32 (sel s.toInt.toNat)))) (mst n I' A')) :
    W k_selected 0 [.val (.ref 1), .val (.int s)] [] (mst n I1 A1) Q := by
  have v1 := q_mV q v
  refine selected_ok hW hF v1.1 v1.2.1 (fun w => absurd (by unfold mR; rw [q.1]; exact hs) w) (fun _ I' A' sel' p g' => ?_) (fun _ I' A' p hn => (sel_no g (q_no q hn)).elim)
  have := gSel_uniq (q_sel6 q g') g s.toInt.toNat (by have := hs.1; omega) (by have := hs.1; have := hs.2; simp only [MM]; omega)
  rw [this]
  exact h I' A' (q.trans (pS_q p))
theorem st_size (hW : Clo W) (hF : Fgt W) {n : Nat} {I I1 : Nat → Int32} {A A1 : Nat → Nat → Int32} {sel : Nat → Nat} {Q : Pst} (v : mV I A) (q : qSame I A I1 A1) (g : gSel I A (rtA A 6) sel) (h : ∀ I' A', qSame I A I' A' → Q (some (.int (i32 (szF sel (MM I))))) (mst n I' A')) :
    W k_buildSize 0 [.val (.ref 1)] [] (mst n I1 A1) Q := by
  have v1 := q_mV q v
  refine buildSize_ok hW hF v1.1 v1.2.1 (fun I' A' sel' p g' => ?_) (fun I' A' p hn => (sel_no g (q_no q hn)).elim)
  have e : szF sel' (MM I1) = szF sel (MM I) := by
    rw [q_MM q]
    refine cntF_congr fun s hs => ?_
    rw [gSel_uniq (q_sel6 q g') g (s + 1) (by omega) (by omega)]
  rw [e]
  exact h I' A' (q.trans (pS_q p))
theorem st_main (hW : Clo W) {n : Nat} {I I1 : Nat → Int32} {A A1 : Nat → Nat → Int32} {s : Int32} {Q : Pst} (v : mV I A) (q : qSame I A I1 A1) (hs : mR I s) (h : Q (some (.int (A 6 s.toInt.toNat))) (mst n I1 A1)) :
    W k_mainRequirement 0 [.val (.ref 1), .val (.int s)] [] (mst n I1 A1) Q := by
  have v1 := q_mV q v
  refine mainRequirement_ok hW v1.1 (fun w => absurd (by unfold mR; rw [q.1]; exact hs) w) (fun _ => ?_)
  rw [q.2.2 6 (by decide)]; exact h
theorem no_prune (hW : Clo W) (hF : Fgt W) {n : Nat} {I I1 : Nat → Int32} {A A1 : Nat → Nat → Int32} {Q : Pst} (v : mV I A) (q : qSame I A I1 A1) (g : ∀ P, gCL I A (rtA A 6) P → False) (h : ∀ I' A', qSame I A I' A' → Q (some (.int (-4))) (mst n I' A')) :
    W k_prune 0 [.val (.ref 1), .unset] [] (mst n I1 A1) Q := by
  have v1 := q_mV q v
  refine prune_ok hW hF v1.1 v1.2.1 (fun I' A' p hn => h I' A' (q.trans (pS_q p))) (fun I' A' sel K _ _ _ g' _ _ _ => ?_)
  exact (sel_no (q_sel6 q g') g).elim
theorem pk_congr {I I' : Nat → Int32} {T T' : Nat → Nat → Int32} {sel sel' : Nat → Nat} {j : Nat} {K : Nat → Bool} (i0 : I' 0 = I 0) (i1 : I' 1 = I 1) (h2 : ∀ r, r < 6 → T' r = T r) (es : ∀ s, 1 ≤ s → s < MM I → sel' s = sel s) (h : pk I T sel j K) : pk I' T' sel' j K := by
  obtain ⟨S, a, b, c⟩ := h
  have M' : MM I' = MM I := by simp only [MM, i0]
  unfold pk
  rw [M']
  refine ⟨S, fun q q1 q2 => by rw [es q q1 q2]; exact a q q1 q2, fun s s1 s2 q q1 q2 => ?_, c⟩
  rw [b s s1 s2 q q1 q2]
  have er : ∀ q, 1 ≤ q → q < MM I → rkm sel' (S s) s q = rkm sel (S s) s q := fun q q1 q2 => by unfold rkm; rw [es q q1 q2]
  have : gSel I T (rkm sel (S s) s) sel ↔ gSel I' T' (rkm sel' (S s) s) sel' := by
    refine ⟨fun g => ?_, fun g => ?_⟩
    · exact gSel_sel (gSel_congr i0 i1 (h2 2 (by decide)) (h2 3 (by decide)) (h2 4 (by decide)) (h2 5 (by decide)) er g) (by rw [M']; exact es)
    · exact gSel_sel (gSel_congr i0.symm i1.symm (h2 2 (by decide)).symm (h2 3 (by decide)).symm (h2 4 (by decide)).symm (h2 5 (by decide)).symm (by rw [M']; exact fun q q1 q2 => (er q q1 q2).symm) g) (fun s s1 s2 => (es s s1 s2).symm)
  rw [this]
theorem pk_sub {I : Nat → Int32} {T : Nat → Nat → Int32} {sel : Nat → Nat} {j : Nat} {K : Nat → Bool} (hj : 1 ≤ j) (h : pk I T sel j K) : ∀ q, 1 ≤ q → q < MM I → K q = true → sel q ≠ 0 := by
  obtain ⟨S, a, b, c⟩ := h
  have key : ∀ i, i + 1 ≤ j → ∀ q, 1 ≤ q → q < MM I → S (i + 1) q = true → sel q ≠ 0 := by
    intro i
    induction i with
    | zero => intro _ q q1 q2 h; exact (a q q1 q2).1 h
    | succ i ih => intro hi q q1 q2 h; exact ih (by omega) q q1 q2 ((b (i + 1) (by omega) (by omega) q q1 q2).1 h).1
  intro q q1 q2 h
  rw [c q q1 q2] at h
  have := key (j - 1) (by omega) q q1 q2
  rw [show j - 1 + 1 = j by omega] at this
  exact this h
/-- the mains after a prune -/
def pm6 (I : Nat → Int32) (A : Nat → Nat → Int32) (sel : Nat → Nat) (K : Nat → Bool) (A' : Nat → Nat → Int32) : Prop := (∀ r, r < 6 → A' r = A r) ∧ ∀ s, A' 6 s = if (1 ≤ s ∧ s < MM I) then (if K s = true then i32 (sel s) else 0) else A 6 s
theorem st_prune (hW : Clo W) (hF : Fgt W) {n : Nat} {I I1 : Nat → Int32} {A A1 : Nat → Nat → Int32} {sel : Nat → Nat} {Q : Pst} (v : mV I A) (q : qSame I A I1 A1) (g : gSel I A (rtA A 6) sel)
    (h : ∀ I' A' K, I' 0 = I 0 → I' 1 = I 1 → pm6 I A sel K A' → pk I A sel (MM I) K → mV I' A' → gSel I' A' (rtA A' 6) sel → Q (some (.int (i32 (cntF (fun s => K (s + 1)) (MM I - 1))))) (mst n I' A')) :
    W k_prune 0 [.val (.ref 1), .unset] [] (mst n I1 A1) Q := by
  have v1 := q_mV q v
  obtain ⟨hMi, hM8, hM2⟩ := MM_i v.1
  have hs := gSel_ls v (mV_rt v) g
  have vv8 : VV I ≤ 8 := by obtain ⟨_, _, b⟩ := v.1; simp only [VV]; omega
  refine prune_ok hW hF v1.1 v1.2.1 (fun I' A' p hn => (sel_no g (q_no q hn)).elim) (fun I' A' sel' K i0 i1 r6 g' pk' gk h6 => ?_)
  have es : ∀ s, 1 ≤ s → s < MM I → sel s = sel' s := fun s s1 s2 => (gSel_uniq (q_sel6 q g') g s s1 s2).symm
  rw [q_MM q] at pk' h6 ⊢
  have i0' := i0.trans q.1
  have i1' := i1.trans q.2.1
  have r6' : ∀ r, r < 6 → A' r = A r := fun r hr => (r6 r hr).trans (q.2.2 r (by omega))
  have h6' : ∀ s, A' 6 s = if (1 ≤ s ∧ s < MM I) then (if K s = true then i32 (sel s) else 0) else A 6 s := by
    intro s
    rw [h6 s, q.2.2 6 (by decide)]
    by_cases w : 1 ≤ s ∧ s < MM I
    · rw [if_pos w, if_pos w, es s w.1 w.2]
    · rw [if_neg w, if_neg w]
  have pkA : pk I A sel (MM I) K := pk_congr q.1.symm q.2.1.symm (fun r hr => (q.2.2 r (by omega)).symm) (by rw [q_MM q]; exact es) pk'
  have ks := pk_sub (by omega) pkA
  have hi : ∀ s, 1 ≤ s → s < MM I → (i32 (sel s)).toInt = (sel s : Int) := fun s s1 s2 => by
    have := (hs s s1 s2).1
    exact i32_toInt (by omega)
  have v' : mV I' A' := by
    refine mV_six i0' i1' r6' (fun s s1 s2 => ?_) (fun s w => by rw [h6' s, if_neg w]) v
    rw [h6' s, if_pos ⟨s1, s2⟩]
    cases kk : K s with
    | false => exact Or.inl rfl
    | true =>
      have z := ks s s1 s2 kk
      have e := hi s s1 s2
      have a := (hs s s1 s2).1
      right
      refine ⟨by rw [if_pos rfl, e]; omega, by rw [if_pos rfl, e]; simp only [VV] at a; omega, ?_⟩
      rw [if_pos rfl, e]
      exact ((hs s s1 s2).2 z).1
  refine h I' A' K i0' i1' ⟨r6', h6'⟩ pkA v' ?_
  have rr : ∀ s, 1 ≤ s → s < MM I → rtA A' 6 s = rk sel K s := by
    intro s s1 s2
    show (A' 6 s).toInt.toNat = _
    rw [h6' s, if_pos ⟨s1, s2⟩]
    unfold rk
    have e := hi s s1 s2
    cases K s with
    | false => rfl
    | true => rw [if_pos rfl, if_pos rfl, e]; omega
  have M1 := q_MM q
  have gk' : gSel I A (rk sel K) sel := by
    refine gSel_sel (q_sel q (gSel_congr rfl rfl rfl rfl rfl rfl (fun s s1 s2 => ?_) gk)) es
    unfold rk; rw [es s s1 (by omega)]
  exact gSel_congr i0' i1' (r6' 2 (by decide)) (r6' 3 (by decide)) (r6' 4 (by decide)) (r6' 5 (by decide)) rr gk'
theorem mV_init {a b : Int32} {A : Nat → Nat → Int32} (h : ∀ r, 2 ≤ r → ∀ j, A r j = 0) : mV (mI a b) A := by
  refine ⟨⟨clM_rng a, clV_rng b⟩, ⟨⟨fun j _ => ?_, fun j _ => ?_⟩, fun j _ => ?_⟩, fun j _ => ⟨Or.inl (h 2 (by decide) j), Or.inl (h 3 (by decide) j)⟩, fun s _ _ => Or.inl (h 6 (by decide) s), fun m x s _ _ _ => Or.inl (h 5 (by decide) _), fun m x _ => Or.inl (h 4 (by decide) _)⟩
  · rw [h 4 (by decide) j]; decide
  · rw [h 5 (by decide) j]; decide
  · rw [h 6 (by decide) j]; decide
/-! the writers keep it -/
theorem kp_list (hW : Clo W) {n : Nat} {I : Nat → Int32} {A : Nat → Nat → Int32} {m x : Int32} {Q : Pst} (v : mV I A) (h : ∀ r I' A', mV I' A' → I' 0 = I 0 → I' 1 = I 1 → Q (some (.int r)) (mst n I' A')) :
    W k_listVersion 0 [.val (.ref 1), .val (.int m), .val (.int x), .unset] [] (mst n I A) Q :=
  listVersion_ok hW v.1 (fun _ => h _ _ _ v rfl rfl) (fun _ _ _ => h _ _ _ v rfl rfl) (fun _ _ _ => h _ _ _ (mV_list v) rfl rfl)
theorem or_ls {I : Nat → Int32} {A : Nat → Nat → Int32} {s u : Int32} (h : u = 0 ∨ isL I A s u) : u = 0 ∨ lsN I A s.toInt.toNat u := h.imp id isL_ls
theorem kp_require (hW : Clo W) {n : Nat} {I : Nat → Int32} {A : Nat → Nat → Int32} {m x s u : Int32} {Q : Pst} (v : mV I A) (h : ∀ r I' A', mV I' A' → I' 0 = I 0 → I' 1 = I 1 → Q (some (.int r)) (mst n I' A')) :
    W k_require 0 [.val (.ref 1), .val (.int m), .val (.int x), .val (.int s), .val (.int u)] [] (mst n I A) Q :=
  require_ok hW v.1 v.2.2.1 (fun _ => h _ _ _ v rfl rfl) (fun _ _ => h _ _ _ v rfl rfl) (fun a _ c => h _ _ _ (mV_req a.2.2.1 (or_ls c) v) rfl rfl)
theorem kp_requireMain (hW : Clo W) {n : Nat} {I : Nat → Int32} {A : Nat → Nat → Int32} {s u : Int32} {Q : Pst} (v : mV I A) (h : ∀ r I' A', mV I' A' → I' 0 = I 0 → I' 1 = I 1 → Q (some (.int r)) (mst n I' A')) :
    W k_requireMain 0 [.val (.ref 1), .val (.int s), .val (.int u)] [] (mst n I A) Q :=
  requireMain_ok hW v.1 v.2.2.1 (fun _ => h _ _ _ v rfl rfl) (fun _ _ _ => h _ _ _ v rfl rfl) (fun _ _ c => h _ _ _ (mV_main (or_ls c) v) rfl rfl)
theorem kp_exclude (hW : Clo W) {n : Nat} {I : Nat → Int32} {A : Nat → Nat → Int32} {m x o : Int32} {Q : Pst} (v : mV I A) (h : ∀ r I' A', mV I' A' → I' 0 = I 0 → I' 1 = I 1 → Q (some (.int r)) (mst n I' A')) :
    W k_exclude 0 [.val (.ref 1), .val (.int m), .val (.int x), .val (.int o), .unset] [] (mst n I A) Q :=
  exclude_ok hW v.1 (fun _ => h _ _ _ v rfl rfl) (fun _ _ _ => h _ _ _ v rfl rfl) (fun _ _ _ => h _ _ _ (mV_excl (by split; exact Or.inl rfl; exact Or.inr rfl) v) rfl rfl)
theorem repl_or {I : Nat → Int32} {A : Nat → Nat → Int32} {m x w : Int32} (h : w = 0 ∨ isL I A m w) : (if w = x then 0 else w) = 0 ∨ lsN I A m.toInt.toNat (if w = x then 0 else w) := by
  by_cases z : w = x
  · rw [if_pos z]; exact Or.inl rfl
  · rw [if_neg z]; exact or_ls h
theorem kp_replace (hW : Clo W) {n : Nat} {I : Nat → Int32} {A : Nat → Nat → Int32} {m x w : Int32} {Q : Pst} (v : mV I A) (h : ∀ r I' A', mV I' A' → I' 0 = I 0 → I' 1 = I 1 → Q (some (.int r)) (mst n I' A')) :
    W k_replace 0 [.val (.ref 1), .val (.int m), .val (.int x), .val (.int w), .unset] [] (mst n I A) Q :=
  replace_ok hW v.1 v.2.2.1 (fun _ => h _ _ _ v rfl rfl) (fun _ _ _ _ => h _ _ _ v rfl rfl) (fun _ b _ _ e => h _ _ _ (mV_repl b (repl_or e) v) rfl rfl)
theorem up_mV {I I' : Nat → Int32} {A A' : Nat → Nat → Int32} {s x : Int32} (v : mV I A) (l : isL I A s x) (p : pSame I (pmSet A 6 s.toInt.toNat x) I' A') : mV I' A' := q_mV (pS_q p) (mV_main (Or.inr (isL_ls l)) v)
theorem kp_upgrade (hW : Clo W) (hF : Fgt W) {n : Nat} {I : Nat → Int32} {A : Nat → Nat → Int32} {s x : Int32} {Q : Pst} (v : mV I A) (h : ∀ r I' A', mV I' A' → I' 0 = I 0 → I' 1 = I 1 → Q (some (.int r)) (mst n I' A')) :
    W k_upgrade 0 [.val (.ref 1), .val (.int s), .val (.int x), .unset] [] (mst n I A) Q :=
  upgrade_ok hW hF v.1 v.2.1 v.2.2.1 (fun _ => h _ _ _ v rfl rfl) (fun _ _ _ => h _ _ _ v rfl rfl) (fun _ _ => h _ _ _ v rfl rfl)
    (fun _ _ I' A' p _ => h _ _ _ (q_mV (pS_q p) v) p.1 p.2.1) (fun _ _ I' A' _ p _ => h _ _ _ (q_mV (pS_q p) v) p.1 p.2.1) (fun _ _ I' A' _ p _ => h _ _ _ (q_mV (pS_q p) v) p.1 p.2.1)
    (fun l _ I' A' _ _ p _ _ => h _ _ _ (up_mV v l p) p.1 p.2.1)
theorem dn_ls {I : Nat → Int32} {A : Nat → Nat → Int32} {t v w : Int32} {s : Nat} (hs : s < 9) (d : dOK I A t v s w) : w = 0 ∨ lsN I A s w := by
  by_cases z : w = 0
  · exact Or.inl z
  · have := isL_ls (d.2.2.2.2 z).1
    rw [i32_toInt (by omega)] at this
    exact Or.inr this
theorem dn_mV {I I' : Nat → Int32} {A A' : Nat → Nat → Int32} {t x : Int32} (v : mV I A) (i0 : I' 0 = I 0) (i1 : I' 1 = I 1) (h : ∀ r, r < 6 → A' r = A r) (d : ∀ s, 1 ≤ s → s < MM I → dOK I A t x s (A' 6 s)) (ho : ∀ s, ¬ (1 ≤ s ∧ s < MM I) → A' 6 s = A 6 s) : mV I' A' := by
  obtain ⟨_, hM8, _⟩ := MM_i v.1
  exact mV_six i0 i1 h (fun s s1 s2 => dn_ls (by omega) (d s s1 s2)) ho v
theorem kp_downgrade (hW : Clo W) (hF : Fgt W) {n : Nat} {I : Nat → Int32} {A : Nat → Nat → Int32} {t x : Int32} {Q : Pst} (v : mV I A) (h : ∀ r I' A', mV I' A' → I' 0 = I 0 → I' 1 = I 1 → Q (some (.int r)) (mst n I' A')) :
    W k_downgrade 0 [.val (.ref 1), .val (.int t), .val (.int x)] [] (mst n I A) Q :=
  downgrade_ok hW hF v.1 v.2.1 v.2.2.1 (fun _ => h _ _ _ v rfl rfl)
    (fun _ _ I' A' p _ => h _ _ _ (q_mV (pS_q p) v) p.1 p.2.1) (fun _ _ I' A' _ p _ => h _ _ _ (q_mV (pS_q p) v) p.1 p.2.1)
    (fun _ _ I' A' _ _ i0 i1 r6 _ d o _ _ => h _ _ _ (dn_mV v i0 i1 r6 d o) i0 i1)
theorem cntF_mono {p q : Nat → Bool} {c : Nat} (h : ∀ i, i < c → p i = true → q i = true) : cntF p c ≤ cntF q c := by
  induction c with
  | zero => exact Nat.le_refl _
  | succ c ih =>
    have := ih fun i hi => h i (by omega)
    simp only [cntF]
    by_cases w : p c = true
    · rw [if_pos w, if_pos (h c (by omega) w)]; omega
    · rw [if_neg w]; split <;> omega
theorem cntF_zero {p : Nat → Bool} {c : Nat} : cntF p c = 0 ↔ ∀ i, i < c → p i = false := by
  induction c with
  | zero => exact ⟨fun _ i hi => absurd hi (Nat.not_lt_zero _), fun _ => rfl⟩
  | succ c ih =>
    simp only [cntF]
    refine ⟨fun h i hi => ?_, fun h => ?_⟩
    · by_cases e : i = c
      · subst e
        cases w : p i with
        | false => rfl
        | true => rw [if_pos w] at h; omega
      · exact ih.1 (by omega) i (by omega)
    · rw [ih.2 fun i hi => h i (by omega), h c (by omega)]; rfl
theorem no_size (hW : Clo W) (hF : Fgt W) {n : Nat} {I I1 : Nat → Int32} {A A1 : Nat → Nat → Int32} {Q : Pst} (v : mV I A) (q : qSame I A I1 A1) (g : ∀ P, gCL I A (rtA A 6) P → False) (h : ∀ I' A', qSame I A I' A' → Q (some (.int (-4))) (mst n I' A')) :
    W k_buildSize 0 [.val (.ref 1)] [] (mst n I1 A1) Q := by
  have v1 := q_mV q v
  refine buildSize_ok hW hF v1.1 v1.2.1 (fun I' A' sel p hs => ?_) (fun I' A' p hn => h I' A' (q.trans (pS_q p)))
  exact (sel_no (q_sel6 q hs) g).elim
/-! ## g-0239x2-1: the check behind each step -/
def y2L (M V mk i : Int32) (s6 s7 s8 s9 s10 s11 s12 s13 s14 s15 s16 s17 s18 s19 s20 s21 s22 : Slot) : List Slot := [.val (.ref 0), .val (.int M), .val (.int V), .val (.ref 1), .val (.int mk), .val (.int i), s6, s7, s8, s9, s10, s11, s12, s13, s14, s15, s16, s17, s18, s19, s20, s21, s22]
def y2P (M V mk i : Int32) (s14 s15 s16 s17 s18 s19 s20 s21 s22 : Slot) : List Slot := [.val (.ref 0), .val (.int M), .val (.int V), .val (.ref 1), .val (.int mk), .val (.int i), .unset, .unset, .unset, .unset, .unset, .unset, .unset, .unset, s14, s15, s16, s17, s18, s19, s20, s21, s22]
def y2U (M V mk i : Int32) : List Slot := [.val (.ref 0), .val (.int M), .val (.int V), .val (.ref 1), .val (.int mk), .val (.int i), .unset, .unset, .unset, .unset, .unset, .unset, .unset, .unset, .unset, .unset, .unset, .unset, .unset, .unset, .unset, .unset, .unset]
theorem y2fgt (hF : Fgt W) {pc : Nat} {σ : Mem} {Q : Pst} {M V mk i : Int32} {s6 s7 s8 s9 s10 s11 s12 s13 s14 s15 s16 s17 s18 s19 s20 s21 s22 : Slot} (k : W 0 pc (y2U M V mk i) [] σ Q) : W 0 pc (y2L M V mk i s6 s7 s8 s9 s10 s11 s12 s13 s14 s15 s16 s17 s18 s19 s20 s21 s22) [] σ Q :=
  hF _ _ _ (y2U M V mk i) _ _ _ ⟨Or.inr rfl, Or.inr rfl, Or.inr rfl, Or.inr rfl, Or.inr rfl, Or.inr rfl, Or.inl rfl, Or.inl rfl, Or.inl rfl, Or.inl rfl, Or.inl rfl, Or.inl rfl, Or.inl rfl, Or.inl rfl, Or.inl rfl, Or.inl rfl, Or.inl rfl, Or.inl rfl, Or.inl rfl, Or.inl rfl, Or.inl rfl, Or.inl rfl, Or.inl rfl, trivial⟩ k
theorem y2fgtP (hF : Fgt W) {pc : Nat} {σ : Mem} {Q : Pst} {M V mk i : Int32} {s14 s15 s16 s17 s18 s19 s20 s21 s22 : Slot} (k : W 0 pc (y2P M V mk i s14 .unset .unset .unset .unset .unset .unset .unset .unset) [] σ Q) : W 0 pc (y2P M V mk i s14 s15 s16 s17 s18 s19 s20 s21 s22) [] σ Q :=
  hF _ _ _ (y2P M V mk i s14 .unset .unset .unset .unset .unset .unset .unset .unset) _ _ _ ⟨Or.inr rfl, Or.inr rfl, Or.inr rfl, Or.inr rfl, Or.inr rfl, Or.inr rfl, Or.inr rfl, Or.inr rfl, Or.inr rfl, Or.inr rfl, Or.inr rfl, Or.inr rfl, Or.inr rfl, Or.inr rfl, Or.inr rfl, Or.inl rfl, Or.inl rfl, Or.inl rfl, Or.inl rfl, Or.inl rfl, Or.inl rfl, Or.inl rfl, Or.inl rfl, trivial⟩ k
theorem y2fgt20 (hF : Fgt W) {pc : Nat} {σ : Mem} {Q : Pst} {M V mk i : Int32} {s14 s15 s16 s17 s18 s19 s20 : Slot} (k : W 0 pc (y2P M V mk i s14 s15 s16 s17 s18 s19 .unset .unset .unset) [] σ Q) : W 0 pc (y2P M V mk i s14 s15 s16 s17 s18 s19 s20 .unset .unset) [] σ Q :=
  hF _ _ _ (y2P M V mk i s14 s15 s16 s17 s18 s19 .unset .unset .unset) _ _ _ ⟨Or.inr rfl, Or.inr rfl, Or.inr rfl, Or.inr rfl, Or.inr rfl, Or.inr rfl, Or.inr rfl, Or.inr rfl, Or.inr rfl, Or.inr rfl, Or.inr rfl, Or.inr rfl, Or.inr rfl, Or.inr rfl, Or.inr rfl, Or.inr rfl, Or.inr rfl, Or.inr rfl, Or.inr rfl, Or.inr rfl, Or.inl rfl, Or.inr rfl, Or.inr rfl, trivial⟩ k
set_option maxHeartbeats 4000000 in
theorem y2chk (hW : Clo W) (hF : Fgt W) {n : Nat} {I : Nat → Int32} {A : Nat → Nat → Int32} {M V mk i : Int32} {Q : Pst} (v : mV I A) (e0 : I 0 = M) (k : ∀ I' A', qSame I A I' A' → W 0 808 (y2U M V mk i) [] (mst n I' A') Q) :
    W 0 651 (y2U M V mk i) [] (mst n I A) Q := by
  obtain ⟨hMi, hM8, hM2⟩ := MM_i v.1
  have v8 : VV I ≤ 8 ∧ (I 1).toInt = (VV I : Int) := by obtain ⟨_, b1, b2⟩ := v.1; simp only [VV]; omega
  have Mi : M.toInt = (MM I : Int) := by rw [← e0]; exact hMi
  have main : ∀ sel, gSel I A (rtA A 6) sel → ∀ (p j : Nat) (I1 : Nat → Int32) (A1 : Nat → Nat → Int32), j + p = MM I → 1 ≤ j → qSame I A I1 A1 → W 0 661 (y2P M V mk i (.val (.int (i32 j))) .unset .unset .unset .unset .unset .unset .unset .unset) [] (mst n I1 A1) Q := by
    intro sel g p
    have hs := gSel_ls v (mV_rt v) g
    induction p with
    | zero =>
      intro j I1 A1 hj j1 q1
      have ji : (i32 j).toInt = (j : Int) := i32_toInt (by omega)
      refine hW [808] 20 _ _ _ _ _ _ ?_
      refine ⟨fun q => ?_, fun _ => y2fgt hF (k I1 A1 q1)⟩
      have q' : (i32 j).toInt < M.toInt := q
      omega
    | succ p ih =>
      intro j I1 A1 hj j1 q1
      have ji : (i32 j).toInt = (j : Int) := i32_toInt (by omega)
      have jt : (i32 j).toInt.toNat = j := by omega
      have mj : mR I (i32 j) := ⟨by omega, by omega⟩
      obtain ⟨sv, sls⟩ := hs j j1 (by omega)
      have si : (i32 (sel j)).toInt = (sel j : Int) := i32_toInt (by omega)
      have st : (i32 (sel j)).toInt.toNat = sel j := by omega
      have back : ∀ (I2 : Nat → Int32) (A2 : Nat → Nat → Int32) (s15 s16 s17 s18 s19 s20 : Slot), qSame I A I2 A2 → W 0 802 (y2P M V mk i (.val (.int (i32 j))) s15 s16 s17 s18 s19 s20 .unset .unset) [] (mst n I2 A2) Q := by
        intro I2 A2 s15 s16 s17 s18 s19 s20 q2
        refine y2fgtP hF ?_
        refine hW [661] 10 _ _ _ _ _ _ ?_
        show W 0 661 (y2P M V mk i (.val (.int (i32 j + Int32.ofInt 1))) .unset .unset .unset .unset .unset .unset .unset .unset) [] (mst n I2 A2) Q
        rw [i32_succ]
        exact ih (j + 1) I2 A2 (by omega) (by omega) q2
      have inner : ∀ (src : Int32), src.toInt.toNat = gSrc A j (sel j) → vR I src → sel j ≠ 0 → ∀ (mu rp : Int32) (p' t : Nat) (I2 : Nat → Int32) (A2 : Nat → Nat → Int32), t + p' = MM I → 1 ≤ t → qSame I A I2 A2 →
          W 0 750 (y2P M V mk i (.val (.int (i32 j))) (.val (.int mu)) (.val (.int (i32 (sel j)))) (.val (.int rp)) (.val (.int src)) (.val (.int (i32 t))) .unset .unset .unset) [] (mst n I2 A2) Q := by
        intro src hsrc vsrc snz mu rp p'
        induction p' with
        | zero =>
          intro t I2 A2 ht t1 q2
          have ti : (i32 t).toInt = (t : Int) := i32_toInt (by omega)
          refine hW [802] 20 _ _ _ _ _ _ ?_
          refine ⟨fun q => ?_, fun _ => back I2 A2 _ _ _ _ _ _ q2⟩
          have q' : (i32 t).toInt < M.toInt := q
          omega
        | succ p' ihp =>
          intro t I2 A2 ht t1 q2
          have ti : (i32 t).toInt = (t : Int) := i32_toInt (by omega)
          have tt : (i32 t).toInt.toNat = t := by omega
          have mt : mR I (i32 t) := ⟨by omega, by omega⟩
          have next : ∀ (I3 : Nat → Int32) (A3 : Nat → Nat → Int32) (s20 : Slot), qSame I A I3 A3 → W 0 796 (y2P M V mk i (.val (.int (i32 j))) (.val (.int mu)) (.val (.int (i32 (sel j)))) (.val (.int rp)) (.val (.int src)) (.val (.int (i32 t))) s20 .unset .unset) [] (mst n I3 A3) Q := by
            intro I3 A3 s20 q3
            refine y2fgt20 hF ?_
            refine hW [750] 10 _ _ _ _ _ _ ?_
            show W 0 750 (y2P M V mk i (.val (.int (i32 j))) (.val (.int mu)) (.val (.int (i32 (sel j)))) (.val (.int rp)) (.val (.int src)) (.val (.int (i32 t + Int32.ofInt 1))) .unset .unset .unset) [] (mst n I3 A3) Q
            rw [i32_succ]
            exact ihp (t + 1) I3 A3 (by omega) (by omega) q3
          refine hW [796] 40 _ _ _ _ _ _ ?_
          refine ⟨fun _ => ⟨fun _ => next I2 A2 _ q2, fun e => ?_⟩, fun q => ?_⟩
          · have e' : ¬ i32 t = i32 j := e
            have tj : t ≠ j := fun z => e' (by rw [z])
            have mR2 : ∀ x, mR I x → mR I2 x := fun x h => by unfold mR; rw [q2.1]; exact h
            refine requirementOf_ok hW (q_mV q2 v).1 (fun w => absurd ⟨mR2 _ mj, by unfold vR; rw [q2.2.1]; exact vsrc, mR2 _ mt, e'⟩ w) (fun _ _ _ _ => ?_)
            rw [q2.2.2 5 (by decide)]
            refine ⟨fun _ => next I2 A2 _ q2, fun _ => ?_⟩
            refine st_selected hW hF v q2 g mt (fun I3 A3 q3 => ?_)
            refine ⟨fun q => ?_, fun _ => next I3 A3 _ q3⟩
            exfalso
            have q' : (i32 (sel (i32 t).toInt.toNat)).toInt < (A 5 (rsl (i32 j) src (i32 t))).toInt := q
            have gr := gSel_req g j1 (show j < MM I by omega) t1 (show t < MM I by omega) tj snz
            have sv2 := (hs t t1 (by omega)).1
            have er : rsl (i32 j) src (i32 t) = 81 * j + 9 * gSrc A j (sel j) + t := by unfold rsl; rw [jt, tt, hsrc]
            unfold gReq at gr
            rw [tt, er, i32_toInt (by omega)] at q'
            omega
          · have q' : ¬ (i32 t).toInt < M.toInt := q
            omega
      have a704 : ∀ (I2 : Nat → Int32) (A2 : Nat → Nat → Int32) (mu : Int32), qSame I A I2 A2 → W 0 704 (y2P M V mk i (.val (.int (i32 j))) (.val (.int mu)) (.val (.int (i32 (sel j)))) .unset .unset .unset .unset .unset .unset) [] (mst n I2 A2) Q := by
        intro I2 A2 mu q2
        refine hW [750, 802] 60 _ _ _ _ _ _ ?_
        refine ⟨fun _ => back I2 A2 _ _ _ _ _ _ q2, fun z => ?_⟩
        have z' : ¬ i32 (sel j) = 0 := z
        have snz : sel j ≠ 0 := fun w => z' (by rw [w]; rfl)
        obtain ⟨l1, l2⟩ := sls snz
        have hB2 := (q_mV q2 v).1
        have vsj : vR I (i32 (sel j)) := ⟨by omega, by omega⟩
        have mR2 : mR I2 (i32 j) := by unfold mR; rw [q2.1]; exact mj
        have vR2 : vR I2 (i32 (sel j)) := by unfold vR; rw [q2.2.1]; exact vsj
        have es : sl (i32 j) (i32 (sel j)) = 9 * j + sel j := by unfold sl; rw [jt, st]
        refine versionFlags_ok hW hB2 (fun w => absurd ⟨mR2, vR2⟩ w) (fun _ _ => ?_)
        rw [q2.2.2 2 (by decide), q2.2.2 3 (by decide), es, if_neg l1, if_pos l2]
        refine ⟨fun _ => ?_, fun w => absurd (by decide) w⟩
        refine replacementOf_ok hW hB2 (fun w => absurd ⟨mR2, vR2⟩ w) (fun _ _ => ?_)
        rw [q2.2.2 4 (by decide), es]
        refine ⟨fun r => ?_, fun r => ?_⟩
        · have r' : A 4 (9 * j + sel j) = 0 := r
          exact inner _ (by unfold gSrc; rw [if_pos r', st]) vsj snz mu _ (MM I - 1) 1 I2 A2 (by omega) (by omega) q2
        · have r' : ¬ A 4 (9 * j + sel j) = 0 := r
          refine inner _ (by unfold gSrc; rw [if_neg r']) ?_ snz mu _ (MM I - 1) 1 I2 A2 (by omega) (by omega) q2
          rcases v.2.2.2.2.2 j (sel j) ⟨j1, by omega, by omega, sv⟩ with y | y
          · exact absurd y r'
          · exact ⟨y.1, y.2.1⟩
      refine hW [704] 40 _ _ _ _ _ _ ?_
      refine ⟨fun _ => ?_, fun q => ?_⟩
      · refine st_main hW v q1 mj ?_
        refine st_selected hW hF v q1 g mj (fun I2 A2 q2 => ?_)
        rw [jt]
        refine ⟨fun q => ?_, fun _ => ⟨fun _ => a704 I2 A2 _ q2, fun _ => ⟨fun q => ?_, fun _ => a704 I2 A2 _ q2⟩⟩⟩
        · have q' : (i32 (sel j)).toInt < (0 : Int32).toInt := q
          rw [tI0] at q'; omega
        · have q' : (i32 (sel j)).toInt < (A 6 j).toInt := q
          have := gSel_ge g j1 (show j < MM I by omega)
          unfold rtA at this
          omega
      · have q' : ¬ (i32 j).toInt < M.toInt := q
        omega
  refine hW [661, 808] 20 _ _ _ _ _ _ ?_
  refine buildStatus_ok hW hF v.1 v.2.1 (fun I1 A1 sel p g => ?_) (fun I1 A1 p g => ?_)
  · exact ⟨fun _ => main sel g (MM I - 1) 1 I1 A1 (by omega) (by omega) (pS_q p), fun z => absurd rfl z⟩
  · exact ⟨fun z => absurd z (by decide), fun _ => k I1 A1 (pS_q p)⟩
/-! the step that prunes -/
def acc (sel : Nat → Nat) : Nat → Int64
  | 0 => Int64.ofNat 0
  | j + 1 => acc sel j ||| ((i32 (sel (j + 1))).toInt64 <<< ((Int32.ofInt 4 * i32 (j + 1)).toInt64 &&& 63))
theorem cmpL_self (x : Int64) : Jvm.Free.XT.cmpL x x = 0 := by
  unfold Jvm.Free.XT.cmpL
  rw [if_neg (Int64.lt_irrefl), if_pos rfl]
set_option maxHeartbeats 4000000 in
theorem y2prune (hW : Clo W) (hF : Fgt W) {n : Nat} {I : Nat → Int32} {A : Nat → Nat → Int32} {M V mk i : Int32} {Q : Pst} (v : mV I A) (e0 : I 0 = M) (k : ∀ I' A', mV I' A' → I' 0 = I 0 → I' 1 = I 1 → W 0 651 (y2U M V mk i) [] (mst n I' A') Q) :
    W 0 457 (y2U M V mk i) [] (mst n I A) Q := by
  obtain ⟨hMi, hM8, hM2⟩ := MM_i v.1
  have Mi : M.toInt = (MM I : Int) := by rw [← e0]; exact hMi
  have no : (∀ P, gCL I A (rtA A 6) P → False) → ∀ (I1 : Nat → Int32) (A1 : Nat → Nat → Int32) (x17 : Int32), qSame I A I1 A1 → W 0 517 (y2P M V mk i (.val (.int (Int32.ofInt 0))) (.val (.long (Int64.ofNat 0))) .second (.val (.int x17)) .unset .unset .unset .unset .unset) [] (mst n I1 A1) Q := by
    intro g I1 A1 x17 q1
    refine hW [651] 30 _ _ _ _ _ _ ?_
    refine no_prune hW hF v q1 g (fun I2 A2 q2 => ?_)
    refine ⟨fun _ => ⟨fun _ => y2fgt hF (k I2 A2 (q_mV q2 v) q2.1 q2.2.1), fun z => absurd (by decide) z⟩, fun z => absurd (by decide) z⟩
  have ok : ∀ sel, gSel I A (rtA A 6) sel → ∀ (I1 : Nat → Int32) (A1 : Nat → Nat → Int32) (x18 : Int32), qSame I A I1 A1 → W 0 517 (y2P M V mk i (.val (.int (Int32.ofInt 1))) (.val (.long (acc sel (MM I - 1)))) .second (.val (.int (i32 (szF sel (MM I))))) (.val (.int x18)) .unset .unset .unset .unset) [] (mst n I1 A1) Q := by
    intro sel g I1 A1 x18 q1
    have hs := gSel_ls v (mV_rt v) g
    have v8 : VV I ≤ 8 := by obtain ⟨_, b1, b2⟩ := v.1; simp only [VV]; omega
    refine hW [573, 651] 80 _ _ _ _ _ _ ?_
    refine st_prune hW hF v q1 g (fun I5 A5 K i0 i1 p6 pk' v5 g5 => ?_)
    have M5 : MM I5 = MM I := by simp only [MM, i0]
    have ks := pk_sub (by omega) pk'
    have cl := cntF_le (fun s => K (s + 1)) (MM I - 1)
    generalize hr : cntF (fun s => K (s + 1)) (MM I - 1) = r at *
    have ri : (i32 r).toInt = (r : Int) := i32_toInt (by omega)
    have cnt : ∀ (p j : Nat) (I6 : Nat → Int32) (A6 : Nat → Nat → Int32) (z : Int64), j + 1 + p = MM I → qSame I5 A5 I6 A6 → W 0 618 (y2P M V mk i (.val (.int (Int32.ofInt 1))) (.val (.long (acc sel (MM I - 1)))) .second (.val (.int (i32 (szF sel (MM I))))) (.val (.int (i32 r))) (.val (.long z)) .second (.val (.int (i32 (cntF (fun s => K (s + 1)) j)))) (.val (.int (i32 (j + 1))))) [] (mst n I6 A6) Q := by
      intro p
      induction p with
      | zero =>
        intro j I6 A6 z hj q6
        have ji : (i32 (j + 1)).toInt = ((j + 1 : Nat) : Int) := i32_toInt (by omega)
        refine hW [651] 20 _ _ _ _ _ _ ?_
        refine ⟨fun q => ?_, fun _ => ⟨fun _ => y2fgt hF (k I6 A6 (q_mV q6 v5) (q6.1.trans i0) (q6.2.1.trans i1)), fun w => absurd ?_ w⟩⟩
        · have q' : (i32 (j + 1)).toInt < M.toInt := q
          omega
        · rw [← hr, show MM I - 1 = j by omega]
      | succ p ih =>
        intro j I6 A6 z hj q6
        have ji : (i32 (j + 1)).toInt = ((j + 1 : Nat) : Int) := i32_toInt (by omega)
        have jt : (i32 (j + 1)).toInt.toNat = j + 1 := by omega
        have e6 := p6.2 (j + 1)
        rw [if_pos ⟨by omega, by omega⟩] at e6
        refine hW [618] 30 _ _ _ _ _ _ ?_
        refine ⟨fun _ => ?_, fun q => ?_⟩
        · refine st_main hW v5 q6 ⟨by omega, by rw [i0]; omega⟩ ?_
          rw [jt]
          refine ⟨fun w => ?_, fun w => ?_⟩
          · have w' : A5 6 (j + 1) = 0 := w
            have kj : K (j + 1) = false := by
              cases kk : K (j + 1) with
              | false => rfl
              | true =>
                exfalso
                rw [kk, if_pos rfl, w'] at e6
                have := ks (j + 1) (by omega) (by omega) kk
                have s8 := (hs (j + 1) (by omega) (by omega)).1
                exact this (i32_inj (by omega) (by omega) (b := 0) e6.symm)
            show W 0 618 (y2P M V mk i (.val (.int (Int32.ofInt 1))) (.val (.long (acc sel (MM I - 1)))) .second (.val (.int (i32 (szF sel (MM I))))) (.val (.int (i32 r))) (.val (.long z)) .second (.val (.int (i32 (cntF (fun s => K (s + 1)) j)))) (.val (.int (i32 (j + 1) + Int32.ofInt 1)))) [] (mst n I6 A6) Q
            rw [i32_succ]
            have := ih (j + 1) I6 A6 z (by omega) q6
            simpa only [cntF, kj, if_neg (show ¬ (false = true) from Bool.false_ne_true), Nat.add_zero] using this
          · have w' : ¬ A5 6 (j + 1) = 0 := w
            have kj : K (j + 1) = true := by
              cases kk : K (j + 1) with
              | true => rfl
              | false => rw [kk] at e6; exact absurd e6 w'
            show W 0 618 (y2P M V mk i (.val (.int (Int32.ofInt 1))) (.val (.long (acc sel (MM I - 1)))) .second (.val (.int (i32 (szF sel (MM I))))) (.val (.int (i32 r))) (.val (.long z)) .second (.val (.int (i32 (cntF (fun s => K (s + 1)) j) + Int32.ofInt 1))) (.val (.int (i32 (j + 1) + Int32.ofInt 1)))) [] (mst n I6 A6) Q
            rw [i32_succ, i32_succ]
            have := ih (j + 1) I6 A6 z (by omega) q6
            simpa only [cntF, kj, if_true] using this
        · have q' : ¬ (i32 (j + 1)).toInt < M.toInt := q
          omega
    have aft : ∀ (p j : Nat) (I6 : Nat → Int32) (A6 : Nat → Nat → Int32), j + 1 + p = MM I → qSame I5 A5 I6 A6 → W 0 573 (y2P M V mk i (.val (.int (Int32.ofInt 1))) (.val (.long (acc sel (MM I - 1)))) .second (.val (.int (i32 (szF sel (MM I))))) (.val (.int (i32 r))) (.val (.long (acc sel j))) .second (.val (.int (i32 (j + 1)))) .unset) [] (mst n I6 A6) Q := by
      intro p
      induction p with
      | zero =>
        intro j I6 A6 hj q6
        have ji : (i32 (j + 1)).toInt = ((j + 1 : Nat) : Int) := i32_toInt (by omega)
        refine hW [618] 30 _ _ _ _ _ _ ?_
        refine ⟨fun q => ?_, fun _ => ⟨fun _ => cnt (MM I - 1) 0 I6 A6 _ (by omega) q6, fun w => absurd ?_ w⟩⟩
        · have q' : (i32 (j + 1)).toInt < M.toInt := q
          omega
        · show Jvm.Free.XT.cmpL (acc sel j) (acc sel (MM I - 1)) = 0
          rw [show MM I - 1 = j by omega]; exact cmpL_self _
      | succ p ih =>
        intro j I6 A6 hj q6
        have ji : (i32 (j + 1)).toInt = ((j + 1 : Nat) : Int) := i32_toInt (by omega)
        have jt : (i32 (j + 1)).toInt.toNat = j + 1 := by omega
        refine hW [573] 30 _ _ _ _ _ _ ?_
        refine ⟨fun _ => ?_, fun q => ?_⟩
        · refine st_selected hW hF v5 q6 g5 ⟨by omega, by rw [i0]; omega⟩ (fun I7 A7 q7 => ?_)
          rw [jt]
          show W 0 573 (y2P M V mk i (.val (.int (Int32.ofInt 1))) (.val (.long (acc sel (MM I - 1)))) .second (.val (.int (i32 (szF sel (MM I))))) (.val (.int (i32 r))) (.val (.long (acc sel (j + 1)))) .second (.val (.int (i32 (j + 1) + Int32.ofInt 1))) .unset) [] (mst n I7 A7) Q
          rw [i32_succ]
          exact ih (j + 1) I7 A7 (by omega) q7
        · have q' : ¬ (i32 (j + 1)).toInt < M.toInt := q
          omega
    have rn : ¬ (i32 r).toInt < (0 : Int32).toInt := by rw [ri, tI0]; omega
    refine ⟨fun z => absurd z (by decide), fun _ => ⟨fun z => absurd z rn, fun _ => ⟨fun z => absurd z rn, fun _ => ⟨fun z => absurd z (by decide), fun _ => ?_⟩⟩⟩⟩
    refine st_status hW hF v5 (qSame.refl _ _) g5 (fun I6 A6 q6 => ?_)
    refine ⟨fun _ => ?_, fun z => absurd rfl z⟩
    refine st_size hW hF v5 q6 g5 (fun I7 A7 q7 => ?_)
    rw [M5]
    exact ⟨fun _ => aft (MM I - 1) 0 I7 A7 (by omega) q7, fun z => absurd rfl z⟩
  have bef : ∀ sel, gSel I A (rtA A 6) sel → ∀ (p j : Nat) (I1 : Nat → Int32) (A1 : Nat → Nat → Int32), j + 1 + p = MM I → qSame I A I1 A1 → W 0 488 (y2P M V mk i (.val (.int (Int32.ofInt 1))) (.val (.long (acc sel j))) .second (.val (.int (i32 (szF sel (MM I))))) (.val (.int (i32 (j + 1)))) .unset .unset .unset .unset) [] (mst n I1 A1) Q := by
    intro sel g p
    induction p with
    | zero =>
      intro j I1 A1 hj q1
      have ji : (i32 (j + 1)).toInt = ((j + 1 : Nat) : Int) := i32_toInt (by omega)
      refine hW [517] 20 _ _ _ _ _ _ ?_
      refine ⟨fun q => ?_, fun _ => ?_⟩
      · have q' : (i32 (j + 1)).toInt < M.toInt := q
        omega
      · have := ok sel g I1 A1 (i32 (j + 1)) q1
        rw [show MM I - 1 = j by omega] at this
        exact this
    | succ p ih =>
      intro j I1 A1 hj q1
      have ji : (i32 (j + 1)).toInt = ((j + 1 : Nat) : Int) := i32_toInt (by omega)
      have jt : (i32 (j + 1)).toInt.toNat = j + 1 := by omega
      refine hW [488] 30 _ _ _ _ _ _ ?_
      refine ⟨fun _ => ?_, fun q => ?_⟩
      · refine st_selected hW hF v q1 g ⟨by omega, by omega⟩ (fun I2 A2 q2 => ?_)
        rw [jt]
        show W 0 488 (y2P M V mk i (.val (.int (Int32.ofInt 1))) (.val (.long (acc sel (j + 1)))) .second (.val (.int (i32 (szF sel (MM I))))) (.val (.int (i32 (j + 1) + Int32.ofInt 1))) .unset .unset .unset .unset) [] (mst n I2 A2) Q
        rw [i32_succ]
        exact ih (j + 1) I2 A2 (by omega) q2
      · have q' : ¬ (i32 (j + 1)).toInt < M.toInt := q
        omega
  refine hW [488, 517] 60 _ _ _ _ _ _ ?_
  refine buildStatus_ok hW hF v.1 v.2.1 (fun I1 A1 sel p g => ?_) (fun I1 A1 p g => ?_)
  · refine ⟨fun _ => ?_, fun z => absurd rfl z⟩
    refine st_size hW hF v (pS_q p) g (fun I2 A2 q2 => ?_)
    exact ⟨fun z => absurd z (by decide), fun _ => bef sel g (MM I - 1) 0 I2 A2 (by omega) q2⟩
  · refine ⟨fun z => absurd z (by decide), fun _ => ?_⟩
    refine no_size hW hF v (pS_q p) g (fun I2 A2 q2 => ?_)
    exact ⟨fun _ => no g I2 A2 _ q2, fun z => absurd (by decide) z⟩
/-! the steps that raise and lower -/
def y2D (M V mk i op a b c m x s u : Int32) (s14 s15 : Slot) : List Slot := [.val (.ref 0), .val (.int M), .val (.int V), .val (.ref 1), .val (.int mk), .val (.int i), .val (.int op), .val (.int a), .val (.int b), .val (.int c), .val (.int m), .val (.int x), .val (.int s), .val (.int u), s14, s15, .unset, .unset, .unset, .unset, .unset, .unset, .unset]
theorem cell_ok (hW : Clo W) {σ : Mem} {k : Int32} {Q : Pst} (hk : 0 ≤ k.toInt) (hn : σ.2.1 ≤ 260) (hq : ∀ v, Q (some (.int v)) σ) : W k_cell 0 [.val (.ref 0), .val (.int k)] [] σ Q := by
  obtain ⟨a, n, F, A⟩ := σ
  have ni : (Int32.ofNat n).toInt = (n : Int) := i32_toInt (by have : n ≤ 260 := hn; omega)
  refine hW [] 20 _ _ _ _ _ _ ?_
  refine ⟨fun q => ⟨⟨hk, ?_⟩, hq _⟩, fun q => hq _⟩
  have q' : k.toInt < (Int32.ofNat n).toInt := q
  show k.toInt < (n : Int)
  omega
theorem pos_ok (hW : Clo W) {σ : Mem} {a n : Int32} {Q : Pst} (hn : 0 < n.toInt) (h2 : n.toInt < 1000) (hq : ∀ r : Int32, 0 ≤ r.toInt → r.toInt < n.toInt → Q (some (.int r)) σ) : W k_pos 0 [.val (.int a), .val (.int n), .unset] [] σ Q := by
  have m : (a % n).toInt = a.toInt.tmod n.toInt := Int32.toInt_mod a n
  have l1 := Int.tmod_lt_of_pos a.toInt hn
  have l2 := Int.lt_tmod_of_pos a.toInt hn
  refine hW [] 20 _ _ _ _ _ _ ?_
  refine ⟨fun z => by rw [z, tI0] at hn; omega, ⟨fun q => ?_, fun q => ?_⟩⟩
  · have q' : (a % n).toInt < (0 : Int32).toInt := q
    rw [tI0] at q'
    have e : (a % n + n).toInt = (a % n).toInt + n.toInt := tI_add (by omega) (by omega)
    exact hq (a % n + n) (by omega) (by omega)
  · have q' : ¬ (a % n).toInt < (0 : Int32).toInt := q
    rw [tI0] at q'
    exact hq (a % n) (by omega) (by omega)
set_option maxHeartbeats 4000000 in
theorem y2up (hW : Clo W) (hF : Fgt W) {n : Nat} {I : Nat → Int32} {A : Nat → Nat → Int32} {M V mk i op a b c m x s u : Int32} {Q : Pst} (v : mV I A) (k : ∀ I' A', mV I' A' → I' 0 = I 0 → I' 1 = I 1 → W 0 651 (y2U M V mk i) [] (mst n I' A') Q) :
    W 0 346 (y2D M V mk i op a b c m x s u .unset .unset) [] (mst n I A) Q := by
  refine hW [651] 60 _ _ _ _ _ _ ?_
  refine upgrade_ok hW hF v.1 v.2.1 v.2.2.1 (fun _ => ?_) (fun _ _ _ => ?_) (fun _ _ => ?_) (fun _ _ I' A' p _ => ?_) (fun _ _ I' A' _ p _ => ?_) (fun _ _ I' A' _ p _ => ?_) (fun l _ I' A' _ sel p _ g => ?_)
  · exact ⟨fun _ => y2fgt hF (k _ _ v rfl rfl), fun z => absurd (by decide) z⟩
  · exact ⟨fun _ => y2fgt hF (k _ _ v rfl rfl), fun z => absurd (by decide) z⟩
  · exact ⟨fun _ => y2fgt hF (k _ _ v rfl rfl), fun z => absurd (by decide) z⟩
  · exact ⟨fun _ => y2fgt hF (k _ _ (q_mV (pS_q p) v) p.1 p.2.1), fun z => absurd (by decide) z⟩
  · exact ⟨fun _ => y2fgt hF (k _ _ (q_mV (pS_q p) v) p.1 p.2.1), fun z => absurd (by decide) z⟩
  · exact ⟨fun _ => y2fgt hF (k _ _ (q_mV (pS_q p) v) p.1 p.2.1), fun z => absurd (by decide) z⟩
  · have v1 := mV_main (Or.inr (isL_ls l)) v
    have hMi := (MM_i v.1).1
    have v8 : VV I ≤ 8 := by obtain ⟨_, b1, b2⟩ := v.1; simp only [VV]; omega
    have m1 := l.1.1
    have m2 := l.1.2
    have x1 := l.2.1.1
    have sv := (gSel_ls v1 (mV_rt v1) g m.toInt.toNat (by omega) (by omega)).1
    have si : (i32 (sel m.toInt.toNat)).toInt = (sel m.toInt.toNat : Int) := i32_toInt (by omega)
    have ge := gSel_ge g (s := m.toInt.toNat) (by omega) (by omega)
    unfold rtA at ge
    rw [pmSet_eq] at ge
    refine ⟨fun z => ?_, fun _ => ?_⟩
    · have z' : (i32 (sel m.toInt.toNat)).toInt < (0 : Int32).toInt := z
      rw [tI0] at z'; omega
    · refine st_status hW hF v1 (pS_q p) g (fun I2 A2 q2 => ?_)
      refine ⟨fun _ => ?_, fun z => absurd rfl z⟩
      refine st_selected hW hF v1 q2 g l.1 (fun I3 A3 q3 => ?_)
      refine ⟨fun _ => ⟨fun z => ?_, fun _ => y2fgt hF (k I3 A3 (q_mV q3 v1) q3.1 q3.2.1)⟩, fun z => absurd rfl z⟩
      have z' : (i32 (sel m.toInt.toNat)).toInt < x.toInt := z
      omega
set_option maxHeartbeats 4000000 in
theorem y2down (hW : Clo W) (hF : Fgt W) {n : Nat} {I : Nat → Int32} {A : Nat → Nat → Int32} {M V mk i op a b c m x s u : Int32} {Q : Pst} (v : mV I A) (hV : 2 ≤ V.toInt ∧ V.toInt ≤ 6) (k : ∀ I' A', mV I' A' → I' 0 = I 0 → I' 1 = I 1 → W 0 651 (y2U M V mk i) [] (mst n I' A') Q) :
    W 0 400 (y2D M V mk i op a b c m x s u .unset .unset) [] (mst n I A) Q := by
  have V1 : (V + Int32.ofInt 1).toInt = V.toInt + 1 := by rw [tI_add (by rw [oI1]; omega) (by rw [oI1]; omega), oI1]
  refine hW [651] 60 _ _ _ _ _ _ ?_
  refine pos_ok hW (by omega) (by omega) (fun w _ _ => ?_)
  refine downgrade_ok hW hF v.1 v.2.1 v.2.2.1 (fun _ => ?_) (fun _ _ I' A' p _ => ?_) (fun _ _ I' A' _ p _ => ?_) (fun mt vv I' A' _ sel i0 i1 r6 _ d o g hle => ?_)
  · exact ⟨fun _ => y2fgt hF (k _ _ v rfl rfl), fun z => absurd (by decide) z⟩
  · exact ⟨fun _ => y2fgt hF (k _ _ (q_mV (pS_q p) v) p.1 p.2.1), fun z => absurd (by decide) z⟩
  · exact ⟨fun _ => y2fgt hF (k _ _ (q_mV (pS_q p) v) p.1 p.2.1), fun z => absurd (by decide) z⟩
  · have v1 := dn_mV v i0 i1 r6 d o
    have g1 : gSel I' A' (rtA A' 6) sel := gSel_congr i0 i1 (r6 2 (by decide)) (r6 3 (by decide)) (r6 4 (by decide)) (r6 5 (by decide)) (fun _ _ _ => rfl) g
    have si : (i32 (sel m.toInt.toNat)).toInt = (sel m.toInt.toNat : Int) := i32_toInt (by have := Int32.toInt_lt w; omega)
    have mt1 : mR I' m := by unfold mR; rw [i0]; exact mt
    refine ⟨fun z => ?_, fun _ => ?_⟩
    · have z' : (i32 (sel m.toInt.toNat)).toInt < (0 : Int32).toInt := z
      rw [tI0] at z'; omega
    · refine st_status hW hF v1 (qSame.refl _ _) g1 (fun I2 A2 q2 => ?_)
      refine ⟨fun _ => ?_, fun z => absurd rfl z⟩
      refine st_selected hW hF v1 q2 g1 mt1 (fun I3 A3 q3 => ?_)
      refine ⟨fun _ => ⟨fun z => ?_, fun _ => y2fgt hF (k I3 A3 (q_mV q3 v1) (q3.1.trans i0) (q3.2.1.trans i1))⟩, fun z => absurd rfl z⟩
      have z' : w.toInt < (i32 (sel m.toInt.toNat)).toInt := z
      omega
set_option maxHeartbeats 8000000 in
theorem y2loop (hW : Clo W) (hF : Fgt W) {n : Nat} (hn : n ≤ 260) {M V mk : Int32} (hM : 3 ≤ M.toInt ∧ M.toInt ≤ 6) (hV : 2 ≤ V.toInt ∧ V.toInt ≤ 6) : ∀ (t i : Nat) (I : Nat → Int32) (A : Nat → Nat → Int32), n ≤ i + t → i ≤ 265 → mV I A → I 0 = M → I 1 = V →
    W 0 108 (y2U M V mk (i32 i)) [] (mst n I A) (fun v _ => v = some (.int 1)) := by
  intro t
  have ni : (Int32.ofNat n).toInt = (n : Int) := i32_toInt (by omega)
  have V1 : (V + Int32.ofInt 1).toInt = V.toInt + 1 := by rw [tI_add (by rw [oI1]; omega) (by rw [oI1]; omega), oI1]
  have M1 : (M - Int32.ofInt 1).toInt = M.toInt - 1 := by rw [tI_sub (by rw [oI1]; omega) (by rw [oI1]; omega), oI1]
  induction t with
  | zero =>
    intro i I A hi hi2 v e0 e1
    have ii : (i32 i).toInt = (i : Int) := i32_toInt (by omega)
    refine hW [] 20 _ _ _ _ _ _ ?_
    refine ⟨fun q => ?_, fun _ => rfl⟩
    have q' : (i32 i).toInt < (Int32.ofNat n).toInt := q
    omega
  | succ t ih =>
    intro i I A hi hi2 v e0 e1
    have ii : (i32 i).toInt = (i : Int) := i32_toInt (by omega)
    by_cases hin : n ≤ i
    · refine hW [] 20 _ _ _ _ _ _ ?_
      refine ⟨fun q => ?_, fun _ => rfl⟩
      have q' : (i32 i).toInt < (Int32.ofNat n).toInt := q
      omega
    have join : ∀ (I' : Nat → Int32) (A' : Nat → Nat → Int32), mV I' A' → I' 0 = I 0 → I' 1 = I 1 → W 0 651 (y2U M V mk (i32 i)) [] (mst n I' A') (fun v _ => v = some (.int 1)) := by
      intro I' A' v' i0 i1
      refine y2chk hW hF v' (i0.trans e0) (fun I2 A2 q2 => ?_)
      refine hW [108] 10 _ _ _ _ _ _ ?_
      have e : i32 i + Int32.ofInt 4 = i32 (i + 4) := by
        apply Int32.toInt_inj.mp
        have o4 : (Int32.ofInt 4).toInt = 4 := by decide
        have i4 : (i32 (i + 4)).toInt = ((i + 4 : Nat) : Int) := i32_toInt (by omega)
        rw [tI_add (by rw [o4]; omega) (by rw [o4]; omega), o4, i4]; omega
      have := ih (i + 4) I2 A2 (by omega) (by omega) (q_mV q2 v') (q2.1.trans (i0.trans e0)) (q2.2.1.trans (i1.trans e1))
      rw [← e] at this
      exact this
    have body : ∀ op a b c m x s u : Int32, W 0 205 (y2D M V mk (i32 i) op a b c m x s u .unset .unset) [] (mst n I A) (fun v _ => v = some (.int 1)) := by
      intro op a b c m x s u
      have cReq : W 0 234 (y2D M V mk (i32 i) op a b c m x s u .unset .unset) [] (mst n I A) (fun v _ => v = some (.int 1)) := by
        refine hW [651] 30 _ _ _ _ _ _ ?_
        exact kp_require hW v (fun r I' A' v' i0 i1 => y2fgt hF (join I' A' v' i0 i1))
      have cMain : W 0 263 (y2D M V mk (i32 i) op a b c m x s u .unset .unset) [] (mst n I A) (fun v _ => v = some (.int 1)) := by
        refine hW [651] 30 _ _ _ _ _ _ ?_
        refine pos_ok hW (by omega) (by omega) (fun w _ _ => ?_)
        exact kp_requireMain hW v (fun r I' A' v' i0 i1 => y2fgt hF (join I' A' v' i0 i1))
      have c281 : W 0 281 (y2D M V mk (i32 i) op a b c m x s u .unset .unset) [] (mst n I A) (fun v _ => v = some (.int 1)) := by
        refine hW [346, 400, 457, 651] 60 _ _ _ _ _ _ ?_
        refine ⟨fun _ => ?_, fun _ => ⟨fun _ => ?_, fun _ => ⟨fun _ => ?_, fun _ => ⟨fun _ => ?_, fun _ => ?_⟩⟩⟩⟩
        · refine pos_ok hW (by decide) (by decide) (fun w _ _ => ⟨fun _ => ?_, fun _ => ?_⟩)
          · exact kp_exclude hW v (fun r I' A' v' i0 i1 => y2fgt hF (join I' A' v' i0 i1))
          · exact kp_exclude hW v (fun r I' A' v' i0 i1 => y2fgt hF (join I' A' v' i0 i1))
        · refine pos_ok hW (by omega) (by omega) (fun w _ _ => ?_)
          exact kp_replace hW v (fun r I' A' v' i0 i1 => y2fgt hF (join I' A' v' i0 i1))
        · exact y2up hW hF v join
        · exact y2down hW hF v hV join
        · exact y2fgt hF (y2prune hW hF v e0 join)
      refine hW [234, 263, 281, 651] 40 _ _ _ _ _ _ ?_
      refine ⟨fun _ => ?_, fun _ => ⟨fun _ => cReq, fun _ => ⟨fun _ => cReq, fun _ => ⟨fun _ => cMain, fun _ => ⟨fun _ => cMain, fun _ => c281⟩⟩⟩⟩⟩
      exact kp_list hW v (fun r I' A' v' i0 i1 => y2fgt hF (join I' A' v' i0 i1))
    have off : ∀ c : Nat, c < 5 → 0 ≤ (i32 i + Int32.ofInt c).toInt := by
      intro c hc5
      have : (Int32.ofInt (c : Int)).toInt = (c : Int) := Int32.toInt_ofInt_of_le (by omega) (by omega)
      rw [tI_add (by omega) (by omega)]; omega
    refine hW [205] 100 _ _ _ _ _ _ ?_
    refine ⟨fun _ => ?_, fun _ => rfl⟩
    refine cell_ok hW (by omega) hn (fun v0 => ?_)
    refine pos_ok hW (by decide) (by decide) (fun op _ _ => ?_)
    refine cell_ok hW (off 1 (by decide)) hn (fun a => ?_)
    refine cell_ok hW (off 2 (by decide)) hn (fun b => ?_)
    refine cell_ok hW (off 3 (by decide)) hn (fun c => ?_)
    refine pos_ok hW (by omega) (by omega) (fun m _ _ => ?_)
    refine pos_ok hW (by omega) (by omega) (fun x _ _ => ?_)
    refine pos_ok hW (by omega) (by omega) (fun s _ _ => ?_)
    refine ⟨by decide, ?_⟩
    refine pos_ok hW (by omega) (by omega) (fun u _ _ => ?_)
    exact body _ _ _ _ _ _ _ _
def y2S (M V mk j : Int32) (s6 : Slot) : List Slot := [.val (.ref 0), .val (.int M), .val (.int V), .val (.ref 1), .val (.int mk), .val (.int j), s6, .unset, .unset, .unset, .unset, .unset, .unset, .unset, .unset, .unset, .unset, .unset, .unset, .unset, .unset, .unset, .unset]
set_option maxHeartbeats 4000000 in
theorem y2list (hW : Clo W) (hF : Fgt W) {n : Nat} {M V mk : Int32} {Q : Pst} (hM : 3 ≤ M.toInt ∧ M.toInt ≤ 6) (hV : 2 ≤ V.toInt ∧ V.toInt ≤ 6) (k : ∀ (I : Nat → Int32) (A : Nat → Nat → Int32) (j : Int32), mV I A → I 0 = M → I 1 = V → W 0 105 (y2U M V mk j) [] (mst n I A) Q) :
    ∀ (t j : Nat) (I : Nat → Int32) (A : Nat → Nat → Int32), M.toInt ≤ (j : Int) + t → j ≤ 6 → mV I A → I 0 = M → I 1 = V → W 0 44 (y2U M V mk (i32 j)) [] (mst n I A) Q := by
  intro t
  induction t with
  | zero =>
    intro j I A hj h6 v e0 e1
    have ji : (i32 j).toInt = (j : Int) := i32_toInt (by omega)
    refine hW [105] 10 _ _ _ _ _ _ ?_
    refine ⟨fun q => ?_, fun _ => k I A _ v e0 e1⟩
    have q' : (i32 j).toInt < M.toInt := q
    omega
  | succ t ih =>
    intro j I A hj h6 v e0 e1
    have ji : (i32 j).toInt = (j : Int) := i32_toInt (by omega)
    by_cases hjM : M.toInt ≤ (j : Int)
    · refine hW [105] 10 _ _ _ _ _ _ ?_
      refine ⟨fun q => ?_, fun _ => k I A _ v e0 e1⟩
      have q' : (i32 j).toInt < M.toInt := q
      omega
    have inner : ∀ (p x : Nat) (I : Nat → Int32) (A : Nat → Nat → Int32), V.toInt + 1 ≤ (x : Int) + p → x ≤ 7 → mV I A → I 0 = M → I 1 = V → W 0 53 (y2S M V mk (i32 j) (.val (.int (i32 x)))) [] (mst n I A) Q := by
      intro p
      have out : ∀ (x : Nat) (I : Nat → Int32) (A : Nat → Nat → Int32), mV I A → I 0 = M → I 1 = V → W 0 99 (y2S M V mk (i32 j) (.val (.int (i32 x)))) [] (mst n I A) Q := by
        intro x I A v e0 e1
        refine y2fgt hF ?_
        refine hW [44] 10 _ _ _ _ _ _ ?_
        show W 0 44 (y2U M V mk (i32 j + Int32.ofInt 1)) [] (mst n I A) Q
        rw [i32_succ]
        exact ih (j + 1) I A (by omega) (by omega) v e0 e1
      induction p with
      | zero =>
        intro x I A hx x7 v e0 e1
        have xi : (i32 x).toInt = (x : Int) := i32_toInt (by omega)
        refine hW [99] 10 _ _ _ _ _ _ ?_
        refine ⟨fun _ => out x I A v e0 e1, fun q => ?_⟩
        have q' : ¬ V.toInt < (i32 x).toInt := q
        omega
      | succ p ihp =>
        intro x I A hx x7 v e0 e1
        have xi : (i32 x).toInt = (x : Int) := i32_toInt (by omega)
        by_cases hxV : V.toInt < (x : Int)
        · refine hW [99] 10 _ _ _ _ _ _ ?_
          refine ⟨fun _ => out x I A v e0 e1, fun q => ?_⟩
          have q' : ¬ V.toInt < (i32 x).toInt := q
          omega
        have nx : ∀ (I : Nat → Int32) (A : Nat → Nat → Int32), mV I A → I 0 = M → I 1 = V → W 0 93 (y2S M V mk (i32 j) (.val (.int (i32 x)))) [] (mst n I A) Q := by
          intro I A v e0 e1
          refine hW [53] 10 _ _ _ _ _ _ ?_
          show W 0 53 (y2S M V mk (i32 j) (.val (.int (i32 x + Int32.ofInt 1)))) [] (mst n I A) Q
          rw [i32_succ]
          exact ihp (x + 1) I A (by omega) (by omega) v e0 e1
        have ls : W 0 84 (y2S M V mk (i32 j) (.val (.int (i32 x)))) [] (mst n I A) Q := by
          refine hW [93] 20 _ _ _ _ _ _ ?_
          exact kp_list hW v (fun r I' A' v' i0 i1 => nx I' A' v' (i0.trans e0) (i1.trans e1))
        refine hW [84, 93, 99] 30 _ _ _ _ _ _ ?_
        refine ⟨fun _ => out x I A v e0 e1, fun _ => ⟨fun _ => ls, fun _ => ⟨fun _ => ls, fun _ => nx I A v e0 e1⟩⟩⟩
    refine hW [53] 20 _ _ _ _ _ _ ?_
    refine ⟨fun _ => inner 7 1 I A (by omega) (by omega) v e0 e1, fun q => ?_⟩
    have q' : ¬ (i32 j).toInt < M.toInt := q
    omega
set_option maxHeartbeats 4000000 in
theorem law_ok (hW : Clo W) (hF : Fgt W) (n : Nat) (hn : n ≤ 260) (sc : Nat → Int32) : W 0 0 (pmEntry (t_ml 0) [.ref 0]) [] (0, n, [], fun r i => if r = 0 then sc i else 0) (fun v _ => v = some (.int 1)) := by
  have o3 : (Int32.ofInt 3).toInt = 3 := by decide
  have o4 : (Int32.ofInt 4).toInt = 4 := by decide
  have o5 : (Int32.ofInt 5).toInt = 5 := by decide
  refine hW [44] 60 _ _ _ _ _ _ ?_
  refine cell_ok hW (by decide) hn (fun v0 => ?_)
  refine pos_ok hW (by decide) (by decide) (fun a a0 a1 => ?_)
  refine cell_ok hW (by decide) hn (fun v1 => ?_)
  refine pos_ok hW (by decide) (by decide) (fun b b0 b1 => ?_)
  have Mi : (Int32.ofInt 3 + a).toInt = 3 + a.toInt := by rw [tI_add (by rw [o3]; omega) (by rw [o3]; omega), o3]
  have Vi : (Int32.ofInt 2 + b).toInt = 2 + b.toInt := by rw [tI_add (by rw [oI2]; omega) (by rw [oI2]; omega), oI2]
  refine ⟨by decide, ?_⟩
  refine init_ok hW ?_
  refine cell_ok hW (by decide) hn (fun v2 => ?_)
  have hM : 3 ≤ (Int32.ofInt 3 + a).toInt ∧ (Int32.ofInt 3 + a).toInt ≤ 6 := by omega
  have hV : 2 ≤ (Int32.ofInt 2 + b).toInt ∧ (Int32.ofInt 2 + b).toInt ≤ 6 := by omega
  refine y2list hW hF hM hV (fun I A j v e0 e1 => ?_) 6 1 _ _ (by omega) (by decide) (mV_init fun r hr j => if_neg (by omega)) ?_ ?_
  · refine hW [108] 10 _ _ _ _ _ _ ?_
    exact y2loop hW hF hn hM hV n 3 I A (by omega) (by decide) v e0 e1
  · show clM (Int32.ofInt 3 + a) = Int32.ofInt 3 + a
    unfold clM; rw [oI2, oI8, if_neg (by omega), if_neg (by omega)]
  · show clV (Int32.ofInt 2 + b) = Int32.ofInt 2 + b
    unfold clV; rw [oI1, oI8, if_neg (by omega), if_neg (by omega)]
theorem pmEnd0 : ∀ a, pmROk 0 0 a → a ≤ t_full → pmBC 0 a ≤ 40 ∧ pmBS 0 a ≤ 2688 := by
  have h : ∀ a : Fin (t_full + 1), pmBC 0 a.1 ≤ 40 ∧ pmBS 0 a.1 ≤ 2688 := by decide +kernel
  exact fun a _ ha => h ⟨a, Nat.lt_succ_of_le ha⟩
theorem own_script {s : State} {w : Value} (hfit : Fit s) (hn : narrow_1.value #[w] s none s [] = some true) : ∃ (a : Addr) (c : Cell), w = .ref a ∧ Arr s s.heap a c .int ∧ c.slots.size ≤ 260 ∧ ∀ i, i < c.slots.size → c.slots[i]? = some (.int (atv c (Int32.ofNat i))) := by
  obtain ⟨hn1, hn2⟩ := and_e hn
  obtain ⟨a, rfl⟩ : ∃ a, w = .ref a := by
    cases w with
    | ref a => exact ⟨a, rfl⟩
    | _ => exfalso; simp [Cond.value, Term.eval] at hn1
  obtain ⟨c, A⟩ := Arr.start (a := a) (ty := .int) (t := Jvm.Term.arg 0) rfl hn1
  have ha := Arr.fin (Vm.Alike.refl _) A
  by_cases hl : c.slots.size < 2 ^ 31
  · have e := len_f (t := Jvm.Term.arg 0) (args := #[.ref a]) (first := s) (o := none) (idx := []) (x := a) rfl ha hl
    have e1 := len_toInt hl
    have h260 : c.slots.size ≤ 260 := by
      have q : decide (c.slots.size.toInt32 ≤ (260 : Int32)) = true := by
        have hl' : c.slots.size < 2147483648 := by omega
        simpa [Cond.value, Term.eval, ha, hl'] using hn2
      have q' := Int32.le_iff_toInt_le.mp (of_decide_eq_true q)
      rw [e1] at q'
      have : (260 : Int32).toInt = 260 := by decide
      omega
    refine ⟨a, c, rfl, A, h260, fun i hi => ?_⟩
    obtain ⟨n, -, S⟩ := Scr.start hfit A hl
    have ti : (Int32.ofNat i).toInt = (i : Int) := Int32.toInt_ofNat_of_lt (by omega)
    have tn : (Int32.ofNat i).toNatClampNeg = i := by simp only [Int32.toNatClampNeg, ti]; rfl
    have := S.2.2.2 (Int32.ofNat i) (by
      rintro (h | h)
      · rw [Int32.lt_iff_toInt_lt, ti] at h
        have : (0 : Int32).toInt = 0 := rfl
        omega
      · omega)
    rwa [tn] at this
  · exfalso; simp [Cond.value, Term.eval, ha, hl] at hn2
set_option maxRecDepth 65536 in
set_option maxHeartbeats 4000000 in
theorem comes_1 {Post : Tables → Env → Array Value → State → Outcome → State → Prop} (hpost : ∀ tb e args s v u, (limb_1_1.after args s (.returned v) u = true ∧ limb_1_2.after args s (.returned v) u = true ∧ True) → FrameEnd s (.returned v) u (Jvm.fieldLocs frame_1_writes args s ++ Jvm.arrayLocs frame_1_arrays args s ++ Jvm.staticLocs frame_1_statics s) 40 2688 → Post tb e args s (.returned v) u) :
    ArmFor flags0 classFile x code maxLocals ret World_1 tables_1 room_1 Calls_1 rest_1 Pre_1 Post := by
  intro l hfl _ _ p e ha hc hk s m args below hf hA hF happ hP
  obtain ⟨hcalls, hrest, hpre⟩ := hP
  obtain ⟨-, -, -, hnamed, -, -, -, hat⟩ := (Spec.applies_iff hf).mp happ
  obtain ⟨hg, hn⟩ := and_e (Cond.before_iff.mp (show (Jvm.Cond.and given_1 narrow_1).before args s = true from hpre))
  obtain ⟨hcnt, g0⟩ := and_e hg
  obtain ⟨w0, rfl⟩ : ∃ w0 : Value, args = #[w0] := by
    have hs : args.size = 1 := by simpa [Cond.value, given_1] using hcnt
    obtain ⟨L⟩ := args
    match L, hs with
    | [w0], _ => exact ⟨w0, rfl⟩
  have hw := fun d (hd : d ∈ tables_1) => atoms_spec (ws := Jvm.Cond.code x code maxLocals ret :: tables_1) hat d (List.mem_cons_of_mem _ hd)
  have hfit : Fit s := fun {y c} hc i hi => by
    obtain ⟨ha, rfl⟩ := Array.getElem?_eq_some_iff.mp hc
    have q := List.all_eq_true.mp ((Array.all_eq_true_iff_forall_mem.mp hF) _ (Array.getElem_mem ha)) i (List.mem_range.mpr hi)
    simpa [Array.getElem?_eq_getElem hi] using q
  obtain ⟨a, c, rfl, A, h260, hsl⟩ := own_script hfit hn
  have hR : pmRel s s.heap.size a (0, c.slots.size, [], fun r i => if r = 0 then atv c (Int32.ofNat i) else 0) s.heap := ⟨rfl, Nat.zero_le _, fun _ => ⟨A.lt, by show c.slots.size < 2147483648; omega, c, A, rfl, fun i hi => hsl i hi⟩, fun h => absurd (show 1 ≤ 0 from h) (by decide), fun r q hq => ⟨fun h => absurd (show r + 2 ≤ 0 from h) (by omega), fun _ _ _ => by simp⟩⟩
  have H : WM l s s.heap.size a 0 0 (pmEntry (t_ml 0) [.ref 0]) [] (0, c.slots.size, [], fun r i => if r = 0 then atv c (Int32.ofNat i) else 0) (fun v _ => v = some (.int 1)) := law_ok (fun cut n k pc Ls S σ Q h => pmClosed hw cut n k pc Ls S σ Q h) (fun k pc Ls Ls' S σ Q h1 h2 => pmForget h1 h2) c.slots.size h260 (fun i => atv c (Int32.ofNat i))
  have M := pmMet (l := l) hw (k := 0) tables_1 H hR pn_L (by intro v hv b e; subst e; simp at hv) rfl rfl rfl 40 2688 pmEnd0
  obtain ⟨n, o, h1, h2, h3, v, L, rfl, ⟨w, σ', rfl, rfl, -, N, -⟩, hq⟩ := M p e ha hc hk s m _ below hf ((Spec.applies_iff_loose hf).mp happ).1 ⟨rfl, State.Warmed39.refl s, rfl⟩ trivial
  refine ⟨n, _, h1, h2, h3, hpost _ _ _ _ _ _ ⟨Cond.after_iff.mpr rfl, Cond.after_iff.mpr (eq_i res_at (Term.int_eval (1)) rfl), trivial⟩ ⟨hq.1, hq.2.1, (hq.2.2.sift fun y hy => Or.inr (N y hy)).mono (by decide) (by decide)⟩⟩
theorem main_1_1 : Claimed_1_1 := comes_1 fun _ _ _ _ _ _ h hF => ⟨h.1, hF⟩
theorem main_1_2 : Claimed_1_2 := comes_1 fun _ _ _ _ _ _ h hF => ⟨h.2.1, hF⟩
end Jvm.Pilot.@@N@@
namespace Jvm.Pilot.@@N@@
open Jvm Jvm.ClassFile Sem Op Lib Jvm.Free Jvm.Stand Jvm.Pilot.@@N@@.Jvm.D
/-! MADE BY PROGRAM (witnessworld.py) out of the Statement's table words and the real class files: 11 classes; the members and pool entries that the words name. The judged class is class 1, her method 3. -/
namespace start1
open Jvm.ClassFile
def u (s : String) : CpInfo := .utf8 (stringToUtf16 s)
/-- a pool by its gaps: so many unusable entries, then the entry; so many at the end -/
def gap : Nat → List CpInfo → List CpInfo
  | 0, r => r
  | n + 1, r => .unusable :: gap n r
def poolList (es : List (Nat × CpInfo)) (last : Nat) : List CpInfo := es.foldr (fun e r => gap e.1 (e.2 :: r)) (gap last [])
def pool (es : List (Nat × CpInfo)) (last : Nat) : Array CpInfo := ⟨poolList es last⟩
def fileOf (pool : Array CpInfo) (this : Nat) (attrs : Array Attribute := #[]) (ms : Array MethodInfo := #[]) (fl : Nat := 33) (sup : Nat := 0) (ifs : Array Nat := #[]) (fds : Array FieldInfo := #[]) : ClassFile where
  minorVersion := 0
  majorVersion := 65
  constantPool := pool
  accessFlags := fl
  thisClass := this
  superClass := sup
  interfaces := ifs
  fields := fds
  methods := ms
  attributes := attrs
def plain (name : String) (sup : Option ClassId) : Class where
  name := name
  kind := .ordinary
  loader := none
  accessFlags := 33
  super := sup
  interfaces := #[]
  cf := none
  fields := #[]
  methods := #[]
  instanceTypes := #[]
  staticTypes := #[]
  resolved := #[]
  callSites := []
  init := .initialized
  statics := none
  mirror := none

def pool0 : Array CpInfo := pool [(5, u "<init>"), (0, u "()V"), (1, .class_ 10), (1, u "java/lang/Object")] 113

def k0c0 : Code := { maxStack := 0, maxLocals := 1, code := object_method_1_code, exceptionTable := #[], attributes := #[] }
def k0m0 : Method := { name := "<init>", desc := "()V", sig := { parameters := [], returnType := none }, accessFlags := 1, code := some k0c0 }
/-- java/lang/Object -/
def k0 : Class := { plain "java/lang/Object" none with
  accessFlags := 33
  interfaces := #[]
  cf := some (fileOf pool0 8 #[] #[{ accessFlags := 1, nameIndex := 5, descriptorIndex := 6, attributes := #[] }] 33 0 #[] #[])
  fields := #[]
  methods := #[k0m0]
  instanceTypes := #[]
  staticTypes := #[]
  resolved := Array.replicate 124 none
  statics := none }

def pool1 : Array CpInfo := pool [(2, .class_ 4), (1, u "java/lang/Object"), (0, u "<init>"), (0, u "()V"), (0, .methodref 8 9), (0, .class_ 10), (0, .nameAndType 11 12), (0, u "MinVersionSelectOwnLaw"), (0, u "cell"), (0, u "([II)I"), (0, .methodref 8 14), (0, .nameAndType 15 16), (0, u "pos"), (0, u "(II)I"), (0, .class_ 18), (0, u "MinVersionSelect"), (0, .methodref 17 20), (0, .nameAndType 5 21), (0, u "(II)V"), (0, .methodref 17 23), (0, .nameAndType 24 16), (0, u "listVersion"), (0, .methodref 17 26), (0, .nameAndType 27 28), (0, u "require"), (0, u "(IIII)I"), (0, .methodref 17 30), (0, .nameAndType 31 16), (0, u "requireMain"), (0, .methodref 17 33), (0, .nameAndType 34 35), (0, u "exclude"), (0, u "(III)I"), (0, .methodref 17 37), (0, .nameAndType 38 35), (0, u "replace"), (0, .methodref 17 40), (0, .nameAndType 41 16), (0, u "upgrade"), (0, .methodref 17 43), (0, .nameAndType 44 45), (0, u "buildStatus"), (0, u "()I"), (0, .methodref 17 47), (0, .nameAndType 48 49), (0, u "selected"), (0, u "(I)I"), (0, .methodref 17 51), (0, .nameAndType 52 16), (0, u "downgrade"), (0, .methodref 17 54), (0, .nameAndType 55 45), (0, u "buildSize"), (0, .methodref 17 57), (0, .nameAndType 58 45), (0, u "prune"), (0, .methodref 17 60), (0, .nameAndType 61 49), (0, u "mainRequirement"), (0, .methodref 17 63), (0, .nameAndType 64 16), (0, u "versionFlags"), (0, .methodref 17 66), (0, .nameAndType 67 16), (0, u "replacementOf"), (0, .methodref 17 69), (0, .nameAndType 70 35), (0, u "requirementOf"), (3, u "law"), (0, u "([I)Z")] 4

def k1m0 : Method := { name := "<init>", desc := "()V", sig := { parameters := [], returnType := none }, accessFlags := 1, code := none }
def k1c1 : Code := { maxStack := 2, maxLocals := 2, code := method_2_code, exceptionTable := #[], attributes := #[] }
def k1m1 : Method := { name := "cell", desc := "([II)I", sig := { parameters := [(.array .int), .int], returnType := some .int }, accessFlags := 10, code := some k1c1 }
def k1c2 : Code := { maxStack := 2, maxLocals := 3, code := method_3_code, exceptionTable := #[], attributes := #[] }
def k1m2 : Method := { name := "pos", desc := "(II)I", sig := { parameters := [.int, .int], returnType := some .int }, accessFlags := 10, code := some k1c2 }
def k1c3 : Code := { maxStack := 6, maxLocals := 23, code := code, exceptionTable := #[], attributes := #[] }
def k1m3 : Method := { name := "law", desc := "([I)Z", sig := { parameters := [(.array .int)], returnType := some .boolean }, accessFlags := 9, code := some k1c3 }
/-- MinVersionSelectOwnLaw -/
def k1 : Class := { plain "MinVersionSelectOwnLaw" (some 0) with
  accessFlags := 49
  interfaces := #[]
  cf := some (fileOf pool1 8 #[] #[{ accessFlags := 1, nameIndex := 5, descriptorIndex := 6, attributes := #[] }, { accessFlags := 10, nameIndex := 11, descriptorIndex := 12, attributes := #[] }, { accessFlags := 10, nameIndex := 15, descriptorIndex := 16, attributes := #[] }, { accessFlags := 9, nameIndex := 74, descriptorIndex := 75, attributes := #[] }] 49 2 #[] #[])
  fields := #[]
  methods := #[k1m0, k1m1, k1m2, k1m3]
  instanceTypes := #[]
  staticTypes := #[]
  resolved := Array.replicate 80 none
  statics := none }

def pool2 : Array CpInfo := pool [(1, .methodref 2 3), (0, .class_ 4), (0, .nameAndType 5 6), (0, u "java/lang/Object"), (0, u "<init>"), (0, u "()V"), (0, .fieldref 8 9), (0, .class_ 10), (0, .nameAndType 11 12), (0, u "MinVersionSelect"), (0, u "listedFlag"), (0, u "[Z"), (0, .fieldref 8 14), (0, .nameAndType 15 12), (0, u "excludedFlag"), (0, .fieldref 8 17), (0, .nameAndType 18 19), (0, u "replTo"), (0, u "[I"), (0, .fieldref 8 21), (0, .nameAndType 22 19), (0, u "reqTo"), (0, .fieldref 8 24), (0, .nameAndType 25 19), (0, u "mainTo"), (0, .fieldref 8 27), (0, .nameAndType 28 19), (0, u "rootOf"), (0, .fieldref 8 30), (0, .nameAndType 31 19), (0, u "selOf"), (0, .fieldref 8 33), (0, .nameAndType 34 12), (0, u "inBuild"), (0, .fieldref 8 36), (0, .nameAndType 37 19), (0, u "queueMod"), (0, .fieldref 8 39), (0, .nameAndType 40 19), (0, u "queueVer"), (0, .fieldref 8 42), (0, .nameAndType 43 19), (0, u "savedSel"), (0, .fieldref 8 45), (0, .nameAndType 46 12), (0, u "keepRoot"), (0, .fieldref 8 48), (0, .nameAndType 49 19), (0, u "nextMain"), (0, .methodref 8 51), (0, .nameAndType 52 53), (0, u "clampModules"), (0, u "(I)I"), (0, .fieldref 8 55), (0, .nameAndType 56 57), (0, u "modCount"), (0, u "I"), (0, .methodref 8 59), (0, .nameAndType 60 53), (0, u "clampVersions"), (0, .fieldref 8 62), (0, .nameAndType 63 57), (0, u "verCount"), (0, .methodref 8 65), (0, .nameAndType 66 67), (0, u "modInRange"), (0, u "(I)Z"), (0, .methodref 8 69), (0, .nameAndType 70 67), (0, u "verInRange"), (0, .methodref 8 72), (0, .nameAndType 73 74), (0, u "pairInRange"), (0, u "(II)Z"), (0, .methodref 8 76), (0, .nameAndType 77 74), (0, u "isListed"), (0, .methodref 8 79), (0, .nameAndType 80 74), (0, u "isExcluded"), (0, .methodref 8 82), (0, .nameAndType 83 67), (0, u "verOrNone"), (0, .methodref 8 85), (0, .nameAndType 86 87), (0, u "slot"), (0, u "(II)I"), (0, .methodref 8 89), (0, .nameAndType 90 91), (0, u "requireArgsOk"), (0, u "(IIII)Z"), (0, .methodref 8 93), (0, .nameAndType 94 95), (0, u "reqSlot"), (0, u "(III)I"), (0, .methodref 8 97), (0, .nameAndType 98 99), (0, u "buildCurrent"), (0, u "()Z"), (0, .methodref 8 101), (0, .nameAndType 102 103), (0, u "countSelected"), (0, u "()I"), (0, .methodref 8 105), (0, .nameAndType 106 107), (0, u "loadSingleRoot"), (0, u "(II)V"), (0, .methodref 8 109), (0, .nameAndType 110 99), (0, u "runBuild"), (0, .methodref 8 112), (0, .nameAndType 113 107), (0, u "computeDowngradedMain"), (0, .methodref 8 115), (0, .nameAndType 116 6), (0, u "copyNextMain"), (0, .methodref 8 118), (0, .nameAndType 119 120), (0, u "bestAllowed"), (0, u "(IIII)I"), (0, .methodref 8 122), (0, .nameAndType 123 91), (0, u "isAllowed"), (0, .methodref 8 125), (0, .nameAndType 126 74), (0, u "usableVersion"), (0, .methodref 8 128), (0, .nameAndType 129 6), (0, u "saveSelection"), (0, .methodref 8 131), (0, .nameAndType 132 133), (0, u "loadRootsWithout"), (0, u "(I)V"), (0, .methodref 8 135), (0, .nameAndType 136 99), (0, u "sameAsSaved"), (0, .methodref 8 138), (0, .nameAndType 139 103), (0, u "storePrunedMain"), (0, .methodref 8 141), (0, .nameAndType 142 6), (0, u "loadMainRoots"), (0, .methodref 8 144), (0, .nameAndType 145 6), (0, u "resetBuild"), (0, .methodref 8 147), (0, .nameAndType 148 107), (0, u "addNode"), (0, .fieldref 8 150), (0, .nameAndType 151 152), (0, u "buildFailed"), (0, u "Z"), (0, .methodref 8 154), (0, .nameAndType 155 6), (0, u "drainQueue"), (0, .methodref 8 157), (0, .nameAndType 158 6), (0, u "computeSelection"), (0, .fieldref 8 160), (0, .nameAndType 161 57), (0, u "queueHead"), (0, .fieldref 8 163), (0, .nameAndType 164 57), (0, u "queueTail"), (0, .methodref 8 166), (0, .nameAndType 167 107), (0, u "expandNode"), (0, .methodref 8 169), (0, .nameAndType 170 87), (0, u "adjust"), (0, u "OK"), (2, u "ERR_ARG"), (1, u "ERR_UNLISTED"), (1, u "ERR_DUP"), (1, u "ERR_BUILD"), (1, u "ERR_EXCLUDED"), (1, u "ERR_NOOP"), (1, u "ERR_BREAKS"), (1, u "FLAG_LISTED"), (1, u "FLAG_EXCLUDED"), (1, u "MIN_MODULES"), (0, u "MAX_MODULES"), (1, u "MIN_VERSIONS"), (0, u "MAX_VERSIONS"), (3, u "listVersion"), (0, u "require"), (0, u "requireMain"), (0, u "exclude"), (1, u "replace"), (0, u "buildStatus"), (0, u "selected"), (0, u "buildSize"), (1, u "mainRequirement"), (0, u "requirementOf"), (0, u "versionFlags"), (0, u "replacementOf"), (0, u "upgrade"), (0, u "downgrade"), (0, u "prune")] 2

def k2c0 : Code := { maxStack := 3, maxLocals := 3, code := prog_1_method_1_code, exceptionTable := #[], attributes := #[] }
def k2m0 : Method := { name := "<init>", desc := "(II)V", sig := { parameters := [.int, .int], returnType := none }, accessFlags := 1, code := some k2c0 }
def k2c1 : Code := { maxStack := 2, maxLocals := 2, code := prog_1_method_2_code, exceptionTable := #[], attributes := #[] }
def k2m1 : Method := { name := "clampModules", desc := "(I)I", sig := { parameters := [.int], returnType := some .int }, accessFlags := 2, code := some k2c1 }
def k2c2 : Code := { maxStack := 2, maxLocals := 2, code := prog_1_method_3_code, exceptionTable := #[], attributes := #[] }
def k2m2 : Method := { name := "clampVersions", desc := "(I)I", sig := { parameters := [.int], returnType := some .int }, accessFlags := 2, code := some k2c2 }
def k2c3 : Code := { maxStack := 2, maxLocals := 2, code := prog_1_method_4_code, exceptionTable := #[], attributes := #[] }
def k2m3 : Method := { name := "modInRange", desc := "(I)Z", sig := { parameters := [.int], returnType := some .boolean }, accessFlags := 2, code := some k2c3 }
def k2c4 : Code := { maxStack := 2, maxLocals := 2, code := prog_1_method_5_code, exceptionTable := #[], attributes := #[] }
def k2m4 : Method := { name := "verInRange", desc := "(I)Z", sig := { parameters := [.int], returnType := some .boolean }, accessFlags := 2, code := some k2c4 }
def k2c5 : Code := { maxStack := 2, maxLocals := 2, code := prog_1_method_6_code, exceptionTable := #[], attributes := #[] }
def k2m5 : Method := { name := "verOrNone", desc := "(I)Z", sig := { parameters := [.int], returnType := some .boolean }, accessFlags := 2, code := some k2c5 }
def k2c6 : Code := { maxStack := 2, maxLocals := 3, code := prog_1_method_7_code, exceptionTable := #[], attributes := #[] }
def k2m6 : Method := { name := "pairInRange", desc := "(II)Z", sig := { parameters := [.int, .int], returnType := some .boolean }, accessFlags := 2, code := some k2c6 }
def k2c7 : Code := { maxStack := 2, maxLocals := 3, code := prog_1_method_8_code, exceptionTable := #[], attributes := #[] }
def k2m7 : Method := { name := "slot", desc := "(II)I", sig := { parameters := [.int, .int], returnType := some .int }, accessFlags := 2, code := some k2c7 }
def k2c8 : Code := { maxStack := 2, maxLocals := 4, code := prog_1_method_9_code, exceptionTable := #[], attributes := #[] }
def k2m8 : Method := { name := "reqSlot", desc := "(III)I", sig := { parameters := [.int, .int, .int], returnType := some .int }, accessFlags := 2, code := some k2c8 }
def k2c9 : Code := { maxStack := 3, maxLocals := 3, code := prog_1_method_10_code, exceptionTable := #[], attributes := #[] }
def k2m9 : Method := { name := "isListed", desc := "(II)Z", sig := { parameters := [.int, .int], returnType := some .boolean }, accessFlags := 2, code := some k2c9 }
def k2c10 : Code := { maxStack := 3, maxLocals := 3, code := prog_1_method_11_code, exceptionTable := #[], attributes := #[] }
def k2m10 : Method := { name := "isExcluded", desc := "(II)Z", sig := { parameters := [.int, .int], returnType := some .boolean }, accessFlags := 2, code := some k2c10 }
def k2c11 : Code := { maxStack := 3, maxLocals := 3, code := prog_1_method_12_code, exceptionTable := #[], attributes := #[] }
def k2m11 : Method := { name := "usableVersion", desc := "(II)Z", sig := { parameters := [.int, .int], returnType := some .boolean }, accessFlags := 2, code := some k2c11 }
def k2c12 : Code := { maxStack := 3, maxLocals := 5, code := prog_1_method_13_code, exceptionTable := #[], attributes := #[] }
def k2m12 : Method := { name := "requireArgsOk", desc := "(IIII)Z", sig := { parameters := [.int, .int, .int, .int], returnType := some .boolean }, accessFlags := 2, code := some k2c12 }
def k2c13 : Code := { maxStack := 3, maxLocals := 4, code := prog_1_method_14_code, exceptionTable := #[], attributes := #[] }
def k2m13 : Method := { name := "listVersion", desc := "(II)I", sig := { parameters := [.int, .int], returnType := some .int }, accessFlags := 1, code := some k2c13 }
def k2c14 : Code := { maxStack := 5, maxLocals := 5, code := prog_1_method_15_code, exceptionTable := #[], attributes := #[] }
def k2m14 : Method := { name := "require", desc := "(IIII)I", sig := { parameters := [.int, .int, .int, .int], returnType := some .int }, accessFlags := 1, code := some k2c14 }
def k2c15 : Code := { maxStack := 3, maxLocals := 3, code := prog_1_method_16_code, exceptionTable := #[], attributes := #[] }
def k2m15 : Method := { name := "requireMain", desc := "(II)I", sig := { parameters := [.int, .int], returnType := some .int }, accessFlags := 1, code := some k2c15 }
def k2c16 : Code := { maxStack := 3, maxLocals := 5, code := prog_1_method_17_code, exceptionTable := #[], attributes := #[] }
def k2m16 : Method := { name := "exclude", desc := "(III)I", sig := { parameters := [.int, .int, .int], returnType := some .int }, accessFlags := 1, code := some k2c16 }
def k2c17 : Code := { maxStack := 3, maxLocals := 5, code := prog_1_method_18_code, exceptionTable := #[], attributes := #[] }
def k2m17 : Method := { name := "replace", desc := "(III)I", sig := { parameters := [.int, .int, .int], returnType := some .int }, accessFlags := 1, code := some k2c17 }
def k2c18 : Code := { maxStack := 1, maxLocals := 1, code := prog_1_method_19_code, exceptionTable := #[], attributes := #[] }
def k2m18 : Method := { name := "buildStatus", desc := "()I", sig := { parameters := [], returnType := some .int }, accessFlags := 1, code := some k2c18 }
def k2c19 : Code := { maxStack := 2, maxLocals := 2, code := prog_1_method_20_code, exceptionTable := #[], attributes := #[] }
def k2m19 : Method := { name := "selected", desc := "(I)I", sig := { parameters := [.int], returnType := some .int }, accessFlags := 1, code := some k2c19 }
def k2c20 : Code := { maxStack := 1, maxLocals := 1, code := prog_1_method_21_code, exceptionTable := #[], attributes := #[] }
def k2m20 : Method := { name := "buildSize", desc := "()I", sig := { parameters := [], returnType := some .int }, accessFlags := 1, code := some k2c20 }
def k2c21 : Code := { maxStack := 2, maxLocals := 2, code := prog_1_method_23_code, exceptionTable := #[], attributes := #[] }
def k2m21 : Method := { name := "mainRequirement", desc := "(I)I", sig := { parameters := [.int], returnType := some .int }, accessFlags := 1, code := some k2c21 }
def k2c22 : Code := { maxStack := 5, maxLocals := 4, code := prog_1_method_24_code, exceptionTable := #[], attributes := #[] }
def k2m22 : Method := { name := "requirementOf", desc := "(III)I", sig := { parameters := [.int, .int, .int], returnType := some .int }, accessFlags := 1, code := some k2c22 }
def k2c23 : Code := { maxStack := 3, maxLocals := 5, code := prog_1_method_25_code, exceptionTable := #[], attributes := #[] }
def k2m23 : Method := { name := "versionFlags", desc := "(II)I", sig := { parameters := [.int, .int], returnType := some .int }, accessFlags := 1, code := some k2c23 }
def k2c24 : Code := { maxStack := 4, maxLocals := 3, code := prog_1_method_26_code, exceptionTable := #[], attributes := #[] }
def k2m24 : Method := { name := "replacementOf", desc := "(II)I", sig := { parameters := [.int, .int], returnType := some .int }, accessFlags := 1, code := some k2c24 }
def k2c25 : Code := { maxStack := 3, maxLocals := 4, code := prog_1_method_27_code, exceptionTable := #[], attributes := #[] }
def k2m25 : Method := { name := "upgrade", desc := "(II)I", sig := { parameters := [.int, .int], returnType := some .int }, accessFlags := 1, code := some k2c25 }
def k2c26 : Code := { maxStack := 3, maxLocals := 3, code := prog_1_method_28_code, exceptionTable := #[], attributes := #[] }
def k2m26 : Method := { name := "downgrade", desc := "(II)I", sig := { parameters := [.int, .int], returnType := some .int }, accessFlags := 1, code := some k2c26 }
def k2c27 : Code := { maxStack := 7, maxLocals := 5, code := prog_1_method_29_code, exceptionTable := #[], attributes := #[] }
def k2m27 : Method := { name := "computeDowngradedMain", desc := "(II)V", sig := { parameters := [.int, .int], returnType := none }, accessFlags := 2, code := some k2c27 }
def k2c28 : Code := { maxStack := 5, maxLocals := 7, code := prog_1_method_30_code, exceptionTable := #[], attributes := #[] }
def k2m28 : Method := { name := "bestAllowed", desc := "(IIII)I", sig := { parameters := [.int, .int, .int, .int], returnType := some .int }, accessFlags := 2, code := some k2c28 }
def k2c29 : Code := { maxStack := 3, maxLocals := 5, code := prog_1_method_31_code, exceptionTable := #[], attributes := #[] }
def k2m29 : Method := { name := "isAllowed", desc := "(IIII)Z", sig := { parameters := [.int, .int, .int, .int], returnType := some .boolean }, accessFlags := 2, code := some k2c29 }
def k2c30 : Code := { maxStack := 4, maxLocals := 2, code := prog_1_method_32_code, exceptionTable := #[], attributes := #[] }
def k2m30 : Method := { name := "copyNextMain", desc := "()V", sig := { parameters := [], returnType := none }, accessFlags := 2, code := some k2c30 }
def k2c31 : Code := { maxStack := 3, maxLocals := 2, code := prog_1_method_33_code, exceptionTable := #[], attributes := #[] }
def k2m31 : Method := { name := "prune", desc := "()I", sig := { parameters := [], returnType := some .int }, accessFlags := 1, code := some k2c31 }
def k2c32 : Code := { maxStack := 4, maxLocals := 2, code := prog_1_method_34_code, exceptionTable := #[], attributes := #[] }
def k2m32 : Method := { name := "saveSelection", desc := "()V", sig := { parameters := [], returnType := none }, accessFlags := 2, code := some k2c32 }
def k2c33 : Code := { maxStack := 4, maxLocals := 3, code := prog_1_method_35_code, exceptionTable := #[], attributes := #[] }
def k2m33 : Method := { name := "loadRootsWithout", desc := "(I)V", sig := { parameters := [.int], returnType := none }, accessFlags := 2, code := some k2c33 }
def k2c34 : Code := { maxStack := 3, maxLocals := 2, code := prog_1_method_36_code, exceptionTable := #[], attributes := #[] }
def k2m34 : Method := { name := "sameAsSaved", desc := "()Z", sig := { parameters := [], returnType := some .boolean }, accessFlags := 2, code := some k2c34 }
def k2c35 : Code := { maxStack := 4, maxLocals := 3, code := prog_1_method_37_code, exceptionTable := #[], attributes := #[] }
def k2m35 : Method := { name := "storePrunedMain", desc := "()I", sig := { parameters := [], returnType := some .int }, accessFlags := 2, code := some k2c35 }
def k2c36 : Code := { maxStack := 4, maxLocals := 2, code := prog_1_method_38_code, exceptionTable := #[], attributes := #[] }
def k2m36 : Method := { name := "loadMainRoots", desc := "()V", sig := { parameters := [], returnType := none }, accessFlags := 2, code := some k2c36 }
def k2c37 : Code := { maxStack := 3, maxLocals := 4, code := prog_1_method_39_code, exceptionTable := #[], attributes := #[] }
def k2m37 : Method := { name := "loadSingleRoot", desc := "(II)V", sig := { parameters := [.int, .int], returnType := none }, accessFlags := 2, code := some k2c37 }
def k2c38 : Code := { maxStack := 1, maxLocals := 1, code := prog_1_method_40_code, exceptionTable := #[], attributes := #[] }
def k2m38 : Method := { name := "buildCurrent", desc := "()Z", sig := { parameters := [], returnType := some .boolean }, accessFlags := 2, code := some k2c38 }
def k2c39 : Code := { maxStack := 2, maxLocals := 3, code := prog_1_method_41_code, exceptionTable := #[], attributes := #[] }
def k2m39 : Method := { name := "countSelected", desc := "()I", sig := { parameters := [], returnType := some .int }, accessFlags := 2, code := some k2c39 }
def k2c40 : Code := { maxStack := 4, maxLocals := 2, code := prog_1_method_42_code, exceptionTable := #[], attributes := #[] }
def k2m40 : Method := { name := "runBuild", desc := "()Z", sig := { parameters := [], returnType := some .boolean }, accessFlags := 2, code := some k2c40 }
def k2c41 : Code := { maxStack := 3, maxLocals := 2, code := prog_1_method_43_code, exceptionTable := #[], attributes := #[] }
def k2m41 : Method := { name := "resetBuild", desc := "()V", sig := { parameters := [], returnType := none }, accessFlags := 2, code := some k2c41 }
def k2c42 : Code := { maxStack := 3, maxLocals := 4, code := prog_1_method_44_code, exceptionTable := #[], attributes := #[] }
def k2m42 : Method := { name := "drainQueue", desc := "()V", sig := { parameters := [], returnType := none }, accessFlags := 2, code := some k2c42 }
def k2c43 : Code := { maxStack := 5, maxLocals := 6, code := prog_1_method_45_code, exceptionTable := #[], attributes := #[] }
def k2m43 : Method := { name := "expandNode", desc := "(II)V", sig := { parameters := [.int, .int], returnType := none }, accessFlags := 2, code := some k2c43 }
def k2c44 : Code := { maxStack := 3, maxLocals := 5, code := prog_1_method_46_code, exceptionTable := #[], attributes := #[] }
def k2m44 : Method := { name := "addNode", desc := "(II)V", sig := { parameters := [.int, .int], returnType := none }, accessFlags := 2, code := some k2c44 }
def k2c45 : Code := { maxStack := 4, maxLocals := 5, code := prog_1_method_47_code, exceptionTable := #[], attributes := #[] }
def k2m45 : Method := { name := "adjust", desc := "(II)I", sig := { parameters := [.int, .int], returnType := some .int }, accessFlags := 2, code := some k2c45 }
def k2c46 : Code := { maxStack := 4, maxLocals := 4, code := prog_1_method_48_code, exceptionTable := #[], attributes := #[] }
def k2m46 : Method := { name := "computeSelection", desc := "()V", sig := { parameters := [], returnType := none }, accessFlags := 2, code := some k2c46 }
/-- MinVersionSelect -/
def k2 : Class := { plain "MinVersionSelect" (some 0) with
  accessFlags := 49
  interfaces := #[]
  cf := some (fileOf pool2 8 #[] #[{ accessFlags := 1, nameIndex := 5, descriptorIndex := 107, attributes := #[] }, { accessFlags := 2, nameIndex := 52, descriptorIndex := 53, attributes := #[] }, { accessFlags := 2, nameIndex := 60, descriptorIndex := 53, attributes := #[] }, { accessFlags := 2, nameIndex := 66, descriptorIndex := 67, attributes := #[] }, { accessFlags := 2, nameIndex := 70, descriptorIndex := 67, attributes := #[] }, { accessFlags := 2, nameIndex := 83, descriptorIndex := 67, attributes := #[] }, { accessFlags := 2, nameIndex := 73, descriptorIndex := 74, attributes := #[] }, { accessFlags := 2, nameIndex := 86, descriptorIndex := 87, attributes := #[] }, { accessFlags := 2, nameIndex := 94, descriptorIndex := 95, attributes := #[] }, { accessFlags := 2, nameIndex := 77, descriptorIndex := 74, attributes := #[] }, { accessFlags := 2, nameIndex := 80, descriptorIndex := 74, attributes := #[] }, { accessFlags := 2, nameIndex := 126, descriptorIndex := 74, attributes := #[] }, { accessFlags := 2, nameIndex := 90, descriptorIndex := 91, attributes := #[] }, { accessFlags := 1, nameIndex := 200, descriptorIndex := 87, attributes := #[] }, { accessFlags := 1, nameIndex := 201, descriptorIndex := 120, attributes := #[] }, { accessFlags := 1, nameIndex := 202, descriptorIndex := 87, attributes := #[] }, { accessFlags := 1, nameIndex := 203, descriptorIndex := 95, attributes := #[] }, { accessFlags := 1, nameIndex := 205, descriptorIndex := 95, attributes := #[] }, { accessFlags := 1, nameIndex := 206, descriptorIndex := 103, attributes := #[] }, { accessFlags := 1, nameIndex := 207, descriptorIndex := 53, attributes := #[] }, { accessFlags := 1, nameIndex := 208, descriptorIndex := 103, attributes := #[] }, { accessFlags := 1, nameIndex := 210, descriptorIndex := 53, attributes := #[] }, { accessFlags := 1, nameIndex := 211, descriptorIndex := 95, attributes := #[] }, { accessFlags := 1, nameIndex := 212, descriptorIndex := 87, attributes := #[] }, { accessFlags := 1, nameIndex := 213, descriptorIndex := 87, attributes := #[] }, { accessFlags := 1, nameIndex := 214, descriptorIndex := 87, attributes := #[] }, { accessFlags := 1, nameIndex := 215, descriptorIndex := 87, attributes := #[] }, { accessFlags := 2, nameIndex := 113, descriptorIndex := 107, attributes := #[] }, { accessFlags := 2, nameIndex := 119, descriptorIndex := 120, attributes := #[] }, { accessFlags := 2, nameIndex := 123, descriptorIndex := 91, attributes := #[] }, { accessFlags := 2, nameIndex := 116, descriptorIndex := 6, attributes := #[] }, { accessFlags := 1, nameIndex := 216, descriptorIndex := 103, attributes := #[] }, { accessFlags := 2, nameIndex := 129, descriptorIndex := 6, attributes := #[] }, { accessFlags := 2, nameIndex := 132, descriptorIndex := 133, attributes := #[] }, { accessFlags := 2, nameIndex := 136, descriptorIndex := 99, attributes := #[] }, { accessFlags := 2, nameIndex := 139, descriptorIndex := 103, attributes := #[] }, { accessFlags := 2, nameIndex := 142, descriptorIndex := 6, attributes := #[] }, { accessFlags := 2, nameIndex := 106, descriptorIndex := 107, attributes := #[] }, { accessFlags := 2, nameIndex := 98, descriptorIndex := 99, attributes := #[] }, { accessFlags := 2, nameIndex := 102, descriptorIndex := 103, attributes := #[] }, { accessFlags := 2, nameIndex := 110, descriptorIndex := 99, attributes := #[] }, { accessFlags := 2, nameIndex := 145, descriptorIndex := 6, attributes := #[] }, { accessFlags := 2, nameIndex := 155, descriptorIndex := 6, attributes := #[] }, { accessFlags := 2, nameIndex := 167, descriptorIndex := 107, attributes := #[] }, { accessFlags := 2, nameIndex := 148, descriptorIndex := 107, attributes := #[] }, { accessFlags := 2, nameIndex := 170, descriptorIndex := 87, attributes := #[] }, { accessFlags := 2, nameIndex := 158, descriptorIndex := 6, attributes := #[] }] 49 2 #[] #[{ accessFlags := 25, nameIndex := 171, descriptorIndex := 57, attributes := #[] }, { accessFlags := 25, nameIndex := 174, descriptorIndex := 57, attributes := #[] }, { accessFlags := 25, nameIndex := 176, descriptorIndex := 57, attributes := #[] }, { accessFlags := 25, nameIndex := 178, descriptorIndex := 57, attributes := #[] }, { accessFlags := 25, nameIndex := 180, descriptorIndex := 57, attributes := #[] }, { accessFlags := 25, nameIndex := 182, descriptorIndex := 57, attributes := #[] }, { accessFlags := 25, nameIndex := 184, descriptorIndex := 57, attributes := #[] }, { accessFlags := 25, nameIndex := 186, descriptorIndex := 57, attributes := #[] }, { accessFlags := 25, nameIndex := 188, descriptorIndex := 57, attributes := #[] }, { accessFlags := 25, nameIndex := 190, descriptorIndex := 57, attributes := #[] }, { accessFlags := 25, nameIndex := 192, descriptorIndex := 57, attributes := #[] }, { accessFlags := 25, nameIndex := 193, descriptorIndex := 57, attributes := #[] }, { accessFlags := 25, nameIndex := 195, descriptorIndex := 57, attributes := #[] }, { accessFlags := 25, nameIndex := 196, descriptorIndex := 57, attributes := #[] }, { accessFlags := 2, nameIndex := 56, descriptorIndex := 57, attributes := #[] }, { accessFlags := 2, nameIndex := 63, descriptorIndex := 57, attributes := #[] }, { accessFlags := 2, nameIndex := 11, descriptorIndex := 12, attributes := #[] }, { accessFlags := 2, nameIndex := 15, descriptorIndex := 12, attributes := #[] }, { accessFlags := 2, nameIndex := 18, descriptorIndex := 19, attributes := #[] }, { accessFlags := 2, nameIndex := 22, descriptorIndex := 19, attributes := #[] }, { accessFlags := 2, nameIndex := 25, descriptorIndex := 19, attributes := #[] }, { accessFlags := 2, nameIndex := 28, descriptorIndex := 19, attributes := #[] }, { accessFlags := 2, nameIndex := 31, descriptorIndex := 19, attributes := #[] }, { accessFlags := 2, nameIndex := 34, descriptorIndex := 12, attributes := #[] }, { accessFlags := 2, nameIndex := 37, descriptorIndex := 19, attributes := #[] }, { accessFlags := 2, nameIndex := 40, descriptorIndex := 19, attributes := #[] }, { accessFlags := 2, nameIndex := 161, descriptorIndex := 57, attributes := #[] }, { accessFlags := 2, nameIndex := 164, descriptorIndex := 57, attributes := #[] }, { accessFlags := 2, nameIndex := 151, descriptorIndex := 152, attributes := #[] }, { accessFlags := 2, nameIndex := 43, descriptorIndex := 19, attributes := #[] }, { accessFlags := 2, nameIndex := 46, descriptorIndex := 12, attributes := #[] }, { accessFlags := 2, nameIndex := 49, descriptorIndex := 19, attributes := #[] }])
  fields := #[{ name := "OK", type := .int, accessFlags := 25, slot := 0, constantValue := 0 }, { name := "ERR_ARG", type := .int, accessFlags := 25, slot := 1, constantValue := 0 }, { name := "ERR_UNLISTED", type := .int, accessFlags := 25, slot := 2, constantValue := 0 }, { name := "ERR_DUP", type := .int, accessFlags := 25, slot := 3, constantValue := 0 }, { name := "ERR_BUILD", type := .int, accessFlags := 25, slot := 4, constantValue := 0 }, { name := "ERR_EXCLUDED", type := .int, accessFlags := 25, slot := 5, constantValue := 0 }, { name := "ERR_NOOP", type := .int, accessFlags := 25, slot := 6, constantValue := 0 }, { name := "ERR_BREAKS", type := .int, accessFlags := 25, slot := 7, constantValue := 0 }, { name := "FLAG_LISTED", type := .int, accessFlags := 25, slot := 8, constantValue := 0 }, { name := "FLAG_EXCLUDED", type := .int, accessFlags := 25, slot := 9, constantValue := 0 }, { name := "MIN_MODULES", type := .int, accessFlags := 25, slot := 10, constantValue := 0 }, { name := "MAX_MODULES", type := .int, accessFlags := 25, slot := 11, constantValue := 0 }, { name := "MIN_VERSIONS", type := .int, accessFlags := 25, slot := 12, constantValue := 0 }, { name := "MAX_VERSIONS", type := .int, accessFlags := 25, slot := 13, constantValue := 0 }, { name := "modCount", type := .int, accessFlags := 2, slot := 0, constantValue := 0 }, { name := "verCount", type := .int, accessFlags := 2, slot := 1, constantValue := 0 }, { name := "listedFlag", type := (.array .boolean), accessFlags := 2, slot := 2, constantValue := 0 }, { name := "excludedFlag", type := (.array .boolean), accessFlags := 2, slot := 3, constantValue := 0 }, { name := "replTo", type := (.array .int), accessFlags := 2, slot := 4, constantValue := 0 }, { name := "reqTo", type := (.array .int), accessFlags := 2, slot := 5, constantValue := 0 }, { name := "mainTo", type := (.array .int), accessFlags := 2, slot := 6, constantValue := 0 }, { name := "rootOf", type := (.array .int), accessFlags := 2, slot := 7, constantValue := 0 }, { name := "selOf", type := (.array .int), accessFlags := 2, slot := 8, constantValue := 0 }, { name := "inBuild", type := (.array .boolean), accessFlags := 2, slot := 9, constantValue := 0 }, { name := "queueMod", type := (.array .int), accessFlags := 2, slot := 10, constantValue := 0 }, { name := "queueVer", type := (.array .int), accessFlags := 2, slot := 11, constantValue := 0 }, { name := "queueHead", type := .int, accessFlags := 2, slot := 12, constantValue := 0 }, { name := "queueTail", type := .int, accessFlags := 2, slot := 13, constantValue := 0 }, { name := "buildFailed", type := .boolean, accessFlags := 2, slot := 14, constantValue := 0 }, { name := "savedSel", type := (.array .int), accessFlags := 2, slot := 15, constantValue := 0 }, { name := "keepRoot", type := (.array .boolean), accessFlags := 2, slot := 16, constantValue := 0 }, { name := "nextMain", type := (.array .int), accessFlags := 2, slot := 17, constantValue := 0 }]
  methods := #[k2m0, k2m1, k2m2, k2m3, k2m4, k2m5, k2m6, k2m7, k2m8, k2m9, k2m10, k2m11, k2m12, k2m13, k2m14, k2m15, k2m16, k2m17, k2m18, k2m19, k2m20, k2m21, k2m22, k2m23, k2m24, k2m25, k2m26, k2m27, k2m28, k2m29, k2m30, k2m31, k2m32, k2m33, k2m34, k2m35, k2m36, k2m37, k2m38, k2m39, k2m40, k2m41, k2m42, k2m43, k2m44, k2m45, k2m46]
  instanceTypes := #[.int, .int, (.array .boolean), (.array .boolean), (.array .int), (.array .int), (.array .int), (.array .int), (.array .int), (.array .boolean), (.array .int), (.array .int), .int, .int, .boolean, (.array .int), (.array .boolean), (.array .int)]
  staticTypes := #[.int, .int, .int, .int, .int, .int, .int, .int, .int, .int, .int, .int, .int, .int]
  resolved := Array.replicate 219 none
  statics := none }

def pool3 : Array CpInfo := pool [(1, u "java/lang/Cloneable"), (0, .class_ 1), (0, u "java/lang/Object"), (0, .class_ 3)] 3

/-- java/lang/Cloneable -/
def k3 : Class := { plain "java/lang/Cloneable" (some 0) with
  accessFlags := 1537
  interfaces := #[]
  cf := some (fileOf pool3 2 #[] #[] 1537 4 #[] #[])
  fields := #[]
  methods := #[]
  instanceTypes := #[]
  staticTypes := #[]
  resolved := Array.replicate 8 none
  statics := none }

def pool4 : Array CpInfo := pool [(1, u "java/io/Serializable"), (0, .class_ 1), (0, u "java/lang/Object"), (0, .class_ 3)] 3

/-- java/io/Serializable -/
def k4 : Class := { plain "java/io/Serializable" (some 0) with
  accessFlags := 1537
  interfaces := #[]
  cf := some (fileOf pool4 2 #[] #[] 1537 4 #[] #[])
  fields := #[]
  methods := #[]
  instanceTypes := #[]
  staticTypes := #[]
  resolved := Array.replicate 8 none
  statics := none }

/-- the primitive boolean -/
def k5 : Class := { plain "boolean" none with kind := .primitive 'Z', accessFlags := 0x411 }
/-- [Z -/
def k6 : Class := { plain "[Z" (some 0) with kind := .array 5 .boolean, interfaces := #[3, 4], accessFlags := 1041 }

/-- the primitive byte -/
def k7 : Class := { plain "byte" none with kind := .primitive 'B', accessFlags := 0x411 }
/-- [B -/
def k8 : Class := { plain "[B" (some 0) with kind := .array 7 .byte, interfaces := #[3, 4], accessFlags := 1041 }

/-- the primitive int -/
def k9 : Class := { plain "int" none with kind := .primitive 'I', accessFlags := 0x411 }
/-- [I -/
def k10 : Class := { plain "[I" (some 0) with kind := .array 9 .int, interfaces := #[3, 4], accessFlags := 1041 }

def heap : Heap := #[{ cls := 10, slots := #[.int 0, .int 3], vm := .none }]
def classes : Array Class := #[k0, k1, k2, k3, k4, k5, k6, k7, k8, k9, k10]
def interned : List (Array UInt16 × Addr) := []
def slotsUsed : Nat := 2
def theMethod : MethodId := ⟨1, 3⟩
def args0 : Array Value := #[.ref 0]
def aboutOver (below : List Frame) : State where
  vm := { classes := classes, interned := interned.toArray }
  heap := heap
  slotsUsed := slotsUsed
  threads := #[{ frames := .invoking theMethod args0 :: below }]
def below0 : List Frame := [.native { method := ⟨0, 0⟩, args := #[] }]
def about1 : State := aboutOver below0
def p0 : Program := .bare "" "" ""
def e0 : Env := launch0.env 0 0 0
theorem w_frames : about1.frames = Frame.invoking theMethod args0 :: below0 := rfl
set_option maxRecDepth 65536 in
theorem w_args : argsFit about1.vm theMethod args0 = true := by decide +kernel
set_option maxRecDepth 65536 in
theorem w_heap : heapFits about1 = true := by decide +kernel
set_option maxRecDepth 65536 in
theorem w_runnable : about1.curStatus? = some .runnable := by decide +kernel
set_option maxRecDepth 65536 in
theorem w_alone : about1.alone = true := by decide +kernel
set_option maxRecDepth 65536 in
theorem w_named : about1.methodNamed? x = some theMethod := by decide +kernel
set_option maxRecDepth 65536 in
theorem w_hears : about1.hears theMethod below0 = true := by decide +kernel
set_option maxRecDepth 65536 in
theorem w_ripe : about1.ripe theMethod args0 below0 = true := by decide +kernel
theorem w_running : about1.status = .running := rfl
set_option maxRecDepth 65536 in
theorem w_room : about1.hasRoom e0.platform room_1 = true :=
  launch0.hasRoom_least _ room_1 (by decide +kernel) (by decide +kernel) (by decide +kernel) (by decide +kernel) (by decide +kernel) (by decide +kernel)
theorem allAtoms_all (ts : List Jvm.Cond) (a : Array Jvm.Value) (st : Jvm.State) : (allAtoms ts).before a st = ts.all (fun c => c.before a st) := by
  induction ts with
  | nil => rfl
  | cons c t ih =>
    show (Jvm.Cond.and c (allAtoms t)).before a st = _
    rw [Jvm.Cond.before_and, ih, List.all_cons]
def words1 : List Jvm.Cond := Jvm.Cond.code x code maxLocals ret :: tables_1
/-- a 'code' word, met by the world's own term for the bytes: nothing is compared byte by byte -/
theorem code_word {y : MethodName} {bytes : ByteArray} {mx : Nat} {rt : Option FieldType} {a : Array Value} {s : State} {m : MethodId} {meth : Method} {c : Code} (h1 : s.methodNamed? y = some m) (h2 : s.vm.method? m = some meth) (h3 : meth.code = some c) (h4 : c.code = bytes)
    (h5 : (c.maxLocals == mx && c.exceptionTable.isEmpty && decide (c.maxStack ≤ mostOperands) && decide (meth.sig.returnType = rt) && !meth.locks && decide (parseMethodDescriptor y.desc = some meth.sig)) = true) : (Jvm.Cond.code y bytes mx rt).before a s = true := by
  simp only [Bool.and_eq_true, beq_iff_eq, Bool.not_eq_true', decide_eq_true_eq] at h5
  obtain ⟨⟨⟨⟨⟨g1, g2⟩, g3⟩, g4⟩, g5⟩, g6⟩ := h5
  simp [Cond.before, Cond.holds, Cond.value, h1, h2, h3, h4, g1, g2, g3, g4, g5, g6]
def isCode : Jvm.Cond → Bool
  | .code _ _ _ _ => true
  | _ => false
theorem all_split {L : List Jvm.Cond} {P : Jvm.Cond → Bool} (h1 : L.all (fun c => isCode c || P c) = true) (h2 : ∀ c ∈ L.filter isCode, P c = true) : L.all P = true := by
  refine List.all_eq_true.mpr fun c hc => ?_
  have h := List.all_eq_true.mp h1 c hc
  rcases Bool.eq_false_or_eq_true (isCode c) with hi | hi
  · exact h2 c (List.mem_filter.mpr ⟨hc, hi⟩)
  · simpa [hi] using h
set_option maxRecDepth 65536 in
theorem w_c0 : (Jvm.Cond.code x code maxLocals ret).before args0 about1 = true := code_word (m := ⟨1, 3⟩) (meth := k1m3) (c := k1c3) (by decide +kernel) rfl rfl rfl (by decide +kernel)
set_option maxRecDepth 65536 in
theorem w_c1 : (Jvm.Cond.code ({ cls := "MinVersionSelectOwnLaw", name := "cell", desc := "([II)I" } : Jvm.MethodName) method_2_code (2 : Nat) (Option.some Jvm.ClassFile.FieldType.int)).before args0 about1 = true := code_word (m := ⟨1, 1⟩) (meth := k1m1) (c := k1c1) (by decide +kernel) rfl rfl rfl (by decide +kernel)
set_option maxRecDepth 65536 in
theorem w_c2 : (Jvm.Cond.code ({ cls := "MinVersionSelectOwnLaw", name := "pos", desc := "(II)I" } : Jvm.MethodName) method_3_code (3 : Nat) (Option.some Jvm.ClassFile.FieldType.int)).before args0 about1 = true := code_word (m := ⟨1, 2⟩) (meth := k1m2) (c := k1c2) (by decide +kernel) rfl rfl rfl (by decide +kernel)
set_option maxRecDepth 65536 in
theorem w_c3 : (Jvm.Cond.code ({ cls := "MinVersionSelect", name := "<init>", desc := "(II)V" } : Jvm.MethodName) prog_1_method_1_code (3 : Nat) (Option.none : Option Jvm.ClassFile.FieldType)).before args0 about1 = true := code_word (m := ⟨2, 0⟩) (meth := k2m0) (c := k2c0) (by decide +kernel) rfl rfl rfl (by decide +kernel)
set_option maxRecDepth 65536 in
theorem w_c4 : (Jvm.Cond.code ({ cls := "java/lang/Object", name := "<init>", desc := "()V" } : Jvm.MethodName) object_method_1_code (1 : Nat) (Option.none : Option Jvm.ClassFile.FieldType)).before args0 about1 = true := code_word (m := ⟨0, 0⟩) (meth := k0m0) (c := k0c0) (by decide +kernel) rfl rfl rfl (by decide +kernel)
set_option maxRecDepth 65536 in
theorem w_c5 : (Jvm.Cond.code ({ cls := "MinVersionSelect", name := "clampModules", desc := "(I)I" } : Jvm.MethodName) prog_1_method_2_code (2 : Nat) (Option.some Jvm.ClassFile.FieldType.int)).before args0 about1 = true := code_word (m := ⟨2, 1⟩) (meth := k2m1) (c := k2c1) (by decide +kernel) rfl rfl rfl (by decide +kernel)
set_option maxRecDepth 65536 in
theorem w_c6 : (Jvm.Cond.code ({ cls := "MinVersionSelect", name := "clampVersions", desc := "(I)I" } : Jvm.MethodName) prog_1_method_3_code (2 : Nat) (Option.some Jvm.ClassFile.FieldType.int)).before args0 about1 = true := code_word (m := ⟨2, 2⟩) (meth := k2m2) (c := k2c2) (by decide +kernel) rfl rfl rfl (by decide +kernel)
set_option maxRecDepth 65536 in
theorem w_c7 : (Jvm.Cond.code ({ cls := "MinVersionSelect", name := "listVersion", desc := "(II)I" } : Jvm.MethodName) prog_1_method_14_code (4 : Nat) (Option.some Jvm.ClassFile.FieldType.int)).before args0 about1 = true := code_word (m := ⟨2, 13⟩) (meth := k2m13) (c := k2c13) (by decide +kernel) rfl rfl rfl (by decide +kernel)
set_option maxRecDepth 65536 in
theorem w_c8 : (Jvm.Cond.code ({ cls := "MinVersionSelect", name := "pairInRange", desc := "(II)Z" } : Jvm.MethodName) prog_1_method_7_code (3 : Nat) (Option.some Jvm.ClassFile.FieldType.boolean)).before args0 about1 = true := code_word (m := ⟨2, 6⟩) (meth := k2m6) (c := k2c6) (by decide +kernel) rfl rfl rfl (by decide +kernel)
set_option maxRecDepth 65536 in
theorem w_c9 : (Jvm.Cond.code ({ cls := "MinVersionSelect", name := "modInRange", desc := "(I)Z" } : Jvm.MethodName) prog_1_method_4_code (2 : Nat) (Option.some Jvm.ClassFile.FieldType.boolean)).before args0 about1 = true := code_word (m := ⟨2, 3⟩) (meth := k2m3) (c := k2c3) (by decide +kernel) rfl rfl rfl (by decide +kernel)
set_option maxRecDepth 65536 in
theorem w_c10 : (Jvm.Cond.code ({ cls := "MinVersionSelect", name := "verInRange", desc := "(I)Z" } : Jvm.MethodName) prog_1_method_5_code (2 : Nat) (Option.some Jvm.ClassFile.FieldType.boolean)).before args0 about1 = true := code_word (m := ⟨2, 4⟩) (meth := k2m4) (c := k2c4) (by decide +kernel) rfl rfl rfl (by decide +kernel)
set_option maxRecDepth 65536 in
theorem w_c11 : (Jvm.Cond.code ({ cls := "MinVersionSelect", name := "slot", desc := "(II)I" } : Jvm.MethodName) prog_1_method_8_code (3 : Nat) (Option.some Jvm.ClassFile.FieldType.int)).before args0 about1 = true := code_word (m := ⟨2, 7⟩) (meth := k2m7) (c := k2c7) (by decide +kernel) rfl rfl rfl (by decide +kernel)
set_option maxRecDepth 65536 in
theorem w_c12 : (Jvm.Cond.code ({ cls := "MinVersionSelect", name := "buildStatus", desc := "()I" } : Jvm.MethodName) prog_1_method_19_code (1 : Nat) (Option.some Jvm.ClassFile.FieldType.int)).before args0 about1 = true := code_word (m := ⟨2, 18⟩) (meth := k2m18) (c := k2c18) (by decide +kernel) rfl rfl rfl (by decide +kernel)
set_option maxRecDepth 65536 in
theorem w_c13 : (Jvm.Cond.code ({ cls := "MinVersionSelect", name := "buildCurrent", desc := "()Z" } : Jvm.MethodName) prog_1_method_40_code (1 : Nat) (Option.some Jvm.ClassFile.FieldType.boolean)).before args0 about1 = true := code_word (m := ⟨2, 38⟩) (meth := k2m38) (c := k2c38) (by decide +kernel) rfl rfl rfl (by decide +kernel)
set_option maxRecDepth 65536 in
theorem w_c14 : (Jvm.Cond.code ({ cls := "MinVersionSelect", name := "loadMainRoots", desc := "()V" } : Jvm.MethodName) prog_1_method_38_code (2 : Nat) (Option.none : Option Jvm.ClassFile.FieldType)).before args0 about1 = true := code_word (m := ⟨2, 36⟩) (meth := k2m36) (c := k2c36) (by decide +kernel) rfl rfl rfl (by decide +kernel)
set_option maxRecDepth 65536 in
theorem w_c15 : (Jvm.Cond.code ({ cls := "MinVersionSelect", name := "runBuild", desc := "()Z" } : Jvm.MethodName) prog_1_method_42_code (2 : Nat) (Option.some Jvm.ClassFile.FieldType.boolean)).before args0 about1 = true := code_word (m := ⟨2, 40⟩) (meth := k2m40) (c := k2c40) (by decide +kernel) rfl rfl rfl (by decide +kernel)
set_option maxRecDepth 65536 in
theorem w_c16 : (Jvm.Cond.code ({ cls := "MinVersionSelect", name := "resetBuild", desc := "()V" } : Jvm.MethodName) prog_1_method_43_code (2 : Nat) (Option.none : Option Jvm.ClassFile.FieldType)).before args0 about1 = true := code_word (m := ⟨2, 41⟩) (meth := k2m41) (c := k2c41) (by decide +kernel) rfl rfl rfl (by decide +kernel)
set_option maxRecDepth 65536 in
theorem w_c17 : (Jvm.Cond.code ({ cls := "MinVersionSelect", name := "drainQueue", desc := "()V" } : Jvm.MethodName) prog_1_method_44_code (4 : Nat) (Option.none : Option Jvm.ClassFile.FieldType)).before args0 about1 = true := code_word (m := ⟨2, 42⟩) (meth := k2m42) (c := k2c42) (by decide +kernel) rfl rfl rfl (by decide +kernel)
set_option maxRecDepth 65536 in
theorem w_c18 : (Jvm.Cond.code ({ cls := "MinVersionSelect", name := "computeSelection", desc := "()V" } : Jvm.MethodName) prog_1_method_48_code (4 : Nat) (Option.none : Option Jvm.ClassFile.FieldType)).before args0 about1 = true := code_word (m := ⟨2, 46⟩) (meth := k2m46) (c := k2c46) (by decide +kernel) rfl rfl rfl (by decide +kernel)
set_option maxRecDepth 65536 in
theorem w_c19 : (Jvm.Cond.code ({ cls := "MinVersionSelect", name := "mainRequirement", desc := "(I)I" } : Jvm.MethodName) prog_1_method_23_code (2 : Nat) (Option.some Jvm.ClassFile.FieldType.int)).before args0 about1 = true := code_word (m := ⟨2, 21⟩) (meth := k2m21) (c := k2c21) (by decide +kernel) rfl rfl rfl (by decide +kernel)
set_option maxRecDepth 65536 in
theorem w_c20 : (Jvm.Cond.code ({ cls := "MinVersionSelect", name := "selected", desc := "(I)I" } : Jvm.MethodName) prog_1_method_20_code (2 : Nat) (Option.some Jvm.ClassFile.FieldType.int)).before args0 about1 = true := code_word (m := ⟨2, 19⟩) (meth := k2m19) (c := k2c19) (by decide +kernel) rfl rfl rfl (by decide +kernel)
set_option maxRecDepth 65536 in
theorem w_c21 : (Jvm.Cond.code ({ cls := "MinVersionSelect", name := "requireMain", desc := "(II)I" } : Jvm.MethodName) prog_1_method_16_code (3 : Nat) (Option.some Jvm.ClassFile.FieldType.int)).before args0 about1 = true := code_word (m := ⟨2, 15⟩) (meth := k2m15) (c := k2c15) (by decide +kernel) rfl rfl rfl (by decide +kernel)
set_option maxRecDepth 65536 in
theorem w_c22 : (Jvm.Cond.code ({ cls := "MinVersionSelect", name := "verOrNone", desc := "(I)Z" } : Jvm.MethodName) prog_1_method_6_code (2 : Nat) (Option.some Jvm.ClassFile.FieldType.boolean)).before args0 about1 = true := code_word (m := ⟨2, 5⟩) (meth := k2m5) (c := k2c5) (by decide +kernel) rfl rfl rfl (by decide +kernel)
set_option maxRecDepth 65536 in
theorem w_c23 : (Jvm.Cond.code ({ cls := "MinVersionSelect", name := "require", desc := "(IIII)I" } : Jvm.MethodName) prog_1_method_15_code (5 : Nat) (Option.some Jvm.ClassFile.FieldType.int)).before args0 about1 = true := code_word (m := ⟨2, 14⟩) (meth := k2m14) (c := k2c14) (by decide +kernel) rfl rfl rfl (by decide +kernel)
set_option maxRecDepth 65536 in
theorem w_c24 : (Jvm.Cond.code ({ cls := "MinVersionSelect", name := "requireArgsOk", desc := "(IIII)Z" } : Jvm.MethodName) prog_1_method_13_code (5 : Nat) (Option.some Jvm.ClassFile.FieldType.boolean)).before args0 about1 = true := code_word (m := ⟨2, 12⟩) (meth := k2m12) (c := k2c12) (by decide +kernel) rfl rfl rfl (by decide +kernel)
set_option maxRecDepth 65536 in
theorem w_c25 : (Jvm.Cond.code ({ cls := "MinVersionSelect", name := "isListed", desc := "(II)Z" } : Jvm.MethodName) prog_1_method_10_code (3 : Nat) (Option.some Jvm.ClassFile.FieldType.boolean)).before args0 about1 = true := code_word (m := ⟨2, 9⟩) (meth := k2m9) (c := k2c9) (by decide +kernel) rfl rfl rfl (by decide +kernel)
set_option maxRecDepth 65536 in
theorem w_c26 : (Jvm.Cond.code ({ cls := "MinVersionSelect", name := "reqSlot", desc := "(III)I" } : Jvm.MethodName) prog_1_method_9_code (4 : Nat) (Option.some Jvm.ClassFile.FieldType.int)).before args0 about1 = true := code_word (m := ⟨2, 8⟩) (meth := k2m8) (c := k2c8) (by decide +kernel) rfl rfl rfl (by decide +kernel)
set_option maxRecDepth 65536 in
theorem w_c27 : (Jvm.Cond.code ({ cls := "MinVersionSelect", name := "addNode", desc := "(II)V" } : Jvm.MethodName) prog_1_method_46_code (5 : Nat) (Option.none : Option Jvm.ClassFile.FieldType)).before args0 about1 = true := code_word (m := ⟨2, 44⟩) (meth := k2m44) (c := k2c44) (by decide +kernel) rfl rfl rfl (by decide +kernel)
set_option maxRecDepth 65536 in
theorem w_c28 : (Jvm.Cond.code ({ cls := "MinVersionSelect", name := "adjust", desc := "(II)I" } : Jvm.MethodName) prog_1_method_47_code (5 : Nat) (Option.some Jvm.ClassFile.FieldType.int)).before args0 about1 = true := code_word (m := ⟨2, 45⟩) (meth := k2m45) (c := k2c45) (by decide +kernel) rfl rfl rfl (by decide +kernel)
set_option maxRecDepth 65536 in
theorem w_c29 : (Jvm.Cond.code ({ cls := "MinVersionSelect", name := "expandNode", desc := "(II)V" } : Jvm.MethodName) prog_1_method_45_code (6 : Nat) (Option.none : Option Jvm.ClassFile.FieldType)).before args0 about1 = true := code_word (m := ⟨2, 43⟩) (meth := k2m43) (c := k2c43) (by decide +kernel) rfl rfl rfl (by decide +kernel)
set_option maxRecDepth 65536 in
theorem w_c30 : (Jvm.Cond.code ({ cls := "MinVersionSelect", name := "versionFlags", desc := "(II)I" } : Jvm.MethodName) prog_1_method_25_code (5 : Nat) (Option.some Jvm.ClassFile.FieldType.int)).before args0 about1 = true := code_word (m := ⟨2, 23⟩) (meth := k2m23) (c := k2c23) (by decide +kernel) rfl rfl rfl (by decide +kernel)
set_option maxRecDepth 65536 in
theorem w_c31 : (Jvm.Cond.code ({ cls := "MinVersionSelect", name := "replacementOf", desc := "(II)I" } : Jvm.MethodName) prog_1_method_26_code (3 : Nat) (Option.some Jvm.ClassFile.FieldType.int)).before args0 about1 = true := code_word (m := ⟨2, 24⟩) (meth := k2m24) (c := k2c24) (by decide +kernel) rfl rfl rfl (by decide +kernel)
set_option maxRecDepth 65536 in
theorem w_c32 : (Jvm.Cond.code ({ cls := "MinVersionSelect", name := "requirementOf", desc := "(III)I" } : Jvm.MethodName) prog_1_method_24_code (4 : Nat) (Option.some Jvm.ClassFile.FieldType.int)).before args0 about1 = true := code_word (m := ⟨2, 22⟩) (meth := k2m22) (c := k2c22) (by decide +kernel) rfl rfl rfl (by decide +kernel)
set_option maxRecDepth 65536 in
theorem w_c33 : (Jvm.Cond.code ({ cls := "MinVersionSelect", name := "buildSize", desc := "()I" } : Jvm.MethodName) prog_1_method_21_code (1 : Nat) (Option.some Jvm.ClassFile.FieldType.int)).before args0 about1 = true := code_word (m := ⟨2, 20⟩) (meth := k2m20) (c := k2c20) (by decide +kernel) rfl rfl rfl (by decide +kernel)
set_option maxRecDepth 65536 in
theorem w_c34 : (Jvm.Cond.code ({ cls := "MinVersionSelect", name := "countSelected", desc := "()I" } : Jvm.MethodName) prog_1_method_41_code (3 : Nat) (Option.some Jvm.ClassFile.FieldType.int)).before args0 about1 = true := code_word (m := ⟨2, 39⟩) (meth := k2m39) (c := k2c39) (by decide +kernel) rfl rfl rfl (by decide +kernel)
set_option maxRecDepth 65536 in
theorem w_c35 : (Jvm.Cond.code ({ cls := "MinVersionSelect", name := "prune", desc := "()I" } : Jvm.MethodName) prog_1_method_33_code (2 : Nat) (Option.some Jvm.ClassFile.FieldType.int)).before args0 about1 = true := code_word (m := ⟨2, 31⟩) (meth := k2m31) (c := k2c31) (by decide +kernel) rfl rfl rfl (by decide +kernel)
set_option maxRecDepth 65536 in
theorem w_c36 : (Jvm.Cond.code ({ cls := "MinVersionSelect", name := "saveSelection", desc := "()V" } : Jvm.MethodName) prog_1_method_34_code (2 : Nat) (Option.none : Option Jvm.ClassFile.FieldType)).before args0 about1 = true := code_word (m := ⟨2, 32⟩) (meth := k2m32) (c := k2c32) (by decide +kernel) rfl rfl rfl (by decide +kernel)
set_option maxRecDepth 65536 in
theorem w_c37 : (Jvm.Cond.code ({ cls := "MinVersionSelect", name := "storePrunedMain", desc := "()I" } : Jvm.MethodName) prog_1_method_37_code (3 : Nat) (Option.some Jvm.ClassFile.FieldType.int)).before args0 about1 = true := code_word (m := ⟨2, 35⟩) (meth := k2m35) (c := k2c35) (by decide +kernel) rfl rfl rfl (by decide +kernel)
set_option maxRecDepth 65536 in
theorem w_c38 : (Jvm.Cond.code ({ cls := "MinVersionSelect", name := "upgrade", desc := "(II)I" } : Jvm.MethodName) prog_1_method_27_code (4 : Nat) (Option.some Jvm.ClassFile.FieldType.int)).before args0 about1 = true := code_word (m := ⟨2, 25⟩) (meth := k2m25) (c := k2c25) (by decide +kernel) rfl rfl rfl (by decide +kernel)
set_option maxRecDepth 65536 in
theorem w_c39 : (Jvm.Cond.code ({ cls := "MinVersionSelect", name := "isExcluded", desc := "(II)Z" } : Jvm.MethodName) prog_1_method_11_code (3 : Nat) (Option.some Jvm.ClassFile.FieldType.boolean)).before args0 about1 = true := code_word (m := ⟨2, 10⟩) (meth := k2m10) (c := k2c10) (by decide +kernel) rfl rfl rfl (by decide +kernel)
set_option maxRecDepth 65536 in
theorem w_c40 : (Jvm.Cond.code ({ cls := "MinVersionSelect", name := "exclude", desc := "(III)I" } : Jvm.MethodName) prog_1_method_17_code (5 : Nat) (Option.some Jvm.ClassFile.FieldType.int)).before args0 about1 = true := code_word (m := ⟨2, 16⟩) (meth := k2m16) (c := k2c16) (by decide +kernel) rfl rfl rfl (by decide +kernel)
set_option maxRecDepth 65536 in
theorem w_c41 : (Jvm.Cond.code ({ cls := "MinVersionSelect", name := "downgrade", desc := "(II)I" } : Jvm.MethodName) prog_1_method_28_code (3 : Nat) (Option.some Jvm.ClassFile.FieldType.int)).before args0 about1 = true := code_word (m := ⟨2, 26⟩) (meth := k2m26) (c := k2c26) (by decide +kernel) rfl rfl rfl (by decide +kernel)
set_option maxRecDepth 65536 in
theorem w_c42 : (Jvm.Cond.code ({ cls := "MinVersionSelect", name := "computeDowngradedMain", desc := "(II)V" } : Jvm.MethodName) prog_1_method_29_code (5 : Nat) (Option.none : Option Jvm.ClassFile.FieldType)).before args0 about1 = true := code_word (m := ⟨2, 27⟩) (meth := k2m27) (c := k2c27) (by decide +kernel) rfl rfl rfl (by decide +kernel)
set_option maxRecDepth 65536 in
theorem w_c43 : (Jvm.Cond.code ({ cls := "MinVersionSelect", name := "bestAllowed", desc := "(IIII)I" } : Jvm.MethodName) prog_1_method_30_code (7 : Nat) (Option.some Jvm.ClassFile.FieldType.int)).before args0 about1 = true := code_word (m := ⟨2, 28⟩) (meth := k2m28) (c := k2c28) (by decide +kernel) rfl rfl rfl (by decide +kernel)
set_option maxRecDepth 65536 in
theorem w_c44 : (Jvm.Cond.code ({ cls := "MinVersionSelect", name := "copyNextMain", desc := "()V" } : Jvm.MethodName) prog_1_method_32_code (2 : Nat) (Option.none : Option Jvm.ClassFile.FieldType)).before args0 about1 = true := code_word (m := ⟨2, 30⟩) (meth := k2m30) (c := k2c30) (by decide +kernel) rfl rfl rfl (by decide +kernel)
set_option maxRecDepth 65536 in
theorem w_c45 : (Jvm.Cond.code ({ cls := "MinVersionSelect", name := "loadRootsWithout", desc := "(I)V" } : Jvm.MethodName) prog_1_method_35_code (3 : Nat) (Option.none : Option Jvm.ClassFile.FieldType)).before args0 about1 = true := code_word (m := ⟨2, 33⟩) (meth := k2m33) (c := k2c33) (by decide +kernel) rfl rfl rfl (by decide +kernel)
set_option maxRecDepth 65536 in
theorem w_c46 : (Jvm.Cond.code ({ cls := "MinVersionSelect", name := "sameAsSaved", desc := "()Z" } : Jvm.MethodName) prog_1_method_36_code (2 : Nat) (Option.some Jvm.ClassFile.FieldType.boolean)).before args0 about1 = true := code_word (m := ⟨2, 34⟩) (meth := k2m34) (c := k2c34) (by decide +kernel) rfl rfl rfl (by decide +kernel)
set_option maxRecDepth 65536 in
theorem w_c47 : (Jvm.Cond.code ({ cls := "MinVersionSelect", name := "isAllowed", desc := "(IIII)Z" } : Jvm.MethodName) prog_1_method_31_code (5 : Nat) (Option.some Jvm.ClassFile.FieldType.boolean)).before args0 about1 = true := code_word (m := ⟨2, 29⟩) (meth := k2m29) (c := k2c29) (by decide +kernel) rfl rfl rfl (by decide +kernel)
set_option maxRecDepth 65536 in
theorem w_c48 : (Jvm.Cond.code ({ cls := "MinVersionSelect", name := "usableVersion", desc := "(II)Z" } : Jvm.MethodName) prog_1_method_12_code (3 : Nat) (Option.some Jvm.ClassFile.FieldType.boolean)).before args0 about1 = true := code_word (m := ⟨2, 11⟩) (meth := k2m11) (c := k2c11) (by decide +kernel) rfl rfl rfl (by decide +kernel)
set_option maxRecDepth 65536 in
theorem w_c49 : (Jvm.Cond.code ({ cls := "MinVersionSelect", name := "loadSingleRoot", desc := "(II)V" } : Jvm.MethodName) prog_1_method_39_code (4 : Nat) (Option.none : Option Jvm.ClassFile.FieldType)).before args0 about1 = true := code_word (m := ⟨2, 37⟩) (meth := k2m37) (c := k2c37) (by decide +kernel) rfl rfl rfl (by decide +kernel)
set_option maxRecDepth 65536 in
theorem w_c50 : (Jvm.Cond.code ({ cls := "MinVersionSelect", name := "replace", desc := "(III)I" } : Jvm.MethodName) prog_1_method_18_code (5 : Nat) (Option.some Jvm.ClassFile.FieldType.int)).before args0 about1 = true := code_word (m := ⟨2, 17⟩) (meth := k2m17) (c := k2c17) (by decide +kernel) rfl rfl rfl (by decide +kernel)
def codes1 : List Jvm.Cond := [Jvm.Cond.code x code maxLocals ret, Jvm.Cond.code ({ cls := "MinVersionSelectOwnLaw", name := "cell", desc := "([II)I" } : Jvm.MethodName) method_2_code (2 : Nat) (Option.some Jvm.ClassFile.FieldType.int), Jvm.Cond.code ({ cls := "MinVersionSelectOwnLaw", name := "pos", desc := "(II)I" } : Jvm.MethodName) method_3_code (3 : Nat) (Option.some Jvm.ClassFile.FieldType.int), Jvm.Cond.code ({ cls := "MinVersionSelect", name := "<init>", desc := "(II)V" } : Jvm.MethodName) prog_1_method_1_code (3 : Nat) (Option.none : Option Jvm.ClassFile.FieldType), Jvm.Cond.code ({ cls := "java/lang/Object", name := "<init>", desc := "()V" } : Jvm.MethodName) object_method_1_code (1 : Nat) (Option.none : Option Jvm.ClassFile.FieldType), Jvm.Cond.code ({ cls := "MinVersionSelect", name := "clampModules", desc := "(I)I" } : Jvm.MethodName) prog_1_method_2_code (2 : Nat) (Option.some Jvm.ClassFile.FieldType.int), Jvm.Cond.code ({ cls := "MinVersionSelect", name := "clampVersions", desc := "(I)I" } : Jvm.MethodName) prog_1_method_3_code (2 : Nat) (Option.some Jvm.ClassFile.FieldType.int), Jvm.Cond.code ({ cls := "MinVersionSelect", name := "listVersion", desc := "(II)I" } : Jvm.MethodName) prog_1_method_14_code (4 : Nat) (Option.some Jvm.ClassFile.FieldType.int), Jvm.Cond.code ({ cls := "MinVersionSelect", name := "pairInRange", desc := "(II)Z" } : Jvm.MethodName) prog_1_method_7_code (3 : Nat) (Option.some Jvm.ClassFile.FieldType.boolean), Jvm.Cond.code ({ cls := "MinVersionSelect", name := "modInRange", desc := "(I)Z" } : Jvm.MethodName) prog_1_method_4_code (2 : Nat) (Option.some Jvm.ClassFile.FieldType.boolean), Jvm.Cond.code ({ cls := "MinVersionSelect", name := "verInRange", desc := "(I)Z" } : Jvm.MethodName) prog_1_method_5_code (2 : Nat) (Option.some Jvm.ClassFile.FieldType.boolean), Jvm.Cond.code ({ cls := "MinVersionSelect", name := "slot", desc := "(II)I" } : Jvm.MethodName) prog_1_method_8_code (3 : Nat) (Option.some Jvm.ClassFile.FieldType.int), Jvm.Cond.code ({ cls := "MinVersionSelect", name := "buildStatus", desc := "()I" } : Jvm.MethodName) prog_1_method_19_code (1 : Nat) (Option.some Jvm.ClassFile.FieldType.int), Jvm.Cond.code ({ cls := "MinVersionSelect", name := "buildCurrent", desc := "()Z" } : Jvm.MethodName) prog_1_method_40_code (1 : Nat) (Option.some Jvm.ClassFile.FieldType.boolean), Jvm.Cond.code ({ cls := "MinVersionSelect", name := "loadMainRoots", desc := "()V" } : Jvm.MethodName) prog_1_method_38_code (2 : Nat) (Option.none : Option Jvm.ClassFile.FieldType), Jvm.Cond.code ({ cls := "MinVersionSelect", name := "runBuild", desc := "()Z" } : Jvm.MethodName) prog_1_method_42_code (2 : Nat) (Option.some Jvm.ClassFile.FieldType.boolean), Jvm.Cond.code ({ cls := "MinVersionSelect", name := "resetBuild", desc := "()V" } : Jvm.MethodName) prog_1_method_43_code (2 : Nat) (Option.none : Option Jvm.ClassFile.FieldType), Jvm.Cond.code ({ cls := "MinVersionSelect", name := "drainQueue", desc := "()V" } : Jvm.MethodName) prog_1_method_44_code (4 : Nat) (Option.none : Option Jvm.ClassFile.FieldType), Jvm.Cond.code ({ cls := "MinVersionSelect", name := "computeSelection", desc := "()V" } : Jvm.MethodName) prog_1_method_48_code (4 : Nat) (Option.none : Option Jvm.ClassFile.FieldType), Jvm.Cond.code ({ cls := "MinVersionSelect", name := "mainRequirement", desc := "(I)I" } : Jvm.MethodName) prog_1_method_23_code (2 : Nat) (Option.some Jvm.ClassFile.FieldType.int), Jvm.Cond.code ({ cls := "MinVersionSelect", name := "selected", desc := "(I)I" } : Jvm.MethodName) prog_1_method_20_code (2 : Nat) (Option.some Jvm.ClassFile.FieldType.int), Jvm.Cond.code ({ cls := "MinVersionSelect", name := "requireMain", desc := "(II)I" } : Jvm.MethodName) prog_1_method_16_code (3 : Nat) (Option.some Jvm.ClassFile.FieldType.int), Jvm.Cond.code ({ cls := "MinVersionSelect", name := "verOrNone", desc := "(I)Z" } : Jvm.MethodName) prog_1_method_6_code (2 : Nat) (Option.some Jvm.ClassFile.FieldType.boolean), Jvm.Cond.code ({ cls := "MinVersionSelect", name := "require", desc := "(IIII)I" } : Jvm.MethodName) prog_1_method_15_code (5 : Nat) (Option.some Jvm.ClassFile.FieldType.int), Jvm.Cond.code ({ cls := "MinVersionSelect", name := "requireArgsOk", desc := "(IIII)Z" } : Jvm.MethodName) prog_1_method_13_code (5 : Nat) (Option.some Jvm.ClassFile.FieldType.boolean), Jvm.Cond.code ({ cls := "MinVersionSelect", name := "isListed", desc := "(II)Z" } : Jvm.MethodName) prog_1_method_10_code (3 : Nat) (Option.some Jvm.ClassFile.FieldType.boolean), Jvm.Cond.code ({ cls := "MinVersionSelect", name := "reqSlot", desc := "(III)I" } : Jvm.MethodName) prog_1_method_9_code (4 : Nat) (Option.some Jvm.ClassFile.FieldType.int), Jvm.Cond.code ({ cls := "MinVersionSelect", name := "addNode", desc := "(II)V" } : Jvm.MethodName) prog_1_method_46_code (5 : Nat) (Option.none : Option Jvm.ClassFile.FieldType), Jvm.Cond.code ({ cls := "MinVersionSelect", name := "adjust", desc := "(II)I" } : Jvm.MethodName) prog_1_method_47_code (5 : Nat) (Option.some Jvm.ClassFile.FieldType.int), Jvm.Cond.code ({ cls := "MinVersionSelect", name := "expandNode", desc := "(II)V" } : Jvm.MethodName) prog_1_method_45_code (6 : Nat) (Option.none : Option Jvm.ClassFile.FieldType), Jvm.Cond.code ({ cls := "MinVersionSelect", name := "versionFlags", desc := "(II)I" } : Jvm.MethodName) prog_1_method_25_code (5 : Nat) (Option.some Jvm.ClassFile.FieldType.int), Jvm.Cond.code ({ cls := "MinVersionSelect", name := "replacementOf", desc := "(II)I" } : Jvm.MethodName) prog_1_method_26_code (3 : Nat) (Option.some Jvm.ClassFile.FieldType.int), Jvm.Cond.code ({ cls := "MinVersionSelect", name := "requirementOf", desc := "(III)I" } : Jvm.MethodName) prog_1_method_24_code (4 : Nat) (Option.some Jvm.ClassFile.FieldType.int), Jvm.Cond.code ({ cls := "MinVersionSelect", name := "buildSize", desc := "()I" } : Jvm.MethodName) prog_1_method_21_code (1 : Nat) (Option.some Jvm.ClassFile.FieldType.int), Jvm.Cond.code ({ cls := "MinVersionSelect", name := "countSelected", desc := "()I" } : Jvm.MethodName) prog_1_method_41_code (3 : Nat) (Option.some Jvm.ClassFile.FieldType.int), Jvm.Cond.code ({ cls := "MinVersionSelect", name := "prune", desc := "()I" } : Jvm.MethodName) prog_1_method_33_code (2 : Nat) (Option.some Jvm.ClassFile.FieldType.int), Jvm.Cond.code ({ cls := "MinVersionSelect", name := "saveSelection", desc := "()V" } : Jvm.MethodName) prog_1_method_34_code (2 : Nat) (Option.none : Option Jvm.ClassFile.FieldType), Jvm.Cond.code ({ cls := "MinVersionSelect", name := "storePrunedMain", desc := "()I" } : Jvm.MethodName) prog_1_method_37_code (3 : Nat) (Option.some Jvm.ClassFile.FieldType.int), Jvm.Cond.code ({ cls := "MinVersionSelect", name := "upgrade", desc := "(II)I" } : Jvm.MethodName) prog_1_method_27_code (4 : Nat) (Option.some Jvm.ClassFile.FieldType.int), Jvm.Cond.code ({ cls := "MinVersionSelect", name := "isExcluded", desc := "(II)Z" } : Jvm.MethodName) prog_1_method_11_code (3 : Nat) (Option.some Jvm.ClassFile.FieldType.boolean), Jvm.Cond.code ({ cls := "MinVersionSelect", name := "exclude", desc := "(III)I" } : Jvm.MethodName) prog_1_method_17_code (5 : Nat) (Option.some Jvm.ClassFile.FieldType.int), Jvm.Cond.code ({ cls := "MinVersionSelect", name := "downgrade", desc := "(II)I" } : Jvm.MethodName) prog_1_method_28_code (3 : Nat) (Option.some Jvm.ClassFile.FieldType.int), Jvm.Cond.code ({ cls := "MinVersionSelect", name := "computeDowngradedMain", desc := "(II)V" } : Jvm.MethodName) prog_1_method_29_code (5 : Nat) (Option.none : Option Jvm.ClassFile.FieldType), Jvm.Cond.code ({ cls := "MinVersionSelect", name := "bestAllowed", desc := "(IIII)I" } : Jvm.MethodName) prog_1_method_30_code (7 : Nat) (Option.some Jvm.ClassFile.FieldType.int), Jvm.Cond.code ({ cls := "MinVersionSelect", name := "copyNextMain", desc := "()V" } : Jvm.MethodName) prog_1_method_32_code (2 : Nat) (Option.none : Option Jvm.ClassFile.FieldType), Jvm.Cond.code ({ cls := "MinVersionSelect", name := "loadRootsWithout", desc := "(I)V" } : Jvm.MethodName) prog_1_method_35_code (3 : Nat) (Option.none : Option Jvm.ClassFile.FieldType), Jvm.Cond.code ({ cls := "MinVersionSelect", name := "sameAsSaved", desc := "()Z" } : Jvm.MethodName) prog_1_method_36_code (2 : Nat) (Option.some Jvm.ClassFile.FieldType.boolean), Jvm.Cond.code ({ cls := "MinVersionSelect", name := "isAllowed", desc := "(IIII)Z" } : Jvm.MethodName) prog_1_method_31_code (5 : Nat) (Option.some Jvm.ClassFile.FieldType.boolean), Jvm.Cond.code ({ cls := "MinVersionSelect", name := "usableVersion", desc := "(II)Z" } : Jvm.MethodName) prog_1_method_12_code (3 : Nat) (Option.some Jvm.ClassFile.FieldType.boolean), Jvm.Cond.code ({ cls := "MinVersionSelect", name := "loadSingleRoot", desc := "(II)V" } : Jvm.MethodName) prog_1_method_39_code (4 : Nat) (Option.none : Option Jvm.ClassFile.FieldType), Jvm.Cond.code ({ cls := "MinVersionSelect", name := "replace", desc := "(III)I" } : Jvm.MethodName) prog_1_method_18_code (5 : Nat) (Option.some Jvm.ClassFile.FieldType.int)]
set_option maxRecDepth 65536 in
theorem codes_eq : words1.filter isCode = codes1 := rfl
theorem w_codes : ∀ c ∈ words1.filter isCode, c.before args0 about1 = true := by
  rw [codes_eq]
  intro c hc
  simp only [codes1, List.mem_cons, List.not_mem_nil, or_false] at hc
  rcases hc with rfl | rfl | rfl | rfl | rfl | rfl | rfl | rfl | rfl | rfl | rfl | rfl | rfl | rfl | rfl | rfl | rfl | rfl | rfl | rfl | rfl | rfl | rfl | rfl | rfl | rfl | rfl | rfl | rfl | rfl | rfl | rfl | rfl | rfl | rfl | rfl | rfl | rfl | rfl | rfl | rfl | rfl | rfl | rfl | rfl | rfl | rfl | rfl | rfl | rfl | rfl
  · exact w_c0
  · exact w_c1
  · exact w_c2
  · exact w_c3
  · exact w_c4
  · exact w_c5
  · exact w_c6
  · exact w_c7
  · exact w_c8
  · exact w_c9
  · exact w_c10
  · exact w_c11
  · exact w_c12
  · exact w_c13
  · exact w_c14
  · exact w_c15
  · exact w_c16
  · exact w_c17
  · exact w_c18
  · exact w_c19
  · exact w_c20
  · exact w_c21
  · exact w_c22
  · exact w_c23
  · exact w_c24
  · exact w_c25
  · exact w_c26
  · exact w_c27
  · exact w_c28
  · exact w_c29
  · exact w_c30
  · exact w_c31
  · exact w_c32
  · exact w_c33
  · exact w_c34
  · exact w_c35
  · exact w_c36
  · exact w_c37
  · exact w_c38
  · exact w_c39
  · exact w_c40
  · exact w_c41
  · exact w_c42
  · exact w_c43
  · exact w_c44
  · exact w_c45
  · exact w_c46
  · exact w_c47
  · exact w_c48
  · exact w_c49
  · exact w_c50
set_option maxRecDepth 65536 in
theorem w_t1 : (words1.take 24).all (fun c => isCode c || c.before args0 about1) = true := by decide +kernel
set_option maxRecDepth 65536 in
theorem w_t2 : ((words1.drop 24).take 24).all (fun c => isCode c || c.before args0 about1) = true := by decide +kernel
set_option maxRecDepth 65536 in
theorem w_t3 : (((words1.drop 24).drop 24).take 24).all (fun c => isCode c || c.before args0 about1) = true := by decide +kernel
set_option maxRecDepth 65536 in
theorem w_t4 : ((((words1.drop 24).drop 24).drop 24).take 24).all (fun c => isCode c || c.before args0 about1) = true := by decide +kernel
set_option maxRecDepth 65536 in
theorem w_t5 : (((((words1.drop 24).drop 24).drop 24).drop 24).take 24).all (fun c => isCode c || c.before args0 about1) = true := by decide +kernel
set_option maxRecDepth 65536 in
theorem w_t6 : ((((((words1.drop 24).drop 24).drop 24).drop 24).drop 24).take 24).all (fun c => isCode c || c.before args0 about1) = true := by decide +kernel
set_option maxRecDepth 65536 in
theorem w_t7 : (((((((words1.drop 24).drop 24).drop 24).drop 24).drop 24).drop 24).take 24).all (fun c => isCode c || c.before args0 about1) = true := by decide +kernel
set_option maxRecDepth 65536 in
theorem w_t8 : ((((((((words1.drop 24).drop 24).drop 24).drop 24).drop 24).drop 24).drop 24).take 24).all (fun c => isCode c || c.before args0 about1) = true := by decide +kernel
set_option maxRecDepth 65536 in
theorem w_t9 : (((((((((words1.drop 24).drop 24).drop 24).drop 24).drop 24).drop 24).drop 24).drop 24).take 24).all (fun c => isCode c || c.before args0 about1) = true := by decide +kernel
set_option maxRecDepth 65536 in
theorem w_t10 : ((((((((((words1.drop 24).drop 24).drop 24).drop 24).drop 24).drop 24).drop 24).drop 24).drop 24).take 24).all (fun c => isCode c || c.before args0 about1) = true := by decide +kernel
set_option maxRecDepth 65536 in
theorem w_t11 : ((((((((((words1.drop 24).drop 24).drop 24).drop 24).drop 24).drop 24).drop 24).drop 24).drop 24).drop 24).all (fun c => isCode c || c.before args0 about1) = true := by decide +kernel
theorem w_tables : (allAtoms (Jvm.Cond.code x code maxLocals ret :: tables_1)).before args0 about1 = true := by
  rw [allAtoms_all]
  show words1.all (fun c => c.before args0 about1) = true
  refine all_split ?_ w_codes
  rw [← List.take_append_drop 24 words1, List.all_append, w_t1, ← List.take_append_drop 24 (words1.drop 24), List.all_append, w_t2, ← List.take_append_drop 24 ((words1.drop 24).drop 24), List.all_append, w_t3, ← List.take_append_drop 24 (((words1.drop 24).drop 24).drop 24), List.all_append, w_t4, ← List.take_append_drop 24 ((((words1.drop 24).drop 24).drop 24).drop 24), List.all_append, w_t5, ← List.take_append_drop 24 (((((words1.drop 24).drop 24).drop 24).drop 24).drop 24), List.all_append, w_t6, ← List.take_append_drop 24 ((((((words1.drop 24).drop 24).drop 24).drop 24).drop 24).drop 24), List.all_append, w_t7, ← List.take_append_drop 24 (((((((words1.drop 24).drop 24).drop 24).drop 24).drop 24).drop 24).drop 24), List.all_append, w_t8, ← List.take_append_drop 24 ((((((((words1.drop 24).drop 24).drop 24).drop 24).drop 24).drop 24).drop 24).drop 24), List.all_append, w_t9, ← List.take_append_drop 24 (((((((((words1.drop 24).drop 24).drop 24).drop 24).drop 24).drop 24).drop 24).drop 24).drop 24), List.all_append, w_t10, w_t11]
  rfl
set_option maxRecDepth 65536 in
theorem w_rest : rest_1_c.before args0 about1 = true := by decide +kernel
set_option maxRecDepth 65536 in
theorem w_case : (Jvm.Cond.and given_1 narrow_1).before args0 about1 = true := by decide +kernel
theorem w_applies : (headSpec (Jvm.Cond.code x code maxLocals ret :: tables_1) room_1).applies x e0.platform about1 = true :=
  (Spec.applies_iff w_frames).mpr ⟨w_running, w_runnable, w_alone, w_named, w_hears, w_ripe, w_room, w_tables⟩
theorem atStart : AtStart classFile x code maxLocals ret World_1 tables_1 room_1 Calls_1 rest_1 Pre_1 launch0 p0 e0 about1 theMethod args0 below0 :=
  ⟨lists_1, trivial, launch0.admits_env _ _ _, launch0.least_env, fairChoices_fair.cas, fairChoices_fair.clock, w_frames, w_args, w_heap, w_applies, trivial, w_rest, w_case⟩
end start1
theorem witness_1 : WitnessClaimed_1 := ⟨start1.p0, start1.e0, start1.about1, start1.theMethod, start1.args0, start1.below0, start1.atStart⟩
end Jvm.Pilot.@@N@@
