/- A part. -/
import Derived.Test.YtegbnddjgifcdaaGreatDoorOmega
import Derived.Test.YtegbnddjgifcdaaGreatDoorProg
import Derived.KernelRfl
import Derived.Shelf.Strconv.Itoa3
import Derived.Shelf.LaysM
import Derived.Shelf.Strings.Split
import Derived.Shelf.Vars
import Derived.Shelf.Strconv.AtoiAll
set_option linter.unusedVariables false
set_option linter.unusedSectionVars false
set_option maxRecDepth 100000
namespace Go.Proofs.YtegbnddjgifcdaaGreatDoor.Abs
open Go Go.Proofs Go.Shelf Go.Sort
def laysItoa_ren:Go.Shelf.Ren:=⟨fun | 171=>66 | 243=>81 | 246=>93 | 283=>97 | 284=>98 | 285=>99 | 286=>100 | 129=>104 | 317=>103 | 318=>105 | 319=>106 | 320=>107 | 337=>108 | 338=>109 | n=>n,fun | 3=>3 | 9=>9 | 2=>2 | 4=>4 | 171=>116 | 0=>0 | 53=>109 | 37=>73 | 5=>5 | 173=>119 | 212=>127 | 51=>99 | 20=>20 | 213=>128 | 46=>90 | 232=>131 | 233=>132 | n=>n,fun | 17=>5 | 18=>6 | 19=>7 | n=>n⟩
theorem laysItoa:Go.Proofs.LaysM.n171 Tryz.prog laysItoa_ren where
 mixed:=by kernel_rfl
 f129:=Tryz.func104.trans (congrArg some (by kernel_rfl))
 f171:=Tryz.func66.trans (congrArg some (by kernel_rfl))
 f243:=Tryz.func81.trans (congrArg some (by kernel_rfl))
 f246:=Tryz.func93.trans (congrArg some (by kernel_rfl))
 f283:=Tryz.func97.trans (congrArg some (by kernel_rfl))
 f284:=Tryz.func98.trans (congrArg some (by kernel_rfl))
 f285:=Tryz.func99.trans (congrArg some (by kernel_rfl))
 f286:=Tryz.func100.trans (congrArg some (by kernel_rfl))
 f317:=Tryz.func103.trans (congrArg some (by kernel_rfl))
 f318:=Tryz.func105.trans (congrArg some (by kernel_rfl))
 f319:=Tryz.func106.trans (congrArg some (by kernel_rfl))
 f320:=Tryz.func107.trans (congrArg some (by kernel_rfl))
 f337:=Tryz.func108.trans (congrArg some (by kernel_rfl))
 f338:=Tryz.func109.trans (congrArg some (by kernel_rfl))
 t0:=Tryz.underlying0
 a0:=Tryz.isAgg0
 z0:=Tryz.sizeOf0
 v0:=Tryz.zeroValue0
 t2:=Tryz.underlying2
 a2:=Tryz.isAgg2
 z2:=Tryz.sizeOf2
 v2:=Tryz.zeroValue2
 t3:=Tryz.underlying3
 a3:=Tryz.isAgg3
 z3:=Tryz.sizeOf3
 v3:=Tryz.zeroValue3
 t4:=Tryz.underlying4
 a4:=Tryz.isAgg4
 z4:=Tryz.sizeOf4
 v4:=Tryz.zeroValue4
 t5:=Tryz.underlying5
 a5:=Tryz.isAgg5
 z5:=Tryz.sizeOf5
 v5:=Tryz.zeroValue5
 t9:=Tryz.underlying9
 a9:=Tryz.isAgg9
 z9:=Tryz.sizeOf9
 v9:=Tryz.zeroValue9
 t20:=Tryz.underlying20
 a20:=Tryz.isAgg20
 z20:=Tryz.sizeOf20
 v20:=Tryz.zeroValue20
 t37:=Tryz.underlying73
 a37:=Tryz.isAgg73
 z37:=Tryz.sizeOf73
 v37:=Tryz.zeroValue73
 t46:=Tryz.underlying90
 a46:=Tryz.isAgg90
 z46:=Tryz.sizeOf90
 v46:=Tryz.zeroValue90
 t51:=Tryz.underlying99
 a51:=Tryz.isAgg99
 z51:=Tryz.sizeOf99
 v51:=Tryz.zeroValue99
 t53:=Tryz.underlying109
 a53:=Tryz.isAgg109
 z53:=Tryz.sizeOf109
 v53:=Tryz.zeroValue109
 t171:=Tryz.underlying116
 a171:=Tryz.isAgg116
 z171:=Tryz.sizeOf116
 v171:=Tryz.zeroValue116
 t173:=Tryz.underlying119
 a173:=Tryz.isAgg119
 z173:=Tryz.sizeOf119
 v173:=Tryz.zeroValue119
 t212:=Tryz.underlying127
 a212:=Tryz.isAgg127
 z212:=Tryz.sizeOf127
 v212:=Tryz.zeroValue127
 t213:=Tryz.underlying128
 a213:=Tryz.isAgg128
 z213:=Tryz.sizeOf128
 t232:=Tryz.underlying131
 a232:=Tryz.isAgg131
 z232:=Tryz.sizeOf131
 v232:=Tryz.zeroValue131
 t233:=Tryz.underlying132
 a233:=Tryz.isAgg132
 z233:=Tryz.sizeOf132
 v233:=Tryz.zeroValue132
 g17:=by kernel_rfl
 g18:=by kernel_rfl
 g19:=by kernel_rfl
 i0:=by kernel_rfl
 i2:=by kernel_rfl
 i3:=by kernel_rfl
 i4:=by kernel_rfl
 i5:=by kernel_rfl
 i9:=by kernel_rfl
 i20:=by kernel_rfl
 i37:=by kernel_rfl
 i46:=by kernel_rfl
 i51:=by kernel_rfl
 i53:=by kernel_rfl
 i171:=by kernel_rfl
 i173:=by kernel_rfl
 i212:=by kernel_rfl
 i232:=by kernel_rfl
 i233:=by kernel_rfl
 m17:=by kernel_rfl
 m18:=by kernel_rfl
 m19:=by kernel_rfl
def laysSplit_ren:Go.Shelf.Ren:=⟨fun | 146=>13 | 221=>35 | 268=>49 | 138=>50 | 143=>51 | 195=>61 | 197=>62 | 218=>63 | 219=>64 | 260=>74 | 217=>75 | 225=>76 | 224=>77 | 267=>78 | 266=>86 | 314=>87 | n=>n,fun | 9=>9 | 31=>34 | 3=>3 | 4=>4 | 0=>0 | 105=>79 | 21=>21 | 5=>5 | 46=>90 | 119=>95 | 139=>98 | 138=>97 | 146=>100 | 51=>99 | n=>n,fun | 1=>0 | 3=>1 | 4=>2 | n=>n⟩
theorem laysSplit:Go.Proofs.Lays.n146 Tryz.prog laysSplit_ren where
 mixed:=by kernel_rfl
 f138:=Tryz.func50.trans (congrArg some (by kernel_rfl))
 f143:=Tryz.func51.trans (congrArg some (by kernel_rfl))
 f146:=Tryz.func13.trans (congrArg some (by kernel_rfl))
 f195:=Tryz.func61.trans (congrArg some (by kernel_rfl))
 f197:=Tryz.func62.trans (congrArg some (by kernel_rfl))
 f217:=Tryz.func75.trans (congrArg some (by kernel_rfl))
 f218:=Tryz.func63.trans (congrArg some (by kernel_rfl))
 f219:=Tryz.func64.trans (congrArg some (by kernel_rfl))
 f221:=Tryz.func35.trans (congrArg some (by kernel_rfl))
 f224:=Tryz.func77.trans (congrArg some (by kernel_rfl))
 f225:=Tryz.func76.trans (congrArg some (by kernel_rfl))
 f260:=Tryz.func74.trans (congrArg some (by kernel_rfl))
 f266:=Tryz.func86.trans (congrArg some (by kernel_rfl))
 f267:=Tryz.func78.trans (congrArg some (by kernel_rfl))
 f268:=Tryz.func49.trans (congrArg some (by kernel_rfl))
 f314:=Tryz.func87.trans (congrArg some (by kernel_rfl))
 t0:=Tryz.underlying0
 a0:=Tryz.isAgg0
 z0:=Tryz.sizeOf0
 v0:=Tryz.zeroValue0
 t3:=Tryz.underlying3
 a3:=Tryz.isAgg3
 z3:=Tryz.sizeOf3
 v3:=Tryz.zeroValue3
 t4:=Tryz.underlying4
 a4:=Tryz.isAgg4
 z4:=Tryz.sizeOf4
 v4:=Tryz.zeroValue4
 t5:=Tryz.underlying5
 a5:=Tryz.isAgg5
 z5:=Tryz.sizeOf5
 v5:=Tryz.zeroValue5
 t9:=Tryz.underlying9
 a9:=Tryz.isAgg9
 z9:=Tryz.sizeOf9
 v9:=Tryz.zeroValue9
 t21:=Tryz.underlying21
 a21:=Tryz.isAgg21
 z21:=Tryz.sizeOf21
 v21:=Tryz.zeroValue21
 t31:=Tryz.underlying34
 a31:=Tryz.isAgg34
 z31:=Tryz.sizeOf34
 v31:=Tryz.zeroValue34
 t46:=Tryz.underlying90
 a46:=Tryz.isAgg90
 z46:=Tryz.sizeOf90
 v46:=Tryz.zeroValue90
 t51:=Tryz.underlying99
 a51:=Tryz.isAgg99
 z51:=Tryz.sizeOf99
 v51:=Tryz.zeroValue99
 t105:=Tryz.underlying79
 a105:=Tryz.isAgg79
 z105:=Tryz.sizeOf79
 v105:=Tryz.zeroValue79
 t119:=Tryz.underlying95
 a119:=Tryz.isAgg95
 z119:=Tryz.sizeOf95
 t138:=Tryz.underlying97
 a138:=Tryz.isAgg97
 z138:=Tryz.sizeOf97
 v138:=Tryz.zeroValue97
 t139:=Tryz.underlying98
 a139:=Tryz.isAgg98
 z139:=Tryz.sizeOf98
 v139:=Tryz.zeroValue98
 t146:=Tryz.underlying100
 a146:=Tryz.isAgg100
 z146:=Tryz.sizeOf100
 v146:=Tryz.zeroValue100
 g1:=by kernel_rfl
 g3:=by kernel_rfl
 g4:=by kernel_rfl
def laysAtoi_ren:Go.Shelf.Ren:=⟨fun | 172=>65 | 244=>79 | 245=>80 | 247=>88 | 279=>89 | 280=>90 | 281=>91 | 282=>92 | 287=>94 | 316=>95 | 171=>66 | 205=>96 | 321=>101 | 322=>102 | 243=>81 | 246=>93 | 283=>97 | 284=>98 | 285=>99 | 286=>100 | 129=>104 | 317=>103 | 318=>105 | 319=>106 | 320=>107 | 337=>108 | 338=>109 | n=>n,fun | 9=>9 | 3=>3 | 75=>83 | 76=>84 | 4=>4 | 5=>5 | 167=>102 | 37=>73 | 0=>0 | 85=>103 | 2=>2 | 168=>105 | 53=>109 | 175=>110 | 46=>90 | 210=>114 | 127=>122 | 145=>125 | 143=>123 | 21=>21 | 171=>116 | 173=>119 | 212=>127 | 51=>99 | 20=>20 | 213=>128 | 232=>131 | 233=>132 | 80=>63 | n=>n,fun | 15=>3 | 16=>4 | 17=>5 | 18=>6 | 19=>7 | n=>n⟩
theorem laysAtoi:Go.Proofs.LaysC.n172 Tryz.prog laysAtoi_ren where
 mixed:=by kernel_rfl
 f129:=Tryz.func104.trans (congrArg some (by kernel_rfl))
 f171:=Tryz.func66.trans (congrArg some (by kernel_rfl))
 f172:=Tryz.func65.trans (congrArg some (by kernel_rfl))
 f205:=Tryz.func96.trans (congrArg some (by kernel_rfl))
 f243:=Tryz.func81.trans (congrArg some (by kernel_rfl))
 f244:=Tryz.func79.trans (congrArg some (by kernel_rfl))
 f245:=Tryz.func80.trans (congrArg some (by kernel_rfl))
 f246:=Tryz.func93.trans (congrArg some (by kernel_rfl))
 f247:=Tryz.func88.trans (congrArg some (by kernel_rfl))
 f279:=Tryz.func89.trans (congrArg some (by kernel_rfl))
 f280:=Tryz.func90.trans (congrArg some (by kernel_rfl))
 f281:=Tryz.func91.trans (congrArg some (by kernel_rfl))
 f282:=Tryz.func92.trans (congrArg some (by kernel_rfl))
 f283:=Tryz.func97.trans (congrArg some (by kernel_rfl))
 f284:=Tryz.func98.trans (congrArg some (by kernel_rfl))
 f285:=Tryz.func99.trans (congrArg some (by kernel_rfl))
 f286:=Tryz.func100.trans (congrArg some (by kernel_rfl))
 f287:=Tryz.func94.trans (congrArg some (by kernel_rfl))
 f316:=Tryz.func95.trans (congrArg some (by kernel_rfl))
 f317:=Tryz.func103.trans (congrArg some (by kernel_rfl))
 f318:=Tryz.func105.trans (congrArg some (by kernel_rfl))
 f319:=Tryz.func106.trans (congrArg some (by kernel_rfl))
 f320:=Tryz.func107.trans (congrArg some (by kernel_rfl))
 f321:=Tryz.func101.trans (congrArg some (by kernel_rfl))
 f322:=Tryz.func102.trans (congrArg some (by kernel_rfl))
 f337:=Tryz.func108.trans (congrArg some (by kernel_rfl))
 f338:=Tryz.func109.trans (congrArg some (by kernel_rfl))
 t0:=Tryz.underlying0
 a0:=Tryz.isAgg0
 z0:=Tryz.sizeOf0
 v0:=Tryz.zeroValue0
 t2:=Tryz.underlying2
 a2:=Tryz.isAgg2
 z2:=Tryz.sizeOf2
 v2:=Tryz.zeroValue2
 t3:=Tryz.underlying3
 a3:=Tryz.isAgg3
 z3:=Tryz.sizeOf3
 v3:=Tryz.zeroValue3
 t4:=Tryz.underlying4
 a4:=Tryz.isAgg4
 z4:=Tryz.sizeOf4
 v4:=Tryz.zeroValue4
 t5:=Tryz.underlying5
 a5:=Tryz.isAgg5
 z5:=Tryz.sizeOf5
 v5:=Tryz.zeroValue5
 t9:=Tryz.underlying9
 a9:=Tryz.isAgg9
 z9:=Tryz.sizeOf9
 v9:=Tryz.zeroValue9
 t20:=Tryz.underlying20
 a20:=Tryz.isAgg20
 z20:=Tryz.sizeOf20
 v20:=Tryz.zeroValue20
 t21:=Tryz.underlying21
 a21:=Tryz.isAgg21
 z21:=Tryz.sizeOf21
 v21:=Tryz.zeroValue21
 t37:=Tryz.underlying73
 a37:=Tryz.isAgg73
 z37:=Tryz.sizeOf73
 v37:=Tryz.zeroValue73
 t46:=Tryz.underlying90
 a46:=Tryz.isAgg90
 z46:=Tryz.sizeOf90
 v46:=Tryz.zeroValue90
 t51:=Tryz.underlying99
 a51:=Tryz.isAgg99
 z51:=Tryz.sizeOf99
 v51:=Tryz.zeroValue99
 t53:=Tryz.underlying109
 a53:=Tryz.isAgg109
 z53:=Tryz.sizeOf109
 v53:=Tryz.zeroValue109
 t75:=Tryz.underlying83
 a75:=Tryz.isAgg83
 z75:=Tryz.sizeOf83
 v75:=Tryz.zeroValue83
 t76:=Tryz.underlying84
 a76:=Tryz.isAgg84
 z76:=Tryz.sizeOf84
 v76:=Tryz.zeroValue84
 t85:=Tryz.underlying103
 a85:=Tryz.isAgg103
 z85:=Tryz.sizeOf103
 v85:=Tryz.zeroValue103
 t127:=Tryz.underlying122
 a127:=Tryz.isAgg122
 z127:=Tryz.sizeOf122
 v127:=Tryz.zeroValue122
 t143:=Tryz.underlying123
 a143:=Tryz.isAgg123
 z143:=Tryz.sizeOf123
 v143:=Tryz.zeroValue123
 t145:=Tryz.underlying125
 a145:=Tryz.isAgg125
 z145:=Tryz.sizeOf125
 v145:=Tryz.zeroValue125
 t167:=Tryz.underlying102
 a167:=Tryz.isAgg102
 z167:=Tryz.sizeOf102
 v167:=Tryz.zeroValue102
 t168:=Tryz.underlying105
 a168:=Tryz.isAgg105
 z168:=Tryz.sizeOf105
 v168:=Tryz.zeroValue105
 t171:=Tryz.underlying116
 a171:=Tryz.isAgg116
 z171:=Tryz.sizeOf116
 v171:=Tryz.zeroValue116
 t173:=Tryz.underlying119
 a173:=Tryz.isAgg119
 z173:=Tryz.sizeOf119
 v173:=Tryz.zeroValue119
 t175:=Tryz.underlying110
 a175:=Tryz.isAgg110
 z175:=Tryz.sizeOf110
 v175:=Tryz.zeroValue110
 t210:=Tryz.underlying114
 a210:=Tryz.isAgg114
 z210:=Tryz.sizeOf114
 v210:=Tryz.zeroValue114
 t212:=Tryz.underlying127
 a212:=Tryz.isAgg127
 z212:=Tryz.sizeOf127
 v212:=Tryz.zeroValue127
 t213:=Tryz.underlying128
 a213:=Tryz.isAgg128
 z213:=Tryz.sizeOf128
 t232:=Tryz.underlying131
 a232:=Tryz.isAgg131
 z232:=Tryz.sizeOf131
 v232:=Tryz.zeroValue131
 t233:=Tryz.underlying132
 a233:=Tryz.isAgg132
 z233:=Tryz.sizeOf132
 v233:=Tryz.zeroValue132
 g15:=by kernel_rfl
 g16:=by kernel_rfl
 g17:=by kernel_rfl
 g18:=by kernel_rfl
 g19:=by kernel_rfl
 t80:=Tryz.underlying63
 a80:=Tryz.isAgg63
 z80:=Tryz.sizeOf63
 v80:=Tryz.zeroValue63
 i0:=by kernel_rfl
 i2:=by kernel_rfl
 i3:=by kernel_rfl
 i4:=by kernel_rfl
 i5:=by kernel_rfl
 i9:=by kernel_rfl
 i20:=by kernel_rfl
 i21:=by kernel_rfl
 i37:=by kernel_rfl
 i46:=by kernel_rfl
 i51:=by kernel_rfl
 i53:=by kernel_rfl
 i75:=by kernel_rfl
 i76:=by kernel_rfl
 i80:=by kernel_rfl
 i85:=by kernel_rfl
 i127:=by kernel_rfl
 i143:=by kernel_rfl
 i145:=by kernel_rfl
 i167:=by kernel_rfl
 i168:=by kernel_rfl
 i171:=by kernel_rfl
 i173:=by kernel_rfl
 i175:=by kernel_rfl
 i210:=by kernel_rfl
 i212:=by kernel_rfl
 i232:=by kernel_rfl
 i233:=by kernel_rfl
 m15:=by kernel_rfl
 m16:=by kernel_rfl
 m17:=by kernel_rfl
 m18:=by kernel_rfl
 m19:=by kernel_rfl
 c0:=by kernel_rfl
 c2:=by kernel_rfl
 c3:=by kernel_rfl
 c4:=by kernel_rfl
 c5:=by kernel_rfl
 c9:=by kernel_rfl
 c20:=by kernel_rfl
 c21:=by kernel_rfl
 c37:=by kernel_rfl
 c46:=by kernel_rfl
 c51:=by kernel_rfl
 c53:=by kernel_rfl
 c75:=by kernel_rfl
 c76:=by kernel_rfl
 c80:=by kernel_rfl
 c85:=by kernel_rfl
 c127:=by kernel_rfl
 c143:=by kernel_rfl
 c145:=by kernel_rfl
 c167:=by kernel_rfl
 c168:=by kernel_rfl
 c171:=by kernel_rfl
 c173:=by kernel_rfl
 c175:=by kernel_rfl
 c210:=by kernel_rfl
 c212:=by kernel_rfl
 c213:=by kernel_rfl
 c232:=by kernel_rfl
 c233:=by kernel_rfl
def tabOk (w:World):Prop:=Lib.TabIs Tryz.prog w "internal/strconv.uint64pow10" .u64 Lib.pow10Tab
theorem tab_keep {w w':World} (hk:∀ x,Tryz.prog.globalNamed "internal/strconv.uint64pow10" = some x→w'.heap[x]? = w.heap[x]?) (h:tabOk w):tabOk w':=by
 unfold tabOk Lib.TabIs World.var? at h ⊢
 cases hg:Tryz.prog.globalNamed "internal/strconv.uint64pow10" with
 |none=>rw [hg] at h;simp at h
 |some g=>
  rw [hg] at h
  simp only [Option.bind_some] at h ⊢
  rw [hk g hg]
  exact h
theorem tab_lt {w:World} (h:tabOk w):∀ x,Tryz.prog.globalNamed "internal/strconv.uint64pow10" = some x→x < w.heap.size:=by
 intro x hx
 unfold tabOk Lib.TabIs World.var? at h
 rw [hx] at h
 simp only [Option.bind_some] at h
 rcases Nat.lt_or_ge x w.heap.size with h' | h'
 ·exact h'
 ·rw [Array.getElem?_eq_none h'] at h;cases h
def maxOk (w:World):Prop:=∃ m,w.cell? ⟨0,0,none⟩=some (.int .i64 m)
theorem max_keep {w w':World} (hk:w'.heap[0]? = w.heap[0]?) (h:maxOk w):maxOk w':=by
 obtain ⟨m,hm⟩:=h
 refine ⟨m,?_⟩
 unfold World.cell? at hm ⊢
 rw [hk]
 exact hm
theorem max_lt {w:World} (h:maxOk w):0 < w.heap.size:=by
 obtain ⟨m,hm⟩:=h
 exact World.block_lt_of_cell? _ _ hm
theorem max_of_shape {w:World} (h:w.ShapedOpen Tryz.prog):maxOk w:=
 cell_of_shapedOpen_int (zero:=#[.int .i64 0]) (t:=3) h (of_decide_eq_true (by kernel_rfl)) (by kernel_rfl) rfl (by kernel_rfl) (by kernel_rfl) Tryz.underlying3
def errAt (w:World) (g:Nat):Prop:=∃ ev,w.cell? ⟨g,0,none⟩=some ev∧(ev=.nilIface∨∃ te pe,ev=.iface te pe)
def errOk (w:World):Prop:=errAt w 3∧errAt w 4
theorem errAt_keep {w w':World} {g:Nat} (hk:w'.heap[g]? = w.heap[g]?) (h:errAt w g):errAt w' g:=by
 obtain ⟨m,hm,he⟩:=h
 refine ⟨m,?_,he⟩
 unfold World.cell? at hm ⊢
 rw [hk]
 exact hm
theorem errAt_lt {w:World} {g:Nat} (h:errAt w g):g < w.heap.size:=by
 obtain ⟨m,hm,_⟩:=h
 exact World.block_lt_of_cell? _ _ hm
instance globOk:Glob where
 ids:=fun x=>Tryz.prog.globalNamed "internal/strconv.uint64pow10" = some x∨x=0∨x=3∨x=4
 ok:=fun w=>tabOk w∧maxOk w∧errOk w
 keep:=fun hk h=>⟨tab_keep (fun x hx=>hk x (.inl hx)) h.1,max_keep (hk _ (.inr (.inl rfl))) h.2.1,errAt_keep (hk _ (.inr (.inr (.inl rfl)))) h.2.2.1,errAt_keep (hk _ (.inr (.inr (.inr rfl)))) h.2.2.2⟩
theorem glob_lt {w:World} (h:Glob.ok w):∀ x,Glob.ids x→x < w.heap.size:=by
 intro x hx
 rcases hx with hx | rfl | rfl | rfl
 ·exact tab_lt h.1 x hx
 ·exact max_lt h.2.1
 ·exact errAt_lt h.2.2.1
 ·exact errAt_lt h.2.2.2
theorem below_grow (w:World) (q:Nat) (os:Array Obj):RowKit.Below w.heap.size w (grow (w.drewN q) os):=
 ⟨rfl,rfl,rfl,by simp [grow,World.drewN],fun k hk=>by simp [grow,World.drewN,Array.getElem?_append,hk]⟩
def xItoa (args:List AVal) (pbs:List PB):Option Ret:=
 match args,pbs with
 |[.v (.int .i64 n)],[]=>br (decide (-9223372036854775808 ≤ n) && decide (n ≤ 9223372036854775807)) (some (.str (Lib.itoa n),[])) none
 |_,_=>none
theorem xItoa_ok {args:List AVal} {pbs:List PB} {ret:Ret} (h:xItoa args pbs=some ret):FnOk Tryz.prog none none 66 args pbs ret:=by
 unfold xItoa at h
 split at h
 ·rename_i n
  obtain ⟨hn,h⟩:=br_none h
  simp only [Bool.and_eq_true,decide_eq_true_eq] at hn
  cases h
  refine FnOk.ofCalls (cs:=[.int .i64 n]) Tryz.func66 (by kernel_rfl) rfl ?_
  intro N w vs hN hid hok hcs
  obtain ⟨u,us,rfl,hu,_,hus⟩:=hcs
  have hus:us=[]:=hus
  subst hus
  have hu:u=.int .i64 n:=hu
  subst hu
  refine (Any.strconv_Itoa laysItoa n hn.1 hn.2 w hok.1).mono ?_
  rintro e w' ⟨rfl,k,os,rfl⟩
  exact ⟨_,rfl,rfl,below_grow w k os⟩
 ·cases h
theorem el_alloc {N:Nat→Prop} {w:World} {e:TypeId} {l:List ByteArray}:∀ (suf:List ByteArray) (pre:List ByteArray),pre ++ suf=l→
  ElRel N (w.alloc (.cells (l.map Value.string).toArray e)) 1 w.heap.size pre.length (suf.map fun s=>CVal.str s.data.toList)
 |[],pre,h=>trivial
 |s :: suf,pre,h=>by
  refine ⟨⟨.string ⟨s.data.toList.toArray⟩,rfl,rfl,rfl,fun j hj=>?_⟩,?_⟩
  ·obtain rfl:j=0:=by omega
   have e2:(l.map Value.string).toArray[pre.length + 0]? = some (.string s):=by subst h;simp
   show World.cell? _ ⟨w.heap.size,pre.length + 0,none⟩=_
   rw [World.cell?_alloc_new,e2]
   rfl
  ·have:=el_alloc (N:=N) (w:=w) (e:=e) suf (pre ++ [s]) (by simpa using h)
   rw [List.length_append,List.length_singleton] at this
   exact this
theorem cr_alloc {N:Nat→Prop} {w:World} (hN:∀ x,N x→x < w.heap.size) (e:TypeId) (l:List ByteArray) :
  CRel N (w.alloc (.cells (l.map Value.string).toArray e)) (.sl (l.map fun s=>CVal.str s.data.toList)) (.slice (some ⟨w.heap.size,0,none⟩) l.length l.length):=by
 refine ⟨some (pl w.heap.size 0),l.length,by rw [List.length_map];rfl,by rw [List.length_map];omega,.inr ⟨w.heap.size,0,1,rfl,fun h=>by have:=hN _ h;omega,by simp,el_alloc l [] rfl⟩⟩
def xSplit (args:List AVal) (pbs:List PB):Option Ret:=
 match args,pbs with
 |[.v (.str s),.v (.str sep)],[]=>br (decide (s.length < 4294967281) && decide (1 ≤ sep.length)) (some (.sl ((Lib.split s sep).map .str),[])) none
 |_,_=>none
theorem xSplit_eq {s sep:List UInt8} (h:s.length < 4294967281) (h1:1 ≤ sep.length):xSplit [.v (.str s),.v (.str sep)] []=some (.sl ((Lib.split s sep).map .str),[]):=by
 simp [xSplit,h,h1]
theorem xSplit_ok {args:List AVal} {pbs:List PB} {ret:Ret} (h:xSplit args pbs=some ret):FnOk Tryz.prog none none 13 args pbs ret:=by
 unfold xSplit at h
 split at h
 ·rename_i s sep
  obtain ⟨hn,h⟩:=br_none h
  simp only [Bool.and_eq_true,decide_eq_true_eq] at hn
  cases h
  refine FnOk.ofCalls (cs:=[.str s,.str sep]) Tryz.func13 (by kernel_rfl) rfl ?_
  intro N w vs hN hid hok hcs
  obtain ⟨u,us,rfl,hu,_,u2,us2,rfl,hu2,_,hus⟩:=hcs
  obtain rfl:us2=[]:=hus
  obtain rfl:u2=.string ⟨sep.toArray⟩:=hu2
  obtain rfl:u=.string ⟨s.toArray⟩:=hu
  obtain ⟨m,hm⟩:=hok.2.1
  have hsz:(⟨s.toArray⟩:ByteArray).size=s.length:=by simp [ByteArray.size]
  have hsz2:(⟨sep.toArray⟩:ByteArray).size=sep.length:=by simp [ByteArray.size]
  have hall:=Lib.splitB_all ⟨sep.toArray⟩ (by rw [hsz2];exact hn.2) 0 _ ⟨s.toArray⟩ rfl
  have hdata:=Lib.splitB_data ⟨sep.toArray⟩ 0 (Lib.countB ⟨s.toArray⟩ ⟨sep.toArray⟩) ⟨s.toArray⟩
  refine (Any.strings_Split laysSplit (by kernel_rfl) ⟨s.toArray⟩ ⟨sep.toArray⟩ m w (by rw [hsz];exact hn.1) hm (by rw [hsz2];exact hn.2)).mono ?_
  rintro e w' ⟨rfl,rfl⟩
  refine ⟨_,rfl,?_,(RowKit.Below.refl _ _).alloc (Nat.le_refl _) _⟩
  rw [← hall]
  have:=cr_alloc hN 9 (Lib.splitB ⟨sep.toArray⟩ 0 (Lib.countB ⟨s.toArray⟩ ⟨sep.toArray⟩) ⟨s.toArray⟩)
  have e:(Lib.splitB ⟨sep.toArray⟩ 0 (Lib.countB ⟨s.toArray⟩ ⟨sep.toArray⟩) ⟨s.toArray⟩).map (fun s=>CVal.str s.data.toList)=(Lib.split s sep).map .str:=by
   have e2:Lib.split s sep=(Lib.splitB ⟨sep.toArray⟩ 0 (Lib.countB ⟨s.toArray⟩ ⟨sep.toArray⟩) ⟨s.toArray⟩).map (·.data.toList):=by rw [hdata];rfl
   rw [e2,List.map_map];rfl
  rw [e] at this
  exact this
 ·cases h
def errC:CVal:=.iface 105 (.fp (.str [65,116,111,105]) 0)
def atoiC (s:List UInt8):CVal:=match Lib.atoiAll s with
 |.ok v=>.tup [.int .i64 v,.nili]
 |.«syntax»=>.tup [.int .i64 0,errC]
 |.range=>.tup [.int .i64 (Lib.atoiSat s),errC]
def xAtoi (args:List AVal) (pbs:List PB):Option Ret:=
 match args,pbs with
 |[.v (.str s)],[]=>br (decide (s.length ≤ 281474976710656)) (some (atoiC s,[])) none
 |_,_=>none
theorem xAtoi_eq {s:List UInt8} (h:s.length ≤ 281474976710656):xAtoi [.v (.str s)] []=some (atoiC s,[]):=by
 simp [xAtoi,h]
theorem err_rel {N:Nat→Prop} {w w':World} (hN:∀ x,N x→x < w.heap.size) {B:Nat} {s:ByteArray} {ev:Value} {t:TypeId} (h:w.heap.size ≤ B) (hB:w'.heap[B]? = some (.cells #[.string ⟨#[65,116,111,105]⟩,.string s,ev] t (0,0))) :
  CRel N w' errC (.iface 105 (.pointer (some ⟨B,0,none⟩))):=by
 refine ⟨_,rfl,B,0,.string ⟨#[65,116,111,105]⟩,rfl,fun hx=>?_,?_,rfl,rfl,fun j hj=>?_⟩
 ·have:=hN _ hx;omega
 ·rcases Nat.lt_or_ge B w'.heap.size with h' | h'
  ·exact h'
  ·rw [Array.getElem?_eq_none h'] at hB;cases hB
 ·obtain rfl:j=0:=by
   have:(Value.string ⟨#[65,116,111,105]⟩).cells.size=1:=rfl
   omega
  show World.cell? w' ⟨B,0 + 0,none⟩=_
  unfold World.cell?
  rw [hB]
  rfl
theorem xAtoi_ok {args:List AVal} {pbs:List PB} {ret:Ret} (h:xAtoi args pbs=some ret):FnOk Tryz.prog none none 65 args pbs ret:=by
 unfold xAtoi at h
 split at h
 ·rename_i s
  obtain ⟨hn,h⟩:=br_none h
  have hn:=of_decide_eq_true hn
  cases h
  refine FnOk.ofCalls (cs:=[.str s]) Tryz.func65 (by kernel_rfl) rfl ?_
  intro N w vs hN hid hok hcs
  obtain ⟨u,us,rfl,hu,_,hus⟩:=hcs
  obtain rfl:us=[]:=hus
  obtain rfl:u=.string ⟨s.toArray⟩:=hu
  obtain ⟨e1,hv1,he1⟩:=hok.2.2.1
  obtain ⟨e2,hv2,he2⟩:=hok.2.2.2
  have hsz:(⟨s.toArray⟩:ByteArray).size=s.length:=by simp [ByteArray.size]
  have hda:(⟨s.toArray⟩:ByteArray).data.toList=s:=by simp
  have h172:laysAtoi_ren.f 172=65:=rfl
  unfold atoiC
  cases hc:Lib.atoiAll s with
  |ok v=>
   refine (Any.strconv_Atoi_ok laysAtoi ⟨s.toArray⟩ (by rw [hsz];omega) v (by rw [hda];exact hc) w).mono ?_
   rintro e w' ⟨rfl,hw⟩
   refine ⟨_,rfl,⟨[.int .i64 v,.nilIface],rfl,_,_,rfl,rfl,(fun h=>by cases h),_,_,rfl,rfl,(fun h=>by cases h),rfl⟩,?_⟩
   rcases hw with rfl | ⟨t,rfl⟩
   ·exact RowKit.Below.refl _ _
   ·exact Lib.bytesWorld_below _ _ _
  |«syntax»=>
   refine (Any.strconv_Atoi_syntax laysAtoi ⟨s.toArray⟩ (by rw [hsz];exact hn) (by rw [hda];exact hc) e1 w hv1 he1).mono ?_
   rintro e w' ⟨B,rfl,hB,hc2,hbel⟩
   exact ⟨_,rfl,⟨[.int .i64 0,.iface 105 (.pointer (some ⟨B,0,none⟩))],rfl,_,_,rfl,rfl,(fun h=>by cases h),_,_,rfl,err_rel hN hB hc2,(fun h=>by cases h),rfl⟩,hbel⟩
  |range=>
   refine (Any.strconv_Atoi_range laysAtoi ⟨s.toArray⟩ (by rw [hsz];exact hn) (by rw [hda];exact hc) e2 w hv2 he2).mono ?_
   rintro e w' ⟨B,rfl,hB,hc2,hbel⟩
   have hsat:Lib.atoiSat (⟨s.toArray⟩:ByteArray).data.toList=Lib.atoiSat s:=by rw [hda]
   rw [hsat]
   exact ⟨_,rfl,⟨[.int .i64 (Lib.atoiSat s),.iface 105 (.pointer (some ⟨B,0,none⟩))],rfl,_,_,rfl,rfl,(fun h=>by cases h),_,_,rfl,err_rel hN hB hc2,(fun h=>by cases h),rfl⟩,hbel⟩
 ·cases h
end Go.Proofs.YtegbnddjgifcdaaGreatDoor.Abs
