/- same.number by hand: the walk. -/
import Derived.Test.YtgmbfnlhmnpciaaDoorSmA
import Derived.Test.YtgmbfnlhmnpciaaDoorTys
import Derived.WalkKit
import Derived.Lib.Walk
import Derived.Shelf.RegionOpenPlain
import Derived.Shelf.Strings.Prefix
import Derived.Shelf.Strings.SlTrimAscii
import Derived.Shelf.Strconv.Atoi
import Derived.Lib.SmallJoins
set_option linter.unusedVariables false
namespace Go.Proofs.YtgmbfnlhmnpciaaDoor
open Go.Ex Go.RowKit Go.Shelf
set_option maxRecDepth 100000
def layTP_ren:Go.Shelf.Ren:=⟨fun|101=>47|206=>80|208=>61|n=>n,fun|3=>3|4=>4|9=>9|n=>n,fun|n=>n⟩
theorem layTP:Go.Proofs.Lays.n101 Tryd.prog layTP_ren:={
  mixed:=by kernel_rfl,
  f101:=Tryd.func47.trans (congrArg some (by kernel_rfl)),
  f206:=Tryd.func80.trans (congrArg some (by kernel_rfl)),
  f208:=Tryd.func61.trans (congrArg some (by kernel_rfl)),
  t3:=Tryd.underlying3,
  a3:=Tryd.isAgg3,
  z3:=Tryd.sizeOf3,
  v3:=Tryd.zeroValue3,
  t4:=Tryd.underlying4,
  a4:=Tryd.isAgg4,
  z4:=Tryd.sizeOf4,
  v4:=Tryd.zeroValue4,
  t9:=Tryd.underlying9,
  a9:=Tryd.isAgg9,
  z9:=Tryd.sizeOf9,
  v9:=Tryd.zeroValue9 }
def layTrim_ren:Go.Shelf.Ren:=⟨fun|119=>109|120=>100|137=>108|151=>82|152=>99|160=>48|197=>77|217=>95|224=>97|225=>96|227=>64|228=>81|231=>62|232=>63|233=>65|234=>66|235=>67|236=>68|260=>94|266=>106|271=>83|n=>n,fun|0=>0|3=>3|4=>4|5=>5|9=>9|21=>21|46=>136|105=>121|116=>106|117=>107|119=>146|124=>110|138=>148|139=>149|n=>n,fun|3=>4|4=>5|n=>n⟩
theorem layTrim:Go.Proofs.Lays.n160 Tryd.prog layTrim_ren:={
  mixed:=by kernel_rfl,
  f119:=Tryd.func109.trans (congrArg some (by kernel_rfl)),
  f120:=Tryd.func100.trans (congrArg some (by kernel_rfl)),
  f137:=Tryd.func108.trans (congrArg some (by kernel_rfl)),
  f151:=Tryd.func82.trans (congrArg some (by kernel_rfl)),
  f152:=Tryd.func99.trans (congrArg some (by kernel_rfl)),
  f160:=Tryd.func48.trans (congrArg some (by kernel_rfl)),
  f197:=Tryd.func77.trans (congrArg some (by kernel_rfl)),
  f217:=Tryd.func95.trans (congrArg some (by kernel_rfl)),
  f224:=Tryd.func97.trans (congrArg some (by kernel_rfl)),
  f225:=Tryd.func96.trans (congrArg some (by kernel_rfl)),
  f227:=Tryd.func64.trans (congrArg some (by kernel_rfl)),
  f228:=Tryd.func81.trans (congrArg some (by kernel_rfl)),
  f231:=Tryd.func62.trans (congrArg some (by kernel_rfl)),
  f232:=Tryd.func63.trans (congrArg some (by kernel_rfl)),
  f233:=Tryd.func65.trans (congrArg some (by kernel_rfl)),
  f234:=Tryd.func66.trans (congrArg some (by kernel_rfl)),
  f235:=Tryd.func67.trans (congrArg some (by kernel_rfl)),
  f236:=Tryd.func68.trans (congrArg some (by kernel_rfl)),
  f260:=Tryd.func94.trans (congrArg some (by kernel_rfl)),
  f266:=Tryd.func106.trans (congrArg some (by kernel_rfl)),
  f271:=Tryd.func83.trans (congrArg some (by kernel_rfl)),
  t0:=Tryd.underlying0,
  a0:=Tryd.isAgg0,
  z0:=Tryd.sizeOf0,
  v0:=Tryd.zeroValue0,
  t3:=Tryd.underlying3,
  a3:=Tryd.isAgg3,
  z3:=Tryd.sizeOf3,
  v3:=Tryd.zeroValue3,
  t4:=Tryd.underlying4,
  a4:=Tryd.isAgg4,
  z4:=Tryd.sizeOf4,
  v4:=Tryd.zeroValue4,
  t5:=Tryd.underlying5,
  a5:=Tryd.isAgg5,
  z5:=Tryd.sizeOf5,
  v5:=Tryd.zeroValue5,
  t9:=Tryd.underlying9,
  a9:=Tryd.isAgg9,
  z9:=Tryd.sizeOf9,
  v9:=Tryd.zeroValue9,
  t21:=Tryd.underlying21,
  a21:=Tryd.isAgg21,
  z21:=Tryd.sizeOf21,
  v21:=Tryd.zeroValue21,
  t46:=Tryd.underlying136,
  a46:=Tryd.isAgg136,
  z46:=Tryd.sizeOf136,
  v46:=Tryd.zeroValue136,
  t105:=Tryd.underlying121,
  a105:=Tryd.isAgg121,
  z105:=Tryd.sizeOf121,
  v105:=Tryd.zeroValue121,
  t116:=Tryd.underlying106,
  a116:=Tryd.isAgg106,
  z116:=Tryd.sizeOf106,
  t117:=Tryd.underlying107,
  a117:=Tryd.isAgg107,
  z117:=Tryd.sizeOf107,
  v117:=Tryd.zeroValue107,
  t119:=Tryd.underlying146,
  a119:=Tryd.isAgg146,
  z119:=Tryd.sizeOf146,
  t124:=Tryd.underlying110,
  a124:=Tryd.isAgg110,
  z124:=Tryd.sizeOf110,
  v124:=Tryd.zeroValue110,
  t138:=Tryd.underlying148,
  a138:=Tryd.isAgg148,
  z138:=Tryd.sizeOf148,
  v138:=Tryd.zeroValue148,
  t139:=Tryd.underlying149,
  a139:=Tryd.isAgg149,
  z139:=Tryd.sizeOf149,
  v139:=Tryd.zeroValue149,
  g3:=by kernel_rfl,
  g4:=by kernel_rfl }
def layAtoi_ren:Go.Shelf.Ren:=⟨fun|129=>90|171=>21|172=>49|205=>103|243=>34|244=>69|245=>70|246=>56|247=>84|279=>85|280=>86|281=>87|282=>88|283=>72|284=>73|285=>74|286=>75|287=>101|316=>102|317=>89|318=>91|319=>92|320=>93|321=>110|322=>111|337=>104|338=>105|n=>n,fun|0=>0|2=>2|3=>3|4=>4|5=>5|9=>9|20=>20|21=>21|37=>117|46=>136|51=>134|53=>114|75=>93|76=>94|80=>161|85=>127|127=>155|143=>156|145=>158|167=>126|168=>129|171=>113|173=>118|175=>139|210=>143|212=>133|213=>135|232=>159|233=>160|n=>n,fun|15=>2|16=>3|17=>0|18=>6|19=>7|n=>n⟩
theorem layAtoi:Go.Proofs.Lays.n172 Tryd.prog layAtoi_ren:={
  mixed:=by kernel_rfl,
  f129:=Tryd.func90.trans (congrArg some (by kernel_rfl)),
  f171:=Tryd.func21.trans (congrArg some (by kernel_rfl)),
  f172:=Tryd.func49.trans (congrArg some (by kernel_rfl)),
  f205:=Tryd.func103.trans (congrArg some (by kernel_rfl)),
  f243:=Tryd.func34.trans (congrArg some (by kernel_rfl)),
  f244:=Tryd.func69.trans (congrArg some (by kernel_rfl)),
  f245:=Tryd.func70.trans (congrArg some (by kernel_rfl)),
  f246:=Tryd.func56.trans (congrArg some (by kernel_rfl)),
  f247:=Tryd.func84.trans (congrArg some (by kernel_rfl)),
  f279:=Tryd.func85.trans (congrArg some (by kernel_rfl)),
  f280:=Tryd.func86.trans (congrArg some (by kernel_rfl)),
  f281:=Tryd.func87.trans (congrArg some (by kernel_rfl)),
  f282:=Tryd.func88.trans (congrArg some (by kernel_rfl)),
  f283:=Tryd.func72.trans (congrArg some (by kernel_rfl)),
  f284:=Tryd.func73.trans (congrArg some (by kernel_rfl)),
  f285:=Tryd.func74.trans (congrArg some (by kernel_rfl)),
  f286:=Tryd.func75.trans (congrArg some (by kernel_rfl)),
  f287:=Tryd.func101.trans (congrArg some (by kernel_rfl)),
  f316:=Tryd.func102.trans (congrArg some (by kernel_rfl)),
  f317:=Tryd.func89.trans (congrArg some (by kernel_rfl)),
  f318:=Tryd.func91.trans (congrArg some (by kernel_rfl)),
  f319:=Tryd.func92.trans (congrArg some (by kernel_rfl)),
  f320:=Tryd.func93.trans (congrArg some (by kernel_rfl)),
  f321:=Tryd.func110.trans (congrArg some (by kernel_rfl)),
  f322:=Tryd.func111.trans (congrArg some (by kernel_rfl)),
  f337:=Tryd.func104.trans (congrArg some (by kernel_rfl)),
  f338:=Tryd.func105.trans (congrArg some (by kernel_rfl)),
  t0:=Tryd.underlying0,
  a0:=Tryd.isAgg0,
  z0:=Tryd.sizeOf0,
  v0:=Tryd.zeroValue0,
  t2:=Tryd.underlying2,
  a2:=Tryd.isAgg2,
  z2:=Tryd.sizeOf2,
  v2:=Tryd.zeroValue2,
  t3:=Tryd.underlying3,
  a3:=Tryd.isAgg3,
  z3:=Tryd.sizeOf3,
  v3:=Tryd.zeroValue3,
  t4:=Tryd.underlying4,
  a4:=Tryd.isAgg4,
  z4:=Tryd.sizeOf4,
  v4:=Tryd.zeroValue4,
  t5:=Tryd.underlying5,
  a5:=Tryd.isAgg5,
  z5:=Tryd.sizeOf5,
  v5:=Tryd.zeroValue5,
  t9:=Tryd.underlying9,
  a9:=Tryd.isAgg9,
  z9:=Tryd.sizeOf9,
  v9:=Tryd.zeroValue9,
  t20:=Tryd.underlying20,
  a20:=Tryd.isAgg20,
  z20:=Tryd.sizeOf20,
  v20:=Tryd.zeroValue20,
  t21:=Tryd.underlying21,
  a21:=Tryd.isAgg21,
  z21:=Tryd.sizeOf21,
  v21:=Tryd.zeroValue21,
  t37:=Tryd.underlying117,
  a37:=Tryd.isAgg117,
  z37:=Tryd.sizeOf117,
  v37:=Tryd.zeroValue117,
  t46:=Tryd.underlying136,
  a46:=Tryd.isAgg136,
  z46:=Tryd.sizeOf136,
  v46:=Tryd.zeroValue136,
  t51:=Tryd.underlying134,
  a51:=Tryd.isAgg134,
  z51:=Tryd.sizeOf134,
  v51:=Tryd.zeroValue134,
  t53:=Tryd.underlying114,
  a53:=Tryd.isAgg114,
  z53:=Tryd.sizeOf114,
  v53:=Tryd.zeroValue114,
  t75:=Tryd.underlying93,
  a75:=Tryd.isAgg93,
  z75:=Tryd.sizeOf93,
  v75:=Tryd.zeroValue93,
  t76:=Tryd.underlying94,
  a76:=Tryd.isAgg94,
  z76:=Tryd.sizeOf94,
  v76:=Tryd.zeroValue94,
  t85:=Tryd.underlying127,
  a85:=Tryd.isAgg127,
  z85:=Tryd.sizeOf127,
  v85:=Tryd.zeroValue127,
  t127:=Tryd.underlying155,
  a127:=Tryd.isAgg155,
  z127:=Tryd.sizeOf155,
  v127:=Tryd.zeroValue155,
  t143:=Tryd.underlying156,
  a143:=Tryd.isAgg156,
  z143:=Tryd.sizeOf156,
  v143:=Tryd.zeroValue156,
  t145:=Tryd.underlying158,
  a145:=Tryd.isAgg158,
  z145:=Tryd.sizeOf158,
  v145:=Tryd.zeroValue158,
  t167:=Tryd.underlying126,
  a167:=Tryd.isAgg126,
  z167:=Tryd.sizeOf126,
  v167:=Tryd.zeroValue126,
  t168:=Tryd.underlying129,
  a168:=Tryd.isAgg129,
  z168:=Tryd.sizeOf129,
  v168:=Tryd.zeroValue129,
  t171:=Tryd.underlying113,
  a171:=Tryd.isAgg113,
  z171:=Tryd.sizeOf113,
  v171:=Tryd.zeroValue113,
  t173:=Tryd.underlying118,
  a173:=Tryd.isAgg118,
  z173:=Tryd.sizeOf118,
  v173:=Tryd.zeroValue118,
  t175:=Tryd.underlying139,
  a175:=Tryd.isAgg139,
  z175:=Tryd.sizeOf139,
  v175:=Tryd.zeroValue139,
  t210:=Tryd.underlying143,
  a210:=Tryd.isAgg143,
  z210:=Tryd.sizeOf143,
  v210:=Tryd.zeroValue143,
  t212:=Tryd.underlying133,
  a212:=Tryd.isAgg133,
  z212:=Tryd.sizeOf133,
  v212:=Tryd.zeroValue133,
  t213:=Tryd.underlying135,
  a213:=Tryd.isAgg135,
  z213:=Tryd.sizeOf135,
  t232:=Tryd.underlying159,
  a232:=Tryd.isAgg159,
  z232:=Tryd.sizeOf159,
  v232:=Tryd.zeroValue159,
  t233:=Tryd.underlying160,
  a233:=Tryd.isAgg160,
  z233:=Tryd.sizeOf160,
  v233:=Tryd.zeroValue160,
  g15:=by kernel_rfl,
  g16:=by kernel_rfl,
  g17:=by kernel_rfl,
  g18:=by kernel_rfl,
  g19:=by kernel_rfl }
theorem in_calls (n a b:Int) (r:Bool) (hr:(decide (a≤n) && decide (n≤b))=r) (w:World):Calls Tryd.prog 28 #[.int .i64 n,.int .i64 a,.int .i64 b] w fun e w'=>e=.returned (.bool r)∧w'=w:=by
  go_enter Tryd.func28,Tryd.ntmps28
  by_cases h1:a≤n<;>by_cases h2:n≤b
  all_goals
    go_wp2
    go_ret
    rw [← hr]
    simp [h1,h2]

theorem trim_calls (d:List UInt8) (cs:ByteArray) (hcs:cs.data.toList=digs) (h1:1≤d.length) (h2:d.length≤9) (w:World):Calls Tryd.prog 48 #[.string ⟨d.toArray⟩,.string cs] w fun e w'=>e=.returned (.string ⟨(Lib.trimS d digs).toArray⟩)∧Past [] w w':=by
  have hcl:cs.size=10:=by
    have:cs.size=cs.data.toList.length:=by rw [Array.length_toList]; rfl
    rw [this,hcs]; rfl
  have h116:(Tryd.prog.info? (layTrim_ren.t 116)).map (fun i=>(i.zero,i.size))=some (some (.agg (Array.replicate 256 (.bool false))),256):=by kernel_rfl
  refine (Any.strings_Trim_set layTrim (zero_of_info h116).1 (zero_of_info h116).2 ⟨d.toArray⟩ cs w (by omega) (by simp [ByteArray.size]; omega) (by simp [ByteArray.size]; omega) (by omega) (ascii_of_all (by rw [hcs]; decide))).mono ?_
  rintro e w' ⟨rfl,q,rfl⟩
  rw [hcs]
  have key:∀ (o1 o2:Obj) (q:Nat),Past [] w (((w.alloc o1).alloc o2).drewN q):=fun o1 o2 q=>by
    have hA:Past [] w (w.alloc o1):=Past.push o1
    have hB:Past [] (w.alloc o1) ((w.alloc o1).alloc o2):=Past.push o2
    have hD:Past [] ((w.alloc o1).alloc o2) (((w.alloc o1).alloc o2).drewN q):=⟨rfl,⟨rfl,Nat.le_add_right _ _⟩,rfl,Nat.le_refl _,fun _ _ _=>rfl⟩
    exact (hA.trans hB (fun b h=>absurd h (by simp))).trans hD (fun b h=>absurd h (by simp))
  exact ⟨rfl,key _ _ _⟩
theorem atoi_calls (s:ByteArray) (n:Int) (h1:s.size≤18) (h:Lib.atoi s.data.toList=some n) (w:World):Calls Tryd.prog 49 #[.string s] w fun e w'=>e=.returned (.tuple #[.int .i64 n,.nilIface])∧Past [] w w':=by
  refine (Any.strconv_Atoi layAtoi s n h1 h w).mono ?_
  rintro e w' ⟨rfl,t,rfl⟩
  exact ⟨rfl,rfl,⟨rfl,Nat.le_succ _⟩,rfl,by rw [Lib.bytesWorld_size]; omega,fun j hj _=>Lib.bytesWorld_at_old w _ t j hj⟩
set_option maxHeartbeats 1000000 in
theorem number_calls (s:ByteArray) (hs:s.size≤4294967280) (w:World):Calls Tryd.prog 27 #[.string s] w fun e w'=>e=.returned (.tuple #[.int .i64 (numF s.data.toList).1,.bool (numF s.data.toList).2])∧Past [] w w':=by
  obtain ⟨d,hd⟩:∃ d,tailN s.data.toList=d:=⟨_,rfl⟩
  have hdl:d.length≤s.size:=by
    rw [← hd]
    unfold tailN Lib.trimPrefix
    have:s.size=s.data.toList.length:=by rw [Array.length_toList]; rfl
    split
    · rw [List.length_drop]; omega
    · omega
  go_enter Tryd.func27,Tryd.ntmps27
  go_wp2_with (go_at_call 47; refine (Any.strings_TrimPrefix layTP s ⟨#[45]⟩ _).mono ?_; rintro e w' ⟨rfl,rfl⟩)
  rw [show Lib.trimPrefix s.data.toList [45]=d from hd]
  by_cases hl:1≤d.length∧d.length≤9
  · refine (in_calls _ _ _ true (by rw [Bool.and_eq_true,decide_eq_true_eq,decide_eq_true_eq]; omega) _).mono ?_
    rintro e w' ⟨rfl,rfl⟩
    cases hg:goodN s.data.toList with
    | true =>
      obtain ⟨g1,n,g2,g3,g4⟩:=good_atoi hg
      have g0:s.size≤18:=by
        have:s.size=s.data.toList.length:=by rw [Array.length_toList]; rfl
        omega
      have ht:Lib.trimS d digs=[]:=by
        rw [trimS_nil,← hd]
        simp only [goodN,Bool.and_eq_true] at hg
        exact hg.2
      have hn:numF s.data.toList=(n,true):=by unfold numF; rw [hg,if_pos rfl,g2]; rfl
      go_wp2_with (first
        | (go_at_call 48; refine (trim_calls d _ ?hcs hl.1 hl.2 _).mono ?hpost; (case hcs=>rfl); rintro e w2 ⟨rfl,hp⟩; rw [ht])
        | (go_at_call 49; refine (atoi_calls s n g0 g2 _).mono ?_; rintro e w3 ⟨rfl,hp2⟩))
      go_region
      all_goals go_wp2
      go_ret2
      refine ⟨by rw [hn]; rfl,(hp.trans hp2 (fun b h=>by cases h)).trans Past.drew (fun b h=>by cases h)⟩
    | false =>
      have hn:numF s.data.toList=(0,false):=by unfold numF; rw [hg]; rfl
      have ht:∃ x l,Lib.trimS d digs=x::l:=by
        cases h:Lib.trimS d digs with
        | cons x l=>exact ⟨x,l,rfl⟩
        | nil =>
          exfalso
          rw [trimS_nil] at h
          have:goodN s.data.toList=true:=by
            simp only [goodN,hd,Bool.and_eq_true,decide_eq_true_eq]
            exact ⟨hl,h⟩
          rw [this] at hg; cases hg
      obtain ⟨x,l,ht⟩:=ht
      go_wp2_with (go_at_call 48; fail)
      refine (trim_calls d _ ?_ hl.1 hl.2 _).mono ?_
      · rfl
      rintro e w2 ⟨rfl,hp⟩
      rw [ht]
      go_wp2
      go_ret2
      exact ⟨by rw [hn]; rfl,hp⟩
  · have hn:numF s.data.toList=(0,false):=by
      unfold numF goodN
      rw [if_neg]
      simp only [Bool.and_eq_true,decide_eq_true_eq,hd]
      exact fun h=>hl h.1
    refine (in_calls _ _ _ false (by rw [Bool.and_eq_false_iff,decide_eq_false_iff_not,decide_eq_false_iff_not]; omega) _).mono ?_
    rintro e w' ⟨rfl,rfl⟩
    go_wp2
    go_ret2
    exact ⟨by rw [hn]; rfl,rfl,.refl _,rfl,Nat.le_refl _,fun _ _ _=>rfl⟩
def cnumber:Ctr:={ ps:=[.v .str],rs:=[I64,.bool],pre:=fun x=>List.length (α:=UInt8) x.1≤4294967280,fn:=fun x=>((numF x.1).1,(numF x.1).2,()),out:=fun _=>() }
theorem numF_in (s:List UInt8):inK .i64 (numF s).1:=by
  unfold numF
  split
  · rename_i h
    obtain ⟨-,n,e,h1,h2⟩:=good_atoi h
    rw [e]
    exact ⟨by show -9223372036854775808≤n; omega,by show n≤9223372036854775807; omega⟩
  · exact ⟨by decide,by decide⟩
theorem cnumber_valid:cnumber.Valid Tryd.prog 27:=by
  refine ⟨⟨_,Tryd.func27,by kernel_rfl,by kernel_rfl⟩,?_,fun h=>by cases h⟩
  rintro w S vs ⟨(s:List UInt8),⟨⟩⟩ L hS hgl (hlen:s.length≤4294967280) ⟨v1,us,L1,L2,rfl,rfl,⟨rfl,cs,rfl,r1⟩,rfl,rfl⟩ - hnd hL
  obtain ⟨-,rfl,hs⟩:=r1
  refine (number_calls ⟨s.toArray⟩ (by simpa [ByteArray.size] using hlen) w).mono ?_
  rintro e w' ⟨rfl,hp⟩
  refine ⟨[.int .i64 (numF s).1,.bool (numF s).2],[],[],S,rfl,hp,fun _ h=>h,fun b h=>.inl h,⟨_,_,[],[],[.int .i64 (numF s).1],rfl,rfl,rfl,⟨rfl,rfl,numF_in s⟩,_,_,[],[],[.bool (numF s).2],rfl,rfl,rfl,⟨rfl,rfl⟩,rfl,rfl⟩,⟨_,[],rfl,rfl,rfl⟩,by simp,by simp⟩
end Go.Proofs.YtgmbfnlhmnpciaaDoor
