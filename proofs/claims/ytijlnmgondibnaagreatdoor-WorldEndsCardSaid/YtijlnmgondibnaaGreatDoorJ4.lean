import Derived.Test.YtijlnmgondibnaaGreatDoorJ3
set_option linter.unusedVariables false
set_option linter.unusedSimpArgs false
set_option linter.unusedSectionVars false
namespace Go.Proofs.YtijlnmgondibnaaGreatDoor
open Go.Ex
set_option maxRecDepth 100000
attribute [local irreducible] Go.Ex.exec
def IX:r9:={ ps:=[.v (.d0 false o7),.v o7],rs:=[f7],pre:=λ _=>True,fn:=λ x=>(idxOf (λ y=>decide ((show s8 from x.2.1)=y)) x.1,()),out:=λ _=>() }
noncomputable def EC:Env:={ P:=Tryz.prog,tt:=tt,E3:=[],res:=[Go.ResultVar.tmp 4],rs:=[Ty.int IntKind.i64],ps:=[PK.v K5,PK.v o7],D5:=[(2,[(0,none),(3,none),(7,none),(8,none)])],nt:=19 }
theorem a87:B8 EC:=C4 s7 trivial
theorem Lk:D7 EC Tryz.f55:=⟨rfl,rfl⟩
theorem YU (x0:List (Int×yY×Unit)) (bz:Int) (aJ:yY):exec EC 1000 [.code (d8 Tryz.prog 55)] (w9 IX.ps ((x0,(bz,aJ,()),()))) =
  .ctL (f9 (d8 Tryz.prog 55) 2) (St.mk [(0,AV.val K5 x0),(3,AV.ptr 3 []),(7,AV.val f7 (↑(List.length x0):Int)),(8,AV.val f7 (0:Int))] [(3,g9.var o7 (bz,aJ,()))]):=by kernel_rfl
def Rv (v0:List (Int×yY×Unit)) (v7:Int) (v8:Int) (bY:Int) (aQ:yY):St:=St.mk [(0,AV.val K5 v0),(3,AV.ptr 3 []),(7,AV.val f7 v7),(8,AV.val f7 v8)] [(3,g9.var o7 (bY,aQ,()))]
theorem Zo (v0:List (Int×yY×Unit)) (v7:Int) (v8:Int) (bY:Int) (aQ:yY):exec EC 1000 (.code (f9 (d8 Tryz.prog 55) 2).1::.inLoop (f9 (d8 Tryz.prog 55) 2).1::(f9 (d8 Tryz.prog 55) 2).2) (Rv v0 v7 v8 bY aQ) =
  cond (decide (v8<v7)) (.f8 ((0:Int)<=v8/\v8<(↑(List.length v0):Int)) (cond (eqD o7 (bY,aQ,()) (List.getD v0 (Int.toNat v8) ((0:Int),[],()))) (.ret ((v8,()))) (.f8 (w4 IntKind.i64 (v8+(1:Int))) (.ctL (f9 (d8 Tryz.prog 55) 2) (St.mk [(0,AV.val K5 v0),(3,AV.ptr 3 []),(7,AV.val f7 v7),(8,AV.val f7 (v8+(1:Int)))] [(3,g9.var o7 (bY,aQ,()))]))))) (.ret (((-1:Int),()))):=by kernel_rfl
theorem b63:IX.Valid Tryz.prog 55:=by
  refine r9.p7 a87 rfl rfl Tryz.func55 (c:=d8 Tryz.prog 55) rfl rfl Lk rfl ?_;rintro ⟨(l:List (s8)),(x:s8),⟨⟩⟩ - ⟨⟨hl,-⟩,-⟩;have hl:l.length<=9223372036854775807:=hl;refine j6 (n:=1000) a87 Lk ?_;refine i7 (YU l x.1 x.2.1) ?_;refine Reach.N4 a87 Lk (λ i:Nat=>Rv l  (l.length:Int) (i:Int) x.1 x.2.1) (λ i=>i<=l.length/\idxOf (λ y=>decide (x=y)) l=X9 (λ y=>decide (x=y)) (l.drop i) i)
    (λ i=>l.length - i) 1000 (λ _=>⟨w6 rfl,w6 rfl⟩) ?_ 0 ⟨by omega,rfl⟩
  rintro i ⟨k1,k2⟩ - ih;refine i7 (Zo ..) ?_;simp only [j7,Tree.holds,sL];refine ⟨λ h=>?_,λ h=>?_⟩
  . rw [FF (show i<l.length by omega) (0,[],()),X9] at k2;have key:∀ b:Bool,(b=true↔x=l.getD i (0,[],()))->(b=true->(((i:Int),()):Int×Unit)=(idxOf (λ y=>decide (x=y)) l,()))/\(b=false->idxOf (λ y=>decide (x=y)) l=X9 (λ y=>decide (x=y)) (l.drop (i+1)) (i+1)):=λ b hb=>by
      refine ⟨λ c=>?_,λ c=>?_⟩
      . rw [k2,if_pos (decide_eq_true (hb.1 c))]
      . rw [k2,if_neg (λ h9=>by rw [hb.2 (of_decide_eq_true h9)] at c; cases c)]
    refine ⟨by omega,λ _=>⟨λ c=>?_,λ c=>⟨by omega,λ _=>ih (i+1) ⟨by omega,?_⟩ (by omega)⟩⟩⟩
    . exact (key true ⟨λ _=>Ks.1 c,λ _=>rfl⟩).1 rfl
    . exact (key false ⟨λ h9=>(by cases h9),λ h9=>(RD c h9).elim⟩).2 rfl
  . rw [aDs (by omega)] at k2;show (((-1:Int),()):Int×Unit)=(idxOf (λ y=>decide (x=y)) l,());rw [k2]; rfl
def JF:r9:={ ps:=[.v (.d0 false o7),.v o7],rs:=[.bool],pre:=λ _=>True,fn:=λ x=>(decide ((show s8 from x.2.1)∈(show List (s8) from x.1)),()),out:=λ _=>() }
noncomputable def Ju:Env:={ P:=Tryz.prog,tt:=tt,E3:=[(55,IX)],res:=[Go.ResultVar.tmp 4],rs:=[Ty.bool],ps:=[PK.v K5,PK.v o7],D5:=[],nt:=9 }
theorem Tq:B8 Ju:=C4 s7 ⟨b63,trivial⟩
theorem TA:D7 Ju Tryz.f27:=⟨rfl,rfl⟩
theorem Zi (x0:List (Int×yY×Unit)) (bz:Int) (aJ:yY):exec Ju 1000 [.code (d8 Tryz.prog 27)] (w9 JF.ps ((x0,(bz,aJ,()),()))) =
  .f8 (True) (.ret ((decide ((0:Int)<=idxOf (λ y=>decide ((bz,aJ,())=y)) x0),()))):=by kernel_rfl
theorem b5F:JF.Valid Tryz.prog 27:=by
  refine r9.p7 Tq rfl rfl Tryz.func27 (c:=d8 Tryz.prog 27) rfl rfl TA rfl ?_;rintro ⟨(l:List (s8)),(x:s8),⟨⟩⟩ - -
  refine j6 (n:=1000) Tq TA ?_;refine i7 (Zi l x.1 x.2.1) ?_;refine ⟨trivial,λ _=>?_⟩;show ((decide (0<=idxOf (λ y=>decide (x=y)) l),()):Bool×Unit)=(decide (x∈l),());rw [EV];have:l.any (λ y=>decide (x=y))=true↔x∈l:=by
    rw [aEr];exact ⟨λ⟨y,h1,h2⟩=>by rw [of_decide_eq_true h2]; exact h1,λ h=>⟨x,h,decide_eq_true rfl⟩⟩
  cases e:l.any (λ y=>decide (x=y)) with
  | true=>rw [decide_eq_true (this.1 e)]
  | false=>rw [decide_eq_false (λ h=>by rw [this.2 h] at e; cases e)]
theorem Ok.drain {said:Nat->List u7}:∀ (k:Nat) {c:Nat} {w:d9},Ok c said w->Ok (c+16*k) said (C2 k w).1
  | 0,c,w,h=>h
  | k+1,c,w,h=>by
    rw [C2]
    split
    . exact h.mono (by omega)
    . split
      . exact (h.yN 0 1).mono (by omega)
      . have:=Ok.drain k (h.yN 0 1);rw [show c+16*(k+1)=c+16+16*k by omega];exact this
theorem Sx:∀ (k:Nat) {w:d9},(C2 k w).1.2.1.length=w.2.1.length
  | 0,w=>rfl
  | k+1,w=>by
    rw [C2]
    split
    . rfl
    . split
      . exact (Dm w 0 1).len
      . exact (Sx k).trans (Dm w 0 1).len
theorem XD {α:Type} {d:α} {l:List α} {k:Nat} (h:k<l.length):l.getD k d∈l:=by
  rw [aAb,aAf h]; exact aCn _
def Ew (p:Int):H6:=(2,p,0,[],())
theorem c4E (w:d9) (p:Int):N6 w (Ew p)=F7 w p:=by
  unfold N6 Ew;rw [if_neg (show ¬ (2:Int)=1 by decide),if_pos rfl]
theorem Ok.again {c:Nat} {said:Nat->List u7} {w:d9} (h:Ok c said w) (p:Int):Ok (c+16) said (F7 w p).1:=by
  have:=(zm h (Ew p)).ok;rw [c4E] at this;have e:Z0 said (Ew p) (F7 w p).2=said:=if_neg (λ c=>absurd c.1 (show ¬ (2:Int)=1 by decide))
  rwa [e] at this
structure Round (said:Nat->List u7) (B:List C7) (S:Nat->List u7) (hs:List Int) (n j i:Nat) (w:d9):Prop where
  le:i<=hs.length
  now:X2 said B S hs (λ q=>j+if (q:Int)∈hs.take i then 1 else 0) (4*(6*j+i)) w
  in_:0<i->∃ v,X2 said B S hs (λ _=>j) (4*(6*j+i)) v/\v.2.2.2.1=[]/\w.1=v.1/\w.2.1=v.2.1
  was:0<j->∃ v,X2 said B S hs (λ _=>j - 1) (4*(6*j+i)) v/\v.2.2.2.1=[]/\w.1=v.1/\w.2.1=v.2.1
  ok:Ok (160016+5000*(6*j+i)) said w
  len:w.2.1.length=n
section
variable {said:Nat->List u7} {B:List C7} {S:Nat->List u7} {hs:List Int} {n j i:Nat} {w:d9}
theorem X2.BB {g g':Nat->Nat} {k k':Nat} (h:X2 said B S hs g k w) (hk:k<=k') (hg:∀ p:Nat,(p:Int)∈hs->g' p<=g p):X2 said B S hs g' k' w:=by
  obtain ⟨R,h1,h2⟩:=h.By;have:=h.cn;refine ⟨h.inv,⟨R,h1,λ p hp=>?_⟩,h.act,h.txt,by omega⟩;have h3:=h2 p hp;have h4:=hg p hp;omega
theorem Round.step (h:Round said B S hs n j i w) (hi:i<hs.length) (hj:j<=60) (hl:hs.length<=6) {p:Nat} (hp:hs.getD i 0=p) :
    (C2 300 w).2=true/\(F7 (C2 300 w).1 p).2=0/\Round said B S hs n j (i+1) (F7 (C2 300 w).1 p).1/\(C2 300 w).1.2.1.length=n:=by
  have gI:=h.now.phi;obtain ⟨d1,d2,d3⟩:=h.now.drain 300 (by omega);have bj:(p:Int)∈hs:=by
    rw [<- hp,aAb,aAf hi]; exact aCn _
  have iM:∀ q:Nat,(q:Int)∈hs.take (i+1)↔(q:Int)∈hs.take i\/q=p:=λ q=>by
    rw [aGd,aAi,aAf hi];have:hs[i]=(p:Int):=by rw [<- hp,aAb,aAf hi]; rfl
    rw [this];constructor
    . rintro (c|c)
      . exact .inl c
      . have:(q:Int)=p:=by simpa using c
        exact .inr (by omega)
    . rintro (c|rfl)
      . exact .inl c
      . exact .inr (by simp)
  obtain ⟨a1,a2,a3,a4⟩:=d2.again d3 (by omega) bj (g':=λ q=>j+if (q:Int)∈hs.take (i+1) then 1 else 0) (λ q=>by
    show j+_<=j+_+_;by_cases c:(q:Int)∈hs.take i
    . rw [if_pos c,if_pos ((iM q).2 (.inl c))]; omega
    . rw [if_neg c];by_cases e:q=p
      . rw [if_pos e]; split<;>omega
      . rw [if_neg e,if_neg (λ c2=>((iM q).1 c2).elim c e)]; omega)
  have fy:=Sx 300 (w:=w);refine ⟨d1,a1,⟨hi,a2.BB (by omega) (λ _ _=>aAk _),λ _=>⟨_,d2.BB (by omega) (λ q _=>by show j<=j+_; omega),d3,a3,a4⟩,λ _=>⟨_,d2.BB (by omega) (λ q _=>by show j - 1<=j+_; omega),d3,a3,a4⟩,?_,by rw [a4]; exact fy.trans h.len⟩,fy.trans h.len⟩;exact ((h.ok.drain 300).again p).mono (by omega)
theorem Round.next (h:Round said B S hs n j hs.length w) (h0:0<hs.length) (hl:hs.length<=6):Round said B S hs n (j+1) 0 w:=by
  refine ⟨aAr _,h.now.BB (by omega) (λ q hq=>?_),λ c=>absurd c (aCk 0),λ _=>?_,h.ok.mono (by omega),h.len⟩
  . rw [aDp,if_pos hq,aFe,if_neg (λ c=>by cases c)]; omega
  . obtain ⟨v,v1,v2,v3,v4⟩:=h.in_ h0;exact ⟨v,v1.BB (by omega) (λ _ _=>by show j+1 - 1<=j; omega),v2,v3,v4⟩
theorem Round.fin (h:Round said B S hs n 60 0 w):∃ L:List C7,∀ p:Nat,(p:Int)∈hs->xd w p=L/\(H5 w p).2.1=[]/\∀ t∈said p,(((p:Int),t,()):C7)∈L:=by
  obtain ⟨v,v1,v2,v3,v4⟩:=h.was (by decide);obtain ⟨L,hL⟩:=v1.fin v2 (by decide);refine ⟨L,λ p hp=>?_⟩;obtain ⟨l1,l2,l3⟩:=hL p hp;refine ⟨?_,?_,l3⟩
  . rw [<- l1];show (w.2.1.getD p g8).2.1=(v.2.1.getD p g8).2.1;rw [v4]
  . rw [<- l2];show (w.2.1.getD p g8).2.2.1.2.1=(v.2.1.getD p g8).2.2.1.2.1;rw [v4]
end
theorem c1L {n:Int} {i:Nat} {s:wg} (hW:Ch n i s) (hV:VOk s.1) (hx:∀ p,∀ t∈W7 s p,t.length<=150) (hi:i<=10000) (br:¬ (P7 s.1).2.1≠0) :
    ∃ B S,Round (W7 s) B S (P8 (C0 s.1) s.2.2 n.toNat) n.toNat 0 0 (C0 s.1):=by
  obtain ⟨B,S,hI,hF,mz,iG⟩:=b9l hW.ok hV br;have fg:=(zm hW.ok Cs).ok;rw [TR,Bj br] at fg;have hlen:(C0 s.1).2.1.length=s.1.2.1.length:=aDh ..;have hl:=hW.len;have dx:∀ p:Nat,(p:Int)∈P8 (C0 s.1) s.2.2 n.toNat->j8 (C0 s.1) p=true:=λ p hp=>by
    obtain ⟨j,h1,h2,h3,h4⟩:=Fx hp;obtain rfl:p=j:=by omega
    refine K4.2 ⟨by omega,h3,?_⟩;have:(C0 s.1).2.1.getD p g8=vD s.1 (J7 s.1 s.1.2.1.length) p (s.1.2.1.getD p g8):=Mv (by omega);rw [this,IW,hW.Q4 p h2];exact decide_eq_false h4
  refine ⟨B,S,aAr _,⟨⟨[],hI⟩,⟨_,hF,λ p _=>?_⟩,dx,λ p hp=>⟨mz p (dx p hp),λ t ht=>?_⟩,by omega⟩,λ c=>absurd c (aCk 0),λ c=>absurd c (aCk 0),?_,by omega⟩
  . rw [aFe,if_neg (λ c=>by cases c)]; omega
  . obtain ⟨g1,g2,-⟩:=K4.1 (dx p hp);have:=(hI.mem p g1 g2).2;exact hx p t (by rw [this]; exact aBs _ ht)
  . have:Z0 (W7 s) Cs 0=W7 s:=if_neg (λ c=>absurd c.1 (show ¬ (5:Int)=1 by decide));rw [this] at fg;exact fg.mono (by omega)
def Tc:r9:={ ps:=[.v f7,.v (.d0 false xo)],rs:=[.bool],pre:=λ _=>True,fn:=λ _=>(true,()),out:=λ _=>() }
noncomputable def xw:Env:={ P:=Tryz.prog,tt:=tt,E3:=[(12,Jd),(13,GH),(23,Cb),(24,Hr),(16,Cr),(25,Ko),(26,EA),(19,DJ),(20,Hv),(21,Ek),(27,JF)],res:=[Go.ResultVar.tmp 4],rs:=[Ty.bool],ps:=[PK.v f7,PK.v (Ty.d0 false xo)],D5:=[(11,[(5,none),(6,some (Ty.d0 true (Ty.d0 true Ty.str))),(9,some Is),(49,none)]),(13,[(5,none),(6,some (Ty.d0 true (Ty.d0 true Ty.str))),(9,some Is),(49,none),(51,some Is),(52,none),(53,none)]),(21,[(5,none),(6,some (Ty.d0 true (Ty.d0 true Ty.str))),(12,some (Ty.d0 true o7)),(76,some Is),(77,none),(78,none)]),(28,[(5,none),(6,some (Ty.d0 true (Ty.d0 true Ty.str))),(12,some (Ty.d0 true o7)),(15,none),(16,some (Ty.d0 true o7)),(76,some Is),(77,none),(78,none),(106,none),(107,none),(108,none)])],nt:=120 }
theorem AW:B8 xw:=C4 s7 ⟨b5A,c2t,UB,b9k,UY,Vi,UM,Ti,b9f,Uy,b5F,trivial⟩
theorem AX:D7 xw Tryz.f5:=⟨rfl,rfl⟩
theorem YH (x0:Int) (x1:List (Int×Int×Int×yY×Unit)):exec xw 1000 [.code (d8 Tryz.prog 5)] (w9 Tc.ps ((x0,x1,()))) =
  .f8 (True) (cond (decide ((10000:Int)<(↑(List.length x1):Int))) (.f8 (True) (.ret ((true,())))) (.f8 (True) (.f8 (((1:Int)<=H8 x0/\H8 x0<=(6:Int))/\List.length x1<=1048576) (.f8 (zr (Subtype.val W9 (H8 x0) x1 (List.length x1)).1) (cond (decide (Prod.snd (M0 (Subtype.val W9 (H8 x0) x1 (List.length x1)).1)≠(0:Int))) (.ret ((true,()))) (.f8 ((0:Int)<=H8 x0/\H8 x0<=(6:Int)) (.ctL (f9 (d8 Tryz.prog 5) 11) (St.mk [(5,AV.ptr 1035 []),(6,AV.at_ 1000006 []),(9,AV.at_ 1000009 []),(49,AV.val f7 (0:Int))] [(1035,g9.var s9 (M0 (Subtype.val W9 (H8 x0) x1 (List.length x1)).1).1),(1000006,g9.own (Ty.d0 true (Ty.d0 true Ty.str)) (Subtype.val W9 (H8 x0) x1 (List.length x1)).2.1),(1000009,g9.own Is (P8 (M0 (Subtype.val W9 (H8 x0) x1 (List.length x1)).1).1 (Subtype.val W9 (H8 x0) x1 (List.length x1)).2.2 (Int.toNat (H8 x0))))])))))))):=by kernel_rfl
def LH (v49:Int) (aE:Int) (aw:Int) (aD:List (Bool×List (Int×yY×Unit)×(Int×List yY×Unit)×(Int×List (Int×yY×Unit)×Unit)×(Int×List (Int×yY×Unit)×Unit)×Unit)) (au:List yY) (ao:List yY) (bD:List (List yY)) (dL:List Int):St:=St.mk [(5,AV.ptr 1035 []),(6,AV.at_ 1000006 []),(9,AV.at_ 1000009 []),(49,AV.val f7 v49)] [(1035,g9.var s9 ((aE,aw,()),aD,au,ao,())),(1000006,g9.own (Ty.d0 true (Ty.d0 true Ty.str)) bD),(1000009,g9.own Is dL)]
theorem c3z (v49:Int) (aE:Int) (aw:Int) (aD:List (Bool×List (Int×yY×Unit)×(Int×List yY×Unit)×(Int×List (Int×yY×Unit)×Unit)×(Int×List (Int×yY×Unit)×Unit)×Unit)) (au:List yY) (ao:List yY) (bD:List (List yY)) (dL:List Int):exec xw 1000 (.code (f9 (d8 Tryz.prog 5) 11).1::.inLoop (f9 (d8 Tryz.prog 5) 11).1::(f9 (d8 Tryz.prog 5) 11).2) (LH v49 aE aw aD au ao bD dL) =
  cond (decide (v49<(60:Int))) (.ctL (f9 (d8 Tryz.prog 5) 13) (St.mk [(5,AV.ptr 1035 []),(6,AV.at_ 1000006 []),(9,AV.at_ 1000051 []),(49,AV.val f7 v49),(51,AV.at_ 1000051 []),(52,AV.val f7 (↑(List.length dL):Int)),(53,AV.val f7 (0:Int))] [(1035,g9.var s9 ((aE,aw,()),aD,au,ao,())),(1000006,g9.own (Ty.d0 true (Ty.d0 true Ty.str)) bD),(1000051,g9.own Is dL)])) (.f8 ((0:Int)<=(0:Int)/\(0:Int)<(↑(List.length dL):Int)) (.f8 (List.length aD<=6/\List.length (xd ((aE,aw,()),aD,au,ao,()) (List.getD dL (Int.toNat (0:Int)) (0:Int)))<=5864062014805) (.ctL (f9 (d8 Tryz.prog 5) 21) (St.mk [(5,AV.ptr 1035 []),(6,AV.at_ 1000006 []),(12,AV.at_ 1000012 []),(76,AV.at_ 1000076 []),(77,AV.val f7 (↑(List.length dL):Int)),(78,AV.val f7 (0:Int))] [(1035,g9.var s9 ((aE,aw,()),aD,au,ao,())),(1000006,g9.own (Ty.d0 true (Ty.d0 true Ty.str)) bD),(1000012,g9.own (Ty.d0 true o7) (wc ((aE,aw,()),aD,au,ao,()) (List.getD dL (Int.toNat (0:Int)) (0:Int))).1),(1000076,g9.own Is dL)])))):=by kernel_rfl
def LI (v49:Int) (Bn:Int) (v53:Int) (aE:Int) (aw:Int) (aD:List (Bool×List (Int×yY×Unit)×(Int×List yY×Unit)×(Int×List (Int×yY×Unit)×Unit)×(Int×List (Int×yY×Unit)×Unit)×Unit)) (au:List yY) (ao:List yY) (bD:List (List yY)) (ep:List Int):St:=St.mk [(5,AV.ptr 1035 []),(6,AV.at_ 1000006 []),(9,AV.at_ 1000051 []),(49,AV.val f7 v49),(51,AV.at_ 1000051 []),(52,AV.val f7 Bn),(53,AV.val f7 v53)] [(1035,g9.var s9 ((aE,aw,()),aD,au,ao,())),(1000006,g9.own (Ty.d0 true (Ty.d0 true Ty.str)) bD),(1000051,g9.own Is ep)]
theorem c3y (v49:Int) (Bn:Int) (v53:Int) (aE:Int) (aw:Int) (aD:List (Bool×List (Int×yY×Unit)×(Int×List yY×Unit)×(Int×List (Int×yY×Unit)×Unit)×(Int×List (Int×yY×Unit)×Unit)×Unit)) (au:List yY) (ao:List yY) (bD:List (List yY)) (ep:List Int):exec xw 1000 (.code (f9 (d8 Tryz.prog 5) 13).1::.inLoop (f9 (d8 Tryz.prog 5) 13).1::(f9 (d8 Tryz.prog 5) 13).2) (LI v49 Bn v53 aE aw aD au ao bD ep) =
  cond (decide (v53<Bn)) (.f8 ((0:Int)<=v53/\v53<(↑(List.length ep):Int)) (.f8 (Fit (300:Int) ((aE,aw,()),aD,au,ao,())) (cond (!Prod.snd (Subtype.val wO (Int.toNat (300:Int)) ((aE,aw,()),aD,au,ao,()))) (.ret ((false,()))) (.f8 (List.length (Prod.snd (Subtype.val wO (Int.toNat (300:Int)) ((aE,aw,()),aD,au,ao,())).1).1<=6) (cond (decide (Prod.snd (F7 (Subtype.val wO (Int.toNat (300:Int)) ((aE,aw,()),aD,au,ao,())).1 (List.getD ep (Int.toNat v53) (0:Int)))≠(0:Int))) (.ret ((false,()))) (.f8 (w4 IntKind.i64 (v53+(1:Int))) (.ctL (f9 (d8 Tryz.prog 5) 13) (St.mk [(5,AV.ptr 1035 []),(6,AV.at_ 1000006 []),(9,AV.at_ 1000051 []),(49,AV.val f7 v49),(51,AV.at_ 1000051 []),(52,AV.val f7 Bn),(53,AV.val f7 (v53+(1:Int)))] [(1035,g9.var s9 (F7 (Subtype.val wO (Int.toNat (300:Int)) ((aE,aw,()),aD,au,ao,())).1 (List.getD ep (Int.toNat v53) (0:Int))).1),(1000006,g9.own (Ty.d0 true (Ty.d0 true Ty.str)) bD),(1000051,g9.own Is ep)])))))))) (.f8 (w4 IntKind.i64 (v49+(1:Int))) (.ctL (f9 (d8 Tryz.prog 5) 11) (St.mk [(5,AV.ptr 1035 []),(6,AV.at_ 1000006 []),(9,AV.at_ 1000009 []),(49,AV.val f7 (v49+(1:Int)))] [(1035,g9.var s9 ((aE,aw,()),aD,au,ao,())),(1000006,g9.own (Ty.d0 true (Ty.d0 true Ty.str)) bD),(1000009,g9.own Is ep)]))):=by kernel_rfl
def LJ (xi:Int) (vz:Int) (aE:Int) (aw:Int) (aD:List (Bool×List (Int×yY×Unit)×(Int×List yY×Unit)×(Int×List (Int×yY×Unit)×Unit)×(Int×List (Int×yY×Unit)×Unit)×Unit)) (au:List yY) (ao:List yY) (bD:List (List yY)) (dA:List (Int×yY×Unit)) (bR:List Int):St:=St.mk [(5,AV.ptr 1035 []),(6,AV.at_ 1000006 []),(12,AV.at_ 1000012 []),(76,AV.at_ 1000076 []),(77,AV.val f7 xi),(78,AV.val f7 vz)] [(1035,g9.var s9 ((aE,aw,()),aD,au,ao,())),(1000006,g9.own (Ty.d0 true (Ty.d0 true Ty.str)) bD),(1000012,g9.own (Ty.d0 true o7) dA),(1000076,g9.own Is bR)]
theorem c3x (xi:Int) (vz:Int) (aE:Int) (aw:Int) (aD:List (Bool×List (Int×yY×Unit)×(Int×List yY×Unit)×(Int×List (Int×yY×Unit)×Unit)×(Int×List (Int×yY×Unit)×Unit)×Unit)) (au:List yY) (ao:List yY) (bD:List (List yY)) (dA:List (Int×yY×Unit)) (bR:List Int):exec xw 1000 (.code (f9 (d8 Tryz.prog 5) 21).1::.inLoop (f9 (d8 Tryz.prog 5) 21).1::(f9 (d8 Tryz.prog 5) 21).2) (LJ xi vz aE aw aD au ao bD dA bR) =
  cond (decide (vz<xi)) (.f8 ((0:Int)<=vz/\vz<(↑(List.length bR):Int)) (.f8 (List.length aD<=6/\List.length (xd ((aE,aw,()),aD,au,ao,()) (List.getD bR (Int.toNat vz) (0:Int)))<=5864062014805) (.f8 (List.length aD<=6/\List.length (H5 ((aE,aw,()),aD,au,ao,()) (List.getD bR (Int.toNat vz) (0:Int))).2.1<=1048576) (cond (decide ((↑(List.length (yM ((aE,aw,()),aD,au,ao,()) (List.getD bR (Int.toNat vz) (0:Int))).1):Int)≠(0:Int))) (.ret ((false,()))) (.f8 (True) (cond (!decide (Prod.fst (wc ((aE,aw,()),aD,au,ao,()) (List.getD bR (Int.toNat vz) (0:Int)))=dA)) (.ret ((false,()))) (.f8 ((0:Int)<=List.getD bR (Int.toNat vz) (0:Int)/\List.getD bR (Int.toNat vz) (0:Int)<(↑(List.length bD):Int)) (.ctL (f9 (d8 Tryz.prog 5) 28) (St.mk [(5,AV.ptr 1035 []),(6,AV.at_ 1000006 []),(12,AV.at_ 1000012 []),(15,AV.val f7 (List.getD bR (Int.toNat vz) (0:Int))),(16,AV.at_ 1000016 []),(76,AV.at_ 1000076 []),(77,AV.val f7 xi),(78,AV.val f7 vz),(106,AV.at_ 1000006 [Step.idx (List.getD bR (Int.toNat vz) (0:Int))]),(107,AV.val f7 (↑(List.length (List.getD bD (Int.toNat (List.getD bR (Int.toNat vz) (0:Int))) [])):Int)),(108,AV.val f7 (0:Int))] [(1035,g9.var s9 ((aE,aw,()),aD,au,ao,())),(1000006,g9.own (Ty.d0 true (Ty.d0 true Ty.str)) bD),(1000012,g9.own (Ty.d0 true o7) dA),(1000016,g9.own (Ty.d0 true o7) (wc ((aE,aw,()),aD,au,ao,()) (List.getD bR (Int.toNat vz) (0:Int))).1),(1000076,g9.own Is bR)]))))))))) (.ret ((true,()))):=by kernel_rfl
def LK (Bp:Int) (xi:Int) (vz:Int) (v106i:Int) (v107:Int) (v108:Int) (aE:Int) (aw:Int) (aD:List (Bool×List (Int×yY×Unit)×(Int×List yY×Unit)×(Int×List (Int×yY×Unit)×Unit)×(Int×List (Int×yY×Unit)×Unit)×Unit)) (au:List yY) (ao:List yY) (bD:List (List yY)) (dA:List (Int×yY×Unit)) (fR:List (Int×yY×Unit)) (bR:List Int):St:=St.mk [(5,AV.ptr 1035 []),(6,AV.at_ 1000006 []),(12,AV.at_ 1000012 []),(15,AV.val f7 Bp),(16,AV.at_ 1000016 []),(76,AV.at_ 1000076 []),(77,AV.val f7 xi),(78,AV.val f7 vz),(106,AV.at_ 1000006 [Step.idx v106i]),(107,AV.val f7 v107),(108,AV.val f7 v108)] [(1035,g9.var s9 ((aE,aw,()),aD,au,ao,())),(1000006,g9.own (Ty.d0 true (Ty.d0 true Ty.str)) bD),(1000012,g9.own (Ty.d0 true o7) dA),(1000016,g9.own (Ty.d0 true o7) fR),(1000076,g9.own Is bR)]
theorem c3w (Bp:Int) (xi:Int) (vz:Int) (v106i:Int) (v107:Int) (v108:Int) (aE:Int) (aw:Int) (aD:List (Bool×List (Int×yY×Unit)×(Int×List yY×Unit)×(Int×List (Int×yY×Unit)×Unit)×(Int×List (Int×yY×Unit)×Unit)×Unit)) (au:List yY) (ao:List yY) (bD:List (List yY)) (dA:List (Int×yY×Unit)) (fR:List (Int×yY×Unit)) (bR:List Int):exec xw 1000 (.code (f9 (d8 Tryz.prog 5) 28).1::.inLoop (f9 (d8 Tryz.prog 5) 28).1::(f9 (d8 Tryz.prog 5) 28).2) (LK Bp xi vz v106i v107 v108 aE aw aD au ao bD dA fR bR) =
  cond (decide (v108<v107)) (.f8 ((0:Int)<=v108/\v108<(↑(List.length (List.getD bD (Int.toNat v106i) [])):Int)) (.f8 (True) (cond (!decide ((Bp,List.getD (List.getD bD (Int.toNat v106i) []) (Int.toNat v108) [],())∈fR)) (.ret ((false,()))) (.f8 (w4 IntKind.i64 (v108+(1:Int))) (.ctL (f9 (d8 Tryz.prog 5) 28) (St.mk [(5,AV.ptr 1035 []),(6,AV.at_ 1000006 []),(12,AV.at_ 1000012 []),(15,AV.val f7 Bp),(16,AV.at_ 1000016 []),(76,AV.at_ 1000076 []),(77,AV.val f7 xi),(78,AV.val f7 vz),(106,AV.at_ 1000006 [Step.idx v106i]),(107,AV.val f7 v107),(108,AV.val f7 (v108+(1:Int)))] [(1035,g9.var s9 ((aE,aw,()),aD,au,ao,())),(1000006,g9.own (Ty.d0 true (Ty.d0 true Ty.str)) bD),(1000012,g9.own (Ty.d0 true o7) dA),(1000016,g9.own (Ty.d0 true o7) fR),(1000076,g9.own Is bR)])))))) (.f8 (w4 IntKind.i64 (vz+(1:Int))) (.ctL (f9 (d8 Tryz.prog 5) 21) (St.mk [(5,AV.ptr 1035 []),(6,AV.at_ 1000006 []),(12,AV.at_ 1000012 []),(76,AV.at_ 1000076 []),(77,AV.val f7 xi),(78,AV.val f7 (vz+(1:Int)))] [(1035,g9.var s9 ((aE,aw,()),aD,au,ao,())),(1000006,g9.own (Ty.d0 true (Ty.d0 true Ty.str)) bD),(1000012,g9.own (Ty.d0 true o7) dA),(1000076,g9.own Is bR)]))):=by kernel_rfl
attribute [local irreducible] G3 wc yM P8 M0 F7 in
theorem b0S:Tc.Valid Tryz.prog 5:=by
  refine r9.p7 AW rfl rfl Tryz.func5 (c:=d8 Tryz.prog 5) rfl rfl AX rfl ?_;rintro ⟨(n0:Int),(l:List H6),⟨⟩⟩ - hr;have jo:l.length<=maxLen:=hr.2.1.1;refine j6 (n:=1000) AW AX ?_;refine i7 (YH n0 l) ?_;have hn:=NG n0;obtain ⟨n,jN⟩:∃ n,n=H8 n0:=⟨_,rfl⟩;rw [<- jN] at hn ⊢;have hW:=CE hn l l.length;have hV:=SL hn l l.length;have hX:=Rz (n:=n) l l.length;rw [W9.2];generalize G3 n l l.length=s at hW hV hX ⊢;have hA:=λ iz br=>c1L hW hV hX iz br;have rY:=λ br=>b7q hn hW hV br;obtain ⟨w,sd,fl⟩:=s;have hlen:=hW.len;have aH:=hW.ok;have mb:=hW.said;have qt:=hW.each;simp only at hlen aH hV hA mb rY;simp only [j7,Tree.holds,sL];have rO:M0 ((w.1.1,w.1.2.1,()),w.2.1,w.2.2.1,w.2.2.2.1,())=M0 w:=rfl;refine ⟨λ _=>rfl,λ iz=>⟨⟨hn,by omega⟩,λ _=>⟨(aH.Aj (by omega)).change,λ _=>⟨λ _=>rfl,λ e=>⟨⟨by omega,hn.2⟩,λ _=>?_⟩⟩⟩⟩⟩;have e':¬ (P7 w).2.1≠0:=λ c=>e (by rw [rO,FZ c]; exact c);obtain ⟨B,S,eX⟩:=hA (by omega) e';have tV:=Bj e';rw [rO,tV];obtain ⟨B1,uJ⟩:=rY e';have br:=uJ.some_;obtain ⟨u,hu⟩:∃ u,u=C0 w:=⟨_,rfl⟩;simp only at eX br ⊢;rw [<- hu] at eX br ⊢;have iv:∀ i,i<(P8 u fl n.toNat).length->∃ j:Nat,(P8 u fl n.toNat).getD i 0=j/\j<n.toNat/\R5 u.1.2.1 j=true/\¬ (j:Int)∈fl:=λ i hi=>XE hi;have tI:=KV u fl n.toNat;obtain ⟨h,hh⟩:∃ h,h=P8 u fl n.toNat:=⟨_,rfl⟩;rw [<- hh] at eX br iv tI ⊢;have h0:0<h.length:=aCg.2 br;suffices go:Go.Ex.Reach xw Tryz.f5 (true,()) () (.code (f9 (d8 Tryz.prog 5) 11).1::.inLoop (f9 (d8 Tryz.prog 5) 11).1::(f9 (d8 Tryz.prog 5) 11).2) (LH ((0:Nat):Int) u.1.1 u.1.2.1 u.2.1 u.2.2.1 u.2.2.2.1 sd h) by exact go
  refine Reach.N4 AW AX (λ j:Nat×d9=>LH (j.1:Int) j.2.1.1 j.2.1.2.1 j.2.2.1 j.2.2.2.1 j.2.2.2.2.1 sd h) (λ j=>j.1<=60/\Round (W7 (w,sd,fl)) B S h n.toNat j.1 0 j.2) (λ j=>60 - j.1) 1000 (λ _=>⟨w6 rfl,w6 rfl⟩) ?_ (0,u) ⟨aAr _,eX⟩;rintro ⟨j,v⟩ ⟨k1,k2⟩ - ih;have k1:j<=60:=k1;have k2:Round (W7 (w,sd,fl)) B S h n.toNat j 0 v:=k2;refine i7 (c3z ..) ?_;have e1:((j:Nat):Int)+1=((j+1:Nat):Int):=by omega
  by_cases hj:j<60
  . suffices go:Go.Ex.Reach xw Tryz.f5 (true,()) () (.code (f9 (d8 Tryz.prog 5) 13).1::.inLoop (f9 (d8 Tryz.prog 5) 13).1::(f9 (d8 Tryz.prog 5) 13).2) (LI (j:Int) (h.length:Int) ((0:Nat):Int) v.1.1 v.1.2.1 v.2.1 v.2.2.1 v.2.2.2.1 sd h) by
      simp only [j7,Tree.holds,sL];exact ⟨λ _=>go,λ c=>absurd (by omega) c⟩
    refine Reach.N4 AW AX (λ i:Nat×d9=>LI (j:Int) (h.length:Int) (i.1:Int) i.2.1.1 i.2.1.2.1 i.2.2.1 i.2.2.2.1 i.2.2.2.2.1 sd h) (λ i=>Round (W7 (w,sd,fl)) B S h n.toNat j i.1 i.2) (λ i=>h.length - i.1) 1000 (λ _=>⟨w6 rfl,w6 rfl⟩) ?_ (0,v) k2;rintro ⟨i,x⟩ m1 - ih2;have m1:Round (W7 (w,sd,fl)) B S h n.toNat j i x:=m1;refine i7 (c3y ..) ?_;have e2:((i:Nat):Int)+1=((i+1:Nat):Int):=by omega
    by_cases hi:i<h.length
    . obtain ⟨p,hp,-⟩:=iv i hi;obtain ⟨r1,r2,r3,r4⟩:=m1.step hi (by omega) (by omega) hp;have ih3:=ih2 (i+1,_) r3 (by show h.length - (i+1)<h.length - i; omega);have ql:Fit 300 ((x.1.1,x.1.2.1,()),x.2.1,x.2.2.1,x.2.2.2.1,()):=⟨⟨by decide,by decide⟩,_,_,m1.ok,by omega⟩;obtain ⟨y,hy⟩:∃ y,y=(C2 300 x).1:=⟨_,rfl⟩;rw [<- hy] at r2 ih3 r4;have hy:y=(C2 (Int.toNat 300) ((x.1.1,x.1.2.1,()),x.2.1,x.2.2.1,x.2.2.2.1,())).1:=hy;have r1:(C2 (Int.toNat 300) ((x.1.1,x.1.2.1,()),x.2.1,x.2.2.1,x.2.2.2.1,())).2=true:=r1;have r5:y.2.1.length<=6:=by omega
      rw [wO.2];simp only [j7,Tree.holds,e2,r1,<- hy,hp,r2,sL];exact ⟨λ _=>⟨by omega,λ _=>⟨ql,λ _=>⟨λ c=>(by cases c),⟨r5,λ _=>⟨λ c=>absurd rfl c,λ _=>⟨G6.2 ⟨by omega,by omega⟩,λ _=>ih3⟩⟩⟩⟩⟩⟩,λ c=>absurd (by omega) c⟩
    . have tF:i=h.length:=by have:=m1.le; omega
      rw [tF] at m1;have ih3:=ih (j+1,x) ⟨by show j+1<=60; omega,m1.next h0 (by omega)⟩ (by show 60 - (j+1)<60 - j; omega);simp only [j7,Tree.holds,e1,sL];exact ⟨λ c=>absurd c (by omega),λ _=>⟨G6.2 ⟨by omega,by omega⟩,λ _=>ih3⟩⟩
  obtain rfl:j=60:=by omega
  clear ih;obtain ⟨L,hL⟩:=k2.fin;have vlen:=k2.len;have vok:=k2.ok;have lI:=vok.H8;have key:∀ i,i<h.length->∃ p:Nat,h.getD i 0=p/\p<n.toNat/\wc ((v.1.1,v.1.2.1,()),v.2.1,v.2.2.1,v.2.2.2.1,()) (p:Int)=(L,0,())/\yM ((v.1.1,v.1.2.1,()),v.2.1,v.2.2.1,v.2.2.2.1,()) (p:Int)=([],0,())/\(∀ t∈sd.getD p [],(((p:Int),t,()):C7)∈L) /\
      (v.2.1.length<=6/\(xd ((v.1.1,v.1.2.1,()),v.2.1,v.2.2.1,v.2.2.2.1,()) (p:Int)).length<=5864062014805)/\(v.2.1.length<=6/\(H5 ((v.1.1,v.1.2.1,()),v.2.1,v.2.2.1,v.2.2.2.1,()) (p:Int)).2.1.length<=1048576):=λ i hi=>by
    obtain ⟨p,hp,rB,-⟩:=iv i hi;have bj:(p:Int)∈h:=by
      rw [<- hp,aAb,aAf hi]; exact aCn _
    obtain ⟨l1,l2,l3⟩:=hL p bj;have a1:=XK (w:=v) (p:=p) (by omega);have a2:=ZC (w:=v) (p:=p) (by omega);rw [l1] at a1;rw [l2] at a2;exact ⟨p,hp,rB,a1,a2,l3,⟨lI,aAx (vok.sz.log p) (by omega)⟩,lI,aAx (vok.sz.late p) (by decide)⟩
  obtain ⟨p0,kr,-,lg0,-,-,ll0,-⟩:=key 0 h0;have kr:h.getD (Int.toNat 0) 0=p0:=kr;suffices go:Go.Ex.Reach xw Tryz.f5 (true,()) () (.code (f9 (d8 Tryz.prog 5) 21).1::.inLoop (f9 (d8 Tryz.prog 5) 21).1::(f9 (d8 Tryz.prog 5) 21).2) (LJ (h.length:Int) ((0:Nat):Int) v.1.1 v.1.2.1 v.2.1 v.2.2.1 v.2.2.2.1 sd L h) by
    simp only [j7,Tree.holds,kr,lg0,sL];exact ⟨λ c=>absurd c (by decide),λ _=>⟨⟨by decide,by omega⟩,λ _=>⟨ll0,λ _=>go⟩⟩⟩
  refine Reach.N4 AW AX (λ i:Nat=>LJ (h.length:Int) (i:Int) v.1.1 v.1.2.1 v.2.1 v.2.2.1 v.2.2.2.1 sd L h) (λ i=>i<=h.length) (λ i=>h.length - i) 1000 (λ _=>⟨w6 rfl,w6 rfl⟩) ?_ 0 (aAr _);rintro i m1 - ih;have m1:i<=h.length:=m1;refine i7 (c3x ..) ?_;have e1:((i:Nat):Int)+1=((i+1:Nat):Int):=by omega
  by_cases hi:i<h.length
  . obtain ⟨p,hp,rB,lg,lt,l3,l4,l5⟩:=key i hi;have uD:∀ k,k<(sd.getD p []).length->((((p:Int),(sd.getD p []).getD k [],()):C7)∈L):=λ k hk=>l3 _ (XD hk);suffices go:Go.Ex.Reach xw Tryz.f5 (true,()) () (.code (f9 (d8 Tryz.prog 5) 28).1::.inLoop (f9 (d8 Tryz.prog 5) 28).1::(f9 (d8 Tryz.prog 5) 28).2) (LK (p:Int) (h.length:Int) (i:Int) (p:Int) ((sd.getD p []).length:Int) ((0:Nat):Int) v.1.1 v.1.2.1 v.2.1 v.2.2.1 v.2.2.2.1 sd L L h) by
      simp only [j7,Tree.holds,hp,lg,lt,sL];exact ⟨λ _=>⟨by omega,λ _=>⟨l4,λ _=>⟨l5,λ _=>⟨λ c=>absurd rfl c,λ _=>⟨λ c=>absurd trivial c,⟨by omega,λ _=>go⟩⟩⟩⟩⟩⟩,λ c=>absurd (by omega) c⟩
    refine Reach.N4 AW AX (λ k:Nat=>LK (p:Int) (h.length:Int) (i:Int) (p:Int) ((sd.getD p []).length:Int) (k:Int) v.1.1 v.1.2.1 v.2.1 v.2.2.1 v.2.2.2.1 sd L L h) (λ k=>k<=(sd.getD p []).length) (λ k=>(sd.getD p []).length - k) 1000 (λ _=>⟨w6 rfl,w6 rfl⟩) ?_ 0 (aAr _);rintro k n1 - ih2;have n1:k<=(sd.getD p []).length:=n1;have nK:(sd.getD p []).length<=l.length:=qt p;refine i7 (c3w ..) ?_;have e2:((k:Nat):Int)+1=((k+1:Nat):Int):=by omega
    by_cases hk:k<(sd.getD p []).length
    . have hm:=uD k hk;have ih3:=ih2 (k+1) (by show k+1<=(sd.getD p []).length; omega) (by show (sd.getD p []).length - (k+1)<(sd.getD p []).length - k; omega);simp only [j7,Tree.holds,e2,sL];exact ⟨λ _=>⟨by omega,λ _=>⟨λ c=>absurd hm c,λ _=>⟨G6.2 ⟨by omega,by omega⟩,λ _=>ih3⟩⟩⟩,λ c=>absurd (by omega) c⟩
    . have ih3:=ih (i+1) (by show i+1<=h.length; omega) (by show h.length - (i+1)<h.length - i; omega);simp only [j7,Tree.holds,e1,sL];exact ⟨λ c=>absurd c (by omega),λ _=>⟨G6.2 ⟨by omega,by omega⟩,λ _=>ih3⟩⟩
  . simp only [j7,Tree.holds,sL];exact ⟨λ c=>absurd c (by omega),λ _=>rfl⟩
end Go.Proofs.YtijlnmgondibnaaGreatDoor
