/- DoorsOwn: the walk. -/
import Derived.Test.YtekbamiaenbhjaaOwnI
namespace Go.Proofs.Ytekbamiaenbhjaa
open Go.Ex
set_option maxRecDepth 100000
abbrev fW:List o8:=[(77,0,0,()),(77,0,0,()),zW]
abbrev fH:List v6:=[(false,0,77,()),(false,0,77,()),zH]
abbrev dA (Ds:List w8) (Ws:List o8) (p:Int):C2:=(Y9 (Ds,Ws,()) p).1
abbrev dB (Ds:List w8) (Ws:List o8) (k:Int):C2:=(U5 (Ds,Ws,()) k).1
abbrev dC (Ds:List w8) (Ws:List o8) (p:Int):C2:=(S9 (Ds,Ws,()) p).1
abbrev oX (Hs:List v6) (Vs:List o8) (p k:Int):F7:=(Z8 (Hs,Vs,()) p k).1
abbrev oY (Hs:List v6) (Vs:List o8) (k:Int):F7:=(Q6 (Hs,Vs,()) k).1
abbrev oZ (Hs:List v6) (Vs:List o8) (p:Int):F7:=(Z7 (Hs,Vs,()) p).1
attribute [local irreducible] Y9 U5 S9 Z8 Q6 Z7
theorem a6M:a8A.Valid Try.prog 6:=by
  refine u7.u6 Y0 rfl rfl Try.func6 (c:=d9 Try.prog 6) rfl rfl X9 rfl ?_
  rintro ⟨⟨(Ds:List w8),(Ws:List o8),⟨⟩⟩,⟨(Hs:List v6),(Vs:List o8),⟨⟩⟩,(p:Int),(k:Int),⟨⟩⟩ hs -
  have hb:Ty.D3 a0K (Ds,Ws,())+(Ty.D3 a2k (Hs,Vs,())+(Ty.D3 A7 p+(Ty.D3 A7 k+0)))≤1048576:=hs
  have b1:Ty.D3 a0K (Ds,Ws,())=(I0 (Ty.D3 V7) Ds+1)+((I0 (Ty.D3 i6) Ws+1)+Ty.D3 .unit ()):=rfl
  have b2:Ty.D3 a2k (Hs,Vs,())=(I0 (Ty.D3 Hand) Hs+1)+((I0 (Ty.D3 i6) Vs+1)+Ty.D3 .unit ()):=rfl
  have l1:=a0m (f:=Ty.D3 V7) (fun x=>by show 1≤1+_; omega) Ds
  have l2:=a0m (f:=Ty.D3 i6) (fun x=>by show 1≤1+_; omega) Ws
  have l3:=a0m (f:=Ty.D3 Hand) (fun x=>by show 1≤1+_; omega) Hs
  have l4:=a0m (f:=Ty.D3 i6) (fun x=>by show 1≤1+_; omega) Vs
  have hD:Ds.length≤1048576:=by omega
  have hW:Ws.length≤1048576:=by omega
  have hH:Hs.length≤1048576:=by omega
  have hV:Vs.length≤1048576:=by omega
  have hL:∀ d∈Ds,d.2.2.2.2.1.length≤1048576:=fun d hd=>by
    have h1:=a8B (f:=Ty.D3 V7) hd
    have h2:Ty.D3 V7 d=Ty.D3 A7 d.1+(Ty.D3 A7 d.2.1+(Ty.D3 U8 d.2.2.1+(Ty.D3 .bool d.2.2.2.1+((I0 (Ty.D3 A7) d.2.2.2.2.1+1)+Ty.D3 .unit ())))):=rfl
    have h3:=a0m (f:=Ty.D3 A7) (fun x=>by show 1≤1; omega) d.2.2.2.2.1
    omega
  refine o4 (n:=1000) Y0 X9 ?_
  refine n6 (b2c Ds Ws Hs Vs p k) ?_
  simp only [o7,Tree.holds,true_and,true_implies,decide_eq_true_eq,decide_eq_false_iff_not,Bool.not_eq_true',Bool.not_eq_false',Int.toNat_natCast,r9,List.length_set,List.length_cons,List.length_nil]
  refine ⟨hD,fun _=>⟨hW,fun _=>?_⟩⟩
  rw [b5W]
  refine Reach.S5 Y0 X9 (fun i:Nat=>a4L p k (Ds.length:Int) (i:Int) Ds Ws Hs Vs 77 0 0 false 0 77 (P9 Ds i) 2 Ws fW) (fun i=>i≤Ds.length) (fun i=>Ds.length - i) 1000 (fun _=>⟨x6 rfl,x6 rfl⟩) ?_ 0 (Nat.zero_le _)
  rintro i (k1:i≤Ds.length) - ih
  refine n6 (b1o ..) ?_
  simp only [o7,Tree.holds,true_and,true_implies,decide_eq_true_eq,decide_eq_false_iff_not,Bool.not_eq_true',Bool.not_eq_false',Int.toNat_natCast,r9,List.length_set,List.length_cons,List.length_nil]
  refine ⟨fun c=>?_,fun c=>?_⟩
  · have hi:i<Ds.length:=by omega
    refine ⟨by omega,fun _=>⟨hL _ (a97 hi),fun _=>⟨by rw [b1J]; omega,fun _=>⟨by omega,fun _=>?_⟩⟩⟩⟩
    have next:=ih (i+1) hi (by omega)
    rw [← b1I hi] at next
    have eg:(P9 Ds i).getD i (0,0,0,false,(1,[],[]),())=shD (Ds.getD i x4):=b1K hi
    simp only [eg]
    exact next
  obtain rfl:i=Ds.length:=by omega
  simp only [b1L,List.length_map]
  rw [a9V]
  refine ⟨hH,fun _=>⟨hV,fun _=>?_⟩⟩
  refine Reach.S5 Y0 X9 (fun i:Nat=>a3Z p k (Ds.length:Int) (i:Int) Ds Ws Hs Vs 77 0 0 false 0 77 (Ds.map amD) 2 Ws fW 2 Hs fH 2 Vs fW (dA Ds Ws p).1 1 (dA Ds Ws p).2.1 [] (dB Ds Ws k).1 1 (dB Ds Ws k).2.1 [] (dC Ds Ws p).1 1 (dC Ds Ws p).2.1 [] 1 (oX Hs Vs p k).1 [] 1 (oX Hs Vs p k).2.1 [] 1 (oY Hs Vs k).1 [] 1 (oY Hs Vs k).2.1 [] 1 (oZ Hs Vs p).1 [] 1 (oZ Hs Vs p).2.1 []) (fun i=>i≤Ds.length) (fun i=>Ds.length - i) 1000 (fun _=>⟨x6 rfl,x6 rfl⟩) ?_ 0 (Nat.zero_le _)
  clear ih
  rintro i (k1:i≤Ds.length) - ih
  refine n6 (a9n ..) ?_
  simp only [o7,Tree.holds,true_and,true_implies,decide_eq_true_eq,decide_eq_false_iff_not,Bool.not_eq_true',Bool.not_eq_false',Int.toNat_natCast,r9,List.length_set,List.length_cons,List.length_nil]
  refine ⟨fun c=>?_,fun c=>?_⟩
  · have hi:i<Ds.length:=by omega
    have next:=ih (i+1) hi (by omega)
    have eg:(Ds.map amD).getD i (0,0,0,false,(1,[],[]),())=amD (Ds.getD i x4):=b7C hi
    simp only [eg]
    refine ⟨by rw [List.length_map]; omega,fun _=>⟨by omega,fun _=>⟨⟨rfl,by show 2≤3; omega,hL _ (a97 hi)⟩,fun _=>⟨fun q=>?_,fun _=>⟨by omega,fun _=>next⟩⟩⟩⟩⟩
    exfalso
    revert q
    show (decide ((Ds.getD i x4).2.2.2.2.1=(Ds.getD i x4).2.2.2.2.1) && (decide (List.getD [(77:Int),77,0] 0 0=77) && decide (List.getD [(77:Int),77,0] 1 0=77)))=false→False
    simp
  obtain rfl:i=Ds.length:=by omega
  simp only [List.length_map]
  rw [a9V]
  refine ⟨⟨by omega,hW⟩,fun _=>⟨fun q=>absurd q (by decide),fun _=>⟨⟨by omega,hH⟩,fun _=>⟨fun q=>absurd q (by decide),fun _=>⟨⟨by omega,hV⟩,fun _=>⟨fun q=>absurd q (by decide),fun _=>?_⟩⟩⟩⟩⟩⟩
  refine Reach.S5 Y0 X9 (fun x:Nat×List Y1=>a3Y (Ds.length:Int) (x.1:Int) 77 0 0 false 0 77 x.2 2 Ws fW 2 Hs fH 2 Vs fW (dA Ds Ws p).1 1 (dA Ds Ws p).2.1 [] (dB Ds Ws k).1 1 (dB Ds Ws k).2.1 [] (dC Ds Ws p).1 1 (dC Ds Ws p).2.1 [] 1 (oX Hs Vs p k).1 [] 1 (oX Hs Vs p k).2.1 [] 1 (oY Hs Vs k).1 [] 1 (oY Hs Vs k).2.1 [] 1 (oZ Hs Vs p).1 [] 1 (oZ Hs Vs p).2.1 [] (dA Ds Ws p).1 1 (dA Ds Ws p).2.1 [] (dB Ds Ws k).1 1 (dB Ds Ws k).2.1 [] (dC Ds Ws p).1 1 (dC Ds Ws p).2.1 [] 1 (oX Hs Vs p k).1 [] 1 (oX Hs Vs p k).2.1 [] 1 (oY Hs Vs k).1 [] 1 (oY Hs Vs k).2.1 [] 1 (oZ Hs Vs p).1 [] 1 (oZ Hs Vs p).2.1 []) (fun x=>x.1≤Ds.length∧x.2.length=Ds.length∧a4C x.2) (fun x=>Ds.length - x.1) 1000 (fun _=>⟨x6 rfl,x6 rfl⟩) ?_ (0,Ds.map amD) ⟨Nat.zero_le _,List.length_map ..,b7i Ds⟩
  clear ih
  rintro ⟨i,D⟩ ⟨(k1:i≤Ds.length),(k2:D.length=Ds.length),(k3:a4C D)⟩ - ih
  refine n6 (a9m ..) ?_
  simp only [o7,Tree.holds,true_and,true_implies,decide_eq_true_eq,decide_eq_false_iff_not,Bool.not_eq_true',Bool.not_eq_false',Int.toNat_natCast,r9,List.length_set,List.length_cons,List.length_nil]
  have two:(1≤2∧2≤2)∧True:=⟨⟨by omega,Nat.le_refl 2⟩,trivial⟩
  refine ⟨fun c=>⟨by omega,fun _=>⟨⟨k3.get (by omega),trivial⟩,fun _=>⟨by omega,fun _=>?_⟩⟩⟩,fun c=>⟨two,fun _=>⟨two,fun _=>⟨two,fun _=>?_⟩⟩⟩⟩
  · exact ih (i+1,D.set i ((D.getD i Z6).1,(D.getD i Z6).2.1,(D.getD i Z6).2.2.1,(D.getD i Z6).2.2.2.1,(1,List.replicate (D.getD i Z6).2.2.2.2.1.2.1.length 5,[]),(D.getD i Z6).2.2.2.2.2)) ⟨by show i+1≤Ds.length; omega,by rw [List.length_set]; exact k2,k3.set i ⟨by show 1≤1; omega,by show 1≤2; omega⟩⟩ (by show Ds.length - (i+1)<Ds.length - i; omega)
  · have yes:∀ {P Q:Prop} [Decidable P] [Decidable Q],P→Q→(decide P && decide Q)=true:=fun h1 h2=>Bool.and_eq_true_iff.2 ⟨decide_eq_true h1,decide_eq_true h2⟩
    exact ⟨fun _=>⟨fun _=>⟨fun _=>⟨fun _=>⟨fun _=>congrArg (fun b=>(b,())) (yes trivial trivial),fun q=>Bool.noConfusion (Eq.trans (Eq.symm q) (yes trivial trivial))⟩,fun q=>Bool.noConfusion (Eq.trans (Eq.symm q) (yes trivial trivial))⟩,fun q=>Bool.noConfusion (Eq.trans (Eq.symm q) (yes trivial trivial))⟩,fun q=>Bool.noConfusion (Eq.trans (Eq.symm q) (yes trivial trivial))⟩,fun q=>Bool.noConfusion (Eq.trans (Eq.symm q) (yes trivial trivial))⟩
end Go.Proofs.Ytekbamiaenbhjaa
