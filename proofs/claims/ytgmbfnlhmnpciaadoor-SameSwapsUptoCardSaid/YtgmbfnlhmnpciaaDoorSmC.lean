/- strings.Split as a contract of the evaluator. -/
import Derived.Test.YtgmbfnlhmnpciaaDoorTys
import Derived.Shelf.Strings.Split
namespace Go.Proofs.YtgmbfnlhmnpciaaDoor
open Go.Ex
set_option maxRecDepth 100000
def laySplit_ren:Go.Shelf.Ren:=⟨fun|138=>59|143=>60|146=>25|195=>76|197=>77|217=>95|218=>78|219=>79|221=>46|224=>97|225=>96|260=>94|266=>106|267=>98|268=>58|314=>107|n=>n,fun|0=>0|3=>3|4=>4|5=>5|9=>9|21=>21|31=>54|46=>136|51=>134|105=>121|119=>146|138=>148|139=>149|146=>150|n=>n,fun|1=>1|3=>4|4=>5|n=>n⟩
theorem laySplit:Go.Proofs.Lays.n146 Tryd.prog laySplit_ren:={
  mixed:=by kernel_rfl,
  f138:=Tryd.func59.trans (congrArg some (by kernel_rfl)),
  f143:=Tryd.func60.trans (congrArg some (by kernel_rfl)),
  f146:=Tryd.func25.trans (congrArg some (by kernel_rfl)),
  f195:=Tryd.func76.trans (congrArg some (by kernel_rfl)),
  f197:=Tryd.func77.trans (congrArg some (by kernel_rfl)),
  f217:=Tryd.func95.trans (congrArg some (by kernel_rfl)),
  f218:=Tryd.func78.trans (congrArg some (by kernel_rfl)),
  f219:=Tryd.func79.trans (congrArg some (by kernel_rfl)),
  f221:=Tryd.func46.trans (congrArg some (by kernel_rfl)),
  f224:=Tryd.func97.trans (congrArg some (by kernel_rfl)),
  f225:=Tryd.func96.trans (congrArg some (by kernel_rfl)),
  f260:=Tryd.func94.trans (congrArg some (by kernel_rfl)),
  f266:=Tryd.func106.trans (congrArg some (by kernel_rfl)),
  f267:=Tryd.func98.trans (congrArg some (by kernel_rfl)),
  f268:=Tryd.func58.trans (congrArg some (by kernel_rfl)),
  f314:=Tryd.func107.trans (congrArg some (by kernel_rfl)),
  t0:=Tryd.underlying0,
  a0:=Tryd.isAgg0,
  z0:=Tryd.sizeOf0,
  v0:=Tryd.zeroValue0,
  t3:=Tryd.underlying3,
  a3:=Tryd.isAgg3,
  z3:=Tryd.sizeOf3,
  v3:=Tryd.zeroValue3,
  t4:=Tryd.underlying4,
  a4:=Tryd.isAgg4,
  z4:=Tryd.sizeOf4,
  v4:=Tryd.zeroValue4,
  t5:=Tryd.underlying5,
  a5:=Tryd.isAgg5,
  z5:=Tryd.sizeOf5,
  v5:=Tryd.zeroValue5,
  t9:=Tryd.underlying9,
  a9:=Tryd.isAgg9,
  z9:=Tryd.sizeOf9,
  v9:=Tryd.zeroValue9,
  t21:=Tryd.underlying21,
  a21:=Tryd.isAgg21,
  z21:=Tryd.sizeOf21,
  v21:=Tryd.zeroValue21,
  t31:=Tryd.underlying54,
  a31:=Tryd.isAgg54,
  z31:=Tryd.sizeOf54,
  v31:=Tryd.zeroValue54,
  t46:=Tryd.underlying136,
  a46:=Tryd.isAgg136,
  z46:=Tryd.sizeOf136,
  v46:=Tryd.zeroValue136,
  t51:=Tryd.underlying134,
  a51:=Tryd.isAgg134,
  z51:=Tryd.sizeOf134,
  v51:=Tryd.zeroValue134,
  t105:=Tryd.underlying121,
  a105:=Tryd.isAgg121,
  z105:=Tryd.sizeOf121,
  v105:=Tryd.zeroValue121,
  t119:=Tryd.underlying146,
  a119:=Tryd.isAgg146,
  z119:=Tryd.sizeOf146,
  t138:=Tryd.underlying148,
  a138:=Tryd.isAgg148,
  z138:=Tryd.sizeOf148,
  v138:=Tryd.zeroValue148,
  t139:=Tryd.underlying149,
  a139:=Tryd.isAgg149,
  z139:=Tryd.sizeOf149,
  v139:=Tryd.zeroValue149,
  t146:=Tryd.underlying150,
  a146:=Tryd.isAgg150,
  z146:=Tryd.sizeOf150,
  v146:=Tryd.zeroValue150,
  g1:=by kernel_rfl,
  g3:=by kernel_rfl,
  g4:=by kernel_rfl }
def csplit:Ctr:={ ps:=[.v .str,.v .str],rs:=[.slc true .str],pre:=fun x=>List.length (α:=UInt8) x.1≤4294967280∧1≤List.length (α:=UInt8) x.2.1,fn:=fun x=>(Lib.split x.1 x.2.1,()),out:=fun _=>() }
theorem bsz (s:List UInt8):(⟨s.toArray⟩:ByteArray).size=s.length:=by simp [ByteArray.size]
theorem rep_strs {H:Array Go.Obj} {S:Nat→Prop}:∀ (l:List ByteArray),(∀ x∈l,x.size≤maxLen)→RepL (Rep H S .str) 1 [] (l.map Value.string) (l.map fun x=>(x.data.toList:List UInt8))
  | [],_=>⟨rfl,rfl⟩
  | x::l,h=>by
    refine ⟨[],[],rfl,⟨rfl,?_,?_⟩,rep_strs l (fun y hy=>h y (by simp [hy]))⟩
    · show [Value.string x]=[Value.string ⟨x.data.toList.toArray⟩]
      rw [Array.toArray_toList]
    · show x.data.toList.length≤maxLen
      rw [Array.length_toList]; exact h x (by simp)
theorem splitB_sub (sep:ByteArray):∀ (k:Nat) (s:ByteArray),∀ x∈Lib.splitB sep 0 k s,x.size≤s.size
  | 0,s,x,hx=>by rw [Lib.splitB_zero,List.mem_singleton] at hx; rw [hx]; exact Nat.le_refl _
  | k+1,s,x,hx=>by
    unfold Lib.splitB at hx
    split at hx
    · rw [List.mem_singleton] at hx; rw [hx]; exact Nat.le_refl _
    · rcases List.mem_cons.1 hx with rfl|hx
      · rw [ByteArray.size_extract]; omega
      · have:=splitB_sub sep k _ x hx
        rw [ByteArray.size_extract] at this; omega
theorem csplit_valid:csplit.Valid Tryd.prog 25:=by
  refine ⟨⟨_,Tryd.func25,by kernel_rfl,by kernel_rfl⟩,?_,fun h=>by cases h⟩
  rintro w S vs ⟨(s:List UInt8),(p:List UInt8),⟨⟩⟩ L hS hgl ⟨(h1:s.length≤4294967280),(h2:1≤p.length)⟩ ⟨v1,us,L1,L2,rfl,rfl,⟨rfl,cs,rfl,r1⟩,v2,us2,L3,L4,rfl,rfl,⟨rfl,cs2,rfl,r2⟩,rfl,rfl⟩ - hnd hL
  obtain ⟨-,rfl,hs⟩:=r1
  obtain ⟨-,rfl,hp⟩:=r2
  obtain ⟨-,cs,g2,m,g3⟩:=hgl ("internal/bytealg.MaxLen",_) (List.mem_cons_of_mem _ (List.mem_cons_self ..)) 1 (by kernel_rfl)
  have hm:w.cell? ⟨1,0,none⟩=some (.int .i64 m):=by
    have:=World.var?_cell (show Tryd.prog.globalNamed "internal/bytealg.MaxLen"=some 1 by kernel_rfl) g2 0
    rw [this,g3]
  refine (Any.strings_Split laySplit (by kernel_rfl) ⟨s.toArray⟩ ⟨p.toArray⟩ m w (by rw [bsz]; omega) hm (by rw [bsz]; exact h2)).mono ?_
  rintro e w' ⟨rfl,rfl⟩
  have hlen:=Lib.splitB_all (⟨p.toArray⟩:ByteArray) (by rw [bsz]; exact h2) 0 _ ⟨s.toArray⟩ rfl
  have hl:(Lib.splitB ⟨p.toArray⟩ 0 (Lib.countB ⟨s.toArray⟩ ⟨p.toArray⟩) ⟨s.toArray⟩).map (fun x=>(x.data.toList:List UInt8))=Lib.split s p:=by
    rw [Lib.splitB_data]; rfl
  have hcl:=Lib.countB_le (⟨p.toArray⟩:ByteArray) (by rw [bsz]; exact h2) (ByteArray.size ⟨s.toArray⟩) ⟨s.toArray⟩ (Nat.le_refl _)
  rw [bsz] at hcl
  generalize hB:Lib.splitB ⟨p.toArray⟩ 0 (Lib.countB ⟨s.toArray⟩ ⟨p.toArray⟩) ⟨s.toArray⟩=B at *
  generalize hC:Lib.countB ⟨s.toArray⟩ ⟨p.toArray⟩=C at *
  have hBs:∀ x∈B,x.size≤maxLen:=fun x hx=>by
    have:=splitB_sub _ _ _ x (by rw [hB]; exact hx)
    have h9:x.size≤s.length:=Nat.le_trans this (Nat.le_of_eq (bsz s))
    have h8:maxLen=9223372036854775807:=by decide
    omega
  have hBl:(Lib.split s p).length=C+1:=by rw [← hl,List.length_map,hlen]
  obtain ⟨O',k1,k2,k3⟩:=row_rep (w:=w) (S:=S) (t:=.str) (l:=Lib.split s p) (O:=[]) (cells:=B.map Value.string) hS (by
    rw [List.take_of_length_le (by rw [List.length_map,hlen,hBl]; show C+1≤(C+1)*1; omega),← hl]
    exact rep_strs B hBs) (cap:=C+1) (by omega) (by unfold maxLen; omega) (by rw [List.length_map,hlen]; show (C+1)*1≤C+1; omega) (laySplit_ren.t 9) (by simp)
  rw [hBl] at k1
  refine ⟨[.slice (some ⟨w.heap.size,0,none⟩) (C+1) (C+1)],O',[],S,rfl,Past.push _,fun _ h=>h,fun b h=>.inl h,⟨_,[],O',[],[.slice (some ⟨w.heap.size,0,none⟩) (C+1) (C+1)],rfl,by simp,rfl,k1,rfl,rfl⟩,⟨_,_,rfl,⟨_,[],rfl,rfl,rfl⟩⟩,by simpa using k3 List.nodup_nil,?_⟩
  intro b hb
  rw [List.append_nil] at hb
  rcases k2 b hb with rfl|h
  · exact ⟨fun h=>by have:=hS _ h; omega,.inl (Nat.le_refl _),by show w.heap.size<(w.heap.push _).size; rw [Array.size_push]; omega⟩
  · cases h
end Go.Proofs.YtgmbfnlhmnpciaaDoor
