/- lex.whole, walked. No premise beyond what each theorem says. -/
import Derived.Test.YtahklhniofiofaaGreatDoorEG2
import Derived.Shelf.Strings.BuilderK
import Derived.Test.YtahklhniofiofaaGreatDoorEA3
import Derived.WalkKit
import Derived.BigCall
import Derived.Laws.BytesString
import Derived.Laws.IdiomStrings
import Derived.Lib.SmallJoins
import Derived.Laws.Bits64b
import Derived.Lib.UnsafeStr
import Derived.Lib.OthersKept
import Derived.Deep.RegionHeld3
import Derived.LaidEql
import Derived.Stop.Asserts
import Derived.RowKitTokens
set_option linter.all false
set_option linter.unusedSimpArgs false
set_option linter.unusedVariables false
namespace Go.Proofs.YtahklhniofiofaaGreatDoor.E
open Go
section
open Go Go.Shelf Go.RowKit Go.Proofs.Tryz
set_option maxHeartbeats 1000000
set_option maxRecDepth 1000000
def bren:Go.Shelf.Ren:=⟨fun | 166=>146 | 167=>145 | 169=>147 | 240=>162 | 276=>174 | n=>n,fun | 0=>0 | 3=>3 | 4=>4 | 5=>5 | 9=>9 | 20=>20 | 31=>201 | 37=>188 | 70=>216 | 72=>218 | 75=>27 | 76=>220 | 80=>94 | 127=>234 | 164=>129 | n=>n,fun n=>n⟩
theorem lays166:Go.Proofs.Lays.n166 Tryz.prog bren:={
 mixed:=by kernel_rfl
 f166:=Tryz.func146.trans (congrArg some (by kernel_rfl))
 f240:=Tryz.func162.trans (congrArg some (by kernel_rfl))
 f276:=Tryz.func174.trans (congrArg some (by kernel_rfl))
 t0:=Tryz.underlying0
 a0:=Tryz.isAgg0
 z0:=Tryz.sizeOf0
 v0:=Tryz.zeroValue0
 t3:=Tryz.underlying3
 a3:=Tryz.isAgg3
 z3:=Tryz.sizeOf3
 v3:=Tryz.zeroValue3
 t4:=Tryz.underlying4
 a4:=Tryz.isAgg4
 z4:=Tryz.sizeOf4
 v4:=Tryz.zeroValue4
 t9:=Tryz.underlying9
 a9:=Tryz.isAgg9
 z9:=Tryz.sizeOf9
 v9:=Tryz.zeroValue9
 t20:=Tryz.underlying20
 a20:=Tryz.isAgg20
 z20:=Tryz.sizeOf20
 v20:=Tryz.zeroValue20
 t37:=Tryz.underlying188
 a37:=Tryz.isAgg188
 z37:=Tryz.sizeOf188
 v37:=Tryz.zeroValue188
 t70:=Tryz.underlying216
 a70:=Tryz.isAgg216
 z70:=Tryz.sizeOf216
 v70:=Tryz.zeroValue216
 t72:=Tryz.underlying218
 a72:=Tryz.isAgg218
 z72:=Tryz.sizeOf218
 v72:=Tryz.zeroValue218
 t75:=Tryz.underlying27
 a75:=Tryz.isAgg27
 z75:=Tryz.sizeOf27
 v75:=Tryz.zeroValue27
 t164:=Tryz.underlying129
 a164:=Tryz.isAgg129
 z164:=Tryz.sizeOf129
 v164:=Tryz.zeroValue129 }
theorem lays167:Go.Proofs.Lays.n167 Tryz.prog bren:={
 mixed:=by kernel_rfl
 f167:=Tryz.func145.trans (congrArg some (by kernel_rfl))
 f240:=Tryz.func162.trans (congrArg some (by kernel_rfl))
 f276:=Tryz.func174.trans (congrArg some (by kernel_rfl))
 t0:=Tryz.underlying0
 a0:=Tryz.isAgg0
 z0:=Tryz.sizeOf0
 v0:=Tryz.zeroValue0
 t4:=Tryz.underlying4
 a4:=Tryz.isAgg4
 z4:=Tryz.sizeOf4
 v4:=Tryz.zeroValue4
 t5:=Tryz.underlying5
 a5:=Tryz.isAgg5
 z5:=Tryz.sizeOf5
 v5:=Tryz.zeroValue5
 t9:=Tryz.underlying9
 a9:=Tryz.isAgg9
 z9:=Tryz.sizeOf9
 v9:=Tryz.zeroValue9
 t20:=Tryz.underlying20
 a20:=Tryz.isAgg20
 z20:=Tryz.sizeOf20
 v20:=Tryz.zeroValue20
 t37:=Tryz.underlying188
 a37:=Tryz.isAgg188
 z37:=Tryz.sizeOf188
 v37:=Tryz.zeroValue188
 t70:=Tryz.underlying216
 a70:=Tryz.isAgg216
 z70:=Tryz.sizeOf216
 v70:=Tryz.zeroValue216
 t72:=Tryz.underlying218
 a72:=Tryz.isAgg218
 z72:=Tryz.sizeOf218
 v72:=Tryz.zeroValue218
 t75:=Tryz.underlying27
 a75:=Tryz.isAgg27
 z75:=Tryz.sizeOf27
 v75:=Tryz.zeroValue27
 t164:=Tryz.underlying129
 a164:=Tryz.isAgg129
 z164:=Tryz.sizeOf129
 v164:=Tryz.zeroValue129 }
theorem lays169:Go.Proofs.Lays.n169 Tryz.prog bren:={
 mixed:=by kernel_rfl
 f169:=Tryz.func147.trans (congrArg some (by kernel_rfl))
 t0:=Tryz.underlying0
 a0:=Tryz.isAgg0
 z0:=Tryz.sizeOf0
 v0:=Tryz.zeroValue0
 t3:=Tryz.underlying3
 a3:=Tryz.isAgg3
 z3:=Tryz.sizeOf3
 v3:=Tryz.zeroValue3
 t9:=Tryz.underlying9
 a9:=Tryz.isAgg9
 z9:=Tryz.sizeOf9
 v9:=Tryz.zeroValue9
 t37:=Tryz.underlying188
 a37:=Tryz.isAgg188
 z37:=Tryz.sizeOf188
 v37:=Tryz.zeroValue188
 t70:=Tryz.underlying216
 a70:=Tryz.isAgg216
 z70:=Tryz.sizeOf216
 v70:=Tryz.zeroValue216
 t72:=Tryz.underlying218
 a72:=Tryz.isAgg218
 z72:=Tryz.sizeOf218
 v72:=Tryz.zeroValue218
 t127:=Tryz.underlying234
 a127:=Tryz.isAgg234
 z127:=Tryz.sizeOf234
 v127:=Tryz.zeroValue234 }
theorem bextra:Builder.Extra Tryz.prog bren:={
 sizeBuilder:=by kernel_rfl
 liesBuilder:=by kernel_rfl
 t5:=Tryz.underlying5
 a5:=Tryz.isAgg5
 z5:=Tryz.sizeOf5
 v5:=Tryz.zeroValue5
 infoByte:=by kernel_rfl
 cellsByte:=by kernel_rfl
 sizeByte:=by kernel_rfl
 neB5:=by decide }
theorem xZfX {α:Type} (x z:α) (r:List α):∀ j,(List.replicate (j+1) z++r).set j x=List.replicate j z++x::r
 | 0=>rfl
 | j+1=>by
   have:=xZfX x z r j
   simp only [List.replicate_succ,List.cons_append,List.set_cons_succ] at this ⊢
   rw [this]
theorem xZnR (q:Nat):48+UInt8.ofNat (q % 10)=UInt8.ofNat (48+q % 10):=by
 apply UInt8.toNat_inj.1
 simp [UInt8.toNat_add]
theorem xZjh (n:Int) (h1:-4611686018427387904≤n) (h2:n≤4611686018427387904) (w:World):
 Calls Tryz.prog 113 #[.int .i64 n] w fun e w'=>e=.returned (.string (bs (whS n)))∧Below w.heap.size w w':=by
 have hm:max n (-n)=(n.natAbs:Int):=by omega
 have hm2:n.natAbs < 10 ^ 19:=by omega
 obtain ⟨m,hmm⟩:∃ m,n.natAbs=m:=⟨_,rfl⟩
 rw [hmm] at hm hm2
 go_enter Tryz.func113,Tryz.ntmps113
 go_wp2
 have hin:n < 0 ↔ n < 0:=Iff.rfl
 go_loopw [4,5] (fun i x wr=>∃ (j k q:Nat) (tail:List UInt8),j+k=21∧i=.int .i64 j∧x=.int .u64 (q:Int)∧wr.heap[w.heap.size]?=some (.cells (Lib.byteCells (List.replicate j 0++tail)).toArray 214 (0,0))∧Below w.heap.size w wr∧tail.length=k∧dgF 20 m=dgF (20 - k) q++tail∧(k=0∨q≠0)∧q < 10 ^ (19 - k)∧k≤19) (fun i _ _=>(intOf i).toNat)
 case atStart=>
  refine ⟨21,0,m,[],rfl,rfl,rfl,?_,(Below.refl _ w).alloc (Nat.le_refl _) _,rfl,by simp,.inl rfl,hm2,by omega⟩
  rw [heap_alloc_new]
  rfl
 case round=>
  obtain ⟨j,k,q,tail,hjk,rfl,rfl,hh,hb,htl,hdg,hkq,hq,hk19⟩:=hrel
  have hsz:=hb.size
  have hk18:k≤18:=by
   rcases hkq with h | h
   ·omega
   ·by_cases hk:k=19
    ·subst hk;simp at hq;omega
    ·omega
  obtain ⟨p,rfl⟩:∃ p,j=p+2:=⟨j - 2,by omega⟩
  have hlen:(Lib.byteCells (List.replicate (p+2) 0++tail)).length=21:=by rw [Lib.byteCells_length];simp;omega
  have g1:(0:Int)≤((p+1:Nat):Int):=by omega
  have g2:((p+1:Nat):Int) < 21:=by omega
  have g3:p+1 < 21:=by omega
  have g4:(p:Int)+1 < 21:=by omega
  have g5:(p:Int) < 21:=by omega
  have g6:p < 21:=by omega
  have g7:p+1≤21:=by omega
  have g8:p≤21:=by omega
  have c1:∃ v,wr.cell? ⟨w.heap.size,p+1,none⟩=some v:=by
   rw [Lib.cell_of_heap hh];exact ⟨(Lib.byteCells (List.replicate (p+2) 0++tail))[p+1]'(by omega),by simp only [List.getElem?_toArray];exact List.getElem?_eq_getElem _⟩
  obtain ⟨v0,c1⟩:=c1
  have c2:wr.frozen? ⟨w.heap.size,p+1,none⟩=false:=Lib.frozen_of_heap hh (p+1)
  have hq64:q < 18446744073709551616:=Nat.lt_of_lt_of_le hq (Nat.le_trans (Nat.pow_le_pow_right (by decide) (by omega:19 - k≤19)) (by decide))
  have hbl:=fun v=>Joins.block_setCell (i:=p+1) hh v
  have c3:∀ v,(wr.setCell ⟨w.heap.size,p+1,none⟩ v).cell? ⟨w.heap.size,p,none⟩=some (.int .u8 0):=fun v=>by
   rw [Lib.cell_of_heap (hbl v),List.setIfInBounds_toArray,List.getElem?_toArray,List.getElem?_set_ne (by omega)]
   simp [Lib.byteCells,List.getElem?_append]
  have c4:∀ v,(wr.setCell ⟨w.heap.size,p+1,none⟩ v).frozen? ⟨w.heap.size,p,none⟩=false:=fun v=>Lib.frozen_of_heap (hbl v) p
  have hbl2:=fun v v'=>Joins.block_setCell (i:=p) (hbl v) v'
  have hd10:q % 10 < 10:=Nat.mod_lt _ (by decide)
  have s1:(0:Int)≤(p:Int)+2 - 1:=by omega
  have s2:(p:Int)+2 - 1≤21:=by omega
  have s3:(0:Int)≤(p:Int)+2 - 1 - 1:=by omega
  have s4:(p:Int)+2 - 1 - 1≤21:=by omega
  have s5:((p:Int)+2 - 1).toNat=p+1:=by omega
  have s6:((p:Int)+2 - 1 - 1).toNat=p:=by omega
  have s7:¬ (21=p+1):=by omega
  have s8:¬ (21=p):=by omega
  have r1:∀ W,(Instr.sliceAt 214 (.pointer (some ⟨w.heap.size,0,none⟩)) (some (.int .i64 ((p:Int)+2 - 1))) none none).run Tryz.prog W=.ok (.slice (some ⟨w.heap.size,p+1,none⟩) (20 - p) (20 - p)) W:=fun W=>by
   rw [run_sliceAt_array_l (P:=Tryz.prog) W 214 _ (by kernel_rfl) .i64 _ s1 (by exact s2),s5,show Tryz.prog.elem 214=5 from by kernel_rfl,Tryz.sizeOf5,show Tryz.prog.arrayLen 214=21 from by kernel_rfl]
   simp only [Result.andThen,slicedAt,if_neg s7,Addr.add,Nat.mul_one,Nat.zero_add,show 21 - (p+1)=20 - p from by omega,Nat.succ_ne_zero,if_false]
  have r2:∀ W,(Instr.sliceAt 214 (.pointer (some ⟨w.heap.size,0,none⟩)) (some (.int .i64 ((p:Int)+2 - 1 - 1))) none none).run Tryz.prog W=.ok (.slice (some ⟨w.heap.size,p,none⟩) (21 - p) (21 - p)) W:=fun W=>by
   rw [run_sliceAt_array_l (P:=Tryz.prog) W 214 _ (by kernel_rfl) .i64 _ s3 (by exact s4),s6,show Tryz.prog.elem 214=5 from by kernel_rfl,Tryz.sizeOf5,show Tryz.prog.arrayLen 214=21 from by kernel_rfl]
   simp only [Result.andThen,slicedAt,if_neg s8,Addr.add,Nat.mul_one,Nat.zero_add]
   by_cases hp0:p=0
   ·subst hp0;rfl
   ·rw [if_neg hp0]
  obtain ⟨l1,hl1⟩:∃ l,l=UInt8.ofNat (48+q % 10)::tail:=⟨_,rfl⟩
  have hll:l1.length=20 - p:=by rw [hl1];simp;omega
  have hsub:(48+(q:Int) % 10)=((UInt8.ofNat (48+q % 10)).toNat:Int):=by rw [UInt8.toNat_ofNat',Nat.mod_eq_of_lt (by omega)];omega
  have hw1:(wr.setCell ⟨w.heap.size,p+1,none⟩ (.int .u8 (48+(q:Int) % 10))).heap[w.heap.size]?=some (.cells (Lib.byteCells (List.replicate (p+1) 0++l1)).toArray 214 (0,0)):=by
   rw [hbl,hl1,← xZfX (UInt8.ofNat (48+q % 10)) 0 tail (p+1),List.setIfInBounds_toArray,hsub]
   simp only [Lib.byteCells,List.map_set]
  have hw2:((wr.setCell ⟨w.heap.size,p+1,none⟩ (.int .u8 (48+(q:Int) % 10))).setCell ⟨w.heap.size,p,none⟩ (.int .u8 45)).heap[w.heap.size]?=some (.cells (Lib.byteCells (List.replicate p 0++45::l1)).toArray 214 (0,0)):=by
   rw [Joins.block_setCell hw1,← xZfX 45 0 l1 p,List.setIfInBounds_toArray]
   simp only [Lib.byteCells,List.map_set]
   rfl
  have hcv:=fun (W:World) (o:Nat) (l:List UInt8) (cap:Nat) (hW:W.heap[w.heap.size]?=some (.cells (Lib.byteCells (List.replicate o 0++l)).toArray 214 (0,0)))=>run_convert_bytes_back (P:=Tryz.prog) W 188 9 5 ⟨w.heap.size,o,none⟩ cap l (by kernel_rfl) (by kernel_rfl) (by kernel_rfl) (fun i hi=>by
   have ea:(⟨w.heap.size,o,none⟩:Addr).add i=⟨w.heap.size,o+i,none⟩:=by unfold Addr.add;split<;>simp [*]
   rw [ea,Lib.cell_of_heap hW,List.getElem?_toArray]
   simp [Lib.byteCells,List.getElem?_append_right,List.getElem?_eq_getElem hi])
  have cv1:=hcv _ (p+1) l1 (20 - p) hw1
  have cv2:=hcv _ p (45::l1) (21 - p) hw2
  rw [hll] at cv1
  rw [show (45::l1).length=21 - p by simp;omega] at cv2
  have hd2:dgF 20 m=(if q / 10=0 then [] else dgF (19 - k) (q / 10))++l1:=by
   rw [hdg,show 20 - k=(19 - k)+1 by omega,dgF,hl1];simp
  have hhi:(wr.setCell ⟨w.heap.size,p+1,none⟩ (.int .u8 (48+(q:Int) % 10))).heap[w.heap.size]?=some (.cells (Lib.byteCells (List.replicate (p+1) 0++l1)).toArray 214 (0,0))∧l1.length=k+1∧p+1+(k+1)=21∧q < 10 ^ (19 - k)∧l1=UInt8.ofNat (48+q % 10)::tail:=⟨hw1,by omega,by omega,hq,hl1⟩
  clear hjk hkq hq hk19 hdg hcv hw1 hw2 hl1 hsub
  go_wp2
  ·go_ret
   rename_i hq0 hn
   have hq0':q / 10=0:=by have:=beq_iff_eq.1 hq0;omega
   rw [if_pos hq0',List.nil_append,hhi.2.2.2.2,← xZnR] at hd2
   have e:whS n=45::(48+UInt8.ofNat (q % 10))::tail:=by rw [whS,if_pos hn,hmm,hd2];rfl
   rw [e]
   exact ⟨rfl,(hb.setCell (p:=⟨w.heap.size,p+1,none⟩) (Nat.le_refl _) _).setCell (p:=⟨w.heap.size,p,none⟩) (Nat.le_refl _) _⟩
  ·go_ret
   rename_i hq0 hn
   have hq0':q / 10=0:=by have:=beq_iff_eq.1 hq0;omega
   rw [if_pos hq0',List.nil_append,hhi.2.2.2.2,← xZnR] at hd2
   have e:whS n=(48+UInt8.ofNat (q % 10))::tail:=by rw [whS,if_neg (by omega),hmm,hd2];rfl
   rw [e]
   exact ⟨rfl,hb.setCell (p:=⟨w.heap.size,p+1,none⟩) (Nat.le_refl _) _⟩
  ·obtain ⟨hw1,hl,hjk,hq,hl1⟩:=hhi
   rename_i hq0
   have hq0':¬ (q / 10=0):=fun e=>by have:=beq_eq_false_iff_ne.1 hq0;omega
   refine ⟨⟨p+1,k+1,q / 10,l1,hjk,?_,?_,hw1,hb.setCell (p:=⟨w.heap.size,p+1,none⟩) (Nat.le_refl _) _,hl,?_,.inr hq0',?_,by omega⟩,by simp only [intOf];omega⟩
   ·rw [show (p:Int)+2 - 1=((p+1:Nat):Int) by omega]
   ·rw [show (q:Int) / 10=((q / 10:Nat):Int) by omega]
   ·rw [hd2,if_neg hq0',show 20 - (k+1)=19 - k by omega]
   ·refine Nat.div_lt_of_lt_mul ?_
    have e:19 - k=19 - (k+1)+1:=by omega
    rw [e,Nat.pow_succ,Nat.mul_comm] at hq
    exact hq
theorem xZhd (N:Nat):xZdu.Ok prog N:=by
 refine ⟨⟨Tryz.f113,Tryz.func113,by kernel_rfl,by kernel_rfl⟩,fun a r h=>?_⟩
 have h:xZ8d N a.1=some r:=h
 unfold xZ8d at h
 obtain ⟨h1,h2⟩:=xZ2U h
 obtain rfl:=Option.some.inj h2
 intro M S w vs hh _ hsz hrep
 obtain ⟨v,rfl⟩:∃ v,vs=#[v]:=by
  match vs,hsz with
  | ⟨[v]⟩,_=>exact ⟨v,rfl⟩
 have h0:v=.int .i64 a.1:=VRep.v_eq (hrep 0 (Nat.zero_lt_one))
 subst h0
 obtain ⟨k1,k2⟩:=(Bool.and_eq_true _ _).mp h1
 refine (xZjh a.1 (xZ1e.1 k1) (xZ1e.1 k2) w).mono ?_
 rintro e w' ⟨rfl,hb⟩
 have hg:Grew w w':=⟨hb.os,hb.tape,hb.output,hb.size,hb.block⟩
 exact ⟨M,S,.data (.v _),hh.grew hg,.grew hh hg⟩
end
section
open Go Go.Shelf Go.RowKit Go.Proofs.Tryz
set_option maxHeartbeats 1000000
set_option maxRecDepth 1000000
theorem xZhU (u:Nat):∀ k,(hxS k u).length=k
 | 0=>rfl
 | k+1=>by simp [hxS,xZhU u k]
theorem and15 (q:Nat) (h:q < 18446744073709551616):bits .and .u64 (q:Int) 15=((q % 16:Nat):Int):=by
 have:=bits_and_u64_nat q 15 h (by decide)
 rw [show ((15:Nat):Int)=15 from rfl] at this
 rw [this,show q &&& 15=q % 16 from Nat.and_two_pow_sub_one_eq_mod q 4]
theorem xZqM {k:Nat} (h:k < 16):({ data:=#[48,49,50,51,52,53,54,55,56,57,97,98,99,100,101,102] }:ByteArray)[k]'h=hexB k:=by
 have:∀ k:Fin 16,({ data:=#[48,49,50,51,52,53,54,55,56,57,97,98,99,100,101,102] }:ByteArray)[k.1]'k.2=hexB k.1:=by decide
 exact this ⟨k,h⟩
theorem xZpp {α:Type} (a x z:α) (r:List α):∀ j,(a::(List.replicate (j+1) z++r)).set (j+1) x=a::(List.replicate j z++x::r)
 | 0=>rfl
 | j+1=>by
   have:=xZpp z x z r j
   simp only [List.replicate_succ,List.cons_append,List.set_cons_succ] at this ⊢
   rw [this]
theorem xZkk (u:Nat) (hu:u < 18446744073709551616) (w:World):
 Calls Tryz.prog 114 #[.int .u64 (u:Int)] w fun e w'=>e=.returned (.string (bs (bitS u)))∧Below w.heap.size w w':=by
 go_enter Tryz.func114,Tryz.ntmps114
 go_wp2
 go_loopw [0,4] (fun x i wr=>∃ j k:Nat,j+k=16∧x=.int .u64 ((u / 16 ^ k:Nat):Int)∧i=.int .i64 j∧wr.heap[w.heap.size]?=some (.cells (Lib.byteCells (35::(List.replicate j 0++hxS k u))).toArray 215 (0,0))∧Below w.heap.size w wr) (fun _ i _=>(intOf i).toNat)
 case atStart=>
  refine ⟨16,0,rfl,by simp,rfl,?_,(Below.refl _ w).alloc (Nat.le_refl _) _⟩
  rw [heap_alloc_new]
  rfl
 case round=>
  obtain ⟨j,k,hjk,rfl,rfl,hh,hb⟩:=hrel
  have hsz:=hb.size
  have hlen:(Lib.byteCells (35::(List.replicate j 0++hxS k u))).length=17:=by rw [Lib.byteCells_length];simp [xZhU];omega
  have hq':u / 16 ^ k < 18446744073709551616:=Nat.lt_of_le_of_lt (Nat.div_le_self _ _) hu
  by_cases hj:j=0
  ·subst hj
   obtain rfl:k=16:=by omega
   have hcv:=fun (P:Program) (src dst e:TypeId) hs he hd=>run_convert_bytes_back (P:=P) wr src dst e ⟨w.heap.size,0,none⟩ 17 (bitS u) hs he hd (fun i hi=>by
    have ea:(⟨w.heap.size,0,none⟩:Addr).add i=⟨w.heap.size,i,none⟩:=by simp [Addr.add];exact fun h=>h.symm
    rw [ea,Lib.cell_of_heap hh,List.getElem?_toArray]
    show (Lib.byteCells (bitS u))[i]?=_
    simp [Lib.byteCells,List.getElem?_eq_getElem hi])
   generalize u / 16 ^ 16=q
   have hcv':=hcv Tryz.prog 188 9 5 (by kernel_rfl) (by kernel_rfl) (by kernel_rfl)
   rw [show (bitS u).length=17 by simp [bitS,xZhU]] at hcv'
   clear hcv
   go_wp2
   go_ret
   exact ⟨rfl,hb⟩
  ·obtain ⟨j,rfl⟩:∃ j',j=j'+1:=⟨j - 1,by omega⟩
   have h1:(0:Int) < ((j+1:Nat):Int):=by omega
   have h2:((j+1:Nat):Int) < 17:=by omega
   have h3:j+1 < 17:=by omega
   have c1:∃ v,wr.cell? ⟨w.heap.size,j+1,none⟩=some v:=by
    rw [Lib.cell_of_heap hh];exact ⟨(Lib.byteCells (35::(List.replicate (j+1) 0++hxS k u)))[j+1]'(by omega),by simp only [List.getElem?_toArray];exact List.getElem?_eq_getElem _⟩
   obtain ⟨v0,c1⟩:=c1
   have c2:wr.frozen? ⟨w.heap.size,j+1,none⟩=false:=Lib.frozen_of_heap hh (j+1)
   have hbl:=fun v=>Joins.block_setCell (i:=j+1) hh v
   have hdd:u / 16 ^ k / 16=u / 16 ^ (k+1):=by rw [Nat.div_div_eq_div_mul,Nat.pow_succ]
   have hhx:hexB (u / 16 ^ k % 16)::hxS k u=hxS (k+1) u:=rfl
   generalize u / 16 ^ k=q at *
   have hb15:=and15 q hq'
   have hk1:q % 16 < 16:=by omega
   go_wp2
   refine ⟨⟨j,k+1,by omega,by rw [← hdd];simp,rfl,?_,hb.setCell (p:=⟨w.heap.size,j+1,none⟩) (Nat.le_refl _) _⟩,by simp only [intOf];omega⟩
   rw [hbl,xZqM hk1,← hhx,← xZpp 35 (hexB (q % 16)) 0 (hxS k u) j,List.setIfInBounds_toArray]
   simp only [Lib.byteCells,List.map_set]
theorem xZjs (N:Nat):xZeJ.Ok prog N:=by
 refine ⟨⟨Tryz.f114,Tryz.func114,by kernel_rfl,by kernel_rfl⟩,fun a r h=>?_⟩
 have h:xZ9G N a.1=some r:=h
 unfold xZ9G at h
 obtain ⟨h1,h2⟩:=xZ2U h
 obtain rfl:=Option.some.inj h2
 intro M S w vs hh _ hsz hrep
 obtain ⟨v,rfl⟩:∃ v,vs=#[v]:=by
  match vs,hsz with
  | ⟨[v]⟩,_=>exact ⟨v,rfl⟩
 have h0:v=.int .u64 a.1:=VRep.v_eq (hrep 0 (Nat.zero_lt_one))
 subst h0
 obtain ⟨k1,k2⟩:=(Bool.and_eq_true _ _).mp h1
 obtain ⟨u,hu⟩:∃ u:Nat,a.1=(u:Int):=⟨a.1.toNat,by have:=xZ1e.1 k1;omega⟩
 have k3:a.1 < 18446744073709551616:=xZ18.1 k2
 rw [hu] at k3 ⊢
 refine (xZkk u (by omega) w).mono ?_
 rintro e w' ⟨rfl,hb⟩
 have hg:Grew w w':=⟨hb.os,hb.tape,hb.output,hb.size,hb.block⟩
 exact ⟨M,S,.data (.v _),hh.grew hg,.grew hh hg⟩
end
section
open Go Go.Shelf Go.RowKit Go.Proofs.Tryz
set_option maxHeartbeats 1000000
set_option maxRecDepth 1000000
theorem xZlI (x:List UInt8):(bs x).size=x.length:=by simp [bs,ByteArray.size]
theorem xZrd (x:List UInt8) (c:UInt8):Lib.byteCells x++[Value.int .u8 (c.toNat:Int)]=Lib.byteCells (x++[c]):=by rw [Lib.byteCells_append];rfl
theorem xZqt (c:UInt8):(txC c).length≤3:=by
 unfold txC;split
 ·decide
 ·split<;>simp
theorem lx_le (l:List UInt8):(l.flatMap txC).length≤3 * l.length:=by
 induction l with
 | nil=>exact Nat.zero_le _
 | cons c l ih=>have:=xZqt c;simp only [List.flatMap_cons,List.length_append,List.length_cons];omega
theorem xZrh (c:UInt8):txC c=if c.toNat=39 then [39,39] else if c.toNat < 32∨126 < c.toNat∨c.toNat=92 then [92,hexB (c.toNat / 16),hexB (c.toNat % 16)] else [c]:=by
 unfold txC
 simp only [UInt8.lt_iff_toNat_lt,← UInt8.toNat_inj]
 rfl
theorem xZpr {k:Nat} (h:k < 16):({ data:=#[48,49,50,51,52,53,54,55,56,57,97,98,99,100,101,102] }:ByteArray)[k]'h=hexB k:=by
 have:∀ k:Fin 16,({ data:=#[48,49,50,51,52,53,54,55,56,57,97,98,99,100,101,102] }:ByteArray)[k.1]'k.2=hexB k.1:=by decide
 exact this ⟨k,h⟩
theorem xZcS {w wr:World} {x:List UInt8} (v:Int) (hI:Lib.IsBuilderF 218 5 w.heap.size w.heap.size (Lib.byteCells x) wr) (hb:Below w.heap.size w wr) (hq:x.length≤100000000000):
 Calls Tryz.prog 145 #[.pointer (some ⟨w.heap.size,0,none⟩),.int .u8 v] wr fun e W=>e=.returned .nilIface∧(∀ c:UInt8,v=(c.toNat:Int)→Lib.IsBuilderF 218 5 w.heap.size w.heap.size (Lib.byteCells (x++[c])) W)∧Below w.heap.size w W:=by
 refine (Any.Builder_WriteByte_k lays167 bextra w.heap.size w.heap.size _ v _ hI (by rw [Lib.byteCells_length];omega) hb.size).mono ?_
 rintro e W ⟨rfl,h,b,_⟩
 refine ⟨rfl,fun c hc=>Or.inr ?_,hb.trans b⟩
 subst hc
 rw [← xZrd];exact h
theorem xZnB (l:List UInt8) (w:World) (hlen:l.length≤10000000000):
 Calls Tryz.prog 115 #[.string (bs l)] w fun e w'=>e=.returned (.string (bs (txS l)))∧Below w.heap.size w w':=by
 have hat:∀ pre c rest,l=pre++c::rest→∃ h:pre.length < (bs l).size,(bs l)[pre.length]'h=c:=fun pre c rest h=>by
  subst h
  refine ⟨by rw [xZlI];simp,?_⟩
  exact (by simp:(pre++c::rest).toArray[pre.length]'(by simp)=c)
 have hn':l.length=(bs l).size:=by rw [xZlI]
 obtain ⟨T,hT⟩:∃ T,T=txS l:=⟨_,rfl⟩
 rw [← hT]
 generalize bs l=B at *
 obtain ⟨n,hn⟩:∃ n,B.size=n:=⟨_,rfl⟩
 rw [hn] at hn'
 go_enter Tryz.func115,Tryz.ntmps115
 go_wp2_with (go_at_call 145;refine (xZcS (x:=[]) 39 (Lib.IsBuilderF.of (Lib.fresh_isBuilder 218 5 w)) ((Below.refl _ w).alloc (Nat.le_refl _) _) (by simp)).mono ?_)
 rintro e W0 ⟨rfl,h0,b0⟩
 have h0:=h0 39 rfl
 go_wp2
 go_loopw [9] (fun i wr=>∃ (pre rest:List UInt8),l=pre++rest∧i=.int .i64 pre.length∧Lib.IsBuilderF 218 5 w.heap.size w.heap.size (Lib.byteCells ([39]++pre.flatMap txC)) wr∧Below w.heap.size w wr) (fun i _=>n - (intOf i).toNat)
 case atStart=>exact ⟨[],l,rfl,rfl,h0,b0⟩
 case round=>
  obtain ⟨pre,rest,hl,rfl,hI,hb⟩:=hrel
  have hsz:=hb.size
  have htx:=lx_le pre
  cases rest with
  | nil=>
    have hc:¬ ((pre.length:Int) < (n:Int)):=by rw [← hn',hl];simp
    rw [List.append_nil] at hl
    have hq:([39]++pre.flatMap txC).length≤100000000000:=by subst hl;simp only [List.length_append,List.length_cons,List.length_nil];omega
    clear hlen hat htx
    subst hl
    go_wp2_with (first | (go_at_call 145;refine (xZcS 39 hI hb hq).mono ?_;rintro e W1 ⟨rfl,h1,b1⟩;have h1:=h1 39 rfl) | (go_at_call 147;refine (Any.Builder_String_any_k lays169 bextra w.heap.size w.heap.size _ _ h1 (by have:=b1.size;omega)).mono ?_;rintro e W2 ⟨rfl,_,b2,_⟩))
    go_ret
    exact ⟨by rw [hT];rfl,b1.trans b2⟩
  | cons c rest=>
    have hlp:pre.length < l.length:=by rw [hl];simp
    have hc:((pre.length:Int) < (n:Int)):=by omega
    have hlt:pre.length < n:=by omega
    obtain ⟨hx1,hx⟩:=hat pre c rest hl
    have hq:([39]++pre.flatMap txC).length≤100000000000 - 10:=by simp only [List.length_append,List.length_cons,List.length_nil];omega
    clear hat
    have hq1:([39]++pre.flatMap txC).length≤100000000000:=by omega
    have hq2:(([39]++pre.flatMap txC)++[92]).length≤100000000000:=by rw [List.length_append];simp only [List.length_cons,List.length_nil];omega
    have hq3:∀ d:UInt8,((([39]++pre.flatMap txC)++[92])++[d]).length≤100000000000:=fun d=>by rw [List.length_append,List.length_append];simp only [List.length_cons,List.length_nil];omega
    have h256:c.toNat < 256:=c.toNat_lt
    have hk1:c.toNat / 16 < 16:=by omega
    have hk2:c.toNat % 16 < 16:=by omega
    go_wp2_with (first
     | (go_at_call 145;refine (xZcS _ hI hb hq1).mono ?_;rintro e W1 ⟨rfl,h1,b1⟩;first | have h1:=h1 92 rfl | have h1:=h1 c rfl)
     | (go_at_call 145;refine (xZcS _ h1 b1 hq2).mono ?_;rintro e W2 ⟨rfl,h2,b2⟩;have h2:=h2 _ rfl)
     | (go_at_call 145;refine (xZcS _ h2 b2 (hq3 _)).mono ?_;rintro e W3 ⟨rfl,h3,b3⟩;have h3:=h3 _ rfl)
     | (go_at_call 146;refine (Any.Builder_WriteString_k lays166 bextra w.heap.size w.heap.size _ _ _ hI (by rw [Lib.byteCells_length];exact Nat.le_trans (Nat.add_le_add hq1 (Nat.le_refl _)) (by decide)) hsz).mono ?_;rintro e W1 ⟨rfl,h1,b1,_⟩))
    all_goals
     refine ⟨⟨pre++[c],rest,by rw [hl];simp,by simp,?_,by first | assumption | exact hb.trans (by assumption)⟩,by simp only [intOf];omega⟩
     rw [show [39]++(pre++[c]).flatMap txC=([39]++pre.flatMap txC)++txC c by simp,xZrh]
     clear hT hl hn' hn hc hlt hlp hx hx1
     try simp only [beq_iff_eq,beq_eq_false_iff_ne,ne_eq] at *
     first
      | (rw [if_pos (by omega)]
         rw [show Lib.strCells { data:=#[39,39] }=Lib.byteCells [39,39] from rfl,← Lib.byteCells_append] at h1
         exact Or.inr h1)
      | (rw [if_neg (by omega),if_pos (by omega)]
         rw [xZpr hk1,xZpr hk2] at h3
         simpa only [List.append_assoc,List.cons_append,List.nil_append] using h3)
      | (rw [if_neg (by omega),if_neg (by omega)];exact h1)
theorem xZiM (N:Nat):xZeL.Ok prog N:=by
 refine ⟨⟨Tryz.f115,Tryz.func115,by kernel_rfl,by kernel_rfl⟩,fun a r h=>?_⟩
 have h:xZ9K N a.1=some r:=h
 unfold xZ9K at h
 obtain ⟨h1,h2⟩:=xZ2U h
 obtain rfl:=Option.some.inj h2
 intro M S w vs hh _ hsz hrep
 obtain ⟨v,rfl⟩:∃ v,vs=#[v]:=by
  match vs,hsz with
  | ⟨[v]⟩,_=>exact ⟨v,rfl⟩
 have h0:v=.string (bs a.1):=VRep.v_eq (hrep 0 (Nat.zero_lt_one))
 subst h0
 refine (xZnB a.1 w (Nat.le_of_ble_eq_true h1)).mono ?_
 rintro e w' ⟨rfl,hb⟩
 have hg:Grew w w':=⟨hb.os,hb.tape,hb.output,hb.size,hb.block⟩
 exact ⟨M,S,.data (.v _),hh.grew hg,.grew hh hg⟩
end
section
open Go Go.RowKit Go.Extern.Stop Go.Stop Go.Extern Go.Proofs.Tryz
set_option maxHeartbeats 4000000
set_option maxRecDepth 1000000
theorem xZr4 (t:Value) (w:World):
 Calls Tryz.prog 36 #[.nilIface,t] w fun e w'=>e=.returned (.bool false)∧w'=w:=by
 go_enter Tryz.func36,Tryz.ntmps36
 go_wp2
 go_ret
 exact ⟨rfl,rfl⟩
theorem xZmm (w:World):Calls Tryz.prog 35 #[.nilIface] w fun e w'=>e=.returned (.pointer none)∧Below w.heap.size w w':=by
 go_enter Tryz.func35,Tryz.ntmps35
 go_wp2_with (go_at_call 36;refine (xZr4 _ _).mono ?_;rintro e w' ⟨rfl,rfl⟩)
 go_ret
 exact ⟨rfl,(Below.refl _ w).alloc (Nat.le_refl _) _⟩
theorem xZeu (N:Nat):xZaY.Ok prog N:=by
 refine ⟨⟨Tryz.f35,Tryz.func35,by kernel_rfl,by kernel_rfl⟩,fun a r h=>?_⟩
 intro M S w vs hh _ hsz hrep
 obtain ⟨v,rfl⟩:∃ v,vs=#[v]:=by
  match vs,hsz with
  | ⟨[v]⟩,_=>exact ⟨v,rfl⟩
 have h0:v=.nilIface:=VRep.v_eq (hrep 0 (Nat.zero_lt_one))
 subst h0
 refine (xZmm w).mono ?_
 rintro e w' ⟨rfl,hb⟩
 have hg:Grew w w':=⟨hb.os,hb.tape,hb.output,hb.size,hb.block⟩
 exact ⟨M,S,.data (.v _),hh.grew hg,.grew hh hg⟩
end
section
open Go Go.RowKit Go.Extern.Stop Go.Stop Go.Extern Go.Proofs.Tryz
set_option maxHeartbeats 4000000
set_option maxRecDepth 1000000
theorem xZfZ (t:Addr) (w:World):(ReflectliteValue.unpack (.iface 128 (.pointer (some t)))).run Tryz.prog w
 = .ok (.agg #[.pointer (some ⟨3,128,none⟩),.pointer (some ⟨w.heap.size,0,none⟩),.int .u64 150]) (w.alloc (.cells #[.pointer (some t)] 128)):=by kernel_rfl
theorem xZjK (a:Addr) (w:World):(ReflectliteValue.methodAny (ReflectliteValue.valueError "reflectlite.Value.Type" 0) (fun t _ _ _=>ReflectliteType.toType t) #[.agg #[.pointer (some ⟨3,128,none⟩),.pointer (some a),.int .u64 150]]).run Tryz.prog w
 = .ok (.iface 160 (.agg #[.pointer (some ⟨3,128,none⟩)])) w:=by kernel_rfl
theorem xZfj (h:Value) (w:World):(Go.method 397 160 (.agg #[h]) "Kind").run Tryz.prog w=.ok (217,h) w:=by kernel_rfl
theorem xZkz (w:World):((ReflectliteType.abiMethod fun t=>(fun a:Nat=>Value.int IntKind.u8 (a:Int)) <$> Rtype.kind t) #[.pointer (some ⟨3,128,none⟩)]).run Tryz.prog w=.ok (.int .u8 22) w:=by kernel_rfl
theorem xZkg (w:World):((ReflectliteType.abiMethod fun t=>(fun a:Nat=>Value.int IntKind.u8 (a:Int)) <$> Rtype.kind t) #[.pointer (some ⟨3,84,none⟩)]).run Tryz.prog w=.ok (.int .u8 22) w:=by kernel_rfl
theorem xZoT (z:Sem Value) (f:TypeId→Addr→Nat→Nat→Sem Value) (v:Value):
 ReflectliteValue.method z f #[v]=(do match ← ReflectliteValue.parts v with | none=>z | some (t,a,fl)=>f t a fl (fl % 32)):=rfl
theorem xZf5 (a:Addr) (w:World):(ReflectliteValue.parts (.agg #[.pointer (some ⟨3,128,none⟩),.pointer (some a),.int .u64 150])).run Tryz.prog w=.ok (some (128,a,150)) w:=by kernel_rfl
theorem xZj9 (a p:Addr) (W:World) (ha:W.cell? a=some (.pointer (some p))):
 (ReflectliteValue.method (ReflectliteValue.valueError "reflectlite.Value.IsNil" 0) ReflectliteValue.isNil #[.agg #[.pointer (some ⟨3,128,none⟩),.pointer (some a),.int .u64 150]]).run Tryz.prog W=.ok (.bool false) W:=by
 rw [xZoT]
 simp only [Sem.run_bind,xZf5,Result.andThen]
 simp [ReflectliteValue.isNil,loadVar,isAgg,underlying,Tryz.underlying128,ha,Result.andThen]
theorem xZfl (h:Value) (w:World):(Go.method 397 160 (.agg #[h]) "Elem").run Tryz.prog w=.ok (229,.agg #[h]) w:=by kernel_rfl
theorem xZaB (h:Value) (w:World):(Go.method 397 160 (.agg #[h]) "Implements").run Tryz.prog w=.ok (230,.agg #[h]) w:=by kernel_rfl
theorem xZ9Z (h:Value) (w:World):(Go.method 397 160 (.agg #[h]) "AssignableTo").run Tryz.prog w=.ok (227,.agg #[h]) w:=by kernel_rfl
theorem xZjZ (w:World):(ReflectliteType.method ReflectliteType.elem #[.agg #[.pointer (some ⟨3,128,none⟩)]]).run Tryz.prog w=.ok (.iface 160 (.agg #[.pointer (some ⟨3,84,none⟩)])) w:=by kernel_rfl
theorem xZd8 (w:World):(ReflectliteType.relation "Implements" ReflectliteType.implements_ #[.agg #[.pointer (some ⟨3,84,none⟩)],.iface 160 (.agg #[.pointer (some ⟨3,27,none⟩)])]).run Tryz.prog w=.ok (.bool true) w:=by kernel_rfl
theorem xZh7 (v:Value) (w:World):(ReflectliteType.typeOf #[.iface 84 v]).run Tryz.prog w=.ok (.iface 160 (.agg #[.pointer (some ⟨3,84,none⟩)])) w:=by kernel_rfl
theorem xZd2 (w:World):(ReflectliteType.relation "AssignableTo" ReflectliteType.assignableTo #[.agg #[.pointer (some ⟨3,84,none⟩)],.iface 160 (.agg #[.pointer (some ⟨3,84,none⟩)])]).run Tryz.prog w=.ok (.bool true) w:=by kernel_rfl
theorem xZgq (e:Addr) (w:World):(ReflectliteValue.unpack (.iface 84 (.pointer (some e)))).run Tryz.prog w
 = .ok (.agg #[.pointer (some ⟨3,84,none⟩),.pointer (some ⟨w.heap.size,0,none⟩),.int .u64 150]) (w.alloc (.cells #[.pointer (some e)] 84)):=by kernel_rfl
theorem xZhs (w:World):(Rtype.elem? 128).run Tryz.prog w=.ok (some 84) w:=by kernel_rfl
theorem xZnC (p:Addr) (w:World):(ReflectliteValue.mk 84 p ReflectliteValue.flagAddr).run Tryz.prog w=.ok (.agg #[.pointer (some ⟨3,84,none⟩),.pointer (some p),.int .u64 406]) w:=by kernel_rfl
theorem xZjb (a p:Addr) (W:World) (ha:W.cell? a=some (.pointer (some p))):
 (ReflectliteValue.method (ReflectliteValue.valueError "reflectlite.Value.Elem" 0) ReflectliteValue.elem #[.agg #[.pointer (some ⟨3,128,none⟩),.pointer (some a),.int .u64 150]]).run Tryz.prog W
   = .ok (.agg #[.pointer (some ⟨3,84,none⟩),.pointer (some p),.int .u64 406]) W:=by
 rw [xZoT]
 simp only [Sem.run_bind,xZf5,Result.andThen]
 simp [ReflectliteValue.elem,loadVar,isAgg,underlying,Tryz.underlying128,ha,Result.andThen,xZhs,xZnC]
theorem xZqp (v x:Value):ReflectliteValue.set #[v,x]=(do
 let (some (dst,a,fl),some (src,b,_)):=(← ReflectliteValue.parts v,← ReflectliteValue.parts x)
  | unsupported (.noEntry "extern/(internal/reflectlite.Value).Set.zeroValue")
 if fl / ReflectliteValue.flagAddr % 2==0 then unsupported (.noEntry "extern/(internal/reflectlite.Value).Set.unaddressable")
 let val ← loadVar src b
 if ← Rtype.directlyAssignable dst src then storeVar dst a val
 else if ← Rtype.implements dst src then
  if (← Rtype.kind src)==20 then
   match val with
   | .nilIface=>unsupported (.noEntry "extern/reflectlite: a nil value of one interface type handed on as a value of another")
   | _=>storeVar dst a val
  else storeVar dst a (.iface src val)
 else panicString ("reflectlite.Set: value of type " ++ (← Rtype.spelt src) ++ " is not assignable to type " ++ (← Rtype.spelt dst))
 pure (.tuple #[])):=rfl
theorem xZhy (a:Addr) (w:World):(ReflectliteValue.parts (.agg #[.pointer (some ⟨3,84,none⟩),.pointer (some a),.int .u64 406])).run Tryz.prog w=.ok (some (84,a,406)) w:=by kernel_rfl
theorem xZiA (a:Addr) (w:World):(ReflectliteValue.parts (.agg #[.pointer (some ⟨3,84,none⟩),.pointer (some a),.int .u64 150])).run Tryz.prog w=.ok (some (84,a,150)) w:=by kernel_rfl
theorem xZhj (w:World):(Rtype.directlyAssignable 84 84).run Tryz.prog w=.ok true w:=by kernel_rfl
theorem xZmq (ta b e:Addr) (old:Value) (W:World) (hb:W.cell? b=some (.pointer (some e))) (ht:W.cell? ta=some old) (hf:W.frozen? ta=false):
 (ReflectliteValue.set #[.agg #[.pointer (some ⟨3,84,none⟩),.pointer (some ta),.int .u64 406],.agg #[.pointer (some ⟨3,84,none⟩),.pointer (some b),.int .u64 150]]).run Tryz.prog W
   = .ok (.tuple #[]) (W.setCell ta (.pointer (some e))):=by
 rw [xZqp]
 simp only [Sem.run_bind,xZhy,xZiA,Result.andThen]
 simp [ReflectliteValue.flagAddr,loadVar,isAgg,underlying,Tryz.underlying84,hb,Result.andThen,xZhj,storeVar,Value.cells,storeCells,Addr.add]
 rw [run_store Tryz.prog W ta _ _ (by rfl)]
 simp [ht,hf]
set_option maxHeartbeats 4000000 in
theorem xZrk (e t:Addr) (old:Value) (w:World) (hg:w.cell? ⟨0,0,none⟩=some (.iface 160 (.agg #[.pointer (some ⟨3,27,none⟩)]))) (ht0:w.cell? t=some old) (hf0:w.frozen? t=false):
 Calls Tryz.prog 36 #[.iface 84 (.pointer (some e)),.iface 128 (.pointer (some t))] w fun ev w'=>ev=.returned (.bool true)∧w'=((((w.alloc (.cells #[.pointer (some t)] 128)).alloc (.cells #[.pointer (some ⟨3,128,none⟩),.pointer (some ⟨w.heap.size,0,none⟩),.int .u64 150] 132)).alloc (.cells #[.pointer (some ⟨3,128,none⟩),.pointer (some ⟨w.heap.size,0,none⟩),.int .u64 150] 132)).alloc (.cells #[.pointer (some e)] 84)).setCell t (.pointer (some e)):=by
 have h6:=@run_callFunc_extern Tryz.prog 68 _ (fun args=>ReflectliteValue.unpack (args.getD 0 (.tuple #[]))) Tryz.func68 (by kernel_rfl) (by kernel_rfl) (by kernel_rfl) (by kernel_rfl)
 have h7:=@run_callFunc_extern Tryz.prog 69 _ (ReflectliteValue.methodAny (ReflectliteValue.valueError "reflectlite.Value.Type" 0) (fun t _ _ _=>ReflectliteType.toType t)) Tryz.func69 (by kernel_rfl) (by kernel_rfl) (by kernel_rfl) (by kernel_rfl)
 have h8:=@run_callFunc_extern Tryz.prog 70 _ (ReflectliteValue.method (ReflectliteValue.valueError "reflectlite.Value.IsNil" 0) ReflectliteValue.isNil) Tryz.func70 (by kernel_rfl) (by kernel_rfl) (by kernel_rfl) (by kernel_rfl)
 have h27:=@run_callFunc_extern Tryz.prog 217 _ (ReflectliteType.abiMethod fun t=>do pure (.int .u8 (← Rtype.kind t))) Tryz.func217 (by kernel_rfl) (by kernel_rfl) (by kernel_rfl) (by kernel_rfl)
 have h37:=@run_callFunc_extern Tryz.prog 229 _ (ReflectliteType.method ReflectliteType.elem) Tryz.func229 (by kernel_rfl) (by kernel_rfl) (by kernel_rfl) (by kernel_rfl)
 have h38:=@run_callFunc_extern Tryz.prog 230 _ (ReflectliteType.relation "Implements" ReflectliteType.implements_) Tryz.func230 (by kernel_rfl) (by kernel_rfl) (by kernel_rfl) (by kernel_rfl)
 have h10:=@run_callFunc_extern Tryz.prog 72 _ ReflectliteType.typeOf Tryz.func72 (by kernel_rfl) (by kernel_rfl) (by kernel_rfl) (by kernel_rfl)
 have h35:=@run_callFunc_extern Tryz.prog 227 _ (ReflectliteType.relation "AssignableTo" ReflectliteType.assignableTo) Tryz.func227 (by kernel_rfl) (by kernel_rfl) (by kernel_rfl) (by kernel_rfl)
 have h11:=@run_callFunc_extern Tryz.prog 108 _ (ReflectliteValue.method (ReflectliteValue.valueError "reflectlite.Value.Elem" 0) ReflectliteValue.elem) Tryz.func108 (by kernel_rfl) (by kernel_rfl) (by kernel_rfl) (by kernel_rfl)
 have h12:=@run_callFunc_extern Tryz.prog 109 _ ReflectliteValue.set Tryz.func109 (by kernel_rfl) (by kernel_rfl) (by kernel_rfl) (by kernel_rfl)
 have tO:=xZh7
 have mA:=xZ9Z
 have a25:=xZd2
 have v25:=xZgq
 have f6:=xZfZ
 have f7:=xZjK
 have mK:=xZfj
 have mE:=xZfl
 have mI:=xZaB
 have k27:=xZkz
 have k25:=xZkg
 have e27:=xZjZ
 have i25:=xZd8
 have n8:=xZj9 ⟨w.heap.size,0,none⟩ t ((w.alloc (.cells #[.pointer (some t)] 128)).alloc (.cells #[.pointer (some ⟨3,128,none⟩),.pointer (some ⟨w.heap.size,0,none⟩),.int .u64 150] 132)) (by simp)
 have hlt:0 < w.heap.size:=by
  rcases Nat.lt_or_ge 0 w.heap.size with h | h
  ·exact h
  ·simp [World.cell?,Array.getElem?_eq_none h] at hg
 have hg2:((w.alloc (.cells #[.pointer (some t)] 128)).alloc (.cells #[.pointer (some ⟨3,128,none⟩),.pointer (some ⟨w.heap.size,0,none⟩),.int .u64 150] 132)).cell? ⟨0,0,none⟩=some (.iface 160 (.agg #[.pointer (some ⟨3,27,none⟩)])):=by
  rw [World.cell?_alloc_lt _ _ ⟨0,0,none⟩ (by simp),World.cell?_alloc_lt _ _ ⟨0,0,none⟩ hlt];exact hg
 have htl:t.block < w.heap.size:=by
  rcases Nat.lt_or_ge t.block w.heap.size with h | h
  ·exact h
  ·simp [World.cell?,Array.getElem?_eq_none h] at ht0
 have el:=xZjb ⟨w.heap.size,0,none⟩ t (((w.alloc (.cells #[.pointer (some t)] 128)).alloc (.cells #[.pointer (some ⟨3,128,none⟩),.pointer (some ⟨w.heap.size,0,none⟩),.int .u64 150] 132)).alloc (.cells #[.pointer (some ⟨3,128,none⟩),.pointer (some ⟨w.heap.size,0,none⟩),.int .u64 150] 132)) (by rw [World.cell?_alloc_lt _ _ ⟨w.heap.size,0,none⟩ (by simp;omega)];simp)
 have st:=xZmq t ⟨w.heap.size+1+1+1,0,none⟩ e old ((((w.alloc (.cells #[.pointer (some t)] 128)).alloc (.cells #[.pointer (some ⟨3,128,none⟩),.pointer (some ⟨w.heap.size,0,none⟩),.int .u64 150] 132)).alloc (.cells #[.pointer (some ⟨3,128,none⟩),.pointer (some ⟨w.heap.size,0,none⟩),.int .u64 150] 132)).alloc (.cells #[.pointer (some e)] 84))
  (by rw [World.cell?_alloc_at _ _ _ _ (by simp)];rfl)
  (by rw [World.cell?_alloc_lt _ _ t (by simp;omega),World.cell?_alloc_lt _ _ t (by simp;omega),World.cell?_alloc_lt _ _ t (by simp;omega),World.cell?_alloc_lt _ _ t htl];exact ht0)
  (by rw [World.frozen?_alloc_old _ _ t (by simp;omega),World.frozen?_alloc_old _ _ t (by simp;omega),World.frozen?_alloc_old _ _ t (by simp;omega),World.frozen?_alloc_old _ _ t (Nat.ne_of_lt htl)];exact hf0)
 go_enter Tryz.func36,Tryz.ntmps36
 go_wp2
 refine wp_loop_rounds 1 ?_
 rw [rounds_succ]
 go_wp2
 go_ret
 exact ⟨rfl,rfl⟩
theorem xZmM (p:Addr) (w:World) (hg:w.cell? ⟨0,0,none⟩=some (.iface 160 (.agg #[.pointer (some ⟨3,27,none⟩)]))) (hlt:0 < w.heap.size):Calls Tryz.prog 35 #[.iface 84 (.pointer (some p))] w fun e w'=>e=.returned (.pointer (some p))∧Below w.heap.size w w':=by
 have hgA:(w.alloc (.cells #[.pointer none] 84)).cell? ⟨0,0,none⟩=some (.iface 160 (.agg #[.pointer (some ⟨3,27,none⟩)])):=by
  rw [World.cell?_alloc_lt _ _ ⟨0,0,none⟩ hlt];exact hg
 have htA:(w.alloc (.cells #[.pointer none] 84)).cell? ⟨w.heap.size,0,none⟩=some (.pointer none):=by simp
 have hfA:(w.alloc (.cells #[.pointer none] 84)).frozen? ⟨w.heap.size,0,none⟩=false:=by simp
 go_enter Tryz.func35,Tryz.ntmps35
 go_wp2_with (go_at_call 36;refine (xZrk _ _ (.pointer none) _ hgA htA hfA).mono ?_;rintro e w' ⟨rfl,rfl⟩)
 go_ret
 refine ⟨rfl,?_⟩
 exact (((((Below.refl _ w).alloc (Nat.le_refl _) _).alloc (by simp) _).alloc (by simp;omega) _).alloc (by simp;omega) _).alloc (by simp;omega) _
theorem xZaG (N:Nat):xZ8K.Ok prog N:=by
 refine ⟨⟨Tryz.f35,Tryz.func35,by kernel_rfl,by kernel_rfl⟩,fun a r h=>?_⟩
 obtain ⟨⟨n,p,⟨⟩⟩,⟨⟩⟩:=a
 have h:xZ3i N n p=some r:=h
 obtain rfl:=Option.some.inj h
 intro M S w vs hh hp hsz hrep
 obtain ⟨v,rfl⟩:∃ v,vs=#[v]:=by
  match vs,hsz with
  | ⟨[v]⟩,_=>exact ⟨v,rfl⟩
 obtain ⟨u,hu,h1⟩:=xZeZ (hrep 0 (Nat.zero_lt_one))
 have hu:v=.iface 84 u:=hu
 subst hu
 have hq:∃ q,u=.pointer (some q):=by
  cases h1 with | data h1=>cases h1;exact ⟨_,rfl⟩
 obtain ⟨q,rfl⟩:=hq
 obtain ⟨h2,_,h3⟩:=hp _ _ (show envCell prog=some (0,.iface 160 (.agg #[.pointer (some ⟨3,27,none⟩)])) from by kernel_rfl)
 refine (xZmM q w h2 h3).mono ?_
 rintro e w' ⟨rfl,hb⟩
 have hg:Grew w w':=⟨hb.os,hb.tape,hb.output,hb.size,hb.block⟩
 exact ⟨M,S,VRep.grew hh hg h1,hh.grew hg,.grew hh hg⟩
end
section
open Go.Proofs.Tryz
set_option maxRecDepth 1000000
noncomputable section
noncomputable def xZhC:Fn xZ9V:=⟨f86,[],⟨[],[],sbf,bof⟩,fun _=>[],[true],none,0,0,fun _ _=>true,none,[],[]⟩
theorem xZho:xZhC.Ok prog:=⟨Is.of (by kernel_rfl) (by kernel_rfl),by kernel_rfl,xZe sb_ok bo_ok,trivial,trivial,fun _=>by kernel_rfl⟩
theorem xZdt (N:Nat):xZ9V.Ok prog N:=xZho.give tb_ok hm N N (fun _=>trivial) fun a r s h=>by
 exact s.main [] trivial (.trans (by kernel_rfl) h)
noncomputable def xZ9i:Fn xZ11:=⟨f89,[],⟨[],[],sbf,bof⟩,fun _=>[xZ63],[false],none,1,1,fun _ _=>true,none,[],[]⟩
theorem xZ9k:xZ9i.Ok prog:=⟨Is.of (by kernel_rfl) (by kernel_rfl),by kernel_rfl,xZe sb_ok bo_ok,trivial,trivial,fun _=>by kernel_rfl⟩
theorem xZ1W (N:Nat):xZ11.Ok prog N:=xZ9k.give tb_ok hm N N (fun _=>⟨xZ80 N,trivial⟩) fun a r s h=>by
 exact s.main [] trivial (.trans (by kernel_rfl) h)
noncomputable def xZht:Fn xZ89:=⟨f87,[],⟨[],[],sbf,bof⟩,fun _=>[],[true],none,0,0,fun _ _=>true,none,[],[]⟩
theorem xZhc:xZht.Ok prog:=⟨Is.of (by kernel_rfl) (by kernel_rfl),by kernel_rfl,xZe sb_ok bo_ok,trivial,trivial,fun _=>by kernel_rfl⟩
theorem xZbk (N:Nat):xZ89.Ok prog N:=xZhc.give tb_ok hm N N (fun _=>trivial) fun a r s h=>by
 exact s.main [] trivial (.trans (by kernel_rfl) h)
noncomputable def xZjq:Fn xZch:=⟨f120,[],⟨[],[],sbf,bof⟩,fun _=>[xZ9V,xZ89],[true],none,0,0,fun _ _=>true,none,[],[]⟩
theorem xZip:xZjq.Ok prog:=⟨Is.of (by kernel_rfl) (by kernel_rfl),by kernel_rfl,xZe sb_ok bo_ok,trivial,trivial,fun _=>by kernel_rfl⟩
theorem xZi5 (N:Nat):xZch.Ok prog N:=xZip.give tb_ok hm N N (fun _=>⟨xZdt N,xZbk N,trivial⟩) fun a r s h=>by
 exact s.main [] trivial (.trans (by kernel_rfl) h)
noncomputable def xZ81:Fn xZ38:=⟨f119,[],⟨[],[],sbf,bof⟩,fun _=>[xZch],[true],none,1,1,fun _ _=>true,none,[],[]⟩
theorem xZ8p:xZ81.Ok prog:=⟨Is.of (by kernel_rfl) (by kernel_rfl),by kernel_rfl,xZe sb_ok bo_ok,trivial,trivial,fun _=>by kernel_rfl⟩
theorem xZ8o (N:Nat):xZ38.Ok prog N:=xZ8p.give tb_ok hm N N (fun _=>⟨xZi5 N,trivial⟩) fun a r s h=>by
 have l0:=s.loop 0 xZ1Q (xZ46 N) N fun next0 h0=>by
  exact fun c v=>s.seg 0 xZ1Q [(0,.of xZ1Q next0)] ⟨h0,trivial⟩ (by kernel_rfl) (by kernel_rfl)
 exact s.main [(0,.of xZ1Q (xZ6L N))] ⟨l0,trivial⟩ (.trans (by kernel_rfl) h)
noncomputable def xZe6:Fn xZ8W:=⟨f122,[],⟨[],[],sbf,bof⟩,fun _=>[],[true],none,0,0,fun _ _=>true,none,[],[]⟩
theorem xZet:xZe6.Ok prog:=⟨Is.of (by kernel_rfl) (by kernel_rfl),by kernel_rfl,xZe sb_ok bo_ok,trivial,trivial,fun _=>by kernel_rfl⟩
theorem xZdD (N:Nat):xZ8W.Ok prog N:=xZet.give tb_ok hm N N (fun _=>trivial) fun a r s h=>by
 exact s.main [] trivial (.trans (by kernel_rfl) h)
noncomputable def xZ9P:Fn xZ16:=⟨f121,[],⟨[(24,0)],[],sbf,bof⟩,fun _=>[],[false],none,1,1,fun _ _=>true,none,[],[]⟩
theorem xZ9A:xZ9P.Ok prog:=⟨Is.of (by kernel_rfl) (by kernel_rfl),by kernel_rfl,xZe sb_ok bo_ok,trivial,trivial,fun _=>by kernel_rfl⟩
theorem xZ27 (N:Nat):xZ16.Ok prog N:=xZ9A.give tb_ok hm N N (fun _=>trivial) fun a r s h=>by
 exact s.main [] trivial (.trans (by kernel_rfl) h)
noncomputable def xZc0:Fn xZ4p:=⟨f83,[],⟨[],[],sbf,bof⟩,fun _=>[],[true],none,0,0,fun _ _=>true,none,[],[]⟩
theorem xZbZ:xZc0.Ok prog:=⟨Is.of (by kernel_rfl) (by kernel_rfl),by kernel_rfl,xZe sb_ok bo_ok,trivial,trivial,fun _=>by kernel_rfl⟩
theorem xZ97 (N:Nat):xZ4p.Ok prog N:=xZbZ.give tb_ok hm N N (fun _=>trivial) fun a r s h=>by
 exact s.main [] trivial (.trans (by kernel_rfl) h)
noncomputable def xZ9q:Fn xZ3y:=⟨f90,[],⟨[],[],sbf,bof⟩,fun _=>[xZ38,xZ8W,xZ16,xZ4p,xZ11],[false],none,1,1,fun _ _=>true,none,[],[]⟩
theorem xZ9p:xZ9q.Ok prog:=⟨Is.of (by kernel_rfl) (by kernel_rfl),by kernel_rfl,xZe sb_ok bo_ok,trivial,trivial,fun _=>by kernel_rfl⟩
theorem xZ9b (N:Nat):xZ3y.Ok prog N:=xZ9p.give tb_ok hm N N (fun _=>⟨xZ8o N,xZdD N,xZ27 N,xZ97 N,xZ1W N,trivial⟩) fun a r s h=>by
 exact s.main [] trivial (.trans (by kernel_rfl) h)
noncomputable def xZ7Z:Fn xZ3b:=⟨f119,[],⟨[],[],sbf,bof⟩,fun _=>[xZ89],[true],none,1,1,fun _ _=>true,none,[],[]⟩
theorem xZ8c:xZ7Z.Ok prog:=⟨Is.of (by kernel_rfl) (by kernel_rfl),by kernel_rfl,xZe sb_ok bo_ok,trivial,trivial,fun _=>by kernel_rfl⟩
theorem xZ88 (N:Nat):xZ3b.Ok prog N:=xZ8c.give tb_ok hm N N (fun _=>⟨xZbk N,trivial⟩) fun a r s h=>by
 have l0:=s.loop 0 xZ1U (xZ43 N) N fun next0 h0=>by
  exact fun c v=>s.seg 0 xZ1U [(0,.of xZ1U next0)] ⟨h0,trivial⟩ (by kernel_rfl) (by kernel_rfl)
 exact s.main [(0,.of xZ1U (xZ6X N))] ⟨l0,trivial⟩ (.trans (by kernel_rfl) h)
noncomputable def xZez:Fn xZ7b:=⟨f78,[],⟨[],[],sbf,bof⟩,fun _=>[],[true],none,0,0,fun _ _=>true,none,[],[]⟩
theorem xZfc:xZez.Ok prog:=⟨Is.of (by kernel_rfl) (by kernel_rfl),by kernel_rfl,xZe sb_ok bo_ok,trivial,trivial,fun _=>by kernel_rfl⟩
theorem xZbG (N:Nat):xZ7b.Ok prog N:=xZfc.give tb_ok hm N N (fun _=>trivial) fun a r s h=>by
 exact s.main [] trivial (.trans (by kernel_rfl) h)
noncomputable def xZ8h:Fn xZ3d:=⟨f91,[],⟨[],[],sbf,bof⟩,fun _=>[xZ3b,xZ11,xZ7b,xZ16],[false],none,1,1,fun _ _=>true,none,[],[]⟩
theorem xZ8m:xZ8h.Ok prog:=⟨Is.of (by kernel_rfl) (by kernel_rfl),by kernel_rfl,xZe sb_ok bo_ok,trivial,trivial,fun _=>by kernel_rfl⟩
theorem xZ8a (N:Nat):xZ3d.Ok prog N:=xZ8m.give tb_ok hm N N (fun _=>⟨xZ88 N,xZ1W N,xZbG N,xZ27 N,trivial⟩) fun a r s h=>by
 have l0:=s.loop 0 xZ1T (xZ3V N) N fun next0 h0=>by
  exact fun c v=>s.seg 0 xZ1T [(0,.of xZ1T next0)] ⟨h0,trivial⟩ (by kernel_rfl) (by kernel_rfl)
 exact s.main [(0,.of xZ1T (xZ6t N))] ⟨l0,trivial⟩ (.trans (by kernel_rfl) h)
noncomputable def xZ9n:Fn xZ3u:=⟨f118,[(148,.ib)],⟨[],[],sbf,bof⟩,fun _=>[],[true],none,0,0,fun _ _=>true,none,[],[]⟩
theorem xZ9j:xZ9n.Ok prog:=⟨Is.of (by kernel_rfl) (by kernel_rfl),by kernel_rfl,xZe sb_ok bo_ok,trivial,⟨ExtIs.mk' f148 (by kernel_rfl) (by kernel_rfl) (by kernel_rfl) (by kernel_rfl) (by kernel_rfl),trivial⟩,fun _=>by kernel_rfl⟩
theorem xZ9c (N:Nat):xZ3u.Ok prog N:=xZ9j.give tb_ok hm N N (fun _=>trivial) fun a r s h=>by
 exact s.main [] trivial (.trans (by kernel_rfl) h)
noncomputable def xZaH:Fn xZ2R:=⟨f88,[],⟨[],[],sbf,bof⟩,fun _=>[xZ3u],[true],none,0,0,fun _ _=>true,none,[],[]⟩
theorem xZaz:xZaH.Ok prog:=⟨Is.of (by kernel_rfl) (by kernel_rfl),by kernel_rfl,xZe sb_ok bo_ok,trivial,trivial,fun _=>by kernel_rfl⟩
theorem xZ4O (N:Nat):xZ2R.Ok prog N:=xZaz.give tb_ok hm N N (fun _=>⟨xZ9c N,trivial⟩) fun a r s h=>by
 exact s.main [] trivial (.trans (by kernel_rfl) h)
noncomputable def xZgg:Fn xZ8L:=⟨f123,[],⟨[],[],sbf,bof⟩,fun _=>[xZ2R],[true],none,0,0,fun _ _=>true,none,[],[]⟩
theorem xZfv:xZgg.Ok prog:=⟨Is.of (by kernel_rfl) (by kernel_rfl),by kernel_rfl,xZe sb_ok bo_ok,trivial,trivial,fun _=>by kernel_rfl⟩
theorem xZcz (N:Nat):xZ8L.Ok prog N:=xZfv.give tb_ok hm N N (fun _=>⟨xZ4O N,trivial⟩) fun a r s h=>by
 exact s.main [] trivial (.trans (by kernel_rfl) h)
noncomputable def xZka:Fn xZem:=⟨f149,[(163,.fb)],⟨[],[],sbf,bof⟩,fun _=>[],[true],none,0,0,fun _ _=>true,none,[],[]⟩
theorem xZk2:xZka.Ok prog:=⟨Is.of (by kernel_rfl) (by kernel_rfl),by kernel_rfl,xZe sb_ok bo_ok,trivial,⟨ExtIs.mk' f163 (by kernel_rfl) (by kernel_rfl) (by kernel_rfl) (by kernel_rfl) (by kernel_rfl),trivial⟩,fun _=>by kernel_rfl⟩
theorem xZjY (N:Nat):xZem.Ok prog N:=xZk2.give tb_ok hm N N (fun _=>trivial) fun a r s h=>by
 exact s.main [] trivial (.trans (by kernel_rfl) h)
noncomputable def xZfU:Fn xZ6d:=⟨f124,[],⟨[],[],sbf,bof⟩,fun _=>[xZem],[true],none,0,0,fun _ _=>true,none,[],[]⟩
theorem xZg2:xZfU.Ok prog:=⟨Is.of (by kernel_rfl) (by kernel_rfl),by kernel_rfl,xZe sb_ok bo_ok,trivial,trivial,fun _=>by kernel_rfl⟩
theorem xZas (N:Nat):xZ6d.Ok prog N:=xZg2.give tb_ok hm N N (fun _=>⟨xZjY N,trivial⟩) fun a r s h=>by
 exact s.main [] trivial (.trans (by kernel_rfl) h)
noncomputable def xZe2:Fn xZ8J:=⟨f125,[],⟨[],[],sbf,bof⟩,fun _=>[xZ6d],[true],none,0,0,fun _ _=>true,none,[],[]⟩
theorem xZdJ:xZe2.Ok prog:=⟨Is.of (by kernel_rfl) (by kernel_rfl),by kernel_rfl,xZe sb_ok bo_ok,trivial,trivial,fun _=>by kernel_rfl⟩
theorem xZes (N:Nat):xZ8J.Ok prog N:=xZdJ.give tb_ok hm N N (fun _=>⟨xZas N,trivial⟩) fun a r s h=>by
 exact s.main [] trivial (.trans (by kernel_rfl) h)
end
end
section
open Go.Proofs.Tryz
set_option maxRecDepth 1000000
noncomputable section
noncomputable def xZ83:Fn xZ3c:=⟨f92,[],⟨[],[],sbf,bof⟩,fun _=>[xZ11,xZ8L,xZ6d,xZ8J,xZ16],[false],none,1,1,fun _ _=>true,none,[],[]⟩
theorem xZ8l:xZ83.Ok prog:=⟨Is.of (by kernel_rfl) (by kernel_rfl),by kernel_rfl,xZe sb_ok bo_ok,trivial,trivial,fun _=>by kernel_rfl⟩
theorem xZ8q (N:Nat):xZ3c.Ok prog N:=xZ8l.give tb_ok hm N N (fun _=>⟨xZ1W N,xZcz N,xZas N,xZes N,xZ27 N,trivial⟩) fun a r s h=>by
 have l0:=s.loop 0 xZ1N (xZ42 N) N fun next0 h0=>by
  exact fun c v=>s.seg 0 xZ1N [(0,.of xZ1N next0)] ⟨h0,trivial⟩ (by kernel_rfl) (by kernel_rfl)
 exact s.main [(0,.of xZ1N (xZ6p N))] ⟨l0,trivial⟩ (.trans (by kernel_rfl) h)
noncomputable def xZ7M:Fn xZ31:=⟨f126,[],⟨[],[],sbf,bof⟩,fun _=>[xZ8L],[true,true],none,1,1,fun _ _=>true,none,[],[]⟩
theorem xZ7S:xZ7M.Ok prog:=⟨Is.of (by kernel_rfl) (by kernel_rfl),by kernel_rfl,xZe sb_ok bo_ok,trivial,trivial,fun _=>by kernel_rfl⟩
theorem xZ7H (N:Nat):xZ31.Ok prog N:=xZ7S.give tb_ok hm N N (fun _=>⟨xZcz N,trivial⟩) fun a r s h=>by
 exact s.main [] trivial (.trans (by kernel_rfl) h)
noncomputable def xZeb:Fn xZ8H:=⟨f127,[],⟨[],[],sbf,bof⟩,fun _=>[],[true],none,0,0,fun _ _=>true,none,[],[]⟩
theorem xZeh:xZeb.Ok prog:=⟨Is.of (by kernel_rfl) (by kernel_rfl),by kernel_rfl,xZe sb_ok bo_ok,trivial,trivial,fun _=>by kernel_rfl⟩
theorem xZei (N:Nat):xZ8H.Ok prog N:=xZeh.give tb_ok hm N N (fun _=>trivial) fun a r s h=>by
 exact s.main [] trivial (.trans (by kernel_rfl) h)
noncomputable def xZ82:Fn xZ3f:=⟨f93,[],⟨[(52,2),(61,2),(86,2)],[],sbf,bof⟩,fun _=>[xZ63,xZ31,xZ11,xZ8H,xZ16],[false],none,1,1,fun _ _=>true,none,[],[]⟩
theorem xZ8i:xZ82.Ok prog:=⟨Is.of (by kernel_rfl) (by kernel_rfl),by kernel_rfl,xZe sb_ok bo_ok,trivial,trivial,fun _=>by kernel_rfl⟩
theorem xZ8t (N:Nat):xZ3f.Ok prog N:=xZ8i.give tb_ok hm N N (fun _=>⟨xZ80 N,xZ7H N,xZ1W N,xZei N,xZ27 N,trivial⟩) fun a r s h=>by
 have l0:=s.loop 0 xZ1R (xZ47 N) N fun next0 h0=>by
  exact fun c v=>s.seg 0 xZ1R [(0,.of xZ1R next0)] ⟨h0,trivial⟩ (by kernel_rfl) (by kernel_rfl)
 exact s.main [(0,.of xZ1R (xZ6V N))] ⟨l0,trivial⟩ (.trans (by kernel_rfl) h)
noncomputable def xZ9o:Fn xZ3z:=⟨f94,[],⟨[],[],sbf,bof⟩,fun _=>[xZ2R,xZ16],[false],none,1,1,fun _ _=>true,none,[],[]⟩
theorem xZ9d:xZ9o.Ok prog:=⟨Is.of (by kernel_rfl) (by kernel_rfl),by kernel_rfl,xZe sb_ok bo_ok,trivial,trivial,fun _=>by kernel_rfl⟩
theorem xZ9m (N:Nat):xZ3z.Ok prog N:=xZ9d.give tb_ok hm N N (fun _=>⟨xZ4O N,xZ27 N,trivial⟩) fun a r s h=>by
 exact s.main [] trivial (.trans (by kernel_rfl) h)
noncomputable def xZ94:Fn xZ3l:=⟨f51,[],⟨[],[],sbf,bof⟩,fun _=>[xZ9V,xZ11,xZ3y,xZ89,xZ3d,xZ3c,xZ3f,xZ3z,xZ2R],[false],none,1,1,fun _ _=>true,none,[],[]⟩
theorem xZ8F:xZ94.Ok prog:=⟨Is.of (by kernel_rfl) (by kernel_rfl),by kernel_rfl,xZe sb_ok bo_ok,trivial,trivial,fun _=>by kernel_rfl⟩
theorem xZ8Z (N:Nat):xZ3l.Ok prog N:=xZ8F.give tb_ok hm N N (fun _=>⟨xZdt N,xZ1W N,xZ9b N,xZbk N,xZ8a N,xZ8q N,xZ8t N,xZ9m N,xZ4O N,trivial⟩) fun a r s h=>by
 exact s.main [] trivial (.trans (by kernel_rfl) h)
noncomputable def xZhQ:Fn xZcK:=⟨f21,[],⟨[],[],sbf,bof⟩,fun _=>[xZ63,xZ3l],[true,false],none,0,0,fun _ _=>true,none,[],[]⟩
theorem xZhH:xZhQ.Ok prog:=⟨Is.of (by kernel_rfl) (by kernel_rfl),by kernel_rfl,xZe sb_ok bo_ok,trivial,trivial,fun _=>by kernel_rfl⟩
theorem xZiB (N:Nat):xZcK.Ok prog N:=xZhH.give tb_ok hm N N (fun _=>⟨xZ80 N,xZ8Z N,trivial⟩) fun a r s h=>by
 have l0:=s.loop 0 xZ8Q (xZcE N) N fun next0 h0=>by
  exact fun c v=>s.seg 0 xZ8Q [(0,.of xZ8Q next0)] ⟨h0,trivial⟩ (by kernel_rfl) (by kernel_rfl)
 exact s.main [(0,.of xZ8Q (xZgp N))] ⟨l0,trivial⟩ (.trans (by kernel_rfl) h)
noncomputable def xZ7A:Fn xZK:=⟨f97,[],⟨[],[],sbf,bof⟩,fun _=>[],[true],none,1,0,fun _ _=>true,none,[],[]⟩
theorem xZ7q:xZ7A.Ok prog:=⟨Is.of (by kernel_rfl) (by kernel_rfl),by kernel_rfl,xZe sb_ok bo_ok,trivial,trivial,fun _=>by kernel_rfl⟩
theorem xZ1h (N:Nat):xZK.Ok prog N:=xZ7q.give tb_ok hm N N (fun _=>trivial) fun a r s h=>by
 exact s.main [] trivial (.trans (by kernel_rfl) h)
noncomputable def xZ8b:Fn xZm:=⟨f56,[],⟨[],[],sbf,bof⟩,fun _=>[xZK],[true],none,1,0,fun _ _=>true,none,[],[]⟩
theorem xZ8j:xZ8b.Ok prog:=⟨Is.of (by kernel_rfl) (by kernel_rfl),by kernel_rfl,xZe sb_ok bo_ok,trivial,trivial,fun _=>by kernel_rfl⟩
theorem xZr (N:Nat):xZm.Ok prog N:=xZ8j.give tb_ok hm N N (fun _=>⟨xZ1h N,trivial⟩) fun a r s h=>by
 exact s.main [] trivial (.trans (by kernel_rfl) h)
noncomputable def xZcn:Fn xZ4I:=⟨f98,[],⟨[],[],sbf,bof⟩,fun _=>[],[],none,0,0,fun _ _=>true,none,[],[]⟩
theorem xZcI:xZcn.Ok prog:=⟨Is.of (by kernel_rfl) (by kernel_rfl),by kernel_rfl,xZe sb_ok bo_ok,trivial,trivial,fun _=>by kernel_rfl⟩
theorem xZ9w (N:Nat):xZ4I.Ok prog N:=xZcI.give tb_ok hm N N (fun _=>trivial) fun a r s h=>by
 exact s.main [] trivial (.trans (by kernel_rfl) h)
noncomputable def xZcF:Fn xZ4T:=⟨f98,[],⟨[],[],sbf,bof⟩,fun _=>[],[],none,0,0,fun _ _=>true,none,[],[]⟩
theorem xZcC:xZcF.Ok prog:=⟨Is.of (by kernel_rfl) (by kernel_rfl),by kernel_rfl,xZe sb_ok bo_ok,trivial,trivial,fun _=>by kernel_rfl⟩
theorem xZ9N (N:Nat):xZ4T.Ok prog N:=xZcC.give tb_ok hm N N (fun _=>trivial) fun a r s h=>by
 exact s.main [] trivial (.trans (by kernel_rfl) h)
noncomputable def xZ7f:Fn xZx:=⟨f59,[],⟨[],[],sbf,bof⟩,fun _=>[xZ63,xZ4I,xZ4T],[],none,1,0,fun _ _=>true,none,[],[]⟩
theorem xZ7s:xZ7f.Ok prog:=⟨Is.of (by kernel_rfl) (by kernel_rfl),by kernel_rfl,xZe sb_ok bo_ok,trivial,trivial,fun _=>by kernel_rfl⟩
theorem xZY (N:Nat):xZx.Ok prog N:=xZ7s.give tb_ok hm N N (fun _=>⟨xZ80 N,xZ9w N,xZ9N N,trivial⟩) fun a r s h=>by
 exact s.main [] trivial (.trans (by kernel_rfl) h)
noncomputable def xZ7i:Fn xZ26:=⟨f57,[],⟨[],[],sbf,bof⟩,fun _=>[xZx],[true],none,1,0,fun _ _=>true,none,[],[]⟩
theorem xZ7E:xZ7i.Ok prog:=⟨Is.of (by kernel_rfl) (by kernel_rfl),by kernel_rfl,xZe sb_ok bo_ok,trivial,trivial,fun _=>by kernel_rfl⟩
theorem xZ4d (N:Nat):xZ26.Ok prog N:=xZ7E.give tb_ok hm N N (fun _=>⟨xZY N,trivial⟩) fun a r s h=>by
 exact s.main [] trivial (.trans (by kernel_rfl) h)
noncomputable def xZ7R:Fn xZ10:=⟨f54,[],⟨[],[],sbf,bof⟩,fun _=>[xZm,xZx],[],none,1,0,fun _ _=>true,none,[],[]⟩
theorem xZ7j:xZ7R.Ok prog:=⟨Is.of (by kernel_rfl) (by kernel_rfl),by kernel_rfl,xZe sb_ok bo_ok,trivial,trivial,fun _=>by kernel_rfl⟩
theorem xZ23 (N:Nat):xZ10.Ok prog N:=xZ7j.give tb_ok hm N N (fun _=>⟨xZr N,xZY N,trivial⟩) fun a r s h=>by
 exact s.main [] trivial (.trans (by kernel_rfl) h)
noncomputable def xZ6N:Fn xZF:=⟨f188,[],⟨[],[],sbf,bof⟩,fun _=>[],[true],none,1,0,fun _ _=>true,none,[],[]⟩
theorem xZ6R:xZ6N.Ok prog:=⟨Is.of (by kernel_rfl) (by kernel_rfl),by kernel_rfl,xZe sb_ok bo_ok,trivial,trivial,fun _=>by kernel_rfl⟩
theorem xZ1c (N:Nat):xZF.Ok prog N:=xZ6R.give tb_ok hm N N (fun _=>trivial) fun a r s h=>by
 exact s.main [] trivial (.trans (by kernel_rfl) h)
noncomputable def xZ6h:Fn xZ2u:=⟨f175,[],⟨[],[],sbf,bof⟩,fun _=>[],[true],none,1,0,fun _ _=>true,none,[],[]⟩
theorem xZ6a:xZ6h.Ok prog:=⟨Is.of (by kernel_rfl) (by kernel_rfl),by kernel_rfl,xZe sb_ok bo_ok,trivial,trivial,fun _=>by kernel_rfl⟩
theorem xZ3E (N:Nat):xZ2u.Ok prog N:=xZ6a.give tb_ok hm N N (fun _=>trivial) fun a r s h=>by
 exact s.main [] trivial (.trans (by kernel_rfl) h)
noncomputable def xZ6M:Fn xZV:=⟨f195,[],⟨[],[],sbf,bof⟩,fun _=>[xZ2u],[],none,1,0,fun _ _=>true,none,[],[]⟩
theorem xZ6D:xZ6M.Ok prog:=⟨Is.of (by kernel_rfl) (by kernel_rfl),by kernel_rfl,xZe sb_ok bo_ok,trivial,trivial,fun _=>by kernel_rfl⟩
theorem xZ1L (N:Nat):xZV.Ok prog N:=xZ6D.give tb_ok hm N N (fun _=>⟨xZ3E N,trivial⟩) fun a r s h=>by
 exact s.main [] trivial (.trans (by kernel_rfl) h)
end
end
section
open Go.Proofs.Tryz
set_option maxRecDepth 1000000
noncomputable section
noncomputable def xZ5P:Fn xZ2j:=⟨f194,[],⟨[],[],sbf,bof⟩,fun _=>[xZF,xZV],[],none,1,0,fun _ _=>true,none,[],[]⟩
theorem xZ5L:xZ5P.Ok prog:=⟨Is.of (by kernel_rfl) (by kernel_rfl),by kernel_rfl,xZe sb_ok bo_ok,trivial,trivial,fun _=>by kernel_rfl⟩
theorem xZ5W (N:Nat):xZ2j.Ok prog N:=xZ5L.give tb_ok hm N N (fun _=>⟨xZ1c N,xZ1L N,trivial⟩) fun a r s h=>by
 exact s.main [] trivial (.trans (by kernel_rfl) h)
noncomputable def xZ7T:Fn xZM:=⟨f184,[],⟨[],[],sbf,bof⟩,fun _=>[xZF],[true],none,1,0,fun _ _=>true,none,[],[]⟩
theorem xZ7B:xZ7T.Ok prog:=⟨Is.of (by kernel_rfl) (by kernel_rfl),by kernel_rfl,xZe sb_ok bo_ok,trivial,trivial,fun _=>by kernel_rfl⟩
theorem xZ1i (N:Nat):xZM.Ok prog N:=xZ7B.give tb_ok hm N N (fun _=>⟨xZ1c N,trivial⟩) fun a r s h=>by
 exact s.main [] trivial (.trans (by kernel_rfl) h)
noncomputable def xZ8n:Fn xZ39:=⟨f189,[],⟨[],[],sbf,bof⟩,fun _=>[xZ44],[true],none,0,0,fun _ _=>true,none,[],[]⟩
theorem xZ8e:xZ8n.Ok prog:=⟨Is.of (by kernel_rfl) (by kernel_rfl),by kernel_rfl,xZe sb_ok bo_ok,trivial,trivial,fun _=>by kernel_rfl⟩
theorem xZ8g (N:Nat):xZ39.Ok prog N:=xZ8e.give tb_ok hm N N (fun _=>⟨xZ6K N,trivial⟩) fun a r s h=>by
 have l2:=s.loop 2 xZ1J (xZ40 N) N fun next2 h2=>by
  exact fun c v=>s.seg 2 xZ1J [(2,.of xZ1J next2)] ⟨h2,trivial⟩ (by kernel_rfl) (by kernel_rfl)
 have l0:=s.loop 0 xZ1K (xZ41 N) N fun next0 h0=>by
  exact fun c v=>s.seg 0 xZ1K [(0,.of xZ1K next0),(2,.of xZ1J (xZ6I N))] ⟨h0,l2,trivial⟩ (by kernel_rfl) (by kernel_rfl)
 exact s.main [(0,.of xZ1K (xZ6T N))] ⟨l0,trivial⟩ (.trans (by kernel_rfl) h)
noncomputable def xZcj:Fn xZ3g:=⟨f185,[],⟨[(6,3)],[],sbf,bof⟩,fun _=>[xZ39],[true],none,0,0,fun _ _=>true,none,[],[]⟩
theorem xZcy:xZcj.Ok prog:=⟨Is.of (by kernel_rfl) (by kernel_rfl),by kernel_rfl,xZe sb_ok bo_ok,trivial,trivial,fun _=>by kernel_rfl⟩
theorem xZ4M (N:Nat):xZ3g.Ok prog N:=xZcy.give tb_ok hm N N (fun _=>⟨xZ8g N,trivial⟩) fun a r s h=>by
 exact s.main [] trivial (.trans (by kernel_rfl) h)
noncomputable def xZ6U:Fn xZ1P:=⟨f198,[],⟨[],[],sbf,bof⟩,fun _=>[xZF,xZV],[true],none,1,0,fun _ _=>true,none,[],[]⟩
theorem xZ6H:xZ6U.Ok prog:=⟨Is.of (by kernel_rfl) (by kernel_rfl),by kernel_rfl,xZe sb_ok bo_ok,trivial,trivial,fun _=>by kernel_rfl⟩
theorem xZ45 (N:Nat):xZ1P.Ok prog N:=xZ6H.give tb_ok hm N N (fun _=>⟨xZ1c N,xZ1L N,trivial⟩) fun a r s h=>by
 exact s.main [] trivial (.trans (by kernel_rfl) h)
noncomputable def xZ6w:Fn xZ2J:=⟨f202,[],⟨[(24,3),(40,3),(51,3),(54,3)],[],sbf,bof⟩,fun _=>[xZM,xZF,xZV,xZ1P],[true],none,1,0,fun _ _=>true,none,[],[]⟩
theorem xZ6O:xZ6w.Ok prog:=⟨Is.of (by kernel_rfl) (by kernel_rfl),by kernel_rfl,xZe sb_ok bo_ok,trivial,trivial,fun _=>by kernel_rfl⟩
theorem xZ6q (N:Nat):xZ2J.Ok prog N:=xZ6O.give tb_ok hm N N (fun _=>⟨xZ1i N,xZ1c N,xZ1L N,xZ45 N,trivial⟩) fun a r s h=>by
 exact s.main [] trivial (.trans (by kernel_rfl) h)
noncomputable def xZ7z:Fn xZ34:=⟨f196,[],⟨[(14,4),(23,4)],[],sbf,bof⟩,fun _=>[xZ2J,xZM,xZ3g],[true],none,1,0,fun _ _=>true,none,[],[]⟩
theorem xZ7g:xZ7z.Ok prog:=⟨Is.of (by kernel_rfl) (by kernel_rfl),by kernel_rfl,xZe sb_ok bo_ok,trivial,trivial,fun _=>by kernel_rfl⟩
theorem xZ7L (N:Nat):xZ34.Ok prog N:=xZ7g.give tb_ok hm N N (fun _=>⟨xZ6q N,xZ1i N,xZ4M N,trivial⟩) fun a r s h=>by
 have l0:=s.loop 0 xZ1E (xZ3I N) N fun next0 h0=>by
  exact fun c v=>s.seg 0 xZ1E [(0,.of xZ1E next0)] ⟨h0,trivial⟩ (by kernel_rfl) (by kernel_rfl)
 exact s.main [(0,.of xZ1E (xZ6g N))] ⟨l0,trivial⟩ (.trans (by kernel_rfl) h)
noncomputable def xZdz:Fn xZ4X:=⟨f143,[],⟨[],[],sbf,bof⟩,fun _=>[],[true],none,0,0,fun _ _=>true,none,[],[]⟩
theorem xZdS:xZdz.Ok prog:=⟨Is.of (by kernel_rfl) (by kernel_rfl),by kernel_rfl,xZe sb_ok bo_ok,trivial,trivial,fun _=>by kernel_rfl⟩
theorem xZ8T (N:Nat):xZ4X.Ok prog N:=xZdS.give tb_ok hm N N (fun _=>trivial) fun a r s h=>by
 exact s.main [] trivial (.trans (by kernel_rfl) h)
noncomputable def xZfx:Fn xZa7:=⟨f197,[],⟨[],[],sbf,bof⟩,fun _=>[xZ4X],[true],none,0,0,fun _ _=>true,none,[],[]⟩
theorem xZfw:xZfx.Ok prog:=⟨Is.of (by kernel_rfl) (by kernel_rfl),by kernel_rfl,xZe sb_ok bo_ok,trivial,trivial,fun _=>by kernel_rfl⟩
theorem xZfO (N:Nat):xZa7.Ok prog N:=xZfw.give tb_ok hm N N (fun _=>⟨xZ8T N,trivial⟩) fun a r s h=>by
 have l0:=s.loop 0 xZ5Y (xZaL N) N fun next0 h0=>by
  exact fun c v=>s.seg 0 xZ5Y [(0,.of xZ5Y next0)] ⟨h0,trivial⟩ (by kernel_rfl) (by kernel_rfl)
 exact s.main [(0,.of xZ5Y (xZdW N))] ⟨l0,trivial⟩ (.trans (by kernel_rfl) h)
noncomputable def xZ8f:Fn xZ2c:=⟨f177,[],⟨[(16,4)],[],sbf,bof⟩,fun _=>[xZ2X,xZM,xZ3g],[true],none,1,0,fun _ _=>true,none,[],[]⟩
theorem xZ4E:xZ8f.Ok prog:=⟨Is.of (by kernel_rfl) (by kernel_rfl),by kernel_rfl,xZe sb_ok bo_ok,trivial,trivial,fun _=>by kernel_rfl⟩
noncomputable def xZ7V:Fn xZ2X:=⟨f183,[],⟨[(16,4)],[],sbf,bof⟩,fun _=>[xZ1S,xZM,xZ3g],[true],none,1,0,fun _ _=>true,none,[],[]⟩
theorem xZ4f:xZ7V.Ok prog:=⟨Is.of (by kernel_rfl) (by kernel_rfl),by kernel_rfl,xZe sb_ok bo_ok,trivial,trivial,fun _=>by kernel_rfl⟩
noncomputable def xZ6B:Fn xZ1S:=⟨f187,[],⟨[(18,4),(49,4)],[],sbf,bof⟩,fun _=>[xZ2j,xZM,xZ1S,xZ3g,xZ2c,xZV,xZ34,xZF,xZa7,xZ1P],[true],none,1,0,fun _ _=>true,none,[],[]⟩
theorem xZ3X:xZ6B.Ok prog:=⟨Is.of (by kernel_rfl) (by kernel_rfl),by kernel_rfl,xZe sb_ok bo_ok,trivial,trivial,fun _=>by kernel_rfl⟩
theorem xZ4a:∀ N,xZ2c.Ok prog N∧xZ2X.Ok prog N∧xZ1S.Ok prog N
 | 0=>⟨⟨xZ4E.is.enters,fun a r h=>by (have h:none=some r:=h;cases h)⟩,⟨xZ4f.is.enters,fun a r h=>by (have h:none=some r:=h;cases h)⟩,⟨xZ3X.is.enters,fun a r h=>by (have h:none=some r:=h;cases h)⟩⟩
 | N+1=>by
   obtain ⟨h_predtext_parser_or_v927,h_predtext_parser_and_v927,h_predtext_parser_part_v927⟩:=xZ4a N
   refine ⟨?_,?_,?_⟩
   ·exact xZ4E.give tb_ok hm N (N+1) (fun _=>⟨h_predtext_parser_and_v927,xZ1i N,xZ4M N,trivial⟩) fun a r s h=>by
     have l0:=s.loop 0 xZ1V (xZ3W N) N fun next0 h0=>by
      exact fun c v=>s.seg 0 xZ1V [(0,.of xZ1V next0)] ⟨h0,trivial⟩ (by kernel_rfl) (by kernel_rfl)
     exact s.main [(0,.of xZ1V (xZ6G N))] ⟨l0,trivial⟩ (.trans (by kernel_rfl) h)
   ·exact xZ4f.give tb_ok hm N (N+1) (fun _=>⟨h_predtext_parser_part_v927,xZ1i N,xZ4M N,trivial⟩) fun a r s h=>by
     have l0:=s.loop 0 xZ1A (xZ3H N) N fun next0 h0=>by
      exact fun c v=>s.seg 0 xZ1A [(0,.of xZ1A next0)] ⟨h0,trivial⟩ (by kernel_rfl) (by kernel_rfl)
     exact s.main [(0,.of xZ1A (xZ65 N))] ⟨l0,trivial⟩ (.trans (by kernel_rfl) h)
   ·exact xZ3X.give tb_ok hm N (N+1) (fun _=>⟨xZ5W N,xZ1i N,h_predtext_parser_part_v927,xZ4M N,h_predtext_parser_or_v927,xZ1L N,xZ7L N,xZ1c N,xZfO N,xZ45 N,trivial⟩) fun a r s h=>by
     exact s.main [] trivial (.trans (by kernel_rfl) h)
theorem xZ8s (N:Nat):xZ2c.Ok prog N:=(xZ4a N).1
noncomputable def xZb7:Fn xZ56:=⟨f155,[],⟨[],[],sbf,bof⟩,fun _=>[],[true],none,0,0,fun _ _=>true,none,[],[]⟩
theorem xZbp:xZb7.Ok prog:=⟨Is.of (by kernel_rfl) (by kernel_rfl),by kernel_rfl,xZe sb_ok bo_ok,trivial,trivial,fun _=>by kernel_rfl⟩
theorem xZb8 (N:Nat):xZ56.Ok prog N:=xZbp.give tb_ok hm N N (fun _=>trivial) fun a r s h=>by
 exact s.main [] trivial (.trans (by kernel_rfl) h)
end
end
section
open Go.Proofs.Tryz
set_option maxRecDepth 1000000
noncomputable section
noncomputable def xZd9:Fn xZ5d:=⟨f82,[],⟨[],[],sbf,bof⟩,fun _=>[],[true],none,0,0,fun _ _=>true,none,[],[]⟩
theorem xZd5:xZd9.Ok prog:=⟨Is.of (by kernel_rfl) (by kernel_rfl),by kernel_rfl,xZe sb_ok bo_ok,trivial,trivial,fun _=>by kernel_rfl⟩
theorem xZa5 (N:Nat):xZ5d.Ok prog N:=xZd5.give tb_ok hm N N (fun _=>trivial) fun a r s h=>by
 exact s.main [] trivial (.trans (by kernel_rfl) h)
noncomputable def xZeX:Fn xZ9y:=⟨f84,[],⟨[],[],sbf,bof⟩,fun _=>[xZ5d],[true],none,0,0,fun _ _=>true,none,[],[]⟩
theorem xZew:xZeX.Ok prog:=⟨Is.of (by kernel_rfl) (by kernel_rfl),by kernel_rfl,xZe sb_ok bo_ok,trivial,trivial,fun _=>by kernel_rfl⟩
theorem xZeA (N:Nat):xZ9y.Ok prog N:=xZew.give tb_ok hm N N (fun _=>⟨xZa5 N,trivial⟩) fun a r s h=>by
 exact s.main [] trivial (.trans (by kernel_rfl) h)
noncomputable def xZeD:Fn xZ5x:=⟨f48,[],⟨[],[],sbf,bof⟩,fun _=>[xZ5d,xZ4p,xZ9y],[true],none,0,0,fun _ _=>true,none,[],[]⟩
theorem xZeE:xZeD.Ok prog:=⟨Is.of (by kernel_rfl) (by kernel_rfl),by kernel_rfl,xZe sb_ok bo_ok,trivial,trivial,fun _=>by kernel_rfl⟩
theorem xZ9C (N:Nat):xZ5x.Ok prog N:=xZeE.give tb_ok hm N N (fun _=>⟨xZa5 N,xZ97 N,xZeA N,trivial⟩) fun a r s h=>by
 have l0:=s.loop 0 xZ5i (xZa1 N) N fun next0 h0=>by
  exact fun c v=>s.seg 0 xZ5i [(0,.of xZ5i next0)] ⟨h0,trivial⟩ (by kernel_rfl) (by kernel_rfl)
 exact s.main [(0,.of xZ5i (xZd1 N))] ⟨l0,trivial⟩ (.trans (by kernel_rfl) h)
noncomputable def xZfY:Fn xZag:=⟨f144,[],⟨[],[],sbf,bof⟩,fun _=>[],[false],none,0,0,fun _ _=>true,none,[],[]⟩
theorem xZfF:xZfY.Ok prog:=⟨Is.of (by kernel_rfl) (by kernel_rfl),by kernel_rfl,xZe sb_ok bo_ok,trivial,trivial,fun _=>by kernel_rfl⟩
theorem xZfQ (N:Nat):xZag.Ok prog N:=xZfF.give tb_ok hm N N (fun _=>trivial) fun a r s h=>by
 exact s.main [] trivial (.trans (by kernel_rfl) h)
noncomputable def xZah:Fn xZ4t:=⟨f237,[],⟨[],[],sbf,bof⟩,fun _=>[],[true],none,0,0,fun _ _=>true,none,[],[]⟩
theorem xZae:xZah.Ok prog:=⟨Is.of (by kernel_rfl) (by kernel_rfl),by kernel_rfl,xZe sb_ok bo_ok,trivial,trivial,fun _=>by kernel_rfl⟩
theorem xZaq (N:Nat):xZ4t.Ok prog N:=xZae.give tb_ok hm N N (fun _=>trivial) fun a r s h=>by
 exact s.main [] trivial (.trans (by kernel_rfl) h)
noncomputable def xZby:Fn xZ53:=⟨f238,[],⟨[],[],sbf,bof⟩,fun _=>[],[true],none,0,0,fun _ _=>true,none,[],[]⟩
theorem xZbf:xZby.Ok prog:=⟨Is.of (by kernel_rfl) (by kernel_rfl),by kernel_rfl,xZe sb_ok bo_ok,trivial,trivial,fun _=>by kernel_rfl⟩
theorem xZbr (N:Nat):xZ53.Ok prog N:=xZbf.give tb_ok hm N N (fun _=>trivial) fun a r s h=>by
 exact s.main [] trivial (.trans (by kernel_rfl) h)
noncomputable def xZar:Fn xZ4u:=⟨f239,[],⟨[],[],sbf,bof⟩,fun _=>[],[true],none,0,0,fun _ _=>true,none,[],[]⟩
theorem xZac:xZar.Ok prog:=⟨Is.of (by kernel_rfl) (by kernel_rfl),by kernel_rfl,xZe sb_ok bo_ok,trivial,trivial,fun _=>by kernel_rfl⟩
theorem xZaw (N:Nat):xZ4u.Ok prog N:=xZac.give tb_ok hm N N (fun _=>trivial) fun a r s h=>by
 exact s.main [] trivial (.trans (by kernel_rfl) h)
noncomputable def xZaM:Fn xZ4K:=⟨f240,[],⟨[],[],sbf,bof⟩,fun _=>[],[true],none,0,0,fun _ _=>true,none,[],[]⟩
theorem xZb4:xZaM.Ok prog:=⟨Is.of (by kernel_rfl) (by kernel_rfl),by kernel_rfl,xZe sb_ok bo_ok,trivial,trivial,fun _=>by kernel_rfl⟩
theorem xZaK (N:Nat):xZ4K.Ok prog N:=xZb4.give tb_ok hm N N (fun _=>trivial) fun a r s h=>by
 exact s.main [] trivial (.trans (by kernel_rfl) h)
noncomputable def xZeH:Fn xZ7d:=⟨f112,[],⟨[],[],sbf,bof⟩,fun _=>[xZag,xZ4t,xZ53,xZ6d,xZ4u,xZ4K],[true],none,0,0,fun _ _=>true,none,[],[]⟩
theorem xZeS:xZeH.Ok prog:=⟨Is.of (by kernel_rfl) (by kernel_rfl),by kernel_rfl,xZe sb_ok bo_ok,trivial,trivial,fun _=>by kernel_rfl⟩
theorem xZbM (N:Nat):xZ7d.Ok prog N:=xZeS.give tb_ok hm N N (fun _=>⟨xZfQ N,xZaq N,xZbr N,xZas N,xZaw N,xZaK N,trivial⟩) fun a r s h=>by
 exact s.main [] trivial (.trans (by kernel_rfl) h)
noncomputable def xZbW:Fn xZ5D:=⟨f157,[],⟨[],[],sbf,bof⟩,fun _=>[xZ4X,xZ5x,xZ7d],[true],none,0,0,fun _ _=>true,none,[],[]⟩
theorem xZc3:xZbW.Ok prog:=⟨Is.of (by kernel_rfl) (by kernel_rfl),by kernel_rfl,xZe sb_ok bo_ok,trivial,trivial,fun _=>by kernel_rfl⟩
theorem xZbO (N:Nat):xZ5D.Ok prog N:=xZc3.give tb_ok hm N N (fun _=>⟨xZ8T N,xZ9C N,xZbM N,trivial⟩) fun a r s h=>by
 exact s.main [] trivial (.trans (by kernel_rfl) h)
noncomputable def xZe4:Fn xZ8V:=⟨f156,[],⟨[],[],sbf,bof⟩,fun _=>[xZ5D],[true],none,0,0,fun _ _=>true,none,[],[]⟩
theorem xZdI:xZe4.Ok prog:=⟨Is.of (by kernel_rfl) (by kernel_rfl),by kernel_rfl,xZe sb_ok bo_ok,trivial,trivial,fun _=>by kernel_rfl⟩
theorem xZdU (N:Nat):xZ8V.Ok prog N:=xZdI.give tb_ok hm N N (fun _=>⟨xZbO N,trivial⟩) fun a r s h=>by
 exact s.main [] trivial (.trans (by kernel_rfl) h)
noncomputable def xZel:Fn xZ8x:=⟨f156,[],⟨[],[],sbf,bof⟩,fun _=>[xZ9t],[true],none,0,0,fun _ _=>true,none,[],[]⟩
theorem xZer:xZel.Ok prog:=⟨Is.of (by kernel_rfl) (by kernel_rfl),by kernel_rfl,xZe sb_ok bo_ok,trivial,trivial,fun _=>by kernel_rfl⟩
theorem xZdZ (N:Nat):xZ8x.Ok prog N:=xZer.give tb_ok hm N N (fun _=>⟨xZcW N,trivial⟩) fun a r s h=>by
 exact s.main [] trivial (.trans (by kernel_rfl) h)
noncomputable def xZhu:Fn xZbz:=⟨f159,[],⟨[],[],sbf,bof⟩,fun _=>[],[true],none,0,0,fun _ _=>true,none,[],[]⟩
theorem xZhq:xZhu.Ok prog:=⟨Is.of (by kernel_rfl) (by kernel_rfl),by kernel_rfl,xZe sb_ok bo_ok,trivial,trivial,fun _=>by kernel_rfl⟩
theorem xZhf (N:Nat):xZbz.Ok prog N:=xZhq.give tb_ok hm N N (fun _=>trivial) fun a r s h=>by
 exact s.main [] trivial (.trans (by kernel_rfl) h)
noncomputable def xZdb:Fn xZ7m:=⟨f160,[],⟨[],[],sbf,bof⟩,fun _=>[],[true],none,0,0,fun _ _=>true,none,[],[]⟩
theorem xZdd:xZdb.Ok prog:=⟨Is.of (by kernel_rfl) (by kernel_rfl),by kernel_rfl,xZe sb_ok bo_ok,trivial,trivial,fun _=>by kernel_rfl⟩
theorem xZdg (N:Nat):xZ7m.Ok prog N:=xZdd.give tb_ok hm N N (fun _=>trivial) fun a r s h=>by
 exact s.main [] trivial (.trans (by kernel_rfl) h)
noncomputable def xZ90:Fn xZ1C:=⟨f140,[],⟨[],[],sbf,bof⟩,fun _=>[xZ56,xZ8V,xZ8x,xZbz,xZ7m,xZ1C],[true],none,1,0,fun _ _=>true,none,[],[]⟩
theorem xZ4P:xZ90.Ok prog:=⟨Is.of (by kernel_rfl) (by kernel_rfl),by kernel_rfl,xZe sb_ok bo_ok,trivial,trivial,fun _=>by kernel_rfl⟩
theorem xZ4D:∀ N,xZ1C.Ok prog N
 | 0=>⟨xZ4P.is.enters,fun a r h=>by (have h:none=some r:=h;cases h)⟩
 | N+1=>by
   obtain h_pred_checker_tree_v739:=xZ4D N
   ·exact xZ4P.give tb_ok hm N (N+1) (fun _=>⟨xZb8 N,xZdU N,xZdZ N,xZhf N,xZdg N,h_pred_checker_tree_v739,trivial⟩) fun a r s h=>by
     have l0:=s.loop 0 xZ20 (xZ4i N) N fun next0 h0=>by
      exact fun c v=>s.seg 0 xZ20 [(0,.of xZ20 next0)] ⟨h0,trivial⟩ (by kernel_rfl) (by kernel_rfl)
     exact s.main [(0,.of xZ20 (xZ7t N))] ⟨l0,trivial⟩ (.trans (by kernel_rfl) h)
theorem xZ8P (N:Nat):xZ1C.Ok prog N:=(xZ4D N)
noncomputable def xZg8:Fn xZ8M:=⟨f110,[],⟨[],[],sbf,bof⟩,fun _=>[xZ1C],[true],none,0,0,fun _ _=>true,none,[],[]⟩
theorem xZg5:xZg8.Ok prog:=⟨Is.of (by kernel_rfl) (by kernel_rfl),by kernel_rfl,xZe sb_ok bo_ok,trivial,trivial,fun _=>by kernel_rfl⟩
theorem xZab (N:Nat):xZ8M.Ok prog N:=xZg5.give tb_ok hm N N (fun _=>⟨xZ8P N,trivial⟩) fun a r s h=>by
 exact s.main [] trivial (.trans (by kernel_rfl) h)
end
end
end Go.Proofs.YtahklhniofiofaaGreatDoor.E
