/- What the operations leave that make rows, write, or append. No premise beyond what each theorem says. -/
import Derived.Test.YtmfkphajohcklaaGreatUA1
import Derived.Lib.Bytealg
import Derived.Laws.MakeOwn
import Derived.Laws.BytesArg
import Derived.ProofKit
import Derived.Carry
import Derived.RowKit
import Derived.RowKitTokens
import Derived.ChangeSame
import Derived.ChangeVars
set_option linter.all false
set_option linter.unusedSimpArgs false
set_option linter.unusedVariables false
namespace Go.Proofs.YtmfkphajohcklaaGreat.U
open Go
section
section
variable {P:Program} {oc:Oper} {t:List AV} {H H':AH} {r:AV}
theorem aU.mk' {M S H w M' S' H' w'} (a:aU M S H w M' S' H' w'):aU M S H w M' S' H' w':=a
theorem agH {S:Nat->Prop} {w:World} {g n k:Nat} {c:Array Value} {T:TypeId} {xs:List AV} (hS:¬S g) (hg:w.heap[g]?=some (.cells c T (0,0))) (hn:n=xs.length) (hm:n<=maxLen) (hc:c.size=n*k)
 (q1:∀i,i<xs.length->(xs.getD i .any).cells.length=k) (q2:∀i,i<xs.length->∀j,j<k->((xs.getD i .any).cells.getD j .any).one=true)
 (q3:∀i,i<xs.length->∀j,j<k->aO S w (c.getD (i*k+j) undef) ((xs.getD i .any).cells.getD j .any)):b9 S w (.slice (some ⟨g,0,none⟩) n n) k xs:=by
 subst hn;cases h:xs.length with
 | zero=>exact .inl ⟨⟨_,rfl⟩,List.eq_nil_of_length_eq_zero h⟩
 | succ m=>
   refine .inr ⟨g,m,c,T,by rw[h],hS,hg,⟨by omega,by omega,by rw[hc,h],q1,q2,q3⟩⟩
theorem Ry {k ps} (hok:lM k ((ps.map (od t)).map (cj (bC H ((ps.map (od t)).flatMap owns))))):
 OS P (.cq k ps) t H (.ret (.own H.buf.length)) ⟨H.box,(bC H ((ps.map (od t)).flatMap owns)).buf++[.live k ((ps.map (od t)).map (cj (bC H ((ps.map (od t)).flatMap owns))))]⟩:=by
 intro wr oc hc;obtain⟨ty,n,pp,e,zs,rfl,hop,hu,hk,hz,hidx,hsz,hzl,hk0⟩:=QX hc;refine jJ λM S w a hx hh=>?_;obtain⟨S1,hh1,hf1⟩:=aE.freezes (H:=H) (((pp.toList.map λp=>ak p.2).map (od t)).flatMap owns) (S:=S) (buf:=H.buf) hh;generalize hH1:bC H (((pp.toList.map λp=>ak p.2).map (od t)).flatMap owns)=H1 at hok ⊢;have hh1':aE M S1 H1 w:=by rw[<- hH1];exact hh1
 have hf1':aU M S H w M S1 H1 w:=by rw[<- hH1];exact hf1
 have hev:∀p∈pp.toList,am M S1 w (a.eval p.2) (cj H1 (od t (ak p.2))):=λp hp=>
  Qv hh1' ((hx p.2 (by simp[hop,Op.operands];exact⟨p.1,by simpa using hp⟩)).mono hf1'.sub hf1'.cv hf1'.le)
 obtain⟨c,hr,hn,hcs,q1,q2,q3⟩:=QA hu hk hz hidx hsz hzl (ev:=λx=>cj H1 (od t x)) hev (xs:=((pp.toList.map λp=>ak p.2).map (od t)).map (cj H1)) (by simp) hok;have hg:=Grew.alloc w (.cells c e);have hb:H1.buf.length=H.buf.length:=by
  have h1:=hh1'.nt;have h2:=hh.nt;omega
 have hbox:H1.box=H.box:=by rw[<- hH1];rfl
 have hun:¬S1 w.heap.size:=λh=>by have:=hh1'.sits _ h;omega
 have hnm:n<=maxLen:=by
  have:n*1<=n*k:=Nat.mul_le_mul_left _ hk0;unfold maxLen;omega
 have hlive:b9 S1 (w.alloc (.cells c e)) (.slice (some ⟨w.heap.size,0,none⟩) n n) k (((pp.toList.map λp=>ak p.2).map (od t)).map (cj H1)):=
  agH hun (fP _ _) hn hnm hcs q1 q2 λi hi j hj=>(q3 i hi j hj).mono (λ_ h=>h) λi hi=>hg.old i (hh1'.sits i hi)
 obtain⟨hh2,hf2⟩:=hh1'.ci hg hlive (λg h=>by
  cases hn0:n with
  | zero=>rw[hn0]at h;cases h
  | succ m=>rw[hn0]at h;cases h;exact Nat.le_refl _)
 rw[hbox]at hh2 hf2;refine⟨.slice (some ⟨w.heap.size,0,none⟩) n n,w.alloc (.cells c e),_,S1,?_,hh2,?_,hf1'.trans hf2⟩
 ·simp only[execOp,hop,Sem.run_bind];rw[show(Instr.buildSlice ty n (pp.map λ(x:Nat×Operand)=>(x.1,a.eval x.2))).run P w=_ from hr];rfl
 ·have:=jF (M:=M) (S:=S1) (w':=w.alloc (.cells c e)) (v:=.slice (some ⟨w.heap.size,0,none⟩) n n) (H:=H1) hh1'.nt ⟨_,_,_,rfl⟩
  rwa [hb]at this
theorem Hj (h:∀M S w (a:Act),(∀x∈oc.op.operands,am M S w (a.eval x) (od t (ak x)))->aE M S H w->
 ∃w' M' S',(execOp a.eval oc).run P w=.ok .skip w'/\aE M' S' H' w'/\aU M S H w M' S' H' w'):iY P oc t H (.ret (.v undef)) H':=by
 intro M S w a hx hh hp K Q hK;obtain⟨w',M',S',hr,h1,h2⟩:=h M S w a hx hh;unfold Oper.wp;rw[hr];exact hK M' S' undef w' h1 h2 (.data (.v _))
theorem GY {cur vs:List Value} {o:Nat} (h:o+vs.length<=cur.length) (i:Nat):
 (cur.take o++vs++cur.drop (o+vs.length)).toArray.getD i undef=if o<=i/\i<o+vs.length then vs.getD (i-o) undef else cur.getD i undef:=by
 have e:(cur.take o++vs++cur.drop (o+vs.length)).toArray.getD i undef=(cur.take o++vs++cur.drop (o+vs.length)).getD i undef:=by simp[Array.getD,List.getD];split<;>simp_all
 rw[e];simp only[List.getD,List.append_assoc,List.getElem?_append,List.length_take,List.getElem?_take,List.getElem?_drop];have hm:min o cur.length=o:=by omega
 rw[hm];by_cases c1:i<o
 ·rw[if_pos c1,if_pos c1,if_neg (by omega)]
 ·rw[if_neg c1];by_cases c2:i-o<vs.length
  ·rw[if_pos c2,if_pos (by omega)]
  ·rw[if_neg c2,if_neg (by omega)];have:o+vs.length+(i-o-vs.length)=i:=by omega
   rw[this]
theorem run_store' {ty:TypeId} {n:Nat} (hn:bR P ty=some n) {w:World} {g o:Nat} {cur:Array Value} {T:TypeId} (hg:w.heap[g]?=some (.cells cur T (0,0))) {v:Value} (hv:v.cells.size=n) (h1:∀u∈v.cells.toList,u.oneCell'=true) (hb:o+n<=cur.size):
 (Instr.storeAt ty (.pointer (some ⟨g,o,none⟩)) v).run P w=.ok () (w.setRow g (cur.toList.take o++v.cells.toList++cur.toList.drop (o+v.cells.toList.length)).toArray):=by
 have:=run_storeCells_at P g o T v.cells.toList 0 cur w hg (by simp;omega) h1;simp only[Nat.add_zero]at this;simp[Instr.storeAt,Instr.sureAddr,storeVar,ij hn,hv,this]
theorem Pv {n y z b o} (h:od t y=.ptr b o) (hl:(od t z).cells.length=n) (h1:ones (od t z).cells=true) (hb:o+n<=(H.box.getD b []).length):
 OS P (.st n y z) t H (.ret (.v undef)) ⟨H.box.set b (putCells (H.box.getD b []) o (od t z).cells),H.buf⟩:=by
 intro wr oc hc;obtain⟨ty,x,x',rfl,rfl,hop,hn⟩:=AL hc;refine Hj λM S w a hx hh=>?_;have hr1:=hx x (by simp[hop,Op.operands]);have hr2:=hx x' (by simp[hop,Op.operands]);rw[h]at hr1;obtain⟨hs,hall⟩:=mc hr2 h1;have hone:=Gm hr2 h1;generalize hv:a.eval x=v at hr1;cases hr1 with
 | data h=>cases h
 | ptr _ _ hbb=>
   have hblt:b<H.box.length:=by rw[<- hh.nb];exact hbb
   obtain⟨_,c,T,hg,hcs,hcell⟩:=hh.box b hblt;have hrun:=run_store' hn hg (v:=a.eval x') (by rw[hs];exact hl) hone (o:=o) (by rw[hcs];exact hb);have hlen:(a.eval x').cells.toList.length=n:=by simp;omega
   obtain⟨hh',hf⟩:=hh.WW hblt hg (c':=(c.toList.take o++(a.eval x').cells.toList++c.toList.drop (o+(a.eval x').cells.toList.length)).toArray) (cs':=putCells (H.box.getD b []) o (od t (ak x')).cells)
    (by rw[nQ];simp only[List.size_toArray,List.length_append,List.length_take,List.length_drop,Array.length_toList];rw[Array.length_toList]at hlen;omega) (λi hi=>by
      rw[nQ]at hi;rw[GY (by simp;omega) i,pH _ _ _ _ (by omega)];by_cases hc:o<=i/\i<o+(od t (ak x')).cells.length
      ·rw[if_pos hc,if_pos (by omega)];have e:(a.eval x').cells.toList.getD (i-o) undef=(a.eval x').cells.getD (i-o) undef:=by
        have:i-o<(a.eval x').cells.size:=by omega
        simp[List.getD,Array.getD,this]
       rw[e];exact⟨jI h1 (by omega),hall (i-o) (by omega)⟩
      ·rw[if_neg hc,if_neg (by omega)];have e:c.toList.getD i undef=c.getD i undef:=by
        have:i<c.size:=by omega
        simp[List.getD,Array.getD,this]
       rw[e];exact hcell i hi)
   refine⟨_,M,S,?_,hh',hf⟩;simp only[execOp,hop,hv,Sem.run_bind,hrun,Result.andThen_ok,Sem.run_pure]
theorem afi {e:AV} {o k:Nat} {ys:List AV} (he:e.cells.length=k) (h1:ones e.cells=true\/True) (hy:o+ys.length<=k) (hy1:ones ys=true) (hys:0<ys.length):(iK e o ys).cells=putCells e.cells o ys:=by
 unfold iK;split
 ·rfl
 ·rename_i hne;have hc:e.cells=[e]:=by cases e<;>first|rfl|exact absurd rfl (hne _)
  rw[hc]at he ⊢;simp at he;subst he;obtain⟨y,rfl⟩:∃y,ys=[y]:=by
   cases ys with
   | nil=>simp at hys
   | cons y l=>
     cases l with
     | nil=>exact⟨y,rfl⟩
     | cons z l=>simp at hy;omega
  have ho:o=0:=by simp at hy;omega
  subst ho;have:y.one=true:=by simpa[ones]using hy1
  simp[putCells,OH this]
theorem OT {n y z u k i o xs e} (h:od t y=.bz u k i o) (hb:H.buf.getD u .dead=.live k xs) (hl:(cj H (od t z)).cells.length=n) (h1:ones (cj H (od t z)).cells=true) (hd:(cj H (od t z)).cells.all AV.dat=true)
 (hn0:0<n) (hok:o+n<=k) (he:xs[i]?=some e):OS P (.st n y z) t H (.ret (.v undef)) ⟨H.box,H.buf.set u (.live k (xs.set i (iK e o (cj H (od t z)).cells)))⟩:=by
 intro wr oc hc;obtain⟨ty,x,x',rfl,rfl,hop,hn⟩:=AL hc;refine Hj λM S w a hx hh=>?_;have hr1:=hx x (by simp[hop,Op.operands]);have hr2:=Qv hh (hx x' (by simp[hop,Op.operands]));rw[h]at hr1;generalize cj H (od t (ak x'))=yv at hr2 hl h1 hd ⊢;obtain⟨hs,hall⟩:=mc hr2 h1;have hone:=Gm hr2 h1;have hi:i<xs.length:=(List.getElem?_eq_some_iff.1 he).1;generalize hv:a.eval x=v at hr1;cases hr1 with
 | data h=>cases h
 | bz _ _ _ _ g n' cap ht hbv=>
   have jr:u<H.buf.length:=by rw[<- hh.nt];exact ht
   have hbf:=hh.buf u jr;rw[hb]at hbf;obtain⟨g',cap',c,T,hbv',hun,hg,hrow⟩:=HE hbf (by omega);rw[hbv]at hbv';cases hbv';obtain⟨ek,esz,e1,ed⟩:=O7 hrow hi he;have hcs:(iK e o yv.cells).cells=putCells e.cells o yv.cells:=afi ek (.inr trivial) (by omega) h1 (by omega);have hrun:=run_store' hn hg (v:=a.eval x') (by rw[hs];exact hl) hone (o:=i*k+o) (by omega);have hlen:(a.eval x').cells.toList.length=n:=by simp;omega
   have UA:∀j,(c.toList.take (i*k+o)++(a.eval x').cells.toList++c.toList.drop (i*k+o+(a.eval x').cells.toList.length)).toArray.getD j undef=if i*k+o<=j/\j<i*k+o+n then(a.eval x').cells.getD (j-(i*k+o)) undef else c.getD j undef:=λj=>by
    rw[GY (by simp;omega) j,hlen];by_cases hc:i*k+o<=j/\j<i*k+o+n
    ·rw[if_pos hc,if_pos hc];have:j-(i*k+o)<(a.eval x').cells.size:=by omega
     simp[List.getD,Array.getD,this]
    ·rw[if_neg hc,if_neg hc];by_cases hj:j<c.size<;>simp[List.getD,Array.getD,hj]
   have BZ:∀j,j<xs.length->(xs.set i (iK e o yv.cells)).getD j .any=if j=i then iK e o yv.cells else xs.getD j .any:=λj hj=>by
    by_cases hji:j=i
    ·subst hji;rw[if_pos rfl,eK hj]
    ·rw[if_neg hji,getD_set_ne' (Ne.symm hji)]
   have hS:∀q,S q->(w.setRow g (c.toList.take (i*k+o)++(a.eval x').cells.toList++c.toList.drop (i*k+o+(a.eval x').cells.toList.length)).toArray).heap[q]?=w.heap[q]?:=λq hq=>setRow_other w g q _ λe=>hun (e▸hq)
   obtain⟨hh',hf⟩:=hh.WX jr hb (xs':=xs.set i (iK e o yv.cells)) (c':=(c.toList.take (i*k+o)++(a.eval x').cells.toList++c.toList.drop (i*k+o+(a.eval x').cells.toList.length)).toArray) hbv hg (by simp)
    ⟨by simpa using hrow.fits,hrow.small,by simp only[List.size_toArray,List.length_append,List.length_take,List.length_drop,Array.length_toList];rw[<- hrow.size];omega,
      λj hj=>by
       rw[List.length_set]at hj;rw[BZ j hj];split
       ·rw[hcs,nQ];exact ek
       ·exact hrow.len j hj,
      λj hj q hq=>by
       rw[List.length_set]at hj;rw[BZ j hj];split
       ·rw[hcs,pH _ _ _ _ (by omega)];split
        ·exact jI h1 (by omega)
        ·exact e1 q hq
       ·exact hrow.one j hj q hq,
      λj hj q hq=>by
       rw[List.length_set]at hj;rw[BZ j hj,UA];by_cases hji:j=i
       ·subst hji;rw[if_pos rfl,hcs,pH _ _ _ _ (by omega)];by_cases hq2:o<=q/\q<o+yv.cells.length
        ·rw[if_pos hq2,if_pos (by omega)];have e:j*k+q-(j*k+o)=q-o:=by omega
         rw[e];have hlt:q-o<yv.cells.length:=by omega
         refine(dy (hall (q-o) hlt) ?_).mono (λ_ h=>h) hS;have:=List.all_eq_true.1 hd (yv.cells[q-o]) (List.getElem_mem hlt);simpa[List.getD,hlt]using this
        ·rw[if_neg hq2,if_neg (by omega)];exact(ed q hq).mono (λ_ h=>h) hS
       ·rw[if_neg hji,if_neg]
        ·exact(hrow.rep j hj q hq).mono (λ_ h=>h) hS
        ·rintro⟨r1,r2⟩;rcases Nat.lt_or_gt_of_ne hji with hlt|hgt
         ·have:=Nat.mul_le_mul_right k (show j+1<=i by omega);rw[Nat.add_mul,Nat.one_mul]at this;omega
         ·have:=Nat.mul_le_mul_right k (show i+1<=j by omega);rw[Nat.add_mul,Nat.one_mul]at this;omega⟩
   refine⟨_,M,S,?_,hh',hf⟩;simp only[execOp,hop,hv,Sem.run_bind,hrun,Result.andThen_ok,Sem.run_pure]
end
end
section
section
variable {P:Program} {oc:Oper} {t:List AV} {H H':AH} {r:AV}
structure Src (P:Program) (S:Nat->Prop) (w:World) (k:Nat) (x:Value) (ys:List AV) (news:Array Value):Prop where
 len:(Builtin.lenOf x).run P w=.ok ys.length w
 len':(Builtin.lenOf x).run P w.drew=.ok ys.length w.drew
 run:(Builtin.firstCells k ys.length x).run P w=.ok news w
 run':(Builtin.firstCells k ys.length x).run P w.drew=.ok news w.drew
 size:news.size=ys.length*k
 IS:∀i,i<ys.length->(ys.getD i .any).cells.length=k
 one:∀i,i<ys.length->∀j,j<k->((ys.getD i .any).cells.getD j .any).one=true
 rep:∀i,i<ys.length->∀j,j<k->aO S w (news.getD (i*k+j) undef) ((ys.getD i .any).cells.getD j .any)
theorem abT {a n c w}:(Builtin.lenOf (.slice a n c)).run P w=.ok n w:=rfl
theorem Fv {k n:Nat} {w:World} {g o n' cap:Nat} {c:Array Value} {T fz} (hg:w.heap[g]?=some (.cells c T fz)) (hb:o+n*k<=c.size):
 (Builtin.firstCells k n (.slice (some ⟨g,o,none⟩) n' cap)).run P w=.ok (c.extract o (o+n*k)) w:=by
 have hl:=run_loadCells (P:=P) w ⟨g,o,none⟩ (n*k) (λj=>c.getD (o+j) undef) (λj hj=>by
  rw[mi,cell_of_row w g (o+j) c T fz hg];have:o+j<c.size:=by omega
  simp[this])
 simp only[Builtin.firstCells,hl];congr 1;apply Array.ext
 ·simp;omega
 ·intro i h1 h2;have hi:i<n*k:=by simpa using h1
  have:o+i<c.size:=by omega
  simp[this]
theorem QD {S:Nat->Prop} {w:World} {k g o n cap:Nat} {ys:List AV} {c:Array Value} {T fz} (hn:n=ys.length) (hg:w.heap[g]?=some (.cells c T fz)) (hb:o+ys.length*k<=c.size)
 (q1:∀i,i<ys.length->(ys.getD i .any).cells.length=k) (q2:∀i,i<ys.length->∀j,j<k->((ys.getD i .any).cells.getD j .any).one=true)
 (q3:∀i,i<ys.length->∀j,j<k->aO S w (c.getD (o+i*k+j) undef) ((ys.getD i .any).cells.getD j .any)):Src P S w k (.slice (some ⟨g,o,none⟩) n cap) ys (c.extract o (o+ys.length*k)):=by
 subst hn;refine⟨rfl,rfl,Fv hg hb,Fv (w:=w.drew) hg hb,by simp;omega,q1,q2,λi hi j hj=>?_⟩;have h1:i*k+j<ys.length*k:=by
  have:=Nat.mul_le_mul_right k (show i+1<=ys.length by omega);rw[Nat.add_mul,Nat.one_mul]at this;omega
 have hs:i*k+j<(c.extract o (o+ys.length*k)).size:=by simp;omega
 have h2:o+i*k+j<c.size:=by omega
 have:=q3 i hi j hj;simp only[Array.getD,h2,hs,dite_true]at this ⊢;have e:(c.extract o (o+ys.length*k)).getInternal (i*k+j) hs=c.getInternal (o+i*k+j) h2:=by
  show(c.extract o (o+ys.length*k))[i*k+j]=c[o+i*k+j];simp[Nat.add_assoc]
 rw[e];exact this
theorem H5 {S:Nat->Prop} {w:World} {k:Nat} {a:Option Addr} {cap:Nat}:Src P S w k (.slice a 0 cap) [] #[]:=by
 refine⟨rfl,rfl,?_,?_,by simp,λi hi=>by simp at hi,λi hi=>by simp at hi,λi hi=>by simp at hi⟩<;>cases a<;>simp[Builtin.firstCells,loadCells,loadCellsFrom]
theorem RN {S:Nat->Prop} {w:World} {v:Value} {k:Nat} {ys:List AV} (h:aO S w v (.sl k ys)):∃news,Src P S w k v ys news:=by
 cases h with
 | sl0 a cap k=>exact⟨_,H5⟩
 | sl g o cap k xs c T fz hcap hS hg hb hk h1 h=>exact⟨_,QD rfl hg hb hk h1 h⟩
theorem ahh {S:Nat->Prop} {w:World} {v:Value} {k:Nat} {ys:List AV} (h:b9 S w v k ys):∃news,Src P S w k v ys news:=by
 rcases h with⟨⟨a,rfl⟩,rfl⟩|⟨g,cap,c,T,rfl,_,hg,hr⟩
 ·exact⟨_,H5⟩
 ·refine⟨_,QD rfl hg ?_ hr.len hr.one λi hi j hj=>by rw[Nat.zero_add];exact hr.rep i hi j hj⟩;rw[hr.size,Nat.zero_add];exact Nat.mul_le_mul_right _ hr.fits
theorem aiE {S:Nat->Prop} {w:World} {s:ByteArray}:∃news,Src P S w 1 (.string s) (s.data.toList.map gK) news:=by
 have hl:(s.data.toList.map gK).length=s.size:=by simp
 have hext:s.extract 0 s.size=s:=by simp
 refine⟨s.data.map λb=>.int .u8 b.toNat,⟨by rw[hl];rfl,by rw[hl];rfl,?_,?_,?_,λi hi=>?_,λi hi j hj=>?_,λi hi j hj=>?_⟩⟩
 ·rw[hl];simp[Builtin.firstCells,hext]
 ·rw[hl];simp[Builtin.firstCells,hext]
 ·rw[hl];simp
 ·have:(s.data.toList.map gK).getD i .any=gK (s.data.toList[i]'(by simpa using hi)):=by simp[List.getD,(by simpa using hi:i<s.size)]
  rw[this];rfl
 ·have:(s.data.toList.map gK).getD i .any=gK (s.data.toList[i]'(by simpa using hi)):=by simp[List.getD,(by simpa using hi:i<s.size)]
  have hj0:j=0:=by omega
  rw[this,hj0];rfl
 ·have:(s.data.toList.map gK).getD i .any=gK (s.data.toList[i]'(by simpa using hi)):=by simp[List.getD,(by simpa using hi:i<s.size)]
  have hj0:j=0:=by omega
  have hi':i<s.data.size:=by simpa using hi
  rw[this,hj0];have his:i<s.size:=by simpa using hi
  have e:(s.data.map λb=>Value.int .u8 b.toNat).getD (i*1+0) undef=.int .u8 (s.data[i].toNat):=by simp[Array.getD,his]
  rw[e];simp only[gK,AV.cells,List.getD_cons_zero,Array.getElem_toList];exact .v _
theorem run_append_room' {ty u rt e:TypeId} {i:TypeInfo} (ht:P.underlying ty=some (.slice e)) (hu:(∃e',P.underlying u=some (.slice e'))\/P.underlying u=some .string) (hi:P.info? e=some i)
 {S:Nat->Prop} {w:World} {g sLen sCap:Nat} {cur:Array Value} {T:TypeId} (hg:w.heap[g]?=some (.cells cur T (0,0))) {x:Value} {ys:List AV} {news:Array Value} (hs:Src P S w i.size x ys news)
 (hroom:sLen+ys.length<=sCap) (hfit:sLen*i.size+news.size<=cur.size) (h1:∀u∈news.toList,u.oneCell'=true):
 (Builtin.append_ #[ty,u] rt #[.slice (some ⟨g,0,none⟩) sLen sCap,x]).run P w=
   .ok (.slice (some ⟨g,0,none⟩) (sLen+ys.length) sCap) (w.setRow g (cur.toList.take (sLen*i.size)++news.toList++cur.toList.drop (sLen*i.size+news.toList.length)).toArray):=by
 have hst:=run_storeCells_at P g (sLen*i.size) T news.toList 0 cur w hg (by simpa using hfit) h1;simp only[Nat.add_zero]at hst;have h1:=hs.len;have h2:=hs.run;rcases hu with⟨e',hu⟩|hu
 ·simp[Builtin.append_,run_underlying ht,run_underlying hu,sizeOf,typeInfo,hi,h1,h2,hroom,Addr.add_lit,hst]
 ·simp[Builtin.append_,run_underlying ht,run_underlying hu,sizeOf,typeInfo,hi,h1,h2,hroom,Addr.add_lit,hst]
theorem run_append_grow' {ty u rt e:TypeId} {i:TypeInfo} {z:Value} (ht:P.underlying ty=some (.slice e)) (hu:(∃e',P.underlying u=some (.slice e'))\/P.underlying u=some .string) (hi:P.info? e=some i) (hz:i.zero=some z)
 {S:Nat->Prop} {w:World} {base:Option Addr} {sLen sCap:Nat} {olds:Array Value} (hold:(Builtin.firstCells i.size sLen (.slice base sLen sCap)).run P w.drew=.ok olds w.drew) {x:Value} {ys:List AV} {news:Array Value} (hs:Src P S w i.size x ys news)
 (hg:sCap<sLen+ys.length) (h63:sLen+ys.length<=9223372036854775807) (hfit:Builtin.nextslicecap (sLen+ys.length) sCap*i.bytes<=281474976710656):
 (Builtin.append_ #[ty,u] rt #[.slice base sLen sCap,x]).run P w=
   .ok (.slice (some ⟨w.heap.size,0,none⟩) (sLen+ys.length) (grownCap w (sLen+ys.length) sCap e))
    (w.drew.alloc (.cells (olds++news++Builtin.zeroCells z.cells (grownCap w (sLen+ys.length) sCap e-(sLen+ys.length))) e)):=by
 have hn:¬(sLen+ys.length<=sCap):=by omega
 have h63':¬(9223372036854775807<((sLen:Int)+(ys.length:Int))):=by omega
 have h48':¬(281474976710656<Builtin.nextslicecap (sLen+ys.length) sCap*i.bytes):=by omega
 have h1:=hs.len;have h2:=hs.run';rcases hu with⟨e',hu⟩|hu
 ·simp[Builtin.append_,run_underlying ht,run_underlying hu,sizeOf,typeInfo,zeroValue,hi,hz,h1,hn,h63',h48',Question.forced,hold,h2,newRow,grownCap]
 ·simp[Builtin.append_,run_underlying ht,run_underlying hu,sizeOf,typeInfo,zeroValue,hi,hz,h1,hn,h63',h48',Question.forced,hold,h2,newRow,grownCap]
theorem ir (c:Array Value) (q:Nat):c.getD q undef=(c[q]?).getD undef:=by
 by_cases h:q<c.size<;>simp[Array.getD,h]
theorem ahI {A B C:Array Value} (q:Nat):(A++B++C).getD q undef=if q<A.size then A.getD q undef else if q-A.size<B.size then B.getD (q-A.size) undef else C.getD (q-A.size-B.size) undef:=by
 simp only[ir,Array.getElem?_append,Array.size_append];by_cases h1:q<A.size
 ·rw[if_pos h1,if_pos (by omega),if_pos h1]
 ·simp only[if_neg h1];by_cases h2:q-A.size<B.size
  ·rw[if_pos h2,if_pos (by omega)]
  ·rw[if_neg h2,if_neg (by omega),Nat.sub_sub]
theorem ma {xs ys:List AV} {i:Nat}:(xs++ys).getD i .any=if i<xs.length then xs.getD i .any else ys.getD (i-xs.length) .any:=by
 simp only[List.getD,List.getElem?_append];split<;>rfl
theorem AM {i n j k:Nat} (hi:i<n) (hj:j<k):i*k+j<n*k:=by
 have:=Nat.mul_le_mul_right k (show i+1<=n by omega);rw[Nat.add_mul,Nat.one_mul]at this;omega
theorem PZ {S:Nat->Prop} {w:World} {k cap:Nat} {xs ys:List AV} {A B C:Array Value} (hA:A.size=xs.length*k) (hB:B.size=ys.length*k) (hc:xs.length+ys.length<=cap) (hm:cap<=maxLen)
 (hsz:(A++B++C).size=cap*k) (q1:∀i,i<xs.length->(xs.getD i .any).cells.length=k) (q2:∀i,i<xs.length->∀j,j<k->((xs.getD i .any).cells.getD j .any).one=true)
 (q3:∀i,i<xs.length->∀j,j<k->aO S w (A.getD (i*k+j) undef) ((xs.getD i .any).cells.getD j .any))
 (r1:∀i,i<ys.length->(ys.getD i .any).cells.length=k) (r2:∀i,i<ys.length->∀j,j<k->((ys.getD i .any).cells.getD j .any).one=true)
 (r3:∀i,i<ys.length->∀j,j<k->aO S w (B.getD (i*k+j) undef) ((ys.getD i .any).cells.getD j .any)):Row S w k (xs++ys) cap (A++B++C):=by
 refine⟨by simpa using hc,hm,hsz,λi hi=>?_,λi hi j hj=>?_,λi hi j hj=>?_⟩
 ·rw[ma];rw[List.length_append]at hi;split
  ·exact q1 i (by assumption)
  ·exact r1 _ (by omega)
 ·rw[ma];rw[List.length_append]at hi;split
  ·exact q2 i (by assumption) j hj
  ·exact r2 _ (by omega) j hj
 ·rw[ma,ahI];rw[List.length_append]at hi;by_cases h:i<xs.length
  ·rw[if_pos h,if_pos (by rw[hA];exact AM h hj)];exact q3 i h j hj
  ·rw[if_neg h];have hle:xs.length*k<=i*k:=Nat.mul_le_mul_right _ (by omega);have hsub:i*k+j-A.size=(i-xs.length)*k+j:=by rw[hA,Nat.sub_mul];omega
   rw[if_neg (by rw[hA];omega),hsub,if_pos (by rw[hB];exact AM (by omega) hj)];exact r3 _ (by omega) j hj
theorem aiD {S:Nat->Prop} {w:World} {k:Nat} {x:Value} {ys:List AV} {news:Array Value} (hk:0<k) (hs:Src P S w k x ys news):∀u∈news.toList,u.oneCell'=true:=by
 intro u hu;obtain⟨q,hq,rfl⟩:=List.mem_iff_getElem.1 hu;have hq':q<ys.length*k:=by rw[<- hs.size];simpa using hq
 have hi:q/k<ys.length:=Nat.div_lt_of_lt_mul (by rwa [Nat.mul_comm]);have hj:q%k<k:=Nat.mod_lt _ hk;have:=Ia (M:=⟨0,0,λ_=>0,λ_=>undef⟩) (.data (hs.rep _ hi _ hj)) (hs.one _ hi _ hj);have e:q/k*k+q%k=q:=by rw[Nat.mul_comm];exact Nat.div_add_mod q k
 rw[e]at this;have BX:q<news.size:=by simpa using hq
 simp only[Array.getD,BX,dite_true]at this;exact this
theorem Ou {ty u rt e:TypeId} {i:TypeInfo} {z:Value} (ht:P.underlying ty=some (.slice e)) (hu:(∃e',P.underlying u=some (.slice e'))\/P.underlying u=some .string) (hi:P.info? e=some i) (hz:i.zero=some z) (hzs:z.cells.size=i.size) (hk:0<i.size)
 {S:Nat->Prop} {w:World} {v x:Value} {xs ys:List AV} {news:Array Value} (hv:b9 S w v i.size xs) (hs:Src P S w i.size x ys news) (hS:∀g,S g->g<w.heap.size)
 (hb:(xs.length+ys.length)*i.bytes<=140737488355328) (h63:xs.length+ys.length<=9223372036854775807):
 ∃v' w',(Builtin.append_ #[ty,u] rt #[v,x]).run P w=.ok v' w'/\b9 S w' v' i.size (xs++ys)/\w.grownBy w' (Value.blk v)/\(∀g,Value.blk v'=some g->w.heap.size<=g\/Value.blk v=some g):=by
 have grow:∀(base:Option Addr) (cap:Nat) (olds:Array Value),v=.slice base xs.length cap->(Builtin.firstCells i.size xs.length (.slice base xs.length cap)).run P w.drew=.ok olds w.drew->cap<xs.length+ys.length->olds.size=xs.length*i.size->
  (∀j,j<xs.length->(xs.getD j .any).cells.length=i.size)->(∀q,q<xs.length->∀j,j<i.size->((xs.getD q .any).cells.getD j .any).one=true)->
  (∀q,q<xs.length->∀j,j<i.size->aO S w (olds.getD (q*i.size+j) undef) ((xs.getD q .any).cells.getD j .any))->
  ∃v' w',(Builtin.append_ #[ty,u] rt #[v,x]).run P w=.ok v' w'/\b9 S w' v' i.size (xs++ys)/\w.grownBy w' (Value.blk v)/\(∀g,Value.blk v'=some g->w.heap.size<=g\/Value.blk v=some g):=by
  intro base cap olds UV hold hcap hos q1 q2 q3;subst UV;have hrun:=run_append_grow' (rt:=rt) ht hu hi hz hold hs hcap h63 (growslice_fits hcap hb);have hge:=grownCap_ge w (xs.length+ys.length) cap e;have hle:=grownCap_le_maxLen w (xs.length+ys.length) cap e (by unfold maxLen;omega);have hG:=Grew.Jh w (.cells (olds++news++Builtin.zeroCells z.cells (grownCap w (xs.length+ys.length) cap e-(xs.length+ys.length))) e);obtain⟨c',hc'⟩:∃c',grownCap w (xs.length+ys.length) cap e=c'+1:=⟨grownCap w (xs.length+ys.length) cap e-1,by omega⟩
  have hrow:Row S w i.size (xs++ys) (c'+1) (olds++news++Builtin.zeroCells z.cells (grownCap w (xs.length+ys.length) cap e-(xs.length+ys.length))):=
   PZ hos hs.size (by omega) (by omega) (by
    simp only[Array.size_append,size_zeroCells,hos,hs.size,hzs];rw[<- Nat.add_mul,<- Nat.add_mul];congr 1;omega) q1 q2 q3 hs.IS hs.one hs.rep
  refine⟨_,_,hrun,.inr ⟨w.heap.size,c',_,e,by rw[hc',List.length_append],λh=>by have:=hS _ h;omega,fP _ _,⟨hrow.fits,hrow.small,hrow.size,hrow.len,hrow.one,λq hq j hj=>(hrow.rep q hq j hj).mono (λ_ h=>h) λg hg=>hG.old g (hS g hg)⟩⟩,⟨hG.os,hG.tape,hG.output,hG.size,λq hq _=>hG.old q hq⟩,λg hg=>?_⟩;rw[hc']at hg;simp only[Value.blk,Option.some.injEq]at hg;exact .inl (by omega)
 rcases hv with⟨⟨a,rfl⟩,rfl⟩|⟨g,cap,c,T,rfl,hun,hg,hr⟩
 ·rcases Nat.eq_zero_or_pos ys.length with h0|hpos
  ·have hys:ys=[]:=List.eq_nil_of_length_eq_zero h0;subst hys;refine⟨.slice a 0 0,w,?_,.inl ⟨⟨a,rfl⟩,rfl⟩,⟨rfl,rfl,rfl,Nat.le_refl _,λ_ _ _=>rfl⟩,λg h=>.inr h⟩;have h1:=hs.len;have h2:=hs.run;have hn:news=#[]:=by have:=hs.size;simp at this;exact this
   subst hn;simp only[List.length_nil]at h1 h2;rcases hu with⟨e',hu⟩|hu<;>cases a<;>simp[Builtin.append_,run_underlying ht,run_underlying hu,sizeOf,typeInfo,hi,h1,h2,storeCells]
  ·exact grow a 0 #[] rfl (by cases a<;>simp[Builtin.firstCells,loadCells,loadCellsFrom]) (by simpa using hpos) (by simp) (λj hj=>by simp at hj) (λq hq=>by simp at hq) (λq hq=>by simp at hq)
 ·have hfits:=hr.fits;have hsmall:=hr.small;by_cases hroom:xs.length+ys.length<=cap+1
  ·have hfit:xs.length*i.size+news.size<=c.size:=by
    rw[hs.size,hr.size,<- Nat.add_mul];exact Nat.mul_le_mul_right _ hroom
   have hrun:=run_append_room' (rt:=rt) ht hu hi hg hs hroom hfit (aiD hk hs);have hS':∀q,S q->(w.setRow g (c.toList.take (xs.length*i.size)++news.toList++c.toList.drop (xs.length*i.size+news.toList.length)).toArray).heap[q]?=w.heap[q]?:=λq hq=>setRow_other w g q _ λe=>hun (e▸hq)
   have hA:(c.toList.take (xs.length*i.size)).toArray.size=xs.length*i.size:=by simp;omega
   have harr:(c.toList.take (xs.length*i.size)++news.toList++c.toList.drop (xs.length*i.size+news.toList.length)).toArray=(c.toList.take (xs.length*i.size)).toArray++news++(c.toList.drop (xs.length*i.size+news.toList.length)).toArray:=by
    apply Array.ext';simp
   have hrow:Row S w i.size (xs++ys) (cap+1) ((c.toList.take (xs.length*i.size)).toArray++news++(c.toList.drop (xs.length*i.size+news.toList.length)).toArray):=
    PZ hA hs.size hroom hsmall (by
     simp only[Array.size_append,List.size_toArray,List.length_take,List.length_drop,Array.length_toList];rw[<- hr.size];omega) hr.len hr.one (λq hq j hj=>by
      have:=hr.rep q hq j hj;have hlt:=AM (k:=i.size) hq hj;have hc:q*i.size+j<c.size:=by omega
      have ht':q*i.size+j<(c.toList.take (xs.length*i.size)).toArray.size:=by omega
      simp only[Array.getD,hc,ht',dite_true]at this ⊢;have e:(c.toList.take (xs.length*i.size)).toArray.getInternal (q*i.size+j) ht'=c.getInternal (q*i.size+j) hc:=by
       show(c.toList.take (xs.length*i.size)).toArray[q*i.size+j]=c[q*i.size+j];simp
      rw[e];exact this) hs.IS hs.one hs.rep
   refine⟨_,_,hrun,.inr ⟨g,cap,_,T,by rw[List.length_append],hun,setRow_heap w g c _ T (0,0) hg,?_⟩,afG,λq hq=>.inr hq⟩;rw[harr]at hS' ⊢;exact⟨hrow.fits,hrow.small,hrow.size,hrow.len,hrow.one,λq hq j hj=>(hrow.rep q hq j hj).mono (λ_ h=>h) hS'⟩
  ·have hsz:0+xs.length*i.size<=c.size:=by rw[hr.size,Nat.zero_add];exact Nat.mul_le_mul_right _ hfits
   refine grow (some ⟨g,0,none⟩) (cap+1) (c.extract 0 (0+xs.length*i.size)) rfl (Fv (w:=w.drew) hg hsz) (by omega) (by simp;omega) hr.len hr.one λq hq j hj=>?_;have:=hr.rep q hq j hj;have hlt:=AM (k:=i.size) hq hj;have hc:q*i.size+j<c.size:=by omega
   have ht':q*i.size+j<(c.extract 0 (0+xs.length*i.size)).size:=by simp;omega
   simp only[Array.getD,hc,ht',dite_true]at this ⊢;have e:(c.extract 0 (0+xs.length*i.size)).getInternal (q*i.size+j) ht'=c.getInternal (q*i.size+j) hc:=by
    show(c.extract 0 (0+xs.length*i.size))[q*i.size+j]=c[q*i.size+j];simp
   rw[e];exact this
theorem Iz {S:Nat->Prop} {M:Maps} {w:World} (hh:aE M S H w) {k:Nat} {v:Value} {y:AV} (hv:am M S w v y) {ys:List AV} (h:dH H k y=some ys):∃news,Src P S w k v ys news:=by
 unfold dH at h;split at h
 ·cases h;cases dy hv rfl;exact⟨_,H5⟩
 ·split at h
  ·rename_i hk;subst hk;cases h;exact RN (dy hv rfl)
  ·cases h
 ·rename_i u;unfold lT at h;cases hv with
  | data h=>cases h
  | own _ ht hs=>
    have hb:=hh.buf u (by rw[<- hh.nt];exact ht);split at h
    ·rename_i k' xs hbf;rw[hbf]at hb;split at h
     ·rename_i hk;subst hk;cases h;exact ahh hb
     ·cases h
    ·rename_i k' xs hbf;rw[hbf]at hb;split at h
     ·rename_i hk;subst hk;cases h;exact RN hb
     ·cases h
    ·cases h
    ·cases h
 ·split at h
  ·rename_i hk;subst hk;cases h;rw[hv.bh];exact aiE
  ·cases h
 ·cases h
theorem Pg {e:TypeId} {i:TypeInfo} {zs:List AV} (hi:P.info? e=some i) (hz:gM P e=some zs) (hl:zs.length=i.size):∃z,i.zero=some z/\z.cells.size=i.size:=by
 obtain⟨i',z,hi',hz',rfl⟩:=G0 hz;rw[hi]at hi';cases hi';refine⟨z,hz',?_⟩;rw[<- hl];by_cases h:∃vs,z=.agg vs
 ·obtain⟨vs,rfl⟩:=h;simp[fB,Value.cells,AV.cells]
 ·rw[Oo λvs e=>h ⟨vs,e⟩];have:fB z=jh z:=by cases z<;>first|rfl|exact absurd ⟨_,rfl⟩ h
  rw[this];unfold jh;split<;>rfl
theorem Oy {o:Oper} {x y:Operand} {ty u:TypeId} (hop:o.op=.call { callee:=.builtin .append,args:=#[x,y],argTypes:=#[ty,u] }) {a:Act} {w w':World} {v':Value} (h:(Builtin.append_ #[ty,u] o.type #[a.eval x,a.eval y]).run P w=.ok v' w'):
 (execOp a.eval o).run P w=.ok (.value v') w':=by
 simp only[execOp,hop,resolve,invoke,builtin,Sem.run_bind,Sem.run_pure,Result.andThen_ok,List.map_toArray,List.map_cons,List.map_nil,h]
theorem ae5 {k aQ y z ys} (h:od t y=.emp) (hs:dH H k (od t z)=some ys) (hb:ys.length*aQ<=140737488355328) (h63:ys.length<=9223372036854775807):
 OS P (.app k aQ y z) t H (.ret (.own H.buf.length)) ⟨H.box,H.buf++[.live k ys]⟩:=by
 intro wr oc hc;obtain⟨x,x',ty,u,e,i,zs,args,ts,rfl,rfl,rfl,rfl,hop,ht,hu,hi,hz,hzl,hk,rfl,rfl⟩:=QW hc;refine jJ λM S w a hx hh=>?_;have hr1:=hx x (by simp[hop,Op.operands,Call.operands]);have hr2:=hx x' (by simp[hop,Op.operands,Call.operands]);rw[h]at hr1;obtain⟨z',hz',hzs⟩:=Pg hi hz hzl;obtain⟨news,hsrc⟩:=Iz (P:=P) hh hr2 hs;generalize hv:a.eval x=v at hr1;cases dy hr1 rfl with
 | emp ad=>
   obtain⟨v',w',hrun,hlive,hg,hblk⟩:=Ou (rt:=oc.type) ht hu hi hz' hzs hk (v:=.slice ad 0 0) (xs:=[]) (.inl ⟨⟨ad,rfl⟩,rfl⟩) hsrc hh.sits (by simpa using hb) (by simpa using h63);have hnone:Value.blk (.slice ad 0 0)=none:=by cases ad<;>rfl
   rw[hnone]at hg;obtain⟨hh',hf⟩:=hh.nf hg (buf:=H.buf) rfl (λ_ _=>.inl rfl) (λg e=>by cases e) (λg _ e=>by cases e) (v:=v') (k:=i.size) (xs:=ys) hlive λg hgb=>(hblk g hgb).imp id λe=>by rw[hnone]at e;cases e
   exact⟨v',w',_,S,Oy hop (by rw[hv];exact hrun),hh',jF hh.nt hlive.slice,hf⟩
theorem ae6 {k aQ y z u xs ys} (h:od t y=.own u) (hbuf:H.buf.getD u .dead=.live k xs) (hs:dH H k (od t z)=some ys) (hb:(xs.length+ys.length)*aQ<=140737488355328) (h63:xs.length+ys.length<=9223372036854775807):
 OS P (.app k aQ y z) t H (.ret (.own H.buf.length)) ⟨H.box,H.buf.set u .dead++[.live k (xs++ys)]⟩:=by
 intro wr oc hc;obtain⟨x,x',ty,u2,e,i,zs,args,ts,rfl,rfl,rfl,rfl,hop,ht,hu,hi,hz,hzl,hk,rfl,rfl⟩:=QW hc;refine jJ λM S w a hx hh=>?_;have hr1:=hx x (by simp[hop,Op.operands,Call.operands]);have hr2:=hx x' (by simp[hop,Op.operands,Call.operands]);rw[h]at hr1;obtain⟨z',hz',hzs⟩:=Pg hi hz hzl;obtain⟨news,hsrc⟩:=Iz (P:=P) hh hr2 hs;generalize hv:a.eval x=v at hr1;cases hr1 with
 | data h=>cases h
 | own _ htl hsl=>
   have jr:u<H.buf.length:=by rw[<- hh.nt];exact htl
   have hbf:=hh.buf u jr;rw[hbuf]at hbf;obtain⟨v',w',hrun,hlive,hg,hblk⟩:=Ou (rt:=oc.type) ht hu hi hz' hzs hk hbf hsrc hh.sits hb h63;have hlv:∀g,Value.blk (M.bv u)=some g->lives M H u g:=λg hg=>⟨jr,by rw[hbuf];rfl,hg⟩
   obtain⟨hh',hf⟩:=hh.nf hg (buf:=H.buf.set u .dead) (by simp) (λt' ht'=>by
    by_cases e:t'=u
    ·subst e;exact .inr (eK ht')
    ·exact .inl (getD_set_ne' (Ne.symm e)))
    (λg e=>⟨.inr ⟨u,hlv g e⟩,λt' hl=>by
      have:=hh.tt t' u g hl (hlv g e);subst this;exact eK jr⟩)
    (λg b e hb e'=>hh.bt b u g hb (hlv g e) e') (v:=v') (k:=i.size) (xs:=xs++ys) hlive hblk
   exact⟨v',w',_,S,Oy hop (by rw[hv];exact hrun),hh',jF hh.nt hlive.slice,hf⟩
end
end
section
section
variable {P:Program} {oc:Oper} {t:List AV} {H H':AH} {r:AV}
theorem Au {M S w} {a:Act} {x:Option Operand} (hx:∀y,x=some y->am M S w (a.eval y) (od t (ak y))) {n l:Int} (h:bnd t n (x.map ak)=some l):(x=none/\l=n)\/∃y k,x=some y/\a.eval y=.int k l:=by
 cases x with
 | none=>simp[bnd]at h;exact .inl ⟨rfl,h.symm⟩
 | some y=>
   simp only[Option.map_some,bnd]at h;split at h
   ·rename_i k m e;have:=hx y rfl;rw[e]at this;cases h;exact .inr ⟨y,k,rfl,this.bh⟩
   ·cases h
theorem kA {k:IntKind} {l:Int} {n:Nat} {code:BoundsCode} (h0:0<=l) (h1:l<=n) {w:World}:(Instr.sliceBound (.int k l) n code).run P w=.ok l.toNat w:=by
 simp[Instr.sliceBound,asIntOf,h0,h1]
theorem sA {M S w} {a:Act} {lo hi:Option Operand} (hlo:∀y,lo=some y->am M S w (a.eval y) (od t (ak y))) (hhi:∀y,hi=some y->am M S w (a.eval y) (od t (ak y))) {l h:Int} {n cap:Nat} (h1:bnd t 0 (lo.map ak)=some l) (h2:bnd t n (hi.map ak)=some h)
 (b0:0<=l) (b1:l<=h) (b2:h<=(n:Int)) (b3:n<=cap) (b:Bool):(Instr.sliceBounds b n cap (lo.map a.eval) (hi.map a.eval) none).run P w=.ok (l.toNat,h.toNat,cap) w:=by
 unfold Instr.sliceBounds;rcases Au hhi h2 with⟨rfl,rfl⟩|⟨y,k,rfl,hy⟩<;>rcases Au hlo h1 with⟨rfl,rfl⟩|⟨y',k',rfl,hy'⟩
 ·simp
 ·simp[hy',kA b0 b1]
 ·simp[hy,kA (show 0<=h by omega) (show h<=(cap:Int) by omega)]
 ·simp[hy,hy',kA (show 0<=h by omega) (show h<=(cap:Int) by omega),kA (n:=h.toNat) b0 (by omega)]
theorem Pi {S:Nat->Prop} {w:World} {v:Value} {k:Nat} {xs:List AV} (h:aO S w v (.sl k xs)):∃a cap,v=.slice a xs.length cap/\xs.length<=cap/\
 ∀l h',l<=h'->h'<=xs.length->aO S w (.slice (if cap=l then a else a.map (·.add (l*k))) (h'-l) (cap-l)) (.sl k ((xs.take h').drop l)):=by
 cases h with
 | sl0 a cap k=>
   refine⟨a,cap,rfl,Nat.zero_le _,λl h' hl hh=>?_⟩;have:h'=0:=by simpa using hh
   subst this;have:l=0:=by omega
   subst this;exact .sl0 _ _ _
 | sl g o cap k xs c T fz hcap hS hg hb hk h1 h=>
   refine⟨_,cap,rfl,hcap,λl h' hl hh=>?_⟩;have hlen:((xs.take h').drop l).length=h'-l:=by simp;omega
   rcases Nat.eq_zero_or_pos (h'-l)with h0|hpos
   ·have:(xs.take h').drop l=[]:=List.eq_nil_of_length_eq_zero (by omega);rw[this,h0];exact .sl0 _ _ _
   ·rw[if_neg (by omega)];have hget:∀i,i<h'-l->((xs.take h').drop l).getD i .any=xs.getD (l+i) .any:=λi hi=>by
     simp only[List.getD,List.getElem?_drop,List.getElem?_take_of_lt (show l+i<h' by omega)]
    have:=aO.sl (S:=S) (w:=w) g (o+l*k) (cap-l) k ((xs.take h').drop l) c T fz (by omega) hS hg (by
     rw[hlen];have:h'*k<=xs.length*k:=Nat.mul_le_mul_right _ hh;have e:l*k+(h'-l)*k=h'*k:=by rw[<- Nat.add_mul];congr 1;omega
     omega)
     (λi hi=>by rw[hlen]at hi;rw[hget i hi];exact hk _ (by omega))
     (λi hi j hj=>by rw[hlen]at hi;rw[hget i hi];exact h1 _ (by omega) j hj)
     (λi hi j hj=>by
       rw[hlen]at hi;rw[hget i hi];have:=h (l+i) (by omega) j hj
       rwa [show o+(l+i)*k+j=o+l*k+i*k+j by rw[Nat.add_mul];omega]at this)
    rw[hlen]at this;simpa[mi]using this
theorem sB {ty e:TypeId} {k:Nat} (hu:P.underlying ty=some (.slice e)) (hk:bR P e=some k) {ad:Option Addr} {n cap:Nat} {lo hi mx:Option Value} {w:World} {l h m:Nat} (hb:(Instr.sliceBounds true n cap lo hi mx).run P w=.ok (l,h,m) w):
 (Instr.sliceAt ty (.slice ad n cap) lo hi mx).run P w=.ok (.slice (if m=l then ad else ad.map (·.add (l*k))) (h-l) (m-l)) w:=by
 simp[Instr.sliceAt,run_underlying hu,Instr.slice,hb,ij hk]
theorem abm {ty:TypeId} (hu:P.underlying ty=some .string) {s:ByteArray} {lo hi:Option Value} {w:World} {l h:Nat} (hb:(Instr.sliceBounds false s.size s.size lo hi none).run P w=.ok (l,h,s.size) w):
 (Instr.sliceAt ty (.string s) lo hi none).run P w=.ok (.string (s.extract l h)) w:=by
 simp[Instr.sliceAt,run_underlying hu,Instr.slice,hb]
theorem afj (s:ByteArray) (l h:Nat):s.extract l h=bs ((s.data.toList.take h).drop l):=by
 apply ByteArray.ext;apply Array.ext';simp[bs,List.drop_take,List.extract_eq_take_drop]
theorem Ix {st k y lo hi mx p r} (h:fL t H st k (od t y) lo hi mx=some (p,r)) (hp:p):OS P (.slc st k y lo hi mx) t H (.ret r) H:=by
 intro wr oc hc;obtain⟨ty,x,xl,xh,xm,rfl,rfl,rfl,rfl,hop,hty⟩:=Q0 hc;refine cy λM S w a hx hh=>?_;have hr:=hx x (by simp[hop,Op.operands]);have hl:∀y,xl=some y->am M S w (a.eval y) (od t (ak y)):=λy e=>hx y (by subst e;simp[hop,Op.operands])
 have hhi:∀y,xh=some y->am M S w (a.eval y) (od t (ak y)):=λy e=>hx y (by subst e;simp[hop,Op.operands])
 have hmx:∀y,xm=some y->am M S w (a.eval y) (od t (ak y)):=λy e=>hx y (by subst e;simp[hop,Op.operands])
 have exec:∀v,(Instr.sliceAt ty (a.eval x) (xl.map a.eval) (xh.map a.eval) (xm.map a.eval)).run P w=.ok v w->(execOp a.eval oc).run P w=.ok (.value v) w:=λv hv=>by
  simp only[execOp,hop,Sem.run_bind,hv,Result.andThen_ok,Sem.run_pure]
 have row:∀ {e xs l h'},P.underlying ty=some (.slice e)->bR P e=some k->xm=none->am M S w (a.eval x) (.sl k xs)->bnd t 0 (xl.map ak)=some l->bnd t xs.length (xh.map ak)=some h'->0<=l->l<=h'->h'<=(xs.length:Int)->
  ∃v,(execOp a.eval oc).run P w=.ok (.value v) w/\am M S w v (.sl k ((xs.take h'.toNat).drop l.toNat)):=by
  intro e xs l h' hu hk hm hrep b1 b2 b3 b4 b5;subst hm;obtain⟨ad,cap,hv,hcap,hd⟩:=Pi (dy hrep rfl);have hb:=sA (P:=P) (w:=w) (a:=a) hl hhi b1 b2 b3 b4 b5 hcap true;refine⟨_,exec _ (by rw[hv,Option.map_none];exact sB hu hk hb),.data (hd l.toNat h'.toNat (by omega) (by omega))⟩
 have none0:∀ {e ad n cap},P.underlying ty=some (.slice e)->bR P e=some k->a.eval x=.slice ad n cap->bnd t 0 (xl.map ak)=some 0->bnd t 1 (xh.map ak)=some 0->(∃z,xm=some z/\∃ik,a.eval z=.int ik 0)->
  ∃v,(execOp a.eval oc).run P w=.ok (.value v) w/\am M S w v .emp:=by
  intro e ad n cap hu hk hv b1 b2 ⟨z,hz,ik,hz0⟩;subst hz;have hb:(Instr.sliceBounds true n cap (xl.map a.eval) (xh.map a.eval) (some (a.eval z))).run P w=.ok (0,0,0) w:=by
   unfold Instr.sliceBounds;rcases Au hhi b2 with⟨_,h01⟩|⟨y2,k2,rfl,hy2⟩
   ·exact absurd h01 (by decide)
   ·rcases Au hl b1 with⟨rfl,_⟩|⟨y1,k1,rfl,hy1⟩
    ·simp[hz0,hy2,kA (k:=ik) (l:=0) (n:=cap) (by omega) (by omega),kA (k:=k2) (l:=0) (n:=0) (by omega) (by omega)]
    ·simp[hz0,hy1,hy2,kA (k:=ik) (l:=0) (n:=cap) (by omega) (by omega),kA (k:=k2) (l:=0) (n:=0) (by omega) (by omega),kA (k:=k1) (l:=0) (n:=0) (by omega) (by omega)]
  refine⟨_,exec _ (by rw[hv,Option.map_some];exact sB hu hk hb),?_⟩;exact .data (.emp ad)
 unfold fL at h;split at h
 ·rename_i qS;have hm:xm=none:=by cases xm<;>first|rfl|(simp at qS)
  split at h
  ·rename_i l q ik n hbl hlen;split at h
   ·rename_i h' uQ;unfold kr at h;split at h
    ·rename_i s e;rw[e]at hr hlen;simp only[lenV]at hlen;split at hlen
     ·rename_i hst;simp only[Option.some.injEq,Prod.mk.injEq,AV.v.injEq,Value.int.injEq]at hlen h;obtain⟨_,_,rfl⟩:=hlen;obtain⟨rfl,rfl⟩:=h;obtain⟨p1,p2,p3⟩:=hp;subst hm;rcases hty with⟨_,hu,rfl⟩|⟨hst',_⟩
      ·have hb:=sA (P:=P) (w:=w) (a:=a) (n:=s.size) (cap:=s.size) hl hhi hbl (by simpa using uQ) p1 p2 (by simpa using p3) (Nat.le_refl _) false;refine⟨_,exec _ (by rw[hr.bh,Option.map_none];exact abm hu hb),?_⟩;rw[afj];exact .data (.v _)
      ·rw[hst]at hst';cases hst'
     ·cases hlen
    ·rename_i k' xs e;rw[e]at hr hlen;simp only[lenV]at hlen;split at hlen
     ·cases hlen
     ·rename_i hst;split at h
      ·rename_i hk';subst hk';simp only[Option.some.injEq,Prod.mk.injEq,AV.v.injEq,Value.int.injEq,nB]at hlen h;obtain⟨_,_,rfl⟩:=hlen;obtain⟨rfl,rfl⟩:=h;obtain⟨p1,p2,p3⟩:=hp;rcases hty with⟨hst',_⟩|⟨_,e',hu,hk⟩
       ·exact absurd hst' hst
       ·exact row hu hk hm hr hbl uQ p1 p2 p3
      ·cases h
    ·rename_i e;rw[e]at hr hlen;simp only[lenV]at hlen;split at hlen
     ·cases hlen
     ·rename_i hst;simp only[Option.some.injEq,Prod.mk.injEq,AV.v.injEq,Value.int.injEq]at hlen h;obtain⟨_,_,rfl⟩:=hlen;obtain⟨rfl,rfl⟩:=h;obtain⟨rfl,rfl⟩:=hp;rcases hty with⟨hst',_⟩|⟨_,e',hu,hk⟩
      ·exact absurd hst' hst
      ·subst hm;generalize hv:a.eval x=v at hr;cases dy hr rfl with
       | emp ad=>
         have hb:=sA (P:=P) (w:=w) (a:=a) (n:=0) (cap:=0) hl hhi hbl uQ (by omega) (by omega) (by omega) (by omega) true;exact⟨_,exec _ (by rw[hv,Option.map_none];exact sB hu hk hb),.data (.emp ad)⟩
    ·rename_i u e;rw[e]at hr hlen;simp only[lenV]at hlen;split at hlen
     ·cases hlen
     ·rename_i hst;unfold vQ at h;split at h
      ·rename_i k' xs hbf;rw[hbf]at hlen;split at h
       ·rename_i hk';subst hk';simp only[gA,Option.some.injEq,Prod.mk.injEq,AV.v.injEq,Value.int.injEq,nB]at hlen h;obtain⟨_,_,rfl⟩:=hlen;obtain⟨rfl,rfl⟩:=h;obtain⟨p1,p2,p3⟩:=hp;have hfr:=tB hh hr;simp only[gO,hbf,qQ]at hfr;rcases hty with⟨hst',_⟩|⟨_,e',hu,hk⟩
        ·exact absurd hst' hst
        ·exact row hu hk hm hfr hbl uQ p1 p2 p3
       ·cases h
      ·cases h
    ·cases h
   ·cases h
  ·cases h
 ·rename_i ik qS;have hm:∃z,xm=some z/\∃ik,a.eval z=.int ik 0:=by
   cases xm with
   | none=>simp at qS
   | some z=>
     refine⟨z,rfl,?_⟩;simp only[Option.map_some,Option.some.injEq]at qS;have:=hmx z rfl;rw[qS]at this;exact⟨_,this.bh⟩
  split at h
  ·rename_i b1 b2 e;split at h
   ·cases h
   ·rename_i hst;cases h;rw[e]at hr;rcases hty with⟨hst',_⟩|⟨_,e',hu,hk⟩
    ·exact absurd hst' hst
    ·obtain⟨ad,cap,hv,_⟩:=Pi (dy hr rfl);exact none0 hu hk hv b1 b2 hm
  ·rename_i b1 b2 e;split at h
   ·cases h
   ·rename_i hst;cases h;rw[e]at hr;rcases hty with⟨hst',_⟩|⟨_,e',hu,hk⟩
    ·exact absurd hst' hst
    ·generalize hv:a.eval x=v at hr;cases dy hr rfl with
     | emp ad=>exact none0 hu hk hv b1 b2 hm
  ·cases h
 ·cases h
end
end
section
def vf (R:List AV->AH->Prop) (dr:Bool) (t:List AV) (H:AH) (d:Option Nat) (st:Bool) (k u:Nat) (lo hi mx:Option Od):Buf->Prop
 | .live _ _=>dr=false/\kO R t (bC H [u]) d (fL t (bC H [u]) st k (.own u) lo hi mx)
 | _=>kO R t H d (fL t H st k (.own u) lo hi mx)
def j8 (R:List AV->AH->Prop) (dr:Bool) (t:List AV) (H:AH) (d:Option Nat) (st:Bool) (k:Nat) (x:AV) (lo hi mx:Option Od):Prop:=
 match x with
 | .own u=>vf R dr t H d st k u lo hi mx (H.buf.getD u .dead)
 | x=>kO R t H d (fL t H st k x lo hi mx)
theorem iY.cj {P:Program} {oc:Oper} {t:List AV} {H H':AH} {r:AE} (fs:List Nat) (h:iY P oc t (bC H fs) r H'):iY P oc t H r H':=by
 intro M S w a hx hh hp K Q hK;obtain⟨S1,hh1,hf1⟩:=aE.freezes (H:=H) fs (S:=S) (buf:=H.buf) hh;exact h M S1 w a (λx hm=>(hx x hm).mono hf1.sub hf1.cv hf1.le) hh1 (hp.fh hf1) K Q λM' S' v w' h1 h2=>hK M' S' v w' h1 (hf1.trans h2)
def aM (R:List AV->AH->Prop) (dr:Bool) (t:List AV) (H:AH) (d:Option Nat):SO->Prop
 | .gS x=>R (a9 t d (od t x)) H
 | .box x=>uY R t H d (od t x).cells
 | .alloc zs=>uY R t H d zs
 | .build zs ps=>ones zs=true/\B7 R t H d (mQ t zs ps)
 | .cq k ps=>J2 R t H d k dr (ps.map (od t))
 | .ld n ag x=>rh R t H d n ag (od t x)
 | .st n x y=>Ce R (a9 t d (.v undef)) H n (od t x) (od t y)
 | .fa off x=>oV R t H d off (od t x)
 | .lA off n ag x=>Cb R t H d off n ag (od t x)
 | .ia k x i=>rf R t H d k (od t x) (od t i)
 | .jt n k x i=>oW R t H d n k (od t x) (od t i)
 | .ix x i=>Cc R t H d (od t x) (od t i)
 | .len st x=>kO R t H d (lenV H st (od t x))
 | .lE n=>R (a9 t d (.i n)) H
 | .bin op wr x y=>kO R t H d (oA op wr (od t x) (od t y))
 | .eqs ne ls x y=>kO R t H d (uI ne ls (od t x) (od t y))
 | .lr ne x y=>kO R t H d (uH ne (od t x) (od t y))
 | .lu ne c x y=>kO R t H d (mP ne c (od t x) (od t y))
 | .lx ne x y=>kO R t H d (jX ne (od t x) (od t y))
 | .un op x=>kO R t H d (pq op (od t x))
 | .lg k x=>kO R t H d (Bk k (od t x))
 | .lh x=>kO R t H d (qF (od t x))
 | .ext i x=>kO R t H d (uK i (od t x))
 | .pick c a b=>kO R t H d (Cy (od t c) (od t a) (od t b))
 | .app k aQ x y=>uX R t H d k aQ (od t x) (od t y)
 | .slc st k x lo hi mx=>j8 R dr t H d st k (od t x) lo hi mx
 | .lI ty x=>R (a9 t d (.aG ty (od t x))) H
 | .fnv f a b=>R (a9 t d (.fn f (a.map (od t)) (b.map (od t)))) H
 | .call _ _=>False
 | .gr _ _=>False
 | .raw _ _=>False
section
variable {P:Program} {R:List AV->AH->Prop} {dr:Bool} {t:List AV} {H:AH} {d:Option Nat}
theorem gI {x:Option (Prop×AV)} (h:kO R t H d x):∃p r,x=some (p,r)/\p/\R (a9 t d r) H:=by
 unfold kO at h;split at h
 ·rename_i p r;exact⟨p,r,rfl,h.1,h.2⟩
 ·exact h.elim
theorem Qe {H:AH} {bx:List (List AV)} {st:Bool} {x:AV}:lenV ⟨H.box++bx,H.buf⟩ st x=lenV H st x:=by
 cases x with
 | v y=>cases y<;>rfl
 | _=>rfl
theorem ahg {H:AH} {bx:List (List AV)} {k:Nat} {lo hi:Int} {x:AV}:kr ⟨H.box++bx,H.buf⟩ k lo hi x=kr H k lo hi x:=by
 cases x with
 | v y=>cases y<;>rfl
 | _=>rfl
theorem P3 {H:AH} {bx:List (List AV)} {st:Bool} {k:Nat} {x:AV} {lo hi mx:Option Od}:fL t ⟨H.box++bx,H.buf⟩ st k x lo hi mx=fL t H st k x lo hi mx:=by
 unfold fL;simp only[Qe,ahg]
theorem In {o:SO} (h:aM R dr t H d o):∃r H',ES P dr o t H r H'/\R (a9 t d r) H':=by
 cases o with
 | gS x=>exact⟨_,_,dc λ_=>ajG x,h⟩
 | box x=>exact⟨_,_,Ru rfl (λbuf=>ai3 (H:=⟨H.box,buf⟩) h.1),h.2⟩
 | alloc zs=>exact⟨_,_,Ru rfl (λbuf=>agL (H:=⟨H.box,buf⟩) h.1),h.2⟩
 | build zs ps=>
   obtain⟨h1,h⟩:=h;unfold B7 at h;split at h
   ·rename_i cs hc;exact⟨_,_,dc λ_=>agM h1 hc,h⟩
   ·exact h.elim
 | cq k ps=>
   simp only[aM,J2]at h;cases dr with
   | true=>
     simp only[if_true,J5]at h;exact⟨_,_,dc λ_=>Qs h.1,h.2⟩
   | false=>
     simp only[Bool.false_eq_true,if_false,J4,J3]at h;have hl:(bC H ((ps.map (od t)).flatMap owns)).buf.length=H.buf.length:=by
      have:∀(ts:List Nat) (b:List Buf),(ts.foldl dt b).length=b.length:=λts=>by
       induction ts with
       | nil=>intro b;rfl
       | cons x ts ih=>intro b;simp only[List.foldl_cons];rw[ih];simp[dt]
      exact this _ _
     rw[hl]at h;exact⟨_,_,An rfl (Ry h.1),h.2⟩
 | ld n ag x=>
   simp only[aM,rh]at h;split at h
   ·rename_i b o e;refine⟨_,_,gf rfl (λbx=>?_),h.2⟩;have h1:=h.1;have hl:=Pu (P:=P) (H:=⟨H.box++bx,H.buf⟩) (n:=n) (ag:=ag) e;by_cases hb:b<H.box.length
    ·have eb:(H.box++bx).getD b []=H.box.getD b []:=by simp[List.getD,List.getElem?_append_left hb]
     simp only[eb]at hl;exact hl h1
    ·have eb:H.box.getD b []=[]:=by simp[List.getD,List.getElem?_eq_none (Nat.le_of_not_lt hb)]
     rw[eb]at h1 ⊢;have:n=0:=by simp at h1;omega
     subst this;simpa using hl (by simp at h1 ⊢;omega)
   ·rename_i cs e;exact⟨_,_,gf rfl (λbx=>afc e h.1),h.2⟩
   ·rename_i u k i o e;unfold Cd at h;split at h
    ·rename_i k' xs hb;obtain⟨rfl,h1,h2,h3⟩:=h;exact⟨_,_,gf rfl (λbx=>OQ e (.inl hb) h1 (List.getElem?_eq_getElem h2)),h3 _ (List.getElem?_eq_getElem h2)⟩
    ·rename_i k' xs hb;obtain⟨rfl,h1,h2,h3⟩:=h;exact⟨_,_,gf rfl (λbx=>OQ e (.inr hb) h1 (List.getElem?_eq_getElem h2)),h3 _ (List.getElem?_eq_getElem h2)⟩
    ·exact h.elim
    ·exact h.elim
   ·exact h.elim
 | st n x y=>
   simp only[aM,Ce]at h;split at h
   ·rename_i b o _ e;exact⟨_,_,gZ rfl (Pv e h.1 h.2.1 h.2.2.1),h.2.2.2⟩
   ·rename_i u k i o _ e;unfold J7 at h;split at h
    ·rename_i k' xs hb;obtain⟨rfl,h1,h2,h3,h4,h5,h6,h7⟩:=h;exact⟨_,_,gZ rfl (OT e hb h2 h3 h4 h1 h5 (List.getElem?_eq_getElem h6)),h7 _ (List.getElem?_eq_getElem h6)⟩
    ·exact h.elim
   ·exact h.elim
 | fa off x=>
   simp only[aM,oV]at h;split at h
   ·rename_i e;exact⟨_,_,dc λ_=>afy e,h⟩
   ·rename_i e;exact⟨_,_,dc λ_=>ae7 e h.1,h.2⟩
   ·rename_i e;exact⟨_,_,dc λ_=>ae8 e,h⟩
   ·exact h.elim
 | lA off n ag x=>
   simp only[aM,Cb]at h;split at h
   ·rename_i e;exact⟨_,_,dc λ_=>ajB e h.1,h.2⟩
   ·exact h.elim
 | ia k x i=>
   simp only[aM,rf]at h;split at h
   ·rename_i k' xs ik n e1 e2;obtain⟨rfl,h0,h1,h2⟩:=h;have hlt:n.toNat<xs.length:=by omega
    exact⟨_,_,gf rfl (λbx=>agN e1 e2 h0 h1 (List.getElem?_eq_getElem hlt)),h2 _ (List.getElem?_eq_getElem hlt)⟩
   ·rename_i u ik n e1 e2;unfold vd at h;split at h
    ·rename_i k' xs hb;obtain⟨rfl,h0,h1,h2⟩:=h;exact⟨_,_,gf rfl (λbx=>afa e1 hb e2 h0 h1),h2⟩
    ·rename_i k' xs hb;obtain⟨rfl,h0,h1,h2⟩:=h;have hlt:n.toNat<xs.length:=by omega
     exact⟨_,_,gf rfl (λbx=>ae9 e1 hb e2 h0 h1 (List.getElem?_eq_getElem hlt)),h2 _ (List.getElem?_eq_getElem hlt)⟩
    ·exact h.elim
    ·exact h.elim
   ·rename_i b o m k' ik n e1 e2;obtain⟨rfl,h0,h1,h2⟩:=h;exact⟨_,_,gf rfl (λbx=>afz e1 e2 h0 h1),h2⟩
   ·exact h.elim
 | jt m k x i=>
   simp only[aM,oW]at h;split at h
   ·rename_i b o ik n e1 e2;exact⟨_,_,gf rfl (λbx=>afb e1 e2 h.1 h.2.1),h.2.2⟩
   ·rename_i cs ik n e1 e2;exact⟨_,_,gf rfl (λbx=>OC e1 e2 h.1 h.2.1 h.2.2.1),h.2.2.2⟩
   ·exact h.elim
 | ix x i=>
   simp only[aM,Cc]at h;split at h
   ·rename_i s ik n e1 e2;have hlt:n.toNat<s.data.toList.length:=by have:=h.1;have:=h.2.1;omega
    exact⟨_,_,dc λ_=>WH e1 e2 h.1 (List.getElem?_eq_getElem hlt),h.2.2 _ (List.getElem?_eq_getElem hlt)⟩
   ·exact h.elim
 | len st x=>obtain⟨p,r,e,hp,hr⟩:=gI h;exact⟨_,_,gf rfl (λbx=>ajD (by rw[Qe];exact e)),hr⟩
 | lE n=>exact⟨_,_,dc λ_=>ah0,h⟩
 | bin op wr x y=>obtain⟨p,r,e,hp,hr⟩:=gI h;exact⟨_,_,dc λ_=>ai2 e hp,hr⟩
 | eqs ne ls x y=>obtain⟨p,r,e,hp,hr⟩:=gI h;exact⟨_,_,dc λ_=>ajb e,hr⟩
 | lr ne x y=>obtain⟨p,r,e,hp,hr⟩:=gI h;exact⟨_,_,dc λ_=>ai8 e,hr⟩
 | lu ne c x y=>obtain⟨p,r,e,hp,hr⟩:=gI h;exact⟨_,_,dc λ_=>ai9 e,hr⟩
 | lx ne x y=>obtain⟨p,r,e,hp,hr⟩:=gI h;exact⟨_,_,dc λ_=>aja e,hr⟩
 | un op x=>obtain⟨p,r,e,hp,hr⟩:=gI h;exact⟨_,_,dc λ_=>WI e hp,hr⟩
 | lg k x=>obtain⟨p,r,e,hp,hr⟩:=gI h;exact⟨_,_,dc λ_=>ai5 e,hr⟩
 | lh x=>obtain⟨p,r,e,hp,hr⟩:=gI h;exact⟨_,_,dc λ_=>ai6 e,hr⟩
 | ext i x=>obtain⟨p,r,e,hp,hr⟩:=gI h;exact⟨_,_,dc λ_=>ajA e hp,hr⟩
 | pick c a b=>obtain⟨p,r,e,hp,hr⟩:=gI h;exact⟨_,_,dc λ_=>ah3 e,hr⟩
 | app k aQ x y=>
   simp only[aM,uX]at h;split at h
   ·rename_i e;unfold mZ at h;split at h
    ·rename_i ys hs;refine⟨_,_,gZ rfl (ae5 e hs (by simpa using h.1) (by simpa using h.2.1)),?_⟩;simpa using h.2.2
    ·exact h.elim
   ·rename_i u e;unfold B6 at h;split at h
    ·rename_i k' xs hb;obtain⟨rfl,h⟩:=h;unfold mZ at h;split at h
     ·rename_i ys hs;exact⟨_,_,gZ rfl (ae6 e hb hs h.1 h.2.1),h.2.2⟩
     ·exact h.elim
    ·exact h.elim
   ·exact h.elim
 | slc st k x lo hi mx=>
   simp only[aM,j8]at h;split at h
   ·rename_i u eu;unfold vf at h;split at h
    ·obtain⟨hd,h⟩:=h;obtain⟨p,r,e,hp,hr⟩:=gI h;rw[<- eu]at e;exact⟨_,_,An hd (λwr oc hc=>iY.cj [u] (Ix e hp wr oc hc)),hr⟩
    ·obtain⟨p,r,e,hp,hr⟩:=gI h;rw[<- eu]at e;exact⟨_,_,gf rfl (λbx=>Ix (by rw[P3];exact e) hp),hr⟩
   ·obtain⟨p,r,e,hp,hr⟩:=gI h;exact⟨_,_,gf rfl (λbx=>Ix (by rw[P3];exact e) hp),hr⟩
 | lI ty x=>exact⟨_,_,dc λ_=>RC,h⟩
 | fnv f a b=>exact⟨_,_,dc λ_=>ajC,h⟩
 | call f as=>exact h.elim
 | gr x as=>exact h.elim
 | raw o ty=>exact h.elim
end
end
def Enters (P:Program) (f:FuncId):Prop:=∃fn,P.funcs[f]?=some fn/\(fn.name == "runtime.NumGoroutine")=false/\fn.body.isNone=false
theorem zL {P:Program} {f:FuncId} (h:Enters P f) (args:Array Value) (w:World):(callFunc f args).run P w=.ok (.enter f args) w:=by
 obtain⟨fn,h1,h2,h3⟩:=h;unfold callFunc;simp only[Sem.run_bind,run_program,Result.andThen_ok,h1,h2,h3,Bool.false_eq_true,if_false,Sem.run_pure]
theorem GW {P:Program} {oc:Oper} {t:List AV} {H H':AH} {f:FuncId} {as:List AV} {e:AE} (hc:bQ P f as H e H')
 (h:∀M S w (a:Act),(∀x∈oc.op.operands,am M S w (a.eval x) (od t (ak x)))->aE M S H w->∃vs,(execOp a.eval oc).run P w=.ok (.enter f vs) w/\vs.size=as.length/\∀i,i<as.length->am M S w (vs.getD i undef) (as.getD i .any)):iY P oc t H e H':=by
 intro M S w a hx hh hp K Q hK;obtain⟨vs,hr,h1,h2⟩:=h M S w a hx hh;unfold Oper.wp;rw[hr,Oper.upon_enter];refine(hc M S w vs hh hp h1 h2).mono λen w' ⟨M',S',he,hh',hf⟩=>?_;have:=hK M' S';cases en with
 | returned v=>
   cases e with
   | ret r=>exact this v w' hh' hf he
   | bS r=>exact he.elim
 | panicked ch=>
   cases e with
   | ret r=>exact he.elim
   | bS r=>
     obtain⟨v,rfl,hv⟩:=he;exact this v w' hh' hf hv
 | outgrown=>cases e<;>exact he.elim
theorem Qt {P:Program} {t:List AV} {H H':AH} {f:FuncId} {as:List Od} {e:AE} (hen:Enters P f) (hc:bQ P f (as.map (od t)) H e H'):OS P (.call f as) t H e H':=by
 intro wr oc h;obtain⟨args,ts,rfl,hop⟩:=P9 h;refine GW hc λM S w a hx hh=>⟨args.map a.eval,?_,?_⟩
 ·simp only[execOp,hop,resolve,Act.eval,Deferred.ofValue,invoke,Sem.run_bind,Sem.run_pure,Result.andThen_ok,Array.empty_append,Array.append_empty];exact zL hen _ w
 ·exact pZ λz hz=>hx z (by simp[hop,Op.operands,Call.operands,hz])
theorem Rw {M S w v f as bs} (h:am M S w v (.fn f as bs)):∃vs us,v=.func f vs us/\vs.size=as.length/\us.size=bs.length/\(∀i,i<as.length->am M S w (vs.getD i undef) (as.getD i .any))/\∀i,i<bs.length->am M S w (us.getD i undef) (bs.getD i .any):=by
 cases h with
 | data h=>cases h with|fn f vs us as bs hn hm h h'=>exact⟨vs,us,rfl,hn,hm,λi hi=>.data (h i hi),λi hi=>.data (h' i hi)⟩
 | fn f vs us as bs hn hm h h'=>exact⟨vs,us,rfl,hn,hm,h,h'⟩
theorem OE {M S w} {vs us:Array Value} {as bs:List AV} (h1:vs.size=as.length/\∀i,i<as.length->am M S w (vs.getD i undef) (as.getD i .any)) (h2:us.size=bs.length/\∀i,i<bs.length->am M S w (us.getD i undef) (bs.getD i .any)):
 (vs++us).size=(as++bs).length/\∀i,i<(as++bs).length->am M S w ((vs++us).getD i undef) ((as++bs).getD i .any):=by
 refine⟨by simp[h1.1,h2.1],λi hi=>?_⟩;rw[ma,ir,Array.getElem?_append];rw[List.length_append]at hi;by_cases h:i<as.length
 ·rw[if_pos h,if_pos (by rw[h1.1];exact h),<- ir];exact h1.2 i h
 ·rw[if_neg h,if_neg (by rw[h1.1];exact h),<- ir,h1.1];exact h2.2 _ (by omega)
theorem OP {P:Program} {t:List AV} {H H':AH} {f:FuncId} {oc:Oper} {y:Operand} {args:Array Operand} {ts:Array TypeId} (hop:oc.op=.call { callee:=.value y,args:=args,argTypes:=ts }) {fs cs:List AV} {e:AE} (hx':od t (ak y)=.fn (.func f) fs cs) (hen:Enters P f) (hc:bQ P f (fs++(args.toList.map ak).map (od t)++cs) H e H'):iY P oc t H e H':=by
 refine GW hc λM S w a hx hh=>?_;have hr:=hx y (by simp[hop,Op.operands,Call.operands]);rw[hx']at hr;obtain⟨vs,us,hv,hn,hm,h1,h2⟩:=Rw hr;have hargs:=pZ (t:=t) (a:=a) (xs:=args) (M:=M) (S:=S) (w:=w) λz hz=>hx z (by simp[hop,Op.operands,Call.operands,hz]);refine⟨vs++args.map a.eval++us,?_,OE (OE ⟨hn,h1⟩ hargs) ⟨hm,h2⟩⟩;simp only[execOp,hop,resolve,hv,Deferred.ofValue,invoke,Sem.run_bind,Sem.run_pure,Result.andThen_ok];exact zL hen _ w
theorem PW {P:Program} {t:List AV} {H H':AH} {f:FuncId} {x:Od} {as:List Od} {fs cs:List AV} {e:AE} (hx':od t x=.fn (.func f) fs cs) (hen:Enters P f) (hc:bQ P f (fs++as.map (od t)++cs) H e H'):OS P (.gr x as) t H e H':=by
 intro wr oc h;obtain⟨y,args,ts,rfl,rfl,hop⟩:=agc h;exact OP hop hx' hen hc
theorem OR {P:Program} {t:List AV} {H H':AH} {f:FuncId} {y:Operand} {args:Array Operand} {ts:Array TypeId} {ty:TypeId} {fs cs:List AV} {e:AE} (hx':od t (ak y)=.fn (.func f) fs cs) (hen:Enters P f) (hc:bQ P f (fs++(args.toList.map ak).map (od t)++cs) H e H'):OS P (.raw (.call ⟨.value y,args,ts⟩) ty) t H e H':=by
 intro wr oc h;obtain⟨h1,h2⟩:=jK h;exact OP h1 hx' hen hc
def wu (X:Ctx) (dr:Bool) (d:Option Nat) (f:FuncId) (args:List AV) (l:List SL) (k:List SI) (t:List AV) (H:AH):Prop:=Enters X.P f/\((∃r H',bQ X.P f args H (.ret r) H'/\(dr=true->H'=H/\∀H0,bQ X.P f args H0 (.ret r) H0)/\go X (.ops dr l::k) (a9 t d r) H')\/(dr=false/\∃r H',bQ X.P f args H (.bS r) H'/\X.Q t (.bS r) H'))
def rM (X:Ctx) (dr:Bool) (d:Option Nat) (o:SO) (l:List SL) (k:List SI) (t:List AV) (H:AH):Prop:=(∃r H',ES X.P dr o t H r H'/\go X (.ops dr l::k) (a9 t d r) H')\/(dr=false/\∃r H',OS X.P o t H (.bS r) H'/\X.Q t (.bS r) H')\/(dr=false/\∃ps,qt X.P o t H ps/\∀p∈ps,p.1->go X (.ops dr l::k) (a9 t d p.2) H)
def B8 (X:Ctx) (dr:Bool) (d:Option Nat) (args:List AV) (l:List SL) (k:List SI) (t:List AV) (H:AH):AV->Prop
 | .fn (.func f) fs cs=>wu X dr d f (fs++args++cs) l k t H
 | _=>False
def oX (t:List AV):List SP->List AV
 | []=>t
 | s::l=>oX (a9 t s.d (.v undef)) l
def SP.sl (s:SP):SL:=.op s.d s.o
def uZ (R1 R2:Prop) (w:Bool):AV->Prop
 | .v (.bool b)=>(b=w->R1)/\(b≠w->R2)
 | .v (.tuple _)=>R2
 | _=>False
def B9 (R1 R2:Prop):AV->Prop
 | .v (.bool b)=>(b=true->R1)/\(b=false->R2)
 | _=>False
def ez (id:Nat):List SI->Option (List SI)
 | .blk id'::k=>if id'==id then some k else ez id k
 | _::k=>ez id k
 | []=>none
def Ca (R:List SI->List AV->AH->Prop) (t:List AV) (H:AH):Option (List SI)->Prop
 | some k=>R k t H
 | none=>False
def m6 (X:Ctx) (t:List AV) (H:AH):Option (Prop×List AV)->Prop
 | some (p,l)=>p/\X.Q t (.ret (f5 l)) H
 | none=>False
def run:Nat->Ctx->List SI->List AV->AH->Prop
 | 0,X,k,t,H=>go X k t H
 | _+1,X,[],t,H=>m6 X t H (resV t H X.res)
 | n+1,X,.c .skip::k,t,H=>run n X k t H
 | n+1,X,.c (.ops d l)::k,t,H=>run n X (.ops d l::k) t H
 | n+1,X,.c (.priv l bs)::k,t,H=>run n X (.ops true l::.pv bs::k) t H
 | n+1,X,.c (.alts (some l) _)::k,t,H=>run n X (.ops true l::k) t H
 | _+1,_,.c (.alts none _)::_,_,_=>False
 | n+1,X,.pv bs::k,t,H=>nq t bs/\run n X k (jy t H.box.length bs) (lO t H bs)
 | n+1,X,.c (.seq a b)::k,t,H=>run n X (.c a::.c b::k) t H
 | n+1,X,.c (.cond x a b)::k,t,H=>B9 (run n X (.c a::k) t H) (run n X (.c b::k) t H) (od t x)
 | n+1,X,.c (.block id b)::k,t,H=>run n X (.c b::.blk id::k) t H
 | _+1,X,.c (.loop b)::k,t,H=>go X (.lp b::k) t H
 | n+1,X,.c (.exit id)::k,t,H=>Ca (run n X) t H (ez id k)
 | _+1,X,.c .ret::_,t,H=>m6 X t H (resV t H X.res)
 | n+1,X,.blk _::k,t,H=>run n X k t H
 | n+1,X,.c (.scope b)::k,t,H=>run n X (.c b::.scp::k) t H
 | n+1,X,.scp::k,t,H=>run n X k t H
 | _+1,X,.lp b::k,t,H=>go X (.lp b::k) t H
 | _+1,_,.c .bad::_,_,_=>False
 | n+1,X,.ops _ []::k,t,H=>run n X k t H
 | n+1,X,.ops dr (.grp j w l1::l)::k,t,H=>uZ (run n X (.ops dr (l1.map SP.sl++l)::k) t H) (run n X (.ops dr l::k) (oX t l1) H) w (t.getD j .any)
 | _+1,X,.ops dr (.op d (.call f as)::l)::k,t,H=>wu X dr d f (as.map (od t)) l k t H\/rM X dr d (.call f as) l k t H
 | _+1,X,.ops dr (.op d (.raw o ty)::l)::k,t,H=>rM X dr d (.raw o ty) l k t H
 | _+1,X,.ops dr (.op d (.gr x as)::l)::k,t,H=>B8 X dr d (as.map (od t)) l k t H (od t x)
 | n+1,X,.ops dr (.op d o::l)::k,t,H=>aM (run n X (.ops dr l::k)) dr t H d o
section
def ot (X:Ctx) (dr:Bool) (F:List AV->AH->Prop):List FE->List AV->AH->Prop
 | [],t,H=>F t H
 | x::l,t,H=>(act t x.g=some true/\∃r H',ES X.P dr x.o t H r H'/\ot X dr F l (a9 t x.d r) H')\/(act t x.g=some false/\ot X dr F l (a9 t x.d (.v undef)) H)\/
   (dr=false/\act t x.g=some true/\∃r H',OS X.P x.o t H (.bS r) H'/\X.Q t (.bS r) H')\/
   (dr=false/\act t x.g=some true/\∃ps,qt X.P x.o t H ps/\∀p∈ps,p.1->ot X dr F l (a9 t x.d p.2) H)
structure kT (X:Ctx) (F:List AV->AH->Prop) (D:List (Nat×Nat)) (fl:List FE) (ts:Nat->List AV) (H:AH):Prop where
 step:∀(i:Nat) (x:FE),fl[i]?=some x->x.main D=true->
  (act (ts i) x.g=some true/\∃r,ES X.P true x.o (ts i) H r H/\ts (i+1)=a9 (ts i) x.d r)\/(act (ts i) x.g=some false/\ts (i+1)=a9 (ts i) x.d (.v undef))
 skip:∀(i:Nat) (x:FE),fl[i]?=some x->x.main D=false->ts (i+1)=ts i
 last:F (ts fl.length) H
theorem AR {X:Ctx} {F:List AV->AH->Prop} {D:List (Nat×Nat)}:∀(fl:List FE) (t:List AV) (H:AH),(∀x∈fl,x.main D=true->x.o.acts=false)->ot X true F (fl.filter (FE.main D)) t H->∃ts,kT X F D fl ts H/\ts 0=t
 | [],t,H,_,h=>⟨λ_=>t,⟨λi x hx=>by simp at hx,λi x hx=>by simp at hx,h⟩,rfl⟩
 | x::fl,t,H,ha,h=>by
   have ha':∀x∈fl,x.main D=true->x.o.acts=false:=λy hy=>ha y (List.mem_cons_of_mem _ hy)
   cases hm:x.main D with
   | false=>
     rw[List.filter_cons_of_neg (by simp[hm])]at h;obtain⟨ts,tr,h0⟩:=AR fl t H ha' h;refine⟨λn=>match n with|0=>t|n+1=>ts n,⟨λi y hy hym=>?_,λi y hy hym=>?_,tr.last⟩,rfl⟩
     ·cases i with
      | zero=>simp at hy;subst hy;rw[hm]at hym;cases hym
      | succ i=>exact tr.step i y (by simpa using hy) hym
     ·cases i with
      | zero=>exact h0
      | succ i=>exact tr.skip i y (by simpa using hy) hym
   | true=>
     rw[List.filter_cons_of_pos (by simp[hm])]at h;have hac:=ha x (List.mem_cons_self ..) hm;rcases h with⟨hg,r,H',hes,hch⟩|⟨hg,hch⟩|⟨h0,_⟩|⟨h0,_⟩
     ·have hH:H'=H:=(hes.2 rfl).1 hac;subst hH;obtain⟨ts,tr,h0⟩:=AR fl _ _ ha' hch;refine⟨λn=>match n with|0=>t|n+1=>ts n,⟨λi y hy hym=>?_,λi y hy hym=>?_,tr.last⟩,rfl⟩
      ·cases i with
       | zero=>simp at hy;subst hy;exact .inl ⟨hg,r,hes,h0⟩
       | succ i=>exact tr.step i y (by simpa using hy) hym
      ·cases i with
       | zero=>simp at hy;subst hy;rw[hm]at hym;cases hym
       | succ i=>exact tr.skip i y (by simpa using hy) hym
     ·obtain⟨ts,tr,h0⟩:=AR fl _ _ ha' hch;refine⟨λn=>match n with|0=>t|n+1=>ts n,⟨λi y hy hym=>?_,λi y hy hym=>?_,tr.last⟩,rfl⟩
      ·cases i with
       | zero=>simp at hy;subst hy;exact .inr ⟨hg,h0⟩
       | succ i=>exact tr.step i y (by simpa using hy) hym
      ·cases i with
       | zero=>simp at hy;subst hy;rw[hm]at hym;cases hym
       | succ i=>exact tr.skip i y (by simpa using hy) hym
     ·cases h0
     ·cases h0
section
variable {X:Ctx} {F:List AV->AH->Prop} {D:List (Nat×Nat)} {fl:List FE} {ts:Nat->List AV} {H:AH} (tr:kT X F D fl ts H)
include tr
theorem kT.Kp (i:Nat) (hi:i<fl.length):∃d r,ts (i+1)=a9 (ts i) d r/\(∀m,d=some m->fl[i].d=some m/\fl[i].main D=true):=by
 have hx:=List.getElem?_eq_getElem hi;cases hm:fl[i].main D with
 | false=>exact⟨none,.any,tr.skip i _ hx hm,λm h=>by cases h⟩
 | true=>rcases tr.step i _ hx hm with⟨_,r,_,e⟩|⟨_,e⟩<;>exact⟨_,_,e,λm h=>⟨h,rfl⟩⟩
theorem kT.len (n:Nat) (hn:n<=fl.length):(ts n).length=(ts 0).length:=by
 induction n with
 | zero=>rfl
 | succ n ih=>
   obtain⟨d,r,e,_⟩:=tr.Kp n (by omega);rw[e,<- ih (by omega)];cases d<;>simp[a9]
theorem kT.same (y c:Nat):∀n,c+n<=fl.length->(∀j x,c<=j->j<c+n->fl[j]?=some x->x.d≠some y)->(ts (c+n)).getD y .any=(ts c).getD y .any
 | 0,_,_=>rfl
 | n+1,hle,h=>by
   have hlt:c+n<fl.length:=by omega
   have hx:=List.getElem?_eq_getElem hlt;have hne:=h (c+n) _ (by omega) (by omega) hx;rw[<- kT.same y c n (by omega) λj x h1 h2=>h j x h1 (by omega)];obtain⟨d,r,e,hd⟩:=tr.Kp (c+n) hlt;rw[show c+(n+1)=c+n+1 by omega,e,z9];intro hdy;exact hne (hd y hdy).1
theorem kT.same' (y:Nat) {c i:Nat} (hc:c<=fl.length) (hi:i<=fl.length) (h:∀j x,fl[j]?=some x->x.d=some y->¬(c<=j/\j<i)/\¬(i<=j/\j<c)):(ts c).getD y .any=(ts i).getD y .any:=by
 rcases Nat.le_total c i with hle|hle
 ·obtain⟨n,rfl⟩:∃n,i=c+n:=⟨i-c,by omega⟩
  exact(tr.same y c n hi λj x h1 h2 hx hd=>(h j x hx hd).1 ⟨h1,h2⟩).symm
 ·obtain⟨n,rfl⟩:∃n,c=i+n:=⟨c-i,by omega⟩
  exact tr.same y i n hc λj x h1 h2 hx hd=>(h j x hx hd).2 ⟨h1,h2⟩
end
structure IE (ops:Array Oper) (fl:List FE) (D:List (Nat×Nat)):Prop where
 down:∀(i:Nat) o,ops.toList[i]?=some o->∀e∈o.after.toList,Region.binds .any e=true->e.on<i
 tmps:∀(i j:Nat) x y,ops.toList[i]?=some x->ops.toList[j]?=some y->i<j->x.apart ops y=false->ip ops.toList y i
 mem:∀(i:Nat) x p,fl[i]?=some x->x.al=some p->p∈D
 nd:∀(i j:Nat) x y d n m,fl[i]?=some x->fl[j]?=some y->x.al=some (d,n)->y.al=some (d,m)->i=j
 ex:∀p∈D,∃(i:Nat) (x:FE),fl[i]?=some x/\x.al=some p
 main:∀(i:Nat) x,fl[i]?=some x->x.main D=true->x.o.acts=false/\∀p∈D,x.d≠some p.1
 look:∀(i:Nat) x o,fl[i]?=some x->ops[i]?=some o->x.main D=true->∀p∈D,p.1 ∉ o.looksAt ops
 sty:∀(j:Nat) x d n y,fl[j]?=some x->x.st1 D=some (d,n,y)->(∀p∈D,y.oU p.1=false)/\∀(i:Nat) z m,fl[i]?=some z->z.d=some m->(y.oU m=true\/m=d)->i<j
 sd:∀(i j:Nat) x y d n m u v,fl[i]?=some x->fl[j]?=some y->x.st1 D=some (d,n,u)->y.st1 D=some (d,m,v)->i=j
structure AZ (X:Ctx) (D:List (Nat×Nat)) (fl:List FE) (ts:Nat->List AV) (H:AH) (M0:Maps) (S0:Nat->Prop) (w0:World) (listed:Array Bool) (M:Maps) (S:Nat->Prop) (a:Act) (w:World) (G:Nat->Nat):Prop where
 bK:a.defers=X.bK
 size:a.tmps.size=(ts 0).length
 slot:∀y,y<(ts 0).length->(∀p∈D,p.1≠y)->∃c,c<=fl.length/\(∀(j:Nat) x,fl[j]?=some x->x.d=some y->(lst listed j↔j<c))/\am M S w (a.tmps.getD y undef) ((ts c).getD y .any)
 rel:aE M S H w
 fh:aU M0 S0 X.aI w0 M S H w
 al:∀(i:Nat) x d n,fl[i]?=some x->x.al=some (d,n)->lst listed i->d<(ts 0).length->
  a.tmps.getD d undef=.pointer (some ⟨G d,0,none⟩)/\w0.heap.size<=G d/\¬S (G d)/\¬foot M H (G d)/\∃c T,w.heap[G d]?=some (.cells c T (0,0))/\c.size=n/\
   ∀(j:Nat) z n' y,fl[j]?=some z->z.st1 D=some (d,n',y)->lst listed j->∀k,k<n->am M S w (c.getD k undef) ((od (ts fl.length) y).cells.getD k .any)
 dist:∀(i:Nat) x d n (i':Nat) x' d' n',fl[i]?=some x->x.al=some (d,n)->lst listed i->fl[i']?=some x'->x'.al=some (d',n')->lst listed i'->d<(ts 0).length->d'<(ts 0).length->d≠d'->G d≠G d'
theorem Qm {x:FE} {d n:Nat} (h:x.al=some (d,n)):∃zs,x=⟨none,some d,.alloc zs⟩/\ones zs=true/\zs.length=n:=by
 unfold FE.al at h;split at h
 ·rename_i d' zs h1 h2 h3;split at h
  ·rename_i ho;cases h;obtain⟨g,d',o⟩:=x;simp only at h1 h2 h3;subst h1 h2 h3;exact⟨zs,rfl,ho,rfl⟩
  ·cases h
 ·cases h
theorem Ht {D:List (Nat×Nat)} {x:FE} {d n:Nat} {y:Od} (h:x.st1 D=some (d,n,y)):x=⟨none,none,.st n (.t d) y⟩/\(d,n)∈D:=by
 unfold FE.st1 at h;split at h
 ·rename_i n' d' y' h1 h2 h3;split at h
  ·rename_i ho;cases h;obtain⟨g,d',o⟩:=x;simp only at h1 h2 h3;subst h1 h2 h3;exact⟨rfl,by simpa using ho⟩
  ·cases h
 ·cases h
theorem aU.beside {M0:Maps} {S0:Nat->Prop} {aI:AH} {w0:World} {M:Maps} {S:Nat->Prop} {H:AH} {w w':World} (h:aU M0 S0 aI w0 M S H w) (g:Nat) (hg:w0.heap.size<=g) (hS:¬S g) (ho:w'.os=w.os) (ht:w'.tape=w.tape) (hu:w'.output=w.output) (hz:w'.heap.size=w.heap.size) (hw:∀i,i≠g->w'.heap[i]?=w.heap[i]?):aU M0 S0 aI w0 M S H w' where
 gW:=h.gW
 gX:=h.gX
 os:=ho.trans h.os
 tape:=ht.trans h.tape
 output:=hu.trans h.output
 size:=by rw[hz];exact h.size
 sub:=h.sub
 cv:=λi hi=>(hw i λe=>hS (e▸h.sub i hi)).trans (h.cv i hi)
 old:=λi hi hf=>(hw i (by omega)).trans (h.old i hi hf)
 le:=h.le
 news:=h.news
 eG:=h.eG
section
variable {X:Ctx} {F:List AV->AH->Prop} {D:List (Nat×Nat)} {k:List SI} {fl:List FE} {ts:Nat->List AV} {H:AH} (tr:kT X F D fl ts H) {ops:Array Oper} {wr:WR}
 (hl:∀(i:Nat) o,ops[i]?=some o->∃x,fl[i]?=some x/\ey X.P wr ops o=some x) (hn:fl.length=ops.size) (ok:IE ops fl D)
 (hB:∀(j:Nat) z d n y,fl[j]?=some z->z.st1 D=some (d,n,y)->d<(ts 0).length/\(od (ts fl.length) y).cells.length=n/\ones (od (ts fl.length) y).cells=true)
 {M0:Maps} {S0:Nat->Prop} {w0:World} {k0:List Item} {b:Frame}
include tr hl hn ok hB
theorem afZ (hp0:cY X.P M0 X.aI w0) (hR:∀(listed:Array Bool) M S a w G,(∀j,j<ops.size->lst listed j)->AZ X D fl ts H M0 S0 w0 listed M S a w G->RQ X b k0 (Post X.Q X.aI M0 S0 w0) .normal a w):∀(fuel:Nat) (listed:Array Bool) (M:Maps) (S:Nat->Prop) (a:Act) (w:World) (G:Nat->Nat),listed.size=ops.size->
 (∀(j:Nat) o,ops[j]?=some o->lst listed j->∀e∈o.after.toList,Region.binds .any e=true->lst listed e.on)->
 (List.range ops.size).countP (λi=>!listed.getD i false)<=fuel->
 AZ X D fl ts H M0 S0 w0 listed M S a w G->wpAny X.P .any ops (λe a w=>RQ X b k0 (Post X.Q X.aI M0 S0 w0) e a w/\a.defers=X.bK) fuel listed a w:=by
 have fq:∀(i:Nat) o,ops[i]?=some o->ops.toList[i]?=some o:=λi o h=>by simpa using h
 intro fuel
 induction fuel with
 | zero=>
   intro listed M S a w G hsz hcl hcnt m;have hall:∀j,j<ops.size->lst listed j:=λj hj=>by
    have h0:=Nat.le_zero.1 hcnt;rw[List.countP_eq_zero]at h0;have:=h0 j (List.mem_range.2 hj);simpa[lst]using this
   refine⟨?_,hR listed M S a w G hall m,m.bK⟩;cases hr:Region.ready .any ops listed with
   | nil=>rfl
   | cons i l=>
     have hi:i∈Region.ready .any ops listed:=by rw[hr];simp
     obtain⟨hun,o,ho,_⟩:=mem_ready.1 hi;have hlt:i<ops.size:=(Array.getElem?_eq_some_iff.1 ho).1;have:=hall i hlt;simp[lst,Array.getD,hsz,hlt]at this hun;rw[this]at hun;cases hun
 | succ fuel ih=>
   intro listed M S a w G hsz hcl hcnt m;refine⟨λhr=>⟨hR listed M S a w G (λj hj=>?_) m,m.bK⟩,λi hi=>?_⟩
   ·induction j using Nat.strongRecOn with
    | ind j B1=>
      rcases h:listed.getD j true with _|_
      ·exfalso;have qT:j∈Region.ready .any ops listed:=by
        refine mem_ready.2 ⟨h,ops[j],Array.getElem?_eq_getElem hj,λe he hbi=>?_⟩;have hlt:=ok.down j ops[j] (fq j _ (Array.getElem?_eq_getElem hj)) e (by simpa using he) hbi;exact B1 e.on hlt (by omega)
       rw[hr]at qT;cases qT
      ·simp only[lst,Array.getD,hsz,hj,dite_true]at h ⊢;exact h
   ·obtain⟨hun,o,ho,hpre⟩:=mem_ready.1 hi;have hlt:i<ops.size:=(Array.getElem?_eq_some_iff.1 ho).1;have hlt':i<listed.size:=by omega
    have hnot:¬lst listed i:=by
     intro h;simp only[lst,Array.getD,hlt',dite_true]at h hun;rw[h]at hun;cases hun
    obtain⟨x,hx,hfe⟩:=hl i o ho;have hi:i<fl.length:=(List.getElem?_eq_some_iff.1 hx).1;obtain⟨hg,hop,hxd,_⟩:=kL hfe;have ahead:∀j,ip ops.toList o j->lst listed j:=λj h=>h (lst listed) (λj' x' hx' hj' e he hbi=>hcl j' x' (by simpa using hx') hj' e he hbi) (λe he hbi=>hpre e (by simpa using he) hbi)
    have behind:∀j y,ops[j]?=some y->ip ops.toList y i->¬lst listed j:=λj y hy h hj=>
     hnot (h (lst listed) (λj' x' hx' hj' e he hbi=>hcl j' x' (by simpa using hx') hj' e he hbi) (λe he hbi=>hcl j y hy hj e he hbi))
    have qL:∀(j:Nat) y,fl[j]?=some y->∃oj,ops[j]?=some oj/\y.d=oj.dst:=λj y hy=>by
     have hj:j<ops.size:=by have:=(List.getElem?_eq_some_iff.1 hy).1;omega
     obtain⟨y',hy',hfe'⟩:=hl j ops[j] (Array.getElem?_eq_getElem hj);rw[hy]at hy';cases hy';exact⟨ops[j],Array.getElem?_eq_getElem hj,(kL hfe').2.2.1⟩
    have cutAt:∀y,(y∈o.looksAt ops\/o.dst=some y)->∀(j:Nat) z,fl[j]?=some z->z.d=some y->j≠i->(lst listed j↔j<i):=by
     intro y hy j z hz hzd hne;obtain⟨oj,hoj,hdj⟩:=qL j z hz;have hdj':oj.dst=some y:=by rw[<- hdj];exact hzd
     rcases Nat.lt_or_ge j i with hji|hij
     ·refine⟨λ_=>hji,λ_=>ahead j (ok.tmps j i oj o (fq j _ hoj) (fq i _ ho) hji ?_)⟩;rcases hy with hy|hy
      ·simp[Oper.apart,hdj',hy]
      ·simp[Oper.apart,hdj',hy]
     ·have hij:i<j:=by omega
      refine⟨λh=>absurd h (behind j oj hoj (ok.tmps i j o oj (fq i _ ho) (fq j _ hoj) hij ?_)),λh=>by omega⟩;rcases hy with hy|hy
      ·have:(o.looksAt ops).contains y=true:=by simpa using hy
       cases hod:o.dst<;>simp[Oper.apart,hdj',hod,hy]
      ·simp[Oper.apart,hdj',hy]
    have rA:∀y,y<(ts 0).length->(∀p∈D,p.1≠y)->y∈o.looksAt ops->am M S w (a.tmps.getD y undef) ((ts i).getD y .any):=by
     intro y hy js hlook;obtain⟨c,hc,hcut,hv⟩:=m.slot y hy js
     rwa [tr.same' y hc (show i<=fl.length by omega) λj z hz hzd=>?_]at hv
     by_cases e:j=i
     ·subst e;have:=hcut j z hz hzd;refine⟨λh=>by omega,λh=>hnot (this.2 h.2)⟩
     ·have h1:=hcut j z hz hzd;have h2:=cutAt y (.inl hlook) j z hz hzd e;constructor
      ·intro⟨h3,h4⟩;have:=h1.1 (h2.2 h4);omega
      ·intro⟨h3,h4⟩;have:=h2.1 (h1.2 h4);omega
    have Kb:∀ {j':Nat} {z':FE} {e n':Nat} {y:Od} {oj:Oper},fl[j']?=some z'->z'.st1 D=some (e,n',y)->ops[j']?=some oj->e∈oj.looksAt ops:=by
     intro j' z' e n' y oj hz' hzs hoj;obtain⟨z2,hz2,UD⟩:=hl j' oj hoj;rw[hz']at hz2;cases hz2;obtain⟨rfl,_⟩:=Ht hzs;obtain⟨_,hop2,_,_⟩:=kL UD;obtain⟨t',a',x',h1,h2,h3,h4⟩:=AL hop2;cases a' with
     | tmp m'=>cases h1;exact List.mem_append_left _ (List.mem_filterMap.2 ⟨.tmp e,by simp[h3,Op.operands],rfl⟩)
     | const v=>cases h1
     | global g=>cases h1
     | func f=>cases h1
    have Kc:∀y,Operand.tmp y∈o.op.operands->y∈o.looksAt ops:=λy hz=>List.mem_append_left _ (List.mem_filterMap.2 ⟨.tmp y,by simpa using hz,rfl⟩)
    have JD:∀z∈o.op.operands,(∀y,z=.tmp y->∀p∈D,p.1≠y)->am M S w (a.eval z) (od (ts i) (ak z)):=by
     intro z hz UY;cases z with
     | tmp y=>
       simp only[Act.eval,ak,od];by_cases hy:y<(ts 0).length
       ·exact rA y hy (UY y rfl) (Kc y hz)
       ·have:(ts i).getD y AV.any=.any:=by simp[List.getD,List.getElem?_eq_none (show(ts i).length<=y by rw[tr.len i (by omega)];exact Nat.le_of_not_lt hy)]
        rw[this];exact .data (.any _)
     | const v=>exact .data (pY S w v)
     | global g=>exact .data (.v _)
     | func f=>exact .data (.fn (.func f) #[] #[] [] [] rfl rfl (λi hi=>by simp at hi) (λi hi=>by simp at hi))
    have hcl':∀(j:Nat) o',ops[j]?=some o'->lst (listed.setIfInBounds i true) j->∀e∈o'.after.toList,Region.binds .any e=true->lst (listed.setIfInBounds i true) e.on:=by
     intro j o' ho' hj e he hbi;rw[co hlt']at hj ⊢;rcases hj with hj|rfl
     ·exact .inl (hcl j o' ho' hj e he hbi)
     ·rw[ho]at ho';cases ho';exact .inl (hpre e (by simpa using he) hbi)
    have hcnt':(List.range ops.size).countP (λi'=>!(listed.setIfInBounds i true).getD i' false)<=fuel:=by
     have:=G8 (λi'=>!listed.getD i' false) (λi'=>!(listed.setIfInBounds i true).getD i' false) (List.range ops.size) (λz _ hz=>by
      have:¬lst (listed.setIfInBounds i true) z:=by simpa[lst]using hz
      rw[co hlt']at this;have h':¬lst listed z:=λh=>this (.inl h);simpa[lst]using h')
      ⟨i,List.mem_range.2 hlt,by simpa[lst]using hnot,by
        have:lst (listed.setIfInBounds i true) i:=(co hlt').2 (.inr rfl);simpa[lst]using this⟩
     omega
    have hsize':∀v,(a.put o.dst v).tmps.size=(ts 0).length:=λv=>by rw[<- m.size];cases o.dst<;>simp[Act.put]
    have vH:∀v y,o.dst≠some y->(a.put o.dst v).tmps.getD y undef=a.tmps.getD y undef:=λv y e=>by
     cases hd:o.dst with
     | none=>rfl
     | some d=>
       have hne:d≠y:=λh=>e (by rw[hd,h]);by_cases hys:y<a.tmps.size
       ·simp[Act.put,Array.getD,hys,hne]
       ·simp[Act.put,Array.getD,hys]
    have CF:∀ {M':Maps} {S':Nat->Prop} {w':World} (v:Value) y,y<(ts 0).length->(∀p∈D,p.1≠y)->o.dst≠some y->(∀ {u z},am M S w u z->am M' S' w' u z)->
     ∃c,c<=fl.length/\(∀(j:Nat) x,fl[j]?=some x->x.d=some y->(lst (listed.setIfInBounds i true) j↔j<c))/\am M' S' w' ((a.put o.dst v).tmps.getD y undef) ((ts c).getD y .any):=by
     intro M' S' w' v y hy js e hmono;obtain⟨c,hc,hcut,hv⟩:=m.slot y hy js;refine⟨c,hc,λj z hz hzd=>?_,?_⟩
     ·rw[co hlt',<- hcut j z hz hzd];refine⟨λh=>h.resolve_right λe'=>?_,.inl⟩;subst e';rw[hx]at hz;cases hz;rw[hxd]at hzd;exact e hzd
     ·rw[vH v y e];exact hmono hv
    simp only[wpOp,ho];have Cp:∀ {z:FE} {p},z.al=some p->z.main D=false:=λh=>by simp[FE.main,h]
    have Cp':∀ {z:FE} {p},z.st1 D=some p->z.main D=false:=λh=>by simp[FE.main,h]
    have Lc:x.g=none->Region.wanted o (yielded ops a.tmps)=true:=λh=>by
     rw[h]at hg;unfold jT at hg;split at hg
     ·rename_i hgu;simp[Region.wanted,hgu]
     ·split at hg<;>cases hg
    have IF:∀ {M':Maps} {S':Nat->Prop} {w':World} (v:Value),(∀g,w0.heap.size<=g->¬S g->¬foot M H g->g<w.heap.size->¬S' g/\¬foot M' H g/\w'.heap[g]?=w.heap[g]?)->(∀ {u z},am M S w u z->am M' S' w' u z)->x.st1 D=none->
     ∀(j:Nat) z d n,fl[j]?=some z->z.al=some (d,n)->lst listed j->d<(ts 0).length->o.dst≠some d->
     (a.put o.dst v).tmps.getD d undef=.pointer (some ⟨G d,0,none⟩)/\w0.heap.size<=G d/\¬S' (G d)/\¬foot M' H (G d)/\∃c T,w'.heap[G d]?=some (.cells c T (0,0))/\c.size=n/\
       ∀(j:Nat) z n' y,fl[j]?=some z->z.st1 D=some (d,n',y)->lst (listed.setIfInBounds i true) j->∀k,k<n->am M' S' w' (c.getD k undef) ((od (ts fl.length) y).cells.getD k .any):=by
     intro M' S' w' v hkeep hmono hns j z d n hz hza hj hd hdst;obtain⟨h1,h2,h3,h4,c,T,h5,h6,h7⟩:=m.al j z d n hz hza hj hd;obtain⟨q1,q2,q3⟩:=hkeep (G d) h2 h3 h4 (mb h5);refine⟨(vH v d hdst).trans h1,h2,q1,q2,c,T,q3.trans h5,h6,λj' z' n' y hz' hzs hj' k hk=>hmono (h7 j' z' n' y hz' hzs ?_ k hk)⟩;rw[co hlt']at hj';refine hj'.resolve_right λe=>?_;subst e;rw[hx]at hz';cases hz';rw[hns]at hzs;cases hzs
    have J8:∀ {M':Maps} {S':Nat->Prop} {w':World},aU M S H w M' S' H w'->∀g,w0.heap.size<=g->¬S g->¬foot M H g->g<w.heap.size->¬S' g/\¬foot M' H g/\w'.heap[g]?=w.heap[g]?:=λhf g _ h2 h3 h4=>
     ⟨λh=>(hf.news g h).elim h2 λh=>h.elim h3 λh=>by omega,λh=>(hf.eG g h).elim h3 λh=>by omega,hf.old g h4 h3⟩
    cases hm:x.main D with
    | true=>
      obtain⟨hac,hdst⟩:=ok.main i x hx hm;have hal:∀p,x.al≠some p:=λp h=>by rw[Cp h]at hm;cases hm
      have hst:x.st1 D=none:=by
       cases h:x.st1 D with
       | none=>rfl
       | some p=>rw[Cp' h]at hm;cases hm
      have hlk:∀p∈D,p.1 ∉ o.looksAt ops:=ok.look i x o hx ho hm
      have oM:∀z∈o.op.operands,am M S w (a.eval z) (od (ts i) (ak z)):=λz hz=>JD z hz λy e p hp e'=>hlk p hp (by rw[e'];exact Kc y (by rw[<- e];exact hz))
      have rP:∀c,act (ts i) x.g=some c->Region.wanted o (yielded ops a.tmps)=c:=by
       intro c hc;unfold jT at hg;split at hg
       ·rename_i hgu;simp only[Option.some.injEq]at hg;rw[<- hg]at hc;simp[act]at hc;simp[Region.wanted,hgu,hc]
       ·rename_i jg wg hgu;split at hg
        ·rename_i d hd;simp only[Option.some.injEq]at hg;have hlook:d∈o.looksAt ops:=by simp[Oper.looksAt,hgu,hd]
         rw[<- hg]at hc;simp only[act]at hc;have hne:∀v,(ts i).getD d AV.any=.v v->a.tmps[d]?=some v:=λv hv=>by
          have hdl:d<(ts 0).length:=by
           rcases Nat.lt_or_ge d (ts 0).length with h|h
           ·exact h
           ·have:(ts i).getD d AV.any=.any:=by simp[List.getD,List.getElem?_eq_none (show(ts i).length<=d by rw[tr.len i (by omega)];exact h)]
            rw[this]at hv;cases hv
          have hr:=rA d hdl (λp hp e=>hlk p hp (by rw[e];exact hlook)) hlook;rw[hv]at hr;have:=hr.bh;have hds:d<a.tmps.size:=by rw[m.size];exact hdl
          simp[Array.getD,hds]at this;simp[hds,this]
         simp only[Region.wanted,hgu,yielded,hd,Option.bind_some];split at hc
         ·rename_i bb hbb;rw[hne _ hbb];simp at hc;subst hc;cases bb<;>cases wg<;>rfl
         ·rename_i vs hbb;rw[hne _ hbb];simp at hc;subst hc;rfl
         ·cases hc
        ·cases hg
      have Cl:∀ {j:Nat} {z:FE} {p},fl[j]?=some z->z.al=some p->lst (listed.setIfInBounds i true) j->lst listed j:=λhz hza hj=>by
       rw[co hlt']at hj;refine hj.resolve_right λe=>?_;subst e;rw[hx]at hz;cases hz;exact hal _ hza
      have fin:∀(M':Maps) (S':Nat->Prop) (v:Value) (w':World) (r:AV),aE M' S' H w'->aU M S H w M' S' H w'->am M' S' w' v r->ts (i+1)=a9 (ts i) x.d r->AZ X D fl ts H M0 S0 w0 (listed.setIfInBounds i true) M' S' (a.put o.dst v) w' G:=by
       intro M' S' v w' r hh' hf' hv hts;refine⟨by rw[iO];exact m.bK,hsize' v,λy hy js=>?_,hh',m.fh.trans hf',λj z d n hz hza hj hd=>IF v (J8 hf') (λh=>h.mono hf'.sub hf'.cv hf'.le) hst j z d n hz hza (Cl hz hza hj) hd (by rw[<- hxd];exact hdst _ (ok.mem j z _ hz hza)),
        λj z d n j' z' d' n' h1 h2 h3 h4 h5 h6=>m.dist j z d n j' z' d' n' h1 h2 (Cl h1 h2 h3) h4 h5 (Cl h4 h5 h6)⟩
       by_cases e:o.dst=some y
       ·refine⟨i+1,by omega,λj z hz hzd=>?_,?_⟩
        ·rw[co hlt'];by_cases e':j=i
         ·subst e';simp
         ·rw[cutAt y (.inr e) j z hz hzd e'];omega
        ·have hys:y<a.tmps.size:=by rw[m.size];exact hy
         have B0:y<(ts i).length:=by rw[tr.len i (by omega)];exact hy
         rw[hts,hxd,e];simpa[Act.put,a9,Array.getD,List.getD,hys,B0]using hv
       ·exact CF v y hy js e λh=>h.mono hf'.sub hf'.cv hf'.le
      rcases tr.step i x hx hm with⟨ha,r,hes,hts⟩|⟨ha,hts⟩
      ·rw[if_pos (rP _ ha)];left;exact hes.1 wr o hop M S w a oM m.rel (hp0.fh m.fh) _ _ λM' S' v w' hh' hf' hv=>ih _ M' S' _ w' G (by simp[hsz]) hcl' hcnt' (fin M' S' v w' r hh' hf' hv hts)
      ·rw[if_neg (by rw[rP _ ha];simp)];exact ih _ M S _ w G (by simp[hsz]) hcl' hcnt' (fin M S undef w _ m.rel (aU.refl m.rel) (.data (.v _)) hts)
    | false=>
      cases hal:x.al with
      | some p=>
        obtain⟨d,n⟩:=p;obtain⟨zs,hxe,ho1,hzl⟩:=Qm hal;have UW:=ok.mem i x _ hx hal;rw[hxe]at hop;obtain⟨ty,i',z,hop',hi',hz,hzs⟩:=Pn hop;subst hzs;obtain⟨hcs,_⟩:=GZ M S w ho1;have hod:o.dst=some d:=by rw[<- hxd,hxe]
        have hrun:(execOp a.eval o).run X.P w=.ok (.value (.pointer (some ⟨w.heap.size,0,none⟩))) (w.alloc (.cells z.cells ty)):=by
         simp[execOp,hop',Instr.alloc,newVar,newRow,ml hi' hz]
        have hgw:=Grew.alloc w (.cells z.cells ty);have hst:x.st1 D=none:=by rw[hxe];rfl
        rw[if_pos (Lc (by rw[hxe]))];left;unfold Oper.wp;rw[hrun];refine ih _ M S _ _ (λe=>if e=d then w.heap.size else G e) (by simp[hsz]) hcl' hcnt' ⟨by rw[iO];exact m.bK,hsize' _,λy hy js=>CF _ y hy js (by rw[hod];intro e;cases e;exact js _ UW rfl) λh=>h.grew m.rel hgw,
         m.rel.grew hgw,m.fh.trans (aU.grew m.rel hgw),λj z' e n' hz' hza hja he=>?_,λj z1 d1 n1 j' z2 d2 n2 h1 h2 h3 h4 h5 h6 hd1 hd2 hne=>?_⟩
        ·by_cases ed:e=d
         ·subst ed;obtain rfl:=ok.nd j i z' x e n' n hz' hx hza hal;rw[hx]at hz';cases hz';rw[hal]at hza;cases hza;have hys:e<a.tmps.size:=by rw[m.size];exact he
          rw[if_pos rfl];refine⟨by rw[hod];simp[Act.put,Array.getD,hys],m.fh.size,λh=>by have:=m.rel.sits _ h;omega,λh=>by have:=fQ m.rel h;omega,z.cells,ty,fP _ _,by rw[hcs,hzl],λj' z' n' y hz' hzs hj'=>?_⟩;exfalso;rw[co hlt']at hj';rcases hj' with hj'|e'
          ·have hlt2:=(ok.sty j' z' e n' y hz' hzs).2 j x e hx (by rw[hxe]) (.inr rfl);obtain⟨oj,hoj,_⟩:=qL j' z' hz';exact behind j' oj hoj (ok.tmps j j' o oj (fq _ _ ho) (fq _ _ hoj) hlt2 (by have:=Kb hz' hzs hoj;simp[Oper.apart,hod,this])) hj'
          ·subst e';rw[hx]at hz';cases hz';rw[hst]at hzs;cases hzs
         ·have hj':lst listed j:=by
           rw[co hlt']at hja;refine hja.resolve_right λe'=>ed ?_;subst e';rw[hx]at hz';cases hz';rw[hal]at hza;cases hza;rfl
          rw[if_neg ed];exact IF (.pointer (some ⟨w.heap.size,0,none⟩)) (M':=M) (S':=S) (w':=w.alloc (.cells z.cells ty)) (J8 (aU.grew m.rel hgw)) (λh=>h.grew m.rel hgw) hst j z' e n' hz' hza hj' he (by rw[hod];intro e';cases e';exact ed rfl)
        ·have h3':d1≠d->lst listed j:=λhd'=>by
          rw[co hlt']at h3;refine h3.resolve_right λe'=>hd' ?_;subst e';rw[hx]at h1;cases h1;rw[hal]at h2;cases h2;rfl
         have h6':d2≠d->lst listed j':=λhd'=>by
          rw[co hlt']at h6;refine h6.resolve_right λe'=>hd' ?_;subst e';rw[hx]at h4;cases h4;rw[hal]at h5;cases h5;rfl
         by_cases e1:d1=d
         ·by_cases e2:d2=d
          ·exact absurd (e1.trans e2.symm) hne
          ·obtain⟨_,_,_,_,c,T,h7,_⟩:=m.al j' z2 d2 n2 h4 h5 (h6' e2) hd2;have:=mb h7;simp[e1,e2];omega
         ·by_cases e2:d2=d
          ·obtain⟨_,_,_,_,c,T,h7,_⟩:=m.al j z1 d1 n1 h1 h2 (h3' e1) hd1;have:=mb h7;simp[e1,e2];omega
          ·simp[e1,e2];exact m.dist j z1 d1 n1 j' z2 d2 n2 h1 h2 (h3' e1) h4 h5 (h6' e2) hd1 hd2 hne
      | none=>
        have hst:∃p,x.st1 D=some p:=by
         cases h:x.st1 D with
         | none=>simp[FE.main,hal,h]at hm
         | some p=>exact⟨p,rfl⟩
        obtain⟨⟨d,n,y⟩,hst⟩:=hst;obtain⟨hxe,hdm⟩:=Ht hst;have hdl:=hB i x d n y hx hst;obtain⟨ia,xa,hxa,oP⟩:=ok.ex (d,n) hdm;obtain⟨hy1,hy2⟩:=ok.sty i x d n y hx hst;have JY:xa.d=some d:=by obtain⟨zs,e,_⟩:=Qm oP;rw[e]
        have hia:ia<i:=hy2 ia xa d hxa JY (.inr rfl);have hla:lst listed ia:=(cutAt d (.inl (Kb hx hst ho)) ia xa hxa JY (by omega)).2 hia;obtain⟨h1,h2,h3,h4,c,T,h5,h6,h7⟩:=m.al ia xa d n hxa oP hla hdl.1;have hod:o.dst=none:=by rw[<- hxd,hxe]
        rw[hxe]at hop;obtain⟨ty,ad,vo,e1,e2,hop',hsz'⟩:=AL hop;obtain rfl:ad=.tmp d:=by
         cases ad with
         | tmp m'=>cases e1;rfl
         | const v=>cases e1
         | global g=>cases e1
         | func f=>cases e1
        subst e2;have hv0:=JD vo (by simp[hop',Op.operands]) λyy e p hp e'=>by
         subst e;have:=hy1 p hp;simp[ak,Od.oU]at this;exact this e'.symm
        have UM:od (ts i) (ak vo)=od (ts fl.length) (ak vo):=by
         cases vo with
         | tmp yy=>
           refine tr.same' yy (by omega) (Nat.le_refl _) λj z hz hzd=>?_;have:=hy2 j z yy hz hzd (.inl (by simp[ak,Od.oU]));omega
         | const v=>rfl
         | global g=>rfl
         | func f=>rfl
        rw[UM]at hv0;obtain⟨hs,hall⟩:=mc hv0 hdl.2.2;have hone:=Gm hv0 hdl.2.2;have hrun:=run_store' (P:=X.P) hsz' h5 (v:=a.eval vo) (by rw[hs];exact hdl.2.1) hone (o:=0) (by omega);have hlen:(a.eval vo).cells.toList.length=n:=by simp;rw[hs];exact hdl.2.1
        generalize hc':(c.toList.take 0++(a.eval vo).cells.toList++c.toList.drop (0+(a.eval vo).cells.toList.length)).toArray=c' at hrun;have hca:(a.eval (.tmp d))=.pointer (some ⟨G d,0,none⟩):=h1;have hrun2:(execOp a.eval o).run X.P w=.ok .skip (w.setRow (G d) c'):=by
         simp only[execOp,hop',hca,Sem.run_bind,hrun,Result.andThen_ok,Sem.run_pure]
        have hoth:∀g,g≠G d->(w.setRow (G d) c').heap[g]?=w.heap[g]?:=λg hne=>setRow_other w _ g c' hne
        have hmono:∀ {u z},am M S w u z->am M S (w.setRow (G d) c') u z:=λh=>h.mono (λ_ h=>h) (λg hg=>hoth g λe=>h3 (e▸hg)) (.refl M)
        rw[if_pos (Lc (by rw[hxe]))];left;unfold Oper.wp;rw[hrun2];refine ih _ M S _ _ G (by simp[hsz]) hcl' hcnt' ⟨by rw[iO];exact m.bK,hsize' undef,λy' hy' js=>CF undef y' hy' js (by rw[hod];intro e;cases e) hmono,
         m.rel.keep (by simp) (λg hg=>hoth g λe=>h3 (e▸hg)) (λg hg=>hoth g λe=>h4 (e▸hg)),m.fh.beside (G d) h2 h3 rfl rfl rfl (by simp) hoth,λj z e n' hz hza hj he=>?_,λj z1 d1 n1 j' z2 d2 n2 h1 h2 h3 h4 h5 h6 hd1 hd2 hne=>?_⟩
        ·have hj':lst listed j:=by
          rw[co hlt']at hj;refine hj.resolve_right λe'=>?_;subst e';rw[hx]at hz;cases hz;rw[hal]at hza;cases hza
         obtain⟨q1,q2,q3,q4,c2,T2,q5,q6,q7⟩:=m.al j z e n' hz hza hj' he;by_cases ed:e=d
         ·subst ed;obtain rfl:=ok.nd j ia z xa e n' n hz hxa hza oP;rw[hz]at hxa;cases hxa;rw[hza]at oP;cases oP;refine⟨(vH undef e (by rw[hod];intro h;cases h)).trans q1,q2,q3,q4,c',T,setRow_heap w _ c c' T (0,0) h5,?_,λj2 z2 n2 y2 hz2 oQ hj2 k hk=>?_⟩
          ·rw[<- hc'];simp only[List.size_toArray,List.length_append,List.length_take,List.length_drop,Array.length_toList];simp only[Array.length_toList]at hlen;omega
          ·have hji:=ok.sd j2 i z2 x e n2 _ y2 (ak vo) hz2 hx oQ hst;subst hji;rw[hz2]at hx;cases hx;rw[oQ]at hst;cases hst;have hck:c'.getD k undef=(a.eval vo).cells.toList.getD (k-0) undef:=by
            rw[<- hc',GY (by simp;simp at hlen;omega) k,if_pos ⟨by omega,by omega⟩]
           rw[hck];have e3:(a.eval vo).cells.toList.getD (k-0) undef=(a.eval vo).cells.getD k undef:=by
            have:k<(a.eval vo).cells.size:=by simp at hlen;omega
            simp[List.getD,Array.getD,this]
           rw[e3];exact hmono (hall k (by rw[hdl.2.1];exact hk))
         ·refine⟨(vH undef e (by rw[hod];intro h;cases h)).trans q1,q2,q3,q4,c2,T2,(hoth _ (m.dist j z e n' ia xa d n hz hza hj' hxa oP hla he hdl.1 ed)).trans q5,q6,λj2 z2 n2 y2 hz2 oQ hj2 k hk=>hmono (q7 j2 z2 n2 y2 hz2 oQ ?_ k hk)⟩;rw[co hlt']at hj2;refine hj2.resolve_right λe'=>ed ?_;subst e';rw[hx]at hz2;cases hz2;rw[hst]at oQ;cases oQ;rfl
        ·have h3':lst listed j:=by
          rw[co hlt']at h3;refine h3.resolve_right λe'=>?_;subst e';rw[hx]at h1;cases h1;rw[hal]at h2;cases h2
         have h6':lst listed j':=by
          rw[co hlt']at h6;refine h6.resolve_right λe'=>?_;subst e';rw[hx]at h4;cases h4;rw[hal]at h5;cases h5
         exact m.dist j z1 d1 n1 j' z2 d2 n2 h1 h2 h3' h4 h5 h6' hd1 hd2 hne
end
end
theorem aE.A5 {M S H} {w:World} {g:Nat} {cs:List AV} {c:Array Value} {T:TypeId} (hh:aE M S H w) (hun:¬S g) (hnf:¬foot M H g) (hb:w.heap[g]?=some (.cells c T (0,0)))
 (hc:c.size=cs.length) (h1:ones cs=true) (hr:∀i,i<cs.length->am M S w (c.getD i undef) (cs.getD i .any)):aE (M.bB g) S ⟨H.box++[cs],H.buf⟩ w:=by
 have hfl:∀i,foot M H i->i≠g:=λi hi e=>hnf (e▸hi)
 refine⟨by simp[Maps.bB,hh.nb],hh.nt,hh.sits,λb hb'=>?_,λt ht=>?_,λb b' h1 h2 e=>?_,hh.tt,λb t g' hb' hl e=>?_⟩
 ·by_cases e:b=M.nb
  ·subst e;have:(H.box++[cs]).getD M.nb []=cs:=by rw[hh.nb];simp[List.getD]
   rw[this];have hbx:(M.bB g).box M.nb=g:=by simp[Maps.bB]
   rw[hbx];exact⟨hun,c,T,hb,hc,λi hi=>⟨jI h1 hi,(hr i hi).mono (λ_ h=>h) (λ_ _=>rfl) (M.ka g)⟩⟩
  ·simp at hb';have hlt:b<H.box.length:=by have:=hh.nb;omega
   have:(H.box++[cs]).getD b []=H.box.getD b []:=by simp[List.getD,List.getElem?_append_left hlt]
   rw[this,(M.ka g).box b (by rw[hh.nb];exact hlt)];exact(hh.box b hlt).keep (M.ka g) (λ_ h=>h) (hh.box b hlt).un (λ_ _=>rfl) rfl
 ·exact hh.buf t ht
 ·simp at h1 h2;have hn:=hh.nb;by_cases e1:b=M.nb<;>by_cases e2:b'=M.nb
  ·rw[e1,e2]
  ·exfalso;simp[Maps.bB,e1,e2]at e;exact hfl (M.box b') (.inl ⟨b',by omega,rfl⟩) e.symm
  ·exfalso;simp[Maps.bB,e1,e2]at e;exact hfl (M.box b) (.inl ⟨b,by omega,rfl⟩) e
  ·simp[Maps.bB,e1,e2]at e;exact hh.bb b b' (by omega) (by omega) e
 ·simp at hb';have hn:=hh.nb;have hl':lives M H t g':=hl;by_cases e1:b=M.nb
  ·simp[Maps.bB,e1]at e;exact hfl g' (.inr ⟨t,hl'⟩) e.symm
  ·simp[Maps.bB,e1]at e;exact hh.bt b t g' (by omega) hl' e
theorem aU.A5 {M0:Maps} {S0:Nat->Prop} {aI:AH} {w0:World} {M:Maps} {S:Nat->Prop} {H:AH} {w:World} {g:Nat} {cs:List AV} (h:aU M0 S0 aI w0 M S H w) (hn:M.nb=H.box.length) (hg:w0.heap.size<=g):aU M0 S0 aI w0 (M.bB g) S ⟨H.box++[cs],H.buf⟩ w where
 gW:=h.gW
 gX:=h.gX
 os:=h.os
 tape:=h.tape
 output:=h.output
 size:=h.size
 sub:=h.sub
 cv:=h.cv
 old:=h.old
 le:=h.le.trans (M.ka g)
 news:=h.news
 eG:=λi hi=>((GR hn).1 hi).elim (h.eG i) λe=>.inr (by rw[e];exact hg)
theorem RF {M0:Maps} {S0:Nat->Prop} {aI:AH} {w0:World} {S:Nat->Prop} {w:World} {tm:Array Value} {t0:List AV} {G:Nat->Nat}:∀(bs:List (Nat×Nat×Od)) (M:Maps) (H:AH) (t:List AV),t.length=t0.length->aE M S H w->aU M0 S0 aI w0 M S H w->
 (∀y,y<t.length->(∀p∈bs,p.1≠y)->am M S w (tm.getD y undef) (t.getD y .any))->
 (∀p∈bs,tm.getD p.1 undef=.pointer (some ⟨G p.1,0,none⟩)/\w0.heap.size<=G p.1/\¬S (G p.1)/\¬foot M H (G p.1)/\∃c T,w.heap[G p.1]?=some (.cells c T (0,0))/\c.size=p.2.1/\∀k,k<p.2.1->am M S w (c.getD k undef) ((od t0 p.2.2).cells.getD k .any))->
 nq t0 bs->nj (bs.map (·.1))=true->(∀p∈bs,∀q∈bs,p.1≠q.1->G p.1≠G q.1)->
 ∃M',aE M' S (lO t0 H bs) w/\aU M0 S0 aI w0 M' S (lO t0 H bs) w/\(jy t H.box.length bs).length=t0.length/\∀y,y<t0.length->am M' S w (tm.getD y undef) ((jy t H.box.length bs).getD y .any)
 | [],M,H,t,hl,hh,hf,hs,_,_,_,_=>⟨M,hh,hf,hl,λy hy=>hs y (by omega) λp hp=>by cases hp⟩
 | (d,n,y0)::bs,M,H,t,hl,hh,hf,hs,hp,⟨hd,hlen,h1,hB⟩,hnd,hdi=>by
   obtain⟨q1,q2,q3,q4,c,T,q5,q6,q7⟩:=hp (d,n,y0) (List.mem_cons_self ..);dsimp only at q1 q2 q3 q4 q5 q6 q7;simp only[List.map_cons,nj,Bool.and_eq_true,Bool.not_eq_true',List.contains_eq_mem,decide_eq_false_iff_not]at hnd;have hne:∀p∈bs,p.1≠d:=λp hp e=>hnd.1 (List.mem_map.2 ⟨p,hp,e⟩)
   have hh1:=hh.A5 q3 q4 q5 (by rw[q6,hlen]) h1 (λi hi=>q7 i (by rw[<- hlen];exact hi));have hf1:=hf.A5 (cs:=(od t0 y0).cells) hh.nb q2;have hm:∀ {u z},am M S w u z->am (M.bB (G d)) S w u z:=λh=>h.mono (λ_ h=>h) (λ_ _=>rfl) (M.ka _)
   obtain⟨M',r1,r2,r3,r4⟩:=RF bs (M.bB (G d)) ⟨H.box++[(od t0 y0).cells],H.buf⟩ (t.set d (.ptr H.box.length 0)) (by simp[hl]) hh1 hf1 (λy hy hyb=>by
    by_cases e:y=d
    ·subst e;have hy':y<t.length:=by simpa using hy
     rw[q1];have:(t.set y (.ptr H.box.length 0)).getD y .any=.ptr H.box.length 0:=by simp[List.getD,hy']
     rw[this];have e2:(M.bB (G y)).box H.box.length=G y:=by rw[<- hh.nb];simp[Maps.bB]
     have:=am.ptr (M:=M.bB (G y)) (S:=S) (w:=w) H.box.length 0 (by simp[Maps.bB,hh.nb])
     rwa [e2]at this
    ·have:(t.set d (.ptr H.box.length 0)).getD y .any=t.getD y .any:=by simp[List.getD,List.getElem?_set_ne (Ne.symm e)]
     rw[this];exact hm (hs y (by simpa using hy) λp hp'=>by
      rcases List.mem_cons.1 hp' with rfl|hp'
      ·exact λe'=>e e'.symm
      ·exact hyb p hp'))
    (λp hp'=>by
      obtain⟨s1,s2,s3,s4,c',T',s5,s6,s7⟩:=hp p (List.mem_cons_of_mem _ hp');refine⟨s1,s2,s3,λh=>?_,c',T',s5,s6,λk hk=>hm (s7 k hk)⟩;rcases (GR hh.nb).1 h with h|h
      ·exact s4 h
      ·exact hdi p (List.mem_cons_of_mem _ hp') (d,n,y0) (List.mem_cons_self ..) (hne p hp') h)
    hB hnd.2 (λp hp' q hq=>hdi p (List.mem_cons_of_mem _ hp') q (List.mem_cons_of_mem _ hq))
   refine⟨M',r1,r2,?_,λy hy=>?_⟩
   ·simpa[jy]using r3
   ·have:=r4 y hy;simpa[jy]using this
theorem OU {S:List (Nat×Nat×Od)}:∀ {D:List (Nat×Nat)} {bs:List (Nat×Nat×Od)},np S D=some bs->bs.map (λp=>(p.1,p.2.1))=D/\∀p∈bs,p∈S
 | [],bs,h=>by cases h;exact⟨rfl,λp hp=>by cases hp⟩
 | (d,n)::D,bs,h=>by
   simp only[np]at h;split at h
   ·rename_i d' n' y r h1 h2;split at h
    ·rename_i e;cases h;subst e;have hd:d'=d:=by simpa using List.find?_some h1
     subst hd;obtain⟨h3,h4⟩:=OU h2;refine⟨by simp[h3],λp hp=>?_⟩;rcases List.mem_cons.1 hp with rfl|hp
     ·exact List.mem_of_find?_eq_some h1
     ·exact h4 p hp
    ·cases h
   ·cases h
theorem z7 {α β:Type} {f:α->Option (Nat×β)}:∀ {l:List α},nj ((l.filterMap f).map (·.1))=true->∀(i j:Nat) x y d n m,l[i]?=some x->l[j]?=some y->f x=some (d,n)->f y=some (d,m)->i=j
 | [],_,i,j,x,y,d,n,m,h1,_,_,_=>by simp at h1
 | z::l,h,i,j,x,y,d,n,m,h1,h2,h3,h4=>by
   have mem:∀ {k:Nat} {u:α} {e:Nat} {q:β},l[k]?=some u->f u=some (e,q)->e∈(l.filterMap f).map (·.1):=λhk hu=>
    List.mem_map.2 ⟨_,List.mem_filterMap.2 ⟨_,List.mem_of_getElem? hk,hu⟩,rfl⟩
   cases hz:f z with
   | none=>
     rw[List.filterMap_cons_none hz]at h;cases i with
     | zero=>simp at h1;subst h1;rw[hz]at h3;cases h3
     | succ i=>
       cases j with
       | zero=>simp at h2;subst h2;rw[hz]at h4;cases h4
       | succ j=>rw[z7 h i j x y d n m (by simpa using h1) (by simpa using h2) h3 h4]
   | some p=>
     rw[List.filterMap_cons_some hz]at h;simp only[List.map_cons,nj,Bool.and_eq_true,Bool.not_eq_true',List.contains_eq_mem,decide_eq_false_iff_not]at h;cases i with
     | zero=>
       cases j with
       | zero=>rfl
       | succ j=>
         simp at h1;subst h1;rw[hz]at h3;cases h3;exact absurd (mem (by simpa using h2) h4) h.1
     | succ i=>
       cases j with
       | zero=>
         simp at h2;subst h2;rw[hz]at h4;cases h4;exact absurd (mem (by simpa using h1) h3) h.1
       | succ j=>rw[z7 h.2 i j x y d n m (by simpa using h1) (by simpa using h2) h3 h4]
theorem ajl {α β:Type} {l:List α} {m:List β} {p:α×β->Bool} (h:(l.zip m).all p=true) {i:Nat} {x:α} {y:β} (hx:l[i]?=some x) (hy:m[i]?=some y):p (x,y)=true:=by
 rw[List.all_eq_true]at h;refine h _ (List.mem_of_getElem? (i:=i) ?_);rw[List.getElem?_zip_eq_some];exact⟨hx,hy⟩
theorem aeY {ops:Array Oper} {fl:List FE} (h:pc ops fl=true):IE ops fl (eW fl):=by
 simp only[pc,Bool.and_eq_true]at h;obtain⟨⟨⟨⟨⟨⟨⟨h1,h2⟩,h3⟩,h4⟩,h5⟩,h6⟩,h7⟩,h8⟩:=h;have uO:∀j o,ops.toList[j]?=some o->∀i,((g9 ops.toList []).getD j 0).testBit i=true->ip ops.toList o i:=
  G4 ops.toList ops.toList [] [] rfl rfl (λj o hj=>by simp at hj)
 have hmem:∀(i:Nat) x p,fl[i]?=some x->x.al=some p->p∈eW fl:=λi x p hx ha=>List.mem_filterMap.2 ⟨x,List.mem_of_getElem? hx,ha⟩
 refine⟨λi o ho e he hb=>?_,λi j x y hx hy hij hap=>?_,hmem,λi j x y d n m hx hy ha hb=>z7 h3 i j x y d n m hx hy ha hb,λp hp=>?_,λi x hx hm=>?_,λi x o hx ho hm p hp=>?_,λj x d n y hx hs=>?_,
  λi j x y d n m u v hx hy ha hb=>z7 (f:=FE.st1 (eW fl)) h4 i j x y d (n,u) (m,v) hx hy ha hb⟩
 ·have:=kF h1 i o ho;simp only[List.all_eq_true]at this;have:=this e he;simp[hb]at this;exact this
 ·have:=kF (kF h2 j y hy) i x (by rw[List.getElem?_take_of_lt hij];exact hx);simp only[hap,Bool.false_or]at this;exact uO j y hy i this
 ·obtain⟨x,hx,ha⟩:=List.mem_filterMap.1 hp;obtain⟨i,hi⟩:=List.getElem?_of_mem hx;exact⟨i,x,hi,ha⟩
 ·rw[List.all_eq_true]at h5;have:=h5 x (List.mem_of_getElem? hx);simp only[hm,Bool.not_true,Bool.false_or,Bool.and_eq_true,Bool.not_eq_true',List.all_eq_true]at this;refine⟨this.1.1.1,λp hp e=>?_⟩;have:=this.2 p hp;simp[e]at this
 ·have:=ajl h6 hx (by simpa using ho:ops.toList[i]?=some o);simp only[hm,Bool.not_true,Bool.false_or,List.all_eq_true]at this;have:=this p hp;simpa using this
 ·have:=kF h8 j x hx;simp only[hs,Bool.and_eq_true,List.all_eq_true]at this;refine⟨λp hp=>by simpa using this.1 p hp,λi z m hz hzd hm=>?_⟩;have:=this.2 (z,i) (List.mk_mem_zipIdx_iff_getElem?.2 hz);simp only[hzd,Bool.or_eq_true,Bool.not_eq_true',decide_eq_true_eq]at this;refine this.resolve_left ?_;rcases hm with hm|rfl
  ·simp[hm]
  ·simp
theorem tS {t:List AV}:∀ {bs:List (Nat×Nat×Od)},nq t bs->∀p∈bs,p.1<t.length/\(od t p.2.2).cells.length=p.2.1/\ones (od t p.2.2).cells=true
 | [],_,p,hp=>by cases hp
 | (d,n,y)::bs,⟨h1,h2,h3,h4⟩,p,hp=>by
   rcases List.mem_cons.1 hp with rfl|hp
   ·exact⟨h1,h2,h3⟩
   ·exact tS h4 p hp
theorem aeZ {X:Ctx} {k:List SI} {k0:List Item} (hk:cX X.P k0 k) (hok:X.ok) {wr:WR} {id:Nat} {ops:Array Oper} {fl:List FE} (hl:ff (ey X.P wr ops) ops.toList=some fl) (hp:pc ops fl=true) {bs:List (Nat×Nat×Od)} (hbs:np (ry fl) (eW fl)=some bs)
 {b:Frame} (hb:b.fn=X.fid) (hbk:b.kind=.normal) {M0 S0 w0} (hp0:cY X.P M0 X.aI w0) {t H} (hch:ot X true (λt H=>nq t bs/\dl X k (jy t H.box.length bs) (lO t H bs)) (fl.filter (FE.main (eW fl))) t H) {M S a w} (hf:aU M0 S0 X.aI w0 M S H w) (ht:dC M S w t a.tmps) (hh:aE M S H w) (hd:a.defers=X.bK):
 Fin' X.P X.bK b (.code (.region id ops true)::k0) a w (Post X.Q X.aI M0 S0 w0):=by
 obtain⟨hlen,hall⟩:=pO hl;have ok:=aeY hp;obtain⟨ts,tr,h0⟩:=AR fl t H (λx hx hm=>by
  obtain⟨i,hi⟩:=List.getElem?_of_mem hx;exact(ok.main i x hi hm).1) hch
 obtain⟨hbD,hbS⟩:=OU hbs;have hl':∀(i:Nat) o,ops[i]?=some o->∃x,fl[i]?=some x/\ey X.P wr ops o=some x:=λi o ho=>hall i o (by simpa using ho)
 have hn:fl.length=ops.size:=by rw[hlen];simp
 have JH:∀q∈eW fl,∃p∈bs,p.1=q.1/\p.2.1=q.2:=λq hq=>by
  rw[<- hbD]at hq;obtain⟨p,hp,e⟩:=List.mem_map.1 hq;exact⟨p,hp,by rw[<- e],by rw[<- e]⟩
 have hbD':∀p∈bs,(p.1,p.2.1)∈eW fl:=λp hp=>by rw[<- hbD];exact List.mem_map.2 ⟨p,hp,rfl⟩
 have hst:∀p∈bs,∃(j:Nat) (z:FE),fl[j]?=some z/\z.st1 (eW fl)=some p:=λp hp=>by
  obtain⟨z,hz,e⟩:=List.mem_filterMap.1 (hbS p hp);obtain⟨j,hj⟩:=List.getElem?_of_mem hz;exact⟨j,z,hj,e⟩
 have hB:∀(j:Nat) z d n y,fl[j]?=some z->z.st1 (eW fl)=some (d,n,y)->d<(ts 0).length/\(od (ts fl.length) y).cells.length=n/\ones (od (ts fl.length) y).cells=true:=by
  intro j z d n y hz hzs;obtain⟨_,hdm⟩:=Ht hzs;obtain⟨p,hp',e1,e2⟩:=JH _ hdm;obtain⟨j',z',hz',hzs'⟩:=hst p hp';obtain⟨d',n',y'⟩:=p;dsimp only at e1 e2;subst e1 e2;obtain rfl:=ok.sd j j' z z' d' n' n' y y' hz hz' hzs hzs';rw[hz]at hz';cases hz';rw[hzs]at hzs';cases hzs';have:=tS tr.last.1 _ hp';rw[tr.len _ (Nat.le_refl _)]at this;exact this
 have hany:=afZ tr hl' hn ok hB (M0:=M0) (S0:=S0) (w0:=w0) (k0:=k0) (b:=b) hp0 (λlisted M S a w G hall m=>by
  intro hd;obtain⟨hB1,hgo⟩:=tr.last;have hte:(ts fl.length).length=(ts 0).length:=tr.len _ (Nat.le_refl _);obtain⟨M',r1,r2,r3,r4⟩:=RF (G:=G) (tm:=a.tmps) bs M H (ts fl.length) rfl m.rel m.fh (λy hy hyb=>by
   rw[hte]at hy;obtain⟨c,hc,hcut,hv⟩:=m.slot y hy (λq hq=>by
    obtain⟨p,hp',e1,_⟩:=JH q hq;rw[<- e1];exact hyb p hp')
   rwa [tr.same' y hc (Nat.le_refl _) λj x hx hd'=>by
    have hj:j<fl.length:=(List.getElem?_eq_some_iff.1 hx).1;have:=(hcut j x hx hd').1 (hall j (by omega));omega]at hv)
   (λp hp'=>by
     obtain⟨i,x,hx,hxa⟩:=ok.ex _ (hbD' p hp');have hi:i<ops.size:=by have:=(List.getElem?_eq_some_iff.1 hx).1;omega
     have hlt:=(tS hB1 p hp').1;rw[hte]at hlt;obtain⟨q1,q2,q3,q4,c,T,q5,q6,q7⟩:=m.al i x p.1 p.2.1 hx hxa (hall i hi) hlt;obtain⟨j,z,hz,hzs⟩:=hst p hp';have hj:j<ops.size:=by have:=(List.getElem?_eq_some_iff.1 hz).1;omega
     exact⟨q1,q2,q3,q4,c,T,q5,q6,λk hk=>q7 j z p.2.1 p.2.2 hz hzs (hall j hj) k hk⟩)
   hB1 (by
    have e:bs.map (·.1)=(eW fl).map (·.1):=by rw[<- hbD];simp
    rw[e];simp only[pc,Bool.and_eq_true]at hp;exact hp.1.1.1.1.1.2)
   (λp hp' q hq hne=>by
     obtain⟨i,x,hx,hxa⟩:=ok.ex _ (hbD' p hp');obtain⟨i',x',hx',hxa'⟩:=ok.ex _ (hbD' q hq);have hi:i<ops.size:=by have:=(List.getElem?_eq_some_iff.1 hx).1;omega
     have hi':i'<ops.size:=by have:=(List.getElem?_eq_some_iff.1 hx').1;omega
     have h1:=(tS hB1 p hp').1;have h2:=(tS hB1 q hq).1;rw[hte]at h1 h2;exact m.dist i x p.1 p.2.1 i' x' q.1 q.2.1 hx hxa (hall i hi) hx' hxa' (hall i' hi') h1 h2 hne)
  exact hgo hok M0 S0 w0 hp0 M' S a w k0 hk r2 ⟨by rw[m.size,r3,hte],λy hy=>r4 y (by rwa [r3]at hy)⟩ r1 hd b hb hbk) ops.size (Array.replicate ops.size false) M S a { w with drawn:=w.drawn+1 } (λ_=>0) (by simp)
  (λj o ho hj=>by
    have:j<ops.size:=(Array.getElem?_eq_some_iff.1 ho).1;simp[lst,Array.getD,this]at hj)
  (by have:=List.countP_le_length (p:=λi=>!(Array.replicate ops.size false).getD i false) (l:=List.range ops.size);simpa using this)
  ⟨hd,by rw[ht.1,<- h0],λy hy _=>⟨0,by omega,λj x hx _=>by
    have:j<ops.size:=by have:=(List.getElem?_eq_some_iff.1 hx).1;omega
    simp[lst,Array.getD,this],by rw[h0]at hy ⊢;exact am.heap (w:=w) (w':={ w with drawn:=w.drawn+1 }) rfl (ht.2 y hy)⟩,
    aE.heap (w:=w) (w':={ w with drawn:=w.drawn+1 }) rfl hh,hf.trans (aU.drew hh rfl rfl rfl rfl),λi x d n hx _ hj=>by
     have:i<ops.size:=by have:=(List.getElem?_eq_some_iff.1 hx).1;omega
     simp[lst,Array.getD,this]at hj,λi x d n i' x' d' n' hx _ hj=>by
     have:i<ops.size:=by have:=(List.getElem?_eq_some_iff.1 hx).1;omega
     simp[lst,Array.getD,this]at hj⟩
 intro cs;have hfin:Fin' X.P X.bK b (.inRegion ops (Region.schedule (X.P.follows .mixedOrders) ops (w.tape w.drawn (.order b.fn id)))::k0) a { w with drawn:=w.drawn+1 } (Post X.Q X.aI M0 S0 w0):=
  Gc (k0:=k0) hok hb hbk λcs=>by
   have hw:=wpAny_sound (md:=.any) ops.size (w.tape w.drawn (.order b.fn id)) (Array.replicate ops.size false) a { w with drawn:=w.drawn+1 } hany;have:=wp_ops _ a _ hw b k0 cs;simp only[Region.schedule,hok.mix,Bool.true_or,if_true,Region.linearise];exact this
 obtain⟨e,w',fr,r,c,x⟩:=hfin cs;exact⟨e,w',fr,r,c.of_steps (.one step_region_draw),x⟩
section
section comp
variable {P:Program} {wr:Bool} {c:Code}
def SC.rg:SC->Bool
 | .ops ..=>true
 | .priv ..=>true
 | .alts ..=>true
 | _=>false
theorem mv {id:Nat} {ops:Array Oper} {d:Bool} {s:SC} (h:comp P wr (.region id ops d)=some s):s.rg=true:=by
 simp only[comp]at h;have hb:∀s,jj P wr ops d=some s->s.rg=true:=λs h=>by
  simp only[jj]at h;split at h
  ·split at h
   ·split at h<;>cases h<;>rfl
   ·cases h;rfl
  ·cases h
 unfold kU at h;split at h
 ·cases h;rfl
 ·cases h;rfl
 ·exact hb _ h
theorem afX (h:comp P wr c=some .skip):c=.skip\/∃l,c=.label l:=by
 cases c<;>(first|exact absurd (mv h) Bool.false_ne_true|skip)<;>simp only[comp]at h<;>(try (simp at h;done))<;>(try exact .inl rfl)<;>(try exact .inr ⟨_,rfl⟩)
 all_goals (try (repeat' split at h))
 all_goals (simp at h)
theorem agr (h:comp P wr c=some .ret):c=.ret:=by
 cases c<;>(first|exact absurd (mv h) Bool.false_ne_true|skip)<;>simp only[comp]at h<;>(try (simp at h;done))<;>(try rfl)
 all_goals (try (repeat' split at h))
 all_goals (simp at h)
theorem afU {id} (h:comp P wr c=some (.exit id)):c=.exit id:=by
 cases c<;>(first|exact absurd (mv h) Bool.false_ne_true|skip)<;>simp only[comp]at h<;>(try (simp at h;done))
 all_goals (try (repeat' split at h))
 all_goals (try (simp at h;done))
 simp at h;rw[h]
theorem ags {x y} (h:comp P wr c=some (.seq x y)):∃a b,c=.seq a b/\comp P wr a=some x/\comp P wr b=some y:=by
 cases c<;>(first|exact absurd (mv h) Bool.false_ne_true|skip)<;>simp only[comp]at h<;>(try (simp at h;done))
 all_goals (try (repeat' split at h))
 all_goals (try (simp at h;done))
 simp only[Option.some.injEq,SC.seq.injEq]at h;obtain⟨rfl,rfl⟩:=h;exact⟨_,_,rfl,by assumption,by assumption⟩
theorem O4 {v x y} (h:comp P wr c=some (.cond v x y)):∃o a b,c=.cond o a b/\v=ak o/\comp P wr a=some x/\comp P wr b=some y:=by
 cases c<;>(first|exact absurd (mv h) Bool.false_ne_true|skip)<;>simp only[comp]at h<;>(try (simp at h;done))
 all_goals (try (repeat' split at h))
 all_goals (try (simp at h;done))
 simp only[Option.some.injEq,SC.cond.injEq]at h;obtain⟨rfl,rfl,rfl⟩:=h;exact⟨_,_,_,rfl,rfl,by assumption,by assumption⟩
theorem aeJ {id x} (h:comp P wr c=some (.block id x)):∃a,c=.block id a/\comp P wr a=some x:=by
 cases c<;>(first|exact absurd (mv h) Bool.false_ne_true|skip)<;>simp only[comp]at h<;>(try (simp at h;done))
 all_goals (try (repeat' split at h))
 all_goals (try (simp at h;done))
 simp only[Option.map_eq_some_iff,SC.block.injEq]at h;obtain⟨a,h,rfl,rfl⟩:=h;exact⟨_,rfl,h⟩
theorem afV {x} (h:comp P wr c=some (.loop x)):∃a,c=.loop a/\comp P wr a=some x:=by
 cases c<;>(first|exact absurd (mv h) Bool.false_ne_true|skip)<;>simp only[comp]at h<;>(try (simp at h;done))
 all_goals (try (repeat' split at h))
 all_goals (try (simp at h;done))
 simp only[Option.map_eq_some_iff,SC.loop.injEq]at h;obtain⟨a,h,rfl⟩:=h;exact⟨_,rfl,h⟩
theorem aeK {x} (h:comp P wr c=some (.scope x)):∃a,c=.scope a/\comp P wr a=some x:=by
 cases c<;>(first|exact absurd (mv h) Bool.false_ne_true|skip)<;>simp only[comp]at h<;>(try (simp at h;done))
 all_goals (try (repeat' split at h))
 all_goals (try (simp at h;done))
 simp only[Option.map_eq_some_iff,SC.scope.injEq]at h;obtain⟨a,h,rfl⟩:=h;exact⟨_,rfl,h⟩
theorem PF {d l} (h:comp P wr c=some (.ops d l)):∃id ops,c=.region id ops d:=by
 cases c with
 | region id ops dr=>
   obtain⟨fl,_,_,e,_⟩:=GQ h;exact⟨id,ops,by rw[e]⟩
 | _=>
   simp only[comp]at h
   all_goals (try (repeat' split at h))
   all_goals (simp at h)
end comp
theorem ag7 {P:Program} {id:Nat} {k0:List Item} {k:List SI} (h:cX P k0 k):∀ {k'},ez id k=some k'->∃k0',exitTo id k0=some k0'/\cX P k0' k':=by
 induction h with
 | nil=>intro k' h;cases h
 | code wr h r ih=>intro k' h;simp only[ez,exitTo]at h ⊢;exact ih h
 | region wr h r ih=>intro k' h;simp only[ez,exitTo]at h ⊢;exact ih h
 | @blk id' k l r ih=>
   intro k' h;simp only[ez,exitTo]at h ⊢;split at h
   ·rename_i e;cases h;exact⟨k,by rw[if_pos e],r⟩
   ·rename_i e;obtain⟨k0',h1,h2⟩:=ih h;exact⟨k0',by rw[if_neg e];exact h1,h2⟩
 | lp wr h r ih=>intro k' h;simp only[ez,exitTo]at h ⊢;exact ih h
 | scp r ih=>intro k' h;simp only[ez,exitTo]at h ⊢;exact ih h
 | lF wr h r ih=>intro k' h;simp only[ez,exitTo]at h ⊢;exact ih h
theorem dl.step {X:Ctx} {k k':List SI} {t:List AV} {H:AH} (h:go X k' t H)
 (hs:∀items,cX X.P items k->∃items',cX X.P items' k'/\∀(b:Frame) (a:Act) w M S,dC M S w t a.tmps->∀cs,Go.step X.P (lone (b.at a items) cs w)=.next (lone (b.at a items') cs w)):dl X k t H:=by
 intro hok M0 S0 w0 hp0 M S a w items hr hf ht hh hd b hb hbk;obtain⟨items',hr',hst⟩:=hs items hr;exact Fin'.step (hst b a w M S ht) (g5 h hok M0 S0 w0 hp0 M S a w items' hr' hf ht hh hd b hb hbk)
theorem H4 {P:Program} {M S w H} {t:List AV} {tmps:Array Value} (ht:dC M S w t tmps) (hh:aE M S H w):∀(rl:List ResultVar) (rs:List Rs) (p:Prop) (l:List AV),gq P rl=some rs->resV t H rs=some (p,l)->p->
 ∃vs:List Value,(rl.mapM (m:=Sem) fun
  | .tmp t=>pure (tmps.getD t undef)
  | .cell a t=>do loadVar t (<- asAddr (tmps.getD a undef))).run P w=.ok vs w/\vs.length=l.length/\∀i,i<l.length->am M S w (vs.getD i undef) (l.getD i .any)
 | [],rs,p,l,hc,hr,hp=>by
   cases hc;cases hr;exact⟨[],rfl,rfl,λi hi=>by simp at hi⟩
 | .tmp n::rl,rs,p,l,hc,hr,hp=>by
   simp only[gq,Option.map_eq_some_iff]at hc;obtain⟨rs',hc,rfl⟩:=hc;simp only[resV,Option.map_eq_some_iff]at hr;obtain⟨⟨p',l'⟩,hr,he⟩:=hr;simp only[Prod.mk.injEq]at he;obtain⟨rfl,rfl⟩:=he;obtain⟨vs,h1,h2,h3⟩:=H4 ht hh rl rs' p' l' hc hr hp;refine⟨tmps.getD n undef::vs,?_,by simp[h2],λi hi=>?_⟩
   ·simp only[List.mapM_cons,Sem.run_bind,Sem.run_pure,Result.andThen_ok,h1]
   ·cases i with
    | zero=>
      have:=mj (a:=⟨tmps,[]⟩) ht rfl (.tmp n);simpa[Act.eval,ak,od]using this
    | succ i=>simpa using h3 i (by simpa using hi)
 | .cell ad ty::rl,rs,p,l,hc,hr,hp=>by
   simp only[gq]at hc;split at hc
   ·rename_i n rs' hl hc';cases hc;simp only[resV]at hr;split at hr
    ·rename_i b o e;simp only[Option.map_eq_some_iff]at hr;obtain⟨⟨p',l'⟩,hr,he⟩:=hr;simp only[Prod.mk.injEq]at he;obtain⟨rfl,rfl⟩:=he;obtain⟨hb,hp⟩:=hp;obtain⟨vs,h1,h2,h3⟩:=H4 ht hh rl rs' p' l' hc' hr hp;have hrep:=mj (a:=⟨tmps,[]⟩) ht rfl (.tmp ad);simp only[Act.eval,ak,od,e]at hrep;generalize hv:tmps.getD ad undef=v at hrep;cases hrep with
     | data h=>cases h
     | ptr _ _ hbb=>
       obtain⟨_,c,T,hg,hcs,hall⟩:=hh.box b (by rw[<- hh.nb];exact hbb);obtain⟨_,_,_,Uu⟩:=nY (show hO P ty=some (n.1,n.2)from hl);have hld:=As (P:=P) (ty:=ty) (n:=n.1) (ag:=n.2) hl hg (o:=o) (by rw[hcs];exact hb);refine⟨(if n.2 then .agg (c.extract o (o+n.1))else c.getD o undef)::vs,?_,by simp[h2],λi hi=>?_⟩
       ·have ha:(asAddr (tmps.getD ad undef)).run P w=.ok ⟨M.box b,o,none⟩ w:=by rw[hv];rfl
        simp only[List.mapM_cons,Sem.run_bind,ha,Sem.run_pure,Result.andThen_ok,hld,h1]
       ·cases i with
        | zero=>simpa using pJ hcs (λi hi=>(hall i hi).2) hb Uu
        | succ i=>simpa using h3 i (by simpa using hi)
    ·cases hr
   ·cases hc
theorem Qy {P:Program} {fn:Func} {rs:List Rs} (hc:gq P fn.results.toList=some rs) {M S w H} {t:List AV} {tmps:Array Value} (ht:dC M S w t tmps) (hh:aE M S H w) {p:Prop} {l:List AV} (hr:resV t H rs=some (p,l)) (hp:p):
 ∃v,(results fn tmps).run P w=.ok v w/\am M S w v (f5 l):=by
 obtain⟨vs,h1,h2,h3⟩:=H4 ht hh _ _ _ _ hc hr hp;have hm:(fn.results.mapM (m:=Sem) fun
  | .tmp t=>pure (tmps.getD t undef)
  | .cell a t=>do loadVar t (<- asAddr (tmps.getD a undef))).run P w=.ok vs.toArray w:=by
  rw[Array.mapM_eq_mapM_toList,Sem.run_map,h1];rfl
 have hres:(results fn tmps).run P w=.ok (if h:vs.toArray.size=1 then vs.toArray[0]else .tuple vs.toArray) w:=by
  unfold results;rw[Sem.run_bind];exact congrArg (λr=>Result.andThen r (λ(a:Array Value) w'=>(pure (if h:a.size=1 then a[0]else .tuple a):Sem Value).run P w')) hm
 rw[hres];by_cases h:l.length=1
 ·obtain⟨x,rfl⟩:=List.length_eq_one_iff.1 h;obtain⟨v,rfl⟩:=List.length_eq_one_iff.1 (h2.trans h);exact⟨v,by simp,by simpa[f5]using h3 0 (by simp)⟩
 ·have hv:¬vs.toArray.size=1:=by simp;omega
  refine⟨.tuple vs.toArray,by rw[dif_neg hv],?_⟩;have:f5 l=.aL l:=by
   match l,h with
   | [],_=>rfl
   | [x],h=>exact absurd rfl h
   | _::_::_,_=>rfl
  rw[this];exact .aL _ _ (by simp[h2]) λi hi=>by
   have hi':i<vs.length:=by omega
   have:=h3 i hi;simpa[Array.getD,List.getD,hi']using this
theorem Qk {X:Ctx} {k:List SI} {t:List AV} {H:AH} (h:m6 X t H (resV t H X.res))
 (hs:∀items,cX X.P items k->∀(b:Frame) (a:Act) w cs,∃fr,Go.step X.P (lone (b.at a items) cs w)=.next (lone fr cs w)/\fr={ b.at a fr.todo with mode:=.returning }):dl X k t H:=by
 intro hok M0 S0 w0 hp0 M S a w items hr hf ht hh hd b hb hbk cs;unfold m6 at h;split at h
 ·rename_i p l hres;obtain⟨hp,hq⟩:=h;obtain⟨v,hrun,hv⟩:=Qy hok.res ht hh hres hp;obtain⟨fr,hst,hfr⟩:=hs items hr b a w cs;refine⟨.returned v,w,fr,⟨t,_,H,M,S,hq,by rw[hfr];exact ht,hv,hh,hf⟩,.one hst,by rw[hfr];rfl,?_⟩;rw[hfr];exact⟨rfl,hd,hbk,X.fn,by rw[show({ b.at a fr.todo with mode:=FrameMode.returning }:Frame).fn=X.fid from hb];exact hok.fn,hrun⟩
 ·exact h.elim
theorem Pm {x:FE} {l:List FE} (h:good (x::l)=true):good l=true:=by
 simp only[good,List.all_cons,Bool.and_eq_true]at h ⊢;exact h.2
theorem Hy {X:Ctx} {dr:Bool} {k:List SI} {j:Nat} {w:Bool} (rest:List FE):∀(l:List SP) (t:List AV) (H:AH),(∀s∈l,s.d≠some j)->t.getD j .any=.v (.bool w)->
 Ch X dr k (l.map (λs=>(⟨none,s.d,s.o⟩:FE))++rest) t H->Ch X dr k (l.map (λs=>(⟨some (j,w),s.d,s.o⟩:FE))++rest) t H
 | [],_,_,_,_,h=>h
 | s::l,t,H,hd,hj,h=>by
   have hne:s.d≠some j:=hd s (by simp);have hput:∀r,(a9 t s.d r).getD j .any=.v (.bool w):=λr=>by rw[z9 hne];exact hj
   have ha:act t (some (j,w))=some true:=by simp only[act,hj];cases w<;>rfl
   rcases h with⟨_,r,H',he,hc⟩|⟨h0,_⟩|⟨hdr,_,r,H',he,hq⟩|⟨hdr,_,ps,he,hc⟩
   ·exact .inl ⟨ha,r,H',he,Hy rest l _ _ (λz hz=>hd z (by simp[hz])) (hput r) hc⟩
   ·simp[act]at h0
   ·exact .inr (.inr (.inl ⟨hdr,ha,r,H',he,hq⟩))
   ·exact .inr (.inr (.inr ⟨hdr,ha,ps,he,λp hp hp1=>Hy rest l _ _ (λz hz=>hd z (by simp[hz])) (hput p.2) (hc p hp hp1)⟩))
theorem HM {X:Ctx} {dr:Bool} {k:List SI} {j:Nat} {w:Bool} (rest:List FE):∀(l:List SP) (t:List AV) (H:AH),(∀s∈l,s.d≠some j)->act t (some (j,w))=some false->
 Ch X dr k rest (oX t l) H->Ch X dr k (l.map (λs=>(⟨some (j,w),s.d,s.o⟩:FE))++rest) t H
 | [],_,_,_,_,h=>h
 | s::l,t,H,hd,hj,h=>by
   have hne:s.d≠some j:=hd s (by simp);refine .inr (.inl ⟨hj,HM rest l _ _ (λz hz=>hd z (by simp[hz])) ?_ h⟩);simp only[act,z9 hne]at hj ⊢;exact hj
theorem aeC (l:List SP) (r:List SL):flat (l.map SP.sl++r)=l.map (λs=>(⟨none,s.d,s.o⟩:FE))++flat r:=by
 induction l with
 | nil=>rfl
 | cons s l ih=>simp only[flat,List.map_cons,List.cons_append,List.flatMap_cons,SP.sl,SL.flat,List.nil_append]at ih ⊢;rw[ih]
theorem af7 (l:List SP) (r:List FE) (h:good r=true):good (l.map (λs=>(⟨none,s.d,s.o⟩:FE))++r)=true:=by
 simp only[good,List.all_append,Bool.and_eq_true]at h ⊢;exact⟨by simp,h⟩
theorem AT {X:Ctx} {dr:Bool} {k:List SI}:∀ {l:List FE} {t:List AV} {H:AH},Ch X dr k l t H->ot X dr (jN X k) l t H
 | [],_,_,h=>h
 | x::l,t,H,h=>by
   rcases h with⟨h1,r,H',h2,h3⟩|⟨h1,h3⟩|⟨h1,h2,h3⟩|⟨h1,h2,ps,h3,h4⟩
   ·exact .inl ⟨h1,r,H',h2,AT h3⟩
   ·exact .inr (.inl ⟨h1,AT h3⟩)
   ·exact .inr (.inr (.inl ⟨h1,h2,h3⟩))
   ·exact .inr (.inr (.inr ⟨h1,h2,ps,h3,λp hp hp1=>AT (h4 p hp hp1)⟩))
theorem aeD {l:List FE} {p:FE->Bool} (h:good l=true):good (l.filter p)=true:=by
 simp only[good,List.all_eq_true]at h ⊢;exact λx hx=>h x (List.mem_filter.1 hx).1
theorem aic {X:Ctx} {k:List SI} {t:List AV} {H:AH} (h:go X k t H):jN X k t H:=by
 cases k with
 | nil=>exact h
 | cons x k=>
   cases x with
   | ops d l=>exact g5 h
   | _=>exact h
theorem bU:∀(n:Nat) (X:Ctx) (k:List SI) (t:List AV) (H:AH),run n X k t H->go X k t H
 | 0,_,_,_,_,h=>h
 | n+1,X,[],t,H,h=>Qk (k:=[]) h λitems hr b a w cs=>by
   cases hr;exact⟨_,step_end,rfl⟩
 | n+1,X,.c .skip::k,t,H,h=>dl.step (bU n X k t H h) λitems hr=>by
   cases hr with
   | code wr hc r=>
     rcases afX hc with rfl|⟨l,rfl⟩
     ·exact⟨_,r,λb a w M S _ cs=>step_skip⟩
     ·exact⟨_,r,λb a w M S _ cs=>rfl⟩
 | n+1,X,.c (.ops d l)::k,t,H,h=>by
   intro hok M0 S0 w0 hp0 M S a w items hr hf ht hh hd b hb hbk;cases hr with
   | code wr hc r=>
     obtain⟨id,ops,rfl⟩:=PF hc;exact g5 (bU n X (.ops d l::k) t H h) hok M0 S0 w0 hp0 M S a w _ (.region wr hc r) hf ht hh hd b hb hbk
 | n+1,X,.c (.priv l bs)::k,t,H,h=>by
   intro hok M0 S0 w0 hp0 M S a w items hr hf ht hh hd b hb hbk;cases hr with
   | code wr hc r=>
     obtain⟨id,ops,wr',fl,rfl,hl,hp,hbs,rfl⟩:=afW hc;have hg:=bU n X (.ops true _::.pv bs::k) t H h;simp only[go,tq]at hg;have hch:=hg (aeD (zw hl));exact aeZ r hok hl hp hbs hb hbk hp0 (AT hch) hf ht hh hd
 | n+1,X,.c (.alts (some l) _)::k,t,H,h=>P7 (bU n X (.ops true l::k) t H h)
 | n+1,X,.c (.alts none _)::_,t,H,h=>False.elim h
 | n+1,X,.pv bs::k,t,H,h=>⟨h.1,g5 (bU n X k _ _ h.2)⟩
 | n+1,X,.c (.seq x y)::k,t,H,h=>dl.step (bU n X (.c x::.c y::k) t H h) λitems hr=>by
   cases hr with
   | code wr hc r=>obtain⟨p,q,rfl,h1,h2⟩:=ags hc;exact⟨_,.code wr h1 (.code wr h2 r),λb a w M S _ cs=>step_seq⟩
 | n+1,X,.c (.cond v x y)::k,t,H,h=>by
   simp only[run,B9]at h;split at h
   ·rename_i b e;cases b with
    | true=>
      exact dl.step (bU n X (.c x::k) t H (h.1 rfl)) λitems hr=>by
       cases hr with
       | code wr hc r=>
         obtain⟨o,p,q,rfl,rfl,h1,h2⟩:=O4 hc;refine⟨_,.code wr h1 r,λb a w M S ht cs=>?_⟩;have:=mj ht rfl o;rw[e]at this;exact step_cond this.bh
    | false=>
      exact dl.step (bU n X (.c y::k) t H (h.2 rfl)) λitems hr=>by
       cases hr with
       | code wr hc r=>
         obtain⟨o,p,q,rfl,rfl,h1,h2⟩:=O4 hc;refine⟨_,.code wr h2 r,λb a w M S ht cs=>?_⟩;have:=mj ht rfl o;rw[e]at this;exact step_cond this.bh
   ·exact h.elim
 | n+1,X,.c (.block id x)::k,t,H,h=>dl.step (bU n X (.c x::.blk id::k) t H h) λitems hr=>by
   cases hr with
   | code wr hc r=>obtain⟨p,rfl,h1⟩:=aeJ hc;exact⟨_,.code wr h1 (.blk r),λb a w M S _ cs=>step_block⟩
 | n+1,X,.c (.loop x)::k,t,H,h=>by
   intro hok M0 S0 w0 hp0 M S a w items hr hf ht hh hd b hb hbk;cases hr with
   | code wr hc r=>
     obtain⟨p,rfl,h1⟩:=afV hc;exact g5 (X:=X) (k:=.lp x::k) (t:=t) (H:=H) h hok M0 S0 w0 hp0 M S a w _ (.lF wr h1 r) hf ht hh hd b hb hbk
 | n+1,X,.c (.exit id)::k,t,H,h=>by
   simp only[run,Ca]at h;split at h
   ·rename_i k' hk';exact dl.step (bU n X k' t H h) λitems hr=>by
     cases hr with
     | code wr hc r=>
       obtain rfl:=afU hc;obtain⟨k0',h1,h2⟩:=ag7 r hk';exact⟨_,h2,λb a w M S _ cs=>step_exit h1⟩
   ·exact h.elim
 | n+1,X,.c .ret::k,t,H,h=>Qk (k:=.c .ret::k) h λitems hr b a w cs=>by
   cases hr with
   | code wr hc r=>obtain rfl:=agr hc;exact⟨_,step_ret,rfl⟩
 | n+1,X,.blk id::k,t,H,h=>dl.step (bU n X k t H h) λitems hr=>by
   cases hr with
   | blk r=>exact⟨_,r,λb a w M S _ cs=>step_inBlock⟩
 | n+1,X,.c (.scope x)::k,t,H,h=>dl.step (bU n X (.c x::.scp::k) t H h) λitems hr=>by
   cases hr with
   | code wr hc r=>obtain⟨p,rfl,h1⟩:=aeK hc;exact⟨_,.code wr h1 (.scp r),λb a w M S _ cs=>step_scope⟩
 | n+1,X,.scp::k,t,H,h=>dl.step (bU n X k t H h) λitems hr=>by
   cases hr with
   | scp r=>exact⟨_,r,λb a w M S _ cs=>step_inScope⟩
 | n+1,X,.lp x::k,t,H,h=>h
 | n+1,X,.c .bad::k,t,H,h=>h.elim
 | n+1,X,.ops d []::k,t,H,h=>λ_=>aic (bU n X k t H h)
 | n+1,X,.ops dr (.grp j w l1::l)::k,t,H,h=>by
   intro hgood;have hfl:flat (.grp j w l1::l)=l1.map (λs=>(⟨some (j,w),s.d,s.o⟩:FE))++flat l:=by simp[flat,SL.flat]
   rw[hfl]at hgood ⊢;have hd:∀s∈l1,s.d≠some j:=λs hs=>by
    simp only[good,List.all_append,Bool.and_eq_true,List.all_eq_true]at hgood;have:=hgood.1 ⟨some (j,w),s.d,s.o⟩ (List.mem_map.2 ⟨s,hs,rfl⟩);simpa using this
   have hg2:good (flat l)=true:=by
    simp only[good,List.all_append,Bool.and_eq_true]at hgood;exact hgood.2
   simp only[run,uZ]at h;split at h
   ·rename_i b e;by_cases hb:b=w
    ·subst hb;have:=bU n X (.ops dr (l1.map SP.sl++l)::k) t H (h.1 rfl);simp only[go,aeC]at this;exact Hy _ l1 t H hd e (this (af7 _ _ hg2))
    ·have:=bU n X (.ops dr l::k) (oX t l1) H (h.2 hb);exact HM _ l1 t H hd (by simp only[act,e];cases b<;>cases w<;>simp_all) (this hg2)
   ·rename_i vs e;have:=bU n X (.ops dr l::k) (oX t l1) H h;exact HM _ l1 t H hd (by simp only[act,e]) (this hg2)
   ·exact h.elim
 | n+1,X,.ops dr (.op d o::l)::k,t,H,h=>by
   intro hgood;have hfl:flat (.op d o::l)=⟨none,d,o⟩::flat l:=by simp[flat,SL.flat]
   rw[hfl]at hgood ⊢;have hg2:=Pm hgood;have vc:∀ {f:FuncId} {args:List AV},wu X dr d f args l k t H->(∀ {e:AE} {H':AH},Enters X.P f->bQ X.P f args H e H'->OS X.P o t H e H')->(∀ {H0:AH} {e:AE} {H':AH},Enters X.P f->bQ X.P f args H0 e H'->OS X.P o t H0 e H')->o.acts=false->o.news=false->o.frames=false->
    Ch X dr k (⟨none,d,o⟩::flat l) t H:=by
    intro f args ⟨hen,hv⟩ hos hos0 hac hnw hfm;rcases hv with⟨r,H',hc,hdr,hg⟩|⟨hdr,r,H',hc,hq⟩
    ·exact .inl ⟨rfl,r,H',⟨hos hen hc,λe=>⟨λ_=>(hdr e).1,λ_ _ H0=>hos0 hen ((hdr e).2 H0),λ_ bx=>hos0 hen ((hdr e).2 _),λh=>(by rw[hnw]at h;cases h),λh=>by rw[hfm]at h;cases h⟩⟩,hg hg2⟩
    ·exact .inr (.inr (.inl ⟨hdr,rfl,r,H',hos hen hc,hq⟩))
   have vr:rM X dr d o l k t H->Ch X dr k (⟨none,d,o⟩::flat l) t H:=by
    rintro(⟨r,H',hes,hg⟩|⟨hdr,r,H',hos,hq⟩|⟨hdr,ps,hos,hg⟩)
    ·exact .inl ⟨rfl,r,H',hes,hg hg2⟩
    ·exact .inr (.inr (.inl ⟨hdr,rfl,r,H',hos,hq⟩))
    ·exact .inr (.inr (.inr ⟨hdr,rfl,ps,hos,λp hp hp1=>hg p hp hp1 hg2⟩))
   cases o with
   | call f as=>
     rcases h with h|h
     ·exact vc h (λhen hc=>Qt hen hc) (λhen hc=>Qt hen hc) rfl rfl rfl
     ·exact vr h
   | raw o ty=>exact vr h
   | gr x as=>
     simp only[run,B8]at h;split at h
     ·rename_i f fs cs e;exact vc h (λhen hc=>PW e hen hc) (λhen hc=>PW e hen hc) rfl rfl rfl
     ·exact h.elim
   | _=>
     obtain⟨r,H',hes,hr⟩:=In (P:=X.P) h;exact .inl ⟨rfl,r,H',hes,bU n X (.ops dr l::k) _ _ hr hg2⟩
theorem Uf {X:Ctx} {b:SC} {k:List SI} {t:List AV} {H:AH} (h:go X (.c b::.lp b::k) t H):go X (.lp b::k) t H:=
 dl.step (k:=.lp b::k) h λitems hr=>by
  cases hr with
  | lp wr hc r=>exact⟨_,.code wr hc (.lp wr hc r),λb a w M S _ cs=>step_inLoop⟩
  | lF wr hc r=>exact⟨_,.code wr hc (.lp wr hc r),λb a w M S _ cs=>step_loop⟩
end
section
def dG (R:AV->AV->Prop):List AV->List AV->Prop
 | [],[]=>True
 | x::xs,y::ys=>R x y/\dG R xs ys
 | _,_=>False
theorem pT {R:AV->AV->Prop}:∀ {xs ys:List AV},dG R xs ys->xs.length=ys.length/\∀i,i<ys.length->R (xs.getD i .any) (ys.getD i .any)
 | [],[],_=>⟨rfl,λi hi=>by simp at hi⟩
 | x::xs,y::ys,h=>by
   obtain⟨h1,h2⟩:=pT h.2;refine⟨by simp[h1],λi hi=>?_⟩;cases i with
   | zero=>simpa using h.1
   | succ i=>simpa using h2 i (by simpa using hi)
 | [],_::_,h=>h.elim
 | _::_,[],h=>h.elim
def du (rb rt:List Nat) (H:AH):AV->AV->Prop
 | _,.any=>True
 | .own u,.own v=>rt[v]?=some u
 | .own u,.sl k xs=>H.buf.getD u .dead=.bf k xs
 | .emp,.sl _ xs=>xs=[]
 | .ptr b o,.ptr b' o'=>rb[b']?=some b/\o=o'
 | .cq b o n k,.cq b' o' n' k'=>rb[b']?=some b/\o=o'/\n=n'/\k=k'
 | .bz u k i o,.bz v k' i' o'=>rt[v]?=some u/\k=k'/\i=i'/\o=o'
 | x,y=>x=y/\y.dat=true
def le0 (rb rt:List Nat) (H:AH):AV->AV->Prop
 | .agg a,.agg b=>dG (du rb rt H) a b
 | x,y=>du rb rt H x y
def eP (rb rt:List Nat) (H:AH):AV->AV->Prop
 | .fn f a b,.fn f' a' b'=>f=f'/\dG (du rb rt H) a a'/\dG (du rb rt H) b b'
 | .aG t x,.aG t' x'=>t=t'/\le0 rb rt H x x'
 | x,y=>du rb rt H x y
def le1 (rb rt:List Nat) (H:AH):AV->AV->Prop
 | .agg a,.agg b=>dG (eP rb rt H) a b
 | x,y=>eP rb rt H x y
def dF (rb rt:List Nat) (H:AH):AV->AV->Prop
 | .aL a,.aL b=>dG (le1 rb rt H) a b
 | x,y=>le1 rb rt H x y
def Maps.ren (M:Maps) (rb rt:List Nat):Maps:=⟨rb.length,rt.length,λb=>M.box (rb.getD b 0),λt=>M.bv (rt.getD t 0)⟩
section
variable {M:Maps} {S:Nat->Prop} {H:AH} {w:World} {rb rt:List Nat}
theorem tP {l:List Nat} {i u:Nat} (h:l[i]?=some u):i<l.length/\l.getD i 0=u:=⟨(List.getElem?_eq_some_iff.1 h).1,by simp[List.getD,h]⟩
theorem tT (hh:aE M S H w) {v x y} (h:am M S w v x) (hle:du rb rt H x y):am (M.ren rb rt) S w v y:=by
 unfold du at hle;split at hle
 ·exact .data (.any _)
 ·rename_i u v';obtain⟨h1,h2⟩:=tP hle;cases h with
  | data h=>cases h
  | own _ ht hs=>
    have e:(M.ren rb rt).bv v'=M.bv u:=by simp only[Maps.ren,h2]
    have:=am.own (M:=M.ren rb rt) (S:=S) (w:=w) v' h1 (by rw[e];exact hs)
    rwa [e]at this
 ·rename_i u k xs;have:=tB hh h;simp only[gO,hle,qQ]at this;exact .data (dy this rfl)
 ·subst hle;cases dy h rfl;exact .data (.sl0 _ _ _)
 ·rename_i b o b' o';obtain⟨hle,rfl⟩:=hle;obtain⟨h1,h2⟩:=tP hle;cases h with
  | data h=>cases h
  | ptr _ _ hb=>
    have e:(M.ren rb rt).box b'=M.box b:=by simp only[Maps.ren,h2]
    have:=am.ptr (M:=M.ren rb rt) (S:=S) (w:=w) b' o h1
    rwa [e]at this
 ·rename_i b o n k b' o' n' k';obtain⟨hle,rfl,rfl,rfl⟩:=hle;obtain⟨h1,h2⟩:=tP hle;cases h with
  | data h=>cases h
  | cq _ _ _ _ cap hb=>
    have e:(M.ren rb rt).box b'=M.box b:=by simp only[Maps.ren,h2]
    have:=am.cq (M:=M.ren rb rt) (S:=S) (w:=w) b' o n k cap h1
    rwa [e]at this
 ·rename_i u k i o v' k' i' o';obtain⟨hle,rfl,rfl,rfl⟩:=hle;obtain⟨h1,h2⟩:=tP hle;cases h with
  | data h=>cases h
  | bz _ _ _ _ g n cap ht hv=>exact .bz v' k i o g n cap h1 (by simp only[Maps.ren,h2];exact hv)
 ·obtain⟨rfl,hd⟩:=hle;exact .data (dy h hd)
theorem n3 {R:AV->AV->Prop} {M':Maps} {vs:Array Value} {as bs:List AV} (hR:∀ {v x y},am M S w v x->R x y->am M' S w v y) (h:dG R as bs) (hn:vs.size=as.length) (hall:∀i,i<as.length->am M S w (vs.getD i undef) (as.getD i .any)):
 vs.size=bs.length/\∀i,i<bs.length->am M' S w (vs.getD i undef) (bs.getD i .any):=by
 obtain⟨h1,h2⟩:=pT h;exact⟨by omega,λi hi=>hR (hall i (by omega)) (h2 i hi)⟩
theorem Qw (hh:aE M S H w) {v x y} (h:am M S w v x) (hle:le0 rb rt H x y):am (M.ren rb rt) S w v y:=by
 unfold le0 at hle;split at hle
 ·obtain⟨vs,rfl,hn,hall⟩:=n5 h;obtain⟨h1,h2⟩:=n3 (λh hle=>tT hh h hle) hle hn hall;exact .agg _ _ h1 h2
 ·exact tT hh h hle
theorem HZ (hh:aE M S H w) {v x y} (h:am M S w v x) (hle:eP rb rt H x y):am (M.ren rb rt) S w v y:=by
 unfold eP at hle;split at hle
 ·obtain⟨rfl,ha,hb⟩:=hle;obtain⟨vs,us,rfl,hn,hm,h1,h2⟩:=Rw h;obtain⟨q1,q2⟩:=n3 (λh hle=>tT hh h hle) ha hn h1;obtain⟨q3,q4⟩:=n3 (λh hle=>tT hh h hle) hb hm h2;exact .fn _ _ _ _ _ q1 q3 q2 q4
 ·obtain⟨rfl,hx⟩:=hle;cases h with
  | data h=>cases h with|aG _ v _ h=>exact .aG _ _ _ (Qw hh (.data h) hx)
  | aG _ v _ h=>exact .aG _ _ _ (Qw hh h hx)
 ·exact tT hh h hle
theorem HY (hh:aE M S H w) {v x y} (h:am M S w v x) (hle:le1 rb rt H x y):am (M.ren rb rt) S w v y:=by
 unfold le1 at hle;split at hle
 ·obtain⟨vs,rfl,hn,hall⟩:=n5 h;obtain⟨h1,h2⟩:=n3 (λh hle=>HZ hh h hle) hle hn hall;exact .agg _ _ h1 h2
 ·exact HZ hh h hle
theorem p9 (hh:aE M S H w) {v x y} (h:am M S w v x) (hle:dF rb rt H x y):am (M.ren rb rt) S w v y:=by
 unfold dF at hle;split at hle
 ·cases h with
  | data h=>
    cases h with
    | aL vs _ hn hall=>
      obtain⟨h1,h2⟩:=n3 (M:=M) (λh hle=>HY hh h hle) hle hn λi hi=>.data (hall i hi);exact .aL _ _ h1 h2
  | aL vs _ hn hall=>
    obtain⟨h1,h2⟩:=n3 (λh hle=>HY hh h hle) hle hn hall;exact .aL _ _ h1 h2
 ·exact HY hh h hle
def oZ:Buf->Buf->Prop
 | _,.dead=>True
 | .live k xs,.live k' xs'=>k=k'/\xs=xs'
 | .bf k xs,.bf k' xs'=>k=k'/\xs=xs'
 | .map q k xs,.map q' k' xs'=>q=q'/\k=k'/\xs=xs'
 | _,_=>False
def vp (rb rt:List Nat) (H:AH):List Nat->List (List AV)->Prop
 | [],[]=>True
 | b::l,cs::r=>b<H.box.length/\ones cs=true/\dG (eP rb rt H) (H.box.getD b []) cs/\vp rb rt H l r
 | _,_=>False
def vq (H:AH):List Nat->List Buf->Prop
 | [],[]=>True
 | t::l,B::r=>t<H.buf.length/\oZ (H.buf.getD t .dead) B/\vq H l r
 | _,_=>False
def eD:List Nat->List Buf->List Nat
 | t::l,.live _ _::r=>t::eD l r
 | t::l,.map _ _ _::r=>t::eD l r
 | _::l,_::r=>eD l r
 | _,_=>[]
def nodup:List Nat->Bool
 | []=>true
 | x::l=>!l.contains x&&nodup l
structure qr (rb rt:List Nat) (H H':AH):Prop where
 boxes:vp rb rt H rb H'.box
 IM:vq H rt H'.buf
 nb:nodup rb=true
 nt:nodup (eD rt H'.buf)=true
theorem Pt:∀ {l:List Nat},nodup l=true->∀i j,i<l.length->j<l.length->l.getD i 0=l.getD j 0->i=j
 | [],_,i,_,hi,_=>by simp at hi
 | x::l,h,i,j,hi,hj=>by
   simp only[nodup,Bool.and_eq_true,Bool.not_eq_true',List.contains_eq_mem,decide_eq_false_iff_not]at h;have hmem:∀k,k<l.length->l.getD k 0∈l:=λk hk=>by simp[List.getD,hk]
   cases i with
   | zero=>
     cases j with
     | zero=>intro _;rfl
     | succ j=>intro e;exfalso;simp at e hj;apply h.1;rw[e];exact hmem j hj
   | succ i=>
     cases j with
     | zero=>intro e;exfalso;simp at e hi;apply h.1;rw[<- e];exact hmem i hi
     | succ j=>intro e;have:=Pt h.2 i j (by simpa using hi) (by simpa using hj) (by simpa using e);omega
theorem GS {H:AH}:∀ {l:List Nat} {r:List (List AV)},vp rb rt H l r->l.length=r.length/\∀i,i<r.length->l.getD i 0<H.box.length/\ones (r.getD i [])=true/\dG (eP rb rt H) (H.box.getD (l.getD i 0) []) (r.getD i [])
 | [],[],_=>⟨rfl,λi hi=>by simp at hi⟩
 | b::l,cs::r,h=>by
   obtain⟨h1,h2,h3,h4⟩:=h;obtain⟨q1,q2⟩:=GS h4;refine⟨by simp[q1],λi hi=>?_⟩;cases i with
   | zero=>exact⟨h1,h2,h3⟩
   | succ i=>exact q2 i (by simpa using hi)
 | [],_::_,h=>h.elim
 | _::_,[],h=>h.elim
theorem G3 {H:AH}:∀ {l:List Nat} {r:List Buf},vq H l r->l.length=r.length/\∀i,i<r.length->l.getD i 0<H.buf.length/\oZ (H.buf.getD (l.getD i 0) .dead) (r.getD i .dead)
 | [],[],_=>⟨rfl,λi hi=>by simp at hi⟩
 | b::l,cs::r,h=>by
   obtain⟨h1,h2,h3⟩:=h;obtain⟨q1,q2⟩:=G3 h3;refine⟨by simp[q1],λi hi=>?_⟩;cases i with
   | zero=>exact⟨h1,h2⟩
   | succ i=>exact q2 i (by simpa using hi)
 | [],_::_,h=>h.elim
 | _::_,[],h=>h.elim
theorem OK:∀ {l:List Nat} {r:List Buf},l.length=r.length->nodup (eD l r)=true->∀i j,(r.getD i .dead).isLive=true->(r.getD j .dead).isLive=true->l.getD i 0=l.getD j 0->i=j
 | [],[],_,_,i,_,hi,_=>by simp[Buf.isLive]at hi
 | [],_::_,h,_,_,_,_,_=>by simp at h
 | _::_,[],h,_,_,_,_,_=>by simp at h
 | t::l,B::r,hl,h,i,j,hi,hj=>by
   have hmem:∀ {l:List Nat} {r:List Buf},l.length=r.length->∀i,(r.getD i .dead).isLive=true->l.getD i 0∈eD l r:=by
    intro l
    induction l with
    | nil=>intro r hl i hi;have:r=[]:=List.eq_nil_of_length_eq_zero hl.symm;subst this;simp[Buf.isLive]at hi
    | cons t l ih=>
      intro r hl i hi;cases r with
      | nil=>simp at hl
      | cons B r=>
        cases i with
        | zero=>cases B<;>simp[Buf.isLive]at hi<;>simp[eD]
        | succ i=>
          have:=ih (by simpa using hl) i (by simpa using hi);cases B<;>simp only[eD,List.getD_cons_succ]<;>first|exact this|exact List.mem_cons_of_mem _ this
   intro e;have hl':l.length=r.length:=by simpa using hl
   cases i with
   | zero=>
     cases j with
     | zero=>rfl
     | succ j=>
       exfalso;cases B<;>simp[Buf.isLive]at hi<;>
        (simp only[eD,nodup,Bool.and_eq_true,Bool.not_eq_true',List.contains_eq_mem,decide_eq_false_iff_not]at h
         simp only[List.getD_cons_zero,List.getD_cons_succ]at e hj;apply h.1;rw[e];exact hmem hl' j hj)
   | succ i=>
     cases j with
     | zero=>
       exfalso;cases B<;>simp[Buf.isLive]at hj<;>
        (simp only[eD,nodup,Bool.and_eq_true,Bool.not_eq_true',List.contains_eq_mem,decide_eq_false_iff_not]at h
         simp only[List.getD_cons_zero,List.getD_cons_succ]at e hi;apply h.1;rw[<- e];exact hmem hl' i hi)
     | succ j=>
       have h':nodup (eD l r)=true:=by
        cases B<;>simp only[eD,nodup,Bool.and_eq_true]at h<;>first|exact h|exact h.2
       have:=OK hl' h' i j (by simpa using hi) (by simpa using hj) (by simpa using e);omega
theorem aE.ren (hh:aE M S H w) {H':AH} (hl:qr rb rt H H'):aE (M.ren rb rt) S H' w/\(∀g,foot (M.ren rb rt) H' g->foot M H g):=by
 obtain⟨b1,b2⟩:=GS hl.boxes;obtain⟨t1,t2⟩:=G3 hl.IM;have hbv:∀t,(M.ren rb rt).bv t=M.bv (rt.getD t 0):=λ_=>rfl
 have hlv:∀t g,lives (M.ren rb rt) H' t g->lives M H (rt.getD t 0) g:=λt g ⟨h1,h2,h3⟩=>by
  obtain⟨q1,q2⟩:=t2 t h1;refine⟨q1,?_,h3⟩;cases hb:H'.buf.getD t .dead with
  | live k xs=>
    rw[hb]at q2;cases ho:H.buf.getD (rt.getD t 0) .dead with
    | live _ _=>rfl
    | _=>rw[ho]at q2;exact q2.elim
  | map q k xs=>
    rw[hb]at q2;cases ho:H.buf.getD (rt.getD t 0) .dead with
    | map _ _ _=>rfl
    | _=>rw[ho]at q2;exact q2.elim
  | dead=>rw[hb]at h2;cases h2
  | bf _ _=>rw[hb]at h2;cases h2
 refine⟨⟨b1,t1,hh.sits,λb hb=>?_,λt ht=>?_,λb b' h1 h2 e=>?_,λt t' g h1 h2=>?_,λb t g hb h e=>?_⟩,λg h=>?_⟩
 ·obtain⟨q1,q2,q3⟩:=b2 b hb;obtain⟨un,c,T,hg,hcs,hall⟩:=hh.box _ q1;obtain⟨r1,r2⟩:=n3 (λh hle=>HZ hh h hle) q3 hcs λi hi=>(hall i hi).2;exact⟨un,c,T,hg,r1,λi hi=>⟨jI q2 hi,r2 i hi⟩⟩
 ·obtain⟨q1,q2⟩:=t2 t ht;rw[hbv];have:=hh.buf _ q1;cases hb:H'.buf.getD t .dead with
  | dead=>trivial
  | live k xs=>
    rw[hb]at q2;cases ho:H.buf.getD (rt.getD t 0) .dead with
    | live k' xs'=>rw[ho]at q2 this;obtain⟨rfl,rfl⟩:=q2;exact this
    | _=>rw[ho]at q2;exact q2.elim
  | map q k xs=>
    rw[hb]at q2;cases ho:H.buf.getD (rt.getD t 0) .dead with
    | map q' k' xs'=>rw[ho]at q2 this;obtain⟨rfl,rfl,rfl⟩:=q2;exact this
    | _=>rw[ho]at q2;exact q2.elim
  | bf k xs=>
    rw[hb]at q2;cases ho:H.buf.getD (rt.getD t 0) .dead with
    | bf k' xs'=>rw[ho]at q2 this;obtain⟨rfl,rfl⟩:=q2;exact this
    | _=>rw[ho]at q2;exact q2.elim
 ·have hb:=(b2 b h1).1;have hb':=(b2 b' h2).1;exact Pt hl.nb b b' (by omega) (by omega) (hh.bb _ _ hb hb' e)
 ·exact OK t1 hl.nt t t' h1.2.1 h2.2.1 (hh.tt _ _ g (hlv t g h1) (hlv t' g h2))
 ·exact hh.bt _ _ g (b2 b hb).1 (hlv t g h) e
 ·rcases h with⟨b,hb,e⟩|⟨t,h⟩
  ·exact .inl ⟨_,(b2 b hb).1,e⟩
  ·exact .inr ⟨_,hlv t g h⟩
end
end
def keeps (n:Nat) (l:List Nat):Bool:=l.take n==List.range n
theorem Pp {n:Nat} {l:List Nat} (h:keeps n l=true):n<=l.length/\∀i,i<n->l.getD i 0=i:=by
 have e:l.take n=List.range n:=by simpa[keeps]using h
 have hl:n<=l.length:=by
  have:=congrArg List.length e;simp at this;omega
 refine⟨hl,λi hi=>?_⟩;have:=congrArg (λl=>l.getD i 0) e;simpa[List.getD,List.getElem?_take_of_lt hi,hi]using this
structure Tc (aI:AH) (fs rb rt:List Nat) (t:List AV) (H:AH) (t':List AV) (H':AH):Prop where
 kb:keeps aI.box.length rb=true
 kt:keeps aI.buf.length rt=true
 heap:qr rb rt (bC H fs) H'
 slots:dG (dF rb rt (bC H fs)) t t'
theorem QU {M0 S0 aI w0 M S H w S1 rb rt} {fs:List Nat} {H':AH} (hf:aU M0 S0 aI w0 M S H w) (hf1:aU M S H w M S1 (bC H fs) w) (kb:keeps aI.box.length rb=true) (kt:keeps aI.buf.length rt=true) (gQ:∀g,foot (M.ren rb rt) H' g->foot M (bC H fs) g):
 aU M0 S0 aI w0 (M.ren rb rt) S1 H' w:=by
 have h2:=hf.trans hf1;obtain⟨b1,b2⟩:=Pp kb;obtain⟨t1,t2⟩:=Pp kt;refine⟨hf.gW,hf.gX,h2.os,h2.tape,h2.output,h2.size,h2.sub,h2.cv,h2.old,⟨by rw[hf.gW];exact b1,by rw[hf.gX];exact t1,λb hb=>?_,λt ht=>?_⟩,h2.news,λg hg=>h2.eG g (gQ g hg)⟩
 ·rw[hf.gW]at hb;simp only[Maps.ren,b2 b hb];exact h2.le.box b (by rw[hf.gW];exact hb)
 ·rw[hf.gX]at ht;simp only[Maps.ren,t2 t ht];exact h2.le.bv t (by rw[hf.gX];exact ht)
def iH:List SI->Prop
 | .ops _ _::_=>False
 | .pv _::_=>False
 | _=>True
theorem tv {X:Ctx} {k:List SI} {t:List AV} {H:AH} (hk:iH k) (h:dl X k t H):go X k t H:=by
 cases k with
 | nil=>exact h
 | cons x k=>cases x<;>first|exact h|exact hk.elim
theorem aii {X:Ctx} {k:List SI} {t:List AV} {H:AH} (fs rb rt:List Nat) (t':List AV) (H':AH) (hk:iH k) (hle:Tc X.aI fs rb rt t H t' H') (h:go X k t' H'):go X k t H:=by
 refine tv hk ?_;intro hok M0 S0 w0 hp0 M S a w items hr hf ht hh hd b hb hbk;obtain⟨S1,hh1,hf1⟩:=aE.freezes (H:=H) fs (S:=S) (buf:=H.buf) hh;obtain⟨hh2,gQ⟩:=aE.ren (H:=bC H fs) hh1 hle.heap;obtain⟨l1,l2⟩:=pT hle.slots;refine g5 h hok M0 S0 w0 hp0 (M.ren rb rt) S1 a w items hr (QU hf hf1 hle.kb hle.kt gQ) ⟨by rw[ht.1];exact l1,λi hi=>?_⟩ hh2 hd b hb hbk;exact p9 (H:=bC H fs) hh1 ((ht.2 i (by omega)).mono hf1.sub hf1.cv hf1.le) (l2 i hi)
def m7 (rb rt:List Nat) (H:AH):AE->AE->Prop
 | .ret x,.ret y=>dF rb rt H x y
 | .bS x,.bS y=>dF rb rt H x y
 | _,_=>False
theorem AA {M S w v} (h:am M S w v .emp):∃a,v=.slice a 0 0:=by
 cases h with
 | data h=>cases h with|emp a=>exact⟨a,rfl⟩
theorem z8 {M S H w} (hh:aE M S H w) {v:Value} (hv:∃a,v=.slice a 0 0) (k:Nat):
 aE (M.ci v) S ⟨H.box,H.buf++[.live k []]⟩ w/\aU M S H w (M.ci v) S ⟨H.box,H.buf++[.live k []]⟩ w/\am (M.ci v) S w v (.own H.buf.length):=by
 obtain⟨a,rfl⟩:=hv;have hb:Value.blk (.slice a 0 0)=none:=by cases a<;>rfl
 obtain⟨h1,h2⟩:=hh.ci (w':=w) ⟨rfl,rfl,rfl,Nat.le_refl _,λ_ _=>rfl⟩ (v:=.slice a 0 0) (k:=k) (xs:=[]) (.inl ⟨⟨a,rfl⟩,rfl⟩) (λg h=>by rw[hb]at h;cases h);exact⟨h1,h2,jF hh.nt ⟨a,0,0,rfl⟩⟩
def uj (aI:AH) (e:AE) (H':AH) (r:AE) (H:AH):Prop:=∃fs rb rt,keeps aI.box.length rb=true/\keeps aI.buf.length rt=true/\qr rb rt (bC H fs) H'/\m7 rb rt (bC H fs) r e
def ui (aI:AH) (e:AE) (H':AH) (r:AE) (H:AH):Prop:=uj aI e H' r H\/(r=.ret .emp/\∃m,uj aI e H' (.ret (.own H.buf.length)) ⟨H.box,H.buf++[.live m []]⟩)
theorem Aq {aI H' H1:AH} {e r:AE} {M0 M1:Maps} {S0 S1:Nat->Prop} {w0 w':World} {en:Ending} (hp:uj aI e H' r H1) (hend:eZ M1 S1 w' en r) (hh1:aE M1 S1 H1 w') (hf1:aU M0 S0 aI w0 M1 S1 H1 w'):
 ∃M' S',eZ M' S' w' en e/\aE M' S' H' w'/\aU M0 S0 aI w0 M' S' H' w':=by
 obtain⟨fs,rb,rt,kb,kt,hle,hre⟩:=hp;obtain⟨S2,hh2,hf2⟩:=aE.freezes (H:=H1) fs (S:=S1) (buf:=H1.buf) hh1;obtain⟨hh3,gQ⟩:=aE.ren (H:=bC H1 fs) hh2 hle;refine⟨M1.ren rb rt,S2,?_,hh3,QU hf1 hf2 kb kt gQ⟩;cases en with
 | returned v=>
   cases r with
   | ret x=>
     cases e with
     | ret y=>exact p9 (H:=bC H1 fs) hh2 (am.mono hf2.sub hf2.cv hf2.le hend) hre
     | bS y=>exact hre.elim
   | bS x=>exact hend.elim
 | panicked ch=>
   cases r with
   | ret x=>exact hend.elim
   | bS x=>
     cases e with
     | ret y=>exact hre.elim
     | bS y=>
       obtain⟨v,hv,hx⟩:=hend;exact⟨v,hv,p9 (H:=bC H1 fs) hh2 (am.mono hf2.sub hf2.cv hf2.le hx) hre⟩
 | outgrown=>cases r<;>exact hend.elim
theorem HN {P:Program} {f:FuncId} {fn:Func} {c:Code} {wr:Bool} {sc:SC} {res:List Rs} {args:List AV} {aI:AH} {e:AE} {H':AH} (nt:Nat) (hf:P.funcs[f]?=some fn) (hb:fn.body=some c) (hc:comp P wr c=some sc)
 (hr:gq P fn.results.toList=some res) (hm:P.follows .mixedOrders=true) (hnt:fn.ntmps=nt) (h:go ⟨P,f,fn,res,aI,λ_=>ui aI e H',[]⟩ [.c sc] (args++List.replicate (nt-args.length) .any) aI):bQ P f args aI e H':=by
 intro M S w vs hh hp hs hall;intro cs
 let b:Frame:={ (default:Frame)with fn:=f,kind:=.normal }
 have henter:Frame.enter P f vs .normal=b.at { tmps:=vs++Array.replicate (fn.ntmps-vs.size) undef,defers:=[] } [.code c]:=by
  simp[Frame.enter,Frame.at,hf,hb,b]
 rw[henter];have ht:dC M S w (args++List.replicate (nt-args.length) .any) (vs++Array.replicate (fn.ntmps-vs.size) undef):=by
  refine⟨by simp[hs,hnt],λi hi=>?_⟩;rw[ma,ir,Array.getElem?_append];by_cases hlt:i<args.length
  ·rw[if_pos hlt,if_pos (by rw[hs];exact hlt),<- ir];exact hall i hlt
  ·rw[if_neg hlt];have:(List.replicate (nt-args.length) AV.any).getD (i-args.length) .any=.any:=by simp[List.getD,List.getElem?_replicate];split<;>rfl
   rw[this];exact .data (.any _)
 obtain⟨en,w',fr,⟨_,r,H1,M1,S1,hq,_,hend,hh1,hf1⟩,hcm,hfn,hlv⟩:=g5 h ⟨hf,hr,hm⟩ M S w hp M S ⟨vs++Array.replicate (fn.ntmps-vs.size) undef,[]⟩ w [.code c] (.code wr hc .nil) (aU.refl hh) ht hh rfl b rfl rfl cs;refine⟨en,w',fr,?_,hcm,hfn,OA hlv⟩;rcases hq with hq|⟨rfl,m,hq⟩
 ·exact Aq hq hend hh1 hf1
 ·cases en with
  | returned v=>
    obtain⟨h1,h2,h3⟩:=z8 hh1 (AA hend) m;exact Aq hq (en:=.returned v) h3 h1 (hf1.trans h2)
  | panicked ch=>exact hend.elim
  | outgrown=>exact hend.elim
theorem bQ.pure {P:Program} {f:FuncId} {args iu:List AV} {r:AE} {H:AH} (hc:bQ P f args AH.nil r AH.nil) (ha:dG (dF [] [] H) iu args):bQ P f iu H r H:=by
 intro M S w vs hh hp hs hall;obtain⟨l1,l2⟩:=pT ha;have hh0:aE (M.ren [] []) S AH.nil w:=(aE.ren hh (rb:=[]) (rt:=[]) (H':=AH.nil) ⟨trivial,trivial,rfl,rfl⟩).1;refine(hc (M.ren [] []) S w vs hh0 hp.nil (by omega) λi hi=>p9 hh (hall i (by omega)) (l2 i hi)).mono λen w' ⟨M',S',he,hh',hf⟩=>?_;have hno:∀g,¬foot (M.ren [] []) AH.nil g:=λg h=>by
  rcases h with⟨b,hb,_⟩|⟨t,ht,_⟩
  ·simp[AH.nil]at hb
  ·simp[AH.nil]at ht
 have hold:∀g,g<w.heap.size->w'.heap[g]?=w.heap[g]?:=λg hg=>hf.old g hg (hno g)
 have hM:M'.le M:=⟨by rw[hh'.nb];exact Nat.zero_le _,by rw[hh'.nt];exact Nat.zero_le _,λb hb=>by rw[hh'.nb]at hb;simp[AH.nil]at hb,λt ht=>by rw[hh'.nt]at ht;simp[AH.nil]at ht⟩
 have hg:Grew w w':=⟨hf.os,hf.tape,hf.output,hf.size,hold⟩
 have mV:=hh.grew hg;have hun:∀g,foot M H g->¬S' g:=λg hg hs=>by
  rcases hf.news g hs with h|h|h
  ·exact fx hh hg h
  ·exact hno g h
  ·have:=fQ hh hg;omega
 refine⟨M,S',?_,⟨mV.nb,mV.nt,hh'.sits,λb hb=>?_,λt ht=>?_,mV.bb,mV.tt,mV.bt⟩,⟨hh.nb,hh.nt,hf.os,hf.tape,hf.output,hf.size,hf.sub,hf.cv,λg hg _=>hold g hg,.refl M,λg hs=>(hf.news g hs).imp id λh=>h.elim (λh=>(hno g h).elim) .inr,λ_ h=>.inl h⟩⟩
 ·cases en<;>cases r<;>first
   | exact am.mono (λ_ h=>h) (λ_ _=>rfl) hM he
   | (obtain⟨v,hv,hx⟩:=he;exact⟨v,hv,am.mono (λ_ h=>h) (λ_ _=>rfl) hM hx⟩)
   | exact he.elim
 ·exact(mV.box b hb).keep (.refl M) hf.sub (hun _ (.inl ⟨b,hb,rfl⟩)) (λ_ _=>rfl) rfl
 ·have:=mV.buf t ht;cases hb:H.buf.getD t .dead with
  | dead=>trivial
  | bf k xs=>rw[hb]at this;exact aO.mono hf.sub (λ_ _=>rfl) this
  | live k xs=>
    rw[hb]at this;have bn:∀g,Value.blk (M.bv t)=some g->lives M H t g:=λg h=>⟨ht,by rw[hb];rfl,h⟩
    exact b9.keep this hf.sub (λg h=>hun g (.inr ⟨t,bn g h⟩)) (λ_ _=>rfl) λ_ _=>rfl
  | map q k xs=>
    rw[hb]at this;have bn:∀g,Value.blk (M.bv t)=some g->lives M H t g:=λg h=>⟨ht,by rw[hb];rfl,h⟩
    exact fe.keep this hf.sub (λg h=>hun g (.inr ⟨t,bn g h⟩)) (λ_ _=>rfl) λ_ _=>rfl
def AV.lR:AV->Bool
 | .v _=>true
 | .agg cs=>cs.all λ| .v _=>true|_=>false
 | .aL cs=>cs.all λ| .v _=>true|_=>false
 | _=>false
theorem ahf {M S w M' S' w' v a} (h:am M S w v a) (hs:a.lR=true):am M' S' w' v a:=by
 have key:∀ {cs:List AV} {vs:Array Value},(cs.all λ| .v _=>true|_=>false)=true->vs.size=cs.length->(∀i,i<cs.length->am M S w (vs.getD i undef) (cs.getD i .any))->∀i,i<cs.length->am M' S' w' (vs.getD i undef) (cs.getD i .any):=by
  intro cs vs hall hn hr i hi;have e:cs.getD i .any=cs[i]:=by simp[List.getD,hi]
  have:=List.all_eq_true.1 hall cs[i] (List.getElem_mem hi);have BY:=hr i hi;rw[e]at BY ⊢;cases hc:cs[i]with
  | v x=>rw[hc]at BY;rw[BY.bh];exact .data (.v x)
  | _=>rw[hc]at this;cases this
 cases a with
 | v x=>rw[h.bh];exact .data (.v x)
 | agg cs=>
   obtain⟨vs,rfl,hn,hr⟩:=n5 h;exact .agg vs cs hn (key hs hn hr)
 | aL cs=>
   cases h with
   | data h=>cases h with|aL vs _ hn hr=>exact .aL vs cs hn (key hs hn λi hi=>.data (hr i hi))
   | aL vs _ hn hr=>exact .aL vs cs hn (key hs hn hr)
 | _=>cases hs
theorem bQ.lend {P:Program} {f:FuncId} {args iu:List AV} {r:AV} {H:AH} (fs:List Nat) (hc:bQ P f args AH.nil (.ret r) AH.nil) (ha:dG (dF [] [] (bC H fs)) iu args) (hr:r.lR=true):bQ P f iu H (.ret r) H:=by
 intro M S w vs hh hp hs hall;obtain⟨S1,hh1,hf1⟩:=aE.freezes (H:=H) fs (S:=S) (buf:=H.buf) hh;obtain⟨l1,l2⟩:=pT ha;have hh0:aE (M.ren [] []) S1 AH.nil w:=(aE.ren (H:=bC H fs) hh1 (rb:=[]) (rt:=[]) (H':=AH.nil) ⟨trivial,trivial,rfl,rfl⟩).1;refine(hc (M.ren [] []) S1 w vs hh0 hp.nil (by omega) λi hi=>p9 (H:=bC H fs) hh1 ((hall i (by omega)).mono hf1.sub hf1.cv hf1.le) (l2 i hi)).mono λen w' ⟨M',S',he,hh',hf⟩=>?_;have hno:∀g,¬foot (M.ren [] []) AH.nil g:=λg h=>by
  rcases h with⟨b,hb,_⟩|⟨t,ht,_⟩
  ·simp[AH.nil]at hb
  ·simp[AH.nil]at ht
 have hg:Grew w w':=⟨hf.os,hf.tape,hf.output,hf.size,λg hg=>hf.old g hg (hno g)⟩
 refine⟨M,S,?_,hh.grew hg,aU.grew hh hg⟩;cases en with
 | returned v=>exact ahf he hr
 | panicked ch=>exact he.elim
 | outgrown=>exact he.elim
def qw:Option Bool->Option Bool->Option Bool
 | some b,some r=>some (b&&r)
 | _,_=>none
structure Ctx.is (X:Ctx) (P:Program) (res:List Rs) (aI:AH) (Q:AE->AH->Prop):Prop where
 P:X.P=P
 res:X.res=res
 aI:X.aI=aI
 Q:X.Q=λ_=>Q
theorem agu {P:Program} {f:FuncId} {fn:Func} {c:Code} {wr:Bool} {sc:SC} {res:List Rs} {args:List AV} {aI:AH} {e:AE} {H':AH} (n nt:Nat) (t:List AV) (hf:P.funcs[f]?=some fn) (hb:fn.body=some c) (hc:comp P wr c=some sc)
 (hr:gq P fn.results.toList=some res) (hm:P.follows .mixedOrders=true) (hnt:fn.ntmps=nt) (ht:args++List.replicate (nt-args.length) .any=t)
 (h:∀X:Ctx,X.is P res aI (ui aI e H')->run n X [.c sc] t aI):bQ P f args aI e H':=by
 subst ht;exact HN nt hf hb hc hr hm hnt (bU n _ _ _ _ (h _ ⟨rfl,rfl,rfl,rfl⟩))
structure Is (P:Program) (f:FuncId) (nt:Nat) (res:List Rs) (sc:SC):Prop where
 prf:∃fn c wr,P.funcs[f]?=some fn/\fn.body=some c/\comp P wr c=some sc/\gq P fn.results.toList=some res/\fn.ntmps=nt/\(fn.name == "runtime.NumGoroutine")=false
theorem Is.mk' {P:Program} {f:FuncId} {nt:Nat} {res:List Rs} {sc:SC} (fn:Func) (c:Code) (wr:Bool) (hf:P.funcs[f]?=some fn) (hb:fn.body=some c) (hc:comp P wr c=some sc) (hr:gq P fn.results.toList=some res) (hnt:fn.ntmps=nt) (hn:(fn.name == "runtime.NumGoroutine")=false):Is P f nt res sc:=⟨fn,c,wr,hf,hb,hc,hr,hnt,hn⟩
theorem Is.enters {P:Program} {f:FuncId} {nt:Nat} {res:List Rs} {sc:SC} (h:Is P f nt res sc):Enters P f:=by
 obtain⟨fn,c,wr,h1,h2,h3,h4,h5,h6⟩:=h.prf;exact⟨fn,h1,h6,by rw[h2];rfl⟩
theorem Is.run {P:Program} {f:FuncId} {nt:Nat} {res:List Rs} {sc:SC} (hi:Is P f nt res sc) (hm:P.follows .mixedOrders=true) {args:List AV} {aI:AH} {e:AE} {H':AH} (n:Nat) (t:List AV) (ht:args++List.replicate (nt-args.length) .any=t)
 (h:∀X:Ctx,X.is P res aI (ui aI e H')->run n X [.c sc] t aI):bQ P f args aI e H':=by
 obtain⟨fn,c,wr,h1,h2,h3,h4,h5,h6⟩:=hi.prf;exact agu n nt t h1 h2 h3 h4 hm h5 ht h
section
section
variable (rb rt:List Nat) (H:AH)
theorem aiA (x:AV):dF rb rt H x .any=True:=by
 simp only[eq_iff_iff,iff_true];cases x<;>simp[dF,le1,eP,du]
end
end
theorem aiN {X:Ctx} {k:List SI} {t:List AV} {H:AH} (i m:Nat) (hk:iH k) (hi:i<t.length) (he:t.getD i .any=.emp) (h:go X k (t.set i (.own H.buf.length)) ⟨H.box,H.buf++[.live m []]⟩):go X k t H:=by
 refine tv hk ?_;intro hok M0 S0 w0 hp0 M S a w items hr hf ht hh hd b hb hbk;have hv:=AA (he▸ht.2 i hi);obtain⟨h1,h2,h3⟩:=z8 hh hv m;refine g5 h hok M0 S0 w0 hp0 _ S a w items hr (hf.trans h2) ⟨by rw[ht.1];simp,λj hj=>?_⟩ h1 hd b hb hbk;rw[List.length_set]at hj;by_cases e:i=j
 ·subst e;rw[show(t.set i (.own H.buf.length)).getD i .any=.own H.buf.length by simp[List.getD,hi]];exact h3
 ·rw[show(t.set i (.own H.buf.length)).getD j .any=t.getD j .any by simp[List.getD,e]];exact(ht.2 j hj).mono h2.sub h2.cv h2.le
theorem Kq {M S H w} (hh:aE M S H w) {b:Nat} {cs:List AV} (hb:b<H.box.length) (hlen:cs.length=(H.box.getD b []).length)
 (hrep:∀c T,w.heap[M.box b]?=some (.cells c T (0,0))->c.size=(H.box.getD b []).length->(∀i,i<(H.box.getD b []).length->((H.box.getD b []).getD i .any).one=true/\am M S w (c.getD i undef) ((H.box.getD b []).getD i .any))->∀i,i<cs.length->(cs.getD i .any).one=true/\am M S w (c.getD i undef) (cs.getD i .any)):
 aE M S ⟨H.box.set b cs,H.buf⟩ w/\aU M S H w M S ⟨H.box.set b cs,H.buf⟩ w:=by
 have gQ:∀g,foot M ⟨H.box.set b cs,H.buf⟩ g->foot M H g:=λg h=>by
  rcases h with⟨b',h1,h2⟩|⟨t,h⟩
  ·exact .inl ⟨b',by simpa using h1,h2⟩
  ·exact .inr ⟨t,h⟩
 refine⟨⟨by rw[hh.nb];simp,hh.nt,hh.sits,λb' hb'=>?_,hh.buf,λb1 b2 h1 h2=>hh.bb b1 b2 (by simpa using h1) (by simpa using h2),hh.tt,λb1 t g h1=>hh.bt b1 t g (by simpa using h1)⟩,
  ⟨hh.nb,hh.nt,rfl,rfl,rfl,Nat.le_refl _,λ_ h=>h,λ_ _=>rfl,λ_ _ _=>rfl,.refl M,λ_ h=>.inl h,λg h=>.inl (gQ g h)⟩⟩
 have hb2:b'<H.box.length:=by simpa using hb'
 obtain⟨hun,c,T,hg,hc,hall⟩:=hh.box b' hb2;by_cases e:b=b'
 ·subst e;rw[show(⟨H.box.set b cs,H.buf⟩:AH).box.getD b []=cs by simp[List.getD,hb]];exact⟨hun,c,T,hg,by rw[hlen];exact hc,hrep c T hg hc hall⟩
 ·rw[show(⟨H.box.set b cs,H.buf⟩:AH).box.getD b' []=H.box.getD b' [] by simp[List.getD,e]];exact⟨hun,c,T,hg,hc,hall⟩
theorem aif {X:Ctx} {k:List SI} {t:List AV} {H:AH} (b o m:Nat) (hk:iH k) (hb:b<H.box.length) (ho:o<(H.box.getD b []).length) (he:(H.box.getD b []).getD o .any=.emp)
 (h:go X k t ⟨H.box.set b ((H.box.getD b []).set o (.own H.buf.length)),H.buf++[.live m []]⟩):go X k t H:=by
 refine tv hk ?_;intro hok M0 S0 w0 hp0 M S a w items hr hf ht hh hd bb hbb hbk;obtain⟨hun,c,T,hg,hc,hall⟩:=hh.box b hb;have hv:=AA (he▸(hall o ho).2);obtain⟨h1,h2,h3⟩:=z8 hh hv m;obtain⟨h4,h5⟩:=Kq h1 (b:=b) (cs:=(H.box.getD b []).set o (.own H.buf.length)) hb (by simp) λc' T' hg' hc' hall' i hi=>by
  rw[List.length_set]at hi;rw[show(M.ci (c.getD o undef)).box b=M.box b from rfl,hg]at hg';cases hg';by_cases e:o=i
  ·subst e;rw[show((H.box.getD b []).set o (.own H.buf.length)).getD o .any=.own H.buf.length by simp[List.getD,ho]at ho ⊢;rw[List.getElem?_set_self ho];rfl];exact⟨rfl,h3⟩
  ·rw[show((H.box.getD b []).set o (.own H.buf.length)).getD i .any=(H.box.getD b []).getD i .any by simp[List.getD,e]];exact hall' i hi
 exact g5 h hok M0 S0 w0 hp0 _ S a w items hr ((hf.trans h2).trans h5) ⟨ht.1,λj hj=>(ht.2 j hj).mono (h2.trans h5).sub (h2.trans h5).cv (h2.trans h5).le⟩ h4 hd bb hbb hbk
theorem agK {M S H w} (hh:aE M S H w) {u k:Nat} {xs:List AV} (hu:H.buf.getD u .dead=.live k xs):
 aE (M.ci (M.bv u)) S ⟨H.box,H.buf.set u .dead++[.live k xs]⟩ w/\aU M S H w (M.ci (M.bv u)) S ⟨H.box,H.buf.set u .dead++[.live k xs]⟩ w/\am (M.ci (M.bv u)) S w (M.bv u) (.own H.buf.length):=by
 have hlt:u<H.buf.length:=by
  rcases Nat.lt_or_ge u H.buf.length with h|h
  ·exact h
  ·rw[List.getD,List.getElem?_eq_none h]at hu;cases hu
 have hb:=hh.buf u hlt;rw[hu]at hb;have hb:b9 S w (M.bv u) k xs:=hb;have hset:∀t,(H.buf.set u .dead).getD t .dead=if t=u then .dead else H.buf.getD t .dead:=λt=>by
  by_cases e:t=u
  ·subst e;simp[List.getD,hlt]
  ·simp[List.getD,e,Ne.symm e]
 have bn:∀g,Value.blk (M.bv u)=some g->lives M H u g:=λg h=>⟨hlt,by rw[hu];rfl,h⟩
 obtain⟨h1,h2⟩:=hh.nf (row:=Value.blk (M.bv u)) (w':=w) ⟨rfl,rfl,rfl,Nat.le_refl _,λ_ _ _=>rfl⟩ (buf:=H.buf.set u .dead) (by simp) (λt ht=>by
  rw[hset];split
  ·exact .inr rfl
  ·exact .inl rfl) (λg e=>⟨.inr ⟨u,bn g e⟩,λt ht=>by rw[hset,if_pos (hh.tt t u g ht (bn g e))]⟩) (λg b e hb'=>hh.bt b u g hb' (bn g e)) hb (λg h=>.inr h)
 exact⟨h1,h2,jF hh.nt hb.slice⟩
theorem aiO {X:Ctx} {kk:List SI} {t:List AV} {H:AH} (b o u k:Nat) {xs:List AV} (hk:iH kk) (hb:b<H.box.length) (ho:o<(H.box.getD b []).length) (he:(H.box.getD b []).getD o .any=.own u) (hu:H.buf.getD u .dead=.live k xs)
 (h:go X kk t ⟨H.box.set b ((H.box.getD b []).set o (.own H.buf.length)),H.buf.set u .dead++[.live k xs]⟩):go X kk t H:=by
 refine tv hk ?_;intro hok M0 S0 w0 hp0 M S a w items hr hf ht hh hd bb hbb hbk;obtain⟨hun,c,T,hg,hc,hall⟩:=hh.box b hb;have hv:=(hall o ho).2;rw[he]at hv;have hv:c.getD o undef=M.bv u:=by
  generalize hx:c.getD o undef=x at hv;cases hv with
  | data h=>cases h
  | own _ _ _=>rfl
 obtain⟨h1,h2,h3⟩:=agK hh hu;obtain⟨h4,h5⟩:=Kq h1 (b:=b) (cs:=(H.box.getD b []).set o (.own H.buf.length)) hb (by simp) λc' T' hg' hc' hall' i hi=>by
  rw[List.length_set]at hi;rw[show(M.ci (M.bv u)).box b=M.box b from rfl,hg]at hg';cases hg';by_cases e:o=i
  ·subst e;rw[show((H.box.getD b []).set o (.own H.buf.length)).getD o .any=.own H.buf.length by simp[List.getD,ho]at ho ⊢;rw[List.getElem?_set_self ho];rfl,hv];exact⟨rfl,h3⟩
  ·rw[show((H.box.getD b []).set o (.own H.buf.length)).getD i .any=(H.box.getD b []).getD i .any by simp[List.getD,e]];exact hall' i hi
 exact g5 h hok M0 S0 w0 hp0 _ S a w items hr ((hf.trans h2).trans h5) ⟨ht.1,λj hj=>(ht.2 j hj).mono (h2.trans h5).sub (h2.trans h5).cv (h2.trans h5).le⟩ h4 hd bb hbb hbk
instance (n:Int):Decidable (oR n):=inferInstanceAs (Decidable (_/\_))
def ix {α:Type} (xs:List α) (n:Int):Option α:=if 0<=n then xs[n.toNat]? else none
theorem aiy {α:Type} {xs:List α} {n:Int} {e:α} (h:ix xs n=some e):0<=n/\n<(xs.length:Int)/\n.toNat<xs.length/\xs[n.toNat]?=some e:=by
 unfold ix at h;split at h
 ·obtain⟨h1,h2⟩:=List.getElem?_eq_some_iff.1 h;exact⟨by assumption,by omega,h1,h⟩
 ·cases h
theorem bQ.give {P:Program} {f:FuncId} {args iu:List AV} {r:AE} {H:AH} (fs:List Nat) (hc:bQ P f args AH.nil r AH.nil) (ha:dG (dF [] [] (bC H fs)) iu args):bQ P f iu H r (bC H fs):=by
 intro M S w vs hh hp hs hall;obtain⟨S1,hh1,hf1⟩:=aE.freezes (H:=H) fs (S:=S) (buf:=H.buf) hh;refine(hc.pure (H:=bC H fs) ha M S1 w vs hh1 (hp.fh hf1) hs λi hi=>(hall i hi).mono hf1.sub hf1.cv hf1.le).mono λen w' ⟨M',S',he,hh',hf⟩=>?_;exact⟨M',S',he,hh',hf1.trans hf⟩
def cU:List Nat->Nat->Nat->Nat
 | [],n,i=>n+i
 | b::_,_,0=>b
 | _::l,n,i+1=>cU l n i
def cI {α:Type}:List Nat->List α->List α->List α
 | [],new,old=>old++new
 | _::_,[],old=>old
 | b::l,x::r,old=>cI l r (old.set b x)
theorem Id {α:Type}:∀(rb:List Nat) (new old:List α),rb.length<=new.length->(cI rb new old).length=old.length+(new.length-rb.length)
 | [],new,old,_=>by simp[cI]
 | _::_,[],_,h=>by simp at h
 | b::l,x::r,old,h=>by
   simp only[cI];rw[Id l r _ (by simpa using h)];simp
theorem qc {α:Type} {d:α}:∀(rb:List Nat) (new old:List α) (b:Nat),b ∉ rb->b<old.length->(cI rb new old).getD b d=old.getD b d
 | [],new,old,b,_,h=>by simp[cI,List.getD,List.getElem?_append_left h]
 | _::_,[],_,_,_,_=>rfl
 | c::l,x::r,old,b,hn,h=>by
   simp only[cI];simp only[List.mem_cons,not_or]at hn;rw[qc l r _ b hn.2 (by simpa using h)];simp[List.getD,List.getElem?_set_ne (Ne.symm hn.1)]
theorem tR {α:Type} {d:α}:∀(rb:List Nat) (new old:List α) (i:Nat),nodup rb=true->(∀b∈rb,b<old.length)->rb.length<=new.length->i<new.length->(cI rb new old).getD (cU rb old.length i) d=new.getD i d
 | [],new,old,i,_,_,_,hi=>by simp[cI,cU,List.getD,List.getElem?_append_right (Nat.le_add_right old.length i)]
 | _::_,[],_,_,_,_,h,_=>by simp at h
 | b::l,x::r,old,i,hn,hb,hl,hi=>by
   simp only[nodup,Bool.and_eq_true,Bool.not_eq_true',List.contains_eq_mem,decide_eq_false_iff_not]at hn;cases i with
   | zero=>
     simp only[cI,cU];rw[qc l r _ b hn.1 (by simpa using hb b (by simp))];simp[List.getD,hb b (by simp)]
   | succ i=>
     simp only[cI,cU];have:=tR (d:=d) l r (old.set b x) i hn.2 (λc hc=>by simpa using hb c (by simp[hc])) (by simpa using hl) (by simpa using hi);rw[List.length_set]at this;rw[this];simp
theorem Pb (rb:List Nat) (n m k:Nat) (hl:rb.length<=m) (hk:k<n+(m-rb.length)) (hb:∀b∈rb,b<n):(k<n/\k ∉ rb)\/∃i,i<m/\k=cU rb n i:=by
 induction rb generalizing m with
 | nil=>
   simp at hk;by_cases h:k<n
   ·exact .inl ⟨h,by simp⟩
   ·exact .inr ⟨k-n,by omega,by simp[cU];omega⟩
 | cons b l ih=>
   obtain⟨m,rfl⟩:∃m',m=m'+1:=⟨m-1,by simp at hl;omega⟩
   by_cases h:k=b
   ·exact .inr ⟨0,by omega,by simp[cU,h]⟩
   ·rcases ih m (by simpa using hl) (by simp at hk ⊢;omega) (λc hc=>hb c (by simp[hc]))with⟨h1,h2⟩|⟨i,h1,h2⟩
    ·exact .inl ⟨h1,by simp[h,h2]⟩
    ·exact .inr ⟨i+1,by omega,by simp[cU,h2]⟩
theorem tQ {rb:List Nat} {n i:Nat} (h:i<rb.length):cU rb n i=rb.getD i 0:=by
 induction rb generalizing i with
 | nil=>simp at h
 | cons b l ih=>
   cases i with
   | zero=>rfl
   | succ i=>simp only[cU,List.getD_cons_succ];exact ih (by simpa using h)
theorem AI {rb:List Nat} {n b:Nat} (h:b∈rb):∃i,i<rb.length/\cU rb n i=b:=by
 obtain⟨i,hi⟩:=List.getElem?_of_mem h;obtain⟨h1,h2⟩:=tP hi;exact⟨i,h1,by rw[tQ h1,h2]⟩
mutual
def AV.up (f g:Nat->Nat):AV->AV
 | .any=>.any
 | .emp=>.emp
 | .v x=>.v x
 | .agg cs=>.agg (ups f g cs)
 | .aL cs=>.aL (ups f g cs)
 | .sl k xs=>.sl k xs
 | .own t=>.own (g t)
 | .cq b o n k=>.cq (f b) o n k
 | .ptr b o=>.ptr (f b) o
 | .bz t k i o=>.bz (g t) k i o
 | .aZ cs=>.aZ cs
 | .fn h a b=>.fn h (ups f g a) (ups f g b)
 | .aG t x=>.aG t (x.up f g)
 | .opq x=>.opq x
def ups (f g:Nat->Nat):List AV->List AV
 | []=>[]
 | x::l=>x.up f g::ups f g l
end
theorem Ie (f g:Nat->Nat):∀l,ups f g l=l.map (AV.up f g)
 | []=>by simp[ups]
 | x::l=>by simp only[ups,List.map_cons,Ie f g l]
theorem eY (f g:Nat->Nat) (l:List AV):(ups f g l).length=l.length:=by rw[Ie];simp
theorem kN (f g:Nat->Nat) (l:List AV) (i:Nat):(ups f g l).getD i .any=(l.getD i .any).up f g:=by
 rw[Ie];by_cases h:i<l.length
 ·simp[List.getD,h]
 ·simp[List.getD,List.getElem?_eq_none (Nat.le_of_not_lt h),AV.up]
theorem ajS (f g:Nat->Nat) (x:AV):(x.up f g).one=x.one:=by cases x<;>simp[AV.up,AV.one]
theorem aht (f g:Nat->Nat) {S:Nat->Prop} {w:World} {v:Value} {x:AV} (h:aO S w v x):aO S w v (x.up f g):=by
 induction h with
 | any v=>simp only[AV.up];exact .any v
 | emp a=>simp only[AV.up];exact .emp a
 | v x=>simp only[AV.up];exact .v x
 | agg vs cs hn _ ih=>simp only[AV.up];exact .agg _ _ (by rw[eY];exact hn) λi hi=>by rw[kN];rw[eY]at hi;exact ih i hi
 | aL vs cs hn _ ih=>simp only[AV.up];exact .aL _ _ (by rw[eY];exact hn) λi hi=>by rw[kN];rw[eY]at hi;exact ih i hi
 | sl0 a cap k=>simp only[AV.up];exact .sl0 a cap k
 | sl g o cap k xs c T fz hc hs hg hb hk h1 h _=>simp only[AV.up];exact .sl g o cap k xs c T fz hc hs hg hb hk h1 h
 | aZ g o cs c T fz hs hg hb h1 h _=>simp only[AV.up];exact .aZ g o cs c T fz hs hg hb h1 h
 | fn h vs us as bs hn hm _ _ ih ih'=>simp only[AV.up];exact .fn h _ _ _ _ (by rw[eY];exact hn) (by rw[eY];exact hm) (λi hi=>by rw[kN];rw[eY]at hi;exact ih i hi) λi hi=>by rw[kN];rw[eY]at hi;exact ih' i hi
 | aG t v a _ ih=>simp only[AV.up];exact .aG t v _ ih
 | opq v a h1 h _=>simp only[AV.up];exact .opq v a h1 h
theorem ajJ {f g:Nat->Nat} {M M':Maps} {S:Nat->Prop} {w:World} (hf:∀b,b<M.nb->f b<M'.nb/\M'.box (f b)=M.box b) (hg:∀t,t<M.nt->g t<M'.nt/\M'.bv (g t)=M.bv t) {v:Value} {x:AV} (h:am M S w v x):am M' S w v (x.up f g):=by
 induction h with
 | data h=>exact .data (aht f g h)
 | own t ht hs=>simp only[AV.up];rw[<- (hg t ht).2]at hs ⊢;exact .own _ (hg t ht).1 hs
 | ptr b o hb=>simp only[AV.up];rw[<- (hf b hb).2];exact .ptr _ o (hf b hb).1
 | cq b o n k cap hb=>simp only[AV.up];rw[<- (hf b hb).2];exact .cq _ o n k cap (hf b hb).1
 | bz t k i o g' n cap ht hv=>simp only[AV.up];exact .bz _ k i o g' n cap (hg t ht).1 ((hg t ht).2.trans hv)
 | agg vs cs hn _ ih=>simp only[AV.up];exact .agg _ _ (by rw[eY];exact hn) λi hi=>by rw[kN];rw[eY]at hi;exact ih i hi
 | aL vs cs hn _ ih=>simp only[AV.up];exact .aL _ _ (by rw[eY];exact hn) λi hi=>by rw[kN];rw[eY]at hi;exact ih i hi
 | fn h vs us as bs hn hm _ _ ih ih'=>simp only[AV.up];exact .fn h _ _ _ _ (by rw[eY];exact hn) (by rw[eY];exact hm) (λi hi=>by rw[kN];rw[eY]at hi;exact ih i hi) λi hi=>by rw[kN];rw[eY]at hi;exact ih' i hi
 | aG t v a _ ih=>simp only[AV.up];exact .aG t v _ ih
def eJ (rb rt:List Nat) (H Hc:AH):AH:=⟨cI rb (Hc.box.map (ups (cU rb H.box.length) (cU rt H.buf.length))) H.box,cI rt Hc.buf H.buf⟩
def Xa (rb rt:List Nat) (H:AH):AE->AE
 | .ret r=>.ret (r.up (cU rb H.box.length) (cU rt H.buf.length))
 | .bS r=>.bS (r.up (cU rb H.box.length) (cU rt H.buf.length))
theorem yG {α:Type} (F:Nat->α) (n i:Nat) (d:α) (h:i<n):((List.range n).map F).getD i d=F i:=by simp[List.getD,h]
theorem bQ.lift {P:Program} {f:FuncId} {args iu:List AV} {r:AE} {H Hc Hc':AH} (fs rb rt:List Nat) (hc:bQ P f args Hc r Hc') (hl:qr rb rt (bC H fs) Hc) (hnt:nodup rt=true) (ha:dG (dF rb rt (bC H fs)) iu args):
 bQ P f iu H (Xa rb rt (bC H fs) r) (eJ rb rt (bC H fs) Hc'):=by
 intro M S w vs hh0 hp hs hall;obtain⟨S1,hh,hf1⟩:=aE.freezes (H:=H) fs (S:=S) (buf:=H.buf) hh0;change aE M S1 (bC H fs) w at hh;change aU M S H w M S1 (bC H fs) w at hf1;generalize bC H fs=K at *;obtain⟨l1,l2⟩:=pT ha;obtain⟨hr,gQ⟩:=aE.ren hh hl;obtain⟨b1,b2⟩:=GS hl.boxes;obtain⟨t1,t2⟩:=G3 hl.IM;refine(hc (M.ren rb rt) S1 w vs hr ((hp.fh hf1).sub gQ) (by omega) λi hi=>p9 hh ((hall i (by omega)).mono hf1.sub hf1.cv hf1.le) (l2 i hi)).mono λen w' ⟨M',S',he,hh',hf⟩=>?_;have hnb':rb.length<=Hc'.box.length:=by have:=hf.le.nb;rw[hh'.nb]at this;exact this
 have hnt':rt.length<=Hc'.buf.length:=by have:=hf.le.nt;rw[hh'.nt]at this;exact this
 have hrb:∀b∈rb,b<K.box.length:=λb hb=>by
  obtain⟨i,h1,h2⟩:=AI (n:=0) hb;rw[tQ h1]at h2;have:=(b2 i (by omega)).1;omega
 have hrt:∀t∈rt,t<K.buf.length:=λt ht=>by
  obtain⟨i,h1,h2⟩:=AI (n:=0) ht;rw[tQ h1]at h2;have:=(t2 i (by omega)).1;omega
 let fb:=cU rb K.box.length
 let gt:=cU rt K.buf.length
 let lb:=cI rb ((List.range Hc'.box.length).map M'.box) ((List.range K.box.length).map M.box)
 let lt:=cI rt ((List.range Hc'.buf.length).map M'.bv) ((List.range K.buf.length).map M.bv)
 let M2:Maps:=⟨K.box.length+(Hc'.box.length-rb.length),K.buf.length+(Hc'.buf.length-rt.length),λb=>lb.getD b 0,λt=>lt.getD t undef⟩
 have hbn:∀i,i<Hc'.box.length->M2.box (fb i)=M'.box i:=λi hi=>by
  have:=tR (d:=0) rb ((List.range Hc'.box.length).map M'.box) ((List.range K.box.length).map M.box) i hl.nb (by simpa using hrb) (by simpa using hnb') (by simpa using hi);rw[List.length_map,List.length_range,yG _ _ _ _ hi]at this;exact this
 have fX:∀b,b<K.box.length->b ∉ rb->M2.box b=M.box b:=λb hb hn=>by
  have:=qc (d:=0) rb ((List.range Hc'.box.length).map M'.box) ((List.range K.box.length).map M.box) b hn (by simpa using hb);rw[yG _ _ _ _ hb]at this;exact this
 have htn:∀i,i<Hc'.buf.length->M2.bv (gt i)=M'.bv i:=λi hi=>by
  have:=tR (d:=undef) rt ((List.range Hc'.buf.length).map M'.bv) ((List.range K.buf.length).map M.bv) i hnt (by simpa using hrt) (by simpa using hnt') (by simpa using hi);rw[List.length_map,List.length_range,yG _ _ _ _ hi]at this;exact this
 have hto:∀t,t<K.buf.length->t ∉ rt->M2.bv t=M.bv t:=λt ht hn=>by
  have:=qc (d:=undef) rt ((List.range Hc'.buf.length).map M'.bv) ((List.range K.buf.length).map M.bv) t hn (by simpa using ht);rw[yG _ _ _ _ ht]at this;exact this
 have hba:∀b,b<K.box.length->M2.box b=M.box b:=λb hb=>by
  by_cases hm:b∈rb
  ·obtain⟨i,h1,h2⟩:=AI (n:=K.box.length) hm;have e:=hbn i (by omega);rw[show fb i=b from h2]at e;rw[e,hf.le.box i h1];show M.box (rb.getD i 0)=M.box b;rw[<- tQ (n:=K.box.length) h1,h2]
  ·exact fX b hb hm
 have hta:∀t,t<K.buf.length->M2.bv t=M.bv t:=λt ht=>by
  by_cases hm:t∈rt
  ·obtain⟨i,h1,h2⟩:=AI (n:=K.buf.length) hm;have e:=htn i (by omega);rw[show gt i=t from h2]at e;rw[e,hf.le.bv i h1];show M.bv (rt.getD i 0)=M.bv t;rw[<- tQ (n:=K.buf.length) h1,h2]
  ·exact hto t ht hm
 have hle:M.le M2:=⟨by rw[hh.nb];exact Nat.le_add_right _ _,by rw[hh.nt];exact Nat.le_add_right _ _,λb hb=>hba b (by rw[<- hh.nb];exact hb),λt ht=>hta t (by rw[<- hh.nt];exact ht)⟩
 have hlt:∀(l:List Nat) (n m i:Nat),l.length<=m->i<m->(∀b∈l,b<n)->cU l n i<n+(m-l.length):=by
  intro l
  induction l with
  | nil=>intro n m i h1 h2 _;simp[cU];omega
  | cons b l ih=>
    intro n m i h1 h2 h3;cases i with
    | zero=>have:=h3 b (by simp);simp[cU];omega
    | succ i=>
      have:=ih n (m-1) i (by simp at h1;omega) (by omega) (λc hc=>h3 c (by simp[hc]));simp only[cU,List.length_cons];omega
 have hup:∀ {v x},am M' S' w' v x->am M2 S' w' v (x.up fb gt):=λh=>
  ajJ (λb hb=>by rw[hh'.nb]at hb;exact⟨hlt _ _ _ _ hnb' hb hrb,hbn b hb⟩) (λt ht=>by rw[hh'.nt]at ht;exact⟨hlt _ _ _ _ hnt' ht hrt,htn t ht⟩) h
 have hother:∀g,foot M' Hc' g->(∀b,b<K.box.length->b ∉ rb->M.box b≠g)/\(∀t,t<K.buf.length->t ∉ rt->¬lives M K t g):=λg hg=>by
  have hcase:foot (M.ren rb rt) Hc g\/w.heap.size<=g:=hf.eG g hg;have hlv:∀t,lives (M.ren rb rt) Hc t g->t<rt.length/\lives M K (rt.getD t 0) g:=λt ⟨h1,h2,h3⟩=>by
   obtain⟨q1,q2⟩:=t2 t h1;refine⟨by omega,q1,?_,h3⟩;cases hb:Hc.buf.getD t .dead with
   | live k xs=>
     rw[hb]at q2;cases ho:K.buf.getD (rt.getD t 0) .dead with
     | live _ _=>rfl
     | _=>rw[ho]at q2;exact q2.elim
   | map q k xs=>
     rw[hb]at q2;cases ho:K.buf.getD (rt.getD t 0) .dead with
     | map _ _ _=>rfl
     | _=>rw[ho]at q2;exact q2.elim
   | dead=>rw[hb]at h2;cases h2
   | bf _ _=>rw[hb]at h2;cases h2
  have hmem:∀ {l:List Nat} {i:Nat},i<l.length->l.getD i 0∈l:=λh=>by simp[List.getD,h]
  refine⟨λb hb hn e=>?_,λt ht hn hv=>?_⟩
  ·rcases hcase with (⟨i,hi,ei⟩|⟨t,ht⟩)|h
   ·have q:=(b2 i hi).1;have:rb.getD i 0=b:=hh.bb _ _ q hb (by rw[e];exact ei);exact hn (this▸hmem (by omega))
   ·exact hh.bt b _ g hb (hlv t ht).2 e
   ·have:=fQ hh (.inl ⟨b,hb,e⟩);omega
  ·rcases hcase with (⟨i,hi,ei⟩|⟨u,hu⟩)|h
   ·exact hh.bt _ t g (b2 i hi).1 hv ei
   ·obtain⟨q1,q2⟩:=hlv u hu;have:rt.getD u 0=t:=hh.tt _ _ g q2 hv;exact hn (this▸hmem q1)
   ·have:=fQ hh (.inr ⟨t,hv⟩);omega
 have hold:∀g,foot M K g->¬foot (M.ren rb rt) Hc g->w'.heap[g]?=w.heap[g]?:=λg h1 h2=>hf.old g (fQ hh h1) h2
 have hnf:∀g,foot M K g->¬foot (M.ren rb rt) Hc g->¬S' g:=λg h1 h2 hs=>by
  rcases hf.news g hs with h|h|h
  ·exact fx hh h1 h
  ·exact h2 h
  ·have:=fQ hh h1;omega
 have hnr:∀b,b<K.box.length->b ∉ rb->¬foot (M.ren rb rt) Hc (M.box b):=λb hb hn h=>by
  rcases h with⟨i,hi,ei⟩|⟨t,h1,h2,h3⟩
  ·have q:=(b2 i hi).1;have:rb.getD i 0=b:=hh.bb _ _ q hb ei;exact hn (this▸(by simp[List.getD,show i<rb.length by omega]))
  ·obtain⟨q1,q2⟩:=t2 t h1;refine hh.bt b (rt.getD t 0) _ hb ⟨q1,?_,h3⟩ rfl;cases hb:Hc.buf.getD t .dead with
   | live k xs=>
     rw[hb]at q2;cases ho:K.buf.getD (rt.getD t 0) .dead with
     | live _ _=>rfl
     | _=>rw[ho]at q2;exact q2.elim
   | map q k xs=>
     rw[hb]at q2;cases ho:K.buf.getD (rt.getD t 0) .dead with
     | map _ _ _=>rfl
     | _=>rw[ho]at q2;exact q2.elim
   | dead=>rw[hb]at h2;cases h2
   | bf _ _=>rw[hb]at h2;cases h2
 have uS:∀t g,t ∉ rt->lives M K t g->¬foot (M.ren rb rt) Hc g:=λt g hn hv h=>by
  rcases h with⟨i,hi,ei⟩|⟨u,h1,h2,h3⟩
  ·exact hh.bt _ t g (b2 i hi).1 hv ei
  ·obtain⟨q1,q2⟩:=t2 u h1;have:rt.getD u 0=t:=by
    refine hh.tt _ _ g ⟨q1,?_,h3⟩ hv;cases hb:Hc.buf.getD u .dead with
    | live k xs=>
      rw[hb]at q2;cases ho:K.buf.getD (rt.getD u 0) .dead with
      | live _ _=>rfl
      | _=>rw[ho]at q2;exact q2.elim
    | map q k xs=>
      rw[hb]at q2;cases ho:K.buf.getD (rt.getD u 0) .dead with
      | map _ _ _=>rfl
      | _=>rw[ho]at q2;exact q2.elim
    | dead=>rw[hb]at h2;cases h2
    | bf _ _=>rw[hb]at h2;cases h2
   exact hn (this▸(by simp[List.getD,show u<rt.length by omega]))
 have JJ:(eJ rb rt K Hc').box.length=K.box.length+(Hc'.box.length-rb.length):=by
  simp only[eJ];rw[Id _ _ _ (by simpa using hnb')];simp
 have JW:(eJ rb rt K Hc').buf.length=K.buf.length+(Hc'.buf.length-rt.length):=by
  simp only[eJ];rw[Id _ _ _ hnt']
 have hbN:∀i,i<Hc'.box.length->(eJ rb rt K Hc').box.getD (fb i) []=ups fb gt (Hc'.box.getD i []):=λi hi=>by
  simp only[eJ];rw[tR rb _ K.box i hl.nb hrb (by simpa using hnb') (by simpa using hi)];simp[List.getD,hi,fb,gt]
 have Uz:∀b,b<K.box.length->b ∉ rb->(eJ rb rt K Hc').box.getD b []=K.box.getD b []:=λb hb hn=>by
  simp only[eJ];exact qc rb _ K.box b hn hb
 have JU:∀i,i<Hc'.buf.length->(eJ rb rt K Hc').buf.getD (gt i) .dead=Hc'.buf.getD i .dead:=λi hi=>by
  simp only[eJ];exact tR rt _ K.buf i hnt hrt hnt' hi
 have JV:∀t,t<K.buf.length->t ∉ rt->(eJ rb rt K Hc').buf.getD t .dead=K.buf.getD t .dead:=λt ht hn=>by
  simp only[eJ];exact qc rt _ K.buf t hn ht
 have cb:∀k,k<(eJ rb rt K Hc').box.length->(k<K.box.length/\k ∉ rb)\/∃i,i<Hc'.box.length/\k=fb i:=λk hk=>by
  rw[JJ]at hk;exact Pb rb K.box.length Hc'.box.length k hnb' hk hrb
 have ct:∀k,k<(eJ rb rt K Hc').buf.length->(k<K.buf.length/\k ∉ rt)\/∃i,i<Hc'.buf.length/\k=gt i:=λk hk=>by
  rw[JW]at hk;exact Pb rt K.buf.length Hc'.buf.length k hnt' hk hrt
 have m8:∀i g,i<Hc'.buf.length->lives M2 (eJ rb rt K Hc') (gt i) g->lives M' Hc' i g:=λi g hi ⟨_,h2,h3⟩=>⟨hi,by rw[JU i hi]at h2;exact h2,by rw[htn i hi]at h3;exact h3⟩
 have m9:∀t g,t<K.buf.length->t ∉ rt->lives M2 (eJ rb rt K Hc') t g->lives M K t g:=λt g ht hn ⟨_,h2,h3⟩=>⟨ht,by rw[JV t ht hn]at h2;exact h2,by rw[hto t ht hn]at h3;exact h3⟩
 have hR:aE M2 S' (eJ rb rt K Hc') w':=by
  refine⟨by rw[JJ],by rw[JW],hh'.sits,λk hk=>?_,λk hk=>?_,λk k' hk hk' e=>?_,λk k' g h1 h2=>?_,λk t g hk h e=>?_⟩
  ·rcases cb k hk with⟨h1,h2⟩|⟨i,hi,rfl⟩
   ·rw[Uz k h1 h2,fX k h1 h2];have hfk:foot M K (M.box k):=.inl ⟨k,h1,rfl⟩;exact(hh.box k h1).keep hle hf.sub (hnf _ hfk (hnr k h1 h2)) hf.cv (hold _ hfk (hnr k h1 h2))
   ·rw[hbN i hi,hbn i hi];obtain⟨un,c,T,hg,hcs,hcell⟩:=hh'.box i hi;refine⟨un,c,T,hg,by rw[eY];exact hcs,λj hj=>?_⟩;rw[eY]at hj;rw[kN,ajS];exact⟨(hcell j hj).1,hup (hcell j hj).2⟩
  ·rcases ct k hk with⟨h1,h2⟩|⟨i,hi,rfl⟩
   ·rw[JV k h1 h2,hto k h1 h2];have:=hh.buf k h1;cases hb:K.buf.getD k .dead with
    | dead=>trivial
    | bf q xs=>rw[hb]at this;exact aO.mono hf.sub hf.cv this
    | live q xs=>
      rw[hb]at this;have bn:∀g,Value.blk (M.bv k)=some g->lives M K k g:=λg h=>⟨h1,by rw[hb];rfl,h⟩
      exact b9.keep this hf.sub (λg h=>hnf g (.inr ⟨k,bn g h⟩) (uS k g h2 (bn g h))) hf.cv λg h=>hold g (.inr ⟨k,bn g h⟩) (uS k g h2 (bn g h))
    | map q' q xs=>
      rw[hb]at this;have bn:∀g,Value.blk (M.bv k)=some g->lives M K k g:=λg h=>⟨h1,by rw[hb];rfl,h⟩
      exact fe.keep this hf.sub (λg h=>hnf g (.inr ⟨k,bn g h⟩) (uS k g h2 (bn g h))) hf.cv λg h=>hold g (.inr ⟨k,bn g h⟩) (uS k g h2 (bn g h))
   ·rw[JU i hi,htn i hi];exact hh'.buf i hi
  ·rcases cb k hk with⟨h1,h2⟩|⟨i,hi,rfl⟩<;>rcases cb k' hk' with⟨h1',h2'⟩|⟨i',hi',rfl⟩
   ·rw[fX k h1 h2,fX k' h1' h2']at e;exact hh.bb _ _ h1 h1' e
   ·rw[fX k h1 h2,hbn i' hi']at e;exact absurd e ((hother _ (.inl ⟨i',hi',rfl⟩)).1 k h1 h2)
   ·rw[fX k' h1' h2',hbn i hi]at e;exact absurd e.symm ((hother _ (.inl ⟨i,hi,rfl⟩)).1 k' h1' h2')
   ·rw[hbn i hi,hbn i' hi']at e;rw[hh'.bb _ _ hi hi' e]
  ·rcases ct k h1.1 with⟨q1,q2⟩|⟨i,hi,rfl⟩<;>rcases ct k' h2.1 with⟨q1',q2'⟩|⟨i',hi',rfl⟩
   ·exact hh.tt _ _ g (m9 k g q1 q2 h1) (m9 k' g q1' q2' h2)
   ·exact absurd (m9 k g q1 q2 h1) ((hother g (.inr ⟨i',m8 i' g hi' h2⟩)).2 k q1 q2)
   ·exact absurd (m9 k' g q1' q2' h2) ((hother g (.inr ⟨i,m8 i g hi h1⟩)).2 k' q1' q2')
   ·rw[hh'.tt _ _ g (m8 i g hi h1) (m8 i' g hi' h2)]
  ·rcases cb k hk with⟨q1,q2⟩|⟨i,hi,rfl⟩<;>rcases ct t h.1 with⟨q1',q2'⟩|⟨i',hi',rfl⟩
   ·rw[fX k q1 q2]at e;exact hh.bt k t g q1 (m9 t g q1' q2' h) e
   ·rw[fX k q1 q2]at e;exact(hother g (.inr ⟨i',m8 i' g hi' h⟩)).1 k q1 q2 e
   ·rw[hbn i hi]at e;exact(hother g (.inl ⟨i,hi,e⟩)).2 t q1' q2' (m9 t g q1' q2' h)
   ·rw[hbn i hi]at e;exact hh'.bt i i' g hi (m8 i' g hi' h) e
 refine⟨M2,S',?_,hR,hf1.trans ⟨hh.nb,hh.nt,hf.os,hf.tape,hf.output,hf.size,hf.sub,hf.cv,λg hg hn=>hf.old g hg λh=>hn (gQ g h),hle,λg hs=>?_,λg hg=>?_⟩⟩
 ·cases en<;>cases r<;>first
   | exact hup he
   | (obtain⟨v,hv,hx⟩:=he;exact⟨v,hv,hup hx⟩)
   | exact he.elim
 ·rcases hf.news g hs with h|h|h
  ·exact .inl h
  ·exact .inr (.inl (gQ g h))
  ·exact .inr (.inr h)
 ·rcases hg with⟨k,hk,e⟩|⟨t,ht⟩
  ·rcases cb k hk with⟨h1,h2⟩|⟨i,hi,rfl⟩
   ·rw[fX k h1 h2]at e;exact .inl (.inl ⟨k,h1,e⟩)
   ·rw[hbn i hi]at e;exact(hf.eG g (.inl ⟨i,hi,e⟩)).imp (gQ g) id
  ·rcases ct t ht.1 with⟨h1,h2⟩|⟨i,hi,rfl⟩
   ·exact .inl (.inr ⟨t,m9 t g h1 h2 ht⟩)
   ·exact(hf.eG g (.inr ⟨i,m8 i g hi ht⟩)).imp (gQ g) id
section
section
variable {P:Program} {t:List AV} {H:AH}
theorem gh {o:Op} {ty:TypeId} {r:AV} (h:∀M S w (a:Act) (oc:Oper),oc.op=o->oc.type=ty->(∀x∈o.operands,am M S w (a.eval x) (od t (ak x)))->aE M S H w->∃v,(execOp a.eval oc).run P w=.ok (.value v) w/\am M S w v r) (hi:isInv o=false:=by rfl):OS P (.raw o ty) t H (.ret r) H:=by
 intro wr oc hc;obtain⟨h1,h2⟩:=jK hc;exact cy λM S w a hx hh=>h M S w a oc h1 (h2 hi) (by rw[<- h1];exact hx) hh
theorem ajE {x y:Operand} {ts:Array TypeId} {ty:TypeId} {k k':IntKind} {a b:Int} (h1:od t (ak x)=.v (.int k a)) (h2:od t (ak y)=.v (.int k' b)):
 OS P (.raw (.call ⟨.builtin .max,#[x,y],ts⟩) ty) t H (.ret (.v (.int k (max a b)))) H:=gh λM S w A oc hop hty hx hh=>by
 have e1:=hx x (by simp[Op.operands,Call.operands]);have e2:=hx y (by simp[Op.operands,Call.operands]);rw[h1]at e1;rw[h2]at e2;refine⟨.int k (max a b),?_,.data (.v _)⟩;have em:(if b>a then b else a)=max a b:=by split<;>omega
 simp only[execOp,hop,resolve,invoke,builtin,Builtin.max_,Builtin.max2,e1.bh,e2.bh,List.map_toArray,List.map_cons,List.map_nil,List.foldlM_cons,List.foldlM_nil,Sem.run_bind,Sem.run_pure,Result.andThen_ok,em]
theorem ajF {x y:Operand} {ts:Array TypeId} {ty:TypeId} {k k':IntKind} {a b:Int} (h1:od t (ak x)=.v (.int k a)) (h2:od t (ak y)=.v (.int k' b)):
 OS P (.raw (.call ⟨.builtin .min,#[x,y],ts⟩) ty) t H (.ret (.v (.int k (min a b)))) H:=gh λM S w A oc hop hty hx hh=>by
 have e1:=hx x (by simp[Op.operands,Call.operands]);have e2:=hx y (by simp[Op.operands,Call.operands]);rw[h1]at e1;rw[h2]at e2;refine⟨.int k (min a b),?_,.data (.v _)⟩;have em:(if b<a then b else a)=min a b:=by split<;>omega
 simp only[execOp,hop,resolve,invoke,builtin,Builtin.min_,Builtin.min2,e1.bh,e2.bh,List.map_toArray,List.map_cons,List.map_nil,List.foldlM_cons,List.foldlM_nil,Sem.run_bind,Sem.run_pure,Result.andThen_ok,em]
def jU (P:Program) (ad:TypeId):Option AV:=
 match P.underlying ad,P.info? ad with
 | some (.interface _),_=>none
 | some _,some i=>i.zero.map fB
 | _,_=>none
theorem pX {ad:TypeId} {z:AV} (h:jU P ad=some z):(∃d,P.underlying ad=some d/\∀ms,d≠.interface ms)/\∃i zv,P.info? ad=some i/\i.zero=some zv/\z=fB zv:=by
 unfold jU at h;split at h
 ·cases h
 ·rename_i d i hn hd hi;cases hz:i.zero with
  | none=>rw[hz]at h;cases h
  | some zv=>rw[hz]at h;cases h;exact⟨⟨d,hd,λms e=>hn ms e⟩,i,zv,hi,hz,rfl⟩
 ·cases h
theorem AD {M S w v T a} (h:am M S w v (.aG T a)):∃u,v=.iface T u/\am M S w u a:=by
 cases h with
 | data h=>cases h with|aG _ u _ h=>exact⟨u,rfl,.data h⟩
 | aG _ u _ h=>exact⟨u,rfl,h⟩
theorem Hp {M S w} {u v:Value} {a b:AV} (h1:am M S w u a) (h2:am M S w v b):am M S w (.tuple #[u,v]) (.aL [a,b]):=
 .aL _ _ rfl λi hi=>by
  match i,hi with
  | 0,_=>exact h1
  | 1,_=>exact h2
theorem afC {x:Operand} {xt ad ty:TypeId} {v z:AV} (hz:jU P ad=some z) (h1:od t (ak x)=.aG ad v):OS P (.raw (.typeAssert x xt ad true) ty) t H (.ret (.aL [v,.b true])) H:=gh λM S w A oc hop hty hx hh=>by
 have e1:=hx x (by simp[Op.operands]);rw[h1]at e1;obtain⟨u,hu,hr⟩:=AD e1;obtain⟨⟨d,hd,hn⟩,i,zv,hi,hzv,rfl⟩:=pX hz;refine⟨.tuple #[u,.bool true],?_,Hp hr (.data (.v _))⟩;simp only[execOp,hop,Instr.typeAssert,hu,Sem.run_bind,run_underlying hd,Result.andThen_ok];cases d<;>first|exact absurd rfl (hn _)|rfl|simp[Sem.run_bind,Sem.run_pure]
theorem afe {x:Operand} {xt ad T ty:TypeId} {v z:AV} (hz:jU P ad=some z) (h1:od t (ak x)=.aG T v) (hne:(T==ad)=false):OS P (.raw (.typeAssert x xt ad true) ty) t H (.ret (.aL [z,.b false])) H:=gh λM S w A oc hop hty hx hh=>by
 have e1:=hx x (by simp[Op.operands]);rw[h1]at e1;obtain⟨u,hu,hr⟩:=AD e1;obtain⟨⟨d,hd,hn⟩,i,zv,hi,hzv,rfl⟩:=pX hz;have hne':¬T=ad:=by simpa using hne
 refine⟨.tuple #[zv,.bool false],?_,Hp (.data (pY S w zv)) (.data (.v _))⟩;simp only[execOp,hop,Instr.typeAssert,hu,Sem.run_bind,run_underlying hd,Result.andThen_ok];cases d<;>first|exact absurd rfl (hn _)|(simp only[if_neg hne',if_true,Sem.run_bind,Sem.run_pure,ml hi hzv,Result.andThen_ok])
theorem afD {x:Operand} {xt ad ty:TypeId} {z:AV} (hz:jU P ad=some z) (h1:od t (ak x)=.v .nilIface):OS P (.raw (.typeAssert x xt ad true) ty) t H (.ret (.aL [z,.b false])) H:=gh λM S w A oc hop hty hx hh=>by
 have e1:=hx x (by simp[Op.operands]);rw[h1]at e1;obtain⟨⟨d,hd,hn⟩,i,zv,hi,hzv,rfl⟩:=pX hz;refine⟨.tuple #[zv,.bool false],?_,Hp (.data (pY S w zv)) (.data (.v _))⟩;simp only[execOp,hop,Instr.typeAssert,e1.bh,Sem.run_bind,run_underlying hd,Result.andThen_ok];cases d<;>first|exact absurd rfl (hn _)|(simp only[if_true,Sem.run_bind,Sem.run_pure,ml hi hzv,Result.andThen_ok])
def qB (P:Program) (ad:TypeId) (name:String):Option FuncId:=
 match P.info? ad,P.underlying ad with
 | some i,some d=>match i.methods.find? (·.name==name)with
   | some m=>match m.path.toList,m.func with
     | [],some (f,pr)=>match d,pr with
       | .pointer _,true=>some f
       | .pointer _,false=>none
       | _,true=>none
       | _,false=>some f
     | _,_=>none
   | none=>none
 | _,_=>none
theorem afh {ad:TypeId} {name:String} {f:FuncId} (h:qB P ad name=some f) (n:Nat) (v:Value) (w:World):(method (n+1) ad v name).run P w=.ok (f,v) w:=by
 unfold qB at h;split at h
 ·rename_i i d hi hd;split at h
  ·rename_i m hm;split at h
   ·rename_i f' pr hp hf;unfold method;simp only[typeInfo,Sem.run_bind,run_program,Result.andThen_ok,hi,hm,Sem.run_pure,hp,follow,hf,receiverAt,run_underlying hd];cases d<;>cases pr<;>simp at h<;>subst h<;>simp[Place.get,run_underlying hd]
   ·cases h
  ·cases h
 ·cases h
theorem RA {te ty m e k:Nat} {x i:Operand} {ag:Bool} {cs:List AV} {ik:IntKind} {n:Int} (hu:P.underlying te=some (.array m e)) (hl:hO P e=some (k,ag)) (h1:od t (ak x)=.agg cs) (h2:od t (ak i)=.v (.int ik n)) (h0:0<=n) (hn:n<m)
 (hb:n.toNat*k+k<=cs.length):OS P (.raw (.index te x i) ty) t H (.ret (mk ag ((cs.drop (n.toNat*k)).take k))) H:=gh λM S w A oc hop hty hx hh=>by
 have e1:=hx x (by simp[Op.operands]);have e2:=hx i (by simp[Op.operands]);rw[h1]at e1;rw[h2]at e2;obtain⟨vs,hv,hn',hall⟩:=n5 e1;have hi:=e2.bh;obtain⟨⟨d,hd⟩,hsz,hag,h3⟩:=nY hl;refine⟨if ag then .agg (vs.extract (n.toNat*k) (n.toNat*k+k))else vs.getD (n.toNat*k) undef,?_,pJ hn' hall hb h3⟩;have hp:=p7 hd hsz (cs:=vs) (off:=n.toNat*k) (λh=>by
  have e:=h3 (hag.trans h);subst e;simp;omega) w
 have ha:(asIntOf (.int ik n)).run P w=.ok (ik,n) w:=rfl;simp only[execOp,hop,Instr.index,Sem.run_bind,hi,ha,run_underlying hu,Result.andThen_ok,hv,h0,hn,and_self,if_true,ij hsz,hp,Sem.run_pure];congr 2;unfold valOf;rw[<- hag];cases ag with
 | true=>rfl
 | false=>
   have e:=h3 rfl;subst e;simp only[Bool.false_eq_true,if_false];have hs:n.toNat*1<vs.size:=by omega
   have hs':0<(vs.extract (n.toNat*1) (n.toNat*1+1)).size:=by simp;omega
   simp only[Array.getD,hs,hs',dite_true];exact(by simp:(vs.extract (n.toNat*1) (n.toNat*1+1))[0]=vs[n.toNat*1])
theorem ahY {M S w v T a} (h:am M S w v (.opq (.aG T a))):∃u,v=.iface T u/\am M S w u a:=by
 cases h with
 | data h=>cases h with|opq _ _ _ h=>cases h with|aG _ u _ h=>exact⟨u,rfl,.data h⟩
theorem AN {recv:Operand} {name:String} {args:Array Operand} {ts:Array TypeId} {ty ad:TypeId} {v:AV} {f:FuncId} {e:AE} {H':AH} (h1:∀M S w u,am M S w u (od t (ak recv))->∃z,u=.iface ad z/\am M S w z v) (hm:qB P ad name=some f) (hen:Enters P f)
 (hc:bQ P f (v::(args.toList.map ak).map (od t)) H e H'):OS P (.raw (.call ⟨.invoke recv name,args,ts⟩) ty) t H e H':=by
 intro wr oc h;obtain⟨hop,_⟩:=jK h;refine GW hc λM S w a hx hh=>?_;rw[hop]at hx;have hr:=hx recv (by simp[Op.operands,Call.operands]);obtain⟨u,hu,UR⟩:=h1 _ _ _ _ hr;have hargs:=pZ (t:=t) (a:=a) (xs:=args) (M:=M) (S:=S) (w:=w) λz hz=>hx z (by simp[Op.operands,Call.operands,hz]);refine⟨#[u]++args.map a.eval,?_,by simp;omega,λi hi=>?_⟩
 ·obtain⟨n,hn⟩:∃n,P.types.size+Made.depth=n+1:=⟨P.types.size+Made.depth-1,by
   have:0<Made.depth:=by decide
   omega⟩
  have e1:(#[Value.iface ad u]++args.map a.eval)[0]?=some (.iface ad u):=by rw[Array.getElem?_append,if_pos (by simp)];rfl
  have e2:(#[Value.iface ad u]++args.map a.eval).extract 1 (#[Value.iface ad u]++args.map a.eval).size=args.map a.eval:=by
   generalize args.map a.eval=ys;obtain⟨l⟩:=ys;simp
  simp only[execOp,hop,resolve,hu,Sem.run_bind,Sem.run_pure,Result.andThen_ok,invoke,e1,e2,callMethod,run_program,hn,afh hm];exact zL hen _ w
 ·cases i with
  | zero=>
    rw[ir,Array.getElem?_append,if_pos (by simp)];simpa using UR
  | succ i=>
    have hi':i<((args.toList.map ak).map (od t)).length:=by simpa using hi
    have:=hargs.2 i hi';rw[ir]at this ⊢;rw[Array.getElem?_append,if_neg (by simp)];simpa[List.getD]using this
theorem ajI {x:Operand} {ty:TypeId} {b o:Nat} (h1:od t (ak x)=.ptr b o):OS P (.raw (.nilCheck x) ty) t H (.ret (.ptr b o)) H:=gh λM S w A oc hop hty hx hh=>by
 have e1:=hx x (by simp[Op.operands]);rw[h1]at e1;refine⟨A.eval x,?_,e1⟩;generalize hv:A.eval x=v at e1;cases e1 with
 | data h=>cases h
 | ptr _ _ hb=>simp[execOp,hop,hv]
theorem ah2 {x:Operand} {ty:TypeId} {u k i o:Nat} (h1:od t (ak x)=.bz u k i o):OS P (.raw (.nilCheck x) ty) t H (.ret (.bz u k i o)) H:=gh λM S w A oc hop hty hx hh=>by
 have e1:=hx x (by simp[Op.operands]);rw[h1]at e1;refine⟨A.eval x,?_,e1⟩;generalize hv:A.eval x=v at e1;cases e1 with
 | data h=>cases h
 | bz _ _ _ _ _ _ _ _ _=>simp[execOp,hop,hv]
theorem ah1 {x:Operand} {ty:TypeId} {cs:List AV} (h1:od t (ak x)=.aZ cs):OS P (.raw (.nilCheck x) ty) t H (.ret (.aZ cs)) H:=gh λM S w A oc hop hty hx hh=>by
 have e1:=hx x (by simp[Op.operands]);rw[h1]at e1;refine⟨A.eval x,?_,e1⟩;obtain⟨g,o,c,T,fz,hv,_⟩:=Al e1;simp[execOp,hop,hv]
theorem ah4 {op:BinOp} {ne:Bool} {x:Operand} {ty ty' te e:TypeId} {k:Nat} {xs:List AV} (hne:gL op=some ne) (hu:P.underlying te=some (.slice e)) (h1:od t (ak x)=.sl k xs):
 qt P (.raw (.binOp op te x (.const (.slice none 0 0)) ty') ty) t H [(xs=[],.b (cL ne true)),(True,.b (cL ne false))]:=by
 intro wr oc hc M S w a hx hh K Q hK;obtain⟨hop,_⟩:=jK hc;rw[hop]at hx;have e1:=hx x (by simp[Op.operands]);rw[h1]at e1;have d1:=dy e1 rfl;obtain⟨ad,n,c,hv⟩:∃ad n c,a.eval x=.slice ad n c/\(n=xs.length):=by
  obtain⟨ad,c,hv⟩:=AP d1;exact⟨ad,_,c,hv,rfl⟩
 have hrun:∀d,(Op.equalIn (d+1) te (.slice ad n c) (.slice none 0 0)).run P w=.ok ad.isNone w:=λd=>by
  cases ad<;>simp[Op.equalIn,run_underlying hu]
 have key:=kC (P:=P) (w:=w) hne (ty:=te) (u:=.slice ad n c) (v:=.slice none 0 0) (λop'=>⟨λe=>by subst e;rfl,λe=>by subst e;rfl⟩) (b:=ad.isNone) (hrun 9999);have hex:(execOp a.eval oc).run P w=.ok (.value (.bool (cL ne ad.isNone))) w:=by
  simp only[execOp,hop,Sem.run_bind,hv.1];have:a.eval (.const (.slice none 0 0))=.slice none 0 0:=rfl;rw[this,kx (λ_=>by simp) (by simp)];simp only[Result.andThen_ok,key];rfl
 unfold Oper.wp;rw[hex];cases had:ad with
 | none=>
   subst had;have hxs:xs=[]:=by
    rw[hv.1]at d1;cases d1 with
    | sl0 a cap k=>rfl
   exact hK (xs=[],.b (cL ne true)) (by simp) hxs _ (.data (.v _))
 | some q=>subst had;exact hK (True,.b (cL ne false)) (by simp) trivial _ (.data (.v _))
def oN (op:BinOp) (k:FloatKind) (x y:Nat):Bool:=
 match op with
 | .eql=>k.format.order x y==some .eq
 | .neq=>k.format.order x y != some .eq
 | .lss=>k.format.order x y==some .lt
 | .leq=>k.format.order x y==some .lt||k.format.order x y==some .eq
 | .gtr=>k.format.order x y==some .gt
 | _=>k.format.order x y==some .gt||k.format.order x y==some .eq
def B3:BinOp->Bool
 | .eql | .neq | .lss | .leq | .gtr | .geq=>true
 | _=>false
theorem ahZ {op:BinOp} {te ty' ty:TypeId} {x y:Operand} {k:FloatKind} {m n:Nat} (ho:B3 op=true) (h1:od t (ak x)=.v (.float k m)) (h2:od t (ak y)=.v (.float k n)):OS P (.raw (.binOp op te x y ty') ty) t H (.ret (.b (oN op k m n))) H:=gh λM S w A oc hop hty hx hh=>by
 have e1:=hx x (by simp[Op.operands]);have e2:=hx y (by simp[Op.operands]);rw[h1]at e1;rw[h2]at e2;refine⟨.bool (oN op k m n),?_,.data (.v _)⟩;simp only[execOp,hop,Sem.run_bind,e1.bh,e2.bh];rw[kx (λ_=>by simp) (by simp)];cases op<;>first|(simp[B3]at ho;done)|rfl|simp[binOp,Op.floatCmp,oN]
structure g8 (P:Program) (f:FuncId) (e:Array Value->Sem Value):Prop where
 prf:∃fn,P.funcs[f]?=some fn/\(fn.name == "runtime.NumGoroutine")=false/\fn.body.isNone=true/\Extern.findNext fn=none/\Extern.find fn=some e
theorem g8.mk' {P:Program} {f:FuncId} {e:Array Value->Sem Value} (fn:Func) (h1:P.funcs[f]?=some fn) (h2:(fn.name == "runtime.NumGoroutine")=false) (h3:fn.body.isNone=true) (h4:(Extern.findNext fn).isNone=true) (h5:Extern.find fn=some e):g8 P f e:=
 ⟨fn,h1,h2,h3,by simpa using h4,h5⟩
theorem Ag {f:FuncId} {e:Array Value->Sem Value} {as:List Od} {r:AV} (hx:g8 P f e)
 (h:∀M S w (vs:Array Value),vs.size=as.length->(∀i,i<as.length->am M S w (vs.getD i undef) ((as.map (od t)).getD i .any))->aE M S H w->∃v,(e vs).run P w=.ok v w/\am M S w v r):OS P (.call f as) t H (.ret r) H:=by
 intro wr oc hc;obtain⟨args,ts,rfl,hop⟩:=P9 hc;obtain⟨fn,h1,h2,h3,h4,h5⟩:=hx.prf;refine cy λM S w a hxx hh=>?_;have hargs:=pZ (t:=t) (a:=a) (xs:=args) (M:=M) (S:=S) (w:=w) λz hz=>hxx z (by simp[hop,Op.operands,Call.operands,hz]);obtain⟨v,hv,hr⟩:=h M S w (args.map a.eval) (by simpa using hargs.1) (λi hi=>hargs.2 i (by simpa using hi)) hh;refine⟨v,?_,hr⟩;simp only[execOp,hop,resolve,Act.eval,Deferred.ofValue,invoke,Sem.run_bind,Sem.run_pure,Result.andThen_ok,Array.empty_append,Array.append_empty];have:=run_callFunc_extern h1 h2 h3 h4 h5 (args.map a.eval) w;rw[hv]at this;exact this
theorem IG {M S w} {vs:Array Value} {a b:Value} {as:List AV} (hs:vs.size=2) (h:∀i,i<2->am M S w (vs.getD i undef) (as.getD i .any)) (h0:as.getD 0 .any=.v a) (h1:as.getD 1 .any=.v b):vs=#[a,b]:=by
 have e0:=h 0 (by omega);have e1:=h 1 (by omega);rw[h0]at e0;rw[h1]at e1;have q0:=e0.bh;have q1:=e1.bh;apply Array.ext (by simpa using hs);intro i h1 h2
 match i,h2 with
 | 0,_=>simpa[Array.getD,hs]using q0
 | 1,_=>simpa[Array.getD,hs]using q1
theorem arr1 {M S w} {vs:Array Value} {a:Value} {as:List AV} (hs:vs.size=1) (h:∀i,i<1->am M S w (vs.getD i undef) (as.getD i .any)) (h0:as.getD 0 .any=.v a):vs=#[a]:=by
 have e0:=h 0 (by omega);rw[h0]at e0;have q0:=e0.bh;apply Array.ext (by simpa using hs);intro i h1 h2
 match i,h2 with
 | 0,_=>simpa[Array.getD,hs]using q0
theorem abh {f:FuncId} {x y:Od} {s:List UInt8} {c:Int} (hx:g8 P f Extern.BytealgIndexByte.indexByte) (h1:od t x=.v (.string (bs s))) (h2:od t y=.v (.int .u8 c)):
 OS P (.call f [x,y]) t H (.ret (.v (.int .i64 (Lib.indexByte s c.toNat.toUInt8)))) H:=Ag hx λM S w vs hs hv hh=>by
 rw[IG hs hv (by simpa using h1) (by simpa using h2)];exact⟨_,Lib.run_indexByteString _ _ _,.data (.v _)⟩
theorem ab6 {f:FuncId} {x y:Od} {s:List UInt8} {c:Int} (hx:g8 P f Extern.BytealgCount.count) (h1:od t x=.v (.string (bs s))) (h2:od t y=.v (.int .u8 c)):
 OS P (.call f [x,y]) t H (.ret (.v (.int .i64 (Lib.countByte s c.toNat.toUInt8:Nat)))) H:=Ag hx λM S w vs hs hv hh=>by
 rw[IG hs hv (by simpa using h1) (by simpa using h2)];exact⟨_,Lib.run_countString _ _ _,.data (.v _)⟩
theorem aeT {f:FuncId} {x:Od} {n:Int} (hx:g8 P f Extern.MathFloatBits.float64frombits) (h1:od t x=.v (.int .u64 n)):
 OS P (.call f [x]) t H (.ret (.v (.float .f64 n.toNat))) H:=Ag hx λM S w vs hs hv hh=>by
 rw[arr1 hs hv (by simpa using h1)];exact⟨_,rfl,.data (.v _)⟩
theorem aeV {f:FuncId} {x:Od} {r:AV} (hx:g8 P f Extern.AbiNoEscape.same) (h1:od t x=r):
 OS P (.call f [x]) t H (.ret r) H:=Ag hx λM S w vs hs hv hh=>by
 have e0:=hv 0 (by simp);obtain⟨v,rfl⟩:∃v,vs=#[v]:=⟨vs[0]'(by simp at hs;omega),Array.ext (by simpa using hs) λi h1 h2=>by
  match i,h2 with
  | 0,_=>rfl⟩
 exact⟨v,rfl,by simpa[Array.getD,h1]using e0⟩
theorem ahE {X:Ctx} {d:Option Nat} {o:SO} {l:List SL} {k:List SI} {t:List AV} {H:AH} {p q:Prop} {r r':AV} (hos:qt X.P o t H [(p,r),(q,r')]) (h1:p->go X (.ops false l::k) (a9 t d r) H) (h2:q->go X (.ops false l::k) (a9 t d r') H):rM X false d o l k t H:=
 .inr (.inr ⟨rfl,_,hos,λx hx hx1=>by
  simp only[List.mem_cons,List.not_mem_nil,or_false]at hx;rcases hx with rfl|rfl
  ·exact h1 hx1
  ·exact h2 hx1⟩)
end
end
def iW (v:Value) (k:Nat):AV:=
 match v with
 | .slice none 0 0=>.sl k []
 | v=>.v v
def gi (z:Value) (ks:List Nat):AV:=
 match z with
 | .agg vs=>.agg (List.zipWith iW vs.toList ks)
 | v=>iW v (ks.headD 0)
def oD (P:Program) (te:TypeId) (ks:List Nat):Option (AV×Nat×Nat):=
 match P.underlying te with
 | some (.slice e)=>match P.info? e with
   | some i=>match i.zero with
     | some z=>if (gi z ks).cells.length=i.size/\z.cells.size=i.size/\0<i.size/\ones (gi z ks).cells=true then some (gi z ks,i.size,i.bytes)else none
     | none=>none
   | none=>none
 | _=>none
theorem Pz {P:Program} {te:TypeId} {ks:List Nat} {x:AV×Nat×Nat} (h:oD P te ks=some x):∃e i z,P.underlying te=some (.slice e)/\P.info? e=some i/\i.zero=some z/\(gi z ks).cells.length=i.size/\z.cells.size=i.size/\0<i.size/\ones (gi z ks).cells=true/\x=(gi z ks,i.size,i.bytes):=by
 unfold oD at h;split at h
 ·rename_i e hu;split at h
  ·rename_i i hi;split at h
   ·rename_i z hz;split at h
    ·rename_i hc;cases h;exact⟨e,i,z,hu,hi,hz,hc.1,hc.2.1,hc.2.2.1,hc.2.2.2,rfl⟩
    ·cases h
   ·cases h
  ·cases h
 ·cases h
theorem Pf (S:Nat->Prop) (w:World) (v:Value) (k:Nat):aO S w v (iW v k):=by
 unfold iW;split
 ·exact .sl0 none 0 k
 ·exact .v _
theorem ae1 (v:Value) (k:Nat):(iW v k).cells=[iW v k]:=by
 unfold iW;split<;>rfl
theorem agf (S:Nat->Prop) (w:World) (z:Value) (ks:List Nat) (hl:(gi z ks).cells.length=z.cells.size) (j:Nat) (hj:j<z.cells.size):aO S w (z.cells.getD j undef) ((gi z ks).cells.getD j .any):=by
 have one:∀v:Value,v.cells=#[v]->gi v ks=iW v (ks.headD 0)->j<v.cells.size->aO S w (v.cells.getD j undef) ((gi v ks).cells.getD j .any):=by
  intro v hv he hj;rw[hv]at hj ⊢;rw[he,ae1];have:j=0:=by simpa using hj
  subst this;exact Pf S w v _
 cases z with
 | agg vs=>
   have hc:(Value.agg vs).cells=vs:=rfl;rw[hc]at hl hj ⊢;have hl':(List.zipWith iW vs.toList ks).length=vs.size:=hl;simp only[List.length_zipWith,Array.length_toList]at hl';have h2:j<ks.length:=by omega
   have e:(gi (.agg vs) ks).cells.getD j .any=iW vs[j] ks[j]:=by
    show(List.zipWith iW vs.toList ks).getD j .any=_;rw[List.getD,List.getElem?_zipWith,List.getElem?_eq_getElem (by simpa using hj),List.getElem?_eq_getElem h2];simp
   rw[e,show vs.getD j undef=vs[j] by simp[Array.getD,hj]];exact Pf S w _ _
 | _=>exact one _ rfl rfl hj
theorem ac0 {z:Array Value} {n i j k:Nat} (hk:z.size=k) (hi:i*k+j<n) (hj:j<k):(madeCells z n).getD (i*k+j) undef=z.getD j undef:=by
 have h1:i*k+j<(madeCells z n).size:=by rw[size_madeCells];exact hi
 have hm:(i*k+j)%z.size=j:=by rw[hk,Nat.mul_comm,Nat.mul_add_mod];exact Nat.mod_eq_of_lt hj
 have hjz:j<z.size:=by omega
 rw[show(madeCells z n).getD (i*k+j) undef=(madeCells z n)[i*k+j] by simp[Array.getD,h1],show z.getD j undef=z[j] by simp[Array.getD,hjz]];simp only[madeCells,Array.getElem_map,Array.getElem_range];rw[hm];exact getElem!_pos z j hjz
theorem RD {P:Program} {t:List AV} {H:AH} {te ty:TypeId} {x y:Operand} {ks:List Nat} {zv:AV} {k aQ:Nat} {kl kc:IntKind} {l c:Int} (hm:oD P te ks=some (zv,k,aQ)) (h1:od t (ak x)=.v (.int kl l)) (h2:od t (ak y)=.v (.int kc c))
 (h0:0<=l) (hlc:l<=c) (hb:(aQ:Int)*c<=281474976710656) (h63:c<=9223372036854775807):OS P (.raw (.makeSlice te x y) ty) t H (.ret (.own H.buf.length)) ⟨H.box,H.buf++[.live k (List.replicate l.toNat zv)]⟩:=by
 intro wr oc hc;obtain⟨hop,_⟩:=jK hc;obtain⟨e,i,z,hu,hi,hz,q1,q2,q3,q4,hx⟩:=Pz hm;simp only[Prod.mk.injEq]at hx;obtain⟨rfl,rfl,rfl⟩:=hx;refine jJ λM S w a hxx hh=>?_;rw[hop]at hxx;have e1:=hxx x (by simp[Op.operands]);have e2:=hxx y (by simp[Op.operands]);rw[h1]at e1;rw[h2]at e2;have hr:=run_make (P:=P) w te e i z hu hi hz kl kc l c h0 hlc hb h63;have hg:=Grew.alloc w (.cells (madeCells z.cells (c.toNat*i.size)) e);have hun:¬S w.heap.size:=λh=>by have:=hh.sits _ h;omega
 have hlen:(List.replicate l.toNat (gi z ks)).length=l.toNat:=by simp
 have hget:∀q,q<l.toNat->(List.replicate l.toNat (gi z ks)).getD q .any=gi z ks:=λq hq=>by simp[List.getD,hq]
 have hlive:b9 S (w.alloc (.cells (madeCells z.cells (c.toNat*i.size)) e)) (.slice (some ⟨w.heap.size,0,none⟩) l.toNat c.toNat) i.size (List.replicate l.toNat (gi z ks)):=by
  by_cases hc0:c.toNat=0
  ·have hl0:l.toNat=0:=by omega
   rw[hc0,hl0];exact .inl ⟨⟨_,rfl⟩,rfl⟩
  ·refine .inr ⟨w.heap.size,c.toNat-1,_,e,by rw[hlen];congr 1;omega,hun,fP _ _,⟨by rw[hlen];omega,by unfold maxLen;omega,by rw[size_madeCells];congr 1;omega,λq hq=>?_,λq hq j hj=>?_,λq hq j hj=>?_⟩⟩
   ·rw[hlen]at hq;rw[hget q hq];exact q1
   ·rw[hlen]at hq;rw[hget q hq];exact jI q4 (by rw[q1];exact hj)
   ·rw[hlen]at hq;rw[hget q hq,ac0 q2 (by
     have:q+1<=c.toNat:=by omega
     have:=Nat.mul_le_mul_right i.size this;rw[Nat.add_mul]at this;omega) hj]
    exact agf S _ z ks (by rw[q1,q2]) j (by rw[q2];exact hj)
 obtain⟨hh2,hf2⟩:=hh.ci hg hlive (λg h=>by
  cases hcc:c.toNat with
  | zero=>rw[hcc]at h;cases h
  | succ q=>rw[hcc]at h;cases h;exact Nat.le_refl _)
 refine⟨_,_,_,S,?_,hh2,jF hh.nt ⟨_,_,_,rfl⟩,hf2⟩;simp only[execOp,hop,Sem.run_bind,e1.bh,e2.bh];rw[hr];rfl
def jf (l:List Int):List UInt8:=l.map λn=>UInt8.ofNat n.toNat
def jB (n:Int):AV:=.v (.int .u8 n)
def isRow:AV->Bool
 | .sl _ _ | .own _ | .emp=>true
 | _=>false
theorem afF {M:Maps} {S:Nat->Prop} {H:AH} {w:World} (hh:aE M S H w) {v:Value} {y:AV} {ys:List AV} (h:am M S w v y) (hy:isRow y=true) (hs:dH H 1 y=some ys):∃a n c,v=.slice a n c:=by
 cases h with
 | data h=>cases h<;>first|exact⟨_,_,_,rfl⟩|cases hy
 | own u hu _=>
   have hb:=hh.buf u (by rw[<- hh.nt];exact hu);have hs:lT 1 (H.buf.getD u .dead)=some ys:=hs;unfold lT at hs;cases hbf:H.buf.getD u .dead with
   | live k xs=>rw[hbf]at hb;exact b9.slice hb
   | bf k xs=>
     rw[hbf]at hb;obtain⟨a,c,e⟩:=AP hb;exact⟨a,_,c,e⟩
   | dead=>rw[hbf]at hs;cases hs
   | map q k xs=>rw[hbf]at hs;cases hs
 | _=>cases hy
theorem QI {S:Nat->Prop} {w:World} {v x:Value} (h:aO S w v (.v x)):v=x:=by cases h;rfl
theorem aib {P:Program} {S:Nat->Prop} {w:World} {src dst e:TypeId} (hs:P.underlying src=some (.slice e)) (he:P.underlying e=some (.int .u8)) (hd:P.underlying dst=some .string)
 {l:List Int} {a:Option Addr} {n c:Nat} {news:Array Value} (h:Src P S w 1 (.slice a n c) (l.map jB) news):(convert src dst (.slice a n c)).run P w=.ok (.string (bs (jf l))) w:=by
 have hn:n=l.length:=by
  have:=h.len;rw[abT]at this;have e:n=(l.map jB).length:=by injection this
  simpa using e
 have hz:=h.size;have hr:=h.run;rw[List.length_map,Nat.mul_one]at hz;rw[List.length_map]at hr;rw[run_convert_bytes_string w src dst e a n c hs he hd];cases a with
 | none=>
   have:news=#[]:=by
    have h2:(Builtin.firstCells 1 l.length (.slice none n c)).run P w=.ok #[] w:=rfl;rw[h2]at hr;injection hr with h3 h4;exact h3.symm
   subst this;have:l=[]:=by cases l with
    | nil=>rfl
    | cons=>simp at hz
   subst this;rfl
 | some a=>
   have hnews:news=(l.map (Value.int .u8)).toArray:=by
    apply Array.ext
    ·simp[hz]
    ·intro i h1 h2;have hi:i<l.length:=by omega
     have h3:=h.rep i (by simpa using hi) 0 (by omega);have h4:((l.map jB).getD i .any).cells.getD 0 .any=.v (.int .u8 l[i]):=by simp[List.getD,hi,jB,AV.cells]
     rw[h4]at h3;have h5:news.getD (i*1+0) undef=.int .u8 l[i]:=QI h3;rw[Nat.mul_one,Nat.add_zero]at h5;simp only[Array.getD,h1,dite_true]at h5;rw[show news[i]=news.getInternal i h1 from rfl,h5];simp
   have hl:(loadCells a n).run P w=.ok (l.map (Value.int .u8)).toArray w:=by
    have h2:(Builtin.firstCells 1 l.length (.slice (some a) n c)).run P w=(loadCells a (l.length*1)).run P w:=rfl;rw[h2,Nat.mul_one,<- hn,hnews]at hr;exact hr
   rw[run_bytesToString w a n c l hl,foldl_push_bytes];simp[jf,bs,ByteArray.empty,ByteArray.emptyWithCapacity];rfl
theorem ai4 {P:Program} {t:List AV} {H:AH} {src dst e ty:TypeId} {x:Operand} {l:List Int} (hs:P.underlying src=some (.slice e)) (he:P.underlying e=some (.int .u8)) (hd:P.underlying dst=some .string)
 (hi:isRow (od t (ak x))=true) (hy:dH H 1 (od t (ak x))=some (l.map jB)):OS P (.raw (.convert src dst x) ty) t H (.ret (.v (.string (bs (jf l))))) H:=gh λM S w A oc hop hty hx hh=>by
 have e1:=hx x (by simp[Op.operands]);obtain⟨news,hsrc⟩:=Iz (P:=P) hh e1 hy;obtain⟨a,n,c,hv⟩:=afF hh e1 hi hy;rw[hv]at hsrc;refine⟨_,?_,.data (.v _)⟩;simp only[execOp,hop,hv,Sem.run_bind,aib hs he hd hsrc,Result.andThen_ok];rfl
section
def dv (P:Program) (e:TypeId) (as:List AV):AV:=if cG P e then .agg as else as.headD .any
mutual
inductive bT {H:Type} (P:Program):TypeId->DataW H->List AV->Prop
 | bool {t b} (h:P.underlying t=some .bool):bT P t (.lit (.bool b)) [.v (.bool b)]
 | int {t k n} (h:P.underlying t=some (.int k)) (hw:(Lit.int k n).wf=true):bT P t (.lit (.int k n)) [.v (.int k n)]
 | float {t k n} (h:P.underlying t=some (.float k)):bT P t (.lit (.float k n)) [.v (.float k n)]
 | string {t l} (h:P.underlying t=some .string) (hl:l.length<=maxLen):bT P t (.lit (.string l)) [.v (.string (bs l))]
 | nil {t e} (h:P.underlying t=some (.slice e)):bT P t .nil [.sl (P.cellsOf e) []]
 | slice {t e elems spare ass} (h:P.underlying t=some (.slice e)) (hl:elems.length<=maxLen) (ha:ou P e elems ass):bT P t (.slice elems spare) [.sl (P.cellsOf e) (ass.map (dv P e))]
 | struct {t fs parts as} (h:P.underlying t=some (.struct fs)) (ha:iq P (fs.toList.map (·.type)) parts as):bT P t (.agg parts) as
 | array {t n e parts as} (h:P.underlying t=some (.array n e)) (ha:iq P (List.replicate n e) parts as):bT P t (.agg parts) as
inductive iq {H:Type} (P:Program):List TypeId->List (DataW H)->List AV->Prop
 | nil:iq P [] [] []
 | cons {t ts d ds as bs} (h:bT P t d as) (r:iq P ts ds bs):iq P (t::ts) (d::ds) (as++bs)
inductive ou {H:Type} (P:Program):TypeId->List (DataW H)->List (List AV)->Prop
 | nil {e}:ou P e [] []
 | cons {e d ds as ass} (h:bT P e d as) (r:ou P e ds ass):ou P e (d::ds) (as::ass)
end
def ro (P:Program) (total:Nat):Nat->List Field->Bool
 | o,[]=>o==total
 | o,f::l=>f.offset==o&&decide (o+P.cellsOf f.type<=total)&&ro P total (o+P.cellsOf f.type) l
def cx (P:Program):Nat->TypeId->Bool
 | 0,_=>false
 | m+1,t=>match P.underlying t with
   | some .bool|some (.int _)|some (.float _)|some .string=>P.cellsOf t==1
   | some (.slice e)=>P.cellsOf t==1&&cx P m e&&decide (0<P.cellsOf e)&&(cG P e||P.cellsOf e==1)
   | some (.struct fs)=>ro P (P.cellsOf t) 0 fs.toList&&fs.toList.all (λf=>cx P m f.type)
   | some (.array n e)=>decide (n*P.cellsOf e=P.cellsOf t)&&cx P m e
   | _=>false
theorem HF {α β:Type} {f:α->Option β}:∀ {l:List α} {r:List β},l.mapM f=some r->r.length=l.length/\∀(i:Nat) x,l[i]?=some x->∃y,r[i]?=some y/\f x=some y
 | [],r,h=>by simp at h;subst h;simp
 | x::l,r,h=>by
   rw[List.mapM_cons]at h;simp only[Option.bind_eq_bind,Option.bind_eq_some_iff,Option.pure_def,Option.some.injEq]at h;obtain⟨y,hy,r',hr,rfl⟩:=h;obtain⟨h1,h2⟩:=HF hr;refine⟨by simp[h1],λi z hz=>?_⟩;cases i with
   | zero=>simp at hz;subst hz;exact⟨y,rfl,hy⟩
   | succ i=>simp at hz;simpa using h2 i z hz
theorem cells?_get {w:World} {a:Addr} {n:Nat} {cs:List Value} (h:w.cells? 0 a n=some cs):cs.length=n/\∀i,i<n->w.cell? (a.add i)=some (cs.getD i undef):=by
 unfold World.cells? at h;rw[if_pos (Nat.zero_le _)]at h;obtain⟨h1,h2⟩:=HF h;rw[List.length_range]at h1;refine⟨h1,λi hi=>?_⟩;obtain⟨y,hy,he⟩:=h2 i i (by simp[hi]);rw[he];simp[List.getD,hy]
theorem cell?_block {w:World} {a:Addr} {v:Value} (h:w.cell? a=some v):a.spot=none/\∃c T fz,w.heap[a.block]?=some (.cells c T fz)/\c[a.off]?=some v:=by
 unfold World.cell? at h;split at h
 ·rename_i c T fz hg;split at h
  ·cases h
  ·rename_i hs;exact⟨by cases e:a.spot with|none=>rfl|some _=>simp[e]at hs,c,T,fz,hg,h⟩
 ·cases h
theorem Aa (a:Addr) (n:Nat):(a.add n).block=a.block:=by unfold Addr.add;split<;>rfl
theorem Ql (a:Addr) (n:Nat):(a.add n).off=a.off+n:=by unfold Addr.add;split<;>simp_all
def Rd (w:World) (cs:List Value) (as:List AV):Prop:=cs.length=as.length/\∀i,i<as.length->(as.getD i .any).one=true/\aO (λg=>g<w.heap.size) w (cs.getD i undef) (as.getD i .any)
theorem Rd.one {w:World} {v:Value} {a:AV} (h1:a.one=true) (h2:aO (λg=>g<w.heap.size) w v a):Rd w [v] [a]:=
 ⟨rfl,λi hi=>by
   have:i=0:=by simpa using hi
   subst this;exact⟨h1,h2⟩⟩
theorem afv {P:Program} {e:TypeId} {as:List AV} {w:World} {cs:List Value} (h:Rd w cs as) (hk:cs.length=P.cellsOf e) (hg:(cG P e||P.cellsOf e==1)=true):(dv P e as).cells=as:=by
 unfold dv;split
 ·rfl
 ·rename_i ha;have h1:as.length=1:=by
   rw[<- h.1,hk];cases hb:cG P e with
   | true=>exact absurd hb ha
   | false=>simpa[hb]using hg
  match as,h1 with
  | [x],_=>exact OH ((h.2 0 (by simp)).1)
section
variable {H:Type} {enc:TypeId×Value->H} {P:Program} {w:World} {held:Bool}
theorem OG {m n total:Nat} {cs:List Value} (hcs:cs.length=total)
 (ih:∀(t:TypeId) (cs:List Value) (d:DataW H) (ps:List MemPlace),cx P m t=true->DataW.trod enc P w 0 (λ_=>true) held n t cs=some (d,ps)->cs.length=P.cellsOf t->∃as,bT P t d as/\Rd w cs as):
 ∀(fl:List Field) (o:Nat) (xs:List (DataW H×List MemPlace)),ro P total o fl=true->fl.all (λf=>cx P m f.type)=true->
  fl.mapM (λf=>DataW.trod enc P w 0 (λ_=>true) held n f.type ((cs.drop f.offset).take (P.cellsOf f.type)))=some xs->∃as,iq P (fl.map (·.type)) (xs.map (·.1)) as/\Rd w (cs.drop o) as
 | [],o,xs,ho,_,h=>by
   simp at h;subst h;simp only[ro,beq_iff_eq]at ho;exact⟨[],.nil,by simp[ho,hcs],λi hi=>by simp at hi⟩
 | f::fl,o,xs,ho,hg,h=>by
   rw[List.mapM_cons]at h;simp only[Option.bind_eq_bind,Option.bind_eq_some_iff,Option.pure_def,Option.some.injEq]at h;obtain⟨x,hx,r,hr,rfl⟩:=h;simp only[ro,Bool.and_eq_true,beq_iff_eq,decide_eq_true_eq]at ho;obtain⟨⟨rfl,hle⟩,ho⟩:=ho;simp only[List.all_cons,Bool.and_eq_true]at hg;have hlen:((cs.drop f.offset).take (P.cellsOf f.type)).length=P.cellsOf f.type:=by simp;omega
   obtain⟨as,h1,h2⟩:=ih f.type _ x.1 x.2 hg.1 hx hlen;obtain⟨bs',h3,h4⟩:=OG hcs ih fl _ r ho hg.2 hr;have hal:as.length=P.cellsOf f.type:=by rw[<- h2.1,hlen]
   refine⟨as++bs',.cons h1 h3,?_,λi hi=>?_⟩
   ·rw[List.length_append,hal,<- h4.1];simp;omega
   ·rw[ma];split
    ·rename_i hlt;have:=h2.2 i hlt;have e:((cs.drop f.offset).take (P.cellsOf f.type)).getD i undef=(cs.drop f.offset).getD i undef:=by
      simp[List.getD,List.getElem?_take_of_lt (show i<P.cellsOf f.type by omega)]
     rw[e]at this;exact this
    ·rename_i hge;rw[List.length_append]at hi;have:=h4.2 (i-as.length) (by omega);have e:(cs.drop (f.offset+P.cellsOf f.type)).getD (i-as.length) undef=(cs.drop f.offset).getD i undef:=by
      simp only[List.getD,List.getElem?_drop];congr 2;omega
     rw[e]at this;exact this
theorem OL {m n:Nat} {e:TypeId} {cs:List Value} (hg:cx P m e=true)
 (ih:∀(t:TypeId) (cs:List Value) (d:DataW H) (ps:List MemPlace),cx P m t=true->DataW.trod enc P w 0 (λ_=>true) held n t cs=some (d,ps)->cs.length=P.cellsOf t->∃as,bT P t d as/\Rd w cs as):
 ∀(q o:Nat) (xs:List (DataW H×List MemPlace)),cs.length=(o+q)*P.cellsOf e->
  (List.range' o q).mapM (λi=>DataW.trod enc P w 0 (λ_=>true) held n e ((cs.drop (i*P.cellsOf e)).take (P.cellsOf e)))=some xs->∃as,iq P (List.replicate q e) (xs.map (·.1)) as/\Rd w (cs.drop (o*P.cellsOf e)) as
 | 0,o,xs,hl,h=>by
   simp at h;subst h;exact⟨[],.nil,by simp at hl;simp[hl],λi hi=>by simp at hi⟩
 | q+1,o,xs,hl,h=>by
   rw[List.range'_succ,List.mapM_cons]at h;simp only[Option.bind_eq_bind,Option.bind_eq_some_iff,Option.pure_def,Option.some.injEq]at h;obtain⟨x,hx,r,hr,rfl⟩:=h;have hsz:o*P.cellsOf e+P.cellsOf e<=cs.length:=by
    rw[hl,<- Nat.succ_mul];exact Nat.mul_le_mul_right _ (by omega)
   have hlen:((cs.drop (o*P.cellsOf e)).take (P.cellsOf e)).length=P.cellsOf e:=by simp;omega
   obtain⟨as,h1,h2⟩:=ih e _ x.1 x.2 hg hx hlen;obtain⟨bs',h3,h4⟩:=OL hg ih q (o+1) r (by rw[hl];congr 1;omega) hr;have hal:as.length=P.cellsOf e:=by rw[<- h2.1,hlen]
   refine⟨as++bs',.cons h1 h3,?_,λi hi=>?_⟩
   ·rw[List.length_append,hal,<- h4.1];simp[Nat.add_mul];omega
   ·rw[ma];split
    ·rename_i hlt;have:=h2.2 i hlt;have e':((cs.drop (o*P.cellsOf e)).take (P.cellsOf e)).getD i undef=(cs.drop (o*P.cellsOf e)).getD i undef:=by
      simp[List.getD,List.getElem?_take_of_lt (show i<P.cellsOf e by omega)]
     rw[e']at this;exact this
    ·rename_i hge;rw[List.length_append]at hi;have:=h4.2 (i-as.length) (by omega);have e':(cs.drop ((o+1)*P.cellsOf e)).getD (i-as.length) undef=(cs.drop (o*P.cellsOf e)).getD i undef:=by
      simp only[List.getD,List.getElem?_drop,Nat.add_mul];congr 2;omega
     rw[e']at this;exact this
theorem Qq {m n:Nat} {e:TypeId} (hg:cx P m e=true) {a:Addr}
 (ih:∀(t:TypeId) (cs:List Value) (d:DataW H) (ps:List MemPlace),cx P m t=true->DataW.trod enc P w 0 (λ_=>true) held n t cs=some (d,ps)->cs.length=P.cellsOf t->∃as,bT P t d as/\Rd w cs as):
 ∀(q o:Nat) (xs:List (DataW H×List MemPlace)),
  (List.range' o q).mapM (λi=>(w.cells? 0 (a.add (i*P.cellsOf e)) (P.cellsOf e)).bind (DataW.trod enc P w 0 (λ_=>true) held n e))=some xs->
  ∃ass,ou P e (xs.map (·.1)) ass/\ass.length=q/\∀i,i<q->∃cs,w.cells? 0 (a.add ((o+i)*P.cellsOf e)) (P.cellsOf e)=some cs/\cs.length=P.cellsOf e/\Rd w cs (ass.getD i [])
 | 0,o,xs,h=>by
   simp at h;subst h;exact⟨[],.nil,rfl,λi hi=>by omega⟩
 | q+1,o,xs,h=>by
   rw[List.range'_succ,List.mapM_cons]at h;simp only[Option.bind_eq_bind,Option.bind_eq_some_iff,Option.pure_def,Option.some.injEq]at h;obtain⟨x,⟨cs,hc,hx⟩,r,hr,rfl⟩:=h;have hlen:=(cells?_get hc).1;obtain⟨as,h1,h2⟩:=ih e cs x.1 x.2 hg hx hlen;obtain⟨ass,h3,h4,h5⟩:=Qq hg ih q (o+1) r hr;refine⟨as::ass,.cons h1 h3,by simp[h4],λi hi=>?_⟩;cases i with
   | zero=>exact⟨cs,hc,hlen,h2⟩
   | succ i=>
     obtain⟨cs',q1,q2,q3⟩:=h5 i (by omega);exact⟨cs',by rw[show o+(i+1)=o+1+i by omega];exact q1,q2,q3⟩
theorem Hv:∀(n m:Nat) (t:TypeId) (cs:List Value) (d:DataW H) (ps:List MemPlace),cx P m t=true->DataW.trod enc P w 0 (λ_=>true) held n t cs=some (d,ps)->cs.length=P.cellsOf t->∃as,bT P t d as/\Rd w cs as
 | 0,_,_,_,_,_,_,h,_=>by simp[DataW.trod]at h
 | _+1,0,_,_,_,_,hg,_,_=>by simp[cx]at hg
 | n+1,m+1,t,cs,d,ps,hg,h,hcs=>by
   have ih:∀(t:TypeId) (cs:List Value) (d:DataW H) (ps:List MemPlace),cx P m t=true->DataW.trod enc P w 0 (λ_=>true) held n t cs=some (d,ps)->cs.length=P.cellsOf t->∃as,bT P t d as/\Rd w cs as:=
    λt cs d ps=>Hv n m t cs d ps
   cases hu:P.underlying t with
   | none=>simp[cx,hu]at hg
   | some td=>
     have one:P.cellsOf t=1->∃v,cs=[v]:=λh1=>by
      rw[h1]at hcs
      match cs,hcs with
      | [v],_=>exact⟨v,rfl⟩
     cases td with
     | bool=>
       obtain⟨v,rfl⟩:=one (by simpa[cx,hu]using hg);cases v<;>simp[DataW.trod,hu]at h;obtain⟨rfl,rfl⟩:=h;exact⟨_,.bool hu,Rd.one rfl (.v _)⟩
     | int k=>
       obtain⟨v,rfl⟩:=one (by simpa[cx,hu]using hg);cases v<;>simp[DataW.trod,hu]at h;obtain⟨⟨rfl,hw⟩,rfl,rfl⟩:=h;exact⟨_,.int hu hw,Rd.one rfl (.v _)⟩
     | float k=>
       obtain⟨v,rfl⟩:=one (by simpa[cx,hu]using hg);cases v<;>simp[DataW.trod,hu]at h;obtain⟨⟨rfl,hw⟩,rfl,rfl⟩:=h;exact⟨_,.float hu,Rd.one rfl (.v _)⟩
     | string=>
       obtain⟨v,rfl⟩:=one (by simpa[cx,hu]using hg);cases v<;>simp[DataW.trod,hu]at h;obtain⟨hw,rfl,rfl⟩:=h;exact⟨_,.string hu (by simpa using hw),Rd.one rfl (by
        rename_i s;have:bs s.data.toList=s:=by cases s;rfl
        rw[this];exact .v _)⟩
     | slice e=>
       simp only[cx,hu,Bool.and_eq_true,beq_iff_eq,decide_eq_true_eq]at hg;obtain⟨⟨⟨hg1,hge⟩,hpos⟩,hagg⟩:=hg;obtain⟨v,rfl⟩:=one hg1;cases v<;>simp[DataW.trod,hu]at h;rename_i ad len cap;cases ad with
       | none=>
         cases len with
         | zero=>
           cases cap with
           | zero=>
             simp[DataW.trod,hu]at h;obtain⟨rfl,rfl⟩:=h;exact⟨_,.nil hu,Rd.one rfl (.sl0 _ _ _)⟩
           | succ _=>simp[DataW.trod,hu]at h
         | succ _=>simp[DataW.trod,hu]at h
       | some a=>
         simp only[DataW.trod,hu]at h;split at h
         ·rename_i hc;simp only[Option.bind_eq_some_iff,Option.map_eq_some_iff]at h;obtain⟨elems,he,rest,hr,hx⟩:=h;simp only[Prod.mk.injEq]at hx;obtain⟨rfl,rfl⟩:=hx;rw[List.range_eq_range']at he;obtain⟨ass,h1,h2,h3⟩:=Qq hge ih len 0 elems he;have hel:elems.length=len:=by have:=(HF he).1;simpa using this
          refine⟨_,.slice hu (by rw[List.length_map,hel];omega) h1,Rd.one rfl ?_⟩;have hlen:(ass.map (dv P e)).length=len:=by simp[h2]
          have hget:∀i,i<len->(ass.map (dv P e)).getD i .any=dv P e (ass.getD i []):=λi hi=>by simp[List.getD,h2,hi]
          by_cases hl0:len=0
          ·have:ass.map (dv P e)=[]:=List.eq_nil_of_length_eq_zero (by omega);rw[this,hl0];exact .sl0 _ _ _
          ·have IR:∀i,i<len->∀j,j<P.cellsOf e->∃cs',cs'.length=P.cellsOf e/\Rd w cs' (ass.getD i [])/\w.cell? ((a.add (i*P.cellsOf e)).add j)=some (cs'.getD j undef):=λi hi j hj=>by
            obtain⟨cs',q1,q2,q3⟩:=h3 i hi;rw[Nat.zero_add]at q1;exact⟨cs',q2,q3,(cells?_get q1).2 j hj⟩
           obtain⟨cs0,_,_,hc0⟩:=IR 0 (by omega) 0 hpos;obtain⟨hsp,c,T,fz,hg,aki⟩:=cell?_block hc0;rw[Aa,Aa]at hg;have hspot:a.spot=none:=by
            have e0:(a.add (0*P.cellsOf e)).add 0=a:=by simp[Addr.add]
            rw[e0]at hsp;exact hsp
           have hat:∀i,i<len->∀j,j<P.cellsOf e->∃cs',cs'.length=P.cellsOf e/\Rd w cs' (ass.getD i [])/\c[a.off+i*P.cellsOf e+j]?=some (cs'.getD j undef):=λi hi j hj=>by
            obtain⟨cs',q1,q2,q3⟩:=IR i hi j hj;obtain⟨_,c',T',fz',hg',hcc⟩:=cell?_block q3;rw[Aa,Aa,hg]at hg';cases hg';rw[Ql,Ql]at hcc;exact⟨cs',q1,q2,hcc⟩
           have hcells:∀i,i<len->(dv P e (ass.getD i [])).cells=ass.getD i []/\(ass.getD i []).length=P.cellsOf e:=λi hi=>by
            obtain⟨cs',q1,q2,q3⟩:=h3 i hi;exact⟨afv q3 q2 (by simpa using hagg),by rw[<- q3.1,q2]⟩
           have ha:a=⟨a.block,a.off,none⟩:=by rw[<- hspot]
           rw[ha];have key:=aO.sl (S:=λg=>g<w.heap.size) (w:=w) a.block a.off cap (P.cellsOf e) (ass.map (dv P e)) c T fz (by rw[hlen];exact hc.1) (mb hg) hg ?_ ?_ ?_ ?_
           ·rw[hlen]at key;exact key
           ·rw[hlen];obtain⟨cs',q1,q2,q3⟩:=hat (len-1) (by omega) (P.cellsOf e-1) (by omega)
            have:=(Array.getElem?_eq_some_iff.1 q3).1;have e2:len*P.cellsOf e=(len-1)*P.cellsOf e+P.cellsOf e:=by
             rw[<- Nat.succ_mul];congr 1;omega
            omega
           ·intro i hi;rw[hlen]at hi;rw[hget i hi,(hcells i hi).1,(hcells i hi).2]
           ·intro i hi j hj;rw[hlen]at hi;rw[hget i hi,(hcells i hi).1];obtain⟨cs',q1,q2,q3⟩:=hat i hi j hj;exact(q2.2 j (by rw[<- q2.1,q1];exact hj)).1
           ·intro i hi j hj;rw[hlen]at hi;rw[hget i hi,(hcells i hi).1];obtain⟨cs',q1,q2,q3⟩:=hat i hi j hj;have:=(q2.2 j (by rw[<- q2.1,q1];exact hj)).2;rw[show c.getD (a.off+i*P.cellsOf e+j) undef=cs'.getD j undef by rw[ir,q3];rfl];exact this
         ·cases h
     | struct fs=>
       simp only[cx,hu,Bool.and_eq_true]at hg;simp only[DataW.trod,hu]at h;rw[if_pos hcs]at h;simp only[Option.map_eq_some_iff]at h;obtain⟨xs,hx,he⟩:=h;simp only[Prod.mk.injEq]at he;obtain⟨rfl,rfl⟩:=he;obtain⟨as,h1,h2⟩:=OG hcs ih fs.toList 0 xs hg.1 hg.2 hx;rw[List.drop_zero]at h2;exact⟨as,.struct hu h1,h2⟩
     | array q e=>
       simp only[cx,hu,Bool.and_eq_true,decide_eq_true_eq]at hg;simp only[DataW.trod,hu]at h;rw[if_pos hcs]at h;simp only[Option.map_eq_some_iff]at h;obtain⟨xs,hx,he⟩:=h;simp only[Prod.mk.injEq]at he;obtain⟨rfl,rfl⟩:=he;rw[List.range_eq_range']at hx;obtain⟨as,h1,h2⟩:=OL hg.2 ih q 0 xs (by rw[hcs,<- hg.1];simp) hx;simp only[Nat.zero_mul,List.drop_zero]at h2;exact⟨as,.array hu h1,h2⟩
     | _=>simp[cx,hu]at hg
end
end
section
open Go Go.RowKit Go.ChangeShapes Go.WideShapes
inductive iX {H:Type} (P:Program):List TypeId->List (DataW H)->List AV->Prop
 | nil:iX P [] [] []
 | cons {t ts d ds as xs} (h:bT P t d as) (r:iX P ts ds xs):iX P (t::ts) (d::ds) (dv P t as::xs)
theorem afI {H:Type} {enc:TypeId×Value->H} {P:Program} {w:World} {held:Bool} {base m:Nat} {t:TypeId} {v:Value} {d:DataW H} {ps:List MemPlace} (hg:cx P m t=true) (hok:Value.okWide P w .any base t v) (h:DataW.Trod enc P w 0 (λ_=>true) held t v d ps):
 ∃as,bT P t d as/\aO (λg=>g<w.heap.size) w v (dv P t as):=by
 obtain⟨n,h⟩:=h;cases m with
 | zero=>simp[cx]at hg
 | succ m=>
   cases hu:P.underlying t with
   | none=>simp[cx,hu]at hg
   | some td=>
     have single:cG P t=false->P.cellsOf t=1->v.cells=#[v]->∃as,bT P t d as/\aO (λg=>g<w.heap.size) w v (dv P t as):=λha h1 hc=>by
      rw[hc]at h;obtain⟨as,q1,q2⟩:=Hv n (m+1) t _ d ps hg h (by rw[h1];rfl);refine⟨as,q1,?_⟩;have hl:=q2.1
      match as,hl with
      | [x],_=>
        have:=(q2.2 0 (by simp)).2;simpa[dv,ha]using this
     have agg:cG P t=true->(∃cs,v=.agg cs/\cs.size=P.cellsOf t/\Row.okWide P w .any base t cs)->∃as,bT P t d as/\aO (λg=>g<w.heap.size) w v (dv P t as):=λha ⟨cs,hv,hs,_⟩=>by
      subst hv;obtain⟨as,q1,q2⟩:=Hv n (m+1) t _ d ps hg h (by show cs.toList.length=_;simpa using hs);refine⟨as,q1,?_⟩;have e:dv P t as=.agg as:=by simp[dv,ha]
      rw[e];have hl:cs.size=as.length:=by have:cs.toList.length=as.length:=q2.1;simpa using this
      refine .agg cs as hl λi hi=>?_;have:=(q2.2 i hi).2;have e2:(Value.agg cs).cells.toList.getD i undef=cs.getD i undef:=by
       show cs.toList.getD i undef=_;simp[List.getD,Array.getD,hl,hi]
      rw[e2]at this;exact this
     unfold Value.okWide at hok;rw[hu]at hok;cases td with
     | bool=>
       refine single (by simp[cG,hu]) (by simpa[cx,hu]using hg) ?_;simp only[Cell.okWide,hu,Cell.ok]at hok;cases v<;>first|rfl|exact hok.elim
     | int k=>
       refine single (by simp[cG,hu]) (by simpa[cx,hu]using hg) ?_;simp only[Cell.okWide,hu,Cell.ok]at hok;cases v<;>first|rfl|exact hok.elim
     | float k=>
       refine single (by simp[cG,hu]) (by simpa[cx,hu]using hg) ?_;simp only[Cell.okWide,hu,Cell.ok]at hok;cases v<;>first|rfl|exact hok.elim
     | string=>
       refine single (by simp[cG,hu]) (by simpa[cx,hu]using hg) ?_;simp only[Cell.okWide,hu,Cell.ok]at hok;cases v<;>first|rfl|exact hok.elim
     | slice e=>
       refine single (by simp[cG,hu]) (by simp only[cx,hu,Bool.and_eq_true,beq_iff_eq]at hg;exact hg.1.1.1) ?_;simp only[Cell.okWide,hu,Cell.ok]at hok;cases v<;>first|rfl|exact hok.elim
     | struct fs=>exact agg (by simp[cG,hu]) hok
     | array q e=>exact agg (by simp[cG,hu]) hok
     | _=>simp[cx,hu]at hg
theorem OM {H:Type} {enc:TypeId×Value->H} {P:Program} {w:World} {held:Bool} {base:Nat}:∀ {ts:List TypeId} {vs:List Value} {ds:List (DataW H)} {ps:List MemPlace},(∀t∈ts,cx P 40 t=true)->
 (∀(j:Nat) t v,ts[j]?=some t->vs[j]?=some v->Value.okWide P w .any base t v)->DataW.TrodAll enc P w 0 (λ_=>true) held ts vs ds ps->
 ∃xs,iX P ts ds xs/\vs.length=xs.length/\∀i,i<xs.length->aO (λg=>g<w.heap.size) w (vs.getD i undef) (xs.getD i .any)
 | [],[],[],_,_,_,_=>⟨[],.nil,rfl,λi hi=>by simp at hi⟩
 | t::ts,v::vs,d::ds,ps,hg,hok,h=>by
   obtain⟨p,q,h1,h2,rfl⟩:=h;obtain⟨as,q1,q2⟩:=afI (hg t (by simp)) (hok 0 t v rfl rfl) h1;obtain⟨xs,r1,r2,r3⟩:=OM (λt ht=>hg t (by simp[ht])) (λj t v e1 e2=>hok (j+1) t v e1 e2) h2;refine⟨dv P t as::xs,.cons q1 r1,by simp[r2],λi hi=>?_⟩;cases i with
   | zero=>simpa using q2
   | succ i=>simpa using r3 i (by simpa using hi)
 | [],_::_,_,_,_,_,h=>h.elim
 | [],[],_::_,_,_,_,h=>h.elim
 | _::_,[],_,_,_,_,h=>h.elim
 | _::_,_::_,[],_,_,_,h=>h.elim
theorem N5 {H:Type} {enc:TypeId×Value->H} {P:Program} (hl:laidOutB P=true) {W W':World} (hb:Below W.heap.size W W'):∀ {ts:List TypeId} {vs:List Value} {ds:List (DataW H)} {ps:List MemPlace},(∀t∈ts,P.readableRec t=true/\t<P.types.size)->
 DataW.TrodAll enc P W 0 (λ_=>true) true ts vs ds ps->DataW.TrodAll enc P W' 0 (λb=>decide (b<W.heap.size)) true ts vs ds ps
 | [],[],[],_,_,h=>h
 | t::ts,v::vs,d::ds,ps,hr,h=>by
   have hlt:=DataW.TrodAll.lt h;obtain⟨p,q,h1,h2,rfl⟩:=h;exact⟨p,q,Below.trod hl (hr t (by simp)).1 (hr t (by simp)).2 h1 hb (λx hx=>hlt x (by simp[hx])),N5 hl hb (λt ht=>hr t (by simp[ht])) h2,rfl⟩
 | [],_::_,_,_,_,h=>h.elim
 | [],[],_::_,_,_,h=>h.elim
 | _::_,[],_,_,_,h=>h.elim
 | _::_,_::_,[],_,_,h=>h.elim
theorem agD {H:Type} {enc:TypeId×Value->H} {P:Program} {f:FuncId} {fn:Func} {s:ChangeSpec} {apart:Bool} {ts:List TypeId} {tb:TypeId} (hl:laidOutB P=true) (hts:fn.params.toList=ts) (hrt:fn.resultTypes.toList=[tb]) (hub:P.underlying tb=some .bool)
 (hs:∀ds,(s.fn H (ds++[]))={ results:=[.lit (.bool true)],args:=ds }\/ds.length≠ts.length) (hvars:s.vars=[]) (hg:∀t∈ts,cx P 40 t=true) (hr:∀t∈ts,P.readableRec t=true/\t<P.types.size)
 (JQ:∀(ds:List (DataW H)) xs,iX P ts ds xs->bQ P f xs .nil (.ret (.b true)) .nil)
   {W:World} {base:Nat} {args:Array Value} {ds gs:List (DataW H)} {before:List MemPlace} (hE:∀i v,uD P=some (i,v)->W.cell? ⟨i,0,none⟩=some v/\i<W.heap.size) (hval:∀(j:Nat) t v,fn.params[j]?=some t->args[j]?=some v->Value.okWide P W .any base t v) (hW:DataW.Whole enc P fn.params.toList s.vars apart W args.toList ds gs before):
 Calls P f args W λe W'=>∃v,e=.returned v/\s.post enc P fn apart true false false W args v W':=by
 have hW':=hW;obtain⟨p,q,hA,hV,rfl,hfz,hnd⟩:=hW;rw[hts]at hA;rw[hvars]at hV;obtain⟨xs,h1,h2,h3⟩:=OM (base:=base) hg (λj t v e1 e2=>hval j t v (by rw[<- hts]at e1;simpa using e1) (by simpa using e2)) hA;have hlen:ds.length=ts.length:=by
  clear JQ hs hfz hnd hW' h2 h3 hA hg hr hts
  induction h1 with
  | nil=>rfl
  | cons _ _ ih=>simp[ih]
 have hgs:gs=[]/\q=[]:=by
  cases gs with
  | nil=>exact⟨rfl,hV⟩
  | cons g r=>exact absurd hV (by intro h;cases h)
 obtain⟨rfl,rfl⟩:=hgs
 let M:Maps:=⟨0,0,λ_=>0,λ_=>undef⟩
 have hh:aE M (λg=>g<W.heap.size) .nil W:=⟨rfl,rfl,λg h=>h,λb hb=>by simp[AH.nil]at hb,λt ht=>by simp[AH.nil]at ht,λb b' hb=>by simp[AH.nil]at hb,λt t' g ht=>by have:=ht.1;simp[AH.nil]at this,λb t g hb=>by simp[AH.nil]at hb⟩
 refine(JQ ds xs h1 M _ W args hh (λi v hi=>⟨(hE i v hi).1,λh=>(by rcases h with⟨b,hb,_⟩|⟨t,ht,_⟩<;>simp[AH.nil]at *),(hE i v hi).2⟩) (by simpa using h2) λi hi=>.data (by
  have:=h3 i hi;have e:args.toList.getD i undef=args.getD i undef:=by
   have hi':i<args.size:=by have:args.toList.length=xs.length:=h2;simp at this;omega
   simp[List.getD,Array.getD,hi']
  rw[e]at this;exact this)).mono λe W' ⟨M',S',he,hh',hf⟩=>?_
 cases e with
 | returned v=>
   have hv:v=.bool true:=am.bh he;subst hv;have hb:Below W.heap.size W W':=⟨hf.os,hf.tape,hf.output,hf.size,λk hk=>hf.cv k hk⟩
   have hsz:fn.resultTypes.size=1:=by rw[<- Array.length_toList,hrt];rfl
   refine⟨_,rfl,ds,[],_,[],p,[],hW',?_,?_,?_,hb.frame _,λh=>by cases h⟩
   ·rw[(hs ds).resolve_right (by simp[hlen]),hrt];have:(Value.bool true).resultList fn.resultTypes.size=[.bool true]:=by rw[hsz];rfl
    rw[this];exact trodAll_mk1 (shut_bool hub true)
   ·rw[(hs ds).resolve_right (by simp[hlen]),hts];exact N5 hl hb hr hA
   ·rw[(hs ds).resolve_right (by simp[hlen]),hvars];rfl
 | panicked ch=>exact he.elim
 | outgrown=>exact he.elim
end
section
section
variable {H:Type} {P:Program} {t:TypeId} {d:DataW H} {as:List AV}
theorem Ir {k:IntKind} (hu:P.underlying t=some (.int k)) (h:bT P t d as):∃n,as=[.v (.int k n)]/\k.min<=n/\n<=k.max:=by
 cases h with
 | int h' hw=>rw[hu]at h';cases h';simp[Lit.wf]at hw;exact⟨_,rfl,hw.1,hw.2⟩
 | bool h'=>rw[hu]at h';cases h'
 | float h'=>rw[hu]at h';cases h'
 | string h' _=>rw[hu]at h';cases h'
 | nil h'=>rw[hu]at h';cases h'
 | slice h' _ _=>rw[hu]at h';cases h'
 | struct h' _=>rw[hu]at h';cases h'
 | array h' _=>rw[hu]at h';cases h'
theorem ahu (hu:P.underlying t=some .bool) (h:bT P t d as):∃b,as=[.v (.bool b)]:=by
 cases h with
 | bool h'=>exact⟨_,rfl⟩
 | int h' hw=>rw[hu]at h';cases h'
 | float h'=>rw[hu]at h';cases h'
 | string h' _=>rw[hu]at h';cases h'
 | nil h'=>rw[hu]at h';cases h'
 | slice h' _ _=>rw[hu]at h';cases h'
 | struct h' _=>rw[hu]at h';cases h'
 | array h' _=>rw[hu]at h';cases h'
theorem af0 (hu:P.underlying t=some .string) (h:bT P t d as):∃l,as=[.v (.string (bs l))]/\l.length<=maxLen:=by
 cases h with
 | string h' hl=>exact⟨_,rfl,hl⟩
 | bool h'=>rw[hu]at h';cases h'
 | int h' hw=>rw[hu]at h';cases h'
 | float h'=>rw[hu]at h';cases h'
 | nil h'=>rw[hu]at h';cases h'
 | slice h' _ _=>rw[hu]at h';cases h'
 | struct h' _=>rw[hu]at h';cases h'
 | array h' _=>rw[hu]at h';cases h'
theorem QJ {T:Type} {e:TypeId} (f:T->AV) (ok:T->Prop) (he:∀(d:DataW H) as,bT P e d as->∃x,dv P e as=f x/\ok x):∀ {ds:List (DataW H)} {ass:List (List AV)},ou P e ds ass->∃xs:List T,ass.map (dv P e)=xs.map f/\(∀x∈xs,ok x)/\xs.length=ds.length
 | _,_,.nil=>⟨[],rfl,λx hx=>by simp at hx,rfl⟩
 | _,_,.cons h r=>by
   obtain⟨x,h1,h2⟩:=he _ _ h;obtain⟨xs,h3,h4,h5⟩:=QJ f ok he r;exact⟨x::xs,by simp[h1,h3],λy hy=>(List.mem_cons.1 hy).elim (λe=>e▸h2) (h4 y),by simp[h5]⟩
theorem HB {T:Type} {e:TypeId} {k:Nat} (f:T->AV) (ok:T->Prop) (hu:P.underlying t=some (.slice e)) (hk:P.cellsOf e=k) (he:∀(d:DataW H) as,bT P e d as->∃x,dv P e as=f x/\ok x) (h:bT P t d as):
 ∃xs:List T,as=[.sl k (xs.map f)]/\(∀x∈xs,ok x)/\xs.length<=maxLen:=by
 subst hk;cases h with
 | nil h'=>rw[hu]at h';cases h';exact⟨[],rfl,λx hx=>by simp at hx,by simp⟩
 | slice h' hl ha=>
   rw[hu]at h';cases h';obtain⟨xs,h1,h2,h3⟩:=QJ f ok he ha;exact⟨xs,by rw[h1],h2,by omega⟩
 | bool h'=>rw[hu]at h';cases h'
 | int h' hw=>rw[hu]at h';cases h'
 | float h'=>rw[hu]at h';cases h'
 | string h' _=>rw[hu]at h';cases h'
 | struct h' _=>rw[hu]at h';cases h'
 | array h' _=>rw[hu]at h';cases h'
def Ky (P:Program) (t:TypeId):Option (List TypeId):=
 match P.underlying t with
 | some (.struct fs)=>some (fs.toList.map (·.type))
 | _=>none
theorem tz {ts:List TypeId} (hu:Ky P t=some ts) (h:bT P t d as):∃parts:List (DataW H),iq P ts parts as:=by
 unfold Ky at hu;cases h with
 | struct h' ha=>rw[h']at hu;cases hu;exact⟨_,ha⟩
 | nil h'=>rw[h']at hu;cases hu
 | slice h' hl ha=>rw[h']at hu;cases hu
 | bool h'=>rw[h']at hu;cases hu
 | int h' hw=>rw[h']at hu;cases hu
 | float h'=>rw[h']at hu;cases hu
 | string h' _=>rw[h']at hu;cases hu
 | array h' _=>rw[h']at hu;cases hu
theorem eL {ts:List TypeId} {ds:List (DataW H)} (h:iq P (t::ts) ds as):∃(d:DataW H) (a1:List AV) (ds':List (DataW H)) (a2:List AV),as=a1++a2/\bT P t d a1/\iq P ts ds' a2:=by
 cases h with
 | cons h r=>exact⟨_,_,_,_,rfl,h,r⟩
theorem tM {ds:List (DataW H)} (h:iq P [] ds as):as=[]:=by cases h;rfl
theorem AJ (h:cG P t=true):dv P t as=.agg as:=by unfold dv;rw[if_pos h]
theorem agY {ts:List TypeId} {ds:List (DataW H)} {xs:List AV} (h:iX P (t::ts) ds xs):∃(d:DataW H) (as:List AV) (ds':List (DataW H)) (xs':List AV),ds=d::ds'/\xs=dv P t as::xs'/\bT P t d as/\iX P ts ds' xs':=by
 cases h with
 | cons h r=>exact⟨_,_,_,_,rfl,rfl,h,r⟩
theorem ahv {ds:List (DataW H)} {xs:List AV} (h:iX P [] ds xs):ds=[]/\xs=[]:=by cases h;exact⟨rfl,rfl⟩
end
end
end Go.Proofs.YtmfkphajohcklaaGreat.U
