/- slices.Compact of edges, walked. No premise beyond what each theorem says. -/
import Derived.Test.YtmfkphajohcklaaGreatUG2
import Derived.Shelf.GgSortFunc.RowK
import Derived.Shelf.SlicesE.Compact
import Derived.Sort.OwnSorted
import Derived.Sort.EveryDepth
set_option linter.all false
set_option linter.unusedSimpArgs false
set_option linter.unusedVariables false
set_option linter.unusedVariables false
set_option linter.unusedSimpArgs false
namespace Go.Proofs.YtmfkphajohcklaaGreat.U
open Go Go.Shelf Go.RowKit Go.Lib Go.Sort Go.Proofs.Tryz
set_option maxHeartbeats 1000000
set_option maxRecDepth 1000000
instance:Inhabited aa:=⟨⟨0,0⟩⟩
def cS (x:aa):List Value:=[.int .i64 x.To,.int .u32 x.aT]
instance:DecidableEq aa:=λx y=>by
 cases x with|mk a b=>cases y with|mk c d=>exact if h:a=c/\b=d then .isTrue (by rw[h.1,h.2])else .isFalse (λe=>h (by cases e;exact⟨rfl,rfl⟩))
theorem PV (x:aa):(cS x).length=2:=rfl
theorem adY (d:Array aa) (i:Nat) (x:aa) (hi:i<d.size):setMany (flatK cS 2 d) (i*2) (cS x)=flatK cS 2 (d.setIfInBounds i x):=by
 refine ext_get! (by simp) λt ht=>?_;have ht':t<d.size*2:=by simpa using ht
 rw[get_setMany _ _ _ t (by simpa using ht'),get_flatK _ _ _ t ht',get_flatK _ _ _ t (by simpa using ht'),PV];by_cases a:t/2=i
 ·rw[if_pos (by omega),<- a,getElem!_set_same _ _ _ (by omega),show t-t/2*2=t%2 by omega]
 ·rw[if_neg (by omega),getElem!_set_other _ _ _ _ a]
theorem adE {w wr:World} {n blk off:Nat} {dk:Array aa} {i:Nat} (hi:i<dk.size) (hwr:wr=putRowK cS 2 (Sort.ahead w n) blk off dk) (x:aa):
 ((wr.setCell ⟨blk,off+i*2,none⟩ (.int .i64 x.To)).setCell ⟨blk,off+i*2+1,none⟩ (.int .u32 x.aT)).drew=putRowK cS 2 (Sort.ahead w (n+1)) blk off (dk.setIfInBounds i x):=by
 have h:=setCells_putRow (Sort.ahead w (n+1)) blk off (cS x) (i*2) (flatK cS 2 dk) (by rw[PV,size_flatK];omega);rw[adY dk i x hi]at h;unfold putRowK;rw[<- h,hwr];rfl
theorem eE (a b c e:Int) (w:World):(binOp .eql 57 (.agg #[.int .i64 a,.int .u32 b]) (.agg #[.int .i64 c,.int .u32 e])).run Tryz.prog w=.ok (.bool (decide (a=c/\b=e))) w:=by
 have h1:=Tryz.underlying57;have h2:=Tryz.underlying3;have h3:=Tryz.underlying50;have e1:decide (a=c/\b=e)=((a==c)&&(b==e)):=by by_cases h1:a=c<;>by_cases h2:b=e<;>simp[h1,h2]
 rw[e1,run_eql_struct,run_equalIn_struct w 9999 _ _ _ (by rw[h1];rfl) (by kernel_rfl)];simp[go_sem,h1,h2,h3];by_cases h1:a=c<;>by_cases h2:b=e<;>simp[h1,h2]
theorem nE (a b c e:Int) (w:World):(binOp .neq 57 (.agg #[.int .i64 a,.int .u32 b]) (.agg #[.int .i64 c,.int .u32 e])).run Tryz.prog w=.ok (.bool (!decide (a=c/\b=e))) w:=by
 have h:=eE a b c e w;rw[run_eql_struct]at h;rw[run_neq_struct];generalize (Op.equalIn 10000 57 (.agg #[.int .i64 a,.int .u32 b]) (.agg #[.int .i64 c,.int .u32 e])).run Tryz.prog w=r at *;cases r with
 | ok x w'=>simp only[Result.andThen_ok]at h ⊢;injection h with h1 h2;subst h2;injection h1 with h1;rw[h1]
 | halt x w'=>cases h
theorem gE (op:BinOp) (p q:Operand) (a b c e:Int) (w:World):(eqGuard op 57 p q (.agg #[.int .i64 a,.int .u32 b]) (.agg #[.int .i64 c,.int .u32 e])).run Tryz.prog w=.ok () w:=run_eqGuard_agg w op 57 p q _ _ (by kernel_rfl)
theorem Tt {w:World} {blk o n c:Nat} {ty:TypeId} {F:Array Value} {s:Nat} (hn:0<n) (h:Holds id w blk o F) (hs:s+n*2<=F.size):∃L:List Value,L.length=n*2/\(Builtin.clear_ #[28] ty #[.slice (some ⟨blk,o+s,none⟩) n c]).run Tryz.prog w=.ok (.tuple #[]) (w.setCells blk (o+s) L):=by
 have ht:=Tryz.underlying28;have hv:=Tryz.zeroValue57;refine⟨(Builtin.zeroCells #[.int .i64 0,.int .u32 0] n).toList,by simp[Builtin.zeroCells],?_⟩;have hst:=run_storeCells_cells (P:=Tryz.prog) blk (o+s) (Builtin.zeroCells #[.int .i64 0,.int .u32 0] n).toList 0 w (λj hj=>by
  have hj:j<n*2:=by simpa[Builtin.zeroCells]using hj
  rw[Nat.add_zero,Nat.add_assoc,(h (s+j) (by omega)).1];rfl) (λj hj=>by
  have hj:j<n*2:=by simpa[Builtin.zeroCells]using hj
  rw[Nat.add_zero,Nat.add_assoc];exact(h (s+j) (by omega)).2) (λv hv=>by
  simp[Builtin.zeroCells]at hv;obtain⟨i,hi,rfl⟩:=hv;rcases (show i%2=0\/i%2=1 by omega)with e|e<;>rw[e]<;>rfl)
 simp only[Nat.add_zero]at hst;obtain⟨m,rfl⟩:∃m,n=m+1:=⟨n-1,by omega⟩
 simp[Builtin.clear_,run_underlying ht,hv,Value.cells,hst]
theorem qD {w:World} {blk off:Nat} {d:Array aa} (h:HoldsK cS 2 w blk off d) {i:Nat} (hi:i<d.size):(w.cell? ⟨blk,off+i*2,none⟩=some (.int .i64 d[i]!.To)/\w.frozen? ⟨blk,off+i*2,none⟩=false)/\(w.cell? ⟨blk,off+i*2+1,none⟩=some (.int .u32 d[i]!.aT)/\w.frozen? ⟨blk,off+i*2+1,none⟩=false):=
 ⟨h.cell (c:=0) hi (by decide),h.cell (c:=1) hi (by decide)⟩
theorem Bv {x y:aa}:x=y↔x.To=y.To/\x.aT=y.aT:=by
 cases x;cases y;simp
set_option maxHeartbeats 4000000 in
theorem ahN (blk off cap:Nat) (d:Array aa) (w:World) (hH:HoldsK cS 2 w blk off d) (hsz:d.size<=4611686018427387903) (hcap:d.size<=cap):
 Calls Tryz.prog 46 #[.slice (some ⟨blk,off,none⟩) d.size cap] w λe w'=>e=.returned (.slice (some ⟨blk,off,none⟩) (compactUpTo d d.size).length cap)/\
  ∃q dk L,dk.size=d.size/\(∀j,j<(compactUpTo d d.size).length->(compactUpTo d d.size)[j]?=some dk[j]!)/\L.length=(d.size-(compactUpTo d d.size).length)*2/\w'=(putRowK cS 2 (Sort.ahead w q) blk off dk).setCells blk (off+(compactUpTo d d.size).length*2) L:=by
 have mixed:Tryz.prog.follows .mixedOrders=true:=hm;have heq:=eE;have hne:=nE;have hgd:=gE;have same:∀q,(∀j,j<d.size->Lib.keeps d j=true)->(compactUpTo d d.size).length=d.size/\∃q' dk L,dk.size=d.size/\(∀j,j<(compactUpTo d d.size).length->(compactUpTo d d.size)[j]?=some dk[j]!)/\L.length=(d.size-(compactUpTo d d.size).length)*2/\w.drewN q=(putRowK cS 2 (Sort.ahead w q') blk off dk).setCells blk (off+(compactUpTo d d.size).length*2) L:=by
  intro q hall;have e:compactUpTo d d.size=d.toList:=by rw[compactUpTo_all d _ hall,range_map_get]
  rw[e];refine⟨by simp,q,d,[],rfl,λj hj=>?_,by simp,?_⟩
  ·have hj:j<d.size:=by simpa using hj
   simp[hj]
  ·exact(putRowK_self cS 2 (Sort.ahead w q) blk off d (holdsK_ahead cS 2 w q blk off d hH)).symm
 have HS:Aside _:=same;clear same;by_cases h2:d.size<2
 ·have HH:Aside (HoldsK cS 2 w blk off d):=hH;clear hH
  go_enter Tryz.func46,Tryz.ntmps46
  go_wp2
  go_ret
  obtain⟨e1,e2⟩:=HS.out 0 (λj hj=>keeps_lt_one d j (by omega));exact⟨by rw[e1];rfl,e2⟩
 ·go_enter Tryz.func46,Tryz.ntmps46
  go_wp2
  go_loopg [3] d.size (λg s3 wr=>∃k q:Nat,1<=k/\k<=d.size/\d.size-k<=g/\s3=.int .i64 k/\wr=w.drewN q/\∀j,j<k->Lib.keeps d j=true)
  case atStart=>exact⟨1,0,Nat.le_refl _,by omega,by omega,rfl,rfl,keeps_lt_one d⟩
  case round=>
   obtain⟨k,q,hk1,hk,hg,rfl,rfl,hall⟩:=hrel;by_cases hlt:k<d.size
   ·obtain⟨⟨c1,f1⟩,c1',f1'⟩:=qD hH hlt;obtain⟨⟨c0,f0⟩,c0',f0'⟩:=qD hH (i:=k-1) (by omega);have A:Aside (∀j,j<k->Lib.keeps d j=true):=hall;have HH:Aside (HoldsK cS 2 w blk off d):=hH;clear hall hH;generalize hx:d[k]! = x at c1 c1';generalize hy:d[k-1]! = y at c0 c0';have B:Aside (d[k]! = x/\d[k-1]! = y):=⟨hx,hy⟩
    clear hx hy;obtain⟨xa,xb⟩:=x;obtain⟨ya,yb⟩:=y;simp only at c1 c1' c0 c0';by_cases hdup:xa=ya/\xb=yb
    ·obtain⟨rfl,rfl⟩:=hdup
     go_wp2_with fail
     go_region_o
     go_wp2
     clear c0 c1 f0 f1 c0' c1' f0' f1'
     go_loopg [3,5] d.size (λg s3 s5 wr=>∃(kk k2 q2:Nat) (dk:Array aa),s3=.int .i64 kk/\s5=.int .i64 k2/\1<=k2/\k+k2<=d.size/\d.size-(k+k2)<=g/\wr=putRowK cS 2 (Sort.ahead w q2) blk off dk/\CompInv d (k+k2) kk dk)
     case atStart=>exact⟨k,1,q+1,d,rfl,rfl,Nat.le_refl _,by omega,by omega,(putRowK_self cS 2 (Sort.ahead w (q+1)) blk off d (holdsK_ahead cS 2 w (q+1) blk off d HH.out)).symm,CompInv.start A.out (keeps_neg (by omega) (by rw[B.out.1,B.out.2]))⟩
     case round=>
      obtain⟨kk,k2,q2,dk,rfl,rfl,h1,hle,hg2,hwr,hI⟩:=hrel;have hkk:=hI.lt;have hds:=hI.size;have hHk:HoldsK cS 2 wr blk off dk:=by rw[hwr];exact holdsK_putRowK cS 2 _ blk off d dk (holdsK_ahead cS 2 w q2 blk off d HH.out) hds
      have W2:Aside (wr=putRowK cS 2 (Sort.ahead w q2) blk off dk):=hwr;have I2:Aside (CompInv d (k+k2) kk dk):=hI;clear hwr;by_cases hlt2:k+k2<d.size
      ·obtain⟨⟨cm,_⟩,cm',_⟩:=qD hHk (i:=k+k2) (by omega);obtain⟨⟨cp,_⟩,cp',_⟩:=qD hHk (i:=k+k2-1) (by omega);obtain⟨⟨ck,fk⟩,ck',fk'⟩:=qD hHk (i:=kk) (by omega);rw[hI.high (k+k2) (by omega),show off+(k+k2)*2=off+k*2+k2*2 by omega]at cm cm';rw[hI.high (k+k2-1) (by omega),show off+(k+k2-1)*2=off+k*2+(k2-1)*2 by omega]at cp cp';clear hHk hI;generalize hu:d[k+k2]! = u at cm cm';generalize hv:d[k+k2-1]! = v at cp cp';generalize dk[kk]! = old at ck ck';have C:Aside (d[k+k2]! = u/\d[k+k2-1]! = v):=⟨hu,hv⟩
       clear hu hv;obtain⟨ua,ub⟩:=u;obtain⟨va,vb⟩:=v;obtain⟨oa,ob⟩:=old;simp only at cm cm' cp cp' ck ck';by_cases huv:ua=va/\ub=vb
       ·obtain⟨rfl,rfl⟩:=huv
        go_wp2_with fail
        go_region_o
        go_wp2
        go_roundg (d.size-(k+(k2+1)))
        case measure=>omega
        case rel=>exact⟨kk,k2+1,q2+1,dk,rfl,by go_num,by omega,by omega,Nat.le_refl _,by rw[W2.out];rfl,I2.out.skip (keeps_neg (by omega) (by rw[C.out.1,C.out.2]))⟩
       ·go_wp2_with fail
        go_region_o
        go_wp2
        go_roundg (d.size-(k+(k2+1)))
        case measure=>omega
        case rel=>exact⟨kk+1,k2+1,q2+1,dk.setIfInBounds kk ⟨ua,ub⟩,by go_num,by go_num,by omega,by omega,Nat.le_refl _,adE (by omega) W2.out ⟨ua,ub⟩,by have:=I2.out.keep hlt2 (keeps_pos (by rw[C.out.1,C.out.2];exact λe=>huv (Bv.1 e)));rwa [C.out.1]at this⟩
      ·have hend:k+k2=d.size:=by omega
       have hcl:∀ty,∃L:List Value,L.length=(d.size-kk)*2/\(Builtin.clear_ #[28] ty #[.slice (some ⟨blk,off+kk*2,none⟩) (d.size-kk) (cap-kk)]).run Tryz.prog wr=.ok (.tuple #[]) (wr.setCells blk (off+kk*2) L):=λty=>Tt (by omega) hHk (by rw[size_flatK];omega)
       obtain⟨L,hL,hcl⟩:=hcl 0;have HL:Aside (L.length=(d.size-kk)*2):=hL;clear hHk hI hL
       go_wp2
       go_ret
       have hI:=I2.out;rw[hend]at hI;refine⟨by rw[hI.len];rfl,q2,dk,L,hds,λj hj=>hI.low j (by rw[hI.len]at hj;exact hj),by rw[hI.len];exact HL.out,by rw[hI.len,<- W2.out]⟩
    ·go_wp2_with fail
     go_region_o
     go_wp2
     go_roundg (d.size-(k+1))
     case measure=>omega
     case rel=>
      refine⟨k+1,q+1,by omega,by omega,Nat.le_refl _,by go_num,rfl,λj hj=>?_⟩;by_cases e:j=k
      ·subst e;exact keeps_pos (by rw[B.out.1,B.out.2];exact λe=>hdup (Bv.1 e))
      ·exact A.out j (by omega)
   ·have:k=d.size:=by omega
    subst this;have HH:Aside (HoldsK cS 2 w blk off d):=hH;clear hH
    go_wp2
    go_ret
    obtain⟨e1,e2⟩:=HS.out q hall;exact⟨by rw[e1];rfl,e2⟩
def lc:aa->List aa->List aa
 | _,[]=>[]
 | p,y::l=>if y=p then lc y l else y::lc y l
theorem uv:∀(l:List aa) (x:aa),cE (x::l)=x::lc x l
 | [],x=>by simp[cE,lc]
 | y::l,x=>by
   rw[cE,lc];by_cases h:x=y
   ·subst h;rw[if_pos ⟨rfl,rfl⟩,if_pos rfl,uv l x]
   ·rw[if_neg (λe=>h (Bv.2 e)),if_neg (λe=>h e.symm),uv l y]
theorem Ku:∀(l:List aa) (p:aa),((List.range l.length).filter λj=>decide (l.getD j default≠(p::l).getD j default)).map (λj=>l.getD j default)=lc p l
 | [],p=>rfl
 | y::l,p=>by
   have ih:=Ku l y;rw[List.length_cons,List.range_succ_eq_map,List.filter_cons];have e:(List.filter (λj=>decide ((y::l).getD j default≠(p::y::l).getD j default)) (List.map Nat.succ (List.range l.length))).map (λj=>(y::l).getD j default)=lc y l:=by
    rw[List.filter_map,List.map_map,<- ih];rfl
   rw[lc];by_cases h:y=p
   ·rw[if_neg (by simp[h]),if_pos h];exact e
   ·rw[if_pos (by simpa using h),if_neg h,List.map_cons,e];rfl
theorem G7 (l:List aa) (j:Nat):l.toArray[j]! = l.getD j default:=by
 simp only[List.getD,getElem!_def,List.getElem?_toArray];cases l[j]?<;>rfl
theorem Tw (l:List aa):Lib.compactUpTo l.toArray l.length=cE l:=by
 cases l with
 | nil=>simp[Lib.compactUpTo,cE]
 | cons x t=>
   rw[uv];unfold Lib.compactUpTo;rw[List.length_cons,List.range_succ_eq_map,List.filter_cons,if_pos (by simp[Lib.keeps]),List.map_cons,List.filter_map,List.map_map,<- Ku t x];have e1:(Lib.keeps (x::t).toArray∘Nat.succ)=λj=>decide (t.getD j default≠(x::t).getD j default):=by
    funext j;simp only[Function.comp,Lib.keeps,G7,Nat.succ_ne_zero,false_or,Nat.succ_sub_one];rfl
   have e2:((λj=>(x::t).toArray[j]!)∘Nat.succ)=λj=>t.getD j default:=by
    funext j;simp only[Function.comp,G7];rfl
   rw[e1,e2];rfl
theorem PG:∀l:List aa,(cE l).length<=l.length
 | []=>by simp[cE]
 | [x]=>by simp[cE]
 | x::y::l=>by
   have:=PG (y::l);rw[cE];split<;>simp at *<;>omega
theorem ahP {l:List aa} (h:l≠[]):0<(cE l).length:=by
 cases l with
 | nil=>exact absurd rfl h
 | cons x t=>rw[uv];simp
theorem PA (a:Option Addr) (cap:Nat) (w:World):Calls prog 46 #[.slice a 0 cap] w λe w'=>e=.returned (.slice a 0 cap)/\w'=w:=by
 go_enter Tryz.func46,Tryz.ntmps46
 go_wp2
 go_ret
 exact⟨rfl,rfl⟩
theorem ahO {w:World} {g n:Nat} {c:Array Value} {e:TypeId} {fr:Nat×Nat} (d:Array Value) (hb:w.heap[g]?=some (.cells c e fr)):(putRow id (Sort.ahead w n) g 0 d).heap[g]?=some (.cells (Go.Sort.putCells id 0 d c) e fr):=by
 simp[putRow,mapBlock,Sort.ahead,Array.getElem?_modify,hb,onCells]
theorem Tq {w:World} {g n:Nat} (d:Array Value):w.grownBy (putRow id (Sort.ahead w n) g 0 d) (some g):=by
 refine⟨rfl,rfl,rfl,by simp,λk hk hne=>?_⟩;have:g≠k:=λe=>hne (by rw[e]);simp[putRow,mapBlock,Sort.ahead,Array.getElem?_modify,this]
theorem ajt (c F:Array Value) (t:Nat) (h:t<F.size) (hc:t<c.size):(Go.Sort.putCells id 0 F c).getD t undef=F[t]! := by
 simp[Go.Sort.putCells,Array.getD,hc,h]
abbrev gw (x:aa):AV:=.agg [.v (.int .i64 x.To),.v (.int .u32 x.aT)]
theorem Zf (N:Nat):L3.Ok prog N:=by
 refine⟨⟨Tryz.f46,Tryz.func46,by kernel_rfl,by kernel_rfl⟩,λa r h=>?_⟩;obtain⟨⟨⟨⟩,⟨⟩⟩,⟨⟩,t9,⟨⟩⟩:=a;obtain⟨xs,rfl⟩:∃xs:List aa,xs=t9:=⟨t9,rfl⟩
 have h:rV N xs=some r:=h;unfold rV at h;obtain⟨hn,h⟩:=bW h;have hn:=Nat.le_of_ble_eq_true hn;obtain rfl:=Option.some.inj h;intro M S w vs hh _ hsz hrep;obtain⟨v,rfl⟩:∃v,vs=#[v]:=by
  match vs,hsz with
  | ⟨[v]⟩,_=>exact⟨v,rfl⟩
 have hv:am M S w v (.own 0):=hrep 0 (Nat.lt_succ_self 0);have e0:v=M.bv 0:=by
  cases hv with
  | data q=>cases q
  | own=>rfl
 have hb:b9 S w (M.bv 0) 2 (xs.map gw):=hh.buf 0 (Nat.lt_succ_self 0);have hh':aE M S ⟨[],[.live 2 (xs.map gw)]⟩ w:=hh;clear hh hrep;have fin:∀(g:Option Nat) (v':Value) (w':World),w.grownBy w' g->(∀b,g=some b->lives M ⟨[],[.live 2 (xs.map gw)]⟩ 0 b)->b9 S w' v' 2 ((cE xs).map gw)->(∀b,Value.blk v'=some b->w.heap.size<=b\/g=some b)->(∃a n c,v'=.slice a n c)->
  ∃M' S',eZ M' S' w' (.returned v') (.ret (.own 1))/\aE M' S' ⟨[],[.dead,.live 2 ((cE xs).map gw)]⟩ w'/\aU M S ⟨[],[.live 2 (xs.map gw)]⟩ w M' S' ⟨[],[.dead,.live 2 ((cE xs).map gw)]⟩ w':=by
  intro g v' w' hg hl hr hblk hs;obtain⟨q1,q2⟩:=hh'.nf hg (buf:=[.dead]) rfl (λt ht=>.inr (by
   have:t=0:=by have:t<1:=ht;omega
   subst this;rfl)) (λb e=>⟨.inr ⟨0,hl b e⟩,λt ht=>by
   have:t=0:=by have:t<1:=ht.1;omega
   subst this;rfl⟩) (λb c _ hc=>by cases hc) hr hblk
  exact⟨_,S,jF hh'.nt hs,q1,q2⟩
 rcases hb with⟨⟨ad,ha⟩,hx⟩|⟨g,cap,c,T,hbv,hun,hg,hrow⟩
 ·have hx:xs=[]:=by simpa using hx
  subst hx;rw[e0,ha];refine(PA ad 0 w).mono ?_;rintro e w' ⟨rfl,rfl⟩;exact fin none _ _ ⟨rfl,rfl,rfl,Nat.le_refl _,λ_ _ _=>rfl⟩ (λb e=>by cases e) (.inl ⟨⟨_,rfl⟩,by simp[cE]⟩) (λb hb=>by cases ad<;>cases hb) ⟨_,_,_,rfl⟩
 ·have hgl:g<w.heap.size:=(Array.getElem?_eq_some_iff.1 hg).1;have hl0:(xs.map gw).length=xs.length:=by simp
  have hfit:=hrow.fits;have hsize:=hrow.size;rw[hl0]at hfit;have hcs:xs.length*2<=c.size:=by omega
  have hcell:∀t,t<xs.length*2->c.getD t undef=(cS (xs.getD (t/2) default))[t%2]! := λt ht=>by
   have:=hrow.rep (t/2) (by rw[hl0];omega) (t%2) (by omega);rw[show t/2*2+t%2=t by omega]at this;have e:(xs.map gw).getD (t/2) .any=gw (xs.getD (t/2) default):=by simp[List.getD,show t/2<xs.length by omega]
   rw[e]at this;rcases (show t%2=0\/t%2=1 by omega)with q|q<;>rw[q]at this ⊢<;>exact Bo this
  have hH:HoldsK cS 2 w g 0 xs.toArray:=by
   intro t ht;have ht':t<xs.length*2:=by simpa using ht
   rw[get_flatK _ _ _ _ (by simpa using ht')];refine⟨?_,by simp[World.frozen?,hg]⟩;have h1:=hcell t ht';have htc:t<c.size:=by omega
   simp only[Array.getD,htc,dif_pos]at h1;simp only[World.cell?,hg,Nat.zero_add,Option.isSome_none,Bool.false_eq_true,if_false];rw[Array.getElem?_eq_getElem htc,G7];congr 1
  by_cases hxe:xs=[]
  ·subst hxe;rw[e0,hbv,hl0];refine(PA (some ⟨g,0,none⟩) (cap+1) w).mono ?_;rintro e w' ⟨rfl,rfl⟩;exact fin (some g) _ _ ⟨rfl,rfl,rfl,Nat.le_refl _,λ_ _ _=>rfl⟩ (λb e=>by cases e;exact⟨Nat.lt_succ_self 0,rfl,by rw[hbv];rfl⟩) (.inr ⟨g,cap,c,T,by simp[cE],hun,hg,by simpa[cE]using hrow⟩) (λb hb=>.inr hb) ⟨_,_,_,rfl⟩
  rw[e0,hbv,hl0];have key:=ahN g 0 (cap+1) xs.toArray w hH (by simpa using hn) (by simpa using hfit);rw[show xs.toArray.size=xs.length by simp,Tw]at key;refine key.mono ?_;rintro e w' ⟨rfl,q,dk,L,hdk,hlow,hL,rfl⟩;have hle:=PG xs;have hpos:=ahP hxe;generalize hts:cE xs=ts at hle hpos hlow hL;rw[hts]at fin;have hl1:(ts.map gw).length=ts.length:=by simp
  have hfs:ts.length*2+L.length<=(flatK cS 2 dk).size:=by rw[size_flatK,hdk];omega
  have hw:(putRowK cS 2 (Sort.ahead w q) g 0 dk).setCells g (0+ts.length*2) L=putRow id (Sort.ahead w q) g 0 (setMany (flatK cS 2 dk) (ts.length*2) L):=setCells_putRow _ _ _ _ _ _ hfs;rw[hw];refine fin (some g) _ _ (Tq _) (λb e=>by cases e;exact⟨Nat.lt_succ_self 0,rfl,by rw[hbv];rfl⟩) (.inr ⟨g,cap,_,T,by rw[hl1],hun,ahO _ hg,?_⟩) (λb hb=>.inr hb) ⟨_,_,_,rfl⟩;have hx':∀i,i<(ts.map gw).length->i<ts.length/\(ts.map gw).getD i .any=gw (ts.getD i default):=λi hi=>by
   have hi':i<ts.length:=by simpa using hi
   exact⟨hi',by simp[List.getD,hi']⟩
  exact⟨by rw[hl1];omega,hrow.small,by rw[<- hsize];simp[Go.Sort.putCells],λi hi=>by rw[(hx' i hi).2];rfl,
   λi hi j hj=>by
    rw[(hx' i hi).2];rcases (show j=0\/j=1 by omega)with q|q<;>subst q<;>rfl,
   λi hi j hj=>by
    obtain⟨h1,h2⟩:=hx' i hi;have hd:dk[i]! = ts.getD i default:=by
     have:=hlow i h1;simp only[List.getD,this];rfl
    rw[h2,ajt _ _ _ (by rw[size_setMany,size_flatK,hdk];omega) (by omega),get_setMany _ _ _ _ (by rw[size_flatK,hdk];omega),if_neg (by omega),get_flatK _ _ _ _ (by rw[hdk];omega),show(i*2+j)/2=i by omega,show(i*2+j)%2=j by omega,hd];rcases (show j=0\/j=1 by omega)with q|q<;>subst q<;>exact .v _⟩
where Bo {S:Nat->Prop} {w:World} {v x:Value} (h:aO S w v (.v x)):v=x:=by cases h;rfl
end Go.Proofs.YtmfkphajohcklaaGreat.U
set_option linter.unusedVariables false
set_option linter.unusedSimpArgs false
namespace Go.Proofs.YtmfkphajohcklaaGreat.U
open Go Go.Shelf Go.Sort Go.Proofs.Tryz
set_option maxHeartbeats 1000000
set_option maxRecDepth 1000000
def jW {α:Type} [DecidableEq α]:α->List α->List α
 | _,[]=>[]
 | p,y::l=>if y=p then jW y l else y::jW y l
theorem uw:∀(l:List Int) (x:Int),cF (x::l)=x::jW x l
 | [],x=>by simp[cF,jW]
 | y::l,x=>by
   rw[cF,jW];by_cases h:x=y
   ·subst h;rw[if_pos rfl,if_pos rfl,uw l x]
   ·rw[if_neg h,if_neg (λe=>h e.symm),uw l y]
theorem Kt {α:Type} [DecidableEq α] [Inhabited α]:∀(l:List α) (p:α),((List.range l.length).filter λj=>decide (l.getD j default≠(p::l).getD j default)).map (λj=>l.getD j default)=jW p l
 | [],p=>rfl
 | y::l,p=>by
   have ih:=Kt l y;rw[List.length_cons,List.range_succ_eq_map,List.filter_cons];have e:(List.filter (λj=>decide ((y::l).getD j default≠(p::y::l).getD j default)) (List.map Nat.succ (List.range l.length))).map (λj=>(y::l).getD j default)=jW y l:=by
    rw[List.filter_map,List.map_map,<- ih];rfl
   rw[jW];by_cases h:y=p
   ·rw[if_neg (by simp[h]),if_pos h];exact e
   ·rw[if_pos (by simpa using h),if_neg h,List.map_cons,e];rfl
theorem O0 {α:Type} [Inhabited α] (l:List α) (j:Nat):l.toArray[j]! = l.getD j default:=by
 simp only[List.getD,getElem!_def,List.getElem?_toArray];cases l[j]?<;>rfl
theorem Tx {α:Type} [DecidableEq α] [Inhabited α] (x:α) (t:List α):Lib.compactUpTo (x::t).toArray (x::t).length=x::jW x t:=by
 unfold Lib.compactUpTo;rw[List.length_cons,List.range_succ_eq_map,List.filter_cons,if_pos (by simp[Lib.keeps]),List.map_cons,List.filter_map,List.map_map,<- Kt t x];have e1:(Lib.keeps (x::t).toArray∘Nat.succ)=λj=>decide (t.getD j default≠(x::t).getD j default):=by
  funext j;simp only[Function.comp,Lib.keeps,O0,Nat.succ_ne_zero,false_or,Nat.succ_sub_one];rfl
 have e2:((λj=>(x::t).toArray[j]!)∘Nat.succ)=λj=>t.getD j default:=by
  funext j;simp only[Function.comp,O0];rfl
 rw[e1,e2];rfl
theorem Ty (l:List Int):Lib.compactUpTo l.toArray l.length=cF l:=by
 cases l with
 | nil=>simp[Lib.compactUpTo,cF]
 | cons x t=>rw[Tx,uw]
theorem PI:∀l:List Int,(cF l).length<=l.length
 | []=>by simp[cF]
 | [x]=>by simp[cF]
 | x::y::l=>by
   have:=PI (y::l);rw[cF];split<;>simp at *<;>omega
theorem ahQ {l:List Int} (h:l≠[]):0<(cF l).length:=by
 cases l with
 | nil=>exact absurd rfl h
 | cons x t=>rw[uw];simp
def jo:Int->Value:=Value.int .u32
def IU:Go.Shelf.Ren:=⟨λ| 43=>47|n=>n,λ| 0=>0|3=>3|4=>4|22=>55|23=>50|n=>n,λn=>n⟩
theorem J9:Go.Proofs.SlLaysE.n43 Tryz.prog IU:={
 mixed:=by kernel_rfl
 f43:=⟨Tryz.f47.name,by kernel_rfl,Tryz.func47.trans (congrArg some (by kernel_rfl))⟩
 t0:=Tryz.underlying0
 a0:=Tryz.isAgg0
 z0:=Tryz.sizeOf0
 v0:=Tryz.zeroValue0
 t3:=Tryz.underlying3
 a3:=Tryz.isAgg3
 z3:=Tryz.sizeOf3
 v3:=Tryz.zeroValue3
 t4:=Tryz.underlying4
 a4:=Tryz.isAgg4
 z4:=Tryz.sizeOf4
 v4:=Tryz.zeroValue4
 t22:=Tryz.underlying55
 a22:=Tryz.isAgg55
 z22:=Tryz.sizeOf55
 v22:=Tryz.zeroValue55
 a23:=Tryz.isAgg50
 z23:=Tryz.sizeOf50
}
theorem PN (a:Option Addr) (cap:Nat) (w:World):Calls prog 47 #[.slice a 0 cap] w λe w'=>e=.returned (.slice a 0 cap)/\w'=w:=by
 have L:=J9;have mixed:=L.mixed;have t0:=L.t0;have a0:=L.a0;have z0:=L.z0;have v0:=L.v0;have t3:=L.t3;have a3:=L.a3;have z3:=L.z3;have v3:=L.v3;have t4:=L.t4;have a4:=L.a4;have z4:=L.z4;have v4:=L.v4;have t22:=L.t22;have a22:=L.a22;have z22:=L.z22;have v22:=L.v22;have a23:=L.a23;have z23:=L.z23;obtain⟨_,_,FG⟩:=L.f43
 go_enter FG,SlBodyN.n43_ntmps IU
 go_wp2
 go_ret
 exact⟨rfl,rfl⟩
theorem cu_holds {w:World} {g:Nat} {c:Array Value} {e:TypeId} {xs:List Int} (hb:w.heap[g]?=some (.cells c e (0,0))) (hc:xs.length<=c.size) (h:∀i,i<xs.length->c.getD i undef=jo (xs.getD i 0)):Holds jo w g 0 xs.toArray:=by
 intro j hj;have hj':j<xs.length:=by simpa using hj
 refine⟨?_,by simp[World.frozen?,hb]⟩;have h1:=h j hj';have hjc:j<c.size:=by omega
 simp only[Array.getD,hjc,dif_pos]at h1;simp only[World.cell?,hb,Nat.zero_add,Option.isSome_none,Bool.false_eq_true,if_false];rw[Array.getElem?_eq_getElem hjc];congr 1;show c[j]=_;rw[show c[j]=c.getInternal j hjc from rfl,h1];simp[List.getD,hj']
theorem ahi {w:World} {g n:Nat} {c:Array Value} {e:TypeId} {fr:Nat×Nat} (d:Array Int) (hb:w.heap[g]?=some (.cells c e fr)):(putRow jo (Sort.ahead w n) g 0 d).heap[g]?=some (.cells (Go.Sort.putCells jo 0 d c) e fr):=by
 simp[putRow,mapBlock,Sort.ahead,Array.getElem?_modify,hb,onCells]
theorem TA {w:World} {g n:Nat} (d:Array Int):w.grownBy (putRow jo (Sort.ahead w n) g 0 d) (some g):=by
 refine⟨rfl,rfl,rfl,by simp,λk hk hne=>?_⟩;have:g≠k:=λe=>hne (by rw[e]);simp[putRow,mapBlock,Sort.ahead,Array.getElem?_modify,this]
theorem aju (c:Array Value) (ts:List Int) (m:Nat) (h:ts.length+m<=c.size) (i:Nat) (hi:i<ts.length):(Go.Sort.putCells jo 0 (ts++List.replicate m 0).toArray c).getD i undef=jo (ts.getD i 0):=by
 have h1:i<c.size:=by omega
 have h2:i<ts.length+m:=by omega
 simp[Go.Sort.putCells,Array.getD,h1,h2,hi,List.getD,List.getElem_append_left,List.getElem?_append_left]
theorem Zb (N:Nat):Mn.Ok prog N:=by
 refine⟨⟨Tryz.f47,Tryz.func47,by kernel_rfl,by kernel_rfl⟩,λa r h=>?_⟩;obtain⟨⟨⟨⟩,⟨⟩⟩,⟨⟩,t9,⟨⟩⟩:=a;obtain⟨xs,rfl⟩:∃xs:List Int,xs=t9:=⟨t9,rfl⟩
 have h:r9 N xs=some r:=h;unfold r9 at h;obtain⟨hn,h⟩:=bW h;have hn:=Nat.le_of_ble_eq_true hn;obtain rfl:=Option.some.inj h;intro M S w vs hh _ hsz hrep;obtain⟨v,rfl⟩:∃v,vs=#[v]:=by
  match vs,hsz with
  | ⟨[v]⟩,_=>exact⟨v,rfl⟩
 have hv:am M S w v (.own 0):=hrep 0 (Nat.lt_succ_self 0);have e0:v=M.bv 0:=by
  cases hv with
  | data q=>cases q
  | own=>rfl
 have hb:b9 S w (M.bv 0) 1 (xs.map λx=>AV.v (.int .u32 x)):=hh.buf 0 (Nat.lt_succ_self 0);have hh':aE M S ⟨[],[.live 1 (xs.map λx=>AV.v (.int .u32 x))]⟩ w:=hh;clear hh hrep;have fin:∀(g:Option Nat) (v':Value) (w':World),w.grownBy w' g->(∀b,g=some b->lives M ⟨[],[.live 1 (xs.map λx=>AV.v (.int .u32 x))]⟩ 0 b)->b9 S w' v' 1 ((cF xs).map λx=>AV.v (.int .u32 x))->(∀b,Value.blk v'=some b->w.heap.size<=b\/g=some b)->(∃a n c,v'=.slice a n c)->
  ∃M' S',eZ M' S' w' (.returned v') (.ret (.own 1))/\aE M' S' ⟨[],[.dead,.live 1 ((cF xs).map λx=>AV.v (.int .u32 x))]⟩ w'/\aU M S ⟨[],[.live 1 (xs.map λx=>AV.v (.int .u32 x))]⟩ w M' S' ⟨[],[.dead,.live 1 ((cF xs).map λx=>AV.v (.int .u32 x))]⟩ w':=by
  intro g v' w' hg hl hr hblk hs;obtain⟨q1,q2⟩:=hh'.nf hg (buf:=[.dead]) rfl (λt ht=>.inr (by
   have:t=0:=by have:t<1:=ht;omega
   subst this;rfl)) (λb e=>⟨.inr ⟨0,hl b e⟩,λt ht=>by
   have:t=0:=by have:t<1:=ht.1;omega
   subst this;rfl⟩) (λb c _ hc=>by cases hc) hr hblk
  exact⟨_,S,jF hh'.nt hs,q1,q2⟩
 rcases hb with⟨⟨ad,ha⟩,hx⟩|⟨g,cap,c,T,hbv,hun,hg,hrow⟩
 ·have hx:xs=[]:=by simpa using hx
  subst hx;rw[e0,ha];refine(PN ad 0 w).mono ?_;rintro e w' ⟨rfl,rfl⟩;exact fin none _ _ ⟨rfl,rfl,rfl,Nat.le_refl _,λ_ _ _=>rfl⟩ (λb e=>by cases e) (.inl ⟨⟨_,rfl⟩,by simp[cF]⟩) (λb hb=>by cases ad<;>cases hb) ⟨_,_,_,rfl⟩
 ·have hgl:g<w.heap.size:=(Array.getElem?_eq_some_iff.1 hg).1;have hl0:(xs.map λx=>AV.v (.int .u32 x)).length=xs.length:=by simp
  have hfit:=hrow.fits;have hsize:=hrow.size;rw[hl0]at hfit;have hcs:xs.length<=c.size:=by omega
  have hcell:∀i,i<xs.length->c.getD i undef=jo (xs.getD i 0):=λi hi=>by
   have:=hrow.rep i (by rw[hl0];exact hi) 0 (by omega);rw[Nat.mul_one,Nat.add_zero]at this;have e:(xs.map λx=>AV.v (.int .u32 x)).getD i .any=.v (.int .u32 (xs.getD i 0)):=by simp[List.getD,hi]
   rw[e]at this;exact Bo this
  have hH:Holds jo w g 0 xs.toArray:=cu_holds hg hcs hcell;by_cases hxe:xs=[]
  ·subst hxe;rw[e0,hbv,hl0];refine(PN (some ⟨g,0,none⟩) (cap+1) w).mono ?_;rintro e w' ⟨rfl,rfl⟩;exact fin (some g) _ _ ⟨rfl,rfl,rfl,Nat.le_refl _,λ_ _ _=>rfl⟩ (λb e=>by cases e;exact⟨Nat.lt_succ_self 0,rfl,by rw[hbv];rfl⟩) (.inr ⟨g,cap,c,T,by simp[cF],hun,hg,by simpa[cF]using hrow⟩) (λb hb=>.inr hb) ⟨_,_,_,rfl⟩
  rw[e0,hbv,hl0];have key:=AnyE.slices_Compact J9 jo (λ_=>rfl) (EqlAt.intD prog _ .u32) (NeqAt.intD prog _ .u32) 0 (λw=>Tryz.zeroValue50 w) g 0 (cap+1) xs.toArray w hH (by simp;omega) (by simpa using hfit);rw[show xs.toArray.size=xs.length by simp,Ty]at key;refine key.mono ?_;rintro e w' ⟨rfl,q,rfl⟩;have hle:=PI xs;have hpos:=ahQ hxe;generalize hts:cF xs=ts at hle hpos;rw[hts]at fin;have hl1:(ts.map λx=>AV.v (.int .u32 x)).length=ts.length:=by simp
  refine fin (some g) _ _ (TA _) (λb e=>by cases e;exact⟨Nat.lt_succ_self 0,rfl,by rw[hbv];rfl⟩) (.inr ⟨g,cap,_,T,by rw[hl1],hun,ahi _ hg,?_⟩) (λb hb=>.inr hb) ⟨_,_,_,rfl⟩;have hx':∀i,i<(ts.map λx=>AV.v (.int .u32 x)).length->i<ts.length/\(ts.map λx=>AV.v (.int .u32 x)).getD i .any=.v (.int .u32 (ts.getD i 0)):=λi hi=>by
   have hi':i<ts.length:=by simpa using hi
   exact⟨hi',by simp[List.getD,hi']⟩
  exact⟨by rw[hl1];omega,hrow.small,by rw[<- hsize];simp[Go.Sort.putCells],λi hi=>by rw[(hx' i hi).2];rfl,
   λi hi j hj=>by
    have:j=0:=by omega
    subst this;rw[(hx' i hi).2];rfl,
   λi hi j hj=>by
    have:j=0:=by omega
    subst this;rw[Nat.mul_one,Nat.add_zero,aju c _ _ (by omega) i (hx' i hi).1,(hx' i hi).2];exact .v _⟩
where Bo {S:Nat->Prop} {w:World} {v x:Value} (h:aO S w v (.v x)):v=x:=by cases h;rfl
end Go.Proofs.YtmfkphajohcklaaGreat.U
