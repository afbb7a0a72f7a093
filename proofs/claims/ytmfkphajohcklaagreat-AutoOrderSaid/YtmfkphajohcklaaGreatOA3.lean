/- Maps of a call's own: made, looked up, written. No premise beyond what each theorem says. -/
import Derived.Test.YtmfkphajohcklaaGreatOA2
import Derived.Maps.Keyed
set_option linter.all false
set_option linter.unusedSimpArgs false
set_option linter.unusedVariables false
namespace Go.Proofs.YtmfkphajohcklaaGreat.O
open Go
set_option linter.unusedSimpArgs false
set_option linter.unusedVariables false
theorem xZhi:∀ {ks:List IntKind} {cs:List Value},KC ks cs→cs.length=ks.length
 | [],[],_=>rfl
 | [],_::_,h=>h.elim
 | _::_,[],h=>h.elim
 | _::ks,_::cs,h=>by simp [xZhi h.2]
theorem xZmn:∀ {a b:List IntKind} {cs:List Value},KC (a++b) cs→KC a (cs.take a.length)∧KC b (cs.drop a.length)
 | [],b,cs,h=>⟨by simp [KC],by simpa using h⟩
 | k::a,b,[],h=>h.elim
 | k::a,b,c::cs,h=>by
   obtain ⟨h1,h2⟩:=xZmn (a:=a) h.2
   exact ⟨⟨h.1,h1⟩,by simpa using h2⟩
section
variable {P:Program}
def kindsFs (P:Program) (g:TypeId→Option (List IntKind)):List Field→Nat→Option (List IntKind)
 | [],_=>some []
 | f::fs,o=>match g f.type,kindsFs P g fs (o+P.cellsOf f.type) with
   | some ks,some r=>if f.offset=o∧P.cellsOf f.type=ks.length then some (ks++r) else none
   | _,_=>none
def kindsAt (P:Program):Nat→TypeId→Option (List IntKind)
 | 0,_=>none
 | d+1,t=>match P.underlying t with
   | some (.int q)=>some [q]
   | some (.array n e)=>match kindsAt P d e with
     | some ks=>if P.cellsOf e=ks.length∧P.cellsOf t=n * ks.length then some (List.replicate n ks).flatten else none
     | none=>none
   | some (.struct fs)=>match kindsFs P (kindsAt P d) fs.toList 0 with
     | some ks=>if P.cellsOf t=ks.length∧fs.all (·.name != "_")=true then some ks else none
     | none=>none
   | _=>none
theorem xZk8 {c:Nat} {ks:List IntKind} (hc:c=ks.length) {g:List Value→Option (List Lit)} (hg:∀ cs,KC ks cs→∃ ls,g cs=some ls):∀ (n:Nat) (off:Nat) (cs:List Value),KC (List.replicate n ks).flatten (cs.drop (off * c))→∃ ls,(List.range' off n).mapM (fun i=>g ((cs.drop (i * c)).take c))=some ls
 | 0,off,cs,h=>⟨[],by simp⟩
 | n+1,off,cs,h=>by
   rw [List.replicate_succ,List.flatten_cons] at h
   obtain ⟨h1,h2⟩:=xZmn h
   rw [List.drop_drop,← hc,← Nat.succ_mul] at h2
   rw [← hc] at h1
   obtain ⟨l,hl⟩:=hg _ h1
   obtain ⟨ls,hls⟩:=xZk8 hc hg n (off+1) cs h2
   exact ⟨l::ls,by rw [List.range'_succ,List.mapM_cons,hl];simp [hls]⟩
theorem xZk0 {d:Nat} {g:TypeId→Option (List IntKind)} (hg:∀ t ks,g t=some ks→∀ cs,KC ks cs→∃ ls,P.keyLits d t cs=some ls):∀ (fs:List Field) (o:Nat) (ks:List IntKind),kindsFs P g fs o=some ks→∀ cs:List Value,KC ks (cs.drop o)→∃ ls,(fs.mapM fun f=>P.keyLits d f.type ((cs.drop f.offset).take (P.cellsOf f.type)))=some ls
 | [],o,ks,h,cs,hc=>⟨[],by simp⟩
 | f::fs,o,ks,h,cs,hc=>by
   rw [kindsFs] at h
   split at h
   ·rename_i k0 r hk hr
    split at h
    ·rename_i he
     cases h
     obtain ⟨h1,h2⟩:=xZmn hc
     rw [List.drop_drop,← he.2] at h2
     rw [← he.2] at h1
     obtain ⟨l,hl⟩:=hg f.type k0 hk _ h1
     obtain ⟨ls,hls⟩:=xZk0 hg fs _ r hr cs h2
     exact ⟨l::ls,by rw [List.mapM_cons,he.1,hl];simp [hls]⟩
    ·cases h
   ·cases h
theorem xZeH:∀ (d:Nat) (t:TypeId) (ks:List IntKind),kindsAt P d t=some ks→∀ cs,KC ks cs→∃ ls,P.keyLits d t cs=some ls
 | 0,t,ks,h,cs,hc=>by simp [kindsAt] at h
 | d+1,t,ks,h,cs,hc=>by
   rw [kindsAt] at h
   unfold Program.keyLits
   split at h
   ·rename_i q hu
    cases h
    rw [hu]
    cases cs with
    | nil=>exact hc.elim
    | cons c cs=>
      obtain ⟨⟨n,rfl,hw⟩,h2⟩:=hc
      cases cs with
      | nil=>exact ⟨[.int q n],by simp [hw]⟩
      | cons _ _=>exact h2.elim
   ·rename_i n e hu
    split at h
    ·rename_i ks0 hk
     split at h
     ·rename_i he
      cases h
      have hl:=xZhi hc
      have:(List.replicate n ks0).flatten.length=n * ks0.length:=by simp
      obtain ⟨ls,hls⟩:=xZk8 (c:=P.cellsOf e) he.1 (g:=P.keyLits d e) (fun cs h=>xZeH d e ks0 hk cs h) n 0 cs (by simpa using hc)
      rw [hu]
      refine ⟨ls.flatten,?_⟩
      simp only []
      rw [if_pos (by rw [hl,this,he.2]),List.range_eq_range',hls];rfl
     ·cases h
    ·cases h
   ·rename_i fs hu
    split at h
    ·rename_i ks0 hk
     split at h
     ·rename_i he
      cases h
      rw [hu]
      obtain ⟨ls,hls⟩:=xZk0 (fun t ks h cs hc=>xZeH d t ks h cs hc) fs.toList 0 ks hk cs (by simpa using hc)
      refine ⟨ls.flatten,?_⟩
      simp only []
      rw [if_pos ⟨by rw [xZhi hc];exact he.1.symm,he.2⟩,hls];rfl
     ·cases h
    ·cases h
   ·cases h
def wideK (P:Program) (kt:TypeId):Bool:=match P.underlying kt with
 | some (.array _ _) | some (.struct _)=>true
 | _=>false
def cMap (P:Program) (T:TypeId):Option (List IntKind×Nat×List AV):=
 match P.underlying T with
 | some (.map kt et)=>match kindsAt P (P.types.size+1) kt,P.info? et with
   | some ks,some i=>match i.zero with
     | some (.agg vs)=>if (wideK P kt&&P.keyType kt&&P.keyTypeAt 9999 kt&&P.tiled 9999 kt&&(P.cellsOf kt==ks.length)&&ones (vs.toList.map .v))=true then some (ks,ks.length+vs.size,vs.toList.map .v) else none
     | _=>none
   | _,_=>none
 | _=>none
structure MapT (P:Program) (T:TypeId) (ks:List IntKind) (k:Nat) (zs:List AV):Prop where
 get:∃ (kt et:TypeId) (vs:Array Value),P.underlying T=some (.map kt et)∧Maps.Keyed P kt∧(∀ v:Array Value,KC ks v.toList→∃ l,keyOf P kt (.agg v)=some l)∧(∀ w,(zeroValue et).run P w=.ok (.agg vs) w)∧k=ks.length+vs.size∧zs=vs.toList.map .v∧ones zs=true
theorem xZi9 {T:TypeId} {ks:List IntKind} {k:Nat} {zs:List AV} (h:cMap P T=some (ks,k,zs)):MapT P T ks k zs:=by
 unfold cMap at h
 split at h
 ·rename_i kt et hu
  split at h
  ·rename_i ks' i hk hi
   split at h
   ·rename_i vs hz
    split at h
    ·rename_i hc
     simp only [Option.some.injEq,Prod.mk.injEq] at h
     obtain ⟨rfl,rfl,rfl⟩:=h
     simp only [Bool.and_eq_true,beq_iff_eq] at hc
     obtain ⟨⟨⟨⟨⟨c1,c2⟩,c3⟩,c4⟩,c5⟩,c6⟩:=hc
     have hw:(match P.underlying kt with | some (.array _ _) | some (.struct _)=>true | _=>false)=true:=c1
     refine ⟨kt,et,vs,hu,Maps.Keyed.of_law (deep_law (m:=9999) (by decide) c3 c4 hw),fun v hv=>?_,fun w=>xZbR hi hz w,rfl,rfl,c6⟩
     obtain ⟨ls,hls⟩:=xZeH _ _ _ hk v.toList hv
     have hf:(Value.agg v).formed P kt=true:=by
      have hl:=xZhi hv
      rw [Array.length_toList] at hl
      simp only [Value.formed]
      split at hw
      ·rename_i h1;rw [h1];simp [hl,c5]
      ·rename_i h1;rw [h1];simp [hl,c5]
      ·cases hw
     refine ⟨.string (keyBytes ls),?_⟩
     unfold keyOf
     split
     ·rw [c2,hf];simp [Value.cells,hls]
     ·rw [c2,hf];simp [Value.cells,hls]
     ·rename_i h1 h2
      split at hw
      ·rename_i h3;exact absurd h3 (h1 _ _)
      ·rename_i h3;exact absurd h3 (h2 _)
      ·cases hw
    ·cases h
   ·cases h
  ·cases h
 ·cases h
end
section
variable {P:Program} {t:List AV} {H:AH}
theorem xZnm {T ty:TypeId} (q:List IntKind) (k:Nat):OS P (.raw (.makeMap T none) ty) t H (.ret (.own H.buf.length)) ⟨H.box,H.buf++[.map q k []]⟩:=by
 intro wr oc hc
 obtain ⟨hop,_⟩:=xZce hc
 refine xZaD fun M S w a hxx hh=>?_
 have hg:=Grew.alloc w (.map #[] 0)
 have hun:¬ S w.heap.size:=fun h=>by have:=hh.sits _ h;omega
 have hrep:BufRep S (w.alloc (.map #[] 0)) (.map (some w.heap.size)) (.map q k []):=
  ⟨w.heap.size,#[],0,rfl,hun,xZ7k _ _,rfl,fun i e he=>by simp at he,fun i j e e' he=>by simp at he⟩
 obtain ⟨hh2,hf2⟩:=hh.newBuf hg.by rfl (fun _ _=>.inl rfl) (fun g e=>by cases e) (fun g _ e=>by cases e) hrep (fun g h=>.inl (by cases h;exact Nat.le_refl _))
 exact ⟨_,_,_,S,by simp only [execOp,hop,Option.map_none,Sem.run_bind];rfl,hh2,xZku hh.nt,hf2⟩
def keyAV (ks:Array Value):AV:=.agg (ks.toList.map .v)
theorem xZk1 {M:Maps} {S:Nat→Prop} {w:World} {v:Value} {ks:Array Value} (h:VRep M S w v (keyAV ks)):v=.agg ks:=by
 have key:∀ vs:Array Value,vs.size=(ks.toList.map AV.v).length→(∀ i,i < (ks.toList.map AV.v).length→vs.getD i undef=ks.getD i undef)→Value.agg vs=.agg ks:=by
  intro vs hn he
  have hn:vs.size=ks.size:=by simpa using hn
  congr 1
  refine Array.ext hn fun i h1 h2=>?_
  have:=he i (by simpa using h2)
  simpa [Array.getD,h1,h2] using this
 have hg:∀ i,i < (ks.toList.map AV.v).length→(ks.toList.map AV.v).getD i .any=.v (ks.getD i undef):=fun i hi=>by
  have hi':i < ks.size:=by simpa using hi
  simp [List.getD,Array.getD,hi']
 unfold keyAV at h
 cases h with
 | data h=>
   cases h with
   | agg vs _ hn h=>exact key vs hn fun i hi=>by have:=h i hi;rw [hg i hi] at this;exact xZlM this
 | agg vs _ hn h=>exact key vs hn fun i hi=>by have:=h i hi;rw [hg i hi] at this;exact this.v_eq
def hasKey (ks:Array Value) (x:AV):Prop:=∀ j,j < ks.size→x.cells.getD j .any=.v (ks.getD j undef)
theorem xZd0 {S:Nat→Prop} {w:World} {q:List IntKind} {k:Nat} {e:MapEntry} {x:AV} (h:EntRep S w q k e x) {ks:Array Value} (hk:KC q ks.toList):e.key=.agg ks ↔ hasKey ks x:=by
 obtain ⟨ks',h1,h2,h3⟩:=h.key
 have l1:=xZhi hk
 have l2:=xZhi h2
 rw [Array.length_toList] at l1 l2
 rw [h1]
 constructor
 ·intro e;cases e
  exact fun j hj=>h3 j (by omega)
 ·intro hh
  congr 1
  refine Array.ext (by omega) fun i h1 h2=>?_
  have a:=hh i h2
  rw [h3 i (by omega)] at a
  have a:=AV.v.inj a
  simpa [Array.getD,h1,h2] using a
theorem xZn0 {xs:List AV} {i:Nat} {x:AV} (h:xs[i]?=some x):xs.getD i .any=x:=by simp [List.getD,h]
theorem xZlV {M:Maps} {S:Nat→Prop} {w:World} {vs:Array Value} {cs:List AV} {c b:Bool} (hn:vs.size=cs.length) (h:∀ i,i < cs.length→DRep S w (vs.getD i undef) (cs.getD i .any)):
 VRep M S w (if c then .tuple #[.agg vs,.bool b] else .agg vs) (if c then .tup [.agg cs,.b b] else .agg cs):=by
 cases c
 ·exact .data (.agg vs cs hn h)
 ·refine .data (.tup _ _ rfl fun i hi=>?_)
  match i,hi with
  | 0,_=>exact .agg vs cs hn h
  | 1,_=>exact .v _
theorem xZja {T ty:TypeId} {x i:Operand} {c:Bool} {q:List IntKind} {k:Nat} {zs xs:List AV} {u:Nat} {ks:Array Value} (hT:MapT P T q k zs) (h1:od t (cOd x)=.own u) (hb:H.buf.getD u .dead=.map q k xs) (h2:od t (cOd i)=keyAV ks) (hk:KC q ks.toList)
 (hm:∀ y∈xs,¬ hasKey ks y):OS P (.raw (.lookup T x i c) ty) t H (.ret (if c then .tup [.agg zs,.b false] else .agg zs)) H:=xZcF fun M S w A oc hop hty hx hh=>by
 obtain ⟨kt,et,vs,hu,K,hko,hz,rfl,rfl,_⟩:=hT.get
 have e1:=hx x (by simp [Op.operands])
 have e2:=hx i (by simp [Op.operands])
 rw [h1] at e1
 rw [h2] at e2
 have hkv:=xZk1 e2
 obtain ⟨r,es,clock,hv,_,hg,hsz,hes,_⟩:MapRep S w (A.eval x) q (q.length+vs.size) xs:=by
  generalize hq:A.eval x=v at e1
  cases e1 with
  | data h=>cases h
  | own _ ht hs=>have:=hh.buf u (by rw [← hh.nt];exact ht);rw [hb] at this;exact this
 obtain ⟨kl,hkl⟩:=hko ks hk
 have hall:∀ e∈es.toList,∃ l,keyOf P kt e.key=some l:=fun e he=>by
  obtain ⟨n,hn,rfl⟩:=List.getElem_of_mem he
  have hn':n < es.size:=by simpa using hn
  obtain ⟨ks',a,b,_⟩:=(hes n es[n] (by simp [hn'])).key
  simp only [Array.getElem_toList]
  rw [a];exact hko ks' b
 refine ⟨if c then .tuple #[.agg vs,.bool false] else .agg vs,?_,xZlV (by simp) fun i hi=>?_⟩
 ·rcases K.find w hkl es.toList hall with ⟨f1,f2⟩ | ⟨j,e0,f1,f2,f3⟩
  ·simp [execOp,hop,hv,hkv,Instr.lookup,run_underlying hu,MapKept.run_getObj_map hg,K.check w _ hkl,f1,hz,Result.andThen]
  ·exfalso
   have hj:es[j]?=some e0:=by simpa using f2
   have hlt:j < xs.length:=by rw [← hsz];exact (Array.getElem?_eq_some_iff.1 hj).1
   have hr:=hes j e0 hj
   have hx':xs[j]?=some xs[j]:=by simp [hlt]
   rw [xZn0 hx'] at hr
   exact hm _ (List.getElem_mem hlt) ((xZd0 hr hk).1 f3)
 ·have hi':i < vs.size:=by simpa using hi
  have:(vs.toList.map AV.v).getD i .any=.v (vs.getD i undef):=by simp [List.getD,Array.getD,hi']
  rw [this];exact .v _
theorem xZkn {T ty:TypeId} {x i:Operand} {c:Bool} {q:List IntKind} {k:Nat} {zs xs:List AV} {u j:Nat} {y:AV} {ks:Array Value} (hT:MapT P T q k zs) (h1:od t (cOd x)=.own u) (hb:H.buf.getD u .dead=.map q k xs) (h2:od t (cOd i)=keyAV ks) (hk:KC q ks.toList)
 (hj:xs[j]?=some y) (hm:hasKey ks y):OS P (.raw (.lookup T x i c) ty) t H (.ret (if c then .tup [.agg (y.cells.drop q.length),.b true] else .agg (y.cells.drop q.length))) H:=xZcF fun M S w A oc hop hty hx hh=>by
 obtain ⟨kt,et,vs,hu,K,hko,hz,rfl,rfl,_⟩:=hT.get
 have e1:=hx x (by simp [Op.operands])
 have e2:=hx i (by simp [Op.operands])
 rw [h1] at e1
 rw [h2] at e2
 have hkv:=xZk1 e2
 obtain ⟨r,es,clock,hv,_,hg,hsz,hes,hdist⟩:MapRep S w (A.eval x) q (q.length+vs.size) xs:=by
  generalize hq:A.eval x=v at e1
  cases e1 with
  | data h=>cases h
  | own _ ht hs=>have:=hh.buf u (by rw [← hh.nt];exact ht);rw [hb] at this;exact this
 obtain ⟨kl,hkl⟩:=hko ks hk
 have hall:∀ e∈es.toList,∃ l,keyOf P kt e.key=some l:=fun e he=>by
  obtain ⟨n,hn,rfl⟩:=List.getElem_of_mem he
  have hn':n < es.size:=by simpa using hn
  obtain ⟨ks',a,b,_⟩:=(hes n es[n] (by simp [hn'])).key
  simp only [Array.getElem_toList]
  rw [a];exact hko ks' b
 have hjl:j < es.size:=by rw [hsz];exact (List.getElem?_eq_some_iff.1 hj).1
 have hej:es[j]?=some es[j]:=by simp [hjl]
 have hr:=hes j es[j] hej
 rw [xZn0 hj] at hr
 have hkey:=(xZd0 hr hk).2 hm
 rcases K.find w hkl es.toList hall with ⟨f1,f2⟩ | ⟨j',e0,f1,f2,f3⟩
 ·exact absurd hkey (f2 _ (by simp))
 ·have hj':es[j']?=some e0:=by simpa using f2
  obtain rfl:j=j':=hdist j j' _ _ hej hj' (by rw [hkey,f3])
  rw [hej] at hj'
  cases hj'
  obtain ⟨vs',v1,v2,v3⟩:=hr.val
  refine ⟨if c then .tuple #[.agg vs',.bool true] else .agg vs',?_,xZlV ?_ fun i hi=>?_⟩
  ·simp [execOp,hop,hv,hkv,Instr.lookup,run_underlying hu,MapKept.run_getObj_map hg,K.check w _ hkl,f1,v1,Result.andThen]
  ·rw [List.length_drop,hr.len];omega
  ·rw [List.length_drop,hr.len] at hi
   have:=v3 i (by omega)
   rwa [show (y.cells.drop q.length).getD i .any=y.cells.getD (q.length+i) .any by simp [List.getD]]
theorem xZnp {k u:Nat} {y z:Od} {xs:List AV} {ik:IntKind} {n:Int} (h:od t y=.own u) (hbuf:H.buf.getD u .dead=.live k xs) (hz:od t z=.v (.int ik n)) (h0:0≤n) (h1:n≤(xs.length:Int)):
 OS P (.slc false k y none (some z) none) t H (.ret (.own H.buf.length)) ⟨H.box,H.buf.set u .dead++[.live k (xs.take n.toNat)]⟩:=by
 intro wr oc hc
 obtain ⟨ty,x,xl,xh,xm,rfl,e1,e2,e3,hop,hty⟩:=xZm2 hc
 obtain rfl:xl=none:=by cases xl<;>first | rfl | (simp at e1)
 obtain rfl:xm=none:=by cases xm<;>first | rfl | (simp at e3)
 obtain ⟨e,hu,hk⟩:∃ e,P.underlying ty=some (.slice e)∧cSize P e=some k:=by
  rcases hty with ⟨h,_⟩ | ⟨_,h⟩
  ·cases h
  ·exact h
 refine xZaD fun M S w a hx hh=>?_
 have hr:=hx x (by simp [hop,Op.operands])
 have hhi:∀ y,xh=some y→VRep M S w (a.eval y) (od t (cOd y)):=fun y e=>hx y (by subst e;simp [hop,Op.operands])
 have hb2:bnd t xs.length (xh.map cOd)=some n:=by rw [← e2];simp [bnd,hz]
 rw [h] at hr
 generalize hv:a.eval x=v at hr
 cases hr with
 | data h=>cases h
 | own _ htl hsl=>
   have hult:u < H.buf.length:=by rw [← hh.nt];exact htl
   have hbf:=hh.buf u hult
   rw [hbuf] at hbf
   have hlv:∀ g,Value.blk (M.bv u)=some g→lives M H u g:=fun g hg=>⟨hult,by rw [hbuf];rfl,hg⟩
   obtain ⟨v',hrun,hlive,hblk⟩:∃ v',(Instr.sliceAt ty (M.bv u) none (xh.map a.eval) none).run P w=.ok v' w∧LiveRep S w v' k (xs.take n.toNat)∧∀ g,Value.blk v'=some g→Value.blk (M.bv u)=some g:=by
    rcases hbf with ⟨⟨ad,ha⟩,rfl⟩ | ⟨g,cap,c,T,ha,hun,hg,row⟩
    ·have hn:n=0:=by simp at h1;omega
     subst hn
     have hb:=xZ7H (P:=P) (S:=S) (M:=M) (w:=w) (a:=a) (lo:=none) (cap:=0) (fun _ e=>by cases e) hhi (l:=0) rfl hb2 (by omega) (by omega) (by simp) (by simp) true
     refine ⟨_,by rw [ha];exact xZ7I hu hk hb,.inl ⟨⟨_,rfl⟩,by simp⟩,fun g hg=>?_⟩
     simp at hg
     cases ad<;>simp [Value.blk] at hg
    ·have hf:=row.fits
     have hb:=xZ7H (P:=P) (S:=S) (M:=M) (w:=w) (a:=a) (lo:=none) (cap:=cap+1) (fun _ e=>by cases e) hhi (l:=0) rfl hb2 (by omega) h0 h1 hf true
     refine ⟨_,by rw [ha];exact xZ7I hu hk hb,.inr ⟨g,cap,c,T,?_,hun,hg,?_⟩,fun g' hg'=>?_⟩
     ·have:¬ (cap+1=(0:Int).toNat):=by simp
      rw [if_neg this]
      simp [xZbG]
      omega
     ·have hl:∀ i,i < (xs.take n.toNat).length→i < xs.length∧(xs.take n.toNat).getD i .any=xs.getD i .any:=fun i hi=>by
       simp only [List.length_take] at hi
       refine ⟨by omega,?_⟩
       simp [List.getD,List.getElem?_take,show i < n.toNat by omega]
      exact ⟨by simp only [List.length_take];omega,row.small,row.size,fun i hi=>by obtain ⟨p,q⟩:=hl i hi;rw [q];exact row.len i p,
       fun i hi j hj=>by obtain ⟨p,q⟩:=hl i hi;rw [q];exact row.one i p j hj,fun i hi j hj=>by obtain ⟨p,q⟩:=hl i hi;rw [q];exact row.rep i p j hj⟩
     ·rw [ha]
      have:¬ (cap+1=(0:Int).toNat):=by simp
      rw [if_neg this] at hg'
      simpa [xZbG,Value.blk] using hg'
   obtain ⟨hh',hf⟩:=hh.newTok (row:=Value.blk (M.bv u)) (w':=w) ⟨rfl,rfl,rfl,Nat.le_refl _,fun _ _ _=>rfl⟩ (buf:=H.buf.set u .dead) (by simp) (fun t' ht'=>by
    by_cases e:t'=u
    ·subst e;exact .inr (xZ2Y ht')
    ·exact .inl (getD_set_ne' (Ne.symm e)))
    (fun g e=>⟨.inr ⟨u,hlv g e⟩,fun t' hl=>by
      have:=hh.tt t' u g hl (hlv g e)
      subst this;exact xZ2Y hult⟩)
    (fun g b e hb e'=>hh.bt b u g hb (hlv g e) e') (v:=v') (k:=k) (xs:=xs.take n.toNat) hlive fun g hg=>.inr (hblk g hg)
   exact ⟨v',w,_,S,by simp only [execOp,hop,hv,Option.map_none,Sem.run_bind,hrun,Result.andThen_ok,Sem.run_pure],hh',xZ7G hh.nt hlive.slice,hf⟩
def isMapT (P:Program) (T:TypeId):Bool:=match P.underlying T with
 | some (.map _ _)=>true
 | _=>false
theorem xZlq {T ty:TypeId} {x:Operand} {q:List IntKind} {k:Nat} {xs:List AV} {u:Nat} (hT:isMapT P T=true) (h1:od t (cOd x)=.own u) (hb:H.buf.getD u .dead=.map q k xs):
 OS P (.raw (.call ⟨.builtin .len,#[x],#[T]⟩) ty) t H (.ret (.v (.int .i64 xs.length))) H:=xZcF fun M S w A oc hop hty hx hh=>by
 obtain ⟨kt,et,hu⟩:∃ kt et,P.underlying T=some (.map kt et):=by
  unfold isMapT at hT
  split at hT
  ·rename_i kt et hu;exact ⟨kt,et,hu⟩
  ·cases hT
 have e1:=hx x (by simp [Op.operands,Call.operands])
 rw [h1] at e1
 obtain ⟨r,es,clock,hv,_,hg,hsz,hes,_⟩:MapRep S w (A.eval x) q k xs:=by
  generalize hq:A.eval x=v at e1
  cases e1 with
  | data h=>cases h
  | own _ ht hs=>have:=hh.buf u (by rw [← hh.nt];exact ht);rw [hb] at this;exact this
 refine ⟨.int .i64 xs.length,?_,.data (.v _)⟩
 simp [execOp,hop,resolve,invoke,builtin,Builtin.len_,hv,goInt,run_underlying hu,MapKept.run_getObj_map hg,hsz,Result.andThen]
theorem RelH.storeMap {M S H} {w:World} (hh:RelH M S H w) {t r k:Nat} {q:List IntKind} {xs xs':List AV} (ht:t < H.buf.length) (hb:H.buf.getD t .dead=.map q k xs) {es es':Array MapEntry} {clock clock':Nat}
 (hv:M.bv t=.map (some r)) (hc:w.heap[r]?=some (.map es clock)) (hr:es'.size=xs'.length∧(∀ (i:Nat) (e:MapEntry),es'[i]?=some e→EntRep S w q k e (xs'.getD i .any))∧∀ (i j:Nat) (e e':MapEntry),es'[i]?=some e→es'[j]?=some e'→e.key=e'.key→i=j):
 RelH M S ⟨H.box,H.buf.set t (.map q k xs')⟩ { w with heap:=w.heap.setIfInBounds r (.map es' clock') }∧Frm M S H w M S ⟨H.box,H.buf.set t (.map q k xs')⟩ { w with heap:=w.heap.setIfInBounds r (.map es' clock') }:=by
 have hlv:lives M H t r:=⟨ht,by rw [hb];rfl,by rw [hv];rfl⟩
 have hun:=xZ6I hh (.inr ⟨t,hlv⟩)
 have hoth:∀ i,i≠r→(w.heap.setIfInBounds r (.map es' clock'))[i]?=w.heap[i]?:=fun i h=>by simp [Array.getElem?_setIfInBounds,Ne.symm h]
 have hS:∀ i,S i→(w.heap.setIfInBounds r (.map es' clock'))[i]?=w.heap[i]?:=fun i h=>hoth i fun e=>hun (e ▸ h)
 have hset:∀ t',t' < H.buf.length→((H.buf.set t (.map q k xs')).getD t' .dead).isLive=(H.buf.getD t' .dead).isLive:=fun t' h'=>by
  by_cases e:t'=t
  ·subst e;rw [xZ2Y h',hb];rfl
  ·rw [getD_set_ne' (Ne.symm e)]
 have hlives:∀ t' i,lives M ⟨H.box,H.buf.set t (.map q k xs')⟩ t' i→lives M H t' i:=fun t' i ⟨h1,h2,h3⟩=>by
  have h1':t' < H.buf.length:=by simpa using h1
  exact ⟨h1',by rw [← hset t' h1'];exact h2,h3⟩
 refine ⟨⟨hh.nb,by simpa using hh.nt,fun i h=>by simpa using hh.sits i h,fun b hb'=>?_,fun t' ht'=>?_,hh.bb,fun x y i h1 h2=>hh.tt x y i (hlives x i h1) (hlives y i h2),fun b x i hb' h=>hh.bt b x i hb' (hlives x i h)⟩,
  ⟨hh.nb,hh.nt,rfl,rfl,rfl,by simp,fun _ h=>h,hS,fun i hi hf=>hoth i fun e=>hf (.inr ⟨t,e ▸ hlv⟩),.refl M,fun _ h=>.inl h,fun i h=>.inl ?_⟩⟩
 ·exact (hh.box b hb').keep (.refl M) (fun _ h=>h) (hh.box b hb').un hS (hoth _ fun e=>hh.bt b t r hb' hlv e)
 ·have h1':t' < H.buf.length:=by simpa using ht'
  show BufRep S _ (M.bv t') ((H.buf.set t (.map q k xs')).getD t' .dead)
  by_cases e:t'=t
  ·subst e
   rw [xZ2Y h1']
   have hlt:r < w.heap.size:=xZ8L hc
   refine ⟨r,es',clock',hv,hun,by simp [Array.getElem?_setIfInBounds,hlt],hr.1,fun i e he=>?_,hr.2.2⟩
   have h:=hr.2.1 i e he
   refine ⟨h.len,h.one,h.key,?_⟩
   obtain ⟨vs,q1,q2,q3⟩:=h.val
   exact ⟨vs,q1,q2,fun j hj=>(q3 j hj).mono (fun _ h=>h) hS⟩
  ·rw [getD_set_ne' (Ne.symm e)]
   have:=hh.buf t' h1'
   cases hbf:H.buf.getD t' .dead with
   | dead=>trivial
   | froz k xs=>rw [hbf] at this;exact DRep.mono (fun _ h=>h) hS this
   | live k xs=>
     rw [hbf] at this
     have hli:∀ i,Value.blk (M.bv t')=some i→lives M H t' i:=fun i h=>⟨h1',by rw [hbf];rfl,h⟩
     exact LiveRep.keep this (fun _ h=>h) (fun i h=>xZ6I hh (.inr ⟨t',hli i h⟩)) hS fun i h=>hoth i fun e'=>e (hh.tt t' t i (hli i h) (e' ▸ hlv))
   | map q k xs=>
     rw [hbf] at this
     have hli:∀ i,Value.blk (M.bv t')=some i→lives M H t' i:=fun i h=>⟨h1',by rw [hbf];rfl,h⟩
     exact MapRep.keep this (fun _ h=>h) (fun i h=>xZ6I hh (.inr ⟨t',hli i h⟩)) hS fun i h=>hoth i fun e'=>e (hh.tt t' t i (hli i h) (e' ▸ hlv))
 ·rcases h with ⟨b',hb',e⟩ | ⟨t',hl'⟩
  ·exact .inl ⟨b',hb',e⟩
  ·exact .inr ⟨t',hlives t' i hl'⟩
inductive PutE (ks:Array Value) (y:AV):List AV→List AV→Prop
 | new {xs} (h:∀ x∈xs,¬ hasKey ks x):PutE ks y xs (xs++[y])
 | old {a b x} (h:hasKey ks x):PutE ks y (a++x::b) (a++y::b)
theorem xZrj {T ty:TypeId} {x i z:Operand} {q:List IntKind} {k:Nat} {zs xs xs' ys:List AV} {u:Nat} {ks:Array Value} (hT:MapT P T q k zs) (h1:od t (cOd x)=.own u) (hb:H.buf.getD u .dead=.map q k xs) (h2:od t (cOd i)=keyAV ks) (hk:KC q ks.toList)
 (h3:od t (cOd z)=.agg ys) (hd:ys.all AV.dat=true) (ho:ones ys=true) (hl:q.length+ys.length=k) (hp:PutE ks (.agg (ks.toList.map .v++ys)) xs xs'):OS P (.raw (.mapUpdate T x i z) ty) t H (.ret (.v undef)) ⟨H.box,H.buf.set u (.map q k xs')⟩:=by
 intro wr oc hc
 obtain ⟨hop,_⟩:=xZce hc
 refine xZg0 fun M S w A hx hh=>?_
 rw [hop] at hx
 obtain ⟨kt,et,vs,hu,K,hko,hz,hkk,rfl,_⟩:=hT.get
 have e1:=hx x (by simp [Op.operands])
 have e2:=hx i (by simp [Op.operands])
 have e3:=hx z (by simp [Op.operands])
 rw [h1] at e1
 rw [h2] at e2
 rw [h3] at e3
 have hkv:=xZk1 e2
 obtain ⟨hut,hbv,hrep⟩:u < H.buf.length∧A.eval x=M.bv u∧MapRep S w (M.bv u) q k xs:=by
  generalize hq:A.eval x=v at e1
  cases e1 with
  | data h=>cases h
  | own _ ht hs=>
    have hlt:u < H.buf.length:=by rw [← hh.nt];exact ht
    have:=hh.buf u hlt;rw [hb] at this;exact ⟨hlt,rfl,this⟩
 obtain ⟨r,es,clock,hv,_,hg,hsz,hes,hdist⟩:=hrep
 obtain ⟨kl,hkl⟩:=hko ks hk
 have hall:∀ e∈es.toList,∃ l,keyOf P kt e.key=some l:=fun e he=>by
  obtain ⟨n,hn,rfl⟩:=List.getElem_of_mem he
  have hn':n < es.size:=by simpa using hn
  obtain ⟨ks',a,b,_⟩:=(hes n es[n] (by simp [hn'])).key
  simp only [Array.getElem_toList]
  rw [a];exact hko ks' b
 obtain ⟨us,hus,hun,hur⟩:∃ us:Array Value,A.eval z=.agg us∧us.size=ys.length∧∀ j,j < ys.length→DRep S w (us.getD j undef) (ys.getD j .any):=by
  obtain ⟨us,hv',hn',hr'⟩:=xZer e3
  refine ⟨us,hv',hn',fun j hj=>xZ6F (hr' j hj) ?_⟩
  have:ys.getD j .any=ys[j]:=by simp [List.getD,hj]
  rw [this];exact List.all_eq_true.1 hd _ (List.getElem_mem hj)
 have hkl':=xZhi hk
 rw [Array.length_toList] at hkl'
 have hnew:EntRep S w q k ⟨.agg ks,.agg us,clock⟩ (.agg (ks.toList.map .v++ys)):=by
  refine ⟨by simp [AV.cells];omega,fun j hj=>?_,⟨ks,rfl,hk,fun j hj=>?_⟩,⟨us,rfl,by omega,fun j hj=>?_⟩⟩
  ·simp only [AV.cells]
   rcases Nat.lt_or_ge j ks.size with h | h
   ·rw [xZ34 (by simpa using h)]
    have:(ks.toList.map AV.v).getD j .any=.v ks[j]:=by simp [List.getD,h]
    rw [this]
    have hcell:∀ {qs:List IntKind} {cs:List Value},KC qs cs→∀ c∈cs,c.oneCell'=true:=by
     intro qs
     induction qs with
     | nil=>intro cs h c hc;cases cs with
       | nil=>cases hc
       | cons _ _=>exact h.elim
     | cons a qs ih=>intro cs h c hc;cases cs with
       | nil=>cases hc
       | cons c' cs=>
         rcases List.mem_cons.1 hc with rfl | hc
         ·obtain ⟨⟨n,rfl,_⟩,_⟩:=h;rfl
         ·exact ih h.2 c hc
    exact hcell hk _ (by simp)
   ·have:(ks.toList.map AV.v++ys).getD j .any=ys.getD (j - ks.size) .any:=by
     simp [List.getD,List.getElem?_append_right (show (ks.toList.map AV.v).length≤j by simpa using h)]
    rw [this];exact xZap ho (by omega)
  ·simp only [AV.cells]
   have h:j < ks.size:=by omega
   rw [xZ34 (by simpa using h)]
   simp [List.getD,Array.getD,h]
  ·simp only [AV.cells]
   have:(ks.toList.map AV.v++ys).getD (q.length+j) .any=ys.getD j .any:=by
    have e:q.length+j=(ks.toList.map AV.v).length+j:=by simp;omega
    rw [e,List.getD,List.getElem?_append_right (Nat.le_add_right _ _),Nat.add_sub_cancel_left];rfl
   rw [this];exact hur j (by omega)
 have hent:∀ {e:MapEntry} {x:AV},e.key=.agg ks→e.val=.agg us→EntRep S w q k e (.agg (ks.toList.map .v++ys)):=fun {e x} a b=>⟨hnew.len,hnew.one,by obtain ⟨k1,k2,k3⟩:=hnew.key;exact ⟨k1,by rw [a];exact k2,k3⟩,by obtain ⟨k1,k2,k3⟩:=hnew.val;exact ⟨k1,by rw [b];exact k2,k3⟩⟩
 have heq:M.bv u=.map (some r):=hv
 have getxs:∀ {n:Nat} {e:MapEntry},es[n]?=some e→∃ y,xs[n]?=some y∧EntRep S w q k e y:=fun {n e} he=>by
  have hn:n < xs.length:=by rw [← hsz];exact (Array.getElem?_eq_some_iff.1 he).1
  refine ⟨xs[n],by simp [hn],?_⟩
  have:=hes n e he
  rwa [xZn0 (show xs[n]?=some xs[n] by simp [hn])] at this
 cases hp with
 | new hm=>
   have f2:∀ e∈es.toList,e.key≠.agg ks:=fun e he hek=>by
    obtain ⟨n,hn,hne⟩:=List.getElem_of_mem he
    have hn':n < es.size:=by simpa using hn
    obtain ⟨y,hy,hey⟩:=getxs (n:=n) (e:=e) (by rw [← hne];simp [hn'])
    exact hm y (List.mem_of_getElem? hy) ((xZd0 hey hk).1 hek)
   have hf:(Instr.findKey kt (.agg ks) es.toList).run P w=.ok none w:=by
    rcases K.find w hkl es.toList hall with ⟨f1,_⟩ | ⟨j,e0,_,g2,g3⟩
    ·exact f1
    ·exact absurd g3 (f2 e0 (List.mem_of_getElem? g2))
   have hst:=hh.storeMap hut hb (xs':=xs++[.agg (ks.toList.map .v++ys)]) (es':=es.push ⟨.agg ks,.agg us,clock⟩) (clock':=clock+1) heq hg ⟨by simp [hsz],fun n e he=>?_,fun a b e e' ha hb' hab=>?_⟩
   ·refine ⟨_,M,S,?_,hst.1,hst.2⟩
    simp [execOp,hop,hbv,heq,hkv,hus,Instr.mapUpdate,run_underlying hu,MapKept.run_getObj_map hg,K.check w false hkl,hf,MapKept.run_setObj_map _ hg,Result.andThen]
   ·rw [Array.getElem?_push] at he
    split at he
    ·rename_i hn
     cases he
     have:(xs++[AV.agg (ks.toList.map .v++ys)]).getD n .any=.agg (ks.toList.map .v++ys):=by rw [hn,hsz];exact xZ8i
     rw [this];exact hnew
    ·have hn:n < xs.length:=by rw [← hsz];exact (Array.getElem?_eq_some_iff.1 he).1
     rw [xZ34 hn];exact hes n e he
   ·rw [Array.getElem?_push] at ha hb'
    split at ha<;>split at hb'
    ·omega
    ·cases ha;exact absurd hab.symm (f2 e' (by simpa using Array.mem_of_getElem? hb'))
    ·cases hb';exact absurd hab (f2 e (by simpa using Array.mem_of_getElem? ha))
    ·exact hdist a b e e' ha hb' hab
 | @old a b x0 hm=>
   have hal:a.length < es.size:=by rw [hsz];simp
   have hea:es[a.length]?=some es[a.length]:=by simp [hal]
   obtain ⟨y,hy,hey⟩:=getxs hea
   have:y=x0:=by simp at hy;exact hy.symm
   subst this
   have hkey:=(xZd0 hey hk).2 hm
   have hf:∃ v,(Instr.findKey kt (.agg ks) es.toList).run P w=.ok (some (a.length,v)) w:=by
    rcases K.find w hkl es.toList hall with ⟨_,f2⟩ | ⟨j,e0,g1,g2,g3⟩
    ·exact absurd hkey (f2 _ (by simp))
    ·have hj:es[j]?=some e0:=by simpa using g2
     obtain rfl:=hdist a.length j _ _ hea hj (by rw [hkey,g3])
     exact ⟨_,g1⟩
   obtain ⟨v0,hf⟩:=hf
   have hmod:∀ n:Nat,(es.modify a.length fun e=>{ e with key:=.agg ks,val:=.agg us })[n]?=if n=a.length then some { es[a.length] with key:=.agg ks,val:=.agg us } else es[n]?:=fun n=>by
    rw [Array.getElem?_modify]
    by_cases hn:a.length=n
    ·subst hn;simp [hal]
    ·rw [if_neg hn,if_neg (Ne.symm hn)]
   have hst:=hh.storeMap hut hb (xs':=a++.agg (ks.toList.map .v++ys)::b) (es':=es.modify a.length fun e=>{ e with key:=.agg ks,val:=.agg us }) (clock':=clock) heq hg ⟨by simp [hsz],fun n e he=>?_,fun m n e e' hm' hn' hab=>?_⟩
   ·refine ⟨_,M,S,?_,hst.1,hst.2⟩
    simp [execOp,hop,hbv,heq,hkv,hus,Instr.mapUpdate,run_underlying hu,MapKept.run_getObj_map hg,K.check w false hkl,hf,hea,hkey,K.stays w hkl,MapKept.run_setObj_map _ hg,Result.andThen]
   ·rw [hmod] at he
    split at he
    ·rename_i hn
     cases he
     subst hn
     have:(a++AV.agg (ks.toList.map .v++ys)::b).getD a.length .any=.agg (ks.toList.map .v++ys):=by simp [List.getD]
     rw [this];exact hent (x:=.any) rfl rfl
    ·rename_i hn
     have:=hes n e he
     have e1:(a++AV.agg (ks.toList.map .v++ys)::b).getD n .any=(a++y::b).getD n .any:=by
      rcases Nat.lt_or_ge n a.length with h | h
      ·rw [xZ34 h,xZ34 h]
      ·have:n - a.length≠0:=by omega
       obtain ⟨m,hm2⟩:=Nat.exists_eq_succ_of_ne_zero this
       simp [List.getD,List.getElem?_append_right h,hm2]
     rw [e1];exact this
   ·rw [hmod] at hm' hn'
    split at hm'<;>split at hn'
    ·omega
    ·rename_i h1 h2
     cases hm'
     exact absurd (hdist a.length n _ e' hea hn' (by rw [hkey];exact hab)).symm h2
    ·rename_i h1 h2
     cases hn'
     exact absurd (hdist m a.length e _ hm' hea (by rw [hkey];exact hab)) h1
    ·exact hdist m n e e' hm' hn' hab
end
def eqArr (P:Program) (t:TypeId):Option (List (Nat×EK)):=match P.underlying t with
 | some (.array n e)=>match eqLeaves P 9 e,cSize P e,P.info? e with
   | some le,some m,some _=>if le.all (fun x=>decide (x.1 < m))=true∧P.cellsOf e=m∧P.eqGuardType P.depth t=false then some ((List.range n).flatMap fun j=>le.map fun x=>(j * m+x.1,x.2)) else none
   | _,_,_=>none
 | _=>none
section
variable {P:Program}
theorem xZiE {e:TypeId} {le:List (Nat×EK)} {m:Nat} (hle:eqLeaves P 9 e=some le) (hm:cSize P e=some m) (hall:le.all (fun x=>decide (x.1 < m))=true) {d:Nat} (hd:9≤d) {cs ds:Array Value} {xs ys:List AV} (hc:AtB cs xs) (hds:AtB ds ys) (w:World):
 ∀ (is:List Nat) (b:Bool),eqCells (is.flatMap fun j=>le.map fun x=>(j * m+x.1,x.2)) xs ys=some b→(Op.eqItems d e m cs ds is).run P w=.ok b w
 | [],b,h=>by cases h;simp [Op.eqItems]
 | j::is,b,h=>by
   rw [List.flatMap_cons] at h
   obtain ⟨b1,b2,h1,h2,rfl⟩:=xZcP h
   have hall':∀ x∈le,x.1 < m:=fun x hx=>by
    have:=List.all_eq_true.1 hall x hx
    simpa using this
   have h1':=xZbM h1
   rw [← xZcy hall'] at h1'
   have ext:∀ (c:Array Value) (z:List AV),AtB c z→AtB (c.extract (j * m) (j * m+m)) ((z.drop (j * m)).take m):=by
    intro c z hcz o u hu
    have homf:o < m:=by
     rcases Nat.lt_or_ge o m with h | h
     ·exact h
     ·rw [show ((z.drop (j * m)).take m).getD o AV.any=.any from by simp [List.getD,List.getElem?_take_eq_none h]] at hu;cases hu
    rw [show ((z.drop (j * m)).take m).getD o AV.any=z.getD (j * m+o) .any from by simp [List.getD,List.getElem?_take_of_lt homf]] at hu
    have:=hcz (j * m+o) u hu
    obtain ⟨hs,_⟩:=Array.getElem?_eq_some_iff.1 this
    rw [Array.getElem?_extract]
    simp only [show o < min (j * m+m) c.size - j * m by omega,if_true]
    exact this
   obtain ⟨q1,q2,de,q3⟩:=xZcz 9 e le hle d hd _ _ _ _ b1 w (ext cs xs hc) (ext ds ys hds) h1'
   simp only [Op.eqItems,Sem.run_bind]
   rw [xZdG q3 hm (fun h=>(q2 h).1),Result.andThen_ok,xZdG q3 hm (fun h=>(q2 h).2),Result.andThen_ok,q1,Result.andThen_ok]
   cases b1 with
   | false=>simp
   | true=>simp only [Bool.not_true,Bool.false_eq_true,if_false,Bool.true_and];exact xZiE hle hm hall hd hc hds w is b2 h2
theorem xZnI {M:Maps} {S:Nat→Prop} {w:World} {v:Value} {cs:List AV} (hv:VRep M S w v (.agg cs)):∃ vs,v=.agg vs∧AtB vs cs:=by
 have key:∀ vs:Array Value,vs.size=cs.length→(∀ i,i < cs.length→VRep M S w (vs.getD i undef) (cs.getD i .any))→AtB vs cs:=fun vs hn hall o u ho=>by
  have hlt:o < cs.length:=by
   rcases Nat.lt_or_ge o cs.length with h | h
   ·exact h
   ·rw [show cs.getD o AV.any=.any from by simp [List.getD,List.getElem?_eq_none h]] at ho;cases ho
  have:=hall o hlt
  rw [ho] at this
  have e:=this.v_eq
  have hs:o < vs.size:=by omega
  simp only [Array.getD,hs,dite_true] at e
  rw [Array.getElem?_eq_getElem hs];exact congrArg some e
 cases hv with
 | data h=>cases h with | agg vs _ hn hall=>exact ⟨vs,rfl,key vs hn fun i hi=>.data (hall i hi)⟩
 | agg vs _ hn hall=>exact ⟨vs,rfl,key vs hn hall⟩
theorem xZr7 {t:List AV} {H:AH} {op:BinOp} {ne b:Bool} {te ty' ty:TypeId} {x y:Operand} {ls:List (Nat×EK)} {xs ys:List AV} (hne:cNe op=some ne) (hls:eqArr P te=some ls) (h1:od t (cOd x)=.agg xs) (h2:od t (cOd y)=.agg ys) (hb:eqCells ls xs ys=some b):
 OS P (.raw (.binOp op te x y ty') ty) t H (.ret (.b (neB ne b))) H:=xZcF fun M S w A oc hop hty hx hh=>by
 have e1:=hx x (by simp [Op.operands])
 have e2:=hx y (by simp [Op.operands])
 rw [h1] at e1;rw [h2] at e2
 obtain ⟨v1,ev1,a1⟩:=xZnI e1
 obtain ⟨v2,ev2,a2⟩:=xZnI e2
 unfold eqArr at hls
 split at hls
 ·rename_i n e hu
  split at hls
  ·rename_i le m i hle hm hi
   split at hls
   ·rename_i hc
    cases hls
    have q:=xZiE hle hm hc.1 (d:=9999) (by decide) a1 a2 w (List.range n) b hb
    rw [← hc.2.1] at q
    have q':(Op.equal te (.agg v1) (.agg v2)).run P w=.ok b w:=by
     have:=run_equalIn_array (P:=P) (w:=w) 9999 v1 v2 hu hi
     rw [hc.2.1] at this q
     exact this.trans q
    refine ⟨.bool (neB ne b),?_,.data (.v _)⟩
    have:=xZ5P (P:=P) (w:=w) hne (ty:=te) (u:=.agg v1) (v:=.agg v2) (fun op'=>⟨fun e=>by subst e;rfl,fun e=>by subst e;rfl⟩) (b:=b) q'
    simp only [execOp,hop,Sem.run_bind,ev1,ev2]
    rw [run_eqGuard_agg w op te x y v1 v2 hc.2.2]
    simp only [Result.andThen_ok,this];rfl
   ·cases hls
  ·cases hls
 ·cases hls
end
end Go.Proofs.YtmfkphajohcklaaGreat.O
namespace Go.Proofs.YtmfkphajohcklaaGreat.O
open Go
def flm {α β:Type} (f:α→List β):List α→List β
 | []=>[]
 | x::l=>f x++flm f l
def oc {α X:Type} (f:α→List α→Option X):List α→Option X
 | x::l=>f x l
 | []=>none
def on {α X:Type} (x:X):List α→Option X
 | []=>some x
 | _=>none
theorem xZoN {α X:Type} {f:α→List α→Option X} {l:List α} {x:X} (h:oc f l=some x):∃ a r,l=a::r∧f a r=some x:=by
 cases l with
 | nil=>cases h
 | cons a r=>exact ⟨a,r,rfl,h⟩
theorem xZoP {α X:Type} {y x:X} {l:List α} (h:on y l=some x):l=[]∧y=x:=by
 cases l with
 | nil=>cases h;exact ⟨rfl,rfl⟩
 | cons a r=>cases h
inductive BV (T:Nat→Type) where
 | raw (x:AV)
 | emp
 | int (k:IntKind) (n:Int)
 | bool (b:Bool)
 | str (s:List UInt8)
 | flt (k:FloatKind) (n:Nat)
 | agg (cs:List (BV T))
 | tup (cs:List (BV T))
 | sl (i:Nat) (l:List (T i))
 | own (t:Nat)
 | ptr (b o:Nat)
 | aptr (b o:Nat) (p:List (Nat×Nat×Int×Nat))
 | eptr (t i:Nat) (n:Int) (o:Nat)
 | dptr (cs:List (BV T))
 | fn (f:Fn) (a b:List (BV T))
 | ifc (t:TypeId) (x:BV T)
 | tr (i:Nat) (x:T i)
inductive BB (T:Nat→Type) where
 | dead
 | live (i:Nat) (l:List (T i))
 | froz (i:Nat) (l:List (T i))
 | map (q:List IntKind) (i:Nat) (l:List (T i))
structure BH (T:Nat→Type) where
 box:List (List (BV T))
 buf:List (BB T)
structure Tb (T:Nat→Type) where
 k:Nat→Nat
 ag:Nat→Bool
 eA:(i:Nat)→T i→AV
 enc:(i:Nat)→T i→List (BV T)
 dec:(i:Nat)→List (BV T)→Option (T i)
 eX:(i:Nat)→T i→AV:=fun _ _=>.any
 el:(i:Nat)→T i→(R:Type)→(BV T→Option R)→Option R:=fun _ _ _ _=>none
 fo:TypeId→Option Nat:=fun _=>none
 fd:(i:Nat)→TypeId→BV T→Option (T i):=fun _ _ _=>none
section
variable {T:Nat→Type}
def pofs (B:Tb T):List (Nat×Nat×Int×Nat)→Nat
 | []=>0
 | (i,_,n,f)::p=>n.toNat * B.k i+f+pofs B p
mutual
def BV.av (B:Tb T):BV T→AV
 | .raw x=>x
 | .emp=>.emp
 | .int k n=>.v (.int k n)
 | .bool b=>.v (.bool b)
 | .str s=>.v (.string (bs s))
 | .flt k n=>.v (.float k n)
 | .agg cs=>.agg (BV.avs B cs)
 | .tup cs=>.tup (BV.avs B cs)
 | .sl i l=>.sl (B.k i) (l.map (B.eA i))
 | .own t=>.own t
 | .ptr b o=>.ptr b o
 | .aptr b o p=>.ptr b (o+pofs B p)
 | .eptr t i n o=>.eptr t (B.k i) n.toNat o
 | .dptr cs=>.dptr (BV.avs B cs)
 | .fn f a b=>.fn f (BV.avs B a) (BV.avs B b)
 | .ifc t x=>.ifc t (BV.av B x)
 | .tr i x=>.opq (B.eX i x)
def BV.avs (B:Tb T):List (BV T)→List AV
 | []=>[]
 | x::xs=>BV.av B x::BV.avs B xs
end
def BB.av (B:Tb T):BB T→Buf
 | .dead=>.dead
 | .live i l=>.live (B.k i) (l.map (B.eA i))
 | .froz i l=>.froz (B.k i) (l.map (B.eA i))
 | .map q i l=>.map q (B.k i) (l.map (B.eA i))
def BH.av (B:Tb T) (H:BH T):AH:=⟨H.box.map (BV.avs B),H.buf.map (BB.av B)⟩
end
abbrev SE (T:Nat→Type):=List (Nat×BV T)
section
variable {T:Nat→Type}
def lk:SE T→Nat→BV T
 | [],_=>.raw .any
 | (m,v)::r,n=>match Nat.beq m n with
   | true=>v
   | false=>lk r n
def cbv1:AV→BV T
 | .v (.int k n)=>.int k n
 | .v (.bool b)=>.bool b
 | .v (.string s)=>.str s.data.toList
 | .v (.float k n)=>.flt k n
 | .emp=>.emp
 | x=>.raw x
def cbv:AV→BV T
 | .agg cs=>.agg (cs.map cbv1)
 | .fn f [] []=>.fn f [] []
 | x=>cbv1 x
def bod (e:SE T):Od→BV T
 | .t n=>lk e n
 | .c x=>cbv x
def putE (e:SE T):Option Nat→BV T→SE T
 | some d,v=>(d,v)::e
 | none,_=>e
def BV.cells:BV T→List (BV T)
 | .agg cs=>cs
 | .raw x=>match x with
   | .agg cs=>cs.map .raw
   | x=>[.raw x]
 | x=>[x]
def BV.one:BV T→Bool
 | .raw x=>x.one
 | .agg _ | .tup _=>false
 | _=>true
def onesB (cs:List (BV T)):Bool:=cs.all BV.one
def mkB (ag:Bool) (cs:List (BV T)):BV T:=match ag with
 | true=>.agg cs
 | false=>cs.headD (.raw .any)
def putB (cs:List (BV T)) (o:Nat):List (BV T)→List (BV T)
 | []=>cs
 | x::xs=>putB (cs.set o x) (o+1) xs
def castR (j i:Nat) (l:List (T j)):Option (List (T i)):=if h:j=i then some (h ▸ l) else none
def asInt (k:IntKind):BV T→Option Int
 | .int k' n=>if k'=k then some n else none
 | _=>none
def asBool:BV T→Option Bool
 | .bool b=>some b
 | _=>none
def asStr:BV T→Option (List UInt8)
 | .str s=>some s
 | _=>none
def asFlt (k:FloatKind):BV T→Option Nat
 | .flt k' n=>if k'=k then some n else none
 | _=>none
def asRow (i:Nat):BV T→Option (List (T i))
 | .sl j l=>castR j i l
 | .emp=>some []
 | _=>none
def P1 {α X:Type} (d:BV T→Option α) (f:α→List (BV T)→Option X):List (BV T)→Option X
 | c::cs=>(d c).bind fun a=>f a cs
 | []=>none
def P0 {X:Type} (x:X):List (BV T)→Option X
 | []=>some x
 | _=>none
variable {R:Type} (B:Tb T)
def gd (p:Bool) (x:Option R):Option R:=cond p x none
def leB:Int→Int→Bool
 | .ofNat a,.ofNat b=>Nat.ble a b
 | .ofNat _,.negSucc _=>false
 | .negSucc _,.ofNat _=>true
 | .negSucc a,.negSucc b=>Nat.ble b a
def ltB (a b:Int):Bool:=!(leB b a)
def i64b (n:Int):Bool:=leB (-9223372036854775808) n&&leB n 9223372036854775807
def biI (op:BinOp) (wr:Bool) (k:IntKind) (a b:Int) (K:BV T→Option R):Option R:=
 match op with
 | .add=>match k,wr with
   | .i64,false=>gd (i64b (a+b)) (K (.int .i64 (a+b)))
   | k,_=>K (.int k (k.wrap (a+b)))
 | .sub=>match k,wr with
   | .i64,false=>gd (i64b (a - b)) (K (.int .i64 (a - b)))
   | k,_=>K (.int k (k.wrap (a - b)))
 | .mul=>match k,wr with
   | .i64,false=>gd (i64b (a * b)) (K (.int .i64 (a * b)))
   | k,_=>K (.int k (k.wrap (a * b)))
 | .quo=>gd (b != 0) (K (.int k (k.wrap (a.tdiv b))))
 | .rem=>gd (b != 0) (K (.int k (a.tmod b)))
 | .and=>K (.int k (k.wrap (BitVec.ofInt k.bits a &&& BitVec.ofInt k.bits b).toNat))
 | .or=>K (.int k (k.wrap (BitVec.ofInt k.bits a ||| BitVec.ofInt k.bits b).toNat))
 | .xor=>K (.int k (k.wrap (BitVec.ofInt k.bits a ^^^ BitVec.ofInt k.bits b).toNat))
 | .andNot=>K (.int k (k.wrap (BitVec.ofInt k.bits a &&& ~~~ BitVec.ofInt k.bits b).toNat))
 | .shl=>gd (leB 0 b) (K (.int k (k.wrap (a * 2 ^ (min b.toNat k.bits)))))
 | .shr=>gd (leB 0 b) (K (.int k (a.fdiv (2 ^ (min b.toNat k.bits)))))
 | .eql=>K (.bool (a==b))
 | .neq=>K (.bool (a != b))
 | .lss=>K (.bool (ltB a b))
 | .leq=>K (.bool (leB a b))
 | .gtr=>K (.bool (ltB b a))
 | .geq=>K (.bool (leB b a))
def biS (op:BinOp) (x y:List UInt8) (K:BV T→Option R):Option R:=
 match op with
 | .add=>gd (Nat.ble (x.length+y.length) 9223372036854775807) (K (.str (x++y)))
 | .eql=>K (.bool (x==y))
 | .neq=>K (.bool (!(x==y)))
 | .lss=>K (.bool (Op.bytesLess x y))
 | .leq=>K (.bool (Op.bytesLess x y || x==y))
 | .gtr=>K (.bool (!(Op.bytesLess x y || x==y)))
 | .geq=>K (.bool (!Op.bytesLess x y))
 | _=>none
def isShift:BinOp→Bool
 | .shl | .shr=>true
 | _=>false
def binS' (op:BinOp) (wr:Bool) (x y:BV T) (K:BV T→Option R):Option R:=
 match x,y with
 | .int k a,.int k' b=>match isShift op || decide (k=k') with
   | true=>biI op wr k a b K
   | false=>none
 | .str a,.str b=>biS op a b K
 | _,_=>none
def neS (ne:Bool) (b:Bool):Bool:=match ne with
 | true=>!b
 | false=>b
def eqL1 (k:EK) (x y:BV T):Option Bool:=
 match k,x,y with
 | .i k,.int k1 a,.int k2 b=>if k1=k∧k2=k then some (a==b) else none
 | .s,.str a,.str b=>some (a==b)
 | .b,.bool a,.bool b=>some (a==b)
 | _,_,_=>none
def eqLs:List (Nat×EK)→List (BV T)→List (BV T)→Option Bool
 | [],_,_=>some true
 | [(o,k)],xs,ys=>eqL1 k (xs.getD o (.raw .any)) (ys.getD o (.raw .any))
 | (o,k)::l,xs,ys=>match eqL1 k (xs.getD o (.raw .any)) (ys.getD o (.raw .any)),eqLs l xs ys with
   | some b,some r=>some (b&&r)
   | _,_=>none
def optK (x:Option (BV T)) (K:BV T→Option R):Option R:=match x with
 | some v=>K v
 | none=>none
def eqiB (ne c:Bool):BV T→BV T→Option (BV T)
 | .raw (.v .nilIface),.raw (.v .nilIface)=>match c with
   | true=>some (.bool (neS ne true))
   | false=>none
 | .ifc _ _,.raw (.v .nilIface)=>some (.bool (neS ne false))
 | .raw (.v .nilIface),.ifc _ _=>some (.bool (neS ne false))
 | _,_=>none
def eqpB (ne:Bool):BV T→BV T→Option (BV T)
 | .raw (.v (.pointer none)),.raw (.v (.pointer none))=>some (.bool (neS ne true))
 | .ptr _ _,.raw (.v (.pointer none))=>some (.bool (neS ne false))
 | .eptr _ _ _ _,.raw (.v (.pointer none))=>some (.bool (neS ne false))
 | .dptr _,.raw (.v (.pointer none))=>some (.bool (neS ne false))
 | .ptr b o,.ptr b' o'=>match Nat.beq b b'&&Nat.beq o o' with
   | true=>some (.bool (neS ne true))
   | false=>none
 | _,_=>none
def bufA (H:BH T) (t:Nat):BB T:=H.buf.getD t .dead
def lenB' (H:BH T) (st:Bool):BV T→Option (BV T)
 | .str s=>match st with
   | true=>some (.int .i64 (s.length:Int))
   | false=>none
 | .sl _ l=>match st with
   | true=>none
   | false=>some (.int .i64 (l.length:Int))
 | .emp=>match st with
   | true=>none
   | false=>some (.int .i64 0)
 | .own u=>match st,bufA H u with
   | false,.live _ l=>some (.int .i64 (l.length:Int))
   | false,.froz _ l=>some (.int .i64 (l.length:Int))
   | _,_=>none
 | _=>none
def fillS (e:SE T) (cs:List (BV T)):List (Nat×Nat×Od)→Option (List (BV T))
 | []=>some cs
 | (o,n,x)::ps=>match Nat.beq (bod e x).cells.length n&&onesB (bod e x).cells&&Nat.ble (o+n) cs.length with
   | true=>fillS e (putB cs o (bod e x).cells) ps
   | false=>none
def frzBB:BB T→BB T
 | .live i l=>.froz i l
 | b=>b
def frzHB (H:BH T) (ts:List Nat):BH T:=⟨H.box,ts.foldl (fun buf t=>buf.set t (frzBB (buf.getD t .dead))) H.buf⟩
def own1B:BV T→List Nat
 | .own t=>[t]
 | .raw x=>own1 x
 | _=>[]
def ownsB:BV T→List Nat
 | .agg cs=>cs.flatMap own1B
 | .raw x=>owns x
 | x=>own1B x
def frz1S (H:BH T):BV T→BV T
 | .own t=>match bufA H t with
   | .froz i l=>.sl i l
   | _=>.own t
 | .raw x=>.raw (frz1 (H.av B) x)
 | x=>x
def frzS' (H:BH T):BV T→BV T
 | .agg cs=>.agg (cs.map (frz1S B H))
 | .raw x=>.raw (frz (H.av B) x)
 | x=>frz1S B H x
def keyB:List IntKind→List (BV T)→Option (List Int)
 | [],[]=>some []
 | k::q,.int k' n::cs=>if k'=k then (keyB q cs).map (n::·) else none
 | _,_=>none
def kwB:List IntKind→List Int→Bool
 | k::q,n::ns=>leB k.min n&&(leB n k.max&&kwB q ns)
 | _,_=>true
def numB (k:IntKind) (n:Int):BV T→Bool
 | .int k' m=>if k'=k then m==n else false
 | .raw (.v (.int k' m))=>if k'=k then m==n else false
 | _=>false
def samK:List IntKind→List Int→List (BV T)→Bool
 | k::q,n::ns,c::cs=>match q with
   | []=>numB k n c
   | _=>numB k n c&&samK q ns cs
 | _,_,_=>false
def allI:List (BV T)→Bool
 | []=>true
 | .int _ _::cs=>allI cs
 | _=>false
def mup {α:Type} (p:α→Bool) (y:α):List α→List α
 | []=>[y]
 | x::l=>cond (p x) (y::l) (x::mup p y l)
def mcs {α R:Type} (o:Option α) (x:Option R) (f:α→Option R):Option R:=match o with
 | some a=>f a
 | none=>x
def isAgB:BV T→Bool
 | .agg _=>true
 | .raw x=>match x with
   | .agg _=>true
   | _=>false
 | _=>false
def decL (i:Nat):List (BV T)→Option (List (T i))
 | []=>some []
 | x::xs=>match Bool.xor (isAgB x) (B.ag i),B.dec i x.cells,decL i xs with
   | false,some a,some l=>some (a::l)
   | _,_,_=>none
def srcS (H:BH T):BV T→Option ((i:Nat)×List (T i))
 | .sl i l=>some ⟨i,l⟩
 | .own u=>match bufA H u with
   | .live i l=>some ⟨i,l⟩
   | .froz i l=>some ⟨i,l⟩
   | _=>none
 | _=>none
def appJ (i by_:Nat) (xs:List (T i)) (H:BH T) (buf:List (BB T)) (ys:List (T i)) (K:BV T→BH T→Option R):Option R:=
 match Nat.blt 0 by_ with
 | true=>gd (Nat.ble ((xs.length+ys.length) * by_) 140737488355328) (K (.own H.buf.length) ⟨H.box,buf++[.live i (xs++ys)]⟩)
 | false=>none
def appS (sb:Nat→Option (List UInt8→(i:Nat)×List (T i))) (k by_:Nat) (H:BH T) (x y:BV T) (K:BV T→BH T→Option R):Option R:=
 match x with
 | .emp=>match y with
   | .emp=>none
   | .str s=>match sb k with
     | some f=>match f s with
       | ⟨i,ys⟩=>appJ i by_ [] H H.buf ys K
     | none=>none
   | y=>match srcS H y with
     | some ⟨i,ys⟩=>match Nat.beq (B.k i) k with
       | true=>appJ i by_ [] H H.buf ys K
       | false=>none
     | none=>none
 | .own u=>match bufA H u with
   | .live i xs=>match Nat.beq (B.k i) k with
     | true=>match y with
       | .emp=>appJ i by_ xs H (H.buf.set u .dead) [] K
       | .str s=>match sb k with
         | some f=>match f s with
           | ⟨j,ys⟩=>match castR j i ys with
             | some ys=>appJ i by_ xs H (H.buf.set u .dead) ys K
             | none=>none
         | none=>none
       | y=>match srcS H y with
         | some ⟨j,ys⟩=>match castR j i ys with
           | some ys=>appJ i by_ xs H (H.buf.set u .dead) ys K
           | none=>none
         | none=>none
     | false=>none
   | _=>none
 | _=>none
def bndS (e:SE T) (n:Int):Option Od→Option Int
 | none=>some n
 | some x=>match bod e x with
   | .int _ m=>some m
   | _=>none
def cutL {α:Type} (l:List α) (lo hi:Option Int):List α:=
 match lo,hi with
 | none,none=>l
 | none,some h=>l.take h.toNat
 | some a,none=>l.drop a.toNat
 | some a,some h=>(l.take h.toNat).drop a.toNat
def bndO (e:SE T):Option Od→Option (Option Int)
 | none=>some none
 | some x=>match bod e x with
   | .int _ m=>some (some m)
   | _=>none
def cutS (lo hi:Option Int) (n:Int) (x:Option R):Option R:=
 match lo,hi with
 | none,none=>x
 | none,some h=>gd (leB 0 h) (gd (leB h n) x)
 | some a,none=>gd (leB 0 a) (gd (leB a n) x)
 | some a,some h=>gd (leB 0 a) (gd (leB a h) (gd (leB h n) x))
def slcS (e:SE T) (H:BH T) (dr st:Bool) (k:Nat) (x:BV T) (lo hi mx:Option Od) (K:BV T→BH T→Option R):Option R:=
 match mx with
 | some m=>match m,x,st with
   | .c (.v (.int _ 0)),.sl _ _,false=>match bndS e 0 lo,bndS e 1 hi with
     | some 0,some 0=>K .emp H
     | _,_=>none
   | .c (.v (.int _ 0)),.emp,false=>match bndS e 0 lo,bndS e 1 hi with
     | some 0,some 0=>K .emp H
     | _,_=>none
   | _,_,_=>none
 | none=>match bndO e lo,bndO e hi with
   | some a,some h=>match x with
     | .str s=>match st with
       | true=>cutS a h (s.length:Int) (K (.str (cutL s a h)) H)
       | false=>none
     | .sl i l=>match !st&&Nat.beq (B.k i) k with
       | true=>cutS a h (l.length:Int) (K (.sl i (cutL l a h)) H)
       | false=>none
     | .emp=>match st with
       | true=>none
       | false=>cutS a h 0 (K .emp H)
     | .own u=>match bufA H u with
       | .froz i l=>match !st&&Nat.beq (B.k i) k with
         | true=>cutS a h (l.length:Int) (K (.sl i (cutL l a h)) H)
         | false=>none
       | .live i l=>match !st&&Nat.beq (B.k i) k&&!dr with
         | true=>cutS a h (l.length:Int) (K (.sl i (cutL l a h)) (frzHB H [u]))
         | false=>none
       | _=>none
     | _=>none
   | _,_=>none
structure Hint (T:Nat→Type) where
 bt:List (Nat×Nat)
 mks:List (TypeId×((i:Nat)×T i×Nat))
 sb:Nat→Option (List UInt8→(i:Nat)×List (T i))
 bo:(i:Nat)→List (T i)→Option (List UInt8)
def hintOf:List (Nat×Nat)→Nat→Option Nat
 | [],_=>none
 | (m,i)::r,n=>match Nat.beq m n with
   | true=>some i
   | false=>hintOf r n
def xZoQ (e:SE T) (H:BH T) (d:Option Nat) (ty:TypeId) (x:Od) (K:SE T→BH T→Option R):Option R:=
 match B.fo ty with
 | some i=>match B.fd i ty (bod e x) with
   | some y=>K (putE e d (.tr i y)) H
   | none=>none
 | none=>K (putE e d (.ifc ty (bod e x))) H
def xZas (e:SE T) (H:BH T) (d:Option Nat) (x:Od) (K:SE T→BH T→Option R):Option R:=
 match onesB (bod e x).cells with
 | true=>K (putE e d (.ptr H.box.length 0)) ⟨H.box++[(bod e x).cells],H.buf⟩
 | false=>none
def xZ5e (e:SE T) (H:BH T) (d:Option Nat) (zs:List AV) (K:SE T→BH T→Option R):Option R:=
 match onesB (zs.map (cbv1 (T:=T))) with
 | true=>K (putE e d (.ptr H.box.length 0)) ⟨H.box++[zs.map cbv1],H.buf⟩
 | false=>none
def xZ5f (e:SE T) (H:BH T) (d:Option Nat) (zs:List AV) (ps:List (Nat×Nat×Od)) (K:SE T→BH T→Option R):Option R:=
 match onesB (zs.map (cbv1 (T:=T))),fillS e (zs.map cbv1) ps with
 | true,some cs=>K (putE e d (.agg cs)) H
 | _,_=>none
def hintD (h:Hint T) (d:Nat):Bool:=match hintOf h.bt (d+1000000) with
 | some _=>true
 | none=>false
def hintS (h:Hint T):Option Nat→Bool
 | some d=>match hintOf h.bt (d+4000000) with
   | some _=>true
   | none=>false
 | none=>false
def xZoR (h:Hint T) (dr:Bool) (e:SE T) (H:BH T) (d:Option Nat) (st:Bool) (k:Nat) (x:Od) (lo hi mx:Option Od) (K:SE T→BH T→Option R):Option R:=
 match hintS h d with
 | false=>slcS B e H dr st k (bod e x) lo hi mx fun v H=>K (putE e d v) H
 | true=>match lo,hi,mx with
   | none,some z,none=>match bod e x,bod e z with
     | .own u,.int _ n=>match bufA H u with
       | .live i l=>match !st&&Nat.beq (B.k i) k&&!dr with
         | true=>gd (leB 0 n) (gd (leB n (l.length:Int)) (K (putE e d (.own H.buf.length)) ⟨H.box,H.buf.set u .dead++[.live i (l.take n.toNat)]⟩))
         | false=>none
       | _=>none
     | _,_=>none
   | _,_,_=>none
def xZat (h:Hint T) (dr:Bool) (e:SE T) (H:BH T) (d:Option Nat) (k:Nat) (ps:List Od) (K:SE T→BH T→Option R):Option R:=
 match d with
 | some d=>match hintOf h.bt d with
   | some i=>match Nat.beq (B.k i) k with
     | true=>match dr || hintD h d with
       | true=>match decL B i (ps.map (bod e)) with
         | some l=>K ((d,.sl i l)::e) H
         | none=>none
       | false=>
         let H1:=frzHB H ((ps.map (bod e)).flatMap ownsB)
         match decL B i (ps.map fun x=>frzS' B H1 (bod e x)) with
         | some l=>K ((d,.own H.buf.length)::e) ⟨H1.box,H1.buf++[.live i l]⟩
         | none=>none
     | false=>none
   | none=>none
 | none=>none
def hintI (h:Hint T):Option Nat→Option Nat
 | some d=>hintOf h.bt (d+2000000)
 | none=>none
def ieq (a b:Int):Bool:=leB a b&&leB b a
def decM (i:Nat):Nat→List (BV T)→Option (List (T i))
 | 0,_=>some []
 | m+1,cs=>match B.dec i (cs.take (B.k i)),decM i m (cs.drop (B.k i)) with
   | some a,some l=>some (a::l)
   | _,_=>none
def setM {i:Nat} (n:Int) (v:T i):Nat→List (T i)→List (T i)
 | _,[]=>[]
 | j,x::l=>cond (ieq n (Int.ofNat j)) v x::setM n v (j+1) l
def encM (i:Nat):List (T i)→List (BV T)→List (BV T)
 | [],r=>r
 | x::l,r=>B.enc i x++encM i l r
def pofA:List (Nat×Nat×Int×Nat)→Nat→List (Nat×Nat×Int×Nat)
 | [],_=>[]
 | [(i,m,n,f)],x=>[(i,m,n,f+x)]
 | a::p,x=>a::pofA p x
def ldM:List (Nat×Nat×Int×Nat)→List (BV T)→(List (BV T)→Option R)→Option R
 | [],cs,K=>K cs
 | (i,m,n,f)::p,cs,K=>match Nat.ble f (B.k i),decM B i m cs with
   | true,some l=>(ix l n).bind fun el=>ldM p ((B.enc i el).drop f) K
   | _,_=>none
def stM (ys:List (BV T)):List (Nat×Nat×Int×Nat)→List (BV T)→(List (BV T)→Option R)→Option R
 | [],cs,K=>match Nat.ble ys.length cs.length with
   | true=>K (putB cs 0 ys)
   | false=>none
 | (i,m,n,f)::p,cs,K=>match Nat.ble f (B.k i),decM B i m cs with
   | true,some l=>(ix l n).bind fun el=>stM ys p ((B.enc i el).drop f) fun c'=>match B.dec i ((B.enc i el).take f++c') with
     | some el'=>K (encM B i (setM n el' 0 l) (cs.drop (m * B.k i)))
     | none=>none
   | _,_=>none
def op_ld (e:SE T) (H:BH T) (d:Option Nat) (n:Nat) (ag:Bool) (x:Od) (K:SE T→BH T→Option R):Option R:=
 match bod e x with
 | .ptr b o=>match H.box[b]? with
   | some cs=>match Nat.ble (o+n) cs.length with
     | true=>K (putE e d (mkB ag ((cs.drop o).take n))) H
     | false=>none
   | none=>none
 | .dptr cs=>match Nat.ble n cs.length with
   | true=>K (putE e d (mkB ag (cs.take n))) H
   | false=>none
 | .eptr t i m o=>match bufA H t with
   | .live j l=>match Nat.beq (B.k i) (B.k j)&&Nat.ble (o+n) (B.k j) with
     | true=>(ix l m).bind fun el=>K (putE e d (mkB ag (((B.enc j el).drop o).take n))) H
     | false=>none
   | .froz j l=>match Nat.beq (B.k i) (B.k j)&&Nat.ble (o+n) (B.k j) with
     | true=>(ix l m).bind fun el=>K (putE e d (mkB ag (((B.enc j el).drop o).take n))) H
     | false=>none
   | _=>none
 | .aptr b o p=>match H.box[b]? with
   | some cs=>ldM B p (cs.drop o) fun c'=>match Nat.ble o cs.length&&Nat.ble n c'.length with
     | true=>K (putE e d (mkB ag (c'.take n))) H
     | false=>none
   | none=>none
 | _=>none
def op_st (e:SE T) (H:BH T) (d:Option Nat) (n:Nat) (x:Od) (y:Od) (K:SE T→BH T→Option R):Option R:=
 match bod e x with
 | .ptr b o=>match H.box[b]? with
   | some cs=>match Nat.beq (bod e y).cells.length n&&onesB (bod e y).cells&&Nat.ble (o+n) cs.length with
     | true=>K (putE e d (.raw (.v undef))) ⟨H.box.set b (putB cs o (bod e y).cells),H.buf⟩
     | false=>none
   | none=>none
 | .eptr t i m o=>match bufA H t with
   | .live j l=>
     let ys:=(frzS' B H (bod e y)).cells
     match Nat.beq (B.k i) (B.k j)&&Nat.ble (o+n) (B.k j)&&Nat.beq ys.length n&&Nat.blt 0 n with
     | true=>(ix l m).bind fun el=>match B.dec j (putB (B.enc j el) o ys) with
       | some el'=>K (putE e d (.raw (.v undef))) ⟨H.box,H.buf.set t (.live j (l.set m.toNat el'))⟩
       | none=>none
     | false=>none
   | _=>none
 | .aptr b o p=>match H.box[b]? with
   | some cs=>match Nat.beq (bod e y).cells.length n&&onesB (bod e y).cells&&Nat.ble o cs.length with
     | true=>stM B (bod e y).cells p (cs.drop o) fun c'=>K (putE e d (.raw (.v undef))) ⟨H.box.set b (cs.take o++c'),H.buf⟩
     | false=>none
   | none=>none
 | _=>none
def op_fa (e:SE T) (H:BH T) (d:Option Nat) (off:Nat) (x:Od) (K:SE T→BH T→Option R):Option R:=
 match bod e x with
 | .ptr b o=>K (putE e d (.ptr b (o+off))) H
 | .dptr cs=>match Nat.ble off cs.length with
   | true=>K (putE e d (.dptr (cs.drop off))) H
   | false=>none
 | .eptr t i m o=>K (putE e d (.eptr t i m (o+off))) H
 | .aptr b o (q::p)=>K (putE e d (.aptr b o (pofA (q::p) off))) H
 | _=>none
def xZaB (e:SE T) (H:BH T) (d:Option Nat) (off:Nat) (n:Nat) (ag:Bool) (x:Od) (K:SE T→BH T→Option R):Option R:=
 match bod e x with
 | .agg cs=>match Nat.ble (off+n) cs.length with
   | true=>K (putE e d (mkB ag ((cs.drop off).take n))) H
   | false=>none
 | _=>none
def op_ia (e:SE T) (H:BH T) (d:Option Nat) (k:Nat) (x:Od) (i:Od) (K:SE T→BH T→Option R):Option R:=
 match bod e x,bod e i with
 | .sl j l,.int _ n=>match Nat.beq (B.k j) k with
   | true=>(ix l n).bind fun el=>K (putE e d (.dptr (B.enc j el))) H
   | false=>none
 | .own u,.int _ n=>match bufA H u with
   | .live j l=>match Nat.beq (B.k j) k with
     | true=>(ix l n).bind fun _=>K (putE e d (.eptr u j n 0)) H
     | false=>none
   | .froz j l=>match Nat.beq (B.k j) k with
     | true=>(ix l n).bind fun el=>K (putE e d (.dptr (B.enc j el))) H
     | false=>none
   | _=>none
 | _,_=>none
def xZ9J (h:Hint T) (e:SE T) (H:BH T) (d:Option Nat) (m:Nat) (k:Nat) (x:Od) (i:Od) (K:SE T→BH T→Option R):Option R:=
 match hintI h d with
 | some j=>match Nat.beq (B.k j) k,bod e x,bod e i with
   | true,.ptr b o,.int _ n=>gd (leB 0 n) (gd (ltB n (m:Int)) (K (putE e d (.aptr b o [(j,m,n,0)])) H))
   | true,.aptr b o p,.int _ n=>gd (leB 0 n) (gd (ltB n (m:Int)) (K (putE e d (.aptr b o (p++[(j,m,n,0)]))) H))
   | true,.dptr cs,.int _ n=>gd (leB 0 n) (gd (ltB n (m:Int)) (match decM B j m cs with
     | some l=>(ix l n).bind fun el=>K (putE e d (.dptr (B.enc j el))) H
     | none=>none))
   | _,_,_=>none
 | none=>match bod e x,bod e i with
 | .ptr b o,.int _ n=>gd (leB 0 n) (gd (ltB n (m:Int)) (K (putE e d (.ptr b (o+n.toNat * k))) H))
 | .dptr cs,.int _ n=>gd (leB 0 n) (gd (ltB n (m:Int)) (match Nat.ble (n.toNat * k) cs.length with
   | true=>K (putE e d (.dptr (cs.drop (n.toNat * k)))) H
   | false=>none))
 | _,_=>none
def op_ix (e:SE T) (H:BH T) (d:Option Nat) (x:Od) (i:Od) (K:SE T→BH T→Option R):Option R:=
 match bod e x,bod e i with
 | .str s,.int _ n=>(ix s n).bind fun c=>K (putE e d (.int .u8 (c.toNat:Int))) H
 | _,_=>none
def xZaC (e:SE T) (H:BH T) (d:Option Nat) (st:Bool) (x:Od) (K:SE T→BH T→Option R):Option R:=optK (lenB' H st (bod e x)) fun v=>K (putE e d v) H
def xZar (e:SE T) (H:BH T) (d:Option Nat) (op:BinOp) (wr:Bool) (x:Od) (y:Od) (K:SE T→BH T→Option R):Option R:=binS' op wr (bod e x) (bod e y) fun v=>K (putE e d v) H
def xZaz (e:SE T) (H:BH T) (d:Option Nat) (ne:Bool) (ls:List (Nat×EK)) (x:Od) (y:Od) (K:SE T→BH T→Option R):Option R:=
 match bod e x,bod e y with
 | .agg xs,.agg ys=>match eqLs ls xs ys with
   | some b=>K (putE e d (.bool (neS ne b))) H
   | none=>none
 | _,_=>none
def xZaw (e:SE T) (H:BH T) (d:Option Nat) (ne:Bool) (x:Od) (y:Od) (K:SE T→BH T→Option R):Option R:=
 match bod e x,bod e y with
 | .bool a,.bool b=>K (putE e d (.bool (neS ne (a==b)))) H
 | _,_=>none
def xZax (e:SE T) (H:BH T) (d:Option Nat) (ne:Bool) (c:Bool) (x:Od) (y:Od) (K:SE T→BH T→Option R):Option R:=optK (eqiB ne c (bod e x) (bod e y)) fun v=>K (putE e d v) H
def xZay (e:SE T) (H:BH T) (d:Option Nat) (ne:Bool) (x:Od) (y:Od) (K:SE T→BH T→Option R):Option R:=optK (eqpB ne (bod e x) (bod e y)) fun v=>K (putE e d v) H
def op_un (e:SE T) (H:BH T) (d:Option Nat) (op:UnOp) (x:Od) (K:SE T→BH T→Option R):Option R:=
 match op,bod e x with
 | .not,.bool a=>K (putE e d (.bool (!a))) H
 | .neg,.int k a=>K (putE e d (.int k (k.wrap (0 - a)))) H
 | .xor,.int k a=>K (putE e d (.int k (k.wrap (BitVec.ofInt k.bits (if k.signed then -1 else k.max) ^^^ BitVec.ofInt k.bits a).toNat))) H
 | _,_=>none
def xZau (e:SE T) (H:BH T) (d:Option Nat) (k:IntKind) (x:Od) (K:SE T→BH T→Option R):Option R:=
 match bod e x with
 | .int _ a=>K (putE e d (.int k (k.wrap a))) H
 | _=>none
def xZav (e:SE T) (H:BH T) (d:Option Nat) (x:Od) (K:SE T→BH T→Option R):Option R:=
 match bod e x with
 | .str s=>K (putE e d (.str s)) H
 | _=>none
def xZaA (e:SE T) (H:BH T) (d:Option Nat) (i:Nat) (x:Od) (K:SE T→BH T→Option R):Option R:=
 match bod e x with
 | .tup cs=>match Nat.blt i cs.length with
   | true=>K (putE e d (cs.getD i (.raw .any))) H
   | false=>none
 | _=>none
def xZ7E (e:SE T) (H:BH T) (d:Option Nat) (c:Od) (a:Od) (b:Od) (K:SE T→BH T→Option R):Option R:=
 match bod e c with
 | .bool c=>cond c (K (putE e d (bod e a)) H) (K (putE e d (bod e b)) H)
 | _=>none
def xZaq (h:Hint T) (e:SE T) (H:BH T) (d:Option Nat) (k:Nat) (by_:Nat) (x:Od) (y:Od) (K:SE T→BH T→Option R):Option R:=appS B h.sb k by_ H (bod e x) (bod e y) fun v H=>K (putE e d v) H
variable (h:Hint T)
def opS (dr:Bool) (e:SE T) (H:BH T) (d:Option Nat) (o:SO) (K:SE T→BH T→Option R):Option R:=
 match o with
 | .mov x=>K (putE e d (bod e x)) H
 | .box x=>xZas e H d x K
 | .alloc zs=>xZ5e e H d zs K
 | .build zs ps=>xZ5f e H d zs ps K
 | .bsl k ps=>xZat B h dr e H d k ps K
 | .ld n ag x=>op_ld B e H d n ag x K
 | .st n x y=>op_st B e H d n x y K
 | .fa off x=>op_fa e H d off x K
 | .fld off n ag x=>xZaB e H d off n ag x K
 | .ia k x i=>op_ia B e H d k x i K
 | .iaa m k x i=>xZ9J B h e H d m k x i K
 | .ix x i=>op_ix e H d x i K
 | .len st x=>xZaC e H d st x K
 | .lenc n=>K (putE e d (.int .i64 n)) H
 | .bin op wr x y=>xZar e H d op wr x y K
 | .eqs ne ls x y=>xZaz e H d ne ls x y K
 | .eqb ne x y=>xZaw e H d ne x y K
 | .eqi ne c x y=>xZax e H d ne c x y K
 | .eqp ne x y=>xZay e H d ne x y K
 | .un op x=>op_un e H d op x K
 | .cvi k x=>xZau e H d k x K
 | .cvs x=>xZav e H d x K
 | .ext i x=>xZaA e H d i x K
 | .pick c a b=>xZ7E e H d c a b K
 | .app k by_ x y=>xZaq B h e H d k by_ x y K
 | .slc st k x lo hi mx=>xZoR B h dr e H d st k x lo hi mx K
 | .mki ty x=>xZoQ B e H d ty x K
 | .fnv f a b=>K (putE e d (.fn f (a.map (bod e)) (b.map (bod e)))) H
 | .call _ _=>none
 | .callv _ _=>none
 | .raw _ _=>none
end
end Go.Proofs.YtmfkphajohcklaaGreat.O
namespace Go.Proofs.YtmfkphajohcklaaGreat.O
open Go
section
variable {T:Nat→Type}
theorem xZ5B (B:Tb T):∀ l:List (BV T),BV.avs B l=l.map (BV.av B)
 | []=>by simp [BV.avs]
 | x::l=>by simp [BV.avs,xZ5B B l]
def SE.av (B:Tb T) (nt:Nat) (e:SE T):List AV:=(List.range nt).map fun i=>(lk e i).av B
mutual
inductive LW:AV→AV→Prop
 | refl (x:AV):LW x x
 | emp (k:Nat):LW .emp (.sl k [])
 | sl (k:Nat) {a b:List AV} (h:LWs a b):LW (.sl k a) (.sl k b)
 | agg {a b:List AV} (h:LWs a b):LW (.agg a) (.agg b)
 | tup {a b:List AV} (h:LWs a b):LW (.tup a) (.tup b)
 | dptr {a b:List AV} (h:LWs a b):LW (.dptr a) (.dptr b)
 | fn (f:Fn) {a b c d:List AV} (h:LWs a b) (h':LWs c d):LW (.fn f a c) (.fn f b d)
 | ifc (t:TypeId) {x y:AV} (h:LW x y):LW (.ifc t x) (.ifc t y)
inductive LWs:List AV→List AV→Prop
 | nil:LWs [] []
 | cons {x y:AV} {a b:List AV} (h:LW x y) (r:LWs a b):LWs (x::a) (y::b)
end
theorem LWs.refl:∀ l:List AV,LWs l l
 | []=>.nil
 | x::l=>.cons (.refl x) (LWs.refl l)
theorem LWs.len:∀ {a b:List AV},LWs a b→a.length=b.length
 | _,_,.nil=>rfl
 | _,_,.cons _ r=>by simp [LWs.len r]
theorem LWs.append:∀ {a b c d:List AV},LWs a b→LWs c d→LWs (a++c) (b++d)
 | _,_,_,_,.nil,h=>h
 | _,_,_,_,.cons h r,q=>.cons h (LWs.append r q)
theorem LWs.get:∀ {a b:List AV},LWs a b→∀ i,LW (a.getD i .any) (b.getD i .any)
 | _,_,.nil,i=>by simp;exact .refl _
 | _,_,.cons h r,0=>by simpa using h
 | _,_,.cons h r,i+1=>by simpa using LWs.get r i
theorem LW.one {x y:AV} (h:LW x y):x.one=y.one:=by cases h<;>rfl
theorem LWs.ones:∀ {a b:List AV},LWs a b→ones a=ones b
 | _,_,.nil=>rfl
 | _,_,.cons h r=>by
   have:=LWs.ones r
   simp only [Go.Proofs.YtmfkphajohcklaaGreat.O.ones,List.all_cons] at this ⊢
   rw [h.one,this]
theorem LW.cells {x y:AV} (h:LW x y):LWs x.cells y.cells:=by
 cases h with
 | refl=>exact .refl _
 | emp k=>exact .cons (.emp k) .nil
 | sl k h=>exact .cons (.sl k h) .nil
 | agg h=>exact h
 | tup h=>exact .cons (.tup h) .nil
 | dptr h=>exact .cons (.dptr h) .nil
 | fn f h h'=>exact .cons (.fn f h h') .nil
 | ifc t h=>exact .cons (.ifc t h) .nil
section
variable {S:Nat→Prop} {w:World}
mutual
theorem LW.drep:∀ {x y:AV},LW x y→∀ {v},DRep S w v x→DRep S w v y
 | _,_,.refl _,_,h=>h
 | _,_,.emp k,_,h=>by cases h with | emp a=>exact .sl0 a 0 k
 | _,_,.sl k h,_,hv=>by
   cases hv with
   | sl0 a cap _=>have:=h.len;cases h;exact .sl0 a cap k
   | sl g o cap _ xs c T fz hc hs hg hb hk h1 q=>
     have hl:=h.len
     rw [hl]
     refine .sl g o cap k _ c T fz (by rw [← hl];exact hc) hs hg (by rw [← hl];exact hb) (fun i hi=>?_) (fun i hi j hj=>?_) fun i hi j hj=>?_
     ·rw [← (h.get i).cells.len];exact hk i (by rw [hl];exact hi)
     ·rw [← ((h.get i).cells.get j).one];exact h1 i (by rw [hl];exact hi) j hj
     ·exact LWs.drep2 h i (by rw [hl];exact hi) j (by rw [hk i (by rw [hl];exact hi)];exact hj) (q i (by rw [hl];exact hi) j hj)
 | _,_,.agg h,_,hv=>by
   cases hv with
   | agg vs _ hn q=>exact .agg vs _ (hn.trans h.len) fun i hi=>LWs.drep h i (by rw [h.len];exact hi) (q i (by rw [h.len];exact hi))
 | _,_,.tup h,_,hv=>by
   cases hv with
   | tup vs _ hn q=>exact .tup vs _ (hn.trans h.len) fun i hi=>LWs.drep h i (by rw [h.len];exact hi) (q i (by rw [h.len];exact hi))
 | _,_,.dptr h,_,hv=>by
   cases hv with
   | dptr g o cs c T fz hs hg hb h1 q=>
     exact .dptr g o _ c T fz hs hg (by rw [← h.len];exact hb) (fun j hj=>by rw [← (h.get j).one];exact h1 j (by rw [h.len];exact hj)) fun j hj=>LWs.drep h j (by rw [h.len];exact hj) (q j (by rw [h.len];exact hj))
 | _,_,.fn f h h',_,hv=>by
   cases hv with
   | fn _ vs us as bs hn hm q q'=>exact .fn f vs us _ _ (hn.trans h.len) (hm.trans h'.len) (fun i hi=>LWs.drep h i (by rw [h.len];exact hi) (q i (by rw [h.len];exact hi))) (fun i hi=>LWs.drep h' i (by rw [h'.len];exact hi) (q' i (by rw [h'.len];exact hi)))
 | _,_,.ifc t h,_,hv=>by
   cases hv with
   | ifc _ v a q=>exact .ifc t v _ (LW.drep h q)
theorem LWs.drep:∀ {a b:List AV},LWs a b→∀ i,i < a.length→∀ {v},DRep S w v (a.getD i .any)→DRep S w v (b.getD i .any)
 | _,_,.nil,i,hi,_,_=>by simp at hi
 | _,_,.cons h r,0,_,_,hv=>by simp only [List.getD_cons_zero] at hv ⊢;exact LW.drep h hv
 | _,_,.cons h r,i+1,hi,_,hv=>by simp only [List.getD_cons_succ] at hv ⊢;exact LWs.drep r i (by simpa using hi) hv
theorem LW.drepC:∀ {x y:AV},LW x y→∀ j,j < x.cells.length→∀ {v},DRep S w v (x.cells.getD j .any)→DRep S w v (y.cells.getD j .any)
 | _,_,.refl _,_,_,_,h=>h
 | _,_,.agg h,j,hj,_,hv=>LWs.drep h j hj hv
 | _,_,.emp k,0,_,_,hv=>LW.drep (.emp k) hv
 | _,_,.sl k h,0,_,_,hv=>LW.drep (.sl k h) hv
 | _,_,.tup h,0,_,_,hv=>LW.drep (.tup h) hv
 | _,_,.dptr h,0,_,_,hv=>LW.drep (.dptr h) hv
 | _,_,.fn f h h',0,_,_,hv=>LW.drep (.fn f h h') hv
 | _,_,.ifc t h,0,_,_,hv=>LW.drep (.ifc t h) hv
 | _,_,.emp _,j+1,hj,_,_=>by simp [AV.cells] at hj
 | _,_,.sl _ _,j+1,hj,_,_=>by simp [AV.cells] at hj
 | _,_,.tup _,j+1,hj,_,_=>by simp [AV.cells] at hj
 | _,_,.dptr _,j+1,hj,_,_=>by simp [AV.cells] at hj
 | _,_,.fn _ _ _,j+1,hj,_,_=>by simp [AV.cells] at hj
 | _,_,.ifc _ _,j+1,hj,_,_=>by simp [AV.cells] at hj
theorem LWs.drep2:∀ {a b:List AV},LWs a b→∀ i,i < a.length→∀ j,j < (a.getD i .any).cells.length→∀ {v},DRep S w v ((a.getD i .any).cells.getD j .any)→DRep S w v ((b.getD i .any).cells.getD j .any)
 | _,_,.nil,i,hi,_,_,_,_=>by simp at hi
 | _,_,.cons h r,0,_,j,hj,_,hv=>by simp only [List.getD_cons_zero] at hj hv ⊢;exact LW.drepC h j hj hv
 | _,_,.cons h r,i+1,hi,j,hj,_,hv=>by simp only [List.getD_cons_succ] at hj hv ⊢;exact LWs.drep2 r i (by simpa using hi) j hj hv
end
variable {M:Maps}
mutual
def AV.dd:AV→Bool
 | .agg cs=>dds cs
 | .ifc _ x=>x.dd
 | x=>x.dat
def dds:List AV→Bool
 | []=>true
 | x::l=>x.dd&&dds l
end
theorem xZlK:∀ {l:List AV},dds l=true→∀ i,i < l.length→(l.getD i .any).dd=true
 | [],_,i,hi=>by simp at hi
 | x::l,h,0,_=>by simp only [dds,Bool.and_eq_true] at h;simpa using h.1
 | x::l,h,i+1,hi=>by simp only [dds,Bool.and_eq_true] at h;simpa using xZlK h.2 i (by simpa using hi)
theorem xZqI {v:Value} {x:AV} (h:VRep M S w v x) (hd:x.dd=true):DRep S w v x:=by
 induction h with
 | data h=>exact h
 | agg vs cs hn _ ih=>exact .agg vs cs hn fun i hi=>ih i hi (xZlK (by simpa only [AV.dd] using hd) i hi)
 | ifc t v a _ ih=>exact .ifc t v a (ih (by simpa only [AV.dd] using hd))
 | _=>simp [AV.dd,AV.dat] at hd
mutual
theorem LW.rep:∀ {x y:AV},LW x y→∀ {v},VRep M S w v x→VRep M S w v y
 | _,_,.refl _,_,h=>h
 | _,_,.emp k,_,h=>.data (LW.drep (.emp k) (xZ6F h rfl))
 | _,_,.sl k h,_,hv=>.data (LW.drep (.sl k h) (xZ6F hv rfl))
 | _,_,.agg h,_,hv=>by
   obtain ⟨vs,rfl,hn,q⟩:=xZer hv
   exact .agg vs _ (hn.trans h.len) fun i hi=>LWs.rep h i (by rw [h.len];exact hi) (q i (by rw [h.len];exact hi))
 | _,_,.tup h,_,hv=>by
   cases hv with
   | data hd=>exact .data (LW.drep (.tup h) hd)
   | tup vs _ hn q=>exact .tup vs _ (hn.trans h.len) fun i hi=>LWs.rep h i (by rw [h.len];exact hi) (q i (by rw [h.len];exact hi))
 | _,_,.dptr h,_,hv=>.data (LW.drep (.dptr h) (xZ6F hv rfl))
 | _,_,.fn f h h',_,hv=>by
   cases hv with
   | data hd=>exact .data (LW.drep (.fn f h h') hd)
   | fn _ vs us as bs hn hm q q'=>exact .fn f vs us _ _ (hn.trans h.len) (hm.trans h'.len) (fun i hi=>LWs.rep h i (by rw [h.len];exact hi) (q i (by rw [h.len];exact hi))) (fun i hi=>LWs.rep h' i (by rw [h'.len];exact hi) (q' i (by rw [h'.len];exact hi)))
 | _,_,.ifc t h,_,hv=>by
   cases hv with
   | data hd=>exact .data (LW.drep (.ifc t h) hd)
   | ifc _ v a q=>exact .ifc t v _ (LW.rep h q)
theorem LWs.rep:∀ {a b:List AV},LWs a b→∀ i,i < a.length→∀ {v},VRep M S w v (a.getD i .any)→VRep M S w v (b.getD i .any)
 | _,_,.nil,i,hi,_,_=>by simp at hi
 | _,_,.cons h r,0,_,_,hv=>by simp only [List.getD_cons_zero] at hv ⊢;exact LW.rep h hv
 | _,_,.cons h r,i+1,hi,_,hv=>by simp only [List.getD_cons_succ] at hv ⊢;exact LWs.rep r i (by simpa using hi) hv
end
theorem xZns {v:Value} {t:TypeId} {x y:AV} (h:VRep M S w v (.ifc t x)) (hd:x.dd=true) (hl:LW x y):VRep M S w v (.opq (.ifc t y)):=by
 have h:=xZqI h (by simpa only [AV.dd] using hd)
 cases h with
 | ifc _ u _ h=>exact .data (.opq _ _ rfl (.ifc t u _ (hl.drep h)))
end
inductive BLW:Buf→Buf→Prop
 | dead (b:Buf) (h:b.isLive=false):BLW b .dead
 | live (k:Nat) {a b:List AV} (h:LWs a b):BLW (.live k a) (.live k b)
 | froz (k:Nat) {a b:List AV} (h:LWs a b):BLW (.froz k a) (.froz k b)
 | map (q:List IntKind) (k:Nat) (a:List AV):BLW (.map q k a) (.map q k a)
theorem BLW.refl (b:Buf):BLW b b:=by
 cases b with
 | dead=>exact .dead _ rfl
 | live k xs=>exact .live k (.refl _)
 | froz k xs=>exact .froz k (.refl _)
 | map q k xs=>exact .map q k xs
theorem BLW.isLive {a b:Buf} (h:BLW a b):a.isLive=b.isLive:=by
 cases h with
 | dead _ h=>exact h
 | live=>rfl
 | froz=>rfl
 | map=>rfl
theorem LiveRep.lw {S w v k} {a b:List AV} (hl:LiveRep S w v k a) (h:LWs a b):LiveRep S w v k b:=by
 rcases hl with ⟨hv,rfl⟩ | ⟨g,cap,c,T,hv,hs,hg,hr⟩
 ·cases h;exact .inl ⟨hv,rfl⟩
 ·refine .inr ⟨g,cap,c,T,by rw [← h.len];exact hv,hs,hg,⟨by rw [← h.len];exact hr.fits,hr.small,hr.size,fun i hi=>?_,fun i hi j hj=>?_,fun i hi j hj=>?_⟩⟩
  ·rw [← (h.get i).cells.len];exact hr.len i (by rw [h.len];exact hi)
  ·rw [← ((h.get i).cells.get j).one];exact hr.one i (by rw [h.len];exact hi) j hj
  ·exact h.drep2 i (by rw [h.len];exact hi) j (by rw [hr.len i (by rw [h.len];exact hi)];exact hj) (hr.rep i (by rw [h.len];exact hi) j hj)
structure LWH (H H':AH):Prop where
 n:H.box.length=H'.box.length
 m:H.buf.length=H'.buf.length
 box:∀ b,LWs (H.box.getD b []) (H'.box.getD b [])
 buf:∀ t,BLW (H.buf.getD t .dead) (H'.buf.getD t .dead)
theorem LWH.refl (H:AH):LWH H H:=⟨rfl,rfl,fun _=>.refl _,fun _=>.refl _⟩
theorem xZem {M:Maps} {H H':AH} (h:LWH H H') (t g:Nat):lives M H t g ↔ lives M H' t g:=by
 simp only [lives,h.m,(h.buf t).isLive]
theorem xZeF {M:Maps} {H H':AH} (h:LWH H H') (g:Nat):foot M H g ↔ foot M H' g:=by
 simp only [foot,xZem h,h.n]
theorem RelH.lw {M S w} {H H':AH} (hh:RelH M S H w) (h:LWH H H'):RelH M S H' w where
 nb:=hh.nb.trans h.n
 nt:=hh.nt.trans h.m
 sits:=hh.sits
 box:=fun b hb=>by
  obtain ⟨un,c,T,hg,hs,q⟩:=hh.box b (by rw [h.n];exact hb)
  have hl:=(h.box b).len
  refine ⟨un,c,T,hg,hs.trans hl,fun i hi=>?_⟩
  have:=q i (by rw [hl];exact hi)
  exact ⟨by rw [← ((h.box b).get i).one];exact this.1,(h.box b).rep i (by rw [hl];exact hi) this.2⟩
 buf:=fun t ht=>by
  have q:=hh.buf t (by rw [h.m];exact ht)
  have hb:=h.buf t
  generalize H.buf.getD t .dead=x at q hb
  generalize H'.buf.getD t .dead=y at hb
  cases hb with
  | dead _ _=>trivial
  | live k h=>exact LiveRep.lw q h
  | froz k h=>exact LW.drep (.sl k h) q
  | map _ _ _=>exact q
 bb:=fun b b' h1 h2=>hh.bb b b' (by rw [h.n];exact h1) (by rw [h.n];exact h2)
 tt:=fun t t' g h1 h2=>hh.tt t t' g ((xZem h t g).2 h1) ((xZem h t' g).2 h2)
 bt:=fun b t g h1 h2=>hh.bt b t g (by rw [h.n];exact h1) ((xZem h t g).2 h2)
theorem Frm.lwR {M S H w M' S' w'} {H1 H2:AH} (hf:Frm M S H w M' S' H1 w') (h:LWH H1 H2):Frm M S H w M' S' H2 w':=
 { hf with newf:=fun g hg=>hf.newf g ((xZeF h g).2 hg) }
theorem Frm.lwL {M S w M' S' w'} {H H0 H1:AH} (hf:Frm M S H w M' S' H1 w') (h:LWH H0 H):Frm M S H0 w M' S' H1 w':=
 { hf with
  wnb:=hf.wnb.trans h.n.symm
  wnt:=hf.wnt.trans h.m.symm
  old:=fun g hg hn=>hf.old g hg (fun hx=>hn ((xZeF h g).2 hx))
  news:=fun g hg=>(hf.news g hg).imp id fun q=>q.imp (fun x=>(xZeF h g).2 x) id
  newf:=fun g hg=>(hf.newf g hg).imp (fun x=>(xZeF h g).2 x) id }
theorem CRes.lw {P:Program} {f:FuncId} {a a0:List AV} {H H0:AH} {r:AE} {H':AH} (hc:CRes P f a H r H') (ha:LWs a0 a) (hH:LWH H0 H):CRes P f a0 H0 r H':=by
 intro M S w vs hh hp hs hall
 refine (hc M S w vs (hh.lw hH) (hp.sub fun g h=>(xZeF hH g).2 h) (hs.trans ha.len) fun i hi=>ha.rep i (by rw [ha.len];exact hi) (hall i (by rw [ha.len];exact hi))).mono fun en w' ⟨M',S',he,hh',hf⟩=>?_
 exact ⟨M',S',he,hh',hf.lwL hH⟩
def LWe:AE→AE→Prop
 | .ret x,.ret y=>LW x y
 | .pan x,.pan y=>LW x y
 | _,_=>False
theorem xZl5 {M S w en} {r e:AE} (h:EndRep M S w en r) (hl:LWe r e):EndRep M S w en e:=by
 cases r with
 | ret x=>
   cases e with
   | pan y=>exact hl.elim
   | ret y=>
     cases en with
     | returned v=>exact LW.rep hl h
     | panicked ch=>exact h.elim
     | outgrown=>exact h.elim
 | pan x=>
   cases e with
   | ret y=>exact hl.elim
   | pan y=>
     cases en with
     | returned v=>exact h.elim
     | panicked ch=>obtain ⟨v,q,hv⟩:=h;exact ⟨v,q,LW.rep hl hv⟩
     | outgrown=>exact h.elim
theorem go_lw {X:Ctx} {k:List SI} {t t':List AV} {H H':AH} (hk:notOps k) (ht:t.length=t'.length∧∀ i,i < t'.length→LW (t.getD i .any) (t'.getD i .any)∨t'.getD i .any=.any) (hH:LWH H H') (h:go X k t' H'):go X k t H:=by
 refine xZcZ hk ?_
 intro hok M0 S0 w0 hp0 M S a w items hr hf hta hh hd b hb hbk
 refine xZdx h hok M0 S0 w0 hp0 M S a w items hr (hf.lwR hH) ⟨hta.1.trans ht.1,fun i hi=>?_⟩ (hh.lw hH) hd b hb hbk
 rcases ht.2 i hi with q | q
 ·exact LW.rep q (hta.2 i (by rw [ht.1];exact hi))
 ·rw [q];exact .data (.any _)
end
end Go.Proofs.YtmfkphajohcklaaGreat.O
namespace Go.Proofs.YtmfkphajohcklaaGreat.O
open Go
section
variable {T:Nat→Type}
def memN:List Nat→Nat→Bool
 | [],_=>false
 | m::l,n=>match Nat.beq m n with
   | true=>true
   | false=>memN l n
def addN (l:List Nat) (n:Nat):List Nat:=match memN l n with
 | true=>l
 | false=>l++[n]
def idxN:List Nat→Nat→Option Nat
 | [],_=>none
 | m::l,n=>match Nat.beq m n with
   | true=>some 0
   | false=>match idxN l n with
     | some i=>some (i+1)
     | none=>none
def plB:BV T→Bool
 | .emp=>true
 | .int _ _=>true
 | .bool _=>true
 | .str _=>true
 | .flt _ _=>true
 | .sl _ _=>true
 | .dptr _=>true
 | .tr _ _=>true
 | _=>false
def plL:List (BV T)→Bool
 | []=>true
 | x::l=>match plB x with
   | true=>plL l
   | false=>false
def flatP:List (List (BV T))→List (BV T)
 | []=>[]
 | cs::l=>match plL cs with
   | true=>flatP l
   | false=>cs++flatP l
def rch (H:BH T):Nat→List (BV T)→List Nat→List Nat→List Nat×List Nat
 | 0,_,rb,rt=>(rb,rt)
 | _+1,[],rb,rt=>(rb,rt)
 | n+1,x::w,rb,rt=>match x with
   | .own t=>rch H n w rb (addN rt t)
   | .eptr t _ _ _=>rch H n w rb (addN rt t)
   | .ptr b _=>match memN rb b with
     | true=>rch H n w rb rt
     | false=>match plL (H.box.getD b []) with
       | true=>rch H n w (rb++[b]) rt
       | false=>rch H n (H.box.getD b []++w) (rb++[b]) rt
   | .agg cs=>rch H n (cs++w) rb rt
   | .tup cs=>rch H n (cs++w) rb rt
   | .fn _ a b=>rch H n (a++b++w) rb rt
   | .ifc _ x=>rch H n (x::w) rb rt
   | _=>rch H n w rb rt
def rnL (f:BV T→Option (BV T)):List (BV T)→Option (List (BV T))
 | []=>some []
 | x::l=>match f x,rnL f l with
   | some y,some r=>some (y::r)
   | _,_=>none
def rnA (rb rt:List Nat) (H:BH T):BV T→Option (BV T)
 | .own t=>match idxN rt t with
   | some j=>some (.own j)
   | none=>match bufA H t with
     | .froz i l=>some (.sl i l)
     | _=>none
 | .ptr b o=>match idxN rb b with
   | some j=>some (.ptr j o)
   | none=>none
 | .eptr t i n o=>match idxN rt t with
   | some j=>some (.eptr j i n o)
   | none=>none
 | .emp=>some .emp
 | .int k n=>some (.int k n)
 | .bool b=>some (.bool b)
 | .str s=>some (.str s)
 | .flt k n=>some (.flt k n)
 | .sl i l=>some (.sl i l)
 | .dptr cs=>some (.dptr cs)
 | .tr i x=>some (.tr i x)
 | .raw (.v x)=>some (.raw (.v x))
 | _=>none
def rn0 (rb rt:List Nat) (H:BH T):BV T→Option (BV T)
 | .agg cs=>match rnL (rnA rb rt H) cs with
   | some l=>some (.agg l)
   | none=>none
 | x=>rnA rb rt H x
def rnC (rb rt:List Nat) (H:BH T):BV T→Option (BV T)
 | .fn f a b=>match rnL (rnA rb rt H) a,rnL (rnA rb rt H) b with
   | some a,some b=>some (.fn f a b)
   | _,_=>none
 | .ifc t x=>match rn0 rb rt H x with
   | some y=>some (.ifc t y)
   | none=>none
 | x=>rnA rb rt H x
def rn1 (rb rt:List Nat) (H:BH T):BV T→Option (BV T)
 | .agg cs=>match rnL (rnC rb rt H) cs with
   | some l=>some (.agg l)
   | none=>none
 | x=>rnC rb rt H x
def rn2 (rb rt:List Nat) (H:BH T):BV T→Option (BV T)
 | .tup cs=>match rnL (rn1 rb rt H) cs with
   | some l=>some (.tup l)
   | none=>none
 | x=>rn1 rb rt H x
def rnBx (rb rt:List Nat) (H:BH T) (cs:List (BV T)):Option (List (BV T)):=match plL cs with
 | true=>some cs
 | false=>rnL (rnC rb rt H) cs
theorem xZmf (rb rt:List Nat) (H:BH T):∀ cs,rnBx rb rt H cs=rnL (rnC rb rt H) cs
 | []=>rfl
 | x::l=>by
   have ih:=xZmf rb rt H l
   unfold rnBx at ih ⊢
   cases hp:plB x with
   | false=>simp only [plL,hp]
   | true=>
     have hx:rnC rb rt H x=some x:=by cases x<;>first | rfl | cases hp
     cases hl:plL l with
     | false=>simp only [plL,hp,hl]
     | true=>rw [hl] at ih;simp only [plL,hp,hl,rnL,hx,← ih]
def rnBoxes (rb rt:List Nat) (H:BH T):List Nat→Option (List (List (BV T)))
 | []=>some []
 | b::l=>match Nat.blt b H.box.length,rnBx rb rt H (H.box.getD b []),rnBoxes rb rt H l with
   | true,some cs,some r=>match onesB cs with
     | true=>some (cs::r)
     | false=>none
   | _,_,_=>none
def rnBufs (H:BH T):List Nat→Option (List (BB T))
 | []=>some []
 | t::l=>match Nat.blt t H.buf.length,rnBufs H l with
   | true,some r=>some (bufA H t::r)
   | _,_=>none
def nodupN:List Nat→Bool
 | []=>true
 | x::l=>match memN l x with
   | true=>false
   | false=>nodupN l
def rnH.{u} {R:Type u} (rb rt:List Nat) (H:BH T) (K:BH T→Option R):Option R:=
 match nodupN rb&&nodupN rt,rnBoxes rb rt H rb,rnBufs H rt with
 | true,some bx,some bu=>K ⟨bx,bu⟩
 | _,_,_=>none
def upN:List Nat→Nat→Nat→Nat
 | [],n,i=>n+i
 | b::_,_,0=>b
 | _::l,n,i+1=>upN l n i
def setL {α:Type}:List Nat→List α→List α→List α
 | [],new,old=>old++new
 | _::_,[],old=>old
 | b::l,x::r,old=>setL l r (old.set b x)
mutual
def BV.up (f g:Nat→Nat):BV T→BV T
 | .raw x=>.raw (x.up f g)
 | .emp=>.emp
 | .int k n=>.int k n
 | .bool b=>.bool b
 | .str s=>.str s
 | .flt k n=>.flt k n
 | .agg cs=>.agg (BV.upL f g cs)
 | .tup cs=>.tup (BV.upL f g cs)
 | .sl i l=>.sl i l
 | .own t=>.own (g t)
 | .ptr b o=>.ptr (f b) o
 | .aptr b o p=>.aptr (f b) o p
 | .eptr t i n o=>.eptr (g t) i n o
 | .dptr cs=>.dptr cs
 | .fn h a b=>.fn h (BV.upL f g a) (BV.upL f g b)
 | .ifc t x=>.ifc t (BV.up f g x)
 | .tr i x=>.tr i x
def BV.upL (f g:Nat→Nat):List (BV T)→List (BV T)
 | []=>[]
 | x::xs=>BV.up f g x::BV.upL f g xs
end
def upBx (f g:Nat→Nat) (cs:List (BV T)):List (BV T):=match plL cs with
 | true=>cs
 | false=>BV.upL f g cs
theorem xZmk (f g:Nat→Nat):∀ cs:List (BV T),upBx f g cs=BV.upL f g cs
 | []=>by simp only [upBx,plL,BV.upL]
 | x::l=>by
   have ih:=xZmk f g l
   unfold upBx at ih ⊢
   cases hp:plB x with
   | false=>simp only [plL,hp]
   | true=>
     have hx:BV.up f g x=x:=by cases x<;>first | (simp only [BV.up];done) | cases hp
     cases hl:plL l with
     | false=>simp only [plL,hp,hl]
     | true=>rw [hl] at ih;simp only [plL,hp,hl,BV.upL,hx,← ih]
def upHB (rb rt:List Nat) (H Hc:BH T):BH T:=⟨setL rb (Hc.box.map (upBx (upN rb H.box.length) (upN rt H.buf.length))) H.box,setL rt Hc.buf H.buf⟩
section
variable (B:Tb T)
structure Pat (A:Type) where
 dec:BV T→Option A
 enc:A→BV T
 ok:∀ x a,dec x=some a→LW (x.av B) ((enc a).av B)
structure PL (A:Type) where
 dec:List (BV T)→Option A
 enc:A→List (BV T)
 ok:∀ x a,dec x=some a→LWs (BV.avs B x) (BV.avs B (enc a))
structure PE (A:Type) where
 ks:List Nat
 dec:SE T→Option A
 enc:A→SE T
 key:∀ a,(enc a).map (·.1)=ks
 ok:∀ e a,dec e=some a→∀ i,LW ((lk e i).av B) ((lk (enc a) i).av B)∨lk (enc a) i=.raw .any
structure PX (A:Type) where
 dec:List (List (BV T))→Option A
 enc:A→List (List (BV T))
 ok:∀ x a,dec x=some a→x.length=(enc a).length∧∀ b,LWs (BV.avs B (x.getD b [])) (BV.avs B ((enc a).getD b []))
structure PU (A:Type) where
 dec:List (BB T)→Option A
 enc:A→List (BB T)
 ok:∀ x a,dec x=some a→x.map (BB.av B)=(enc a).map (BB.av B)
structure Out (R:Type) where
 dec:BV T→BH T→Option R
 enc:R→BV T×BH T
 elim:{S:Type}→R→(BV T→BH T→Option S)→Option S
 eE:∀ {S:Type} (r:R) (K:BV T→BH T→Option S),elim r K=K (enc r).1 (enc r).2
 ok:∀ x H r,dec x H=some r→LW (x.av B) ((enc r).1.av B)∧LWH (H.av B) ((enc r).2.av B)
structure Con where
 f:FuncId
 A:Type
 R:Type
 md:List Bool
 inp:List (BV T)→BH T→Option A
 inn:A→List (BV T)×BH T
 sh:Nat→A→Option R
 o:Out B R
 pl:Bool
 scal:Bool
 ok:∀ xs H a,inp xs H=some a→LWs (BV.avs B xs) (BV.avs B (inn a).1)∧LWH (H.av B) ((inn a).2.av B)
 okp:pl=true→(∀ a,(inn a).2=⟨[],[]⟩)∧∀ r,(o.enc r).2=⟨[],[]⟩
 oks:scal=true→∀ r,((o.enc r).1.av B).scal=true
structure Lp (R:Type) where
 A:Type
 ks:List Nat
 em:List (Nat×Option Nat×Nat)
 live:List Nat
 dec:SE T→BH T→Option A
 enc:A→SE T×BH T
 run:A→Option R
 key:∀ a,(enc a).1.map (·.1)=ks
 ok:∀ e H a,dec e H=some a→(∀ i,LW ((lk e i).av B) ((lk (enc a).1 i).av B)∨lk (enc a).1 i=.raw .any)∧LWH (H.av B) ((enc a).2.av B)
variable {R:Type} {B}
def rawArgs:List Bool→List (BV T)→List (BV T)
 | true::m,_::l=>rawArgs m l
 | _::m,x::l=>x::rawArgs m l
 | [],l=>l
 | _,[]=>[]
def datArgs:List Bool→List (BV T)→List (BV T)
 | true::m,x::l=>x::datArgs m l
 | _::m,_::l=>datArgs m l
 | _,_=>[]
def rnArgs (rb rt:List Nat) (H:BH T):List Bool→List (BV T)→Option (List (BV T))
 | _,[]=>some []
 | true::m,x::l=>match rn1 [] [] H x,rnArgs rb rt H m l with
   | some y,some r=>some (y::r)
   | _,_=>none
 | m,x::l=>match rn1 rb rt H x,rnArgs rb rt H m.tail l with
   | some y,some r=>some (y::r)
   | _,_=>none
def PM:Nat:=16777216
def aeA:AV→AE
 | .ifc t x=>match Nat.ble PM t with
   | true=>.pan (.ifc (t - PM) x)
   | false=>.ret (.ifc t x)
 | x=>.ret x
def noPM:BV T→Bool
 | .ifc t _=>!Nat.ble PM t
 | .raw x=>match x with
   | .ifc _ _=>false
   | _=>true
 | _=>true
def onP (v:BV T) (P:Nat→BV T→Option R) (K:Option R):Option R:=match v with
 | .ifc t x=>match Nat.ble PM t with
   | true=>P (t - PM) x
   | false=>K
 | .raw x=>match x with
   | .ifc _ _=>none
   | _=>K
 | _=>K
def callHit (c:Con B) (dr:Bool) (args:List (BV T)) (H:BH T) (N:Nat) (K:BV T→BH T→Option R) (next:Option R):Option R:=
 let ts:=(datArgs c.md args).flatMap ownsB
 let H1:=frzHB H ts
 match rch H 1000 (rawArgs c.md args) [] [] with
 | (rb,rt)=>match c.pl with
   | true=>match rb,rt with
     | [],[]=>match dr with
       | true=>match rnArgs [] [] ⟨[],[]⟩ c.md args with
         | some xs=>match c.inp xs ⟨[],[]⟩ with
           | some a=>(c.sh N a).bind fun r=>c.o.elim r fun v _=>K v H
           | none=>next
         | none=>next
       | false=>match rnArgs [] [] H1 c.md args with
         | some xs=>match c.inp xs ⟨[],[]⟩ with
           | some a=>match ts,c.scal with
             | [],_=>(c.sh N a).bind fun r=>c.o.elim r fun v _=>K v H
             | _,true=>(c.sh N a).bind fun r=>c.o.elim r fun v _=>K v H
             | _,false=>(c.sh N a).bind fun r=>c.o.elim r fun v _=>K v H1
           | none=>next
         | none=>next
     | _,_=>next
   | false=>match dr with
     | true=>next
     | false=>match rnArgs rb rt H1 c.md args with
       | some xs=>rnH rb rt H1 fun Hc=>match c.inp xs Hc with
         | some a=>(c.sh N a).bind fun r=>c.o.elim r fun v Hc'=>K (v.up (upN rb H1.box.length) (upN rt H1.buf.length)) (upHB rb rt H1 Hc')
         | none=>next
       | none=>next
def callS (dr:Bool) (args:List (BV T)) (H:BH T) (N:Nat) (K:BV T→BH T→Option R) (f:FuncId):List (Con B)→Option R
 | []=>none
 | c::Γ=>match Nat.beq c.f f with
   | false=>callS dr args H N K f Γ
   | true=>callHit c dr args H N K (callS dr args H N K f Γ)
def emS (nt:Nat):List (Nat×Option Nat×Nat)→SE T→BH T→(SE T→BH T→Option R)→Option R
 | [],e,H,K=>K e H
 | (n,none,i)::l,e,H,K=>match lk e n with
   | .emp=>emS nt l ((n,.own H.buf.length)::e) ⟨H.box,H.buf++[.live i []]⟩ K
   | _=>emS nt l e H K
 | (n,some j,i)::l,e,H,K=>match lk e n with
   | .ptr b 0=>match (H.box.getD b []).getD j (.raw .any) with
     | .emp=>emS nt l e ⟨H.box.set b ((H.box.getD b []).set j (.own H.buf.length)),H.buf++[.live i []]⟩ K
     | .own u=>match Nat.blt u nt,bufA H u with
       | true,.live i' xs=>emS nt l e ⟨H.box.set b ((H.box.getD b []).set j (.own H.buf.length)),H.buf.set u .dead++[.live i' xs]⟩ K
       | _,_=>emS nt l e H K
     | _=>emS nt l e H K
   | _=>emS nt l e H K
def rnE (rb rt:List Nat) (H:BH T) (e:SE T):List Nat→Option (SE T)
 | []=>some []
 | n::l=>match rn2 rb rt H (lk e n),rnE rb rt H e l with
   | some y,some r=>some ((n,y)::r)
   | _,_=>none
def loopN (nb nt:Nat) (L:Lp B R) (e:SE T) (H:BH T) (next:Option R):Option R:=
 emS nt L.em e H fun e H=>
  match rch H 2000 (flatP (H.box.take nb)++L.live.map (lk e)) (List.range nb) (List.range nt) with
  | (rb,rt)=>match keeps nb rb&&keeps nt rt,rnE rb rt H e L.live with
    | true,some e'=>rnH rb rt H fun H'=>match L.dec e' H' with
      | some a=>L.run a
      | none=>next
    | _,_=>next
def loopS (nb nt:Nat) (e:SE T) (H:BH T):List (Lp B R)→Option R
 | []=>none
 | L::l=>loopN nb nt L e H (loopS nb nt e H l)
def lpOf:List (Nat×Lp B R)→Nat→List (Lp B R)
 | [],_=>[]
 | (m,L)::r,n=>match Nat.beq m n with
   | true=>L::lpOf r n
   | false=>lpOf r n
def JM:Nat:=1000000
def firstD:List SL→Option Nat
 | []=>none
 | .op (some d) _::_=>some d
 | _::l=>firstD l
def jnN:SC→Option Nat
 | .ops _ l=>match firstD l with
   | some d=>some (2 * d)
   | none=>none
 | .cond (.t s) _ _=>some (2 * s+1)
 | _=>none
def emLk:List (Nat×List (Nat×Option Nat×Nat))→Nat→List (Nat×Option Nat×Nat)
 | [],_=>[]
 | (m,l)::r,n=>match Nat.beq m n with
   | true=>l
   | false=>emLk r n
def emC (ms:List (Nat×List (Nat×Option Nat×Nat))):SC→List (Nat×Option Nat×Nat)
 | .ret=>emLk ms 0
 | c=>match jnN c with
   | some n=>emLk ms n
   | none=>[]
def emT (ms:List (Nat×List (Nat×Option Nat×Nat))) (todo:List SI):List (Nat×Option Nat×Nat):=match ms with
 | []=>[]
 | _::_=>match todo with
   | []=>emLk ms 0
   | .c c::_=>emC ms c
   | _=>[]
def isJn (ms:List Nat) (c:SC):Option Nat:=match ms with
 | []=>none
 | _::_=>match jnN c with
   | some n=>match memN ms n with
     | true=>some (JM+n)
     | false=>none
   | none=>none
def resS (e:SE T) (H:BH T):List Rs→Option (List (BV T))
 | []=>some []
 | .t n::rs=>match resS e H rs with
   | some l=>some (lk e n::l)
   | none=>none
 | .cell n sz ag::rs=>match lk e n with
   | .ptr b o=>match H.box[b]?,resS e H rs with
     | some cs,some l=>match Nat.ble (o+sz) cs.length with
       | true=>some (mkB ag ((cs.drop o).take sz)::l)
       | false=>none
     | _,_=>none
   | _=>none
def tupS:List (BV T)→BV T
 | [x]=>x
 | l=>.tup l
variable (B) in
structure Rt (R:Type) where
 md:List Bool
 em:Option Nat
 o:Out B R
def retS (nb nt:Nat) (q:Rt B R) (l:List (BV T)) (H:BH T):Option R:=
 let H1:=frzHB H ((datArgs q.md l).flatMap ownsB)
 match rch H1 2000 (flatP (H1.box.take nb)++rawArgs q.md l) (List.range nb) (List.range nt) with
 | (rb,rt)=>match keeps nb rb&&keeps nt rt,rnArgs rb rt H1 q.md l with
   | true,some xs=>match noPM (tupS xs) with
     | true=>rnH rb rt H1 fun H'=>q.o.dec (tupS xs) H'
     | false=>none
   | _,_=>none
def retE (nb nt:Nat) (q:Rt B R) (l:List (BV T)) (H:BH T):Option R:=
 match q.em,l with
 | some i,[.emp]=>retS nb nt q [.own H.buf.length] ⟨H.box,H.buf++[.live i []]⟩
 | _,l=>retS nb nt q l H
def retP (nb nt:Nat) (q:Rt B R) (t:Nat) (x:BV T) (H:BH T):Option R:=
 match rch H 2000 (flatP (H.box.take nb)++[x]) (List.range nb) (List.range nt) with
 | (rb,rt)=>match keeps nb rb&&keeps nt rt,rn0 rb rt H x with
   | true,some y=>rnH rb rt H fun H'=>q.o.dec (.ifc (PM+t) y) H'
   | _,_=>none
def pvS (e0:SE T) (ns:Nat):List (Nat×Nat×Od)→SE T→BH T→(SE T→BH T→Option R)→Option R
 | [],e,H,K=>K e H
 | (d,n,y)::bs,e,H,K=>match Nat.blt d ns&&Nat.beq (bod e0 y).cells.length n&&onesB (bod e0 y).cells with
   | true=>pvS e0 ns bs ((d,.ptr H.box.length 0)::e) ⟨H.box++[(bod e0 y).cells],H.buf⟩ K
   | false=>none
def okD (ns:Nat):Option Nat→Bool
 | some d=>Nat.blt d ns
 | none=>true
def killE (e:SE T):List SP→SE T
 | []=>e
 | s::l=>killE (putE e s.d (.raw (.v undef))) l
inductive EK' where
 | ib
 | cs
 | fb
 | ne
def exOf:List (FuncId×EK')→FuncId→Option EK'
 | [],_=>none
 | (m,z)::r,n=>match Nat.beq m n with
   | true=>some z
   | false=>exOf r n
def extS (k:EK') (xs:List (BV T)) (K:BV T→Option R):Option R:=
 match k,xs with
 | .ib,[.str s,.int .u8 c]=>K (.int .i64 (Lib.indexByte s (UInt8.ofNat c.toNat)))
 | .cs,[.str s,.int .u8 c]=>K (.int .i64 ((Lib.countByte s (UInt8.ofNat c.toNat):Nat):Int))
 | .fb,[.int .u64 n]=>K (.flt .f64 n.toNat)
 | .ne,[x]=>K x
 | _,_=>none
structure EqR (R:Type) where
 f:R→R→Bool
 eq:∀ x y,f x y=true→x=y
 refl:∀ x,f x x=true
noncomputable def EqR.cls {R:Type}:EqR R:=⟨fun x y=>@decide (x=y) (Classical.propDecidable _),fun x y h=>@of_decide_eq_true _ (Classical.propDecidable _) h,fun x=>@decide_eq_true _ (Classical.propDecidable _) rfl⟩
def EqR.bytes:EqR (List UInt8):=⟨fun x y=>x==y,fun _ _ h=>eq_of_beq h,fun x=>beq_self_eq_true x⟩
def both {R:Type} (q:EqR R) (a b:Option R):Option R:=a.bind fun x=>b.bind fun y=>match q.f x y with
 | true=>some x
 | false=>none
theorem xZkR {R:Type} {q:EqR R} {a b:Option R} {r:R} (h:both q a b=some r):a=some r∧b=some r:=by
 obtain ⟨x,hx,h⟩:=Option.bind_eq_some_iff.1 h
 obtain ⟨y,hy,h⟩:=Option.bind_eq_some_iff.1 h
 split at h
 ·rename_i he
  cases h
  exact ⟨hx,by rw [hy,q.eq _ _ he]⟩
 ·cases h
def alls {R:Type} (q:EqR R):List (Option R)→Option R
 | []=>none
 | a::l=>match l with
   | []=>a
   | _=>both q a (alls q l)
theorem xZi4 {R:Type} {q:EqR R}:∀ {l:List (Option R)} {r:R},alls q l=some r→∀ a∈l,a=some r
 | [],_,h,_,_=>by cases h
 | [a],r,h,b,hb=>by cases List.mem_singleton.1 hb;exact h
 | a::b::l,r,h,c,hc=>by
   obtain ⟨h1,h2⟩:=xZkR h
   rcases List.mem_cons.1 hc with rfl | hc
   ·exact h1
   ·exact xZi4 h2 c hc
theorem xZi8 {R:Type} {q:EqR R} {a b:Option R} (h:b=a):both q a b=a:=by
 subst h
 cases b with
 | none=>rfl
 | some x=>simp [both,q.refl]
def bothN {R:Type} (q:EqR R):Nat→Option R→Option R
 | 0,x=>x
 | n+1,x=>both q x (bothN q n x)
theorem xZbc {R:Type} {q:EqR R} {x:Option R}:∀ n,bothN q n x=x
 | 0=>rfl
 | n+1=>xZi8 (xZbc n)
def deferOf:List SL→Option (Nat×FuncId×List Od)
 | [.op (some d) (.fnv (.func f) [] cs),.op none (.raw (.defer ⟨.value (.tmp e),args,ts⟩) _)]=>match Nat.beq d e,args.toList,ts.toList with
   | true,[],[]=>some (d,f,cs)
   | _,_,_=>none
 | _=>none
variable (B) in
structure Set (R:Type) where
 P:Program
 ex:List (FuncId×EK')
 h:Hint T
 N:Nat
 con:FuncId→List (Con B)
 lps:List (Nat×Lp B R)
 res:List Rs
 ret:Rt B R
 nb:Nat
 nt:Nat
 ns:Nat
 kt:SE T→BH T→Bool
 alt:Option (EqR R)
 df:List (FuncId×Nat)
 jm:List Nat
 ems:List (Nat×List (Nat×Option Nat×Nat))
def Set.off {R:Type} (G:Set B R):Set B R:={ G with lps:=[],kt:=fun _ _=>false,df:=[] }
def mkOf:List (Nat×((i:Nat)×T i×Nat))→Nat→Option ((i:Nat)×T i×Nat)
 | [],_=>none
 | (m,z)::r,n=>match Nat.beq m n with
   | true=>some z
   | false=>mkOf r n
def bodP (e:SE T) (x:Operand):BV T:=bod e (cOd x)
def sameO:Operand→Operand→Bool
 | .tmp a,.tmp b=>Nat.beq a b
 | _,_=>false
def gdN (b:Bool) (p:Bool) (x:Option R):Option R:=match b with
 | true=>x
 | false=>gd p x
def oprOf (o:Op):Oper:={ dst:=none,op:=o,type:=0,pos := "",after:=#[],guard:=none }
def cCv (P:Program) (src dst:TypeId):Bool:=
 match P.underlying src,P.underlying dst with
 | some (.slice e),some .string=>match P.underlying e with
   | some (.int .u8)=>true
   | _=>false
 | _,_=>false
theorem xZmt {P:Program} {src dst:TypeId} (h:cCv P src dst=true):∃ e,P.underlying src=some (.slice e)∧P.underlying dst=some .string∧P.underlying e=some (.int .u8):=by
 unfold cCv at h
 split at h
 ·rename_i e h1 h2
  split at h
  ·rename_i h3;exact ⟨e,h1,h2,h3⟩
  ·cases h
 ·cases h
def cIdx (P:Program) (te:TypeId):Option (Nat×Nat×Bool):=match P.underlying te with
 | some (.array m e)=>match cLd P e with
   | some (k,ag)=>some (m,k,ag)
   | none=>none
 | _=>none
theorem xZkT {P:Program} {te:TypeId} {m k:Nat} {ag:Bool} (h:cIdx P te=some (m,k,ag)):∃ e,P.underlying te=some (.array m e)∧cLd P e=some (k,ag):=by
 unfold cIdx at h
 split at h
 ·rename_i m' e hu
  split at h
  ·rename_i k' ag' hl;cases h;exact ⟨e,hu,hl⟩
  ·cases h
 ·cases h
variable (B) in
def rawS (P:Program) (h:Hint T) (e:SE T) (H:BH T) (d:Option Nat) (o:Op) (K:SE T→BH T→Option R):Option R:=
 match o with
 | .call { callee:=.builtin .max,args,.. }=>match args.toList with
   | [x,y]=>match bodP e x,bodP e y with
     | .int k a,.int _ b=>K (putE e d (.int k (max a b))) H
     | _,_=>none
   | _=>none
 | .call { callee:=.builtin .min,args,.. }=>match args.toList with
   | [x,y]=>match bodP e x,bodP e y with
     | .int k a,.int _ b=>K (putE e d (.int k (min a b))) H
     | _,_=>none
   | _=>none
 | .call { callee:=.builtin .len,args,argTypes }=>match args.toList,argTypes.toList with
   | [x],[t]=>match isMapT P t,bodP e x with
     | true,.own u=>match bufA H u with
       | .map _ _ l=>K (putE e d (.int .i64 l.length)) H
       | _=>none
     | _,_=>none
   | _,_=>none
 | .nilCheck x=>match bodP e x with
   | .ptr b o=>K (putE e d (.ptr b o)) H
   | .eptr t i n o=>K (putE e d (.eptr t i n o)) H
   | .dptr cs=>K (putE e d (.dptr cs)) H
   | _=>none
 | .binOp op te x y _=>match isCmp op,bodP e x,bodP e y with
   | true,.flt k m,.flt k' n=>if k'=k then K (putE e d (.bool (fcmpB op k m n))) H else none
   | true,.agg xs,.agg ys=>match cNe op,eqArr P te with
     | some ne,some ls=>match eqLs ls xs ys with
       | some b=>K (putE e d (.bool (neS ne b))) H
       | none=>none
     | _,_=>none
   | _,_,_=>none
 | .makeMap T r=>match r,cMap P T,hintOf h.bt (T+3000000) with
   | none,some (q,k,_),some i=>match Nat.beq (B.k i) k with
     | true=>K (putE e d (.own H.buf.length)) ⟨H.box,H.buf++[.map q i []]⟩
     | false=>none
   | _,_,_=>none
 | .lookup T x i c=>match cMap P T,bodP e x,bodP e i with
   | some (q,k,zs),.own u,.agg ks=>match bufA H u,keyB q ks with
     | .map q' j l,some ns=>if q'=q∧B.k j=k∧q≠[] then
        gd (kwB q ns) (mcs (l.find? fun y=>samK q ns (B.enc j y))
         (K (putE e d (match c with
           | true=>.tup [.agg (zs.map cbv1),.bool false]
           | false=>.agg (zs.map cbv1))) H)
         fun y=>K (putE e d (match c with
          | true=>.tup [.agg ((B.enc j y).drop q.length),.bool true]
          | false=>.agg ((B.enc j y).drop q.length))) H)
       else none
     | _,_=>none
   | _,_,_=>none
 | .mapUpdate T x i z=>match cMap P T,bodP e x,bodP e i,bodP e z with
   | some (q,k,_),.own u,.agg ks,.agg vs=>match bufA H u,keyB q ks with
     | .map q' j l,some ns=>match B.dec j (ks++vs),allI vs&&B.ag j with
       | some y,true=>if q'=q∧B.k j=k∧q≠[]∧q.length+vs.length=k then
          gd (kwB q ns) (K (putE e d (.raw (.v undef))) ⟨H.box,H.buf.set u (.map q j (mup (fun y=>samK q ns (B.enc j y)) y l))⟩)
         else none
       | _,_=>none
     | _,_=>none
   | _,_,_,_=>none
 | .typeAssert x _ ad ok=>match ok,cTa P ad with
   | true,some z=>match bodP e x with
     | .ifc t v=>match Nat.beq t ad with
       | true=>K (putE e d (.tup [v,.bool true])) H
       | false=>K (putE e d (.tup [cbv z,.bool false])) H
     | .raw (.v .nilIface)=>K (putE e d (.tup [cbv z,.bool false])) H
     | _=>none
   | _,_=>none
 | .convert src dst x=>match cCv P src dst,bodP e x with
   | true,.sl i l=>match h.bo i l with
     | some s=>K (putE e d (.str s)) H
     | none=>none
   | true,.own u=>match bufA H u with
     | .live i l=>match h.bo i l with
       | some s=>K (putE e d (.str s)) H
       | none=>none
     | .froz i l=>match h.bo i l with
       | some s=>K (putE e d (.str s)) H
       | none=>none
     | _=>none
   | true,.emp=>K (putE e d (.str [])) H
   | _,_=>none
 | .makeSlice te x y=>match mkOf h.mks te,bodP e x,bodP e y with
   | some ⟨i,z,by_⟩,.int _ l,.int _ c=>match Nat.blt 0 by_ with
     | true=>gd (leB 0 l) (gdN (sameO x y) (leB l c) (gd (leB ((by_:Int) * c) 281474976710656) (K (putE e d (.own H.buf.length)) ⟨H.box,H.buf++[.live i (List.replicate l.toNat z)]⟩)))
     | false=>none
   | _,_,_=>none
 | .index te x i=>match cIdx P te,bodP e x,bodP e i with
   | some (m,k,ag),.agg cs,.int _ n=>match hintI h d with
     | some j=>match Nat.beq (B.k j) k,decM B j m cs with
       | true,some l=>(ix l n).bind fun el=>K (putE e d (mkB ag (B.enc j el))) H
       | _,_=>none
     | none=>match leB 0 n&&ltB n (m:Int)&&Nat.ble (n.toNat * k+k) cs.length with
       | true=>K (putE e d (mkB ag ((cs.drop (n.toNat * k)).take k))) H
       | false=>none
   | _,_,_=>none
 | .buildSlice ty n pp=>match cOp0 P (true,[]) (oprOf (.buildSlice ty n pp)) with
   | some (.bsl k ps)=>opS B h false e H d (.bsl k ps) K
   | _=>none
 | _=>none
variable (G:Set B R)
def panS (e:SE T) (dr:Bool) (H:BH T) (t:Nat) (x:BV T):Option R:=match dr,G.kt e H with
 | false,true=>retP G.nb G.nt G.ret t x H
 | _,_=>none
def sxLoop (k:List SI) (e:SE T) (H:BH T):Option R:=match k with
 | .blk id::_=>loopS G.nb G.nt e H (lpOf G.lps id)
 | _=>none
def sxRet (e:SE T) (H:BH T):Option R:=match resS e H G.res with
 | some l=>retE G.nb G.nt G.ret l H
 | none=>none
variable (rec:List SI→SE T→BH T→Option R)
def sxGrp (dr:Bool) (j:Nat) (w:Bool) (l1:List SP) (l:List SL) (k:List SI) (e:SE T) (H:BH T):Option R:=match l1.all (fun s=>okD G.ns s.d),lk e j with
 | true,.bool c=>cond c
   (match w with
     | true=>rec (.ops dr (l1.map SP.sl++l)::k) ((j,.bool true)::e) H
     | false=>rec (.ops dr l::k) (killE ((j,.bool true)::e) l1) H)
   (match w with
     | true=>rec (.ops dr l::k) (killE ((j,.bool false)::e) l1) H
     | false=>rec (.ops dr (l1.map SP.sl++l)::k) ((j,.bool false)::e) H)
 | true,.raw (.v (.tuple _))=>rec (.ops dr l::k) (killE e l1) H
 | _,_=>none
def sxCall (dr:Bool) (d:Option Nat) (f:FuncId) (args:List (BV T)) (l:List SL) (k:List SI) (e:SE T) (H:BH T):Option R:=callS dr args H G.N (fun v H=>onP v (panS G e dr H) (rec (.ops dr l::k) (putE e d v) H)) f (G.con f)
def sxInv (hd dr:Bool) (d:Option Nat) (t:TypeId) (v:BV T) (m:String) (args:Array Operand) (l:List SL) (k:List SI) (e:SE T) (H:BH T):Option R:=match cMeth G.P t m with
 | some f=>callS (dr&&!hd) (v::args.toList.map (bodP e)) H G.N (fun v H=>onP v (panS G e dr H) (rec (.ops dr l::k) (putE e d v) H)) f (G.con f)
 | none=>none
def sxRaw (hd dr:Bool) (d:Option Nat) (o:Op) (l:List SL) (k:List SI) (e:SE T) (H:BH T):Option R:=match o with
 | .call { callee:=.invoke x m,args,.. }=>match bodP e x with
   | .ifc t v=>sxInv G rec hd dr d t v m args l k e H
   | .tr i y=>B.el i y _ fun z=>match z with
     | .ifc t v=>sxInv G rec hd dr d t v m args l k e H
     | _=>none
   | _=>none
 | .call { callee:=.value x,args,.. }=>match bodP e x with
   | .fn (.func f) a b=>callS false (a++args.toList.map (bodP e)++b) H G.N (fun v H=>onP v (panS G e dr H) (rec (.ops dr l::k) (putE e d v) H)) f (G.con f)
   | _=>none
 | .panic x=>match dr,bodP e x with
   | dr,.ifc t v=>panS G e dr H t v
   | _,_=>none
 | o=>rawS B G.P G.h e H d o fun e H=>rec (.ops dr l::k) e H
def sxCall0 (dr:Bool) (d:Option Nat) (f:FuncId) (as:List Od) (l:List SL) (k:List SI) (e:SE T) (H:BH T):Option R:=match exOf G.ex f with
 | some q=>extS q (as.map (bod e)) fun v=>rec (.ops dr l::k) (putE e d v) H
 | none=>sxCall G rec dr d f (as.map (bod e)) l k e H
def sxCallv (dr:Bool) (d:Option Nat) (x:Od) (as:List Od) (l:List SL) (k:List SI) (e:SE T) (H:BH T):Option R:=match bod e x with
 | .fn (.func f) a b=>sxCall G rec dr d f (a++as.map (bod e)++b) l k e H
 | _=>none
def sxOp (dr:Bool) (d:Option Nat) (o:SO) (l:List SL) (k:List SI) (e:SE T) (H:BH T):Option R:=match okD G.ns d with
 | false=>none
 | true=>match o with
   | .call f as=>sxCall0 G rec dr d f as l k e H
   | .callv x as=>sxCallv G rec dr d x as l k e H
   | .raw o ty=>sxRaw G rec (hardI o ty) dr d o l k e H
   | o=>opS B G.h dr e H d o fun e H=>rec (.ops dr l::k) e H
def sxOps (dr:Bool) (l:List SL) (k:List SI) (e:SE T) (H:BH T):Option R:=match l with
 | []=>rec k e H
 | .grp j w l1::l=>sxGrp G rec dr j w l1 l k e H
 | .op d o::l=>sxOp G rec dr d o l k e H
def sxAlts (o:Option (List SL)) (ls:List (List SL)) (k:List SI) (e:SE T) (H:BH T):Option R:=match G.alt,ls with
 | some q,l::ls=>alls q ((l::ls).map fun l=>rec (.ops true l::k) e H)
 | _,_=>match o with
   | some l=>rec (.ops true l::k) e H
   | none=>none
def ptr0:BV T→Bool
 | .ptr _ 0=>true
 | _=>false
def memDf:List (FuncId×Nat)→FuncId→Nat→Bool
 | [],_,_=>false
 | (f,n)::l,g,m=>match Nat.beq f g&&Nat.beq n m with
   | true=>true
   | false=>memDf l g m
variable (off:List SI→SE T→BH T→Option R)
def sxDefer (l:List SL) (k:List SI) (e:SE T) (H:BH T) (s:Nat) (f:FuncId) (cs:List Od):Option R:=
 match memDf G.df f cs.length&&Nat.blt s G.ns&&(cs.all fun c=>ptr0 (bod e c)) with
 | true=>off k ((s,.raw .any)::e) H
 | false=>none
def sxReg (d:Bool) (l:List SL) (k:List SI) (e:SE T) (H:BH T):Option R:=match G.df with
 | []=>rec (.ops d l::k) e H
 | _::_=>match d,deferOf l with
   | false,some (s,f,cs)=>sxDefer G off l k e H s f cs
   | _,_=>rec (.ops d l::k) e H
def sxC (c:SC) (k:List SI) (e:SE T) (H:BH T):Option R:=match c with
 | .skip=>rec k e H
 | .ops d l=>sxReg G rec off d l k e H
 | .priv l bs=>rec (.ops true l::.pv bs::k) e H
 | .alts o ls=>sxAlts G rec o ls k e H
 | .seq a b=>rec (.c a::.c b::k) e H
 | .cond x a b=>match bod e x with
   | .bool c=>cond c (rec (.c a::k) e H) (rec (.c b::k) e H)
   | _=>none
 | .block id b=>rec (.c b::.blk id::k) e H
 | .loop _=>sxLoop G k e H
 | .scope b=>rec (.c b::.scp::k) e H
 | .exit id=>match exitS id k with
   | some k=>rec k e H
   | none=>none
 | .ret=>sxRet G e H
 | .bad=>none
def sxJ (c:SC) (k:List SI) (e:SE T) (H:BH T):Option R:=match isJn G.jm c with
 | none=>sxC G rec off c k e H
 | some i=>match lpOf G.lps i with
   | []=>sxC G rec off c k e H
   | L::l=>loopS G.nb G.nt e H (L::l)
def sxT (todo:List SI) (e:SE T) (H:BH T):Option R:=match todo with
 | []=>sxRet G e H
 | .blk _::k=>rec k e H
 | .scp::k=>rec k e H
 | .pv bs::k=>pvS e G.ns bs e H fun e H=>rec k e H
 | .lp _::k=>sxLoop G k e H
 | .ops dr l::k=>sxOps G rec dr l k e H
 | .c c::k=>sxJ G rec off c k e H
omit rec off
noncomputable def sx (n:Nat):List SI→SE T→BH T→Option R:=Nat.rec (motive:=fun _=>Set B R→List SI→SE T→BH T→Option R) (fun _ _ _ _=>none) (fun _ go G todo e H=>emS G.nt (emT G.ems todo) e H fun e H=>sxT G (go G) (go G.off) todo e H) n G
theorem xZkH (n:Nat) (todo:List SI) (e:SE T) (H:BH T):sx G (n+1) todo e H=emS G.nt (emT G.ems todo) e H fun e H=>sxT G (sx G n) (sx G.off n) todo e H:=rfl
end
end
end Go.Proofs.YtmfkphajohcklaaGreat.O
namespace Go.Proofs.YtmfkphajohcklaaGreat.O
open Go
section
variable {T:Nat→Type} {B:Tb T}
structure Tb.Ok (B:Tb T):Prop where
 enc:∀ i x,BV.avs B (B.enc i x)=(B.eA i x).cells
 len:∀ i x,(B.enc i x).length=B.k i
 one:∀ i x,ones (B.eA i x).cells=true
 dat:∀ i x,(B.eA i x).data=true
 sg:∀ i x,B.ag i=false→(B.eA i x).cells=[B.eA i x]
 ag:∀ i x,B.ag i=true→B.eA i x=.agg (B.eA i x).cells
 dec:∀ i cs x,B.dec i cs=some x→LWs (BV.avs B cs) (B.eA i x).cells
 el:∀ i x (R:Type) (K:BV T→Option R) r,B.el i x R K=some r→∃ z,z.av B=B.eX i x∧K z=some r
 fd:∀ i ty v x,B.fd i ty v=some x→∃ y,B.eX i x=.ifc ty y∧(v.av B).dd=true∧LW (v.av B) y
theorem xZaV {j i:Nat} {l:List (T j)} {l':List (T i)} (h:castR j i l=some l'):∃ e:j=i,l'=e ▸ l:=by
 unfold castR at h
 split at h
 ·rename_i e;exact ⟨e,by cases h;rfl⟩
 ·cases h
theorem xZhl {k:IntKind} {x:BV T} {n:Int} (h:asInt k x=some n):x=.int k n:=by
 unfold asInt at h
 split at h
 ·split at h
  ·rename_i e;cases h;rw [e]
  ·cases h
 ·cases h
theorem xZfE {x:BV T} {b:Bool} (h:asBool x=some b):x=.bool b:=by
 unfold asBool at h
 split at h
 ·cases h;rfl
 ·cases h
theorem xZhm {x:BV T} {s:List UInt8} (h:asStr x=some s):x=.str s:=by
 unfold asStr at h
 split at h
 ·cases h;rfl
 ·cases h
theorem xZmq {k:FloatKind} {x:BV T} {n:Nat} (h:asFlt k x=some n):x=.flt k n:=by
 unfold asFlt at h
 split at h
 ·split at h
  ·rename_i e;cases h;rw [e]
  ·cases h
 ·cases h
theorem xZ8Q {i:Nat} {x:BV T} {l:List (T i)} (h:asRow i x=some l):LW (x.av B) ((BV.sl i l:BV T).av B):=by
 unfold asRow at h
 split at h
 ·obtain ⟨e,rfl⟩:=xZaV h
  subst e;exact .refl _
 ·cases h;simp only [BV.av,List.map_nil];exact .emp _
 ·cases h
def Pat.i (k:IntKind):Pat B Int:=⟨asInt k,.int k,fun x a h=>by rw [xZhl h];exact .refl _⟩
def Pat.b:Pat B Bool:=⟨asBool,.bool,fun x a h=>by rw [xZfE h];exact .refl _⟩
def Pat.s:Pat B (List UInt8):=⟨asStr,.str,fun x a h=>by rw [xZhm h];exact .refl _⟩
def Pat.f (k:FloatKind):Pat B Nat:=⟨asFlt k,.flt k,fun x a h=>by rw [xZmq h];exact .refl _⟩
def Pat.r (i:Nat):Pat B (List (T i)):=⟨asRow i,.sl i,fun x a h=>xZ8Q h⟩
def castT (j i:Nat) (x:T j):Option (T i):=if h:j=i then some (h ▸ x) else none
theorem xZjr {j i:Nat} {x:T j} {y:T i} (h:castT j i x=some y):∃ e:j=i,y=e ▸ x:=by
 unfold castT at h
 split at h
 ·rename_i e;exact ⟨e,by cases h;rfl⟩
 ·cases h
def asTr (i:Nat):BV T→Option (T i)
 | .tr j x=>castT j i x
 | _=>none
theorem xZnH {i:Nat} {x:BV T} {y:T i} (h:asTr i x=some y):x=.tr i y:=by
 unfold asTr at h
 split at h
 ·obtain ⟨e,rfl⟩:=xZjr h;subst e;rfl
 ·cases h
def Pat.tr (i:Nat):Pat B (T i):=⟨asTr i,.tr i,fun x a h=>by rw [xZnH h];exact .refl _⟩
def Pat.li (k:IntKind) (m:Int):Pat B Unit:=⟨fun x=>match asInt k x with
 | some n=>if n=m then some () else none
 | none=>none,fun _=>.int k m,fun x a h=>by
 split at h
 ·rename_i n hn
  split at h
  ·rename_i e;rw [xZhl hn,e];exact .refl _
  ·cases h
 ·cases h⟩
def Pat.lb (m:Bool):Pat B Unit:=⟨fun x=>match asBool x with
 | some n=>if n=m then some () else none
 | none=>none,fun _=>.bool m,fun x a h=>by
 split at h
 ·rename_i n hn
  split at h
  ·rename_i e;rw [xZfE hn,e];exact .refl _
  ·cases h
 ·cases h⟩
def Pat.ls (m:List UInt8):Pat B Unit:=⟨fun x=>match asStr x with
 | some n=>if n=m then some () else none
 | none=>none,fun _=>.str m,fun x a h=>by
 split at h
 ·rename_i n hn
  split at h
  ·rename_i e;rw [xZhm hn,e];exact .refl _
  ·cases h
 ·cases h⟩
def Pat.own (t:Nat):Pat B Unit:=⟨fun x=>match x with
 | .own u=>match h:Nat.beq u t with
   | true=>some ()
   | false=>none
 | _=>none,fun _=>.own t,fun x a h=>by
 split at h
 ·split at h
  ·rename_i e;rw [Nat.eq_of_beq_eq_true e];exact .refl _
  ·cases h
 ·cases h⟩
def Pat.ptr (b o:Nat):Pat B Unit:=⟨fun x=>match x with
 | .ptr b' o'=>match h:Nat.beq b' b,h':Nat.beq o' o with
   | true,true=>some ()
   | _,_=>none
 | _=>none,fun _=>.ptr b o,fun x a h=>by
 split at h
 ·split at h
  ·rename_i e e';rw [Nat.eq_of_beq_eq_true e,Nat.eq_of_beq_eq_true e'];exact .refl _
  ·cases h
 ·cases h⟩
def Pat.ni:Pat B Unit:=⟨fun x=>match x with
 | .raw (.v .nilIface)=>some ()
 | _=>none,fun _=>.raw (.v .nilIface),fun x a h=>by
 split at h
 ·exact .refl _
 ·cases h⟩
def Pat.e:Pat B Unit:=⟨fun x=>match x with
 | .emp=>some ()
 | _=>none,fun _=>.emp,fun x a h=>by
 split at h
 ·exact .refl _
 ·cases h⟩
def PL.n:PL B Unit:=⟨fun x=>match x with
 | []=>some ()
 | _=>none,fun _=>[],fun x a h=>by
 split at h
 ·exact .refl _
 ·cases h⟩
def PL.c {A A':Type} (p:Pat B A) (q:PL B A'):PL B (A×A'):=⟨fun x=>match x with
 | y::l=>match p.dec y,q.dec l with
   | some a,some b=>some (a,b)
   | _,_=>none
 | []=>none,fun a=>p.enc a.1::q.enc a.2,fun x a h=>by
 split at h
 ·split at h
  ·rename_i h1 h2;cases h;simp only [BV.avs];exact .cons (p.ok _ _ h1) (q.ok _ _ h2)
  ·cases h
 ·cases h⟩
def PL.el (hB:B.Ok) (i:Nat):PL B (T i):=⟨B.dec i,B.enc i,fun x a h=>by rw [hB.enc];exact hB.dec i x a h⟩
def decN (k:Nat) {α:Type} (d:List (BV T)→Option α):Nat→List (BV T)→Option (List α)
 | 0,[]=>some []
 | 0,_=>none
 | m+1,cs=>match d (cs.take k),decN k d m (cs.drop k) with
   | some a,some l=>some (a::l)
   | _,_=>none
theorem xZlL {k:Nat} {α:Type} {d:List (BV T)→Option α} {f:α→List AV} (hd:∀ cs a,d cs=some a→LWs (BV.avs B cs) (f a)):∀ {m:Nat} {cs:List (BV T)} {l:List α},decN k d m cs=some l→LWs (BV.avs B cs) (flm f l)
 | 0,[],l,h=>by cases h;exact .nil
 | 0,_::_,l,h=>by cases h
 | m+1,cs,l,h=>by
   simp only [decN] at h
   split at h
   ·rename_i a l' h1 h2
    cases h
    have e:BV.avs B cs=BV.avs B (cs.take k)++BV.avs B (cs.drop k):=by rw [xZ5B,xZ5B,xZ5B,← List.map_append,List.take_append_drop]
    rw [e]
    exact LWs.append (hd _ _ h1) (xZlL hd h2)
   ·cases h
def PL.a (hB:B.Ok) (i:Nat) {A':Type} (q:PL B A'):PL B (T i×A'):=⟨fun x=>match B.dec i (x.take (B.k i)),q.dec (x.drop (B.k i)) with
 | some a,some b=>some (a,b)
 | _,_=>none,fun a=>B.enc i a.1++q.enc a.2,fun x a h=>by
 split at h
 ·rename_i h1 h2
  cases h
  have e:BV.avs B x=BV.avs B (x.take (B.k i))++BV.avs B (x.drop (B.k i)):=by rw [xZ5B,xZ5B,xZ5B,← List.map_append,List.take_append_drop]
  rw [e,xZ5B B (_++_),List.map_append,← xZ5B,← xZ5B,hB.enc]
  exact LWs.append (hB.dec i _ _ h1) (q.ok _ _ h2)
 ·cases h⟩
def Pat.ag {A:Type} (p:PL B A):Pat B A:=⟨fun x=>match x with
 | .agg cs=>p.dec cs
 | _=>none,fun a=>.agg (p.enc a),fun x a h=>by
 split at h
 ·simp only [BV.av];exact .agg (p.ok _ _ h)
 ·cases h⟩
def Pat.tu {A:Type} (p:PL B A):Pat B A:=⟨fun x=>match x with
 | .tup cs=>p.dec cs
 | _=>none,fun a=>.tup (p.enc a),fun x a h=>by
 split at h
 ·simp only [BV.av];exact .tup (p.ok _ _ h)
 ·cases h⟩
def Pat.dp {A:Type} (p:PL B A):Pat B A:=⟨fun x=>match x with
 | .dptr cs=>p.dec cs
 | _=>none,fun a=>.dptr (p.enc a),fun x a h=>by
 split at h
 ·simp only [BV.av];exact .dptr (p.ok _ _ h)
 ·cases h⟩
def Pat.fn {A A':Type} (f:FuncId) (p:PL B A) (q:PL B A'):Pat B (A×A'):=⟨fun x=>match x with
 | .fn (.func g) a b=>match h:Nat.beq g f,p.dec a,q.dec b with
   | true,some u,some v=>some (u,v)
   | _,_,_=>none
 | _=>none,fun a=>.fn (.func f) (p.enc a.1) (q.enc a.2),fun x a h=>by
 split at h
 ·split at h
  ·rename_i e h1 h2;cases h;simp only [BV.av];rw [Nat.eq_of_beq_eq_true e];exact .fn _ (p.ok _ _ h1) (q.ok _ _ h2)
  ·cases h
 ·cases h⟩
def Pat.ifc {A:Type} (t:TypeId) (p:Pat B A):Pat B A:=⟨fun x=>match x with
 | .ifc t' y=>match h:Nat.beq t' t with
   | true=>p.dec y
   | false=>none
 | _=>none,fun a=>.ifc t (p.enc a),fun x a h=>by
 split at h
 ·split at h
  ·rename_i e;simp only [BV.av];rw [Nat.eq_of_beq_eq_true e];exact .ifc _ (p.ok _ _ h)
  ·cases h
 ·cases h⟩
def Pat.el (hB:B.Ok) (i:Nat):Pat B (T i):=Pat.ag (PL.el hB i)
theorem xZeK (m:Nat) (v:BV T) (r:SE T) (n:Nat):lk ((m,v)::r) n=if m=n then v else lk r n:=by
 simp only [lk]
 by_cases h:m=n
 ·subst h;simp
 ·have:Nat.beq m n=false:=by
   cases hb:Nat.beq m n with
   | true=>exact absurd (Nat.eq_of_beq_eq_true hb) h
   | false=>rfl
  rw [this,if_neg h]
def PE.n:PE B Unit:=⟨[],fun _=>some (),fun _=>[],fun _=>rfl,fun _ _ _ _=>.inr rfl⟩
def PE.c {A A':Type} (n:Nat) (p:Pat B A) (q:PE B A'):PE B (A×A'):=⟨n::q.ks,fun e=>match p.dec (lk e n),q.dec e with
 | some a,some b=>some (a,b)
 | _,_=>none,fun a=>(n,p.enc a.1)::q.enc a.2,fun a=>by simp [q.key],fun e a h i=>by
 split at h
 ·rename_i h1 h2
  cases h
  rw [xZeK]
  by_cases hi:n=i
  ·subst hi;rw [if_pos rfl];exact .inl (p.ok _ _ h1)
  ·rw [if_neg hi];exact q.ok e _ h2 i
 ·cases h⟩
def PX.n:PX B Unit:=⟨fun x=>match x with
 | []=>some ()
 | _=>none,fun _=>[],fun x a h=>by
 split at h
 ·exact ⟨rfl,fun _=>.refl _⟩
 ·cases h⟩
def PX.c {A A':Type} (p:PL B A) (q:PX B A'):PX B (A×A'):=⟨fun x=>match x with
 | y::l=>match p.dec y,q.dec l with
   | some a,some b=>some (a,b)
   | _,_=>none
 | []=>none,fun a=>p.enc a.1::q.enc a.2,fun x a h=>by
 split at h
 ·split at h
  ·rename_i h1 h2
   cases h
   obtain ⟨q1,q2⟩:=q.ok _ _ h2
   refine ⟨by simp [q1],fun b=>?_⟩
   cases b with
   | zero=>exact p.ok _ _ h1
   | succ b=>exact q2 b
  ·cases h
 ·cases h⟩
def PU.n:PU B Unit:=⟨fun x=>match x with
 | []=>some ()
 | _=>none,fun _=>[],fun x a h=>by
 split at h
 ·rfl
 ·cases h⟩
def PU.d {A':Type} (q:PU B A'):PU B A':=⟨fun x=>match x with
 | .dead::l=>q.dec l
 | _=>none,fun a=>.dead::q.enc a,fun x a h=>by
 split at h
 ·simp only [List.map_cons,q.ok _ _ h]
 ·cases h⟩
def PU.l {A':Type} (i:Nat) (q:PU B A'):PU B (List (T i)×A'):=⟨fun x=>match x with
 | .live j xs::l=>match castR j i xs,q.dec l with
   | some a,some b=>some (a,b)
   | _,_=>none
 | _=>none,fun a=>.live i a.1::q.enc a.2,fun x a h=>by
 split at h
 ·split at h
  ·rename_i h1 h2
   cases h
   obtain ⟨e,rfl⟩:=xZaV h1
   subst e
   simp only [List.map_cons,q.ok _ _ h2]
  ·cases h
 ·cases h⟩
def PU.f {A':Type} (i:Nat) (q:PU B A'):PU B (List (T i)×A'):=⟨fun x=>match x with
 | .froz j xs::l=>match castR j i xs,q.dec l with
   | some a,some b=>some (a,b)
   | _,_=>none
 | _=>none,fun a=>.froz i a.1::q.enc a.2,fun x a h=>by
 split at h
 ·split at h
  ·rename_i h1 h2
   cases h
   obtain ⟨e,rfl⟩:=xZaV h1
   subst e
   simp only [List.map_cons,q.ok _ _ h2]
  ·cases h
 ·cases h⟩
def PU.m {A':Type} (ks:List IntKind) (i:Nat) (q:PU B A'):PU B (List (T i)×A'):=⟨fun x=>match x with
 | .map k j xs::l=>match decide (k=ks),castR j i xs,q.dec l with
   | true,some a,some b=>some (a,b)
   | _,_,_=>none
 | _=>none,fun a=>.map ks i a.1::q.enc a.2,fun x a h=>by
 split at h
 ·split at h
  ·rename_i h0 h1 h2
   cases h
   obtain ⟨e,rfl⟩:=xZaV h1
   subst e
   have h0:=of_decide_eq_true h0
   subst h0
   simp only [List.map_cons,q.ok _ _ h2]
  ·cases h
 ·cases h⟩
theorem xZnf {H:BH T} {bx:List (List (BV T))} {bu:List (BB T)} (h1:H.box.length=bx.length∧∀ b,LWs (BV.avs B (H.box.getD b [])) (BV.avs B (bx.getD b []))) (h2:H.buf.map (BB.av B)=bu.map (BB.av B)):LWH (H.av B) ((⟨bx,bu⟩:BH T).av B):=by
 have e:∀ (l:List (List (BV T))) b,(l.map (BV.avs B)).getD b []=BV.avs B (l.getD b []):=fun l b=>by
  simp only [List.getD,List.getElem?_map]
  cases l[b]? with
  | none=>simp [BV.avs]
  | some x=>rfl
 have h3:(BH.av B H).buf=(BH.av B ⟨bx,bu⟩).buf:=h2
 refine ⟨by simp [BH.av,h1.1],by rw [h3],fun b=>?_,fun t=>by rw [h3];exact .refl _⟩
 simp only [BH.av,e]
 exact h1.2 b
def Out.p {R:Type} (o:Pat B R):Out B R:=
 ⟨fun v H=>match H with
   | ⟨[],[]⟩=>o.dec v
   | _=>none,fun r=>(o.enc r,⟨[],[]⟩),fun r K=>K (o.enc r) ⟨[],[]⟩,fun _ _=>rfl,fun x H r h=>by
 split at h
 ·exact ⟨o.ok _ _ h,LWH.refl _⟩
 ·cases h⟩
def Out.m {R1 R2 R3 R:Type} (o:Pat B R1) (x:PX B R2) (u:PU B R3) (to:R1×R2×R3→R) (of:R→R1×R2×R3) (h:∀ z,of (to z)=z):Out B R:=
 ⟨fun v H=>match o.dec v,x.dec H.box,u.dec H.buf with
   | some a,some b,some c=>some (to (a,b,c))
   | _,_,_=>none,fun r=>(o.enc (of r).1,⟨x.enc (of r).2.1,u.enc (of r).2.2⟩),fun r K=>K (o.enc (of r).1) ⟨x.enc (of r).2.1,u.enc (of r).2.2⟩,fun _ _=>rfl,fun v H r h0=>by
 split at h0
 ·rename_i h1 h2 h3
  cases h0
  rw [h]
  exact ⟨o.ok _ _ h1,xZnf (x.ok _ _ h2) (u.ok _ _ h3)⟩
 ·cases h0⟩
def Out.or {R1 R2:Type} (o1:Out B R1) (o2:Out B R2):Out B (R1⊕R2):=
 ⟨fun v H=>match o1.dec v H with
   | some r=>some (.inl r)
   | none=>match o2.dec v H with
     | some r=>some (.inr r)
     | none=>none,fun r=>match r with
   | .inl r=>o1.enc r
   | .inr r=>o2.enc r,fun r K=>Sum.elim (fun r=>o1.elim r K) (fun r=>o2.elim r K) r,fun r K=>by
     cases r with
     | inl r=>exact o1.eE r K
     | inr r=>exact o2.eE r K,fun v H r h=>by
 split at h
 ·rename_i h1;cases h;exact o1.ok _ _ _ h1
 ·split at h
  ·rename_i h2;cases h;exact o2.ok _ _ _ h2
  ·cases h⟩
def Con.p (f:FuncId) (md:List Bool) {A:Type} (p:PL B A) {R:Type} (sh:Nat→A→Option R) (o:Out B R) (ho:∀ r,(o.enc r).2=⟨[],[]⟩):Con B:=
 ⟨f,A,R,md,fun xs H=>match H with
   | ⟨[],[]⟩=>p.dec xs
   | _=>none,fun a=>(p.enc a,⟨[],[]⟩),sh,o,true,false,fun xs H a h=>(by
 split at h
 ·exact ⟨p.ok _ _ h,LWH.refl _⟩
 ·cases h),fun _=>⟨fun _=>rfl,ho⟩,fun h=>(by cases h)⟩
def Con.s (f:FuncId) (md:List Bool) {A:Type} (p:PL B A) {R:Type} (sh:Nat→A→Option R) (o:Out B R) (ho:∀ r,(o.enc r).2=⟨[],[]⟩∧((o.enc r).1.av B).scal=true):Con B:=
 ⟨f,A,R,md,fun xs H=>match H with
   | ⟨[],[]⟩=>p.dec xs
   | _=>none,fun a=>(p.enc a,⟨[],[]⟩),sh,o,true,true,fun xs H a h=>(by
 split at h
 ·exact ⟨p.ok _ _ h,LWH.refl _⟩
 ·cases h),fun _=>⟨fun _=>rfl,fun r=>(ho r).1⟩,fun _ r=>(ho r).2⟩
def Con.m (f:FuncId) (md:List Bool) {A1 A2 A3:Type} (p:PL B A1) (x:PX B A2) (u:PU B A3) {R:Type} (sh:Nat→A1×A2×A3→Option R) (o:Out B R):Con B:=
 ⟨f,A1×A2×A3,R,md,fun xs H=>match p.dec xs,x.dec H.box,u.dec H.buf with
   | some a,some b,some c=>some (a,b,c)
   | _,_,_=>none,fun a=>(p.enc a.1,⟨x.enc a.2.1,u.enc a.2.2⟩),sh,o,false,false,fun xs H a h=>(by
 split at h
 ·rename_i h1 h2 h3
  cases h
  exact ⟨p.ok _ _ h1,xZnf (x.ok _ _ h2) (u.ok _ _ h3)⟩
 ·cases h),fun h=>(by cases h),fun h=>(by cases h)⟩
structure LQ (B:Tb T) (A:Type) where
 ks:List Nat
 em:List (Nat×Option Nat×Nat)
 live:List Nat
 dec:SE T→BH T→Option A
 enc:A→SE T×BH T
 key:∀ a,(enc a).1.map (·.1)=ks
 ok:∀ e H a,dec e H=some a→(∀ i,LW ((lk e i).av B) ((lk (enc a).1 i).av B)∨lk (enc a).1 i=.raw .any)∧LWH (H.av B) ((enc a).2.av B)
def LQ.m (em:List (Nat×Option Nat×Nat)) (live:List Nat) {A1 A2 A3:Type} (p:PE B A1) (x:PX B A2) (u:PU B A3):LQ B (A1×A2×A3):=
 ⟨p.ks,em,live,fun e H=>match p.dec e,x.dec H.box,u.dec H.buf with
   | some a,some b,some c=>some (a,b,c)
   | _,_,_=>none,fun a=>(p.enc a.1,⟨x.enc a.2.1,u.enc a.2.2⟩),fun a=>p.key a.1,fun e H a h=>by
 split at h
 ·rename_i h1 h2 h3
  cases h
  exact ⟨p.ok _ _ h1,xZnf (x.ok _ _ h2) (u.ok _ _ h3)⟩
 ·cases h⟩
def Lp.of {A R:Type} (q:LQ B A) (run:A→Option R):Lp B R:=⟨A,q.ks,q.em,q.live,q.dec,q.enc,run,q.key,q.ok⟩
end
end Go.Proofs.YtmfkphajohcklaaGreat.O
namespace Go.Proofs.YtmfkphajohcklaaGreat.O
open Go
def bwA (k:IntKind) (a b:Int):Int:=k.wrap (BitVec.ofInt k.bits a &&& BitVec.ofInt k.bits b).toNat
def bwO (k:IntKind) (a b:Int):Int:=k.wrap (BitVec.ofInt k.bits a ||| BitVec.ofInt k.bits b).toNat
def bwX (k:IntKind) (a b:Int):Int:=k.wrap (BitVec.ofInt k.bits a ^^^ BitVec.ofInt k.bits b).toNat
def bwN (k:IntKind) (a b:Int):Int:=k.wrap (BitVec.ofInt k.bits a &&& ~~~ BitVec.ofInt k.bits b).toNat
def bd (P:Program) (fn:Func):SC:=match fn.body with
 | some c=>match comp P false c with
   | some s=>s
   | none=>.bad
 | none=>.bad
def resOf (P:Program) (fn:Func):List Rs:=match cRes P fn.results.toList with
 | some l=>l
 | none=>[]
def isOk (P:Program) (fn:Func):Bool:=match fn.body with
 | some c=>(comp P false c).isSome&&(cRes P fn.results.toList).isSome&&!(fn.name == "runtime.NumGoroutine")
 | none=>false
theorem Is.of {P:Program} {f:FuncId} {fn:Func} (hf:P.funcs[f]?=some fn) (h:isOk P fn=true):Is P f fn.ntmps (resOf P fn) (bd P fn):=by
 unfold isOk at h
 split at h
 ·rename_i c hc
  simp only [Bool.and_eq_true,Bool.not_eq_true'] at h
  obtain ⟨⟨h1,h2⟩,h3⟩:=h
  obtain ⟨s,h1⟩:=Option.isSome_iff_exists.1 h1
  obtain ⟨r,h2⟩:=Option.isSome_iff_exists.1 h2
  exact Is.mk' fn c false hf hc (by simp only [bd,hc,h1]) (by simp only [resOf,h2]) rfl h3
 ·cases h
def lpL:SC→List SI→List (Nat×List SI)
 | .seq a b,k=>lpL a (.c b::k)++lpL b k
 | .cond _ a b,k=>lpL a k++lpL b k
 | .block i a,k=>lpL a (.blk i::k)
 | .scope a,k=>lpL a (.scp::k)
 | .loop b,k=>match k with
   | .blk i::_=>(i,.lp b::k)::lpL b (.lp b::k)
   | _=>lpL b (.lp b::k)
 | _,_=>[]
def lkp:List (Nat×List SI)→Nat→List SI
 | [],_=>[]
 | (m,l)::r,n=>match Nat.beq m n with
   | true=>l
   | false=>lkp r n
def jn1 (ms:List Nat) (c:SC) (k:List SI) (r:List (Nat×List SI)):List (Nat×List SI):=match isJn ms c with
 | none=>r
 | some i=>(i,.c c::k)::r
def jpL (ms:List Nat):SC→List SI→List (Nat×List SI)
 | .seq a b,k=>jpL ms a (.c b::k)++jpL ms b k
 | .cond x a b,k=>jn1 ms (.cond x a b) k (jpL ms a k++jpL ms b k)
 | .block i a,k=>jpL ms a (.blk i::k)
 | .scope a,k=>jpL ms a (.scp::k)
 | .loop b,k=>jpL ms b (.lp b::k)
 | .ops d l,k=>jn1 ms (.ops d l) k []
 | _,_=>[]
def allL (ms:List Nat) (c:SC):List (Nat×List SI):=match ms with
 | []=>lpL c []
 | _::_=>lpL c []++jpL ms c []
def stkO (ms:List Nat) (c:SC) (id:Nat):List SI:=lkp (allL ms c) id
def stk (ms:List Nat) (c:SC) (id:Nat):List SI:=match stkO ms c id with
 | .lp b::k=>.c b::.lp b::k
 | l=>l
section
variable {T:Nat→Type} {B:Tb T}
def argN:Nat→List (BV T)→SE T
 | _,[]=>[]
 | n,x::l=>(n,x)::argN (n+1) l
def argE (l:List (BV T)):SE T:=argN 0 l
def loopV {V R:Type} (f:(V→Option R)→V→Option R):Nat→V→Option R
 | 0,_=>none
 | n+1,v=>f (loopV f n) v
def lp0 {R:Type} (f:Option R→Option R) (n:Nat):Option R:=loopV (fun next (_:Unit)=>f (next ())) n ()
def lp1 {α0 R:Type} (f:(α0→Option R)→α0→Option R) (n:Nat) (u0:α0):Option R:=loopV (fun next (v:α0)=>f (fun u0=>next u0) v) n u0
def lp2 {α0 α1 R:Type} (f:(α0→α1→Option R)→α0→α1→Option R) (n:Nat) (u0:α0) (u1:α1):Option R:=loopV (fun next (v:α0×α1)=>f (fun u0 u1=>next (u0,u1)) v.1 v.2) n (u0,u1)
def lp3 {α0 α1 α2 R:Type} (f:(α0→α1→α2→Option R)→α0→α1→α2→Option R) (n:Nat) (u0:α0) (u1:α1) (u2:α2):Option R:=loopV (fun next (v:α0×α1×α2)=>f (fun u0 u1 u2=>next (u0,u1,u2)) v.1 v.2.1 v.2.2) n (u0,u1,u2)
def lp4 {α0 α1 α2 α3 R:Type} (f:(α0→α1→α2→α3→Option R)→α0→α1→α2→α3→Option R) (n:Nat) (u0:α0) (u1:α1) (u2:α2) (u3:α3):Option R:=loopV (fun next (v:α0×α1×α2×α3)=>f (fun u0 u1 u2 u3=>next (u0,u1,u2,u3)) v.1 v.2.1 v.2.2.1 v.2.2.2) n (u0,u1,u2,u3)
def lp6 {α0 α1 α2 α3 α4 α5 R:Type} (f:(α0→α1→α2→α3→α4→α5→Option R)→α0→α1→α2→α3→α4→α5→Option R) (n:Nat) (u0:α0) (u1:α1) (u2:α2) (u3:α3) (u4:α4) (u5:α5):Option R:=loopV (fun next (v:α0×α1×α2×α3×α4×α5)=>f (fun u0 u1 u2 u3 u4 u5=>next (u0,u1,u2,u3,u4,u5)) v.1 v.2.1 v.2.2.1 v.2.2.2.1 v.2.2.2.2.1 v.2.2.2.2.2) n (u0,u1,u2,u3,u4,u5)
def lp14 {α0 α1 α2 α3 α4 α5 α6 α7 α8 α9 α10 α11 α12 α13 R:Type} (f:(α0→α1→α2→α3→α4→α5→α6→α7→α8→α9→α10→α11→α12→α13→Option R)→α0→α1→α2→α3→α4→α5→α6→α7→α8→α9→α10→α11→α12→α13→Option R) (n:Nat) (u0:α0) (u1:α1) (u2:α2) (u3:α3) (u4:α4) (u5:α5) (u6:α6) (u7:α7) (u8:α8) (u9:α9) (u10:α10) (u11:α11) (u12:α12) (u13:α13):Option R:=loopV (fun next (v:α0×α1×α2×α3×α4×α5×α6×α7×α8×α9×α10×α11×α12×α13)=>f (fun u0 u1 u2 u3 u4 u5 u6 u7 u8 u9 u10 u11 u12 u13=>next (u0,u1,u2,u3,u4,u5,u6,u7,u8,u9,u10,u11,u12,u13)) v.1 v.2.1 v.2.2.1 v.2.2.2.1 v.2.2.2.2.1 v.2.2.2.2.2.1 v.2.2.2.2.2.2.1 v.2.2.2.2.2.2.2.1 v.2.2.2.2.2.2.2.2.1 v.2.2.2.2.2.2.2.2.2.1 v.2.2.2.2.2.2.2.2.2.2.1 v.2.2.2.2.2.2.2.2.2.2.2.1 v.2.2.2.2.2.2.2.2.2.2.2.2.1 v.2.2.2.2.2.2.2.2.2.2.2.2.2) n (u0,u1,u2,u3,u4,u5,u6,u7,u8,u9,u10,u11,u12,u13)
theorem xZ1I {α X:Type} {d:BV T→Option α} {f:α→List (BV T)→Option X} {cs:List (BV T)} {x:X} (h:P1 d f cs=some x):∃ c r a,cs=c::r∧d c=some a∧f a r=some x:=by
 cases cs with
 | nil=>cases h
 | cons c r=>
   obtain ⟨a,h1,h2⟩:=Option.bind_eq_some_iff.1 h
   exact ⟨c,r,a,rfl,h1,h2⟩
theorem xZ8e {X:Type} {y x:X} {cs:List (BV T)} (h:P0 y cs=some x):cs=[]∧x=y:=by
 cases cs with
 | nil=>cases h;exact ⟨rfl,rfl⟩
 | cons c r=>cases h
theorem xZ3f {k:IntKind} {x:BV T} {n:Int} (h:asInt k x=some n):LW (x.av B) (.v (.int k n)):=by rw [xZhl h];exact .refl _
theorem xZcJ {x:BV T} {b:Bool} (h:asBool x=some b):LW (x.av B) (.v (.bool b)):=by rw [xZfE h];exact .refl _
theorem xZ9i {x:BV T} {s:List UInt8} (h:asStr x=some s):LW (x.av B) (.v (.string (bs s))):=by rw [xZhm h];exact .refl _
def PL.o {A:Type} (p:Pat B A):PL B A:=⟨fun x=>match x with
 | [y]=>p.dec y
 | _=>none,fun a=>[p.enc a],fun x a h=>by
 split at h
 ·simp only [BV.avs];exact .cons (p.ok _ _ h) .nil
 ·cases h⟩
def LQ.re {A A':Type} (q:LQ B A) (to:A→A') (of:A'→A) (h:∀ a,of (to a)=a):LQ B A':=
 ⟨q.ks,q.em,q.live,fun e H=>match q.dec e H with
   | some a=>some (to a)
   | none=>none,fun a=>q.enc (of a),fun a=>q.key (of a),fun e H a h0=>by
 split at h0
 ·rename_i h1;cases h0;rw [h];exact q.ok _ _ _ h1
 ·cases h0⟩
def Con.clone (f:FuncId) (i:Nat) (sh:Nat→List (T i)→Option (List (T i))):Con B:=.m f [true] (.o (.r i)) .n .n (fun N a=>sh N a.1) (.m (.own 0) .n (.l i .n) (fun z=>z.2.2.1) (fun r=>((),(),r,())) (fun _=>rfl))
def Con.cloneD (f:FuncId) (i:Nat) (sh:Nat→List (T i)→Option (List (T i))):Con B:=.p f [true] (.o (.r i)) (fun N a=>sh N a) (.p (.r i)) (fun _=>rfl)
end
end Go.Proofs.YtmfkphajohcklaaGreat.O
namespace Go.Proofs.YtmfkphajohcklaaGreat.O
open Go
section
variable {T:Nat→Type} {B:Tb T}
theorem xZkS (s:ByteArray):bs s.data.toList=s:=by simp [bs]
theorem xZjs (x:AV):(cbv1 x:BV T).av B=x:=by
 cases x with
 | v y=>cases y<;>simp only [cbv1,BV.av,xZkS]
 | _=>simp only [cbv1,BV.av]
theorem xZeu (l:List AV):BV.avs B (l.map (cbv1 (T:=T)))=l:=by
 rw [xZ5B,List.map_map]
 exact (List.map_congr_left fun x _=>xZjs x).trans (List.map_id _)
theorem xZnO (x:AV):(cbv x:BV T).av B=x:=by
 unfold cbv
 split
 ·simp only [BV.av,xZeu]
 ·simp only [BV.av,BV.avs]
 ·exact xZjs _
structure RelE (B:Tb T) (e:SE T) (t:List AV) (ns:Nat):Prop where
 len:t.length=ns
 get:∀ i,t.getD i .any=(lk e i).av B
theorem RelE.od {e:SE T} {t ns} (h:RelE B e t ns) (x:Od):od t x=(bod e x).av B:=by
 cases x with
 | t n=>exact h.get n
 | c x=>exact (xZnO x).symm
theorem RelE.ods {e:SE T} {t ns} (h:RelE B e t ns) (l:List Od):l.map (Go.Proofs.YtmfkphajohcklaaGreat.O.od t)=BV.avs B (l.map (bod e)):=by
 rw [xZ5B,List.map_map]
 exact List.map_congr_left fun x _=>h.od x
theorem RelE.put {e:SE T} {t ns} (h:RelE B e t ns) {d:Option Nat} (hd:okD ns d=true) (v:BV T):RelE B (putE e d v) (putT t d (v.av B)) ns:=by
 cases d with
 | none=>exact h
 | some d=>
   have hd:d < ns:=by simpa [okD] using hd
   refine ⟨by simp [putT,h.len],fun i=>?_⟩
   simp only [putE,putT,xZeK]
   by_cases hi:d=i
   ·subst hi;rw [if_pos rfl,xZ2Y (by rw [h.len];exact hd)]
   ·rw [if_neg hi,getD_set_ne' hi];exact h.get i
theorem xZ4n (l:List (BV T)):(BV.avs B l).length=l.length:=by rw [xZ5B];simp
theorem xZev (l:List (BV T)) (i:Nat):(BV.avs B l).getD i .any=(l.getD i (.raw .any)).av B:=by
 rw [xZ5B]
 simp only [List.getD,List.getElem?_map]
 cases l[i]? with
 | none=>simp [BV.av]
 | some x=>rfl
theorem xZ6A (l m:List (BV T)):BV.avs B (l++m)=BV.avs B l++BV.avs B m:=by simp [xZ5B]
theorem xZcr (l:List (BV T)) (n:Nat):BV.avs B (l.take n)=(BV.avs B l).take n:=by simp [xZ5B,List.map_take]
theorem xZba (l:List (BV T)) (n:Nat):BV.avs B (l.drop n)=(BV.avs B l).drop n:=by simp [xZ5B,List.map_drop]
theorem xZjp (l:List (BV T)) (n:Nat) (x:BV T):BV.avs B (l.set n x)=(BV.avs B l).set n (x.av B):=by simp [xZ5B,List.map_set]
theorem xZnJ (l:List AV):BV.avs B (l.map (BV.raw (T:=T)))=l:=by
 rw [xZ5B,List.map_map]
 exact (List.map_congr_left fun x _=>by simp only [Function.comp,BV.av];rfl).trans (List.map_id _)
theorem xZam (x:BV T):BV.avs B x.cells=(x.av B).cells:=by
 cases x with
 | raw x=>
   cases x with
   | agg cs=>simp only [BV.cells,BV.av,AV.cells,xZnJ]
   | _=>simp only [BV.cells,BV.av,AV.cells,BV.avs]
 | agg cs=>simp only [BV.cells,BV.av,AV.cells]
 | _=>simp only [BV.cells,BV.av,AV.cells,BV.avs]
theorem xZcM (x:BV T):(x.av B).cells.length=x.cells.length:=by rw [← xZam,xZ4n]
theorem xZr0 (x:BV T):(x.av B).one=x.one:=by
 cases x<;>simp only [BV.av,BV.one]<;>rfl
theorem xZdQ (l:List (BV T)):ones (BV.avs B l)=onesB l:=by
 induction l with
 | nil=>rfl
 | cons x l ih=>simp only [BV.avs,ones,onesB,List.all_cons,xZr0] at ih ⊢;rw [ih]
theorem mk_av (ag:Bool) (cs:List (BV T)):(mkB ag cs).av B=mk ag (BV.avs B cs):=by
 cases ag with
 | true=>simp only [mkB,mk,BV.av,if_true]
 | false=>
   simp only [mkB,mk,Bool.false_eq_true,if_false]
   cases cs with
   | nil=>simp [BV.av,BV.avs]
   | cons x l=>simp [BV.avs]
theorem xZkr:∀ (xs cs:List (BV T)) (o:Nat),BV.avs B (putB cs o xs)=putCells (BV.avs B cs) o (BV.avs B xs)
 | [],cs,o=>by simp [putB,putCells,BV.avs]
 | x::xs,cs,o=>by simp only [putB,BV.avs,putCells];rw [xZkr xs,xZjp]
theorem xZlT {e:SE T} {t ns} (h:RelE B e t ns):∀ (ps:List (Nat×Nat×Od)) (cs r:List (BV T)),fillS e cs ps=some r→fillA t (BV.avs B cs) ps=some (BV.avs B r)
 | [],cs,r,hf=>by simp only [fillS,Option.some.injEq] at hf;subst hf;rfl
 | (o,n,x)::ps,cs,r,hf=>by
   simp only [fillS] at hf
   split at hf
   ·rename_i hc
    simp only [Bool.and_eq_true,Nat.beq_eq,Nat.ble_eq] at hc
    simp only [fillA,h.od,xZcM,← xZam,xZdQ,xZ4n]
    rw [if_pos ⟨hc.1.1,hc.1.2,hc.2⟩,← xZkr]
    exact xZlT h ps _ _ hf
   ·cases hf
theorem xZiT (H:BH T) (b:Nat):(H.av B).box.getD b []=BV.avs B (H.box.getD b []):=by
 simp only [BH.av,List.getD,List.getElem?_map]
 cases H.box[b]? with
 | none=>simp [BV.avs]
 | some x=>rfl
theorem xZdp {H:BH T} {b:Nat} {cs:List (BV T)} (h:H.box[b]?=some cs):(H.av B).box.getD b []=BV.avs B cs:=by
 rw [xZiT];simp [List.getD,h]
theorem xZ9A (H:BH T) (t:Nat):(H.av B).buf.getD t .dead=(bufA H t).av B:=by
 simp only [BH.av,bufA,List.getD,List.getElem?_map]
 cases H.buf[t]? with
 | none=>rfl
 | some x=>rfl
theorem xZew (H:BH T):(H.av B).box.length=H.box.length:=by simp [BH.av]
theorem buf_len' (H:BH T):(H.av B).buf.length=H.buf.length:=by simp [BH.av]
theorem xZmY (b:BB T):(frzBB b).av B=frzB (b.av B):=by cases b<;>rfl
theorem xZbO (H:BH T) (ts:List Nat):(frzHB H ts).av B=frzH (H.av B) ts:=by
 have key:∀ (ts:List Nat) (buf:List (BB T)),(ts.foldl (fun buf t=>buf.set t (frzBB (buf.getD t .dead))) buf).map (BB.av B)=ts.foldl frzT (buf.map (BB.av B)):=by
  intro ts
  induction ts with
  | nil=>intro buf;rfl
  | cons x ts ih=>
    intro buf
    simp only [List.foldl_cons]
    rw [ih]
    congr 1
    have e:(buf.map (BB.av B)).getD x .dead=(buf.getD x .dead).av B:=by
     simp only [List.getD,List.getElem?_map]
     cases buf[x]?<;>rfl
    simp only [frzT,e,List.map_set,xZmY]
 simp only [frzHB,frzH,BH.av,key]
theorem xZp4 (x:BV T):own1B x=own1 (x.av B):=by
 cases x<;>simp only [own1B,BV.av]<;>rfl
theorem xZp5 (x:BV T):ownsB x=owns (x.av B):=by
 cases x with
 | agg cs=>
   simp only [ownsB,BV.av,owns,xZ5B]
   induction cs with
   | nil=>rfl
   | cons y l ih=>simp only [List.flatMap_cons,List.map_cons,xZp4 (B:=B) y,ih]
 | raw x=>simp only [ownsB,BV.av]
 | _=>simp only [ownsB,BV.av,owns,own1B]<;>rfl
theorem xZlX (H:BH T) (x:BV T):(frz1S B H x).av B=frz1 (H.av B) (x.av B):=by
 cases x with
 | own t=>
   simp only [frz1S,BV.av,frz1,xZ9A]
   cases bufA H t<;>simp only [BB.av,frz1B,BV.av]
 | raw x=>simp only [frz1S,BV.av]
 | _=>simp only [frz1S,BV.av]<;>rfl
theorem xZmZ (H:BH T) (x:BV T):(frzS' B H x).av B=frz (H.av B) (x.av B):=by
 cases x with
 | agg cs=>
   simp only [frzS',BV.av,frz,xZ5B,List.map_map]
   congr 1
   exact List.map_congr_left fun y _=>xZlX H y
 | raw x=>simp only [frzS',BV.av]
 | own t=>simp only [frzS',frz,BV.av];rw [xZlX];simp only [BV.av]
 | _=>simp only [frzS',frz,BV.av,frz1S]<;>rfl
theorem LW.dat {x y:AV} (h:LW x y):x.dat=y.dat:=by cases h<;>rfl
theorem LWs.dats:∀ {a b:List AV},LWs a b→a.all AV.dat=b.all AV.dat
 | _,_,.nil=>rfl
 | _,_,.cons h r=>by simp only [List.all_cons,h.dat,LWs.dats r]
variable (hB:B.Ok)
include hB
theorem xZqJ {i:Nat} {x:BV T} {a:T i} (hx:Bool.xor (isAgB x) (B.ag i)=false) (h:B.dec i x.cells=some a):LW (x.av B) (B.eA i a):=by
 have hc:=hB.dec i _ _ h
 rw [xZam] at hc
 cases hg:B.ag i with
 | true=>
   rw [hg] at hx
   rw [hB.ag i a hg]
   cases x with
   | agg cs=>exact .agg hc
   | raw x=>
     cases x with
     | agg cs=>exact .agg hc
     | _=>simp [isAgB] at hx
   | _=>simp [isAgB] at hx
 | false=>
   rw [hg] at hx
   rw [hB.sg i a hg] at hc
   have e:(x.av B).cells=[x.av B]:=by
    cases x with
    | agg cs=>simp [isAgB] at hx
    | raw x=>
      cases x with
      | agg cs=>simp [isAgB] at hx
      | _=>simp only [BV.av,AV.cells]
    | _=>simp only [BV.av,AV.cells]
   rw [e] at hc
   cases hc with
   | cons h _=>exact h
theorem xZjL {i:Nat}:∀ {xs:List (BV T)} {l:List (T i)},decL B i xs=some l→LWs (BV.avs B xs) (l.map (B.eA i))
 | [],l,h=>by cases h;exact .nil
 | x::xs,l,h=>by
   simp only [decL] at h
   split at h
   ·rename_i hx ha hl
    cases h
    exact .cons (xZqJ hB hx ha) (xZjL hl)
   ·cases h
theorem xZlm {i:Nat} {x:AV} {a:T i} (h:LW x (B.eA i a)):okE (B.k i) x:=by
 have hc:=h.cells
 refine ⟨?_,?_,?_⟩
 ·rw [hc.len,← hB.enc,xZ4n,hB.len]
 ·rw [hc.ones];exact hB.one i a
 ·have:=hB.dat i a
  simp only [AV.data] at this ⊢
  rw [hc.dats];exact this
theorem xZdC {i:Nat}:∀ {xs:List AV} {l:List (T i)},LWs xs (l.map (B.eA i))→okEs (B.k i) xs
 | [],_,_=>trivial
 | x::xs,[],h=>by cases h
 | x::xs,a::l,h=>by
   cases h with
   | cons h r=>exact ⟨xZlm hB h,xZdC r⟩
end
theorem OS.lw {P:Program} {o:SO} {t:List AV} {H H' H'':AH} {r r':AV} (h:OS P o t H (.ret r) H') (hr:LW r r') (hH:LWH H' H''):OS P o t H (.ret r') H'':=by
 intro wr oc hc M S w a hx hh hp K Q hK
 exact h wr oc hc M S w a hx hh hp K Q fun M' S' v w' h1 h2 h3=>hK M' S' v w' (h1.lw hH) (h2.lwR hH) (hr.rep h3)
end Go.Proofs.YtmfkphajohcklaaGreat.O
namespace Go.Proofs.YtmfkphajohcklaaGreat.O
open Go
section
variable {T:Nat→Type} {B:Tb T} {R:Type}
def StepOk (B:Tb T) (P:Program) (dr:Bool) (t:List AV) (H:BH T) (d:Option Nat) (o:SO) (ns:Nat) (K:SE T→BH T→Option R) (r:R):Prop:=∃ v H1 e' H',ES P dr o t (H.av B) v H1∧RelE B e' (putT t d v) ns∧H1=H'.av B∧K e' H'=some r
variable {P:Program} {dr:Bool} {e:SE T} {t:List AV} {ns:Nat} {H:BH T} {d:Option Nat} {K:SE T→BH T→Option R} {r:R}
theorem xZoW {P:Program} {o:SO} {t:List AV} {H H':AH} {r r':AV} (h:OS P o t H (.ret r) H') (hl:∀ M S w v,VRep M S w v r→VRep M S w v r'):OS P o t H (.ret r') H':=
 fun wr oc hc M S w a hx hh hp K Q hk=>h wr oc hc M S w a hx hh hp K Q fun M' S' v w' h1 h2 h3=>hk M' S' v w' h1 h2 (hl _ _ _ _ h3)
theorem StepOk.kOp {o:SO} (hr:RelE B e t ns) (hd:okD ns d=true) {v:BV T} {H':BH T} (h:kOp (fun t' H1=>t'=putT t d (v.av B)∧H1=H'.av B) dr t (H.av B) d o) (hK:K (putE e d v) H'=some r):StepOk B P dr t H d o ns K r:=by
 obtain ⟨r1,H1,es,ht,hH⟩:=xZoJ (P:=P) h
 exact ⟨r1,H1,putE e d v,H',es,by rw [ht];exact hr.put hd v,hH,hK⟩
theorem xZ3p {p:Bool} {x:Option R} (h:gd p x=some r):p=true∧x=some r:=by
 cases p with
 | true=>exact ⟨rfl,h⟩
 | false=>cases h
theorem xZe9 (a b:Int):leB a b=decide (a≤b):=by
 rw [Bool.eq_iff_iff,decide_eq_true_iff]
 cases a<;>cases b<;>simp only [leB,Nat.ble_eq,Bool.false_eq_true,false_iff,true_iff,Int.ofNat_eq_natCast]<;>omega
theorem xZd1 (a b:Int):ltB a b=decide (a < b):=by
 simp only [ltB,xZe9]
 rw [Bool.eq_iff_iff]
 simp
theorem xZfS (n:Int):i64b n=true ↔ i64in n:=by
 simp only [i64b,xZe9,Bool.and_eq_true,decide_eq_true_iff,i64in]
theorem xZ18 {a b:Int}:leB a b=true ↔ a≤b:=by rw [xZe9];simp
theorem xZqB {op:BinOp} {wr:Bool} {k:IntKind} {a b:Int} {K:BV T→Option R} (h:biI op wr k a b K=some r):
 ∃ v p,(if op=.shl∨op=.shr then shf op k a b else binI op wr k a b)=some (p,BV.av B v)∧p∧K v=some r:=by
 cases op with
 | add=>
   simp only [biI] at h
   split at h
   ·obtain ⟨h1,h2⟩:=xZ3p h
    exact ⟨_,_,by simp [binI,BV.av],(xZfS _).1 h1,h2⟩
   ·rename_i hn
    refine ⟨_,True,?_,trivial,h⟩
    simp only [binI,BV.av]
    simp only [reduceCtorEq,or_self,if_false]
    rw [if_neg (by rintro ⟨rfl,rfl⟩;exact hn rfl rfl)]
 | sub=>
   simp only [biI] at h
   split at h
   ·obtain ⟨h1,h2⟩:=xZ3p h
    exact ⟨_,_,by simp [binI,BV.av],(xZfS _).1 h1,h2⟩
   ·rename_i hn
    refine ⟨_,True,?_,trivial,h⟩
    simp only [binI,BV.av]
    simp only [reduceCtorEq,or_self,if_false]
    rw [if_neg (by rintro ⟨rfl,rfl⟩;exact hn rfl rfl)]
 | mul=>
   simp only [biI] at h
   split at h
   ·obtain ⟨h1,h2⟩:=xZ3p h
    exact ⟨_,_,by simp [binI,BV.av],(xZfS _).1 h1,h2⟩
   ·rename_i hn
    refine ⟨_,True,?_,trivial,h⟩
    simp only [binI,BV.av]
    simp only [reduceCtorEq,or_self,if_false]
    rw [if_neg (by rintro ⟨rfl,rfl⟩;exact hn rfl rfl)]
 | quo=>obtain ⟨h1,h2⟩:=xZ3p h;exact ⟨_,_,by simp [binI,BV.av];rfl,by simpa using h1,h2⟩
 | rem=>obtain ⟨h1,h2⟩:=xZ3p h;exact ⟨_,_,by simp [binI,BV.av];rfl,by simpa using h1,h2⟩
 | shl=>obtain ⟨h1,h2⟩:=xZ3p h;exact ⟨_,_,by simp [shf,BV.av],xZ18.1 h1,h2⟩
 | shr=>obtain ⟨h1,h2⟩:=xZ3p h;exact ⟨_,_,by simp [shf,BV.av],xZ18.1 h1,h2⟩
 | lss=>exact ⟨_,True,by simp only [BV.av,xZd1];rfl,trivial,h⟩
 | leq=>exact ⟨_,True,by simp only [BV.av,xZe9];rfl,trivial,h⟩
 | gtr=>exact ⟨_,True,by simp only [BV.av,xZd1];rfl,trivial,h⟩
 | geq=>exact ⟨_,True,by simp only [BV.av,xZe9];rfl,trivial,h⟩
 | _=>exact ⟨_,True,by simp only [BV.av];rfl,trivial,h⟩
theorem xZqC {op:BinOp} {x y:List UInt8} {K:BV T→Option R} (h:biS op x y K=some r):
 ∃ v p,binS op x y=some (p,BV.av B v)∧p∧K v=some r:=by
 cases op with
 | add=>
   obtain ⟨h1,h2⟩:=xZ3p h
   refine ⟨_,_,by simp only [binS,BV.av];rfl,?_,h2⟩
   have:=Nat.le_of_ble_eq_true h1
   omega
 | eql=>exact ⟨_,True,by simp only [BV.av];rfl,trivial,h⟩
 | neq=>exact ⟨_,True,by simp only [BV.av];rfl,trivial,h⟩
 | lss=>exact ⟨_,True,by simp only [BV.av];rfl,trivial,h⟩
 | leq=>exact ⟨_,True,by simp only [BV.av];rfl,trivial,h⟩
 | gtr=>exact ⟨_,True,by simp only [BV.av];rfl,trivial,h⟩
 | geq=>exact ⟨_,True,by simp only [BV.av];rfl,trivial,h⟩
 | _=>cases h
theorem xZbs (s:List UInt8):(bs s).data.toList=s:=by simp [bs]
theorem xZqD {op:BinOp} {wr:Bool} {x y:BV T} {K:BV T→Option R} (h:binS' op wr x y K=some r):
 ∃ v p,binV op wr (x.av B) (y.av B)=some (p,BV.av B v)∧p∧K v=some r:=by
 unfold binS' at h
 split at h
 ·rename_i k a k' b
  split at h
  ·rename_i hk
   obtain ⟨v,p,h1,h2,h3⟩:=xZqB (B:=B) h
   refine ⟨v,p,?_,h2,h3⟩
   simp only [BV.av,binV]
   rw [← h1]
   by_cases hs:op=.shl∨op=.shr
   ·rw [if_pos hs,if_pos hs]
   ·rw [if_neg hs,if_neg hs]
    have hns:isShift op=false:=by cases op<;>simp_all [isShift]
    rw [hns,Bool.false_or,decide_eq_true_iff] at hk
    rw [if_pos hk]
  ·cases h
 ·obtain ⟨v,p,h1,h2,h3⟩:=xZqC (B:=B) h
  exact ⟨v,p,by simp only [BV.av,binV,xZbs];exact h1,h2,h3⟩
 ·cases h
theorem xZeM (ne b:Bool):neS ne b=neB ne b:=by cases ne<;>rfl
theorem xZoe {k:EK} {x y:BV T} {b:Bool} (h:eqL1 k x y=some b):eq1 k (x.av B) (y.av B)=some b:=by
 unfold eqL1 at h
 split at h
 ·simp only [BV.av,eq1];exact h
 ·simp only [BV.av,eq1,xZbs];exact h
 ·simp only [BV.av,eq1];exact h
 ·cases h
theorem xZjR {xs ys:List (BV T)}:∀ {l:List (Nat×EK)} {b:Bool},eqLs l xs ys=some b→eqCells l (BV.avs B xs) (BV.avs B ys)=some b
 | [],b,h=>h
 | [(o,k)],b,h=>by
   simp only [eqLs] at h
   have:=xZoe (B:=B) h
   simp only [eqCells,xZev,this,Bool.and_true]
 | (o,k)::p::l,b,h=>by
   simp only [eqLs] at h
   split at h
   ·rename_i b1 b2 h1 h2
    cases h
    have q1:=xZoe (B:=B) h1
    have q2:=xZjR (l:=p::l) h2
    rw [eqCells,xZev,xZev,q1,q2]
   ·cases h
end
end Go.Proofs.YtmfkphajohcklaaGreat.O
namespace Go.Proofs.YtmfkphajohcklaaGreat.O
open Go
structure Hint.Ok {T:Nat→Type} (B:Tb T) (h:Hint T):Prop where
 sb:∀ k f s,h.sb k=some f→k=1∧B.k (f s).1=1∧(f s).2.map (B.eA (f s).1)=s.map byteV
 bo:∀ i l s,h.bo i l=some s→B.k i=1∧∃ m:List Int,l.map (B.eA i)=m.map u8V∧s=byS m
section
variable {T:Nat→Type} {B:Tb T} {R:Type}
variable {P:Program} {dr:Bool} {e:SE T} {t:List AV} {ns:Nat} {H:BH T} {d:Option Nat} {K:SE T→BH T→Option R} {r:R}
theorem kO_of {Rk:List AV→AH→Prop} {x:Option (Prop×AV)} {p:Prop} {v:AV} (h:x=some (p,v)) (hp:p) (hR:Rk (putT t d v) (H.av B)):kO Rk t (H.av B) d x:=by
 rw [h];exact ⟨hp,hR⟩
theorem beq_eq {a b:Nat} (h:Nat.beq a b=true):a=b:=Nat.eq_of_beq_eq_true h
theorem xZf6 {α:Type} {l:List α} {n:Int} {x:α} (h:ix l n=some x):0≤n∧n < (l.length:Int)∧l[n.toNat]?=some x:=by
 obtain ⟨h1,h2,_,h3⟩:=xZoI h
 exact ⟨h1,h2,h3⟩
theorem xZqS {st:Bool} {x v:BV T} (h:lenB' H st x=some v):lenV (H.av B) st (x.av B)=some (True,v.av B):=by
 unfold lenB' at h
 split at h
 ·split at h
  ·cases h;simp only [BV.av,lenV,xZbs,if_true]
  ·cases h
 ·split at h
  ·cases h
  ·cases h;simp [BV.av,lenV]
 ·split at h
  ·cases h
  ·cases h;simp [BV.av,lenV]
 ·split at h
  ·rename_i hb;cases h;simp only [BV.av,lenV,xZ9A,hb,BB.av,lenB];simp
  ·rename_i hb;cases h;simp only [BV.av,lenV,xZ9A,hb,BB.av,lenB];simp
  ·cases h
 ·cases h
theorem xZqM {ne c:Bool} {x y v:BV T} (h:eqiB ne c x y=some v):eqiV ne c (x.av B) (y.av B)=some (True,v.av B):=by
 unfold eqiB at h
 split at h
 ·split at h
  ·cases h;simp [BV.av,eqiV,xZeM]
  ·cases h
 ·cases h;simp [BV.av,eqiV,xZeM]
 ·cases h;simp [BV.av,eqiV,xZeM]
 ·cases h
theorem xZqN {ne:Bool} {x y v:BV T} (h:eqpB ne x y=some v):eqpV ne (x.av B) (y.av B)=some (True,v.av B):=by
 unfold eqpB at h
 split at h
 ·cases h;simp [BV.av,eqpV,xZeM]
 ·cases h;simp [BV.av,eqpV,xZeM]
 ·cases h;simp [BV.av,eqpV,xZeM]
 ·cases h;simp [BV.av,eqpV,xZeM]
 ·split at h
  ·rename_i hc
   simp only [Bool.and_eq_true] at hc
   have h1:=beq_eq hc.1
   have h2:=beq_eq hc.2
   cases h;simp [BV.av,eqpV,xZeM,h1,h2]
  ·cases h
 ·cases h
theorem xZlI (hr:RelE B e t ns) {x:Option Od} {a:Option Int} (h:bndO e x=some a) (n:Int):bnd t n x=some (a.getD n):=by
 cases x with
 | none=>cases h;rfl
 | some y=>
   simp only [bndO] at h
   split at h
   ·rename_i k m hm
    cases h
    simp only [bnd,hr.od,hm,BV.av,Option.getD]
   ·cases h
theorem xZjJ {α:Type} {l:List α} {lo hi:Option Int} {x:Option R} (h:cutS lo hi (l.length:Int) x=some r):
 0≤lo.getD 0∧lo.getD 0≤hi.getD (l.length:Int)∧hi.getD (l.length:Int)≤(l.length:Int)∧cutL l lo hi=(l.take (hi.getD (l.length:Int)).toNat).drop (lo.getD 0).toNat∧x=some r:=by
 unfold cutS at h
 cases lo with
 | none=>
   cases hi with
   | none=>exact ⟨by simp,by simp,by simp,by simp [cutL],h⟩
   | some b=>
     obtain ⟨h1,h⟩:=xZ3p h
     obtain ⟨h2,h⟩:=xZ3p h
     exact ⟨by simp,xZ18.1 h1,xZ18.1 h2,by simp [cutL],h⟩
 | some a=>
   cases hi with
   | none=>
     obtain ⟨h1,h⟩:=xZ3p h
     obtain ⟨h2,h⟩:=xZ3p h
     exact ⟨xZ18.1 h1,xZ18.1 h2,by simp,by simp [cutL],h⟩
   | some b=>
     obtain ⟨h1,h⟩:=xZ3p h
     obtain ⟨h2,h⟩:=xZ3p h
     obtain ⟨h3,h⟩:=xZ3p h
     exact ⟨xZ18.1 h1,xZ18.1 h2,xZ18.1 h3,by simp [cutL],h⟩
variable (hB:B.Ok)
include hB
theorem xZrn (hr:RelE B e t ns) (hd:okD ns d=true) {st:Bool} {k:Nat} {x:Od} {lo hi mx:Option Od} (h:slcS B e H dr st k (bod e x) lo hi mx (fun v H=>K (putE e d v) H)=some r):StepOk B P dr t H d (.slc st k x lo hi mx) ns K r:=by
 unfold slcS at h
 split at h
 ·rename_i m
  split at h
  ·rename_i kz i l hx
   split at h
   ·rename_i h1 h2
    refine StepOk.kOp (v:=.emp) hr hd ?_ h
    simp only [kOp,kSlc,hr.od,hx,BV.av]
    refine kO_of (p:=True) ?_ trivial ⟨rfl,rfl⟩
    have b1:bnd t 0 lo=some 0:=by
     cases lo with
     | none=>rfl
     | some y=>simp only [bndS] at h1;split at h1<;>simp_all [bnd,hr.od,BV.av]
    have b2:bnd t 1 hi=some 0:=by
     cases hi with
     | none=>simp [bndS] at h2
     | some y=>simp only [bndS] at h2;split at h2<;>simp_all [bnd,hr.od,BV.av]
    simp [slcO,b1,b2,BV.av]
   ·cases h
  ·rename_i kz hx
   split at h
   ·rename_i h1 h2
    refine StepOk.kOp (v:=.emp) hr hd ?_ h
    simp only [kOp,kSlc,hr.od,hx,BV.av]
    refine kO_of (p:=True) ?_ trivial ⟨rfl,rfl⟩
    have b1:bnd t 0 lo=some 0:=by
     cases lo with
     | none=>rfl
     | some y=>simp only [bndS] at h1;split at h1<;>simp_all [bnd,hr.od,BV.av]
    have b2:bnd t 1 hi=some 0:=by
     cases hi with
     | none=>simp [bndS] at h2
     | some y=>simp only [bndS] at h2;split at h2<;>simp_all [bnd,hr.od,BV.av]
    simp [slcO,b1,b2,BV.av]
   ·cases h
  ·cases h
 ·split at h
  ·rename_i a b ha hb
   have b1:=xZlI hr ha 0
   have b2:=fun n=>xZlI hr hb n
   split at h
   ·rename_i s hx
    split at h
    ·obtain ⟨c1,c2,c3,c4,h⟩:=xZjJ h
     refine StepOk.kOp (v:=.str (cutL s a b)) hr hd ?_ h
     simp only [kOp,kSlc,hr.od,hx,BV.av]
     refine kO_of (p:=0≤a.getD 0∧a.getD 0≤b.getD (s.length:Int)∧b.getD (s.length:Int)≤(s.length:Int)) ?_ ⟨c1,c2,c3⟩ ⟨rfl,rfl⟩
     simp only [slcO,b1,lenV,xZbs,if_true,b2,slcV,BV.av,c4]
    ·cases h
   ·rename_i i l hx
    split at h
    ·rename_i hk
     simp only [Bool.and_eq_true,Bool.not_eq_true'] at hk
     obtain ⟨rfl,hk⟩:=hk
     have hk:=beq_eq hk
     obtain ⟨c1,c2,c3,c4,h⟩:=xZjJ h
     refine StepOk.kOp (v:=.sl i (cutL l a b)) hr hd ?_ h
     simp only [kOp,kSlc,hr.od,hx,BV.av]
     refine kO_of (p:=0≤a.getD 0∧a.getD 0≤b.getD (l.length:Int)∧b.getD (l.length:Int)≤(l.length:Int)) ?_ ⟨c1,c2,c3⟩ ⟨rfl,rfl⟩
     simp only [slcO,b1,lenV,Bool.false_eq_true,if_false,b2,slcV,hk,if_true,slcL,List.length_map,BV.av,c4,List.map_drop,List.map_take]
    ·cases h
   ·rename_i hx
    split at h
    ·cases h
    ·obtain ⟨c1,c2,c3,c4,h⟩:=xZjJ (l:=([]:List Nat)) h
     refine StepOk.kOp (v:=.emp) hr hd ?_ h
     simp only [kOp,kSlc,hr.od,hx,BV.av]
     simp only [List.length_nil,Int.natCast_zero] at c2 c3
     have c3:b.getD 0≤0:=by simpa using c3
     have c2:a.getD 0≤b.getD 0:=by simpa using c2
     refine kO_of (p:=_) ?_ (show a.getD 0=0∧b.getD 0=0 from ⟨by omega,by omega⟩) ⟨rfl,rfl⟩
     simp [slcO,b1,b2,lenV,slcV,BV.av]
   ·rename_i u hx
    split at h
    ·rename_i i l hbu
     split at h
     ·rename_i hk
      simp only [Bool.and_eq_true,Bool.not_eq_true'] at hk
      obtain ⟨rfl,hk⟩:=hk
      have hk:=beq_eq hk
      obtain ⟨c1,c2,c3,c4,h⟩:=xZjJ h
      refine StepOk.kOp (v:=.sl i (cutL l a b)) hr hd ?_ h
      simp only [kOp,kSlc,hr.od,hx,BV.av,xZ9A,hbu,BB.av,kSlcB]
      refine kO_of (p:=0≤a.getD 0∧a.getD 0≤b.getD (l.length:Int)∧b.getD (l.length:Int)≤(l.length:Int)) ?_ ⟨c1,c2,c3⟩ ⟨rfl,rfl⟩
      simp only [slcO,b1,lenV,xZ9A,hbu,BB.av,lenB,Bool.false_eq_true,if_false,b2,slcV,slcB,hk,if_true,slcL,List.length_map,BV.av,c4,List.map_drop,List.map_take]
     ·cases h
    ·rename_i i l hbu
     split at h
     ·rename_i hk
      simp only [Bool.and_eq_true,Bool.not_eq_true'] at hk
      obtain ⟨⟨rfl,hk⟩,rfl⟩:=hk
      have hk:=beq_eq hk
      obtain ⟨c1,c2,c3,c4,h⟩:=xZjJ h
      refine StepOk.kOp (v:=.sl i (cutL l a b)) hr hd ?_ h
      have hfz:(frzH (H.av B) [u]).buf.getD u .dead=.froz (B.k i) (l.map (B.eA i)):=by
       rw [← xZbO,xZ9A]
       have hlt:u < H.buf.length:=by
        rcases Nat.lt_or_ge u H.buf.length with h' | h'
        ·exact h'
        ·simp [bufA,List.getD,List.getElem?_eq_none h'] at hbu
       have:bufA (frzHB H [u]) u=.froz i l:=by
        simp only [bufA] at hbu
        simp only [bufA,frzHB,List.foldl_cons,List.foldl_nil,xZ2Y hlt,hbu,frzBB]
       rw [this];rfl
      simp only [kOp,kSlc,hr.od,hx,BV.av,xZ9A,hbu,BB.av,kSlcB]
      refine ⟨(by first | rfl | trivial),?_⟩
      have e1:slcO t (frzH (H.av B) [u]) false k (.own u) lo hi none=some (0≤a.getD 0∧a.getD 0≤b.getD (l.length:Int)∧b.getD (l.length:Int)≤(l.length:Int),(BV.sl i (cutL l a b):BV T).av B):=by
       simp only [slcO,b1,lenV,hfz,lenB,Bool.false_eq_true,if_false,b2,slcV,slcB,hk,if_true,slcL,List.length_map,BV.av,c4,List.map_drop,List.map_take]
      rw [e1]
      exact ⟨⟨c1,c2,c3⟩,rfl,by rw [xZbO]⟩
     ·cases h
    ·cases h
   ·cases h
  ·cases h
end
mutual
theorem LW.trans:∀ {x y z:AV},LW x y→LW y z→LW x z
 | _,_,_,.refl _,h=>h
 | _,_,_,.emp k,h=>by
   cases h with
   | refl=>exact .emp k
   | sl _ q=>cases q;exact .emp k
 | _,_,_,.sl k a,h=>by
   cases h with
   | refl=>exact .sl k a
   | sl _ q=>exact .sl k (LWs.trans a q)
 | _,_,_,.agg a,h=>by
   cases h with
   | refl=>exact .agg a
   | agg q=>exact .agg (LWs.trans a q)
 | _,_,_,.tup a,h=>by
   cases h with
   | refl=>exact .tup a
   | tup q=>exact .tup (LWs.trans a q)
 | _,_,_,.dptr a,h=>by
   cases h with
   | refl=>exact .dptr a
   | dptr q=>exact .dptr (LWs.trans a q)
 | _,_,_,.fn f a b,h=>by
   cases h with
   | refl=>exact .fn f a b
   | fn _ q q'=>exact .fn f (LWs.trans a q) (LWs.trans b q')
 | _,_,_,.ifc t a,h=>by
   cases h with
   | refl=>exact .ifc t a
   | ifc _ q=>exact .ifc t (LW.trans a q)
theorem LWs.trans:∀ {a b c:List AV},LWs a b→LWs b c→LWs a c
 | _,_,_,.nil,h=>h
 | _,_,_,.cons x r,h=>by
   cases h with
   | cons y q=>exact .cons (LW.trans x y) (LWs.trans r q)
end
theorem LWs.take:∀ {a b:List AV} (n:Nat),LWs a b→LWs (a.take n) (b.take n)
 | _,_,0,_=>by rw [List.take_zero,List.take_zero];exact .nil
 | _,_,_+1,.nil=>.nil
 | _,_,n+1,.cons h r=>.cons h (LWs.take n r)
theorem LWs.drop:∀ {a b:List AV} (n:Nat),LWs a b→LWs (a.drop n) (b.drop n)
 | _,_,0,h=>h
 | _,_,_+1,.nil=>.nil
 | _,_,n+1,.cons _ r=>LWs.drop n r
theorem LWs.set:∀ {a b:List AV} (n:Nat) (x:AV),LWs a b→LWs (a.set n x) (b.set n x)
 | _,_,_,_,.nil=>.nil
 | _,_,0,x,.cons _ r=>.cons (.refl x) r
 | _,_,n+1,x,.cons h r=>.cons h (LWs.set n x r)
theorem xZeQ:∀ (ys:List AV) {a b:List AV} (o:Nat),LWs a b→LWs (putCells a o ys) (putCells b o ys)
 | [],_,_,_,h=>h
 | y::ys,_,_,o,h=>xZeQ ys (o+1) (h.set o y)
theorem xZdR:∀ (ys a b:List AV) (o:Nat),o+ys.length≤a.length→putCells (a++b) o ys=putCells a o ys++b
 | [],_,_,_,_=>rfl
 | y::ys,a,b,o,h=>by
   simp only [List.length_cons] at h
   simp only [putCells]
   rw [List.set_append,if_pos (by omega)]
   exact xZdR ys _ b (o+1) (by rw [List.length_set];omega)
theorem xZ91:∀ (ys a b:List AV) (o:Nat),putCells (a++b) (a.length+o) ys=a++putCells b o ys
 | [],_,_,_=>rfl
 | y::ys,a,b,o=>by
   simp only [putCells]
   rw [List.set_append,if_neg (by omega),show a.length+o - a.length=o by omega,Nat.add_assoc]
   exact xZ91 ys a _ (o+1)
theorem mk_lw (ag:Bool) {a b:List AV} (h:LWs a b):LW (mk ag a) (mk ag b):=by
 cases ag with
 | true=>exact .agg h
 | false=>cases h with
   | nil=>exact .refl _
   | cons h _=>exact h
section
variable {T:Nat→Type} {B:Tb T} {R:Type}
theorem xZjd (p q:List (Nat×Nat×Int×Nat)):pofs B (p++q)=pofs B p+pofs B q:=by
 induction p with
 | nil=>simp [pofs]
 | cons a p ih=>simp only [List.cons_append,pofs,ih];omega
theorem xZkq:∀ (q:Nat×Nat×Int×Nat) (p:List (Nat×Nat×Int×Nat)) (x:Nat),pofs B (pofA (q::p) x)=pofs B (q::p)+x
 | (i,m,n,f),[],x=>by simp only [pofA,pofs];omega
 | (i,m,n,f),a::p,x=>by
   have:=xZkq a p x
   simp only [pofA,pofs] at this ⊢
   omega
theorem xZjX {a b:Int}:ieq a b=true ↔ a=b:=by
 simp only [ieq,Bool.and_eq_true,xZ18];omega
theorem xZmh {i:Nat} {n:Int} {v:T i}:∀ (l:List (T i)) (j:Nat),n < (j:Int)→setM n v j l=l
 | [],_,_=>rfl
 | x::l,j,h=>by
   have hc:ieq n (Int.ofNat j)=false:=by
    rw [Bool.eq_false_iff];intro hc;rw [xZjX] at hc
    have:(Int.ofNat j:Int)=(j:Int):=rfl
    omega
   simp only [setM,hc,cond_false]
   rw [xZmh l (j+1) (by omega)]
variable (hB:B.Ok)
include hB
theorem xZo8 (i:Nat) (x:T i):(B.eA i x).cells.length=B.k i:=by rw [← hB.enc,xZ4n,hB.len]
theorem xZei {i m:Nat} {cs:List (BV T)} {l:List (T i)} (h:decM B i (m+1) cs=some l):
 ∃ a l',l=a::l'∧B.dec i (cs.take (B.k i))=some a∧decM B i m (cs.drop (B.k i))=some l'∧(cs.take (B.k i)).length=B.k i∧LWs (BV.avs B (cs.take (B.k i))) (B.eA i a).cells:=by
 simp only [decM] at h
 split at h
 ·rename_i a l' h1 h2
  cases h
  have q:=hB.dec _ _ _ h1
  have:=q.len
  rw [xZ4n,xZo8 hB] at this
  exact ⟨a,l',rfl,h1,h2,this,q⟩
 ·cases h
theorem xZbU (cs:List (BV T)) (k:Nat):BV.avs B cs=BV.avs B (cs.take k)++BV.avs B (cs.drop k):=by
 rw [← xZ6A,List.take_append_drop]
theorem xZhw {i:Nat}:∀ {m:Nat} {cs:List (BV T)} {l:List (T i)},decM B i m cs=some l→l.length=m∧m * B.k i≤cs.length
 | 0,cs,l,h=>by cases h;simp
 | m+1,cs,l,h=>by
   obtain ⟨a,l',rfl,_,h2,h3,_⟩:=xZei hB h
   obtain ⟨q1,q2⟩:=xZhw h2
   rw [List.length_drop] at q2
   rw [List.length_take] at h3
   refine ⟨by simp [q1],?_⟩
   rw [Nat.succ_mul];omega
theorem xZid {i:Nat}:∀ {m:Nat} {cs:List (BV T)} {l:List (T i)} {q:Nat} {el:T i},decM B i m cs=some l→l[q]?=some el→
 ∃ pre mid suf,BV.avs B cs=pre++mid++suf∧pre.length=q * B.k i∧mid.length=B.k i∧LWs mid (B.eA i el).cells
 | 0,cs,l,q,el,h,hq=>by cases h;simp at hq
 | m+1,cs,l,q,el,h,hq=>by
   obtain ⟨a,l',rfl,_,h2,h3,h4⟩:=xZei hB h
   cases q with
   | zero=>
     have:a=el:=by simpa using hq
     subst this
     exact ⟨[],BV.avs B (cs.take (B.k i)),BV.avs B (cs.drop (B.k i)),by rw [List.nil_append];exact xZbU hB cs _,by simp,by rw [xZ4n];exact h3,h4⟩
   | succ q=>
     obtain ⟨pre,mid,suf,e1,e2,e3,e4⟩:=xZid h2 (by simpa using hq)
     refine ⟨BV.avs B (cs.take (B.k i))++pre,mid,suf,?_,?_,e3,e4⟩
     ·rw [xZbU hB cs (B.k i),e1];simp only [List.append_assoc]
     ·rw [List.length_append,xZ4n,h3,e2,Nat.succ_mul];omega
theorem xZlP {i:Nat}:∀ {m:Nat} {cs:List (BV T)} {l:List (T i)},decM B i m cs=some l→LWs (BV.avs B cs) (BV.avs B (encM B i l (cs.drop (m * B.k i))))
 | 0,cs,l,h=>by cases h;simp only [encM,Nat.zero_mul,List.drop_zero];exact .refl _
 | m+1,cs,l,h=>by
   obtain ⟨a,l',rfl,_,h2,h3,h4⟩:=xZei hB h
   have ih:=xZlP h2
   rw [List.drop_drop,show B.k i+m * B.k i=(m+1) * B.k i by rw [Nat.succ_mul];omega] at ih
   simp only [encM]
   rw [xZbU hB cs (B.k i),xZ6A,hB.enc]
   exact LWs.append h4 ih
theorem xZkD {i:Nat} {el el':T i} {n:Int} {t:Nat} {ys:List AV} (ht:t+ys.length≤B.k i)
 (X:∀ c:List AV,LWs c (B.eA i el).cells→LWs (putCells c t ys) (B.eA i el').cells):
 ∀ {m:Nat} {cs:List (BV T)} {l:List (T i)} {q j:Nat},decM B i m cs=some l→l[q]?=some el→n=((j+q:Nat):Int)→
 LWs (putCells (BV.avs B cs) (q * B.k i+t) ys) (BV.avs B (encM B i (setM n el' j l) (cs.drop (m * B.k i))))
 | 0,cs,l,q,j,h,hq,_=>by cases h;simp at hq
 | m+1,cs,l,q,j,h,hq,hn=>by
   obtain ⟨a,l',rfl,_,h2,h3,h4⟩:=xZei hB h
   have hd:(cs.drop (B.k i)).drop (m * B.k i)=cs.drop ((m+1) * B.k i):=by
    rw [List.drop_drop,show B.k i+m * B.k i=(m+1) * B.k i by rw [Nat.succ_mul];omega]
   cases q with
   | zero=>
     have:a=el:=by simpa using hq
     subst this
     have hc:ieq n (Int.ofNat j)=true:=by rw [xZjX];simpa using hn
     simp only [setM,hc,cond_true,encM]
     rw [xZmh l' (j+1) (by omega),xZbU hB cs (B.k i),Nat.zero_mul,Nat.zero_add,xZdR _ _ _ _ (by rw [xZ4n,h3];exact ht),xZ6A,hB.enc]
     have ih:=xZlP hB h2
     rw [hd] at ih
     exact LWs.append (X _ h4) ih
   | succ q=>
     have hc:ieq n (Int.ofNat j)=false:=by
      rw [Bool.eq_false_iff];intro hc;rw [xZjX] at hc
      have:(Int.ofNat j:Int)=(j:Int):=rfl
      omega
     simp only [setM,hc,cond_false,encM]
     have ih:=xZkD (n:=n) (q:=q) ht X (j:=j+1) h2 (by simpa using hq) (by omega)
     rw [hd] at ih
     rw [xZbU hB cs (B.k i),show (q+1) * B.k i+t=(BV.avs B (cs.take (B.k i))).length+(q * B.k i+t) by rw [xZ4n,h3,Nat.succ_mul];omega,xZ91,xZ6A,hB.enc]
     exact LWs.append h4 ih
theorem xZoK:∀ {p:List (Nat×Nat×Int×Nat)} {cs:List (BV T)} {K:List (BV T)→Option R} {r:R},ldM B p cs K=some r→
 ∃ c',K c'=some r∧pofs B p+c'.length≤cs.length∧LWs (((BV.avs B cs).drop (pofs B p)).take c'.length) (BV.avs B c')
 | [],cs,K,r,h=>⟨cs,h,by simp [pofs],by simp only [pofs,List.drop_zero];rw [List.take_of_length_le (by rw [xZ4n];exact Nat.le_refl _)];exact .refl _⟩
 | (i,m,n,f)::p,cs,K,r,h=>by
   simp only [ldM] at h
   split at h
   ·rename_i l hf hl
    have hf:=Nat.le_of_ble_eq_true hf
    obtain ⟨el,hel,h⟩:=Option.bind_eq_some_iff.1 h
    obtain ⟨i1,i2,i3⟩:=xZf6 hel
    obtain ⟨c',h1,h2,h3⟩:=xZoK h
    obtain ⟨pre,mid,suf,e1,e2,e3,e4⟩:=xZid hB hl i3
    have hlen:(BV.avs B cs).length=cs.length:=xZ4n _
    rw [e1] at hlen
    simp only [List.length_append,e2,e3] at hlen
    rw [List.length_drop,hB.len] at h2
    refine ⟨c',h1,by simp only [pofs];omega,?_⟩
    rw [xZba,hB.enc,List.drop_drop] at h3
    refine LWs.trans ?_ h3
    have ed:(BV.avs B cs).drop (pofs B ((i,m,n,f)::p))=mid.drop (f+pofs B p)++suf:=by
     rw [e1,List.append_assoc,show pofs B ((i,m,n,f)::p)=pre.length+(f+pofs B p) by rw [e2];simp only [pofs];omega,← List.drop_drop,List.drop_left,List.drop_append_of_le_length (by omega)]
    rw [ed,List.take_append_of_le_length (by rw [List.length_drop];omega)]
    exact (e4.drop _).take _
   ·cases h
theorem xZpk:∀ {p:List (Nat×Nat×Int×Nat)} {ys cs:List (BV T)} {K:List (BV T)→Option R} {r:R},stM B ys p cs K=some r→
 ∃ c',K c'=some r∧pofs B p+ys.length≤cs.length∧LWs (putCells (BV.avs B cs) (pofs B p) (BV.avs B ys)) (BV.avs B c')
 | [],ys,cs,K,r,h=>by
   simp only [stM] at h
   split at h
   ·rename_i hc
    exact ⟨_,h,by simp only [pofs];have:=Nat.le_of_ble_eq_true hc;omega,by rw [xZkr];exact .refl _⟩
   ·cases h
 | (i,m,n,f)::p,ys,cs,K,r,h=>by
   simp only [stM] at h
   split at h
   ·rename_i l hf hl
    have hf:=Nat.le_of_ble_eq_true hf
    obtain ⟨el,hel,h⟩:=Option.bind_eq_some_iff.1 h
    obtain ⟨i1,i2,i3⟩:=xZf6 hel
    obtain ⟨c',h1,h2,h3⟩:=xZpk h
    split at h1
    ·rename_i el' hdec
     rw [List.length_drop,hB.len] at h2
     obtain ⟨hlm,hle⟩:=xZhw hB hl
     have hq:n.toNat < m:=by rw [← hlm];exact (List.getElem?_eq_some_iff.1 i3).1
     have hmul:n.toNat * B.k i+B.k i≤m * B.k i:=by
      have:=Nat.mul_le_mul_right (B.k i) (show n.toNat+1≤m from hq)
      rwa [Nat.succ_mul] at this
     refine ⟨_,h1,by simp only [pofs];omega,?_⟩
     have qd:=hB.dec _ _ _ hdec
     rw [xZ6A,xZcr,hB.enc] at qd
     rw [xZba,hB.enc] at h3
     have:=xZkD hB (i:=i) (el:=el) (el':=el') (n:=n) (t:=f+pofs B p) (ys:=BV.avs B ys) (by rw [xZ4n];omega) (fun c hc=>?_) (j:=0) hl i3 (by omega)
     ·rw [show pofs B ((i,m,n,f)::p)=n.toNat * B.k i+(f+pofs B p) by simp only [pofs];omega]
      exact this
     ·have hlc:c.length=B.k i:=by rw [hc.len,xZo8 hB]
      have e1:putCells c (f+pofs B p) (BV.avs B ys)=c.take f++putCells (c.drop f) (pofs B p) (BV.avs B ys):=by
       have:=xZ91 (BV.avs B ys) (c.take f) (c.drop f) (pofs B p)
       rw [List.take_append_drop,List.length_take,Nat.min_eq_left (by omega)] at this
       exact this
      rw [e1]
      exact LWs.trans (LWs.append (hc.take f) (LWs.trans (xZeQ _ _ (hc.drop f)) h3)) qd
    ·cases h1
   ·cases h
omit hB in
theorem xZl2 {M:Maps} {S:Nat→Prop} {w:World} {v:Value} {cs:List AV} (n:Nat) (h:VRep M S w v (.dptr cs)):VRep M S w v (.dptr (cs.take n)):=by
 have hd:=xZ6F h rfl
 cases hd with
 | dptr g o _ c T fz hs hg hb h1 q=>
   refine .data (.dptr g o _ c T fz hs hg (by rw [List.length_take];omega) (fun j hj=>?_) fun j hj=>?_)
   ·rw [List.length_take] at hj
    have:=h1 j (by omega)
    rwa [show (cs.take n).getD j .any=cs.getD j .any by simp only [List.getD];rw [List.getElem?_take_of_lt (by omega)]]
   ·rw [List.length_take] at hj
    have:=q j (by omega)
    rwa [show (cs.take n).getD j .any=cs.getD j .any by simp only [List.getD];rw [List.getElem?_take_of_lt (by omega)]]
end
end Go.Proofs.YtmfkphajohcklaaGreat.O
set_option linter.all false
namespace Go.Proofs.YtmfkphajohcklaaGreat.O
open Go
section
variable {T:Nat→Type} {B:Tb T} {R:Type}
variable {P:Program} {dr:Bool} {e:SE T} {t:List AV} {ns:Nat} {H:BH T} {d:Option Nat} {K:SE T→BH T→Option R} {r:R}
theorem xZlH {i by_:Nat} {xs ys:List (T i)} {buf:List (BB T)} {Kv:BV T→BH T→Option R} (h:appJ i by_ xs H buf ys Kv=some r):
 (xs.length+ys.length) * by_≤140737488355328∧xs.length+ys.length≤9223372036854775807∧Kv (.own H.buf.length) ⟨H.box,buf++[.live i (xs++ys)]⟩=some r:=by
 unfold appJ at h
 split at h
 ·rename_i hb
  obtain ⟨h1,h2⟩:=xZ3p h
  have h1:=Nat.le_of_ble_eq_true h1
  have hb:0 < by_:=by simpa using hb
  have:=Nat.le_mul_of_pos_right (xs.length+ys.length) hb
  exact ⟨h1,by omega,h2⟩
 ·cases h
theorem xZmi {y:BV T} {i:Nat} {l:List (T i)} (h:srcS H y=some ⟨i,l⟩) (k:Nat) (hk:B.k i=k):srcV (H.av B) k (y.av B)=some (l.map (B.eA i)):=by
 unfold srcS at h
 split at h
 ·cases h;simp only [BV.av,srcV,hk,if_true]
 ·split at h
  ·rename_i hb;cases h;simp only [BV.av,srcV,xZ9A,hb,BB.av,srcB,hk,if_true]
  ·rename_i hb;cases h;simp only [BV.av,srcV,xZ9A,hb,BB.av,srcB,hk,if_true]
  ·cases h
 ·cases h
theorem xZng {bx:List (List AV)} {bu:List Buf} {k:Nat} {xs ys:List AV} (h:LWs xs ys):LWH ⟨bx,bu++[.live k xs]⟩ ⟨bx,bu++[.live k ys]⟩:=by
 refine ⟨rfl,by simp,fun b=>.refl _,fun u=>?_⟩
 dsimp only
 rcases Nat.lt_or_ge u bu.length with hu | hu
 ·rw [xZ34 hu,xZ34 hu];exact .refl _
 ·rcases Nat.eq_or_lt_of_le hu with rfl | hu
  ·rw [xZ8i,xZ8i];exact .live _ h
  ·have:∀ z:Buf,(bu++[z]).getD u .dead=.dead:=fun z=>by
    simp only [List.getD];rw [List.getElem?_eq_none (by simp;omega)];rfl
   rw [this,this];exact .refl _
theorem xZik:∀ l:List (BV T),l.flatMap ownsB=(BV.avs B l).flatMap owns
 | []=>by simp [BV.avs]
 | x::l=>by simp only [BV.avs,List.flatMap_cons,xZp5 (B:=B) x,xZik l]
variable (hB:B.Ok) {h0:Hint T} (hh:h0.Ok B)
include hh
theorem xZqA (hr:RelE B e t ns) (hd:okD ns d=true) {k by_:Nat} {x y:Od} (h:appS B h0.sb k by_ H (bod e x) (bod e y) (fun v H=>K (putE e d v) H)=some r):StepOk B P dr t H d (.app k by_ x y) ns K r:=by
 unfold appS at h
 split at h
 ·rename_i hx
  have mk:∀ {i:Nat} {ys:List (T i)},B.k i=k→srcV (H.av B) k (od t y)=some (ys.map (B.eA i))→appJ i by_ [] H H.buf ys (fun v H=>K (putE e d v) H)=some r→StepOk B P dr t H d (.app k by_ x y) ns K r:=by
   intro i ys hk hs h
   obtain ⟨h1,h2,h3⟩:=xZlH h
   refine StepOk.kOp (v:=.own H.buf.length) hr hd ?_ h3
   simp only [kOp,hr.od x,hx,BV.av,kApp,hs,kAppS,List.length_nil,List.length_map,Nat.zero_add,List.nil_append]
   refine ⟨by simpa using h1,by simpa using h2,by rw [buf_len'],?_⟩
   simp only [BH.av,List.map_append,List.map_cons,List.map_nil,BB.av,hk,List.nil_append]
  split at h
  ·cases h
  ·rename_i s hy
   split at h
   ·rename_i f hf
    obtain ⟨q1,q2,q3⟩:=hh.sb _ _ s hf
    refine mk (q2.trans q1.symm) ?_ h
    rw [hr.od,hy,q3]
    simp only [BV.av,srcV,q1,if_true,xZbs]
   ·cases h
  ·rename_i hy1 hy2
   split at h
   ·rename_i i ys hs
    split at h
    ·rename_i hk
     have hk:=beq_eq hk
     exact mk hk (by rw [hr.od];exact xZmi hs k hk) h
    ·cases h
   ·cases h
 ·rename_i u hx
  split at h
  ·rename_i i xs hbu
   split at h
   ·rename_i hk
    have hk:=beq_eq hk
    have mk:∀ {ys:List (T i)},srcV (H.av B) k (od t y)=some (ys.map (B.eA i))→appJ i by_ xs H (H.buf.set u .dead) ys (fun v H=>K (putE e d v) H)=some r→StepOk B P dr t H d (.app k by_ x y) ns K r:=by
     intro ys hs h
     obtain ⟨h1,h2,h3⟩:=xZlH h
     refine StepOk.kOp (v:=.own H.buf.length) hr hd ?_ h3
     simp only [kOp,hr.od x,hx,BV.av,kApp,xZ9A,hbu,BB.av,kAppB,hs,kAppS,List.length_map]
     refine ⟨hk,h1,h2,by rw [buf_len'],?_⟩
     simp only [BH.av,List.map_append,List.map_cons,List.map_nil,BB.av,hk,List.map_set]
    split at h
    ·rename_i hy
     exact mk (ys:=[]) (by rw [hr.od,hy];simp [BV.av,srcV]) h
    ·rename_i s hy
     split at h
     ·rename_i f hf
      obtain ⟨q1,q2,q3⟩:=hh.sb _ _ s hf
      split at h
      rename_i j ys hfs
      rw [hfs] at q2 q3
      split at h
      ·rename_i ys' hc
       obtain ⟨ej,rfl⟩:=xZaV hc
       subst ej
       refine mk ?_ h
       rw [hr.od,hy]
       simp only [BV.av,srcV,q1,if_true,xZbs]
       rw [← q3]
      ·cases h
     ·cases h
    ·split at h
     ·rename_i j ys hs
      split at h
      ·rename_i ys' hc
       obtain ⟨ej,rfl⟩:=xZaV hc
       subst ej
       exact mk (by rw [hr.od];exact xZmi hs k hk) h
      ·cases h
     ·cases h
   ·cases h
  ·cases h
 ·cases h
include hB
theorem xZnL (hr:RelE B e t ns) (hd:okD ns d=true) {k:Nat} {ps:List Od} (h:opS B h0 dr e H d (.bsl k ps) K=some r):StepOk B P dr t H d (.bsl k ps) ns K r:=by
 simp only [opS,xZas,xZ5e,xZ5f,xZat,op_ld,op_st,op_fa,xZaB,op_ia,xZ9J,op_ix,xZaC,xZar,xZaz,xZaw,xZax,xZay,op_un,xZau,xZav,xZaA,xZ7E,xZaq] at h
 split at h
 ·rename_i d0
  split at h
  ·rename_i i hi
   split at h
   ·rename_i hk
    have hk:=beq_eq hk
    subst hk
    split at h
    ·split at h
     ·rename_i l hl
      have q:=xZjL hB hl
      rw [← hr.ods] at q
      have hok:=xZdC hB q
      refine ⟨.sl (B.k i) (l.map (B.eA i)),H.av B,(d0,.sl i l)::e,H,xZ5C fun H0=>(xZm8 hok).lw (.sl _ q) (LWH.refl _),?_,rfl,h⟩
      have:=hr.put (B:=B) hd (.sl i l)
      simpa only [putE,BV.av] using this
     ·cases h
    ·rename_i hdr
     obtain rfl:dr=false:=by cases dr with | false=>rfl | true=>cases hdr
     split at h
     ·rename_i l hl
      have q:=xZjL hB hl
      have e1:(ps.map (bod e)).flatMap ownsB=(ps.map (od t)).flatMap owns:=by
       rw [hr.ods,xZik (B:=B)]
      have e2:BV.avs B (ps.map fun x=>frzS' B (frzHB H ((ps.map (bod e)).flatMap ownsB)) (bod e x))=(ps.map (od t)).map (frz (frzH (H.av B) ((ps.map (od t)).flatMap owns))):=by
       rw [xZ5B,List.map_map,List.map_map]
       refine List.map_congr_left fun x _=>?_
       simp only [Function.comp,xZmZ,xZbO,hr.od]
       rw [e1]
      rw [e2] at q
      have hok:=xZdC hB q
      have ef:(frzH (H.av B) ((ps.map (od t)).flatMap owns)).buf=(frzHB H ((ps.map (bod e)).flatMap ownsB)).buf.map (BB.av B):=by
       rw [← e1,← xZbO];rfl
      have eH:(⟨(frzHB H ((ps.map (bod e)).flatMap ownsB)).box,(frzHB H ((ps.map (bod e)).flatMap ownsB)).buf++[.live i l]⟩:BH T).av B=⟨(H.av B).box,(frzH (H.av B) ((ps.map (od t)).flatMap owns)).buf++[.live (B.k i) (l.map (B.eA i))]⟩:=by
       rw [ef]
       show AH.mk _ _=AH.mk _ _
       congr 1
       rw [List.map_append];rfl
      refine ⟨.own (H.av B).buf.length,_,(d0,.own H.buf.length)::e,_,xZfN rfl ((xZoT hok).lw (.refl _) (xZng q)),?_,eH.symm,h⟩
      have:=hr.put (B:=B) hd (.own H.buf.length)
      simp only [putE,BV.av] at this
      rw [buf_len']
      exact this
     ·cases h
   ·cases h
  ·cases h
 ·cases h
theorem st_ok (hr:RelE B e t ns) (hd:okD ns d=true) {n:Nat} {x y:Od} (h:opS B h0 dr e H d (.st n x y) K=some r):StepOk B P dr t H d (.st n x y) ns K r:=by
 simp only [opS,xZas,xZ5e,xZ5f,xZat,op_ld,op_st,op_fa,xZaB,op_ia,xZ9J,op_ix,xZaC,xZar,xZaz,xZaw,xZax,xZay,op_un,xZau,xZav,xZaA,xZ7E,xZaq] at h
 split at h
 ·rename_i b o hx
  split at h
  ·rename_i cs hcs
   split at h
   ·rename_i hc
    simp only [Bool.and_eq_true,Nat.ble_eq] at hc
    obtain ⟨⟨h1,h2⟩,h3⟩:=hc
    have h1:=beq_eq h1
    refine StepOk.kOp (v:=.raw (.v undef)) (H':=⟨H.box.set b (putB cs o (bod e y).cells),H.buf⟩) hr hd ?_ h
    simp only [kOp,hr.od,hx,BV.av,kSt,xZcM,← xZam,xZdQ,xZdp hcs,xZ4n]
    refine ⟨h1,h2,h3,(by first | rfl | trivial),?_⟩
    simp only [BH.av,List.map_set,xZkr]
   ·cases h
  ·cases h
 ·rename_i u i m o hx
  split at h
  ·rename_i j l hbu
   split at h
   ·rename_i hc
    simp only [Bool.and_eq_true,Nat.ble_eq] at hc
    obtain ⟨⟨⟨h1,h2⟩,h3⟩,h4⟩:=hc
    have h1:=beq_eq h1
    have h3:=beq_eq h3
    have h4:0 < n:=by simpa using h4
    obtain ⟨el,hel,h⟩:=Option.bind_eq_some_iff.1 h
    obtain ⟨i1,i2,i3⟩:=xZf6 hel
    split at h
    ·rename_i el' hdec
     have q:=hB.dec j _ _ hdec
     rw [xZkr,hB.enc,xZam,xZmZ,← hr.od] at q
     have hys:(frz (H.av B) (od t y)).cells.length=n:=by rw [hr.od,← xZmZ,xZcM];exact h3
     have hel2:(l.map (B.eA j))[m.toNat]?=some (B.eA j el):=by rw [List.getElem?_map,i3];rfl
     have hck:(B.eA j el).cells.length=B.k j:=by rw [← hB.enc,xZ4n,hB.len]
     have hput:∀ z,z < n→((putCells (B.eA j el).cells o (frz (H.av B) (od t y)).cells).getD (o+z) .any)=(frz (H.av B) (od t y)).cells.getD z .any:=fun z hz=>by
      rw [xZ8z _ _ _ _ (by rw [hys,hck];exact h2),if_pos (by rw [hys];omega)];congr 1;omega
     have hlw:∀ z,z < n→LW ((frz (H.av B) (od t y)).cells.getD z .any) ((B.eA j el').cells.getD (o+z) .any):=fun z hz=>by
      rw [← hput z hz];exact q.get _
     have hck':(B.eA j el').cells.length=B.k j:=by rw [← hB.enc,xZ4n,hB.len]
     have h1s:ones (frz (H.av B) (od t y)).cells=true:=by
      simp only [ones,List.all_eq_true]
      intro c hc
      obtain ⟨z,hz,rfl⟩:=List.getElem_of_mem hc
      have hz':z < n:=by rw [← hys];exact hz
      have:=hlw z hz'
      rw [show (frz (H.av B) (od t y)).cells.getD z .any=(frz (H.av B) (od t y)).cells[z] by simp [List.getD,hz]] at this
      rw [this.one]
      exact xZap (hB.one j el') (by rw [hck'];omega)
     have hds:(frz (H.av B) (od t y)).cells.all AV.dat=true:=by
      rw [List.all_eq_true]
      intro c hc
      obtain ⟨z,hz,rfl⟩:=List.getElem_of_mem hc
      have hz':z < n:=by rw [← hys];exact hz
      have:=hlw z hz'
      rw [show (frz (H.av B) (od t y)).cells.getD z .any=(frz (H.av B) (od t y)).cells[z] by simp [List.getD,hz]] at this
      rw [this.dat]
      exact xZjK (hB.dat j el') (by rw [hck'];omega)
     have hsetE:LW (setE (B.eA j el) o (frz (H.av B) (od t y)).cells) (B.eA j el'):=by
      cases hg:B.ag j with
      | true=>
        rw [hB.ag j el hg,hB.ag j el' hg]
        exact .agg q
      | false=>
        have e1:=hB.sg j el hg
        have e2:=hB.sg j el' hg
        have hk1:B.k j=1:=by rw [← hck,e1];rfl
        have hn1:n=1∧o=0:=by omega
        obtain ⟨rfl,rfl⟩:=hn1
        have hs:setE (B.eA j el) 0 (frz (H.av B) (od t y)).cells=(frz (H.av B) (od t y)).cells.headD .any:=by
         unfold setE
         split
         ·rename_i cs hcs
          rw [hcs] at e1
          have e3:cs=[AV.agg cs]:=e1
          have e4:SizeOf.sizeOf cs=SizeOf.sizeOf [AV.agg cs]:=congrArg SizeOf.sizeOf e3
          simp at e4
          omega
         ·rfl
        rw [hs]
        have:=hlw 0 (by omega)
        rw [e2] at this
        cases hcz:(frz (H.av B) (od t y)).cells with
        | nil=>rw [hcz] at hys;cases hys
        | cons c cs=>rw [hcz] at this;simpa using this
     have hltu:u < H.buf.length:=by
      rcases Nat.lt_or_ge u H.buf.length with h' | h'
      ·exact h'
      ·simp [bufA,List.getD,List.getElem?_eq_none h'] at hbu
     have hos:=xZgO (P:=P) (t:=t) (H:=H.av B) (n:=n) (y:=x) (z:=y) (u:=u) (k:=B.k j) (i:=m.toNat) (o:=o) (xs:=l.map (B.eA j)) (e:=B.eA j el) (by rw [hr.od,hx];simp only [BV.av,h1]) (by rw [xZ9A,hbu];rfl) hys h1s hds h4 h2 hel2
     refine ⟨.v undef,_,putE e d (.raw (.v undef)),_,xZdv rfl (hos.lw (.refl _) (H'':=(⟨H.box,H.buf.set u (.live j (l.set m.toNat el'))⟩:BH T).av B) ?_),hr.put hd (.raw (.v undef)),rfl,h⟩
     refine ⟨rfl,by simp [BH.av],fun b=>.refl _,fun w=>?_⟩
     simp only [BH.av,List.map_set]
     by_cases hw:u=w
     ·subst hw
      rw [xZ2Y (by simpa using hltu),xZ2Y (by simpa using hltu)]
      simp only [BB.av,List.map_set]
      refine .live _ ?_
      have key:∀ (l:List AV) (q:Nat) {a b:AV},LW a b→LWs (l.set q a) (l.set q b):=by
       intro l
       induction l with
       | nil=>intro q a b _;exact .nil
       | cons c l ih=>
         intro q a b hab
         cases q with
         | zero=>exact .cons hab (.refl _)
         | succ q=>exact .cons (.refl _) (ih q hab)
      exact key _ _ hsetE
     ·rw [getD_set_ne' hw,getD_set_ne' hw];exact .refl _
    ·cases h
   ·cases h
  ·cases h
 ·rename_i b o p hx
  split at h
  ·rename_i cs hcs
   split at h
   ·rename_i hc
    simp only [Bool.and_eq_true,Nat.ble_eq] at hc
    obtain ⟨⟨h1,h2⟩,h3⟩:=hc
    have h1:=beq_eq h1
    obtain ⟨c',q1,q2,q3⟩:=xZpk hB h
    rw [List.length_drop] at q2
    have hb:b < H.box.length:=(List.getElem?_eq_some_iff.1 hcs).1
    have hos:=xZiy (P:=P) (t:=t) (H:=H.av B) (n:=n) (y:=x) (z:=y) (b:=b) (o:=o+pofs B p) (by rw [hr.od,hx];simp only [BV.av]) (by rw [hr.od,xZcM];exact h1) (by rw [hr.od,← xZam,xZdQ];exact h2) (by rw [xZdp hcs,xZ4n];omega)
    refine ⟨.v undef,_,putE e d (.raw (.v undef)),_,xZdv rfl (hos.lw (.refl _) (H'':=(⟨H.box.set b (cs.take o++c'),H.buf⟩:BH T).av B) ?_),hr.put hd (.raw (.v undef)),rfl,q1⟩
    refine ⟨by simp [BH.av],rfl,fun w=>?_,fun _=>.refl _⟩
    simp only [BH.av,List.map_set]
    by_cases hw:b=w
    ·subst hw
     rw [xZ2Y (by simpa using hb),xZ2Y (by simpa using hb)]
     have e0:(H.box.map (BV.avs B)).getD b []=BV.avs B cs:=xZdp hcs
     rw [e0,hr.od,← xZam,xZ6A]
     have e1:putCells (BV.avs B cs) (o+pofs B p) (BV.avs B (bod e y).cells)=BV.avs B (cs.take o)++putCells (BV.avs B (cs.drop o)) (pofs B p) (BV.avs B (bod e y).cells):=by
      have:=xZ91 (BV.avs B (bod e y).cells) (BV.avs B (cs.take o)) (BV.avs B (cs.drop o)) (pofs B p)
      rw [← xZbU hB cs o,xZ4n,List.length_take,Nat.min_eq_left h3] at this
      exact this
     rw [e1]
     exact LWs.append (.refl _) q3
    ·rw [getD_set_ne' hw,getD_set_ne' hw];exact .refl _
   ·cases h
  ·cases h
 ·cases h
theorem xZr1 (hr:RelE B e t ns) (hd:okD ns d=true) {o:SO} (h:opS B h0 dr e H d o K=some r):StepOk B P dr t H d o ns K r:=by
 cases o with
 | mov x=>
   refine StepOk.kOp (v:=bod e x) hr hd ?_ h
   simp only [kOp,hr.od];exact ⟨(by first | rfl | trivial),(by first | rfl | trivial)⟩
 | box x=>
   simp only [opS,xZas,xZ5e,xZ5f,xZat,op_ld,op_st,op_fa,xZaB,op_ia,xZ9J,op_ix,xZaC,xZar,xZaz,xZaw,xZax,xZay,op_un,xZau,xZav,xZaA,xZ7E,xZaq] at h
   split at h
   ·rename_i hc
    refine StepOk.kOp (v:=.ptr H.box.length 0) hr hd ?_ h
    simp only [kOp,hr.od,kBox,← xZam,xZdQ,BV.av,xZew]
    refine ⟨hc,(by first | rfl | trivial),?_⟩
    simp only [BH.av,List.map_append,List.map_cons,List.map_nil]
   ·cases h
 | alloc zs=>
   simp only [opS,xZas,xZ5e,xZ5f,xZat,op_ld,op_st,op_fa,xZaB,op_ia,xZ9J,op_ix,xZaC,xZar,xZaz,xZaw,xZax,xZay,op_un,xZau,xZav,xZaA,xZ7E,xZaq] at h
   split at h
   ·rename_i hc
    refine StepOk.kOp (v:=.ptr H.box.length 0) hr hd ?_ h
    simp only [kOp,kBox,BV.av,xZew]
    rw [← xZdQ (B:=B),xZeu] at hc
    refine ⟨hc,(by first | rfl | trivial),?_⟩
    simp only [BH.av,List.map_append,List.map_cons,List.map_nil,xZeu]
   ·cases h
 | build zs ps=>
   simp only [opS,xZas,xZ5e,xZ5f,xZat,op_ld,op_st,op_fa,xZaB,op_ia,xZ9J,op_ix,xZaC,xZar,xZaz,xZaw,xZax,xZay,op_un,xZau,xZav,xZaA,xZ7E,xZaq] at h
   split at h
   ·rename_i hc hf
    refine StepOk.kOp (v:=.agg _) hr hd ?_ h
    rw [← xZdQ (B:=B),xZeu] at hc
    have q:=xZlT hr _ _ _ hf
    rw [xZeu] at q
    simp only [kOp,q,kBuild,BV.av]
    exact ⟨hc,(by first | rfl | trivial),(by first | rfl | trivial)⟩
   ·cases h
 | bsl k ps=>exact xZnL hB hh hr hd h
 | ld n ag x=>
   simp only [opS,xZas,xZ5e,xZ5f,xZat,op_ld,op_st,op_fa,xZaB,op_ia,xZ9J,op_ix,xZaC,xZar,xZaz,xZaw,xZax,xZay,op_un,xZau,xZav,xZaA,xZ7E,xZaq] at h
   split at h
   ·rename_i b o hx
    split at h
    ·rename_i cs hcs
     split at h
     ·rename_i hc
      refine StepOk.kOp hr hd ?_ h
      simp only [kOp,hr.od,hx,BV.av,kLd,xZdp hcs,xZ4n,mk_av,xZcr,xZba]
      exact ⟨Nat.le_of_ble_eq_true hc,(by first | rfl | trivial),(by first | rfl | trivial)⟩
     ·cases h
    ·cases h
   ·rename_i cs hx
    split at h
    ·rename_i hc
     refine StepOk.kOp hr hd ?_ h
     simp only [kOp,hr.od,hx,BV.av,kLd,xZ4n,mk_av,xZcr]
     exact ⟨Nat.le_of_ble_eq_true hc,(by first | rfl | trivial),(by first | rfl | trivial)⟩
    ·cases h
   ·rename_i u i m o hx
    have mk':∀ {j:Nat} {l:List (T j)},(Nat.beq (B.k i) (B.k j)&&Nat.ble (o+n) (B.k j))=true→((H.av B).buf.getD u .dead=.live (B.k j) (l.map (B.eA j))∨(H.av B).buf.getD u .dead=.froz (B.k j) (l.map (B.eA j)))→
     ((ix l m).bind fun el=>K (putE e d (mkB ag (((B.enc j el).drop o).take n))) H)=some r→StepOk B P dr t H d (.ld n ag x) ns K r:=by
     intro j l hc hb h
     simp only [Bool.and_eq_true,Nat.ble_eq] at hc
     obtain ⟨hk,hc⟩:=hc
     have hk:=beq_eq hk
     obtain ⟨el,hel,h⟩:=Option.bind_eq_some_iff.1 h
     obtain ⟨i1,i2,i3⟩:=xZf6 hel
     have hlt:m.toNat < l.length:=(List.getElem?_eq_some_iff.1 i3).1
     refine StepOk.kOp hr hd ?_ h
     rcases hb with hb | hb
     all_goals
      simp only [kOp,hr.od,hx,BV.av,kLd,hb,kLdE,List.length_map,List.getElem?_map,i3,mk_av,xZcr,xZba,hB.enc]
      refine ⟨hk.symm,by rw [hk];exact hc,hlt,?_⟩
      intro x hx
      cases hx
      exact ⟨(by first | rfl | trivial),(by first | rfl | trivial)⟩
    split at h
    ·rename_i j l hbu
     split at h
     ·rename_i hc;exact mk' hc (.inl (by rw [xZ9A,hbu];rfl)) h
     ·cases h
    ·rename_i j l hbu
     split at h
     ·rename_i hc;exact mk' hc (.inr (by rw [xZ9A,hbu];rfl)) h
     ·cases h
    ·cases h
   ·rename_i b o p hx
    split at h
    ·rename_i cs hcs
     obtain ⟨c',h1,h2,h3⟩:=xZoK hB h
     split at h1
     ·rename_i hc
      simp only [Bool.and_eq_true,Nat.ble_eq] at hc
      obtain ⟨ho,hn⟩:=hc
      rw [List.length_drop] at h2
      refine ⟨_,_,putE e d (mkB ag (c'.take n)),H,xZcA rfl fun bx=>?_,hr.put hd _,rfl,h1⟩
      have hb:b < (H.av B).box.length:=by rw [xZew];exact (List.getElem?_eq_some_iff.1 hcs).1
      have hbx:((H.av B).box++bx).getD b []=BV.avs B cs:=by rw [xZ34 hb,xZdp hcs]
      have hos:=xZix (P:=P) (t:=t) (H:=⟨(H.av B).box++bx,(H.av B).buf⟩) (n:=n) (ag:=ag) (y:=x) (b:=b) (o:=o+pofs B p) (by rw [hr.od,hx];simp only [BV.av]) (by rw [hbx,xZ4n];omega)
      refine hos.lw ?_ (LWH.refl _)
      rw [hbx,mk_av,xZcr]
      refine mk_lw ag ?_
      have h4:=h3.take n
      rw [xZba,List.drop_drop,List.take_take,Nat.min_eq_left hn] at h4
      exact h4
     ·cases h1
    ·cases h
   ·cases h
 | st n x y=>exact st_ok hB hh hr hd h
 | fa off x=>
   simp only [opS,xZas,xZ5e,xZ5f,xZat,op_ld,op_st,op_fa,xZaB,op_ia,xZ9J,op_ix,xZaC,xZar,xZaz,xZaw,xZax,xZay,op_un,xZau,xZav,xZaA,xZ7E,xZaq] at h
   split at h
   ·rename_i b o hx
    refine StepOk.kOp hr hd ?_ h
    simp only [kOp,hr.od,hx,BV.av,kFa];exact ⟨(by first | rfl | trivial),(by first | rfl | trivial)⟩
   ·rename_i cs hx
    split at h
    ·rename_i hc
     refine StepOk.kOp hr hd ?_ h
     simp only [kOp,hr.od,hx,BV.av,kFa,xZ4n,xZba];exact ⟨Nat.le_of_ble_eq_true hc,(by first | rfl | trivial),(by first | rfl | trivial)⟩
    ·cases h
   ·rename_i u i m o hx
    refine StepOk.kOp hr hd ?_ h
    simp only [kOp,hr.od,hx,BV.av,kFa];exact ⟨(by first | rfl | trivial),(by first | rfl | trivial)⟩
   ·rename_i b o q p hx
    refine StepOk.kOp hr hd ?_ h
    simp only [kOp,hr.od,hx,BV.av,kFa,xZkq,Nat.add_assoc];exact ⟨(by first | rfl | trivial),(by first | rfl | trivial)⟩
   ·cases h
 | fld off n ag x=>
   simp only [opS,xZas,xZ5e,xZ5f,xZat,op_ld,op_st,op_fa,xZaB,op_ia,xZ9J,op_ix,xZaC,xZar,xZaz,xZaw,xZax,xZay,op_un,xZau,xZav,xZaA,xZ7E,xZaq] at h
   split at h
   ·rename_i cs hx
    split at h
    ·rename_i hc
     refine StepOk.kOp hr hd ?_ h
     simp only [kOp,hr.od,hx,BV.av,kFld,xZ4n,mk_av,xZcr,xZba];exact ⟨Nat.le_of_ble_eq_true hc,(by first | rfl | trivial),(by first | rfl | trivial)⟩
    ·cases h
   ·cases h
 | ia k x i=>
   simp only [opS,xZas,xZ5e,xZ5f,xZat,op_ld,op_st,op_fa,xZaB,op_ia,xZ9J,op_ix,xZaC,xZar,xZaz,xZaw,xZax,xZay,op_un,xZau,xZav,xZaA,xZ7E,xZaq] at h
   split at h
   ·rename_i j l ik n hx hi
    split at h
    ·rename_i hk
     have hk:=beq_eq hk
     obtain ⟨el,hel,h⟩:=Option.bind_eq_some_iff.1 h
     obtain ⟨i1,i2,i3⟩:=xZf6 hel
     refine StepOk.kOp hr hd ?_ h
     simp only [kOp,hr.od,hx,hi,BV.av,kIa,kIaL,List.length_map,List.getElem?_map,i3,hB.enc]
     refine ⟨hk,i1,i2,?_⟩
     intro x hx
     cases hx
     exact ⟨(by first | rfl | trivial),(by first | rfl | trivial)⟩
    ·cases h
   ·rename_i u ik n hx hi
    split at h
    ·rename_i j l hbu
     split at h
     ·rename_i hk
      have hk:=beq_eq hk
      obtain ⟨el,hel,h⟩:=Option.bind_eq_some_iff.1 h
      obtain ⟨i1,i2,i3⟩:=xZf6 hel
      refine StepOk.kOp hr hd ?_ h
      simp only [kOp,hr.od,hx,hi,BV.av,kIa,xZ9A,hbu,BB.av,kIaB,List.length_map]
      exact ⟨hk,i1,i2,by rw [hk],(by first | rfl | trivial)⟩
     ·cases h
    ·rename_i j l hbu
     split at h
     ·rename_i hk
      have hk:=beq_eq hk
      obtain ⟨el,hel,h⟩:=Option.bind_eq_some_iff.1 h
      obtain ⟨i1,i2,i3⟩:=xZf6 hel
      refine StepOk.kOp hr hd ?_ h
      simp only [kOp,hr.od,hx,hi,BV.av,kIa,xZ9A,hbu,BB.av,kIaB,kIaL,List.length_map,List.getElem?_map,i3,hB.enc]
      refine ⟨hk,i1,i2,?_⟩
      intro x hx
      cases hx
      exact ⟨(by first | rfl | trivial),(by first | rfl | trivial)⟩
     ·cases h
    ·cases h
   ·cases h
 | iaa m k x i=>
   simp only [opS,xZ9J] at h
   split at h
   ·rename_i j hj
    split at h
    ·rename_i b o ik n hk hx hi
     have hk:=beq_eq hk
     obtain ⟨h1,h⟩:=xZ3p h
     obtain ⟨h2,h⟩:=xZ3p h
     refine StepOk.kOp hr hd ?_ h
     simp only [kOp,hr.od,hx,hi,BV.av,kIaa,pofs,Nat.add_zero,hk]
     exact ⟨xZ18.1 h1,by rw [xZd1] at h2;simpa using h2,(by first | rfl | trivial),(by first | rfl | trivial)⟩
    ·rename_i b o p ik n hk hx hi
     have hk:=beq_eq hk
     obtain ⟨h1,h⟩:=xZ3p h
     obtain ⟨h2,h⟩:=xZ3p h
     refine StepOk.kOp hr hd ?_ h
     simp only [kOp,hr.od,hx,hi,BV.av,kIaa,xZjd,pofs,Nat.add_zero,hk,Nat.add_assoc]
     exact ⟨xZ18.1 h1,by rw [xZd1] at h2;simpa using h2,(by first | rfl | trivial),(by first | rfl | trivial)⟩
    ·rename_i cs ik n hk hx hi
     have hk:=beq_eq hk
     obtain ⟨h1,h⟩:=xZ3p h
     obtain ⟨h2,h⟩:=xZ3p h
     split at h
     ·rename_i l hl
      obtain ⟨el,hel,h⟩:=Option.bind_eq_some_iff.1 h
      obtain ⟨i1,i2,i3⟩:=xZf6 hel
      obtain ⟨pre,mid,suf,e1,e2,e3,e4⟩:=xZid hB hl i3
      have hlen:=congrArg List.length e1
      simp only [List.length_append,xZ4n,e2,e3] at hlen
      refine ⟨_,_,putE e d (.dptr (B.enc j el)),H,xZ5C (fun H0=>?_),hr.put hd _,rfl,h⟩
      have hos:=xZfo (P:=P) (t:=t) (H:=H0) (m:=m) (k:=k) (y:=x) (z:=i) (cs:=BV.avs B cs) (ik:=ik) (n:=n) (by rw [hr.od,hx];simp only [BV.av]) (by rw [hr.od,hi];simp only [BV.av]) i1 (by rw [xZd1] at h2;simpa using h2) (by rw [xZ4n,← hk];omega)
      refine xZoW hos fun M S w v hv=>?_
      have h5:=xZl2 (B.k j) hv
      have e5:((BV.avs B cs).drop (n.toNat * k)).take (B.k j)=mid:=by
       rw [e1,← hk,← e2,List.append_assoc,List.drop_left,List.take_append_of_le_length (by omega),List.take_of_length_le (by omega)]
      rw [e5] at h5
      have h6:=LW.rep (.dptr e4) h5
      rw [← hB.enc] at h6
      simpa only [BV.av] using h6
     ·cases h
    ·cases h
   split at h
   ·rename_i b o ik n hx hi
    obtain ⟨h1,h⟩:=xZ3p h
    obtain ⟨h2,h⟩:=xZ3p h
    refine StepOk.kOp hr hd ?_ h
    simp only [kOp,hr.od,hx,hi,BV.av,kIaa]
    exact ⟨xZ18.1 h1,by rw [xZd1] at h2;simpa using h2,(by first | rfl | trivial),(by first | rfl | trivial)⟩
   ·rename_i cs ik n hx hi
    obtain ⟨h1,h⟩:=xZ3p h
    obtain ⟨h2,h⟩:=xZ3p h
    split at h
    ·rename_i hc
     refine StepOk.kOp hr hd ?_ h
     simp only [kOp,hr.od,hx,hi,BV.av,kIaa,xZ4n,xZba]
     exact ⟨xZ18.1 h1,by rw [xZd1] at h2;simpa using h2,Nat.le_of_ble_eq_true hc,(by first | rfl | trivial),(by first | rfl | trivial)⟩
    ·cases h
   ·cases h
 | ix x i=>
   simp only [opS,xZas,xZ5e,xZ5f,xZat,op_ld,op_st,op_fa,xZaB,op_ia,xZ9J,op_ix,xZaC,xZar,xZaz,xZaw,xZax,xZay,op_un,xZau,xZav,xZaA,xZ7E,xZaq] at h
   split at h
   ·rename_i s ik n hx hi
    obtain ⟨el,hel,h⟩:=Option.bind_eq_some_iff.1 h
    obtain ⟨i1,i2,i3⟩:=xZf6 hel
    refine StepOk.kOp hr hd ?_ h
    simp only [kOp,hr.od,hx,hi,BV.av,kIx,xZbs,i3]
    refine ⟨i1,i2,?_⟩
    intro b hb
    cases hb
    exact ⟨(by first | rfl | trivial),(by first | rfl | trivial)⟩
   ·cases h
 | len st x=>
   simp only [opS,xZas,xZ5e,xZ5f,xZat,op_ld,op_st,op_fa,xZaB,op_ia,xZ9J,op_ix,xZaC,xZar,xZaz,xZaw,xZax,xZay,op_un,xZau,xZav,xZaA,xZ7E,xZaq,optK] at h
   split at h
   ·rename_i v hv
    refine StepOk.kOp hr hd ?_ h
    simp only [kOp,hr.od]
    exact kO_of (xZqS hv) trivial ⟨rfl,rfl⟩
   ·cases h
 | lenc n=>exact StepOk.kOp (v:=.int .i64 n) hr hd ⟨rfl,rfl⟩ h
 | bin op wr x y=>
   obtain ⟨v,p,h1,h2,h3⟩:=xZqD (B:=B) h
   refine StepOk.kOp hr hd ?_ h3
   simp only [kOp,hr.od]
   exact kO_of h1 h2 ⟨rfl,rfl⟩
 | eqs ne ls x y=>
   simp only [opS,xZas,xZ5e,xZ5f,xZat,op_ld,op_st,op_fa,xZaB,op_ia,xZ9J,op_ix,xZaC,xZar,xZaz,xZaw,xZax,xZay,op_un,xZau,xZav,xZaA,xZ7E,xZaq] at h
   split at h
   ·rename_i xs ys hx hy
    split at h
    ·rename_i b hb
     refine StepOk.kOp (v:=.bool (neS ne b)) hr hd ?_ h
     simp only [kOp,hr.od,hx,hy,BV.av]
     exact kO_of (p:=True) (by simp only [eqsV,xZjR hb,Option.map_some,xZeM]) trivial ⟨rfl,rfl⟩
    ·cases h
   ·cases h
 | eqb ne x y=>
   simp only [opS,xZas,xZ5e,xZ5f,xZat,op_ld,op_st,op_fa,xZaB,op_ia,xZ9J,op_ix,xZaC,xZar,xZaz,xZaw,xZax,xZay,op_un,xZau,xZav,xZaA,xZ7E,xZaq] at h
   split at h
   ·rename_i a b hx hy
    refine StepOk.kOp (v:=.bool (neS ne (a==b))) hr hd ?_ h
    simp only [kOp,hr.od,hx,hy,BV.av]
    exact kO_of (p:=True) (by simp only [eqbV,xZeM]) trivial ⟨rfl,rfl⟩
   ·cases h
 | eqi ne c x y=>
   simp only [opS,xZas,xZ5e,xZ5f,xZat,op_ld,op_st,op_fa,xZaB,op_ia,xZ9J,op_ix,xZaC,xZar,xZaz,xZaw,xZax,xZay,op_un,xZau,xZav,xZaA,xZ7E,xZaq,optK] at h
   split at h
   ·rename_i v hv
    refine StepOk.kOp hr hd ?_ h
    simp only [kOp,hr.od]
    exact kO_of (xZqM hv) trivial ⟨rfl,rfl⟩
   ·cases h
 | eqp ne x y=>
   simp only [opS,xZas,xZ5e,xZ5f,xZat,op_ld,op_st,op_fa,xZaB,op_ia,xZ9J,op_ix,xZaC,xZar,xZaz,xZaw,xZax,xZay,op_un,xZau,xZav,xZaA,xZ7E,xZaq,optK] at h
   split at h
   ·rename_i v hv
    refine StepOk.kOp hr hd ?_ h
    simp only [kOp,hr.od]
    exact kO_of (xZqN hv) trivial ⟨rfl,rfl⟩
   ·cases h
 | un op x=>
   simp only [opS,xZas,xZ5e,xZ5f,xZat,op_ld,op_st,op_fa,xZaB,op_ia,xZ9J,op_ix,xZaC,xZar,xZaz,xZaw,xZax,xZay,op_un,xZau,xZav,xZaA,xZ7E,xZaq] at h
   split at h
   ·rename_i a hx
    refine StepOk.kOp (v:=.bool (!a)) hr hd ?_ h
    simp only [kOp,hr.od,hx,BV.av]
    exact kO_of (p:=True) (by simp [unV]) trivial ⟨rfl,rfl⟩
   ·rename_i k a hx
    refine StepOk.kOp (v:=.int k (k.wrap (0 - a))) hr hd ?_ h
    simp only [kOp,hr.od,hx,BV.av]
    exact kO_of (p:=True) (by simp [unV]) trivial ⟨rfl,rfl⟩
   ·rename_i k a hx
    refine StepOk.kOp (v:=.int k _) hr hd ?_ h
    simp only [kOp,hr.od,hx,BV.av]
    exact kO_of (p:=True) (by simp only [unV,reduceCtorEq,if_false,if_true]) trivial ⟨rfl,rfl⟩
   ·cases h
 | cvi k x=>
   simp only [opS,xZas,xZ5e,xZ5f,xZat,op_ld,op_st,op_fa,xZaB,op_ia,xZ9J,op_ix,xZaC,xZar,xZaz,xZaw,xZax,xZay,op_un,xZau,xZav,xZaA,xZ7E,xZaq] at h
   split at h
   ·rename_i k' a hx
    refine StepOk.kOp (v:=.int k (k.wrap a)) hr hd ?_ h
    simp only [kOp,hr.od,hx,BV.av]
    exact kO_of (p:=True) rfl trivial ⟨rfl,rfl⟩
   ·cases h
 | cvs x=>
   simp only [opS,xZas,xZ5e,xZ5f,xZat,op_ld,op_st,op_fa,xZaB,op_ia,xZ9J,op_ix,xZaC,xZar,xZaz,xZaw,xZax,xZay,op_un,xZau,xZav,xZaA,xZ7E,xZaq] at h
   split at h
   ·rename_i s hx
    refine StepOk.kOp (v:=.str s) hr hd ?_ h
    simp only [kOp,hr.od,hx,BV.av]
    exact kO_of (p:=True) rfl trivial ⟨rfl,rfl⟩
   ·cases h
 | ext i x=>
   simp only [opS,xZas,xZ5e,xZ5f,xZat,op_ld,op_st,op_fa,xZaB,op_ia,xZ9J,op_ix,xZaC,xZar,xZaz,xZaw,xZax,xZay,op_un,xZau,xZav,xZaA,xZ7E,xZaq] at h
   split at h
   ·rename_i cs hx
    split at h
    ·rename_i hc
     refine StepOk.kOp hr hd ?_ h
     simp only [kOp,hr.od,hx,BV.av]
     exact kO_of (p:=i < (BV.avs B cs).length) (by simp only [extV,xZev]) (by rw [xZ4n];simpa using hc) ⟨rfl,rfl⟩
    ·cases h
   ·cases h
 | pick c a b=>
   simp only [opS,xZas,xZ5e,xZ5f,xZat,op_ld,op_st,op_fa,xZaB,op_ia,xZ9J,op_ix,xZaC,xZar,xZaz,xZaw,xZax,xZay,op_un,xZau,xZav,xZaA,xZ7E,xZaq] at h
   split at h
   ·rename_i c hc
    cases c with
    | true=>
      refine StepOk.kOp (v:=bod e a) hr hd ?_ h
      simp only [kOp,hr.od,hc,BV.av]
      exact kO_of (p:=True) rfl trivial ⟨rfl,rfl⟩
    | false=>
      refine StepOk.kOp (v:=bod e b) hr hd ?_ h
      simp only [kOp,hr.od,hc,BV.av]
      exact kO_of (p:=True) rfl trivial ⟨rfl,rfl⟩
   ·cases h
 | app k by_ x y=>exact xZqA hh hr hd h
 | slc st k x lo hi mx=>
   simp only [opS,xZoR] at h
   split at h
   ·exact xZrn hB hr hd h
   ·split at h
    ·rename_i z
     split at h
     ·rename_i u ik n hx hz
      split at h
      ·rename_i i l hbu
       split at h
       ·rename_i hk
        simp only [Bool.and_eq_true,Bool.not_eq_true'] at hk
        obtain ⟨⟨rfl,hk⟩,hdr⟩:=hk
        have hk:=beq_eq hk
        subst hk
        obtain ⟨c1,h⟩:=xZ3p h
        obtain ⟨c2,h⟩:=xZ3p h
        have hbu':(H.av B).buf.getD u .dead=.live (B.k i) (l.map (B.eA i)):=by rw [xZ9A,hbu];rfl
        have hos:=xZnp (P:=P) (t:=t) (H:=H.av B) (y:=x) (z:=z) (k:=B.k i) (u:=u) (xs:=l.map (B.eA i)) (ik:=ik) (n:=n) (by rw [hr.od,hx];rfl) hbu' (by rw [hr.od,hz];rfl) (xZ18.1 c1) (by rw [List.length_map];exact xZ18.1 c2)
        refine ⟨.own (H.av B).buf.length,_,putE e d (.own H.buf.length),⟨H.box,H.buf.set u .dead++[.live i (l.take n.toNat)]⟩,xZfN hdr hos,?_,?_,h⟩
        ·have:=hr.put (B:=B) hd (.own H.buf.length)
         simp only [BV.av] at this
         rw [buf_len'];exact this
        ·simp [BH.av,List.map_append,BB.av,List.map_take,List.map_set]
       ·cases h
      ·cases h
     ·cases h
    ·cases h
 | mki ty x=>
   simp only [opS,xZoQ] at h
   split at h
   ·rename_i i hi
    split at h
    ·rename_i y hy
     obtain ⟨z,h1,h2,h3⟩:=hB.fd _ _ _ _ hy
     exact ⟨_,_,putE e d (.tr i y),H,xZ5C fun _=>xZoW xZoY fun M S w v hv=>(by
      have hv:=xZns (y:=z) hv (by rw [hr.od];exact h2) (by rw [hr.od];exact h3)
      rw [← h1] at hv
      exact hv),hr.put hd (.tr i y),rfl,h⟩
    ·cases h
   refine StepOk.kOp (v:=.ifc ty (bod e x)) hr hd ?_ h
   simp only [kOp,hr.od,BV.av];exact ⟨(by first | rfl | trivial),(by first | rfl | trivial)⟩
 | fnv f a b=>
   refine StepOk.kOp (v:=.fn f (a.map (bod e)) (b.map (bod e))) hr hd ?_ h
   simp only [kOp,hr.ods,BV.av];exact ⟨(by first | rfl | trivial),(by first | rfl | trivial)⟩
 | call f as=>cases h
 | callv x as=>cases h
 | raw o ty=>cases h
end
end Go.Proofs.YtmfkphajohcklaaGreat.O
namespace Go.Proofs.YtmfkphajohcklaaGreat.O
open Go
section
variable {T:Nat→Type} {B:Tb T} {R:Type} {rb rt:List Nat} {H:BH T}
theorem xZej:∀ {l:List Nat} {n i:Nat},idxN l n=some i→l[i]?=some n
 | [],n,i,h=>by cases h
 | m::l,n,i,h=>by
   simp only [idxN] at h
   split at h
   ·rename_i hm;cases h;rw [beq_eq hm];rfl
   ·split at h
    ·rename_i j hj;cases h;simpa using xZej hj
    ·cases h
def AV.atom:AV→Bool
 | .agg _ | .tup _ | .fn _ _ _ | .ifc _ _=>false
 | _=>true
theorem xZgX {x y:BV T} (h:rnA rb rt H x=some y):leA rb rt (H.av B) (x.av B) (y.av B)∧(x.av B).atom=true:=by
 unfold rnA at h
 split at h
 ·rename_i t
  split at h
  ·rename_i j hj
   cases h
   exact ⟨by simp only [BV.av,leA];exact xZej hj,rfl⟩
  ·split at h
   ·rename_i i l hb
    cases h
    exact ⟨by simp only [BV.av,leA,xZ9A,hb];rfl,rfl⟩
   ·cases h
 ·split at h
  ·rename_i j hj;cases h;exact ⟨by simp only [BV.av,leA];exact ⟨xZej hj,trivial⟩,rfl⟩
  ·cases h
 ·split at h
  ·rename_i j hj;cases h;exact ⟨by simp only [BV.av,leA];exact ⟨xZej hj,trivial,trivial,trivial⟩,rfl⟩
  ·cases h
 all_goals first
  | (cases h;exact ⟨by simp only [BV.av];simp [leA,AV.dat],by simp only [BV.av,AV.atom]⟩)
  | cases h
theorem le0_A {A:AH} {x y:AV} (h:leA rb rt A x y) (hx:x.atom=true):le0 rb rt A x y:=by
 unfold le0
 split
 ·cases hx
 ·exact h
theorem leC_A {A:AH} {x y:AV} (h:leA rb rt A x y) (hx:x.atom=true):leC rb rt A x y:=by
 unfold leC
 split
 ·cases hx
 ·cases hx
 ·exact h
theorem xZhV {f:BV T→Option (BV T)} {Q:AV→AV→Prop} (hf:∀ x y,f x=some y→Q (x.av B) (y.av B)):∀ {l r:List (BV T)},rnL f l=some r→listP Q (BV.avs B l) (BV.avs B r)
 | [],r,h=>by cases h;trivial
 | x::l,r,h=>by
   simp only [rnL] at h
   split at h
   ·rename_i y r' h1 h2
    cases h
    exact ⟨hf _ _ h1,xZhV hf h2⟩
   ·cases h
theorem xZpd {x y:BV T} (h:rn0 rb rt H x=some y):le0 rb rt (H.av B) (x.av B) (y.av B):=by
 unfold rn0 at h
 split at h
 ·split at h
  ·rename_i l hl
   cases h
   simp only [BV.av,le0]
   exact xZhV (fun x y h=>(xZgX h).1) hl
  ·cases h
 ·exact le0_A (xZgX h).1 (xZgX (B:=B) h).2
def AV.nagg:AV→Bool
 | .agg _ | .tup _=>false
 | _=>true
theorem xZkQ {x:AV} (h:x.atom=true):x.nagg=true:=by cases x<;>first | rfl | cases h
theorem xZnu {x y:BV T} (h:rnC rb rt H x=some y):leC rb rt (H.av B) (x.av B) (y.av B)∧(x.av B).nagg=true:=by
 unfold rnC at h
 split at h
 ·split at h
  ·rename_i a b ha hb
   cases h
   simp only [BV.av,leC]
   exact ⟨⟨trivial,xZhV (fun x y h=>(xZgX h).1) ha,xZhV (fun x y h=>(xZgX h).1) hb⟩,rfl⟩
  ·cases h
 ·split at h
  ·rename_i y hy
   cases h
   simp only [BV.av,leC]
   exact ⟨⟨trivial,xZpd hy⟩,rfl⟩
  ·cases h
 ·exact ⟨leC_A (xZgX h).1 (xZgX (B:=B) h).2,xZkQ (xZgX h).2⟩
def AV.ntup:AV→Bool
 | .tup _=>false
 | _=>true
theorem xZjg {x y:BV T} (h:rn1 rb rt H x=some y):le1 rb rt (H.av B) (x.av B) (y.av B)∧(x.av B).ntup=true:=by
 unfold rn1 at h
 split at h
 ·split at h
  ·rename_i l hl
   cases h
   simp only [BV.av,le1]
   exact ⟨xZhV (fun x y h=>(xZnu h).1) hl,rfl⟩
  ·cases h
 ·obtain ⟨h1,h2⟩:=xZnu (B:=B) h
  refine ⟨?_,by cases hx:x.av B<;>first | rfl | (rw [hx] at h2;cases h2)⟩
  unfold le1
  split
  ·rename_i e _;rw [e] at h2;cases h2
  ·exact h1
theorem le2_1 {x y:AV} {A:AH} (h:le1 rb rt A x y) (hx:x.ntup=true):le2 rb rt A x y:=by
 unfold le2
 split
 ·cases hx
 ·exact h
theorem xZrm {x y:BV T} (h:rn2 rb rt H x=some y):le2 rb rt (H.av B) (x.av B) (y.av B):=by
 unfold rn2 at h
 split at h
 ·split at h
  ·rename_i l hl
   cases h
   simp only [BV.av,le2]
   exact xZhV (fun x y h=>(xZjg h).1) hl
  ·cases h
 ·exact le2_1 (xZjg h).1 (xZjg (B:=B) h).2
theorem xZ9V {Q Q':AV→AV→Prop} (h:∀ x y,Q x y→Q' x y):∀ {a b:List AV},listP Q a b→listP Q' a b
 | [],[],_=>trivial
 | _::_,_::_,hp=>⟨h _ _ hp.1,xZ9V h hp.2⟩
 | [],_::_,hp=>hp.elim
 | _::_,[],hp=>hp.elim
section
variable {A A':AH} (hA:∀ u k xs,A.buf.getD u .dead=.froz k xs→A'.buf.getD u .dead=.froz k xs)
include hA
theorem xZeI {x y:AV} (h:leA [] [] A x y):leA rb rt A' x y:=by
 unfold leA at h ⊢
 split at h
 ·trivial
 ·simp at h
 ·exact hA _ _ _ h
 ·exact h
 ·simp at h
 ·simp at h
 ·simp at h
 ·exact h
theorem xZna {x y:AV} (h:le0 [] [] A x y):le0 rb rt A' x y:=by
 unfold le0 at h ⊢
 split at h
 ·exact xZ9V (fun _ _=>xZeI hA) h
 ·exact xZeI hA h
theorem xZk5 {x y:AV} (h:leC [] [] A x y):leC rb rt A' x y:=by
 unfold leC at h ⊢
 split at h
 ·exact ⟨h.1,xZ9V (fun _ _=>xZeI hA) h.2.1,xZ9V (fun _ _=>xZeI hA) h.2.2⟩
 ·exact ⟨h.1,xZna hA h.2⟩
 ·exact xZeI hA h
theorem xZk3 {x y:AV} (h:le1 [] [] A x y):le1 rb rt A' x y:=by
 unfold le1 at h ⊢
 split at h
 ·exact xZ9V (fun _ _=>xZk5 hA) h
 ·exact xZk5 hA h
end
theorem xZeo:∀ {md:List Bool} {l r:List (BV T)},rnArgs rb rt H md l=some r→listP (fun x y=>le1 rb rt (H.av B) x y∧x.ntup=true) (BV.avs B l) (BV.avs B r)
 | _,[],r,h=>by
   have:r=[]:=by
    unfold rnArgs at h
    cases h;rfl
   subst this;trivial
 | md,x::l,r,h=>by
   have key:∃ y r' md',((rn1 [] [] H x=some y)∨rn1 rb rt H x=some y)∧rnArgs rb rt H md' l=some r'∧r=y::r':=by
    unfold rnArgs at h
    split at h
    ·rename_i e;cases e
    ·rename_i m x' l' e
     cases e
     split at h
     ·rename_i y r' h1 h2;cases h;exact ⟨y,r',_,.inl h1,h2,rfl⟩
     ·cases h
    ·rename_i x' l' _ e
     cases e
     split at h
     ·rename_i y r' h1 h2;cases h;exact ⟨y,r',_,.inr h1,h2,rfl⟩
     ·cases h
   obtain ⟨y,r',md',h1,h2,rfl⟩:=key
   refine ⟨?_,xZeo h2⟩
   rcases h1 with h1 | h1
   ·exact ⟨xZk3 (fun _ _ _ h=>h) (xZjg h1).1,(xZjg h1).2⟩
   ·exact xZjg h1
theorem rnArgs2 {md:List Bool} {l r:List (BV T)} (h:rnArgs rb rt H md l=some r):listP (le2 rb rt (H.av B)) (BV.avs B l) (BV.avs B r):=
 xZ9V (fun _ _ h=>le2_1 h.1 h.2) (xZeo h)
theorem xZgY:∀ {l:List Nat} {r:List (List (BV T))},rnBoxes rb rt H l=some r→leBoxes rb rt (H.av B) l (r.map (BV.avs B))
 | [],r,h=>by cases h;trivial
 | b::l,r,h=>by
   simp only [rnBoxes] at h
   split at h
   ·rename_i cs r' h1 h2 h3
    split at h
    ·rename_i ho
     cases h
     refine ⟨by rw [xZew];simpa using h1,by rw [xZdQ];exact ho,?_,xZgY h3⟩
     rw [xZiT]
     rw [xZmf] at h2
     exact xZhV (fun x y h=>(xZnu h).1) h2
    ·cases h
   ·cases h
theorem xZk4 (b:Buf):leBuf b b:=by cases b<;>simp [leBuf]
theorem xZiB:∀ {l:List Nat} {r:List (BB T)},rnBufs H l=some r→leBufs (H.av B) l (r.map (BB.av B))
 | [],r,h=>by cases h;trivial
 | t::l,r,h=>by
   simp only [rnBufs] at h
   split at h
   ·rename_i r' h1 h2
    cases h
    refine ⟨by rw [buf_len'];simpa using h1,?_,xZiB h2⟩
    rw [xZ9A];exact xZk4 _
   ·cases h
theorem xZm4:∀ (l:List Nat) (n:Nat),memN l n=l.contains n
 | [],n=>rfl
 | m::l,n=>by
   simp only [memN,List.contains_cons]
   split
   ·rename_i h;rw [beq_eq h];simp
   ·rename_i h
    have hne:¬ n=m:=fun e=>by subst e;simp at h
    rw [xZm4 l n,beq_eq_false_iff_ne.2 hne,Bool.false_or]
theorem xZd3:∀ l:List Nat,nodupN l=nodup l
 | []=>rfl
 | x::l=>by
   simp only [nodupN,nodup,xZm4]
   split
   ·rename_i h;rw [h];rfl
   ·rename_i h;rw [h,xZd3 l];rfl
theorem xZaW:∀ {l:List Nat} {r:List Buf} {x:Nat},x∈liveIx l r→x∈l
 | [],_,_,h=>by simp [liveIx] at h
 | t::l,[],x,h=>by simp [liveIx] at h
 | t::l,B::r,x,h=>by
   cases B with
   | live k xs=>
     simp only [liveIx,List.mem_cons] at h
     rcases h with rfl | h
     ·simp
     ·exact List.mem_cons_of_mem _ (xZaW h)
   | map q k xs=>
     simp only [liveIx,List.mem_cons] at h
     rcases h with rfl | h
     ·simp
     ·exact List.mem_cons_of_mem _ (xZaW h)
   | dead=>exact List.mem_cons_of_mem _ (xZaW h)
   | froz k xs=>exact List.mem_cons_of_mem _ (xZaW h)
theorem xZbP:∀ {l:List Nat} (r:List Buf),nodup l=true→nodup (liveIx l r)=true
 | [],r,_=>by cases r<;>rfl
 | t::l,[],_=>rfl
 | t::l,B::r,h=>by
   simp only [nodup,Bool.and_eq_true,Bool.not_eq_true',List.contains_eq_mem,decide_eq_false_iff_not] at h
   cases B with
   | live k xs=>
     simp only [liveIx,nodup,Bool.and_eq_true,Bool.not_eq_true',List.contains_eq_mem,decide_eq_false_iff_not]
     exact ⟨fun hm=>h.1 (xZaW hm),xZbP r h.2⟩
   | map q k xs=>
     simp only [liveIx,nodup,Bool.and_eq_true,Bool.not_eq_true',List.contains_eq_mem,decide_eq_false_iff_not]
     exact ⟨fun hm=>h.1 (xZaW hm),xZbP r h.2⟩
   | dead=>exact xZbP r h.2
   | froz k xs=>exact xZbP r h.2
theorem xZlv {K:BH T→Option R} {r:R} (h:rnH rb rt H K=some r):∃ H',LeH rb rt (H.av B) (H'.av B)∧nodup rt=true∧K H'=some r:=by
 unfold rnH at h
 split at h
 ·rename_i bx bu h1 h2 h3
  rw [Bool.and_eq_true,xZd3,xZd3] at h1
  exact ⟨_,⟨xZgY h2,xZiB h3,h1.1,xZbP _ h1.2⟩,h1.2,h⟩
 ·cases h
theorem xZkJ:∀ (l:List Nat) (n i:Nat),upN l n i=upB l n i
 | [],n,i=>rfl
 | b::l,n,0=>rfl
 | b::l,n,i+1=>xZkJ l n i
theorem xZkA {α β:Type} (f:α→β):∀ (l:List Nat) (new old:List α),(setL l new old).map f=upL l (new.map f) (old.map f)
 | [],new,old=>by simp [setL,upL]
 | b::l,[],old=>by simp [setL,upL]
 | b::l,x::r,old=>by simp only [setL,upL,List.map_cons];rw [xZkA f l r,List.map_set]
mutual
theorem up_av (f g:Nat→Nat):∀ x:BV T,(x.up f g).av B=(x.av B).up f g
 | .raw x=>by simp only [BV.up,BV.av]
 | .emp=>by simp only [BV.up,BV.av,AV.up]
 | .int k n=>by simp only [BV.up,BV.av,AV.up]
 | .bool b=>by simp only [BV.up,BV.av,AV.up]
 | .str s=>by simp only [BV.up,BV.av,AV.up]
 | .flt k n=>by simp only [BV.up,BV.av,AV.up]
 | .agg cs=>by simp only [BV.up,BV.av,AV.up];rw [xZji f g cs]
 | .tup cs=>by simp only [BV.up,BV.av,AV.up];rw [xZji f g cs]
 | .sl i l=>by simp only [BV.up,BV.av,AV.up]
 | .own t=>by simp only [BV.up,BV.av,AV.up]
 | .ptr b o=>by simp only [BV.up,BV.av,AV.up]
 | .aptr b o p=>by simp only [BV.up,BV.av,AV.up]
 | .eptr t i n o=>by simp only [BV.up,BV.av,AV.up]
 | .dptr cs=>by simp only [BV.up,BV.av,AV.up]
 | .fn h a b=>by simp only [BV.up,BV.av,AV.up];rw [xZji f g a,xZji f g b]
 | .ifc t x=>by simp only [BV.up,BV.av,AV.up];rw [up_av f g x]
 | .tr i x=>by simp only [BV.up,BV.av,AV.up]
theorem xZji (f g:Nat→Nat):∀ l:List (BV T),BV.avs B (BV.upL f g l)=ups f g (BV.avs B l)
 | []=>by simp only [BV.upL,BV.avs,ups]
 | x::l=>by simp only [BV.upL,BV.avs,ups];rw [up_av f g x,xZji f g l]
end
theorem xZrs (Hc:BH T):(upHB rb rt H Hc).av B=upH rb rt (H.av B) (Hc.av B):=by
 have e1:(fun i=>upN rb H.box.length i)=upB rb (H.av B).box.length:=funext fun i=>by rw [xZkJ,xZew]
 have e2:(fun i=>upN rt H.buf.length i)=upB rt (H.av B).buf.length:=funext fun i=>by rw [xZkJ,buf_len']
 simp only [upHB,upH,BH.av,xZkA,List.map_map]
 congr 2
 refine List.map_congr_left fun cs _=>?_
 simp only [Function.comp]
 rw [xZmk,xZji]
 show ups (fun i=>upN rb H.box.length i) (fun i=>upN rt H.buf.length i) _=_
 rw [e1,e2];rfl
end
end Go.Proofs.YtmfkphajohcklaaGreat.O
namespace Go.Proofs.YtmfkphajohcklaaGreat.O
open Go
section
variable {T:Nat→Type} {B:Tb T} {R:Type}
structure Con.Ok (c:Con B) (P:Program) (N:Nat):Prop where
 ent:Enters P c.f
 res:∀ a r,c.sh N a=some r→CRes P c.f (BV.avs B (c.inn a).1) ((c.inn a).2.av B) (aeA ((c.o.enc r).1.av B)) ((c.o.enc r).2.av B)
def CallOk (B:Tb T) (P:Program) (dr:Bool) (f:FuncId) (args:List (BV T)) (H:BH T) (K:BV T→BH T→Option R) (r:R):Prop:=Enters P f∧∃ v H',(CRes P f (BV.avs B args) (H.av B) (aeA (v.av B)) (H'.av B)∧(dr=true→H'.av B=H.av B∧∀ H0,CRes P f (BV.avs B args) H0 (aeA (v.av B)) H0))∧K v H'=some r
theorem xZqY:(⟨[],[]⟩:BH T).av B=.nil:=rfl
variable {P:Program} {N:Nat} {dr:Bool} {args:List (BV T)} {H:BH T} {K:BV T→BH T→Option R} {r:R} {f:FuncId}
theorem xZgB {c:Con B} {a:c.A} {S:Type} {K:BV T→BH T→Option S} {s:S} (h:((c.sh N a).bind fun r=>c.o.elim r K)=some s):∃ rv,c.sh N a=some rv∧K (c.o.enc rv).1 (c.o.enc rv).2=some s:=by
 obtain ⟨rv,h1,h2⟩:=Option.bind_eq_some_iff.1 h
 rw [c.o.eE] at h2
 exact ⟨rv,h1,h2⟩
theorem xZmo {x:AV} (h:x.scal=true):aeA x=.ret x:=by
 cases x<;>first | rfl | cases h
theorem xZqz {f g:Nat→Nat} {v:BV T}:aeA ((v.up f g).av B)=(match aeA (v.av B) with
 | .ret r=>.ret (r.up f g)
 | .pan r=>.pan (r.up f g)):=by
 rw [up_av]
 generalize v.av B=a
 cases a with
 | ifc t x=>
   simp only [AV.up,aeA]
   cases Nat.ble PM t<;>simp only [AV.up]
 | _=>simp only [AV.up,aeA]
theorem xZnF {x y:AV} (h:LW x y):LWe (aeA x) (aeA y):=by
 cases h with
 | refl=>cases aeA x<;>exact LW.refl _
 | ifc t h=>simp only [aeA];cases Nat.ble PM t<;>exact .ifc _ h
 | emp k=>exact .emp k
 | sl k h=>exact .sl k h
 | agg h=>exact .agg h
 | tup h=>exact .tup h
 | dptr h=>exact .dptr h
 | fn f h h'=>exact .fn f h h'
theorem xZqy {v:BV T} (h:noPM v=true):aeA (v.av B)=.ret (v.av B):=by
 cases v with
 | ifc t x=>simp only [noPM,Bool.not_eq_true'] at h;simp only [BV.av,aeA,h]
 | raw x=>cases x<;>first | rfl | cases h
 | _=>simp only [BV.av,aeA]
theorem xZfJ:∀ {Γ:List (Con B)},(∀ c∈Γ,c.Ok P N)→callS dr args H N K f Γ=some r→CallOk B P dr f args H K r
 | [],_,h=>by cases h
 | c::Γ,hΓ,h=>by
   have ih:callS dr args H N K f Γ=some r→CallOk B P dr f args H K r:=fun h=>xZfJ (fun c hc=>hΓ c (List.mem_cons_of_mem _ hc)) h
   have hc:=hΓ c (List.mem_cons_self ..)
   simp only [callS,callHit] at h
   split at h
   ·exact ih h
   ·rename_i hf
    have hf:=beq_eq hf
    subst hf
    generalize (rch H 1000 (rawArgs c.md args) [] []).1=rb at h
    generalize (rch H 1000 (rawArgs c.md args) [] []).2=rt at h
    split at h
    ·rename_i hpl
     obtain ⟨p1,p2⟩:=c.okp hpl
     split at h
     ·split at h
      ·split at h
       ·rename_i xs hxs
        split at h
        ·rename_i a ha
         obtain ⟨rv,h1,h2⟩:=xZgB h
         obtain ⟨q1,q2⟩:=c.ok _ _ _ ha
         have hcr:=hc.res a rv h1
         rw [p1 a,p2 rv] at hcr
         have hcr:CRes P c.f (BV.avs B xs) .nil (aeA ((c.o.enc rv).1.av B)) .nil:=CRes.lw hcr q1 (.refl _)
         have hle:=xZeo (B:=B) hxs
         have hall:∀ H0:AH,listP (le2 [] [] H0) (BV.avs B args) (BV.avs B xs):=fun H0=>
          xZ9V (fun x y h=>le2_1 (xZk3 (fun u k xs hu=>by simp [xZqY,AH.nil,List.getD] at hu) h.1) h.2) hle
         exact ⟨hc.ent,_,H,⟨hcr.pure (hall _),fun _=>⟨rfl,fun H0=>hcr.pure (hall H0)⟩⟩,h2⟩
        ·exact ih h
       ·exact ih h
      ·split at h
       ·rename_i xs hxs
        split at h
        ·rename_i a ha
         obtain ⟨q1,q2⟩:=c.ok _ _ _ ha
         have base:∀ rv,c.sh N a=some rv→CRes P c.f (BV.avs B xs) .nil (aeA ((c.o.enc rv).1.av B)) .nil:=fun rv h1=>by
          have hcr:=hc.res a rv h1
          rw [p1 a,p2 rv] at hcr
          exact CRes.lw hcr q1 (.refl _)
         have hle:=rnArgs2 (B:=B) hxs
         rw [xZbO] at hle
         split at h
         ·rename_i hts
          obtain ⟨rv,h1,h2⟩:=xZgB h
          rw [hts] at hle
          exact ⟨hc.ent,_,H,⟨(base rv h1).pure hle,fun h=>by cases h⟩,h2⟩
         ·rename_i hsc _
          obtain ⟨rv,h1,h2⟩:=xZgB h
          have hs:=c.oks hsc rv
          have hb:=base rv h1
          refine ⟨hc.ent,_,H,⟨?_,fun h=>by cases h⟩,h2⟩
          rw [xZmo hs] at hb ⊢
          exact hb.lend _ hle hs
         ·obtain ⟨rv,h1,h2⟩:=xZgB h
          refine ⟨hc.ent,_,_,⟨?_,fun h=>by cases h⟩,h2⟩
          rw [xZbO]
          exact (base rv h1).give _ hle
        ·exact ih h
       ·exact ih h
     ·exact ih h
    ·split at h
     ·exact ih h
     ·split at h
      ·rename_i xs hxs
       obtain ⟨Hc,hl,hnt,h⟩:=xZlv (B:=B) h
       split at h
       ·rename_i a ha
        obtain ⟨rv,h1,h2⟩:=xZgB h
        obtain ⟨q1,q2⟩:=c.ok _ _ _ ha
        have hcr:=(hc.res a rv h1).lw q1 q2
        have hle:=rnArgs2 (B:=B) hxs
        rw [xZbO] at hle hl
        have:=hcr.lift _ rb rt hl hnt hle
        refine ⟨hc.ent,_,_,⟨?_,fun h=>by cases h⟩,h2⟩
        rw [xZqz,xZrs,xZbO]
        have e1:upN rb (frzHB H ((datArgs c.md args).flatMap ownsB)).box.length=upB rb (frzH (H.av B) ((datArgs c.md args).flatMap ownsB)).box.length:=funext fun i=>by rw [xZkJ,← xZbO,xZew]
        have e2:upN rt (frzHB H ((datArgs c.md args).flatMap ownsB)).buf.length=upB rt (frzH (H.av B) ((datArgs c.md args).flatMap ownsB)).buf.length:=funext fun i=>by rw [xZkJ,← xZbO,buf_len']
        rw [e1,e2]
        exact this
       ·exact ih h
      ·exact ih h
def extFn:EK'→Array Value→Sem Value
 | .ib=>Extern.BytealgIndexByte.indexByte
 | .cs=>Extern.BytealgCount.count
 | .fb=>Extern.MathFloatBits.float64frombits
 | .ne=>Extern.AbiNoEscape.same
def exOk (P:Program):List (FuncId×EK')→Prop
 | []=>True
 | (f,k)::r=>ExtIs P f (extFn k)∧exOk P r
theorem xZlS:∀ {l:List (FuncId×EK')} {f:FuncId} {k:EK'},exOk P l→exOf l f=some k→ExtIs P f (extFn k)
 | [],_,_,_,h=>by cases h
 | (m,z)::l,f,k,hx,h=>by
   simp only [exOf] at h
   split at h
   ·rename_i hm;cases h;rw [← beq_eq hm];exact hx.1
   ·exact xZlS hx.2 h
variable {e:SE T} {t:List AV} {ns:Nat}
theorem xZon (hr:RelE B e t ns) {q:EK'} {as:List Od} {K:BV T→Option R} (hx:ExtIs P f (extFn q)) (h:extS q (as.map (bod e)) K=some r):∃ v,(∀ H0,OS P (.call f as) t H0 (.ret (v.av B)) H0)∧K v=some r:=by
 unfold extS at h
 split at h
 ·rename_i s c hm
  obtain ⟨x,as1,rfl,hx1,hm⟩:=List.map_eq_cons_iff.1 hm
  obtain ⟨y,as2,rfl,hx2,hm⟩:=List.map_eq_cons_iff.1 hm
  cases List.map_eq_nil_iff.1 hm
  exact ⟨_,fun H0=>xZdD hx (by rw [hr.od,hx1];rfl) (by rw [hr.od,hx2];rfl),h⟩
 ·rename_i s c hm
  obtain ⟨x,as1,rfl,hx1,hm⟩:=List.map_eq_cons_iff.1 hm
  obtain ⟨y,as2,rfl,hx2,hm⟩:=List.map_eq_cons_iff.1 hm
  cases List.map_eq_nil_iff.1 hm
  exact ⟨_,fun H0=>xZg1 hx (by rw [hr.od,hx1];rfl) (by rw [hr.od,hx2];rfl),h⟩
 ·rename_i n hm
  obtain ⟨x,as1,rfl,hx1,hm⟩:=List.map_eq_cons_iff.1 hm
  cases List.map_eq_nil_iff.1 hm
  exact ⟨_,fun H0=>xZj9 hx (by rw [hr.od,hx1];rfl),h⟩
 ·rename_i y hm
  obtain ⟨x,as1,rfl,hx1,hm⟩:=List.map_eq_cons_iff.1 hm
  cases List.map_eq_nil_iff.1 hm
  exact ⟨_,fun H0=>xZjb hx (by rw [hr.od,hx1]),h⟩
 ·cases h
theorem xZnn {x:Operand} {ty tt:TypeId} {v:AV} {A:AH} {t:List AV} (h1:od t (cOd x)=.ifc tt v):OS P (.raw (.panic x) ty) t A (.pan (.ifc tt v)) A:=by
 intro wr oc hc
 obtain ⟨hop,_⟩:=xZce hc
 intro M S w a hx hh _ K Q hK
 have e1:=hx x (by rw [hop];simp [Op.operands])
 rw [h1] at e1
 obtain ⟨u,hu,hr⟩:=xZim e1
 have hk:=hK M S (.iface tt u) w hh (Frm.refl hh) (.ifc _ _ _ hr)
 unfold Oper.wp
 have e2:(execOp a.eval oc).run P w=.halt (.panic (.iface tt u)) w:=by
  simp only [execOp,hop,hu];rfl
 rw [e2]
 exact hk
def valsK (q:List IntKind) (ns:List Int):Array Value:=(List.zipWith Value.int q ns).toArray
theorem xZkc {k:IntKind} {n:Int} {c:BV T}:numB k n c=true ↔ c.av B=.v (.int k n):=by
 have ii:∀ k' m,(if k'=k then m==n else false)=true ↔ AV.v (.int k' m)=.v (.int k n):=fun k' m=>by
  by_cases h:k'=k
  ·subst h;simp
  ·simp [h]
 cases c with
 | int k' m=>simp only [numB,BV.av];exact ii k' m
 | raw x=>
   cases x with
   | v y=>
     cases y with
     | int k' m=>simp only [numB,BV.av];exact ii k' m
     | _=>simp [numB,BV.av]
   | _=>simp [numB,BV.av]
 | _=>simp [numB,BV.av]
theorem xZhW:∀ {q:List IntKind} {ns:List Int} {cs:List (BV T)},q≠[]→ns.length=q.length→(samK q ns cs=true ↔ ∀ j,j < q.length→(BV.avs B cs).getD j .any=.v ((valsK q ns).getD j undef))
 | [],_,_,h,_=>absurd rfl h
 | k::q,[],_,_,h=>by simp at h
 | k::q,n::ns,[],_,_=>by
   constructor
   ·intro h;simp [samK] at h
   ·intro h;have:=h 0 (by simp);simp [BV.avs] at this
 | k::q,n::ns,c::cs,_,hl=>by
   have hv:∀ j,(valsK (k::q) (n::ns)).getD (j+1) undef=(valsK q ns).getD j undef:=fun j=>by simp [valsK,Array.getD]
   have h0:(valsK (k::q) (n::ns)).getD 0 undef=.int k n:=by simp [valsK,Array.getD]
   have hc:(∀ j,j < (k::q).length→(BV.avs B (c::cs)).getD j .any=.v ((valsK (k::q) (n::ns)).getD j undef)) ↔ c.av B=.v (.int k n)∧∀ j,j < q.length→(BV.avs B cs).getD j .any=.v ((valsK q ns).getD j undef):=by
    constructor
    ·intro h
     refine ⟨by have:=h 0 (by simp);rw [h0] at this;simpa [BV.avs] using this,fun j hj=>?_⟩
     have:=h (j+1) (by simp;omega)
     rw [hv] at this
     simpa [BV.avs] using this
    ·rintro ⟨h1,h2⟩ j hj
     cases j with
     | zero=>rw [h0];simpa [BV.avs] using h1
     | succ j=>rw [hv];simpa [BV.avs] using h2 j (by simp at hj;omega)
   rw [hc]
   cases q with
   | nil=>simp only [samK,xZkc (B:=B)];simp
   | cons k2 q2=>
     have ih:=xZhW (q:=k2::q2) (ns:=ns) (cs:=cs) (by simp) (by simpa using hl)
     simp only [samK,Bool.and_eq_true,xZkc (B:=B)]
     exact and_congr_right fun _=>ih
theorem xZfU:∀ {q:List IntKind} {cs:List (BV T)} {ns:List Int},keyB q cs=some ns→ns.length=q.length∧BV.avs B cs=(valsK q ns).toList.map .v
 | [],[],ns,h=>by cases h;exact ⟨rfl,rfl⟩
 | [],_::_,ns,h=>by cases h
 | k::q,[],ns,h=>by cases h
 | k::q,c::cs,ns,h=>by
   cases c with
   | int k' n=>
     simp only [keyB] at h
     split at h
     ·rename_i hk
      subst hk
      obtain ⟨ns',h1,rfl⟩:=Option.map_eq_some_iff.1 h
      obtain ⟨h2,h3⟩:=xZfU h1
      exact ⟨by simp [h2],by simp [BV.avs,BV.av,h3,valsK]⟩
     ·cases h
   | _=>cases h
theorem xZn7:∀ {q:List IntKind} {ns:List Int},ns.length=q.length→kwB q ns=true→KC q (valsK q ns).toList
 | [],[],_,_=>trivial
 | [],_::_,h,_=>by simp at h
 | k::q,[],h,_=>by simp at h
 | k::q,n::ns,hl,h=>by
   simp only [kwB,Bool.and_eq_true] at h
   have:=xZn7 (q:=q) (ns:=ns) (by simpa using hl) h.2.2
   refine ⟨⟨n,rfl,?_⟩,by simpa [valsK] using this⟩
   simp only [Lit.wf,Bool.and_eq_true,decide_eq_true_eq]
   exact ⟨xZ18.1 h.1,xZ18.1 h.2.1⟩
theorem xZjm:∀ {cs:List (BV T)},allI cs=true→(BV.avs B cs).all AV.dat=true∧ones (BV.avs B cs)=true∧∀ x∈BV.avs B cs,∃ v,x=.v v
 | [],_=>⟨rfl,rfl,fun x h=>by cases h⟩
 | c::cs,h=>by
   cases c with
   | int k n=>
     obtain ⟨h1,h2,h3⟩:=xZjm (cs:=cs) h
     refine ⟨?_,?_,fun x hx=>?_⟩
     ·simp only [BV.avs,BV.av,List.all_cons,h1,Bool.and_true];rfl
     ·simp only [BV.avs,BV.av,ones,List.all_cons];simp only [ones] at h2;rw [h2];rfl
     ·simp only [BV.avs,BV.av] at hx
      rcases List.mem_cons.1 hx with rfl | hx
      ·exact ⟨_,rfl⟩
      ·exact h3 x hx
   | _=>cases h
theorem lws_v:∀ {a b:List AV},LWs a b→(∀ x∈a,∃ v,x=AV.v v)→b=a
 | _,_,.nil,_=>rfl
 | _,_,.cons h r,hv=>by
   obtain ⟨v,rfl⟩:=hv _ (List.mem_cons_self ..)
   cases h
   rw [lws_v r fun x hx=>hv x (List.mem_cons_of_mem _ hx)]
theorem xZm7 {α:Type} {ks:Array Value} {f:α→AV} {p:α→Bool} {y:α} (hp:∀ x,p x=true ↔ hasKey ks (f x)):∀ (l:List α) (pre:List AV),(∀ x∈pre,¬ hasKey ks x)→PutE ks (f y) (pre++l.map f) (pre++(mup p y l).map f)
 | [],pre,h=>by rw [List.map_nil,List.append_nil];exact .new h
 | x::l,pre,h=>by
   rw [mup]
   cases hx:p x with
   | true=>simp only [cond_true,List.map_cons];exact .old ((hp x).1 hx)
   | false=>
     simp only [cond_false,List.map_cons]
     have:=xZm7 hp (y:=y) l (pre++[f x]) fun z hz=>by
      rcases List.mem_append.1 hz with hz | hz
      ·exact h z hz
      ·rw [List.mem_singleton.1 hz];intro hh;rw [(hp x).2 hh] at hx;cases hx
     simpa using this
def mkOk (P:Program) (B:Tb T):List (TypeId×((i:Nat)×T i×Nat))→Prop
 | []=>True
 | (te,⟨i,z,by_⟩)::r=>(∃ ks,cMk P te ks=some (B.eA i z,B.k i,by_))∧mkOk P B r
theorem xZm5:∀ {l:List (TypeId×((i:Nat)×T i×Nat))} {te:TypeId} {i:Nat} {z:T i} {by_:Nat},mkOk P B l→mkOf l te=some ⟨i,z,by_⟩→∃ ks,cMk P te ks=some (B.eA i z,B.k i,by_)
 | [],_,_,_,_,_,h=>by cases h
 | (m,⟨j,z',b'⟩)::l,te,i,z,by_,hx,h=>by
   simp only [mkOf] at h
   split at h
   ·rename_i hm;cases h;rw [← beq_eq hm];exact hx.1
   ·exact xZm5 hx.2 h
variable {d:Option Nat} {K:SE T→BH T→Option R}
theorem xZlr {P:Program} {t:List AV} {H:AH} {r1:AE} {H':AH} {ty ty':TypeId} {n k:Nat} {pp:Array (Nat×Operand)} {ps:List Od} (hc:cOp0 P (true,[]) (oprOf (.buildSlice ty n pp))=some (.bsl k ps)) (h:OS P (.bsl k ps) t H r1 H'):OS P (.raw (.buildSlice ty n pp) ty') t H r1 H':=by
 intro wr oc hc'
 obtain ⟨hop,_⟩:=xZce hc'
 refine h (true,[]) oc ?_
 have e1:asIs (true,[]) oc=false:=by
  unfold asIs
  split<;>rfl
 unfold cOp
 rw [e1,xZnN (o':=oprOf (.buildSlice ty n pp)) hop,hc]
theorem xZp9 (hB:B.Ok) {h0:Hint T} (hh:h0.Ok B) (hm:mkOk P B h0.mks) (hbo:∀ i l s,h0.bo i l=some s→B.k i=1∧∃ m:List Int,l.map (B.eA i)=m.map u8V∧s=byS m) (hr:RelE B e t ns) (hd:okD ns d=true) {o:Op} {ty:TypeId} (h:rawS B P h0 e H d o K=some r):StepOk B P dr t H d (.raw o ty) ns K r:=by
 have pure:∀ {v:BV T},(∀ H0,OS P (.raw o ty) t H0 (.ret (v.av B)) H0)→(SO.raw o ty).acts=false→(SO.raw o ty).frames=false→K (putE e d v) H=some r→StepOk B P dr t H d (.raw o ty) ns K r:=fun {v} hos _ hf h=>
  ⟨v.av B,H.av B,putE e d v,H,xZ5C hos rfl hf,hr.put hd v,rfl,h⟩
 have hb:∀ {x:Operand} {v:BV T},bodP e x=v→od t (cOd x)=v.av B:=fun {x v} hx=>by rw [hr.od];exact congrArg (BV.av B) hx
 cases o with
 | call c=>
   obtain ⟨cal,args,ts⟩:=c
   cases cal with
   | builtin b=>
     cases b with
     | max=>
       simp only [rawS] at h
       split at h
       ·rename_i x y ha
        split at h
        ·rename_i k a k' b hx hy
         have:args=#[x,y]:=by rw [← Array.toList_inj,ha]
         subst this
         exact pure (v:=.int k (max a b)) (fun H0=>xZrg (hb hx) (hb hy)) rfl rfl h
        ·cases h
       ·cases h
     | min=>
       simp only [rawS] at h
       split at h
       ·rename_i x y ha
        split at h
        ·rename_i k a k' b hx hy
         have:args=#[x,y]:=by rw [← Array.toList_inj,ha]
         subst this
         exact pure (v:=.int k (min a b)) (fun H0=>xZrh (hb hx) (hb hy)) rfl rfl h
        ·cases h
       ·cases h
     | len=>
       simp only [rawS] at h
       split at h
       ·rename_i x ty' ha hta
        split at h
        ·rename_i u hT hx
         have:args=#[x]:=by rw [← Array.toList_inj,ha]
         subst this
         have:ts=#[ty']:=by rw [← Array.toList_inj,hta]
         subst this
         split at h
         ·rename_i q j l hbu
          have hbu':(H.av B).buf.getD u .dead=.map q (B.k j) (l.map (B.eA j)):=by rw [xZ9A,hbu];rfl
          have hos:=xZlq (P:=P) (ty:=ty) hT ((hb hx).trans (by simp only [BV.av])) hbu'
          rw [List.length_map] at hos
          exact ⟨.v (.int .i64 l.length),_,_,_,xZdv rfl hos,by have:=hr.put (B:=B) hd (.int .i64 l.length);simpa only [BV.av] using this,rfl,h⟩
         ·cases h
        ·cases h
       ·cases h
     | _=>cases h
   | _=>cases h
 | index te x i=>
   simp only [rawS] at h
   split at h
   ·rename_i m k ag cs ik n hc hx hi
    obtain ⟨e',hu,hl⟩:=xZkT hc
    split at h
    ·rename_i j hj
     split at h
     ·rename_i l hk hdm
      have hk:=beq_eq hk
      obtain ⟨el,hel,h⟩:=Option.bind_eq_some_iff.1 h
      obtain ⟨i1,i2,i3⟩:=xZf6 hel
      obtain ⟨pre,mid,suf,e1,e2,e3,e4⟩:=xZid hB hdm i3
      have hlen:=congrArg List.length e1
      simp only [List.length_append,xZ4n,e2,e3] at hlen
      have hlm:=(xZhw hB hdm).1
      refine pure (v:=mkB ag (B.enc j el)) (fun H0=>?_) rfl rfl h
      rw [mk_av,hB.enc]
      have hos:=xZoV (P:=P) (t:=t) (H:=H0) (te:=te) (ty:=ty) (x:=x) (i:=i) (cs:=BV.avs B cs) (ik:=ik) (n:=n) hu hl ((hb hx).trans (by simp only [BV.av])) ((hb hi).trans (by simp only [BV.av])) i1 (by omega) (by rw [xZ4n,← hk];omega)
      refine hos.lw (mk_lw ag ?_) (LWH.refl _)
      rw [e1,← hk,← e2,List.append_assoc,List.drop_left,List.take_append_of_le_length (by omega),List.take_of_length_le (by omega)]
      exact e4
     ·cases h
    split at h
    ·rename_i hb'
     simp only [Bool.and_eq_true,xZe9,xZd1,decide_eq_true_eq,Nat.ble_eq] at hb'
     obtain ⟨⟨b1,b2⟩,b3⟩:=hb'
     refine pure (v:=mkB ag ((cs.drop (n.toNat * k)).take k)) (fun H0=>?_) rfl rfl h
     rw [mk_av]
     have e1:BV.avs B ((cs.drop (n.toNat * k)).take k)=((BV.avs B cs).drop (n.toNat * k)).take k:=by simp only [xZ5B,List.map_take,List.map_drop]
     rw [e1]
     exact xZoV (cs:=BV.avs B cs) (ik:=ik) (n:=n) hu hl ((hb hx).trans (by simp only [BV.av])) ((hb hi).trans (by simp only [BV.av])) b1 b2 (by rw [xZ4n];exact b3)
    ·cases h
   ·cases h
 | nilCheck x=>
   simp only [rawS] at h
   split at h
   ·rename_i b o' hx
    exact pure (v:=.ptr b o') (fun H0=>xZrk (hb hx)) rfl rfl h
   ·rename_i u i n o' hx
    exact pure (v:=.eptr u i n o') (fun H0=>xZp1 (hb hx)) rfl rfl h
   ·rename_i cs hx
    exact pure (v:=.dptr cs) (fun H0=>by simp only [BV.av];exact xZp0 ((hb hx).trans (by simp only [BV.av]))) rfl rfl h
   ·cases h
 | binOp op te x y ty'=>
   simp only [rawS] at h
   split at h
   ·rename_i k m k' n ho hx hy
    split at h
    ·rename_i hk
     subst hk
     exact pure (v:=.bool (fcmpB op k' m n)) (fun H0=>xZoU ho (hb hx) (hb hy)) rfl rfl h
    ·cases h
   ·rename_i xs ys ho hx hy
    split at h
    ·rename_i ne ls hne hls
     split at h
     ·rename_i b hbb
      refine pure (v:=.bool (neS ne b)) (fun H0=>?_) rfl rfl h
      have:=xZr7 (P:=P) (t:=t) (H:=H0) (op:=op) (te:=te) (ty':=ty') (ty:=ty) (x:=x) (y:=y) (b:=b) hne hls ((hb hx).trans (by rw [BV.av])) ((hb hy).trans (by rw [BV.av])) (xZjR (B:=B) hbb)
      rw [← xZeM] at this
      exact this
     ·cases h
    ·cases h
   ·cases h
 | makeMap mt rs=>
   simp only [rawS] at h
   split at h
   ·rename_i q k zs i hc hi
    split at h
    ·refine ⟨.own (H.av B).buf.length,⟨(H.av B).box,(H.av B).buf++[.map q (B.k i) []]⟩,putE e d (.own H.buf.length),_,xZdv rfl (xZnm q (B.k i)),?_,?_,h⟩
     ·have:=hr.put (B:=B) hd (.own H.buf.length)
      simp only [BV.av] at this
      rw [buf_len'];exact this
     ·simp only [BH.av,List.map_append,List.map_cons,List.map_nil,BB.av]
    ·cases h
   ·cases h
 | lookup mt x i c=>
   simp only [rawS] at h
   split at h
   ·rename_i q k zs u ks hc hx hi
    have hT:=xZi9 hc
    split at h
    ·rename_i q' j l ns hbu hks
     split at h
     ·rename_i hcc
      obtain ⟨rfl,rfl,hq⟩:=hcc
      obtain ⟨hkw,h⟩:=xZ3p h
      obtain ⟨hl,hav⟩:=xZfU (B:=B) hks
      have hkc:=xZn7 hl hkw
      have hx':od t (cOd x)=.own u:=(hb hx).trans (by simp only [BV.av])
      have hi':od t (cOd i)=keyAV (valsK q' ns):=(hb hi).trans (by simp only [BV.av,keyAV,hav])
      have hbu':(H.av B).buf.getD u .dead=.map q' (B.k j) (l.map (B.eA j)):=by rw [xZ9A,hbu];rfl
      have hsz:(valsK q' ns).size=q'.length:=by simp [valsK,hl]
      have hiff:∀ y,samK q' ns (B.enc j y)=true ↔ hasKey (valsK q' ns) (B.eA j y):=fun y=>by
       rw [xZhW (B:=B) hq hl,hB.enc]
       unfold hasKey
       rw [hsz]
      have hcz:BV.avs B ((zs.map cbv1:List (BV T)))=zs:=by
       rw [xZ5B,List.map_map]
       conv=>rhs;rw [← List.map_id zs]
       exact List.map_congr_left fun z _=>xZjs z
      unfold mcs at h
      split at h
      ·rename_i y hf
       have hy:=List.mem_of_find?_eq_some hf
       obtain ⟨m,hm,hmy⟩:=List.getElem_of_mem hy
       have hos:=xZkn (P:=P) (ty:=ty) (c:=c) (j:=m) (y:=B.eA j y) hT hx' hbu' hi' hkc (by rw [List.getElem?_map,List.getElem?_eq_getElem hm,hmy];rfl) ((hiff y).1 (by have:=List.find?_some hf;exact this))
       have hen:BV.avs B ((B.enc j y).drop q'.length)=(B.eA j y).cells.drop q'.length:=by rw [← hB.enc,xZ5B,xZ5B,List.map_drop]
       cases c with
       | true=>exact ⟨.tup [.agg ((B.eA j y).cells.drop q'.length),.b true],_,_,_,xZdv rfl hos,by have:=hr.put (B:=B) hd (.tup [.agg ((B.enc j y).drop q'.length),.bool true]);simpa only [BV.av,BV.avs,hen] using this,rfl,h⟩
       | false=>exact ⟨.agg ((B.eA j y).cells.drop q'.length),_,_,_,xZdv rfl hos,by have:=hr.put (B:=B) hd (.agg ((B.enc j y).drop q'.length));simpa only [BV.av,BV.avs,hen] using this,rfl,h⟩
      ·rename_i hf
       have hos:=xZja (P:=P) (ty:=ty) (c:=c) hT hx' hbu' hi' hkc fun y hy hh=>by
        obtain ⟨z,hz,rfl⟩:=List.mem_map.1 hy
        have:=List.find?_eq_none.1 hf z hz
        exact this ((hiff z).2 hh)
       cases c with
       | true=>exact ⟨.tup [.agg zs,.b false],_,_,_,xZdv rfl hos,by have:=hr.put (B:=B) hd (.tup [.agg (zs.map cbv1),.bool false]);simp only [BV.av,BV.avs] at this;rw [hcz] at this;exact this,rfl,h⟩
       | false=>exact ⟨.agg zs,_,_,_,xZdv rfl hos,by have:=hr.put (B:=B) hd (.agg (zs.map cbv1));simp only [BV.av] at this;rw [hcz] at this;exact this,rfl,h⟩
     ·cases h
    ·cases h
   ·cases h
 | mapUpdate mt x i z=>
   simp only [rawS] at h
   split at h
   ·rename_i q k zs u ks vs hc hx hi hz
    have hT:=xZi9 hc
    split at h
    ·rename_i q' j l ns hbu hks
     split at h
     ·rename_i y hdec hall
      split at h
      ·rename_i hcc
       obtain ⟨rfl,rfl,hq,hlen⟩:=hcc
       obtain ⟨hkw,h⟩:=xZ3p h
       rw [Bool.and_eq_true] at hall
       obtain ⟨hall,hag⟩:=hall
       obtain ⟨hl,hav⟩:=xZfU (B:=B) hks
       have hkc:=xZn7 hl hkw
       have hx':od t (cOd x)=.own u:=(hb hx).trans (by simp only [BV.av])
       have hi':od t (cOd i)=keyAV (valsK q' ns):=(hb hi).trans (by simp only [BV.av,keyAV,hav])
       have hz':od t (cOd z)=.agg (BV.avs B vs):=(hb hz).trans (by simp only [BV.av])
       have hbu':(H.av B).buf.getD u .dead=.map q' (B.k j) (l.map (B.eA j)):=by rw [xZ9A,hbu];rfl
       have hsz:(valsK q' ns).size=q'.length:=by simp [valsK,hl]
       have hiff:∀ y,samK q' ns (B.enc j y)=true ↔ hasKey (valsK q' ns) (B.eA j y):=fun y=>by
        rw [xZhW (B:=B) hq hl,hB.enc]
        unfold hasKey
        rw [hsz]
       obtain ⟨d1,d2,d3⟩:=xZjm (B:=B) hall
       have hcells:(B.eA j y).cells=(valsK q' ns).toList.map .v++BV.avs B vs:=by
        have:=hB.dec j _ y hdec
        rw [xZ6A,hav] at this
        refine lws_v this fun a ha=>?_
        rcases List.mem_append.1 ha with ha | ha
        ·obtain ⟨v,_,rfl⟩:=List.mem_map.1 ha;exact ⟨v,rfl⟩
        ·exact d3 a ha
       have hy:B.eA j y=.agg ((valsK q' ns).toList.map .v++BV.avs B vs):=by rw [hB.ag j y hag,hcells]
       have hput:=xZm7 (y:=y) hiff l [] (fun x hx=>by cases hx)
       rw [hy] at hput
       have hos:=xZrj (P:=P) (ty:=ty) (xs':=(mup (fun y=>samK q' ns (B.enc j y)) y l).map (B.eA j)) hT hx' hbu' hi' hkc hz' d1 d2 (by rw [xZ4n];exact hlen) hput
       refine ⟨_,_,putE e d (.raw (.v undef)),_,xZdv rfl hos,?_,?_,h⟩
       ·have:=hr.put (B:=B) hd (.raw (.v undef));simpa only [BV.av] using this
       ·simp only [BH.av,List.map_set,BB.av]
      ·cases h
     ·cases h
    ·cases h
   ·cases h
 | typeAssert x xt ad ok=>
   simp only [rawS] at h
   split at h
   ·rename_i z hz
    have hz':(cbv z:BV T).av B=z:=xZnO z
    split at h
    ·rename_i t' v hx
     split at h
     ·rename_i hte
      have hte:=beq_eq hte
      subst hte
      refine pure (v:=.tup [v,.bool true]) (fun H0=>?_) rfl rfl h
      have:=xZls (P:=P) (t:=t) (H:=H0) (x:=x) (xt:=xt) (ty:=ty) hz (v:=v.av B) ((hb hx).trans (by simp only [BV.av]))
      simpa only [BV.av,BV.avs] using this
     ·rename_i hte
      refine pure (v:=.tup [cbv z,.bool false]) (fun H0=>?_) rfl rfl h
      have:=xZko (P:=P) (t:=t) (H:=H0) (x:=x) (xt:=xt) (ty:=ty) hz (v:=v.av B) (T:=t') ((hb hx).trans (by simp only [BV.av])) (by
       cases hbb:(t'==ad) with
       | false=>rfl
       | true=>rw [eq_of_beq hbb] at hte;simp at hte)
      simpa only [BV.av,BV.avs,hz'] using this
    ·rename_i hx
     refine pure (v:=.tup [cbv z,.bool false]) (fun H0=>?_) rfl rfl h
     have:=xZlt (P:=P) (t:=t) (H:=H0) (x:=x) (xt:=xt) (ty:=ty) hz ((hb hx).trans (by simp only [BV.av]))
     simpa only [BV.av,BV.avs,hz'] using this
    ·cases h
   ·cases h
 | convert src dst x=>
   simp only [rawS] at h
   have see:∀ {m:List Int},cCv P src dst=true→isRow (od t (cOd x))=true→(∀ bx,srcV ⟨bx,(H.av B).buf⟩ 1 (od t (cOd x))=some (m.map u8V))→K (putE e d (.str (byS m))) H=some r→StepOk B P dr t H d (.raw (.convert src dst x) ty) ns K r:=fun {m} hc hi hs h=>by
    obtain ⟨el,h1,h2,h3⟩:=xZmt hc
    exact ⟨(BV.str (byS m)).av B,H.av B,putE e d (.str (byS m)),H,xZcA rfl (fun bx=>xZr4 h1 h3 h2 hi (hs _)),hr.put hd _,rfl,h⟩
   have buf1:∀ {u:Nat} {i:Nat} {l:List (T i)} {s:List UInt8},bodP e x=.own u→(bufA H u=.live i l∨bufA H u=.froz i l)→cCv P src dst=true→h0.bo i l=some s→K (putE e d (.str s)) H=some r→StepOk B P dr t H d (.raw (.convert src dst x) ty) ns K r:=fun {u i l s} hx hu hc hs h=>by
    obtain ⟨hk,m,hm,rfl⟩:=hbo _ _ _ hs
    refine see hc (by rw [hb hx];rfl) (fun bx=>?_) h
    rw [hb hx]
    show srcB 1 ((H.av B).buf.getD u .dead)=_
    have e1:(H.av B).buf.getD u .dead=(bufA H u).av B:=by
     simp only [BH.av,bufA,List.getD,List.getElem?_map]
     cases H.buf[u]?<;>rfl
    rw [e1]
    rcases hu with hu | hu<;>rw [hu]<;>simp only [BB.av,srcB,hk,hm,if_true]
   split at h
   ·rename_i i l hc hx
    split at h
    ·rename_i s hs
     obtain ⟨hk,m,hm,rfl⟩:=hbo _ _ _ hs
     refine see hc (by rw [hb hx];rfl) (fun bx=>?_) h
     rw [hb hx]
     simp only [BV.av,srcV,hk,hm,if_true]
    ·cases h
   ·rename_i u hc hx
    split at h
    ·rename_i i l hu
     split at h
     ·rename_i s hs
      exact buf1 hx (.inl hu) hc hs h
     ·cases h
    ·rename_i i l hu
     split at h
     ·rename_i s hs
      exact buf1 hx (.inr hu) hc hs h
     ·cases h
    ·cases h
   ·rename_i hc hx
    exact see (m:=[]) hc (by rw [hb hx];rfl) (fun bx=>by rw [hb hx];rfl) h
   ·cases h
 | makeSlice te x y=>
   simp only [rawS] at h
   split at h
   ·rename_i i z by_ kl l kc c hmk hx hy
    obtain ⟨ks,hmk⟩:=xZm5 hm hmk
    split at h
    ·rename_i hby
     obtain ⟨h1,h⟩:=xZ3p h
     have h1:=xZ18.1 h1
     have hx':od t (cOd x)=.v (.int kl l):=hb hx
     have hy':od t (cOd y)=.v (.int kc c):=hb hy
     have hlc:l≤c∧gd (leB ((by_:Int) * c) 281474976710656) (K (putE e d (.own H.buf.length)) ⟨H.box,H.buf++[.live i (List.replicate l.toNat z)]⟩)=some r:=by
      unfold gdN at h
      split at h
      ·rename_i hso
       refine ⟨?_,h⟩
       have hxy:x=y:=by
        unfold sameO at hso
        split at hso
        ·rw [beq_eq hso]
        ·cases hso
       subst hxy
       rw [hx'] at hy'
       simp at hy'
       omega
      ·obtain ⟨h2,h⟩:=xZ3p h
       exact ⟨xZ18.1 h2,h⟩
     obtain ⟨h3,h⟩:=xZ3p hlc.2
     have h3:=xZ18.1 h3
     have hby:0 < by_:=by simpa using hby
     have h63:c≤9223372036854775807:=by
      have:(1:Int) * c≤(by_:Int) * c:=Int.mul_le_mul_of_nonneg_right (by omega) (by omega)
      omega
     refine ⟨.own (H.av B).buf.length,⟨(H.av B).box,(H.av B).buf++[.live (B.k i) (List.replicate l.toNat (B.eA i z))]⟩,putE e d (.own H.buf.length),_,?_,?_,?_,h⟩
     ·exact ⟨xZoZ hmk hx' hy' h1 hlc.1 h3 h63,fun _=>⟨fun e=>absurd e (by simp [SO.acts,rawPure]),fun e=>absurd e (by simp [SO.acts,rawPure]),fun e=>absurd e (by simp [SO.acts,rawPure]),fun e=>absurd e (by simp [SO.news]),fun _=>⟨rfl,fun box=>xZoZ (H:=⟨box,(H.av B).buf⟩) hmk hx' hy' h1 hlc.1 h3 h63⟩⟩⟩
     ·have:=hr.put (B:=B) hd (.own H.buf.length)
      simp only [BV.av] at this
      rw [buf_len'];exact this
     ·simp only [BH.av,List.map_append,List.map_cons,List.map_nil,BB.av,List.map_replicate]
    ·cases h
   ·cases h
 | buildSlice bt n pp=>
   simp only [rawS] at h
   split at h
   ·rename_i k ps hc
    obtain ⟨v,H1,e',H',es,h2,h3,h4⟩:=xZnL hB hh (P:=P) (dr:=false) hr hd h
    exact ⟨v,H1,e',H',⟨xZlr hc es.1,fun _=>⟨fun e=>absurd e (by simp [SO.acts,rawPure]),fun e=>absurd e (by simp [SO.acts,rawPure]),fun e=>absurd e (by simp [SO.acts,rawPure]),fun e=>absurd e (by simp [SO.news]),fun e=>absurd e (by simp [SO.frames])⟩⟩,h2,h3,h4⟩
   ·cases h
 | _=>cases h
end
end Go.Proofs.YtmfkphajohcklaaGreat.O
