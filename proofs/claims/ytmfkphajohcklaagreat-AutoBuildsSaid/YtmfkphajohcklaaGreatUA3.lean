/- Maps of a call's own: made, looked up, written. No premise beyond what each theorem says. -/
import Derived.Test.YtmfkphajohcklaaGreatUA2
import Derived.Maps.Keyed
set_option linter.all false
set_option linter.unusedSimpArgs false
set_option linter.unusedVariables false
namespace Go.Proofs.YtmfkphajohcklaaGreat.U
open Go
set_option linter.unusedSimpArgs false
set_option linter.unusedVariables false
theorem oe:∀ {ks:List IntKind} {cs:List Value},KC ks cs->cs.length=ks.length
 | [],[],_=>rfl
 | [],_::_,h=>h.elim
 | _::_,[],h=>h.elim
 | _::ks,_::cs,h=>by simp[oe h.2]
theorem If:∀ {a b:List IntKind} {cs:List Value},KC (a++b) cs->KC a (cs.take a.length)/\KC b (cs.drop a.length)
 | [],b,cs,h=>⟨by simp[KC],by simpa using h⟩
 | k::a,b,[],h=>h.elim
 | k::a,b,c::cs,h=>by
   obtain⟨h1,h2⟩:=If (a:=a) h.2;exact⟨⟨h.1,h1⟩,by simpa using h2⟩
section
variable {P:Program}
def vh (P:Program) (g:TypeId->Option (List IntKind)):List Field->Nat->Option (List IntKind)
 | [],_=>some []
 | f::fs,o=>match g f.type,vh P g fs (o+P.cellsOf f.type)with
   | some ks,some r=>if f.offset=o/\P.cellsOf f.type=ks.length then some (ks++r)else none
   | _,_=>none
def oY (P:Program):Nat->TypeId->Option (List IntKind)
 | 0,_=>none
 | d+1,t=>match P.underlying t with
   | some (.int q)=>some [q]
   | some (.array n e)=>match oY P d e with
     | some ks=>if P.cellsOf e=ks.length/\P.cellsOf t=n*ks.length then some (List.replicate n ks).flatten else none
     | none=>none
   | some (.struct fs)=>match vh P (oY P d) fs.toList 0 with
     | some ks=>if P.cellsOf t=ks.length/\fs.all (·.name != "_")=true then some ks else none
     | none=>none
   | _=>none
theorem Qg {c:Nat} {ks:List IntKind} (hc:c=ks.length) {g:List Value->Option (List Lit)} (hg:∀cs,KC ks cs->∃ls,g cs=some ls):∀(n:Nat) (off:Nat) (cs:List Value),KC (List.replicate n ks).flatten (cs.drop (off*c))->∃ls,(List.range' off n).mapM (λi=>g ((cs.drop (i*c)).take c))=some ls
 | 0,off,cs,h=>⟨[],by simp⟩
 | n+1,off,cs,h=>by
   rw[List.replicate_succ,List.flatten_cons]at h;obtain⟨h1,h2⟩:=If h;rw[List.drop_drop,<- hc,<- Nat.succ_mul]at h2;rw[<- hc]at h1;obtain⟨l,hl⟩:=hg _ h1;obtain⟨ls,hls⟩:=Qg hc hg n (off+1) cs h2;exact⟨l::ls,by rw[List.range'_succ,List.mapM_cons,hl];simp[hls]⟩
theorem Qb {d:Nat} {g:TypeId->Option (List IntKind)} (hg:∀t ks,g t=some ks->∀cs,KC ks cs->∃ls,P.keyLits d t cs=some ls):∀(fs:List Field) (o:Nat) (ks:List IntKind),vh P g fs o=some ks->∀cs:List Value,KC ks (cs.drop o)->∃ls,(fs.mapM λf=>P.keyLits d f.type ((cs.drop f.offset).take (P.cellsOf f.type)))=some ls
 | [],o,ks,h,cs,hc=>⟨[],by simp⟩
 | f::fs,o,ks,h,cs,hc=>by
   rw[vh]at h;split at h
   ·rename_i k0 r hk hr;split at h
    ·rename_i he;cases h;obtain⟨h1,h2⟩:=If hc;rw[List.drop_drop,<- he.2]at h2;rw[<- he.2]at h1;obtain⟨l,hl⟩:=hg f.type k0 hk _ h1;obtain⟨ls,hls⟩:=Qb hg fs _ r hr cs h2;exact⟨l::ls,by rw[List.mapM_cons,he.1,hl];simp[hls]⟩
    ·cases h
   ·cases h
theorem G2:∀(d:Nat) (t:TypeId) (ks:List IntKind),oY P d t=some ks->∀cs,KC ks cs->∃ls,P.keyLits d t cs=some ls
 | 0,t,ks,h,cs,hc=>by simp[oY]at h
 | d+1,t,ks,h,cs,hc=>by
   rw[oY]at h;unfold Program.keyLits;split at h
   ·rename_i q hu;cases h;rw[hu];cases cs with
    | nil=>exact hc.elim
    | cons c cs=>
      obtain⟨⟨n,rfl,hw⟩,h2⟩:=hc;cases cs with
      | nil=>exact⟨[.int q n],by simp[hw]⟩
      | cons _ _=>exact h2.elim
   ·rename_i n e hu;split at h
    ·rename_i vi hk;split at h
     ·rename_i he;cases h;have hl:=oe hc;have:(List.replicate n vi).flatten.length=n*vi.length:=by simp
      obtain⟨ls,hls⟩:=Qg (c:=P.cellsOf e) he.1 (g:=P.keyLits d e) (λcs h=>G2 d e vi hk cs h) n 0 cs (by simpa using hc);rw[hu];refine⟨ls.flatten,?_⟩;simp only[];rw[if_pos (by rw[hl,this,he.2]),List.range_eq_range',hls];rfl
     ·cases h
    ·cases h
   ·rename_i fs hu;split at h
    ·rename_i vi hk;split at h
     ·rename_i he;cases h;rw[hu];obtain⟨ls,hls⟩:=Qb (λt ks h cs hc=>G2 d t ks h cs hc) fs.toList 0 ks hk cs (by simpa using hc);refine⟨ls.flatten,?_⟩;simp only[];rw[if_pos ⟨by rw[oe hc];exact he.1.symm,he.2⟩,hls];rfl
     ·cases h
    ·cases h
   ·cases h
def Xq (P:Program) (kt:TypeId):Bool:=match P.underlying kt with
 | some (.array _ _)|some (.struct _)=>true
 | _=>false
def qA (P:Program) (T:TypeId):Option (List IntKind×Nat×List AV):=
 match P.underlying T with
 | some (.map kt et)=>match oY P (P.types.size+1) kt,P.info? et with
   | some ks,some i=>match i.zero with
     | some (.agg vs)=>if (Xq P kt&&P.keyType kt&&P.keyTypeAt 9999 kt&&P.tiled 9999 kt&&(P.cellsOf kt==ks.length)&&ones (vs.toList.map .v))=true then some (ks,ks.length+vs.size,vs.toList.map .v)else none
     | _=>none
   | _,_=>none
 | _=>none
structure uh (P:Program) (T:TypeId) (ks:List IntKind) (k:Nat) (zs:List AV):Prop where
 get:∃(kt et:TypeId) (vs:Array Value),P.underlying T=some (.map kt et)/\Maps.Keyed P kt/\(∀v:Array Value,KC ks v.toList->∃l,keyOf P kt (.agg v)=some l)/\(∀w,(zeroValue et).run P w=.ok (.agg vs) w)/\k=ks.length+vs.size/\zs=vs.toList.map .v/\ones zs=true
theorem O2 {T:TypeId} {ks:List IntKind} {k:Nat} {zs:List AV} (h:qA P T=some (ks,k,zs)):uh P T ks k zs:=by
 unfold qA at h;split at h
 ·rename_i kt et hu;split at h
  ·rename_i ks' i hk hi;split at h
   ·rename_i vs hz;split at h
    ·rename_i hc;simp only[Option.some.injEq,Prod.mk.injEq]at h;obtain⟨rfl,rfl,rfl⟩:=h;simp only[Bool.and_eq_true,beq_iff_eq]at hc;obtain⟨⟨⟨⟨⟨c1,c2⟩,c3⟩,c4⟩,c5⟩,c6⟩:=hc;have hw:(match P.underlying kt with|some (.array _ _)|some (.struct _)=>true|_=>false)=true:=c1;refine⟨kt,et,vs,hu,Maps.Keyed.of_law (deep_law (m:=9999) (by decide) c3 c4 hw),λv hv=>?_,λw=>ml hi hz w,rfl,rfl,c6⟩;obtain⟨ls,hls⟩:=G2 _ _ _ hk v.toList hv;have hf:(Value.agg v).formed P kt=true:=by
      have hl:=oe hv;rw[Array.length_toList]at hl;simp only[Value.formed];split at hw
      ·rename_i h1;rw[h1];simp[hl,c5]
      ·rename_i h1;rw[h1];simp[hl,c5]
      ·cases hw
     refine⟨.string (keyBytes ls),?_⟩;unfold keyOf;split
     ·rw[c2,hf];simp[Value.cells,hls]
     ·rw[c2,hf];simp[Value.cells,hls]
     ·rename_i h1 h2;split at hw
      ·rename_i h3;exact absurd h3 (h1 _ _)
      ·rename_i h3;exact absurd h3 (h2 _)
      ·cases hw
    ·cases h
   ·cases h
  ·cases h
 ·cases h
end
section
variable {P:Program} {t:List AV} {H:AH}
theorem agO {T ty:TypeId} (q:List IntKind) (k:Nat):OS P (.raw (.makeMap T none) ty) t H (.ret (.own H.buf.length)) ⟨H.box,H.buf++[.map q k []]⟩:=by
 intro wr oc hc;obtain⟨hop,_⟩:=jK hc;refine jJ λM S w a hxx hh=>?_;have hg:=Grew.alloc w (.map #[] 0);have hun:¬S w.heap.size:=λh=>by have:=hh.sits _ h;omega
 have hrep:mC S (w.alloc (.map #[] 0)) (.map (some w.heap.size)) (.map q k []):=
  ⟨w.heap.size,#[],0,rfl,hun,fP _ _,rfl,λi e he=>by simp at he,λi j e e' he=>by simp at he⟩
 obtain⟨hh2,hf2⟩:=hh.Kl hg.by rfl (λ_ _=>.inl rfl) (λg e=>by cases e) (λg _ e=>by cases e) hrep (λg h=>.inl (by cases h;exact Nat.le_refl _));exact⟨_,_,_,S,by simp only[execOp,hop,Option.map_none,Sem.run_bind];rfl,hh2,afg hh.nt,hf2⟩
def j9 (ks:Array Value):AV:=.agg (ks.toList.map .v)
theorem H8 {M:Maps} {S:Nat->Prop} {w:World} {v:Value} {ks:Array Value} (h:am M S w v (j9 ks)):v=.agg ks:=by
 have key:∀vs:Array Value,vs.size=(ks.toList.map AV.v).length->(∀i,i<(ks.toList.map AV.v).length->vs.getD i undef=ks.getD i undef)->Value.agg vs=.agg ks:=by
  intro vs hn he;have hn:vs.size=ks.size:=by simpa using hn
  congr 1;refine Array.ext hn λi h1 h2=>?_;have:=he i (by simpa using h2);simpa[Array.getD,h1,h2]using this
 have hg:∀i,i<(ks.toList.map AV.v).length->(ks.toList.map AV.v).getD i .any=.v (ks.getD i undef):=λi hi=>by
  have hi':i<ks.size:=by simpa using hi
  simp[List.getD,Array.getD,hi']
 unfold j9 at h;cases h with
 | data h=>
   cases h with
   | agg vs _ hn h=>exact key vs hn λi hi=>by have:=h i hi;rw[hg i hi]at this;exact QI this
 | agg vs _ hn h=>exact key vs hn λi hi=>by have:=h i hi;rw[hg i hi]at this;exact this.bh
def iB (ks:Array Value) (x:AV):Prop:=∀j,j<ks.size->x.cells.getD j .any=.v (ks.getD j undef)
theorem zZ {S:Nat->Prop} {w:World} {q:List IntKind} {k:Nat} {e:MapEntry} {x:AV} (h:ov S w q k e x) {ks:Array Value} (hk:KC q ks.toList):e.key=.agg ks↔iB ks x:=by
 obtain⟨ks',h1,h2,h3⟩:=h.key;have l1:=oe hk;have l2:=oe h2;rw[Array.length_toList]at l1 l2;rw[h1];constructor
 ·intro e;cases e;exact λj hj=>h3 j (by omega)
 ·intro hh;congr 1;refine Array.ext (by omega) λi h1 h2=>?_;have a:=hh i h2;rw[h3 i (by omega)]at a;have a:=AV.v.inj a;simpa[Array.getD,h1,h2]using a
theorem Ij {xs:List AV} {i:Nat} {x:AV} (h:xs[i]?=some x):xs.getD i .any=x:=by simp[List.getD,h]
theorem QT {M:Maps} {S:Nat->Prop} {w:World} {vs:Array Value} {cs:List AV} {c b:Bool} (hn:vs.size=cs.length) (h:∀i,i<cs.length->aO S w (vs.getD i undef) (cs.getD i .any)):
 am M S w (if c then .tuple #[.agg vs,.bool b]else .agg vs) (if c then .aL [.agg cs,.b b]else .agg cs):=by
 cases c
 ·exact .data (.agg vs cs hn h)
 ·refine .data (.aL _ _ rfl λi hi=>?_)
  match i,hi with
  | 0,_=>exact .agg vs cs hn h
  | 1,_=>exact .v _
theorem aeU {T ty:TypeId} {x i:Operand} {c:Bool} {q:List IntKind} {k:Nat} {zs xs:List AV} {u:Nat} {ks:Array Value} (hT:uh P T q k zs) (h1:od t (ak x)=.own u) (hb:H.buf.getD u .dead=.map q k xs) (h2:od t (ak i)=j9 ks) (hk:KC q ks.toList)
 (hm:∀y∈xs,¬iB ks y):OS P (.raw (.lookup T x i c) ty) t H (.ret (if c then .aL [.agg zs,.b false]else .agg zs)) H:=gh λM S w A oc hop hty hx hh=>by
 obtain⟨kt,et,vs,hu,K,hko,hz,rfl,rfl,_⟩:=hT.get;have e1:=hx x (by simp[Op.operands]);have e2:=hx i (by simp[Op.operands]);rw[h1]at e1;rw[h2]at e2;have hkv:=H8 e2;obtain⟨r,es,clock,hv,_,hg,hsz,hes,_⟩:fe S w (A.eval x) q (q.length+vs.size) xs:=by
  generalize hq:A.eval x=v at e1;cases e1 with
  | data h=>cases h
  | own _ ht hs=>have:=hh.buf u (by rw[<- hh.nt];exact ht);rw[hb]at this;exact this
 obtain⟨kl,hkl⟩:=hko ks hk;have hall:∀e∈es.toList,∃l,keyOf P kt e.key=some l:=λe he=>by
  obtain⟨n,hn,rfl⟩:=List.getElem_of_mem he;have hn':n<es.size:=by simpa using hn
  obtain⟨ks',a,b,_⟩:=(hes n es[n] (by simp[hn'])).key;simp only[Array.getElem_toList];rw[a];exact hko ks' b
 refine⟨if c then .tuple #[.agg vs,.bool false]else .agg vs,?_,QT (by simp) λi hi=>?_⟩
 ·rcases K.find w hkl es.toList hall with⟨f1,f2⟩|⟨j,e0,f1,f2,f3⟩
  ·simp[execOp,hop,hv,hkv,Instr.lookup,run_underlying hu,MapKept.run_getObj_map hg,K.check w _ hkl,f1,hz,Result.andThen]
  ·exfalso;have hj:es[j]?=some e0:=by simpa using f2
   have hlt:j<xs.length:=by rw[<- hsz];exact(Array.getElem?_eq_some_iff.1 hj).1
   have hr:=hes j e0 hj;have hx':xs[j]?=some xs[j]:=by simp[hlt]
   rw[Ij hx']at hr;exact hm _ (List.getElem_mem hlt) ((zZ hr hk).1 f3)
 ·have hi':i<vs.size:=by simpa using hi
  have:(vs.toList.map AV.v).getD i .any=.v (vs.getD i undef):=by simp[List.getD,Array.getD,hi']
  rw[this];exact .v _
theorem afd {T ty:TypeId} {x i:Operand} {c:Bool} {q:List IntKind} {k:Nat} {zs xs:List AV} {u j:Nat} {y:AV} {ks:Array Value} (hT:uh P T q k zs) (h1:od t (ak x)=.own u) (hb:H.buf.getD u .dead=.map q k xs) (h2:od t (ak i)=j9 ks) (hk:KC q ks.toList)
 (hj:xs[j]?=some y) (hm:iB ks y):OS P (.raw (.lookup T x i c) ty) t H (.ret (if c then .aL [.agg (y.cells.drop q.length),.b true]else .agg (y.cells.drop q.length))) H:=gh λM S w A oc hop hty hx hh=>by
 obtain⟨kt,et,vs,hu,K,hko,hz,rfl,rfl,_⟩:=hT.get;have e1:=hx x (by simp[Op.operands]);have e2:=hx i (by simp[Op.operands]);rw[h1]at e1;rw[h2]at e2;have hkv:=H8 e2;obtain⟨r,es,clock,hv,_,hg,hsz,hes,hdist⟩:fe S w (A.eval x) q (q.length+vs.size) xs:=by
  generalize hq:A.eval x=v at e1;cases e1 with
  | data h=>cases h
  | own _ ht hs=>have:=hh.buf u (by rw[<- hh.nt];exact ht);rw[hb]at this;exact this
 obtain⟨kl,hkl⟩:=hko ks hk;have hall:∀e∈es.toList,∃l,keyOf P kt e.key=some l:=λe he=>by
  obtain⟨n,hn,rfl⟩:=List.getElem_of_mem he;have hn':n<es.size:=by simpa using hn
  obtain⟨ks',a,b,_⟩:=(hes n es[n] (by simp[hn'])).key;simp only[Array.getElem_toList];rw[a];exact hko ks' b
 have hjl:j<es.size:=by rw[hsz];exact(List.getElem?_eq_some_iff.1 hj).1
 have BR:es[j]?=some es[j]:=by simp[hjl]
 have hr:=hes j es[j] BR;rw[Ij hj]at hr;have hkey:=(zZ hr hk).2 hm;rcases K.find w hkl es.toList hall with⟨f1,f2⟩|⟨j',e0,f1,f2,f3⟩
 ·exact absurd hkey (f2 _ (by simp))
 ·have hj':es[j']?=some e0:=by simpa using f2
  obtain rfl:j=j':=hdist j j' _ _ BR hj' (by rw[hkey,f3]);rw[BR]at hj';cases hj';obtain⟨vs',v1,v2,v3⟩:=hr.val;refine⟨if c then .tuple #[.agg vs',.bool true]else .agg vs',?_,QT ?_ λi hi=>?_⟩
  ·simp[execOp,hop,hv,hkv,Instr.lookup,run_underlying hu,MapKept.run_getObj_map hg,K.check w _ hkl,f1,v1,Result.andThen]
  ·rw[List.length_drop,hr.len];omega
  ·rw[List.length_drop,hr.len]at hi;have:=v3 i (by omega)
   rwa [show(y.cells.drop q.length).getD i .any=y.cells.getD (q.length+i) .any by simp[List.getD]]
theorem ahb {k u:Nat} {y z:Od} {xs:List AV} {ik:IntKind} {n:Int} (h:od t y=.own u) (hbuf:H.buf.getD u .dead=.live k xs) (hz:od t z=.v (.int ik n)) (h0:0<=n) (h1:n<=(xs.length:Int)):
 OS P (.slc false k y none (some z) none) t H (.ret (.own H.buf.length)) ⟨H.box,H.buf.set u .dead++[.live k (xs.take n.toNat)]⟩:=by
 intro wr oc hc;obtain⟨ty,x,xl,xh,xm,rfl,e1,e2,e3,hop,hty⟩:=Q0 hc;obtain rfl:xl=none:=by cases xl<;>first|rfl|(simp at e1)
 obtain rfl:xm=none:=by cases xm<;>first|rfl|(simp at e3)
 obtain⟨e,hu,hk⟩:∃e,P.underlying ty=some (.slice e)/\bR P e=some k:=by
  rcases hty with⟨h,_⟩|⟨_,h⟩
  ·cases h
  ·exact h
 refine jJ λM S w a hx hh=>?_;have hr:=hx x (by simp[hop,Op.operands]);have hhi:∀y,xh=some y->am M S w (a.eval y) (od t (ak y)):=λy e=>hx y (by subst e;simp[hop,Op.operands])
 have hb2:bnd t xs.length (xh.map ak)=some n:=by rw[<- e2];simp[bnd,hz]
 rw[h]at hr;generalize hv:a.eval x=v at hr;cases hr with
 | data h=>cases h
 | own _ htl hsl=>
   have jr:u<H.buf.length:=by rw[<- hh.nt];exact htl
   have hbf:=hh.buf u jr;rw[hbuf]at hbf;have hlv:∀g,Value.blk (M.bv u)=some g->lives M H u g:=λg hg=>⟨jr,by rw[hbuf];rfl,hg⟩
   obtain⟨v',hrun,hlive,hblk⟩:∃v',(Instr.sliceAt ty (M.bv u) none (xh.map a.eval) none).run P w=.ok v' w/\b9 S w v' k (xs.take n.toNat)/\∀g,Value.blk v'=some g->Value.blk (M.bv u)=some g:=by
    rcases hbf with⟨⟨ad,ha⟩,rfl⟩|⟨g,cap,c,T,ha,hun,hg,row⟩
    ·have hn:n=0:=by simp at h1;omega
     subst hn;have hb:=sA (P:=P) (S:=S) (M:=M) (w:=w) (a:=a) (lo:=none) (cap:=0) (λ_ e=>by cases e) hhi (l:=0) rfl hb2 (by omega) (by omega) (by simp) (by simp) true;refine⟨_,by rw[ha];exact sB hu hk hb,.inl ⟨⟨_,rfl⟩,by simp⟩,λg hg=>?_⟩;simp at hg;cases ad<;>simp[Value.blk]at hg
    ·have hf:=row.fits;have hb:=sA (P:=P) (S:=S) (M:=M) (w:=w) (a:=a) (lo:=none) (cap:=cap+1) (λ_ e=>by cases e) hhi (l:=0) rfl hb2 (by omega) h0 h1 hf true;refine⟨_,by rw[ha];exact sB hu hk hb,.inr ⟨g,cap,c,T,?_,hun,hg,?_⟩,λg' hg'=>?_⟩
     ·have:¬(cap+1=(0:Int).toNat):=by simp
      rw[if_neg this];simp[mi];omega
     ·have hl:∀i,i<(xs.take n.toNat).length->i<xs.length/\(xs.take n.toNat).getD i .any=xs.getD i .any:=λi hi=>by
       simp only[List.length_take]at hi;refine⟨by omega,?_⟩;simp[List.getD,List.getElem?_take,show i<n.toNat by omega]
      exact⟨by simp only[List.length_take];omega,row.small,row.size,λi hi=>by obtain⟨p,q⟩:=hl i hi;rw[q];exact row.len i p,
       λi hi j hj=>by obtain⟨p,q⟩:=hl i hi;rw[q];exact row.one i p j hj,λi hi j hj=>by obtain⟨p,q⟩:=hl i hi;rw[q];exact row.rep i p j hj⟩
     ·rw[ha];have:¬(cap+1=(0:Int).toNat):=by simp
      rw[if_neg this]at hg';simpa[mi,Value.blk]using hg'
   obtain⟨hh',hf⟩:=hh.nf (row:=Value.blk (M.bv u)) (w':=w) ⟨rfl,rfl,rfl,Nat.le_refl _,λ_ _ _=>rfl⟩ (buf:=H.buf.set u .dead) (by simp) (λt' ht'=>by
    by_cases e:t'=u
    ·subst e;exact .inr (eK ht')
    ·exact .inl (getD_set_ne' (Ne.symm e)))
    (λg e=>⟨.inr ⟨u,hlv g e⟩,λt' hl=>by
      have:=hh.tt t' u g hl (hlv g e);subst this;exact eK jr⟩)
    (λg b e hb e'=>hh.bt b u g hb (hlv g e) e') (v:=v') (k:=k) (xs:=xs.take n.toNat) hlive λg hg=>.inr (hblk g hg)
   exact⟨v',w,_,S,by simp only[execOp,hop,hv,Option.map_none,Sem.run_bind,hrun,Result.andThen_ok,Sem.run_pure],hh',jF hh.nt hlive.slice,hf⟩
def B4 (P:Program) (T:TypeId):Bool:=match P.underlying T with
 | some (.map _ _)=>true
 | _=>false
theorem afA {T ty:TypeId} {x:Operand} {q:List IntKind} {k:Nat} {xs:List AV} {u:Nat} (hT:B4 P T=true) (h1:od t (ak x)=.own u) (hb:H.buf.getD u .dead=.map q k xs):
 OS P (.raw (.call ⟨.builtin .len,#[x],#[T]⟩) ty) t H (.ret (.v (.int .i64 xs.length))) H:=gh λM S w A oc hop hty hx hh=>by
 obtain⟨kt,et,hu⟩:∃kt et,P.underlying T=some (.map kt et):=by
  unfold B4 at hT;split at hT
  ·rename_i kt et hu;exact⟨kt,et,hu⟩
  ·cases hT
 have e1:=hx x (by simp[Op.operands,Call.operands]);rw[h1]at e1;obtain⟨r,es,clock,hv,_,hg,hsz,hes,_⟩:fe S w (A.eval x) q k xs:=by
  generalize hq:A.eval x=v at e1;cases e1 with
  | data h=>cases h
  | own _ ht hs=>have:=hh.buf u (by rw[<- hh.nt];exact ht);rw[hb]at this;exact this
 refine⟨.int .i64 xs.length,?_,.data (.v _)⟩;simp[execOp,hop,resolve,invoke,builtin,Builtin.len_,hv,goInt,run_underlying hu,MapKept.run_getObj_map hg,hsz,Result.andThen]
theorem aE.KA {M S H} {w:World} (hh:aE M S H w) {t r k:Nat} {q:List IntKind} {xs xs':List AV} (ht:t<H.buf.length) (hb:H.buf.getD t .dead=.map q k xs) {es es':Array MapEntry} {clock clock':Nat}
 (hv:M.bv t=.map (some r)) (hc:w.heap[r]?=some (.map es clock)) (hr:es'.size=xs'.length/\(∀(i:Nat) (e:MapEntry),es'[i]?=some e->ov S w q k e (xs'.getD i .any))/\∀(i j:Nat) (e e':MapEntry),es'[i]?=some e->es'[j]?=some e'->e.key=e'.key->i=j):
 aE M S ⟨H.box,H.buf.set t (.map q k xs')⟩ { w with heap:=w.heap.setIfInBounds r (.map es' clock') }/\aU M S H w M S ⟨H.box,H.buf.set t (.map q k xs')⟩ { w with heap:=w.heap.setIfInBounds r (.map es' clock') }:=by
 have hlv:lives M H t r:=⟨ht,by rw[hb];rfl,by rw[hv];rfl⟩
 have hun:=fx hh (.inr ⟨t,hlv⟩);have hoth:∀i,i≠r->(w.heap.setIfInBounds r (.map es' clock'))[i]?=w.heap[i]?:=λi h=>by simp[Array.getElem?_setIfInBounds,Ne.symm h]
 have hS:∀i,S i->(w.heap.setIfInBounds r (.map es' clock'))[i]?=w.heap[i]?:=λi h=>hoth i λe=>hun (e▸h)
 have hset:∀t',t'<H.buf.length->((H.buf.set t (.map q k xs')).getD t' .dead).isLive=(H.buf.getD t' .dead).isLive:=λt' h'=>by
  by_cases e:t'=t
  ·subst e;rw[eK h',hb];rfl
  ·rw[getD_set_ne' (Ne.symm e)]
 have gy:∀t' i,lives M ⟨H.box,H.buf.set t (.map q k xs')⟩ t' i->lives M H t' i:=λt' i ⟨h1,h2,h3⟩=>by
  have h1':t'<H.buf.length:=by simpa using h1
  exact⟨h1',by rw[<- hset t' h1'];exact h2,h3⟩
 refine⟨⟨hh.nb,by simpa using hh.nt,λi h=>by simpa using hh.sits i h,λb hb'=>?_,λt' ht'=>?_,hh.bb,λx y i h1 h2=>hh.tt x y i (gy x i h1) (gy y i h2),λb x i hb' h=>hh.bt b x i hb' (gy x i h)⟩,
  ⟨hh.nb,hh.nt,rfl,rfl,rfl,by simp,λ_ h=>h,hS,λi hi hf=>hoth i λe=>hf (.inr ⟨t,e▸hlv⟩),.refl M,λ_ h=>.inl h,λi h=>.inl ?_⟩⟩
 ·exact(hh.box b hb').keep (.refl M) (λ_ h=>h) (hh.box b hb').un hS (hoth _ λe=>hh.bt b t r hb' hlv e)
 ·have h1':t'<H.buf.length:=by simpa using ht'
  show mC S _ (M.bv t') ((H.buf.set t (.map q k xs')).getD t' .dead);by_cases e:t'=t
  ·subst e;rw[eK h1'];have hlt:r<w.heap.size:=mb hc;refine⟨r,es',clock',hv,hun,by simp[Array.getElem?_setIfInBounds,hlt],hr.1,λi e he=>?_,hr.2.2⟩;have h:=hr.2.1 i e he;refine⟨h.len,h.one,h.key,?_⟩;obtain⟨vs,q1,q2,q3⟩:=h.val;exact⟨vs,q1,q2,λj hj=>(q3 j hj).mono (λ_ h=>h) hS⟩
  ·rw[getD_set_ne' (Ne.symm e)];have:=hh.buf t' h1';cases hbf:H.buf.getD t' .dead with
   | dead=>trivial
   | bf k xs=>rw[hbf]at this;exact aO.mono (λ_ h=>h) hS this
   | live k xs=>
     rw[hbf]at this;have bn:∀i,Value.blk (M.bv t')=some i->lives M H t' i:=λi h=>⟨h1',by rw[hbf];rfl,h⟩
     exact b9.keep this (λ_ h=>h) (λi h=>fx hh (.inr ⟨t',bn i h⟩)) hS λi h=>hoth i λe'=>e (hh.tt t' t i (bn i h) (e'▸hlv))
   | map q k xs=>
     rw[hbf]at this;have bn:∀i,Value.blk (M.bv t')=some i->lives M H t' i:=λi h=>⟨h1',by rw[hbf];rfl,h⟩
     exact fe.keep this (λ_ h=>h) (λi h=>fx hh (.inr ⟨t',bn i h⟩)) hS λi h=>hoth i λe'=>e (hh.tt t' t i (bn i h) (e'▸hlv))
 ·rcases h with⟨b',hb',e⟩|⟨t',hl'⟩
  ·exact .inl ⟨b',hb',e⟩
  ·exact .inr ⟨t',gy t' i hl'⟩
inductive uk (ks:Array Value) (y:AV):List AV->List AV->Prop
 | new {xs} (h:∀x∈xs,¬iB ks x):uk ks y xs (xs++[y])
 | old {a b x} (h:iB ks x):uk ks y (a++x::b) (a++y::b)
theorem ajH {T ty:TypeId} {x i z:Operand} {q:List IntKind} {k:Nat} {zs xs xs' ys:List AV} {u:Nat} {ks:Array Value} (hT:uh P T q k zs) (h1:od t (ak x)=.own u) (hb:H.buf.getD u .dead=.map q k xs) (h2:od t (ak i)=j9 ks) (hk:KC q ks.toList)
 (h3:od t (ak z)=.agg ys) (hd:ys.all AV.dat=true) (ho:ones ys=true) (hl:q.length+ys.length=k) (hp:uk ks (.agg (ks.toList.map .v++ys)) xs xs'):OS P (.raw (.mapUpdate T x i z) ty) t H (.ret (.v undef)) ⟨H.box,H.buf.set u (.map q k xs')⟩:=by
 intro wr oc hc;obtain⟨hop,_⟩:=jK hc;refine Hj λM S w A hx hh=>?_;rw[hop]at hx;obtain⟨kt,et,vs,hu,K,hko,hz,hkk,rfl,_⟩:=hT.get;have e1:=hx x (by simp[Op.operands]);have e2:=hx i (by simp[Op.operands]);have e3:=hx z (by simp[Op.operands]);rw[h1]at e1;rw[h2]at e2;rw[h3]at e3;have hkv:=H8 e2;obtain⟨hut,hbv,hrep⟩:u<H.buf.length/\A.eval x=M.bv u/\fe S w (M.bv u) q k xs:=by
  generalize hq:A.eval x=v at e1;cases e1 with
  | data h=>cases h
  | own _ ht hs=>
    have hlt:u<H.buf.length:=by rw[<- hh.nt];exact ht
    have:=hh.buf u hlt;rw[hb]at this;exact⟨hlt,rfl,this⟩
 obtain⟨r,es,clock,hv,_,hg,hsz,hes,hdist⟩:=hrep;obtain⟨kl,hkl⟩:=hko ks hk;have hall:∀e∈es.toList,∃l,keyOf P kt e.key=some l:=λe he=>by
  obtain⟨n,hn,rfl⟩:=List.getElem_of_mem he;have hn':n<es.size:=by simpa using hn
  obtain⟨ks',a,b,_⟩:=(hes n es[n] (by simp[hn'])).key;simp only[Array.getElem_toList];rw[a];exact hko ks' b
 obtain⟨us,hus,hun,hur⟩:∃us:Array Value,A.eval z=.agg us/\us.size=ys.length/\∀j,j<ys.length->aO S w (us.getD j undef) (ys.getD j .any):=by
  obtain⟨us,hv',hn',hr'⟩:=n5 e3;refine⟨us,hv',hn',λj hj=>dy (hr' j hj) ?_⟩;have:ys.getD j .any=ys[j]:=by simp[List.getD,hj]
  rw[this];exact List.all_eq_true.1 hd _ (List.getElem_mem hj)
 have hkl':=oe hk;rw[Array.length_toList]at hkl';have hnew:ov S w q k ⟨.agg ks,.agg us,clock⟩ (.agg (ks.toList.map .v++ys)):=by
  refine⟨by simp[AV.cells];omega,λj hj=>?_,⟨ks,rfl,hk,λj hj=>?_⟩,⟨us,rfl,by omega,λj hj=>?_⟩⟩
  ·simp only[AV.cells];rcases Nat.lt_or_ge j ks.size with h|h
   ·rw[jD (by simpa using h)];have:(ks.toList.map AV.v).getD j .any=.v ks[j]:=by simp[List.getD,h]
    rw[this];have hcell:∀ {qs:List IntKind} {cs:List Value},KC qs cs->∀c∈cs,c.oneCell'=true:=by
     intro qs
     induction qs with
     | nil=>intro cs h c hc;cases cs with
       | nil=>cases hc
       | cons _ _=>exact h.elim
     | cons a qs ih=>intro cs h c hc;cases cs with
       | nil=>cases hc
       | cons c' cs=>
         rcases List.mem_cons.1 hc with rfl|hc
         ·obtain⟨⟨n,rfl,_⟩,_⟩:=h;rfl
         ·exact ih h.2 c hc
    exact hcell hk _ (by simp)
   ·have:(ks.toList.map AV.v++ys).getD j .any=ys.getD (j-ks.size) .any:=by
     simp[List.getD,List.getElem?_append_right (show(ks.toList.map AV.v).length<=j by simpa using h)]
    rw[this];exact jI ho (by omega)
  ·simp only[AV.cells];have h:j<ks.size:=by omega
   rw[jD (by simpa using h)];simp[List.getD,Array.getD,h]
  ·simp only[AV.cells];have:(ks.toList.map AV.v++ys).getD (q.length+j) .any=ys.getD j .any:=by
    have e:q.length+j=(ks.toList.map AV.v).length+j:=by simp;omega
    rw[e,List.getD,List.getElem?_append_right (Nat.le_add_right _ _),Nat.add_sub_cancel_left];rfl
   rw[this];exact hur j (by omega)
 have hent:∀ {e:MapEntry} {x:AV},e.key=.agg ks->e.val=.agg us->ov S w q k e (.agg (ks.toList.map .v++ys)):=λ{e x} a b=>⟨hnew.len,hnew.one,by obtain⟨k1,k2,k3⟩:=hnew.key;exact⟨k1,by rw[a];exact k2,k3⟩,by obtain⟨k1,k2,k3⟩:=hnew.val;exact⟨k1,by rw[b];exact k2,k3⟩⟩
 have heq:M.bv u=.map (some r):=hv;have JG:∀ {n:Nat} {e:MapEntry},es[n]?=some e->∃y,xs[n]?=some y/\ov S w q k e y:=λ{n e} he=>by
  have hn:n<xs.length:=by rw[<- hsz];exact(Array.getElem?_eq_some_iff.1 he).1
  refine⟨xs[n],by simp[hn],?_⟩;have:=hes n e he
  rwa [Ij (show xs[n]?=some xs[n] by simp[hn])]at this
 cases hp with
 | new hm=>
   have f2:∀e∈es.toList,e.key≠.agg ks:=λe he hek=>by
    obtain⟨n,hn,hne⟩:=List.getElem_of_mem he;have hn':n<es.size:=by simpa using hn
    obtain⟨y,hy,BS⟩:=JG (n:=n) (e:=e) (by rw[<- hne];simp[hn']);exact hm y (List.mem_of_getElem? hy) ((zZ BS hk).1 hek)
   have hf:(Instr.findKey kt (.agg ks) es.toList).run P w=.ok none w:=by
    rcases K.find w hkl es.toList hall with⟨f1,_⟩|⟨j,e0,_,g2,g3⟩
    ·exact f1
    ·exact absurd g3 (f2 e0 (List.mem_of_getElem? g2))
   have hst:=hh.KA hut hb (xs':=xs++[.agg (ks.toList.map .v++ys)]) (es':=es.push ⟨.agg ks,.agg us,clock⟩) (clock':=clock+1) heq hg ⟨by simp[hsz],λn e he=>?_,λa b e e' ha hb' hab=>?_⟩
   ·refine⟨_,M,S,?_,hst.1,hst.2⟩;simp[execOp,hop,hbv,heq,hkv,hus,Instr.mapUpdate,run_underlying hu,MapKept.run_getObj_map hg,K.check w false hkl,hf,MapKept.run_setObj_map _ hg,Result.andThen]
   ·rw[Array.getElem?_push]at he;split at he
    ·rename_i hn;cases he;have:(xs++[AV.agg (ks.toList.map .v++ys)]).getD n .any=.agg (ks.toList.map .v++ys):=by rw[hn,hsz];exact yn
     rw[this];exact hnew
    ·have hn:n<xs.length:=by rw[<- hsz];exact(Array.getElem?_eq_some_iff.1 he).1
     rw[jD hn];exact hes n e he
   ·rw[Array.getElem?_push]at ha hb';split at ha<;>split at hb'
    ·omega
    ·cases ha;exact absurd hab.symm (f2 e' (by simpa using Array.mem_of_getElem? hb'))
    ·cases hb';exact absurd hab (f2 e (by simpa using Array.mem_of_getElem? ha))
    ·exact hdist a b e e' ha hb' hab
 | @old a b x0 hm=>
   have hal:a.length<es.size:=by rw[hsz];simp
   have hea:es[a.length]?=some es[a.length]:=by simp[hal]
   obtain⟨y,hy,BS⟩:=JG hea;have:y=x0:=by simp at hy;exact hy.symm
   subst this;have hkey:=(zZ BS hk).2 hm;have hf:∃v,(Instr.findKey kt (.agg ks) es.toList).run P w=.ok (some (a.length,v)) w:=by
    rcases K.find w hkl es.toList hall with⟨_,f2⟩|⟨j,e0,g1,g2,g3⟩
    ·exact absurd hkey (f2 _ (by simp))
    ·have hj:es[j]?=some e0:=by simpa using g2
     obtain rfl:=hdist a.length j _ _ hea hj (by rw[hkey,g3]);exact⟨_,g1⟩
   obtain⟨v0,hf⟩:=hf;have hmod:∀n:Nat,(es.modify a.length λe=>{ e with key:=.agg ks,val:=.agg us })[n]?=if n=a.length then some { es[a.length]with key:=.agg ks,val:=.agg us } else es[n]?:=λn=>by
    rw[Array.getElem?_modify];by_cases hn:a.length=n
    ·subst hn;simp[hal]
    ·rw[if_neg hn,if_neg (Ne.symm hn)]
   have hst:=hh.KA hut hb (xs':=a++.agg (ks.toList.map .v++ys)::b) (es':=es.modify a.length λe=>{ e with key:=.agg ks,val:=.agg us }) (clock':=clock) heq hg ⟨by simp[hsz],λn e he=>?_,λm n e e' hm' hn' hab=>?_⟩
   ·refine⟨_,M,S,?_,hst.1,hst.2⟩;simp[execOp,hop,hbv,heq,hkv,hus,Instr.mapUpdate,run_underlying hu,MapKept.run_getObj_map hg,K.check w false hkl,hf,hea,hkey,K.stays w hkl,MapKept.run_setObj_map _ hg,Result.andThen]
   ·rw[hmod]at he;split at he
    ·rename_i hn;cases he;subst hn;have:(a++AV.agg (ks.toList.map .v++ys)::b).getD a.length .any=.agg (ks.toList.map .v++ys):=by simp[List.getD]
     rw[this];exact hent (x:=.any) rfl rfl
    ·rename_i hn;have:=hes n e he;have e1:(a++AV.agg (ks.toList.map .v++ys)::b).getD n .any=(a++y::b).getD n .any:=by
      rcases Nat.lt_or_ge n a.length with h|h
      ·rw[jD h,jD h]
      ·have:n-a.length≠0:=by omega
       obtain⟨m,hm2⟩:=Nat.exists_eq_succ_of_ne_zero this;simp[List.getD,List.getElem?_append_right h,hm2]
     rw[e1];exact this
   ·rw[hmod]at hm' hn';split at hm'<;>split at hn'
    ·omega
    ·rename_i h1 h2;cases hm';exact absurd (hdist a.length n _ e' hea hn' (by rw[hkey];exact hab)).symm h2
    ·rename_i h1 h2;cases hn';exact absurd (hdist m a.length e _ hm' hea (by rw[hkey];exact hab)) h1
    ·exact hdist m n e e' hm' hn' hab
end
def Bw (P:Program) (t:TypeId):Option (List (Nat×EK)):=match P.underlying t with
 | some (.array n e)=>match mO P 9 e,bR P e,P.info? e with
   | some le,some m,some _=>if le.all (λx=>decide (x.1<m))=true/\P.cellsOf e=m/\P.eqGuardType P.depth t=false then some ((List.range n).flatMap λj=>le.map λx=>(j*m+x.1,x.2))else none
   | _,_,_=>none
 | _=>none
section
variable {P:Program}
theorem O9 {e:TypeId} {le:List (Nat×EK)} {m:Nat} (hle:mO P 9 e=some le) (hm:bR P e=some m) (hall:le.all (λx=>decide (x.1<m))=true) {d:Nat} (hd:9<=d) {cs ds:Array Value} {xs ys:List AV} (hc:AtB cs xs) (hds:AtB ds ys) (w:World):
 ∀(is:List Nat) (b:Bool),eO (is.flatMap λj=>le.map λx=>(j*m+x.1,x.2)) xs ys=some b->(Op.eqItems d e m cs ds is).run P w=.ok b w
 | [],b,h=>by cases h;simp[Op.eqItems]
 | j::is,b,h=>by
   rw[List.flatMap_cons]at h;obtain⟨b1,b2,h1,h2,rfl⟩:=NL h;have hall':∀x∈le,x.1<m:=λx hx=>by
    have:=List.all_eq_true.1 hall x hx;simpa using this
   have h1':=Gb h1;rw[<- GD hall']at h1';have ext:∀(c:Array Value) (z:List AV),AtB c z->AtB (c.extract (j*m) (j*m+m)) ((z.drop (j*m)).take m):=by
    intro c z hcz o u hu;have BW:o<m:=by
     rcases Nat.lt_or_ge o m with h|h
     ·exact h
     ·rw[show((z.drop (j*m)).take m).getD o AV.any=.any from by simp[List.getD,List.getElem?_take_eq_none h]]at hu;cases hu
    rw[show((z.drop (j*m)).take m).getD o AV.any=z.getD (j*m+o) .any from by simp[List.getD,List.getElem?_take_of_lt BW]]at hu;have:=hcz (j*m+o) u hu;obtain⟨hs,_⟩:=Array.getElem?_eq_some_iff.1 this;rw[Array.getElem?_extract];simp only[show o<min (j*m+m) c.size-j*m by omega,if_true];exact this
   obtain⟨q1,q2,de,q3⟩:=GE 9 e le hle d hd _ _ _ _ b1 w (ext cs xs hc) (ext ds ys hds) h1';simp only[Op.eqItems,Sem.run_bind];rw[p7 q3 hm (λh=>(q2 h).1),Result.andThen_ok,p7 q3 hm (λh=>(q2 h).2),Result.andThen_ok,q1,Result.andThen_ok];cases b1 with
   | false=>simp
   | true=>simp only[Bool.not_true,Bool.false_eq_true,if_false,Bool.true_and];exact O9 hle hm hall hd hc hds w is b2 h2
theorem Rn {M:Maps} {S:Nat->Prop} {w:World} {v:Value} {cs:List AV} (hv:am M S w v (.agg cs)):∃vs,v=.agg vs/\AtB vs cs:=by
 have key:∀vs:Array Value,vs.size=cs.length->(∀i,i<cs.length->am M S w (vs.getD i undef) (cs.getD i .any))->AtB vs cs:=λvs hn hall o u ho=>by
  have hlt:o<cs.length:=by
   rcases Nat.lt_or_ge o cs.length with h|h
   ·exact h
   ·rw[show cs.getD o AV.any=.any from by simp[List.getD,List.getElem?_eq_none h]]at ho;cases ho
  have:=hall o hlt;rw[ho]at this;have e:=this.bh;have hs:o<vs.size:=by omega
  simp only[Array.getD,hs,dite_true]at e;rw[Array.getElem?_eq_getElem hs];exact congrArg some e
 cases hv with
 | data h=>cases h with|agg vs _ hn hall=>exact⟨vs,rfl,key vs hn λi hi=>.data (hall i hi)⟩
 | agg vs _ hn hall=>exact⟨vs,rfl,key vs hn hall⟩
theorem ai7 {t:List AV} {H:AH} {op:BinOp} {ne b:Bool} {te ty' ty:TypeId} {x y:Operand} {ls:List (Nat×EK)} {xs ys:List AV} (hne:gL op=some ne) (hls:Bw P te=some ls) (h1:od t (ak x)=.agg xs) (h2:od t (ak y)=.agg ys) (hb:eO ls xs ys=some b):
 OS P (.raw (.binOp op te x y ty') ty) t H (.ret (.b (cL ne b))) H:=gh λM S w A oc hop hty hx hh=>by
 have e1:=hx x (by simp[Op.operands]);have e2:=hx y (by simp[Op.operands]);rw[h1]at e1;rw[h2]at e2;obtain⟨v1,ev1,a1⟩:=Rn e1;obtain⟨v2,BM,a2⟩:=Rn e2;unfold Bw at hls;split at hls
 ·rename_i n e hu;split at hls
  ·rename_i le m i hle hm hi;split at hls
   ·rename_i hc;cases hls;have q:=O9 hle hm hc.1 (d:=9999) (by decide) a1 a2 w (List.range n) b hb;rw[<- hc.2.1]at q;have q':(Op.equal te (.agg v1) (.agg v2)).run P w=.ok b w:=by
     have:=run_equalIn_array (P:=P) (w:=w) 9999 v1 v2 hu hi;rw[hc.2.1]at this q;exact this.trans q
    refine⟨.bool (cL ne b),?_,.data (.v _)⟩;have:=kC (P:=P) (w:=w) hne (ty:=te) (u:=.agg v1) (v:=.agg v2) (λop'=>⟨λe=>by subst e;rfl,λe=>by subst e;rfl⟩) (b:=b) q';simp only[execOp,hop,Sem.run_bind,ev1,BM];rw[run_eqGuard_agg w op te x y v1 v2 hc.2.2];simp only[Result.andThen_ok,this];rfl
   ·cases hls
  ·cases hls
 ·cases hls
end
end Go.Proofs.YtmfkphajohcklaaGreat.U
namespace Go.Proofs.YtmfkphajohcklaaGreat.U
open Go
def jp {α β:Type} (f:α->List β):List α->List β
 | []=>[]
 | x::l=>f x++jp f l
def oc {α X:Type} (f:α->List α->Option X):List α->Option X
 | x::l=>f x l
 | []=>none
def on {α X:Type} (x:X):List α->Option X
 | []=>some x
 | _=>none
theorem Q6 {α X:Type} {f:α->List α->Option X} {l:List α} {x:X} (h:oc f l=some x):∃a r,l=a::r/\f a r=some x:=by
 cases l with
 | nil=>cases h
 | cons a r=>exact⟨a,r,rfl,h⟩
theorem Q7 {α X:Type} {y x:X} {l:List α} (h:on y l=some x):l=[]/\y=x:=by
 cases l with
 | nil=>cases h;exact⟨rfl,rfl⟩
 | cons a r=>cases h
inductive BV (T:Nat->Type) where
 | raw (x:AV)
 | emp
 | int (k:IntKind) (n:Int)
 | bool (b:Bool)
 | str (s:List UInt8)
 | flt (k:FloatKind) (n:Nat)
 | agg (cs:List (BV T))
 | aL (cs:List (BV T))
 | sl (i:Nat) (l:List (T i))
 | own (t:Nat)
 | ptr (b o:Nat)
 | gJ (b o:Nat) (p:List (Nat×Nat×Int×Nat))
 | bz (t i:Nat) (n:Int) (o:Nat)
 | aZ (cs:List (BV T))
 | fn (f:Fn) (a b:List (BV T))
 | aG (t:TypeId) (x:BV T)
 | tr (i:Nat) (x:T i)
inductive BB (T:Nat->Type) where
 | dead
 | live (i:Nat) (l:List (T i))
 | bf (i:Nat) (l:List (T i))
 | map (q:List IntKind) (i:Nat) (l:List (T i))
structure BH (T:Nat->Type) where
 box:List (List (BV T))
 buf:List (BB T)
structure Tb (T:Nat->Type) where
 k:Nat->Nat
 ag:Nat->Bool
 eA:(i:Nat)->T i->AV
 enc:(i:Nat)->T i->List (BV T)
 dec:(i:Nat)->List (BV T)->Option (T i)
 eX:(i:Nat)->T i->AV:=λ_ _=>.any
 el:(i:Nat)->T i->(R:Type)->(BV T->Option R)->Option R:=λ_ _ _ _=>none
 fo:TypeId->Option Nat:=λ_=>none
 fd:(i:Nat)->TypeId->BV T->Option (T i):=λ_ _ _=>none
section
variable {T:Nat->Type}
def b8 (B:Tb T):List (Nat×Nat×Int×Nat)->Nat
 | []=>0
 | (i,_,n,f)::p=>n.toNat*B.k i+f+b8 B p
mutual
def BV.av (B:Tb T):BV T->AV
 | .raw x=>x
 | .emp=>.emp
 | .int k n=>.v (.int k n)
 | .bool b=>.v (.bool b)
 | .str s=>.v (.string (bs s))
 | .flt k n=>.v (.float k n)
 | .agg cs=>.agg (BV.an B cs)
 | .aL cs=>.aL (BV.an B cs)
 | .sl i l=>.sl (B.k i) (l.map (B.eA i))
 | .own t=>.own t
 | .ptr b o=>.ptr b o
 | .gJ b o p=>.ptr b (o+b8 B p)
 | .bz t i n o=>.bz t (B.k i) n.toNat o
 | .aZ cs=>.aZ (BV.an B cs)
 | .fn f a b=>.fn f (BV.an B a) (BV.an B b)
 | .aG t x=>.aG t (BV.av B x)
 | .tr i x=>.opq (B.eX i x)
def BV.an (B:Tb T):List (BV T)->List AV
 | []=>[]
 | x::xs=>BV.av B x::BV.an B xs
end
def BB.av (B:Tb T):BB T->Buf
 | .dead=>.dead
 | .live i l=>.live (B.k i) (l.map (B.eA i))
 | .bf i l=>.bf (B.k i) (l.map (B.eA i))
 | .map q i l=>.map q (B.k i) (l.map (B.eA i))
def BH.av (B:Tb T) (H:BH T):AH:=⟨H.box.map (BV.an B),H.buf.map (BB.av B)⟩
end
abbrev SE (T:Nat->Type):=List (Nat×BV T)
section
variable {T:Nat->Type}
def lk:SE T->Nat->BV T
 | [],_=>.raw .any
 | (m,v)::r,n=>match Nat.beq m n with
   | true=>v
   | false=>lk r n
def fU:AV->BV T
 | .v (.int k n)=>.int k n
 | .v (.bool b)=>.bool b
 | .v (.string s)=>.str s.data.toList
 | .v (.float k n)=>.flt k n
 | .emp=>.emp
 | x=>.raw x
def cbv:AV->BV T
 | .agg cs=>.agg (cs.map fU)
 | .fn f [] []=>.fn f [] []
 | x=>fU x
def aR (e:SE T):Od->BV T
 | .t n=>lk e n
 | .c x=>cbv x
def aP (e:SE T):Option Nat->BV T->SE T
 | some d,v=>(d,v)::e
 | none,_=>e
def BV.cells:BV T->List (BV T)
 | .agg cs=>cs
 | .raw x=>match x with
   | .agg cs=>cs.map .raw
   | x=>[.raw x]
 | x=>[x]
def BV.one:BV T->Bool
 | .raw x=>x.one
 | .agg _ | .aL _=>false
 | _=>true
def jw (cs:List (BV T)):Bool:=cs.all BV.one
def fI (ag:Bool) (cs:List (BV T)):BV T:=match ag with
 | true=>.agg cs
 | false=>cs.headD (.raw .any)
def kp (cs:List (BV T)) (o:Nat):List (BV T)->List (BV T)
 | []=>cs
 | x::xs=>kp (cs.set o x) (o+1) xs
def kY (j i:Nat) (l:List (T j)):Option (List (T i)):=if h:j=i then some (h▸l)else none
def asInt (k:IntKind):BV T->Option Int
 | .int k' n=>if k'=k then some n else none
 | _=>none
def asBool:BV T->Option Bool
 | .bool b=>some b
 | _=>none
def fy:BV T->Option (List UInt8)
 | .str s=>some s
 | _=>none
def A9 (k:FloatKind):BV T->Option Nat
 | .flt k' n=>if k'=k then some n else none
 | _=>none
def fT (i:Nat):BV T->Option (List (T i))
 | .sl j l=>kY j i l
 | .emp=>some []
 | _=>none
def P1 {α X:Type} (d:BV T->Option α) (f:α->List (BV T)->Option X):List (BV T)->Option X
 | c::cs=>(d c).bind λa=>f a cs
 | []=>none
def P0 {X:Type} (x:X):List (BV T)->Option X
 | []=>some x
 | _=>none
variable {R:Type} (B:Tb T)
def gd (p:Bool) (x:Option R):Option R:=cond p x none
def leB:Int->Int->Bool
 | .ofNat a,.ofNat b=>Nat.ble a b
 | .ofNat _,.negSucc _=>false
 | .negSucc _,.ofNat _=>true
 | .negSucc a,.negSucc b=>Nat.ble b a
def aj (a b:Int):Bool:=!(leB b a)
def ae (n:Int):Bool:=leB (-9223372036854775808) n&&leB n 9223372036854775807
def qy (op:BinOp) (wr:Bool) (k:IntKind) (a b:Int) (K:BV T->Option R):Option R:=
 match op with
 | .add=>match k,wr with
   | .i64,false=>gd (ae (a+b)) (K (.int .i64 (a+b)))
   | k,_=>K (.int k (k.wrap (a+b)))
 | .sub=>match k,wr with
   | .i64,false=>gd (ae (a-b)) (K (.int .i64 (a-b)))
   | k,_=>K (.int k (k.wrap (a-b)))
 | .mul=>match k,wr with
   | .i64,false=>gd (ae (a*b)) (K (.int .i64 (a*b)))
   | k,_=>K (.int k (k.wrap (a*b)))
 | .quo=>gd (b != 0) (K (.int k (k.wrap (a.tdiv b))))
 | .rem=>gd (b != 0) (K (.int k (a.tmod b)))
 | .and=>K (.int k (k.wrap (BitVec.ofInt k.bits a &&& BitVec.ofInt k.bits b).toNat))
 | .or=>K (.int k (k.wrap (BitVec.ofInt k.bits a ||| BitVec.ofInt k.bits b).toNat))
 | .xor=>K (.int k (k.wrap (BitVec.ofInt k.bits a ^^^ BitVec.ofInt k.bits b).toNat))
 | .andNot=>K (.int k (k.wrap (BitVec.ofInt k.bits a &&& ~~~ BitVec.ofInt k.bits b).toNat))
 | .shl=>gd (leB 0 b) (K (.int k (k.wrap (a*2^(min b.toNat k.bits)))))
 | .shr=>gd (leB 0 b) (K (.int k (a.fdiv (2^(min b.toNat k.bits)))))
 | .eql=>K (.bool (a==b))
 | .neq=>K (.bool (a != b))
 | .lss=>K (.bool (aj a b))
 | .leq=>K (.bool (leB a b))
 | .gtr=>K (.bool (aj b a))
 | .geq=>K (.bool (leB b a))
def II (op:BinOp) (x y:List UInt8) (K:BV T->Option R):Option R:=
 match op with
 | .add=>gd (Nat.ble (x.length+y.length) 9223372036854775807) (K (.str (x++y)))
 | .eql=>K (.bool (x==y))
 | .neq=>K (.bool (!(x==y)))
 | .lss=>K (.bool (Op.bytesLess x y))
 | .leq=>K (.bool (Op.bytesLess x y||x==y))
 | .gtr=>K (.bool (!(Op.bytesLess x y||x==y)))
 | .geq=>K (.bool (!Op.bytesLess x y))
 | _=>none
def B5:BinOp->Bool
 | .shl | .shr=>true
 | _=>false
def kV' (op:BinOp) (wr:Bool) (x y:BV T) (K:BV T->Option R):Option R:=
 match x,y with
 | .int k a,.int k' b=>match B5 op||decide (k=k')with
   | true=>qy op wr k a b K
   | false=>none
 | .str a,.str b=>II op a b K
 | _,_=>none
def fY (ne:Bool) (b:Bool):Bool:=match ne with
 | true=>!b
 | false=>b
def uG (k:EK) (x y:BV T):Option Bool:=
 match k,x,y with
 | .i k,.int k1 a,.int k2 b=>if k1=k/\k2=k then some (a==b)else none
 | .s,.str a,.str b=>some (a==b)
 | .b,.bool a,.bool b=>some (a==b)
 | _,_,_=>none
def oK:List (Nat×EK)->List (BV T)->List (BV T)->Option Bool
 | [],_,_=>some true
 | [(o,k)],xs,ys=>uG k (xs.getD o (.raw .any)) (ys.getD o (.raw .any))
 | (o,k)::l,xs,ys=>match uG k (xs.getD o (.raw .any)) (ys.getD o (.raw .any)),oK l xs ys with
   | some b,some r=>some (b&&r)
   | _,_=>none
def pa (x:Option (BV T)) (K:BV T->Option R):Option R:=match x with
 | some v=>K v
 | none=>none
def BK (ne c:Bool):BV T->BV T->Option (BV T)
 | .raw (.v .nilIface),.raw (.v .nilIface)=>match c with
   | true=>some (.bool (fY ne true))
   | false=>none
 | .aG _ _,.raw (.v .nilIface)=>some (.bool (fY ne false))
 | .raw (.v .nilIface),.aG _ _=>some (.bool (fY ne false))
 | _,_=>none
def BL (ne:Bool):BV T->BV T->Option (BV T)
 | .raw (.v (.pointer none)),.raw (.v (.pointer none))=>some (.bool (fY ne true))
 | .ptr _ _,.raw (.v (.pointer none))=>some (.bool (fY ne false))
 | .bz _ _ _ _,.raw (.v (.pointer none))=>some (.bool (fY ne false))
 | .aZ _,.raw (.v (.pointer none))=>some (.bool (fY ne false))
 | .ptr b o,.ptr b' o'=>match Nat.beq b b'&&Nat.beq o o' with
   | true=>some (.bool (fY ne true))
   | false=>none
 | _,_=>none
def cR (H:BH T) (t:Nat):BB T:=H.buf.getD t .dead
def gA' (H:BH T) (st:Bool):BV T->Option (BV T)
 | .str s=>match st with
   | true=>some (.int .i64 (s.length:Int))
   | false=>none
 | .sl _ l=>match st with
   | true=>none
   | false=>some (.int .i64 (l.length:Int))
 | .emp=>match st with
   | true=>none
   | false=>some (.int .i64 0)
 | .own u=>match st,cR H u with
   | false,.live _ l=>some (.int .i64 (l.length:Int))
   | false,.bf _ l=>some (.int .i64 (l.length:Int))
   | _,_=>none
 | _=>none
def qP (e:SE T) (cs:List (BV T)):List (Nat×Nat×Od)->Option (List (BV T))
 | []=>some cs
 | (o,n,x)::ps=>match Nat.beq (aR e x).cells.length n&&jw (aR e x).cells&&Nat.ble (o+n) cs.length with
   | true=>qP e (kp cs o (aR e x).cells) ps
   | false=>none
def uL:BB T->BB T
 | .live i l=>.bf i l
 | b=>b
def fH (H:BH T) (ts:List Nat):BH T:=⟨H.box,ts.foldl (λbuf t=>buf.set t (uL (buf.getD t .dead))) H.buf⟩
def rq:BV T->List Nat
 | .own t=>[t]
 | .raw x=>vB x
 | _=>[]
def eR:BV T->List Nat
 | .agg cs=>cs.flatMap rq
 | .raw x=>owns x
 | x=>rq x
def mS (H:BH T):BV T->BV T
 | .own t=>match cR H t with
   | .bf i l=>.sl i l
   | _=>.own t
 | .raw x=>.raw (gO (H.av B) x)
 | x=>x
def iA' (H:BH T):BV T->BV T
 | .agg cs=>.agg (cs.map (mS B H))
 | .raw x=>.raw (cj (H.av B) x)
 | x=>mS B H x
def ri:List IntKind->List (BV T)->Option (List Int)
 | [],[]=>some []
 | k::q,.int k' n::cs=>if k'=k then(ri q cs).map (n::·)else none
 | _,_=>none
def ju:List IntKind->List Int->Bool
 | k::q,n::ns=>leB k.min n&&(leB n k.max&&ju q ns)
 | _,_=>true
def lK (k:IntKind) (n:Int):BV T->Bool
 | .int k' m=>if k'=k then m==n else false
 | .raw (.v (.int k' m))=>if k'=k then m==n else false
 | _=>false
def jz:List IntKind->List Int->List (BV T)->Bool
 | k::q,n::ns,c::cs=>match q with
   | []=>lK k n c
   | _=>lK k n c&&jz q ns cs
 | _,_,_=>false
def allI:List (BV T)->Bool
 | []=>true
 | .int _ _::cs=>allI cs
 | _=>false
def kj {α:Type} (p:α->Bool) (y:α):List α->List α
 | []=>[y]
 | x::l=>cond (p x) (y::l) (x::kj p y l)
def vv {α R:Type} (o:Option α) (x:Option R) (f:α->Option R):Option R:=match o with
 | some a=>f a
 | none=>x
def oT:BV T->Bool
 | .agg _=>true
 | .raw x=>match x with
   | .agg _=>true
   | _=>false
 | _=>false
def qI (i:Nat):List (BV T)->Option (List (T i))
 | []=>some []
 | x::xs=>match Bool.xor (oT x) (B.ag i),B.dec i x.cells,qI i xs with
   | false,some a,some l=>some (a::l)
   | _,_,_=>none
def vR (H:BH T):BV T->Option ((i:Nat)×List (T i))
 | .sl i l=>some ⟨i,l⟩
 | .own u=>match cR H u with
   | .live i l=>some ⟨i,l⟩
   | .bf i l=>some ⟨i,l⟩
   | _=>none
 | _=>none
def appJ (i aQ:Nat) (xs:List (T i)) (H:BH T) (buf:List (BB T)) (ys:List (T i)) (K:BV T->BH T->Option R):Option R:=
 match Nat.blt 0 aQ with
 | true=>gd (Nat.ble ((xs.length+ys.length)*aQ) 140737488355328) (K (.own H.buf.length) ⟨H.box,buf++[.live i (xs++ys)]⟩)
 | false=>none
def oz (sb:Nat->Option (List UInt8->(i:Nat)×List (T i))) (k aQ:Nat) (H:BH T) (x y:BV T) (K:BV T->BH T->Option R):Option R:=
 match x with
 | .emp=>match y with
   | .emp=>none
   | .str s=>match sb k with
     | some f=>match f s with
       | ⟨i,ys⟩=>appJ i aQ [] H H.buf ys K
     | none=>none
   | y=>match vR H y with
     | some ⟨i,ys⟩=>match Nat.beq (B.k i) k with
       | true=>appJ i aQ [] H H.buf ys K
       | false=>none
     | none=>none
 | .own u=>match cR H u with
   | .live i xs=>match Nat.beq (B.k i) k with
     | true=>match y with
       | .emp=>appJ i aQ xs H (H.buf.set u .dead) [] K
       | .str s=>match sb k with
         | some f=>match f s with
           | ⟨j,ys⟩=>match kY j i ys with
             | some ys=>appJ i aQ xs H (H.buf.set u .dead) ys K
             | none=>none
         | none=>none
       | y=>match vR H y with
         | some ⟨j,ys⟩=>match kY j i ys with
           | some ys=>appJ i aQ xs H (H.buf.set u .dead) ys K
           | none=>none
         | none=>none
     | false=>none
   | _=>none
 | _=>none
def je (e:SE T) (n:Int):Option Od->Option Int
 | none=>some n
 | some x=>match aR e x with
   | .int _ m=>some m
   | _=>none
def gv {α:Type} (l:List α) (lo hi:Option Int):List α:=
 match lo,hi with
 | none,none=>l
 | none,some h=>l.take h.toNat
 | some a,none=>l.drop a.toNat
 | some a,some h=>(l.take h.toNat).drop a.toNat
def ur (e:SE T):Option Od->Option (Option Int)
 | none=>some none
 | some x=>match aR e x with
   | .int _ m=>some (some m)
   | _=>none
def mG (lo hi:Option Int) (n:Int) (x:Option R):Option R:=
 match lo,hi with
 | none,none=>x
 | none,some h=>gd (leB 0 h) (gd (leB h n) x)
 | some a,none=>gd (leB 0 a) (gd (leB a n) x)
 | some a,some h=>gd (leB 0 a) (gd (leB a h) (gd (leB h n) x))
def CE (e:SE T) (H:BH T) (dr st:Bool) (k:Nat) (x:BV T) (lo hi mx:Option Od) (K:BV T->BH T->Option R):Option R:=
 match mx with
 | some m=>match m,x,st with
   | .c (.v (.int _ 0)),.sl _ _,false=>match je e 0 lo,je e 1 hi with
     | some 0,some 0=>K .emp H
     | _,_=>none
   | .c (.v (.int _ 0)),.emp,false=>match je e 0 lo,je e 1 hi with
     | some 0,some 0=>K .emp H
     | _,_=>none
   | _,_,_=>none
 | none=>match ur e lo,ur e hi with
   | some a,some h=>match x with
     | .str s=>match st with
       | true=>mG a h (s.length:Int) (K (.str (gv s a h)) H)
       | false=>none
     | .sl i l=>match !st&&Nat.beq (B.k i) k with
       | true=>mG a h (l.length:Int) (K (.sl i (gv l a h)) H)
       | false=>none
     | .emp=>match st with
       | true=>none
       | false=>mG a h 0 (K .emp H)
     | .own u=>match cR H u with
       | .bf i l=>match !st&&Nat.beq (B.k i) k with
         | true=>mG a h (l.length:Int) (K (.sl i (gv l a h)) H)
         | false=>none
       | .live i l=>match !st&&Nat.beq (B.k i) k&&!dr with
         | true=>mG a h (l.length:Int) (K (.sl i (gv l a h)) (fH H [u]))
         | false=>none
       | _=>none
     | _=>none
   | _,_=>none
structure Hint (T:Nat->Type) where
 bt:List (Nat×Nat)
 fJ:List (TypeId×((i:Nat)×T i×Nat))
 sb:Nat->Option (List UInt8->(i:Nat)×List (T i))
 bo:(i:Nat)->List (T i)->Option (List UInt8)
def hintOf:List (Nat×Nat)->Nat->Option Nat
 | [],_=>none
 | (m,i)::r,n=>match Nat.beq m n with
   | true=>some i
   | false=>hintOf r n
def RL (e:SE T) (H:BH T) (d:Option Nat) (ty:TypeId) (x:Od) (K:SE T->BH T->Option R):Option R:=
 match B.fo ty with
 | some i=>match B.fd i ty (aR e x)with
   | some y=>K (aP e d (.tr i y)) H
   | none=>none
 | none=>K (aP e d (.aG ty (aR e x))) H
def d5 (e:SE T) (H:BH T) (d:Option Nat) (x:Od) (K:SE T->BH T->Option R):Option R:=
 match jw (aR e x).cells with
 | true=>K (aP e d (.ptr H.box.length 0)) ⟨H.box++[(aR e x).cells],H.buf⟩
 | false=>none
def dW (e:SE T) (H:BH T) (d:Option Nat) (zs:List AV) (K:SE T->BH T->Option R):Option R:=
 match jw (zs.map (fU (T:=T)))with
 | true=>K (aP e d (.ptr H.box.length 0)) ⟨H.box++[zs.map fU],H.buf⟩
 | false=>none
def dX (e:SE T) (H:BH T) (d:Option Nat) (zs:List AV) (ps:List (Nat×Nat×Od)) (K:SE T->BH T->Option R):Option R:=
 match jw (zs.map (fU (T:=T))),qP e (zs.map fU) ps with
 | true,some cs=>K (aP e d (.agg cs)) H
 | _,_=>none
def JL (h:Hint T) (d:Nat):Bool:=match hintOf h.bt (d+1000000)with
 | some _=>true
 | none=>false
def UJ (h:Hint T):Option Nat->Bool
 | some d=>match hintOf h.bt (d+4000000)with
   | some _=>true
   | none=>false
 | none=>false
def Rx (h:Hint T) (dr:Bool) (e:SE T) (H:BH T) (d:Option Nat) (st:Bool) (k:Nat) (x:Od) (lo hi mx:Option Od) (K:SE T->BH T->Option R):Option R:=
 match UJ h d with
 | false=>CE B e H dr st k (aR e x) lo hi mx λv H=>K (aP e d v) H
 | true=>match lo,hi,mx with
   | none,some z,none=>match aR e x,aR e z with
     | .own u,.int _ n=>match cR H u with
       | .live i l=>match !st&&Nat.beq (B.k i) k&&!dr with
         | true=>gd (leB 0 n) (gd (leB n (l.length:Int)) (K (aP e d (.own H.buf.length)) ⟨H.box,H.buf.set u .dead++[.live i (l.take n.toNat)]⟩))
         | false=>none
       | _=>none
     | _,_=>none
   | _,_,_=>none
def d6 (h:Hint T) (dr:Bool) (e:SE T) (H:BH T) (d:Option Nat) (k:Nat) (ps:List Od) (K:SE T->BH T->Option R):Option R:=
 match d with
 | some d=>match hintOf h.bt d with
   | some i=>match Nat.beq (B.k i) k with
     | true=>match dr||JL h d with
       | true=>match qI B i (ps.map (aR e))with
         | some l=>K ((d,.sl i l)::e) H
         | none=>none
       | false=>
         let H1:=fH H ((ps.map (aR e)).flatMap eR)
         match qI B i (ps.map λx=>iA' B H1 (aR e x))with
         | some l=>K ((d,.own H.buf.length)::e) ⟨H1.box,H1.buf++[.live i l]⟩
         | none=>none
     | false=>none
   | none=>none
 | none=>none
def JN (h:Hint T):Option Nat->Option Nat
 | some d=>hintOf h.bt (d+2000000)
 | none=>none
def ieq (a b:Int):Bool:=leB a b&&leB b a
def hU (i:Nat):Nat->List (BV T)->Option (List (T i))
 | 0,_=>some []
 | m+1,cs=>match B.dec i (cs.take (B.k i)),hU i m (cs.drop (B.k i))with
   | some a,some l=>some (a::l)
   | _,_=>none
def nz {i:Nat} (n:Int) (v:T i):Nat->List (T i)->List (T i)
 | _,[]=>[]
 | j,x::l=>cond (ieq n (Int.ofNat j)) v x::nz n v (j+1) l
def lq (i:Nat):List (T i)->List (BV T)->List (BV T)
 | [],r=>r
 | x::l,r=>B.enc i x++lq i l r
def rx:List (Nat×Nat×Int×Nat)->Nat->List (Nat×Nat×Int×Nat)
 | [],_=>[]
 | [(i,m,n,f)],x=>[(i,m,n,f+x)]
 | a::p,x=>a::rx p x
def vj:List (Nat×Nat×Int×Nat)->List (BV T)->(List (BV T)->Option R)->Option R
 | [],cs,K=>K cs
 | (i,m,n,f)::p,cs,K=>match Nat.ble f (B.k i),hU B i m cs with
   | true,some l=>(ix l n).bind λel=>vj p ((B.enc i el).drop f) K
   | _,_=>none
def stM (ys:List (BV T)):List (Nat×Nat×Int×Nat)->List (BV T)->(List (BV T)->Option R)->Option R
 | [],cs,K=>match Nat.ble ys.length cs.length with
   | true=>K (kp cs 0 ys)
   | false=>none
 | (i,m,n,f)::p,cs,K=>match Nat.ble f (B.k i),hU B i m cs with
   | true,some l=>(ix l n).bind λel=>stM ys p ((B.enc i el).drop f) λc'=>match B.dec i ((B.enc i el).take f++c')with
     | some el'=>K (lq B i (nz n el' 0 l) (cs.drop (m*B.k i)))
     | none=>none
   | _,_=>none
def dR (e:SE T) (H:BH T) (d:Option Nat) (n:Nat) (ag:Bool) (x:Od) (K:SE T->BH T->Option R):Option R:=
 match aR e x with
 | .ptr b o=>match H.box[b]? with
   | some cs=>match Nat.ble (o+n) cs.length with
     | true=>K (aP e d (fI ag ((cs.drop o).take n))) H
     | false=>none
   | none=>none
 | .aZ cs=>match Nat.ble n cs.length with
   | true=>K (aP e d (fI ag (cs.take n))) H
   | false=>none
 | .bz t i m o=>match cR H t with
   | .live j l=>match Nat.beq (B.k i) (B.k j)&&Nat.ble (o+n) (B.k j)with
     | true=>(ix l m).bind λel=>K (aP e d (fI ag (((B.enc j el).drop o).take n))) H
     | false=>none
   | .bf j l=>match Nat.beq (B.k i) (B.k j)&&Nat.ble (o+n) (B.k j)with
     | true=>(ix l m).bind λel=>K (aP e d (fI ag (((B.enc j el).drop o).take n))) H
     | false=>none
   | _=>none
 | .gJ b o p=>match H.box[b]? with
   | some cs=>vj B p (cs.drop o) λc'=>match Nat.ble o cs.length&&Nat.ble n c'.length with
     | true=>K (aP e d (fI ag (c'.take n))) H
     | false=>none
   | none=>none
 | _=>none
def dS (e:SE T) (H:BH T) (d:Option Nat) (n:Nat) (x:Od) (y:Od) (K:SE T->BH T->Option R):Option R:=
 match aR e x with
 | .ptr b o=>match H.box[b]? with
   | some cs=>match Nat.beq (aR e y).cells.length n&&jw (aR e y).cells&&Nat.ble (o+n) cs.length with
     | true=>K (aP e d (.raw (.v undef))) ⟨H.box.set b (kp cs o (aR e y).cells),H.buf⟩
     | false=>none
   | none=>none
 | .bz t i m o=>match cR H t with
   | .live j l=>
     let ys:=(iA' B H (aR e y)).cells
     match Nat.beq (B.k i) (B.k j)&&Nat.ble (o+n) (B.k j)&&Nat.beq ys.length n&&Nat.blt 0 n with
     | true=>(ix l m).bind λel=>match B.dec j (kp (B.enc j el) o ys)with
       | some el'=>K (aP e d (.raw (.v undef))) ⟨H.box,H.buf.set t (.live j (l.set m.toNat el'))⟩
       | none=>none
     | false=>none
   | _=>none
 | .gJ b o p=>match H.box[b]? with
   | some cs=>match Nat.beq (aR e y).cells.length n&&jw (aR e y).cells&&Nat.ble o cs.length with
     | true=>stM B (aR e y).cells p (cs.drop o) λc'=>K (aP e d (.raw (.v undef))) ⟨H.box.set b (cs.take o++c'),H.buf⟩
     | false=>none
   | none=>none
 | _=>none
def dO (e:SE T) (H:BH T) (d:Option Nat) (off:Nat) (x:Od) (K:SE T->BH T->Option R):Option R:=
 match aR e x with
 | .ptr b o=>K (aP e d (.ptr b (o+off))) H
 | .aZ cs=>match Nat.ble off cs.length with
   | true=>K (aP e d (.aZ (cs.drop off))) H
   | false=>none
 | .bz t i m o=>K (aP e d (.bz t i m (o+off))) H
 | .gJ b o (q::p)=>K (aP e d (.gJ b o (rx (q::p) off))) H
 | _=>none
def eo (e:SE T) (H:BH T) (d:Option Nat) (off:Nat) (n:Nat) (ag:Bool) (x:Od) (K:SE T->BH T->Option R):Option R:=
 match aR e x with
 | .agg cs=>match Nat.ble (off+n) cs.length with
   | true=>K (aP e d (fI ag ((cs.drop off).take n))) H
   | false=>none
 | _=>none
def dP (e:SE T) (H:BH T) (d:Option Nat) (k:Nat) (x:Od) (i:Od) (K:SE T->BH T->Option R):Option R:=
 match aR e x,aR e i with
 | .sl j l,.int _ n=>match Nat.beq (B.k j) k with
   | true=>(ix l n).bind λel=>K (aP e d (.aZ (B.enc j el))) H
   | false=>none
 | .own u,.int _ n=>match cR H u with
   | .live j l=>match Nat.beq (B.k j) k with
     | true=>(ix l n).bind λ_=>K (aP e d (.bz u j n 0)) H
     | false=>none
   | .bf j l=>match Nat.beq (B.k j) k with
     | true=>(ix l n).bind λel=>K (aP e d (.aZ (B.enc j el))) H
     | false=>none
   | _=>none
 | _,_=>none
def dN (h:Hint T) (e:SE T) (H:BH T) (d:Option Nat) (m:Nat) (k:Nat) (x:Od) (i:Od) (K:SE T->BH T->Option R):Option R:=
 match JN h d with
 | some j=>match Nat.beq (B.k j) k,aR e x,aR e i with
   | true,.ptr b o,.int _ n=>gd (leB 0 n) (gd (aj n (m:Int)) (K (aP e d (.gJ b o [(j,m,n,0)])) H))
   | true,.gJ b o p,.int _ n=>gd (leB 0 n) (gd (aj n (m:Int)) (K (aP e d (.gJ b o (p++[(j,m,n,0)]))) H))
   | true,.aZ cs,.int _ n=>gd (leB 0 n) (gd (aj n (m:Int)) (match hU B j m cs with
     | some l=>(ix l n).bind λel=>K (aP e d (.aZ (B.enc j el))) H
     | none=>none))
   | _,_,_=>none
 | none=>match aR e x,aR e i with
 | .ptr b o,.int _ n=>gd (leB 0 n) (gd (aj n (m:Int)) (K (aP e d (.ptr b (o+n.toNat*k))) H))
 | .aZ cs,.int _ n=>gd (leB 0 n) (gd (aj n (m:Int)) (match Nat.ble (n.toNat*k) cs.length with
   | true=>K (aP e d (.aZ (cs.drop (n.toNat*k)))) H
   | false=>none))
 | _,_=>none
def dQ (e:SE T) (H:BH T) (d:Option Nat) (x:Od) (i:Od) (K:SE T->BH T->Option R):Option R:=
 match aR e x,aR e i with
 | .str s,.int _ n=>(ix s n).bind λc=>K (aP e d (.int .u8 (c.toNat:Int))) H
 | _,_=>none
def ep (e:SE T) (H:BH T) (d:Option Nat) (st:Bool) (x:Od) (K:SE T->BH T->Option R):Option R:=pa (gA' H st (aR e x)) λv=>K (aP e d v) H
def dZ (e:SE T) (H:BH T) (d:Option Nat) (op:BinOp) (wr:Bool) (x:Od) (y:Od) (K:SE T->BH T->Option R):Option R:=kV' op wr (aR e x) (aR e y) λv=>K (aP e d v) H
def eg (e:SE T) (H:BH T) (d:Option Nat) (ne:Bool) (ls:List (Nat×EK)) (x:Od) (y:Od) (K:SE T->BH T->Option R):Option R:=
 match aR e x,aR e y with
 | .agg xs,.agg ys=>match oK ls xs ys with
   | some b=>K (aP e d (.bool (fY ne b))) H
   | none=>none
 | _,_=>none
def d9 (e:SE T) (H:BH T) (d:Option Nat) (ne:Bool) (x:Od) (y:Od) (K:SE T->BH T->Option R):Option R:=
 match aR e x,aR e y with
 | .bool a,.bool b=>K (aP e d (.bool (fY ne (a==b)))) H
 | _,_=>none
def ec (e:SE T) (H:BH T) (d:Option Nat) (ne:Bool) (c:Bool) (x:Od) (y:Od) (K:SE T->BH T->Option R):Option R:=pa (BK ne c (aR e x) (aR e y)) λv=>K (aP e d v) H
def ee (e:SE T) (H:BH T) (d:Option Nat) (ne:Bool) (x:Od) (y:Od) (K:SE T->BH T->Option R):Option R:=pa (BL ne (aR e x) (aR e y)) λv=>K (aP e d v) H
def dT (e:SE T) (H:BH T) (d:Option Nat) (op:UnOp) (x:Od) (K:SE T->BH T->Option R):Option R:=
 match op,aR e x with
 | .not,.bool a=>K (aP e d (.bool (!a))) H
 | .neg,.int k a=>K (aP e d (.int k (k.wrap (0-a)))) H
 | .xor,.int k a=>K (aP e d (.int k (k.wrap (BitVec.ofInt k.bits (if k.signed then -1 else k.max) ^^^ BitVec.ofInt k.bits a).toNat))) H
 | _,_=>none
def d7 (e:SE T) (H:BH T) (d:Option Nat) (k:IntKind) (x:Od) (K:SE T->BH T->Option R):Option R:=
 match aR e x with
 | .int _ a=>K (aP e d (.int k (k.wrap a))) H
 | _=>none
def d8 (e:SE T) (H:BH T) (d:Option Nat) (x:Od) (K:SE T->BH T->Option R):Option R:=
 match aR e x with
 | .str s=>K (aP e d (.str s)) H
 | _=>none
def eh (e:SE T) (H:BH T) (d:Option Nat) (i:Nat) (x:Od) (K:SE T->BH T->Option R):Option R:=
 match aR e x with
 | .aL cs=>match Nat.blt i cs.length with
   | true=>K (aP e d (cs.getD i (.raw .any))) H
   | false=>none
 | _=>none
def dY (e:SE T) (H:BH T) (d:Option Nat) (c:Od) (a:Od) (b:Od) (K:SE T->BH T->Option R):Option R:=
 match aR e c with
 | .bool c=>cond c (K (aP e d (aR e a)) H) (K (aP e d (aR e b)) H)
 | _=>none
def dB (h:Hint T) (e:SE T) (H:BH T) (d:Option Nat) (k:Nat) (aQ:Nat) (x:Od) (y:Od) (K:SE T->BH T->Option R):Option R:=
 match d with
 | some d0=>match JL h d0 with
   | true=>oz B h.sb k aQ H (aR e x) (aR e y) λv H=>match v with
     | .own u=>match cR H u with
       | .live i l=>K ((d0,.sl i l)::e) ⟨H.box,H.buf.set u (.bf i l)⟩
       | _=>none
     | _=>none
   | false=>oz B h.sb k aQ H (aR e x) (aR e y) λv H=>K (aP e d v) H
 | none=>oz B h.sb k aQ H (aR e x) (aR e y) λv H=>K (aP e d v) H
variable (h:Hint T)
def cV (dr:Bool) (e:SE T) (H:BH T) (d:Option Nat) (o:SO) (K:SE T->BH T->Option R):Option R:=
 match o with
 | .gS x=>K (aP e d (aR e x)) H
 | .box x=>d5 e H d x K
 | .alloc zs=>dW e H d zs K
 | .build zs ps=>dX e H d zs ps K
 | .cq k ps=>d6 B h dr e H d k ps K
 | .ld n ag x=>dR B e H d n ag x K
 | .st n x y=>dS B e H d n x y K
 | .fa off x=>dO e H d off x K
 | .lA off n ag x=>eo e H d off n ag x K
 | .ia k x i=>dP B e H d k x i K
 | .jt m k x i=>dN B h e H d m k x i K
 | .ix x i=>dQ e H d x i K
 | .len st x=>ep e H d st x K
 | .lE n=>K (aP e d (.int .i64 n)) H
 | .bin op wr x y=>dZ e H d op wr x y K
 | .eqs ne ls x y=>eg e H d ne ls x y K
 | .lr ne x y=>d9 e H d ne x y K
 | .lu ne c x y=>ec e H d ne c x y K
 | .lx ne x y=>ee e H d ne x y K
 | .un op x=>dT e H d op x K
 | .lg k x=>d7 e H d k x K
 | .lh x=>d8 e H d x K
 | .ext i x=>eh e H d i x K
 | .pick c a b=>dY e H d c a b K
 | .app k aQ x y=>dB B h e H d k aQ x y K
 | .slc st k x lo hi mx=>Rx B h dr e H d st k x lo hi mx K
 | .lI ty x=>RL B e H d ty x K
 | .fnv f a b=>K (aP e d (.fn f (a.map (aR e)) (b.map (aR e)))) H
 | .call _ _=>none
 | .gr _ _=>none
 | .raw _ _=>none
end
end Go.Proofs.YtmfkphajohcklaaGreat.U
namespace Go.Proofs.YtmfkphajohcklaaGreat.U
open Go
section
variable {T:Nat->Type}
theorem db (B:Tb T):∀l:List (BV T),BV.an B l=l.map (BV.av B)
 | []=>by simp[BV.an]
 | x::l=>by simp[BV.an,db B l]
def SE.av (B:Tb T) (nt:Nat) (e:SE T):List AV:=(List.range nt).map λi=>(lk e i).av B
mutual
inductive LW:AV->AV->Prop
 | refl (x:AV):LW x x
 | emp (k:Nat):LW .emp (.sl k [])
 | sl (k:Nat) {a b:List AV} (h:aF a b):LW (.sl k a) (.sl k b)
 | agg {a b:List AV} (h:aF a b):LW (.agg a) (.agg b)
 | aL {a b:List AV} (h:aF a b):LW (.aL a) (.aL b)
 | aZ {a b:List AV} (h:aF a b):LW (.aZ a) (.aZ b)
 | fn (f:Fn) {a b c d:List AV} (h:aF a b) (h':aF c d):LW (.fn f a c) (.fn f b d)
 | aG (t:TypeId) {x y:AV} (h:LW x y):LW (.aG t x) (.aG t y)
inductive aF:List AV->List AV->Prop
 | nil:aF [] []
 | cons {x y:AV} {a b:List AV} (h:LW x y) (r:aF a b):aF (x::a) (y::b)
end
theorem aF.refl:∀l:List AV,aF l l
 | []=>.nil
 | x::l=>.cons (.refl x) (aF.refl l)
theorem aF.len:∀ {a b:List AV},aF a b->a.length=b.length
 | _,_,.nil=>rfl
 | _,_,.cons _ r=>by simp[aF.len r]
theorem aF.append:∀ {a b c d:List AV},aF a b->aF c d->aF (a++c) (b++d)
 | _,_,_,_,.nil,h=>h
 | _,_,_,_,.cons h r,q=>.cons h (aF.append r q)
theorem aF.get:∀ {a b:List AV},aF a b->∀i,LW (a.getD i .any) (b.getD i .any)
 | _,_,.nil,i=>by simp;exact .refl _
 | _,_,.cons h r,0=>by simpa using h
 | _,_,.cons h r,i+1=>by simpa using aF.get r i
theorem LW.one {x y:AV} (h:LW x y):x.one=y.one:=by cases h<;>rfl
theorem aF.ones:∀ {a b:List AV},aF a b->ones a=ones b
 | _,_,.nil=>rfl
 | _,_,.cons h r=>by
   have:=aF.ones r;simp only[Go.Proofs.YtmfkphajohcklaaGreat.U.ones,List.all_cons]at this ⊢;rw[h.one,this]
theorem LW.cells {x y:AV} (h:LW x y):aF x.cells y.cells:=by
 cases h with
 | refl=>exact .refl _
 | emp k=>exact .cons (.emp k) .nil
 | sl k h=>exact .cons (.sl k h) .nil
 | agg h=>exact h
 | aL h=>exact .cons (.aL h) .nil
 | aZ h=>exact .cons (.aZ h) .nil
 | fn f h h'=>exact .cons (.fn f h h') .nil
 | aG t h=>exact .cons (.aG t h) .nil
section
variable {S:Nat->Prop} {w:World}
mutual
theorem LW.di:∀ {x y:AV},LW x y->∀ {v},aO S w v x->aO S w v y
 | _,_,.refl _,_,h=>h
 | _,_,.emp k,_,h=>by cases h with|emp a=>exact .sl0 a 0 k
 | _,_,.sl k h,_,hv=>by
   cases hv with
   | sl0 a cap _=>have:=h.len;cases h;exact .sl0 a cap k
   | sl g o cap _ xs c T fz hc hs hg hb hk h1 q=>
     have hl:=h.len;rw[hl];refine .sl g o cap k _ c T fz (by rw[<- hl];exact hc) hs hg (by rw[<- hl];exact hb) (λi hi=>?_) (λi hi j hj=>?_) λi hi j hj=>?_
     ·rw[<- (h.get i).cells.len];exact hk i (by rw[hl];exact hi)
     ·rw[<- ((h.get i).cells.get j).one];exact h1 i (by rw[hl];exact hi) j hj
     ·exact aF.Bn h i (by rw[hl];exact hi) j (by rw[hk i (by rw[hl];exact hi)];exact hj) (q i (by rw[hl];exact hi) j hj)
 | _,_,.agg h,_,hv=>by
   cases hv with
   | agg vs _ hn q=>exact .agg vs _ (hn.trans h.len) λi hi=>aF.di h i (by rw[h.len];exact hi) (q i (by rw[h.len];exact hi))
 | _,_,.aL h,_,hv=>by
   cases hv with
   | aL vs _ hn q=>exact .aL vs _ (hn.trans h.len) λi hi=>aF.di h i (by rw[h.len];exact hi) (q i (by rw[h.len];exact hi))
 | _,_,.aZ h,_,hv=>by
   cases hv with
   | aZ g o cs c T fz hs hg hb h1 q=>
     exact .aZ g o _ c T fz hs hg (by rw[<- h.len];exact hb) (λj hj=>by rw[<- (h.get j).one];exact h1 j (by rw[h.len];exact hj)) λj hj=>aF.di h j (by rw[h.len];exact hj) (q j (by rw[h.len];exact hj))
 | _,_,.fn f h h',_,hv=>by
   cases hv with
   | fn _ vs us as bs hn hm q q'=>exact .fn f vs us _ _ (hn.trans h.len) (hm.trans h'.len) (λi hi=>aF.di h i (by rw[h.len];exact hi) (q i (by rw[h.len];exact hi))) (λi hi=>aF.di h' i (by rw[h'.len];exact hi) (q' i (by rw[h'.len];exact hi)))
 | _,_,.aG t h,_,hv=>by
   cases hv with
   | aG _ v a q=>exact .aG t v _ (LW.di h q)
theorem aF.di:∀ {a b:List AV},aF a b->∀i,i<a.length->∀ {v},aO S w v (a.getD i .any)->aO S w v (b.getD i .any)
 | _,_,.nil,i,hi,_,_=>by simp at hi
 | _,_,.cons h r,0,_,_,hv=>by simp only[List.getD_cons_zero]at hv ⊢;exact LW.di h hv
 | _,_,.cons h r,i+1,hi,_,hv=>by simp only[List.getD_cons_succ]at hv ⊢;exact aF.di r i (by simpa using hi) hv
theorem LW.TB:∀ {x y:AV},LW x y->∀j,j<x.cells.length->∀ {v},aO S w v (x.cells.getD j .any)->aO S w v (y.cells.getD j .any)
 | _,_,.refl _,_,_,_,h=>h
 | _,_,.agg h,j,hj,_,hv=>aF.di h j hj hv
 | _,_,.emp k,0,_,_,hv=>LW.di (.emp k) hv
 | _,_,.sl k h,0,_,_,hv=>LW.di (.sl k h) hv
 | _,_,.aL h,0,_,_,hv=>LW.di (.aL h) hv
 | _,_,.aZ h,0,_,_,hv=>LW.di (.aZ h) hv
 | _,_,.fn f h h',0,_,_,hv=>LW.di (.fn f h h') hv
 | _,_,.aG t h,0,_,_,hv=>LW.di (.aG t h) hv
 | _,_,.emp _,j+1,hj,_,_=>by simp[AV.cells]at hj
 | _,_,.sl _ _,j+1,hj,_,_=>by simp[AV.cells]at hj
 | _,_,.aL _,j+1,hj,_,_=>by simp[AV.cells]at hj
 | _,_,.aZ _,j+1,hj,_,_=>by simp[AV.cells]at hj
 | _,_,.fn _ _ _,j+1,hj,_,_=>by simp[AV.cells]at hj
 | _,_,.aG _ _,j+1,hj,_,_=>by simp[AV.cells]at hj
theorem aF.Bn:∀ {a b:List AV},aF a b->∀i,i<a.length->∀j,j<(a.getD i .any).cells.length->∀ {v},aO S w v ((a.getD i .any).cells.getD j .any)->aO S w v ((b.getD i .any).cells.getD j .any)
 | _,_,.nil,i,hi,_,_,_,_=>by simp at hi
 | _,_,.cons h r,0,_,j,hj,_,hv=>by simp only[List.getD_cons_zero]at hj hv ⊢;exact LW.TB h j hj hv
 | _,_,.cons h r,i+1,hi,j,hj,_,hv=>by simp only[List.getD_cons_succ]at hj hv ⊢;exact aF.Bn r i (by simpa using hi) j hj hv
end
variable {M:Maps}
mutual
def AV.dd:AV->Bool
 | .agg cs=>qG cs
 | .aG _ x=>x.dd
 | x=>x.dat
def qG:List AV->Bool
 | []=>true
 | x::l=>x.dd&&qG l
end
theorem Qr:∀ {l:List AV},qG l=true->∀i,i<l.length->(l.getD i .any).dd=true
 | [],_,i,hi=>by simp at hi
 | x::l,h,0,_=>by simp only[qG,Bool.and_eq_true]at h;simpa using h.1
 | x::l,h,i+1,hi=>by simp only[qG,Bool.and_eq_true]at h;simpa using Qr h.2 i (by simpa using hi)
theorem ajv {v:Value} {x:AV} (h:am M S w v x) (hd:x.dd=true):aO S w v x:=by
 induction h with
 | data h=>exact h
 | agg vs cs hn _ ih=>exact .agg vs cs hn λi hi=>ih i hi (Qr (by simpa only[AV.dd]using hd) i hi)
 | aG t v a _ ih=>exact .aG t v a (ih (by simpa only[AV.dd]using hd))
 | _=>simp[AV.dd,AV.dat]at hd
mutual
theorem LW.rep:∀ {x y:AV},LW x y->∀ {v},am M S w v x->am M S w v y
 | _,_,.refl _,_,h=>h
 | _,_,.emp k,_,h=>.data (LW.di (.emp k) (dy h rfl))
 | _,_,.sl k h,_,hv=>.data (LW.di (.sl k h) (dy hv rfl))
 | _,_,.agg h,_,hv=>by
   obtain⟨vs,rfl,hn,q⟩:=n5 hv;exact .agg vs _ (hn.trans h.len) λi hi=>aF.rep h i (by rw[h.len];exact hi) (q i (by rw[h.len];exact hi))
 | _,_,.aL h,_,hv=>by
   cases hv with
   | data hd=>exact .data (LW.di (.aL h) hd)
   | aL vs _ hn q=>exact .aL vs _ (hn.trans h.len) λi hi=>aF.rep h i (by rw[h.len];exact hi) (q i (by rw[h.len];exact hi))
 | _,_,.aZ h,_,hv=>.data (LW.di (.aZ h) (dy hv rfl))
 | _,_,.fn f h h',_,hv=>by
   cases hv with
   | data hd=>exact .data (LW.di (.fn f h h') hd)
   | fn _ vs us as bs hn hm q q'=>exact .fn f vs us _ _ (hn.trans h.len) (hm.trans h'.len) (λi hi=>aF.rep h i (by rw[h.len];exact hi) (q i (by rw[h.len];exact hi))) (λi hi=>aF.rep h' i (by rw[h'.len];exact hi) (q' i (by rw[h'.len];exact hi)))
 | _,_,.aG t h,_,hv=>by
   cases hv with
   | data hd=>exact .data (LW.di (.aG t h) hd)
   | aG _ v a q=>exact .aG t v _ (LW.rep h q)
theorem aF.rep:∀ {a b:List AV},aF a b->∀i,i<a.length->∀ {v},am M S w v (a.getD i .any)->am M S w v (b.getD i .any)
 | _,_,.nil,i,hi,_,_=>by simp at hi
 | _,_,.cons h r,0,_,_,hv=>by simp only[List.getD_cons_zero]at hv ⊢;exact LW.rep h hv
 | _,_,.cons h r,i+1,hi,_,hv=>by simp only[List.getD_cons_succ]at hv ⊢;exact aF.rep r i (by simpa using hi) hv
end
theorem ahe {v:Value} {t:TypeId} {x y:AV} (h:am M S w v (.aG t x)) (hd:x.dd=true) (hl:LW x y):am M S w v (.opq (.aG t y)):=by
 have h:=ajv h (by simpa only[AV.dd]using hd);cases h with
 | aG _ u _ h=>exact .data (.opq _ _ rfl (.aG t u _ (hl.di h)))
end
inductive jO:Buf->Buf->Prop
 | dead (b:Buf) (h:b.isLive=false):jO b .dead
 | live (k:Nat) {a b:List AV} (h:aF a b):jO (.live k a) (.live k b)
 | bf (k:Nat) {a b:List AV} (h:aF a b):jO (.bf k a) (.bf k b)
 | map (q:List IntKind) (k:Nat) (a:List AV):jO (.map q k a) (.map q k a)
theorem jO.refl (b:Buf):jO b b:=by
 cases b with
 | dead=>exact .dead _ rfl
 | live k xs=>exact .live k (.refl _)
 | bf k xs=>exact .bf k (.refl _)
 | map q k xs=>exact .map q k xs
theorem jO.isLive {a b:Buf} (h:jO a b):a.isLive=b.isLive:=by
 cases h with
 | dead _ h=>exact h
 | live=>rfl
 | bf=>rfl
 | map=>rfl
theorem b9.lw {S w v k} {a b:List AV} (hl:b9 S w v k a) (h:aF a b):b9 S w v k b:=by
 rcases hl with⟨hv,rfl⟩|⟨g,cap,c,T,hv,hs,hg,hr⟩
 ·cases h;exact .inl ⟨hv,rfl⟩
 ·refine .inr ⟨g,cap,c,T,by rw[<- h.len];exact hv,hs,hg,⟨by rw[<- h.len];exact hr.fits,hr.small,hr.size,λi hi=>?_,λi hi j hj=>?_,λi hi j hj=>?_⟩⟩
  ·rw[<- (h.get i).cells.len];exact hr.len i (by rw[h.len];exact hi)
  ·rw[<- ((h.get i).cells.get j).one];exact hr.one i (by rw[h.len];exact hi) j hj
  ·exact h.Bn i (by rw[h.len];exact hi) j (by rw[hr.len i (by rw[h.len];exact hi)];exact hj) (hr.rep i (by rw[h.len];exact hi) j hj)
structure dh (H H':AH):Prop where
 n:H.box.length=H'.box.length
 m:H.buf.length=H'.buf.length
 box:∀b,aF (H.box.getD b []) (H'.box.getD b [])
 buf:∀t,jO (H.buf.getD t .dead) (H'.buf.getD t .dead)
theorem dh.refl (H:AH):dh H H:=⟨rfl,rfl,λ_=>.refl _,λ_=>.refl _⟩
theorem Af {M:Maps} {H H':AH} (h:dh H H') (t g:Nat):lives M H t g↔lives M H' t g:=by
 simp only[lives,h.m,(h.buf t).isLive]
theorem tG {M:Maps} {H H':AH} (h:dh H H') (g:Nat):foot M H g↔foot M H' g:=by
 simp only[foot,Af h,h.n]
theorem aE.lw {M S w} {H H':AH} (hh:aE M S H w) (h:dh H H'):aE M S H' w where
 nb:=hh.nb.trans h.n
 nt:=hh.nt.trans h.m
 sits:=hh.sits
 box:=λb hb=>by
  obtain⟨un,c,T,hg,hs,q⟩:=hh.box b (by rw[h.n];exact hb);have hl:=(h.box b).len;refine⟨un,c,T,hg,hs.trans hl,λi hi=>?_⟩;have:=q i (by rw[hl];exact hi);exact⟨by rw[<- ((h.box b).get i).one];exact this.1,(h.box b).rep i (by rw[hl];exact hi) this.2⟩
 buf:=λt ht=>by
  have q:=hh.buf t (by rw[h.m];exact ht);have hb:=h.buf t;generalize H.buf.getD t .dead=x at q hb;generalize H'.buf.getD t .dead=y at hb;cases hb with
  | dead _ _=>trivial
  | live k h=>exact b9.lw q h
  | bf k h=>exact LW.di (.sl k h) q
  | map _ _ _=>exact q
 bb:=λb b' h1 h2=>hh.bb b b' (by rw[h.n];exact h1) (by rw[h.n];exact h2)
 tt:=λt t' g h1 h2=>hh.tt t t' g ((Af h t g).2 h1) ((Af h t' g).2 h2)
 bt:=λb t g h1 h2=>hh.bt b t g (by rw[h.n];exact h1) ((Af h t g).2 h2)
theorem aU.Cm {M S H w M' S' w'} {H1 H2:AH} (hf:aU M S H w M' S' H1 w') (h:dh H1 H2):aU M S H w M' S' H2 w':=
 { hf with eG:=λg hg=>hf.eG g ((tG h g).2 hg) }
theorem aU.WB {M S w M' S' w'} {H H0 H1:AH} (hf:aU M S H w M' S' H1 w') (h:dh H0 H):aU M S H0 w M' S' H1 w':=
 { hf with
  gW:=hf.gW.trans h.n.symm
  gX:=hf.gX.trans h.m.symm
  old:=λg hg hn=>hf.old g hg (λhx=>hn ((tG h g).2 hx))
  news:=λg hg=>(hf.news g hg).imp id λq=>q.imp (λx=>(tG h g).2 x) id
  eG:=λg hg=>(hf.eG g hg).imp (λx=>(tG h g).2 x) id }
theorem bQ.lw {P:Program} {f:FuncId} {a a0:List AV} {H H0:AH} {r:AE} {H':AH} (hc:bQ P f a H r H') (ha:aF a0 a) (hH:dh H0 H):bQ P f a0 H0 r H':=by
 intro M S w vs hh hp hs hall;refine(hc M S w vs (hh.lw hH) (hp.sub λg h=>(tG hH g).2 h) (hs.trans ha.len) λi hi=>ha.rep i (by rw[ha.len];exact hi) (hall i (by rw[ha.len];exact hi))).mono λen w' ⟨M',S',he,hh',hf⟩=>?_;exact⟨M',S',he,hh',hf.WB hH⟩
def ug:AE->AE->Prop
 | .ret x,.ret y=>LW x y
 | .bS x,.bS y=>LW x y
 | _,_=>False
theorem af4 {M S w en} {r e:AE} (h:eZ M S w en r) (hl:ug r e):eZ M S w en e:=by
 cases r with
 | ret x=>
   cases e with
   | bS y=>exact hl.elim
   | ret y=>
     cases en with
     | returned v=>exact LW.rep hl h
     | panicked ch=>exact h.elim
     | outgrown=>exact h.elim
 | bS x=>
   cases e with
   | ret y=>exact hl.elim
   | bS y=>
     cases en with
     | returned v=>exact h.elim
     | panicked ch=>obtain⟨v,q,hv⟩:=h;exact⟨v,q,LW.rep hl hv⟩
     | outgrown=>exact h.elim
theorem Ug {X:Ctx} {k:List SI} {t t':List AV} {H H':AH} (hk:iH k) (ht:t.length=t'.length/\∀i,i<t'.length->LW (t.getD i .any) (t'.getD i .any)\/t'.getD i .any=.any) (hH:dh H H') (h:go X k t' H'):go X k t H:=by
 refine tv hk ?_;intro hok M0 S0 w0 hp0 M S a w items hr hf hta hh hd b hb hbk;refine g5 h hok M0 S0 w0 hp0 M S a w items hr (hf.Cm hH) ⟨hta.1.trans ht.1,λi hi=>?_⟩ (hh.lw hH) hd b hb hbk;rcases ht.2 i hi with q|q
 ·exact LW.rep q (hta.2 i (by rw[ht.1];exact hi))
 ·rw[q];exact .data (.any _)
end
end Go.Proofs.YtmfkphajohcklaaGreat.U
namespace Go.Proofs.YtmfkphajohcklaaGreat.U
noncomputable section
open Go
section
variable {T:Nat->Type}
def nc:List Nat->Nat->Bool
 | [],_=>false
 | m::l,n=>match Nat.beq m n with
   | true=>true
   | false=>nc l n
def addN (l:List Nat) (n:Nat):List Nat:=match nc l n with
 | true=>l
 | false=>l++[n]
def oS:List Nat->Nat->Option Nat
 | [],_=>none
 | m::l,n=>match Nat.beq m n with
   | true=>some 0
   | false=>match oS l n with
     | some i=>some (i+1)
     | none=>none
def Cz:BV T->Bool
 | .emp=>true
 | .int _ _=>true
 | .bool _=>true
 | .str _=>true
 | .flt _ _=>true
 | .sl _ _=>true
 | .aZ _=>true
 | .tr _ _=>true
 | _=>false
def gB:List (BV T)->Bool
 | []=>true
 | x::l=>match Cz x with
   | true=>gB l
   | false=>false
def lz:List (List (BV T))->List (BV T)
 | []=>[]
 | cs::l=>match gB cs with
   | true=>lz l
   | false=>cs++lz l
def rch (H:BH T):Nat->List (BV T)->List Nat->List Nat->List Nat×List Nat
 | 0,_,rb,rt=>(rb,rt)
 | _+1,[],rb,rt=>(rb,rt)
 | n+1,x::w,rb,rt=>match x with
   | .own t=>rch H n w rb (addN rt t)
   | .bz t _ _ _=>rch H n w rb (addN rt t)
   | .ptr b _=>match nc rb b with
     | true=>rch H n w rb rt
     | false=>match gB (H.box.getD b [])with
       | true=>rch H n w (rb++[b]) rt
       | false=>rch H n (H.box.getD b []++w) (rb++[b]) rt
   | .agg cs=>rch H n (cs++w) rb rt
   | .aL cs=>rch H n (cs++w) rb rt
   | .fn _ a b=>rch H n (a++b++w) rb rt
   | .aG _ x=>rch H n (x::w) rb rt
   | _=>rch H n w rb rt
def iJ (f:BV T->Option (BV T)):List (BV T)->Option (List (BV T))
 | []=>some []
 | x::l=>match f x,iJ f l with
   | some y,some r=>some (y::r)
   | _,_=>none
def nv (rb rt:List Nat) (H:BH T):BV T->Option (BV T)
 | .own t=>match oS rt t with
   | some j=>some (.own j)
   | none=>match cR H t with
     | .bf i l=>some (.sl i l)
     | _=>none
 | .ptr b o=>match oS rb b with
   | some j=>some (.ptr j o)
   | none=>none
 | .bz t i n o=>match oS rt t with
   | some j=>some (.bz j i n o)
   | none=>none
 | .emp=>some .emp
 | .int k n=>some (.int k n)
 | .bool b=>some (.bool b)
 | .str s=>some (.str s)
 | .flt k n=>some (.flt k n)
 | .sl i l=>some (.sl i l)
 | .aZ cs=>some (.aZ cs)
 | .tr i x=>some (.tr i x)
 | .raw (.v x)=>some (.raw (.v x))
 | _=>none
def vM (rb rt:List Nat) (H:BH T):BV T->Option (BV T)
 | .agg cs=>match iJ (nv rb rt H) cs with
   | some l=>some (.agg l)
   | none=>none
 | x=>nv rb rt H x
def nw (rb rt:List Nat) (H:BH T):BV T->Option (BV T)
 | .fn f a b=>match iJ (nv rb rt H) a,iJ (nv rb rt H) b with
   | some a,some b=>some (.fn f a b)
   | _,_=>none
 | .aG t x=>match vM rb rt H x with
   | some y=>some (.aG t y)
   | none=>none
 | x=>nv rb rt H x
def lQ (rb rt:List Nat) (H:BH T):BV T->Option (BV T)
 | .agg cs=>match iJ (nw rb rt H) cs with
   | some l=>some (.agg l)
   | none=>none
 | x=>nw rb rt H x
def CC (rb rt:List Nat) (H:BH T):BV T->Option (BV T)
 | .aL cs=>match iJ (lQ rb rt H) cs with
   | some l=>some (.aL l)
   | none=>none
 | x=>lQ rb rt H x
def CD (rb rt:List Nat) (H:BH T) (cs:List (BV T)):Option (List (BV T)):=match gB cs with
 | true=>some cs
 | false=>iJ (nw rb rt H) cs
theorem Qz (rb rt:List Nat) (H:BH T):∀cs,CD rb rt H cs=iJ (nw rb rt H) cs
 | []=>rfl
 | x::l=>by
   have ih:=Qz rb rt H l;unfold CD at ih ⊢;cases hp:Cz x with
   | false=>simp only[gB,hp]
   | true=>
     have hx:nw rb rt H x=some x:=by cases x<;>first|rfl|cases hp
     cases hl:gB l with
     | false=>simp only[gB,hp,hl]
     | true=>rw[hl]at ih;simp only[gB,hp,hl,iJ,hx,<- ih]
def vN (rb rt:List Nat) (H:BH T):List Nat->Option (List (List (BV T)))
 | []=>some []
 | b::l=>match Nat.blt b H.box.length,CD rb rt H (H.box.getD b []),vN rb rt H l with
   | true,some cs,some r=>match jw cs with
     | true=>some (cs::r)
     | false=>none
   | _,_,_=>none
def vO (H:BH T):List Nat->Option (List (BB T))
 | []=>some []
 | t::l=>match Nat.blt t H.buf.length,vO H l with
   | true,some r=>some (cR H t::r)
   | _,_=>none
def lJ:List Nat->Bool
 | []=>true
 | x::l=>match nc l x with
   | true=>false
   | false=>lJ l
def pg.{u} {R:Type u} (rb rt:List Nat) (H:BH T) (K:BH T->Option R):Option R:=
 match lJ rb&&lJ rt,vN rb rt H rb,vO H rt with
 | true,some bx,some bu=>K ⟨bx,bu⟩
 | _,_,_=>none
def ig:List Nat->Nat->Nat->Nat
 | [],n,i=>n+i
 | b::_,_,0=>b
 | _::l,n,i+1=>ig l n i
def ny {α:Type}:List Nat->List α->List α->List α
 | [],new,old=>old++new
 | _::_,[],old=>old
 | b::l,x::r,old=>ny l r (old.set b x)
mutual
def BV.up (f g:Nat->Nat):BV T->BV T
 | .raw x=>.raw (x.up f g)
 | .emp=>.emp
 | .int k n=>.int k n
 | .bool b=>.bool b
 | .str s=>.str s
 | .flt k n=>.flt k n
 | .agg cs=>.agg (BV.cI f g cs)
 | .aL cs=>.aL (BV.cI f g cs)
 | .sl i l=>.sl i l
 | .own t=>.own (g t)
 | .ptr b o=>.ptr (f b) o
 | .gJ b o p=>.gJ (f b) o p
 | .bz t i n o=>.bz (g t) i n o
 | .aZ cs=>.aZ cs
 | .fn h a b=>.fn h (BV.cI f g a) (BV.cI f g b)
 | .aG t x=>.aG t (BV.up f g x)
 | .tr i x=>.tr i x
def BV.cI (f g:Nat->Nat):List (BV T)->List (BV T)
 | []=>[]
 | x::xs=>BV.up f g x::BV.cI f g xs
end
def wt (f g:Nat->Nat) (cs:List (BV T)):List (BV T):=match gB cs with
 | true=>cs
 | false=>BV.cI f g cs
theorem QE (f g:Nat->Nat):∀cs:List (BV T),wt f g cs=BV.cI f g cs
 | []=>by simp only[wt,gB,BV.cI]
 | x::l=>by
   have ih:=QE f g l;unfold wt at ih ⊢;cases hp:Cz x with
   | false=>simp only[gB,hp]
   | true=>
     have hx:BV.up f g x=x:=by cases x<;>first|(simp only[BV.up];done)|cases hp
     cases hl:gB l with
     | false=>simp only[gB,hp,hl]
     | true=>rw[hl]at ih;simp only[gB,hp,hl,BV.cI,hx,<- ih]
def Ea (rb rt:List Nat) (H Hc:BH T):BH T:=⟨ny rb (Hc.box.map (wt (ig rb H.box.length) (ig rt H.buf.length))) H.box,ny rt Hc.buf H.buf⟩
section
variable (B:Tb T)
structure bD (A:Type) where
 dec:BV T->Option A
 enc:A->BV T
 ok:∀x a,dec x=some a->LW (x.av B) ((enc a).av B)
structure PL (A:Type) where
 dec:List (BV T)->Option A
 enc:A->List (BV T)
 ok:∀x a,dec x=some a->aF (BV.an B x) (BV.an B (enc a))
structure PE (A:Type) where
 ks:List Nat
 dec:SE T->Option A
 enc:A->SE T
 key:∀a,(enc a).map (·.1)=ks
 ok:∀e a,dec e=some a->∀i,LW ((lk e i).av B) ((lk (enc a) i).av B)\/lk (enc a) i=.raw .any
structure PX (A:Type) where
 dec:List (List (BV T))->Option A
 enc:A->List (List (BV T))
 ok:∀x a,dec x=some a->x.length=(enc a).length/\∀b,aF (BV.an B (x.getD b [])) (BV.an B ((enc a).getD b []))
structure PU (A:Type) where
 dec:List (BB T)->Option A
 enc:A->List (BB T)
 ok:∀x a,dec x=some a->x.map (BB.av B)=(enc a).map (BB.av B)
structure Out (R:Type) where
 dec:BV T->BH T->Option R
 enc:R->BV T×BH T
 elim:{S:Type}->R->(BV T->BH T->Option S)->Option S
 eE:∀ {S:Type} (r:R) (K:BV T->BH T->Option S),elim r K=K (enc r).1 (enc r).2
 ok:∀x H r,dec x H=some r->LW (x.av B) ((enc r).1.av B)/\dh (H.av B) ((enc r).2.av B)
structure aB where
 f:FuncId
 A:Type
 R:Type
 md:List Bool
 inp:List (BV T)->BH T->Option A
 inn:A->List (BV T)×BH T
 sh:Nat->A->Option R
 o:Out B R
 pl:Bool
 lR:Bool
 ok:∀xs H a,inp xs H=some a->aF (BV.an B xs) (BV.an B (inn a).1)/\dh (H.av B) ((inn a).2.av B)
 WE:pl=true->(∀a,(inn a).2=⟨[],[]⟩)/\∀r,(o.enc r).2=⟨[],[]⟩
 oks:lR=true->∀r,((o.enc r).1.av B).lR=true
structure Lp (R:Type) where
 A:Type
 ks:List Nat
 em:List (Nat×Option Nat×Nat)
 live:List Nat
 dec:SE T->BH T->Option A
 enc:A->SE T×BH T
 run:A->Option R
 key:∀a,(enc a).1.map (·.1)=ks
 ok:∀e H a,dec e H=some a->(∀i,LW ((lk e i).av B) ((lk (enc a).1 i).av B)\/lk (enc a).1 i=.raw .any)/\dh (H.av B) ((enc a).2.av B)
variable {R:Type} {B}
def nr:List Bool->List (BV T)->List (BV T)
 | true::m,_::l=>nr m l
 | _::m,x::l=>x::nr m l
 | [],l=>l
 | _,[]=>[]
def jk:List Bool->List (BV T)->List (BV T)
 | true::m,x::l=>x::jk m l
 | _::m,_::l=>jk m l
 | _,_=>[]
def iI (rb rt:List Nat) (H:BH T):List Bool->List (BV T)->Option (List (BV T))
 | _,[]=>some []
 | true::m,x::l=>match lQ [] [] H x,iI rb rt H m l with
   | some y,some r=>some (y::r)
   | _,_=>none
 | m,x::l=>match lQ rb rt H x,iI rb rt H m.tail l with
   | some y,some r=>some (y::r)
   | _,_=>none
def PM:Nat:=16777216
def cw:AV->AE
 | .aG t x=>match Nat.ble PM t with
   | true=>.bS (.aG (t-PM) x)
   | false=>.ret (.aG t x)
 | x=>.ret x
def Co:BV T->Bool
 | .aG t _=>!Nat.ble PM t
 | .raw x=>match x with
   | .aG _ _=>false
   | _=>true
 | _=>true
def nm (v:BV T) (P:Nat->BV T->Option R) (K:Option R):Option R:=match v with
 | .aG t x=>match Nat.ble PM t with
   | true=>P (t-PM) x
   | false=>K
 | .raw x=>match x with
   | .aG _ _=>none
   | _=>K
 | _=>K
def IQ (c:aB B) (dr:Bool) (args:List (BV T)) (H:BH T) (N:Nat) (K:BV T->BH T->Option R) (next:Option R):Option R:=
 let ts:=(jk c.md args).flatMap eR
 let H1:=fH H ts
 match rch H 1000 (nr c.md args) [] []with
 | (rb,rt)=>match c.pl with
   | true=>match rb,rt with
     | [],[]=>match dr with
       | true=>match iI [] [] ⟨[],[]⟩ c.md args with
         | some xs=>match c.inp xs ⟨[],[]⟩with
           | some a=>(c.sh N a).bind λr=>c.o.elim r λv _=>K v H
           | none=>next
         | none=>next
       | false=>match iI [] [] H1 c.md args with
         | some xs=>match c.inp xs ⟨[],[]⟩with
           | some a=>match ts,c.lR with
             | [],_=>(c.sh N a).bind λr=>c.o.elim r λv _=>K v H
             | _,true=>(c.sh N a).bind λr=>c.o.elim r λv _=>K v H
             | _,false=>(c.sh N a).bind λr=>c.o.elim r λv _=>K v H1
           | none=>next
         | none=>next
     | _,_=>next
   | false=>match dr with
     | true=>next
     | false=>match iI rb rt H1 c.md args with
       | some xs=>pg rb rt H1 λHc=>match c.inp xs Hc with
         | some a=>(c.sh N a).bind λr=>c.o.elim r λv Hc'=>K (v.up (ig rb H1.box.length) (ig rt H1.buf.length)) (Ea rb rt H1 Hc')
         | none=>next
       | none=>next
def ji (dr:Bool) (args:List (BV T)) (H:BH T) (N:Nat) (K:BV T->BH T->Option R) (f:FuncId):List (aB B)->Option R
 | []=>none
 | c::Γ=>match Nat.beq c.f f with
   | false=>ji dr args H N K f Γ
   | true=>IQ c dr args H N K (ji dr args H N K f Γ)
def gN (nt:Nat):List (Nat×Option Nat×Nat)->SE T->BH T->(SE T->BH T->Option R)->Option R
 | [],e,H,K=>K e H
 | (n,none,i)::l,e,H,K=>match lk e n with
   | .emp=>gN nt l ((n,.own H.buf.length)::e) ⟨H.box,H.buf++[.live i []]⟩ K
   | _=>gN nt l e H K
 | (n,some j,i)::l,e,H,K=>match lk e n with
   | .ptr b 0=>match (H.box.getD b []).getD j (.raw .any)with
     | .emp=>gN nt l e ⟨H.box.set b ((H.box.getD b []).set j (.own H.buf.length)),H.buf++[.live i []]⟩ K
     | .own u=>match Nat.blt u nt,cR H u with
       | true,.live i' xs=>gN nt l e ⟨H.box.set b ((H.box.getD b []).set j (.own H.buf.length)),H.buf.set u .dead++[.live i' xs]⟩ K
       | _,_=>gN nt l e H K
     | _=>gN nt l e H K
   | _=>gN nt l e H K
def vP (rb rt:List Nat) (H:BH T) (e:SE T):List Nat->Option (SE T)
 | []=>some []
 | n::l=>match CC rb rt H (lk e n),vP rb rt H e l with
   | some y,some r=>some ((n,y)::r)
   | _,_=>none
def Kd (nb nt:Nat) (L:Lp B R) (e:SE T) (H:BH T) (next:Option R):Option R:=
 gN nt L.em e H λe H=>
  match rch H 2000 (lz (H.box.take nb)++L.live.map (lk e)) (List.range nb) (List.range nt)with
  | (rb,rt)=>match keeps nb rb&&keeps nt rt,vP rb rt H e L.live with
    | true,some e'=>pg rb rt H λH'=>match L.dec e' H' with
      | some a=>L.run a
      | none=>next
    | _,_=>next
def loopS (nb nt:Nat) (e:SE T) (H:BH T):List (Lp B R)->Option R
 | []=>none
 | L::l=>Kd nb nt L e H (loopS nb nt e H l)
def jv:List (Nat×Lp B R)->Nat->List (Lp B R)
 | [],_=>[]
 | (m,L)::r,n=>match Nat.beq m n with
   | true=>L::jv r n
   | false=>jv r n
def JM:Nat:=1000000
def JE:List SL->Option Nat
 | []=>none
 | .op (some d) _::_=>some d
 | _::l=>JE l
def J1:SC->Option Nat
 | .ops _ l=>match JE l with
   | some d=>some (2*d)
   | none=>none
 | .cond (.t s) _ _=>some (2*s+1)
 | _=>none
def uB:List (Nat×List (Nat×Option Nat×Nat))->Nat->List (Nat×Option Nat×Nat)
 | [],_=>[]
 | (m,l)::r,n=>match Nat.beq m n with
   | true=>l
   | false=>uB r n
def Ub (ms:List (Nat×List (Nat×Option Nat×Nat))):SC->List (Nat×Option Nat×Nat)
 | .ret=>uB ms 0
 | c=>match J1 c with
   | some n=>uB ms n
   | none=>[]
def uC (ms:List (Nat×List (Nat×Option Nat×Nat))) (todo:List SI):List (Nat×Option Nat×Nat):=match ms with
 | []=>[]
 | _::_=>match todo with
   | []=>uB ms 0
   | .c c::_=>Ub ms c
   | _=>[]
def j6 (ms:List Nat) (c:SC):Option Nat:=match ms with
 | []=>none
 | _::_=>match J1 c with
   | some n=>match nc ms n with
     | true=>some (JM+n)
     | false=>none
   | none=>none
def nu (e:SE T) (H:BH T):List Rs->Option (List (BV T))
 | []=>some []
 | .t n::rs=>match nu e H rs with
   | some l=>some (lk e n::l)
   | none=>none
 | .cell n sz ag::rs=>match lk e n with
   | .ptr b o=>match H.box[b]?,nu e H rs with
     | some cs,some l=>match Nat.ble (o+sz) cs.length with
       | true=>some (fI ag ((cs.drop o).take sz)::l)
       | false=>none
     | _,_=>none
   | _=>none
def nC:List (BV T)->BV T
 | [x]=>x
 | l=>.aL l
variable (B) in
structure Rt (R:Type) where
 md:List Bool
 em:Option Nat
 o:Out B R
def vL (nb nt:Nat) (q:Rt B R) (l:List (BV T)) (H:BH T):Option R:=
 let H1:=fH H ((jk q.md l).flatMap eR)
 match rch H1 2000 (lz (H1.box.take nb)++nr q.md l) (List.range nb) (List.range nt)with
 | (rb,rt)=>match keeps nb rb&&keeps nt rt,iI rb rt H1 q.md l with
   | true,some xs=>match Co (nC xs)with
     | true=>pg rb rt H1 λH'=>q.o.dec (nC xs) H'
     | false=>none
   | _,_=>none
def vK (nb nt:Nat) (q:Rt B R) (l:List (BV T)) (H:BH T):Option R:=
 match q.em,l with
 | some i,[.emp]=>vL nb nt q [.own H.buf.length] ⟨H.box,H.buf++[.live i []]⟩
 | _,l=>vL nb nt q l H
def CB (nb nt:Nat) (q:Rt B R) (t:Nat) (x:BV T) (H:BH T):Option R:=
 match rch H 2000 (lz (H.box.take nb)++[x]) (List.range nb) (List.range nt)with
 | (rb,rt)=>match keeps nb rb&&keeps nt rt,vM rb rt H x with
   | true,some y=>pg rb rt H λH'=>q.o.dec (.aG (PM+t) y) H'
   | _,_=>none
def vI (e0:SE T) (ns:Nat):List (Nat×Nat×Od)->SE T->BH T->(SE T->BH T->Option R)->Option R
 | [],e,H,K=>K e H
 | (d,n,y)::bs,e,H,K=>match Nat.blt d ns&&Nat.beq (aR e0 y).cells.length n&&jw (aR e0 y).cells with
   | true=>vI e0 ns bs ((d,.ptr H.box.length 0)::e) ⟨H.box++[(aR e0 y).cells],H.buf⟩ K
   | false=>none
def okD (ns:Nat):Option Nat->Bool
 | some d=>Nat.blt d ns
 | none=>true
def rj (e:SE T):List SP->SE T
 | []=>e
 | s::l=>rj (aP e s.d (.raw (.v undef))) l
inductive EK' where
 | ib
 | cs
 | fb
 | ne
def uJ:List (FuncId×EK')->FuncId->Option EK'
 | [],_=>none
 | (m,z)::r,n=>match Nat.beq m n with
   | true=>some z
   | false=>uJ r n
def BN (k:EK') (xs:List (BV T)) (K:BV T->Option R):Option R:=
 match k,xs with
 | .ib,[.str s,.int .u8 c]=>K (.int .i64 (Lib.indexByte s (UInt8.ofNat c.toNat)))
 | .cs,[.str s,.int .u8 c]=>K (.int .i64 ((Lib.countByte s (UInt8.ofNat c.toNat):Nat):Int))
 | .fb,[.int .u64 n]=>K (.flt .f64 n.toNat)
 | .ne,[x]=>K x
 | _,_=>none
structure bw (R:Type) where
 f:R->R->Bool
 eq:∀x y,f x y=true->x=y
 refl:∀x,f x x=true
def bw.cls {R:Type}:bw R:=⟨λx y=>@decide (x=y) (Classical.propDecidable _),λx y h=>@of_decide_eq_true _ (Classical.propDecidable _) h,λx=>@decide_eq_true _ (Classical.propDecidable _) rfl⟩
def bw.bytes:bw (List UInt8):=⟨λx y=>x==y,λ_ _ h=>eq_of_beq h,λx=>beq_self_eq_true x⟩
def both {R:Type} (q:bw R) (a b:Option R):Option R:=a.bind λx=>b.bind λy=>match q.f x y with
 | true=>some x
 | false=>none
theorem afO {R:Type} {q:bw R} {a b:Option R} {r:R} (h:both q a b=some r):a=some r/\b=some r:=by
 obtain⟨x,hx,h⟩:=Option.bind_eq_some_iff.1 h;obtain⟨y,hy,h⟩:=Option.bind_eq_some_iff.1 h;split at h
 ·rename_i he;cases h;exact⟨hx,by rw[hy,q.eq _ _ he]⟩
 ·cases h
def A6 {R:Type} (q:bw R):List (Option R)->Option R
 | []=>none
 | a::l=>match l with
   | []=>a
   | _=>both q a (A6 q l)
theorem OY {R:Type} {q:bw R}:∀ {l:List (Option R)} {r:R},A6 q l=some r->∀a∈l,a=some r
 | [],_,h,_,_=>by cases h
 | [a],r,h,b,hb=>by cases List.mem_singleton.1 hb;exact h
 | a::b::l,r,h,c,hc=>by
   obtain⟨h1,h2⟩:=afO h;rcases List.mem_cons.1 hc with rfl|hc
   ·exact h1
   ·exact OY h2 c hc
theorem O1 {R:Type} {q:bw R} {a b:Option R} (h:b=a):both q a b=a:=by
 subst h;cases b with
 | none=>rfl
 | some x=>simp[both,q.refl]
def dm {R:Type} (q:bw R):Nat->Option R->Option R
 | 0,x=>x
 | n+1,x=>both q x (dm q n x)
theorem fO {R:Type} {q:bw R} {x:Option R}:∀n,dm q n x=x
 | 0=>rfl
 | n+1=>O1 (fO n)
def ux:List SL->Option (Nat×FuncId×List Od)
 | [.op (some d) (.fnv (.func f) [] cs),.op none (.raw (.defer ⟨.value (.tmp e),args,ts⟩) _)]=>match Nat.beq d e,args.toList,ts.toList with
   | true,[],[]=>some (d,f,cs)
   | _,_,_=>none
 | _=>none
variable (B) in
structure Set (R:Type) where
 P:Program
 ex:List (FuncId×EK')
 h:Hint T
 N:Nat
 con:FuncId->List (aB B)
 lps:List (Nat×Lp B R)
 res:List Rs
 ret:Rt B R
 nb:Nat
 nt:Nat
 ns:Nat
 kt:SE T->BH T->Bool
 alt:Option (bw R)
 df:List (FuncId×Nat)
 jm:List Nat
 oI:List (Nat×List (Nat×Option Nat×Nat))
def Set.off {R:Type} (G:Set B R):Set B R:={ G with lps:=[],kt:=λ_ _=>false,df:=[] }
def vx:List (Nat×((i:Nat)×T i×Nat))->Nat->Option ((i:Nat)×T i×Nat)
 | [],_=>none
 | (m,z)::r,n=>match Nat.beq m n with
   | true=>some z
   | false=>vx r n
def cQ (e:SE T) (x:Operand):BV T:=aR e (ak x)
def Kx:Operand->Operand->Bool
 | .tmp a,.tmp b=>Nat.beq a b
 | _,_=>false
def JF (b:Bool) (p:Bool) (x:Option R):Option R:=match b with
 | true=>x
 | false=>gd p x
def Cv (o:Op):Oper:={ dst:=none,op:=o,type:=0,pos := "",after:=#[],guard:=none }
def qz (P:Program) (src dst:TypeId):Bool:=
 match P.underlying src,P.underlying dst with
 | some (.slice e),some .string=>match P.underlying e with
   | some (.int .u8)=>true
   | _=>false
 | _,_=>false
theorem agm {P:Program} {src dst:TypeId} (h:qz P src dst=true):∃e,P.underlying src=some (.slice e)/\P.underlying dst=some .string/\P.underlying e=some (.int .u8):=by
 unfold qz at h;split at h
 ·rename_i e h1 h2;split at h
  ·rename_i h3;exact⟨e,h1,h2,h3⟩
  ·cases h
 ·cases h
def Be (P:Program) (te:TypeId):Option (Nat×Nat×Bool):=match P.underlying te with
 | some (.array m e)=>match hO P e with
   | some (k,ag)=>some (m,k,ag)
   | none=>none
 | _=>none
theorem afQ {P:Program} {te:TypeId} {m k:Nat} {ag:Bool} (h:Be P te=some (m,k,ag)):∃e,P.underlying te=some (.array m e)/\hO P e=some (k,ag):=by
 unfold Be at h;split at h
 ·rename_i m' e hu;split at h
  ·rename_i k' ag' hl;cases h;exact⟨e,hu,hl⟩
  ·cases h
 ·cases h
variable (B) in
def fZ (P:Program) (h:Hint T) (e:SE T) (H:BH T) (d:Option Nat) (o:Op) (K:SE T->BH T->Option R):Option R:=
 match o with
 | .call { callee:=.builtin .max,args,.. }=>match args.toList with
   | [x,y]=>match cQ e x,cQ e y with
     | .int k a,.int _ b=>K (aP e d (.int k (max a b))) H
     | _,_=>none
   | _=>none
 | .call { callee:=.builtin .min,args,.. }=>match args.toList with
   | [x,y]=>match cQ e x,cQ e y with
     | .int k a,.int _ b=>K (aP e d (.int k (min a b))) H
     | _,_=>none
   | _=>none
 | .call { callee:=.builtin .len,args,argTypes }=>match args.toList,argTypes.toList with
   | [x],[t]=>match B4 P t,cQ e x with
     | true,.own u=>match cR H u with
       | .map _ _ l=>K (aP e d (.int .i64 l.length)) H
       | _=>none
     | _,_=>none
   | _,_=>none
 | .nilCheck x=>match cQ e x with
   | .ptr b o=>K (aP e d (.ptr b o)) H
   | .bz t i n o=>K (aP e d (.bz t i n o)) H
   | .aZ cs=>K (aP e d (.aZ cs)) H
   | _=>none
 | .binOp op te x y _=>match B3 op,cQ e x,cQ e y with
   | true,.flt k m,.flt k' n=>if k'=k then K (aP e d (.bool (oN op k m n))) H else none
   | true,.agg xs,.agg ys=>match gL op,Bw P te with
     | some ne,some ls=>match oK ls xs ys with
       | some b=>K (aP e d (.bool (fY ne b))) H
       | none=>none
     | _,_=>none
   | _,_,_=>none
 | .makeMap T r=>match r,qA P T,hintOf h.bt (T+3000000)with
   | none,some (q,k,_),some i=>match Nat.beq (B.k i) k with
     | true=>K (aP e d (.own H.buf.length)) ⟨H.box,H.buf++[.map q i []]⟩
     | false=>none
   | _,_,_=>none
 | .lookup T x i c=>match qA P T,cQ e x,cQ e i with
   | some (q,k,zs),.own u,.agg ks=>match cR H u,ri q ks with
     | .map q' j l,some ns=>if q'=q/\B.k j=k/\q≠[]then
        gd (ju q ns) (vv (l.find? λy=>jz q ns (B.enc j y))
         (K (aP e d (match c with
           | true=>.aL [.agg (zs.map fU),.bool false]
           | false=>.agg (zs.map fU))) H)
         λy=>K (aP e d (match c with
          | true=>.aL [.agg ((B.enc j y).drop q.length),.bool true]
          | false=>.agg ((B.enc j y).drop q.length))) H)
       else none
     | _,_=>none
   | _,_,_=>none
 | .mapUpdate T x i z=>match qA P T,cQ e x,cQ e i,cQ e z with
   | some (q,k,_),.own u,.agg ks,.agg vs=>match cR H u,ri q ks with
     | .map q' j l,some ns=>match B.dec j (ks++vs),allI vs&&B.ag j with
       | some y,true=>if q'=q/\B.k j=k/\q≠[]/\q.length+vs.length=k then
          gd (ju q ns) (K (aP e d (.raw (.v undef))) ⟨H.box,H.buf.set u (.map q j (kj (λy=>jz q ns (B.enc j y)) y l))⟩)
         else none
       | _,_=>none
     | _,_=>none
   | _,_,_,_=>none
 | .typeAssert x _ ad ok=>match ok,jU P ad with
   | true,some z=>match cQ e x with
     | .aG t v=>match Nat.beq t ad with
       | true=>K (aP e d (.aL [v,.bool true])) H
       | false=>K (aP e d (.aL [cbv z,.bool false])) H
     | .raw (.v .nilIface)=>K (aP e d (.aL [cbv z,.bool false])) H
     | _=>none
   | _,_=>none
 | .convert src dst x=>match qz P src dst,cQ e x with
   | true,.sl i l=>match h.bo i l with
     | some s=>K (aP e d (.str s)) H
     | none=>none
   | true,.own u=>match cR H u with
     | .live i l=>match h.bo i l with
       | some s=>K (aP e d (.str s)) H
       | none=>none
     | .bf i l=>match h.bo i l with
       | some s=>K (aP e d (.str s)) H
       | none=>none
     | _=>none
   | true,.emp=>K (aP e d (.str [])) H
   | _,_=>none
 | .makeSlice te x y=>match vx h.fJ te,cQ e x,cQ e y with
   | some ⟨i,z,aQ⟩,.int _ l,.int _ c=>match Nat.blt 0 aQ with
     | true=>gd (leB 0 l) (JF (Kx x y) (leB l c) (gd (leB ((aQ:Int)*c) 281474976710656) (K (aP e d (.own H.buf.length)) ⟨H.box,H.buf++[.live i (List.replicate l.toNat z)]⟩)))
     | false=>none
   | _,_,_=>none
 | .index te x i=>match Be P te,cQ e x,cQ e i with
   | some (m,k,ag),.agg cs,.int _ n=>match JN h d with
     | some j=>match Nat.beq (B.k j) k,hU B j m cs with
       | true,some l=>(ix l n).bind λel=>K (aP e d (fI ag (B.enc j el))) H
       | _,_=>none
     | none=>match leB 0 n&&aj n (m:Int)&&Nat.ble (n.toNat*k+k) cs.length with
       | true=>K (aP e d (fI ag ((cs.drop (n.toNat*k)).take k))) H
       | false=>none
   | _,_,_=>none
 | .buildSlice ty n pp=>match bZ P (true,[]) (Cv (.buildSlice ty n pp))with
   | some (.cq k ps)=>cV B h false e H d (.cq k ps) K
   | _=>none
 | _=>none
variable (G:Set B R)
def jx (e:SE T) (dr:Bool) (H:BH T) (t:Nat) (x:BV T):Option R:=match dr,G.kt e H with
 | false,true=>CB G.nb G.nt G.ret t x H
 | _,_=>none
def vX (k:List SI) (e:SE T) (H:BH T):Option R:=match k with
 | .blk id::_=>loopS G.nb G.nt e H (jv G.lps id)
 | _=>none
def KB (e:SE T) (H:BH T):Option R:=match nu e H G.res with
 | some l=>vK G.nb G.nt G.ret l H
 | none=>none
variable (rec:List SI->SE T->BH T->Option R)
def vW (dr:Bool) (j:Nat) (w:Bool) (l1:List SP) (l:List SL) (k:List SI) (e:SE T) (H:BH T):Option R:=match l1.all (λs=>okD G.ns s.d),lk e j with
 | true,.bool c=>cond c
   (match w with
     | true=>rec (.ops dr (l1.map SP.sl++l)::k) ((j,.bool true)::e) H
     | false=>rec (.ops dr l::k) (rj ((j,.bool true)::e) l1) H)
   (match w with
     | true=>rec (.ops dr l::k) (rj ((j,.bool false)::e) l1) H
     | false=>rec (.ops dr (l1.map SP.sl++l)::k) ((j,.bool false)::e) H)
 | true,.raw (.v (.tuple _))=>rec (.ops dr l::k) (rj e l1) H
 | _,_=>none
def rC (dr:Bool) (d:Option Nat) (f:FuncId) (args:List (BV T)) (l:List SL) (k:List SI) (e:SE T) (H:BH T):Option R:=ji dr args H G.N (λv H=>nm v (jx G e dr H) (rec (.ops dr l::k) (aP e d v) H)) f (G.con f)
def rD (hd dr:Bool) (d:Option Nat) (t:TypeId) (v:BV T) (m:String) (args:Array Operand) (l:List SL) (k:List SI) (e:SE T) (H:BH T):Option R:=match qB G.P t m with
 | some f=>ji (dr&&!hd) (v::args.toList.map (cQ e)) H G.N (λv H=>nm v (jx G e dr H) (rec (.ops dr l::k) (aP e d v) H)) f (G.con f)
 | none=>none
def vZ (hd dr:Bool) (d:Option Nat) (o:Op) (l:List SL) (k:List SI) (e:SE T) (H:BH T):Option R:=match o with
 | .call { callee:=.invoke x m,args,.. }=>match cQ e x with
   | .aG t v=>rD G rec hd dr d t v m args l k e H
   | .tr i y=>B.el i y _ λz=>match z with
     | .aG t v=>rD G rec hd dr d t v m args l k e H
     | _=>none
   | _=>none
 | .call { callee:=.value x,args,.. }=>match cQ e x with
   | .fn (.func f) a b=>ji false (a++args.toList.map (cQ e)++b) H G.N (λv H=>nm v (jx G e dr H) (rec (.ops dr l::k) (aP e d v) H)) f (G.con f)
   | _=>none
 | .panic x=>match dr,cQ e x with
   | dr,.aG t v=>jx G e dr H t v
   | _,_=>none
 | o=>fZ B G.P G.h e H d o λe H=>rec (.ops dr l::k) e H
def vU (dr:Bool) (d:Option Nat) (f:FuncId) (as:List Od) (l:List SL) (k:List SI) (e:SE T) (H:BH T):Option R:=match uJ G.ex f with
 | some q=>BN q (as.map (aR e)) λv=>rec (.ops dr l::k) (aP e d v) H
 | none=>rC G rec dr d f (as.map (aR e)) l k e H
def vV (dr:Bool) (d:Option Nat) (x:Od) (as:List Od) (l:List SL) (k:List SI) (e:SE T) (H:BH T):Option R:=match aR e x with
 | .fn (.func f) a b=>rC G rec dr d f (a++as.map (aR e)++b) l k e H
 | _=>none
def vY (dr:Bool) (d:Option Nat) (o:SO) (l:List SL) (k:List SI) (e:SE T) (H:BH T):Option R:=match okD G.ns d with
 | false=>none
 | true=>match o with
   | .call f as=>vU G rec dr d f as l k e H
   | .gr x as=>vV G rec dr d x as l k e H
   | .raw o ty=>vZ G rec (mU o ty) dr d o l k e H
   | o=>cV B G.h dr e H d o λe H=>rec (.ops dr l::k) e H
def pj (dr:Bool) (l:List SL) (k:List SI) (e:SE T) (H:BH T):Option R:=match l with
 | []=>rec k e H
 | .grp j w l1::l=>vW G rec dr j w l1 l k e H
 | .op d o::l=>vY G rec dr d o l k e H
def lU (o:Option (List SL)) (ls:List (List SL)) (k:List SI) (e:SE T) (H:BH T):Option R:=match G.alt,ls with
 | some q,l::ls=>A6 q ((l::ls).map λl=>rec (.ops true l::k) e H)
 | _,_=>match o with
   | some l=>rec (.ops true l::k) e H
   | none=>none
def Ko:BV T->Bool
 | .ptr _ 0=>true
 | _=>false
def vw:List (FuncId×Nat)->FuncId->Nat->Bool
 | [],_,_=>false
 | (f,n)::l,g,m=>match Nat.beq f g&&Nat.beq n m with
   | true=>true
   | false=>vw l g m
variable (off:List SI->SE T->BH T->Option R)
def CG (l:List SL) (k:List SI) (e:SE T) (H:BH T) (s:Nat) (f:FuncId) (cs:List Od):Option R:=
 match vw G.df f cs.length&&Nat.blt s G.ns&&(cs.all λc=>Ko (aR e c))with
 | true=>off k ((s,.raw .any)::e) H
 | false=>none
def rE (d:Bool) (l:List SL) (k:List SI) (e:SE T) (H:BH T):Option R:=match G.df with
 | []=>rec (.ops d l::k) e H
 | _::_=>match d,ux l with
   | false,some (s,f,cs)=>CG G off l k e H s f cs
   | _,_=>rec (.ops d l::k) e H
def f4 (c:SC) (k:List SI) (e:SE T) (H:BH T):Option R:=match c with
 | .skip=>rec k e H
 | .ops d l=>rE G rec off d l k e H
 | .priv l bs=>rec (.ops true l::.pv bs::k) e H
 | .alts o ls=>lU G rec o ls k e H
 | .seq a b=>rec (.c a::.c b::k) e H
 | .cond x a b=>match aR e x with
   | .bool c=>cond c (rec (.c a::k) e H) (rec (.c b::k) e H)
   | _=>none
 | .block id b=>rec (.c b::.blk id::k) e H
 | .loop _=>vX G k e H
 | .scope b=>rec (.c b::.scp::k) e H
 | .exit id=>match ez id k with
   | some k=>rec k e H
   | none=>none
 | .ret=>KB G e H
 | .bad=>none
def ph (c:SC) (k:List SI) (e:SE T) (H:BH T):Option R:=match j6 G.jm c with
 | none=>f4 G rec off c k e H
 | some i=>match jv G.lps i with
   | []=>f4 G rec off c k e H
   | L::l=>loopS G.nb G.nt e H (L::l)
def gG (todo:List SI) (e:SE T) (H:BH T):Option R:=match todo with
 | []=>KB G e H
 | .blk _::k=>rec k e H
 | .scp::k=>rec k e H
 | .pv bs::k=>vI e G.ns bs e H λe H=>rec k e H
 | .lp _::k=>vX G k e H
 | .ops dr l::k=>pj G rec dr l k e H
 | .c c::k=>ph G rec off c k e H
omit rec off
def sx (n:Nat):List SI->SE T->BH T->Option R:=Nat.rec (motive:=λ_=>Set B R->List SI->SE T->BH T->Option R) (λ_ _ _ _=>none) (λ_ go G todo e H=>gN G.nt (uC G.oI todo) e H λe H=>gG G (go G) (go G.off) todo e H) n G
theorem Ic (n:Nat) (todo:List SI) (e:SE T) (H:BH T):sx G (n+1) todo e H=gN G.nt (uC G.oI todo) e H λe H=>gG G (sx G n) (sx G.off n) todo e H:=rfl
end
end
end
end Go.Proofs.YtmfkphajohcklaaGreat.U
namespace Go.Proofs.YtmfkphajohcklaaGreat.U
open Go
section
variable {T:Nat->Type} {B:Tb T}
structure Tb.Ok (B:Tb T):Prop where
 enc:∀i x,BV.an B (B.enc i x)=(B.eA i x).cells
 len:∀i x,(B.enc i x).length=B.k i
 one:∀i x,ones (B.eA i x).cells=true
 dat:∀i x,(B.eA i x).data=true
 sg:∀i x,B.ag i=false->(B.eA i x).cells=[B.eA i x]
 ag:∀i x,B.ag i=true->B.eA i x=.agg (B.eA i x).cells
 dec:∀i cs x,B.dec i cs=some x->aF (BV.an B cs) (B.eA i x).cells
 el:∀i x (R:Type) (K:BV T->Option R) r,B.el i x R K=some r->∃z,z.av B=B.eX i x/\K z=some r
 fd:∀i ty v x,B.fd i ty v=some x->∃y,B.eX i x=.aG ty y/\(v.av B).dd=true/\LW (v.av B) y
theorem pP {j i:Nat} {l:List (T j)} {l':List (T i)} (h:kY j i l=some l'):∃e:j=i,l'=e▸l:=by
 unfold kY at h;split at h
 ·rename_i e;exact⟨e,by cases h;rfl⟩
 ·cases h
theorem Hl {k:IntKind} {x:BV T} {n:Int} (h:asInt k x=some n):x=.int k n:=by
 unfold asInt at h;split at h
 ·split at h
  ·rename_i e;cases h;rw[e]
  ·cases h
 ·cases h
theorem G6 {x:BV T} {b:Bool} (h:asBool x=some b):x=.bool b:=by
 unfold asBool at h;split at h
 ·cases h;rfl
 ·cases h
theorem Hm {x:BV T} {s:List UInt8} (h:fy x=some s):x=.str s:=by
 unfold fy at h;split at h
 ·cases h;rfl
 ·cases h
theorem agk {k:FloatKind} {x:BV T} {n:Nat} (h:A9 k x=some n):x=.flt k n:=by
 unfold A9 at h;split at h
 ·split at h
  ·rename_i e;cases h;rw[e]
  ·cases h
 ·cases h
theorem gY {i:Nat} {x:BV T} {l:List (T i)} (h:fT i x=some l):LW (x.av B) ((BV.sl i l:BV T).av B):=by
 unfold fT at h;split at h
 ·obtain⟨e,rfl⟩:=pP h;subst e;exact .refl _
 ·cases h;simp only[BV.av,List.map_nil];exact .emp _
 ·cases h
def bD.i (k:IntKind):bD B Int:=⟨asInt k,.int k,λx a h=>by rw[Hl h];exact .refl _⟩
def bD.b:bD B Bool:=⟨asBool,.bool,λx a h=>by rw[G6 h];exact .refl _⟩
def bD.s:bD B (List UInt8):=⟨fy,.str,λx a h=>by rw[Hm h];exact .refl _⟩
def bD.f (k:FloatKind):bD B Nat:=⟨A9 k,.flt k,λx a h=>by rw[agk h];exact .refl _⟩
def bD.r (i:Nat):bD B (List (T i)):=⟨fT i,.sl i,λx a h=>gY h⟩
def Bf (j i:Nat) (x:T j):Option (T i):=if h:j=i then some (h▸x)else none
theorem aeG {j i:Nat} {x:T j} {y:T i} (h:Bf j i x=some y):∃e:j=i,y=e▸x:=by
 unfold Bf at h;split at h
 ·rename_i e;exact⟨e,by cases h;rfl⟩
 ·cases h
def Ba (i:Nat):BV T->Option (T i)
 | .tr j x=>Bf j i x
 | _=>none
theorem ahJ {i:Nat} {x:BV T} {y:T i} (h:Ba i x=some y):x=.tr i y:=by
 unfold Ba at h;split at h
 ·obtain⟨e,rfl⟩:=aeG h;subst e;rfl
 ·cases h
def bD.tr (i:Nat):bD B (T i):=⟨Ba i,.tr i,λx a h=>by rw[ahJ h];exact .refl _⟩
def bD.li (k:IntKind) (m:Int):bD B Unit:=⟨λx=>match asInt k x with
 | some n=>if n=m then some ()else none
 | none=>none,λ_=>.int k m,λx a h=>by
 split at h
 ·rename_i n hn
  split at h
  ·rename_i e;rw[Hl hn,e];exact .refl _
  ·cases h
 ·cases h⟩
def bD.lb (m:Bool):bD B Unit:=⟨λx=>match asBool x with
 | some n=>if n=m then some ()else none
 | none=>none,λ_=>.bool m,λx a h=>by
 split at h
 ·rename_i n hn
  split at h
  ·rename_i e;rw[G6 hn,e];exact .refl _
  ·cases h
 ·cases h⟩
def bD.ls (m:List UInt8):bD B Unit:=⟨λx=>match fy x with
 | some n=>if n=m then some ()else none
 | none=>none,λ_=>.str m,λx a h=>by
 split at h
 ·rename_i n hn
  split at h
  ·rename_i e;rw[Hm hn,e];exact .refl _
  ·cases h
 ·cases h⟩
def bD.own (t:Nat):bD B Unit:=⟨λx=>match x with
 | .own u=>match h:Nat.beq u t with
   | true=>some ()
   | false=>none
 | _=>none,λ_=>.own t,λx a h=>by
 split at h
 ·split at h
  ·rename_i e;rw[Nat.eq_of_beq_eq_true e];exact .refl _
  ·cases h
 ·cases h⟩
def bD.ptr (b o:Nat):bD B Unit:=⟨λx=>match x with
 | .ptr b' o'=>match h:Nat.beq b' b,h':Nat.beq o' o with
   | true,true=>some ()
   | _,_=>none
 | _=>none,λ_=>.ptr b o,λx a h=>by
 split at h
 ·split at h
  ·rename_i e e';rw[Nat.eq_of_beq_eq_true e,Nat.eq_of_beq_eq_true e'];exact .refl _
  ·cases h
 ·cases h⟩
def bD.ni:bD B Unit:=⟨λx=>match x with
 | .raw (.v .nilIface)=>some ()
 | _=>none,λ_=>.raw (.v .nilIface),λx a h=>by
 split at h
 ·exact .refl _
 ·cases h⟩
def bD.e:bD B Unit:=⟨λx=>match x with
 | .emp=>some ()
 | _=>none,λ_=>.emp,λx a h=>by
 split at h
 ·exact .refl _
 ·cases h⟩
def PL.n:PL B Unit:=⟨λx=>match x with
 | []=>some ()
 | _=>none,λ_=>[],λx a h=>by
 split at h
 ·exact .refl _
 ·cases h⟩
def PL.c {A A':Type} (p:bD B A) (q:PL B A'):PL B (A×A'):=⟨λx=>match x with
 | y::l=>match p.dec y,q.dec l with
   | some a,some b=>some (a,b)
   | _,_=>none
 | []=>none,λa=>p.enc a.1::q.enc a.2,λx a h=>by
 split at h
 ·split at h
  ·rename_i h1 h2;cases h;simp only[BV.an];exact .cons (p.ok _ _ h1) (q.ok _ _ h2)
  ·cases h
 ·cases h⟩
def PL.el (hB:B.Ok) (i:Nat):PL B (T i):=⟨B.dec i,B.enc i,λx a h=>by rw[hB.enc];exact hB.dec i x a h⟩
def PJ (k:Nat) {α X:Type} (d:List (BV T)->Option α) (f:α->List (BV T)->Option X) (cs:List (BV T)):Option X:=match d (cs.take k)with
 | some a=>f a (cs.drop k)
 | none=>none
theorem ahG {k:Nat} {α X:Type} {d:List (BV T)->Option α} {f:α->List (BV T)->Option X} {cs:List (BV T)} {x:X} (h:PJ k d f cs=some x):∃a,d (cs.take k)=some a/\f a (cs.drop k)=some x:=by
 unfold PJ at h;split at h
 ·rename_i a ha;exact⟨a,ha,h⟩
 ·cases h
theorem Ri {k:Nat} {α X:Type} {d:List (BV T)->Option α} {f:α->List (BV T)->Option X} {cs:List (BV T)} {x:X} (h:PJ k d f cs=some x):∃a u w,cs=u++w/\d u=some a/\f a w=some x:=
 let ⟨a,h1,h2⟩:=ahG h
 ⟨a,cs.take k,cs.drop k,(List.take_append_drop k cs).symm,h1,h2⟩
theorem Rj {u w:List (BV T)} {l m:List AV} (h1:aF (BV.an B u) l) (h2:aF (BV.an B w) m):aF (BV.an B (u++w)) (l++m):=by
 have e:∀u:List (BV T),BV.an B (u++w)=BV.an B u++BV.an B w:=λu=>by
  induction u with
  | nil=>simp[BV.an]
  | cons x u ih=>simp only[List.cons_append,BV.an,ih]
 rw[e];exact aF.append h1 h2
def qJ (k:Nat) {α:Type} (d:List (BV T)->Option α):Nat->List (BV T)->Option (List α)
 | 0,[]=>some []
 | 0,_=>none
 | m+1,cs=>match d (cs.take k),qJ k d m (cs.drop k)with
   | some a,some l=>some (a::l)
   | _,_=>none
theorem HR {k:Nat} {α:Type} {d:List (BV T)->Option α} {f:α->List AV} (hd:∀cs a,d cs=some a->aF (BV.an B cs) (f a)):∀ {m:Nat} {cs:List (BV T)} {l:List α},qJ k d m cs=some l->aF (BV.an B cs) (jp f l)
 | 0,[],l,h=>by cases h;exact .nil
 | 0,_::_,l,h=>by cases h
 | m+1,cs,l,h=>by
   simp only[qJ]at h;split at h
   ·rename_i a l' h1 h2;cases h;have e:BV.an B cs=BV.an B (cs.take k)++BV.an B (cs.drop k):=by rw[db,db,db,<- List.map_append,List.take_append_drop]
    rw[e];exact aF.append (hd _ _ h1) (HR hd h2)
   ·cases h
def PL.a (hB:B.Ok) (i:Nat) {A':Type} (q:PL B A'):PL B (T i×A'):=⟨λx=>match B.dec i (x.take (B.k i)),q.dec (x.drop (B.k i))with
 | some a,some b=>some (a,b)
 | _,_=>none,λa=>B.enc i a.1++q.enc a.2,λx a h=>by
 split at h
 ·rename_i h1 h2
  cases h
  have e:BV.an B x=BV.an B (x.take (B.k i))++BV.an B (x.drop (B.k i)):=by rw[db,db,db,<- List.map_append,List.take_append_drop]
  rw[e,db B (_++_),List.map_append,<- db,<- db,hB.enc]
  exact aF.append (hB.dec i _ _ h1) (q.ok _ _ h2)
 ·cases h⟩
def bD.ag {A:Type} (p:PL B A):bD B A:=⟨λx=>match x with
 | .agg cs=>p.dec cs
 | _=>none,λa=>.agg (p.enc a),λx a h=>by
 split at h
 ·simp only[BV.av];exact .agg (p.ok _ _ h)
 ·cases h⟩
def bD.tu {A:Type} (p:PL B A):bD B A:=⟨λx=>match x with
 | .aL cs=>p.dec cs
 | _=>none,λa=>.aL (p.enc a),λx a h=>by
 split at h
 ·simp only[BV.av];exact .aL (p.ok _ _ h)
 ·cases h⟩
def bD.dp {A:Type} (p:PL B A):bD B A:=⟨λx=>match x with
 | .aZ cs=>p.dec cs
 | _=>none,λa=>.aZ (p.enc a),λx a h=>by
 split at h
 ·simp only[BV.av];exact .aZ (p.ok _ _ h)
 ·cases h⟩
def bD.fn {A A':Type} (f:FuncId) (p:PL B A) (q:PL B A'):bD B (A×A'):=⟨λx=>match x with
 | .fn (.func g) a b=>match h:Nat.beq g f,p.dec a,q.dec b with
   | true,some u,some v=>some (u,v)
   | _,_,_=>none
 | _=>none,λa=>.fn (.func f) (p.enc a.1) (q.enc a.2),λx a h=>by
 split at h
 ·split at h
  ·rename_i e h1 h2;cases h;simp only[BV.av];rw[Nat.eq_of_beq_eq_true e];exact .fn _ (p.ok _ _ h1) (q.ok _ _ h2)
  ·cases h
 ·cases h⟩
def bD.aG {A:Type} (t:TypeId) (p:bD B A):bD B A:=⟨λx=>match x with
 | .aG t' y=>match h:Nat.beq t' t with
   | true=>p.dec y
   | false=>none
 | _=>none,λa=>.aG t (p.enc a),λx a h=>by
 split at h
 ·split at h
  ·rename_i e;simp only[BV.av];rw[Nat.eq_of_beq_eq_true e];exact .aG _ (p.ok _ _ h)
  ·cases h
 ·cases h⟩
def bD.el (hB:B.Ok) (i:Nat):bD B (T i):=bD.ag (PL.el hB i)
theorem n8 (m:Nat) (v:BV T) (r:SE T) (n:Nat):lk ((m,v)::r) n=if m=n then v else lk r n:=by
 simp only[lk];by_cases h:m=n
 ·subst h;simp
 ·have:Nat.beq m n=false:=by
   cases hb:Nat.beq m n with
   | true=>exact absurd (Nat.eq_of_beq_eq_true hb) h
   | false=>rfl
  rw[this,if_neg h]
def PE.n:PE B Unit:=⟨[],λ_=>some (),λ_=>[],λ_=>rfl,λ_ _ _ _=>.inr rfl⟩
def PE.c {A A':Type} (n:Nat) (p:bD B A) (q:PE B A'):PE B (A×A'):=⟨n::q.ks,λe=>match p.dec (lk e n),q.dec e with
 | some a,some b=>some (a,b)
 | _,_=>none,λa=>(n,p.enc a.1)::q.enc a.2,λa=>by simp[q.key],λe a h i=>by
 split at h
 ·rename_i h1 h2
  cases h
  rw[n8]
  by_cases hi:n=i
  ·subst hi;rw[if_pos rfl];exact .inl (p.ok _ _ h1)
  ·rw[if_neg hi];exact q.ok e _ h2 i
 ·cases h⟩
def PX.n:PX B Unit:=⟨λx=>match x with
 | []=>some ()
 | _=>none,λ_=>[],λx a h=>by
 split at h
 ·exact⟨rfl,λ_=>.refl _⟩
 ·cases h⟩
def PX.c {A A':Type} (p:PL B A) (q:PX B A'):PX B (A×A'):=⟨λx=>match x with
 | y::l=>match p.dec y,q.dec l with
   | some a,some b=>some (a,b)
   | _,_=>none
 | []=>none,λa=>p.enc a.1::q.enc a.2,λx a h=>by
 split at h
 ·split at h
  ·rename_i h1 h2
   cases h
   obtain⟨q1,q2⟩:=q.ok _ _ h2
   refine⟨by simp[q1],λb=>?_⟩
   cases b with
   | zero=>exact p.ok _ _ h1
   | succ b=>exact q2 b
  ·cases h
 ·cases h⟩
def PU.n:PU B Unit:=⟨λx=>match x with
 | []=>some ()
 | _=>none,λ_=>[],λx a h=>by
 split at h
 ·rfl
 ·cases h⟩
def PU.d {A':Type} (q:PU B A'):PU B A':=⟨λx=>match x with
 | .dead::l=>q.dec l
 | _=>none,λa=>.dead::q.enc a,λx a h=>by
 split at h
 ·simp only[List.map_cons,q.ok _ _ h]
 ·cases h⟩
def PU.l {A':Type} (i:Nat) (q:PU B A'):PU B (List (T i)×A'):=⟨λx=>match x with
 | .live j xs::l=>match kY j i xs,q.dec l with
   | some a,some b=>some (a,b)
   | _,_=>none
 | _=>none,λa=>.live i a.1::q.enc a.2,λx a h=>by
 split at h
 ·split at h
  ·rename_i h1 h2
   cases h
   obtain⟨e,rfl⟩:=pP h1
   subst e
   simp only[List.map_cons,q.ok _ _ h2]
  ·cases h
 ·cases h⟩
def PU.f {A':Type} (i:Nat) (q:PU B A'):PU B (List (T i)×A'):=⟨λx=>match x with
 | .bf j xs::l=>match kY j i xs,q.dec l with
   | some a,some b=>some (a,b)
   | _,_=>none
 | _=>none,λa=>.bf i a.1::q.enc a.2,λx a h=>by
 split at h
 ·split at h
  ·rename_i h1 h2
   cases h
   obtain⟨e,rfl⟩:=pP h1
   subst e
   simp only[List.map_cons,q.ok _ _ h2]
  ·cases h
 ·cases h⟩
def PU.m {A':Type} (ks:List IntKind) (i:Nat) (q:PU B A'):PU B (List (T i)×A'):=⟨λx=>match x with
 | .map k j xs::l=>match decide (k=ks),kY j i xs,q.dec l with
   | true,some a,some b=>some (a,b)
   | _,_,_=>none
 | _=>none,λa=>.map ks i a.1::q.enc a.2,λx a h=>by
 split at h
 ·split at h
  ·rename_i h0 h1 h2
   cases h
   obtain⟨e,rfl⟩:=pP h1
   subst e
   have h0:=of_decide_eq_true h0
   subst h0
   simp only[List.map_cons,q.ok _ _ h2]
  ·cases h
 ·cases h⟩
theorem Ip {H:BH T} {bx:List (List (BV T))} {bu:List (BB T)} (h1:H.box.length=bx.length/\∀b,aF (BV.an B (H.box.getD b [])) (BV.an B (bx.getD b []))) (h2:H.buf.map (BB.av B)=bu.map (BB.av B)):dh (H.av B) ((⟨bx,bu⟩:BH T).av B):=by
 have e:∀(l:List (List (BV T))) b,(l.map (BV.an B)).getD b []=BV.an B (l.getD b []):=λl b=>by
  simp only[List.getD,List.getElem?_map];cases l[b]? with
  | none=>simp[BV.an]
  | some x=>rfl
 have h3:(BH.av B H).buf=(BH.av B ⟨bx,bu⟩).buf:=h2;refine⟨by simp[BH.av,h1.1],by rw[h3],λb=>?_,λt=>by rw[h3];exact .refl _⟩;simp only[BH.av,e];exact h1.2 b
def Out.p {R:Type} (o:bD B R):Out B R:=
 ⟨λv H=>match H with
   | ⟨[],[]⟩=>o.dec v
   | _=>none,λr=>(o.enc r,⟨[],[]⟩),λr K=>K (o.enc r) ⟨[],[]⟩,λ_ _=>rfl,λx H r h=>by
 split at h
 ·exact⟨o.ok _ _ h,dh.refl _⟩
 ·cases h⟩
def Out.m {R1 R2 R3 R:Type} (o:bD B R1) (x:PX B R2) (u:PU B R3) (to:R1×R2×R3->R) (of:R->R1×R2×R3) (h:∀z,of (to z)=z):Out B R:=
 ⟨λv H=>match o.dec v,x.dec H.box,u.dec H.buf with
   | some a,some b,some c=>some (to (a,b,c))
   | _,_,_=>none,λr=>(o.enc (of r).1,⟨x.enc (of r).2.1,u.enc (of r).2.2⟩),λr K=>K (o.enc (of r).1) ⟨x.enc (of r).2.1,u.enc (of r).2.2⟩,λ_ _=>rfl,λv H r h0=>by
 split at h0
 ·rename_i h1 h2 h3
  cases h0
  rw[h]
  exact⟨o.ok _ _ h1,Ip (x.ok _ _ h2) (u.ok _ _ h3)⟩
 ·cases h0⟩
def Out.or {R1 R2:Type} (o1:Out B R1) (o2:Out B R2):Out B (R1⊕R2):=
 ⟨λv H=>match o1.dec v H with
   | some r=>some (.inl r)
   | none=>match o2.dec v H with
     | some r=>some (.inr r)
     | none=>none,λr=>match r with
   | .inl r=>o1.enc r
   | .inr r=>o2.enc r,λr K=>Sum.elim (λr=>o1.elim r K) (λr=>o2.elim r K) r,λr K=>by
     cases r with
     | inl r=>exact o1.eE r K
     | inr r=>exact o2.eE r K,λv H r h=>by
 split at h
 ·rename_i h1;cases h;exact o1.ok _ _ _ h1
 ·split at h
  ·rename_i h2;cases h;exact o2.ok _ _ _ h2
  ·cases h⟩
def aB.p (f:FuncId) (md:List Bool) {A:Type} (p:PL B A) {R:Type} (sh:Nat->A->Option R) (o:Out B R) (ho:∀r,(o.enc r).2=⟨[],[]⟩):aB B:=
 ⟨f,A,R,md,λxs H=>match H with
   | ⟨[],[]⟩=>p.dec xs
   | _=>none,λa=>(p.enc a,⟨[],[]⟩),sh,o,true,false,λxs H a h=>(by
 split at h
 ·exact⟨p.ok _ _ h,dh.refl _⟩
 ·cases h),λ_=>⟨λ_=>rfl,ho⟩,λh=>(by cases h)⟩
def aB.s (f:FuncId) (md:List Bool) {A:Type} (p:PL B A) {R:Type} (sh:Nat->A->Option R) (o:Out B R) (ho:∀r,(o.enc r).2=⟨[],[]⟩/\((o.enc r).1.av B).lR=true):aB B:=
 ⟨f,A,R,md,λxs H=>match H with
   | ⟨[],[]⟩=>p.dec xs
   | _=>none,λa=>(p.enc a,⟨[],[]⟩),sh,o,true,true,λxs H a h=>(by
 split at h
 ·exact⟨p.ok _ _ h,dh.refl _⟩
 ·cases h),λ_=>⟨λ_=>rfl,λr=>(ho r).1⟩,λ_ r=>(ho r).2⟩
def aB.m (f:FuncId) (md:List Bool) {A1 A2 A3:Type} (p:PL B A1) (x:PX B A2) (u:PU B A3) {R:Type} (sh:Nat->A1×A2×A3->Option R) (o:Out B R):aB B:=
 ⟨f,A1×A2×A3,R,md,λxs H=>match p.dec xs,x.dec H.box,u.dec H.buf with
   | some a,some b,some c=>some (a,b,c)
   | _,_,_=>none,λa=>(p.enc a.1,⟨x.enc a.2.1,u.enc a.2.2⟩),sh,o,false,false,λxs H a h=>(by
 split at h
 ·rename_i h1 h2 h3
  cases h
  exact⟨p.ok _ _ h1,Ip (x.ok _ _ h2) (u.ok _ _ h3)⟩
 ·cases h),λh=>(by cases h),λh=>(by cases h)⟩
structure LQ (B:Tb T) (A:Type) where
 ks:List Nat
 em:List (Nat×Option Nat×Nat)
 live:List Nat
 dec:SE T->BH T->Option A
 enc:A->SE T×BH T
 key:∀a,(enc a).1.map (·.1)=ks
 ok:∀e H a,dec e H=some a->(∀i,LW ((lk e i).av B) ((lk (enc a).1 i).av B)\/lk (enc a).1 i=.raw .any)/\dh (H.av B) ((enc a).2.av B)
def LQ.m (em:List (Nat×Option Nat×Nat)) (live:List Nat) {A1 A2 A3:Type} (p:PE B A1) (x:PX B A2) (u:PU B A3):LQ B (A1×A2×A3):=
 ⟨p.ks,em,live,λe H=>match p.dec e,x.dec H.box,u.dec H.buf with
   | some a,some b,some c=>some (a,b,c)
   | _,_,_=>none,λa=>(p.enc a.1,⟨x.enc a.2.1,u.enc a.2.2⟩),λa=>p.key a.1,λe H a h=>by
 split at h
 ·rename_i h1 h2 h3
  cases h
  exact⟨p.ok _ _ h1,Ip (x.ok _ _ h2) (u.ok _ _ h3)⟩
 ·cases h⟩
def Lp.of {A R:Type} (q:LQ B A) (run:A->Option R):Lp B R:=⟨A,q.ks,q.em,q.live,q.dec,q.enc,run,q.key,q.ok⟩
end
end Go.Proofs.YtmfkphajohcklaaGreat.U
namespace Go.Proofs.YtmfkphajohcklaaGreat.U
open Go
def bI (k:IntKind) (a b:Int):Int:=k.wrap (BitVec.ofInt k.bits a &&& BitVec.ofInt k.bits b).toNat
def bE (k:IntKind) (a b:Int):Int:=k.wrap (BitVec.ofInt k.bits a ||| BitVec.ofInt k.bits b).toNat
def fA (k:IntKind) (a b:Int):Int:=k.wrap (BitVec.ofInt k.bits a ^^^ BitVec.ofInt k.bits b).toNat
def oC (k:IntKind) (a b:Int):Int:=k.wrap (BitVec.ofInt k.bits a &&& ~~~ BitVec.ofInt k.bits b).toNat
def bd (P:Program) (fn:Func):SC:=match fn.body with
 | some c=>match comp P false c with
   | some s=>s
   | none=>.bad
 | none=>.bad
def kq (P:Program) (fn:Func):List Rs:=match gq P fn.results.toList with
 | some l=>l
 | none=>[]
def isOk (P:Program) (fn:Func):Bool:=match fn.body with
 | some c=>(comp P false c).isSome&&(gq P fn.results.toList).isSome&&!(fn.name == "runtime.NumGoroutine")
 | none=>false
theorem Is.of {P:Program} {f:FuncId} {fn:Func} (hf:P.funcs[f]?=some fn) (h:isOk P fn=true):Is P f fn.ntmps (kq P fn) (bd P fn):=by
 unfold isOk at h;split at h
 ·rename_i c hc;simp only[Bool.and_eq_true,Bool.not_eq_true']at h;obtain⟨⟨h1,h2⟩,h3⟩:=h;obtain⟨s,h1⟩:=Option.isSome_iff_exists.1 h1;obtain⟨r,h2⟩:=Option.isSome_iff_exists.1 h2;exact Is.mk' fn c false hf hc (by simp only[bd,hc,h1]) (by simp only[kq,h2]) rfl h3
 ·cases h
def cH:SC->List SI->List (Nat×List SI)
 | .seq a b,k=>cH a (.c b::k)++cH b k
 | .cond _ a b,k=>cH a k++cH b k
 | .block i a,k=>cH a (.blk i::k)
 | .scope a,k=>cH a (.scp::k)
 | .loop b,k=>match k with
   | .blk i::_=>(i,.lp b::k)::cH b (.lp b::k)
   | _=>cH b (.lp b::k)
 | _,_=>[]
def iG:List (Nat×List SI)->Nat->List SI
 | [],_=>[]
 | (m,l)::r,n=>match Nat.beq m n with
   | true=>l
   | false=>iG r n
def j7 (ms:List Nat) (c:SC) (k:List SI) (r:List (Nat×List SI)):List (Nat×List SI):=match j6 ms c with
 | none=>r
 | some i=>(i,.c c::k)::r
def fp (ms:List Nat):SC->List SI->List (Nat×List SI)
 | .seq a b,k=>fp ms a (.c b::k)++fp ms b k
 | .cond x a b,k=>j7 ms (.cond x a b) k (fp ms a k++fp ms b k)
 | .block i a,k=>fp ms a (.blk i::k)
 | .scope a,k=>fp ms a (.scp::k)
 | .loop b,k=>fp ms b (.lp b::k)
 | .ops d l,k=>j7 ms (.ops d l) k []
 | _,_=>[]
def allL (ms:List Nat) (c:SC):List (Nat×List SI):=match ms with
 | []=>cH c []
 | _::_=>cH c []++fp ms c []
def fM (ms:List Nat) (c:SC) (id:Nat):List SI:=iG (allL ms c) id
def stk (ms:List Nat) (c:SC) (id:Nat):List SI:=match fM ms c id with
 | .lp b::k=>.c b::.lp b::k
 | l=>l
section
variable {T:Nat->Type} {B:Tb T}
def argN:Nat->List (BV T)->SE T
 | _,[]=>[]
 | n,x::l=>(n,x)::argN (n+1) l
def jd (l:List (BV T)):SE T:=argN 0 l
def aN {V R:Type} (f:(V->Option R)->V->Option R):Nat->V->Option R
 | 0,_=>none
 | n+1,v=>f (aN f n) v
def lF {R:Type} (f:Option R->Option R) (n:Nat):Option R:=aN (λnext (_:Unit)=>f (next ())) n ()
def bj {α0 R:Type} (f:(α0->Option R)->α0->Option R) (n:Nat) (u0:α0):Option R:=aN (λnext (v:α0)=>f (λu0=>next u0) v) n u0
def lp2 {α0 α1 R:Type} (f:(α0->α1->Option R)->α0->α1->Option R) (n:Nat) (u0:α0) (u1:α1):Option R:=aN (λnext (v:α0×α1)=>f (λu0 u1=>next (u0,u1)) v.1 v.2) n (u0,u1)
def ce {α0 α1 α2 R:Type} (f:(α0->α1->α2->Option R)->α0->α1->α2->Option R) (n:Nat) (u0:α0) (u1:α1) (u2:α2):Option R:=aN (λnext (v:α0×α1×α2)=>f (λu0 u1 u2=>next (u0,u1,u2)) v.1 v.2.1 v.2.2) n (u0,u1,u2)
def gR {α0 α1 α2 α3 R:Type} (f:(α0->α1->α2->α3->Option R)->α0->α1->α2->α3->Option R) (n:Nat) (u0:α0) (u1:α1) (u2:α2) (u3:α3):Option R:=aN (λnext (v:α0×α1×α2×α3)=>f (λu0 u1 u2 u3=>next (u0,u1,u2,u3)) v.1 v.2.1 v.2.2.1 v.2.2.2) n (u0,u1,u2,u3)
def o6 {α0 α1 α2 α3 α4 α5 R:Type} (f:(α0->α1->α2->α3->α4->α5->Option R)->α0->α1->α2->α3->α4->α5->Option R) (n:Nat) (u0:α0) (u1:α1) (u2:α2) (u3:α3) (u4:α4) (u5:α5):Option R:=aN (λnext (v:α0×α1×α2×α3×α4×α5)=>f (λu0 u1 u2 u3 u4 u5=>next (u0,u1,u2,u3,u4,u5)) v.1 v.2.1 v.2.2.1 v.2.2.2.1 v.2.2.2.2.1 v.2.2.2.2.2) n (u0,u1,u2,u3,u4,u5)
def vu {α0 α1 α2 α3 α4 α5 α6 α7 α8 α9 α10 α11 α12 α13 R:Type} (f:(α0->α1->α2->α3->α4->α5->α6->α7->α8->α9->α10->α11->α12->α13->Option R)->α0->α1->α2->α3->α4->α5->α6->α7->α8->α9->α10->α11->α12->α13->Option R) (n:Nat) (u0:α0) (u1:α1) (u2:α2) (u3:α3) (u4:α4) (u5:α5) (u6:α6) (u7:α7) (u8:α8) (u9:α9) (u10:α10) (u11:α11) (u12:α12) (u13:α13):Option R:=aN (λnext (v:α0×α1×α2×α3×α4×α5×α6×α7×α8×α9×α10×α11×α12×α13)=>f (λu0 u1 u2 u3 u4 u5 u6 u7 u8 u9 u10 u11 u12 u13=>next (u0,u1,u2,u3,u4,u5,u6,u7,u8,u9,u10,u11,u12,u13)) v.1 v.2.1 v.2.2.1 v.2.2.2.1 v.2.2.2.2.1 v.2.2.2.2.2.1 v.2.2.2.2.2.2.1 v.2.2.2.2.2.2.2.1 v.2.2.2.2.2.2.2.2.1 v.2.2.2.2.2.2.2.2.2.1 v.2.2.2.2.2.2.2.2.2.2.1 v.2.2.2.2.2.2.2.2.2.2.2.1 v.2.2.2.2.2.2.2.2.2.2.2.2.1 v.2.2.2.2.2.2.2.2.2.2.2.2.2) n (u0,u1,u2,u3,u4,u5,u6,u7,u8,u9,u10,u11,u12,u13)
theorem bi {α X:Type} {d:BV T->Option α} {f:α->List (BV T)->Option X} {cs:List (BV T)} {x:X} (h:P1 d f cs=some x):∃c r a,cs=c::r/\d c=some a/\f a r=some x:=by
 cases cs with
 | nil=>cases h
 | cons c r=>
   obtain⟨a,h1,h2⟩:=Option.bind_eq_some_iff.1 h;exact⟨c,r,a,rfl,h1,h2⟩
theorem dM {X:Type} {y x:X} {cs:List (BV T)} (h:P0 y cs=some x):cs=[]/\x=y:=by
 cases cs with
 | nil=>cases h;exact⟨rfl,rfl⟩
 | cons c r=>cases h
theorem cA {k:IntKind} {x:BV T} {n:Int} (h:asInt k x=some n):LW (x.av B) (.v (.int k n)):=by rw[Hl h];exact .refl _
theorem nV {x:BV T} {b:Bool} (h:asBool x=some b):LW (x.av B) (.v (.bool b)):=by rw[G6 h];exact .refl _
theorem iR {x:BV T} {s:List UInt8} (h:fy x=some s):LW (x.av B) (.v (.string (bs s))):=by rw[Hm h];exact .refl _
def PL.o {A:Type} (p:bD B A):PL B A:=⟨λx=>match x with
 | [y]=>p.dec y
 | _=>none,λa=>[p.enc a],λx a h=>by
 split at h
 ·simp only[BV.an];exact .cons (p.ok _ _ h) .nil
 ·cases h⟩
def LQ.re {A A':Type} (q:LQ B A) (to:A->A') (of:A'->A) (h:∀a,of (to a)=a):LQ B A':=
 ⟨q.ks,q.em,q.live,λe H=>match q.dec e H with
   | some a=>some (to a)
   | none=>none,λa=>q.enc (of a),λa=>q.key (of a),λe H a h0=>by
 split at h0
 ·rename_i h1;cases h0;rw[h];exact q.ok _ _ _ h1
 ·cases h0⟩
def aB.clone (f:FuncId) (i:Nat) (sh:Nat->List (T i)->Option (List (T i))):aB B:=.m f [true] (.o (.r i)) .n .n (λN a=>sh N a.1) (.m (.own 0) .n (.l i .n) (λz=>z.2.2.1) (λr=>((),(),r,())) (λ_=>rfl))
def aB.Bh (f:FuncId) (i:Nat) (sh:Nat->List (T i)->Option (List (T i))):aB B:=.p f [true] (.o (.r i)) (λN a=>sh N a) (.p (.r i)) (λ_=>rfl)
end
end Go.Proofs.YtmfkphajohcklaaGreat.U
namespace Go.Proofs.YtmfkphajohcklaaGreat.U
open Go
section
variable {T:Nat->Type} {B:Tb T}
theorem afP (s:ByteArray):bs s.data.toList=s:=by simp[bs]
theorem HK (x:AV):(fU x:BV T).av B=x:=by
 cases x with
 | v y=>cases y<;>simp only[fU,BV.av,afP]
 | _=>simp only[fU,BV.av]
theorem tD (l:List AV):BV.an B (l.map (fU (T:=T)))=l:=by
 rw[db,List.map_map];exact(List.map_congr_left λx _=>HK x).trans (List.map_id _)
theorem Rq (x:AV):(cbv x:BV T).av B=x:=by
 unfold cbv;split
 ·simp only[BV.av,tD]
 ·simp only[BV.av,BV.an]
 ·exact HK _
structure bN (B:Tb T) (e:SE T) (t:List AV) (ns:Nat):Prop where
 len:t.length=ns
 get:∀i,t.getD i .any=(lk e i).av B
theorem bN.od {e:SE T} {t ns} (h:bN B e t ns) (x:Od):od t x=(aR e x).av B:=by
 cases x with
 | t n=>exact h.get n
 | c x=>exact(Rq x).symm
theorem bN.nk {e:SE T} {t ns} (h:bN B e t ns) (l:List Od):l.map (Go.Proofs.YtmfkphajohcklaaGreat.U.od t)=BV.an B (l.map (aR e)):=by
 rw[db,List.map_map];exact List.map_congr_left λx _=>h.od x
theorem bN.put {e:SE T} {t ns} (h:bN B e t ns) {d:Option Nat} (hd:okD ns d=true) (v:BV T):bN B (aP e d v) (a9 t d (v.av B)) ns:=by
 cases d with
 | none=>exact h
 | some d=>
   have hd:d<ns:=by simpa[okD]using hd
   refine⟨by simp[a9,h.len],λi=>?_⟩;simp only[aP,a9,n8];by_cases hi:d=i
   ·subst hi;rw[if_pos rfl,eK (by rw[h.len];exact hd)]
   ·rw[if_neg hi,getD_set_ne' hi];exact h.get i
theorem cC (l:List (BV T)):(BV.an B l).length=l.length:=by rw[db];simp
theorem n6 (l:List (BV T)) (i:Nat):(BV.an B l).getD i .any=(l.getD i (.raw .any)).av B:=by
 rw[db];simp only[List.getD,List.getElem?_map];cases l[i]? with
 | none=>simp[BV.av]
 | some x=>rfl
theorem iP (l m:List (BV T)):BV.an B (l++m)=BV.an B l++BV.an B m:=by simp[db]
theorem nX (l:List (BV T)) (n:Nat):BV.an B (l.take n)=(BV.an B l).take n:=by simp[db,List.map_take]
theorem kK (l:List (BV T)) (n:Nat):BV.an B (l.drop n)=(BV.an B l).drop n:=by simp[db,List.map_drop]
theorem HJ (l:List (BV T)) (n:Nat) (x:BV T):BV.an B (l.set n x)=(BV.an B l).set n (x.av B):=by simp[db,List.map_set]
theorem ahK (l:List AV):BV.an B (l.map (BV.raw (T:=T)))=l:=by
 rw[db,List.map_map];exact(List.map_congr_left λx _=>by simp only[Function.comp,BV.av];rfl).trans (List.map_id _)
theorem jH (x:BV T):BV.an B x.cells=(x.av B).cells:=by
 cases x with
 | raw x=>
   cases x with
   | agg cs=>simp only[BV.cells,BV.av,AV.cells,ahK]
   | _=>simp only[BV.cells,BV.av,AV.cells,BV.an]
 | agg cs=>simp only[BV.cells,BV.av,AV.cells]
 | _=>simp only[BV.cells,BV.av,AV.cells,BV.an]
theorem tx (x:BV T):(x.av B).cells.length=x.cells.length:=by rw[<- jH,cC]
theorem aiZ (x:BV T):(x.av B).one=x.one:=by
 cases x<;>simp only[BV.av,BV.one]<;>rfl
theorem mq (l:List (BV T)):ones (BV.an B l)=jw l:=by
 induction l with
 | nil=>rfl
 | cons x l ih=>simp only[BV.an,ones,jw,List.all_cons,aiZ]at ih ⊢;rw[ih]
theorem lH (ag:Bool) (cs:List (BV T)):(fI ag cs).av B=mk ag (BV.an B cs):=by
 cases ag with
 | true=>simp only[fI,mk,BV.av,if_true]
 | false=>
   simp only[fI,mk,Bool.false_eq_true,if_false];cases cs with
   | nil=>simp[BV.av,BV.an]
   | cons x l=>simp[BV.an]
theorem tX:∀(xs cs:List (BV T)) (o:Nat),BV.an B (kp cs o xs)=putCells (BV.an B cs) o (BV.an B xs)
 | [],cs,o=>by simp[kp,putCells,BV.an]
 | x::xs,cs,o=>by simp only[kp,BV.an,putCells];rw[tX xs,HJ]
theorem QR {e:SE T} {t ns} (h:bN B e t ns):∀(ps:List (Nat×Nat×Od)) (cs r:List (BV T)),qP e cs ps=some r->mQ t (BV.an B cs) ps=some (BV.an B r)
 | [],cs,r,hf=>by simp only[qP,Option.some.injEq]at hf;subst hf;rfl
 | (o,n,x)::ps,cs,r,hf=>by
   simp only[qP]at hf;split at hf
   ·rename_i hc;simp only[Bool.and_eq_true,Nat.beq_eq,Nat.ble_eq]at hc;simp only[mQ,h.od,tx,<- jH,mq,cC];rw[if_pos ⟨hc.1.1,hc.1.2,hc.2⟩,<- tX];exact QR h ps _ _ hf
   ·cases hf
theorem qf (H:BH T) (b:Nat):(H.av B).box.getD b []=BV.an B (H.box.getD b []):=by
 simp only[BH.av,List.getD,List.getElem?_map];cases H.box[b]? with
 | none=>simp[BV.an]
 | some x=>rfl
theorem pW {H:BH T} {b:Nat} {cs:List (BV T)} (h:H.box[b]?=some cs):(H.av B).box.getD b []=BV.an B cs:=by
 rw[qf];simp[List.getD,h]
theorem dA (H:BH T) (t:Nat):(H.av B).buf.getD t .dead=(cR H t).av B:=by
 simp only[BH.av,cR,List.getD,List.getElem?_map];cases H.buf[t]? with
 | none=>rfl
 | some x=>rfl
theorem n7 (H:BH T):(H.av B).box.length=H.box.length:=by simp[BH.av]
theorem gp' (H:BH T):(H.av B).buf.length=H.buf.length:=by simp[BH.av]
theorem aha (b:BB T):(uL b).av B=mT (b.av B):=by cases b<;>rfl
theorem iS (H:BH T) (ts:List Nat):(fH H ts).av B=bC (H.av B) ts:=by
 have key:∀(ts:List Nat) (buf:List (BB T)),(ts.foldl (λbuf t=>buf.set t (uL (buf.getD t .dead))) buf).map (BB.av B)=ts.foldl dt (buf.map (BB.av B)):=by
  intro ts
  induction ts with
  | nil=>intro buf;rfl
  | cons x ts ih=>
    intro buf;simp only[List.foldl_cons];rw[ih];congr 1;have e:(buf.map (BB.av B)).getD x .dead=(buf.getD x .dead).av B:=by
     simp only[List.getD,List.getElem?_map];cases buf[x]?<;>rfl
    simp only[dt,e,List.map_set,aha]
 simp only[fH,bC,BH.av,key]
theorem ah5 (x:BV T):rq x=vB (x.av B):=by
 cases x<;>simp only[rq,BV.av]<;>rfl
theorem ah6 (x:BV T):eR x=owns (x.av B):=by
 cases x with
 | agg cs=>
   simp only[eR,BV.av,owns,db]
   induction cs with
   | nil=>rfl
   | cons y l ih=>simp only[List.flatMap_cons,List.map_cons,ah5 (B:=B) y,ih]
 | raw x=>simp only[eR,BV.av]
 | _=>simp only[eR,BV.av,owns,rq]<;>rfl
theorem QV (H:BH T) (x:BV T):(mS B H x).av B=gO (H.av B) (x.av B):=by
 cases x with
 | own t=>
   simp only[mS,BV.av,gO,dA];cases cR H t<;>simp only[BB.av,qQ,BV.av]
 | raw x=>simp only[mS,BV.av]
 | _=>simp only[mS,BV.av]<;>rfl
theorem Ii (H:BH T) (x:BV T):(iA' B H x).av B=cj (H.av B) (x.av B):=by
 cases x with
 | agg cs=>
   simp only[iA',BV.av,cj,db,List.map_map];congr 1;exact List.map_congr_left λy _=>QV H y
 | raw x=>simp only[iA',BV.av]
 | own t=>simp only[iA',cj,BV.av];rw[QV];simp only[BV.av]
 | _=>simp only[iA',cj,BV.av,mS]<;>rfl
theorem LW.dat {x y:AV} (h:LW x y):x.dat=y.dat:=by cases h<;>rfl
theorem aF.IV:∀ {a b:List AV},aF a b->a.all AV.dat=b.all AV.dat
 | _,_,.nil=>rfl
 | _,_,.cons h r=>by simp only[List.all_cons,h.dat,aF.IV r]
variable (hB:B.Ok)
include hB
theorem ajw {i:Nat} {x:BV T} {a:T i} (hx:Bool.xor (oT x) (B.ag i)=false) (h:B.dec i x.cells=some a):LW (x.av B) (B.eA i a):=by
 have hc:=hB.dec i _ _ h;rw[jH]at hc;cases hg:B.ag i with
 | true=>
   rw[hg]at hx;rw[hB.ag i a hg];cases x with
   | agg cs=>exact .agg hc
   | raw x=>
     cases x with
     | agg cs=>exact .agg hc
     | _=>simp[oT]at hx
   | _=>simp[oT]at hx
 | false=>
   rw[hg]at hx;rw[hB.sg i a hg]at hc;have e:(x.av B).cells=[x.av B]:=by
    cases x with
    | agg cs=>simp[oT]at hx
    | raw x=>
      cases x with
      | agg cs=>simp[oT]at hx
      | _=>simp only[BV.av,AV.cells]
    | _=>simp only[BV.av,AV.cells]
   rw[e]at hc;cases hc with
   | cons h _=>exact h
theorem HQ {i:Nat}:∀ {xs:List (BV T)} {l:List (T i)},qI B i xs=some l->aF (BV.an B xs) (l.map (B.eA i))
 | [],l,h=>by cases h;exact .nil
 | x::xs,l,h=>by
   simp only[qI]at h;split at h
   ·rename_i hx ha hl;cases h;exact .cons (ajw hB hx ha) (HQ hl)
   ·cases h
theorem afx {i:Nat} {x:AV} {a:T i} (h:LW x (B.eA i a)):Cs (B.k i) x:=by
 have hc:=h.cells;refine⟨?_,?_,?_⟩
 ·rw[hc.len,<- hB.enc,cC,hB.len]
 ·rw[hc.ones];exact hB.one i a
 ·have:=hB.dat i a;simp only[AV.data]at this ⊢;rw[hc.IV];exact this
theorem GT {i:Nat}:∀ {xs:List AV} {l:List (T i)},aF xs (l.map (B.eA i))->lM (B.k i) xs
 | [],_,_=>trivial
 | x::xs,[],h=>by cases h
 | x::xs,a::l,h=>by
   cases h with
   | cons h r=>exact⟨afx hB h,GT r⟩
end
theorem OS.lw {P:Program} {o:SO} {t:List AV} {H H' H'':AH} {r r':AV} (h:OS P o t H (.ret r) H') (hr:LW r r') (hH:dh H' H''):OS P o t H (.ret r') H'':=by
 intro wr oc hc M S w a hx hh hp K Q hK;exact h wr oc hc M S w a hx hh hp K Q λM' S' v w' h1 h2 h3=>hK M' S' v w' (h1.lw hH) (h2.Cm hH) (hr.rep h3)
end Go.Proofs.YtmfkphajohcklaaGreat.U
namespace Go.Proofs.YtmfkphajohcklaaGreat.U
open Go
section
variable {T:Nat->Type} {B:Tb T} {R:Type}
def bk (B:Tb T) (P:Program) (dr:Bool) (t:List AV) (H:BH T) (d:Option Nat) (o:SO) (ns:Nat) (K:SE T->BH T->Option R) (r:R):Prop:=∃v H1 e' H',ES P dr o t (H.av B) v H1/\bN B e' (a9 t d v) ns/\H1=H'.av B/\K e' H'=some r
variable {P:Program} {dr:Bool} {e:SE T} {t:List AV} {ns:Nat} {H:BH T} {d:Option Nat} {K:SE T->BH T->Option R} {r:R}
theorem RB {P:Program} {o:SO} {t:List AV} {H H':AH} {r r':AV} (h:OS P o t H (.ret r) H') (hl:∀M S w v,am M S w v r->am M S w v r'):OS P o t H (.ret r') H':=
 λwr oc hc M S w a hx hh hp K Q hk=>h wr oc hc M S w a hx hh hp K Q λM' S' v w' h1 h2 h3=>hk M' S' v w' h1 h2 (hl _ _ _ _ h3)
theorem bk.aM {o:SO} (hr:bN B e t ns) (hd:okD ns d=true) {v:BV T} {H':BH T} (h:aM (λt' H1=>t'=a9 t d (v.av B)/\H1=H'.av B) dr t (H.av B) d o) (hK:K (aP e d v) H'=some r):bk B P dr t H d o ns K r:=by
 obtain⟨r1,H1,es,ht,hH⟩:=In (P:=P) h;exact⟨r1,H1,aP e d v,H',es,by rw[ht];exact hr.put hd v,hH,hK⟩
theorem bW {p:Bool} {x:Option R} (h:gd p x=some r):p=true/\x=some r:=by
 cases p with
 | true=>exact⟨rfl,h⟩
 | false=>cases h
theorem g6 (a b:Int):leB a b=decide (a<=b):=by
 rw[Bool.eq_iff_iff,decide_eq_true_iff];cases a<;>cases b<;>simp only[leB,Nat.ble_eq,Bool.false_eq_true,false_iff,true_iff,Int.ofNat_eq_natCast]<;>omega
theorem fS (a b:Int):aj a b=decide (a<b):=by
 simp only[aj,g6];rw[Bool.eq_iff_iff];simp
theorem Ap (n:Int):ae n=true↔oR n:=by
 simp only[ae,g6,Bool.and_eq_true,decide_eq_true_iff,oR]
theorem a8 {a b:Int}:leB a b=true↔a<=b:=by rw[g6];simp
theorem ajp {op:BinOp} {wr:Bool} {k:IntKind} {a b:Int} {K:BV T->Option R} (h:qy op wr k a b K=some r):
 ∃v p,(if op=.shl\/op=.shr then rz op k a b else iv op wr k a b)=some (p,BV.av B v)/\p/\K v=some r:=by
 cases op with
 | add=>
   simp only[qy]at h;split at h
   ·obtain⟨h1,h2⟩:=bW h;exact⟨_,_,by simp[iv,BV.av],(Ap _).1 h1,h2⟩
   ·rename_i hn;refine⟨_,True,?_,trivial,h⟩;simp only[iv,BV.av];simp only[reduceCtorEq,or_self,if_false];rw[if_neg (by rintro⟨rfl,rfl⟩;exact hn rfl rfl)]
 | sub=>
   simp only[qy]at h;split at h
   ·obtain⟨h1,h2⟩:=bW h;exact⟨_,_,by simp[iv,BV.av],(Ap _).1 h1,h2⟩
   ·rename_i hn;refine⟨_,True,?_,trivial,h⟩;simp only[iv,BV.av];simp only[reduceCtorEq,or_self,if_false];rw[if_neg (by rintro⟨rfl,rfl⟩;exact hn rfl rfl)]
 | mul=>
   simp only[qy]at h;split at h
   ·obtain⟨h1,h2⟩:=bW h;exact⟨_,_,by simp[iv,BV.av],(Ap _).1 h1,h2⟩
   ·rename_i hn;refine⟨_,True,?_,trivial,h⟩;simp only[iv,BV.av];simp only[reduceCtorEq,or_self,if_false];rw[if_neg (by rintro⟨rfl,rfl⟩;exact hn rfl rfl)]
 | quo=>obtain⟨h1,h2⟩:=bW h;exact⟨_,_,by simp[iv,BV.av];rfl,by simpa using h1,h2⟩
 | rem=>obtain⟨h1,h2⟩:=bW h;exact⟨_,_,by simp[iv,BV.av];rfl,by simpa using h1,h2⟩
 | shl=>obtain⟨h1,h2⟩:=bW h;exact⟨_,_,by simp[rz,BV.av],a8.1 h1,h2⟩
 | shr=>obtain⟨h1,h2⟩:=bW h;exact⟨_,_,by simp[rz,BV.av],a8.1 h1,h2⟩
 | lss=>exact⟨_,True,by simp only[BV.av,fS];rfl,trivial,h⟩
 | leq=>exact⟨_,True,by simp only[BV.av,g6];rfl,trivial,h⟩
 | gtr=>exact⟨_,True,by simp only[BV.av,fS];rfl,trivial,h⟩
 | geq=>exact⟨_,True,by simp only[BV.av,g6];rfl,trivial,h⟩
 | _=>exact⟨_,True,by simp only[BV.av];rfl,trivial,h⟩
theorem ajq {op:BinOp} {x y:List UInt8} {K:BV T->Option R} (h:II op x y K=some r):
 ∃v p,kV op x y=some (p,BV.av B v)/\p/\K v=some r:=by
 cases op with
 | add=>
   obtain⟨h1,h2⟩:=bW h;refine⟨_,_,by simp only[kV,BV.av];rfl,?_,h2⟩;have:=Nat.le_of_ble_eq_true h1;omega
 | eql=>exact⟨_,True,by simp only[BV.av];rfl,trivial,h⟩
 | neq=>exact⟨_,True,by simp only[BV.av];rfl,trivial,h⟩
 | lss=>exact⟨_,True,by simp only[BV.av];rfl,trivial,h⟩
 | leq=>exact⟨_,True,by simp only[BV.av];rfl,trivial,h⟩
 | gtr=>exact⟨_,True,by simp only[BV.av];rfl,trivial,h⟩
 | geq=>exact⟨_,True,by simp only[BV.av];rfl,trivial,h⟩
 | _=>cases h
theorem nW (s:List UInt8):(bs s).data.toList=s:=by simp[bs]
theorem ajr {op:BinOp} {wr:Bool} {x y:BV T} {K:BV T->Option R} (h:kV' op wr x y K=some r):
 ∃v p,oA op wr (x.av B) (y.av B)=some (p,BV.av B v)/\p/\K v=some r:=by
 unfold kV' at h;split at h
 ·rename_i k a k' b;split at h
  ·rename_i hk;obtain⟨v,p,h1,h2,h3⟩:=ajp (B:=B) h;refine⟨v,p,?_,h2,h3⟩;simp only[BV.av,oA];rw[<- h1];by_cases hs:op=.shl\/op=.shr
   ·rw[if_pos hs,if_pos hs]
   ·rw[if_neg hs,if_neg hs];have hns:B5 op=false:=by cases op<;>simp_all [B5]
    rw[hns,Bool.false_or,decide_eq_true_iff]at hk;rw[if_pos hk]
  ·cases h
 ·obtain⟨v,p,h1,h2,h3⟩:=ajq (B:=B) h;exact⟨v,p,by simp only[BV.av,oA,nW];exact h1,h2,h3⟩
 ·cases h
theorem iU (ne b:Bool):fY ne b=cL ne b:=by cases ne<;>rfl
theorem Rg {k:EK} {x y:BV T} {b:Bool} (h:uG k x y=some b):eq1 k (x.av B) (y.av B)=some b:=by
 unfold uG at h;split at h
 ·simp only[BV.av,eq1];exact h
 ·simp only[BV.av,eq1,nW];exact h
 ·simp only[BV.av,eq1];exact h
 ·cases h
theorem HX {xs ys:List (BV T)}:∀ {l:List (Nat×EK)} {b:Bool},oK l xs ys=some b->eO l (BV.an B xs) (BV.an B ys)=some b
 | [],b,h=>h
 | [(o,k)],b,h=>by
   simp only[oK]at h;have:=Rg (B:=B) h;simp only[eO,n6,this,Bool.and_true]
 | (o,k)::p::l,b,h=>by
   simp only[oK]at h;split at h
   ·rename_i b1 b2 h1 h2;cases h;have q1:=Rg (B:=B) h1;have q2:=HX (l:=p::l) h2;rw[eO,n6,n6,q1,q2]
   ·cases h
end
end Go.Proofs.YtmfkphajohcklaaGreat.U
namespace Go.Proofs.YtmfkphajohcklaaGreat.U
open Go
structure Hint.Ok {T:Nat->Type} (B:Tb T) (h:Hint T):Prop where
 sb:∀k f s,h.sb k=some f->k=1/\B.k (f s).1=1/\(f s).2.map (B.eA (f s).1)=s.map gK
 bo:∀i l s,h.bo i l=some s->B.k i=1/\∃m:List Int,l.map (B.eA i)=m.map jB/\s=jf m
section
variable {T:Nat->Type} {B:Tb T} {R:Type}
variable {P:Program} {dr:Bool} {e:SE T} {t:List AV} {ns:Nat} {H:BH T} {d:Option Nat} {K:SE T->BH T->Option R} {r:R}
theorem eB {Rk:List AV->AH->Prop} {x:Option (Prop×AV)} {p:Prop} {v:AV} (h:x=some (p,v)) (hp:p) (hR:Rk (a9 t d v) (H.av B)):kO Rk t (H.av B) d x:=by
 rw[h];exact⟨hp,hR⟩
theorem beq_eq {a b:Nat} (h:Nat.beq a b=true):a=b:=Nat.eq_of_beq_eq_true h
theorem jL {α:Type} {l:List α} {n:Int} {x:α} (h:ix l n=some x):0<=n/\n<(l.length:Int)/\l[n.toNat]?=some x:=by
 obtain⟨h1,h2,_,h3⟩:=aiy h;exact⟨h1,h2,h3⟩
theorem aiR {st:Bool} {x v:BV T} (h:gA' H st x=some v):lenV (H.av B) st (x.av B)=some (True,v.av B):=by
 unfold gA' at h;split at h
 ·split at h
  ·cases h;simp only[BV.av,lenV,nW,if_true]
  ·cases h
 ·split at h
  ·cases h
  ·cases h;simp[BV.av,lenV]
 ·split at h
  ·cases h
  ·cases h;simp[BV.av,lenV]
 ·split at h
  ·rename_i hb;cases h;simp only[BV.av,lenV,dA,hb,BB.av,gA];simp
  ·rename_i hb;cases h;simp only[BV.av,lenV,dA,hb,BB.av,gA];simp
  ·cases h
 ·cases h
theorem ajz {ne c:Bool} {x y v:BV T} (h:BK ne c x y=some v):mP ne c (x.av B) (y.av B)=some (True,v.av B):=by
 unfold BK at h;split at h
 ·split at h
  ·cases h;simp[BV.av,mP,iU]
  ·cases h
 ·cases h;simp[BV.av,mP,iU]
 ·cases h;simp[BV.av,mP,iU]
 ·cases h
theorem aiM {ne:Bool} {x y v:BV T} (h:BL ne x y=some v):jX ne (x.av B) (y.av B)=some (True,v.av B):=by
 unfold BL at h;split at h
 ·cases h;simp[BV.av,jX,iU]
 ·cases h;simp[BV.av,jX,iU]
 ·cases h;simp[BV.av,jX,iU]
 ·cases h;simp[BV.av,jX,iU]
 ·split at h
  ·rename_i hc;simp only[Bool.and_eq_true]at hc;have h1:=beq_eq hc.1;have h2:=beq_eq hc.2;cases h;simp[BV.av,jX,iU,h1,h2]
  ·cases h
 ·cases h
theorem Qp (hr:bN B e t ns) {x:Option Od} {a:Option Int} (h:ur e x=some a) (n:Int):bnd t n x=some (a.getD n):=by
 cases x with
 | none=>cases h;rfl
 | some y=>
   simp only[ur]at h;split at h
   ·rename_i k m hm;cases h;simp only[bnd,hr.od,hm,BV.av,Option.getD]
   ·cases h
theorem tV {α:Type} {l:List α} {lo hi:Option Int} {x:Option R} (h:mG lo hi (l.length:Int) x=some r):
 0<=lo.getD 0/\lo.getD 0<=hi.getD (l.length:Int)/\hi.getD (l.length:Int)<=(l.length:Int)/\gv l lo hi=(l.take (hi.getD (l.length:Int)).toNat).drop (lo.getD 0).toNat/\x=some r:=by
 unfold mG at h;cases lo with
 | none=>
   cases hi with
   | none=>exact⟨by simp,by simp,by simp,by simp[gv],h⟩
   | some b=>
     obtain⟨h1,h⟩:=bW h;obtain⟨h2,h⟩:=bW h;exact⟨by simp,a8.1 h1,a8.1 h2,by simp[gv],h⟩
 | some a=>
   cases hi with
   | none=>
     obtain⟨h1,h⟩:=bW h;obtain⟨h2,h⟩:=bW h;exact⟨a8.1 h1,a8.1 h2,by simp,by simp[gv],h⟩
   | some b=>
     obtain⟨h1,h⟩:=bW h;obtain⟨h2,h⟩:=bW h;obtain⟨h3,h⟩:=bW h;exact⟨a8.1 h1,a8.1 h2,a8.1 h3,by simp[gv],h⟩
variable (hB:B.Ok)
include hB
theorem ajL (hr:bN B e t ns) (hd:okD ns d=true) {st:Bool} {k:Nat} {x:Od} {lo hi mx:Option Od} (h:CE B e H dr st k (aR e x) lo hi mx (λv H=>K (aP e d v) H)=some r):bk B P dr t H d (.slc st k x lo hi mx) ns K r:=by
 unfold CE at h;split at h
 ·rename_i m;split at h
  ·rename_i kz i l hx;split at h
   ·rename_i h1 h2;refine bk.aM (v:=.emp) hr hd ?_ h;simp only[aM,j8,hr.od,hx,BV.av];refine eB (p:=True) ?_ trivial ⟨rfl,rfl⟩;have b1:bnd t 0 lo=some 0:=by
     cases lo with
     | none=>rfl
     | some y=>simp only[je]at h1;split at h1<;>simp_all [bnd,hr.od,BV.av]
    have b2:bnd t 1 hi=some 0:=by
     cases hi with
     | none=>simp[je]at h2
     | some y=>simp only[je]at h2;split at h2<;>simp_all [bnd,hr.od,BV.av]
    simp[fL,b1,b2,BV.av]
   ·cases h
  ·rename_i kz hx;split at h
   ·rename_i h1 h2;refine bk.aM (v:=.emp) hr hd ?_ h;simp only[aM,j8,hr.od,hx,BV.av];refine eB (p:=True) ?_ trivial ⟨rfl,rfl⟩;have b1:bnd t 0 lo=some 0:=by
     cases lo with
     | none=>rfl
     | some y=>simp only[je]at h1;split at h1<;>simp_all [bnd,hr.od,BV.av]
    have b2:bnd t 1 hi=some 0:=by
     cases hi with
     | none=>simp[je]at h2
     | some y=>simp only[je]at h2;split at h2<;>simp_all [bnd,hr.od,BV.av]
    simp[fL,b1,b2,BV.av]
   ·cases h
  ·cases h
 ·split at h
  ·rename_i a b ha hb;have b1:=Qp hr ha 0;have b2:=λn=>Qp hr hb n;split at h
   ·rename_i s hx;split at h
    ·obtain⟨c1,c2,c3,c4,h⟩:=tV h;refine bk.aM (v:=.str (gv s a b)) hr hd ?_ h;simp only[aM,j8,hr.od,hx,BV.av];refine eB (p:=0<=a.getD 0/\a.getD 0<=b.getD (s.length:Int)/\b.getD (s.length:Int)<=(s.length:Int)) ?_ ⟨c1,c2,c3⟩ ⟨rfl,rfl⟩;simp only[fL,b1,lenV,nW,if_true,b2,kr,BV.av,c4]
    ·cases h
   ·rename_i i l hx;split at h
    ·rename_i hk;simp only[Bool.and_eq_true,Bool.not_eq_true']at hk;obtain⟨rfl,hk⟩:=hk;have hk:=beq_eq hk;obtain⟨c1,c2,c3,c4,h⟩:=tV h;refine bk.aM (v:=.sl i (gv l a b)) hr hd ?_ h;simp only[aM,j8,hr.od,hx,BV.av];refine eB (p:=0<=a.getD 0/\a.getD 0<=b.getD (l.length:Int)/\b.getD (l.length:Int)<=(l.length:Int)) ?_ ⟨c1,c2,c3⟩ ⟨rfl,rfl⟩;simp only[fL,b1,lenV,Bool.false_eq_true,if_false,b2,kr,hk,if_true,nB,List.length_map,BV.av,c4,List.map_drop,List.map_take]
    ·cases h
   ·rename_i hx;split at h
    ·cases h
    ·obtain⟨c1,c2,c3,c4,h⟩:=tV (l:=([]:List Nat)) h;refine bk.aM (v:=.emp) hr hd ?_ h;simp only[aM,j8,hr.od,hx,BV.av];simp only[List.length_nil,Int.natCast_zero]at c2 c3;have c3:b.getD 0<=0:=by simpa using c3
     have c2:a.getD 0<=b.getD 0:=by simpa using c2
     refine eB (p:=_) ?_ (show a.getD 0=0/\b.getD 0=0 from⟨by omega,by omega⟩) ⟨rfl,rfl⟩;simp[fL,b1,b2,lenV,kr,BV.av]
   ·rename_i u hx;split at h
    ·rename_i i l hbu;split at h
     ·rename_i hk;simp only[Bool.and_eq_true,Bool.not_eq_true']at hk;obtain⟨rfl,hk⟩:=hk;have hk:=beq_eq hk;obtain⟨c1,c2,c3,c4,h⟩:=tV h;refine bk.aM (v:=.sl i (gv l a b)) hr hd ?_ h;simp only[aM,j8,hr.od,hx,BV.av,dA,hbu,BB.av,vf];refine eB (p:=0<=a.getD 0/\a.getD 0<=b.getD (l.length:Int)/\b.getD (l.length:Int)<=(l.length:Int)) ?_ ⟨c1,c2,c3⟩ ⟨rfl,rfl⟩;simp only[fL,b1,lenV,dA,hbu,BB.av,gA,Bool.false_eq_true,if_false,b2,kr,vQ,hk,if_true,nB,List.length_map,BV.av,c4,List.map_drop,List.map_take]
     ·cases h
    ·rename_i i l hbu;split at h
     ·rename_i hk;simp only[Bool.and_eq_true,Bool.not_eq_true']at hk;obtain⟨⟨rfl,hk⟩,rfl⟩:=hk;have hk:=beq_eq hk;obtain⟨c1,c2,c3,c4,h⟩:=tV h;refine bk.aM (v:=.sl i (gv l a b)) hr hd ?_ h;have hfz:(bC (H.av B) [u]).buf.getD u .dead=.bf (B.k i) (l.map (B.eA i)):=by
       rw[<- iS,dA];have hlt:u<H.buf.length:=by
        rcases Nat.lt_or_ge u H.buf.length with h'|h'
        ·exact h'
        ·simp[cR,List.getD,List.getElem?_eq_none h']at hbu
       have:cR (fH H [u]) u=.bf i l:=by
        simp only[cR]at hbu;simp only[cR,fH,List.foldl_cons,List.foldl_nil,eK hlt,hbu,uL]
       rw[this];rfl
      simp only[aM,j8,hr.od,hx,BV.av,dA,hbu,BB.av,vf];refine⟨(by first|rfl|trivial),?_⟩;have e1:fL t (bC (H.av B) [u]) false k (.own u) lo hi none=some (0<=a.getD 0/\a.getD 0<=b.getD (l.length:Int)/\b.getD (l.length:Int)<=(l.length:Int),(BV.sl i (gv l a b):BV T).av B):=by
       simp only[fL,b1,lenV,hfz,gA,Bool.false_eq_true,if_false,b2,kr,vQ,hk,if_true,nB,List.length_map,BV.av,c4,List.map_drop,List.map_take]
      rw[e1];exact⟨⟨c1,c2,c3⟩,rfl,by rw[iS]⟩
     ·cases h
    ·cases h
   ·cases h
  ·cases h
end
mutual
theorem LW.trans:∀ {x y z:AV},LW x y->LW y z->LW x z
 | _,_,_,.refl _,h=>h
 | _,_,_,.emp k,h=>by
   cases h with
   | refl=>exact .emp k
   | sl _ q=>cases q;exact .emp k
 | _,_,_,.sl k a,h=>by
   cases h with
   | refl=>exact .sl k a
   | sl _ q=>exact .sl k (aF.trans a q)
 | _,_,_,.agg a,h=>by
   cases h with
   | refl=>exact .agg a
   | agg q=>exact .agg (aF.trans a q)
 | _,_,_,.aL a,h=>by
   cases h with
   | refl=>exact .aL a
   | aL q=>exact .aL (aF.trans a q)
 | _,_,_,.aZ a,h=>by
   cases h with
   | refl=>exact .aZ a
   | aZ q=>exact .aZ (aF.trans a q)
 | _,_,_,.fn f a b,h=>by
   cases h with
   | refl=>exact .fn f a b
   | fn _ q q'=>exact .fn f (aF.trans a q) (aF.trans b q')
 | _,_,_,.aG t a,h=>by
   cases h with
   | refl=>exact .aG t a
   | aG _ q=>exact .aG t (LW.trans a q)
theorem aF.trans:∀ {a b c:List AV},aF a b->aF b c->aF a c
 | _,_,_,.nil,h=>h
 | _,_,_,.cons x r,h=>by
   cases h with
   | cons y q=>exact .cons (LW.trans x y) (aF.trans r q)
end
theorem aF.take:∀ {a b:List AV} (n:Nat),aF a b->aF (a.take n) (b.take n)
 | _,_,0,_=>by rw[List.take_zero,List.take_zero];exact .nil
 | _,_,_+1,.nil=>.nil
 | _,_,n+1,.cons h r=>.cons h (aF.take n r)
theorem aF.drop:∀ {a b:List AV} (n:Nat),aF a b->aF (a.drop n) (b.drop n)
 | _,_,0,h=>h
 | _,_,_+1,.nil=>.nil
 | _,_,n+1,.cons _ r=>aF.drop n r
theorem aF.set:∀ {a b:List AV} (n:Nat) (x:AV),aF a b->aF (a.set n x) (b.set n x)
 | _,_,_,_,.nil=>.nil
 | _,_,0,x,.cons _ r=>.cons (.refl x) r
 | _,_,n+1,x,.cons h r=>.cons h (aF.set n x r)
theorem Of:∀(ys:List AV) {a b:List AV} (o:Nat),aF a b->aF (putCells a o ys) (putCells b o ys)
 | [],_,_,_,h=>h
 | y::ys,_,_,o,h=>Of ys (o+1) (h.set o y)
theorem N2:∀(ys a b:List AV) (o:Nat),o+ys.length<=a.length->putCells (a++b) o ys=putCells a o ys++b
 | [],_,_,_,_=>rfl
 | y::ys,a,b,o,h=>by
   simp only[List.length_cons]at h;simp only[putCells];rw[List.set_append,if_pos (by omega)];exact N2 ys _ b (o+1) (by rw[List.length_set];omega)
theorem yH:∀(ys a b:List AV) (o:Nat),putCells (a++b) (a.length+o) ys=a++putCells b o ys
 | [],_,_,_=>rfl
 | y::ys,a,b,o=>by
   simp only[putCells];rw[List.set_append,if_neg (by omega),show a.length+o-a.length=o by omega,Nat.add_assoc];exact yH ys a _ (o+1)
theorem Kg (ag:Bool) {a b:List AV} (h:aF a b):LW (mk ag a) (mk ag b):=by
 cases ag with
 | true=>exact .agg h
 | false=>cases h with
   | nil=>exact .refl _
   | cons h _=>exact h
section
variable {T:Nat->Type} {B:Tb T} {R:Type}
theorem aeX (p q:List (Nat×Nat×Int×Nat)):b8 B (p++q)=b8 B p+b8 B q:=by
 induction p with
 | nil=>simp[b8]
 | cons a p ih=>simp only[List.cons_append,b8,ih];omega
theorem PY:∀(q:Nat×Nat×Int×Nat) (p:List (Nat×Nat×Int×Nat)) (x:Nat),b8 B (rx (q::p) x)=b8 B (q::p)+x
 | (i,m,n,f),[],x=>by simp only[rx,b8];omega
 | (i,m,n,f),a::p,x=>by
   have:=PY a p x;simp only[rx,b8]at this ⊢;omega
theorem H7 {a b:Int}:ieq a b=true↔a=b:=by
 simp only[ieq,Bool.and_eq_true,a8];omega
theorem QB {i:Nat} {n:Int} {v:T i}:∀(l:List (T i)) (j:Nat),n<(j:Int)->nz n v j l=l
 | [],_,_=>rfl
 | x::l,j,h=>by
   have hc:ieq n (Int.ofNat j)=false:=by
    rw[Bool.eq_false_iff];intro hc;rw[H7]at hc;have:(Int.ofNat j:Int)=(j:Int):=rfl;omega
   simp only[nz,hc,cond_false];rw[QB l (j+1) (by omega)]
variable (hB:B.Ok)
include hB
theorem Q9 (i:Nat) (x:T i):(B.eA i x).cells.length=B.k i:=by rw[<- hB.enc,cC,hB.len]
theorem Ab {i m:Nat} {cs:List (BV T)} {l:List (T i)} (h:hU B i (m+1) cs=some l):
 ∃a l',l=a::l'/\B.dec i (cs.take (B.k i))=some a/\hU B i m (cs.drop (B.k i))=some l'/\(cs.take (B.k i)).length=B.k i/\aF (BV.an B (cs.take (B.k i))) (B.eA i a).cells:=by
 simp only[hU]at h;split at h
 ·rename_i a l' h1 h2;cases h;have q:=hB.dec _ _ _ h1;have:=q.len;rw[cC,Q9 hB]at this;exact⟨a,l',rfl,h1,h2,this,q⟩
 ·cases h
theorem pS (cs:List (BV T)) (k:Nat):BV.an B cs=BV.an B (cs.take k)++BV.an B (cs.drop k):=by
 rw[<- iP,List.take_append_drop]
theorem HA {i:Nat}:∀ {m:Nat} {cs:List (BV T)} {l:List (T i)},hU B i m cs=some l->l.length=m/\m*B.k i<=cs.length
 | 0,cs,l,h=>by cases h;simp
 | m+1,cs,l,h=>by
   obtain⟨a,l',rfl,_,h2,h3,_⟩:=Ab hB h;obtain⟨q1,q2⟩:=HA h2;rw[List.length_drop]at q2;rw[List.length_take]at h3;refine⟨by simp[q1],?_⟩;rw[Nat.succ_mul];omega
theorem Av {i:Nat}:∀ {m:Nat} {cs:List (BV T)} {l:List (T i)} {q:Nat} {el:T i},hU B i m cs=some l->l[q]?=some el->
 ∃pre mid suf,BV.an B cs=pre++mid++suf/\pre.length=q*B.k i/\mid.length=B.k i/\aF mid (B.eA i el).cells
 | 0,cs,l,q,el,h,hq=>by cases h;simp at hq
 | m+1,cs,l,q,el,h,hq=>by
   obtain⟨a,l',rfl,_,h2,h3,h4⟩:=Ab hB h;cases q with
   | zero=>
     have:a=el:=by simpa using hq
     subst this;exact⟨[],BV.an B (cs.take (B.k i)),BV.an B (cs.drop (B.k i)),by rw[List.nil_append];exact pS hB cs _,by simp,by rw[cC];exact h3,h4⟩
   | succ q=>
     obtain⟨pre,mid,suf,e1,e2,e3,e4⟩:=Av h2 (by simpa using hq);refine⟨BV.an B (cs.take (B.k i))++pre,mid,suf,?_,?_,e3,e4⟩
     ·rw[pS hB cs (B.k i),e1];simp only[List.append_assoc]
     ·rw[List.length_append,cC,h3,e2,Nat.succ_mul];omega
theorem QN {i:Nat}:∀ {m:Nat} {cs:List (BV T)} {l:List (T i)},hU B i m cs=some l->aF (BV.an B cs) (BV.an B (lq B i l (cs.drop (m*B.k i))))
 | 0,cs,l,h=>by cases h;simp only[lq,Nat.zero_mul,List.drop_zero];exact .refl _
 | m+1,cs,l,h=>by
   obtain⟨a,l',rfl,_,h2,h3,h4⟩:=Ab hB h;have ih:=QN h2;rw[List.drop_drop,show B.k i+m*B.k i=(m+1)*B.k i by rw[Nat.succ_mul];omega]at ih;simp only[lq];rw[pS hB cs (B.k i),iP,hB.enc];exact aF.append h4 ih
theorem P4 {i:Nat} {el el':T i} {n:Int} {t:Nat} {ys:List AV} (ht:t+ys.length<=B.k i)
 (X:∀c:List AV,aF c (B.eA i el).cells->aF (putCells c t ys) (B.eA i el').cells):
 ∀ {m:Nat} {cs:List (BV T)} {l:List (T i)} {q j:Nat},hU B i m cs=some l->l[q]?=some el->n=((j+q:Nat):Int)->
 aF (putCells (BV.an B cs) (q*B.k i+t) ys) (BV.an B (lq B i (nz n el' j l) (cs.drop (m*B.k i))))
 | 0,cs,l,q,j,h,hq,_=>by cases h;simp at hq
 | m+1,cs,l,q,j,h,hq,hn=>by
   obtain⟨a,l',rfl,_,h2,h3,h4⟩:=Ab hB h;have hd:(cs.drop (B.k i)).drop (m*B.k i)=cs.drop ((m+1)*B.k i):=by
    rw[List.drop_drop,show B.k i+m*B.k i=(m+1)*B.k i by rw[Nat.succ_mul];omega]
   cases q with
   | zero=>
     have:a=el:=by simpa using hq
     subst this;have hc:ieq n (Int.ofNat j)=true:=by rw[H7];simpa using hn
     simp only[nz,hc,cond_true,lq];rw[QB l' (j+1) (by omega),pS hB cs (B.k i),Nat.zero_mul,Nat.zero_add,N2 _ _ _ _ (by rw[cC,h3];exact ht),iP,hB.enc];have ih:=QN hB h2;rw[hd]at ih;exact aF.append (X _ h4) ih
   | succ q=>
     have hc:ieq n (Int.ofNat j)=false:=by
      rw[Bool.eq_false_iff];intro hc;rw[H7]at hc;have:(Int.ofNat j:Int)=(j:Int):=rfl;omega
     simp only[nz,hc,cond_false,lq];have ih:=P4 (n:=n) (q:=q) ht X (j:=j+1) h2 (by simpa using hq) (by omega);rw[hd]at ih;rw[pS hB cs (B.k i),show(q+1)*B.k i+t=(BV.an B (cs.take (B.k i))).length+(q*B.k i+t) by rw[cC,h3,Nat.succ_mul];omega,yH,iP,hB.enc];exact aF.append h4 ih
theorem RK:∀ {p:List (Nat×Nat×Int×Nat)} {cs:List (BV T)} {K:List (BV T)->Option R} {r:R},vj B p cs K=some r->
 ∃c',K c'=some r/\b8 B p+c'.length<=cs.length/\aF (((BV.an B cs).drop (b8 B p)).take c'.length) (BV.an B c')
 | [],cs,K,r,h=>⟨cs,h,by simp[b8],by simp only[b8,List.drop_zero];rw[List.take_of_length_le (by rw[cC];exact Nat.le_refl _)];exact .refl _⟩
 | (i,m,n,f)::p,cs,K,r,h=>by
   simp only[vj]at h;split at h
   ·rename_i l hf hl;have hf:=Nat.le_of_ble_eq_true hf;obtain⟨el,hel,h⟩:=Option.bind_eq_some_iff.1 h;obtain⟨i1,i2,i3⟩:=jL hel;obtain⟨c',h1,h2,h3⟩:=RK h;obtain⟨pre,mid,suf,e1,e2,e3,e4⟩:=Av hB hl i3;have hlen:(BV.an B cs).length=cs.length:=cC _;rw[e1]at hlen;simp only[List.length_append,e2,e3]at hlen;rw[List.length_drop,hB.len]at h2;refine⟨c',h1,by simp only[b8];omega,?_⟩;rw[kK,hB.enc,List.drop_drop]at h3;refine aF.trans ?_ h3;have ed:(BV.an B cs).drop (b8 B ((i,m,n,f)::p))=mid.drop (f+b8 B p)++suf:=by
     rw[e1,List.append_assoc,show b8 B ((i,m,n,f)::p)=pre.length+(f+b8 B p) by rw[e2];simp only[b8];omega,<- List.drop_drop,List.drop_left,List.drop_append_of_le_length (by omega)]
    rw[ed,List.take_append_of_le_length (by rw[List.length_drop];omega)];exact(e4.drop _).take _
   ·cases h
theorem RO:∀ {p:List (Nat×Nat×Int×Nat)} {ys cs:List (BV T)} {K:List (BV T)->Option R} {r:R},stM B ys p cs K=some r->
 ∃c',K c'=some r/\b8 B p+ys.length<=cs.length/\aF (putCells (BV.an B cs) (b8 B p) (BV.an B ys)) (BV.an B c')
 | [],ys,cs,K,r,h=>by
   simp only[stM]at h;split at h
   ·rename_i hc;exact⟨_,h,by simp only[b8];have:=Nat.le_of_ble_eq_true hc;omega,by rw[tX];exact .refl _⟩
   ·cases h
 | (i,m,n,f)::p,ys,cs,K,r,h=>by
   simp only[stM]at h;split at h
   ·rename_i l hf hl;have hf:=Nat.le_of_ble_eq_true hf;obtain⟨el,hel,h⟩:=Option.bind_eq_some_iff.1 h;obtain⟨i1,i2,i3⟩:=jL hel;obtain⟨c',h1,h2,h3⟩:=RO h;split at h1
    ·rename_i el' hdec;rw[List.length_drop,hB.len]at h2;obtain⟨hlm,hle⟩:=HA hB hl;have hq:n.toNat<m:=by rw[<- hlm];exact(List.getElem?_eq_some_iff.1 i3).1
     have hmul:n.toNat*B.k i+B.k i<=m*B.k i:=by
      have:=Nat.mul_le_mul_right (B.k i) (show n.toNat+1<=m from hq)
      rwa [Nat.succ_mul]at this
     refine⟨_,h1,by simp only[b8];omega,?_⟩;have qd:=hB.dec _ _ _ hdec;rw[iP,nX,hB.enc]at qd;rw[kK,hB.enc]at h3;have:=P4 hB (i:=i) (el:=el) (el':=el') (n:=n) (t:=f+b8 B p) (ys:=BV.an B ys) (by rw[cC];omega) (λc hc=>?_) (j:=0) hl i3 (by omega)
     ·rw[show b8 B ((i,m,n,f)::p)=n.toNat*B.k i+(f+b8 B p) by simp only[b8];omega];exact this
     ·have hlc:c.length=B.k i:=by rw[hc.len,Q9 hB]
      have e1:putCells c (f+b8 B p) (BV.an B ys)=c.take f++putCells (c.drop f) (b8 B p) (BV.an B ys):=by
       have:=yH (BV.an B ys) (c.take f) (c.drop f) (b8 B p);rw[List.take_append_drop,List.length_take,Nat.min_eq_left (by omega)]at this;exact this
      rw[e1];exact aF.trans (aF.append (hc.take f) (aF.trans (Of _ _ (hc.drop f)) h3)) qd
    ·cases h1
   ·cases h
omit hB in
theorem afY {M:Maps} {S:Nat->Prop} {w:World} {v:Value} {cs:List AV} (n:Nat) (h:am M S w v (.aZ cs)):am M S w v (.aZ (cs.take n)):=by
 have hd:=dy h rfl;cases hd with
 | aZ g o _ c T fz hs hg hb h1 q=>
   refine .data (.aZ g o _ c T fz hs hg (by rw[List.length_take];omega) (λj hj=>?_) λj hj=>?_)
   ·rw[List.length_take]at hj;have:=h1 j (by omega)
    rwa [show(cs.take n).getD j .any=cs.getD j .any by simp only[List.getD];rw[List.getElem?_take_of_lt (by omega)]]
   ·rw[List.length_take]at hj;have:=q j (by omega)
    rwa [show(cs.take n).getD j .any=cs.getD j .any by simp only[List.getD];rw[List.getElem?_take_of_lt (by omega)]]
end
end Go.Proofs.YtmfkphajohcklaaGreat.U
set_option linter.all false
namespace Go.Proofs.YtmfkphajohcklaaGreat.U
open Go
section
variable {T:Nat->Type} {B:Tb T} {R:Type}
variable {P:Program} {dr:Bool} {e:SE T} {t:List AV} {ns:Nat} {H:BH T} {d:Option Nat} {K:SE T->BH T->Option R} {r:R}
theorem Qn {i aQ:Nat} {xs ys:List (T i)} {buf:List (BB T)} {Kv:BV T->BH T->Option R} (h:appJ i aQ xs H buf ys Kv=some r):
 (xs.length+ys.length)*aQ<=140737488355328/\xs.length+ys.length<=9223372036854775807/\Kv (.own H.buf.length) ⟨H.box,buf++[.live i (xs++ys)]⟩=some r:=by
 unfold appJ at h;split at h
 ·rename_i hb;obtain⟨h1,h2⟩:=bW h;have h1:=Nat.le_of_ble_eq_true h1;have hb:0<aQ:=by simpa using hb
  have:=Nat.le_mul_of_pos_right (xs.length+ys.length) hb;exact⟨h1,by omega,h2⟩
 ·cases h
theorem QC {y:BV T} {i:Nat} {l:List (T i)} (h:vR H y=some ⟨i,l⟩) (k:Nat) (hk:B.k i=k):dH (H.av B) k (y.av B)=some (l.map (B.eA i)):=by
 unfold vR at h;split at h
 ·cases h;simp only[BV.av,dH,hk,if_true]
 ·split at h
  ·rename_i hb;cases h;simp only[BV.av,dH,dA,hb,BB.av,lT,hk,if_true]
  ·rename_i hb;cases h;simp only[BV.av,dH,dA,hb,BB.av,lT,hk,if_true]
  ·cases h
 ·cases h
theorem agJ {bx:List (List AV)} {bu:List Buf} {k:Nat} {xs ys:List AV} (h:aF xs ys):dh ⟨bx,bu++[.live k xs]⟩ ⟨bx,bu++[.live k ys]⟩:=by
 refine⟨rfl,by simp,λb=>.refl _,λu=>?_⟩;dsimp only;rcases Nat.lt_or_ge u bu.length with hu|hu
 ·rw[jD hu,jD hu];exact .refl _
 ·rcases Nat.eq_or_lt_of_le hu with rfl|hu
  ·rw[yn,yn];exact .live _ h
  ·have:∀z:Buf,(bu++[z]).getD u .dead=.dead:=λz=>by
    simp only[List.getD];rw[List.getElem?_eq_none (by simp;omega)];rfl
   rw[this,this];exact .refl _
theorem Pl:∀l:List (BV T),l.flatMap eR=(BV.an B l).flatMap owns
 | []=>by simp[BV.an]
 | x::l=>by simp only[BV.an,List.flatMap_cons,ah6 (B:=B) x,Pl l]
variable (hB:B.Ok) {h0:Hint T} (hh:h0.Ok B)
include hh
omit hh in
theorem J6 {K:BV T->BH T->Option R} {o:SO} {v:BV T} {H':BH T} (h:aM (λt' H1=>t'=a9 t d (v.av B)/\H1=H'.av B) dr t (H.av B) d o) (hK:K v H'=some r):∃v H' r1,ES P dr o t (H.av B) r1 (H'.av B)/\a9 t d r1=a9 t d (v.av B)/\K v H'=some r:=by
 obtain⟨r1,H1,es,ht,hH⟩:=In (P:=P) h;subst hH;exact⟨v,H',r1,es,ht,hK⟩
theorem Qo (hr:bN B e t ns) {K:BV T->BH T->Option R} {k aQ:Nat} {x y:Od} (h:oz B h0.sb k aQ H (aR e x) (aR e y) K=some r):∃v H' r1,ES P dr (.app k aQ x y) t (H.av B) r1 (H'.av B)/\a9 t d r1=a9 t d (v.av B)/\K v H'=some r:=by
 unfold oz at h;split at h
 ·rename_i hx;have mk:∀ {i:Nat} {ys:List (T i)},B.k i=k->dH (H.av B) k (od t y)=some (ys.map (B.eA i))->appJ i aQ [] H H.buf ys K=some r->∃v H' r1,ES P dr (.app k aQ x y) t (H.av B) r1 (H'.av B)/\a9 t d r1=a9 t d (v.av B)/\K v H'=some r:=by
   intro i ys hk hs h;obtain⟨h1,h2,h3⟩:=Qn h;refine J6 (v:=.own H.buf.length) ?_ h3;simp only[aM,hr.od x,hx,BV.av,uX,hs,mZ,List.length_nil,List.length_map,Nat.zero_add,List.nil_append];refine⟨by simpa using h1,by simpa using h2,by rw[gp'],?_⟩;simp only[BH.av,List.map_append,List.map_cons,List.map_nil,BB.av,hk,List.nil_append]
  split at h
  ·cases h
  ·rename_i s hy;split at h
   ·rename_i f hf;obtain⟨q1,q2,q3⟩:=hh.sb _ _ s hf;refine mk (q2.trans q1.symm) ?_ h;rw[hr.od,hy,q3];simp only[BV.av,dH,q1,if_true,nW]
   ·cases h
  ·rename_i hy1 hy2;split at h
   ·rename_i i ys hs;split at h
    ·rename_i hk;have hk:=beq_eq hk;exact mk hk (by rw[hr.od];exact QC hs k hk) h
    ·cases h
   ·cases h
 ·rename_i u hx;split at h
  ·rename_i i xs hbu;split at h
   ·rename_i hk;have hk:=beq_eq hk;have mk:∀ {ys:List (T i)},dH (H.av B) k (od t y)=some (ys.map (B.eA i))->appJ i aQ xs H (H.buf.set u .dead) ys K=some r->∃v H' r1,ES P dr (.app k aQ x y) t (H.av B) r1 (H'.av B)/\a9 t d r1=a9 t d (v.av B)/\K v H'=some r:=by
     intro ys hs h;obtain⟨h1,h2,h3⟩:=Qn h;refine J6 (v:=.own H.buf.length) ?_ h3;simp only[aM,hr.od x,hx,BV.av,uX,dA,hbu,BB.av,B6,hs,mZ,List.length_map];refine⟨hk,h1,h2,by rw[gp'],?_⟩;simp only[BH.av,List.map_append,List.map_cons,List.map_nil,BB.av,hk,List.map_set]
    split at h
    ·rename_i hy;exact mk (ys:=[]) (by rw[hr.od,hy];simp[BV.av,dH]) h
    ·rename_i s hy;split at h
     ·rename_i f hf;obtain⟨q1,q2,q3⟩:=hh.sb _ _ s hf;split at h;rename_i j ys hfs;rw[hfs]at q2 q3;split at h
      ·rename_i ys' hc;obtain⟨ej,rfl⟩:=pP hc;subst ej;refine mk ?_ h;rw[hr.od,hy];simp only[BV.av,dH,q1,if_true,nW];rw[<- q3]
      ·cases h
     ·cases h
    ·split at h
     ·rename_i j ys hs;split at h
      ·rename_i ys' hc;obtain⟨ej,rfl⟩:=pP hc;subst ej;exact mk (by rw[hr.od];exact QC hs k hk) h
      ·cases h
     ·cases h
   ·cases h
  ·cases h
 ·cases h
omit hh in
theorem Rz {o:SO} {t:List AV} {H H':AH} {u k:Nat} {xs:List AV} (h:OS P o t H (.ret (.own u)) H') (hb:H'.buf.getD u .dead=.live k xs):OS P o t H (.ret (.sl k xs)) ⟨H'.box,H'.buf.set u (.bf k xs)⟩:=by
 intro wr oc hc M S w a hx hh hp K Q hK;refine h wr oc hc M S w a hx hh hp K Q λM' S' v w' h1 hf hv=>?_;obtain⟨h2,f2⟩:=h1.freeze u λq k' xs' e=>by rw[hb]at e;cases e
 have ef:dt H'.buf u=H'.buf.set u (.bf k xs):=by unfold dt;rw[hb];rfl
 rw[ef]at h2 f2;refine hK M' _ v w' h2 (hf.trans f2) ?_;cases hv with
 | data h=>cases h
 | own _ htl hsl=>
   have JX:u<H'.buf.length:=by rw[<- h1.nt];exact htl
   have hl:=h1.buf u JX;rw[hb]at hl;exact .data (Pq hl (λ_ h=>.inl h) λg hg=>.inr ⟨JX,by rw[hb];rfl,hg⟩)
omit hh in
theorem ES.datum {o:SO} {t:List AV} {H H':AH} {u k:Nat} {xs:List AV} (h:ES P dr o t H (.own u) H') (ha:o.acts=true) (hn:o.news=false) (hb:H'.buf.getD u .dead=.live k xs):ES P dr o t H (.sl k xs) ⟨H'.box,H'.buf.set u (.bf k xs)⟩:=
 ⟨Rz h.1 hb,λhd=>⟨λe=>(by rw[ha]at e;cases e),λe=>(by rw[ha]at e;cases e),λe=>(by rw[ha]at e;cases e),λe=>(by rw[hn]at e;cases e),λe=>
   let ⟨h1,h2⟩:=(h.2 hd).2.2.2.2 e
   ⟨h1,λbox=>Rz (h2 box) hb⟩⟩⟩
theorem ajo (hr:bN B e t ns) (hd:okD ns d=true) {k aQ:Nat} {x y:Od} (h:dB B h0 e H d k aQ x y K=some r):bk B P dr t H d (.app k aQ x y) ns K r:=by
 have plain:oz B h0.sb k aQ H (aR e x) (aR e y) (λv H=>K (aP e d v) H)=some r->bk B P dr t H d (.app k aQ x y) ns K r:=λh=>by
  obtain⟨v,H',r1,es,ht,hK⟩:=Qo (d:=d) hh hr h;exact⟨r1,_,aP e d v,H',es,by rw[ht];exact hr.put hd v,rfl,hK⟩
 unfold dB at h;split at h
 ·rename_i d0;split at h
  ·obtain⟨v,H',r1,es,ht,hK⟩:=Qo (d:=some d0) hh hr h;split at hK
   ·rename_i u;split at hK
    ·rename_i i l hb;have hd':d0<ns:=by simpa[okD]using hd
     have e1:r1=.own u:=by
      have:=congrArg (λz=>z.getD d0 .any) ht;simp only[a9]at this;rw[eK (by rw[hr.len];exact hd'),eK (by rw[hr.len];exact hd')]at this;exact this
     subst e1;refine⟨_,_,(d0,.sl i l)::e,⟨H'.box,H'.buf.set u (.bf i l)⟩,es.datum rfl rfl (k:=B.k i) (xs:=l.map (B.eA i)) (by rw[dA,hb];rfl),hr.put (d:=some d0) hd (.sl i l),?_,hK⟩;show AH.mk _ _=AH.mk _ _;congr 1;rw[List.map_set];rfl
    ·cases hK
   ·cases hK
  ·exact plain h
 ·exact plain h
include hB
theorem Rp (hr:bN B e t ns) (hd:okD ns d=true) {k:Nat} {ps:List Od} (h:cV B h0 dr e H d (.cq k ps) K=some r):bk B P dr t H d (.cq k ps) ns K r:=by
 simp only[cV,d5,dW,dX,d6,dR,dS,dO,eo,dP,dN,dQ,ep,dZ,eg,d9,ec,ee,dT,d7,d8,eh,dY,dB]at h;split at h
 ·rename_i d0;split at h
  ·rename_i i hi;split at h
   ·rename_i hk;have hk:=beq_eq hk;subst hk;split at h
    ·split at h
     ·rename_i l hl;have q:=HQ hB hl;rw[<- hr.nk]at q;have hok:=GT hB q;refine⟨.sl (B.k i) (l.map (B.eA i)),H.av B,(d0,.sl i l)::e,H,dc λH0=>(Qs hok).lw (.sl _ q) (dh.refl _),?_,rfl,h⟩;have:=hr.put (B:=B) hd (.sl i l);simpa only[aP,BV.av]using this
     ·cases h
    ·rename_i hdr;obtain rfl:dr=false:=by cases dr with|false=>rfl|true=>cases hdr
     split at h
     ·rename_i l hl;have q:=HQ hB hl;have e1:(ps.map (aR e)).flatMap eR=(ps.map (od t)).flatMap owns:=by
       rw[hr.nk,Pl (B:=B)]
      have e2:BV.an B (ps.map λx=>iA' B (fH H ((ps.map (aR e)).flatMap eR)) (aR e x))=(ps.map (od t)).map (cj (bC (H.av B) ((ps.map (od t)).flatMap owns))):=by
       rw[db,List.map_map,List.map_map];refine List.map_congr_left λx _=>?_;simp only[Function.comp,Ii,iS,hr.od];rw[e1]
      rw[e2]at q;have hok:=GT hB q;have ef:(bC (H.av B) ((ps.map (od t)).flatMap owns)).buf=(fH H ((ps.map (aR e)).flatMap eR)).buf.map (BB.av B):=by
       rw[<- e1,<- iS];rfl
      have eH:(⟨(fH H ((ps.map (aR e)).flatMap eR)).box,(fH H ((ps.map (aR e)).flatMap eR)).buf++[.live i l]⟩:BH T).av B=⟨(H.av B).box,(bC (H.av B) ((ps.map (od t)).flatMap owns)).buf++[.live (B.k i) (l.map (B.eA i))]⟩:=by
       rw[ef];show AH.mk _ _=AH.mk _ _;congr 1;rw[List.map_append];rfl
      refine⟨.own (H.av B).buf.length,_,(d0,.own H.buf.length)::e,_,An rfl ((Ry hok).lw (.refl _) (agJ q)),?_,eH.symm,h⟩;have:=hr.put (B:=B) hd (.own H.buf.length);simp only[aP,BV.av]at this;rw[gp'];exact this
     ·cases h
   ·cases h
  ·cases h
 ·cases h
theorem WU (hr:bN B e t ns) (hd:okD ns d=true) {n:Nat} {x y:Od} (h:cV B h0 dr e H d (.st n x y) K=some r):bk B P dr t H d (.st n x y) ns K r:=by
 simp only[cV,d5,dW,dX,d6,dR,dS,dO,eo,dP,dN,dQ,ep,dZ,eg,d9,ec,ee,dT,d7,d8,eh,dY,dB]at h;split at h
 ·rename_i b o hx;split at h
  ·rename_i cs hcs;split at h
   ·rename_i hc;simp only[Bool.and_eq_true,Nat.ble_eq]at hc;obtain⟨⟨h1,h2⟩,h3⟩:=hc;have h1:=beq_eq h1;refine bk.aM (v:=.raw (.v undef)) (H':=⟨H.box.set b (kp cs o (aR e y).cells),H.buf⟩) hr hd ?_ h;simp only[aM,hr.od,hx,BV.av,Ce,tx,<- jH,mq,pW hcs,cC];refine⟨h1,h2,h3,(by first|rfl|trivial),?_⟩;simp only[BH.av,List.map_set,tX]
   ·cases h
  ·cases h
 ·rename_i u i m o hx;split at h
  ·rename_i j l hbu;split at h
   ·rename_i hc;simp only[Bool.and_eq_true,Nat.ble_eq]at hc;obtain⟨⟨⟨h1,h2⟩,h3⟩,h4⟩:=hc;have h1:=beq_eq h1;have h3:=beq_eq h3;have h4:0<n:=by simpa using h4
    obtain⟨el,hel,h⟩:=Option.bind_eq_some_iff.1 h;obtain⟨i1,i2,i3⟩:=jL hel;split at h
    ·rename_i el' hdec;have q:=hB.dec j _ _ hdec;rw[tX,hB.enc,jH,Ii,<- hr.od]at q;have hys:(cj (H.av B) (od t y)).cells.length=n:=by rw[hr.od,<- Ii,tx];exact h3
     have UC:(l.map (B.eA j))[m.toNat]?=some (B.eA j el):=by rw[List.getElem?_map,i3];rfl
     have hck:(B.eA j el).cells.length=B.k j:=by rw[<- hB.enc,cC,hB.len]
     have hput:∀z,z<n->((putCells (B.eA j el).cells o (cj (H.av B) (od t y)).cells).getD (o+z) .any)=(cj (H.av B) (od t y)).cells.getD z .any:=λz hz=>by
      rw[pH _ _ _ _ (by rw[hys,hck];exact h2),if_pos (by rw[hys];omega)];congr 1;omega
     have BU:∀z,z<n->LW ((cj (H.av B) (od t y)).cells.getD z .any) ((B.eA j el').cells.getD (o+z) .any):=λz hz=>by
      rw[<- hput z hz];exact q.get _
     have hck':(B.eA j el').cells.length=B.k j:=by rw[<- hB.enc,cC,hB.len]
     have Ui:ones (cj (H.av B) (od t y)).cells=true:=by
      simp only[ones,List.all_eq_true];intro c hc;obtain⟨z,hz,rfl⟩:=List.getElem_of_mem hc;have hz':z<n:=by rw[<- hys];exact hz
      have:=BU z hz';rw[show(cj (H.av B) (od t y)).cells.getD z .any=(cj (H.av B) (od t y)).cells[z] by simp[List.getD,hz]]at this;rw[this.one];exact jI (hB.one j el') (by rw[hck'];omega)
     have hds:(cj (H.av B) (od t y)).cells.all AV.dat=true:=by
      rw[List.all_eq_true];intro c hc;obtain⟨z,hz,rfl⟩:=List.getElem_of_mem hc;have hz':z<n:=by rw[<- hys];exact hz
      have:=BU z hz';rw[show(cj (H.av B) (od t y)).cells.getD z .any=(cj (H.av B) (od t y)).cells[z] by simp[List.getD,hz]]at this;rw[this.dat];exact PR (hB.dat j el') (by rw[hck'];omega)
     have UU:LW (iK (B.eA j el) o (cj (H.av B) (od t y)).cells) (B.eA j el'):=by
      cases hg:B.ag j with
      | true=>
        rw[hB.ag j el hg,hB.ag j el' hg];exact .agg q
      | false=>
        have e1:=hB.sg j el hg;have e2:=hB.sg j el' hg;have hk1:B.k j=1:=by rw[<- hck,e1];rfl
        have hn1:n=1/\o=0:=by omega
        obtain⟨rfl,rfl⟩:=hn1;have hs:iK (B.eA j el) 0 (cj (H.av B) (od t y)).cells=(cj (H.av B) (od t y)).cells.headD .any:=by
         unfold iK;split
         ·rename_i cs hcs;rw[hcs]at e1;have e3:cs=[AV.agg cs]:=e1;have e4:SizeOf.sizeOf cs=SizeOf.sizeOf [AV.agg cs]:=congrArg SizeOf.sizeOf e3;simp at e4;omega
         ·rfl
        rw[hs];have:=BU 0 (by omega);rw[e2]at this;cases hcz:(cj (H.av B) (od t y)).cells with
        | nil=>rw[hcz]at hys;cases hys
        | cons c cs=>rw[hcz]at this;simpa using this
     have JR:u<H.buf.length:=by
      rcases Nat.lt_or_ge u H.buf.length with h'|h'
      ·exact h'
      ·simp[cR,List.getD,List.getElem?_eq_none h']at hbu
     have hos:=OT (P:=P) (t:=t) (H:=H.av B) (n:=n) (y:=x) (z:=y) (u:=u) (k:=B.k j) (i:=m.toNat) (o:=o) (xs:=l.map (B.eA j)) (e:=B.eA j el) (by rw[hr.od,hx];simp only[BV.av,h1]) (by rw[dA,hbu];rfl) hys Ui hds h4 h2 UC;refine⟨.v undef,_,aP e d (.raw (.v undef)),_,gZ rfl (hos.lw (.refl _) (H'':=(⟨H.box,H.buf.set u (.live j (l.set m.toNat el'))⟩:BH T).av B) ?_),hr.put hd (.raw (.v undef)),rfl,h⟩;refine⟨rfl,by simp[BH.av],λb=>.refl _,λw=>?_⟩;simp only[BH.av,List.map_set];by_cases hw:u=w
     ·subst hw;rw[eK (by simpa using JR),eK (by simpa using JR)];simp only[BB.av,List.map_set];refine .live _ ?_;have key:∀(l:List AV) (q:Nat) {a b:AV},LW a b->aF (l.set q a) (l.set q b):=by
       intro l
       induction l with
       | nil=>intro q a b _;exact .nil
       | cons c l ih=>
         intro q a b hab;cases q with
         | zero=>exact .cons hab (.refl _)
         | succ q=>exact .cons (.refl _) (ih q hab)
      exact key _ _ UU
     ·rw[getD_set_ne' hw,getD_set_ne' hw];exact .refl _
    ·cases h
   ·cases h
  ·cases h
 ·rename_i b o p hx;split at h
  ·rename_i cs hcs;split at h
   ·rename_i hc;simp only[Bool.and_eq_true,Nat.ble_eq]at hc;obtain⟨⟨h1,h2⟩,h3⟩:=hc;have h1:=beq_eq h1;obtain⟨c',q1,q2,q3⟩:=RO hB h;rw[List.length_drop]at q2;have hb:b<H.box.length:=(List.getElem?_eq_some_iff.1 hcs).1;have hos:=Pv (P:=P) (t:=t) (H:=H.av B) (n:=n) (y:=x) (z:=y) (b:=b) (o:=o+b8 B p) (by rw[hr.od,hx];simp only[BV.av]) (by rw[hr.od,tx];exact h1) (by rw[hr.od,<- jH,mq];exact h2) (by rw[pW hcs,cC];omega);refine⟨.v undef,_,aP e d (.raw (.v undef)),_,gZ rfl (hos.lw (.refl _) (H'':=(⟨H.box.set b (cs.take o++c'),H.buf⟩:BH T).av B) ?_),hr.put hd (.raw (.v undef)),rfl,q1⟩;refine⟨by simp[BH.av],rfl,λw=>?_,λ_=>.refl _⟩;simp only[BH.av,List.map_set];by_cases hw:b=w
    ·subst hw;rw[eK (by simpa using hb),eK (by simpa using hb)];have e0:(H.box.map (BV.an B)).getD b []=BV.an B cs:=pW hcs;rw[e0,hr.od,<- jH,iP];have e1:putCells (BV.an B cs) (o+b8 B p) (BV.an B (aR e y).cells)=BV.an B (cs.take o)++putCells (BV.an B (cs.drop o)) (b8 B p) (BV.an B (aR e y).cells):=by
      have:=yH (BV.an B (aR e y).cells) (BV.an B (cs.take o)) (BV.an B (cs.drop o)) (b8 B p);rw[<- pS hB cs o,cC,List.length_take,Nat.min_eq_left h3]at this;exact this
     rw[e1];exact aF.append (.refl _) q3
    ·rw[getD_set_ne' hw,getD_set_ne' hw];exact .refl _
   ·cases h
  ·cases h
 ·cases h
theorem ai0 (hr:bN B e t ns) (hd:okD ns d=true) {o:SO} (h:cV B h0 dr e H d o K=some r):bk B P dr t H d o ns K r:=by
 cases o with
 | gS x=>
   refine bk.aM (v:=aR e x) hr hd ?_ h;simp only[aM,hr.od];exact⟨(by first|rfl|trivial),(by first|rfl|trivial)⟩
 | box x=>
   simp only[cV,d5,dW,dX,d6,dR,dS,dO,eo,dP,dN,dQ,ep,dZ,eg,d9,ec,ee,dT,d7,d8,eh,dY,dB]at h;split at h
   ·rename_i hc;refine bk.aM (v:=.ptr H.box.length 0) hr hd ?_ h;simp only[aM,hr.od,uY,<- jH,mq,BV.av,n7];refine⟨hc,(by first|rfl|trivial),?_⟩;simp only[BH.av,List.map_append,List.map_cons,List.map_nil]
   ·cases h
 | alloc zs=>
   simp only[cV,d5,dW,dX,d6,dR,dS,dO,eo,dP,dN,dQ,ep,dZ,eg,d9,ec,ee,dT,d7,d8,eh,dY,dB]at h;split at h
   ·rename_i hc;refine bk.aM (v:=.ptr H.box.length 0) hr hd ?_ h;simp only[aM,uY,BV.av,n7];rw[<- mq (B:=B),tD]at hc;refine⟨hc,(by first|rfl|trivial),?_⟩;simp only[BH.av,List.map_append,List.map_cons,List.map_nil,tD]
   ·cases h
 | build zs ps=>
   simp only[cV,d5,dW,dX,d6,dR,dS,dO,eo,dP,dN,dQ,ep,dZ,eg,d9,ec,ee,dT,d7,d8,eh,dY,dB]at h;split at h
   ·rename_i hc hf;refine bk.aM (v:=.agg _) hr hd ?_ h;rw[<- mq (B:=B),tD]at hc;have q:=QR hr _ _ _ hf;rw[tD]at q;simp only[aM,q,B7,BV.av];exact⟨hc,(by first|rfl|trivial),(by first|rfl|trivial)⟩
   ·cases h
 | cq k ps=>exact Rp hB hh hr hd h
 | ld n ag x=>
   simp only[cV,d5,dW,dX,d6,dR,dS,dO,eo,dP,dN,dQ,ep,dZ,eg,d9,ec,ee,dT,d7,d8,eh,dY,dB]at h;split at h
   ·rename_i b o hx;split at h
    ·rename_i cs hcs;split at h
     ·rename_i hc;refine bk.aM hr hd ?_ h;simp only[aM,hr.od,hx,BV.av,rh,pW hcs,cC,lH,nX,kK];exact⟨Nat.le_of_ble_eq_true hc,(by first|rfl|trivial),(by first|rfl|trivial)⟩
     ·cases h
    ·cases h
   ·rename_i cs hx;split at h
    ·rename_i hc;refine bk.aM hr hd ?_ h;simp only[aM,hr.od,hx,BV.av,rh,cC,lH,nX];exact⟨Nat.le_of_ble_eq_true hc,(by first|rfl|trivial),(by first|rfl|trivial)⟩
    ·cases h
   ·rename_i u i m o hx;have mk':∀ {j:Nat} {l:List (T j)},(Nat.beq (B.k i) (B.k j)&&Nat.ble (o+n) (B.k j))=true->((H.av B).buf.getD u .dead=.live (B.k j) (l.map (B.eA j))\/(H.av B).buf.getD u .dead=.bf (B.k j) (l.map (B.eA j)))->
     ((ix l m).bind λel=>K (aP e d (fI ag (((B.enc j el).drop o).take n))) H)=some r->bk B P dr t H d (.ld n ag x) ns K r:=by
     intro j l hc hb h;simp only[Bool.and_eq_true,Nat.ble_eq]at hc;obtain⟨hk,hc⟩:=hc;have hk:=beq_eq hk;obtain⟨el,hel,h⟩:=Option.bind_eq_some_iff.1 h;obtain⟨i1,i2,i3⟩:=jL hel;have hlt:m.toNat<l.length:=(List.getElem?_eq_some_iff.1 i3).1;refine bk.aM hr hd ?_ h;rcases hb with hb|hb
     all_goals
      simp only[aM,hr.od,hx,BV.av,rh,hb,Cd,List.length_map,List.getElem?_map,i3,lH,nX,kK,hB.enc];refine⟨hk.symm,by rw[hk];exact hc,hlt,?_⟩;intro x hx;cases hx;exact⟨(by first|rfl|trivial),(by first|rfl|trivial)⟩
    split at h
    ·rename_i j l hbu;split at h
     ·rename_i hc;exact mk' hc (.inl (by rw[dA,hbu];rfl)) h
     ·cases h
    ·rename_i j l hbu;split at h
     ·rename_i hc;exact mk' hc (.inr (by rw[dA,hbu];rfl)) h
     ·cases h
    ·cases h
   ·rename_i b o p hx;split at h
    ·rename_i cs hcs;obtain⟨c',h1,h2,h3⟩:=RK hB h;split at h1
     ·rename_i hc;simp only[Bool.and_eq_true,Nat.ble_eq]at hc;obtain⟨ho,hn⟩:=hc;rw[List.length_drop]at h2;refine⟨_,_,aP e d (fI ag (c'.take n)),H,gf rfl λbx=>?_,hr.put hd _,rfl,h1⟩;have hb:b<(H.av B).box.length:=by rw[n7];exact(List.getElem?_eq_some_iff.1 hcs).1
      have hbx:((H.av B).box++bx).getD b []=BV.an B cs:=by rw[jD hb,pW hcs]
      have hos:=Pu (P:=P) (t:=t) (H:=⟨(H.av B).box++bx,(H.av B).buf⟩) (n:=n) (ag:=ag) (y:=x) (b:=b) (o:=o+b8 B p) (by rw[hr.od,hx];simp only[BV.av]) (by rw[hbx,cC];omega);refine hos.lw ?_ (dh.refl _);rw[hbx,lH,nX];refine Kg ag ?_;have h4:=h3.take n;rw[kK,List.drop_drop,List.take_take,Nat.min_eq_left hn]at h4;exact h4
     ·cases h1
    ·cases h
   ·cases h
 | st n x y=>exact WU hB hh hr hd h
 | fa off x=>
   simp only[cV,d5,dW,dX,d6,dR,dS,dO,eo,dP,dN,dQ,ep,dZ,eg,d9,ec,ee,dT,d7,d8,eh,dY,dB]at h;split at h
   ·rename_i b o hx;refine bk.aM hr hd ?_ h;simp only[aM,hr.od,hx,BV.av,oV];exact⟨(by first|rfl|trivial),(by first|rfl|trivial)⟩
   ·rename_i cs hx;split at h
    ·rename_i hc;refine bk.aM hr hd ?_ h;simp only[aM,hr.od,hx,BV.av,oV,cC,kK];exact⟨Nat.le_of_ble_eq_true hc,(by first|rfl|trivial),(by first|rfl|trivial)⟩
    ·cases h
   ·rename_i u i m o hx;refine bk.aM hr hd ?_ h;simp only[aM,hr.od,hx,BV.av,oV];exact⟨(by first|rfl|trivial),(by first|rfl|trivial)⟩
   ·rename_i b o q p hx;refine bk.aM hr hd ?_ h;simp only[aM,hr.od,hx,BV.av,oV,PY,Nat.add_assoc];exact⟨(by first|rfl|trivial),(by first|rfl|trivial)⟩
   ·cases h
 | lA off n ag x=>
   simp only[cV,d5,dW,dX,d6,dR,dS,dO,eo,dP,dN,dQ,ep,dZ,eg,d9,ec,ee,dT,d7,d8,eh,dY,dB]at h;split at h
   ·rename_i cs hx;split at h
    ·rename_i hc;refine bk.aM hr hd ?_ h;simp only[aM,hr.od,hx,BV.av,Cb,cC,lH,nX,kK];exact⟨Nat.le_of_ble_eq_true hc,(by first|rfl|trivial),(by first|rfl|trivial)⟩
    ·cases h
   ·cases h
 | ia k x i=>
   simp only[cV,d5,dW,dX,d6,dR,dS,dO,eo,dP,dN,dQ,ep,dZ,eg,d9,ec,ee,dT,d7,d8,eh,dY,dB]at h;split at h
   ·rename_i j l ik n hx hi;split at h
    ·rename_i hk;have hk:=beq_eq hk;obtain⟨el,hel,h⟩:=Option.bind_eq_some_iff.1 h;obtain⟨i1,i2,i3⟩:=jL hel;refine bk.aM hr hd ?_ h;simp only[aM,hr.od,hx,hi,BV.av,rf,ve,List.length_map,List.getElem?_map,i3,hB.enc];refine⟨hk,i1,i2,?_⟩;intro x hx;cases hx;exact⟨(by first|rfl|trivial),(by first|rfl|trivial)⟩
    ·cases h
   ·rename_i u ik n hx hi;split at h
    ·rename_i j l hbu;split at h
     ·rename_i hk;have hk:=beq_eq hk;obtain⟨el,hel,h⟩:=Option.bind_eq_some_iff.1 h;obtain⟨i1,i2,i3⟩:=jL hel;refine bk.aM hr hd ?_ h;simp only[aM,hr.od,hx,hi,BV.av,rf,dA,hbu,BB.av,vd,List.length_map];exact⟨hk,i1,i2,by rw[hk],(by first|rfl|trivial)⟩
     ·cases h
    ·rename_i j l hbu;split at h
     ·rename_i hk;have hk:=beq_eq hk;obtain⟨el,hel,h⟩:=Option.bind_eq_some_iff.1 h;obtain⟨i1,i2,i3⟩:=jL hel;refine bk.aM hr hd ?_ h;simp only[aM,hr.od,hx,hi,BV.av,rf,dA,hbu,BB.av,vd,ve,List.length_map,List.getElem?_map,i3,hB.enc];refine⟨hk,i1,i2,?_⟩;intro x hx;cases hx;exact⟨(by first|rfl|trivial),(by first|rfl|trivial)⟩
     ·cases h
    ·cases h
   ·cases h
 | jt m k x i=>
   simp only[cV,dN]at h;split at h
   ·rename_i j hj;split at h
    ·rename_i b o ik n hk hx hi;have hk:=beq_eq hk;obtain⟨h1,h⟩:=bW h;obtain⟨h2,h⟩:=bW h;refine bk.aM hr hd ?_ h;simp only[aM,hr.od,hx,hi,BV.av,oW,b8,Nat.add_zero,hk];exact⟨a8.1 h1,by rw[fS]at h2;simpa using h2,(by first|rfl|trivial),(by first|rfl|trivial)⟩
    ·rename_i b o p ik n hk hx hi;have hk:=beq_eq hk;obtain⟨h1,h⟩:=bW h;obtain⟨h2,h⟩:=bW h;refine bk.aM hr hd ?_ h;simp only[aM,hr.od,hx,hi,BV.av,oW,aeX,b8,Nat.add_zero,hk,Nat.add_assoc];exact⟨a8.1 h1,by rw[fS]at h2;simpa using h2,(by first|rfl|trivial),(by first|rfl|trivial)⟩
    ·rename_i cs ik n hk hx hi;have hk:=beq_eq hk;obtain⟨h1,h⟩:=bW h;obtain⟨h2,h⟩:=bW h;split at h
     ·rename_i l hl;obtain⟨el,hel,h⟩:=Option.bind_eq_some_iff.1 h;obtain⟨i1,i2,i3⟩:=jL hel;obtain⟨pre,mid,suf,e1,e2,e3,e4⟩:=Av hB hl i3;have hlen:=congrArg List.length e1;simp only[List.length_append,cC,e2,e3]at hlen;refine⟨_,_,aP e d (.aZ (B.enc j el)),H,dc (λH0=>?_),hr.put hd _,rfl,h⟩;have hos:=OC (P:=P) (t:=t) (H:=H0) (m:=m) (k:=k) (y:=x) (z:=i) (cs:=BV.an B cs) (ik:=ik) (n:=n) (by rw[hr.od,hx];simp only[BV.av]) (by rw[hr.od,hi];simp only[BV.av]) i1 (by rw[fS]at h2;simpa using h2) (by rw[cC,<- hk];omega);refine RB hos λM S w v hv=>?_;have h5:=afY (B.k j) hv;have e5:((BV.an B cs).drop (n.toNat*k)).take (B.k j)=mid:=by
       rw[e1,<- hk,<- e2,List.append_assoc,List.drop_left,List.take_append_of_le_length (by omega),List.take_of_length_le (by omega)]
      rw[e5]at h5;have h6:=LW.rep (.aZ e4) h5;rw[<- hB.enc]at h6;simpa only[BV.av]using h6
     ·cases h
    ·cases h
   split at h
   ·rename_i b o ik n hx hi;obtain⟨h1,h⟩:=bW h;obtain⟨h2,h⟩:=bW h;refine bk.aM hr hd ?_ h;simp only[aM,hr.od,hx,hi,BV.av,oW];exact⟨a8.1 h1,by rw[fS]at h2;simpa using h2,(by first|rfl|trivial),(by first|rfl|trivial)⟩
   ·rename_i cs ik n hx hi;obtain⟨h1,h⟩:=bW h;obtain⟨h2,h⟩:=bW h;split at h
    ·rename_i hc;refine bk.aM hr hd ?_ h;simp only[aM,hr.od,hx,hi,BV.av,oW,cC,kK];exact⟨a8.1 h1,by rw[fS]at h2;simpa using h2,Nat.le_of_ble_eq_true hc,(by first|rfl|trivial),(by first|rfl|trivial)⟩
    ·cases h
   ·cases h
 | ix x i=>
   simp only[cV,d5,dW,dX,d6,dR,dS,dO,eo,dP,dN,dQ,ep,dZ,eg,d9,ec,ee,dT,d7,d8,eh,dY,dB]at h;split at h
   ·rename_i s ik n hx hi;obtain⟨el,hel,h⟩:=Option.bind_eq_some_iff.1 h;obtain⟨i1,i2,i3⟩:=jL hel;refine bk.aM hr hd ?_ h;simp only[aM,hr.od,hx,hi,BV.av,Cc,nW,i3];refine⟨i1,i2,?_⟩;intro b hb;cases hb;exact⟨(by first|rfl|trivial),(by first|rfl|trivial)⟩
   ·cases h
 | len st x=>
   simp only[cV,d5,dW,dX,d6,dR,dS,dO,eo,dP,dN,dQ,ep,dZ,eg,d9,ec,ee,dT,d7,d8,eh,dY,dB,pa]at h;split at h
   ·rename_i v hv;refine bk.aM hr hd ?_ h;simp only[aM,hr.od];exact eB (aiR hv) trivial ⟨rfl,rfl⟩
   ·cases h
 | lE n=>exact bk.aM (v:=.int .i64 n) hr hd ⟨rfl,rfl⟩ h
 | bin op wr x y=>
   obtain⟨v,p,h1,h2,h3⟩:=ajr (B:=B) h;refine bk.aM hr hd ?_ h3;simp only[aM,hr.od];exact eB h1 h2 ⟨rfl,rfl⟩
 | eqs ne ls x y=>
   simp only[cV,d5,dW,dX,d6,dR,dS,dO,eo,dP,dN,dQ,ep,dZ,eg,d9,ec,ee,dT,d7,d8,eh,dY,dB]at h;split at h
   ·rename_i xs ys hx hy;split at h
    ·rename_i b hb;refine bk.aM (v:=.bool (fY ne b)) hr hd ?_ h;simp only[aM,hr.od,hx,hy,BV.av];exact eB (p:=True) (by simp only[uI,HX hb,Option.map_some,iU]) trivial ⟨rfl,rfl⟩
    ·cases h
   ·cases h
 | lr ne x y=>
   simp only[cV,d5,dW,dX,d6,dR,dS,dO,eo,dP,dN,dQ,ep,dZ,eg,d9,ec,ee,dT,d7,d8,eh,dY,dB]at h;split at h
   ·rename_i a b hx hy;refine bk.aM (v:=.bool (fY ne (a==b))) hr hd ?_ h;simp only[aM,hr.od,hx,hy,BV.av];exact eB (p:=True) (by simp only[uH,iU]) trivial ⟨rfl,rfl⟩
   ·cases h
 | lu ne c x y=>
   simp only[cV,d5,dW,dX,d6,dR,dS,dO,eo,dP,dN,dQ,ep,dZ,eg,d9,ec,ee,dT,d7,d8,eh,dY,dB,pa]at h;split at h
   ·rename_i v hv;refine bk.aM hr hd ?_ h;simp only[aM,hr.od];exact eB (ajz hv) trivial ⟨rfl,rfl⟩
   ·cases h
 | lx ne x y=>
   simp only[cV,d5,dW,dX,d6,dR,dS,dO,eo,dP,dN,dQ,ep,dZ,eg,d9,ec,ee,dT,d7,d8,eh,dY,dB,pa]at h;split at h
   ·rename_i v hv;refine bk.aM hr hd ?_ h;simp only[aM,hr.od];exact eB (aiM hv) trivial ⟨rfl,rfl⟩
   ·cases h
 | un op x=>
   simp only[cV,d5,dW,dX,d6,dR,dS,dO,eo,dP,dN,dQ,ep,dZ,eg,d9,ec,ee,dT,d7,d8,eh,dY,dB]at h;split at h
   ·rename_i a hx;refine bk.aM (v:=.bool (!a)) hr hd ?_ h;simp only[aM,hr.od,hx,BV.av];exact eB (p:=True) (by simp[pq]) trivial ⟨rfl,rfl⟩
   ·rename_i k a hx;refine bk.aM (v:=.int k (k.wrap (0-a))) hr hd ?_ h;simp only[aM,hr.od,hx,BV.av];exact eB (p:=True) (by simp[pq]) trivial ⟨rfl,rfl⟩
   ·rename_i k a hx;refine bk.aM (v:=.int k _) hr hd ?_ h;simp only[aM,hr.od,hx,BV.av];exact eB (p:=True) (by simp only[pq,reduceCtorEq,if_false,if_true]) trivial ⟨rfl,rfl⟩
   ·cases h
 | lg k x=>
   simp only[cV,d5,dW,dX,d6,dR,dS,dO,eo,dP,dN,dQ,ep,dZ,eg,d9,ec,ee,dT,d7,d8,eh,dY,dB]at h;split at h
   ·rename_i k' a hx;refine bk.aM (v:=.int k (k.wrap a)) hr hd ?_ h;simp only[aM,hr.od,hx,BV.av];exact eB (p:=True) rfl trivial ⟨rfl,rfl⟩
   ·cases h
 | lh x=>
   simp only[cV,d5,dW,dX,d6,dR,dS,dO,eo,dP,dN,dQ,ep,dZ,eg,d9,ec,ee,dT,d7,d8,eh,dY,dB]at h;split at h
   ·rename_i s hx;refine bk.aM (v:=.str s) hr hd ?_ h;simp only[aM,hr.od,hx,BV.av];exact eB (p:=True) rfl trivial ⟨rfl,rfl⟩
   ·cases h
 | ext i x=>
   simp only[cV,d5,dW,dX,d6,dR,dS,dO,eo,dP,dN,dQ,ep,dZ,eg,d9,ec,ee,dT,d7,d8,eh,dY,dB]at h;split at h
   ·rename_i cs hx;split at h
    ·rename_i hc;refine bk.aM hr hd ?_ h;simp only[aM,hr.od,hx,BV.av];exact eB (p:=i<(BV.an B cs).length) (by simp only[uK,n6]) (by rw[cC];simpa using hc) ⟨rfl,rfl⟩
    ·cases h
   ·cases h
 | pick c a b=>
   simp only[cV,d5,dW,dX,d6,dR,dS,dO,eo,dP,dN,dQ,ep,dZ,eg,d9,ec,ee,dT,d7,d8,eh,dY,dB]at h;split at h
   ·rename_i c hc;cases c with
    | true=>
      refine bk.aM (v:=aR e a) hr hd ?_ h;simp only[aM,hr.od,hc,BV.av];exact eB (p:=True) rfl trivial ⟨rfl,rfl⟩
    | false=>
      refine bk.aM (v:=aR e b) hr hd ?_ h;simp only[aM,hr.od,hc,BV.av];exact eB (p:=True) rfl trivial ⟨rfl,rfl⟩
   ·cases h
 | app k aQ x y=>exact ajo hh hr hd h
 | slc st k x lo hi mx=>
   simp only[cV,Rx]at h;split at h
   ·exact ajL hB hr hd h
   ·split at h
    ·rename_i z;split at h
     ·rename_i u ik n hx hz;split at h
      ·rename_i i l hbu;split at h
       ·rename_i hk;simp only[Bool.and_eq_true,Bool.not_eq_true']at hk;obtain⟨⟨rfl,hk⟩,hdr⟩:=hk;have hk:=beq_eq hk;subst hk;obtain⟨c1,h⟩:=bW h;obtain⟨c2,h⟩:=bW h;have hbu':(H.av B).buf.getD u .dead=.live (B.k i) (l.map (B.eA i)):=by rw[dA,hbu];rfl
        have hos:=ahb (P:=P) (t:=t) (H:=H.av B) (y:=x) (z:=z) (k:=B.k i) (u:=u) (xs:=l.map (B.eA i)) (ik:=ik) (n:=n) (by rw[hr.od,hx];rfl) hbu' (by rw[hr.od,hz];rfl) (a8.1 c1) (by rw[List.length_map];exact a8.1 c2);refine⟨.own (H.av B).buf.length,_,aP e d (.own H.buf.length),⟨H.box,H.buf.set u .dead++[.live i (l.take n.toNat)]⟩,An hdr hos,?_,?_,h⟩
        ·have:=hr.put (B:=B) hd (.own H.buf.length);simp only[BV.av]at this;rw[gp'];exact this
        ·simp[BH.av,List.map_append,BB.av,List.map_take,List.map_set]
       ·cases h
      ·cases h
     ·cases h
    ·cases h
 | lI ty x=>
   simp only[cV,RL]at h;split at h
   ·rename_i i hi;split at h
    ·rename_i y hy;obtain⟨z,h1,h2,h3⟩:=hB.fd _ _ _ _ hy;exact⟨_,_,aP e d (.tr i y),H,dc λ_=>RB RC λM S w v hv=>(by
      have hv:=ahe (y:=z) hv (by rw[hr.od];exact h2) (by rw[hr.od];exact h3);rw[<- h1]at hv;exact hv),hr.put hd (.tr i y),rfl,h⟩
    ·cases h
   refine bk.aM (v:=.aG ty (aR e x)) hr hd ?_ h;simp only[aM,hr.od,BV.av];exact⟨(by first|rfl|trivial),(by first|rfl|trivial)⟩
 | fnv f a b=>
   refine bk.aM (v:=.fn f (a.map (aR e)) (b.map (aR e))) hr hd ?_ h;simp only[aM,hr.nk,BV.av];exact⟨(by first|rfl|trivial),(by first|rfl|trivial)⟩
 | call f as=>cases h
 | gr x as=>cases h
 | raw o ty=>cases h
end
end Go.Proofs.YtmfkphajohcklaaGreat.U
namespace Go.Proofs.YtmfkphajohcklaaGreat.U
open Go
section
variable {T:Nat->Type} {B:Tb T} {R:Type} {rb rt:List Nat} {H:BH T}
theorem Ac:∀ {l:List Nat} {n i:Nat},oS l n=some i->l[i]?=some n
 | [],n,i,h=>by cases h
 | m::l,n,i,h=>by
   simp only[oS]at h;split at h
   ·rename_i hm;cases h;rw[beq_eq hm];rfl
   ·split at h
    ·rename_i j hj;cases h;simpa using Ac hj
    ·cases h
def AV.atom:AV->Bool
 | .agg _ | .aL _ | .fn _ _ _ | .aG _ _=>false
 | _=>true
theorem my {x y:BV T} (h:nv rb rt H x=some y):du rb rt (H.av B) (x.av B) (y.av B)/\(x.av B).atom=true:=by
 unfold nv at h;split at h
 ·rename_i t;split at h
  ·rename_i j hj;cases h;exact⟨by simp only[BV.av,du];exact Ac hj,rfl⟩
  ·split at h
   ·rename_i i l hb;cases h;exact⟨by simp only[BV.av,du,dA,hb];rfl,rfl⟩
   ·cases h
 ·split at h
  ·rename_i j hj;cases h;exact⟨by simp only[BV.av,du];exact⟨Ac hj,trivial⟩,rfl⟩
  ·cases h
 ·split at h
  ·rename_i j hj;cases h;exact⟨by simp only[BV.av,du];exact⟨Ac hj,trivial,trivial,trivial⟩,rfl⟩
  ·cases h
 all_goals first
  | (cases h;exact⟨by simp only[BV.av];simp[du,AV.dat],by simp only[BV.av,AV.atom]⟩)
  | cases h
theorem Ww {A:AH} {x y:AV} (h:du rb rt A x y) (hx:x.atom=true):le0 rb rt A x y:=by
 unfold le0;split
 ·cases hx
 ·exact h
theorem Wx {A:AH} {x y:AV} (h:du rb rt A x y) (hx:x.atom=true):eP rb rt A x y:=by
 unfold eP;split
 ·cases hx
 ·cases hx
 ·exact h
theorem og {f:BV T->Option (BV T)} {Q:AV->AV->Prop} (hf:∀x y,f x=some y->Q (x.av B) (y.av B)):∀ {l r:List (BV T)},iJ f l=some r->dG Q (BV.an B l) (BV.an B r)
 | [],r,h=>by cases h;trivial
 | x::l,r,h=>by
   simp only[iJ]at h;split at h
   ·rename_i y r' h1 h2;cases h;exact⟨hf _ _ h1,og hf h2⟩
   ·cases h
theorem RH {x y:BV T} (h:vM rb rt H x=some y):le0 rb rt (H.av B) (x.av B) (y.av B):=by
 unfold vM at h;split at h
 ·split at h
  ·rename_i l hl;cases h;simp only[BV.av,le0];exact og (λx y h=>(my h).1) hl
  ·cases h
 ·exact Ww (my h).1 (my (B:=B) h).2
def AV.Kk:AV->Bool
 | .agg _ | .aL _=>false
 | _=>true
theorem afN {x:AV} (h:x.atom=true):x.Kk=true:=by cases x<;>first|rfl|cases h
theorem Iy {x y:BV T} (h:nw rb rt H x=some y):eP rb rt (H.av B) (x.av B) (y.av B)/\(x.av B).Kk=true:=by
 unfold nw at h;split at h
 ·split at h
  ·rename_i a b ha hb;cases h;simp only[BV.av,eP];exact⟨⟨trivial,og (λx y h=>(my h).1) ha,og (λx y h=>(my h).1) hb⟩,rfl⟩
  ·cases h
 ·split at h
  ·rename_i y hy;cases h;simp only[BV.av,eP];exact⟨⟨trivial,RH hy⟩,rfl⟩
  ·cases h
 ·exact⟨Wx (my h).1 (my (B:=B) h).2,afN (my h).2⟩
def AV.Cq:AV->Bool
 | .aL _=>false
 | _=>true
theorem qi {x y:BV T} (h:lQ rb rt H x=some y):le1 rb rt (H.av B) (x.av B) (y.av B)/\(x.av B).Cq=true:=by
 unfold lQ at h;split at h
 ·split at h
  ·rename_i l hl;cases h;simp only[BV.av,le1];exact⟨og (λx y h=>(Iy h).1) hl,rfl⟩
  ·cases h
 ·obtain⟨h1,h2⟩:=Iy (B:=B) h;refine⟨?_,by cases hx:x.av B<;>first|rfl|(rw[hx]at h2;cases h2)⟩;unfold le1;split
  ·rename_i e _;rw[e]at h2;cases h2
  ·exact h1
theorem vm {x y:AV} {A:AH} (h:le1 rb rt A x y) (hx:x.Cq=true):dF rb rt A x y:=by
 unfold dF;split
 ·cases hx
 ·exact h
theorem ajK {x y:BV T} (h:CC rb rt H x=some y):dF rb rt (H.av B) (x.av B) (y.av B):=by
 unfold CC at h;split at h
 ·split at h
  ·rename_i l hl;cases h;simp only[BV.av,dF];exact og (λx y h=>(qi h).1) hl
  ·cases h
 ·exact vm (qi h).1 (qi (B:=B) h).2
theorem mg {Q Q':AV->AV->Prop} (h:∀x y,Q x y->Q' x y):∀ {a b:List AV},dG Q a b->dG Q' a b
 | [],[],_=>trivial
 | _::_,_::_,hp=>⟨h _ _ hp.1,mg h hp.2⟩
 | [],_::_,hp=>hp.elim
 | _::_,[],hp=>hp.elim
section
variable {A A':AH} (hA:∀u k xs,A.buf.getD u .dead=.bf k xs->A'.buf.getD u .dead=.bf k xs)
include hA
theorem tI {x y:AV} (h:du [] [] A x y):du rb rt A' x y:=by
 unfold du at h ⊢;split at h
 ·trivial
 ·simp at h
 ·exact hA _ _ _ h
 ·exact h
 ·simp at h
 ·simp at h
 ·simp at h
 ·exact h
theorem agE {x y:AV} (h:le0 [] [] A x y):le0 rb rt A' x y:=by
 unfold le0 at h ⊢;split at h
 ·exact mg (λ_ _=>tI hA) h
 ·exact tI hA h
theorem Qd {x y:AV} (h:eP [] [] A x y):eP rb rt A' x y:=by
 unfold eP at h ⊢;split at h
 ·exact⟨h.1,mg (λ_ _=>tI hA) h.2.1,mg (λ_ _=>tI hA) h.2.2⟩
 ·exact⟨h.1,agE hA h.2⟩
 ·exact tI hA h
theorem Qc {x y:AV} (h:le1 [] [] A x y):le1 rb rt A' x y:=by
 unfold le1 at h ⊢;split at h
 ·exact mg (λ_ _=>Qd hA) h
 ·exact Qd hA h
end
theorem Ah:∀ {md:List Bool} {l r:List (BV T)},iI rb rt H md l=some r->dG (λx y=>le1 rb rt (H.av B) x y/\x.Cq=true) (BV.an B l) (BV.an B r)
 | _,[],r,h=>by
   have:r=[]:=by
    unfold iI at h;cases h;rfl
   subst this;trivial
 | md,x::l,r,h=>by
   have key:∃y r' md',((lQ [] [] H x=some y)\/lQ rb rt H x=some y)/\iI rb rt H md' l=some r'/\r=y::r':=by
    unfold iI at h;split at h
    ·rename_i e;cases e
    ·rename_i m x' l' e;cases e;split at h
     ·rename_i y r' h1 h2;cases h;exact⟨y,r',_,.inl h1,h2,rfl⟩
     ·cases h
    ·rename_i x' l' _ e;cases e;split at h
     ·rename_i y r' h1 h2;cases h;exact⟨y,r',_,.inr h1,h2,rfl⟩
     ·cases h
   obtain⟨y,r',md',h1,h2,rfl⟩:=key;refine⟨?_,Ah h2⟩;rcases h1 with h1|h1
   ·exact⟨Qc (λ_ _ _ h=>h) (qi h1).1,(qi h1).2⟩
   ·exact qi h1
theorem Kw {md:List Bool} {l r:List (BV T)} (h:iI rb rt H md l=some r):dG (dF rb rt (H.av B)) (BV.an B l) (BV.an B r):=
 mg (λ_ _ h=>vm h.1 h.2) (Ah h)
theorem OX:∀ {l:List Nat} {r:List (List (BV T))},vN rb rt H l=some r->vp rb rt (H.av B) l (r.map (BV.an B))
 | [],r,h=>by cases h;trivial
 | b::l,r,h=>by
   simp only[vN]at h;split at h
   ·rename_i cs r' h1 h2 h3;split at h
    ·rename_i ho;cases h;refine⟨by rw[n7];simpa using h1,by rw[mq];exact ho,?_,OX h3⟩;rw[qf];rw[Qz]at h2;exact og (λx y h=>(Iy h).1) h2
    ·cases h
   ·cases h
theorem afm (b:Buf):oZ b b:=by cases b<;>simp[oZ]
theorem O6:∀ {l:List Nat} {r:List (BB T)},vO H l=some r->vq (H.av B) l (r.map (BB.av B))
 | [],r,h=>by cases h;trivial
 | t::l,r,h=>by
   simp only[vO]at h;split at h
   ·rename_i r' h1 h2;cases h;refine⟨by rw[gp'];simpa using h1,?_,O6 h2⟩;rw[dA];exact afm _
   ·cases h
theorem Q2:∀(l:List Nat) (n:Nat),nc l n=l.contains n
 | [],n=>rfl
 | m::l,n=>by
   simp only[nc,List.contains_cons];split
   ·rename_i h;rw[beq_eq h];simp
   ·rename_i h;have hne:¬n=m:=λe=>by subst e;simp at h
    rw[Q2 l n,beq_eq_false_iff_ne.2 hne,Bool.false_or]
theorem tw:∀l:List Nat,lJ l=nodup l
 | []=>rfl
 | x::l=>by
   simp only[lJ,nodup,Q2];split
   ·rename_i h;rw[h];rfl
   ·rename_i h;rw[h,tw l];rfl
theorem pQ:∀ {l:List Nat} {r:List Buf} {x:Nat},x∈eD l r->x∈l
 | [],_,_,h=>by simp[eD]at h
 | t::l,[],x,h=>by simp[eD]at h
 | t::l,B::r,x,h=>by
   cases B with
   | live k xs=>
     simp only[eD,List.mem_cons]at h;rcases h with rfl|h
     ·simp
     ·exact List.mem_cons_of_mem _ (pQ h)
   | map q k xs=>
     simp only[eD,List.mem_cons]at h;rcases h with rfl|h
     ·simp
     ·exact List.mem_cons_of_mem _ (pQ h)
   | dead=>exact List.mem_cons_of_mem _ (pQ h)
   | bf k xs=>exact List.mem_cons_of_mem _ (pQ h)
theorem tk:∀ {l:List Nat} (r:List Buf),nodup l=true->nodup (eD l r)=true
 | [],r,_=>by cases r<;>rfl
 | t::l,[],_=>rfl
 | t::l,B::r,h=>by
   simp only[nodup,Bool.and_eq_true,Bool.not_eq_true',List.contains_eq_mem,decide_eq_false_iff_not]at h;cases B with
   | live k xs=>
     simp only[eD,nodup,Bool.and_eq_true,Bool.not_eq_true',List.contains_eq_mem,decide_eq_false_iff_not];exact⟨λhm=>h.1 (pQ hm),tk r h.2⟩
   | map q k xs=>
     simp only[eD,nodup,Bool.and_eq_true,Bool.not_eq_true',List.contains_eq_mem,decide_eq_false_iff_not];exact⟨λhm=>h.1 (pQ hm),tk r h.2⟩
   | dead=>exact tk r h.2
   | bf k xs=>exact tk r h.2
theorem AO {K:BH T->Option R} {r:R} (h:pg rb rt H K=some r):∃H',qr rb rt (H.av B) (H'.av B)/\nodup rt=true/\K H'=some r:=by
 unfold pg at h;split at h
 ·rename_i bx bu h1 h2 h3;rw[Bool.and_eq_true,tw,tw]at h1;exact⟨_,⟨OX h2,O6 h3,h1.1,tk _ h1.2⟩,h1.2,h⟩
 ·cases h
theorem t5:∀(l:List Nat) (n i:Nat),ig l n i=cU l n i
 | [],n,i=>rfl
 | b::l,n,0=>rfl
 | b::l,n,i+1=>t5 l n i
theorem P2 {α β:Type} (f:α->β):∀(l:List Nat) (new old:List α),(ny l new old).map f=cI l (new.map f) (old.map f)
 | [],new,old=>by simp[ny,cI]
 | b::l,[],old=>by simp[ny,cI]
 | b::l,x::r,old=>by simp only[ny,cI,List.map_cons];rw[P2 f l r,List.map_set]
mutual
theorem Eb (f g:Nat->Nat):∀x:BV T,(x.up f g).av B=(x.av B).up f g
 | .raw x=>by simp only[BV.up,BV.av]
 | .emp=>by simp only[BV.up,BV.av,AV.up]
 | .int k n=>by simp only[BV.up,BV.av,AV.up]
 | .bool b=>by simp only[BV.up,BV.av,AV.up]
 | .str s=>by simp only[BV.up,BV.av,AV.up]
 | .flt k n=>by simp only[BV.up,BV.av,AV.up]
 | .agg cs=>by simp only[BV.up,BV.av,AV.up];rw[qj f g cs]
 | .aL cs=>by simp only[BV.up,BV.av,AV.up];rw[qj f g cs]
 | .sl i l=>by simp only[BV.up,BV.av,AV.up]
 | .own t=>by simp only[BV.up,BV.av,AV.up]
 | .ptr b o=>by simp only[BV.up,BV.av,AV.up]
 | .gJ b o p=>by simp only[BV.up,BV.av,AV.up]
 | .bz t i n o=>by simp only[BV.up,BV.av,AV.up]
 | .aZ cs=>by simp only[BV.up,BV.av,AV.up]
 | .fn h a b=>by simp only[BV.up,BV.av,AV.up];rw[qj f g a,qj f g b]
 | .aG t x=>by simp only[BV.up,BV.av,AV.up];rw[Eb f g x]
 | .tr i x=>by simp only[BV.up,BV.av,AV.up]
theorem qj (f g:Nat->Nat):∀l:List (BV T),BV.an B (BV.cI f g l)=ups f g (BV.an B l)
 | []=>by simp only[BV.cI,BV.an,ups]
 | x::l=>by simp only[BV.cI,BV.an,ups];rw[Eb f g x,qj f g l]
end
theorem ajR (Hc:BH T):(Ea rb rt H Hc).av B=eJ rb rt (H.av B) (Hc.av B):=by
 have e1:(λi=>ig rb H.box.length i)=cU rb (H.av B).box.length:=funext λi=>by rw[t5,n7]
 have e2:(λi=>ig rt H.buf.length i)=cU rt (H.av B).buf.length:=funext λi=>by rw[t5,gp']
 simp only[Ea,eJ,BH.av,P2,List.map_map];congr 2;refine List.map_congr_left λcs _=>?_;simp only[Function.comp];rw[QE,qj];show ups (λi=>ig rb H.box.length i) (λi=>ig rt H.buf.length i) _=_;rw[e1,e2];rfl
end
end Go.Proofs.YtmfkphajohcklaaGreat.U
namespace Go.Proofs.YtmfkphajohcklaaGreat.U
open Go
section
variable {T:Nat->Type} {B:Tb T} {R:Type}
structure aB.Ok (c:aB B) (P:Program) (N:Nat):Prop where
 ent:Enters P c.f
 res:∀a r,c.sh N a=some r->bQ P c.f (BV.an B (c.inn a).1) ((c.inn a).2.av B) (cw ((c.o.enc r).1.av B)) ((c.o.enc r).2.av B)
def IB (B:Tb T) (P:Program) (dr:Bool) (f:FuncId) (args:List (BV T)) (H:BH T) (K:BV T->BH T->Option R) (r:R):Prop:=Enters P f/\∃v H',(bQ P f (BV.an B args) (H.av B) (cw (v.av B)) (H'.av B)/\(dr=true->H'.av B=H.av B/\∀H0,bQ P f (BV.an B args) H0 (cw (v.av B)) H0))/\K v H'=some r
theorem aiX:(⟨[],[]⟩:BH T).av B=.nil:=rfl
variable {P:Program} {N:Nat} {dr:Bool} {args:List (BV T)} {H:BH T} {K:BV T->BH T->Option R} {r:R} {f:FuncId}
theorem tN {c:aB B} {a:c.A} {S:Type} {K:BV T->BH T->Option S} {s:S} (h:((c.sh N a).bind λr=>c.o.elim r K)=some s):∃rv,c.sh N a=some rv/\K (c.o.enc rv).1 (c.o.enc rv).2=some s:=by
 obtain⟨rv,h1,h2⟩:=Option.bind_eq_some_iff.1 h;rw[c.o.eE]at h2;exact⟨rv,h1,h2⟩
theorem agi {x:AV} (h:x.lR=true):cw x=.ret x:=by
 cases x<;>first|rfl|cases h
theorem ajn {f g:Nat->Nat} {v:BV T}:cw ((v.up f g).av B)=(match cw (v.av B)with
 | .ret r=>.ret (r.up f g)
 | .bS r=>.bS (r.up f g)):=by
 rw[Eb];generalize v.av B=a;cases a with
 | aG t x=>
   simp only[AV.up,cw];cases Nat.ble PM t<;>simp only[AV.up]
 | _=>simp only[AV.up,cw]
theorem Rm {x y:AV} (h:LW x y):ug (cw x) (cw y):=by
 cases h with
 | refl=>cases cw x<;>exact LW.refl _
 | aG t h=>simp only[cw];cases Nat.ble PM t<;>exact .aG _ h
 | emp k=>exact .emp k
 | sl k h=>exact .sl k h
 | agg h=>exact .agg h
 | aL h=>exact .aL h
 | aZ h=>exact .aZ h
 | fn f h h'=>exact .fn f h h'
theorem ajm {v:BV T} (h:Co v=true):cw (v.av B)=.ret (v.av B):=by
 cases v with
 | aG t x=>simp only[Co,Bool.not_eq_true']at h;simp only[BV.av,cw,h]
 | raw x=>cases x<;>first|rfl|cases h
 | _=>simp only[BV.av,cw]
theorem Aj:∀ {Γ:List (aB B)},(∀c∈Γ,c.Ok P N)->ji dr args H N K f Γ=some r->IB B P dr f args H K r
 | [],_,h=>by cases h
 | c::Γ,hΓ,h=>by
   have ih:ji dr args H N K f Γ=some r->IB B P dr f args H K r:=λh=>Aj (λc hc=>hΓ c (List.mem_cons_of_mem _ hc)) h;have hc:=hΓ c (List.mem_cons_self ..);simp only[ji,IQ]at h;split at h
   ·exact ih h
   ·rename_i hf;have hf:=beq_eq hf;subst hf;generalize (rch H 1000 (nr c.md args) [] []).1=rb at h;generalize (rch H 1000 (nr c.md args) [] []).2=rt at h;split at h
    ·rename_i hpl;obtain⟨p1,p2⟩:=c.WE hpl;split at h
     ·split at h
      ·split at h
       ·rename_i xs hxs;split at h
        ·rename_i a ha;obtain⟨rv,h1,h2⟩:=tN h;obtain⟨q1,q2⟩:=c.ok _ _ _ ha;have hcr:=hc.res a rv h1;rw[p1 a,p2 rv]at hcr;have hcr:bQ P c.f (BV.an B xs) .nil (cw ((c.o.enc rv).1.av B)) .nil:=bQ.lw hcr q1 (.refl _);have hle:=Ah (B:=B) hxs;have hall:∀H0:AH,dG (dF [] [] H0) (BV.an B args) (BV.an B xs):=λH0=>
          mg (λx y h=>vm (Qc (λu k xs hu=>by simp[aiX,AH.nil,List.getD]at hu) h.1) h.2) hle
         exact⟨hc.ent,_,H,⟨hcr.pure (hall _),λ_=>⟨rfl,λH0=>hcr.pure (hall H0)⟩⟩,h2⟩
        ·exact ih h
       ·exact ih h
      ·split at h
       ·rename_i xs hxs;split at h
        ·rename_i a ha;obtain⟨q1,q2⟩:=c.ok _ _ _ ha;have base:∀rv,c.sh N a=some rv->bQ P c.f (BV.an B xs) .nil (cw ((c.o.enc rv).1.av B)) .nil:=λrv h1=>by
          have hcr:=hc.res a rv h1;rw[p1 a,p2 rv]at hcr;exact bQ.lw hcr q1 (.refl _)
         have hle:=Kw (B:=B) hxs;rw[iS]at hle;split at h
         ·rename_i hts;obtain⟨rv,h1,h2⟩:=tN h;rw[hts]at hle;exact⟨hc.ent,_,H,⟨(base rv h1).pure hle,λh=>by cases h⟩,h2⟩
         ·rename_i hsc _;obtain⟨rv,h1,h2⟩:=tN h;have hs:=c.oks hsc rv;have hb:=base rv h1;refine⟨hc.ent,_,H,⟨?_,λh=>by cases h⟩,h2⟩;rw[agi hs]at hb ⊢;exact hb.lend _ hle hs
         ·obtain⟨rv,h1,h2⟩:=tN h;refine⟨hc.ent,_,_,⟨?_,λh=>by cases h⟩,h2⟩;rw[iS];exact(base rv h1).give _ hle
        ·exact ih h
       ·exact ih h
     ·exact ih h
    ·split at h
     ·exact ih h
     ·split at h
      ·rename_i xs hxs;obtain⟨Hc,hl,hnt,h⟩:=AO (B:=B) h;split at h
       ·rename_i a ha;obtain⟨rv,h1,h2⟩:=tN h;obtain⟨q1,q2⟩:=c.ok _ _ _ ha;have hcr:=(hc.res a rv h1).lw q1 q2;have hle:=Kw (B:=B) hxs;rw[iS]at hle hl;have:=hcr.lift _ rb rt hl hnt hle;refine⟨hc.ent,_,_,⟨?_,λh=>by cases h⟩,h2⟩;rw[ajn,ajR,iS];have e1:ig rb (fH H ((jk c.md args).flatMap eR)).box.length=cU rb (bC (H.av B) ((jk c.md args).flatMap eR)).box.length:=funext λi=>by rw[t5,<- iS,n7]
        have e2:ig rt (fH H ((jk c.md args).flatMap eR)).buf.length=cU rt (bC (H.av B) ((jk c.md args).flatMap eR)).buf.length:=funext λi=>by rw[t5,<- iS,gp']
        rw[e1,e2];exact this
       ·exact ih h
      ·exact ih h
def extFn:EK'->Array Value->Sem Value
 | .ib=>Extern.BytealgIndexByte.indexByte
 | .cs=>Extern.BytealgCount.count
 | .fb=>Extern.MathFloatBits.float64frombits
 | .ne=>Extern.AbiNoEscape.same
def jY (P:Program):List (FuncId×EK')->Prop
 | []=>True
 | (f,k)::r=>g8 P f (extFn k)/\jY P r
theorem QQ:∀ {l:List (FuncId×EK')} {f:FuncId} {k:EK'},jY P l->uJ l f=some k->g8 P f (extFn k)
 | [],_,_,_,h=>by cases h
 | (m,z)::l,f,k,hx,h=>by
   simp only[uJ]at h;split at h
   ·rename_i hm;cases h;rw[<- beq_eq hm];exact hx.1
   ·exact QQ hx.2 h
variable {e:SE T} {t:List AV} {ns:Nat}
theorem ahW (hr:bN B e t ns) {q:EK'} {as:List Od} {K:BV T->Option R} (hx:g8 P f (extFn q)) (h:BN q (as.map (aR e)) K=some r):∃v,(∀H0,OS P (.call f as) t H0 (.ret (v.av B)) H0)/\K v=some r:=by
 unfold BN at h;split at h
 ·rename_i s c hm;obtain⟨x,A8,rfl,hx1,hm⟩:=List.map_eq_cons_iff.1 hm;obtain⟨y,Th,rfl,hx2,hm⟩:=List.map_eq_cons_iff.1 hm;cases List.map_eq_nil_iff.1 hm;exact⟨_,λH0=>abh hx (by rw[hr.od,hx1];rfl) (by rw[hr.od,hx2];rfl),h⟩
 ·rename_i s c hm;obtain⟨x,A8,rfl,hx1,hm⟩:=List.map_eq_cons_iff.1 hm;obtain⟨y,Th,rfl,hx2,hm⟩:=List.map_eq_cons_iff.1 hm;cases List.map_eq_nil_iff.1 hm;exact⟨_,λH0=>ab6 hx (by rw[hr.od,hx1];rfl) (by rw[hr.od,hx2];rfl),h⟩
 ·rename_i n hm;obtain⟨x,A8,rfl,hx1,hm⟩:=List.map_eq_cons_iff.1 hm;cases List.map_eq_nil_iff.1 hm;exact⟨_,λH0=>aeT hx (by rw[hr.od,hx1];rfl),h⟩
 ·rename_i y hm;obtain⟨x,A8,rfl,hx1,hm⟩:=List.map_eq_cons_iff.1 hm;cases List.map_eq_nil_iff.1 hm;exact⟨_,λH0=>aeV hx (by rw[hr.od,hx1]),h⟩
 ·cases h
theorem agP {x:Operand} {ty tt:TypeId} {v:AV} {A:AH} {t:List AV} (h1:od t (ak x)=.aG tt v):OS P (.raw (.panic x) ty) t A (.bS (.aG tt v)) A:=by
 intro wr oc hc;obtain⟨hop,_⟩:=jK hc;intro M S w a hx hh _ K Q hK;have e1:=hx x (by rw[hop];simp[Op.operands]);rw[h1]at e1;obtain⟨u,hu,hr⟩:=AD e1;have hk:=hK M S (.iface tt u) w hh (aU.refl hh) (.aG _ _ _ hr);unfold Oper.wp;have e2:(execOp a.eval oc).run P w=.halt (.panic (.iface tt u)) w:=by
  simp only[execOp,hop,hu];rfl
 rw[e2];exact hk
def dK (q:List IntKind) (ns:List Int):Array Value:=(List.zipWith Value.int q ns).toArray
theorem Qi {k:IntKind} {n:Int} {c:BV T}:lK k n c=true↔c.av B=.v (.int k n):=by
 have ii:∀k' m,(if k'=k then m==n else false)=true↔AV.v (.int k' m)=.v (.int k n):=λk' m=>by
  by_cases h:k'=k
  ·subst h;simp
  ·simp[h]
 cases c with
 | int k' m=>simp only[lK,BV.av];exact ii k' m
 | raw x=>
   cases x with
   | v y=>
     cases y with
     | int k' m=>simp only[lK,BV.av];exact ii k' m
     | _=>simp[lK,BV.av]
   | _=>simp[lK,BV.av]
 | _=>simp[lK,BV.av]
theorem Hr:∀ {q:List IntKind} {ns:List Int} {cs:List (BV T)},q≠[]->ns.length=q.length->(jz q ns cs=true↔∀j,j<q.length->(BV.an B cs).getD j .any=.v ((dK q ns).getD j undef))
 | [],_,_,h,_=>absurd rfl h
 | k::q,[],_,_,h=>by simp at h
 | k::q,n::ns,[],_,_=>by
   constructor
   ·intro h;simp[jz]at h
   ·intro h;have:=h 0 (by simp);simp[BV.an]at this
 | k::q,n::ns,c::cs,_,hl=>by
   have hv:∀j,(dK (k::q) (n::ns)).getD (j+1) undef=(dK q ns).getD j undef:=λj=>by simp[dK,Array.getD]
   have h0:(dK (k::q) (n::ns)).getD 0 undef=.int k n:=by simp[dK,Array.getD]
   have hc:(∀j,j<(k::q).length->(BV.an B (c::cs)).getD j .any=.v ((dK (k::q) (n::ns)).getD j undef))↔c.av B=.v (.int k n)/\∀j,j<q.length->(BV.an B cs).getD j .any=.v ((dK q ns).getD j undef):=by
    constructor
    ·intro h;refine⟨by have:=h 0 (by simp);rw[h0]at this;simpa[BV.an]using this,λj hj=>?_⟩;have:=h (j+1) (by simp;omega);rw[hv]at this;simpa[BV.an]using this
    ·rintro⟨h1,h2⟩ j hj;cases j with
     | zero=>rw[h0];simpa[BV.an]using h1
     | succ j=>rw[hv];simpa[BV.an]using h2 j (by simp at hj;omega)
   rw[hc];cases q with
   | nil=>simp only[jz,Qi (B:=B)];simp
   | cons k2 q2=>
     have ih:=Hr (q:=k2::q2) (ns:=ns) (cs:=cs) (by simp) (by simpa using hl);simp only[jz,Bool.and_eq_true,Qi (B:=B)];exact and_congr_right λ_=>ih
theorem Hf:∀ {q:List IntKind} {cs:List (BV T)} {ns:List Int},ri q cs=some ns->ns.length=q.length/\BV.an B cs=(dK q ns).toList.map .v
 | [],[],ns,h=>by cases h;exact⟨rfl,rfl⟩
 | [],_::_,ns,h=>by cases h
 | k::q,[],ns,h=>by cases h
 | k::q,c::cs,ns,h=>by
   cases c with
   | int k' n=>
     simp only[ri]at h;split at h
     ·rename_i hk;subst hk;obtain⟨ns',h1,rfl⟩:=Option.map_eq_some_iff.1 h;obtain⟨h2,h3⟩:=Hf h1;exact⟨by simp[h2],by simp[BV.an,BV.av,h3,dK]⟩
     ·cases h
   | _=>cases h
theorem Io:∀ {q:List IntKind} {ns:List Int},ns.length=q.length->ju q ns=true->KC q (dK q ns).toList
 | [],[],_,_=>trivial
 | [],_::_,h,_=>by simp at h
 | k::q,[],h,_=>by simp at h
 | k::q,n::ns,hl,h=>by
   simp only[ju,Bool.and_eq_true]at h;have:=Io (q:=q) (ns:=ns) (by simpa using hl) h.2.2;refine⟨⟨n,rfl,?_⟩,by simpa[dK]using this⟩;simp only[Lit.wf,Bool.and_eq_true,decide_eq_true_eq];exact⟨a8.1 h.1,a8.1 h.2.1⟩
theorem PP:∀ {cs:List (BV T)},allI cs=true->(BV.an B cs).all AV.dat=true/\ones (BV.an B cs)=true/\∀x∈BV.an B cs,∃v,x=.v v
 | [],_=>⟨rfl,rfl,λx h=>by cases h⟩
 | c::cs,h=>by
   cases c with
   | int k n=>
     obtain⟨h1,h2,h3⟩:=PP (cs:=cs) h;refine⟨?_,?_,λx hx=>?_⟩
     ·simp only[BV.an,BV.av,List.all_cons,h1,Bool.and_true];rfl
     ·simp only[BV.an,BV.av,ones,List.all_cons];simp only[ones]at h2;rw[h2];rfl
     ·simp only[BV.an,BV.av]at hx;rcases List.mem_cons.1 hx with rfl|hx
      ·exact⟨_,rfl⟩
      ·exact h3 x hx
   | _=>cases h
theorem Ke:∀ {a b:List AV},aF a b->(∀x∈a,∃v,x=AV.v v)->b=a
 | _,_,.nil,_=>rfl
 | _,_,.cons h r,hv=>by
   obtain⟨v,rfl⟩:=hv _ (List.mem_cons_self ..);cases h;rw[Ke r λx hx=>hv x (List.mem_cons_of_mem _ hx)]
theorem Q5 {α:Type} {ks:Array Value} {f:α->AV} {p:α->Bool} {y:α} (hp:∀x,p x=true↔iB ks (f x)):∀(l:List α) (pre:List AV),(∀x∈pre,¬iB ks x)->uk ks (f y) (pre++l.map f) (pre++(kj p y l).map f)
 | [],pre,h=>by rw[List.map_nil,List.append_nil];exact .new h
 | x::l,pre,h=>by
   rw[kj];cases hx:p x with
   | true=>simp only[cond_true,List.map_cons];exact .old ((hp x).1 hx)
   | false=>
     simp only[cond_false,List.map_cons];have:=Q5 hp (y:=y) l (pre++[f x]) λz hz=>by
      rcases List.mem_append.1 hz with hz|hz
      ·exact h z hz
      ·rw[List.mem_singleton.1 hz];intro hh;rw[(hp x).2 hh]at hx;cases hx
     simpa using this
def lG (P:Program) (B:Tb T):List (TypeId×((i:Nat)×T i×Nat))->Prop
 | []=>True
 | (te,⟨i,z,aQ⟩)::r=>(∃ks,oD P te ks=some (B.eA i z,B.k i,aQ))/\lG P B r
theorem Q3:∀ {l:List (TypeId×((i:Nat)×T i×Nat))} {te:TypeId} {i:Nat} {z:T i} {aQ:Nat},lG P B l->vx l te=some ⟨i,z,aQ⟩->∃ks,oD P te ks=some (B.eA i z,B.k i,aQ)
 | [],_,_,_,_,_,h=>by cases h
 | (m,⟨j,z',b'⟩)::l,te,i,z,aQ,hx,h=>by
   simp only[vx]at h;split at h
   ·rename_i hm;cases h;rw[<- beq_eq hm];exact hx.1
   ·exact Q3 hx.2 h
variable {d:Option Nat} {K:SE T->BH T->Option R}
theorem afB {P:Program} {t:List AV} {H:AH} {r1:AE} {H':AH} {ty ty':TypeId} {n k:Nat} {pp:Array (Nat×Operand)} {ps:List Od} (hc:bZ P (true,[]) (Cv (.buildSlice ty n pp))=some (.cq k ps)) (h:OS P (.cq k ps) t H r1 H'):OS P (.raw (.buildSlice ty n pp) ty') t H r1 H':=by
 intro wr oc hc';obtain⟨hop,_⟩:=jK hc';refine h (true,[]) oc ?_;have e1:asIs (true,[]) oc=false:=by
  unfold asIs;split<;>rfl
 unfold bY;rw[e1,ahM (o':=Cv (.buildSlice ty n pp)) hop,hc]
theorem ah8 (hB:B.Ok) {h0:Hint T} (hh:h0.Ok B) (hm:lG P B h0.fJ) (fX:∀i l s,h0.bo i l=some s->B.k i=1/\∃m:List Int,l.map (B.eA i)=m.map jB/\s=jf m) (hr:bN B e t ns) (hd:okD ns d=true) {o:Op} {ty:TypeId} (h:fZ B P h0 e H d o K=some r):bk B P dr t H d (.raw o ty) ns K r:=by
 have pure:∀ {v:BV T},(∀H0,OS P (.raw o ty) t H0 (.ret (v.av B)) H0)->(SO.raw o ty).acts=false->(SO.raw o ty).frames=false->K (aP e d v) H=some r->bk B P dr t H d (.raw o ty) ns K r:=λ{v} hos _ hf h=>
  ⟨v.av B,H.av B,aP e d v,H,dc hos rfl hf,hr.put hd v,rfl,h⟩
 have hb:∀ {x:Operand} {v:BV T},cQ e x=v->od t (ak x)=v.av B:=λ{x v} hx=>by rw[hr.od];exact congrArg (BV.av B) hx
 cases o with
 | call c=>
   obtain⟨cal,args,ts⟩:=c;cases cal with
   | builtin b=>
     cases b with
     | max=>
       simp only[fZ]at h;split at h
       ·rename_i x y ha;split at h
        ·rename_i k a k' b hx hy;have:args=#[x,y]:=by rw[<- Array.toList_inj,ha]
         subst this;exact pure (v:=.int k (max a b)) (λH0=>ajE (hb hx) (hb hy)) rfl rfl h
        ·cases h
       ·cases h
     | min=>
       simp only[fZ]at h;split at h
       ·rename_i x y ha;split at h
        ·rename_i k a k' b hx hy;have:args=#[x,y]:=by rw[<- Array.toList_inj,ha]
         subst this;exact pure (v:=.int k (min a b)) (λH0=>ajF (hb hx) (hb hy)) rfl rfl h
        ·cases h
       ·cases h
     | len=>
       simp only[fZ]at h;split at h
       ·rename_i x ty' ha hta;split at h
        ·rename_i u hT hx;have:args=#[x]:=by rw[<- Array.toList_inj,ha]
         subst this;have:ts=#[ty']:=by rw[<- Array.toList_inj,hta]
         subst this;split at h
         ·rename_i q j l hbu;have hbu':(H.av B).buf.getD u .dead=.map q (B.k j) (l.map (B.eA j)):=by rw[dA,hbu];rfl
          have hos:=afA (P:=P) (ty:=ty) hT ((hb hx).trans (by simp only[BV.av])) hbu';rw[List.length_map]at hos;exact⟨.v (.int .i64 l.length),_,_,_,gZ rfl hos,by have:=hr.put (B:=B) hd (.int .i64 l.length);simpa only[BV.av]using this,rfl,h⟩
         ·cases h
        ·cases h
       ·cases h
     | _=>cases h
   | _=>cases h
 | index te x i=>
   simp only[fZ]at h;split at h
   ·rename_i m k ag cs ik n hc hx hi;obtain⟨e',hu,hl⟩:=afQ hc;split at h
    ·rename_i j hj;split at h
     ·rename_i l hk hdm;have hk:=beq_eq hk;obtain⟨el,hel,h⟩:=Option.bind_eq_some_iff.1 h;obtain⟨i1,i2,i3⟩:=jL hel;obtain⟨pre,mid,suf,e1,e2,e3,e4⟩:=Av hB hdm i3;have hlen:=congrArg List.length e1;simp only[List.length_append,cC,e2,e3]at hlen;have hlm:=(HA hB hdm).1;refine pure (v:=fI ag (B.enc j el)) (λH0=>?_) rfl rfl h;rw[lH,hB.enc];have hos:=RA (P:=P) (t:=t) (H:=H0) (te:=te) (ty:=ty) (x:=x) (i:=i) (cs:=BV.an B cs) (ik:=ik) (n:=n) hu hl ((hb hx).trans (by simp only[BV.av])) ((hb hi).trans (by simp only[BV.av])) i1 (by omega) (by rw[cC,<- hk];omega);refine hos.lw (Kg ag ?_) (dh.refl _);rw[e1,<- hk,<- e2,List.append_assoc,List.drop_left,List.take_append_of_le_length (by omega),List.take_of_length_le (by omega)];exact e4
     ·cases h
    split at h
    ·rename_i hb';simp only[Bool.and_eq_true,g6,fS,decide_eq_true_eq,Nat.ble_eq]at hb';obtain⟨⟨b1,b2⟩,b3⟩:=hb';refine pure (v:=fI ag ((cs.drop (n.toNat*k)).take k)) (λH0=>?_) rfl rfl h;rw[lH];have e1:BV.an B ((cs.drop (n.toNat*k)).take k)=((BV.an B cs).drop (n.toNat*k)).take k:=by simp only[db,List.map_take,List.map_drop]
     rw[e1];exact RA (cs:=BV.an B cs) (ik:=ik) (n:=n) hu hl ((hb hx).trans (by simp only[BV.av])) ((hb hi).trans (by simp only[BV.av])) b1 b2 (by rw[cC];exact b3)
    ·cases h
   ·cases h
 | nilCheck x=>
   simp only[fZ]at h;split at h
   ·rename_i b o' hx;exact pure (v:=.ptr b o') (λH0=>ajI (hb hx)) rfl rfl h
   ·rename_i u i n o' hx;exact pure (v:=.bz u i n o') (λH0=>ah2 (hb hx)) rfl rfl h
   ·rename_i cs hx;exact pure (v:=.aZ cs) (λH0=>by simp only[BV.av];exact ah1 ((hb hx).trans (by simp only[BV.av]))) rfl rfl h
   ·cases h
 | binOp op te x y ty'=>
   simp only[fZ]at h;split at h
   ·rename_i k m k' n ho hx hy;split at h
    ·rename_i hk;subst hk;exact pure (v:=.bool (oN op k' m n)) (λH0=>ahZ ho (hb hx) (hb hy)) rfl rfl h
    ·cases h
   ·rename_i xs ys ho hx hy;split at h
    ·rename_i ne ls hne hls;split at h
     ·rename_i b hbb;refine pure (v:=.bool (fY ne b)) (λH0=>?_) rfl rfl h;have:=ai7 (P:=P) (t:=t) (H:=H0) (op:=op) (te:=te) (ty':=ty') (ty:=ty) (x:=x) (y:=y) (b:=b) hne hls ((hb hx).trans (by rw[BV.av])) ((hb hy).trans (by rw[BV.av])) (HX (B:=B) hbb);rw[<- iU]at this;exact this
     ·cases h
    ·cases h
   ·cases h
 | makeMap mt rs=>
   simp only[fZ]at h;split at h
   ·rename_i q k zs i hc hi;split at h
    ·refine⟨.own (H.av B).buf.length,⟨(H.av B).box,(H.av B).buf++[.map q (B.k i) []]⟩,aP e d (.own H.buf.length),_,gZ rfl (agO q (B.k i)),?_,?_,h⟩
     ·have:=hr.put (B:=B) hd (.own H.buf.length);simp only[BV.av]at this;rw[gp'];exact this
     ·simp only[BH.av,List.map_append,List.map_cons,List.map_nil,BB.av]
    ·cases h
   ·cases h
 | lookup mt x i c=>
   simp only[fZ]at h;split at h
   ·rename_i q k zs u ks hc hx hi;have hT:=O2 hc;split at h
    ·rename_i q' j l ns hbu hks;split at h
     ·rename_i hcc;obtain⟨rfl,rfl,hq⟩:=hcc;obtain⟨hkw,h⟩:=bW h;obtain⟨hl,hav⟩:=Hf (B:=B) hks;have hkc:=Io hl hkw;have hx':od t (ak x)=.own u:=(hb hx).trans (by simp only[BV.av]);have hi':od t (ak i)=j9 (dK q' ns):=(hb hi).trans (by simp only[BV.av,j9,hav]);have hbu':(H.av B).buf.getD u .dead=.map q' (B.k j) (l.map (B.eA j)):=by rw[dA,hbu];rfl
      have hsz:(dK q' ns).size=q'.length:=by simp[dK,hl]
      have hiff:∀y,jz q' ns (B.enc j y)=true↔iB (dK q' ns) (B.eA j y):=λy=>by
       rw[Hr (B:=B) hq hl,hB.enc];unfold iB;rw[hsz]
      have hcz:BV.an B ((zs.map fU:List (BV T)))=zs:=by
       rw[db,List.map_map]
       conv=>rhs;rw[<- List.map_id zs]
       exact List.map_congr_left λz _=>HK z
      unfold vv at h;split at h
      ·rename_i y hf;have hy:=List.mem_of_find?_eq_some hf;obtain⟨m,hm,UK⟩:=List.getElem_of_mem hy;have hos:=afd (P:=P) (ty:=ty) (c:=c) (j:=m) (y:=B.eA j y) hT hx' hbu' hi' hkc (by rw[List.getElem?_map,List.getElem?_eq_getElem hm,UK];rfl) ((hiff y).1 (by have:=List.find?_some hf;exact this));have hen:BV.an B ((B.enc j y).drop q'.length)=(B.eA j y).cells.drop q'.length:=by rw[<- hB.enc,db,db,List.map_drop]
       cases c with
       | true=>exact⟨.aL [.agg ((B.eA j y).cells.drop q'.length),.b true],_,_,_,gZ rfl hos,by have:=hr.put (B:=B) hd (.aL [.agg ((B.enc j y).drop q'.length),.bool true]);simpa only[BV.av,BV.an,hen]using this,rfl,h⟩
       | false=>exact⟨.agg ((B.eA j y).cells.drop q'.length),_,_,_,gZ rfl hos,by have:=hr.put (B:=B) hd (.agg ((B.enc j y).drop q'.length));simpa only[BV.av,BV.an,hen]using this,rfl,h⟩
      ·rename_i hf;have hos:=aeU (P:=P) (ty:=ty) (c:=c) hT hx' hbu' hi' hkc λy hy hh=>by
        obtain⟨z,hz,rfl⟩:=List.mem_map.1 hy;have:=List.find?_eq_none.1 hf z hz;exact this ((hiff z).2 hh)
       cases c with
       | true=>exact⟨.aL [.agg zs,.b false],_,_,_,gZ rfl hos,by have:=hr.put (B:=B) hd (.aL [.agg (zs.map fU),.bool false]);simp only[BV.av,BV.an]at this;rw[hcz]at this;exact this,rfl,h⟩
       | false=>exact⟨.agg zs,_,_,_,gZ rfl hos,by have:=hr.put (B:=B) hd (.agg (zs.map fU));simp only[BV.av]at this;rw[hcz]at this;exact this,rfl,h⟩
     ·cases h
    ·cases h
   ·cases h
 | mapUpdate mt x i z=>
   simp only[fZ]at h;split at h
   ·rename_i q k zs u ks vs hc hx hi hz;have hT:=O2 hc;split at h
    ·rename_i q' j l ns hbu hks;split at h
     ·rename_i y hdec hall;split at h
      ·rename_i hcc;obtain⟨rfl,rfl,hq,hlen⟩:=hcc;obtain⟨hkw,h⟩:=bW h;rw[Bool.and_eq_true]at hall;obtain⟨hall,hag⟩:=hall;obtain⟨hl,hav⟩:=Hf (B:=B) hks;have hkc:=Io hl hkw;have hx':od t (ak x)=.own u:=(hb hx).trans (by simp only[BV.av]);have hi':od t (ak i)=j9 (dK q' ns):=(hb hi).trans (by simp only[BV.av,j9,hav]);have hz':od t (ak z)=.agg (BV.an B vs):=(hb hz).trans (by simp only[BV.av]);have hbu':(H.av B).buf.getD u .dead=.map q' (B.k j) (l.map (B.eA j)):=by rw[dA,hbu];rfl
       have hsz:(dK q' ns).size=q'.length:=by simp[dK,hl]
       have hiff:∀y,jz q' ns (B.enc j y)=true↔iB (dK q' ns) (B.eA j y):=λy=>by
        rw[Hr (B:=B) hq hl,hB.enc];unfold iB;rw[hsz]
       obtain⟨d1,d2,d3⟩:=PP (B:=B) hall;have hcells:(B.eA j y).cells=(dK q' ns).toList.map .v++BV.an B vs:=by
        have:=hB.dec j _ y hdec;rw[iP,hav]at this;refine Ke this λa ha=>?_;rcases List.mem_append.1 ha with ha|ha
        ·obtain⟨v,_,rfl⟩:=List.mem_map.1 ha;exact⟨v,rfl⟩
        ·exact d3 a ha
       have hy:B.eA j y=.agg ((dK q' ns).toList.map .v++BV.an B vs):=by rw[hB.ag j y hag,hcells]
       have hput:=Q5 (y:=y) hiff l [] (λx hx=>by cases hx);rw[hy]at hput;have hos:=ajH (P:=P) (ty:=ty) (xs':=(kj (λy=>jz q' ns (B.enc j y)) y l).map (B.eA j)) hT hx' hbu' hi' hkc hz' d1 d2 (by rw[cC];exact hlen) hput;refine⟨_,_,aP e d (.raw (.v undef)),_,gZ rfl hos,?_,?_,h⟩
       ·have:=hr.put (B:=B) hd (.raw (.v undef));simpa only[BV.av]using this
       ·simp only[BH.av,List.map_set,BB.av]
      ·cases h
     ·cases h
    ·cases h
   ·cases h
 | typeAssert x xt ad ok=>
   simp only[fZ]at h;split at h
   ·rename_i z hz;have hz':(cbv z:BV T).av B=z:=Rq z;split at h
    ·rename_i t' v hx;split at h
     ·rename_i hte;have hte:=beq_eq hte;subst hte;refine pure (v:=.aL [v,.bool true]) (λH0=>?_) rfl rfl h;have:=afC (P:=P) (t:=t) (H:=H0) (x:=x) (xt:=xt) (ty:=ty) hz (v:=v.av B) ((hb hx).trans (by simp only[BV.av]));simpa only[BV.av,BV.an]using this
     ·rename_i hte;refine pure (v:=.aL [cbv z,.bool false]) (λH0=>?_) rfl rfl h;have:=afe (P:=P) (t:=t) (H:=H0) (x:=x) (xt:=xt) (ty:=ty) hz (v:=v.av B) (T:=t') ((hb hx).trans (by simp only[BV.av])) (by
       cases hbb:(t'==ad)with
       | false=>rfl
       | true=>rw[eq_of_beq hbb]at hte;simp at hte)
      simpa only[BV.av,BV.an,hz']using this
    ·rename_i hx;refine pure (v:=.aL [cbv z,.bool false]) (λH0=>?_) rfl rfl h;have:=afD (P:=P) (t:=t) (H:=H0) (x:=x) (xt:=xt) (ty:=ty) hz ((hb hx).trans (by simp only[BV.av]));simpa only[BV.av,BV.an,hz']using this
    ·cases h
   ·cases h
 | convert src dst x=>
   simp only[fZ]at h;have see:∀ {m:List Int},qz P src dst=true->isRow (od t (ak x))=true->(∀bx,dH ⟨bx,(H.av B).buf⟩ 1 (od t (ak x))=some (m.map jB))->K (aP e d (.str (jf m))) H=some r->bk B P dr t H d (.raw (.convert src dst x) ty) ns K r:=λ{m} hc hi hs h=>by
    obtain⟨el,h1,h2,h3⟩:=agm hc;exact⟨(BV.str (jf m)).av B,H.av B,aP e d (.str (jf m)),H,gf rfl (λbx=>ai4 h1 h3 h2 hi (hs _)),hr.put hd _,rfl,h⟩
   have IL:∀ {u:Nat} {i:Nat} {l:List (T i)} {s:List UInt8},cQ e x=.own u->(cR H u=.live i l\/cR H u=.bf i l)->qz P src dst=true->h0.bo i l=some s->K (aP e d (.str s)) H=some r->bk B P dr t H d (.raw (.convert src dst x) ty) ns K r:=λ{u i l s} hx hu hc hs h=>by
    obtain⟨hk,m,hm,rfl⟩:=fX _ _ _ hs;refine see hc (by rw[hb hx];rfl) (λbx=>?_) h;rw[hb hx];show lT 1 ((H.av B).buf.getD u .dead)=_;have e1:(H.av B).buf.getD u .dead=(cR H u).av B:=by
     simp only[BH.av,cR,List.getD,List.getElem?_map];cases H.buf[u]?<;>rfl
    rw[e1];rcases hu with hu|hu<;>rw[hu]<;>simp only[BB.av,lT,hk,hm,if_true]
   split at h
   ·rename_i i l hc hx;split at h
    ·rename_i s hs;obtain⟨hk,m,hm,rfl⟩:=fX _ _ _ hs;refine see hc (by rw[hb hx];rfl) (λbx=>?_) h;rw[hb hx];simp only[BV.av,dH,hk,hm,if_true]
    ·cases h
   ·rename_i u hc hx;split at h
    ·rename_i i l hu;split at h
     ·rename_i s hs;exact IL hx (.inl hu) hc hs h
     ·cases h
    ·rename_i i l hu;split at h
     ·rename_i s hs;exact IL hx (.inr hu) hc hs h
     ·cases h
    ·cases h
   ·rename_i hc hx;exact see (m:=[]) hc (by rw[hb hx];rfl) (λbx=>by rw[hb hx];rfl) h
   ·cases h
 | makeSlice te x y=>
   simp only[fZ]at h;split at h
   ·rename_i i z aQ kl l kc c hmk hx hy;obtain⟨ks,hmk⟩:=Q3 hm hmk;split at h
    ·rename_i hby;obtain⟨h1,h⟩:=bW h;have h1:=a8.1 h1;have hx':od t (ak x)=.v (.int kl l):=hb hx;have hy':od t (ak y)=.v (.int kc c):=hb hy;have hlc:l<=c/\gd (leB ((aQ:Int)*c) 281474976710656) (K (aP e d (.own H.buf.length)) ⟨H.box,H.buf++[.live i (List.replicate l.toNat z)]⟩)=some r:=by
      unfold JF at h;split at h
      ·rename_i hso;refine⟨?_,h⟩;have hxy:x=y:=by
        unfold Kx at hso;split at hso
        ·rw[beq_eq hso]
        ·cases hso
       subst hxy;rw[hx']at hy';simp at hy';omega
      ·obtain⟨h2,h⟩:=bW h;exact⟨a8.1 h2,h⟩
     obtain⟨h3,h⟩:=bW hlc.2;have h3:=a8.1 h3;have hby:0<aQ:=by simpa using hby
     have h63:c<=9223372036854775807:=by
      have:(1:Int)*c<=(aQ:Int)*c:=Int.mul_le_mul_of_nonneg_right (by omega) (by omega);omega
     refine⟨.own (H.av B).buf.length,⟨(H.av B).box,(H.av B).buf++[.live (B.k i) (List.replicate l.toNat (B.eA i z))]⟩,aP e d (.own H.buf.length),_,?_,?_,?_,h⟩
     ·exact⟨RD hmk hx' hy' h1 hlc.1 h3 h63,λ_=>⟨λe=>absurd e (by simp[SO.acts,lP]),λe=>absurd e (by simp[SO.acts,lP]),λe=>absurd e (by simp[SO.acts,lP]),λe=>absurd e (by simp[SO.news]),λ_=>⟨rfl,λbox=>RD (H:=⟨box,(H.av B).buf⟩) hmk hx' hy' h1 hlc.1 h3 h63⟩⟩⟩
     ·have:=hr.put (B:=B) hd (.own H.buf.length);simp only[BV.av]at this;rw[gp'];exact this
     ·simp only[BH.av,List.map_append,List.map_cons,List.map_nil,BB.av,List.map_replicate]
    ·cases h
   ·cases h
 | buildSlice bt n pp=>
   simp only[fZ]at h;split at h
   ·rename_i k ps hc;obtain⟨v,H1,e',H',es,h2,h3,h4⟩:=Rp hB hh (P:=P) (dr:=false) hr hd h;exact⟨v,H1,e',H',⟨afB hc es.1,λ_=>⟨λe=>absurd e (by simp[SO.acts,lP]),λe=>absurd e (by simp[SO.acts,lP]),λe=>absurd e (by simp[SO.acts,lP]),λe=>absurd e (by simp[SO.news]),λe=>absurd e (by simp[SO.frames])⟩⟩,h2,h3,h4⟩
   ·cases h
 | _=>cases h
end
end Go.Proofs.YtmfkphajohcklaaGreat.U
