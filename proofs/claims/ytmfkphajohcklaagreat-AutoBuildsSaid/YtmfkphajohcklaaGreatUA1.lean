/- The abstract values of a walk, and how they stand to the memory of the model: what a value reads as, what a call owns, what stays. No premise beyond what each theorem says. -/
import Derived.WalkKit
import GoSem.ClaimJoined
import Derived.LaidEql
set_option linter.all false
set_option linter.unusedSimpArgs false
set_option linter.unusedVariables false
namespace Go.Proofs.YtmfkphajohcklaaGreat.U
open Go
inductive AV where
 | any
 | emp
 | v (x:Value)
 | agg (cs:List AV)
 | aL (cs:List AV)
 | sl (k:Nat) (xs:List AV)
 | own (t:Nat)
 | cq (b o n k:Nat)
 | ptr (b o:Nat)
 | bz (t k i o:Nat)
 | aZ (cs:List AV)
 | fn (f:Fn) (first captured:List AV)
 | aG (t:TypeId) (x:AV)
 | opq (x:AV)
def bs (l:List UInt8):ByteArray:=⟨l.toArray⟩
abbrev AV.i (n:Int):AV:=.v (.int .i64 n)
abbrev AV.b (n:Bool):AV:=.v (.bool n)
abbrev AV.s (l:List UInt8):AV:=.v (.string (bs l))
def AV.cells:AV->List AV
 | .agg cs=>cs
 | x=>[x]
def AV.one:AV->Bool
 | .v x=>x.oneCell'
 | .any | .agg _ | .aL _=>false
 | _=>true
inductive aO (S:Nat->Prop) (w:World):Value->AV->Prop
 | any (v:Value):aO S w v .any
 | emp (a:Option Addr):aO S w (.slice a 0 0) .emp
 | v (x:Value):aO S w x (.v x)
 | agg (vs:Array Value) (cs:List AV) (hn:vs.size=cs.length) (h:∀i,i<cs.length->aO S w (vs.getD i undef) (cs.getD i .any)):aO S w (.agg vs) (.agg cs)
 | aL (vs:Array Value) (cs:List AV) (hn:vs.size=cs.length) (h:∀i,i<cs.length->aO S w (vs.getD i undef) (cs.getD i .any)):aO S w (.tuple vs) (.aL cs)
 | sl0 (a:Option Addr) (cap k:Nat):aO S w (.slice a 0 cap) (.sl k [])
 | sl (g o cap k:Nat) (xs:List AV) (c:Array Value) (T:TypeId) (fz:Nat×Nat) (hcap:xs.length<=cap) (hS:S g) (hg:w.heap[g]?=some (.cells c T fz)) (hb:o+xs.length*k<=c.size)
    (hk:∀i,i<xs.length->(xs.getD i .any).cells.length=k)
    (h1:∀i,i<xs.length->∀j,j<k->((xs.getD i .any).cells.getD j .any).one=true)
    (h:∀i,i<xs.length->∀j,j<k->aO S w (c.getD (o+i*k+j) undef) ((xs.getD i .any).cells.getD j .any)):aO S w (.slice (some ⟨g,o,none⟩) xs.length cap) (.sl k xs)
 | aZ (g o:Nat) (cs:List AV) (c:Array Value) (T:TypeId) (fz:Nat×Nat) (hS:S g) (hg:w.heap[g]?=some (.cells c T fz)) (hb:o+cs.length<=c.size)
    (h1:∀j,j<cs.length->(cs.getD j .any).one=true)
    (h:∀j,j<cs.length->aO S w (c.getD (o+j) undef) (cs.getD j .any)):aO S w (.pointer (some ⟨g,o,none⟩)) (.aZ cs)
 | fn (f:Fn) (vs us:Array Value) (as bs:List AV) (hn:vs.size=as.length) (hm:us.size=bs.length) (h:∀i,i<as.length->aO S w (vs.getD i undef) (as.getD i .any))
    (h':∀i,i<bs.length->aO S w (us.getD i undef) (bs.getD i .any)):aO S w (.func f vs us) (.fn f as bs)
 | aG (t:TypeId) (v:Value) (a:AV) (h:aO S w v a):aO S w (.iface t v) (.aG t a)
 | opq (v:Value) (a:AV) (h1:v.oneCell'=true) (h:aO S w v a):aO S w v (.opq a)
theorem aO.mono {S S':Nat->Prop} {w w':World} (hS:∀g,S g->S' g) (hw:∀g,S g->w'.heap[g]?=w.heap[g]?) {v:Value} {a:AV} (h:aO S w v a):aO S' w' v a:=by
 induction h with
 | any v=>exact .any v
 | emp a=>exact .emp a
 | v x=>exact .v x
 | agg vs cs hn _ ih=>exact .agg vs cs hn ih
 | aL vs cs hn _ ih=>exact .aL vs cs hn ih
 | sl0 a cap k=>exact .sl0 a cap k
 | sl g o cap k xs c T fz hc hs hg hb hk h1 _ ih=>exact .sl g o cap k xs c T fz hc (hS _ hs) ((hw _ hs).trans hg) hb hk h1 ih
 | aZ g o cs c T fz hs hg hb h1 _ ih=>exact .aZ g o cs c T fz (hS _ hs) ((hw _ hs).trans hg) hb h1 ih
 | fn f vs us as bs hn hm _ _ ih ih'=>exact .fn f vs us as bs hn hm ih ih'
 | aG t v a _ ih=>exact .aG t v a ih
 | opq v a h1 _ ih=>exact .opq v a h1 ih
structure Maps where
 nb:Nat
 nt:Nat
 box:Nat->Nat
 bv:Nat->Value
inductive am (M:Maps) (S:Nat->Prop) (w:World):Value->AV->Prop
 | data {v a} (h:aO S w v a):am M S w v a
 | own (t:Nat) (ht:t<M.nt) (hs:(∃a n c,M.bv t=.slice a n c)\/∃r,M.bv t=.map (some r)):am M S w (M.bv t) (.own t)
 | ptr (b o:Nat) (hb:b<M.nb):am M S w (.pointer (some ⟨M.box b,o,none⟩)) (.ptr b o)
 | cq (b o n k cap:Nat) (hb:b<M.nb):am M S w (.slice (some ⟨M.box b,o,none⟩) n cap) (.cq b o n k)
 | bz (t k i o g n cap:Nat) (ht:t<M.nt) (hv:M.bv t=.slice (some ⟨g,0,none⟩) n cap):am M S w (.pointer (some ⟨g,i*k+o,none⟩)) (.bz t k i o)
 | agg (vs:Array Value) (cs:List AV) (hn:vs.size=cs.length) (h:∀i,i<cs.length->am M S w (vs.getD i undef) (cs.getD i .any)):am M S w (.agg vs) (.agg cs)
 | aL (vs:Array Value) (cs:List AV) (hn:vs.size=cs.length) (h:∀i,i<cs.length->am M S w (vs.getD i undef) (cs.getD i .any)):am M S w (.tuple vs) (.aL cs)
 | fn (f:Fn) (vs us:Array Value) (as bs:List AV) (hn:vs.size=as.length) (hm:us.size=bs.length) (h:∀i,i<as.length->am M S w (vs.getD i undef) (as.getD i .any))
    (h':∀i,i<bs.length->am M S w (us.getD i undef) (bs.getD i .any)):am M S w (.func f vs us) (.fn f as bs)
 | aG (t:TypeId) (v:Value) (a:AV) (h:am M S w v a):am M S w (.iface t v) (.aG t a)
structure Maps.le (M M':Maps):Prop where
 nb:M.nb<=M'.nb
 nt:M.nt<=M'.nt
 box:∀b,b<M.nb->M'.box b=M.box b
 bv:∀t,t<M.nt->M'.bv t=M.bv t
theorem Maps.le.refl (M:Maps):M.le M:=⟨Nat.le_refl _,Nat.le_refl _,λ_ _=>rfl,λ_ _=>rfl⟩
theorem Maps.le.trans {M M' M'':Maps} (a:M.le M') (b:M'.le M''):M.le M'':=
 ⟨Nat.le_trans a.nb b.nb,Nat.le_trans a.nt b.nt,λi h=>(b.box i (Nat.lt_of_lt_of_le h a.nb)).trans (a.box i h),λi h=>(b.bv i (Nat.lt_of_lt_of_le h a.nt)).trans (a.bv i h)⟩
theorem am.mono {M M':Maps} {S S':Nat->Prop} {w w':World} (hS:∀g,S g->S' g) (hw:∀g,S g->w'.heap[g]?=w.heap[g]?)
 (hM:M.le M') {v:Value} {a:AV} (h:am M S w v a):am M' S' w' v a:=by
 induction h with
 | data h=>exact .data (h.mono hS hw)
 | own t ht hs=>rw[<- hM.bv t ht]at hs ⊢;exact .own t (Nat.lt_of_lt_of_le ht hM.nt) hs
 | ptr b o hb=>rw[<- hM.box b hb];exact .ptr b o (Nat.lt_of_lt_of_le hb hM.nb)
 | cq b o n k cap hb=>rw[<- hM.box b hb];exact .cq b o n k cap (Nat.lt_of_lt_of_le hb hM.nb)
 | bz t k i o g n cap ht hv=>exact .bz t k i o g n cap (Nat.lt_of_lt_of_le ht hM.nt) ((hM.bv t ht).trans hv)
 | agg vs cs hn _ ih=>exact .agg vs cs hn ih
 | aL vs cs hn _ ih=>exact .aL vs cs hn ih
 | fn f vs us as bs hn hm _ _ ih ih'=>exact .fn f vs us as bs hn hm ih ih'
 | aG t v a _ ih=>exact .aG t v a ih
inductive Buf where
 | dead
 | live (k:Nat) (xs:List AV)
 | bf (k:Nat) (xs:List AV)
 | map (q:List IntKind) (k:Nat) (xs:List AV)
def Buf.isLive:Buf->Bool
 | .live _ _=>true
 | .map _ _ _=>true
 | _=>false
structure AH where
 box:List (List AV)
 buf:List Buf
def AH.nil:AH:=⟨[],[]⟩
structure Row (S:Nat->Prop) (w:World) (k:Nat) (xs:List AV) (cap:Nat) (c:Array Value):Prop where
 fits:xs.length<=cap
 small:cap<=maxLen
 size:c.size=cap*k
 len:∀i,i<xs.length->(xs.getD i .any).cells.length=k
 one:∀i,i<xs.length->∀j,j<k->((xs.getD i .any).cells.getD j .any).one=true
 rep:∀i,i<xs.length->∀j,j<k->aO S w (c.getD (i*k+j) undef) ((xs.getD i .any).cells.getD j .any)
def Value.blk:Value->Option Nat
 | .slice (some a) _ (_+1)=>some a.block
 | .map (some r)=>some r
 | _=>none
def b9 (S:Nat->Prop) (w:World) (v:Value) (k:Nat) (xs:List AV):Prop:=((∃a,v=.slice a 0 0)/\xs=[])\/∃g cap c T,v=.slice (some ⟨g,0,none⟩) xs.length (cap+1)/\¬S g/\w.heap[g]?=some (.cells c T (0,0))/\Row S w k xs (cap+1) c
def KC:List IntKind->List Value->Prop
 | [],[]=>True
 | k::ks,c::cs=>(∃n,c=.int k n/\(Lit.int k n).wf=true)/\KC ks cs
 | _,_=>False
structure ov (S:Nat->Prop) (w:World) (q:List IntKind) (k:Nat) (e:MapEntry) (x:AV):Prop where
 len:x.cells.length=k
 one:∀j,j<k->(x.cells.getD j .any).one=true
 key:∃ks:Array Value,e.key=.agg ks/\KC q ks.toList/\∀j,j<q.length->x.cells.getD j .any=.v (ks.getD j undef)
 val:∃vs:Array Value,e.val=.agg vs/\q.length+vs.size=k/\∀j,j<vs.size->aO S w (vs.getD j undef) (x.cells.getD (q.length+j) .any)
def fe (S:Nat->Prop) (w:World) (v:Value) (q:List IntKind) (k:Nat) (xs:List AV):Prop:=∃(r:Nat) (es:Array MapEntry) (clock:Nat),v=.map (some r)/\¬S r/\w.heap[r]?=some (.map es clock)/\es.size=xs.length/\(∀(i:Nat) (e:MapEntry),es[i]?=some e->ov S w q k e (xs.getD i .any))/\∀(i j:Nat) (e e':MapEntry),es[i]?=some e->es[j]?=some e'->e.key=e'.key->i=j
def mC (S:Nat->Prop) (w:World) (v:Value):Buf->Prop
 | .map q k xs=>fe S w v q k xs
 | .dead=>True
 | .live k xs=>b9 S w v k xs
 | .bf k xs=>aO S w v (.sl k xs)
def lives (M:Maps) (H:AH) (t g:Nat):Prop:=t<H.buf.length/\(H.buf.getD t .dead).isLive=true/\Value.blk (M.bv t)=some g
def foot (M:Maps) (H:AH) (g:Nat):Prop:=(∃b,b<H.box.length/\M.box b=g)\/∃t,lives M H t g
structure ue (M:Maps) (S:Nat->Prop) (w:World) (g:Nat) (cs:List AV):Prop where
 un:¬S g
 at_:∃c T,w.heap[g]?=some (.cells c T (0,0))/\c.size=cs.length/\∀i,i<cs.length->(cs.getD i .any).one=true/\am M S w (c.getD i undef) (cs.getD i .any)
structure aE (M:Maps) (S:Nat->Prop) (H:AH) (w:World):Prop where
 nb:M.nb=H.box.length
 nt:M.nt=H.buf.length
 sits:∀g,S g->g<w.heap.size
 box:∀b,b<H.box.length->ue M S w (M.box b) (H.box.getD b [])
 buf:∀t,t<H.buf.length->mC S w (M.bv t) (H.buf.getD t .dead)
 bb:∀b b',b<H.box.length->b'<H.box.length->M.box b=M.box b'->b=b'
 tt:∀t t' g,lives M H t g->lives M H t' g->t=t'
 bt:∀b t g,b<H.box.length->lives M H t g->M.box b≠g
structure aU (M:Maps) (S:Nat->Prop) (H:AH) (w:World) (M':Maps) (S':Nat->Prop) (H':AH) (w':World):Prop where
 gW:M.nb=H.box.length
 gX:M.nt=H.buf.length
 os:w'.os=w.os
 tape:w'.tape=w.tape
 output:w'.output=w.output
 size:w.heap.size<=w'.heap.size
 sub:∀g,S g->S' g
 cv:∀g,S g->w'.heap[g]?=w.heap[g]?
 old:∀g,g<w.heap.size->¬foot M H g->w'.heap[g]?=w.heap[g]?
 le:M.le M'
 news:∀g,S' g->S g\/foot M H g\/w.heap.size<=g
 eG:∀g,foot M' H' g->foot M H g\/w.heap.size<=g
theorem aU.refl {M:Maps} {S:Nat->Prop} {H:AH} {w:World} (hh:aE M S H w):aU M S H w M S H w:=
 ⟨hh.nb,hh.nt,rfl,rfl,rfl,Nat.le_refl _,λ_ h=>h,λ_ _=>rfl,λ_ _ _=>rfl,.refl M,λ_ h=>.inl h,λ_ h=>.inl h⟩
theorem aU.trans {M S H w M1 S1 H1 w1 M2 S2 H2 w2} (a:aU M S H w M1 S1 H1 w1) (b:aU M1 S1 H1 w1 M2 S2 H2 w2):aU M S H w M2 S2 H2 w2 where
 gW:=a.gW
 gX:=a.gX
 os:=b.os.trans a.os
 tape:=b.tape.trans a.tape
 output:=b.output.trans a.output
 size:=Nat.le_trans a.size b.size
 sub:=λg h=>b.sub g (a.sub g h)
 cv:=λg h=>(b.cv g (a.sub g h)).trans (a.cv g h)
 old:=λg hg hf=>(b.old g (Nat.lt_of_lt_of_le hg a.size) (λh=>(a.eG g h).elim hf (λh=>by omega))).trans (a.old g hg hf)
 le:=a.le.trans b.le
 news:=λg h=>by
  rcases b.news g h with h|h|h
  ·exact a.news g h
  ·exact .inr (a.eG g h)
  ·exact .inr (.inr (Nat.le_trans a.size h))
 eG:=λg h=>by
  rcases b.eG g h with h|h
  ·exact a.eG g h
  ·exact .inr (Nat.le_trans a.size h)
inductive Od where
 | t (n:Nat)
 | c (x:AV)
inductive EK where
 | i (k:IntKind)
 | s
 | b
inductive SO where
 | gS (x:Od)
 | box (x:Od)
 | alloc (zs:List AV)
 | build (zs:List AV) (ps:List (Nat×Nat×Od))
 | cq (k:Nat) (ps:List Od)
 | ld (n:Nat) (ag:Bool) (x:Od)
 | st (n:Nat) (x y:Od)
 | fa (off:Nat) (x:Od)
 | lA (off n:Nat) (ag:Bool) (x:Od)
 | ia (k:Nat) (x i:Od)
 | jt (n k:Nat) (x i:Od)
 | ix (x i:Od)
 | len (st:Bool) (x:Od)
 | lE (n:Nat)
 | bin (op:BinOp) (wr:Bool) (x y:Od)
 | eqs (ne:Bool) (ls:List (Nat×EK)) (x y:Od)
 | lr (ne:Bool) (x y:Od)
 | lu (ne c:Bool) (x y:Od)
 | lx (ne:Bool) (x y:Od)
 | un (op:UnOp) (x:Od)
 | lg (k:IntKind) (x:Od)
 | lh (x:Od)
 | ext (i:Nat) (x:Od)
 | pick (c a b:Od)
 | app (k aQ:Nat) (x y:Od)
 | slc (st:Bool) (k:Nat) (x:Od) (lo hi mx:Option Od)
 | lI (t:TypeId) (x:Od)
 | fnv (f:Fn) (first captured:List Od)
 | call (f:FuncId) (args:List Od)
 | gr (x:Od) (args:List Od)
 | raw (o:Op) (ty:TypeId)
structure SP where
 d:Option Nat
 o:SO
inductive SL where
 | op (d:Option Nat) (o:SO)
 | grp (j:Nat) (want:Bool) (l:List SP)
inductive SC where
 | skip
 | ops (d:Bool) (l:List SL)
 | priv (l:List SL) (bs:List (Nat×Nat×Od))
 | alts (o:Option (List SL)) (ls:List (List SL))
 | seq (a b:SC)
 | cond (x:Od) (a b:SC)
 | block (id:Nat) (b:SC)
 | loop (b:SC)
 | scope (b:SC)
 | exit (id:Nat)
 | ret
 | bad
inductive SI where
 | c (x:SC)
 | ops (d:Bool) (l:List SL)
 | pv (bs:List (Nat×Nat×Od))
 | blk (id:Nat)
 | lp (b:SC)
 | scp
inductive Rs where
 | t (n:Nat)
 | cell (n sz:Nat) (ag:Bool)
inductive AE where
 | ret (r:AV)
 | bS (r:AV)
def od (t:List AV):Od->AV
 | .t n=>t.getD n .any
 | .c x=>x
def a9 (t:List AV):Option Nat->AV->List AV
 | some d,r=>t.set d r
 | none,_=>t
def putCells (cs:List AV) (o:Nat):List AV->List AV
 | []=>cs
 | x::xs=>putCells (cs.set o x) (o+1) xs
def ones (cs:List AV):Bool:=cs.all AV.one
def mQ (t:List AV) (cs:List AV):List (Nat×Nat×Od)->Option (List AV)
 | []=>some cs
 | (o,n,x)::ps=>if (od t x).cells.length=n/\ones (od t x).cells=true/\o+n<=cs.length then mQ t (putCells cs o (od t x).cells) ps else none
def mk (ag:Bool) (cs:List AV):AV:=if ag then .agg cs else cs.headD .any
def AV.dat:AV->Bool
 | .v _ | .emp | .sl _ _ | .aZ _ | .opq _=>true
 | _=>false
def AV.data (x:AV):Bool:=x.cells.all AV.dat
def mT:Buf->Buf
 | .live k xs=>.bf k xs
 | b=>b
def dt (buf:List Buf) (t:Nat):List Buf:=buf.set t (mT (buf.getD t .dead))
def vB:AV->List Nat
 | .own t=>[t]
 | _=>[]
def owns:AV->List Nat
 | .agg cs=>cs.flatMap vB
 | x=>vB x
def bC (H:AH) (ts:List Nat):AH:=⟨H.box,ts.foldl dt H.buf⟩
def qQ (t:Nat):Buf->AV
 | .bf k xs=>.sl k xs
 | _=>.own t
def gO (H:AH):AV->AV
 | .own t=>qQ t (H.buf.getD t .dead)
 | x=>x
def cj (H:AH):AV->AV
 | .agg cs=>.agg (cs.map (gO H))
 | x=>gO H x
def nq (t:List AV):List (Nat×Nat×Od)->Prop
 | []=>True
 | (d,n,y)::bs=>d<t.length/\(od t y).cells.length=n/\ones (od t y).cells=true/\nq t bs
def jy (t:List AV) (n0:Nat):List (Nat×Nat×Od)->List AV
 | []=>t
 | (d,_,_)::bs=>jy (t.set d (.ptr n0 0)) (n0+1) bs
def lO (t0:List AV) (H:AH):List (Nat×Nat×Od)->AH
 | []=>H
 | (_,_,y)::bs=>lO t0 ⟨H.box++[(od t0 y).cells],H.buf⟩ bs
def oR (n:Int):Prop:=-9223372036854775808<=n/\n<=9223372036854775807
def iv (op:BinOp) (wr:Bool) (k:IntKind) (a b:Int):Option (Prop×AV):=
 match op with
 | .add=>some (if k=.i64/\wr=false then(oR (a+b),.i (a+b))else(True,.v (.int k (k.wrap (a+b)))))
 | .sub=>some (if k=.i64/\wr=false then(oR (a-b),.i (a-b))else(True,.v (.int k (k.wrap (a-b)))))
 | .mul=>some (if k=.i64/\wr=false then(oR (a*b),.i (a*b))else(True,.v (.int k (k.wrap (a*b)))))
 | .quo=>some (b≠0,.v (.int k (k.wrap (a.tdiv b))))
 | .rem=>some (b≠0,.v (.int k (a.tmod b)))
 | .and=>some (True,.v (.int k (k.wrap (BitVec.ofInt k.bits a &&& BitVec.ofInt k.bits b).toNat)))
 | .or=>some (True,.v (.int k (k.wrap (BitVec.ofInt k.bits a ||| BitVec.ofInt k.bits b).toNat)))
 | .xor=>some (True,.v (.int k (k.wrap (BitVec.ofInt k.bits a ^^^ BitVec.ofInt k.bits b).toNat)))
 | .andNot=>some (True,.v (.int k (k.wrap (BitVec.ofInt k.bits a &&& ~~~ BitVec.ofInt k.bits b).toNat)))
 | .eql=>some (True,.b (a==b))
 | .neq=>some (True,.b (a != b))
 | .lss=>some (True,.b (decide (a<b)))
 | .leq=>some (True,.b (decide (a<=b)))
 | .gtr=>some (True,.b (decide (a>b)))
 | .geq=>some (True,.b (decide (a>=b)))
 | _=>none
def rz (op:BinOp) (k:IntKind) (a b:Int):Option (Prop×AV):=
 match op with
 | .shl=>some (0<=b,.v (.int k (k.wrap (a*2^(min b.toNat k.bits)))))
 | .shr=>some (0<=b,.v (.int k (a.fdiv (2^(min b.toNat k.bits)))))
 | _=>none
def kV (op:BinOp) (x y:List UInt8):Option (Prop×AV):=
 match op with
 | .add=>some (((x.length+y.length:Nat):Int)<=9223372036854775807,.s (x++y))
 | .eql=>some (True,.b (x==y))
 | .neq=>some (True,.b (!(x==y)))
 | .lss=>some (True,.b (Op.bytesLess x y))
 | .leq=>some (True,.b (Op.bytesLess x y||x==y))
 | .gtr=>some (True,.b (!(Op.bytesLess x y||x==y)))
 | .geq=>some (True,.b (!Op.bytesLess x y))
 | _=>none
structure Ctx where
 P:Program
 fid:FuncId
 fn:Func
 res:List Rs
 aI:AH
 Q:List AV->AE->AH->Prop
 bK:List Deferred
def kO (R:List AV->AH->Prop) (t:List AV) (H:AH) (d:Option Nat):Option (Prop×AV)->Prop
 | some (p,r)=>p/\R (a9 t d r) H
 | none=>False
def uY (R:List AV->AH->Prop) (t:List AV) (H:AH) (d:Option Nat) (cs:List AV):Prop:=ones cs=true/\R (a9 t d (.ptr H.box.length 0)) ⟨H.box++[cs],H.buf⟩
def Cs (k:Nat) (x:AV):Prop:=x.cells.length=k/\ones x.cells=true/\x.data=true
def lM (k:Nat):List AV->Prop
 | []=>True
 | x::l=>Cs k x/\lM k l
def J5 (R:List AV->AH->Prop) (t:List AV) (H:AH) (d:Option Nat) (k:Nat) (xs:List AV):Prop:=lM k xs/\R (a9 t d (.sl k xs)) H
def J3 (R:List AV->AH->Prop) (t:List AV) (H:AH) (d:Option Nat) (k:Nat) (xs:List AV):Prop:=lM k xs/\R (a9 t d (.own H.buf.length)) ⟨H.box,H.buf++[.live k xs]⟩
def J4 (R:List AV->AH->Prop) (t:List AV) (H:AH) (d:Option Nat) (k:Nat) (xs:List AV):Prop:=J3 R t H d k (xs.map (cj H))
def J2 (R:List AV->AH->Prop) (t:List AV) (H:AH) (d:Option Nat) (k:Nat) (dr:Bool) (xs:List AV):Prop:=if dr then J5 R t H d k xs else J4 R t (bC H (xs.flatMap owns)) d k xs
def ve (R:List AV->AH->Prop) (t:List AV) (H:AH) (d:Option Nat) (k k':Nat) (xs:List AV) (n:Int):Prop:=k'=k/\0<=n/\n<(xs.length:Int)/\∀e,xs[n.toNat]?=some e->R (a9 t d (.aZ e.cells)) H
def vd (R:List AV->AH->Prop) (t:List AV) (H:AH) (d:Option Nat) (k u:Nat) (n:Int):Buf->Prop
 | .live k' xs=>k'=k/\0<=n/\n<(xs.length:Int)/\R (a9 t d (.bz u k n.toNat 0)) H
 | .bf k' xs=>ve R t H d k k' xs n
 | .dead=>False
 | .map _ _ _=>False
def rf (R:List AV->AH->Prop) (t:List AV) (H:AH) (d:Option Nat) (k:Nat):AV->AV->Prop
 | .sl k' xs,.v (.int _ n)=>ve R t H d k k' xs n
 | .own u,.v (.int _ n)=>vd R t H d k u n (H.buf.getD u .dead)
 | .cq b o m k',.v (.int _ n)=>k'=k/\0<=n/\n<(m:Int)/\R (a9 t d (.ptr b (o+n.toNat*k))) H
 | _,_=>False
def oW (R:List AV->AH->Prop) (t:List AV) (H:AH) (d:Option Nat) (m k:Nat):AV->AV->Prop
 | .ptr b o,.v (.int _ n)=>0<=n/\n<(m:Int)/\R (a9 t d (.ptr b (o+n.toNat*k))) H
 | .aZ cs,.v (.int _ n)=>0<=n/\n<(m:Int)/\n.toNat*k<=cs.length/\R (a9 t d (.aZ (cs.drop (n.toNat*k)))) H
 | _,_=>False
def Cd (R:List AV->AH->Prop) (t:List AV) (H:AH) (d:Option Nat) (n:Nat) (ag:Bool) (k i o:Nat):Buf->Prop
 | .live k' xs=>k'=k/\o+n<=k/\i<xs.length/\∀e,xs[i]?=some e->R (a9 t d (mk ag ((e.cells.drop o).take n))) H
 | .bf k' xs=>k'=k/\o+n<=k/\i<xs.length/\∀e,xs[i]?=some e->R (a9 t d (mk ag ((e.cells.drop o).take n))) H
 | .dead=>False
 | .map _ _ _=>False
def rh (R:List AV->AH->Prop) (t:List AV) (H:AH) (d:Option Nat) (n:Nat) (ag:Bool):AV->Prop
 | .ptr b o=>o+n<=(H.box.getD b []).length/\R (a9 t d (mk ag (((H.box.getD b []).drop o).take n))) H
 | .aZ cs=>n<=cs.length/\R (a9 t d (mk ag (cs.take n))) H
 | .bz u k i o=>Cd R t H d n ag k i o (H.buf.getD u .dead)
 | _=>False
def iK (e:AV) (o:Nat) (ys:List AV):AV:=
 match e with
 | .agg cs=>.agg (putCells cs o ys)
 | _=>ys.headD .any
def J7 (R:List AV->AH->Prop) (t:List AV) (H:AH) (n u k i o:Nat) (ys:List AV):Buf->Prop
 | .live k' xs=>k'=k/\0<n/\ys.length=n/\ones ys=true/\ys.all AV.dat=true/\o+n<=k/\i<xs.length/\∀e,xs[i]?=some e->R t ⟨H.box,H.buf.set u (.live k (xs.set i (iK e o ys)))⟩
 | _=>False
def Ce (R:List AV->AH->Prop) (t:List AV) (H:AH) (n:Nat):AV->AV->Prop
 | .ptr b o,y=>y.cells.length=n/\ones y.cells=true/\o+n<=(H.box.getD b []).length/\R t ⟨H.box.set b (putCells (H.box.getD b []) o y.cells),H.buf⟩
 | .bz u k i o,y=>J7 R t H n u k i o (cj H y).cells (H.buf.getD u .dead)
 | _,_=>False
def oV (R:List AV->AH->Prop) (t:List AV) (H:AH) (d:Option Nat) (off:Nat):AV->Prop
 | .ptr b o=>R (a9 t d (.ptr b (o+off))) H
 | .aZ cs=>off<=cs.length/\R (a9 t d (.aZ (cs.drop off))) H
 | .bz u k i o=>R (a9 t d (.bz u k i (o+off))) H
 | _=>False
def Cb (R:List AV->AH->Prop) (t:List AV) (H:AH) (d:Option Nat) (off n:Nat) (ag:Bool):AV->Prop
 | .agg cs=>off+n<=cs.length/\R (a9 t d (mk ag ((cs.drop off).take n))) H
 | _=>False
def Cc (R:List AV->AH->Prop) (t:List AV) (H:AH) (d:Option Nat):AV->AV->Prop
 | .v (.string s),.v (.int _ n)=>0<=n/\n<(s.data.toList.length:Int)/\∀b,s.data.toList[n.toNat]?=some b->R (a9 t d (.v (.int .u8 b.toNat))) H
 | _,_=>False
def gA:Buf->Option (Prop×AV)
 | .live _ xs=>some (True,.i xs.length)
 | .bf _ xs=>some (True,.i xs.length)
 | .dead=>none
 | .map _ _ _=>none
def lenV (H:AH) (st:Bool):AV->Option (Prop×AV)
 | .v (.string s)=>if st then some (True,.i s.data.toList.length)else none
 | .sl _ xs=>if st then none else some (True,.i xs.length)
 | .emp=>if st then none else some (True,.i 0)
 | .cq _ _ m _=>if st then none else some (True,.i m)
 | .own u=>if st then none else gA (H.buf.getD u .dead)
 | _=>none
def oA (op:BinOp) (wr:Bool):AV->AV->Option (Prop×AV)
 | .v (.int k a),.v (.int k' b)=>if op=.shl\/op=.shr then rz op k a b else if k=k' then iv op wr k a b else none
 | .v (.string a),.v (.string b)=>kV op a.data.toList b.data.toList
 | _,_=>none
def cL (ne b:Bool):Bool:=if ne then !b else b
def eq1:EK->AV->AV->Option Bool
 | .i k,.v (.int k1 a),.v (.int k2 b)=>if k1=k/\k2=k then some (a==b)else none
 | .s,.v (.string a),.v (.string b)=>some (a.data.toList==b.data.toList)
 | .b,.v (.bool a),.v (.bool b)=>some (a==b)
 | _,_,_=>none
def eO:List (Nat×EK)->List AV->List AV->Option Bool
 | [],_,_=>some true
 | (o,k)::l,xs,ys=>match eq1 k (xs.getD o .any) (ys.getD o .any),eO l xs ys with
   | some b,some r=>some (b&&r)
   | _,_=>none
def uI (ne:Bool) (ls:List (Nat×EK)):AV->AV->Option (Prop×AV)
 | .agg xs,.agg ys=>(eO ls xs ys).map λb=>(True,.b (cL ne b))
 | _,_=>none
def uH (ne:Bool):AV->AV->Option (Prop×AV)
 | .v (.bool a),.v (.bool b)=>some (True,.b (cL ne (a==b)))
 | _,_=>none
def mP (ne c:Bool):AV->AV->Option (Prop×AV)
 | .v .nilIface,.v .nilIface=>if c then some (True,.b (cL ne true))else none
 | .aG _ _,.v .nilIface=>some (True,.b (cL ne false))
 | .v .nilIface,.aG _ _=>some (True,.b (cL ne false))
 | _,_=>none
def jX (ne:Bool):AV->AV->Option (Prop×AV)
 | .v (.pointer none),.v (.pointer none)=>some (True,.b (cL ne true))
 | .ptr _ _,.v (.pointer none)=>some (True,.b (cL ne false))
 | .bz _ _ _ _,.v (.pointer none)=>some (True,.b (cL ne false))
 | .aZ _,.v (.pointer none)=>some (True,.b (cL ne false))
 | .ptr b o,.ptr b' o'=>if b=b'/\o=o' then some (True,.b (cL ne true))else none
 | _,_=>none
def pq (op:UnOp):AV->Option (Prop×AV)
 | .v (.bool a)=>if op=.not then some (True,.b (!a))else none
 | .v (.int k a)=>if op=.neg then some (True,.v (.int k (k.wrap (0-a))))else if op=.xor then some (True,.v (.int k (k.wrap (BitVec.ofInt k.bits (if k.signed then -1 else k.max) ^^^ BitVec.ofInt k.bits a).toNat)))else none
 | _=>none
def Bk (k:IntKind):AV->Option (Prop×AV)
 | .v (.int _ a)=>some (True,.v (.int k (k.wrap a)))
 | _=>none
def qF:AV->Option (Prop×AV)
 | .v (.string s)=>some (True,.v (.string s))
 | _=>none
def uK (i:Nat):AV->Option (Prop×AV)
 | .aL cs=>some (i<cs.length,cs.getD i .any)
 | _=>none
def Cy:AV->AV->AV->Option (Prop×AV)
 | .v (.bool true),a,_=>some (True,a)
 | .v (.bool false),_,b=>some (True,b)
 | _,_,_=>none
def B7 (R:List AV->AH->Prop) (t:List AV) (H:AH) (d:Option Nat):Option (List AV)->Prop
 | some cs=>R (a9 t d (.agg cs)) H
 | none=>False
def gK (b:UInt8):AV:=.v (.int .u8 b.toNat)
def lT (k:Nat):Buf->Option (List AV)
 | .live k' xs=>if k'=k then some xs else none
 | .bf k' xs=>if k'=k then some xs else none
 | .dead=>none
 | .map _ _ _=>none
def dH (H:AH) (k:Nat):AV->Option (List AV)
 | .emp=>some []
 | .sl k' xs=>if k'=k then some xs else none
 | .own u=>lT k (H.buf.getD u .dead)
 | .v (.string s)=>if k=1 then some (s.data.toList.map gK)else none
 | _=>none
def mZ (R:List AV->AH->Prop) (t:List AV) (H:AH) (d:Option Nat) (k aQ:Nat) (xs:List AV) (buf:List Buf):Option (List AV)->Prop
 | some ys=>(xs.length+ys.length)*aQ<=140737488355328/\xs.length+ys.length<=9223372036854775807/\R (a9 t d (.own H.buf.length)) ⟨H.box,buf++[.live k (xs++ys)]⟩
 | none=>False
def B6 (R:List AV->AH->Prop) (t:List AV) (H:AH) (d:Option Nat) (k aQ u:Nat) (y:AV):Buf->Prop
 | .live k' xs=>k'=k/\mZ R t H d k aQ xs (H.buf.set u .dead) (dH H k y)
 | _=>False
def uX (R:List AV->AH->Prop) (t:List AV) (H:AH) (d:Option Nat) (k aQ:Nat):AV->AV->Prop
 | .emp,y=>mZ R t H d k aQ [] H.buf (dH H k y)
 | .own u,y=>B6 R t H d k aQ u y (H.buf.getD u .dead)
 | _,_=>False
def bnd (t:List AV) (n:Int):Option Od->Option Int
 | none=>some n
 | some x=>match od t x with
   | .v (.int _ m)=>some m
   | _=>none
def nB (k:Nat) (xs:List AV) (lo hi:Int):Option (Prop×AV):=some (0<=lo/\lo<=hi/\hi<=(xs.length:Int),.sl k ((xs.take hi.toNat).drop lo.toNat))
def vQ (k:Nat) (lo hi:Int):Buf->Option (Prop×AV)
 | .bf k' xs=>if k'=k then nB k xs lo hi else none
 | _=>none
def kr (H:AH) (k:Nat) (lo hi:Int):AV->Option (Prop×AV)
 | .v (.string s)=>some (0<=lo/\lo<=hi/\hi<=(s.data.toList.length:Int),.s ((s.data.toList.take hi.toNat).drop lo.toNat))
 | .sl k' xs=>if k'=k then nB k xs lo hi else none
 | .emp=>some (lo=0/\hi=0,.emp)
 | .own u=>vQ k lo hi (H.buf.getD u .dead)
 | _=>none
def fL (t:List AV) (H:AH) (st:Bool) (k:Nat) (x:AV) (lo hi mx:Option Od):Option (Prop×AV):=
 match mx with
 | none=>
   match bnd t 0 lo,lenV H st x with
   | some l,some (_,.v (.int _ n))=>match bnd t n hi with
     | some h=>kr H k l h x
     | none=>none
   | _,_=>none
 | some (.c (.v (.int _ 0)))=>
   match bnd t 0 lo,bnd t 1 hi,x with
   | some 0,some 0,.sl _ _|some 0,some 0,.emp=>if st then none else some (True,.emp)
   | _,_,_=>none
 | _=>none
def resV (t:List AV) (H:AH):List Rs->Option (Prop×List AV)
 | []=>some (True,[])
 | .t n::rs=>(resV t H rs).map λp=>(p.1,t.getD n .any::p.2)
 | .cell n sz ag::rs=>match t.getD n .any with
   | .ptr b o=>(resV t H rs).map λp=>(o+sz<=(H.box.getD b []).length/\p.1,mk ag (((H.box.getD b []).drop o).take sz)::p.2)
   | _=>none
def f5:List AV->AV
 | [x]=>x
 | l=>.aL l
def jh:Value->AV
 | .slice none 0 0=>.emp
 | v=>.v v
def fB:Value->AV
 | .agg vs=>.agg (vs.toList.map jh)
 | v=>jh v
def ak:Operand->Od
 | .tmp t=>.t t
 | .const v=>.c (fB v)
 | .global g=>.c (.v (.pointer (some ⟨g,0,none⟩)))
 | .func f=>.c (.fn (.func f) [] [])
def cG (P:Program) (t:TypeId):Bool:=
 match P.underlying t with
 | some (.struct _)|some (.array _ _)=>true
 | _=>false
def gM (P:Program) (t:TypeId):Option (List AV):=
 match P.info? t with
 | some i=>match i.zero with
   | some z=>some (fB z).cells
   | none=>none
 | none=>none
def bR (P:Program) (t:TypeId):Option Nat:=(P.info? t).map (·.size)
def hO (P:Program) (t:TypeId):Option (Nat×Bool):=
 match P.underlying t,bR P t with
 | some _,some n=>if cG P t=true\/n=1 then some (n,cG P t)else none
 | _,_=>none
def qC (P:Program) (fs:Array Field):List (Nat×Operand)->Option (List (Nat×Nat×Od))
 | []=>some []
 | (i,x)::ps=>match fs[i]? with
   | some f=>match bR P f.type,qC P fs ps with
     | some n,some r=>some ((f.offset,n,ak x)::r)
     | _,_=>none
   | none=>none
def gL:BinOp->Option Bool
 | .eql=>some false
 | .neq=>some true
 | _=>none
def mX:Operand->Bool
 | .const _=>true
 | _=>false
def mO (P:Program):Nat->TypeId->Option (List (Nat×EK))
 | 0,_=>none
 | n+1,t=>match P.underlying t with
   | some (.int k)=>some [(0,.i k)]
   | some .bool=>some [(0,.b)]
   | some .string=>some [(0,.s)]
   | some (.struct fs)=>if P.stoodInHeld t then none else fs.toList.foldr (λf acc=>match acc,mO P n f.type,bR P f.type with
      | some r,some l,some m=>if f.name ≠ "_" /\ l.all (λx=>decide (x.1<m))=true then some (l.map (λx=>(f.offset+x.1,x.2))++r)else none
      | _,_,_=>none) (some [])
   | _=>none
abbrev WR:=Bool×List Nat
def bZ (P:Program) (wr:WR) (o:Oper):Option SO:=
 match o.op with
 | .move x | .assign x=>some (.gS (ak x))
 | .pick c a b=>some (.pick (ak c) (ak a) (ak b))
 | .box _ x=>some (.box (ak x))
 | .alloc t=>(gM P t).map .alloc
 | .build t ps=>
   match P.underlying t,gM P t with
   | some (.struct fs),some zs=>if fs.all (λf=>(bR P f.type).isSome)then(qC P fs ps.toList).map (.build zs)else none
   | some (.array _ e),some zs=>match bR P e with
     | some n=>some (.build zs (ps.toList.map λp=>(p.1*n,n,ak p.2)))
     | none=>none
   | _,_=>none
 | .buildSlice t n ps=>
   match P.underlying t with
   | some (.slice e)=>match bR P e,gM P e with
     | some k,some zs=>if ps.toList.map (·.1)=List.range n/\n*k<=16777216/\zs.length=k/\0<k then some (.cq k (ps.toList.map λp=>ak p.2))else none
     | _,_=>none
   | _=>none
 | .load t a=>(hO P t).map λn=>.ld n.1 n.2 (ak a)
 | .store t a x=>(bR P t).map λn=>.st n (ak a) (ak x)
 | .fieldAddr s x f=>
   match P.underlying s with
   | some (.struct fs)=>match fs[f]? with
     | some fl=>match bR P fl.type with
       | some n=>if n≠0 then some (.fa fl.offset (ak x))else none
       | none=>none
     | none=>none
   | _=>none
 | .field s x f=>
   match P.underlying s with
   | some (.struct fs)=>match fs[f]? with
     | some fl=>(hO P fl.type).map λn=>.lA fl.offset n.1 n.2 (ak x)
     | none=>none
   | _=>none
 | .indexAddr t x i=>
   match P.underlying t with
   | some (.slice e)=>(bR P e).map λk=>.ia k (ak x) (ak i)
   | some (.array n e)=>(bR P e).map λk=>.jt n k (ak x) (ak i)
   | _=>none
 | .index t x i=>
   match P.underlying t with
   | some .string=>some (.ix (ak x) (ak i))
   | _=>none
 | .binOp op t x y _=>
   match P.underlying t with
   | some (.int _)|some .string=>some (.bin op wr.1 (ak x) (ak y))
   | some .bool=>(gL op).map λne=>.lr ne (ak x) (ak y)
   | some (.struct _)=>match gL op,mO P 10 t with
     | some ne,some ls=>if P.eqGuardType P.depth t then none else some (.eqs ne ls (ak x) (ak y))
     | _,_=>none
   | some (.interface _)=>(gL op).map λne=>.lu ne (mX x||mX y) (ak x) (ak y)
   | some (.pointer e)=>if (bR P e).isSome then(gL op).map λne=>.lx ne (ak x) (ak y)else none
   | _=>none
 | .unOp op _ x=>some (.un op (ak x))
 | .convert s t x=>
   match P.underlying s,P.underlying t with
   | some (.int _),some (.int k)=>some (.lg k (ak x))
   | some .string,some .string=>some (.lh (ak x))
   | _,_=>none
 | .extract x i=>some (.ext i (ak x))
 | .makeInterface t x=>
   match P.underlying t with
   | some (.interface _)=>none
   | some _=>some (.lI t (ak x))
   | none=>none
 | .makeFunc f a b=>some (.fnv f (a.toList.map ak) (b.toList.map ak))
 | .slice t x lo hi mx=>
   match P.underlying t with
   | some .string=>some (.slc true 0 (ak x) (lo.map ak) (hi.map ak) (mx.map ak))
   | some (.slice e)=>(bR P e).map λk=>.slc false k (ak x) (lo.map ak) (hi.map ak) (mx.map ak)
   | _=>none
 | .call { callee:=.builtin .len,args,argTypes }=>
   match args.toList,argTypes.toList with
   | [x],[t]=>match P.underlying t with
     | some .string=>some (.len true (ak x))
     | some (.slice _)=>some (.len false (ak x))
     | some (.array n _)=>some (.lE n)
     | _=>none
   | _,_=>none
 | .call { callee:=.builtin .append,args,argTypes }=>
   match args.toList,argTypes.toList with
   | [x,y],[t,u]=>match P.underlying t,P.underlying u with
     | some (.slice e),some (.slice _)=>match P.info? e,gM P e with
       | some i,some zs=>if zs.length=i.size/\0<i.size then some (.app i.size i.bytes (ak x) (ak y))else none
       | _,_=>none
     | some (.slice e),some .string=>match P.info? e,gM P e with
       | some i,some zs=>if zs.length=i.size/\0<i.size then some (.app i.size i.bytes (ak x) (ak y))else none
       | _,_=>none
     | _,_=>none
   | _,_=>none
 | .call { callee:=.value (.func f),args,.. }=>some (.call f (args.toList.map ak))
 | .call { callee:=.value x,args,.. }=>some (.gr (ak x) (args.toList.map ak))
 | _=>none
theorem ahM {P:Program} {wr:WR} {o o':Oper} (h:o.op=o'.op):bZ P wr o=bZ P wr o':=by unfold bZ;rw[h]
def asIs (wr:WR) (o:Oper):Bool:=match o.dst with
 | some d=>wr.2.contains d
 | none=>false
def isInv:Op->Bool
 | .call { callee:=.invoke _ _,.. }=>true
 | _=>false
def mU (o:Op) (ty:Nat):Bool:=isInv o&&Nat.ble 1000000 ty
def bY (P:Program) (wr:WR) (o:Oper):Option SO:=
 match asIs wr o with
 | true=>match isInv o.op with
   | true=>some (.raw o.op (o.type+1000000))
   | false=>some (.raw o.op o.type)
 | false=>match bZ P wr o with
   | some s=>some s
   | none=>some (.raw o.op o.type)
theorem cM {P:Program} {wr:WR} {o:Oper} {s:SO} (h:bY P wr o=some s) (hn:∀x ty,s≠.raw x ty):bZ P wr o=some s:=by
 unfold bY at h;split at h
 ·split at h<;>(cases h;exact absurd rfl (hn _ _))
 ·split at h
  ·rename_i e;rw[e];exact h
  ·cases h;exact absurd rfl (hn _ _)
structure FE where
 g:Option (Nat×Bool)
 d:Option Nat
 o:SO
def jT (ops:Array Oper):Option (Nat×Bool)->Option (Option (Nat×Bool))
 | none=>some none
 | some (j,w)=>match (ops[j]?).bind (·.dst)with
   | some d=>some (some (d,w))
   | none=>none
def ey (P:Program) (wr:WR) (ops:Array Oper) (o:Oper):Option FE:=
 match jT ops o.guard,bY P wr o with
 | some g,some s=>if (g.map (·.1))=o.dst/\g.isSome then none else some ⟨g,o.dst,s⟩
 | _,_=>none
def ff {α β:Type} (f:α->Option β):List α->Option (List β)
 | []=>some []
 | x::l=>match f x,ff f l with
   | some y,some r=>some (y::r)
   | _,_=>none
def SL.flat:SL->List FE
 | .op d o=>[⟨none,d,o⟩]
 | .grp j w l=>l.map λs=>⟨some (j,w),s.d,s.o⟩
def flat (l:List SL):List FE:=l.flatMap SL.flat
def hY:List FE->List SL
 | []=>[]
 | ⟨none,d,o⟩::l=>.op d o::hY l
 | ⟨some (j,w),d,o⟩::l=>
   match hY l with
   | .grp j' w' l'::r=>if j=j'/\w=w' then .grp j w (⟨d,o⟩::l')::r else .grp j w [⟨d,o⟩]::.grp j' w' l'::r
   | r=>.grp j w [⟨d,o⟩]::r
theorem tq (l:List FE):flat (hY l)=l:=by
 induction l with
 | nil=>rfl
 | cons x l ih=>
   obtain⟨g,d,o⟩:=x;cases g with
   | none=>simp only[hY,flat,List.flatMap_cons,SL.flat,List.singleton_append];rw[<- flat,ih]
   | some p=>
     obtain⟨j,w⟩:=p;simp only[hY];split
     ·rename_i j' w' l' r hr;rw[hr]at ih;split
      ·rename_i h;obtain⟨rfl,rfl⟩:=h;simp only[flat,List.flatMap_cons,SL.flat,List.map_cons,List.cons_append]at ih ⊢;rw[ih]
      ·simp only[flat,List.flatMap_cons,SL.flat,List.map_cons,List.map_nil,List.cons_append,List.nil_append]at ih ⊢;rw[ih]
     ·simp only[flat,List.flatMap_cons,SL.flat,List.map_cons,List.map_nil,List.cons_append,List.nil_append]at ih ⊢;rw[ih]
def lP:Op->Bool
 | .binOp .. | .unOp .. | .typeAssert .. | .nilCheck _ | .convert .. | .index ..=>true
 | .call { callee:=.builtin .max,.. } | .call { callee:=.builtin .min,.. } | .call { callee:=.invoke _ _,.. }=>true
 | _=>false
def SO.acts:SO->Bool
 | .box _ | .alloc _ | .st .. | .app ..=>true
 | .raw o ty=>!lP o||mU o ty
 | _=>false
def SO.sees:SO->Bool
 | .ld .. | .ia .. | .jt .. | .len .. | .slc ..=>true
 | .raw (.convert ..) _=>true
 | .raw o ty=>!lP o||mU o ty
 | _=>false
def SO.news:SO->Bool
 | .box _ | .alloc _=>true
 | _=>false
def SO.frames:SO->Bool
 | .raw (.makeSlice ..) _=>true
 | _=>false
def jR (acc:List Nat):List Edge->Nat
 | []=>0
 | e::l=>if Region.binds .any e then(2^e.on ||| acc.getD e.on 0) ||| jR acc l else jR acc l
def g9:List Oper->List Nat->List Nat
 | [],acc=>acc
 | o::l,acc=>g9 l (acc++[jR acc o.after.toList])
def mH (ops:Array Oper) (l:List FE):Bool:=(ops.toList.zipIdx.all λ(o,i)=>o.after.toList.all λe=>!Region.binds .any e||decide (e.on<i))&&(ops.toList.zipIdx.all λ(y,j)=>(ops.toList.take j).zipIdx.all λ(x,i)=>x.apart ops y||((g9 ops.toList []).getD j 0).testBit i)&&l.zipIdx.all λ(y,j)=>(l.take j).zipIdx.all λ(x,i)=>!((x.o.acts&&((y.o.acts&&!(x.o.frames&&y.o.news))||y.o.sees))||(x.o.sees&&(y.o.acts&&!y.o.news)))||((g9 ops.toList []).getD j 0).testBit i
def FE.al (x:FE):Option (Nat×Nat):=match x.g,x.d,x.o with
 | none,some d,.alloc zs=>match ones zs with
   | true=>some (d,zs.length)
   | false=>none
 | _,_,_=>none
def FE.st1 (D:List (Nat×Nat)) (x:FE):Option (Nat×Nat×Od):=match x.g,x.d,x.o with
 | none,none,.st n (.t d) y=>match D.contains (d,n)with
   | true=>some (d,n,y)
   | false=>none
 | _,_,_=>none
def FE.main (D:List (Nat×Nat)) (x:FE):Bool:=x.al.isNone&&(x.st1 D).isNone
def eW (l:List FE):List (Nat×Nat):=l.filterMap FE.al
def ry (l:List FE):List (Nat×Nat×Od):=l.filterMap (FE.st1 (eW l))
def np (S:List (Nat×Nat×Od)):List (Nat×Nat)->Option (List (Nat×Nat×Od))
 | []=>some []
 | (d,n)::D=>match S.find? (λp=>p.1==d),np S D with
   | some (_,n',y),some r=>if n'=n then some ((d,n,y)::r)else none
   | _,_=>none
def Od.oU (m:Nat):Od->Bool
 | .t n=>n==m
 | .c _=>false
def nj:List Nat->Bool
 | []=>true
 | x::l=>!l.contains x&&nj l
def pc (ops:Array Oper) (l:List FE):Bool:=
 let D:=eW l
 (ops.toList.zipIdx.all λ(o,i)=>o.after.toList.all λe=>!Region.binds .any e||decide (e.on<i))&&
 (ops.toList.zipIdx.all λ(y,j)=>(ops.toList.take j).zipIdx.all λ(x,i)=>x.apart ops y||((g9 ops.toList []).getD j 0).testBit i)&&
 nj (D.map (·.1))&&nj ((ry l).map (·.1))&&
 (l.all λx=>!x.main D||(!x.o.acts&&!x.o.news&&!x.o.frames&&D.all λp=>x.d != some p.1))&&
 ((l.zip ops.toList).all λ(x,o)=>!x.main D||D.all λp=>!(o.looksAt ops).contains p.1)&&
 ((l.zip ops.toList).all λ(x,o)=>x.al.isNone||D.all λp=>!(o.looksAt ops).contains p.1)&&
 (l.zipIdx.all λ(x,j)=>match x.st1 D with
   | some (d,_,y)=>(D.all λp=>!y.oU p.1)&&l.zipIdx.all λ(z,i)=>match z.d with
     | some m=>!(y.oU m||m==d)||decide (i<j)
     | none=>true
   | none=>true)
def SO.isC:SO->Bool
 | .call .. | .gr ..=>true
 | .raw (.call { callee:=.invoke _ _,.. }) _=>true
 | _=>false
def SO.text (P:Program):SO->Bool
 | .call f _=>match P.funcs[f]? with
   | some fn=>fn.body.isSome
   | none=>false
 | .gr ..=>true
 | .raw (.call { callee:=.invoke _ _,.. }) _=>true
 | _=>false
def WG (P:Program) (ops:Array Oper) (l:List FE):List Nat:=
 l.zipIdx.filterMap λ(y,j)=>match y.o.text P,y.d with
  | true,some d=>
    if l.zipIdx.all λ(x,i)=>i==j || !(x.o.isC||x.o.acts||x.o.sees)||(if i<j then((g9 ops.toList []).getD j 0).testBit i else((g9 ops.toList []).getD i 0).testBit j)then some d else none
  | _,_=>none
def Tg (l:List FE):List Nat:=
 l.filterMap λy=>match y.o,y.d with
  | .cq ..,some d=>if l.any λz=>match z.o with
    | .app _ _ (.t m) _=>Nat.beq m d
    | _=>false then some d else none
  | _,_=>none
def wC (P:Program) (wr:Bool) (ops:Array Oper) (draw:Bool):WR:=match draw with
 | false=>(wr,[])
 | true=>match ff (ey P (wr,[]) ops) ops.toList with
   | some l=>(wr,WG P ops l++Tg l)
   | none=>(wr,[])
def jj (P:Program) (wr:Bool) (ops:Array Oper) (draw:Bool):Option SC:=
 match ff (ey P (wC P wr ops draw) ops) ops.toList with
 | some l=>if draw&&!mH ops l then(match pc ops l,np (ry l) (eW l)with
    | true,some bs=>some (.priv (hY (l.filter (FE.main (eW l)))) bs)
    | _,_=>none)else some (.ops draw (hY l))
 | none=>none
def SO.Kj (o:SO):Bool:=o.isC||(o.acts&&!o.news)
def SO.iC (o:SO):Bool:=o.isC||o.acts||o.sees
def Tn (A:List Nat) (l:List FE):List (Nat×Nat):=
 l.zipIdx.flatMap λ(y,j)=>(l.take j).zipIdx.filterMap λ(x,i)=>
  match ((x.o.Kj&&y.o.iC)||(x.o.iC&&y.o.Kj))&&!(A.getD j 0).testBit i with
  | true=>some (i,j)
  | false=>none
def vJ (pl:List Nat) (i j k:Nat) (o:Oper):Oper:=
 { o with after:=(o.after.toList.map (λe=>{ e with on:=pl.getD e.on 0 })++(match Nat.beq k j with
  | true=>[⟨pl.getD i 0,.data⟩]
  | false=>[])).toArray,guard:=o.guard.map λg=>(pl.getD g.1 0,g.2) }
def ru (ops:Array Oper) (ql pl:List Nat) (i j:Nat):Array Oper:=
 (ql.map λm=>match ops[m]? with
   | some o=>vJ pl i j m o
   | none=>default).toArray
def vE (ops:Array Oper) (ql pl:List Nat):Bool:=
 Nat.beq ql.length ops.size&&((List.range ops.size).all λk=>Nat.blt (pl.getD k 0) ops.size&&Nat.beq (ql.getD (pl.getD k 0) ops.size) k)&&
 ((List.range ops.size).all λm=>Nat.blt (ql.getD m 0) ops.size&&Nat.beq (pl.getD (ql.getD m 0) ops.size) m)&&
 (ops.toList.all λo=>(match o.guard with
   | some g=>Nat.blt g.1 ops.size
   | none=>true)&&o.after.toList.all λe=>Nat.blt e.on ops.size)
def Tf (A:List Nat) (n i j:Nat):List Nat:=
 let D:=λk=>Nat.beq k i||(A.getD k 0).testBit i
 (List.range n).filter (λk=>Nat.ble k j&&!D k)++(List.range n).filter (λk=>Nat.ble k j&&D k)++(List.range n).filter (λk=>Nat.blt j k)
def Tp (P:Program) (wr:Bool) (ops:Array Oper):Option (Nat×Nat):=
 match ff (ey P (wC P wr ops true) ops) ops.toList with
 | some l=>(Tn (g9 ops.toList []) l).head?
 | none=>none
def qv (P:Program) (wr:Bool):Nat->Array Oper->Option (List (List SL))
 | 0,_=>none
 | n+1,ops=>match Tp P wr ops with
   | none=>match jj P wr ops true with
     | some (.ops true l)=>some [l]
     | _=>none
   | some (i,j)=>match Nat.blt i j&&Nat.blt j ops.size with
     | false=>none
     | true=>
       let a:=List.range ops.size
       let q:=Tf (g9 ops.toList []) ops.size i j
       let p:=a.map λk=>q.idxOf k
       match vE ops a a&&vE ops q p,qv P wr n (ru ops a a i j),qv P wr n (ru ops q p j i)with
       | true,some x,some y=>some (x++y)
       | _,_,_=>none
def A7 (P:Program) (wr:Bool) (ops:Array Oper):List (List SL):=match qv P wr 6 ops with
 | some ls=>ls
 | none=>[]
def kU (ls:List (List SL)):Bool->Option SC->Option SC
 | true,some (.ops _ l)=>some (.alts (some l) ls)
 | true,none=>some (.alts none ls)
 | _,o=>o
def comp (P:Program) (wr:Bool):Code->Option SC
 | .skip=>some .skip
 | .region _ ops draw=>kU (A7 P wr ops) draw (jj P wr ops draw)
 | .seq a b=>match comp P wr a,comp P wr b with
   | some x,some y=>some (.seq x y)
   | _,_=>none
 | .cond c a b=>match comp P wr a,comp P wr b with
   | some x,some y=>some (.cond (ak c) x y)
   | _,_=>none
 | .block id a=>(comp P wr a).map (.block id)
 | .loop a=>(comp P wr a).map .loop
 | .scope a=>(comp P wr a).map .scope
 | .exit id=>some (.exit id)
 | .ret=>some .ret
 | .label _=>some .skip
 | .refuse _=>some .bad
 | _=>none
def gq (P:Program):List ResultVar->Option (List Rs)
 | []=>some []
 | .tmp t::l=>(gq P l).map (.t t::·)
 | .cell a t::l=>match hO P t,gq P l with
   | some n,some r=>some (.cell a n.1 n.2::r)
   | _,_=>none
def good (l:List FE):Bool:=l.all λx=>match x.g with
 | some (j,_)=>x.d != some j
 | none=>true
theorem pO {α β:Type} {f:α->Option β}:∀ {l:List α} {r:List β},ff f l=some r->r.length=l.length/\∀(i:Nat) (x:α),l[i]?=some x->∃y,r[i]?=some y/\f x=some y
 | [],r,h=>by simp[ff]at h;subst h;simp
 | x::l,r,h=>by
   simp only[ff]at h;cases hx:f x with
   | none=>rw[hx]at h;cases h
   | some y=>
     cases hl:ff f l with
     | none=>rw[hx,hl]at h;cases h
     | some r'=>
       rw[hx,hl]at h;simp only[Option.some.injEq]at h;subst h;obtain⟨h1,h2⟩:=pO hl;refine⟨by simp[h1],λi z hz=>?_⟩;cases i with
       | zero=>simp at hz;subst hz;exact⟨y,rfl,hx⟩
       | succ i=>simp at hz;simpa using h2 i z hz
theorem kL {P:Program} {wr:WR} {ops:Array Oper} {o:Oper} {x:FE} (h:ey P wr ops o=some x):
 jT ops o.guard=some x.g/\bY P wr o=some x.o/\x.d=o.dst/\∀p,x.g=some p->x.d≠some p.1:=by
 unfold ey at h;split at h
 ·rename_i g s hg hs;split at h
  ·cases h
  ·rename_i hn;cases h;refine⟨hg,hs,rfl,λp hp=>?_⟩;dsimp only at hp ⊢;subst hp;intro hd;exact hn ⟨by simp[hd],rfl⟩
 ·cases h
theorem zw {P:Program} {wr:WR} {ops:Array Oper} {l:List Oper} {r:List FE} (h:ff (ey P wr ops) l=some r):good r=true:=by
 simp only[good,List.all_eq_true];intro x hx;obtain⟨i,hi⟩:=List.getElem?_of_mem hx;obtain⟨hl,hall⟩:=pO h;have hlt:i<l.length:=by rw[<- hl];exact(List.getElem?_eq_some_iff.1 hi).1
 obtain⟨y,hy,hf⟩:=hall i l[i] (List.getElem?_eq_getElem hlt);rw[hi]at hy;cases hy;have:=(kL hf).2.2.2;cases hg:x.g with
 | none=>rfl
 | some p=>simp;exact this p hg
def Ka (P:Program) (ds:List Deferred) (fr:Frame) (w:World):Ending->Prop
 | .returned v=>fr.mode=.returning/\fr.defers=ds/\fr.kind=.normal/\∃fn,P.funcs[fr.fn]?=some fn/\(results fn fr.tmps).run P w=.ok v w
 | .panicked chain=>fr.mode=.panicking chain/\fr.defers=ds/\fr.kind=.normal/\∃fn,P.funcs[fr.fn]?=some fn
 | .outgrown=>False
theorem OA {P:Program} {fr:Frame} {w:World} {e:Ending} (h:Ka P [] fr w e):fr.leaving P w e:=by
 cases e with
 | returned v=>exact h
 | panicked ch=>exact⟨h.1,h.2.1,h.2.2.2⟩
 | outgrown=>exact h.elim
def Fin' (P:Program) (ds:List Deferred) (b:Frame) (items:List Item) (a:Act) (w:World) (R:Array Value->Ending->World->Prop):Prop:=∀cs,∃e w' fr,R fr.tmps e w'/\Comes P (lone (b.at a items) cs w) (lone fr cs w') e/\fr.fn=b.fn/\Ka P ds fr w' e
theorem Fin'.step {P ds b items items' a w R} (hs:∀cs,step P (lone (b.at a items) cs w)=.next (lone (b.at a items') cs w)) (h:Fin' P ds b items' a w R):Fin' P ds b items a w R:=
 λcs=>let ⟨e,w',fr,r,c,x⟩:=h cs;⟨e,w',fr,r,c.of_steps (.one (hs cs)),x⟩
inductive cX (P:Program):List Item->List SI->Prop
 | nil:cX P [] []
 | code {c s k l} (wr:Bool) (h:comp P wr c=some s) (r:cX P k l):cX P (.code c::k) (.c s::l)
 | region {id ops d l k l'} (wr:Bool) (h:comp P wr (.region id ops d)=some (.ops d l)) (r:cX P k l'):cX P (.code (.region id ops d)::k) (.ops d l::l')
 | blk {id k l} (r:cX P k l):cX P (.inBlock id::k) (.blk id::l)
 | scp {c k l} (r:cX P k l):cX P (.inScope c::k) (.scp::l)
 | lp {c s k l} (wr:Bool) (h:comp P wr c=some s) (r:cX P k l):cX P (.inLoop c::k) (.lp s::l)
 | lF {c s k l} (wr:Bool) (h:comp P wr c=some s) (r:cX P k l):cX P (.code (.loop c)::k) (.lp s::l)
def dC (M:Maps) (S:Nat->Prop) (w:World) (t:List AV) (tmps:Array Value):Prop:=tmps.size=t.length/\∀i,i<t.length->am M S w (tmps.getD i undef) (t.getD i .any)
def eZ (M:Maps) (S:Nat->Prop) (w:World):Ending->AE->Prop
 | .returned v,.ret r=>am M S w v r
 | .panicked l,.bS r=>∃v,l=[{ v,recovered:=false }]/\am M S w v r
 | _,_=>False
def Post (Q:List AV->AE->AH->Prop) (aI:AH) (M0:Maps) (S0:Nat->Prop) (w0:World) (tm:Array Value) (e:Ending) (w':World):Prop:=∃t r H' M' S',Q t r H'/\dC M' S' w' t tm/\eZ M' S' w' e r/\aE M' S' H' w'/\aU M0 S0 aI w0 M' S' H' w'
structure Ctx.ok (X:Ctx):Prop where
 fn:X.P.funcs[X.fid]?=some X.fn
 res:gq X.P X.fn.results.toList=some X.res
 mix:X.P.follows .mixedOrders=true
def uD (P:Program):Option (Nat×Value):=
 match P.globalNamed "errors.errorType",(P.cutTypes.find? (·.1 == "internal/reflectlite.rtype")).map (·.2),(List.range P.types.size).find? (λt=>P.rowNamed t [101,114,114,111,114])with
 | some i,some u,some t=>some (i,.iface u (.agg #[typeHandle P t]))
 | _,_,_=>none
def cY (P:Program) (M:Maps) (H:AH) (w:World):Prop:=∀i v,uD P=some (i,v)->w.cell? ⟨i,0,none⟩=some v/\¬foot M H i/\i<w.heap.size
theorem cY.fh {P:Program} {M:Maps} {S:Nat->Prop} {H:AH} {w:World} {M':Maps} {S':Nat->Prop} {H':AH} {w':World} (hp:cY P M H w) (hf:aU M S H w M' S' H' w'):cY P M' H' w':=by
 intro i v hi;obtain⟨h1,h2,h3⟩:=hp i v hi;have e:=hf.old i h3 h2;refine⟨?_,λh=>?_,Nat.lt_of_lt_of_le h3 hf.size⟩
 ·rw[<- h1];simp only[World.cell?,e]
 ·rcases hf.eG i h with h|h
  ·exact h2 h
  ·omega
theorem cY.sub {P:Program} {M M':Maps} {H H':AH} {w:World} (hp:cY P M H w) (h:∀g,foot M' H' g->foot M H g):cY P M' H' w:=
 λi v hi=>⟨(hp i v hi).1,λhf=>(hp i v hi).2.1 (h i hf),(hp i v hi).2.2⟩
theorem cY.nil {P:Program} {M M':Maps} {H:AH} {w:World} (hp:cY P M H w):cY P M' AH.nil w:=
 hp.sub λg h=>by
  rcases h with⟨b,hb,_⟩|⟨t,ht,_⟩
  ·simp[AH.nil]at hb
  ·simp[AH.nil]at ht
def dl (X:Ctx) (k:List SI) (t:List AV) (H:AH):Prop:=X.ok->∀M0 S0 w0,cY X.P M0 X.aI w0->∀M S a w items,cX X.P items k->aU M0 S0 X.aI w0 M S H w->dC M S w t a.tmps->aE M S H w->a.defers=X.bK->∀b:Frame,b.fn=X.fid->b.kind=.normal->Fin' X.P X.bK b items a w (Post X.Q X.aI M0 S0 w0)
def bQ (P:Program) (f:FuncId) (args:List AV) (H:AH) (r:AE) (H':AH):Prop:=∀M S w (vs:Array Value),aE M S H w->cY P M H w->vs.size=args.length->(∀i,i<args.length->am M S w (vs.getD i undef) (args.getD i .any))->Calls P f vs w λe w'=>∃M' S',eZ M' S' w' e r/\aE M' S' H' w'/\aU M S H w M' S' H' w'
def iY (P:Program) (o:Oper) (t:List AV) (H:AH) (r:AE) (H':AH):Prop:=
 ∀M S w (a:Act),(∀x∈o.op.operands,am M S w (a.eval x) (od t (ak x)))->aE M S H w->cY P M H w->
  ∀K Q,(∀M' S' v w',aE M' S' H' w'->aU M S H w M' S' H' w'->
   match r with
   | .ret r=>am M' S' w' v r->K (a.put o.dst v) w'
   | .bS r=>am M' S' w' v r->Q (.panic [{ v,recovered:=false }]) a w')->o.wp P a w K Q
def OS (P:Program) (o:SO) (t:List AV) (H:AH) (r:AE) (H':AH):Prop:=∀wr oc,bY P wr oc=some o->iY P oc t H r H'
def act (t:List AV):Option (Nat×Bool)->Option Bool
 | none=>some true
 | some (j,w)=>match t.getD j .any with
   | .v (.bool b)=>some (b==w)
   | .v (.tuple _)=>some false
   | _=>none
def ES (P:Program) (dr:Bool) (o:SO) (t:List AV) (H:AH) (r:AV) (H':AH):Prop:=OS P o t H (.ret r) H'/\(dr=true->(o.acts=false->H'=H)/\(o.acts=false->o.sees=false->∀H0,OS P o t H0 (.ret r) H0)/\(o.acts=false->∀bx,OS P o t ⟨H.box++bx,H.buf⟩ (.ret r) ⟨H.box++bx,H.buf⟩)/\(o.news=true->∃cs,H'=⟨H.box++[cs],H.buf⟩/\∀buf,OS P o t ⟨H.box,buf⟩ (.ret r) ⟨H.box++[cs],buf⟩)/\(o.frames=true->H'.box=H.box/\∀box,OS P o t ⟨box,H.buf⟩ (.ret r) ⟨box,H'.buf⟩))
def qt (P:Program) (o:SO) (t:List AV) (H:AH) (ps:List (Prop×AV)):Prop:=∀wr oc,bY P wr oc=some o->∀M S w (a:Act),(∀x∈oc.op.operands,am M S w (a.eval x) (od t (ak x)))->aE M S H w->∀K Q,(∀p∈ps,p.1->∀v,am M S w v p.2->K (a.put oc.dst v) w)->oc.wp P a w K Q
def jN (X:Ctx):List SI->List AV->AH->Prop
 | .pv bs::k,t,H=>nq t bs/\dl X k (jy t H.box.length bs) (lO t H bs)
 | k,t,H=>dl X k t H
theorem jN.to {X:Ctx} {k:List SI} {k0:List Item} (hk:cX X.P k0 k) {t:List AV} {H:AH} (h:jN X k t H):dl X k t H:=by
 cases hk<;>exact h
def Ch (X:Ctx) (dr:Bool) (k:List SI):List FE->List AV->AH->Prop
 | [],t,H=>jN X k t H
 | x::l,t,H=>(act t x.g=some true/\∃r H',ES X.P dr x.o t H r H'/\Ch X dr k l (a9 t x.d r) H')\/(act t x.g=some false/\Ch X dr k l (a9 t x.d (.v undef)) H)\/
   (dr=false/\act t x.g=some true/\∃r H',OS X.P x.o t H (.bS r) H'/\X.Q t (.bS r) H')\/
   (dr=false/\act t x.g=some true/\∃ps,qt X.P x.o t H ps/\∀p∈ps,p.1->Ch X dr k l (a9 t x.d p.2) H)
def go (X:Ctx) (k:List SI) (t:List AV) (H:AH):Prop:=
 match k with
 | .ops dr l::k=>good (flat l)=true->Ch X dr k (flat l) t H
 | k=>jN X k t H
theorem am.bh {M S w v x} (h:am M S w v (.v x)):v=x:=by
 cases h with
 | data h=>cases h;rfl
theorem OJ (S:Nat->Prop) (w:World) (v:Value):aO S w v (jh v):=by
 unfold jh;split
 ·exact .emp none
 ·exact .v _
theorem pY (S:Nat->Prop) (w:World) (v:Value):aO S w v (fB v):=by
 unfold fB;split
 ·rename_i vs;refine .agg _ _ (by simp) λi hi=>?_;simp only[List.length_map,Array.length_toList]at hi;have:(List.map jh vs.toList).getD i .any=jh (vs.getD i undef):=by
   simp[List.getD,Array.getD,hi]
  rw[this];exact OJ S w _
 ·exact OJ S w _
theorem mj {M S w t tmps} {a:Act} (h:dC M S w t tmps) (ha:a.tmps=tmps) (x:Operand):am M S w (a.eval x) (od t (ak x)):=by
 cases x with
 | tmp i=>
   simp only[Act.eval,ak,od,ha];by_cases hi:i<t.length
   ·exact h.2 i hi
   ·have:t.getD i AV.any=.any:=by simp[List.getD,List.getElem?_eq_none (Nat.le_of_not_lt hi)]
    rw[this];exact .data (.any _)
 | const v=>exact .data (pY S w v)
 | global g=>exact .data (.v _)
 | func f=>exact .data (.fn (.func f) #[] #[] [] [] rfl rfl (λi hi=>by simp at hi) (λi hi=>by simp at hi))
theorem dC.mono {M M' S S' w w' t tmps} (h:dC M S w t tmps) {H H'} (f:aU M S H w M' S' H' w'):dC M' S' w' t tmps:=
 ⟨h.1,λi hi=>(h.2 i hi).mono f.sub f.cv f.le⟩
theorem dC.put {M S w t} {a:Act} (h:dC M S w t a.tmps) (d:Option Nat) {v r} (hv:am M S w v r):dC M S w (a9 t d r) (a.put d v).tmps:=by
 cases d with
 | none=>exact h
 | some d=>
   refine⟨by simp[Act.put,a9,h.1],λi hi=>?_⟩;simp only[a9,List.length_set]at hi;have his:i<a.tmps.size:=by rw[h.1];exact hi
   have:=h.2 i hi;simp only[Array.getD,List.getD]at this;by_cases e:d=i
   ·subst e;simp[Act.put,a9,Array.getD,List.getD,his,hi,hv]
   ·simp only[Act.put,a9,Array.getD,List.getD,Array.size_setIfInBounds,his,dite_true,List.getElem?_set_ne e]at this ⊢;simpa[Array.getElem_setIfInBounds,e,his]using this
theorem iO (a:Act) (d:Option Nat) (v:Value):(a.put d v).defers=a.defers:=by cases d<;>rfl
theorem zu {M S w t ops} {o:Oper} {a:Act} {g:Option (Nat×Bool)} (h:dC M S w t a.tmps) (hg:jT ops o.guard=some g) {c:Bool} (hc:act t g=some c):
 Region.wanted o (yielded ops a.tmps)=c:=by
 unfold jT at hg;split at hg
 ·cases hg;simp[act]at hc;simp[Region.wanted, *]
 ·rename_i j w' hgu;split at hg
  ·rename_i d hd;cases hg;simp only[Region.wanted,hgu,yielded,hd,Option.bind_some];simp only[act]at hc;have hlt:∀x,t.getD d AV.any=x->x≠.any->d<t.length:=λx hx hne=>by
    rcases Nat.lt_or_ge d t.length with h|h
    ·exact h
    ·exact absurd (by rw[<- hx];simp[List.getD,List.getElem?_eq_none h]) hne
   have hget:∀x,t.getD d AV.any=.v x->a.tmps[d]?=some x:=λx hx=>by
    have hl:=hlt _ hx (by simp);have hs:d<a.tmps.size:=by rw[h.1];exact hl
    have hr:=h.2 d hl;rw[hx]at hr;have:=hr.bh;simp[Array.getD,hs]at this;simp[hs,this]
   split at hc
   ·rename_i b hb;rw[hget _ hb];simp at hc;subst hc;cases b<;>cases w'<;>rfl
   ·rename_i vs hb;rw[hget _ hb];simp at hc;subst hc;rfl
   ·cases hc
  ·cases hg
def RQ (X:Ctx) (b:Frame) (k0:List Item) (R:Array Value->Ending->World->Prop):Exit->Act->World->Prop
 | .normal,a,w=>a.defers=X.bK->Fin' X.P X.bK b k0 a w R
 | .panic ch,a,w=>a.defers=X.bK->R a.tmps (.panicked ch) w
 | _,_,_=>False
theorem Gc {X:Ctx} {b:Frame} {k0:List Item} {R:Array Value->Ending->World->Prop} {items:List Item} {a:Act} {w:World} (hok:X.ok) (hb:b.fn=X.fid) (hbk:b.kind=.normal)
 (h:∀cs,∃e a' w',(RQ X b k0 R e a' w'/\a'.defers=X.bK)/\Arrives X.P (lone (b.at a items) cs w) b k0 cs e a' w'):Fin' X.P X.bK b items a w R:=by
 intro cs;obtain⟨e,a',w',⟨hq,hd⟩,har⟩:=h cs;cases e with
 | normal=>
   obtain⟨e,w2,fr,r,c,x⟩:=hq hd cs;exact⟨e,w2,fr,r,c.of_steps har,x⟩
 | panic ch=>
   obtain⟨todo,hs⟩:=har;exact⟨.panicked ch,w',_,hq hd,hs,rfl,rfl,hd,hbk,X.fn,by rw[show({ b.at a' todo with mode:=FrameMode.panicking ch }:Frame).fn=X.fid from hb];exact hok.fn⟩
 | exit _=>exact hq.elim
 | goto _=>exact hq.elim
 | ret=>exact hq.elim
 | outgrown=>exact hq.elim
theorem agp {X:Ctx} {k:List SI} {k0:List Item} (hk:cX X.P k0 k) (hok:X.ok) {wr:WR} {ops:Array Oper} {b:Frame} (hb:b.fn=X.fid) (hbk:b.kind=.normal)
 {M0 S0 w0} (hp0:cY X.P M0 X.aI w0) (l:List FE):∀(i:Nat) (t:List AV) (H:AH),(∀j x,l[j]?=some x->∃o,ops[i+j]?=some o/\ey X.P wr ops o=some x)->
  Ch X false k l t H->∀M S a w,aU M0 S0 X.aI w0 M S H w->dC M S w t a.tmps->aE M S H w->a.defers=X.bK->
  wpOps X.P ops (λe a w=>RQ X b k0 (Post X.Q X.aI M0 S0 w0) e a w/\a.defers=X.bK) (List.range' i l.length) a w:=by
 induction l with
 | nil=>
   intro i t H _ hch M S a w hf ht hh hd;simp only[List.length_nil,List.range'_zero,wpOps];exact⟨λ_=>(jN.to hk hch) hok M0 S0 w0 hp0 M S a w k0 hk hf ht hh hd b hb hbk,hd⟩
 | cons x l ih=>
   intro i t H hl hch M S a w hf ht hh hd;obtain⟨o,ho,hx⟩:=hl 0 x rfl;simp only[Nat.add_zero]at ho;obtain⟨hg,hop,hxd,_⟩:=kL hx;have hl':∀j y,l[j]?=some y->∃o,ops[i+1+j]?=some o/\ey X.P wr ops o=some y:=λj y hy=>by
    have:=hl (j+1) y (by simpa using hy)
    rwa [show i+(j+1)=i+1+j by omega]at this
   simp only[List.length_cons,List.range'_succ,wpOps,ho];rcases hch with⟨ha,r,H',⟨hos,_⟩,hch⟩|⟨ha,hch⟩|⟨_,ha,r,H',hos,hq⟩|⟨_,ha,ps,hos,hch⟩
   ·rw[if_pos (zu ht hg ha)];refine .inl (hos wr o hop M S w a (λx _=>mj ht rfl x) hh (hp0.fh hf) _ _ λM' S' v w' hh' hf' hv=>?_);rw[<- hxd];exact ih (i+1) _ _ hl' hch M' S' _ w' (hf.trans hf') ((ht.mono hf').put x.d hv) hh' (by rw[iO];exact hd)
   ·rw[if_neg (by rw[zu ht hg ha];simp),<- hxd];exact ih (i+1) _ _ hl' hch M S _ w hf (ht.put x.d (.data (.v _))) hh (by rw[iO];exact hd)
   ·rw[if_pos (zu ht hg ha)];refine .inl (hos wr o hop M S w a (λx _=>mj ht rfl x) hh (hp0.fh hf) _ _ λM' S' v w' hh' hf' hv=>?_);exact⟨λ_=>⟨t,.bS r,H',M',S',hq,ht.mono hf',⟨v,rfl,hv⟩,hh',hf.trans hf'⟩,hd⟩
   ·rw[if_pos (zu ht hg ha)];refine .inl (hos wr o hop M S w a (λx _=>mj ht rfl x) hh _ _ λp hp hp1 v hv=>?_);rw[<- hxd];exact ih (i+1) _ _ hl' (hch p hp hp1) M S _ w hf (ht.put x.d hv) hh (by rw[iO];exact hd)
theorem adX {X:Ctx} {k:List SI} {k0:List Item} (hk:cX X.P k0 k) (hok:X.ok) {wr:WR} {id:Nat} {ops:Array Oper} {fl:List FE} (hl:ff (ey X.P wr ops) ops.toList=some fl)
 {b:Frame} (hb:b.fn=X.fid) (hbk:b.kind=.normal) {M0 S0 w0} (hp0:cY X.P M0 X.aI w0) {t H} (hch:Ch X false k fl t H) {M S a w} (hf:aU M0 S0 X.aI w0 M S H w) (ht:dC M S w t a.tmps) (hh:aE M S H w) (hd:a.defers=X.bK):
 Fin' X.P X.bK b (.code (.region id ops false)::k0) a w (Post X.Q X.aI M0 S0 w0):=by
 obtain⟨hlen,hall⟩:=pO hl;refine Fin'.step (λcs=>step_region) (Gc (k0:=k0) hok hb hbk λcs=>?_);have h:=agp hk hok (wr:=wr) (ops:=ops) hb hbk (M0:=M0) (S0:=S0) (w0:=w0) hp0 fl 0 t H (λj x hx=>by
  have hj:j<ops.toList.length:=by rw[<- hlen];exact(List.getElem?_eq_some_iff.1 hx).1
  obtain⟨y,hy,hfe⟩:=hall j _ (List.getElem?_eq_getElem hj);rw[hx]at hy;cases hy;exact⟨ops.toList[j],by simp[Array.getElem?_eq_getElem (by simpa using hj)],hfe⟩) hch M S a w hf ht hh hd
 rw[hlen,Array.length_toList,<- List.range_eq_range']at h;exact wp_ops _ a w h b k0 cs
section
def ip (ops:List Oper) (o:Oper) (i:Nat):Prop:=∀E:Nat->Prop,(∀j x,ops[j]?=some x->E j->∀e∈x.after.toList,Region.binds .any e=true->E e.on)->(∀e∈o.after.toList,Region.binds .any e=true->E e.on)->E i
theorem G5 {acc:List Nat} {i:Nat}:∀ {l:List Edge},(jR acc l).testBit i=true->∃e∈l,Region.binds .any e=true/\(i=e.on\/(acc.getD e.on 0).testBit i=true)
 | [],h=>by simp[jR]at h
 | e::l,h=>by
   simp only[jR]at h;split at h
   ·rename_i hb;rw[Nat.testBit_or,Nat.testBit_or,Bool.or_eq_true,Bool.or_eq_true,Nat.testBit_two_pow]at h;rcases h with (h|h)|h
    ·exact⟨e,by simp,hb,.inl (by simpa using (of_decide_eq_true h).symm)⟩
    ·exact⟨e,by simp,hb,.inr h⟩
    ·obtain⟨e',h1,h2⟩:=G5 h;exact⟨e',by simp[h1],h2⟩
   ·obtain⟨e',h1,h2⟩:=G5 h;exact⟨e',by simp[h1],h2⟩
theorem G4 (all:List Oper):∀(l:List Oper) (acc:List Nat) (pre:List Oper),pre++l=all->acc.length=pre.length->
 (∀j o,pre[j]?=some o->∀i,(acc.getD j 0).testBit i=true->ip all o i)->∀j o,all[j]?=some o->∀i,((g9 l acc).getD j 0).testBit i=true->ip all o i
 | [],acc,pre,hp,_,h=>by simp at hp;subst hp;exact h
 | x::l,acc,pre,hp,hl,h=>by
   simp only[g9];refine G4 all l _ (pre++[x]) (by simp[hp]) (by simp[hl]) λj o hj i hi=>?_;rcases Nat.lt_trichotomy j pre.length with hlt|rfl|hgt
   ·rw[List.getElem?_append_left hlt]at hj;have:(acc++[jR acc x.after.toList]).getD j 0=acc.getD j 0:=by
     simp[List.getD,List.getElem?_append_left (by omega:j<acc.length)]
    rw[this]at hi;exact h j o hj i hi
   ·simp at hj;subst hj;have:(acc++[jR acc x.after.toList]).getD pre.length 0=jR acc x.after.toList:=by
     simp[List.getD,<- hl]
    rw[this]at hi;obtain⟨e,he,hb,hi⟩:=G5 hi;intro E hE hx;rcases hi with rfl|hi
    ·exact hx e he hb
    ·have hlt:e.on<pre.length:=by
      rcases Nat.lt_or_ge e.on acc.length with h'|h'
      ·omega
      ·simp[List.getD,List.getElem?_eq_none h']at hi
     refine h e.on pre[e.on] (List.getElem?_eq_getElem hlt) i hi E hE λe' he' hb'=>hE e.on pre[e.on] ?_ (hx e he hb) e' he' hb';rw[<- hp,List.getElem?_append_left hlt,List.getElem?_eq_getElem hlt]
   ·have:(pre++[x])[j]?=none:=List.getElem?_eq_none (by simp;omega);rw[this]at hj;cases hj
structure Tr (X:Ctx) (k:List SI) (fl:List FE) (ts:Nat->List AV) (hs:Nat->AH):Prop where
 step:∀(i:Nat) (x:FE),fl[i]?=some x->
  (act (ts i) x.g=some true/\∃r,ES X.P true x.o (ts i) (hs i) r (hs (i+1))/\ts (i+1)=a9 (ts i) x.d r)\/
  (act (ts i) x.g=some false/\hs (i+1)=hs i/\ts (i+1)=a9 (ts i) x.d (.v undef))
 last:jN X k (ts fl.length) (hs fl.length)
theorem Hu {X:Ctx} {k:List SI}:∀(fl:List FE) (t:List AV) (H:AH),Ch X true k fl t H->∃ts hs,Tr X k fl ts hs/\ts 0=t/\hs 0=H
 | [],t,H,h=>⟨λ_=>t,λ_=>H,⟨λi x hx=>by simp at hx,h⟩,rfl,rfl⟩
 | x::fl,t,H,h=>by
   rcases h with⟨ha,r,H',hes,hch⟩|⟨ha,hch⟩|⟨h0,_⟩|⟨h0,_⟩
   ·obtain⟨ts,hs,tr,h1,h2⟩:=Hu fl _ _ hch;refine⟨λn=>match n with|0=>t|n+1=>ts n,λn=>match n with|0=>H|n+1=>hs n,⟨λi y hy=>?_,tr.last⟩,rfl,rfl⟩;cases i with
    | zero=>simp at hy;subst hy;exact .inl ⟨ha,r,by simpa[h2]using hes,by simpa using h1⟩
    | succ i=>exact tr.step i y (by simpa using hy)
   ·obtain⟨ts,hs,tr,h1,h2⟩:=Hu fl _ _ hch;refine⟨λn=>match n with|0=>t|n+1=>ts n,λn=>match n with|0=>H|n+1=>hs n,⟨λi y hy=>?_,tr.last⟩,rfl,rfl⟩;cases i with
    | zero=>simp at hy;subst hy;exact .inr ⟨ha,by simpa using h2,by simpa using h1⟩
    | succ i=>exact tr.step i y (by simpa using hy)
   ·cases h0
   ·cases h0
theorem z9 {t:List AV} {d:Option Nat} {r:AV} {y:Nat} (h:d≠some y):(a9 t d r).getD y .any=t.getD y .any:=by
 cases d with
 | none=>rfl
 | some d=>have hne:d≠y:=λe=>h (by rw[e])
           simp[a9,List.getD,List.getElem?_set_ne hne]
theorem pU {o:SO} (h:o.news=true):o.acts=true:=by cases o<;>first|rfl|(exact absurd h (by simp[SO.news]))
theorem OB {o:SO} (h:o.news=true):o.frames=false:=by cases o<;>first|rfl|(exact absurd h (by simp[SO.news]))
section
variable {X:Ctx} {k:List SI} {fl:List FE} {ts:Nat->List AV} {hs:Nat->AH} (tr:Tr X k fl ts hs)
include tr
theorem Tr.len (n:Nat) (hn:n<=fl.length):(ts n).length=(ts 0).length:=by
 induction n with
 | zero=>rfl
 | succ n ih=>
   have hx:=List.getElem?_eq_getElem (show n<fl.length by omega);have hput:∀r,(a9 (ts n) fl[n].d r).length=(ts n).length:=λr=>by cases fl[n].d<;>simp[a9]
   rcases tr.step n _ hx with⟨_,r,_,e⟩|⟨_,_,e⟩<;>rw[e,hput,ih (by omega)]
theorem Tr.same (y c:Nat):∀n,c+n<=fl.length->(∀j x,c<=j->j<c+n->fl[j]?=some x->x.d≠some y)->(ts (c+n)).getD y .any=(ts c).getD y .any
 | 0,_,_=>rfl
 | n+1,hle,h=>by
   have hx:=List.getElem?_eq_getElem (show c+n<fl.length by omega);have hne:=h (c+n) _ (by omega) (by omega) hx;rw[<- Tr.same y c n (by omega) λj x h1 h2=>h j x h1 (by omega)];rcases tr.step _ _ hx with⟨_,r,_,e⟩|⟨_,_,e⟩<;>(rw[show c+(n+1)=c+n+1 by omega,e,z9 hne])
theorem Tr.mF' (c:Nat):∀n,c+n<=fl.length->(∀j x,c<=j->j<c+n->fl[j]?=some x->x.o.acts=true->x.o.news=true)->(hs (c+n)).buf=(hs c).buf
 | 0,_,_=>rfl
 | n+1,hle,h=>by
   have hx:=List.getElem?_eq_getElem (show c+n<fl.length by omega);have hne:=h (c+n) _ (by omega) (by omega) hx;rw[<- Tr.mF' c n (by omega) λj x h1 h2=>h j x h1 (by omega),show c+(n+1)=c+n+1 by omega];rcases tr.step _ _ hx with⟨_,r,he,_⟩|⟨_,e,_⟩
   ·cases ha:(fl[c+n]).o.acts with
    | false=>rw[(he.2 rfl).1 ha]
    | true=>obtain⟨cs,e,_⟩:=(he.2 rfl).2.2.2.1 (hne ha);rw[e]
   ·rw[e]
theorem Tr.mF {c d:Nat} (hcd:c<=d) (hd:d<=fl.length) (h:∀j x,c<=j->j<d->fl[j]?=some x->x.o.acts=true->x.o.news=true):(hs d).buf=(hs c).buf:=by
 obtain⟨n,rfl⟩:∃n,d=c+n:=⟨d-c,by omega⟩
 exact tr.mF' c n hd h
theorem Tr.kW' (c:Nat):∀n,c+n<=fl.length->(∀j x,c<=j->j<c+n->fl[j]?=some x->x.o.acts=true->x.o.frames=true)->(hs (c+n)).box=(hs c).box
 | 0,_,_=>rfl
 | n+1,hle,h=>by
   have hx:=List.getElem?_eq_getElem (show c+n<fl.length by omega);have hne:=h (c+n) _ (by omega) (by omega) hx;rw[<- Tr.kW' c n (by omega) λj x h1 h2=>h j x h1 (by omega),show c+(n+1)=c+n+1 by omega];rcases tr.step _ _ hx with⟨_,r,he,_⟩|⟨_,e,_⟩
   ·cases ha:(fl[c+n]).o.acts with
    | false=>rw[(he.2 rfl).1 ha]
    | true=>exact((he.2 rfl).2.2.2.2 (hne ha)).1
   ·rw[e]
theorem Tr.kW {c d:Nat} (hcd:c<=d) (hd:d<=fl.length) (h:∀j x,c<=j->j<d->fl[j]?=some x->x.o.acts=true->x.o.frames=true):(hs d).box=(hs c).box:=by
 obtain⟨n,rfl⟩:∃n,d=c+n:=⟨d-c,by omega⟩
 exact tr.kW' c n hd h
theorem Tr.IK (c:Nat):∀n,c+n<=fl.length->(∀j x,c<=j->j<c+n->fl[j]?=some x->x.o.acts=true->x.o.news=true\/x.o.frames=true)->∃bx,(hs (c+n)).box=(hs c).box++bx
 | 0,_,_=>⟨[],by simp⟩
 | n+1,hle,h=>by
   have hx:=List.getElem?_eq_getElem (show c+n<fl.length by omega);have hne:=h (c+n) _ (by omega) (by omega) hx;obtain⟨bx,hbx⟩:=Tr.IK c n (by omega) λj x h1 h2=>h j x h1 (by omega);rw[show c+(n+1)=c+n+1 by omega];rcases tr.step _ _ hx with⟨_,r,he,_⟩|⟨_,e,_⟩
   ·cases ha:(fl[c+n]).o.acts with
    | false=>exact⟨bx,by rw[(he.2 rfl).1 ha,hbx]⟩
    | true=>
      rcases hne ha with hn|hn
      ·obtain⟨cs,e,_⟩:=(he.2 rfl).2.2.2.1 hn;exact⟨bx++[cs],by rw[e,hbx];simp⟩
      ·exact⟨bx,by rw[((he.2 rfl).2.2.2.2 hn).1,hbx]⟩
   ·exact⟨bx,by rw[e,hbx]⟩
theorem Tr.same' (y:Nat) {c i:Nat} (hc:c<=fl.length) (hi:i<=fl.length) (h:∀j x,fl[j]?=some x->x.d=some y->¬(c<=j/\j<i)/\¬(i<=j/\j<c)):(ts c).getD y .any=(ts i).getD y .any:=by
 rcases Nat.le_total c i with hle|hle
 ·obtain⟨n,rfl⟩:∃n,i=c+n:=⟨i-c,by omega⟩
  exact(tr.same y c n hi λj x h1 h2 hx hd=>(h j x hx hd).1 ⟨h1,h2⟩).symm
 ·obtain⟨n,rfl⟩:∃n,c=i+n:=⟨c-i,by omega⟩
  exact tr.same y i n hc λj x h1 h2 hx hd=>(h j x hx hd).2 ⟨h1,h2⟩
end
theorem G8 {α:Type} (p q:α->Bool):∀(l:List α),(∀x∈l,q x=true->p x=true)->(∃x∈l,p x=true/\q x=false)->l.countP q<l.countP p
 | [],_,⟨_,h,_⟩=>by cases h
 | y::l,hi,⟨x,hx,h1,h2⟩=>by
   have hle:l.countP q<=l.countP p:=List.countP_mono_left λz hz=>hi z (List.mem_cons_of_mem _ hz);rcases List.mem_cons.1 hx with rfl|hx
   ·simp[h1,h2];omega
   ·have:=G8 p q l (λz hz=>hi z (List.mem_cons_of_mem _ hz)) ⟨x,hx,h1,h2⟩;have hy:=hi y (List.mem_cons_self ..);simp only[List.countP_cons];by_cases hq:q y=true
    ·simp[hq,hy hq];exact this
    ·simp[hq];split<;>omega
structure IC (ops:Array Oper) (fl:List FE):Prop where
 down:∀(i:Nat) o,ops.toList[i]?=some o->∀e∈o.after.toList,Region.binds .any e=true->e.on<i
 tmps:∀(i j:Nat) x y,ops.toList[i]?=some x->ops.toList[j]?=some y->i<j->x.apart ops y=false->ip ops.toList y i
 heap:∀(i j:Nat) x y o,fl[i]?=some x->fl[j]?=some y->i<j->ops.toList[j]?=some o->((x.o.acts=true/\((y.o.acts=true/\(x.o.frames&&y.o.news)=false)\/y.o.sees=true))\/(x.o.sees=true/\y.o.acts=true/\y.o.news=false))->ip ops.toList o i
theorem kF {α:Type} {l:List α} {p:α×Nat->Bool} (h:l.zipIdx.all p=true) (i:Nat) (x:α) (hx:l[i]?=some x):p (x,i)=true:=by
 rw[List.all_eq_true]at h;exact h (x,i) (List.mk_mem_zipIdx_iff_getElem?.2 hx)
theorem aeB {ops:Array Oper} {fl:List FE} (h:mH ops fl=true):IC ops fl:=by
 simp only[mH,Bool.and_eq_true]at h;obtain⟨⟨h1,h2⟩,h3⟩:=h;have uO:∀j o,ops.toList[j]?=some o->∀i,((g9 ops.toList []).getD j 0).testBit i=true->ip ops.toList o i:=
  G4 ops.toList ops.toList [] [] rfl rfl (λj o hj=>by simp at hj)
 refine⟨λi o ho e he hb=>?_,λi j x y hx hy hij hap=>?_,λi j x y o hx hy hij ho hc=>?_⟩
 ·have:=kF h1 i o ho;simp only[List.all_eq_true]at this;have:=this e he;simp[hb]at this;exact this
 ·have:=kF (kF h2 j y hy) i x (by rw[List.getElem?_take_of_lt hij];exact hx);simp only[hap,Bool.false_or]at this;exact uO j y hy i this
 ·have:=kF (kF h3 j y hy) i x (by rw[List.getElem?_take_of_lt hij];exact hx);simp only[Bool.or_eq_true]at this;refine uO j o ho i (this.resolve_left ?_);rcases hc with⟨a,⟨b,c⟩|b⟩|⟨a,b,c⟩
  ·rw[a,b,c];simp
  ·simp[a,b]
  ·simp[a,b,c]
end
section
def lst (listed:Array Bool) (j:Nat):Prop:=listed.getD j false=true
theorem co {listed:Array Bool} {i j:Nat} (hi:i<listed.size):lst (listed.setIfInBounds i true) j↔lst listed j\/j=i:=by
 unfold lst;by_cases e:i=j
 ·subst e;simp[Array.getD,hi]
 ·by_cases hj:j<listed.size
  ·simp[Array.getD,hj,e,Ne.symm e]
  ·simp[Array.getD,hj,Ne.symm e]
structure Mid (X:Ctx) (fl:List FE) (ts:Nat->List AV) (hs:Nat->AH) (M0:Maps) (S0:Nat->Prop) (w0:World) (listed:Array Bool) (M:Maps) (S:Nat->Prop) (a:Act) (w:World):Prop where
 bK:a.defers=X.bK
 size:a.tmps.size=(ts 0).length
 slot:∀y,y<(ts 0).length->∃c,c<=fl.length/\(∀(j:Nat) x,fl[j]?=some x->x.d=some y->(lst listed j↔j<c))/\am M S w (a.tmps.getD y undef) ((ts c).getD y .any)
 heap:∃c c',c<=c'/\c'<=fl.length/\(∀(j:Nat) x,fl[j]?=some x->x.o.acts=true->x.o.news=false->(lst listed j↔j<c))/\(∀(j:Nat) x,fl[j]?=some x->x.o.news=true->(lst listed j↔j<c'))/\
  (∀(j:Nat) x,c<=j->j<c'->fl[j]?=some x->x.o.acts=true->x.o.news=false->x.o.frames=true)/\aE M S ⟨(hs c').box,(hs c).buf⟩ w/\aU M0 S0 X.aI w0 M S ⟨(hs c').box,(hs c).buf⟩ w
section
variable {X:Ctx} {k:List SI} {fl:List FE} {ts:Nat->List AV} {hs:Nat->AH} (tr:Tr X k fl ts hs) {ops:Array Oper} {wr:WR}
 (hl:∀(i:Nat) o,ops[i]?=some o->∃x,fl[i]?=some x/\ey X.P wr ops o=some x) (hn:fl.length=ops.size) (ok:IC ops fl)
 {M0:Maps} {S0:Nat->Prop} {w0:World} {k0:List Item} {b:Frame}
include tr hl hn ok
theorem agX (hb:b.fn=X.fid) (hbk:b.kind=.normal) (hok:X.ok) (hk:cX X.P k0 k) (hp0:cY X.P M0 X.aI w0):∀(fuel:Nat) (listed:Array Bool) (M:Maps) (S:Nat->Prop) (a:Act) (w:World),listed.size=ops.size->
 (∀(j:Nat) o,ops[j]?=some o->lst listed j->∀e∈o.after.toList,Region.binds .any e=true->lst listed e.on)->
 (List.range ops.size).countP (λi=>!listed.getD i false)<=fuel->
 Mid X fl ts hs M0 S0 w0 listed M S a w->wpAny X.P .any ops (λe a w=>RQ X b k0 (Post X.Q X.aI M0 S0 w0) e a w/\a.defers=X.bK) fuel listed a w:=by
 have fq:∀(i:Nat) o,ops[i]?=some o->ops.toList[i]?=some o:=λi o h=>by simpa using h
 have done:∀(listed:Array Bool) (M:Maps) (S:Nat->Prop) (a:Act) (w:World),(∀j,j<ops.size->lst listed j)->Mid X fl ts hs M0 S0 w0 listed M S a w->
  RQ X b k0 (Post X.Q X.aI M0 S0 w0) .normal a w/\a.defers=X.bK:=by
  intro listed M S a w hall m;refine⟨λhd=>?_,m.bK⟩;obtain⟨c,c',hcc,hc,hcut,hcut',hfr,hh,hf⟩:=m.heap;have he1:(hs fl.length).buf=(hs c).buf:=tr.mF (by omega) (Nat.le_refl _) λj x h1 h2 hx ha=>by
   cases hn':x.o.news with
   | true=>rfl
   | false=>have:=(hcut j x hx ha hn').1 (hall j (by omega));omega
  have he2:(hs fl.length).box=(hs c').box:=tr.kW hc (Nat.le_refl _) λj x h1 h2 hx ha=>by
   cases hn':x.o.news with
   | true=>have:=(hcut' j x hx hn').1 (hall j (by omega));omega
   | false=>have:=(hcut j x hx ha hn').1 (hall j (by omega));omega
  rw[<- he1,<- he2]at hh hf;refine(jN.to hk tr.last) hok M0 S0 w0 hp0 M S a w k0 hk hf ⟨by rw[m.size,tr.len _ (Nat.le_refl _)],λy hy=>?_⟩ hh hd b hb hbk;rw[tr.len _ (Nat.le_refl _)]at hy;obtain⟨c,hc,hcut,hv⟩:=m.slot y hy
  rwa [tr.same' y hc (Nat.le_refl _) λj x hx hd'=>by
   have hj:j<fl.length:=(List.getElem?_eq_some_iff.1 hx).1;have:=(hcut j x hx hd').1 (hall j (by omega));omega]at hv
 intro fuel
 induction fuel with
 | zero=>
   intro listed M S a w hsz hcl hcnt m;have hall:∀j,j<ops.size->lst listed j:=λj hj=>by
    have h0:=Nat.le_zero.1 hcnt;rw[List.countP_eq_zero]at h0;have:=h0 j (List.mem_range.2 hj);simpa[lst]using this
   refine⟨?_,done listed M S a w hall m⟩;cases hr:Region.ready .any ops listed with
   | nil=>rfl
   | cons i l=>
     have hi:i∈Region.ready .any ops listed:=by rw[hr];simp
     obtain⟨hun,o,ho,_⟩:=mem_ready.1 hi;have hlt:i<ops.size:=(Array.getElem?_eq_some_iff.1 ho).1;have:=hall i hlt;simp[lst,Array.getD,hsz,hlt]at this hun;rw[this]at hun;cases hun
 | succ fuel ih=>
   intro listed M S a w hsz hcl hcnt m;refine⟨λhr=>done listed M S a w (λj hj=>?_) m,λi hi=>?_⟩
   ·
    induction j using Nat.strongRecOn with
    | ind j B1=>
      rcases h:listed.getD j true with _|_
      ·exfalso;have qT:j∈Region.ready .any ops listed:=by
        refine mem_ready.2 ⟨h,ops[j],Array.getElem?_eq_getElem hj,λe he hbi=>?_⟩;have hlt:=ok.down j ops[j] (fq j _ (Array.getElem?_eq_getElem hj)) e (by simpa using he) hbi;exact B1 e.on hlt (by omega)
       rw[hr]at qT;cases qT
      ·simp only[lst,Array.getD,hsz,hj,dite_true]at h ⊢;exact h
   ·obtain⟨hun,o,ho,hpre⟩:=mem_ready.1 hi;have hlt:i<ops.size:=(Array.getElem?_eq_some_iff.1 ho).1;have hlt':i<listed.size:=by omega
    have hnot:¬lst listed i:=by
     intro h;simp only[lst,Array.getD,hlt',dite_true]at h hun;rw[h]at hun;cases hun
    obtain⟨x,hx,hfe⟩:=hl i o ho;obtain⟨hg,hop,hxd,_⟩:=kL hfe;have ahead:∀j,ip ops.toList o j->lst listed j:=λj h=>h (lst listed) (λj' x' hx' hj' e he hbi=>hcl j' x' (by simpa using hx') hj' e he hbi) (λe he hbi=>hpre e (by simpa using he) hbi)
    have behind:∀j y,ops[j]?=some y->ip ops.toList y i->¬lst listed j:=λj y hy h hj=>
     hnot (h (lst listed) (λj' x' hx' hj' e he hbi=>hcl j' x' (by simpa using hx') hj' e he hbi) (λe he hbi=>hcl j y hy hj e he hbi))
    have qL:∀(j:Nat) y,fl[j]?=some y->∃oj,ops[j]?=some oj/\y.d=oj.dst:=λj y hy=>by
     have hj:j<ops.size:=by have:=(List.getElem?_eq_some_iff.1 hy).1;omega
     obtain⟨y',hy',hfe'⟩:=hl j ops[j] (Array.getElem?_eq_getElem hj);rw[hy]at hy';cases hy';exact⟨ops[j],Array.getElem?_eq_getElem hj,(kL hfe').2.2.1⟩
    have cutAt:∀y,(y∈o.looksAt ops\/o.dst=some y)->∀(j:Nat) z,fl[j]?=some z->z.d=some y->j≠i->(lst listed j↔j<i):=by
     intro y hy j z hz hzd hne;obtain⟨oj,hoj,hdj⟩:=qL j z hz;have hdj':oj.dst=some y:=by rw[<- hdj];exact hzd
     rcases Nat.lt_or_ge j i with hji|hij
     ·refine⟨λ_=>hji,λ_=>ahead j (ok.tmps j i oj o (fq j _ hoj) (fq i _ ho) hji ?_)⟩;rcases hy with hy|hy
      ·simp[Oper.apart,hdj',hy]
      ·simp[Oper.apart,hdj',hy]
     ·have hij:i<j:=by omega
      refine⟨λh=>absurd h (behind j oj hoj (ok.tmps i j o oj (fq i _ ho) (fq j _ hoj) hij ?_)),λh=>by omega⟩;rcases hy with hy|hy
      ·have:(o.looksAt ops).contains y=true:=by simpa using hy
       cases hod:o.dst<;>simp[Oper.apart,hdj',hod,hy]
      ·simp[Oper.apart,hdj',hy]
    have rA:∀y,y<(ts 0).length->y∈o.looksAt ops->am M S w (a.tmps.getD y undef) ((ts i).getD y .any):=by
     intro y hy hlook;obtain⟨c,hc,hcut,hv⟩:=m.slot y hy
     rwa [tr.same' y hc (show i<=fl.length by omega) λj z hz hzd=>?_]at hv
     by_cases e:j=i
     ·subst e;have:=hcut j z hz hzd;refine⟨λh=>by omega,λh=>hnot (this.2 h.2)⟩
     ·have h1:=hcut j z hz hzd;have h2:=cutAt y (.inl hlook) j z hz hzd e;constructor
      ·intro⟨h3,h4⟩;have:=h1.1 (h2.2 h4);omega
      ·intro⟨h3,h4⟩;have:=h2.1 (h1.2 h4);omega
    have oM:∀z∈o.op.operands,am M S w (a.eval z) (od (ts i) (ak z)):=by
     intro z hz;cases z with
     | tmp y=>
       simp only[Act.eval,ak,od];by_cases hy:y<(ts 0).length
       ·exact rA y hy (List.mem_append_left _ (List.mem_filterMap.2 ⟨.tmp y,by simpa using hz,rfl⟩))
       ·have:(ts i).getD y AV.any=.any:=by simp[List.getD,List.getElem?_eq_none (show(ts i).length<=y by rw[tr.len i (by omega)];exact Nat.le_of_not_lt hy)]
        rw[this];exact .data (.any _)
     | const v=>exact .data (pY S w v)
     | global g=>exact .data (.v _)
     | func f=>exact .data (.fn (.func f) #[] #[] [] [] rfl rfl (λi hi=>by simp at hi) (λi hi=>by simp at hi))
    have rP:∀c,act (ts i) x.g=some c->Region.wanted o (yielded ops a.tmps)=c:=by
     intro c hc;unfold jT at hg;split at hg
     ·rename_i hgu;simp only[Option.some.injEq]at hg;rw[<- hg]at hc;simp[act]at hc;simp[Region.wanted,hgu,hc]
     ·rename_i jg wg hgu;split at hg
      ·rename_i d hd;simp only[Option.some.injEq]at hg;have hlook:d∈o.looksAt ops:=by simp[Oper.looksAt,hgu,hd]
       rw[<- hg]at hc;simp only[act]at hc;have hne:∀v,(ts i).getD d AV.any=.v v->a.tmps[d]?=some v:=λv hv=>by
        have hdl:d<(ts 0).length:=by
         rcases Nat.lt_or_ge d (ts 0).length with h|h
         ·exact h
         ·have:(ts i).getD d AV.any=.any:=by simp[List.getD,List.getElem?_eq_none (show(ts i).length<=d by rw[tr.len i (by omega)];exact h)]
          rw[this]at hv;cases hv
        have hr:=rA d hdl hlook;rw[hv]at hr;have:=hr.bh;have hds:d<a.tmps.size:=by rw[m.size];exact hdl
        simp[Array.getD,hds]at this;simp[hds,this]
       simp only[Region.wanted,hgu,yielded,hd,Option.bind_some];split at hc
       ·rename_i bb hbb;rw[hne _ hbb];simp at hc;subst hc;cases bb<;>cases wg<;>rfl
       ·rename_i vs hbb;rw[hne _ hbb];simp at hc;subst hc;rfl
       ·cases hc
      ·cases hg
    have hcl':∀(j:Nat) o',ops[j]?=some o'->lst (listed.setIfInBounds i true) j->∀e∈o'.after.toList,Region.binds .any e=true->lst (listed.setIfInBounds i true) e.on:=by
     intro j o' ho' hj e he hbi;rw[co hlt']at hj ⊢;rcases hj with hj|rfl
     ·exact .inl (hcl j o' ho' hj e he hbi)
     ·rw[ho]at ho';cases ho';exact .inl (hpre e (by simpa using he) hbi)
    have hcnt':(List.range ops.size).countP (λi'=>!(listed.setIfInBounds i true).getD i' false)<=fuel:=by
     have:=G8 (λi'=>!listed.getD i' false) (λi'=>!(listed.setIfInBounds i true).getD i' false) (List.range ops.size) (λz _ hz=>by
      have:¬lst (listed.setIfInBounds i true) z:=by simpa[lst]using hz
      rw[co hlt']at this;have h':¬lst listed z:=λh=>this (.inl h);simpa[lst]using h')
      ⟨i,List.mem_range.2 hlt,by simpa[lst]using hnot,by
        have:lst (listed.setIfInBounds i true) i:=(co hlt').2 (.inr rfl);simpa[lst]using this⟩
     omega
    have slots':∀ {M':Maps} {S':Nat->Prop} {w':World} {v:Value} {r:AV} {H H':AH},aU M S H w M' S' H' w'->am M' S' w' v r->ts (i+1)=a9 (ts i) x.d r->
     ∀y,y<(ts 0).length->∃c,c<=fl.length/\(∀(j:Nat) z,fl[j]?=some z->z.d=some y->(lst (listed.setIfInBounds i true) j↔j<c))/\am M' S' w' ((a.put o.dst v).tmps.getD y undef) ((ts c).getD y .any):=by
     intro M' S' w' v r H H' hf hv hts y hy;by_cases e:o.dst=some y
     ·refine⟨i+1,by omega,λj z hz hzd=>?_,?_⟩
      ·rw[co hlt'];by_cases e':j=i
       ·subst e';simp
       ·rw[cutAt y (.inr e) j z hz hzd e'];omega
      ·have hys:y<a.tmps.size:=by rw[m.size];exact hy
       have B0:y<(ts i).length:=by rw[tr.len i (by omega)];exact hy
       rw[hts,hxd,e];simpa[Act.put,a9,Array.getD,List.getD,hys,B0]using hv
     ·obtain⟨c,hc,hcut,hv'⟩:=m.slot y hy;refine⟨c,hc,λj z hz hzd=>?_,?_⟩
      ·rw[co hlt',<- hcut j z hz hzd];refine⟨λh=>h.resolve_right λe'=>?_,.inl⟩;subst e';rw[hx]at hz;cases hz;rw[hxd]at hzd;exact e hzd
      ·have:(a.put o.dst v).tmps.getD y undef=a.tmps.getD y undef:=by
        cases hd:o.dst with
        | none=>rfl
        | some d=>
          have hne:d≠y:=λh=>e (by rw[hd,h]);by_cases hys:y<a.tmps.size
          ·simp[Act.put,Array.getD,hys,hne]
          ·simp[Act.put,Array.getD,hys]
       rw[this];exact hv'.mono hf.sub hf.cv hf.le
    have hsize':∀v,(a.put o.dst v).tmps.size=(ts 0).length:=λv=>by rw[<- m.size];cases o.dst<;>simp[Act.put]
    have Kn:∀(j:Nat) z,fl[j]?=some z->∃oj,ops[j]?=some oj:=λj z hz=>(qL j z hz).imp λ_ h=>h.1
    obtain⟨c,c',hcc,hc,hcut,hcut',hfr,hh,hf⟩:=m.heap;have hi:i<fl.length:=(List.getElem?_eq_some_iff.1 hx).1;have Bb:(∀(j:Nat) z,fl[j]?=some z->z.o.acts=true->j<i->lst listed j)->(∀(j:Nat) z,fl[j]?=some z->z.o.acts=true->z.o.news=false->i<j->¬lst listed j)->
     ∃d,i<=d/\d<=fl.length/\(hs c).buf=(hs i).buf/\(hs c').box=(hs d).box/\(∀(j:Nat) z,fl[j]?=some z->z.o.news=true->j≠i->(lst listed j↔j<d))/\
      (∀(j:Nat) z,i<=j->j<d->fl[j]?=some z->z.o.acts=true->z.o.news=false->z.o.frames=true):=by
     intro hlow hhigh;have hbuf:(hs c).buf=(hs i).buf:=by
      rcases Nat.le_total c i with h|h
      ·exact(tr.mF h (by omega) λj z h1 h2 hz hza=>by
        cases hn':z.o.news with
        | true=>rfl
        | false=>have:=(hcut j z hz hza hn').1 (hlow j z hz hza h2);omega).symm
      ·exact tr.mF h (by omega) λj z h1 h2 hz hza=>by
        cases hn':z.o.news with
        | true=>rfl
        | false=>
          have hl':=(hcut j z hz hza hn').2 h2;by_cases e:j=i
          ·subst e;exact absurd hl' hnot
          ·exact absurd hl' (hhigh j z hz hza hn' (by omega))
     have JK:∀(j:Nat) z,i<=j->j<c'->fl[j]?=some z->z.o.acts=true->z.o.news=false->z.o.frames=true:=λj z h1 h2 hz hza hn'=>by
      refine hfr j z ?_ h2 hz hza hn';rcases Nat.lt_or_ge j c with h|h
      ·have hl':=(hcut j z hz hza hn').2 h;by_cases e:j=i
       ·subst e;exact absurd hl' hnot
       ·exact absurd hl' (hhigh j z hz hza hn' (by omega))
      ·exact h
     by_cases hex:∃(j:Nat) (z:FE),fl[j]?=some z/\z.o.news=true/\i<j/\lst listed j
     ·obtain⟨j0,z0,hz0,hn0,hj0,hl0⟩:=hex;have:=(hcut' j0 z0 hz0 hn0).1 hl0;exact⟨c',by omega,hc,hbuf,rfl,λj z hz hn' _=>hcut' j z hz hn',JK⟩
     ·refine⟨i,Nat.le_refl _,by omega,hbuf,?_,λj z hz hn' hne=>⟨λh=>?_,λh=>hlow j z hz (pU hn') h⟩,λj z h1 h2=>by omega⟩
      ·rcases Nat.le_total c' i with h|h
       ·exact(tr.kW h (by omega) λj z h1 h2 hz hza=>by
         cases hn':z.o.news with
         | true=>have:=(hcut' j z hz hn').1 (hlow j z hz hza h2);omega
         | false=>have:=(hcut j z hz hza hn').1 (hlow j z hz hza h2);omega).symm
       ·exact tr.kW h hc λj z h1 h2 hz hza=>by
         cases hn':z.o.news with
         | true=>
           have hl':=(hcut' j z hz hn').2 h2;by_cases e:j=i
           ·subst e;exact absurd hl' hnot
           ·exact absurd ⟨j,z,hz,hn',by omega,hl'⟩ hex
         | false=>exact JK j z h1 h2 hz hza hn'
      ·rcases Nat.lt_or_ge j i with h'|h'
       ·exact h'
       ·exact absurd ⟨j,z,hz,hn',by omega,h⟩ hex
    have hlow:x.o.acts=true/\x.o.news=false\/x.o.acts=false/\x.o.sees=true->∀(j:Nat) z,fl[j]?=some z->z.o.acts=true->j<i->lst listed j:=λhc' j z hz hza hji=>by
     refine ahead j (ok.heap j i z x o hz hx hji (fq i _ ho) (.inl ⟨hza,?_⟩));rcases hc' with⟨h1,h2⟩|⟨h1,h2⟩
     ·exact .inl ⟨h1,by simp[h2]⟩
     ·exact .inr h2
    have hhigh:x.o.acts=true/\x.o.news=false\/x.o.acts=false/\x.o.sees=true->∀(j:Nat) z,fl[j]?=some z->z.o.acts=true->z.o.news=false->i<j->¬lst listed j:=λhc' j z hz hza hzn hij=>by
     obtain⟨oj,hoj⟩:=Kn j z hz;refine behind j oj hoj (ok.heap i j x z oj hx hz hij (fq j _ hoj) ?_);rcases hc' with⟨h1,h2⟩|⟨h1,h2⟩
     ·exact .inl ⟨h1,.inl ⟨hza,by simp[hzn]⟩⟩
     ·exact .inr ⟨h2,hza,hzn⟩
    have IH:x.o.news=true->(hs c').box=(hs i).box/\∃e,e<=i+1/\(hs c).buf=(hs e).buf/\(∀(j:Nat) z,fl[j]?=some z->z.o.acts=true->z.o.news=false->(lst listed j↔j<e))/\
     (∀(j:Nat) z,e<=j->j<i+1->fl[j]?=some z->z.o.acts=true->z.o.news=false->z.o.frames=true)/\(∀(j:Nat) z,fl[j]?=some z->z.o.news=true->j≠i->(lst listed j↔j<i+1)):=by
     intro hxn;have hxa:=pU hxn;have UX:=OB hxn;have um:∀(j:Nat) z,fl[j]?=some z->z.o.acts=true->i<j->¬lst listed j:=λj z hz hza hij=>by
      obtain⟨oj,hoj⟩:=Kn j z hz;exact behind j oj hoj (ok.heap i j x z oj hx hz hij (fq j _ hoj) (.inl ⟨hxa,.inl ⟨hza,by simp[UX]⟩⟩))
     have Bd:∀(j:Nat) z,fl[j]?=some z->z.o.acts=true->j<i->z.o.frames=false->lst listed j:=λj z hz hza hji qU=>
      ahead j (ok.heap j i z x o hz hx hji (fq i _ ho) (.inl ⟨hza,.inl ⟨hxa,by simp[qU]⟩⟩))
     have Cn:∀(j:Nat) z,fl[j]?=some z->z.o.news=true->j≠i->(lst listed j↔j<i):=λj z hz hzn hne=>
      ⟨λh=>by
        rcases Nat.lt_or_ge j i with h'|h'
        ·exact h'
        ·exact absurd h (um j z hz (pU hzn) (by omega)),λh=>Bd j z hz (pU hzn) h (OB hzn)⟩
     refine⟨?_,?_⟩
     ·rcases Nat.le_total c' i with h|h
      ·exact(tr.kW h (by omega) λj z h1 h2 hz hza=>by
        cases hn':z.o.news with
        | true=>have:=(hcut' j z hz hn').1 ((Cn j z hz hn' (by omega)).2 h2);omega
        | false=>
          cases qU:z.o.frames with
          | true=>rfl
          | false=>have:=(hcut j z hz hza hn').1 (Bd j z hz hza h2 qU);omega).symm
      ·exact tr.kW h hc λj z h1 h2 hz hza=>by
        cases hn':z.o.news with
        | true=>
          have hl':=(hcut' j z hz hn').2 h2;by_cases e:j=i
          ·subst e;exact absurd hl' hnot
          ·have:=(Cn j z hz hn' e).1 hl';omega
        | false=>
          refine hfr j z ?_ h2 hz hza hn';rcases Nat.lt_or_ge j c with h'|h'
          ·have hl':=(hcut j z hz hza hn').2 h';by_cases e:j=i
           ·subst e;exact absurd hl' hnot
           ·exact absurd hl' (um j z hz hza (by omega))
          ·exact h'
     ·have hnw:∀(j:Nat) z,fl[j]?=some z->z.o.acts=true->z.o.news=false->j≠i:=λj z hz _ hn' e=>by subst e;rw[hx]at hz;cases hz;rw[hxn]at hn';cases hn'
      have hfin:∀(j:Nat) z,fl[j]?=some z->z.o.news=true->j≠i->(lst listed j↔j<i+1):=λj z hz hn' hne=>by rw[Cn j z hz hn' hne];omega
      rcases Nat.le_total c (i+1)with h|h
      ·refine⟨c,h,rfl,hcut,λj z h1 h2 hz hza hn'=>?_,hfin⟩;cases qU:z.o.frames with
       | true=>rfl
       | false=>
         have hne:=hnw j z hz hza hn';have:=(hcut j z hz hza hn').1 (Bd j z hz hza (by omega) qU);omega
      ·refine⟨i+1,Nat.le_refl _,tr.mF h (by omega) λj z h1 h2 hz hza=>?_,λj z hz hza hn'=>?_,λj z h1 h2=>by omega,hfin⟩
       ·cases hn':z.o.news with
        | true=>rfl
        | false=>exact absurd ((hcut j z hz hza hn').2 h2) (um j z hz hza (by omega))
       ·rw[hcut j z hz hza hn'];refine⟨λh'=>?_,λh'=>by omega⟩;rcases Nat.lt_or_ge j (i+1)with h2|h2
        ·exact h2
        ·exact absurd ((hcut j z hz hza hn').2 h') (um j z hz hza (by omega))
    simp only[wpOp,ho];rcases tr.step i x hx with⟨ha,r,hes,hts⟩|⟨ha,BT,hts⟩
    ·rw[if_pos (rP _ ha)];left;obtain⟨hos,hcls⟩:=hes;have hcls:=hcls rfl;by_cases hact:x.o.acts=true
     ·by_cases hxn:x.o.news=true
      ·obtain⟨hb1,e,he1,he2,he3,he4,BP⟩:=IH hxn;obtain⟨cs,hcs,UO⟩:=hcls.2.2.2.1 hxn;rw[hb1,he2]at hh hf;refine UO (hs e).buf wr o hop M S w a oM hh (hp0.fh hf) _ _ λM' S' v w' hh' hf' hv=>?_;have hbx:(hs i).box++[cs]=(hs (i+1)).box:=by rw[hcs]
       rw[hbx]at hh' hf';refine ih _ M' S' _ w' (by simp[hsz]) hcl' hcnt' ⟨by rw[iO];exact m.bK,hsize' v,slots' hf' hv hts,?_⟩;refine⟨e,i+1,he1,by omega,λj z hz hza hn'=>?_,λj z hz hn'=>?_,he4,hh',hf.trans hf'⟩
       ·rw[co hlt',<- he3 j z hz hza hn'];refine⟨λh=>h.resolve_right λe'=>?_,.inl⟩;subst e';rw[hx]at hz;cases hz;rw[hxn]at hn';cases hn'
       ·rw[co hlt'];by_cases e':j=i
        ·subst e';simp
        ·rw[BP j z hz hn' e'];omega
      ·have hxn:x.o.news=false:=by simpa using hxn
       have hca:x.o.acts=true/\x.o.news=false\/x.o.acts=false/\x.o.sees=true:=.inl ⟨hact,hxn⟩;obtain⟨d,hd1,hd2,hd3,hd4,hd5,hd6⟩:=Bb (hlow hca) (hhigh hca);rw[hd3,hd4]at hh hf;have qE:∀(j:Nat) z,fl[j]?=some z->z.o.acts=true->z.o.news=false->(lst (listed.setIfInBounds i true) j↔j<i+1):=λj z hz hza hn'=>by
        rw[co hlt'];by_cases e':j=i
        ·subst e';simp
        ·refine⟨λh=>?_,λh=>.inl (hlow hca j z hz hza (by omega))⟩;have h:=h.resolve_right e';rcases Nat.lt_or_ge j (i+1)with h2|h2
         ·exact h2
         ·exact absurd h (hhigh hca j z hz hza hn' (by omega))
       rcases Nat.lt_or_ge i d with hid|hid
       ·have UG:=hd6 i x (Nat.le_refl _) hid hx hact hxn;obtain⟨hb,UN⟩:=hcls.2.2.2.2 UG;refine UN (hs d).box wr o hop M S w a oM hh (hp0.fh hf) _ _ λM' S' v w' hh' hf' hv=>?_;refine ih _ M' S' _ w' (by simp[hsz]) hcl' hcnt' ⟨by rw[iO];exact m.bK,hsize' v,slots' hf' hv hts,?_⟩;refine⟨i+1,d,by omega,hd2,qE,λj z hz hn'=>?_,λj z h1 h2=>hd6 j z (by omega) h2,hh',hf.trans hf'⟩;have hne:j≠i:=λe'=>by subst e';rw[hx]at hz;cases hz;rw[hxn]at hn';cases hn'
        rw[co hlt',<- hd5 j z hz hn' hne];exact⟨λh=>h.resolve_right hne,.inl⟩
       ·obtain rfl:d=i:=by omega
        refine hos wr o hop M S w a oM hh (hp0.fh hf) _ _ λM' S' v w' hh' hf' hv=>?_;refine ih _ M' S' _ w' (by simp[hsz]) hcl' hcnt' ⟨by rw[iO];exact m.bK,hsize' v,slots' hf' hv hts,?_⟩;refine⟨d+1,d+1,Nat.le_refl _,by omega,qE,λj z hz hn'=>?_,λj z h1 h2=>by omega,hh',hf.trans hf'⟩;have hne:j≠d:=λe'=>by subst e';rw[hx]at hz;cases hz;rw[hxn]at hn';cases hn'
        rw[co hlt',hd5 j z hz hn' hne];omega
     ·have gP:x.o.acts=false:=by simpa using hact
      have hext:OS X.P x.o (ts i) ⟨(hs c').box,(hs c).buf⟩ (.ret r) ⟨(hs c').box,(hs c).buf⟩:=by
       by_cases JT:x.o.sees=true
       ·have hca:x.o.acts=true/\x.o.news=false\/x.o.acts=false/\x.o.sees=true:=.inr ⟨gP,JT⟩;obtain⟨d,hd1,hd2,hd3,hd4,hd5,hd6⟩:=Bb (hlow hca) (hhigh hca);obtain⟨n,rfl⟩:∃n,d=i+n:=⟨d-i,by omega⟩
        obtain⟨bx,hbx⟩:=tr.IK i n hd2 λj z h1 h2 hz hza=>by
         cases hn':z.o.news with
         | true=>exact .inl rfl
         | false=>exact .inr (hd6 j z h1 h2 hz hza hn')
        rw[hd3,hd4,hbx];exact hcls.2.2.1 gP bx
       ·exact hcls.2.1 gP (by simpa using JT) _
      refine hext wr o hop M S w a oM hh (hp0.fh hf) _ _ λM' S' v w' hh' hf' hv=>?_;refine ih _ M' S' _ w' (by simp[hsz]) hcl' hcnt' ⟨by rw[iO];exact m.bK,hsize' v,slots' hf' hv hts,c,c',hcc,hc,λj z hz hza hn'=>?_,λj z hz hn'=>?_,hfr,hh',hf.trans hf'⟩
      ·rw[co hlt',<- hcut j z hz hza hn'];refine⟨λh=>h.resolve_right λe=>?_,.inl⟩;subst e;rw[hx]at hz;cases hz;rw[gP]at hza;cases hza
      ·rw[co hlt',<- hcut' j z hz hn'];refine⟨λh=>h.resolve_right λe=>?_,.inl⟩;subst e;rw[hx]at hz;cases hz;rw[pU hn']at gP;cases gP
    ·rw[if_neg (by rw[rP _ ha];simp)];refine ih _ M S _ w (by simp[hsz]) hcl' hcnt' ⟨by rw[iO];exact m.bK,hsize' _,slots' (aU.refl hh) (.data (.v _)) hts,?_⟩;by_cases gP:x.o.acts=true
     ·by_cases hxn:x.o.news=true
      ·obtain⟨hb1,e,he1,he2,he3,he4,BP⟩:=IH hxn;rw[hb1,he2,<- BT]at hh hf;refine⟨e,i+1,he1,by omega,λj z hz hza hn'=>?_,λj z hz hn'=>?_,he4,hh,hf⟩
       ·rw[co hlt',<- he3 j z hz hza hn'];refine⟨λh=>h.resolve_right λe'=>?_,.inl⟩;subst e';rw[hx]at hz;cases hz;rw[hxn]at hn';cases hn'
       ·rw[co hlt'];by_cases e':j=i
        ·subst e';simp
        ·rw[BP j z hz hn' e'];omega
      ·have hxn:x.o.news=false:=by simpa using hxn
       have hca:x.o.acts=true/\x.o.news=false\/x.o.acts=false/\x.o.sees=true:=.inl ⟨gP,hxn⟩;obtain⟨d,hd1,hd2,hd3,hd4,hd5,hd6⟩:=Bb (hlow hca) (hhigh hca);have qE:∀(j:Nat) z,fl[j]?=some z->z.o.acts=true->z.o.news=false->(lst (listed.setIfInBounds i true) j↔j<i+1):=λj z hz hza hn'=>by
        rw[co hlt'];by_cases e':j=i
        ·subst e';simp
        ·refine⟨λh=>?_,λh=>.inl (hlow hca j z hz hza (by omega))⟩;have h:=h.resolve_right e';rcases Nat.lt_or_ge j (i+1)with h2|h2
         ·exact h2
         ·exact absurd h (hhigh hca j z hz hza hn' (by omega))
       have hne:∀(j:Nat) z,fl[j]?=some z->z.o.news=true->j≠i:=λj z hz hn' e'=>by subst e';rw[hx]at hz;cases hz;rw[hxn]at hn';cases hn'
       rcases Nat.lt_or_ge i d with hid|hid
       ·rw[hd3,hd4,<- BT]at hh hf;refine⟨i+1,d,by omega,hd2,qE,λj z hz hn'=>?_,λj z h1 h2=>hd6 j z (by omega) h2,hh,hf⟩;rw[co hlt',<- hd5 j z hz hn' (hne j z hz hn')];exact⟨λh=>h.resolve_right (hne j z hz hn'),.inl⟩
       ·obtain rfl:d=i:=by omega
        rw[hd3,hd4,<- BT]at hh hf;refine⟨d+1,d+1,Nat.le_refl _,by omega,qE,λj z hz hn'=>?_,λj z h1 h2=>by omega,hh,hf⟩;rw[co hlt',hd5 j z hz hn' (hne j z hz hn')];have:=hne j z hz hn';omega
     ·have gP:x.o.acts=false:=by simpa using gP
      refine⟨c,c',hcc,hc,λj z hz hza hn'=>?_,λj z hz hn'=>?_,hfr,hh,hf⟩
      ·rw[co hlt',<- hcut j z hz hza hn'];refine⟨λh=>h.resolve_right λe=>?_,.inl⟩;subst e;rw[hx]at hz;cases hz;rw[gP]at hza;cases hza
      ·rw[co hlt',<- hcut' j z hz hn'];refine⟨λh=>h.resolve_right λe=>?_,.inl⟩;subst e;rw[hx]at hz;cases hz;rw[pU hn']at gP;cases gP
end
end
section
section
variable {P:Program} {Q:Exit->Act->World->Prop}
def Legal (ops:Array Oper):Nat->Array Bool->List Nat->Prop
 | 0,_,l=>l=[]
 | _+1,listed,[]=>Region.ready .any ops listed=[]
 | n+1,listed,i::l=>i∈Region.ready .any ops listed/\Legal ops n (listed.setIfInBounds i true) l
theorem agF (ops:Array Oper):∀(fuel t:Nat) (listed:Array Bool),Legal ops fuel listed (Region.linearise.go .any ops fuel t listed []):=by
 intro fuel
 induction fuel with
 | zero=>intro t listed;simp[Region.linearise.go,Legal]
 | succ fuel ih=>
   intro t listed;simp only[Region.linearise.go];change Legal ops (fuel+1) listed (match (Region.ready .any ops listed)[t%(Region.ready .any ops listed).length]? with
    | some i=>Region.linearise.go .any ops fuel (t/(Region.ready .any ops listed).length) (listed.setIfInBounds i true) [i]
    | none=>[].reverse)
   cases hi:(Region.ready .any ops listed)[t%(Region.ready .any ops listed).length]? with
   | none=>
     show Region.ready .any ops listed=[]
     cases hr:Region.ready .any ops listed with
     | nil=>rfl
     | cons x xs=>
       rw[hr]at hi;have hlt:t%(x::xs).length<(x::xs).length:=Nat.mod_lt _ (by simp);simp at hi;simp at hlt;omega
   | some i=>
     simp only[];rw[linearise_go_acc,List.reverse_singleton,List.singleton_append];exact⟨List.mem_of_getElem? hi,ih _ _⟩
theorem Hh {ops:Array Oper}:∀(n:Nat) (listed:Array Bool) (l:List Nat) (a:Act) (w:World),Legal ops n listed l->wpAny P .any ops Q n listed a w->wpOps P ops Q l a w
 | 0,listed,l,a,w,h,hw=>by cases h;simpa[wpOps]using hw.2
 | n+1,listed,[],a,w,h,hw=>by simpa[wpOps]using hw.1 h
 | n+1,listed,i::l,a,w,h,hw=>by
   rw[wpOps_cons];exact wpOp_mono (λa w=>Hh n _ l a w h.2) (hw.2 i h.1)
def qq (i j:Nat):Array Bool->List Nat->Prop
 | _,[]=>True
 | listed,k::l=>(k=j->lst listed i)/\qq i j (listed.setIfInBounds k true) l
theorem afn {listed:Array Bool} {i k:Nat} (h:lst listed i):lst (listed.setIfInBounds k true) i:=by
 unfold lst at *;by_cases hj:i<listed.size
 ·by_cases e:k=i
  ·subst e;simp[Array.getD,hj]
  ·simp[Array.getD,hj,e]at h ⊢;exact h
 ·simp[Array.getD,hj]at h
theorem Ih {i j:Nat}:∀(l:List Nat) (listed:Array Bool),lst listed i->qq i j listed l
 | [],_,_=>trivial
 | _::l,_,h=>⟨λ_=>h,Ih l _ (afn h)⟩
theorem Ro {i j:Nat} (hij:i≠j):∀(l:List Nat) (listed:Array Bool),i<listed.size->j<listed.size->qq i j listed l\/qq j i listed l
 | [],_,_,_=>.inl trivial
 | k::l,listed,hi,hj=>by
   by_cases e:k=i
   ·subst e;exact .inl ⟨λh=>absurd h hij,Ih l _ ((co hi).2 (.inr rfl))⟩
   ·by_cases e':k=j
    ·subst e';exact .inr ⟨λh=>absurd h e,Ih l _ ((co hj).2 (.inr rfl))⟩
    ·rcases Ro hij l (listed.setIfInBounds k true) (by simpa using hi) (by simpa using hj)with h|h
     ·exact .inl ⟨λh=>absurd h e',h⟩
     ·exact .inr ⟨λh=>absurd h e,h⟩
structure Perm (ops ops':Array Oper) (p:Nat->Nat) (i j:Nat):Prop where
 size:ops'.size=ops.size
 lt:∀k,k<ops.size->p k<ops.size
 inj:∀k m,k<ops.size->m<ops.size->p k=p m->k=m
 WZ:∀m,m<ops.size->∃k,k<ops.size/\p k=m
 at_:∀k o,ops[k]?=some o->∃o',ops'[p k]?=some o'/\o'.dst=o.dst/\o'.op=o.op/\o'.type=o.type/\
  o'.guard=o.guard.map (λg=>(p g.1,g.2))/\(∀g,o.guard=some g->g.1<ops.size)/\
  (∀e∈o.after.toList,Region.binds .any e=true->e.on<ops.size/\∃e'∈o'.after.toList,Region.binds .any e'=true/\e'.on=p e.on)/\
  ∀e'∈o'.after.toList,Region.binds .any e'=true->(∃e∈o.after.toList,Region.binds .any e=true/\e'.on=p e.on)\/(k=j/\e'.on=p i)
variable {ops ops':Array Oper} {p:Nat->Nat} {i j:Nat}
theorem Perm.looks (h:Perm ops ops' p i j) {k:Nat} {o o':Oper} (ho:ops[k]?=some o) (ho':ops'[p k]?=some o') (tm:Array Value):Region.wanted o' (yielded ops' tm)=Region.wanted o (yielded ops tm):=by
 obtain⟨o2,h1,h2,h3,h4,h5,h6,_⟩:=h.at_ k o ho;rw[h1]at ho';cases ho';cases hg:o.guard with
 | none=>rw[hg]at h5;simp[Region.wanted,hg,h5]
 | some g=>
   rw[hg]at h5;have hlt:=h6 g hg;obtain⟨o3,k1,k2,_⟩:=h.at_ g.1 ops[g.1] (Array.getElem?_eq_getElem hlt);have:yielded ops' tm (p g.1)=yielded ops tm g.1:=by
    simp[yielded,k1,k2,Array.getElem?_eq_getElem hlt]
   obtain⟨g1,g2⟩:=g;simp only[Option.map]at h5;simp only[Region.wanted,hg,h5];rw[this]
theorem Perm.op (h:Perm ops ops' p i j) {k:Nat} (hk:k<ops.size) {K:Act->World->Prop} {a:Act} {w:World} (hw:wpOp P ops' Q (p k) K a w):wpOp P ops Q k K a w:=by
 have ho:=Array.getElem?_eq_getElem hk;obtain⟨o',h1,h2,h3,h4,h5⟩:=h.at_ k _ ho;unfold wpOp at *;rw[h1]at hw;rw[ho];simp only[]at hw ⊢;rw[h.looks ho h1]at hw;obtain⟨d,op,ty,ps,af,gu⟩:=o';generalize hx:ops[k]=x at *;obtain⟨d2,op2,ty2,ps2,af2,gu2⟩:=x;simp only at h2 h3 h4;subst h2 h3 h4;exact hw
theorem Perm.opsL (h:Perm ops ops' p i j):∀(l:List Nat) (a:Act) (w:World),(∀k∈l,k<ops.size)->wpOps P ops' Q (l.map p) a w->wpOps P ops Q l a w
 | [],a,w,_,hw=>hw
 | k::l,a,w,hl,hw=>by
   rw[List.map_cons,wpOps_cons]at hw;rw[wpOps_cons];refine h.op (hl k (List.mem_cons_self ..)) (wpOp_mono (λa w=>?_) hw);exact Perm.opsL h l a w λk hk=>hl k (List.mem_cons_of_mem _ hk)
theorem HD:∀(n:Nat) (listed:Array Bool) (l:List Nat),Legal ops n listed l->∀k∈l,k<ops.size
 | 0,_,l,h,k,hk=>by cases h;cases hk
 | n+1,_,[],_,k,hk=>by cases hk
 | n+1,listed,m::l,h,k,hk=>by
   rcases List.mem_cons.1 hk with rfl|hk
   ·obtain⟨_,o,ho,_⟩:=mem_ready.1 h.1;exact(Array.getElem?_eq_some_iff.1 ho).1
   ·exact HD n _ l h.2 k hk
theorem Perm.legal (h:Perm ops ops' p i j):∀(n:Nat) (listed listed':Array Bool) (l:List Nat),listed.size=ops.size->listed'.size=ops.size->i<ops.size->(∀k,k<ops.size->listed'.getD (p k) true=listed.getD k true)->
 qq i j listed l->Legal ops n listed l->Legal ops' n listed' (l.map p)
 | 0,_,_,l,_,_,_,_,_,hl=>by cases hl;rfl
 | n+1,listed,listed',[],s1,s2,hi,heq,_,hl=>by
   show Region.ready .any ops' listed'=[]
   have hl:Region.ready .any ops listed=[]:=hl;cases hr:Region.ready .any ops' listed' with
   | nil=>rfl
   | cons m ms=>
     exfalso;have hm:m∈Region.ready .any ops' listed':=by rw[hr];simp
     obtain⟨hun,o',ho',hpre⟩:=mem_ready.1 hm;have hlt:m<ops.size:=by rw[<- h.size];exact(Array.getElem?_eq_some_iff.1 ho').1
     obtain⟨k,hk,rfl⟩:=h.WZ m hlt;have:k∈Region.ready .any ops listed:=mem_ready.2 ⟨by rw[<- heq k hk];exact hun,ops[k],Array.getElem?_eq_getElem hk,λe he hb=>by
      obtain⟨o2,h1,_,_,_,_,_,h7,_⟩:=h.at_ k ops[k] (Array.getElem?_eq_getElem hk);rw[h1]at ho';cases ho';obtain⟨hle,e',he',hb',hon⟩:=h7 e (by simpa using he) hb;have:=hpre e' (by simpa using he') hb';rw[hon]at this;have h2:=heq e.on hle;have hp:=h.lt e.on hle;simp[Array.getD,s1,s2,hle,hp]at this h2 ⊢;rw[<- h2];exact this⟩
     rw[hl]at this;cases this
 | n+1,listed,listed',k::l,s1,s2,hi,heq,hb,hl=>by
   obtain⟨hrd,hl⟩:=hl;obtain⟨hun,o,ho,hpre⟩:=mem_ready.1 hrd;have hk:k<ops.size:=(Array.getElem?_eq_some_iff.1 ho).1;obtain⟨o',h1,_,_,_,_,_,_,h8⟩:=h.at_ k o ho;have dn:∀m,m<ops.size->listed.getD m false=true->listed'.getD (p m) false=true:=λm hm hx=>by
    have h2:=heq m hm;have hp:=h.lt m hm;simp[Array.getD,s1,s2,hm,hp]at hx h2 ⊢;rw[h2];exact hx
   refine⟨mem_ready.2 ⟨by rw[heq k hk];exact hun,o',h1,λe' he' hb'=>?_⟩,Perm.legal h n _ _ l (by simpa using s1) (by simpa using s2) hi (λm hm=>?_) hb.2 hl⟩
   ·rcases h8 e' (by simpa using he') hb' with⟨e,he,hbe,hon⟩|⟨rfl,hon⟩
    ·rw[hon];have hx:=hpre e (by simpa using he) hbe;refine dn e.on ?_ hx;rcases Nat.lt_or_ge e.on ops.size with h'|h'
     ·exact h'
     ·have:¬e.on<listed.size:=by omega
      simp[Array.getD,this]at hx
    ·rw[hon];exact dn i hi (hb.1 rfl)
   ·have hp:=h.lt m hm;have hpk:=h.lt k hk;have h2:=heq m hm;by_cases e:k=m
    ·subst e;simp[Array.getD,s1,s2,hm,hp]
    ·have e':p k≠p m:=λq=>e (h.inj k m hk hm q);simp[Array.getD,s1,s2,hm,hp,e,e']at h2 ⊢;exact h2
end
end
theorem aU.drew {M S H} {w w':World} (hh:aE M S H w) (h:w'.heap=w.heap) (ho:w'.os=w.os) (ht:w'.tape=w.tape) (hu:w'.output=w.output):aU M S H w M S H w' where
 gW:=hh.nb
 gX:=hh.nt
 os:=ho
 tape:=ht
 output:=hu
 size:=by rw[h];exact Nat.le_refl _
 sub:=λ_ h=>h
 cv:=λ_ _=>by rw[h]
 old:=λ_ _ _=>by rw[h]
 le:=.refl M
 news:=λ_ h=>.inl h
 eG:=λ_ h=>.inl h
theorem aO.same {S:Nat->Prop} {w w':World} (h:w'.heap=w.heap) {v a} (hv:aO S w v a):aO S w' v a:=hv.mono (λ_ h=>h) (λ_ _=>by rw[h])
theorem am.heap {M} {S:Nat->Prop} {w w':World} (h:w'.heap=w.heap) {v a} (hv:am M S w v a):am M S w' v a:=hv.mono (λ_ h=>h) (λ_ _=>by rw[h]) (.refl M)
theorem aE.heap {M S H} {w w':World} (h:w'.heap=w.heap) (hh:aE M S H w):aE M S H w' where
 nb:=hh.nb
 nt:=hh.nt
 sits:=λg hg=>by rw[h];exact hh.sits g hg
 box:=λb hb=>by
  obtain⟨un,c,T,h1,h2,h3⟩:=hh.box b hb;exact⟨un,c,T,by rw[h];exact h1,h2,λi hi=>⟨(h3 i hi).1,(h3 i hi).2.heap h⟩⟩
 buf:=λt ht=>by
  have:=hh.buf t ht;cases hb:H.buf.getD t .dead with
  | dead=>trivial
  | bf k xs=>rw[hb]at this;exact aO.same h this
  | live k xs=>
    rw[hb]at this;rcases this with h1|⟨g,cap,c,T,h1,h2,h3,h4⟩
    ·exact .inl h1
    ·exact .inr ⟨g,cap,c,T,h1,h2,by rw[h];exact h3,⟨h4.fits,h4.small,h4.size,h4.len,h4.one,λi hi j hj=>(h4.rep i hi j hj).same h⟩⟩
  | map q k xs=>
    rw[hb]at this;obtain⟨r,es,clock,h1,h2,h3,h4,h5,h6⟩:=this;refine⟨r,es,clock,h1,h2,by rw[h];exact h3,h4,λi e he=>⟨(h5 i e he).len,(h5 i e he).one,(h5 i e he).key,?_⟩,h6⟩;obtain⟨vs,q1,q2,q3⟩:=(h5 i e he).val;exact⟨vs,q1,q2,λj hj=>(q3 j hj).same h⟩
 bb:=hh.bb
 tt:=hh.tt
 bt:=hh.bt
theorem OV {X:Ctx} {k:List SI} {k0:List Item} (hk:cX X.P k0 k) (hok:X.ok) {wr:WR} {ops:Array Oper} {fl:List FE} (hl:ff (ey X.P wr ops) ops.toList=some fl) (hdr:mH ops fl=true)
 {b:Frame} (hb:b.fn=X.fid) (hbk:b.kind=.normal) {M0 S0 w0} (hp0:cY X.P M0 X.aI w0) {t H} (hch:Ch X true k fl t H) {M S a w} (hf:aU M0 S0 X.aI w0 M S H w) (ht:dC M S w t a.tmps) (hh:aE M S H w) (hd:a.defers=X.bK):
 wpAny X.P .any ops (λe a w=>RQ X b k0 (Post X.Q X.aI M0 S0 w0) e a w/\a.defers=X.bK) ops.size (Array.replicate ops.size false) a { w with drawn:=w.drawn+1 }:=by
 obtain⟨hlen,hall⟩:=pO hl;obtain⟨ts,hs,tr,h0,h1⟩:=Hu fl t H hch;have hl':∀(i:Nat) o,ops[i]?=some o->∃x,fl[i]?=some x/\ey X.P wr ops o=some x:=λi o ho=>hall i o (by simpa using ho)
 have hn:fl.length=ops.size:=by rw[hlen];simp
 exact agX tr hl' hn (aeB hdr) (M0:=M0) (S0:=S0) (w0:=w0) (k0:=k0) (b:=b) hb hbk hok hk hp0 ops.size (Array.replicate ops.size false) M S a { w with drawn:=w.drawn+1 } (by simp)
  (λj o ho hj=>by
    have:j<ops.size:=(Array.getElem?_eq_some_iff.1 ho).1;simp[lst,Array.getD,this]at hj)
  (by have:=List.countP_le_length (p:=λi=>!(Array.replicate ops.size false).getD i false) (l:=List.range ops.size);simpa using this)
  ⟨hd,by rw[ht.1,<- h0],λy hy=>⟨0,by omega,λj x hx _=>by
    have:j<ops.size:=by have:=(List.getElem?_eq_some_iff.1 hx).1;omega
    simp[lst,Array.getD,this],by rw[h0]at hy ⊢;exact am.heap (w:=w) (w':={ w with drawn:=w.drawn+1 }) rfl (ht.2 y hy)⟩,
    0,0,Nat.le_refl _,by omega,λj x hx _ _=>by
     have:j<ops.size:=by have:=(List.getElem?_eq_some_iff.1 hx).1;omega
     simp[lst,Array.getD,this],λj x hx _=>by
     have:j<ops.size:=by have:=(List.getElem?_eq_some_iff.1 hx).1;omega
     simp[lst,Array.getD,this],λj x h1 h2=>by omega,by rw[h1];exact aE.heap (w:=w) (w':={ w with drawn:=w.drawn+1 }) rfl hh,by rw[h1];exact hf.trans (aU.drew hh rfl rfl rfl rfl)⟩
theorem Px {X:Ctx} {k0:List Item} (hok:X.ok) {id:Nat} {ops:Array Oper} {b:Frame} (hb:b.fn=X.fid) (hbk:b.kind=.normal) {M0 S0 w0} {a:Act} {w:World}
 (h:∀l,Legal ops ops.size (Array.replicate ops.size false) l->wpOps X.P ops (λe a w=>RQ X b k0 (Post X.Q X.aI M0 S0 w0) e a w/\a.defers=X.bK) l a { w with drawn:=w.drawn+1 }):
 Fin' X.P X.bK b (.code (.region id ops true)::k0) a w (Post X.Q X.aI M0 S0 w0):=by
 intro cs;have hfin:Fin' X.P X.bK b (.inRegion ops (Region.schedule (X.P.follows .mixedOrders) ops (w.tape w.drawn (.order b.fn id)))::k0) a { w with drawn:=w.drawn+1 } (Post X.Q X.aI M0 S0 w0):=
  Gc (k0:=k0) hok hb hbk λcs=>by
   have hw:=h _ (agF ops ops.size (w.tape w.drawn (.order b.fn id)) (Array.replicate ops.size false));have:=wp_ops _ a _ hw b k0 cs;simp only[Region.schedule,hok.mix,Bool.true_or,if_true,Region.linearise];exact this
 obtain⟨e,w',fr,r,c,x⟩:=hfin cs;exact⟨e,w',fr,r,c.of_steps (.one step_region_draw),x⟩
theorem OD {X:Ctx} {k:List SI} {k0:List Item} (hk:cX X.P k0 k) (hok:X.ok) {wr:WR} {id:Nat} {ops:Array Oper} {fl:List FE} (hl:ff (ey X.P wr ops) ops.toList=some fl) (hdr:mH ops fl=true)
 {b:Frame} (hb:b.fn=X.fid) (hbk:b.kind=.normal) {M0 S0 w0} (hp0:cY X.P M0 X.aI w0) {t H} (hch:Ch X true k fl t H) {M S a w} (hf:aU M0 S0 X.aI w0 M S H w) (ht:dC M S w t a.tmps) (hh:aE M S H w) (hd:a.defers=X.bK):
 Fin' X.P X.bK b (.code (.region id ops true)::k0) a w (Post X.Q X.aI M0 S0 w0):=
 Px hok hb hbk λ_ hl'=>Hh _ _ _ _ _ hl' (OV hk hok hl hdr hb hbk hp0 hch hf ht hh hd)
theorem Qu {ops:Array Oper} {ql pl:List Nat} (h:vE ops ql pl=true) (i j:Nat):Perm ops (ru ops ql pl i j) (λk=>pl.getD k 0) i j:=by
 simp only[vE,Bool.and_eq_true,List.all_eq_true,List.mem_range]at h;obtain⟨⟨⟨h1,h2⟩,h3⟩,h4⟩:=h;have h1:ql.length=ops.size:=Nat.eq_of_beq_eq_true h1;have b2:∀k,k<ops.size->pl.getD k 0<ops.size/\ql.getD (pl.getD k 0) ops.size=k:=λk hk=>⟨by simpa using (h2 k hk).1,Nat.eq_of_beq_eq_true (h2 k hk).2⟩
 have b3:∀k,k<ops.size->ql.getD k 0<ops.size/\pl.getD (ql.getD k 0) ops.size=k:=λk hk=>⟨by simpa using (h3 k hk).1,Nat.eq_of_beq_eq_true (h3 k hk).2⟩
 refine⟨by simp[ru,h1],λk hk=>(b2 k hk).1,λk m hk hm he=>?_,λm hm=>⟨ql.getD m 0,(b3 m hm).1,?_⟩,λk o ho=>?_⟩
 ·have x:=(b2 k hk).2;have y:=(b2 m hm).2;have he:pl.getD k 0=pl.getD m 0:=he;rw[he]at x;exact x.symm.trans y
 ·have x:=(b3 m hm).2;have y:=(b3 m hm).1;show pl.getD (ql.getD m 0) 0=m;rcases Nat.lt_or_ge (ql.getD m 0) pl.length with hlt|hge
  ·generalize ql.getD m 0=q at *;simp[List.getD,hlt]at x ⊢;exact x
  ·generalize ql.getD m 0=q at *;simp[List.getD,List.getElem?_eq_none hge]at x;omega
 ·have hk:k<ops.size:=(Array.getElem?_eq_some_iff.1 ho).1;obtain⟨x,y⟩:=b2 k hk;have hq:ql[pl.getD k 0]?=some k:=by
   have hlt:pl.getD k 0<ql.length:=by omega
   generalize pl.getD k 0=q at *;simp[List.getD,hlt]at y;simp[hlt,y]
  have hall:=h4 o (by
   have:=List.mem_of_getElem? (show ops.toList[k]?=some o by simpa using ho);exact this)
  refine⟨vJ pl i j k o,?_,rfl,rfl,rfl,rfl,λg hg=>?_,λe he hb=>⟨?_,{ e with on:=pl.getD e.on 0 },?_,hb,rfl⟩,λe' he' hb'=>?_⟩
  ·simp only[ru,List.getElem?_toArray,List.getElem?_map,hq,Option.map_some,ho]
  ·have:=hall.1;rw[hg]at this;simpa using this
  ·have:=hall.2;simpa using this e (by simpa using he)
  ·simp only[vJ,List.mem_append,List.mem_map];exact .inl ⟨e,by simpa using he,rfl⟩
  ·simp only[vJ,List.mem_append,List.mem_map]at he';rcases he' with⟨e,he,rfl⟩|he'
   ·exact .inl ⟨e,by simpa using he,hb',rfl⟩
   ·split at he'
    ·rename_i hkj;simp only[List.mem_singleton]at he';exact .inr ⟨Nat.eq_of_beq_eq_true hkj,by rw[he']⟩
    ·cases he'
theorem zG {P:Program} {wr:Bool} {ops:Array Oper} {d:Bool} {d':Bool} {l:List SL} (h:jj P wr ops d=some (.ops d' l)):
 ∃fl,ff (ey P (wC P wr ops d) ops) ops.toList=some fl/\(d=true->mH ops fl=true)/\d'=d/\l=hY fl:=by
 simp only[jj]at h;split at h
 ·rename_i fl hl;split at h
  ·split at h<;>cases h
  ·rename_i hn;cases h;refine⟨fl,hl,λhd=>?_,rfl,rfl⟩;subst hd;simpa using hn
 ·cases h
theorem agj {o:Option SC} {ls:List (List SL)} {b d:Bool} {l:List SL} (h:kU ls b o=some (.ops d l)):o=some (.ops d l):=by
 unfold kU at h;split at h<;>first|exact h|cases h
theorem afM {o:Option SC} {ls:List (List SL)} {b:Bool} {bs:List (Nat×Nat×Od)} {l:List SL} (h:kU ls b o=some (.priv l bs)):o=some (.priv l bs):=by
 unfold kU at h;split at h<;>first|exact h|cases h
theorem aeI {P:Program} {wr:Bool} {ops:Array Oper} {d:Bool} {o:Option (List SL)} {ls:List (List SL)} (h:jj P wr ops d=some (.alts o ls)):False:=by
 simp only[jj]at h;split at h
 ·split at h
  ·split at h<;>cases h
  ·cases h
 ·cases h
theorem afL {c:Option SC} {q:List (List SL)} {b:Bool} {o:Option (List SL)} {ls:List (List SL)} (h:kU q b c=some (.alts o ls)) (hn:∀o ls,c≠some (.alts o ls)):b=true/\q=ls/\∀l,o=some l->∃d,c=some (.ops d l):=by
 unfold kU at h;split at h
 ·cases h;exact⟨rfl,rfl,λl hl=>by cases hl;exact⟨_,rfl⟩⟩
 ·cases h;exact⟨rfl,rfl,λl hl=>by cases hl⟩
 ·exact absurd h (hn _ _)
theorem GQ {P:Program} {wr:Bool} {id:Nat} {ops:Array Oper} {d:Bool} {d':Bool} {l:List SL} (h:comp P wr (.region id ops d)=some (.ops d' l)):
 ∃fl,ff (ey P (wC P wr ops d) ops) ops.toList=some fl/\(d=true->mH ops fl=true)/\d'=d/\l=hY fl:=by
 simp only[comp]at h;exact zG (agj h)
theorem O3 {P:Program} {wr:Bool} {c:Code} {o:Option (List SL)} {ls:List (List SL)} (h:comp P wr c=some (.alts o ls)):
 ∃id ops,c=.region id ops true/\A7 P wr ops=ls/\∀l,o=some l->jj P wr ops true=some (.ops true l):=by
 cases c with
 | region id ops d=>
   simp only[comp]at h;obtain⟨rfl,h1,h2⟩:=afL h λ_ _ q=>aeI q;refine⟨id,ops,rfl,h1,λl hl=>?_⟩;obtain⟨d,hd⟩:=h2 l hl;obtain⟨_,_,_,rfl,_⟩:=zG hd;exact hd
 | seq a b=>simp only[comp]at h;split at h<;>cases h
 | cond a b c=>simp only[comp]at h;split at h<;>cases h
 | block a b=>simp only[comp]at h;cases hc:comp P wr b<;>rw[hc]at h<;>cases h
 | loop b=>simp only[comp]at h;cases hc:comp P wr b<;>rw[hc]at h<;>cases h
 | scope b=>simp only[comp]at h;cases hc:comp P wr b<;>rw[hc]at h<;>cases h
 | _=>simp[comp]at h
theorem afW {P:Program} {wr:Bool} {c:Code} {l:List SL} {bs:List (Nat×Nat×Od)} (h:comp P wr c=some (.priv l bs)):
 ∃id ops wr' fl,c=.region id ops true/\ff (ey P wr' ops) ops.toList=some fl/\pc ops fl=true/\np (ry fl) (eW fl)=some bs/\l=hY (fl.filter (FE.main (eW fl))):=by
 cases c with
 | region id ops d=>
   simp only[comp]at h;have h:=afM h;simp only[jj]at h;split at h
   ·rename_i fl hl;split at h
    ·rename_i hd;split at h
     ·rename_i bs' hp hb;cases h;cases d with
      | true=>exact⟨id,ops,_,fl,rfl,hl,hp,hb,rfl⟩
      | false=>cases hd
     ·cases h
    ·cases h
   ·cases h
 | seq a b=>simp only[comp]at h;split at h<;>cases h
 | cond a b c=>simp only[comp]at h;split at h<;>cases h
 | block a b=>simp only[comp]at h;cases hc:comp P wr b<;>rw[hc]at h<;>cases h
 | loop b=>simp only[comp]at h;cases hc:comp P wr b<;>rw[hc]at h<;>cases h
 | scope b=>simp only[comp]at h;cases hc:comp P wr b<;>rw[hc]at h<;>cases h
 | _=>simp[comp]at h
theorem g5 {X:Ctx} {k:List SI} {t:List AV} {H:AH} (h:go X k t H):dl X k t H:=by
 cases k with
 | nil=>exact h
 | cons x k=>
   cases x with
   | ops d l=>
     intro hok M0 S0 w0 hp0 M S a w items hr hf ht hh hd b hb hbk;cases hr with
     | @region id ops _ _ k0 _ wr hc hk=>
       obtain⟨fl,hl,hdr,_,he⟩:=GQ hc;subst he;simp only[go,tq]at h;have hch:=h (zw hl);cases d with
       | false=>exact adX hk hok hl hb hbk hp0 hch hf ht hh hd
       | true=>exact OD hk hok hl (hdr rfl) hb hbk hp0 hch hf ht hh hd
   | pv bs=>intro _ _ _ _ _ _ _ _ _ _ hr;cases hr
   | _=>exact h
theorem HI {X:Ctx} {k:List SI} {k0:List Item} (hk:cX X.P k0 k) (hok:X.ok) {wr:Bool} {b:Frame} (hb:b.fn=X.fid) (hbk:b.kind=.normal) {M0 S0 w0} (hp0:cY X.P M0 X.aI w0) {t H} {M S a w} (hf:aU M0 S0 X.aI w0 M S H w) (ht:dC M S w t a.tmps) (hh:aE M S H w) (hd:a.defers=X.bK):
 ∀(n:Nat) (ops:Array Oper) (ls:List (List SL)),qv X.P wr n ops=some ls->(∀l∈ls,go X (.ops true l::k) t H)->
  ∀l,Legal ops ops.size (Array.replicate ops.size false) l->wpOps X.P ops (λe a w=>RQ X b k0 (Post X.Q X.aI M0 S0 w0) e a w/\a.defers=X.bK) l a { w with drawn:=w.drawn+1 }
 | 0,ops,ls,h,_,_,_=>by cases h
 | n+1,ops,ls,h,hg,l,hl=>by
   simp only[qv]at h;split at h
   ·split at h
    ·rename_i l0 hc;cases h;obtain⟨fl,c1,d1,_,rfl⟩:=zG hc;have h1:=hg _ (List.mem_singleton.2 rfl);simp only[go,tq]at h1;exact Hh _ _ _ _ _ hl (OV hk hok c1 (d1 rfl) hb hbk hp0 (h1 (zw c1)) hf ht hh hd)
    ·cases h
   ·rename_i i j _;split at h
    ·cases h
    ·rename_i h0;split at h
     ·rename_i x y hp hx hy;cases h;simp only[Bool.and_eq_true,Nat.blt_eq]at h0 hp;have q1:=Qu hp.1 i j;have q2:=Qu hp.2 j i;have hi:i<ops.size:=by omega
      have hij:i≠j:=by omega
      have hsz:(Array.replicate ops.size false).size=ops.size:=by simp
      have heq:∀ {p:Nat->Nat} {ops':Array Oper} {i j:Nat},Perm ops ops' p i j->∀k,k<ops.size->(Array.replicate ops.size false).getD (p k) true=(Array.replicate ops.size false).getD k true:=λq k hk=>by
       have:=q.lt k hk;simp[Array.getD,hk,this]
      have a1:=HI hk hok hb hbk hp0 hf ht hh hd n _ _ hx λl hl=>hg l (List.mem_append_left _ hl);have a2:=HI hk hok hb hbk hp0 hf ht hh hd n _ _ hy λl hl=>hg l (List.mem_append_right _ hl);rcases Ro hij l (Array.replicate ops.size false) (by simpa using hi) (by simpa using h0.2)with hbf|hbf
      ·refine q1.opsL l _ _ (HD _ _ _ hl) (a1 _ ?_);rw[q1.size];exact q1.legal _ _ _ l hsz (by simp) hi (heq q1) hbf hl
      ·refine q2.opsL l _ _ (HD _ _ _ hl) (a2 _ ?_);rw[q2.size];exact q2.legal _ _ _ l hsz (by simp) h0.2 (heq q2) hbf hl
     ·cases h
theorem aie {X:Ctx} {k:List SI} {o:Option (List SL)} {ls:List (List SL)} {t:List AV} {H:AH} (hne:ls≠[]) (h:∀l∈ls,go X (.ops true l::k) t H):dl X (.c (.alts o ls)::k) t H:=by
 intro hok M0 S0 w0 hp0 M S a w items hr hf ht hh hd b hb hbk;cases hr with
 | code wr hc r=>
   obtain⟨id,ops,rfl,ha,_⟩:=O3 hc;unfold A7 at ha;split at ha
   ·rename_i ls' hs;subst ha;exact Px hok hb hbk (HI r hok hb hbk hp0 hf ht hh hd _ _ _ hs h)
   ·exact absurd ha.symm hne
theorem P7 {X:Ctx} {k:List SI} {l:List SL} {ls:List (List SL)} {t:List AV} {H:AH} (h:go X (.ops true l::k) t H):dl X (.c (.alts (some l) ls)::k) t H:=by
 intro hok M0 S0 w0 hp0 M S a w items hr hf ht hh hd b hb hbk;cases hr with
 | code wr hc r=>
   obtain⟨id,ops,rfl,_,ho⟩:=O3 hc;obtain⟨fl,hl,hdr,_,rfl⟩:=zG (ho l rfl);simp only[go,tq]at h;exact OD r hok hl (hdr rfl) hb hbk hp0 (h (zw hl)) hf ht hh hd
theorem Ia {M S w v a} (h:am M S w v a) (h1:a.one=true):v.oneCell'=true:=by
 cases h with
 | data h=>cases h<;>first|rfl|assumption|(simp[AV.one]at h1;done)|(simpa[AV.one]using h1)
 | own t ht hs=>rcases hs with⟨a,n,c,e⟩|⟨r,e⟩<;>rw[e]<;>rfl
 | _=>first|rfl|(simp[AV.one]at h1;done)
theorem afS {v:Value} (h:v.oneCell'=true):v.cells=#[v]:=by cases v<;>first|rfl|(simp[Value.oneCell']at h)
theorem OH {a:AV} (h:a.one=true):a.cells=[a]:=by cases a<;>first|rfl|(simp[AV.one]at h)
theorem jI {cs:List AV} (h:ones cs=true) {i:Nat} (hi:i<cs.length):(cs.getD i .any).one=true:=by
 simp only[ones,List.all_eq_true]at h;have:cs.getD i .any=cs[i]:=by simp[List.getD,hi]
 rw[this];exact h _ (List.getElem_mem hi)
theorem mc {M S w v a} (h:am M S w v a) (h1:ones a.cells=true):
 v.cells.size=a.cells.length/\∀i,i<a.cells.length->am M S w (v.cells.getD i undef) (a.cells.getD i .any):=by
 by_cases ha:∃cs,a=.agg cs
 ·obtain⟨cs,rfl⟩:=ha;cases h with
  | data h=>
    cases h with
    | agg vs _ hn h=>exact⟨hn,λi hi=>.data (h i hi)⟩
  | agg vs _ hn h=>exact⟨hn,h⟩
 ·have hc:a.cells=[a]:=by cases a<;>first|rfl|exact absurd ⟨_,rfl⟩ ha
  rw[hc]at h1 ⊢;have h1':a.one=true:=by simpa[ones]using h1
  rw[afS (Ia h h1')];refine⟨rfl,λi hi=>?_⟩;simp at hi;subst hi;exact h
theorem Gm {M S w v a} (h:am M S w v a) (h1:ones a.cells=true):∀u∈v.cells.toList,u.oneCell'=true:=by
 obtain⟨hn,hr⟩:=mc h h1;intro u hu;obtain⟨i,hi,rfl⟩:=List.mem_iff_getElem.1 hu;have hi':i<a.cells.length:=by simpa[hn]using hi
 have:=Ia (hr i hi') (jI h1 hi');have hs:i<v.cells.size:=by simpa using hi
 simp only[Array.getD,hs,dite_true]at this;simpa using this
theorem mb {w:World} {g:Nat} {o:Obj} (h:w.heap[g]?=some o):g<w.heap.size:=(Array.getElem?_eq_some_iff.1 h).1
theorem b9.keep {S S':Nat->Prop} {w w':World} {v k xs} (h:b9 S w v k xs) (hS:∀g,S g->S' g) (hn:∀g,Value.blk v=some g->¬S' g) (hw:∀g,S g->w'.heap[g]?=w.heap[g]?)
 (hg:∀g,Value.blk v=some g->w'.heap[g]?=w.heap[g]?):b9 S' w' v k xs:=by
 rcases h with h|⟨g,cap,c,T,rfl,h2,h3,h4⟩
 ·exact .inl h
 ·exact .inr ⟨g,cap,c,T,rfl,hn g rfl,(hg g rfl).trans h3,⟨h4.fits,h4.small,h4.size,h4.len,h4.one,λi hi j hj=>(h4.rep i hi j hj).mono hS hw⟩⟩
theorem fe.keep {S S':Nat->Prop} {w w':World} {v q k xs} (h:fe S w v q k xs) (hS:∀g,S g->S' g) (hn:∀g,Value.blk v=some g->¬S' g) (hw:∀g,S g->w'.heap[g]?=w.heap[g]?)
 (hg:∀g,Value.blk v=some g->w'.heap[g]?=w.heap[g]?):fe S' w' v q k xs:=by
 obtain⟨r,es,clock,rfl,h2,h3,h4,h5,h6⟩:=h;refine⟨r,es,clock,rfl,hn r rfl,(hg r rfl).trans h3,h4,λi e he=>⟨(h5 i e he).len,(h5 i e he).one,(h5 i e he).key,?_⟩,h6⟩;obtain⟨vs,q1,q2,q3⟩:=(h5 i e he).val;exact⟨vs,q1,q2,λj hj=>(q3 j hj).mono hS hw⟩
theorem ue.keep {M M':Maps} {S S':Nat->Prop} {w w':World} {g cs} (h:ue M S w g cs) (hM:M.le M') (hS:∀g,S g->S' g) (hn:¬S' g) (hw:∀g,S g->w'.heap[g]?=w.heap[g]?)
 (hg:w'.heap[g]?=w.heap[g]?):ue M' S' w' g cs:=by
 obtain⟨_,c,T,h1,h2,h3⟩:=h;exact⟨hn,c,T,hg.trans h1,h2,λi hi=>⟨(h3 i hi).1,(h3 i hi).2.mono hS hw hM⟩⟩
theorem Ae {M H t g} (h:lives M H t g):t<H.buf.length/\Value.blk (M.bv t)=some g/\((∃k xs,H.buf.getD t .dead=.live k xs)\/∃q k xs,H.buf.getD t .dead=.map q k xs):=by
 obtain⟨h1,h2,h3⟩:=h;refine⟨h1,h3,?_⟩;cases hb:H.buf.getD t .dead with
 | live k xs=>exact .inl ⟨k,xs,rfl⟩
 | map q k xs=>exact .inr ⟨q,k,xs,rfl⟩
 | dead=>rw[hb]at h2;cases h2
 | bf k xs=>rw[hb]at h2;cases h2
theorem aE.keep {M S H} {w w':World} (hh:aE M S H w) (hz:w.heap.size<=w'.heap.size) (hw:∀g,S g->w'.heap[g]?=w.heap[g]?) (hf:∀g,foot M H g->w'.heap[g]?=w.heap[g]?):aE M S H w' where
 nb:=hh.nb
 nt:=hh.nt
 sits:=λg hg=>Nat.lt_of_lt_of_le (hh.sits g hg) hz
 box:=λb hb=>(hh.box b hb).keep (.refl M) (λ_ h=>h) (hh.box b hb).un hw (hf _ (.inl ⟨b,hb,rfl⟩))
 buf:=λt ht=>by
  have:=hh.buf t ht;cases hb:H.buf.getD t .dead with
  | dead=>trivial
  | bf k xs=>rw[hb]at this;exact aO.mono (λ_ h=>h) hw this
  | live k xs=>
    rw[hb]at this;refine b9.keep this (λ_ h=>h) (λg hg=>?_) hw (λg hg=>hf g (.inr ⟨t,ht,by rw[hb];rfl,hg⟩));rcases this with⟨⟨a,h⟩,_⟩|⟨g',cap,c,T,h1,h2,_,_⟩
    ·rw[h]at hg;cases a<;>cases hg
    ·rw[h1]at hg;cases hg;exact h2
  | map q k xs=>
    rw[hb]at this;refine fe.keep this (λ_ h=>h) (λg hg=>?_) hw (λg hg=>hf g (.inr ⟨t,ht,by rw[hb];rfl,hg⟩));obtain⟨r,es,clock,h1,h2,_⟩:=this;rw[h1]at hg;cases hg;exact h2
 bb:=hh.bb
 tt:=hh.tt
 bt:=hh.bt
theorem fQ {M S H w} (hh:aE M S H w) {g:Nat} (h:foot M H g):g<w.heap.size:=by
 rcases h with⟨b,hb,rfl⟩|⟨t,ht⟩
 ·obtain⟨_,c,T,h1,_⟩:=hh.box b hb;exact mb h1
 ·obtain⟨h1,h2,⟨k,xs,h3⟩|⟨q,k,xs,h3⟩⟩:=Ae ht
  ·have:=hh.buf t h1;rw[h3]at this;rcases this with⟨⟨a,h⟩,_⟩|⟨g',cap,c,T,h4,_,h5,_⟩
   ·rw[h]at h2;cases a<;>cases h2
   ·rw[h4]at h2;cases h2;exact mb h5
  ·have:=hh.buf t h1;rw[h3]at this;obtain⟨r,es,clock,h4,_,h5,_⟩:=this;rw[h4]at h2;cases h2;exact mb h5
theorem fx {M S H w} (hh:aE M S H w) {g:Nat} (h:foot M H g):¬S g:=by
 rcases h with⟨b,hb,rfl⟩|⟨t,ht⟩
 ·exact(hh.box b hb).un
 ·obtain⟨h1,h2,⟨k,xs,h3⟩|⟨q,k,xs,h3⟩⟩:=Ae ht
  ·have:=hh.buf t h1;rw[h3]at this;rcases this with⟨⟨a,h⟩,_⟩|⟨g',cap,c,T,h4,h5,_,_⟩
   ·rw[h]at h2;cases a<;>cases h2
   ·rw[h4]at h2;cases h2;exact h5
  ·have:=hh.buf t h1;rw[h3]at this;obtain⟨r,es,clock,h4,h5,_⟩:=this;rw[h4]at h2;cases h2;exact h5
structure Grew (w w':World):Prop where
 os:w'.os=w.os
 tape:w'.tape=w.tape
 output:w'.output=w.output
 size:w.heap.size<=w'.heap.size
 old:∀g,g<w.heap.size->w'.heap[g]?=w.heap[g]?
theorem dL {α:Type} (l:Array α) (x:α) (i:Nat) (h:i<l.size):(l.push x)[i]?=l[i]?:=by simp[Array.getElem?_push,Nat.ne_of_lt h]
theorem Grew.refl (w:World):Grew w w:=⟨rfl,rfl,rfl,Nat.le_refl _,λ_ _=>rfl⟩
theorem Grew.alloc (w:World) (o:Obj):Grew w (w.alloc o):=⟨rfl,rfl,rfl,by simp,λg h=>dL _ _ g h⟩
theorem Grew.Jh (w:World) (o:Obj):Grew w (w.drew.alloc o):=⟨rfl,rfl,rfl,by simp,λg h=>dL _ _ g h⟩
theorem aE.grew {M S H} {w w':World} (hh:aE M S H w) (g:Grew w w'):aE M S H w':=
 hh.keep g.size (λi hi=>g.old i (hh.sits i hi)) (λi hi=>g.old i (fQ hh hi))
theorem aU.grew {M S H} {w w':World} (hh:aE M S H w) (g:Grew w w'):aU M S H w M S H w':=
 ⟨hh.nb,hh.nt,g.os,g.tape,g.output,g.size,λ_ h=>h,λi hi=>g.old i (hh.sits i hi),λi hi _=>g.old i hi,.refl M,λ_ h=>.inl h,λ_ h=>.inl h⟩
theorem am.grew {M S H} {w w':World} (hh:aE M S H w) (g:Grew w w') {v a} (h:am M S w v a):am M S w' v a:=
 h.mono (λ_ h=>h) (λi hi=>g.old i (hh.sits i hi)) (.refl M)
def Maps.bB (M:Maps) (g:Nat):Maps:=⟨M.nb+1,M.nt,λb=>if b=M.nb then g else M.box b,M.bv⟩
def Maps.ci (M:Maps) (v:Value):Maps:=⟨M.nb,M.nt+1,M.box,λt=>if t=M.nt then v else M.bv t⟩
theorem Maps.ka (M:Maps) (g:Nat):M.le (M.bB g):=⟨Nat.le_succ _,Nat.le_refl _,λb h=>by simp[bB,Nat.ne_of_lt h],λ_ _=>rfl⟩
theorem Maps.Wy (M:Maps) (v:Value):M.le (M.ci v):=⟨Nat.le_refl _,Nat.le_succ _,λ_ _=>rfl,λt h=>by simp[ci,Nat.ne_of_lt h]⟩
theorem GR {M:Maps} {H:AH} {cs g g'} (hn:M.nb=H.box.length):foot (M.bB g') ⟨H.box++[cs],H.buf⟩ g↔foot M H g\/g=g':=by
 unfold foot;constructor
 ·rintro(⟨b,hb,e⟩|⟨t,h⟩)
  ·simp at hb;by_cases eb:b=M.nb
   ·right;rw[<- e];simp[Maps.bB,eb]
   ·left;left;exact⟨b,by omega,by simpa[Maps.bB,eb]using e⟩
  ·exact .inl (.inr ⟨t,h⟩)
 ·rintro((⟨b,hb,e⟩|⟨t,h⟩)|rfl)
  ·exact .inl ⟨b,by simp;omega,by simp[Maps.bB,e];omega⟩
  ·exact .inr ⟨t,h⟩
  ·exact .inl ⟨M.nb,by simp[hn],by simp[Maps.bB]⟩
theorem aU.bB {M S H} {w w':World} {g:Nat} {cs:List AV} (hh:aE M S H w) (hgw:Grew w w') (hg:w.heap.size<=g):aU M S H w (M.bB g) S ⟨H.box++[cs],H.buf⟩ w':=
 ⟨hh.nb,hh.nt,hgw.os,hgw.tape,hgw.output,hgw.size,λ_ h=>h,λi hi=>hgw.old i (hh.sits i hi),λi hi _=>hgw.old i hi,M.ka g,λ_ h=>.inl h,
   λi hi=>((GR hh.nb).1 hi).imp id λe=>by rw[e];exact hg⟩
theorem aE.bB {M S H} {w w':World} {g:Nat} {cs:List AV} {c:Array Value} {T:TypeId} (hh:aE M S H w) (hgw:Grew w w') (hg:w.heap.size<=g) (hb:w'.heap[g]?=some (.cells c T (0,0)))
 (hc:c.size=cs.length) (h1:ones cs=true) (hr:∀i,i<cs.length->am M S w (c.getD i undef) (cs.getD i .any)):aE (M.bB g) S ⟨H.box++[cs],H.buf⟩ w':=by
 have h':=hh.grew hgw;have hun:¬S g:=λh=>by have:=hh.sits g h;omega
 have hfl:∀i,foot M H i->i≠g:=λi hi e=>by have:=fQ hh hi;omega
 refine⟨by simp[Maps.bB,hh.nb],hh.nt,h'.sits,λb hb'=>?_,λt ht=>?_,λb b' h1 h2 e=>?_,hh.tt,λb t g' hb' hl e=>?_⟩
 ·by_cases e:b=M.nb
  ·subst e;have:(H.box++[cs]).getD M.nb []=cs:=by rw[hh.nb];simp[List.getD]
   rw[this];have hbx:(M.bB g).box M.nb=g:=by simp[Maps.bB]
   rw[hbx];exact⟨hun,c,T,hb,hc,λi hi=>⟨jI h1 hi,((hr i hi).grew hh hgw).mono (λ_ h=>h) (λ_ _=>rfl) (M.ka g)⟩⟩
  ·simp at hb';have hlt:b<H.box.length:=by have:=hh.nb;omega
   have:(H.box++[cs]).getD b []=H.box.getD b []:=by simp[List.getD,List.getElem?_append_left hlt]
   rw[this,(M.ka g).box b (by rw[hh.nb];exact hlt)];exact(h'.box b hlt).keep (M.ka g) (λ_ h=>h) (h'.box b hlt).un (λ_ _=>rfl) rfl
 ·have:=h'.buf t ht;exact this
 ·simp at h1 h2;have hn:=hh.nb;by_cases e1:b=M.nb<;>by_cases e2:b'=M.nb
  ·rw[e1,e2]
  ·exfalso;simp[Maps.bB,e1,e2]at e;exact hfl (M.box b') (.inl ⟨b',by omega,rfl⟩) e.symm
  ·exfalso;simp[Maps.bB,e1,e2]at e;exact hfl (M.box b) (.inl ⟨b,by omega,rfl⟩) e
  ·simp[Maps.bB,e1,e2]at e;exact hh.bb b b' (by omega) (by omega) e
 ·simp at hb';have hn:=hh.nb;have hl':lives M H t g':=hl;by_cases e1:b=M.nb
  ·simp[Maps.bB,e1]at e;exact hfl g' (.inr ⟨t,hl'⟩) e.symm
  ·simp[Maps.bB,e1]at e;exact hh.bt b t g' (by omega) hl' e
theorem jD {α:Type} {l m:List α} {i:Nat} {d:α} (h:i<l.length):(l++m).getD i d=l.getD i d:=by simp[List.getD,List.getElem?_append_left h]
theorem yn {α:Type} {l:List α} {x d:α}:(l++[x]).getD l.length d=x:=by simp[List.getD]
theorem getD_set_ne' {α:Type} {l:List α} {i j:Nat} {x d:α} (h:i≠j):(l.set i x).getD j d=l.getD j d:=by simp[List.getD,List.getElem?_set_ne h]
theorem eK {α:Type} {l:List α} {i:Nat} {x d:α} (h:i<l.length):(l.set i x).getD i d=x:=by simp[List.getD,h]
theorem aE.Kl {M S H} {w w':World} (hh:aE M S H w) {row:Option Nat} (hg:w.grownBy w' row) {buf:List Buf} (hlen:buf.length=H.buf.length)
 (hbuf:∀t,t<H.buf.length->buf.getD t .dead=H.buf.getD t .dead\/buf.getD t .dead=.dead) (hrow:∀g,row=some g->foot M H g/\∀t,lives M H t g->buf.getD t .dead=.dead) (hrb:∀g b,row=some g->b<H.box.length->M.box b≠g)
 {v:Value} {B:Buf} (hv:mC S w' v B) (hblk:∀g,Value.blk v=some g->w.heap.size<=g\/row=some g):
 aE (M.ci v) S ⟨H.box,buf++[B]⟩ w'/\aU M S H w (M.ci v) S ⟨H.box,buf++[B]⟩ w':=by
 have hS:∀g,S g->w'.heap[g]?=w.heap[g]?:=λg h=>hg.block g (hh.sits g h) λe=>fx hh (hrow g e.symm).1 h
 have hle:=M.Wy v;have hnt:=hh.nt;have o5:∀t g,t<H.buf.length->lives (M.ci v) ⟨H.box,buf++[B]⟩ t g->lives M H t g/\buf.getD t .dead=H.buf.getD t .dead:=by
  intro t g ht h;obtain⟨h1,h2,h3⟩:=h;rw[show(⟨H.box,buf++[B]⟩:AH).buf=buf++[B]from rfl,jD (by omega)]at h2;rw[hle.bv t (by omega)]at h3;rcases hbuf t ht with e|e
  ·rw[e]at h2;exact⟨⟨ht,h2,h3⟩,e⟩
  ·rw[e]at h2;cases h2
 have o4:∀t g,¬t<H.buf.length->lives (M.ci v) ⟨H.box,buf++[B]⟩ t g->t=H.buf.length/\Value.blk v=some g:=by
  intro t g ht h;obtain⟨h1,_,h3⟩:=h;simp only[List.length_append,List.length_singleton]at h1;have e:t=H.buf.length:=by omega
  subst e;rw[<- hnt]at h3;simp only[Maps.ci,if_true]at h3;exact⟨rfl,h3⟩
 refine⟨⟨hh.nb,by simp[Maps.ci,hlen,hnt],λg h=>Nat.lt_of_lt_of_le (hh.sits g h) hg.size,λb hb=>?_,λt ht=>?_,hh.bb,λt t' g h1 h2=>?_,λb t g hb hl e=>?_⟩,
  ⟨hh.nb,hh.nt,hg.os,hg.tape,hg.output,hg.size,λ_ h=>h,hS,λg h hf=>hg.block g h λe=>hf (hrow g e.symm).1,hle,λ_ h=>.inl h,λg h=>?_⟩⟩
 ·refine(hh.box b hb).keep hle (λ_ h=>h) (hh.box b hb).un hS (hg.block _ (fQ hh (.inl ⟨b,hb,rfl⟩)) λe=>hrb _ b e.symm hb rfl)
 ·simp only[List.length_append,List.length_singleton]at ht;rcases Nat.lt_or_ge t H.buf.length with hlt|hge
  ·rw[show(⟨H.box,buf++[B]⟩:AH).buf=buf++[B]from rfl,jD (by omega),hle.bv t (by omega)];rcases hbuf t hlt with e|e
   ·rw[e];have:=hh.buf t hlt;cases hb:H.buf.getD t .dead with
    | dead=>trivial
    | bf k' xs'=>rw[hb]at this;exact aO.mono (λ_ h=>h) hS this
    | live k' xs'=>
      rw[hb]at this;have bn:∀g,Value.blk (M.bv t)=some g->lives M H t g:=λg h=>⟨hlt,by rw[hb];rfl,h⟩
      refine b9.keep this (λ_ h=>h) (λg h=>fx hh (.inr ⟨t,bn g h⟩)) hS λg h=>hg.block g (fQ hh (.inr ⟨t,bn g h⟩)) λe'=>?_;have:=(hrow g e'.symm).2 t (bn g h);rw[e,hb]at this;cases this
    | map q' k' xs'=>
      rw[hb]at this;have bn:∀g,Value.blk (M.bv t)=some g->lives M H t g:=λg h=>⟨hlt,by rw[hb];rfl,h⟩
      refine fe.keep this (λ_ h=>h) (λg h=>fx hh (.inr ⟨t,bn g h⟩)) hS λg h=>hg.block g (fQ hh (.inr ⟨t,bn g h⟩)) λe'=>?_;have:=(hrow g e'.symm).2 t (bn g h);rw[e,hb]at this;cases this
   ·rw[e];trivial
  ·have e:t=H.buf.length:=by omega
   subst e;have:(M.ci v).bv H.buf.length=v:=by rw[<- hnt];simp[Maps.ci]
   rw[this,show(⟨H.box,buf++[B]⟩:AH).buf.getD H.buf.length .dead=B from by rw[<- hlen];exact yn];exact hv
 ·by_cases c1:t<H.buf.length<;>by_cases c2:t'<H.buf.length
  ·exact hh.tt t t' g (o5 t g c1 h1).1 (o5 t' g c2 h2).1
  ·exfalso;obtain⟨l1,e1⟩:=o5 t g c1 h1;obtain⟨_,e2⟩:=o4 t' g c2 h2;rcases hblk g e2 with h|h
   ·have:=fQ hh (.inr ⟨t,l1⟩);omega
   ·have:=(hrow g h).2 t l1;obtain⟨_,_,⟨k',xs',e3⟩|⟨q',k',xs',e3⟩⟩:=Ae l1<;>rw[e1,e3]at this<;>cases this
  ·exfalso;obtain⟨l1,e1⟩:=o5 t' g c2 h2;obtain⟨_,e2⟩:=o4 t g c1 h1;rcases hblk g e2 with h|h
   ·have:=fQ hh (.inr ⟨t',l1⟩);omega
   ·have:=(hrow g h).2 t' l1;obtain⟨_,_,⟨k',xs',e3⟩|⟨q',k',xs',e3⟩⟩:=Ae l1<;>rw[e1,e3]at this<;>cases this
  ·rw[(o4 t g c1 h1).1,(o4 t' g c2 h2).1]
 ·have e':M.box b=g:=e;by_cases c1:t<H.buf.length
  ·exact hh.bt b t g hb (o5 t g c1 hl).1 e'
  ·obtain⟨_,e2⟩:=o4 t g c1 hl;rcases hblk g e2 with h|h
   ·have:=fQ hh (.inl ⟨b,hb,e'⟩);omega
   ·exact hrb g b h hb e'
 ·rcases h with⟨b,hb,e⟩|⟨t,hl⟩
  ·exact .inl (.inl ⟨b,hb,e⟩)
  ·by_cases c1:t<H.buf.length
   ·exact .inl (.inr ⟨t,(o5 t g c1 hl).1⟩)
   ·rcases hblk g (o4 t g c1 hl).2 with h|h
    ·exact .inr h
    ·exact .inl (hrow g h).1
theorem aE.nf {M S H} {w w':World} (hh:aE M S H w) {row:Option Nat} (hg:w.grownBy w' row) {buf:List Buf} (hlen:buf.length=H.buf.length)
 (hbuf:∀t,t<H.buf.length->buf.getD t .dead=H.buf.getD t .dead\/buf.getD t .dead=.dead) (hrow:∀g,row=some g->foot M H g/\∀t,lives M H t g->buf.getD t .dead=.dead) (hrb:∀g b,row=some g->b<H.box.length->M.box b≠g)
 {v:Value} {k:Nat} {xs:List AV} (hv:b9 S w' v k xs) (hblk:∀g,Value.blk v=some g->w.heap.size<=g\/row=some g):
 aE (M.ci v) S ⟨H.box,buf++[.live k xs]⟩ w'/\aU M S H w (M.ci v) S ⟨H.box,buf++[.live k xs]⟩ w':=
 hh.Kl hg hlen hbuf hrow hrb (B:=.live k xs) hv hblk
theorem Grew.by {w w':World} (g:Grew w w'):w.grownBy w' none:=⟨g.os,g.tape,g.output,g.size,λi h _=>g.old i h⟩
theorem aE.ci {M S H} {w w':World} (hh:aE M S H w) (hg:Grew w w') {v:Value} {k:Nat} {xs:List AV} (hv:b9 S w' v k xs) (hblk:∀g,Value.blk v=some g->w.heap.size<=g):
 aE (M.ci v) S ⟨H.box,H.buf++[.live k xs]⟩ w'/\aU M S H w (M.ci v) S ⟨H.box,H.buf++[.live k xs]⟩ w':=
 hh.nf hg.by rfl (λ_ _=>.inl rfl) (λg e=>by cases e) (λg _ e=>by cases e) hv λg h=>.inl (hblk g h)
theorem b9.slice {S w v k xs} (h:b9 S w v k xs):∃a n c,v=.slice a n c:=by
 rcases h with⟨⟨a,rfl⟩,_⟩|⟨g,cap,_,_,rfl,_⟩<;>exact⟨_,_,_,rfl⟩
theorem afg {M:Maps} {S:Nat->Prop} {w':World} {r:Nat} {H:AH} (hn:M.nt=H.buf.length):am (M.ci (.map (some r))) S w' (.map (some r)) (.own H.buf.length):=by
 have:(M.ci (.map (some r))).bv H.buf.length=.map (some r):=by rw[<- hn];simp[Maps.ci]
 have h:=am.own (M:=M.ci (.map (some r))) (S:=S) (w:=w') H.buf.length (by simp[Maps.ci,hn]) (by rw[this];exact .inr ⟨r,rfl⟩)
 rwa [this]at h
theorem jF {M:Maps} {S:Nat->Prop} {w':World} {v:Value} {H:AH} (hn:M.nt=H.buf.length) (hs:∃a n c,v=.slice a n c):am (M.ci v) S w' v (.own H.buf.length):=by
 have:(M.ci v).bv H.buf.length=v:=by rw[<- hn];simp[Maps.ci]
 have h:=am.own (M:=M.ci v) (S:=S) (w:=w') H.buf.length (by simp[Maps.ci,hn]) (by rw[this];exact .inl hs)
 rwa [this]at h
def iA (M:Maps) (S:Nat->Prop) (H:AH) (t:Nat) (g:Nat):Prop:=S g\/lives M H t g
theorem Pq {S w v k xs} (h:b9 S w v k xs) {S':Nat->Prop} (hS:∀g,S g->S' g) (hb:∀g,Value.blk v=some g->S' g):aO S' w v (.sl k xs):=by
 rcases h with⟨⟨a,rfl⟩,rfl⟩|⟨g,cap,c,T,rfl,_,hg,r⟩
 ·exact .sl0 a 0 k
 ·refine .sl g 0 (cap+1) k xs c T (0,0) r.fits (hb g rfl) hg ?_ r.len r.one λi hi j hj=>?_
  ·rw[r.size,Nat.zero_add];exact Nat.mul_le_mul_right _ r.fits
  ·rw[Nat.zero_add];exact(r.rep i hi j hj).mono hS λ_ _=>rfl
theorem aE.freeze {M S H} {w:World} (hh:aE M S H w) (t:Nat) (hnm:∀q k xs,H.buf.getD t .dead≠.map q k xs):aE M (iA M S H t) ⟨H.box,dt H.buf t⟩ w/\aU M S H w M (iA M S H t) ⟨H.box,dt H.buf t⟩ w:=by
 have hlen:(dt H.buf t).length=H.buf.length:=by simp[dt]
 have hget:∀t',t'≠t->(dt H.buf t).getD t' .dead=H.buf.getD t' .dead:=λt' h=>getD_set_ne' (Ne.symm h)
 have hat:t<H.buf.length->(dt H.buf t).getD t .dead=mT (H.buf.getD t .dead):=λh=>eK h;have gy:∀t' g,lives M ⟨H.box,dt H.buf t⟩ t' g->lives M H t' g/\t'≠t:=by
  intro t' g ⟨h1,h2,h3⟩;have h1':t'<H.buf.length:=by rw[<- hlen];exact h1
  by_cases e:t'=t
  ·subst e;rw[show(⟨H.box,dt H.buf t'⟩:AH).buf.getD t' .dead=mT (H.buf.getD t' .dead)from hat h1']at h2;cases hb:H.buf.getD t' .dead<;>first|exact absurd hb (hnm _ _ _)|(rw[hb]at h2;cases h2)
  ·rw[show(⟨H.box,dt H.buf t⟩:AH).buf.getD t' .dead=H.buf.getD t' .dead from hget t' e]at h2;exact⟨⟨h1',h2,h3⟩,e⟩
 refine⟨⟨hh.nb,by rw[hh.nt];exact hlen.symm,λg h=>?_,λb hb=>?_,λt' ht'=>?_,hh.bb,λa b g h1 h2=>hh.tt a b g (gy a g h1).1 (gy b g h2).1,λb t' g hb hl=>hh.bt b t' g hb (gy t' g hl).1⟩,
  ⟨hh.nb,hh.nt,rfl,rfl,rfl,Nat.le_refl _,λ_ h=>.inl h,λ_ _=>rfl,λ_ _ _=>rfl,.refl M,λg h=>h.imp id λh=>.inl (.inr ⟨t,h⟩),λg h=>.inl ?_⟩⟩
 ·rcases h with h|h
  ·exact hh.sits g h
  ·exact fQ hh (.inr ⟨t,h⟩)
 ·refine(hh.box b hb).keep (.refl M) (λ_ h=>.inl h) (λh=>?_) (λ_ _=>rfl) rfl;rcases h with h|h
  ·exact(hh.box b hb).un h
  ·exact hh.bt b t _ hb h rfl
 ·have h1':t'<H.buf.length:=by rw[<- hlen];exact ht'
  have:=hh.buf t' h1';by_cases e:t'=t
  ·subst e;rw[show(⟨H.box,dt H.buf t'⟩:AH).buf.getD t' .dead=mT (H.buf.getD t' .dead)from hat h1'];cases hb:H.buf.getD t' .dead with
   | dead=>trivial
   | bf k xs=>rw[hb]at this;exact aO.mono (λ_ h=>.inl h) (λ_ _=>rfl) this
   | live k xs=>
     rw[hb]at this;exact Pq this (λ_ h=>.inl h) λg h=>.inr ⟨h1',by rw[hb];rfl,h⟩
   | map q k xs=>exact absurd hb (hnm _ _ _)
  ·rw[show(⟨H.box,dt H.buf t⟩:AH).buf.getD t' .dead=H.buf.getD t' .dead from hget t' e];cases hb:H.buf.getD t' .dead with
   | dead=>trivial
   | bf k xs=>rw[hb]at this;exact aO.mono (λ_ h=>.inl h) (λ_ _=>rfl) this
   | live k xs=>
     rw[hb]at this;have bn:∀g,Value.blk (M.bv t')=some g->lives M H t' g:=λg h=>⟨h1',by rw[hb];rfl,h⟩
     refine b9.keep this (λ_ h=>.inl h) (λg h hs=>?_) (λ_ _=>rfl) λ_ _=>rfl;rcases hs with hs|hs
     ·exact fx hh (.inr ⟨t',bn g h⟩) hs
     ·exact e (hh.tt t' t g (bn g h) hs)
   | map q k xs=>
     rw[hb]at this;have bn:∀g,Value.blk (M.bv t')=some g->lives M H t' g:=λg h=>⟨h1',by rw[hb];rfl,h⟩
     refine fe.keep this (λ_ h=>.inl h) (λg h hs=>?_) (λ_ _=>rfl) λ_ _=>rfl;rcases hs with hs|hs
     ·exact fx hh (.inr ⟨t',bn g h⟩) hs
     ·exact e (hh.tt t' t g (bn g h) hs)
 ·rcases h with⟨b,hb,e⟩|⟨t',hl⟩
  ·exact .inl ⟨b,hb,e⟩
  ·exact .inr ⟨t',(gy t' g hl).1⟩
theorem aE.freezes {M:Maps} {H:AH} {w:World} (ts:List Nat):∀ {S:Nat->Prop} {buf:List Buf},aE M S ⟨H.box,buf⟩ w->∃S',aE M S' ⟨H.box,ts.foldl dt buf⟩ w/\aU M S ⟨H.box,buf⟩ w M S' ⟨H.box,ts.foldl dt buf⟩ w:=by
 induction ts with
 | nil=>intro S buf h;exact⟨S,h,aU.refl h⟩
 | cons t ts ih=>
   intro S buf h;by_cases hm:∃q k xs,buf.getD t .dead=.map q k xs
   ·obtain⟨q,k,xs,hm⟩:=hm;have e:dt buf t=buf:=by
     have hlt:t<buf.length:=by
      rcases Nat.lt_or_ge t buf.length with h'|h'
      ·exact h'
      ·rw[List.getD,List.getElem?_eq_none h']at hm;cases hm
     unfold dt;rw[hm];refine List.ext_getElem (by simp) λi h1 h2=>?_;by_cases hi:t=i
     ·subst hi;have:buf[t]=.map q k xs:=by rw[List.getD,List.getElem?_eq_getElem hlt]at hm;exact hm
      simp[mT,this]
     ·simp[List.getElem_set_ne hi]
    rw[List.foldl_cons,e];exact ih h
   ·obtain⟨h1,f1⟩:=h.freeze t λq k xs he=>hm ⟨q,k,xs,he⟩;obtain⟨S',h2,f2⟩:=ih h1;exact⟨S',h2,f1.trans f2⟩
theorem tB {M S H} {w:World} (hh:aE M S H w) {v a} (h:am M S w v a):am M S w v (gO H a):=by
 cases a with
 | own t=>
   simp only[gO];cases h with
   | data h=>cases h
   | own _ ht hs=>
     have hlt:t<H.buf.length:=by rw[<- hh.nt];exact ht
     have:=hh.buf t hlt;cases hb:H.buf.getD t .dead with
     | bf k xs=>rw[hb]at this;exact .data this
     | dead=>exact .own t ht hs
     | live k xs=>exact .own t ht hs
     | map q k xs=>exact .own t ht hs
 | _=>exact h
theorem Qv {M S H} {w:World} (hh:aE M S H w) {v a} (h:am M S w v a):am M S w v (cj H a):=by
 cases a with
 | agg cs=>
   simp only[cj];have key:∀vs:Array Value,vs.size=cs.length->(∀i,i<cs.length->am M S w (vs.getD i undef) (cs.getD i .any))->am M S w (.agg vs) (.agg (cs.map (gO H))):=λvs hn hr=>
    .agg vs _ (by simpa using hn) λi hi=>by
     simp only[List.length_map]at hi;have e:(cs.map (gO H)).getD i .any=gO H (cs.getD i .any):=by simp[List.getD,hi]
     rw[e];exact tB hh (hr i hi)
   cases h with
   | data h=>cases h with|agg vs _ hn hr=>exact key vs hn λi hi=>.data (hr i hi)
   | agg vs _ hn hr=>exact key vs hn hr
 | _=>exact tB hh h
theorem dy {M S w v a} (h:am M S w v a) (hd:a.dat=true):aO S w v a:=by
 cases h with
 | data h=>exact h
 | _=>simp[AV.dat]at hd
theorem afG {w:World} {g:Nat} {cs:Array Value}:w.grownBy (w.setRow g cs) (some g):=
 ⟨rfl,rfl,rfl,by simp,λk _ h=>setRow_other w g k cs λe=>h (by rw[e])⟩
theorem aE.WW {M S H} {w:World} (hh:aE M S H w) {b:Nat} (hb:b<H.box.length) {c:Array Value} {T:TypeId} (hc:w.heap[M.box b]?=some (.cells c T (0,0))) {c':Array Value} {cs':List AV}
 (hn:c'.size=cs'.length) (hr:∀i,i<cs'.length->(cs'.getD i .any).one=true/\am M S w (c'.getD i undef) (cs'.getD i .any)):
 aE M S ⟨H.box.set b cs',H.buf⟩ (w.setRow (M.box b) c')/\aU M S H w M S ⟨H.box.set b cs',H.buf⟩ (w.setRow (M.box b) c'):=by
 have hun:=(hh.box b hb).un;have hS:∀g,S g->(w.setRow (M.box b) c').heap[g]?=w.heap[g]?:=λg h=>setRow_other w _ g c' λe=>hun (e▸h)
 refine⟨⟨by simpa using hh.nb,hh.nt,λg h=>by simpa using hh.sits g h,λb' hb'=>?_,λt ht=>?_,λx y h1 h2=>hh.bb x y (by simpa using h1) (by simpa using h2),hh.tt,λx t g hx=>hh.bt x t g (by simpa using hx)⟩,
  ⟨hh.nb,hh.nt,rfl,rfl,rfl,by simp,λ_ h=>h,hS,λg hg hf=>setRow_other w _ g c' λe=>hf (.inl ⟨b,hb,e.symm⟩),.refl M,λ_ h=>.inl h,λg h=>.inl ?_⟩⟩
 ·simp only[List.length_set]at hb';by_cases e:b'=b
  ·subst e;rw[eK hb'];exact⟨hun,c',T,setRow_heap w _ c c' T (0,0) hc,hn,λi hi=>⟨(hr i hi).1,(hr i hi).2.mono (λ_ h=>h) hS (.refl M)⟩⟩
  ·rw[getD_set_ne' (Ne.symm e)];exact(hh.box b' hb').keep (.refl M) (λ_ h=>h) (hh.box b' hb').un hS (setRow_other w _ _ c' λe'=>e (hh.bb b' b hb' hb e'))
 ·have:=hh.buf t ht;show mC S _ (M.bv t) (H.buf.getD t .dead);cases hbf:H.buf.getD t .dead with
  | dead=>trivial
  | bf k xs=>rw[hbf]at this;exact aO.mono (λ_ h=>h) hS this
  | live k xs=>
    rw[hbf]at this;have bn:∀g,Value.blk (M.bv t)=some g->lives M H t g:=λg h=>⟨ht,by rw[hbf];rfl,h⟩
    exact b9.keep this (λ_ h=>h) (λg h=>fx hh (.inr ⟨t,bn g h⟩)) hS λg h=>setRow_other w _ g c' λe=>hh.bt b t g hb (bn g h) e.symm
  | map q k xs=>
    rw[hbf]at this;have bn:∀g,Value.blk (M.bv t)=some g->lives M H t g:=λg h=>⟨ht,by rw[hbf];rfl,h⟩
    exact fe.keep this (λ_ h=>h) (λg h=>fx hh (.inr ⟨t,bn g h⟩)) hS λg h=>setRow_other w _ g c' λe=>hh.bt b t g hb (bn g h) e.symm
 ·rcases h with⟨b',hb',e⟩|⟨t,hl⟩
  ·exact .inl ⟨b',by simpa using hb',e⟩
  ·exact .inr ⟨t,hl⟩
theorem aE.WX {M S H} {w:World} (hh:aE M S H w) {t g cap k:Nat} {xs xs':List AV} (ht:t<H.buf.length) (hb:H.buf.getD t .dead=.live k xs) {c c':Array Value} {T:TypeId}
 (hv:M.bv t=.slice (some ⟨g,0,none⟩) xs.length (cap+1)) (hc:w.heap[g]?=some (.cells c T (0,0))) (hl:xs'.length=xs.length) (hr:Row S (w.setRow g c') k xs' (cap+1) c'):
 aE M S ⟨H.box,H.buf.set t (.live k xs')⟩ (w.setRow g c')/\aU M S H w M S ⟨H.box,H.buf.set t (.live k xs')⟩ (w.setRow g c'):=by
 have hlv:lives M H t g:=⟨ht,by rw[hb];rfl,by rw[hv];rfl⟩
 have hun:=fx hh (.inr ⟨t,hlv⟩);have hS:∀i,S i->(w.setRow g c').heap[i]?=w.heap[i]?:=λi h=>setRow_other w _ i c' λe=>hun (e▸h)
 have hset:∀t',t'<H.buf.length->((H.buf.set t (.live k xs')).getD t' .dead).isLive=(H.buf.getD t' .dead).isLive:=λt' h'=>by
  by_cases e:t'=t
  ·subst e;rw[eK h',hb];rfl
  ·rw[getD_set_ne' (Ne.symm e)]
 have gy:∀t' i,lives M ⟨H.box,H.buf.set t (.live k xs')⟩ t' i->lives M H t' i:=λt' i ⟨h1,h2,h3⟩=>by
  have h1':t'<H.buf.length:=by simpa using h1
  exact⟨h1',by rw[<- hset t' h1'];exact h2,h3⟩
 refine⟨⟨hh.nb,by simpa using hh.nt,λi h=>by simpa using hh.sits i h,λb hb'=>?_,λt' ht'=>?_,hh.bb,λx y i h1 h2=>hh.tt x y i (gy x i h1) (gy y i h2),λb x i hb' h=>hh.bt b x i hb' (gy x i h)⟩,
  ⟨hh.nb,hh.nt,rfl,rfl,rfl,by simp,λ_ h=>h,hS,λi hi hf=>setRow_other w _ i c' λe=>hf (.inr ⟨t,e▸hlv⟩),.refl M,λ_ h=>.inl h,λi h=>.inl ?_⟩⟩
 ·exact(hh.box b hb').keep (.refl M) (λ_ h=>h) (hh.box b hb').un hS (setRow_other w _ _ c' λe=>hh.bt b t g hb' hlv e)
 ·have h1':t'<H.buf.length:=by simpa using ht'
  show mC S _ (M.bv t') ((H.buf.set t (.live k xs')).getD t' .dead);by_cases e:t'=t
  ·subst e;rw[eK h1'];exact .inr ⟨g,cap,c',T,by rw[hl];exact hv,hun,setRow_heap w _ c c' T (0,0) hc,hr⟩
  ·rw[getD_set_ne' (Ne.symm e)];have:=hh.buf t' h1';cases hbf:H.buf.getD t' .dead with
   | dead=>trivial
   | bf k xs=>rw[hbf]at this;exact aO.mono (λ_ h=>h) hS this
   | live k xs=>
     rw[hbf]at this;have bn:∀i,Value.blk (M.bv t')=some i->lives M H t' i:=λi h=>⟨h1',by rw[hbf];rfl,h⟩
     exact b9.keep this (λ_ h=>h) (λi h=>fx hh (.inr ⟨t',bn i h⟩)) hS λi h=>setRow_other w _ i c' λe'=>e (hh.tt t' t i (bn i h) (e'▸hlv))
   | map q k xs=>
     rw[hbf]at this;have bn:∀i,Value.blk (M.bv t')=some i->lives M H t' i:=λi h=>⟨h1',by rw[hbf];rfl,h⟩
     exact fe.keep this (λ_ h=>h) (λi h=>fx hh (.inr ⟨t',bn i h⟩)) hS λi h=>setRow_other w _ i c' λe'=>e (hh.tt t' t i (bn i h) (e'▸hlv))
 ·rcases h with⟨b',hb',e⟩|⟨t',hl'⟩
  ·exact .inl ⟨b',hb',e⟩
  ·exact .inr ⟨t',gy t' i hl'⟩
section
section inv
variable {P:Program} {wr:WR} {oc:Oper}
theorem aix {y} (h:bY P wr oc=some (.gS y)):∃x,y=ak x/\(oc.op=.move x\/oc.op=.assign x):=by
 replace h:=cM h (λ_ _=>by simp)
 unfold bZ at h;split at h
 all_goals (try (simp at h;done))
 all_goals (repeat' split at h)
 all_goals (try (simp at h;done))
 all_goals (simp only[Option.some.injEq,SO.gS.injEq]at h;refine⟨_,h.symm,?_⟩;first|exact .inl (by assumption)|exact .inr (by assumption))
theorem aio {y} (h:bY P wr oc=some (.lh y)):∃x s t,y=ak x/\oc.op=.convert s t x/\P.underlying s=some .string/\P.underlying t=some .string:=by
 replace h:=cM h (λ_ _=>by simp)
 unfold bZ at h;split at h
 all_goals (try (simp at h;done))
 all_goals (repeat' split at h)
 all_goals (try (simp at h;done))
 all_goals (simp only[Option.some.injEq,SO.lh.injEq]at h;exact⟨_,_,_,h.symm,by assumption,by assumption,by assumption⟩)
theorem agA {c a b} (h:bY P wr oc=some (.pick c a b)):∃x y z,c=ak x/\a=ak y/\b=ak z/\oc.op=.pick x y z:=by
 replace h:=cM h (λ_ _=>by simp)
 unfold bZ at h;split at h
 all_goals (try (simp at h;done))
 all_goals (repeat' split at h)
 all_goals (try (simp at h;done))
 all_goals (simp only[Option.some.injEq,SO.pick.injEq]at h;obtain⟨rfl,rfl,rfl⟩:=h;exact⟨_,_,_,rfl,rfl,rfl,by assumption⟩)
theorem ail {y} (h:bY P wr oc=some (.box y)):∃x t,y=ak x/\oc.op=.box t x:=by
 replace h:=cM h (λ_ _=>by simp)
 unfold bZ at h;split at h
 all_goals (try (simp at h;done))
 all_goals (repeat' split at h)
 all_goals (try (simp at h;done))
 all_goals (simp only[Option.some.injEq,SO.box.injEq]at h;exact⟨_,_,h.symm,by assumption⟩)
theorem Pn {zs} (h:bY P wr oc=some (.alloc zs)):∃t i z,oc.op=.alloc t/\P.info? t=some i/\i.zero=some z/\zs=(fB z).cells:=by
 replace h:=cM h (λ_ _=>by simp)
 unfold bZ at h;split at h
 all_goals (try (simp at h;done))
 case h_5 t ho=>
  simp only[Option.map_eq_some_iff,SO.alloc.injEq]at h;obtain⟨zs',hz,rfl⟩:=h;unfold gM at hz;split at hz
  ·rename_i i hi;split at hz
   ·rename_i z hzz;cases hz;exact⟨t,i,z,ho,hi,hzz,rfl⟩
   ·cases hz
  ·cases hz
 all_goals (repeat' split at h)
 all_goals (try (simp at h;done))
theorem Im {n ag y} (h:bY P wr oc=some (.ld n ag y)):∃t x,y=ak x/\oc.op=.load t x/\hO P t=some (n,ag):=by
 replace h:=cM h (λ_ _=>by simp)
 unfold bZ at h;split at h
 all_goals (try (simp at h;done))
 all_goals (repeat' split at h)
 all_goals (try (simp at h;done))
 all_goals (simp only[Option.map_eq_some_iff]at h;obtain⟨n',hn',h⟩:=h)
 all_goals (try (simp at h;done))
 all_goals (simp only[SO.ld.injEq]at h;obtain⟨rfl,rfl,rfl⟩:=h;exact⟨_,_,rfl,by assumption,by assumption⟩)
theorem AL {n y z} (h:bY P wr oc=some (.st n y z)):∃t a x,y=ak a/\z=ak x/\oc.op=.store t a x/\bR P t=some n:=by
 replace h:=cM h (λ_ _=>by simp)
 unfold bZ at h;split at h
 all_goals (try (simp at h;done))
 all_goals (repeat' split at h)
 all_goals (try (simp at h;done))
 all_goals (simp only[Option.map_eq_some_iff]at h;obtain⟨n',hn',h⟩:=h)
 all_goals (try (simp at h;done))
 all_goals (simp only[SO.st.injEq]at h;obtain⟨rfl,rfl,rfl⟩:=h;exact⟨_,_,_,rfl,rfl,by assumption,by assumption⟩)
theorem Il {off y} (h:bY P wr oc=some (.fa off y)):∃s x f fs fl n,y=ak x/\oc.op=.fieldAddr s x f/\P.underlying s=some (.struct fs)/\fs[f]?=some fl/\bR P fl.type=some n/\n≠0/\off=fl.offset:=by
 replace h:=cM h (λ_ _=>by simp)
 unfold bZ at h;split at h
 all_goals (try (simp at h;done))
 all_goals (repeat' split at h)
 all_goals (try (simp at h;done))
 all_goals (simp only[Option.some.injEq,SO.fa.injEq]at h;obtain⟨rfl,rfl⟩:=h;exact⟨_,_,_,_,_,_,rfl,by assumption,by assumption,by assumption,by assumption,by assumption,rfl⟩)
theorem aiu {off n ag y} (h:bY P wr oc=some (.lA off n ag y)):∃s x f fs fl,y=ak x/\oc.op=.field s x f/\P.underlying s=some (.struct fs)/\fs[f]?=some fl/\hO P fl.type=some (n,ag)/\off=fl.offset:=by
 replace h:=cM h (λ_ _=>by simp)
 unfold bZ at h;split at h
 all_goals (try (simp at h;done))
 all_goals (repeat' split at h)
 all_goals (try (simp at h;done))
 all_goals (simp only[Option.map_eq_some_iff]at h;obtain⟨n',hn',h⟩:=h)
 all_goals (try (simp at h;done))
 all_goals (simp only[SO.lA.injEq]at h;obtain⟨rfl,rfl,rfl,rfl⟩:=h;exact⟨_,_,_,_,_,rfl,by assumption,by assumption,by assumption,by assumption,rfl⟩)
theorem AK {k y z} (h:bY P wr oc=some (.ia k y z)):∃t x i e,y=ak x/\z=ak i/\oc.op=.indexAddr t x i/\P.underlying t=some (.slice e)/\bR P e=some k:=by
 replace h:=cM h (λ_ _=>by simp)
 unfold bZ at h;split at h
 all_goals (try (simp at h;done))
 all_goals (repeat' split at h)
 all_goals (try (simp at h;done))
 all_goals (simp only[Option.map_eq_some_iff]at h;obtain⟨n',hn',h⟩:=h)
 all_goals (try (simp at h;done))
 all_goals (simp only[SO.ia.injEq]at h;obtain⟨rfl,rfl,rfl⟩:=h;exact⟨_,_,_,_,rfl,rfl,by assumption,by assumption,by assumption⟩)
theorem QZ {n k y z} (h:bY P wr oc=some (.jt n k y z)):∃t x i e,y=ak x/\z=ak i/\oc.op=.indexAddr t x i/\P.underlying t=some (.array n e)/\bR P e=some k:=by
 replace h:=cM h (λ_ _=>by simp)
 unfold bZ at h;split at h
 all_goals (try (simp at h;done))
 all_goals (repeat' split at h)
 all_goals (try (simp at h;done))
 all_goals (simp only[Option.map_eq_some_iff]at h;obtain⟨n',hn',h⟩:=h)
 all_goals (try (simp at h;done))
 all_goals (simp only[SO.jt.injEq]at h;obtain⟨rfl,rfl,rfl,rfl⟩:=h;exact⟨_,_,_,_,rfl,rfl,by assumption,by assumption,by assumption⟩)
theorem aiP {y z} (h:bY P wr oc=some (.ix y z)):∃t x i,y=ak x/\z=ak i/\oc.op=.index t x i/\P.underlying t=some .string:=by
 replace h:=cM h (λ_ _=>by simp)
 unfold bZ at h;split at h
 all_goals (try (simp at h;done))
 all_goals (repeat' split at h)
 all_goals (try (simp at h;done))
 all_goals (simp only[Option.some.injEq,SO.ix.injEq]at h;obtain⟨rfl,rfl⟩:=h;exact⟨_,_,_,rfl,rfl,by assumption,by assumption⟩)
theorem aik {op wr' y z} (h:bY P wr oc=some (.bin op wr' y z)):∃t x x' t',y=ak x/\z=ak x'/\oc.op=.binOp op t x x' t'/\wr'=wr.1:=by
 replace h:=cM h (λ_ _=>by simp)
 unfold bZ at h;split at h
 all_goals (try (simp at h;done))
 all_goals (repeat' split at h)
 all_goals (try (simp at h;done))
 all_goals (simp only[Option.some.injEq,SO.bin.injEq]at h;obtain⟨rfl,rfl,rfl,rfl⟩:=h;exact⟨_,_,_,_,rfl,rfl,by assumption,rfl⟩)
theorem ais {ne ls y z} (h:bY P wr oc=some (.eqs ne ls y z)):∃op t x x' t' fs,y=ak x/\z=ak x'/\oc.op=.binOp op t x x' t'/\gL op=some ne/\P.underlying t=some (.struct fs)/\mO P 10 t=some ls/\P.eqGuardType P.depth t=false:=by
 replace h:=cM h (λ_ _=>by simp)
 unfold bZ at h;split at h
 all_goals (try (simp at h;done))
 all_goals (repeat' split at h)
 all_goals (try (simp at h;done))
 all_goals (rename_i hg;simp only[Option.some.injEq,SO.eqs.injEq]at h;obtain⟨rfl,rfl,rfl,rfl⟩:=h;exact⟨_,_,_,_,_,_,rfl,rfl,by assumption,by assumption,by assumption,by assumption,by simpa using hg⟩)
theorem aip {ne y z} (h:bY P wr oc=some (.lr ne y z)):∃op t x x' t',y=ak x/\z=ak x'/\oc.op=.binOp op t x x' t'/\gL op=some ne/\P.underlying t=some .bool:=by
 replace h:=cM h (λ_ _=>by simp)
 unfold bZ at h;split at h
 all_goals (try (simp at h;done))
 all_goals (repeat' split at h)
 all_goals (try (simp at h;done))
 all_goals (simp only[Option.map_eq_some_iff]at h;obtain⟨n',hn',h⟩:=h)
 all_goals (try (simp at h;done))
 all_goals (simp only[SO.lr.injEq]at h;obtain⟨rfl,rfl,rfl⟩:=h;exact⟨_,_,_,_,_,rfl,rfl,by assumption,by assumption,by assumption⟩)
theorem aiq {ne c y z} (h:bY P wr oc=some (.lu ne c y z)):∃op t x x' t' ms,y=ak x/\z=ak x'/\c=(mX x||mX x')/\oc.op=.binOp op t x x' t'/\gL op=some ne/\P.underlying t=some (.interface ms):=by
 replace h:=cM h (λ_ _=>by simp)
 unfold bZ at h;split at h
 all_goals (try (simp at h;done))
 all_goals (repeat' split at h)
 all_goals (try (simp at h;done))
 all_goals (simp only[Option.map_eq_some_iff]at h;obtain⟨n',hn',h⟩:=h)
 all_goals (try (simp at h;done))
 all_goals (simp only[SO.lu.injEq]at h;obtain⟨rfl,rfl,rfl,rfl⟩:=h;exact⟨_,_,_,_,_,_,rfl,rfl,rfl,by assumption,by assumption,by assumption⟩)
theorem air {ne y z} (h:bY P wr oc=some (.lx ne y z)):∃op t x x' t' e,y=ak x/\z=ak x'/\oc.op=.binOp op t x x' t'/\gL op=some ne/\P.underlying t=some (.pointer e)/\(bR P e).isSome=true:=by
 replace h:=cM h (λ_ _=>by simp)
 unfold bZ at h;split at h
 all_goals (try (simp at h;done))
 all_goals (repeat' split at h)
 all_goals (try (simp at h;done))
 all_goals (simp only[Option.map_eq_some_iff]at h;obtain⟨n',hn',h⟩:=h)
 all_goals (try (simp at h;done))
 all_goals (simp only[SO.lx.injEq]at h;obtain⟨rfl,rfl,rfl⟩:=h;exact⟨_,_,_,_,_,_,rfl,rfl,by assumption,by assumption,by assumption,by assumption⟩)
theorem aiQ {op y} (h:bY P wr oc=some (.un op y)):∃t x,y=ak x/\oc.op=.unOp op t x:=by
 replace h:=cM h (λ_ _=>by simp)
 unfold bZ at h;split at h
 all_goals (try (simp at h;done))
 all_goals (repeat' split at h)
 all_goals (try (simp at h;done))
 all_goals (simp only[Option.some.injEq,SO.un.injEq]at h;obtain⟨rfl,rfl⟩:=h;exact⟨_,_,rfl,by assumption⟩)
theorem ain {k y} (h:bY P wr oc=some (.lg k y)):∃s t x k',y=ak x/\oc.op=.convert s t x/\P.underlying s=some (.int k')/\P.underlying t=some (.int k):=by
 replace h:=cM h (λ_ _=>by simp)
 unfold bZ at h;split at h
 all_goals (try (simp at h;done))
 all_goals (repeat' split at h)
 all_goals (try (simp at h;done))
 all_goals (simp only[Option.some.injEq,SO.lg.injEq]at h;obtain⟨rfl,rfl⟩:=h;exact⟨_,_,_,_,rfl,by assumption,by assumption,by assumption⟩)
theorem ait {i y} (h:bY P wr oc=some (.ext i y)):∃x,y=ak x/\oc.op=.extract x i:=by
 replace h:=cM h (λ_ _=>by simp)
 unfold bZ at h;split at h
 all_goals (try (simp at h;done))
 all_goals (repeat' split at h)
 all_goals (try (simp at h;done))
 all_goals (simp only[Option.some.injEq,SO.ext.injEq]at h;obtain⟨rfl,rfl⟩:=h;exact⟨_,rfl,by assumption⟩)
theorem aiw {t y} (h:bY P wr oc=some (.lI t y)):∃x d,y=ak x/\oc.op=.makeInterface t x/\P.underlying t=some d/\∀ms,d≠.interface ms:=by
 replace h:=cM h (λ_ _=>by simp)
 unfold bZ at h;split at h
 all_goals (try (simp at h;done))
 all_goals (repeat' split at h)
 all_goals (try (simp at h;done))
 all_goals (simp only[Option.some.injEq,SO.lI.injEq]at h;obtain⟨rfl,rfl⟩:=h;exact⟨_,_,rfl,by assumption,by assumption,λms e=>by simp_all⟩)
theorem QY {f as bs} (h:bY P wr oc=some (.fnv f as bs)):∃x y,as=x.toList.map ak/\bs=y.toList.map ak/\oc.op=.makeFunc f x y:=by
 replace h:=cM h (λ_ _=>by simp)
 unfold bZ at h;split at h
 all_goals (try (simp at h;done))
 all_goals (repeat' split at h)
 all_goals (try (simp at h;done))
 all_goals (simp only[Option.some.injEq,SO.fnv.injEq]at h;obtain⟨rfl,rfl,rfl⟩:=h;exact⟨_,_,rfl,rfl,by assumption⟩)
theorem aiv {st y} (h:bY P wr oc=some (.len st y)):∃x args ts t,y=ak x/\args=#[x]/\ts=#[t]/\oc.op=.call { callee:=.builtin .len,args:=args,argTypes:=ts }/\((st=true/\P.underlying t=some .string)\/(st=false/\∃e,P.underlying t=some (.slice e))):=by
 replace h:=cM h (λ_ _=>by simp)
 unfold bZ at h;split at h
 all_goals (try (simp at h;done))
 all_goals (repeat' split at h)
 all_goals (try (simp at h;done))
 all_goals (simp only[Option.some.injEq,SO.len.injEq]at h;obtain⟨rfl,rfl⟩:=h;exact⟨_,_,_,_,rfl,Array.toList_inj.1 (by assumption),Array.toList_inj.1 (by assumption),by assumption,(by first|exact .inl ⟨rfl,by assumption⟩|exact .inr ⟨rfl,_,by assumption⟩)⟩)
theorem agz {n} (h:bY P wr oc=some (.lE n)):∃x args ts t e,args=#[x]/\ts=#[t]/\oc.op=.call { callee:=.builtin .len,args:=args,argTypes:=ts }/\P.underlying t=some (.array n e):=by
 replace h:=cM h (λ_ _=>by simp)
 unfold bZ at h;split at h
 all_goals (try (simp at h;done))
 all_goals (repeat' split at h)
 all_goals (try (simp at h;done))
 all_goals (simp only[Option.some.injEq,SO.lE.injEq]at h;subst h;exact⟨_,_,_,_,_,Array.toList_inj.1 (by assumption),Array.toList_inj.1 (by assumption),by assumption,by assumption⟩)
theorem QW {k aQ y z} (h:bY P wr oc=some (.app k aQ y z)):∃x x' t u e i zs args ts,y=ak x/\z=ak x'/\args=#[x,x']/\ts=#[t,u]/\oc.op=.call { callee:=.builtin .append,args:=args,argTypes:=ts }/\P.underlying t=some (.slice e)/\((∃e',P.underlying u=some (.slice e'))\/P.underlying u=some .string)/\P.info? e=some i/\gM P e=some zs/\zs.length=i.size/\0<i.size/\k=i.size/\aQ=i.bytes:=by
 replace h:=cM h (λ_ _=>by simp)
 unfold bZ at h;split at h
 all_goals (try (simp at h;done))
 all_goals (repeat' split at h)
 all_goals (try (simp at h;done))
 all_goals (rename_i hc;simp only[Option.some.injEq,SO.app.injEq]at h;obtain⟨rfl,rfl,rfl,rfl⟩:=h;exact⟨_,_,_,_,_,_,_,_,_,rfl,rfl,Array.toList_inj.1 (by assumption),Array.toList_inj.1 (by assumption),by assumption,by assumption,(by first|exact .inl ⟨_,by assumption⟩|exact .inr (by assumption)),by assumption,by assumption,hc.1,hc.2,rfl,rfl⟩)
theorem Q0 {st k y lo hi mx} (h:bY P wr oc=some (.slc st k y lo hi mx)):∃t x a b c,y=ak x/\lo=a.map ak/\hi=b.map ak/\mx=c.map ak/\oc.op=.slice t x a b c/\
 ((st=true/\P.underlying t=some .string/\k=0)\/st=false/\∃e,P.underlying t=some (.slice e)/\bR P e=some k):=by
 replace h:=cM h (λ_ _=>by simp)
 unfold bZ at h;split at h
 all_goals (try (simp at h;done))
 all_goals (repeat' split at h)
 all_goals (try (simp at h;done))
 ·simp only[Option.some.injEq,SO.slc.injEq]at h;obtain⟨rfl,rfl,rfl,rfl,rfl,rfl⟩:=h;exact⟨_,_,_,_,_,rfl,rfl,rfl,rfl,by assumption,.inl ⟨rfl,by assumption,rfl⟩⟩
 ·simp only[Option.map_eq_some_iff]at h;obtain⟨n',hn',h⟩:=h;simp only[SO.slc.injEq]at h;obtain⟨rfl,rfl,rfl,rfl,rfl,rfl⟩:=h;exact⟨_,_,_,_,_,rfl,rfl,rfl,rfl,by assumption,.inr ⟨rfl,_,by assumption,hn'⟩⟩
theorem P9 {f as} (h:bY P wr oc=some (.call f as)):∃args ts,as=args.toList.map ak/\oc.op=.call { callee:=.value (.func f),args:=args,argTypes:=ts }:=by
 replace h:=cM h (λ_ _=>by simp)
 unfold bZ at h;split at h
 all_goals (try (simp at h;done))
 all_goals (repeat' split at h)
 all_goals (try (simp at h;done))
 all_goals (simp only[Option.some.injEq,SO.call.injEq]at h;obtain⟨rfl,rfl⟩:=h;exact⟨_,_,rfl,by assumption⟩)
theorem agc {y as} (h:bY P wr oc=some (.gr y as)):∃x args ts,y=ak x/\as=args.toList.map ak/\oc.op=.call { callee:=.value x,args:=args,argTypes:=ts }:=by
 replace h:=cM h (λ_ _=>by simp)
 unfold bZ at h;split at h
 all_goals (try (simp at h;done))
 all_goals (repeat' split at h)
 all_goals (try (simp at h;done))
 all_goals (simp only[Option.some.injEq,SO.gr.injEq]at h;obtain⟨rfl,rfl⟩:=h;exact⟨_,_,_,rfl,rfl,by assumption⟩)
theorem QX {k ps} (h:bY P wr oc=some (.cq k ps)):∃t n,∃pp:Array (Nat×Operand),∃e zs,ps=pp.toList.map (λp=>ak p.2)/\oc.op=.buildSlice t n pp/\P.underlying t=some (.slice e)/\bR P e=some k/\gM P e=some zs/\pp.toList.map (·.1)=List.range n/\n*k<=16777216/\zs.length=k/\0<k:=by
 replace h:=cM h (λ_ _=>by simp)
 unfold bZ at h;split at h
 all_goals (try (simp at h;done))
 all_goals (repeat' split at h)
 all_goals (try (simp at h;done))
 all_goals (rename_i hc;simp only[Option.some.injEq,SO.cq.injEq]at h;obtain⟨rfl,rfl⟩:=h;exact⟨_,_,_,_,_,rfl,by assumption,by assumption,by assumption,by assumption,hc.1,hc.2.1,hc.2.2.1,hc.2.2.2⟩)
theorem agb {zs ps} (h:bY P wr oc=some (.build zs ps)):∃t,∃pp:Array (Nat×Operand),oc.op=.build t pp/\gM P t=some zs/\
 ((∃fs,P.underlying t=some (.struct fs)/\fs.all (λf=>(bR P f.type).isSome)=true/\qC P fs pp.toList=some ps)\/∃l e n,P.underlying t=some (.array l e)/\bR P e=some n/\ps=pp.toList.map λp=>(p.1*n,n,ak p.2)):=by
 replace h:=cM h (λ_ _=>by simp)
 unfold bZ at h;split at h
 all_goals (try (simp at h;done))
 all_goals (repeat' split at h)
 all_goals (try (simp at h;done))
 ·simp only[Option.map_eq_some_iff]at h;obtain⟨n',hn',h⟩:=h;simp only[SO.build.injEq]at h;obtain⟨rfl,rfl⟩:=h;exact⟨_,_,by assumption,by assumption,.inl ⟨_,by assumption,by assumption,hn'⟩⟩
 ·simp only[Option.some.injEq,SO.build.injEq]at h;obtain⟨rfl,rfl⟩:=h;exact⟨_,_,by assumption,by assumption,.inr ⟨_,_,_,by assumption,by assumption,rfl⟩⟩
theorem agn {o:Op} {ty:TypeId} (h:bZ P wr oc=some (.raw o ty)):False:=by
 unfold bZ at h;split at h
 all_goals (try (simp at h;done))
 all_goals (repeat' split at h)
 all_goals (try (simp at h;done))
theorem jK {o:Op} {ty:TypeId} (h:bY P wr oc=some (.raw o ty)):oc.op=o/\(isInv o=false->oc.type=ty):=by
 unfold bY at h;split at h
 ·split at h
  ·rename_i hi;cases h;exact⟨rfl,λq=>by rw[hi]at q;cases q⟩
  ·cases h;exact⟨rfl,λ_=>rfl⟩
 ·split at h
  ·rename_i s e;cases h;exact(agn e).elim
  ·cases h;exact⟨rfl,λ_=>rfl⟩
end inv
end
section
section
variable {P:Program} {oc:Oper} {t:List AV} {H H':AH} {r:AV} {o:SO} {dr:Bool}
theorem jJ (h:∀M S w (a:Act),(∀x∈oc.op.operands,am M S w (a.eval x) (od t (ak x)))->aE M S H w->
 ∃v w' M' S',(execOp a.eval oc).run P w=.ok (.value v) w'/\aE M' S' H' w'/\am M' S' w' v r/\aU M S H w M' S' H' w'):iY P oc t H (.ret r) H':=by
 intro M S w a hx hh hp K Q hK;obtain⟨v,w',M',S',hr,h1,h2,h3⟩:=h M S w a hx hh;unfold Oper.wp;rw[hr];exact hK M' S' v w' h1 h3 h2
theorem cy (h:∀M S w (a:Act),(∀x∈oc.op.operands,am M S w (a.eval x) (od t (ak x)))->aE M S H w->
 ∃v,(execOp a.eval oc).run P w=.ok (.value v) w/\am M S w v r):iY P oc t H (.ret r) H:=
 jJ λM S w a hx hh=>let ⟨v,h1,h2⟩:=h M S w a hx hh;⟨v,w,M,S,h1,hh,h2,aU.refl hh⟩
theorem dc (h:∀H0,OS P o t H0 (.ret r) H0) (hn:o.news=false:=by rfl) (hm:o.frames=false:=by rfl):ES P dr o t H r H:=⟨h H,λ_=>⟨λ_=>rfl,λ_ _=>h,λ_ _=>h _,λe=>(by rw[hn]at e;cases e),λe=>by rw[hm]at e;cases e⟩⟩
theorem gf (hs:o.sees=true) (h:∀bx,OS P o t ⟨H.box++bx,H.buf⟩ (.ret r) ⟨H.box++bx,H.buf⟩) (hn:o.news=false:=by rfl) (hm:o.frames=false:=by rfl):ES P dr o t H r H:=
 ⟨by have:=h [];rw[List.append_nil]at this;exact this,λ_=>⟨λ_=>rfl,λ_ h=>(by rw[hs]at h;cases h),λ_=>h,λe=>(by rw[hn]at e;cases e),λe=>by rw[hm]at e;cases e⟩⟩
theorem gZ (hs:o.acts=true) (h:OS P o t H (.ret r) H') (hn:o.news=false:=by rfl) (hm:o.frames=false:=by rfl):ES P dr o t H r H':=⟨h,λ_=>⟨λh=>(by rw[hs]at h;cases h),λh _=>(by rw[hs]at h;cases h),λh _=>(by rw[hs]at h;cases h),λe=>(by rw[hn]at e;cases e),λe=>by rw[hm]at e;cases e⟩⟩
theorem Ru (hs:o.acts=true) {cs:List AV} (h:∀buf,OS P o t ⟨H.box,buf⟩ (.ret r) ⟨H.box++[cs],buf⟩) (hm:o.frames=false:=by rfl):ES P dr o t H r ⟨H.box++[cs],H.buf⟩:=⟨h _,λ_=>⟨λh=>(by rw[hs]at h;cases h),λh _=>(by rw[hs]at h;cases h),λh _=>(by rw[hs]at h;cases h),λ_=>⟨cs,rfl,h⟩,λe=>by rw[hm]at e;cases e⟩⟩
theorem An (hd:dr=false) (h:OS P o t H (.ret r) H'):ES P dr o t H r H':=⟨h,λh=>by rw[hd]at h;cases h⟩
theorem ajG (y:Od):OS P (.gS y) t H (.ret (od t y)) H:=by
 intro wr oc h;obtain⟨x,rfl,hop⟩:=aix h;refine cy λM S w a hx _=>?_;rcases hop with hop|hop
 ·exact⟨a.eval x,by simp[execOp,hop],hx x (by simp[hop,Op.operands])⟩
 ·exact⟨a.eval x,by simp[execOp,hop],hx x (by simp[hop,Op.operands])⟩
theorem RC {ty y}:OS P (.lI ty y) t H (.ret (.aG ty (od t y))) H:=by
 intro wr oc h;obtain⟨x,d,rfl,hop,hd,hni⟩:=aiw h;refine cy λM S w a hx _=>⟨.iface ty (a.eval x),?_,.aG _ _ _ (hx x (by simp[hop,Op.operands]))⟩
 simp only[execOp,hop,Instr.makeInterface,Sem.run_bind,run_underlying hd,Result.andThen_ok];cases d<;>first|rfl|exact absurd rfl (hni _)
theorem pZ {M S w} {a:Act} {xs:Array Operand} (h:∀x∈xs,am M S w (a.eval x) (od t (ak x))):
 (xs.map a.eval).size=((xs.toList.map ak).map (od t)).length/\∀i,i<((xs.toList.map ak).map (od t)).length->am M S w ((xs.map a.eval).getD i undef) (((xs.toList.map ak).map (od t)).getD i .any):=by
 refine⟨by simp,λi hi=>?_⟩;have hi':i<xs.size:=by simpa using hi
 have e1:(xs.map a.eval).getD i undef=a.eval xs[i]:=by simp[Array.getD,hi']
 have e2:((xs.toList.map ak).map (od t)).getD i .any=od t (ak xs[i]):=by simp[List.getD,hi']
 rw[e1,e2];exact h _ (by simp)
theorem ajC {f as bs}:OS P (.fnv f as bs) t H (.ret (.fn f (as.map (od t)) (bs.map (od t)))) H:=by
 intro wr oc h;obtain⟨x,y,rfl,rfl,hop⟩:=QY h;refine cy λM S w a hx _=>⟨.func f (x.map a.eval) (y.map a.eval),by simp[execOp,hop,Instr.makeFunc],?_⟩
 obtain⟨h1,h2⟩:=pZ (a:=a) (xs:=x) (λz hz=>hx z (by simp[hop,Op.operands,hz]));obtain⟨h3,h4⟩:=pZ (a:=a) (xs:=y) (λz hz=>hx z (by simp[hop,Op.operands,hz]));exact .fn f _ _ _ _ h1 h3 h2 h4
theorem ai6 {y p r} (h:qF (od t y)=some (p,r)):OS P (.lh y) t H (.ret r) H:=by
 intro wr oc hc;obtain⟨x,s,u,rfl,hop,h1,h2⟩:=aio hc;refine cy λM S w a hx _=>?_;have hr:=hx x (by simp[hop,Op.operands]);cases e:od t (ak x)with
 | v z=>
   rw[e]at h hr;have:=hr.bh;cases z with
   | string s=>
     simp[qF]at h;obtain⟨_,rfl⟩:=h;exact⟨.string s,by simp[execOp,hop,convert,run_underlying h1,run_underlying h2,this],.data (.v _)⟩
   | _=>simp[qF]at h
 | _=>rw[e]at h;simp[qF]at h
theorem ah3 {c x y p r} (h:Cy (od t c) (od t x) (od t y)=some (p,r)):OS P (.pick c x y) t H (.ret r) H:=by
 intro wr oc hc;obtain⟨c',x',y',rfl,rfl,rfl,hop⟩:=agA hc;refine cy λM S w a hx _=>?_;have hrc:=hx c' (by simp[hop,Op.operands]);have hrx:=hx x' (by simp[hop,Op.operands]);have US:=hx y' (by simp[hop,Op.operands]);unfold Cy at h;split at h
 ·rename_i e;simp only[Option.some.injEq,Prod.mk.injEq]at h;obtain⟨_,rfl⟩:=h;rw[e]at hrc;exact⟨a.eval x',by simp[execOp,hop,hrc.bh,asBool],hrx⟩
 ·rename_i e;simp only[Option.some.injEq,Prod.mk.injEq]at h;obtain⟨_,rfl⟩:=h;rw[e]at hrc;exact⟨a.eval y',by simp[execOp,hop,hrc.bh,asBool],US⟩
 ·cases h
theorem ai5 {k y p r} (h:Bk k (od t y)=some (p,r)):OS P (.lg k y) t H (.ret r) H:=by
 intro wr oc hc;obtain⟨s,u,x,k',rfl,hop,h1,h2⟩:=ain hc;refine cy λM S w a hx _=>?_;have hr:=hx x (by simp[hop,Op.operands]);unfold Bk at h;split at h
 ·rename_i e;simp only[Option.some.injEq,Prod.mk.injEq]at h;obtain⟨_,rfl⟩:=h;rw[e]at hr;exact⟨_,by simp[execOp,hop,convert,run_underlying h1,run_underlying h2,hr.bh,Conv.intToInt],.data (.v _)⟩
 ·cases h
theorem ajA {i y p r} (h:uK i (od t y)=some (p,r)) (hp:p):OS P (.ext i y) t H (.ret r) H:=by
 intro wr oc hc;obtain⟨x,rfl,hop⟩:=ait hc;refine cy λM S w a hx _=>?_;have hr:=hx x (by simp[hop,Op.operands]);unfold uK at h;split at h
 ·rename_i cs e;simp only[Option.some.injEq,Prod.mk.injEq]at h;obtain⟨rfl,rfl⟩:=h;rw[e]at hr;have key:∀vs:Array Value,a.eval x=.tuple vs->vs.size=cs.length->(∀i,i<cs.length->am M S w (vs.getD i undef) (cs.getD i .any))->∃v,(execOp a.eval oc).run P w=.ok (.value v) w/\am M S w v (cs.getD i .any):=λvs hv hn hall=>
   ⟨vs.getD i undef,by
     have:i<vs.size:=by rw[hn];exact hp
     simp[execOp,hop,hv,Instr.extract,this,Array.getD],hall i hp⟩
  generalize hv:a.eval x=v at hr;cases hr with
  | data h=>cases h with|aL vs _ hn hall=>exact key vs hv hn λi hi=>.data (hall i hi)
  | aL vs _ hn hall=>exact key vs hv hn hall
 ·cases h
theorem WI {op y p r} (h:pq op (od t y)=some (p,r)) (hp:p):OS P (.un op y) t H (.ret r) H:=by
 intro wr oc hc;obtain⟨ty,x,rfl,hop⟩:=aiQ hc;refine cy λM S w a hx _=>?_;have hr:=hx x (by simp[hop,Op.operands]);unfold pq at h;split at h
 ·rename_i b e;rw[e]at hr;split at h
  ·rename_i ho;subst ho;simp only[Option.some.injEq,Prod.mk.injEq]at h;obtain⟨_,rfl⟩:=h;exact⟨_,by simp[execOp,hop,hr.bh,Op.unary],.data (.v _)⟩
  ·cases h
 ·rename_i k n e;rw[e]at hr;split at h
  ·rename_i ho;subst ho;simp only[Option.some.injEq,Prod.mk.injEq]at h;obtain⟨_,rfl⟩:=h;exact⟨_,by simp only[execOp,hop,hr.bh,Op.unary,Op.intArith,Sem.run_bind,Sem.run_pure,Result.andThen_ok],.data (.v _)⟩
  ·split at h
   ·rename_i ho;subst ho;simp only[Option.some.injEq,Prod.mk.injEq]at h;obtain⟨_,rfl⟩:=h;exact⟨_,by simp only[execOp,hop,hr.bh,Op.unary,Op.intBits,Sem.run_bind,Sem.run_pure,Result.andThen_ok],.data (.v _)⟩
   ·cases h
 ·cases h
theorem kx {op:BinOp} {ty:TypeId} {x y:Operand} {u v:Value} {w:World} (hu:∀cs,u≠.agg cs) (hn:u≠.nilIface):(eqGuard op ty x y u v).run P w=.ok () w:=by
 unfold eqGuard;cases u<;>first|exact absurd rfl hn|exact absurd rfl (hu _)|(cases op<;>rfl)
theorem toList_eq (s:ByteArray):s.toList=s.data.toList:=by
 exact ByteArray.toList_eq s
theorem ai2 {op wr' y z p r} (h:oA op wr' (od t y) (od t z)=some (p,r)) (hp:p):OS P (.bin op wr' y z) t H (.ret r) H:=by
 intro wr oc hc;obtain⟨ty,x,x',ty',rfl,rfl,hop,rfl⟩:=aik hc;refine cy λM S w a hx _=>?_;have hr1:=hx x (by simp[hop,Op.operands]);have hr2:=hx x' (by simp[hop,Op.operands]);unfold oA at h;split at h
 ·rename_i k m k' n e1 e2;rw[e1]at hr1;rw[e2]at hr2;have v1:=hr1.bh;have v2:=hr2.bh;have hg:∀(s:Sem Value),((do eqGuard op ty x x' (a.eval x) (a.eval x');s:Sem Value)).run P w=s.run P w:=λs=>by
   rw[v1,v2,Sem.run_bind,kx (λ_=>by simp) (by simp)];rfl
  have key:∀v,(binOp op ty (.int k m) (.int k' n)).run P w=.ok v w->(execOp a.eval oc).run P w=.ok (.value v) w:=λv hv=>by
   simp only[execOp,hop,Sem.run_bind];rw[v1,v2,kx (λ_=>by simp) (by simp)];simp only[Result.andThen_ok,hv];rfl
  split at h
  ·rename_i ho;unfold rz at h;rcases ho with rfl|rfl
   ·simp only[Option.some.injEq,Prod.mk.injEq]at h;obtain⟨rfl,rfl⟩:=h;refine⟨_,key _ ?_,.data (.v _)⟩;have:¬n<0:=by omega
    simp[binOp,Op.shift,this]
   ·simp only[Option.some.injEq,Prod.mk.injEq]at h;obtain⟨rfl,rfl⟩:=h;refine⟨_,key _ ?_,.data (.v _)⟩;have:¬n<0:=by omega
    simp[binOp,Op.shift,this]
  ·rename_i hns;split at h
   ·rename_i hk;subst hk;unfold iv at h;cases op<;>simp only[Option.some.injEq,Prod.mk.injEq,reduceCtorEq]at h
    case add=>
     split at h
     ·rename_i hk;obtain⟨rfl,_⟩:=hk;simp only[Prod.mk.injEq]at h;obtain⟨rfl,rfl⟩:=h;exact⟨.int .i64 (m+n),key _ (by simp only[binOp,Op.intArith,ne_eq,not_true,if_false,Sem.run_pure];rw[IntWalk.i64_in _ hp]),.data (.v _)⟩
     ·simp only[Prod.mk.injEq]at h;obtain⟨rfl,rfl⟩:=h;exact⟨_,key _ (by simp[binOp,Op.intArith]),.data (.v _)⟩
    case sub=>
     split at h
     ·rename_i hk;obtain⟨rfl,_⟩:=hk;simp only[Prod.mk.injEq]at h;obtain⟨rfl,rfl⟩:=h;exact⟨.int .i64 (m-n),key _ (by simp only[binOp,Op.intArith,ne_eq,not_true,if_false,Sem.run_pure];rw[IntWalk.i64_in _ hp]),.data (.v _)⟩
     ·simp only[Prod.mk.injEq]at h;obtain⟨rfl,rfl⟩:=h;exact⟨_,key _ (by simp[binOp,Op.intArith]),.data (.v _)⟩
    case mul=>
     split at h
     ·rename_i hk;obtain⟨rfl,_⟩:=hk;simp only[Prod.mk.injEq]at h;obtain⟨rfl,rfl⟩:=h;exact⟨.int .i64 (m*n),key _ (by simp only[binOp,Op.intArith,ne_eq,not_true,if_false,Sem.run_pure];rw[IntWalk.i64_in _ hp]),.data (.v _)⟩
     ·simp only[Prod.mk.injEq]at h;obtain⟨rfl,rfl⟩:=h;exact⟨_,key _ (by simp[binOp,Op.intArith]),.data (.v _)⟩
    case quo=>obtain⟨rfl,rfl⟩:=h;exact⟨_,key _ (by simp[binOp,Op.intDiv,hp]),.data (.v _)⟩
    case rem=>obtain⟨rfl,rfl⟩:=h;exact⟨_,key _ (by simp[binOp,Op.intDiv,hp]),.data (.v _)⟩
    all_goals (obtain⟨rfl,rfl⟩:=h;exact⟨_,key _ (by first|(simp[binOp,Op.intBits];done)|(simp[binOp,Op.intCmp];done)|(simp[binOp,Op.intBits];rfl)|(simp[binOp,Op.intCmp];rfl)),.data (.v _)⟩)
   ·cases h
 ·rename_i s1 s2 e1 e2;rw[e1]at hr1;rw[e2]at hr2;have v1:=hr1.bh;have v2:=hr2.bh;have key:∀v,(binOp op ty (.string s1) (.string s2)).run P w=.ok v w->(execOp a.eval oc).run P w=.ok (.value v) w:=λv hv=>by
   simp only[execOp,hop,Sem.run_bind];rw[v1,v2,kx (λ_=>by simp) (by simp)];simp only[Result.andThen_ok,hv];rfl
  have fX:∀op',binOp op' ty (.string s1) (.string s2)=Op.stringOp op' s1 s2:=λop'=>by cases op'<;>rfl
  unfold kV at h;cases op<;>simp only[Option.some.injEq,Prod.mk.injEq,reduceCtorEq]at h
  case add=>
   obtain⟨rfl,rfl⟩:=h;refine⟨.string (bs (s1.data.toList++s2.data.toList)),key _ ?_,.data (.v _)⟩;have hsz:¬(((s1.size+s2.size:Nat):Int)>IntKind.i64.max):=by
    have e1:s1.size=s1.data.toList.length:=by simp
    have e2:s2.size=s2.data.toList.length:=by simp
    rw[e1,e2,show IntKind.i64.max=9223372036854775807 from by decide];omega
   rw[fX,Op.stringOp,if_neg hsz,Sem.run_pure]
   first
    | rfl
    | (congr 2;apply ByteArray.ext;simp[bs])
    | (congr 2;done)
  all_goals (obtain⟨rfl,rfl⟩:=h;exact⟨_,key _ (by rw[fX];simp[Op.stringOp,toList_eq];done),.data (.v _)⟩)
 ·cases h
end
end
section
def AtB (cs:Array Value) (xs:List AV):Prop:=∀o z,xs.getD o .any=.v z->cs[o]?=some z
def valOf (P:Program) (t:TypeId) (cs:Array Value):Value:=if cG P t then .agg cs else cs.getD 0 undef
theorem O8 {P:Program} {t:TypeId} {d:TypeDesc} (h:P.underlying t=some d) (w:World):(isAgg t).run P w=.ok (cG P t) w:=by
 unfold isAgg cG;rw[Sem.run_bind,run_underlying h w,h];cases d<;>rfl
theorem ij {P:Program} {t:TypeId} {n:Nat} (h:bR P t=some n) (w:World):(sizeOf t).run P w=.ok n w:=by
 unfold bR at h;simp only[Option.map_eq_some_iff]at h;obtain⟨i,hi,rfl⟩:=h;simp[sizeOf,typeInfo,hi]
theorem p7 {P:Program} {t:TypeId} {d:TypeDesc} {m off:Nat} {cs:Array Value} (hd:P.underlying t=some d) (hm:bR P t=some m) (h0:cG P t=false->0<(cs.extract off (off+m)).size) (w:World):
 (part t cs off).run P w=.ok (valOf P t (cs.extract off (off+m))) w:=by
 unfold part valOf;rw[Sem.run_bind,O8 hd];cases h:cG P t with
 | true=>simp[ij hm]
 | false=>
   have this:=h0 h;have h2:off<cs.size:=by simp at this;omega
   have e:cs[off]?=some cs[off]:=Array.getElem?_eq_getElem h2;simp only[Result.andThen_ok,Bool.false_eq_true,if_false,e,Sem.run_pure];congr 1;simp only[Array.getD,this,dite_true];exact(by simp:(cs.extract off (off+m))[0]=cs[off]).symm
theorem NL {l1 l2:List (Nat×EK)} {xs ys:List AV} {b:Bool} (h:eO (l1++l2) xs ys=some b):∃b1 b2,eO l1 xs ys=some b1/\eO l2 xs ys=some b2/\b=(b1&&b2):=by
 induction l1 generalizing b with
 | nil=>exact⟨true,b,rfl,h,by simp⟩
 | cons x l1 ih=>
   obtain⟨o,k⟩:=x;simp only[List.cons_append,eO]at h ⊢;split at h
   ·rename_i b1 r h1 hr;cases h;obtain⟨b2,b3,h2,h3,rfl⟩:=ih hr;exact⟨b1&&b2,b3,by rw[h1,h2],h3,by simp[Bool.and_assoc]⟩
   ·cases h
theorem Ha {α:Type} {l:List α} {n i:Nat} {d:α}:(l.drop n).getD i d=l.getD (n+i) d:=by simp[List.getD]
theorem Gb {off:Nat} {xs ys:List AV}:∀ {l:List (Nat×EK)} {b:Bool},eO (l.map λx=>(off+x.1,x.2)) xs ys=some b->eO l (xs.drop off) (ys.drop off)=some b
 | [],_,h=>h
 | (o,k)::l,b,h=>by
   simp only[List.map_cons,eO,Ha]at h ⊢;split at h
   ·rename_i b1 r h1 hr;rw[h1,Gb hr];exact h
   ·cases h
theorem GD {m:Nat} {xs ys:List AV}:∀ {l:List (Nat×EK)},(∀x∈l,x.1<m)->eO l (xs.take m) (ys.take m)=eO l xs ys
 | [],_=>rfl
 | (o,k)::l,h=>by
   have ho:o<m:=h (o,k) (by simp);have e:∀z:List AV,(z.take m).getD o .any=z.getD o .any:=λz=>by simp[List.getD,List.getElem?_take_of_lt ho]
   simp only[eO,e,GD λx hx=>h x (List.mem_cons_of_mem _ hx)]
theorem ag1 {k:EK} {x y:AV} {b:Bool} (h:eq1 k x y=some b):∃u v,x=.v u/\y=.v v:=by
 unfold eq1 at h;split at h<;>first|exact⟨_,_,rfl,rfl⟩|cases h
theorem GE {P:Program}:∀(n:Nat) (t:TypeId) (ls:List (Nat×EK)),mO P n t=some ls->∀d,n<=d->
 ∀(cs ds:Array Value) (xs ys:List AV) (b:Bool) (w:World),AtB cs xs->AtB ds ys->eO ls xs ys=some b->
 (Op.equalIn d t (valOf P t cs) (valOf P t ds)).run P w=.ok b w/\(cG P t=false->0<cs.size/\0<ds.size)/\∃de,P.underlying t=some de
 | 0,_,_,h=>by cases h
 | n+1,t,ls,h=>by
   intro d hd cs ds xs ys b w hc hds he;obtain⟨d,rfl⟩:∃d',d=d'+1:=⟨d-1,by omega⟩
   unfold mO at h;have leaf:∀k,ls=[(0,k)]->cG P t=false->(∀u v,eq1 k (.v u) (.v v)=some b->(Op.equalIn (d+1) t u v).run P w=.ok b w)->
    (Op.equalIn (d+1) t (valOf P t cs) (valOf P t ds)).run P w=.ok b w/\(cG P t=false->0<cs.size/\0<ds.size):=by
    intro k hk hag hrun;subst hk;simp only[eO]at he;split at he
    ·rename_i b1 r h1 hr;cases hr;simp only[Bool.and_true,Option.some.injEq]at he;subst he;obtain⟨u,v,hu,hv⟩:=ag1 h1;rw[hu,hv]at h1;have c1:=hc 0 u hu;have c2:=hds 0 v hv;obtain⟨s1,e1⟩:=Array.getElem?_eq_some_iff.1 c1;obtain⟨s2,e2⟩:=Array.getElem?_eq_some_iff.1 c2;refine⟨?_,λ_=>⟨s1,s2⟩⟩;simp only[valOf,hag,Bool.false_eq_true,if_false,Array.getD,s1,s2,dite_true];rw[show cs.getInternal 0 s1=u from e1,show ds.getInternal 0 s2=v from e2];exact hrun u v h1
    ·cases he
   split at h
   ·rename_i k hu;cases h;obtain⟨h1,h2⟩:=leaf (.i k) rfl (by simp[cG,hu]) λu v h=>by
     unfold eq1 at h;split at h
     ·rename_i k1 a k2 b2 heq1 heq2 lB;cases heq1;cases heq2;cases lB;split at h
      ·rename_i hk;obtain⟨rfl,rfl⟩:=hk;cases h;exact run_equalIn_int w d t _ _ _ _ hu
      ·cases h
     all_goals (first|(rename_i heq1 heq2 lB;cases heq1;done)|cases h)
    exact⟨h1,h2,_,hu⟩
   ·rename_i hu;cases h;obtain⟨h1,h2⟩:=leaf .b rfl (by simp[cG,hu]) λu v h=>by
     unfold eq1 at h;split at h
     all_goals (first|(rename_i heq1 heq2 lB;cases heq1;done)|cases h)
     rename_i heq2 lB;cases heq2;cases lB;exact run_equalIn_bool' w d t _ _ hu
    exact⟨h1,h2,_,hu⟩
   ·rename_i hu;cases h;obtain⟨h1,h2⟩:=leaf .s rfl (by simp[cG,hu]) λu v h=>by
     unfold eq1 at h;split at h
     all_goals (first|(rename_i heq1 heq2 lB;cases heq1;done)|cases h)
     rename_i heq2 lB;cases heq2;cases lB;rw[run_equalIn_string w d t _ _ hu,toList_eq,toList_eq]
    exact⟨h1,h2,_,hu⟩
   ·rename_i fs hu;split at h
    ·cases h
    ·rename_i hst;have hag:cG P t=true:=by simp[cG,hu]
     have hfs:P.fieldsOf t=fs:=by simp[Program.fieldsOf,hu]
     refine⟨?_,λh=>(by rw[hag]at h;cases h),_,hu⟩;simp only[valOf,hag,if_true];rw[run_equalIn_agg w d t cs ds (by rw[hfs];exact hu) (by simpa using hst),hfs];generalize fs.toList=l at h;clear hfs hu hst leaf
     induction l generalizing ls b with
     | nil=>cases h;cases he;simp[Op.eqFields]
     | cons f l ih=>
       simp only[List.foldr_cons]at h;split at h
       ·rename_i r lf mf hr hlf hmf;split at h
        ·rename_i hcond;obtain⟨hname,hall⟩:=hcond;cases h;obtain⟨b1,b2,h1,h2,rfl⟩:=NL he;have hall':∀x∈lf,x.1<mf:=λx hx=>by
          have:=List.all_eq_true.1 hall x hx;simpa using this
         have h1':=Gb h1;rw[<- GD hall']at h1';have ext:∀(c:Array Value) (z:List AV),AtB c z->AtB (c.extract f.offset (f.offset+mf)) ((z.drop f.offset).take mf):=by
          intro c z hcz o u hu;have BW:o<mf:=by
           rcases Nat.lt_or_ge o mf with h|h
           ·exact h
           ·rw[show((z.drop f.offset).take mf).getD o AV.any=.any from by simp[List.getD,List.getElem?_take_eq_none h]]at hu;cases hu
          rw[show((z.drop f.offset).take mf).getD o AV.any=z.getD (f.offset+o) .any from by simp[List.getD,List.getElem?_take_of_lt BW]]at hu;have:=hcz (f.offset+o) u hu;obtain⟨hs,_⟩:=Array.getElem?_eq_some_iff.1 this;rw[Array.getElem?_extract];simp only[show o<min (f.offset+mf) c.size-f.offset by omega,if_true];exact this
         obtain⟨q1,q2,de,q3⟩:=GE n f.type lf hlf d (by omega) _ _ _ _ b1 w (ext cs xs hc) (ext ds ys hds) h1';simp only[Op.eqFields,hname,ne_eq,not_false_eq_true,if_true,Sem.run_bind];rw[p7 q3 hmf (λh=>(q2 h).1),Result.andThen_ok,p7 q3 hmf (λh=>(q2 h).2),Result.andThen_ok,q1,Result.andThen_ok];cases b1 with
         | false=>simp
         | true=>simp only[Bool.not_true,Bool.false_eq_true,if_false,Bool.true_and];exact ih r b2 h2 hr
        ·cases h
       ·cases h
   ·cases h
section
variable {P:Program} {t:List AV} {H:AH} {r:AV}
theorem kC {op:BinOp} {ne:Bool} (h:gL op=some ne) {ty:TypeId} {u v:Value} (hb:∀op':BinOp,(op'=.eql->binOp op' ty u v=(do pure (.bool (<- Op.equal ty u v))))/\(op'=.neq->binOp op' ty u v=(do pure (.bool (!(<- Op.equal ty u v))))))
 {b:Bool} {w:World} (he:(Op.equal ty u v).run P w=.ok b w):(binOp op ty u v).run P w=.ok (.bool (cL ne b)) w:=by
 unfold gL at h;split at h
 ·cases h;rw[(hb _).1 rfl];simp[he,cL]
 ·cases h;rw[(hb _).2 rfl];simp[he,cL]
 ·cases h
theorem ajb {ne ls y z p r} (h:uI ne ls (od t y) (od t z)=some (p,r)):OS P (.eqs ne ls y z) t H (.ret r) H:=by
 intro wr oc hc;obtain⟨op,ty,x,x',ty',fs,rfl,rfl,hop,hne,hu,hls,hgt⟩:=ais hc;refine cy λM S w a hx _=>?_;have hr1:=hx x (by simp[hop,Op.operands]);have hr2:=hx x' (by simp[hop,Op.operands]);unfold uI at h;split at h
 ·rename_i xs ys e1 e2;rw[e1]at hr1;rw[e2]at hr2;simp only[Option.map_eq_some_iff,Prod.mk.injEq]at h;obtain⟨b,hb,_,rfl⟩:=h;have agg:∀ {v:Value} {cs:List AV},am M S w v (.agg cs)->∃vs,v=.agg vs/\AtB vs cs:=by
   intro v cs hv;have key:∀vs:Array Value,vs.size=cs.length->(∀i,i<cs.length->am M S w (vs.getD i undef) (cs.getD i .any))->AtB vs cs:=λvs hn hall o u ho=>by
    have hlt:o<cs.length:=by
     rcases Nat.lt_or_ge o cs.length with h|h
     ·exact h
     ·rw[show cs.getD o AV.any=.any from by simp[List.getD,List.getElem?_eq_none h]]at ho;cases ho
    have:=hall o hlt;rw[ho]at this;have e:=this.bh;have hs:o<vs.size:=by omega
    simp only[Array.getD,hs,dite_true]at e;rw[Array.getElem?_eq_getElem hs];exact congrArg some e
   cases hv with
   | data h=>cases h with|agg vs _ hn hall=>exact⟨vs,rfl,key vs hn λi hi=>.data (hall i hi)⟩
   | agg vs _ hn hall=>exact⟨vs,rfl,key vs hn hall⟩
  obtain⟨v1,ev1,a1⟩:=agg hr1;obtain⟨v2,BM,a2⟩:=agg hr2;have hag:cG P ty=true:=by simp[cG,hu]
  obtain⟨q,_⟩:=GE 10 ty ls hls 10000 (by omega) v1 v2 xs ys b w a1 a2 hb;simp only[valOf,hag,if_true]at q;refine⟨.bool (cL ne b),?_,.data (.v _)⟩;have:=kC (P:=P) (w:=w) hne (ty:=ty) (u:=.agg v1) (v:=.agg v2) (λop'=>⟨λe=>by subst e;rfl,λe=>by subst e;rfl⟩) (b:=b) q;simp only[execOp,hop,Sem.run_bind,ev1,BM];rw[run_eqGuard_agg w op ty x x' v1 v2 hgt];simp only[Result.andThen_ok,this];rfl
 ·cases h
theorem ai8 {ne y z p r} (h:uH ne (od t y) (od t z)=some (p,r)):OS P (.lr ne y z) t H (.ret r) H:=by
 intro wr oc hc;obtain⟨op,ty,x,x',ty',rfl,rfl,hop,hne,hu⟩:=aip hc;refine cy λM S w a hx _=>?_;have hr1:=hx x (by simp[hop,Op.operands]);have hr2:=hx x' (by simp[hop,Op.operands]);unfold uH at h;split at h
 ·rename_i b1 b2 e1 e2;rw[e1]at hr1;rw[e2]at hr2;simp only[Option.some.injEq,Prod.mk.injEq]at h;obtain⟨_,rfl⟩:=h;refine⟨.bool (cL ne (b1==b2)),?_,.data (.v _)⟩;have:=kC (P:=P) (w:=w) hne (ty:=ty) (u:=.bool b1) (v:=.bool b2) (λop'=>⟨λe=>by subst e;rfl,λe=>by subst e;rfl⟩) (b:=b1==b2) (run_equalIn_bool' w 9999 ty b1 b2 hu);simp only[execOp,hop,Sem.run_bind,hr1.bh,hr2.bh];rw[kx (λ_=>by simp) (by simp)];simp only[Result.andThen_ok,this];rfl
 ·cases h
theorem acX {ty:TypeId} {ms w d} (hu:P.underlying ty=some (.interface ms)):(Op.equalIn (d+1) ty .nilIface .nilIface).run P w=.ok true w:=by simp[Op.equalIn,run_underlying hu]
theorem acV {ty:TypeId} {ms w d t1 u} (hu:P.underlying ty=some (.interface ms)):(Op.equalIn (d+1) ty (.iface t1 u) .nilIface).run P w=.ok false w:=by simp[Op.equalIn,run_underlying hu]
theorem acW {ty:TypeId} {ms w d t1 u} (hu:P.underlying ty=some (.interface ms)):(Op.equalIn (d+1) ty .nilIface (.iface t1 u)).run P w=.ok false w:=by simp[Op.equalIn,run_underlying hu]
theorem acY {ty:TypeId} {e w d} (hu:P.underlying ty=some (.pointer e)) (u:Option Addr):(Op.equalIn (d+1) ty (.pointer u) (.pointer none)).run P w=.ok u.isNone w:=by cases u<;>simp[Op.equalIn,run_underlying hu]
theorem acZ {ty:TypeId} {e w d} (hu:P.underlying ty=some (.pointer e)) (he:(bR P e).isSome=true) (u:Addr):(Op.equalIn (d+1) ty (.pointer (some u)) (.pointer (some u))).run P w=.ok true w:=by
 obtain⟨j,hj⟩:∃j,P.info? e=some j:=by
  unfold bR at he;cases h:P.info? e with
  | none=>rw[h]at he;cases he
  | some j=>exact⟨j,rfl⟩
 simp[Op.equalIn,run_underlying hu,sizeOf,typeInfo,hj,run_sameAddr_same]
theorem abS {op:BinOp} {ty:TypeId} {x x':Operand} {w:World} (h:(mX x||mX x')=true):(eqGuard op ty x x' .nilIface .nilIface).run P w=.ok () w:=by
 unfold eqGuard;cases x<;>cases x'<;>simp only[mX,Bool.or_self,Bool.or_true,Bool.or_false,Bool.false_eq_true]at h<;>cases op<;>rfl
theorem ai9 {ne c y z p r} (h:mP ne c (od t y) (od t z)=some (p,r)):OS P (.lu ne c y z) t H (.ret r) H:=by
 intro wr oc hc;obtain⟨op,ty,x,x',ty',ms,rfl,rfl,rfl,hop,hne,hu⟩:=aiq hc;refine cy λM S w a hx _=>?_;have hr1:=hx x (by simp[hop,Op.operands]);have hr2:=hx x' (by simp[hop,Op.operands]);have aG:∀ {v:Value} {ty a},am M S w v (.aG ty a)->∃u,v=.iface ty u:=λh=>by
  cases h with
  | data h=>cases h;exact⟨_,rfl⟩
  | aG _ _ _ _=>exact⟨_,rfl⟩
 unfold mP at h;split at h
 ·rename_i e1 e2;rw[e1]at hr1;rw[e2]at hr2;split at h
  ·rename_i UB;simp only[Option.some.injEq,Prod.mk.injEq]at h;obtain⟨_,rfl⟩:=h;refine⟨.bool (cL ne true),?_,.data (.v _)⟩;have:=kC (P:=P) (w:=w) hne (ty:=ty) (u:=.nilIface) (v:=.nilIface) (λop'=>⟨λe=>by subst e;rfl,λe=>by subst e;rfl⟩) (b:=true) (acX (d:=9999) hu);simp only[execOp,hop,Sem.run_bind,hr1.bh,hr2.bh];have hgd:=abS (P:=P) (w:=w) (op:=op) (ty:=ty) UB;rw[hgd];simp only[Result.andThen_ok,this];rfl
  ·cases h
 ·rename_i t1 a1 e1 e2;rw[e1]at hr1;rw[e2]at hr2;obtain⟨u,hv⟩:=aG hr1;simp only[Option.some.injEq,Prod.mk.injEq]at h;obtain⟨_,rfl⟩:=h;refine⟨.bool (cL ne false),?_,.data (.v _)⟩;have:=kC (P:=P) (w:=w) hne (ty:=ty) (u:=.iface t1 u) (v:=.nilIface) (λop'=>⟨λe=>by subst e;rfl,λe=>by subst e;rfl⟩) (b:=false) (acV (d:=9999) hu);simp only[execOp,hop,Sem.run_bind,hv,hr2.bh];rw[kx (λ_=>by simp) (by simp)];simp only[Result.andThen_ok,this];rfl
 ·rename_i t1 a1 e1 e2;rw[e1]at hr1;rw[e2]at hr2;obtain⟨u,hv⟩:=aG hr2;simp only[Option.some.injEq,Prod.mk.injEq]at h;obtain⟨_,rfl⟩:=h;refine⟨.bool (cL ne false),?_,.data (.v _)⟩;have:=kC (P:=P) (w:=w) hne (ty:=ty) (u:=.nilIface) (v:=.iface t1 u) (λop'=>⟨λe=>by subst e;rfl,λe=>by subst e;rfl⟩) (b:=false) (acW (d:=9999) hu);simp only[execOp,hop,Sem.run_bind,hv,hr1.bh];have hgd:(eqGuard op ty x x' .nilIface (.iface t1 u)).run P w=.ok () w:=by
   unfold eqGuard;cases op<;>rfl
  rw[hgd];simp only[Result.andThen_ok,this];rfl
 ·cases h
theorem aja {ne y z p r} (h:jX ne (od t y) (od t z)=some (p,r)):OS P (.lx ne y z) t H (.ret r) H:=by
 intro wr oc hc;obtain⟨op,ty,x,x',ty',el,rfl,rfl,hop,hne,hu,hel⟩:=air hc;refine cy λM S w a hx _=>?_;have hr1:=hx x (by simp[hop,Op.operands]);have hr2:=hx x' (by simp[hop,Op.operands]);have key:∀(u:Option Addr) (b:Bool),a.eval x=.pointer u->a.eval x'=.pointer none->b=u.isNone->∃v,(execOp a.eval oc).run P w=.ok (.value v) w/\am M S w v (.b (cL ne b)):=by
  intro u b h1 h2 hb;refine⟨.bool (cL ne b),?_,.data (.v _)⟩;have:=kC (P:=P) (w:=w) hne (ty:=ty) (u:=.pointer u) (v:=.pointer none) (λop'=>⟨λe=>by subst e;rfl,λe=>by subst e;rfl⟩) (b:=b) (by rw[hb];exact acY (d:=9999) hu u);simp only[execOp,hop,Sem.run_bind,h1,h2];rw[kx (λ_=>by simp) (by simp)];simp only[Result.andThen_ok,this];rfl
 unfold jX at h;split at h
 ·rename_i e1 e2;rw[e1]at hr1;rw[e2]at hr2;cases h;exact key none true hr1.bh hr2.bh rfl
 ·rename_i b1 o1 e1 e2;rw[e1]at hr1;rw[e2]at hr2;cases h;generalize hv:a.eval x=v at hr1;cases hr1 with
  | data h=>cases h
  | ptr _ _ hb=>exact key _ false hv hr2.bh rfl
 ·rename_i e1 e2;rw[e1]at hr1;rw[e2]at hr2;cases h;generalize hv:a.eval x=v at hr1;cases hr1 with
  | data h=>cases h
  | bz _ _ _ _ _ _ _ _ _=>exact key _ false hv hr2.bh rfl
 ·rename_i e1 e2;rw[e1]at hr1;rw[e2]at hr2;cases h;generalize hv:a.eval x=v at hr1;cases hr1 with
  | data h=>cases h;exact key _ false hv hr2.bh rfl
 ·rename_i b1 o1 b2 o2 e1 e2;split at h
  ·rename_i he;obtain⟨rfl,rfl⟩:=he;rw[e1]at hr1;rw[e2]at hr2;cases h;have key2:∀u v,a.eval x=.pointer (some u)->a.eval x'=.pointer (some v)->u=v->∃v,(execOp a.eval oc).run P w=.ok (.value v) w/\am M S w v (.b (cL ne true)):=by
    intro u v h1 h2 huv;subst huv;refine⟨.bool (cL ne true),?_,.data (.v _)⟩;have:=kC (P:=P) (w:=w) hne (ty:=ty) (u:=.pointer (some u)) (v:=.pointer (some u)) (λop'=>⟨λe=>by subst e;rfl,λe=>by subst e;rfl⟩) (b:=true) (acZ (d:=9999) hu hel u);simp only[execOp,hop,Sem.run_bind,h1,h2];rw[kx (λ_=>by simp) (by simp)];simp only[Result.andThen_ok,this];rfl
   generalize hv1:a.eval x=v1 at hr1;generalize hv2:a.eval x'=v2 at hr2;cases hr1 with
   | data h=>cases h
   | ptr _ _ hb=>
     cases hr2 with
     | data h=>cases h
     | ptr _ _ hb'=>exact key2 _ _ hv1 hv2 rfl
  ·cases h
 ·cases h
end
end
section
section
variable {P:Program} {t:List AV} {H:AH} {r:AV}
theorem AP {S w v k xs} (h:aO S w v (.sl k xs)):∃a c,v=.slice a xs.length c:=by
 cases h with
 | sl0 a cap k=>exact⟨_,_,rfl⟩
 | sl g o cap k xs c T fz hcap hS hg hb hk h1 h=>exact⟨_,_,rfl⟩
theorem ahL {S w v B n} (h:mC S w v B) (hl:gA B=some (True,.v (.int .i64 n))):∃a m c,v=.slice a m c/\(m:Int)=n:=by
 cases B with
 | dead=>cases hl
 | map q k xs=>cases hl
 | live k xs=>
   simp only[gA,Option.some.injEq,Prod.mk.injEq,AV.v.injEq,Value.int.injEq,true_and]at hl;rcases h with⟨⟨a,rfl⟩,rfl⟩|⟨g,cap,c,T,rfl,_⟩
   ·exact⟨a,0,0,rfl,by simpa using hl⟩
   ·exact⟨_,_,_,rfl,hl⟩
 | bf k xs=>
   simp only[gA,Option.some.injEq,Prod.mk.injEq,AV.v.injEq,Value.int.injEq,true_and]at hl;obtain⟨a,c,rfl⟩:=AP h;exact⟨_,_,_,rfl,hl⟩
theorem agG {B:Buf} {p r} (h:gA B=some (p,r)):∃n:Nat,p=True/\r=.i n:=by
 cases B with
 | dead=>cases h
 | map q k xs=>cases h
 | live k xs=>cases h;exact⟨_,rfl,rfl⟩
 | bf k xs=>cases h;exact⟨_,rfl,rfl⟩
theorem tU {o:Oper} {x:Operand} {ty:TypeId} (hop:o.op=.call { callee:=.builtin .len,args:=#[x],argTypes:=#[ty] }) {a:Act} {w:World} {v:Value} {n:Nat} (hv:a.eval x=v)
 (hn:(∃ad c e,v=.slice ad n c/\P.underlying ty=some (.slice e))\/∃s:ByteArray,v=.string s/\s.size=n/\P.underlying ty=some .string):(execOp a.eval o).run P w=.ok (.value (.int .i64 n)) w:=by
 rcases hn with⟨ad,c,e,rfl,hu⟩|⟨s,rfl,rfl,hu⟩
 ·simp[execOp,hop,resolve,invoke,builtin,Builtin.len_,hv,goInt,run_underlying hu]
 ·simp[execOp,hop,resolve,invoke,builtin,Builtin.len_,hv,goInt,run_underlying hu]
theorem ah0 {n}:OS P (.lE n) t H (.ret (.i n)) H:=by
 intro wr oc hc;obtain⟨x,args,ts,ty,e,rfl,rfl,hop,hu⟩:=agz hc;exact cy λM S w a hx hh=>⟨.int .i64 n,by simp[execOp,hop,resolve,invoke,builtin,Builtin.len_,goInt,run_underlying hu],.data (.v _)⟩
theorem ajD {st y p r} (h:lenV H st (od t y)=some (p,r)):OS P (.len st y) t H (.ret r) H:=by
 intro wr oc hc;obtain⟨x,args,ts,ty,rfl,rfl,rfl,hop,hty⟩:=aiv hc;refine cy λM S w a hx hh=>?_;have hr:=hx x (by simp[hop,Op.operands,Call.operands]);unfold lenV at h;split at h
 ·rename_i s e;rw[e]at hr;split at h
  ·rename_i hst;cases h;rcases hty with⟨_,hu⟩|⟨h,_⟩
   ·exact⟨_,tU hop hr.bh (.inr ⟨s,rfl,by simp,hu⟩),.data (.v _)⟩
   ·rw[hst]at h;cases h
  ·cases h
 ·rename_i k xs e;rw[e]at hr;split at h
  ·cases h
  ·rename_i hst;cases h;rcases hty with⟨h,_⟩|⟨_,e',hu⟩
   ·exact absurd h hst
   ·obtain⟨ad,c,hv⟩:=AP (dy hr rfl);exact⟨_,tU hop hv (.inl ⟨_,_,_,rfl,hu⟩),.data (.v _)⟩
 ·rename_i e;rw[e]at hr;split at h
  ·cases h
  ·rename_i hst;cases h;rcases hty with⟨h,_⟩|⟨_,e',hu⟩
   ·exact absurd h hst
   ·generalize hv:a.eval x=v at hr;cases dy hr rfl;exact⟨_,tU (n:=0) hop hv (.inl ⟨_,_,_,rfl,hu⟩),.data (.v _)⟩
 ·rename_i b o m k e;rw[e]at hr;split at h
  ·cases h
  ·rename_i hst;cases h;rcases hty with⟨h,_⟩|⟨_,e',hu⟩
   ·exact absurd h hst
   ·generalize hv:a.eval x=v at hr;cases hr with
    | data h=>cases h
    | cq b o n k cap hb=>exact⟨_,tU hop hv (.inl ⟨_,_,_,rfl,hu⟩),.data (.v _)⟩
 ·rename_i u e;rw[e]at hr;split at h
  ·cases h
  ·rename_i hst;rcases hty with⟨h',_⟩|⟨_,e',hu⟩
   ·exact absurd h' hst
   ·obtain⟨n,rfl,rfl⟩:=agG h;generalize hv:a.eval x=v at hr;cases hr with
    | data h=>cases h
    | own _ ht hs=>
      obtain⟨ad,m,c,he,hm⟩:=ahL (hh.buf u (by rw[<- hh.nt];exact ht)) h;have:m=n:=by omega
      subst this;exact⟨_,tU hop (hv.trans he) (.inl ⟨_,_,_,rfl,hu⟩),.data (.v _)⟩
 ·cases h
theorem WH {y z s k n b} (h1:od t y=.v (.string s)) (h2:od t z=.v (.int k n)) (hn:0<=n) (hb:s.data.toList[n.toNat]?=some b):OS P (.ix y z) t H (.ret (.v (.int .u8 b.toNat))) H:=by
 intro wr oc hc;obtain⟨ty,x,i,rfl,rfl,hop,hu⟩:=aiP hc;refine cy λM S w a hx hh=>?_;have hr1:=hx x (by simp[hop,Op.operands]);have hr2:=hx i (by simp[hop,Op.operands]);rw[h1]at hr1;rw[h2]at hr2;refine⟨_,?_,.data (.v _)⟩;have e:s[n.toNat]?=some b:=by
  obtain⟨hlt,he⟩:=List.getElem?_eq_some_iff.1 hb;have hs:n.toNat<s.size:=by simpa using hlt
  rw[getElem?_pos s n.toNat hs];exact congrArg some (by rw[<- he];simp[ByteArray.getElem_eq_getElem_data])
 simp[execOp,hop,Instr.index,hr1.bh,hr2.bh,asIntOf,run_underlying hu,hn,e]
theorem pJ {M S w} {vs:Array Value} {cs:List AV} (hn:vs.size=cs.length) (hall:∀i,i<cs.length->am M S w (vs.getD i undef) (cs.getD i .any)) {off n:Nat} (hb:off+n<=cs.length) {ag:Bool} (h1:ag=false->n=1):
 am M S w (if ag then .agg (vs.extract off (off+n))else vs.getD off undef) (mk ag ((cs.drop off).take n)):=by
 have hl:((cs.drop off).take n).length=n:=by simp;omega
 have hg:∀i,i<n->((cs.drop off).take n).getD i .any=cs.getD (off+i) .any:=λi hi=>by simp[List.getD,List.getElem?_take_of_lt hi]
 cases ag with
 | true=>
   simp only[if_true,mk];refine .agg _ _ (by simp[hl];omega) λi hi=>?_;rw[hl]at hi;rw[hg i hi];have:=hall (off+i) (by omega);have hs:off+i<vs.size:=by omega
   have hs':i<(vs.extract off (off+n)).size:=by simp;omega
   simp only[Array.getD,hs,hs',dite_true]at this ⊢;simpa using this
 | false=>
   have e:=h1 rfl;subst e;simp only[Bool.false_eq_true,if_false,mk];have h0:=hg 0 (by omega);have:((cs.drop off).take 1).headD .any=cs.getD off .any:=by
    rw[Nat.add_zero]at h0;rw[<- h0];cases (cs.drop off).take 1<;>rfl
   rw[this];exact hall off (by omega)
theorem n5 {M S w v cs} (h:am M S w v (.agg cs)):∃vs,v=.agg vs/\vs.size=cs.length/\∀i,i<cs.length->am M S w (vs.getD i undef) (cs.getD i .any):=by
 cases h with
 | data h=>cases h with|agg vs _ hn hall=>exact⟨vs,rfl,hn,λi hi=>.data (hall i hi)⟩
 | agg vs _ hn hall=>exact⟨vs,rfl,hn,hall⟩
end
end
section
theorem nY {P:Program} {t:TypeId} {n:Nat} {ag:Bool} (h:hO P t=some (n,ag)):(∃d,P.underlying t=some d)/\bR P t=some n/\ag=cG P t/\(ag=false->n=1):=by
 unfold hO at h;split at h
 ·rename_i d m hd hm;split at h
  ·rename_i hc;cases h;exact⟨⟨d,hd⟩,hm,rfl,λh=>hc.resolve_left (by rw[h];simp)⟩
  ·cases h
 ·cases h
theorem mi (g o n:Nat):(⟨g,o,none⟩:Addr).add n=⟨g,o+n,none⟩:=by unfold Addr.add;split<;>simp_all
section
variable {P:Program} {t:List AV} {H:AH} {r:AV}
theorem As {ty:TypeId} {n:Nat} {ag:Bool} (h:hO P ty=some (n,ag)) {w:World} {g o:Nat} {c:Array Value} {T fz} (hg:w.heap[g]?=some (.cells c T fz)) (hb:o+n<=c.size):
 (loadVar ty ⟨g,o,none⟩).run P w=.ok (if ag then .agg (c.extract o (o+n))else c.getD o undef) w:=by
 obtain⟨⟨d,hd⟩,hn,hag,h1⟩:=nY h;unfold loadVar;rw[Sem.run_bind,O8 hd,<- hag];have hcell:∀j,j<n->w.cell? ⟨g,o+j,none⟩=some (c.getD (o+j) undef):=λj hj=>by
  rw[cell_of_row w g (o+j) c T fz hg];have:o+j<c.size:=by omega
  simp[this]
 cases ag with
 | true=>
   have hl:=run_loadCells (P:=P) w ⟨g,o,none⟩ n (λj=>c.getD (o+j) undef) (λj hj=>by rw[mi];exact hcell j hj);simp only[Result.andThen_ok,if_true,Sem.run_bind,ij hn,hl,Sem.run_pure];congr 2;apply Array.ext
   ·simp;omega
   ·intro i h1 h2;have hi:i<n:=by simpa using h1
    have:o+i<c.size:=by omega
    simp[this]
 | false=>
   have e:=h1 rfl;subst e;have:=hcell 0 (by omega);simp only[Nat.add_zero]at this;simp[this]
theorem ajB {off n ag y cs} (h:od t y=.agg cs) (hb:off+n<=cs.length):OS P (.lA off n ag y) t H (.ret (mk ag ((cs.drop off).take n))) H:=by
 intro wr oc hc;obtain⟨s,x,f,fs,fl,rfl,hop,hu,hf,hl,rfl⟩:=aiu hc;refine cy λM S w a hx hh=>?_;have hr:=hx x (by simp[hop,Op.operands]);rw[h]at hr;obtain⟨vs,hv,hn,hall⟩:=n5 hr;obtain⟨⟨d,hd⟩,hsz,hag,h1⟩:=nY hl;refine⟨if ag then .agg (vs.extract fl.offset (fl.offset+n))else vs.getD fl.offset undef,?_,pJ hn hall hb h1⟩;have hp:=p7 hd hsz (cs:=vs) (off:=fl.offset) (λh=>by
  have e:=h1 (hag.trans h);subst e;simp;omega) w
 simp only[execOp,hop,Instr.field,Sem.run_bind,run_underlying hu,Result.andThen_ok,hf,hv,asAgg,Sem.run_pure,hp];congr 2;unfold valOf;rw[<- hag];cases ag with
 | true=>rfl
 | false=>
   have e:=h1 rfl;subst e;simp only[Bool.false_eq_true,if_false];have hs:fl.offset<vs.size:=by omega
   have hs':0<(vs.extract fl.offset (fl.offset+1)).size:=by simp;omega
   simp only[Array.getD,hs,hs',dite_true];exact(by simp:(vs.extract fl.offset (fl.offset+1))[0]=vs[fl.offset])
theorem GU {s:TypeId} {f:Nat} {fs:Array Field} {fl:Field} {n:Nat} (hu:P.underlying s=some (.struct fs)) (hf:fs[f]?=some fl) (hn:bR P fl.type=some n) (h0:n≠0) {g o:Nat} {w:World}:
 (Instr.fieldAt s (.pointer (some ⟨g,o,none⟩)) f).run P w=.ok (.pointer (some ⟨g,o+fl.offset,none⟩)) w:=by
 simp[Instr.fieldAt,run_underlying hu,hf,Instr.sureAddr,fieldPlace,ij hn,h0,mi]
theorem afy {off y b o} (h:od t y=.ptr b o):OS P (.fa off y) t H (.ret (.ptr b (o+off))) H:=by
 intro wr oc hc;obtain⟨s,x,f,fs,fl,n,rfl,hop,hu,hf,hn,h0,rfl⟩:=Il hc;refine cy λM S w a hx hh=>?_;have hr:=hx x (by simp[hop,Op.operands]);rw[h]at hr;generalize hv:a.eval x=v at hr;cases hr with
 | data h=>cases h
 | ptr _ _ hb=>exact⟨_,by simp only[execOp,hop,hv,Sem.run_bind,GU hu hf hn h0,Result.andThen_ok,Sem.run_pure],.ptr b _ hb⟩
theorem ae8 {off y u k i o} (h:od t y=.bz u k i o):OS P (.fa off y) t H (.ret (.bz u k i (o+off))) H:=by
 intro wr oc hc;obtain⟨s,x,f,fs,fl,n,rfl,hop,hu,hf,hn,h0,rfl⟩:=Il hc;refine cy λM S w a hx hh=>?_;have hr:=hx x (by simp[hop,Op.operands]);rw[h]at hr;generalize hv:a.eval x=v at hr;cases hr with
 | data h=>cases h
 | bz _ _ _ _ g n' cap ht hbv=>
   exact⟨_,by simp only[execOp,hop,hv,Sem.run_bind,GU hu hf hn h0,Result.andThen_ok,Sem.run_pure,Nat.add_assoc],.bz u k i _ g n' cap ht hbv⟩
theorem Al {M S w v cs} (h:am M S w v (.aZ cs)):∃g o c T fz,v=.pointer (some ⟨g,o,none⟩)/\S g/\w.heap[g]?=some (.cells c T fz)/\o+cs.length<=c.size/\(∀j,j<cs.length->(cs.getD j .any).one=true)/\∀j,j<cs.length->aO S w (c.getD (o+j) undef) (cs.getD j .any):=by
 cases dy h rfl with
 | aZ g o cs c T fz hS hg hb h1 h=>exact⟨g,o,c,T,fz,rfl,hS,hg,hb,h1,h⟩
theorem Ph {M S w} {g o:Nat} {c:Array Value} {T fz} {cs:List AV} (hS:S g) (hg:w.heap[g]?=some (.cells c T fz)) (hb:o+cs.length<=c.size) (h1:∀j,j<cs.length->(cs.getD j .any).one=true)
 (h:∀j,j<cs.length->aO S w (c.getD (o+j) undef) (cs.getD j .any)) {n:Nat} (hn:n<=cs.length):am M S w (.pointer (some ⟨g,o+n,none⟩)) (.aZ (cs.drop n)):=by
 refine .data (.aZ g (o+n) _ c T fz hS hg (by simp;omega) (λj hj=>?_) λj hj=>?_)
 ·simp at hj;rw[Ha];exact h1 _ (by omega)
 ·simp at hj;rw[Ha,Nat.add_assoc];exact h _ (by omega)
theorem ae7 {off y cs} (h:od t y=.aZ cs) (ho:off<=cs.length):OS P (.fa off y) t H (.ret (.aZ (cs.drop off))) H:=by
 intro wr oc hc;obtain⟨s,x,f,fs,fl,n,rfl,hop,hu,hf,hn,h0,rfl⟩:=Il hc;refine cy λM S w a hx hh=>?_;have hr:=hx x (by simp[hop,Op.operands]);rw[h]at hr;obtain⟨g,o,c,T,fz,hv,hS,hg,hb,h1,hd⟩:=Al hr;exact⟨_,by simp only[execOp,hop,hv,Sem.run_bind,GU hu hf hn h0,Result.andThen_ok,Sem.run_pure],Ph hS hg hb h1 hd ho⟩
theorem Pu {n ag y b o} (h:od t y=.ptr b o) (hb:o+n<=(H.box.getD b []).length):OS P (.ld n ag y) t H (.ret (mk ag (((H.box.getD b []).drop o).take n))) H:=by
 intro wr oc hc;obtain⟨ty,x,rfl,hop,hl⟩:=Im hc;obtain⟨_,_,_,h1⟩:=nY hl;refine cy λM S w a hx hh=>?_;have hr:=hx x (by simp[hop,Op.operands]);rw[h]at hr;generalize hv:a.eval x=v at hr;cases hr with
 | data h=>cases h
 | ptr _ _ hbb=>
   obtain⟨_,c,T,hg,hcs,hall⟩:=hh.box b (by rw[<- hh.nb];exact hbb);refine⟨_,?_,pJ hcs (λi hi=>(hall i hi).2) hb h1⟩;simp only[execOp,hop,hv,Instr.loadAt,Instr.sureAddr,Sem.run_bind,Sem.run_pure,Result.andThen_ok];rw[As hl hg (by rw[hcs];exact hb)];rfl
theorem afc {n ag y cs} (h:od t y=.aZ cs) (hn:n<=cs.length):OS P (.ld n ag y) t H (.ret (mk ag (cs.take n))) H:=by
 intro wr oc hc;obtain⟨ty,x,rfl,hop,hl⟩:=Im hc;obtain⟨_,_,_,h1⟩:=nY hl;refine cy λM S w a hx hh=>?_;have hr:=hx x (by simp[hop,Op.operands]);rw[h]at hr;obtain⟨g,o,c,T,fz,hv,hS,hg,hb,h1',hd⟩:=Al hr;have hrep:am M S w (if ag then .agg ((c.extract o (o+cs.length)).extract 0 (0+n))else(c.extract o (o+cs.length)).getD 0 undef) (mk ag ((cs.drop 0).take n)):=
  pJ (vs:=c.extract o (o+cs.length)) (by simp;omega) (λi hi=>by
   have:i<(c.extract o (o+cs.length)).size:=by simp;omega
   have h2:o+i<c.size:=by omega
   have:=hd i hi;simp only[Array.getD,h2,dite_true]at this;simp only[Array.getD,‹i<(c.extract o (o+cs.length)).size›,dite_true];exact .data (by simpa using this)) (by omega) h1
 refine⟨if ag then .agg (c.extract o (o+n))else c.getD o undef,?_,?_⟩
 ·simp only[execOp,hop,hv,Instr.loadAt,Instr.sureAddr,Sem.run_bind,Sem.run_pure,Result.andThen_ok];rw[As hl hg (by omega)];rfl
 ·rw[List.drop_zero]at hrep;cases ag with
  | true=>
    simp only[if_true]at hrep ⊢;have e:(c.extract o (o+cs.length)).extract 0 (0+n)=c.extract o (o+n):=by rw[Array.extract_extract];congr 1;omega
    rwa [e]at hrep
  | false=>
    simp only[Bool.false_eq_true,if_false]at hrep ⊢;have e:=h1 rfl;subst e;have hs:o<c.size:=by omega
    have hs':0<(c.extract o (o+cs.length)).size:=by simp;omega
    simp only[Array.getD,hs,hs',dite_true]at hrep ⊢;have e2:(c.extract o (o+cs.length)).getInternal 0 hs'=c.getInternal o hs:=(by simp:(c.extract o (o+cs.length))[0]=c[o])
    rwa [e2]at hrep
theorem O7 {S:Nat->Prop} {w:World} {k cap:Nat} {xs:List AV} {c:Array Value} (hr:Row S w k xs cap c) {i:Nat} (hi:i<xs.length) {e:AV} (he:xs[i]?=some e):e.cells.length=k/\i*k+k<=c.size/\(∀j,j<k->(e.cells.getD j .any).one=true)/\∀j,j<k->aO S w (c.getD (i*k+j) undef) (e.cells.getD j .any):=by
 have e1:xs.getD i .any=e:=by simp[List.getD,he]
 refine⟨by rw[<- e1];exact hr.len i hi,?_,λj hj=>by rw[<- e1];exact hr.one i hi j hj,λj hj=>by rw[<- e1];exact hr.rep i hi j hj⟩;rw[hr.size];have:=hr.fits
 calc i*k+k=(i+1)*k:=by rw[Nat.add_mul,Nat.one_mul]
  _<=cap*k:=Nat.mul_le_mul_right _ (by omega)
theorem Hs {S w v k xs} (h:aO S w v (.sl k xs)) {i:Nat} {e:AV} (he:xs[i]?=some e):∃g o c T fz cap,v=.slice (some ⟨g,o,none⟩) xs.length cap/\S g/\w.heap[g]?=some (.cells c T fz)/\o+i*k+e.cells.length<=c.size/\e.cells.length=k/\
 (∀j,j<k->(e.cells.getD j .any).one=true)/\∀j,j<k->aO S w (c.getD (o+i*k+j) undef) (e.cells.getD j .any):=by
 have hi:i<xs.length:=(List.getElem?_eq_some_iff.1 he).1;cases h with
 | sl0 a cap k=>simp at hi
 | sl g o cap k xs c T fz hcap hS hg hb hk h1 h=>
   have e1:xs.getD i .any=e:=by simp[List.getD,he]
   have hl:e.cells.length=k:=by rw[<- e1];exact hk i hi
   refine⟨g,o,c,T,fz,cap,rfl,hS,hg,?_,hl,λj hj=>by rw[<- e1];exact h1 i hi j hj,λj hj=>by rw[<- e1];exact h i hi j hj⟩;rw[hl];have:i*k+k<=xs.length*k:=by
    calc i*k+k=(i+1)*k:=by rw[Nat.add_mul,Nat.one_mul]
     _<=xs.length*k:=Nat.mul_le_mul_right _ (by omega)
   omega
theorem xW {ty e:TypeId} {k:Nat} (hu:P.underlying ty=some (.slice e)) (hk:bR P e=some k) {g o n cap:Nat} {ik:IntKind} {i:Int} (h0:0<=i) (h1:i<n) {w:World}:
 (Instr.indexAt ty (.slice (some ⟨g,o,none⟩) n cap) (.int ik i)).run P w=.ok (.pointer (some ⟨g,o+i.toNat*k,none⟩)) w:=by
 simp[Instr.indexAt,asIntOf,run_underlying hu,h0,h1,ij hk,mi]
theorem agN {k y z xs ik n e} (h1:od t y=.sl k xs) (h2:od t z=.v (.int ik n)) (h0:0<=n) (hn:n<(xs.length:Int)) (he:xs[n.toNat]?=some e):OS P (.ia k y z) t H (.ret (.aZ e.cells)) H:=by
 intro wr oc hc;obtain⟨ty,x,i,el,rfl,rfl,hop,hu,hk⟩:=AK hc;refine cy λM S w a hx hh=>?_;have hr1:=hx x (by simp[hop,Op.operands]);have hr2:=hx i (by simp[hop,Op.operands]);rw[h1]at hr1;rw[h2]at hr2;obtain⟨g,o,c,T,fz,cap,hv,hS,hg,hb,hl,ho,hd⟩:=Hs (dy hr1 rfl) he;refine⟨.pointer (some ⟨g,o+n.toNat*k,none⟩),?_,.data (.aZ g _ _ c T fz hS hg hb (λj hj=>ho j (by omega)) λj hj=>hd j (by omega))⟩;simp only[execOp,hop,hv,hr2.bh,Sem.run_bind,xW hu hk h0 hn,Result.andThen_ok,Sem.run_pure]
theorem ae9 {k y z u xs ik n e} (h1:od t y=.own u) (hb:H.buf.getD u .dead=.bf k xs) (h2:od t z=.v (.int ik n)) (h0:0<=n) (hn:n<(xs.length:Int)) (he:xs[n.toNat]?=some e):OS P (.ia k y z) t H (.ret (.aZ e.cells)) H:=by
 intro wr oc hc;obtain⟨ty,x,i,el,rfl,rfl,hop,hu,hk⟩:=AK hc;refine cy λM S w a hx hh=>?_;have hr1:=hx x (by simp[hop,Op.operands]);have hr2:=hx i (by simp[hop,Op.operands]);rw[h1]at hr1;rw[h2]at hr2;have hd:=tB hh hr1;simp only[gO,hb,qQ]at hd;obtain⟨g,o,c,T,fz,cap,hv,hS,hg,hb,hl,ho,hd⟩:=Hs (dy hd rfl) he;refine⟨.pointer (some ⟨g,o+n.toNat*k,none⟩),?_,.data (.aZ g _ _ c T fz hS hg hb (λj hj=>ho j (by omega)) λj hj=>hd j (by omega))⟩;simp only[execOp,hop,hv,hr2.bh,Sem.run_bind,xW hu hk h0 hn,Result.andThen_ok,Sem.run_pure]
theorem HE {S w v k xs} (h:b9 S w v k xs) (hn:0<xs.length):∃g cap c T,v=.slice (some ⟨g,0,none⟩) xs.length (cap+1)/\¬S g/\w.heap[g]?=some (.cells c T (0,0))/\Row S w k xs (cap+1) c:=by
 rcases h with⟨_,rfl⟩|h
 ·simp at hn
 ·exact h
theorem afa {k y z u xs ik n} (h1:od t y=.own u) (hb:H.buf.getD u .dead=.live k xs) (h2:od t z=.v (.int ik n)) (h0:0<=n) (hn:n<(xs.length:Int)):OS P (.ia k y z) t H (.ret (.bz u k n.toNat 0)) H:=by
 intro wr oc hc;obtain⟨ty,x,i,el,rfl,rfl,hop,hu,hk⟩:=AK hc;refine cy λM S w a hx hh=>?_;have hr1:=hx x (by simp[hop,Op.operands]);have hr2:=hx i (by simp[hop,Op.operands]);rw[h1]at hr1;rw[h2]at hr2;generalize hv:a.eval x=v at hr1;cases hr1 with
 | data h=>cases h
 | own _ ht hs=>
   have hbf:=hh.buf u (by rw[<- hh.nt];exact ht);rw[hb]at hbf;obtain⟨g,cap,c,T,hbv,_,_,_⟩:=HE hbf (by omega);refine⟨_,?_,.bz u k n.toNat 0 g xs.length (cap+1) ht hbv⟩;simp only[execOp,hop,hv,hbv,hr2.bh,Sem.run_bind,xW hu hk h0 hn,Result.andThen_ok,Sem.run_pure,Nat.zero_add,Nat.add_zero]
theorem afz {k y z b o m ik n} (h1:od t y=.cq b o m k) (h2:od t z=.v (.int ik n)) (h0:0<=n) (hn:n<(m:Int)):OS P (.ia k y z) t H (.ret (.ptr b (o+n.toNat*k))) H:=by
 intro wr oc hc;obtain⟨ty,x,i,el,rfl,rfl,hop,hu,hk⟩:=AK hc;refine cy λM S w a hx hh=>?_;have hr1:=hx x (by simp[hop,Op.operands]);have hr2:=hx i (by simp[hop,Op.operands]);rw[h1]at hr1;rw[h2]at hr2;generalize hv:a.eval x=v at hr1;cases hr1 with
 | data h=>cases h
 | cq _ _ _ _ cap hb=>
   exact⟨_,by simp only[execOp,hop,hv,hr2.bh,Sem.run_bind,xW hu hk h0 hn,Result.andThen_ok,Sem.run_pure],.ptr b _ hb⟩
theorem Nc {ty e:TypeId} {m k:Nat} (hu:P.underlying ty=some (.array m e)) (hk:bR P e=some k) {g o:Nat} {ik:IntKind} {i:Int} (h0:0<=i) (h1:i<m) {w:World}:
 (Instr.indexAt ty (.pointer (some ⟨g,o,none⟩)) (.int ik i)).run P w=.ok (.pointer (some ⟨g,o+i.toNat*k,none⟩)) w:=by
 simp[Instr.indexAt,asIntOf,Instr.sureAddr,run_underlying hu,h0,h1,ij hk,mi]
theorem afb {m k:Nat} {y z b o ik n} (h1:od t y=.ptr b o) (h2:od t z=.v (.int ik n)) (h0:0<=n) (hn:n<(m:Int)):OS P (.jt m k y z) t H (.ret (.ptr b (o+n.toNat*k))) H:=by
 intro wr oc hc;obtain⟨ty,x,i,el,rfl,rfl,hop,hu,hk⟩:=QZ hc;refine cy λM S w a hx hh=>?_;have hr1:=hx x (by simp[hop,Op.operands]);have hr2:=hx i (by simp[hop,Op.operands]);rw[h1]at hr1;rw[h2]at hr2;generalize hv:a.eval x=v at hr1;cases hr1 with
 | data h=>cases h
 | ptr _ _ hb=>
   exact⟨_,by simp only[execOp,hop,hv,hr2.bh,Sem.run_bind,Nc hu hk h0 hn,Result.andThen_ok,Sem.run_pure],.ptr b _ hb⟩
theorem OC {m k:Nat} {y z cs ik n} (h1:od t y=.aZ cs) (h2:od t z=.v (.int ik n)) (h0:0<=n) (hn:n<(m:Int)) (hle:n.toNat*k<=cs.length):OS P (.jt m k y z) t H (.ret (.aZ (cs.drop (n.toNat*k)))) H:=by
 intro wr oc hc;obtain⟨ty,x,i,el,rfl,rfl,hop,hu,hk⟩:=QZ hc;refine cy λM S w a hx hh=>?_;have hr1:=hx x (by simp[hop,Op.operands]);have hr2:=hx i (by simp[hop,Op.operands]);rw[h1]at hr1;rw[h2]at hr2;obtain⟨g,o,c,T,fz,hv,hS,hg,hb,h1',hd⟩:=Al hr1;exact⟨_,by simp only[execOp,hop,hv,hr2.bh,Sem.run_bind,Nc hu hk h0 hn,Result.andThen_ok,Sem.run_pure],Ph hS hg hb h1' hd hle⟩
theorem OQ {n ag y u k i o xs e} (h:od t y=.bz u k i o) (hb:H.buf.getD u .dead=.live k xs\/H.buf.getD u .dead=.bf k xs) (hn:o+n<=k) (he:xs[i]?=some e):
 OS P (.ld n ag y) t H (.ret (mk ag ((e.cells.drop o).take n))) H:=by
 intro wr oc hc;obtain⟨ty,x,rfl,hop,hl⟩:=Im hc;obtain⟨_,_,_,h1⟩:=nY hl;refine cy λM S w a hx hh=>?_;have hr:=hx x (by simp[hop,Op.operands]);rw[h]at hr;have hi:i<xs.length:=(List.getElem?_eq_some_iff.1 he).1;generalize hv:a.eval x=v at hr;cases hr with
 | data h=>cases h
 | bz _ _ _ _ g n' cap ht hbv=>
   have hbf:=hh.buf u (by rw[<- hh.nt];exact ht);obtain⟨c,T,fz,hg,hl',hsz,hd⟩:∃c T fz,w.heap[g]?=some (.cells c T fz)/\e.cells.length=k/\i*k+k<=c.size/\∀j,j<k->aO S w (c.getD (i*k+j) undef) (e.cells.getD j .any):=by
    rcases hb with hb|hb
    ·rw[hb]at hbf;obtain⟨g',cap',c,T,hbv',_,hg,hrow⟩:=HE hbf (by omega);rw[hbv]at hbv';cases hbv';obtain⟨q1,q2,_,q4⟩:=O7 hrow hi he;exact⟨c,T,_,hg,q1,q2,q4⟩
    ·rw[hb]at hbf;obtain⟨g',o',c,T,fz,cap',hbv',_,hg,hsz,hl',_,hd⟩:=Hs hbf he;rw[hbv]at hbv';cases hbv';exact⟨c,T,fz,hg,hl',by omega,λj hj=>by have:=hd j hj;rwa [Nat.zero_add]at this⟩
   have hex:∀j,j<k->(c.extract (i*k) (i*k+k)).getD j undef=c.getD (i*k+j) undef:=λj hj=>by
    have q1:j<(c.extract (i*k) (i*k+k)).size:=by simp;omega
    have q2:i*k+j<c.size:=by omega
    simp only[Array.getD,q1,q2,dite_true];exact(by simp:(c.extract (i*k) (i*k+k))[j]=c[i*k+j])
   have hrep:=pJ (M:=M) (S:=S) (w:=w) (vs:=c.extract (i*k) (i*k+k)) (cs:=e.cells) (by simp;omega) (λj hj=>by rw[hl']at hj;rw[hex j hj];exact .data (hd j hj)) (off:=o) (n:=n) (by omega) (ag:=ag) h1;refine⟨if ag then .agg (c.extract (i*k+o) (i*k+o+n))else c.getD (i*k+o) undef,?_,?_⟩
   ·simp only[execOp,hop,hv,Instr.loadAt,Instr.sureAddr,Sem.run_bind,Sem.run_pure,Result.andThen_ok];rw[As hl hg (by omega)];rfl
   ·cases ag with
    | true=>
      simp only[if_true]at hrep ⊢;rw[Array.extract_extract]at hrep;have e2:min (i*k+(o+n)) (i*k+k)=i*k+o+n:=by omega
      rwa [e2]at hrep
    | false=>
      have e1:=h1 rfl;simp only[Bool.false_eq_true,if_false]at hrep ⊢
      rwa [hex o (by omega)]at hrep
end
end
section
theorem fP {α:Type} (l:Array α) (x:α):(l.push x)[l.size]?=some x:=by simp
section
variable {P:Program} {t:List AV} {H H':AH} {r:AV}
theorem Oo {v:Value}:(∀vs,v≠.agg vs)->v.cells=#[v]:=λh=>by cases v<;>first|rfl|exact absurd rfl (h _)
theorem ai3 {y} (h1:ones (od t y).cells=true):OS P (.box y) t H (.ret (.ptr H.box.length 0)) ⟨H.box++[(od t y).cells],H.buf⟩:=by
 intro wr oc hc;obtain⟨x,ty,rfl,hop⟩:=ail hc;refine jJ λM S w a hx hh=>?_;have hr:=hx x (by simp[hop,Op.operands]);obtain⟨hn,hall⟩:=mc hr h1;have hg:=Grew.alloc w (.cells (a.eval x).cells ty);have hnew:(w.alloc (.cells (a.eval x).cells ty)).heap[w.heap.size]?=some (.cells (a.eval x).cells ty (0,0)):=fP _ _;refine⟨.pointer (some ⟨w.heap.size,0,none⟩),w.alloc (.cells (a.eval x).cells ty),M.bB w.heap.size,S,?_,hh.bB hg (Nat.le_refl _) hnew hn h1 hall,?_,aU.bB hh hg (Nat.le_refl _)⟩
 ·simp[execOp,hop,Instr.box,newVar,newRow]
 ·have e:(M.bB w.heap.size).box H.box.length=w.heap.size:=by rw[<- hh.nb];simp[Maps.bB]
  have:=am.ptr (M:=M.bB w.heap.size) (S:=S) (w:=w.alloc (.cells (a.eval x).cells ty)) H.box.length 0 (by simp[Maps.bB,hh.nb])
  rwa [e]at this
theorem G0 {ty:TypeId} {zs:List AV} (h:gM P ty=some zs):∃i z,P.info? ty=some i/\i.zero=some z/\zs=(fB z).cells:=by
 unfold gM at h;split at h
 ·rename_i i hi;split at h
  ·rename_i z hz;cases h;exact⟨i,z,hi,hz,rfl⟩
  ·cases h
 ·cases h
theorem ml {ty:TypeId} {i:TypeInfo} {z:Value} (hi:P.info? ty=some i) (hz:i.zero=some z) (w:World):(zeroValue ty).run P w=.ok z w:=by
 simp[zeroValue,typeInfo,hi,hz]
theorem GZ (M:Maps) (S:Nat->Prop) (w:World) {z:Value} (h1:ones (fB z).cells=true):
 z.cells.size=(fB z).cells.length/\∀i,i<(fB z).cells.length->am M S w (z.cells.getD i undef) ((fB z).cells.getD i .any):=
 mc (.data (pY S w z)) h1
theorem agL {zs} (h1:ones zs=true):OS P (.alloc zs) t H (.ret (.ptr H.box.length 0)) ⟨H.box++[zs],H.buf⟩:=by
 intro wr oc hc;obtain⟨ty,i,z,hop,hi,hz,rfl⟩:=Pn hc;refine jJ λM S w a hx hh=>?_;obtain⟨hn,hall⟩:=GZ M S w h1;have hg:=Grew.alloc w (.cells z.cells ty);refine⟨.pointer (some ⟨w.heap.size,0,none⟩),w.alloc (.cells z.cells ty),M.bB w.heap.size,S,?_,hh.bB hg (Nat.le_refl _) (fP _ _) hn h1 hall,?_,aU.bB hh hg (Nat.le_refl _)⟩
 ·simp[execOp,hop,Instr.alloc,newVar,newRow,ml hi hz]
 ·have e:(M.bB w.heap.size).box H.box.length=w.heap.size:=by rw[<- hh.nb];simp[Maps.bB]
  have:=am.ptr (M:=M.bB w.heap.size) (S:=S) (w:=w.alloc (.cells z.cells ty)) H.box.length 0 (by simp[Maps.bB,hh.nb])
  rwa [e]at this
theorem nQ (cs:List AV) (o:Nat) (ys:List AV):(putCells cs o ys).length=cs.length:=by
 induction ys generalizing cs o with
 | nil=>rfl
 | cons y ys ih=>simp[putCells,ih]
theorem pH (ys:List AV):∀(cs:List AV) (o i:Nat),o+ys.length<=cs.length->(putCells cs o ys).getD i .any=if o<=i/\i<o+ys.length then ys.getD (i-o) .any else cs.getD i .any:=by
 induction ys with
 | nil=>intro cs o i _;simp[putCells];intro h1 h2;omega
 | cons y ys ih=>
   intro cs o i h;simp only[List.length_cons]at h;simp only[putCells,List.length_cons];rw[ih (cs.set o y) (o+1) i (by simp;omega)];by_cases e:i=o
   ·subst e;rw[if_neg (by omega),if_pos (by omega),eK (by omega)];simp[List.getD]
   ·rw[getD_set_ne' (Ne.symm e)];by_cases h2:o+1<=i/\i<o+1+ys.length
    ·rw[if_pos h2,if_pos (by omega)];have:i-o=(i-(o+1))+1:=by omega
     rw[this];simp[List.getD]
    ·rw[if_neg h2,if_neg (by omega)]
theorem af6 (vs:List Value):∀(n:Nat) (cs:Array Value) (off:Nat),((vs.zipIdx n).foldl (λcs (x:Value×Nat)=>cs.setIfInBounds (off+x.2) x.1) cs).size=cs.size/\
 ∀i,((vs.zipIdx n).foldl (λcs (x:Value×Nat)=>cs.setIfInBounds (off+x.2) x.1) cs).getD i undef=if off+n<=i/\i<off+n+vs.length/\i<cs.size then vs.getD (i-(off+n)) undef else cs.getD i undef:=by
 induction vs with
 | nil=>intro n cs off;exact⟨rfl,λi=>by rw[if_neg (by simp;omega)];rfl⟩
 | cons v vs ih=>
   intro n cs off;simp only[List.zipIdx_cons,List.foldl_cons];obtain⟨h1,h2⟩:=ih (n+1) (cs.setIfInBounds (off+n) v) off;refine⟨by rw[h1];simp,λi=>?_⟩;rw[h2 i];simp only[Array.size_setIfInBounds,List.length_cons];have hget:(cs.setIfInBounds (off+n) v).getD i undef=if off+n=i/\i<cs.size then v else cs.getD i undef:=by
    by_cases hi:i<cs.size
    ·by_cases e:off+n=i
     ·subst e;simp[Array.getD,hi]
     ·simp[Array.getD,hi,e]
    ·simp[Array.getD,hi]
   by_cases h3:off+(n+1)<=i/\i<off+(n+1)+vs.length/\i<cs.size
   ·rw[if_pos h3,if_pos (by omega)];have:i-(off+n)=(i-(off+(n+1)))+1:=by omega
    rw[this];simp[List.getD]
   ·rw[if_neg h3,hget];by_cases h4:off+n=i/\i<cs.size
    ·rw[if_pos h4,if_pos (by omega)];have:i-(off+n)=0:=by omega
     rw[this];simp[List.getD]
    ·rw[if_neg h4,if_neg (by omega)]
theorem af5 {M S w} {cs:Array Value} {as:List AV} (hn:cs.size=as.length) (hall:∀i,i<as.length->am M S w (cs.getD i undef) (as.getD i .any)) {v:Value} {x:AV} (hv:am M S w v x) (h1:ones x.cells=true) {off:Nat} (hb:off+x.cells.length<=as.length):
 ((v.cells.zipIdx).foldl (λcs (x:Value×Nat)=>cs.setIfInBounds (off+x.2) x.1) cs).size=(putCells as off x.cells).length/\
 ∀i,i<(putCells as off x.cells).length->am M S w (((v.cells.zipIdx).foldl (λcs (x:Value×Nat)=>cs.setIfInBounds (off+x.2) x.1) cs).getD i undef) ((putCells as off x.cells).getD i .any):=by
 obtain⟨hs,hr⟩:=mc hv h1;have e:(v.cells.zipIdx).foldl (λcs (x:Value×Nat)=>cs.setIfInBounds (off+x.2) x.1) cs=(v.cells.toList.zipIdx 0).foldl (λcs (x:Value×Nat)=>cs.setIfInBounds (off+x.2) x.1) cs:=by
  rw[<- Array.foldl_toList];simp
 obtain⟨f1,f2⟩:=af6 v.cells.toList 0 cs off;rw[e];refine⟨by rw[f1,nQ];exact hn,λi hi=>?_⟩;rw[nQ]at hi;rw[f2 i,pH x.cells as off i hb];by_cases h:off<=i/\i<off+x.cells.length
 ·rw[if_pos h,if_pos ⟨by omega,by simp;omega,by omega⟩];have:=hr (i-off) (by omega);have e2:v.cells.toList.getD (i-(off+0)) undef=v.cells.getD (i-off) undef:=by
   have:i-off<v.cells.size:=by omega
   simp[List.getD,Array.getD,this]
  rw[e2];exact this
 ·rw[if_neg h,if_neg (by simp;omega)];exact hall i (by omega)
def mR (ev:Od->AV) (cs:List AV):List (Nat×Nat×Od)->Option (List AV)
 | []=>some cs
 | (o,n,x)::ps=>if (ev x).cells.length=n/\ones (ev x).cells=true/\o+n<=cs.length then mR ev (putCells cs o (ev x).cells) ps else none
theorem HC (t:List AV):∀(ps:List (Nat×Nat×Od)) (cs:List AV),mQ t cs ps=mR (od t) cs ps
 | [],_=>rfl
 | (o,n,x)::ps,cs=>by simp only[mQ,mR,HC t ps]
theorem Ao {M S w} {a:Act} {ev:Od->AV} {place:Nat->Option (Nat×Nat)}:∀(ps:List (Nat×Operand)) (qs:List (Nat×Nat×Od)) (cs:Array Value) (as bs:List AV),
 (∀p∈ps,am M S w (a.eval p.2) (ev (ak p.2)))->qs.length=ps.length->(∀(i:Nat) (p:Nat×Operand) (q:Nat×Nat×Od),ps[i]?=some p->qs[i]?=some q->place p.1=some (q.1,q.2.1)/\q.2.2=ak p.2)->
 cs.size=as.length->(∀i,i<as.length->am M S w (cs.getD i undef) (as.getD i .any))->mR ev as qs=some bs->
 ∃cs',Instr.fill place cs (ps.map λp=>(p.1,a.eval p.2))=some cs'/\cs'.size=bs.length/\∀i,i<bs.length->am M S w (cs'.getD i undef) (bs.getD i .any)
 | [],qs,cs,as,bs,_,hl,_,hn,hall,hf=>by
   have:qs=[]:=List.eq_nil_of_length_eq_zero hl;subst this;cases hf;exact⟨cs,rfl,hn,hall⟩
 | p::ps,[],_,_,_,_,hl,_,_,_,_=>by simp at hl
 | p::ps,q::qs,cs,as,bs,hx,hl,hpl,hn,hall,hf=>by
   obtain⟨o,n,x⟩:=q;obtain⟨h1,h2⟩:=hpl 0 p (o,n,x) rfl rfl;simp only at h1 h2;subst h2;simp only[mR]at hf;split at hf
   ·rename_i hc;obtain⟨c1,c2,c3⟩:=hc;have hv:=hx p (by simp);obtain⟨hs,_⟩:=mc hv c2;obtain⟨g1,g2⟩:=af5 hn hall hv c2 (off:=o) (by omega);obtain⟨cs',r1,r2,r3⟩:=Ao ps qs _ _ bs (λz hz=>hx z (by simp[hz])) (by simpa using hl) (λi p' q' hp' hq'=>hpl (i+1) p' q' (by simpa using hp') (by simpa using hq')) g1 g2 hf;refine⟨cs',?_,r2,r3⟩;simp only[List.map_cons,Instr.fill,h1];rw[show(decide ((a.eval p.2).cells.size≠n)||decide (o+(a.eval p.2).cells.size>cs.size))=false by simp;omega];simp only[Bool.false_eq_true,if_false];exact r1
   ·cases hf
theorem Ov {fs:Array Field}:∀(pp:List (Nat×Operand)) (qs:List (Nat×Nat×Od)),qC P fs pp=some qs->qs.length=pp.length/\
 ∀(i:Nat) (p:Nat×Operand) (q:Nat×Nat×Od),pp[i]?=some p->qs[i]?=some q->∃f n,fs[p.1]?=some f/\bR P f.type=some n/\q=(f.offset,n,ak p.2)
 | [],qs,h=>by cases h;exact⟨rfl,λi p q hp=>by simp at hp⟩
 | (j,x)::pp,qs,h=>by
   simp only[qC]at h;split at h
   ·rename_i f hf;split at h
    ·rename_i n r hn hr;cases h;obtain⟨h1,h2⟩:=Ov pp r hr;refine⟨by simp[h1],λi p q hp hq=>?_⟩;cases i with
     | zero=>simp at hp hq;subst hp;subst hq;exact⟨f,n,hf,hn,rfl⟩
     | succ i=>exact h2 i p q (by simpa using hp) (by simpa using hq)
    ·cases h
   ·cases h
theorem abU {fs:Array Field} (hall:fs.all (λf=>(bR P f.type).isSome)=true) (w:World):
 ∃pl:Array (Nat×Nat),(fs.mapM (m:=Sem) λf=>do pure (f.offset,<- sizeOf f.type)).run P w=.ok pl w/\∀(i:Nat) f n,fs[i]?=some f->bR P f.type=some n->pl[i]?=some (f.offset,n):=by
 have key:∀(l:List Field),(∀f∈l,(bR P f.type).isSome=true)->∃pl:List (Nat×Nat),(l.mapM (m:=Sem) λf=>do pure (f.offset,<- sizeOf f.type)).run P w=.ok pl w/\∀(i:Nat) f n,l[i]?=some f->bR P f.type=some n->pl[i]?=some (f.offset,n):=by
  intro l
  induction l with
  | nil=>intro _;exact⟨[],by simp,λi f n h=>by simp at h⟩
  | cons f l ih=>
    intro h;obtain⟨pl,h1,h2⟩:=ih λg hg=>h g (List.mem_cons_of_mem _ hg);obtain⟨n,hn⟩:=Option.isSome_iff_exists.1 (h f (by simp));refine⟨(f.offset,n)::pl,?_,λi g m hg hm=>?_⟩
    ·simp only[List.mapM_cons,Sem.run_bind,ij hn,Result.andThen_ok,Sem.run_pure,h1]
    ·cases i with
     | zero=>simp at hg;subst hg;rw[hn]at hm;cases hm;rfl
     | succ i=>exact h2 i g m (by simpa using hg) hm
 obtain⟨pl,h1,h2⟩:=key fs.toList λf hf=>by
  rw[Array.all_eq_true']at hall;exact hall f (by simpa using hf)
 refine⟨pl.toArray,?_,λi f n hf hn=>by simpa using h2 i f n (by simpa using hf) hn⟩;rw[Array.mapM_eq_mapM_toList,Sem.run_map,h1];rfl
theorem agM {zs qs bs} (hz1:ones zs=true) (h:mQ t zs qs=some bs):OS P (.build zs qs) t H (.ret (.agg bs)) H:=by
 intro wr oc hc;obtain⟨ty,pp,hop,hzz,hcase⟩:=agb hc;obtain⟨i,z,hi,hz,rfl⟩:=G0 hzz;refine cy λM S w a hx hh=>?_;obtain⟨hn,hall⟩:=GZ M S w hz1;have hev:∀p∈pp.toList,am M S w (a.eval p.2) (od t (ak p.2)):=λp hp=>hx p.2 (by simp[hop,Op.operands];exact⟨p.1,by simpa using hp⟩)
 have hmap:(pp.map λ(x:Nat×Operand)=>(x.1,a.eval x.2)).toList=pp.toList.map λp=>(p.1,a.eval p.2):=by simp
 rcases hcase with⟨fs,hu,hsz,hq⟩|⟨l,e,n,hu,hn',rfl⟩
 ·obtain⟨q1,q2⟩:=Ov _ _ hq;obtain⟨pl,hpl,UP⟩:=abU (P:=P) hsz w;obtain⟨cs',r1,r2,r3⟩:=Ao (ev:=od t) (place:=(pl[·]?)) pp.toList qs z.cells _ bs hev q1 (λi p q hp hq'=>by
   obtain⟨f,n,h1,h2,rfl⟩:=q2 i p q hp hq';exact⟨UP p.1 f n h1 h2,rfl⟩) hn hall (by rw[<- HC];exact h)
  refine⟨.agg cs',?_,.agg cs' bs r2 r3⟩;simp only[execOp,hop,Instr.build,Sem.run_bind,ml hi hz,Result.andThen_ok,run_underlying hu,hpl,hmap,r1,Sem.run_pure]
 ·obtain⟨cs',r1,r2,r3⟩:=Ao (ev:=od t) (place:=λi=>some (i*n,n)) pp.toList (pp.toList.map λp=>(p.1*n,n,ak p.2)) z.cells _ bs hev (by simp) (λi p q hp hq'=>by
   simp only[List.getElem?_map,hp,Option.map_some,Option.some.injEq]at hq';subst hq';exact⟨rfl,rfl⟩) hn hall (by rw[<- HC];exact h)
  refine⟨.agg cs',?_,.agg cs' bs r2 r3⟩;simp only[execOp,hop,Instr.build,Sem.run_bind,ml hi hz,Result.andThen_ok,run_underlying hu,ij hn',hmap,r1,Sem.run_pure]
theorem Pj {ev:Od->AV} {k:Nat}:∀(xs:List Od) (s:Nat) (as:List AV),(s+xs.length)*k<=as.length->(∀x∈xs,(ev x).cells.length=k/\ones (ev x).cells=true)->
 ∃bs,mR ev as ((xs.zipIdx s).map λp=>(p.2*k,k,p.1))=some bs/\bs.length=as.length/\∀(i j:Nat),j<k->bs.getD (i*k+j) .any=if s<=i/\i<s+xs.length then((xs.map ev).getD (i-s) .any).cells.getD j .any else as.getD (i*k+j) .any
 | [],s,as,_,_=>⟨as,rfl,rfl,λi j _=>by rw[if_neg (by rintro⟨h1,h2⟩;simp at h2;omega)]⟩
 | x::xs,s,as,hl,hx=>by
   obtain⟨hk,h1⟩:=hx x (by simp);have hle:s*k+k<=as.length:=by
    refine Nat.le_trans ?_ hl;have:(s+1)*k<=(s+(x::xs).length)*k:=Nat.mul_le_mul_right _ (by simp);rw[Nat.add_mul,Nat.one_mul]at this;exact this
   obtain⟨bs,h2,h3,h4⟩:=Pj xs (s+1) (putCells as (s*k) (ev x).cells) (by rw[nQ];simp only[List.length_cons]at hl;rwa [show s+1+xs.length=s+(xs.length+1) by omega]) λy hy=>hx y (by simp[hy]);refine⟨bs,?_,by rw[h3,nQ],λi j hj=>?_⟩
   ·simp only[List.zipIdx_cons,List.map_cons,mR];rw[if_pos ⟨hk,h1,hle⟩];exact h2
   ·rw[h4 i j hj,pH _ _ _ _ (by omega),hk];simp only[List.length_cons];by_cases c1:s+1<=i/\i<s+1+xs.length
    ·rw[if_pos c1,if_pos (by omega)];have:i-s=(i-(s+1))+1:=by omega
     rw[this];simp[List.getD]
    ·rw[if_neg c1];by_cases c2:i=s
     ·subst c2;rw[if_pos (by omega),if_pos (by omega)];have e:i*k+j-i*k=j:=by omega
      rw[e];simp[List.getD]
     ·rw[if_neg (c:=s<=i/\i<s+(xs.length+1)) (by omega)];rw[if_neg];rintro⟨q1,q2⟩;rcases Nat.lt_or_ge i s with h|h
      ·have:=Nat.mul_le_mul_right k (show i+1<=s by omega);rw[Nat.add_mul,Nat.one_mul]at this;omega
      ·have:=Nat.mul_le_mul_right k (show s+1<=i by omega);rw[Nat.add_mul,Nat.one_mul]at this;omega
theorem tA {k:Nat}:∀ {xs:List AV},lM k xs->∀x∈xs,Cs k x
 | [],_,_,h=>by simp at h
 | y::xs,h,x,hx=>by
   rcases List.mem_cons.1 hx with rfl|hx
   ·exact h.1
   ·exact tA h.2 x hx
theorem PR {x:AV} (h:x.data=true) {i:Nat} (hi:i<x.cells.length):(x.cells.getD i .any).dat=true:=by
 simp only[AV.data,List.all_eq_true]at h;have:x.cells.getD i .any=x.cells[i]:=by simp[List.getD,hi]
 rw[this];exact h _ (List.getElem_mem hi)
theorem QA {ty e:TypeId} {n k:Nat} {pp:Array (Nat×Operand)} {zs:List AV} (hu:P.underlying ty=some (.slice e)) (hk:bR P e=some k) (hz:gM P e=some zs) (hidx:pp.toList.map (·.1)=List.range n) (hsz:n*k<=16777216) (hzl:zs.length=k)
 {M S w} {a:Act} {ev:Od->AV} (hx:∀p∈pp.toList,am M S w (a.eval p.2) (ev (ak p.2))) {xs:List AV} (hxs:xs=pp.toList.map λp=>ev (ak p.2)) (hok:lM k xs):
 ∃c:Array Value,(Instr.buildSlice ty n (pp.map λ(i,x)=>(i,a.eval x))).run P w=.ok (.slice (some ⟨w.heap.size,0,none⟩) n n) (w.alloc (.cells c e))/\n=xs.length/\c.size=n*k/\
  (∀i,i<xs.length->(xs.getD i .any).cells.length=k)/\(∀i,i<xs.length->∀j,j<k->((xs.getD i .any).cells.getD j .any).one=true)/\
  ∀i,i<xs.length->∀j,j<k->aO S w (c.getD (i*k+j) undef) ((xs.getD i .any).cells.getD j .any):=by
 obtain⟨i,z,hi,hiz,rfl⟩:=G0 hz;have hlen:pp.toList.length=n:=by have:=congrArg List.length hidx;simpa using this
 have hxl:xs.length=n:=by rw[hxs];simp[<- hlen]
 have hsize:z.cells.size=k\/k=0:=by
  by_cases h:∃vs,z=.agg vs
  ·obtain⟨vs,rfl⟩:=h;left;rw[<- hzl];simp[fB,Value.cells,AV.cells]
  ·left;rw[Oo λvs e=>h ⟨vs,e⟩,<- hzl];have:fB z=jh z:=by cases z<;>first|rfl|exact absurd ⟨_,rfl⟩ h
   rw[this];unfold jh;split<;>rfl
 let base:Array Value:=(Array.range (n*k)).map ((if n*k=0 then #[]else z.cells)[·% (if n*k=0 then #[]else z.cells).size]!)
 have hb:base.size=(List.replicate (n*k) AV.any).length:=by simp[base]
 have hrep:∀i,i<(List.replicate (n*k) AV.any).length->am M S w (base.getD i undef) ((List.replicate (n*k) AV.any).getD i .any):=λi hi=>by
  have:(List.replicate (n*k) AV.any).getD i .any=.any:=by simp[List.getD,List.getElem?_replicate];split<;>rfl
  rw[this];exact .data (.any _)
 have hel:∀x∈pp.toList.map (λp=>ak p.2),(ev x).cells.length=k/\ones (ev x).cells=true:=λx hx=>by
  have:ev x∈xs:=by rw[hxs];simp only[List.mem_map]at hx ⊢;obtain⟨p,hp,rfl⟩:=hx;exact⟨p,hp,rfl⟩
  have:=tA hok _ this;exact⟨this.1,this.2.1⟩
 obtain⟨bs,h1,h2,h3⟩:=Pj (ev:=ev) (k:=k) (pp.toList.map λp=>ak p.2) 0 (List.replicate (n*k) .any) (by simp[<- hlen]) hel;have BX:((pp.toList.map λp=>ak p.2).zipIdx 0).map (λp=>(p.2*k,k,p.1))=pp.toList.map λp=>(p.1*k,k,ak p.2):=by
  apply List.ext_getElem
  ·simp
  ·intro j hj1 hj2;have hj:j<pp.toList.length:=by simpa using hj2
   have:(pp.toList.map (·.1))[j]'(by simpa using hj)=j:=by simp[hidx]
   simp only[List.getElem_map]at this;have this':(pp[j]'(by simpa using hj)).1=j:=by simpa using this
   simp[this']
 rw[BX]at h1;obtain⟨c,r1,r2,r3⟩:=Ao (ev:=ev) (place:=λi=>some (i*k,k)) pp.toList _ base _ bs hx (by simp) (λi p q hp hq'=>by
  simp only[List.getElem?_map,hp,Option.map_some,Option.some.injEq]at hq';subst hq';exact⟨rfl,rfl⟩) hb hrep h1
 have hmap:(pp.map λ(x:Nat×Operand)=>(x.1,a.eval x.2)).toList=pp.toList.map λp=>(p.1,a.eval p.2):=by simp
 refine⟨c,?_,hxl.symm,by rw[r2,h2];simp,λi hi=>?_,λi hi j hj=>?_,λi hi j hj=>?_⟩
 ·have hlim:¬(n*k>2^24):=by omega
  have hbase:base=(Array.range (n*k)).map ((if n*k=0 then #[]else z.cells)[·% (if n*k=0 then #[]else z.cells).size]!):=rfl;rw[hbase]at r1;by_cases hnk:n*k=0
  ·simp only[Instr.buildSlice,Sem.run_bind,run_underlying hu,Result.andThen_ok,ij hk,hlim,if_false,if_pos hnk,Sem.run_pure,hmap];generalize hq:Instr.fill _ _ _=q;rw[if_pos hnk]at r1;obtain rfl:q=some c:=hq.symm.trans r1;simp[newRow]
  ·simp only[Instr.buildSlice,Sem.run_bind,run_underlying hu,Result.andThen_ok,ij hk,hlim,if_false,if_neg hnk,Sem.run_pure,ml hi hiz,hmap];generalize hq:Instr.fill _ _ _=q;rw[if_neg hnk]at r1;obtain rfl:q=some c:=hq.symm.trans r1;simp[newRow]
 ·have:=tA hok (xs.getD i .any) (by rw[show xs.getD i .any=xs[i] by simp[List.getD,hi]];exact List.getElem_mem hi);exact this.1
 ·have:=tA hok (xs.getD i .any) (by rw[show xs.getD i .any=xs[i] by simp[List.getD,hi]];exact List.getElem_mem hi);exact jI this.2.1 (by rw[this.1];exact hj)
 ·have hke:=tA hok (xs.getD i .any) (by rw[show xs.getD i .any=xs[i] by simp[List.getD,hi]];exact List.getElem_mem hi);have hlt:i*k+j<bs.length:=by
   rw[h2,List.length_replicate];have hin:i+1<=n:=by rw[<- hxl];exact hi
   have:(i+1)*k<=n*k:=Nat.mul_le_mul_right _ hin;rw[Nat.add_mul,Nat.one_mul]at this;omega
  have:=r3 (i*k+j) hlt;have hpl:i<pp.toList.length:=by rw[hlen,<- hxl];exact hi
  rw[h3 i j hj,if_pos ⟨Nat.zero_le _,by rw[Nat.zero_add,List.length_map];exact hpl⟩]at this;have e1:((pp.toList.map λp=>ak p.2).map ev).getD (i-0) .any=xs.getD i .any:=by rw[hxs,List.map_map,Nat.sub_zero];rfl
  rw[e1]at this;exact dy this (PR hke.2.2 (by rw[hke.1];exact hj))
theorem aE.Te {M S H} {w w':World} (hh:aE M S H w) (hg:Grew w w') {g:Nat} (h1:w.heap.size<=g) (h2:g<w'.heap.size):aE M (λi=>S i\/i=g) H w'/\aU M S H w M (λi=>S i\/i=g) H w':=by
 have h':=hh.grew hg;have hne:∀i,foot M H i->i≠g:=λi hi e=>by have:=fQ hh hi;omega
 refine⟨⟨h'.nb,h'.nt,λi hi=>?_,λb hb=>?_,λt ht=>?_,h'.bb,h'.tt,h'.bt⟩,⟨hh.nb,hh.nt,hg.os,hg.tape,hg.output,hg.size,λ_ h=>.inl h,λi hi=>hg.old i (hh.sits i hi),λi hi _=>hg.old i hi,.refl M,λi h=>h.imp id λe=>.inr (by rw[e];exact h1),λ_ h=>.inl h⟩⟩
 ·rcases hi with hi|rfl
  ·exact h'.sits i hi
  ·exact h2
 ·exact(h'.box b hb).keep (.refl M) (λ_ h=>.inl h) (λh=>h.elim (h'.box b hb).un (hne _ (.inl ⟨b,hb,rfl⟩))) (λ_ _=>rfl) rfl
 ·have:=h'.buf t ht;cases hb:H.buf.getD t .dead with
  | dead=>trivial
  | bf k xs=>rw[hb]at this;exact aO.mono (λ_ h=>.inl h) (λ_ _=>rfl) this
  | live k xs=>
    rw[hb]at this;have bn:∀i,Value.blk (M.bv t)=some i->lives M H t i:=λi h=>⟨ht,by rw[hb];rfl,h⟩
    exact b9.keep this (λ_ h=>.inl h) (λi h hs=>hs.elim (fx h' (.inr ⟨t,bn i h⟩)) (hne _ (.inr ⟨t,bn i h⟩))) (λ_ _=>rfl) λ_ _=>rfl
  | map q k xs=>
    rw[hb]at this;have bn:∀i,Value.blk (M.bv t)=some i->lives M H t i:=λi h=>⟨ht,by rw[hb];rfl,h⟩
    exact fe.keep this (λ_ h=>.inl h) (λi h hs=>hs.elim (fx h' (.inr ⟨t,bn i h⟩)) (hne _ (.inr ⟨t,bn i h⟩))) (λ_ _=>rfl) λ_ _=>rfl
theorem Qs {k ps} (hok:lM k (ps.map (od t))):OS P (.cq k ps) t H (.ret (.sl k (ps.map (od t)))) H:=by
 intro wr oc hc;obtain⟨ty,n,pp,e,zs,rfl,hop,hu,hk,hz,hidx,hsz,hzl,_⟩:=QX hc;refine jJ λM S w a hx hh=>?_;have hev:∀p∈pp.toList,am M S w (a.eval p.2) (od t (ak p.2)):=λp hp=>hx p.2 (by simp[hop,Op.operands];exact⟨p.1,by simpa using hp⟩)
 obtain⟨c,hr,hn,hcs,q1,q2,q3⟩:=QA hu hk hz hidx hsz hzl (ev:=od t) hev (xs:=(pp.toList.map λp=>ak p.2).map (od t)) (by simp) hok;obtain⟨hh',hf⟩:=hh.Te (Grew.alloc w (.cells c e)) (Nat.le_refl _) (by simp);refine⟨.slice (some ⟨w.heap.size,0,none⟩) n n,w.alloc (.cells c e),M,_,?_,hh',?_,hf⟩
 ·simp only[execOp,hop,Sem.run_bind];rw[show(Instr.buildSlice ty n (pp.map λ(x:Nat×Operand)=>(x.1,a.eval x.2))).run P w=_ from hr];rfl
 ·rw[hn];exact .data (.sl w.heap.size 0 _ k _ c e (0,0) (Nat.le_refl _) (.inr rfl) (fP _ _) (by rw[hcs,hn];omega) q1 q2 λi hi j hj=>by rw[Nat.zero_add];exact(q3 i hi j hj).mono (λ_ h=>.inl h) hf.cv)
end
end
end Go.Proofs.YtmfkphajohcklaaGreat.U
