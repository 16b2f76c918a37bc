import Derived.Test.YtgklgliokhbcnaaGreatDoorGeD
import Derived.Laws.Build
set_option linter.unusedVariables false
set_option linter.unusedSimpArgs false
set_option linter.unusedSectionVars false
set_option linter.defProp false
open Option renaming some->aa,none->af
open Go.IntKind (i64)
namespace Go.Ge
open RowKit
def xa(P:Program)(G:DV)(inl:Nat->List ch->St->Tree (ch×St)):Prop :=
 ∀(B:BT) (γ:Gh) (σ aQ:St) (w:World) (f:Nat) (b:List ch) (i:Array Value) (v:ch),B.G=G->bC B γ σ.mem w->lS γ σ.mem w b i.toList->(inl f b σ).run=aa (v,aQ) ->
  (∃h c,P.funcs[f]?=aa h/\(h.name == "runtime.NumGoroutine")=false/\h.body=aa c)/\aQ.bb=σ.bb /\
  Calls P f i w λe w'=>∃g bz,e=.returned g/\bC B bz aQ.mem w'/\Ext B γ σ.mem w bz aQ.mem w'/\cu bz aQ.mem w' v .val [g]
section
variable {P:Program} {B:BT} {N:Nat} {γ:Gh} {σ aQ:St} {a:Act} {w w':World} {d:Option Nat} {cx:Ctx} {nb:Nat} {bf:List Nat} {inl:Nat->List ch->St->Tree (ch×St)}
def D1(B:BT)(N:Nat)(c:Gh)(e:St)(a:Act)(w:World)(d:Option Nat)(b:St)(K:Act->World->Prop):Prop :=
 ∀bz v w',dm B N bz b (a.put d v) w'->Ext B c e.mem w bz b.mem w'->K (a.put d v) w'
def RC{f:Nat}{fn code}(c:P.funcs[f]?=aa fn)(e:(fn.name == "runtime.NumGoroutine")=false)(g:fn.body=aa code) args w :
  (callFunc f args).run P w=.ok (.enter f args) w:=by
 have b:¬fn.name = "runtime.NumGoroutine":=by simpa using e
 simp[callFunc,c,b,g]
def bY{o s K Q}(b:execOp a.eval o=(do pure<|.value (<-s)))(h:nU P B N γ σ a w o.dst s aQ)(c:D1 B N γ σ a w o.dst aQ K):o.wp P a w K Q:=by
 obtain⟨v,w',bz,e,f,g⟩:=h;unfold Oper.wp;rw[b];simp only[Sem.run_bind,e];exact c bz _ w' f g
def PX{ops:List Operand}(h:dm B N γ σ a w):lS γ σ.mem w (ops.map<|cW σ) (ops.map a.eval):=by
 refine⟨aS,λi v x b c=>?_⟩;rw[Em] at b c;cases e:ops[i]? with
 | none=>rw[e] at b;cases b
 | some o =>
   rw[e] at b c;obtain rfl:=aF b;obtain rfl:=aF c;exact h.cW o
def lS.append{mem vs us f g}(h:lS γ mem w vs f)(k:lS γ mem w us g):lS γ mem w (vs++us) (f++g):=by
 refine⟨by simp[h.1,k.1],λi v x c b=>?_⟩;rw[Rb] at c b;rw[h.1] at b;split at c
 .rename_i e;rw[aN e] at b;exact h.2 i v x c b
 .rename_i e;rw[aJ e] at b;exact k.2 _ v x c b
def bC.drop{mem w'}(h:bC B γ mem w){b FQ bx}(t:mem b=aa FQ)(j:FQ.aM<bx.aM)(m:vD B w w')
  (l:∀k,k<w.heap.size->(∀c,γ.loc b≠aa (k,c))->w'.heap[k]?=w.heap[k]?) (i:∀k o,k<w.heap.size->w'.cell? ⟨k,o,af⟩=w.cell? ⟨k,o,af⟩)
  (y:ew (bK γ b af) (dd mem b bx) w' b bx):bC B (bK γ b af) (dd mem b bx) w'/\Ext B γ mem w (bK γ b af) (dd mem b bx) w':=by
 have hx:Ext B γ mem w (bK γ b af) (dd mem b bx) w' :=
  { below:=m
    I:=λ_ _ x=>x
    qV:=λ_ _ x=>.inl x
    cells:=λblk o x=>i blk o (h.te blk o x)
    boxes:=λc cx f=>by
     by_cases e:c=b
     .subst e;obtain rfl:FQ=cx:=aF (t.symm.trans f);exact⟨bx,bB _ _,Nat.le_of_lt j,λe=>absurd e ag⟩
     .exact⟨cx,by rw[aZ _ e];exact f,bX _,λ_=>⟨by simp[bK,e],rfl,rfl⟩⟩ }
 refine⟨?_,hx⟩;exact
  { tf:=h.BU hx
    base:=gi h.base m.size
    boxes:=λc cx f=>by
     by_cases e:c=b
     .subst e;rw[bB] at f
      grind
     .rw[aZ _ e] at f;refine(h.boxes c cx f).keep hx (by simp[bK,e]) λblk k u=>l blk (h.fresh c blk k (by rw[f];simp) u).2 λp q=>e ?_;exact h.inj c b blk k p (by rw[f];simp) (by rw[t];simp) u q
    inj:=λc d blk k p f v g n=>by
     by_cases e:c=b
     .simp only[bK,aN e] at g;cases g
     .by_cases r:d=b
      .simp only[bK,aN r] at n;cases n
      .simp only[bK,aJ e] at g;simp only[bK,aJ r] at n;rw[aZ _ e] at f;rw[aZ _ r] at v;exact h.inj c d blk k p f v g n
    fresh:=λc blk k f g=>by
     by_cases e:c=b
     .simp only[bK,aN e] at g;cases g
     .simp only[bK,aJ e] at g;rw[aZ _ e] at f;have:=h.fresh c blk k f g;exact⟨this.1,zf this.2 m.size⟩
    te:=λblk off s=>zf (h.te blk off s) m.size
    sep:=λc cx blk k off f g s=>by
     by_cases e:c=b
     .simp only[bK,aN e] at g;cases g
     .simp only[bK,aJ e] at g;rw[aZ _ e] at f;exact h.sep c cx blk k off f g s }
def Uh{mem b c}(h:mem b=aa c):dd mem b c=mem:=by
 funext i;by_cases e:i=b
 .subst e;rw[bB,h]
 .rw[aZ _ e]
def Ox{f s R xs}(hs:pA P f s)(h:dm B N γ σ a w)(hd:∀k,d=aa k->k<N)(hv:lS γ σ.mem w R xs.toList)
  (C:(CV s d R σ).run=aa aQ) {K} (hK:D1 B N γ σ a w d aQ K) :
  (∃fn code,P.funcs[f]?=aa fn/\(fn.name == "runtime.NumGoroutine")=false/\fn.body=aa code)/\Calls P f xs w λe w'=>∃v,e=.returned v/\K (a.put d v) w':=by
 unfold CV at C;split at C
 .rename_i T b aM;split at C
  case h_2=>cases C
  rename_i Y S;split at C
  case h_2=>cases C
  rename_i b' v' u un A;obtain⟨n,F⟩:=ay C;obtain rfl:=aF F;simp only[gz,DF] at n;obtain⟨⟨⟨⟨⟨⟨⟨⟨c1,c2⟩,c3⟩,c4⟩,c5⟩,c6⟩,c7⟩,c8⟩,c9⟩:=n;have c1:=gA c1;have c5:=gA c5;have c7:=gA c7;have c8:=gA c8;have c6:0<T:=by simpa using c6
  subst c7;subst c8;obtain⟨val,G,Z,g1,g2⟩:=hv.cons;have r:G=[]:=by have:=g2.1;simpa using this
  subst r;obtain⟨m,i,U,g3⟩:=bk S c1 g1.2;simp only[eg] at g3;obtain rfl:xs=#[.pointer<|some ⟨m,0,af⟩]:=by apply BL.1;rw[Z,g3]
  have t:=h.ok.boxes b' Y S;unfold ew at t;rw[c2] at t;obtain⟨LJ,W1,z,tid,fr,a1,a2,a3,a4,a5⟩:=t;rw[U] at a1;obtain⟨rfl,rfl⟩:=eh (aF a1);have H:tid=T:=by
   grind
  subst H;rw[A] at a5;obtain⟨cs1,cs2,e1,e2,e3⟩:=a5;obtain⟨cs3,cs4,e4,e5,e6⟩:=e3;obtain⟨⟨p,rfl,hp1⟩,hp2⟩:=e2;obtain⟨q,hq⟩:∃q,cs3=[q]:=by
   cases u<;>first|(cases c9;done)|skip
   obtain⟨⟨q,hq,_⟩,_⟩:=e5
   grind
  subst hq;obtain rfl:cs4=[]:=e6;have I:z=#[p,q]:=by apply BL.1;rw[e1,e4];rfl
  subst I;obtain⟨aoo,alS,j1,j2⟩:=bk S c1 hp2;rw[U] at j1;obtain⟨rfl,rfl⟩:=eh (aF j1);refine⟨hs.1,(hs.2 w m p q fr a2 (a3 0 aS)<|j2.imp vk vk).mono λe w' D=>?_⟩;obtain⟨rfl,D⟩:=D;refine⟨_,rfl,?_⟩;have V:∀{bz mem' w'},cu bz mem' w' (.BI .nl) .val [.tuple #[]]:=λ{_ _ _}=>⟨#[],rfl,rfl⟩;rcases D with rfl|rfl
  .refine hK γ _ _ (h.wW hd V) ?_;cases d<;>apply Ext.refl
  .have akp:({ Y with val:=Y.val }:Box)=Y:=by cases Y;rfl
   obtain⟨m1,m2⟩:=h.ok.write S c4 U a2 (cur':=#[.pointer _,q]) aS (by rw[akp])
    (λw' mem' hx hg=>by
     rw[c2];refine⟨m,i,_,tid,fr,U,hg,λo ho=>a3 o (by simpa using ho),a4,?_⟩;rw[A];refine⟨[.pointer _],[q],rfl,?_,[q],[],rfl,e5.ext hx,rfl⟩;have hp3:nT mem' b' v' λ_=>∃m i,γ.loc b'=aa (m,i):=by
      obtain⟨FQ,k1,k2,k3⟩:=hp2;obtain⟨uS,q1,q2,J⟩:=hx.boxes b' FQ k1;exact⟨uS,q1,gi k2 q2,λ_=>⟨m,i,U⟩⟩
     obtain⟨uS,q1,q2,J⟩:=hp3;exact⟨⟨_,rfl,rfl⟩,uS,q1,q2,λ_=>⟨m,i,U,.inr rfl⟩⟩)
   rw[ Uh S] at m1 m2;refine hK γ _ _ (h.bt m2 m1 hd V) ?_;cases d<;>exact m2
 .rename_i T E b aM;split at C
  case h_2=>cases C
  rename_i Y S;split at C
  case h_2=>cases C
  rename_i b' v' hh hv' un A;obtain⟨n,F⟩:=ay C;simp only[gz,DF] at n;obtain⟨⟨⟨⟨c1,c2⟩,c5⟩,c6⟩,c7⟩:=n;have c5:=gA c5;have c6:0<T:=by simpa using c6
  split at F
  case h_2=>cases F
  rename_i hx Q;obtain⟨n,hr3⟩:=ay F;simp only[gz] at n;obtain⟨⟨⟨⟨d1,d2⟩,d3⟩,d4⟩,d5⟩:=n;have d4:=gA d4;have d5:0<E:=by simpa using d5
  split at hr3
  case h_2=>cases hr3
  rename_i l hhv;change List Int at l;obtain rfl:=aF hr3;obtain⟨val,G,Z,g1,g2⟩:=hv.cons;have r:G=[]:=by have:=g2.1;simpa using this
  subst r;obtain⟨m,i,U,g3⟩:=bk S (gA c1) g1.2;obtain rfl:xs=#[.pointer _]:=by apply BL.1;rw[Z,g3]
  have t:=h.ok.boxes b Y S;unfold ew at t;rw[c2] at t;obtain⟨LJ,W1,z,tid,fr,a1,a2,a3,a4,a5⟩:=t;rw[U] at a1;obtain⟨rfl,rfl⟩:=eh (aF a1);have H:tid=T:=by
   grind
  subst H;rw[A] at a5;obtain⟨cs1,cs2,e1,e2,e3⟩:=a5;obtain⟨cs3,cs4,e4,e5,e6⟩:=e3;obtain⟨⟨p,rfl,hp1⟩,hp2⟩:=e2;obtain⟨⟨q,rfl,hq1⟩,hq2⟩:=e5;obtain rfl:cs4=[]:=e6;have I:z=#[p,q]:=by apply BL.1;rw[e1,e4];rfl
  subst I;obtain⟨e',n',k1,k2,k3⟩:=bk Q (gA d1) hq2;rw[Box.dV d2 hhv] at k2;obtain⟨rfl,rfl⟩:=eh (aF k2);have L:=h.ok.boxes hh hx Q;unfold ew at L;rw[d2] at L;obtain⟨e3,l3,q1,q2,J⟩:=L;rw[hhv] at q1;cases q1;have hlen:(bm l).length=l.length:=by simp[bm]
  let hx':Box:={ hx with val:=.data (.slice<|.int .u8) ([]),aM:=hx.aM+1 }
  have key:∃og,(∀k,og=aa k->∃c,γ.loc hh=aa (k,c))/\l.length<=maxLen /\
    ((og=af/\q=.slice af 0 0/\bm l=[])\/∃(g i:Nat) (z:Array Value) (fr':Nat×Nat),og=aa g/\q=.slice (aa ⟨g,0,af⟩) (bm l).length i/\w.heap[g]?=aa (.cells z E fr')/\(bm l).length<=i/\i<=maxLen/\z.size=i/\∀(j:Nat) x,(bm l)[j]?=aa x->z[j]?=aa (Value.int .u8 x.toNat)):=by
   rcases k3 with ⟨k3,k4⟩|⟨g,M,k3,k4⟩
   .rcases J with ⟨_,J⟩|⟨_,_,_,_,_,J,_⟩
    .subst J;exact⟨af,Bz,pF _,.inl ⟨rfl,vk k4,rfl⟩⟩
    .grind
   .rcases J with ⟨J,_⟩|⟨g',ank,O,alT,frg,J,q4,q5,q6,q7,q8,q9,q10⟩
    .grind
    .rw[k3] at J;obtain⟨rfl,rfl⟩:=eh (aF J);have htg:alT=E:=by
      grind
     subst htg;have W:(Ty.int IntKind.u8).size=1:=rfl;have q7':l.length<=M:=q7;refine⟨aa g,λk X=>⟨M,by rw[k3,aF X]⟩,gi q7' q8,.inr ⟨g,M,O,frg,rfl,?_,q4,ag,q8,by rw[q9,W,Fo],λj x hj=>?_⟩⟩
     .rw[hlen];exact vk k4
     .simp only[bm,Em,El] at hj;obtain⟨y,hy,rfl⟩:=hj;obtain⟨r1,r2,r3⟩:=q10 j y hy;rw[W,Fo] at r1;have alU:(IntKind.u8).min=0:=aD;have agB:(IntKind.u8).max=255:=aD;have anl:O.toList[j]?=aa (.int .u8 y):=by
       have:((O.toList.drop j).take 1)[0]?=aa (.int .u8 y):=by rw[r1];rfl
       grind
      simp_all;omega
  obtain⟨og,hog,hlm,X⟩:=key;refine⟨hs.1,(hs.2 w m p q fr _ og a2 X).mono λe w' D=>?_⟩;obtain⟨rfl,D⟩:=D;refine⟨_,rfl,?_⟩;have alV:vD B w w':=⟨D.os,D.tape,D.output,D.size,λk X=>by
   rcases rR k w.heap.size with hlt|hge
   .refine D.block k hlt λe=>X ?_;obtain⟨c,hc⟩:=hog k e;exact(h.ok.fresh hh k c (by rw[Q];simp) hc).1
   .exact absurd (.inl<|gi h.ok.base hge) X⟩
  have alW:ew (bK γ hh af) (dd σ.mem hh hx') w' hh hx':=by
   unfold ew;rw[show hx'.buf=true from d2];exact⟨.int .u8,[],rfl,q2,.inl ⟨by simp[bK],rfl⟩⟩
  obtain⟨m1,m2⟩:=h.ok.drop Q (TK _) alV (λk X hn=>D.block k X λe=>by obtain⟨c,hc⟩:=hog k e;exact hn c hc) D.cell alW;refine hK _ _ w' (h.bt m2 m1 hd ⟨[.string ⟨(bm l).toArray⟩],⟨rfl,by rw[hlen];exact hlm⟩,rfl⟩) ?_
  .cases d<;>exact m2
 .cases C
def PY{F c}{arr:Array Value}(n:cu γ σ.mem w (.fn F c) .cells [.func (.func F) #[] arr])(f:(c.all λb=>live σ b.1 b.2)=true):lS γ σ.mem w (c.map λb=>.ptr b.1 b.2 []) arr.toList:=by
 obtain⟨k,l,o,p⟩:=n;simp only[ac8,Value.func.injEq,TT,true_and] at l;subst l;refine⟨by simpa using o,λi v x g t=>?_⟩;rw[Em] at g;cases hi:c[i]? with
 | none=>rw[hi] at g;cases g
 | some bv =>
   rw[hi] at g;obtain rfl:=aF g;have q:=vN.1 f bv (dW hi);obtain⟨r,m,e⟩:=kQ q;obtain⟨h,j,s,u⟩:=bk m e (p i bv.1 bv.2<|by rw[hi]);have hx:x=.pointer (aa ⟨h,0,af⟩):=by
    grind
   subst hx;exact⟨⟨_,rfl,rfl⟩,r,m,DT e.symm,λ_=>⟨h,j,s,rfl⟩⟩
def W6{I}{f:Type}:∀{l:List f} {U vs c},PW w I (l.map λ_=>true) .unit U () vs c->vs=c.map λb=>.pointer (aa ⟨b,0,af⟩):=by
 intro l;induction l with
 | nil=>intro U vs c h;obtain⟨_,_,rfl,rfl⟩:=h;rfl
 | cons p l g =>
   intro U vs c h;cases U with
   | pair t U=>obtain⟨i,e,r,rfl,rfl,h⟩:=h;rw[g h];rfl
   | _=>exact h.elim
def Ui{c:Fq}{f J xs}(hh:kR P B.G f c)(h:dm B N γ σ a w)(hd:∀k,d=aa k->k<N)(hv:lS γ σ.mem w J xs.toList)
  (C:(T1 c d J σ).run=aa aQ) {K} (hK:D1 B N γ σ a w d aQ K) :
  (∃fn Y,P.funcs[f]?=aa fn/\(fn.name == "runtime.NumGoroutine")=false/\fn.body=aa Y)/\Calls P f xs w λe w'=>∃v,e=.returned v/\K (a.put d v) w':=by
 refine⟨hh.body,?_⟩;unfold T1 at C;split at C
 case h_2=>cases C
 rename_i b aM vs;split at C
 case h_2=>cases C
 rename_i x bL hx;split at C
 case h_2=>cases C
 rename_i bx hb;split at C
 case h_2=>cases C
 rename_i r0 F aax u0 L;obtain⟨i,m⟩:=ay C;simp only[gz,DF] at i;split at m
 case h_2=>cases m
 rename_i r q u ns hr0 hra;cases p:cU ns b with
 | true=>rw[p] at m;cases m
 | false =>
 rw[p] at m;obtain⟨y,hy,hr2⟩:=cd m;obtain rfl:=aF hr2;obtain⟨x0,rest,hxs,v1,v2⟩:=hv.cons;obtain⟨D,A,s2,s3⟩:=kn h v2 hx;have akk:=gA i.1.1.1.1.1;have M:bx.buf=false:=i.1.1.1.1.2;have O:=gA i.1.1.2;obtain rfl:=gA i.1.2;have S:=A.ok.boxes b bx hb;unfold ew at S;rw[M,L,O] at S;obtain⟨j,E,cur,tid,fr,a1,a2,a3,a4,c1,c2,a5,a6,c3,c4,a7,a8,a9⟩:=S;obtain rfl:=LU hr0;obtain rfl:c4=[]:=a9;have a8':=a8;obtain⟨arr,rfl,_,_⟩:=a8';have V:=PY a8 i.2;obtain⟨bs,g1,g2,g3⟩:=D0 A.ok V hra;have R:arr=(bs.map λb=>Value.pointer (aa ⟨b,0,af⟩)).toArray:=by
  rw[<-W6 g1]
 have hx0:x0=.pointer (aa ⟨j,0,af⟩):=by
  obtain⟨_,ho⟩:=v1.ext s2;obtain⟨LJ,W1,k1,k2⟩:=bk hb akk ho;rw[a1] at k1;obtain⟨rfl,_⟩:=eh (aF k1);exact vk k2
 have alY:adS w D.I c.T c.t r c.F bs j:=⟨cur,tid,fr,c1,a2,a3,a4,by rw[a5,a7,R,vl],a6⟩;have Uj:∀k∈j::bs,∃n l H,bL.mem n=aa l/\l.ro=false/\D.loc n=aa (k,H):=λk s=>by
  rcases fI.1 s with rfl|s
  .exact⟨b,bx,E,hb,i.1.1.1.2,a1⟩
  .obtain⟨n,l,H,j1,W,j3,X⟩:=g2.Hz k s;exact⟨n,l,H,W,j3,X⟩
 have hnd:(j::bs).Nodup:=ada.2 ⟨(λs=>by
  obtain⟨n,l,H,j1,W,j3,X⟩:=g2.Hz j s;have:=A.ok.inj b n j E H (by rw[hb];simp) (by rw[W];simp) a1 X;rw[<-this] at j1;rw[B3.2 j1] at p;cases p),g2.nodup A.ok⟩
 refine(hh.calls D.I w xs rest j bs r x u y (λb o hi=>A.ok.te b o hi) A.ok.Lx (λk Q g s=>by
  obtain⟨n,l,H,W,j3,X⟩:=Uj k s;exact(A.ok.tf k Q g).1 (A.ok.fresh n k H (by rw[W];simp) X).1) (by rw[hxs,hx0]) s3 alY g3 hnd (λk s o hi=>by
  obtain⟨n,l,H,W,j3,X⟩:=Uj k s;have:=(A.ok.sep n l k H o W X hi).1;rw[j3] at this;cases this) hy).mono λe w' hw=>?_
 obtain⟨v,I',h1,h2,h3,h4,h5,h6,h7,h8⟩:=hw;refine⟨v,h1,?_⟩;have hrv:nS c.U y.2 ns b=none:=by
  cases hv:nS c.U y.2 ns b with
  | none=>rfl
  | some z=>rw[B3.2<|LS hv] at p;cases p
 obtain⟨m1,m2⟩:=A.ok.refs (Z:=(·=b)) g2 h2 h3 h4 h5 h7 (λk s=>by
  rcases fI.1 s with rfl|s
  .exact .inr ⟨b,E,rfl,a1⟩
  .exact .inl s) (λn hn=>by
  subst hn;refine⟨hrv,bx,hb,i.1.1.1.2,λalZ=>?_⟩;obtain⟨cur',adU,fr',cs',b1,b2,b3,b4,b5⟩:=h8;unfold ew;rw[M,L,O];rw[R] at a8;exact⟨j,E,cur',adU,fr',a1,b1,b2,b3,cs',_,b4,b5,_,[],by rw[vl],a8.ext alZ,rfl⟩)
 refine hK ⟨I',D.loc⟩ _ w' (by exact A.bt m2 m1 hd<|h6.rep λ_ _ hi=>hi) ?_;cases d<;>exact s2.trans m2
def RD(m:nZ P B.G cx)(Y:xa P B.G inl){f p H}(h:dm B N γ σ a w)(U:∀k,d=aa k->k<N)(V:lS γ σ.mem w p H.toList)
  (i:(yN cx inl d f p σ).run=aa aQ) {K} (J:D1 B N γ σ a w d aQ K) :
  (∃L q,P.funcs[f]?=aa L/\(L.name == "runtime.NumGoroutine")=false/\L.body=aa q)/\Calls P f H w λe w'=>∃v,e=.returned v/\K (a.put d v) w':=by
 unfold yN at i;split at i
 .rename_i c z;have W:=m.TX f c z;refine⟨W.body,?_⟩;split at i
  .rename_i M;split at i
   .rename_i x hx;obtain⟨y,hy,l⟩:=cd i;obtain rfl:=aF l;refine(W.calls _ w H x y (λb o A=>A) h.ok.Lx (Ow (I':=λb o=>b<w.heap.size) h.ok (λb o j=>h.ok.te b o j) (λb o _ A=>A) V hx) hy).mono λe w' O=>?_;obtain⟨v,I',R,E,S,X,h5,h6⟩:=O;refine⟨v,R,?_⟩;obtain⟨m1,F⟩:=h.ok.far (I':=γ.I) E (λ_ _ j=>j) (λb o j=>zf (h.ok.te b o j) E.size) (λb o j hn=>absurd j hn);refine J γ _ w' (h.bt F m1 U<|h6.flat M) ?_;cases d<;>exact F
   .exact absurd i cg
  .split at i
   .rename_i x bL hx;obtain⟨y,hy,l⟩:=cd i;obtain rfl:=aF l;obtain⟨γ1,s1,s2,s3⟩:=kn h V hx;refine(W.calls γ1.I w H x y (λb o j=>s1.ok.te b o j) s1.ok.Lx s3 hy).mono λe w' O=>?_;obtain⟨v,I',R,E,S,X,h5,h6⟩:=O;refine⟨v,R,?_⟩;obtain⟨m1,F⟩:=s1.ok.far (I':=I') E S X h5;refine J ⟨I',γ1.loc⟩ _ w' (s1.bt F m1 U<|h6.rep λ_ _ j=>j) ?_;cases d<;>exact s2.trans F
   .exact absurd i cg
 .rename_i z;have t:((inl f p σ).bind λr=>.ret (r.2.bt d r.1):Tree St).run=aa aQ->(∃L q,P.funcs[f]?=aa L/\(L.name == "runtime.NumGoroutine")=false/\L.body=aa q)/\Calls P f H w λe w'=>∃v,e=.returned v/\K (a.put d v) w':=by
   intro i;obtain⟨r,hr1,l⟩:=bind_some i;obtain rfl:=aF l;obtain⟨v0,rP⟩:=r;obtain⟨A,hsl,C⟩:=Y B γ σ rP w f p H v0 rfl h.ok V hr1;refine⟨A,C.mono λe w' O=>?_⟩;obtain⟨v,bz,R,E,S,X⟩:=O;refine⟨v,R,?_⟩;have hs0:rP={ bb:=σ.bb,mem:=rP.mem }:=by cases rP;subst hsl;rfl
   rw[hs0] at J;refine J bz _ w' (h.bt S E U X) ?_;cases d<;>exact S
  split at i
  .rename_i s hcs;exact Ox (m.PL f s hcs) h U V i J
  split at i
  .rename_i c hcr;split at i
   .rename_i x u ns hx;obtain⟨y,hy,l⟩:=cd i;obtain rfl:=aF l;have W:=m.Ol f c hcr;obtain⟨bs,g1,g2,g3⟩:=D0 h.ok V hx;have T:∀D∈bs,∀o,¬γ.I D o:=λD A o j=>by
     obtain⟨b,bx,k,j1,j2,j3,j4⟩:=g2.Hz D A;have:=(h.ok.sep b bx D k o j2 j4 j).1
     grind
    refine⟨W.body,(W.calls γ.I w H bs x u y (λb o j=>h.ok.te b o j) h.ok.Lx (λb Q g A=>by
     obtain⟨n,bx,k,j1,j2,j3,j4⟩:=g2.Hz b A;exact(h.ok.tf b Q g).1 (h.ok.fresh n b k (by rw[j2];simp) j4).1) g1 g3 (g2.nodup h.ok) T hy).mono λe w' O=>?_⟩
    obtain⟨v,I',R,E,S,X,h5,h6,h7⟩:=O;refine⟨v,R,?_⟩;obtain⟨m1,F⟩:=h.ok.refs (Z:=λ_=>False) g2 E S X h5 h7 (λk hk=>.inl hk) (λc hc=>hc.elim);refine J ⟨I',γ.loc⟩ _ w' (by exact h.bt F m1 U<|h6.rep λ_ _ j=>j) ?_;cases d<;>exact F
   .grind
  .split at i
   .rename_i c z;exact Ui (m.Ri f c z) h U V i J
   .exact t i
def bC.W7{mem w'}(h:bC B γ mem w){b uS e T L X I' v}
  (J:∀k,X k->∃g c,mem b=aa g/\g.ro=false/\γ.loc b=aa (k,c)) (p:lT w γ.I X w' I') (t:w9 w' I' e T L v) (R:∀f c,L=aa (f,c)->X f\/w.heap.size<=f)
  (U:∀g,mem b=aa g->g.aM<uS.aM\/(g.aM=uS.aM/\L=γ.loc b/\uS.buf=g.buf/\uS.row=g.row)) (V:uS.val=.data (.slice e) T) (W:uS.buf=true) (Y:uS.tid=0) (he:0<e.size) :
  let bz:Gh:=⟨I',λi=>if i=b then L else γ.loc i⟩
  bC B bz (dd mem b uS) w'/\Ext B γ mem w bz (dd mem b uS) w':=by
 intro bz;have m:∀k,k<w.heap.size->¬X k->w'.heap[k]?=w.heap[k]?:=λk s K=>p.below.block k λq=>by
  rcases q with q|q
  .grind
  .grind
 have y:∀k,X k->∀o,¬γ.I k o:=λk s o u=>by
  obtain⟨g,c,n,r,M⟩:=J k s;have:=(h.sep b g k c o n M u).1
  grind
 have D:∀k,¬B.has k->k<w.heap.size:=λk s=>Y5 λq=>s (.inl<|gi h.base q);have z:∀k,X k->B.has k/\k<w.heap.size:=λk s=>by
  obtain⟨g,c,n,r,M⟩:=J k s;exact h.fresh b k c (by rw[n];simp) M
 have hx:Ext B γ mem w bz (dd mem b uS) w' :=
  { below:=⟨p.below.os,p.below.tape,p.below.output,p.below.size,λk s=>m k (D k s) λK=>s (z k K).1⟩
    I:=p.held
    qV:=λb o x=>by
     by_cases u:γ.I b o
     .grind
     .exact .inr (.inl<|gi h.base<|p.qV b o x u)
    cells:=λb o u=>dH (m b (h.te b o u) λK=>y b K o u)
    boxes:=λc cx j=>by
     by_cases l:c=b
     .subst l;refine⟨uS,bB _ _,?_,λE=>?_⟩
      .grind
      .grind
     .exact⟨cx,by rw[aZ _ l];exact j,bX _,λ_=>⟨by simp[bz,l],rfl,rfl⟩⟩ }
 have Z:∀f c,L=aa (f,c)->f<w'.heap.size/\∀o,¬I' f o:=λf c F=>by
  rcases t with ⟨q,_⟩|⟨G,cap,cur,tid,fr,q1,q2,q3,q4,q5,q6,q7,q8,q9⟩
  .grind
  .grind
 have A:∀{c d:Nat},c≠b->dd mem b uS c≠af->mem c≠none:=λj O=>by rwa [aZ _ j] at O
 have Q:∀{d f k c},d≠b->mem d≠af->L=aa _->γ.loc d=aa _->False:=λ{d f k c} hd O F r=>by
  rcases R f k F with W9|W9
  .obtain⟨g,c0,j1,j2,S⟩:=J f W9;exact hd (h.inj d b f c c0 O (by rw[j1];simp) r S)
  .have:=(h.fresh d f c O r).2;omega
 refine⟨?_,hx⟩;exact
  { tf:=h.BU hx
    base:=gi h.base p.below.size
    boxes:=λc cx j=>by
     by_cases l:c=b
     .subst l;rw[bB] at j;unfold ew;rcases t with ⟨q1,q2,q3⟩|⟨G,cap,cur,tid,fr,q1,q2,q3,q4,q5,q6,q7,q8,q9⟩
      .grind
      .grind
     .rw[aZ _ l] at j;refine(h.boxes c cx j).keep hx (by simp[bz,l]) λf k F=>m f (h.fresh c f k (by rw[j];simp) F).2 λW9=>?_;obtain⟨g,c0,j1,j2,S⟩:=J f W9;exact l (h.inj c b f k c0 (by rw[j];simp) (by rw[j1];simp) F S)
    inj:=λc d f k k' j hd n r=>by
     by_cases l:c=b
     .by_cases E:d=b
      .grind
      .exfalso;simp only[bz] at n;simp only[bz,aJ E] at r;simp_all
     .by_cases E:d=b
      .exfalso;simp only[bz] at n;simp only[bz] at r;simp_all
      .simp only[bz,aJ l] at n;simp only[bz,aJ E] at r;exact h.inj c d f k k' (A (d:=0) l j) (A (d:=0) E hd) n r
    fresh:=λc f k j n=>by
     by_cases l:c=b
     .grind
     .simp only[bz,aJ l] at n;have:=h.fresh c f k (A (d:=0) l j) n;exact⟨this.1,zf this.2 p.below.size⟩
    te:=p.te
    sep:=λc cx f k C j n u=>by
     by_cases l:c=b
     .grind
     .simp only[bz,aJ l] at n;rw[aZ _ l] at j;by_cases H:γ.I f C
      .exact h.sep c cx f k C j n H
      .have M:=p.qV f C u H;have r:=(h.fresh c f k (by rw[j];simp) n).2;omega }
def w9.rep{I loc mem w e l L v b aM bx}(h:w9 w I e l L v)
  (f:loc b=L) (p:mem b=aa bx) (g:bx.aM=aM) (c:bx.buf=true) (i:bx.val=.data (.slice e) l):cu ⟨I,loc⟩ mem w (.whole b aM) .val [v]:=by
 rcases h with ⟨k,m,n⟩|⟨j,o,q,tid,r,k,m,n,s,t,u,x,y,z⟩
 .exact⟨⟨v,rfl,by rw[n];rfl⟩,fY p g ⟨e,l.length,c,Box.dV c i,.inl ⟨by rw[<-k];exact f,by rw[n]⟩⟩⟩
 .exact⟨⟨v,rfl,by rw[m];rfl⟩,fY p g ⟨e,l.length,c,Box.dV c i,.inr ⟨j,o,by rw[<-k];exact f,by rw[m]⟩⟩⟩
def adV{mem}(h:bC B γ mem w){b aM i}{e:Ty}{l:List e.den}{v}(u:mem b=aa i)(m:i.aM=aM)(f:i.buf=true)(D:i.ro=false)(g:i.val=.data (.slice e) l)
  (E:cu γ mem w (.whole b aM) .val [v]):w9 w γ.I e l (γ.loc b) v/\0<e.size:=by
 obtain⟨O,n,Q,A,c⟩:=bk u m E.2;rw[Box.dV f g] at A;obtain⟨rfl,rfl⟩:=eh (aF A);have j:=h.boxes b i u;unfold ew at j;rw[f] at j;obtain⟨R,S,C,F,k⟩:=j;rw[g] at C;cases C;refine⟨?_,F⟩;rcases k with ⟨k,x⟩|⟨p,q,y,tid,G,k,x,H,T,J,K,L,z⟩
 .rcases c with ⟨c,r⟩|⟨s,t,c,r⟩
  .exact .inl ⟨c,x,vk r⟩
  .grind
 .rcases c with ⟨c,r⟩|⟨s,t,c,r⟩
  .grind
  .rw[k] at c;obtain⟨rfl,rfl⟩:=eh (aF c);refine .inr ⟨p,q,y,tid,G,k,vk r,x,H,J,K,L,λo M=>?_,z⟩;have:=(h.sep b i p q o u k M).1
   grind
def uW{e v b aM i l}(h:Aj e σ v=aa (b,aM,i,l)):σ.mem b=aa i/\i.aM=aM/\i.buf=true/\i.lk=false/\i.ro=false/\i.tid=0 /\
  ∃k:List e.den,i.val=.data (.slice e) k/\((v=.whole b aM/\l=k)\/∃n,v=.part b aM 0 n/\l=sub k 0 n):=by
 unfold Aj at h;split at h
 .rename_i r g;split at h
  .rename_i c p;cases f:(Nat.beq c.aM g&&c.buf&&!c.lk&&!c.ro&&Nat.beq c.tid 0) with
   | false=>rw[f] at h;cases h
   | true =>
     rw[f] at h;split at h
     .rename_i u k j;split at h
      .rename_i s m;obtain⟨q,o⟩:=mn m;subst q;subst o;simp_all
      .cases h
     .cases h
  .cases h
 .rename_i r g t n;split at h
  .rename_i c p;cases f:(Nat.beq c.aM g&&c.buf&&!c.lk&&!c.ro&&Nat.beq c.tid 0&&decide (t=0)) with
   | false=>rw[f] at h;cases h
   | true =>
     rw[f] at h;simp only[gz,DF,Ae] at f;split at h
     .rename_i u k j;split at h
      .rename_i s m;obtain⟨q,o⟩:=mn m;subst q;subst o;cases h;have x:=f.2;subst x;exact⟨p,gA f.1.1.1.1.1,f.1.1.1.1.2,f.1.1.1.2,f.1.1.2,gA f.1.2,_,j,.inr ⟨n,rfl,rfl⟩⟩
      .cases h
     .cases h
  .cases h
 .cases h
def Xa{mem}(h:bC B γ mem w){b aM m}{e:Ty}{l:List e.den}{n v}(z:mem b=aa m)(r:m.aM=aM)(c:m.buf=true)(J:m.ro=false)(f:m.val=.data (.slice e) l)
  (K:cu γ mem w (.part b aM 0 n) .val [v]):w9 w γ.I e (sub l 0 n) (γ.loc b) v/\0<e.size:=by
 obtain⟨V,k,D,W,X,Y,E,g,u,Z,k8,L,k9⟩:=bk z r K.2;rw[Box.dV c f] at D;obtain⟨rfl,rfl⟩:=eh (aF D);have p:=h.boxes b m z;unfold ew at p;rw[c] at p;obtain⟨e3,l3,F,M,j⟩:=p;rw[f] at F;cases F;refine⟨?_,M⟩;obtain u:=vk u;have hlen:(sub l 0 n).length=n.toNat:=by
  simp only[sub,dk,qU];omega
 rcases L.2 rfl c with ⟨s,rfl,rfl⟩|⟨q,s,rfl⟩
 .rcases j with ⟨j,y⟩|⟨q,A,t,tid,G,j,_⟩
  .subst y;have:n.toNat=0:=ag;exact .inl ⟨s,by simp[sub],by rw[u,this]⟩
  .grind
 .rcases j with ⟨j,y⟩|⟨H,A,t,tid,G,j,y,O,q6,q7,Q,R,C⟩
  .grind
  .rw[s] at j;obtain⟨rfl,rfl⟩:=eh (aF j);refine .inr ⟨q,g,t,tid,G,s,by rw[hlen];exact u,y,O,ag,Q,R,λo S=>?_,λi x T=>C i x ?_⟩
   .have:=(h.sep b m q g o z s S).1
    grind
   .have U:((l.drop (0:Int).toNat).take n.toNat)[i]?=aa x:=T
    grind
def PZ{e v b aM q l val}(k:bC B γ σ.mem w)(h:Aj e σ v=aa (b,aM,q,l))(m:cu γ σ.mem w v .val [val]):w9 w γ.I e l (γ.loc b) val/\0<e.size:=by
 obtain⟨o,c,f,r,j,p,s,g,i⟩:=uW h;rcases i with ⟨rfl,rfl⟩|⟨n,rfl,rfl⟩
 .exact adV k o c f j g m
 .exact Xa k o c f j g m
def yg{f s}(h:yM cx bf d f=aa s):find cx.PL f=aa s:=by
 unfold yM at h
 grind
def JX{f e i s}(E:pA P f (.clone e))(h:dm B N γ σ a w)(H:∀k,d=aa k->k<N)(J:lS γ σ.mem w i s.toList)
  (g:(mT nb e d i σ).run=aa aQ) {K} (M:D1 B N γ σ a w d aQ K) :
  (∃t m,P.funcs[f]?=aa t/\(t.name == "runtime.NumGoroutine")=false/\t.body=aa m)/\Calls P f s w λe w'=>∃v,e=.returned v/\K (a.put d v) w':=by
 unfold mT at g;split at g
 case h_2=>cases g
 rename_i k x;split at g
 case h_2=>cases g
 rename_i l bL O;obtain⟨Q,g⟩:=ay g;obtain⟨n,g⟩:=cQ g;obtain⟨aM,p,u⟩:=dQ g;obtain rfl:=aF u;obtain⟨R,r,y,S,T⟩:=J.cons;have j:r=[]:=by have:=T.1;simpa using this
 subst j;obtain⟨z,A,U,V,W,X⟩:=nX h S O;refine⟨E.1,(E.2 z.I w s l (λb o Y=>A.ok.te b o Y) ⟨V,[],by rw[y,X],W,rfl⟩ n).mono λq w' Z=>?_⟩;obtain⟨v,I',L,rfl,h1,F,h3⟩:=Z;refine⟨v,rfl,?_⟩;obtain⟨m1,G⟩:=A.ok.W7 (uS:={ val:=.data _ l,tid:=0,buf:=true,ro:=false,lk:=false,aM }) (λ_ hf=>hf.elim) h1 F (λC c hl=>.inr (h3 C c hl))
  (λD h0=>.inl (p D h0)) rfl rfl rfl (by simpa using Q)
 exact M _ _ w' (A.step G m1 (H k rfl)<|F.rep aS (bB _ _) rfl rfl rfl) (U.trans G)
def Oy{f e A res spec m R}(hs:pA P f (.own e A res spec))(h:dm B N γ σ a w)(hd:∀k,d=aa k->k<N)(hv:lS γ σ.mem w m R.toList)
  (i:(ua e A res spec d m σ).run=aa aQ) {K} (hK:D1 B N γ σ a w d aQ K) :
  (∃S z,P.funcs[f]?=aa S/\(S.name == "runtime.NumGoroutine")=false/\S.body=aa z)/\Calls P f R w λe w'=>∃v,e=.returned v/\K (a.put d v) w':=by
 unfold ua at i;split at i
 case h_2=>cases i
 rename_i v0 vs;split at i
 case h_2=>cases i
 rename_i x bL hg;split at i
 case h_2=>cases i
 rename_i b T C l D;obtain⟨E,r,i⟩:=cd i;obtain⟨U,F,g,hlk,V,p,l0,G,s⟩:=uW D;obtain⟨W,H,X,g1,g2⟩:=hv.cons;obtain⟨t,y,Y,u⟩:=kn h g2 hg;obtain⟨J,he⟩:=PZ y.ok D (g1.ext Y);refine⟨hs.1,(hs.2 t.I w R W H l E _ x (λb o hi=>y.ok.te b o hi) X J u r).mono λq w' hw=>?_⟩;obtain⟨I',h1,h2⟩:=hw;have hX:∀k,(∃c,t.loc b=aa _)->∃j c,bL.mem b=aa j/\j.ro=false/\t.loc b=aa (k,c):=λk ⟨c,hc⟩=>⟨C,c,U,V,hc⟩;cases res with
 | true =>
   cases d with
   | none=>cases i
   | some k =>
     obtain rfl:=aF i;obtain⟨v',L',rfl,Q,h4⟩:=h2;refine⟨v',rfl,?_⟩;obtain⟨m1,L⟩:=y.ok.W7 (b:=b) (uS:={ C with val:=.data (.slice e) E,aM:=T+1 }) hX h1 Q h4 (λj M=>by
      rw[U] at M;obtain rfl:=aF M;exact .inl (by simp[F])) rfl g p he
     exact hK _ _ w' (y.step L m1 (hd k rfl)<|Q.rep aS (bB _ _) rfl g rfl) (Y.trans L)
 | false =>
   have Z:rU v0=true/\aQ=(bL.cr b { C with val:=.data (.slice e) E }).bt d (.BI .nl):=by
    cases d with
    | none=>obtain⟨q1,q2⟩:=ay i;exact⟨q1,(aF q2).symm⟩
    | some k=>obtain⟨q1,q2⟩:=ay i;exact⟨q1,(aF q2).symm⟩
   obtain⟨hwh,rfl⟩:=Z;obtain rfl:l=l0:=by
    rcases s with ⟨_,q⟩|⟨n,rfl,_⟩
    .exact q
    .cases hwh
   obtain⟨rfl,O,Q⟩:=h2;refine⟨_,rfl,?_⟩;obtain⟨m1,L⟩:=y.ok.W7 (uS:={ C with val:=.data (.slice e) E }) hX h1 Q (λblk c hl=>.inl ⟨c,hl⟩) (λj M=>by
    rw[U] at M;obtain rfl:=aF M;exact .inr ⟨rfl,rfl,rfl,by rw[Box.dV g G,Box.dV (bx:={ C with val:=.data (.slice e) E }) g rfl,O]⟩) rfl g p he
   refine hK _ _ w' (y.bt L m1 hd ⟨#[],rfl,rfl⟩) ?_;cases d<;>exact Y.trans L
def Oz(b:nZ P B.G cx)(g:xa P B.G inl){f c q}(h:dm B N γ σ a w)(l:∀k,d=aa k->k<N)(m:lS γ σ.mem w c q.toList)
  (i:(vP cx nb bf inl d f c σ).run=aa aQ) {K} (n:D1 B N γ σ a w d aQ K) :
  (∃o j,P.funcs[f]?=aa o/\(o.name == "runtime.NumGoroutine")=false/\o.body=aa j)/\Calls P f q w λe w'=>∃v,e=.returned v/\K (a.put d v) w':=by
 unfold vP at i;split at i
 .rename_i e p;exact JX (b.PL f _<|yg p) h l m i n
 .rename_i e A r s p;exact Oy (b.PL f _<|yg p) h l m i n
 .exact RD b g h l m i n
def LV{o}{f:Nat}{g K Q}(i:(execOp a.eval o).run P w=(callFunc f g).run P w)
  (h:(∃c b,P.funcs[f]?=aa c/\(c.name == "runtime.NumGoroutine")=false/\c.body=aa b)/\Calls P f g w λe w'=>∃v,e=.returned v/\K (a.put o.dst v) w'):o.wp P a w K Q:=by
 obtain⟨⟨c,b,j,k,l⟩,m⟩:=h;unfold Oper.wp;rw[i,RC j k l];refine m.mono λe w' n=>?_
 grind
def Uk(K:fi P cx){t X:TypeId}{v x n}(L:bC B γ σ.mem w)(A:cu γ σ.mem w v .val [x])(p:Zd (find cx.T t) v=true)(f:lenOf σ v=aa n) :
  (Builtin.len_ #[t] X #[x]).run P w=.ok (goInt n) w/\IntKind.i64.min<=n/\n<=IntKind.i64.max:=by
 have Y:maxLen<=IntKind.i64.max:=aD;have Z:IntKind.i64.min<=0:=aD;have h:∀{base m c},(∃e,find cx.T t=aa (.slice e))->x=.slice base m c->n=m->m<=maxLen->(Builtin.len_ #[t] X #[x]).run P w=.ok (goInt n) w/\IntKind.i64.min<=n/\n<=IntKind.i64.max:=by
  intro base m c M hx hn L;obtain⟨e,M⟩:=M;obtain⟨O,Q,_⟩:=(K.T _ _ M).slice;subst hx;subst hn;refine⟨?_,ag,ag⟩;simp[Builtin.len_,run_underlying Q]
 have i:∀{o:Option Ty},(match o with|some (.slice _)=>true|_=>false)=true->∃e,o=aa (.slice e):=by
  grind
 cases v with
 | data u y =>
   cases u with
   | str =>
     obtain⟨rfl,C⟩:=yP A;obtain rfl:=aF f;have e1:(⟨List.toArray y⟩:ByteArray).size=List.length y:=by
      show(List.toArray y).size=_
      grind
     refine⟨?_,?_,?_⟩
     .simp only[Builtin.len_];simp[run_underlying<|(K.T _ _<|jF p).str,e1,len]
     .simp only[len];omega
     .simp only[len];omega
   | slice e =>
     obtain rfl:=aF f;obtain⟨cs,D,C⟩:=ej.1 A;rcases D with ⟨⟨_,D⟩,R⟩|⟨E,off,q,D,R,h4,_⟩
     .rw[D] at C;exact h ⟨e,jF p⟩ C (by rw[R];rfl) (pF _)
     .rw[D] at C;exact h ⟨e,jF p⟩ C rfl (gi R h4)
   | arr m e =>
     obtain⟨O,Q,_⟩:=(K.T _ _<|jF p).arr;simp only[lenOf] at f;cases j:Nat.ble m 4294967296 with
     | false=>rw[j] at f;cases f
     | true =>
       rw[j] at f;obtain rfl:=aF f;have:=JH j;have h9:4294967296<=IntKind.i64.max:=aD;refine⟨by simp[Builtin.len_,run_underlying Q],ag,ag⟩
   | _=>cases f
 | pN =>
   obtain rfl:=aF f;obtain rfl:x=_:=by simpa [cu] using A
   exact h (i p) rfl rfl (pF _)
 | whole b aM =>
   simp only[lenOf] at f;split at f
   .rename_i F j;cases g:(Nat.beq F.aM aM&&F.buf) with
    | false=>rw[g] at f;cases f
    | true =>
      rw[g] at f;simp only[gz] at g;split at f
      .rename_i u l r;obtain rfl:=aF f;obtain⟨e',k,S,U,G⟩:=bk j (gA g.1) A.2;rw[Box.dV S r] at U;obtain⟨rfl,rfl⟩:=eh (aF U);rcases G with ⟨G,H⟩|⟨E,q,G,H⟩
       .have I:=L.boxes b F j;rw[ew,S] at I;obtain⟨e3,l3,V,q2,z⟩:=I;rw[r] at V;cases V;rcases z with ⟨_,z⟩|⟨E,q,W,tid,fr,z,_⟩
        .exact h (i p) (vk H) (by rw[z];rfl) (pF _)
        .grind
       .obtain⟨W,tid,fr,V,q2,z,q4,_⟩:=((L.boxes b F j).row G).1 _ l S r;exact h (i p) (vk H) rfl (gi z q4)
      .cases f
   .cases f
 | part b aM lo n' =>
   simp only[lenOf] at f;cases s:live σ b aM with
   | false=>rw[s] at f;cases f
   | true =>
     rw[s] at f;obtain rfl:=aF f;obtain⟨F,j,J⟩:=kQ s;obtain⟨e',k,U,G,H,g5,base,q,g6,g7,g8,gF,g9⟩:=bk j J A.2;exact h (i p) (vk g6) (ac1 H).symm (gi g7 g8)
 | _=>cases f
def fa.take{w I e l cs}(h:fa w I e l cs) k:fa w I e (l.take k) (cs.take<|k*e.size):=by
 intro i x b;rw[jq] at b;split at b
 .rename_i c;have f:_*e.size<=k*e.size:=gN _ c;rw[Hf] at f;rw[Y9,Oj,wO ag];exact h i x b
 .cases b
def fa.drop{w I e l cs}(h:fa w I e l cs) k:fa w I e (l.drop k) (cs.drop<|k*e.size):=by
 intro i x b;rw[tu] at b;rw[Af,<-iF];exact h _ x b
def I4{α}{l m:List α}{b:Int}(c:0<=b)(h:b+m.length<=l.length):(over l b m).length=l.length:=by
 simp only[over,jt,dk,qU];omega
def fa.over{w I e l m cs news}{lo:Int}(h:fa w I e l cs)(n:fa w I e m news)(f:news.length=m.length*e.size)(s:0<=lo)
  (t:lo+m.length<=l.length) (u:l.length*e.size<=cs.length):fa w I e (over l lo m) (ba cs (lo.toNat*e.size) news):=by
 have o:(lo.toNat+m.length)*e.size<=l.length*e.size:=gN _ ag;rw[iF] at o;have k:=(h.take lo.toNat).append (rest:=[]) n (by rw[dk,dk,wO ag,wO ag]) f;rw[vl] at k;have p:ba cs (lo.toNat*e.size) news=cs.take (lo.toNat*e.size)++news++cs.drop ((lo.toNat+m.length)*e.size):=by
  simp only[ba,f,iF]
 rw[p];intro i x g;by_cases b:(lo.toNat+m.length)*e.size+(l.length-(lo.toNat+m.length))*e.size=l.length*e.size
 .have q:fa w I e (Go.Ge.over l lo m) (cs.take (lo.toNat*e.size)++news++(cs.drop<|(lo.toNat+m.length)*e.size)):=by
   intro i x g;by_cases j:i<lo.toNat+m.length
   .have c:(l.take lo.toNat++m)[i]?=aa x:=by
     simp only[Go.Ge.over] at g
     grind
    rw[oI<|by rw[jt,dk,f,wO ag,<-iF];exact(gN _ j)];exact k i x c
   .have c:(l.drop<|lo.toNat+m.length)[i-(lo.toNat+m.length)]?=aa x:=by
     simp only[Go.Ge.over] at g
     grind
    have:=h.drop _ _ x c;have r:i*e.size=(cs.take (lo.toNat*e.size)++news).length+(i-(lo.toNat+m.length))*e.size:=by
     rw[jt,dk,f,wO ag,<-iF,<-iF];congr 1;omega
    rw[r,<-Af]
    grind
  exact q i x g
 .exact absurd (by rw[<-iF];congr 1;omega) b
def xc(h:dm B N γ σ a w){e m b aM q chk lo base news}
  (hr:(kP e m b aM q chk lo σ).run=aa aQ) (hE:fa w γ.I e m news) (hn:news.length=m.length*e.size) (X:∀u∈news,u.oneCell'=true) (h0:0<=lo)
  (Y:∀bx (l:List e.den),σ.mem b=aa bx->bx.aM=aM->bx.buf=true->bx.val=.data (.slice e) l->q=[]->lo+m.length<=l.length)
  (Z:∀bx k (l:List e.den),σ.mem b=aa bx->bx.aM=aM->bx.buf=false->(nav q bx.val).run=aa (.data (.arr k e) l)->chk k e=true->lo+m.length<=k)
  (K:m=[]\/∃g c,γ.loc b=aa (g,c)/\base=aa ⟨g,eg q+lo.toNat*e.size,af⟩) :
  ∃w',(match base with|some ad=>storeCells ad news|none=>pure ()).run P w=.ok () w'/\dm B N γ aQ a w'/\Ext B γ σ.mem w γ aQ.mem w':=by
 unfold kP at hr;split at hr
 case h_2=>cases hr
 rename_i bx hb;obtain⟨hcd,o⟩:=ay hr;simp only[gz,DF] at hcd;obtain⟨⟨p,hlk⟩,hro⟩:=hcd;have p:=gA p;have s:=h.ok.boxes b bx hb;have G:m=[]->news=[]:=λU=>by subst U;simpa using hn
 have H:m=[]->(match base with|some ad=>storeCells ad news|none=>pure ()).run P w=.ok () w:=λU=>by
  rw[G U];cases base<;>rfl
 have r:∀g c f tid y,γ.loc b=aa (g,c)->w.heap[g]?=aa (.cells f tid y)->ni f y->eg q+lo.toNat*e.size+news.length<=f.size ->
   (match base with|some ad=>storeCells ad news|none=>pure ()).run P w=.ok () (w.setRow g (ba f.toList (eg q+lo.toNat*e.size) news).toArray):=by
  intro g c f tid y hl V hth L;rcases K with U|⟨LJ,c',hl',rfl⟩
  .rw[H U,G U];simp only[ba,vl,pM,Fm,Fk];rw[setRow_self w g f tid y V]
  .rw[hl] at hl';have:=dx (P:=P) g _ tid y news 0 f w V hth ag X
   grind
 split at o
 .rename_i j;split at o
  case h_2=>cases o
  rename_i u l D;split at o
  case h_2=>cases o
  rename_i E M;obtain rfl:=aF o;obtain⟨hq,O⟩:=mn M;subst hq;obtain rfl:E=m:=O;have L:=Y bx l hb p j D rfl;have hlen:=I4 h0 L;unfold ew at s;rw[j] at s;obtain⟨e2,l2,j1,j2,j3⟩:=s;rw[D] at j1;cases j1;have Q:({ bx with val:=.data (.slice e) (over l lo E) }:Box).row=bx.row:=by
   rw[Box.dV j D];exact(Box.dV (bx:=⟨.data (.slice e) _,bx.tid,bx.buf,bx.ro,bx.lk,bx.aM⟩) j rfl).trans (by rw[hlen])
  rcases j3 with ⟨J,R⟩|⟨g,t,f,tid,y,J,R,k3,z,k4,k5,k6,k7⟩
  .subst R;have hm0:E=[]:=by
    grind
   subst hm0;have e1:σ.cr b { bx with val:=.data (.slice e) (over ([]:List e.den) lo []) }=σ:=by
    have:({ bx with val:=.data (.slice e) (over ([]) lo []) }:Box)=bx:=by
     cases bx;subst D;simp[over]
    simp only[St.cr]
    congr 1
    funext i;by_cases hi:i=b
    .grind
    .simp[iJ hi]
   rw[e1];exact⟨w,H rfl,h,Ext.refl _ _ _ _⟩
  .have n:eg ([])+lo.toNat*e.size+news.length<=f.size:=by
    have:(lo.toNat+E.length)*e.size<=t*e.size:=gN _ ag;rw[iF] at this;simp only[eg];omega
   have hst:=r g t f tid y J R k3.th n;have v:(ba f.toList (lo.toNat*e.size) news).toArray.size=f.size:=by have:=bP (by simp only[eg] at n;omega);simpa using this
   obtain⟨m1,m2⟩:=h.ok.write hb hro J R (cur':=(ba f.toList _ news).toArray) v Q
    (λw' mem' W V=>by
     simp only[j];refine⟨e,_,rfl,j2,.inr ⟨g,t,_,tid,y,J,V,k3.same v,z,by rw[hlen];exact k4,k5,by rw[v];exact k6,?_⟩⟩;intro i x hx';have:=fa.over k7 hE hn h0 L (by show _<=f.size;rw[k6];exact gN _ k4) i x hx';simpa using bH.mono W.I W.cells this)
   simp only[eg,BD] at hst;exact⟨_,hst,h.go m2 m1,m2⟩
 .rename_i j;obtain⟨old,F,S⟩:=bind_some o;split at S
  case h_2=>cases S
  rename_i k u l;obtain⟨hck,T⟩:=ay S;split at T
  case h_2=>cases T
  rename_i E M;obtain⟨c,hs,hr5⟩:=bind_some T;obtain rfl:=aF hr5;obtain⟨hq,O⟩:=mn M;subst hq;obtain rfl:E=m:=O;unfold ew at s;rw[j] at s;obtain⟨g,t,f,tid,y,J,R,k3,z,k4⟩:=s;obtain⟨p1,p2⟩:=yd k4 F;obtain⟨r1,r2,r3⟩:=p2;have hll:lo+E.length<=(List.length l):=by rw[r1];exact(Z bx k l hb p j F hck)
  have al0:(lo.toNat+E.length)*e.size<=k*e.size:=gN _ ag;rw[iF] at al0;have n:eg q+lo.toNat*e.size+news.length<=f.size:=by have p1':eg q+k*e.size<=f.size:=p1;omega
  have A:((f.toList.drop _).take<|k*e.size).length=k*e.size:=r2;have C:lo.toNat*e.size+news.length<=((f.toList.drop<|eg q).take<|k*e.size).length:=ag;have al1:bH w γ.I (.arr k e) (over l lo E) (ba ((f.toList.drop<|eg q).take<|k*e.size) (lo.toNat*e.size) news):=by
   refine⟨(I4 h0 hll).trans r1,by rw[bP C,A],?_⟩;exact fa.over r3 hE hn h0 hll (by rw[A];exact DT (by rw[r1]))
  have Q:=IZ (by rw[j];exact hs) λhp _=>by
   subst hp;rw[Box.r8 j<|aF F];exact Box.r8 j rfl
  have v:(ba f.toList (eg q+lo.toNat*e.size) news).toArray.size=f.size:=by have:=bP n;simpa using this
  obtain⟨m1,m2⟩:=h.ok.write hb hro J R (cur':=(ba f.toList _ news).toArray) v Q
   (λw' mem' W V=>by
    simp only[j];refine⟨g,t,_,tid,y,J,V,k3.same v,z,?_⟩;have:=An (k4.ext W) F hs (bH.mono W.I W.cells al1) (by rw[bP C,A];rfl);rw[(uc f.toList _ _ (k*e.size) news ag p1)] at this;simpa using this)
  exact⟨_,(r g t f tid y J R k3 n),h.go m2 m1,m2⟩
def FR{e L t V r}(h:dm B N γ σ a w)(hv:cu γ σ.mem w t .val [V])(M:(Hi e L t σ).run=aa r) :
  ∃g o,V=.slice g r.1.toNat o/\0<=r.1/\∀i,fa w γ.I e (L r.1) i->i.length=(L r.1).length*e.size->(∀u∈i,u.oneCell'=true)->(L r.1).length<=r.1.toNat ->
   ∃w',(match g with|some ad=>storeCells ad i|none=>pure ()).run P w=.ok () w'/\dm B N γ r.2 a w'/\Ext B γ σ.mem w γ r.2.mem w':=by
 unfold Hi at M;split at M
 .rename_i b G lo n;obtain⟨bL,f,H⟩:=bind_some M;obtain rfl:=aF H;have p:∃z,σ.mem b=aa z/\z.aM=G:=by
   unfold kP at f;split at f
   .rename_i z A;obtain⟨W,_⟩:=ay f;simp_all
   .cases f
  obtain⟨z,A,v⟩:=p;obtain⟨e',k,Q,R,S,g5,g,o,g6,g7,g8,gF,T⟩:=bk A v hv.2;refine⟨g,o,by simpa using g6,S,λi X hn x Y=>?_⟩;refine xc h f X hn x R (λJ l C _ s m _=>?_) (λJ k' l C _ s F _=>?_) ?_
  .obtain rfl:=aF (A.symm.trans C);rw[Box.dV s m] at Q
   grind
  .obtain rfl:=aF (A.symm.trans C);have m:=aF F;rw[Box.r8 s m] at Q
   grind
  .rcases T with T|⟨y,c,T,Z⟩
   .grind
   .by_cases hm:L n=[]
    .grind
    .right;have he:e'=e:=by
      unfold kP at f;rw[A] at f;obtain⟨_,j⟩:=ay f;split at j
      .rename_i s;split at j
       case h_2=>cases j
       rename_i u l m;split at j
       case h_2=>cases j
       rename_i m' D;obtain⟨hq,_⟩:=mn D;rw[Box.dV s m] at Q
       grind
      .rename_i s;obtain⟨old,F,E⟩:=bind_some j;split at E
       case h_2=>cases E
       rename_i k' u l;obtain⟨_,K⟩:=ay E;split at K
       case h_2=>cases K
       rename_i m' D;obtain⟨hq,_⟩:=mn D;have m:=aF F;rw[Box.r8 s m] at Q
       grind
     subst he;exact⟨y,c,T,by rw[Z];simp[eg]⟩
 .rename_i b G;split at M
  case h_2=>cases M
  rename_i n O;obtain⟨bL,f,H⟩:=bind_some M;obtain rfl:=aF H;have p:∃z,σ.mem b=aa z/\z.aM=G:=by
   unfold kP at f;split at f
   .rename_i z A;obtain⟨W,_⟩:=ay f;simp_all
   .cases f
  obtain⟨z,A,v⟩:=p;obtain⟨e',k,g1,Q,R⟩:=bk A v hv.2;have hbx:=h.ok.boxes b z A;have hl:∃l,z.val=.data (.slice e) l/\n=l.length:=by
   unfold kP at f;rw[A] at f;obtain⟨_,j⟩:=ay f;split at j
   .split at j
    case h_2=>cases j
    rename_i u l hq0 m;split at j
    case h_2=>cases j
    rename_i m' D;obtain⟨hq,_⟩:=mn D;subst hq;refine⟨l,m,?_⟩;simp only[lenOf,A,v,g1,adm,m] at O;exact(aF O).symm
   .grind
  obtain⟨l,m,rfl⟩:=hl;rw[Box.dV g1 m] at Q;obtain⟨rfl,rfl⟩:=eh (aF Q);have fin:∀{g o},V=.slice g l.length o->(l.length=0\/∃y c,γ.loc b=aa (y,c)/\g=aa ⟨y,0,af⟩) ->
    ∃g o,V=.slice g (l.length:Int).toNat o/\0<=l.length/\∀i,fa w γ.I e (L l.length) i->i.length=(L l.length).length*e.size->(∀u∈i,u.oneCell'=true)->(L l.length).length<=(l.length:Int).toNat ->
     ∃w',(match g with|some ad=>storeCells ad i|none=>pure ()).run P w=.ok () w'/\dm B N γ bL a w'/\Ext B γ σ.mem w γ bL.mem w':=by
   intro g o htv hb0;refine⟨g,o,by simpa using htv,ag,λi X hn x Y=>?_⟩;refine xc h f X hn x ag (λJ l' C _ s aoG _=>?_) (λJ k' l' C _ s F _=>?_) ?_
   .grind
   .grind
   .rcases hb0 with hb0|⟨y,c,q1,q2⟩
    .simp_all
    .right;exact⟨y,c,q1,by rw[q2];simp[eg]⟩
  rcases R with ⟨R,S⟩|⟨y,o,R,S⟩
  .obtain S:V=_:=by simpa using S
   rw[ew] at hbx
   grind
  .grind
 .rename_i b G q u k lo n;obtain⟨bL,f,H⟩:=bind_some M;obtain rfl:=aF H;have p:∃z,σ.mem b=aa z/\z.aM=G:=by
   unfold kP at f;split at f
   .rename_i z A;obtain⟨W,_⟩:=ay f;simp_all
   .cases f
  obtain⟨z,A,v⟩:=p;obtain⟨hq,y,c,g1,R,S,g5,g,o,g6,g7,T⟩:=bk A v hv.2;refine⟨g,o,by simpa using g6,S,λi X hn x Y=>?_⟩;refine xc h f X hn x R (λJ l C _ s m hq0=>absurd hq0 hq) (λJ k' l C _ s F U=>?_) ?_
  .simp_all;omega
  .rcases T with T|Z
   .grind
   .by_cases hm:L n=[]
    .grind
    .right;have he:u=e:=by
      unfold kP at f;rw[A] at f;obtain⟨_,j⟩:=ay f;split at j
      .split at j
       .grind
       .cases j
      .obtain⟨old,F,E⟩:=bind_some j;split at E
       case h_2=>cases E
       obtain⟨U,K⟩:=ay E;split at K
       case h_2=>cases K
       rename_i m' D;obtain⟨hq',_⟩:=mn D;simp at U;exact(Ty.eq_of_beq U.2).trans hq'.symm
     grind
 .cases M
def LW{I e m v}(h:BW w I e m v) n (hn:n<=m.length) :
  ∃b,(Builtin.firstCells e.size n v).run P w=.ok b.toArray w/\b.length=n*e.size/\(∀u∈b,u.oneCell'=true)/\fa w I e (m.take n) b/\(Builtin.lenOf v).run P w=.ok m.length w:=by
 rcases h with ⟨rfl,g,c,k,q,r⟩|⟨s,t,c,k,q,r,y⟩
 .obtain rfl:n=0:=by simpa using hn
  subst k;refine⟨[],?_,aS,λu z=>absurd z aS,λi x f=>absurd f aS,rfl⟩;cases g with
  | none=>rfl
  | some A=>exact run_firstCells_some w e.size 0 A 0 c [] aS (λj v o=>by cases o)
 .obtain⟨b,p,C,D,E⟩:=Ex (l:=m.take n) λi x f=>by
   rw[jq] at f;split at f
   .exact y i x f
   .cases f
  rw[dk,wO hn] at p;refine⟨b,?_,p,D,E,by rw[k];rfl⟩;rw[k];exact run_firstCells_some w e.size n _ m.length c b p (λj u o=>by rw[addr_add];exact C j u o)
def LX{I s} n (hn:n<=s.length) :
  ∃e,(Builtin.firstCells 1 n<|.string ⟨s.toArray⟩).run P w=.ok e.toArray w/\e.length=n/\(∀u∈e,u.oneCell'=true)/\fa w I (.int .u8) ((ax s).take n:List Int) e/\(Builtin.lenOf<|.string ⟨s.toArray⟩).run P w=.ok (ax s).length w:=by
 refine⟨(s.take n).map λb=>Value.int .u8 b.toNat,?_,by simp[hn],λu h=>?_,λi x l=>?_,?_⟩
 .simp only[Builtin.firstCells];simp_all
 .obtain⟨_,_,rfl⟩:=Lm.1 h;rfl
 .have c:((ax s).take n)[i]?=aa x:=l;rw[jq] at c;split at c
  .rename_i m;simp only[ax,Em] at c;cases g:s[i]? with
   | none=>rw[g] at c;cases c
   | some b =>
     rw[g] at c;obtain rfl:_=x:=aF c;refine⟨?_,Rz b⟩;apply DE;intro j;rw[jq];split
     .rename_i f;obtain rfl:j=0:=by simp[Ty.size] at f;exact f
      simp[Ty.size,g,m]
     .rename_i f;obtain⟨k,rfl⟩:∃k,j=k+1:=⟨j-1,by simp[Ty.size] at f;omega⟩;simp
  .grind
 .simp[Builtin.lenOf,ax,ByteArray.size]
def zu s:(ax s).length=s.length:=yJ ..
def adX{s n}(h:n<=(ax s).length):n<=s.length:=by rw[zu] at h;exact h
def Xb(g:bC B γ σ.mem w){e m x v}(f:cu γ σ.mem w x .val [v])(h:yL e σ x=aa m) n (hn:n<=m.length) :
  ∃b,(Builtin.firstCells e.size n v).run P w=.ok b.toArray w/\b.length=n*e.size/\(∀u∈b,u.oneCell'=true)/\fa w γ.I e (m.take n) b/\(Builtin.lenOf v).run P w=.ok m.length w:=by
 unfold yL at h;split at h
 .rename_i t;obtain⟨q,i⟩:=mn h;subst q;subst i;obtain⟨j,_⟩:=yP f;rw[j];have c:n<=List.length t:=adX hn;obtain⟨b,k,l,o,p,r⟩:=LX n c;exact⟨b,k,by rw[l];simp[Ty.size],o,p,r⟩
 .exact LW (tC g f h) n hn
def LY(C:fi P cx){u tx ty t x}(h:dm B N γ σ a w)(D:∀k,d=aa k->k<N)(c:(zi cx d u (cW σ t) (cW σ x) σ).run=aa aQ) :
  nU P B N γ σ a w d (Builtin.copy_ #[u,tx] ty #[a.eval t,a.eval x]) aQ:=by
 unfold zi at c;split at c
 case h_2=>cases c
 rename_i e E;split at c
 case h_1=>cases c
 rename_i m f;obtain⟨r,l,n⟩:=bind_some c;obtain rfl:=aF n;obtain⟨F,G,H,V,W⟩:=(C.T _ _ E).slice;obtain⟨g,o,I,X,J⟩:=FR (P:=P) h (h.cW t) l;have hlen:(mo m r.1).length=Nat.min m.length r.1.toNat:=by
  simp only[mo,dk];apply Nat.min_comm
 obtain⟨i,K,L,M,y,O⟩:=Xb (P:=P) h.ok (h.cW x) f _ (Nat.min_le_left _ _);have b:(m.take<|Nat.min m.length r.1.toNat)=mo m r.1:=by
  simp only[mo]
  grind
 rw[b] at y;obtain⟨w',j,Q,R⟩:=J i y (by rw[L,hlen]) M (by rw[hlen];apply Nat.min_le_right);have z:(mo m r.1).length<=maxLen:=by
  rcases Y3 (mo m r.1).length with S|S
  .omega
  .rw[hlen];refine gi (Nat.min_le_left _ _) ?_;have hv:=h.cW x;unfold yL at f;split at f
   .rename_i s hs;obtain⟨q,U⟩:=mn f;subst q;subst U;rw[hs] at hv;obtain⟨_,A⟩:=yP hv;exact gi (DT<|zu s) A
   .rcases tC h.ok hv f with ⟨rfl,_⟩|⟨_,_,o,_,A,Y,_⟩
    .grind
    .grind
 refine⟨goInt (mo m r.1).length,w',γ,?_,?_,?_⟩
 .have p:=H.sizeOf w;simp only[Builtin.copy_,I];simp only[ah7,ah4,ah5,Sem.run_bind,run_underlying G,Result.andThen_ok,O,p,K,hlen];cases g with
  | none=>injection j with _ j;subst j;rfl
  | some Z=>simp only[Sem.run_bind,j,Result.andThen_ok,Sem.run_pure]
 .have h9:maxLen<=IntKind.i64.max:=aD;have h8:IntKind.i64.min<=0:=aD;have:=Q.wW D (v:=.data (.int .i64) (len _)) (val:=goInt (mo m r.1).length) (mkInt ⟨by simp only[len];omega,by simp only[len];omega⟩)
  grind
 .cases d<;>exact R
def JY(q:fi P cx){n ty t}(h:dm B N γ σ a w)(g:(zj cx n (cW σ t) σ).run=aa aQ) :
  nU P B N γ σ a w af (Builtin.clear_ #[n] ty #[a.eval t]) aQ:=by
 unfold zj at g;split at g
 case h_2=>cases g
 rename_i e s;obtain⟨r,k,l⟩:=bind_some g;obtain rfl:=aF l;obtain⟨v,y,A,L,C⟩:=(q.T _ _ s).slice;obtain⟨c,D,E,M,F⟩:=FR (P:=P) h (h.cW t) k;have hlen:(lP r.1 e.zero).length=r.1.toNat:=by simp[lP]
 obtain⟨z,O,o⟩:=A.zero w;have f:=jE w γ.I (.arr r.1.toNat e);have j:(Builtin.zeroCells z.cells r.1.toNat).toList=e9 (.arr r.1.toNat e):=by
  have m:z.cells.size=e.size:=by rw[<-ea e,<-o];simp
  rw[<-(w8 o C r.1.toNat)];simp only[Builtin.zeroCells,madeCells,m]
 obtain⟨w',b,G,H⟩:=F _ (λi x J=>f.2.2 i x J) (by rw[ea,hlen];rfl) (λu K=>f.one u K) (DT hlen);refine⟨.tuple #[],w',γ,?_,G,H⟩;simp only[Builtin.clear_,E];simp only[ah7,ah4,Sem.run_bind,run_underlying y];cases c with
 | none=>injection b with _ b;subst b;rfl
 | some Q =>
   by_cases p:r.1.toNat=0
   .have:e9 (.arr r.1.toNat e)=[]:=List.eq_nil_of_length_eq_zero (by rw[ea];simp[Ty.size,p]);rw[this] at b;injection b with _ b
    rw[p];simp_all
   .simp_all
def FT{least p q r u v}(h:cu γ σ.mem w p .val [u])(i:cu γ σ.mem w q .val [v])(f:(Rl least p q).run=aa r) :
  ∃z,((if least then Builtin.min2 u v else Builtin.max2 u v)).run P w=.ok z w/\cu γ σ.mem w r .val [z]:=by
 unfold Rl at f;split at f
 .rename_i k n l m;obtain⟨j,g⟩:=ay f;obtain rfl:=zh j;obtain rfl:=aF g;obtain⟨rfl,c⟩:=vm h;obtain⟨rfl,e⟩:=vm i;have cmp:∀n m,k.min<=n/\n<=k.max->k.min<=m/\m<=k.max->cu γ σ.mem w (.data (.int k)<|aiB n m) .val [.int k<|if m<n then m else n]/\cu γ σ.mem w (.data (.int k)<|imax n m) .val [.int k<|if m > n then m else n]:=by
   intro n m c e;constructor
   .unfold aiB;by_cases b:m<n
    .simp only[b];exact mkInt e
    .simp only[b,decide_false,BF];exact mkInt c
   .unfold imax;by_cases b:n<m
    .simp only[b];exact mkInt e
    .simp only[b];exact mkInt c
  cases least with
  | true=>exact⟨_,rfl,(cmp n m c e).1⟩
  | false=>exact⟨_,rfl,(cmp n m c e).2⟩
 .cases f
end
end Go.Ge
namespace Go.Ge
open RowKit
section
variable {P:Program} {B:BT} {N:Nat} {γ:Gh} {σ aQ:St} {a:Act} {w w':World} {d:Option Nat} {cx:Ctx} {nb:Nat} {bf:List Nat} {inl:Nat->List ch->St->Tree (ch×St)}
def RE{f:Operand->ch}{l x}(h:l.map f=[x]):∃o,l=[o]/\f o=x:=by
 simp_all
def KJ{f:Operand->ch}{l x y}(h:l.map f=[x,y]):∃o p,l=[o,p]/\f o=x/\f p=y:=by
 cases l with
 | nil=>cases h
 | cons o r =>
   obtain⟨p,b,c⟩:=RE (by simp at h⊢;exact h.2)
   grind
def fK{b:Type}{a:Array b}{l}(h:a.toList=l):a=l.toArray:=by rw[<-h]
def aaK{α}(k:Value->Array Value->Sem α) x b:(match(#[x]++b)[0]? with|some recv=>k recv ((#[x]++b).extract 1 (#[x]++b).size)|x=>stuck "call: a method without a receiver")=k x b.toList.toArray:=by
 have c:(#[x]++b)[0]?=aa x:=by rw[<-acW,YZ];rfl
 simp_all
def Xc(L:fi P cx)(E:nZ P B.G cx)(V:xa P B.G inl){o:Oper}{c}(C:o.op=.call c)(h:dm B N γ σ a w)(H:∀k,o.dst=aa k->k<N)
  (j:(wT cx nb bf inl o.dst o.type c σ).run=aa aQ) {K} {Q} (D:D1 B N γ σ a w o.dst aQ K):o.wp P a w K Q:=by
 unfold wT at j;split at j
 .rename_i b g;split at j
  ·
   rename_i x t p J;obtain⟨m,l,rfl⟩:=RE p;cases M:Zd _ _ with
   | false =>
     rw[M] at j;simp at j;split at j
     .rename_i e b aM q u k lo n he p;obtain⟨hl,i⟩:=ay j;simp at hl;obtain rfl:=aF i;obtain⟨bx,hbx,W⟩:=kQ hl.1;have hv:=h.cW m;rw[p] at hv;obtain⟨_,blk,c',g1,g2,g3,g4,base,cap,g5,g6,g7⟩:=bk hbx W hv.2;refine bY (s:=Builtin.len_ c.argTypes o.type (c.args.map a.eval)) ?_ (bM h H (x:=.int .i64 n) ?_<|mkInt ⟨Int.le_trans aD g3,Int.le_trans hl.2 aD⟩) D
      .unfold execOp;simp only[C,resolve,g,invoke,builtin];rfl
      .rw[fK l,fK J,show Array.map a.eval [m].toArray=#[a.eval m] from aS,g5];simp[Builtin.len_,run_underlying (Ap L he).1,ac1 g3];rfl
     .exact absurd j cg
   | true =>
   have i:(match lenOf σ (cW σ m) with|some n=>Tree.ret (σ.bt o.dst<|.data (.int .i64) n)|none=>.fail).run=aa aQ:=by rw[M] at j;exact j
   split at i
   .rename_i n hn;obtain rfl:=aF i;obtain⟨l1,l2⟩:=Uk L h.ok (h.cW m) M hn;refine bY (s:=Builtin.len_ c.argTypes o.type (c.args.map a.eval)) ?_ (bM h H ?_<|mkInt l2) D
    .unfold execOp;simp only[C,resolve,g,invoke,builtin];rfl
    .rw[fK l,fK J,show Array.map a.eval [m].toArray=#[a.eval m] from aS];exact l1
   .exact absurd i cg
  .rename_i s x t u p J;obtain⟨os,m,l,rfl,rfl⟩:=KJ p;have key:(∃e,P.underlying u=aa (.slice e))\/P.underlying u=aa .string->(iI cx nb o.dst t (cW σ os) (cW σ m) σ).run=aa aQ->o.wp P a w K Q:=by
    intro hk i;refine bY (s:=Builtin.append_ c.argTypes o.type (c.args.map a.eval)) ?_ ?_ D
    .unfold execOp;simp only[C,resolve,g,invoke,builtin];rfl
    .rw[fK l,fK J,show Array.map a.eval [os,m].toArray=#[a.eval os,a.eval m] from aS];exact Hy L h H hk i
   split at j
   .rename_i hu;exact key (.inr (L.T _ _ hu).str) j
   .rename_i e hu;obtain⟨eid,f1,_⟩:=(L.T _ _ hu).slice
    grind
   .exact absurd j cg
  .rename_i t x tt tx p J;obtain⟨U,m,l,rfl,rfl⟩:=KJ p;have key:(zi cx o.dst tt (cW σ U) (cW σ m) σ).run=aa aQ->o.wp P a w K Q:=by
    intro i;refine bY (s:=Builtin.copy_ c.argTypes o.type (c.args.map a.eval)) ?_ ?_ D
    .unfold execOp;simp only[C,resolve,g,invoke,builtin];rfl
    .rw[fK l,fK J,show Array.map a.eval [U,m].toArray=#[a.eval U,a.eval m] from aS];exact LY L h H i
   split at j
   .grind
   .grind
   .exact absurd j cg
  .rename_i t tt p J;obtain⟨U,l,rfl⟩:=RE p;split at j
   .rename_i X;refine bY (s:=Builtin.clear_ c.argTypes o.type (c.args.map a.eval)) ?_ ?_ D
    .unfold execOp;simp only[C,resolve,g,invoke,builtin];rfl
    .rw[fK l,fK J,show Array.map a.eval [U].toArray=#[a.eval U] from aS,X];exact JY L h j
   .exact absurd j cg
  .rename_i x y p;obtain⟨m,Y,l,rfl,rfl⟩:=KJ p;obtain⟨v,hb,i⟩:=bind_some j;obtain rfl:=aF i;obtain⟨z,Z,z2⟩:=FT (P:=P) (h.cW m) (h.cW Y) hb;refine bY (s:=Builtin.min_ c.argTypes o.type (c.args.map a.eval)) ?_ (bM h H (x:=z) ?_ z2) D
   .unfold execOp;simp only[C,resolve,g,invoke,builtin];rfl
   .rw[fK l,show Array.map a.eval [m,Y].toArray=#[a.eval m,a.eval Y] from aS];simp at Z;simp[Builtin.min_,Z]
  .rename_i x y p;obtain⟨m,Y,l,rfl,rfl⟩:=KJ p;obtain⟨v,hb,i⟩:=bind_some j;obtain rfl:=aF i;obtain⟨z,Z,z2⟩:=FT (P:=P) (h.cW m) (h.cW Y) hb;refine bY (s:=Builtin.max_ c.argTypes o.type (c.args.map a.eval)) ?_ (bM h H ?_ z2) D
   .unfold execOp;simp only[C,resolve,g];rfl
   .rw[fK l];simp at Z;simp[Builtin.max_,Z]
  .exact absurd j cg
 .rename_i f g;split at j
  .rename_i fid aax hf;obtain⟨O,i⟩:=ay j;have hv:=h.cW f;rw[hf] at hv;obtain⟨R,v1,v2,v3⟩:=hv;have S:=PY (w:=w) (F:=fid) (arr:=R) ⟨R,rfl,v2,v3⟩ O;obtain v1:=vk v1;have A:lS γ σ.mem w (c.args.toList.map (cW σ)++aax.map λb=>.ptr b.1 b.2 []) (c.args.map a.eval++R).toList:=by
    rw[YZ,ac5];exact(PX h).append S
   refine LV ?_ (Oz E V h H A i D);unfold execOp;simp only[C,resolve,g,Deferred.ofValue,v1,invoke];simp
  .exact absurd j cg
 ·
  rename_i r name g;unfold tz at j;split at j
  .rename_i cn hcn;split at j
   .rename_i x bL p;obtain⟨y,hy,i⟩:=cd j;obtain rfl:=aF i;have A:lS γ σ.mem w (cW σ r::c.args.toList.map (cW σ)) (a.eval r::(c.args.map a.eval).toList):=by
     rw[ac5];exact PX (ops:=r::c.args.toList) h
    obtain⟨γ1,s1,s2,s3⟩:=kn h A p;obtain⟨f,u,e1,e2,e3⟩:=E.inv name cn hcn γ1.I w _ _ x y (λb o hi=>s1.ok.te b o hi) s1.ok.Lx s3 hy;refine LV ?_ ⟨e2,e3.mono λe w' hw=>?_⟩
    .rw[<-e1];unfold execOp;simp only[C,resolve,g];exact congrArg (λz:Sem Next=>z.run P w) (aaK _ _ _)
    .obtain⟨v,I',h1,h2,h3,h4,h5,h6⟩:=hw;refine⟨v,h1,?_⟩;obtain⟨m1,m2⟩:=s1.ok.far (I':=I') h2 h3 h4 h5;refine D ⟨I',γ1.loc⟩ _ w' (s1.bt m2 m1 H<|h6.rep λ_ _ hi=>hi) ?_;cases o.dst<;>exact s2.trans m2
   .exact absurd j cg
  .exact absurd j cg
def Ul{I tid u}:∀{t a f},Den P t tid->T2 t u=aa ⟨a,f⟩ ->
  P.concrete u=true/\∀y c,bH w I a y c->bH w I t (f y) [.iface u<|cZ a c]:=by
 intro t;induction t with
 | alt n a r l e =>
   intro b f i h;unfold T2 at h;obtain⟨k,m⟩:=i.rest;cases hn:Nat.beq n u with
   | true =>
     rw[hn] at h;obtain rfl:=gA hn;cases h;exact⟨m,λy c j=>⟨k.adD i,c,rfl,j⟩⟩
   | false =>
     rw[hn] at h;split at h
     .rename_i s g o;cases h;obtain⟨p,q⟩:=e k o;exact⟨p,λy c j=>q y c j⟩
     .cases h
 | _=>intro b f i h;cases h
def agE{tid u t a f}(c:Den P t tid)(h:T2 t u=aa ⟨a,f⟩):t.isAgg=false:=by
 cases t with
 | alt n b r=>simp only[Den,gj,gz] at c;exact(Ty.Ly c.2).2
 | _=>cases h
def JZ(m:fi P cx){ty u x}(h:dm B N γ σ a w)(n:∀k,d=aa k->k<N)(c:(tw cx d ty u (cW σ x) σ).run=aa aQ) :
  nU P B N γ σ a w d (Instr.makeInterface u<|a.eval x) aQ:=by
 unfold tw at c;split at c
 .rename_i t o;have e:=m.T _ _ o;split at c
  .rename_i b f j;split at c
   .rename_i y bL p;obtain rfl:=aF c;obtain⟨g,q,r,l,s,v⟩:=nX h (h.cW x) p;obtain⟨z,A⟩:=Ul e j;have i:a.eval x=cZ b l:=by simpa using v
    have C:=agE e j;refine⟨.iface u _,w,g,run_makeInterface w u _ z,q.wW n ⟨_,A y l s,?_⟩,?_⟩
    .rw[i];unfold cZ
     grind
    .cases d<;>exact r
   .exact absurd c cg
  .exact absurd c cg
 .exact absurd c cg
def Um{o s K Q}(c:execOp a.eval o=(do s;pure .skip))(b:o.dst=af)
  (h:∃w' bz,s.run P w=.ok () w'/\dm B N bz aQ a w'/\Ext B γ σ.mem w bz aQ.mem w') (e:D1 B N γ σ a w o.dst aQ K):o.wp P a w K Q:=by
 obtain⟨w',bz,f,g,i⟩:=h;unfold Oper.wp;rw[c];simp only[Sem.run_bind,f];exact e bz _ w' (by rw[b];exact g) i
def yh{d k}(h:ownRow bf d=aa k):d=aa k:=by
 unfold ownRow at h
 grind
def EC{d k}(h:T0 bf d=aa k):d=aa k/\cU bf k=true:=by
 unfold T0 at h
 grind
def LZ(A:fi P cx)(O:nZ P B.G cx)(R:xa P B.G inl){o:Oper}(h:dm B N γ σ a w)(m:∀k,o.dst=aa k->k<N)
  (g:(rV cx nb bf inl o σ).run=aa aQ) {K Q} (C:D1 B N γ σ a w o.dst aQ K):o.wp P a w K Q:=by
 unfold rV at g;split at g
 case h_1 x j=>exact bY (by simp only[execOp,j];rfl) (zq A h m g) C
 case h_2 x j=>exact bY (by simp only[execOp,j];rfl) (zq A h m g) C
 case h_3 c x y j=>exact bY (by simp only[execOp,j];simp) (LF h m g) C
 case h_4 elem j =>
  split at g
  .rename_i k t D F;rw[D] at m;refine bY (s:=Instr.alloc elem true (.tuple #[])) (by simp only[execOp,j]) ?_ C;rw[D];exact JT A h (m k rfl) F g
  .rename_i k D F;rw[D] at m;refine bY (s:=Instr.alloc elem true (.tuple #[])) (by simp only[execOp,j]) ?_ C;rw[D];split at g
   .rename_i fs Y;exact JS A h (m k rfl) Y g
   .obtain⟨Z,r⟩:=ay g;exact JR A h (m k rfl) Z r
  .exact absurd g cg
 case h_5 elem x j =>
  unfold Ft at g;split at g
  .exact absurd g cg
  .exact absurd g cg
  .rename_i k D Z h2;rw[D] at m;refine bY (s:=Instr.box elem (a.eval x)) (by simp only[execOp,j]) ?_ C;rw[D];split at g
   .exact Oq h (m k rfl) Z h2 g
   .exact aaG h (m k rfl) Z h2 g
  .exact absurd g cg
 case h_6 t parts j =>
  refine bY (s:=Instr.build t (parts.map λ(i,x)=>(i,a.eval x))) (by simp only[execOp,j]) ?_ C;split at g
  .rename_i u v F;split at g
   .rename_i d0 k hz;obtain⟨D,S⟩:=BZ hz;have S:parts=#[]:=by simpa using S
    rw[D,S];rw[D] at m;rw[Array.map_empty];exact LM A h (m d0 rfl) F g
   split at g
   .rename_i x bL E;obtain rfl:=aF g;exact Ey A h m F E
   .exact absurd g cg
  .rename_i n e F;split at g
   .rename_i l bL E;obtain rfl:=aF g;exact FM A h m F E
   .exact absurd g cg
  .split at g
   .rename_i fs Y;split at g
    .rename_i z0 T;split at g
     .rename_i p q E;obtain rfl:=aF g;exact JV A h m Y T E
     .rename_i u E;obtain rfl:=aF g;exact Ht A h m Y T E
     .exact absurd g cg
    .exact absurd g cg
   .exact absurd g cg
  .exact absurd g cg
 case h_7 t n parts j =>
  refine bY (s:=Instr.buildSlice t n (parts.map λ(i,x)=>(i,a.eval x))) (by simp only[execOp,j]) ?_ C;split at g
  .rename_i e F;split at g
   .rename_i k U I;obtain⟨D,_⟩:=EC U;have S:parts=#[]:=by simpa using I
    rw[D,S];rw[D] at m;rw[Array.map_empty];exact Hv A h (m k rfl) F g
   .obtain⟨hn,r⟩:=ay g;split at r
    .rename_i l bL E;split at r
     .rename_i k D;have hk':=yh D;rw[hk'] at m⊢;exact LN A h (m k rfl) F hn E r
     .obtain rfl:=aF r;exact Hu A h m F hn E
    .exact absurd r cg
  .exact Ou A h m g
  .exact absurd g cg
 case h_8 t x j=>exact bY (by simp only[execOp,j]) (LI A h m g) C
 case h_9 t x y j =>
  split at g
  .rename_i D;exact Um (by simp only[execOp,j]) D (JQ A h g) C
  .exact absurd g cg
 case h_10 x j =>
  have hv:=h.cW x;have fin:∀{v y},a.eval x=y->execOp a.eval o=(do pure<|.value (<-pure y))->cu γ σ.mem w v .val [y]->aQ=σ.bt o.dst v->o.wp P a w K Q:=by
   intro v y he hs hr0 hσ;subst hσ;exact bY hs (bM h m rfl hr0) C
  split at g
  .rename_i b aM p J;rw[J] at hv;obtain⟨hl,r⟩:=ay g;obtain⟨bx,E,V⟩:=kQ hl;obtain⟨blk,cap,H,M⟩:=bk E V hv.2;have M:=vk M;rw[M] at hv;exact fin M (by simp only[execOp,j,M];rfl) hv (aF r).symm
  .rename_i t y J;rw[J] at hv;obtain⟨blk,off,cs,H,M,g3⟩:=id hv;have H:=vk H;rw[H] at hv;exact fin H (by simp only[execOp,j,H];rfl) hv (aF g).symm
  .rename_i f c J;rw[J] at hv;obtain⟨arr,H,M,g3⟩:=id hv;have H:=vk H;rw[H] at hv;exact fin H (by simp only[execOp,j,H];rfl) hv (aF g).symm
  .exact absurd g cg
 case h_11 op xt x y pos j =>
  obtain⟨v,E,r⟩:=bind_some g;obtain rfl:=aF r;obtain⟨z,W,X⟩:=WY A (h.cW x) (h.cW y) E;refine bY (s:=hS op xt x y _ _) (by simp only[execOp,j,hS]) (bM h m W X) C
 case h_12 op ty x j =>
  obtain⟨v,E,r⟩:=bind_some g;obtain rfl:=aF r;obtain⟨z,W,X⟩:=adH (h.cW x) E;exact bY (by simp only[execOp,j]) (bM h m W X) C
 case h_13 src dst x j=>exact bY (by simp only[execOp,j]) (FO A h m g) C
 case h_14 f first aax j =>
  split at g
  .rename_i cs L hcs;obtain rfl:=aF g;refine bY ?_ (LK h m hcs) C;have:first=#[]:=by simpa using L
   simp only[execOp,j,this,show Array.map a.eval #[]=#[] from aS]
  .exact absurd g cg
 case h_15 t x lo hi j=>exact bY (by simp only[execOp,j];rfl) (JP A h m g) C
 case h_16 s x k j=>exact bY (by simp only[execOp,j]) (DL A h m g) C
 case h_17 xt x k j =>
  have hv:=h.cW x;split at g
  .rename_i u y J;rw[J] at hv;obtain⟨F,r⟩:=ay g;split at r
   .rename_i off v hf;obtain rfl:=aF r;obtain⟨z,W,X⟩:=Uc A (jF F) hv hf;exact bY (by simp only[execOp,j]) (bM h m W X) C
   .exact absurd r cg
  .exact absurd g cg
 case h_18 t x i j =>
  split at g
  .rename_i ki n hi;have hv:=h.cW i;rw[hi] at hv;obtain⟨ei,_⟩:=vm hv;refine bY (s:=Instr.indexAt t (a.eval x) (a.eval i)) (by simp only[execOp,j]) ?_ C;rw[ei];cases hm:cU bf 5000000 with
   | true=>rw[hm] at g;exact JN A h m g
   | false=>rw[hm] at g;exact vE A h m g
  .exact absurd g cg
 case h_19 t x i j =>
  split at g
  .rename_i ki n hi;have hv:=h.cW i;rw[hi] at hv;obtain⟨ei,_⟩:=vm hv;refine bY (s:=Instr.index t (a.eval x) (a.eval i)) (by simp only[execOp,j]) ?_ C;rw[ei];exact JO A h m g
  .exact absurd g cg
 case h_20 t l c j =>
  split at g
  .rename_i k e kl ln kc cn D F hl hcc;rw[D] at m;obtain⟨Uj,r⟩:=cQ g;obtain⟨hf,hr3⟩:=cQ r;refine bY (s:=Instr.makeSlice t (a.eval l) (a.eval c)) (by simp only[execOp,j]) ?_ C;rw[D];exact JW A h (m k rfl) F hl hcc Uj hf hr3
  .exact absurd g cg
 case h_21 t k j =>
  split at g
  .rename_i vs J;split at g
   .rename_i v hn;obtain rfl:=aF g;exact bY (by simp only[execOp,j]) (Ot h m J hn) C
   .exact absurd g cg
  .exact absurd g cg
 case h_22 c j=>exact Xc A O R j h m g C
 case h_23 u x j=>exact bY (by simp only[execOp,j]) (JZ A h m g) C
 case h_24=>exact absurd g cg
end
end Go.Ge
namespace Go.Ge
open RowKit
def bW(f c:St):Prop:=∀b e,f.mem b=aa e->e.lk=true->c.mem b=aa e
def bW.refl σ:bW σ σ:=λ_ _ h _=>h
def bW.trans{σ aQ c}(h:bW σ aQ)(k:bW aQ c):bW σ c:=λb bx f e=>k b bx (h b bx f e) e
def bW.put σ d v:bW σ (σ.put d v):=λ_ _ h _=>h
def bW.bt σ d v:bW σ (σ.bt d v):=by cases d<;>exact λ_ _ h _=>h
def bW.aiO{σ aQ}(h:aQ.mem=σ.mem):bW σ aQ:=λb e c _=>by rw[h];exact c
def jW{σ b j}(h:∀f,σ.mem b=aa f->f.lk=false):bW σ (σ.cr b j):=λc cx g i=>by
 by_cases e:c=b
 .subst e;rw[h cx g] at i;cases i
 .rw[wY,aZ _ e];exact g
def n6{β σ b val tid buf}{k:Nat->St->Tree β}{y}(h:(σ.bu b val tid buf k).run=aa y) :
  ∃aM,bW σ (σ.cr b { val,tid,buf,ro:=false,lk:=false,aM })/\(k aM<|σ.cr b { val,tid,buf,ro:=false,lk:=false,aM }).run=aa y:=by
 unfold St.bu at h;split at h
 .rename_i i e;cases f:i.lk with
  | true=>rw[f] at h;cases h
  | false =>
    rw[f] at h;exact⟨i.aM+1,jW (λg c=>by rw[e] at c;obtain rfl:=aF c;exact f),h⟩
 .rename_i e;exact⟨0,jW (λg c=>by rw[e] at c;cases c),h⟩
def I5{σ aQ b}(h:freeze σ b=aa aQ):bW σ aQ:=by
 unfold freeze at h;split at h
 .rename_i f i;cases c:f.ro with
  | true=>simp only[c,wP,Lf] at h;rw[<-h];apply bW.refl
  | false =>
    cases e:f.lk with
    | true=>simp[c,e] at h
    | false =>
      simp only[c,e,BF,Lf] at h;rw[<-h];exact jW λj g=>by rw[i] at g;obtain rfl:=aF g;exact e
 .cases h
def RF:∀{v σ aQ},jj σ v=aa aQ->bW σ aQ:=by
 intro v;induction v with
 | mix p q c e =>
   intro σ aQ h;obtain⟨bL,f,g⟩:=yf h;exact(c f).trans (e g)
 | whole b aM=>intro σ aQ h;exact I5 h
 | part b aM lo n=>intro σ aQ h;exact I5 h
 | _=>intro σ aQ h;obtain rfl:=aF h;apply bW.refl
def rp{t x v σ aQ}(h:BN σ t v=aa (x,aQ)):bW σ aQ:=by
 unfold BN at h;split at h
 .split at h
  .obtain⟨_,rfl⟩:=eh (aF h);apply bW.refl
  .cases h
 .split at h
  .rename_i y bL c b;obtain⟨_,rfl⟩:=eh (aF h);exact RF b
  .cases h
def jX:∀{A x vs σ aQ},gD σ A vs=aa (x,aQ)->bW σ aQ:=by
 intro A;induction A with
 | pair t r e c =>
   intro x vs σ aQ b;cases vs with
   | nil=>cases b
   | cons v vs =>
     simp only[gD] at b;split at b
     .rename_i p bL f;split at b
      .rename_i q cI g;obtain⟨_,rfl⟩:=eh (aF b);exact(rp f).trans (c g)
      .cases b
     .cases b
 | unit =>
   intro x vs σ aQ b;cases vs with
   | nil=>obtain⟨_,rfl⟩:=eh (aF b);apply bW.refl
   | cons v vs=>cases b
 | _=>intro x vs σ aQ b;cases vs<;>cases b
def J0{t}:∀{parts x b σ aQ},iH σ t x parts=aa (b,aQ)->bW σ aQ:=by
 intro parts;induction parts with
 | nil=>intro x b σ aQ h;obtain⟨_,rfl⟩:=eh (aF h);apply bW.refl
 | cons p r c =>
   intro x b σ aQ h;simp only[iH] at h;split at h
   .split at h
    .rename_i e;split at h
     .exact(rp e).trans (c h)
     .cases h
    .cases h
   .cases h
def OA{bf t parts v σ aQ}(h:pP bf σ t parts=aa (v,aQ)):bW σ aQ:=by
 unfold pP at h;cases b:cU bf 8600000&&parts.any (λp=>rU (cW σ p.2)) with
 | true=>rw[b] at h;simp only[wP] at h;split at h<;>cases h;exact bW.refl _
 | false=>rw[b] at h;simp only[BF] at h;split at h<;>cases h;exact J0 (by assumption)
def xd{e}:∀{parts l c σ aQ},fG σ e l parts=aa (c,aQ)->bW σ aQ:=by
 intro parts;induction parts with
 | nil=>intro x i σ aQ h;obtain⟨_,rfl⟩:=eh (aF h);apply bW.refl
 | cons p r f =>
   obtain⟨k,o⟩:=p;intro l c σ aQ h;simp only[fG] at h;split at h
   .rename_i g;cases b:Nat.blt k l.length with
    | false=>rw[b] at h;cases h
    | true=>rw[b] at h;exact(rp g).trans (f h)
   .cases h
def FU{b aM p fit u σ aQ}(e:(storeAt b aM p fit u σ).run=aa aQ):bW σ aQ:=by
 unfold storeAt at e;split at e
 case h_2=>exact absurd e cg
 rename_i q m;obtain⟨j,f⟩:=ay e;simp at j;obtain⟨n,hn,g⟩:=bind_some f;obtain⟨k,h⟩:=ay g;obtain⟨c,hs,i⟩:=bind_some h;obtain rfl:=aF i;exact jW λo l=>by rw[m] at l;obtain rfl:=aF l;exact j.1.2
def RG{b aM p n u σ aQ}(e:(tY b aM p n u σ).run=aa aQ):bW σ aQ:=by
 unfold tY at e;split at e
 case h_2=>exact absurd e cg
 rename_i t o;obtain⟨k,f⟩:=ay e;simp at k;obtain⟨q,hn,g⟩:=bind_some f;obtain⟨l,h⟩:=ay g;obtain⟨c,hs,i⟩:=bind_some h;obtain⟨r,j⟩:=ay i;obtain rfl:=aF j;exact jW λs m=>by rw[o] at m;obtain rfl:=aF m;exact k.1.1.1.2
def L1{cx bf ty x y σ aQ}(e:(mP cx bf ty x y σ).run=aa aQ):bW σ aQ:=by
 unfold mP at e;split at e
 case h_2=>exact absurd e cg
 split at e
 case h_2=>exact absurd e cg
 obtain⟨g,f⟩:=ay e;obtain⟨i,hn,c⟩:=bind_some f;split at c
 .rename_i u _;obtain⟨j,b⟩:=ay c;cases h:cU bf 8000000&&adt u y with
  | true=>rw[h] at b;exact RG b
  | false =>
  rw[h] at b;split at b
  .rename_i k;exact(rp k).trans (FU b)
  .exact absurd b cg
 .obtain⟨j,b⟩:=ay c;exact FU b
def Be{cx nb d ty s x σ aQ}(b:(iI cx nb d ty s x σ).run=aa aQ):bW σ aQ:=by
 unfold iI at b;split at b
 case h_2=>exact absurd b cg
 split at b
 case h_2=>exact absurd b cg
 split at b
 .obtain⟨h,c⟩:=cQ b;obtain⟨i,j,k⟩:=n6 c;obtain rfl:=aF k;exact j.trans (bW.put _ _ _)
 .split at b
  case h_2=>exact absurd b cg
  rename_i o l m p;obtain⟨e,f⟩:=vR b;obtain⟨h,c⟩:=cQ f;obtain rfl:=aF c;exact(jW λn g=>by rw[m] at g;obtain rfl:=aF g;exact((Rc.1 e).1)).trans (bW.put _ _ _)
 .exact absurd b cg
def yR{e m b aM q chk lo σ aQ}(i:(kP e m b aM q chk lo σ).run=aa aQ):bW σ aQ:=by
 unfold kP at i;split at i
 case h_2=>exact absurd i cg
 rename_i r n;obtain⟨k,f⟩:=ay i;simp at k;have fin:∀{uS},bW σ (σ.cr b uS):=λ{uS}=>jW λo l=>by rw[n] at l;obtain rfl:=aF l;exact k.1.2
 split at f
 .split at f
  .split at f
   .obtain rfl:=aF f;exact fin
   .exact absurd f cg
  .exact absurd f cg
 .obtain⟨p,_,g⟩:=bind_some f;split at g
  .obtain⟨_,h⟩:=ay g;split at h
   .obtain⟨c,_,j⟩:=bind_some h;obtain rfl:=aF j;exact fin
   .exact absurd h cg
  .exact absurd g cg
def I6{e g t σ r}(b:(Hi e g t σ).run=aa r):bW σ r.2:=by
 unfold Hi at b;split at b
 .obtain⟨bL,c,f⟩:=bind_some b;obtain rfl:=aF f;exact yR c
 .split at b
  .obtain⟨bL,c,f⟩:=bind_some b;obtain rfl:=aF f;exact yR c
  .exact absurd b cg
 .obtain⟨bL,c,f⟩:=bind_some b;obtain rfl:=aF f;exact yR c
 .exact absurd b cg
def Xd{σ}:∀{ps A U vs x u j},rT σ ps A U vs=aa (x,u,j)->∀b∈j,∀f,σ.mem b=aa f->f.lk=false:=by
 intro ps;induction ps with
 | nil =>
   intro A U vs x u j h;cases A<;>first|(cases h;done)|skip
   cases U<;>first|(cases h;done)|skip
   cases vs with
   | cons v r=>cases h
   | nil =>
     obtain⟨_,q⟩:=eh (aF h);obtain⟨_,rfl⟩:=eh q;intro b k;cases k
 | cons p ps t =>
   intro A U vs x u j h;cases p with
   | false =>
     cases A<;>first|(cases h;done)|skip
     cases vs with
     | nil=>cases h
     | cons v r =>
       simp only[rT] at h;split at h
       .rename_i l;obtain⟨_,q⟩:=eh (aF h);obtain⟨_,rfl⟩:=eh q;exact t l
       .cases h
   | true =>
     cases U<;>first|(cases h;done)|skip
     cases vs with
     | nil=>cases h
     | cons y r =>
     cases y<;>first|(cases h;done)|skip
     rename_i b m n;cases n with
     | cons _ _=>cases h
     | nil =>
     simp only[rT] at h;split at h
     case h_2=>cases h
     rename_i f k;cases e:(Nat.beq f.aM m&&!f.buf&&!f.lk&&!f.ro&&Nat.beq f.tid 0) with
     | false=>rw[e] at h;cases h
     | true =>
       rw[e] at h;simp at e;split at h
       case h_2=>cases h
       rename_i z C D o E l;cases i:cU o b with
       | true=>rw[i] at h;cases h
       | false =>
         rw[i] at h;obtain⟨_,q⟩:=eh (aF h);obtain⟨_,rfl⟩:=eh q;intro c s cx g;rcases fI.1 s with rfl|s
         .rw[k] at g;obtain rfl:=aF g;exact e.1.1.2
         .exact t l c s cx g
def FV{ps A U vs x u y c σ}(h:rT σ ps A U vs=aa (x,u,c)):bW σ (tZ U y c σ):=λb f e g=>by
 rw[rn];cases hv:nS U y c b with
 | none=>exact e
 | some v =>
   have:=Xd h b (LS hv) f e;rw[g] at this;cases this
def RH{s d f σ aQ}(b:(CV s d f σ).run=aa aQ):bW σ aQ:=by
 unfold CV at b;split at b
 .split at b
  case h_2=>cases b
  split at b
  case h_2=>cases b
  obtain⟨_,c⟩:=ay b;obtain rfl:=aF c;apply bW.bt
 .split at b
  case h_2=>cases b
  split at b
  case h_2=>cases b
  obtain⟨_,c⟩:=ay b;split at c
  case h_2=>cases c
  rename_i k h;obtain⟨g,e⟩:=ay c;simp at g;split at e
  case h_2=>cases e
  obtain rfl:=aF e;exact(jW λj i=>by rw[h] at i;obtain rfl:=aF i;exact g.1.1.2).trans (bW.bt _ _ _)
 .cases b
def Xe{b aM}:∀{g j σ r},(mkObj b aM g j σ).run=aa r->bW σ r.2:=by
 intro g;induction g with
 | nil=>intro j σ r c;obtain rfl:=aF c;apply bW.refl
 | cons f q l =>
   intro j σ r c;cases f with
   | buf e m =>
     obtain⟨_,h⟩:=ay c;obtain⟨aM,n,o⟩:=n6 h;obtain⟨y,i,k⟩:=bind_some o;obtain rfl:=aF k;have:=l i;exact n.trans this
   | _ =>
     obtain⟨y,i,k⟩:=bind_some c;obtain rfl:=aF k;have:=l i;exact this
def RI{b}:∀{c j v σ r},(oE b c j v σ).run=aa r->bW σ r.2:=by
 intro c;induction c with
 | nil =>
   intro j v σ r g;obtain rfl:=I0 g;apply bW.refl
 | cons f q k =>
   intro j v σ r g;rcases FL g with ⟨x,u,y,rfl,h,rfl⟩|⟨e,l,u,rfl,s,i⟩
   .have:=k h;exact this
   .obtain⟨m,n,o⟩:=n6 i;obtain⟨y,h,p⟩:=bind_some o;obtain rfl:=aF p;have:=k h;exact n.trans this
def Xf{c:Fq}{d f σ aQ}(b:(T1 c d f σ).run=aa aQ):bW σ aQ:=by
 unfold T1 at b;split at b
 case h_2=>cases b
 split at b
 case h_2=>cases b
 rename_i x bL j;split at b
 case h_2=>cases b
 split at b
 case h_2=>cases b
 obtain⟨_,e⟩:=ay b;split at e
 case h_2=>cases e
 rename_i r q u l k g;obtain⟨_,h⟩:=vR e;obtain⟨y,m,i⟩:=cd h;obtain rfl:=aF i;exact(jX j).trans ((FV g).trans<|bW.bt _ _ _)
def Un{cx inl}(i:∀f h σ v aQ,(inl f h σ).run=aa (v,aQ)->bW σ aQ){d f h σ aQ}
  (b:(yN cx inl d f h σ).run=aa aQ):bW σ aQ:=by
 unfold yN at b;split at b
 .split at b
  .split at b
   .obtain⟨y,l,g⟩:=cd b;obtain rfl:=aF g;apply bW.bt
   .exact absurd b cg
  .split at b
   .rename_i j;obtain⟨y,l,g⟩:=cd b;obtain rfl:=aF g;exact(jX j).trans (bW.bt _ _ _)
   .exact absurd b cg
 .have e:((inl f h σ).bind λr=>.ret (r.2.bt d r.1):Tree St).run=aa aQ->bW σ aQ:=by
   intro b;obtain⟨r,k,g⟩:=bind_some b;obtain rfl:=aF g;exact(i _ _ _ _ _ k).trans (bW.bt _ _ _)
  split at b
  .exact RH b
  split at b
  .rename_i c m;split at b
   .rename_i x u n j;obtain⟨y,l,g⟩:=cd b;obtain rfl:=aF g;exact(FV j).trans (bW.bt _ _ _)
   .exact e b
  .split at b
   .exact Xf b
   .exact e b
def L2{nb e d c σ aQ}(b:(mT nb e d c σ).run=aa aQ):bW σ aQ:=by
 unfold mT at b;split at b
 case h_2=>cases b
 split at b
 case h_2=>cases b
 rename_i f;obtain⟨_,b⟩:=ay b;obtain⟨_,b⟩:=cQ b;obtain⟨g,h,i⟩:=n6 b;obtain rfl:=aF i;exact((rp f).trans h).trans (bW.bt _ (aa _) _)
def RJ{e A res spec d f σ aQ}(c:(ua e A res spec d f σ).run=aa aQ):bW σ aQ:=by
 unfold ua at c;split at c
 case h_2=>cases c
 split at c
 case h_2=>cases c
 rename_i h;split at c
 case h_2=>cases c
 rename_i b q u l i;obtain⟨v,_,c⟩:=cd c;obtain⟨r,m,n,j,s,o,_⟩:=uW i;have key:∀g,bW _ (St.cr _ b g):=λg=>jW λt p=>by rw[r] at p;obtain rfl:=aF p;exact j
 cases res with
 | true =>
   cases d with
   | none=>cases c
   | some k=>obtain rfl:=aF c;exact((jX h).trans<|key _).trans (bW.bt _ (aa _) _)
 | false =>
   cases d with
   | none=>obtain⟨_,c⟩:=ay c;obtain rfl:=aF c;exact((jX h).trans<|key _).trans (bW.bt _ af _)
   | some k=>obtain⟨_,c⟩:=ay c;obtain rfl:=aF c;exact((jX h).trans<|key _).trans (bW.bt _ _ _)
def RL{cx nb bf inl}(c:∀f b σ v aQ,(inl f b σ).run=aa (v,aQ)->bW σ aQ){d f b σ aQ}
  (e:(vP cx nb bf inl d f b σ).run=aa aQ):bW σ aQ:=by
 unfold vP at e;split at e
 .exact L2 e
 .exact RJ e
 .exact Un c e
end Go.Ge
namespace Go.Ge
open RowKit
def bd(b:St)(T:Tree St):Prop:=∀y,T.run=aa y->bW b y
def bd.fail{σ}:bd σ .fail:=λy h=>by cases h
def bd.ret{σ aQ}(h:bW σ aQ):bd σ (.ret aQ):=λy b=>by obtain rfl:=aF b;exact h
def bd.bif{σ c t}(h:bd σ t):bd σ (bif c then t else .fail):=λy b=>h y (ay b).2
def bd.jw{σ c t}(h:bd σ t):bd σ (.jw c t):=λy b=>h y (cQ b).2
def bd.look{σ T}{o:Option T}{k}(h:∀x,bd σ (k x)):bd σ (.look o k):=λy b=>by obtain⟨x,_,c⟩:=cd b;exact h x y c
def bd.node{σ c t e}(h:bd σ t)(k:bd σ e):bd σ (.node c t e):=λy b=>by
 have:=gG b;cases c with
 | true=>exact h y this
 | false=>exact k y this
def bd.bind{σ α}{t:Tree α}{f}(h:∀x,t.run=aa x->bd σ (f x)):bd σ (t.bind f):=λy b=>by obtain⟨x,c,e⟩:=bind_some b;exact h x c y e
def bd.bu{σ b val tid buf d}{v:Nat->ch}:bd σ (σ.bu b val tid buf λc σ=>.ret (σ.put d<|v c)):=λy e=>by
 obtain⟨c,f,g⟩:=n6 e;obtain rfl:=aF g;exact f.trans (bW.put _ _ _)
def OB{c d:Nat}{t:Ty}{k:Nat}{b:St}:bd b (wR c d t k b):=by
 unfold wR;split
 .exact bd.bif bd.bu
 .exact bd.fail
def P0{p:Prop}(h:p:=by
 repeat' (first
  | exact bd.fail|exact bd.ret (bW.bt _ _ _)|exact bd.ret (bW.put _ _ _)|exact bd.bu
  | refine bd.bif ?_|refine bd.jw ?_|refine bd.look λ_=>?_|refine bd.node ?_ ?_|refine bd.bind λ_ _=>?_|split)):p:=h
section
variable {cx:Ctx} {nb:Nat} {bf:List Nat} {inl:Nat->List ch->St->Tree (ch×St)} {d:Option Nat} {σ:St}
def Bf{ty v}:bd σ (kk cx nb bf d ty v σ):=by
 unfold kk;split
 .exact P0
 .split
  .rename_i k e _;cases cU bf k with
   | true=>exact bd.bu
   | false=>exact bd.ret (bW.put _ _ _)
  .exact bd.ret (bW.bt _ _ _)
 .exact bd.ret (bW.bt _ _ _)
def OC{c a b}:bd σ (pO d c a b σ):=by unfold pO;exact P0
def OD{ty a}:bd σ (mq cx d ty a σ):=by unfold mq;exact P0
def L3{ty x lo hi}:bd σ (mQ cx d ty x lo hi σ):=by unfold mQ;exact P0
def Xg{b aM i}:∀{m k},bd σ (Lq d b aM σ i m k):=by
 intro m;induction m with
 | zero=>exact bd.fail
 | succ m c=>exact bd.node (bd.ret<|bW.bt _ _ _) c
def xe{ty x i}:bd σ (eE cx d ty x i σ):=by
 unfold eE;split
 case h_6=>split
           .exact bd.bif Xg
           .exact bd.fail
 all_goals exact P0
def L4{ty x i}:bd σ (mR cx d ty x i σ):=by
 unfold mR;split
 .refine bd.bif ?_;split
  .exact bd.bif (bd.ret<|bW.bt _ _ _)
  .exact bd.fail
 .exact xe
def L5{ty x i}:bd σ (mS cx d ty x i σ):=by unfold mS;exact P0
def ED{s x k}:bd σ (fc cx d s x k σ):=by unfold fc;exact P0
def HA{s t x}:bd σ (iv cx nb d s t x σ):=by unfold iv;exact P0
def D2{ty t x}:bd σ (zi cx d ty t x σ):=by
 unfold zi;split
 .split
  .exact bd.fail
  .exact bd.bind λr b=>bd.ret ((I6 b).trans<|bW.bt _ _ _)
 .exact bd.fail
def L6{ty t}:bd σ (zj cx ty t σ):=by
 unfold zj;split
 .exact bd.bind λr b=>bd.ret (I6 b)
 .exact bd.fail
def J1{name args}:bd σ (tz cx d name args σ):=by
 intro aQ b;unfold tz at b;split at b
 .split at b
  .rename_i e;obtain⟨y,f,c⟩:=cd b;obtain rfl:=aF c;exact(jX e).trans (bW.bt _ _ _)
  .exact absurd b cg
 .exact absurd b cg
def L7{ty u x}:bd σ (tw cx d ty u x σ):=by
 intro aQ b;unfold tw at b;split at b
 .split at b
  .split at b
   .rename_i c;obtain rfl:=aF b;exact(rp c).trans (bW.bt _ _ _)
   .exact absurd b cg
  .exact absurd b cg
 .exact absurd b cg
def OE(b:∀f e σ v aQ,(inl f e σ).run=aa (v,aQ)->bW σ aQ){ty c}:bd σ (wT cx nb bf inl d ty c σ):=by
 unfold wT;split
 .split
  .exact P0
  .split
   .exact λy g=>Be g
   .exact λy g=>Be g
   .exact bd.fail
  .split
   .exact D2
   .exact D2
   .exact bd.fail
  .split
   .exact L6
   .exact bd.fail
  .exact P0
  .exact P0
  .exact bd.fail
 .split
  .exact bd.bif λy g=>RL b g
  .exact bd.fail
 .exact J1
def B4(e:∀f g σ v aQ,(inl f g σ).run=aa (v,aQ)->bW σ aQ){o}:bd σ (rV cx nb bf inl o σ):=by
 unfold rV;split
 case h_1=>exact Bf
 case h_2=>exact Bf
 case h_3=>exact OC
 case h_4 =>
  split
  .unfold wF;split
   .refine bd.bif λy b=>?_;obtain⟨i,j,k⟩:=n6 b;exact j.trans (bd.bu y k)
   .exact bd.bu
  .split
   .refine bd.bind λr h=>?_;exact λy b=>(Xe h).trans (bd.bu y b)
   .exact bd.bif bd.bu
  .exact bd.fail
 case h_5 =>
  unfold Ft;split
  .exact bd.fail
  .exact bd.fail
  .split
   .refine bd.bind λr h=>?_;exact λy b=>(RI h).trans (bd.bu y b)
   .exact bd.bu
  .exact bd.fail
 case h_6 =>
  split
  .split
   .exact OB
   split
   .rename_i c;exact bd.ret ((OA c).trans<|bW.bt _ _ _)
   .exact bd.fail
  .split
   .rename_i c;exact bd.ret ((xd c).trans<|bW.bt _ _ _)
   .exact bd.fail
  .exact P0
  .exact bd.fail
 case h_7 =>
  split
  .split
   .exact bd.bu
   .refine bd.bif ?_;split
    .rename_i c;split
     .exact λy b=>(xd c).trans (bd.bu _ b)
     .exact bd.ret ((xd c).trans<|bW.bt _ _ _)
    .exact bd.fail
  .unfold CW;exact P0
  .exact bd.fail
 case h_8=>exact OD
 case h_9=>split
           .exact λy b=>L1 b
           .exact bd.fail
 case h_10=>exact P0
 case h_11=>exact P0
 case h_12=>exact P0
 case h_13=>exact HA
 case h_14=>exact P0
 case h_15=>exact L3
 case h_16=>exact ED
 case h_17=>exact P0
 case h_18=>split
            .cases cU bf 5000000 with
             | true=>exact L4
             | false=>exact xe
            .exact bd.fail
 case h_19=>split
            .exact L5
            .exact bd.fail
 case h_20=>exact P0
 case h_21=>exact P0
 case h_22=>exact OE e
 case h_23=>exact L7
 case h_24=>exact bd.fail
end
end Go.Ge
