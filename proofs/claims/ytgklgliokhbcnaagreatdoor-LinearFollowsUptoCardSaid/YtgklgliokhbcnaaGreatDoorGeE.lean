import Derived.Test.YtgklgliokhbcnaaGreatDoorGeD
import Derived.Laws.Build
set_option linter.unusedVariables false
set_option linter.unusedSimpArgs false
set_option linter.unusedSectionVars false
set_option linter.defProp false
open Option renaming some->aa,none->af
open Go.IntKind (i64)
namespace Go.Ge
open RowKit
def yx(P:Program)(G:D7)(inl:Nat->List cp->St->Tree (cp×St)):Prop :=
 ∀(B:B5) (γ:Gh) (σ aV:St) (w:World) (f:Nat) (b:List cp) (i:Array Value) (v:cp),B.G=G->bF B γ σ.mem w->lT γ σ.mem w b i.toList->(inl f b σ).run=aa (v,aV) ->
  (∃h c,P.funcs[f]?=aa h/\(h.name == "runtime.NumGoroutine")=false/\h.body=aa c)/\aV.bh=σ.bh /\
  Calls P f i w λe w'=>∃g bE,e=.returned g/\bF B bE aV.mem w'/\Ext B γ σ.mem w bE aV.mem w'/\cI bE aV.mem w' v .val [g]
section
variable {P:Program} {B:B5} {N:Nat} {γ:Gh} {σ aV:St} {a:Act} {w w':World} {d:Option Nat} {cx:Ctx} {nb:Nat} {bf:List Nat} {inl:Nat->List cp->St->Tree (cp×St)}
def Ed(B:B5)(N:Nat)(c:Gh)(e:St)(a:Act)(w:World)(d:Option Nat)(b:St)(K:Act->World->Prop):Prop :=
 ∀bE v w',dy B N bE b (a.put d v) w'->Ext B c e.mem w bE b.mem w'->K (a.put d v) w'
def RP{f:Nat}{fn code}(c:P.funcs[f]?=aa fn)(e:(fn.name == "runtime.NumGoroutine")=false)(g:fn.body=aa code) args w :
  (callFunc f args).run P w=.ok (.enter f args) w:=by
 have b:¬fn.name = "runtime.NumGoroutine":=by simpa using e
 simp[callFunc,c,b,g]
def bW{o s K Q}(b:execOp a.eval o=(do pure<|.value (<-s)))(h:oT P B N γ σ a w o.dst s aV)(c:Ed B N γ σ a w o.dst aV K):o.wp P a w K Q:=by
 obtain⟨v,w',bE,e,f,g⟩:=h;unfold Oper.wp;rw[b];simp only[Sem.run_bind,e];exact c bE _ w' f g
def P5{ops:List Operand}(h:dy B N γ σ a w):lT γ σ.mem w (ops.map<|cW σ) (ops.map a.eval):=by
 refine⟨aT,λi v x b c=>?_⟩;rw[JN] at b c;cases e:ops[i]? with
 | none=>rw[e] at b;cases b
 | some o =>
   rw[e] at b c;obtain rfl:=aI b;obtain rfl:=aI c;exact h.cW o
def lT.append{mem vs us f g}(h:lT γ mem w vs f)(k:lT γ mem w us g):lT γ mem w (vs++us) (f++g):=by
 refine⟨by simp[h.1,k.1],λi v x c b=>?_⟩;rw[Ro] at c b;rw[h.1] at b;split at c
 .rename_i e;rw[aQ e] at b;exact h.2 i v x c b
 .rename_i e;rw[aK e] at b;exact k.2 _ v x c b
def bF.drop{mem w'}(h:bF B γ mem w){b F4 bx}(t:mem b=aa F4)(j:F4.aP<bx.aP)(m:we B w w')
  (l:∀k,k<w.heap.size->(∀c,γ.loc b≠aa (k,c))->w'.heap[k]?=w.heap[k]?) (i:∀k o,k<w.heap.size->w'.cell? ⟨k,o,af⟩=w.cell? ⟨k,o,af⟩)
  (y:eB (bP γ b af) (dn mem b bx) w' b bx):bF B (bP γ b af) (dn mem b bx) w'/\Ext B γ mem w (bP γ b af) (dn mem b bx) w':=by
 have hx:Ext B γ mem w (bP γ b af) (dn mem b bx) w' :=
  { below:=m
    I:=λ_ _ x=>x
    r4:=λ_ _ x=>.inl x
    cells:=λblk o x=>i blk o (h.vg blk o x)
    boxes:=λc cx f=>by
     by_cases e:c=b
     .subst e;obtain rfl:F4=cx:=aI (t.symm.trans f);exact⟨bx,bD _ _,Nat.le_of_lt j,λe=>absurd e ah⟩
     .exact⟨cx,by rw[aZ _ e];exact f,bV _,λ_=>⟨by simp[bP,e],rfl,rfl⟩⟩ }
 refine⟨?_,hx⟩;exact
  { vh:=h.FP hx
    base:=fi h.base m.size
    boxes:=λc cx f=>by
     by_cases e:c=b
     .subst e;rw[bD] at f
      grind
     .rw[aZ _ e] at f;refine(h.boxes c cx f).keep hx (by simp[bP,e]) λblk k u=>l blk (h.fresh c blk k (by rw[f];simp) u).2 λp q=>e ?_;exact h.inj c b blk k p (by rw[f];simp) (by rw[t];simp) u q
    inj:=λc d blk k p f v g n=>by
     by_cases e:c=b
     .simp only[bP,aQ e] at g;cases g
     .by_cases r:d=b
      .simp only[bP,aQ r] at n;cases n
      .simp only[bP,aK e] at g;simp only[bP,aK r] at n;rw[aZ _ e] at f;rw[aZ _ r] at v;exact h.inj c d blk k p f v g n
    fresh:=λc blk k f g=>by
     by_cases e:c=b
     .simp only[bP,aQ e] at g;cases g
     .simp only[bP,aK e] at g;rw[aZ _ e] at f;have:=h.fresh c blk k f g;exact⟨this.1,zv this.2 m.size⟩
    vg:=λblk off s=>zv (h.vg blk off s) m.size
    sep:=λc cx blk k off f g s=>by
     by_cases e:c=b
     .simp only[bP,aQ e] at g;cases g
     .simp only[bP,aK e] at g;rw[aZ _ e] at f;exact h.sep c cx blk k off f g s }
def Ut{mem b c}(h:mem b=aa c):dn mem b c=mem:=by
 funext i;by_cases e:i=b
 .subst e;rw[bD,h]
 .rw[aZ _ e]
def OK{f s R xs}(hs:pR P f s)(h:dy B N γ σ a w)(hd:∀k,d=aa k->k<N)(hv:lT γ σ.mem w R xs.toList)
  (C:(C5 s d R σ).run=aa aV) {K} (hK:Ed B N γ σ a w d aV K) :
  (∃fn code,P.funcs[f]?=aa fn/\(fn.name == "runtime.NumGoroutine")=false/\fn.body=aa code)/\Calls P f xs w λe w'=>∃v,e=.returned v/\K (a.put d v) w':=by
 unfold C5 at C;split at C
 .rename_i T b aP;split at C
  case h_2=>cases C
  rename_i Y S;split at C
  case h_2=>cases C
  rename_i b' v' u un A;obtain⟨n,F⟩:=ay C;obtain rfl:=aI F;simp only[gw,DT] at n;obtain⟨⟨⟨⟨⟨⟨⟨⟨c1,c2⟩,c3⟩,c4⟩,c5⟩,c6⟩,c7⟩,c8⟩,c9⟩:=n;have c1:=gx c1;have c5:=gx c5;have c7:=gx c7;have c8:=gx c8;have c6:0<T:=by simpa using c6
  subst c7;subst c8;obtain⟨val,G,Z,g1,g2⟩:=hv.cons;have r:G=[]:=by have:=g2.1;simpa using this
  subst r;obtain⟨m,i,U,g3⟩:=bk S c1 g1.2;simp only[ef] at g3;obtain rfl:xs=#[.pointer<|some ⟨m,0,af⟩]:=by apply BU.1;rw[Z,g3]
  have t:=h.ok.boxes b' Y S;unfold eB at t;rw[c2] at t;obtain⟨LN,adO,z,tid,fr,a1,a2,a3,a4,a5⟩:=t;rw[U] at a1;obtain⟨rfl,rfl⟩:=eN (aI a1);have H:tid=T:=by
   grind
  subst H;rw[A] at a5;obtain⟨cs1,cs2,e1,e2,e3⟩:=a5;obtain⟨cs3,cs4,e4,e5,e6⟩:=e3;obtain⟨⟨p,rfl,hp1⟩,hp2⟩:=e2;obtain⟨q,hq⟩:∃q,cs3=[q]:=by
   cases u<;>first|(cases c9;done)|skip
   obtain⟨⟨q,hq,_⟩,_⟩:=e5
   grind
  subst hq;obtain rfl:cs4=[]:=e6;have I:z=#[p,q]:=by apply BU.1;rw[e1,e4];rfl
  subst I;obtain⟨aok,alK,j1,j2⟩:=bk S c1 hp2;rw[U] at j1;obtain⟨rfl,rfl⟩:=eN (aI j1);refine⟨hs.1,(hs.2 w m p q fr a2 (a3 0 aT)<|j2.imp vH vH).mono λe w' D=>?_⟩;obtain⟨rfl,D⟩:=D;refine⟨_,rfl,?_⟩;have V:∀{bE mem' w'},cI bE mem' w' (.BR .nl) .val [.tuple #[]]:=λ{_ _ _}=>⟨#[],rfl,rfl⟩;rcases D with rfl|rfl
  .refine hK γ _ _ (h.xv hd V) ?_;cases d<;>apply Ext.refl
  .have akj:({ Y with val:=Y.val }:Box)=Y:=by cases Y;rfl
   obtain⟨m1,m2⟩:=h.ok.write S c4 U a2 (cur':=#[.pointer _,q]) aT (by rw[akj])
    (λw' mem' hx hg=>by
     rw[c2];refine⟨m,i,_,tid,fr,U,hg,λo ho=>a3 o (by simpa using ho),a4,?_⟩;rw[A];refine⟨[.pointer _],[q],rfl,?_,[q],[],rfl,e5.ext hx,rfl⟩;have hp3:n9 mem' b' v' λ_=>∃m i,γ.loc b'=aa (m,i):=by
      obtain⟨F4,k1,k2,k3⟩:=hp2;obtain⟨vi,q1,q2,J⟩:=hx.boxes b' F4 k1;exact⟨vi,q1,fi k2 q2,λ_=>⟨m,i,U⟩⟩
     obtain⟨vi,q1,q2,J⟩:=hp3;exact⟨⟨_,rfl,rfl⟩,vi,q1,q2,λ_=>⟨m,i,U,.inr rfl⟩⟩)
   rw[ Ut S] at m1 m2;refine hK γ _ _ (h.bu m2 m1 hd V) ?_;cases d<;>exact m2
 .rename_i T E b aP;split at C
  case h_2=>cases C
  rename_i Y S;split at C
  case h_2=>cases C
  rename_i b' v' hh hv' un A;obtain⟨n,F⟩:=ay C;simp only[gw,DT] at n;obtain⟨⟨⟨⟨c1,c2⟩,c5⟩,c6⟩,c7⟩:=n;have c5:=gx c5;have c6:0<T:=by simpa using c6
  split at F
  case h_2=>cases F
  rename_i hx Q;obtain⟨n,hr3⟩:=ay F;simp only[gw] at n;obtain⟨⟨⟨⟨d1,d2⟩,d3⟩,d4⟩,d5⟩:=n;have d4:=gx d4;have d5:0<E:=by simpa using d5
  split at hr3
  case h_2=>cases hr3
  rename_i l hhv;change List Int at l;obtain rfl:=aI hr3;obtain⟨val,G,Z,g1,g2⟩:=hv.cons;have r:G=[]:=by have:=g2.1;simpa using this
  subst r;obtain⟨m,i,U,g3⟩:=bk S (gx c1) g1.2;obtain rfl:xs=#[.pointer _]:=by apply BU.1;rw[Z,g3]
  have t:=h.ok.boxes b Y S;unfold eB at t;rw[c2] at t;obtain⟨LN,adO,z,tid,fr,a1,a2,a3,a4,a5⟩:=t;rw[U] at a1;obtain⟨rfl,rfl⟩:=eN (aI a1);have H:tid=T:=by
   grind
  subst H;rw[A] at a5;obtain⟨cs1,cs2,e1,e2,e3⟩:=a5;obtain⟨cs3,cs4,e4,e5,e6⟩:=e3;obtain⟨⟨p,rfl,hp1⟩,hp2⟩:=e2;obtain⟨⟨q,rfl,hq1⟩,hq2⟩:=e5;obtain rfl:cs4=[]:=e6;have I:z=#[p,q]:=by apply BU.1;rw[e1,e4];rfl
  subst I;obtain⟨e',n',k1,k2,k3⟩:=bk Q (gx d1) hq2;rw[Box.dT d2 hhv] at k2;obtain⟨rfl,rfl⟩:=eN (aI k2);have L:=h.ok.boxes hh hx Q;unfold eB at L;rw[d2] at L;obtain⟨e3,l3,q1,q2,J⟩:=L;rw[hhv] at q1;cases q1;have hlen:(bq l).length=l.length:=by simp[bq]
  let hx':Box:={ hx with val:=.data (.slice<|.int .u8) ([]),aP:=hx.aP+1 }
  have key:∃og,(∀k,og=aa k->∃c,γ.loc hh=aa (k,c))/\l.length<=maxLen /\
    ((og=af/\q=.slice af 0 0/\bq l=[])\/∃(g i:Nat) (z:Array Value) (fr':Nat×Nat),og=aa g/\q=.slice (aa ⟨g,0,af⟩) (bq l).length i/\w.heap[g]?=aa (.cells z E fr')/\(bq l).length<=i/\i<=maxLen/\z.size=i/\∀(j:Nat) x,(bq l)[j]?=aa x->z[j]?=aa (Value.int .u8 x.toNat)):=by
   rcases k3 with ⟨k3,k4⟩|⟨g,M,k3,k4⟩
   .rcases J with ⟨_,J⟩|⟨_,_,_,_,_,J,_⟩
    .subst J;exact⟨af,BS,pW _,.inl ⟨rfl,vH k4,rfl⟩⟩
    .grind
   .rcases J with ⟨J,_⟩|⟨g',anc,O,alL,frg,J,q4,q5,q6,q7,q8,q9,q10⟩
    .grind
    .rw[k3] at J;obtain⟨rfl,rfl⟩:=eN (aI J);have htg:alL=E:=by
      grind
     subst htg;have W:(Ty.int IntKind.u8).size=1:=rfl;have q7':l.length<=M:=q7;refine⟨aa g,λk X=>⟨M,by rw[k3,aI X]⟩,fi q7' q8,.inr ⟨g,M,O,frg,rfl,?_,q4,ah,q8,by rw[q9,W,FD],λj x hj=>?_⟩⟩
     .rw[hlen];exact vH k4
     .simp only[bq,JN,EA] at hj;obtain⟨y,hy,rfl⟩:=hj;obtain⟨r1,r2,r3⟩:=q10 j y hy;rw[W,FD] at r1;have alM:(IntKind.u8).min=0:=aD;have agB:(IntKind.u8).max=255:=aD;have ane:O.toList[j]?=aa (.int .u8 y):=by
       have:((O.toList.drop j).take 1)[0]?=aa (.int .u8 y):=by rw[r1];rfl
       grind
      simp_all;omega
  obtain⟨og,hog,hlm,X⟩:=key;refine⟨hs.1,(hs.2 w m p q fr _ og a2 X).mono λe w' D=>?_⟩;obtain⟨rfl,D⟩:=D;refine⟨_,rfl,?_⟩;have alN:we B w w':=⟨D.os,D.tape,D.output,D.size,λk X=>by
   rcases tL k w.heap.size with hlt|hge
   .refine D.block k hlt λe=>X ?_;obtain⟨c,hc⟩:=hog k e;exact(h.ok.fresh hh k c (by rw[Q];simp) hc).1
   .exact absurd (.inl<|fi h.ok.base hge) X⟩
  have alO:eB (bP γ hh af) (dn σ.mem hh hx') w' hh hx':=by
   unfold eB;rw[show hx'.buf=true from d2];exact⟨.int .u8,[],rfl,q2,.inl ⟨by simp[bP],rfl⟩⟩
  obtain⟨m1,m2⟩:=h.ok.drop Q (TW _) alN (λk X hn=>D.block k X λe=>by obtain⟨c,hc⟩:=hog k e;exact hn c hc) D.cell alO;refine hK _ _ w' (h.bu m2 m1 hd ⟨[.string ⟨(bq l).toArray⟩],⟨rfl,by rw[hlen];exact hlm⟩,rfl⟩) ?_
  .cases d<;>exact m2
 .cases C
def P6{F c}{arr:Array Value}(n:cI γ σ.mem w (.fn F c) .cells [.func (.func F) #[] arr])(f:(c.all λb=>live σ b.1 b.2)=true):lT γ σ.mem w (c.map λb=>.ptr b.1 b.2 []) arr.toList:=by
 obtain⟨k,l,o,p⟩:=n;simp only[adf,Value.func.injEq,T6,true_and] at l;subst l;refine⟨by simpa using o,λi v x g t=>?_⟩;rw[JN] at g;cases hi:c[i]? with
 | none=>rw[hi] at g;cases g
 | some bv =>
   rw[hi] at g;obtain rfl:=aI g;have q:=wa.1 f bv (eG hi);obtain⟨r,m,e⟩:=kR q;obtain⟨h,j,s,u⟩:=bk m e (p i bv.1 bv.2<|by rw[hi]);have hx:x=.pointer (aa ⟨h,0,af⟩):=by
    grind
   subst hx;exact⟨⟨_,rfl,rfl⟩,r,m,D5 e.symm,λ_=>⟨h,j,s,rfl⟩⟩
def Xg{I}{f:Type}:∀{l:List f} {U vs c},P4 w I (l.map λ_=>true) .unit U () vs c->vs=c.map λb=>.pointer (aa ⟨b,0,af⟩):=by
 intro l;induction l with
 | nil=>intro U vs c h;obtain⟨_,_,rfl,rfl⟩:=h;rfl
 | cons p l g =>
   intro U vs c h;cases U with
   | pair t U=>obtain⟨i,e,r,rfl,rfl,h⟩:=h;rw[g h];rfl
   | _=>exact h.elim
def Uu{c:Hp}{f J xs}(hh:oh P B.G f c)(h:dy B N γ σ a w)(hd:∀k,d=aa k->k<N)(hv:lT γ σ.mem w J xs.toList)
  (C:(Ud c d J σ).run=aa aV) {K} (hK:Ed B N γ σ a w d aV K) :
  (∃fn Y,P.funcs[f]?=aa fn/\(fn.name == "runtime.NumGoroutine")=false/\fn.body=aa Y)/\Calls P f xs w λe w'=>∃v,e=.returned v/\K (a.put d v) w':=by
 refine⟨hh.body,?_⟩;unfold Ud at C;split at C
 case h_2=>cases C
 rename_i b aP vs;split at C
 case h_2=>cases C
 rename_i x bM hx;split at C
 case h_2=>cases C
 rename_i bx hb;split at C
 case h_2=>cases C
 rename_i r0 F aaD u0 L;obtain⟨i,m⟩:=ay C;simp only[gw,DT] at i;split at m
 case h_2=>cases m
 rename_i r q u ns hr0 hra;cases p:dc ns b with
 | true=>rw[p] at m;cases m
 | false =>
 rw[p] at m;obtain⟨y,hy,hr2⟩:=cg m;obtain rfl:=aI hr2;obtain⟨x0,rest,hxs,v1,v2⟩:=hv.cons;obtain⟨D,A,s2,s3⟩:=km h v2 hx;have ake:=gx i.1.1.1.1.1;have M:bx.buf=false:=i.1.1.1.1.2;have O:=gx i.1.1.2;obtain rfl:=gx i.1.2;have S:=A.ok.boxes b bx hb;unfold eB at S;rw[M,L,O] at S;obtain⟨j,E,cur,tid,fr,a1,a2,a3,a4,c1,c2,a5,a6,c3,c4,a7,a8,a9⟩:=S;obtain rfl:=LX hr0;obtain rfl:c4=[]:=a9;have a8':=a8;obtain⟨arr,rfl,_,_⟩:=a8';have V:=P6 a8 i.2;obtain⟨bs,g1,g2,g3⟩:=Ec A.ok V hra;have R:arr=(bs.map λb=>Value.pointer (aa ⟨b,0,af⟩)).toArray:=by
  rw[<-Xg g1]
 have hx0:x0=.pointer (aa ⟨j,0,af⟩):=by
  obtain⟨_,ho⟩:=v1.ext s2;obtain⟨LN,adO,k1,k2⟩:=bk hb ake ho;rw[a1] at k1;obtain⟨rfl,_⟩:=eN (aI k1);exact vH k2
 have alQ:adU w D.I c.T c.t r c.F bs j:=⟨cur,tid,fr,c1,a2,a3,a4,by rw[a5,a7,R,tK],a6⟩;have Uv:∀k∈j::bs,∃n l H,bM.mem n=aa l/\l.ro=false/\D.loc n=aa (k,H):=λk s=>by
  rcases fh.1 s with rfl|s
  .exact⟨b,bx,E,hb,i.1.1.1.2,a1⟩
  .obtain⟨n,l,H,j1,W,j3,X⟩:=g2.HG k s;exact⟨n,l,H,W,j3,X⟩
 have hnd:(j::bs).Nodup:=adi.2 ⟨(λs=>by
  obtain⟨n,l,H,j1,W,j3,X⟩:=g2.HG j s;have:=A.ok.inj b n j E H (by rw[hb];simp) (by rw[W];simp) a1 X;rw[<-this] at j1;rw[Cc.2 j1] at p;cases p),g2.nodup A.ok⟩
 refine(hh.calls D.I w xs rest j bs r x u y (λb o hi=>A.ok.vg b o hi) A.ok.LB (λk Q g s=>by
  obtain⟨n,l,H,W,j3,X⟩:=Uv k s;exact(A.ok.vh k Q g).1 (A.ok.fresh n k H (by rw[W];simp) X).1) (by rw[hxs,hx0]) s3 alQ g3 hnd (λk s o hi=>by
  obtain⟨n,l,H,W,j3,X⟩:=Uv k s;have:=(A.ok.sep n l k H o W X hi).1;rw[j3] at this;cases this) hy).mono λe w' hw=>?_
 obtain⟨v,I',h1,h2,h3,h4,h5,h6,h7,h8⟩:=hw;refine⟨v,h1,?_⟩;have hrv:n8 c.U y.2 ns b=none:=by
  cases hv:n8 c.U y.2 ns b with
  | none=>rfl
  | some z=>rw[Cc.2<|LW hv] at p;cases p
 obtain⟨m1,m2⟩:=A.ok.refs (Z:=(·=b)) g2 h2 h3 h4 h5 h7 (λk s=>by
  rcases fh.1 s with rfl|s
  .exact .inr ⟨b,E,rfl,a1⟩
  .exact .inl s) (λn hn=>by
  subst hn;refine⟨hrv,bx,hb,i.1.1.1.2,λalR=>?_⟩;obtain⟨cur',alS,fr',cs',b1,b2,b3,b4,b5⟩:=h8;unfold eB;rw[M,L,O];rw[R] at a8;exact⟨j,E,cur',alS,fr',a1,b1,b2,b3,cs',_,b4,b5,_,[],by rw[tK],a8.ext alR,rfl⟩)
 refine hK ⟨I',D.loc⟩ _ w' (by exact A.bu m2 m1 hd<|h6.rep λ_ _ hi=>hi) ?_;cases d<;>exact s2.trans m2
def RQ(m:pS P B.G cx)(Y:yx P B.G inl){f p H}(h:dy B N γ σ a w)(U:∀k,d=aa k->k<N)(V:lT γ σ.mem w p H.toList)
  (i:(y8 cx inl d f p σ).run=aa aV) {K} (J:Ed B N γ σ a w d aV K) :
  (∃L q,P.funcs[f]?=aa L/\(L.name == "runtime.NumGoroutine")=false/\L.body=aa q)/\Calls P f H w λe w'=>∃v,e=.returned v/\K (a.put d v) w':=by
 unfold y8 at i;split at i
 .rename_i c z;have W:=m.Ua f c z;refine⟨W.body,?_⟩;split at i
  .rename_i M;split at i
   .rename_i x hx;obtain⟨y,hy,l⟩:=cg i;obtain rfl:=aI l;refine(W.calls _ w H x y (λb o A=>A) h.ok.LB (OJ (I':=λb o=>b<w.heap.size) h.ok (λb o j=>h.ok.vg b o j) (λb o _ A=>A) V hx) hy).mono λe w' O=>?_;obtain⟨v,I',R,E,S,X,h5,h6⟩:=O;refine⟨v,R,?_⟩;obtain⟨m1,F⟩:=h.ok.far (I':=γ.I) E (λ_ _ j=>j) (λb o j=>zv (h.ok.vg b o j) E.size) (λb o j hn=>absurd j hn);refine J γ _ w' (h.bu F m1 U<|h6.flat M) ?_;cases d<;>exact F
   .exact absurd i cj
  .split at i
   .rename_i x bM hx;obtain⟨y,hy,l⟩:=cg i;obtain rfl:=aI l;obtain⟨γ1,s1,s2,s3⟩:=km h V hx;refine(W.calls γ1.I w H x y (λb o j=>s1.ok.vg b o j) s1.ok.LB s3 hy).mono λe w' O=>?_;obtain⟨v,I',R,E,S,X,h5,h6⟩:=O;refine⟨v,R,?_⟩;obtain⟨m1,F⟩:=s1.ok.far (I':=I') E S X h5;refine J ⟨I',γ1.loc⟩ _ w' (s1.bu F m1 U<|h6.rep λ_ _ j=>j) ?_;cases d<;>exact s2.trans F
   .exact absurd i cj
 .rename_i z;have t:((inl f p σ).bind λr=>.ret (r.2.bu d r.1):Tree St).run=aa aV->(∃L q,P.funcs[f]?=aa L/\(L.name == "runtime.NumGoroutine")=false/\L.body=aa q)/\Calls P f H w λe w'=>∃v,e=.returned v/\K (a.put d v) w':=by
   intro i;obtain⟨r,hr1,l⟩:=bind_some i;obtain rfl:=aI l;obtain⟨v0,r8⟩:=r;obtain⟨A,hsl,C⟩:=Y B γ σ r8 w f p H v0 rfl h.ok V hr1;refine⟨A,C.mono λe w' O=>?_⟩;obtain⟨v,bE,R,E,S,X⟩:=O;refine⟨v,R,?_⟩;have hs0:r8={ bh:=σ.bh,mem:=r8.mem }:=by cases r8;subst hsl;rfl
   rw[hs0] at J;refine J bE _ w' (h.bu S E U X) ?_;cases d<;>exact S
  split at i
  .rename_i s hcs;exact OK (m.PV f s hcs) h U V i J
  split at i
  .rename_i c hcr;split at i
   .rename_i x u ns hx;obtain⟨y,hy,l⟩:=cg i;obtain rfl:=aI l;have W:=m.OA f c hcr;obtain⟨bs,g1,g2,g3⟩:=Ec h.ok V hx;have T:∀D∈bs,∀o,¬γ.I D o:=λD A o j=>by
     obtain⟨b,bx,k,j1,j2,j3,j4⟩:=g2.HG D A;have:=(h.ok.sep b bx D k o j2 j4 j).1
     grind
    refine⟨W.body,(W.calls γ.I w H bs x u y (λb o j=>h.ok.vg b o j) h.ok.LB (λb Q g A=>by
     obtain⟨n,bx,k,j1,j2,j3,j4⟩:=g2.HG b A;exact(h.ok.vh b Q g).1 (h.ok.fresh n b k (by rw[j2];simp) j4).1) g1 g3 (g2.nodup h.ok) T hy).mono λe w' O=>?_⟩
    obtain⟨v,I',R,E,S,X,h5,h6,h7⟩:=O;refine⟨v,R,?_⟩;obtain⟨m1,F⟩:=h.ok.refs (Z:=λ_=>False) g2 E S X h5 h7 (λk hk=>.inl hk) (λc hc=>hc.elim);refine J ⟨I',γ.loc⟩ _ w' (by exact h.bu F m1 U<|h6.rep λ_ _ j=>j) ?_;cases d<;>exact F
   .grind
  .split at i
   .rename_i c z;exact Uu (m.Ru f c z) h U V i J
   .exact t i
def bF.Xh{mem w'}(h:bF B γ mem w){b vi e T L X I' v}
  (J:∀k,X k->∃g c,mem b=aa g/\g.ro=false/\γ.loc b=aa (k,c)) (p:lU w γ.I X w' I') (t:xC w' I' e T L v) (R:∀f c,L=aa (f,c)->X f\/w.heap.size<=f)
  (U:∀g,mem b=aa g->g.aP<vi.aP\/(g.aP=vi.aP/\L=γ.loc b/\vi.buf=g.buf/\vi.row=g.row)) (V:vi.val=.data (.slice e) T) (W:vi.buf=true) (Y:vi.tid=0) (he:0<e.size) :
  let bE:Gh:=⟨I',λi=>if i=b then L else γ.loc i⟩
  bF B bE (dn mem b vi) w'/\Ext B γ mem w bE (dn mem b vi) w':=by
 intro bE;have m:∀k,k<w.heap.size->¬X k->w'.heap[k]?=w.heap[k]?:=λk s K=>p.below.block k λq=>by
  rcases q with q|q
  .grind
  .grind
 have y:∀k,X k->∀o,¬γ.I k o:=λk s o u=>by
  obtain⟨g,c,n,r,M⟩:=J k s;have:=(h.sep b g k c o n M u).1
  grind
 have D:∀k,¬B.has k->k<w.heap.size:=λk s=>Zb λq=>s (.inl<|fi h.base q);have z:∀k,X k->B.has k/\k<w.heap.size:=λk s=>by
  obtain⟨g,c,n,r,M⟩:=J k s;exact h.fresh b k c (by rw[n];simp) M
 have hx:Ext B γ mem w bE (dn mem b vi) w' :=
  { below:=⟨p.below.os,p.below.tape,p.below.output,p.below.size,λk s=>m k (D k s) λK=>s (z k K).1⟩
    I:=p.held
    r4:=λb o x=>by
     by_cases u:γ.I b o
     .grind
     .exact .inr (.inl<|fi h.base<|p.r4 b o x u)
    cells:=λb o u=>dF (m b (h.vg b o u) λK=>y b K o u)
    boxes:=λc cx j=>by
     by_cases l:c=b
     .subst l;refine⟨vi,bD _ _,?_,λE=>?_⟩
      .grind
      .grind
     .exact⟨cx,by rw[aZ _ l];exact j,bV _,λ_=>⟨by simp[bE,l],rfl,rfl⟩⟩ }
 have Z:∀f c,L=aa (f,c)->f<w'.heap.size/\∀o,¬I' f o:=λf c F=>by
  rcases t with ⟨q,_⟩|⟨G,cap,cur,tid,fr,q1,q2,q3,q4,q5,q6,q7,q8,q9⟩
  .grind
  .grind
 have A:∀{c d:Nat},c≠b->dn mem b vi c≠af->mem c≠none:=λj O=>by rwa [aZ _ j] at O
 have Q:∀{d f k c},d≠b->mem d≠af->L=aa _->γ.loc d=aa _->False:=λ{d f k c} hd O F r=>by
  rcases R f k F with Xi|Xi
  .obtain⟨g,c0,j1,j2,S⟩:=J f Xi;exact hd (h.inj d b f c c0 O (by rw[j1];simp) r S)
  .have:=(h.fresh d f c O r).2;omega
 refine⟨?_,hx⟩;exact
  { vh:=h.FP hx
    base:=fi h.base p.below.size
    boxes:=λc cx j=>by
     by_cases l:c=b
     .subst l;rw[bD] at j;unfold eB;rcases t with ⟨q1,q2,q3⟩|⟨G,cap,cur,tid,fr,q1,q2,q3,q4,q5,q6,q7,q8,q9⟩
      .grind
      .grind
     .rw[aZ _ l] at j;refine(h.boxes c cx j).keep hx (by simp[bE,l]) λf k F=>m f (h.fresh c f k (by rw[j];simp) F).2 λXi=>?_;obtain⟨g,c0,j1,j2,S⟩:=J f Xi;exact l (h.inj c b f k c0 (by rw[j];simp) (by rw[j1];simp) F S)
    inj:=λc d f k k' j hd n r=>by
     by_cases l:c=b
     .by_cases E:d=b
      .grind
      .exfalso;simp only[bE] at n;simp only[bE,aK E] at r;simp_all
     .by_cases E:d=b
      .exfalso;simp only[bE] at n;simp only[bE] at r;simp_all
      .simp only[bE,aK l] at n;simp only[bE,aK E] at r;exact h.inj c d f k k' (A (d:=0) l j) (A (d:=0) E hd) n r
    fresh:=λc f k j n=>by
     by_cases l:c=b
     .grind
     .simp only[bE,aK l] at n;have:=h.fresh c f k (A (d:=0) l j) n;exact⟨this.1,zv this.2 p.below.size⟩
    vg:=p.vg
    sep:=λc cx f k C j n u=>by
     by_cases l:c=b
     .grind
     .simp only[bE,aK l] at n;rw[aZ _ l] at j;by_cases H:γ.I f C
      .exact h.sep c cx f k C j n H
      .have M:=p.r4 f C u H;have r:=(h.fresh c f k (by rw[j];simp) n).2;omega }
def xC.rep{I loc mem w e l L v b aP bx}(h:xC w I e l L v)
  (f:loc b=L) (p:mem b=aa bx) (g:bx.aP=aP) (c:bx.buf=true) (i:bx.val=.data (.slice e) l):cI ⟨I,loc⟩ mem w (.whole b aP) .val [v]:=by
 rcases h with ⟨k,m,n⟩|⟨j,o,q,tid,r,k,m,n,s,t,u,x,y,z⟩
 .exact⟨⟨v,rfl,by rw[n];rfl⟩,gE p g ⟨e,l.length,c,Box.dT c i,.inl ⟨by rw[<-k];exact f,by rw[n]⟩⟩⟩
 .exact⟨⟨v,rfl,by rw[m];rfl⟩,gE p g ⟨e,l.length,c,Box.dT c i,.inr ⟨j,o,by rw[<-k];exact f,by rw[m]⟩⟩⟩
def adW{mem}(h:bF B γ mem w){b aP i}{e:Ty}{l:List e.den}{v}(u:mem b=aa i)(m:i.aP=aP)(f:i.buf=true)(D:i.ro=false)(g:i.val=.data (.slice e) l)
  (E:cI γ mem w (.whole b aP) .val [v]):xC w γ.I e l (γ.loc b) v/\0<e.size:=by
 obtain⟨O,n,Q,A,c⟩:=bk u m E.2;rw[Box.dT f g] at A;obtain⟨rfl,rfl⟩:=eN (aI A);have j:=h.boxes b i u;unfold eB at j;rw[f] at j;obtain⟨R,S,C,F,k⟩:=j;rw[g] at C;cases C;refine⟨?_,F⟩;rcases k with ⟨k,x⟩|⟨p,q,y,tid,G,k,x,H,T,J,K,L,z⟩
 .rcases c with ⟨c,r⟩|⟨s,t,c,r⟩
  .exact .inl ⟨c,x,vH r⟩
  .grind
 .rcases c with ⟨c,r⟩|⟨s,t,c,r⟩
  .grind
  .rw[k] at c;obtain⟨rfl,rfl⟩:=eN (aI c);refine .inr ⟨p,q,y,tid,G,k,vH r,x,H,J,K,L,λo M=>?_,z⟩;have:=(h.sep b i p q o u k M).1
   grind
def vm{e v b aP i l}(h:Av e σ v=aa (b,aP,i,l)):σ.mem b=aa i/\i.aP=aP/\i.buf=true/\i.lk=false/\i.ro=false/\i.tid=0 /\
  ∃k:List e.den,i.val=.data (.slice e) k/\((v=.whole b aP/\l=k)\/∃n,v=.part b aP 0 n/\l=sub k 0 n):=by
 unfold Av at h;split at h
 .rename_i r g;split at h
  .rename_i c p;cases f:(Nat.beq c.aP g&&c.buf&&!c.lk&&!c.ro&&Nat.beq c.tid 0) with
   | false=>rw[f] at h;cases h
   | true =>
     rw[f] at h;split at h
     .rename_i u k j;split at h
      .rename_i s m;obtain⟨q,o⟩:=mv m;subst q;subst o;simp_all
      .cases h
     .cases h
  .cases h
 .rename_i r g t n;split at h
  .rename_i c p;cases f:(Nat.beq c.aP g&&c.buf&&!c.lk&&!c.ro&&Nat.beq c.tid 0&&decide (t=0)) with
   | false=>rw[f] at h;cases h
   | true =>
     rw[f] at h;simp only[gw,DT,Ap] at f;split at h
     .rename_i u k j;split at h
      .rename_i s m;obtain⟨q,o⟩:=mv m;subst q;subst o;cases h;have x:=f.2;subst x;exact⟨p,gx f.1.1.1.1.1,f.1.1.1.1.2,f.1.1.1.2,f.1.1.2,gx f.1.2,_,j,.inr ⟨n,rfl,rfl⟩⟩
      .cases h
     .cases h
  .cases h
 .cases h
def Xj{mem}(h:bF B γ mem w){b aP m}{e:Ty}{l:List e.den}{n v}(z:mem b=aa m)(r:m.aP=aP)(c:m.buf=true)(J:m.ro=false)(f:m.val=.data (.slice e) l)
  (K:cI γ mem w (.part b aP 0 n) .val [v]):xC w γ.I e (sub l 0 n) (γ.loc b) v/\0<e.size:=by
 obtain⟨V,k,D,W,X,Y,E,g,u,Z,k8,L,k9⟩:=bk z r K.2;rw[Box.dT c f] at D;obtain⟨rfl,rfl⟩:=eN (aI D);have p:=h.boxes b m z;unfold eB at p;rw[c] at p;obtain⟨e3,l3,F,M,j⟩:=p;rw[f] at F;cases F;refine⟨?_,M⟩;obtain u:=vH u;have hlen:(sub l 0 n).length=n.toNat:=by
  simp only[sub,dk,rj];omega
 rcases L.2 rfl c with ⟨s,rfl,rfl⟩|⟨q,s,rfl⟩
 .rcases j with ⟨j,y⟩|⟨q,A,t,tid,G,j,_⟩
  .subst y;have:n.toNat=0:=ah;exact .inl ⟨s,by simp[sub],by rw[u,this]⟩
  .grind
 .rcases j with ⟨j,y⟩|⟨H,A,t,tid,G,j,y,O,q6,q7,Q,R,C⟩
  .grind
  .rw[s] at j;obtain⟨rfl,rfl⟩:=eN (aI j);refine .inr ⟨q,g,t,tid,G,s,by rw[hlen];exact u,y,O,ah,Q,R,λo S=>?_,λi x T=>C i x ?_⟩
   .have:=(h.sep b m q g o z s S).1
    grind
   .have U:((l.drop (0:Int).toNat).take n.toNat)[i]?=aa x:=T
    grind
def P7{e v b aP q l val}(k:bF B γ σ.mem w)(h:Av e σ v=aa (b,aP,q,l))(m:cI γ σ.mem w v .val [val]):xC w γ.I e l (γ.loc b) val/\0<e.size:=by
 obtain⟨o,c,f,r,j,p,s,g,i⟩:=vm h;rcases i with ⟨rfl,rfl⟩|⟨n,rfl,rfl⟩
 .exact adW k o c f j g m
 .exact Xj k o c f j g m
def yy{f s}(h:y7 cx bf d f=aa s):find cx.PV f=aa s:=by
 unfold y7 at h
 grind
def J2{f e i s}(E:pR P f (.clone e))(h:dy B N γ σ a w)(H:∀k,d=aa k->k<N)(J:lT γ σ.mem w i s.toList)
  (g:(mY nb e d i σ).run=aa aV) {K} (M:Ed B N γ σ a w d aV K) :
  (∃t m,P.funcs[f]?=aa t/\(t.name == "runtime.NumGoroutine")=false/\t.body=aa m)/\Calls P f s w λe w'=>∃v,e=.returned v/\K (a.put d v) w':=by
 unfold mY at g;split at g
 case h_2=>cases g
 rename_i k x;split at g
 case h_2=>cases g
 rename_i l bM O;obtain⟨Q,g⟩:=ay g;obtain⟨n,g⟩:=cP g;obtain⟨aP,p,u⟩:=dV g;obtain rfl:=aI u;obtain⟨R,r,y,S,T⟩:=J.cons;have j:r=[]:=by have:=T.1;simpa using this
 subst j;obtain⟨z,A,U,V,W,X⟩:=od h S O;refine⟨E.1,(E.2 z.I w s l (λb o Y=>A.ok.vg b o Y) ⟨V,[],by rw[y,X],W,rfl⟩ n).mono λq w' Z=>?_⟩;obtain⟨v,I',L,rfl,h1,F,h3⟩:=Z;refine⟨v,rfl,?_⟩;obtain⟨m1,G⟩:=A.ok.Xh (vi:={ val:=.data _ l,tid:=0,buf:=true,ro:=false,lk:=false,aP }) (λ_ hf=>hf.elim) h1 F (λC c hl=>.inr (h3 C c hl))
  (λD h0=>.inl (p D h0)) rfl rfl rfl (by simpa using Q)
 exact M _ _ w' (A.step G m1 (H k rfl)<|F.rep aT (bD _ _) rfl rfl rfl) (U.trans G)
def OL{f e A res spec m R}(hs:pR P f (.own e A res spec))(h:dy B N γ σ a w)(hd:∀k,d=aa k->k<N)(hv:lT γ σ.mem w m R.toList)
  (i:(uq e A res spec d m σ).run=aa aV) {K} (hK:Ed B N γ σ a w d aV K) :
  (∃S z,P.funcs[f]?=aa S/\(S.name == "runtime.NumGoroutine")=false/\S.body=aa z)/\Calls P f R w λe w'=>∃v,e=.returned v/\K (a.put d v) w':=by
 unfold uq at i;split at i
 case h_2=>cases i
 rename_i v0 vs;split at i
 case h_2=>cases i
 rename_i x bM hg;split at i
 case h_2=>cases i
 rename_i b T C l D;obtain⟨E,r,i⟩:=cg i;obtain⟨U,F,g,hlk,V,p,l0,G,s⟩:=vm D;obtain⟨W,H,X,g1,g2⟩:=hv.cons;obtain⟨t,y,Y,u⟩:=km h g2 hg;obtain⟨J,he⟩:=P7 y.ok D (g1.ext Y);refine⟨hs.1,(hs.2 t.I w R W H l E _ x (λb o hi=>y.ok.vg b o hi) X J u r).mono λq w' hw=>?_⟩;obtain⟨I',h1,h2⟩:=hw;have hX:∀k,(∃c,t.loc b=aa _)->∃j c,bM.mem b=aa j/\j.ro=false/\t.loc b=aa (k,c):=λk ⟨c,hc⟩=>⟨C,c,U,V,hc⟩;cases res with
 | true =>
   cases d with
   | none=>cases i
   | some k =>
     obtain rfl:=aI i;obtain⟨v',L',rfl,Q,h4⟩:=h2;refine⟨v',rfl,?_⟩;obtain⟨m1,L⟩:=y.ok.Xh (b:=b) (vi:={ C with val:=.data (.slice e) E,aP:=T+1 }) hX h1 Q h4 (λj M=>by
      rw[U] at M;obtain rfl:=aI M;exact .inl (by simp[F])) rfl g p he
     exact hK _ _ w' (y.step L m1 (hd k rfl)<|Q.rep aT (bD _ _) rfl g rfl) (Y.trans L)
 | false =>
   have Z:sb v0=true/\aV=(bM.cw b { C with val:=.data (.slice e) E }).bu d (.BR .nl):=by
    cases d with
    | none=>obtain⟨q1,q2⟩:=ay i;exact⟨q1,(aI q2).symm⟩
    | some k=>obtain⟨q1,q2⟩:=ay i;exact⟨q1,(aI q2).symm⟩
   obtain⟨hwh,rfl⟩:=Z;obtain rfl:l=l0:=by
    rcases s with ⟨_,q⟩|⟨n,rfl,_⟩
    .exact q
    .cases hwh
   obtain⟨rfl,O,Q⟩:=h2;refine⟨_,rfl,?_⟩;obtain⟨m1,L⟩:=y.ok.Xh (vi:={ C with val:=.data (.slice e) E }) hX h1 Q (λblk c hl=>.inl ⟨c,hl⟩) (λj M=>by
    rw[U] at M;obtain rfl:=aI M;exact .inr ⟨rfl,rfl,rfl,by rw[Box.dT g G,Box.dT (bx:={ C with val:=.data (.slice e) E }) g rfl,O]⟩) rfl g p he
   refine hK _ _ w' (y.bu L m1 hd ⟨#[],rfl,rfl⟩) ?_;cases d<;>exact Y.trans L
def OM(b:pS P B.G cx)(g:yx P B.G inl){f c q}(h:dy B N γ σ a w)(l:∀k,d=aa k->k<N)(m:lT γ σ.mem w c q.toList)
  (i:(wc cx nb bf inl d f c σ).run=aa aV) {K} (n:Ed B N γ σ a w d aV K) :
  (∃o j,P.funcs[f]?=aa o/\(o.name == "runtime.NumGoroutine")=false/\o.body=aa j)/\Calls P f q w λe w'=>∃v,e=.returned v/\K (a.put d v) w':=by
 unfold wc at i;split at i
 .rename_i e p;exact J2 (b.PV f _<|yy p) h l m i n
 .rename_i e A r s p;exact OL (b.PV f _<|yy p) h l m i n
 .exact RQ b g h l m i n
def LY{o}{f:Nat}{g K Q}(i:(execOp a.eval o).run P w=(callFunc f g).run P w)
  (h:(∃c b,P.funcs[f]?=aa c/\(c.name == "runtime.NumGoroutine")=false/\c.body=aa b)/\Calls P f g w λe w'=>∃v,e=.returned v/\K (a.put o.dst v) w'):o.wp P a w K Q:=by
 obtain⟨⟨c,b,j,k,l⟩,m⟩:=h;unfold Oper.wp;rw[i,RP j k l];refine m.mono λe w' n=>?_
 grind
def Uw(K:fN P cx){t X:TypeId}{v x n}(L:bF B γ σ.mem w)(A:cI γ σ.mem w v .val [x])(p:Zi (find cx.T t) v=true)(f:lenOf σ v=aa n) :
  (Builtin.len_ #[t] X #[x]).run P w=.ok (goInt n) w/\IntKind.i64.min<=n/\n<=IntKind.i64.max:=by
 have Y:maxLen<=IntKind.i64.max:=aD;have Z:IntKind.i64.min<=0:=aD;have h:∀{base m c},(∃e,find cx.T t=aa (.slice e))->x=.slice base m c->n=m->m<=maxLen->(Builtin.len_ #[t] X #[x]).run P w=.ok (goInt n) w/\IntKind.i64.min<=n/\n<=IntKind.i64.max:=by
  intro base m c M hx hn L;obtain⟨e,M⟩:=M;obtain⟨O,Q,_⟩:=(K.T _ _ M).slice;subst hx;subst hn;refine⟨?_,ah,ah⟩;simp[Builtin.len_,run_underlying Q]
 have i:∀{o:Option Ty},(match o with|some (.slice _)=>true|_=>false)=true->∃e,o=aa (.slice e):=by
  grind
 cases v with
 | data u y =>
   cases u with
   | str =>
     obtain⟨rfl,C⟩:=y9 A;obtain rfl:=aI f;have e1:(⟨List.toArray y⟩:ByteArray).size=List.length y:=by
      show(List.toArray y).size=_
      grind
     refine⟨?_,?_,?_⟩
     .simp only[Builtin.len_];simp[run_underlying<|(K.T _ _<|jz p).str,e1,len]
     .simp only[len];omega
     .simp only[len];omega
   | slice e =>
     obtain rfl:=aI f;obtain⟨cs,D,C⟩:=eg.1 A;rcases D with ⟨⟨_,D⟩,R⟩|⟨E,off,q,D,R,h4,_⟩
     .rw[D] at C;exact h ⟨e,jz p⟩ C (by rw[R];rfl) (pW _)
     .rw[D] at C;exact h ⟨e,jz p⟩ C rfl (fi R h4)
   | arr m e =>
     obtain⟨O,Q,_⟩:=(K.T _ _<|jz p).arr;simp only[lenOf] at f;cases j:Nat.ble m 4294967296 with
     | false=>rw[j] at f;cases f
     | true =>
       rw[j] at f;obtain rfl:=aI f;have:=JL j;have h9:4294967296<=IntKind.i64.max:=aD;refine⟨by simp[Builtin.len_,run_underlying Q],ah,ah⟩
   | _=>cases f
 | p7 =>
   obtain rfl:=aI f;obtain rfl:x=_:=by simpa [cI] using A
   exact h (i p) rfl rfl (pW _)
 | whole b aP =>
   simp only[lenOf] at f;split at f
   .rename_i F j;cases g:(Nat.beq F.aP aP&&F.buf) with
    | false=>rw[g] at f;cases f
    | true =>
      rw[g] at f;simp only[gw] at g;split at f
      .rename_i u l r;obtain rfl:=aI f;obtain⟨e',k,S,U,G⟩:=bk j (gx g.1) A.2;rw[Box.dT S r] at U;obtain⟨rfl,rfl⟩:=eN (aI U);rcases G with ⟨G,H⟩|⟨E,q,G,H⟩
       .have I:=L.boxes b F j;rw[eB,S] at I;obtain⟨e3,l3,V,q2,z⟩:=I;rw[r] at V;cases V;rcases z with ⟨_,z⟩|⟨E,q,W,tid,fr,z,_⟩
        .exact h (i p) (vH H) (by rw[z];rfl) (pW _)
        .grind
       .obtain⟨W,tid,fr,V,q2,z,q4,_⟩:=((L.boxes b F j).row G).1 _ l S r;exact h (i p) (vH H) rfl (fi z q4)
      .cases f
   .cases f
 | part b aP lo n' =>
   simp only[lenOf] at f;cases s:live σ b aP with
   | false=>rw[s] at f;cases f
   | true =>
     rw[s] at f;obtain rfl:=aI f;obtain⟨F,j,J⟩:=kR s;obtain⟨e',k,U,G,H,g5,base,q,g6,g7,g8,gF,g9⟩:=bk j J A.2;exact h (i p) (vH g6) (ac6 H).symm (fi g7 g8)
 | _=>cases f
def fa.take{w I e l cs}(h:fa w I e l cs) k:fa w I e (l.take k) (cs.take<|k*e.size):=by
 intro i x b;rw[jM] at b;split at b
 .rename_i c;have f:_*e.size<=k*e.size:=gW _ c;rw[JO] at f;rw[Zf,Oz,xh ah];exact h i x b
 .cases b
def fa.drop{w I e l cs}(h:fa w I e l cs) k:fa w I e (l.drop k) (cs.drop<|k*e.size):=by
 intro i x b;rw[va] at b;rw[Aq,<-iE];exact h _ x b
def Ja{α}{l m:List α}{b:Int}(c:0<=b)(h:b+m.length<=l.length):(over l b m).length=l.length:=by
 simp only[over,iC,dk,rj];omega
def fa.over{w I e l m cs news}{lo:Int}(h:fa w I e l cs)(n:fa w I e m news)(f:news.length=m.length*e.size)(s:0<=lo)
  (t:lo+m.length<=l.length) (u:l.length*e.size<=cs.length):fa w I e (over l lo m) (ba cs (lo.toNat*e.size) news):=by
 have o:(lo.toNat+m.length)*e.size<=l.length*e.size:=gW _ ah;rw[iE] at o;have k:=(h.take lo.toNat).append (rest:=[]) n (by rw[dk,dk,xh ah,xh ah]) f;rw[tK] at k;have p:ba cs (lo.toNat*e.size) news=cs.take (lo.toNat*e.size)++news++cs.drop ((lo.toNat+m.length)*e.size):=by
  simp only[ba,f,iE]
 rw[p];intro i x g;by_cases b:(lo.toNat+m.length)*e.size+(l.length-(lo.toNat+m.length))*e.size=l.length*e.size
 .have q:fa w I e (Go.Ge.over l lo m) (cs.take (lo.toNat*e.size)++news++(cs.drop<|(lo.toNat+m.length)*e.size)):=by
   intro i x g;by_cases j:i<lo.toNat+m.length
   .have c:(l.take lo.toNat++m)[i]?=aa x:=by
     simp only[Go.Ge.over] at g
     grind
    rw[oU<|by rw[iC,dk,f,xh ah,<-iE];exact(gW _ j)];exact k i x c
   .have c:(l.drop<|lo.toNat+m.length)[i-(lo.toNat+m.length)]?=aa x:=by
     simp only[Go.Ge.over] at g
     grind
    have:=h.drop _ _ x c;have r:i*e.size=(cs.take (lo.toNat*e.size)++news).length+(i-(lo.toNat+m.length))*e.size:=by
     rw[iC,dk,f,xh ah,<-iE,<-iE];congr 1;omega
    rw[r,<-Aq]
    grind
  exact q i x g
 .exact absurd (by rw[<-iE];congr 1;omega) b
def xD(h:dy B N γ σ a w){e m b aP q chk lo base news}
  (hr:(kQ e m b aP q chk lo σ).run=aa aV) (hE:fa w γ.I e m news) (hn:news.length=m.length*e.size) (X:∀u∈news,u.oneCell'=true) (h0:0<=lo)
  (Y:∀bx (l:List e.den),σ.mem b=aa bx->bx.aP=aP->bx.buf=true->bx.val=.data (.slice e) l->q=[]->lo+m.length<=l.length)
  (Z:∀bx k (l:List e.den),σ.mem b=aa bx->bx.aP=aP->bx.buf=false->(nav q bx.val).run=aa (.data (.arr k e) l)->chk k e=true->lo+m.length<=k)
  (K:m=[]\/∃g c,γ.loc b=aa (g,c)/\base=aa ⟨g,ef q+lo.toNat*e.size,af⟩) :
  ∃w',(match base with|some ad=>storeCells ad news|none=>pure ()).run P w=.ok () w'/\dy B N γ aV a w'/\Ext B γ σ.mem w γ aV.mem w':=by
 unfold kQ at hr;split at hr
 case h_2=>cases hr
 rename_i bx hb;obtain⟨hcd,o⟩:=ay hr;simp only[gw,DT] at hcd;obtain⟨⟨p,hlk⟩,hro⟩:=hcd;have p:=gx p;have s:=h.ok.boxes b bx hb;have G:m=[]->news=[]:=λU=>by subst U;simpa using hn
 have H:m=[]->(match base with|some ad=>storeCells ad news|none=>pure ()).run P w=.ok () w:=λU=>by
  rw[G U];cases base<;>rfl
 have r:∀g c f tid y,γ.loc b=aa (g,c)->w.heap[g]?=aa (.cells f tid y)->nr f y->ef q+lo.toNat*e.size+news.length<=f.size ->
   (match base with|some ad=>storeCells ad news|none=>pure ()).run P w=.ok () (w.setRow g (ba f.toList (ef q+lo.toNat*e.size) news).toArray):=by
  intro g c f tid y hl V hth L;rcases K with U|⟨LN,c',hl',rfl⟩
  .rw[H U,G U];simp only[ba,tK,p6,FC,Fz];rw[setRow_self w g f tid y V]
  .rw[hl] at hl';have:=du (P:=P) g _ tid y news 0 f w V hth ah X
   grind
 split at o
 .rename_i j;split at o
  case h_2=>cases o
  rename_i u l D;split at o
  case h_2=>cases o
  rename_i E M;obtain rfl:=aI o;obtain⟨hq,O⟩:=mv M;subst hq;obtain rfl:E=m:=O;have L:=Y bx l hb p j D rfl;have hlen:=Ja h0 L;unfold eB at s;rw[j] at s;obtain⟨e2,l2,j1,j2,j3⟩:=s;rw[D] at j1;cases j1;have Q:({ bx with val:=.data (.slice e) (over l lo E) }:Box).row=bx.row:=by
   rw[Box.dT j D];exact(Box.dT (bx:=⟨.data (.slice e) _,bx.tid,bx.buf,bx.ro,bx.lk,bx.aP⟩) j rfl).trans (by rw[hlen])
  rcases j3 with ⟨J,R⟩|⟨g,t,f,tid,y,J,R,k3,z,k4,k5,k6,k7⟩
  .subst R;have hm0:E=[]:=by
    grind
   subst hm0;have e1:σ.cw b { bx with val:=.data (.slice e) (over ([]:List e.den) lo []) }=σ:=by
    have:({ bx with val:=.data (.slice e) (over ([]) lo []) }:Box)=bx:=by
     cases bx;subst D;simp[over]
    simp only[St.cw]
    congr 1
    funext i;by_cases hi:i=b
    .grind
    .simp[iI hi]
   rw[e1];exact⟨w,H rfl,h,Ext.refl _ _ _ _⟩
  .have n:ef ([])+lo.toNat*e.size+news.length<=f.size:=by
    have:(lo.toNat+E.length)*e.size<=t*e.size:=gW _ ah;rw[iE] at this;simp only[ef];omega
   have hst:=r g t f tid y J R k3.th n;have v:(ba f.toList (lo.toNat*e.size) news).toArray.size=f.size:=by have:=bO (by simp only[ef] at n;omega);simpa using this
   obtain⟨m1,m2⟩:=h.ok.write hb hro J R (cur':=(ba f.toList _ news).toArray) v Q
    (λw' mem' W V=>by
     simp only[j];refine⟨e,_,rfl,j2,.inr ⟨g,t,_,tid,y,J,V,k3.same v,z,by rw[hlen];exact k4,k5,by rw[v];exact k6,?_⟩⟩;intro i x hx';have:=fa.over k7 hE hn h0 L (by show _<=f.size;rw[k6];exact gW _ k4) i x hx';simpa using bJ.mono W.I W.cells this)
   simp only[ef,BV] at hst;exact⟨_,hst,h.go m2 m1,m2⟩
 .rename_i j;obtain⟨old,F,S⟩:=bind_some o;split at S
  case h_2=>cases S
  rename_i k u l;obtain⟨hck,T⟩:=ay S;split at T
  case h_2=>cases T
  rename_i E M;obtain⟨c,hs,hr5⟩:=bind_some T;obtain rfl:=aI hr5;obtain⟨hq,O⟩:=mv M;subst hq;obtain rfl:E=m:=O;unfold eB at s;rw[j] at s;obtain⟨g,t,f,tid,y,J,R,k3,z,k4⟩:=s;obtain⟨p1,p2⟩:=yv k4 F;obtain⟨r1,r2,r3⟩:=p2;have hll:lo+E.length<=(List.length l):=by rw[r1];exact(Z bx k l hb p j F hck)
  have alT:(lo.toNat+E.length)*e.size<=k*e.size:=gW _ ah;rw[iE] at alT;have n:ef q+lo.toNat*e.size+news.length<=f.size:=by have p1':ef q+k*e.size<=f.size:=p1;omega
  have A:((f.toList.drop _).take<|k*e.size).length=k*e.size:=r2;have C:lo.toNat*e.size+news.length<=((f.toList.drop<|ef q).take<|k*e.size).length:=ah;have alU:bJ w γ.I (.arr k e) (over l lo E) (ba ((f.toList.drop<|ef q).take<|k*e.size) (lo.toNat*e.size) news):=by
   refine⟨(Ja h0 hll).trans r1,by rw[bO C,A],?_⟩;exact fa.over r3 hE hn h0 hll (by rw[A];exact D5 (by rw[r1]))
  have Q:=I7 (by rw[j];exact hs) λhp _=>by
   subst hp;rw[Box.sn j<|aI F];exact Box.sn j rfl
  have v:(ba f.toList (ef q+lo.toNat*e.size) news).toArray.size=f.size:=by have:=bO n;simpa using this
  obtain⟨m1,m2⟩:=h.ok.write hb hro J R (cur':=(ba f.toList _ news).toArray) v Q
   (λw' mem' W V=>by
    simp only[j];refine⟨g,t,_,tid,y,J,V,k3.same v,z,?_⟩;have:=Az (k4.ext W) F hs (bJ.mono W.I W.cells alU) (by rw[bO C,A];rfl);rw[(uu f.toList _ _ (k*e.size) news ah p1)] at this;simpa using this)
  exact⟨_,(r g t f tid y J R k3 n),h.go m2 m1,m2⟩
def F5{e L t V r}(h:dy B N γ σ a w)(hv:cI γ σ.mem w t .val [V])(M:(Hr e L t σ).run=aa r) :
  ∃g o,V=.slice g r.1.toNat o/\0<=r.1/\∀i,fa w γ.I e (L r.1) i->i.length=(L r.1).length*e.size->(∀u∈i,u.oneCell'=true)->(L r.1).length<=r.1.toNat ->
   ∃w',(match g with|some ad=>storeCells ad i|none=>pure ()).run P w=.ok () w'/\dy B N γ r.2 a w'/\Ext B γ σ.mem w γ r.2.mem w':=by
 unfold Hr at M;split at M
 .rename_i b G lo n;obtain⟨bM,f,H⟩:=bind_some M;obtain rfl:=aI H;have p:∃z,σ.mem b=aa z/\z.aP=G:=by
   unfold kQ at f;split at f
   .rename_i z A;obtain⟨W,_⟩:=ay f;simp_all
   .cases f
  obtain⟨z,A,v⟩:=p;obtain⟨e',k,Q,R,S,g5,g,o,g6,g7,g8,gF,T⟩:=bk A v hv.2;refine⟨g,o,by simpa using g6,S,λi X Y x Z=>?_⟩;refine xD h f X Y x R (λJ l C _ s m _=>?_) (λJ k' l C _ s F _=>?_) ?_
  .obtain rfl:=aI (A.symm.trans C);rw[Box.dT s m] at Q
   grind
  .obtain rfl:=aI (A.symm.trans C);have m:=aI F;rw[Box.sn s m] at Q
   grind
  .rcases T with T|⟨y,c,T,g10⟩
   .grind
   .by_cases hm:L n=[]
    .grind
    .right;have he:e'=e:=by
      unfold kQ at f;rw[A] at f;obtain⟨_,j⟩:=ay f;split at j
      .rename_i s;split at j
       case h_2=>cases j
       rename_i u l m;split at j
       case h_2=>cases j
       rename_i m' D;obtain⟨hq,_⟩:=mv D;rw[Box.dT s m] at Q
       grind
      .rename_i s;obtain⟨old,F,E⟩:=bind_some j;split at E
       case h_2=>cases E
       rename_i k' u l;obtain⟨_,K⟩:=ay E;split at K
       case h_2=>cases K
       rename_i m' D;obtain⟨hq,_⟩:=mv D;have m:=aI F;rw[Box.sn s m] at Q
       grind
     subst he;exact⟨y,c,T,by rw[g10];simp[ef]⟩
 .rename_i b G;split at M
  case h_2=>cases M
  rename_i n O;obtain⟨bM,f,H⟩:=bind_some M;obtain rfl:=aI H;have p:∃z,σ.mem b=aa z/\z.aP=G:=by
   unfold kQ at f;split at f
   .rename_i z A;obtain⟨W,_⟩:=ay f;simp_all
   .cases f
  obtain⟨z,A,v⟩:=p;obtain⟨e',k,g1,Q,R⟩:=bk A v hv.2;have hbx:=h.ok.boxes b z A;have hl:∃l,z.val=.data (.slice e) l/\n=l.length:=by
   unfold kQ at f;rw[A] at f;obtain⟨_,j⟩:=ay f;split at j
   .split at j
    case h_2=>cases j
    rename_i u l hq0 m;split at j
    case h_2=>cases j
    rename_i m' D;obtain⟨hq,_⟩:=mv D;subst hq;refine⟨l,m,?_⟩;simp only[lenOf,A,v,g1,adq,m] at O;exact(aI O).symm
   .grind
  obtain⟨l,m,rfl⟩:=hl;rw[Box.dT g1 m] at Q;obtain⟨rfl,rfl⟩:=eN (aI Q);have fin:∀{g o},V=.slice g l.length o->(l.length=0\/∃y c,γ.loc b=aa (y,c)/\g=aa ⟨y,0,af⟩) ->
    ∃g o,V=.slice g (l.length:Int).toNat o/\0<=l.length/\∀i,fa w γ.I e (L l.length) i->i.length=(L l.length).length*e.size->(∀u∈i,u.oneCell'=true)->(L l.length).length<=(l.length:Int).toNat ->
     ∃w',(match g with|some ad=>storeCells ad i|none=>pure ()).run P w=.ok () w'/\dy B N γ bM a w'/\Ext B γ σ.mem w γ bM.mem w':=by
   intro g o htv hb0;refine⟨g,o,by simpa using htv,ah,λi X Y x Z=>?_⟩;refine xD h f X Y x ah (λJ l' C _ s aoC _=>?_) (λJ k' l' C _ s F _=>?_) ?_
   .grind
   .grind
   .rcases hb0 with hb0|⟨y,c,q1,q2⟩
    .simp_all
    .right;exact⟨y,c,q1,by rw[q2];simp[ef]⟩
  rcases R with ⟨R,S⟩|⟨y,o,R,S⟩
  .obtain S:V=_:=by simpa using S
   rw[eB] at hbx
   grind
  .grind
 .rename_i b G q u k lo n;obtain⟨bM,f,H⟩:=bind_some M;obtain rfl:=aI H;have p:∃z,σ.mem b=aa z/\z.aP=G:=by
   unfold kQ at f;split at f
   .rename_i z A;obtain⟨W,_⟩:=ay f;simp_all
   .cases f
  obtain⟨z,A,v⟩:=p;obtain⟨hq,y,c,g1,R,S,g5,g,o,g6,g7,T⟩:=bk A v hv.2;refine⟨g,o,by simpa using g6,S,λi X Y x Z=>?_⟩;refine xD h f X Y x R (λJ l C _ s m hq0=>absurd hq0 hq) (λJ k' l C _ s F U=>?_) ?_
  .simp_all;omega
  .rcases T with T|g10
   .grind
   .by_cases hm:L n=[]
    .grind
    .right;have he:u=e:=by
      unfold kQ at f;rw[A] at f;obtain⟨_,j⟩:=ay f;split at j
      .split at j
       .grind
       .cases j
      .obtain⟨old,F,E⟩:=bind_some j;split at E
       case h_2=>cases E
       obtain⟨U,K⟩:=ay E;split at K
       case h_2=>cases K
       rename_i m' D;obtain⟨hq',_⟩:=mv D;simp at U;exact(Ty.eq_of_beq U.2).trans hq'.symm
     grind
 .cases M
def LZ{I e m v}(h:B7 w I e m v) n (q:n<=m.length) :
  ∃b,(Builtin.firstCells e.size n v).run P w=.ok b.toArray w/\b.length=n*e.size/\(∀u∈b,u.oneCell'=true)/\fa w I e (m.take n) b/\(Builtin.lenOf v).run P w=.ok m.length w:=by
 rcases h with ⟨rfl,g,c,k,r,s⟩|⟨t,y,c,k,r,s,z⟩
 .obtain rfl:n=0:=by simpa using q
  subst k;refine⟨[],?_,aT,λu A=>absurd A aT,λi x f=>absurd f aT,rfl⟩;cases g with
  | none=>rfl
  | some C=>exact run_firstCells_some w e.size 0 C 0 c [] aT (λj v o=>by cases o)
 .obtain⟨b,p,D,E,F⟩:=EK (l:=m.take n) λi x f=>by
   rw[jM] at f;split at f
   .exact z i x f
   .cases f
  rw[dk,xh q] at p;refine⟨b,?_,p,E,F,by rw[k];rfl⟩;rw[k];exact run_firstCells_some w e.size n _ m.length c b p (λj u o=>by rw[addr_add];exact D j u o)
def L1{I s} n (h:n<=s.length) :
  ∃e,(Builtin.firstCells 1 n<|.string ⟨s.toArray⟩).run P w=.ok e.toArray w/\e.length=n/\(∀u∈e,u.oneCell'=true)/\fa w I (.int .u8) ((ax s).take n:List Int) e/\(Builtin.lenOf<|.string ⟨s.toArray⟩).run P w=.ok (ax s).length w:=by
 refine⟨(s.take n).map λb=>Value.int .u8 b.toNat,?_,by simp[h],λu l=>?_,λi x m=>?_,?_⟩
 .simp only[Builtin.firstCells];simp_all
 .obtain⟨_,_,rfl⟩:=Lq.1 l;rfl
 .have c:((ax s).take n)[i]?=aa x:=m;rw[jM] at c;split at c
  .rename_i o;simp only[ax,JN] at c;cases g:s[i]? with
   | none=>rw[g] at c;cases c
   | some b =>
     rw[g] at c;obtain rfl:_=x:=aI c;refine⟨?_,RM b⟩;apply Lg;intro j;rw[jM];split
     .rename_i f;obtain rfl:j=0:=by simp[Ty.size] at f;exact f
      simp[Ty.size,g,o]
     .rename_i f;obtain⟨k,rfl⟩:∃k,j=k+1:=⟨j-1,by simp[Ty.size] at f;omega⟩;simp
  .grind
 .simp[Builtin.lenOf,ax,ByteArray.size]
def zL s:(ax s).length=s.length:=y4 ..
def adY{s n}(h:n<=(ax s).length):n<=s.length:=by rw[zL] at h;exact h
def Xk(i:bF B γ σ.mem w){e m x v}(f:cI γ σ.mem w x .val [v])(h:y6 e σ x=aa m) n (g:n<=m.length) :
  ∃b,(Builtin.firstCells e.size n v).run P w=.ok b.toArray w/\b.length=n*e.size/\(∀u∈b,u.oneCell'=true)/\fa w γ.I e (m.take n) b/\(Builtin.lenOf v).run P w=.ok m.length w:=by
 unfold y6 at h;split at h
 .rename_i t;obtain⟨q,j⟩:=mv h;subst q;subst j;obtain⟨k,_⟩:=y9 f;rw[k];have c:n<=List.length t:=adY g;obtain⟨b,l,o,p,r,s⟩:=L1 n c;exact⟨b,l,by rw[o];simp[Ty.size],p,r,s⟩
 .exact LZ (tP i f h) n g
def L2(C:fN P cx){u tx ty t x}(h:dy B N γ σ a w)(D:∀k,d=aa k->k<N)(c:(zz cx d u (cW σ t) (cW σ x) σ).run=aa aV) :
  oT P B N γ σ a w d (Builtin.copy_ #[u,tx] ty #[a.eval t,a.eval x]) aV:=by
 unfold zz at c;split at c
 case h_2=>cases c
 rename_i e E;split at c
 case h_1=>cases c
 rename_i m f;obtain⟨r,l,n⟩:=bind_some c;obtain rfl:=aI n;obtain⟨F,G,H,W,X⟩:=(C.T _ _ E).slice;obtain⟨g,o,I,Y,J⟩:=F5 (P:=P) h (h.cW t) l;have hlen:(mw m r.1).length=Nat.min m.length r.1.toNat:=by
  simp only[mw,dk];apply Nat.min_comm
 obtain⟨i,K,L,M,y,O⟩:=Xk (P:=P) h.ok (h.cW x) f _ (Nat.min_le_left _ _);have b:(m.take<|Nat.min m.length r.1.toNat)=mw m r.1:=by
  simp only[mw]
  grind
 rw[b] at y;obtain⟨w',j,Q,R⟩:=J i y (by rw[L,hlen]) M (by rw[hlen];apply Nat.min_le_right);have z:(mw m r.1).length<=maxLen:=by
  rcases Za (mw m r.1).length with S|S
  .omega
  .rw[hlen];refine fi (Nat.min_le_left _ _) ?_;have hv:=h.cW x;unfold y6 at f;split at f
   .rename_i s U;obtain⟨q,V⟩:=mv f;subst q;subst V;rw[U] at hv;obtain⟨_,A⟩:=y9 hv;exact fi (D5<|zL s) A
   .rcases tP h.ok hv f with ⟨rfl,_⟩|⟨_,_,o,_,A,Z,_⟩
    .grind
    .grind
 refine⟨goInt (mw m r.1).length,w',γ,?_,?_,?_⟩
 .have p:=H.sizeOf w;simp only[Builtin.copy_,I];simp only[ah1,ahY,ahZ,Sem.run_bind,run_underlying G,Result.andThen_ok,O,p,K,hlen];cases g with
  | none=>injection j with _ j;subst j;rfl
  | some ad=>simp only[Sem.run_bind,j,Result.andThen_ok,Sem.run_pure]
 .have h9:maxLen<=IntKind.i64.max:=aD;have h8:IntKind.i64.min<=0:=aD;have:=Q.xv D (v:=.data (.int .i64) (len _)) (val:=goInt (mw m r.1).length) (mkInt ⟨by simp only[len];omega,by simp only[len];omega⟩)
  grind
 .cases d<;>exact R
def J3(q:fN P cx){n ty t}(h:dy B N γ σ a w)(g:(zB cx n (cW σ t) σ).run=aa aV) :
  oT P B N γ σ a w af (Builtin.clear_ #[n] ty #[a.eval t]) aV:=by
 unfold zB at g;split at g
 case h_2=>cases g
 rename_i e s;obtain⟨r,k,l⟩:=bind_some g;obtain rfl:=aI l;obtain⟨v,y,A,L,C⟩:=(q.T _ _ s).slice;obtain⟨c,D,E,M,F⟩:=F5 (P:=P) h (h.cW t) k;have hlen:(lJ r.1 e.zero).length=r.1.toNat:=by simp[lJ]
 obtain⟨z,O,o⟩:=A.zero w;have f:=mZ w γ.I (.arr r.1.toNat e);have j:(Builtin.zeroCells z.cells r.1.toNat).toList=gn (.arr r.1.toNat e):=by
  have m:z.cells.size=e.size:=by rw[<-ec e,<-o];simp
  rw[<-(xB o C r.1.toNat)];simp only[Builtin.zeroCells,madeCells,m]
 obtain⟨w',b,G,H⟩:=F _ (λi x J=>f.2.2 i x J) (by rw[ec,hlen];rfl) (λu K=>f.one u K) (D5 hlen);refine⟨.tuple #[],w',γ,?_,G,H⟩;simp only[Builtin.clear_,E];simp only[ah1,ahY,Sem.run_bind,run_underlying y];cases c with
 | none=>injection b with _ b;subst b;rfl
 | some Q =>
   by_cases p:r.1.toNat=0
   .have:gn (.arr r.1.toNat e)=[]:=List.eq_nil_of_length_eq_zero (by rw[ec];simp[Ty.size,p]);rw[this] at b;injection b with _ b
    rw[p];simp_all
   .simp_all
def F6{least p q r u v}(h:cI γ σ.mem w p .val [u])(i:cI γ σ.mem w q .val [v])(f:(Rx least p q).run=aa r) :
  ∃z,((if least then Builtin.min2 u v else Builtin.max2 u v)).run P w=.ok z w/\cI γ σ.mem w r .val [z]:=by
 unfold Rx at f;split at f
 .rename_i k n l m;obtain⟨j,g⟩:=ay f;obtain rfl:=zy j;obtain rfl:=aI g;obtain⟨rfl,c⟩:=vI h;obtain⟨rfl,e⟩:=vI i;have cmp:∀n m,k.min<=n/\n<=k.max->k.min<=m/\m<=k.max->cI γ σ.mem w (.data (.int k)<|air n m) .val [.int k<|if m<n then m else n]/\cI γ σ.mem w (.data (.int k)<|imax n m) .val [.int k<|if m > n then m else n]:=by
   intro n m c e;constructor
   .unfold air;by_cases b:m<n
    .simp only[b];exact mkInt e
    .simp only[b,decide_false,BM];exact mkInt c
   .unfold imax;by_cases b:n<m
    .simp only[b];exact mkInt e
    .simp only[b];exact mkInt c
  cases least with
  | true=>exact⟨_,rfl,(cmp n m c e).1⟩
  | false=>exact⟨_,rfl,(cmp n m c e).2⟩
 .cases f
end
end Go.Ge
namespace Go.Ge
open RowKit
section
variable {P:Program} {B:B5} {N:Nat} {γ:Gh} {σ aV:St} {a:Act} {w w':World} {d:Option Nat} {cx:Ctx} {nb:Nat} {bf:List Nat} {inl:Nat->List cp->St->Tree (cp×St)}
def RR{f:Operand->cp}{l x}(h:l.map f=[x]):∃o,l=[o]/\f o=x:=by
 simp_all
def KL{f:Operand->cp}{l x y}(h:l.map f=[x,y]):∃o p,l=[o,p]/\f o=x/\f p=y:=by
 cases l with
 | nil=>cases h
 | cons o r =>
   obtain⟨p,b,c⟩:=RR (by simp at h⊢;exact h.2)
   grind
def fJ{b:Type}{a:Array b}{l}(h:a.toList=l):a=l.toArray:=by rw[<-h]
def aaQ{α}(k:Value->Array Value->Sem α) x b:(match(#[x]++b)[0]? with|some recv=>k recv ((#[x]++b).extract 1 (#[x]++b).size)|x=>stuck "call: a method without a receiver")=k x b.toList.toArray:=by
 have c:(#[x]++b)[0]?=aa x:=by rw[<-ac0,Y6];rfl
 simp_all
def Xl(L:fN P cx)(E:pS P B.G cx)(V:yx P B.G inl){o:Oper}{c}(C:o.op=.call c)(h:dy B N γ σ a w)(H:∀k,o.dst=aa k->k<N)
  (j:(xp cx nb bf inl o.dst o.type c σ).run=aa aV) {K} {Q} (D:Ed B N γ σ a w o.dst aV K):o.wp P a w K Q:=by
 unfold xp at j;split at j
 .rename_i b g;split at j
  ·
   rename_i x t p J;obtain⟨m,l,rfl⟩:=RR p;cases M:Zi _ _ with
   | false =>
     rw[M] at j;simp at j;split at j
     .rename_i e b aP q u k lo n he p;obtain⟨hl,i⟩:=ay j;simp at hl;obtain rfl:=aI i;obtain⟨bx,hbx,W⟩:=kR hl.1;have hv:=h.cW m;rw[p] at hv;obtain⟨_,blk,c',g1,g2,g3,g4,base,cap,g5,g6,g7⟩:=bk hbx W hv.2;refine bW (s:=Builtin.len_ c.argTypes o.type (c.args.map a.eval)) ?_ (bK h H (x:=.int .i64 n) ?_<|mkInt ⟨Int.le_trans aD g3,Int.le_trans hl.2 aD⟩) D
      .unfold execOp;simp only[C,resolve,g,invoke,builtin];rfl
      .rw[fJ l,fJ J,show Array.map a.eval [m].toArray=#[a.eval m] from aT,g5];simp[Builtin.len_,run_underlying (AB L he).1,ac6 g3];rfl
     .exact absurd j cj
   | true =>
   have i:(match lenOf σ (cW σ m) with|some n=>Tree.ret (σ.bu o.dst<|.data (.int .i64) n)|none=>.fail).run=aa aV:=by rw[M] at j;exact j
   split at i
   .rename_i n hn;obtain rfl:=aI i;obtain⟨l1,l2⟩:=Uw L h.ok (h.cW m) M hn;refine bW (s:=Builtin.len_ c.argTypes o.type (c.args.map a.eval)) ?_ (bK h H ?_<|mkInt l2) D
    .unfold execOp;simp only[C,resolve,g,invoke,builtin];rfl
    .rw[fJ l,fJ J,show Array.map a.eval [m].toArray=#[a.eval m] from aT];exact l1
   .exact absurd i cj
  .rename_i s x t u p J;obtain⟨os,m,l,rfl,rfl⟩:=KL p;have key:(∃e,P.underlying u=aa (.slice e))\/P.underlying u=aa .string->(iH cx nb o.dst t (cW σ os) (cW σ m) σ).run=aa aV->o.wp P a w K Q:=by
    intro hk i;refine bW (s:=Builtin.append_ c.argTypes o.type (c.args.map a.eval)) ?_ ?_ D
    .unfold execOp;simp only[C,resolve,g,invoke,builtin];rfl
    .rw[fJ l,fJ J,show Array.map a.eval [os,m].toArray=#[a.eval os,a.eval m] from aT];exact HF L h H hk i
   split at j
   .rename_i hu;exact key (.inr (L.T _ _ hu).str) j
   .rename_i e hu;obtain⟨eid,f1,_⟩:=(L.T _ _ hu).slice
    grind
   .exact absurd j cj
  .rename_i t x tt tx p J;obtain⟨U,m,l,rfl,rfl⟩:=KL p;have key:(zz cx o.dst tt (cW σ U) (cW σ m) σ).run=aa aV->o.wp P a w K Q:=by
    intro i;refine bW (s:=Builtin.copy_ c.argTypes o.type (c.args.map a.eval)) ?_ ?_ D
    .unfold execOp;simp only[C,resolve,g,invoke,builtin];rfl
    .rw[fJ l,fJ J,show Array.map a.eval [U,m].toArray=#[a.eval U,a.eval m] from aT];exact L2 L h H i
   split at j
   .grind
   .grind
   .exact absurd j cj
  .rename_i t tt p J;obtain⟨U,l,rfl⟩:=RR p;split at j
   .rename_i X;refine bW (s:=Builtin.clear_ c.argTypes o.type (c.args.map a.eval)) ?_ ?_ D
    .unfold execOp;simp only[C,resolve,g,invoke,builtin];rfl
    .rw[fJ l,fJ J,show Array.map a.eval [U].toArray=#[a.eval U] from aT,X];exact J3 L h j
   .exact absurd j cj
  .rename_i x y p;obtain⟨m,Y,l,rfl,rfl⟩:=KL p;obtain⟨v,hb,i⟩:=bind_some j;obtain rfl:=aI i;obtain⟨z,Z,z2⟩:=F6 (P:=P) (h.cW m) (h.cW Y) hb;refine bW (s:=Builtin.min_ c.argTypes o.type (c.args.map a.eval)) ?_ (bK h H (x:=z) ?_ z2) D
   .unfold execOp;simp only[C,resolve,g,invoke,builtin];rfl
   .rw[fJ l,show Array.map a.eval [m,Y].toArray=#[a.eval m,a.eval Y] from aT];simp at Z;simp[Builtin.min_,Z]
  .rename_i x y p;obtain⟨m,Y,l,rfl,rfl⟩:=KL p;obtain⟨v,hb,i⟩:=bind_some j;obtain rfl:=aI i;obtain⟨z,Z,z2⟩:=F6 (P:=P) (h.cW m) (h.cW Y) hb;refine bW (s:=Builtin.max_ c.argTypes o.type (c.args.map a.eval)) ?_ (bK h H ?_ z2) D
   .unfold execOp;simp only[C,resolve,g];rfl
   .rw[fJ l];simp at Z;simp[Builtin.max_,Z]
  .exact absurd j cj
 .rename_i f g;split at j
  .rename_i fid aaD hf;obtain⟨O,i⟩:=ay j;have hv:=h.cW f;rw[hf] at hv;obtain⟨R,v1,v2,v3⟩:=hv;have S:=P6 (w:=w) (F:=fid) (arr:=R) ⟨R,rfl,v2,v3⟩ O;obtain v1:=vH v1;have A:lT γ σ.mem w (c.args.toList.map (cW σ)++aaD.map λb=>.ptr b.1 b.2 []) (c.args.map a.eval++R).toList:=by
    rw[Y6,adb];exact(P5 h).append S
   refine LY ?_ (OM E V h H A i D);unfold execOp;simp only[C,resolve,g,Deferred.ofValue,v1,invoke];simp
  .exact absurd j cj
 ·
  rename_i r name g;unfold tN at j;split at j
  .rename_i cn hcn;split at j
   .rename_i x bM p;obtain⟨y,hy,i⟩:=cg j;obtain rfl:=aI i;have A:lT γ σ.mem w (cW σ r::c.args.toList.map (cW σ)) (a.eval r::(c.args.map a.eval).toList):=by
     rw[adb];exact P5 (ops:=r::c.args.toList) h
    obtain⟨γ1,s1,s2,s3⟩:=km h A p;obtain⟨f,u,e1,e2,e3⟩:=E.inv name cn hcn γ1.I w _ _ x y (λb o hi=>s1.ok.vg b o hi) s1.ok.LB s3 hy;refine LY ?_ ⟨e2,e3.mono λe w' hw=>?_⟩
    .rw[<-e1];unfold execOp;simp only[C,resolve,g];exact congrArg (λz:Sem Next=>z.run P w) (aaQ _ _ _)
    .obtain⟨v,I',h1,h2,h3,h4,h5,h6⟩:=hw;refine⟨v,h1,?_⟩;obtain⟨m1,m2⟩:=s1.ok.far (I':=I') h2 h3 h4 h5;refine D ⟨I',γ1.loc⟩ _ w' (s1.bu m2 m1 H<|h6.rep λ_ _ hi=>hi) ?_;cases o.dst<;>exact s2.trans m2
   .exact absurd j cj
  .exact absurd j cj
def Ux{I tid u}:∀{t a f},Den P t tid->Ue t u=aa ⟨a,f⟩ ->
  P.concrete u=true/\∀y c,bJ w I a y c->bJ w I t (f y) [.iface u<|cY a c]:=by
 intro t;induction t with
 | alt n a r m e =>
   intro b f i h;unfold Ue at h;obtain⟨l,o⟩:=i.rest;cases j:Nat.beq n u with
   | true =>
     rw[j] at h;obtain rfl:=gx j;cases h;exact⟨o,λy c k=>⟨l.adF i,c,rfl,k⟩⟩
   | false =>
     rw[j] at h;split at h
     .rename_i v g p;cases h;obtain⟨q,s⟩:=e l p;exact⟨q,λy c k=>s y c k⟩
     .cases h
 | _=>intro b f i h;cases h
def agC{tid u t a f}(c:Den P t tid)(h:Ue t u=aa ⟨a,f⟩):t.isAgg=false:=by
 cases t with
 | alt n b r=>simp only[Den,gf,gw] at c;exact(Ty.LC c.2).2
 | _=>cases h
def J4(m:fN P cx){ty u x}(h:dy B N γ σ a w)(n:∀k,d=aa k->k<N)(c:(tM cx d ty u (cW σ x) σ).run=aa aV) :
  oT P B N γ σ a w d (Instr.makeInterface u<|a.eval x) aV:=by
 unfold tM at c;split at c
 .rename_i t o;have e:=m.T _ _ o;split at c
  .rename_i b f j;split at c
   .rename_i y bM p;obtain rfl:=aI c;obtain⟨g,q,r,l,s,v⟩:=od h (h.cW x) p;obtain⟨z,A⟩:=Ux e j;have i:a.eval x=cY b l:=by simpa using v
    have C:=agC e j;refine⟨.iface u _,w,g,run_makeInterface w u _ z,q.xv n ⟨_,A y l s,?_⟩,?_⟩
    .rw[i];unfold cY
     grind
    .cases d<;>exact r
   .exact absurd c cj
  .exact absurd c cj
 .exact absurd c cj
def Uy{o s K Q}(c:execOp a.eval o=(do s;pure .skip))(b:o.dst=af)
  (h:∃w' bE,s.run P w=.ok () w'/\dy B N bE aV a w'/\Ext B γ σ.mem w bE aV.mem w') (e:Ed B N γ σ a w o.dst aV K):o.wp P a w K Q:=by
 obtain⟨w',bE,f,g,i⟩:=h;unfold Oper.wp;rw[c];simp only[Sem.run_bind,f];exact e bE _ w' (by rw[b];exact g) i
def yz{d k}(h:ownRow bf d=aa k):d=aa k:=by
 unfold ownRow at h
 grind
def EP{d k}(h:Uc bf d=aa k):d=aa k/\dc bf k=true:=by
 unfold Uc at h
 grind
def L3(A:fN P cx)(O:pS P B.G cx)(R:yx P B.G inl){o:Oper}(h:dy B N γ σ a w)(r:∀k,o.dst=aa k->k<N)
  (g:(sd cx nb bf inl o σ).run=aa aV) {K Q} (C:Ed B N γ σ a w o.dst aV K):o.wp P a w K Q:=by
 unfold sd at g;split at g
 case h_1 x j=>exact bW (by simp only[execOp,j];rfl) (zI A h r g) C
 case h_2 x j=>exact bW (by simp only[execOp,j];rfl) (zI A h r g) C
 case h_3 c x y j=>exact bW (by simp only[execOp,j];simp) (LJ h r g) C
 case h_4 elem j =>
  split at g
  .rename_i k t D F;rw[D] at r;refine bW (s:=Instr.alloc elem true (.tuple #[])) (by simp only[execOp,j]) ?_ C;rw[D];exact JY A h (r k rfl) F g
  .rename_i k D F;rw[D] at r;refine bW (s:=Instr.alloc elem true (.tuple #[])) (by simp only[execOp,j]) ?_ C;rw[D];split at g
   .rename_i fs X;exact JX A h (r k rfl) X g
   .obtain⟨Y,m⟩:=ay g;exact JW A h (r k rfl) Y m
  .exact absurd g cj
 case h_5 elem x j =>
  unfold FF at g;split at g
  .exact absurd g cj
  .exact absurd g cj
  .rename_i k D Y h2;rw[D] at r;refine bW (s:=Instr.box elem (a.eval x)) (by simp only[execOp,j]) ?_ C;rw[D];split at g
   .exact OE h (r k rfl) Y h2 g
   .exact aaM h (r k rfl) Y h2 g
  .exact absurd g cj
 case h_6 t parts j =>
  refine bW (s:=Instr.build t (parts.map λ(i,x)=>(i,a.eval x))) (by simp only[execOp,j]) ?_ C;split at g
  .rename_i u v F;split at g
   .rename_i x bM E;obtain rfl:=aI g;exact EL A h r F E
   .exact absurd g cj
  .rename_i n e F;split at g
   .rename_i l bM E;obtain rfl:=aI g;exact F0 A h r F E
   .exact absurd g cj
  .split at g
   .rename_i fs X;split at g
    .rename_i z0 S;split at g
     .rename_i p q E;obtain rfl:=aI g;exact J0 A h r X S E
     .rename_i u E;obtain rfl:=aI g;exact HB A h r X S E
     .exact absurd g cj
    .exact absurd g cj
   .exact absurd g cj
  .exact absurd g cj
 case h_7 t n parts j =>
  refine bW (s:=Instr.buildSlice t n (parts.map λ(i,x)=>(i,a.eval x))) (by simp only[execOp,j]) ?_ C;split at g
  .rename_i e F;split at g
   .rename_i k T I;obtain⟨D,_⟩:=EP T;have hp:parts=#[]:=by simpa using I
    rw[D,hp];rw[D] at r;rw[Array.map_empty];exact HD A h (r k rfl) F g
   .obtain⟨Z,m⟩:=ay g;split at m
    .rename_i l bM E;split at m
     .rename_i k D;have hk':=yz D;rw[hk'] at r⊢;exact LQ A h (r k rfl) F Z E m
     .obtain rfl:=aI m;exact HC A h r F Z E
    .exact absurd m cj
  .exact OH A h r g
  .exact absurd g cj
 case h_8 t x j=>exact bW (by simp only[execOp,j]) (LM A h r g) C
 case h_9 t x y j =>
  split at g
  .rename_i D;exact Uy (by simp only[execOp,j]) D (JV A h g) C
  .exact absurd g cj
 case h_10 x j =>
  have hv:=h.cW x;have fin:∀{v y},a.eval x=y->execOp a.eval o=(do pure<|.value (<-pure y))->cI γ σ.mem w v .val [y]->aV=σ.bu o.dst v->o.wp P a w K Q:=by
   intro v y he hs hr0 hσ;subst hσ;exact bW hs (bK h r rfl hr0) C
  split at g
  .rename_i b aP p J;rw[J] at hv;obtain⟨hl,m⟩:=ay g;obtain⟨bx,E,U⟩:=kR hl;obtain⟨blk,cap,H,M⟩:=bk E U hv.2;have M:=vH M;rw[M] at hv;exact fin M (by simp only[execOp,j,M];rfl) hv (aI m).symm
  .rename_i t y J;rw[J] at hv;obtain⟨blk,off,cs,H,M,g3⟩:=id hv;have H:=vH H;rw[H] at hv;exact fin H (by simp only[execOp,j,H];rfl) hv (aI g).symm
  .rename_i f c J;rw[J] at hv;obtain⟨arr,H,M,g3⟩:=id hv;have H:=vH H;rw[H] at hv;exact fin H (by simp only[execOp,j,H];rfl) hv (aI g).symm
  .exact absurd g cj
 case h_11 op xt x y pos j =>
  obtain⟨v,E,m⟩:=bind_some g;obtain rfl:=aI m;obtain⟨z,V,W⟩:=W9 A (h.cW x) (h.cW y) E;refine bW (s:=hL op xt x y _ _) (by simp only[execOp,j,hL]) (bK h r V W) C
 case h_12 op ty x j =>
  obtain⟨v,E,m⟩:=bind_some g;obtain rfl:=aI m;obtain⟨z,V,W⟩:=adJ (h.cW x) E;exact bW (by simp only[execOp,j]) (bK h r V W) C
 case h_13 src dst x j=>exact bW (by simp only[execOp,j]) (F2 A h r g) C
 case h_14 f first aaD j =>
  split at g
  .rename_i cs L hcs;obtain rfl:=aI g;refine bW ?_ (LO h r hcs) C;have:first=#[]:=by simpa using L
   simp only[execOp,j,this,show Array.map a.eval #[]=#[] from aT]
  .exact absurd g cj
 case h_15 t x lo hi j=>exact bW (by simp only[execOp,j];rfl) (JU A h r g) C
 case h_16 s x k j=>exact bW (by simp only[execOp,j]) (DZ A h r g) C
 case h_17 xt x k j =>
  have hv:=h.cW x;split at g
  .rename_i u y J;rw[J] at hv;obtain⟨F,m⟩:=ay g;split at m
   .rename_i off v hf;obtain rfl:=aI m;obtain⟨z,V,W⟩:=Uo A (jz F) hv hf;exact bW (by simp only[execOp,j]) (bK h r V W) C
   .exact absurd m cj
  .exact absurd g cj
 case h_18 t x i j =>
  split at g
  .rename_i ki n hi;have hv:=h.cW i;rw[hi] at hv;obtain⟨ei,_⟩:=vI hv;refine bW (s:=Instr.indexAt t (a.eval x) (a.eval i)) (by simp only[execOp,j]) ?_ C;rw[ei];cases hm:dc bf 5000000 with
   | true=>rw[hm] at g;exact JS A h r g
   | false=>rw[hm] at g;exact vU A h r g
  .exact absurd g cj
 case h_19 t x i j =>
  split at g
  .rename_i ki n hi;have hv:=h.cW i;rw[hi] at hv;obtain⟨ei,_⟩:=vI hv;refine bW (s:=Instr.index t (a.eval x) (a.eval i)) (by simp only[execOp,j]) ?_ C;rw[ei];exact JT A h r g
  .exact absurd g cj
 case h_20 t l c j =>
  split at g
  .rename_i k e kl ln kc cn D F hl hcc;rw[D] at r;obtain⟨Uv,m⟩:=cP g;obtain⟨hf,hr3⟩:=cP m;refine bW (s:=Instr.makeSlice t (a.eval l) (a.eval c)) (by simp only[execOp,j]) ?_ C;rw[D];exact J1 A h (r k rfl) F hl hcc Uv hf hr3
  .exact absurd g cj
 case h_21 t k j =>
  split at g
  .rename_i vs J;split at g
   .rename_i v Z;obtain rfl:=aI g;exact bW (by simp only[execOp,j]) (OG h r J Z) C
   .exact absurd g cj
  .exact absurd g cj
 case h_22 c j=>exact Xl A O R j h r g C
 case h_23 u x j=>exact bW (by simp only[execOp,j]) (J4 A h r g) C
 case h_24=>exact absurd g cj
end
end Go.Ge
namespace Go.Ge
open RowKit
def bU(f c:St):Prop:=∀b e,f.mem b=aa e->e.lk=true->c.mem b=aa e
def bU.refl σ:bU σ σ:=λ_ _ h _=>h
def bU.trans{σ aV c}(h:bU σ aV)(k:bU aV c):bU σ c:=λb bx f e=>k b bx (h b bx f e) e
def bU.put σ d v:bU σ (σ.put d v):=λ_ _ h _=>h
def bU.bu σ d v:bU σ (σ.bu d v):=by cases d<;>exact λ_ _ h _=>h
def bU.aiE{σ aV}(h:aV.mem=σ.mem):bU σ aV:=λb e c _=>by rw[h];exact c
def jS{σ b j}(h:∀f,σ.mem b=aa f->f.lk=false):bU σ (σ.cw b j):=λc cx g i=>by
 by_cases e:c=b
 .subst e;rw[h cx g] at i;cases i
 .rw[xy,aZ _ e];exact g
def oi{β σ b val tid buf}{k:Nat->St->Tree β}{y}(h:(σ.bA b val tid buf k).run=aa y) :
  ∃aP,bU σ (σ.cw b { val,tid,buf,ro:=false,lk:=false,aP })/\(k aP<|σ.cw b { val,tid,buf,ro:=false,lk:=false,aP }).run=aa y:=by
 unfold St.bA at h;split at h
 .rename_i i e;cases f:i.lk with
  | true=>rw[f] at h;cases h
  | false =>
    rw[f] at h;exact⟨i.aP+1,jS (λg c=>by rw[e] at c;obtain rfl:=aI c;exact f),h⟩
 .rename_i e;exact⟨0,jS (λg c=>by rw[e] at c;cases c),h⟩
def Jb{σ aV b}(h:freeze σ b=aa aV):bU σ aV:=by
 unfold freeze at h;split at h
 .rename_i f i;cases c:f.ro with
  | true=>simp only[c,xj,Lh] at h;rw[<-h];apply bU.refl
  | false =>
    cases e:f.lk with
    | true=>simp[c,e] at h
    | false =>
      simp only[c,e,BM,Lh] at h;rw[<-h];exact jS λj g=>by rw[i] at g;obtain rfl:=aI g;exact e
 .cases h
def RS:∀{v σ aV},ji σ v=aa aV->bU σ aV:=by
 intro v;induction v with
 | mix p q c e =>
   intro σ aV h;obtain⟨bM,f,g⟩:=yw h;exact(c f).trans (e g)
 | whole b aP=>intro σ aV h;exact Jb h
 | part b aP lo n=>intro σ aV h;exact Jb h
 | _=>intro σ aV h;obtain rfl:=aI h;apply bU.refl
def rF{t x v σ aV}(h:BZ σ t v=aa (x,aV)):bU σ aV:=by
 unfold BZ at h;split at h
 .split at h
  .obtain⟨_,rfl⟩:=eN (aI h);apply bU.refl
  .cases h
 .split at h
  .rename_i y bM c b;obtain⟨_,rfl⟩:=eN (aI h);exact RS b
  .cases h
def jT:∀{A x vs σ aV},gB σ A vs=aa (x,aV)->bU σ aV:=by
 intro A;induction A with
 | pair t r e c =>
   intro x vs σ aV b;cases vs with
   | nil=>cases b
   | cons v vs =>
     simp only[gB] at b;split at b
     .rename_i p bM f;split at b
      .rename_i q cH g;obtain⟨_,rfl⟩:=eN (aI b);exact(rF f).trans (c g)
      .cases b
     .cases b
 | unit =>
   intro x vs σ aV b;cases vs with
   | nil=>obtain⟨_,rfl⟩:=eN (aI b);apply bU.refl
   | cons v vs=>cases b
 | _=>intro x vs σ aV b;cases vs<;>cases b
def J5{t}:∀{parts x b σ aV},iG σ t x parts=aa (b,aV)->bU σ aV:=by
 intro parts;induction parts with
 | nil=>intro x b σ aV h;obtain⟨_,rfl⟩:=eN (aI h);apply bU.refl
 | cons p r c =>
   intro x b σ aV h;simp only[iG] at h;split at h
   .split at h
    .rename_i e;split at h
     .exact(rF e).trans (c h)
     .cases h
    .cases h
   .cases h
def ON{bf t parts v σ aV}(h:p9 bf σ t parts=aa (v,aV)):bU σ aV:=by
 unfold p9 at h;cases b:dc bf 8600000&&parts.any (λp=>sb (cW σ p.2)) with
 | true=>rw[b] at h;simp only[xj] at h;split at h<;>cases h;exact bU.refl _
 | false=>rw[b] at h;simp only[BM] at h;split at h<;>cases h;exact J5 (by assumption)
def xE{e}:∀{parts l c σ aV},fF σ e l parts=aa (c,aV)->bU σ aV:=by
 intro parts;induction parts with
 | nil=>intro x i σ aV h;obtain⟨_,rfl⟩:=eN (aI h);apply bU.refl
 | cons p r f =>
   obtain⟨k,o⟩:=p;intro l c σ aV h;simp only[fF] at h;split at h
   .rename_i g;cases b:Nat.blt k l.length with
    | false=>rw[b] at h;cases h
    | true=>rw[b] at h;exact(rF g).trans (f h)
   .cases h
def F7{b aP p fit u σ aV}(e:(storeAt b aP p fit u σ).run=aa aV):bU σ aV:=by
 unfold storeAt at e;split at e
 case h_2=>exact absurd e cj
 rename_i q m;obtain⟨j,f⟩:=ay e;simp at j;obtain⟨n,r,g⟩:=bind_some f;obtain⟨k,h⟩:=ay g;obtain⟨c,s,i⟩:=bind_some h;obtain rfl:=aI i;exact jS λo l=>by rw[m] at l;obtain rfl:=aI l;exact j.1.2
def RT{b aP p n u σ aV}(e:(uk b aP p n u σ).run=aa aV):bU σ aV:=by
 unfold uk at e;split at e
 case h_2=>exact absurd e cj
 rename_i t o;obtain⟨k,f⟩:=ay e;simp at k;obtain⟨q,v,g⟩:=bind_some f;obtain⟨l,h⟩:=ay g;obtain⟨c,x,i⟩:=bind_some h;obtain⟨r,j⟩:=ay i;obtain rfl:=aI j;exact jS λs m=>by rw[o] at m;obtain rfl:=aI m;exact k.1.1.1.2
def L4{cx bf ty x y σ aV}(e:(mU cx bf ty x y σ).run=aa aV):bU σ aV:=by
 unfold mU at e;split at e
 case h_2=>exact absurd e cj
 split at e
 case h_2=>exact absurd e cj
 obtain⟨g,f⟩:=ay e;obtain⟨i,l,c⟩:=bind_some f;split at c
 .rename_i u _;obtain⟨j,b⟩:=ay c;cases h:dc bf 8000000&&adx u y with
  | true=>rw[h] at b;exact RT b
  | false =>
  rw[h] at b;split at b
  .rename_i k;exact(rF k).trans (F7 b)
  .exact absurd b cj
 .obtain⟨j,b⟩:=ay c;exact F7 b
def Bp{cx nb d ty s x σ aV}(b:(iH cx nb d ty s x σ).run=aa aV):bU σ aV:=by
 unfold iH at b;split at b
 case h_2=>exact absurd b cj
 split at b
 case h_2=>exact absurd b cj
 split at b
 .obtain⟨h,c⟩:=cP b;obtain⟨i,j,k⟩:=oi c;obtain rfl:=aI k;exact j.trans (bU.put _ _ _)
 .split at b
  case h_2=>exact absurd b cj
  rename_i o l m p;obtain⟨e,f⟩:=wi b;obtain⟨h,c⟩:=cP f;obtain rfl:=aI c;exact(jS λn g=>by rw[m] at g;obtain rfl:=aI g;exact((Rp.1 e).1)).trans (bU.put _ _ _)
 .exact absurd b cj
def zb{e m b aP q chk lo σ aV}(i:(kQ e m b aP q chk lo σ).run=aa aV):bU σ aV:=by
 unfold kQ at i;split at i
 case h_2=>exact absurd i cj
 rename_i r n;obtain⟨k,f⟩:=ay i;simp at k;have fin:∀{vi},bU σ (σ.cw b vi):=λ{vi}=>jS λo l=>by rw[n] at l;obtain rfl:=aI l;exact k.1.2
 split at f
 .split at f
  .split at f
   .obtain rfl:=aI f;exact fin
   .exact absurd f cj
  .exact absurd f cj
 .obtain⟨p,_,g⟩:=bind_some f;split at g
  .obtain⟨_,h⟩:=ay g;split at h
   .obtain⟨c,_,j⟩:=bind_some h;obtain rfl:=aI j;exact fin
   .exact absurd h cj
  .exact absurd g cj
def Jc{e g t σ r}(b:(Hr e g t σ).run=aa r):bU σ r.2:=by
 unfold Hr at b;split at b
 .obtain⟨bM,c,f⟩:=bind_some b;obtain rfl:=aI f;exact zb c
 .split at b
  .obtain⟨bM,c,f⟩:=bind_some b;obtain rfl:=aI f;exact zb c
  .exact absurd b cj
 .obtain⟨bM,c,f⟩:=bind_some b;obtain rfl:=aI f;exact zb c
 .exact absurd b cj
def Xm{σ}:∀{ps A U vs x u j},sa σ ps A U vs=aa (x,u,j)->∀b∈j,∀f,σ.mem b=aa f->f.lk=false:=by
 intro ps;induction ps with
 | nil =>
   intro A U vs x u j h;cases A<;>first|(cases h;done)|skip
   cases U<;>first|(cases h;done)|skip
   cases vs with
   | cons v r=>cases h
   | nil =>
     obtain⟨_,q⟩:=eN (aI h);obtain⟨_,rfl⟩:=eN q;intro b k;cases k
 | cons p ps t =>
   intro A U vs x u j h;cases p with
   | false =>
     cases A<;>first|(cases h;done)|skip
     cases vs with
     | nil=>cases h
     | cons v r =>
       simp only[sa] at h;split at h
       .rename_i l;obtain⟨_,q⟩:=eN (aI h);obtain⟨_,rfl⟩:=eN q;exact t l
       .cases h
   | true =>
     cases U<;>first|(cases h;done)|skip
     cases vs with
     | nil=>cases h
     | cons y r =>
     cases y<;>first|(cases h;done)|skip
     rename_i b m n;cases n with
     | cons _ _=>cases h
     | nil =>
     simp only[sa] at h;split at h
     case h_2=>cases h
     rename_i f k;cases e:(Nat.beq f.aP m&&!f.buf&&!f.lk&&!f.ro&&Nat.beq f.tid 0) with
     | false=>rw[e] at h;cases h
     | true =>
       rw[e] at h;simp at e;split at h
       case h_2=>cases h
       rename_i z C D o E l;cases i:dc o b with
       | true=>rw[i] at h;cases h
       | false =>
         rw[i] at h;obtain⟨_,q⟩:=eN (aI h);obtain⟨_,rfl⟩:=eN q;intro c s cx g;rcases fh.1 s with rfl|s
         .rw[k] at g;obtain rfl:=aI g;exact e.1.1.2
         .exact t l c s cx g
def F8{ps A U vs x u y c σ}(h:sa σ ps A U vs=aa (x,u,c)):bU σ (uo U y c σ):=λb f e g=>by
 rw[rE];cases hv:n8 U y c b with
 | none=>exact e
 | some v =>
   have:=Xm h b (LW hv) f e;rw[g] at this;cases this
def RU{s d f σ aV}(b:(C5 s d f σ).run=aa aV):bU σ aV:=by
 unfold C5 at b;split at b
 .split at b
  case h_2=>cases b
  split at b
  case h_2=>cases b
  obtain⟨_,c⟩:=ay b;obtain rfl:=aI c;apply bU.bu
 .split at b
  case h_2=>cases b
  split at b
  case h_2=>cases b
  obtain⟨_,c⟩:=ay b;split at c
  case h_2=>cases c
  rename_i k h;obtain⟨g,e⟩:=ay c;simp at g;split at e
  case h_2=>cases e
  obtain rfl:=aI e;exact(jS λj i=>by rw[h] at i;obtain rfl:=aI i;exact g.1.1.2).trans (bU.bu _ _ _)
 .cases b
def Xn{b aP}:∀{g j σ r},(mkObj b aP g j σ).run=aa r->bU σ r.2:=by
 intro g;induction g with
 | nil=>intro j σ r c;obtain rfl:=aI c;apply bU.refl
 | cons f q l =>
   intro j σ r c;cases f with
   | buf e m =>
     obtain⟨_,h⟩:=ay c;obtain⟨aP,n,o⟩:=oi h;obtain⟨y,i,k⟩:=bind_some o;obtain rfl:=aI k;have:=l i;exact n.trans this
   | _ =>
     obtain⟨y,i,k⟩:=bind_some c;obtain rfl:=aI k;have:=l i;exact this
def RV{b}:∀{c j v σ r},(oP b c j v σ).run=aa r->bU σ r.2:=by
 intro c;induction c with
 | nil =>
   intro j v σ r g;obtain rfl:=I8 g;apply bU.refl
 | cons f q k =>
   intro j v σ r g;rcases FZ g with ⟨x,u,y,rfl,h,rfl⟩|⟨e,l,u,rfl,s,i⟩
   .have:=k h;exact this
   .obtain⟨m,n,o⟩:=oi i;obtain⟨y,h,p⟩:=bind_some o;obtain rfl:=aI p;have:=k h;exact n.trans this
def Xo{c:Hp}{d f σ aV}(b:(Ud c d f σ).run=aa aV):bU σ aV:=by
 unfold Ud at b;split at b
 case h_2=>cases b
 split at b
 case h_2=>cases b
 rename_i x bM j;split at b
 case h_2=>cases b
 split at b
 case h_2=>cases b
 obtain⟨_,e⟩:=ay b;split at e
 case h_2=>cases e
 rename_i r q u l k g;obtain⟨_,h⟩:=wi e;obtain⟨y,m,i⟩:=cg h;obtain rfl:=aI i;exact(jT j).trans ((F8 g).trans<|bU.bu _ _ _)
def Uz{cx inl}(i:∀f h σ v aV,(inl f h σ).run=aa (v,aV)->bU σ aV){d f h σ aV}
  (b:(y8 cx inl d f h σ).run=aa aV):bU σ aV:=by
 unfold y8 at b;split at b
 .split at b
  .split at b
   .obtain⟨y,l,g⟩:=cg b;obtain rfl:=aI g;apply bU.bu
   .exact absurd b cj
  .split at b
   .rename_i j;obtain⟨y,l,g⟩:=cg b;obtain rfl:=aI g;exact(jT j).trans (bU.bu _ _ _)
   .exact absurd b cj
 .have e:((inl f h σ).bind λr=>.ret (r.2.bu d r.1):Tree St).run=aa aV->bU σ aV:=by
   intro b;obtain⟨r,k,g⟩:=bind_some b;obtain rfl:=aI g;exact(i _ _ _ _ _ k).trans (bU.bu _ _ _)
  split at b
  .exact RU b
  split at b
  .rename_i c m;split at b
   .rename_i x u n j;obtain⟨y,l,g⟩:=cg b;obtain rfl:=aI g;exact(F8 j).trans (bU.bu _ _ _)
   .exact e b
  .split at b
   .exact Xo b
   .exact e b
def L5{nb e d c σ aV}(b:(mY nb e d c σ).run=aa aV):bU σ aV:=by
 unfold mY at b;split at b
 case h_2=>cases b
 split at b
 case h_2=>cases b
 rename_i f;obtain⟨_,b⟩:=ay b;obtain⟨_,b⟩:=cP b;obtain⟨g,h,i⟩:=oi b;obtain rfl:=aI i;exact((rF f).trans h).trans (bU.bu _ (aa _) _)
def RW{e A res spec d f σ aV}(c:(uq e A res spec d f σ).run=aa aV):bU σ aV:=by
 unfold uq at c;split at c
 case h_2=>cases c
 split at c
 case h_2=>cases c
 rename_i h;split at c
 case h_2=>cases c
 rename_i b q u l i;obtain⟨v,_,c⟩:=cg c;obtain⟨r,m,n,j,s,o,_⟩:=vm i;have key:∀g,bU _ (St.cw _ b g):=λg=>jS λt p=>by rw[r] at p;obtain rfl:=aI p;exact j
 cases res with
 | true =>
   cases d with
   | none=>cases c
   | some k=>obtain rfl:=aI c;exact((jT h).trans<|key _).trans (bU.bu _ (aa _) _)
 | false =>
   cases d with
   | none=>obtain⟨_,c⟩:=ay c;obtain rfl:=aI c;exact((jT h).trans<|key _).trans (bU.bu _ af _)
   | some k=>obtain⟨_,c⟩:=ay c;obtain rfl:=aI c;exact((jT h).trans<|key _).trans (bU.bu _ _ _)
def RX{cx nb bf inl}(c:∀f b σ v aV,(inl f b σ).run=aa (v,aV)->bU σ aV){d f b σ aV}
  (e:(wc cx nb bf inl d f b σ).run=aa aV):bU σ aV:=by
 unfold wc at e;split at e
 .exact L5 e
 .exact RW e
 .exact Uz c e
end Go.Ge
namespace Go.Ge
open RowKit
def bg(b:St)(T:Tree St):Prop:=∀y,T.run=aa y->bU b y
def bg.fail{σ}:bg σ .fail:=λy h=>by cases h
def bg.ret{σ aV}(h:bU σ aV):bg σ (.ret aV):=λy b=>by obtain rfl:=aI b;exact h
def bg.bif{σ c t}(h:bg σ t):bg σ (bif c then t else .fail):=λy b=>h y (ay b).2
def bg.ju{σ c t}(h:bg σ t):bg σ (.ju c t):=λy b=>h y (cP b).2
def bg.look{σ T}{o:Option T}{k}(h:∀x,bg σ (k x)):bg σ (.look o k):=λy b=>by obtain⟨x,_,c⟩:=cg b;exact h x y c
def bg.node{σ c t e}(h:bg σ t)(k:bg σ e):bg σ (.node c t e):=λy b=>by
 have:=gD b;cases c with
 | true=>exact h y this
 | false=>exact k y this
def bg.bind{σ α}{t:Tree α}{f}(h:∀x,t.run=aa x->bg σ (f x)):bg σ (t.bind f):=λy b=>by obtain⟨x,c,e⟩:=bind_some b;exact h x c y e
def bg.bA{σ b val tid buf d}{v:Nat->cp}:bg σ (σ.bA b val tid buf λc σ=>.ret (σ.put d<|v c)):=λy e=>by
 obtain⟨c,f,g⟩:=oi e;obtain rfl:=aI g;exact f.trans (bU.put _ _ _)
def P8{p:Prop}(h:p:=by
 repeat' (first
  | exact bg.fail|exact bg.ret (bU.bu _ _ _)|exact bg.ret (bU.put _ _ _)|exact bg.bA
  | refine bg.bif ?_|refine bg.ju ?_|refine bg.look λ_=>?_|refine bg.node ?_ ?_|refine bg.bind λ_ _=>?_|split)):p:=h
section
variable {cx:Ctx} {nb:Nat} {bf:List Nat} {inl:Nat->List cp->St->Tree (cp×St)} {d:Option Nat} {σ:St}
def Bq{ty v}:bg σ (kj cx nb bf d ty v σ):=by
 unfold kj;split
 .exact P8
 .split
  .rename_i k e _;cases dc bf k with
   | true=>exact bg.bA
   | false=>exact bg.ret (bU.put _ _ _)
  .exact bg.ret (bU.bu _ _ _)
 .exact bg.ret (bU.bu _ _ _)
def OO{c a b}:bg σ (p8 d c a b σ):=by unfold p8;exact P8
def OP{ty a}:bg σ (mx cx d ty a σ):=by unfold mx;exact P8
def L6{ty x lo hi}:bg σ (mV cx d ty x lo hi σ):=by unfold mV;exact P8
def Xp{b aP i}:∀{m k},bg σ (Lt d b aP σ i m k):=by
 intro m;induction m with
 | zero=>exact bg.fail
 | succ m c=>exact bg.node (bg.ret<|bU.bu _ _ _) c
def xF{ty x i}:bg σ (eH cx d ty x i σ):=by
 unfold eH;split
 case h_6=>split
           .exact bg.bif Xp
           .exact bg.fail
 all_goals exact P8
def L7{ty x i}:bg σ (mW cx d ty x i σ):=by
 unfold mW;split
 .refine bg.bif ?_;split
  .exact bg.bif (bg.ret<|bU.bu _ _ _)
  .exact bg.fail
 .exact xF
def L8{ty x i}:bg σ (mX cx d ty x i σ):=by unfold mX;exact P8
def ER{s x k}:bg σ (fc cx d s x k σ):=by unfold fc;exact P8
def HH{s t x}:bg σ (iq cx nb d s t x σ):=by unfold iq;exact P8
def Ee{ty t x}:bg σ (zz cx d ty t x σ):=by
 unfold zz;split
 .split
  .exact bg.fail
  .exact bg.bind λr b=>bg.ret ((Jc b).trans<|bU.bu _ _ _)
 .exact bg.fail
def L9{ty t}:bg σ (zB cx ty t σ):=by
 unfold zB;split
 .exact bg.bind λr b=>bg.ret (Jc b)
 .exact bg.fail
def J6{name args}:bg σ (tN cx d name args σ):=by
 intro aV b;unfold tN at b;split at b
 .split at b
  .rename_i e;obtain⟨y,f,c⟩:=cg b;obtain rfl:=aI c;exact(jT e).trans (bU.bu _ _ _)
  .exact absurd b cj
 .exact absurd b cj
def Ma{ty u x}:bg σ (tM cx d ty u x σ):=by
 intro aV b;unfold tM at b;split at b
 .split at b
  .split at b
   .rename_i c;obtain rfl:=aI b;exact(rF c).trans (bU.bu _ _ _)
   .exact absurd b cj
  .exact absurd b cj
 .exact absurd b cj
def OQ(b:∀f e σ v aV,(inl f e σ).run=aa (v,aV)->bU σ aV){ty c}:bg σ (xp cx nb bf inl d ty c σ):=by
 unfold xp;split
 .split
  .exact P8
  .split
   .exact λy g=>Bp g
   .exact λy g=>Bp g
   .exact bg.fail
  .split
   .exact Ee
   .exact Ee
   .exact bg.fail
  .split
   .exact L9
   .exact bg.fail
  .exact P8
  .exact P8
  .exact bg.fail
 .split
  .exact bg.bif λy g=>RX b g
  .exact bg.fail
 .exact J6
def Cd(e:∀f g σ v aV,(inl f g σ).run=aa (v,aV)->bU σ aV){o}:bg σ (sd cx nb bf inl o σ):=by
 unfold sd;split
 case h_1=>exact Bq
 case h_2=>exact Bq
 case h_3=>exact OO
 case h_4 =>
  split
  .unfold wZ;split
   .refine bg.bif λy b=>?_;obtain⟨i,j,k⟩:=oi b;exact j.trans (bg.bA y k)
   .exact bg.bA
  .split
   .refine bg.bind λr h=>?_;exact λy b=>(Xn h).trans (bg.bA y b)
   .exact bg.bif bg.bA
  .exact bg.fail
 case h_5 =>
  unfold FF;split
  .exact bg.fail
  .exact bg.fail
  .split
   .refine bg.bind λr h=>?_;exact λy b=>(RV h).trans (bg.bA y b)
   .exact bg.bA
  .exact bg.fail
 case h_6 =>
  split
  .split
   .rename_i c;exact bg.ret ((ON c).trans<|bU.bu _ _ _)
   .exact bg.fail
  .split
   .rename_i c;exact bg.ret ((xE c).trans<|bU.bu _ _ _)
   .exact bg.fail
  .exact P8
  .exact bg.fail
 case h_7 =>
  split
  .split
   .exact bg.bA
   .refine bg.bif ?_;split
    .rename_i c;split
     .exact λy b=>(xE c).trans (bg.bA _ b)
     .exact bg.ret ((xE c).trans<|bU.bu _ _ _)
    .exact bg.fail
  .unfold C6;exact P8
  .exact bg.fail
 case h_8=>exact OP
 case h_9=>split
           .exact λy b=>L4 b
           .exact bg.fail
 case h_10=>exact P8
 case h_11=>exact P8
 case h_12=>exact P8
 case h_13=>exact HH
 case h_14=>exact P8
 case h_15=>exact L6
 case h_16=>exact ER
 case h_17=>exact P8
 case h_18=>split
            .cases dc bf 5000000 with
             | true=>exact L7
             | false=>exact xF
            .exact bg.fail
 case h_19=>split
            .exact L8
            .exact bg.fail
 case h_20=>exact P8
 case h_21=>exact P8
 case h_22=>exact OQ e
 case h_23=>exact Ma
 case h_24=>exact bg.fail
end
end Go.Ge
