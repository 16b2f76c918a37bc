import Derived.Test.YtgklgliokhbcnaaGreatDoorGeD
import Derived.Laws.Build
set_option linter.unusedVariables false
set_option linter.unusedSimpArgs false
set_option linter.unusedSectionVars false
set_option linter.defProp false
open Option renaming some->aa,none->af
open Go.IntKind (i64)
namespace Go.Ge
open RowKit
def zf(P:Program)(G:ER)(inl:Nat->List cw->St->Tree (cw×St)):Prop :=∀(B:CG) (γ:Gh) (σ aV:St) (w:World) (f:Nat) (b:List cw) (i:Array Value) (v:cw),B.G=G->bH B γ σ.mem w->mB γ σ.mem w b i.toList->(inl f b σ).run=aa (v,aV) ->(∃h c,P.funcs[f]?=aa h/\(h.name == "runtime.NumGoroutine")=false/\h.body=aa c)/\aV.bj=σ.bj /\Calls P f i w λe w'=>∃g bF,e=.returned g/\bH B bF aV.mem w'/\Ext B γ σ.mem w bF aV.mem w'/\cQ bF aV.mem w' v .val [g]
section
variable {P:Program} {B:CG} {N:Nat} {γ:Gh} {σ aV:St} {a:Act} {w w':World} {d:Option Nat} {cx:Ctx} {nb:Nat} {bf:List Nat} {inl:Nat->List cw->St->Tree (cw×St)}
def EX(B:CG)(N:Nat)(c:Gh)(e:St)(a:Act)(w:World)(d:Option Nat)(b:St)(K:Act->World->Prop):Prop :=∀bF v w',dG B N bF b (a.put d v) w'->Ext B c e.mem w bF b.mem w'->K (a.put d v) w'
def SW{f:Nat}{fn code}(c:P.funcs[f]?=aa fn)(e:(fn.name == "runtime.NumGoroutine")=false)(g:fn.body=aa code) args w :
  (callFunc f args).run P w=.ok (.enter f args) w:=by
 have b:¬fn.name = "runtime.NumGoroutine":=by simpa using e
 simp[callFunc,c,b,g]
def ca{o s K Q}(b:execOp a.eval o=(do pure<|.value (<-s)))(h:py P B N γ σ a w o.dst s aV)(c:EX B N γ σ a w o.dst aV K):o.wp P a w K Q:=by obtain⟨v,w',bF,e,f,g⟩:=h;unfold Oper.wp;rw[b];simp only[Sem.run_bind,e];exact c bF _ w' f g
def Q1{ops:List Operand}(h:dG B N γ σ a w):mB γ σ.mem w (ops.map<|dd σ) (ops.map a.eval):=by refine⟨aT,λi v x b c=>?_⟩;rw[KI] at b c;cases e:ops[i]? with|none=>rw[e] at b;cases b|some o =>rw[e] at b c;obtain rfl:=aI b;obtain rfl:=aI c;exact h.dd o
def mB.append{mem vs us f g}(h:mB γ mem w vs f)(k:mB γ mem w us g):mB γ mem w (vs++us) (f++g):=by
 refine⟨by simp[h.1,k.1],λi v x c b=>?_⟩;rw[Sw] at c b;rw[h.1] at b;split at c
 {rename_i e;rw[aQ e] at b;exact h.2 i v x c b};rename_i e;rw[aK e] at b;exact k.2 _ v x c b
def bH.drop{mem w'}(h:bH B γ mem w){b GV bx}(t:mem b=aa GV)(j:GV.aR<bx.aR)(m:xc B w w')
  (l:∀k,k<w.heap.size->(∀c,γ.loc b≠aa (k,c))->w'.heap[k]?=w.heap[k]?) (i:∀k o,k<w.heap.size->w'.cell? ⟨k,o,af⟩=w.cell? ⟨k,o,af⟩) (y:eL (bR γ b af) (dy mem b bx) w' b bx):bH B (bR γ b af) (dy mem b bx) w'/\Ext B γ mem w (bR γ b af) (dy mem b bx) w':=by
 have hx:Ext B γ mem w (bR γ b af) (dy mem b bx) w' :=
  { below:=m
    I:=λ_ _ x=>x
    sI:=λ_ _ x=>.inl x
    cells:=λblk o x=>i blk o (h.vQ blk o x)
    boxes:=λc cx f=>by
     by_cases e:c=b
     .subst e;obtain rfl:GV=cx:=aI (t.symm.trans f);exact⟨bx,bE _ _,Nat.le_of_lt j,λe=>absurd e ah⟩
     .exact⟨cx,by rw[aZ _ e];exact f,b0 _,λ_=>⟨by simp[bR,e],rfl,rfl⟩⟩ }
 refine⟨?_,hx⟩;exact
  { vR:=h.GG hx
    base:=fB h.base m.size
    boxes:=λc cx f=>by
     by_cases e:c=b
     .subst e;rw[bE] at f
      grind
     .rw[aZ _ e] at f;refine(h.boxes c cx f).keep hx (by simp[bR,e]) λblk k u=>l blk (h.fresh c blk k (by rw[f];simp) u).2 λp q=>e ?_;exact h.inj c b blk k p (by rw[f];simp) (by rw[t];simp) u q
    inj:=λc d blk k p f v g n=>by
     by_cases e:c=b
     .simp only[bR,aQ e] at g;cases g
     .by_cases r:d=b
      .simp only[bR,aQ r] at n;cases n
      .simp only[bR,aK e] at g;simp only[bR,aK r] at n;rw[aZ _ e] at f;rw[aZ _ r] at v;exact h.inj c d blk k p f v g n
    fresh:=λc blk k f g=>by
     by_cases e:c=b
     .simp only[bR,aQ e] at g;cases g
     .simp only[bR,aK e] at g;rw[aZ _ e] at f;have:=h.fresh c blk k f g;exact⟨this.1,Ai this.2 m.size⟩
    vQ:=λblk off s=>Ai (h.vQ blk off s) m.size
    sep:=λc cx blk k off f g s=>by
     by_cases e:c=b
     .simp only[bR,aQ e] at g;cases g
     .simp only[bR,aK e] at g;rw[aZ _ e] at f;exact h.sep c cx blk k off f g s }
def Vu{mem b c}(h:mem b=aa c):dy mem b c=mem:=by
 funext i;by_cases e:i=b
 {subst e;rw[bE,h]};rw[aZ _ e]
def PG{f s R xs}(hs:qk P f s)(h:dG B N γ σ a w)(hd:∀k,d=aa k->k<N)(hv:mB γ σ.mem w R xs.toList)
  (C:(DL s d R σ).run=aa aV) {K} (hK:EX B N γ σ a w d aV K) : (∃fn code,P.funcs[f]?=aa fn/\(fn.name == "runtime.NumGoroutine")=false/\fn.body=aa code)/\Calls P f xs w λe w'=>∃v,e=.returned v/\K (a.put d v) w':=by
 unfold DL at C;split at C
 .rename_i T b aR;split at C;case h_2=>cases C
  rename_i Y S;split at C;case h_2=>cases C
  rename_i b' v' u un A;obtain⟨n,F⟩:=aA C;obtain rfl:=aI F;simp only[gO,Ez] at n;obtain⟨⟨⟨⟨⟨⟨⟨⟨c1,c2⟩,c3⟩,c4⟩,c5⟩,c6⟩,c7⟩,c8⟩,c9⟩:=n;have c1:=gP c1;have c5:=gP c5;have c7:=gP c7;have c8:=gP c8;have c6:0<T:=by simpa using c6
  subst c7;subst c8;obtain⟨val,G,Z,g1,g2⟩:=hv.cons;have r:G=[]:=by have:=g2.1;simpa using this
  subst r;obtain⟨m,i,U,g3⟩:=bp S c1 g1.2;simp only[er] at g3;obtain rfl:xs=#[.pointer<|some ⟨m,0,af⟩]:=by apply Cw.1;rw[Z,g3]
  have t:=h.ok.boxes b' Y S;unfold eL at t;rw[c2] at t;obtain⟨MJ,ae1,z,tid,fr,a1,a2,a3,a4,a5⟩:=t;rw[U] at a1;obtain⟨rfl,rfl⟩:=eX (aI a1);have H:tid=T:=by grind
  subst H;rw[A] at a5;obtain⟨cs1,cs2,e1,e2,e3⟩:=a5;obtain⟨cs3,cs4,e4,e5,e6⟩:=e3;obtain⟨⟨p,rfl,hp1⟩,hp2⟩:=e2;obtain⟨q,hq⟩:∃q,cs3=[q]:=by (cases u<;>first|(cases c9;done)|skip);obtain⟨⟨q,hq,_⟩,_⟩:=e5;grind
  subst hq;obtain rfl:cs4=[]:=e6;have I:z=#[p,q]:=by apply Cw.1;rw[e1,e4];rfl
  subst I;obtain⟨apD,am1,j1,j2⟩:=bp S c1 hp2;rw[U] at j1;obtain⟨rfl,rfl⟩:=eX (aI j1);refine⟨hs.1,(hs.2 w m p q fr a2 (a3 0 aT)<|j2.imp wD wD).mono λe w' D=>?_⟩;obtain⟨rfl,D⟩:=D;refine⟨_,rfl,?_⟩;have V:∀{bF mem' w'},cQ bF mem' w' (.Ct .nl) .val [.tuple #[]]:=λ{_ _ _}=>⟨#[],rfl,rfl⟩;rcases D with rfl|rfl;{refine hK γ _ _ (h.ya hd V) ?_;cases d<;>apply Ext.refl};(have alF:({ Y with val:=Y.val }:eF)=Y:=by cases Y;rfl);(obtain⟨m1,m2⟩:=h.ok.write S c4 U a2 (cur':=#[.pointer _,q]) aT (by rw[alF]) (λw' mem' hx hg=>by (rw[c2];refine⟨m,i,_,tid,fr,U,hg,λo ho=>a3 o (by simpa using ho),a4,?_⟩;rw[A];refine⟨[.pointer _],[q],rfl,?_,[q],[],rfl,e5.ext hx,rfl⟩;have hp3:oI mem' b' v' λ_=>∃m i,γ.loc b'=aa (m,i):=by obtain⟨GV,k1,k2,k3⟩:=hp2;obtain⟨vS,q1,q2,J⟩:=hx.boxes b' GV k1;exact⟨vS,q1,fB k2 q2,λ_=>⟨m,i,U⟩⟩);obtain⟨vS,q1,q2,J⟩:=hp3;exact⟨⟨_,rfl,rfl⟩,vS,q1,q2,λ_=>⟨m,i,U,.inr rfl⟩⟩));rw[ Vu S] at m1 m2;refine hK γ _ _ (h.bu m2 m1 hd V) ?_;cases d<;>exact m2
 .rename_i T E b aR;split at C;case h_2=>cases C
  rename_i Y S;split at C;case h_2=>cases C
  rename_i b' v' hh hv' un A;obtain⟨n,F⟩:=aA C;simp only[gO,Ez] at n;obtain⟨⟨⟨⟨c1,c2⟩,c5⟩,c6⟩,c7⟩:=n;have c5:=gP c5;have c6:0<T:=by simpa using c6
  split at F;case h_2=>cases F
  rename_i hx Q;obtain⟨n,hr3⟩:=aA F;simp only[gO] at n;obtain⟨⟨⟨⟨d1,d2⟩,d3⟩,d4⟩,d5⟩:=n;have d4:=gP d4;have d5:0<E:=by simpa using d5
  split at hr3;case h_2=>cases hr3
  rename_i l hhv;change List Int at l;obtain rfl:=aI hr3;obtain⟨val,G,Z,g1,g2⟩:=hv.cons;have r:G=[]:=by have:=g2.1;simpa using this
  subst r;obtain⟨m,i,U,g3⟩:=bp S (gP c1) g1.2;obtain rfl:xs=#[.pointer _]:=by apply Cw.1;rw[Z,g3]
  have t:=h.ok.boxes b Y S;unfold eL at t;rw[c2] at t;obtain⟨MJ,ae1,z,tid,fr,a1,a2,a3,a4,a5⟩:=t;rw[U] at a1;obtain⟨rfl,rfl⟩:=eX (aI a1);have H:tid=T:=by grind
  subst H;rw[A] at a5;obtain⟨cs1,cs2,e1,e2,e3⟩:=a5;obtain⟨cs3,cs4,e4,e5,e6⟩:=e3;obtain⟨⟨p,rfl,hp1⟩,hp2⟩:=e2;obtain⟨⟨q,rfl,hq1⟩,hq2⟩:=e5;obtain rfl:cs4=[]:=e6;have I:z=#[p,q]:=by apply Cw.1;rw[e1,e4];rfl
  subst I;obtain⟨e',n',k1,k2,k3⟩:=bp Q (gP d1) hq2;rw[eF.ec d2 hhv] at k2;obtain⟨rfl,rfl⟩:=eX (aI k2);have L:=h.ok.boxes hh hx Q;unfold eL at L;rw[d2] at L;obtain⟨e3,l3,q1,q2,J⟩:=L;rw[hhv] at q1;cases q1;have hlen:(br l).length=l.length:=by simp[br]
  let hx':eF:={ hx with val:=.data (.slice<|.int .u8) ([]),aR:=hx.aR+1 }
  have key:∃og,(∀k,og=aa k->∃c,γ.loc hh=aa (k,c))/\l.length<=maxLen /\
    ((og=af/\q=.slice af 0 0/\br l=[])\/∃(g i:Nat) (z:Array Value) (fr':Nat×Nat),og=aa g/\q=.slice (aa ⟨g,0,af⟩) (br l).length i/\w.heap[g]?=aa (.cells z E fr')/\(br l).length<=i/\i<=maxLen/\z.size=i/\∀(j:Nat) x,(br l)[j]?=aa x->z[j]?=aa (Value.int .u8 x.toNat)):=by
   rcases k3 with ⟨k3,k4⟩|⟨g,M,k3,k4⟩
   .rcases J with ⟨_,J⟩|⟨_,_,_,_,_,J,_⟩
    .subst J;exact⟨af,Cu,pq _,.inl ⟨rfl,wD k4,rfl⟩⟩
    .grind
   .rcases J with ⟨J,_⟩|⟨g',aox,O,am2,frg,J,q4,q5,q6,q7,q8,q9,q10⟩
    .grind
    .rw[k3] at J;obtain⟨rfl,rfl⟩:=eX (aI J);have htg:am2=E:=by
      grind
     subst htg;have W:(Ty.int IntKind.u8).size=1:=rfl;have q7':l.length<=M:=q7;refine⟨aa g,λk X=>⟨M,by rw[k3,aI X]⟩,fB q7' q8,.inr ⟨g,M,O,frg,rfl,?_,q4,ah,q8,by rw[q9,W,Gs],λj x hj=>?_⟩⟩
     .rw[hlen];exact wD k4
     .simp only[br,KI,Fm] at hj;obtain⟨y,hy,rfl⟩:=hj;obtain⟨r1,r2,r3⟩:=q10 j y hy;rw[W,Gs] at r1;have am3:(IntKind.u8).min=0:=aF;have ahQ:(IntKind.u8).max=255:=aF;have aoy:O.toList[j]?=aa (.int .u8 y):=by
       have:((O.toList.drop j).take 1)[0]?=aa (.int .u8 y):=by rw[r1];rfl
       grind
      simp_all;omega
  obtain⟨og,hog,hlm,X⟩:=key;refine⟨hs.1,(hs.2 w m p q fr _ og a2 X).mono λe w' D=>?_⟩;obtain⟨rfl,D⟩:=D;refine⟨_,rfl,?_⟩;have am4:xc B w w':=⟨D.os,D.tape,D.output,D.size,λk X=>by
   rcases ug k w.heap.size with hlt|hge
   .refine D.block k hlt λe=>X ?_;obtain⟨c,hc⟩:=hog k e;exact(h.ok.fresh hh k c (by rw[Q];simp) hc).1
   .exact absurd (.inl<|fB h.ok.base hge) X⟩
  have am5:eL (bR γ hh af) (dy σ.mem hh hx') w' hh hx':=by
   unfold eL;rw[show hx'.buf=true from d2];exact⟨.int .u8,[],rfl,q2,.inl ⟨by simp[bR],rfl⟩⟩
  obtain⟨m1,m2⟩:=h.ok.drop Q (UX _) am4 (λk X hn=>D.block k X λe=>by obtain⟨c,hc⟩:=hog k e;exact hn c hc) D.cell am5;refine hK _ _ w' (h.bu m2 m1 hd ⟨[.string ⟨(br l).toArray⟩],⟨rfl,by rw[hlen];exact hlm⟩,rfl⟩) ?_
  .cases d<;>exact m2
 .cases C
def Q2{F c}{arr:Array Value}(n:cQ γ σ.mem w (.fn F c) .cells [.func (.func F) #[] arr])(f:(c.all λb=>live σ b.1 b.2)=true):mB γ σ.mem w (c.map λb=>.ptr b.1 b.2 []) arr.toList:=by obtain⟨k,l,o,p⟩:=n;simp only[aes,Value.func.injEq,U7,true_and] at l;subst l;refine⟨by simpa using o,λi v x g t=>?_⟩;rw[KI] at g;cases hi:c[i]? with|none=>rw[hi] at g;cases g|some bv =>(rw[hi] at g;obtain rfl:=aI g;have q:=w8.1 f bv (eG hi);obtain⟨r,m,e⟩:=lL q;obtain⟨h,j,s,u⟩:=bp m e (p i bv.1 bv.2<|by rw[hi]);have hx:x=.pointer (aa ⟨h,0,af⟩):=by grind);subst hx;exact⟨⟨_,rfl,rfl⟩,r,m,EO e.symm,λ_=>⟨h,j,s,rfl⟩⟩
def Yu{I}{f:Type}:∀{l:List f} {U vs c},Q0 w I (l.map λ_=>true) .unit U () vs c->vs=c.map λb=>.pointer (aa ⟨b,0,af⟩):=by intro l;induction l with|nil=>(intro U vs c h;obtain⟨_,_,rfl,rfl⟩:=h;rfl)|cons p l g =>intro U vs c h;cases U with|pair t U=>(obtain⟨i,e,r,rfl,rfl,h⟩:=h;rw[g h];rfl)|_=>exact h.elim
def Vv{c:Gt}{f J xs}(hh:lM P B.G f c)(h:dG B N γ σ a w)(hd:∀k,d=aa k->k<N)(hv:mB γ σ.mem w J xs.toList)
  (C:(Ve c d J σ).run=aa aV) {K} (hK:EX B N γ σ a w d aV K) : (∃fn Y,P.funcs[f]?=aa fn/\(fn.name == "runtime.NumGoroutine")=false/\fn.body=aa Y)/\Calls P f xs w λe w'=>∃v,e=.returned v/\K (a.put d v) w':=by
 refine⟨hh.body,?_⟩;unfold Ve at C;split at C
 case h_2=>cases C
 rename_i b aR vs;split at C
 case h_2=>cases C
 rename_i x bO hx;split at C
 case h_2=>cases C
 rename_i bx hb;split at C
 case h_2=>cases C
 rename_i r0 F abT u0 L;obtain⟨i,m⟩:=aA C;simp only[gO,Ez] at i;split at m
 case h_2=>cases m
 rename_i r q u ns hr0 hra;cases p:dm ns b with
 | true=>rw[p] at m;cases m
 | false =>
 rw[p] at m;obtain⟨y,hy,hr2⟩:=ck m;obtain rfl:=aI hr2;obtain⟨x0,rest,hxs,v1,v2⟩:=hv.cons;obtain⟨D,A,s2,s3⟩:=kR h v2 hx;have alA:=gP i.1.1.1.1.1;have M:bx.buf=false:=i.1.1.1.1.2;have O:=gP i.1.1.2;obtain rfl:=gP i.1.2;have S:=A.ok.boxes b bx hb;unfold eL at S;rw[M,L,O] at S;obtain⟨j,E,cur,tid,fr,a1,a2,a3,a4,c1,c2,a5,a6,c3,c4,a7,a8,a9⟩:=S;obtain rfl:=MS hr0;obtain rfl:c4=[]:=a9;have a8':=a8;obtain⟨arr,rfl,_,_⟩:=a8';have V:=Q2 a8 i.2;obtain⟨bs,g1,g2,g3⟩:=EW A.ok V hra;have R:arr=(bs.map λb=>Value.pointer (aa ⟨b,0,af⟩)).toArray:=by
  rw[<-Yu g1]
 have hx0:x0=.pointer (aa ⟨j,0,af⟩):=by
  obtain⟨_,ho⟩:=v1.ext s2;obtain⟨MJ,ae1,k1,k2⟩:=bp hb alA ho;rw[a1] at k1;obtain⟨rfl,_⟩:=eX (aI k1);exact wD k2
 have am7:ae7 w D.I c.T c.t r c.F bs j:=⟨cur,tid,fr,c1,a2,a3,a4,by rw[a5,a7,R,uC],a6⟩;have Vw:∀k∈j::bs,∃n l H,bO.mem n=aa l/\l.ro=false/\D.loc n=aa (k,H):=λk s=>by
  rcases fA.1 s with rfl|s
  .exact⟨b,bx,E,hb,i.1.1.1.2,a1⟩
  .obtain⟨n,l,H,j1,W,j3,X⟩:=g2.IB k s;exact⟨n,l,H,W,j3,X⟩
 have hnd:(j::bs).Nodup:=aev.2 ⟨(λs=>by
  obtain⟨n,l,H,j1,W,j3,X⟩:=g2.IB j s;have:=A.ok.inj b n j E H (by rw[hb];simp) (by rw[W];simp) a1 X;rw[<-this] at j1;rw[CN.2 j1] at p;cases p),g2.nodup A.ok⟩
 refine(hh.calls D.I w xs rest j bs r x u y (λb o hi=>A.ok.vQ b o hi) A.ok.My (λk Q g s=>by
  obtain⟨n,l,H,W,j3,X⟩:=Vw k s;exact(A.ok.vR k Q g).1 (A.ok.fresh n k H (by rw[W];simp) X).1) (by rw[hxs,hx0]) s3 am7 g3 hnd (λk s o hi=>by
  obtain⟨n,l,H,W,j3,X⟩:=Vw k s;have:=(A.ok.sep n l k H o W X hi).1;rw[j3] at this;cases this) hy).mono λe w' hw=>?_
 obtain⟨v,I',h1,h2,h3,h4,h5,h6,h7,h8⟩:=hw;refine⟨v,h1,?_⟩;have hrv:oH c.U y.2 ns b=none:=by
  cases hv:oH c.U y.2 ns b with
  | none=>rfl
  | some z=>rw[CN.2<|MR hv] at p;cases p
 obtain⟨m1,m2⟩:=A.ok.refs (Z:=(·=b)) g2 h2 h3 h4 h5 h7 (λk s=>by
  rcases fA.1 s with rfl|s
  .exact .inr ⟨b,E,rfl,a1⟩
  .exact .inl s) (λn hn=>by
  subst hn;refine⟨hrv,bx,hb,i.1.1.1.2,λam8=>?_⟩;obtain⟨cur',am9,fr',cs',b1,b2,b3,b4,b5⟩:=h8;unfold eL;rw[M,L,O];rw[R] at a8;exact⟨j,E,cur',am9,fr',a1,b1,b2,b3,cs',_,b4,b5,_,[],by rw[uC],a8.ext am8,rfl⟩)
 refine hK ⟨I',D.loc⟩ _ w' (by exact A.bu m2 m1 hd<|h6.rep λ_ _ hi=>hi) ?_;cases d<;>exact s2.trans m2
def SX(m:ql P B.G cx)(Y:zf P B.G inl){f p H}(h:dG B N γ σ a w)(U:∀k,d=aa k->k<N)(V:mB γ σ.mem w p H.toList)
  (i:(zO cx inl d f p σ).run=aa aV) {K} (J:EX B N γ σ a w d aV K) : (∃L q,P.funcs[f]?=aa L/\(L.name == "runtime.NumGoroutine")=false/\L.body=aa q)/\Calls P f H w λe w'=>∃v,e=.returned v/\K (a.put d v) w':=by
 unfold zO at i;split at i
 .rename_i c z;have W:=m.Vb f c z;refine⟨W.body,?_⟩;split at i;{rename_i M;split at i;{rename_i x hx;obtain⟨y,hy,l⟩:=ck i;obtain rfl:=aI l;refine(W.calls _ w H x y (λb o A=>A) h.ok.My (PF (I':=λb o=>b<w.heap.size) h.ok (λb o j=>h.ok.vQ b o j) (λb o _ A=>A) V hx) hy).mono λe w' O=>?_;obtain⟨v,I',R,E,S,X,h5,h6⟩:=O;refine⟨v,R,?_⟩;obtain⟨m1,F⟩:=h.ok.far (I':=γ.I) E (λ_ _ j=>j) (λb o j=>Ai (h.ok.vQ b o j) E.size) (λb o j hn=>absurd j hn);refine J γ _ w' (h.bu F m1 U<|h6.flat M) ?_;cases d<;>exact F};exact absurd i cp}
  split at i;{rename_i x bO hx;obtain⟨y,hy,l⟩:=ck i;obtain rfl:=aI l;obtain⟨γ1,s1,s2,s3⟩:=kR h V hx;refine(W.calls γ1.I w H x y (λb o j=>s1.ok.vQ b o j) s1.ok.My s3 hy).mono λe w' O=>?_;obtain⟨v,I',R,E,S,X,h5,h6⟩:=O;refine⟨v,R,?_⟩;obtain⟨m1,F⟩:=s1.ok.far (I':=I') E S X h5;refine J ⟨I',γ1.loc⟩ _ w' (s1.bu F m1 U<|h6.rep λ_ _ j=>j) ?_;cases d<;>exact s2.trans F}
  .exact absurd i cp
 .rename_i z;have t:((inl f p σ).bind λr=>.ret (r.2.bu d r.1):Tree St).run=aa aV->(∃L q,P.funcs[f]?=aa L/\(L.name == "runtime.NumGoroutine")=false/\L.body=aa q)/\Calls P f H w λe w'=>∃v,e=.returned v/\K (a.put d v) w':=by (intro i;obtain⟨r,hr1,l⟩:=bind_some i;obtain rfl:=aI l;obtain⟨v0,sK⟩:=r;obtain⟨A,hsl,C⟩:=Y B γ σ sK w f p H v0 rfl h.ok V hr1;refine⟨A,C.mono λe w' O=>?_⟩;obtain⟨v,bF,R,E,S,X⟩:=O;refine⟨v,R,?_⟩;have hs0:sK={ bj:=σ.bj,mem:=sK.mem }:=by cases sK;subst hsl;rfl);rw[hs0] at J;refine J bF _ w' (h.bu S E U X) ?_;cases d<;>exact S
  split at i;{rename_i s hcs;exact PG (m.QQ f s hcs) h U V i J};split at i;{rename_i c hcr;split at i;{(rename_i x u ns hx;obtain⟨y,hy,l⟩:=ck i;obtain rfl:=aI l;have W:=m.Px f c hcr;obtain⟨bs,g1,g2,g3⟩:=EW h.ok V hx;have T:∀D∈bs,∀o,¬γ.I D o:=λD A o j=>by obtain⟨b,bx,k,j1,j2,j3,j4⟩:=g2.IB D A;have:=(h.ok.sep b bx D k o j2 j4 j).1;grind);(refine⟨W.body,(W.calls γ.I w H bs x u y (λb o j=>h.ok.vQ b o j) h.ok.My (λb Q g A=>by obtain⟨n,bx,k,j1,j2,j3,j4⟩:=g2.IB b A;exact(h.ok.vR b Q g).1 (h.ok.fresh n b k (by rw[j2];simp) j4).1) g1 g3 (g2.nodup h.ok) T hy).mono λe w' O=>?_⟩);obtain⟨v,I',R,E,S,X,h5,h6,h7⟩:=O;refine⟨v,R,?_⟩;obtain⟨m1,F⟩:=h.ok.refs (Z:=λ_=>False) g2 E S X h5 h7 (λk hk=>.inl hk) (λc hc=>hc.elim);refine J ⟨I',γ.loc⟩ _ w' (by exact h.bu F m1 U<|h6.rep λ_ _ j=>j) ?_;cases d<;>exact F};grind};split at i;{rename_i c z;exact Vv (m.SB f c z) h U V i J};exact t i
def bH.Yv{mem w'}(h:bH B γ mem w){b vS e T L X I' v}
  (J:∀k,X k->∃g c,mem b=aa g/\g.ro=false/\γ.loc b=aa (k,c)) (p:mC w γ.I X w' I') (t:yg w' I' e T L v) (R:∀f c,L=aa (f,c)->X f\/w.heap.size<=f) (U:∀g,mem b=aa g->g.aR<vS.aR\/(g.aR=vS.aR/\L=γ.loc b/\vS.buf=g.buf/\vS.row=g.row)) (V:vS.val=.data (.slice e) T) (W:vS.buf=true) (Y:vS.tid=0) (he:0<e.size) : let bF:Gh:=⟨I',λi=>if i=b then L else γ.loc i⟩
  bH B bF (dy mem b vS) w'/\Ext B γ mem w bF (dy mem b vS) w':=by
 intro bF;have m:∀k,k<w.heap.size->¬X k->w'.heap[k]?=w.heap[k]?:=λk s K=>p.below.block k λq=>by rcases q with q|q;{grind};grind
 have y:∀k,X k->∀o,¬γ.I k o:=λk s o u=>by obtain⟨g,c,n,r,M⟩:=J k s;have:=(h.sep b g k c o n M u).1;grind
 have D:∀k,¬B.has k->k<w.heap.size:=λk s=>aar λq=>s (.inl<|fB h.base q);have z:∀k,X k->B.has k/\k<w.heap.size:=λk s=>by obtain⟨g,c,n,r,M⟩:=J k s;exact h.fresh b k c (by rw[n];simp) M
 have hx:Ext B γ mem w bF (dy mem b vS) w' :=
  { below:=⟨p.below.os,p.below.tape,p.below.output,p.below.size,λk s=>m k (D k s) λK=>s (z k K).1⟩
    I:=p.held
    sI:=λb o x=>by
     by_cases u:γ.I b o
     .grind
     .exact .inr (.inl<|fB h.base<|p.sI b o x u)
    cells:=λb o u=>dM (m b (h.vQ b o u) λK=>y b K o u)
    boxes:=λc cx j=>by
     by_cases l:c=b
     .subst l;refine⟨vS,bE _ _,?_,λE=>?_⟩
      .grind
      .grind
     .exact⟨cx,by rw[aZ _ l];exact j,b0 _,λ_=>⟨by simp[bF,l],rfl,rfl⟩⟩ }
 have Z:∀f c,L=aa (f,c)->f<w'.heap.size/\∀o,¬I' f o:=λf c F=>by
  rcases t with ⟨q,_⟩|⟨G,cap,cur,tid,fr,q1,q2,q3,q4,q5,q6,q7,q8,q9⟩
  .grind
  .grind
 have A:∀{c d:Nat},c≠b->dy mem b vS c≠af->mem c≠none:=λj O=>by rwa [aZ _ j] at O
 have Q:∀{d f k c},d≠b->mem d≠af->L=aa _->γ.loc d=aa _->False:=λ{d f k c} hd O F r=>by
  rcases R f k F with Yw|Yw
  .obtain⟨g,c0,j1,j2,S⟩:=J f Yw;exact hd (h.inj d b f c c0 O (by rw[j1];simp) r S)
  .have:=(h.fresh d f c O r).2;omega
 refine⟨?_,hx⟩;exact
  { vR:=h.GG hx
    base:=fB h.base p.below.size
    boxes:=λc cx j=>by
     by_cases l:c=b
     .subst l;rw[bE] at j;unfold eL;rcases t with ⟨q1,q2,q3⟩|⟨G,cap,cur,tid,fr,q1,q2,q3,q4,q5,q6,q7,q8,q9⟩
      .grind
      .grind
     .rw[aZ _ l] at j;refine(h.boxes c cx j).keep hx (by simp[bF,l]) λf k F=>m f (h.fresh c f k (by rw[j];simp) F).2 λYw=>?_;obtain⟨g,c0,j1,j2,S⟩:=J f Yw;exact l (h.inj c b f k c0 (by rw[j];simp) (by rw[j1];simp) F S)
    inj:=λc d f k k' j hd n r=>by
     by_cases l:c=b
     .by_cases E:d=b
      .grind
      .exfalso;simp only[bF] at n;simp only[bF,aK E] at r;simp_all
     .by_cases E:d=b
      .exfalso;simp only[bF] at n;simp only[bF] at r;simp_all
      .simp only[bF,aK l] at n;simp only[bF,aK E] at r;exact h.inj c d f k k' (A (d:=0) l j) (A (d:=0) E hd) n r
    fresh:=λc f k j n=>by
     by_cases l:c=b
     .grind
     .simp only[bF,aK l] at n;have:=h.fresh c f k (A (d:=0) l j) n;exact⟨this.1,Ai this.2 p.below.size⟩
    vQ:=p.vQ
    sep:=λc cx f k C j n u=>by
     by_cases l:c=b
     .grind
     .simp only[bF,aK l] at n;rw[aZ _ l] at j;by_cases H:γ.I f C
      .exact h.sep c cx f k C j n H
      .have M:=p.sI f C u H;have r:=(h.fresh c f k (by rw[j];simp) n).2;omega }
def yg.rep{I loc mem w e l L v b aR bx}(h:yg w I e l L v)
  (f:loc b=L) (p:mem b=aa bx) (g:bx.aR=aR) (c:bx.buf=true) (i:bx.val=.data (.slice e) l):cQ ⟨I,loc⟩ mem w (.whole b aR) .val [v]:=by
 rcases h with ⟨k,m,n⟩|⟨j,o,q,tid,r,k,m,n,s,t,u,x,y,z⟩
 .exact⟨⟨v,rfl,by rw[n];rfl⟩,gW p g ⟨e,l.length,c,eF.ec c i,.inl ⟨by rw[<-k];exact f,by rw[n]⟩⟩⟩
 .exact⟨⟨v,rfl,by rw[m];rfl⟩,gW p g ⟨e,l.length,c,eF.ec c i,.inr ⟨j,o,by rw[<-k];exact f,by rw[m]⟩⟩⟩
def ae9{mem}(h:bH B γ mem w){b aR i}{e:Ty}{l:List e.den}{v}(u:mem b=aa i)(m:i.aR=aR)(f:i.buf=true)(D:i.ro=false)(g:i.val=.data (.slice e) l)
  (E:cQ γ mem w (.whole b aR) .val [v]):yg w γ.I e l (γ.loc b) v/\0<e.size:=by
 obtain⟨O,n,Q,A,c⟩:=bp u m E.2;rw[eF.ec f g] at A;obtain⟨rfl,rfl⟩:=eX (aI A);have j:=h.boxes b i u;unfold eL at j;rw[f] at j;obtain⟨R,S,C,F,k⟩:=j;rw[g] at C;cases C;refine⟨?_,F⟩;rcases k with ⟨k,x⟩|⟨p,q,y,tid,G,k,x,H,T,J,K,L,z⟩
 .rcases c with ⟨c,r⟩|⟨s,t,c,r⟩;{exact .inl ⟨c,x,wD r⟩}
  .grind
 .rcases c with ⟨c,r⟩|⟨s,t,c,r⟩;{grind};rw[k] at c;obtain⟨rfl,rfl⟩:=eX (aI c);refine .inr ⟨p,q,y,tid,G,k,wD r,x,H,J,K,L,λo M=>?_,z⟩;have:=(h.sep b i p q o u k M).1;grind
def vW{e v b aR i l}(h:Bb e σ v=aa (b,aR,i,l)):σ.mem b=aa i/\i.aR=aR/\i.buf=true/\i.lk=false/\i.ro=false/\i.tid=0 /\
  ∃k:List e.den,i.val=.data (.slice e) k/\((v=.whole b aR/\l=k)\/∃n,v=.part b aR 0 n/\l=sub k 0 n):=by
 unfold Bb at h;split at h
 .rename_i r g;split at h;{rename_i c p;cases f:(Nat.beq c.aR g&&c.buf&&!c.lk&&!c.ro&&Nat.beq c.tid 0) with|false=>rw[f] at h;cases h|true =>rw[f] at h;split at h;{rename_i u k j;split at h;{rename_i s m;obtain⟨q,o⟩:=mY m;subst q;subst o;simp_all};cases h};cases h}
  .cases h
 .rename_i r g t n;split at h
  .rename_i c p;cases f:(Nat.beq c.aR g&&c.buf&&!c.lk&&!c.ro&&Nat.beq c.tid 0&&decide (t=0)) with
   | false=>rw[f] at h;cases h
   | true =>
     rw[f] at h;simp only[gO,Ez,A6] at f;split at h
     .rename_i u k j;split at h
      .rename_i s m;obtain⟨q,o⟩:=mY m;subst q;subst o;cases h;have x:=f.2;subst x;exact⟨p,gP f.1.1.1.1.1,f.1.1.1.1.2,f.1.1.1.2,f.1.1.2,gP f.1.2,_,j,.inr ⟨n,rfl,rfl⟩⟩
      .cases h
     .cases h
  .cases h
 .cases h
def Yx{mem}(h:bH B γ mem w){b aR m}{e:Ty}{l:List e.den}{n v}(z:mem b=aa m)(r:m.aR=aR)(c:m.buf=true)(J:m.ro=false)(f:m.val=.data (.slice e) l)
  (K:cQ γ mem w (.part b aR 0 n) .val [v]):yg w γ.I e (sub l 0 n) (γ.loc b) v/\0<e.size:=by
 obtain⟨V,k,D,W,X,Y,E,g,u,Z,k8,L,k9⟩:=bp z r K.2;rw[eF.ec c f] at D;obtain⟨rfl,rfl⟩:=eX (aI D);have p:=h.boxes b m z;unfold eL at p;rw[c] at p;obtain⟨e3,l3,F,M,j⟩:=p;rw[f] at F;cases F;refine⟨?_,M⟩;obtain u:=wD u;have hlen:(sub l 0 n).length=n.toNat:=by simp only[sub,dw,rV];omega
 rcases L.2 rfl c with ⟨s,rfl,rfl⟩|⟨q,s,rfl⟩
 .rcases j with ⟨j,y⟩|⟨q,A,t,tid,G,j,_⟩;{subst y;have:n.toNat=0:=ah;exact .inl ⟨s,by simp[sub],by rw[u,this]⟩}
  .grind
 .rcases j with ⟨j,y⟩|⟨H,A,t,tid,G,j,y,O,q6,q7,Q,R,C⟩;{grind};rw[s] at j;obtain⟨rfl,rfl⟩:=eX (aI j);refine .inr ⟨q,g,t,tid,G,s,by rw[hlen];exact u,y,O,ah,Q,R,λo S=>?_,λi x T=>C i x ?_⟩;{have:=(h.sep b m q g o z s S).1;grind};have U:((l.drop (0:Int).toNat).take n.toNat)[i]?=aa x:=T;grind
def Q3{e v b aR q l val}(k:bH B γ σ.mem w)(h:Bb e σ v=aa (b,aR,q,l))(m:cQ γ σ.mem w v .val [val]):yg w γ.I e l (γ.loc b) val/\0<e.size:=by
 obtain⟨o,c,f,r,j,p,s,g,i⟩:=vW h;rcases i with ⟨rfl,rfl⟩|⟨n,rfl,rfl⟩
 {exact ae9 k o c f j g m};exact Yx k o c f j g m
def zg{f s}(h:zN cx bf d f=aa s):find cx.QQ f=aa s:=by unfold zN at h;grind
def KY{f e i s}(E:qk P f (.clone e))(h:dG B N γ σ a w)(H:∀k,d=aa k->k<N)(J:mB γ σ.mem w i s.toList)
  (g:(nL nb e d i σ).run=aa aV) {K} (M:EX B N γ σ a w d aV K) : (∃t m,P.funcs[f]?=aa t/\(t.name == "runtime.NumGoroutine")=false/\t.body=aa m)/\Calls P f s w λe w'=>∃v,e=.returned v/\K (a.put d v) w':=by
 unfold nL at g;split at g
 case h_2=>cases g
 rename_i k x;split at g
 case h_2=>cases g
 rename_i l bO O;obtain⟨Q,g⟩:=aA g;obtain⟨n,g⟩:=cX g;obtain⟨aR,p,u⟩:=ed g;obtain rfl:=aI u;obtain⟨R,r,y,S,T⟩:=J.cons;have j:r=[]:=by have:=T.1;simpa using this
 subst j;obtain⟨z,A,U,V,W,X⟩:=oL h S O;refine⟨E.1,(E.2 z.I w s l (λb o Y=>A.ok.vQ b o Y) ⟨V,[],by rw[y,X],W,rfl⟩ n).mono λq w' Z=>?_⟩;obtain⟨v,I',L,rfl,h1,F,h3⟩:=Z;refine⟨v,rfl,?_⟩;obtain⟨m1,G⟩:=A.ok.Yv (vS:={ val:=.data _ l,tid:=0,buf:=true,ro:=false,lk:=false,aR }) (λ_ hf=>hf.elim) h1 F (λC c hl=>.inr (h3 C c hl))
  (λD h0=>.inl (p D h0)) rfl rfl rfl (by simpa using Q)
 exact M _ _ w' (A.step G m1 (H k rfl)<|F.rep aT (bE _ _) rfl rfl rfl) (U.trans G)
def PH{f e A res spec m R}(hs:qk P f (.own e A res spec))(h:dG B N γ σ a w)(hd:∀k,d=aa k->k<N)(hv:mB γ σ.mem w m R.toList)
  (i:(vb e A res spec d m σ).run=aa aV) {K} (hK:EX B N γ σ a w d aV K) : (∃S z,P.funcs[f]?=aa S/\(S.name == "runtime.NumGoroutine")=false/\S.body=aa z)/\Calls P f R w λe w'=>∃v,e=.returned v/\K (a.put d v) w':=by
 unfold vb at i;split at i
 case h_2=>cases i
 rename_i v0 vs;split at i
 case h_2=>cases i
 rename_i x bO hg;split at i
 case h_2=>cases i
 rename_i b T C l D;obtain⟨E,r,i⟩:=ck i;obtain⟨U,F,g,hlk,V,p,l0,G,s⟩:=vW D;obtain⟨W,H,X,g1,g2⟩:=hv.cons;obtain⟨t,y,Y,u⟩:=kR h g2 hg;obtain⟨J,he⟩:=Q3 y.ok D (g1.ext Y);refine⟨hs.1,(hs.2 t.I w R W H l E _ x (λb o hi=>y.ok.vQ b o hi) X J u r).mono λq w' hw=>?_⟩;obtain⟨I',h1,h2⟩:=hw;have hX:∀k,(∃c,t.loc b=aa _)->∃j c,bO.mem b=aa j/\j.ro=false/\t.loc b=aa (k,c):=λk ⟨c,hc⟩=>⟨C,c,U,V,hc⟩;cases res with
 | true =>
   cases d with
   | none=>cases i
   | some k =>
     obtain rfl:=aI i;obtain⟨v',L',rfl,Q,h4⟩:=h2;refine⟨v',rfl,?_⟩;obtain⟨m1,L⟩:=y.ok.Yv (b:=b) (vS:={ C with val:=.data (.slice e) E,aR:=T+1 }) hX h1 Q h4 (λj M=>by
      rw[U] at M;obtain rfl:=aI M;exact .inl (by simp[F])) rfl g p he
     exact hK _ _ w' (y.step L m1 (hd k rfl)<|Q.rep aT (bE _ _) rfl g rfl) (Y.trans L)
 | false =>
   have Z:sN v0=true/\aV=(bO.cD b { C with val:=.data (.slice e) E }).bu d (.Ct .nl):=by
    cases d with
    | none=>obtain⟨q1,q2⟩:=aA i;exact⟨q1,(aI q2).symm⟩
    | some k=>obtain⟨q1,q2⟩:=aA i;exact⟨q1,(aI q2).symm⟩
   obtain⟨hwh,rfl⟩:=Z;obtain rfl:l=l0:=by
    rcases s with ⟨_,q⟩|⟨n,rfl,_⟩
    .exact q
    .cases hwh
   obtain⟨rfl,O,Q⟩:=h2;refine⟨_,rfl,?_⟩;obtain⟨m1,L⟩:=y.ok.Yv (vS:={ C with val:=.data (.slice e) E }) hX h1 Q (λblk c hl=>.inl ⟨c,hl⟩) (λj M=>by
    rw[U] at M;obtain rfl:=aI M;exact .inr ⟨rfl,rfl,rfl,by rw[eF.ec g G,eF.ec (bx:={ C with val:=.data (.slice e) E }) g rfl,O]⟩) rfl g p he
   refine hK _ _ w' (y.bu L m1 hd ⟨#[],rfl,rfl⟩) ?_;cases d<;>exact Y.trans L
def PI(b:ql P B.G cx)(g:zf P B.G inl){f c q}(h:dG B N γ σ a w)(l:∀k,d=aa k->k<N)(m:mB γ σ.mem w c q.toList)
  (i:(xa cx nb bf inl d f c σ).run=aa aV) {K} (n:EX B N γ σ a w d aV K) : (∃o j,P.funcs[f]?=aa o/\(o.name == "runtime.NumGoroutine")=false/\o.body=aa j)/\Calls P f q w λe w'=>∃v,e=.returned v/\K (a.put d v) w':=by
 unfold xa at i;split at i
 .rename_i e p;exact KY (b.QQ f _<|zg p) h l m i n
 .rename_i e A r s p;exact PH (b.QQ f _<|zg p) h l m i n
 .exact SX b g h l m i n
def MT{o}{f:Nat}{g K Q}(i:(execOp a.eval o).run P w=(callFunc f g).run P w)
  (h:(∃c b,P.funcs[f]?=aa c/\(c.name == "runtime.NumGoroutine")=false/\c.body=aa b)/\Calls P f g w λe w'=>∃v,e=.returned v/\K (a.put o.dst v) w'):o.wp P a w K Q:=by
 obtain⟨⟨c,b,j,k,l⟩,m⟩:=h;unfold Oper.wp;rw[i,SW j k l];refine m.mono λe w' n=>?_
 grind
def Vx(K:ga P cx){t X:TypeId}{v x n}(L:bH B γ σ.mem w)(A:cQ γ σ.mem w v .val [x])(p:aax (find cx.T t) v=true)(f:lenOf σ v=aa n) :
  (Builtin.len_ #[t] X #[x]).run P w=.ok (goInt n) w/\IntKind.i64.min<=n/\n<=IntKind.i64.max:=by
 have Y:maxLen<=IntKind.i64.max:=aF;have Z:IntKind.i64.min<=0:=aF;have h:∀{base m c},(∃e,find cx.T t=aa (.slice e))->x=.slice base m c->n=m->m<=maxLen->(Builtin.len_ #[t] X #[x]).run P w=.ok (goInt n) w/\IntKind.i64.min<=n/\n<=IntKind.i64.max:=by intro base m c M hx hn L;obtain⟨e,M⟩:=M;obtain⟨O,Q,_⟩:=(K.T _ _ M).slice;subst hx;subst hn;refine⟨?_,ah,ah⟩;simp[Builtin.len_,run_underlying Q]
 have i:∀{o:Option Ty},(match o with|some (.slice _)=>true|_=>false)=true->∃e,o=aa (.slice e):=by grind
 cases v with|data u y =>(cases u with|str =>(obtain⟨rfl,C⟩:=zQ A;obtain rfl:=aI f;have e1:(⟨List.toArray y⟩:ByteArray).size=List.length y:=by show(List.toArray y).size=_;grind);refine⟨?_,?_,?_⟩;{simp only[Builtin.len_];simp[run_underlying<|(K.T _ _<|j7 p).str,e1,len]};{simp only[len];omega};simp only[len];omega|slice e =>(obtain rfl:=aI f;obtain⟨cs,D,C⟩:=et.1 A;rcases D with ⟨⟨_,D⟩,R⟩|⟨E,off,q,D,R,h4,_⟩;{rw[D] at C;exact h ⟨e,j7 p⟩ C (by rw[R];rfl) (pq _)};rw[D] at C;exact h ⟨e,j7 p⟩ C rfl (fB R h4))|arr m e =>(obtain⟨O,Q,_⟩:=(K.T _ _<|j7 p).arr;simp only[lenOf] at f;cases j:Nat.ble m 4294967296 with|false=>rw[j] at f;cases f|true =>rw[j] at f;obtain rfl:=aI f;have:=KF j;have h9:4294967296<=IntKind.i64.max:=aF;refine⟨by simp[Builtin.len_,run_underlying Q],ah,ah⟩)|_=>cases f)|qw =>(obtain rfl:=aI f;obtain rfl:x=_:=by simpa [cQ] using A);exact h (i p) rfl rfl (pq _)|whole b aR =>simp only[lenOf] at f;split at f;{rename_i F j;cases g:(Nat.beq F.aR aR&&F.buf) with|false=>rw[g] at f;cases f|true =>rw[g] at f;simp only[gO] at g;split at f;{rename_i u l r;obtain rfl:=aI f;obtain⟨e',k,S,U,G⟩:=bp j (gP g.1) A.2;rw[eF.ec S r] at U;obtain⟨rfl,rfl⟩:=eX (aI U);rcases G with ⟨G,H⟩|⟨E,q,G,H⟩;{have I:=L.boxes b F j;rw[eL,S] at I;obtain⟨e3,l3,V,q2,z⟩:=I;rw[r] at V;cases V;rcases z with ⟨_,z⟩|⟨E,q,W,tid,fr,z,_⟩;{exact h (i p) (wD H) (by rw[z];rfl) (pq _)};grind};obtain⟨W,tid,fr,V,q2,z,q4,_⟩:=((L.boxes b F j).row G).1 _ l S r;exact h (i p) (wD H) rfl (fB z q4)};cases f};cases f|part b aR lo n' =>(simp only[lenOf] at f;cases s:live σ b aR with|false=>rw[s] at f;cases f|true =>rw[s] at f;obtain rfl:=aI f;obtain⟨F,j,J⟩:=lL s;obtain⟨e',k,U,G,H,g5,base,q,g6,g7,g8,gF,g9⟩:=bp j J A.2;exact h (i p) (wD g6) (aek H).symm (fB g7 g8))|_=>cases f
def fo.take{w I e l cs}(h:fo w I e l cs) k:fo w I e (l.take k) (cs.take<|k*e.size):=by
 intro i x b;rw[kn] at b;split at b
 {rename_i c;have f:_*e.size<=k*e.size:=ic _ c;rw[KJ] at f;rw[aau,Pw,xY ah];exact h i x b};cases b
def fo.drop{w I e l cs}(h:fo w I e l cs) k:fo w I e (l.drop k) (cs.drop<|k*e.size):=by intro i x b;rw[vM] at b;rw[A7,<-iW];exact h _ x b
def J2{α}{l m:List α}{b:Int}(c:0<=b)(h:b+m.length<=l.length):(over l b m).length=l.length:=by simp only[over,iU,dw,rV];omega
def fo.over{w I e l m cs news}{lo:Int}(h:fo w I e l cs)(n:fo w I e m news)(f:news.length=m.length*e.size)(s:0<=lo)
  (t:lo+m.length<=l.length) (u:l.length*e.size<=cs.length):fo w I e (over l lo m) (ba cs (lo.toNat*e.size) news):=by
 have o:(lo.toNat+m.length)*e.size<=l.length*e.size:=ic _ ah;rw[iW] at o;have k:=(h.take lo.toNat).append (rest:=[]) n (by rw[dw,dw,xY ah,xY ah]) f;rw[uC] at k;have p:ba cs (lo.toNat*e.size) news=cs.take (lo.toNat*e.size)++news++cs.drop ((lo.toNat+m.length)*e.size):=by simp only[ba,f,iW]
 rw[p];intro i x g;by_cases b:(lo.toNat+m.length)*e.size+(l.length-(lo.toNat+m.length))*e.size=l.length*e.size
 .have q:fo w I e (Go.Ge.over l lo m) (cs.take (lo.toNat*e.size)++news++(cs.drop<|(lo.toNat+m.length)*e.size)):=by intro i x g;by_cases j:i<lo.toNat+m.length;{(have c:(l.take lo.toNat++m)[i]?=aa x:=by simp only[Go.Ge.over] at g;grind);rw[pz<|by rw[iU,dw,f,xY ah,<-iW];exact(ic _ j)];exact k i x c};(have c:(l.drop<|lo.toNat+m.length)[i-(lo.toNat+m.length)]?=aa x:=by simp only[Go.Ge.over] at g;grind);(have:=h.drop _ _ x c;have r:i*e.size=(cs.take (lo.toNat*e.size)++news).length+(i-(lo.toNat+m.length))*e.size:=by rw[iU,dw,f,xY ah,<-iW,<-iW];congr 1;omega);rw[r,<-A7];grind
  exact q i x g
 .exact absurd (by rw[<-iW];congr 1;omega) b
def yh(h:dG B N γ σ a w){e m b aR q chk lo base news}
  (hr:(lK e m b aR q chk lo σ).run=aa aV) (hE:fo w γ.I e m news) (hn:news.length=m.length*e.size) (X:∀u∈news,u.oneCell'=true) (h0:0<=lo) (Y:∀bx (l:List e.den),σ.mem b=aa bx->bx.aR=aR->bx.buf=true->bx.val=.data (.slice e) l->q=[]->lo+m.length<=l.length) (Z:∀bx k (l:List e.den),σ.mem b=aa bx->bx.aR=aR->bx.buf=false->(nav q bx.val).run=aa (.data (.arr k e) l)->chk k e=true->lo+m.length<=k) (K:m=[]\/∃g c,γ.loc b=aa (g,c)/\base=aa ⟨g,er q+lo.toNat*e.size,af⟩) : ∃w',(match base with|some ad=>storeCells ad news|none=>pure ()).run P w=.ok () w'/\dG B N γ aV a w'/\Ext B γ σ.mem w γ aV.mem w':=by
 unfold lK at hr;split at hr
 case h_2=>cases hr
 rename_i bx hb;obtain⟨hcd,o⟩:=aA hr;simp only[gO,Ez] at hcd;obtain⟨⟨p,hlk⟩,hro⟩:=hcd;have p:=gP p;have s:=h.ok.boxes b bx hb;have G:m=[]->news=[]:=λU=>by subst U;simpa using hn
 have H:m=[]->(match base with|some ad=>storeCells ad news|none=>pure ()).run P w=.ok () w:=λU=>by rw[G U];cases base<;>rfl
 have r:∀g c f tid y,γ.loc b=aa (g,c)->w.heap[g]?=aa (.cells f tid y)->nY f y->er q+lo.toNat*e.size+news.length<=f.size ->
   (match base with|some ad=>storeCells ad news|none=>pure ()).run P w=.ok () (w.setRow g (ba f.toList (er q+lo.toNat*e.size) news).toArray):=by
  intro g c f tid y hl V hth L;rcases K with U|⟨MJ,c',hl',rfl⟩
  .rw[H U,G U];simp only[ba,uC,qv,Gr,Gp];rw[setRow_self w g f tid y V]
  .rw[hl] at hl';have:=dB (P:=P) g _ tid y news 0 f w V hth ah X
   grind
 split at o
 .rename_i j;split at o
  case h_2=>cases o
  rename_i u l D;split at o
  case h_2=>cases o
  rename_i E M;obtain rfl:=aI o;obtain⟨hq,O⟩:=mY M;subst hq;obtain rfl:E=m:=O;have L:=Y bx l hb p j D rfl;have hlen:=J2 h0 L;unfold eL at s;rw[j] at s;obtain⟨e2,l2,j1,j2,j3⟩:=s;rw[D] at j1;cases j1;have Q:({ bx with val:=.data (.slice e) (over l lo E) }:eF).row=bx.row:=by
   rw[eF.ec j D];exact(eF.ec (bx:=⟨.data (.slice e) _,bx.tid,bx.buf,bx.ro,bx.lk,bx.aR⟩) j rfl).trans (by rw[hlen])
  rcases j3 with ⟨J,R⟩|⟨g,t,f,tid,y,J,R,k3,z,k4,k5,k6,k7⟩
  .subst R;have hm0:E=[]:=by
    grind
   subst hm0;have e1:σ.cD b { bx with val:=.data (.slice e) (over ([]:List e.den) lo []) }=σ:=by
    have:({ bx with val:=.data (.slice e) (over ([]) lo []) }:eF)=bx:=by
     cases bx;subst D;simp[over]
    simp only[St.cD]
    congr 1
    funext i;by_cases hi:i=b
    .grind
    .simp[ja hi]
   rw[e1];exact⟨w,H rfl,h,Ext.refl _ _ _ _⟩
  .have n:er ([])+lo.toNat*e.size+news.length<=f.size:=by
    have:(lo.toNat+E.length)*e.size<=t*e.size:=ic _ ah;rw[iW] at this;simp only[er];omega
   have hst:=r g t f tid y J R k3.th n;have v:(ba f.toList (lo.toNat*e.size) news).toArray.size=f.size:=by have:=bQ (by simp only[er] at n;omega);simpa using this
   obtain⟨m1,m2⟩:=h.ok.write hb hro J R (cur':=(ba f.toList _ news).toArray) v Q
    (λw' mem' W V=>by
     simp only[j];refine⟨e,_,rfl,j2,.inr ⟨g,t,_,tid,y,J,V,k3.same v,z,by rw[hlen];exact k4,k5,by rw[v];exact k6,?_⟩⟩;intro i x hx';have:=fo.over k7 hE hn h0 L (by show _<=f.size;rw[k6];exact ic _ k4) i x hx';simpa using bL.mono W.I W.cells this)
   simp only[er,Cx] at hst;exact⟨_,hst,h.go m2 m1,m2⟩
 .rename_i j;obtain⟨old,F,S⟩:=bind_some o;split at S
  case h_2=>cases S
  rename_i k u l;obtain⟨hck,T⟩:=aA S;split at T
  case h_2=>cases T
  rename_i E M;obtain⟨c,hs,hr5⟩:=bind_some T;obtain rfl:=aI hr5;obtain⟨hq,O⟩:=mY M;subst hq;obtain rfl:E=m:=O;unfold eL at s;rw[j] at s;obtain⟨g,t,f,tid,y,J,R,k3,z,k4⟩:=s;obtain⟨p1,p2⟩:=zc k4 F;obtain⟨r1,r2,r3⟩:=p2;have hll:lo+E.length<=(List.length l):=by rw[r1];exact(Z bx k l hb p j F hck)
  have ana:(lo.toNat+E.length)*e.size<=k*e.size:=ic _ ah;rw[iW] at ana;have n:er q+lo.toNat*e.size+news.length<=f.size:=by have p1':er q+k*e.size<=f.size:=p1;omega
  have A:((f.toList.drop _).take<|k*e.size).length=k*e.size:=r2;have C:lo.toNat*e.size+news.length<=((f.toList.drop<|er q).take<|k*e.size).length:=ah;have anb:bL w γ.I (.arr k e) (over l lo E) (ba ((f.toList.drop<|er q).take<|k*e.size) (lo.toNat*e.size) news):=by
   refine⟨(J2 h0 hll).trans r1,by rw[bQ C,A],?_⟩;exact fo.over r3 hE hn h0 hll (by rw[A];exact EO (by rw[r1]))
  have Q:=JZ (by rw[j];exact hs) λhp _=>by
   subst hp;rw[eF.sV j<|aI F];exact eF.sV j rfl
  have v:(ba f.toList (er q+lo.toNat*e.size) news).toArray.size=f.size:=by have:=bQ n;simpa using this
  obtain⟨m1,m2⟩:=h.ok.write hb hro J R (cur':=(ba f.toList _ news).toArray) v Q
   (λw' mem' W V=>by
    simp only[j];refine⟨g,t,_,tid,y,J,V,k3.same v,z,?_⟩;have:=Bf (k4.ext W) F hs (bL.mono W.I W.cells anb) (by rw[bQ C,A];rfl);rw[(ve f.toList _ _ (k*e.size) news ah p1)] at this;simpa using this)
  exact⟨_,(r g t f tid y J R k3 n),h.go m2 m1,m2⟩
def GW{e L t V r}(h:dG B N γ σ a w)(hv:cQ γ σ.mem w t .val [V])(M:(Ik e L t σ).run=aa r) :
  ∃g o,V=.slice g r.1.toNat o/\0<=r.1/\∀i,fo w γ.I e (L r.1) i->i.length=(L r.1).length*e.size->(∀u∈i,u.oneCell'=true)->(L r.1).length<=r.1.toNat ->∃w',(match g with|some ad=>storeCells ad i|none=>pure ()).run P w=.ok () w'/\dG B N γ r.2 a w'/\Ext B γ σ.mem w γ r.2.mem w':=by
 unfold Ik at M;split at M
 .rename_i b G lo n;obtain⟨bO,f,H⟩:=bind_some M;obtain rfl:=aI H;have p:∃z,σ.mem b=aa z/\z.aR=G:=by unfold lK at f;split at f;{rename_i z A;obtain⟨W,_⟩:=aA f;simp_all};cases f
  obtain⟨z,A,v⟩:=p;obtain⟨e',k,Q,R,S,g5,g,o,g6,g7,g8,gF,T⟩:=bp A v hv.2;refine⟨g,o,by simpa using g6,S,λi X hn x Y=>?_⟩;refine yh h f X hn x R (λJ l C _ s m _=>?_) (λJ k' l C _ s F _=>?_) ?_;{obtain rfl:=aI (A.symm.trans C);rw[eF.ec s m] at Q;grind};{obtain rfl:=aI (A.symm.trans C);have m:=aI F;rw[eF.sV s m] at Q;grind};rcases T with T|⟨y,c,T,Z⟩;{grind};by_cases hm:L n=[];{grind};(right;have he:e'=e:=by unfold lK at f;rw[A] at f;obtain⟨_,j⟩:=aA f;split at j;{rename_i s;split at j;(case h_2=>cases j);rename_i u l m;split at j;(case h_2=>cases j);rename_i m' D;obtain⟨hq,_⟩:=mY D;rw[eF.ec s m] at Q;grind};rename_i s;obtain⟨old,F,E⟩:=bind_some j;split at E;(case h_2=>cases E);rename_i k' u l;obtain⟨_,K⟩:=aA E;split at K;(case h_2=>cases K);rename_i m' D;obtain⟨hq,_⟩:=mY D;have m:=aI F;rw[eF.sV s m] at Q;grind);subst he;exact⟨y,c,T,by rw[Z];simp[er]⟩
 .rename_i b G;split at M;case h_2=>cases M
  rename_i n O;obtain⟨bO,f,H⟩:=bind_some M;obtain rfl:=aI H;have p:∃z,σ.mem b=aa z/\z.aR=G:=by unfold lK at f;split at f;{rename_i z A;obtain⟨W,_⟩:=aA f;simp_all};cases f
  obtain⟨z,A,v⟩:=p;obtain⟨e',k,g1,Q,R⟩:=bp A v hv.2;have hbx:=h.ok.boxes b z A;have hl:∃l,z.val=.data (.slice e) l/\n=l.length:=by unfold lK at f;rw[A] at f;obtain⟨_,j⟩:=aA f;split at j;{split at j;(case h_2=>cases j);rename_i u l hq0 m;split at j;(case h_2=>cases j);rename_i m' D;obtain⟨hq,_⟩:=mY D;subst hq;refine⟨l,m,?_⟩;simp only[lenOf,A,v,g1,aeD,m] at O;exact(aI O).symm};grind
  obtain⟨l,m,rfl⟩:=hl;rw[eF.ec g1 m] at Q;obtain⟨rfl,rfl⟩:=eX (aI Q);have fin:∀{g o},V=.slice g l.length o->(l.length=0\/∃y c,γ.loc b=aa (y,c)/\g=aa ⟨y,0,af⟩) ->
    ∃g o,V=.slice g (l.length:Int).toNat o/\0<=l.length/\∀i,fo w γ.I e (L l.length) i->i.length=(L l.length).length*e.size->(∀u∈i,u.oneCell'=true)->(L l.length).length<=(l.length:Int).toNat ->∃w',(match g with|some ad=>storeCells ad i|none=>pure ()).run P w=.ok () w'/\dG B N γ bO a w'/\Ext B γ σ.mem w γ bO.mem w':=by
   intro g o htv hb0;refine⟨g,o,by simpa using htv,ah,λi X hn x Y=>?_⟩;refine yh h f X hn x ah (λJ l' C _ s apV _=>?_) (λJ k' l' C _ s F _=>?_) ?_
   .grind
   .grind
   .rcases hb0 with hb0|⟨y,c,q1,q2⟩
    .simp_all
    .right;exact⟨y,c,q1,by rw[q2];simp[er]⟩
  rcases R with ⟨R,S⟩|⟨y,o,R,S⟩
  .obtain S:V=_:=by simpa using S
   rw[eL] at hbx
   grind
  .grind
 .rename_i b G q u k lo n;obtain⟨bO,f,H⟩:=bind_some M;obtain rfl:=aI H;have p:∃z,σ.mem b=aa z/\z.aR=G:=by
   unfold lK at f;split at f
   .rename_i z A;obtain⟨W,_⟩:=aA f;simp_all
   .cases f
  obtain⟨z,A,v⟩:=p;obtain⟨hq,y,c,g1,R,S,g5,g,o,g6,g7,T⟩:=bp A v hv.2;refine⟨g,o,by simpa using g6,S,λi X hn x Y=>?_⟩;refine yh h f X hn x R (λJ l C _ s m hq0=>absurd hq0 hq) (λJ k' l C _ s F U=>?_) ?_
  .simp_all;omega
  .rcases T with T|Z
   .grind
   .by_cases hm:L n=[]
    .grind
    .right;have he:u=e:=by
      unfold lK at f;rw[A] at f;obtain⟨_,j⟩:=aA f;split at j
      .split at j
       .grind
       .cases j
      .obtain⟨old,F,E⟩:=bind_some j;split at E
       case h_2=>cases E
       obtain⟨U,K⟩:=aA E;split at K
       case h_2=>cases K
       rename_i m' D;obtain⟨hq',_⟩:=mY D;simp at U;exact(Ty.eq_of_beq U.2).trans hq'.symm
     grind
 .cases M
def MU{I e m v}(h:CI w I e m v) n (hn:n<=m.length) :
  ∃b,(Builtin.firstCells e.size n v).run P w=.ok b.toArray w/\b.length=n*e.size/\(∀u∈b,u.oneCell'=true)/\fo w I e (m.take n) b/\(Builtin.lenOf v).run P w=.ok m.length w:=by
 rcases h with ⟨rfl,g,c,k,q,r⟩|⟨s,t,c,k,q,r,y⟩
 .obtain rfl:n=0:=by simpa using hn
  subst k;refine⟨[],?_,aT,λu z=>absurd z aT,λi x f=>absurd f aT,rfl⟩;cases g with|none=>rfl|some A=>exact run_firstCells_some w e.size 0 A 0 c [] aT (λj v o=>by cases o)
 .obtain⟨b,p,C,D,E⟩:=Fz (l:=m.take n) λi x f=>by rw[kn] at f;split at f;{exact y i x f};cases f
  rw[dw,xY hn] at p;refine⟨b,?_,p,D,E,by rw[k];rfl⟩;rw[k];exact run_firstCells_some w e.size n _ m.length c b p (λj u o=>by rw[addr_add];exact C j u o)
def MV{I s} n (hn:n<=s.length) :
  ∃e,(Builtin.firstCells 1 n<|.string ⟨s.toArray⟩).run P w=.ok e.toArray w/\e.length=n/\(∀u∈e,u.oneCell'=true)/\fo w I (.int .u8) ((ax s).take n:List Int) e/\(Builtin.lenOf<|.string ⟨s.toArray⟩).run P w=.ok (ax s).length w:=by
 refine⟨(s.take n).map λb=>Value.int .u8 b.toNat,?_,by simp[hn],λu h=>?_,λi x l=>?_,?_⟩
 .simp only[Builtin.firstCells];simp_all
 .obtain⟨_,_,rfl⟩:=Mo.1 h;rfl
 .have c:((ax s).take n)[i]?=aa x:=l;rw[kn] at c;split at c
  .rename_i m;simp only[ax,KI] at c;cases g:s[i]? with
   | none=>rw[g] at c;cases c
   | some b =>
     rw[g] at c;obtain rfl:_=x:=aI c;refine⟨?_,SS b⟩;apply KH;intro j;rw[kn];split
     .rename_i f;obtain rfl:j=0:=by simp[Ty.size] at f;exact f
      simp[Ty.size,g,m]
     .rename_i f;obtain⟨k,rfl⟩:∃k,j=k+1:=⟨j-1,by simp[Ty.size] at f;omega⟩;simp
  .grind
 .simp[Builtin.lenOf,ax,ByteArray.size]
def Ax s:(ax s).length=s.length:=zK ..
def afb{s n}(h:n<=(ax s).length):n<=s.length:=by rw[Ax] at h;exact h
def Yy(g:bH B γ σ.mem w){e m x v}(f:cQ γ σ.mem w x .val [v])(h:zM e σ x=aa m) n (hn:n<=m.length) :
  ∃b,(Builtin.firstCells e.size n v).run P w=.ok b.toArray w/\b.length=n*e.size/\(∀u∈b,u.oneCell'=true)/\fo w γ.I e (m.take n) b/\(Builtin.lenOf v).run P w=.ok m.length w:=by
 unfold zM at h;split at h
 .rename_i t;obtain⟨q,i⟩:=mY h;subst q;subst i;obtain⟨j,_⟩:=zQ f;rw[j];have c:n<=List.length t:=afb hn;obtain⟨b,k,l,o,p,r⟩:=MV n c;exact⟨b,k,by rw[l];simp[Ty.size],o,p,r⟩
 .exact MU (uG g f h) n hn
def MW(C:ga P cx){u tx ty t x}(h:dG B N γ σ a w)(D:∀k,d=aa k->k<N)(c:(Al cx d u (dd σ t) (dd σ x) σ).run=aa aV) :
  py P B N γ σ a w d (Builtin.copy_ #[u,tx] ty #[a.eval t,a.eval x]) aV:=by
 unfold Al at c;split at c
 case h_2=>cases c
 rename_i e E;split at c
 case h_1=>cases c
 rename_i m f;obtain⟨r,l,n⟩:=bind_some c;obtain rfl:=aI n;obtain⟨F,G,H,V,W⟩:=(C.T _ _ E).slice;obtain⟨g,o,I,X,J⟩:=GW (P:=P) h (h.dd t) l;have hlen:(mZ m r.1).length=Nat.min m.length r.1.toNat:=by
  simp only[mZ,dw];apply Nat.min_comm
 obtain⟨i,K,L,M,y,O⟩:=Yy (P:=P) h.ok (h.dd x) f _ (Nat.min_le_left _ _);have b:(m.take<|Nat.min m.length r.1.toNat)=mZ m r.1:=by
  simp only[mZ]
  grind
 rw[b] at y;obtain⟨w',j,Q,R⟩:=J i y (by rw[L,hlen]) M (by rw[hlen];apply Nat.min_le_right);have z:(mZ m r.1).length<=maxLen:=by
  rcases aaq (mZ m r.1).length with S|S
  .omega
  .rw[hlen];refine fB (Nat.min_le_left _ _) ?_;have hv:=h.dd x;unfold zM at f;split at f
   .rename_i s hs;obtain⟨q,U⟩:=mY f;subst q;subst U;rw[hs] at hv;obtain⟨_,A⟩:=zQ hv;exact fB (EO<|Ax s) A
   .rcases uG h.ok hv f with ⟨rfl,_⟩|⟨_,_,o,_,A,Y,_⟩
    .grind
    .grind
 refine⟨goInt (mZ m r.1).length,w',γ,?_,?_,?_⟩
 .have p:=H.sizeOf w;simp only[Builtin.copy_,I];simp only[ajm,ajj,ajk,Sem.run_bind,run_underlying G,Result.andThen_ok,O,p,K,hlen];cases g with
  | none=>injection j with _ j;subst j;rfl
  | some Z=>simp only[Sem.run_bind,j,Result.andThen_ok,Sem.run_pure]
 .have h9:maxLen<=IntKind.i64.max:=aF;have h8:IntKind.i64.min<=0:=aF;have:=Q.ya D (v:=.data (.int .i64) (len _)) (val:=goInt (mZ m r.1).length) (mkInt ⟨by simp only[len];omega,by simp only[len];omega⟩)
  grind
 .cases d<;>exact R
def KZ(q:ga P cx){n ty t}(h:dG B N γ σ a w)(g:(Am cx n (dd σ t) σ).run=aa aV) :
  py P B N γ σ a w af (Builtin.clear_ #[n] ty #[a.eval t]) aV:=by
 unfold Am at g;split at g
 case h_2=>cases g
 rename_i e s;obtain⟨r,k,l⟩:=bind_some g;obtain rfl:=aI l;obtain⟨v,y,A,L,C⟩:=(q.T _ _ s).slice;obtain⟨c,D,E,M,F⟩:=GW (P:=P) h (h.dd t) k;have hlen:(lh r.1 e.zero).length=r.1.toNat:=by simp[lh]
 obtain⟨z,O,o⟩:=A.zero w;have f:=nM w γ.I (.arr r.1.toNat e);have j:(Builtin.zeroCells z.cells r.1.toNat).toList=gH (.arr r.1.toNat e):=by
  have m:z.cells.size=e.size:=by rw[<-eo e,<-o];simp
  rw[<-(yf o C r.1.toNat)];simp only[Builtin.zeroCells,madeCells,m]
 obtain⟨w',b,G,H⟩:=F _ (λi x J=>f.2.2 i x J) (by rw[eo,hlen];rfl) (λu K=>f.one u K) (EO hlen);refine⟨.tuple #[],w',γ,?_,G,H⟩;simp only[Builtin.clear_,E];simp only[ajm,ajj,Sem.run_bind,run_underlying y];cases c with
 | none=>injection b with _ b;subst b;rfl
 | some Q =>
   by_cases p:r.1.toNat=0
   .have:gH (.arr r.1.toNat e)=[]:=List.eq_nil_of_length_eq_zero (by rw[eo];simp[Ty.size,p]);rw[this] at b;injection b with _ b
    rw[p];simp_all
   .simp_all
def GX{least p q r u v}(h:cQ γ σ.mem w p .val [u])(i:cQ γ σ.mem w q .val [v])(f:(SE least p q).run=aa r) :
  ∃z,((if least then Builtin.min2 u v else Builtin.max2 u v)).run P w=.ok z w/\cQ γ σ.mem w r .val [z]:=by
 unfold SE at f;split at f
 .rename_i k n l m;obtain⟨j,g⟩:=aA f;obtain rfl:=Ak j;obtain rfl:=aI g;obtain⟨rfl,c⟩:=wE h;obtain⟨rfl,e⟩:=wE i;have cmp:∀n m,k.min<=n/\n<=k.max->k.min<=m/\m<=k.max->cQ γ σ.mem w (.data (.int k)<|ajM n m) .val [.int k<|if m<n then m else n]/\cQ γ σ.mem w (.data (.int k)<|imax n m) .val [.int k<|if m > n then m else n]:=by intro n m c e;constructor;{unfold ajM;by_cases b:m<n;{simp only[b];exact mkInt e};simp only[b,decide_false,Cp];exact mkInt c};unfold imax;by_cases b:n<m;{simp only[b];exact mkInt e};simp only[b];exact mkInt c
  cases least with|true=>exact⟨_,rfl,(cmp n m c e).1⟩|false=>exact⟨_,rfl,(cmp n m c e).2⟩
 .cases f
end
end Go.Ge
namespace Go.Ge
open RowKit
section
variable {P:Program} {B:CG} {N:Nat} {γ:Gh} {σ aV:St} {a:Act} {w w':World} {d:Option Nat} {cx:Ctx} {nb:Nat} {bf:List Nat} {inl:Nat->List cw->St->Tree (cw×St)}
def SY{f:Operand->cw}{l x}(h:l.map f=[x]):∃o,l=[o]/\f o=x:=by simp_all
def LL{f:Operand->cw}{l x y}(h:l.map f=[x,y]):∃o p,l=[o,p]/\f o=x/\f p=y:=by cases l with|nil=>cases h|cons o r =>obtain⟨p,b,c⟩:=SY (by simp at h⊢;exact h.2);grind
def fX{b:Type}{a:Array b}{l}(h:a.toList=l):a=l.toArray:=by rw[<-h]
def ab6{α}(k:Value->Array Value->Sem α) x b:(match(#[x]++b)[0]? with|some recv=>k recv ((#[x]++b).extract 1 (#[x]++b).size)|x=>stuck "call: a method without a receiver")=k x b.toList.toArray:=by
 have c:(#[x]++b)[0]?=aa x:=by rw[<-aee,aam];rfl
 simp_all
def Yz(L:ga P cx)(E:ql P B.G cx)(V:zf P B.G inl){o:Oper}{c}(C:o.op=.call c)(h:dG B N γ σ a w)(H:∀k,o.dst=aa k->k<N)
  (j:(x7 cx nb bf inl o.dst o.type c σ).run=aa aV) {K} {Q} (D:EX B N γ σ a w o.dst aV K):o.wp P a w K Q:=by
 unfold x7 at j;split at j
 .rename_i b g;split at j
  ·
   rename_i x t p J;obtain⟨m,l,rfl⟩:=SY p;cases M:aax _ _ with
   | false =>
     rw[M] at j;simp at j;split at j
     .rename_i e b aR q u k lo n he p;obtain⟨hl,i⟩:=aA j;simp at hl;obtain rfl:=aI i;obtain⟨bx,hbx,W⟩:=lL hl.1;have hv:=h.dd m;rw[p] at hv;obtain⟨_,blk,c',g1,g2,g3,g4,base,cap,g5,g6,g7⟩:=bp hbx W hv.2;refine ca (s:=Builtin.len_ c.argTypes o.type (c.args.map a.eval)) ?_ (bM h H (x:=.int .i64 n) ?_<|mkInt ⟨Int.le_trans aF g3,Int.le_trans hl.2 aF⟩) D
      .unfold execOp;simp only[C,resolve,g,invoke,builtin];rfl
      .rw[fX l,fX J,show Array.map a.eval [m].toArray=#[a.eval m] from aT,g5];simp[Builtin.len_,run_underlying (Bh L he).1,aek g3];rfl
     .exact absurd j cp
   | true =>
   have i:(match lenOf σ (dd σ m) with|some n=>Tree.ret (σ.bu o.dst<|.data (.int .i64) n)|none=>.fail).run=aa aV:=by rw[M] at j;exact j
   split at i
   .rename_i n hn;obtain rfl:=aI i;obtain⟨l1,l2⟩:=Vx L h.ok (h.dd m) M hn;refine ca (s:=Builtin.len_ c.argTypes o.type (c.args.map a.eval)) ?_ (bM h H ?_<|mkInt l2) D
    .unfold execOp;simp only[C,resolve,g,invoke,builtin];rfl
    .rw[fX l,fX J,show Array.map a.eval [m].toArray=#[a.eval m] from aT];exact l1
   .exact absurd i cp
  .rename_i s x t u p J;obtain⟨os,m,l,rfl,rfl⟩:=LL p;have key:(∃e,P.underlying u=aa (.slice e))\/P.underlying u=aa .string->(iZ cx nb o.dst t (dd σ os) (dd σ m) σ).run=aa aV->o.wp P a w K Q:=by
    intro hk i;refine ca (s:=Builtin.append_ c.argTypes o.type (c.args.map a.eval)) ?_ ?_ D
    .unfold execOp;simp only[C,resolve,g,invoke,builtin];rfl
    .rw[fX l,fX J,show Array.map a.eval [os,m].toArray=#[a.eval os,a.eval m] from aT];exact IA L h H hk i
   split at j
   .rename_i hu;exact key (.inr (L.T _ _ hu).str) j
   .rename_i e hu;obtain⟨eid,f1,_⟩:=(L.T _ _ hu).slice
    grind
   .exact absurd j cp
  .rename_i t x tt tx p J;obtain⟨U,m,l,rfl,rfl⟩:=LL p;have key:(Al cx o.dst tt (dd σ U) (dd σ m) σ).run=aa aV->o.wp P a w K Q:=by
    intro i;refine ca (s:=Builtin.copy_ c.argTypes o.type (c.args.map a.eval)) ?_ ?_ D
    .unfold execOp;simp only[C,resolve,g,invoke,builtin];rfl
    .rw[fX l,fX J,show Array.map a.eval [U,m].toArray=#[a.eval U,a.eval m] from aT];exact MW L h H i
   split at j
   .grind
   .grind
   .exact absurd j cp
  .rename_i t tt p J;obtain⟨U,l,rfl⟩:=SY p;split at j
   .rename_i X;refine ca (s:=Builtin.clear_ c.argTypes o.type (c.args.map a.eval)) ?_ ?_ D
    .unfold execOp;simp only[C,resolve,g,invoke,builtin];rfl
    .rw[fX l,fX J,show Array.map a.eval [U].toArray=#[a.eval U] from aT,X];exact KZ L h j
   .exact absurd j cp
  .rename_i x y p;obtain⟨m,Y,l,rfl,rfl⟩:=LL p;obtain⟨v,hb,i⟩:=bind_some j;obtain rfl:=aI i;obtain⟨z,Z,z2⟩:=GX (P:=P) (h.dd m) (h.dd Y) hb;refine ca (s:=Builtin.min_ c.argTypes o.type (c.args.map a.eval)) ?_ (bM h H (x:=z) ?_ z2) D
   .unfold execOp;simp only[C,resolve,g,invoke,builtin];rfl
   .rw[fX l,show Array.map a.eval [m,Y].toArray=#[a.eval m,a.eval Y] from aT];simp at Z;simp[Builtin.min_,Z]
  .rename_i x y p;obtain⟨m,Y,l,rfl,rfl⟩:=LL p;obtain⟨v,hb,i⟩:=bind_some j;obtain rfl:=aI i;obtain⟨z,Z,z2⟩:=GX (P:=P) (h.dd m) (h.dd Y) hb;refine ca (s:=Builtin.max_ c.argTypes o.type (c.args.map a.eval)) ?_ (bM h H ?_ z2) D
   .unfold execOp;simp only[C,resolve,g];rfl
   .rw[fX l];simp at Z;simp[Builtin.max_,Z]
  .exact absurd j cp
 .rename_i f g;split at j
  .rename_i fid abT hf;obtain⟨O,i⟩:=aA j;have hv:=h.dd f;rw[hf] at hv;obtain⟨R,v1,v2,v3⟩:=hv;have S:=Q2 (w:=w) (F:=fid) (arr:=R) ⟨R,rfl,v2,v3⟩ O;obtain v1:=wD v1;have A:mB γ σ.mem w (c.args.toList.map (dd σ)++abT.map λb=>.ptr b.1 b.2 []) (c.args.map a.eval++R).toList:=by
    rw[aam,aep];exact(Q1 h).append S
   refine MT ?_ (PI E V h H A i D);unfold execOp;simp only[C,resolve,g,Deferred.ofValue,v1,invoke];simp
  .exact absurd j cp
 ·
  rename_i r name g;unfold uE at j;split at j
  .rename_i cn hcn;split at j
   .rename_i x bO p;obtain⟨y,hy,i⟩:=ck j;obtain rfl:=aI i;have A:mB γ σ.mem w (dd σ r::c.args.toList.map (dd σ)) (a.eval r::(c.args.map a.eval).toList):=by
     rw[aep];exact Q1 (ops:=r::c.args.toList) h
    obtain⟨γ1,s1,s2,s3⟩:=kR h A p;obtain⟨f,u,e1,e2,e3⟩:=E.inv name cn hcn γ1.I w _ _ x y (λb o hi=>s1.ok.vQ b o hi) s1.ok.My s3 hy;refine MT ?_ ⟨e2,e3.mono λe w' hw=>?_⟩
    .rw[<-e1];unfold execOp;simp only[C,resolve,g];exact congrArg (λz:Sem Next=>z.run P w) (ab6 _ _ _)
    .obtain⟨v,I',h1,h2,h3,h4,h5,h6⟩:=hw;refine⟨v,h1,?_⟩;obtain⟨m1,m2⟩:=s1.ok.far (I':=I') h2 h3 h4 h5;refine D ⟨I',γ1.loc⟩ _ w' (s1.bu m2 m1 H<|h6.rep λ_ _ hi=>hi) ?_;cases o.dst<;>exact s2.trans m2
   .exact absurd j cp
  .exact absurd j cp
def Vy{I tid u}:∀{t a f},Den P t tid->Vf t u=aa ⟨a,f⟩ ->
  P.concrete u=true/\∀y c,bL w I a y c->bL w I t (f y) [.iface u<|df a c]:=by
 intro t;induction t with|alt n a r l e =>(intro b f i h;unfold Vf at h;obtain⟨k,m⟩:=i.rest;cases hn:Nat.beq n u with|true =>(rw[hn] at h;obtain rfl:=gP hn;cases h;exact⟨m,λy c j=>⟨k.aeS i,c,rfl,j⟩⟩)|false =>rw[hn] at h;split at h;{rename_i s g o;cases h;obtain⟨p,q⟩:=e k o;exact⟨p,λy c j=>q y c j⟩};cases h)|_=>intro b f i h;cases h
def ahS{tid u t a f}(c:Den P t tid)(h:Vf t u=aa ⟨a,f⟩):t.isAgg=false:=by cases t with|alt n b r=>simp only[Den,gy,gO] at c;exact(Ty.Mz c.2).2|_=>cases h
def K0(m:ga P cx){ty u x}(h:dG B N γ σ a w)(n:∀k,d=aa k->k<N)(c:(uD cx d ty u (dd σ x) σ).run=aa aV) :
  py P B N γ σ a w d (Instr.makeInterface u<|a.eval x) aV:=by
 unfold uD at c;split at c
 .rename_i t o;have e:=m.T _ _ o;split at c
  .rename_i b f j;split at c
   .rename_i y bO p;obtain rfl:=aI c;obtain⟨g,q,r,l,s,v⟩:=oL h (h.dd x) p;obtain⟨z,A⟩:=Vy e j;have i:a.eval x=df b l:=by simpa using v
    have C:=ahS e j;refine⟨.iface u _,w,g,run_makeInterface w u _ z,q.ya n ⟨_,A y l s,?_⟩,?_⟩
    .rw[i];unfold df
     grind
    .cases d<;>exact r
   .exact absurd c cp
  .exact absurd c cp
 .exact absurd c cp
def Vz{o s K Q}(c:execOp a.eval o=(do s;pure .skip))(b:o.dst=af)
  (h:∃w' bF,s.run P w=.ok () w'/\dG B N bF aV a w'/\Ext B γ σ.mem w bF aV.mem w') (e:EX B N γ σ a w o.dst aV K):o.wp P a w K Q:=by
 obtain⟨w',bF,f,g,i⟩:=h;unfold Oper.wp;rw[c];simp only[Sem.run_bind,f];exact e bF _ w' (by rw[b];exact g) i
def zh{d k}(h:ownRow bf d=aa k):d=aa k:=by unfold ownRow at h;grind
def FE{d k}(h:Vd bf d=aa k):d=aa k/\dm bf k=true:=by unfold Vd at h;grind
def MX(A:ga P cx)(O:ql P B.G cx)(R:zf P B.G inl){o:Oper}(h:dG B N γ σ a w)(r:∀k,o.dst=aa k->k<N)
  (g:(sO cx nb bf inl o σ).run=aa aV) {K Q} (C:EX B N γ σ a w o.dst aV K):o.wp P a w K Q:=by
 unfold sO at g;split at g
 case h_1 x j=>exact ca (by simp only[execOp,j];rfl) (Au A h r g) C
 case h_2 x j=>exact ca (by simp only[execOp,j];rfl) (Au A h r g) C
 case h_3 c x y j=>exact ca (by simp only[execOp,j];simp) (MF h r g) C
 case h_4 elem j =>
  split at g
  .rename_i k t D F;rw[D] at r;refine ca (s:=Instr.alloc elem true (.tuple #[])) (by simp only[execOp,j]) ?_ C;rw[D];exact KU A h (r k rfl) F g
  .rename_i k D F;rw[D] at r;refine ca (s:=Instr.alloc elem true (.tuple #[])) (by simp only[execOp,j]) ?_ C;rw[D];split at g
   .rename_i fs X;exact KT A h (r k rfl) X g
   .obtain⟨Y,m⟩:=aA g;exact KR A h (r k rfl) Y m
  .exact absurd g cp
 case h_5 elem x j =>
  unfold Gv at g;split at g
  .exact absurd g cp
  .exact absurd g cp
  .rename_i k D Y h2;rw[D] at r;refine ca (s:=Instr.box elem (a.eval x)) (by simp only[execOp,j]) ?_ C;rw[D];split at g
   .exact PB h (r k rfl) Y h2 g
   .exact ab2 h (r k rfl) Y h2 g
  .exact absurd g cp
 case h_6 t parts j =>
  refine ca (s:=Instr.build t (parts.map λ(i,x)=>(i,a.eval x))) (by simp only[execOp,j]) ?_ C;split at g
  .rename_i u v F;split at g
   .rename_i x bO E;obtain rfl:=aI g;exact FA A h r F E
   .exact absurd g cp
  .rename_i n e F;split at g
   .rename_i l bO E;obtain rfl:=aI g;exact GQ A h r F E
   .exact absurd g cp
  .split at g
   .rename_i fs X;split at g
    .rename_i z0 S;split at g
     .rename_i p q E;obtain rfl:=aI g;exact KW A h r X S E
     .rename_i u E;obtain rfl:=aI g;exact Iw A h r X S E
     .exact absurd g cp
    .exact absurd g cp
   .exact absurd g cp
  .exact absurd g cp
 case h_7 t n parts j =>
  refine ca (s:=Instr.buildSlice t n (parts.map λ(i,x)=>(i,a.eval x))) (by simp only[execOp,j]) ?_ C;split at g
  .rename_i e F;split at g
   .rename_i k T I;obtain⟨D,_⟩:=FE T;have hp:parts=#[]:=by simpa using I
    rw[D,hp];rw[D] at r;rw[Array.map_empty];exact Iy A h (r k rfl) F g
   .obtain⟨hn,m⟩:=aA g;split at m
    .rename_i l bO E;split at m
     .rename_i k D;have Z:=zh D;rw[Z] at r⊢;exact MM A h (r k rfl) F hn E m
     .obtain rfl:=aI m;exact Ix A h r F hn E
    .exact absurd m cp
  .exact PD A h r g
  .exact absurd g cp
 case h_8 t x j=>exact ca (by simp only[execOp,j]) (MI A h r g) C
 case h_9 t x y j =>
  split at g
  .rename_i D;exact Vz (by simp only[execOp,j]) D (KQ A h g) C
  .exact absurd g cp
 case h_10 x j =>
  have hv:=h.dd x;have fin:∀{v y},a.eval x=y->execOp a.eval o=(do pure<|.value (<-pure y))->cQ γ σ.mem w v .val [y]->aV=σ.bu o.dst v->o.wp P a w K Q:=by
   intro v y he hs hr0 hσ;subst hσ;exact ca hs (bM h r rfl hr0) C
  split at g
  .rename_i b aR p J;rw[J] at hv;obtain⟨hl,m⟩:=aA g;obtain⟨bx,E,U⟩:=lL hl;obtain⟨blk,cap,H,M⟩:=bp E U hv.2;have M:=wD M;rw[M] at hv;exact fin M (by simp only[execOp,j,M];rfl) hv (aI m).symm
  .rename_i t y J;rw[J] at hv;obtain⟨blk,off,cs,H,M,g3⟩:=id hv;have H:=wD H;rw[H] at hv;exact fin H (by simp only[execOp,j,H];rfl) hv (aI g).symm
  .rename_i f c J;rw[J] at hv;obtain⟨arr,H,M,g3⟩:=id hv;have H:=wD H;rw[H] at hv;exact fin H (by simp only[execOp,j,H];rfl) hv (aI g).symm
  .exact absurd g cp
 case h_11 op xt x y pos j =>
  obtain⟨v,E,m⟩:=bind_some g;obtain rfl:=aI m;obtain⟨z,V,W⟩:=Yn A (h.dd x) (h.dd y) E;refine ca (s:=iw op xt x y _ _) (by simp only[execOp,j,iw]) (bM h r V W) C
 case h_12 op ty x j =>
  obtain⟨v,E,m⟩:=bind_some g;obtain rfl:=aI m;obtain⟨z,V,W⟩:=aeW (h.dd x) E;exact ca (by simp only[execOp,j]) (bM h r V W) C
 case h_13 src dst x j=>exact ca (by simp only[execOp,j]) (GS A h r g) C
 case h_14 f first abT j =>
  split at g
  .rename_i cs L hcs;obtain rfl:=aI g;refine ca ?_ (MK h r hcs) C;have:first=#[]:=by simpa using L
   simp only[execOp,j,this,show Array.map a.eval #[]=#[] from aT]
  .exact absurd g cp
 case h_15 t x lo hi j=>exact ca (by simp only[execOp,j];rfl) (KP A h r g) C
 case h_16 s x k j=>exact ca (by simp only[execOp,j]) (EF A h r g) C
 case h_17 xt x k j =>
  have hv:=h.dd x;split at g
  .rename_i u y J;rw[J] at hv;obtain⟨F,m⟩:=aA g;split at m
   .rename_i off v hf;obtain rfl:=aI m;obtain⟨z,V,W⟩:=Vp A (j7 F) hv hf;exact ca (by simp only[execOp,j]) (bM h r V W) C
   .exact absurd m cp
  .exact absurd g cp
 case h_18 t x i j =>
  split at g
  .rename_i ki n hi;have hv:=h.dd i;rw[hi] at hv;obtain⟨ei,_⟩:=wE hv;refine ca (s:=Instr.indexAt t (a.eval x) (a.eval i)) (by simp only[execOp,j]) ?_ C;rw[ei];cases hm:dm bf 5000000 with
   | true=>rw[hm] at g;exact KN A h r g
   | false=>rw[hm] at g;exact wT A h r g
  .exact absurd g cp
 case h_19 t x i j =>
  split at g
  .rename_i ki n hi;have hv:=h.dd i;rw[hi] at hv;obtain⟨ei,_⟩:=wE hv;refine ca (s:=Instr.index t (a.eval x) (a.eval i)) (by simp only[execOp,j]) ?_ C;rw[ei];exact KO A h r g
  .exact absurd g cp
 case h_20 t l c j =>
  split at g
  .rename_i k e kl ln kc cn D F hl hcc;rw[D] at r;obtain⟨Vw,m⟩:=cX g;obtain⟨hf,hr3⟩:=cX m;refine ca (s:=Instr.makeSlice t (a.eval l) (a.eval c)) (by simp only[execOp,j]) ?_ C;rw[D];exact KX A h (r k rfl) F hl hcc Vw hf hr3
  .exact absurd g cp
 case h_21 t k j =>
  split at g
  .rename_i vs J;split at g
   .rename_i v hn;obtain rfl:=aI g;exact ca (by simp only[execOp,j]) (PC h r J hn) C
   .exact absurd g cp
  .exact absurd g cp
 case h_22 c j=>exact Yz A O R j h r g C
 case h_23 u x j=>exact ca (by simp only[execOp,j]) (K0 A h r g) C
 case h_24=>exact absurd g cp
end
end Go.Ge
namespace Go.Ge
open RowKit
def bY(f c:St):Prop:=∀b e,f.mem b=aa e->e.lk=true->c.mem b=aa e
def bY.refl σ:bY σ σ:=λ_ _ h _=>h
def bY.trans{σ aV c}(h:bY σ aV)(k:bY aV c):bY σ c:=λb bx f e=>k b bx (h b bx f e) e
def bY.put σ d v:bY σ (σ.put d v):=λ_ _ h _=>h
def bY.bu σ d v:bY σ (σ.bu d v):=by cases d<;>exact λ_ _ h _=>h
def bY.ajZ{σ aV}(h:aV.mem=σ.mem):bY σ aV:=λb e c _=>by rw[h];exact c
def kt{σ b j}(h:∀f,σ.mem b=aa f->f.lk=false):bY σ (σ.cD b j):=λc cx g i=>by
 by_cases e:c=b
 {subst e;rw[h cx g] at i;cases i};rw[yc,aZ _ e];exact g
def oN{β σ b val tid buf}{k:Nat->St->Tree β}{y}(h:(σ.bB b val tid buf k).run=aa y) :
  ∃aR,bY σ (σ.cD b { val,tid,buf,ro:=false,lk:=false,aR })/\(k aR<|σ.cD b { val,tid,buf,ro:=false,lk:=false,aR }).run=aa y:=by
 unfold St.bB at h;split at h
 .rename_i i e;cases f:i.lk with|true=>rw[f] at h;cases h|false =>rw[f] at h;exact⟨i.aR+1,kt (λg c=>by rw[e] at c;obtain rfl:=aI c;exact f),h⟩
 .rename_i e;exact⟨0,kt (λg c=>by rw[e] at c;cases c),h⟩
def J3{σ aV b}(h:freeze σ b=aa aV):bY σ aV:=by
 unfold freeze at h;split at h
 {rename_i f i;cases c:f.ro with|true=>simp only[c,xZ,Mg] at h;rw[<-h];apply bY.refl|false =>cases e:f.lk with|true=>simp[c,e] at h|false =>simp only[c,e,Cp,Mg] at h;rw[<-h];exact kt λj g=>by rw[i] at g;obtain rfl:=aI g;exact e};cases h
def SZ:∀{v σ aV},jI σ v=aa aV->bY σ aV:=by intro v;induction v with|mix p q c e =>(intro σ aV h;obtain⟨bO,f,g⟩:=zd h;exact(c f).trans (e g))|whole b aR=>intro σ aV h;exact J3 h|part b aR lo n=>intro σ aV h;exact J3 h|_=>intro σ aV h;obtain rfl:=aI h;apply bY.refl
def sj{t x v σ aV}(h:CA σ t v=aa (x,aV)):bY σ aV:=by
 unfold CA at h;split at h
 {split at h;{obtain⟨_,rfl⟩:=eX (aI h);apply bY.refl};cases h};split at h;{rename_i y bO c b;obtain⟨_,rfl⟩:=eX (aI h);exact SZ b};cases h
def ku:∀{A x vs σ aV},gT σ A vs=aa (x,aV)->bY σ aV:=by intro A;induction A with|pair t r e c =>(intro x vs σ aV b;cases vs with|nil=>cases b|cons v vs =>simp only[gT] at b;split at b;{rename_i p bO f;split at b;{rename_i q cP g;obtain⟨_,rfl⟩:=eX (aI b);exact(sj f).trans (c g)};cases b};cases b)|unit =>(intro x vs σ aV b;cases vs with|nil=>(obtain⟨_,rfl⟩:=eX (aI b);apply bY.refl)|cons v vs=>cases b)|_=>intro x vs σ aV b;cases vs<;>cases b
def K1{t}:∀{parts x b σ aV},iY σ t x parts=aa (b,aV)->bY σ aV:=by intro parts;induction parts with|nil=>(intro x b σ aV h;obtain⟨_,rfl⟩:=eX (aI h);apply bY.refl)|cons p r c =>intro x b σ aV h;simp only[iY] at h;split at h;{split at h;{rename_i e;split at h;{exact(sj e).trans (c h)};cases h};cases h};cases h
def PJ{bf t parts v σ aV}(h:qy bf σ t parts=aa (v,aV)):bY σ aV:=by unfold qy at h;cases b:dm bf 8600000&&parts.any (λp=>sN (dd σ p.2)) with|true=>rw[b] at h;simp only[xZ] at h;split at h<;>cases h;exact bY.refl _|false=>rw[b] at h;simp only[Cp] at h;split at h<;>cases h;exact K1 (by assumption)
def yi{e}:∀{parts l c σ aV},fT σ e l parts=aa (c,aV)->bY σ aV:=by intro parts;induction parts with|nil=>(intro x i σ aV h;obtain⟨_,rfl⟩:=eX (aI h);apply bY.refl)|cons p r f =>obtain⟨k,o⟩:=p;intro l c σ aV h;simp only[fT] at h;split at h;{rename_i g;cases b:Nat.blt k l.length with|false=>rw[b] at h;cases h|true=>rw[b] at h;exact(sj g).trans (f h)};cases h
def GY{b aR p fit u σ aV}(e:(storeAt b aR p fit u σ).run=aa aV):bY σ aV:=by
 unfold storeAt at e;split at e;case h_2=>exact absurd e cp
 rename_i q m;obtain⟨j,f⟩:=aA e;simp at j;obtain⟨n,hn,g⟩:=bind_some f;obtain⟨k,h⟩:=aA g;obtain⟨c,hs,i⟩:=bind_some h;obtain rfl:=aI i;exact kt λo l=>by rw[m] at l;obtain rfl:=aI l;exact j.1.2
def S0{b aR p n u σ aV}(e:(u9 b aR p n u σ).run=aa aV):bY σ aV:=by
 unfold u9 at e;split at e;case h_2=>exact absurd e cp
 rename_i t o;obtain⟨k,f⟩:=aA e;simp at k;obtain⟨q,hn,g⟩:=bind_some f;obtain⟨l,h⟩:=aA g;obtain⟨c,hs,i⟩:=bind_some h;obtain⟨r,j⟩:=aA i;obtain rfl:=aI j;exact kt λs m=>by rw[o] at m;obtain rfl:=aI m;exact k.1.1.1.2
def MY{cx bf ty x y σ aV}(e:(nH cx bf ty x y σ).run=aa aV):bY σ aV:=by
 unfold nH at e;split at e;case h_2=>exact absurd e cp
 split at e;case h_2=>exact absurd e cp
 obtain⟨g,f⟩:=aA e;obtain⟨i,hn,c⟩:=bind_some f;split at c
 .rename_i u _;obtain⟨j,b⟩:=aA c;cases h:dm bf 8000000&&aeK u y with|true=>rw[h] at b;exact S0 b|false=>
  rw[h] at b;split at b;{rename_i k;exact(sj k).trans (GY b)};exact absurd b cp
 obtain⟨j,b⟩:=aA c;exact GY b
def B2{cx nb d ty s x σ aV}(b:(iZ cx nb d ty s x σ).run=aa aV):bY σ aV:=by
 unfold iZ at b;split at b;case h_2=>exact absurd b cp
 split at b;case h_2=>exact absurd b cp
 split at b
 .obtain⟨h,c⟩:=cX b;obtain⟨i,j,k⟩:=oN c;obtain rfl:=aI k;exact j.trans (bY.put _ _ _)
 .split at b;case h_2=>exact absurd b cp
  rename_i o l m p;obtain⟨e,f⟩:=xe b;obtain⟨h,c⟩:=cX f;obtain rfl:=aI c;exact(kt λn g=>by rw[m] at g;obtain rfl:=aI g;exact((Sx.1 e).1)).trans (bY.put _ _ _)
 exact absurd b cp
def zT{e m b aR q chk lo σ aV}(i:(lK e m b aR q chk lo σ).run=aa aV):bY σ aV:=by
 unfold lK at i;split at i;case h_2=>exact absurd i cp
 rename_i r n;obtain⟨k,f⟩:=aA i;simp at k;have fin:∀{vS},bY σ (σ.cD b vS):=λ{vS}=>kt λo l=>by rw[n] at l;obtain rfl:=aI l;exact k.1.2
 split at f
 {split at f;{split at f;{obtain rfl:=aI f;exact fin};exact absurd f cp};exact absurd f cp};obtain⟨p,_,g⟩:=bind_some f;split at g;{obtain⟨_,h⟩:=aA g;split at h;{obtain⟨c,_,j⟩:=bind_some h;obtain rfl:=aI j;exact fin};exact absurd h cp};exact absurd g cp
def J4{e g t σ r}(b:(Ik e g t σ).run=aa r):bY σ r.2:=by
 unfold Ik at b;split at b
 .obtain⟨bO,c,f⟩:=bind_some b;obtain rfl:=aI f;exact zT c
 .split at b;{obtain⟨bO,c,f⟩:=bind_some b;obtain rfl:=aI f;exact zT c};exact absurd b cp
 {obtain⟨bO,c,f⟩:=bind_some b;obtain rfl:=aI f;exact zT c};exact absurd b cp
def YA{σ}:∀{ps A U vs x u j},sM σ ps A U vs=aa (x,u,j)->∀b∈j,∀f,σ.mem b=aa f->f.lk=false:=by
 intro ps;induction ps with
 | nil =>(intro A U vs x u j h;cases A<;>first|(cases h;done)|skip);(cases U<;>first|(cases h;done)|skip);cases vs with|cons v r=>cases h|nil =>obtain⟨_,q⟩:=eX (aI h);obtain⟨_,rfl⟩:=eX q;intro b k;cases k
 | cons p ps t =>
   intro A U vs x u j h;cases p with
   | false =>(cases A<;>first|(cases h;done)|skip);cases vs with|nil=>cases h|cons v r =>simp only[sM] at h;split at h;{rename_i l;obtain⟨_,q⟩:=eX (aI h);obtain⟨_,rfl⟩:=eX q;exact t l};cases h
   | true =>
     cases U<;>first|(cases h;done)|skip
     cases vs with
     | nil=>cases h
     | cons y r =>
     cases y<;>first|(cases h;done)|skip
     rename_i b m n;cases n with
     | cons _ _=>cases h
     | nil =>
     simp only[sM] at h;split at h
     case h_2=>cases h
     rename_i f k;cases e:(Nat.beq f.aR m&&!f.buf&&!f.lk&&!f.ro&&Nat.beq f.tid 0) with
     | false=>rw[e] at h;cases h
     | true =>
       rw[e] at h;simp at e;split at h
       case h_2=>cases h
       rename_i z C D o E l;cases i:dm o b with
       | true=>rw[i] at h;cases h
       | false =>
         rw[i] at h;obtain⟨_,q⟩:=eX (aI h);obtain⟨_,rfl⟩:=eX q;intro c s cx g;rcases fA.1 s with rfl|s
         .rw[k] at g;obtain rfl:=aI g;exact e.1.1.2
         .exact t l c s cx g
def GZ{ps A U vs x u y c σ}(h:sM σ ps A U vs=aa (x,u,c)):bY σ (va U y c σ):=λb f e g=>by rw[si];cases hv:oH U y c b with|none=>exact e|some v =>have:=YA h b (MR hv) f e;rw[g] at this;cases this
def S1{s d f σ aV}(b:(DL s d f σ).run=aa aV):bY σ aV:=by
 unfold DL at b;split at b
 .split at b;case h_2=>cases b
  split at b;case h_2=>cases b
  obtain⟨_,c⟩:=aA b;obtain rfl:=aI c;apply bY.bu
 .split at b;case h_2=>cases b
  split at b;case h_2=>cases b
  obtain⟨_,c⟩:=aA b;split at c;case h_2=>cases c
  rename_i k h;obtain⟨g,e⟩:=aA c;simp at g;split at e;case h_2=>cases e
  obtain rfl:=aI e;exact(kt λj i=>by rw[h] at i;obtain rfl:=aI i;exact g.1.1.2).trans (bY.bu _ _ _)
 cases b
def YB{b aR}:∀{g j σ r},(mkObj b aR g j σ).run=aa r->bY σ r.2:=by intro g;induction g with|nil=>(intro j σ r c;obtain rfl:=aI c;apply bY.refl)|cons f q l =>intro j σ r c;cases f with|buf e m =>(obtain⟨_,h⟩:=aA c;obtain⟨aR,n,o⟩:=oN h;obtain⟨y,i,k⟩:=bind_some o;obtain rfl:=aI k;have:=l i;exact n.trans this)|_ =>obtain⟨y,i,k⟩:=bind_some c;obtain rfl:=aI k;have:=l i;exact this
def S2{b}:∀{c j v σ r},(pr b c j v σ).run=aa r->bY σ r.2:=by intro c;induction c with|nil =>(intro j v σ r g;obtain rfl:=J0 g;apply bY.refl)|cons f q k =>intro j v σ r g;rcases GP g with ⟨x,u,y,rfl,h,rfl⟩|⟨e,l,u,rfl,s,i⟩;{have:=k h;exact this};obtain⟨m,n,o⟩:=oN i;obtain⟨y,h,p⟩:=bind_some o;obtain rfl:=aI p;have:=k h;exact n.trans this
def YC{c:Gt}{d f σ aV}(b:(Ve c d f σ).run=aa aV):bY σ aV:=by
 unfold Ve at b;split at b;case h_2=>cases b
 split at b;case h_2=>cases b
 rename_i x bO j;split at b;case h_2=>cases b
 split at b;case h_2=>cases b
 obtain⟨_,e⟩:=aA b;split at e;case h_2=>cases e
 rename_i r q u l k g;obtain⟨_,h⟩:=xe e;obtain⟨y,m,i⟩:=ck h;obtain rfl:=aI i;exact(ku j).trans ((GZ g).trans<|bY.bu _ _ _)
def VA{cx inl}(i:∀f h σ v aV,(inl f h σ).run=aa (v,aV)->bY σ aV){d f h σ aV}
  (b:(zO cx inl d f h σ).run=aa aV):bY σ aV:=by
 unfold zO at b;split at b
 .split at b
  {split at b;{obtain⟨y,l,g⟩:=ck b;obtain rfl:=aI g;apply bY.bu};exact absurd b cp};split at b;{rename_i j;obtain⟨y,l,g⟩:=ck b;obtain rfl:=aI g;exact(ku j).trans (bY.bu _ _ _)};exact absurd b cp
 .have e:((inl f h σ).bind λr=>.ret (r.2.bu d r.1):Tree St).run=aa aV->bY σ aV:=by
   intro b;obtain⟨r,k,g⟩:=bind_some b;obtain rfl:=aI g;exact(i _ _ _ _ _ k).trans (bY.bu _ _ _)
  split at b
  .exact S1 b
  split at b
  .rename_i c m;split at b
   .rename_i x u n j;obtain⟨y,l,g⟩:=ck b;obtain rfl:=aI g;exact(GZ j).trans (bY.bu _ _ _)
   .exact e b
  .split at b
   .exact YC b
   .exact e b
def MZ{nb e d c σ aV}(b:(nL nb e d c σ).run=aa aV):bY σ aV:=by
 unfold nL at b;split at b;case h_2=>cases b
 split at b;case h_2=>cases b
 rename_i f;obtain⟨_,b⟩:=aA b;obtain⟨_,b⟩:=cX b;obtain⟨g,h,i⟩:=oN b;obtain rfl:=aI i;exact((sj f).trans h).trans (bY.bu _ (aa _) _)
def S3{e A res spec d f σ aV}(c:(vb e A res spec d f σ).run=aa aV):bY σ aV:=by
 unfold vb at c;split at c;case h_2=>cases c
 split at c;case h_2=>cases c
 rename_i h;split at c;case h_2=>cases c
 rename_i b q u l i;obtain⟨v,_,c⟩:=ck c;obtain⟨r,m,n,j,s,o,_⟩:=vW i;have key:∀g,bY _ (St.cD _ b g):=λg=>kt λt p=>by rw[r] at p;obtain rfl:=aI p;exact j
 cases res with|true =>(cases d with|none=>cases c|some k=>obtain rfl:=aI c;exact((ku h).trans<|key _).trans (bY.bu _ (aa _) _))|false =>cases d with|none=>(obtain⟨_,c⟩:=aA c;obtain rfl:=aI c;exact((ku h).trans<|key _).trans (bY.bu _ af _))|some k=>obtain⟨_,c⟩:=aA c;obtain rfl:=aI c;exact((ku h).trans<|key _).trans (bY.bu _ _ _)
def S4{cx nb bf inl}(c:∀f b σ v aV,(inl f b σ).run=aa (v,aV)->bY σ aV){d f b σ aV}
  (e:(xa cx nb bf inl d f b σ).run=aa aV):bY σ aV:=by
 unfold xa at e;split at e
 .exact MZ e
 .exact S3 e
 .exact VA c e
end Go.Ge
namespace Go.Ge
open RowKit
def bh(b:St)(T:Tree St):Prop:=∀y,T.run=aa y->bY b y
def bh.fail{σ}:bh σ .fail:=λy h=>by cases h
def bh.ret{σ aV}(h:bY σ aV):bh σ (.ret aV):=λy b=>by obtain rfl:=aI b;exact h
def bh.bif{σ c t}(h:bh σ t):bh σ (bif c then t else .fail):=λy b=>h y (aA b).2
def bh.jU{σ c t}(h:bh σ t):bh σ (.jU c t):=λy b=>h y (cX b).2
def bh.look{σ T}{o:Option T}{k}(h:∀x,bh σ (k x)):bh σ (.look o k):=λy b=>by obtain⟨x,_,c⟩:=ck b;exact h x y c
def bh.node{σ c t e}(h:bh σ t)(k:bh σ e):bh σ (.node c t e):=λy b=>by have:=gV b;cases c with|true=>exact h y this|false=>exact k y this
def bh.bind{σ α}{t:Tree α}{f}(h:∀x,t.run=aa x->bh σ (f x)):bh σ (t.bind f):=λy b=>by obtain⟨x,c,e⟩:=bind_some b;exact h x c y e
def bh.bB{σ b val tid buf d}{v:Nat->cw}:bh σ (σ.bB b val tid buf λc σ=>.ret (σ.put d<|v c)):=λy e=>by obtain⟨c,f,g⟩:=oN e;obtain rfl:=aI g;exact f.trans (bY.put _ _ _)
def Q4{p:Prop}(h:p:=by repeat' (first|exact bh.fail|exact bh.ret (bY.bu _ _ _)|exact bh.ret (bY.put _ _ _)|exact bh.bB|refine bh.bif ?_|refine bh.jU ?_|refine bh.look λ_=>?_|refine bh.node ?_ ?_|refine bh.bind λ_ _=>?_|split)):p:=h
section
variable {cx:Ctx} {nb:Nat} {bf:List Nat} {inl:Nat->List cw->St->Tree (cw×St)} {d:Option Nat} {σ:St}
def B3{ty v}:bh σ (kP cx nb bf d ty v σ):=by
 unfold kP;split
 .exact Q4
 {split;{rename_i k e _;cases dm bf k with|true=>exact bh.bB|false=>exact bh.ret (bY.put _ _ _)};exact bh.ret (bY.bu _ _ _)};exact bh.ret (bY.bu _ _ _)
def PK{c a b}:bh σ (qx d c a b σ):=by unfold qx;exact Q4
def PL{ty a}:bh σ (na cx d ty a σ):=by unfold na;exact Q4
def M0{ty x lo hi}:bh σ (nI cx d ty x lo hi σ):=by unfold nI;exact Q4
def YD{b aR i}:∀{m k},bh σ (Mr d b aR σ i m k):=by intro m;induction m with|zero=>exact bh.fail|succ m c=>exact bh.node (bh.ret<|bY.bu _ _ _) c
def yj{ty x i}:bh σ (eO cx d ty x i σ):=by
 unfold eO;split
 case h_6=>split
           .exact bh.bif YD
           .exact bh.fail
 all_goals exact Q4
def M1{ty x i}:bh σ (nJ cx d ty x i σ):=by
 unfold nJ;split
 {refine bh.bif ?_;split;{exact bh.bif (bh.ret<|bY.bu _ _ _)};exact bh.fail};exact yj
def M3{ty x i}:bh σ (nK cx d ty x i σ):=by unfold nK;exact Q4
def FF{s x k}:bh σ (fu cx d s x k σ):=by unfold fu;exact Q4
def IC{s t x}:bh σ (iK cx nb d s t x σ):=by unfold iK;exact Q4
def EY{ty t x}:bh σ (Al cx d ty t x σ):=by
 unfold Al;split
 {split;{exact bh.fail};exact bh.bind λr b=>bh.ret ((J4 b).trans<|bY.bu _ _ _)};exact bh.fail
def M4{ty t}:bh σ (Am cx ty t σ):=by
 unfold Am;split
 {exact bh.bind λr b=>bh.ret (J4 b)};exact bh.fail
def K2{name args}:bh σ (uE cx d name args σ):=by
 intro aV b;unfold uE at b;split at b
 {split at b;{rename_i e;obtain⟨y,f,c⟩:=ck b;obtain rfl:=aI c;exact(ku e).trans (bY.bu _ _ _)};exact absurd b cp};exact absurd b cp
def M5{ty u x}:bh σ (uD cx d ty u x σ):=by
 intro aV b;unfold uD at b;split at b
 {split at b;{split at b;{rename_i c;obtain rfl:=aI b;exact(sj c).trans (bY.bu _ _ _)};exact absurd b cp};exact absurd b cp};exact absurd b cp
def PM(b:∀f e σ v aV,(inl f e σ).run=aa (v,aV)->bY σ aV){ty c}:bh σ (x7 cx nb bf inl d ty c σ):=by
 unfold x7;split
 .split;{exact Q4};{split;{exact λy g=>B2 g};{exact λy g=>B2 g};exact bh.fail};{split;{exact EY};{exact EY};exact bh.fail};{split;{exact M4};exact bh.fail};{exact Q4};{exact Q4};exact bh.fail
 {split;{exact bh.bif λy g=>S4 b g};exact bh.fail};exact K2
def CO(e:∀f g σ v aV,(inl f g σ).run=aa (v,aV)->bY σ aV){o}:bh σ (sO cx nb bf inl o σ):=by
 unfold sO;split;case h_1=>exact B3
 case h_2=>exact B3
 case h_3=>exact PK
 case h_4 =>split;{unfold xO;split;{refine bh.bif λy b=>?_;obtain⟨i,j,k⟩:=oN b;exact j.trans (bh.bB y k)};exact bh.bB};{split;{refine bh.bind λr h=>?_;exact λy b=>(YB h).trans (bh.bB y b)};exact bh.bif bh.bB};exact bh.fail
 case h_5 =>unfold Gv;split;{exact bh.fail};{exact bh.fail};{split;{refine bh.bind λr h=>?_;exact λy b=>(S2 h).trans (bh.bB y b)};exact bh.bB};exact bh.fail
 case h_6 =>split;{split;{rename_i c;exact bh.ret ((PJ c).trans<|bY.bu _ _ _)};exact bh.fail};{split;{rename_i c;exact bh.ret ((yi c).trans<|bY.bu _ _ _)};exact bh.fail};{exact Q4};exact bh.fail
 case h_7 =>split;{split;{exact bh.bB};refine bh.bif ?_;split;{rename_i c;split;{exact λy b=>(yi c).trans (bh.bB _ b)};exact bh.ret ((yi c).trans<|bY.bu _ _ _)};exact bh.fail};{unfold DM;exact Q4};exact bh.fail
 case h_8=>exact PL
 case h_9=>split
           .exact λy b=>MY b
           .exact bh.fail
 case h_10=>exact Q4
 case h_11=>exact Q4
 case h_12=>exact Q4
 case h_13=>exact IC
 case h_14=>exact Q4
 case h_15=>exact M0
 case h_16=>exact FF
 case h_17=>exact Q4
 case h_18=>split
            .cases dm bf 5000000 with
             | true=>exact M1
             | false=>exact yj
            .exact bh.fail
 case h_19=>split
            .exact M3
            .exact bh.fail
 case h_20=>exact Q4
 case h_21=>exact Q4
 case h_22=>exact PM e
 case h_23=>exact M5
 case h_24=>exact bh.fail
end
end Go.Ge
